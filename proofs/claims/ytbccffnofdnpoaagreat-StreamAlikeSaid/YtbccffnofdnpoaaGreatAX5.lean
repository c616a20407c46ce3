/- P. Its conditions: none. -/
import Derived.Test.YtbccffnofdnpoaaGreatAX4
open Bool (and_eq_true)
open Nat (beq_eq add_assoc)
set_option linter.all false
namespace Go.X
open Go.V Go.RowKit
section
variable {E:Env}{A:A5}{s:St E.D}{ρ:Nat->Value}{S:E0}{a:Act}{as:List Act}{w:World}{n:Nat}{H:M0}
def S4 {D:Nat->Type}(r:QR D)(P:V D->Prop):Prop:=match r with
 |.bad=>True
 |.ok v=>P v
 |.chk b v=>b=true->P v
def S4.mono {D:Nat->Type}{r:QR D}{P c:V D->Prop}(h:S4 r P)(hp:∀v,P v->c v):S4 r c:=by
 cases r with
 |bad=>trivial
 |ok v=>exact hp v h
 |chk b v=>exact fun d=>hp v (h d)
def VS.d {t:U}{x:Den E.D t}{u:Value}(e:c9 t=false)(h:VS E ρ n H S (.d t x) u):(L0 E t).R H S [u] x:=by
 obtain⟨c,h1,b⟩:=h;unfold VC at h1;have:vl (D:=E.D) (.d t x) c=c.headD Go.undef:=by simp_all[vl,T4,O4]
 rw[this]at b;have hl:c.length=1:=by
  have:=(L0 E t).len h1;cases t<;>simp[c9]at e<;>exact this
 match c,hl with
 |[z],_=>simp_all
theorem VS.of {v:V E.D}{u:Value}(b:T4 v=false)(h:VC E ρ n H S v [u]):VS E ρ n H S v u:=⟨[u],h,by unfold vl;rw[b];rfl⟩
theorem S8 {v:V E.D}{k:IntKind}{x:Int}{u:Value}(h:o6 v=some (k,x))(b:VS E ρ n H S v u):u=.int k x:=by
 cases v<;>simp only[o6]at h<;>try cases h
 ·obtain⟨c,h1,rfl⟩:=b;subst h1;rfl
 ·rename_i t y;cases t<;>simp only[]at h<;>try cases h
  have:=b.d (t:=.int k) rfl
  simp_all[L0,Z1]
theorem O9 {v:V E.D}{x:Bool}{u:Value}(h:M7 v=some x)(b:VS E ρ n H S v u):u=.bool x:=by
 cases v<;>simp only[M7]at h<;>try cases h
 ·obtain⟨c,h1,rfl⟩:=b;subst h1;rfl
 ·rename_i t y;cases t<;>simp only[]at h<;>try cases h
  have:=b.d (t:=.bool) rfl
  simp_all[L0,b0h]
def VS.dI {k:IntKind}{x:Int}:VS E ρ n H S (Go.X.dI k x) (.int k x):=VS.of rfl (by rfl)
def VS.ki {k:IntKind}{x:Int}:VS E ρ n H S (.ki k x) (.int k x):=VS.of rfl (by rfl)
def VS.dB {x:Bool}:VS E ρ n H S (Go.X.dB x) (.bool x):=VS.of rfl (by rfl)
def VS.kb {x:Bool}:VS E ρ n H S (.kb x) (.bool x):=VS.of rfl (by rfl)
def n0A {v:V E.D}{x:Int}{k:IntKind}{m:Int}(h:o6 v=some (k,x))(hl:g0G v=some m):m=x:=by
 cases v<;>simp[g0G,o6]at h hl
 omega
def l6 (E:Env)(s:St E.D)(S:E0)(w:World)(own:Nat->Prop)(w':World):Prop:=(∃b,Y0 w.heap S w'.heap b)/\∀k,own k->k<w.heap.size->w'.heap[k]?=w.heap[k]?
def m0t {E:Env}(s:St E.D)(ρ:Nat->Value)(v:V E.D)(k:Nat):Prop:=e0Q s v=true/\∀q,rdP s v=some q->D1 (hd (ρ q))=some k
def l6.c04 {E:Env}{s:St E.D}{S:E0}{w w':World}{own b:Nat->Prop}(h:l6 E s S w b w')(c:∀k,own k->b k):l6 E s S w own w':=⟨h.1,fun k e=>h.2 k (c k e)⟩
theorem L0f {E:Env}{s:St E.D}{id z q:Nat}{i:Int}{p:List Y6}(h:rdP s (.pe id i z p)=some q):q=id:=by
 grind [rdP]
theorem pbK {E:Env}{s:St E.D}{ρ:Nat->Value}{id off k:Nat}{p:List Y6}(h:E2 (G0 s id)=true/\D1 (hd (ρ id))=some k):m0t s ρ (.pb id off p) k:=by
 refine⟨h.1,fun q hq=>?_⟩
 grind [rdP]
def e0D (E:Env)(s:St E.D)(ρ:Nat->Value)(o:Oper)(k:Nat):Prop:=D9 E s o=true/\∀q,F9 E s o=some q->D1 (hd (ρ q))=some k
theorem L0Z {op:BinOp}{k:IntKind}{x y:Int}{b:Option Int}(hl:∀m,b=some m->m=y)(hs:h0I op=false)(T:Nat):
  S4 (p0q op k x y b:QR E.D) (fun v=>∃u,VS E ρ n H S v u/\∀w':World,(binOp op T (.int k x) (.int k y)).run E.P w'=.ok u w'):=by
 cases op<;>simp only[h0I,Bool.true_eq_false]at hs<;>simp only[p0q,S4]
 all_goals simp[VS.dI,binOp,Op.intArith,Op.intBits,O3,bor,k0z,u0M,VS.dB,Op.intCmp]
 ·cases b with
  |none=>
   simp_all[VS.dI,binOp,Op.intDiv]
  |some m=>
   have:=hl m rfl;by_cases c:m=0
   ·grind
   simp_all[VS.dI,binOp,Op.intDiv]
 ·cases b with
  |none=>
   simp_all[VS.dI,binOp,Op.intDiv]
  |some m=>
   have:=hl m rfl;by_cases c:m=0
   ·grind
   simp_all[VS.dI,binOp,Op.intDiv]
theorem I0x {op:BinOp}{k d:IntKind}{x y:Int}{b:Option Int}(hl:∀m,b=some m->m=y)(hs:h0I op=true)(T:Nat):
  S4 (p0B op k x y b:QR E.D) (fun v=>∃u,VS E ρ n H S v u/\∀w':World,(binOp op T (.int k x) (.int d y)).run E.P w'=.ok u w'):=by
 have key:¬y<0->∃u,VS E ρ n H S (match op with|.shl=>Go.X.dI k (shl k x y)|_=>Go.X.dI k (shr k x y)) u/\∀w':World,(binOp op T (.int k x) (.int d y)).run E.P w'=.ok u w':=by
  intro c;cases op<;>simp only[h0I,Bool.false_eq_true]at hs
  ·exact⟨_,VS.dI,fun w'=>by simp[binOp,Op.shift,c,shl]⟩
  ·exact⟨_,VS.dI,fun w'=>by simp[binOp,Op.shift,c,shr]⟩
 unfold p0B;cases b with
 |none=>
  grind [S4]
 |some m=>
  grind [S4]
theorem w0n {op:BinOp}{pos:Bool}(h:isEq op=some pos):(pos=true/\op=.eql)\/(pos=false/\op=.neq):=by
 grind [isEq]
def VS.W6 {pos r:Bool}:VS E ρ n H S (Go.X.W6 pos r) (.bool (sgn pos r)):=VS.kb
def VS.eqR {pos r:Bool}:VS E ρ n H S (Go.X.eqR pos r) (.bool (sgn pos r)):=VS.dB
def c0L {op:BinOp}{pos:Bool}(h:isEq op=some pos){T:Nat}{c d:Value}{r:Bool}{w':World}(hi:∀k a,c≠.int k a)(hs:∀a,c≠.string a)(e:∀k b,c≠.float k b)(f:∀k a b,c≠.complex k a b)(g:(Op.equal T c d).run E.P w'=.ok r w'):
  (binOp op T c d).run E.P w'=.ok (.bool (sgn pos r)) w':=by
 rcases w0n h with⟨rfl,rfl⟩|⟨rfl,rfl⟩
 ·simp_all[binOp,sgn]
 simp_all[binOp,sgn]
theorem n0h {T:Nat}:(d0K E T=1->E.P.underlying T=some .bool)/\(d0K E T=2->∃e,E.P.underlying T=some (.pointer e))/\(d0K E T=3->∃e,E.P.underlying T=some (.slice e))/\(d0K E T=4->∃e,E.P.underlying T=some (.interface e)):=by
 grind [d0K]
def i0j (T:Nat)(x y:Value):∃d,Op.equal T x y=Op.equalIn (d+1) T x y:=⟨9999,rfl⟩
section
variable {P:Program}{T:Nat}
def o0F {e:Nat}(c:P.underlying T=some (.pointer e))(b:Option Addr)(w:World):(Op.equal T (.pointer none) (.pointer b)).run P w=.ok b.isNone w:=by
 obtain⟨d,h⟩:=i0j T (.pointer none) (.pointer b);rw[h];simp[Op.equalIn,run_underlying c]
def q0M {e:Nat}(c:P.underlying T=some (.pointer e))(b:Addr)(w:World):(Op.equal T (.pointer (some b)) (.pointer none)).run P w=.ok false w:=by
 obtain⟨d,h⟩:=i0j T (.pointer (some b)) (.pointer none);rw[h];simp[Op.equalIn,run_underlying c]
def B0p (b:P.underlying T=some .bool)(x y:Bool)(w:World):(Op.equal T (.bool x) (.bool y)).run P w=.ok (x==y) w:=by
 obtain⟨d,h⟩:=i0j T (.bool x) (.bool y);rw[h];simp[Op.equalIn,run_underlying b]
def E0J {e:Nat}(b:P.underlying T=some (.slice e))(w:World):(Op.equal T (.slice none 0 0) (.slice none 0 0)).run P w=.ok true w:=by
 obtain⟨d,h⟩:=i0j T (.slice none 0 0) (.slice none 0 0);rw[h];simp[Op.equalIn,run_underlying b]
def F0W {e:Array (String×TypeId)}(b:P.underlying T=some (.interface e))(t:Nat)(u:Value)(w:World):(Op.equal T (.iface t u) .nilIface).run P w=.ok false w:=by
 obtain⟨d,h⟩:=i0j T (.iface t u) .nilIface;rw[h];simp[Op.equalIn,run_underlying b]
end
def VS.f0P {u:Value}(h:VS E ρ n H S (.nilp:V E.D) u):u=.pointer none:=by
 obtain⟨c,h1,rfl⟩:=h;subst h1;rfl
def VS.b0m {u:Value}(h:VS E ρ n H S (.nil:V E.D) u):u=.slice none 0 0:=by
 obtain⟨c,h1,rfl⟩:=h;subst h1;rfl
def VS.o0u {u:Value}(h:VS E ρ n H S (.nilif:V E.D) u):u=.nilIface:=by
 obtain⟨c,h1,rfl⟩:=h;subst h1;rfl
def VS.n0s {T:Nat}{v:V E.D}{u:Value}(h:VS E ρ n H S (.ifc T v:V E.D) u):∃b,u=.iface T b/\VS E ρ n H S v b:=by
 obtain⟨c,h1,rfl⟩:=h;obtain⟨c',d,rfl⟩:=h1;exact⟨_,rfl,c',d,rfl⟩
def VS.b04 {id off:Nat}{p:List Y6}{u:Value}(h:VS E ρ n H S (.pb id off p:V E.D) u):id<n/\C8 p/\∃b,hd (ρ id)=.pointer (some ⟨b,0,none⟩)/\u=.pointer (some ⟨b,off+Q5 p,none⟩):=by
 obtain⟨c,h1,rfl⟩:=h;obtain⟨d,f,b,e,rfl⟩:=h1;exact⟨d,f,b,e,rfl⟩
def VS.e0A {id z:Nat}{i:Int}{p:List Y6}{u:Value}(h:VS E ρ n H S (.pe id i z p:V E.D) u):id<n/\C8 p/\∃b o m c,hd (ρ id)=.slice (some ⟨b,o,none⟩) m c/\(0<=i/\i<m)/\u=.pointer (some ⟨b,o+i.toNat*z+Q5 p,none⟩):=by
 obtain⟨c,h1,rfl⟩:=h;obtain⟨d,g,b,o,m,j,e,f,rfl⟩:=h1;exact⟨d,g,b,o,m,j,e,f,rfl⟩
def VS.f0X {t:U}{x:Den E.D t}{u:Value}(h:VS E ρ n H S (.pd t x:V E.D) u):PtR (L0 E t) H S u x:=by
 obtain⟨c,h1,rfl⟩:=h;obtain⟨v,rfl,b⟩:=h1;exact b
def VS.pd {t:U}{x:Den E.D t}{u:Value}(h:PtR (L0 E t) H S u x):VS E ρ n H S (.pd t x:V E.D) u:=VS.of rfl (by unfold VC;simp_all)
def VS.Y8 {id:Nat}{u:Value}(h:VS E ρ n H S (.sl id:V E.D) u):id<n/\u=hd (ρ id):=by
 obtain⟨c,h1,rfl⟩:=h;obtain⟨b,_,rfl⟩:=h1;exact⟨b,rfl⟩
def VS.t0X {l:List (V E.D)}{u:Value}(h:VS E ρ n H S (.tup l:V E.D) u):∃us,u=.tuple us.toArray/\VT E ρ n H S l us:=by
 obtain⟨c,h1,rfl⟩:=h;obtain⟨us,rfl,b⟩:=h1;exact⟨us,rfl,b⟩
theorem VS.g0U {t:U}{xs:List (Den E.D t)}{u:Value}(h:VS E ρ n H S (.d (.list t) xs:V E.D) u):∃A c,u=.slice A xs.length c/\Sl (L0 E t) H S A c xs:=by
 have:=h.d rfl;obtain⟨A,c,h1,b⟩:=this
 grind
def b0z (u:Value):Prop:=(∀l,u≠.agg l)/\u≠.nilIface
def B0y {op:BinOp}{T:Nat}{x y:Operand}{ua ub:Value}(h:b0z ua)(w':World):(eqGuard op T x y ua ub).run E.P w'=.ok () w':=by
 unfold eqGuard;obtain⟨h1,b⟩:=h
 simp_all
def F8 (E:Env)(op:BinOp)(T:Nat)(ua ub:Value):Prop:=∀(x y:Operand) (w':World),(eqGuard op T x y ua ub).run E.P w'=.ok () w'
theorem F8.of {op:BinOp}{T:Nat}{ua ub:Value}(h:b0z ua):F8 E op T ua ub:=fun _ _ w'=>B0y h w'
theorem N07 {T e:Nat}(c:E.P.underlying T=some (.pointer e)){op:BinOp}{pos:Bool}(l:isEq op=some pos){a b:V E.D}{ua ub:Value}(ha:VS E ρ n H S a ua)(f:VS E ρ n H S b ub):
  S4 (eqP pos a b) (fun v=>∃u,VS E ρ n H S v u/\∀w':World,(binOp op T ua ub).run E.P w'=.ok u w'/\F8 E op T ua ub):=by
 have key:∀r,(∀w':World,(Op.equal T ua ub).run E.P w'=.ok r w')->(∃q,ua=.pointer q)->∃u,VS E ρ n H S (Go.X.W6 pos r) u/\∀w':World,(binOp op T ua ub).run E.P w'=.ok u w'/\F8 E op T ua ub:=by
  rintro r h ⟨q,rfl⟩
  exact⟨_,VS.W6,fun w'=>⟨c0L l V' V' V' V' (h w'),F8.of (by simp[b0z])⟩⟩
 unfold eqP;split<;>simp only[S4]
 ·obtain rfl:=ha.f0P;obtain rfl:=f.f0P;exact key true (fun w'=>o0F c _ w') ⟨_,rfl⟩
 ·obtain rfl:=ha.f0P;obtain⟨_,_,b',_,rfl⟩:=f.b04;exact key false (fun w'=>o0F c _ w') ⟨_,rfl⟩
 ·obtain rfl:=ha.f0P;obtain⟨b',i,g,rfl,_⟩:=f.f0X;exact key false (fun w'=>o0F c _ w') ⟨_,rfl⟩
 ·obtain⟨_,_,b',_,rfl⟩:=ha.b04;obtain rfl:=f.f0P;exact key false (fun w'=>q0M c _ w') ⟨_,rfl⟩
 ·obtain⟨b',i,g,rfl,_⟩:=ha.f0X;obtain rfl:=f.f0P;exact key false (fun w'=>q0M c _ w') ⟨_,rfl⟩
 ·rename_i t x;obtain rfl:=f.f0P;have h1:(L0 E (.opt t)).R H S [ua] x:=ha.d rfl;obtain⟨v,k,o⟩:=h1;simp at k;subst k;refine⟨_,VS.eqR,fun w'=>?_⟩;have m:∀y:Option (Den E.D t),z04 (L0 E t) H S ua y->(∃q,ua=.pointer q)/\(Op.equal T ua (.pointer none)).run E.P w'=.ok y.isNone w':=by
   intro y j;cases y with
   |none=>subst j;exact⟨⟨_,rfl⟩,o0F c _ w'⟩
   |some z=>obtain⟨b',i,g,rfl,_⟩:=j;exact⟨⟨_,rfl⟩,q0M c _ w'⟩
  obtain⟨⟨q,rfl⟩,h⟩:=m x o;exact⟨c0L l V' V' V' V' h,F8.of (by simp[b0z])⟩
theorem d0Y {T n:Nat}(h:D6 E T=some n)(w:World):(sizeOf T).run E.P w=.ok n w:=by
 unfold D6 at h;split at h
 ·simp_all[sizeOf,typeInfo]
 grind
def o03 {T:Nat}{b:Bool}(h:P9 E T=some b)(w:World):(isAgg T).run E.P w=.ok b w:=by
 unfold P9 at h;split at h<;>try cases h
 ·simp_all[isAgg,run_underlying]
 ·simp_all[isAgg,run_underlying]
 simp_all[isAgg,run_underlying]
def m0l (b:G2 E):∀(k:Nat) {v:V E.D} {c:List Value},VC E ρ n H S v c->VC E ρ n H S (leaf E k v) c
 |0,v,c,h=>h
 |k+1,v,c,h=>by
  simp only[leaf];split
  ·rename_i u he;exact m0l b k (p0X b he h).a0X
  omega
def J0P {v:V E.D}{k:IntKind}{x:Int}{c:List Value}(h:o6 v=some (k,x))(b:VC E ρ n H S v c):c=[.int k x]:=by
 cases v<;>simp only[o6]at h<;>try cases h
 ·simp_all[VC]
 ·rename_i t z;cases t<;>simp only[]at h<;>try cases h
  exact b
def u03 {v:V E.D}{x:Bool}{c:List Value}(h:M7 v=some x)(b:VC E ρ n H S v c):c=[.bool x]:=by
 cases v<;>simp only[M7]at h<;>try cases h
 ·simp_all[VC]
 ·rename_i t z;cases t<;>simp only[]at h<;>try cases h
  exact b
def g0K (b:G2 E){v:V E.D}{k:IntKind}{x:Int}{c:List Value}(h:f0N E v=some (k,x))(d:VC E ρ n H S v c):c=[.int k x]:=J0P h (m0l b 10 d)
theorem l0X {α:Type}{l:List α}{v:α}(h:g0Z l=some v):l=[v]:=by
 unfold g0Z at h
 grind
def allEq:List Int->List Int->Bool
 |[],_=>true
 |[a],b :: _=>a==b
 |a :: l,b :: r=>(a==b)&&allEq l r
 |_,_=>true
theorem u0j (i:G2 E){k:IntKind}:∀{l r:List (V E.D)} {b:Bool} {cx f:List Value},d0r E k l r=some b->F1 E ρ n H S l cx->F1 E ρ n H S r f->∃xs ys:List Int,cx=xs.map (.int k)/\f=ys.map (.int k)/\xs.length=l.length/\ys.length=r.length/\xs.length=ys.length/\b=allEq xs ys
 |[],[],b,cx,f,h,g,e=>by
  subst g;subst e;simp[d0r]at h;exact⟨[],[],rfl,rfl,rfl,rfl,rfl,by simp[allEq,h]⟩
 |[],_ :: _,b,cx,f,h,g,e=>by grind [d0r]
 |_ :: _,[],b,cx,f,h,g,e=>by grind [d0r]
 |[a],[c],b,cx,f,h,g,e=>by
  simp only[d0r]at h;split at h<;>try cases h
  rename_i t x k2 y h1 j;split at h<;>try cases h
  rename_i hk;simp only[and_eq_true,decide_eq_true_eq]at hk;obtain⟨rfl,rfl⟩:=hk;obtain rfl:=g0K i h1 g.a0X;obtain rfl:=g0K i j e.a0X;exact⟨[x],[y],rfl,rfl,rfl,rfl,rfl,rfl⟩
 |[a],c :: d :: r,b,cx,f,h,g,e=>by
  simp_all[d0r]
 |a :: a2 :: l,c :: r,b,cx,f,h,g,e=>by
  simp only[d0r]at h;split at h<;>try cases h
  rename_i t x k2 y q h1 j m;split at h<;>try cases h
  rename_i hk;simp only[and_eq_true,decide_eq_true_eq]at hk;obtain⟨rfl,rfl⟩:=hk;obtain⟨c1,c2,rfl,o,z⟩:=g;obtain⟨d1,d2,rfl,v,u⟩:=e;obtain rfl:=g0K i h1 o;obtain rfl:=g0K i j v;obtain⟨xs,ys,rfl,rfl,C,I,R,p⟩:=u0j i m z u;refine⟨x :: xs,y :: ys,rfl,rfl,by grind,by grind,by grind,?_⟩;cases xs with
  |nil=>grind
  |cons x' xs=>cases ys with
   |nil=>grind
   |cons J ys=>rw[p];rfl
theorem p0i (e:G2 E):∀(k m:Nat) (l q:List (V E.D)) (c:List Value),eqT.cutA E k m l=some q->F1 E ρ n H S l c->F1 E ρ n H S q c/\q.length=m
 |0,m,l,q,c,h,_=>by grind [eqT.cutA]
 |k+1,0,[],q,c,h,b=>by simp[eqT.cutA]at h;simp_all
 |k+1,0,_ :: _,q,c,h,b=>by grind [eqT.cutA]
 |k+1,m+1,l,q,c,h,b=>by
  simp only[eqT.cutA]at h;split at h<;>try cases h
  rename_i v r d;split at h<;>try cases h
  rename_i i hq;obtain⟨c1,c2,rfl,_,h1,g⟩:=b00 e _ _ _ _ _ d c b;obtain⟨f,j⟩:=p0i e k m r i c2 hq g;exact⟨by exact⟨c1,c2,rfl,h1.a0X,f⟩,by grind⟩
theorem N0Z (P:Program)(d t e:Nat)(k:IntKind)(l:P.underlying t=some (.array 4 e))(he:P.underlying e=some (.int k))(hs:(P.info? e).map (·.size)=some 1)(a0 i a2 a3 b0 g j h:Int)(w:World):
  (Op.equalIn (d+2) t (.agg #[.int k a0,.int k i,.int k a2,.int k a3]) (.agg #[.int k b0,.int k g,.int k j,.int k h])).run P w=.ok ((a0==b0)&&((i==g)&&((a2==j)&&(a3==h)))) w:=by
 obtain⟨inf,b,c⟩:=Option.map_eq_some_iff.1 hs;have f:(isAgg e).run P w=.ok false w:=by simp_all[isAgg,run_underlying]
 unfold Op.equalIn;simp[run_underlying l,sizeOf,typeInfo,b,c,List.range',part,f,run_equalIn_int w d e k k _ _ he]
 grind
def u0W {T m:Nat}{b:Bool}(d:P9 E T=some b)(c:D6 E T=some m)(h1:b=false->m=1){c1 c2 c3:List Value}(hl:c2.length=m)(w:World):
  (part T (c1++(c2++c3)).toArray c1.length).run E.P w=.ok (O4 b c2) w:=by
 have f:=o03 d w;have e:=d0Y c w;cases b with
 |true=>
  simp_all[part,O4]
 |false=>
  have h1:=h1 rfl
  match c2,hl.trans h1 with
  |[z],_=>
   simp_all[part,O4]
def u0Z (hE:G2 E):∀(d T:Nat) (xs ys:List (V E.D)) (b:Bool),eqT E d T xs ys=some b->∀(cx cy:List Value),F1 E ρ n H S xs cx->F1 E ρ n H S ys cy->∀(m:Nat) (ag:Bool) (w:World),P9 E T=some ag->d+1<=m->(Op.equalIn m T (O4 ag cx) (O4 ag cy)).run E.P w=.ok b w
 |0,T,xs,ys,b,h=>by simp[eqT]at h
 |d+1,T,xs,ys,b,h=>by
  intro cx cy hx hy m ag w hag hm;obtain⟨m,rfl⟩:∃q,m=q+2:=⟨m-2,O'⟩
  simp only[eqT]at h;split at h<;>try cases h
  ·rename_i k0 hT;have hag2:ag=false:=by unfold P9 at hag;simp_all
   subst hag2;split at h<;>try cases h
   rename_i a c ha hc;split at h<;>try cases h
   rename_i k1 x k2 y h1 h2;split at h<;>try cases h
   rename_i hk;have hk:=of_decide_eq_true hk;subst hk;have e1:=l0X ha;have e2:=l0X hc;subst e1;subst e2;obtain rfl:=g0K hE h1 hx.a0X;obtain rfl:=g0K hE h2 hy.a0X;exact run_equalIn_int w (m+1) T k1 k0 x y hT
  ·rename_i hT;have hag2:ag=false:=by unfold P9 at hag;simp_all
   subst hag2;split at h<;>try cases h
   rename_i a c ha hc;split at h<;>try cases h
   rename_i x y h1 h2;have e1:=l0X ha;have e2:=l0X hc;subst e1;subst e2;obtain rfl:=u03 h1 (m0l hE 10 hx.a0X);obtain rfl:=u03 h2 (m0l hE 10 hy.a0X);exact run_equalIn_bool w (m+1) T x y hT
  ·rename_i fs hT;have hag2:ag=true:=by unfold P9 at hag;simp_all
   subst hag2;split at h<;>try cases h
   rename_i hp;have hfs:E.P.fieldsOf T=fs:=by simp_all[Program.fieldsOf]
   show(Op.equalIn (m+1+1) T (.agg cx.toArray) (.agg cy.toArray)).run E.P w=_;rw[run_equalIn_struct w (m+1) T cx.toArray cy.toArray (by simp_all) hp,hfs];have key:∀(l:List Field) (r:Option Bool),eqT.eqFs E (eqT E d) l xs ys=some r->(Op.eqFields (m+1) cx.toArray cy.toArray l).run E.P w=.ok (match r with|some c=>c|none=>true) w:=by
    intro l
    induction l with
    |nil=>
     intro r hr;simp only[eqT.eqFs,Option.some.injEq]at hr;subst hr;rfl
    |cons f l ih=>
     intro r hr;simp only[eqT.eqFs]at hr;split at hr<;>try cases hr
     rename_i n0 hnm hsz heag;split at hr<;>try cases hr
     rename_i x1 mx x2 y1 my y2 hsx hsy;split at hr<;>try cases hr
     rename_i q r' hq hr';obtain⟨c1,c2,c3,rfl,hl1,hl2,_,hc2,_⟩:=h0d hE hsx hx;obtain⟨d1,d2,d3,rfl,hm1,hm2,_,hd2,_⟩:=h0d hE hsy hy;have hagf:∃ag,P9 E f.type=some ag/\(ag=false->n0=1):=by
      unfold eqT.eqAg at heag;rw[hsz]at heag;split at heag
      ·rename_i h _;exact⟨true,h,V'⟩
      ·rename_i h h2;exact⟨false,h,fun _=>by simpa using h2⟩
      ·cases heag
     obtain ⟨agf,hagf,hag1⟩:=hagf;have p1:=u0W (c1:=c1) (c3:=c3) hagf hsz hag1 hl2 w;have p2:=u0W (c1:=d1) (c3:=d3) hagf hsz hag1 hm2 w;rw [hl1] at p1;rw [hm1] at p2;have p3:=u0Z hE d f.type mx my q hq c2 d2 hc2 hd2 (m+1) agf w hagf (by omega);have p4:=ih r' hr';have hnm:f.name≠ "_":=by simpa using hnm
     simp only[Op.eqFields,if_pos hnm,ne_eq,Sem.run_bind,p1,Result.andThen_ok,p2,p3];cases q with
     |false=>cases r'<;>simp[r0W]
     |true=>
      simp only[Bool.not_true,Bool.false_eq_true,if_false];rw[p4];cases r'<;>simp[r0W]
   split at h<;>try cases h
   ·rename_i c hc;rw[key _ _ hc]
   ·rename_i hc;rw[key _ _ hc]
  ·rename_i e hT;have hag2:ag=true:=by unfold P9 at hag;rw[hT]at hag;simpa using hag.symm
   subst hag2;split at h<;>try cases h
   rename_i k hk;split at h<;>try cases h
   rename_i l r hs hlx hly;obtain⟨h1,h2⟩:=p0i hE _ _ _ _ cx hlx hx;obtain⟨h3,h4⟩:=p0i hE _ _ _ _ cy hly hy;obtain⟨as,bs,rfl,rfl,e1,e2,e3,e4⟩:=u0j hE h h1 h3;have hs2:(E.P.info? e).map (·.size)=some 1:=by
    unfold D6 at hs;split at hs
    ·rename_i i hi;rw[hi];simpa using hs
    ·cases hs
   match as,bs,e1.trans h2,e2.trans h4 with
   |[a0,a1,a2,a3],[b0,b1,b2,b3],_,_=>
    rw[e4];exact N0Z E.P m T e k hT hk hs2 a0 a1 a2 a3 b0 b1 b2 b3 w
theorem K07 (C:G2 E){T:Nat}{op:BinOp}{pos:Bool}(g:isEq op=some pos){a b:V E.D}{ua ub:Value}(ha:VS E ρ n H S a ua)(f:VS E ρ n H S b ub):
  S4 (eqV E T pos a b) (fun v=>∃u,VS E ρ n H S v u/\∀w':World,(binOp op T ua ub).run E.P w'=.ok u w'/\F8 E op T ua ub):=by
 obtain⟨k1,k2,k3,I⟩:=n0h (E:=E) (T:=T);unfold eqV;split
 ·rename_i hk;have d:=k1 hk;split<;>simp only[S4]
  rename_i x y k J;obtain rfl:=O9 k ha;obtain rfl:=O9 J f;exact⟨_,VS.eqR,fun w'=>⟨c0L g V' V' V' V' (B0p d _ _ w'),F8.of (by simp[b0z])⟩⟩
 ·grind [N07]
 ·rename_i hk;obtain⟨e,d⟩:=k3 hk;split<;>simp only[S4]
  ·obtain rfl:=ha.b0m;obtain rfl:=f.b0m;exact⟨_,VS.W6,fun w'=>⟨c0L g V' V' V' V' (E0J d w'),F8.of (by simp[b0z])⟩⟩
  ·rename_i t xs;intro a1;obtain rfl:=f.b0m;obtain⟨A',c,rfl,p⟩:=ha.g0U;have k:xs≠[]:=by grind
   obtain⟨b,o,hA,_,_⟩:=p.2.1 k;subst hA;have heq:∀w':World,(Op.equal T (.slice (some ⟨b,o,none⟩) xs.length c) (.slice none 0 0)).run E.P w'=.ok false w':=fun w'=>by
    unfold Op.equal Op.maxDepth Op.equalIn;simp[run_underlying d]
   exact⟨_,VS.W6,fun w'=>⟨c0L g V' V' V' V' (heq w'),F8.of (by simp[b0z])⟩⟩
 ·rename_i hk;obtain⟨e,d⟩:=I hk;split<;>simp only[S4]
  obtain⟨u',rfl,_⟩:=ha.n0s;obtain rfl:=f.o0u;exact⟨_,VS.W6,fun w'=>⟨c0L g V' V' V' V' (F0W d _ _ w'),F8.of (by simp[b0z])⟩⟩
 ·split<;>try trivial
  rename_i hg;simp only[and_eq_true,Bool.not_eq_true']at hg;obtain⟨⟨⟨j,q⟩,hm⟩,R⟩:=hg;split<;>try trivial
  rename_i r hr;have fl:∀{v:V E.D} {u:Value},T4 v=true->VS E ρ n H S v u->∃c,F1 E ρ n H S (b7 v) c/\u=.agg c.toArray:=by
   rintro v u U ⟨c,hc,rfl⟩
   refine⟨c,?_,by unfold vl;rw[U];rfl⟩;cases v<;>first|exact F1.one hc|(unfold VC at hc;exact hc)
  obtain⟨h,l,rfl⟩:=fl j ha;obtain⟨m,z,rfl⟩:=fl q f;have i:P9 E T=some true:=by
   grind [z0n]
  have heq:∀w':World,(Op.equal T (.agg h.toArray) (.agg m.toArray)).run E.P w'=.ok r w':=fun w'=>by
   unfold Op.equal Op.maxDepth;exact u0Z C 50 T _ _ r hr h m l z 10000 true w' i O'
  refine⟨_,VS.eqR,fun w'=>⟨c0L g V' V' V' V' (heq w'),fun x y w2=>run_eqGuard_agg (P:=E.P) w2 op T x y h.toArray m.toArray hm⟩⟩
def O0b (f:G2 E){T:Nat}{op:BinOp}{a b:V E.D}{ua ub:Value}(ha:VS E ρ n H S a ua)(e:VS E ρ n H S b ub):
  S4 (s0H E op T a b) (fun v=>∃u,VS E ρ n H S v u/\∀w':World,(binOp op T ua ub).run E.P w'=.ok u w'/\F8 E op T ua ub):=by
 unfold s0H;split
 ·rename_i k x g y d c;obtain rfl:=S8 d ha;obtain rfl:=S8 c e;split
  ·rename_i hs;exact(I0x (fun m hm=>n0A c hm) hs T).mono fun v ⟨u,h1,h2⟩=>⟨u,h1,fun w'=>⟨h2 w',F8.of (by simp[b0z])⟩⟩
  ·rename_i hs;split
   ·rename_i hk;have hk:=of_decide_eq_true hk;subst hk;exact(L0Z (fun m hm=>n0A c hm) hs T).mono fun v ⟨u,h1,h2⟩=>⟨u,h1,fun w'=>⟨h2 w',F8.of (by simp[b0z])⟩⟩
   ·trivial
 ·split
  ·simp_all[K07]
  ·trivial
def K0g {op:UnOp}{a:V E.D}{ua:Value}(ha:VS E ρ n H S a ua):
  S4 (unV op a) (fun v=>∃u,VS E ρ n H S v u/\∀w':World,(Op.unary op ua).run E.P w'=.ok u w'):=by
 unfold unV;split
 ·split<;>simp only[S4]
  ·rename_i b;obtain rfl:=O9 (x:=b) rfl ha;simp[VS.kb,Op.unary]
  ·rename_i x;obtain rfl:=O9 (x:=x) rfl ha;simp[VS.dB,Op.unary]
 ·split<;>simp only[S4]
  rename_i k x c;obtain rfl:=S8 c ha;simp[VS.dI,Op.unary,Op.intArith]
 ·split<;>simp only[S4]
  rename_i k x c;obtain rfl:=S8 c ha;simp[VS.dI,Op.unary,Op.intBits,k0z]
 ·trivial
section
variable {E:Env}{A:A5}{s:St E.D}{ρ:Nat->Value}{S:E0}{a:Act}{as:List Act}{w:World}
def l0p (b o m:Nat):(⟨b,o,none⟩:Addr).add m=⟨b,o+m,none⟩:=by
 simp[Addr.add]
theorem q0h (p q:List Y6):Q5 (p++q)=Q5 p+Q5 q:=by
 induction p with
 |nil=>simp[Q5]
 |cons x p ih=>
  grind [Q5]
def t0k (p q:List Y6):C8 (p++q)↔C8 p/\C8 q:=by
 induction p with
 |nil=>simp[C8]
 |cons x p ih=>
  rcases x with⟨j,o⟩|⟨i,z,m⟩<;>simp[C8,ih,and_assoc]
theorem q0V:∀{ts:List U} {h:HL E.D ts} {j:Nat} {t:U} {y:Den E.D t},F6 ts h j=some ⟨t,y⟩->∀(H:M0) (S:E0) (cs:List Value),(a0O E ts).R H S cs h->
  ∃c1 c2 c3,cs=c1++(c2++c3)/\c1.length=c0T E ts j/\(L0 E t).R H S c2 y
 |[],_,_,_,_,h=>by grind [F6]
 |t' :: ts,hh,0,t,y,h=>by
  intro H S cs b;simp only[F6,Option.some.injEq,Sigma.mk.injEq]at h;obtain⟨rfl,h⟩:=h;subst h;obtain⟨c1,c2,rfl,h1,c⟩:=b;exact⟨[],c1,c2,V',rfl,h1⟩
 |t' :: ts,hh,j+1,t,y,h=>by
  intro H S cs b;simp only[F6]at h;obtain⟨c1,c2,rfl,h1,c⟩:=b;obtain⟨d1,d2,d3,rfl,hl,d⟩:=q0V h _ _ _ c;exact⟨c1++d1,d2,d3,V',by rw[List.length_append,(L0 E t').len h1,hl];rfl,d⟩
def a0y {t:U}{xs:List (Den E.D t)}{i:Int}(b:0<=i)(h1:i<xs.length):xs[i.toNat]?=some (r7 E t xs i):=by
 exact @m0e _ ⟨dfl E t⟩ _ _ (by simp_all[C0])
theorem k0F (k:G2 E):∀{p:List Y6} {t:U} {x:Den E.D t} {u:U} {y:Den E.D u},e0c E t x p=some ⟨u,y⟩->C8 p->∀(H:M0) (S:E0) (cs:List Value),(L0 E t).R H S cs x->
  ∃c1 c2 c3,cs=c1++(c2++c3)/\c1.length=Q5 p/\(L0 E u).R H S c2 y
 |[],t,x,u,y,h,_=>by
  intro H S cs e;simp only[e0c,Option.some.injEq,Sigma.mk.injEq]at h;obtain⟨rfl,h⟩:=h;subst h;exact⟨[],cs,[],V',rfl,e⟩
 |.inl (j,o) :: p,t,x,u,y,h,hp=>by
  intro H S cs e;cases t<;>simp only[e0c]at h<;>try cases h
  rename_i i;split at h
  ·rename_i J;rw[beq_eq]at J;split at h
   ·rename_i u' y' hg;obtain⟨c1,c2,c3,rfl,hl,l⟩:=q0V hg _ _ _ ((k.st i H S cs x).1 e);obtain⟨d1,d2,d3,rfl,c,d⟩:=k0F k h hp _ _ _ l;exact⟨c1++d1,d2,d3++c3,V',by rw[List.length_append,hl,J,c];rfl,d⟩
   grind
  grind
 |.inr (i,z,m) :: p,t,x,u,y,h,hp=>by
  intro H S cs e;cases t<;>simp only[e0c]at h<;>try cases h
  rename_i C I;split at h
  ·rename_i g;rw[and_eq_true,beq_eq,beq_eq]at g;obtain⟨g,rfl⟩:=g;obtain⟨hi,hp⟩:=hp;obtain⟨hlen,b⟩:=e;have q:(L0 E I).sz=z:=g;have f:=a0y (E:=E) (t:=I) (xs:=x) hi.1 O';have l:=b.2 i.toNat _ f;obtain⟨d1,d2,d3,hd,c,d⟩:=k0F k h hp _ _ _ l;refine⟨cs.take (i.toNat*z)++d1,d2,d3++(cs.drop (i.toNat*z)).drop z,?_,?_,d⟩
   ·grind [List.take_append_drop]
   ·have r:cs.length=C*z:=by rw[b.1,hlen,q]
    have v:i.toNat<C:=O'
    have:i.toNat*z<=C*z:=Nat.mul_le_mul_right _ (Nat.le_of_lt v);rw[List.length_append,List.length_take,c,r,Nat.min_eq_left this];rfl
  grind
def C07 {t:U}(h:c9 t=false):(L0 E t).sz=1:=by cases t<;>first|rfl|cases h
def VC.o0a {n:Nat}{H:M0}{v:V E.D}{c:List Value}(b:G2 E)(h:VC E ρ n H S v c)(ha:T4 v=false):c.length=1:=by
 have:=h.len b (by rintro l rfl;cases ha);rw[this];cases v<;>first|rfl|skip
 exact C07 ha
def v05 {n:Nat}{H:M0}{v:V E.D}{c:List Value}{b:Bool}(ha:T4 v=b):vl v c=O4 b c:=by subst ha;rfl
theorem n0J {n:Nat}{H:M0}{t:U}{x:Den E.D t}{c:List Value}(h:VC E ρ n H S (.d t x) c):VC E ρ n H S (ofD t x) c:=by
 cases t<;>exact h
theorem k0Z {t:U}{x:Den E.D t}:T4 (ofD (D:=E.D) t x)=c9 t:=by cases t<;>rfl
def z0m {T b o n:Nat}{d:Bool}(f:P9 E T=some d)(e:D6 E T=some n){c:List Value}(hl:c.length=n)(h1:d=false->n=1){w:World}(g:∀j v,c[j]?=some v->D2 w.heap b (o+j)=some v):
  (loadVar T ⟨b,o,none⟩).run E.P w=.ok (O4 d c) w:=by
 have i:=o03 f w;have h:=d0Y e w;cases d with
 |true=>
  have k:=t0G (P:=E.P) ⟨b,o,none⟩ w c 0 #[] (fun j v m=>by simp_all[a01])
  simp_all[loadVar,loadCells,O4]
 |false=>
  have hn:=h1 rfl
  match c,hl.trans hn with
  |[z],_=>
   have l:=g 0 z rfl
   simp_all[g0Y,loadVar,O4]
theorem u01 {H:M0}{b T:Nat}{cs:List Value}(h:H[b]?=some (.cells cs.toArray T (0,0))){c1 c2 c3:List Value}(e:cs=c1++(c2++c3)){o:Nat}(c:c1.length=o)(j:Nat)(v:Value)(d:c2[j]?=some v):D2 H b (o+j)=some v:=by
 grind [D2]
theorem Rp.x0d (h:Rp E A s ρ S a as w){id:Nat}{l:List (V E.D)}(c:m0b E s id=some l){b:Nat}(d:hd (ρ id)=.pointer (some ⟨b,0,none⟩)):
  ∃cs,F1 E ρ s.nid w.heap S l cs/\(∀u∈cs,u.oneCell'=true)/\∃T,∀w',l6 E s S w (fun k=>E2 (G0 s id)=true/\D1 (hd (ρ id))=some k) w'->w'.heap[b]?=some (.cells cs.toArray T (0,0)):=by
 have e:=h.th id;unfold m0b at c;split at c
 ·rename_i T l' hl;simp at c;subst c;rw[hl]at e ⊢;obtain⟨b',cs,f,h1,i,g⟩:=e;rw[f]at d;simp[hd]at d;subst d;exact⟨cs,i,g,T,fun w' hw=>(hw.2 b' ⟨rfl,by rw[f];rfl⟩ (getElem?_lt h1)).trans h1⟩
 ·rename_i T l' hl;simp at c;subst c;rw[hl]at e ⊢;obtain⟨b',cs,f,h1,i,g,j⟩:=e;rw[f]at d;simp[hd]at d;subst d;refine⟨cs,i,g,T,fun w' hw=>?_⟩;obtain⟨m,k⟩:=hw.1;exact(k.blk b' (getElem?_lt h1) j).2.trans h1
 grind
def Row.cell {H:M0}{e sz n b o m c:Nat}{cs:List Value}(h:Row H e sz (.slice (some ⟨b,o,none⟩) m c) n cs)(hm:0<m):m=n/\b<H.size/\D1 (.slice (some ⟨b,o,none⟩) m c)=some b/\∀(i:M0),i[b]?=H[b]?->∀j,j<n*sz->D2 i b (o+j)=cs[j]?:=by
 obtain⟨p,d⟩:=h;rcases d with⟨_,a,f⟩|⟨g,o',cap,cur,f,hp,hg,hnc,hmx,hsz,htk,_⟩
 ·simp at f;omega
 ·simp at f;obtain⟨⟨l,k⟩,q,r⟩:=f;subst l;subst k;subst q;subst r;refine⟨rfl,getElem?_lt hg,c0m hp,fun i hH j t=>?_⟩;unfold D2;rw[hH,hg];simp only;rw[<-htk,List.getElem?_take_of_lt t,List.getElem?_drop];simp
theorem U5.el {H:M0}{e b o m c:Nat}{t:U}{xs:List (Den E.D t)}(h:U5 E H S e t xs (.slice (some ⟨b,o,none⟩) m c)):
  xs.length=m/\∀i:Int,0<=i->i<m->(b<H.size/\D1 (.slice (some ⟨b,o,none⟩) m c)=some b)/\∃cs,(L0 E t).R H S cs (r7 E t xs i)/\∀k:M0,k[b]?=H[b]?->∀j v,cs[j]?=some v->D2 k b (o+i.toNat*K3 E t+j)=some v:=by
 obtain⟨cs,d,f⟩:=h;obtain⟨rfl,_⟩:=d.cap;refine⟨rfl,fun i p h1=>?_⟩;obtain⟨_,r,g,u⟩:=Row.cell d O';refine⟨⟨r,g⟩,_,f.2 i.toNat _ (a0y p h1),fun k hH j v x=>?_⟩;have q:j<(L0 E t).sz:=by
  grind
 have l:i.toNat<xs.length:=O'
 have hle:i.toNat*(L0 E t).sz+(L0 E t).sz<=xs.length*(L0 E t).sz:=by rw[<-Nat.succ_mul];exact Nat.mul_le_mul_right _ l
 have e:K3 E t=(L0 E t).sz:=rfl
 grind
def U5.form {H:M0}{e:Nat}{t:U}{xs:List (Den E.D t)}{v:Value}(h:U5 E H S e t xs v):∃d c,v=.slice d xs.length c:=by
 obtain⟨cs,b,_⟩:=h;exact Row.form b
theorem Rp.o0e (h:Rp E A s ρ S a as w){id q f:Nat}{i:Int}{u:U}{ys:List (Den E.D u)}(hl:G0 s id=.rof q i f)(l:b03 E s q i f=some ⟨u,ys⟩):
  E2 (G0 s q)=true/\hd (ρ id)=ρ id/\(∃e,U5 E w.heap S e u ys (ρ id))/\∀b,D1 (ρ id)=some b->Bk (ρ q) b/\D1 (hd (ρ q))≠some b:=by
 unfold b03 at l;split at l<;>try cases l
 rename_i e F t xs hq;have g:=h.th q;rw[hq]at g;obtain⟨cs,g⟩:=g;have J:=h.th id;rw[hl]at J;obtain⟨b,o,m,c,h1,I,y,v⟩:=h.rf id q i f hl e F t xs hq;have d:=g.row;rw[h1]at d;obtain⟨rfl,hb,R,hc⟩:=Row.cell d O';have j:=a0y (E:=E) (t:=t) (xs:=xs) I.1 I.2;obtain⟨r,z,h6⟩:=g.rows i.toNat _ f u ys _ j l (List.getElem?_eq_getElem y) V';have x:rowAt F i.toNat f<xs.length*(L0 E t).sz:=by rw[<-g.row.1];grind
 have:=hc w.heap rfl _ x;rw[z]at this;have v:D2 w.heap b (o+rowAt F i.toNat f)=some (ρ id):=v;rw[v]at this;obtain rfl:=Option.some.inj this;have C:=f0Q (o:=none) y V' z V';rw[<-g.tl]at C;refine⟨by rw[hq];rfl,J.2.2,⟨_,h6⟩,fun k hk=>⟨Bk.tl (List.mem_of_getElem? C) hk,fun p=>?_⟩⟩;exact g.ap 0 (rowAt F i.toNat f+1) (hd (ρ q)) (ρ id) O' rfl (by simp_all) k p hk
theorem Rp.r0e (h:Rp E A s ρ S a as w){id:Nat}{t:U}{xs:List (Den E.D t)}(g:c0o E s (.sl id)=some ⟨t,xs⟩):
  (∃e,U5 E w.heap S e t xs (hd (ρ id))/\∀z i q,e0Q s (.pe id i z q)=true)\/∃k c,hd (ρ id)=.slice k xs.length c/\Sl (L0 E t) w.heap S k c xs:=by
 have j:=h.th id;unfold c0o at g;simp only at g;split at g<;>try cases g
 ·rename_i e hl;rw[hl]at j;obtain⟨cs,b,d⟩:=j;obtain⟨_,_,l⟩:=Row.form b;rw[l]at b;exact .inl ⟨e,⟨cs,by rw[l];exact b,d⟩,fun _ _ _=>by simp only[e0Q];rw[hl];rfl⟩
 ·rename_i hl;rw[hl]at j;obtain⟨k,c,r,m⟩:=j
  grind
 ·rename_i q i f hl;obtain⟨_,p,⟨e,o⟩,_⟩:=h.o0e hl g
  grind [e0Q]
theorem Rp.H0v (h:Rp E A s ρ S a as w){v:V E.D}{u:Value}(i:VS E ρ s.nid w.heap S v u){t:U}{xs:List (Den E.D t)}(b:i0f E s v=some ⟨t,xs⟩):∃d c,u=.slice d xs.length c:=by
 have main:c0o E s v=some ⟨t,xs⟩->∃d c,u=.slice d xs.length c:=by
  intro b;have g:=b;unfold c0o at b;split at b
  ·cases b;obtain⟨d,c,h1,_⟩:=i.g0U
   simp_all
  ·obtain⟨_,rfl⟩:=i.Y8;rcases h.r0e g with⟨e,h1,_⟩|⟨d,c,h1,_⟩
   ·exact h1.form
   simp_all
  grind
 unfold i0f at b;split at b
 ·rename_i id;split at b
  ·rename_i hl;cases b;obtain⟨_,rfl⟩:=i.Y8;have f:=h.th id;rw[hl]at f;obtain⟨cs,f⟩:=f;exact Row.form f.row
  simp_all
 simp_all
theorem Rp.elC (h:Rp E A s ρ S a as w){id:Nat}{t:U}{xs:List (Den E.D t)}(hx:c0o E s (.sl id)=some ⟨t,xs⟩){b o m c:Nat}(p:hd (ρ id)=.slice (some ⟨b,o,none⟩) m c):
  xs.length=m/\∀i:Int,0<=i->i<m->∃cs,(L0 E t).R w.heap S cs (r7 E t xs i)/\∀w' z k q,l6 E s S w (m0t s ρ (.pe id k z q)) w'->∀j v,cs[j]?=some v->D2 w'.heap b (o+i.toNat*K3 E t+j)=some v:=by
 rcases h.r0e hx with⟨e,h1,h2⟩|⟨A',c',hv,hsl⟩
 ·rw[p]at h1;obtain⟨u,C⟩:=h1.el;refine⟨u,fun i I x=>?_⟩;obtain⟨⟨y,r⟩,cs,h8,h9⟩:=C i I x;exact⟨cs,h8,fun w' z k q hw=>h9 w'.heap (hw.2 b ⟨h2 z k q,fun q' a1=>by grind [L0f]⟩ y)⟩
 ·rw[p]at hv;obtain⟨rfl,rfl,rfl⟩:=hv;refine⟨rfl,fun i h0 h1=>?_⟩;obtain⟨b',o',cs,hA,hR,hc⟩:=hsl.2.2 i.toNat _ (a0y h0 h1);obtain⟨rfl,rfl⟩:=hA;refine⟨cs,hR,fun w' z k2 q hw j v J=>?_⟩;obtain⟨S',k⟩:=hw.1;have l:xs≠[]:=by grind
  obtain⟨b2,o2,g,f,d⟩:=hsl.2.1 l;obtain⟨rfl,rfl⟩:=g;rw[f07 (k.blk b f d).2];exact hc j v J
def Z3 (E:Env)(s:St E.D)(ρ:Nat->Value)(S:E0)(w:World)(own:Nat->Prop)(f:Sem Value)(v:V E.D):Prop:=∃u,VS E ρ s.nid w.heap S v u/\∀w',l6 E s S w own w'->f.run E.P w'=.ok u w'
theorem r0S (C:G2 E)(h:Rp E A s ρ S a as w){T:Nat}{p:V E.D}{up:Value}(hp:VS E ρ s.nid w.heap S p up):
  S4 (h0T E s T p) (Z3 E s ρ S w (m0t s ρ p) (Instr.loadAt T up)):=by
 unfold h0T;split<;>try trivial
 rename_i ag m c5 c6;have fin:∀{v:V E.D} {c:List Value} {b o:Nat} {own:Nat->Prop},VC E ρ s.nid w.heap S v c->T4 v=ag->c.length=m->up=.pointer (some ⟨b,o,none⟩)->(∀w',l6 E s S w own w'->∀j u,c[j]?=some u->D2 w'.heap b (o+j)=some u)->Z3 E s ρ S w own (Instr.loadAt T up) v:=by
  intro v c b o own l ha hl hu hc;refine⟨vl v c,⟨c,l,rfl⟩,fun w' hw=>?_⟩;have h1:ag=false->m=1:=fun e=>by rw[<-hl];exact l.o0a C (by grind)
  have:=z0m c5 c6 hl h1 (hc w' hw);rw[<-v05 (n:=s.nid) (H:=w.heap) ha]at this
  simp_all[Instr.loadAt,Instr.sureAddr]
 have f:∀{u:U} {y:Den E.D u} {c:List Value} {b o:Nat} {own:Nat->Prop},((c9 u==ag)&&(K3 E u==m))=true->(L0 E u).R w.heap S c y->up=.pointer (some ⟨b,o,none⟩)->(∀w',l6 E s S w own w'->∀j u,c[j]?=some u->D2 w'.heap b (o+j)=some u)->Z3 E s ρ S w own (Instr.loadAt T up) (ofD u y):=by
  intro u y c b o own hk l hu hc;simp only[and_eq_true,beq_iff_eq]at hk;exact fin (n0J (show VC E ρ s.nid w.heap S (.d u y) c from l)) (by simp_all[k0Z]) (by rw[(L0 E u).len l];exact hk.2) hu hc
 split
 ·rename_i id off;obtain⟨_,_,b,hr,hu⟩:=hp.b04;split<;>try trivial
  rename_i cs hb;obtain⟨cc,b1,h1,T',a1⟩:=h.x0d hb hr;split<;>try trivial
  rename_i x1 m1 x2 c8;obtain⟨c1,c2,c3,e,J,b4,_,hm,_⟩:=h0d C c8 b1;have g:∀w',l6 E s S w (m0t s ρ (.pb id off [])) w'->∀j u,c2[j]?=some u->D2 w'.heap b (off+j)=some u:=fun w' hw j u r=>u01 (a1 w' (hw.c04 fun _=>pbK)) e J j u r;split<;>try trivial
  ·rename_i t x ha;obtain⟨l,hi⟩:=g0t C ha hm;exact fin (n0J l) (by rw[k0Z];exact hi) b4 hu g
  ·rename_i v _ ha;obtain⟨l,hi⟩:=g0t C ha hm;exact fin l hi b4 hu g
 ·rename_i id off i q;obtain⟨_,b2,b,hr,hu⟩:=hp.b04;split<;>try trivial
  rename_i cs hb;obtain⟨cc,b1,h1,T',a1⟩:=h.x0d hb hr;split<;>try trivial
  rename_i x1 k t x x2 e5;obtain⟨c1,c2,e,J,_,c4⟩:=b00 C _ _ _ _ _ e5 cc b1;unfold F1 at c4;obtain⟨d1,d2,rfl,hd,_⟩:=c4;split<;>try trivial
  rename_i u y hg;obtain⟨e1,e2,e3,b3,hle,hy⟩:=k0F C hg b2 _ _ _ hd;split<;>try trivial
  rename_i hk;refine f hk hy hu fun w' hw j u r=>?_;refine u01 (c1:=c1++e1) (c2:=e2) (c3:=e3++d2) (a1 w' (hw.c04 fun _=>pbK)) (by rw[e,b3];simp) (by rw[List.length_append,J,hle]) j u r
 ·rename_i id i z q;obtain⟨_,b2,b,o,mm,c,hr,⟨h0,h1⟩,hu⟩:=hp.e0A;split<;>try trivial
  rename_i t xs hx;obtain⟨hl,e6⟩:=h.elC hx hr;obtain⟨cs,hR,hc⟩:=e6 i h0 h1;split<;>try trivial
  rename_i u y hg;obtain⟨e1,e2,e3,b3,hle,hy⟩:=k0F C hg b2 _ _ _ hR;split<;>try trivial
  rename_i hk;rw[and_eq_true,beq_eq]at hk;obtain⟨hk,rfl⟩:=hk;refine f hk hy hu fun w' hw j u r=>?_;have I:j<e2.length:=(List.getElem?_eq_some_iff.1 r).1;have:=hc w' _ _ _ hw (e1.length+j) u (by rw[b3,List.getElem?_append_right O',Nat.add_sub_cancel_left,List.getElem?_append_left I];exact r);rw[hle]at this
  rwa [show o+i.toNat*K3 E t+Q5 q+j=o+i.toNat*K3 E t+(Q5 q+j)from O']
 ·rename_i t x;obtain⟨b,o,cs,hu,I,e4,hR,hc⟩:=hp.f0X;split<;>try trivial
  rename_i hk;refine f hk hR hu fun w' hw j u r=>?_;obtain⟨S',k⟩:=hw.1;rw[f07 (k.blk b I e4).2];exact hc j u r
 ·trivial
theorem Z3.pure {own:Nat->Prop}{f:Sem Value}{v:V E.D}{u:Value}(c:VS E ρ s.nid w.heap S v u)(b:∀w',f.run E.P w'=.ok u w'):Z3 E s ρ S w own f v:=⟨u,c,fun w' _=>b w'⟩
def VS.pb {n:Nat}{H:M0}{id off b:Nat}{p:List Y6}(h1:id<n)(c:C8 p)(d:hd (ρ id)=.pointer (some ⟨b,0,none⟩)):VS E ρ n H S (.pb id off p:V E.D) (.pointer (some ⟨b,off+Q5 p,none⟩)):=
 VS.of rfl (by unfold VC;simp_all)
theorem VS.pe {n:Nat}{H:M0}{id z b o m c:Nat}{i:Int}{p:List Y6}(h1:id<n)(d:C8 p)(e:hd (ρ id)=.slice (some ⟨b,o,none⟩) m c)(f:0<=i/\i<m):VS E ρ n H S (.pe id i z p:V E.D) (.pointer (some ⟨b,o+i.toNat*z+Q5 p,none⟩)):=
 VS.of rfl (by unfold VC;grind)
theorem p0S (t:G2 E)(_h:Rp E A s ρ S a as w){T f:Nat}{p:V E.D}{up:Value}(hp:VS E ρ s.nid w.heap S p up):
  S4 (k0m E s T p f) (Z3 E s ρ S w (fun _=>False) (Instr.fieldAt T up f)):=by
 unfold k0m;split<;>try trivial
 rename_i o d;have run:∀(b q:Nat) (w':World),up=.pointer (some ⟨b,q,none⟩)->(Instr.fieldAt T up f).run E.P w'=.ok (.pointer (some ⟨b,q+o,none⟩)) w':=by
  intro b q w' hu;unfold y0F at d;split at d<;>try cases d
  split at d<;>try cases d
  split at d<;>try cases d
  simp_all[d0Y,Instr.fieldAt,run_underlying,Instr.sureAddr,fieldPlace,l0p]
 split
 ·rename_i id off;obtain⟨h1,l,b,h,hu⟩:=hp.b04;refine Z3.pure (VS.pb (off:=off+o) h1 (p:=[]) trivial h) fun w'=>?_
  grind
 ·rename_i id off q _;obtain⟨h1,l,b,h,hu⟩:=hp.b04;refine Z3.pure (VS.pb (off:=off) h1 (p:=q++[.inl (f,o)]) ((t0k _ _).2 ⟨l,(show C8 [.inl (f,o)]from trivial)⟩) h) fun w'=>?_
  simp_all[q0h,Q5,add_assoc]
 ·rename_i id i z q;obtain⟨h1,l,b,o',m,c,h,C,hu⟩:=hp.e0A;split<;>try trivial
  split<;>try trivial
  split<;>try trivial
  refine Z3.pure (VS.pe h1 (p:=q++[.inl (f,o)]) ((t0k _ _).2 ⟨l,(show C8 [.inl (f,o)]from trivial)⟩) h C) fun w'=>?_
  simp_all[q0h,Q5,add_assoc]
 ·rename_i k x;obtain⟨b,q,cs,hu,g,r,hR,U⟩:=hp.f0X;split<;>try trivial
  rename_i J;rw[beq_eq]at J;split<;>try trivial
  rename_i u y hg;obtain⟨c1,c2,c3,e,hl,I⟩:=q0V hg _ _ _ ((t.st k w.heap S cs x).1 hR);refine Z3.pure (VS.pd ⟨b,q+o,c2,rfl,g,r,I,fun j v R=>?_⟩) fun w'=>run b q w' hu;have g:j<c2.length:=(List.getElem?_eq_some_iff.1 R).1;have:=U (c1.length+j) v (by grind)
  grind
 ·trivial
def VS.flat {n:Nat}{H:M0}{v:V E.D}{u:Value}(h:VS E ρ n H S v u):∃c,F1 E ρ n H S (b7 v) c/\(T4 v=true->u=.agg c.toArray)/\(T4 v=false->u=c.headD Go.undef)/\VC E ρ n H S v c:=by
 obtain⟨c,h1,rfl⟩:=h;refine⟨c,?_,fun e=>by unfold vl;rw[e];rfl,fun e=>by unfold vl;rw[e];rfl,h1⟩;cases v<;>first|exact F1.one h1|(exact h1)
def x0t (d:G2 E)(_h:Rp E A s ρ S a as w){T f:Nat}{v:V E.D}{o:Value}(r:VS E ρ s.nid w.heap S v o):
  S4 (n0c E T v f) (Z3 E s ρ S w (fun _=>False) (Instr.field T o f)):=by
 unfold n0c;split<;>try trivial
 split<;>try trivial
 split<;>try trivial
 rename_i p m k l;split<;>try trivial
 rename_i b;split<;>try trivial
 rename_i R m1 c1 i;obtain⟨U,j,C,_,I⟩:=r.flat;obtain⟨d1,d2,d3,e,x,q,_,hm,_⟩:=h0d d i j;have fin:∀{g:V E.D},VC E ρ s.nid w.heap S g d2->T4 g=p->T4 v=true->Z3 E s ρ S w (fun _=>False) (Instr.field T o f) g:=by
  intro g c ha b;refine Z3.pure ⟨d2,c,rfl⟩ fun w'=>?_;rw[v05 (E:=E) (n:=s.nid) (H:=w.heap) ha];have J:=o03 k w';have e2:=d0Y l w';cases p with
  |true=>
   simp_all[Instr.field,run_underlying,asAgg,part,O4]
  |false=>
   have h1:=c.o0a d ha
   match d2,h1 with
   |[z],_=>
    simp_all[Instr.field,run_underlying,asAgg,part,O4]
 split<;>try trivial
 ·rename_i t y ha;obtain⟨h,hi⟩:=g0t d ha hm;exact fin (n0J h) (by rw[k0Z];exact hi) b
 ·rename_i u _ ha;obtain⟨h,hi⟩:=g0t d ha hm;exact fin h hi b
theorem e0B {e:Nat}{t:U}(h:a0x E e t=true)(w:World):(sizeOf e).run E.P w=.ok (K3 E t) w:=by
 grind [a0x,beq_eq,d0Y]
theorem v0G {t:U}{H:M0}{i:Option Addr}{c:Nat}{xs:List (Den E.D t)}(h:Sl (L0 E t) H S i c xs){j:Int}(p:C0 xs j=true):
  ∃b o,i=some ⟨b,o,none⟩/\PtR (L0 E t) H S (.pointer (some ⟨b,o+j.toNat*K3 E t,none⟩)) (r7 E t xs j):=by
 obtain⟨l,h1⟩:=b0O p;obtain⟨b,o,cs,k,hR,m⟩:=h.2.2 j.toNat _ (a0y l h1);have f:xs≠[]:=by grind
 obtain⟨q,r,d,g,e⟩:=h.2.1 f;rw[k]at d;obtain⟨rfl,rfl⟩:=d;exact⟨b,o,k,b,_,cs,rfl,g,e,hR,m⟩
def I0e (hE:G2 E)(h:Rp E A s ρ S a as w){T:Nat}{p i:V E.D}{up ui:Value}(hp:VS E ρ s.nid w.heap S p up)(hi:VS E ρ s.nid w.heap S i ui):
  S4 (q0r E s T p i) (Z3 E s ρ S w (fun _=>False) (Instr.indexAt T up ui)):=by
 unfold q0r;split<;>try trivial
 rename_i k j I;obtain rfl:=S8 I hi;split<;>try trivial
 ·rename_i e hT;have run:∀{b o m c z:Nat} (w':World),up=.slice (some ⟨b,o,none⟩) m c->(sizeOf e).run E.P w'=.ok z w'->0<=j->j<m->(Instr.indexAt T up (.int k j)).run E.P w'=.ok (.pointer (some ⟨b,o+j.toNat*z,none⟩)) w':=by
   intro b o m c z w' hu d r h1;subst hu;simp[Instr.indexAt,asIntOf,run_underlying hT,d,r,h1,l0p]
  split
  ·rename_i t xs;split<;>try trivial
   rename_i d;intro l;obtain⟨A',c,rfl,b1⟩:=hp.g0U;obtain⟨b,o,rfl,U⟩:=v0G b1 l;obtain⟨r,h1⟩:=b0O l;exact Z3.pure (VS.pd U) fun w'=>run w' rfl (e0B d w') r O'
  ·rename_i id;obtain⟨a1,rfl⟩:=hp.Y8;have R:=h.th id;split<;>try trivial
   ·rename_i e' t xs hl;split<;>try trivial
    rename_i d;intro l;obtain⟨r,h1⟩:=b0O l;rw[hl]at R;obtain⟨cs,⟨c5,C⟩,J⟩:=R;rcases C with⟨_,h3⟩|⟨g,o,cap,cur,y,_⟩
    ·omega
    ·have y:hd (ρ id)=_:=congrArg hd y;have:=VS.pe (E:=E) (S:=S) (H:=w.heap) (z:=K3 E t) a1 (p:=[]) trivial y ⟨r,h1⟩;exact Z3.pure this fun w'=>by rw[run w' y (e0B d w') r h1];simp[Q5]
   ·rename_i t xs hl;split<;>try trivial
    rename_i d;intro l;obtain⟨r,h1⟩:=b0O l;rw[hl]at R;obtain⟨A',c,y,b1⟩:=R;obtain⟨b,o,rfl,U⟩:=v0G b1 l;exact Z3.pure (VS.pd U) fun w'=>run w' y (e0B d w') r h1
   ·rename_i e' F t xs o hl;split<;>try trivial
    rename_i d;intro l;obtain⟨r,h1⟩:=b0O l;rw[hl]at R;obtain⟨cs,R⟩:=R;rcases R.row.2 with⟨_,h3⟩|⟨g,o,cap,cur,y,_⟩
    ·omega
    ·have:=VS.pe (E:=E) (S:=S) (H:=w.heap) (z:=K3 E t) a1 (p:=[]) trivial y ⟨r,h1⟩;exact Z3.pure this fun w'=>by rw[run w' y (e0B d w') r h1];simp[Q5]
   ·rename_i q k2 f hl;split<;>try trivial
    rename_i t xs hx;split<;>try trivial
    rename_i d;intro l;obtain⟨r,h1⟩:=b0O l;obtain⟨_,e1,⟨e2,cs,C,_⟩,_⟩:=h.o0e hl hx;rw[<-e1]at C;rcases C.2 with⟨_,h3⟩|⟨g,o,cap,cur,y,_⟩
    ·omega
    ·have:=VS.pe (E:=E) (S:=S) (H:=w.heap) (z:=K3 E t) a1 (p:=[]) trivial y ⟨r,h1⟩;exact Z3.pure this fun w'=>by rw[run w' y (e0B d w') r h1];simp[Q5]
  ·trivial
 ·rename_i m e hT;have run:∀{b o z:Nat} (w':World),up=.pointer (some ⟨b,o,none⟩)->(sizeOf e).run E.P w'=.ok z w'->0<=j->j<m->(Instr.indexAt T up (.int k j)).run E.P w'=.ok (.pointer (some ⟨b,o+j.toNat*z,none⟩)) w':=by
   intro b o z w' hu d r h1;subst hu;simp[Instr.indexAt,Instr.sureAddr,asIntOf,run_underlying hT,d,r,h1,l0p]
  have out:∀{v:V E.D},(0<=j->j<m->Z3 E s ρ S w (fun _=>False) (Instr.indexAt T up (.int k j)) v)->
    S4 (g0V i j m v) (Z3 E s ρ S w (fun _=>False) (Instr.indexAt T up (.int k j))):=by
   intro v y;unfold g0V;split
   ·rename_i hl;unfold x0u at hl;split at hl
    ·rename_i m' hm;have:=n0A I hm;subst this;simp only[and_eq_true,decide_eq_true_eq]at hl;exact y hl.1 hl.2
    ·cases hl
   ·intro hb;simp only[and_eq_true,decide_eq_true_eq]at hb;exact y hb.1 hb.2
  split
  ·rename_i id off;obtain⟨h1,h2,b,hr,hu⟩:=hp.b04;split
   ·rename_i m' hm;have b3:=n0A I hm;split<;>try trivial
    rename_i z d;refine out fun h3 h4=>Z3.pure (VS.pb (off:=off+m'.toNat*z) h1 (p:=[]) trivial hr) fun w'=>?_;rw[run w' hu (d0Y d w') h3 h4,b3];simp[Q5]
   ·split
    ·rename_i z d;refine out fun h3 h4=>Z3.pure (VS.pb (off:=off) h1 (p:=[.inr (j,z,m)]) ⟨⟨h3,h4⟩,trivial⟩ hr) fun w'=>?_;rw[run w' hu (d0Y d w') h3 h4];simp[Q5]
    ·trivial
  ·rename_i id k2 z q;obtain⟨h1,h2,b,o,mm,c,hr,h4,hu⟩:=hp.e0A;split<;>try trivial
   split<;>try trivial
   split<;>try trivial
   rename_i d;rw[and_eq_true]at d;refine out fun h5 h6=>Z3.pure (VS.pe h1 (p:=q++[.inr (j,_,m)]) ((t0k _ _).2 ⟨h2,(show C8 [.inr (j,_,m)]from⟨⟨h5,h6⟩,trivial⟩)⟩) hr h4) fun w'=>?_;rw[run w' hu (e0B d.2 w') h5 h6,q0h];simp[Q5,add_assoc]
  ·rename_i n' u x;split<;>try trivial
   rename_i d;rw[and_eq_true,beq_eq]at d;obtain⟨rfl,d⟩:=d;refine out fun h5 h6=>?_;obtain⟨b,q,cs,hu,b4,c3,⟨hlen,J⟩,hc⟩:=hp.f0X;have b2:=a0y (E:=E) (t:=u) (xs:=x) h5 (by rw[hlen];exact h6);refine Z3.pure (VS.pd ⟨b,q+j.toNat*K3 E u,_,rfl,b4,c3,J.2 _ _ b2,fun jj v I=>?_⟩) fun w'=>run w' hu (e0B d w') h5 h6;have c4:jj<(L0 E u).sz:=by
    rcases Nat.lt_or_ge jj (L0 E u).sz with h|h
    ·exact h
    ·rw[List.getElem?_eq_none Z']at I;cases I
   rw[List.getElem?_take_of_lt c4,List.getElem?_drop]at I;have:=hc _ v I
   rwa [show q+(j.toNat*(L0 E u).sz+jj)=q+j.toNat*K3 E u+jj from by unfold K3;omega]at this
  ·trivial
theorem o0U:∀(l:List Value) (k off:Nat) (cells:Array Value) (d1 d2 d3:List Value),cells.toList=d1++(d2++d3)->d1.length=off+k->d2.length=l.length->
  ((l.zipIdx k).foldl (fun cs (p:Value×Nat)=>cs.setIfInBounds (off+p.2) p.1) cells).toList=d1++(l++d3)
 |[],k,off,cells,d1,d2,d3,h,_,b=>by
  simp_all
 |c :: l,k,off,cells,d1,[],d3,h,h1,b=>by grind
 |c :: l,k,off,cells,d1,x :: d2,d3,h,h1,b=>by
  have:=o0U l (k+1) off (cells.setIfInBounds (off+k) c) (d1++[c]) d2 d3 (by
   simp_all) (by grind) (by simp_all)
  simp_all
def VT.get {n:Nat}{H:M0}:∀{l:List (V E.D)} {us:List Value},VT E ρ n H S l us->∀{j:Nat},S4 (p0o l j) (fun v=>∃u,us[j]?=some u/\VS E ρ n H S v u)
 |[],us,h,j=>by cases j<;>trivial
 |v :: l,us,h,0=>by
  obtain⟨c,d,h1,rfl,b⟩:=h;exact⟨_,rfl,c,h1,rfl⟩
 |v :: l,us,h,j+1=>by
  obtain⟨c,d,h1,rfl,b⟩:=h;exact(VT.get b (j:=j)).mono fun v e=>by simp_all
inductive PR (E:Env) (ρ:Nat->Value) (n:Nat) (H:M0) (S:E0):List (Nat×V E.D)->List (Nat×Value)->Prop
 |nil:PR E ρ n H S [] []
 |cons {i:Nat} {v:V E.D} {u:Value} {l:List (Nat×V E.D)} {l':List (Nat×Value)}:VS E ρ n H S v u->PR E ρ n H S l l'->PR E ρ n H S ((i,v) :: l) ((i,u) :: l')
def VC.one {n:Nat}{H:M0}{v:V E.D}{c:List Value}(h:VC E ρ n H S v c)(hs:i0y v=true):∀u∈c,u.oneCell'=true:=by
 cases v<;>simp only[i0y]at hs<;>try cases hs
 case d t x=>exact(L0 E t).one h
 case pd t x=>obtain⟨v,rfl,b,o,cs,rfl,_⟩:=h;simp[Value.oneCell']
 case df t x=>obtain⟨_,rfl,_⟩:=h;simp[Value.oneCell']
 case kb=>simp_all[VC,Value.oneCell']
 case ki=>simp_all[VC,Value.oneCell']
 case nil=>simp_all[VC,Value.oneCell']
 case nilp=>simp_all[VC,Value.oneCell']
 case nilif=>simp_all[VC,Value.oneCell']
 case nilfn=>simp_all[VC,Value.oneCell']
 case pb=>obtain⟨_,_,_,_,rfl⟩:=h;simp[Value.oneCell']
 case pe=>obtain⟨_,_,_,_,_,_,_,_,rfl⟩:=h;simp[Value.oneCell']
 case fn=>obtain⟨_,rfl,_⟩:=h;simp[Value.oneCell']
 case ifc=>obtain⟨_,_,rfl⟩:=h;simp[Value.oneCell']
 case sl id=>unfold VC at h;simp_all
 case mp id=>unfold VC at h;simp_all
def F1.x0C {n:Nat}{H:M0}:∀{l:List (V E.D)} {c:List Value},F1 E ρ n H S l c->l.all i0y=true->∀u∈c,u.oneCell'=true
 |[],c,h,_=>by simp_all[F1]
 |v :: l,c,h,hs=>by
  obtain⟨c1,c2,rfl,h1,b⟩:=h;simp only[List.all_cons,and_eq_true]at hs;intro u hu;rcases List.mem_append.1 hu with h|h
  ·exact h1.one hs.1 u h
  ·exact F1.x0C b hs.2 u h
theorem cells_one {v:Value}(h:v.oneCell'=true):v.cells=#[v]:=by cases v<;>simp_all[Value.cells,Value.oneCell']
theorem VS.cells {n:Nat}{H:M0}{v:V E.D}{u:Value}(e:G2 E)(h:VS E ρ n H S v u)(hs:c05 v=true):∃c,F1 E ρ n H S (b7 v) c/\u.cells=c.toArray/\(∀x∈c,x.oneCell'=true)/\VC E ρ n H S v c:=by
 obtain⟨c,h1,f,g,d⟩:=h.flat;have b:∀x∈c,x.oneCell'=true:=by
  refine F1.x0C h1 ?_;cases v<;>simp_all[b7,c05]
 cases ha:T4 v with
 |true=>exact⟨c,h1,by rw[f ha];rfl,b,d⟩
 |false=>
  have hl:=d.o0a e ha
  match c,hl with
  |[z],_=>
   grind [cells_one]
theorem w0v {n:Nat}{H:M0}(b:G2 E):∀{l:List (V E.D)} {c:List Value},F1 E ρ n H S l c->(∀v∈l,∀l',v≠.agg l')->c.length=szs E l
 |[],c,h,_=>by subst h;rfl
 |v :: l,c,h,hs=>by
  obtain⟨c1,c2,rfl,h1,d⟩:=h;unfold szs;rw[List.length_append,h1.len b (hs v V'),w0v b d (fun x e=>hs x (by grind))]
def k0N {n:Nat}{H:M0}(b:G2 E){v:V E.D}{c:List Value}(h:VC E ρ n H S v c)(hs:c05 v=true):c.length=vsz E v:=by
 cases v<;>first|exact h.len b V'|skip
 refine w0v b h fun x d l' e=>?_;subst e;have:=List.all_eq_true.1 hs _ d;cases this
theorem z0i {n:Nat}{H:M0}(j:G2 E){pl:List (Nat×Nat)}{place:Nat->Option (Nat×Nat)}(hp:∀i p,pl[i]?=some p->place i=some p):∀{l:List (Nat×V E.D)} {l':List (Nat×Value)},PR E ρ n H S l l'->∀{cs f:List (V E.D)} {c:Array Value},
  f0c E pl l cs=some f->F1 E ρ n H S cs c.toList->∃c',Instr.fill place c l'=some c'/\F1 E ρ n H S f c'.toList
 |_,_,.nil,cs,f,c,h,hc=>by
  simp only[f0c,Option.some.injEq]at h;subst h;exact⟨c,rfl,hc⟩
 |_,_,.cons (i:=i) (v:=v) (u:=u) hv hr,cs,f,c,h,hc=>by
  simp only[f0c]at h;split at h<;>try cases h
  rename_i off m x;split at h<;>try cases h
  rename_i k;rw[and_eq_true,beq_eq]at k;split at h<;>try cases h
  rename_i a b d r;obtain⟨c1,c2,c3,e,I,z,ha,_,hd⟩:=h0d j r hc;obtain⟨o,q,g,_,y⟩:=hv.cells j k.2;have hlen:o.length=m:=(k0N j y k.2).trans k.1;have t:=o0U o 0 off c c1 c2 c3 e O' O';have key:F1 E ρ n H S (a++b7 v++d) ((u.cells.zipIdx.foldl (fun cs (p:Value×Nat)=>cs.setIfInBounds (off+p.2) p.1) c).toList):=by
   rw[g];have:(o.toArray.zipIdx.foldl (fun cs (p:Value×Nat)=>cs.setIfInBounds (off+p.2) p.1) c).toList=c1++(o++c3):=by
    simp_all
   rw[this,List.append_assoc];exact ha.app (q.app hd)
  obtain⟨c',R,J⟩:=z0i j hp hr h key;have C:c.toList.length=off+(m+c3.length):=by simp_all
  simp only[Instr.fill,hp i _ x]
  grind
def VS.j8 {n:Nat}{H:M0}(v:Value):VS E ρ n H S (j8 v:V E.D) v/\(T4 (j8 v:V E.D)=false):=by
 unfold Go.X.j8;split<;>first|exact⟨⟨[_],by rfl,rfl⟩,rfl⟩|exact⟨VS.undef _,rfl⟩
def VC.j8 {n:Nat}{H:M0}(v:Value):VC E ρ n H S (j8 v:V E.D) [v]:=by
 unfold Go.X.j8;split<;>unfold VC<;>first|rfl|simp
def F1.z0C {n:Nat}{H:M0}:∀(l:List Value),F1 E ρ n H S (l.map Go.X.j8:List (V E.D)) l
 |[]=>F1.nil
 |v :: l=>by
  exact⟨[v],l,rfl,VC.j8 v,F1.z0C l⟩
def v0k (v:Value):b7 (Go.X.j8 v:V E.D)=[Go.X.j8 v]:=by
 unfold Go.X.j8;split<;>rfl
def o0x {n:Nat}{H:M0}(z:Value):F1 E ρ n H S (b7 (ofZ E z)) z.cells.toList:=by
 have key:∀v:Value,(∀l,v≠.agg l)->F1 E ρ n H S (b7 (Go.X.j8 v:V E.D)) v.cells.toList:=by
  intro v b;rw[v0k];have:v.cells=#[v]:=by cases v<;>first|rfl|simp_all
  simp_all[F1.one,VC.j8]
 unfold ofZ;split
 ·rename_i cs;exact F1.z0C cs.toList
 simp_all
def z0Z:∀{fs:List Field} {pl:List (Nat×Nat)},j0I E fs=some pl->fs.mapM (fun f=>(E.P.info? f.type).map fun i=>(f.offset,i.size))=some pl
 |[],pl,h=>by simp_all[j0I]
 |f :: fs,pl,h=>by
  simp only[j0I]at h;split at h<;>try cases h
  rename_i n l hn hl;unfold D6 at hn;split at hn<;>try cases hn
  simp_all[z0Z]
theorem PR.of {n:Nat}(b:∀x,VS E ρ n w.heap S (T1 E s x) (a.eval x)):∀(l:List (Nat×Operand)),PR E ρ n w.heap S (l.map fun p=>(p.1,T1 E s p.2)) (l.map fun p=>(p.1,a.eval p.2))
 |[]=>.nil
 |p :: l=>.cons (b p.2) (PR.of b l)
theorem I0q (g:G2 E)(h:Rp E A s ρ S a as w){T:Nat}{parts:Array (Nat×Operand)}:
  S4 (r0Y E s T parts.toList) (Z3 E s ρ S w (fun _=>False) (Instr.build T (parts.map fun p=>(p.1,a.eval p.2)))):=by
 have d:=PR.of (E:=E) h.val parts.toList;unfold r0Y;split<;>try trivial
 split<;>try trivial
 rename_i z k;have fin:∀{pl:List (Nat×Nat)} {place:Nat->Option (Nat×Nat)} {cs:List (V E.D)},(∀i p,pl[i]?=some p->place i=some p)->f0c E pl (parts.toList.map fun p=>(p.1,T1 E s p.2)) (b7 (ofZ E z))=some cs->
   (∀c',Instr.fill place z.cells (parts.toList.map fun p=>(p.1,a.eval p.2))=some c'->E.P.built T (parts.toList.map fun p=>(p.1,a.eval p.2))=some c')->Z3 E s ρ S w (fun _=>False) (Instr.build T (parts.map fun p=>(p.1,a.eval p.2))) (.agg cs):=by
  intro pl place cs hp b o;obtain⟨c',h1,l⟩:=z0i g hp d b (o0x z);refine Z3.pure ⟨c'.toList,by simp_all[VC],rfl⟩ fun w'=>?_
  simp_all[run_build,vl,T4,O4]
 split<;>try trivial
 ·split<;>try trivial
  rename_i pl f;split<;>try trivial
  rename_i cs b;refine fin (place:=fun i=>pl.toArray[i]?) (fun i p hp=>by simp_all) b fun c' c=>?_
  simp_all[Program.built,z0Z]
 ·split<;>try trivial
  rename_i m hm;split<;>try trivial
  rename_i cs b;unfold D6 at hm;split at hm<;>try cases hm
  rename_i e j;refine fin (place:=fun i=>some (i*e.size,e.size)) (fun i p hp=>?_) b fun c' c=>?_
  ·grind
  simp_all[Program.built]
def VS.M04 {n:Nat}{H:M0}{x:ByteArray}{u:Value}(h:VS E ρ n H S (.d .str x) u):u=.string x:=by
 have:(L0 E .str).R H S [u] x:=h.d rfl
 simp_all[L0,A0n]
def VS.h0W {n:Nat}{H:M0}{id:Nat}{u:Value}(h:VS E ρ n H S (.mp id:V E.D) u):id<n/\u=hd (ρ id):=by
 obtain⟨c,h1,rfl⟩:=h;obtain⟨b,_,rfl⟩:=h1;exact⟨b,rfl⟩
def j0p {D:Nat->Type}:V D->Bool
 |.mp _=>true
 |_=>false
theorem L0C (h:Rp E A s ρ S a as w){v:V E.D}{u:Value}(b:VS E ρ s.nid w.heap S v u){T:Nat}{ty:Nat}{ts:Array TypeId}(j:ts[0]?=some T):
  S4 (q0K E s T v) (Z3 E s ρ S w (fun _=>j0p v=true) (Builtin.len_ ts ty #[u])):=by
 unfold q0K;split<;>try trivial
 ·split
  ·obtain rfl:=b.b0m;exact Z3.pure (VS.ki (x:=0)) fun w'=>by simp_all[Builtin.len_,run_underlying,goInt]
  ·split<;>try trivial
   rename_i t xs f;obtain⟨o,c,rfl⟩:=h.H0v b f;exact Z3.pure VS.dI fun w'=>by simp_all[Builtin.len_,run_underlying,goInt]
 ·split<;>try trivial
  obtain rfl:=b.M04;exact Z3.pure VS.dI fun w'=>by simp_all[Builtin.len_,run_underlying,goInt]
 ·rename_i n e g;exact Z3.pure (VS.ki (x:=n)) fun w'=>by simp_all[Builtin.len_,run_underlying,goInt]
 ·rename_i k e g;split<;>try trivial
  rename_i id;obtain⟨l,rfl⟩:=b.h0W;have d:=h.th id;split<;>try trivial
  rename_i m hl;rw[hl]at d;obtain⟨r,es,cl,i,hg,hm⟩:=d;refine⟨_,VS.dI,fun w' hw=>?_⟩;have p:=(hw.2 r rfl (getElem?_lt hg)).trans hg;have hlen:es.size=m.length:=by have:=congrArg List.length hm;grind
  simp_all[hd,Builtin.len_,run_underlying,goInt,getObj,Sem.run]
def B0O {n:Nat}{H:M0}{c x y:V E.D}{f h i:Value}(d:VS E ρ n H S c f)(e:VS E ρ n H S x h)(g:VS E ρ n H S y i):
  S4 (s0C c x y) (fun v=>∃u,VS E ρ n H S v u/\∃b,f=.bool b/\u=if b then h else i):=by
 unfold s0C;split<;>try trivial
 ·obtain rfl:=O9 (x:=true) rfl d;exact⟨_,e,_,rfl,rfl⟩
 ·obtain rfl:=O9 (x:=false) rfl d;exact⟨_,g,_,rfl,rfl⟩
 ·split<;>try trivial
  rename_i b j;obtain rfl:=O9 j d;split<;>try trivial
  rename_i p q hp hq;obtain rfl:=O9 hp e;obtain rfl:=O9 hq g;exact⟨_,VS.dB,_,rfl,V'⟩
theorem VT.of (h:Rp E A s ρ S a as w):∀(l:List Operand),VT E ρ s.nid w.heap S (l.map (T1 E s)) (l.map a.eval)
 |[]=>by rfl
 |x :: l=>by
  obtain⟨c,h1,b⟩:=h.val x;rw[List.map_cons,List.map_cons];exact⟨c,_,h1,by rw[b],VT.of h l⟩
def I0g {T:Nat}{v:V E.D}{u:Value}(e:VS E ρ s.nid w.heap S v u):S4 (mkIf E T v) (Z3 E s ρ S w (fun _=>False) (Instr.makeInterface T u)):=by
 unfold mkIf;split<;>try trivial
 rename_i d hd b;obtain⟨c,h1,rfl⟩:=e;refine Z3.pure (VS.of rfl (by exact⟨c,h1,rfl⟩)) fun w'=>?_;cases d<;>first|exact absurd rfl (hd _)|simp[Instr.makeInterface,run_underlying b]
def G02 {v:V E.D}{u:Value}(d:VS E ρ s.nid w.heap S v u):S4 (t0c v) (fun e=>VS E ρ s.nid w.heap S e u/\((∃b,u=.pointer (some b))\/(∃t x,u=.iface t x)\/∃f x,u=.func (.func f) #[] x)):=by
 unfold t0c;split<;>try trivial
 ·obtain⟨_,_,b,_,rfl⟩:=d.b04;exact⟨d,.inl ⟨_,rfl⟩⟩
 ·obtain⟨_,_,b,o,m,c,_,_,rfl⟩:=d.e0A;exact⟨d,.inl ⟨_,rfl⟩⟩
 ·obtain⟨b,o,cs,rfl,_⟩:=d.f0X;exact⟨d,.inl ⟨_,rfl⟩⟩
 ·obtain⟨g,rfl,_⟩:=d.n0s;exact⟨d,.inr (.inl ⟨_,_,rfl⟩)⟩
 ·obtain⟨c,h1,rfl⟩:=id d;obtain⟨us,rfl,_⟩:=h1;exact⟨d,.inr (.inr ⟨_,_,rfl⟩)⟩
def I0f {x y:Nat}{v:V E.D}{u:Value}(c:VS E ρ s.nid w.heap S v u):S4 (r0x E x y v) (Z3 E s ρ S w (fun _=>False) (convert x y u)):=by
 unfold r0x;split<;>try trivial
 split<;>try trivial
 rename_i d z b;obtain rfl:=S8 b c;exact Z3.pure VS.dI fun w'=>by simp_all[convert,run_underlying,Conv.intToInt]
def S4.imp {D:Nat->Type}{r:QR D}{P b:V D->Prop}(hp:∀v,P v->b v)(h:S4 r P):S4 r b:=h.mono hp
theorem m0G {n:Nat}{H:M0}{v:V E.D}{x:Int}{u:Value}(h:f03 v=some x)(b:VS E ρ n H S v u):u=.int .i64 x:=by
 grind [f03,S8]
theorem q0c {T:Nat}(h:k0e E T=true):∃c b,E.P.underlying T=some (.map c b)/\E.P.underlying c=some (.int .i64)/\(E.P.info? b).map (·.zero)=some (some (.int .i64 0)):=by
 grind [k0e,w0H]
def K0J (h:Rp E A s ρ S a as w){T:Nat}{x i:V E.D}{f l:Value}{ok:Bool}(u:VS E ρ s.nid w.heap S x f)(hi:VS E ρ s.nid w.heap S i l):
  S4 (q04 E s T x i ok) (Z3 E s ρ S w (fun _=>j0p x=true) (Instr.lookup T f l ok)):=by
 unfold q04;split<;>try trivial
 rename_i id;split<;>try trivial
 rename_i m k hl hk q;obtain⟨y,rfl⟩:=u.h0W;obtain rfl:=m0G hk hi;have o:=h.th id;rw[hl]at o;obtain⟨r,es,cl,e,hg,hm⟩:=o;obtain⟨z,C,h1,d,p⟩:=q0c q;have b:∀w',l6 E s S w (fun _=>True) w'->(Instr.lookup T (hd (ρ id)) (.int .i64 k) ok).run E.P w'=.ok (if ok then .tuple #[.int .i64 (B3 m k),.bool (T3 m k)]else .int .i64 (B3 m k)) w':=by
  intro w' hw;have g:=(hw.2 r trivial (getElem?_lt hg)).trans hg;obtain⟨inf,c,t⟩:=Option.map_eq_some_iff.1 p;rw[e];rcases k0L k es.toList m hm 0 with⟨f1,f2,f3,_⟩|⟨j,f1,f2,f3,_⟩
  ·simp[hd,Instr.lookup,run_underlying h1,d0B g,g08 d,Instr.findKey,run_underlying d,f1,f2,f3,zeroValue,typeInfo,c,t]
  ·simp[hd,Instr.lookup,run_underlying h1,d0B g,g08 d,Instr.findKey,run_underlying d,f1,f3]
 cases ok with
 |true=>
  refine⟨_,VS.of (v:=.tup [dI .i64 (B3 m k),dB (T3 m k)]) rfl ?_,fun w' hw=>b w' (hw.c04 fun _ _=>rfl)⟩;refine⟨[.int .i64 (B3 m k),.bool (T3 m k)],rfl,[.int .i64 (B3 m k)],[.bool (T3 m k)],by rfl,rfl,?_⟩;refine⟨[.bool (T3 m k)],[],by rfl,rfl,?_⟩;rfl
 |false=>exact⟨_,VS.dI,fun w' hw=>b w' (hw.c04 fun _ _=>rfl)⟩
theorem O0y {T:Nat}{xT:Nat}{v:V E.D}{u:Value}{ok:Bool}(p:VS E ρ s.nid w.heap S v u):S4 (l0t E T ok v) (Z3 E s ρ S w (fun _=>False) (Instr.typeAssert u xT T ok)):=by
 unfold l0t;split<;>try trivial
 rename_i g h j;split<;>try trivial
 rename_i b;have b:∃i z,E.P.info? T=some i/\i.zero=some z:=by
  unfold l0t.zeroInfo at b;split at b
  ·rename_i i hi;exact⟨i,_,hi,(Option.eq_some_of_isSome b)⟩
  grind
 obtain⟨inf,z,f,b⟩:=b;have tup:∀{x y:V E.D} {l m:Value},VS E ρ s.nid w.heap S x l->VS E ρ s.nid w.heap S y m->VS E ρ s.nid w.heap S (.tup [x,y]) (.tuple #[l,m]):=by
  rintro x y l m ⟨c,hc,rfl⟩ ⟨d,hd,rfl⟩
  refine VS.of rfl ?_;unfold VC VT;refine⟨[vl x c,vl y d],rfl,c,[vl y d],hc,rfl,?_⟩;unfold VT;exact⟨d,[],hd,rfl,by rfl⟩
 split<;>try trivial
 ·rename_i t x;obtain⟨r,rfl,q⟩:=p.n0s;split
  ·rename_i o;rw[beq_eq]at o;subst o;refine Z3.pure (tup q VS.kb) fun w'=>?_;cases g<;>simp[Instr.typeAssert,run_underlying j]<;>exact absurd rfl (h _)
  ·rename_i o;have k:t≠T:=fun e=>by simp_all
   refine Z3.pure (tup (VS.undef z) VS.kb) fun w'=>?_;cases g<;>simp[Instr.typeAssert,run_underlying j,k,zeroValue,typeInfo,f,b]<;>first|rfl|exact absurd rfl (h _)
 ·obtain rfl:=p.o0u;refine Z3.pure (tup (VS.undef z) VS.kb) fun w'=>?_;cases g<;>simp[Instr.typeAssert,run_underlying j,zeroValue,typeInfo,f,b]<;>first|rfl|exact absurd rfl (h _)
def D0F (h:Rp E A s ρ S a as w){v:V E.D}{u:Value}{t:U}{xs:List (Den E.D t)}(d:VS E ρ s.nid w.heap S v u)(hd:r0T E s v=some ⟨t,xs⟩):∃b c,u=.slice b xs.length c/\Sl (L0 E t) w.heap S b c xs:=by
 unfold r0T at hd;split at hd<;>try cases hd
 ·exact d.g0U
 ·rename_i id;split at hd<;>try cases hd
  rename_i hl;obtain⟨_,rfl⟩:=d.Y8;have:=h.th id;rw[hl]at this;exact this
theorem i07 {e:Nat}{t:U}(h:a0x E e t=true):(E.P.info? e).map (·.size)=some (L0 E t).sz:=by
 unfold a0x at h;split at h
 ·rename_i n hn;rw[beq_eq]at h;subst h;unfold D6 at hn;split at hn
  ·rename_i i hi;simp only[Option.some.injEq]at hn;rw[hi];exact congrArg some hn
  grind
 grind
theorem B0s (h:Rp E A s ρ S a as w){T:Nat}{x:V E.D}{ux:Value}(hx:VS E ρ s.nid w.heap S x ux)(i:∀y,VS E ρ s.nid w.heap S (T1 E s y) (a.eval y))(lo hi mx:Option Operand):
  S4 (s0Q E s T x (lo.map (T1 E s)) (hi.map (T1 E s)) (mx.map (T1 E s)) (r05 hi mx)) (Z3 E s ρ S w (fun _=>False) (Instr.sliceAt T ux (lo.map a.eval) (hi.map a.eval) (mx.map a.eval))):=by
 unfold s0Q;split<;>try trivial
 rename_i t xs e hd R;split<;>try trivial
 rename_i l f hz r o;obtain⟨U,c,rfl,C⟩:=D0F h hx hd;have q:(match lo.map a.eval with|none=>l=0|some y=>∃k,y=.int k l):=by
  cases lo with
  |none=>simp_all[loI]
  |some y=>
   simp only[Option.map_some,loI]at r ⊢;split at r<;>cases r
   rename_i k hk;exact⟨k,S8 hk (i y)⟩
 have z:∀y,hi=some y->∃k,a.eval y=.int k f:=fun y I=>by
  subst I;simp only[Option.map_some,hiI]at o;split at o<;>cases o
  rename_i k hk;exact⟨k,S8 hk (i y)⟩
 have data:∀(p:Option Addr) (c1:Nat),Sl (L0 E t) w.heap S p c1 (U1 xs l f)->VS E ρ s.nid w.heap S (.d (.list t) (U1 xs l f)) (.slice p (U1 xs l f).length c1):=fun p c1 h1=>VS.of rfl (by exact⟨p,c1,rfl,h1⟩);cases mx with
 |none=>
  intro b;obtain⟨p,h1,h2⟩:=q0x (lo:=lo.map a.eval) (hi:=hi.map a.eval) (mx:=none) (vlo:=l) (vhi:=f) (vmx:=c) R (i07 hz) C q (by
   cases hi with
   |none=>simp only[Option.map_none,hiI,Option.some.injEq]at o;simp_all
   |some y=>simp_all) rfl b (.inl rfl)
  grind [Z3.pure]
 |some m=>
  simp only[Option.map_some];split<;>try trivial
  rename_i km j y hm I;cases hi with
  |none=>cases I
  |some hy0=>
   have J:=S8 hm (i m);have main:(b5 xs l f&&(decide (f<=j)&&decide (j<=(xs.length:Int))))=true->∃p,(∀w',(Instr.sliceAt T (.slice U xs.length c) (lo.map a.eval) (some (a.eval hy0)) (some (a.eval m))).run E.P w'=.ok (.slice p (U1 xs l f).length (j-l).toNat) w')/\Sl (L0 E t) w.heap S p (j-l).toNat (U1 xs l f):=by
    intro b;simp only[and_eq_true,decide_eq_true_eq]at b;exact q0x (lo:=lo.map a.eval) (hi:=some (a.eval hy0)) (mx:=some (a.eval m)) (vlo:=l) (vhi:=f) (vmx:=j) R (i07 hz) C q (z hy0 rfl) ⟨km,J⟩ b.1 (.inr b.2)
   have fin:(b5 xs l f&&(decide (f<=j)&&decide (j<=(xs.length:Int))))=true->j=f->Z3 E s ρ S w (fun _=>False) (Instr.sliceAt T (.slice U xs.length c) (lo.map a.eval) (some (a.eval hy0)) (some (a.eval m))) (.df t (U1 xs l f)):=by
    intro b u;obtain⟨p,h1,h2⟩:=main b;simp only[and_eq_true,decide_eq_true_eq]at b;have hlen:=f0f b.1;subst u;refine Z3.pure (VS.of (v:=.df t (U1 xs l j)) rfl ?_) h1;unfold VC
    simp_all
   split
   ·rename_i g;intro b;have u:j=f:=by
     unfold r05 at g;split at g
     ·simp_all
     simp_all
    simp_all
   ·intro b
    grind
def L0a (h:Rp E A s ρ S a as w){op:BinOp}{T:Nat}{x y:Operand}{r:QR E.D}(i:VS E ρ s.nid w.heap S (T1 E s x) (a.eval x))(k:VS E ρ s.nid w.heap S (T1 E s y) (a.eval y))(hn:r0t E s op T (T1 E s x) (T1 E s y) (w0N y)=some r):
  S4 r (Z3 E s ρ S w (fun _=>False) (do eqGuard op T x y (a.eval x) (a.eval y);binOp op T (a.eval x) (a.eval y))):=by
 unfold r0t at hn;split at hn<;>try cases hn
 rotate_left
 ·rename_i ex z;split at hn<;>try cases hn
  rename_i pos' hk p R;obtain⟨e,q⟩:=(n0h (E:=E) (T:=T)).2.2.2 hk;rw[ex]at i;rw[z]at k;have d:=i.o0u;have f:=k.o0u;have heq:∀w':World,(Op.equal T .nilIface .nilIface).run E.P w'=.ok true w':=fun w'=>by
   unfold Op.equal Op.maxDepth Op.equalIn;simp[run_underlying q]
  rw[d,f];refine Z3.pure VS.W6 fun w'=>?_;have h1:=c0L p V' V' V' V' (heq w');have C:(eqGuard op T x y .nilIface .nilIface).run E.P w'=.ok () w':=by
   cases y with
   |const v=>rcases w0n p with⟨_,rfl⟩|⟨_,rfl⟩<;>simp[eqGuard]
   |_=>cases R
  simp[h1,C]
 rename_i id ex z;split at hn<;>try cases hn
 rename_i pos' hk p;obtain⟨e,q⟩:=(n0h (E:=E) (T:=T)).2.2.1 hk;rw[ex]at i;rw[z]at k;obtain⟨_,d⟩:=i.Y8;have f:=k.b0m;have l:=h.th id;have key:∀{b':Bool},(b'=true->∃g m c,hd (ρ id)=.slice (some g) m c)->S4 (.chk b' (W6 pos' false)) (Z3 E s ρ S w (fun _=>False) (do eqGuard op T x y (a.eval x) (a.eval y);binOp op T (a.eval x) (a.eval y))):=by
  intro b' J b;obtain⟨g,m,c,hg⟩:=J b;rw[d,f,hg];have heq:∀w':World,(Op.equal T (.slice (some g) m c) (.slice none 0 0)).run E.P w'=.ok false w':=fun w'=>by
   unfold Op.equal Op.maxDepth Op.equalIn;simp[run_underlying q]
  refine Z3.pure VS.W6 fun w'=>?_;have h1:=c0L p V' V' V' V' (heq w');have C:=F8.of (E:=E) (op:=op) (T:=T) (ua:=.slice (some g) m c) (ub:=.slice none 0 0) (by simp[b0z]) x y w';simp[h1,C]
 split at hn
 ·rename_i e' t xs hl;rw[<-Option.some.inj hn];rw[hl]at l;obtain⟨cs,j,_⟩:=l;refine key (b':=!xs.isEmpty) (fun b=>?_);rcases j.2 with⟨_,h0⟩|⟨g,o,cap,cur,u,_⟩
  ·cases xs<;>simp_all
  ·exact⟨_,_,_,by rw[u];rfl⟩
 ·rename_i t xs hl;rw[<-Option.some.inj hn];rw[hl]at l;obtain⟨A',c,u,I⟩:=l;refine key (b':=!xs.isEmpty) (fun b=>?_);have i:xs≠[]:=by rintro rfl;simp at b
  obtain⟨b0,o,U,_,_⟩:=I.2.1 i;subst U;exact⟨_,_,_,u⟩
 ·cases hn
def s0p (I:G2 E)(h:Rp E A s ρ S a as w)(o:Oper):
  S4 (evQ E s o) (fun v=>∃u,VS E ρ s.nid w.heap S v u/\∀w',l6 E s S w (e0D E s ρ o) w'->(execOp a.eval o).run E.P w'=.ok (.value u) w'):=by
 have up:∀{own:Nat->Prop} {f:Sem Value} {r:QR E.D},(∀k,own k->e0D E s ρ o k)->execOp a.eval o=(do pure (.value (<-f)))->S4 r (Z3 E s ρ S w own f)->
   S4 r (fun v=>∃u,VS E ρ s.nid w.heap S v u/\∀w',l6 E s S w (e0D E s ρ o) w'->(execOp a.eval o).run E.P w'=.ok (.value u) w'):=by
  intro own f r d U hr;refine hr.mono fun v ⟨u,m,hu⟩=>⟨u,m,fun w' hw=>?_⟩
  rw[U];simp[hu w' (hw.c04 d)]
 unfold evQ;split
 ·rename_i x d;exact⟨_,h.val x,fun w' _=>by simp[execOp,d]⟩
 ·rename_i x d;exact⟨_,h.val x,fun w' _=>by simp[execOp,d]⟩
 ·rename_i c x y d;refine(B0O (h.val c) (h.val x) (h.val y)).mono fun v ⟨u,m,b,R,hu⟩=>⟨u,m,fun w' _=>?_⟩
  simp_all[execOp,asBool]
 ·rename_i x d;refine(G02 (h.val x)).mono fun v ⟨m,hu⟩=>⟨_,m,fun w' _=>?_⟩
  rcases hu with⟨b,R⟩|⟨t,y,R⟩|⟨f,y,R⟩<;>simp[execOp,d,R]
 ·rename_i op T x y T2 d;split
  ·rename_i r hn;exact up (own:=fun _=>False) (fun _ e=>e.elim) (by simp[execOp,d]) (L0a h (h.val x) (h.val y) hn)
  refine(O0b I (h.val x) (h.val y)).mono fun v ⟨u,m,hu⟩=>⟨u,m,fun w' _=>?_⟩
  have h1:=(hu w').1;have h2:=(hu w').2 x y w'
  simp_all[execOp]
 ·rename_i op T x d;refine(K0g (h.val x)).mono fun v ⟨u,m,hu⟩=>⟨u,m,fun w' _=>?_⟩
  simp_all[execOp]
 ·rename_i x y z d;exact up (fun _ e=>e.elim) (by simp[execOp,d]) (I0f (h.val z))
 ·rename_i T x f d;exact up (fun _ e=>e.elim) (by simp[execOp,d]) (p0S I h (h.val x))
 ·rename_i T x f d;exact up (fun _ e=>e.elim) (by simp[execOp,d]) (x0t I h (h.val x))
 ·rename_i T x i d;exact up (fun _ e=>e.elim) (by simp[execOp,d]) (I0e I h (h.val x) (h.val i))
 ·rename_i T x d;exact up (fun k e=>by unfold e0D D9 F9;rw[d];exact e) (by simp[execOp,d]) (r0S I h (h.val x))
 ·rename_i x i d;split<;>try trivial
  rename_i l hl;have C:=h.val x;rw[hl]at C;obtain⟨us,hu,b1⟩:=C.t0X;refine(VT.get b1 (j:=i)).mono fun v ⟨u,hg,m⟩=>⟨u,m,fun w' _=>?_⟩
  simp_all[execOp,Instr.extract]
 ·rename_i T parts d;exact up (fun _ e=>e.elim) (by simp[execOp,d]) (I0q I h)
 ·rename_i fn first caps d
  split<;>try trivial
  rename_i f U;refine⟨_,VS.of rfl (by unfold VC;exact⟨caps.toList.map a.eval,rfl,VT.of h _⟩),fun w' _=>?_⟩;have:first=#[]:=by simpa using U
  subst this;have e:Array.map a.eval caps=(List.map a.eval caps.toList).toArray:=by rw[<-Array.toList_map]
  simp[execOp,d,Instr.makeFunc,e]
 ·rename_i T x d;exact up (fun _ e=>e.elim) (by simp[execOp,d]) (I0g (h.val x))
 ·rename_i x T T' ok d;exact up (fun _ e=>e.elim) (by simp[execOp,d]) (O0y (xT:=T) (h.val x))
 ·rename_i T x i ok d;refine up (fun k e=>?_) (by simp[execOp,d]) (K0J h (h.val x) (h.val i));refine⟨?_,fun q hq=>by unfold F9 at hq;rw[d]at hq;cases hq⟩;unfold D9;rw[d];simp only;cases m:T1 E s x<;>rw[m]at e<;>simp_all[j0p]
 ·rename_i T x lo hi mx d;exact up (fun _ e=>e.elim) (by simp[execOp,d]) (B0s h (h.val x) (fun y=>h.val y) lo hi mx)
 ·rename_i c d;split<;>try trivial
  ·rename_i x J C;split<;>try trivial
   rename_i T r hT;have a1:c.argTypes[0]?=some T:=by rw[<-Array.getElem?_toList,hT];rfl
   have g:c.args=#[x]:=by have:=congrArg List.toArray C;simpa using this
   refine up (own:=fun _=>j0p (T1 E s x)=true) (fun k e=>?_) ?_ (L0C h (h.val x) (ty:=o.type) a1)
   ·refine⟨?_,fun q hq=>by unfold F9 at hq;rw[d]at hq;cases hq⟩;unfold D9;rw[d];simp only[C];cases m:T1 E s x<;>rw[m]at e<;>simp_all[j0p]
   ·simp[execOp,d,resolve,J,g,invoke,builtin]
  ·rename_i x y J C;have g:c.args=#[x,y]:=by have:=congrArg List.toArray C;simpa using this
   unfold x0n;split<;>try trivial
   rename_i k p k' q hp hq;have e1:=S8 hp (h.val x);have e2:=S8 hq (h.val y);refine⟨_,VS.dI,fun w' _=>?_⟩;simp[execOp,d,resolve,J,g,invoke,builtin,Builtin.min_,Builtin.min2,e1,e2]
  ·rename_i x y J C;have g:c.args=#[x,y]:=by have:=congrArg List.toArray C;simpa using this
   unfold x0c;split<;>try trivial
   rename_i k p k' q hp hq;have e1:=S8 hp (h.val x);have e2:=S8 hq (h.val y);refine⟨_,VS.dI,fun w' _=>?_⟩;simp[execOp,d,resolve,J,g,invoke,builtin,Builtin.max_,Builtin.max2,e1,e2]
 ·trivial
end
end
