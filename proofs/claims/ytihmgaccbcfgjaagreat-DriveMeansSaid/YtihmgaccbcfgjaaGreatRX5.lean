/- P. Its conditions: none. -/
import Derived.Test.YtihmgaccbcfgjaaGreatRX4
open Bool (and_eq_true)
open Nat (beq_eq add_assoc)
set_option linter.all false
namespace Go.X
open Go.V Go.RowKit
section
variable {E:Env}{A:E4}{s:St E.D}{ρ:Nat->Value}{S:D0}{a:Act}{as:List Act}{w:World}{n:Nat}{H:I0}
def Q3 {D:Nat->Type}(r:QR D)(P:V D->Prop):Prop:=match r with
 |.bad=>True
 |.ok v=>P v
 |.chk b v=>b=true->P v
def Q3.mono {D:Nat->Type}{r:QR D}{P c:V D->Prop}(h:Q3 r P)(hp:∀v,P v->c v):Q3 r c:=by
 cases r with
 |bad=>trivial
 |ok v=>exact hp v h
 |chk b v=>exact fun d=>hp v (h d)
def VS.d {t:U}{x:Den E.D t}{u:Value}(b:L8 t=false)(h:VS E ρ n H S (.d t x) u):(J0 E t).R H S [u] x:=by
 obtain⟨c,h1,e⟩:=h;unfold VC at h1;have:vl (D:=E.D) (.d t x) c=c.headD Go.undef:=by simp_all[vl,V3,M3]
 rw[this]at e;have hl:c.length=1:=by
  have:=(J0 E t).len h1;cases t<;>simp[L8]at b<;>exact this
 match c,hl with
 |[z],_=>simp_all
theorem VS.of {v:V E.D}{u:Value}(b:V3 v=false)(h:VC E ρ n H S v [u]):VS E ρ n H S v u:=⟨[u],h,by unfold vl;rw[b];rfl⟩
theorem E9 {v:V E.D}{k:IntKind}{x:Int}{u:Value}(h:B5 v=some (k,x))(b:VS E ρ n H S v u):u=.int k x:=by
 cases v<;>simp only[B5]at h<;>try cases h
 ·obtain⟨c,h1,rfl⟩:=b;subst h1;rfl
 ·rename_i t y;cases t<;>simp only[]at h<;>try cases h
  have:=b.d (t:=.int k) rfl
  simp_all[J0,P1]
theorem L9 {v:V E.D}{x:Bool}{u:Value}(h:G6 v=some x)(b:VS E ρ n H S v u):u=.bool x:=by
 cases v<;>simp only[G6]at h<;>try cases h
 ·obtain⟨c,h1,rfl⟩:=b;subst h1;rfl
 ·rename_i t y;cases t<;>simp only[]at h<;>try cases h
  have:=b.d (t:=.bool) rfl
  simp_all[J0,l8]
def VS.dI {k:IntKind}{x:Int}:VS E ρ n H S (Go.X.dI k x) (.int k x):=VS.of rfl (by rfl)
def VS.ki {k:IntKind}{x:Int}:VS E ρ n H S (.ki k x) (.int k x):=VS.of rfl (by rfl)
def VS.dB {x:Bool}:VS E ρ n H S (Go.X.dB x) (.bool x):=VS.of rfl (by rfl)
def VS.kb {x:Bool}:VS E ρ n H S (.kb x) (.bool x):=VS.of rfl (by rfl)
def l0g {v:V E.D}{x:Int}{k:IntKind}{m:Int}(h:B5 v=some (k,x))(hl:g0E v=some m):m=x:=by
 cases v<;>simp[g0E,B5]at h hl
 omega
def O6 (E:Env)(s:St E.D)(S:D0)(w:World)(own:Nat->Prop)(w':World):Prop:=(∃b,P0 w.heap S w'.heap b)/\∀k,own k->k<w.heap.size->w'.heap[k]?=w.heap[k]?
def l0K {E:Env}(s:St E.D)(ρ:Nat->Value)(v:V E.D)(k:Nat):Prop:=d05 s v=true/\∀q,rdP s v=some q->B1 (hd (ρ q))=some k
def O6.b0a {E:Env}{s:St E.D}{S:D0}{w w':World}{own b:Nat->Prop}(h:O6 E s S w b w')(ho:∀k,own k->b k):O6 E s S w own w':=⟨h.1,fun k e=>h.2 k (ho k e)⟩
theorem z0B {E:Env}{s:St E.D}{id z q:Nat}{i:Int}{p:List B6}(h:rdP s (.pe id i z p)=some q):q=id:=by
 grind [rdP]
theorem pbK {E:Env}{s:St E.D}{ρ:Nat->Value}{id off k:Nat}{p:List B6}(h:Q1 (F0 s id)=true/\B1 (hd (ρ id))=some k):l0K s ρ (.pb id off p) k:=by
 refine⟨h.1,fun q b=>?_⟩
 grind [rdP]
def e0Q (E:Env)(s:St E.D)(ρ:Nat->Value)(o:Oper)(k:Nat):Prop:=k9 E s o=true/\∀q,l9 E s o=some q->B1 (hd (ρ q))=some k
theorem H0b {op:BinOp}{k:IntKind}{x y:Int}{b:Option Int}(hl:∀m,b=some m->m=y)(hs:g05 op=false)(T:Nat):
  Q3 (q0y op k x y b:QR E.D) (fun v=>∃u,VS E ρ n H S v u/\∀w':World,(binOp op T (.int k x) (.int k y)).run E.P w'=.ok u w'):=by
 cases op<;>simp only[g05,Bool.true_eq_false]at hs<;>simp only[q0y,Q3]
 all_goals simp[VS.dI,binOp,Op.intArith,Op.intBits,Q2,bor,i0T,u0i,VS.dB,Op.intCmp]
 ·cases b with
  |none=>
   simp_all[VS.dI,binOp,Op.intDiv]
  |some m=>
   have:=hl m rfl;by_cases c:m=0
   ·grind
   simp_all[VS.dI,binOp,Op.intDiv]
 ·cases b with
  |none=>
   simp_all[VS.dI,binOp,Op.intDiv]
  |some m=>
   have:=hl m rfl;by_cases c:m=0
   ·grind
   simp_all[VS.dI,binOp,Op.intDiv]
theorem B0z {op:BinOp}{k c:IntKind}{x y:Int}{b:Option Int}(hl:∀m,b=some m->m=y)(hs:g05 op=true)(T:Nat):
  Q3 (q0w op k x y b:QR E.D) (fun v=>∃u,VS E ρ n H S v u/\∀w':World,(binOp op T (.int k x) (.int c y)).run E.P w'=.ok u w'):=by
 have key:¬y<0->∃u,VS E ρ n H S (match op with|.shl=>Go.X.dI k (shl k x y)|_=>Go.X.dI k (shr k x y)) u/\∀w':World,(binOp op T (.int k x) (.int c y)).run E.P w'=.ok u w':=by
  intro d;cases op<;>simp only[g05,Bool.false_eq_true]at hs
  ·exact⟨_,VS.dI,fun w'=>by simp[binOp,Op.shift,d,shl]⟩
  ·exact⟨_,VS.dI,fun w'=>by simp[binOp,Op.shift,d,shr]⟩
 unfold q0w;cases b with
 |none=>
  grind [Q3]
 |some m=>
  grind [Q3]
theorem s0T {op:BinOp}{pos:Bool}(h:isEq op=some pos):(pos=true/\op=.eql)\/(pos=false/\op=.neq):=by
 grind [isEq]
def VS.i6 {pos r:Bool}:VS E ρ n H S (Go.X.i6 pos r) (.bool (sgn pos r)):=VS.kb
def VS.eqR {pos r:Bool}:VS E ρ n H S (Go.X.eqR pos r) (.bool (sgn pos r)):=VS.dB
def b0Z {op:BinOp}{pos:Bool}(h:isEq op=some pos){T:Nat}{c d:Value}{r:Bool}{w':World}(hi:∀k a,c≠.int k a)(hs:∀a,c≠.string a)(g:∀k b,c≠.float k b)(e:∀k a b,c≠.complex k a b)(f:(Op.equal T c d).run E.P w'=.ok r w'):
  (binOp op T c d).run E.P w'=.ok (.bool (sgn pos r)) w':=by
 rcases s0T h with⟨rfl,rfl⟩|⟨rfl,rfl⟩
 ·simp_all[binOp,sgn]
 simp_all[binOp,sgn]
theorem k0U {T:Nat}:(c0R E T=1->E.P.underlying T=some .bool)/\(c0R E T=2->∃e,E.P.underlying T=some (.pointer e))/\(c0R E T=3->∃e,E.P.underlying T=some (.slice e))/\(c0R E T=4->∃e,E.P.underlying T=some (.interface e)):=by
 grind [c0R]
def h0t (T:Nat)(x y:Value):∃d,Op.equal T x y=Op.equalIn (d+1) T x y:=⟨9999,rfl⟩
section
variable {P:Program}{T:Nat}
def l0s {e:Nat}(c:P.underlying T=some (.pointer e))(b:Option Addr)(w:World):(Op.equal T (.pointer none) (.pointer b)).run P w=.ok b.isNone w:=by
 obtain⟨d,h⟩:=h0t T (.pointer none) (.pointer b);rw[h];simp[Op.equalIn,run_underlying c]
def p0r {e:Nat}(c:P.underlying T=some (.pointer e))(b:Addr)(w:World):(Op.equal T (.pointer (some b)) (.pointer none)).run P w=.ok false w:=by
 obtain⟨d,h⟩:=h0t T (.pointer (some b)) (.pointer none);rw[h];simp[Op.equalIn,run_underlying c]
def x0c (b:P.underlying T=some .bool)(x y:Bool)(w:World):(Op.equal T (.bool x) (.bool y)).run P w=.ok (x==y) w:=by
 obtain⟨d,h⟩:=h0t T (.bool x) (.bool y);rw[h];simp[Op.equalIn,run_underlying b]
def x0q {e:Nat}(b:P.underlying T=some (.slice e))(w:World):(Op.equal T (.slice none 0 0) (.slice none 0 0)).run P w=.ok true w:=by
 obtain⟨d,h⟩:=h0t T (.slice none 0 0) (.slice none 0 0);rw[h];simp[Op.equalIn,run_underlying b]
def I0z {e:Array (String×TypeId)}(b:P.underlying T=some (.interface e))(t:Nat)(u:Value)(w:World):(Op.equal T (.iface t u) .nilIface).run P w=.ok false w:=by
 obtain⟨d,h⟩:=h0t T (.iface t u) .nilIface;rw[h];simp[Op.equalIn,run_underlying b]
end
def VS.f0b {u:Value}(h:VS E ρ n H S (.nilp:V E.D) u):u=.pointer none:=by
 obtain⟨c,h1,rfl⟩:=h;subst h1;rfl
def VS.b0q {u:Value}(h:VS E ρ n H S (.nil:V E.D) u):u=.slice none 0 0:=by
 obtain⟨c,h1,rfl⟩:=h;subst h1;rfl
def VS.i07 {u:Value}(h:VS E ρ n H S (.nilif:V E.D) u):u=.nilIface:=by
 obtain⟨c,h1,rfl⟩:=h;subst h1;rfl
def VS.o0p {T:Nat}{v:V E.D}{u:Value}(h:VS E ρ n H S (.ifc T v:V E.D) u):∃b,u=.iface T b/\VS E ρ n H S v b:=by
 obtain⟨c,h1,rfl⟩:=h;obtain⟨c',d,rfl⟩:=h1;exact⟨_,rfl,c',d,rfl⟩
def VS.b0O {id off:Nat}{p:List B6}{u:Value}(h:VS E ρ n H S (.pb id off p:V E.D) u):id<n/\a8 p/\∃b,hd (ρ id)=.pointer (some ⟨b,0,none⟩)/\u=.pointer (some ⟨b,off+D4 p,none⟩):=by
 obtain⟨c,h1,rfl⟩:=h;obtain⟨d,e,b,f,rfl⟩:=h1;exact⟨d,e,b,f,rfl⟩
def VS.d0e {id z:Nat}{i:Int}{p:List B6}{u:Value}(h:VS E ρ n H S (.pe id i z p:V E.D) u):id<n/\a8 p/\∃b o m c,hd (ρ id)=.slice (some ⟨b,o,none⟩) m c/\(0<=i/\i<m)/\u=.pointer (some ⟨b,o+i.toNat*z+D4 p,none⟩):=by
 obtain⟨c,h1,rfl⟩:=h;obtain⟨g,e,b,o,m,cc,f,d,rfl⟩:=h1;exact⟨g,e,b,o,m,cc,f,d,rfl⟩
def VS.g0H {t:U}{x:Den E.D t}{u:Value}(h:VS E ρ n H S (.pd t x:V E.D) u):PtR (J0 E t) H S u x:=by
 obtain⟨c,h1,rfl⟩:=h;obtain⟨v,rfl,b⟩:=h1;exact b
def VS.pd {t:U}{x:Den E.D t}{u:Value}(h:PtR (J0 E t) H S u x):VS E ρ n H S (.pd t x:V E.D) u:=VS.of rfl (by unfold VC;simp_all)
def VS.a0m {id:Nat}{u:Value}(h:VS E ρ n H S (.sl id:V E.D) u):id<n/\u=hd (ρ id):=by
 obtain⟨c,h1,rfl⟩:=h;obtain⟨b,_,rfl⟩:=h1;exact⟨b,rfl⟩
def VS.t0E {l:List (V E.D)}{u:Value}(h:VS E ρ n H S (.tup l:V E.D) u):∃us,u=.tuple us.toArray/\VT E ρ n H S l us:=by
 obtain⟨c,h1,rfl⟩:=h;obtain⟨us,rfl,b⟩:=h1;exact⟨us,rfl,b⟩
theorem VS.f0Z {t:U}{xs:List (Den E.D t)}{u:Value}(h:VS E ρ n H S (.d (.list t) xs:V E.D) u):∃A c,u=.slice A xs.length c/\Sl (J0 E t) H S A c xs:=by
 have:=h.d rfl;obtain⟨A,c,h1,b⟩:=this
 grind
def a03 (u:Value):Prop:=(∀l,u≠.agg l)/\u≠.nilIface
def H0I {op:BinOp}{T:Nat}{x y:Operand}{ua ub:Value}(h:a03 ua)(w':World):(eqGuard op T x y ua ub).run E.P w'=.ok () w':=by
 unfold eqGuard;obtain⟨h1,b⟩:=h
 simp_all
def s8 (E:Env)(op:BinOp)(T:Nat)(ua ub:Value):Prop:=∀(x y:Operand) (w':World),(eqGuard op T x y ua ub).run E.P w'=.ok () w'
theorem s8.of {op:BinOp}{T:Nat}{ua ub:Value}(h:a03 ua):s8 E op T ua ub:=fun _ _ w'=>H0I h w'
theorem I0O {T e:Nat}(c:E.P.underlying T=some (.pointer e)){op:BinOp}{pos:Bool}(ho:isEq op=some pos){a b:V E.D}{ua ub:Value}(ha:VS E ρ n H S a ua)(f:VS E ρ n H S b ub):
  Q3 (eqP pos a b) (fun v=>∃u,VS E ρ n H S v u/\∀w':World,(binOp op T ua ub).run E.P w'=.ok u w'/\s8 E op T ua ub):=by
 have key:∀r,(∀w':World,(Op.equal T ua ub).run E.P w'=.ok r w')->(∃q,ua=.pointer q)->∃u,VS E ρ n H S (Go.X.i6 pos r) u/\∀w':World,(binOp op T ua ub).run E.P w'=.ok u w'/\s8 E op T ua ub:=by
  rintro r h ⟨q,rfl⟩
  exact⟨_,VS.i6,fun w'=>⟨b0Z ho Z' Z' Z' Z' (h w'),s8.of (by simp[a03])⟩⟩
 unfold eqP;split<;>simp only[Q3]
 ·obtain rfl:=ha.f0b;obtain rfl:=f.f0b;exact key true (fun w'=>l0s c _ w') ⟨_,rfl⟩
 ·obtain rfl:=ha.f0b;obtain⟨_,_,b',_,rfl⟩:=f.b0O;exact key false (fun w'=>l0s c _ w') ⟨_,rfl⟩
 ·obtain rfl:=ha.f0b;obtain⟨b',k,g,rfl,_⟩:=f.g0H;exact key false (fun w'=>l0s c _ w') ⟨_,rfl⟩
 ·obtain⟨_,_,b',_,rfl⟩:=ha.b0O;obtain rfl:=f.f0b;exact key false (fun w'=>p0r c _ w') ⟨_,rfl⟩
 ·obtain⟨b',k,g,rfl,_⟩:=ha.g0H;obtain rfl:=f.f0b;exact key false (fun w'=>p0r c _ w') ⟨_,rfl⟩
 ·rename_i t x;obtain rfl:=f.f0b;have h1:(J0 E (.opt t)).R H S [ua] x:=ha.d rfl;obtain⟨v,j,m⟩:=h1;simp at j;subst j;refine⟨_,VS.eqR,fun w'=>?_⟩;have l:∀y:Option (Den E.D t),l0b (J0 E t) H S ua y->(∃q,ua=.pointer q)/\(Op.equal T ua (.pointer none)).run E.P w'=.ok y.isNone w':=by
   intro y i;cases y with
   |none=>subst i;exact⟨⟨_,rfl⟩,l0s c _ w'⟩
   |some z=>obtain⟨b',k,g,rfl,_⟩:=i;exact⟨⟨_,rfl⟩,p0r c _ w'⟩
  obtain⟨⟨q,rfl⟩,h⟩:=l x m;exact⟨b0Z ho Z' Z' Z' Z' h,s8.of (by simp[a03])⟩
theorem d0R {T n:Nat}(h:H5 E T=some n)(w:World):(sizeOf T).run E.P w=.ok n w:=by
 unfold H5 at h;split at h
 ·simp_all[sizeOf,typeInfo]
 grind
def p04 {T:Nat}{ag:Bool}(h:Y8 E T=some ag)(w:World):(isAgg T).run E.P w=.ok ag w:=by
 unfold Y8 at h;split at h<;>try cases h
 ·simp_all[isAgg,run_underlying]
 ·simp_all[isAgg,run_underlying]
 simp_all[isAgg,run_underlying]
def l0y (b:T1 E):∀(k:Nat) {v:V E.D} {c:List Value},VC E ρ n H S v c->VC E ρ n H S (leaf E k v) c
 |0,v,c,h=>h
 |k+1,v,c,h=>by
  simp only[leaf];split
  ·rename_i u he;exact l0y b k (m0g b he h).a0Q
  omega
def H09 {v:V E.D}{k:IntKind}{x:Int}{c:List Value}(h:B5 v=some (k,x))(b:VC E ρ n H S v c):c=[.int k x]:=by
 cases v<;>simp only[B5]at h<;>try cases h
 ·simp_all[VC]
 ·rename_i t z;cases t<;>simp only[]at h<;>try cases h
  exact b
def v0G {v:V E.D}{x:Bool}{c:List Value}(h:G6 v=some x)(b:VC E ρ n H S v c):c=[.bool x]:=by
 cases v<;>simp only[G6]at h<;>try cases h
 ·simp_all[VC]
 ·rename_i t z;cases t<;>simp only[]at h<;>try cases h
  exact b
def g0d (b:T1 E){v:V E.D}{k:IntKind}{x:Int}{c:List Value}(h:e0r E v=some (k,x))(d:VC E ρ n H S v c):c=[.int k x]:=H09 h (l0y b 10 d)
theorem j06 {α:Type}{l:List α}{v:α}(h:f0w l=some v):l=[v]:=by
 unfold f0w at h
 grind
def allEq:List Int->List Int->Bool
 |[],_=>true
 |[a],b :: _=>a==b
 |a :: l,b :: r=>(a==b)&&allEq l r
 |_,_=>true
theorem s0d (i:T1 E){k:IntKind}:∀{l r:List (V E.D)} {b:Bool} {cx g:List Value},b09 E k l r=some b->T0 E ρ n H S l cx->T0 E ρ n H S r g->∃xs ys:List Int,cx=xs.map (.int k)/\g=ys.map (.int k)/\xs.length=l.length/\ys.length=r.length/\xs.length=ys.length/\b=allEq xs ys
 |[],[],b,cx,g,h,e,f=>by
  subst e;subst f;simp[b09]at h;exact⟨[],[],rfl,rfl,rfl,rfl,rfl,by simp[allEq,h]⟩
 |[],_ :: _,b,cx,g,h,e,f=>by grind [b09]
 |_ :: _,[],b,cx,g,h,e,f=>by grind [b09]
 |[a],[c],b,cx,g,h,e,f=>by
  simp only[b09]at h;split at h<;>try cases h
  rename_i C x m y h1 j;split at h<;>try cases h
  rename_i hk;simp only[and_eq_true,decide_eq_true_eq]at hk;obtain⟨rfl,rfl⟩:=hk;obtain rfl:=g0d i h1 e.a0Q;obtain rfl:=g0d i j f.a0Q;exact⟨[x],[y],rfl,rfl,rfl,rfl,rfl,rfl⟩
 |[a],c :: d :: r,b,cx,g,h,e,f=>by
  simp_all[b09]
 |a :: a2 :: l,c :: r,b,cx,g,h,e,f=>by
  simp only[b09]at h;split at h<;>try cases h
  rename_i C x m y q h1 j o;split at h<;>try cases h
  rename_i hk;simp only[and_eq_true,decide_eq_true_eq]at hk;obtain⟨rfl,rfl⟩:=hk;obtain⟨c1,c2,rfl,t,z⟩:=e;obtain⟨d1,d2,rfl,v,u⟩:=f;obtain rfl:=g0d i h1 t;obtain rfl:=g0d i j v;obtain⟨xs,ys,rfl,rfl,I,J,R,p⟩:=s0d i o z u;refine⟨x :: xs,y :: ys,rfl,rfl,by grind,by grind,by grind,?_⟩;cases xs with
  |nil=>grind
  |cons x' xs=>cases ys with
   |nil=>grind
   |cons y' ys=>rw[p];rfl
theorem l01 (e:T1 E):∀(k m:Nat) (l q:List (V E.D)) (c:List Value),S9.cutA E k m l=some q->T0 E ρ n H S l c->T0 E ρ n H S q c/\q.length=m
 |0,m,l,q,c,h,_=>by grind [S9.cutA]
 |k+1,0,[],q,c,h,d=>by simp[S9.cutA]at h;simp_all
 |k+1,0,_ :: _,q,c,h,d=>by grind [S9.cutA]
 |k+1,m+1,l,q,c,h,d=>by
  simp only[S9.cutA]at h;split at h<;>try cases h
  rename_i v r b;split at h<;>try cases h
  rename_i j f;obtain⟨c1,c2,rfl,_,h1,g⟩:=b0z e _ _ _ _ _ b c d;obtain⟨i,o⟩:=l01 e k m r j c2 f g;exact⟨by exact⟨c1,c2,rfl,h1.a0Q,i⟩,by grind⟩
theorem I0K (P:Program)(d t e:Nat)(k:IntKind)(l:P.underlying t=some (.array 4 e))(he:P.underlying e=some (.int k))(hs:(P.info? e).map (·.size)=some 1)(a0 g a2 a3 b0 h j i:Int)(w:World):
  (Op.equalIn (d+2) t (.agg #[.int k a0,.int k g,.int k a2,.int k a3]) (.agg #[.int k b0,.int k h,.int k j,.int k i])).run P w=.ok ((a0==b0)&&((g==h)&&((a2==j)&&(a3==i)))) w:=by
 obtain⟨inf,b,f⟩:=Option.map_eq_some_iff.1 hs;have c:(isAgg e).run P w=.ok false w:=by simp_all[isAgg,run_underlying]
 unfold Op.equalIn;simp[run_underlying l,sizeOf,typeInfo,b,f,List.range',part,c,run_equalIn_int w d e k k _ _ he]
 grind
def u02 {T m:Nat}{ag:Bool}(b:Y8 E T=some ag)(c:H5 E T=some m)(h1:ag=false->m=1){c1 c2 c3:List Value}(hl:c2.length=m)(w:World):
  (part T (c1++(c2++c3)).toArray c1.length).run E.P w=.ok (M3 ag c2) w:=by
 have d:=p04 b w;have e:=d0R c w;cases ag with
 |true=>
  simp_all[part,M3]
 |false=>
  have h1:=h1 rfl
  match c2,hl.trans h1 with
  |[z],_=>
   simp_all[part,M3]
def w0N (hE:T1 E):∀(d T:Nat) (xs ys:List (V E.D)) (b:Bool),S9 E d T xs ys=some b->∀(cx cy:List Value),T0 E ρ n H S xs cx->T0 E ρ n H S ys cy->∀(m:Nat) (ag:Bool) (w:World),Y8 E T=some ag->d+1<=m->(Op.equalIn m T (M3 ag cx) (M3 ag cy)).run E.P w=.ok b w
 |0,T,xs,ys,b,h=>by simp[S9]at h
 |d+1,T,xs,ys,b,h=>by
  intro cx cy hx hy m ag w hag hm;obtain⟨m,rfl⟩:∃q,m=q+2:=⟨m-2,O'⟩
  simp only[S9]at h;split at h<;>try cases h
  ·rename_i k0 hT;have hag2:ag=false:=by unfold Y8 at hag;simp_all
   subst hag2;split at h<;>try cases h
   rename_i a c ha hc;split at h<;>try cases h
   rename_i k1 x k2 y h1 h2;split at h<;>try cases h
   rename_i hk;have hk:=of_decide_eq_true hk;subst hk;have e1:=j06 ha;have e2:=j06 hc;subst e1;subst e2;obtain rfl:=g0d hE h1 hx.a0Q;obtain rfl:=g0d hE h2 hy.a0Q;exact run_equalIn_int w (m+1) T k1 k0 x y hT
  ·rename_i hT;have hag2:ag=false:=by unfold Y8 at hag;simp_all
   subst hag2;split at h<;>try cases h
   rename_i a c ha hc;split at h<;>try cases h
   rename_i x y h1 h2;have e1:=j06 ha;have e2:=j06 hc;subst e1;subst e2;obtain rfl:=v0G h1 (l0y hE 10 hx.a0Q);obtain rfl:=v0G h2 (l0y hE 10 hy.a0Q);exact run_equalIn_bool w (m+1) T x y hT
  ·rename_i fs hT;have hag2:ag=true:=by unfold Y8 at hag;simp_all
   subst hag2;split at h<;>try cases h
   rename_i hp;have hfs:E.P.fieldsOf T=fs:=by simp_all[Program.fieldsOf]
   show(Op.equalIn (m+1+1) T (.agg cx.toArray) (.agg cy.toArray)).run E.P w=_;rw[run_equalIn_struct w (m+1) T cx.toArray cy.toArray (by simp_all) hp,hfs];have key:∀(l:List Field) (r:Option Bool),S9.eqFs E (S9 E d) l xs ys=some r->(Op.eqFields (m+1) cx.toArray cy.toArray l).run E.P w=.ok (match r with|some c=>c|none=>true) w:=by
    intro l
    induction l with
    |nil=>
     intro r hr;simp only[S9.eqFs,Option.some.injEq]at hr;subst hr;rfl
    |cons f l ih=>
     intro r hr;simp only[S9.eqFs]at hr;split at hr<;>try cases hr
     rename_i n0 hnm hsz heag;split at hr<;>try cases hr
     rename_i x1 mx x2 y1 my y2 hsx hsy;split at hr<;>try cases hr
     rename_i q r' hq hr';obtain⟨c1,c2,c3,rfl,hl1,hl2,_,hc2,_⟩:=f0W hE hsx hx;obtain⟨d1,d2,d3,rfl,hm1,hm2,_,hd2,_⟩:=f0W hE hsy hy;have hagf:∃ag,Y8 E f.type=some ag/\(ag=false->n0=1):=by
      unfold S9.eqAg at heag;rw[hsz]at heag;split at heag
      ·rename_i h _;exact⟨true,h,Z'⟩
      ·rename_i h h2;exact⟨false,h,fun _=>by simpa using h2⟩
      ·cases heag
     obtain ⟨agf,hagf,hag1⟩:=hagf;have p1:=u02 (c1:=c1) (c3:=c3) hagf hsz hag1 hl2 w;have p2:=u02 (c1:=d1) (c3:=d3) hagf hsz hag1 hm2 w;rw [hl1] at p1;rw [hm1] at p2;have p3:=w0N hE d f.type mx my q hq c2 d2 hc2 hd2 (m+1) agf w hagf (by omega);have p4:=ih r' hr';have hnm:f.name≠ "_":=by simpa using hnm
     simp only[Op.eqFields,if_pos hnm,ne_eq,Sem.run_bind,p1,Result.andThen_ok,p2,p3];cases q with
     |false=>cases r'<;>simp[m0H]
     |true=>
      simp only[Bool.not_true,Bool.false_eq_true,if_false];rw[p4];cases r'<;>simp[m0H]
   split at h<;>try cases h
   ·rename_i c hc;rw[key _ _ hc]
   ·rename_i hc;rw[key _ _ hc]
  ·rename_i e hT;have hag2:ag=true:=by unfold Y8 at hag;rw[hT]at hag;simpa using hag.symm
   subst hag2;split at h<;>try cases h
   rename_i k hk;split at h<;>try cases h
   rename_i l r hs hlx hly;obtain⟨h1,h2⟩:=l01 hE _ _ _ _ cx hlx hx;obtain⟨h3,h4⟩:=l01 hE _ _ _ _ cy hly hy;obtain⟨as,bs,rfl,rfl,e1,e2,e3,e4⟩:=s0d hE h h1 h3;have hs2:(E.P.info? e).map (·.size)=some 1:=by
    unfold H5 at hs;split at hs
    ·rename_i i hi;rw[hi];simpa using hs
    ·cases hs
   match as,bs,e1.trans h2,e2.trans h4 with
   |[a0,a1,a2,a3],[b0,b1,b2,b3],_,_=>
    rw[e4];exact I0K E.P m T e k hT hk hs2 a0 a1 a2 a3 b0 b1 b2 b3 w
theorem x0e (J:T1 E){T:Nat}{op:BinOp}{pos:Bool}(ho:isEq op=some pos){a b:V E.D}{ua ub:Value}(ha:VS E ρ n H S a ua)(f:VS E ρ n H S b ub):
  Q3 (eqV E T pos a b) (fun v=>∃u,VS E ρ n H S v u/\∀w':World,(binOp op T ua ub).run E.P w'=.ok u w'/\s8 E op T ua ub):=by
 obtain⟨k1,k2,k3,z⟩:=k0U (E:=E) (T:=T);unfold eqV;split
 ·rename_i hk;have d:=k1 hk;split<;>simp only[Q3]
  rename_i x y h C;obtain rfl:=L9 h ha;obtain rfl:=L9 C f;exact⟨_,VS.eqR,fun w'=>⟨b0Z ho Z' Z' Z' Z' (x0c d _ _ w'),s8.of (by simp[a03])⟩⟩
 ·grind [I0O]
 ·rename_i hk;obtain⟨e,d⟩:=k3 hk;split<;>simp only[Q3]
  ·obtain rfl:=ha.b0q;obtain rfl:=f.b0q;exact⟨_,VS.i6,fun w'=>⟨b0Z ho Z' Z' Z' Z' (x0q d w'),s8.of (by simp[a03])⟩⟩
  ·rename_i t xs;intro U;obtain rfl:=f.b0q;obtain⟨A',c,rfl,g⟩:=ha.f0Z;have h:xs≠[]:=by grind
   obtain⟨b,o,R,_,_⟩:=g.2.1 h;subst R;have heq:∀w':World,(Op.equal T (.slice (some ⟨b,o,none⟩) xs.length c) (.slice none 0 0)).run E.P w'=.ok false w':=fun w'=>by
    unfold Op.equal Op.maxDepth Op.equalIn;simp[run_underlying d]
   exact⟨_,VS.i6,fun w'=>⟨b0Z ho Z' Z' Z' Z' (heq w'),s8.of (by simp[a03])⟩⟩
 ·rename_i hk;obtain⟨e,d⟩:=z hk;split<;>simp only[Q3]
  obtain⟨u',rfl,_⟩:=ha.o0p;obtain rfl:=f.i07;exact⟨_,VS.i6,fun w'=>⟨b0Z ho Z' Z' Z' Z' (I0z d _ _ w'),s8.of (by simp[a03])⟩⟩
 ·split<;>try trivial
  rename_i hg;simp only[and_eq_true,Bool.not_eq_true']at hg;obtain⟨⟨⟨i,m⟩,hm⟩,a1⟩:=hg;split<;>try trivial
  rename_i r hr;have fl:∀{v:V E.D} {u:Value},V3 v=true->VS E ρ n H S v u->∃c,T0 E ρ n H S (j6 v) c/\u=.agg c.toArray:=by
   rintro v u I ⟨c,hc,rfl⟩
   refine⟨c,?_,by unfold vl;rw[I];rfl⟩;cases v<;>first|exact T0.one hc|(unfold VC at hc;exact hc)
  obtain⟨q,j,rfl⟩:=fl i ha;obtain⟨p,l,rfl⟩:=fl m f;have k:Y8 E T=some true:=by
   grind [t0I]
  have heq:∀w':World,(Op.equal T (.agg q.toArray) (.agg p.toArray)).run E.P w'=.ok r w':=fun w'=>by
   unfold Op.equal Op.maxDepth;exact w0N J 50 T _ _ r hr q p j l 10000 true w' k O'
  refine⟨_,VS.eqR,fun w'=>⟨b0Z ho Z' Z' Z' Z' (heq w'),fun x y w2=>run_eqGuard_agg (P:=E.P) w2 op T x y q.toArray p.toArray hm⟩⟩
def G0t (g:T1 E){T:Nat}{op:BinOp}{a b:V E.D}{ua ub:Value}(ha:VS E ρ n H S a ua)(e:VS E ρ n H S b ub):
  Q3 (p0S E op T a b) (fun v=>∃u,VS E ρ n H S v u/\∀w':World,(binOp op T ua ub).run E.P w'=.ok u w'/\s8 E op T ua ub):=by
 unfold p0S;split
 ·rename_i k x f y d c;obtain rfl:=E9 d ha;obtain rfl:=E9 c e;split
  ·rename_i hs;exact(B0z (fun m hm=>l0g c hm) hs T).mono fun v ⟨u,h1,h2⟩=>⟨u,h1,fun w'=>⟨h2 w',s8.of (by simp[a03])⟩⟩
  ·rename_i hs;split
   ·rename_i hk;have hk:=of_decide_eq_true hk;subst hk;exact(H0b (fun m hm=>l0g c hm) hs T).mono fun v ⟨u,h1,h2⟩=>⟨u,h1,fun w'=>⟨h2 w',s8.of (by simp[a03])⟩⟩
   ·trivial
 ·split
  ·simp_all[x0e]
  ·trivial
def D0E {op:UnOp}{a:V E.D}{ua:Value}(ha:VS E ρ n H S a ua):
  Q3 (unV op a) (fun v=>∃u,VS E ρ n H S v u/\∀w':World,(Op.unary op ua).run E.P w'=.ok u w'):=by
 unfold unV;split
 ·split<;>simp only[Q3]
  ·rename_i b;obtain rfl:=L9 (x:=b) rfl ha;simp[VS.kb,Op.unary]
  ·rename_i x;obtain rfl:=L9 (x:=x) rfl ha;simp[VS.dB,Op.unary]
 ·split<;>simp only[Q3]
  rename_i k x c;obtain rfl:=E9 c ha;simp[VS.dI,Op.unary,Op.intArith]
 ·split<;>simp only[Q3]
  rename_i k x c;obtain rfl:=E9 c ha;simp[VS.dI,Op.unary,Op.intBits,i0T]
 ·trivial
section
variable {E:Env}{A:E4}{s:St E.D}{ρ:Nat->Value}{S:D0}{a:Act}{as:List Act}{w:World}
def l0t (b o m:Nat):(⟨b,o,none⟩:Addr).add m=⟨b,o+m,none⟩:=by
 simp[Addr.add]
theorem p00 (p q:List B6):D4 (p++q)=D4 p+D4 q:=by
 induction p with
 |nil=>simp[D4]
 |cons x p ih=>
  grind [D4]
def o0C (p q:List B6):a8 (p++q)↔a8 p/\a8 q:=by
 induction p with
 |nil=>simp[a8]
 |cons x p ih=>
  rcases x with⟨j,o⟩|⟨i,z,m⟩<;>simp[a8,ih,and_assoc]
theorem o0Z:∀{ts:List U} {h:HL E.D ts} {j:Nat} {t:U} {y:Den E.D t},I5 ts h j=some ⟨t,y⟩->∀(H:I0) (S:D0) (cs:List Value),(a0S E ts).R H S cs h->
  ∃c1 c2 c3,cs=c1++(c2++c3)/\c1.length=c0g E ts j/\(J0 E t).R H S c2 y
 |[],_,_,_,_,h=>by grind [I5]
 |t' :: ts,hh,0,t,y,h=>by
  intro H S cs b;simp only[I5,Option.some.injEq,Sigma.mk.injEq]at h;obtain⟨rfl,h⟩:=h;subst h;obtain⟨c1,c2,rfl,h1,c⟩:=b;exact⟨[],c1,c2,Z',rfl,h1⟩
 |t' :: ts,hh,j+1,t,y,h=>by
  intro H S cs b;simp only[I5]at h;obtain⟨c1,c2,rfl,h1,c⟩:=b;obtain⟨d1,d2,d3,rfl,hl,d⟩:=o0Z h _ _ _ c;exact⟨c1++d1,d2,d3,Z',by rw[List.length_append,(J0 E t').len h1,hl];rfl,d⟩
def a0r {t:U}{xs:List (Den E.D t)}{i:Int}(b:0<=i)(h1:i<xs.length):xs[i.toNat]?=some (E6 E t xs i):=by
 exact @h0D _ ⟨dfl E t⟩ _ _ (by simp_all[y0])
theorem l0k (q:T1 E):∀{p:List B6} {t:U} {x:Den E.D t} {u:U} {y:Den E.D u},d0w E t x p=some ⟨u,y⟩->a8 p->∀(H:I0) (S:D0) (cs:List Value),(J0 E t).R H S cs x->
  ∃c1 c2 c3,cs=c1++(c2++c3)/\c1.length=D4 p/\(J0 E u).R H S c2 y
 |[],t,x,u,y,h,_=>by
  intro H S cs f;simp only[d0w,Option.some.injEq,Sigma.mk.injEq]at h;obtain⟨rfl,h⟩:=h;subst h;exact⟨[],cs,[],Z',rfl,f⟩
 |.inl (j,o) :: p,t,x,u,y,h,hp=>by
  intro H S cs f;cases t<;>simp only[d0w]at h<;>try cases h
  rename_i i;split at h
  ·rename_i ho;rw[beq_eq]at ho;split at h
   ·rename_i J y' hg;obtain⟨c1,c2,c3,rfl,hl,l⟩:=o0Z hg _ _ _ ((q.st i H S cs x).1 f);obtain⟨d1,d2,d3,rfl,c,d⟩:=l0k q h hp _ _ _ l;exact⟨c1++d1,d2,d3++c3,Z',by rw[List.length_append,hl,ho,c];rfl,d⟩
   grind
  grind
 |.inr (i,z,m) :: p,t,x,u,y,h,hp=>by
  intro H S cs f;cases t<;>simp only[d0w]at h<;>try cases h
  rename_i C I;split at h
  ·rename_i g;rw[and_eq_true,beq_eq,beq_eq]at g;obtain⟨g,rfl⟩:=g;obtain⟨hi,hp⟩:=hp;obtain⟨hlen,b⟩:=f;have v:(J0 E I).sz=z:=g;have e:=a0r (E:=E) (t:=I) (xs:=x) hi.1 O';have l:=b.2 i.toNat _ e;obtain⟨d1,d2,d3,hd,c,d⟩:=l0k q h hp _ _ _ l;refine⟨cs.take (i.toNat*z)++d1,d2,d3++(cs.drop (i.toNat*z)).drop z,?_,?_,d⟩
   ·grind [List.take_append_drop]
   ·have r:cs.length=C*z:=by rw[b.1,hlen,v]
    have k:i.toNat<C:=O'
    have:i.toNat*z<=C*z:=Nat.mul_le_mul_right _ (Nat.le_of_lt k);rw[List.length_append,List.length_take,c,r,Nat.min_eq_left this];rfl
  grind
def C0X {t:U}(h:L8 t=false):(J0 E t).sz=1:=by cases t<;>first|rfl|cases h
def VC.k0y {n:Nat}{H:I0}{v:V E.D}{c:List Value}(b:T1 E)(h:VC E ρ n H S v c)(ha:V3 v=false):c.length=1:=by
 have:=h.len b (by rintro l rfl;cases ha);rw[this];cases v<;>first|rfl|skip
 exact C0X ha
def r0b {n:Nat}{H:I0}{v:V E.D}{c:List Value}{ag:Bool}(ha:V3 v=ag):vl v c=M3 ag c:=by subst ha;rfl
theorem k07 {n:Nat}{H:I0}{t:U}{x:Den E.D t}{c:List Value}(h:VC E ρ n H S (.d t x) c):VC E ρ n H S (ofD t x) c:=by
 cases t<;>exact h
theorem i0Y {t:U}{x:Den E.D t}:V3 (ofD (D:=E.D) t x)=L8 t:=by cases t<;>rfl
def w0n {T b o n:Nat}{ag:Bool}(d:Y8 E T=some ag)(e:H5 E T=some n){c:List Value}(hl:c.length=n)(h1:ag=false->n=1){w:World}(f:∀j v,c[j]?=some v->O1 w.heap b (o+j)=some v):
  (loadVar T ⟨b,o,none⟩).run E.P w=.ok (M3 ag c) w:=by
 have k:=p04 d w;have g:=d0R e w;cases ag with
 |true=>
  have i:=k06 (P:=E.P) ⟨b,o,none⟩ w c 0 #[] (fun j v h=>by simp_all[k7])
  simp_all[loadVar,loadCells,M3]
 |false=>
  have hn:=h1 rfl
  match c,hl.trans hn with
  |[z],_=>
   have l:=f 0 z rfl
   simp_all[e0W,loadVar,M3]
theorem s03 {H:I0}{b T:Nat}{cs:List Value}(h:H[b]?=some (.cells cs.toArray T (0,0))){c1 c2 c3:List Value}(e:cs=c1++(c2++c3)){o:Nat}(ho:c1.length=o)(j:Nat)(v:Value)(c:c2[j]?=some v):O1 H b (o+j)=some v:=by
 grind [O1]
theorem Rp.u0F (h:Rp E A s ρ S a as w){id:Nat}{l:List (V E.D)}(d:k0A E s id=some l){b:Nat}(c:hd (ρ id)=.pointer (some ⟨b,0,none⟩)):
  ∃cs,T0 E ρ s.nid w.heap S l cs/\(∀u∈cs,u.oneCell'=true)/\∃T,∀w',O6 E s S w (fun k=>Q1 (F0 s id)=true/\B1 (hd (ρ id))=some k) w'->w'.heap[b]?=some (.cells cs.toArray T (0,0)):=by
 have e:=h.th id;unfold k0A at d;split at d
 ·rename_i T l' hl;simp at d;subst d;rw[hl]at e ⊢;obtain⟨b',cs,f,h1,g,i⟩:=e;rw[f]at c;simp[hd]at c;subst c;exact⟨cs,g,i,T,fun w' hw=>(hw.2 b' ⟨rfl,by rw[f];rfl⟩ (getElem?_lt h1)).trans h1⟩
 ·rename_i T l' hl;simp at d;subst d;rw[hl]at e ⊢;obtain⟨b',cs,f,h1,g,i,j⟩:=e;rw[f]at c;simp[hd]at c;subst c;refine⟨cs,g,i,T,fun w' hw=>?_⟩;obtain⟨m,k⟩:=hw.1;exact(k.blk b' (getElem?_lt h1) j).2.trans h1
 grind
theorem Row.cell {H:I0}{e sz n b o m c:Nat}{cs:List Value}(h:Row H e sz (.slice (some ⟨b,o,none⟩) m c) n cs)(hm:0<m):m=n/\b<H.size/\B1 (.slice (some ⟨b,o,none⟩) m c)=some b/\∀(f:I0),f[b]?=H[b]?->∀j,j<n*sz->O1 f b (o+j)=cs[j]?:=by
 obtain⟨q,d⟩:=h;rcases d with⟨_,a,i⟩|⟨g,cap,cur,i,hp,hg,hnc,hmx,hsz,htk⟩
 ·simp_all
 ·simp at i;obtain⟨⟨l,r⟩,k,p⟩:=i;subst l;subst k;subst p;refine⟨rfl,getElem?_lt hg,e0S hp,fun f hH j t=>?_⟩;unfold O1
  grind
theorem E5.el {H:I0}{e b o m c:Nat}{t:U}{xs:List (Den E.D t)}(h:E5 E H S e t xs (.slice (some ⟨b,o,none⟩) m c)):
  xs.length=m/\∀i:Int,0<=i->i<m->(b<H.size/\B1 (.slice (some ⟨b,o,none⟩) m c)=some b)/\∃cs,(J0 E t).R H S cs (E6 E t xs i)/\∀g:I0,g[b]?=H[b]?->∀j v,cs[j]?=some v->O1 g b (o+i.toNat*K2 E t+j)=some v:=by
 obtain⟨cs,d,f⟩:=h;obtain⟨rfl,_⟩:=d.cap;refine⟨rfl,fun i q h1=>?_⟩;obtain⟨_,r,k,x⟩:=Row.cell d O';refine⟨⟨r,k⟩,_,f.2 i.toNat _ (a0r q h1),fun g hH j v u=>?_⟩;have p:j<(J0 E t).sz:=by
  grind
 have l:i.toNat<xs.length:=O'
 have hle:i.toNat*(J0 E t).sz+(J0 E t).sz<=xs.length*(J0 E t).sz:=by rw[<-Nat.succ_mul];exact Nat.mul_le_mul_right _ l
 have e:K2 E t=(J0 E t).sz:=rfl
 grind
def E5.form {H:I0}{e:Nat}{t:U}{xs:List (Den E.D t)}{v:Value}(h:E5 E H S e t xs v):∃A' c,v=.slice A' xs.length c:=by
 obtain⟨cs,b,_⟩:=h;exact Row.form b
theorem Rp.i0w (h:Rp E A s ρ S a as w){id q f:Nat}{i:Int}{u:U}{ys:List (Den E.D u)}(hl:F0 s id=.rof q i f)(l:b0A E s q i f=some ⟨u,ys⟩):
  Q1 (F0 s q)=true/\hd (ρ id)=ρ id/\(∃e,E5 E w.heap S e u ys (ρ id))/\∀b,B1 (ρ id)=some b->Bk (ρ q) b/\B1 (hd (ρ q))≠some b:=by
 unfold b0A at l;split at l<;>try cases l
 rename_i e F t xs p;have d:=h.th q;rw[p]at d;obtain⟨cs,d⟩:=d;have R:=h.th id;rw[hl]at R;obtain⟨b,o,m,c,h1,C,z,v⟩:=h.rf id q i f hl e F t xs p;have g:=d.row;rw[h1]at g;obtain⟨rfl,hb,a1,hc⟩:=Row.cell g O';have j:=a0r (E:=E) (t:=t) (xs:=xs) C.1 C.2;obtain⟨r,I,h6⟩:=d.rows i.toNat _ f u ys _ j l (List.getElem?_eq_getElem z) Z';have x:rowAt F i.toNat f<xs.length*(J0 E t).sz:=by rw[<-d.row.1];grind
 have:=hc w.heap rfl _ x;rw[I]at this;have v:O1 w.heap b (o+rowAt F i.toNat f)=some (ρ id):=v;rw[v]at this;obtain rfl:=Option.some.inj this;have J:=e0P (o:=none) z Z' I Z';rw[<-d.tl]at J;refine⟨by rw[p];rfl,R.2.2,⟨_,h6⟩,fun k hk=>⟨Bk.tl (List.mem_of_getElem? J) hk,fun y=>?_⟩⟩;exact d.ap 0 (rowAt F i.toNat f+1) (hd (ρ q)) (ρ id) O' rfl (by simp_all) k y hk
theorem Rp.m0d (h:Rp E A s ρ S a as w){id:Nat}{t:U}{xs:List (Den E.D t)}(d:c0o E s (.sl id)=some ⟨t,xs⟩):
  (∃e,E5 E w.heap S e t xs (hd (ρ id))/\∀z i q,d05 s (.pe id i z q)=true)\/∃A' c,hd (ρ id)=.slice A' xs.length c/\Sl (J0 E t) w.heap S A' c xs:=by
 have j:=h.th id;unfold c0o at d;simp only at d;split at d<;>try cases d
 ·rename_i e hl;rw[hl]at j;obtain⟨cs,b,g⟩:=j;obtain⟨_,_,k⟩:=Row.form b;rw[k]at b;exact .inl ⟨e,⟨cs,by rw[k];exact b,g⟩,fun _ _ _=>by simp only[d05];rw[hl];rfl⟩
 ·rename_i hl;rw[hl]at j;obtain⟨A',c,p,l⟩:=j
  grind
 ·rename_i q i f hl;obtain⟨_,m,⟨e,o⟩,_⟩:=h.i0w hl d
  grind [d05]
theorem Rp.B0K (h:Rp E A s ρ S a as w){v:V E.D}{u:Value}(g:VS E ρ s.nid w.heap S v u){t:U}{xs:List (Den E.D t)}(b:g0Y E s v=some ⟨t,xs⟩):∃A' c,u=.slice A' xs.length c:=by
 have main:c0o E s v=some ⟨t,xs⟩->∃A' c,u=.slice A' xs.length c:=by
  intro b;have f:=b;unfold c0o at b;split at b
  ·cases b;obtain⟨A',c,h1,_⟩:=g.f0Z
   simp_all
  ·obtain⟨_,rfl⟩:=g.a0m;rcases h.m0d f with⟨e,h1,_⟩|⟨A',c,h1,_⟩
   ·exact h1.form
   simp_all
  grind
 unfold g0Y at b;split at b
 ·rename_i id;split at b
  ·rename_i hl;cases b;obtain⟨_,rfl⟩:=g.a0m;have d:=h.th id;rw[hl]at d;obtain⟨cs,d⟩:=d;exact Row.form d.row
  simp_all
 simp_all
theorem Rp.elC (h:Rp E A s ρ S a as w){id:Nat}{t:U}{xs:List (Den E.D t)}(u:c0o E s (.sl id)=some ⟨t,xs⟩){b o m c:Nat}(p:hd (ρ id)=.slice (some ⟨b,o,none⟩) m c):
  xs.length=m/\∀i:Int,0<=i->i<m->∃cs,(J0 E t).R w.heap S cs (E6 E t xs i)/\∀w' z k q,O6 E s S w (l0K s ρ (.pe id k z q)) w'->∀j v,cs[j]?=some v->O1 w'.heap b (o+i.toNat*K2 E t+j)=some v:=by
 rcases h.m0d u with⟨e,h1,h2⟩|⟨A',c',hv,hsl⟩
 ·rw[p]at h1;obtain⟨C,h5⟩:=h1.el;refine⟨C,fun i y I=>?_⟩;obtain⟨⟨r,b1⟩,cs,h8,h9⟩:=h5 i y I;exact⟨cs,h8,fun w' z k q hw=>h9 w'.heap (hw.2 b ⟨h2 z k q,fun q' a1=>by grind [z0B]⟩ r)⟩
 ·rw[p]at hv;obtain⟨rfl,rfl,rfl⟩:=hv;refine⟨rfl,fun i J h1=>?_⟩;obtain⟨b',o',cs,hA,hR,hc⟩:=hsl.2.2 i.toNat _ (a0r J h1);obtain⟨rfl,rfl⟩:=hA;refine⟨cs,hR,fun w' z k2 q hw j v x=>?_⟩;obtain⟨S',k⟩:=hw.1;have f:xs≠[]:=by grind
  obtain⟨b2,o2,g,d,l⟩:=hsl.2.1 f;obtain⟨rfl,rfl⟩:=g;rw[f0K (k.blk b d l).2];exact hc j v x
def B3 (E:Env)(s:St E.D)(ρ:Nat->Value)(S:D0)(w:World)(own:Nat->Prop)(f:Sem Value)(v:V E.D):Prop:=∃u,VS E ρ s.nid w.heap S v u/\∀w',O6 E s S w own w'->f.run E.P w'=.ok u w'
theorem w0p (J:T1 E)(h:Rp E A s ρ S a as w){T:Nat}{p:V E.D}{up:Value}(hp:VS E ρ s.nid w.heap S p up):
  Q3 (k0N E s T p) (B3 E s ρ S w (l0K s ρ p) (Instr.loadAt T up)):=by
 unfold k0N;split<;>try trivial
 rename_i ag m c6 e4;have fin:∀{v:V E.D} {c:List Value} {b o:Nat} {own:Nat->Prop},VC E ρ s.nid w.heap S v c->V3 v=ag->c.length=m->up=.pointer (some ⟨b,o,none⟩)->(∀w',O6 E s S w own w'->∀j u,c[j]?=some u->O1 w'.heap b (o+j)=some u)->B3 E s ρ S w own (Instr.loadAt T up) v:=by
  intro v c b o own l ha hl hu hc;refine⟨vl v c,⟨c,l,rfl⟩,fun w' hw=>?_⟩;have h1:ag=false->m=1:=fun e=>by rw[<-hl];exact l.k0y J (by grind)
  have:=w0n c6 e4 hl h1 (hc w' hw);rw[<-r0b (n:=s.nid) (H:=w.heap) ha]at this
  simp_all[Instr.loadAt,Instr.sureAddr]
 have f:∀{u:U} {y:Den E.D u} {c:List Value} {b o:Nat} {own:Nat->Prop},((L8 u==ag)&&(K2 E u==m))=true->(J0 E u).R w.heap S c y->up=.pointer (some ⟨b,o,none⟩)->(∀w',O6 E s S w own w'->∀j u,c[j]?=some u->O1 w'.heap b (o+j)=some u)->B3 E s ρ S w own (Instr.loadAt T up) (ofD u y):=by
  intro u y c b o own hk l hu hc;simp only[and_eq_true,beq_iff_eq]at hk;exact fin (k07 (show VC E ρ s.nid w.heap S (.d u y) c from l)) (by simp_all[i0Y]) (by rw[(J0 E u).len l];exact hk.2) hu hc
 split
 ·rename_i id off;obtain⟨_,_,b,hr,hu⟩:=hp.b0O;split<;>try trivial
  rename_i cs hb;obtain⟨cc,b3,h1,T',b2⟩:=h.u0F hb hr;split<;>try trivial
  rename_i x1 m1 x2 c8;obtain⟨c1,c2,c3,e,I,b5,_,hm,_⟩:=f0W J c8 b3;have g:∀w',O6 E s S w (l0K s ρ (.pb id off [])) w'->∀j u,c2[j]?=some u->O1 w'.heap b (off+j)=some u:=fun w' hw j u r=>s03 (b2 w' (hw.b0a fun _=>pbK)) e I j u r;split<;>try trivial
  ·rename_i t x ha;obtain⟨l,hi⟩:=f0x J ha hm;exact fin (k07 l) (by rw[i0Y];exact hi) b5 hu g
  ·rename_i v _ ha;obtain⟨l,hi⟩:=f0x J ha hm;exact fin l hi b5 hu g
 ·rename_i id off i q;obtain⟨_,a1,b,hr,hu⟩:=hp.b0O;split<;>try trivial
  rename_i cs hb;obtain⟨cc,b3,h1,T',b2⟩:=h.u0F hb hr;split<;>try trivial
  rename_i x1 k t x x2 c4;obtain⟨c1,c2,e,I,_,b4⟩:=b0z J _ _ _ _ _ c4 cc b3;unfold T0 at b4;obtain⟨d1,d2,rfl,hd,_⟩:=b4;split<;>try trivial
  rename_i u y hg;obtain⟨e1,e2,e3,C,hle,hy⟩:=l0k J hg a1 _ _ _ hd;split<;>try trivial
  rename_i hk;refine f hk hy hu fun w' hw j u r=>?_;refine s03 (c1:=c1++e1) (c2:=e2) (c3:=e3++d2) (b2 w' (hw.b0a fun _=>pbK)) (by rw[e,C];simp) (by rw[List.length_append,I,hle]) j u r
 ·rename_i id i z q;obtain⟨_,a1,b,o,mm,c,hr,⟨h0,h1⟩,hu⟩:=hp.d0e;split<;>try trivial
  rename_i t xs hx;obtain⟨hl,c0⟩:=h.elC hx hr;obtain⟨cs,hR,hc⟩:=c0 i h0 h1;split<;>try trivial
  rename_i u y hg;obtain⟨e1,e2,e3,C,hle,hy⟩:=l0k J hg a1 _ _ _ hR;split<;>try trivial
  rename_i hk;rw[and_eq_true,beq_eq]at hk;obtain⟨hk,rfl⟩:=hk;refine f hk hy hu fun w' hw j u r=>?_;have b1:j<e2.length:=(List.getElem?_eq_some_iff.1 r).1;have:=hc w' _ _ _ hw (e1.length+j) u (by rw[C,List.getElem?_append_right O',Nat.add_sub_cancel_left,List.getElem?_append_left b1];exact r);rw[hle]at this
  rwa [show o+i.toNat*K2 E t+D4 q+j=o+i.toNat*K2 E t+(D4 q+j)from O']
 ·rename_i t x;obtain⟨b,o,cs,hu,b1,c5,hR,hc⟩:=hp.g0H;split<;>try trivial
  rename_i hk;refine f hk hR hu fun w' hw j u r=>?_;obtain⟨S',k⟩:=hw.1;rw[f0K (k.blk b b1 c5).2];exact hc j u r
 ·trivial
theorem B3.pure {own:Nat->Prop}{f:Sem Value}{v:V E.D}{u:Value}(c:VS E ρ s.nid w.heap S v u)(b:∀w',f.run E.P w'=.ok u w'):B3 E s ρ S w own f v:=⟨u,c,fun w' _=>b w'⟩
def VS.pb {n:Nat}{H:I0}{id off b:Nat}{p:List B6}(h1:id<n)(d:a8 p)(c:hd (ρ id)=.pointer (some ⟨b,0,none⟩)):VS E ρ n H S (.pb id off p:V E.D) (.pointer (some ⟨b,off+D4 p,none⟩)):=
 VS.of rfl (by unfold VC;simp_all)
theorem VS.pe {n:Nat}{H:I0}{id z b o m c:Nat}{i:Int}{p:List B6}(h1:id<n)(e:a8 p)(f:hd (ρ id)=.slice (some ⟨b,o,none⟩) m c)(d:0<=i/\i<m):VS E ρ n H S (.pe id i z p:V E.D) (.pointer (some ⟨b,o+i.toNat*z+D4 p,none⟩)):=
 VS.of rfl (by unfold VC;grind)
theorem C0M (I:T1 E)(_h:Rp E A s ρ S a as w){T f:Nat}{p:V E.D}{up:Value}(hp:VS E ρ s.nid w.heap S p up):
  Q3 (m0O E s T p f) (B3 E s ρ S w (fun _=>False) (Instr.fieldAt T up f)):=by
 unfold m0O;split<;>try trivial
 rename_i o ho;have run:∀(b q:Nat) (w':World),up=.pointer (some ⟨b,q,none⟩)->(Instr.fieldAt T up f).run E.P w'=.ok (.pointer (some ⟨b,q+o,none⟩)) w':=by
  intro b q w' hu;unfold v0i at ho;split at ho<;>try cases ho
  split at ho<;>try cases ho
  split at ho<;>try cases ho
  simp_all[d0R,Instr.fieldAt,run_underlying,Instr.sureAddr,fieldPlace,l0t]
 split
 ·rename_i id off;obtain⟨h1,h,b,g,hu⟩:=hp.b0O;refine B3.pure (VS.pb (off:=off+o) h1 (p:=[]) trivial g) fun w'=>?_
  grind
 ·rename_i id off q _;obtain⟨h1,h,b,g,hu⟩:=hp.b0O;refine B3.pure (VS.pb (off:=off) h1 (p:=q++[.inl (f,o)]) ((o0C _ _).2 ⟨h,(show a8 [.inl (f,o)]from trivial)⟩) g) fun w'=>?_
  simp_all[p00,D4,add_assoc]
 ·rename_i id i z q;obtain⟨h1,h,b,U,m,c,g,r,hu⟩:=hp.d0e;split<;>try trivial
  split<;>try trivial
  split<;>try trivial
  refine B3.pure (VS.pe h1 (p:=q++[.inl (f,o)]) ((o0C _ _).2 ⟨h,(show a8 [.inl (f,o)]from trivial)⟩) g r) fun w'=>?_
  simp_all[p00,D4,add_assoc]
 ·rename_i k x;obtain⟨b,q,cs,hu,d,l,hR,J⟩:=hp.g0H;split<;>try trivial
  rename_i R;rw[beq_eq]at R;split<;>try trivial
  rename_i u y hg;obtain⟨c1,c2,c3,e,hl,C⟩:=o0Z hg _ _ _ ((I.st k w.heap S cs x).1 hR);refine B3.pure (VS.pd ⟨b,q+o,c2,rfl,d,l,C,fun j v t=>?_⟩) fun w'=>run b q w' hu;have d:j<c2.length:=(List.getElem?_eq_some_iff.1 t).1;have:=J (c1.length+j) v (by grind)
  grind
 ·trivial
def VS.flat {n:Nat}{H:I0}{v:V E.D}{u:Value}(h:VS E ρ n H S v u):∃c,T0 E ρ n H S (j6 v) c/\(V3 v=true->u=.agg c.toArray)/\(V3 v=false->u=c.headD Go.undef)/\VC E ρ n H S v c:=by
 obtain⟨c,h1,rfl⟩:=h;refine⟨c,?_,fun e=>by unfold vl;rw[e];rfl,fun e=>by unfold vl;rw[e];rfl,h1⟩;cases v<;>first|exact T0.one h1|(exact h1)
def E0X (d:T1 E)(_h:Rp E A s ρ S a as w){T f:Nat}{v:V E.D}{l:Value}(r:VS E ρ s.nid w.heap S v l):
  Q3 (m0e E T v f) (B3 E s ρ S w (fun _=>False) (Instr.field T l f)):=by
 unfold m0e;split<;>try trivial
 split<;>try trivial
 split<;>try trivial
 rename_i ag m h k;split<;>try trivial
 rename_i b;split<;>try trivial
 rename_i I m1 c1 j;obtain⟨cc,o,C,_,x⟩:=r.flat;obtain⟨d1,d2,d3,e,q,p,_,hm,_⟩:=f0W d j o;have fin:∀{g:V E.D},VC E ρ s.nid w.heap S g d2->V3 g=ag->V3 v=true->B3 E s ρ S w (fun _=>False) (Instr.field T l f) g:=by
  intro g c ha b;refine B3.pure ⟨d2,c,rfl⟩ fun w'=>?_;rw[r0b (E:=E) (n:=s.nid) (H:=w.heap) ha];have J:=p04 h w';have R:=d0R k w';cases ag with
  |true=>
   simp_all[Instr.field,run_underlying,asAgg,part,M3]
  |false=>
   have h1:=c.k0y d ha
   match d2,h1 with
   |[z],_=>
    simp_all[Instr.field,run_underlying,asAgg,part,M3]
 split<;>try trivial
 ·rename_i t y ha;obtain⟨i,hi⟩:=f0x d ha hm;exact fin (k07 i) (by rw[i0Y];exact hi) b
 ·rename_i u _ ha;obtain⟨i,hi⟩:=f0x d ha hm;exact fin i hi b
theorem e0L {e:Nat}{t:U}(h:b0d E e t=true)(w:World):(sizeOf e).run E.P w=.ok (K2 E t) w:=by
 grind [b0d,beq_eq,d0R]
theorem t0U {t:U}{H:I0}{A':Option Addr}{c:Nat}{xs:List (Den E.D t)}(h:Sl (J0 E t) H S A' c xs){j:Int}(k:y0 xs j=true):
  ∃b o,A'=some ⟨b,o,none⟩/\PtR (J0 E t) H S (.pointer (some ⟨b,o+j.toNat*K2 E t,none⟩)) (E6 E t xs j):=by
 obtain⟨m,h1⟩:=a0o k;obtain⟨b,o,cs,i,hR,l⟩:=h.2.2 j.toNat _ (a0r m h1);have e:xs≠[]:=by grind
 obtain⟨q,p,d,g,f⟩:=h.2.1 e;rw[i]at d;obtain⟨rfl,rfl⟩:=d;exact⟨b,o,i,b,_,cs,rfl,g,f,hR,l⟩
theorem D0o (hE:T1 E)(h:Rp E A s ρ S a as w){T:Nat}{p i:V E.D}{up ui:Value}(hp:VS E ρ s.nid w.heap S p up)(hi:VS E ρ s.nid w.heap S i ui):
  Q3 (o07 E s T p i) (B3 E s ρ S w (fun _=>False) (Instr.indexAt T up ui)):=by
 unfold o07;split<;>try trivial
 rename_i k j I;obtain rfl:=E9 I hi;split<;>try trivial
 ·rename_i e hT;have run:∀{b o m c z:Nat} (w':World),up=.slice (some ⟨b,o,none⟩) m c->(sizeOf e).run E.P w'=.ok z w'->0<=j->j<m->(Instr.indexAt T up (.int k j)).run E.P w'=.ok (.pointer (some ⟨b,o+j.toNat*z,none⟩)) w':=by
   intro b o m c z w' hu d y h1;subst hu;simp[Instr.indexAt,asIntOf,run_underlying hT,d,y,h1,l0t]
  split
  ·split<;>try trivial
   rename_i d;intro l;obtain⟨A',c,rfl,b2⟩:=hp.f0Z;obtain⟨b,o,rfl,a1⟩:=t0U b2 l;obtain⟨y,h1⟩:=a0o l;exact B3.pure (VS.pd a1) fun w'=>run w' rfl (e0L d w') y O'
  ·rename_i id;obtain⟨b1,rfl⟩:=hp.a0m;have R:=h.th id;split<;>try trivial
   ·rename_i e' t xs hl;split<;>try trivial
    rename_i d;intro l;obtain⟨y,h1⟩:=a0o l;rw[hl]at R;obtain⟨cs,⟨c4,r⟩,J⟩:=R;rcases r with⟨_,U⟩|⟨g,cap,cur,C,_⟩
    ·omega
    ·have C:hd (ρ id)=_:=congrArg hd C;have:=VS.pe (E:=E) (S:=S) (H:=w.heap) (z:=K2 E t) b1 (p:=[]) trivial C ⟨y,h1⟩;exact B3.pure this fun w'=>by rw[run w' C (e0L d w') y h1];rfl
   ·rename_i t xs hl;split<;>try trivial
    rename_i d;intro l;obtain⟨y,h1⟩:=a0o l;rw[hl]at R;obtain⟨A',c,C,b2⟩:=R;obtain⟨b,o,rfl,a1⟩:=t0U b2 l;exact B3.pure (VS.pd a1) fun w'=>run w' C (e0L d w') y h1
   ·rename_i e' F t xs o hl;split<;>try trivial
    rename_i d;intro l;obtain⟨y,h1⟩:=a0o l;rw[hl]at R;obtain⟨cs,R⟩:=R;rcases R.row.2 with⟨_,U⟩|⟨g,cap,cur,C,_⟩
    ·omega
    ·have:=VS.pe (E:=E) (S:=S) (H:=w.heap) (z:=K2 E t) b1 (p:=[]) trivial C ⟨y,h1⟩
     grind [B3.pure,e0L,D4]
   ·rename_i q k2 f hl;split<;>try trivial
    rename_i t xs hx;split<;>try trivial
    rename_i d;intro l;obtain⟨y,h1⟩:=a0o l;obtain⟨_,e1,⟨e2,cs,r,_⟩,_⟩:=h.i0w hl hx;rw[<-e1]at r;rcases r.2 with⟨_,U⟩|⟨g,cap,cur,C,_⟩
    ·omega
    ·have:=VS.pe (E:=E) (S:=S) (H:=w.heap) (z:=K2 E t) b1 (p:=[]) trivial C ⟨y,h1⟩
     grind [B3.pure,e0L,D4]
  ·trivial
 ·rename_i m e hT;have run:∀{b o z:Nat} (w':World),up=.pointer (some ⟨b,o,none⟩)->(sizeOf e).run E.P w'=.ok z w'->0<=j->j<m->(Instr.indexAt T up (.int k j)).run E.P w'=.ok (.pointer (some ⟨b,o+j.toNat*z,none⟩)) w':=by
   intro b o z w' hu d y h1;subst hu;simp[Instr.indexAt,Instr.sureAddr,asIntOf,run_underlying hT,d,y,h1,l0t]
  have out:∀{v:V E.D},(0<=j->j<m->B3 E s ρ S w (fun _=>False) (Instr.indexAt T up (.int k j)) v)->
    Q3 (g0C i j m v) (B3 E s ρ S w (fun _=>False) (Instr.indexAt T up (.int k j))):=by
   intro v C;unfold g0C;split
   ·rename_i hl;unfold v0l at hl;split at hl
    ·rename_i m' hm;have:=l0g I hm;subst this;simp only[and_eq_true,decide_eq_true_eq]at hl;exact C hl.1 hl.2
    ·cases hl
   ·intro hb;simp only[and_eq_true,decide_eq_true_eq]at hb;exact C hb.1 hb.2
  split
  ·rename_i id off;obtain⟨h1,h2,b,hr,hu⟩:=hp.b0O;split
   ·rename_i m' hm;have b3:=l0g I hm;split<;>try trivial
    rename_i z d;refine out fun U h4=>B3.pure (VS.pb (off:=off+m'.toNat*z) h1 (p:=[]) trivial hr) fun w'=>?_;rw[run w' hu (d0R d w') U h4,b3];simp[D4]
   ·split
    ·rename_i z d;refine out fun U h4=>B3.pure (VS.pb (off:=off) h1 (p:=[.inr (j,z,m)]) ⟨⟨U,h4⟩,trivial⟩ hr) fun w'=>?_;rw[run w' hu (d0R d w') U h4];simp[D4]
    ·trivial
  ·rename_i id k2 z q;obtain⟨h1,h2,b,o,mm,c,hr,h4,hu⟩:=hp.d0e;split<;>try trivial
   split<;>try trivial
   split<;>try trivial
   rename_i d;rw[and_eq_true]at d;refine out fun h5 h6=>B3.pure (VS.pe h1 (p:=q++[.inr (j,_,m)]) ((o0C _ _).2 ⟨h2,(show a8 [.inr (j,_,m)]from⟨⟨h5,h6⟩,trivial⟩)⟩) hr h4) fun w'=>?_;rw[run w' hu (e0L d.2 w') h5 h6,p00];simp[D4,add_assoc]
  ·rename_i n' u x;split<;>try trivial
   rename_i d;rw[and_eq_true,beq_eq]at d;obtain⟨rfl,d⟩:=d;refine out fun h5 h6=>?_;obtain⟨b,q,cs,hu,c3,b5,⟨hlen,J⟩,hc⟩:=hp.g0H;have b4:=a0r (E:=E) (t:=u) (xs:=x) h5 (by rw[hlen];exact h6);refine B3.pure (VS.pd ⟨b,q+j.toNat*K2 E u,_,rfl,c3,b5,J.2 _ _ b4,fun jj v I=>?_⟩) fun w'=>run w' hu (e0L d w') h5 h6;have c0:jj<(J0 E u).sz:=by
    rcases Nat.lt_or_ge jj (J0 E u).sz with h|h
    ·exact h
    ·rw[List.getElem?_eq_none V']at I;cases I
   rw[List.getElem?_take_of_lt c0,List.getElem?_drop]at I;have:=hc _ v I
   rwa [show q+(j.toNat*(J0 E u).sz+jj)=q+j.toNat*K2 E u+jj from by unfold K2;omega]at this
  ·trivial
theorem n0M:∀(l:List Value) (k off:Nat) (cells:Array Value) (d1 d2 d3:List Value),cells.toList=d1++(d2++d3)->d1.length=off+k->d2.length=l.length->
  ((l.zipIdx k).foldl (fun cs (p:Value×Nat)=>cs.setIfInBounds (off+p.2) p.1) cells).toList=d1++(l++d3)
 |[],k,off,cells,d1,d2,d3,h,_,b=>by
  simp_all
 |c :: l,k,off,cells,d1,[],d3,h,h1,b=>by grind
 |c :: l,k,off,cells,d1,x :: d2,d3,h,h1,b=>by
  have:=n0M l (k+1) off (cells.setIfInBounds (off+k) c) (d1++[c]) d2 d3 (by
   simp_all) (by grind) (by simp_all)
  simp_all
def VT.get {n:Nat}{H:I0}:∀{l:List (V E.D)} {us:List Value},VT E ρ n H S l us->∀{j:Nat},Q3 (o0W l j) (fun v=>∃u,us[j]?=some u/\VS E ρ n H S v u)
 |[],us,h,j=>by cases j<;>trivial
 |v :: l,us,h,0=>by
  obtain⟨c,d,h1,rfl,b⟩:=h;exact⟨_,rfl,c,h1,rfl⟩
 |v :: l,us,h,j+1=>by
  obtain⟨c,d,h1,rfl,b⟩:=h;exact(VT.get b (j:=j)).mono fun v e=>by simp_all
inductive PR (E:Env) (ρ:Nat->Value) (n:Nat) (H:I0) (S:D0):List (Nat×V E.D)->List (Nat×Value)->Prop
 |nil:PR E ρ n H S [] []
 |cons {i:Nat} {v:V E.D} {u:Value} {l:List (Nat×V E.D)} {l':List (Nat×Value)}:VS E ρ n H S v u->PR E ρ n H S l l'->PR E ρ n H S ((i,v) :: l) ((i,u) :: l')
def VC.one {n:Nat}{H:I0}{v:V E.D}{c:List Value}(h:VC E ρ n H S v c)(hs:g0T v=true):∀u∈c,u.oneCell'=true:=by
 cases v<;>simp only[g0T]at hs<;>try cases hs
 case d t x=>exact(J0 E t).one h
 case pd t x=>obtain⟨v,rfl,b,o,cs,rfl,_⟩:=h;simp[Value.oneCell']
 case df t x=>obtain⟨_,rfl,_⟩:=h;simp[Value.oneCell']
 case kb=>simp_all[VC,Value.oneCell']
 case ki=>simp_all[VC,Value.oneCell']
 case nil=>simp_all[VC,Value.oneCell']
 case nilp=>simp_all[VC,Value.oneCell']
 case nilif=>simp_all[VC,Value.oneCell']
 case nilfn=>simp_all[VC,Value.oneCell']
 case pb=>obtain⟨_,_,_,_,rfl⟩:=h;simp[Value.oneCell']
 case pe=>obtain⟨_,_,_,_,_,_,_,_,rfl⟩:=h;simp[Value.oneCell']
 case fn=>obtain⟨_,rfl,_⟩:=h;simp[Value.oneCell']
 case ifc=>obtain⟨_,_,rfl⟩:=h;simp[Value.oneCell']
 case sl id=>unfold VC at h;simp_all
 case mp id=>unfold VC at h;simp_all
def T0.s00 {n:Nat}{H:I0}:∀{l:List (V E.D)} {c:List Value},T0 E ρ n H S l c->l.all g0T=true->∀u∈c,u.oneCell'=true
 |[],c,h,_=>by simp_all[T0]
 |v :: l,c,h,hs=>by
  obtain⟨c1,c2,rfl,h1,b⟩:=h;simp only[List.all_cons,and_eq_true]at hs;intro u hu;rcases List.mem_append.1 hu with h|h
  ·exact h1.one hs.1 u h
  ·exact T0.s00 b hs.2 u h
theorem cells_one {v:Value}(h:v.oneCell'=true):v.cells=#[v]:=by cases v<;>simp_all[Value.cells,Value.oneCell']
theorem VS.cells {n:Nat}{H:I0}{v:V E.D}{u:Value}(e:T1 E)(h:VS E ρ n H S v u)(hs:c0O v=true):∃c,T0 E ρ n H S (j6 v) c/\u.cells=c.toArray/\(∀x∈c,x.oneCell'=true)/\VC E ρ n H S v c:=by
 obtain⟨c,h1,f,g,d⟩:=h.flat;have b:∀x∈c,x.oneCell'=true:=by
  refine T0.s00 h1 ?_;cases v<;>simp_all[j6,c0O]
 cases ha:V3 v with
 |true=>exact⟨c,h1,by rw[f ha];rfl,b,d⟩
 |false=>
  have hl:=d.k0y e ha
  match c,hl with
  |[z],_=>
   grind [cells_one]
theorem v0K {n:Nat}{H:I0}(b:T1 E):∀{l:List (V E.D)} {c:List Value},T0 E ρ n H S l c->(∀v∈l,∀l',v≠.agg l')->c.length=szs E l
 |[],c,h,_=>by subst h;rfl
 |v :: l,c,h,hs=>by
  obtain⟨c1,c2,rfl,h1,d⟩:=h;unfold szs;rw[List.length_append,h1.len b (hs v Z'),v0K b d (fun x e=>hs x (by grind))]
theorem i01 {n:Nat}{H:I0}(b:T1 E){v:V E.D}{c:List Value}(h:VC E ρ n H S v c)(hs:c0O v=true):c.length=vsz E v:=by
 cases v<;>first|exact h.len b Z'|skip
 refine v0K b h fun x d l' e=>?_;subst e;have:=List.all_eq_true.1 hs _ d;cases this
theorem r0w {n:Nat}{H:I0}(o:T1 E){pl:List (Nat×Nat)}{place:Nat->Option (Nat×Nat)}(hp:∀i p,pl[i]?=some p->place i=some p):∀{l:List (Nat×V E.D)} {l':List (Nat×Value)},PR E ρ n H S l l'->∀{cs g:List (V E.D)} {c:Array Value},
  d02 E pl l cs=some g->T0 E ρ n H S cs c.toList->∃c',Instr.fill place c l'=some c'/\T0 E ρ n H S g c'.toList
 |_,_,.nil,cs,g,c,h,hc=>by
  simp only[d02,Option.some.injEq]at h;subst h;exact⟨c,rfl,hc⟩
 |_,_,.cons (i:=i) (v:=v) (u:=u) hv hr,cs,g,c,h,hc=>by
  simp only[d02]at h;split at h<;>try cases h
  rename_i off m y;split at h<;>try cases h
  rename_i j;rw[and_eq_true,beq_eq]at j;split at h<;>try cases h
  rename_i a b d q;obtain⟨c1,c2,c3,e,C,z,ha,_,hd⟩:=f0W o q hc;obtain⟨k,r,f,_,t⟩:=hv.cells o j.2;have hlen:k.length=m:=(i01 o t j.2).trans j.1;have x:=n0M k 0 off c c1 c2 c3 e O' O';have key:T0 E ρ n H S (a++j6 v++d) ((u.cells.zipIdx.foldl (fun cs (p:Value×Nat)=>cs.setIfInBounds (off+p.2) p.1) c).toList):=by
   rw[f];have:(k.toArray.zipIdx.foldl (fun cs (p:Value×Nat)=>cs.setIfInBounds (off+p.2) p.1) c).toList=c1++(k++c3):=by
    simp_all
   rw[this,List.append_assoc];exact ha.app (r.app hd)
  obtain⟨c',R,J⟩:=r0w o hp hr h key;have I:c.toList.length=off+(m+c3.length):=by simp_all
  simp only[Instr.fill,hp i _ y]
  grind
def VS.V7 {n:Nat}{H:I0}(v:Value):VS E ρ n H S (V7 v:V E.D) v/\(V3 (V7 v:V E.D)=false):=by
 unfold Go.X.V7;split<;>first|exact⟨⟨[_],by rfl,rfl⟩,rfl⟩|exact⟨VS.undef _,rfl⟩
def VC.V7 {n:Nat}{H:I0}(v:Value):VC E ρ n H S (V7 v:V E.D) [v]:=by
 unfold Go.X.V7;split<;>unfold VC<;>first|rfl|simp
def T0.w0r {n:Nat}{H:I0}:∀(l:List Value),T0 E ρ n H S (l.map Go.X.V7:List (V E.D)) l
 |[]=>T0.nil
 |v :: l=>by
  exact⟨[v],l,rfl,VC.V7 v,T0.w0r l⟩
def q01 (v:Value):j6 (Go.X.V7 v:V E.D)=[Go.X.V7 v]:=by
 unfold Go.X.V7;split<;>rfl
def l0f {n:Nat}{H:I0}(z:Value):T0 E ρ n H S (j6 (ofZ E z)) z.cells.toList:=by
 have key:∀v:Value,(∀l,v≠.agg l)->T0 E ρ n H S (j6 (Go.X.V7 v:V E.D)) v.cells.toList:=by
  intro v b;rw[q01];have:v.cells=#[v]:=by cases v<;>first|rfl|simp_all
  simp_all[T0.one,VC.V7]
 unfold ofZ;split
 ·rename_i cs;exact T0.w0r cs.toList
 simp_all
def v0U:∀{fs:List Field} {pl:List (Nat×Nat)},g03 E fs=some pl->fs.mapM (fun f=>(E.P.info? f.type).map fun i=>(f.offset,i.size))=some pl
 |[],pl,h=>by simp_all[g03]
 |f :: fs,pl,h=>by
  simp only[g03]at h;split at h<;>try cases h
  rename_i n l hn hl;unfold H5 at hn;split at hn<;>try cases hn
  simp_all[v0U]
theorem PR.of {n:Nat}(b:∀x,VS E ρ n w.heap S (N1 E s x) (a.eval x)):∀(l:List (Nat×Operand)),PR E ρ n w.heap S (l.map fun p=>(p.1,N1 E s p.2)) (l.map fun p=>(p.1,a.eval p.2))
 |[]=>.nil
 |p :: l=>.cons (b p.2) (PR.of b l)
theorem D0R (j:T1 E)(h:Rp E A s ρ S a as w){T:Nat}{parts:Array (Nat×Operand)}:
  Q3 (n08 E s T parts.toList) (B3 E s ρ S w (fun _=>False) (Instr.build T (parts.map fun p=>(p.1,a.eval p.2)))):=by
 have d:=PR.of (E:=E) h.val parts.toList;unfold n08;split<;>try trivial
 split<;>try trivial
 rename_i z k;have fin:∀{pl:List (Nat×Nat)} {place:Nat->Option (Nat×Nat)} {cs:List (V E.D)},(∀i p,pl[i]?=some p->place i=some p)->d02 E pl (parts.toList.map fun p=>(p.1,N1 E s p.2)) (j6 (ofZ E z))=some cs->
   (∀c',Instr.fill place z.cells (parts.toList.map fun p=>(p.1,a.eval p.2))=some c'->E.P.built T (parts.toList.map fun p=>(p.1,a.eval p.2))=some c')->B3 E s ρ S w (fun _=>False) (Instr.build T (parts.map fun p=>(p.1,a.eval p.2))) (.agg cs):=by
  intro pl place cs hp b o;obtain⟨c',h1,l⟩:=r0w j hp d b (l0f z);refine B3.pure ⟨c'.toList,by simp_all[VC],rfl⟩ fun w'=>?_
  simp_all[run_build,vl,V3,M3]
 split<;>try trivial
 ·split<;>try trivial
  rename_i pl f;split<;>try trivial
  rename_i cs b;refine fin (place:=fun i=>pl.toArray[i]?) (fun i p hp=>by simp_all) b fun c' c=>?_
  simp_all[Program.built,v0U]
 ·split<;>try trivial
  rename_i m hm;split<;>try trivial
  rename_i cs b;unfold H5 at hm;split at hm<;>try cases hm
  rename_i e g;refine fin (place:=fun i=>some (i*e.size,e.size)) (fun i p hp=>?_) b fun c' c=>?_
  ·grind
  simp_all[Program.built]
def VS.B0q {n:Nat}{H:I0}{x:ByteArray}{u:Value}(h:VS E ρ n H S (.d .str x) u):u=.string x:=by
 have:(J0 E .str).R H S [u] x:=h.d rfl
 simp_all[J0,w0m]
def VS.l0w {n:Nat}{H:I0}{id:Nat}{u:Value}(h:VS E ρ n H S (.mp id:V E.D) u):id<n/\u=hd (ρ id):=by
 obtain⟨c,h1,rfl⟩:=h;obtain⟨b,_,rfl⟩:=h1;exact⟨b,rfl⟩
def i0g {D:Nat->Type}:V D->Bool
 |.mp _=>true
 |_=>false
theorem z0E (h:Rp E A s ρ S a as w){v:V E.D}{u:Value}(b:VS E ρ s.nid w.heap S v u){T:Nat}{ty:Nat}{ts:Array TypeId}(g:ts[0]?=some T):
  Q3 (m0C E s T v) (B3 E s ρ S w (fun _=>i0g v=true) (Builtin.len_ ts ty #[u])):=by
 unfold m0C;split<;>try trivial
 ·split
  ·obtain rfl:=b.b0q;exact B3.pure (VS.ki (x:=0)) fun w'=>by simp_all[Builtin.len_,run_underlying,goInt]
  ·split<;>try trivial
   rename_i t xs f;obtain⟨A',c,rfl⟩:=h.B0K b f;exact B3.pure VS.dI fun w'=>by simp_all[Builtin.len_,run_underlying,goInt]
 ·split<;>try trivial
  obtain rfl:=b.B0q;exact B3.pure VS.dI fun w'=>by simp_all[Builtin.len_,run_underlying,goInt]
 ·rename_i n e l;exact B3.pure (VS.ki (x:=n)) fun w'=>by simp_all[Builtin.len_,run_underlying,goInt]
 ·rename_i k e l;split<;>try trivial
  rename_i id;obtain⟨j,rfl⟩:=b.l0w;have d:=h.th id;split<;>try trivial
  rename_i m hl;rw[hl]at d;obtain⟨r,es,cl,i,hg,hm⟩:=d;refine⟨_,VS.dI,fun w' hw=>?_⟩;have o:=(hw.2 r rfl (getElem?_lt hg)).trans hg;have hlen:es.size=m.length:=by have:=congrArg List.length hm;grind
  simp_all[hd,Builtin.len_,run_underlying,goInt,getObj,Sem.run]
def x0W {n:Nat}{H:I0}{c x y:V E.D}{i f e:Value}(d:VS E ρ n H S c i)(g:VS E ρ n H S x f)(h:VS E ρ n H S y e):
  Q3 (n0j c x y) (fun v=>∃u,VS E ρ n H S v u/\∃b,i=.bool b/\u=if b then f else e):=by
 unfold n0j;split<;>try trivial
 ·obtain rfl:=L9 (x:=true) rfl d;exact⟨_,g,_,rfl,rfl⟩
 ·obtain rfl:=L9 (x:=false) rfl d;exact⟨_,h,_,rfl,rfl⟩
 ·split<;>try trivial
  rename_i b k;obtain rfl:=L9 k d;split<;>try trivial
  rename_i p q hp j;obtain rfl:=L9 hp g;obtain rfl:=L9 j h;exact⟨_,VS.dB,_,rfl,Z'⟩
theorem VT.of (h:Rp E A s ρ S a as w):∀(l:List Operand),VT E ρ s.nid w.heap S (l.map (N1 E s)) (l.map a.eval)
 |[]=>by rfl
 |x :: l=>by
  obtain⟨c,h1,b⟩:=h.val x;rw[List.map_cons,List.map_cons];exact⟨c,_,h1,by rw[b],VT.of h l⟩
def z0M {T:Nat}{v:V E.D}{u:Value}(b:VS E ρ s.nid w.heap S v u):Q3 (mkIf E T v) (B3 E s ρ S w (fun _=>False) (Instr.makeInterface T u)):=by
 unfold mkIf;split<;>try trivial
 rename_i d hd e;obtain⟨c,h1,rfl⟩:=b;refine B3.pure (VS.of rfl (by exact⟨c,h1,rfl⟩)) fun w'=>?_;cases d<;>first|exact absurd rfl (hd _)|simp[Instr.makeInterface,run_underlying e]
def y0o {v:V E.D}{u:Value}(d:VS E ρ s.nid w.heap S v u):Q3 (n0i v) (fun e=>VS E ρ s.nid w.heap S e u/\((∃b,u=.pointer (some b))\/(∃t x,u=.iface t x)\/∃f x,u=.func (.func f) #[] x)):=by
 unfold n0i;split<;>try trivial
 ·obtain⟨_,_,b,_,rfl⟩:=d.b0O;exact⟨d,.inl ⟨_,rfl⟩⟩
 ·obtain⟨_,_,b,o,m,c,_,_,rfl⟩:=d.d0e;exact⟨d,.inl ⟨_,rfl⟩⟩
 ·obtain⟨b,o,cs,rfl,_⟩:=d.g0H;exact⟨d,.inl ⟨_,rfl⟩⟩
 ·obtain⟨g,rfl,_⟩:=d.o0p;exact⟨d,.inr (.inl ⟨_,_,rfl⟩)⟩
 ·obtain⟨c,h1,rfl⟩:=id d;obtain⟨us,rfl,_⟩:=h1;exact⟨d,.inr (.inr ⟨_,_,rfl⟩)⟩
def H03 {x y:Nat}{v:V E.D}{u:Value}(b:VS E ρ s.nid w.heap S v u):Q3 (o0G E x y v) (B3 E s ρ S w (fun _=>False) (convert x y u)):=by
 unfold o0G;split<;>try trivial
 split<;>try trivial
 rename_i d z c;obtain rfl:=E9 c b;exact B3.pure VS.dI fun w'=>by simp_all[convert,run_underlying,Conv.intToInt]
def Q3.imp {D:Nat->Type}{r:QR D}{P b:V D->Prop}(hp:∀v,P v->b v)(h:Q3 r P):Q3 r b:=h.mono hp
theorem q0K {n:Nat}{H:I0}{v:V E.D}{x:Int}{u:Value}(h:h0z v=some x)(b:VS E ρ n H S v u):u=.int .i64 x:=by
 grind [h0z,E9]
theorem v0s {T:Nat}(h:l0B E T=true):∃b c,E.P.underlying T=some (.map b c)/\E.P.underlying b=some (.int .i64)/\(E.P.info? c).map (·.zero)=some (some (.int .i64 0)):=by
 grind [l0B,t0j]
def A0D (h:Rp E A s ρ S a as w){T:Nat}{x i:V E.D}{g l:Value}{ok:Bool}(q:VS E ρ s.nid w.heap S x g)(hi:VS E ρ s.nid w.heap S i l):
  Q3 (q0f E s T x i ok) (B3 E s ρ S w (fun _=>i0g x=true) (Instr.lookup T g l ok)):=by
 unfold q0f;split<;>try trivial
 rename_i id;split<;>try trivial
 rename_i m k hl hk u;obtain⟨y,rfl⟩:=q.l0w;obtain rfl:=q0K hk hi;have f:=h.th id;rw[hl]at f;obtain⟨r,es,cl,e,hg,hm⟩:=f;obtain⟨z,C,h1,d,t⟩:=v0s u;have b:∀w',O6 E s S w (fun _=>True) w'->(Instr.lookup T (hd (ρ id)) (.int .i64 k) ok).run E.P w'=.ok (if ok then .tuple #[.int .i64 (U7 m k),.bool (J7 m k)]else .int .i64 (U7 m k)) w':=by
  intro w' hw;have o:=(hw.2 r trivial (getElem?_lt hg)).trans hg;obtain⟨inf,c,p⟩:=Option.map_eq_some_iff.1 t;rw[e];rcases o0a k es.toList m hm 0 with⟨f1,f2,f3,_⟩|⟨j,f1,f2,f3,_⟩
  ·simp[hd,Instr.lookup,run_underlying h1,e08 o,j0d d,Instr.findKey,run_underlying d,f1,f2,f3,zeroValue,typeInfo,c,p]
  ·simp[hd,Instr.lookup,run_underlying h1,e08 o,j0d d,Instr.findKey,run_underlying d,f1,f3]
 cases ok with
 |true=>
  refine⟨_,VS.of (v:=.tup [dI .i64 (U7 m k),dB (J7 m k)]) rfl ?_,fun w' hw=>b w' (hw.b0a fun _ _=>rfl)⟩;refine⟨[.int .i64 (U7 m k),.bool (J7 m k)],rfl,[.int .i64 (U7 m k)],[.bool (J7 m k)],by rfl,rfl,?_⟩;refine⟨[.bool (J7 m k)],[],by rfl,rfl,?_⟩;rfl
 |false=>exact⟨_,VS.dI,fun w' hw=>b w' (hw.b0a fun _ _=>rfl)⟩
theorem C0K {T:Nat}{xT:Nat}{v:V E.D}{u:Value}{ok:Bool}(p:VS E ρ s.nid w.heap S v u):Q3 (j0G E T ok v) (B3 E s ρ S w (fun _=>False) (Instr.typeAssert u xT T ok)):=by
 unfold j0G;split<;>try trivial
 rename_i g h o;split<;>try trivial
 rename_i b;have b:∃i z,E.P.info? T=some i/\i.zero=some z:=by
  unfold j0G.zeroInfo at b;split at b
  ·rename_i i hi;exact⟨i,_,hi,(Option.eq_some_of_isSome b)⟩
  grind
 obtain⟨inf,z,f,b⟩:=b;have tup:∀{x y:V E.D} {l k:Value},VS E ρ s.nid w.heap S x l->VS E ρ s.nid w.heap S y k->VS E ρ s.nid w.heap S (.tup [x,y]) (.tuple #[l,k]):=by
  rintro x y l k ⟨c,hc,rfl⟩ ⟨d,hd,rfl⟩
  refine VS.of rfl ?_;unfold VC VT;refine⟨[vl x c,vl y d],rfl,c,[vl y d],hc,rfl,?_⟩;unfold VT;exact⟨d,[],hd,rfl,by rfl⟩
 split<;>try trivial
 ·rename_i t x;obtain⟨r,rfl,q⟩:=p.o0p;split
  ·rename_i m;rw[beq_eq]at m;subst m;refine B3.pure (tup q VS.kb) fun w'=>?_;cases g<;>simp[Instr.typeAssert,run_underlying o]<;>exact absurd rfl (h _)
  ·rename_i m;have j:t≠T:=fun e=>by simp_all
   refine B3.pure (tup (VS.undef z) VS.kb) fun w'=>?_;cases g<;>simp[Instr.typeAssert,run_underlying o,j,zeroValue,typeInfo,f,b]<;>first|rfl|exact absurd rfl (h _)
 ·obtain rfl:=p.i07;refine B3.pure (tup (VS.undef z) VS.kb) fun w'=>?_;cases g<;>simp[Instr.typeAssert,run_underlying o,zeroValue,typeInfo,f,b]<;>first|rfl|exact absurd rfl (h _)
def z01 (h:Rp E A s ρ S a as w){v:V E.D}{u:Value}{t:U}{xs:List (Den E.D t)}(b:VS E ρ s.nid w.heap S v u)(hd:n06 E s v=some ⟨t,xs⟩):∃A' c,u=.slice A' xs.length c/\Sl (J0 E t) w.heap S A' c xs:=by
 unfold n06 at hd;split at hd<;>try cases hd
 ·exact b.f0Z
 ·rename_i id;split at hd<;>try cases hd
  rename_i hl;obtain⟨_,rfl⟩:=b.a0m;have:=h.th id;rw[hl]at this;exact this
theorem t0W {e:Nat}{t:U}(h:b0d E e t=true):(E.P.info? e).map (·.size)=some (J0 E t).sz:=by
 unfold b0d at h;split at h
 ·rename_i n hn;rw[beq_eq]at h;subst h;unfold H5 at hn;split at hn
  ·rename_i i hi;simp only[Option.some.injEq]at hn;rw[hi];exact congrArg some hn
  grind
 grind
theorem A03 (h:Rp E A s ρ S a as w){T:Nat}{x:V E.D}{R:Value}(hx:VS E ρ s.nid w.heap S x R)(g:∀y,VS E ρ s.nid w.heap S (N1 E s y) (a.eval y))(lo hi mx:Option Operand):
  Q3 (p0f E s T x (lo.map (N1 E s)) (hi.map (N1 E s)) (mx.map (N1 E s)) (m0V hi mx)) (B3 E s ρ S w (fun _=>False) (Instr.sliceAt T R (lo.map a.eval) (hi.map a.eval) (mx.map a.eval))):=by
 unfold p0f;split<;>try trivial
 rename_i t xs e hd U;split<;>try trivial
 rename_i l f J q o;obtain⟨A',c,rfl,r⟩:=z01 h hx hd;have p:(match lo.map a.eval with|none=>l=0|some y=>∃k,y=.int k l):=by
  cases lo with
  |none=>simp_all[loI]
  |some y=>
   simp only[Option.map_some,loI]at q ⊢;split at q<;>cases q
   rename_i k hk;exact⟨k,E9 hk (g y)⟩
 have z:∀y,hi=some y->∃k,a.eval y=.int k f:=fun y C=>by
  subst C;simp only[Option.map_some,hiI]at o;split at o<;>cases o
  rename_i k hk;exact⟨k,E9 hk (g y)⟩
 have data:∀(j:Option Addr) (c1:Nat),Sl (J0 E t) w.heap S j c1 (G1 xs l f)->VS E ρ s.nid w.heap S (.d (.list t) (G1 xs l f)) (.slice j (G1 xs l f).length c1):=fun j c1 h1=>VS.of rfl (by exact⟨j,c1,rfl,h1⟩);cases mx with
 |none=>
  intro b;obtain⟨j,h1,h2⟩:=s0B (lo:=lo.map a.eval) (hi:=hi.map a.eval) (mx:=none) (vlo:=l) (vhi:=f) (vmx:=c) U (t0W J) r p (by
   cases hi with
   |none=>simp only[Option.map_none,hiI,Option.some.injEq]at o;simp_all
   |some y=>simp_all) rfl b (.inl rfl)
  grind [B3.pure]
 |some m=>
  simp only[Option.map_some];split<;>try trivial
  rename_i km mm y hm C;cases hi with
  |none=>cases C
  |some hy0=>
   have I:=E9 hm (g m);have main:(P3 xs l f&&(decide (f<=mm)&&decide (mm<=(xs.length:Int))))=true->∃j,(∀w',(Instr.sliceAt T (.slice A' xs.length c) (lo.map a.eval) (some (a.eval hy0)) (some (a.eval m))).run E.P w'=.ok (.slice j (G1 xs l f).length (mm-l).toNat) w')/\Sl (J0 E t) w.heap S j (mm-l).toNat (G1 xs l f):=by
    intro b;simp only[and_eq_true,decide_eq_true_eq]at b;exact s0B (lo:=lo.map a.eval) (hi:=some (a.eval hy0)) (mx:=some (a.eval m)) (vlo:=l) (vhi:=f) (vmx:=mm) U (t0W J) r p (z hy0 rfl) ⟨km,I⟩ b.1 (.inr b.2)
   have fin:(P3 xs l f&&(decide (f<=mm)&&decide (mm<=(xs.length:Int))))=true->mm=f->B3 E s ρ S w (fun _=>False) (Instr.sliceAt T (.slice A' xs.length c) (lo.map a.eval) (some (a.eval hy0)) (some (a.eval m))) (.df t (G1 xs l f)):=by
    intro b u;obtain⟨j,h1,h2⟩:=main b;simp only[and_eq_true,decide_eq_true_eq]at b;have hlen:=d0b b.1;subst u;refine B3.pure (VS.of (v:=.df t (G1 xs l mm)) rfl ?_) h1;unfold VC
    simp_all
   split
   ·rename_i i;intro b;have u:mm=f:=by
     unfold m0V at i;split at i
     ·simp_all
     simp_all
    simp_all
   ·intro b
    grind
theorem I0s (h:Rp E A s ρ S a as w){op:BinOp}{T:Nat}{x y:Operand}{r:QR E.D}(d:VS E ρ s.nid w.heap S (N1 E s x) (a.eval x))(l:VS E ρ s.nid w.heap S (N1 E s y) (a.eval y))(hn:n02 E s op T (N1 E s x) (N1 E s y) (w0P y)=some r):
  Q3 r (B3 E s ρ S w (fun _=>False) (do eqGuard op T x y (a.eval x) (a.eval y);binOp op T (a.eval x) (a.eval y))):=by
 unfold n02 at hn;split at hn<;>try cases hn
 rotate_left
 ·rename_i ex q;split at hn<;>try cases hn
  rename_i pos' hk ho I;obtain⟨e,u⟩:=(k0U (E:=E) (T:=T)).2.2.2 hk;rw[ex]at d;rw[q]at l;have j:=d.i07;have f:=l.i07;have heq:∀w':World,(Op.equal T .nilIface .nilIface).run E.P w'=.ok true w':=fun w'=>by
   unfold Op.equal Op.maxDepth Op.equalIn;simp[run_underlying u]
  refine B3.pure VS.i6 fun w'=>?_;have h1:=b0Z ho Z' Z' Z' Z' (heq w');have C:(eqGuard op T x y .nilIface .nilIface).run E.P w'=.ok () w':=by
   cases y with
   |const v=>rcases s0T ho with⟨_,rfl⟩|⟨_,rfl⟩<;>simp[eqGuard]
   |_=>cases I
  simp_all
 rename_i id ex q;split at hn<;>try cases hn
 rename_i pos' hk ho;obtain⟨e,u⟩:=(k0U (E:=E) (T:=T)).2.2.1 hk;rw[ex]at d;rw[q]at l;obtain⟨_,j⟩:=d.a0m;have f:=l.b0q;have k:=h.th id;have key:∀{b':Bool},(b'=true->∃g m c,hd (ρ id)=.slice (some g) m c)->Q3 (.chk b' (i6 pos' false)) (B3 E s ρ S w (fun _=>False) (do eqGuard op T x y (a.eval x) (a.eval y);binOp op T (a.eval x) (a.eval y))):=by
  intro b' J b;obtain⟨g,m,c,hg⟩:=J b;rw[j,f,hg];have heq:∀w':World,(Op.equal T (.slice (some g) m c) (.slice none 0 0)).run E.P w'=.ok false w':=fun w'=>by
   unfold Op.equal Op.maxDepth Op.equalIn;simp[run_underlying u]
  refine B3.pure VS.i6 fun w'=>?_;have h1:=b0Z ho Z' Z' Z' Z' (heq w');have C:=s8.of (E:=E) (op:=op) (T:=T) (ua:=.slice (some g) m c) (ub:=.slice none 0 0) (by simp[a03]) x y w'
  simp_all
 split at hn
 ·rename_i e' t xs hl;rw[<-Option.some.inj hn];rw[hl]at k;obtain⟨cs,i,_⟩:=k;refine key (b':=!xs.isEmpty) (fun b=>?_);rcases i.2 with⟨_,R⟩|⟨g,cap,cur,z,_⟩
  ·simp_all
  ·exact⟨_,_,_,by rw[z];rfl⟩
 ·rename_i t xs hl;rw[<-Option.some.inj hn];rw[hl]at k;obtain⟨A',c,z,p⟩:=k;refine key (b':=!xs.isEmpty) (fun b=>?_);have d:xs≠[]:=by simp_all
  obtain⟨b0,o,U,_,_⟩:=p.2.1 d
  simp_all
 grind
def n0V (I:T1 E)(h:Rp E A s ρ S a as w)(o:Oper):
  Q3 (evQ E s o) (fun v=>∃u,VS E ρ s.nid w.heap S v u/\∀w',O6 E s S w (e0Q E s ρ o) w'->(execOp a.eval o).run E.P w'=.ok (.value u) w'):=by
 have up:∀{own:Nat->Prop} {f:Sem Value} {r:QR E.D},(∀k,own k->e0Q E s ρ o k)->execOp a.eval o=(do pure (.value (<-f)))->Q3 r (B3 E s ρ S w own f)->
   Q3 r (fun v=>∃u,VS E ρ s.nid w.heap S v u/\∀w',O6 E s S w (e0Q E s ρ o) w'->(execOp a.eval o).run E.P w'=.ok (.value u) w'):=by
  intro own f r ho U hr;refine hr.mono fun v ⟨u,g,hu⟩=>⟨u,g,fun w' hw=>?_⟩
  rw[U];simp[hu w' (hw.b0a ho)]
 unfold evQ;split
 ·rename_i x ho;exact⟨_,h.val x,fun w' _=>by simp[execOp,ho]⟩
 ·rename_i x ho;exact⟨_,h.val x,fun w' _=>by simp[execOp,ho]⟩
 ·rename_i c x y ho;refine(x0W (h.val c) (h.val x) (h.val y)).mono fun v ⟨u,g,b,R,hu⟩=>⟨u,g,fun w' _=>?_⟩
  simp_all[execOp,asBool]
 ·rename_i x ho;refine(y0o (h.val x)).mono fun v ⟨g,hu⟩=>⟨_,g,fun w' _=>?_⟩
  rcases hu with⟨b,R⟩|⟨t,y,R⟩|⟨f,y,R⟩<;>simp[execOp,ho,R]
 ·rename_i op T x y T2 ho;split
  ·rename_i r hn;exact up (own:=fun _=>False) (fun _ e=>e.elim) (by simp[execOp,ho]) (I0s h (h.val x) (h.val y) hn)
  refine(G0t I (h.val x) (h.val y)).mono fun v ⟨u,g,hu⟩=>⟨u,g,fun w' _=>?_⟩
  have h1:=(hu w').1;have h2:=(hu w').2 x y w'
  simp_all[execOp]
 ·rename_i op T x ho;refine(D0E (h.val x)).mono fun v ⟨u,g,hu⟩=>⟨u,g,fun w' _=>?_⟩
  simp_all[execOp]
 ·rename_i x y z ho;exact up (fun _ e=>e.elim) (by simp[execOp,ho]) (H03 (h.val z))
 ·rename_i T x f ho;exact up (fun _ e=>e.elim) (by simp[execOp,ho]) (C0M I h (h.val x))
 ·rename_i T x f ho;exact up (fun _ e=>e.elim) (by simp[execOp,ho]) (E0X I h (h.val x))
 ·rename_i T x i ho;exact up (fun _ e=>e.elim) (by simp[execOp,ho]) (D0o I h (h.val x) (h.val i))
 ·rename_i T x ho;exact up (fun k e=>by unfold e0Q k9 l9;rw[ho];exact e) (by simp[execOp,ho]) (w0p I h (h.val x))
 ·rename_i x i ho;split<;>try trivial
  rename_i l hl;have C:=h.val x;rw[hl]at C;obtain⟨us,hu,b1⟩:=C.t0E;refine(VT.get b1 (j:=i)).mono fun v ⟨u,hg,g⟩=>⟨u,g,fun w' _=>?_⟩
  simp_all[execOp,Instr.extract]
 ·rename_i T parts ho;exact up (fun _ e=>e.elim) (by simp[execOp,ho]) (D0R I h)
 ·rename_i fn first caps ho
  split<;>try trivial
  rename_i f U;refine⟨_,VS.of rfl (by unfold VC;exact⟨caps.toList.map a.eval,rfl,VT.of h _⟩),fun w' _=>?_⟩;have:first=#[]:=by simpa using U
  subst this;have e:Array.map a.eval caps=(List.map a.eval caps.toList).toArray:=by rw[<-Array.toList_map]
  simp[execOp,ho,Instr.makeFunc,e]
 ·rename_i T x ho;exact up (fun _ e=>e.elim) (by simp[execOp,ho]) (z0M (h.val x))
 ·rename_i x T T' ok ho;exact up (fun _ e=>e.elim) (by simp[execOp,ho]) (C0K (xT:=T) (h.val x))
 ·rename_i T x i ok ho;refine up (fun k e=>?_) (by simp[execOp,ho]) (A0D h (h.val x) (h.val i));refine⟨?_,fun q m=>by unfold l9 at m;rw[ho]at m;cases m⟩;unfold k9;rw[ho];simp only;cases g:N1 E s x<;>rw[g]at e<;>simp_all[i0g]
 ·rename_i T x lo hi mx ho;exact up (fun _ e=>e.elim) (by simp[execOp,ho]) (A03 h (h.val x) (fun y=>h.val y) lo hi mx)
 ·rename_i c ho;split<;>try trivial
  ·rename_i x J C;split<;>try trivial
   rename_i T r hT;have a1:c.argTypes[0]?=some T:=by rw[<-Array.getElem?_toList,hT];rfl
   have d:c.args=#[x]:=by have:=congrArg List.toArray C;simpa using this
   refine up (own:=fun _=>i0g (N1 E s x)=true) (fun k e=>?_) ?_ (z0E h (h.val x) (ty:=o.type) a1)
   ·refine⟨?_,fun q m=>by unfold l9 at m;rw[ho]at m;cases m⟩;unfold k9;rw[ho];simp only[C];cases g:N1 E s x<;>rw[g]at e<;>simp_all[i0g]
   ·simp[execOp,ho,resolve,J,d,invoke,builtin]
  ·rename_i x y J C;have d:c.args=#[x,y]:=by have:=congrArg List.toArray C;simpa using this
   unfold v0E;split<;>try trivial
   rename_i k p k' q hp m;have e1:=E9 hp (h.val x);have e2:=E9 m (h.val y);refine⟨_,VS.dI,fun w' _=>?_⟩;simp[execOp,ho,resolve,J,d,invoke,builtin,Builtin.min_,Builtin.min2,e1,e2]
  ·rename_i x y J C;have d:c.args=#[x,y]:=by have:=congrArg List.toArray C;simpa using this
   unfold s0Z;split<;>try trivial
   rename_i k p k' q hp m;have e1:=E9 hp (h.val x);have e2:=E9 m (h.val y);refine⟨_,VS.dI,fun w' _=>?_⟩;simp[execOp,ho,resolve,J,d,invoke,builtin,Builtin.max_,Builtin.max2,e1,e2]
 ·trivial
end
end
