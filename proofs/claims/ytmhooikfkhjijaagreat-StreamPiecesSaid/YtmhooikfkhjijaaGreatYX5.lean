/- P. Its conditions: none. -/
import Derived.Test.YtmhooikfkhjijaaGreatYX4
open Bool (and_eq_true)
open Nat (add_assoc beq_eq)
open List (length_append map_cons)
open Option (map_none map_some)
set_option linter.all false
namespace Go.X
open Go.V Go.RowKit
section
variable {E:Env}{A:O4}{s:St E.D}{ρ:Nat->Value}{S:D0}{a:Act}{as:List Act}{w:World}{n:Nat}{H:K0}
def o4 {D:Nat->Type}(r:QR D)(P:V D->Prop):Prop:=match r with
 |.bad=>True
 |.ok v=>P v
 |.chk b v=>b=true->P v
def o4.mono {D:Nat->Type}{r:QR D}{P c:V D->Prop}(h:o4 r P)(hp:∀v,P v->c v):o4 r c:=by
 cases r with
 |bad=>trivial
 |ok v=>exact hp v h
 |chk b v=>exact fun d=>hp v (h d)
def VS.d {t:U}{x:Den E.D t}{u:Value}(e:Y8 t=false)(h:VS E ρ n H S (.d t x) u):(J0 E t).R H S [u] x:=by
 obtain⟨c,h1,b⟩:=h;unfold VC at h1;have:vl (D:=E.D) (.d t x) c=c.headD Go.undef:=by simp only[vl,C4,e,H4]
 rw[this]at b;have hl:c.length=1:=by
  have:=(J0 E t).len h1;cases t<;>simp[Y8]at e<;>exact this
 match c,hl with
 |[z],_=>simp at b;subst b;exact h1
def VS.of {v:V E.D}{u:Value}(b:C4 v=false)(h:VC E ρ n H S v [u]):VS E ρ n H S v u:=⟨[u],h,by unfold vl;rw[b];rfl⟩
def r9 {v:V E.D}{k:IntKind}{x:Int}{u:Value}(h:L5 v=some (k,x))(b:VS E ρ n H S v u):u=.int k x:=by
 cases v<;>simp only[L5]at h<;>try cases h
 ·obtain⟨c,h1,rfl⟩:=b;unfold VC at h1;subst h1;rfl
 ·rename_i t y;cases t<;>simp only[L5]at h<;>try cases h
  have:=b.d (t:=.int k) rfl;simpa[J0,C2]using this
def P8 {v:V E.D}{x:Bool}{u:Value}(h:V6 v=some x)(b:VS E ρ n H S v u):u=.bool x:=by
 cases v<;>simp only[V6]at h<;>try cases h
 ·obtain⟨c,h1,rfl⟩:=b;unfold VC at h1;subst h1;rfl
 ·rename_i t y;cases t<;>simp only[V6]at h<;>try cases h
  have:=b.d (t:=.bool) rfl;simpa[J0,b0E]using this
def VS.dI {k:IntKind}{x:Int}:VS E ρ n H S (Go.X.dI k x) (.int k x):=VS.of rfl (by unfold Go.X.dI VC;rfl)
def VS.ki {k:IntKind}{x:Int}:VS E ρ n H S (.ki k x) (.int k x):=VS.of rfl (by unfold VC;rfl)
def VS.dB {x:Bool}:VS E ρ n H S (Go.X.dB x) (.bool x):=VS.of rfl (by unfold Go.X.dB VC;rfl)
def VS.kb {x:Bool}:VS E ρ n H S (.kb x) (.bool x):=VS.of rfl (by unfold VC;rfl)
def k0m {v:V E.D}{x:Int}{k:IntKind}{m:Int}(h:L5 v=some (k,x))(hl:f0p v=some m):m=x:=by
 cases v<;>simp[f0p,L5]at h hl
 rw[<-hl,h.2]
def K8 (E:Env)(s:St E.D)(S:D0)(w:World)(own:Nat->Prop)(w':World):Prop:=(∃b,U0 w.heap S w'.heap b)/\∀k,own k->k<w.heap.size->w'.heap[k]?=w.heap[k]?
def i0S {E:Env}(s:St E.D)(ρ:Nat->Value)(v:V E.D)(k:Nat):Prop:=d0Z s v=true/\∀q,rdP s v=some q->D1 (hd (ρ q))=some k
def K8.e0z {E:Env}{s:St E.D}{S:D0}{w w':World}{own b:Nat->Prop}(h:K8 E s S w b w')(c:∀k,own k->b k):K8 E s S w own w':=⟨h.1,fun k e=>h.2 k (c k e)⟩
def D01 {E:Env}{s:St E.D}{id z q:Nat}{i:Int}{p:List P6}(h:rdP s (.pe id i z p)=some q):q=id:=by
 simp only[rdP]at h;split at h<;>cases h
 rfl
def pbK {E:Env}{s:St E.D}{ρ:Nat->Value}{id off k:Nat}{p:List P6}(h:P1 (E0 s id)=true/\D1 (hd (ρ id))=some k):i0S s ρ (.pb id off p) k:=by
 refine⟨h.1,fun q b=>?_⟩;simp only[rdP]at b;split at b<;>cases b
 exact h.2
def d06 (E:Env)(s:St E.D)(ρ:Nat->Value)(o:Oper)(k:Nat):Prop:=A9 E s o=true/\∀q,D9 E s o=some q->D1 (hd (ρ q))=some k
def E0Q {op:BinOp}{k:IntKind}{x y:Int}{c:Option Int}(hl:∀m,c=some m->m=y)(d:g0K op=false)(T:Nat):
  o4 (l00 op k x y c:QR E.D) (fun v=>∃u,VS E ρ n H S v u/\∀w':World,(binOp op T (.int k x) (.int k y)).run E.P w'=.ok u w'):=by
 cases op<;>simp only[g0K,Bool.true_eq_false]at d<;>simp only[l00,o4]
 all_goals first
  |trivial
  |exact⟨_,VS.dI,fun w'=>by simp[binOp,Op.intArith,Op.intBits,C3,bor,i0u,q0O]⟩
  |exact⟨_,VS.dB,fun w'=>by simp[binOp,Op.intCmp]⟩
  |skip
 ·cases c with
  |none=>
   simp only;intro b;have b:y≠0:=by simpa using b
   exact⟨_,VS.dI,fun w'=>by simp[binOp,Op.intDiv,b]⟩
  |some m=>
   have:=hl m rfl;subst this;simp only
   by_cases b:m=0
   ·simp[b]
   ·simp only[b,decide_false];exact⟨_,VS.dI,fun w'=>by simp[binOp,Op.intDiv,b]⟩
 ·cases c with
  |none=>
   simp only;intro b;have b:y≠0:=by simpa using b
   exact⟨_,VS.dI,fun w'=>by simp[binOp,Op.intDiv,b]⟩
  |some m=>
   have:=hl m rfl;subst this;simp only
   by_cases b:m=0
   ·simp[b]
   ·simp only[b,decide_false];exact⟨_,VS.dI,fun w'=>by simp[binOp,Op.intDiv,b]⟩
def E0j {op:BinOp}{k d:IntKind}{x y:Int}{c:Option Int}(hl:∀m,c=some m->m=y)(e:g0K op=true)(T:Nat):
  o4 (k0L op k x y c:QR E.D) (fun v=>∃u,VS E ρ n H S v u/\∀w':World,(binOp op T (.int k x) (.int d y)).run E.P w'=.ok u w'):=by
 have key:¬y<0->∃u,VS E ρ n H S (match op with|.shl=>Go.X.dI k (shl k x y)|_=>Go.X.dI k (shr k x y)) u/\∀w':World,(binOp op T (.int k x) (.int d y)).run E.P w'=.ok u w':=by
  intro b;cases op<;>simp only[g0K,Bool.false_eq_true]at e
  ·exact⟨_,VS.dI,fun w'=>by simp[binOp,Op.shift,b,shl]⟩
  ·exact⟨_,VS.dI,fun w'=>by simp[binOp,Op.shift,b,shr]⟩
 unfold k0L;cases c with
 |none=>
  simp only[o4];intro b;exact key (by simpa using b)
 |some m=>
  have:=hl m rfl;subst this;simp only[o4]
  by_cases b:m<0
  ·simp[b]
  ·simp only[b,decide_false];exact key b
def s0E {op:BinOp}{pos:Bool}(h:isEq op=some pos):(pos=true/\op=.eql)\/(pos=false/\op=.neq):=by
 cases op<;>simp[isEq]at h<;>simp[h]
def VS.Q6 {pos r:Bool}:VS E ρ n H S (Go.X.Q6 pos r) (.bool (sgn pos r)):=VS.kb
def VS.eqR {pos r:Bool}:VS E ρ n H S (Go.X.eqR pos r) (.bool (sgn pos r)):=VS.dB
def b0F {op:BinOp}{pos:Bool}(h:isEq op=some pos){T:Nat}{c d:Value}{r:Bool}{w':World}(hi:∀k a,c≠.int k a)(g:∀a,c≠.string a)(f:∀k b,c≠.float k b)(e:∀k a b,c≠.complex k a b)(i:(Op.equal T c d).run E.P w'=.ok r w'):
  (binOp op T c d).run E.P w'=.ok (.bool (sgn pos r)) w':=by
 rcases s0E h with⟨rfl,rfl⟩|⟨rfl,rfl⟩
 ·cases c<;>simp_all[binOp,sgn]
 ·cases c<;>simp_all[binOp,sgn]
def i0Z {T:Nat}:(c0t E T=1->E.P.underlying T=some .bool)/\(c0t E T=2->∃e,E.P.underlying T=some (.pointer e))/\(c0t E T=3->∃e,E.P.underlying T=some (.slice e))/\(c0t E T=4->∃e,E.P.underlying T=some (.interface e)):=by
 unfold c0t;split<;>simp_all
def h0d (T:Nat)(x y:Value):∃d,Op.equal T x y=Op.equalIn (d+1) T x y:=⟨9999,rfl⟩
section
variable {P:Program}{T:Nat}
def i0U {e:Nat}(c:P.underlying T=some (.pointer e))(b:Option Addr)(w:World):(Op.equal T (.pointer none) (.pointer b)).run P w=.ok b.isNone w:=by
 obtain⟨d,h⟩:=h0d T (.pointer none) (.pointer b);rw[h];simp[Op.equalIn,run_underlying c]
def n0d {e:Nat}(c:P.underlying T=some (.pointer e))(b:Addr)(w:World):(Op.equal T (.pointer (some b)) (.pointer none)).run P w=.ok false w:=by
 obtain⟨d,h⟩:=h0d T (.pointer (some b)) (.pointer none);rw[h];simp[Op.equalIn,run_underlying c]
def B0n (b:P.underlying T=some .bool)(x y:Bool)(w:World):(Op.equal T (.bool x) (.bool y)).run P w=.ok (x==y) w:=by
 obtain⟨d,h⟩:=h0d T (.bool x) (.bool y);rw[h];simp[Op.equalIn,run_underlying b]
def C08 {e:Nat}(b:P.underlying T=some (.slice e))(w:World):(Op.equal T (.slice none 0 0) (.slice none 0 0)).run P w=.ok true w:=by
 obtain⟨d,h⟩:=h0d T (.slice none 0 0) (.slice none 0 0);rw[h];simp[Op.equalIn,run_underlying b]
def C0N {e:Array (String×TypeId)}(b:P.underlying T=some (.interface e))(t:Nat)(u:Value)(w:World):(Op.equal T (.iface t u) .nilIface).run P w=.ok false w:=by
 obtain⟨d,h⟩:=h0d T (.iface t u) .nilIface;rw[h];simp[Op.equalIn,run_underlying b]
end
def VS.e0u {u:Value}(h:VS E ρ n H S (.nilp:V E.D) u):u=.pointer none:=by
 obtain⟨c,h1,rfl⟩:=h;unfold VC at h1;subst h1;rfl
def VS.b0n {u:Value}(h:VS E ρ n H S (.nil:V E.D) u):u=.slice none 0 0:=by
 obtain⟨c,h1,rfl⟩:=h;unfold VC at h1;subst h1;rfl
def VS.i0B {u:Value}(h:VS E ρ n H S (.nilif:V E.D) u):u=.nilIface:=by
 obtain⟨c,h1,rfl⟩:=h;unfold VC at h1;subst h1;rfl
def VS.n0H {T:Nat}{v:V E.D}{u:Value}(h:VS E ρ n H S (.ifc T v:V E.D) u):∃b,u=.iface T b/\VS E ρ n H S v b:=by
 obtain⟨c,h1,rfl⟩:=h;unfold VC at h1;obtain⟨c',d,rfl⟩:=h1;exact⟨_,rfl,c',d,rfl⟩
def VS.b0l {id off:Nat}{p:List P6}{u:Value}(h:VS E ρ n H S (.pb id off p:V E.D) u):id<n/\e8 p/\∃b,hd (ρ id)=.pointer (some ⟨b,0,none⟩)/\u=.pointer (some ⟨b,off+M4 p,none⟩):=by
 obtain⟨c,h1,rfl⟩:=h;unfold VC at h1;obtain⟨f,e,b,d,rfl⟩:=h1;exact⟨f,e,b,d,rfl⟩
def VS.c05 {id z:Nat}{i:Int}{p:List P6}{u:Value}(h:VS E ρ n H S (.pe id i z p:V E.D) u):id<n/\e8 p/\∃b o m c,hd (ρ id)=.slice (some ⟨b,o,none⟩) m c/\(0<=i/\i<m)/\u=.pointer (some ⟨b,o+i.toNat*z+M4 p,none⟩):=by
 obtain⟨c,h1,rfl⟩:=h;unfold VC at h1;obtain⟨d,g,b,o,m,cc,f,e,rfl⟩:=h1;exact⟨d,g,b,o,m,cc,f,e,rfl⟩
def VS.f0b {t:U}{x:Den E.D t}{u:Value}(h:VS E ρ n H S (.pd t x:V E.D) u):PtR (J0 E t) H S u x:=by
 obtain⟨c,h1,rfl⟩:=h;unfold VC at h1;obtain⟨v,rfl,b⟩:=h1;exact b
def VS.pd {t:U}{x:Den E.D t}{u:Value}(h:PtR (J0 E t) H S u x):VS E ρ n H S (.pd t x:V E.D) u:=VS.of rfl (by unfold VC;exact⟨u,rfl,h⟩)
def VS.X9 {id:Nat}{u:Value}(h:VS E ρ n H S (.sl id:V E.D) u):id<n/\u=hd (ρ id):=by
 obtain⟨c,h1,rfl⟩:=h;unfold VC at h1;obtain⟨b,_,rfl⟩:=h1;exact⟨b,rfl⟩
def VS.s0a {l:List (V E.D)}{u:Value}(h:VS E ρ n H S (.tup l:V E.D) u):∃us,u=.tuple us.toArray/\VT E ρ n H S l us:=by
 obtain⟨c,h1,rfl⟩:=h;unfold VC at h1;obtain⟨us,rfl,b⟩:=h1;exact⟨us,rfl,b⟩
def VS.f04 {t:U}{xs:List (Den E.D t)}{u:Value}(h:VS E ρ n H S (.d (.list t) xs:V E.D) u):∃A c,u=.slice A xs.length c/\Sl (J0 E t) H S A c xs:=by
 have:=h.d rfl;obtain⟨A,c,h1,b⟩:=this;simp at h1;exact⟨A,c,h1,b⟩
def a0W (u:Value):Prop:=(∀l,u≠.agg l)/\u≠.nilIface
def C0V {op:BinOp}{T:Nat}{x y:Operand}{ua ub:Value}(h:a0W ua)(w':World):(eqGuard op T x y ua ub).run E.P w'=.ok () w':=by
 unfold eqGuard;obtain⟨h1,b⟩:=h;cases op<;>simp<;>(cases ua<;>first|exact absurd rfl (h1 _)|exact absurd rfl b|simp)
def s8 (E:Env)(op:BinOp)(T:Nat)(ua ub:Value):Prop:=∀(x y:Operand) (w':World),(eqGuard op T x y ua ub).run E.P w'=.ok () w'
def s8.of {op:BinOp}{T:Nat}{ua ub:Value}(h:a0W ua):s8 E op T ua ub:=fun _ _ w'=>C0V h w'
def E04 {T e:Nat}(c:E.P.underlying T=some (.pointer e)){op:BinOp}{pos:Bool}(j:isEq op=some pos){a b:V E.D}{ua ub:Value}(ha:VS E ρ n H S a ua)(f:VS E ρ n H S b ub):
  o4 (eqP pos a b) (fun v=>∃u,VS E ρ n H S v u/\∀w':World,(binOp op T ua ub).run E.P w'=.ok u w'/\s8 E op T ua ub):=by
 have key:∀r,(∀w':World,(Op.equal T ua ub).run E.P w'=.ok r w')->(∃q,ua=.pointer q)->∃u,VS E ρ n H S (Go.X.Q6 pos r) u/\∀w':World,(binOp op T ua ub).run E.P w'=.ok u w'/\s8 E op T ua ub:=by
  rintro r h ⟨q,rfl⟩
  exact⟨_,VS.Q6,fun w'=>⟨b0F j (by simp) (by simp) (by simp) (by simp) (h w'),s8.of (by simp[a0W])⟩⟩
 unfold eqP;split<;>simp only[o4]
 ·obtain rfl:=ha.e0u;obtain rfl:=f.e0u;exact key true (fun w'=>i0U c _ w') ⟨_,rfl⟩
 ·obtain rfl:=ha.e0u;obtain⟨_,_,b',_,rfl⟩:=f.b0l;exact key false (fun w'=>i0U c _ w') ⟨_,rfl⟩
 ·obtain rfl:=ha.e0u;obtain⟨b',l,g,rfl,_⟩:=f.f0b;exact key false (fun w'=>i0U c _ w') ⟨_,rfl⟩
 ·obtain⟨_,_,b',_,rfl⟩:=ha.b0l;obtain rfl:=f.e0u;exact key false (fun w'=>n0d c _ w') ⟨_,rfl⟩
 ·obtain⟨b',l,g,rfl,_⟩:=ha.f0b;obtain rfl:=f.e0u;exact key false (fun w'=>n0d c _ w') ⟨_,rfl⟩
 ·rename_i t x;obtain rfl:=f.e0u;have h1:(J0 E (.opt t)).R H S [ua] x:=ha.d rfl;obtain⟨v,k,o⟩:=h1;simp at k;subst k;refine⟨_,VS.eqR,fun w'=>?_⟩;have m:∀y:Option (Den E.D t),i0O (J0 E t) H S ua y->(∃q,ua=.pointer q)/\(Op.equal T ua (.pointer none)).run E.P w'=.ok y.isNone w':=by
   intro y i;cases y with
   |none=>unfold i0O at i;subst i;exact⟨⟨_,rfl⟩,i0U c _ w'⟩
   |some z=>obtain⟨b',l,g,rfl,_⟩:=i;exact⟨⟨_,rfl⟩,n0d c _ w'⟩
  obtain⟨⟨q,rfl⟩,h⟩:=m x o;exact⟨b0F j (by simp) (by simp) (by simp) (by simp) h,s8.of (by simp[a0W])⟩
 all_goals trivial
def d0l {T n:Nat}(h:R5 E T=some n)(w:World):(sizeOf T).run E.P w=.ok n w:=by
 unfold R5 at h;split at h
 ·rename_i i hi;simp at h;subst h;simp[sizeOf,typeInfo,hi]
 ·cases h
def n07 {T:Nat}{ag:Bool}(h:p9 E T=some ag)(w:World):(isAgg T).run E.P w=.ok ag w:=by
 unfold p9 at h;split at h<;>try cases h
 ·rename_i hd;simp[isAgg,run_underlying hd]
 ·rename_i hd;simp[isAgg,run_underlying hd]
 ·rename_i d h1 b hd;simp only[isAgg,Sem.run_bind,run_underlying hd,Result.andThen_ok];cases d<;>simp_all
def i0d (b:Q1 E):∀(k:Nat) {v:V E.D} {c:List Value},VC E ρ n H S v c->VC E ρ n H S (leaf E k v) c
 |0,v,c,h=>h
 |k+1,v,c,h=>by
  simp only[leaf];split
  ·rename_i u he;exact i0d b k (k0Z b he h).a0p
  ·exact h
def D0g {v:V E.D}{k:IntKind}{x:Int}{c:List Value}(h:L5 v=some (k,x))(b:VC E ρ n H S v c):c=[.int k x]:=by
 cases v<;>simp only[L5]at h<;>try cases h
 ·unfold VC at b;exact b
 ·rename_i t z;cases t<;>simp only[L5]at h<;>try cases h
  unfold VC at b;exact b
def u0C {v:V E.D}{x:Bool}{c:List Value}(h:V6 v=some x)(b:VC E ρ n H S v c):c=[.bool x]:=by
 cases v<;>simp only[V6]at h<;>try cases h
 ·unfold VC at b;exact b
 ·rename_i t z;cases t<;>simp only[V6]at h<;>try cases h
  unfold VC at b;exact b
def f0N (b:Q1 E){v:V E.D}{k:IntKind}{x:Int}{c:List Value}(h:d0L E v=some (k,x))(d:VC E ρ n H S v c):c=[.int k x]:=D0g h (i0d b 10 d)
def j03 {α:Type}{l:List α}{v:α}(h:f0e l=some v):l=[v]:=by
 unfold f0e at h;split at h<;>cases h
 rfl
def allEq:List Int->List Int->Bool
 |[],_=>true
 |[a],b :: _=>a==b
 |a :: l,b :: r=>(a==b)&&allEq l r
 |_,_=>true
def s0F (i:Q1 E){k:IntKind}:∀{l r:List (V E.D)} {b:Bool} {cx g:List Value},b0V E k l r=some b->N0 E ρ n H S l cx->N0 E ρ n H S r g->∃xs ys:List Int,cx=xs.map (.int k)/\g=ys.map (.int k)/\xs.length=l.length/\ys.length=r.length/\xs.length=ys.length/\b=allEq xs ys
 |[],[],b,cx,g,h,e,f=>by
  unfold N0 at e f;subst e;subst f;simp[b0V]at h;exact⟨[],[],rfl,rfl,rfl,rfl,rfl,by simp[allEq,h]⟩
 |[],_ :: _,b,cx,g,h,e,f=>by simp[b0V]at h
 |_ :: _,[],b,cx,g,h,e,f=>by simp[b0V]at h
 |[a],[c],b,cx,g,h,e,f=>by
  simp only[b0V]at h;split at h<;>try cases h
  rename_i C x t y h1 j;split at h<;>try cases h
  rename_i hk;simp only[and_eq_true,decide_eq_true_eq]at hk;obtain⟨rfl,rfl⟩:=hk;obtain rfl:=f0N i h1 e.a0p;obtain rfl:=f0N i j f.a0p;exact⟨[x],[y],rfl,rfl,rfl,rfl,rfl,rfl⟩
 |[a],c :: d :: r,b,cx,g,h,e,f=>by
  simp only[b0V]at h;split at h<;>try cases h
  rename_i m;simp[b0V]at m
 |a :: a2 :: l,c :: r,b,cx,g,h,e,f=>by
  simp only[b0V]at h;split at h<;>try cases h
  rename_i C x t y q h1 j m;split at h<;>try cases h
  rename_i hk;simp only[and_eq_true,decide_eq_true_eq]at hk;obtain⟨rfl,rfl⟩:=hk;unfold N0 at e f;obtain⟨c1,c2,rfl,I,u⟩:=e;obtain⟨d1,d2,rfl,J,R⟩:=f;obtain rfl:=f0N i h1 I;obtain rfl:=f0N i j J;obtain⟨xs,ys,rfl,rfl,p,z,o,v⟩:=s0F i m u R;refine⟨x :: xs,y :: ys,rfl,rfl,by simp[p],by simp[z],by simp[o],?_⟩;cases xs with
  |nil=>simp at p
  |cons x' xs=>cases ys with
   |nil=>simp at o
   |cons y' ys=>rw[v];rfl
def l0e (e:Q1 E):∀(k m:Nat) (l q:List (V E.D)) (c:List Value),w9.cutA E k m l=some q->N0 E ρ n H S l c->N0 E ρ n H S q c/\q.length=m
 |0,m,l,q,c,h,_=>by simp[w9.cutA]at h
 |k+1,0,[],q,c,h,b=>by simp[w9.cutA]at h;subst h;exact⟨b,rfl⟩
 |k+1,0,_ :: _,q,c,h,b=>by simp[w9.cutA]at h
 |k+1,m+1,l,q,c,h,b=>by
  simp only[w9.cutA]at h;split at h<;>try cases h
  rename_i v r d;split at h<;>try cases h
  rename_i j g;obtain⟨c1,c2,rfl,_,h1,o⟩:=b0g e _ _ _ _ _ d c b;obtain⟨i,f⟩:=l0e e k m r j c2 g o;exact⟨by unfold N0;exact⟨c1,c2,rfl,h1.a0p,i⟩,by simp[f]⟩
def C0j (P:Program)(d t e:Nat)(k:IntKind)(m:P.underlying t=some (.array 4 e))(he:P.underlying e=some (.int k))(l:(P.info? e).map (·.size)=some 1)(a0 i a2 a3 b0 j f c:Int)(w:World):
  (Op.equalIn (d+2) t (.agg #[.int k a0,.int k i,.int k a2,.int k a3]) (.agg #[.int k b0,.int k j,.int k f,.int k c])).run P w=.ok ((a0==b0)&&((i==j)&&((a2==f)&&(a3==c)))) w:=by
 obtain⟨inf,b,h⟩:=Option.map_eq_some_iff.1 l;have g:(isAgg e).run P w=.ok false w:=by unfold isAgg;simp only[run_underlying he,Sem.run_bind];simp
 unfold Op.equalIn;simp[run_underlying m,sizeOf,typeInfo,b,h,List.range',part,g,run_equalIn_int w d e k k _ _ he]
 by_cases q:a0=b0<;>by_cases h1:i=j<;>by_cases p:a2=f<;>by_cases o:a3=c<;>simp[q,h1,p,o]
def u04 {T m:Nat}{ag:Bool}(c:p9 E T=some ag)(b:R5 E T=some m)(h1:ag=false->m=1){c1 c2 c3:List Value}(hl:c2.length=m)(w:World):
  (part T (c1++(c2++c3)).toArray c1.length).run E.P w=.ok (H4 ag c2) w:=by
 have d:=n07 c w;have e:=d0l b w;cases ag with
 |true=>
  simp[part,d,e,H4];rw[<-hl];simp
 |false=>
  have h1:=h1 rfl
  match c2,hl.trans h1 with
  |[z],_=>
   have:(c1++([z]++c3))[c1.length]?=some z:=by simp
   simp[part,d,H4]
def q0z (hE:Q1 E):∀(d T:Nat) (xs ys:List (V E.D)) (b:Bool),w9 E d T xs ys=some b->∀(cx cy:List Value),N0 E ρ n H S xs cx->N0 E ρ n H S ys cy->∀(m:Nat) (ag:Bool) (w:World),p9 E T=some ag->d+1<=m->(Op.equalIn m T (H4 ag cx) (H4 ag cy)).run E.P w=.ok b w
 |0,T,xs,ys,b,h=>by simp[w9]at h
 |d+1,T,xs,ys,b,h=>by
  intro cx cy hx hy m ag w hag hm;obtain⟨m,rfl⟩:∃q,m=q+2:=⟨m-2,by omega⟩
  simp only[w9]at h;split at h<;>try cases h
  ·rename_i k0 hT;have hag2:ag=false:=by unfold p9 at hag;rw[hT]at hag;simpa using hag.symm
   subst hag2;split at h<;>try cases h
   rename_i a c ha hc;split at h<;>try cases h
   rename_i k1 x k2 y h1 h2;split at h<;>try cases h
   rename_i hk;have hk:=of_decide_eq_true hk;subst hk;have e1:=j03 ha;have e2:=j03 hc;subst e1;subst e2;obtain rfl:=f0N hE h1 hx.a0p;obtain rfl:=f0N hE h2 hy.a0p;exact run_equalIn_int w (m+1) T k1 k0 x y hT
  ·rename_i hT;have hag2:ag=false:=by unfold p9 at hag;rw[hT]at hag;simpa using hag.symm
   subst hag2;split at h<;>try cases h
   rename_i a c ha hc;split at h<;>try cases h
   rename_i x y h1 h2;have e1:=j03 ha;have e2:=j03 hc;subst e1;subst e2;obtain rfl:=u0C h1 (i0d hE 10 hx.a0p);obtain rfl:=u0C h2 (i0d hE 10 hy.a0p);exact run_equalIn_bool w (m+1) T x y hT
  ·rename_i fs hT;have hag2:ag=true:=by unfold p9 at hag;rw[hT]at hag;simpa using hag.symm
   subst hag2;split at h<;>try cases h
   rename_i hp;have hfs:E.P.fieldsOf T=fs:=by unfold Program.fieldsOf;rw[hT]
   show(Op.equalIn (m+1+1) T (.agg cx.toArray) (.agg cy.toArray)).run E.P w=_;rw[run_equalIn_struct w (m+1) T cx.toArray cy.toArray (by rw[hfs];exact hT) hp,hfs];have key:∀(l:List Field) (r:Option Bool),w9.eqFs E (w9 E d) l xs ys=some r->(Op.eqFields (m+1) cx.toArray cy.toArray l).run E.P w=.ok (match r with|some c=>c|none=>true) w:=by
    intro l
    induction l with
    |nil=>
     intro r hr;simp only[w9.eqFs,Option.some.injEq]at hr;subst hr;simp[Op.eqFields]
    |cons f l ih=>
     intro r hr;simp only[w9.eqFs]at hr;split at hr<;>try cases hr
     rename_i n0 hnm hsz heag;split at hr<;>try cases hr
     rename_i x1 mx x2 y1 my y2 hsx hsy;split at hr<;>try cases hr
     rename_i q r' hq hr';obtain⟨c1,c2,c3,rfl,hl1,hl2,_,hc2,_⟩:=g0e hE hsx hx;obtain⟨d1,d2,d3,rfl,hm1,hm2,_,hd2,_⟩:=g0e hE hsy hy;have hagf:∃ag,p9 E f.type=some ag/\(ag=false->n0=1):=by
      unfold w9.eqAg at heag;rw[hsz]at heag;split at heag
      ·rename_i h _;exact⟨true,h,by simp⟩
      ·rename_i h h2;exact⟨false,h,fun _=>by simpa using h2⟩
      ·cases heag
     obtain ⟨agf,hagf,hag1⟩:=hagf;have p1:=u04 (c1:=c1) (c3:=c3) hagf hsz hag1 hl2 w;have p2:=u04 (c1:=d1) (c3:=d3) hagf hsz hag1 hm2 w;rw [hl1] at p1;rw [hm1] at p2;have p3:=q0z hE d f.type mx my q hq c2 d2 hc2 hd2 (m+1) agf w hagf (by omega);have p4:=ih r' hr';have hnm:f.name≠ "_":=by simpa using hnm
     simp only[Op.eqFields,if_pos hnm,ne_eq,not_false_eq_true,Sem.run_bind,p1,Result.andThen_ok,p2,p3];cases q with
     |false=>cases r'<;>simp[m0M]
     |true=>
      simp only[Bool.not_true,Bool.false_eq_true,if_false];rw[p4];cases r'<;>simp[m0M]
   split at h<;>try cases h
   ·rename_i c hc;rw[key _ _ hc]
   ·rename_i hc;rw[key _ _ hc]
  ·rename_i e hT;have hag2:ag=true:=by unfold p9 at hag;rw[hT]at hag;simpa using hag.symm
   subst hag2;split at h<;>try cases h
   rename_i k hk;split at h<;>try cases h
   rename_i l r hs hlx hly;obtain⟨h1,h2⟩:=l0e hE _ _ _ _ cx hlx hx;obtain⟨h3,h4⟩:=l0e hE _ _ _ _ cy hly hy;obtain⟨as,bs,rfl,rfl,e1,e2,e3,e4⟩:=s0F hE h h1 h3;have hs2:(E.P.info? e).map (·.size)=some 1:=by
    unfold R5 at hs;split at hs
    ·rename_i i hi;rw[hi];simpa using hs
    ·cases hs
   match as,bs,e1.trans h2,e2.trans h4 with
   |[a0,a1,a2,a3],[b0,b1,b2,b3],_,_=>
    rw[e4];exact C0j E.P m T e k hT hk hs2 a0 a1 a2 a3 b0 b1 b2 b3 w
def y05 (hE:Q1 E){T:Nat}{op:BinOp}{pos:Bool}(h:isEq op=some pos){a b:V E.D}{ua ub:Value}(ha:VS E ρ n H S a ua)(g:VS E ρ n H S b ub):
  o4 (eqV E T pos a b) (fun v=>∃u,VS E ρ n H S v u/\∀w':World,(binOp op T ua ub).run E.P w'=.ok u w'/\s8 E op T ua ub):=by
 obtain⟨k1,R,k3,k4⟩:=i0Z (E:=E) (T:=T);unfold eqV;split
 ·rename_i hk;have f:=k1 hk;split<;>simp only[o4]
  rename_i x y j hy;obtain rfl:=P8 j ha;obtain rfl:=P8 hy g;exact⟨_,VS.eqR,fun w'=>⟨b0F h (by simp) (by simp) (by simp) (by simp) (B0n f _ _ w'),s8.of (by simp[a0W])⟩⟩
 ·rename_i hk;obtain⟨e,f⟩:=R hk;exact E04 f h ha g
 ·rename_i hk;obtain⟨e,f⟩:=k3 hk;split<;>simp only[o4]
  ·obtain rfl:=ha.b0n;obtain rfl:=g.b0n;exact⟨_,VS.Q6,fun w'=>⟨b0F h (by simp) (by simp) (by simp) (by simp) (C08 f w'),s8.of (by simp[a0W])⟩⟩
  ·rename_i t xs;intro k;obtain rfl:=g.b0n;obtain⟨A',c,rfl,l⟩:=ha.f04;have j:xs≠[]:=by rintro rfl;simp at k
   obtain⟨b,o,hA,_,_⟩:=l.2.1 j;subst hA;have heq:∀w':World,(Op.equal T (.slice (some ⟨b,o,none⟩) xs.length c) (.slice none 0 0)).run E.P w'=.ok false w':=fun w'=>by
    unfold Op.equal Op.maxDepth Op.equalIn;simp[run_underlying f]
   exact⟨_,VS.Q6,fun w'=>⟨b0F h (by simp) (by simp) (by simp) (by simp) (heq w'),s8.of (by simp[a0W])⟩⟩
 ·rename_i hk;obtain⟨e,f⟩:=k4 hk;split<;>simp only[o4]
  obtain⟨u',rfl,_⟩:=ha.n0H;obtain rfl:=g.i0B;exact⟨_,VS.Q6,fun w'=>⟨b0F h (by simp) (by simp) (by simp) (by simp) (C0N f _ _ w'),s8.of (by simp[a0W])⟩⟩
 ·split<;>try trivial
  rename_i hg;simp only[and_eq_true,Bool.not_eq_true']at hg;obtain⟨⟨⟨i,C⟩,hm⟩,d⟩:=hg;split<;>try trivial
  rename_i r hr;have J:∀{v:V E.D} {u:Value},C4 v=true->VS E ρ n H S v u->∃c,N0 E ρ n H S (H6 v) c/\u=.agg c.toArray:=by
   rintro v u hv ⟨c,hc,rfl⟩
   refine⟨c,?_,by unfold vl;rw[hv];rfl⟩;cases v<;>first|exact N0.one hc|(unfold VC at hc;exact hc)
  obtain⟨q,I,rfl⟩:=J i ha;obtain⟨p,m,rfl⟩:=J C g;have z:p9 E T=some true:=by
   unfold q0B at d;split at d
   ·rename_i b g;rw[g,d]
   ·cases d
  have heq:∀w':World,(Op.equal T (.agg q.toArray) (.agg p.toArray)).run E.P w'=.ok r w':=fun w'=>by
   unfold Op.equal Op.maxDepth;exact q0z hE 50 T _ _ r hr q p I m 10000 true w' z (by omega)
  refine⟨_,VS.eqR,fun w'=>⟨b0F h (by simp) (by simp) (by simp) (by simp) (heq w'),fun x y U=>run_eqGuard_agg (P:=E.P) U op T x y q.toArray p.toArray hm⟩⟩
def D0V (h:Q1 E){T:Nat}{op:BinOp}{a b:V E.D}{ua ub:Value}(ha:VS E ρ n H S a ua)(e:VS E ρ n H S b ub):
  o4 (m0H E op T a b) (fun v=>∃u,VS E ρ n H S v u/\∀w':World,(binOp op T ua ub).run E.P w'=.ok u w'/\s8 E op T ua ub):=by
 unfold m0H;split
 ·rename_i k x i y g d;obtain rfl:=r9 g ha;obtain rfl:=r9 d e;split
  ·rename_i c;exact(E0j (fun m hm=>k0m d hm) c T).mono fun v ⟨u,h1,h2⟩=>⟨u,h1,fun w'=>⟨h2 w',s8.of (by simp[a0W])⟩⟩
  ·rename_i c;split
   ·rename_i hk;have hk:=of_decide_eq_true hk;subst hk;exact(E0Q (fun m hm=>k0m d hm) c T).mono fun v ⟨u,h1,h2⟩=>⟨u,h1,fun w'=>⟨h2 w',s8.of (by simp[a0W])⟩⟩
   ·trivial
 ·split
  ·rename_i pos f;exact y05 h f ha e
  ·trivial
def D0o {op:UnOp}{a:V E.D}{ua:Value}(ha:VS E ρ n H S a ua):
  o4 (unV op a) (fun v=>∃u,VS E ρ n H S v u/\∀w':World,(Op.unary op ua).run E.P w'=.ok u w'):=by
 unfold unV;split
 ·split<;>simp only[o4]
  ·rename_i b;obtain rfl:=P8 (x:=b) rfl ha;exact⟨_,VS.kb,fun w'=>by simp[Op.unary]⟩
  ·rename_i x;obtain rfl:=P8 (x:=x) rfl ha;exact⟨_,VS.dB,fun w'=>by simp[Op.unary]⟩
 ·split<;>simp only[o4]
  rename_i k x c;obtain rfl:=r9 c ha;exact⟨_,VS.dI,fun w'=>by simp[Op.unary,Op.intArith]⟩
 ·split<;>simp only[o4]
  rename_i k x c;obtain rfl:=r9 c ha;exact⟨_,VS.dI,fun w'=>by simp[Op.unary,Op.intBits,i0u]⟩
 ·trivial
section
variable {E:Env}{A:O4}{s:St E.D}{ρ:Nat->Value}{S:D0}{a:Act}{as:List Act}{w:World}
def j0K (b o m:Nat):(⟨b,o,none⟩:Addr).add m=⟨b,o+m,none⟩:=by
 unfold Addr.add;split
 ·rename_i h;subst h;rfl
 ·rfl
def l0o (p q:List P6):M4 (p++q)=M4 p+M4 q:=by
 induction p with
 |nil=>simp[M4]
 |cons x p ih=>
  rcases x with⟨j,o⟩|⟨i,z,m⟩<;>simp[M4,ih,add_assoc]
def m0T (p q:List P6):e8 (p++q)↔e8 p/\e8 q:=by
 induction p with
 |nil=>simp[e8]
 |cons x p ih=>
  rcases x with⟨j,o⟩|⟨i,z,m⟩<;>simp[e8,ih,and_assoc]
def l0W:∀{ts:List U} {h:HL E.D ts} {j:Nat} {t:U} {y:Den E.D t},N5 ts h j=some ⟨t,y⟩->∀(H:K0) (S:D0) (cs:List Value),(a0r E ts).R H S cs h->
  ∃c1 c2 c3,cs=c1++(c2++c3)/\c1.length=b0A E ts j/\(J0 E t).R H S c2 y
 |[],_,_,_,_,h=>by simp[N5]at h
 |t' :: ts,hh,0,t,y,h=>by
  intro H S cs b;simp only[N5,Option.some.injEq,Sigma.mk.injEq]at h;obtain⟨rfl,h⟩:=h;have h:=eq_of_heq h;subst h;obtain⟨c1,c2,rfl,h1,c⟩:=b;exact⟨[],c1,c2,by simp,rfl,h1⟩
 |t' :: ts,hh,j+1,t,y,h=>by
  intro H S cs b;simp only[N5]at h;obtain⟨c1,c2,rfl,h1,c⟩:=b;obtain⟨d1,d2,d3,rfl,hl,d⟩:=l0W h _ _ _ c;exact⟨c1++d1,d2,d3,by simp,by rw[length_append,(J0 E t').len h1,hl];rfl,d⟩
def Y9 {t:U}{xs:List (Den E.D t)}{i:Int}(b:0<=i)(h1:i<xs.length):xs[i.toNat]?=some (U6 E t xs i):=by
 unfold U6;exact @i0e _ ⟨dfl E t⟩ _ _ (by simp[B0,b,h1])
def j0x (q:Q1 E):∀{p:List P6} {t:U} {x:Den E.D t} {u:U} {y:Den E.D u},d0j E t x p=some ⟨u,y⟩->e8 p->∀(H:K0) (S:D0) (cs:List Value),(J0 E t).R H S cs x->
  ∃c1 c2 c3,cs=c1++(c2++c3)/\c1.length=M4 p/\(J0 E u).R H S c2 y
 |[],t,x,u,y,h,_=>by
  intro H S cs f;simp only[d0j,Option.some.injEq,Sigma.mk.injEq]at h;obtain⟨rfl,h⟩:=h;have h:=eq_of_heq h;subst h;exact⟨[],cs,[],by simp,rfl,f⟩
 |.inl (j,o) :: p,t,x,u,y,h,hp=>by
  intro H S cs f;cases t<;>simp only[d0j]at h<;>try cases h
  rename_i i;split at h
  ·rename_i I;rw[beq_eq]at I;split at h
   ·rename_i u' y' hg;obtain⟨c1,c2,c3,rfl,hl,C⟩:=l0W hg _ _ _ ((q.st i H S cs x).1 f);obtain⟨d1,d2,d3,rfl,c,d⟩:=j0x q h hp _ _ _ C;exact⟨c1++d1,d2,d3++c3,by simp,by rw[length_append,hl,I,c];rfl,d⟩
   ·cases h
  ·cases h
 |.inr (i,z,m) :: p,t,x,u,y,h,hp=>by
  intro H S cs f;cases t<;>simp only[d0j]at h<;>try cases h
  rename_i r t';split at h
  ·rename_i k;rw[and_eq_true,beq_eq,beq_eq]at k;obtain⟨k,rfl⟩:=k;obtain⟨hi,hp⟩:=hp;obtain⟨hlen,b⟩:=f;have g:(J0 E t').sz=z:=k;have e:=Y9 (E:=E) (t:=t') (xs:=x) hi.1 (by rw[hlen];exact hi.2);have C:=b.2 i.toNat _ e;obtain⟨d1,d2,d3,hd,c,d⟩:=j0x q h hp _ _ _ C;refine⟨cs.take (i.toNat*z)++d1,d2,d3++(cs.drop (i.toNat*z)).drop z,?_,?_,d⟩
   ·rw[g]at hd;have J:cs=cs.take (i.toNat*z)++((cs.drop (i.toNat*z)).take z++(cs.drop (i.toNat*z)).drop z):=by rw[List.take_append_drop,List.take_append_drop]
    rw[hd]at J
    conv=>lhs;rw[J]
    simp
   ·have l:cs.length=r*z:=by rw[b.1,hlen,g]
    have v:i.toNat<r:=by omega
    have:i.toNat*z<=r*z:=Nat.mul_le_mul_right _ (Nat.le_of_lt v);rw[length_append,List.length_take,c,l,Nat.min_eq_left this];rfl
  ·cases h
def E0k {t:U}(h:Y8 t=false):(J0 E t).sz=1:=by cases t<;>first|rfl|cases h
def VC.k0I {n:Nat}{H:K0}{v:V E.D}{c:List Value}(b:Q1 E)(h:VC E ρ n H S v c)(ha:C4 v=false):c.length=1:=by
 have:=h.len b (by rintro l rfl;cases ha);rw[this];cases v<;>first|rfl|skip
 rename_i t x;exact E0k ha
def q0w {n:Nat}{H:K0}{v:V E.D}{c:List Value}{ag:Bool}(ha:C4 v=ag):vl v c=H4 ag c:=by subst ha;rfl
def j0J {n:Nat}{H:K0}{t:U}{x:Den E.D t}{c:List Value}(h:VC E ρ n H S (.d t x) c):VC E ρ n H S (ofD t x) c:=by
 cases t<;>exact h
def k0o {t:U}{x:Den E.D t}:C4 (ofD (D:=E.D) t x)=Y8 t:=by cases t<;>rfl
def u0l {T b o n:Nat}{ag:Bool}(d:p9 E T=some ag)(e:R5 E T=some n){c:List Value}(hl:c.length=n)(h1:ag=false->n=1){w:World}(f:∀j v,c[j]?=some v->U2 w.heap b (o+j)=some v):
  (loadVar T ⟨b,o,none⟩).run E.P w=.ok (H4 ag c) w:=by
 have h:=n07 d w;have k:=d0l e w;cases ag with
 |true=>
  have g:=l02 (P:=E.P) ⟨b,o,none⟩ w c 0 #[] (fun j v m=>by rw[b0a,Nat.zero_add];exact f j v m);rw[hl]at g;simp[loadVar,h,k,loadCells,g,H4]
 |false=>
  have hn:=h1 rfl
  match c,hl.trans hn with
  |[z],_=>
   have l:=f 0 z rfl;have i:w.cell? ⟨b,o,none⟩=some z:=by rw[h0f];simpa using l
   simp[loadVar,h,load,Sem.run,i,H4]
def r0R {H:K0}{b T:Nat}{cs:List Value}(h:H[b]?=some (.cells cs.toArray T (0,0))){c1 c2 c3:List Value}(e:cs=c1++(c2++c3)){o:Nat}(f:c1.length=o)(j:Nat)(v:Value)(d:c2[j]?=some v):U2 H b (o+j)=some v:=by
 unfold U2;rw[h];subst f;have c:j<c2.length:=(List.getElem?_eq_some_iff.1 d).1;simp only[e];rw[List.getElem?_toArray,List.getElem?_append_right (by omega),Nat.add_sub_cancel_left,List.getElem?_append_left c];exact d
def Rp.q0C (h:Rp E A s ρ S a as w){id:Nat}{l:List (V E.D)}(c:j0F E s id=some l){b:Nat}(d:hd (ρ id)=.pointer (some ⟨b,0,none⟩)):
  ∃cs,N0 E ρ s.nid w.heap S l cs/\(∀u∈cs,u.oneCell'=true)/\∃T,∀w',K8 E s S w (fun k=>P1 (E0 s id)=true/\D1 (hd (ρ id))=some k) w'->w'.heap[b]?=some (.cells cs.toArray T (0,0)):=by
 have e:=h.th id;unfold j0F at c;split at c
 ·rename_i T l' hl;simp at c;subst c;rw[hl]at e ⊢;obtain⟨b',cs,f,h1,i,g⟩:=e;rw[f]at d;simp[hd]at d;subst d;exact⟨cs,i,g,T,fun w' hw=>(hw.2 b' ⟨rfl,by rw[f];rfl⟩ (getElem?_lt h1)).trans h1⟩
 ·rename_i T l' hl;simp at c;subst c;rw[hl]at e ⊢;obtain⟨b',cs,f,h1,i,g,j⟩:=e;rw[f]at d;simp[hd]at d;subst d;refine⟨cs,i,g,T,fun w' hw=>?_⟩;obtain⟨m,k⟩:=hw.1;exact(k.blk b' (getElem?_lt h1) j).2.trans h1
 ·cases c
def Row.cell {H:K0}{e sz n b o m c:Nat}{cs:List Value}(h:Row H e sz (.slice (some ⟨b,o,none⟩) m c) n cs)(hm:0<m):m=n/\b<H.size/\D1 (.slice (some ⟨b,o,none⟩) m c)=some b/\∀(i:K0),i[b]?=H[b]?->∀j,j<n*sz->U2 i b (o+j)=cs[j]?:=by
 obtain⟨k,d⟩:=h;rcases d with⟨_,a,f⟩|⟨g,cap,cur,f,hp,hg,hnc,hmx,hsz,htk⟩
 ·simp at f;omega
 ·simp at f;obtain⟨⟨t,q⟩,l,p⟩:=f;subst t;subst q;subst l;subst p;refine⟨rfl,getElem?_lt hg,e0I hp,fun i hH j r=>?_⟩;unfold U2;rw[hH,hg];simp only;rw[<-htk,List.getElem?_take_of_lt r,Nat.zero_add];simp
def S5.el {H:K0}{e b o m c:Nat}{t:U}{xs:List (Den E.D t)}(h:S5 E H S e t xs (.slice (some ⟨b,o,none⟩) m c)):
  xs.length=m/\∀i:Int,0<=i->i<m->(b<H.size/\D1 (.slice (some ⟨b,o,none⟩) m c)=some b)/\∃cs,(J0 E t).R H S cs (U6 E t xs i)/\∀g:K0,g[b]?=H[b]?->∀j v,cs[j]?=some v->U2 g b (o+i.toNat*X2 E t+j)=some v:=by
 obtain⟨cs,d,f⟩:=h;obtain⟨rfl,_⟩:=d.cap;refine⟨rfl,fun i x h1=>?_⟩;obtain⟨_,u,l,r⟩:=Row.cell d (by omega);refine⟨⟨u,l⟩,_,f.2 i.toNat _ (Y9 x h1),fun g hH j v k=>?_⟩;have q:j<(J0 E t).sz:=by
  rcases Nat.lt_or_ge j (J0 E t).sz with h|h
  ·exact h
  ·rw[List.getElem?_eq_none (by simp;omega)]at k;cases k
 rw[List.getElem?_take_of_lt q,List.getElem?_drop]at k;have p:i.toNat<xs.length:=by omega
 have hle:i.toNat*(J0 E t).sz+(J0 E t).sz<=xs.length*(J0 E t).sz:=by rw[<-Nat.succ_mul];exact Nat.mul_le_mul_right _ p
 have e:X2 E t=(J0 E t).sz:=rfl;rw[e,add_assoc,r g hH _ (by omega)];exact k
def S5.form {H:K0}{e:Nat}{t:U}{xs:List (Den E.D t)}{v:Value}(h:S5 E H S e t xs v):∃A' c,v=.slice A' xs.length c:=by
 obtain⟨cs,b,_⟩:=h;exact Row.form b
def Rp.h0a (h:Rp E A s ρ S a as w){id q f:Nat}{i:Int}{u:U}{ys:List (Den E.D u)}(hl:E0 s id=.rof q i f)(l:a09 E s q i f=some ⟨u,ys⟩):
  P1 (E0 s q)=true/\hd (ρ id)=ρ id/\(∃e,S5 E w.heap S e u ys (ρ id))/\∀b,D1 (ρ id)=some b->Bk (ρ q) b/\D1 (hd (ρ q))≠some b:=by
 unfold a09 at l;split at l<;>try cases l
 rename_i e F t xs y;have g:=h.th q;rw[y]at g;obtain⟨cs,g⟩:=g;have J:=h.th id;rw[hl]at J;obtain⟨b,o,m,c,h1,I,R,z⟩:=h.rf id q i f hl e F t xs y;have d:=g.row;rw[h1]at d;obtain⟨rfl,hb,a1,hc⟩:=Row.cell d (by omega);have j:=Y9 (E:=E) (t:=t) (xs:=xs) I.1 I.2;obtain⟨r,p,h6⟩:=g.rows i.toNat _ f u ys _ j l (List.getElem?_eq_getElem R) (by simp);have x:rowAt F i.toNat f<xs.length*(J0 E t).sz:=by rw[<-g.row.1];exact(List.getElem?_eq_some_iff.1 p).1
 have:=hc w.heap rfl _ x;rw[p]at this;have z:U2 w.heap b (o+rowAt F i.toNat f)=some (ρ id):=z;rw[z]at this;obtain rfl:=Option.some.inj this;have C:=d0I (o:=none) R (by simp) p (by simp);rw[<-g.tl]at C;refine⟨by rw[y];rfl,J.2.2,⟨_,h6⟩,fun k hk=>⟨Bk.tl (List.mem_of_getElem? C) hk,fun v=>?_⟩⟩;exact g.ap 0 (rowAt F i.toNat f+1) (hd (ρ q)) (ρ id) (by omega) rfl (by simpa using C) k v hk
def Rp.o0Z (h:Rp E A s ρ S a as w){id:Nat}{t:U}{xs:List (Den E.D t)}(d:b0I E s (.sl id)=some ⟨t,xs⟩):
  (∃e,S5 E w.heap S e t xs (hd (ρ id))/\∀z i q,d0Z s (.pe id i z q)=true)\/∃A' c,hd (ρ id)=.slice A' xs.length c/\Sl (J0 E t) w.heap S A' c xs:=by
 have j:=h.th id;unfold b0I at d;simp only at d;split at d<;>try cases d
 ·rename_i e hl;rw[hl]at j;obtain⟨cs,b,g⟩:=j;obtain⟨_,_,l⟩:=Row.form b;rw[l]at b;exact .inl ⟨e,⟨cs,by rw[l];exact b,g⟩,fun _ _ _=>by simp only[d0Z];rw[hl];rfl⟩
 ·rename_i hl;rw[hl]at j;obtain⟨A',c,m,k⟩:=j;exact .inr ⟨A',c,m,k⟩
 ·rename_i q i f hl;obtain⟨_,p,⟨e,o⟩,_⟩:=h.h0a hl d;exact .inl ⟨e,by rw[p];exact o,fun _ _ _=>by simp only[d0Z];rw[hl]⟩
def Rp.z02 (h:Rp E A s ρ S a as w){v:V E.D}{u:Value}(f:VS E ρ s.nid w.heap S v u){t:U}{xs:List (Den E.D t)}(b:g0W E s v=some ⟨t,xs⟩):∃A' c,u=.slice A' xs.length c:=by
 have main:b0I E s v=some ⟨t,xs⟩->∃A' c,u=.slice A' xs.length c:=by
  intro b;have g:=b;unfold b0I at b;split at b
  ·cases b;obtain⟨A',c,h1,_⟩:=f.f04;exact⟨A',c,h1⟩
  ·rename_i id _;obtain⟨_,rfl⟩:=f.X9;rcases h.o0Z g with⟨e,h1,_⟩|⟨A',c,h1,_⟩
   ·exact h1.form
   ·exact⟨A',c,h1⟩
  ·cases b
 unfold g0W at b;split at b
 ·rename_i id;split at b
  ·rename_i hl;cases b;obtain⟨_,rfl⟩:=f.X9;have d:=h.th id;rw[hl]at d;obtain⟨cs,d⟩:=d;exact Row.form d.row
  ·exact main b
 ·exact main b
def Rp.elC (h:Rp E A s ρ S a as w){id:Nat}{t:U}{xs:List (Den E.D t)}(I:b0I E s (.sl id)=some ⟨t,xs⟩){b o m c:Nat}(u:hd (ρ id)=.slice (some ⟨b,o,none⟩) m c):
  xs.length=m/\∀i:Int,0<=i->i<m->∃cs,(J0 E t).R w.heap S cs (U6 E t xs i)/\∀w' z k q,K8 E s S w (i0S s ρ (.pe id k z q)) w'->∀j v,cs[j]?=some v->U2 w'.heap b (o+i.toNat*X2 E t+j)=some v:=by
 rcases h.o0Z I with⟨e,h1,h2⟩|⟨A',c',hv,hsl⟩
 ·rw[u]at h1;obtain⟨h3,C⟩:=h1.el;refine⟨h3,fun i J h7=>?_⟩;obtain⟨⟨h4,r⟩,cs,h8,h9⟩:=C i J h7;exact⟨cs,h8,fun w' z k q hw=>h9 w'.heap (hw.2 b ⟨h2 z k q,fun q' f=>by rw[D01 f,u];exact r⟩ h4)⟩
 ·rw[u]at hv;simp at hv;obtain⟨rfl,rfl,rfl⟩:=hv;refine⟨rfl,fun i h0 h1=>?_⟩;obtain⟨b',o',cs,x,hR,y⟩:=hsl.2.2 i.toNat _ (Y9 h0 h1);simp at x;obtain⟨rfl,rfl⟩:=x;refine⟨cs,hR,fun w' z k2 q hw j v hj=>?_⟩;obtain⟨S',k⟩:=hw.1;have g:xs≠[]:=by rintro rfl;simp at h1;omega
  obtain⟨b2,o2,d,p,l⟩:=hsl.2.1 g;simp at d;obtain⟨rfl,rfl⟩:=d;rw[f0O (k.blk b p l).2];exact y j v hj
def O3 (E:Env)(s:St E.D)(ρ:Nat->Value)(S:D0)(w:World)(own:Nat->Prop)(f:Sem Value)(v:V E.D):Prop:=∃u,VS E ρ s.nid w.heap S v u/\∀w',K8 E s S w own w'->f.run E.P w'=.ok u w'
def u0G (hE:Q1 E)(h:Rp E A s ρ S a as w){T:Nat}{p:V E.D}{up:Value}(hp:VS E ρ s.nid w.heap S p up):
  o4 (j0Z E s T p) (O3 E s ρ S w (i0S s ρ p) (Instr.loadAt T up)):=by
 unfold j0Z;split<;>try trivial
 rename_i ag m b5 c8;have fin:∀{v:V E.D} {c:List Value} {b o:Nat} {own:Nat->Prop},VC E ρ s.nid w.heap S v c->C4 v=ag->c.length=m->up=.pointer (some ⟨b,o,none⟩)->(∀w',K8 E s S w own w'->∀j u,c[j]?=some u->U2 w'.heap b (o+j)=some u)->O3 E s ρ S w own (Instr.loadAt T up) v:=by
  intro v c b o own l ha hl hu hc;refine⟨vl v c,⟨c,l,rfl⟩,fun w' hw=>?_⟩;have h1:ag=false->m=1:=fun e=>by rw[<-hl];exact l.k0I hE (by rw[ha,e])
  have:=u0l b5 c8 hl h1 (hc w' hw);rw[<-q0w (n:=s.nid) (H:=w.heap) ha]at this;subst hu;simp[Instr.loadAt,Instr.sureAddr,this]
 have f:∀{u:U} {y:Den E.D u} {c:List Value} {b o:Nat} {own:Nat->Prop},((Y8 u==ag)&&(X2 E u==m))=true->(J0 E u).R w.heap S c y->up=.pointer (some ⟨b,o,none⟩)->(∀w',K8 E s S w own w'->∀j u,c[j]?=some u->U2 w'.heap b (o+j)=some u)->O3 E s ρ S w own (Instr.loadAt T up) (ofD u y):=by
  intro u y c b o own hk l hu hc;simp only[and_eq_true,beq_iff_eq]at hk;exact fin (j0J (show VC E ρ s.nid w.heap S (.d u y) c from l)) (by rw[k0o];exact hk.1) (by rw[(J0 E u).len l];exact hk.2) hu hc
 split
 ·rename_i id off;obtain⟨_,_,b,hr,hu⟩:=hp.b0l;simp only[M4,Nat.add_zero]at hu;split<;>try trivial
  rename_i cs hb;obtain⟨cc,b2,h1,T',C⟩:=h.q0C hb hr;split<;>try trivial
  rename_i x1 m1 x2 c4;obtain⟨c1,c2,c3,e,J,b4,_,hm,_⟩:=g0e hE c4 b2;have g:∀w',K8 E s S w (i0S s ρ (.pb id off [])) w'->∀j u,c2[j]?=some u->U2 w'.heap b (off+j)=some u:=fun w' hw j u r=>r0R (C w' (hw.e0z fun _=>pbK)) e J j u r;split<;>try trivial
  ·rename_i t x ha;obtain⟨l,hi⟩:=f0Y hE ha hm;exact fin (j0J l) (by rw[k0o];exact hi) b4 hu g
  ·rename_i v _ ha;obtain⟨l,hi⟩:=f0Y hE ha hm;exact fin l hi b4 hu g
 ·rename_i id off i q;obtain⟨_,I,b,hr,hu⟩:=hp.b0l;split<;>try trivial
  rename_i cs hb;obtain⟨cc,b2,h1,T',C⟩:=h.q0C hb hr;split<;>try trivial
  rename_i x1 k t x x2 c6;obtain⟨c1,c2,e,J,_,b3⟩:=b0g hE _ _ _ _ _ c6 cc b2;unfold N0 at b3;obtain⟨d1,d2,rfl,hd,_⟩:=b3;split<;>try trivial
  rename_i u y hg;obtain⟨e1,e2,e3,a1,hle,hy⟩:=j0x hE hg I _ _ _ hd;split<;>try trivial
  rename_i hk;refine f hk hy hu fun w' hw j u r=>?_;refine r0R (c1:=c1++e1) (c2:=e2) (c3:=e3++d2) (C w' (hw.e0z fun _=>pbK)) (by rw[e,a1];simp) (by rw[length_append,J,hle]) j u r
 ·rename_i id i z q;obtain⟨_,I,b,o,mm,c,hr,⟨h0,h1⟩,hu⟩:=hp.c05;split<;>try trivial
  rename_i t xs hx;obtain⟨hl,c5⟩:=h.elC hx hr;obtain⟨cs,hR,hc⟩:=c5 i h0 h1;split<;>try trivial
  rename_i u y hg;obtain⟨e1,e2,e3,a1,hle,hy⟩:=j0x hE hg I _ _ _ hR;split<;>try trivial
  rename_i hk;rw[and_eq_true,beq_eq]at hk;obtain⟨hk,rfl⟩:=hk;refine f hk hy hu fun w' hw j u r=>?_;have b1:j<e2.length:=(List.getElem?_eq_some_iff.1 r).1;have:=hc w' _ _ _ hw (e1.length+j) u (by rw[a1,List.getElem?_append_right (by omega),Nat.add_sub_cancel_left,List.getElem?_append_left b1];exact r);rw[hle]at this
  rwa [show o+i.toNat*X2 E t+M4 q+j=o+i.toNat*X2 E t+(M4 q+j)from by omega]
 ·rename_i t x;obtain⟨b,o,cs,hu,b1,c0,hR,hc⟩:=hp.f0b;split<;>try trivial
  rename_i hk;refine f hk hR hu fun w' hw j u r=>?_;obtain⟨S',k⟩:=hw.1;rw[f0O (k.blk b b1 c0).2];exact hc j u r
 ·trivial
def O3.pure {own:Nat->Prop}{f:Sem Value}{v:V E.D}{u:Value}(c:VS E ρ s.nid w.heap S v u)(b:∀w',f.run E.P w'=.ok u w'):O3 E s ρ S w own f v:=⟨u,c,fun w' _=>b w'⟩
def VS.pb {n:Nat}{H:K0}{id off b:Nat}{p:List P6}(h1:id<n)(d:e8 p)(c:hd (ρ id)=.pointer (some ⟨b,0,none⟩)):VS E ρ n H S (.pb id off p:V E.D) (.pointer (some ⟨b,off+M4 p,none⟩)):=
 VS.of rfl (by unfold VC;exact⟨h1,d,b,c,rfl⟩)
def VS.pe {n:Nat}{H:K0}{id z b o m c:Nat}{i:Int}{p:List P6}(h1:id<n)(e:e8 p)(d:hd (ρ id)=.slice (some ⟨b,o,none⟩) m c)(f:0<=i/\i<m):VS E ρ n H S (.pe id i z p:V E.D) (.pointer (some ⟨b,o+i.toNat*z+M4 p,none⟩)):=
 VS.of rfl (by unfold VC;exact⟨h1,e,b,o,m,c,d,f,rfl⟩)
def w0g (U:Q1 E)(_h:Rp E A s ρ S a as w){T f:Nat}{p:V E.D}{up:Value}(hp:VS E ρ s.nid w.heap S p up):
  o4 (m0P E s T p f) (O3 E s ρ S w (fun _=>False) (Instr.fieldAt T up f)):=by
 unfold m0P;split<;>try trivial
 rename_i o g;have run:∀(b q:Nat) (w':World),up=.pointer (some ⟨b,q,none⟩)->(Instr.fieldAt T up f).run E.P w'=.ok (.pointer (some ⟨b,q+o,none⟩)) w':=by
  intro b q w' hu;subst hu;unfold q0n at g;split at g<;>try cases g
  rename_i l hl;split at g<;>try cases g
  rename_i x R;split at g<;>try cases g
  rename_i m hm;have:=d0l hm w';simp[Instr.fieldAt,run_underlying hl,R,Instr.sureAddr,fieldPlace,this,j0K]
 split
 ·rename_i id off;obtain⟨h1,r,b,h,hu⟩:=hp.b0l;refine O3.pure (VS.pb (off:=off+o) h1 (p:=[]) trivial h) fun w'=>?_;rw[run b _ w' hu];simp[M4]
 ·rename_i id off q _;obtain⟨h1,r,b,h,hu⟩:=hp.b0l;refine O3.pure (VS.pb (off:=off) h1 (p:=q++[.inl (f,o)]) ((m0T _ _).2 ⟨r,(show e8 [.inl (f,o)]from trivial)⟩) h) fun w'=>?_;rw[run b _ w' hu,l0o];simp[M4,add_assoc]
 ·rename_i id i z q;obtain⟨h1,r,b,o',m,c,h,h4,hu⟩:=hp.c05;split<;>try trivial
  split<;>try trivial
  split<;>try trivial
  refine O3.pure (VS.pe h1 (p:=q++[.inl (f,o)]) ((m0T _ _).2 ⟨r,(show e8 [.inl (f,o)]from trivial)⟩) h h4) fun w'=>?_;rw[run b _ w' hu,l0o];simp[M4,add_assoc]
 ·rename_i k x;obtain⟨b,q,cs,hu,d,t,hR,J⟩:=hp.f0b;split<;>try trivial
  rename_i C;rw[beq_eq]at C;split<;>try trivial
  rename_i u y hg;obtain⟨c1,c2,c3,e,hl,hy⟩:=l0W hg _ _ _ ((U.st k w.heap S cs x).1 hR);refine O3.pure (VS.pd ⟨b,q+o,c2,rfl,d,t,hy,fun j v I=>?_⟩) fun w'=>run b q w' hu;have d:j<c2.length:=(List.getElem?_eq_some_iff.1 I).1;have:=J (c1.length+j) v (by rw[e,List.getElem?_append_right (by omega),Nat.add_sub_cancel_left,List.getElem?_append_left d];exact I)
  rwa [hl,C,show q+(o+j)=q+o+j from by omega]at this
 ·trivial
def VS.flat {n:Nat}{H:K0}{v:V E.D}{u:Value}(h:VS E ρ n H S v u):∃c,N0 E ρ n H S (H6 v) c/\(C4 v=true->u=.agg c.toArray)/\(C4 v=false->u=c.headD Go.undef)/\VC E ρ n H S v c:=by
 obtain⟨c,h1,rfl⟩:=h;refine⟨c,?_,fun e=>by unfold vl;rw[e];rfl,fun e=>by unfold vl;rw[e];rfl,h1⟩;cases v<;>first|exact N0.one h1|(unfold VC at h1;exact h1)
def w0N (g:Q1 E)(_h:Rp E A s ρ S a as w){T f:Nat}{v:V E.D}{p:Value}(hv:VS E ρ s.nid w.heap S v p):
  o4 (n06 E T v f) (O3 E s ρ S w (fun _=>False) (Instr.field T p f)):=by
 unfold n06;split<;>try trivial
 rename_i l hl;split<;>try trivial
 rename_i x I;split<;>try trivial
 rename_i ag m i o;split<;>try trivial
 rename_i b;split<;>try trivial
 rename_i a1 m1 c1 r;obtain⟨cc,j,C,_,U⟩:=hv.flat;obtain⟨d1,d2,d3,e,c,k,_,hm,_⟩:=g0e g r j;have fin:∀{h:V E.D},VC E ρ s.nid w.heap S h d2->C4 h=ag->C4 v=true->O3 E s ρ S w (fun _=>False) (Instr.field T p f) h:=by
  intro h d ha b;refine O3.pure ⟨d2,d,rfl⟩ fun w'=>?_;rw[q0w (E:=E) (n:=s.nid) (H:=w.heap) ha];have J:=n07 i w';have R:=d0l o w';rw[C b];cases ag with
  |true=>
   simp[Instr.field,run_underlying hl,I,asAgg,part,J,R,H4,e];rw[<-c,<-k];simp
  |false=>
   have h1:=d.k0I g ha
   match d2,h1 with
   |[z],_=>
    have:(d1++([z]++d3))[x.offset]?=some z:=by rw[<-c];simp
    simp[Instr.field,run_underlying hl,I,asAgg,part,J,H4,e];simp at this;rw[this];simp
 split<;>try trivial
 ·rename_i t y ha;obtain⟨q,hi⟩:=f0Y g ha hm;exact fin (j0J q) (by rw[k0o];exact hi) b
 ·rename_i u _ ha;obtain⟨q,hi⟩:=f0Y g ha hm;exact fin q hi b
def e0q {e:Nat}{t:U}(h:a0N E e t=true)(w:World):(sizeOf e).run E.P w=.ok (X2 E t) w:=by
 unfold a0N at h;split at h
 ·rename_i n hn;rw[beq_eq]at h;subst h;exact d0l hn w
 ·cases h
def q0I {t:U}{H:K0}{A':Option Addr}{c:Nat}{xs:List (Den E.D t)}(h:Sl (J0 E t) H S A' c xs){j:Int}(l:B0 xs j=true):
  ∃b o,A'=some ⟨b,o,none⟩/\PtR (J0 E t) H S (.pointer (some ⟨b,o+j.toNat*X2 E t,none⟩)) (U6 E t xs j):=by
 obtain⟨m,h1⟩:=c0g l;obtain⟨b,o,cs,i,hR,k⟩:=h.2.2 j.toNat _ (Y9 m h1);have e:xs≠[]:=by rintro rfl;simp at h1;omega
 obtain⟨p,q,d,g,f⟩:=h.2.1 e;rw[i]at d;simp at d;obtain⟨rfl,rfl⟩:=d;exact⟨b,o,i,b,_,cs,rfl,g,f,hR,k⟩
def A0Q (hE:Q1 E)(h:Rp E A s ρ S a as w){T:Nat}{p i:V E.D}{up ui:Value}(hp:VS E ρ s.nid w.heap S p up)(hi:VS E ρ s.nid w.heap S i ui):
  o4 (m0G E s T p i) (O3 E s ρ S w (fun _=>False) (Instr.indexAt T up ui)):=by
 unfold m0G;split<;>try trivial
 rename_i k j R;obtain rfl:=r9 R hi;split<;>try trivial
 ·rename_i e hT;have run:∀{b o m c z:Nat} (w':World),up=.slice (some ⟨b,o,none⟩) m c->(sizeOf e).run E.P w'=.ok z w'->0<=j->j<m->(Instr.indexAt T up (.int k j)).run E.P w'=.ok (.pointer (some ⟨b,o+j.toNat*z,none⟩)) w':=by
   intro b o m c z w' hu d r h1;subst hu;simp[Instr.indexAt,asIntOf,run_underlying hT,d,r,h1,j0K]
  split
  ·rename_i t xs;split<;>try trivial
   rename_i d;intro l;obtain⟨A',c,rfl,a1⟩:=hp.f04;obtain⟨b,o,rfl,b1⟩:=q0I a1 l;obtain⟨r,h1⟩:=c0g l;exact O3.pure (VS.pd b1) fun w'=>run w' rfl (e0q d w') r (by omega)
  ·rename_i id;obtain⟨U,rfl⟩:=hp.X9;have I:=h.th id;split<;>try trivial
   ·rename_i e' t xs hl;split<;>try trivial
    rename_i d;intro l;obtain⟨r,h1⟩:=c0g l;rw[hl]at I;obtain⟨cs,⟨c3,C⟩,J⟩:=I;rcases C with⟨_,h3⟩|⟨g,cap,cur,y,_⟩
    ·omega
    ·have y:hd (ρ id)=_:=congrArg hd y;have:=VS.pe (E:=E) (S:=S) (H:=w.heap) (z:=X2 E t) U (p:=[]) trivial y ⟨r,h1⟩;exact O3.pure this fun w'=>by rw[run w' y (e0q d w') r h1];simp[M4]
   ·rename_i t xs hl;split<;>try trivial
    rename_i d;intro l;obtain⟨r,h1⟩:=c0g l;rw[hl]at I;obtain⟨A',c,y,a1⟩:=I;obtain⟨b,o,rfl,b1⟩:=q0I a1 l;exact O3.pure (VS.pd b1) fun w'=>run w' y (e0q d w') r h1
   ·rename_i e' F t xs o hl;split<;>try trivial
    rename_i d;intro l;obtain⟨r,h1⟩:=c0g l;rw[hl]at I;obtain⟨cs,I⟩:=I;rcases I.row.2 with⟨_,h3⟩|⟨g,cap,cur,y,_⟩
    ·omega
    ·have:=VS.pe (E:=E) (S:=S) (H:=w.heap) (z:=X2 E t) U (p:=[]) trivial y ⟨r,h1⟩;exact O3.pure this fun w'=>by rw[run w' y (e0q d w') r h1];simp[M4]
   ·rename_i q k2 f hl;split<;>try trivial
    rename_i t xs hx;split<;>try trivial
    rename_i d;intro l;obtain⟨r,h1⟩:=c0g l;obtain⟨_,e1,⟨e2,cs,C,_⟩,_⟩:=h.h0a hl hx;rw[<-e1]at C;rcases C.2 with⟨_,h3⟩|⟨g,cap,cur,y,_⟩
    ·omega
    ·have:=VS.pe (E:=E) (S:=S) (H:=w.heap) (z:=X2 E t) U (p:=[]) trivial y ⟨r,h1⟩;exact O3.pure this fun w'=>by rw[run w' y (e0q d w') r h1];simp[M4]
  ·trivial
 ·rename_i m e hT;have run:∀{b o z:Nat} (w':World),up=.pointer (some ⟨b,o,none⟩)->(sizeOf e).run E.P w'=.ok z w'->0<=j->j<m->(Instr.indexAt T up (.int k j)).run E.P w'=.ok (.pointer (some ⟨b,o+j.toNat*z,none⟩)) w':=by
   intro b o z w' hu d r h1;subst hu;simp[Instr.indexAt,Instr.sureAddr,asIntOf,run_underlying hT,d,r,h1,j0K]
  have out:∀{v:V E.D},(0<=j->j<m->O3 E s ρ S w (fun _=>False) (Instr.indexAt T up (.int k j)) v)->
    o4 (f0i i j m v) (O3 E s ρ S w (fun _=>False) (Instr.indexAt T up (.int k j))):=by
   intro v y;unfold f0i;split
   ·rename_i hl;unfold p04 at hl;split at hl
    ·rename_i m' hm;have:=k0m R hm;subst this;simp only[and_eq_true,decide_eq_true_eq]at hl;exact y hl.1 hl.2
    ·cases hl
   ·intro hb;simp only[and_eq_true,decide_eq_true_eq]at hb;exact y hb.1 hb.2
  split
  ·rename_i id off;obtain⟨h1,h2,b,hr,hu⟩:=hp.b0l;split
   ·rename_i m' hm;have b3:=k0m R hm;split<;>try trivial
    rename_i z d;refine out fun h3 h4=>O3.pure (VS.pb (off:=off+m'.toNat*z) h1 (p:=[]) trivial hr) fun w'=>?_;rw[run w' hu (d0l d w') h3 h4,b3];simp[M4]
   ·split
    ·rename_i z d;refine out fun h3 h4=>O3.pure (VS.pb (off:=off) h1 (p:=[.inr (j,z,m)]) ⟨⟨h3,h4⟩,trivial⟩ hr) fun w'=>?_;rw[run w' hu (d0l d w') h3 h4];simp[M4]
    ·trivial
  ·rename_i id k2 z q;obtain⟨h1,h2,b,o,mm,c,hr,h4,hu⟩:=hp.c05;split<;>try trivial
   split<;>try trivial
   split<;>try trivial
   rename_i d;rw[and_eq_true]at d;refine out fun h5 h6=>O3.pure (VS.pe h1 (p:=q++[.inr (j,_,m)]) ((m0T _ _).2 ⟨h2,(show e8 [.inr (j,_,m)]from⟨⟨h5,h6⟩,trivial⟩)⟩) hr h4) fun w'=>?_;rw[run w' hu (e0q d.2 w') h5 h6,l0o];simp[M4,add_assoc]
  ·rename_i n' u x;split<;>try trivial
   rename_i d;rw[and_eq_true,beq_eq]at d;obtain⟨rfl,d⟩:=d;refine out fun h5 h6=>?_;obtain⟨b,q,cs,hu,b5,b4,⟨hlen,J⟩,hc⟩:=hp.f0b;have b2:=Y9 (E:=E) (t:=u) (xs:=x) h5 (by rw[hlen];exact h6);refine O3.pure (VS.pd ⟨b,q+j.toNat*X2 E u,_,rfl,b5,b4,J.2 _ _ b2,fun jj v R=>?_⟩) fun w'=>run w' hu (e0q d w') h5 h6;have c0:jj<(J0 E u).sz:=by
    rcases Nat.lt_or_ge jj (J0 E u).sz with h|h
    ·exact h
    ·rw[List.getElem?_eq_none (by simp;omega)]at R;cases R
   rw[List.getElem?_take_of_lt c0,List.getElem?_drop]at R;have:=hc _ v R
   rwa [show q+(j.toNat*(J0 E u).sz+jj)=q+j.toNat*X2 E u+jj from by unfold X2;omega]at this
  ·trivial
def l0U:∀(l:List Value) (k off:Nat) (cells:Array Value) (d1 d2 d3:List Value),cells.toList=d1++(d2++d3)->d1.length=off+k->d2.length=l.length->
  ((l.zipIdx k).foldl (fun cs (p:Value×Nat)=>cs.setIfInBounds (off+p.2) p.1) cells).toList=d1++(l++d3)
 |[],k,off,cells,d1,d2,d3,h,_,b=>by
  have:d2=[]:=List.eq_nil_of_length_eq_zero (by simpa using b);subst this;simpa using h
 |c :: l,k,off,cells,d1,[],d3,h,h1,b=>by simp at b
 |c :: l,k,off,cells,d1,x :: d2,d3,h,h1,b=>by
  simp only[List.zipIdx_cons,List.foldl_cons];have:=l0U l (k+1) off (cells.setIfInBounds (off+k) c) (d1++[c]) d2 d3 (by
   rw[Array.toList_setIfInBounds,h,<-h1];simp) (by simp;omega) (by simpa using b)
  rw[this];simp
def VT.get {n:Nat}{H:K0}:∀{l:List (V E.D)} {us:List Value},VT E ρ n H S l us->∀{j:Nat},o4 (o08 l j) (fun v=>∃u,us[j]?=some u/\VS E ρ n H S v u)
 |[],us,h,j=>by cases j<;>trivial
 |v :: l,us,h,0=>by
  unfold VT at h;obtain⟨c,e,h1,rfl,b⟩:=h;exact⟨_,rfl,c,h1,rfl⟩
 |v :: l,us,h,j+1=>by
  unfold VT at h;obtain⟨c,e,h1,rfl,b⟩:=h;exact(VT.get b (j:=j)).mono fun v d=>by simpa using d
inductive PR (E:Env) (ρ:Nat->Value) (n:Nat) (H:K0) (S:D0):List (Nat×V E.D)->List (Nat×Value)->Prop
 |nil:PR E ρ n H S [] []
 |cons {i:Nat} {v:V E.D} {u:Value} {l:List (Nat×V E.D)} {l':List (Nat×Value)}:VS E ρ n H S v u->PR E ρ n H S l l'->PR E ρ n H S ((i,v) :: l) ((i,u) :: l')
def VC.one {n:Nat}{H:K0}{v:V E.D}{c:List Value}(h:VC E ρ n H S v c)(f:h0J v=true):∀u∈c,u.oneCell'=true:=by
 cases v<;>simp only[h0J]at f<;>try cases f
 case d t x=>exact(J0 E t).one h
 case pd t x=>unfold VC at h;obtain⟨v,rfl,b,o,cs,rfl,_⟩:=h;simp[Value.oneCell']
 case df t x=>unfold VC at h;obtain⟨_,rfl,_⟩:=h;simp[Value.oneCell']
 case kb=>unfold VC at h;subst h;simp[Value.oneCell']
 case ki=>unfold VC at h;subst h;simp[Value.oneCell']
 case nil=>unfold VC at h;subst h;simp[Value.oneCell']
 case nilp=>unfold VC at h;subst h;simp[Value.oneCell']
 case nilif=>unfold VC at h;subst h;simp[Value.oneCell']
 case nilfn=>unfold VC at h;subst h;simp[Value.oneCell']
 case pb=>unfold VC at h;obtain⟨_,_,_,_,rfl⟩:=h;simp[Value.oneCell']
 case pe=>unfold VC at h;obtain⟨_,_,_,_,_,_,_,_,rfl⟩:=h;simp[Value.oneCell']
 case fn=>unfold VC at h;obtain⟨_,rfl,_⟩:=h;simp[Value.oneCell']
 case ifc=>unfold VC at h;obtain⟨_,_,rfl⟩:=h;simp[Value.oneCell']
 case sl id=>unfold VC at h;obtain⟨_,e,rfl⟩:=h;simpa using e
 case mp id=>unfold VC at h;obtain⟨_,e,rfl⟩:=h;simpa using e
def N0.t05 {n:Nat}{H:K0}:∀{l:List (V E.D)} {c:List Value},N0 E ρ n H S l c->l.all h0J=true->∀u∈c,u.oneCell'=true
 |[],c,h,_=>by unfold N0 at h;subst h;intro u hu;cases hu
 |v :: l,c,h,hs=>by
  unfold N0 at h;obtain⟨c1,c2,rfl,h1,b⟩:=h;simp only[List.all_cons,and_eq_true]at hs;intro u hu;rcases List.mem_append.1 hu with h|h
  ·exact h1.one hs.1 u h
  ·exact N0.t05 b hs.2 u h
def cells_one {v:Value}(h:v.oneCell'=true):v.cells=#[v]:=by cases v<;>simp_all[Value.cells,Value.oneCell']
def VS.cells {n:Nat}{H:K0}{v:V E.D}{u:Value}(g:Q1 E)(h:VS E ρ n H S v u)(i:c0k v=true):∃c,N0 E ρ n H S (H6 v) c/\u.cells=c.toArray/\(∀x∈c,x.oneCell'=true)/\VC E ρ n H S v c:=by
 obtain⟨c,h1,f,e,d⟩:=h.flat;have b:∀x∈c,x.oneCell'=true:=by
  refine N0.t05 h1 ?_;cases v<;>simp_all[H6,c0k]
 cases ha:C4 v with
 |true=>exact⟨c,h1,by rw[f ha];rfl,b,d⟩
 |false=>
  have hl:=d.k0I g ha
  match c,hl with
  |[z],_=>
   have:=e ha;simp at this;subst this;exact⟨[u],h1,cells_one (b u (by simp)),b,d⟩
def u0U {n:Nat}{H:K0}(b:Q1 E):∀{l:List (V E.D)} {c:List Value},N0 E ρ n H S l c->(∀v∈l,∀l',v≠.agg l')->c.length=szs E l
 |[],c,h,_=>by unfold N0 at h;subst h;rfl
 |v :: l,c,h,hs=>by
  unfold N0 at h;obtain⟨c1,c2,rfl,h1,e⟩:=h;unfold szs;rw[length_append,h1.len b (hs v (by simp)),u0U b e (fun x d=>hs x (by simp[d]))]
def i0G {n:Nat}{H:K0}(b:Q1 E){v:V E.D}{c:List Value}(h:VC E ρ n H S v c)(d:c0k v=true):c.length=vsz E v:=by
 cases v<;>first|exact h.len b (by simp)|skip
 rename_i l;unfold VC at h;refine u0U b h fun x f l' e=>?_;subst e;have:=List.all_eq_true.1 d _ f;cases this
def s0B {n:Nat}{H:K0}(k:Q1 E){pl:List (Nat×Nat)}{place:Nat->Option (Nat×Nat)}(hp:∀i p,pl[i]?=some p->place i=some p):∀{l:List (Nat×V E.D)} {l':List (Nat×Value)},PR E ρ n H S l l'->∀{cs g:List (V E.D)} {c:Array Value},
  d0G E pl l cs=some g->N0 E ρ n H S cs c.toList->∃c',Instr.fill place c l'=some c'/\N0 E ρ n H S g c'.toList
 |_,_,.nil,cs,g,c,h,hc=>by
  simp only[d0G,Option.some.injEq]at h;subst h;exact⟨c,rfl,hc⟩
 |_,_,.cons (i:=i) (v:=v) (u:=u) hv hr,cs,g,c,h,hc=>by
  simp only[d0G]at h;split at h<;>try cases h
  rename_i off m x;split at h<;>try cases h
  rename_i q;rw[and_eq_true,beq_eq]at q;split at h<;>try cases h
  rename_i a b d J;obtain⟨c1,c2,c3,e,y,z,ha,_,hd⟩:=g0e k J hc;obtain⟨o,r,f,_,t⟩:=hv.cells k q.2;have hlen:o.length=m:=(i0G k t q.2).trans q.1;have j:=l0U o 0 off c c1 c2 c3 e (by omega) (by omega);have key:N0 E ρ n H S (a++H6 v++d) ((u.cells.zipIdx.foldl (fun cs (p:Value×Nat)=>cs.setIfInBounds (off+p.2) p.1) c).toList):=by
   rw[f];have:(o.toArray.zipIdx.foldl (fun cs (p:Value×Nat)=>cs.setIfInBounds (off+p.2) p.1) c).toList=c1++(o++c3):=by
    rw[<-j];simp[<-Array.foldl_toList]
   rw[this,List.append_assoc];exact ha.app (r.app hd)
  obtain⟨c',R,C⟩:=s0B k hp hr h key;refine⟨c',?_,C⟩;have I:c.toList.length=off+(m+c3.length):=by rw[e];simp[y,z]
  simp only[Instr.fill,hp i _ x];rw[if_neg]
  ·exact R
  ·rw[f];simp only[Array.length_toList]at I;simp[hlen];omega
def VS.a8 {n:Nat}{H:K0}(v:Value):VS E ρ n H S (a8 v:V E.D) v/\(C4 (a8 v:V E.D)=false):=by
 unfold Go.X.a8;split<;>first|exact⟨⟨[_],by unfold VC;rfl,rfl⟩,rfl⟩|exact⟨VS.undef _,rfl⟩
def VC.a8 {n:Nat}{H:K0}(v:Value):VC E ρ n H S (a8 v:V E.D) [v]:=by
 unfold Go.X.a8;split<;>unfold VC<;>first|rfl|exact⟨_,rfl⟩
def N0.s0z {n:Nat}{H:K0}:∀(l:List Value),N0 E ρ n H S (l.map Go.X.a8:List (V E.D)) l
 |[]=>N0.nil
 |v :: l=>by
  rw[map_cons];unfold N0;exact⟨[v],l,rfl,VC.a8 v,N0.s0z l⟩
def s0f (v:Value):H6 (Go.X.a8 v:V E.D)=[Go.X.a8 v]:=by
 unfold Go.X.a8;split<;>rfl
def i0g {n:Nat}{H:K0}(z:Value):N0 E ρ n H S (H6 (ofZ E z)) z.cells.toList:=by
 have key:∀v:Value,(∀l,v≠.agg l)->N0 E ρ n H S (H6 (Go.X.a8 v:V E.D)) v.cells.toList:=by
  intro v b;rw[s0f];have:v.cells=#[v]:=by cases v<;>first|rfl|exact absurd rfl (b _)
  rw[this];exact N0.one (VC.a8 v)
 unfold ofZ;split
 ·rename_i cs;exact N0.s0z cs.toList
 ·rename_i h;exact key z (fun l e=>h l e)
def q0t:∀{fs:List Field} {pl:List (Nat×Nat)},h0Q E fs=some pl->fs.mapM (fun f=>(E.P.info? f.type).map fun i=>(f.offset,i.size))=some pl
 |[],pl,h=>by simp[h0Q]at h;subst h;rfl
 |f :: fs,pl,h=>by
  simp only[h0Q]at h;split at h<;>try cases h
  rename_i n l hn hl;unfold R5 at hn;split at hn<;>try cases hn
  rename_i i hi;simp[List.mapM_cons,hi,q0t hl]
def PR.of {n:Nat}(b:∀x,VS E ρ n w.heap S (T1 E s x) (a.eval x)):∀(l:List (Nat×Operand)),PR E ρ n w.heap S (l.map fun p=>(p.1,T1 E s p.2)) (l.map fun p=>(p.1,a.eval p.2))
 |[]=>.nil
 |p :: l=>.cons (b p.2) (PR.of b l)
def v0b (u:Q1 E)(h:Rp E A s ρ S a as w){T:Nat}{parts:Array (Nat×Operand)}:
  o4 (m0t E s T parts.toList) (O3 E s ρ S w (fun _=>False) (Instr.build T (parts.map fun p=>(p.1,a.eval p.2)))):=by
 have k:=PR.of (E:=E) h.val parts.toList;unfold m0t;split<;>try trivial
 rename_i i hi;split<;>try trivial
 rename_i z o;have fin:∀{pl:List (Nat×Nat)} {place:Nat->Option (Nat×Nat)} {cs:List (V E.D)},(∀i p,pl[i]?=some p->place i=some p)->d0G E pl (parts.toList.map fun p=>(p.1,T1 E s p.2)) (H6 (ofZ E z))=some cs->
   (∀c',Instr.fill place z.cells (parts.toList.map fun p=>(p.1,a.eval p.2))=some c'->E.P.built T (parts.toList.map fun p=>(p.1,a.eval p.2))=some c')->O3 E s ρ S w (fun _=>False) (Instr.build T (parts.map fun p=>(p.1,a.eval p.2))) (.agg cs):=by
  intro pl place cs hp c r;obtain⟨c',h1,d⟩:=s0B u hp k c (i0g z);refine O3.pure ⟨c'.toList,by unfold VC;exact d,rfl⟩ fun w'=>?_;rw[run_build w' T _ c' (by rw[Array.toList_map];exact r c' h1)];simp[vl,C4,H4]
 split<;>try trivial
 ·rename_i fs g;split<;>try trivial
  rename_i pl f;split<;>try trivial
  rename_i cs c;refine fin (place:=fun i=>pl.toArray[i]?) (fun i p hp=>by simpa using hp) c fun c' b=>?_;unfold Program.built;simp only[hi,g,o];rw[q0t f];exact b
 ·rename_i n e g;split<;>try trivial
  rename_i m hm;split<;>try trivial
  rename_i cs c;unfold R5 at hm;split at hm<;>try cases hm
  rename_i q l;refine fin (place:=fun i=>some (i*q.size,q.size)) (fun i p hp=>?_) c fun c' b=>?_
  ·rw[List.getElem?_map]at hp;obtain⟨j,t,rfl⟩:=Option.map_eq_some_iff.1 hp;have:=List.getElem?_eq_some_iff.1 t;obtain⟨h1,d⟩:=this;simp at d;subst d;rfl
  ·unfold Program.built;simp only[hi,g,o,l];exact b
def VS.A0L {n:Nat}{H:K0}{x:ByteArray}{u:Value}(h:VS E ρ n H S (.d .str x) u):u=.string x:=by
 have:(J0 E .str).R H S [u] x:=h.d rfl;simpa[J0,q07]using this
def VS.p0x {n:Nat}{H:K0}{id:Nat}{u:Value}(h:VS E ρ n H S (.mp id:V E.D) u):id<n/\u=hd (ρ id):=by
 obtain⟨c,h1,rfl⟩:=h;unfold VC at h1;obtain⟨b,_,rfl⟩:=h1;exact⟨b,rfl⟩
def k0Y {D:Nat->Type}:V D->Bool
 |.mp _=>true
 |_=>false
def D0w (h:Rp E A s ρ S a as w){v:V E.D}{u:Value}(f:VS E ρ s.nid w.heap S v u){T:Nat}{ty:Nat}{ts:Array TypeId}(b:ts[0]?=some T):
  o4 (n0b E s T v) (O3 E s ρ S w (fun _=>k0Y v=true) (Builtin.len_ ts ty #[u])):=by
 unfold n0b;split<;>try trivial
 ·rename_i e d;split
  ·obtain rfl:=f.b0n;exact O3.pure (VS.ki (x:=0)) fun w'=>by simp[Builtin.len_,b,run_underlying d,goInt]
  ·split<;>try trivial
   rename_i t xs o;obtain⟨A',c,rfl⟩:=h.z02 f o;exact O3.pure VS.dI fun w'=>by simp[Builtin.len_,b,run_underlying d,goInt]
 ·rename_i d;split<;>try trivial
  obtain rfl:=f.A0L;exact O3.pure VS.dI fun w'=>by simp[Builtin.len_,b,run_underlying d,goInt]
 ·rename_i n e d;exact O3.pure (VS.ki (x:=n)) fun w'=>by cases u<;>simp[Builtin.len_,b,run_underlying d,goInt]
 ·rename_i k e d;split<;>try trivial
  rename_i id;obtain⟨j,rfl⟩:=f.p0x;have i:=h.th id;split<;>try trivial
  rename_i m hl;rw[hl]at i;obtain⟨r,es,cl,g,hg,hm⟩:=i;refine⟨_,VS.dI,fun w' hw=>?_⟩;have l:=(hw.2 r rfl (getElem?_lt hg)).trans hg;have hlen:es.size=m.length:=by have:=congrArg List.length hm;simpa using this
  rw[g];simp[hd,Builtin.len_,b,run_underlying d,goInt,getObj,Sem.run,l,hlen]
def y0v {n:Nat}{H:K0}{c x y:V E.D}{g f e:Value}(d:VS E ρ n H S c g)(h:VS E ρ n H S x f)(i:VS E ρ n H S y e):
  o4 (k0V c x y) (fun v=>∃u,VS E ρ n H S v u/\∃b,g=.bool b/\u=if b then f else e):=by
 unfold k0V;split<;>try trivial
 ·obtain rfl:=P8 (x:=true) rfl d;exact⟨_,h,_,rfl,rfl⟩
 ·obtain rfl:=P8 (x:=false) rfl d;exact⟨_,i,_,rfl,rfl⟩
 ·split<;>try trivial
  rename_i b j;obtain rfl:=P8 j d;split<;>try trivial
  rename_i p q hp k;obtain rfl:=P8 hp h;obtain rfl:=P8 k i;exact⟨_,VS.dB,_,rfl,by cases b<;>rfl⟩
def VT.of (h:Rp E A s ρ S a as w):∀(l:List Operand),VT E ρ s.nid w.heap S (l.map (T1 E s)) (l.map a.eval)
 |[]=>by unfold List.map VT;rfl
 |x :: l=>by
  obtain⟨c,h1,b⟩:=h.val x;rw[map_cons,map_cons];unfold VT;exact⟨c,_,h1,by rw[b],VT.of h l⟩
def y0c {T:Nat}{v:V E.D}{u:Value}(b:VS E ρ s.nid w.heap S v u):o4 (mkIf E T v) (O3 E s ρ S w (fun _=>False) (Instr.makeInterface T u)):=by
 unfold mkIf;split<;>try trivial
 rename_i d hd e;obtain⟨c,h1,rfl⟩:=b;refine O3.pure (VS.of rfl (by unfold VC;exact⟨c,h1,rfl⟩)) fun w'=>?_;cases d<;>first|exact absurd rfl (hd _)|simp[Instr.makeInterface,run_underlying e]
def C0q {v:V E.D}{u:Value}(d:VS E ρ s.nid w.heap S v u):o4 (l0K v) (fun e=>VS E ρ s.nid w.heap S e u/\((∃b,u=.pointer (some b))\/(∃t x,u=.iface t x)\/∃f x,u=.func (.func f) #[] x)):=by
 unfold l0K;split<;>try trivial
 ·obtain⟨_,_,b,_,rfl⟩:=d.b0l;exact⟨d,.inl ⟨_,rfl⟩⟩
 ·obtain⟨_,_,b,o,m,c,_,_,rfl⟩:=d.c05;exact⟨d,.inl ⟨_,rfl⟩⟩
 ·obtain⟨b,o,cs,rfl,_⟩:=d.f0b;exact⟨d,.inl ⟨_,rfl⟩⟩
 ·obtain⟨g,rfl,_⟩:=d.n0H;exact⟨d,.inr (.inl ⟨_,_,rfl⟩)⟩
 ·obtain⟨c,h1,rfl⟩:=id d;unfold VC at h1;obtain⟨us,rfl,_⟩:=h1;exact⟨d,.inr (.inr ⟨_,_,rfl⟩)⟩
def F0l {x y:Nat}{v:V E.D}{u:Value}(b:VS E ρ s.nid w.heap S v u):o4 (n0h E x y v) (O3 E s ρ S w (fun _=>False) (convert x y u)):=by
 unfold n0h;split<;>try trivial
 rename_i d k h1 c;split<;>try trivial
 rename_i f z e;obtain rfl:=r9 e b;exact O3.pure VS.dI fun w'=>by simp[convert,run_underlying h1,run_underlying c,Conv.intToInt]
def o4.imp {D:Nat->Type}{r:QR D}{P b:V D->Prop}(hp:∀v,P v->b v)(h:o4 r P):o4 r b:=h.mono hp
def x0c {T:Nat}{xT:Nat}{v:V E.D}{u:Value}{ok:Bool}(p:VS E ρ s.nid w.heap S v u):o4 (i01 E T ok v) (O3 E s ρ S w (fun _=>False) (Instr.typeAssert u xT T ok)):=by
 unfold i01;split<;>try trivial
 rename_i h g m;split<;>try trivial
 rename_i b;have b:∃i z,E.P.info? T=some i/\i.zero=some z:=by
  unfold i01.zeroInfo at b;split at b
  ·rename_i i hi;exact⟨i,_,hi,(Option.eq_some_of_isSome b)⟩
  ·cases b
 obtain⟨inf,z,f,b⟩:=b;have tup:∀{x y:V E.D} {l k:Value},VS E ρ s.nid w.heap S x l->VS E ρ s.nid w.heap S y k->VS E ρ s.nid w.heap S (.tup [x,y]) (.tuple #[l,k]):=by
  rintro x y l k ⟨c,hc,rfl⟩ ⟨d,hd,rfl⟩
  refine VS.of rfl ?_;unfold VC VT;refine⟨[vl x c,vl y d],rfl,c,[vl y d],hc,rfl,?_⟩;unfold VT;exact⟨d,[],hd,rfl,by unfold VT;rfl⟩
 split<;>try trivial
 ·rename_i t x;obtain⟨r,rfl,q⟩:=p.n0H;split
  ·rename_i j;rw[beq_eq]at j;subst j;refine O3.pure (tup q VS.kb) fun w'=>?_;cases h<;>simp[Instr.typeAssert,run_underlying m]<;>exact absurd rfl (g _)
  ·rename_i j;have o:t≠T:=fun e=>by rw[<-beq_eq,j]at e;cases e
   refine O3.pure (tup (VS.undef z) VS.kb) fun w'=>?_;cases h<;>simp[Instr.typeAssert,run_underlying m,o,zeroValue,typeInfo,f,b]<;>first|rfl|exact absurd rfl (g _)
 ·obtain rfl:=p.i0B;refine O3.pure (tup (VS.undef z) VS.kb) fun w'=>?_;cases h<;>simp[Instr.typeAssert,run_underlying m,zeroValue,typeInfo,f,b]<;>first|rfl|exact absurd rfl (g _)
def E0n (h:Rp E A s ρ S a as w){v:V E.D}{u:Value}{t:U}{xs:List (Den E.D t)}(b:VS E ρ s.nid w.heap S v u)(hd:m0U E s v=some ⟨t,xs⟩):∃A' c,u=.slice A' xs.length c/\Sl (J0 E t) w.heap S A' c xs:=by
 unfold m0U at hd;split at hd<;>try cases hd
 ·exact b.f04
 ·rename_i id;split at hd<;>try cases hd
  rename_i hl;obtain⟨_,rfl⟩:=b.X9;have:=h.th id;rw[hl]at this;exact this
def t02 {e:Nat}{t:U}(h:a0N E e t=true):(E.P.info? e).map (·.size)=some (J0 E t).sz:=by
 unfold a0N at h;split at h
 ·rename_i n hn;rw[beq_eq]at h;subst h;unfold R5 at hn;split at hn
  ·rename_i i hi;simp only[Option.some.injEq]at hn;rw[hi];exact congrArg some hn
  ·cases hn
 ·cases h
def x0C (h:Rp E A s ρ S a as w){T:Nat}{x:V E.D}{R:Value}(hx:VS E ρ s.nid w.heap S x R)(j:∀y,VS E ρ s.nid w.heap S (T1 E s y) (a.eval y))(lo hi mx:Option Operand):
  o4 (m07 E s T x (lo.map (T1 E s)) (hi.map (T1 E s)) (mx.map (T1 E s)) (l06 hi mx)) (O3 E s ρ S w (fun _=>False) (Instr.sliceAt T R (lo.map a.eval) (hi.map a.eval) (mx.map a.eval))):=by
 unfold m07;split<;>try trivial
 rename_i t xs e hd U;split<;>try trivial
 rename_i l g hz i o;obtain⟨A',c,rfl,C⟩:=E0n h hx hd;have r:(match lo.map a.eval with|none=>l=0|some y=>∃k,y=.int k l):=by
  cases lo with
  |none=>simp only[map_none,loI,Option.some.injEq]at i;exact i.symm
  |some y=>
   simp only[map_some,loI]at i ⊢;split at i<;>cases i
   rename_i k hk;exact⟨k,r9 hk (j y)⟩
 have q:∀y,hi=some y->∃k,a.eval y=.int k g:=fun y J=>by
  subst J;simp only[map_some,hiI]at o;split at o<;>cases o
  rename_i k hk;exact⟨k,r9 hk (j y)⟩
 have data:∀(p:Option Addr) (c1:Nat),Sl (J0 E t) w.heap S p c1 (I1 xs l g)->VS E ρ s.nid w.heap S (.d (.list t) (I1 xs l g)) (.slice p (I1 xs l g).length c1):=fun p c1 h1=>VS.of rfl (by unfold VC;exact⟨p,c1,rfl,h1⟩);cases mx with
 |none=>
  simp only[map_none];intro b;obtain⟨p,h1,I⟩:=r0i (lo:=lo.map a.eval) (hi:=hi.map a.eval) (mx:=none) (vlo:=l) (vhi:=g) (vmx:=c) U (t02 hz) C r (by
   cases hi with
   |none=>simp only[map_none,hiI,Option.some.injEq]at o;exact⟨o.symm,rfl⟩
   |some y=>exact q y rfl) rfl b (.inl rfl)
  exact O3.pure (data p _ I) h1
 |some m=>
  simp only[map_some];split<;>try trivial
  rename_i km mm y hm J;cases hi with
  |none=>cases J
  |some hy0=>
   have u:=r9 hm (j m);have main:(I4 xs l g&&(decide (g<=mm)&&decide (mm<=(xs.length:Int))))=true->∃p,(∀w',(Instr.sliceAt T (.slice A' xs.length c) (lo.map a.eval) (some (a.eval hy0)) (some (a.eval m))).run E.P w'=.ok (.slice p (I1 xs l g).length (mm-l).toNat) w')/\Sl (J0 E t) w.heap S p (mm-l).toNat (I1 xs l g):=by
    intro b;simp only[and_eq_true,decide_eq_true_eq]at b;exact r0i (lo:=lo.map a.eval) (hi:=some (a.eval hy0)) (mx:=some (a.eval m)) (vlo:=l) (vhi:=g) (vmx:=mm) U (t02 hz) C r (q hy0 rfl) ⟨km,u⟩ b.1 (.inr b.2)
   have fin:(I4 xs l g&&(decide (g<=mm)&&decide (mm<=(xs.length:Int))))=true->mm=g->O3 E s ρ S w (fun _=>False) (Instr.sliceAt T (.slice A' xs.length c) (lo.map a.eval) (some (a.eval hy0)) (some (a.eval m))) (.df t (I1 xs l g)):=by
    intro b z;obtain⟨p,h1,I⟩:=main b;simp only[and_eq_true,decide_eq_true_eq]at b;have hlen:=c04 b.1;subst z;refine O3.pure (VS.of (v:=.df t (I1 xs l mm)) rfl ?_) h1;unfold VC;rw[<-hlen]at I ⊢;exact⟨p,rfl,I⟩
   split
   ·rename_i f;intro b;have z:mm=g:=by
     unfold l06 at f;split at f
     ·rename_i a1 b1 e1 e2;rw[beq_eq]at f;cases e1;cases e2;subst f;obtain⟨k,hk⟩:=q _ rfl;rw[hk]at u;cases u;rfl
     ·cases f
    exact fin b z
   ·intro b;rw[and_eq_true,decide_eq_true_eq]at b;exact fin b.2 b.1.symm
def y0k (h:Rp E A s ρ S a as w){op:BinOp}{T:Nat}{x y:Operand}{r:QR E.D}(i:VS E ρ s.nid w.heap S (T1 E s x) (a.eval x))(p:VS E ρ s.nid w.heap S (T1 E s y) (a.eval y))(hn:n0V E s op T (T1 E s x) (T1 E s y) (t0b y)=some r):
  o4 r (O3 E s ρ S w (fun _=>False) (do eqGuard op T x y (a.eval x) (a.eval y);binOp op T (a.eval x) (a.eval y))):=by
 unfold n0V at hn;split at hn<;>try cases hn
 rotate_left
 ·rename_i ex q;split at hn<;>try cases hn
  rename_i pos' hk l J;obtain⟨e,u⟩:=(i0Z (E:=E) (T:=T)).2.2.2 hk;rw[ex]at i;rw[q]at p;have d:=i.i0B;have f:=p.i0B;have heq:∀w':World,(Op.equal T .nilIface .nilIface).run E.P w'=.ok true w':=fun w'=>by
   unfold Op.equal Op.maxDepth Op.equalIn;simp[run_underlying u]
  rw[d,f];refine O3.pure VS.Q6 fun w'=>?_;have h1:=b0F l (by simp) (by simp) (by simp) (by simp) (heq w');have C:(eqGuard op T x y .nilIface .nilIface).run E.P w'=.ok () w':=by
   cases y with
   |const v=>rcases s0E l with⟨_,rfl⟩|⟨_,rfl⟩<;>simp[eqGuard]
   |_=>cases J
  simp[h1,C]
 rename_i id ex q;split at hn<;>try cases hn
 rename_i pos' hk l;obtain⟨e,u⟩:=(i0Z (E:=E) (T:=T)).2.2.1 hk;rw[ex]at i;rw[q]at p;obtain⟨_,d⟩:=i.X9;have f:=p.b0n;have k:=h.th id;have key:∀{b':Bool},(b'=true->∃g m c,hd (ρ id)=.slice (some g) m c)->o4 (.chk b' (Q6 pos' false)) (O3 E s ρ S w (fun _=>False) (do eqGuard op T x y (a.eval x) (a.eval y);binOp op T (a.eval x) (a.eval y))):=by
  intro b' U b;obtain⟨g,m,c,hg⟩:=U b;rw[d,f,hg];have heq:∀w':World,(Op.equal T (.slice (some g) m c) (.slice none 0 0)).run E.P w'=.ok false w':=fun w'=>by
   unfold Op.equal Op.maxDepth Op.equalIn;simp[run_underlying u]
  refine O3.pure VS.Q6 fun w'=>?_;have h1:=b0F l (by simp) (by simp) (by simp) (by simp) (heq w');have C:=s8.of (E:=E) (op:=op) (T:=T) (ua:=.slice (some g) m c) (ub:=.slice none 0 0) (by simp[a0W]) x y w';simp[h1,C]
 split at hn
 ·rename_i e' t xs hl;rw[<-Option.some.inj hn];rw[hl]at k;obtain⟨cs,j,_⟩:=k;refine key (b':=!xs.isEmpty) (fun b=>?_);rcases j.2 with⟨_,h0⟩|⟨g,cap,cur,I,_⟩
  ·cases xs<;>simp_all
  ·exact⟨_,_,_,by rw[I];rfl⟩
 ·rename_i t xs hl;rw[<-Option.some.inj hn];rw[hl]at k;obtain⟨A',c,I,z⟩:=k;refine key (b':=!xs.isEmpty) (fun b=>?_);have i:xs≠[]:=by rintro rfl;simp at b
  obtain⟨b0,o,R,_,_⟩:=z.2.1 i;subst R;exact⟨_,_,_,I⟩
 ·cases hn
def n00 (J:Q1 E)(h:Rp E A s ρ S a as w)(o:Oper):
  o4 (evQ E s o) (fun v=>∃u,VS E ρ s.nid w.heap S v u/\∀w',K8 E s S w (d06 E s ρ o) w'->(execOp a.eval o).run E.P w'=.ok (.value u) w'):=by
 have up:∀{own:Nat->Prop} {f:Sem Value} {r:QR E.D},(∀k,own k->d06 E s ρ o k)->execOp a.eval o=(do pure (.value (<-f)))->o4 r (O3 E s ρ S w own f)->
   o4 r (fun v=>∃u,VS E ρ s.nid w.heap S v u/\∀w',K8 E s S w (d06 E s ρ o) w'->(execOp a.eval o).run E.P w'=.ok (.value u) w'):=by
  intro own f r d hf hr;refine hr.mono fun v ⟨u,m,hu⟩=>⟨u,m,fun w' hw=>?_⟩
  rw[hf];simp[hu w' (hw.e0z d)]
 unfold evQ;split
 ·rename_i x d;exact⟨_,h.val x,fun w' _=>by simp[execOp,d]⟩
 ·rename_i x d;exact⟨_,h.val x,fun w' _=>by simp[execOp,d]⟩
 ·rename_i c x y d;refine(y0v (h.val c) (h.val x) (h.val y)).mono fun v ⟨u,m,b,U,hu⟩=>⟨u,m,fun w' _=>?_⟩
  subst hu;simp[execOp,d,U,asBool]
 ·rename_i x d;refine(C0q (h.val x)).mono fun v ⟨m,hu⟩=>⟨_,m,fun w' _=>?_⟩
  rcases hu with⟨b,U⟩|⟨t,y,U⟩|⟨f,y,U⟩<;>simp[execOp,d,U]
 ·rename_i op T x y T2 d;split
  ·rename_i r hn;exact up (own:=fun _=>False) (fun _ e=>e.elim) (by simp[execOp,d]) (y0k h (h.val x) (h.val y) hn)
  refine(D0V J (h.val x) (h.val y)).mono fun v ⟨u,m,hu⟩=>⟨u,m,fun w' _=>?_⟩
  have h1:=(hu w').1;have h2:=(hu w').2 x y w';simp[execOp,d,h1,h2]
 ·rename_i op T x d;refine(D0o (h.val x)).mono fun v ⟨u,m,hu⟩=>⟨u,m,fun w' _=>?_⟩
  simp[execOp,d,hu w']
 ·rename_i x y z d;exact up (fun _ e=>e.elim) (by simp[execOp,d]) (F0l (h.val z))
 ·rename_i T x f d;exact up (fun _ e=>e.elim) (by simp[execOp,d]) (w0g J h (h.val x))
 ·rename_i T x f d;exact up (fun _ e=>e.elim) (by simp[execOp,d]) (w0N J h (h.val x))
 ·rename_i T x i d;exact up (fun _ e=>e.elim) (by simp[execOp,d]) (A0Q J h (h.val x) (h.val i))
 ·rename_i T x d;exact up (fun k e=>by unfold d06 A9 D9;rw[d];exact e) (by simp[execOp,d]) (u0G J h (h.val x))
 ·rename_i x i d;split<;>try trivial
  rename_i l hl;have C:=h.val x;rw[hl]at C;obtain⟨us,hu,a1⟩:=C.s0a;refine(VT.get a1 (j:=i)).mono fun v ⟨u,hg,m⟩=>⟨u,m,fun w' _=>?_⟩
  simp[execOp,d,hu,Instr.extract,hg]
 ·rename_i T parts d;exact up (fun _ e=>e.elim) (by simp[execOp,d]) (v0b J h)
 ·rename_i fn first caps d
  split<;>try trivial
  rename_i f hf;refine⟨_,VS.of rfl (by unfold VC;exact⟨caps.toList.map a.eval,rfl,VT.of h _⟩),fun w' _=>?_⟩;have:first=#[]:=by simpa using hf
  subst this;have e:Array.map a.eval caps=(List.map a.eval caps.toList).toArray:=by rw[<-Array.toList_map]
  simp[execOp,d,Instr.makeFunc,e]
 ·rename_i T x d;exact up (fun _ e=>e.elim) (by simp[execOp,d]) (y0c (h.val x))
 ·rename_i x T T' ok d;exact up (fun _ e=>e.elim) (by simp[execOp,d]) (x0c (xT:=T) (h.val x))
 ·rename_i T x lo hi mx d;exact up (fun _ e=>e.elim) (by simp[execOp,d]) (x0C h (h.val x) (fun y=>h.val y) lo hi mx)
 ·rename_i c d;split<;>try trivial
  ·rename_i x R C;split<;>try trivial
   rename_i T r hT;have b1:c.argTypes[0]?=some T:=by rw[<-Array.getElem?_toList,hT];rfl
   have g:c.args=#[x]:=by have:=congrArg List.toArray C;simpa using this
   refine up (own:=fun _=>k0Y (T1 E s x)=true) (fun k e=>?_) ?_ (D0w h (h.val x) (ty:=o.type) b1)
   ·refine⟨?_,fun q I=>by unfold D9 at I;rw[d]at I;cases I⟩;unfold A9;rw[d];simp only[C];cases m:T1 E s x<;>rw[m]at e<;>simp_all[k0Y]
   ·simp[execOp,d,resolve,R,g,invoke,builtin]
  ·rename_i x y R C;have g:c.args=#[x,y]:=by have:=congrArg List.toArray C;simpa using this
   unfold q0i;split<;>try trivial
   rename_i k p k' q hp I;have e1:=r9 hp (h.val x);have e2:=r9 I (h.val y);refine⟨_,VS.dI,fun w' _=>?_⟩;simp[execOp,d,resolve,R,g,invoke,builtin,Builtin.min_,Builtin.min2,e1,e2]
  ·rename_i x y R C;have g:c.args=#[x,y]:=by have:=congrArg List.toArray C;simpa using this
   unfold q0o;split<;>try trivial
   rename_i k p k' q hp I;have e1:=r9 hp (h.val x);have e2:=r9 I (h.val y);refine⟨_,VS.dI,fun w' _=>?_⟩;simp[execOp,d,resolve,R,g,invoke,builtin,Builtin.max_,Builtin.max2,e1,e2]
 ·trivial
end
end
