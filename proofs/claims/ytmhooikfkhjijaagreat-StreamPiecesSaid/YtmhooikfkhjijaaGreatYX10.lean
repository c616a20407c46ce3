/- P. Its conditions: none. -/
import Derived.Test.YtmhooikfkhjijaaGreatYX9
set_option linter.all false
namespace Go.X
open Go.V Go.RowKit
section
variable {E:Env}{A:O4}{s:St E.D}{ρ:Nat->Value}{S:D0}{a:Act}{as:List Act}{w:World}
def r0p (E:Env)(A:O4)(s:St E.D)(a:Act)(as:List Act){R:Type}(k:K E R)(r:R)(e:Ending)(w1:World):Prop:=
 ∃v,e=.returned v/\∃s1 V ρ1 S1,k s1 V=some r/\Rp E A s1 ρ1 S1 a as w1/\VS E ρ1 s1.nid w1.heap S1 V v/\Ext s s1/\s1.fr=s.fr
def k0K (E:Env)(A:O4)(s:St E.D)(ρ:Nat->Value)(a:Act)(as:List Act)(w:World){R:Type}(k:K E R)(r:R)(e:Ending)(w1:World):Prop:=
 ∃v,e=.returned v/\∃s1 V ρ1 S1,k s1 V=some r/\Rp E A s1 ρ1 S1 a as w1/\VS E ρ1 s1.nid w1.heap S1 V v/\Ext s s1/\s1.fr=s.fr/\(∀k,k<w.heap.size->(∀q,q<s.nid->P1 (E0 s q)=true->Z6 s s1 q=true->¬Bk (ρ q) k)->w1.heap[k]?=w.heap[k]?)
def e0v (E:Env)(inl:Inl E):Prop:=∀(R:Type) (g:Nat) (args:List (V E.D)) (s:St E.D) (k:K E R) (r:R),inl g args s k=some r->∀(A:O4) (ρ:Nat->Value) (S:D0) (a:Act) (as:List Act) (w:World) (us:List Value),
 Rp E A s ρ S a as w->VT E ρ s.nid w.heap S args us->Calls E.P g us.toArray w (r0p E A s a as k r)
def d0x (E:Env)(C:D4 E):Prop:=∀(g:Nat) (args:List (V E.D)) (s:St E.D) (c:Sm E.D),e0G E s args C.sm g=some c->∀(R:Type) (k:K E R) (r:R),j0r E s c args k=some r->∀(A:O4) (ρ:Nat->Value) (S:D0) (a:Act) (as:List Act) (w:World) (us:List Value),
 Rp E A s ρ S a as w->VT E ρ s.nid w.heap S args us->Calls E.P g us.toArray w (k0K E A s ρ a as w k r)
theorem B0B {g:Nat} (h:k0t E g=true):∃ fn,E.P.funcs[g]?=some fn/\fn.body.isSome=true/\(fn.name== "runtime.NumGoroutine")=false:=by
 unfold k0t at h;split at h
 ·rename_i fn hf;simp only[Bool.and_eq_true,Bool.not_eq_true']at h;exact⟨fn,hf,h.1,h.2⟩
 ·cases h
def A0e {g:Nat}(h:k0t E g=true)(args:Array Value)(w:World):(callFunc g args).run E.P w=.ok (.enter g args) w:=by
 obtain⟨fn,h1,h2,h3⟩:=B0B h;have h4:fn.body≠none:=by cases hb:fn.body<;>simp_all
 have h5:fn.name≠ "runtime.NumGoroutine":=by simpa using h3
 simp[callFunc,h1,h4,h5]
def A0F (h:Rp E A s ρ S a as w){T:Nat}{p:V E.D}{up:Value}(hp:VS E ρ s.nid w.heap S p up){q f:Nat}{i:Int}(l:n0A E s T p=some (q,i,f)):
  (d0Z s p=true/\rdP s p=none)/\∃u ρ1,Rp E A (s.new (.rof q i f)) ρ1 S a as w/\(∀j,j<s.nid->hd (ρ1 j)=hd (ρ j))/\VS E ρ1 (s.nid+1) w.heap S (.sl s.nid) u/\∀w',K8 E s S w (fun _=>True) w'->(Instr.loadAt T up).run E.P w'=.ok u w':=by
 unfold n0A at l;split at l
 rotate_left
 ·cases l
 rename_i id k z qq;obtain⟨C,b5,b,o,m,c,hr,⟨h0,h1⟩,hu⟩:=hp.c05;split at l<;>try cases l
 rename_i e F t xs R;split at l<;>try cases l
 rename_i ff a1 b3 b4;split at l<;>try cases l
 rename_i hz;rw[Bool.and_eq_true,Nat.beq_eq,Nat.blt_eq]at hz;obtain⟨rfl,hf⟩:=hz;have hl:=d0U R;have g:=h.th q;rw[hl]at g;obtain⟨cs,g⟩:=g;obtain⟨J,_⟩:=d0v g.ok;have I:=u0k g.ok b4 hf;have r:=g.row;rw[hr]at r;obtain⟨rfl,b1,_,y⟩:=Row.cell r (by omega);have x:rowAt F i.toNat f<cs.length:=by
  rw[g.sz];unfold rowAt;have:i.toNat*F.length+F.length<=xs.length*F.length:=by rw[<-Nat.succ_mul];exact Nat.mul_le_mul_right _ (by omega)
  omega
 have b2:rowAt F i.toNat f<xs.length*(J0 E t).sz:=by rw[<-g.row.1];exact x
 have n:∀H':K0,H'[b]?=w.heap[b]?->U2 H' b (o+rowAt F i.toNat f)=some cs[rowAt F i.toNat f]:=fun H' hH=>by
  rw[y H' hH _ b2,List.getElem?_eq_getElem x]
 have d:=g.one _ (List.getElem_mem x);refine⟨⟨by simp only[d0Z];rw[hl];rfl,by simp only[rdP];rw[hl]⟩,cs[rowAt F i.toNat f],M6 ρ s.nid cs[rowAt F i.toNat f],h.r0N (fun _ _ e=>by cases e) ⟨Nat.lt_succ_of_lt C,d,(d0T d).1⟩ (fun q' i' f' e=>?_),fun j hj=>by rw[G5 (by omega)],?_,fun w' hw=>?_⟩
 ·cases e;refine⟨C,fun e2 F2 t2 c0 U=>?_⟩;rw[hl]at U;cases U;exact⟨b,o,_,c,hr,⟨h0,h1⟩,hf,n w.heap rfl⟩
 ·exact VS.of rfl (by unfold VC;rw[I5,(d0T d).1];exact⟨Nat.lt_succ_self _,d,rfl⟩)
 ·have hH:=hw.2 b trivial b1;have:=u0l (T:=T) (b:=b) (o:=o+rowAt F i.toNat f) a1 b3 (c:=[cs[rowAt F i.toNat f]]) rfl (fun _=>rfl) (w:=w') (fun j v hj=>by
   cases j with
   |zero=>simp at hj;subst hj;exact n w'.heap hH
   |succ j=>simp at hj)
  rw[hu];have e3:o+i.toNat*X2 E t+M4 qq=o+rowAt F i.toNat f:=by
   rw[I];unfold rowAt;rw[show X2 E t=F.length from J];omega
  rw[e3];simp[Instr.loadAt,Instr.sureAddr,this,H4]
def t0V (h:Rp E A s ρ S a as w){o:Oper}{q f:Nat}{i:Int}(b:j0o E s o=some (q,i,f)):
  (A9 E s o=true/\D9 E s o=none)/\∃u ρ1,Rp E A (s.new (.rof q i f)) ρ1 S a as w/\(∀j,j<s.nid->hd (ρ1 j)=hd (ρ j))/\VS E ρ1 (s.nid+1) w.heap S (.sl s.nid) u/\∀w',K8 E s S w (fun _=>True) w'->(execOp a.eval o).run E.P w'=.ok (.value u) w':=by
 unfold j0o at b;split at b<;>try cases b
 rename_i T x c;obtain⟨h1,u,ρ1,k,g,e,d⟩:=A0F h (h.val x) b;exact⟨⟨by unfold A9;rw[c];exact h1.1,by unfold D9;rw[c];exact h1.2⟩,u,ρ1,k,g,e,fun w' hw=>by simp[execOp,c,d w' hw]⟩
def PlR (E:Env)(ρ:Nat->Value)(n:Nat)(H:K0)(S:D0):Plc E.D->Place->Prop
 |.inl v,.val u=>VS E ρ n H S v u
 |.inr p,.var a=>VS E ρ n H S p (.pointer (some a))
 |_,_=>False
def N0j (e:Q1 E)(h:Rp E A s ρ S a as w){T:Nat}{x:Plc E.D}{X:Place}(b:PlR E ρ s.nid w.heap S x X){v:V E.D}(hg:J0t E s T x=some v):∃u,VS E ρ s.nid w.heap S v u/\(Place.get T X).run E.P w=.ok u w:=by
 cases x with
 |inl v0=>
  cases X with
  |var _=>exact b.elim
  |val u=>cases hg;exact⟨u,b,by simp[Place.get]⟩
 |inr p=>
  cases X with
  |val _=>exact b.elim
  |var ad=>
   simp only[J0t]at hg;have hl:=u0G e h (T:=T) (show VS E ρ s.nid w.heap S p (.pointer (some ad))from b);split at hg
   ·rename_i v1 c;cases hg;rw[c]at hl;obtain⟨u,hu,d⟩:=hl;refine⟨u,hu,?_⟩;have:=d w ⟨⟨S,U0.refl _ _⟩,fun _ _ _=>rfl⟩;simpa[Instr.loadAt,Instr.sureAddr,Place.get]using this
   ·cases hg
def N0M {P:Program}{T f:Nat}{up u:Value}{w:World}{fs:Array Field}{x:Field}(hl:P.underlying T=some (.struct fs))(c:fs[f]?=some x)(h:(Instr.fieldAt T up f).run P w=.ok u w):
  ∃ad b,up=.pointer (some ad)/\u=.pointer (some b)/\(fieldPlace ad x).run P w=.ok b w:=by
 cases up with
 |pointer o=>
  cases o with
  |none=>simp[Instr.fieldAt,run_underlying hl,c,Instr.sureAddr]at h
  |some ad=>
   simp[Instr.fieldAt,run_underlying hl,c,Instr.sureAddr]at h;cases hp:(fieldPlace ad x).run P w with
   |ok b w'=>
    rw[hp]at h;simp[Result.andThen]at h;obtain⟨rfl,rfl⟩:=h;exact⟨ad,b,rfl,rfl,hp⟩
   |_=>rw[hp]at h;simp[Result.andThen]at h
 |_=>simp[Instr.fieldAt,run_underlying hl,c,Instr.sureAddr]at h
def M0u (i:Q1 E)(h:Rp E A s ρ S a as w):∀(path:List FieldStep) (t:Nat) (x:Plc E.D) (X:Place) (n:Nat) (x':Plc E.D),PlR E ρ s.nid w.heap S x X->G0k E s path t x=some (n,x')->
  ∃d,PlR E ρ s.nid w.heap S x' d/\(follow path t X).run E.P w=.ok (n,d) w
 |[],t,x,X,n,x',hx,hf=>by
  cases hf;exact⟨X,hx,by simp[follow]⟩
 |st :: rest,t,x,X,n,x',hx,hf=>by
  unfold G0k at hf;split at hf<;>try cases hf
  rename_i fs hl;split at hf<;>try cases hf
  rename_i f b;split at hf
  ·rename_i hd;split at hf<;>try cases hf
   rename_i v hg;obtain⟨u,hu,y⟩:=N0j i h hx hg;have ha:=w0g i h (T:=st.struct) (f:=st.index) hu;split at hf<;>try cases hf
   rename_i p hp;rw[hp]at ha;obtain⟨r,c,l⟩:=ha;obtain⟨ad,g,rfl,rfl,j⟩:=N0M hl b (l w ⟨⟨S,U0.refl _ _⟩,fun _ _ _=>rfl⟩);obtain⟨d,h1,o⟩:=M0u i h rest f.type (.inr p) (.var g) n x' c hf;refine⟨d,h1,?_⟩;simp[follow,run_underlying hl,b,hd,y,asAddr,j,o]
  ·rename_i p hd;cases X with
   |val _=>exact hx.elim
   |var ad0=>
    have hu:VS E ρ s.nid w.heap S p (.pointer (some ad0)):=hx;have ha:=w0g i h (T:=st.struct) (f:=st.index) hu;split at hf<;>try cases hf
    rename_i q hp;rw[hp]at ha;obtain⟨r,c,l⟩:=ha;obtain⟨ad,g,e,rfl,j⟩:=N0M hl b (l w ⟨⟨S,U0.refl _ _⟩,fun _ _ _=>rfl⟩);cases e;obtain⟨d,h1,o⟩:=M0u i h rest f.type (.inr q) (.var g) n x' c hf;refine⟨d,h1,?_⟩;simp[follow,run_underlying hl,b,hd,j,o]
  ·rename_i v hd;cases X with
   |var _=>exact hx.elim
   |val u0=>
    have hu:VS E ρ s.nid w.heap S v u0:=hx;split at hf<;>try cases hf
    rename_i z;have ha:=w0N i h (T:=st.struct) (f:=st.index) hu;split at hf<;>try cases hf
    rename_i q hp;rw[hp]at ha;obtain⟨r,c,l⟩:=ha;have l:=l w ⟨⟨S,U0.refl _ _⟩,fun _ _ _=>rfl⟩;obtain⟨cc,_,k,_⟩:=hu.flat;have k:=k z;subst k;obtain⟨d,h1,o⟩:=M0u i h rest f.type (.inl q) (.val r) n x' c hf;refine⟨d,h1,?_⟩;have m:(part f.type cc.toArray f.offset).run E.P w=.ok r w:=by
     simpa[Instr.field,run_underlying hl,b,asAgg]using l
    simp[follow,run_underlying hl,b,hd,m,o]
def P04 (C:Q1 E)(h:Rp E A s ρ S a as w){T g:Nat}{name:String}{v v1:V E.D}{u:Value}(hv:VS E ρ s.nid w.heap S v u)(hm:M0H E s T v name=some (g,v1)):
  ∃t,VS E ρ s.nid w.heap S v1 t/\∀n,(method (n+1) T u name).run E.P w=.ok (g,t) w:=by
 unfold M0H at hm;split at hm<;>try cases hm
 rename_i i hi;split at hm<;>try cases hm
 rename_i m U;split at hm<;>try cases hm
 rename_i R x I;obtain⟨X,y,c⟩:=M0u C h m.path.toList T (.inl v) (.val u) R x hv I;have q:∀b,N0b E R=some b->∃d,E.P.underlying R=some d/\(b=true->∃e,d=.pointer e)/\(b=false->∀e,d≠.pointer e):=by
  intro b r;unfold N0b at r;split at r
  ·rename_i e he;cases r;exact⟨_,he,fun _=>⟨e,rfl⟩,fun e=>by cases e⟩
  ·rename_i d hd z;cases r;exact⟨d,z,(fun h=>by cases h),(fun _ e he=>hd e he)⟩
  ·cases r
 split at hm
 ·rename_i f x' j hp;split at hm<;>try cases hm
  rename_i t hg;obtain⟨d,hd,h1,_⟩:=q _ hp;obtain⟨e,rfl⟩:=h1 rfl;obtain⟨J,k,l⟩:=N0j C h y hg;exact⟨J,k,fun n=>by simp[method,typeInfo,hi,U,c,j,receiverAt,run_underlying hd,l]⟩
 ·rename_i f p j hp;cases hm;obtain⟨d,hd,_,o⟩:=q _ hp;cases X with
  |val _=>exact y.elim
  |var ad=>
   refine⟨_,y,fun n=>?_⟩;have o:=o rfl;cases d<;>first
    |exact absurd rfl (o _)
    |simp[method,typeInfo,hi,U,c,j,receiverAt,run_underlying hd]
 ·rename_i f x' j hp;split at hm<;>try cases hm
  rename_i t hg;obtain⟨d,hd,_,o⟩:=q _ hp;obtain⟨J,k,l⟩:=N0j C h y hg;refine⟨J,k,fun n=>?_⟩;have o:=o rfl;cases d<;>first
   |exact absurd rfl (o _)
   |simp[method,typeInfo,hi,U,c,j,receiverAt,run_underlying hd,l]
 ·cases hm
def o00 {α:Type}{a b:Option α}{r:α}(h:same a b=some r):a=some r/\b=some r:=by
 unfold same at h;split at h
 ·rename_i e;exact⟨h,e▸h⟩
 ·cases h
def D0l (h:Rp E A s ρ S a as w){tb:List Nat}{o:Oper}{b:Bool}{v1 v2:V E.D}(f:n0P E tb s o=some (b,v1,v2)):∃u,(∀w',(execOp a.eval o).run E.P w'=.ok (.value u) w')/\(VS E ρ s.nid w.heap S v2 u\/(b=true/\VS E ρ s.nid w.heap S v1 u)):=by
 unfold n0P at f;split at f<;>try cases f
 unfold r0S at f;split at f<;>try cases f
 rename_i op T x y C n;split at f<;>try cases f
 rename_i t xs pos l p hk g;obtain⟨J,z,v,I⟩:=i0Z (E:=E) (T:=T);obtain⟨e,j⟩:=v hk;have ha:=h.val x;have k:=h.val y;rw[l]at ha;rw[p]at k;have hn:=k.b0n;obtain⟨A',c,d,i⟩:=ha.f04;have fin:∀{q:Bool},(∀w':World,(Op.equal T (a.eval x) (a.eval y)).run E.P w'=.ok q w')->s8 E op T (a.eval x) (a.eval y)->∀w',(execOp a.eval o).run E.P w'=.ok (.value (.bool (sgn pos q))) w':=by
  intro q heq hg w';have h1:(binOp op T (a.eval x) (a.eval y)).run E.P w'=.ok (.bool (sgn pos q)) w':=b0F g (by rw[d];simp) (by rw[d];simp) (by rw[d];simp) (by rw[d];simp) (heq w');have m:=hg x y w';simp[execOp,n,h1,m]
 have hg:s8 E op T (a.eval x) (a.eval y):=by rw[d,hn];exact s8.of (by cases A'<;>simp[a0W])
 cases A' with
 |none=>
  have r:xs=[]:=by
   cases xs with
   |nil=>rfl
   |cons y ys=>obtain⟨b,o,h,_⟩:=i.2.1 (by simp);cases h
  subst r;refine⟨_,fin (q:=true) (fun w'=>?_) hg,.inr ⟨rfl,VS.Q6⟩⟩;rw[d,hn];unfold Op.equal Op.maxDepth Op.equalIn;simp[run_underlying j]
 |some ad=>
  refine⟨_,fin (q:=false) (fun w'=>?_) hg,.inl VS.Q6⟩;rw[d,hn];unfold Op.equal Op.maxDepth Op.equalIn;simp[run_underlying j]
def f0W (h:Rp E A s ρ S a as w){ops:Array Oper}{o:Oper}:(a0E E s ops o=.yes->Region.wanted o (yielded ops a.tmps)=true)/\(a0E E s ops o=.no->Region.wanted o (yielded ops a.tmps)=false)/\
  (∀d b,a0E E s ops o=.ask d b->a.tmps.getD d undef=.bool b):=by
 unfold a0E Region.wanted;cases hg:o.guard with
 |none=>simp
 |some jw=>
  obtain⟨j,want⟩:=jw;simp only;cases m:ops[j]? with
  |none=>simp
  |some g=>
   simp only;cases hd:g.dst with
   |none=>simp
   |some d=>
    simp only;cases hl:Q4 s.fr d with
    |none=>simp
    |some v=>
     have l:=h.get hl;have q:∀x,a.tmps.getD d undef=.bool x->yielded ops a.tmps j=some x:=by
      intro x c;unfold yielded;simp only[m,Option.bind_some,hd];have:a.tmps[d]?=some (.bool x):=by
       rw[Array.getD_eq_getD_getElem?]at c;cases k:a.tmps[d]? with
       |none=>rw[k]at c;simp[undef]at c
       |some y=>rw[k]at c;simp at c;rw[c]
      rw[this]
     split
     ·rename_i b f;cases f;have c:=P8 (x:=b) rfl l;rw[q b c];cases b<;>cases want<;>simp
     ·rename_i f;cases f;obtain⟨us,hu,i⟩:=l.s0a;unfold VT at i;subst i;have:yielded ops a.tmps j≠some want:=by
       unfold yielded;simp only[m,Option.bind_some,hd];rw[Array.getD_eq_getD_getElem?]at hu;cases k:a.tmps[d]? with
       |none=>simp
       |some y=>rw[k]at hu;simp at hu;subst hu;simp
      simp[this]
     ·rename_i t p n e;cases e;split
      ·rename_i b f;simp only[Gt.ask.injEq,reduceCtorEq,false_implies,true_and]
       rintro r b' ⟨rfl,rfl⟩
       exact P8 f l
      ·simp
     ·simp
def Rp.o0y (h:Rp E A s ρ S a as w){d:Nat}{v:V E.D}(b:VS E ρ s.nid w.heap S v (a.tmps.getD d undef)):Rp E A (s.put (some d) v) ρ S a as w:=by
 refine⟨h.cx,⟨h.fr.size,h.fr.defers,fun t x hl=>?_⟩,h.stk,h.th,h.ow,h.dj,h.lt,h.rf,h.kp,h.hp⟩;simp only[St.put,a0q]at hl;split at hl
 ·rename_i e;simp only[Option.some.injEq]at hl;subst e;subst hl;exact b
 ·exact h.fr.slot t x hl
def Rp.d0K {s1:St E.D}{ρ1:Nat->Value}{S1:D0}{w1:World}(h:Rp E A s1 ρ1 S1 a as w1){n:Nat}{o:Oper}(hd:b0M n o=true)(hn:s1.n=n){v:V E.D}{u:Value}(b:VS E ρ1 s1.nid w1.heap S1 v u):Rp E A (s1.put o.dst v) ρ1 S1 (a.put o.dst u) as w1:=
 h.put (by rw[hn];exact hd) b
def Ex.out:Ex->Exit
 |.nrm=>.normal
 |.ex i=>.exit i
 |.ret=>.ret
def A07 (f:Q1 E){A:O4}(h:Rp E A s ρ S a as w){r:ResultVar}{v:V E.D}(c:k0e E s r=some v):∃u,VS E ρ s.nid w.heap S v u/\(S8 a.tmps r).run E.P w=.ok u w:=by
 cases r with
 |tmp t=>
  simp only[k0e,Option.some.injEq]at c;subst c;exact⟨_,h.b0R t,by simp[S8]⟩
 |cell q T=>
  simp only[k0e]at c;split at c<;>try cases c
  rename_i g hl;have:=u0G f h (T:=T) (h.b0R q);rw[hl]at this;obtain⟨u,h1,e⟩:=this;have b:=e w ⟨⟨S,U0.refl _ _⟩,fun _ _ _=>rfl⟩;refine⟨u,h1,?_⟩;unfold Instr.loadAt at b;cases d:a.tmps.getD q undef<;>rw[d]at b<;>simp[Instr.sureAddr]at b
  rename_i ad;cases ad with
  |none=>simp[Instr.sureAddr]at b
  |some ad=>
   simp[Instr.sureAddr]at b;simp only[S8,d];simp[asAddr,b]
def p0b (f:Q1 E){A:O4}(h:Rp E A s ρ S a as w):∀{l:List ResultVar} {vs:List (V E.D)},g0E E s l=some vs->∃us,VT E ρ s.nid w.heap S vs us/\us.length=l.length/\(l.mapM (S8 a.tmps)).run E.P w=.ok us w
 |[],vs,hr=>by
  simp only[g0E,Option.some.injEq]at hr;subst hr;exact⟨[],by unfold VT;rfl,rfl,by simp⟩
 |x :: l,vs,hr=>by
  simp only[g0E]at hr;split at hr<;>try cases hr
  rename_i v i h1 j;obtain⟨u,⟨c,g,hu⟩,d⟩:=A07 f h h1;obtain⟨us,e,hl,b⟩:=p0b f h j;exact⟨u :: us,by unfold VT;exact⟨c,us,g,by rw[hu],e⟩,by simp[hl],by simp[List.mapM_cons,d,b]⟩
def s0H (p:Q1 E){A:O4}(h:Rp E A s ρ S a as w){fn:Func}{v:V E.D}(i:result E s fn=some v):∃u,VS E ρ s.nid w.heap S v u/\(results fn a.tmps).run E.P w=.ok u w:=by
 have f:∀us:List Value,(fn.results.toList.mapM (S8 a.tmps)).run E.P w=.ok us w->(results fn a.tmps).run E.P w=.ok (if h:us.toArray.size=1 then us.toArray[0]else .tuple us.toArray) w:=by
  intro us k;have:results fn a.tmps=(do let vs <-fn.results.mapM (S8 a.tmps);pure (if h:vs.size=1 then vs[0]else .tuple vs)):=by
   unfold results;congr 1
  rw[this];have e:fn.results.mapM (S8 a.tmps)=(fun l=>l.toArray) <$> fn.results.toList.mapM (S8 a.tmps):=by
   rw[<-Array.mapM_eq_mapM_toList]
  rw[e];simp[k]
 unfold result at i;split at i<;>try cases i
 ·rename_i x g;obtain⟨us,b,hl,d⟩:=p0b p h g;unfold VT at b;obtain⟨c,j,q,rfl,b⟩:=b;unfold VT at b;subst b;exact⟨_,⟨c,q,rfl⟩,by rw[f _ d];simp⟩
 ·rename_i l m g;obtain⟨us,b,hl,d⟩:=p0b p h g;refine⟨.tuple us.toArray,VS.of rfl (by unfold VC;exact⟨us,rfl,b⟩),?_⟩;rw[f _ d];have:us.toArray.size≠1:=by
   intro h1
   match l,us,b,h1 with
   |[],[],_,h1=>simp at h1
   |[v],_,_,_=>exact m v rfl
   |[],u :: us,b,_=>unfold VT at b;simp at b
   |v :: v2 :: l,[],b,h1=>simp at h1
   |v :: v2 :: l,[u],b,_=>
    unfold VT at b;obtain⟨c,j,_,o,n⟩:=b;simp at o;obtain⟨_,rfl⟩:=o;unfold VT at n;obtain⟨_,_,_,r,_⟩:=n;cases r
   |v :: v2 :: l,u :: t :: us,_,h1=>simp at h1
  rw[dif_neg this]
def n0p {n:Nat}{H:K0}:∀{args:List (V E.D)} {us:List Value},VT E ρ n H S args us->∀(i t:Nat) (v:V E.D),Q4 (G9 args i) t=some v->∃u,us[t-i]?=some u/\i<=t/\VS E ρ n H S v u
 |[],us,h,i,t,v,hl=>by simp[G9,Q4]at hl
 |x :: args,us,h,i,t,v,hl=>by
  unfold VT at h;obtain⟨c,b,h1,rfl,f⟩:=h;simp only[G9,a0q]at hl;split at hl
  ·rename_i e;simp only[Option.some.injEq]at hl;subst e;subst hl;exact⟨_,by rw[Nat.sub_self];rfl,Nat.le_refl _,c,h1,rfl⟩
  ·obtain⟨u,d,j,g⟩:=n0p f (i+1) t v hl;refine⟨u,?_,by omega,g⟩;rw[show t-i=(t-(i+1))+1 from by omega];simpa using d
def VT.length {n:Nat}{H:K0}:∀{l:List (V E.D)} {us:List Value},VT E ρ n H S l us->us.length=l.length
 |[],us,h=>by unfold VT at h;subst h;rfl
 |v :: l,us,h=>by
  unfold VT at h;obtain⟨c,u,_,rfl,b⟩:=h;simp[VT.length b]
def Rp.enter {A:O4}(h:Rp E A s ρ S a as w){args:List (V E.D)}{us:List Value}(c:VT E ρ s.nid w.heap S args us){m:Nat}(hm:args.length<=m):
  Rp E A { s with n:=m,fr:=G9 args 0,stk:=(s.n,s.fr) :: s.stk } ρ S { tmps:=us.toArray++Array.replicate (m-us.toArray.size) undef,defers:=[] } (a :: as) w:=by
 have hl:=c.length;refine⟨h.cx,⟨by simp;omega,rfl,fun t v e=>?_⟩,⟨h.fr,h.stk⟩,h.th,h.ow,h.dj,h.lt,h.rf,h.kp,h.hp⟩;obtain⟨u,h1,_,d⟩:=n0p c 0 t v e;rw[Nat.sub_zero]at h1;have b:t<us.length:=(List.getElem?_eq_some_iff.1 h1).1;have:(us.toArray++Array.replicate (m-us.toArray.size) undef).getD t undef=u:=by
  rw[Array.getD_eq_getD_getElem?,Array.getElem?_append_left (by simpa using b)];simp[h1]
 rw[this];exact d
def r0F {g:Nat}{fn:Func}{c:Code}(h:e0P E g=some (fn,c)):E.P.funcs[g]?=some fn/\fn.body=some c:=by
 unfold e0P at h;split at h<;>try cases h
 rename_i f d;split at h<;>try cases h
 rename_i b e;exact⟨d,e⟩
def m05 (g:Q1 E){ops:Array Oper}{Q:Exit->Act->World->Prop}:∀(l:List Oper) {s c:St E.D} {a:Act},f0K E ops l s=some c->Rp E A s ρ S a as w->
  (∀d,Rp E A c ρ S d as w->c.nid=s.nid->c.stk=s.stk->Q .normal d w)->wpList E.P ops Q l a w
 |[],s,c,a,hp,h,hQ=>by
  simp only[f0K,Option.some.injEq]at hp;subst hp;exact hQ a h rfl rfl
 |o :: l,s,c,a,hp,h,hQ=>by
  simp only[f0K]at hp;split at hp<;>try cases hp
  rename_i b;obtain⟨g1,g2,_⟩:=f0W h (ops:=ops) (o:=o);split at hp<;>try cases hp
  ·rename_i hg;split at hp<;>try cases hp
   rename_i v k;have j:=n00 g h o;rw[k]at j;obtain⟨u,h1,m⟩:=j;unfold wpList;rw[if_pos (g1 hg)];refine .inl ?_;simp only[Oper.wp,m w ⟨⟨S,U0.refl _ _⟩,fun _ _ _=>rfl⟩,Oper.upon];exact m05 g l hp (h.d0K b rfl h1) fun d i e f=>hQ d i (e.trans (by cases o.dst<;>rfl)) (f.trans (by cases o.dst<;>rfl))
  ·rename_i hg;unfold wpList;rw[g2 hg];simp only[Bool.false_eq_true,if_false];exact m05 g l hp (h.d0K b rfl VS.unit) fun d i e f=>hQ d i (e.trans (by cases o.dst<;>rfl)) (f.trans (by cases o.dst<;>rfl))
def c03 (k:Q1 E):∀(f:Nat) (c:Code) {s m:St E.D} {e:Ex} {a:Act} {Q:Exit->Act->World->Prop},Z8 E f c s=some (e,m)->Rp E A s ρ S a as w->
  (∀d,Rp E A m ρ S d as w->m.nid=s.nid->m.stk=s.stk->Q e.out d w)->c.wp E.P Q a w
 |0,c,s,m,e,a,Q,hp,h,b=>by simp[Z8]at hp
 |f+1,c,s,m,e,a,Q,hp,h,b=>by
  cases c with
  |skip=>
   simp only[Z8,Option.some.injEq,Prod.mk.injEq]at hp;obtain⟨rfl,rfl⟩:=hp;exact wp_skip (b a h rfl rfl)
  |region id ops draw=>
   simp only[Z8]at hp;split at hp<;>try cases hp
   split at hp<;>try cases hp
   rename_i s1 h1;exact wp_region_list (m05 k _ h1 h fun d g j l=>b d g j l)
  |seq x y=>
   simp only[Z8]at hp;refine wp_seq ?_;split at hp<;>try cases hp
   ·rename_i s1 h1;exact c03 k f x h1 h fun d g j l=>c03 k f y hp g fun q r u v=>b q r (u.trans j) (v.trans l)
   ·rename_i i h1;exact c03 k f x h1 h fun d g j l=>b d g j l
   ·rename_i h1;exact c03 k f x h1 h fun d g j l=>b d g j l
  |cond c x y=>
   simp only[Z8]at hp;have n:=h.val c;split at hp<;>try cases hp
   ·rename_i t;rw[t]at n;exact wp_cond_true (P8 (x:=true) rfl n) (c03 k f x hp h b)
   ·rename_i t;rw[t]at n;exact wp_cond_false (P8 (x:=false) rfl n) (c03 k f y hp h b)
  |block id x=>
   simp only[Z8]at hp;split at hp<;>try cases hp
   rename_i j s1 h1;refine wp_block (c03 k f x h1 h fun d g p o=>?_);split at hp<;>cases hp
   ·rename_i he;have:=Ex.h06 he;subst this;simp only[Ex.out,Exit.inBlock,if_true];exact b d g p o
   ·rename_i he;cases e with
    |nrm=>exact b d g p o
    |ret=>exact b d g p o
    |ex i=>
     have:i≠id:=by rintro rfl;simp[Ex.eq]at he
     simp only[Ex.out,Exit.inBlock,if_neg this];exact b d g p o
  |exit id=>
   simp only[Z8,Option.some.injEq,Prod.mk.injEq]at hp;obtain⟨rfl,rfl⟩:=hp;exact wp_exit (b a h rfl rfl)
  |ret=>
   simp only[Z8,Option.some.injEq,Prod.mk.injEq]at hp;obtain⟨rfl,rfl⟩:=hp;exact wp_ret (b a h rfl rfl)
  |_=>simp[Z8]at hp
def A0U (k:Q1 E){g:Nat}{args:List (V E.D)}{v:V E.D}{us:List Value}(hp:i0C E g args s=some v)(h:Rp E A s ρ S a as w)(n:VT E ρ s.nid w.heap S args us):
  Calls E.P g us.toArray w (fun e w1=>∃u,e=.returned u/\w1=w/\VS E ρ s.nid w.heap S v u):=by
 unfold i0C at hp;split at hp<;>try cases hp
 rename_i fn body b;obtain⟨d,o⟩:=r0F b;split at hp<;>try cases hp
 rename_i e p hn c;rw[Nat.ble_eq]at hn;split at hp<;>try cases hp
 rename_i f;refine calls_of_wp d o ?_;refine c03 k _ body c (h.enter n hn) fun j l q t=>?_;obtain⟨u,h1,r⟩:=s0H k l hp;have fin:j.defers=[]/\∃m,(results fn j.tmps).run E.P w=.ok m w/\∃u,Ending.returned m=.returned u/\w=w/\VS E ρ s.nid w.heap S v u:=⟨l.fr.defers,u,r,u,rfl,rfl,by rw[<-show p.nid=s.nid from q];exact h1⟩
 cases e with
 |nrm=>exact fin
 |ret=>exact fin
 |ex i=>cases f
def t0z (hE:Q1 E){C:D4 E}{inl:Inl E}(hi:e0v E inl)(hs:d0x E C){R:Type}{k:K E R}{r:R}{o:Oper}(hk:opV E C inl s o k=some r)(h:Rp E A s ρ S a as w){K:Act->World->Prop}{Q:Exit->Act->World->Prop}
  (U:∀s1 v u ρ1 S1 w1,k s1 v=some r->Rp E A s1 ρ1 S1 a as w1->VS E ρ1 s1.nid w1.heap S1 v u->Ext s s1->s1.fr=s.fr->(e0V E C s o=true->∀k,k<w.heap.size->(∀q,q<s.nid->P1 (E0 s q)=true->Z6 s s1 q=true->¬Bk (ρ q) k)->w1.heap[k]?=w.heap[k]?)->K (a.put o.dst u) w1):o.wp E.P a w K Q:=by
 have hq:=n00 hE h o;have b1:K8 E s S w (d06 E s ρ o) w:=⟨⟨S,U0.refl _ _⟩,fun _ _ _=>rfl⟩
 unfold opV at hk;split at hk
 ·rename_i b v1 v2 ht;obtain⟨u,h1,j⟩:=D0l h ht;have kk:∀{v},VS E ρ s.nid w.heap S v u->k s v=some r->o.wp E.P a w K Q:=fun hv e4=>by
   simp only[Oper.wp,h1 w,Oper.upon];exact U s _ u ρ S w e4 h hv (Ext.refl s) rfl (fun _ _ _ _=>rfl)
  rcases j with j|⟨rfl,j⟩
  ·cases b with
   |true=>exact kk j (o00 hk).2
   |false=>exact kk j hk
  ·exact kk j (o00 hk).1
 have c3:evE E C.tb s o k=some r->o.wp E.P a w K Q:=by
  intro hk;obtain⟨s1,v,u,w1,h1,⟨⟨ρ1,S1,j,p,_⟩,n,m,h7⟩,t⟩:=x0F hE h hk;have:=U s1 v u ρ1 S1 w1 h1 j p n m (fun _=>h7);rcases t with t|⟨rfl,t⟩
  ·simp only[Oper.wp,t,Oper.upon];exact this
  ·simp only[Oper.wp,t,Oper.upon];exact this
 split at hk
 ·rename_i v hv;rw[hv]at hq;obtain⟨u,h1,j⟩:=hq;simp only[Oper.wp,j w b1,Oper.upon];exact U s v u ρ S w hk h h1 (Ext.refl s) rfl (fun _ _ _ _=>rfl)
 ·rename_i b v hv;rw[hv]at hq;split at hk<;>try cases hk
  rename_i hb;obtain⟨u,h1,j⟩:=hq hb;simp only[Oper.wp,j w b1,Oper.upon];exact U s v u ρ S w hk h h1 (Ext.refl s) rfl (fun _ _ _ _=>rfl)
 ·split at hk
  ·rename_i q i f hb;obtain⟨h1,u,ρ1,j,p,n,m⟩:=t0V h hb;simp only[Oper.wp,m w ⟨⟨S,U0.refl _ _⟩,fun _ _ _=>rfl⟩,Oper.upon];exact U _ _ u ρ1 S w hk j n (Ext.new s _) rfl (fun _ _ _ _=>rfl)
  split at hk
  ·rename_i c ho;split at hk
   ·exact c3 hk
   ·rename_i f hc;split at hk<;>try cases hk
    rename_i g caps hf;split at hk<;>try cases hk
    rename_i z;have b2:=h.val f;rw[hf]at b2;obtain⟨c0,b5,J⟩:=b2;unfold VC at b5;obtain⟨us,rfl,c8⟩:=b5;have J:a.eval f=.func (.func g) #[] us.toArray:=J;have d:=(VT.of h c.args.toList).app c8;have key:Calls E.P g (c.args.toList.map a.eval++us).toArray w (fun e w1=>∃v,e=.returned v/\∃s1 V ρ1 S1,k s1 V=some r/\Rp E A s1 ρ1 S1 a as w1/\VS E ρ1 s1.nid w1.heap S1 V v/\Ext s s1/\s1.fr=s.fr/\(e0V E C s o=true->∀k,k<w.heap.size->(∀q,q<s.nid->P1 (E0 s q)=true->Z6 s s1 q=true->¬Bk (ρ q) k)->w1.heap[k]?=w.heap[k]?)):=by
     unfold s0V at hk;split at hk
     ·rename_i sm hl;refine(hs g _ s sm hl _ k r hk A ρ S a as w _ h d).mono ?_
      rintro e w1 ⟨v,rfl,s1,V,ρ1,S1,h1,j,p,n,m,t⟩
      exact⟨v,rfl,s1,V,ρ1,S1,h1,j,p,n,m,fun _=>t⟩
     ·rename_i hl;split at hk
      ·rename_i v x;refine(A0U hE x h d).mono ?_
       rintro e w1 ⟨u,rfl,rfl,h1⟩
       exact⟨u,rfl,s,v,ρ,S,hk,h,h1,Ext.refl s,rfl,fun _ _ _ _=>rfl⟩
      rename_i x;have a1:e0V E C s o=false:=by
       unfold e0V;rw[ho];simp only[hc];rw[hf];simp[hl,x]
      refine(hi _ g _ s k r hk A ρ S a as w _ h d).mono ?_
      rintro e w1 ⟨v,rfl,s1,V,ρ1,S1,h1,j,p,n,m⟩
      exact⟨v,rfl,s1,V,ρ1,S1,h1,j,p,n,m,fun e=>by rw[a1]at e;cases e⟩
    have y:(execOp a.eval o).run E.P w=.ok (.enter g (c.args.toList.map a.eval++us).toArray) w:=by
     have e:c.args.map a.eval++us.toArray=(c.args.toList.map a.eval++us).toArray:=by
      apply Array.ext';simp
     simp[execOp,ho,resolve,hc,Deferred.ofValue,J,invoke];rw[e];simpa using A0e z _ w
    simp only[Oper.wp,y,Oper.upon];refine key.mono ?_
    rintro e w1 ⟨v,rfl,s1,V,ρ1,S1,h1,j,p,n,m,t⟩
    exact U s1 V v ρ1 S1 w1 h1 j p n m t
   ·rename_i recv name hc;split at hk<;>try cases hk
    rename_i T v0 e9;split at hk<;>try cases hk
    rename_i g v hm;split at hk<;>try cases hk
    rename_i z;have b3:=h.val recv;rw[e9]at b3;obtain⟨u0,e1,c5⟩:=b3.n0H;obtain⟨I,e5,b4⟩:=P04 hE h c5 hm;have d:VT E ρ s.nid w.heap S (v :: c.args.toList.map (T1 E s)) (I :: c.args.toList.map a.eval):=VT.app (VT.map (l:=[()]) (f:=fun _=>v) (g:=fun _=>I) fun _ _=>e5) (VT.of h c.args.toList);have a1:e0V E C s o=false:=by
     unfold e0V;rw[ho];simp only[hc]
    have key:Calls E.P g (I :: c.args.toList.map a.eval).toArray w (fun e w1=>∃v,e=.returned v/\∃s1 V ρ1 S1,k s1 V=some r/\Rp E A s1 ρ1 S1 a as w1/\VS E ρ1 s1.nid w1.heap S1 V v/\Ext s s1/\s1.fr=s.fr/\(e0V E C s o=true->∀k,k<w.heap.size->(∀q,q<s.nid->P1 (E0 s q)=true->Z6 s s1 q=true->¬Bk (ρ q) k)->w1.heap[k]?=w.heap[k]?)):=by
     unfold s0V at hk;split at hk
     ·rename_i sm hl;refine(hs g _ s sm hl _ k r hk A ρ S a as w _ h d).mono ?_
      rintro e w1 ⟨v,rfl,s1,V,ρ1,S1,h1,j,p,n,m,t⟩
      exact⟨v,rfl,s1,V,ρ1,S1,h1,j,p,n,m,fun _=>t⟩
     ·split at hk
      ·rename_i v x;refine(A0U hE x h d).mono ?_
       rintro e w1 ⟨u,rfl,rfl,h1⟩
       exact⟨u,rfl,s,v,ρ,S,hk,h,h1,Ext.refl s,rfl,fun _ _ _ _=>rfl⟩
      refine(hi _ g _ s k r hk A ρ S a as w _ h d).mono ?_
      rintro e w1 ⟨v,rfl,s1,V,ρ1,S1,h1,j,p,n,m⟩
      exact⟨v,rfl,s1,V,ρ1,S1,h1,j,p,n,m,fun e=>by rw[a1]at e;cases e⟩
    have y:(execOp a.eval o).run E.P w=.ok (.enter g (I :: c.args.toList.map a.eval).toArray) w:=by
     have c4:(method (E.P.types.size+Made.depth) T u0 name).run E.P w=.ok (g,I) w:=b4 (E.P.types.size+99);have c6:=A0e z (I :: c.args.toList.map a.eval).toArray w;simp[execOp,ho,resolve,hc,e1,invoke,callMethod];have e0:(#[Value.iface T u0]++Array.map a.eval c.args)[0]?=some (Value.iface T u0):=by rw[Array.getElem?_append_left (by simp)];rfl
     rw[e0];simp[c4];have e2:(Array.map a.eval c.args).extract 0 c.args.size=Array.map a.eval c.args:=by apply Array.ext';simp[List.take_of_length_le]
     rw[e2];have e3:(#[I]++Array.map a.eval c.args:Array Value)=(I :: c.args.toList.map a.eval).toArray:=by
      apply Array.ext';simp
     rw[e3];simpa using c6
    simp only[Oper.wp,y,Oper.upon];refine key.mono ?_
    rintro e w1 ⟨v,rfl,s1,V,ρ1,S1,h1,j,p,n,m,t⟩
    exact U s1 V v ρ1 S1 w1 h1 j p n m t
  ·exact c3 hk
def d0V (x:Q1 E){C:D4 E}{inl:Inl E}(hi:e0v E inl)(I:d0x E C){ops:Array Oper}:∀(f:Nat) {R:Type} (cs:List (Nat×Nat×Cut)) (i stop:Nat) (l:List Oper) (s:St E.D) (k:St E.D->Option R) (r:R),H7 E C inl ops f cs i stop l s k=some r->i<=stop->
  ∀(ρ:Nat->Value) (S:D0) (a:Act) (w:World),Rp E A s ρ S a as w->∀(Q:Exit->Act->World->Prop),(∀m ρ' q j w',k m=some r->Rp E A m ρ' q j as w'->Ext s m->wpList E.P ops Q (l.drop (stop-i)) j w')->wpList E.P ops Q l a w
 |0,R,cs,i,stop,l,s,k,r,hk,_=>by simp[H7]at hk
 |f+1,R,cs,i,stop,l,s,k,r,hk,hle=>by
  intro ρ S a w h Q z;simp only[H7]at hk;split at hk
  ·rename_i he;rw[Nat.beq_eq]at he;subst he;have:=z s ρ S a w hk h (Ext.refl s)
   rwa [Nat.sub_self,List.drop_zero]at this
  ·rename_i U;have U:i≠stop:=by rintro rfl;simp at U
   split at hk
   ·rename_i b c r' c4;split at hk<;>try cases hk
    rename_i J;rw[Bool.and_eq_true,Nat.ble_eq,Nat.blt_eq]at J;obtain⟨d,hd,hk⟩:=b0Z hk;refine d0V x hi I f _ i (b+1) l s _ d hd (by omega) ρ S a w h Q fun m ρ' q j w' hp t he=>?_;obtain⟨u,ρ1,S1,h1,h2,h3,_⟩:=e0t x (fun i u ha=>(h.hp i u ha).1) h t he hp hk;refine d0V x hi I f _ (b+1) stop _ u _ r h1 (by omega) ρ1 S1 j w' h2 Q fun c3 ρ'' b4 b5 c0 b3 b2 a1=>?_;have:=z c3 ρ'' b4 b5 c0 b3 b2 (h3.trans a1);rw[List.drop_drop]
    rwa [show b+1-i+(stop-(b+1))=stop-i from by omega]
   ·split at hk<;>try cases hk
    rename_i o l';split at hk<;>try cases hk
    rename_i y;obtain⟨g1,g2,g3⟩:=f0W h (ops:=ops) (o:=o);have p:(o :: l').drop (stop-i)=l'.drop (stop-(i+1)):=by
     rw[show stop-i=(stop-(i+1))+1 from by omega,List.drop_succ_cons]
    rw[p]at z;split at hk
    ·cases hk
    ·rename_i hg;unfold wpList;rw[if_pos (g1 hg)];refine .inl (t0z x hi I hk h fun s1 v u ρ1 S1 w1 b1 h1 hv he c5 _=>?_);refine d0V x hi I f cs (i+1) stop l' _ k r b1 (by omega) ρ1 S1 _ w1 (h1.d0K y he.n hv) Q fun m ρ' q j w' g t e=>?_;exact z m ρ' q j w' g t ((he.trans (Ext.put s1 o.dst v)).trans e)
    ·rename_i hg;unfold wpList;rw[g2 hg];simp only[Bool.false_eq_true,if_false];refine d0V x hi I f cs (i+1) stop l' _ k r hk (by omega) ρ S _ w (h.d0K y rfl VS.unit) Q fun m ρ' q j w' g t e=>?_;exact z m ρ' q j w' g t ((Ext.put s o.dst _).trans e)
    ·rename_i d b hg;have hv:=g3 d b hg;rw[<-p]at z;split at hk
     ·rename_i J;subst J;exact d0V x hi I f cs i stop (o :: l') _ k r hk hle ρ S a w (h.o0y (by rw[hv];exact VS.kb)) Q fun m ρ' q j w' g t e=>z m ρ' q j w' g t ((Ext.put s (some d) _).trans e)
     ·rename_i J;have J:b=false:=by simpa using J
      subst J;exact d0V x hi I f cs i stop (o :: l') _ k r hk hle ρ S a w (h.o0y (by rw[hv];exact VS.kb)) Q fun m ρ' q j w' g t e=>z m ρ' q j w' g t ((Ext.put s (some d) _).trans e)
end
