/- P. Its conditions: none. -/
import Derived.Test.YtbccffnofdnpoaaGreatAX9
set_option linter.all false
namespace Go.X
open Go.V Go.RowKit
section
variable {E:Env}{A:A5}{s:St E.D}{ρ:Nat->Value}{S:E0}{a:Act}{as:List Act}{w:World}
def v07 (E:Env)(A:A5)(s:St E.D)(a:Act)(as:List Act){R:Type}(k:K E R)(r:R)(e:Ending)(w1:World):Prop:=
 ∃v,e=.returned v/\∃s1 V ρ1 S1,k s1 V=some r/\Rp E A s1 ρ1 S1 a as w1/\VS E ρ1 s1.nid w1.heap S1 V v/\Ext s s1/\s1.fr=s.fr
def p0F (E:Env)(A:A5)(s:St E.D)(ρ:Nat->Value)(a:Act)(as:List Act)(w:World){R:Type}(k:K E R)(r:R)(e:Ending)(w1:World):Prop:=
 ∃v,e=.returned v/\∃s1 V ρ1 S1,k s1 V=some r/\Rp E A s1 ρ1 S1 a as w1/\VS E ρ1 s1.nid w1.heap S1 V v/\Ext s s1/\s1.fr=s.fr/\(∀k,k<w.heap.size->(∀q,q<s.nid->E2 (G0 s q)=true->c7 s s1 q=true->¬Bk (ρ q) k)->w1.heap[k]?=w.heap[k]?)
def e0J (E:Env)(inl:Inl E):Prop:=∀(R:Type) (g:Nat) (args:List (V E.D)) (s:St E.D) (k:K E R) (r:R),inl g args s k=some r->∀(A:A5) (ρ:Nat->Value) (S:E0) (a:Act) (as:List Act) (w:World) (us:List Value),
 Rp E A s ρ S a as w->VT E ρ s.nid w.heap S args us->Calls E.P g us.toArray w (v07 E A s a as k r)
def e0q (E:Env)(C:P3 E):Prop:=∀(g:Nat) (args:List (V E.D)) (s:St E.D) (c:Sm E.D),e0C E s args C.sm g=some c->∀(R:Type) (k:K E R) (r:R),l0C E s c args k=some r->∀(A:A5) (ρ:Nat->Value) (S:E0) (a:Act) (as:List Act) (w:World) (us:List Value),
 Rp E A s ρ S a as w->VT E ρ s.nid w.heap S args us->Calls E.P g us.toArray w (p0F E A s ρ a as w k r)
theorem H0k {g:Nat} (h:j0q E g=true):∃ fn,E.P.funcs[g]?=some fn/\fn.body.isSome=true/\(fn.name== "runtime.NumGoroutine")=false:=by
 unfold j0q at h
 grind
theorem z0v {g:Nat}(h:j0q E g=true)(args:Array Value)(w:World):(callFunc g args).run E.P w=.ok (.enter g args) w:=by
 obtain⟨fn,h1,c,b⟩:=H0k h;have d:fn.body≠none:=by grind
 simp_all[callFunc]
theorem G0N (h:Rp E A s ρ S a as w){T:Nat}{p:V E.D}{up:Value}(hp:VS E ρ s.nid w.heap S p up){q f:Nat}{i:Int}(g:t0E E s T p=some (q,i,f)):
  (e0Q s p=true/\rdP s p=none)/\∃u ρ1,Rp E A (s.new (.rof q i f)) ρ1 S a as w/\(∀j,j<s.nid->hd (ρ1 j)=hd (ρ j))/\VS E ρ1 (s.nid+1) w.heap S (.sl s.nid) u/\∀w',l6 E s S w (fun _=>True) w'->(Instr.loadAt T up).run E.P w'=.ok u w':=by
 unfold t0E at g;split at g
 rotate_left
 ·cases g
 obtain⟨x,c3,b,o,m,c,hr,⟨h0,h1⟩,hu⟩:=hp.e0A;split at g<;>try cases g
 rename_i e F t xs y;split at g<;>try cases g
 rename_i ff z J U;split at g<;>try cases g
 rename_i hz;rw[Bool.and_eq_true,Nat.beq_eq,Nat.blt_eq]at hz;obtain⟨rfl,hf⟩:=hz;have hl:=e02 y;have k:=h.th q;rw[hl]at k;obtain⟨cs,k⟩:=k;obtain⟨b1,_⟩:=d01 k.ok;have b2:=y01 k.ok U hf;have l:=k.row;rw[hr]at l;obtain⟨rfl,C,_,R⟩:=Row.cell l O';have a1:rowAt F i.toNat f<cs.length:=by
  rw[k.sz];unfold rowAt;have:i.toNat*F.length+F.length<=xs.length*F.length:=by rw[<-Nat.succ_mul];exact Nat.mul_le_mul_right _ O'
  omega
 have b3:rowAt F i.toNat f<xs.length*(L0 E t).sz:=by rw[<-k.row.1];omega
 have n:∀I:M0,I[b]?=w.heap[b]?->D2 I b (o+rowAt F i.toNat f)=some cs[rowAt F i.toNat f]:=fun I hH=>by
  simp_all
 have d:=k.one _ (List.getElem_mem a1);refine⟨⟨by simp only[e0Q];rw[hl];rfl,by simp_all[rdP]⟩,cs[rowAt F i.toNat f],Q6 ρ s.nid cs[rowAt F i.toNat f],h.z0e (fun _ _ e=>by cases e) ⟨Nat.lt_succ_of_lt x,d,(f0b d).1⟩ (fun q' i' f' e=>?_),fun j hj=>by grind [j6],?_,fun w' hw=>?_⟩
 ·cases e;refine⟨x,fun e2 F2 t2 b4 r=>?_⟩;rw[hl]at r;cases r;exact⟨b,o,_,c,hr,⟨h0,h1⟩,hf,n w.heap rfl⟩
 ·exact VS.of rfl (by unfold VC;rw[H5,(f0b d).1];simp_all)
 ·have hH:=hw.2 b trivial C;have:=z0m (T:=T) (b:=b) (o:=o+rowAt F i.toNat f) z J (c:=[cs[rowAt F i.toNat f]]) rfl (fun _=>rfl) (w:=w') (fun j v hj=>by
   grind)
  grind [K3,rowAt,Instr.loadAt,Instr.sureAddr,O4]
def w0c (h:Rp E A s ρ S a as w){o:Oper}{q f:Nat}{i:Int}(b:o0n E s o=some (q,i,f)):
  (D9 E s o=true/\F9 E s o=none)/\∃u ρ1,Rp E A (s.new (.rof q i f)) ρ1 S a as w/\(∀j,j<s.nid->hd (ρ1 j)=hd (ρ j))/\VS E ρ1 (s.nid+1) w.heap S (.sl s.nid) u/\∀w',l6 E s S w (fun _=>True) w'->(execOp a.eval o).run E.P w'=.ok (.value u) w':=by
 unfold o0n at b;split at b<;>try cases b
 rename_i T x k;obtain⟨h1,u,ρ1,e,c,d,g⟩:=G0N h (h.val x) b;exact⟨⟨by simp_all[D9],by simp_all[F9]⟩,u,ρ1,e,c,d,fun w' hw=>by simp_all[execOp]⟩
def PlR (E:Env)(ρ:Nat->Value)(n:Nat)(H:M0)(S:E0):Plc E.D->Place->Prop
 |.inl v,.val u=>VS E ρ n H S v u
 |.inr p,.var a=>VS E ρ n H S p (.pointer (some a))
 |_,_=>False
theorem p0v (c:G2 E)(h:Rp E A s ρ S a as w){T:Nat}{x:Plc E.D}{X:Place}(b:PlR E ρ s.nid w.heap S x X){v:V E.D}(hg:k0l E s T x=some v):∃u,VS E ρ s.nid w.heap S v u/\(Place.get T X).run E.P w=.ok u w:=by
 cases x with
 |inl v0=>
  cases X with
  |var _=>exact b.elim
  |val u=>cases hg;exact⟨u,b,by rfl⟩
 |inr p=>
  cases X with
  |val _=>exact b.elim
  |var ad=>
   simp only[k0l]at hg;have hl:=r0S c h (T:=T) (show VS E ρ s.nid w.heap S p (.pointer (some ad))from b);split at hg
   ·rename_i v1 e;cases hg;rw[e]at hl;obtain⟨u,hu,d⟩:=hl;have:=d w ⟨⟨S,Y0.refl _ _⟩,fun _ _ _=>rfl⟩
    simp_all[Instr.loadAt,Instr.sureAddr,Place.get]
   grind
def u0n {P:Program}{T f:Nat}{up u:Value}{w:World}{fs:Array Field}{x:Field}(hl:P.underlying T=some (.struct fs))(c:fs[f]?=some x)(h:(Instr.fieldAt T up f).run P w=.ok u w):
  ∃ad b,up=.pointer (some ad)/\u=.pointer (some b)/\(fieldPlace ad x).run P w=.ok b w:=by
 cases up with
 |pointer o=>
  cases o with
  |none=>simp_all[Instr.fieldAt,run_underlying,Instr.sureAddr]
  |some ad=>
   simp[Instr.fieldAt,run_underlying hl,c,Instr.sureAddr]at h;cases hp:(fieldPlace ad x).run P w with
   |ok b w'=>
    simp_all
   |_=>simp_all
 |_=>simp_all[Instr.fieldAt,run_underlying,Instr.sureAddr]
def m0p (d:G2 E)(h:Rp E A s ρ S a as w):∀(path:List FieldStep) (t:Nat) (x:Plc E.D) (X:Place) (g:Nat) (j:Plc E.D),PlR E ρ s.nid w.heap S x X->g04 E s path t x=some (g,j)->
  ∃k,PlR E ρ s.nid w.heap S j k/\(follow path t X).run E.P w=.ok (g,k) w
 |[],t,x,X,g,j,hx,hf=>by
  cases hf
  simp_all[follow]
 |st :: rest,t,x,X,g,j,hx,hf=>by
  unfold g04 at hf;split at hf<;>try cases hf
  rename_i fs hl;split at hf<;>try cases hf
  rename_i f m;split at hf
  ·split at hf<;>try cases hf
   rename_i v hg;obtain⟨u,hu,C⟩:=p0v d h hx hg;have ha:=p0S d h (T:=st.struct) (f:=st.index) hu;split at hf<;>try cases hf
   rename_i p hp;rw[hp]at ha;obtain⟨n,b,l⟩:=ha;obtain⟨ad,c,rfl,rfl,r⟩:=u0n hl m (l w ⟨⟨S,Y0.refl _ _⟩,fun _ _ _=>rfl⟩);obtain⟨k,h1,y⟩:=m0p d h rest f.type (.inr p) (.var c) g j b hf
   simp_all[follow,run_underlying,asAddr]
  ·rename_i p hd;cases X with
   |val _=>exact hx.elim
   |var ad0=>
    have hu:VS E ρ s.nid w.heap S p (.pointer (some ad0)):=hx;have ha:=p0S d h (T:=st.struct) (f:=st.index) hu;split at hf<;>try cases hf
    rename_i q hp;rw[hp]at ha;obtain⟨n,b,l⟩:=ha;obtain⟨ad,c,e,rfl,r⟩:=u0n hl m (l w ⟨⟨S,Y0.refl _ _⟩,fun _ _ _=>rfl⟩);obtain⟨k,h1,y⟩:=m0p d h rest f.type (.inr q) (.var c) g j b hf
    simp_all[follow,run_underlying]
  ·rename_i v hd;cases X with
   |var _=>exact hx.elim
   |val u0=>
    have hu:VS E ρ s.nid w.heap S v u0:=hx;split at hf<;>try cases hf
    rename_i I;have ha:=x0t d h (T:=st.struct) (f:=st.index) hu;split at hf<;>try cases hf
    rename_i q hp;rw[hp]at ha;obtain⟨n,b,l⟩:=ha;have l:=l w ⟨⟨S,Y0.refl _ _⟩,fun _ _ _=>rfl⟩;obtain⟨z,_,i,_⟩:=hu.flat;have i:=i I;subst i;obtain⟨k,h1,y⟩:=m0p d h rest f.type (.inl q) (.val n) g j b hf;refine⟨k,h1,?_⟩;have o:(part f.type z.toArray f.offset).run E.P w=.ok n w:=by
     simp_all[Instr.field,run_underlying,asAgg]
    simp_all[follow,run_underlying]
theorem M0B (y:G2 E)(h:Rp E A s ρ S a as w){T g:Nat}{name:String}{v v1:V E.D}{u:Value}(U:VS E ρ s.nid w.heap S v u)(hm:s0k E s T v name=some (g,v1)):
  ∃t,VS E ρ s.nid w.heap S v1 t/\∀n,(method (n+1) T u name).run E.P w=.ok (g,t) w:=by
 unfold s0k at hm;split at hm<;>try cases hm
 rename_i i hi;split at hm<;>try cases hm
 rename_i m J;split at hm<;>try cases hm
 rename_i C x z;obtain⟨X,r,l⟩:=m0p y h m.path.toList T (.inl v) (.val u) C x U z;have k:∀b,s0D E C=some b->∃d,E.P.underlying C=some d/\(b=true->∃e,d=.pointer e)/\(b=false->∀e,d≠.pointer e):=by
  intro b R;unfold s0D at R
  grind
 split at hm
 ·rename_i f x' c hp;split at hm<;>try cases hm
  rename_i t hg;obtain⟨d,hd,h1,_⟩:=k _ hp;obtain⟨e,rfl⟩:=h1 rfl;obtain⟨I,q,o⟩:=p0v y h r hg
  simp_all[method,typeInfo,receiverAt,run_underlying]
 ·rename_i f p c hp;cases hm;obtain⟨d,hd,_,j⟩:=k _ hp;cases X with
  |val _=>exact r.elim
  |var ad=>
   refine⟨_,r,fun n=>?_⟩;have j:=j rfl;cases d<;>first
    |exact absurd rfl (j _)
    |simp_all[method,typeInfo,receiverAt,run_underlying]
 ·rename_i f x' c hp;split at hm<;>try cases hm
  rename_i t hg;obtain⟨d,hd,_,j⟩:=k _ hp;obtain⟨I,q,o⟩:=p0v y h r hg;refine⟨I,q,fun n=>?_⟩;have j:=j rfl;cases d<;>first
   |exact absurd rfl (j _)
   |simp[method,typeInfo,hi,J,l,c,receiverAt,run_underlying hd,o]
 grind
theorem r0s {α:Type}{a b:Option α}{r:α}(h:same a b=some r):a=some r/\b=some r:=by
 grind [same]
theorem G0y (h:Rp E A s ρ S a as w){tb:List Nat}{o:Oper}{b:Bool}{v1 v2:V E.D}(d:t0s E tb s o=some (b,v1,v2)):∃u,(∀w',(execOp a.eval o).run E.P w'=.ok (.value u) w')/\(VS E ρ s.nid w.heap S v2 u\/(b=true/\VS E ρ s.nid w.heap S v1 u)):=by
 unfold t0s at d;split at d<;>try cases d
 unfold v0x at d;split at d<;>try cases d
 rename_i op T x y T2 I;split at d<;>try cases d
 rename_i t xs pos p m hk f;obtain⟨C,k2,r,v⟩:=n0h (E:=E) (T:=T);obtain⟨e,j⟩:=r hk;have ha:=h.val x;have k:=h.val y;rw[p]at ha;rw[m]at k;have hn:=k.b0m;obtain⟨l,c,g,i⟩:=ha.g0U;have fin:∀{q:Bool},(∀w':World,(Op.equal T (a.eval x) (a.eval y)).run E.P w'=.ok q w')->F8 E op T (a.eval x) (a.eval y)->∀w',(execOp a.eval o).run E.P w'=.ok (.value (.bool (sgn pos q))) w':=by
  intro q heq hg w';have h1:(binOp op T (a.eval x) (a.eval y)).run E.P w'=.ok (.bool (sgn pos q)) w':=c0L f (by simp_all) (by simp_all) (by simp_all) (by simp_all) (heq w');have z:=hg x y w'
  simp_all[execOp]
 have hg:F8 E op T (a.eval x) (a.eval y):=by grind [F8.of,b0z]
 cases l with
 |none=>
  have n:xs=[]:=by
   cases xs with
   |nil=>rfl
   |cons y ys=>obtain⟨b,o,h,_⟩:=i.2.1 V';cases h
  subst n;refine⟨_,fin (q:=true) (fun w'=>?_) hg,.inr ⟨rfl,VS.W6⟩⟩;rw[g,hn];unfold Op.equal Op.maxDepth Op.equalIn;simp[run_underlying j]
 |some ad=>
  refine⟨_,fin (q:=false) (fun w'=>?_) hg,.inl VS.W6⟩;rw[g,hn];unfold Op.equal Op.maxDepth Op.equalIn;simp[run_underlying j]
theorem g0X (h:Rp E A s ρ S a as w){ops:Array Oper}{o:Oper}:(b0C E s ops o=.yes->Region.wanted o (yielded ops a.tmps)=true)/\(b0C E s ops o=.no->Region.wanted o (yielded ops a.tmps)=false)/\
  (∀d b,b0C E s ops o=.ask d b->a.tmps.getD d undef=.bool b):=by
 unfold b0C Region.wanted;cases hg:o.guard with
 |none=>simp
 |some jw=>
  obtain⟨j,want⟩:=jw;simp only;cases p:ops[j]? with
  |none=>simp
  |some g=>
   simp only;cases hd:g.dst with
   |none=>simp
   |some d=>
    simp only;cases hl:C5 s.fr d with
    |none=>simp
    |some v=>
     have i:=h.get hl;have q:∀x,a.tmps.getD d undef=.bool x->yielded ops a.tmps j=some x:=by
      intro x f;unfold yielded;have:a.tmps[d]?=some (.bool x):=by
       rw[Array.getD_eq_getD_getElem?]at f
       grind [undef]
      grind
     split
     ·rename_i b c;cases c;have f:=O9 (x:=b) rfl i
      grind
     ·rename_i c;cases c;obtain⟨us,hu,l⟩:=i.t0X;have:yielded ops a.tmps j≠some want:=by
       unfold yielded;rw[Array.getD_eq_getD_getElem?]at hu
       grind
      grind
     ·rename_i n k m e;split
      ·simp only[Gt.ask.injEq,reduceCtorEq,false_implies,true_and]
       grind [O9]
      ·simp
     ·simp
def Rp.o0J (h:Rp E A s ρ S a as w){d:Nat}{v:V E.D}(b:VS E ρ s.nid w.heap S v (a.tmps.getD d undef)):Rp E A (s.put (some d) v) ρ S a as w:=by
 refine⟨h.cx,⟨h.fr.size,h.fr.defers,fun t x hl=>?_⟩,h.stk,h.th,h.ow,h.dj,h.lt,h.rf,h.kp,h.hp⟩;simp only[St.put,a0R]at hl;split at hl
 ·rename_i e;simp only[Option.some.injEq]at hl;subst e;subst hl;exact b
 ·exact h.fr.slot t x hl
def Rp.f0H {s1:St E.D}{ρ1:Nat->Value}{S1:E0}{w1:World}(h:Rp E A s1 ρ1 S1 a as w1){n:Nat}{o:Oper}(hd:c0H n o=true)(hn:s1.n=n){v:V E.D}{u:Value}(b:VS E ρ1 s1.nid w1.heap S1 v u):Rp E A (s1.put o.dst v) ρ1 S1 (a.put o.dst u) as w1:=
 h.put (by rw[hn];exact hd) b
def Ex.out:Ex->Exit
 |.nrm=>.normal
 |.ex i=>.exit i
 |.ret=>.ret
def D0c (d:G2 E){A:A5}(h:Rp E A s ρ S a as w){r:ResultVar}{v:V E.D}(b:m0k E s r=some v):∃u,VS E ρ s.nid w.heap S v u/\(rvs a.tmps r).run E.P w=.ok u w:=by
 cases r with
 |tmp t=>
  simp only[m0k,Option.some.injEq]at b;subst b;exact⟨_,h.c0n t,by rfl⟩
 |cell q T=>
  simp only[m0k]at b;split at b<;>try cases b
  rename_i f hl;have:=r0S d h (T:=T) (h.c0n q);rw[hl]at this;obtain⟨u,h1,e⟩:=this;have c:=e w ⟨⟨S,Y0.refl _ _⟩,fun _ _ _=>rfl⟩;unfold Instr.loadAt at c;cases hq:a.tmps.getD q undef<;>rw[hq]at c<;>simp[Instr.sureAddr]at c
  rename_i ad;cases ad with
  |none=>simp_all
  |some ad=>
   simp_all[rvs,asAddr]
theorem p0T (d:G2 E){A:A5}(h:Rp E A s ρ S a as w):∀{l:List ResultVar} {vs:List (V E.D)},j0O E s l=some vs->∃us,VT E ρ s.nid w.heap S vs us/\us.length=l.length/\(l.mapM (rvs a.tmps)).run E.P w=.ok us w
 |[],vs,hr=>by
  simp only[j0O,Option.some.injEq]at hr;subst hr;exact⟨[],by rfl,rfl,V'⟩
 |x :: l,vs,hr=>by
  simp only[j0O]at hr;split at hr<;>try cases hr
  rename_i v i h1 g;obtain⟨u,⟨c,j,hu⟩,e⟩:=D0c d h h1;obtain⟨us,f,hl,b⟩:=p0T d h g;exact⟨u :: us,by grind [VT],by grind,by simp_all⟩
theorem z0D (j:G2 E){A:A5}(h:Rp E A s ρ S a as w){fn:Func}{v:V E.D}(g:result E s fn=some v):∃u,VS E ρ s.nid w.heap S v u/\(results fn a.tmps).run E.P w=.ok u w:=by
 have i:∀us:List Value,(fn.results.toList.mapM (rvs a.tmps)).run E.P w=.ok us w->(results fn a.tmps).run E.P w=.ok (if h:us.toArray.size=1 then us.toArray[0]else .tuple us.toArray) w:=by
  have:results fn a.tmps=(do let vs <-fn.results.mapM (rvs a.tmps);pure (if h:vs.size=1 then vs[0]else .tuple vs)):=by
   rfl
  simp_all[Array.mapM_eq_mapM_toList]
 unfold result at g;split at g<;>try cases g
 ·rename_i q f;obtain⟨us,b,hl,d⟩:=p0T j h f;obtain⟨c,e,k,rfl,b⟩:=b;subst b;exact⟨_,⟨c,k,rfl⟩,by simp_all⟩
 ·rename_i l m f;obtain⟨us,b,hl,d⟩:=p0T j h f;refine⟨.tuple us.toArray,VS.of rfl (by unfold VC;simp_all),?_⟩;have:us.toArray.size≠1:=by
   intro h1
   match l,us,b,h1 with
   |[],[],_,h1=>grind
   |[v],_,_,_=>simp_all
   |[],u :: us,b,_=>simp_all[VT]
   |v :: v2 :: l,[],b,h1=>grind
   |v :: v2 :: l,[u],b,_=>
    obtain⟨c,e,_,o,p⟩:=b
    simp_all[VT]
   |v :: v2 :: l,u :: n :: us,_,h1=>grind
  simp_all
theorem r0v {n:Nat}{H:M0}:∀{args:List (V E.D)} {us:List Value},VT E ρ n H S args us->∀(i t:Nat) (v:V E.D),C5 (V9 args i) t=some v->∃u,us[t-i]?=some u/\i<=t/\VS E ρ n H S v u
 |[],us,h,i,t,v,hl=>by grind [V9,C5]
 |x :: args,us,h,i,t,v,hl=>by
  obtain⟨c,b,h1,rfl,d⟩:=h;simp only[V9,a0R]at hl;split at hl
  ·rename_i e;simp only[Option.some.injEq]at hl;subst e;subst hl;exact⟨_,V',Nat.le_refl _,c,h1,rfl⟩
  ·obtain⟨u,g,k2,f⟩:=r0v d (i+1) t v hl
   grind
def VT.length {n:Nat}{H:M0}:∀{l:List (V E.D)} {us:List Value},VT E ρ n H S l us->us.length=l.length
 |[],us,h=>by simp_all[VT]
 |v :: l,us,h=>by
  obtain⟨c,u,_,rfl,b⟩:=h;simp[VT.length b]
theorem Rp.enter {A:A5}(h:Rp E A s ρ S a as w){args:List (V E.D)}{us:List Value}(b:VT E ρ s.nid w.heap S args us){m:Nat}(hm:args.length<=m):
  Rp E A { s with n:=m,fr:=V9 args 0,stk:=(s.n,s.fr) :: s.stk } ρ S { tmps:=us.toArray++Array.replicate (m-us.toArray.size) undef,defers:=[] } (a :: as) w:=by
 have hl:=b.length;refine⟨h.cx,⟨by grind,rfl,fun t v c=>?_⟩,⟨h.fr,h.stk⟩,h.th,h.ow,h.dj,h.lt,h.rf,h.kp,h.hp⟩;obtain⟨u,h1,_,e⟩:=r0v b 0 t v c;have d:t<us.length:=(List.getElem?_eq_some_iff.1 h1).1;have:(us.toArray++Array.replicate (m-us.toArray.size) undef).getD t undef=u:=by
  simp_all[Array.getElem?_append_left]
 simp_all
theorem u0q {g:Nat}{fn:Func}{c:Code}(h:e06 E g=some (fn,c)):E.P.funcs[g]?=some fn/\fn.body=some c:=by
 grind [e06]
def t0w (e:G2 E){ops:Array Oper}{Q:Exit->Act->World->Prop}:∀(l:List Oper) {s d:St E.D} {a:Act},g0H E ops l s=some d->Rp E A s ρ S a as w->
  (∀c,Rp E A d ρ S c as w->d.nid=s.nid->d.stk=s.stk->Q .normal c w)->wpList E.P ops Q l a w
 |[],s,d,a,hp,h,hQ=>by
  simp only[g0H,Option.some.injEq]at hp;subst hp;exact hQ a h rfl rfl
 |o :: l,s,d,a,hp,h,hQ=>by
  simp only[g0H]at hp;split at hp<;>try cases hp
  rename_i b;obtain⟨g1,g2,_⟩:=g0X h (ops:=ops) (o:=o);split at hp<;>try cases hp
  ·rename_i hg;split at hp<;>try cases hp
   rename_i v k;have hq:=s0p e h o;rw[k]at hq;obtain⟨u,h1,j⟩:=hq;unfold wpList;rw[if_pos (g1 hg)];refine .inl ?_;simp only[Oper.wp,j w ⟨⟨S,Y0.refl _ _⟩,fun _ _ _=>rfl⟩,Oper.upon];exact t0w e l hp (h.f0H b rfl h1) fun c i g f=>hQ c i (g.trans (by cases o.dst<;>rfl)) (f.trans (by cases o.dst<;>rfl))
  ·rename_i hg;unfold wpList;rw[g2 hg];exact t0w e l hp (h.f0H b rfl VS.unit) fun c i g f=>hQ c i (g.trans (by cases o.dst<;>rfl)) (f.trans (by cases o.dst<;>rfl))
theorem d05 (j:G2 E):∀(f:Nat) (c:Code) {s m:St E.D} {e:Ex} {a:Act} {Q:Exit->Act->World->Prop},b0a E f c s=some (e,m)->Rp E A s ρ S a as w->
  (∀b,Rp E A m ρ S b as w->m.nid=s.nid->m.stk=s.stk->Q e.out b w)->c.wp E.P Q a w
 |0,c,s,m,e,a,Q,hp,h,d=>by grind [b0a]
 |f+1,c,s,m,e,a,Q,hp,h,d=>by
  cases c with
  |skip=>
   obtain⟨rfl,rfl⟩:=hp;exact wp_skip (d a h rfl rfl)
  |region id ops draw=>
   simp only[b0a]at hp;split at hp<;>try cases hp
   split at hp<;>try cases hp
   rename_i s1 h1;exact wp_region_list (t0w j _ h1 h fun b g k l=>d b g k l)
  |seq x y=>
   simp only[b0a]at hp;refine wp_seq ?_;split at hp<;>try cases hp
   ·rename_i s1 h1;exact d05 j f x h1 h fun b g k l=>d05 j f y hp g fun p o v u=>d p o (v.trans k) (u.trans l)
   ·rename_i i h1;exact d05 j f x h1 h fun b g k l=>d b g k l
   ·rename_i h1;exact d05 j f x h1 h fun b g k l=>d b g k l
  |cond c x y=>
   simp only[b0a]at hp;have n:=h.val c;split at hp<;>try cases hp
   ·rename_i q;rw[q]at n;exact wp_cond_true (O9 (x:=true) rfl n) (d05 j f x hp h d)
   ·rename_i q;rw[q]at n;exact wp_cond_false (O9 (x:=false) rfl n) (d05 j f y hp h d)
  |block id x=>
   simp only[b0a]at hp;split at hp<;>try cases hp
   rename_i k s1 h1;refine wp_block (d05 j f x h1 h fun b g r t=>?_);split at hp<;>cases hp
   ·rename_i he;have:=Ex.n0S he
    simp_all[Ex.out,Exit.inBlock]
   ·rename_i he;cases e with
    |nrm=>exact d b g r t
    |ret=>exact d b g r t
    |ex i=>
     have:i≠id:=by rintro rfl;simp[Ex.eq]at he
     simp_all[Ex.out,Exit.inBlock]
  |exit id=>
   obtain⟨rfl,rfl⟩:=hp;exact wp_exit (d a h rfl rfl)
  |ret=>
   obtain⟨rfl,rfl⟩:=hp;exact wp_ret (d a h rfl rfl)
  |_=>grind [b0a]
def w00 (k:G2 E){g:Nat}{args:List (V E.D)}{v:V E.D}{us:List Value}(hp:k06 E g args s=some v)(h:Rp E A s ρ S a as w)(p:VT E ρ s.nid w.heap S args us):
  Calls E.P g us.toArray w (fun e w1=>∃u,e=.returned u/\w1=w/\VS E ρ s.nid w.heap S v u):=by
 unfold k06 at hp;split at hp<;>try cases hp
 rename_i fn body d;obtain⟨b,o⟩:=u0q d;split at hp<;>try cases hp
 rename_i e t hn c;rw[Nat.ble_eq]at hn;split at hp<;>try cases hp
 rename_i f;refine calls_of_wp b o ?_;refine d05 k _ body c (h.enter p hn) fun j m r q=>?_;obtain⟨u,h1,n⟩:=z0D k m hp;have fin:j.defers=[]/\∃l,(results fn j.tmps).run E.P w=.ok l w/\∃u,Ending.returned l=.returned u/\w=w/\VS E ρ s.nid w.heap S v u:=⟨m.fr.defers,u,n,u,rfl,rfl,by simp_all⟩
 cases e with
 |nrm=>exact fin
 |ret=>exact fin
 |ex i=>cases f
theorem t09 (hE:G2 E){C:P3 E}{inl:Inl E}(hi:e0J E inl)(hs:e0q E C){R:Type}{k:K E R}{r:R}{o:Oper}(hk:opV E C inl s o k=some r)(h:Rp E A s ρ S a as w){K:Act->World->Prop}{Q:Exit->Act->World->Prop}
  (hK:∀s1 v u ρ1 S1 w1,k s1 v=some r->Rp E A s1 ρ1 S1 a as w1->VS E ρ1 s1.nid w1.heap S1 v u->Ext s s1->s1.fr=s.fr->(c0e E C s o=true->∀k,k<w.heap.size->(∀q,q<s.nid->E2 (G0 s q)=true->c7 s s1 q=true->¬Bk (ρ q) k)->w1.heap[k]?=w.heap[k]?)->K (a.put o.dst u) w1):o.wp E.P a w K Q:=by
 have hq:=s0p hE h o;have b3:l6 E s S w (e0D E s ρ o) w:=⟨⟨S,Y0.refl _ _⟩,fun _ _ _=>rfl⟩
 unfold opV at hk;split at hk
 ·rename_i b v1 v2 ht;obtain⟨u,h1,j⟩:=G0y h ht;have kk:∀{v},VS E ρ s.nid w.heap S v u->k s v=some r->o.wp E.P a w K Q:=fun hv c3=>by
   simp only[Oper.wp,h1 w,Oper.upon];exact hK s _ u ρ S w c3 h hv (Ext.refl s) rfl (fun _ _ _ _=>rfl)
  rcases j with j|⟨rfl,j⟩
  ·grind [r0s]
  grind [r0s]
 have e6:evE E C.tb s o k=some r->o.wp E.P a w K Q:=by
  intro hk;obtain⟨s1,v,u,w1,h1,⟨⟨ρ1,S1,j,p,_⟩,m,n,h7⟩,y⟩:=N0H hE h hk;have:=hK s1 v u ρ1 S1 w1 h1 j p m n (fun _=>h7);rcases y with y|⟨rfl,y⟩
  ·simp_all[Oper.wp,Oper.upon]
  simp_all[Oper.wp,Oper.upon]
 split at hk
 ·rename_i v hv;rw[hv]at hq;obtain⟨u,h1,j⟩:=hq;simp only[Oper.wp,j w b3,Oper.upon];exact hK s v u ρ S w hk h h1 (Ext.refl s) rfl (fun _ _ _ _=>rfl)
 ·rename_i b v hv;rw[hv]at hq;split at hk<;>try cases hk
  rename_i hb;obtain⟨u,h1,j⟩:=hq hb;simp only[Oper.wp,j w b3,Oper.upon];exact hK s v u ρ S w hk h h1 (Ext.refl s) rfl (fun _ _ _ _=>rfl)
 ·split at hk
  ·rename_i q i f hb;obtain⟨h1,u,ρ1,j,p,m,n⟩:=w0c h hb;simp only[Oper.wp,n w ⟨⟨S,Y0.refl _ _⟩,fun _ _ _=>rfl⟩,Oper.upon];exact hK _ _ u ρ1 S w hk j m (Ext.new s _) rfl (fun _ _ _ _=>rfl)
  split at hk
  ·rename_i c ho;split at hk
   ·exact e6 hk
   ·rename_i f hc;split at hk<;>try cases hk
    rename_i g caps hf;split at hk<;>try cases hk
    rename_i x;have a1:=h.val f;rw[hf]at a1;obtain⟨c0,b2,J⟩:=a1;unfold VC at b2;obtain⟨us,rfl,c8⟩:=b2;have J:a.eval f=.func (.func g) #[] us.toArray:=J;have d:=(VT.of h c.args.toList).app c8;have key:Calls E.P g (c.args.toList.map a.eval++us).toArray w (fun e w1=>∃v,e=.returned v/\∃s1 V ρ1 S1,k s1 V=some r/\Rp E A s1 ρ1 S1 a as w1/\VS E ρ1 s1.nid w1.heap S1 V v/\Ext s s1/\s1.fr=s.fr/\(c0e E C s o=true->∀k,k<w.heap.size->(∀q,q<s.nid->E2 (G0 s q)=true->c7 s s1 q=true->¬Bk (ρ q) k)->w1.heap[k]?=w.heap[k]?)):=by
     unfold m03 at hk;split at hk
     ·rename_i sm hl;refine(hs g _ s sm hl _ k r hk A ρ S a as w _ h d).mono ?_
      rintro e w1 ⟨v,rfl,s1,V,ρ1,S1,h1,j,p,m,n,y⟩
      exact⟨v,rfl,s1,V,ρ1,S1,h1,j,p,m,n,fun _=>y⟩
     ·rename_i hl;split at hk
      ·rename_i v z;refine(w00 hE z h d).mono ?_
       rintro e w1 ⟨u,rfl,rfl,h1⟩
       exact⟨u,rfl,s,v,ρ,S,hk,h,h1,Ext.refl s,rfl,fun _ _ _ _=>rfl⟩
      rename_i z;have U:c0e E C s o=false:=by
       unfold c0e;rw[ho];simp only[hc];rw[hf];simp[hl,z]
      refine(hi _ g _ s k r hk A ρ S a as w _ h d).mono ?_
      rintro e w1 ⟨v,rfl,s1,V,ρ1,S1,h1,j,p,m,n⟩
      exact⟨v,rfl,s1,V,ρ1,S1,h1,j,p,m,n,fun e=>by rw[U]at e;cases e⟩
    have t:(execOp a.eval o).run E.P w=.ok (.enter g (c.args.toList.map a.eval++us).toArray) w:=by
     have e:c.args.map a.eval++us.toArray=(c.args.toList.map a.eval++us).toArray:=by
      apply Array.ext';simp
     simp[execOp,ho,resolve,hc,Deferred.ofValue,J,invoke];rw[e];simpa using z0v x _ w
    simp only[Oper.wp,t,Oper.upon];refine key.mono ?_
    rintro e w1 ⟨v,rfl,s1,V,ρ1,S1,h1,j,p,m,n,y⟩
    exact hK s1 V v ρ1 S1 w1 h1 j p m n y
   ·rename_i recv name hc;split at hk<;>try cases hk
    rename_i T v0 e5;split at hk<;>try cases hk
    rename_i g v hm;split at hk<;>try cases hk
    rename_i x;have b4:=h.val recv;rw[e5]at b4;obtain⟨u0,c5,c4⟩:=b4.n0s;obtain⟨I,e1,b1⟩:=M0B hE h c4 hm;have d:VT E ρ s.nid w.heap S (v :: c.args.toList.map (T1 E s)) (I :: c.args.toList.map a.eval):=VT.app (VT.map (l:=[()]) (f:=fun _=>v) (g:=fun _=>I) fun _ _=>e1) (VT.of h c.args.toList);have U:c0e E C s o=false:=by
     unfold c0e;rw[ho];simp only[hc]
    have key:Calls E.P g (I :: c.args.toList.map a.eval).toArray w (fun e w1=>∃v,e=.returned v/\∃s1 V ρ1 S1,k s1 V=some r/\Rp E A s1 ρ1 S1 a as w1/\VS E ρ1 s1.nid w1.heap S1 V v/\Ext s s1/\s1.fr=s.fr/\(c0e E C s o=true->∀k,k<w.heap.size->(∀q,q<s.nid->E2 (G0 s q)=true->c7 s s1 q=true->¬Bk (ρ q) k)->w1.heap[k]?=w.heap[k]?)):=by
     unfold m03 at hk;split at hk
     ·rename_i sm hl;refine(hs g _ s sm hl _ k r hk A ρ S a as w _ h d).mono ?_
      rintro e w1 ⟨v,rfl,s1,V,ρ1,S1,h1,j,p,m,n,y⟩
      exact⟨v,rfl,s1,V,ρ1,S1,h1,j,p,m,n,fun _=>y⟩
     ·split at hk
      ·rename_i v z;refine(w00 hE z h d).mono ?_
       rintro e w1 ⟨u,rfl,rfl,h1⟩
       exact⟨u,rfl,s,v,ρ,S,hk,h,h1,Ext.refl s,rfl,fun _ _ _ _=>rfl⟩
      refine(hi _ g _ s k r hk A ρ S a as w _ h d).mono ?_
      rintro e w1 ⟨v,rfl,s1,V,ρ1,S1,h1,j,p,m,n⟩
      exact⟨v,rfl,s1,V,ρ1,S1,h1,j,p,m,n,fun e=>by rw[U]at e;cases e⟩
    have t:(execOp a.eval o).run E.P w=.ok (.enter g (I :: c.args.toList.map a.eval).toArray) w:=by
     have e4:(method (E.P.types.size+Made.depth) T u0 name).run E.P w=.ok (g,I) w:=b1 (E.P.types.size+99);have c6:=z0v x (I :: c.args.toList.map a.eval).toArray w;simp[execOp,ho,resolve,hc,c5,invoke,callMethod];have e0:(#[Value.iface T u0]++Array.map a.eval c.args)[0]?=some (Value.iface T u0):=by rw[Array.getElem?_append_left V'];rfl
     rw[e0];simp[e4];have e2:(Array.map a.eval c.args).extract 0 c.args.size=Array.map a.eval c.args:=by apply Array.ext';simp[List.take_of_length_le]
     rw[e2];have e3:(#[I]++Array.map a.eval c.args:Array Value)=(I :: c.args.toList.map a.eval).toArray:=by
      apply Array.ext';simp
     rw[e3];simpa using c6
    simp only[Oper.wp,t,Oper.upon];refine key.mono ?_
    rintro e w1 ⟨v,rfl,s1,V,ρ1,S1,h1,j,p,m,n,y⟩
    exact hK s1 V v ρ1 S1 w1 h1 j p m n y
  simp_all
theorem e0M (x:G2 E){C:P3 E}{inl:Inl E}(hi:e0J E inl)(hs:e0q E C){ops:Array Oper}:∀(f:Nat) {R:Type} (cs:List (Nat×Nat×Cut)) (i stop:Nat) (l:List Oper) (s:St E.D) (k:St E.D->Option R) (r:R),evs E C inl ops f cs i stop l s k=some r->i<=stop->
  ∀(ρ:Nat->Value) (S:E0) (a:Act) (w:World),Rp E A s ρ S a as w->∀(Q:Exit->Act->World->Prop),(∀j ρ' q m w',k j=some r->Rp E A j ρ' q m as w'->Ext s j->wpList E.P ops Q (l.drop (stop-i)) m w')->wpList E.P ops Q l a w
 |0,R,cs,i,stop,l,s,k,r,hk,_=>by grind [evs]
 |f+1,R,cs,i,stop,l,s,k,r,hk,hle=>by
  intro ρ S a w h Q z;simp only[evs]at hk;split at hk
  ·rename_i he;rw[Nat.beq_eq]at he;have:=z s ρ S a w hk h (Ext.refl s)
   simp_all
  ·rename_i J;have J:i≠stop:=by rintro rfl;simp at J
   split at hk
   ·rename_i b c r' c5;split at hk<;>try cases hk
    rename_i I;rw[Bool.and_eq_true,Nat.ble_eq,Nat.blt_eq]at I;obtain⟨d,hd,hk⟩:=c0p hk;refine e0M x hi hs f _ i (b+1) l s _ d hd O' ρ S a w h Q fun j ρ' q m w' hp t he=>?_;obtain⟨u,ρ1,S1,h1,h2,h3,_⟩:=d0T x (fun i u ha=>(h.hp i u ha).1) h t he hp hk;refine e0M x hi hs f _ (b+1) stop _ u _ r h1 O' ρ1 S1 m w' h2 Q fun b2 ρ'' a1 c3 b1 c4 b4 U=>?_;have:=z b2 ρ'' a1 c3 b1 c4 b4 (h3.trans U)
    grind [List.drop_drop]
   ·split at hk<;>try cases hk
    rename_i o l';split at hk<;>try cases hk
    rename_i y;obtain⟨g1,g2,g3⟩:=g0X h (ops:=ops) (o:=o);have p:(o :: l').drop (stop-i)=l'.drop (stop-(i+1)):=by
     rw[show stop-i=(stop-(i+1))+1 from O',List.drop_succ_cons]
    rw[p]at z;split at hk
    ·cases hk
    ·rename_i hg;unfold wpList;rw[if_pos (g1 hg)];refine .inl (t09 x hi hs hk h fun s1 v u ρ1 S1 w1 b3 h1 hv he c6 _=>?_);refine e0M x hi hs f cs (i+1) stop l' _ k r b3 O' ρ1 S1 _ w1 (h1.f0H y he.n hv) Q fun j ρ' q m w' g t e=>?_;exact z j ρ' q m w' g t ((he.trans (Ext.put s1 o.dst v)).trans e)
    ·rename_i hg;unfold wpList;rw[g2 hg];simp only[Bool.false_eq_true,if_false];refine e0M x hi hs f cs (i+1) stop l' _ k r hk O' ρ S _ w (h.f0H y rfl VS.unit) Q fun j ρ' q m w' g t e=>?_;exact z j ρ' q m w' g t ((Ext.put s o.dst _).trans e)
    ·rename_i d b hg;have hv:=g3 d b hg;rw[<-p]at z;split at hk
     ·rename_i I;subst I;exact e0M x hi hs f cs i stop (o :: l') _ k r hk hle ρ S a w (h.o0J (by simp_all[VS.kb])) Q fun j ρ' q m w' g t e=>z j ρ' q m w' g t ((Ext.put s (some d) _).trans e)
     ·rename_i I;have I:b=false:=by simp_all
      subst I;exact e0M x hi hs f cs i stop (o :: l') _ k r hk hle ρ S a w (h.o0J (by simp_all[VS.kb])) Q fun j ρ' q m w' g t e=>z j ρ' q m w' g t ((Ext.put s (some d) _).trans e)
end
