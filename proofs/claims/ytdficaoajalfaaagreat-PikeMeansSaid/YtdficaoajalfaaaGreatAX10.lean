/- Regions: sound. Its conditions: none. -/
import Derived.Test.YtdficaoajalfaaaGreatAX9
set_option linter.all false
namespace Go.X
open Go.V Go.RowKit
section
variable {E:Env} {A:O4} {s:St E.D} {ρ:Nat->Value} {S:D0} {a:Act} {as:List Act} {w:World}
def r0p (E:Env) (A:O4) (s:St E.D) (a:Act) (as:List Act) {R:Type} (k:K E R) (r:R) (e:Ending) (w1:World):Prop:=
 ∃ v,e=.returned v/\∃ s1 V ρ1 S1,k s1 V=some r/\Rp E A s1 ρ1 S1 a as w1/\VS E ρ1 s1.nid w1.heap S1 V v/\Ext s s1/\s1.fr=s.fr
def k0K (E:Env) (A:O4) (s:St E.D) (ρ:Nat->Value) (a:Act) (as:List Act) (w:World) {R:Type} (k:K E R) (r:R) (e:Ending) (w1:World):Prop:=
 ∃ v,e=.returned v/\∃ s1 V ρ1 S1,k s1 V=some r/\Rp E A s1 ρ1 S1 a as w1/\VS E ρ1 s1.nid w1.heap S1 V v/\Ext s s1/\s1.fr=s.fr/\(∀ k,k<w.heap.size->(∀ q,q<s.nid->P1 (E0 s q)=true->Z6 s s1 q=true->¬ Bk (ρ q) k)->w1.heap[k]?=w.heap[k]?)
def e0v (E:Env) (inl:Inl E):Prop:=∀ (R:Type) (g:Nat) (args:List (V E.D)) (s:St E.D) (k:K E R) (r:R),inl g args s k=some r->∀ (A:O4) (ρ:Nat->Value) (S:D0) (a:Act) (as:List Act) (w:World) (us:List Value),
 Rp E A s ρ S a as w->VT E ρ s.nid w.heap S args us->Calls E.P g us.toArray w (r0p E A s a as k r)
def d0x (E:Env) (C:D4 E):Prop:=∀ (g:Nat) (args:List (V E.D)) (s:St E.D) (c:Sm E.D),e0G E s args C.sm g=some c->∀ (R:Type) (k:K E R) (r:R),j0r E s c args k=some r->∀ (A:O4) (ρ:Nat->Value) (S:D0) (a:Act) (as:List Act) (w:World) (us:List Value),
 Rp E A s ρ S a as w->VT E ρ s.nid w.heap S args us->Calls E.P g us.toArray w (k0K E A s ρ a as w k r)
theorem B0B {g:Nat} (h:k0t E g=true):∃ fn,E.P.funcs[g]?=some fn/\fn.body.isSome=true/\(fn.name== "runtime.NumGoroutine")=false:=by
 unfold k0t at h;split at h
 ·rename_i fn hf;simp only [Bool.and_eq_true,Bool.not_eq_true'] at h;exact ⟨fn,hf,h.1,h.2⟩
 ·cases h
theorem A0e {g:Nat} (h:k0t E g=true) (args:Array Value) (w:World):(callFunc g args).run E.P w=.ok (.enter g args) w:=by
 obtain ⟨fn,h1,h2,h3⟩:=B0B h;have h4:fn.body≠none:=by cases hb:fn.body<;>simp_all
 have h5:fn.name≠ "runtime.NumGoroutine":=by simpa using h3
 simp [callFunc,h1,h4,h5]
theorem A0F (h:Rp E A s ρ S a as w) {T:Nat} {p:V E.D} {up:Value} (hp:VS E ρ s.nid w.heap S p up) {q f:Nat} {i:Int} (hb:n0A E s T p=some (q,i,f)) :
  (d0Z s p=true/\rdP s p=none)/\∃ u ρ1,Rp E A (s.new (.rof q i f)) ρ1 S a as w/\(∀ j,j<s.nid->hd (ρ1 j)=hd (ρ j))/\VS E ρ1 (s.nid+1) w.heap S (.sl s.nid) u/\∀ w',K8 E s S w (fun _=>True) w'->(Instr.loadAt T up).run E.P w'=.ok u w':=by
 unfold n0A at hb;split at hb
 rotate_left
 ·cases hb
 rename_i id k z qq;obtain ⟨hid,hok,b,o,m,c,hr,⟨h0,h1⟩,hu⟩:=hp.c05;split at hb<;>try cases hb
 rename_i e F t xs htab;split at hb<;>try cases hb
 rename_i ff hag hsz hix;split at hb<;>try cases hb
 rename_i hz;rw [Bool.and_eq_true,Nat.beq_eq,Nat.blt_eq] at hz;obtain ⟨rfl,hf⟩:=hz;have hl:=d0U htab;have ht:=h.th q;rw [hl] at ht;obtain ⟨cs,ht⟩:=ht;obtain ⟨hszF,_⟩:=d0v ht.ok;have hoff:=u0k ht.ok hix hf;have hrow:=ht.row;rw [hr] at hrow;obtain ⟨rfl,hbl,_,hcell⟩:=Row.cell hrow (by omega);have hp0:rowAt F i.toNat f<cs.length:=by
  rw [ht.sz];unfold rowAt;have:i.toNat*F.length+F.length<=xs.length*F.length:=by rw [<-Nat.succ_mul];exact Nat.mul_le_mul_right _ (by omega)
  omega
 have hlt:rowAt F i.toNat f<xs.length*(J0 E t).sz:=by rw [<-ht.row.1];exact hp0
 have hget:∀ H':K0,H'[b]?=w.heap[b]?->U2 H' b (o+rowAt F i.toNat f)=some cs[rowAt F i.toNat f]:=fun H' hH=>by
  rw [hcell H' hH _ hlt,List.getElem?_eq_getElem hp0]
 have hone:=ht.one _ (List.getElem_mem hp0);refine ⟨⟨by simp only [d0Z];rw [hl];rfl,by simp only [rdP];rw [hl]⟩,cs[rowAt F i.toNat f],M6 ρ s.nid cs[rowAt F i.toNat f],h.r0N (fun _ _ e=>by cases e) ⟨Nat.lt_succ_of_lt hid,hone,(d0T hone).1⟩ (fun q' i' f' e=>?_),fun j hj=>by rw [G5 (by omega)],?_,fun w' hw=>?_⟩
 ·cases e;refine ⟨hid,fun e2 F2 t2 xs2 hl2=>?_⟩;rw [hl] at hl2;cases hl2;exact ⟨b,o,_,c,hr,⟨h0,h1⟩,hf,hget w.heap rfl⟩
 ·exact VS.of rfl (by unfold VC;rw [I5,(d0T hone).1];exact ⟨Nat.lt_succ_self _,hone,rfl⟩)
 ·have hH:=hw.2 b trivial hbl;have:=u0l (T:=T) (b:=b) (o:=o+rowAt F i.toNat f) hag hsz (c:=[cs[rowAt F i.toNat f]]) rfl (fun _=>rfl) (w:=w') (fun j v hj=>by
   cases j with
   |zero=>simp at hj;subst hj;exact hget w'.heap hH
   |succ j=>simp at hj)
  rw [hu];have e3:o+i.toNat*X2 E t+M4 qq=o+rowAt F i.toNat f:=by
   rw [hoff];unfold rowAt;rw [show X2 E t=F.length from hszF];omega
  rw [e3];simp [Instr.loadAt,Instr.sureAddr,this,H4]
theorem t0V (h:Rp E A s ρ S a as w) {o:Oper} {q f:Nat} {i:Int} (hb:j0o E s o=some (q,i,f)) :
  (A9 E s o=true/\D9 E s o=none)/\∃ u ρ1,Rp E A (s.new (.rof q i f)) ρ1 S a as w/\(∀ j,j<s.nid->hd (ρ1 j)=hd (ρ j))/\VS E ρ1 (s.nid+1) w.heap S (.sl s.nid) u/\∀ w',K8 E s S w (fun _=>True) w'->(execOp a.eval o).run E.P w'=.ok (.value u) w':=by
 unfold j0o at hb;split at hb<;>try cases hb
 rename_i T x ho;obtain ⟨h1,u,ρ1,h2,h3,h4,h5⟩:=A0F h (h.val x) hb;exact ⟨⟨by unfold A9;rw [ho];exact h1.1,by unfold D9;rw [ho];exact h1.2⟩,u,ρ1,h2,h3,h4,fun w' hw=>by simp [execOp,ho,h5 w' hw]⟩
theorem o00 {α:Type} {a b:Option α} {r:α} (h:same a b=some r):a=some r/\b=some r:=by
 unfold same at h;split at h
 ·rename_i e;exact ⟨h,e▸h⟩
 ·cases h
theorem D0l (h:Rp E A s ρ S a as w) {tb:List Nat} {o:Oper} {b:Bool} {v1 v2:V E.D} (ht:n0P E tb s o=some (b,v1,v2)):∃ u,(∀ w',(execOp a.eval o).run E.P w'=.ok (.value u) w')/\(VS E ρ s.nid w.heap S v2 u\/(b=true/\VS E ρ s.nid w.heap S v1 u)):=by
 unfold n0P at ht;split at ht<;>try cases ht
 unfold r0S at ht;split at ht<;>try cases ht
 rename_i op T x y T2 ho;split at ht<;>try cases ht
 rename_i t xs pos hx hy hk hpos;obtain ⟨k1,k2,k3,k4⟩:=i0Z (E:=E) (T:=T);obtain ⟨e,hT⟩:=k3 hk;have ha:=h.val x;have hb:=h.val y;rw [hx] at ha;rw [hy] at hb;have hn:=hb.b0n;obtain ⟨A',c,hfx,hsl⟩:=ha.f04;have fin:∀ {q:Bool},(∀ w':World,(Op.equal T (a.eval x) (a.eval y)).run E.P w'=.ok q w')->s8 E op T (a.eval x) (a.eval y)->∀ w',(execOp a.eval o).run E.P w'=.ok (.value (.bool (sgn pos q))) w':=by
  intro q heq hg w';have h1:(binOp op T (a.eval x) (a.eval y)).run E.P w'=.ok (.bool (sgn pos q)) w':=b0F hpos (by rw [hfx];simp) (by rw [hfx];simp) (by rw [hfx];simp) (by rw [hfx];simp) (heq w');have h2:=hg x y w';simp [execOp,ho,h1,h2]
 have hg:s8 E op T (a.eval x) (a.eval y):=by rw [hfx,hn];exact s8.of (by cases A'<;>simp [a0W])
 cases A' with
 |
  none=>
  have h0:xs=[]:=by
   cases xs with
   |nil=>rfl
   |cons y ys=>obtain ⟨b,o,h,_⟩:=hsl.2.1 (by simp);cases h
  subst h0;refine ⟨_,fin (q:=true) (fun w'=>?_) hg,.inr ⟨rfl,VS.Q6⟩⟩;rw [hfx,hn];unfold Op.equal Op.maxDepth Op.equalIn;simp [run_underlying hT]
 |
  some ad=>
  refine ⟨_,fin (q:=false) (fun w'=>?_) hg,.inl VS.Q6⟩;rw [hfx,hn];unfold Op.equal Op.maxDepth Op.equalIn;simp [run_underlying hT]
theorem f0W (h:Rp E A s ρ S a as w) {ops:Array Oper} {o:Oper}:(a0E E s ops o=.yes->Region.wanted o (yielded ops a.tmps)=true)/\(a0E E s ops o=.no->Region.wanted o (yielded ops a.tmps)=false)/\
  (∀ d b,a0E E s ops o=.ask d b->a.tmps.getD d undef=.bool b):=by
 unfold a0E Region.wanted;cases hg:o.guard with
 |none=>simp
 |
  some jw=>
  obtain ⟨j,want⟩:=jw;simp only;cases ho:ops[j]? with
  |none=>simp
  |
   some g=>
   simp only;cases hd:g.dst with
   |none=>simp
   |
    some d=>
    simp only;cases hl:Q4 s.fr d with
    |none=>simp
    |
     some v=>
     have hv:=h.get hl;have hy:∀ x,a.tmps.getD d undef=.bool x->yielded ops a.tmps j=some x:=by
      intro x hx;unfold yielded;simp only [ho,Option.bind_some,hd];have:a.tmps[d]?=some (.bool x):=by
       rw [Array.getD_eq_getD_getElem?] at hx;cases hh:a.tmps[d]? with
       |none=>rw [hh] at hx;simp [undef] at hx
       |some y=>rw [hh] at hx;simp at hx;rw [hx]
      rw [this]
     split
     ·rename_i b hb;cases hb;have hx:=P8 (x:=b) rfl hv;rw [hy b hx];cases b<;>cases want<;>simp
     ·rename_i hb;cases hb;obtain ⟨us,hu,hvt⟩:=hv.s0a;unfold VT at hvt;subst hvt;have:yielded ops a.tmps j≠some want:=by
       unfold yielded;simp only [ho,Option.bind_some,hd];rw [Array.getD_eq_getD_getElem?] at hu;cases hh:a.tmps[d]? with
       |none=>simp
       |some y=>rw [hh] at hu;simp at hu;subst hu;simp
      simp [this]
     ·rename_i v' hv1 hv2 e;cases e;split
      ·rename_i b hb;simp only [Gt.ask.injEq,reduceCtorEq,false_implies,true_and]
       rintro d' b' ⟨rfl,rfl⟩
       exact P8 hb hv
      ·simp
     ·simp
theorem Rp.o0y (h:Rp E A s ρ S a as w) {d:Nat} {v:V E.D} (hv:VS E ρ s.nid w.heap S v (a.tmps.getD d undef)):Rp E A (s.put (some d) v) ρ S a as w:=by
 refine ⟨h.cx,⟨h.fr.size,h.fr.defers,fun t x hl=>?_⟩,h.stk,h.th,h.ow,h.dj,h.lt,h.rf,h.kp,h.hp⟩;simp only [St.put,a0q] at hl;split at hl
 ·rename_i e;simp only [Option.some.injEq] at hl;subst e;subst hl;exact hv
 ·exact h.fr.slot t x hl
theorem Rp.d0K {s1:St E.D} {ρ1:Nat->Value} {S1:D0} {w1:World} (h:Rp E A s1 ρ1 S1 a as w1) {n:Nat} {o:Oper} (hd:b0M n o=true) (hn:s1.n=n) {v:V E.D} {u:Value} (hv:VS E ρ1 s1.nid w1.heap S1 v u):Rp E A (s1.put o.dst v) ρ1 S1 (a.put o.dst u) as w1:=
 h.put (by rw [hn];exact hd) hv
def Ex.out:Ex->Exit
 |.nrm=>.normal
 |.ex i=>.exit i
 |.ret=>.ret
theorem A07 (hE:Q1 E) {A:O4} (h:Rp E A s ρ S a as w) {r:ResultVar} {v:V E.D} (hr:k0e E s r=some v):∃ u,VS E ρ s.nid w.heap S v u/\(S8 a.tmps r).run E.P w=.ok u w:=by
 cases r with
 |
  tmp t=>
  simp only [k0e,Option.some.injEq] at hr;subst hr;exact ⟨_,h.b0R t,by simp [S8]⟩
 |
  cell q T=>
  simp only [k0e] at hr;split at hr<;>try cases hr
  rename_i v' hl;have:=u0G hE h (T:=T) (h.b0R q);rw [hl] at this;obtain ⟨u,h1,h2⟩:=this;have h3:=h2 w ⟨⟨S,U0.refl _ _⟩,fun _ _ _=>rfl⟩;refine ⟨u,h1,?_⟩;unfold Instr.loadAt at h3;cases hq:a.tmps.getD q undef<;>rw [hq] at h3<;>simp [Instr.sureAddr] at h3
  rename_i ad;cases ad with
  |none=>simp [Instr.sureAddr] at h3
  |
   some ad=>
   simp [Instr.sureAddr] at h3;simp only [S8,hq];simp [asAddr,h3]
theorem p0b (hE:Q1 E) {A:O4} (h:Rp E A s ρ S a as w):∀ {l:List ResultVar} {vs:List (V E.D)},g0E E s l=some vs->∃ us,VT E ρ s.nid w.heap S vs us/\us.length=l.length/\(l.mapM (S8 a.tmps)).run E.P w=.ok us w
 |
  [],vs,hr=>by
  simp only [g0E,Option.some.injEq] at hr;subst hr;exact ⟨[],by unfold VT;rfl,rfl,by simp⟩
 |
  x :: l,vs,hr=>by
  simp only [g0E] at hr;split at hr<;>try cases hr
  rename_i v vs' h1 h2;obtain ⟨u,⟨c,hc,hu⟩,hrun⟩:=A07 hE h h1;obtain ⟨us,hvt,hl,hruns⟩:=p0b hE h h2;exact ⟨u :: us,by unfold VT;exact ⟨c,us,hc,by rw [hu],hvt⟩,by simp [hl],by simp [List.mapM_cons,hrun,hruns]⟩
theorem s0H (hE:Q1 E) {A:O4} (h:Rp E A s ρ S a as w) {fn:Func} {v:V E.D} (hr:result E s fn=some v):∃ u,VS E ρ s.nid w.heap S v u/\(results fn a.tmps).run E.P w=.ok u w:=by
 have hres:∀ us:List Value,(fn.results.toList.mapM (S8 a.tmps)).run E.P w=.ok us w->(results fn a.tmps).run E.P w=.ok (if h:us.toArray.size=1 then us.toArray[0] else .tuple us.toArray) w:=by
  intro us hus;have:results fn a.tmps=(do let vs <-fn.results.mapM (S8 a.tmps);pure (if h:vs.size=1 then vs[0] else .tuple vs)):=by
   unfold results;congr 1
  rw [this];have e:fn.results.mapM (S8 a.tmps)=(fun l=>l.toArray) <$> fn.results.toList.mapM (S8 a.tmps):=by
   rw [<-Array.mapM_eq_mapM_toList]
  rw [e];simp [hus]
 unfold result at hr;split at hr<;>try cases hr
 ·rename_i v' hv;obtain ⟨us,hvt,hl,hrun⟩:=p0b hE h hv;unfold VT at hvt;obtain ⟨c,us',hc,rfl,hvt⟩:=hvt;unfold VT at hvt;subst hvt;exact ⟨_,⟨c,hc,rfl⟩,by rw [hres _ hrun];simp⟩
 ·rename_i l hne hv;obtain ⟨us,hvt,hl,hrun⟩:=p0b hE h hv;refine ⟨.tuple us.toArray,VS.of rfl (by unfold VC;exact ⟨us,rfl,hvt⟩),?_⟩;rw [hres _ hrun];have:us.toArray.size≠1:=by
   intro h1
   match l,us,hvt,h1 with
   |[],[],_,h1=>simp at h1
   |[v],_,_,_=>exact hne v rfl
   |[],u :: us,hvt,_=>unfold VT at hvt;simp at hvt
   |v :: v2 :: l,[],hvt,h1=>simp at h1
   |
    v :: v2 :: l,[u],hvt,_=>
    unfold VT at hvt;obtain ⟨c,us',_,h3,h4⟩:=hvt;simp at h3;obtain ⟨_,rfl⟩:=h3;unfold VT at h4;obtain ⟨_,_,_,h5,_⟩:=h4;cases h5
   |v :: v2 :: l,u :: u2 :: us,_,h1=>simp at h1
  rw [dif_neg this]
theorem n0p {n:Nat} {H:K0}:∀ {args:List (V E.D)} {us:List Value},VT E ρ n H S args us->∀ (i t:Nat) (v:V E.D),Q4 (G9 args i) t=some v->∃ u,us[t-i]?=some u/\i<=t/\VS E ρ n H S v u
 |[],us,h,i,t,v,hl=>by simp [G9,Q4] at hl
 |
  x :: args,us,h,i,t,v,hl=>by
  unfold VT at h;obtain ⟨c,us',h1,rfl,h2⟩:=h;simp only [G9,a0q] at hl;split at hl
  ·rename_i e;simp only [Option.some.injEq] at hl;subst e;subst hl;exact ⟨_,by rw [Nat.sub_self];rfl,Nat.le_refl _,c,h1,rfl⟩
  ·obtain ⟨u,k1,k2,k3⟩:=n0p h2 (i+1) t v hl;refine ⟨u,?_,by omega,k3⟩;rw [show t-i=(t-(i+1))+1 from by omega];simpa using k1
theorem VT.length {n:Nat} {H:K0}:∀ {l:List (V E.D)} {us:List Value},VT E ρ n H S l us->us.length=l.length
 |[],us,h=>by unfold VT at h;subst h;rfl
 |
  v :: l,us,h=>by
  unfold VT at h;obtain ⟨c,u,_,rfl,h2⟩:=h;simp [VT.length h2]
theorem Rp.enter {A:O4} (h:Rp E A s ρ S a as w) {args:List (V E.D)} {us:List Value} (hv:VT E ρ s.nid w.heap S args us) {m:Nat} (hm:args.length<=m) :
  Rp E A { s with n:=m,fr:=G9 args 0,stk:=(s.n,s.fr) :: s.stk } ρ S { tmps:=us.toArray++Array.replicate (m-us.toArray.size) undef,defers:=[] } (a :: as) w:=by
 have hl:=hv.length;refine ⟨h.cx,⟨by simp;omega,rfl,fun t v ht=>?_⟩,⟨h.fr,h.stk⟩,h.th,h.ow,h.dj,h.lt,h.rf,h.kp,h.hp⟩;obtain ⟨u,h1,_,h3⟩:=n0p hv 0 t v ht;rw [Nat.sub_zero] at h1;have hlt:t<us.length:=(List.getElem?_eq_some_iff.1 h1).1;have:(us.toArray++Array.replicate (m-us.toArray.size) undef).getD t undef=u:=by
  rw [Array.getD_eq_getD_getElem?,Array.getElem?_append_left (by simpa using hlt)];simp [h1]
 rw [this];exact h3
theorem r0F {g:Nat} {fn:Func} {c:Code} (h:e0P E g=some (fn,c)):E.P.funcs[g]?=some fn/\fn.body=some c:=by
 unfold e0P at h;split at h<;>try cases h
 rename_i fn' hf;split at h<;>try cases h
 rename_i b hb;exact ⟨hf,hb⟩
theorem m05 (hE:Q1 E) {ops:Array Oper} {Q:Exit->Act->World->Prop}:∀ (l:List Oper) {s s':St E.D} {a:Act},f0K E ops l s=some s'->Rp E A s ρ S a as w->
  (∀ a',Rp E A s' ρ S a' as w->s'.nid=s.nid->s'.stk=s.stk->Q .normal a' w)->wpList E.P ops Q l a w
 |
  [],s,s',a,hp,h,hQ=>by
  simp only [f0K,Option.some.injEq] at hp;subst hp;exact hQ a h rfl rfl
 |
  o :: l,s,s',a,hp,h,hQ=>by
  simp only [f0K] at hp;split at hp<;>try cases hp
  rename_i hdst;obtain ⟨g1,g2,_⟩:=f0W h (ops:=ops) (o:=o);split at hp<;>try cases hp
  ·rename_i hg;split at hp<;>try cases hp
   rename_i v hv;have hq:=n00 hE h o;rw [hv] at hq;obtain ⟨u,h1,h2⟩:=hq;unfold wpList;rw [if_pos (g1 hg)];refine .inl ?_;simp only [Oper.wp,h2 w ⟨⟨S,U0.refl _ _⟩,fun _ _ _=>rfl⟩,Oper.upon];exact m05 hE l hp (h.d0K hdst rfl h1) fun a' h' e1 e2=>hQ a' h' (e1.trans (by cases o.dst<;>rfl)) (e2.trans (by cases o.dst<;>rfl))
  ·rename_i hg;unfold wpList;rw [g2 hg];simp only [Bool.false_eq_true,if_false];exact m05 hE l hp (h.d0K hdst rfl VS.unit) fun a' h' e1 e2=>hQ a' h' (e1.trans (by cases o.dst<;>rfl)) (e2.trans (by cases o.dst<;>rfl))
theorem c03 (hE:Q1 E):∀ (f:Nat) (c:Code) {s s':St E.D} {e:Ex} {a:Act} {Q:Exit->Act->World->Prop},Z8 E f c s=some (e,s')->Rp E A s ρ S a as w->
  (∀ a',Rp E A s' ρ S a' as w->s'.nid=s.nid->s'.stk=s.stk->Q e.out a' w)->c.wp E.P Q a w
 |0,c,s,s',e,a,Q,hp,h,hQ=>by simp [Z8] at hp
 |
  f+1,c,s,s',e,a,Q,hp,h,hQ=>by
  cases c with
  |
   skip=>
   simp only [Z8,Option.some.injEq,Prod.mk.injEq] at hp;obtain ⟨rfl,rfl⟩:=hp;exact wp_skip (hQ a h rfl rfl)
  |
   region id ops draw=>
   simp only [Z8] at hp;split at hp<;>try cases hp
   split at hp<;>try cases hp
   rename_i s1 h1;exact wp_region_list (m05 hE _ h1 h fun a' h' e1 e2=>hQ a' h' e1 e2)
  |
   seq x y=>
   simp only [Z8] at hp;refine wp_seq ?_;split at hp<;>try cases hp
   ·rename_i s1 h1;exact c03 hE f x h1 h fun a' h' e1 e2=>c03 hE f y hp h' fun a'' h'' e3 e4=>hQ a'' h'' (e3.trans e1) (e4.trans e2)
   ·rename_i i h1;exact c03 hE f x h1 h fun a' h' e1 e2=>hQ a' h' e1 e2
   ·rename_i h1;exact c03 hE f x h1 h fun a' h' e1 e2=>hQ a' h' e1 e2
  |
   cond c x y=>
   simp only [Z8] at hp;have hc:=h.val c;split at hp<;>try cases hp
   ·rename_i hv;rw [hv] at hc;exact wp_cond_true (P8 (x:=true) rfl hc) (c03 hE f x hp h hQ)
   ·rename_i hv;rw [hv] at hc;exact wp_cond_false (P8 (x:=false) rfl hc) (c03 hE f y hp h hQ)
  |
   block id x=>
   simp only [Z8] at hp;split at hp<;>try cases hp
   rename_i e1 s1 h1;refine wp_block (c03 hE f x h1 h fun a' h' q1 q2=>?_);split at hp<;>cases hp
   ·rename_i he;have:=Ex.h06 he;subst this;simp only [Ex.out,Exit.inBlock,if_true];exact hQ a' h' q1 q2
   ·rename_i he;cases e with
    |nrm=>exact hQ a' h' q1 q2
    |ret=>exact hQ a' h' q1 q2
    |
     ex i=>
     have:i≠id:=by rintro rfl;simp [Ex.eq] at he
     simp only [Ex.out,Exit.inBlock,if_neg this];exact hQ a' h' q1 q2
  |
   exit id=>
   simp only [Z8,Option.some.injEq,Prod.mk.injEq] at hp;obtain ⟨rfl,rfl⟩:=hp;exact wp_exit (hQ a h rfl rfl)
  |
   ret=>
   simp only [Z8,Option.some.injEq,Prod.mk.injEq] at hp;obtain ⟨rfl,rfl⟩:=hp;exact wp_ret (hQ a h rfl rfl)
  |_=>simp [Z8] at hp
theorem A0U (hE:Q1 E) {g:Nat} {args:List (V E.D)} {v:V E.D} {us:List Value} (hp:i0C E g args s=some v) (h:Rp E A s ρ S a as w) (hv:VT E ρ s.nid w.heap S args us) :
  Calls E.P g us.toArray w (fun e w1=>∃ u,e=.returned u/\w1=w/\VS E ρ s.nid w.heap S v u):=by
 unfold i0C at hp;split at hp<;>try cases hp
 rename_i fn body hbo;obtain ⟨hfn,hb⟩:=r0F hbo;split at hp<;>try cases hp
 rename_i e s' hn hpm;rw [Nat.ble_eq] at hn;split at hp<;>try cases hp
 rename_i hne;refine calls_of_wp hfn hb ?_;refine c03 hE _ body hpm (h.enter hv hn) fun a' h' e1 e2=>?_;obtain ⟨u,h1,h2⟩:=s0H hE h' hp;have fin:a'.defers=[]/\∃ v',(results fn a'.tmps).run E.P w=.ok v' w/\∃ u,Ending.returned v'=.returned u/\w=w/\VS E ρ s.nid w.heap S v u:=⟨h'.fr.defers,u,h2,u,rfl,rfl,by rw [<-show s'.nid=s.nid from e1];exact h1⟩
 cases e with
 |nrm=>exact fin
 |ret=>exact fin
 |ex i=>cases hne
theorem t0z (hE:Q1 E) {C:D4 E} {inl:Inl E} (hi:e0v E inl) (hs:d0x E C) {R:Type} {k:K E R} {r:R} {o:Oper} (hk:opV E C inl s o k=some r) (h:Rp E A s ρ S a as w) {K:Act->World->Prop} {Q:Exit->Act->World->Prop}
  (hK:∀ s1 v u ρ1 S1 w1,k s1 v=some r->Rp E A s1 ρ1 S1 a as w1->VS E ρ1 s1.nid w1.heap S1 v u->Ext s s1->s1.fr=s.fr->(e0V E C s o=true->∀ k,k<w.heap.size->(∀ q,q<s.nid->P1 (E0 s q)=true->Z6 s s1 q=true->¬ Bk (ρ q) k)->w1.heap[k]?=w.heap[k]?)->K (a.put o.dst u) w1):o.wp E.P a w K Q:=by
 have hq:=n00 hE h o;have sim:K8 E s S w (d06 E s ρ o) w:=⟨⟨S,U0.refl _ _⟩,fun _ _ _=>rfl⟩
 unfold opV at hk;split at hk
 ·rename_i b v1 v2 ht;obtain ⟨u,h1,h2⟩:=D0l h ht;have kk:∀ {v},VS E ρ s.nid w.heap S v u->k s v=some r->o.wp E.P a w K Q:=fun hv hkv=>by
   simp only [Oper.wp,h1 w,Oper.upon];exact hK s _ u ρ S w hkv h hv (Ext.refl s) rfl (fun _ _ _ _=>rfl)
  rcases h2 with h2 | ⟨rfl,h2⟩
  ·cases b with
   |true=>exact kk h2 (o00 hk).2
   |false=>exact kk h2 hk
  ·exact kk h2 (o00 hk).1
 have eff:evE E C.tb s o k=some r->o.wp E.P a w K Q:=by
  intro hk;obtain ⟨s1,v,u,w1,h1,⟨⟨ρ1,S1,h2,h3,_⟩,h4,h5,h7⟩,h6⟩:=x0F hE h hk;have:=hK s1 v u ρ1 S1 w1 h1 h2 h3 h4 h5 (fun _=>h7);rcases h6 with h6 | ⟨rfl,h6⟩
  ·simp only [Oper.wp,h6,Oper.upon];exact this
  ·simp only [Oper.wp,h6,Oper.upon];exact this
 split at hk
 ·rename_i v hv;rw [hv] at hq;obtain ⟨u,h1,h2⟩:=hq;simp only [Oper.wp,h2 w sim,Oper.upon];exact hK s v u ρ S w hk h h1 (Ext.refl s) rfl (fun _ _ _ _=>rfl)
 ·rename_i b v hv;rw [hv] at hq;split at hk<;>try cases hk
  rename_i hb;obtain ⟨u,h1,h2⟩:=hq hb;simp only [Oper.wp,h2 w sim,Oper.upon];exact hK s v u ρ S w hk h h1 (Ext.refl s) rfl (fun _ _ _ _=>rfl)
 ·split at hk
  ·rename_i q i f hb;obtain ⟨h1,u,ρ1,h2,h3,h4,h5⟩:=t0V h hb;simp only [Oper.wp,h5 w ⟨⟨S,U0.refl _ _⟩,fun _ _ _=>rfl⟩,Oper.upon];exact hK _ _ u ρ1 S w hk h2 h4 (Ext.new s _) rfl (fun _ _ _ _=>rfl)
  split at hk
  ·rename_i c ho;split at hk
   ·exact eff hk
   ·rename_i f hc;split at hk<;>try cases hk
    rename_i g caps hf;split at hk<;>try cases hk
    rename_i hcal;have hvf:=h.val f;rw [hf] at hvf;obtain ⟨c0,hc0,hfe⟩:=hvf;unfold VC at hc0;obtain ⟨us,rfl,hus⟩:=hc0;have hfe:a.eval f=.func (.func g) #[] us.toArray:=hfe;have hargs:=(VT.of h c.args.toList).app hus;have key:Calls E.P g (c.args.toList.map a.eval++us).toArray w (fun e w1=>∃ v,e=.returned v/\∃ s1 V ρ1 S1,k s1 V=some r/\Rp E A s1 ρ1 S1 a as w1/\VS E ρ1 s1.nid w1.heap S1 V v/\Ext s s1/\s1.fr=s.fr/\(e0V E C s o=true->∀ k,k<w.heap.size->(∀ q,q<s.nid->P1 (E0 s q)=true->Z6 s s1 q=true->¬ Bk (ρ q) k)->w1.heap[k]?=w.heap[k]?)):=by
     unfold s0V at hk;split at hk
     ·rename_i sm hl;refine (hs g _ s sm hl _ k r hk A ρ S a as w _ h hargs).mono ?_
      rintro e w1 ⟨v,rfl,s1,V,ρ1,S1,h1,h2,h3,h4,h5,h6⟩
      exact ⟨v,rfl,s1,V,ρ1,S1,h1,h2,h3,h4,h5,fun _=>h6⟩
     ·rename_i hl;split at hk
      ·rename_i v hpu;refine (A0U hE hpu h hargs).mono ?_
       rintro e w1 ⟨u,rfl,rfl,h1⟩
       exact ⟨u,rfl,s,v,ρ,S,hk,h,h1,Ext.refl s,rfl,fun _ _ _ _=>rfl⟩
      rename_i hpu;have hpl:e0V E C s o=false:=by
       unfold e0V;rw [ho];simp only [hc];rw [hf];simp [hl,hpu]
      refine (hi _ g _ s k r hk A ρ S a as w _ h hargs).mono ?_
      rintro e w1 ⟨v,rfl,s1,V,ρ1,S1,h1,h2,h3,h4,h5⟩
      exact ⟨v,rfl,s1,V,ρ1,S1,h1,h2,h3,h4,h5,fun e=>by rw [hpl] at e;cases e⟩
    have hrun:(execOp a.eval o).run E.P w=.ok (.enter g (c.args.toList.map a.eval++us).toArray) w:=by
     have e:c.args.map a.eval++us.toArray=(c.args.toList.map a.eval++us).toArray:=by
      apply Array.ext';simp
     simp [execOp,ho,resolve,hc,Deferred.ofValue,hfe,invoke];rw [e];simpa using A0e hcal _ w
    simp only [Oper.wp,hrun,Oper.upon];refine key.mono ?_
    rintro e w1 ⟨v,rfl,s1,V,ρ1,S1,h1,h2,h3,h4,h5,h6⟩
    exact hK s1 V v ρ1 S1 w1 h1 h2 h3 h4 h5 h6
   ·cases hk
  ·exact eff hk
theorem d0V (hE:Q1 E) {C:D4 E} {inl:Inl E} (hi:e0v E inl) (hs:d0x E C) {ops:Array Oper}:∀ (f:Nat) {R:Type} (cs:List (Nat×Nat×Cut)) (i stop:Nat) (l:List Oper) (s:St E.D) (k:St E.D->Option R) (r:R),H7 E C inl ops f cs i stop l s k=some r->i<=stop->
  ∀ (ρ:Nat->Value) (S:D0) (a:Act) (w:World),Rp E A s ρ S a as w->∀ (Q:Exit->Act->World->Prop),(∀ s' ρ' S' a' w',k s'=some r->Rp E A s' ρ' S' a' as w'->Ext s s'->wpList E.P ops Q (l.drop (stop-i)) a' w')->wpList E.P ops Q l a w
 |0,R,cs,i,stop,l,s,k,r,hk,_=>by simp [H7] at hk
 |
  f+1,R,cs,i,stop,l,s,k,r,hk,hle=>by
  intro ρ S a w h Q hK;simp only [H7] at hk;split at hk
  ·rename_i he;rw [Nat.beq_eq] at he;subst he;have:=hK s ρ S a w hk h (Ext.refl s)
   rwa [Nat.sub_self,List.drop_zero] at this
  ·rename_i hne;have hne:i≠stop:=by rintro rfl;simp at hne
   split at hk
   ·rename_i b c r' hcut;split at hk<;>try cases hk
    rename_i hb;rw [Bool.and_eq_true,Nat.ble_eq,Nat.blt_eq] at hb;obtain ⟨d,hd,hk⟩:=b0Z hk;refine d0V hE hi hs f _ i (b+1) l s _ d hd (by omega) ρ S a w h Q fun s' ρ' S' a' w' hp h' he=>?_;obtain ⟨u,ρ1,S1,h1,h2,h3,_⟩:=e0t hE (fun i u ha=>(h.hp i u ha).1) h h' he hp hk;refine d0V hE hi hs f _ (b+1) stop _ u _ r h1 (by omega) ρ1 S1 a' w' h2 Q fun s'' ρ'' S'' a'' w'' hk2 h'' he''=>?_;have:=hK s'' ρ'' S'' a'' w'' hk2 h'' (h3.trans he'');rw [List.drop_drop]
    rwa [show b+1-i+(stop-(b+1))=stop-i from by omega]
   ·split at hk<;>try cases hk
    rename_i o l';split at hk<;>try cases hk
    rename_i hdst;obtain ⟨g1,g2,g3⟩:=f0W h (ops:=ops) (o:=o);have hdrop:(o :: l').drop (stop-i)=l'.drop (stop-(i+1)):=by
     rw [show stop-i=(stop-(i+1))+1 from by omega,List.drop_succ_cons]
    rw [hdrop] at hK;split at hk
    ·cases hk
    ·rename_i hg;unfold wpList;rw [if_pos (g1 hg)];refine .inl (t0z hE hi hs hk h fun s1 v u ρ1 S1 w1 hk1 h1 hv he hfr _=>?_);refine d0V hE hi hs f cs (i+1) stop l' _ k r hk1 (by omega) ρ1 S1 _ w1 (h1.d0K hdst he.n hv) Q fun s' ρ' S' a' w' hk' h' he'=>?_;exact hK s' ρ' S' a' w' hk' h' ((he.trans (Ext.put s1 o.dst v)).trans he')
    ·rename_i hg;unfold wpList;rw [g2 hg];simp only [Bool.false_eq_true,if_false];refine d0V hE hi hs f cs (i+1) stop l' _ k r hk (by omega) ρ S _ w (h.d0K hdst rfl VS.unit) Q fun s' ρ' S' a' w' hk' h' he'=>?_;exact hK s' ρ' S' a' w' hk' h' ((Ext.put s o.dst _).trans he')
    ·rename_i d b hg;have hv:=g3 d b hg;rw [<-hdrop] at hK;split at hk
     ·rename_i hb;subst hb;exact d0V hE hi hs f cs i stop (o :: l') _ k r hk hle ρ S a w (h.o0y (by rw [hv];exact VS.kb)) Q fun s' ρ' S' a' w' hk' h' he'=>hK s' ρ' S' a' w' hk' h' ((Ext.put s (some d) _).trans he')
     ·rename_i hb;have hb:b=false:=by simpa using hb
      subst hb;exact d0V hE hi hs f cs i stop (o :: l') _ k r hk hle ρ S a w (h.o0y (by rw [hv];exact VS.kb)) Q fun s' ρ' S' a' w' hk' h' he'=>hK s' ρ' S' a' w' hk' h' ((Ext.put s (some d) _).trans he')
end
