/- P. Its conditions: none. -/
import Derived.Test.YtdficaoajalfaaaGreatCX9
set_option linter.all false
namespace Go.X
open Go.V Go.RowKit
section
variable {E:Env}{A:O4}{s:St E.D}{ρ:Nat->Value}{S:D0}{a:Act}{as:List Act}{w:World}
def r0p (E:Env)(A:O4)(s:St E.D)(a:Act)(as:List Act){R:Type}(k:K E R)(r:R)(e:Ending)(w1:World):Prop:=
 ∃v,e=.returned v/\∃s1 V ρ1 S1,k s1 V=some r/\Rp E A s1 ρ1 S1 a as w1/\VS E ρ1 s1.nid w1.heap S1 V v/\Ext s s1/\s1.fr=s.fr
def k0K (E:Env)(A:O4)(s:St E.D)(ρ:Nat->Value)(a:Act)(as:List Act)(w:World){R:Type}(k:K E R)(r:R)(e:Ending)(w1:World):Prop:=
 ∃v,e=.returned v/\∃s1 V ρ1 S1,k s1 V=some r/\Rp E A s1 ρ1 S1 a as w1/\VS E ρ1 s1.nid w1.heap S1 V v/\Ext s s1/\s1.fr=s.fr/\(∀k,k<w.heap.size->(∀q,q<s.nid->P1 (E0 s q)=true->Z6 s s1 q=true->¬Bk (ρ q) k)->w1.heap[k]?=w.heap[k]?)
def e0v (E:Env)(inl:Inl E):Prop:=∀(R:Type) (g:Nat) (args:List (V E.D)) (s:St E.D) (k:K E R) (r:R),inl g args s k=some r->∀(A:O4) (ρ:Nat->Value) (S:D0) (a:Act) (as:List Act) (w:World) (us:List Value),
 Rp E A s ρ S a as w->VT E ρ s.nid w.heap S args us->Calls E.P g us.toArray w (r0p E A s a as k r)
def d0x (E:Env)(C:D4 E):Prop:=∀(g:Nat) (args:List (V E.D)) (s:St E.D) (c:Sm E.D),e0G E s args C.sm g=some c->∀(R:Type) (k:K E R) (r:R),j0r E s c args k=some r->∀(A:O4) (ρ:Nat->Value) (S:D0) (a:Act) (as:List Act) (w:World) (us:List Value),
 Rp E A s ρ S a as w->VT E ρ s.nid w.heap S args us->Calls E.P g us.toArray w (k0K E A s ρ a as w k r)
theorem B0B {g:Nat} (h:k0t E g=true):∃ fn,E.P.funcs[g]?=some fn/\fn.body.isSome=true/\(fn.name== "runtime.NumGoroutine")=false:=by
 unfold k0t at h;split at h
 ·rename_i fn hf;simp only[Bool.and_eq_true,Bool.not_eq_true']at h;exact⟨fn,hf,h.1,h.2⟩
 ·cases h
def A0e {g:Nat}(h:k0t E g=true)(args:Array Value)(w:World):(callFunc g args).run E.P w=.ok (.enter g args) w:=by
 obtain⟨fn,h1,h2,h3⟩:=B0B h;have h4:fn.body≠none:=by cases hb:fn.body<;>simp_all
 have h5:fn.name≠ "runtime.NumGoroutine":=by simpa using h3
 simp[callFunc,h1,h4,h5]
def A0F (h:Rp E A s ρ S a as w){T:Nat}{p:V E.D}{up:Value}(hp:VS E ρ s.nid w.heap S p up){q f:Nat}{i:Int}(g:n0A E s T p=some (q,i,f)):
  (d0Z s p=true/\rdP s p=none)/\∃u ρ1,Rp E A (s.new (.rof q i f)) ρ1 S a as w/\(∀j,j<s.nid->hd (ρ1 j)=hd (ρ j))/\VS E ρ1 (s.nid+1) w.heap S (.sl s.nid) u/\∀w',K8 E s S w (fun _=>True) w'->(Instr.loadAt T up).run E.P w'=.ok u w':=by
 unfold n0A at g;split at g
 rotate_left
 ·cases g
 rename_i id k z qq;obtain⟨I,b5,b,o,m,c,hr,⟨h0,h1⟩,hu⟩:=hp.c05;split at g<;>try cases g
 rename_i e F t xs C;split at g<;>try cases g
 rename_i ff b4 b2 b1;split at g<;>try cases g
 rename_i hz;rw[Bool.and_eq_true,Nat.beq_eq,Nat.blt_eq]at hz;obtain⟨rfl,hf⟩:=hz;have hl:=d0U C;have l:=h.th q;rw[hl]at l;obtain⟨cs,l⟩:=l;obtain⟨U,_⟩:=d0v l.ok;have R:=u0k l.ok b1 hf;have r:=l.row;rw[hr]at r;obtain⟨rfl,a1,_,y⟩:=Row.cell r O';have x:rowAt F i.toNat f<cs.length:=by
  rw[l.sz];unfold rowAt;have:i.toNat*F.length+F.length<=xs.length*F.length:=by rw[<-Nat.succ_mul];exact Nat.mul_le_mul_right _ O'
  omega
 have b3:rowAt F i.toNat f<xs.length*(J0 E t).sz:=by rw[<-l.row.1];exact x
 have n:∀H':K0,H'[b]?=w.heap[b]?->U2 H' b (o+rowAt F i.toNat f)=some cs[rowAt F i.toNat f]:=fun H' hH=>by
  rw[y H' hH _ b3,List.getElem?_eq_getElem x]
 have d:=l.one _ (List.getElem_mem x);refine⟨⟨by simp only[d0Z];rw[hl];rfl,by simp only[rdP];rw[hl]⟩,cs[rowAt F i.toNat f],M6 ρ s.nid cs[rowAt F i.toNat f],h.r0N (fun _ _ e=>by cases e) ⟨Nat.lt_succ_of_lt I,d,(d0T d).1⟩ (fun q' i' f' e=>?_),fun j hj=>by rw[G5 O'],?_,fun w' hw=>?_⟩
 ·cases e;refine⟨I,fun e2 F2 t2 c0 J=>?_⟩;rw[hl]at J;cases J;exact⟨b,o,_,c,hr,⟨h0,h1⟩,hf,n w.heap rfl⟩
 ·exact VS.of rfl (by unfold VC;rw[I5,(d0T d).1];exact⟨Nat.lt_succ_self _,d,rfl⟩)
 ·have hH:=hw.2 b trivial a1;have:=u0l (T:=T) (b:=b) (o:=o+rowAt F i.toNat f) b4 b2 (c:=[cs[rowAt F i.toNat f]]) rfl (fun _=>rfl) (w:=w') (fun j v hj=>by
   cases j with
   |zero=>simp at hj;subst hj;exact n w'.heap hH
   |succ j=>simp at hj)
  rw[hu];have e3:o+i.toNat*X2 E t+M4 qq=o+rowAt F i.toNat f:=by
   rw[R];unfold rowAt;rw[show X2 E t=F.length from U];omega
  rw[e3];simp[Instr.loadAt,Instr.sureAddr,this,H4]
def t0V (h:Rp E A s ρ S a as w){o:Oper}{q f:Nat}{i:Int}(b:j0o E s o=some (q,i,f)):
  (A9 E s o=true/\D9 E s o=none)/\∃u ρ1,Rp E A (s.new (.rof q i f)) ρ1 S a as w/\(∀j,j<s.nid->hd (ρ1 j)=hd (ρ j))/\VS E ρ1 (s.nid+1) w.heap S (.sl s.nid) u/\∀w',K8 E s S w (fun _=>True) w'->(execOp a.eval o).run E.P w'=.ok (.value u) w':=by
 unfold j0o at b;split at b<;>try cases b
 rename_i T x c;obtain⟨h1,u,ρ1,d,k,g,e⟩:=A0F h (h.val x) b;exact⟨⟨by unfold A9;rw[c];exact h1.1,by unfold D9;rw[c];exact h1.2⟩,u,ρ1,d,k,g,fun w' hw=>by simp[execOp,c,e w' hw]⟩
def o00 {α:Type}{a b:Option α}{r:α}(h:same a b=some r):a=some r/\b=some r:=by
 unfold same at h;split at h
 ·rename_i e;exact⟨h,e▸h⟩
 ·cases h
def D0l (h:Rp E A s ρ S a as w){tb:List Nat}{o:Oper}{b:Bool}{v1 v2:V E.D}(f:n0P E tb s o=some (b,v1,v2)):∃u,(∀w',(execOp a.eval o).run E.P w'=.ok (.value u) w')/\(VS E ρ s.nid w.heap S v2 u\/(b=true/\VS E ρ s.nid w.heap S v1 u)):=by
 unfold n0P at f;split at f<;>try cases f
 unfold r0S at f;split at f<;>try cases f
 rename_i op T x y z n;split at f<;>try cases f
 rename_i t xs pos p v hk g;obtain⟨I,J,l,C⟩:=i0Z (E:=E) (T:=T);obtain⟨e,j⟩:=l hk;have ha:=h.val x;have k:=h.val y;rw[p]at ha;rw[v]at k;have hn:=k.b0n;obtain⟨A',c,d,i⟩:=ha.f04;have fin:∀{q:Bool},(∀w':World,(Op.equal T (a.eval x) (a.eval y)).run E.P w'=.ok q w')->s8 E op T (a.eval x) (a.eval y)->∀w',(execOp a.eval o).run E.P w'=.ok (.value (.bool (sgn pos q))) w':=by
  intro q heq hg w';have h1:(binOp op T (a.eval x) (a.eval y)).run E.P w'=.ok (.bool (sgn pos q)) w':=b0F g (by rw[d];simp) (by rw[d];simp) (by rw[d];simp) (by rw[d];simp) (heq w');have r:=hg x y w';simp[execOp,n,h1,r]
 have hg:s8 E op T (a.eval x) (a.eval y):=by rw[d,hn];exact s8.of (by cases A'<;>simp[a0W])
 cases A' with
 |none=>
  have m:xs=[]:=by
   cases xs with
   |nil=>rfl
   |cons y ys=>obtain⟨b,o,h,_⟩:=i.2.1 Z9;cases h
  subst m;refine⟨_,fin (q:=true) (fun w'=>?_) hg,.inr ⟨rfl,VS.Q6⟩⟩;rw[d,hn];unfold Op.equal Op.maxDepth Op.equalIn;simp[run_underlying j]
 |some ad=>
  refine⟨_,fin (q:=false) (fun w'=>?_) hg,.inl VS.Q6⟩;rw[d,hn];unfold Op.equal Op.maxDepth Op.equalIn;simp[run_underlying j]
def f0W (h:Rp E A s ρ S a as w){ops:Array Oper}{o:Oper}:(a0E E s ops o=.yes->Region.wanted o (yielded ops a.tmps)=true)/\(a0E E s ops o=.no->Region.wanted o (yielded ops a.tmps)=false)/\
  (∀d b,a0E E s ops o=.ask d b->a.tmps.getD d undef=.bool b):=by
 unfold a0E Region.wanted;cases hg:o.guard with
 |none=>simp
 |some jw=>
  obtain⟨j,want⟩:=jw;simp only;cases m:ops[j]? with
  |none=>simp
  |some g=>
   simp only;cases hd:g.dst with
   |none=>simp
   |some d=>
    simp only;cases hl:Q4 s.fr d with
    |none=>simp
    |some v=>
     have l:=h.get hl;have n:∀x,a.tmps.getD d undef=.bool x->yielded ops a.tmps j=some x:=by
      intro x c;unfold yielded;simp only[m,Option.bind_some,hd];have:a.tmps[d]?=some (.bool x):=by
       rw[Array.getD_eq_getD_getElem?]at c;cases k:a.tmps[d]? with
       |none=>rw[k]at c;simp[undef]at c
       |some y=>rw[k]at c;simp at c;rw[c]
      rw[this]
     split
     ·rename_i b f;cases f;have c:=P8 (x:=b) rfl l;rw[n b c];cases b<;>cases want<;>simp
     ·rename_i f;cases f;obtain⟨us,hu,i⟩:=l.s0a;unfold VT at i;subst i;have:yielded ops a.tmps j≠some want:=by
       unfold yielded;simp only[m,Option.bind_some,hd];rw[Array.getD_eq_getD_getElem?]at hu;cases k:a.tmps[d]? with
       |none=>simp
       |some y=>rw[k]at hu;simp at hu;subst hu;simp
      simp[this]
     ·rename_i t q p e;cases e;split
      ·rename_i b f;simp only[Gt.ask.injEq,reduceCtorEq,false_implies,true_and]
       rintro r b' ⟨rfl,rfl⟩
       exact P8 f l
      ·simp
     ·simp
def Rp.o0y (h:Rp E A s ρ S a as w){d:Nat}{v:V E.D}(b:VS E ρ s.nid w.heap S v (a.tmps.getD d undef)):Rp E A (s.put (some d) v) ρ S a as w:=by
 refine⟨h.cx,⟨h.fr.size,h.fr.defers,fun t x hl=>?_⟩,h.stk,h.th,h.ow,h.dj,h.lt,h.rf,h.kp,h.hp⟩;simp only[St.put,a0q]at hl;split at hl
 ·rename_i e;simp only[Option.some.injEq]at hl;subst e;subst hl;exact b
 ·exact h.fr.slot t x hl
def Rp.d0K {s1:St E.D}{ρ1:Nat->Value}{S1:D0}{w1:World}(h:Rp E A s1 ρ1 S1 a as w1){n:Nat}{o:Oper}(hd:b0M n o=true)(hn:s1.n=n){v:V E.D}{u:Value}(b:VS E ρ1 s1.nid w1.heap S1 v u):Rp E A (s1.put o.dst v) ρ1 S1 (a.put o.dst u) as w1:=
 h.put (by rw[hn];exact hd) b
def Ex.out:Ex->Exit
 |.nrm=>.normal
 |.ex i=>.exit i
 |.ret=>.ret
def A07 (e:Q1 E){A:O4}(h:Rp E A s ρ S a as w){r:ResultVar}{v:V E.D}(c:k0e E s r=some v):∃u,VS E ρ s.nid w.heap S v u/\(S8 a.tmps r).run E.P w=.ok u w:=by
 cases r with
 |tmp t=>
  simp only[k0e,Option.some.injEq]at c;subst c;exact⟨_,h.b0R t,by simp[S8]⟩
 |cell q T=>
  simp only[k0e]at c;split at c<;>try cases c
  rename_i g hl;have:=u0G e h (T:=T) (h.b0R q);rw[hl]at this;obtain⟨u,h1,f⟩:=this;have b:=f w ⟨⟨S,U0.refl _ _⟩,fun _ _ _=>rfl⟩;refine⟨u,h1,?_⟩;unfold Instr.loadAt at b;cases d:a.tmps.getD q undef<;>rw[d]at b<;>simp[Instr.sureAddr]at b
  rename_i ad;cases ad with
  |none=>simp[Instr.sureAddr]at b
  |some ad=>
   simp[Instr.sureAddr]at b;simp only[S8,d];simp[asAddr,b]
def p0b (f:Q1 E){A:O4}(h:Rp E A s ρ S a as w):∀{l:List ResultVar} {vs:List (V E.D)},g0E E s l=some vs->∃us,VT E ρ s.nid w.heap S vs us/\us.length=l.length/\(l.mapM (S8 a.tmps)).run E.P w=.ok us w
 |[],vs,hr=>by
  simp only[g0E,Option.some.injEq]at hr;subst hr;exact⟨[],by unfold VT;rfl,rfl,Z9⟩
 |x :: l,vs,hr=>by
  simp only[g0E]at hr;split at hr<;>try cases hr
  rename_i v i h1 g;obtain⟨u,⟨c,j,hu⟩,d⟩:=A07 f h h1;obtain⟨us,e,hl,b⟩:=p0b f h g;exact⟨u :: us,by unfold VT;exact⟨c,us,j,by rw[hu],e⟩,by simp[hl],by simp[List.mapM_cons,d,b]⟩
def s0H (p:Q1 E){A:O4}(h:Rp E A s ρ S a as w){fn:Func}{v:V E.D}(j:result E s fn=some v):∃u,VS E ρ s.nid w.heap S v u/\(results fn a.tmps).run E.P w=.ok u w:=by
 have f:∀us:List Value,(fn.results.toList.mapM (S8 a.tmps)).run E.P w=.ok us w->(results fn a.tmps).run E.P w=.ok (if h:us.toArray.size=1 then us.toArray[0]else .tuple us.toArray) w:=by
  intro us k;have:results fn a.tmps=(do let vs <-fn.results.mapM (S8 a.tmps);pure (if h:vs.size=1 then vs[0]else .tuple vs)):=by
   unfold results;congr 1
  rw[this];have e:fn.results.mapM (S8 a.tmps)=(fun l=>l.toArray) <$> fn.results.toList.mapM (S8 a.tmps):=by
   rw[<-Array.mapM_eq_mapM_toList]
  rw[e];simp[k]
 unfold result at j;split at j<;>try cases j
 ·rename_i x i;obtain⟨us,b,hl,d⟩:=p0b p h i;unfold VT at b;obtain⟨c,g,r,rfl,b⟩:=b;unfold VT at b;subst b;exact⟨_,⟨c,r,rfl⟩,by rw[f _ d];simp⟩
 ·rename_i l m i;obtain⟨us,b,hl,d⟩:=p0b p h i;refine⟨.tuple us.toArray,VS.of rfl (by unfold VC;exact⟨us,rfl,b⟩),?_⟩;rw[f _ d];have:us.toArray.size≠1:=by
   intro h1
   match l,us,b,h1 with
   |[],[],_,h1=>simp at h1
   |[v],_,_,_=>exact m v rfl
   |[],u :: us,b,_=>unfold VT at b;simp at b
   |v :: v2 :: l,[],b,h1=>simp at h1
   |v :: v2 :: l,[u],b,_=>
    unfold VT at b;obtain⟨c,g,_,o,n⟩:=b;simp at o;obtain⟨_,rfl⟩:=o;unfold VT at n;obtain⟨_,_,_,q,_⟩:=n;cases q
   |v :: v2 :: l,u :: t :: us,_,h1=>simp at h1
  rw[dif_neg this]
def n0p {n:Nat}{H:K0}:∀{args:List (V E.D)} {us:List Value},VT E ρ n H S args us->∀(i t:Nat) (v:V E.D),Q4 (G9 args i) t=some v->∃u,us[t-i]?=some u/\i<=t/\VS E ρ n H S v u
 |[],us,h,i,t,v,hl=>by simp[G9,Q4]at hl
 |x :: args,us,h,i,t,v,hl=>by
  unfold VT at h;obtain⟨c,g,h1,rfl,b⟩:=h;simp only[G9,a0q]at hl;split at hl
  ·rename_i e;simp only[Option.some.injEq]at hl;subst e;subst hl;exact⟨_,by rw[Nat.sub_self];rfl,Nat.le_refl _,c,h1,rfl⟩
  ·obtain⟨u,f,j,d⟩:=n0p b (i+1) t v hl;refine⟨u,?_,O',d⟩;rw[show t-i=(t-(i+1))+1 from O'];simpa using f
def VT.length {n:Nat}{H:K0}:∀{l:List (V E.D)} {us:List Value},VT E ρ n H S l us->us.length=l.length
 |[],us,h=>by unfold VT at h;subst h;rfl
 |v :: l,us,h=>by
  unfold VT at h;obtain⟨c,u,_,rfl,b⟩:=h;simp[VT.length b]
def Rp.enter {A:O4}(h:Rp E A s ρ S a as w){args:List (V E.D)}{us:List Value}(c:VT E ρ s.nid w.heap S args us){m:Nat}(hm:args.length<=m):
  Rp E A { s with n:=m,fr:=G9 args 0,stk:=(s.n,s.fr) :: s.stk } ρ S { tmps:=us.toArray++Array.replicate (m-us.toArray.size) undef,defers:=[] } (a :: as) w:=by
 have hl:=c.length;refine⟨h.cx,⟨Z',rfl,fun t v e=>?_⟩,⟨h.fr,h.stk⟩,h.th,h.ow,h.dj,h.lt,h.rf,h.kp,h.hp⟩;obtain⟨u,h1,_,d⟩:=n0p c 0 t v e;rw[Nat.sub_zero]at h1;have b:t<us.length:=(List.getElem?_eq_some_iff.1 h1).1;have:(us.toArray++Array.replicate (m-us.toArray.size) undef).getD t undef=u:=by
  rw[Array.getD_eq_getD_getElem?,Array.getElem?_append_left (by simpa using b)];simp[h1]
 rw[this];exact d
def r0F {g:Nat}{fn:Func}{c:Code}(h:e0P E g=some (fn,c)):E.P.funcs[g]?=some fn/\fn.body=some c:=by
 unfold e0P at h;split at h<;>try cases h
 rename_i d e;split at h<;>try cases h
 rename_i b f;exact⟨e,f⟩
def m05 (i:Q1 E){ops:Array Oper}{Q:Exit->Act->World->Prop}:∀(l:List Oper) {s c:St E.D} {a:Act},f0K E ops l s=some c->Rp E A s ρ S a as w->
  (∀d,Rp E A c ρ S d as w->c.nid=s.nid->c.stk=s.stk->Q .normal d w)->wpList E.P ops Q l a w
 |[],s,c,a,hp,h,hQ=>by
  simp only[f0K,Option.some.injEq]at hp;subst hp;exact hQ a h rfl rfl
 |o :: l,s,c,a,hp,h,hQ=>by
  simp only[f0K]at hp;split at hp<;>try cases hp
  rename_i b;obtain⟨g1,g2,_⟩:=f0W h (ops:=ops) (o:=o);split at hp<;>try cases hp
  ·rename_i hg;split at hp<;>try cases hp
   rename_i v m;have j:=n00 i h o;rw[m]at j;obtain⟨u,h1,k⟩:=j;unfold wpList;rw[if_pos (g1 hg)];refine .inl ?_;simp only[Oper.wp,k w ⟨⟨S,U0.refl _ _⟩,fun _ _ _=>rfl⟩,Oper.upon];exact m05 i l hp (h.d0K b rfl h1) fun d e g f=>hQ d e (g.trans (by cases o.dst<;>rfl)) (f.trans (by cases o.dst<;>rfl))
  ·rename_i hg;unfold wpList;rw[g2 hg];simp only[Bool.false_eq_true,if_false];exact m05 i l hp (h.d0K b rfl VS.unit) fun d e g f=>hQ d e (g.trans (by cases o.dst<;>rfl)) (f.trans (by cases o.dst<;>rfl))
def c03 (j:Q1 E):∀(f:Nat) (c:Code) {s m:St E.D} {e:Ex} {a:Act} {Q:Exit->Act->World->Prop},Z8 E f c s=some (e,m)->Rp E A s ρ S a as w->
  (∀d,Rp E A m ρ S d as w->m.nid=s.nid->m.stk=s.stk->Q e.out d w)->c.wp E.P Q a w
 |0,c,s,m,e,a,Q,hp,h,b=>by simp[Z8]at hp
 |f+1,c,s,m,e,a,Q,hp,h,b=>by
  cases c with
  |skip=>
   simp only[Z8,Option.some.injEq,Prod.mk.injEq]at hp;obtain⟨rfl,rfl⟩:=hp;exact wp_skip (b a h rfl rfl)
  |region id ops draw=>
   simp only[Z8]at hp;split at hp<;>try cases hp
   split at hp<;>try cases hp
   rename_i s1 h1;exact wp_region_list (m05 j _ h1 h fun d g k l=>b d g k l)
  |seq x y=>
   simp only[Z8]at hp;refine wp_seq ?_;split at hp<;>try cases hp
   ·rename_i s1 h1;exact c03 j f x h1 h fun d g k l=>c03 j f y hp g fun t r v u=>b t r (v.trans k) (u.trans l)
   ·rename_i i h1;exact c03 j f x h1 h fun d g k l=>b d g k l
   ·rename_i h1;exact c03 j f x h1 h fun d g k l=>b d g k l
  |cond c x y=>
   simp only[Z8]at hp;have p:=h.val c;split at hp<;>try cases hp
   ·rename_i q;rw[q]at p;exact wp_cond_true (P8 (x:=true) rfl p) (c03 j f x hp h b)
   ·rename_i q;rw[q]at p;exact wp_cond_false (P8 (x:=false) rfl p) (c03 j f y hp h b)
  |block id x=>
   simp only[Z8]at hp;split at hp<;>try cases hp
   rename_i k s1 h1;refine wp_block (c03 j f x h1 h fun d g o n=>?_);split at hp<;>cases hp
   ·rename_i he;have:=Ex.h06 he;subst this;simp only[Ex.out,Exit.inBlock,if_true];exact b d g o n
   ·rename_i he;cases e with
    |nrm=>exact b d g o n
    |ret=>exact b d g o n
    |ex i=>
     have:i≠id:=by rintro rfl;simp[Ex.eq]at he
     simp only[Ex.out,Exit.inBlock,if_neg this];exact b d g o n
  |exit id=>
   simp only[Z8,Option.some.injEq,Prod.mk.injEq]at hp;obtain⟨rfl,rfl⟩:=hp;exact wp_exit (b a h rfl rfl)
  |ret=>
   simp only[Z8,Option.some.injEq,Prod.mk.injEq]at hp;obtain⟨rfl,rfl⟩:=hp;exact wp_ret (b a h rfl rfl)
  |_=>simp[Z8]at hp
def A0U (k:Q1 E){g:Nat}{args:List (V E.D)}{v:V E.D}{us:List Value}(hp:i0C E g args s=some v)(h:Rp E A s ρ S a as w)(p:VT E ρ s.nid w.heap S args us):
  Calls E.P g us.toArray w (fun e w1=>∃u,e=.returned u/\w1=w/\VS E ρ s.nid w.heap S v u):=by
 unfold i0C at hp;split at hp<;>try cases hp
 rename_i fn body d;obtain⟨c,o⟩:=r0F d;split at hp<;>try cases hp
 rename_i e r hn b;rw[Nat.ble_eq]at hn;split at hp<;>try cases hp
 rename_i f;refine calls_of_wp c o ?_;refine c03 k _ body b (h.enter p hn) fun l j q t=>?_;obtain⟨u,h1,n⟩:=s0H k j hp;have fin:l.defers=[]/\∃m,(results fn l.tmps).run E.P w=.ok m w/\∃u,Ending.returned m=.returned u/\w=w/\VS E ρ s.nid w.heap S v u:=⟨j.fr.defers,u,n,u,rfl,rfl,by rw[<-show r.nid=s.nid from q];exact h1⟩
 cases e with
 |nrm=>exact fin
 |ret=>exact fin
 |ex i=>cases f
def t0z (hE:Q1 E){C:D4 E}{inl:Inl E}(hi:e0v E inl)(hs:d0x E C){R:Type}{k:K E R}{r:R}{o:Oper}(hk:opV E C inl s o k=some r)(h:Rp E A s ρ S a as w){K:Act->World->Prop}{Q:Exit->Act->World->Prop}
  (y:∀s1 v u ρ1 S1 w1,k s1 v=some r->Rp E A s1 ρ1 S1 a as w1->VS E ρ1 s1.nid w1.heap S1 v u->Ext s s1->s1.fr=s.fr->(e0V E C s o=true->∀k,k<w.heap.size->(∀q,q<s.nid->P1 (E0 s q)=true->Z6 s s1 q=true->¬Bk (ρ q) k)->w1.heap[k]?=w.heap[k]?)->K (a.put o.dst u) w1):o.wp E.P a w K Q:=by
 have hq:=n00 hE h o;have z:K8 E s S w (d06 E s ρ o) w:=⟨⟨S,U0.refl _ _⟩,fun _ _ _=>rfl⟩
 unfold opV at hk;split at hk
 ·rename_i b v1 v2 ht;obtain⟨u,h1,d⟩:=D0l h ht;have kk:∀{v},VS E ρ s.nid w.heap S v u->k s v=some r->o.wp E.P a w K Q:=fun J b3=>by
   simp only[Oper.wp,h1 w,Oper.upon];exact y s _ u ρ S w b3 h J (Ext.refl s) rfl (fun _ _ _ _=>rfl)
  rcases d with d|⟨rfl,d⟩
  ·cases b with
   |true=>exact kk d (o00 hk).2
   |false=>exact kk d hk
  ·exact kk d (o00 hk).1
 have I:evE E C.tb s o k=some r->o.wp E.P a w K Q:=by
  intro hk;obtain⟨s1,v,u,w1,h1,⟨⟨ρ1,S1,d,p,_⟩,n,m,h7⟩,l⟩:=x0F hE h hk;have:=y s1 v u ρ1 S1 w1 h1 d p n m (fun _=>h7);rcases l with l|⟨rfl,l⟩
  ·simp only[Oper.wp,l,Oper.upon];exact this
  ·simp only[Oper.wp,l,Oper.upon];exact this
 split at hk
 ·rename_i v J;rw[J]at hq;obtain⟨u,h1,d⟩:=hq;simp only[Oper.wp,d w z,Oper.upon];exact y s v u ρ S w hk h h1 (Ext.refl s) rfl (fun _ _ _ _=>rfl)
 ·rename_i b v J;rw[J]at hq;split at hk<;>try cases hk
  rename_i hb;obtain⟨u,h1,d⟩:=hq hb;simp only[Oper.wp,d w z,Oper.upon];exact y s v u ρ S w hk h h1 (Ext.refl s) rfl (fun _ _ _ _=>rfl)
 ·split at hk
  ·rename_i q i f hb;obtain⟨h1,u,ρ1,d,p,n,m⟩:=t0V h hb;simp only[Oper.wp,m w ⟨⟨S,U0.refl _ _⟩,fun _ _ _=>rfl⟩,Oper.upon];exact y _ _ u ρ1 S w hk d n (Ext.new s _) rfl (fun _ _ _ _=>rfl)
  split at hk
  ·rename_i c ho;split at hk
   ·exact I hk
   ·rename_i f hc;split at hk<;>try cases hk
    rename_i g caps hf;split at hk<;>try cases hk
    rename_i b2;have a1:=h.val f;rw[hf]at a1;obtain⟨c0,U,t⟩:=a1;unfold VC at U;obtain⟨us,rfl,b5⟩:=U;have t:a.eval f=.func (.func g) #[] us.toArray:=t;have j:=(VT.of h c.args.toList).app b5;have key:Calls E.P g (c.args.toList.map a.eval++us).toArray w (fun e w1=>∃v,e=.returned v/\∃s1 V ρ1 S1,k s1 V=some r/\Rp E A s1 ρ1 S1 a as w1/\VS E ρ1 s1.nid w1.heap S1 V v/\Ext s s1/\s1.fr=s.fr/\(e0V E C s o=true->∀k,k<w.heap.size->(∀q,q<s.nid->P1 (E0 s q)=true->Z6 s s1 q=true->¬Bk (ρ q) k)->w1.heap[k]?=w.heap[k]?)):=by
     unfold s0V at hk;split at hk
     ·rename_i sm hl;refine(hs g _ s sm hl _ k r hk A ρ S a as w _ h j).mono ?_
      rintro e w1 ⟨v,rfl,s1,V,ρ1,S1,h1,d,p,n,m,l⟩
      exact⟨v,rfl,s1,V,ρ1,S1,h1,d,p,n,m,fun _=>l⟩
     ·rename_i hl;split at hk
      ·rename_i v x;refine(A0U hE x h j).mono ?_
       rintro e w1 ⟨u,rfl,rfl,h1⟩
       exact⟨u,rfl,s,v,ρ,S,hk,h,h1,Ext.refl s,rfl,fun _ _ _ _=>rfl⟩
      rename_i x;have b4:e0V E C s o=false:=by
       unfold e0V;rw[ho];simp only[hc];rw[hf];simp[hl,x]
      refine(hi _ g _ s k r hk A ρ S a as w _ h j).mono ?_
      rintro e w1 ⟨v,rfl,s1,V,ρ1,S1,h1,d,p,n,m⟩
      exact⟨v,rfl,s1,V,ρ1,S1,h1,d,p,n,m,fun e=>by rw[b4]at e;cases e⟩
    have b1:(execOp a.eval o).run E.P w=.ok (.enter g (c.args.toList.map a.eval++us).toArray) w:=by
     have e:c.args.map a.eval++us.toArray=(c.args.toList.map a.eval++us).toArray:=by
      apply Array.ext';simp
     simp[execOp,ho,resolve,hc,Deferred.ofValue,t,invoke];rw[e];simpa using A0e b2 _ w
    simp only[Oper.wp,b1,Oper.upon];refine key.mono ?_
    rintro e w1 ⟨v,rfl,s1,V,ρ1,S1,h1,d,p,n,m,l⟩
    exact y s1 V v ρ1 S1 w1 h1 d p n m l
   ·cases hk
  ·exact I hk
def d0V (z:Q1 E){C:D4 E}{inl:Inl E}(hi:e0v E inl)(I:d0x E C){ops:Array Oper}:∀(f:Nat) {R:Type} (cs:List (Nat×Nat×Cut)) (i stop:Nat) (l:List Oper) (s:St E.D) (k:St E.D->Option R) (r:R),H7 E C inl ops f cs i stop l s k=some r->i<=stop->
  ∀(ρ:Nat->Value) (S:D0) (a:Act) (w:World),Rp E A s ρ S a as w->∀(Q:Exit->Act->World->Prop),(∀j ρ' q m w',k j=some r->Rp E A j ρ' q m as w'->Ext s j->wpList E.P ops Q (l.drop (stop-i)) m w')->wpList E.P ops Q l a w
 |0,R,cs,i,stop,l,s,k,r,hk,_=>by simp[H7]at hk
 |f+1,R,cs,i,stop,l,s,k,r,hk,hle=>by
  intro ρ S a w h Q x;simp only[H7]at hk;split at hk
  ·rename_i he;rw[Nat.beq_eq]at he;subst he;have:=x s ρ S a w hk h (Ext.refl s)
   rwa [Nat.sub_self,List.drop_zero]at this
  ·rename_i a1;have a1:i≠stop:=by rintro rfl;simp at a1
   split at hk
   ·rename_i b c r' c4;split at hk<;>try cases hk
    rename_i J;rw[Bool.and_eq_true,Nat.ble_eq,Nat.blt_eq]at J;obtain⟨d,hd,hk⟩:=b0Z hk;refine d0V z hi I f _ i (b+1) l s _ d hd O' ρ S a w h Q fun j ρ' q m w' hp t he=>?_;obtain⟨u,ρ1,S1,h1,h2,h3,_⟩:=e0t z (fun i u ha=>(h.hp i u ha).1) h t he hp hk;refine d0V z hi I f _ (b+1) stop _ u _ r h1 O' ρ1 S1 m w' h2 Q fun b5 ρ'' b1 c3 b2 b4 c0 U=>?_;have:=x b5 ρ'' b1 c3 b2 b4 c0 (h3.trans U);rw[List.drop_drop]
    rwa [show b+1-i+(stop-(b+1))=stop-i from O']
   ·split at hk<;>try cases hk
    rename_i o l';split at hk<;>try cases hk
    rename_i y;obtain⟨g1,g2,g3⟩:=f0W h (ops:=ops) (o:=o);have p:(o :: l').drop (stop-i)=l'.drop (stop-(i+1)):=by
     rw[show stop-i=(stop-(i+1))+1 from O',List.drop_succ_cons]
    rw[p]at x;split at hk
    ·cases hk
    ·rename_i hg;unfold wpList;rw[if_pos (g1 hg)];refine .inl (t0z z hi I hk h fun s1 v u ρ1 S1 w1 b3 h1 hv he c5 _=>?_);refine d0V z hi I f cs (i+1) stop l' _ k r b3 O' ρ1 S1 _ w1 (h1.d0K y he.n hv) Q fun j ρ' q m w' g t e=>?_;exact x j ρ' q m w' g t ((he.trans (Ext.put s1 o.dst v)).trans e)
    ·rename_i hg;unfold wpList;rw[g2 hg];simp only[Bool.false_eq_true,if_false];refine d0V z hi I f cs (i+1) stop l' _ k r hk O' ρ S _ w (h.d0K y rfl VS.unit) Q fun j ρ' q m w' g t e=>?_;exact x j ρ' q m w' g t ((Ext.put s o.dst _).trans e)
    ·rename_i d b hg;have hv:=g3 d b hg;rw[<-p]at x;split at hk
     ·rename_i J;subst J;exact d0V z hi I f cs i stop (o :: l') _ k r hk hle ρ S a w (h.o0y (by rw[hv];exact VS.kb)) Q fun j ρ' q m w' g t e=>x j ρ' q m w' g t ((Ext.put s (some d) _).trans e)
     ·rename_i J;have J:b=false:=by simpa using J
      subst J;exact d0V z hi I f cs i stop (o :: l') _ k r hk hle ρ S a w (h.o0y (by rw[hv];exact VS.kb)) Q fun j ρ' q m w' g t e=>x j ρ' q m w' g t ((Ext.put s (some d) _).trans e)
end
