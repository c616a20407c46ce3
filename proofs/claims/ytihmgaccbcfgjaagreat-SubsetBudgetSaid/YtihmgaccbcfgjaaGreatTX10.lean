/- P. Its conditions: none. -/
import Derived.Test.YtihmgaccbcfgjaaGreatTX9
set_option linter.all false
namespace Go.X
open Go.V Go.RowKit
section
variable {E:Env}{A:E4}{s:St E.D}{ρ:Nat->Value}{S:D0}{a:Act}{as:List Act}{w:World}
def v0j (E:Env)(A:E4)(s:St E.D)(a:Act)(as:List Act){R:Type}(k:K E R)(r:R)(e:Ending)(w1:World):Prop:=
 ∃v,e=.returned v/\∃s1 V ρ1 S1,k s1 V=some r/\Rp E A s1 ρ1 S1 a as w1/\VS E ρ1 s1.nid w1.heap S1 V v/\Ext s s1/\s1.fr=s.fr
def p0P (E:Env)(A:E4)(s:St E.D)(ρ:Nat->Value)(a:Act)(as:List Act)(w:World){R:Type}(k:K E R)(r:R)(e:Ending)(w1:World):Prop:=
 ∃v,e=.returned v/\∃s1 V ρ1 S1,k s1 V=some r/\Rp E A s1 ρ1 S1 a as w1/\VS E ρ1 s1.nid w1.heap S1 V v/\Ext s s1/\s1.fr=s.fr/\(∀k,k<w.heap.size->(∀q,q<s.nid->Q1 (F0 s q)=true->W6 s s1 q=true->¬Bk (ρ q) k)->w1.heap[k]?=w.heap[k]?)
def e0G (E:Env)(inl:Inl E):Prop:=∀(R:Type) (g:Nat) (args:List (V E.D)) (s:St E.D) (k:K E R) (r:R),inl g args s k=some r->∀(A:E4) (ρ:Nat->Value) (S:D0) (a:Act) (as:List Act) (w:World) (us:List Value),
 Rp E A s ρ S a as w->VT E ρ s.nid w.heap S args us->Calls E.P g us.toArray w (v0j E A s a as k r)
def d0j (E:Env)(C:J3 E):Prop:=∀(g:Nat) (args:List (V E.D)) (s:St E.D) (c:Sm E.D),e0U E s args C.sm g=some c->∀(R:Type) (k:K E R) (r:R),j0X E s c args k=some r->∀(A:E4) (ρ:Nat->Value) (S:D0) (a:Act) (as:List Act) (w:World) (us:List Value),
 Rp E A s ρ S a as w->VT E ρ s.nid w.heap S args us->Calls E.P g us.toArray w (p0P E A s ρ a as w k r)
theorem G0y {g:Nat} (h:k0B E g=true):∃ fn,E.P.funcs[g]?=some fn/\fn.body.isSome=true/\(fn.name== "runtime.NumGoroutine")=false:=by
 unfold k0B at h;split at h
 ·rename_i fn hf;simp only[Bool.and_eq_true,Bool.not_eq_true']at h;exact⟨fn,hf,h.1,h.2⟩
 ·cases h
def z0r {g:Nat}(h:k0B E g=true)(args:Array Value)(w:World):(callFunc g args).run E.P w=.ok (.enter g args) w:=by
 obtain⟨fn,h1,h2,h3⟩:=G0y h;have h4:fn.body≠none:=by cases hb:fn.body<;>simp_all
 have h5:fn.name≠ "runtime.NumGoroutine":=by simpa using h3
 simp[callFunc,h1,h4,h5]
def z0H (h:Rp E A s ρ S a as w){T:Nat}{p:V E.D}{up:Value}(hp:VS E ρ s.nid w.heap S p up){q f:Nat}{i:Int}(g:m0x E s T p=some (q,i,f)):
  (d05 s p=true/\rdP s p=none)/\∃u ρ1,Rp E A (s.new (.rof q i f)) ρ1 S a as w/\(∀j,j<s.nid->hd (ρ1 j)=hd (ρ j))/\VS E ρ1 (s.nid+1) w.heap S (.sl s.nid) u/\∀w',O6 E s S w (fun _=>True) w'->(Instr.loadAt T up).run E.P w'=.ok u w':=by
 unfold m0x at g;split at g
 rotate_left
 ·cases g
 rename_i id k z qq;obtain⟨J,b5,b,o,m,c,hr,⟨h0,h1⟩,hu⟩:=hp.d0e;split at g<;>try cases g
 rename_i e F t xs C;split at g<;>try cases g
 rename_i ff a1 b1 b2;split at g<;>try cases g
 rename_i hz;rw[Bool.and_eq_true,Nat.beq_eq,Nat.blt_eq]at hz;obtain⟨rfl,hf⟩:=hz;have hl:=e0u C;have l:=h.th q;rw[hl]at l;obtain⟨cs,l⟩:=l;obtain⟨I,_⟩:=d0C l.ok;have U:=u0C l.ok b2 hf;have r:=l.row;rw[hr]at r;obtain⟨rfl,b3,_,x⟩:=Row.cell r O';have y:rowAt F i.toNat f<cs.length:=by
  rw[l.sz];unfold rowAt;have:i.toNat*F.length+F.length<=xs.length*F.length:=by rw[<-Nat.succ_mul];exact Nat.mul_le_mul_right _ O'
  omega
 have b4:rowAt F i.toNat f<xs.length*(J0 E t).sz:=by rw[<-l.row.1];exact y
 have n:∀H':I0,H'[b]?=w.heap[b]?->O1 H' b (o+rowAt F i.toNat f)=some cs[rowAt F i.toNat f]:=fun H' hH=>by
  rw[x H' hH _ b4,List.getElem?_eq_getElem y]
 have d:=l.one _ (List.getElem_mem y);refine⟨⟨by simp only[d05];rw[hl];rfl,by simp only[rdP];rw[hl]⟩,cs[rowAt F i.toNat f],C6 ρ s.nid cs[rowAt F i.toNat f],h.t03 (fun _ _ e=>by cases e) ⟨Nat.lt_succ_of_lt J,d,(e04 d).1⟩ (fun q' i' f' e=>?_),fun j hj=>by rw[n5 O'],?_,fun w' hw=>?_⟩
 ·cases e;refine⟨J,fun e2 F2 t2 b6 R=>?_⟩;rw[hl]at R;cases R;exact⟨b,o,_,c,hr,⟨h0,h1⟩,hf,n w.heap rfl⟩
 ·exact VS.of rfl (by unfold VC;rw[W4,(e04 d).1];exact⟨Nat.lt_succ_self _,d,rfl⟩)
 ·have hH:=hw.2 b trivial b3;have:=w0n (T:=T) (b:=b) (o:=o+rowAt F i.toNat f) a1 b1 (c:=[cs[rowAt F i.toNat f]]) rfl (fun _=>rfl) (w:=w') (fun j v hj=>by
   cases j with
   |zero=>simp at hj;subst hj;exact n w'.heap hH
   |succ j=>simp at hj)
  rw[hu];have e3:o+i.toNat*K2 E t+D4 qq=o+rowAt F i.toNat f:=by
   rw[U];unfold rowAt;rw[show K2 E t=F.length from I];omega
  rw[e3];simp[Instr.loadAt,Instr.sureAddr,this,M3]
def s01 (h:Rp E A s ρ S a as w){o:Oper}{q f:Nat}{i:Int}(b:j0w E s o=some (q,i,f)):
  (k9 E s o=true/\l9 E s o=none)/\∃u ρ1,Rp E A (s.new (.rof q i f)) ρ1 S a as w/\(∀j,j<s.nid->hd (ρ1 j)=hd (ρ j))/\VS E ρ1 (s.nid+1) w.heap S (.sl s.nid) u/\∀w',O6 E s S w (fun _=>True) w'->(execOp a.eval o).run E.P w'=.ok (.value u) w':=by
 unfold j0w at b;split at b<;>try cases b
 rename_i T x c;obtain⟨h1,u,ρ1,k,g,d,e⟩:=z0H h (h.val x) b;exact⟨⟨by unfold k9;rw[c];exact h1.1,by unfold l9;rw[c];exact h1.2⟩,u,ρ1,k,g,d,fun w' hw=>by simp[execOp,c,e w' hw]⟩
def p0q {α:Type}{a b:Option α}{r:α}(h:same a b=some r):a=some r/\b=some r:=by
 unfold same at h;split at h
 ·rename_i e;exact⟨h,e▸h⟩
 ·cases h
def D0e (h:Rp E A s ρ S a as w){tb:List Nat}{o:Oper}{b:Bool}{v1 v2:V E.D}(f:o0N E tb s o=some (b,v1,v2)):∃u,(∀w',(execOp a.eval o).run E.P w'=.ok (.value u) w')/\(VS E ρ s.nid w.heap S v2 u\/(b=true/\VS E ρ s.nid w.heap S v1 u)):=by
 unfold o0N at f;split at f<;>try cases f
 unfold s08 at f;split at f<;>try cases f
 rename_i op T x y I m;split at f<;>try cases f
 rename_i t xs pos v n hk g;obtain⟨R,J,r,C⟩:=k0U (E:=E) (T:=T);obtain⟨e,k⟩:=r hk;have ha:=h.val x;have j:=h.val y;rw[v]at ha;rw[n]at j;have hn:=j.b0q;obtain⟨l,c,d,i⟩:=ha.f0Z;have fin:∀{q:Bool},(∀w':World,(Op.equal T (a.eval x) (a.eval y)).run E.P w'=.ok q w')->s8 E op T (a.eval x) (a.eval y)->∀w',(execOp a.eval o).run E.P w'=.ok (.value (.bool (sgn pos q))) w':=by
  intro q heq hg w';have h1:(binOp op T (a.eval x) (a.eval y)).run E.P w'=.ok (.bool (sgn pos q)) w':=b0Z g (by rw[d];simp) (by rw[d];simp) (by rw[d];simp) (by rw[d];simp) (heq w');have p:=hg x y w';simp[execOp,m,h1,p]
 have hg:s8 E op T (a.eval x) (a.eval y):=by rw[d,hn];exact s8.of (by cases l<;>simp[a03])
 cases l with
 |none=>
  have z:xs=[]:=by
   cases xs with
   |nil=>rfl
   |cons y ys=>obtain⟨b,o,h,_⟩:=i.2.1 X';cases h
  subst z;refine⟨_,fin (q:=true) (fun w'=>?_) hg,.inr ⟨rfl,VS.i6⟩⟩;rw[d,hn];unfold Op.equal Op.maxDepth Op.equalIn;simp[run_underlying k]
 |some ad=>
  refine⟨_,fin (q:=false) (fun w'=>?_) hg,.inl VS.i6⟩;rw[d,hn];unfold Op.equal Op.maxDepth Op.equalIn;simp[run_underlying k]
def f0y (h:Rp E A s ρ S a as w){ops:Array Oper}{o:Oper}:(a09 E s ops o=.yes->Region.wanted o (yielded ops a.tmps)=true)/\(a09 E s ops o=.no->Region.wanted o (yielded ops a.tmps)=false)/\
  (∀d b,a09 E s ops o=.ask d b->a.tmps.getD d undef=.bool b):=by
 unfold a09 Region.wanted;cases hg:o.guard with
 |none=>simp
 |some jw=>
  obtain⟨j,want⟩:=jw;simp only;cases m:ops[j]? with
  |none=>simp
  |some g=>
   simp only;cases hd:g.dst with
   |none=>simp
   |some d=>
    simp only;cases hl:F4 s.fr d with
    |none=>simp
    |some v=>
     have l:=h.get hl;have q:∀x,a.tmps.getD d undef=.bool x->yielded ops a.tmps j=some x:=by
      intro x c;unfold yielded;simp only[m,Option.bind_some,hd];have:a.tmps[d]?=some (.bool x):=by
       rw[Array.getD_eq_getD_getElem?]at c;cases k:a.tmps[d]? with
       |none=>rw[k]at c;simp[undef]at c
       |some y=>rw[k]at c;simp at c;rw[c]
      rw[this]
     split
     ·rename_i b i;cases i;have c:=L9 (x:=b) rfl l;rw[q b c];cases b<;>cases want<;>simp
     ·rename_i i;cases i;obtain⟨us,hu,f⟩:=l.t0E;unfold VT at f;subst f;have:yielded ops a.tmps j≠some want:=by
       unfold yielded;simp only[m,Option.bind_some,hd];rw[Array.getD_eq_getD_getElem?]at hu;cases k:a.tmps[d]? with
       |none=>simp
       |some y=>rw[k]at hu;simp at hu;subst hu;simp
      simp[this]
     ·rename_i t n p e;cases e;split
      ·rename_i b i;simp only[Gt.ask.injEq,reduceCtorEq,false_implies,true_and]
       rintro r b' ⟨rfl,rfl⟩
       exact L9 i l
      ·simp
     ·simp
def Rp.m0r (h:Rp E A s ρ S a as w){d:Nat}{v:V E.D}(b:VS E ρ s.nid w.heap S v (a.tmps.getD d undef)):Rp E A (s.put (some d) v) ρ S a as w:=by
 refine⟨h.cx,⟨h.fr.size,h.fr.defers,fun t x hl=>?_⟩,h.stk,h.th,h.ow,h.dj,h.lt,h.rf,h.kp,h.hp⟩;simp only[St.put,a0X]at hl;split at hl
 ·rename_i e;simp only[Option.some.injEq]at hl;subst e;subst hl;exact b
 ·exact h.fr.slot t x hl
def Rp.f0c {s1:St E.D}{ρ1:Nat->Value}{S1:D0}{w1:World}(h:Rp E A s1 ρ1 S1 a as w1){n:Nat}{o:Oper}(hd:b03 n o=true)(hn:s1.n=n){v:V E.D}{u:Value}(b:VS E ρ1 s1.nid w1.heap S1 v u):Rp E A (s1.put o.dst v) ρ1 S1 (a.put o.dst u) as w1:=
 h.put (by rw[hn];exact hd) b
def Ex.out:Ex->Exit
 |.nrm=>.normal
 |.ex i=>.exit i
 |.ret=>.ret
def x0b (e:T1 E){A:E4}(h:Rp E A s ρ S a as w){r:ResultVar}{v:V E.D}(c:l0E E s r=some v):∃u,VS E ρ s.nid w.heap S v u/\(r9 a.tmps r).run E.P w=.ok u w:=by
 cases r with
 |tmp t=>
  simp only[l0E,Option.some.injEq]at c;subst c;exact⟨_,h.b08 t,by simp[r9]⟩
 |cell q T=>
  simp only[l0E]at c;split at c<;>try cases c
  rename_i g hl;have:=w0p e h (T:=T) (h.b08 q);rw[hl]at this;obtain⟨u,h1,f⟩:=this;have b:=f w ⟨⟨S,P0.refl _ _⟩,fun _ _ _=>rfl⟩;refine⟨u,h1,?_⟩;unfold Instr.loadAt at b;cases d:a.tmps.getD q undef<;>rw[d]at b<;>simp[Instr.sureAddr]at b
  rename_i ad;cases ad with
  |none=>simp[Instr.sureAddr]at b
  |some ad=>
   simp[Instr.sureAddr]at b;simp only[r9,d];simp[asAddr,b]
def o0f (f:T1 E){A:E4}(h:Rp E A s ρ S a as w):∀{l:List ResultVar} {vs:List (V E.D)},h0Q E s l=some vs->∃us,VT E ρ s.nid w.heap S vs us/\us.length=l.length/\(l.mapM (r9 a.tmps)).run E.P w=.ok us w
 |[],vs,hr=>by
  simp only[h0Q,Option.some.injEq]at hr;subst hr;exact⟨[],by unfold VT;rfl,rfl,X'⟩
 |x :: l,vs,hr=>by
  simp only[h0Q]at hr;split at hr<;>try cases hr
  rename_i v g h1 j;obtain⟨u,⟨c,i,hu⟩,d⟩:=x0b f h h1;obtain⟨us,e,hl,b⟩:=o0f f h j;exact⟨u :: us,by unfold VT;exact⟨c,us,i,by rw[hu],e⟩,by simp[hl],by simp[List.mapM_cons,d,b]⟩
def r0y (p:T1 E){A:E4}(h:Rp E A s ρ S a as w){fn:Func}{v:V E.D}(m:result E s fn=some v):∃u,VS E ρ s.nid w.heap S v u/\(results fn a.tmps).run E.P w=.ok u w:=by
 have f:∀us:List Value,(fn.results.toList.mapM (r9 a.tmps)).run E.P w=.ok us w->(results fn a.tmps).run E.P w=.ok (if h:us.toArray.size=1 then us.toArray[0]else .tuple us.toArray) w:=by
  intro us k;have:results fn a.tmps=(do let vs <-fn.results.mapM (r9 a.tmps);pure (if h:vs.size=1 then vs[0]else .tuple vs)):=by
   unfold results;congr 1
  rw[this];have e:fn.results.mapM (r9 a.tmps)=(fun l=>l.toArray) <$> fn.results.toList.mapM (r9 a.tmps):=by
   rw[<-Array.mapM_eq_mapM_toList]
  rw[e];simp[k]
 unfold result at m;split at m<;>try cases m
 ·rename_i t i;obtain⟨us,b,hl,d⟩:=o0f p h i;unfold VT at b;obtain⟨c,g,q,rfl,b⟩:=b;unfold VT at b;subst b;exact⟨_,⟨c,q,rfl⟩,by rw[f _ d];simp⟩
 ·rename_i l j i;obtain⟨us,b,hl,d⟩:=o0f p h i;refine⟨.tuple us.toArray,VS.of rfl (by unfold VC;exact⟨us,rfl,b⟩),?_⟩;rw[f _ d];have:us.toArray.size≠1:=by
   intro h1
   match l,us,b,h1 with
   |[],[],_,h1=>simp at h1
   |[v],_,_,_=>exact j v rfl
   |[],u :: us,b,_=>unfold VT at b;simp at b
   |v :: v2 :: l,[],b,h1=>simp at h1
   |v :: v2 :: l,[u],b,_=>
    unfold VT at b;obtain⟨c,g,_,o,n⟩:=b;simp at o;obtain⟨_,rfl⟩:=o;unfold VT at n;obtain⟨_,_,_,r,_⟩:=n;cases r
   |v :: v2 :: l,u :: x :: us,_,h1=>simp at h1
  rw[dif_neg this]
def l0U {n:Nat}{H:I0}:∀{args:List (V E.D)} {us:List Value},VT E ρ n H S args us->∀(i t:Nat) (v:V E.D),F4 (P9 args i) t=some v->∃u,us[t-i]?=some u/\i<=t/\VS E ρ n H S v u
 |[],us,h,i,t,v,hl=>by simp[P9,F4]at hl
 |x :: args,us,h,i,t,v,hl=>by
  unfold VT at h;obtain⟨c,b,h1,rfl,d⟩:=h;simp only[P9,a0X]at hl;split at hl
  ·rename_i e;simp only[Option.some.injEq]at hl;subst e;subst hl;exact⟨_,by rw[Nat.sub_self];rfl,Nat.le_refl _,c,h1,rfl⟩
  ·obtain⟨u,f,j,g⟩:=l0U d (i+1) t v hl;refine⟨u,?_,O',g⟩;rw[show t-i=(t-(i+1))+1 from O'];simpa using f
def VT.length {n:Nat}{H:I0}:∀{l:List (V E.D)} {us:List Value},VT E ρ n H S l us->us.length=l.length
 |[],us,h=>by unfold VT at h;subst h;rfl
 |v :: l,us,h=>by
  unfold VT at h;obtain⟨c,u,_,rfl,b⟩:=h;simp[VT.length b]
def Rp.enter {A:E4}(h:Rp E A s ρ S a as w){args:List (V E.D)}{us:List Value}(c:VT E ρ s.nid w.heap S args us){m:Nat}(hm:args.length<=m):
  Rp E A { s with n:=m,fr:=P9 args 0,stk:=(s.n,s.fr) :: s.stk } ρ S { tmps:=us.toArray++Array.replicate (m-us.toArray.size) undef,defers:=[] } (a :: as) w:=by
 have hl:=c.length;refine⟨h.cx,⟨Z',rfl,fun t v e=>?_⟩,⟨h.fr,h.stk⟩,h.th,h.ow,h.dj,h.lt,h.rf,h.kp,h.hp⟩;obtain⟨u,h1,_,d⟩:=l0U c 0 t v e;rw[Nat.sub_zero]at h1;have b:t<us.length:=(List.getElem?_eq_some_iff.1 h1).1;have:(us.toArray++Array.replicate (m-us.toArray.size) undef).getD t undef=u:=by
  rw[Array.getD_eq_getD_getElem?,Array.getElem?_append_left (by simpa using b)];simp[h1]
 rw[this];exact d
def w0g {g:Nat}{fn:Func}{c:Code}(h:e0x E g=some (fn,c)):E.P.funcs[g]?=some fn/\fn.body=some c:=by
 unfold e0x at h;split at h<;>try cases h
 rename_i f d;split at h<;>try cases h
 rename_i b e;exact⟨d,e⟩
def p0v (i:T1 E){ops:Array Oper}{Q:Exit->Act->World->Prop}:∀(l:List Oper) {s c:St E.D} {a:Act},g0o E ops l s=some c->Rp E A s ρ S a as w->
  (∀d,Rp E A c ρ S d as w->c.nid=s.nid->c.stk=s.stk->Q .normal d w)->wpList E.P ops Q l a w
 |[],s,c,a,hp,h,hQ=>by
  simp only[g0o,Option.some.injEq]at hp;subst hp;exact hQ a h rfl rfl
 |o :: l,s,c,a,hp,h,hQ=>by
  simp only[g0o]at hp;split at hp<;>try cases hp
  rename_i b;obtain⟨g1,g2,_⟩:=f0y h (ops:=ops) (o:=o);split at hp<;>try cases hp
  ·rename_i hg;split at hp<;>try cases hp
   rename_i v k;have j:=n0V i h o;rw[k]at j;obtain⟨u,h1,m⟩:=j;unfold wpList;rw[if_pos (g1 hg)];refine .inl ?_;simp only[Oper.wp,m w ⟨⟨S,P0.refl _ _⟩,fun _ _ _=>rfl⟩,Oper.upon];exact p0v i l hp (h.f0c b rfl h1) fun d f g e=>hQ d f (g.trans (by cases o.dst<;>rfl)) (e.trans (by cases o.dst<;>rfl))
  ·rename_i hg;unfold wpList;rw[g2 hg];simp only[Bool.false_eq_true,if_false];exact p0v i l hp (h.f0c b rfl VS.unit) fun d f g e=>hQ d f (g.trans (by cases o.dst<;>rfl)) (e.trans (by cases o.dst<;>rfl))
def d0f (k:T1 E):∀(f:Nat) (c:Code) {s m:St E.D} {e:Ex} {a:Act} {Q:Exit->Act->World->Prop},o9 E f c s=some (e,m)->Rp E A s ρ S a as w->
  (∀d,Rp E A m ρ S d as w->m.nid=s.nid->m.stk=s.stk->Q e.out d w)->c.wp E.P Q a w
 |0,c,s,m,e,a,Q,hp,h,b=>by simp[o9]at hp
 |f+1,c,s,m,e,a,Q,hp,h,b=>by
  cases c with
  |skip=>
   simp only[o9,Option.some.injEq,Prod.mk.injEq]at hp;obtain⟨rfl,rfl⟩:=hp;exact wp_skip (b a h rfl rfl)
  |region id ops draw=>
   simp only[o9]at hp;split at hp<;>try cases hp
   split at hp<;>try cases hp
   rename_i s1 h1;exact wp_region_list (p0v k _ h1 h fun d g j l=>b d g j l)
  |seq x y=>
   simp only[o9]at hp;refine wp_seq ?_;split at hp<;>try cases hp
   ·rename_i s1 h1;exact d0f k f x h1 h fun d g j l=>d0f k f y hp g fun q t u v=>b q t (u.trans j) (v.trans l)
   ·rename_i i h1;exact d0f k f x h1 h fun d g j l=>b d g j l
   ·rename_i h1;exact d0f k f x h1 h fun d g j l=>b d g j l
  |cond c x y=>
   simp only[o9]at hp;have o:=h.val c;split at hp<;>try cases hp
   ·rename_i r;rw[r]at o;exact wp_cond_true (L9 (x:=true) rfl o) (d0f k f x hp h b)
   ·rename_i r;rw[r]at o;exact wp_cond_false (L9 (x:=false) rfl o) (d0f k f y hp h b)
  |block id x=>
   simp only[o9]at hp;split at hp<;>try cases hp
   rename_i j s1 h1;refine wp_block (d0f k f x h1 h fun d g p n=>?_);split at hp<;>cases hp
   ·rename_i he;have:=Ex.k0F he;subst this;simp only[Ex.out,Exit.inBlock,if_true];exact b d g p n
   ·rename_i he;cases e with
    |nrm=>exact b d g p n
    |ret=>exact b d g p n
    |ex i=>
     have:i≠id:=by rintro rfl;simp[Ex.eq]at he
     simp only[Ex.out,Exit.inBlock,if_neg this];exact b d g p n
  |exit id=>
   simp only[o9,Option.some.injEq,Prod.mk.injEq]at hp;obtain⟨rfl,rfl⟩:=hp;exact wp_exit (b a h rfl rfl)
  |ret=>
   simp only[o9,Option.some.injEq,Prod.mk.injEq]at hp;obtain⟨rfl,rfl⟩:=hp;exact wp_ret (b a h rfl rfl)
  |_=>simp[o9]at hp
def D0s (l:T1 E){g:Nat}{args:List (V E.D)}{v:V E.D}{us:List Value}(hp:i0R E g args s=some v)(h:Rp E A s ρ S a as w)(o:VT E ρ s.nid w.heap S args us):
  Calls E.P g us.toArray w (fun e w1=>∃u,e=.returned u/\w1=w/\VS E ρ s.nid w.heap S v u):=by
 unfold i0R at hp;split at hp<;>try cases hp
 rename_i fn body c;obtain⟨b,r⟩:=w0g c;split at hp<;>try cases hp
 rename_i e n hn d;rw[Nat.ble_eq]at hn;split at hp<;>try cases hp
 rename_i f;refine calls_of_wp b r ?_;refine d0f l _ body d (h.enter o hn) fun m k p t=>?_;obtain⟨u,h1,q⟩:=r0y l k hp;have fin:m.defers=[]/\∃j,(results fn m.tmps).run E.P w=.ok j w/\∃u,Ending.returned j=.returned u/\w=w/\VS E ρ s.nid w.heap S v u:=⟨k.fr.defers,u,q,u,rfl,rfl,by rw[<-show n.nid=s.nid from p];exact h1⟩
 cases e with
 |nrm=>exact fin
 |ret=>exact fin
 |ex i=>cases f
def t0B (hE:T1 E){C:J3 E}{inl:Inl E}(hi:e0G E inl)(hs:d0j E C){R:Type}{k:K E R}{r:R}{o:Oper}(hk:opV E C inl s o k=some r)(h:Rp E A s ρ S a as w){K:Act->World->Prop}{Q:Exit->Act->World->Prop}
  (y:∀s1 v u ρ1 S1 w1,k s1 v=some r->Rp E A s1 ρ1 S1 a as w1->VS E ρ1 s1.nid w1.heap S1 v u->Ext s s1->s1.fr=s.fr->(e0s E C s o=true->∀k,k<w.heap.size->(∀q,q<s.nid->Q1 (F0 s q)=true->W6 s s1 q=true->¬Bk (ρ q) k)->w1.heap[k]?=w.heap[k]?)->K (a.put o.dst u) w1):o.wp E.P a w K Q:=by
 have hq:=n0V hE h o;have a1:O6 E s S w (e0Q E s ρ o) w:=⟨⟨S,P0.refl _ _⟩,fun _ _ _=>rfl⟩
 unfold opV at hk;split at hk
 ·rename_i b v1 v2 ht;obtain⟨u,h1,d⟩:=D0e h ht;have kk:∀{v},VS E ρ s.nid w.heap S v u->k s v=some r->o.wp E.P a w K Q:=fun J b5=>by
   simp only[Oper.wp,h1 w,Oper.upon];exact y s _ u ρ S w b5 h J (Ext.refl s) rfl (fun _ _ _ _=>rfl)
  rcases d with d|⟨rfl,d⟩
  ·cases b with
   |true=>exact kk d (p0q hk).2
   |false=>exact kk d hk
  ·exact kk d (p0q hk).1
 have I:evE E C.tb s o k=some r->o.wp E.P a w K Q:=by
  intro hk;obtain⟨s1,v,u,w1,h1,⟨⟨ρ1,S1,d,p,_⟩,n,l,h7⟩,m⟩:=H0g hE h hk;have:=y s1 v u ρ1 S1 w1 h1 d p n l (fun _=>h7);rcases m with m|⟨rfl,m⟩
  ·simp only[Oper.wp,m,Oper.upon];exact this
  ·simp only[Oper.wp,m,Oper.upon];exact this
 split at hk
 ·rename_i v J;rw[J]at hq;obtain⟨u,h1,d⟩:=hq;simp only[Oper.wp,d w a1,Oper.upon];exact y s v u ρ S w hk h h1 (Ext.refl s) rfl (fun _ _ _ _=>rfl)
 ·rename_i b v J;rw[J]at hq;split at hk<;>try cases hk
  rename_i hb;obtain⟨u,h1,d⟩:=hq hb;simp only[Oper.wp,d w a1,Oper.upon];exact y s v u ρ S w hk h h1 (Ext.refl s) rfl (fun _ _ _ _=>rfl)
 ·split at hk
  ·rename_i q i f hb;obtain⟨h1,u,ρ1,d,p,n,l⟩:=s01 h hb;simp only[Oper.wp,l w ⟨⟨S,P0.refl _ _⟩,fun _ _ _=>rfl⟩,Oper.upon];exact y _ _ u ρ1 S w hk d n (Ext.new s _) rfl (fun _ _ _ _=>rfl)
  split at hk
  ·rename_i c ho;split at hk
   ·exact I hk
   ·rename_i f hc;split at hk<;>try cases hk
    rename_i g caps hf;split at hk<;>try cases hk
    rename_i b2;have U:=h.val f;rw[hf]at U;obtain⟨c0,b1,x⟩:=U;unfold VC at b1;obtain⟨us,rfl,b4⟩:=b1;have x:a.eval f=.func (.func g) #[] us.toArray:=x;have j:=(VT.of h c.args.toList).app b4;have key:Calls E.P g (c.args.toList.map a.eval++us).toArray w (fun e w1=>∃v,e=.returned v/\∃s1 V ρ1 S1,k s1 V=some r/\Rp E A s1 ρ1 S1 a as w1/\VS E ρ1 s1.nid w1.heap S1 V v/\Ext s s1/\s1.fr=s.fr/\(e0s E C s o=true->∀k,k<w.heap.size->(∀q,q<s.nid->Q1 (F0 s q)=true->W6 s s1 q=true->¬Bk (ρ q) k)->w1.heap[k]?=w.heap[k]?)):=by
     unfold t0d at hk;split at hk
     ·rename_i sm hl;refine(hs g _ s sm hl _ k r hk A ρ S a as w _ h j).mono ?_
      rintro e w1 ⟨v,rfl,s1,V,ρ1,S1,h1,d,p,n,l,m⟩
      exact⟨v,rfl,s1,V,ρ1,S1,h1,d,p,n,l,fun _=>m⟩
     ·rename_i hl;split at hk
      ·rename_i v t;refine(D0s hE t h j).mono ?_
       rintro e w1 ⟨u,rfl,rfl,h1⟩
       exact⟨u,rfl,s,v,ρ,S,hk,h,h1,Ext.refl s,rfl,fun _ _ _ _=>rfl⟩
      rename_i t;have b3:e0s E C s o=false:=by
       unfold e0s;rw[ho];simp only[hc];rw[hf];simp[hl,t]
      refine(hi _ g _ s k r hk A ρ S a as w _ h j).mono ?_
      rintro e w1 ⟨v,rfl,s1,V,ρ1,S1,h1,d,p,n,l⟩
      exact⟨v,rfl,s1,V,ρ1,S1,h1,d,p,n,l,fun e=>by rw[b3]at e;cases e⟩
    have z:(execOp a.eval o).run E.P w=.ok (.enter g (c.args.toList.map a.eval++us).toArray) w:=by
     have e:c.args.map a.eval++us.toArray=(c.args.toList.map a.eval++us).toArray:=by
      apply Array.ext';simp
     simp[execOp,ho,resolve,hc,Deferred.ofValue,x,invoke];rw[e];simpa using z0r b2 _ w
    simp only[Oper.wp,z,Oper.upon];refine key.mono ?_
    rintro e w1 ⟨v,rfl,s1,V,ρ1,S1,h1,d,p,n,l,m⟩
    exact y s1 V v ρ1 S1 w1 h1 d p n l m
   ·cases hk
  ·exact I hk
def d06 (x:T1 E){C:J3 E}{inl:Inl E}(hi:e0G E inl)(hs:d0j E C){ops:Array Oper}:∀(f:Nat) {R:Type} (cs:List (Nat×Nat×Cut)) (i stop:Nat) (l:List Oper) (s:St E.D) (k:St E.D->Option R) (r:R),evs E C inl ops f cs i stop l s k=some r->i<=stop->
  ∀(ρ:Nat->Value) (S:D0) (a:Act) (w:World),Rp E A s ρ S a as w->∀(Q:Exit->Act->World->Prop),(∀m ρ' q j w',k m=some r->Rp E A m ρ' q j as w'->Ext s m->wpList E.P ops Q (l.drop (stop-i)) j w')->wpList E.P ops Q l a w
 |0,R,cs,i,stop,l,s,k,r,hk,_=>by simp[evs]at hk
 |f+1,R,cs,i,stop,l,s,k,r,hk,hle=>by
  intro ρ S a w h Q y;simp only[evs]at hk;split at hk
  ·rename_i he;rw[Nat.beq_eq]at he;subst he;have:=y s ρ S a w hk h (Ext.refl s)
   rwa [Nat.sub_self,List.drop_zero]at this
  ·rename_i U;have U:i≠stop:=by rintro rfl;simp at U
   split at hk
   ·rename_i b c r' b7;split at hk<;>try cases hk
    rename_i I;rw[Bool.and_eq_true,Nat.ble_eq,Nat.blt_eq]at I;obtain⟨d,hd,hk⟩:=a0c hk;refine d06 x hi hs f _ i (b+1) l s _ d hd O' ρ S a w h Q fun m ρ' q j w' hp t he=>?_;obtain⟨u,ρ1,S1,h1,h2,h3,_⟩:=d0N x (fun i u ha=>(h.hp i u ha).1) h t he hp hk;refine d06 x hi hs f _ (b+1) stop _ u _ r h1 O' ρ1 S1 j w' h2 Q fun b6 ρ'' b1 a1 b5 b3 b2 J=>?_;have:=y b6 ρ'' b1 a1 b5 b3 b2 (h3.trans J);rw[List.drop_drop]
    rwa [show b+1-i+(stop-(b+1))=stop-i from O']
   ·split at hk<;>try cases hk
    rename_i o l';split at hk<;>try cases hk
    rename_i z;obtain⟨g1,g2,g3⟩:=f0y h (ops:=ops) (o:=o);have p:(o :: l').drop (stop-i)=l'.drop (stop-(i+1)):=by
     rw[show stop-i=(stop-(i+1))+1 from O',List.drop_succ_cons]
    rw[p]at y;split at hk
    ·cases hk
    ·rename_i hg;unfold wpList;rw[if_pos (g1 hg)];refine .inl (t0B x hi hs hk h fun s1 v u ρ1 S1 w1 b4 h1 hv he b8 _=>?_);refine d06 x hi hs f cs (i+1) stop l' _ k r b4 O' ρ1 S1 _ w1 (h1.f0c z he.n hv) Q fun m ρ' q j w' g t e=>?_;exact y m ρ' q j w' g t ((he.trans (Ext.put s1 o.dst v)).trans e)
    ·rename_i hg;unfold wpList;rw[g2 hg];simp only[Bool.false_eq_true,if_false];refine d06 x hi hs f cs (i+1) stop l' _ k r hk O' ρ S _ w (h.f0c z rfl VS.unit) Q fun m ρ' q j w' g t e=>?_;exact y m ρ' q j w' g t ((Ext.put s o.dst _).trans e)
    ·rename_i d b hg;have hv:=g3 d b hg;rw[<-p]at y;split at hk
     ·rename_i I;subst I;exact d06 x hi hs f cs i stop (o :: l') _ k r hk hle ρ S a w (h.m0r (by rw[hv];exact VS.kb)) Q fun m ρ' q j w' g t e=>y m ρ' q j w' g t ((Ext.put s (some d) _).trans e)
     ·rename_i I;have I:b=false:=by simpa using I
      subst I;exact d06 x hi hs f cs i stop (o :: l') _ k r hk hle ρ S a w (h.m0r (by rw[hv];exact VS.kb)) Q fun m ρ' q j w' g t e=>y m ρ' q j w' g t ((Ext.put s (some d) _).trans e)
end
