/- P. Its conditions: none. -/
import Derived.Test.YtihmgaccbcfgjaaGreatRX9
set_option linter.all false
namespace Go.X
open Go.V Go.RowKit
section
variable {E:Env}{A:E4}{s:St E.D}{ρ:Nat->Value}{S:D0}{a:Act}{as:List Act}{w:World}
def v0j (E:Env)(A:E4)(s:St E.D)(a:Act)(as:List Act){R:Type}(k:K E R)(r:R)(e:Ending)(w1:World):Prop:=
 ∃v,e=.returned v/\∃s1 V ρ1 S1,k s1 V=some r/\Rp E A s1 ρ1 S1 a as w1/\VS E ρ1 s1.nid w1.heap S1 V v/\Ext s s1/\s1.fr=s.fr
def p0P (E:Env)(A:E4)(s:St E.D)(ρ:Nat->Value)(a:Act)(as:List Act)(w:World){R:Type}(k:K E R)(r:R)(e:Ending)(w1:World):Prop:=
 ∃v,e=.returned v/\∃s1 V ρ1 S1,k s1 V=some r/\Rp E A s1 ρ1 S1 a as w1/\VS E ρ1 s1.nid w1.heap S1 V v/\Ext s s1/\s1.fr=s.fr/\(∀k,k<w.heap.size->(∀q,q<s.nid->Q1 (F0 s q)=true->W6 s s1 q=true->¬Bk (ρ q) k)->w1.heap[k]?=w.heap[k]?)
def e0G (E:Env)(inl:Inl E):Prop:=∀(R:Type) (g:Nat) (args:List (V E.D)) (s:St E.D) (k:K E R) (r:R),inl g args s k=some r->∀(A:E4) (ρ:Nat->Value) (S:D0) (a:Act) (as:List Act) (w:World) (us:List Value),
 Rp E A s ρ S a as w->VT E ρ s.nid w.heap S args us->Calls E.P g us.toArray w (v0j E A s a as k r)
def d0j (E:Env)(C:J3 E):Prop:=∀(g:Nat) (args:List (V E.D)) (s:St E.D) (c:Sm E.D),e0U E s args C.sm g=some c->∀(R:Type) (k:K E R) (r:R),j0X E s c args k=some r->∀(A:E4) (ρ:Nat->Value) (S:D0) (a:Act) (as:List Act) (w:World) (us:List Value),
 Rp E A s ρ S a as w->VT E ρ s.nid w.heap S args us->Calls E.P g us.toArray w (p0P E A s ρ a as w k r)
theorem G0y {g:Nat} (h:k0B E g=true):∃ fn,E.P.funcs[g]?=some fn/\fn.body.isSome=true/\(fn.name== "runtime.NumGoroutine")=false:=by
 unfold k0B at h
 grind
theorem z0r {g:Nat}(h:k0B E g=true)(args:Array Value)(w:World):(callFunc g args).run E.P w=.ok (.enter g args) w:=by
 obtain⟨fn,h1,c,d⟩:=G0y h;have b:fn.body≠none:=by grind
 simp_all[callFunc]
theorem z0H (h:Rp E A s ρ S a as w){T:Nat}{p:V E.D}{up:Value}(hp:VS E ρ s.nid w.heap S p up){q f:Nat}{i:Int}(k:m0x E s T p=some (q,i,f)):
  (d05 s p=true/\rdP s p=none)/\∃u ρ1,Rp E A (s.new (.rof q i f)) ρ1 S a as w/\(∀j,j<s.nid->hd (ρ1 j)=hd (ρ j))/\VS E ρ1 (s.nid+1) w.heap S (.sl s.nid) u/\∀w',O6 E s S w (fun _=>True) w'->(Instr.loadAt T up).run E.P w'=.ok u w':=by
 unfold m0x at k;split at k
 rotate_left
 ·cases k
 obtain⟨x,b5,b,o,m,c,hr,⟨h0,h1⟩,hu⟩:=hp.d0e;split at k<;>try cases k
 rename_i e F t xs y;split at k<;>try cases k
 rename_i ff C U J;split at k<;>try cases k
 rename_i hz;rw[Bool.and_eq_true,Nat.beq_eq,Nat.blt_eq]at hz;obtain⟨rfl,hf⟩:=hz;have hl:=e0u y;have g:=h.th q;rw[hl]at g;obtain⟨cs,g⟩:=g;obtain⟨b2,_⟩:=d0C g.ok;have b1:=u0C g.ok J hf;have l:=g.row;rw[hr]at l;obtain⟨rfl,R,_,a1⟩:=Row.cell l O';have I:rowAt F i.toNat f<cs.length:=by
  rw[g.sz];unfold rowAt;have:i.toNat*F.length+F.length<=xs.length*F.length:=by rw[<-Nat.succ_mul];exact Nat.mul_le_mul_right _ O'
  omega
 have b4:rowAt F i.toNat f<xs.length*(J0 E t).sz:=by rw[<-g.row.1];omega
 have r:∀z:I0,z[b]?=w.heap[b]?->O1 z b (o+rowAt F i.toNat f)=some cs[rowAt F i.toNat f]:=fun z hH=>by
  simp_all
 have d:=g.one _ (List.getElem_mem I);refine⟨⟨by simp only[d05];rw[hl];rfl,by simp_all[rdP]⟩,cs[rowAt F i.toNat f],C6 ρ s.nid cs[rowAt F i.toNat f],h.t03 (fun _ _ e=>by cases e) ⟨Nat.lt_succ_of_lt x,d,(e04 d).1⟩ (fun q' i' f' e=>?_),fun j hj=>by grind [n5],?_,fun w' hw=>?_⟩
 ·cases e;refine⟨x,fun e2 F2 t2 b3 n=>?_⟩;rw[hl]at n;cases n;exact⟨b,o,_,c,hr,⟨h0,h1⟩,hf,r w.heap rfl⟩
 ·exact VS.of rfl (by unfold VC;rw[W4,(e04 d).1];simp_all)
 ·have hH:=hw.2 b trivial R;have:=w0n (T:=T) (b:=b) (o:=o+rowAt F i.toNat f) C U (c:=[cs[rowAt F i.toNat f]]) rfl (fun _=>rfl) (w:=w') (fun j v hj=>by
   grind)
  grind [K2,rowAt,Instr.loadAt,Instr.sureAddr,M3]
def s01 (h:Rp E A s ρ S a as w){o:Oper}{q f:Nat}{i:Int}(b:j0w E s o=some (q,i,f)):
  (k9 E s o=true/\l9 E s o=none)/\∃u ρ1,Rp E A (s.new (.rof q i f)) ρ1 S a as w/\(∀j,j<s.nid->hd (ρ1 j)=hd (ρ j))/\VS E ρ1 (s.nid+1) w.heap S (.sl s.nid) u/\∀w',O6 E s S w (fun _=>True) w'->(execOp a.eval o).run E.P w'=.ok (.value u) w':=by
 unfold j0w at b;split at b<;>try cases b
 rename_i T x ho;obtain⟨h1,u,ρ1,d,e,c,g⟩:=z0H h (h.val x) b;exact⟨⟨by simp_all[k9],by simp_all[l9]⟩,u,ρ1,d,e,c,fun w' hw=>by simp_all[execOp]⟩
theorem p0q {α:Type}{a b:Option α}{r:α}(h:same a b=some r):a=some r/\b=some r:=by
 grind [same]
theorem D0e (h:Rp E A s ρ S a as w){tb:List Nat}{o:Oper}{b:Bool}{v1 v2:V E.D}(d:o0N E tb s o=some (b,v1,v2)):∃u,(∀w',(execOp a.eval o).run E.P w'=.ok (.value u) w')/\(VS E ρ s.nid w.heap S v2 u\/(b=true/\VS E ρ s.nid w.heap S v1 u)):=by
 unfold o0N at d;split at d<;>try cases d
 unfold s08 at d;split at d<;>try cases d
 rename_i op T x y C ho;split at d<;>try cases d
 rename_i t xs pos l m hk g;obtain⟨I,r,p,v⟩:=k0U (E:=E) (T:=T);obtain⟨e,k⟩:=p hk;have ha:=h.val x;have j:=h.val y;rw[l]at ha;rw[m]at j;have hn:=j.b0q;obtain⟨A',c,f,i⟩:=ha.f0Z;have fin:∀{q:Bool},(∀w':World,(Op.equal T (a.eval x) (a.eval y)).run E.P w'=.ok q w')->s8 E op T (a.eval x) (a.eval y)->∀w',(execOp a.eval o).run E.P w'=.ok (.value (.bool (sgn pos q))) w':=by
  intro q heq hg w';have h1:(binOp op T (a.eval x) (a.eval y)).run E.P w'=.ok (.bool (sgn pos q)) w':=b0Z g (by simp_all) (by simp_all) (by simp_all) (by simp_all) (heq w');have z:=hg x y w'
  simp_all[execOp]
 have hg:s8 E op T (a.eval x) (a.eval y):=by grind [s8.of,a03]
 cases A' with
 |none=>
  have n:xs=[]:=by
   cases xs with
   |nil=>rfl
   |cons y ys=>obtain⟨b,o,h,_⟩:=i.2.1 Z';cases h
  subst n;refine⟨_,fin (q:=true) (fun w'=>?_) hg,.inr ⟨rfl,VS.i6⟩⟩;rw[f,hn];unfold Op.equal Op.maxDepth Op.equalIn;simp[run_underlying k]
 |some ad=>
  refine⟨_,fin (q:=false) (fun w'=>?_) hg,.inl VS.i6⟩;rw[f,hn];unfold Op.equal Op.maxDepth Op.equalIn;simp[run_underlying k]
theorem f0y (h:Rp E A s ρ S a as w){ops:Array Oper}{o:Oper}:(a09 E s ops o=.yes->Region.wanted o (yielded ops a.tmps)=true)/\(a09 E s ops o=.no->Region.wanted o (yielded ops a.tmps)=false)/\
  (∀d b,a09 E s ops o=.ask d b->a.tmps.getD d undef=.bool b):=by
 unfold a09 Region.wanted;cases hg:o.guard with
 |none=>simp
 |some jw=>
  obtain⟨j,want⟩:=jw;simp only;cases ho:ops[j]? with
  |none=>simp
  |some g=>
   simp only;cases hd:g.dst with
   |none=>simp
   |some d=>
    simp only;cases hl:F4 s.fr d with
    |none=>simp
    |some v=>
     have i:=h.get hl;have n:∀x,a.tmps.getD d undef=.bool x->yielded ops a.tmps j=some x:=by
      intro x f;unfold yielded;have:a.tmps[d]?=some (.bool x):=by
       rw[Array.getD_eq_getD_getElem?]at f
       grind [undef]
      grind
     split
     ·rename_i b c;cases c;have f:=L9 (x:=b) rfl i
      grind
     ·rename_i c;cases c;obtain⟨us,hu,l⟩:=i.t0E;have:yielded ops a.tmps j≠some want:=by
       unfold yielded;rw[Array.getD_eq_getD_getElem?]at hu
       grind
      grind
     ·rename_i p k m e;split
      ·simp only[Gt.ask.injEq,reduceCtorEq,false_implies,true_and]
       grind [L9]
      ·simp
     ·simp
def Rp.m0r (h:Rp E A s ρ S a as w){d:Nat}{v:V E.D}(b:VS E ρ s.nid w.heap S v (a.tmps.getD d undef)):Rp E A (s.put (some d) v) ρ S a as w:=by
 refine⟨h.cx,⟨h.fr.size,h.fr.defers,fun t x hl=>?_⟩,h.stk,h.th,h.ow,h.dj,h.lt,h.rf,h.kp,h.hp⟩;simp only[St.put,a0X]at hl;split at hl
 ·rename_i e;simp only[Option.some.injEq]at hl;subst e;subst hl;exact b
 ·exact h.fr.slot t x hl
def Rp.f0c {s1:St E.D}{ρ1:Nat->Value}{S1:D0}{w1:World}(h:Rp E A s1 ρ1 S1 a as w1){n:Nat}{o:Oper}(hd:b03 n o=true)(hn:s1.n=n){v:V E.D}{u:Value}(b:VS E ρ1 s1.nid w1.heap S1 v u):Rp E A (s1.put o.dst v) ρ1 S1 (a.put o.dst u) as w1:=
 h.put (by rw[hn];exact hd) b
def Ex.out:Ex->Exit
 |.nrm=>.normal
 |.ex i=>.exit i
 |.ret=>.ret
def x0b (e:T1 E){A:E4}(h:Rp E A s ρ S a as w){r:ResultVar}{v:V E.D}(b:l0E E s r=some v):∃u,VS E ρ s.nid w.heap S v u/\(r9 a.tmps r).run E.P w=.ok u w:=by
 cases r with
 |tmp t=>
  simp only[l0E,Option.some.injEq]at b;subst b;exact⟨_,h.b08 t,by rfl⟩
 |cell q T=>
  simp only[l0E]at b;split at b<;>try cases b
  rename_i g hl;have:=w0p e h (T:=T) (h.b08 q);rw[hl]at this;obtain⟨u,h1,f⟩:=this;have c:=f w ⟨⟨S,P0.refl _ _⟩,fun _ _ _=>rfl⟩;unfold Instr.loadAt at c;cases d:a.tmps.getD q undef<;>rw[d]at c<;>simp[Instr.sureAddr]at c
  rename_i ad;cases ad with
  |none=>simp_all
  |some ad=>
   simp_all[r9,asAddr]
theorem o0f (e:T1 E){A:E4}(h:Rp E A s ρ S a as w):∀{l:List ResultVar} {vs:List (V E.D)},h0Q E s l=some vs->∃us,VT E ρ s.nid w.heap S vs us/\us.length=l.length/\(l.mapM (r9 a.tmps)).run E.P w=.ok us w
 |[],vs,hr=>by
  simp only[h0Q,Option.some.injEq]at hr;subst hr;exact⟨[],by rfl,rfl,Z'⟩
 |x :: l,vs,hr=>by
  simp only[h0Q]at hr;split at hr<;>try cases hr
  rename_i v f h1 g;obtain⟨u,⟨c,j,hu⟩,d⟩:=x0b e h h1;obtain⟨us,i,hl,b⟩:=o0f e h g;exact⟨u :: us,by grind [VT],by grind,by simp_all⟩
theorem r0y (i:T1 E){A:E4}(h:Rp E A s ρ S a as w){fn:Func}{v:V E.D}(g:result E s fn=some v):∃u,VS E ρ s.nid w.heap S v u/\(results fn a.tmps).run E.P w=.ok u w:=by
 have j:∀us:List Value,(fn.results.toList.mapM (r9 a.tmps)).run E.P w=.ok us w->(results fn a.tmps).run E.P w=.ok (if h:us.toArray.size=1 then us.toArray[0]else .tuple us.toArray) w:=by
  have:results fn a.tmps=(do let vs <-fn.results.mapM (r9 a.tmps);pure (if h:vs.size=1 then vs[0]else .tuple vs)):=by
   rfl
  simp_all[Array.mapM_eq_mapM_toList]
 unfold result at g;split at g<;>try cases g
 ·rename_i q f;obtain⟨us,b,hl,d⟩:=o0f i h f;obtain⟨c,e,m,rfl,b⟩:=b;subst b;exact⟨_,⟨c,m,rfl⟩,by simp_all⟩
 ·rename_i l k f;obtain⟨us,b,hl,d⟩:=o0f i h f;refine⟨.tuple us.toArray,VS.of rfl (by unfold VC;simp_all),?_⟩;have:us.toArray.size≠1:=by
   intro h1
   match l,us,b,h1 with
   |[],[],_,h1=>grind
   |[v],_,_,_=>simp_all
   |[],u :: us,b,_=>simp_all[VT]
   |v :: v2 :: l,[],b,h1=>grind
   |v :: v2 :: l,[u],b,_=>
    obtain⟨c,e,_,o,n⟩:=b
    simp_all[VT]
   |v :: v2 :: l,u :: p :: us,_,h1=>grind
  simp_all
theorem l0U {n:Nat}{H:I0}:∀{args:List (V E.D)} {us:List Value},VT E ρ n H S args us->∀(i t:Nat) (v:V E.D),F4 (P9 args i) t=some v->∃u,us[t-i]?=some u/\i<=t/\VS E ρ n H S v u
 |[],us,h,i,t,v,hl=>by grind [P9,F4]
 |x :: args,us,h,i,t,v,hl=>by
  obtain⟨c,b,h1,rfl,d⟩:=h;simp only[P9,a0X]at hl;split at hl
  ·rename_i e;simp only[Option.some.injEq]at hl;subst e;subst hl;exact⟨_,Z',Nat.le_refl _,c,h1,rfl⟩
  ·obtain⟨u,j,f,g⟩:=l0U d (i+1) t v hl
   grind
def VT.length {n:Nat}{H:I0}:∀{l:List (V E.D)} {us:List Value},VT E ρ n H S l us->us.length=l.length
 |[],us,h=>by simp_all[VT]
 |v :: l,us,h=>by
  obtain⟨c,u,_,rfl,b⟩:=h;simp[VT.length b]
theorem Rp.enter {A:E4}(h:Rp E A s ρ S a as w){args:List (V E.D)}{us:List Value}(b:VT E ρ s.nid w.heap S args us){m:Nat}(hm:args.length<=m):
  Rp E A { s with n:=m,fr:=P9 args 0,stk:=(s.n,s.fr) :: s.stk } ρ S { tmps:=us.toArray++Array.replicate (m-us.toArray.size) undef,defers:=[] } (a :: as) w:=by
 have hl:=b.length;refine⟨h.cx,⟨by grind,rfl,fun t v c=>?_⟩,⟨h.fr,h.stk⟩,h.th,h.ow,h.dj,h.lt,h.rf,h.kp,h.hp⟩;obtain⟨u,h1,_,e⟩:=l0U b 0 t v c;have d:t<us.length:=(List.getElem?_eq_some_iff.1 h1).1;have:(us.toArray++Array.replicate (m-us.toArray.size) undef).getD t undef=u:=by
  simp_all[Array.getElem?_append_left]
 simp_all
theorem w0g {g:Nat}{fn:Func}{c:Code}(h:e0x E g=some (fn,c)):E.P.funcs[g]?=some fn/\fn.body=some c:=by
 grind [e0x]
def p0v (i:T1 E){ops:Array Oper}{Q:Exit->Act->World->Prop}:∀(l:List Oper) {s d:St E.D} {a:Act},g0o E ops l s=some d->Rp E A s ρ S a as w->
  (∀c,Rp E A d ρ S c as w->d.nid=s.nid->d.stk=s.stk->Q .normal c w)->wpList E.P ops Q l a w
 |[],s,d,a,hp,h,hQ=>by
  simp only[g0o,Option.some.injEq]at hp;subst hp;exact hQ a h rfl rfl
 |o :: l,s,d,a,hp,h,hQ=>by
  simp only[g0o]at hp;split at hp<;>try cases hp
  rename_i b;obtain⟨g1,g2,_⟩:=f0y h (ops:=ops) (o:=o);split at hp<;>try cases hp
  ·rename_i hg;split at hp<;>try cases hp
   rename_i v k;have j:=n0V i h o;rw[k]at j;obtain⟨u,h1,m⟩:=j;unfold wpList;rw[if_pos (g1 hg)];refine .inl ?_;simp only[Oper.wp,m w ⟨⟨S,P0.refl _ _⟩,fun _ _ _=>rfl⟩,Oper.upon];exact p0v i l hp (h.f0c b rfl h1) fun c f g e=>hQ c f (g.trans (by cases o.dst<;>rfl)) (e.trans (by cases o.dst<;>rfl))
  ·rename_i hg;unfold wpList;rw[g2 hg];exact p0v i l hp (h.f0c b rfl VS.unit) fun c f g e=>hQ c f (g.trans (by cases o.dst<;>rfl)) (e.trans (by cases o.dst<;>rfl))
theorem d0f (k:T1 E):∀(f:Nat) (c:Code) {s m:St E.D} {e:Ex} {a:Act} {Q:Exit->Act->World->Prop},o9 E f c s=some (e,m)->Rp E A s ρ S a as w->
  (∀d,Rp E A m ρ S d as w->m.nid=s.nid->m.stk=s.stk->Q e.out d w)->c.wp E.P Q a w
 |0,c,s,m,e,a,Q,hp,h,b=>by grind [o9]
 |f+1,c,s,m,e,a,Q,hp,h,b=>by
  cases c with
  |skip=>
   obtain⟨rfl,rfl⟩:=hp;exact wp_skip (b a h rfl rfl)
  |region id ops draw=>
   simp only[o9]at hp;split at hp<;>try cases hp
   split at hp<;>try cases hp
   rename_i s1 h1;exact wp_region_list (p0v k _ h1 h fun d g j l=>b d g j l)
  |seq x y=>
   simp only[o9]at hp;refine wp_seq ?_;split at hp<;>try cases hp
   ·rename_i s1 h1;exact d0f k f x h1 h fun d g j l=>d0f k f y hp g fun p q v u=>b p q (v.trans j) (u.trans l)
   ·rename_i i h1;exact d0f k f x h1 h fun d g j l=>b d g j l
   ·rename_i h1;exact d0f k f x h1 h fun d g j l=>b d g j l
  |cond c x y=>
   simp only[o9]at hp;have n:=h.val c;split at hp<;>try cases hp
   ·rename_i o;rw[o]at n;exact wp_cond_true (L9 (x:=true) rfl n) (d0f k f x hp h b)
   ·rename_i o;rw[o]at n;exact wp_cond_false (L9 (x:=false) rfl n) (d0f k f y hp h b)
  |block id x=>
   simp only[o9]at hp;split at hp<;>try cases hp
   rename_i j s1 h1;refine wp_block (d0f k f x h1 h fun d g r t=>?_);split at hp<;>cases hp
   ·rename_i he;have:=Ex.k0F he
    simp_all[Ex.out,Exit.inBlock]
   ·rename_i he;cases e with
    |nrm=>exact b d g r t
    |ret=>exact b d g r t
    |ex i=>
     have:i≠id:=by rintro rfl;simp[Ex.eq]at he
     simp_all[Ex.out,Exit.inBlock]
  |exit id=>
   obtain⟨rfl,rfl⟩:=hp;exact wp_exit (b a h rfl rfl)
  |ret=>
   obtain⟨rfl,rfl⟩:=hp;exact wp_ret (b a h rfl rfl)
  |_=>grind [o9]
def D0s (m:T1 E){g:Nat}{args:List (V E.D)}{v:V E.D}{us:List Value}(hp:i0R E g args s=some v)(h:Rp E A s ρ S a as w)(o:VT E ρ s.nid w.heap S args us):
  Calls E.P g us.toArray w (fun e w1=>∃u,e=.returned u/\w1=w/\VS E ρ s.nid w.heap S v u):=by
 unfold i0R at hp;split at hp<;>try cases hp
 rename_i fn body b;obtain⟨d,p⟩:=w0g b;split at hp<;>try cases hp
 rename_i e t hn f;rw[Nat.ble_eq]at hn;split at hp<;>try cases hp
 rename_i c;refine calls_of_wp d p ?_;refine d0f m _ body f (h.enter o hn) fun k j r q=>?_;obtain⟨u,h1,n⟩:=r0y m j hp;have fin:k.defers=[]/\∃l,(results fn k.tmps).run E.P w=.ok l w/\∃u,Ending.returned l=.returned u/\w=w/\VS E ρ s.nid w.heap S v u:=⟨j.fr.defers,u,n,u,rfl,rfl,by simp_all⟩
 cases e with
 |nrm=>exact fin
 |ret=>exact fin
 |ex i=>cases c
def t0B (hE:T1 E){C:J3 E}{inl:Inl E}(hi:e0G E inl)(hs:d0j E C){R:Type}{k:K E R}{r:R}{o:Oper}(hk:opV E C inl s o k=some r)(h:Rp E A s ρ S a as w){K:Act->World->Prop}{Q:Exit->Act->World->Prop}
  (y:∀s1 v u ρ1 S1 w1,k s1 v=some r->Rp E A s1 ρ1 S1 a as w1->VS E ρ1 s1.nid w1.heap S1 v u->Ext s s1->s1.fr=s.fr->(e0s E C s o=true->∀k,k<w.heap.size->(∀q,q<s.nid->Q1 (F0 s q)=true->W6 s s1 q=true->¬Bk (ρ q) k)->w1.heap[k]?=w.heap[k]?)->K (a.put o.dst u) w1):o.wp E.P a w K Q:=by
 have hq:=n0V hE h o;have b1:O6 E s S w (e0Q E s ρ o) w:=⟨⟨S,P0.refl _ _⟩,fun _ _ _=>rfl⟩
 unfold opV at hk;split at hk
 ·rename_i b v1 v2 ht;obtain⟨u,h1,d⟩:=D0e h ht;have kk:∀{v},VS E ρ s.nid w.heap S v u->k s v=some r->o.wp E.P a w K Q:=fun J b4=>by
   simp only[Oper.wp,h1 w,Oper.upon];exact y s _ u ρ S w b4 h J (Ext.refl s) rfl (fun _ _ _ _=>rfl)
  rcases d with d|⟨rfl,d⟩
  ·cases b with
   |true=>exact kk d (p0q hk).2
   |false=>exact kk d hk
  ·exact kk d (p0q hk).1
 have I:evE E C.tb s o k=some r->o.wp E.P a w K Q:=by
  intro hk;obtain⟨s1,v,u,w1,h1,⟨⟨ρ1,S1,d,p,_⟩,l,n,h7⟩,m⟩:=H0g hE h hk;have:=y s1 v u ρ1 S1 w1 h1 d p l n (fun _=>h7);rcases m with m|⟨rfl,m⟩
  ·simp only[Oper.wp,m,Oper.upon];exact this
  ·simp only[Oper.wp,m,Oper.upon];exact this
 split at hk
 ·rename_i v J;rw[J]at hq;obtain⟨u,h1,d⟩:=hq;simp only[Oper.wp,d w b1,Oper.upon];exact y s v u ρ S w hk h h1 (Ext.refl s) rfl (fun _ _ _ _=>rfl)
 ·rename_i b v J;rw[J]at hq;split at hk<;>try cases hk
  rename_i hb;obtain⟨u,h1,d⟩:=hq hb;simp only[Oper.wp,d w b1,Oper.upon];exact y s v u ρ S w hk h h1 (Ext.refl s) rfl (fun _ _ _ _=>rfl)
 ·split at hk
  ·rename_i q i f hb;obtain⟨h1,u,ρ1,d,p,l,n⟩:=s01 h hb;simp only[Oper.wp,n w ⟨⟨S,P0.refl _ _⟩,fun _ _ _=>rfl⟩,Oper.upon];exact y _ _ u ρ1 S w hk d l (Ext.new s _) rfl (fun _ _ _ _=>rfl)
  split at hk
  ·rename_i c ho;split at hk
   ·exact I hk
   ·rename_i f hc;split at hk<;>try cases hk
    rename_i g caps hf;split at hk<;>try cases hk
    rename_i U;have b2:=h.val f;rw[hf]at b2;obtain⟨c0,a1,t⟩:=b2;unfold VC at a1;obtain⟨us,rfl,b3⟩:=a1;have t:a.eval f=.func (.func g) #[] us.toArray:=t;have j:=(VT.of h c.args.toList).app b3;have key:Calls E.P g (c.args.toList.map a.eval++us).toArray w (fun e w1=>∃v,e=.returned v/\∃s1 V ρ1 S1,k s1 V=some r/\Rp E A s1 ρ1 S1 a as w1/\VS E ρ1 s1.nid w1.heap S1 V v/\Ext s s1/\s1.fr=s.fr/\(e0s E C s o=true->∀k,k<w.heap.size->(∀q,q<s.nid->Q1 (F0 s q)=true->W6 s s1 q=true->¬Bk (ρ q) k)->w1.heap[k]?=w.heap[k]?)):=by
     unfold t0d at hk;split at hk
     ·rename_i sm hl;refine(hs g _ s sm hl _ k r hk A ρ S a as w _ h j).mono ?_
      rintro e w1 ⟨v,rfl,s1,V,ρ1,S1,h1,d,p,l,n,m⟩
      exact⟨v,rfl,s1,V,ρ1,S1,h1,d,p,l,n,fun _=>m⟩
     ·rename_i hl;split at hk
      ·rename_i v x;refine(D0s hE x h j).mono ?_
       rintro e w1 ⟨u,rfl,rfl,h1⟩
       exact⟨u,rfl,s,v,ρ,S,hk,h,h1,Ext.refl s,rfl,fun _ _ _ _=>rfl⟩
      rename_i x;have b5:e0s E C s o=false:=by
       unfold e0s;rw[ho];simp only[hc];rw[hf];simp[hl,x]
      refine(hi _ g _ s k r hk A ρ S a as w _ h j).mono ?_
      rintro e w1 ⟨v,rfl,s1,V,ρ1,S1,h1,d,p,l,n⟩
      exact⟨v,rfl,s1,V,ρ1,S1,h1,d,p,l,n,fun e=>by rw[b5]at e;cases e⟩
    have z:(execOp a.eval o).run E.P w=.ok (.enter g (c.args.toList.map a.eval++us).toArray) w:=by
     have e:c.args.map a.eval++us.toArray=(c.args.toList.map a.eval++us).toArray:=by
      apply Array.ext';simp
     simp[execOp,ho,resolve,hc,Deferred.ofValue,t,invoke];rw[e];simpa using z0r U _ w
    simp only[Oper.wp,z,Oper.upon];refine key.mono ?_
    rintro e w1 ⟨v,rfl,s1,V,ρ1,S1,h1,d,p,l,n,m⟩
    exact y s1 V v ρ1 S1 w1 h1 d p l n m
   ·cases hk
  ·exact I hk
theorem d06 (y:T1 E){C:J3 E}{inl:Inl E}(hi:e0G E inl)(hs:d0j E C){ops:Array Oper}:∀(f:Nat) {R:Type} (cs:List (Nat×Nat×Cut)) (i stop:Nat) (l:List Oper) (s:St E.D) (k:St E.D->Option R) (r:R),evs E C inl ops f cs i stop l s k=some r->i<=stop->
  ∀(ρ:Nat->Value) (S:D0) (a:Act) (w:World),Rp E A s ρ S a as w->∀(Q:Exit->Act->World->Prop),(∀j ρ' q m w',k j=some r->Rp E A j ρ' q m as w'->Ext s j->wpList E.P ops Q (l.drop (stop-i)) m w')->wpList E.P ops Q l a w
 |0,R,cs,i,stop,l,s,k,r,hk,_=>by grind [evs]
 |f+1,R,cs,i,stop,l,s,k,r,hk,hle=>by
  intro ρ S a w h Q z;simp only[evs]at hk;split at hk
  ·rename_i he;rw[Nat.beq_eq]at he;have:=z s ρ S a w hk h (Ext.refl s)
   simp_all
  ·rename_i J;have J:i≠stop:=by rintro rfl;simp at J
   split at hk
   ·rename_i b c r' c3;split at hk<;>try cases hk
    rename_i I;rw[Bool.and_eq_true,Nat.ble_eq,Nat.blt_eq]at I;obtain⟨d,hd,hk⟩:=a0c hk;refine d06 y hi hs f _ i (b+1) l s _ d hd O' ρ S a w h Q fun j ρ' q m w' hp t he=>?_;obtain⟨u,ρ1,S1,h1,h2,h3,_⟩:=d0N y (fun i u ha=>(h.hp i u ha).1) h t he hp hk;refine d06 y hi hs f _ (b+1) stop _ u _ r h1 O' ρ1 S1 m w' h2 Q fun b1 ρ'' a1 b4 b5 b2 c0 U=>?_;have:=z b1 ρ'' a1 b4 b5 b2 c0 (h3.trans U)
    grind [List.drop_drop]
   ·split at hk<;>try cases hk
    rename_i o l';split at hk<;>try cases hk
    rename_i x;obtain⟨g1,g2,g3⟩:=f0y h (ops:=ops) (o:=o);have p:(o :: l').drop (stop-i)=l'.drop (stop-(i+1)):=by
     rw[show stop-i=(stop-(i+1))+1 from O',List.drop_succ_cons]
    rw[p]at z;split at hk
    ·cases hk
    ·rename_i hg;unfold wpList;rw[if_pos (g1 hg)];refine .inl (t0B y hi hs hk h fun s1 v u ρ1 S1 w1 b3 h1 hv he c4 _=>?_);refine d06 y hi hs f cs (i+1) stop l' _ k r b3 O' ρ1 S1 _ w1 (h1.f0c x he.n hv) Q fun j ρ' q m w' g t e=>?_;exact z j ρ' q m w' g t ((he.trans (Ext.put s1 o.dst v)).trans e)
    ·rename_i hg;unfold wpList;rw[g2 hg];simp only[Bool.false_eq_true,if_false];refine d06 y hi hs f cs (i+1) stop l' _ k r hk O' ρ S _ w (h.f0c x rfl VS.unit) Q fun j ρ' q m w' g t e=>?_;exact z j ρ' q m w' g t ((Ext.put s o.dst _).trans e)
    ·rename_i d b hg;have hv:=g3 d b hg;rw[<-p]at z;split at hk
     ·rename_i I;subst I;exact d06 y hi hs f cs i stop (o :: l') _ k r hk hle ρ S a w (h.m0r (by simp_all[VS.kb])) Q fun j ρ' q m w' g t e=>z j ρ' q m w' g t ((Ext.put s (some d) _).trans e)
     ·rename_i I;have I:b=false:=by simp_all
      subst I;exact d06 y hi hs f cs i stop (o :: l') _ k r hk hle ρ S a w (h.m0r (by simp_all[VS.kb])) Q fun j ρ' q m w' g t e=>z j ρ' q m w' g t ((Ext.put s (some d) _).trans e)
end
