/- Operations that change memory, over frames of known slots: new blocks, stores, make, append. Its conditions: none. -/
import Derived.Test.YtihmgaccbcfgjaaGreatRG00
import Derived.Maps.AppendAt
import Derived.Laws.StructEq
import Derived.Laws.Cover3
import Derived.Laws.Slices
open Nat (le_refl lt_or_ge succ_mul mul_le_mul_right min_eq_left)
open Bool (and_eq_true)
set_option linter.all false
namespace Go.V
open Go.RowKit
section
variable {P:Program} {ops:Array Oper} {n:Nat} {Q:Exit->Act->World->Prop} {l:FL} {a:Act} {w:World} {o:Oper} {rest:List Oper}
theorem Below.new (w:World) (ob:Obj):Below w.heap.size w (w.alloc ob):=(Below.refl _ w).alloc (le_refl _) ob
theorem w0d {V:Nat->Value} {cs:List Value} {T:TypeId} (ha:Ag n l a) (hf:(gate ops l o==some true&&fit n l o)=true)
  (hr:(execOp (lk l) o).run P w=.ok (.value (V w.heap.size)) (w.alloc (.cells cs.toArray T)))
  (h:∀ w1 b,Below w.heap.size w w1->w1.heap[b]?=some (.cells cs.toArray T (0,0))->w.heap.size=b->w1.heap.size=b+1->∀ a',Ag n (F5 l o.dst (V b)) a'->wpList P ops Q rest a' w1):wpList P ops Q (o :: rest) a w:=
 A9 ha hf hr fun a' ha'=>h _ _ (Below.new w _) (heap_alloc_new w _) rfl (by simp) a' ha'
theorem u0A {b off:Nat} {v v0:Value} {ad:Addr} (had:ad=⟨b,off,none⟩) (h1:v.oneCell'=true) (hc:w.cell? ⟨b,off,none⟩=some v0) (hf:w.frozen? ⟨b,off,none⟩=false) :
  (store ad v).run P w=.ok () (w.setCell ⟨b,off,none⟩ v):=by
 subst had;cases v<;>simp_all [store,Sem.run,Value.oneCell']
theorem y0k {b off:Nat} {t:TypeId} {cs:List Value} {v:Value} (hb:w.heap[b]?=some (.cells cs.toArray t (0,0))) :
  (w.setCell ⟨b,off,none⟩ v).heap[b]?=some (.cells (cs.set off v).toArray t (0,0)):=by
 simp [World.setCell,Array.getElem?_modify,hb]
theorem n0G {W0:B0} {w:World}:∀ k,Wr W0 w k->Wr W0 w k:=fun _ h=>h
structure C4 (b:Nat) (w w1:World):Prop where
 os:w1.os=w.os
 tape:w1.tape=w.tape
 output:w1.output=w.output
 size:w.heap.size<=w1.heap.size
 block:∀ k,k<w.heap.size->k≠b->w1.heap[k]?=w.heap[k]?
theorem C4.cell (w:World) (b off:Nat) (v:Value):C4 b w (w.setCell ⟨b,off,none⟩ v):=
 ⟨rfl,rfl,rfl,by simp [World.setCell],fun k _ hk=>Below.heap_setCell w _ v k hk⟩
theorem C4.cx {b:Nat} {w0 w1:World} {W0 S0 S:B0} (h:Cx w0 W0 S0 w S) (ho:C4 b w w1) (hb:Wr W0 w0 b):Cx w0 W0 S0 w1 S:=
 ⟨⟨ho.os.trans h.bel.os,ho.tape.trans h.bel.tape,ho.output.trans h.bel.output,Nat.le_trans h.bel.size ho.size,fun k hk hn=>(ho.block k (by have:=h.bel.size;omega) (fun e=>by subst e;exact hb.elim hn (fun h2=>by omega))).trans (h.bel.block k hk hn)⟩,h.sub,fun k hk=>Nat.lt_of_lt_of_le (h.lt k hk) ho.size,h.lt0⟩
theorem C4.Y0 {b:Nat} {w1:World} {S:B0} (ho:C4 b w w1) (hb:S b):J0 w.heap S w1.heap S:=
 ⟨ho.size,fun k hk hn=>⟨hn,ho.block k hk (fun e=>hn (e▸hb))⟩⟩
theorem A0M (b:Nat) (t:TypeId):∀ (vs:List Value) (i:Nat) (w:World) (cs:List Value),w.heap[b]?=some (.cells cs.toArray t (0,0))->i+vs.length=cs.length->(∀ v∈vs,v.oneCell'=true)->
  ∃ w1,(storeCells ⟨b,0,none⟩ vs i).run P w=.ok () w1/\C4 b w w1/\w1.heap.size=w.heap.size/\w1.heap[b]?=some (.cells (cs.take i++vs).toArray t (0,0))
 |[],i,w,cs,hb,hl,_=>⟨w,by simp [storeCells],⟨rfl,rfl,rfl,le_refl _,fun _ _ _=>rfl⟩,rfl,by simp at hl;rw [List.take_of_length_le (by omega),List.append_nil];exact hb⟩
 |
  v :: vs,i,w,cs,hb,hl,h1=>by
  simp only [List.length_cons] at hl;have hi:i<cs.length:=by omega
  have hc:w.cell? ⟨b,i,none⟩=some cs[i]:=by rw [c0J];unfold Z0;rw [hb];simp [hi]
  have hf:w.frozen? ⟨b,i,none⟩=false:=by simp [World.frozen?,hb]
  have hst:=u0A (P:=P) (w:=w) (ad:=(⟨b,0,none⟩:Addr).add i) (by unfold Addr.add;split<;>simp_all) (h1 v (by simp)) hc hf;obtain ⟨w1,hr,ho,hs,hb1⟩:=A0M b t vs (i+1) (w.setCell ⟨b,i,none⟩ v) (cs.set i v) (y0k hb) (by simp;omega) (fun u hu=>h1 u (by simp [hu]));have oc:=C4.cell w b i v;refine ⟨w1,by simp [storeCells,hst,hr],⟨ho.os.trans oc.os,ho.tape.trans oc.tape,ho.output.trans oc.output,Nat.le_trans oc.size ho.size,fun k hk hn=>(ho.block k (Nat.lt_of_lt_of_le hk oc.size) hn).trans (oc.block k hk hn)⟩,hs.trans (by simp [World.setCell]),?_⟩;rw [hb1];congr 2;congr 1;have hmin:min i cs.length=i:=by omega
  rw [List.take_set,List.take_succ_eq_append_getElem hi,List.set_append_right _ _ (by simp;omega),List.append_assoc];simp [hmin]
theorem A03 {T:TypeId} {x y:Operand} {b:Nat} {t:TypeId} {cs vs:List Value} {v:Value} (ha:Ag n l a) (hf:(gate ops l o==some true&&fit n l o)=true) (ho:o.op=.store T x y)
  (hx:lk l x=.pointer (some ⟨b,0,none⟩)) (hy:lk l y=v) (hv:v.cells=vs.toArray) (hb:w.heap[b]?=some (.cells cs.toArray t (0,0))) (hl:(decide (vs.length=cs.length)&&vs.all (·.oneCell'))=true)
  (hsz:(P.info? T).map (·.size)=some vs.length)
  (h:∀ w1,C4 b w w1->w1.heap.size=w.heap.size->w1.heap[b]?=some (.cells vs.toArray t (0,0))->∀ a',Ag n (F5 l o.dst undef) a'->wpList P ops Q rest a' w1):wpList P ops Q (o :: rest) a w:=by
 simp only [and_eq_true,decide_eq_true_eq,List.all_eq_true] at hl;obtain ⟨inf,hinf,hs⟩:=Option.map_eq_some_iff.1 hsz;obtain ⟨w1,hr,hon,hsize,hb1⟩:=A0M (P:=P) b t vs 0 w cs hb (by omega) hl.2;simp only [List.take_zero,List.nil_append] at hb1;refine t0c ha hf (w':=w1) ?_ fun a' ha'=>h _ hon hsize hb1 a' ha';have e1:v.cells.size=vs.length:=by rw [hv];simp
 have e2:v.cells.toList=vs:=by rw [hv]
 simp [execOp,ho,hx,hy,Instr.storeAt,Instr.sureAddr,storeVar,e1,e2,sizeOf,typeInfo,hinf,hs,hr]
theorem B0L {o2:Oper} {T:TypeId} {y:Operand} {d:Nat} {z vs:List Value} {v:Value} {w0:World} {W0 S0 S:B0} (ha:Ag n l a) (cx:Cx w0 W0 S0 w S) (hf:(gate ops l o==some true&&fit n l o)=true) (hd:o.dst=some d)
  (hr:(execOp (lk l) o).run P w=.ok (.value (.pointer (some ⟨w.heap.size,0,none⟩))) (w.alloc (.cells z.toArray T)))
  (hf2:∀ b,(gate ops (F5 l (some d) (.pointer (some ⟨b,0,none⟩))) o2==some true&&fit n (F5 l (some d) (.pointer (some ⟨b,0,none⟩))) o2)=true) (ho2:o2.op=.store T (.tmp d) y) (hd2:o2.dst=none)
  (hy:∀ b,lk (F5 l (some d) (.pointer (some ⟨b,0,none⟩))) y=v) (hv:v.cells=vs.toArray) (hl:(decide (vs.length=z.length)&&vs.all (·.oneCell'))=true) (hsz:(P.info? T).map (·.size)=some vs.length)
  (h:∀ w1 b,Cx w0 W0 S0 w1 S->Below w.heap.size w w1->Bx w1.heap S b T vs->∀ a',Ag n (F5 l (some d) (.pointer (some ⟨b,0,none⟩))) a'->wpList P ops Q rest a' w1):wpList P ops Q (o :: o2 :: rest) a w:=by
 refine w0d (V:=fun b=>.pointer (some ⟨b,0,none⟩)) ha hf hr fun w1 b hb h1 e1 e2 a1 ha1=>?_;rw [hd] at ha1;refine A03 ha1 (hf2 b) ho2 (by simp [lk,F5,look?]) (hy b) hv h1 hl hsz fun w2 hon hs2 h2 a2 ha2=>?_;rw [hd2] at ha2;have hbl:Below w.heap.size w w2:=hb.trans ⟨hon.os,hon.tape,hon.output,hon.size,fun k hk=>hon.block k (by omega) (by omega)⟩;exact h w2 b (cx.ext hbl) hbl ⟨h2,fun hS=>by have:=cx.lt b hS;omega⟩ a2 ha2
theorem M3.news {α:Type} {T:Ty α} {S:B0} {A:Option Addr}:∀ {xs:List α} {k:Nat},(∀ (i:Nat) (x:α),xs[i]?=some x->∃ b o cs,A=some ⟨b,o,none⟩/\T.R w.heap S cs x/\∀ j v,cs[j]?=some v->Z0 w.heap b (o+(k+i)*T.sz+j)=some v)->
  ∃ news,D1 T w.heap S news xs/\∀ b o,A=some ⟨b,o,none⟩->∀ j u,news[j]?=some u->Z0 w.heap b (o+k*T.sz+j)=some u
 |[],k,_=>⟨[],D1.nil,fun b o _ j u hj=>by simp at hj⟩
 |
  x :: xs,k,h=>by
  obtain ⟨b,o,cs,hA,hr,hc⟩:=h 0 x (by simp);obtain ⟨news,he,hn⟩:=M3.news (xs:=xs) (k:=k+1) (fun i y hy=>by
   obtain ⟨b,o,cs,hA,hr,hc⟩:=h (i+1) y (by simpa using hy);exact ⟨b,o,cs,hA,hr,fun j v hj=>by have:=hc j v hj;rwa [show k+1+i=k+(i+1) from by omega]⟩)
  refine ⟨cs++news,?_,fun b' o' hA' j u hj=>?_⟩
  ·have:=(D1.one hr).append he;simpa using this
  ·rcases lt_or_ge j cs.length with hlt | hge
   ·rw [List.getElem?_append_left hlt] at hj;obtain ⟨rfl,rfl⟩:b=b'/\o=o':=by rw [hA] at hA';simpa using hA'
    simpa using hc j u hj
   ·rw [List.getElem?_append_right hge] at hj;have h2:=hn b' o' hA' _ u hj;rw [T.len hr] at h2 hge;rw [show o'+k*T.sz+j=o'+(k+1)*T.sz+(j-T.sz) from by rw [Nat.add_mul];omega];exact h2
theorem l09 (base:Nat) (t ty e:TypeId) (i:TypeInfo) (size:Nat) (ht:P.underlying t=some (.slice e)) (hi:P.info? e=some i)
  (v:Value) (n:Nat) (xs:List Value) (hown:w.ownsRow base e size v n xs) (A:Option Addr) (c:Nat):(Builtin.append_ #[t,t] ty #[v,.slice A 0 c]).run P w=.ok v w:=by
 rcases hown.2 with ⟨rfl,rfl⟩ | ⟨g,cap,cur,rfl,_,_,hnc,_⟩
 ·cases A<;>simp [Builtin.append_,run_underlying ht,sizeOf,typeInfo,hi,Builtin.lenOf,Builtin.firstCells,loadCells,loadCellsFrom]
 ·cases A<;>simp [Builtin.append_,run_underlying ht,sizeOf,typeInfo,hi,Builtin.lenOf,Builtin.firstCells,loadCells,loadCellsFrom,hnc,storeCells]
def C1 {α:Type} (bytes:Nat) (xs ys:List α):Bool:=decide ((xs.length+ys.length)*bytes<=140737488355328)
theorem r0U {α:Type} {T:Ty α} {S M:B0} (t ty e:TypeId) (bytes:Nat) (z:Value) (ht:P.underlying t=some (.slice e)) (hE:(P.info? e).map (fun i=>(i.zero,i.size,i.bytes))=some (some z,T.sz,bytes)) (hzs:(decide (z.cells.size=T.sz)&&decide (0<T.sz)&&decide (0<bytes))=true)
  {v:Value} {xs ys:List α} (hown:Ow T e M w.heap S v xs) {A:Option Addr} {c:Nat} (hy:M3 T w.heap S A ys) (hfit:C1 bytes xs ys=true) :
  ∃ v' w1,(Builtin.append_ #[t,t] ty #[v,.slice A ys.length c]).run P w=.ok v' w1/\w.grownBy w1 v.ownBlock/\(v'.ownBlock=v.ownBlock\/v'.ownBlock=some w.heap.size)/\
   ∀ S1:B0,J0 w.heap S w1.heap S1->∀ M1:B0,(∀ k,v'.ownBlock=some k->S1 k/\M1 k)->Ow T e M1 w1.heap S1 v' (xs++ys):=by
 obtain ⟨i,hi,hi2⟩:=Option.map_eq_some_iff.1 hE;simp only [Prod.mk.injEq] at hi2;obtain ⟨hz,hsz,hby⟩:=hi2;simp only [and_eq_true,decide_eq_true_eq] at hzs;obtain ⟨hS,cs,hrow,hels⟩:=hown;simp only [C1,decide_eq_true_eq] at hfit;have hmax:xs.length+ys.length<=maxLen:=by
  have:xs.length+ys.length<=(xs.length+ys.length)*bytes:=Nat.le_mul_of_pos_right _ hzs.2;simp only [maxLen];omega
 obtain ⟨news,hen,hcells⟩:=M3.news (w:=w) (xs:=ys) (k:=0) (A:=A) (T:=T) (S:=S) (fun i x hx=>by
  obtain ⟨b,o,cs,h1,h2,h3⟩:=hy i x hx;exact ⟨b,o,cs,h1,h2,fun j v hj=>by rw [Nat.zero_add];exact h3 j v hj⟩)
 have done:∀ (v':Value) (w1:World),w1.ownsRow 0 e T.sz v' (xs.length+ys.length) (cs++news)->∀ S1:B0,J0 w.heap S w1.heap S1->∀ M1:B0,(∀ k,v'.ownBlock=some k->S1 k/\M1 k)->Ow T e M1 w1.heap S1 v' (xs++ys):=by
  intro v' w1 h1 S1 k M1 hS1;refine ⟨hS1,cs++news,?_,(hels.Y0 k).append (hen.Y0 k)⟩;have:=Row.of h1;simpa using this
 rcases A with _ | ad
 ·have h0:ys=[]:=by
   cases ys with
   |nil=>rfl
   |cons y ys=>obtain ⟨b,o,cs,h,_⟩:=hy 0 y (by simp);cases h
  subst h0;have hn:news=[]:=List.eq_nil_of_length_eq_zero (by have:=hen.1;simpa using this);subst hn;exact ⟨v,w,l09 0 t ty e i T.sz ht hi v xs.length cs hrow.own none c,⟨rfl,rfl,rfl,le_refl _,fun _ _ _=>rfl⟩,.inl rfl,done v w (by simpa using hrow.own)⟩
 ·rcases Nat.eq_zero_or_pos ys.length with h0 | hpos
  ·have h0:ys=[]:=List.eq_nil_of_length_eq_zero h0;subst h0;have hn:news=[]:=List.eq_nil_of_length_eq_zero (by have:=hen.1;simpa using this);subst hn;exact ⟨v,w,l09 0 t ty e i T.sz ht hi v xs.length cs hrow.own (some ad) c,⟨rfl,rfl,rfl,le_refl _,fun _ _ _=>rfl⟩,.inl rfl,done v w (by simpa using hrow.own)⟩
  ·obtain ⟨b,o,_,hA,_⟩:=hy 0 ys[0] (by simp [hpos]);have hA:=Option.some.inj hA;subst hA;have hnews:∀ j u,news[j]?=some u->w.cell? ((⟨b,o,none⟩:Addr).add j)=some u:=by
    intro j u hj;rw [e8];have:=hcells b o rfl j u hj;simpa using this
   obtain ⟨v',w',hrun,h2,h3,_,h5⟩:=run_append_own_at (P:=P) w 0 t ty e i z T.sz bytes ht hi hz hsz hby hzs.1.1 hzs.1.2 v xs.length cs hrow.own ⟨b,o,none⟩ ys.length c news hen.1 hnews hen.c0p hmax hfit (Nat.zero_le _);exact ⟨v',w',hrun,h3,h5,done v' w' h2⟩
theorem Ow.ext {α:Type} {T:Ty α} {e:TypeId} {M S:B0} {v:Value} {xs:List α} {w w1:World} (h:Ow T e M w.heap S v xs) (hb:Below w.heap.size w w1):Ow T e M w1.heap S v xs:=
 h.Y0 (J0.ext S hb) (fun _ h=>h) (fun b hv=>hb.block b (h.lt b hv))
theorem Ow.z01 {α:Type} {T:Ty α} {e:TypeId} {M S S1:B0} {v:Value} {xs:List α} {w w1:World} (h:Ow T e M w.heap S v xs) (hb:Below w.heap.size w w1) (k:J0 w.heap S w1.heap S1) (hs:∀ b,S b->S1 b):Ow T e M w1.heap S1 v xs:=
 h.Y0 k hs (fun b hv=>hb.block b (h.lt b hv))
theorem Mb.ext {M S:B0} {b:Nat} {t:TypeId} {cs:List Value} {w w1:World} (h:Mb M w.heap S b t cs) (hb:Below w.heap.size w w1):Mb M w1.heap S b t cs:=
 h.Y0 (fun _ h=>h) (hb.block b (getElem?_lt h.1))
theorem Mb.z01 {M S S1:B0} {b:Nat} {t:TypeId} {cs:List Value} {w w1:World} (h:Mb M w.heap S b t cs) (hb:Below w.heap.size w w1) (hs:∀ b,S b->S1 b):Mb M w1.heap S1 b t cs:=
 h.Y0 hs (hb.block b (getElem?_lt h.1))
theorem Ow.result {α:Type} {T:Ty α} {e:TypeId} {M:B0} {H:F0} {S S0:B0} {v:Value} {xs:List α} (h:Ow T e M H S v xs) (hs:∀ b,S0 b->S b):Ow T e M H (inV v S0) v xs:=
 h.o0Q (fun _ hb=>hb.elim (fun h2=>(h.1 _ h2).1) (hs _)) (fun _ hb=>.inl hb)
theorem Bx.new {w0 w w1:World} {W0 S0 S:B0} {b:Nat} {t:TypeId} {cs:List Value} (cx:Cx w0 W0 S0 w S) (hk:w1.heap[b]?=some (.cells cs.toArray t (0,0))) (he:w.heap.size=b):Bx w1.heap S b t cs:=
 ⟨hk,fun hs=>by have:=cx.lt b hs;omega⟩
theorem B0c {α:Type} {T:Ty α} {e:TypeId} {w0 w w1:World} {W0 S0 S:B0} {v:Value} {xs:List α} (cx:Cx w0 W0 S0 w S) (hb:Below w.heap.size w w1) (f:Ow T e (Wr L3 w) w1.heap (inV v S) v xs) :
  ∃ S1,Cx w0 W0 S0 w1 S1/\J0 w.heap S w1.heap S1/\(∀ b,S b->S1 b)/\(∀ k,v.ownBlock=some k->w.heap.size<=k)/\Ow T e (Wr L3 w0) w1.heap S1 v xs:=by
 have hn:∀ k,v.ownBlock=some k->w.heap.size<=k:=fun k hk=>(f.1 k hk).2.elim (fun h=>h.elim) (fun h=>h);exact ⟨inV v S,(cx.ext hb).more (fun _ h=>.inr h) (fun b h=>h.elim (fun h=>f.lt b h) ((cx.ext hb).lt b)),⟨hb.size,fun b h hnn=>⟨fun hi=>hi.elim (fun h2=>by have:=hn b h2;omega) hnn,hb.block b h⟩⟩,
  fun _ h=>.inr h,hn,f.l9 (fun k hk=>.inr (by have:=hn k hk;have:=cx.size;omega))⟩
theorem A08 {α:Type} {T:Ty α} {e:TypeId} {w0 w:World} {W0 S0 S:B0} {H1:F0} {A:Option Addr} {n c:Nat} {xs:List α} (cx:Cx w0 W0 S0 w S) (f:Ow T e (Wr L3 w) H1 (inV (.slice A n c) S) (.slice A n c) xs):Sl T H1 S A c xs:=
 f.freeze (fun _ h=>.inr h) (fun b hb hs=>by have:=cx.lt b hs;have:=(f.1 b hb).2.elim (fun h=>h.elim) (fun h=>h);omega)
theorem A0K {α:Type} {T:Ty α} {e:TypeId} {w0 w w1:World} {W0 S0 S:B0} {b m:Nat} {cs:List Value} {xs:List α} (_cx:Cx w0 W0 S0 w S) (hb:Below w.heap.size w w1) (hk:w1.heap[b]?=some (.cells cs.toArray e (0,0))) (he:w.heap.size=b) (hm:m=xs.length) (hmax:(decide (m<=1000000))=true) (hels:D1 T w.heap S cs xs) :
  Ow T e (Wr L3 w) w1.heap (inV (.slice (some ⟨b,0,none⟩) m m) S) (.slice (some ⟨b,0,none⟩) m m) xs:=by
 subst hm;simp only [decide_eq_true_eq] at hmax;refine ⟨fun k hk=>⟨.inl hk,.inr (by simp [Value.ownBlock] at hk;omega)⟩,cs,⟨hels.1,.inr ⟨b,xs.length,cs.toArray,rfl,hk,le_refl _,by simp only [maxLen];omega,by simp [hels.1],by simp [<-hels.1]⟩⟩,hels.Y0 ⟨hb.size,fun k h hn=>⟨fun hi=>hi.elim (fun h2=>?_) hn,hb.block k h⟩⟩⟩;simp [Value.ownBlock] at h2;omega
def M8 (v u:Value):Prop:=∀ k,v.ownBlock=some k->u.ownBlock≠some k
def bv (b:Nat):Value:=.slice (some ⟨b,0,none⟩) 0 0
theorem M8.symm {v u:Value} (h:M8 v u):M8 u v:=fun k hk e=>h k e hk
theorem M8.nil {v:Value}:M8 v (.slice none 0 0):=fun k _ e=>by cases e
theorem M8.new {v u:Value} {m:Nat} (h:∀ k,v.ownBlock=some k->k<m) (h':∀ k,u.ownBlock=some k->m<=k):M8 v u:=fun k hk e=>by have:=h k hk;have:=h' k e;omega
theorem M8.grow {v u u':Value} {m:Nat} (d:M8 v u) (h:∀ k,v.ownBlock=some k->k<m) (h':∀ k,u'.ownBlock=some k->u.ownBlock=some k\/m<=k):M8 v u':=fun k hk e=>by
 rcases h' k e with h2 | h2
 ·exact d k hk h2
 ·have:=h k hk;omega
theorem Mb.lt {M:B0} {H:F0} {S:B0} {b:Nat} {t:TypeId} {cs:List Value} (h:Mb M H S b t cs):∀ k,(bv b).ownBlock=some k->k<H.size:=fun k hk=>by cases hk;exact getElem?_lt h.1
theorem Ow.only {α:Type} {T:Ty α} {e:TypeId} {M S:B0} {b:Nat} {v:Value} {xs:List α} {w w1:World} (h:Ow T e M w.heap S v xs) (ho:C4 b w w1) (hS:S b) (hd:v.ownBlock≠some b):Ow T e M w1.heap S v xs:=
 h.Y0 (ho.Y0 hS) (fun _ h=>h) (fun k hk=>ho.block k (h.lt k hk) (fun e=>hd (by rw [<-e];exact hk)))
theorem Mb.only {M S:B0} {b b2:Nat} {t:TypeId} {cs:List Value} {w w1:World} (h:Mb M w.heap S b2 t cs) (ho:C4 b w w1) (hd:b2≠b):Mb M w1.heap S b2 t cs:=
 h.Y0 (fun _ h=>h) (ho.block b2 (getElem?_lt h.1) hd)
def S5 (bytes:Nat) (n:Int):Bool:=decide (0<=n)&&decide (n*bytes<=140737488355328)
theorem f0t {α:Type} {T:Ty α} {H:F0} {S:B0} {z:List Value} {x:α} (hx:T.R H S z x):∀ (k:Nat),D1 T H S (List.replicate k z).flatten (List.replicate k x)
 |0=>D1.nil
 |
  k+1=>by
  rw [List.replicate_succ,List.replicate_succ,List.flatten_cons];exact (D1.one hx).append (f0t hx k)
theorem j0V (z:Array Value):∀ (k:Nat),(madeCells z (k*z.size)).toList=(List.replicate k z.toList).flatten:=by
 intro k;apply List.ext_getElem?;intro i;have hl:((List.replicate k z.toList).flatten).length=k*z.size:=by simp
 rcases lt_or_ge i (k*z.size) with hi | hi
 ·have h1:((madeCells z (k*z.size)).toList)[i]?=some z[i % z.size]!:=by simp [madeCells,hi]
  rw [h1];have key:∀ (k i:Nat),i<k*z.size->((List.replicate k z.toList).flatten)[i]?=some z[i % z.size]!:=by
   intro k
   induction k with
   |zero=>intro i h;omega
   |
    succ k ih=>
    intro i h;rw [List.replicate_succ,List.flatten_cons];rcases lt_or_ge i z.size with h2 | h2
    ·rw [List.getElem?_append_left (by simpa using h2),Nat.mod_eq_of_lt h2];simp [h2]
    ·rw [List.getElem?_append_right (by simpa using h2),Array.length_toList,ih (i-z.size) (by rw [succ_mul] at h;omega)];rw [Nat.mod_eq_sub_mod h2]
  exact (key k i hi).symm
 ·rw [List.getElem?_eq_none (by simp [size_madeCells];exact hi),List.getElem?_eq_none (by rw [hl];exact hi)]
theorem v05 {α:Type} {T:Ty α} {w0:World} {W0 S0 S:B0} {t e:TypeId} {bytes:Nat} {z:Value} {zx:α} {x y:Operand} {k:IntKind} {m:Int} (ha:Ag n l a) (cx:Cx w0 W0 S0 w S) (hf:(gate ops l o==some true&&fit n l o)=true)
  (ho:o.op=.makeSlice t x y) (hx:lk l x=.int k m) (hy:lk l y=.int k m)
  (ht:P.underlying t=some (.slice e)) (hE:(P.info? e).map (fun i=>(i.zero,i.size,i.bytes))=some (some z,T.sz,bytes)) (hzs:(decide (z.cells.size=T.sz)&&decide (0<T.sz)&&decide (0<bytes))=true)
  (hz:∀ (H:F0) (S:B0),T.R H S z.cells.toList zx) (hfit:S5 bytes m=true)
  (h:∀ w1 S1 A1 c1,Cx w0 W0 S0 w1 S1->Below w.heap.size w w1->J0 w.heap S w1.heap S1->(∀ b,S b->S1 b)->
   (∀ k,(Value.slice A1 (List.replicate m.toNat zx).length c1).ownBlock=some k->w.heap.size<=k)->Ow T e (Wr L3 w0) w1.heap S1 (.slice A1 (List.replicate m.toNat zx).length c1) (List.replicate m.toNat zx)->
   ∀ a',Ag n (F5 l o.dst (.slice A1 (List.replicate m.toNat zx).length c1)) a'->wpList P ops Q rest a' w1):wpList P ops Q (o :: rest) a w:=by
 obtain ⟨i,hi,hi2⟩:=Option.map_eq_some_iff.1 hE;simp only [Prod.mk.injEq] at hi2;obtain ⟨hz0,hsz,hby⟩:=hi2;simp only [and_eq_true,decide_eq_true_eq] at hzs;simp only [S5,and_eq_true,decide_eq_true_eq] at hfit;obtain ⟨q,rfl⟩:=Int.eq_ofNat_of_zero_le hfit.1;have hq:q*bytes<=140737488355328:=by
  have h1:=hfit.2;have h2:((q*bytes:Nat):Int)<=140737488355328:=by rw [Int.natCast_mul];exact h1
  omega
 have hq2:q<=q*bytes:=Nat.le_mul_of_pos_right _ hzs.2;obtain ⟨w1,hrun,hrow,hg⟩:=run_make_full (P:=P) w w.heap.size t e i z T.sz ht hi hz0 hsz k k q (by rw [hby,Nat.mul_comm];omega) (by simp only [maxLen];omega) (le_refl _);have hB:Below w.heap.size w w1:=⟨hg.os,hg.tape,hg.output,hg.size,fun k hk=>hg.block k hk (by simp)⟩
 simp only [Int.toNat_natCast] at h ⊢;have hblk:∀ k,(Value.slice (some ⟨w.heap.size,0,none⟩) (List.replicate q zx).length q).ownBlock=some k->k=w.heap.size:=by
  intro k hk;simp [Value.ownBlock] at hk;exact hk.symm
 refine A9 ha hf (v:=.slice (some ⟨w.heap.size,0,none⟩) (List.replicate q zx).length q) (w':=w1) ?_ fun a' ha'=>
  h w1 (inV (.slice (some ⟨w.heap.size,0,none⟩) (List.replicate q zx).length q) S) (some ⟨w.heap.size,0,none⟩) q ?_ hB ⟨hB.size,fun b hb hn=>⟨fun hi=>?_,hB.block b hb⟩⟩ (fun b hb=>.inr hb) (fun k hk=>by rw [hblk k hk];exact le_refl _) ⟨fun k hk=>⟨.inl hk,.inr (by rw [hblk k hk];exact cx.size)⟩,_,?_,f0t (hz _ _) q⟩ a' ha'
 ·simp [execOp,ho,hx,hy,hrun]
 ·refine ⟨cx.bel.trans hB,fun b hb=>.inr (cx.sub b hb),fun b hb=>?_,cx.lt0⟩;rcases hb with hb | hb
  ·rw [hblk b hb];have:=hrow.2;rcases this with ⟨hv,_⟩ | ⟨g,cap,cur,hv,_,hgg,_⟩
   ·cases hv
   ·simp at hv;obtain ⟨rfl,_⟩:=hv;exact getElem?_lt hgg
  ·exact Nat.lt_of_lt_of_le (cx.lt b hb) hB.size
 ·rcases hi with hi | hi
  ·have:=hblk b hi;omega
  ·exact hn hi
 ·have hm:=j0V z.cells q;rw [hzs.1.1] at hm;rw [hm] at hrow;have h2:=Row.of hrow;obtain ⟨h3,h4⟩:=h2;refine ⟨by simpa using h3,?_⟩;rcases h4 with ⟨hv,_⟩ | ⟨g,cap,cur,hv,r⟩
  ·cases hv
  ·exact .inr ⟨g,cap,cur,by simpa using hv,by simpa using r⟩
theorem n0H (b o p:Nat):(⟨b,o,none⟩:Addr).add p=⟨b,o+p,none⟩:=by
 unfold Addr.add
 by_cases hn:p=0<;>simp [hn]
theorem y0E {cs:List Value} {p q sz:Nat} {v:Value} (h:p<q\/q+sz<=p):((cs.set p v).drop q).take sz=(cs.drop q).take sz:=by
 apply List.ext_getElem?;intro j;rcases lt_or_ge j sz with hj | hj
 ·rw [List.getElem?_take_of_lt hj,List.getElem?_take_of_lt hj,List.getElem?_drop,List.getElem?_drop,List.getElem?_set_ne (by omega)]
 ·rw [List.getElem?_eq_none (by simp;omega),List.getElem?_eq_none (by simp;omega)]
theorem x0g {cs:List Value} {q f sz:Nat} {v:Value}:((cs.set (q+f) v).drop q).take sz=((cs.drop q).take sz).set f v:=by
 apply List.ext_getElem?;intro j;rcases lt_or_ge j sz with hj | hj
 ·rw [List.getElem?_take_of_lt hj,List.getElem?_drop,List.getElem?_set,List.getElem?_set];rw [List.getElem?_take_of_lt hj,List.getElem?_drop]
  by_cases e:f=j
  ·subst e;simp only [if_true,List.length_take,List.length_drop]
   by_cases h1:q+f<cs.length
   ·rw [if_pos h1,if_pos (by omega)]
   ·rw [if_neg h1,if_neg (by omega)]
  ·rw [if_neg (by omega),if_neg e]
 ·rw [List.getElem?_eq_none (by simp;omega),List.getElem?_eq_none (by simp;omega)]
theorem D1.set {α:Type} {T:Ty α} {H H':F0} {S S':B0} {cs:List Value} {xs:List α} (k:J0 H S H' S') (h:D1 T H S cs xs) {i f:Nat} {x x':α} {v:Value} (hf:f<T.sz) (hx:xs[i]?=some x)
  (hr:∀ ecs,T.R H S ecs x->T.R H' S' (ecs.set f v) x'):D1 T H' S' (cs.set (i*T.sz+f) v) (xs.set i x'):=by
 refine ⟨by simp [h.1],fun j y hy=>?_⟩;rw [List.getElem?_set] at hy
 by_cases e:i=j
 ·subst e;have hi:i<xs.length:=by
   rcases lt_or_ge i xs.length with h | h
   ·exact h
   ·rw [List.getElem?_eq_none h] at hx;cases hx
  simp only [if_true,if_pos hi,Option.some.injEq] at hy;subst hy;rw [x0g];exact hr _ (h.2 i x hx)
 ·rw [if_neg e] at hy;rw [y0E]
  ·exact T.Y0 k (h.2 j y hy)
  ·rcases lt_or_ge i j with h1 | h1
   ·left;have:i*T.sz+T.sz<=j*T.sz:=by rw [<-succ_mul];exact mul_le_mul_right _ h1
    omega
   ·right;have:j*T.sz+T.sz<=i*T.sz:=by rw [<-succ_mul];exact mul_le_mul_right _ (by omega)
    omega
theorem A0z {α:Type} [Inhabited α] {T:Ty α} {w0:World} {W0 Wf S0 S:B0} {t e:TypeId} {nn c b off f:Nat} {i:Int} {x y:Operand} {v:Value} {ad:Addr} {xs:List α} {x':α} (ha:Ag n l a) (cx:Cx w0 W0 S0 w S) (hf:(gate ops l o==some true&&fit n l o)=true)
  (ho:o.op=.store t x y) (hx:lk l x=.pointer (some ad)) (hy:lk l y=v) (hW:∀ k,Wr Wf w0 k->Wr W0 w0 k) (hown:Ow T e (Wr Wf w0) w.heap S (.slice (some ⟨b,off,none⟩) nn c) xs) (hi:y0 xs i=true) (hf1:(decide (f<T.sz)&&v.oneCell')=true)
  (had:ad=⟨b,off+i.toNat*T.sz+f,none⟩) (hsz:(P.info? t).map (·.size)=some 1)
  (hr:∀ (H':F0) ecs,J0 w.heap S H' S->T.R w.heap S ecs (gt xs i)->T.R H' S (ecs.set f v) x')
  (h:∀ w1,Cx w0 W0 S0 w1 S->C4 b w w1->J0 w.heap S w1.heap S->Ow T e (Wr Wf w0) w1.heap S (.slice (some ⟨b,off,none⟩) nn c) (xs.set i.toNat x')->∀ a',Ag n (F5 l o.dst undef) a'->wpList P ops Q rest a' w1):wpList P ops Q (o :: rest) a w:=by
 simp only [and_eq_true,decide_eq_true_eq] at hf1;have hgt:=n0q hi;have hii:=b8 hi;have hS:=hown.1;have hlt:=hown.lt;obtain ⟨hs0,cs,⟨hcl,hrow⟩,hels⟩:=hown;rcases hrow with ⟨hv,_⟩ | ⟨g,cap,cur,hv,hg,hnc,hm,hcs,htake⟩
 ·cases hv
 ·simp at hv;obtain ⟨⟨rfl,rfl⟩,rfl,rfl⟩:=hv;have hp:i.toNat*T.sz+f<xs.length*T.sz:=by
   have:i.toNat*T.sz+T.sz<=xs.length*T.sz:=by rw [<-succ_mul];exact mul_le_mul_right _ (by omega)
   omega
  have hcap:xs.length*T.sz<=cur.size:=by rw [hcs];exact mul_le_mul_right _ hnc
  have hcell:w.cell? ⟨b,i.toNat*T.sz+f,none⟩=some (cur[i.toNat*T.sz+f]'(by omega)):=by rw [c0J];unfold Z0;rw [hg];simp
  have hfr:w.frozen? ⟨b,i.toNat*T.sz+f,none⟩=false:=by simp [World.frozen?,hg]
  rw [Nat.zero_add] at had;have hst:=u0A (P:=P) (w:=w) (ad:=ad) had hf1.2 hcell hfr;have hon:=C4.cell w b (i.toNat*T.sz+f) v;have hbS:=hS b (by simp [Value.ownBlock]);have hk:=hon.Y0 hbS.1;refine t0c ha hf (w':=w.setCell ⟨b,i.toNat*T.sz+f,none⟩ v) ?_ fun a' ha'=>h _ (hon.cx cx (hW _ hbS.2)) hon hk ⟨hs0,cs.set (i.toNat*T.sz+f) v,⟨by simp [hcl],.inr ⟨b,c,cur.setIfInBounds (i.toNat*T.sz+f) v,by simp,?_,by simpa using hnc,hm,by simp [hcs],?_⟩⟩,hels.set hk hf1.1 hgt (fun ecs he=>hr _ ecs hk he)⟩ a' ha'
  ·obtain ⟨inf,hinf,hsz'⟩:=Option.map_eq_some_iff.1 hsz;have hcells:v.cells=#[v]:=by have:=hf1.2;cases v<;>simp_all [Value.cells,Value.oneCell']
   have hadd:ad.add 0=ad:=by simp [Addr.add]
   simp [execOp,ho,hx,hy,Instr.storeAt,Instr.sureAddr,storeVar,hcells,sizeOf,typeInfo,hinf,hsz',storeCells,hadd,hst]
  ·simp [World.setCell,Array.getElem?_modify,hg]
  ·simp only [List.length_set,Array.toList_setIfInBounds];rw [List.take_set,htake]
def minus (S:B0) (v:Value):B0:=fun k=>S k/\v.ownBlock≠some k
theorem Cx.minus {w0 w:World} {W0 S0 S:B0} {v:Value} (h:Cx w0 W0 S0 w S) (hB:∀ k,v.ownBlock=some k->¬ S0 k):Cx w0 W0 S0 w (minus S v):=
 ⟨h.bel,fun b hb=>⟨h.sub b hb,fun e=>hB b e hb⟩,fun b hb=>h.lt b hb.1,h.lt0⟩
theorem Sl.minus {α:Type} {T:Ty α} {H:F0} {S:B0} {A:Option Addr} {c:Nat} {v:Value} {xs:List α} (h:Sl T H S A c xs):Sl T H (minus S v) A c xs:=h.Y0 (J0.less (fun _ h=>h.1))
theorem Bx.minus {H:F0} {S:B0} {b:Nat} {t:TypeId} {cs:List Value} {v:Value} (h:Bx H S b t cs):Bx H (minus S v) b t cs:=h.Y0 (J0.less (fun _ h=>h.1))
theorem Ow.A0Y {α:Type} {T:Ty α} {e:TypeId} {M:B0} {H:F0} {S:B0} {A:Option Addr} {n c:Nat} {xs:List α} (h:Ow T e M H S (.slice A n c) xs):Sl T H (Go.V.minus S (.slice A n c)) A c xs:=
 h.freeze (fun _ h=>h.1) (fun _ hb h=>h.2 hb)
theorem Ow.minus {α:Type} {T:Ty α} {e:TypeId} {M:B0} {H:F0} {S:B0} {v u:Value} {xs:List α} (h:Ow T e M H S v xs) (d:M8 v u):Ow T e M H (Go.V.minus S u) v xs:=
 h.o0Q (fun _ h=>h.1) (fun b hb=>⟨(h.1 b hb).1,fun e=>d b hb e⟩)
theorem Mb.minus {M:B0} {H:F0} {S:B0} {b:Nat} {t:TypeId} {cs:List Value} {u:Value} (h:Mb M H S b t cs) (d:M8 (bv b) u):Mb M H (Go.V.minus S u) b t cs:=
 ⟨h.1,⟨h.2.1,fun e=>d b rfl e⟩,h.2.2⟩
def L1 {α:Type} (xs:List α) (lo hi:Int):List α:=(xs.drop lo.toNat).take (hi-lo).toNat
def C3 {α:Type} (xs:List α) (lo hi:Int):Bool:=decide (0<=lo)&&decide (lo<=hi)&&decide (hi<=xs.length)
theorem a0X {α:Type} {xs:List α} {lo hi:Int} (h:C3 xs lo hi=true):(L1 xs lo hi).length=(hi-lo).toNat:=by
 simp only [C3,and_eq_true,decide_eq_true_eq] at h;simp only [L1,List.length_take,List.length_drop];omega
theorem M3.cut {α:Type} {T:Ty α} {H:F0} {S:B0} {A:Option Addr} {xs:List α} {lo hi:Int} {m:Nat} {A':Option Addr} (h:M3 T H S A xs) (hk:C3 xs lo hi=true)
  (hA:A'=A.map (·.add (lo.toNat*T.sz))\/m=0/\(L1 xs lo hi)=[]):M3 T H S A' (L1 xs lo hi):=by
 intro i x hx;have hne:L1 xs lo hi≠[]:=by rintro e;rw [e] at hx;simp at hx
 have hi':i<(hi-lo).toNat:=by
  rw [<-a0X hk];rcases lt_or_ge i (L1 xs lo hi).length with h | h
  ·exact h
  ·rw [List.getElem?_eq_none h] at hx;cases hx
 unfold L1 at hx;rw [List.getElem?_take_of_lt hi',List.getElem?_drop] at hx;obtain ⟨b,o,cs,hA1,hr,hc⟩:=h _ x hx;rcases hA with hA | ⟨_,he⟩
 ·refine ⟨b,o+lo.toNat*T.sz,cs,by rw [hA,hA1];simp [n0H],hr,fun j v hj=>?_⟩;have:=hc j v hj
  rwa [show o+lo.toNat*T.sz+i*T.sz+j=o+(lo.toNat+i)*T.sz+j from by rw [Nat.add_mul];omega]
 ·exact absurd he hne
theorem Sl.cut {α:Type} {T:Ty α} {H:F0} {S:B0} {A A':Option Addr} {c c' m:Nat} {xs:List α} {lo hi:Int} (h:Sl T H S A c xs) (hk:C3 xs lo hi=true) (hc:(hi-lo).toNat<=c')
  (hA:A'=A.map (·.add (lo.toNat*T.sz))\/m=0/\(L1 xs lo hi)=[]):Sl T H S A' c' (L1 xs lo hi):=by
 refine ⟨by rw [a0X hk];exact hc,fun hx=>?_,h.rdb.cut hk hA⟩;have hxs:xs≠[]:=by rintro rfl;simp [L1] at hx
 obtain ⟨b,o,hA1,hb,hs⟩:=h.2.1 hxs;rcases hA with hA | ⟨_,he⟩
 ·exact ⟨b,o+lo.toNat*T.sz,by rw [hA,hA1];simp [n0H],hb,hs⟩
 ·exact absurd he hx
theorem Ow.take {α:Type} {T:Ty α} {e:TypeId} {M:B0} {H:F0} {S:B0} {A:Option Addr} {c:Nat} {xs:List α} {hi:Int} (h:Ow T e M H S (.slice A xs.length c) xs) (h0:0<=hi) (h1:hi<=xs.length):Ow T e M H S (.slice A (L1 xs 0 hi).length c) (L1 xs 0 hi):=by
 have hlen:(L1 xs 0 hi).length=hi.toNat:=by rw [a0X (by simp [C3];omega)];congr 1;omega
 obtain ⟨q,rfl⟩:=Int.eq_ofNat_of_zero_le h0;have hcut:L1 xs 0 (q:Int)=xs.take q:=by simp [L1]
 obtain ⟨hS,cs,⟨hl,h2⟩,he⟩:=h;have hq:q<=xs.length:=by omega
 have hqs:q*T.sz<=xs.length*T.sz:=mul_le_mul_right _ hq;refine ⟨fun k hk=>hS k (by cases A<;>exact hk),cs.take (q*T.sz),⟨by rw [hlen];simp only [List.length_take,Int.toNat_natCast,hl];exact min_eq_left hqs,?_⟩,⟨by rw [hcut,List.length_take,List.length_take,he.1,min_eq_left hq,min_eq_left hqs],fun i x hx=>?_⟩⟩
 ·rcases h2 with ⟨hv,hn⟩ | ⟨g,cap,cur,hv,hg,hnc,hm,hcs,ht⟩
  ·simp at hv;left;refine ⟨?_,by rw [hlen];omega⟩;have:(L1 xs 0 (q:Int)).length=0:=by rw [hlen];omega
   rw [this,hv.1,hv.2.2]
  ·simp at hv;obtain ⟨rfl,rfl⟩:=hv;right;refine ⟨g,c,cur,rfl,hg,by rw [hlen];omega,hm,hcs,?_⟩;rw [hlen,<-ht,List.take_take];simp only [Int.toNat_natCast];rw [min_eq_left (mul_le_mul_right _ (by omega))]
 ·rw [hcut] at hx;have hiq:i<q:=by
   rcases lt_or_ge i q with h | h
   ·exact h
   ·rw [List.getElem?_eq_none (by simp;omega)] at hx;cases hx
  rw [List.getElem?_take_of_lt hiq] at hx;have:=he.2 i x hx;have hle:i*T.sz+T.sz<=q*T.sz:=by rw [<-succ_mul];exact mul_le_mul_right _ hiq
  rw [List.drop_take,List.take_take,min_eq_left (Nat.le_sub_of_add_le (by omega))];exact this
end
