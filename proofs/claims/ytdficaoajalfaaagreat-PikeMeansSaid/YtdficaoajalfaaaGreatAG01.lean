/- Operations that change memory, over frames of known slots: new blocks, stores, make, append. Regions that draw their order, over frames of known slots: what only reads is taken first; the condition on the world hangs on what has come up. Its conditions: none. -/
import Derived.Test.YtdficaoajalfaaaGreatAG00
import Derived.Maps.AppendAt
import Derived.Laws.StructEq
import Derived.Laws.Cover3
import Derived.Laws.Slices
import Derived.OrdersHeld
open Nat (le_refl lt_of_lt_of_le lt_or_ge succ_mul mul_le_mul_right min_eq_left)
open Bool (and_eq_true)
set_option linter.all false
namespace Go.V
open Go.RowKit
section
variable {P:Program} {ops:Array Oper} {n:Nat} {Q:Exit->Act->World->Prop} {l:FL} {a:Act} {w:World} {o:Oper} {rest:List Oper}
theorem Below.new (w:World) (ob:Obj):Below w.heap.size w (w.alloc ob):=(Below.refl _ w).alloc (le_refl _) ob
theorem v0N {b off:Nat} {v v0:Value} {ad:Addr} (had:ad=⟨b,off,none⟩) (h1:v.oneCell'=true) (hc:w.cell? ⟨b,off,none⟩=some v0) (hf:w.frozen? ⟨b,off,none⟩=false) :
  (store ad v).run P w=.ok () (w.setCell ⟨b,off,none⟩ v):=by
 subst had;cases v<;>simp_all [store,Sem.run,Value.oneCell']
theorem z0s {b off:Nat} {t:TypeId} {cs:List Value} {v:Value} (hb:w.heap[b]?=some (.cells cs.toArray t (0,0))) :
  (w.setCell ⟨b,off,none⟩ v).heap[b]?=some (.cells (cs.set off v).toArray t (0,0)):=by
 simp [World.setCell,Array.getElem?_modify,hb]
theorem q0b {W0:D0} {w:World}:∀ k,Wr W0 w k->Wr W0 w k:=fun _ h=>h
structure k7 (b:Nat) (w w1:World):Prop where
 os:w1.os=w.os
 tape:w1.tape=w.tape
 output:w1.output=w.output
 size:w.heap.size<=w1.heap.size
 block:∀ k,k<w.heap.size->k≠b->w1.heap[k]?=w.heap[k]?
theorem k7.cell (w:World) (b off:Nat) (v:Value):k7 b w (w.setCell ⟨b,off,none⟩ v):=
 ⟨rfl,rfl,rfl,by simp [World.setCell],fun k _ hk=>Below.heap_setCell w _ v k hk⟩
theorem k7.cx {b:Nat} {w0 w1:World} {W0 S0 S:D0} (h:Cx w0 W0 S0 w S) (ho:k7 b w w1) (hb:Wr W0 w0 b):Cx w0 W0 S0 w1 S:=
 ⟨⟨ho.os.trans h.bel.os,ho.tape.trans h.bel.tape,ho.output.trans h.bel.output,Nat.le_trans h.bel.size ho.size,fun k hk hn=>(ho.block k (by have:=h.bel.size;omega) (fun e=>by subst e;exact hb.elim hn (fun h2=>by omega))).trans (h.bel.block k hk hn)⟩,h.sub,fun k hk=>lt_of_lt_of_le (h.lt k hk) ho.size,h.lt0⟩
theorem k7.L1 {b:Nat} {w1:World} {S:D0} (ho:k7 b w w1) (hb:S b):U0 w.heap S w1.heap S:=
 ⟨ho.size,fun k hk hn=>⟨hn,ho.block k hk (fun e=>hn (e▸hb))⟩⟩
theorem V5.news {α:Type} {T:Ty α} {S:D0} {A:Option Addr}:∀ {xs:List α} {k:Nat},(∀ (i:Nat) (x:α),xs[i]?=some x->∃ b o cs,A=some ⟨b,o,none⟩/\T.R w.heap S cs x/\∀ j v,cs[j]?=some v->U2 w.heap b (o+(k+i)*T.sz+j)=some v)->
  ∃ news,U1 T w.heap S news xs/\∀ b o,A=some ⟨b,o,none⟩->∀ j u,news[j]?=some u->U2 w.heap b (o+k*T.sz+j)=some u
 |[],k,_=>⟨[],U1.nil,fun b o _ j u hj=>by simp at hj⟩
 |
  x :: xs,k,h=>by
  obtain ⟨b,o,cs,hA,hr,hc⟩:=h 0 x (by simp);obtain ⟨news,he,hn⟩:=V5.news (xs:=xs) (k:=k+1) (fun i y hy=>by
   obtain ⟨b,o,cs,hA,hr,hc⟩:=h (i+1) y (by simpa using hy);exact ⟨b,o,cs,hA,hr,fun j v hj=>by have:=hc j v hj;rwa [show k+1+i=k+(i+1) from by omega]⟩)
  refine ⟨cs++news,?_,fun b' o' hA' j u hj=>?_⟩
  ·have:=(U1.one hr).append he;simpa using this
  ·rcases lt_or_ge j cs.length with hlt | hge
   ·rw [List.getElem?_append_left hlt] at hj;obtain ⟨rfl,rfl⟩:b=b'/\o=o':=by rw [hA] at hA';simpa using hA'
    simpa using hc j u hj
   ·rw [List.getElem?_append_right hge] at hj;have h2:=hn b' o' hA' _ u hj;rw [T.len hr] at h2 hge;rw [show o'+k*T.sz+j=o'+(k+1)*T.sz+(j-T.sz) from by rw [Nat.add_mul];omega];exact h2
theorem r05 (base:Nat) (t ty e:TypeId) (i:TypeInfo) (size:Nat) (ht:P.underlying t=some (.slice e)) (hi:P.info? e=some i)
  (v:Value) (n:Nat) (xs:List Value) (hown:w.ownsRow base e size v n xs) (A:Option Addr) (c:Nat):(Builtin.append_ #[t,t] ty #[v,.slice A 0 c]).run P w=.ok v w:=by
 rcases hown.2 with ⟨rfl,rfl⟩ | ⟨g,cap,cur,rfl,_,_,hnc,_⟩
 ·cases A<;>simp [Builtin.append_,run_underlying ht,sizeOf,typeInfo,hi,Builtin.lenOf,Builtin.firstCells,loadCells,loadCellsFrom]
 ·cases A<;>simp [Builtin.append_,run_underlying ht,sizeOf,typeInfo,hi,Builtin.lenOf,Builtin.firstCells,loadCells,loadCellsFrom,hnc,storeCells]
def I0 {α:Type} (bytes:Nat) (xs ys:List α):Bool:=decide ((xs.length+ys.length)*bytes<=140737488355328)
theorem z0i {α:Type} {T:Ty α} {S M:D0} (t ty e:TypeId) (bytes:Nat) (z:Value) (ht:P.underlying t=some (.slice e)) (hE:(P.info? e).map (fun i=>(i.zero,i.size,i.bytes))=some (some z,T.sz,bytes)) (hzs:(decide (z.cells.size=T.sz)&&decide (0<T.sz)&&decide (0<bytes))=true)
  {v:Value} {xs ys:List α} (hown:Ow T e M w.heap S v xs) {A:Option Addr} {c:Nat} (hy:V5 T w.heap S A ys) (hfit:I0 bytes xs ys=true) :
  ∃ v' w1,(Builtin.append_ #[t,t] ty #[v,.slice A ys.length c]).run P w=.ok v' w1/\w.grownBy w1 v.ownBlock/\(v'.ownBlock=v.ownBlock\/v'.ownBlock=some w.heap.size)/\
   ∀ S1:D0,U0 w.heap S w1.heap S1->∀ M1:D0,(∀ k,v'.ownBlock=some k->S1 k/\M1 k)->Ow T e M1 w1.heap S1 v' (xs++ys):=by
 obtain ⟨i,hi,hi2⟩:=Option.map_eq_some_iff.1 hE;simp only [Prod.mk.injEq] at hi2;obtain ⟨hz,hsz,hby⟩:=hi2;simp only [and_eq_true,decide_eq_true_eq] at hzs;obtain ⟨hS,cs,hrow,hels⟩:=hown;simp only [I0,decide_eq_true_eq] at hfit;have hmax:xs.length+ys.length<=maxLen:=by
  have:xs.length+ys.length<=(xs.length+ys.length)*bytes:=Nat.le_mul_of_pos_right _ hzs.2;simp only [maxLen];omega
 obtain ⟨news,hen,hcells⟩:=V5.news (w:=w) (xs:=ys) (k:=0) (A:=A) (T:=T) (S:=S) (fun i x hx=>by
  obtain ⟨b,o,cs,h1,h2,h3⟩:=hy i x hx;exact ⟨b,o,cs,h1,h2,fun j v hj=>by rw [Nat.zero_add];exact h3 j v hj⟩)
 have done:∀ (v':Value) (w1:World),w1.ownsRow 0 e T.sz v' (xs.length+ys.length) (cs++news)->∀ S1:D0,U0 w.heap S w1.heap S1->∀ M1:D0,(∀ k,v'.ownBlock=some k->S1 k/\M1 k)->Ow T e M1 w1.heap S1 v' (xs++ys):=by
  intro v' w1 h1 S1 k M1 hS1;refine ⟨hS1,cs++news,?_,(hels.L1 k).append (hen.L1 k)⟩;have:=Row.of h1;simpa using this
 rcases A with _ | ad
 ·have h0:ys=[]:=by
   cases ys with
   |nil=>rfl
   |cons y ys=>obtain ⟨b,o,cs,h,_⟩:=hy 0 y (by simp);cases h
  subst h0;have hn:news=[]:=List.eq_nil_of_length_eq_zero (by have:=hen.1;simpa using this);subst hn;exact ⟨v,w,r05 0 t ty e i T.sz ht hi v xs.length cs hrow.own none c,⟨rfl,rfl,rfl,le_refl _,fun _ _ _=>rfl⟩,.inl rfl,done v w (by simpa using hrow.own)⟩
 ·rcases Nat.eq_zero_or_pos ys.length with h0 | hpos
  ·have h0:ys=[]:=List.eq_nil_of_length_eq_zero h0;subst h0;have hn:news=[]:=List.eq_nil_of_length_eq_zero (by have:=hen.1;simpa using this);subst hn;exact ⟨v,w,r05 0 t ty e i T.sz ht hi v xs.length cs hrow.own (some ad) c,⟨rfl,rfl,rfl,le_refl _,fun _ _ _=>rfl⟩,.inl rfl,done v w (by simpa using hrow.own)⟩
  ·obtain ⟨b,o,_,hA,_⟩:=hy 0 ys[0] (by simp [hpos]);have hA:=Option.some.inj hA;subst hA;have hnews:∀ j u,news[j]?=some u->w.cell? ((⟨b,o,none⟩:Addr).add j)=some u:=by
    intro j u hj;rw [b0a];have:=hcells b o rfl j u hj;simpa using this
   obtain ⟨v',w',hrun,h2,h3,_,h5⟩:=run_append_own_at (P:=P) w 0 t ty e i z T.sz bytes ht hi hz hsz hby hzs.1.1 hzs.1.2 v xs.length cs hrow.own ⟨b,o,none⟩ ys.length c news hen.1 hnews hen.f01 hmax hfit (Nat.zero_le _);exact ⟨v',w',hrun,h3,h5,done v' w' h2⟩
theorem Ow.ext {α:Type} {T:Ty α} {e:TypeId} {M S:D0} {v:Value} {xs:List α} {w w1:World} (h:Ow T e M w.heap S v xs) (hb:Below w.heap.size w w1):Ow T e M w1.heap S v xs:=
 h.L1 (U0.ext S hb) (fun _ h=>h) (fun b hv=>hb.block b (h.lt b hv))
theorem Mb.ext {M S:D0} {b:Nat} {t:TypeId} {cs:List Value} {w w1:World} (h:Mb M w.heap S b t cs) (hb:Below w.heap.size w w1):Mb M w1.heap S b t cs:=
 h.L1 (fun _ h=>h) (hb.block b (getElem?_lt h.1))
theorem Ow.result {α:Type} {T:Ty α} {e:TypeId} {M:D0} {H:K0} {S S0:D0} {v:Value} {xs:List α} (h:Ow T e M H S v xs) (hs:∀ b,S0 b->S b):Ow T e M H (inV v S0) v xs:=
 h.p0E (fun _ hb=>hb.elim (fun h2=>(h.1 _ h2).1) (hs _)) (fun _ hb=>.inl hb)
theorem Bx.new {w0 w w1:World} {W0 S0 S:D0} {b:Nat} {t:TypeId} {cs:List Value} (cx:Cx w0 W0 S0 w S) (hk:w1.heap[b]?=some (.cells cs.toArray t (0,0))) (he:w.heap.size=b):Bx w1.heap S b t cs:=
 ⟨hk,fun hs=>by have:=cx.lt b hs;omega⟩
def Dis (v u:Value):Prop:=∀ k,v.ownBlock=some k->u.ownBlock≠some k
def bv (b:Nat):Value:=.slice (some ⟨b,0,none⟩) 0 0
theorem Dis.symm {v u:Value} (h:Dis v u):Dis u v:=fun k hk e=>h k e hk
theorem Dis.nil {v:Value}:Dis v (.slice none 0 0):=fun k _ e=>by cases e
theorem Dis.new {v u:Value} {m:Nat} (h:∀ k,v.ownBlock=some k->k<m) (h':∀ k,u.ownBlock=some k->m<=k):Dis v u:=fun k hk e=>by have:=h k hk;have:=h' k e;omega
theorem Dis.grow {v u u':Value} {m:Nat} (d:Dis v u) (h:∀ k,v.ownBlock=some k->k<m) (h':∀ k,u'.ownBlock=some k->u.ownBlock=some k\/m<=k):Dis v u':=fun k hk e=>by
 rcases h' k e with h2 | h2
 ·exact d k hk h2
 ·have:=h k hk;omega
theorem Mb.lt {M:D0} {H:K0} {S:D0} {b:Nat} {t:TypeId} {cs:List Value} (h:Mb M H S b t cs):∀ k,(bv b).ownBlock=some k->k<H.size:=fun k hk=>by cases hk;exact getElem?_lt h.1
theorem Ow.only {α:Type} {T:Ty α} {e:TypeId} {M S:D0} {b:Nat} {v:Value} {xs:List α} {w w1:World} (h:Ow T e M w.heap S v xs) (ho:k7 b w w1) (hS:S b) (hd:v.ownBlock≠some b):Ow T e M w1.heap S v xs:=
 h.L1 (ho.L1 hS) (fun _ h=>h) (fun k hk=>ho.block k (h.lt k hk) (fun e=>hd (by rw [<-e];exact hk)))
theorem Mb.only {M S:D0} {b b2:Nat} {t:TypeId} {cs:List Value} {w w1:World} (h:Mb M w.heap S b2 t cs) (ho:k7 b w w1) (hd:b2≠b):Mb M w1.heap S b2 t cs:=
 h.L1 (fun _ h=>h) (ho.block b2 (getElem?_lt h.1) hd)
def V2 (bytes:Nat) (n:Int):Bool:=decide (0<=n)&&decide (n*bytes<=140737488355328)
theorem i05 {α:Type} {T:Ty α} {H:K0} {S:D0} {z:List Value} {x:α} (hx:T.R H S z x):∀ (k:Nat),U1 T H S (List.replicate k z).flatten (List.replicate k x)
 |0=>U1.nil
 |
  k+1=>by
  rw [List.replicate_succ,List.replicate_succ,List.flatten_cons];exact (U1.one hx).append (i05 hx k)
theorem n0j (z:Array Value):∀ (k:Nat),(madeCells z (k*z.size)).toList=(List.replicate k z.toList).flatten:=by
 intro k;apply List.ext_getElem?;intro i;have hl:((List.replicate k z.toList).flatten).length=k*z.size:=by simp
 rcases lt_or_ge i (k*z.size) with hi | hi
 ·have h1:((madeCells z (k*z.size)).toList)[i]?=some z[i % z.size]!:=by simp [madeCells,hi]
  rw [h1];have key:∀ (k i:Nat),i<k*z.size->((List.replicate k z.toList).flatten)[i]?=some z[i % z.size]!:=by
   intro k
   induction k with
   |zero=>intro i h;omega
   |
    succ k ih=>
    intro i h;rw [List.replicate_succ,List.flatten_cons];rcases lt_or_ge i z.size with h2 | h2
    ·rw [List.getElem?_append_left (by simpa using h2),Nat.mod_eq_of_lt h2];simp [h2]
    ·rw [List.getElem?_append_right (by simpa using h2),Array.length_toList,ih (i-z.size) (by rw [succ_mul] at h;omega)];rw [Nat.mod_eq_sub_mod h2]
  exact (key k i hi).symm
 ·rw [List.getElem?_eq_none (by simp [size_madeCells];exact hi),List.getElem?_eq_none (by rw [hl];exact hi)]
theorem D0D {α:Type} {T:Ty α} {w0:World} {W0 S0 S:D0} {t e:TypeId} {bytes:Nat} {z:Value} {zx:α} {x y:Operand} {k:IntKind} {m:Int} (ha:Ag n l a) (cx:Cx w0 W0 S0 w S) (hf:(gate ops l o==some true&&fit n l o)=true)
  (ho:o.op=.makeSlice t x y) (hx:lk l x=.int k m) (hy:lk l y=.int k m)
  (ht:P.underlying t=some (.slice e)) (hE:(P.info? e).map (fun i=>(i.zero,i.size,i.bytes))=some (some z,T.sz,bytes)) (hzs:(decide (z.cells.size=T.sz)&&decide (0<T.sz)&&decide (0<bytes))=true)
  (hz:∀ (H:K0) (S:D0),T.R H S z.cells.toList zx) (hfit:V2 bytes m=true)
  (h:∀ w1 S1 A1 c1,Cx w0 W0 S0 w1 S1->Below w.heap.size w w1->U0 w.heap S w1.heap S1->(∀ b,S b->S1 b)->
   (∀ k,(Value.slice A1 (List.replicate m.toNat zx).length c1).ownBlock=some k->w.heap.size<=k)->Ow T e (Wr Q5 w0) w1.heap S1 (.slice A1 (List.replicate m.toNat zx).length c1) (List.replicate m.toNat zx)->
   ∀ a',Ag n (A8 l o.dst (.slice A1 (List.replicate m.toNat zx).length c1)) a'->wpList P ops Q rest a' w1):wpList P ops Q (o :: rest) a w:=by
 obtain ⟨i,hi,hi2⟩:=Option.map_eq_some_iff.1 hE;simp only [Prod.mk.injEq] at hi2;obtain ⟨hz0,hsz,hby⟩:=hi2;simp only [and_eq_true,decide_eq_true_eq] at hzs;simp only [V2,and_eq_true,decide_eq_true_eq] at hfit;obtain ⟨q,rfl⟩:=Int.eq_ofNat_of_zero_le hfit.1;have hq:q*bytes<=140737488355328:=by
  have h1:=hfit.2;have h2:((q*bytes:Nat):Int)<=140737488355328:=by rw [Int.natCast_mul];exact h1
  omega
 have hq2:q<=q*bytes:=Nat.le_mul_of_pos_right _ hzs.2;obtain ⟨w1,hrun,hrow,hg⟩:=run_make_full (P:=P) w w.heap.size t e i z T.sz ht hi hz0 hsz k k q (by rw [hby,Nat.mul_comm];omega) (by simp only [maxLen];omega) (le_refl _);have hB:Below w.heap.size w w1:=⟨hg.os,hg.tape,hg.output,hg.size,fun k hk=>hg.block k hk (by simp)⟩
 simp only [Int.toNat_natCast] at h ⊢;have hblk:∀ k,(Value.slice (some ⟨w.heap.size,0,none⟩) (List.replicate q zx).length q).ownBlock=some k->k=w.heap.size:=by
  intro k hk;simp [Value.ownBlock] at hk;exact hk.symm
 refine c0A ha hf (v:=.slice (some ⟨w.heap.size,0,none⟩) (List.replicate q zx).length q) (w':=w1) ?_ fun a' ha'=>
  h w1 (inV (.slice (some ⟨w.heap.size,0,none⟩) (List.replicate q zx).length q) S) (some ⟨w.heap.size,0,none⟩) q ?_ hB ⟨hB.size,fun b hb hn=>⟨fun hi=>?_,hB.block b hb⟩⟩ (fun b hb=>.inr hb) (fun k hk=>by rw [hblk k hk];exact le_refl _) ⟨fun k hk=>⟨.inl hk,.inr (by rw [hblk k hk];exact cx.size)⟩,_,?_,i05 (hz _ _) q⟩ a' ha'
 ·simp [execOp,ho,hx,hy,hrun]
 ·refine ⟨cx.bel.trans hB,fun b hb=>.inr (cx.sub b hb),fun b hb=>?_,cx.lt0⟩;rcases hb with hb | hb
  ·rw [hblk b hb];have:=hrow.2;rcases this with ⟨hv,_⟩ | ⟨g,cap,cur,hv,_,hgg,_⟩
   ·cases hv
   ·simp at hv;obtain ⟨rfl,_⟩:=hv;exact getElem?_lt hgg
  ·exact lt_of_lt_of_le (cx.lt b hb) hB.size
 ·rcases hi with hi | hi
  ·have:=hblk b hi;omega
  ·exact hn hi
 ·have hm:=n0j z.cells q;rw [hzs.1.1] at hm;rw [hm] at hrow;have h2:=Row.of hrow;obtain ⟨h3,h4⟩:=h2;refine ⟨by simpa using h3,?_⟩;rcases h4 with ⟨hv,_⟩ | ⟨g,cap,cur,hv,r⟩
  ·cases hv
  ·exact .inr ⟨g,cap,cur,by simpa using hv,by simpa using r⟩
theorem r0L (b o p:Nat):(⟨b,o,none⟩:Addr).add p=⟨b,o+p,none⟩:=by
 unfold Addr.add
 by_cases hn:p=0<;>simp [hn]
theorem E0x {cs:List Value} {p q sz:Nat} {v:Value} (h:p<q\/q+sz<=p):((cs.set p v).drop q).take sz=(cs.drop q).take sz:=by
 apply List.ext_getElem?;intro j;rcases lt_or_ge j sz with hj | hj
 ·rw [List.getElem?_take_of_lt hj,List.getElem?_take_of_lt hj,List.getElem?_drop,List.getElem?_drop,List.getElem?_set_ne (by omega)]
 ·rw [List.getElem?_eq_none (by simp;omega),List.getElem?_eq_none (by simp;omega)]
theorem A0P {cs:List Value} {q f sz:Nat} {v:Value}:((cs.set (q+f) v).drop q).take sz=((cs.drop q).take sz).set f v:=by
 apply List.ext_getElem?;intro j;rcases lt_or_ge j sz with hj | hj
 ·rw [List.getElem?_take_of_lt hj,List.getElem?_drop,List.getElem?_set,List.getElem?_set];rw [List.getElem?_take_of_lt hj,List.getElem?_drop]
  by_cases e:f=j
  ·subst e;simp only [if_true,List.length_take,List.length_drop]
   by_cases h1:q+f<cs.length
   ·rw [if_pos h1,if_pos (by omega)]
   ·rw [if_neg h1,if_neg (by omega)]
  ·rw [if_neg (by omega),if_neg e]
 ·rw [List.getElem?_eq_none (by simp;omega),List.getElem?_eq_none (by simp;omega)]
theorem U1.set {α:Type} {T:Ty α} {H H':K0} {S S':D0} {cs:List Value} {xs:List α} (k:U0 H S H' S') (h:U1 T H S cs xs) {i f:Nat} {x x':α} {v:Value} (hf:f<T.sz) (hx:xs[i]?=some x)
  (hr:∀ ecs,T.R H S ecs x->T.R H' S' (ecs.set f v) x'):U1 T H' S' (cs.set (i*T.sz+f) v) (xs.set i x'):=by
 refine ⟨by simp [h.1],fun j y hy=>?_⟩;rw [List.getElem?_set] at hy
 by_cases e:i=j
 ·subst e;have hi:i<xs.length:=by
   rcases lt_or_ge i xs.length with h | h
   ·exact h
   ·rw [List.getElem?_eq_none h] at hx;cases hx
  simp only [if_true,if_pos hi,Option.some.injEq] at hy;subst hy;rw [A0P];exact hr _ (h.2 i x hx)
 ·rw [if_neg e] at hy;rw [E0x]
  ·exact T.L1 k (h.2 j y hy)
  ·rcases lt_or_ge i j with h1 | h1
   ·left;have:i*T.sz+T.sz<=j*T.sz:=by rw [<-succ_mul];exact mul_le_mul_right _ h1
    omega
   ·right;have:j*T.sz+T.sz<=i*T.sz:=by rw [<-succ_mul];exact mul_le_mul_right _ (by omega)
    omega
def s0w (n:Nat) (i:Int):Bool:=decide (0<=i)&&decide (i<n)
def h0r {α:Type} (l:List α):Bool:=!l.isEmpty
def I1 {α:Type} (xs:List α) (lo hi:Int):List α:=(xs.drop lo.toNat).take (hi-lo).toNat
def I4 {α:Type} (xs:List α) (lo hi:Int):Bool:=decide (0<=lo)&&decide (lo<=hi)&&decide (hi<=xs.length)
theorem c04 {α:Type} {xs:List α} {lo hi:Int} (h:I4 xs lo hi=true):(I1 xs lo hi).length=(hi-lo).toNat:=by
 simp only [I4,and_eq_true,decide_eq_true_eq] at h;simp only [I1,List.length_take,List.length_drop];omega
theorem V5.cut {α:Type} {T:Ty α} {H:K0} {S:D0} {A:Option Addr} {xs:List α} {lo hi:Int} {m:Nat} {A':Option Addr} (h:V5 T H S A xs) (hk:I4 xs lo hi=true)
  (hA:A'=A.map (·.add (lo.toNat*T.sz))\/m=0/\(I1 xs lo hi)=[]):V5 T H S A' (I1 xs lo hi):=by
 intro i x hx;have hne:I1 xs lo hi≠[]:=by rintro e;rw [e] at hx;simp at hx
 have hi':i<(hi-lo).toNat:=by
  rw [<-c04 hk];rcases lt_or_ge i (I1 xs lo hi).length with h | h
  ·exact h
  ·rw [List.getElem?_eq_none h] at hx;cases hx
 unfold I1 at hx;rw [List.getElem?_take_of_lt hi',List.getElem?_drop] at hx;obtain ⟨b,o,cs,hA1,hr,hc⟩:=h _ x hx;rcases hA with hA | ⟨_,he⟩
 ·refine ⟨b,o+lo.toNat*T.sz,cs,by rw [hA,hA1];simp [r0L],hr,fun j v hj=>?_⟩;have:=hc j v hj
  rwa [show o+lo.toNat*T.sz+i*T.sz+j=o+(lo.toNat+i)*T.sz+j from by rw [Nat.add_mul];omega]
 ·exact absurd he hne
theorem Sl.cut {α:Type} {T:Ty α} {H:K0} {S:D0} {A A':Option Addr} {c c' m:Nat} {xs:List α} {lo hi:Int} (h:Sl T H S A c xs) (hk:I4 xs lo hi=true) (hc:(hi-lo).toNat<=c')
  (hA:A'=A.map (·.add (lo.toNat*T.sz))\/m=0/\(I1 xs lo hi)=[]):Sl T H S A' c' (I1 xs lo hi):=by
 refine ⟨by rw [c04 hk];exact hc,fun hx=>?_,h.rdb.cut hk hA⟩;have hxs:xs≠[]:=by rintro rfl;simp [I1] at hx
 obtain ⟨b,o,hA1,hb,hs⟩:=h.2.1 hxs;rcases hA with hA | ⟨_,he⟩
 ·exact ⟨b,o+lo.toNat*T.sz,by rw [hA,hA1];simp [r0L],hb,hs⟩
 ·exact absurd he hx
theorem Ow.take {α:Type} {T:Ty α} {e:TypeId} {M:D0} {H:K0} {S:D0} {A:Option Addr} {c:Nat} {xs:List α} {hi:Int} (h:Ow T e M H S (.slice A xs.length c) xs) (h0:0<=hi) (h1:hi<=xs.length):Ow T e M H S (.slice A (I1 xs 0 hi).length c) (I1 xs 0 hi):=by
 have hlen:(I1 xs 0 hi).length=hi.toNat:=by rw [c04 (by simp [I4];omega)];congr 1;omega
 obtain ⟨q,rfl⟩:=Int.eq_ofNat_of_zero_le h0;have hcut:I1 xs 0 (q:Int)=xs.take q:=by simp [I1]
 obtain ⟨hS,cs,⟨hl,h2⟩,he⟩:=h;have hq:q<=xs.length:=by omega
 have hqs:q*T.sz<=xs.length*T.sz:=mul_le_mul_right _ hq;refine ⟨fun k hk=>hS k (by cases A<;>exact hk),cs.take (q*T.sz),⟨by rw [hlen];simp only [List.length_take,Int.toNat_natCast,hl];exact min_eq_left hqs,?_⟩,⟨by rw [hcut,List.length_take,List.length_take,he.1,min_eq_left hq,min_eq_left hqs],fun i x hx=>?_⟩⟩
 ·rcases h2 with ⟨hv,hn⟩ | ⟨g,cap,cur,hv,hg,hnc,hm,hcs,ht⟩
  ·simp at hv;left;refine ⟨?_,by rw [hlen];omega⟩;have:(I1 xs 0 (q:Int)).length=0:=by rw [hlen];omega
   rw [this,hv.1,hv.2.2]
  ·simp at hv;obtain ⟨rfl,rfl⟩:=hv;right;refine ⟨g,c,cur,rfl,hg,by rw [hlen];omega,hm,hcs,?_⟩;rw [hlen,<-ht,List.take_take];simp only [Int.toNat_natCast];rw [min_eq_left (mul_le_mul_right _ (by omega))]
 ·rw [hcut] at hx;have hiq:i<q:=by
   rcases lt_or_ge i q with h | h
   ·exact h
   ·rw [List.getElem?_eq_none (by simp;omega)] at hx;cases hx
  rw [List.getElem?_take_of_lt hiq] at hx;have:=he.2 i x hx;have hle:i*T.sz+T.sz<=q*T.sz:=by rw [<-succ_mul];exact mul_le_mul_right _ hiq
  rw [List.drop_take,List.take_take,min_eq_left (Nat.le_sub_of_add_le (by omega))];exact this
end
def NoP (Q:Exit->Act->World->Prop):Prop:=∀ c a w,¬ Q (.panic c) a w
section
variable {P:Program} {ops:Array Oper} {n:Nat} {Q:Exit->Act->World->Prop} {S:Array Bool->World->Prop} {l:FL} {a:Act} {w:World} {listed:Array Bool} {fuel:Nat}
def wpS (P:Program) (ops:Array Oper) (Q:Exit->Act->World->Prop) (S:Array Bool->World->Prop):Nat->Array Bool->Act->World->Prop
 |0,L,a,w=>Region.ready .any ops L=[]/\Q .normal a w
 |f+1,L,a,w=>(Region.ready .any ops L=[]->Q .normal a w)/\∀ i∈Region.ready .any ops L,wpOp P ops Q i (fun a' w'=>S (L.setIfInBounds i true) w'/\wpS P ops Q S f (L.setIfInBounds i true) a' w') a w
theorem k05:∀ (f:Nat) (L:Array Bool) (a:Act) (w:World),wpS P ops Q S f L a w->wpAny P .any ops Q f L a w
 |0,_,_,_,h=>h
 |f+1,_,_,_,h=>⟨h.1,fun i hi=>wpOp_mono (fun a' w' k=>k05 f _ a' w' k.2) (h.2 i hi)⟩
def Cl (ops:Array Oper) (L:Array Bool):Prop:=L.size=ops.size/\∀ j o,ops[j]?=some o->L.getD j false=true->∀ e∈o.after,Region.binds .any e=true->L.getD e.on false=true
def clb (ops:Array Oper) (L:Array Bool):Bool:=(L.size==ops.size)&&(List.range ops.size).all fun j=>match ops[j]? with
 |some o=>!L.getD j false||o.after.all fun e=>!Region.binds .any e||L.getD e.on false
 |none=>true
theorem n0I {L:Array Bool} (h:clb ops L=true):Cl ops L:=by
 simp only [clb,and_eq_true,beq_iff_eq,List.all_eq_true] at h;refine ⟨h.1,fun j o ho hj e he hb=>?_⟩;have hlt:j<ops.size:=(Array.getElem?_eq_some_iff.1 ho).1;have h2:=h.2 j (List.mem_range.2 hlt);simp only [ho,hj,Bool.not_true,Bool.false_or,Array.all_eq_true_iff_forall_mem] at h2;have h3:=h2 e he;simpa [hb] using h3
theorem Cl.set {L:Array Bool} {j:Nat} (h:Cl ops L) (hj:j∈Region.ready .any ops L):Cl ops (L.setIfInBounds j true):=by
 refine ⟨by simp [h.1],fun k o ho hk e he hb=>?_⟩;obtain ⟨_,oj,hoj,hall⟩:=mem_ready.1 hj
 by_cases e2:j=k
 ·subst e2;rw [hoj] at ho;cases ho;exact getD_set_true (hall e he hb)
 ·rw [getD_set_ne false e2] at hk;exact getD_set_true (h.2 k o ho hk e he hb)
theorem m0r {i:Nat} {oi:Oper} {v:Value} {Sx:World->Prop} (hi:ops[i]?=some oi) (hsel:∀ (j:Nat) (o:Oper) cs b,ops[j]?=some o->o.op≠.select cs b)
  (hQ:∀ c a w,Q (.panic c) (a.put oi.dst v) w->Q (.panic c) a w) (hSx:∀ L w,Cl ops L->L.getD i true=false->S L w->Sx w) (hSi:∀ L w,S (L.setIfInBounds i true) w->L.getD i true=false->S L w)
  (hSj:∀ L w,S L w->S (L.setIfInBounds i true) w) :
  ∀ (fuel:Nat) (L:Array Bool) (a:Act) (w:World),Cl ops L->(∀ j oj,ops[j]?=some oj->j≠i->L.getD j true=false->(∀ e∈oj.after,Region.binds .any e=true->e.on≠i)->oi.apart ops oj=true)->
   i∈Region.ready .any ops L->YieldsIf P ops Sx oi v a->S L w->wpS P ops Q S fuel (L.setIfInBounds i true) (a.put oi.dst v) w->wpS P ops Q S (fuel+1) L a w:=by
 intro fuel
 induction fuel with
 |
  zero=>
  intro L a w hcl _ hr hy hS H;refine ⟨fun h=>(by rw [h] at hr;cases hr),fun j hj=>?_⟩
  by_cases e:j=i
  ·subst e;exact hy.wpOp hi (hSx L w hcl (mem_ready.1 hr).1 hS) ⟨hSj L w hS,H⟩
  ·have:=ready_mono hj e;rw [H.1] at this;cases this
 |
  succ fuel ih=>
  intro L a w hcl hfree hr hy hS H;have hun:=(mem_ready.1 hr).1;refine ⟨fun h=>(by rw [h] at hr;cases hr),fun j hj=>?_⟩
  by_cases e:j=i
  ·subst e;exact hy.wpOp hi (hSx L w hcl hun hS) ⟨hSj L w hS,H⟩
  ·have h1:=H.2 j (ready_mono hj e);obtain ⟨hjun,oj,hoj,hall⟩:=mem_ready.1 hj;have hnot:∀ e∈oj.after,Region.binds .any e=true->e.on≠i:=fun e he hb heq=>by
    have h1:=hall e he hb;rw [heq] at h1;rcases lt_or_ge i L.size with h' | h'
    ·simp [h'] at hun h1;rw [hun] at h1;cases h1
    ·simp [Array.getElem?_eq_none h'] at h1
   have h2:=wpOp_putIf hoj (hfree j oj hoj e hjun hnot) (fun cs b=>hsel i oi cs b hi) (fun cs b=>hsel j oj cs b hoj) hQ hy h1;have hfree':∀ k ok,ops[k]?=some ok->k≠i->(L.setIfInBounds j true).getD k true=false->(∀ e∈ok.after,Region.binds .any e=true->e.on≠i)->oi.apart ops ok=true:=fun k ok hk hki hun hno=>by
    refine hfree k ok hk hki ?_ hno
    by_cases hjk:j=k
    ·subst hjk;exact hjun
    ·rw [getD_set_ne true hjk] at hun;exact hun
   refine wpOp_mono (fun a' w' h3=>?_) h2;have h4:=h3.2.1;rw [Array.setIfInBounds_comm _ _ (Ne.symm e)] at h4;have hS':=hSi _ w' h4 (by rw [getD_set_ne true e];exact hun);refine ⟨hS',ih (L.setIfInBounds j true) a' w' (hcl.set hj) hfree' (ready_mono hr (Ne.symm e)) h3.1 hS' ?_⟩;rw [Array.setIfInBounds_comm _ _ e];exact h3.2.2
def marks (ops:Array Oper) (s:List Nat):List Nat->List Nat
 |[]=>s
 |j :: js=>marks ops (if s.contains j then (match ops[j]? with | some o=>(o.after.toList.filter (Region.binds .any)).map (·.on)++s | none=>s) else s) js
def e0g (ops:Array Oper) (m i:Nat):Bool:=decide (ops.size<=m)||(marks ops [m] (List.range ops.size).reverse).contains i
theorem t07 {L:Array Bool} (hc:Cl ops L) {m:Nat}:∀ (js s:List Nat),(∀ k∈s,L.getD k false=false->L.getD m false=false)->∀ k∈marks ops s js,L.getD k false=false->L.getD m false=false
 |[],s,h=>h
 |
  j :: js,s,h=>by
  unfold marks;refine t07 hc js _ ?_;split
  ·rename_i hj;have hj:j∈s:=by simpa using hj
   cases ho:ops[j]? with
   |none=>simpa [ho] using h
   |
    some o=>
    simp only;intro k hk hkL;simp only [List.mem_append,List.mem_map,List.mem_filter] at hk;rcases hk with ⟨e,⟨he,hb⟩,rfl⟩ | hk
    ·refine h j hj ?_;cases hL:L.getD j false with
     |false=>rfl
     |true=>have:=hc.2 j o ho hL e (by simpa using he) hb;rw [this] at hkL;cases hkL
    ·exact h k hk hkL
  ·exact h
theorem t0n {L:Array Bool} (hc:Cl ops L) {m i:Nat} (h:e0g ops m i=true) (hi:L.getD i true=false):L.getD m false=false:=by
 simp only [e0g,Bool.or_eq_true,decide_eq_true_eq] at h;rcases h with h | h
 ·rw [<-hc.1] at h;simp [h]
 ·refine t07 hc _ [m] (fun k hk hL=>by simp at hk;subst hk;exact hL) i (by simpa using h) ?_;rcases lt_or_ge i L.size with h' | h'
  ·simpa [h'] using hi
  ·simp [h']
def Sk (T:D0) (w w':World):Prop:=∃ T',U0 w.heap T w'.heap T'
def Sd (m:Nat) (T:D0) (w0:World) (L:Array Bool) (w:World):Prop:=Sk T w0 w/\(L.getD m false=false->∀ k,k<w0.heap.size->w.heap[k]?=w0.heap[k]?)
def w8 (w0 w:World):Prop:=∀ k,k<w0.heap.size->w.heap[k]?=w0.heap[k]?
theorem Sd.start (m:Nat) (T:D0) (w0:World) (L:Array Bool):Sd m T w0 L w0:=⟨⟨T,U0.refl _ _⟩,fun _ _ _=>rfl⟩
theorem Sd.before {m:Nat} {T T':D0} {w0:World} {L:Array Bool} (k:U0 w0.heap T w.heap T') (h:w8 w0 w):Sd m T w0 L w:=⟨⟨T',k⟩,fun _=>h⟩
theorem Sd.behind {m:Nat} {T T':D0} {w0:World} {L:Array Bool} (k:U0 w0.heap T w.heap T') (h:L.getD m false=true):Sd m T w0 L w:=⟨⟨T',k⟩,fun e=>by rw [h] at e;cases e⟩
theorem w8.start (w:World):w8 w w:=fun _ _=>rfl
theorem w8.ext {w0 w w1:World} (h:w8 w0 w) (hs:w0.heap.size<=w.heap.size) (hb:Below w.heap.size w w1):w8 w0 w1:=fun k hk=>(hb.block k (lt_of_lt_of_le hk hs)).trans (h k hk)
theorem w8.app {w0 w w1:World} {v:Value} (h:w8 w0 w) (hs:w0.heap.size<=w.heap.size) (hv:∀ k,v.ownBlock=some k->w0.heap.size<=k) (hn:∀ k,k<w.heap.size->v.ownBlock≠some k->w1.heap[k]?=w.heap[k]?):w8 w0 w1:=
 fun k hk=>(hn k (lt_of_lt_of_le hk hs) (fun e=>Nat.lt_irrefl _ (lt_of_lt_of_le hk (hv k e)))).trans (h k hk)
theorem w8.cell {w w':World} {b o:Nat} {v:Value} (e:w8 w w') (h:U2 w.heap b o=some v):U2 w'.heap b o=some v:=(f0O (e b (r03 h))).trans h
theorem Sk.cell {T:D0} {w w':World} {b o:Nat} {v:Value} (hn:¬ T b) (e:Sk T w w') (h:U2 w.heap b o=some v):U2 w'.heap b o=some v:=by
 obtain ⟨T',k⟩:=e;exact (f0O (k.blk b (r03 h) hn).2).trans h
def may (ops:Array Oper) (listed:Array Bool) (m i:Nat):Bool:=Region.noSelect ops&&Region.free .any ops listed i&&(Region.ready .any ops listed).contains i&&clb ops listed&&(i != m)
theorem l0N {m i:Nat} {T:D0} {w0:World} (hm:i≠m) (L:Array Bool) (w:World):Sd m T w0 (L.setIfInBounds i true) w↔Sd m T w0 L w:=by
 unfold Sd;rw [getD_set_ne false hm]
theorem w0R {id:Nat} {xs:List Oper} (m:Nat) (T:D0) (hm:P.follows .mixedOrders=true)
  (h:∀ w1,w1.heap=w.heap->Below w.heap.size w w1->wpS P xs.toArray Q (Sd m T w1) xs.toArray.size (Array.replicate xs.toArray.size false) a w1):(Code.region id xs.toArray true).wp P Q a w:=
 wp_region_any hm (k05 _ _ _ _ (h _ rfl ⟨rfl,rfl,rfl,le_refl _,fun _ _=>rfl⟩))
theorem p0D {m i:Nat} {T:D0} {w0:World} {o:Oper} {v:Value} (ha:Ag n l a) (hq:NoP Q) (hi:ops[i]?=some o) (hm:may ops listed m i=true) (hf:(gate ops l o==some true&&fit n l o)=true)
  (hr:∀ w',Sk T w0 w'->(e0g ops m i=true->w8 w0 w')->(execOp (lk l) o).run P w'=.ok (.value v) w') (hS:Sd m T w0 listed w)
  (h:Sd m T w0 (listed.setIfInBounds i true) w->∀ a',Ag n (A8 l o.dst v) a'->wpS P ops Q (Sd m T w0) fuel (listed.setIfInBounds i true) a' w):wpS P ops Q (Sd m T w0) (fuel+1) listed a w:=by
 simp only [may,and_eq_true,bne_iff_ne,ne_eq] at hm;simp only [and_eq_true,beq_iff_eq] at hf;obtain ⟨⟨⟨⟨h1,h2⟩,h3⟩,h4⟩,h5⟩:=hm;refine m0r (Sx:=fun w'=>Sk T w0 w'/\(e0g ops m i=true->w8 w0 w')) hi (Region.noSelect_spec h1) (fun c a w hp=>absurd hp (hq c _ w)) (fun L w' hc hu hs=>⟨hs.1,fun hw=>hs.2 (t0n hc hw hu)⟩)
  (fun L w' hs _=>(l0N h5 L w').1 hs) (fun L w' hs=>(l0N h5 L w').2 hs) fuel listed a w (n0I h4) (Region.free_spec hi h2) (by simpa using h3) (.inl ⟨g0O ha hf.1,fun w' hw'=>?_⟩) hS (h ((l0N h5 listed w).2 hS) _ (ha.put _ _ (i0r hf.2)))
 rw [i03 hf.2 ha];exact hr w' hw'.1 hw'.2
theorem r0G {i:Nat} {o:Oper} (hi:ops[i]?=some o)
  (h:wpList P ops (Exit.then (fun a' w'=>S (listed.setIfInBounds i true) w'/\wpS P ops Q S fuel (listed.setIfInBounds i true) a' w') Q) [o] a w):wpOp P ops Q i (fun a' w'=>S (listed.setIfInBounds i true) w'/\wpS P ops Q S fuel (listed.setIfInBounds i true) a' w') a w:=by
 unfold wpOp;simp only [hi];unfold wpList at h;split
 ·rename_i hw;rw [if_pos hw] at h;rcases h with h | ⟨h1,a0,w0,h2⟩
  ·refine .inl ?_;unfold Oper.wp at h ⊢;generalize (execOp a.eval o).run P w=r at h ⊢;cases r with
   |
    ok x w'=>
    cases x<;>first | exact h | exact h.mono (fun e w'' he=>by cases e<;>first | exact he | (obtain ⟨a1,w1,h3⟩:=he;exact ⟨a1,w1,h3⟩))
   |halt x w'=>cases x<;>exact h
  ·exact .inr ⟨h1,a0,w0,h2⟩
 ·rename_i hw;rw [if_neg hw] at h;exact h
theorem u0g {i:Nat} {o:Oper} (hr:Region.ready .any ops listed=[i]) (hi:ops[i]?=some o)
  (h:wpList P ops (Exit.then (fun a' w'=>S (listed.setIfInBounds i true) w'/\wpS P ops Q S fuel (listed.setIfInBounds i true) a' w') Q) [o] a w):wpS P ops Q S (fuel+1) listed a w:=by
 refine ⟨fun h0=>(by rw [hr] at h0;cases h0),fun j hj=>?_⟩;rw [hr] at hj;simp only [List.mem_singleton] at hj;subst hj;exact r0G hi h
theorem s0C (hr:Region.ready .any ops listed=[]) (h:Q .normal a w):wpS P ops Q S fuel listed a w:=by
 cases fuel with
 |zero=>exact ⟨hr,h⟩
 |succ f=>exact ⟨fun _=>h,by rw [hr];simp⟩
theorem s0M {K:Act->World->Prop} (h1:S listed w) (h2:K a w):wpList P ops (Exit.then (fun a' w'=>S listed w'/\K a' w') Q) [] a w:=⟨h1,h2⟩
theorem Sl.off {α:Type} {T:Ty α} {H:K0} {O:D0} {b o c:Nat} {xs:List α} {i:Int} (h:Sl T H O (some ⟨b,o,none⟩) c xs) (hi:B0 xs i=true):¬ O b:=by
 have hx:xs≠[]:=by rintro rfl;have:=c0g hi;simp at this;omega
 obtain ⟨b',o',hA,_,hn⟩:=h.2.1 hx;simp at hA;obtain ⟨rfl,_⟩:=hA;exact hn
theorem r0Y {c:Code} (hq:NoP Q) (h:NoP Q->c.wp P Q a w):c.wp P Q a w:=h hq
theorem NoP.loop {σ τ:Type} {c:V0 σ τ} {K:Act->World->Prop} {D:τ->Exit->Act->World->Prop} (h:∀ t c a w,¬ D t (.panic c) a w):NoP (Exit.then K (fun e a' w'=>∃ t,c=.done t/\D t e a' w')):=by
 rintro ch a w ⟨t,_,hd⟩;exact h t ch a w hd
end
