/- A slice of the call's own that is cut at its front. Reach, walked. Its conditions: none. -/
import Derived.Test.YtihmgaccbcfgjaaGreatRG29
import Derived.Test.YtihmgaccbcfgjaaGreatRVShort
import Derived.Test.YtihmgaccbcfgjaaGreatRG31
open List (length_append mem_cons not_mem_nil)
open Nat (add_mul zero_add)
set_option linter.all false
namespace Go.V
open Go.RowKit
def D2 {α:Type} (T:Ty α) (e:TypeId) (M:B0) (H:F0) (S:B0) (v:Value) (xs:List α):Prop:=
 ∃ g o pre cap,v=.slice (some ⟨g,o,none⟩) xs.length (cap-pre.length)/\Ow T e M H S (.slice (some ⟨g,0,none⟩) (pre++xs).length cap) (pre++xs)/\(pre.length<cap->o=pre.length*T.sz)
section
variable {α:Type} {T:Ty α} {e:TypeId} {M M':B0} {H H':F0} {S S':B0} {v u:Value} {xs:List α} {w w1:World}
theorem D2.of {b n c:Nat} (h:Ow T e M H S (.slice (some ⟨b,0,none⟩) n c) xs):D2 T e M H S (.slice (some ⟨b,0,none⟩) n c) xs:=by
 obtain ⟨A,c',hv⟩:=h.form;simp at hv;obtain ⟨rfl,rfl,rfl⟩:=hv;exact ⟨b,0,[],c,by simp,by simpa using h,fun _=>by simp⟩
theorem D2.base (h:D2 T e M H S v xs):∃ g n c ys,(∀ k,v.ownBlock=some k↔(Value.slice (some ⟨g,0,none⟩) n c).ownBlock=some k)/\Ow T e M H S (.slice (some ⟨g,0,none⟩) n c) ys/\
  ∀ (M1:B0) (H1:F0) (S1:B0),Ow T e M1 H1 S1 (.slice (some ⟨g,0,none⟩) n c) ys->D2 T e M1 H1 S1 v xs:=by
 obtain ⟨g,o,pre,cap,rfl,h,ho⟩:=h;exact ⟨g,_,cap,pre++xs,fun k=>by simp [Value.ownBlock],h,fun M1 H1 S1 h1=>⟨g,o,pre,cap,rfl,h1,ho⟩⟩
theorem D2.own (h:D2 T e M H S v xs):∀ k,v.ownBlock=some k->S k/\M k:=by
 obtain ⟨g,n,c,ys,hb,h,_⟩:=h.base;exact fun k hk=>h.own k ((hb k).1 hk)
theorem D2.lt (h:D2 T e M H S v xs):∀ k,v.ownBlock=some k->k<H.size:=by
 obtain ⟨g,n,c,ys,hb,h,_⟩:=h.base;exact fun k hk=>h.lt k ((hb k).1 hk)
theorem D2.Y0 (h:D2 T e M H S v xs) (k:J0 H S H' S') (hs:∀ b,S b->S' b) (hv:∀ b,v.ownBlock=some b->H'[b]?=H[b]?):D2 T e M H' S' v xs:=by
 obtain ⟨g,n,c,ys,hb,h,hr⟩:=h.base;exact hr _ _ _ (h.Y0 k hs (fun b hk=>hv b ((hb b).2 hk)))
theorem D2.l9 (h:D2 T e M H S v xs) (hm:∀ k,v.ownBlock=some k->M' k):D2 T e M' H S v xs:=by
 obtain ⟨g,n,c,ys,hb,h,hr⟩:=h.base;exact hr _ _ _ (h.l9 (fun k hk=>hm k ((hb k).2 hk)))
theorem D2.minus (h:D2 T e M H S v xs) (d:M8 v u):D2 T e M H (Go.V.minus S u) v xs:=by
 obtain ⟨g,n,c,ys,hb,h,hr⟩:=h.base;exact hr _ _ _ (h.minus (fun k hk e=>d k ((hb k).2 hk) e))
theorem D2.ext (h:D2 T e M w.heap S v xs) (hb:Below w.heap.size w w1):D2 T e M w1.heap S v xs:=h.Y0 (J0.ext S hb) (fun _ h=>h) (fun b hv=>hb.block b (h.lt b hv))
theorem D2.z01 {S1:B0} (h:D2 T e M w.heap S v xs) (hb:Below w.heap.size w w1) (k:J0 w.heap S w1.heap S1) (hs:∀ b,S b->S1 b):D2 T e M w1.heap S1 v xs:=h.Y0 k hs (fun b hv=>hb.block b (h.lt b hv))
theorem D2.only {b:Nat} (h:D2 T e M w.heap S v xs) (ho:C4 b w w1) (hS:S b) (hd:v.ownBlock≠some b):D2 T e M w1.heap S v xs:=
 h.Y0 (ho.Y0 hS) (fun _ h=>h) (fun k hk=>ho.block k (h.lt k hk) (fun e=>hd (by rw [<-e];exact hk)))
theorem D2.form (h:D2 T e M H S v xs):∃ A c,v=.slice A xs.length c:=by
 obtain ⟨g,o,pre,cap,rfl,_⟩:=h;exact ⟨_,_,rfl⟩
theorem D2.cap {A:Option Addr} {n c:Nat} (h:D2 T e M H S (.slice A n c) xs):xs.length<=c:=by
 obtain ⟨g,o,pre,cap,hv,h,_⟩:=h;simp at hv;have:=h.cap;simp at this;omega
theorem D2.rdb {A:Option Addr} {n c:Nat} (h:D2 T e M H S (.slice A n c) xs):M3 T H S A xs:=by
 obtain ⟨g,o,pre,cap,hv,h,ho⟩:=h;simp at hv;obtain ⟨rfl,_,_⟩:=hv;intro i x hx;have hi:i<xs.length:=(List.getElem?_eq_some_iff.1 hx).1;have hcap:=h.cap;rw [length_append] at hcap;obtain ⟨b,o2,cs,hA,hr,hc⟩:=h.rdb (pre.length+i) x (by rw [List.getElem?_append_right (by omega),Nat.add_sub_cancel_left];exact hx);simp at hA;obtain ⟨rfl,rfl⟩:=hA;refine ⟨g,o,cs,rfl,hr,fun j v hj=>?_⟩;have:=hc j v hj;rw [ho (by omega),<-add_mul]
 rwa [zero_add] at this
theorem D2.tail_at {P:Program} {t:TypeId} {lo:Value} {A:Option Addr} {c:Nat} {k:IntKind} {vlo:Int} (ht:P.underlying t=some (.slice e)) (hE:(P.info? e).map (·.size)=some T.sz)
  (hown:D2 T e M H S (.slice A xs.length c) xs) (hk:C3 xs vlo xs.length=true) (hlo:lo=.int k vlo:=by rfl) :
  ∃ A1,(∀ w,(Instr.sliceAt t (.slice A xs.length c) (some lo) none none).run P w=.ok (.slice A1 (L1 xs vlo xs.length).length (c-vlo.toNat)) w)/\D2 T e M H S (.slice A1 (L1 xs vlo xs.length).length (c-vlo.toNat)) (L1 xs vlo xs.length)/\
   (∀ k,(Value.slice A1 (L1 xs vlo xs.length).length (c-vlo.toNat)).ownBlock=some k↔(Value.slice A xs.length c).ownBlock=some k):=by
 subst hlo;have hcl:=a0X hk;simp only [C3,Bool.and_eq_true,decide_eq_true_eq] at hk;have hcap:=hown.cap;obtain ⟨inf,hinf,hsz⟩:=Option.map_eq_some_iff.1 hE;obtain ⟨g,o,pre,cap,hv,h,ho⟩:=hown;simp at hv;obtain ⟨rfl,rfl⟩:=hv;have hcut:L1 xs vlo xs.length=xs.drop vlo.toNat:=by unfold L1;exact List.take_of_length_le (by rw [List.length_drop];omega)
 refine ⟨some (if cap-pre.length=vlo.toNat then ⟨g,o,none⟩ else ⟨g,o+vlo.toNat*T.sz,none⟩),fun w=>?_,?_,?_⟩
 ·have b2:=run_sliceBound (P:=P) (w:=w) k vlo xs.length .sliceB (by omega) (by omega);have hadd:(⟨g,o,none⟩:Addr).add (vlo.toNat*T.sz)=⟨g,o+vlo.toNat*T.sz,none⟩:=by unfold Addr.add;by_cases hz:vlo.toNat*T.sz=0<;>simp [hz]
  have hl:(L1 xs vlo xs.length).length=xs.length-vlo.toNat:=by rw [hcl];omega
  rw [hl];simp only [Instr.sliceAt,Instr.slice,Instr.sliceBounds,Sem.run_bind,run_underlying ht,Result.andThen_ok];simp [b2,sizeOf,typeInfo,hinf,hsz,hadd];split<;>rfl
 ·have hp:(pre++xs.take vlo.toNat).length=pre.length+vlo.toNat:=by rw [length_append,List.length_take];omega
  have hx:(pre++xs.take vlo.toNat)++L1 xs vlo xs.length=pre++xs:=by rw [hcut,List.append_assoc,List.take_append_drop]
  refine ⟨g,if cap-pre.length=vlo.toNat then o else o+vlo.toNat*T.sz,pre++xs.take vlo.toNat,cap,?_,by rw [hx];exact h,fun hlt=>?_⟩
  ·rw [hp,Nat.sub_sub];split<;>rfl
  ·rw [hp] at hlt ⊢;rw [if_neg (by omega),ho (by omega),add_mul]
 ·intro k;split<;>simp [Value.ownBlock]
theorem B0f {P:Program} (w:World) (t ty e:TypeId) (i:TypeInfo) (ht:P.underlying t=some (.slice e)) (hi:P.info? e=some i)
  (g off sLen sCap:Nat) (cur:Array Value) (hg:w.heap[g]?=some (.cells cur e (0,0)))
  (a:Addr) (m c:Nat) (news:List Value) (hl:news.length=m*i.size) (hnews:∀ j u,news[j]?=some u->w.cell? (a.add j)=some u) (h1:∀ u∈news,u.oneCell'=true)
  (hroom:sLen+m<=sCap) (hfit:off+sLen*i.size+news.length<=cur.size) :
  (Builtin.append_ #[t,t] ty #[.slice (some ⟨g,off,none⟩) sLen sCap,.slice (some a) m c]).run P w =
   .ok (.slice (some ⟨g,off,none⟩) (sLen+m) sCap) (w.setRow g (cur.toList.take (off+sLen*i.size)++news++cur.toList.drop (off+sLen*i.size+news.length)).toArray):=by
 have hf:=run_firstCells_some (P:=P) w i.size m a m c news hl hnews;have hst:=run_storeCells_at P g (off+sLen*i.size) e news 0 cur w hg (by simpa using hfit) h1;simp only [Nat.add_zero] at hst;simp [Builtin.append_,run_underlying ht,sizeOf,typeInfo,hi,Builtin.lenOf,hroom,hf,Addr.add_lit,hst]
theorem B0F {P:Program} {w:World} (t ty e:TypeId) (bytes:Nat) (z:Value) (ht:P.underlying t=some (.slice e)) (hE:(P.info? e).map (fun i=>(i.zero,i.size,i.bytes))=some (some z,T.sz,bytes)) (hzs:(decide (z.cells.size=T.sz)&&decide (0<T.sz)&&decide (0<bytes))=true)
  {v:Value} {xs ys:List α} (hown:D2 T e M w.heap S v xs) {A:Option Addr} {c:Nat} (hy:M3 T w.heap S A ys) (hne:0<ys.length) (hfit:C1 bytes xs ys=true) :
  ∃ v' w1,(Builtin.append_ #[t,t] ty #[v,.slice A ys.length c]).run P w=.ok v' w1/\w.grownBy w1 v.ownBlock/\(∀ k,v'.ownBlock=some k->v.ownBlock=some k\/w.heap.size<=k)/\
   ∀ S1:B0,J0 w.heap S w1.heap S1->∀ M1:B0,(∀ k,v'.ownBlock=some k->S1 k/\M1 k)->D2 T e M1 w1.heap S1 v' (xs++ys):=by
 obtain ⟨i,hi,hi2⟩:=Option.map_eq_some_iff.1 hE;simp only [Prod.mk.injEq] at hi2;obtain ⟨hz,hsz,hby⟩:=hi2;simp only [Bool.and_eq_true,decide_eq_true_eq] at hzs;simp only [C1,decide_eq_true_eq] at hfit;have hmax:xs.length+ys.length<=maxLen:=by
  have:xs.length+ys.length<=(xs.length+ys.length)*bytes:=Nat.le_mul_of_pos_right _ hzs.2;simp only [maxLen];omega
 obtain ⟨news,hen,hcells⟩:=M3.news (w:=w) (xs:=ys) (k:=0) (A:=A) (T:=T) (S:=S) (fun i x hx=>by
  obtain ⟨b,o,cs,h1,h2,h3⟩:=hy i x hx;exact ⟨b,o,cs,h1,h2,fun j v hj=>by rw [zero_add];exact h3 j v hj⟩)
 obtain ⟨b,o',_,hA,_⟩:=hy 0 ys[0] (by simp [hne]);subst hA;have hnews:∀ j u,news[j]?=some u->w.cell? ((⟨b,o',none⟩:Addr).add j)=some u:=by
  intro j u hj;rw [e8];have:=hcells b o' rfl j u hj;simpa using this
 have hrd:∀ A n c,v=.slice A n c->M3 T w.heap S A xs:=fun A n c e=>by subst e;exact hown.rdb
 obtain ⟨g,o,pre,cap,rfl,how,ho⟩:=hown;have hbase:=how;obtain ⟨hS,cs,⟨hcl,hrow⟩,hels⟩:=how;rcases hrow with ⟨hv,_⟩ | ⟨g',cap',cur,hv,hg,hnc,hcm,hcs,htake⟩
 ·cases hv
 ·simp at hv;obtain ⟨rfl,rfl⟩:=hv;simp only [length_append] at hnc hcl htake
  by_cases hroom:xs.length+ys.length<=cap-pre.length
  ·have hoo:=ho (by omega);have hmul:o+xs.length*i.size+news.length=(pre.length+xs.length+ys.length)*T.sz:=by rw [hen.1,hoo,hsz,add_mul,add_mul]
   have hle:(pre.length+xs.length+ys.length)*T.sz<=cap*T.sz:=Nat.mul_le_mul_right _ (by omega);have hr:=B0f (P:=P) w t ty e i ht hi g o xs.length (cap-pre.length) cur hg ⟨b,o',none⟩ ys.length c news (by rw [hen.1,hsz]) hnews hen.c0p hroom (by rw [hmul,hcs];exact hle);have hat:o+xs.length*i.size=(pre.length+xs.length)*T.sz:=by rw [hoo,hsz,add_mul]
   rw [hat,htake] at hr;refine ⟨_,_,hr,⟨rfl,rfl,rfl,by simp,fun k _ hk=>setRow_other w g k _ (fun e=>hk (by simp [Value.ownBlock,e]))⟩,fun q hq=>.inl (by simpa [Value.ownBlock] using hq),fun S1 k M1 hS1=>?_⟩;refine ⟨g,o,pre,cap,by simp,⟨fun q hq=>hS1 q (by simpa [Value.ownBlock] using hq),cs++news,⟨?_,.inr ⟨g,cap,_,rfl,setRow_heap w g cur _ e _ hg,by simp;omega,hcm,?_,?_⟩⟩,?_⟩,ho⟩
   ·rw [length_append,hcl,hen.1];simp only [length_append];rw [<-add_mul];congr 1;omega
   ·simp only [List.size_toArray,length_append,List.length_drop,Array.length_toList,hcl,hen.1,hcs,<-add_mul];omega
   ·have hl2:(pre++(xs++ys)).length*T.sz=(cs++news).length:=by simp only [length_append,hcl,hen.1,<-add_mul];congr 1;omega
    rw [hl2];exact List.take_left
   ·rw [<-List.append_assoc];exact (hels.Y0 k).append (hen.Y0 k)
  ·have hrx:=hrd _ _ _ rfl;obtain ⟨olds,heo,hco⟩:=M3.news (w:=w) (xs:=xs) (k:=0) (A:=some ⟨g,o,none⟩) (T:=T) (S:=S) (fun i x hx=>by
    obtain ⟨b,o,cs,h1,h2,h3⟩:=hrx i x hx;exact ⟨b,o,cs,h1,h2,fun j v hj=>by rw [zero_add];exact h3 j v hj⟩)
   have holds:∀ j u,olds[j]?=some u->w.cell? ((⟨g,o,none⟩:Addr).add j)=some u:=by
    intro j u hj;rw [e8];have:=hco g o rfl j u hj;simpa using this
   obtain ⟨v',w',hrun,h2,h3⟩:=run_append_arg_grows (P:=P) w t ty e i z T.sz bytes ht hi hz hsz hby hzs.1.1 hzs.1.2 ⟨g,o,none⟩ xs.length (cap-pre.length) olds heo.1 holds ⟨b,o',none⟩ ys.length c news hen.1 hnews (by omega) hmax hfit;have hrw:=Row.of h2;refine ⟨v',w',hrun,⟨h3.os,h3.tape,h3.output,h3.size,fun k hk _=>h3.block k hk (by simp)⟩,fun q hq=>.inr (h2.lt q hq).1,fun S1 k M1 hS1=>?_⟩;obtain ⟨hl,hrest⟩:=hrw;rcases hrest with ⟨_,h0⟩ | ⟨g2,cap2,cur2,rfl,hrest⟩
   ·omega
   ·exact D2.of ⟨hS1,olds++news,⟨by rw [show (xs++ys).length=xs.length+ys.length from length_append];exact hl,.inr ⟨g2,cap2,cur2,by rw [length_append],by rw [show (xs++ys).length=xs.length+ys.length from length_append];exact hrest⟩⟩,(heo.Y0 k).append (hen.Y0 k)⟩
theorem B0b {P:Program} {ops:Array Oper} {n:Nat} {Q:Exit->Act->World->Prop} {l:FL} {a:Act} {o:Oper} {rest:List Oper} {w0:World} {W0 Wf S0:B0} {t:TypeId} {bytes:Nat} {z:Value} {x y:Operand} {ys:List α} {A:Option Addr} {c:Nat} (ha:Ag n l a) (cx:Cx w0 W0 S0 w S) (hf:(gate ops l o==some true&&fit n l o)=true)
  (ho:o.op=.call { callee:=.builtin .append,args:=#[x,y],argTypes:=#[t,t] }) (hx:lk l x=v) (hy:lk l y=.slice A ys.length c)
  (ht:P.underlying t=some (.slice e)) (hE:(P.info? e).map (fun i=>(i.zero,i.size,i.bytes))=some (some z,T.sz,bytes)) (hzs:(decide (z.cells.size=T.sz)&&decide (0<T.sz)&&decide (0<bytes))=true)
  (hW:∀ k,Wr Wf w0 k->Wr W0 w0 k) (hown:D2 T e (Wr Wf w0) w.heap S v xs) (hys:M3 T w.heap S A ys) (hfit:C1 bytes xs ys=true)
  (h:∀ w1 S1 A1 c1,Cx w0 W0 S0 w1 S1->J0 w.heap S w1.heap S1->(∀ b,S b->S1 b)->(∀ k,k<w.heap.size->v.ownBlock≠some k->w1.heap[k]?=w.heap[k]?)->
   (∀ k,(Value.slice A1 (xs++ys).length c1).ownBlock=some k->v.ownBlock=some k\/w.heap.size<=k)->D2 T e (Wr Wf w0) w1.heap S1 (.slice A1 (xs++ys).length c1) (xs++ys)->
   ∀ a',Ag n (F5 l o.dst (.slice A1 (xs++ys).length c1)) a'->wpList P ops Q rest a' w1) (hne:0<ys.length:=by exact Nat.zero_lt_succ _):wpList P ops Q (o :: rest) a w:=by
 obtain ⟨v',w1,hrun,hg,hat,hdone⟩:=B0F (P:=P) (w:=w) t o.type e bytes z ht hE hzs hown hys (c:=c) hne hfit;have hlt:=hown.lt;have hSv:∀ k,v.ownBlock=some k->S k:=fun k hk=>(hown.own k hk).1;have hMf:∀ k,v.ownBlock=some k->Wr Wf w0 k:=fun k hk=>(hown.own k hk).2;have hMv:∀ k,v.ownBlock=some k->Wr W0 w0 k:=fun k hk=>hW k (hMf k hk);have hkeep:J0 w.heap S w1.heap (inV v' S):=⟨hg.size,fun b hb hn=>⟨fun hi=>by
   rcases hi with hi | hi
   ·rcases hat b hi with e | e
    ·exact hn (hSv b e)
    ·omega
   ·exact hn hi,hg.block b hb (fun e=>hn (hSv b e.symm))⟩⟩
 have how:=hdone (inV v' S) hkeep (Wr Wf w0) (fun k hk=>⟨.inl hk,by
  rcases hat k hk with e | e
  ·exact hMf k e
  ·have:=cx.size;exact .inr (by omega)⟩)
 obtain ⟨A1,c1,rfl⟩:=how.form;refine A9 ha hf (v:=.slice A1 (xs++ys).length c1) (w':=w1) ?_ fun a' ha'=>h w1 (inV (.slice A1 (xs++ys).length c1) S) A1 c1 ?_ hkeep (fun b hb=>.inr hb) (fun k hk hne=>hg.block k hk (fun e=>hne e.symm)) ?_ how a' ha'
 ·simp only [execOp,ho,resolve,invoke,builtin,Sem.run_bind,Sem.run_pure,Result.andThen_ok,List.map_toArray,List.map_cons,List.map_nil,hx,hy,hrun]
 ·refine ⟨⟨hg.os.trans cx.bel.os,hg.tape.trans cx.bel.tape,hg.output.trans cx.bel.output,Nat.le_trans cx.bel.size hg.size,fun k hk hn=>(hg.block k (by have:=cx.size;omega) (fun e=>?_)).trans (cx.bel.block k hk hn)⟩,fun b hb=>.inr (cx.sub b hb),fun b hb=>?_,cx.lt0⟩
  ·rcases hMv k e.symm with h2 | h2
   ·exact hn h2
   ·omega
  ·rcases hb with hb | hb
   ·exact how.lt b hb
   ·exact Nat.lt_of_lt_of_le (cx.lt b hb) hg.size
 ·exact hat
end
end Go.V
set_option maxRecDepth 100000
namespace Go.Proofs.YtihmgaccbcfgjaaGreat.Rc
open Go.V Go.RowKit
def k0Q:Ty L2 where
 sz:=2
 R:=fun H S cs x=>∃ (A1:Option Addr) (c1:Nat),cs=[.int .i64 x.To,.slice A1 x.Src.length c1]/\Sl (J1 .i64) H S A1 c1 x.Src
 len:=by rintro _ _ _ _ ⟨_,_,rfl,_⟩;rfl
 one:=by rintro _ _ _ _ ⟨_,_,rfl,_⟩ v hv;simp only [mem_cons,not_mem_nil,or_false] at hv;rcases hv with rfl | rfl<;>rfl
 Y0:=fun k ⟨A1,c1,h,h0⟩=>⟨A1,c1,h,h0.Y0 k⟩
def n0p:Ty Z1 where
 sz:=3
 R:=fun H S cs x=>∃ (A1:Option Addr) (c1:Nat),∃ (A2:Option Addr) (c2:Nat),cs=[.int .i64 x.Regs,.slice A1 x.Accept.length c1,.slice A2 x.Edges.length c2]/\Sl (J1 .i64) H S A1 c1 x.Accept/\Sl k0Q H S A2 c2 x.Edges
 len:=by rintro _ _ _ _ ⟨_,_,_,_,rfl,_,_⟩;rfl
 one:=by rintro _ _ _ _ ⟨_,_,_,_,rfl,_,_⟩ v hv;simp only [mem_cons,not_mem_nil,or_false] at hv;rcases hv with rfl | rfl | rfl<;>rfl
 Y0:=fun k ⟨A1,c1,A2,c2,h,h0,h1⟩=>⟨A1,c1,A2,c2,h,h0.Y0 k,h1.Y0 k⟩
def h0J:Ty K0 where
 sz:=3
 R:=fun H S cs x=>∃ (A1:Option Addr) (c1:Nat),∃ (A2:Option Addr) (c2:Nat),cs=[.int .i64 x.Tags,.slice A1 x.Class.length c1,.slice A2 x.States.length c2]/\Sl (J1 .i64) H S A1 c1 x.Class/\Sl n0p H S A2 c2 x.States
 len:=by rintro _ _ _ _ ⟨_,_,_,_,rfl,_,_⟩;rfl
 one:=by rintro _ _ _ _ ⟨_,_,_,_,rfl,_,_⟩ v hv;simp only [mem_cons,not_mem_nil,or_false] at hv;rcases hv with rfl | rfl | rfl<;>rfl
 Y0:=fun k ⟨A1,c1,A2,c2,h,h0,h1⟩=>⟨A1,c1,A2,c2,h,h0.Y0 k,h1.Y0 k⟩
open Go.X (G0)
theorem B0p {H:F0} {S:B0} {cs:List Value} {x:L2}:(Go.X.D0 en (.st 0)).R H S cs x↔k0Q.R H S cs x:=by
 refine (j0M 0 H S cs x).trans ⟨?_,?_⟩
 ·rintro ⟨c1,c2,rfl,h1,c3,c4,rfl,⟨A,c,rfl,h2⟩,rfl⟩
  have h1:c1=[.int .i64 x.To]:=h1;subst h1;exact ⟨A,c,rfl,h2⟩
 ·rintro ⟨A,c,rfl,h2⟩
  exact ⟨[.int .i64 x.To],_,rfl,rfl,[.slice A x.Src.length c],[],rfl,⟨A,c,rfl,h2⟩,rfl⟩
theorem A0y {α:Type} {T T':Ty α} (hs:T.sz=T'.sz) (h:∀ {H S cs x},T.R H S cs x↔T'.R H S cs x) {H:F0} {S:B0} {A:Option Addr} {c:Nat} {xs:List α}:Sl T H S A c xs↔Sl T' H S A c xs:=by
 constructor
 ·rintro ⟨h1,h2,h3⟩
  refine ⟨h1,h2,fun i x hx=>?_⟩;obtain ⟨b,o,cs,e,hr,hc⟩:=h3 i x hx;exact ⟨b,o,cs,e,h.1 hr,by rw [<-hs];exact hc⟩
 ·rintro ⟨h1,h2,h3⟩
  refine ⟨h1,h2,fun i x hx=>?_⟩;obtain ⟨b,o,cs,e,hr,hc⟩:=h3 i x hx;exact ⟨b,o,cs,e,h.2 hr,by rw [hs];exact hc⟩
theorem A0L {H:F0} {S:B0} {A:Option Addr} {c:Nat} {xs:List L2}:Sl (α:=L2) (Go.X.D0 en (.st 0)) H S A c xs↔Sl k0Q H S A c xs:=A0y (α:=L2) (T:=Go.X.D0 en (.st 0)) (T':=k0Q) rfl B0p
theorem A09 {H:F0} {S:B0} {cs:List Value} {x:Z1}:(Go.X.D0 en (.st 1)).R H S cs x↔n0p.R H S cs x:=by
 refine (j0M 1 H S cs x).trans ⟨?_,?_⟩
 ·rintro ⟨c1,c2,rfl,h1,c3,c4,rfl,⟨A,c,rfl,h2⟩,c5,c6,rfl,⟨A2,cc,rfl,h3⟩,rfl⟩
  have h1:c1=[.int .i64 x.Regs]:=h1;subst h1;exact ⟨A,c,A2,cc,rfl,h2,A0L.1 h3⟩
 ·rintro ⟨A,c,A2,cc,rfl,h2,h3⟩
  exact ⟨[.int .i64 x.Regs],_,rfl,rfl,[.slice A x.Accept.length c],_,rfl,⟨A,c,rfl,h2⟩,[.slice A2 x.Edges.length cc],[],rfl,⟨A2,cc,rfl,A0L.2 h3⟩,rfl⟩
theorem A0A {H:F0} {S:B0} {A:Option Addr} {c:Nat} {xs:List Z1}:Sl (α:=Z1) (Go.X.D0 en (.st 1)) H S A c xs↔Sl n0p H S A c xs:=A0y (α:=Z1) (T:=Go.X.D0 en (.st 1)) (T':=n0p) rfl A09
theorem A0D {H:F0} {S:B0} {cs:List Value} {x:K0}:(Go.X.D0 en (.st 2)).R H S cs x↔h0J.R H S cs x:=by
 refine (j0M 2 H S cs x).trans ⟨?_,?_⟩
 ·rintro ⟨c1,c2,rfl,h1,c3,c4,rfl,⟨A,c,rfl,h2⟩,c5,c6,rfl,⟨A2,cc,rfl,h3⟩,rfl⟩
  have h1:c1=[.int .i64 x.Tags]:=h1;subst h1;exact ⟨A,c,A2,cc,rfl,h2,A0A.1 h3⟩
 ·rintro ⟨A,c,A2,cc,rfl,h2,h3⟩
  exact ⟨[.int .i64 x.Tags],_,rfl,rfl,[.slice A x.Class.length c],_,rfl,⟨A,c,rfl,h2⟩,[.slice A2 x.States.length cc],[],rfl,⟨A2,cc,rfl,A0A.2 h3⟩,rfl⟩
theorem A07 (fuel:Nat) {w:World} {S:B0} (hS:∀ b,S b->b<w.heap.size) {p0:K0} {A_p0_1 c_p0_1 A_p0_2 c_p0_2} (h_p0_1:Sl (J1 .i64) w.heap S A_p0_1 c_p0_1 p0.Class) (h_p0_2:Sl n0p w.heap S A_p0_2 c_p0_2 p0.States) {r} (h:d0z fuel p0=some r) :
 Calls Tryz.prog 15 #[.agg #[vI p0.Tags,vS A_p0_1 p0.Class c_p0_1,vS A_p0_2 p0.States c_p0_2]] w fun e w1=>∃ v,e=.returned v/\Below w.heap.size w w1/\v=.bool r:=by
 have hR:(Go.X.D0 en (.st 2)).R w.heap S [vI p0.Tags,vS A_p0_1 p0.Class c_p0_1,vS A_p0_2 p0.States c_p0_2] p0:=A0D.2 ⟨_,_,_,_,rfl,h_p0_1,h_p0_2⟩;have hsr:Go.X.N1 en w.heap S [.d (.st 2)] p0 [.agg #[vI p0.Tags,vS A_p0_1 p0.Class c_p0_1,vS A_p0_2 p0.States c_p0_2]] []:=by
  refine Go.X.W6 (x:=.d (.st 2)) (r:=[]) ⟨_,_,[],[],[],rfl,rfl,rfl,?_,Go.X.N7⟩;unfold Go.X.SR;exact ⟨rfl,hR⟩
 refine (v06 fuel w S _ [] p0 r h hsr hS (by rintro b ⟨v,hv,_⟩;simp at hv) (by intro i j v v' _ hv;simp at hv)).mono ?_
 rintro e w1 ⟨v,S1,pl1,rfl,hsr,hb,hk,hs1,hs2,hap,hbl⟩
 have hsr:Go.X.N1 en w1.heap S1 [.d .bool] r [v] pl1:=hsr;unfold Go.X.N1 at hsr;obtain ⟨c1,u,us',p1,p2,e0,rfl,e1,h1,h2⟩:=hsr;cases e0;unfold Go.X.SR at h1;obtain ⟨rfl,h1⟩:=h1;have h1:c1=[.bool r]:=h1;subst h1;have e1:v=.bool r:=e1;subst e1;exact ⟨_,rfl,⟨hb.os,hb.tape,hb.output,hb.size,fun k hk=>hb.block k hk (by rintro ⟨v,hv,_⟩;simp at hv)⟩,rfl⟩
def B0R (w:World) (S:B0) (r:((List Bool))) (v:Value) (w1:World):Prop:=∃ (A:Option Addr) (c:Nat),v=.slice A r.length c/\Ow c0g 4 (Wr L3 w) w1.heap (inV v S) v r
abbrev R13 (w:World) (S:B0) (r:((List Bool))):Ending->World->Prop:=fun e w1=>∃ v,e=.returned v/\Below w.heap.size w w1/\B0R w S r v w1
theorem A0S (fuel:Nat) {w:World} {S:B0} (hS:∀ b,S b->b<w.heap.size) {p0:K0} {A_p0_1 c_p0_1 A_p0_2 c_p0_2} (h_p0_1:Sl (J1 .i64) w.heap S A_p0_1 c_p0_1 p0.Class) (h_p0_2:Sl n0p w.heap S A_p0_2 c_p0_2 p0.States) {r} (h:b0P fuel p0=some r) :
 Calls Tryz.prog 13 #[.agg #[vI p0.Tags,vS A_p0_1 p0.Class c_p0_1,vS A_p0_2 p0.States c_p0_2]] w (R13 w S r):=by
 refine f0O (vs:=[.agg #[vI p0.Tags,vS A_p0_1 p0.Class c_p0_1,vS A_p0_2 p0.States c_p0_2]]) Tryz.func13 rfl rfl ?_;intro a ha;have cx:=Cx.start (W0:=L3) hS;refine wn fun hq=>?_;unfold b0P at h;refine sq fun K hK=>X3 ?_;refine w0d (V:=fun b=>vP b) (cs:=[vI p0.Tags,vS A_p0_1 p0.Class c_p0_1,vS A_p0_2 p0.States c_p0_2]) (T:=25) ha (by kernel_rfl) (by kernel_rfl) ?_;intro w1 b1 hb1 hk1 he1 _ a ha;have f1:=Bx.new cx hk1 he1;replace h_p0_1:=h_p0_1.Y0 (J0.ext S hb1);replace h_p0_2:=h_p0_2.Y0 (J0.ext S hb1);replace cx:=cx.ext hb1;refine sg ha 1 [(1,vP b1)] w1 fun a ha=>?_;refine hK ?_;clear hK;refine sq fun K hK=>sq fun K hK=>X3 (ov (.agg #[.int .i64 p0.Tags,.slice A_p0_1 p0.Class.length c_p0_1,.slice A_p0_2 p0.States.length c_p0_2]) ha (A0C (cs:=[.int .i64 p0.Tags,.slice A_p0_1 p0.Class.length c_p0_1,.slice A_p0_2 p0.States.length c_p0_2]) w1 rfl rfl Tryz.underlying25 rfl (by kernel_rfl) (fun j v hj=>(e8 _ _ _ _).trans (by rw [zero_add];exact f1.cell j v hj))) fun a ha=>?_);obtain ⟨x1,hx1,h⟩:=O8 h;refine o0K ha (by kernel_rfl) (f:=15) (args:=#[.agg #[vI p0.Tags,vS A_p0_1 p0.Class c_p0_1,vS A_p0_2 p0.States c_p0_2]]) (w':=w1) (by kernel_rfl) (A07 fuel (p0:=p0) cx.lt h_p0_1 h_p0_2 hx1) ?_;rintro v1 w2 ⟨hb2,hp1⟩ a ha;obtain rfl:=hp1;have kk:=J0.ext S hb2;replace f1:=f1.Y0 kk;replace h_p0_1:=h_p0_1.Y0 kk;replace h_p0_2:=h_p0_2.Y0 kk;replace cx:=cx.ext hb2;refine sk ha 1 [(9,vB (!x1))] fun a ha=>?_;refine hK ?_;clear hK;refine i02 ha rfl (fun hb=>?_) (fun hb=>?_)
 ·replace h:=itT hb h;refine sq fun K hK=>X3 (sk ha 1 [(2,.slice none 0 0)] fun a ha=>?_);refine hK ?_;clear hK;refine wp_ret ?_;obtain rfl:=sj h;show bodyPost Tryz.prog Tryz.f13 (R13 w S _) .ret a w2;exact m0U (r1:=.tmp 2) (v1:=.slice none 0 0) ha rfl (.inl rfl) rfl ⟨_,rfl,cx.below,⟨_,_,rfl,Ow.nil⟩⟩
 ·replace h:=itF hb h;refine wp_skip (hK ?_);clear hK;refine sq fun K hK=>X3 (sk ha 1 [(10,vF b1 2)] fun a ha=>?_);refine ov (.slice A_p0_2 p0.States.length c_p0_2) ha (o0y w2 rfl rfl Tryz.underlying23 rfl ((e8 _ _ _ _).trans (by rw [zero_add];exact f1.cell 2 _ rfl))) fun a ha=>?_;refine sk ha 1 [(12,vI (p0.States.length:Int))] fun a ha=>?_;obtain ⟨hp2,h⟩:=g04 h;refine v05 (T:=c0g) (z:=vB false) (zx:=false) (bytes:=1) ha cx (by kernel_rfl) rfl rfl rfl Tryz.underlying28 (by kernel_rfl) (by kernel_rfl) (fun _ _=>rfl) hp2 ?_;intro w3 S1 A1 c1 cx hb3 kp1 hs1 hn1 f2 a ha;replace f1:=f1.Y0 kp1;replace h_p0_1:=h_p0_1.Y0 kp1;replace h_p0_2:=h_p0_2.Y0 kp1;refine sk ha 1 [(3,vS A1 (List.replicate (Int.toNat (p0.States.length:Int)) false) c1)] fun a ha=>?_;refine hK ?_;clear hK;refine sq fun K hK=>X3 (sk ha 1 [(14,vS A1 (List.replicate (Int.toNat (p0.States.length:Int)) false) c1)] fun a ha=>?_);obtain ⟨hi1,h⟩:=g04 h;obtain ⟨b2,o1,cs1,rfl,hr1,hc1⟩:=f2.rdb.get hi1;obtain rfl:=hr1;refine ov (vE b2 o1 (0:Int) 1) ha (obx w3 rfl rfl rfl Tryz.underlying28 rfl hi1) fun a ha=>?_;refine A0z (T:=c0g) (f:=0) (x':=true) ha cx (by kernel_rfl) rfl rfl rfl n0G f2 hi1 (by kernel_rfl) (n0H _ _ _) (by kernel_rfl) (by rintro H2 _ _ rfl;rfl) ?_;intro w4 cx on1 kp2 f3 a ha;replace f1:=f1.Y0 kp2;replace h_p0_1:=h_p0_1.Y0 kp2;replace h_p0_2:=h_p0_2.Y0 kp2;have hl1:(((List.replicate (Int.toNat (p0.States.length:Int)) false).set (Int.toNat 0) true)).length=(List.replicate (Int.toNat (p0.States.length:Int)) false).length:=List.length_set;replace ha:Ag 57 [(1,.pointer (ad b1 0)),(3,.slice (ad b2 o1) ((List.replicate (Int.toNat (p0.States.length:Int)) false).set (Int.toNat 0) true).length c1)] a:=by rw [hl1];exact ha.to (by kernel_rfl)
  replace f3:Ow c0g 4 (Wr L3 w) w4.heap S1 (.slice (ad b2 o1) ((List.replicate (Int.toNat (p0.States.length:Int)) false).set (Int.toNat 0) true).length c1) ((List.replicate (Int.toNat (p0.States.length:Int)) false).set (Int.toNat 0) true):=by rw [hl1];exact f3
  refine hK ?_;clear hK;refine sq fun K hK=>sq fun K hK=>X3 ?_;refine w0d (V:=fun b=>.slice (ad b 0) 1 1) (cs:=[vI 0]) (T:=3) ha (by kernel_rfl) (by kernel_rfl) ?_;intro w5 b3 hb4 hk2 he2 _ a ha;have f4:=A0K (T:=(J1 .i64)) (xs:=[0]) (m:=1) cx hb4 hk2 he2 rfl (by kernel_rfl) (D1.one (T:=(J1 .i64)) (x:=0) rfl);obtain ⟨S2,cx,kp3,hs2,hn2,f4⟩:=B0c cx hb4 f4;have d1:M8 (vS (ad b2 o1) ((List.replicate (Int.toNat (p0.States.length:Int)) false).set (Int.toNat 0) true) c1) (.slice (ad b3 0) 1 1):=M8.new f3.lt (hn2);replace f1:=f1.Y0 kp3;replace h_p0_1:=h_p0_1.Y0 kp3;replace h_p0_2:=h_p0_2.Y0 kp3;replace f3:=f3.z01 hb4 kp3 hs2;replace f4:=D2.of f4;refine sg ha 1 [(1,vP b1),(3,vS (ad b2 o1) ((List.replicate (Int.toNat (p0.States.length:Int)) false).set (Int.toNat 0) true) c1),(4,.slice (ad b3 0) 1 1)] w5 fun a ha=>?_;refine hK ?_;clear hK;refine wp_block ?_;obtain ⟨t1,ht1,h⟩:=O8 h;refine wp_mono (n02 (step:=(b0Y fuel p0)) (I:=fun (s:List Bool×List Int) a w6=>match s with | (x2,x3)=>∃ (S3:B0),∃ (A2:Option Addr) (c2:Nat),∃ (A3:Option Addr) (c3:Nat),Cx w L3 S w6 S3/\Bx w6.heap S3 b1 25 [vI p0.Tags,vS A_p0_1 p0.Class c_p0_1,vS A_p0_2 p0.States c_p0_2]/\Sl (J1 .i64) w6.heap S3 A_p0_1 c_p0_1 p0.Class/\Sl n0p w6.heap S3 A_p0_2 c_p0_2 p0.States/\Ow c0g 4 (Wr L3 w) w6.heap S3 (vS A2 x2 c2) x2/\D2 (J1 .i64) 3 (Wr L3 w) w6.heap S3 (vS A3 x3 c3) x3/\M8 (vS A2 x2 c2) (vS A3 x3 c3)/\Ag 57 [(1,vP b1),(3,vS A2 x2 c2),(4,vS A3 x3 c3)] a) (D:=fun (t:List Bool) e a w7=>match t with | y1=>e=.exit 0/\∃ (S4:B0),∃ (A4:Option Addr) (c4:Nat),Cx w L3 S w7 S4/\Ow c0g 4 (Wr L3 w) w7.heap S4 (vS A4 y1 c4) y1/\Ag 57 [(3,vS A4 y1 c4)] a) ?_ fuel _ t1 a _ ht1 ?_) ?_
  ·clear h ht1;rintro ⟨x2,x3⟩ ct a w6 ⟨S3,A2,c2,A3,c3,cx,f1,h_p0_1,h_p0_2,f5,f6,d2,ha⟩ h;refine n0S (P6.loop (fun t c a w h=>by cases t<;>exact absurd h.1 (by simp))) (fun hq=>?_);unfold b0Y at h;refine sq fun K hK=>sq fun K hK=>X3 (sg ha 3 [(1,vP b1),(3,vS A2 x2 c2),(4,vS A3 x3 c3),(19,vB (decide ((x3.length:Int)>0)))] w6 fun a ha=>?_);refine hK ?_;clear hK;refine i02 ha rfl (fun hb=>?_) (fun hb=>?_)
   ·replace h:=itT hb h;refine wp_skip (hK ?_);clear hK;refine sq fun K hK=>wp_block (sq fun K hK=>?_);refine v0o 10 S3 rfl ?_;intro w8 e1 hb5;have kk:=J0.ext S3 hb5;replace f1:=f1.Y0 kk;replace h_p0_1:=h_p0_1.Y0 kk;replace h_p0_2:=h_p0_2.Y0 kk;replace f5:=f5.ext hb5;replace f6:=f6.ext hb5;replace cx:=cx.ext hb5;refine dk 0 (vF b1 2) ha hq rfl (Sd.start _ _ _ _) fun hsx a ha=>?_;refine dv 1 (.slice A_p0_2 p0.States.length c_p0_2) ha hq rfl (fun w2 hw2 hw3=>o0y w2 rfl rfl Tryz.underlying23 rfl ((e8 _ _ _ _).trans (by rw [zero_add];exact D5.cell (hw3 (by kernel_rfl)) (f1.cell 2 _ rfl)))) hsx fun hsx a ha=>?_;refine dk 2 (vS A3 x3 c3) ha hq rfl hsx fun hsx a ha=>?_;obtain ⟨hi2,h⟩:=g04 h;obtain ⟨b4,o2,cs2,rfl,hr2,hc2⟩:=f6.rdb.get hi2;obtain rfl:=hr2;refine dv 3 (vE b4 o2 (0:Int) 1) ha hq rfl (fun w2 hw2 hw3=>obx w2 rfl rfl rfl Tryz.underlying22 rfl hi2) hsx fun hsx a ha=>?_;refine dv 4 (vI (gt x3 0)) ha hq rfl (fun w2 hw2 hw3=>o0y w2 rfl rfl Tryz.underlying3 rfl ((e8 _ _ _ _).trans (D5.cell (hw3 (by kernel_rfl)) (hc2 0 _ rfl)))) hsx fun hsx a ha=>?_;obtain ⟨hi3,h⟩:=g04 h;obtain ⟨b5,o3,cs3,rfl,hr3,hc3⟩:=h_p0_2.rdb.get hi3;obtain ⟨A5,c5,A6,c6,rfl,f8,f9⟩:=hr3;refine dv 5 (vE b5 o3 (gt x3 0) 3) ha hq rfl (fun w2 hw2 hw3=>obx w2 rfl rfl rfl Tryz.underlying23 rfl hi3) hsx fun hsx a ha=>?_;refine dk 6 (.pointer (some (((⟨b5,o3,none⟩:Addr).add ((gt x3 0).toNat*3)).add 2))) ha hq rfl hsx fun hsx a ha=>?_;refine dv 7 (vS A6 ((gt p0.States (gt x3 0)).Edges) c6) ha hq rfl (fun w2 hw2 hw3=>o0y w2 rfl rfl Tryz.underlying51 rfl ((w0b _ _ _ _ _).trans (D5.cell (hw3 (by kernel_rfl)) (hc3 2 _ rfl)))) hsx fun hsx a ha=>?_;refine dk 8 (vI (((gt p0.States (gt x3 0)).Edges).length:Int)) ha hq rfl hsx fun hsx a ha=>?_;refine dk 9 (vI 0) ha hq rfl hsx fun hsx a ha=>?_;refine n0Q (by kernel_rfl) ?_;replace ha:=ha.to (l':=[(1,vP b1),(3,vS A2 x2 c2),(4,vS (ad b4 o2) x3 c3),(29,vS A6 ((gt p0.States (gt x3 0)).Edges) c6),(30,vI (((gt p0.States (gt x3 0)).Edges).length:Int)),(31,vI 0)]) (by kernel_rfl);refine hK ?_;clear hK;refine wp_block ?_;obtain ⟨t2,ht2,h⟩:=O8 h;refine wp_mono (n02 (step:=(b0d fuel p0 x2 x3)) (I:=fun (s:List Bool×List Int×Int) a w9=>match s with | (x4,x5,x6)=>∃ (S5:B0),∃ (A7:Option Addr) (c7:Nat),∃ (A8:Option Addr) (c8:Nat),Cx w L3 S w9 S5/\Bx w9.heap S5 b1 25 [vI p0.Tags,vS A_p0_1 p0.Class c_p0_1,vS (ad b5 o3) p0.States c_p0_2]/\Sl (J1 .i64) w9.heap S5 A_p0_1 c_p0_1 p0.Class/\Sl n0p w9.heap S5 (ad b5 o3) c_p0_2 p0.States/\Ow c0g 4 (Wr L3 w) w9.heap S5 (vS A7 x4 c7) x4/\D2 (J1 .i64) 3 (Wr L3 w) w9.heap S5 (vS A8 x5 c8) x5/\Sl k0Q w9.heap S5 A6 c6 ((gt p0.States (gt x3 0)).Edges)/\M8 (vS A7 x4 c7) (vS A8 x5 c8)/\Ag 57 [(1,vP b1),(3,vS A7 x4 c7),(4,vS A8 x5 c8),(29,vS A6 ((gt p0.States (gt x3 0)).Edges) c6),(30,vI (((gt p0.States (gt x3 0)).Edges).length:Int)),(31,vI x6)] a) (D:=fun (t:List Bool×List Int) e a w10=>match t with | (y2,y3)=>e=.exit 2/\∃ (S6:B0),∃ (A9:Option Addr) (c9:Nat),∃ (A10:Option Addr) (c10:Nat),Cx w L3 S w10 S6/\Bx w10.heap S6 b1 25 [vI p0.Tags,vS A_p0_1 p0.Class c_p0_1,vS (ad b5 o3) p0.States c_p0_2]/\Sl (J1 .i64) w10.heap S6 A_p0_1 c_p0_1 p0.Class/\Sl n0p w10.heap S6 (ad b5 o3) c_p0_2 p0.States/\Ow c0g 4 (Wr L3 w) w10.heap S6 (vS A9 y2 c9) y2/\D2 (J1 .i64) 3 (Wr L3 w) w10.heap S6 (vS A10 y3 c10) y3/\M8 (vS A9 y2 c9) (vS A10 y3 c10)/\Ag 57 [(1,vP b1),(3,vS A9 y2 c9),(4,vS A10 y3 c10)] a) ?_ fuel _ t2 a _ ht2 ?_) ?_
    ·clear h ht2;rintro ⟨x4,x5,x6⟩ ct a w9 ⟨S5,A7,c7,A8,c8,cx,f1,h_p0_1,h_p0_2,f10,f11,f9,d3,ha⟩ h;refine n0S (P6.loop (fun t c a w h=>by cases t<;>exact absurd h.1 (by simp))) (fun hq=>?_);unfold b0d at h;refine sq fun K hK=>X3 (sg ha 1 [(1,vP b1),(3,vS A7 x4 c7),(4,vS A8 x5 c8),(29,vS A6 ((gt p0.States (gt x3 0)).Edges) c6),(30,vI (((gt p0.States (gt x3 0)).Edges).length:Int)),(31,vI x6),(32,vB (decide (x6<(((gt p0.States (gt x3 0)).Edges).length:Int))))] w9 fun a ha=>?_);refine hK ?_;clear hK;refine sq fun K hK=>?_;refine i02 ha rfl (fun hb=>?_) (fun hb=>?_)
     ·replace h:=itT hb h;refine wp_skip (hK ?_);clear hK;refine sq fun K hK=>?_;obtain ⟨q1,hj1,h⟩:=O8 h;refine y0i (D:=fun a w11=>∃ x7:List Bool,∃ x8:List Int,∃ (S7:B0),∃ (A11:Option Addr) (c11:Nat),∃ (A12:Option Addr) (c12:Nat),(x7,x8)=q1/\Cx w L3 S w11 S7/\Bx w11.heap S7 b1 25 [vI p0.Tags,vS A_p0_1 p0.Class c_p0_1,vS (ad b5 o3) p0.States c_p0_2]/\Sl (J1 .i64) w11.heap S7 A_p0_1 c_p0_1 p0.Class/\Sl n0p w11.heap S7 (ad b5 o3) c_p0_2 p0.States/\Ow c0g 4 (Wr L3 w) w11.heap S7 (vS A11 x7 c11) x7/\D2 (J1 .i64) 3 (Wr L3 w) w11.heap S7 (vS A12 x8 c12) x8/\Sl k0Q w11.heap S7 A6 c6 ((gt p0.States (gt x3 0)).Edges)/\M8 (vS A11 x7 c11) (vS A12 x8 c12)/\Ag 57 [(1,vP b1),(3,vS A11 x7 c11),(4,vS A12 x8 c12),(29,vS A6 ((gt p0.States (gt x3 0)).Edges) c6),(30,vI (((gt p0.States (gt x3 0)).Edges).length:Int)),(31,vI x6)] a) ?_ ?_
      ·clear h;have h:=hj1;refine wp_block (sq fun K hK=>X3 ?_);obtain ⟨hi4,h⟩:=g04 h;obtain ⟨b6,o4,cs4,rfl,hr4,hc4⟩:=f9.rdb.get hi4;obtain ⟨A13,c13,rfl,f16⟩:=hr4;refine ov (vE b6 o4 x6 2) ha (obx w9 rfl rfl rfl Tryz.underlying51 rfl hi4) fun a ha=>?_;refine ov (.agg #[vI ((gt ((gt p0.States (gt x3 0)).Edges) x6).To),vS A13 ((gt ((gt p0.States (gt x3 0)).Edges) x6).Src) c13]) ha (A0C (cs:=[vI ((gt ((gt p0.States (gt x3 0)).Edges) x6).To),vS A13 ((gt ((gt p0.States (gt x3 0)).Edges) x6).Src) c13]) w9 rfl rfl Tryz.underlying57 rfl (by kernel_rfl) (fun j v hj=>(w0b _ _ _ _ _).trans (hc4 j v hj))) fun a ha=>?_;refine B0L (d:=6) (z:=[vI 0,.slice none 0 0]) (vs:=[vI ((gt ((gt p0.States (gt x3 0)).Edges) x6).To),vS A13 ((gt ((gt p0.States (gt x3 0)).Edges) x6).Src) c13]) (v:=.agg #[vI ((gt ((gt p0.States (gt x3 0)).Edges) x6).To),vS A13 ((gt ((gt p0.States (gt x3 0)).Edges) x6).Src) c13]) ha cx (by kernel_rfl) rfl (by kernel_rfl) (fun _=>by kernel_rfl) rfl rfl (fun _=>by kernel_rfl) (by kernel_rfl) (by kernel_rfl) (by kernel_rfl) ?_;intro w12 b7 cx hb6 f17 a ha;have kk:=J0.ext S5 hb6;replace f1:=f1.Y0 kk;replace h_p0_1:=h_p0_1.Y0 kk;replace h_p0_2:=h_p0_2.Y0 kk;replace f10:=f10.ext hb6;replace f11:=f11.ext hb6;replace f9:=f9.Y0 (J0.ext S5 hb6);replace f16:=f16.Y0 (J0.ext S5 hb6);refine hK ?_;clear hK;refine sq fun K hK=>?_;obtain ⟨q2,hj2,h⟩:=O8 h;refine y0i (D:=fun a w_=>∃ x9:Bool,x9=q2/\w12=w_/\Ag 57 [(1,vP b1),(3,vS A7 x4 c7),(4,vS A8 x5 c8),(6,vP b7),(29,vS (ad b6 o4) ((gt p0.States (gt x3 0)).Edges) c6),(30,vI (((gt p0.States (gt x3 0)).Edges).length:Int)),(31,vI x6),(45,vB x9)] a) ?_ ?_
       ·clear h;have h:=hj2;refine X3 (sk ha 1 [(6,vP b7),(29,vS (ad b6 o4) ((gt p0.States (gt x3 0)).Edges) c6),(35,vF b7 0)] fun a ha=>?_);refine ov (.int .i64 ((gt ((gt p0.States (gt x3 0)).Edges) x6).To)) ha (o0y w12 rfl rfl Tryz.underlying3 rfl ((e8 _ _ _ _).trans (by rw [zero_add];exact f17.cell 0 _ rfl))) fun a ha=>?_;refine sk ha 2 [(38,vB (decide (((gt ((gt p0.States (gt x3 0)).Edges) x6).To)>=0)))] fun a ha=>?_;refine u0F (t:=38) ha rfl (fun hb ha=>?_) (fun hb ha=>?_)
        ·replace h:=itT hb h;refine sk ha 2 [(38,vB true),(39,vS A7 x4 c7),(40,vF b7 0)] fun a ha=>?_;refine ov (.int .i64 ((gt ((gt p0.States (gt x3 0)).Edges) x6).To)) ha (o0y w12 rfl rfl Tryz.underlying3 rfl ((e8 _ _ _ _).trans (by rw [zero_add];exact f17.cell 0 _ rfl))) fun a ha=>?_;obtain ⟨hi5,h⟩:=g04 h;obtain ⟨b8,o5,cs5,rfl,hr5,hc5⟩:=f10.rdb.get hi5;obtain rfl:=hr5;refine ov (vE b8 o5 ((gt ((gt p0.States (gt x3 0)).Edges) x6).To) 1) ha (obx w12 rfl rfl rfl Tryz.underlying28 rfl hi5) fun a ha=>?_;refine ov (vB (gt x4 ((gt ((gt p0.States (gt x3 0)).Edges) x6).To))) ha (o0y w12 rfl rfl Tryz.underlying4 rfl ((e8 _ _ _ _).trans (hc5 0 _ rfl))) fun a ha=>?_;refine sk ha 2 [(3,vS (ad b8 o5) x4 c7),(45,vB (!(gt x4 ((gt ((gt p0.States (gt x3 0)).Edges) x6).To))))] fun a ha=>?_;obtain rfl:=sj h;exact ⟨_,rfl,rfl,ha.to (by kernel_rfl)⟩
        ·replace h:=itF hb h;refine sk ha 7 [(45,vB false)] fun a ha=>?_;obtain rfl:=sj h;exact ⟨_,rfl,rfl,ha.to (by kernel_rfl)⟩
       rintro a _ ⟨x9,rfl,rfl,ha⟩;refine hK ?_;clear hK;refine i02 ha rfl (fun hb=>?_) (fun hb=>?_)
       ·replace h:=itT hb h;refine sq fun K hK=>X3 (sg ha 2 [(1,vP b1),(3,vS A7 x4 c7),(4,vS A8 x5 c8),(6,vP b7),(29,vS (ad b6 o4) ((gt p0.States (gt x3 0)).Edges) c6),(30,vI (((gt p0.States (gt x3 0)).Edges).length:Int)),(31,vI x6),(46,vS A7 x4 c7),(47,vF b7 0)] w12 fun a ha=>?_);refine ov (.int .i64 ((gt ((gt p0.States (gt x3 0)).Edges) x6).To)) ha (o0y w12 rfl rfl Tryz.underlying3 rfl ((e8 _ _ _ _).trans (by rw [zero_add];exact f17.cell 0 _ rfl))) fun a ha=>?_;obtain ⟨hi6,h⟩:=g04 h;obtain ⟨b9,o6,cs6,rfl,hr6,hc6⟩:=f10.rdb.get hi6;obtain rfl:=hr6;refine ov (vE b9 o6 ((gt ((gt p0.States (gt x3 0)).Edges) x6).To) 1) ha (obx w12 rfl rfl rfl Tryz.underlying28 rfl hi6) fun a ha=>?_;refine A0z (T:=c0g) (f:=0) (x':=true) ha cx (by kernel_rfl) rfl rfl rfl n0G f10 hi6 (by kernel_rfl) (n0H _ _ _) (by kernel_rfl) (by rintro H2 _ _ rfl;rfl) ?_;intro w13 cx on2 kp4 f18 a ha;replace f1:=f1.Y0 kp4;replace h_p0_1:=h_p0_1.Y0 kp4;replace h_p0_2:=h_p0_2.Y0 kp4;replace f11:=f11.only on2 (f10.1 _ rfl).1 (fun e=>d3.symm _ e rfl);replace f17:=f17.Y0 kp4;replace f16:=f16.Y0 kp4;replace f9:=f9.Y0 kp4;have d6:M8 (vS A8 x5 c8) (vS (ad b9 o6) (x4.set (Int.toNat ((gt ((gt p0.States (gt x3 0)).Edges) x6).To)) true) c7):=fun k hk e=>d3.symm k hk e;have hl2:((x4.set (Int.toNat ((gt ((gt p0.States (gt x3 0)).Edges) x6).To)) true)).length=x4.length:=List.length_set;replace ha:Ag 57 [(1,.pointer (ad b1 0)),(3,.slice (ad b9 o6) (x4.set (Int.toNat ((gt ((gt p0.States (gt x3 0)).Edges) x6).To)) true).length c7),(4,.slice A8 x5.length c8),(6,.pointer (ad b7 0)),(29,.slice (ad b6 o4) ((gt p0.States (gt x3 0)).Edges).length c6),(30,.int .i64 (((gt p0.States (gt x3 0)).Edges).length:Int)),(31,.int .i64 x6)] a:=by rw [hl2];exact ha.to (by kernel_rfl)
        replace f18:Ow c0g 4 (Wr L3 w) w13.heap S5 (.slice (ad b9 o6) (x4.set (Int.toNat ((gt ((gt p0.States (gt x3 0)).Edges) x6).To)) true).length c7) (x4.set (Int.toNat ((gt ((gt p0.States (gt x3 0)).Edges) x6).To)) true):=by rw [hl2];exact f18
        refine hK ?_;clear hK;refine X3 (sg ha 2 [(1,vP b1),(3,vS (ad b9 o6) (x4.set (Int.toNat ((gt ((gt p0.States (gt x3 0)).Edges) x6).To)) true) c7),(29,vS (ad b6 o4) ((gt p0.States (gt x3 0)).Edges) c6),(30,vI (((gt p0.States (gt x3 0)).Edges).length:Int)),(31,vI x6),(50,vS A8 x5 c8),(51,vF b7 0)] w13 fun a ha=>?_);refine ov (.int .i64 ((gt ((gt p0.States (gt x3 0)).Edges) x6).To)) ha (o0y w13 rfl rfl Tryz.underlying3 rfl ((e8 _ _ _ _).trans (by rw [zero_add];exact f17.cell 0 _ rfl))) fun a ha=>?_;refine w0d (V:=fun b=>.slice (ad b 0) 1 1) (cs:=[vI ((gt ((gt p0.States (gt x3 0)).Edges) x6).To)]) (T:=3) ha (by kernel_rfl) (by kernel_rfl) ?_;intro w14 b10 hb7 hk3 he3 _ a ha;have f19:=A0K (T:=(J1 .i64)) (xs:=[(gt ((gt p0.States (gt x3 0)).Edges) x6).To]) (m:=1) cx hb7 hk3 he3 rfl (by kernel_rfl) (D1.one (T:=(J1 .i64)) (x:=(gt ((gt p0.States (gt x3 0)).Edges) x6).To) rfl);replace f19:=A08 cx f19;have kk:=J0.ext S5 hb7;replace f1:=f1.Y0 kk;replace h_p0_1:=h_p0_1.Y0 kk;replace h_p0_2:=h_p0_2.Y0 kk;replace f18:=f18.ext hb7;replace f9:=f9.Y0 (J0.ext S5 hb7);replace f11:=f11.ext hb7;replace cx:=cx.ext hb7;obtain ⟨hp3,h⟩:=g04 h;refine B0b (T:=(J1 .i64)) (xs:=x5) (ys:=[(gt ((gt p0.States (gt x3 0)).Edges) x6).To]) (z:=vI 0) (bytes:=8) ha cx (by kernel_rfl) rfl rfl rfl Tryz.underlying22 (by kernel_rfl) (by kernel_rfl) n0G f11 f19.rdb hp3 ?_;intro w15 S8 A14 c14 cx kp5 hs3 hn3 hat1 f20 a ha;replace f1:=f1.Y0 kp5;replace h_p0_1:=h_p0_1.Y0 kp5;replace h_p0_2:=h_p0_2.Y0 kp5;have d7:M8 (vS (ad b9 o6) (x4.set (Int.toNat ((gt ((gt p0.States (gt x3 0)).Edges) x6).To)) true) c7) (vS A14 (x5++[(gt ((gt p0.States (gt x3 0)).Edges) x6).To]) c14):=M8.grow d6.symm f18.lt hat1;replace f18:=f18.Y0 kp5 hs3 (fun b hb=>hn3 b (f18.lt b hb) (d6.symm b hb));replace f9:=f9.Y0 kp5;refine sk ha 1 [(4,vS A14 (x5++[(gt ((gt p0.States (gt x3 0)).Edges) x6).To]) c14)] fun a ha=>?_;obtain rfl:=sj h;exact ⟨_,_,_,(ad b9 o6),c7,A14,c14,rfl,cx,f1,h_p0_1,h_p0_2,f18,f20,f9,d7,ha.to (by kernel_rfl)⟩
       ·replace h:=itF hb h;refine wp_skip ?_;obtain rfl:=sj h;exact ⟨_,_,_,A7,c7,A8,c8,rfl,cx,f1,h_p0_1,h_p0_2,f10,f11,f9,d3,ha.to (by kernel_rfl)⟩
      rintro a w11 ⟨x7,x8,S7,A11,c11,A12,c12,rfl,cx,f1,h_p0_1,h_p0_2,f14,f15,f9,d5,ha⟩;refine hK ?_;clear hK;refine X3 (sg ha 2 [(1,vP b1),(3,vS A11 x7 c11),(4,vS A12 x8 c12),(29,vS A6 ((gt p0.States (gt x3 0)).Edges) c6),(30,vI (((gt p0.States (gt x3 0)).Edges).length:Int)),(31,vI (W (x6+1)))] w11 fun a ha=>?_);obtain rfl:=sj h;exact ⟨_,rfl,S7,A11,c11,A12,c12,cx,f1,h_p0_1,h_p0_2,f14,f15,f9,d5,ha.to (by kernel_rfl)⟩
     ·replace h:=itF hb h;refine wp_exit ?_;obtain rfl:=sj h;exact ⟨_,rfl,rfl,S5,A7,c7,A8,c8,cx,f1,h_p0_1,h_p0_2,f10,f11,d3,ha.to (by kernel_rfl)⟩
    ·exact ⟨S3,A2,c2,(ad b4 o2),c3,cx,f1,h_p0_1,h_p0_2,f5,f6,f9,d2,ha.to (by kernel_rfl)⟩
    intro e a w10 hd;obtain ⟨y2,y3⟩:=t2;obtain ⟨rfl,S6,A9,c9,A10,c10,cx,f1,h_p0_1,h_p0_2,f12,f13,d4,ha⟩:=hd;refine hK ?_;clear hK;refine X3 (sg ha 1 [(1,vP b1),(3,vS A9 y2 c9),(20,vS A10 y3 c10)] w10 fun a ha=>?_);obtain ⟨hi7,h⟩:=g04 h;obtain ⟨A15,hr7,f21,hob1⟩:=D2.tail_at (P:=Tryz.prog) (t:=22) (lo:=vI 1) Tryz.underlying22 (by kernel_rfl) f13 hi7;refine ov (vS A15 (L1 y3 1 (y3.length:Int)) (c10-(1:Int).toNat)) ha (o0Z w10 rfl (hr7 w10)) fun a ha=>?_;have d8:M8 (vS A9 y2 c9) (vS A15 (L1 y3 1 (y3.length:Int)) (c10-(1:Int).toNat)):=fun k hk e=>d4 k hk ((hob1 k).1 e);refine sk ha 1 [(4,vS A15 (L1 y3 1 (y3.length:Int)) (c10-(1:Int).toNat))] fun a ha=>?_;obtain rfl:=sj h;exact ⟨_,rfl,S6,A9,c9,A15,(c10-(1:Int).toNat),cx,f1,h_p0_1,h_p0_2,f12,f21,d8,ha.to (by kernel_rfl)⟩
   ·replace h:=itF hb h;refine wp_exit ?_;obtain rfl:=sj h;exact ⟨_,rfl,rfl,S3,A2,c2,cx,f5,ha.to (by kernel_rfl)⟩
  ·exact ⟨S2,(ad b2 o1),c1,(ad b3 0),1,cx,f1,h_p0_1,h_p0_2,f3,f4,d1,ha.to (by kernel_rfl)⟩
  intro e a w7 hd;generalize t1=y1 at *;obtain ⟨rfl,S4,A4,c4,cx,f7,ha⟩:=hd;refine hK ?_;clear hK;refine sq fun K hK=>X3 (sg ha 2 [(2,vS A4 y1 c4)] w7 fun a ha=>?_);refine hK ?_;clear hK;refine wp_ret ?_;obtain rfl:=sj h;show bodyPost Tryz.prog Tryz.f13 (R13 w S _) .ret a w7;exact m0U (r1:=.tmp 2) (v1:=vS A4 y1 c4) ha rfl (.inl rfl) rfl ⟨_,rfl,cx.below,⟨_,_,rfl,f7.result cx.sub⟩⟩
theorem B0N (F:Nat):G0 en (z0W F):=by
 intro w S us pl x y hm hsr hS hpl hap;have hsr:Go.X.N1 en w.heap S [.d (.st 2)] x us pl:=hsr;unfold Go.X.N1 at hsr;obtain ⟨c,u,us1,p1,p2,rfl,rfl,e1,h1,h2⟩:=hsr;obtain ⟨rfl,rfl⟩:=Go.X.n9 h2;unfold Go.X.SR at h1;obtain ⟨rfl,h1⟩:=h1;obtain ⟨A,c1,A2,c2,rfl,g1,g2⟩:=A0D.1 h1;subst e1;refine (A0S F hS g1 g2 hm).mono ?_
 rintro e w1 ⟨v,rfl,hb,A3,c3,rfl,hown⟩
 refine ⟨_,S,[],rfl,?_,⟨hb.os,hb.tape,hb.output,hb.size,fun k hk _=>hb.block k hk⟩,⟨hb.size,fun b hb' hn=>⟨hn,hb.block b hb'⟩⟩,fun b h _=>h,fun b h=>Nat.lt_of_lt_of_le (hS b h) hb.size,by intro i j v v' _ hv;simp at hv,by rintro b ⟨v,hv,_⟩;simp at hv⟩;have hsl:Sl c0g w1.heap S A3 c3 (show List Bool from y):=by
  have h0:=Ow.A0Y hown;refine h0.Y0 ⟨Nat.le_refl _,fun b hb' hn=>⟨fun hs=>hn ?_,rfl⟩⟩;refine ⟨.inr hs,fun e=>?_⟩;have:=(hown.own b e).2;rcases this with h | h
  ·exact h
  ·have:=hS b hs;omega
 refine Go.X.W6 (E:=en) (x:=.d (.list .bool)) (r:=[]) ⟨[.slice A3 (show List Bool from y).length c3],_,[],[],[],rfl,rfl,rfl,?_,Go.X.N7⟩;unfold Go.X.SR;exact ⟨rfl,A3,c3,rfl,hsl⟩
