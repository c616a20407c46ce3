/- Join: a range over a function. Its conditions: none. -/
import Derived.RangeFuncKeeps
import Derived.RangeFuncLeaves
import Derived.WalkKit
import Derived.OwnWalkIn
import Derived.TacticsInMore
import Derived.LoopNIn
import Derived.LoopIn
import Derived.OrdersIn
import Derived.Still
import Derived.StillTactics
import Derived.Test.YtdficaoajalfaaaGreatAMd
import Derived.Test.YtdficaoajalfaaaGreatAG24
import Derived.Test.YtdficaoajalfaaaGreatAX16
set_option linter.all false
set_option maxRecDepth 100000
namespace Go.Proofs.YtdficaoajalfaaaGreat
open Go.RowKit Go.Shelf Go.Proofs
attribute [local go_sem] Oper.semAt_some
set_option maxHeartbeats 1000000 in
theorem y0Q (F:Fence) (n:Nat) (h5:F.fn 199) (hro:F.round=none) (A:Option Addr) (m c:Nat) (q:Int) (w:World) :
  CallsIn F n Tryz.prog 199 #[.slice A m c,.int .i64 q] w fun e w'=>e=.returned (.func (.func 213) #[] #[.pointer (some ⟨w.heap.size+1,0,none⟩),.pointer (some ⟨w.heap.size,0,none⟩)])/\w'=(w.alloc (.cells #[.slice A m c] 47)).alloc (.cells #[.int .i64 q] 3):=by
 refine callsIn_of_wp Tryz.func199 rfl h5 ?_ hro;simp only [Tryz.ntmps199,List.size_toArray,List.length_cons,List.length_nil,Nat.reduceAdd,Nat.reduceSub,Array.replicate_succ,Array.replicate_zero,List.push_toArray,List.append_toArray,List.nil_append,List.cons_append]
 gi_wp2
 go_ret
 exact ⟨rfl,rfl⟩
section
variable {l n:Nat} {P:Program} {ops:Array Oper} {md:Region.Mode}
theorem A0T {f:FuncId} {args:Array Value} {w:World} {R:Ending->World->Prop} (h:Calls P f args w R):CallsIn (Fence.wide.inRound l) n P f args w R:=callsIn_wide.2 h
theorem x0E {o:Oper} {a:Act} {w:World} {K:Act->Prop} {K':Act->World->Prop} {Q':Exit->Act->World->Prop} (hd:∀ c,o.op≠.defer c) (h:∀ a,K a->K' a w) (hh:o.still P a w K) :
  o.wpIn (Fence.wide.inRound l) n P a w K' Q':=by
 refine ⟨fun _ _=>trivial,?_⟩;rw [show (Fence.wide.inRound l).round=some l from rfl,Oper.semAt_eq _ _ _ hd];unfold Oper.still at hh;generalize (execOp a.eval o).run P w=r at hh ⊢;cases r with
 |
  ok nx w'=>
  cases nx<;>simp only [Oper.stillUpon] at hh<;>try exact hh.elim
  case value v=>obtain ⟨rfl,h1⟩:=hh;exact h _ h1
  case skip=>obtain ⟨rfl,h1⟩:=hh;exact h _ h1
  case enter f args=>
   obtain ⟨rfl,v,h1,h2⟩:=hh;refine ⟨fun h=>by simp [Fence.wide] at h,A0T (h1.mono ?_)⟩
   rintro e w2 ⟨rfl,rfl⟩
   exact h _ h2
 |halt x w'=>simp only [Oper.stillUpon] at hh
theorem v0n {i:Nat} {a:Act} {w:World} {K:Act->Prop} {K':Act->World->Prop} {Q':Exit->Act->World->Prop} (hd:∀ o∈ops.toList,∀ c,o.op≠.defer c) (h:∀ a,K a->K' a w) (hh:stOp P ops w i K a) :
  wpOpIn (Fence.wide.inRound l) n P ops Q' i K' a w:=by
 unfold stOp at hh;unfold wpOpIn;split
 ·rename_i ho;simp only [ho] at hh;exact h _ hh
 ·rename_i o ho;simp only [ho] at hh;split
  ·rename_i hw;simp only [hw,if_true] at hh;exact x0E (hd o (by have:=Array.mem_of_getElem? ho;simpa using this)) h hh
  ·rename_i hw;simp only [hw] at hh;exact ⟨fun _ _=>trivial,h _ hh⟩
theorem p0O {w:World} {Q:Act->Prop} {Q':Exit->Act->World->Prop} (hd:∀ o∈ops.toList,∀ c,o.op≠.defer c) (hQ:∀ a,Q a->Q' .normal a w):∀ (fuel:Nat) (listed:Array Bool) (a:Act),
  wpAnyS P md ops w Q fuel listed a->wpAnyIn (Fence.wide.inRound l) n P md ops Q' fuel listed a w
 |0,_,_,h=>⟨h.1,hQ _ h.2⟩
 |fuel+1,_,_,h=>⟨fun h0=>hQ _ (h.1 h0),fun i hi=>v0n hd (fun a'=>p0O hd hQ fuel _ a') (h.2 i hi)⟩
theorem z0U {id:Nat} {Q:Exit->Act->World->Prop} {a:Act} {w:World} {xs:List Oper} (hm:P.follows .mixedOrders=true) (hd:∀ o∈xs,∀ c,o.op≠.defer c) (hB:Region.lexB .any xs.toArray=true)
  (h:wpStill P xs.toArray { w with drawn:=w.drawn+1 } (fun a'=>Q .normal a' { w with drawn:=w.drawn+1 }) xs a):(Code.region id xs.toArray true).wpIn (Fence.wide.inRound l) n P Q a w:=by
 simp only [Region.lexB,Bool.and_eq_true] at hB;refine wpIn_region_any hm (p0O (Q:=fun a'=>Q .normal a' { w with drawn:=w.drawn+1 }) (by simpa using hd) (fun _ h=>h) _ _ _ ?_);have:=wpAnyS_lex (md:=.any) hB.1 xs 0 (Array.replicate xs.toArray.size false) a (by simp) (by simpa using hB.2) h;simpa using this
end
theorem y0f {P:Nat->Prop}:∀ k,P k->∃ k,P k/\∀ j,P j->k<=j:=by
 intro k
 induction k using Nat.strongRecOn with
 |
  ind k ih=>
  intro hk
  by_cases h:∃ j,P j/\j<k
  ·obtain ⟨j,hj,hlt⟩:=h;exact ih j hlt hj
  ·exact ⟨k,hk,fun j hj=>Nat.le_of_not_lt (fun hlt=>h ⟨j,hj,hlt⟩)⟩
open Classical in
noncomputable def muW (J:Nat->World->Prop) (W:World):Nat:=if h:∃ k,J k W/\∀ j,J j W->k<=j then Classical.choose h else 0
theorem q01 {J:Nat->World->Prop} {W:World} {k:Nat} (h:J k W):J (muW J W) W/\muW J W<=k:=by
 have h':∃ k,J k W/\∀ j,J j W->k<=j:=y0f (P:=fun k=>J k W) k h;unfold muW;rw [dif_pos h'];have:=Classical.choose_spec h';exact ⟨this.1,this.2 k h⟩
set_option maxHeartbeats 1000000 in
theorem w0Z (F:Fence) (n:Nat) (h6:F.fn 213) (hro:F.round=none) (hn:1<=n) (l Bq Bu:Nat) (a0:Addr) (m c:Nat) (J:Nat->Int->World->Prop) (Jx:World->Prop)
  (hJ:∀ k q W,J k q W->W.cell? ⟨Bq,0,none⟩=some (.int .i64 q))
  (hY:∀ k q W,J k q W->0<=q->YieldAt F (n-1) Tryz.prog l #[.int .i64 q] W fun e W'=>
   (e=.returned (.bool true)/\∃ q' k',W'.cell? ⟨Bq,0,none⟩=some (.int .i64 q)/\W'.frozen? ⟨Bq,0,none⟩=false/\W'.cell? ⟨Bu,0,none⟩=some (.slice (some a0) m c)/\q<m/\W'.cell? (a0.add q.toNat)=some (.int .i64 q')/\k'<k/\J k' q' (W'.setCell ⟨Bq,0,none⟩ (.int .i64 q')))
   \/(e=.returned (.bool false)/\Jx W'))
  (W:World) (k:Nat) (q:Int) (h0:J k q W):CallsIn F n Tryz.prog 213 #[.func (.yield l) #[] #[],.pointer (some ⟨Bq,0,none⟩),.pointer (some ⟨Bu,0,none⟩)] W fun e W'=>(∃ v,e=.returned v)/\((∃ k q,q<0/\J k q W')\/Jx W'):=by
 refine callsIn_of_wp Tryz.func213 rfl h6 ?_ hro;simp only [Tryz.ntmps213,List.size_toArray,List.length_cons,List.length_nil,Nat.reduceAdd,Nat.reduceSub,Array.replicate_succ,Array.replicate_zero,List.push_toArray,List.append_toArray,List.nil_append,List.cons_append]
 gi_wp2
 gi_loopw [] (fun wr=>∃ k q,J k q wr) (fun wr=>muW (fun k w=>∃ q,J k q w) wr)
 case atStart=>exact ⟨k,q,h0⟩
 case round=>
  obtain ⟨k1,q1,hJ1⟩:=hrel;obtain ⟨⟨q2,hJ2⟩,_⟩:=q01 (J:=fun k w=>∃ q,J k q w) ⟨q1,hJ1⟩;have hq:=hJ _ _ _ hJ2
  by_cases hneg:q2<0
  ·have hd:decide (q2>=0)=false:=by simp;omega
   gi_wp2
   go_end0
   exact ⟨⟨_,rfl⟩,.inl ⟨_,_,hneg,hJ2⟩⟩
  ·have hd:decide (q2>=0)=true:=by simp;omega
   obtain ⟨fn,tmps,assign,body,hy,hR⟩:=hY _ _ _ hJ2 (by omega)
   gi_wp2
   refine hR.mono ?_
   rintro e W3 (⟨rfl,q3,k3,hq3,hf3,hu3,hlt,hc3,hk3,hJ3⟩ | ⟨rfl,hJx3⟩)
   ·have hb3:0<=q2:=by omega
    gi_wp2
    go_roundw
    case rel=>exact ⟨k3,q3,hJ3⟩
    case measure=>exact Nat.lt_of_le_of_lt (q01 (J:=fun k w=>∃ q,J k q w) ⟨q3,hJ3⟩).2 hk3
   ·gi_wp2
    refine bodyPost_ret (results_none rfl _ _ _) rfl ?_;exact ⟨⟨_,rfl⟩,.inr hJx3⟩
open Go.V hiding Row
open Go.X
def SlI (H:K0) (lo:Nat) (v:Value) (y:List Int):Prop:=(y=[]/\∃ a,v=.slice a 0 0)\/
 ∃ g cap cur,v=.slice (some ⟨g,0,none⟩) y.length cap/\lo<=g/\H[g]?=some (.cells cur 3 (0,0))/\∀ i:Nat,i<y.length->cur[i]?=some (.int .i64 (y.getD i 0))
theorem SlI.form {H:K0} {lo:Nat} {v:Value} {y:List Int} (h:SlI H lo v y):∃ A c,v=.slice A y.length c:=by
 rcases h with ⟨rfl,a,rfl⟩ | ⟨g,cap,cur,rfl,_⟩
 ·exact ⟨a,0,rfl⟩
 ·exact ⟨_,_,rfl⟩
theorem SlI.of {E:Env} {H:K0} {S:D0} {lo:Nat} {v:Value} {y:List Int} {cs:List Value} (hr:Row H 3 (J0 E (.int .i64)).sz v y.length cs) (he:U1 (J0 E (.int .i64)) H S cs y) (hlo:∀ k,D1 v=some k->lo<=k):SlI H lo v y:=by
 obtain ⟨h0,⟨h1,a,rfl⟩ | ⟨g,cap,cur,rfl,hc,hg,hn,hm,hz,ht⟩⟩:=hr
 ·exact .inl ⟨List.eq_nil_of_length_eq_zero h1,a,rfl⟩
 ·refine .inr ⟨g,cap,cur,rfl,hlo g (by cases cap with | zero=>omega | succ c=>rfl),hg,fun i hi=>?_⟩;have h1:=he.2 i (y.getD i 0) (by rw [show y.getD i 0=y[i] from by simp [List.getD,hi]];exact List.getElem?_eq_getElem hi);have hsz:(J0 E (.int .i64)).sz=1:=rfl;have h1:(cs.drop (i*1)).take 1=[.int .i64 (y.getD i 0)]:=h1;rw [Nat.mul_one] at h1;have hl:(cur.toList.take (y.length*1))=cs:=ht;rw [Nat.mul_one] at hl;have h2:cs[i]?=some (.int .i64 (y.getD i 0)):=by
   have:=congrArg (fun l=>l[0]?) h1;simpa using this
  rw [<-hl,List.getElem?_take_of_lt hi] at h2;simpa using h2
theorem q0V {f:Nat} {m:List C0->Option (List Int)} (h:C1 en ⟨f,[.d (.list (.st 0))],.own 3 (.int .i64),[],m⟩) {w:World} {S:D0} {l:List C0} {y:List Int} {c:List Value}
  (hm:m l=some y) (hl:SR en w.heap S (.d (.list (.st 0))) l c []) (hS:∀ b,S b->b<w.heap.size) :
  Calls en.P f #[H4 false c] w fun e w1=>∃ v,e=.returned v/\SlI w1.heap w.heap.size v y/\Q8 Q5 w w1:=by
 refine (h w S [H4 false c] [] l y hm (e0i ⟨c,H4 false c,[],[],[],rfl,rfl,rfl,hl,d0N⟩) hS (by rintro b ⟨v,hv,_⟩;simp at hv) (by intro i j v v' _ hv;simp at hv)).mono ?_
 rintro e w1 ⟨v,S1,pl1,rfl,hsr,hb,hk,hs1,hs2,hap,hbl⟩
 have hsr:I3 en w1.heap S1 [.own 3 (.int .i64)] y [v] pl1:=hsr;unfold I3 at hsr;obtain ⟨c1,u,us',p1,p2,e0,rfl,e1,h1,h2⟩:=hsr;cases e0;obtain ⟨_,rfl⟩:=d04 h2;unfold SR at h1;obtain ⟨v1,cs,rfl,rfl,h5,hrow,hels⟩:=h1;have e1:v=v1:=e1;subst e1;refine ⟨v,rfl,SlI.of hrow hels (fun k hk=>?_),⟨hb.os,hb.tape,hb.output,hb.size,fun k hk _=>hb.block k hk (by rintro ⟨v,hv,_⟩;simp at hv)⟩⟩;have hbk:Bk v k:=by
  obtain ⟨A,cc,hfo⟩:=Row.form hrow;rw [hfo] at hk ⊢;exact hk
 rcases (hbl k ⟨v,by simp,hbk⟩).2 with ⟨v2,hv2,_⟩ | h
 ·simp at hv2
 ·exact h
structure JW (W0:World) (Bq R:Nat) (q r:Int) (lo:Obj) (W:World):Prop where
 os:W.os=W0.os
 tape:W.tape=W0.tape
 output:W.output=W0.output
 size:W.heap.size=W0.heap.size+2
 bq:W.heap[Bq]?=some (.cells #[.int .i64 q] 3 (0,0))
 br:W.heap[R]?=some (.cells #[.int .i64 r] 3 (0,0))
 dd:W.heap[W0.heap.size]?=some (.deferred (some []))
 ll:W.heap[W0.heap.size+1]?=some lo
 rest:∀ j,j<W0.heap.size->j≠Bq->j≠R->W.heap[j]?=W0.heap[j]?
theorem t0i {W:World} {B:Nat} {v v':Value} {t:TypeId} (h:W.heap[B]?=some (.cells #[v] t (0,0))):(W.setCell ⟨B,0,none⟩ v').heap[B]?=some (.cells #[v'] t (0,0)):=by
 simp [World.setCell,Array.getElem?_modify,h]
section
variable {W0 W:World} {Bq R:Nat} {q q' r r':Int} {lo lo':Obj}
theorem JW.y0l (h:JW W0 Bq R q r lo W) (hne:Bq≠R) (hl:Bq<W0.heap.size):JW W0 Bq R q' r lo (W.setCell ⟨Bq,0,none⟩ (.int .i64 q')):=by
 have e:∀ k,k≠Bq->(W.setCell ⟨Bq,0,none⟩ (.int .i64 q')).heap[k]?=W.heap[k]?:=fun k hk=>Below.heap_setCell W _ _ k hk;exact ⟨h.os,h.tape,h.output,by simp [World.setCell];exact h.size,t0i h.bq,(e _ (Ne.symm hne)).trans h.br,(e _ (by omega)).trans h.dd,(e _ (by omega)).trans h.ll,fun j hj h1 h2=>(e _ h1).trans (h.rest j hj h1 h2)⟩
theorem JW.r0t (h:JW W0 Bq R q r lo W) (hne:Bq≠R) (hl:R<W0.heap.size):JW W0 Bq R q r' lo (W.setCell ⟨R,0,none⟩ (.int .i64 r')):=by
 have e:∀ k,k≠R->(W.setCell ⟨R,0,none⟩ (.int .i64 r')).heap[k]?=W.heap[k]?:=fun k hk=>Below.heap_setCell W _ _ k hk;exact ⟨h.os,h.tape,h.output,by simp [World.setCell];exact h.size,(e _ hne).trans h.bq,t0i h.br,(e _ (by omega)).trans h.dd,(e _ (by omega)).trans h.ll,fun j hj h1 h2=>(e _ h2).trans (h.rest j hj h1 h2)⟩
theorem JW.put (h:JW W0 Bq R q r lo W) (hl:Bq<W0.heap.size) (hr:R<W0.heap.size):JW W0 Bq R q r lo' (W.putObj (W0.heap.size+1) lo'):=by
 have e:∀ k,k≠W0.heap.size+1->(W.putObj (W0.heap.size+1) lo').heap[k]?=W.heap[k]?:=fun k hk=>World.putObj_heap_other hk;exact ⟨h.os,h.tape,h.output,by rw [World.putObj_size];exact h.size,(e _ (by omega)).trans h.bq,(e _ (by omega)).trans h.br,(e _ (by omega)).trans h.dd,World.putObj_heap_same (by rw [h.size];omega),fun j hj h1 h2=>(e _ (by omega)).trans (h.rest j hj h1 h2)⟩
theorem JW.drew (h:JW W0 Bq R q r lo W):JW W0 Bq R q r lo { W with drawn:=W.drawn+1 }:=⟨h.os,h.tape,h.output,h.size,h.bq,h.br,h.dd,h.ll,h.rest⟩
end
def C0b (stepf:Int->Option (V0 Int Int)) (W0:World) (Bq R:Nat) (q:Int) (lo:Obj) (a0:Addr) (m:Nat):Exit->Act->World->Prop
 |.normal,_,W'=>∃ q',stepf q=some (.next q')/\JW W0 Bq R q 0 lo W'/\q<m/\W'.cell? (a0.add q.toNat)=some (.int .i64 q')
 |.ret,_,W'=>stepf q=some (.done q)/\JW W0 Bq R q q lo W'
 |_,_,_=>False
theorem j7 {W:World} {B:Nat} {v:Value} {t:TypeId} (h:W.heap[B]?=some (.cells #[v] t (0,0))):W.cell? ⟨B,0,none⟩=some v/\W.frozen? ⟨B,0,none⟩=false:=by
 constructor<;>simp [World.cell?,World.frozen?,h]
theorem q0f {W:World} {g k:Nat} {cur:Array Value} {t:TypeId} {v:Value} (h:W.heap[g]?=some (.cells cur t (0,0))) (hv:cur[k]?=some v):W.cell? ((⟨g,0,none⟩:Addr).add k)=some v:=by
 cases k<;>simp [World.cell?,Addr.add,h,hv]
theorem m0v (W:World) (v:Value) (t:TypeId):(W.alloc (.cells #[v] t)).cell? ⟨W.heap.size,0,none⟩=some v/\(W.alloc (.cells #[v] t)).frozen? ⟨W.heap.size,0,none⟩=false:=
 j7 (World.alloc_heap_new W _)
theorem E0p {F:Fence} {n:Nat} {g:Operand} {ps:Array Tmp} {assign body:Code} {Q:Exit->Act->World->Prop} {a:Act} {w:World} (hro:F.round=none) (h3:3<=n) (hFg:F.fn 213) (hps:ps.size=1)
  {Bq Bu R m c:Nat} {a0:Addr} {q0 res:Int} (hg:a.eval g=.func (.func 213) #[] #[.pointer (some ⟨Bq,0,none⟩),.pointer (some ⟨Bu,0,none⟩)])
  (hBq:Bq<w.heap.size) (hBR:Bq≠R) (hR:R<w.heap.size) (hBu:Bu<w.heap.size) (hBuq:Bu≠Bq) (hBuR:Bu≠R)
  (hbq:w.heap[Bq]?=some (.cells #[.int .i64 q0] 3 (0,0))) (hbr:w.heap[R]?=some (.cells #[.int .i64 0] 3 (0,0))) (hbu:w.heap[Bu]?=some (.cells #[.slice (some a0) m c] 47 (0,0)))
  {stepf:Int->Option (V0 Int Int)} {k:Nat} (hk:iter stepf k q0=some res) (hneg:∀ q,q<0->stepf q=some (.done (-1))) (a₁:Int->Act)
  (hassign:∀ (l:Nat) (q:Int) (W:World) (K:Act->World->Prop),K (a₁ q) W->
   assign.wpIn (F.inRound l) (n-1-1) Tryz.prog (Exit.then K (fun _ _ _=>False)) { tmps:=(ps.zip #[.int .i64 q]).foldl (fun t (p,v)=>t.setIfInBounds p v) a.tmps,defers:=[] } W)
  (hbody:∀ (l:Nat) (q:Int) (lo:Obj) (W:World),JW w Bq R q 0 lo W->stepf q≠none->0<=q->body.wpIn (F.inRound l) (n-1-1) Tryz.prog (C0b stepf w Bq R q lo a0 m) (a₁ q) W)
  (hdone:∀ (q:Int) (lo:Obj) (W:World),JW w Bq R q 0 lo W->res=-1->Q .normal { a with defers:={ target:=.collected w.heap.size,args:=#[] } :: a.defers } W)
  (hstop:∀ (q:Int) (lo:Obj) (W:World),JW w Bq R q res lo W->Code.ret.wpIn F n Tryz.prog Q { a with defers:={ target:=.collected w.heap.size,args:=#[] } :: a.defers } W) :
  (Code.rangeFunc g ps assign body).wpIn F n Tryz.prog Q a w:=by
 refine wpIn_rangeFunc ?_;intro fn hfn;rw [hro];obtain ⟨rec,hrec⟩:∃ rec:LoopState->Option Code->Loop,rec=fun st pe=>{ state:=st,pending:=pe,fn,tmps:=a.tmps,params:=ps,assign,body,defers:=w.heap.size }:=⟨_,rfl⟩
 obtain ⟨W1,hW1⟩:∃ W1,(w.alloc (.deferred (some []))).alloc (.loop (rec .ready none))=W1:=⟨_,rfl⟩
 have hold:∀ j,j<w.heap.size->W1.heap[j]?=w.heap[j]?:=fun j hj=>by
  rw [<-hW1];exact (Below.heap_alloc _ _ _ (by simp;omega)).trans (Below.heap_alloc _ _ _ hj)
 have hJ1:JW w Bq R q0 0 (.loop (rec .ready none)) W1:=by
  refine ⟨by rw [<-hW1];rfl,by rw [<-hW1];rfl,by rw [<-hW1];rfl,by rw [<-hW1];simp,(hold _ hBq).trans hbq,(hold _ hR).trans hbr,?_,?_,fun j hj _ _=>hold j hj⟩
  ·rw [<-hW1];exact (Below.heap_alloc _ _ _ (by simp)).trans (World.alloc_heap_new w _)
  ·rw [<-hW1];have:=World.alloc_heap_new (w.alloc (.deferred (some []))) (.loop (rec .ready none));rwa [World.size_alloc] at this
 have eg:∀ args w,(callFunc 213 args).run Tryz.prog w=.ok (.enter 213 args) w:=enters_of Tryz.func213 (by kernel_rfl) rfl;refine ⟨w.heap.size+1,[{ target:=.collected w.heap.size,args:=#[] }],W1,{ target:=.fn (.func 213) #[.pointer (some ⟨Bq,0,none⟩),.pointer (some ⟨Bu,0,none⟩)],args:=#[.func (.yield (w.heap.size+1)) #[] #[]] },W1,213,
  #[.func (.yield (w.heap.size+1)) #[] #[],.pointer (some ⟨Bq,0,none⟩),.pointer (some ⟨Bu,0,none⟩)],W1,?_,?_,?_,?_,fun _=>by omega,?_⟩
 ·rw [<-hW1,hrec];exact run_enterLoop_outer _ _ _ _ _
 ·simp only [resolve,hg];simp [go_sem]
 ·intro f' hf';simp [Target.leads] at hf';subst hf';exact hFg
 ·simp [invoke,go_sem,eg]
 ·refine (w0Z F (n-1) hFg hro (by omega) (w.heap.size+1) Bq Bu a0 m c (fun k q W=>iter stepf k q=some res/\JW w Bq R q 0 (.loop (rec .ready none)) W) (fun W=>∃ q,JW w Bq R q res (.loop (rec .done (some .ret))) W)
   (fun k q W h=>(j7 h.2.bq).1) ?_ W1 k q0 ⟨hk,hJ1⟩).mono ?_
  ·rintro k q W ⟨hit,hj⟩ hq
   cases k with
   |zero=>cases hit
   |
    succ k=>
    have hy:=run_yield (P:=Tryz.prog) (args:=#[.int .i64 q]) hj.ll (by rw [hrec];simp [hps]);have hs:stepf q≠none:=fun e=>by simp [iter,e] at hit
    rw [hrec] at hy;refine ⟨fn,_,assign,body,hy,roundIn_of_wpIn hfn (hassign _ q W _ ⟨_,run_beginRound hj.ll (by rw [hrec]),?_⟩)⟩;refine wpIn_mono (hbody _ q _ _ (hj.put hBq hR) hs hq) ?_
    rintro e a3 W3 hp
    cases e with
    |
     normal=>
     obtain ⟨q',h1,h2,h3,h4⟩:=hp;have he:=run_endRound (P:=Tryz.prog) none h2.ll;have h5:=h2.put (lo':=.loop (rec .ready none)) hBq hR;rw [hrec] at he h5 ⊢;refine ⟨_,_,he,.inl ⟨rfl,q',k,(j7 h5.bq).1,(j7 h5.bq).2,(j7 ((h5.rest _ hBu hBuq hBuR).trans hbu)).1,h3,?_,by omega,by simpa [iter,h1] using hit,h5.y0l hBR hBq⟩⟩;exact cell_kept h4 (grownBy_putObj' _ (w.heap.size+1) _) (fun r e=>by cases e;exact ⟨_,h2.ll,rfl⟩)
    |
     ret=>
     obtain ⟨h1,h2⟩:=hp;have he:=run_endRound (P:=Tryz.prog) (some .ret) h2.ll;have h5:=h2.put (lo':=.loop (rec .done (some .ret))) hBq hR;have hr:q=res:=by simpa [iter,h1] using hit
     subst hr;rw [hrec] at he h5 ⊢;exact ⟨_,_,he,.inr ⟨rfl,q,h5⟩⟩
    |exit id=>exact hp.elim
    |goto t=>exact hp.elim
    |panic ch=>exact hp.elim
    |outgrown=>exact hp.elim
  ·rintro e W2 ⟨⟨v,rfl⟩,(⟨k,q,hq,hit,hj⟩ | ⟨q,hj⟩)⟩
   ·have hr:res=-1:=by
     cases k with
     |zero=>cases hit
     |succ k=>simpa [iter,hneg q hq,eq_comm] using hit
    have he:=run_endLoop (P:=Tryz.prog) hj.ll (by rw [hrec];simp);rw [hrec] at he;exact ⟨none,_,he,hdone _ _ _ (hj.put hBq hR) hr⟩
   ·have he:=run_endLoop (P:=Tryz.prog) hj.ll (by rw [hrec];simp);rw [hrec] at he;exact ⟨some .ret,_,he,hstop _ _ _ (hj.put hBq hR)⟩
theorem E0N (u v z:Value):#[u,v,z]++Array.replicate (Tryz.f177.ntmps - #[u,v,z].size) undef=#[u,v,z,undef,undef,undef,undef,undef,undef,undef,undef,undef,undef,undef,undef,undef,undef,undef,undef,undef,undef,undef,undef,undef,undef,undef,undef,undef,undef,undef,undef,undef,undef,undef,undef,undef,undef,undef,undef,undef,undef,undef,undef,undef,undef,undef,undef,undef]:=by
 apply Array.ext';simp [Tryz.ntmps177,List.replicate]
set_option maxHeartbeats 4000000 in
theorem D05 (n:Nat) (h1:1<=n) (h3:3<=n) (u:Value) (a b:Int) (up low:List Int) (res:Int) (w:World)
  (hUp:∀ w',Below w.heap.size w w'->Calls Tryz.prog 195 #[u] w' fun e w1=>∃ v,e=.returned v/\SlI w1.heap w'.heap.size v up/\Q8 Q5 w' w1)
  (hLow:(decide (a<0)||(decide (b<0)||(decide (a>=(up.length:Int))||decide (b>=(up.length:Int)))))=false->(∀ w',Below w.heap.size w w'->Calls Tryz.prog 125 #[u] w' fun e w1=>∃ v,e=.returned v/\SlI w1.heap w'.heap.size v low/\Q8 Q5 w' w1)/\
   ∃ k,iter (a0l up low b) k a=some res)
  (hres:(decide (a<0)||(decide (b<0)||(decide (a>=(up.length:Int))||decide (b>=(up.length:Int)))))=true->res=-1) :
  CallsIn Fence.wide n Tryz.prog 177 #[u,.int .i64 a,.int .i64 b] w fun e w1=>e=.returned (.int .i64 res)/\Below w.heap.size w w1:=by
 have hcw:∀ {m:Nat} {f:FuncId} {args:Array Value} {w:World} {R:Ending->World->Prop},Calls Tryz.prog f args w R->CallsIn Fence.wide m Tryz.prog f args w R:=fun h=>callsIn_wide.2 h;have hro:Fence.wide.round=none:=rfl;have f195:Fence.wide.fn 195:=trivial;have f125:Fence.wide.fn 125:=trivial;have f199:Fence.wide.fn 199:=trivial;have f213:Fence.wide.fn 213:=trivial;have f177:Fence.wide.fn 177:=trivial;generalize hF:Fence.wide=F at *;refine callsIn_of_wp_marks Tryz.func177 rfl f177 ?_ hro;rw [E0N];have hB2:Below w.heap.size w ((w.alloc (.cells #[.int .i64 b] 3)).alloc (.cells #[.int .i64 0] 3)):=((Below.refl _ w).alloc (Nat.le_refl _) _).alloc (by simp) _;have cb:=m0v w (.int .i64 b) 3;have cr:=m0v (w.alloc (.cells #[.int .i64 b] 3)) (.int .i64 0) 3;have hcell:∀ {w3:World},Q8 Q5 ((w.alloc (.cells #[.int .i64 b] 3)).alloc (.cells #[.int .i64 0] 3)) w3->w3.heap[w.heap.size]?=some (.cells #[.int .i64 b] 3 (0,0))/\w3.heap[w.heap.size+1]?=some (.cells #[.int .i64 0] 3 (0,0))/\Below w.heap.size w w3:=by
  intro w3 hb;refine ⟨(hb.below.block _ (by simp;omega)).trans ?_,(hb.below.block _ (by simp)).trans ?_,hB2.trans (hb.below.mono (by simp;omega))⟩
  ·rw [Below.heap_alloc _ _ _ (by simp)];exact World.alloc_heap_new w _
  ·have:=World.alloc_heap_new (w.alloc (.cells #[.int .i64 b] 3)) (.cells #[.int .i64 0] 3);rwa [World.size_alloc] at this
 have hcase:decide (a<0)=true\/(decide (a<0)=false/\decide (b<0)=true)\/(decide (a<0)=false/\decide (b<0)=false/\decide (a>=(up.length:Int))=true)\/
   (decide (a<0)=false/\decide (b<0)=false/\decide (a>=(up.length:Int))=false/\decide (b>=(up.length:Int))=true)\/(decide (a<0)=false/\decide (b<0)=false/\decide (a>=(up.length:Int))=false/\decide (b>=(up.length:Int))=false):=by
  cases decide (a<0)<;>cases decide (b<0)<;>cases decide (a>=(up.length:Int))<;>cases decide (b>=(up.length:Int))<;>simp
 have hout:∀ (w3:World) (tm:Array Value),tm[6]?=some (.pointer (some ⟨w.heap.size+1,0,none⟩))->Q8 Q5 ((w.alloc (.cells #[.int .i64 b] 3)).alloc (.cells #[.int .i64 0] 3)) w3->res=-1->
   bodyPostM F n Tryz.prog Tryz.f177 (fun e w1=>e=Ending.returned (Value.int IntKind.i64 res)/\Below w.heap.size w w1) Exit.ret { tmps:=tm,defers:=[] } (w3.setCell ⟨w.heap.size+1,0,none⟩ (.int .i64 (-1))):=by
  intro w3 tm ht hb hr;obtain ⟨q1,q2,q3⟩:=hcell hb;have hc:=(j7 q2).1;have hs:=World.cell?_setCell_same' w3 ⟨w.heap.size+1,0,none⟩ (.int .i64 (-1)) (by rw [hc];rfl);refine ⟨.int .i64 (-1),?_,?_⟩
  ·simp [results,Tryz.f177,go_sem,hs,ht]
  ·exact ⟨by rw [hr],q3.trans ((Below.refl w.heap.size w3).setCell (p:=⟨w.heap.size+1,0,none⟩) (by simp) _)⟩
 rcases hcase with ha | ⟨ha,hb0⟩ | ⟨ha,hb0,hc0⟩ | ⟨ha,hb0,hc0,hd0⟩ | ⟨ha,hb0,hc0,hd0⟩
 ·have hr:res=-1:=hres (by rw [ha];rfl)
  gi_wp2_with (gi_at_call 195;refine (hcw (hUp _ hB2)).mono ?_;rintro e w3 ⟨v,rfl,hv,hb⟩;obtain ⟨A,cc,rfl⟩:=hv.form;obtain ⟨q1,q2,q3⟩:=hcell hb;have cb3:=j7 q1;have cr3:=j7 q2)
  exact hout _ _ rfl hb hr
 ·have hr:res=-1:=hres (by rw [ha,hb0];rfl)
  gi_wp2_with (gi_at_call 195;refine (hcw (hUp _ hB2)).mono ?_;rintro e w3 ⟨v,rfl,hv,hb⟩;obtain ⟨A,cc,rfl⟩:=hv.form;obtain ⟨q1,q2,q3⟩:=hcell hb;have cb3:=j7 q1;have cr3:=j7 q2)
  exact hout _ _ rfl hb hr
 ·have hr:res=-1:=hres (by rw [ha,hb0,hc0];rfl)
  gi_wp2_with (gi_at_call 195;refine (hcw (hUp _ hB2)).mono ?_;rintro e w3 ⟨v,rfl,hv,hb⟩;obtain ⟨A,cc,rfl⟩:=hv.form;obtain ⟨q1,q2,q3⟩:=hcell hb;have cb3:=j7 q1;have cr3:=j7 q2)
  exact hout _ _ rfl hb hr
 ·have hr:res=-1:=hres (by rw [ha,hb0,hc0,hd0];rfl)
  gi_wp2_with (gi_at_call 195;refine (hcw (hUp _ hB2)).mono ?_;rintro e w3 ⟨v,rfl,hv,hb⟩;obtain ⟨A,cc,rfl⟩:=hv.form;obtain ⟨q1,q2,q3⟩:=hcell hb;have cb3:=j7 q1;have cr3:=j7 q2)
  exact hout _ _ rfl hb hr
 obtain ⟨hL,k,hk⟩:=hLow (by rw [ha,hb0,hc0,hd0];rfl)
 gi_wp2_with (first
  |(gi_at_call 195;refine (hcw (hUp _ hB2)).mono ?_;rintro e w3 ⟨v,rfl,hv,hb⟩;obtain ⟨A,cc,rfl⟩:=hv.form;obtain ⟨q1,q2,q3⟩:=hcell hb;have cb3:=j7 q1;have cr3:=j7 q2)
  |(gi_at_call 125;refine (hcw (hL _ q3)).mono ?_;rintro e w4 ⟨v4,rfl,hv4,hb4⟩;obtain ⟨A4,cc4,rfl⟩:=hv4.form;have c8:=m0v w4 (.slice none 0 0) 47)
  |(gi_at_call 199;refine (y0Q F _ f199 hro _ _ _ _ _).mono ?_;rintro e w5 ⟨rfl,rfl⟩))
 have ha':¬ a<0:=of_decide_eq_false ha;have hc':¬ a>=(up.length:Int):=of_decide_eq_false hc0;obtain ⟨g,hA,hlo,cur,hg,hcur⟩:∃ g,A=some ⟨g,0,none⟩/\w.heap.size+2<=g/\∃ cur,w3.heap[g]?=some (.cells cur 3 (0,0))/\∀ i:Nat,i<up.length->cur[i]?=some (.int .i64 (up.getD i 0)):=by
  rcases hv with ⟨h0,_⟩ | ⟨g,cap,cur,h1,h2,h3,h4⟩
  ·rw [h0] at hc';simp at hc';omega
  ·cases h1;exact ⟨g,rfl,by simp at h2;omega,cur,h3,h4⟩
 subst hA;have hg3:g<w3.heap.size:=(Array.getElem?_eq_some_iff.1 hg).1;have hs34:w3.heap.size<=w4.heap.size:=hb4.size;have hR3:w.heap.size+1<w3.heap.size:=(Array.getElem?_eq_some_iff.1 q2).1;have hold:∀ (j:Nat),j<w4.heap.size->(((w4.alloc (.cells #[.slice A4 low.length cc4] 47)).alloc (.cells #[.slice (some ⟨g,0,none⟩) up.length cc] 47)).alloc (.cells #[.int .i64 a] 3)).heap[j]?=w4.heap[j]?:=fun j hj=>
  (Below.heap_alloc _ _ _ (by simp;omega)).trans ((Below.heap_alloc _ _ _ (by simp;omega)).trans (Below.heap_alloc _ _ _ hj))
 have hB8:(((w4.alloc (.cells #[.slice A4 low.length cc4] 47)).alloc (.cells #[.slice (some ⟨g,0,none⟩) up.length cc] 47)).alloc (.cells #[.int .i64 a] 3)).heap[w4.heap.size]?=some (.cells #[.slice A4 low.length cc4] 47 (0,0)):=
  (Below.heap_alloc _ _ _ (by simp;omega)).trans ((Below.heap_alloc _ _ _ (by simp)).trans (World.alloc_heap_new _ _))
 have hBu:(((w4.alloc (.cells #[.slice A4 low.length cc4] 47)).alloc (.cells #[.slice (some ⟨g,0,none⟩) up.length cc] 47)).alloc (.cells #[.int .i64 a] 3)).heap[w4.heap.size+1]?=some (.cells #[.slice (some ⟨g,0,none⟩) up.length cc] 47 (0,0)):=by
  refine (Below.heap_alloc _ _ _ (by simp)).trans ?_;have:=World.alloc_heap_new (w4.alloc (.cells #[.slice A4 low.length cc4] 47)) (.cells #[.slice (some ⟨g,0,none⟩) up.length cc] 47);rwa [World.size_alloc] at this
 have hBq:(((w4.alloc (.cells #[.slice A4 low.length cc4] 47)).alloc (.cells #[.slice (some ⟨g,0,none⟩) up.length cc] 47)).alloc (.cells #[.int .i64 a] 3)).heap[w4.heap.size+1+1]?=some (.cells #[.int .i64 a] 3 (0,0)):=by
  have:=World.alloc_heap_new ((w4.alloc (.cells #[.slice A4 low.length cc4] 47)).alloc (.cells #[.slice (some ⟨g,0,none⟩) up.length cc] 47)) (.cells #[.int .i64 a] 3);rwa [World.size_alloc,World.size_alloc] at this
 have hsz:(((w4.alloc (.cells #[.slice A4 low.length cc4] 47)).alloc (.cells #[.slice (some ⟨g,0,none⟩) up.length cc] 47)).alloc (.cells #[.int .i64 a] 3)).heap.size=w4.heap.size+3:=by simp
 have hBel:Below w.heap.size w (((w4.alloc (.cells #[.slice A4 low.length cc4] 47)).alloc (.cells #[.slice (some ⟨g,0,none⟩) up.length cc] 47)).alloc (.cells #[.int .i64 a] 3)):=
  ((((q3.trans (hb4.below.mono (by omega))).alloc (by omega) _).alloc (by simp;omega) _).alloc (by simp;omega) _)
 generalize (((w4.alloc (.cells #[.slice A4 low.length cc4] 47)).alloc (.cells #[.slice (some ⟨g,0,none⟩) up.length cc] 47)).alloc (.cells #[.int .i64 a] 3))=W0 at *;have hbx:W0.heap[w.heap.size]?=some (.cells #[.int .i64 b] 3 (0,0)):=(hold _ (by omega)).trans ((hb4.below.block _ (by omega)).trans q1);have hbr:W0.heap[w.heap.size+1]?=some (.cells #[.int .i64 0] 3 (0,0)):=(hold _ (by omega)).trans ((hb4.below.block _ (by omega)).trans q2);have hgW:W0.heap[g]?=some (.cells cur 3 (0,0)):=(hold _ (by omega)).trans ((hb4.below.block _ (by omega)).trans hg);have hend:∀ {q r:Int} {lo:Obj} {W:World},JW W0 (w4.heap.size+1+1) (w.heap.size+1) q r lo W->Below w.heap.size w W:=fun h=>
  hBel.trans ⟨h.os,h.tape,h.output,by rw [h.size];omega,fun j hj=>h.rest j (by omega) (by omega) (by omega)⟩
 have hput:∀ {W:World} {r:Nat} {o:Obj},w.heap.size<=r->Below w.heap.size W (W.putObj r o):=fun h=>⟨rfl,rfl,rfl,by simp,fun j hj=>World.putObj_heap_other (by omega)⟩
 refine E0p hro h3 f213 rfl rfl (by omega) (by omega) (by omega) (by omega) (by omega) (by omega) hBq hbr hBu hk (fun q hq=>by simp [a0l];omega)
  (fun x=>{ tmps:=#[u,.int .i64 a,.int .i64 b,undef,undef,.pointer (some ⟨w.heap.size,0,none⟩),.pointer (some ⟨w.heap.size+1,0,none⟩),.slice (some ⟨g,0,none⟩) up.length cc,.pointer (some ⟨w4.heap.size,0,none⟩),.int .i64 x,u,.slice (some ⟨g,0,none⟩) up.length cc,
   .int .i64 a,.bool false,.bool false,.int .i64 b,.bool false,.bool false,.bool false,.int .i64 a,.slice (some ⟨g,0,none⟩) up.length cc,.int .i64 up.length,.bool false,.bool false,.bool false,.int .i64 b,.slice (some ⟨g,0,none⟩) up.length cc,.int .i64 up.length,.bool false,.bool false,
   u,.slice A4 low.length cc4,.slice (some ⟨g,0,none⟩) up.length cc,.int .i64 a,.func (.func 213) #[] #[.pointer (some ⟨w4.heap.size+1+1,0,none⟩),.pointer (some ⟨w4.heap.size+1,0,none⟩)],.int .i64 x,
   undef,undef,undef,undef,undef,undef,undef,undef,undef,undef,undef,undef],defers:=[] }) ?assign ?body ?done ?stop
 case assign=>
  intro l x W K hK
  gi_wp2
  exact hK
 case body=>
  intro l q lo W hj hs hq;subst hF;have hin:B0 low q=true:=by
   cases h:B0 low q
   ·simp [a0l,h,hq] at hs
   ·rfl
  obtain ⟨hq0,hql⟩:=c0g hin;obtain ⟨a4,h4,hc4⟩:∃ a4,A4=some a4/\W.cell? (a4.add q.toNat)=some (.int .i64 (gt low q)):=by
   rcases hv4 with ⟨h0,_⟩ | ⟨g4,cap,cur4,e1,e2,e3,e4⟩
   ·rw [h0] at hql;simp at hql;omega
   ·cases e1;refine ⟨_,rfl,?_⟩;have hg4:g4<w4.heap.size:=(Array.getElem?_eq_some_iff.1 e3).1;have:=(hj.rest g4 (by omega) (by omega) (by omega)).trans ((hold _ hg4).trans e3);have h6:=e4 q.toNat (by omega);exact q0f this h6
  subst h4;have k8:=(j7 ((hj.rest w4.heap.size (by omega) (by omega) (by omega)).trans hB8)).1;have kb:=(j7 ((hj.rest w.heap.size (by omega) (by omega) (by omega)).trans hbx)).1;have kr:=j7 hj.br;have hst:a0l up low b q=if (decide (gt low q<=b)&&decide (b<=q))=true then some (.done q) else if B0 up q=true then some (.next (gt up q)) else none:=by
   unfold a0l;rw [if_pos (decide_eq_true hq),hin];simp only [Bool.true_and]
  cases e1:decide (gt low q<=b)
  all_goals cases e2:decide (b<=q)
  all_goals gi_wp2
  all_goals refine z0U b0N.mix (by simp) (by kernel_rfl) ?_
  all_goals (repeat still_step)
  all_goals refine wpStill_nil ?_
  all_goals gi_wp2
  all_goals rw [e1,e2] at hst
  all_goals first
   |exact ⟨hst,hj.drew.r0t (by omega) (by omega)⟩
   |have hup:B0 up q=true:=by
     cases h:B0 up q with
     |false=>rw [h] at hst;exact absurd hst hs
     |true=>rfl
    obtain ⟨_,hqu⟩:=c0g hup;rw [hup] at hst;exact ⟨gt up q,hst,hj.drew,by omega,q0f ((hj.drew.rest g (by omega) (by omega) (by omega)).trans hgW) (hcur q.toNat (by omega))⟩
 case done=>
  intro q lo W hj hr;have hcr:=j7 hj.br
  gi_wp2
  have h5:=hj.r0t (r':=-1) (by omega) (by omega);have hdd:=h5.dd;rw [hsz] at hdd;refine ⟨by simp,.inl ⟨_,_,rfl,run_takeDeferred hdd,?_⟩⟩;have hc5:=cell_kept (j7 h5.br).1 (grownBy_putObj' _ (w4.heap.size+3) (.deferred none)) (fun r e=>by cases e;exact ⟨_,hdd,rfl⟩);refine ⟨.int .i64 (-1),?_,by rw [<-hr],?_⟩
  ·simp [results,Tryz.f177,go_sem,hc5]
  ·exact (hend h5).trans (hput (by omega))
 case stop=>
  intro q lo W hj
  gi_wp2
  have hdd:=hj.dd;rw [hsz] at hdd;refine ⟨by simp,.inl ⟨_,_,rfl,run_takeDeferred hdd,?_⟩⟩;have hc5:=cell_kept (j7 hj.br).1 (grownBy_putObj' _ (w4.heap.size+3) (.deferred none)) (fun r e=>by cases e;exact ⟨_,hdd,rfl⟩);refine ⟨.int .i64 res,?_,rfl,?_⟩
  ·simp [results,Tryz.f177,go_sem,hc5]
  ·exact (hend hj).trans (hput (by omega))
set_option maxHeartbeats 4000000 in
theorem D0Q {w:World} {S:D0} {us pl:List Value} {x:S4 en.D [.d (.list (.st 0)),.d (.int .i64),.d (.int .i64)]} (hsr:I3 en w.heap S [.d (.list (.st 0)),.d (.int .i64),.d (.int .i64)] x us pl) :
  pl=[]/\∃ c,us=[H4 false c,.int .i64 (show Int from x.2.1),.int .i64 (show Int from x.2.2)]/\(J0 en (.list (.st 0))).R w.heap S c x.1:=by
 skip
 unfold I3 at hsr;obtain ⟨c,u,us1,p1,p2,rfl,rfl,e1,h1,h2⟩:=hsr;unfold I3 at h2;obtain ⟨c2,u2,us2,p3,p4,rfl,rfl,e2,h3,h4⟩:=h2;unfold I3 at h4;obtain ⟨c3,u3,us3,p5,p6,rfl,rfl,e3,h5,h6⟩:=h4;obtain ⟨rfl,rfl⟩:=d04 h6;unfold SR at h1 h3 h5;obtain ⟨rfl,h1⟩:=h1;obtain ⟨rfl,h3⟩:=h3;obtain ⟨rfl,h5⟩:=h5;have h3:c2=[.int .i64 (show Int from x.2.1)]:=h3;have h5:c3=[.int .i64 (show Int from x.2.2)]:=h5;subst h3;subst h5;have e1:u=H4 false c:=e1;have e2:u2=.int .i64 (show Int from x.2.1):=e2;have e3:u3=.int .i64 (show Int from x.2.2):=e3;subst e1;subst e2;subst e3;exact ⟨rfl,c,rfl,h1⟩
theorem r0H {E:Env} {H:K0} {S:D0} {t:U} {x:D6 E.D (.d t)} {c:List Value} (h:(J0 E t).R H S c x):SR E H S (.d t) x c []:=by
 unfold SR;exact ⟨rfl,h⟩
theorem z04 (F:Nat) (hUp:C1 en (f0S F)) (hLow:C1 en (f0E F)) (w:World) (S:D0) (c:List Value) (l:List C0) (a b y:Int) (hm:e0Y F l a b=some y)
  (h1:(J0 en (.list (.st 0))).R w.heap S c l) (hS:∀ b,S b->b<w.heap.size) :
  Calls Tryz.prog 177 #[H4 false c,.int .i64 a,.int .i64 b] w fun e w1=>e=.returned (.int .i64 y)/\Below w.heap.size w w1:=by
 have hl:∀ w',Below w.heap.size w w'->SR en w'.heap S (.d (.list (.st 0))) l c []:=fun w' hb=>by
  exact r0H (t:=.list (.st 0)) ((J0 en (.list (.st 0))).L1 ⟨hb.size,fun b hb' hn=>⟨hn,hb.block b hb'⟩⟩ h1)
 have hS':∀ w',Below w.heap.size w w'->∀ b,S b->b<w'.heap.size:=fun w' hb b h=>Nat.lt_of_lt_of_le (hS b h) hb.size;unfold e0Y at hm;cases eu:S9 F l with
 |none=>rw [eu] at hm;cases hm
 |
  some up=>
  rw [eu] at hm;have hm:(if (decide (a<0)||(decide (b<0)||(decide (a>=(up.length:Int))||decide (b>=(up.length:Int)))))=true then some (-1) else Option.bind (R8 F l) fun low=>iter (a0l up low b) F a)=some y:=hm;obtain ⟨low,hlow,hout⟩:∃ low:List Int,((decide (a<0)||(decide (b<0)||(decide (a>=(up.length:Int))||decide (b>=(up.length:Int)))))=false->R8 F l=some low/\iter (a0l up low b) F a=some y)/\
    ((decide (a<0)||(decide (b<0)||(decide (a>=(up.length:Int))||decide (b>=(up.length:Int)))))=true->y=-1):=by
   cases hc:(decide (a<0)||(decide (b<0)||(decide (a>=(up.length:Int))||decide (b>=(up.length:Int))))) with
   |true=>rw [hc,if_pos rfl] at hm;cases hm;exact ⟨[],by simp,fun _=>rfl⟩
   |
    false=>
    rw [hc,if_neg (by simp)] at hm;cases el:R8 F l with
    |none=>rw [el] at hm;cases hm
    |some low=>rw [el] at hm;exact ⟨low,fun _=>⟨rfl,hm⟩,by simp⟩
  refine ((callsIn_wide (n:=9)).1 (D05 9 (by omega) (by omega) (H4 false c) a b up low y w (fun w' hb=>q0V hUp eu (hl w' hb) (hS' w' hb))
   (fun h=>⟨fun w' hb=>q0V hLow (hlow h).1 (hl w' hb) (hS' w' hb),F,(hlow h).2⟩) hout)).mono ?_
  rintro e w1 ⟨rfl,hb⟩
  exact ⟨rfl,hb⟩
theorem E0t (F:Nat) (hUp:C1 en (f0S F)) (hLow:C1 en (f0E F)):C1 en (k0R F):=by
 intro w S us pl x y hm hsr hS hpl hap;obtain ⟨rfl,c,rfl,h1⟩:=D0Q hsr;refine (z04 F hUp hLow w S c x.1 x.2.1 x.2.2 y hm h1 hS).mono ?_
 rintro e w1 ⟨rfl,hb⟩
 refine ⟨_,S,[],rfl,?_,⟨hb.os,hb.tape,hb.output,hb.size,fun k hk _=>hb.block k hk⟩,⟨hb.size,fun b hb' hn=>⟨hn,hb.block b hb'⟩⟩,fun b h _=>h,fun b h=>Nat.lt_of_lt_of_le (hS b h) hb.size,by intro i j v v' _ hv;simp at hv,by rintro b ⟨v,hv,_⟩;simp at hv⟩;refine e0i (E:=en) (x:=.d (.int .i64)) (r:=[]) ⟨[.int .i64 y],.int .i64 y,[],[],[],rfl,rfl,rfl,r0H rfl,d0N⟩
