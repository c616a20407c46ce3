/- P. Its conditions: none. -/
import Derived.RangeFuncKeeps
import Derived.RangeFuncLeaves
import Derived.WalkKit
import Derived.OwnWalkIn
import Derived.TacticsInMore
import Derived.LoopNIn
import Derived.LoopIn
import Derived.OrdersIn
import Derived.Still
import Derived.StillTactics
import Derived.Test.YtmhooikfkhjijaaGreatYMd
import Derived.Test.YtmhooikfkhjijaaGreatYG24
import Derived.Test.YtmhooikfkhjijaaGreatYX16
set_option linter.all false
set_option maxRecDepth 100000
namespace Go.Proofs.YtmhooikfkhjijaaGreat
open Go.RowKit Go.Shelf Go.Proofs
attribute [local go_sem] Oper.semAt_some
set_option maxHeartbeats 1000000 in
def y0Q (F:Fence)(n:Nat)(b:F.fn 204)(a:F.round=none)(A:Option Addr)(m c:Nat)(q:Int)(w:World):
  CallsIn F n Tryz.prog 204 #[.slice A m c,.int .i64 q] w fun e w'=>e=.returned (.func (.func 219) #[] #[.pointer (some ⟨w.heap.size+1,0,none⟩),.pointer (some ⟨w.heap.size,0,none⟩)])/\w'=(w.alloc (.cells #[.slice A m c] 23)).alloc (.cells #[.int .i64 q] 3):=by
 refine callsIn_of_wp Tryz.func204 rfl b ?_ a;simp only[Tryz.ntmps204,List.size_toArray,List.length_cons,List.length_nil,Nat.reduceAdd,Nat.reduceSub,Array.replicate_succ,Array.replicate_zero,List.push_toArray,List.append_toArray,List.nil_append,List.cons_append]
 gi_wp2
 go_ret
 exact⟨rfl,rfl⟩
section
variable {l n:Nat}{P:Program}{ops:Array Oper}{md:Region.Mode}
def A0T {f:FuncId}{args:Array Value}{w:World}{R:Ending->World->Prop}(h:Calls P f args w R):CallsIn (Fence.wide.inRound l) n P f args w R:=callsIn_wide.2 h
def x0E {o:Oper}{a:Act}{w:World}{K:Act->Prop}{d:Act->World->Prop}{g:Exit->Act->World->Prop}(hd:∀c,o.op≠.defer c)(h:∀a,K a->d a w)(b:o.still P a w K):
  o.wpIn (Fence.wide.inRound l) n P a w d g:=by
 refine⟨fun _ _=>trivial,?_⟩;rw[show(Fence.wide.inRound l).round=some l from rfl,Oper.semAt_eq _ _ _ hd];unfold Oper.still at b;generalize (execOp a.eval o).run P w=r at b ⊢;cases r with
 |ok nx w'=>
  cases nx<;>simp only[Oper.stillUpon]at b<;>try exact b.elim
  case value v=>obtain⟨rfl,h1⟩:=b;exact h _ h1
  case skip=>obtain⟨rfl,h1⟩:=b;exact h _ h1
  case enter f args=>
   obtain⟨rfl,v,h1,i⟩:=b;refine⟨fun h=>by simp[Fence.wide]at h,A0T (h1.mono ?_)⟩
   rintro e j ⟨rfl,rfl⟩
   exact h _ i
 |halt x w'=>simp only[Oper.stillUpon]at b
def v0n {i:Nat}{a:Act}{w:World}{K:Act->Prop}{e:Act->World->Prop}{f:Exit->Act->World->Prop}(hd:∀o∈ops.toList,∀c,o.op≠.defer c)(h:∀a,K a->e a w)(b:stOp P ops w i K a):
  wpOpIn (Fence.wide.inRound l) n P ops f i e a w:=by
 unfold stOp at b;unfold wpOpIn;split
 ·rename_i d;simp only[d]at b;exact h _ b
 ·rename_i o d;simp only[d]at b;split
  ·rename_i hw;simp only[hw,if_true]at b;exact x0E (hd o (by have:=Array.mem_of_getElem? d;simpa using this)) h b
  ·rename_i hw;simp only[hw]at b;exact⟨fun _ _=>trivial,h _ b⟩
def p0O {w:World}{Q:Act->Prop}{e:Exit->Act->World->Prop}(hd:∀o∈ops.toList,∀c,o.op≠.defer c)(d:∀a,Q a->e .normal a w):∀(fuel:Nat) (b:Array Bool) (a:Act),
  wpAnyS P md ops w Q fuel b a->wpAnyIn (Fence.wide.inRound l) n P md ops e fuel b a w
 |0,_,_,h=>⟨h.1,d _ h.2⟩
 |fuel+1,_,_,h=>⟨fun g=>d _ (h.1 g),fun i hi=>v0n hd (fun f=>p0O hd d fuel _ f) (h.2 i hi)⟩
def z0U {id:Nat}{Q:Exit->Act->World->Prop}{a:Act}{w:World}{xs:List Oper}(hm:P.follows .mixedOrders=true)(hd:∀o∈xs,∀c,o.op≠.defer c)(d:Region.lexB .any xs.toArray=true)
  (h:wpStill P xs.toArray { w with drawn:=w.drawn+1 } (fun b=>Q .normal b { w with drawn:=w.drawn+1 }) xs a):(Code.region id xs.toArray true).wpIn (Fence.wide.inRound l) n P Q a w:=by
 simp only[Region.lexB,Bool.and_eq_true]at d;refine wpIn_region_any hm (p0O (Q:=fun b=>Q .normal b { w with drawn:=w.drawn+1 }) (by simpa using hd) (fun _ h=>h) _ _ _ ?_);have:=wpAnyS_lex (md:=.any) d.1 xs 0 (Array.replicate xs.toArray.size false) a (by simp) (by simpa using d.2) h;simpa using this
end
def y0f {P:Nat->Prop}:∀k,P k->∃k,P k/\∀j,P j->k<=j:=by
 intro k
 induction k using Nat.strongRecOn with
 |ind k ih=>
  intro hk
  by_cases h:∃j,P j/\j<k
  ·obtain⟨j,b,a⟩:=h;exact ih j a b
  ·exact⟨k,hk,fun j b=>Nat.le_of_not_lt (fun a=>h ⟨j,b,a⟩)⟩
open Classical in
noncomputable def muW (J:Nat->World->Prop)(W:World):Nat:=if h:∃k,J k W/\∀j,J j W->k<=j then Classical.choose h else 0
def q01 {J:Nat->World->Prop}{W:World}{k:Nat}(h:J k W):J (muW J W) W/\muW J W<=k:=by
 have a:∃k,J k W/\∀j,J j W->k<=j:=y0f (P:=fun k=>J k W) k h;unfold muW;rw[dif_pos a];have:=Classical.choose_spec a;exact⟨this.1,this.2 k h⟩
set_option maxHeartbeats 1000000 in
def w0Z (F:Fence)(n:Nat)(p:F.fn 219)(h:F.round=none)(hn:1<=n)(l Bq i:Nat)(a0:Addr)(m c:Nat)(J:Nat->Int->World->Prop)(j:World->Prop)
  (s:∀k q W,J k q W->W.cell? ⟨Bq,0,none⟩=some (.int .i64 q))
  (x:∀k q W,J k q W->0<=q->YieldAt F (n-1) Tryz.prog l #[.int .i64 q] W fun e a=>
   (e=.returned (.bool true)/\∃q' o,a.cell? ⟨Bq,0,none⟩=some (.int .i64 q)/\a.frozen? ⟨Bq,0,none⟩=false/\a.cell? ⟨i,0,none⟩=some (.slice (some a0) m c)/\q<m/\a.cell? (a0.add q.toNat)=some (.int .i64 q')/\o<k/\J o q' (a.setCell ⟨Bq,0,none⟩ (.int .i64 q')))
   \/(e=.returned (.bool false)/\j a))
  (W:World) (k:Nat) (q:Int) (y:J k q W):CallsIn F n Tryz.prog 219 #[.func (.yield l) #[] #[],.pointer (some ⟨Bq,0,none⟩),.pointer (some ⟨i,0,none⟩)] W fun e a=>(∃v,e=.returned v)/\((∃k q,q<0/\J k q a)\/j a):=by
 refine callsIn_of_wp Tryz.func219 rfl p ?_ h;simp only[Tryz.ntmps219,List.size_toArray,List.length_cons,List.length_nil,Nat.reduceAdd,Nat.reduceSub,Array.replicate_succ,Array.replicate_zero,List.push_toArray,List.append_toArray,List.nil_append,List.cons_append]
 gi_wp2
 gi_loopw [] (fun wr=>∃k q,J k q wr) (fun wr=>muW (fun k w=>∃q,J k q w) wr)
 case atStart=>exact⟨k,q,y⟩
 case round=>
  obtain⟨C,u,g⟩:=hrel;obtain⟨⟨f,b⟩,_⟩:=q01 (J:=fun k w=>∃q,J k q w) ⟨u,g⟩;have z:=s _ _ _ b
  by_cases d:f<0
  ·have hd:decide (f>=0)=false:=by simp;omega
   gi_wp2
   go_end0
   exact⟨⟨_,rfl⟩,.inl ⟨_,_,d,b⟩⟩
  ·have hd:decide (f>=0)=true:=by simp;omega
   obtain⟨fn,tmps,assign,body,I,hR⟩:=x _ _ _ b (by omega)
   gi_wp2
   refine hR.mono ?_
   rintro e U (⟨rfl,q3,k3,hq3,hf3,hu3,hlt,hc3,hk3,hJ3⟩|⟨rfl,hJx3⟩)
   ·have t:0<=f:=by omega
    gi_wp2
    go_roundw
    case rel=>exact⟨k3,q3,hJ3⟩
    case measure=>exact Nat.lt_of_le_of_lt (q01 (J:=fun k w=>∃q,J k q w) ⟨q3,hJ3⟩).2 hk3
   ·gi_wp2
    refine bodyPost_ret (results_none rfl _ _ _) rfl ?_;exact⟨⟨_,rfl⟩,.inr hJx3⟩
open Go.V hiding Row
open Go.X
def SlI (H:K0)(lo:Nat)(v:Value)(y:List Int):Prop:=(y=[]/\∃a,v=.slice a 0 0)\/
 ∃g cap cur,v=.slice (some ⟨g,0,none⟩) y.length cap/\lo<=g/\H[g]?=some (.cells cur 3 (0,0))/\∀i:Nat,i<y.length->cur[i]?=some (.int .i64 (y.getD i 0))
def SlI.form {H:K0}{lo:Nat}{v:Value}{y:List Int}(h:SlI H lo v y):∃A c,v=.slice A y.length c:=by
 rcases h with⟨rfl,a,rfl⟩|⟨g,cap,cur,rfl,_⟩
 ·exact⟨a,0,rfl⟩
 ·exact⟨_,_,rfl⟩
def SlI.of {E:Env}{H:K0}{S:D0}{lo:Nat}{v:Value}{y:List Int}{cs:List Value}(f:Row H 3 (J0 E (.int .i64)).sz v y.length cs)(he:U1 (J0 E (.int .i64)) H S cs y)(b:∀k,D1 v=some k->lo<=k):SlI H lo v y:=by
 obtain⟨o,⟨h1,a,rfl⟩|⟨g,cap,cur,rfl,j,hg,hn,hm,m,e⟩⟩:=f
 ·exact .inl ⟨List.eq_nil_of_length_eq_zero h1,a,rfl⟩
 ·refine .inr ⟨g,cap,cur,rfl,b g (by cases cap with|zero=>omega|succ c=>rfl),hg,fun i hi=>?_⟩;have h1:=he.2 i (y.getD i 0) (by rw[show y.getD i 0=y[i]from by simp[List.getD,hi]];exact List.getElem?_eq_getElem hi);have h:(J0 E (.int .i64)).sz=1:=rfl;have h1:(cs.drop (i*1)).take 1=[.int .i64 (y.getD i 0)]:=h1;rw[Nat.mul_one]at h1;have hl:(cur.toList.take (y.length*1))=cs:=e;rw[Nat.mul_one]at hl;have d:cs[i]?=some (.int .i64 (y.getD i 0)):=by
   have:=congrArg (fun l=>l[0]?) h1;simpa using this
  rw[<-hl,List.getElem?_take_of_lt hi]at d;simpa using d
def q0V {f:Nat}{m:List C0->Option (List Int)}(h:C1 en ⟨f,[.d (.list (.st 0))],.own 3 (.int .i64),[],m⟩){w:World}{S:D0}{l:List C0}{y:List Int}{c:List Value}
  (hm:m l=some y) (hl:SR en w.heap S (.d (.list (.st 0))) l c []) (I:∀b,S b->b<w.heap.size):
  Calls en.P f #[H4 false c] w fun e w1=>∃v,e=.returned v/\SlI w1.heap w.heap.size v y/\Q8 Q5 w w1:=by
 refine(h w S [H4 false c] [] l y hm (e0i ⟨c,H4 false c,[],[],[],rfl,rfl,rfl,hl,d0N⟩) I (by rintro b ⟨v,p,_⟩;simp at p) (by intro i j v v' _ p;simp at p)).mono ?_
 rintro e w1 ⟨v,S1,pl1,rfl,a,hb,hk,hs1,hs2,hap,hbl⟩
 have a:I3 en w1.heap S1 [.own 3 (.int .i64)] y [v] pl1:=a;unfold I3 at a;obtain⟨c1,u,J,p1,p2,e0,rfl,x,h1,C⟩:=a;cases e0;obtain⟨_,rfl⟩:=d04 C;unfold SR at h1;obtain⟨v1,cs,rfl,rfl,U,g,o⟩:=h1;have x:v=v1:=x;subst x;refine⟨v,rfl,SlI.of g o (fun k hk=>?_),⟨hb.os,hb.tape,hb.output,hb.size,fun k hk _=>hb.block k hk (by rintro⟨v,p,_⟩;simp at p)⟩⟩;have z:Bk v k:=by
  obtain⟨A,cc,s⟩:=Row.form g;rw[s]at hk ⊢;exact hk
 rcases(hbl k ⟨v,by simp,z⟩).2 with⟨v2,t,_⟩|h
 ·simp at t
 ·exact h
structure JW (W0:World)(Bq R:Nat)(q r:Int)(lo:Obj)(W:World):Prop where
 os:W.os=W0.os
 tape:W.tape=W0.tape
 output:W.output=W0.output
 size:W.heap.size=W0.heap.size+2
 bq:W.heap[Bq]?=some (.cells #[.int .i64 q] 3 (0,0))
 br:W.heap[R]?=some (.cells #[.int .i64 r] 3 (0,0))
 dd:W.heap[W0.heap.size]?=some (.deferred (some []))
 ll:W.heap[W0.heap.size+1]?=some lo
 rest:∀j,j<W0.heap.size->j≠Bq->j≠R->W.heap[j]?=W0.heap[j]?
def t0i {W:World}{B:Nat}{v a:Value}{t:TypeId}(h:W.heap[B]?=some (.cells #[v] t (0,0))):(W.setCell ⟨B,0,none⟩ a).heap[B]?=some (.cells #[a] t (0,0)):=by
 simp[World.setCell,Array.getElem?_modify,h]
section
variable {W0 W:World}{Bq R:Nat}{q q' r r':Int}{lo lo':Obj}
def JW.y0l (h:JW W0 Bq R q r lo W)(a:Bq≠R)(hl:Bq<W0.heap.size):JW W0 Bq R q' r lo (W.setCell ⟨Bq,0,none⟩ (.int .i64 q')):=by
 have e:∀k,k≠Bq->(W.setCell ⟨Bq,0,none⟩ (.int .i64 q')).heap[k]?=W.heap[k]?:=fun k hk=>Below.heap_setCell W _ _ k hk;exact⟨h.os,h.tape,h.output,by simp[World.setCell];exact h.size,t0i h.bq,(e _ (Ne.symm a)).trans h.br,(e _ (by omega)).trans h.dd,(e _ (by omega)).trans h.ll,fun j b h1 c=>(e _ h1).trans (h.rest j b h1 c)⟩
def JW.r0t (h:JW W0 Bq R q r lo W)(a:Bq≠R)(hl:R<W0.heap.size):JW W0 Bq R q r' lo (W.setCell ⟨R,0,none⟩ (.int .i64 r')):=by
 have e:∀k,k≠R->(W.setCell ⟨R,0,none⟩ (.int .i64 r')).heap[k]?=W.heap[k]?:=fun k hk=>Below.heap_setCell W _ _ k hk;exact⟨h.os,h.tape,h.output,by simp[World.setCell];exact h.size,(e _ a).trans h.bq,t0i h.br,(e _ (by omega)).trans h.dd,(e _ (by omega)).trans h.ll,fun j c h1 b=>(e _ b).trans (h.rest j c h1 b)⟩
def JW.put (h:JW W0 Bq R q r lo W)(hl:Bq<W0.heap.size)(c:R<W0.heap.size):JW W0 Bq R q r lo' (W.putObj (W0.heap.size+1) lo'):=by
 have e:∀k,k≠W0.heap.size+1->(W.putObj (W0.heap.size+1) lo').heap[k]?=W.heap[k]?:=fun k hk=>World.putObj_heap_other hk;exact⟨h.os,h.tape,h.output,by rw[World.putObj_size];exact h.size,(e _ (by omega)).trans h.bq,(e _ (by omega)).trans h.br,(e _ (by omega)).trans h.dd,World.putObj_heap_same (by rw[h.size];omega),fun j a h1 b=>(e _ (by omega)).trans (h.rest j a h1 b)⟩
def JW.drew (h:JW W0 Bq R q r lo W):JW W0 Bq R q r lo { W with drawn:=W.drawn+1 }:=⟨h.os,h.tape,h.output,h.size,h.bq,h.br,h.dd,h.ll,h.rest⟩
end
def C0b (a:Int->Option (V0 Int Int))(W0:World)(Bq R:Nat)(q:Int)(lo:Obj)(a0:Addr)(m:Nat):Exit->Act->World->Prop
 |.normal,_,b=>∃q',a q=some (.next q')/\JW W0 Bq R q 0 lo b/\q<m/\b.cell? (a0.add q.toNat)=some (.int .i64 q')
 |.ret,_,b=>a q=some (.done q)/\JW W0 Bq R q q lo b
 |_,_,_=>False
def j7 {W:World}{B:Nat}{v:Value}{t:TypeId}(h:W.heap[B]?=some (.cells #[v] t (0,0))):W.cell? ⟨B,0,none⟩=some v/\W.frozen? ⟨B,0,none⟩=false:=by
 constructor<;>simp[World.cell?,World.frozen?,h]
def q0f {W:World}{g k:Nat}{cur:Array Value}{t:TypeId}{v:Value}(h:W.heap[g]?=some (.cells cur t (0,0)))(a:cur[k]?=some v):W.cell? ((⟨g,0,none⟩:Addr).add k)=some v:=by
 cases k<;>simp[World.cell?,Addr.add,h,a]
def m0v (W:World)(v:Value)(t:TypeId):(W.alloc (.cells #[v] t)).cell? ⟨W.heap.size,0,none⟩=some v/\(W.alloc (.cells #[v] t)).frozen? ⟨W.heap.size,0,none⟩=false:=
 j7 (World.alloc_heap_new W _)
def E0p {F:Fence}{n:Nat}{g:Operand}{ps:Array Tmp}{assign body:Code}{Q:Exit->Act->World->Prop}{a:Act}{w:World}(a1:F.round=none)(h3:3<=n)(b3:F.fn 219)(c8:ps.size=1)
  {Bq z R m c:Nat} {a0:Addr} {q0 res:Int} (hg:a.eval g=.func (.func 219) #[] #[.pointer (some ⟨Bq,0,none⟩),.pointer (some ⟨z,0,none⟩)])
  (o:Bq<w.heap.size) (c4:Bq≠R) (hR:R<w.heap.size) (c3:z<w.heap.size) (b4:z≠Bq) (b1:z≠R)
  (c5:w.heap[Bq]?=some (.cells #[.int .i64 q0] 3 (0,0))) (c0:w.heap[R]?=some (.cells #[.int .i64 0] 3 (0,0))) (e2:w.heap[z]?=some (.cells #[.slice (some a0) m c] 23 (0,0)))
  {d:Int->Option (V0 Int Int)} {k:Nat} (hk:iter d k q0=some res) (b5:∀q,q<0->d q=some (.done (-1))) (a₁:Int->Act)
  (u:∀(l:Nat) (q:Int) (W:World) (K:Act->World->Prop),K (a₁ q) W->
   assign.wpIn (F.inRound l) (n-1-1) Tryz.prog (Exit.then K (fun _ _ _=>False)) { tmps:=(ps.zip #[.int .i64 q]).foldl (fun t (p,v)=>t.setIfInBounds p v) a.tmps,defers:=[] } W)
  (C:∀(l:Nat) (q:Int) (lo:Obj) (W:World),JW w Bq R q 0 lo W->d q≠none->0<=q->body.wpIn (F.inRound l) (n-1-1) Tryz.prog (C0b d w Bq R q lo a0 m) (a₁ q) W)
  (I:∀(q:Int) (lo:Obj) (W:World),JW w Bq R q 0 lo W->res=-1->Q .normal { a with defers:={ target:=.collected w.heap.size,args:=#[] } :: a.defers } W)
  (J:∀(q:Int) (lo:Obj) (W:World),JW w Bq R q res lo W->Code.ret.wpIn F n Tryz.prog Q { a with defers:={ target:=.collected w.heap.size,args:=#[] } :: a.defers } W):
  (Code.rangeFunc g ps assign body).wpIn F n Tryz.prog Q a w:=by
 refine wpIn_rangeFunc ?_;intro fn c6;rw[a1];obtain⟨rec,b⟩:∃rec:LoopState->Option Code->Loop,rec=fun st pe=>{ state:=st,pending:=pe,fn,tmps:=a.tmps,params:=ps,assign,body,defers:=w.heap.size }:=⟨_,rfl⟩
 obtain⟨y,f⟩:∃y,(w.alloc (.deferred (some []))).alloc (.loop (rec .ready none))=y:=⟨_,rfl⟩
 have hold:∀j,j<w.heap.size->y.heap[j]?=w.heap[j]?:=fun j s=>by
  rw[<-f];exact(Below.heap_alloc _ _ _ (by simp;omega)).trans (Below.heap_alloc _ _ _ s)
 have e1:JW w Bq R q0 0 (.loop (rec .ready none)) y:=by
  refine⟨by rw[<-f];rfl,by rw[<-f];rfl,by rw[<-f];rfl,by rw[<-f];simp,(hold _ o).trans c5,(hold _ hR).trans c0,?_,?_,fun j s _ _=>hold j s⟩
  ·rw[<-f];exact(Below.heap_alloc _ _ _ (by simp)).trans (World.alloc_heap_new w _)
  ·rw[<-f];have:=World.alloc_heap_new (w.alloc (.deferred (some []))) (.loop (rec .ready none));rwa [World.size_alloc]at this
 have eg:∀args w,(callFunc 219 args).run Tryz.prog w=.ok (.enter 219 args) w:=enters_of Tryz.func219 (by kernel_rfl) rfl;refine⟨w.heap.size+1,[{ target:=.collected w.heap.size,args:=#[] }],y,{ target:=.fn (.func 219) #[.pointer (some ⟨Bq,0,none⟩),.pointer (some ⟨z,0,none⟩)],args:=#[.func (.yield (w.heap.size+1)) #[] #[]] },y,219,
  #[.func (.yield (w.heap.size+1)) #[] #[],.pointer (some ⟨Bq,0,none⟩),.pointer (some ⟨z,0,none⟩)],y,?_,?_,?_,?_,fun _=>by omega,?_⟩
 ·rw[<-f,b];exact run_enterLoop_outer _ _ _ _ _
 ·simp only[resolve,hg];simp[go_sem]
 ·intro f' b2;simp[Target.leads]at b2;subst b2;exact b3
 ·simp[invoke,go_sem,eg]
 ·refine(w0Z F (n-1) b3 a1 (by omega) (w.heap.size+1) Bq z a0 m c (fun k q W=>iter d k q=some res/\JW w Bq R q 0 (.loop (rec .ready none)) W) (fun W=>∃q,JW w Bq R q res (.loop (rec .done (some .ret))) W)
   (fun k q W h=>(j7 h.2.bq).1) ?_ y k q0 ⟨hk,e1⟩).mono ?_
  ·rintro k q W ⟨i,s⟩ hq
   cases k with
   |zero=>cases i
   |succ k=>
    have hy:=run_yield (P:=Tryz.prog) (args:=#[.int .i64 q]) s.ll (by rw[b];simp[c8]);have hs:d q≠none:=fun e=>by simp[iter,e]at i
    rw[b]at hy;refine⟨fn,_,assign,body,hy,roundIn_of_wpIn c6 (u _ q W _ ⟨_,run_beginRound s.ll (by rw[b]),?_⟩)⟩;refine wpIn_mono (C _ q _ _ (s.put o hR) hs hq) ?_
    rintro e a3 W3 hp
    cases e with
    |normal=>
     obtain⟨q',h1,U,h3,h4⟩:=hp;have he:=run_endRound (P:=Tryz.prog) none U.ll;have x:=U.put (lo':=.loop (rec .ready none)) o hR;rw[b]at he x ⊢;refine⟨_,_,he,.inl ⟨rfl,q',k,(j7 x.bq).1,(j7 x.bq).2,(j7 ((x.rest _ c3 b4 b1).trans e2)).1,h3,?_,by omega,by simpa[iter,h1]using i,x.y0l c4 o⟩⟩;exact cell_kept h4 (grownBy_putObj' _ (w.heap.size+1) _) (fun r e=>by cases e;exact⟨_,U.ll,rfl⟩)
    |ret=>
     obtain⟨h1,U⟩:=hp;have he:=run_endRound (P:=Tryz.prog) (some .ret) U.ll;have x:=U.put (lo':=.loop (rec .done (some .ret))) o hR;have hr:q=res:=by simpa[iter,h1]using i
     subst hr;rw[b]at he x ⊢;exact⟨_,_,he,.inr ⟨rfl,q,x⟩⟩
    |exit id=>exact hp.elim
    |goto t=>exact hp.elim
    |panic ch=>exact hp.elim
    |outgrown=>exact hp.elim
  ·rintro e W2 ⟨⟨v,rfl⟩,(⟨k,q,hq,i,s⟩|⟨q,s⟩)⟩
   ·have hr:res=-1:=by
     cases k with
     |zero=>cases i
     |succ k=>simpa[iter,b5 q hq,eq_comm]using i
    have he:=run_endLoop (P:=Tryz.prog) s.ll (by rw[b];simp);rw[b]at he;exact⟨none,_,he,I _ _ _ (s.put o hR) hr⟩
   ·have he:=run_endLoop (P:=Tryz.prog) s.ll (by rw[b];simp);rw[b]at he;exact⟨some .ret,_,he,J _ _ _ (s.put o hR)⟩
def O0q (u v z:Value):#[u,v,z]++Array.replicate (Tryz.f184.ntmps - #[u,v,z].size) undef=#[u,v,z,undef,undef,undef,undef,undef,undef,undef,undef,undef,undef,undef,undef,undef,undef,undef,undef,undef,undef,undef,undef,undef,undef,undef,undef,undef,undef,undef,undef,undef,undef,undef,undef,undef,undef,undef,undef,undef,undef,undef,undef,undef,undef,undef,undef,undef]:=by
 apply Array.ext';simp[Tryz.ntmps184,List.replicate]
set_option maxHeartbeats 4000000 in
def D05 (n:Nat)(h1:1<=n)(h3:3<=n)(u:Value)(a b:Int)(up low:List Int)(res:Int)(w:World)
  (b2:∀w',Below w.heap.size w w'->Calls Tryz.prog 193 #[u] w' fun e w1=>∃v,e=.returned v/\SlI w1.heap w'.heap.size v up/\Q8 Q5 w' w1)
  (h8:(decide (a<0)||(decide (b<0)||(decide (a>=(up.length:Int))||decide (b>=(up.length:Int)))))=false->(∀w',Below w.heap.size w w'->Calls Tryz.prog 100 #[u] w' fun e w1=>∃v,e=.returned v/\SlI w1.heap w'.heap.size v low/\Q8 Q5 w' w1)/\
   ∃k,iter (a0l up low b) k a=some res)
  (I:(decide (a<0)||(decide (b<0)||(decide (a>=(up.length:Int))||decide (b>=(up.length:Int)))))=true->res=-1):
  CallsIn Fence.wide n Tryz.prog 184 #[u,.int .i64 a,.int .i64 b] w fun e w1=>e=.returned (.int .i64 res)/\Below w.heap.size w w1:=by
 have a1:∀{m:Nat} {f:FuncId} {args:Array Value} {w:World} {R:Ending->World->Prop},Calls Tryz.prog f args w R->CallsIn Fence.wide m Tryz.prog f args w R:=fun h=>callsIn_wide.2 h;have c4:Fence.wide.round=none:=rfl;have f193:Fence.wide.fn 193:=trivial;have f100:Fence.wide.fn 100:=trivial;have f204:Fence.wide.fn 204:=trivial;have f219:Fence.wide.fn 219:=trivial;have f184:Fence.wide.fn 184:=trivial;generalize hF:Fence.wide=F at *;refine callsIn_of_wp_marks Tryz.func184 rfl f184 ?_ c4;rw[O0q];have b1:Below w.heap.size w ((w.alloc (.cells #[.int .i64 b] 3)).alloc (.cells #[.int .i64 0] 3)):=((Below.refl _ w).alloc (Nat.le_refl _) _).alloc (by simp) _;have cb:=m0v w (.int .i64 b) 3;have cr:=m0v (w.alloc (.cells #[.int .i64 b] 3)) (.int .i64 0) 3;have c:∀{t:World},Q8 Q5 ((w.alloc (.cells #[.int .i64 b] 3)).alloc (.cells #[.int .i64 0] 3)) t->t.heap[w.heap.size]?=some (.cells #[.int .i64 b] 3 (0,0))/\t.heap[w.heap.size+1]?=some (.cells #[.int .i64 0] 3 (0,0))/\Below w.heap.size w t:=by
  intro t y;refine⟨(y.below.block _ (by simp;omega)).trans ?_,(y.below.block _ (by simp)).trans ?_,b1.trans (y.below.mono (by simp;omega))⟩
  ·rw[Below.heap_alloc _ _ _ (by simp)];exact World.alloc_heap_new w _
  ·have:=World.alloc_heap_new (w.alloc (.cells #[.int .i64 b] 3)) (.cells #[.int .i64 0] 3);rwa [World.size_alloc]at this
 have c3:decide (a<0)=true\/(decide (a<0)=false/\decide (b<0)=true)\/(decide (a<0)=false/\decide (b<0)=false/\decide (a>=(up.length:Int))=true)\/
   (decide (a<0)=false/\decide (b<0)=false/\decide (a>=(up.length:Int))=false/\decide (b>=(up.length:Int))=true)\/(decide (a<0)=false/\decide (b<0)=false/\decide (a>=(up.length:Int))=false/\decide (b>=(up.length:Int))=false):=by
  cases decide (a<0)<;>cases decide (b<0)<;>cases decide (a>=(up.length:Int))<;>cases decide (b>=(up.length:Int))<;>simp
 have J:∀(t:World) (tm:Array Value),tm[6]?=some (.pointer (some ⟨w.heap.size+1,0,none⟩))->Q8 Q5 ((w.alloc (.cells #[.int .i64 b] 3)).alloc (.cells #[.int .i64 0] 3)) t->res=-1->
   bodyPostM F n Tryz.prog Tryz.f184 (fun e w1=>e=Ending.returned (Value.int IntKind.i64 res)/\Below w.heap.size w w1) Exit.ret { tmps:=tm,defers:=[] } (t.setCell ⟨w.heap.size+1,0,none⟩ (.int .i64 (-1))):=by
  intro t tm ht y hr;obtain⟨q1,q2,q3⟩:=c y;have hc:=(j7 q2).1;have hs:=World.cell?_setCell_same' t ⟨w.heap.size+1,0,none⟩ (.int .i64 (-1)) (by rw[hc];rfl);refine⟨.int .i64 (-1),?_,?_⟩
  ·simp[results,Tryz.f184,go_sem,hs,ht]
  ·exact⟨by rw[hr],q3.trans ((Below.refl w.heap.size t).setCell (p:=⟨w.heap.size+1,0,none⟩) (by simp) _)⟩
 rcases c3 with ha|⟨ha,hb0⟩|⟨ha,hb0,hc0⟩|⟨ha,hb0,hc0,hd0⟩|⟨ha,hb0,hc0,hd0⟩
 ·have hr:res=-1:=I (by rw[ha];rfl)
  gi_wp2_with (gi_at_call 193;refine(a1 (b2 _ b1)).mono ?_;rintro e t ⟨v,rfl,hv,y⟩;obtain⟨A,cc,rfl⟩:=hv.form;obtain⟨q1,q2,q3⟩:=c y;have b3:=j7 q1;have b4:=j7 q2)
  exact J _ _ rfl y hr
 ·have hr:res=-1:=I (by rw[ha,hb0];rfl)
  gi_wp2_with (gi_at_call 193;refine(a1 (b2 _ b1)).mono ?_;rintro e t ⟨v,rfl,hv,y⟩;obtain⟨A,cc,rfl⟩:=hv.form;obtain⟨q1,q2,q3⟩:=c y;have b3:=j7 q1;have b4:=j7 q2)
  exact J _ _ rfl y hr
 ·have hr:res=-1:=I (by rw[ha,hb0,hc0];rfl)
  gi_wp2_with (gi_at_call 193;refine(a1 (b2 _ b1)).mono ?_;rintro e t ⟨v,rfl,hv,y⟩;obtain⟨A,cc,rfl⟩:=hv.form;obtain⟨q1,q2,q3⟩:=c y;have b3:=j7 q1;have b4:=j7 q2)
  exact J _ _ rfl y hr
 ·have hr:res=-1:=I (by rw[ha,hb0,hc0,hd0];rfl)
  gi_wp2_with (gi_at_call 193;refine(a1 (b2 _ b1)).mono ?_;rintro e t ⟨v,rfl,hv,y⟩;obtain⟨A,cc,rfl⟩:=hv.form;obtain⟨q1,q2,q3⟩:=c y;have b3:=j7 q1;have b4:=j7 q2)
  exact J _ _ rfl y hr
 obtain⟨hL,k,hk⟩:=h8 (by rw[ha,hb0,hc0,hd0];rfl)
 gi_wp2_with (first
  |(gi_at_call 193;refine(a1 (b2 _ b1)).mono ?_;rintro e t ⟨v,rfl,hv,y⟩;obtain⟨A,cc,rfl⟩:=hv.form;obtain⟨q1,q2,q3⟩:=c y;have b3:=j7 q1;have b4:=j7 q2)
  |(gi_at_call 100;refine(a1 (hL _ q3)).mono ?_;rintro e d ⟨v4,rfl,hv4,hb4⟩;obtain⟨A4,s,rfl⟩:=hv4.form;have c8:=m0v d (.slice none 0 0) 23)
  |(gi_at_call 204;refine(y0Q F _ f204 c4 _ _ _ _ _).mono ?_;rintro e w5 ⟨rfl,rfl⟩))
 have l3:¬a<0:=of_decide_eq_false ha;have i1:¬a>=(up.length:Int):=of_decide_eq_false hc0;obtain⟨g,hA,k5,cur,hg,e5⟩:∃g,A=some ⟨g,0,none⟩/\w.heap.size+2<=g/\∃cur,t.heap[g]?=some (.cells cur 3 (0,0))/\∀i:Nat,i<up.length->cur[i]?=some (.int .i64 (up.getD i 0)):=by
  rcases hv with⟨h0,_⟩|⟨g,cap,cur,h1,h2,h3,h4⟩
  ·rw[h0]at i1;simp at i1;omega
  ·cases h1;exact⟨g,rfl,by simp at h2;omega,cur,h3,h4⟩
 subst hA;have l2:g<t.heap.size:=(Array.getElem?_eq_some_iff.1 hg).1;have k4:t.heap.size<=d.heap.size:=hb4.size;have l1:w.heap.size+1<t.heap.size:=(Array.getElem?_eq_some_iff.1 q2).1;have hold:∀(j:Nat),j<d.heap.size->(((d.alloc (.cells #[.slice A4 low.length s] 23)).alloc (.cells #[.slice (some ⟨g,0,none⟩) up.length cc] 23)).alloc (.cells #[.int .i64 a] 3)).heap[j]?=d.heap[j]?:=fun j z=>
  (Below.heap_alloc _ _ _ (by simp;omega)).trans ((Below.heap_alloc _ _ _ (by simp;omega)).trans (Below.heap_alloc _ _ _ z))
 have k3:(((d.alloc (.cells #[.slice A4 low.length s] 23)).alloc (.cells #[.slice (some ⟨g,0,none⟩) up.length cc] 23)).alloc (.cells #[.int .i64 a] 3)).heap[d.heap.size]?=some (.cells #[.slice A4 low.length s] 23 (0,0)):=
  (Below.heap_alloc _ _ _ (by simp;omega)).trans ((Below.heap_alloc _ _ _ (by simp)).trans (World.alloc_heap_new _ _))
 have j3:(((d.alloc (.cells #[.slice A4 low.length s] 23)).alloc (.cells #[.slice (some ⟨g,0,none⟩) up.length cc] 23)).alloc (.cells #[.int .i64 a] 3)).heap[d.heap.size+1]?=some (.cells #[.slice (some ⟨g,0,none⟩) up.length cc] 23 (0,0)):=by
  refine(Below.heap_alloc _ _ _ (by simp)).trans ?_;have:=World.alloc_heap_new (d.alloc (.cells #[.slice A4 low.length s] 23)) (.cells #[.slice (some ⟨g,0,none⟩) up.length cc] 23);rwa [World.size_alloc]at this
 have k2:(((d.alloc (.cells #[.slice A4 low.length s] 23)).alloc (.cells #[.slice (some ⟨g,0,none⟩) up.length cc] 23)).alloc (.cells #[.int .i64 a] 3)).heap[d.heap.size+1+1]?=some (.cells #[.int .i64 a] 3 (0,0)):=by
  have:=World.alloc_heap_new ((d.alloc (.cells #[.slice A4 low.length s] 23)).alloc (.cells #[.slice (some ⟨g,0,none⟩) up.length cc] 23)) (.cells #[.int .i64 a] 3);rwa [World.size_alloc,World.size_alloc]at this
 have j0:(((d.alloc (.cells #[.slice A4 low.length s] 23)).alloc (.cells #[.slice (some ⟨g,0,none⟩) up.length cc] 23)).alloc (.cells #[.int .i64 a] 3)).heap.size=d.heap.size+3:=by simp
 have c6:Below w.heap.size w (((d.alloc (.cells #[.slice A4 low.length s] 23)).alloc (.cells #[.slice (some ⟨g,0,none⟩) up.length cc] 23)).alloc (.cells #[.int .i64 a] 3)):=
  ((((q3.trans (hb4.below.mono (by omega))).alloc (by omega) _).alloc (by simp;omega) _).alloc (by simp;omega) _)
 generalize (((d.alloc (.cells #[.slice A4 low.length s] 23)).alloc (.cells #[.slice (some ⟨g,0,none⟩) up.length cc] 23)).alloc (.cells #[.int .i64 a] 3))=W0 at *;have k1:W0.heap[w.heap.size]?=some (.cells #[.int .i64 b] 3 (0,0)):=(hold _ (by omega)).trans ((hb4.below.block _ (by omega)).trans q1);have j2:W0.heap[w.heap.size+1]?=some (.cells #[.int .i64 0] 3 (0,0)):=(hold _ (by omega)).trans ((hb4.below.block _ (by omega)).trans q2);have j1:W0.heap[g]?=some (.cells cur 3 (0,0)):=(hold _ (by omega)).trans ((hb4.below.block _ (by omega)).trans hg);have c0:∀{q r:Int} {lo:Obj} {W:World},JW W0 (d.heap.size+1+1) (w.heap.size+1) q r lo W->Below w.heap.size w W:=fun h=>
  c6.trans ⟨h.os,h.tape,h.output,by rw[h.size];omega,fun j z=>h.rest j (by omega) (by omega) (by omega)⟩
 have b5:∀{W:World} {r:Nat} {o:Obj},w.heap.size<=r->Below w.heap.size W (W.putObj r o):=fun h=>⟨rfl,rfl,rfl,by simp,fun j z=>World.putObj_heap_other (by omega)⟩
 refine E0p c4 h3 f219 rfl rfl (by omega) (by omega) (by omega) (by omega) (by omega) (by omega) k2 j2 j3 hk (fun q hq=>by simp[a0l];omega)
  (fun x=>{ tmps:=#[u,.int .i64 a,.int .i64 b,undef,undef,.pointer (some ⟨w.heap.size,0,none⟩),.pointer (some ⟨w.heap.size+1,0,none⟩),.slice (some ⟨g,0,none⟩) up.length cc,.pointer (some ⟨d.heap.size,0,none⟩),.int .i64 x,u,.slice (some ⟨g,0,none⟩) up.length cc,
   .int .i64 a,.bool false,.bool false,.int .i64 b,.bool false,.bool false,.bool false,.int .i64 a,.slice (some ⟨g,0,none⟩) up.length cc,.int .i64 up.length,.bool false,.bool false,.bool false,.int .i64 b,.slice (some ⟨g,0,none⟩) up.length cc,.int .i64 up.length,.bool false,.bool false,
   u,.slice A4 low.length s,.slice (some ⟨g,0,none⟩) up.length cc,.int .i64 a,.func (.func 219) #[] #[.pointer (some ⟨d.heap.size+1+1,0,none⟩),.pointer (some ⟨d.heap.size+1,0,none⟩)],.int .i64 x,
   undef,undef,undef,undef,undef,undef,undef,undef,undef,undef,undef,undef],defers:=[] }) ?assign ?body ?done ?stop
 case assign=>
  intro l x W K hK
  gi_wp2
  exact hK
 case body=>
  intro l q lo W z hs hq;subst hF;have e9:B0 low q=true:=by
   cases h:B0 low q
   ·simp[a0l,h,hq]at hs
   ·rfl
  obtain⟨l0,h9⟩:=c0g e9;obtain⟨a4,h4,n0⟩:∃a4,A4=some a4/\W.cell? (a4.add q.toNat)=some (.int .i64 (gt low q)):=by
   rcases hv4 with⟨h0,_⟩|⟨g4,cap,cur4,e1,e2,e3,e4⟩
   ·rw[h0]at h9;simp at h9;omega
   ·cases e1;refine⟨_,rfl,?_⟩;have k0:g4<d.heap.size:=(Array.getElem?_eq_some_iff.1 e3).1;have:=(z.rest g4 (by omega) (by omega) (by omega)).trans ((hold _ k0).trans e3);have h6:=e4 q.toNat (by omega);exact q0f this h6
  subst h4;have k8:=(j7 ((z.rest d.heap.size (by omega) (by omega) (by omega)).trans k3)).1;have kb:=(j7 ((z.rest w.heap.size (by omega) (by omega) (by omega)).trans k1)).1;have kr:=j7 z.br;have U:a0l up low b q=if(decide (gt low q<=b)&&decide (b<=q))=true then some (.done q)else if B0 up q=true then some (.next (gt up q))else none:=by
   unfold a0l;rw[if_pos (decide_eq_true hq),e9];simp only[Bool.true_and]
  cases e1:decide (gt low q<=b)
  all_goals cases e2:decide (b<=q)
  all_goals gi_wp2
  all_goals refine z0U b0N.mix (by simp) (by kernel_rfl) ?_
  all_goals (repeat still_step)
  all_goals refine wpStill_nil ?_
  all_goals gi_wp2
  all_goals rw[e1,e2]at U
  all_goals first
   |exact⟨U,z.drew.r0t (by omega) (by omega)⟩
   |have h7:B0 up q=true:=by
     cases h:B0 up q with
     |false=>rw[h]at U;exact absurd U hs
     |true=>rfl
    obtain⟨_,k6⟩:=c0g h7;rw[h7]at U;exact⟨gt up q,U,z.drew,by omega,q0f ((z.drew.rest g (by omega) (by omega) (by omega)).trans j1) (e5 q.toNat (by omega))⟩
 case done=>
  intro q lo W z hr;have l4:=j7 z.br
  gi_wp2
  have h5:=z.r0t (r':=-1) (by omega) (by omega);have C:=h5.dd;rw[j0]at C;refine⟨by simp,.inl ⟨_,_,rfl,run_takeDeferred C,?_⟩⟩;have c5:=cell_kept (j7 h5.br).1 (grownBy_putObj' _ (d.heap.size+3) (.deferred none)) (fun r e=>by cases e;exact⟨_,C,rfl⟩);refine⟨.int .i64 (-1),?_,by rw[<-hr],?_⟩
  ·simp[results,Tryz.f184,go_sem,c5]
  ·exact(c0 h5).trans (b5 (by omega))
 case stop=>
  intro q lo W z
  gi_wp2
  have C:=z.dd;rw[j0]at C;refine⟨by simp,.inl ⟨_,_,rfl,run_takeDeferred C,?_⟩⟩;have c5:=cell_kept (j7 z.br).1 (grownBy_putObj' _ (d.heap.size+3) (.deferred none)) (fun r e=>by cases e;exact⟨_,C,rfl⟩);refine⟨.int .i64 res,?_,rfl,?_⟩
  ·simp[results,Tryz.f184,go_sem,c5]
  ·exact(c0 z).trans (b5 (by omega))
set_option maxHeartbeats 4000000 in
def D0Q {w:World}{S:D0}{us pl:List Value}{x:S4 en.D [.d (.list (.st 0)),.d (.int .i64),.d (.int .i64)]}(e:I3 en w.heap S [.d (.list (.st 0)),.d (.int .i64),.d (.int .i64)] x us pl):
  pl=[]/\∃c,us=[H4 false c,.int .i64 (show Int from x.2.1),.int .i64 (show Int from x.2.2)]/\(J0 en (.list (.st 0))).R w.heap S c x.1:=by
 skip
 unfold I3 at e;obtain⟨c,u,p,p1,z,rfl,rfl,h,h1,j⟩:=e;unfold I3 at j;obtain⟨c2,o,k,C,y,rfl,rfl,g,b,i⟩:=j;unfold I3 at i;obtain⟨c3,m,s,v,I,rfl,rfl,f,a,t⟩:=i;obtain⟨rfl,rfl⟩:=d04 t;unfold SR at h1 b a;obtain⟨rfl,h1⟩:=h1;obtain⟨rfl,b⟩:=b;obtain⟨rfl,a⟩:=a;have b:c2=[.int .i64 (show Int from x.2.1)]:=b;have a:c3=[.int .i64 (show Int from x.2.2)]:=a;subst b;subst a;have h:u=H4 false c:=h;have g:o=.int .i64 (show Int from x.2.1):=g;have f:m=.int .i64 (show Int from x.2.2):=f;subst h;subst g;subst f;exact⟨rfl,c,rfl,h1⟩
def r0H {E:Env}{H:K0}{S:D0}{t:U}{x:D6 E.D (.d t)}{c:List Value}(h:(J0 E t).R H S c x):SR E H S (.d t) x c []:=by
 unfold SR;exact⟨rfl,h⟩
def z04 (F:Nat)(o:C1 en (f0S F))(i:C1 en (f0E F))(w:World)(S:D0)(c:List Value)(l:List C0)(a b y:Int)(hm:e0Y F l a b=some y)
  (h1:(J0 en (.list (.st 0))).R w.heap S c l) (u:∀b,S b->b<w.heap.size):
  Calls Tryz.prog 184 #[H4 false c,.int .i64 a,.int .i64 b] w fun e w1=>e=.returned (.int .i64 y)/\Below w.heap.size w w1:=by
 have hl:∀w',Below w.heap.size w w'->SR en w'.heap S (.d (.list (.st 0))) l c []:=fun w' f=>by
  exact r0H (t:=.list (.st 0)) ((J0 en (.list (.st 0))).L1 ⟨f.size,fun b m hn=>⟨hn,f.block b m⟩⟩ h1)
 have k:∀w',Below w.heap.size w w'->∀b,S b->b<w'.heap.size:=fun w' f b h=>Nat.lt_of_lt_of_le (u b h) f.size;unfold e0Y at hm;cases p:S9 F l with
 |none=>rw[p]at hm;cases hm
 |some up=>
  rw[p]at hm;have hm:(if(decide (a<0)||(decide (b<0)||(decide (a>=(up.length:Int))||decide (b>=(up.length:Int)))))=true then some (-1)else Option.bind (R8 F l) fun low=>iter (a0l up low b) F a)=some y:=hm;obtain⟨low,g,j⟩:∃low:List Int,((decide (a<0)||(decide (b<0)||(decide (a>=(up.length:Int))||decide (b>=(up.length:Int)))))=false->R8 F l=some low/\iter (a0l up low b) F a=some y)/\
    ((decide (a<0)||(decide (b<0)||(decide (a>=(up.length:Int))||decide (b>=(up.length:Int)))))=true->y=-1):=by
   cases s:(decide (a<0)||(decide (b<0)||(decide (a>=(up.length:Int))||decide (b>=(up.length:Int)))))with
   |true=>rw[s,if_pos rfl]at hm;cases hm;exact⟨[],by simp,fun _=>rfl⟩
   |false=>
    rw[s,if_neg (by simp)]at hm;cases el:R8 F l with
    |none=>rw[el]at hm;cases hm
    |some low=>rw[el]at hm;exact⟨low,fun _=>⟨rfl,hm⟩,by simp⟩
  refine((callsIn_wide (n:=9)).1 (D05 9 (by omega) (by omega) (H4 false c) a b up low y w (fun w' f=>q0V o p (hl w' f) (k w' f))
   (fun h=>⟨fun w' f=>q0V i (g h).1 (hl w' f) (k w' f),F,(g h).2⟩) j)).mono ?_
  rintro e w1 ⟨rfl,f⟩
  exact⟨rfl,f⟩
def E0t (F:Nat)(m:C1 en (f0S F))(a:C1 en (f0E F)):C1 en (k0R F):=by
 intro w S us pl x y hm o p t s;obtain⟨rfl,c,rfl,h1⟩:=D0Q o;refine(z04 F m a w S c x.1 x.2.1 x.2.2 y hm h1 p).mono ?_
 rintro e w1 ⟨rfl,hb⟩
 refine⟨_,S,[],rfl,?_,⟨hb.os,hb.tape,hb.output,hb.size,fun k hk _=>hb.block k hk⟩,⟨hb.size,fun b g hn=>⟨hn,hb.block b g⟩⟩,fun b h _=>h,fun b h=>Nat.lt_of_lt_of_le (p b h) hb.size,by intro i j v u _ f;simp at f,by rintro b ⟨v,f,_⟩;simp at f⟩;refine e0i (E:=en) (x:=.d (.int .i64)) (r:=[]) ⟨[.int .i64 y],.int .i64 y,[],[],[],rfl,rfl,rfl,r0H rfl,d0N⟩
