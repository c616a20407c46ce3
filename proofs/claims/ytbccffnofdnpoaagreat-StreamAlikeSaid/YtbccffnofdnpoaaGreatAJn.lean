/- P. Its conditions: none. -/
import Derived.RangeFuncKeeps
import Derived.RangeFuncLeaves
import Derived.WalkKit
import Derived.OwnWalkIn
import Derived.TacticsInMore
import Derived.LoopNIn
import Derived.LoopIn
import Derived.OrdersIn
import Derived.Still
import Derived.StillTactics
import Derived.Test.YtbccffnofdnpoaaGreatAMd
import Derived.Test.YtbccffnofdnpoaaGreatAG24
import Derived.Test.YtbccffnofdnpoaaGreatAX16
set_option linter.all false
set_option maxRecDepth 100000
namespace Go.Proofs.YtbccffnofdnpoaaGreat
open Go.RowKit Go.Shelf Go.Proofs
attribute [local go_sem] Oper.semAt_some
set_option maxHeartbeats 1000000 in
def K0c (F:Fence)(n:Nat)(b:F.fn 167)(a:F.round=none)(A:Option Addr)(m c:Nat)(q:Int)(w:World):
  CallsIn F n Tryz.prog 167 #[.slice A m c,.int .i64 q] w fun e w'=>e=.returned (.func (.func 187) #[] #[.pointer (some ⟨w.heap.size+1,0,none⟩),.pointer (some ⟨w.heap.size,0,none⟩)])/\w'=(w.alloc (.cells #[.slice A m c] 27)).alloc (.cells #[.int .i64 q] 3):=by
 refine callsIn_of_wp Tryz.func167 rfl b ?_ a;simp only[Tryz.ntmps167,List.size_toArray,List.length_cons,List.length_nil,Nat.reduceAdd,Nat.reduceSub,Array.replicate_succ,Array.replicate_zero,List.push_toArray,List.append_toArray,List.nil_append,List.cons_append]
 gi_wp2
 go_ret
 exact⟨rfl,rfl⟩
section
variable {l n:Nat}{P:Program}{ops:Array Oper}{md:Region.Mode}
def M0t {f:FuncId}{args:Array Value}{w:World}{R:Ending->World->Prop}(h:Calls P f args w R):CallsIn (Fence.wide.inRound l) n P f args w R:=callsIn_wide.2 h
theorem D0q {o:Oper}{a:Act}{w:World}{K:Act->Prop}{d:Act->World->Prop}{e:Exit->Act->World->Prop}(hd:∀c,o.op≠.defer c)(h:∀a,K a->d a w)(b:o.still P a w K):
  o.wpIn (Fence.wide.inRound l) n P a w d e:=by
 refine⟨fun _ _=>trivial,?_⟩;rw[show(Fence.wide.inRound l).round=some l from rfl,Oper.semAt_eq _ _ _ hd];unfold Oper.still at b;generalize (execOp a.eval o).run P w=r at b ⊢;cases r with
 |ok nx w'=>
  cases nx<;>simp only[Oper.stillUpon]at b<;>try exact b.elim
  case value v=>obtain⟨rfl,h1⟩:=b;exact h _ h1
  case skip=>obtain⟨rfl,h1⟩:=b;exact h _ h1
  case enter f args=>
   obtain⟨rfl,v,h1,g⟩:=b;refine⟨fun h=>by simp[Fence.wide]at h,M0t (h1.mono ?_)⟩
   simp_all
 |halt x w'=>simp_all[Oper.stillUpon]
theorem C0I {i:Nat}{a:Act}{w:World}{K:Act->Prop}{d:Act->World->Prop}{f:Exit->Act->World->Prop}(hd:∀o∈ops.toList,∀c,o.op≠.defer c)(h:∀a,K a->d a w)(b:stOp P ops w i K a):
  wpOpIn (Fence.wide.inRound l) n P ops f i d a w:=by
 unfold stOp at b;unfold wpOpIn;split
 ·simp_all
 ·rename_i o e;simp only[e]at b;split
  ·rename_i hw;grind [D0q]
  ·rename_i hw;simp only[hw]at b;exact⟨fun _ _=>trivial,h _ b⟩
def x0G {w:World}{Q:Act->Prop}{d:Exit->Act->World->Prop}(hd:∀o∈ops.toList,∀c,o.op≠.defer c)(b:∀a,Q a->d .normal a w):∀(fuel:Nat) (listed:Array Bool) (a:Act),
  wpAnyS P md ops w Q fuel listed a->wpAnyIn (Fence.wide.inRound l) n P md ops d fuel listed a w
 |0,_,_,h=>⟨h.1,b _ h.2⟩
 |fuel+1,_,_,h=>⟨fun e=>b _ (h.1 e),fun i hi=>C0I hd (fun f=>x0G hd b fuel _ f) (h.2 i hi)⟩
theorem C09 {id:Nat}{Q:Exit->Act->World->Prop}{a:Act}{w:World}{xs:List Oper}(hm:P.follows .mixedOrders=true)(hd:∀o∈xs,∀c,o.op≠.defer c)(d:Region.lexB .any xs.toArray=true)
  (h:wpStill P xs.toArray { w with drawn:=w.drawn+1 } (fun b=>Q .normal b { w with drawn:=w.drawn+1 }) xs a):(Code.region id xs.toArray true).wpIn (Fence.wide.inRound l) n P Q a w:=by
 simp only[Region.lexB,Bool.and_eq_true]at d;refine wpIn_region_any hm (x0G (Q:=fun b=>Q .normal b { w with drawn:=w.drawn+1 }) O' (fun _ h=>h) _ _ _ ?_)
 grind [wpAnyS_lex]
end
theorem J0N {P:Nat->Prop}:∀k,P k->∃k,P k/\∀j,P j->k<=j:=by
 intro k
 induction k using Nat.strongRecOn with
 |ind k ih=>
  grind
open Classical in
noncomputable def muW (J:Nat->World->Prop)(W:World):Nat:=if h:∃k,J k W/\∀j,J j W->k<=j then Classical.choose h else 0
theorem z0b {J:Nat->World->Prop}{W:World}{k:Nat}(h:J k W):J (muW J W) W/\muW J W<=k:=by
 have a:∃k,J k W/\∀j,J j W->k<=j:=J0N (P:=fun k=>J k W) k h;unfold muW
 grind
set_option maxHeartbeats 1000000 in
def J0t (F:Fence)(n:Nat)(t:F.fn 187)(h:F.round=none)(hn:1<=n)(l Bq o:Nat)(a0:Addr)(m c:Nat)(J:Nat->Int->World->Prop)(j:World->Prop)
  (y:∀k q W,J k q W->W.cell? ⟨Bq,0,none⟩=some (.int .i64 q))
  (p:∀k q W,J k q W->0<=q->YieldAt F (n-1) Tryz.prog l #[.int .i64 q] W fun e a=>
   (e=.returned (.bool true)/\∃q' i,a.cell? ⟨Bq,0,none⟩=some (.int .i64 q)/\a.frozen? ⟨Bq,0,none⟩=false/\a.cell? ⟨o,0,none⟩=some (.slice (some a0) m c)/\q<m/\a.cell? (a0.add q.toNat)=some (.int .i64 q')/\i<k/\J i q' (a.setCell ⟨Bq,0,none⟩ (.int .i64 q')))
   \/(e=.returned (.bool false)/\j a))
  (W:World) (k:Nat) (q:Int) (u:J k q W):CallsIn F n Tryz.prog 187 #[.func (.yield l) #[] #[],.pointer (some ⟨Bq,0,none⟩),.pointer (some ⟨o,0,none⟩)] W fun e a=>(∃v,e=.returned v)/\((∃k q,q<0/\J k q a)\/j a):=by
 refine callsIn_of_wp Tryz.func187 rfl t ?_ h;simp only[Tryz.ntmps187,List.size_toArray,List.length_cons,List.length_nil,Nat.reduceAdd,Nat.reduceSub,Array.replicate_succ,Array.replicate_zero,List.push_toArray,List.append_toArray,List.nil_append,List.cons_append]
 gi_wp2
 gi_loopw [] (fun wr=>∃k q,J k q wr) (fun wr=>muW (fun k w=>∃q,J k q w) wr)
 case atStart=>exact⟨k,q,u⟩
 case round=>
  obtain⟨I,s,g⟩:=hrel;obtain⟨⟨f,b⟩,_⟩:=z0b (J:=fun k w=>∃q,J k q w) ⟨s,g⟩;have hq:=y _ _ _ b
  by_cases d:f<0
  ·have hd:decide (f>=0)=false:=by simp;omega
   gi_wp2
   go_end0
   exact⟨⟨_,rfl⟩,.inl ⟨_,_,d,b⟩⟩
  ·have hd:decide (f>=0)=true:=by simp;omega
   obtain⟨fn,tmps,assign,body,C,hR⟩:=p _ _ _ b O'
   gi_wp2
   refine hR.mono ?_
   rintro e z (⟨rfl,q3,k3,hq3,hf3,hu3,hlt,hc3,hk3,hJ3⟩|⟨rfl,hJx3⟩)
   ·have x:0<=f:=O'
    gi_wp2
    go_roundw
    case rel=>exact⟨k3,q3,hJ3⟩
    case measure=>exact Nat.lt_of_le_of_lt (z0b (J:=fun k w=>∃q,J k q w) ⟨q3,hJ3⟩).2 hk3
   ·gi_wp2
    refine bodyPost_ret (results_none rfl _ _ _) rfl ?_;exact⟨⟨_,rfl⟩,.inr hJx3⟩
open Go.V hiding Row
open Go.X
def SlI (H:M0)(lo:Nat)(v:Value)(y:List Int):Prop:=(y=[]/\∃a,v=.slice a 0 0)\/
 ∃g cap cur,v=.slice (some ⟨g,0,none⟩) y.length cap/\lo<=g/\H[g]?=some (.cells cur 3 (0,0))/\∀i:Nat,i<y.length->cur[i]?=some (.int .i64 (y.getD i 0))
def SlI.form {H:M0}{lo:Nat}{v:Value}{y:List Int}(h:SlI H lo v y):∃A c,v=.slice A y.length c:=by
 rcases h with⟨rfl,a,rfl⟩|⟨g,cap,cur,rfl,_⟩
 ·simp
 simp
theorem SlI.of {E:Env}{H:M0}{S:E0}{lo:Nat}{v:Value}{y:List Int}{cs:List Value}(h:Row H 3 (L0 E (.int .i64)).sz v y.length cs)(he:V1 (L0 E (.int .i64)) H S cs y)(b:∀k,D1 v=some k->lo<=k):SlI H lo v y:=by
 obtain⟨j,⟨h1,a,rfl⟩|⟨g,cap,cur,rfl,o,hg,hn,hm,m,f⟩⟩:=h.inv
 ·exact .inl ⟨List.eq_nil_of_length_eq_zero h1,a,rfl⟩
 ·refine .inr ⟨g,cap,cur,rfl,b g (by cases cap with|zero=>omega|succ c=>rfl),hg,fun i hi=>?_⟩;have h1:=he.2 i (y.getD i 0) (by rw[show y.getD i 0=y[i]from by simp[List.getD,hi]];exact List.getElem?_eq_getElem hi);have e:(L0 E (.int .i64)).sz=1:=rfl;have h1:(cs.drop (i*1)).take 1=[.int .i64 (y.getD i 0)]:=h1;rw[Nat.mul_one]at h1;have hl:(cur.toList.take (y.length*1))=cs:=f;rw[Nat.mul_one]at hl;have d:cs[i]?=some (.int .i64 (y.getD i 0)):=by
   have:=congrArg (fun l=>l[0]?) h1;simpa using this
  rw[<-hl,List.getElem?_take_of_lt hi]at d;simpa using d
def z0H {f:Nat}{m:List D0->Option (List Int)}(h:N0 en ⟨f,[.d (.list (.st 0))],.own 3 (.int .i64),[],m⟩){w:World}{S:E0}{l:List D0}{y:List Int}{c:List Value}
  (hm:m l=some y) (hl:SR en w.heap S (.d (.list (.st 0))) l c []) (C:∀b,S b->b<w.heap.size):
  Calls en.P f #[O4 false c] w fun e w1=>∃v,e=.returned v/\SlI w1.heap w.heap.size v y/\E9 C6 w w1:=by
 refine(h w S [O4 false c] [] l y hm (a0f ⟨c,O4 false c,[],[],[],rfl,rfl,rfl,hl,a04⟩) C (by rintro b ⟨v,p,_⟩;simp at p) (by intro i j v U _ p;simp at p)).mono ?_
 rintro e w1 ⟨v,S1,pl1,rfl,a,hb,hk,hs1,hs2,hap,hbl⟩
 have a:G3 en w1.heap S1 [.own 3 (.int .i64)] y [v] pl1:=a;unfold G3 at a;obtain⟨c1,u,I,p1,p2,e0,rfl,t,h1,J⟩:=a;cases e0;obtain⟨_,rfl⟩:=c0y J;unfold SR at h1;obtain⟨v1,cs,rfl,rfl,h5,g,o⟩:=h1;have t:v=v1:=t;subst t;refine⟨v,rfl,SlI.of g o (fun k hk=>?_),⟨hb.os,hb.tape,hb.output,hb.size,fun k hk _=>hb.block k hk (by rintro⟨v,p,_⟩;simp at p)⟩⟩;have x:Bk v k:=by
  obtain⟨A,cc,s⟩:=Row.form g;rw[s]at hk ⊢;exact hk
 rcases(hbl k ⟨v,V',x⟩).2 with⟨v2,z,_⟩|h
 ·simp at z
 ·exact h
structure JW (W0:World)(Bq R:Nat)(q r:Int)(lo:Obj)(W:World):Prop where
 os:W.os=W0.os
 tape:W.tape=W0.tape
 output:W.output=W0.output
 size:W.heap.size=W0.heap.size+2
 bq:W.heap[Bq]?=some (.cells #[.int .i64 q] 3 (0,0))
 br:W.heap[R]?=some (.cells #[.int .i64 r] 3 (0,0))
 dd:W.heap[W0.heap.size]?=some (.deferred (some []))
 ll:W.heap[W0.heap.size+1]?=some lo
 rest:∀j,j<W0.heap.size->j≠Bq->j≠R->W.heap[j]?=W0.heap[j]?
def v0A {W:World}{B:Nat}{v a:Value}{t:TypeId}(h:W.heap[B]?=some (.cells #[v] t (0,0))):(W.setCell ⟨B,0,none⟩ a).heap[B]?=some (.cells #[a] t (0,0)):=by
 simp[World.setCell,Array.getElem?_modify,h]
section
variable {W0 W:World}{Bq R:Nat}{q q' r r':Int}{lo lo':Obj}
def JW.H0H (h:JW W0 Bq R q r lo W)(a:Bq≠R)(hl:Bq<W0.heap.size):JW W0 Bq R q' r lo (W.setCell ⟨Bq,0,none⟩ (.int .i64 q')):=by
 have e:∀k,k≠Bq->(W.setCell ⟨Bq,0,none⟩ (.int .i64 q')).heap[k]?=W.heap[k]?:=fun k hk=>Below.heap_setCell W _ _ k hk;exact⟨h.os,h.tape,h.output,by simp[World.setCell];exact h.size,v0A h.bq,(e _ (Ne.symm a)).trans h.br,(e _ O').trans h.dd,(e _ O').trans h.ll,fun j c h1 b=>(e _ h1).trans (h.rest j c h1 b)⟩
def JW.x03 (h:JW W0 Bq R q r lo W)(a:Bq≠R)(hl:R<W0.heap.size):JW W0 Bq R q r' lo (W.setCell ⟨R,0,none⟩ (.int .i64 r')):=by
 have e:∀k,k≠R->(W.setCell ⟨R,0,none⟩ (.int .i64 r')).heap[k]?=W.heap[k]?:=fun k hk=>Below.heap_setCell W _ _ k hk;exact⟨h.os,h.tape,h.output,by simp[World.setCell];exact h.size,(e _ a).trans h.bq,v0A h.br,(e _ O').trans h.dd,(e _ O').trans h.ll,fun j c h1 b=>(e _ b).trans (h.rest j c h1 b)⟩
def JW.put (h:JW W0 Bq R q r lo W)(hl:Bq<W0.heap.size)(c:R<W0.heap.size):JW W0 Bq R q r lo' (W.putObj (W0.heap.size+1) lo'):=by
 have e:∀k,k≠W0.heap.size+1->(W.putObj (W0.heap.size+1) lo').heap[k]?=W.heap[k]?:=fun k hk=>World.putObj_heap_other hk;exact⟨h.os,h.tape,h.output,by rw[World.putObj_size];exact h.size,(e _ O').trans h.bq,(e _ O').trans h.br,(e _ O').trans h.dd,World.putObj_heap_same (by rw[h.size];omega),fun j b h1 a=>(e _ O').trans (h.rest j b h1 a)⟩
def JW.drew (h:JW W0 Bq R q r lo W):JW W0 Bq R q r lo { W with drawn:=W.drawn+1 }:=⟨h.os,h.tape,h.output,h.size,h.bq,h.br,h.dd,h.ll,h.rest⟩
end
def O02 (a:Int->Option (X0 Int Int))(W0:World)(Bq R:Nat)(q:Int)(lo:Obj)(a0:Addr)(m:Nat):Exit->Act->World->Prop
 |.normal,_,b=>∃q',a q=some (.next q')/\JW W0 Bq R q 0 lo b/\q<m/\b.cell? (a0.add q.toNat)=some (.int .i64 q')
 |.ret,_,b=>a q=some (.done q)/\JW W0 Bq R q q lo b
 |_,_,_=>False
def G7 {W:World}{B:Nat}{v:Value}{t:TypeId}(h:W.heap[B]?=some (.cells #[v] t (0,0))):W.cell? ⟨B,0,none⟩=some v/\W.frozen? ⟨B,0,none⟩=false:=by
 simp_all[World.cell?,World.frozen?]
theorem z02 {W:World}{g k:Nat}{cur:Array Value}{t:TypeId}{v:Value}(h:W.heap[g]?=some (.cells cur t (0,0)))(a:cur[k]?=some v):W.cell? ((⟨g,0,none⟩:Addr).add k)=some v:=by
 grind [World.cell?,Addr.add]
def s0A (W:World)(v:Value)(t:TypeId):(W.alloc (.cells #[v] t)).cell? ⟨W.heap.size,0,none⟩=some v/\(W.alloc (.cells #[v] t)).frozen? ⟨W.heap.size,0,none⟩=false:=
 G7 (World.alloc_heap_new W _)
def I0r {F:Fence}{n:Nat}{g:Operand}{ps:Array Tmp}{assign body:Code}{Q:Exit->Act->World->Prop}{a:Act}{w:World}(b4:F.round=none)(h3:3<=n)(a1:F.fn 187)(e2:ps.size=1)
  {Bq y R m c:Nat} {a0:Addr} {q0 res:Int} (hg:a.eval g=.func (.func 187) #[] #[.pointer (some ⟨Bq,0,none⟩),.pointer (some ⟨y,0,none⟩)])
  (o:Bq<w.heap.size) (e3:Bq≠R) (hR:R<w.heap.size) (e4:y<w.heap.size) (b3:y≠Bq) (b1:y≠R)
  (e1:w.heap[Bq]?=some (.cells #[.int .i64 q0] 3 (0,0))) (c4:w.heap[R]?=some (.cells #[.int .i64 0] 3 (0,0))) (c6:w.heap[y]?=some (.cells #[.slice (some a0) m c] 27 (0,0)))
  {d:Int->Option (X0 Int Int)} {k:Nat} (hk:iter d k q0=some res) (b2:∀q,q<0->d q=some (.done (-1))) (a₁:Int->Act)
  (u:∀(l:Nat) (q:Int) (W:World) (K:Act->World->Prop),K (a₁ q) W->
   assign.wpIn (F.inRound l) (n-1-1) Tryz.prog (Exit.then K (fun _ _ _=>False)) { tmps:=(ps.zip #[.int .i64 q]).foldl (fun t (p,v)=>t.setIfInBounds p v) a.tmps,defers:=[] } W)
  (I:∀(l:Nat) (q:Int) (lo:Obj) (W:World),JW w Bq R q 0 lo W->d q≠none->0<=q->body.wpIn (F.inRound l) (n-1-1) Tryz.prog (O02 d w Bq R q lo a0 m) (a₁ q) W)
  (C:∀(q:Int) (lo:Obj) (W:World),JW w Bq R q 0 lo W->res=-1->Q .normal { a with defers:={ target:=.collected w.heap.size,args:=#[] } :: a.defers } W)
  (J:∀(q:Int) (lo:Obj) (W:World),JW w Bq R q res lo W->Code.ret.wpIn F n Tryz.prog Q { a with defers:={ target:=.collected w.heap.size,args:=#[] } :: a.defers } W):
  (Code.rangeFunc g ps assign body).wpIn F n Tryz.prog Q a w:=by
 refine wpIn_rangeFunc ?_;intro fn c8;rw[b4];obtain⟨rec,b⟩:∃rec:LoopState->Option Code->Loop,rec=fun st pe=>{ state:=st,pending:=pe,fn,tmps:=a.tmps,params:=ps,assign,body,defers:=w.heap.size }:=⟨_,rfl⟩
 obtain⟨x,f⟩:∃x,(w.alloc (.deferred (some []))).alloc (.loop (rec .ready none))=x:=⟨_,rfl⟩
 have hold:∀j,j<w.heap.size->x.heap[j]?=w.heap[j]?:=fun j s=>by
  rw[<-f];exact(Below.heap_alloc _ _ _ Z').trans (Below.heap_alloc _ _ _ s)
 have c5:JW w Bq R q0 0 (.loop (rec .ready none)) x:=by
  refine⟨by rw[<-f];rfl,by rw[<-f];rfl,by rw[<-f];rfl,by rw[<-f];simp,(hold _ o).trans e1,(hold _ hR).trans c4,?_,?_,fun j s _ _=>hold j s⟩
  ·rw[<-f];exact(Below.heap_alloc _ _ _ V').trans (World.alloc_heap_new w _)
  ·rw[<-f];have:=World.alloc_heap_new (w.alloc (.deferred (some []))) (.loop (rec .ready none));rwa [World.size_alloc]at this
 have eg:∀args w,(callFunc 187 args).run Tryz.prog w=.ok (.enter 187 args) w:=enters_of Tryz.func187 Y' rfl;refine⟨w.heap.size+1,[{ target:=.collected w.heap.size,args:=#[] }],x,{ target:=.fn (.func 187) #[.pointer (some ⟨Bq,0,none⟩),.pointer (some ⟨y,0,none⟩)],args:=#[.func (.yield (w.heap.size+1)) #[] #[]] },x,187,
  #[.func (.yield (w.heap.size+1)) #[] #[],.pointer (some ⟨Bq,0,none⟩),.pointer (some ⟨y,0,none⟩)],x,?_,?_,?_,?_,fun _=>O',?_⟩
 ·rw[<-f,b];exact run_enterLoop_outer _ _ _ _ _
 ·simp only[resolve,hg];simp[go_sem]
 ·intro f' c3;simp[Target.leads]at c3;subst c3;exact a1
 ·simp[invoke,go_sem,eg]
 ·refine(J0t F (n-1) a1 b4 O' (w.heap.size+1) Bq y a0 m c (fun k q W=>iter d k q=some res/\JW w Bq R q 0 (.loop (rec .ready none)) W) (fun W=>∃q,JW w Bq R q res (.loop (rec .done (some .ret))) W)
   (fun k q W h=>(G7 h.2.bq).1) ?_ x k q0 ⟨hk,c5⟩).mono ?_
  ·rintro k q W ⟨i,s⟩ hq
   cases k with
   |zero=>cases i
   |succ k=>
    have hy:=run_yield (P:=Tryz.prog) (args:=#[.int .i64 q]) s.ll (by rw[b];simp[e2]);have hs:d q≠none:=fun e=>by simp[iter,e]at i
    rw[b]at hy;refine⟨fn,_,assign,body,hy,roundIn_of_wpIn c8 (u _ q W _ ⟨_,run_beginRound s.ll (by rw[b]),?_⟩)⟩;refine wpIn_mono (I _ q _ _ (s.put o hR) hs hq) ?_
    rintro e a3 W3 hp
    cases e with
    |normal=>
     obtain⟨q',h1,U,h3,h4⟩:=hp;have he:=run_endRound (P:=Tryz.prog) none U.ll;have z:=U.put (lo':=.loop (rec .ready none)) o hR;rw[b]at he z ⊢;refine⟨_,_,he,.inl ⟨rfl,q',k,(G7 z.bq).1,(G7 z.bq).2,(G7 ((z.rest _ e4 b3 b1).trans c6)).1,h3,?_,O',by simpa[iter,h1]using i,z.H0H e3 o⟩⟩;exact cell_kept h4 (grownBy_putObj' _ (w.heap.size+1) _) (fun r e=>by cases e;exact⟨_,U.ll,rfl⟩)
    |ret=>
     obtain⟨h1,U⟩:=hp;have he:=run_endRound (P:=Tryz.prog) (some .ret) U.ll;have z:=U.put (lo':=.loop (rec .done (some .ret))) o hR;have hr:q=res:=by simpa[iter,h1]using i
     subst hr;rw[b]at he z ⊢;exact⟨_,_,he,.inr ⟨rfl,q,z⟩⟩
    |exit id=>exact hp.elim
    |goto t=>exact hp.elim
    |panic ch=>exact hp.elim
    |outgrown=>exact hp.elim
  ·rintro e W2 ⟨⟨v,rfl⟩,(⟨k,q,hq,i,s⟩|⟨q,s⟩)⟩
   ·have hr:res=-1:=by
     cases k with
     |zero=>cases i
     |succ k=>simpa[iter,b2 q hq,eq_comm]using i
    have he:=run_endLoop (P:=Tryz.prog) s.ll (by rw[b];simp);rw[b]at he;exact⟨none,_,he,C _ _ _ (s.put o hR) hr⟩
   ·have he:=run_endLoop (P:=Tryz.prog) s.ll (by rw[b];simp);rw[b]at he;exact⟨some .ret,_,he,J _ _ _ (s.put o hR)⟩
def N0O (u v z:Value):#[u,v,z]++Array.replicate (Tryz.f160.ntmps - #[u,v,z].size) undef=#[u,v,z,undef,undef,undef,undef,undef,undef,undef,undef,undef,undef,undef,undef,undef,undef,undef,undef,undef,undef,undef,undef,undef,undef,undef,undef,undef,undef,undef,undef,undef,undef,undef,undef,undef,undef,undef,undef,undef,undef,undef,undef,undef,undef,undef,undef,undef]:=by
 apply Array.ext';simp[Tryz.ntmps160,List.replicate]
set_option maxHeartbeats 4000000 in
def L0O (n:Nat)(h1:1<=n)(h3:3<=n)(u:Value)(a b:Int)(up low:List Int)(res:Int)(w:World)
  (b3:∀w',Below w.heap.size w w'->Calls Tryz.prog 154 #[u] w' fun e w1=>∃v,e=.returned v/\SlI w1.heap w'.heap.size v up/\E9 C6 w' w1)
  (j0:(decide (a<0)||(decide (b<0)||(decide (a>=(up.length:Int))||decide (b>=(up.length:Int)))))=false->(∀w',Below w.heap.size w w'->Calls Tryz.prog 56 #[u] w' fun e w1=>∃v,e=.returned v/\SlI w1.heap w'.heap.size v low/\E9 C6 w' w1)/\
   ∃k,iter (a02 up low b) k a=some res)
  (J:(decide (a<0)||(decide (b<0)||(decide (a>=(up.length:Int))||decide (b>=(up.length:Int)))))=true->res=-1):
  CallsIn Fence.wide n Tryz.prog 160 #[u,.int .i64 a,.int .i64 b] w fun e w1=>e=.returned (.int .i64 res)/\Below w.heap.size w w1:=by
 have b1:∀{m:Nat} {f:FuncId} {args:Array Value} {w:World} {R:Ending->World->Prop},Calls Tryz.prog f args w R->CallsIn Fence.wide m Tryz.prog f args w R:=fun h=>callsIn_wide.2 h;have e5:Fence.wide.round=none:=rfl;have f154:Fence.wide.fn 154:=trivial;have f56:Fence.wide.fn 56:=trivial;have f167:Fence.wide.fn 167:=trivial;have f187:Fence.wide.fn 187:=trivial;have f160:Fence.wide.fn 160:=trivial;generalize hF:Fence.wide=F at *;refine callsIn_of_wp_marks Tryz.func160 rfl f160 ?_ e5;rw[N0O];have b2:Below w.heap.size w ((w.alloc (.cells #[.int .i64 b] 3)).alloc (.cells #[.int .i64 0] 3)):=((Below.refl _ w).alloc (Nat.le_refl _) _).alloc V' _;have cb:=s0A w (.int .i64 b) 3;have cr:=s0A (w.alloc (.cells #[.int .i64 b] 3)) (.int .i64 0) 3;have c:∀{t:World},E9 C6 ((w.alloc (.cells #[.int .i64 b] 3)).alloc (.cells #[.int .i64 0] 3)) t->t.heap[w.heap.size]?=some (.cells #[.int .i64 b] 3 (0,0))/\t.heap[w.heap.size+1]?=some (.cells #[.int .i64 0] 3 (0,0))/\Below w.heap.size w t:=by
  intro t z;refine⟨(z.below.block _ Z').trans ?_,(z.below.block _ V').trans ?_,b2.trans (z.below.mono Z')⟩
  ·rw[Below.heap_alloc _ _ _ V'];exact World.alloc_heap_new w _
  ·have:=World.alloc_heap_new (w.alloc (.cells #[.int .i64 b] 3)) (.cells #[.int .i64 0] 3);rwa [World.size_alloc]at this
 have c6:decide (a<0)=true\/(decide (a<0)=false/\decide (b<0)=true)\/(decide (a<0)=false/\decide (b<0)=false/\decide (a>=(up.length:Int))=true)\/
   (decide (a<0)=false/\decide (b<0)=false/\decide (a>=(up.length:Int))=false/\decide (b>=(up.length:Int))=true)\/(decide (a<0)=false/\decide (b<0)=false/\decide (a>=(up.length:Int))=false/\decide (b>=(up.length:Int))=false):=by
  cases decide (a<0)<;>cases decide (b<0)<;>cases decide (a>=(up.length:Int))<;>cases decide (b>=(up.length:Int))<;>simp
 have U:∀(t:World) (tm:Array Value),tm[6]?=some (.pointer (some ⟨w.heap.size+1,0,none⟩))->E9 C6 ((w.alloc (.cells #[.int .i64 b] 3)).alloc (.cells #[.int .i64 0] 3)) t->res=-1->
   bodyPostM F n Tryz.prog Tryz.f160 (fun e w1=>e=Ending.returned (Value.int IntKind.i64 res)/\Below w.heap.size w w1) Exit.ret { tmps:=tm,defers:=[] } (t.setCell ⟨w.heap.size+1,0,none⟩ (.int .i64 (-1))):=by
  intro t tm ht z hr;obtain⟨q1,q2,q3⟩:=c z;have hc:=(G7 q2).1;have hs:=World.cell?_setCell_same' t ⟨w.heap.size+1,0,none⟩ (.int .i64 (-1)) (by rw[hc];rfl);refine⟨.int .i64 (-1),?_,?_⟩
  ·simp[results,Tryz.f160,go_sem,hs,ht]
  ·exact⟨by rw[hr],q3.trans ((Below.refl w.heap.size t).setCell (p:=⟨w.heap.size+1,0,none⟩) V' _)⟩
 rcases c6 with ha|⟨ha,hb0⟩|⟨ha,hb0,hc0⟩|⟨ha,hb0,hc0,hd0⟩|⟨ha,hb0,hc0,hd0⟩
 ·have hr:res=-1:=J (by rw[ha];rfl)
  gi_wp2_with (gi_at_call 154;refine(b1 (b3 _ b2)).mono ?_;rintro e t ⟨v,rfl,hv,z⟩;obtain⟨A,y,rfl⟩:=hv.form;obtain⟨q1,q2,q3⟩:=c z;have b4:=G7 q1;have c3:=G7 q2)
  exact U _ _ rfl z hr
 ·have hr:res=-1:=J (by rw[ha,hb0];rfl)
  gi_wp2_with (gi_at_call 154;refine(b1 (b3 _ b2)).mono ?_;rintro e t ⟨v,rfl,hv,z⟩;obtain⟨A,y,rfl⟩:=hv.form;obtain⟨q1,q2,q3⟩:=c z;have b4:=G7 q1;have c3:=G7 q2)
  exact U _ _ rfl z hr
 ·have hr:res=-1:=J (by rw[ha,hb0,hc0];rfl)
  gi_wp2_with (gi_at_call 154;refine(b1 (b3 _ b2)).mono ?_;rintro e t ⟨v,rfl,hv,z⟩;obtain⟨A,y,rfl⟩:=hv.form;obtain⟨q1,q2,q3⟩:=c z;have b4:=G7 q1;have c3:=G7 q2)
  exact U _ _ rfl z hr
 ·have hr:res=-1:=J (by rw[ha,hb0,hc0,hd0];rfl)
  gi_wp2_with (gi_at_call 154;refine(b1 (b3 _ b2)).mono ?_;rintro e t ⟨v,rfl,hv,z⟩;obtain⟨A,y,rfl⟩:=hv.form;obtain⟨q1,q2,q3⟩:=c z;have b4:=G7 q1;have c3:=G7 q2)
  exact U _ _ rfl z hr
 obtain⟨hL,k,hk⟩:=j0 (by rw[ha,hb0,hc0,hd0];rfl)
 gi_wp2_with (first
  |(gi_at_call 154;refine(b1 (b3 _ b2)).mono ?_;rintro e t ⟨v,rfl,hv,z⟩;obtain⟨A,y,rfl⟩:=hv.form;obtain⟨q1,q2,q3⟩:=c z;have b4:=G7 q1;have c3:=G7 q2)
  |(gi_at_call 56;refine(b1 (hL _ q3)).mono ?_;rintro e d ⟨v4,rfl,hv4,hb4⟩;obtain⟨A4,s,rfl⟩:=hv4.form;have c8:=s0A d (.slice none 0 0) 27)
  |(gi_at_call 167;refine(K0c F _ f167 e5 _ _ _ _ _).mono ?_;rintro e w5 ⟨rfl,rfl⟩))
 have n1:¬a<0:=of_decide_eq_false ha;have j1:¬a>=(up.length:Int):=of_decide_eq_false hc0;obtain⟨g,hA,l0,cur,hg,e7⟩:∃g,A=some ⟨g,0,none⟩/\w.heap.size+2<=g/\∃cur,t.heap[g]?=some (.cells cur 3 (0,0))/\∀i:Nat,i<up.length->cur[i]?=some (.int .i64 (up.getD i 0)):=by
  rcases hv with⟨h0,_⟩|⟨g,cap,cur,h1,h2,h3,h4⟩
  ·rw[h0]at j1;simp at j1;omega
  ·cases h1;exact⟨g,rfl,by simp at h2;omega,cur,h3,h4⟩
 subst hA;have n0:g<t.heap.size:=(Array.getElem?_eq_some_iff.1 hg).1;have k4:t.heap.size<=d.heap.size:=hb4.size;have n2:w.heap.size+1<t.heap.size:=(Array.getElem?_eq_some_iff.1 q2).1;have hold:∀(j:Nat),j<d.heap.size->(((d.alloc (.cells #[.slice A4 low.length s] 27)).alloc (.cells #[.slice (some ⟨g,0,none⟩) up.length y] 27)).alloc (.cells #[.int .i64 a] 3)).heap[j]?=d.heap[j]?:=fun j C=>
  (Below.heap_alloc _ _ _ Z').trans ((Below.heap_alloc _ _ _ Z').trans (Below.heap_alloc _ _ _ C))
 have k1:(((d.alloc (.cells #[.slice A4 low.length s] 27)).alloc (.cells #[.slice (some ⟨g,0,none⟩) up.length y] 27)).alloc (.cells #[.int .i64 a] 3)).heap[d.heap.size]?=some (.cells #[.slice A4 low.length s] 27 (0,0)):=
  (Below.heap_alloc _ _ _ Z').trans ((Below.heap_alloc _ _ _ V').trans (World.alloc_heap_new _ _))
 have k2:(((d.alloc (.cells #[.slice A4 low.length s] 27)).alloc (.cells #[.slice (some ⟨g,0,none⟩) up.length y] 27)).alloc (.cells #[.int .i64 a] 3)).heap[d.heap.size+1]?=some (.cells #[.slice (some ⟨g,0,none⟩) up.length y] 27 (0,0)):=by
  refine(Below.heap_alloc _ _ _ V').trans ?_;have:=World.alloc_heap_new (d.alloc (.cells #[.slice A4 low.length s] 27)) (.cells #[.slice (some ⟨g,0,none⟩) up.length y] 27);rwa [World.size_alloc]at this
 have k3:(((d.alloc (.cells #[.slice A4 low.length s] 27)).alloc (.cells #[.slice (some ⟨g,0,none⟩) up.length y] 27)).alloc (.cells #[.int .i64 a] 3)).heap[d.heap.size+1+1]?=some (.cells #[.int .i64 a] 3 (0,0)):=by
  have:=World.alloc_heap_new ((d.alloc (.cells #[.slice A4 low.length s] 27)).alloc (.cells #[.slice (some ⟨g,0,none⟩) up.length y] 27)) (.cells #[.int .i64 a] 3);rwa [World.size_alloc,World.size_alloc]at this
 have h7:(((d.alloc (.cells #[.slice A4 low.length s] 27)).alloc (.cells #[.slice (some ⟨g,0,none⟩) up.length y] 27)).alloc (.cells #[.int .i64 a] 3)).heap.size=d.heap.size+3:=V'
 have i1:Below w.heap.size w (((d.alloc (.cells #[.slice A4 low.length s] 27)).alloc (.cells #[.slice (some ⟨g,0,none⟩) up.length y] 27)).alloc (.cells #[.int .i64 a] 3)):=
  ((((q3.trans (hb4.below.mono O')).alloc O' _).alloc Z' _).alloc Z' _)
 generalize (((d.alloc (.cells #[.slice A4 low.length s] 27)).alloc (.cells #[.slice (some ⟨g,0,none⟩) up.length y] 27)).alloc (.cells #[.int .i64 a] 3))=W0 at *;have j4:W0.heap[w.heap.size]?=some (.cells #[.int .i64 b] 3 (0,0)):=(hold _ O').trans ((hb4.below.block _ O').trans q1);have j2:W0.heap[w.heap.size+1]?=some (.cells #[.int .i64 0] 3 (0,0)):=(hold _ O').trans ((hb4.below.block _ O').trans q2);have k0:W0.heap[g]?=some (.cells cur 3 (0,0)):=(hold _ O').trans ((hb4.below.block _ O').trans hg);have c4:∀{q r:Int} {lo:Obj} {W:World},JW W0 (d.heap.size+1+1) (w.heap.size+1) q r lo W->Below w.heap.size w W:=fun h=>
  i1.trans ⟨h.os,h.tape,h.output,by rw[h.size];omega,fun j C=>h.rest j O' O' O'⟩
 have c5:∀{W:World} {r:Nat} {o:Obj},w.heap.size<=r->Below w.heap.size W (W.putObj r o):=fun h=>⟨rfl,rfl,rfl,V',fun j C=>World.putObj_heap_other O'⟩
 refine I0r e5 h3 f187 rfl rfl O' O' O' O' O' O' k3 j2 k2 hk (fun q hq=>by simp[a02];omega)
  (fun x=>{ tmps:=#[u,.int .i64 a,.int .i64 b,undef,undef,.pointer (some ⟨w.heap.size,0,none⟩),.pointer (some ⟨w.heap.size+1,0,none⟩),.slice (some ⟨g,0,none⟩) up.length y,.pointer (some ⟨d.heap.size,0,none⟩),.int .i64 x,u,.slice (some ⟨g,0,none⟩) up.length y,
   .int .i64 a,.bool false,.bool false,.int .i64 b,.bool false,.bool false,.bool false,.int .i64 a,.slice (some ⟨g,0,none⟩) up.length y,.int .i64 up.length,.bool false,.bool false,.bool false,.int .i64 b,.slice (some ⟨g,0,none⟩) up.length y,.int .i64 up.length,.bool false,.bool false,
   u,.slice A4 low.length s,.slice (some ⟨g,0,none⟩) up.length y,.int .i64 a,.func (.func 187) #[] #[.pointer (some ⟨d.heap.size+1+1,0,none⟩),.pointer (some ⟨d.heap.size+1,0,none⟩)],.int .i64 x,
   undef,undef,undef,undef,undef,undef,undef,undef,undef,undef,undef,undef],defers:=[] }) ?assign ?body ?done ?stop
 case assign=>
  intro l x W K hK
  gi_wp2
  exact hK
 case body=>
  intro l q lo W C hs hq;subst hF;have h9:C0 low q=true:=by
   cases h:C0 low q
   ·simp[a02,h,hq]at hs
   ·rfl
  obtain⟨l3,h8⟩:=b0O h9;obtain⟨a4,h4,l4⟩:∃a4,A4=some a4/\W.cell? (a4.add q.toNat)=some (.int .i64 (gt low q)):=by
   rcases hv4 with⟨h0,_⟩|⟨g4,cap,cur4,e1,e2,e3,e4⟩
   ·rw[h0]at h8;simp at h8;omega
   ·cases e1;refine⟨_,rfl,?_⟩;have j3:g4<d.heap.size:=(Array.getElem?_eq_some_iff.1 e3).1;have:=(C.rest g4 O' O' O').trans ((hold _ j3).trans e3);have h6:=e4 q.toNat O';exact z02 this h6
  subst h4;have k8:=(G7 ((C.rest d.heap.size O' O' O').trans k1)).1;have kb:=(G7 ((C.rest w.heap.size O' O' O').trans j4)).1;have kr:=G7 C.br;have a1:a02 up low b q=if(decide (gt low q<=b)&&decide (b<=q))=true then some (.done q)else if C0 up q=true then some (.next (gt up q))else none:=by
   unfold a02;rw[if_pos (decide_eq_true hq),h9];simp only[Bool.true_and]
  cases e1:decide (gt low q<=b)
  all_goals cases e2:decide (b<=q)
  all_goals gi_wp2
  all_goals refine C09 b0j.mix V' Y' ?_
  all_goals (repeat still_step)
  all_goals refine wpStill_nil ?_
  all_goals gi_wp2
  all_goals rw[e1,e2]at a1
  all_goals first
   |exact⟨a1,C.drew.x03 O' O'⟩
   |have e9:C0 up q=true:=by
     cases h:C0 up q with
     |false=>rw[h]at a1;exact absurd a1 hs
     |true=>rfl
    obtain⟨_,k5⟩:=b0O e9;rw[e9]at a1;exact⟨gt up q,a1,C.drew,O',z02 ((C.drew.rest g O' O' O').trans k0) (e7 q.toNat O')⟩
 case done=>
  intro q lo W C hr;have k6:=G7 C.br
  gi_wp2
  have h5:=C.x03 (r':=-1) O' O';have I:=h5.dd;rw[h7]at I;refine⟨V',.inl ⟨_,_,rfl,run_takeDeferred I,?_⟩⟩;have e6:=cell_kept (G7 h5.br).1 (grownBy_putObj' _ (d.heap.size+3) (.deferred none)) (fun r e=>by cases e;exact⟨_,I,rfl⟩);refine⟨.int .i64 (-1),?_,by rw[<-hr],?_⟩
  ·simp[results,Tryz.f160,go_sem,e6]
  ·exact(c4 h5).trans (c5 O')
 case stop=>
  intro q lo W C
  gi_wp2
  have I:=C.dd;rw[h7]at I;refine⟨V',.inl ⟨_,_,rfl,run_takeDeferred I,?_⟩⟩;have e6:=cell_kept (G7 C.br).1 (grownBy_putObj' _ (d.heap.size+3) (.deferred none)) (fun r e=>by cases e;exact⟨_,I,rfl⟩);refine⟨.int .i64 res,?_,rfl,?_⟩
  ·simp[results,Tryz.f160,go_sem,e6]
  ·exact(c4 C).trans (c5 O')
set_option maxHeartbeats 4000000 in
def N0h {w:World}{S:E0}{us pl:List Value}{x:F5 en.D [.d (.list (.st 0)),.d (.int .i64),.d (.int .i64)]}(e:G3 en w.heap S [.d (.list (.st 0)),.d (.int .i64),.d (.int .i64)] x us pl):
  pl=[]/\∃c,us=[O4 false c,.int .i64 (show Int from x.2.1),.int .i64 (show Int from x.2.2)]/\(L0 en (.list (.st 0))).R w.heap S c x.1:=by
 skip
 unfold G3 at e;obtain⟨c,u,t,p1,I,rfl,rfl,g,h1,j⟩:=e;unfold G3 at j;obtain⟨c2,k,o,y,z,rfl,rfl,f,a,i⟩:=j;unfold G3 at i;obtain⟨c3,m,p,v,C,rfl,rfl,h,b,s⟩:=i;obtain⟨rfl,rfl⟩:=c0y s;unfold SR at h1 a b;obtain⟨rfl,h1⟩:=h1;obtain⟨rfl,a⟩:=a;obtain⟨rfl,b⟩:=b;have a:c2=[.int .i64 (show Int from x.2.1)]:=a;have b:c3=[.int .i64 (show Int from x.2.2)]:=b;subst a;subst b;have g:u=O4 false c:=g;have f:k=.int .i64 (show Int from x.2.1):=f;have h:m=.int .i64 (show Int from x.2.2):=h;subst g;subst f;subst h;exact⟨rfl,c,rfl,h1⟩
def v0b {E:Env}{H:M0}{S:E0}{t:U}{x:H6 E.D (.d t)}{c:List Value}(h:(L0 E t).R H S c x):SR E H S (.d t) x c []:=by
 unfold SR
 simp_all
def J0X (F:Nat)(o:N0 en (h0y F))(i:N0 en (h0w F))(w:World)(S:E0)(c:List Value)(l:List D0)(a b y:Int)(hm:h0f F l a b=some y)
  (h1:(L0 en (.list (.st 0))).R w.heap S c l) (u:∀b,S b->b<w.heap.size):
  Calls Tryz.prog 160 #[O4 false c,.int .i64 a,.int .i64 b] w fun e w1=>e=.returned (.int .i64 y)/\Below w.heap.size w w1:=by
 have hl:∀w',Below w.heap.size w w'->SR en w'.heap S (.d (.list (.st 0))) l c []:=fun w' f=>by
  exact v0b (t:=.list (.st 0)) ((L0 en (.list (.st 0))).J1 ⟨f.size,fun b p hn=>⟨hn,f.block b p⟩⟩ h1)
 have k:∀w',Below w.heap.size w w'->∀b,S b->b<w'.heap.size:=fun w' f b h=>Nat.lt_of_lt_of_le (u b h) f.size;unfold h0f at hm;cases m:e0V F l with
 |none=>rw[m]at hm;cases hm
 |some up=>
  rw[m]at hm;have hm:(if(decide (a<0)||(decide (b<0)||(decide (a>=(up.length:Int))||decide (b>=(up.length:Int)))))=true then some (-1)else Option.bind (c0b F l) fun low=>iter (a02 up low b) F a)=some y:=hm;obtain⟨low,g,j⟩:∃low:List Int,((decide (a<0)||(decide (b<0)||(decide (a>=(up.length:Int))||decide (b>=(up.length:Int)))))=false->c0b F l=some low/\iter (a02 up low b) F a=some y)/\
    ((decide (a<0)||(decide (b<0)||(decide (a>=(up.length:Int))||decide (b>=(up.length:Int)))))=true->y=-1):=by
   cases s:(decide (a<0)||(decide (b<0)||(decide (a>=(up.length:Int))||decide (b>=(up.length:Int)))))with
   |true=>rw[s,if_pos rfl]at hm;cases hm;exact⟨[],V',fun _=>rfl⟩
   |false=>
    rw[s,if_neg V']at hm;cases el:c0b F l with
    |none=>rw[el]at hm;cases hm
    |some low=>rw[el]at hm;exact⟨low,fun _=>⟨rfl,hm⟩,V'⟩
  refine((callsIn_wide (n:=9)).1 (L0O 9 O' O' (O4 false c) a b up low y w (fun w' f=>z0H o m (hl w' f) (k w' f))
   (fun h=>⟨fun w' f=>z0H i (g h).1 (hl w' f) (k w' f),F,(g h).2⟩) j)).mono ?_
  rintro e w1 ⟨rfl,f⟩
  exact⟨rfl,f⟩
def C0x (F:Nat)(i:N0 en (h0y F))(a:N0 en (h0w F)):N0 en (r0R F):=by
 intro w S us pl x y hm g j m o;obtain⟨rfl,c,rfl,h1⟩:=N0h g;refine(J0X F i a w S c x.1 x.2.1 x.2.2 y hm h1 j).mono ?_
 rintro e w1 ⟨rfl,hb⟩
 refine⟨_,S,[],rfl,?_,⟨hb.os,hb.tape,hb.output,hb.size,fun k hk _=>hb.block k hk⟩,⟨hb.size,fun b f hn=>⟨hn,hb.block b f⟩⟩,fun b h _=>h,fun b h=>Nat.lt_of_lt_of_le (j b h) hb.size,O',by simp_all⟩;refine a0f (E:=en) (x:=.d (.int .i64)) (r:=[]) ⟨[.int .i64 y],.int .i64 y,[],[],[],rfl,rfl,rfl,v0b rfl,a04⟩
