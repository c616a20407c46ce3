/- P. Its conditions: none. -/
import Derived.RangeFuncKeeps
import Derived.RangeFuncLeaves
import Derived.WalkKit
import Derived.OwnWalkIn
import Derived.TacticsInMore
import Derived.LoopNIn
import Derived.LoopIn
import Derived.OrdersIn
import Derived.Still
import Derived.StillTactics
import Derived.Test.YtihmgaccbcfgjaaGreatRMd
import Derived.Test.YtihmgaccbcfgjaaGreatRG23
import Derived.Test.YtihmgaccbcfgjaaGreatRX16
set_option linter.all false
set_option maxRecDepth 100000
namespace Go.Proofs.YtihmgaccbcfgjaaGreat
open Go.RowKit Go.Shelf Go.Proofs
attribute [local go_sem] Oper.semAt_some
set_option maxHeartbeats 1000000 in
def A0J (F:Fence)(n:Nat)(b:F.fn 227)(a:F.round=none)(A:Option Addr)(m c:Nat)(q:Int)(w:World):
  CallsIn F n Tryz.prog 227 #[.slice A m c,.int .i64 q] w fun e w'=>e=.returned (.func (.func 238) #[] #[.pointer (some ⟨w.heap.size+1,0,none⟩),.pointer (some ⟨w.heap.size,0,none⟩)])/\w'=(w.alloc (.cells #[.slice A m c] 22)).alloc (.cells #[.int .i64 q] 3):=by
 refine callsIn_of_wp Tryz.func227 rfl b ?_ a
 gi_wp2
 go_ret
 simp
section
variable {l n:Nat}{P:Program}{ops:Array Oper}{md:Region.Mode}
def C0t {f:FuncId}{args:Array Value}{w:World}{R:Ending->World->Prop}(h:Calls P f args w R):CallsIn (Fence.wide.inRound l) n P f args w R:=callsIn_wide.2 h
theorem G0M {o:Oper}{a:Act}{w:World}{K:Act->Prop}{d:Act->World->Prop}{e:Exit->Act->World->Prop}(hd:∀c,o.op≠.defer c)(h:∀a,K a->d a w)(b:o.still P a w K):
  o.wpIn (Fence.wide.inRound l) n P a w d e:=by
 refine⟨fun _ _=>trivial,?_⟩;rw[show(Fence.wide.inRound l).round=some l from rfl,Oper.semAt_eq _ _ _ hd];unfold Oper.still at b;generalize (execOp a.eval o).run P w=r at b ⊢;cases r with
 |ok nx w'=>
  cases nx<;>simp only[Oper.stillUpon]at b<;>try exact b.elim
  case value v=>obtain⟨rfl,h1⟩:=b;exact h _ h1
  case skip=>obtain⟨rfl,h1⟩:=b;exact h _ h1
  case enter f args=>
   obtain⟨rfl,v,h1,g⟩:=b;refine⟨fun h=>by simp[Fence.wide]at h,C0t (h1.mono ?_)⟩
   simp_all
 |halt x w'=>simp_all[Oper.stillUpon]
theorem H0q {i:Nat}{a:Act}{w:World}{K:Act->Prop}{d:Act->World->Prop}{e:Exit->Act->World->Prop}(hd:∀o∈ops.toList,∀c,o.op≠.defer c)(h:∀a,K a->d a w)(b:stOp P ops w i K a):
  wpOpIn (Fence.wide.inRound l) n P ops e i d a w:=by
 unfold stOp at b;unfold wpOpIn;split
 ·simp_all
 ·rename_i o ho;simp only[ho]at b;split
  ·rename_i hw;grind [G0M]
  ·rename_i hw;simp only[hw]at b;exact⟨fun _ _=>trivial,h _ b⟩
def q0U {w:World}{Q:Act->Prop}{d:Exit->Act->World->Prop}(hd:∀o∈ops.toList,∀c,o.op≠.defer c)(b:∀a,Q a->d .normal a w):∀(fuel:Nat) (listed:Array Bool) (a:Act),
  wpAnyS P md ops w Q fuel listed a->wpAnyIn (Fence.wide.inRound l) n P md ops d fuel listed a w
 |0,_,_,h=>⟨h.1,b _ h.2⟩
 |fuel+1,_,_,h=>⟨fun f=>b _ (h.1 f),fun i hi=>H0q hd (fun e=>q0U hd b fuel _ e) (h.2 i hi)⟩
theorem A0u {id:Nat}{Q:Exit->Act->World->Prop}{a:Act}{w:World}{xs:List Oper}(hm:P.follows .mixedOrders=true)(hd:∀o∈xs,∀c,o.op≠.defer c)(d:Region.lexB .any xs.toArray=true)
  (h:wpStill P xs.toArray { w with drawn:=w.drawn+1 } (fun b=>Q .normal b { w with drawn:=w.drawn+1 }) xs a):(Code.region id xs.toArray true).wpIn (Fence.wide.inRound l) n P Q a w:=by
 simp only[Region.lexB,Bool.and_eq_true]at d;refine wpIn_region_any hm (q0U (Q:=fun b=>Q .normal b { w with drawn:=w.drawn+1 }) O' (fun _ h=>h) _ _ _ ?_)
 grind [wpAnyS_lex]
end
theorem A0p {P:Nat->Prop}:∀k,P k->∃k,P k/\∀j,P j->k<=j:=by
 intro k
 induction k using Nat.strongRecOn with
 |ind k ih=>
  grind
open Classical in
noncomputable def muW (J:Nat->World->Prop)(W:World):Nat:=if h:∃k,J k W/\∀j,J j W->k<=j then Classical.choose h else 0
theorem r0M {J:Nat->World->Prop}{W:World}{k:Nat}(h:J k W):J (muW J W) W/\muW J W<=k:=by
 have a:∃k,J k W/\∀j,J j W->k<=j:=A0p (P:=fun k=>J k W) k h;unfold muW
 grind
set_option maxHeartbeats 1000000 in
theorem I0a (F:Fence)(n:Nat)(u:F.fn 238)(f:F.round=none)(hn:1<=n)(l Bq o:Nat)(a0:Addr)(m c:Nat)(J:Nat->Int->World->Prop)(i:World->Prop)
  (t:∀k q W,J k q W->W.cell? ⟨Bq,0,none⟩=some (.int .i64 q))
  (p:∀k q W,J k q W->0<=q->YieldAt F (n-1) Tryz.prog l #[.int .i64 q] W fun e a=>
   (e=.returned (.bool true)/\∃q' h,a.cell? ⟨Bq,0,none⟩=some (.int .i64 q)/\a.frozen? ⟨Bq,0,none⟩=false/\a.cell? ⟨o,0,none⟩=some (.slice (some a0) m c)/\q<m/\a.cell? (a0.add q.toNat)=some (.int .i64 q')/\h<k/\J h q' (a.setCell ⟨Bq,0,none⟩ (.int .i64 q')))
   \/(e=.returned (.bool false)/\i a))
  (W:World) (k:Nat) (q:Int) (C:J k q W):CallsIn F n Tryz.prog 238 #[.func (.yield l) #[] #[],.pointer (some ⟨Bq,0,none⟩),.pointer (some ⟨o,0,none⟩)] W fun e a=>(∃v,e=.returned v)/\((∃k q,q<0/\J k q a)\/i a):=by
 refine callsIn_of_wp Tryz.func238 rfl u ?_ f;simp only[Tryz.ntmps238,List.size_toArray,List.length_cons,List.length_nil,Nat.reduceAdd,Nat.reduceSub,Array.replicate_succ,Array.replicate_zero,List.push_toArray,List.append_toArray,List.nil_append,List.cons_append]
 gi_wp2
 gi_loopw [] (fun wr=>∃k q,J k q wr) (fun wr=>muW (fun k w=>∃q,J k q w) wr)
 case atStart=>grind
 case round=>
  obtain⟨U,x,g⟩:=hrel;obtain⟨⟨d,b⟩,_⟩:=r0M (J:=fun k w=>∃q,J k q w) ⟨x,g⟩;have y:=t _ _ _ b
  by_cases j:d<0
  ·have hd:decide (d>=0)=false:=by grind
   gi_wp2
   go_end0
   grind
  ·have hd:decide (d>=0)=true:=by grind
   obtain⟨fn,tmps,assign,body,z,hR⟩:=p _ _ _ b O'
   gi_wp2
   refine hR.mono ?_
   rintro e I (⟨rfl,q3,k3,hq3,hf3,hu3,hlt,hc3,hk3,hJ3⟩|⟨rfl,hJx3⟩)
   ·have s:0<=d:=O'
    gi_wp2
    go_roundw
    case rel=>grind
    case measure=>exact Nat.lt_of_le_of_lt (r0M (J:=fun k w=>∃q,J k q w) ⟨q3,hJ3⟩).2 hk3
   ·gi_wp2
    refine bodyPost_ret (results_none rfl _ _ _) rfl ?_;exact⟨⟨_,rfl⟩,.inr hJx3⟩
open Go.V hiding Row
open Go.X
def SlI (H:I0)(lo:Nat)(v:Value)(y:List Int):Prop:=(y=[]/\∃a,v=.slice a 0 0)\/
 ∃g cap cur,v=.slice (some ⟨g,0,none⟩) y.length cap/\lo<=g/\H[g]?=some (.cells cur 3 (0,0))/\∀i:Nat,i<y.length->cur[i]?=some (.int .i64 (y.getD i 0))
def SlI.form {H:I0}{lo:Nat}{v:Value}{y:List Int}(h:SlI H lo v y):∃A c,v=.slice A y.length c:=by
 rcases h with⟨rfl,a,rfl⟩|⟨g,cap,cur,rfl,_⟩
 ·simp
 simp
theorem SlI.of {E:Env}{H:I0}{S:D0}{lo:Nat}{v:Value}{y:List Int}{cs:List Value}(e:Row H 3 (J0 E (.int .i64)).sz v y.length cs)(he:R1 (J0 E (.int .i64)) H S cs y)(b:∀k,B1 v=some k->lo<=k):SlI H lo v y:=by
 obtain⟨m,⟨h1,a,rfl⟩|⟨g,cap,cur,rfl,j,hg,hn,hm,f,d⟩⟩:=e
 ·exact .inl ⟨List.eq_nil_of_length_eq_zero h1,a,rfl⟩
 ·refine .inr ⟨g,cap,cur,rfl,b g (by cases cap with|zero=>omega|succ c=>rfl),hg,fun i hi=>?_⟩;have h1:=he.2 i (y.getD i 0) (by rw[show y.getD i 0=y[i]from by simp_all];exact List.getElem?_eq_getElem hi);have h1:(cs.drop (i*1)).take 1=[.int .i64 (y.getD i 0)]:=h1;have hl:(cur.toList.take (y.length*1))=cs:=d;have h:cs[i]?=some (.int .i64 (y.getD i 0)):=by
   have:=congrArg (fun l=>l[0]?) h1
   grind
  grind
theorem w0E {f:Nat}{m:List C0->Option (List Int)}(h:U0 en ⟨f,[.d (.list (.st 3))],.own 3 (.int .i64),[],m⟩){w:World}{S:D0}{l:List C0}{y:List Int}{c:List Value}
  (hm:m l=some y) (hl:SR en w.heap S (.d (.list (.st 3))) l c []) (C:∀b,S b->b<w.heap.size):
  Calls en.P f #[M3 false c] w fun e w1=>∃v,e=.returned v/\SlI w1.heap w.heap.size v y/\D9 C3 w w1:=by
 refine(h w S [M3 false c] [] l y hm (U9 ⟨c,M3 false c,[],[],[],rfl,rfl,rfl,hl,a0M⟩) C (by rintro b ⟨v,t,_⟩;grind) (by intro i j v v' _ t;simp)).mono ?_
 rintro e w1 ⟨v,S1,pl1,rfl,g,hb,hk,hs1,hs2,hap,hbl⟩
 have g:E2 en w1.heap S1 [.own 3 (.int .i64)] y [v] pl1:=g;obtain⟨c1,u,x,p1,p2,e0,rfl,z,h1,J⟩:=g;cases e0;obtain⟨v1,cs,rfl,rfl,U,a,o⟩:=h1;subst z;refine⟨v,rfl,SlI.of a o (fun k hk=>?_),⟨hb.os,hb.tape,hb.output,hb.size,fun k hk _=>hb.block k hk (by rintro⟨v,t,_⟩;grind)⟩⟩;have s:Bk v k:=by
  obtain⟨A,cc,p⟩:=Row.form a;rw[p]at hk ⊢;exact hk
 rcases(hbl k ⟨v,Z',s⟩).2 with⟨v2,I,_⟩|h
 ·grind
 omega
structure JW (W0:World)(Bq R:Nat)(q r:Int)(lo:Obj)(W:World):Prop where
 os:W.os=W0.os
 tape:W.tape=W0.tape
 output:W.output=W0.output
 size:W.heap.size=W0.heap.size+2
 bq:W.heap[Bq]?=some (.cells #[.int .i64 q] 3 (0,0))
 br:W.heap[R]?=some (.cells #[.int .i64 r] 3 (0,0))
 dd:W.heap[W0.heap.size]?=some (.deferred (some []))
 ll:W.heap[W0.heap.size+1]?=some lo
 rest:∀j,j<W0.heap.size->j≠Bq->j≠R->W.heap[j]?=W0.heap[j]?
def v0N {W:World}{B:Nat}{v a:Value}{t:TypeId}(h:W.heap[B]?=some (.cells #[v] t (0,0))):(W.setCell ⟨B,0,none⟩ a).heap[B]?=some (.cells #[a] t (0,0)):=by
 simp[World.setCell,Array.getElem?_modify,h]
section
variable {W0 W:World}{Bq R:Nat}{q q' r r':Int}{lo lo':Obj}
def JW.A0S (h:JW W0 Bq R q r lo W)(a:Bq≠R)(hl:Bq<W0.heap.size):JW W0 Bq R q' r lo (W.setCell ⟨Bq,0,none⟩ (.int .i64 q')):=by
 have e:∀k,k≠Bq->(W.setCell ⟨Bq,0,none⟩ (.int .i64 q')).heap[k]?=W.heap[k]?:=fun k hk=>Below.heap_setCell W _ _ k hk;exact⟨h.os,h.tape,h.output,by simp[World.setCell];exact h.size,v0N h.bq,(e _ (Ne.symm a)).trans h.br,(e _ O').trans h.dd,(e _ O').trans h.ll,fun j b h1 c=>(e _ h1).trans (h.rest j b h1 c)⟩
def JW.r0V (h:JW W0 Bq R q r lo W)(a:Bq≠R)(hl:R<W0.heap.size):JW W0 Bq R q r' lo (W.setCell ⟨R,0,none⟩ (.int .i64 r')):=by
 have e:∀k,k≠R->(W.setCell ⟨R,0,none⟩ (.int .i64 r')).heap[k]?=W.heap[k]?:=fun k hk=>Below.heap_setCell W _ _ k hk;exact⟨h.os,h.tape,h.output,by simp[World.setCell];exact h.size,(e _ a).trans h.bq,v0N h.br,(e _ O').trans h.dd,(e _ O').trans h.ll,fun j c h1 b=>(e _ b).trans (h.rest j c h1 b)⟩
def JW.put (h:JW W0 Bq R q r lo W)(hl:Bq<W0.heap.size)(c:R<W0.heap.size):JW W0 Bq R q r lo' (W.putObj (W0.heap.size+1) lo'):=by
 have e:∀k,k≠W0.heap.size+1->(W.putObj (W0.heap.size+1) lo').heap[k]?=W.heap[k]?:=fun k hk=>World.putObj_heap_other hk;exact⟨h.os,h.tape,h.output,by rw[World.putObj_size];exact h.size,(e _ O').trans h.bq,(e _ O').trans h.br,(e _ O').trans h.dd,World.putObj_heap_same (by rw[h.size];omega),fun j a h1 b=>(e _ O').trans (h.rest j a h1 b)⟩
def JW.drew (h:JW W0 Bq R q r lo W):JW W0 Bq R q r lo { W with drawn:=W.drawn+1 }:=⟨h.os,h.tape,h.output,h.size,h.bq,h.br,h.dd,h.ll,h.rest⟩
end
def z0i (a:Int->Option (Q0 Int Int))(W0:World)(Bq R:Nat)(q:Int)(lo:Obj)(a0:Addr)(m:Nat):Exit->Act->World->Prop
 |.normal,_,b=>∃q',a q=some (.next q')/\JW W0 Bq R q 0 lo b/\q<m/\b.cell? (a0.add q.toNat)=some (.int .i64 q')
 |.ret,_,b=>a q=some (.done q)/\JW W0 Bq R q q lo b
 |_,_,_=>False
def j7 {W:World}{B:Nat}{v:Value}{t:TypeId}(h:W.heap[B]?=some (.cells #[v] t (0,0))):W.cell? ⟨B,0,none⟩=some v/\W.frozen? ⟨B,0,none⟩=false:=by
 simp_all[World.cell?,World.frozen?]
theorem u09 {W:World}{g k:Nat}{cur:Array Value}{t:TypeId}{v:Value}(h:W.heap[g]?=some (.cells cur t (0,0)))(a:cur[k]?=some v):W.cell? ((⟨g,0,none⟩:Addr).add k)=some v:=by
 grind [World.cell?,Addr.add]
def n0f (W:World)(v:Value)(t:TypeId):(W.alloc (.cells #[v] t)).cell? ⟨W.heap.size,0,none⟩=some v/\(W.alloc (.cells #[v] t)).frozen? ⟨W.heap.size,0,none⟩=false:=
 j7 (World.alloc_heap_new W _)
theorem A04 {F:Fence}{n:Nat}{g:Operand}{ps:Array Tmp}{assign body:Code}{Q:Exit->Act->World->Prop}{a:Act}{w:World}(c6:F.round=none)(h3:3<=n)(c0:F.fn 238)(e1:ps.size=1)
  {Bq y R m c:Nat} {a0:Addr} {q0 res:Int} (hg:a.eval g=.func (.func 238) #[] #[.pointer (some ⟨Bq,0,none⟩),.pointer (some ⟨y,0,none⟩)])
  (f:Bq<w.heap.size) (c3:Bq≠R) (hR:R<w.heap.size) (b5:y<w.heap.size) (b1:y≠Bq) (b2:y≠R)
  (c5:w.heap[Bq]?=some (.cells #[.int .i64 q0] 3 (0,0))) (c4:w.heap[R]?=some (.cells #[.int .i64 0] 3 (0,0))) (b3:w.heap[y]?=some (.cells #[.slice (some a0) m c] 22 (0,0)))
  {b:Int->Option (Q0 Int Int)} {k:Nat} (hk:iter b k q0=some res) (a1:∀q,q<0->b q=some (.done (-1))) (a₁:Int->Act)
  (s:∀(l:Nat) (q:Int) (W:World) (K:Act->World->Prop),K (a₁ q) W->
   assign.wpIn (F.inRound l) (n-1-1) Tryz.prog (Exit.then K (fun _ _ _=>False)) { tmps:=(ps.zip #[.int .i64 q]).foldl (fun t (p,v)=>t.setIfInBounds p v) a.tmps,defers:=[] } W)
  (I:∀(l:Nat) (q:Int) (lo:Obj) (W:World),JW w Bq R q 0 lo W->b q≠none->0<=q->body.wpIn (F.inRound l) (n-1-1) Tryz.prog (z0i b w Bq R q lo a0 m) (a₁ q) W)
  (C:∀(q:Int) (lo:Obj) (W:World),JW w Bq R q 0 lo W->res=-1->Q .normal { a with defers:={ target:=.collected w.heap.size,args:=#[] } :: a.defers } W)
  (J:∀(q:Int) (lo:Obj) (W:World),JW w Bq R q res lo W->Code.ret.wpIn F n Tryz.prog Q { a with defers:={ target:=.collected w.heap.size,args:=#[] } :: a.defers } W):
  (Code.rangeFunc g ps assign body).wpIn F n Tryz.prog Q a w:=by
 refine wpIn_rangeFunc ?_;intro fn b4;obtain⟨rec,d⟩:∃rec:LoopState->Option Code->Loop,rec=fun st pe=>{ state:=st,pending:=pe,fn,tmps:=a.tmps,params:=ps,assign,body,defers:=w.heap.size }:=⟨_,rfl⟩
 obtain⟨x,u⟩:∃x,(w.alloc (.deferred (some []))).alloc (.loop (rec .ready none))=x:=⟨_,rfl⟩
 have hold:∀j,j<w.heap.size->x.heap[j]?=w.heap[j]?:=fun j i=>by
  grind [Below.heap_alloc]
 have c8:JW w Bq R q0 0 (.loop (rec .ready none)) x:=by
  refine⟨by rw[<-u];rfl,by rw[<-u];rfl,by rw[<-u];rfl,by rw[<-u];simp,(hold _ f).trans c5,(hold _ hR).trans c4,?_,?_,fun j i _ _=>hold j i⟩
  ·grind [Below.heap_alloc,World.alloc_heap_new]
  grind [World.alloc_heap_new,World.size_alloc]
 have eg:∀args w,(callFunc 238 args).run Tryz.prog w=.ok (.enter 238 args) w:=enters_of Tryz.func238 (by rfl) rfl;refine⟨w.heap.size+1,[{ target:=.collected w.heap.size,args:=#[] }],x,{ target:=.fn (.func 238) #[.pointer (some ⟨Bq,0,none⟩),.pointer (some ⟨y,0,none⟩)],args:=#[.func (.yield (w.heap.size+1)) #[] #[]] },x,238,
  #[.func (.yield (w.heap.size+1)) #[] #[],.pointer (some ⟨Bq,0,none⟩),.pointer (some ⟨y,0,none⟩)],x,?_,?_,?_,?_,fun _=>O',?_⟩
 ·simp_all[run_enterLoop_outer]
 ·simp only[resolve,hg];simp[go_sem]
 ·simp_all[Target.leads]
 ·rfl
 ·refine(I0a F (n-1) c0 c6 O' (w.heap.size+1) Bq y a0 m c (fun k q W=>iter b k q=some res/\JW w Bq R q 0 (.loop (rec .ready none)) W) (fun W=>∃q,JW w Bq R q res (.loop (rec .done (some .ret))) W)
   (fun k q W h=>(j7 h.2.bq).1) ?_ x k q0 ⟨hk,c8⟩).mono ?_
  ·rintro k q W ⟨o,i⟩ hq
   cases k with
   |zero=>cases o
   |succ k=>
    have hy:=run_yield (P:=Tryz.prog) (args:=#[.int .i64 q]) i.ll (by simp_all);have hs:b q≠none:=fun e=>by simp_all[iter]
    rw[d]at hy;refine⟨fn,_,assign,body,hy,roundIn_of_wpIn b4 (s _ q W _ ⟨_,run_beginRound i.ll (by grind),?_⟩)⟩;refine wpIn_mono (I _ q _ _ (i.put f hR) hs hq) ?_
    rintro e a3 W3 hp
    cases e with
    |normal=>
     obtain⟨q',h1,U,h3,h4⟩:=hp;have he:=run_endRound (P:=Tryz.prog) none U.ll;have z:=U.put (lo':=.loop (rec .ready none)) f hR;rw[d]at he z ⊢;refine⟨_,_,he,.inl ⟨rfl,q',k,(j7 z.bq).1,(j7 z.bq).2,(j7 ((z.rest _ b5 b1 b2).trans b3)).1,h3,?_,O',by simp_all[iter],z.A0S c3 f⟩⟩;exact cell_kept h4 (grownBy_putObj' _ (w.heap.size+1) _) (fun r e=>by cases e;exact⟨_,U.ll,rfl⟩)
    |ret=>
     obtain⟨h1,U⟩:=hp;have he:=run_endRound (P:=Tryz.prog) (some .ret) U.ll;have z:=U.put (lo':=.loop (rec .done (some .ret))) f hR;have hr:q=res:=by simpa[iter,h1]using o
     subst hr;rw[d]at he z ⊢;exact⟨_,_,he,.inr ⟨rfl,q,z⟩⟩
    |exit id=>exact hp.elim
    |goto t=>exact hp.elim
    |panic ch=>exact hp.elim
    |outgrown=>exact hp.elim
  ·rintro e W2 ⟨⟨v,rfl⟩,(⟨k,q,hq,o,i⟩|⟨q,i⟩)⟩
   ·have hr:res=-1:=by
     cases k with
     |zero=>cases o
     |succ k=>simpa[iter,a1 q hq,eq_comm]using o
    have he:=run_endLoop (P:=Tryz.prog) i.ll (by rw[d];simp);rw[d]at he;exact⟨none,_,he,C _ _ _ (i.put f hR) hr⟩
   ·have he:=run_endLoop (P:=Tryz.prog) i.ll (by rw[d];simp);rw[d]at he;exact⟨some .ret,_,he,J _ _ _ (i.put f hR)⟩
def C0E (u v z:Value):#[u,v,z]++Array.replicate (Tryz.f221.ntmps - #[u,v,z].size) undef=#[u,v,z,undef,undef,undef,undef,undef,undef,undef,undef,undef,undef,undef,undef,undef,undef,undef,undef,undef,undef,undef,undef,undef,undef,undef,undef,undef,undef,undef,undef,undef,undef,undef,undef,undef,undef,undef,undef,undef,undef,undef,undef,undef,undef,undef,undef,undef]:=by
 simp
set_option maxHeartbeats 4000000 in
theorem x0L (n:Nat)(h1:1<=n)(h3:3<=n)(u:Value)(a b:Int)(up low:List Int)(res:Int)(w:World)
  (b2:∀w',Below w.heap.size w w'->Calls Tryz.prog 210 #[u] w' fun e w1=>∃v,e=.returned v/\SlI w1.heap w'.heap.size v up/\D9 C3 w' w1)
  (e7:(decide (a<0)||(decide (b<0)||(decide (a>=(up.length:Int))||decide (b>=(up.length:Int)))))=false->(∀w',Below w.heap.size w w'->Calls Tryz.prog 144 #[u] w' fun e w1=>∃v,e=.returned v/\SlI w1.heap w'.heap.size v low/\D9 C3 w' w1)/\
   ∃k,iter (a0E up low b) k a=some res)
  (J:(decide (a<0)||(decide (b<0)||(decide (a>=(up.length:Int))||decide (b>=(up.length:Int)))))=true->res=-1):
  CallsIn Fence.wide n Tryz.prog 221 #[u,.int .i64 a,.int .i64 b] w fun e w1=>e=.returned (.int .i64 res)/\Below w.heap.size w w1:=by
 have b1:∀{m:Nat} {f:FuncId} {args:Array Value} {w:World} {R:Ending->World->Prop},Calls Tryz.prog f args w R->CallsIn Fence.wide m Tryz.prog f args w R:=fun h=>callsIn_wide.2 h;have c5:Fence.wide.round=none:=rfl;have f210:Fence.wide.fn 210:=trivial;have f144:Fence.wide.fn 144:=trivial;have f227:Fence.wide.fn 227:=trivial;have f238:Fence.wide.fn 238:=trivial;have f221:Fence.wide.fn 221:=trivial;generalize hF:Fence.wide=F at *;refine callsIn_of_wp_marks Tryz.func221 rfl f221 ?_ c5;rw[C0E];have a1:Below w.heap.size w ((w.alloc (.cells #[.int .i64 b] 3)).alloc (.cells #[.int .i64 0] 3)):=((Below.refl _ w).alloc (Nat.le_refl _) _).alloc Z' _;have cb:=n0f w (.int .i64 b) 3;have cr:=n0f (w.alloc (.cells #[.int .i64 b] 3)) (.int .i64 0) 3;have c:∀{t:World},D9 C3 ((w.alloc (.cells #[.int .i64 b] 3)).alloc (.cells #[.int .i64 0] 3)) t->t.heap[w.heap.size]?=some (.cells #[.int .i64 b] 3 (0,0))/\t.heap[w.heap.size+1]?=some (.cells #[.int .i64 0] 3 (0,0))/\Below w.heap.size w t:=by
  intro t y;refine⟨(y.below.block _ V').trans ?_,(y.below.block _ Z').trans ?_,a1.trans (y.below.mono V')⟩
  ·rw[Below.heap_alloc _ _ _ Z'];exact World.alloc_heap_new w _
  grind [World.alloc_heap_new,World.size_alloc]
 have c4:decide (a<0)=true\/(decide (a<0)=false/\decide (b<0)=true)\/(decide (a<0)=false/\decide (b<0)=false/\decide (a>=(up.length:Int))=true)\/
   (decide (a<0)=false/\decide (b<0)=false/\decide (a>=(up.length:Int))=false/\decide (b>=(up.length:Int))=true)\/(decide (a<0)=false/\decide (b<0)=false/\decide (a>=(up.length:Int))=false/\decide (b>=(up.length:Int))=false):=by
  cases decide (a<0)<;>cases decide (b<0)<;>cases decide (a>=(up.length:Int))<;>cases decide (b>=(up.length:Int))<;>simp
 have I:∀(t:World) (tm:Array Value),tm[6]?=some (.pointer (some ⟨w.heap.size+1,0,none⟩))->D9 C3 ((w.alloc (.cells #[.int .i64 b] 3)).alloc (.cells #[.int .i64 0] 3)) t->res=-1->
   bodyPostM F n Tryz.prog Tryz.f221 (fun e w1=>e=Ending.returned (Value.int IntKind.i64 res)/\Below w.heap.size w w1) Exit.ret { tmps:=tm,defers:=[] } (t.setCell ⟨w.heap.size+1,0,none⟩ (.int .i64 (-1))):=by
  intro t tm ht y hr;obtain⟨q1,q2,q3⟩:=c y;have hc:=(j7 q2).1;have hs:=World.cell?_setCell_same' t ⟨w.heap.size+1,0,none⟩ (.int .i64 (-1)) (by rw[hc];rfl);refine⟨.int .i64 (-1),?_,?_⟩
  ·simp[results,Tryz.f221,go_sem,hs,ht]
  ·exact⟨by rw[hr],q3.trans ((Below.refl w.heap.size t).setCell (p:=⟨w.heap.size+1,0,none⟩) Z' _)⟩
 rcases c4 with ha|⟨ha,hb0⟩|⟨ha,hb0,hc0⟩|⟨ha,hb0,hc0,hd0⟩|⟨ha,hb0,hc0,hd0⟩
 ·have hr:res=-1:=J (by rw[ha];rfl)
  gi_wp2_with (gi_at_call 210;refine(b1 (b2 _ a1)).mono ?_;rintro e t ⟨v,rfl,hv,y⟩;obtain⟨A,cc,rfl⟩:=hv.form;obtain⟨q1,q2,q3⟩:=c y;have b3:=j7 q1;have b4:=j7 q2)
  exact I _ _ rfl y hr
 ·have hr:res=-1:=J (by rw[ha,hb0];rfl)
  gi_wp2_with (gi_at_call 210;refine(b1 (b2 _ a1)).mono ?_;rintro e t ⟨v,rfl,hv,y⟩;obtain⟨A,cc,rfl⟩:=hv.form;obtain⟨q1,q2,q3⟩:=c y;have b3:=j7 q1;have b4:=j7 q2)
  exact I _ _ rfl y hr
 ·have hr:res=-1:=J (by rw[ha,hb0,hc0];rfl)
  gi_wp2_with (gi_at_call 210;refine(b1 (b2 _ a1)).mono ?_;rintro e t ⟨v,rfl,hv,y⟩;obtain⟨A,cc,rfl⟩:=hv.form;obtain⟨q1,q2,q3⟩:=c y;have b3:=j7 q1;have b4:=j7 q2)
  exact I _ _ rfl y hr
 ·have hr:res=-1:=J (by rw[ha,hb0,hc0,hd0];rfl)
  gi_wp2_with (gi_at_call 210;refine(b1 (b2 _ a1)).mono ?_;rintro e t ⟨v,rfl,hv,y⟩;obtain⟨A,cc,rfl⟩:=hv.form;obtain⟨q1,q2,q3⟩:=c y;have b3:=j7 q1;have b4:=j7 q2)
  exact I _ _ rfl y hr
 obtain⟨hL,k,hk⟩:=e7 (by rw[ha,hb0,hc0,hd0];rfl)
 gi_wp2_with (first
  |(gi_at_call 210;refine(b1 (b2 _ a1)).mono ?_;rintro e t ⟨v,rfl,hv,y⟩;obtain⟨A,cc,rfl⟩:=hv.form;obtain⟨q1,q2,q3⟩:=c y;have b3:=j7 q1;have b4:=j7 q2)
  |(gi_at_call 144;refine(b1 (hL _ q3)).mono ?_;rintro e d ⟨v4,rfl,hv4,hb4⟩;obtain⟨A4,s,rfl⟩:=hv4.form;have c8:=n0f d (.slice none 0 0) 22)
  |(gi_at_call 227;refine(A0J F _ f227 c5 _ _ _ _ _).mono ?_;rintro e w5 ⟨rfl,rfl⟩))
 have k6:¬a<0:=of_decide_eq_false ha;have h8:¬a>=(up.length:Int):=of_decide_eq_false hc0;obtain⟨g,hA,k5,cur,hg,e6⟩:∃g,A=some ⟨g,0,none⟩/\w.heap.size+2<=g/\∃cur,t.heap[g]?=some (.cells cur 3 (0,0))/\∀i:Nat,i<up.length->cur[i]?=some (.int .i64 (up.getD i 0)):=by
  rcases hv with⟨h0,_⟩|⟨g,cap,cur,h1,h2,h3,h4⟩
  ·rw[h0]at h8;simp at h8;omega
  ·cases h1;exact⟨g,rfl,by simp at h2;omega,cur,h3,h4⟩
 subst hA;have k3:g<t.heap.size:=(Array.getElem?_eq_some_iff.1 hg).1;have k2:t.heap.size<=d.heap.size:=hb4.size;have l2:w.heap.size+1<t.heap.size:=(Array.getElem?_eq_some_iff.1 q2).1;have hold:∀(j:Nat),j<d.heap.size->(((d.alloc (.cells #[.slice A4 low.length s] 22)).alloc (.cells #[.slice (some ⟨g,0,none⟩) up.length cc] 22)).alloc (.cells #[.int .i64 a] 3)).heap[j]?=d.heap[j]?:=fun j z=>
  (Below.heap_alloc _ _ _ V').trans ((Below.heap_alloc _ _ _ V').trans (Below.heap_alloc _ _ _ z))
 have i1:(((d.alloc (.cells #[.slice A4 low.length s] 22)).alloc (.cells #[.slice (some ⟨g,0,none⟩) up.length cc] 22)).alloc (.cells #[.int .i64 a] 3)).heap[d.heap.size]?=some (.cells #[.slice A4 low.length s] 22 (0,0)):=
  (Below.heap_alloc _ _ _ V').trans ((Below.heap_alloc _ _ _ Z').trans (World.alloc_heap_new _ _))
 have j0:(((d.alloc (.cells #[.slice A4 low.length s] 22)).alloc (.cells #[.slice (some ⟨g,0,none⟩) up.length cc] 22)).alloc (.cells #[.int .i64 a] 3)).heap[d.heap.size+1]?=some (.cells #[.slice (some ⟨g,0,none⟩) up.length cc] 22 (0,0)):=by
  refine(Below.heap_alloc _ _ _ Z').trans ?_;have:=World.alloc_heap_new (d.alloc (.cells #[.slice A4 low.length s] 22)) (.cells #[.slice (some ⟨g,0,none⟩) up.length cc] 22);rwa [World.size_alloc]at this
 have j1:(((d.alloc (.cells #[.slice A4 low.length s] 22)).alloc (.cells #[.slice (some ⟨g,0,none⟩) up.length cc] 22)).alloc (.cells #[.int .i64 a] 3)).heap[d.heap.size+1+1]?=some (.cells #[.int .i64 a] 3 (0,0)):=by
  have:=World.alloc_heap_new ((d.alloc (.cells #[.slice A4 low.length s] 22)).alloc (.cells #[.slice (some ⟨g,0,none⟩) up.length cc] 22)) (.cells #[.int .i64 a] 3);rwa [World.size_alloc,World.size_alloc]at this
 have e9:(((d.alloc (.cells #[.slice A4 low.length s] 22)).alloc (.cells #[.slice (some ⟨g,0,none⟩) up.length cc] 22)).alloc (.cells #[.int .i64 a] 3)).heap.size=d.heap.size+3:=Z'
 have e5:Below w.heap.size w (((d.alloc (.cells #[.slice A4 low.length s] 22)).alloc (.cells #[.slice (some ⟨g,0,none⟩) up.length cc] 22)).alloc (.cells #[.int .i64 a] 3)):=
  ((((q3.trans (hb4.below.mono O')).alloc O' _).alloc V' _).alloc V' _)
 generalize (((d.alloc (.cells #[.slice A4 low.length s] 22)).alloc (.cells #[.slice (some ⟨g,0,none⟩) up.length cc] 22)).alloc (.cells #[.int .i64 a] 3))=W0 at *;have j2:W0.heap[w.heap.size]?=some (.cells #[.int .i64 b] 3 (0,0)):=(hold _ O').trans ((hb4.below.block _ O').trans q1);have j3:W0.heap[w.heap.size+1]?=some (.cells #[.int .i64 0] 3 (0,0)):=(hold _ O').trans ((hb4.below.block _ O').trans q2);have k1:W0.heap[g]?=some (.cells cur 3 (0,0)):=(hold _ O').trans ((hb4.below.block _ O').trans hg);have c0:∀{q r:Int} {lo:Obj} {W:World},JW W0 (d.heap.size+1+1) (w.heap.size+1) q r lo W->Below w.heap.size w W:=fun h=>
  e5.trans ⟨h.os,h.tape,h.output,by rw[h.size];omega,fun j z=>h.rest j O' O' O'⟩
 have b5:∀{W:World} {r:Nat} {o:Obj},w.heap.size<=r->Below w.heap.size W (W.putObj r o):=fun h=>⟨rfl,rfl,rfl,Z',fun j z=>World.putObj_heap_other O'⟩
 refine A04 c5 h3 f238 rfl rfl O' O' O' O' O' O' j1 j3 j0 hk (fun q hq=>by simp[a0E];omega)
  (fun x=>{ tmps:=#[u,.int .i64 a,.int .i64 b,undef,undef,.pointer (some ⟨w.heap.size,0,none⟩),.pointer (some ⟨w.heap.size+1,0,none⟩),.slice (some ⟨g,0,none⟩) up.length cc,.pointer (some ⟨d.heap.size,0,none⟩),.int .i64 x,u,.slice (some ⟨g,0,none⟩) up.length cc,
   .int .i64 a,.bool false,.bool false,.int .i64 b,.bool false,.bool false,.bool false,.int .i64 a,.slice (some ⟨g,0,none⟩) up.length cc,.int .i64 up.length,.bool false,.bool false,.bool false,.int .i64 b,.slice (some ⟨g,0,none⟩) up.length cc,.int .i64 up.length,.bool false,.bool false,
   u,.slice A4 low.length s,.slice (some ⟨g,0,none⟩) up.length cc,.int .i64 a,.func (.func 238) #[] #[.pointer (some ⟨d.heap.size+1+1,0,none⟩),.pointer (some ⟨d.heap.size+1,0,none⟩)],.int .i64 x,
   undef,undef,undef,undef,undef,undef,undef,undef,undef,undef,undef,undef],defers:=[] }) ?assign ?body ?done ?stop
 case assign=>
  intro l x W K hK
  gi_wp2
  exact hK
 case body=>
  intro l q lo W z hs hq;subst hF;have h7:y0 low q=true:=by
   cases h:y0 low q
   ·simp[a0E,h,hq]at hs
   ·rfl
  obtain⟨l0,c6⟩:=a0o h7;obtain⟨a4,h4,k4⟩:∃a4,A4=some a4/\W.cell? (a4.add q.toNat)=some (.int .i64 (gt low q)):=by
   rcases hv4 with⟨h0,_⟩|⟨g4,cap,cur4,e1,e2,e3,e4⟩
   ·rw[h0]at c6;simp at c6;omega
   ·cases e1;refine⟨_,rfl,?_⟩;have k0:g4<d.heap.size:=(Array.getElem?_eq_some_iff.1 e3).1;have:=(z.rest g4 O' O' O').trans ((hold _ k0).trans e3);have h6:=e4 q.toNat O';exact u09 this h6
  subst h4;have k8:=(j7 ((z.rest d.heap.size O' O' O').trans i1)).1;have kb:=(j7 ((z.rest w.heap.size O' O' O').trans j2)).1;have kr:=j7 z.br;have U:a0E up low b q=if(decide (gt low q<=b)&&decide (b<=q))=true then some (.done q)else if y0 up q=true then some (.next (gt up q))else none:=by
   unfold a0E;rw[if_pos (decide_eq_true hq),h7];simp only[Bool.true_and]
  cases e1:decide (gt low q<=b)
  all_goals cases e2:decide (b<=q)
  all_goals gi_wp2
  all_goals refine A0u c0m.mix Z' X' ?_
  all_goals (repeat still_step)
  all_goals refine wpStill_nil ?_
  all_goals gi_wp2
  all_goals rw[e1,e2]at U
  all_goals first
   |exact⟨U,z.drew.r0V O' O'⟩
   |have h9:y0 up q=true:=by
     cases h:y0 up q with
     |false=>rw[h]at U;exact absurd U hs
     |true=>rfl
    obtain⟨_,l1⟩:=a0o h9;rw[h9]at U;exact⟨gt up q,U,z.drew,O',u09 ((z.drew.rest g O' O' O').trans k1) (e6 q.toNat O')⟩
 case done=>
  intro q lo W z hr;have l3:=j7 z.br
  gi_wp2
  have h5:=z.r0V (r':=-1) O' O';have C:=h5.dd;rw[e9]at C;refine⟨Z',.inl ⟨_,_,rfl,run_takeDeferred C,?_⟩⟩;have c3:=cell_kept (j7 h5.br).1 (grownBy_putObj' _ (d.heap.size+3) (.deferred none)) (fun r e=>by cases e;exact⟨_,C,rfl⟩);refine⟨.int .i64 (-1),?_,by rw[<-hr],?_⟩
  ·simp[results,Tryz.f221,go_sem,c3]
  ·exact(c0 h5).trans (b5 O')
 case stop=>
  intro q lo W z
  gi_wp2
  have C:=z.dd;rw[e9]at C;refine⟨Z',.inl ⟨_,_,rfl,run_takeDeferred C,?_⟩⟩;have c3:=cell_kept (j7 z.br).1 (grownBy_putObj' _ (d.heap.size+3) (.deferred none)) (fun r e=>by cases e;exact⟨_,C,rfl⟩);refine⟨.int .i64 res,?_,rfl,?_⟩
  ·simp[results,Tryz.f221,go_sem,c3]
  ·exact(c0 z).trans (b5 O')
set_option maxHeartbeats 4000000 in
def x0h {w:World}{S:D0}{us pl:List Value}{x:J4 en.D [.d (.list (.st 3)),.d (.int .i64),.d (.int .i64)]}(e:E2 en w.heap S [.d (.list (.st 3)),.d (.int .i64),.d (.int .i64)] x us pl):
  pl=[]/\∃c,us=[M3 false c,.int .i64 (show Int from x.2.1),.int .i64 (show Int from x.2.2)]/\(J0 en (.list (.st 3))).R w.heap S c x.1:=by
 obtain⟨c,u,i,p1,y,rfl,rfl,k,h1,p⟩:=e;obtain⟨c2,v,m,s,C,rfl,rfl,f,a,h⟩:=p;obtain⟨c3,t,g,I,z,rfl,rfl,o,b,j⟩:=h;obtain⟨rfl,rfl⟩:=c0e j;obtain⟨rfl,h1⟩:=h1;obtain⟨rfl,a⟩:=a;obtain⟨rfl,b⟩:=b;subst a;subst b;subst k;subst f;subst o;exact⟨rfl,c,rfl,h1⟩
def q0Y {E:Env}{H:I0}{S:D0}{t:U}{x:Q5 E.D (.d t)}{c:List Value}(h:(J0 E t).R H S c x):SR E H S (.d t) x c []:=by
 unfold SR
 simp_all
def I0h (F:Nat)(m:U0 en (f0R F))(k:U0 en (f0O F))(w:World)(S:D0)(c:List Value)(l:List C0)(a b y:Int)(hm:g0D F l a b=some y)
  (h1:(J0 en (.list (.st 3))).R w.heap S c l) (s:∀b,S b->b<w.heap.size):
  Calls Tryz.prog 221 #[M3 false c,.int .i64 a,.int .i64 b] w fun e w1=>e=.returned (.int .i64 y)/\Below w.heap.size w w1:=by
 have hl:∀w',Below w.heap.size w w'->SR en w'.heap S (.d (.list (.st 3))) l c []:=fun w' f=>by
  exact q0Y (t:=.list (.st 3)) ((J0 en (.list (.st 3))).L0 ⟨f.size,fun b o hn=>⟨hn,f.block b o⟩⟩ h1)
 have j:∀w',Below w.heap.size w w'->∀b,S b->b<w'.heap.size:=fun w' f b h=>Nat.lt_of_lt_of_le (s b h) f.size;unfold g0D at hm;cases p:a0l F l with
 |none=>simp_all
 |some up=>
  rw[p]at hm;have hm:(if(decide (a<0)||(decide (b<0)||(decide (a>=(up.length:Int))||decide (b>=(up.length:Int)))))=true then some (-1)else Option.bind (I9 F l) fun low=>iter (a0E up low b) F a)=some y:=hm;obtain⟨low,g,i⟩:∃low:List Int,((decide (a<0)||(decide (b<0)||(decide (a>=(up.length:Int))||decide (b>=(up.length:Int)))))=false->I9 F l=some low/\iter (a0E up low b) F a=some y)/\
    ((decide (a<0)||(decide (b<0)||(decide (a>=(up.length:Int))||decide (b>=(up.length:Int)))))=true->y=-1):=by
   cases u:(decide (a<0)||(decide (b<0)||(decide (a>=(up.length:Int))||decide (b>=(up.length:Int)))))with
   |true=>simp_all
   |false=>
    cases el:I9 F l with
    |none=>simp_all
    |some low=>simp_all
  refine((callsIn_wide (n:=9)).1 (x0L 9 O' O' (M3 false c) a b up low y w (fun w' f=>w0E m p (hl w' f) (j w' f))
   (fun h=>⟨fun w' f=>w0E k (g h).1 (hl w' f) (j w' f),F,(g h).2⟩) i)).mono ?_
  simp
def F0Y (F:Nat)(f:U0 en (f0R F))(a:U0 en (f0O F)):U0 en (n00 F):=by
 intro w S us pl x y hm i j m o;obtain⟨rfl,c,rfl,h1⟩:=x0h i;refine(I0h F f a w S c x.1 x.2.1 x.2.2 y hm h1 j).mono ?_
 rintro e w1 ⟨rfl,hb⟩
 refine⟨_,S,[],rfl,?_,⟨hb.os,hb.tape,hb.output,hb.size,fun k hk _=>hb.block k hk⟩,⟨hb.size,fun b g hn=>⟨hn,hb.block b g⟩⟩,fun b h _=>h,fun b h=>Nat.lt_of_lt_of_le (j b h) hb.size,O',by simp_all⟩;refine U9 (E:=en) (x:=.d (.int .i64)) (r:=[]) ⟨[.int .i64 y],.int .i64 y,[],[],[],rfl,rfl,rfl,q0Y rfl,a0M⟩
