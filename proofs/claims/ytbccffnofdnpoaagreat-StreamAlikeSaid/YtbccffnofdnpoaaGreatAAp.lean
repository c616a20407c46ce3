/- P. Its conditions: none. -/
import Derived.WalkKit
import Derived.Handy
import Derived.Deep.RegionWith
import Derived.Test.YtbccffnofdnpoaaGreatAMd
import Derived.Test.YtbccffnofdnpoaaGreatAG24
import Derived.Test.YtbccffnofdnpoaaGreatAX17
set_option linter.all false
set_option maxRecDepth 100000
namespace Go.Proofs.YtbccffnofdnpoaaGreat
open Go.RowKit Go.Proofs
def chV (k now nn:Int):Value:=if k=1 then .iface 275 (.agg #[.int .i64 now])else if k=2 then .iface 276 (.agg #[.int .i64 now])else if k=3 then .iface 278 (.agg #[.int .i64 nn])else .nilIface
def m0d (k now nn:Int)(w:World):Calls Tryz.prog 100 #[.int .i64 k,.int .i64 now,.int .i64 nn] w fun e w'=>e=.returned (chV k now nn)/\w'=w:=by
 go_enter Tryz.func100,Tryz.ntmps100
 by_cases h1:k=1
 ·subst h1
  go_wp2
  go_ret
  exact⟨rfl,rfl⟩
 ·have d1:decide (k=1)=false:=by simp[h1]
  by_cases b:k=2
  ·subst b
   go_wp2
   go_ret
   exact⟨rfl,rfl⟩
  ·have d2:decide (k=2)=false:=by simp[b]
   by_cases a:k=3
   ·subst a
    go_wp2
    go_ret
    exact⟨rfl,rfl⟩
   ·have d3:decide (k=3)=false:=by simp[a]
    go_wp2
    go_ret
    exact⟨by simp[chV,h1,b,a],rfl⟩
theorem O0C (n:Nat) (x:Value) (w:World):(nilAhead (n+1) 275 x "gimlet/mark.change").run Tryz.prog w=.ok (some false) w:=by kernel_rfl
theorem L0D (n:Nat) (x:Value) (w:World):(nilAhead (n+1) 276 x "gimlet/mark.change").run Tryz.prog w=.ok (some false) w:=by kernel_rfl
theorem O0Z (n:Nat) (x:Value) (w:World):(nilAhead (n+1) 278 x "gimlet/mark.change").run Tryz.prog w=.ok (some false) w:=by kernel_rfl
theorem E0s (n:Nat) (x:Value) (w:World):(Go.method (n+1) 275 x "gimlet/mark.change").run Tryz.prog w=.ok (238,x) w:=by kernel_rfl
theorem N0a (n:Nat) (x:Value) (w:World):(Go.method (n+1) 276 x "gimlet/mark.change").run Tryz.prog w=.ok (239,x) w:=by kernel_rfl
theorem H06 (n:Nat) (x:Value) (w:World):(Go.method (n+1) 278 x "gimlet/mark.change").run Tryz.prog w=.ok (240,x) w:=by kernel_rfl
structure W5 (w:World)(g:Nat)(cur:Array Value)(w':World):Prop where
 os:w'.os=w.os
 tape:w'.tape=w.tape
 output:w'.output=w.output
 size:w.heap.size<=w'.heap.size
 hg:w'.heap[g]?=some (.cells cur 3 (0,0))
 rest:∀k,k<w.heap.size->k≠g->w'.heap[k]?=w.heap[k]?
section
variable {w w' w1:World}{g i:Nat}{cur cur':Array Value}{v:Value}
def W5.refl (h:w.heap[g]?=some (.cells cur 3 (0,0))):W5 w g cur w:=⟨rfl,rfl,rfl,Nat.le_refl _,h,fun _ _ _=>rfl⟩
def W5.alloc (h:W5 w g cur w')(o:Obj):W5 w g cur (w'.alloc o):=by
 have a:g<w'.heap.size:=(Array.getElem?_eq_some_iff.1 h.hg).1;exact⟨h.os,h.tape,h.output,by have:=h.size;simp;omega,(Below.heap_alloc _ _ _ a).trans h.hg,fun k hk hn=>(Below.heap_alloc _ _ _ (by have:=h.size;omega)).trans (h.rest k hk hn)⟩
theorem W5.set (h:W5 w g cur w')(i:Nat)(v:Value):W5 w g (cur.setIfInBounds i v) (w'.setCell ⟨g,i,none⟩ v):=by
 refine⟨h.os,h.tape,h.output,by have:=h.size;simp_all,?_,fun k hk hn=>?_⟩
 ·have:=h.hg
  grind [World.setCell]
 ·exact(Below.heap_setCell _ _ _ k hn).trans (h.rest k hk hn)
def W5.drew (h:W5 w g cur w'):W5 w g cur { w' with drawn:=w'.drawn+1 }:=⟨h.os,h.tape,h.output,h.size,h.hg,h.rest⟩
def W5.cell (h:W5 w g cur w'){x:Value}(hi:cur[i]?=some x):w'.cell? ⟨g,i,none⟩=some x/\w'.frozen? ⟨g,i,none⟩=false:=by
 constructor<;>simp[World.cell?,World.frozen?,h.hg,hi]
def W5.trans (h:W5 w g cur w')(a:W5 w' g cur' w1):W5 w g cur' w1:=
 ⟨a.os.trans h.os,a.tape.trans h.tape,a.output.trans h.output,Nat.le_trans h.size a.size,a.hg,fun k hk hn=>(a.rest k (Nat.lt_of_lt_of_le hk h.size) hn).trans (h.rest k hk hn)⟩
end
def O0a (now:Int){g i j:Nat}{cur:Array Value}{x y:Value}(w:World)(hg:w.heap[g]?=some (.cells cur 3 (0,0)))(hi:cur[i]?=some x)(c:cur[j]?=some y):
  Calls Tryz.prog 238 #[.agg #[.int .i64 now],.pointer (some ⟨g,i,none⟩),.pointer (some ⟨g,j,none⟩)] w fun e w'=>e=.returned (.tuple #[])/\W5 w g (cur.setIfInBounds i (.int .i64 now)) w':=by
 have a:=(W5.refl hg).alloc (.cells #[.int .i64 now] 275);obtain⟨h1,b⟩:=a.cell hi
 go_enter Tryz.func238,Tryz.ntmps238
 go_wp2
 go_end0
 exact⟨rfl,a.set _ _⟩
def B0E (now:Int){g i j:Nat}{cur:Array Value}{x y:Value}(w:World)(hg:w.heap[g]?=some (.cells cur 3 (0,0)))(hi:cur[i]?=some x)(b:cur[j]?=some y):
  Calls Tryz.prog 239 #[.agg #[.int .i64 now],.pointer (some ⟨g,i,none⟩),.pointer (some ⟨g,j,none⟩)] w fun e w'=>e=.returned (.tuple #[])/\W5 w g (cur.setIfInBounds j (.int .i64 now)) w':=by
 have a:=(W5.refl hg).alloc (.cells #[.int .i64 now] 276);obtain⟨h1,c⟩:=a.cell b
 go_enter Tryz.func239,Tryz.ntmps239
 go_wp2
 go_end0
 exact⟨rfl,a.set _ _⟩
def N09 (nn:Int){g i j:Nat}{cur:Array Value}{x y:Value}(w:World)(hg:w.heap[g]?=some (.cells cur 3 (0,0)))(hi:cur[i]?=some x)(h:cur[j]?=some y)(c:i≠j):
  Calls Tryz.prog 240 #[.agg #[.int .i64 nn],.pointer (some ⟨g,i,none⟩),.pointer (some ⟨g,j,none⟩)] w fun e w'=>e=.returned (.tuple #[])/\W5 w g ((cur.setIfInBounds i (.int .i64 nn)).setIfInBounds j (.int .i64 nn)) w':=by
 have b:=(W5.refl hg).alloc (.cells #[.int .i64 nn] 278);have f:g<w.heap.size:=(Array.getElem?_eq_some_iff.1 hg).1;obtain⟨h1,d⟩:=b.cell hi;obtain⟨h1,d⟩:=(W5.refl hg).cell hi;obtain⟨k,l⟩:=(W5.refl hg).cell h;have a:=((((W5.refl hg).set i (.int .i64 nn)).set j (.int .i64 nn)).alloc (.cells #[.int .i64 nn] 278)).drew
 go_enter Tryz.func240,Tryz.ntmps240
 go_wp2
 go_region
 all_goals (go_wp2;go_end0;exact⟨rfl,a⟩)
open Go.V hiding Row
open Go.X
structure Y7 (w:World)(v:Value)(o:List Int)(W:World):Prop where
 os:W.os=w.os
 tape:W.tape=w.tape
 output:W.output=w.output
 size:w.heap.size<=W.heap.size
 rest:∀k,k<w.heap.size->D1 v≠some k->W.heap[k]?=w.heap[k]?
 own:(o=[]/\∃a,v=.slice a 0 0)\/∃g cap cur,v=.slice (some ⟨g,0,none⟩) o.length (cap+1)/\W.heap[g]?=some (.cells cur 3 (0,0))/\cur.size=cap+1/\o.length<=cap+1/\cap+1<=maxLen/\∀i:Nat,i<o.length->cur[i]?=some (.int .i64 (o.getD i 0))
theorem m0r {cur:Array Value}{o:List Int}(h:∀i:Nat,i<o.length->cur[i]?=some (.int .i64 (o.getD i 0)))(j:Nat)(x:Int)(a:j<o.length):
  ∀i:Nat,i<(o.set j x).length->(cur.setIfInBounds j (.int .i64 x))[i]?=some (.int .i64 ((o.set j x).getD i 0)):=by
 grind
theorem Y7.alloc {w W:World}{v:Value}{o:List Int}(h:Y7 w v o W)(x:Obj):Y7 w v o (W.alloc x):=by
 refine⟨h.os,h.tape,h.output,by have:=h.size;simp;omega,fun k hk hn=>(Below.heap_alloc _ _ _ (by have:=h.size;omega)).trans (h.rest k hk hn),?_⟩;rcases h.own with h0|⟨g,cap,cur,h1,h2,h3⟩
 ·simp_all
 grind [Below.heap_alloc]
def Y7.chg {w W d:World}{g cap n:Nat}{o c:List Int}{cur':Array Value}(h:Y7 w (.slice (some ⟨g,0,none⟩) n (cap+1)) o W)(a:W5 W g cur' d)(hn:c.length=n)(hs:cur'.size=cap+1)(hle:n<=cap+1)(hm:cap+1<=maxLen)(f:∀i:Nat,i<c.length->cur'[i]?=some (.int .i64 (c.getD i 0))):
  Y7 w (.slice (some ⟨g,0,none⟩) n (cap+1)) c d:=by
 refine⟨a.os.trans h.os,a.tape.trans h.tape,a.output.trans h.output,Nat.le_trans h.size a.size,fun k hk b=>(a.rest k (Nat.lt_of_lt_of_le hk h.size) (fun e=>b (by rw[e];rfl))).trans (h.rest k hk b),.inr ⟨g,cap,cur',by rw[hn],a.hg,hs,O',hm,f⟩⟩
theorem I0k {α β:Type}[Inhabited β](f:α->β->α)(x:α){l:List β}{k:Nat}(h:k<l.length):(l.take (k+1)).foldl f x=f ((l.take k).foldl f x) (gt l (k:Int)):=by
 grind [P2,List.take_succ]
theorem I0z (now nn:Int)(o:List Int)(m:R3):(s5 now nn o m).length=o.length:=by
 grind [s5]
def x0j (now nn:Int):∀(l:List R3) (o:List Int),(l.foldl (s5 now nn) o).length=o.length
 |[],o=>rfl
 |m :: r,o=>by simp[x0j,I0z]
def step_skip {now nn:Int}{o:List Int}{m:R3}(h:m.Group<1\/((o.length:Int)-1) / 2<m.Group):s5 now nn o m=o:=by unfold s5;simp_all
theorem cell_of {W:World}{b o:Nat}{v:Value}(h:D2 W.heap b o=some v):W.cell? ⟨b,o,none⟩=some v:=by
 grind [D2,World.cell?]
set_option maxHeartbeats 4000000 in
def F0C (u:Value)(tags:List Int)(marks:List R3)(now nn:Int)(A:Option Addr)(c:Nat)(w:World)
  (c3:Calls Tryz.prog 27 #[u] w fun e w1=>∃v,e=.returned v/\(∃ao cap,v=.slice ao tags.length cap)/\Y7 w v tags w1/\(∀k,D1 v=some k->w.heap.size<=k)/\∀k,k<w.heap.size->w1.heap[k]?=w.heap[k]?)
  (hm:marks≠[]->∃b o,A=some ⟨b,o,none⟩/\b<w.heap.size/\∀k:Nat,k<marks.length->D2 w.heap b (o+k*2)=some (.int .i64 (gt marks (k:Int)).Kind)/\D2 w.heap b (o+k*2+1)=some (.int .i64 (gt marks (k:Int)).Group)) (h8:marks.length<=4611686018427387904) (e6:tags.length<=20000000000000):
  Calls Tryz.prog 66 #[u,.slice A marks.length c,.int .i64 now,.int .i64 nn] w fun e w1=>∃v,e=.returned v/\Y7 w v (marks.foldl (s5 now nn) tags) w1/\(∀k,D1 v=some k->w.heap.size<=k)/\∀k,k<w.heap.size->w1.heap[k]?=w.heap[k]?:=by
 go_enter Tryz.func66,Tryz.ntmps66
 go_wp2_with (go_at_call 27;refine c3.mono ?_;rintro e w1 ⟨v,rfl,⟨ao,cap,rfl⟩,hv,hlo,hb⟩)
 go_loopw [17] (fun i wr=>∃k:Nat,k<=marks.length/\i=.int .i64 k/\Y7 w1 (.slice ao tags.length cap) ((marks.take k).foldl (s5 now nn) tags) wr) (fun i wr=>marks.length-(intOf i).toNat)
 case atStart=>exact⟨0,Nat.zero_le _,rfl,⟨rfl,rfl,rfl,Nat.le_refl _,fun _ _ _=>rfl,hv.own⟩⟩
 case round=>
  obtain⟨k,hk,rfl,z⟩:=hrel
  by_cases hd:k=marks.length
  ·have d1:decide ((k:Int)<(marks.length:Int))=false:=by simp;omega
   have p:=z;rw[hd,List.take_length]at p
   go_wp2
   go_ret
   refine⟨_,rfl,⟨p.os.trans hv.os,p.tape.trans hv.tape,p.output.trans hv.output,Nat.le_trans hv.size p.size,fun j U hn=>(p.rest j (Nat.lt_of_lt_of_le U hv.size) hn).trans (hb j U),p.own⟩,hlo,fun j U=>(p.rest j (Nat.lt_of_lt_of_le U hv.size) (fun e=>by have:=hlo j e;omega)).trans (hb j U)⟩
  ·have C:k<marks.length:=O'
   have d1:decide ((k:Int)<(marks.length:Int))=true:=by simp;omega
   obtain⟨b,o,rfl,c4,t⟩:=hm (by intro e;simp[e]at C);obtain⟨c0,c1⟩:=t k C;have x:wr.heap[b]?=w.heap[b]?:=(z.rest b (Nat.lt_of_lt_of_le c4 hv.size) (fun e=>by have:=hlo b e;omega)).trans (hb b c4);have e0:wr.cell? ⟨b,o+k*2,none⟩=some (.int .i64 (gt marks (k:Int)).Kind):=cell_of (by unfold D2 at c0 ⊢;rw[x];exact c0);have e1:wr.cell? ⟨b,o+k*2+1,none⟩=some (.int .i64 (gt marks (k:Int)).Group):=cell_of (by unfold D2 at c1 ⊢;rw[x];exact c1);have f:=I0k (s5 now nn) tags C;have r:=x0j now nn (marks.take k) tags;generalize (marks.take k).foldl (s5 now nn) tags=ot at *;generalize gt marks (k:Int)=mk at *;obtain⟨kd,R⟩:=mk;simp only at e0 e1;clear t c0 c1 hm c3
   by_cases hg:R<1\/((tags.length:Int)-1) / 2<R
   ·have c6:=step_skip (now:=now) (nn:=nn) (o:=ot) (m:=⟨kd,R⟩) (by rw[r];exact hg);rw[c6]at f;have d2:(decide (R<1)||decide (((tags.length:Int)-1).tdiv 2<R))=true:=by
     have e2:((tags.length:Int)-1).tdiv 2=((tags.length:Int)-1) / 2\/(tags.length=0/\((tags.length:Int)-1).tdiv 2=0):=by
      by_cases h0:tags.length=0
      ·exact .inr ⟨h0,by rw[h0];rfl⟩
      ·exact .inl (Int.tdiv_eq_ediv_of_nonneg O')
     simp;rcases e2 with h|⟨h0,h⟩<;>omega
    have e3:∀W,Y7 w1 (.slice ao tags.length cap) ot W->Y7 w1 (.slice ao tags.length cap) ((marks.take (k+1)).foldl (s5 now nn) tags) W:=fun W h=>by rw[f];exact h
    go_wp2
    all_goals first
     |(exfalso;rename_i hx;simp at d2;omega)
     |go_roundw
      case rel=>exact⟨k+1,O',by go_num,e3 _ (z.alloc _)⟩
      case measure=>simp[intOf];omega
   ·obtain⟨q,rfl⟩:∃q:Nat,R=q:=⟨R.toNat,O'⟩
    have e9:1<=q:=O'
    have h7:2*q<tags.length:=O'
    have e5:(q:Int)<=((tags.length:Int)-1).tdiv 2:=by rw[Int.tdiv_eq_ediv_of_nonneg O'];omega
    obtain⟨g,a,cur,c5,c8,J,e4,y,n⟩:∃g a cur,Value.slice ao tags.length cap=.slice (some ⟨g,0,none⟩) tags.length (a+1)/\wr.heap[g]?=some (.cells cur 3 (0,0))/\cur.size=a+1/\ot.length<=a+1/\a+1<=maxLen/\∀i:Nat,i<ot.length->cur[i]?=some (.int .i64 (ot.getD i 0)):=by
     rcases z.own with h0|⟨g,a,cur,h1,h2,h3,h4,h5,h6⟩
     ·rw[h0.1]at r;simp at r;omega
     ·exact⟨g,a,cur,by rw[h1,r],h2,h3,h4,h5,h6⟩
    cases c5;have d2:decide ((q:Int)<1)=false:=by simp;omega
    have d3:decide (((tags.length:Int)-1).tdiv 2<(q:Int))=false:=by simp;omega
    have l:=(W5.refl c8).alloc (.cells #[.int .i64 kd,.int .i64 (q:Int)] 228);have ci:=n (2*q-1) O';have cj:=n (2*q) O';have e7:IntKind.wrap .i64 (2*(q:Int))=2*(q:Int):=by simp[IntKind.wrap,IntKind.bits,IntKind.signed];omega
    have h9:IntKind.wrap .i64 (2*(q:Int)-1)=2*(q:Int)-1:=by simp[IntKind.wrap,IntKind.bits,IntKind.signed];omega
    have b1:(1:Int)<=2*(q:Int):=O'
    have b2:2*(q:Int)-1<(tags.length:Int):=O'
    have b3:(0:Int)<=2*(q:Int):=O'
    have b4:2*(q:Int)<(tags.length:Int):=O'
    have n1:(2*(q:Int)-1).toNat=2*q-1:=O'
    have n2:(2*(q:Int)).toNat=2*q:=O'
    by_cases k1:kd=1
    ·subst k1;have a1:=O0C;have a2:=E0s;have s:s5 now nn ot ⟨1,(q:Int)⟩=ot.set (2*q-1) now:=by
      unfold s5;rw[if_neg (show ¬((q:Int)<1\/((ot.length:Int)-1) / 2<(q:Int)) from O')];simp[n1,n2]
     rw[s]at f;have d:∀W,W5 wr g (cur.setIfInBounds (2*q-1) (.int .i64 now)) W->Y7 w1 (.slice (some ⟨g,0,none⟩) tags.length (a+1)) ((marks.take (k+1)).foldl (s5 now nn) tags) W:=fun W I=>by
      rw[f];exact z.chg I (by simp[r]) (by simp[J]) O' y (m0r n _ _ O')
     go_wp2_with (go_at_call 100;refine(m0d 1 now nn _).mono ?_;rintro e w2 ⟨rfl,rfl⟩;rw[show chV 1 now nn=.iface 275 (.agg #[.int .i64 now])from rfl])
     go_region_with (go_at_call 238;refine(O0a now _ l.drew.hg ci cj).mono ?_;rintro e w3 ⟨rfl,hc3⟩)
     all_goals
      go_wp2
      go_roundw
      case rel=>exact⟨k+1,O',by go_num,d _ (l.drew.trans hc3)⟩
      case measure=>simp[intOf];omega
    by_cases k2:kd=2
    ·subst k2;have a1:=L0D;have a2:=N0a;have s:s5 now nn ot ⟨2,(q:Int)⟩=ot.set (2*q) now:=by
      unfold s5;rw[if_neg (show ¬((q:Int)<1\/((ot.length:Int)-1) / 2<(q:Int)) from O')];simp[n1,n2]
     rw[s]at f;have d:∀W,W5 wr g (cur.setIfInBounds (2*q) (.int .i64 now)) W->Y7 w1 (.slice (some ⟨g,0,none⟩) tags.length (a+1)) ((marks.take (k+1)).foldl (s5 now nn) tags) W:=fun W I=>by
      rw[f];exact z.chg I (by simp[r]) (by simp[J]) O' y (m0r n _ _ O')
     go_wp2_with (go_at_call 100;refine(m0d 2 now nn _).mono ?_;rintro e w2 ⟨rfl,rfl⟩;rw[show chV 2 now nn=.iface 276 (.agg #[.int .i64 now])from rfl])
     go_region_with (go_at_call 239;refine(B0E now _ l.drew.hg ci cj).mono ?_;rintro e w3 ⟨rfl,hc3⟩)
     all_goals
      go_wp2
      go_roundw
      case rel=>exact⟨k+1,O',by go_num,d _ (l.drew.trans hc3)⟩
      case measure=>simp[intOf];omega
    by_cases k3:kd=3
    ·subst k3;have a1:=O0Z;have a2:=H06;have s:s5 now nn ot ⟨3,(q:Int)⟩=(ot.set (2*q-1) nn).set (2*q) nn:=by
      unfold s5;rw[if_neg (show ¬((q:Int)<1\/((ot.length:Int)-1) / 2<(q:Int)) from O')];simp[n1,n2]
     rw[s]at f;have d:∀W,W5 wr g ((cur.setIfInBounds (2*q-1) (.int .i64 nn)).setIfInBounds (2*q) (.int .i64 nn)) W->Y7 w1 (.slice (some ⟨g,0,none⟩) tags.length (a+1)) ((marks.take (k+1)).foldl (s5 now nn) tags) W:=fun W I=>by
      rw[f];exact z.chg I (by simp[r]) (by simp[J]) O' y (m0r (m0r n _ _ O') _ _ Z')
     go_wp2_with (go_at_call 100;refine(m0d 3 now nn _).mono ?_;rintro e w2 ⟨rfl,rfl⟩;rw[show chV 3 now nn=.iface 278 (.agg #[.int .i64 nn])from rfl])
     go_region_with (go_at_call 240;refine(N09 nn _ l.drew.hg ci cj O').mono ?_;rintro e w3 ⟨rfl,hc3⟩)
     all_goals
      go_wp2
      go_roundw
      case rel=>exact⟨k+1,O',by go_num,d _ (l.drew.trans hc3)⟩
      case measure=>simp[intOf];omega
    have d4:decide (kd=1)=false:=by simp[k1]
    have s:s5 now nn ot ⟨kd,(q:Int)⟩=ot:=by
     unfold s5;rw[if_neg (show ¬((q:Int)<1\/((ot.length:Int)-1) / 2<(q:Int)) from O'),if_neg k1,if_neg k2,if_neg k3]
    rw[s]at f;have d:∀W,Y7 w1 (.slice (some ⟨g,0,none⟩) tags.length (a+1)) ot W->Y7 w1 (.slice (some ⟨g,0,none⟩) tags.length (a+1)) ((marks.take (k+1)).foldl (s5 now nn) tags) W:=fun W I=>by rw[f];exact I
    go_wp2_with (go_at_call 100;refine(m0d kd now nn _).mono ?_;rintro e w2 ⟨rfl,rfl⟩;rw[show chV kd now nn=.nilIface from by unfold chV;rw[if_neg k1,if_neg k2,if_neg k3]])
    go_roundw
    case rel=>exact⟨k+1,O',by go_num,d _ (z.alloc _)⟩
    case measure=>simp[intOf];omega
