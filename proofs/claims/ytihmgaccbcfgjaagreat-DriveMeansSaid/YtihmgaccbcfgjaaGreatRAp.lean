/- P. Its conditions: none. -/
import Derived.WalkKit
import Derived.Handy
import Derived.Deep.RegionWith
import Derived.Test.YtihmgaccbcfgjaaGreatRMd
import Derived.Test.YtihmgaccbcfgjaaGreatRG23
import Derived.Test.YtihmgaccbcfgjaaGreatRX17
set_option linter.all false
set_option maxRecDepth 100000
namespace Go.Proofs.YtihmgaccbcfgjaaGreat
open Go.RowKit Go.Proofs
def chV (k now nn:Int):Value:=if k=1 then .iface 250 (.agg #[.int .i64 now])else if k=2 then .iface 251 (.agg #[.int .i64 now])else if k=3 then .iface 253 (.agg #[.int .i64 nn])else .nilIface
theorem j09 (k now nn:Int)(w:World):Calls Tryz.prog 179 #[.int .i64 k,.int .i64 now,.int .i64 nn] w fun e w'=>e=.returned (chV k now nn)/\w'=w:=by
 by_cases h1:k=1
 ·subst h1
  go_wp2
  go_ret
  exact⟨rfl,rfl⟩
 ·by_cases b:k=2
  ·subst b
   go_wp2
   go_ret
   exact⟨rfl,rfl⟩
  ·by_cases a:k=3
   ·subst a
    go_wp2
    go_ret
    exact⟨rfl,rfl⟩
   ·have d3:decide (k=3)=false:=by grind
    go_wp2
    go_ret
    exact⟨by simp_all[chV],rfl⟩
theorem x0T (n:Nat) (x:Value) (w:World):(nilAhead (n+1) 250 x "gimlet/mark.change").run Tryz.prog w=.ok (some false) w:=by rfl
theorem x0f (n:Nat) (x:Value) (w:World):(nilAhead (n+1) 251 x "gimlet/mark.change").run Tryz.prog w=.ok (some false) w:=by rfl
theorem C0m (n:Nat) (x:Value) (w:World):(nilAhead (n+1) 253 x "gimlet/mark.change").run Tryz.prog w=.ok (some false) w:=by rfl
theorem E0x (n:Nat) (x:Value) (w:World):(Go.method (n+1) 250 x "gimlet/mark.change").run Tryz.prog w=.ok (261,x) w:=by rfl
theorem F0P (n:Nat) (x:Value) (w:World):(Go.method (n+1) 251 x "gimlet/mark.change").run Tryz.prog w=.ok (262,x) w:=by rfl
theorem E0P (n:Nat) (x:Value) (w:World):(Go.method (n+1) 253 x "gimlet/mark.change").run Tryz.prog w=.ok (263,x) w:=by rfl
structure X4 (w:World)(g:Nat)(cur:Array Value)(w':World):Prop where
 os:w'.os=w.os
 tape:w'.tape=w.tape
 output:w'.output=w.output
 size:w.heap.size<=w'.heap.size
 hg:w'.heap[g]?=some (.cells cur 3 (0,0))
 rest:∀k,k<w.heap.size->k≠g->w'.heap[k]?=w.heap[k]?
section
variable {w w' w1:World}{g i:Nat}{cur cur':Array Value}{v:Value}
def X4.refl (h:w.heap[g]?=some (.cells cur 3 (0,0))):X4 w g cur w:=⟨rfl,rfl,rfl,Nat.le_refl _,h,fun _ _ _=>rfl⟩
def X4.alloc (h:X4 w g cur w')(o:Obj):X4 w g cur (w'.alloc o):=by
 have a:g<w'.heap.size:=(Array.getElem?_eq_some_iff.1 h.hg).1;exact⟨h.os,h.tape,h.output,by have:=h.size;simp;omega,(Below.heap_alloc _ _ _ a).trans h.hg,fun k hk hn=>(Below.heap_alloc _ _ _ (by have:=h.size;omega)).trans (h.rest k hk hn)⟩
theorem X4.set (h:X4 w g cur w')(i:Nat)(v:Value):X4 w g (cur.setIfInBounds i v) (w'.setCell ⟨g,i,none⟩ v):=by
 refine⟨h.os,h.tape,h.output,by have:=h.size;simp_all,?_,fun k hk hn=>?_⟩
 ·have:=h.hg
  grind [World.setCell]
 ·exact(Below.heap_setCell _ _ _ k hn).trans (h.rest k hk hn)
def X4.drew (h:X4 w g cur w'):X4 w g cur { w' with drawn:=w'.drawn+1 }:=⟨h.os,h.tape,h.output,h.size,h.hg,h.rest⟩
def X4.cell (h:X4 w g cur w'){x:Value}(hi:cur[i]?=some x):w'.cell? ⟨g,i,none⟩=some x/\w'.frozen? ⟨g,i,none⟩=false:=by
 constructor<;>simp[World.cell?,World.frozen?,h.hg,hi]
def X4.trans (h:X4 w g cur w')(a:X4 w' g cur' w1):X4 w g cur' w1:=
 ⟨a.os.trans h.os,a.tape.trans h.tape,a.output.trans h.output,Nat.le_trans h.size a.size,a.hg,fun k hk hn=>(a.rest k (Nat.lt_of_lt_of_le hk h.size) hn).trans (h.rest k hk hn)⟩
end
def F0w (now:Int){g i j:Nat}{cur:Array Value}{x y:Value}(w:World)(hg:w.heap[g]?=some (.cells cur 3 (0,0)))(hi:cur[i]?=some x)(b:cur[j]?=some y):
  Calls Tryz.prog 261 #[.agg #[.int .i64 now],.pointer (some ⟨g,i,none⟩),.pointer (some ⟨g,j,none⟩)] w fun e w'=>e=.returned (.tuple #[])/\X4 w g (cur.setIfInBounds i (.int .i64 now)) w':=by
 have a:=(X4.refl hg).alloc (.cells #[.int .i64 now] 250);obtain⟨h1,c⟩:=a.cell hi
 go_wp2
 go_end0
 exact⟨rfl,a.set _ _⟩
def H0d (now:Int){g i j:Nat}{cur:Array Value}{x y:Value}(w:World)(hg:w.heap[g]?=some (.cells cur 3 (0,0)))(hi:cur[i]?=some x)(b:cur[j]?=some y):
  Calls Tryz.prog 262 #[.agg #[.int .i64 now],.pointer (some ⟨g,i,none⟩),.pointer (some ⟨g,j,none⟩)] w fun e w'=>e=.returned (.tuple #[])/\X4 w g (cur.setIfInBounds j (.int .i64 now)) w':=by
 have a:=(X4.refl hg).alloc (.cells #[.int .i64 now] 251);obtain⟨h1,c⟩:=a.cell b
 go_wp2
 go_end0
 exact⟨rfl,a.set _ _⟩
def C07 (nn:Int){g i j:Nat}{cur:Array Value}{x y:Value}(w:World)(hg:w.heap[g]?=some (.cells cur 3 (0,0)))(hi:cur[i]?=some x)(b:cur[j]?=some y)(d:i≠j):
  Calls Tryz.prog 263 #[.agg #[.int .i64 nn],.pointer (some ⟨g,i,none⟩),.pointer (some ⟨g,j,none⟩)] w fun e w'=>e=.returned (.tuple #[])/\X4 w g ((cur.setIfInBounds i (.int .i64 nn)).setIfInBounds j (.int .i64 nn)) w':=by
 have k:=(X4.refl hg).alloc (.cells #[.int .i64 nn] 253);have c:g<w.heap.size:=(Array.getElem?_eq_some_iff.1 hg).1;obtain⟨h1,l⟩:=(X4.refl hg).cell hi;obtain⟨h,f⟩:=(X4.refl hg).cell b;have a:=((((X4.refl hg).set i (.int .i64 nn)).set j (.int .i64 nn)).alloc (.cells #[.int .i64 nn] 253)).drew
 go_wp2
 go_region
 all_goals (go_end0;exact⟨rfl,a⟩)
open Go.V hiding Row
open Go.X
structure X7 (w:World)(v:Value)(o:List Int)(W:World):Prop where
 os:W.os=w.os
 tape:W.tape=w.tape
 output:W.output=w.output
 size:w.heap.size<=W.heap.size
 rest:∀k,k<w.heap.size->B1 v≠some k->W.heap[k]?=w.heap[k]?
 own:(o=[]/\∃a,v=.slice a 0 0)\/∃g cap cur,v=.slice (some ⟨g,0,none⟩) o.length (cap+1)/\W.heap[g]?=some (.cells cur 3 (0,0))/\cur.size=cap+1/\o.length<=cap+1/\cap+1<=maxLen/\∀i:Nat,i<o.length->cur[i]?=some (.int .i64 (o.getD i 0))
theorem j0c {cur:Array Value}{o:List Int}(h:∀i:Nat,i<o.length->cur[i]?=some (.int .i64 (o.getD i 0)))(j:Nat)(x:Int)(a:j<o.length):
  ∀i:Nat,i<(o.set j x).length->(cur.setIfInBounds j (.int .i64 x))[i]?=some (.int .i64 ((o.set j x).getD i 0)):=by
 grind
theorem X7.alloc {w W:World}{v:Value}{o:List Int}(h:X7 w v o W)(x:Obj):X7 w v o (W.alloc x):=by
 refine⟨h.os,h.tape,h.output,by have:=h.size;simp;omega,fun k hk hn=>(Below.heap_alloc _ _ _ (by have:=h.size;omega)).trans (h.rest k hk hn),?_⟩;rcases h.own with h0|⟨g,cap,cur,h1,h2,h3⟩
 ·simp_all
 grind [Below.heap_alloc]
def X7.chg {w W d:World}{g cap n:Nat}{o c:List Int}{cur':Array Value}(h:X7 w (.slice (some ⟨g,0,none⟩) n (cap+1)) o W)(a:X4 W g cur' d)(hn:c.length=n)(hs:cur'.size=cap+1)(hle:n<=cap+1)(hm:cap+1<=maxLen)(ho:∀i:Nat,i<c.length->cur'[i]?=some (.int .i64 (c.getD i 0))):
  X7 w (.slice (some ⟨g,0,none⟩) n (cap+1)) c d:=by
 refine⟨a.os.trans h.os,a.tape.trans h.tape,a.output.trans h.output,Nat.le_trans h.size a.size,fun k hk b=>(a.rest k (Nat.lt_of_lt_of_le hk h.size) (fun e=>b (by rw[e];rfl))).trans (h.rest k hk b),.inr ⟨g,cap,cur',by rw[hn],a.hg,hs,O',hm,ho⟩⟩
theorem H05 {α β:Type}[Inhabited β](f:α->β->α)(x:α){l:List β}{k:Nat}(h:k<l.length):(l.take (k+1)).foldl f x=f ((l.take k).foldl f x) (gt l (k:Int)):=by
 grind [X2,List.take_succ]
theorem B02 (now nn:Int)(o:List Int)(m:J2):(T4 now nn o m).length=o.length:=by
 grind [T4]
def s0k (now nn:Int):∀(l:List J2) (o:List Int),(l.foldl (T4 now nn) o).length=o.length
 |[],o=>rfl
 |m :: r,o=>by simp[s0k,B02]
def step_skip {now nn:Int}{o:List Int}{m:J2}(h:m.Group<1\/((o.length:Int)-1) / 2<m.Group):T4 now nn o m=o:=by unfold T4;simp_all
theorem cell_of {W:World}{b o:Nat}{v:Value}(h:O1 W.heap b o=some v):W.cell? ⟨b,o,none⟩=some v:=by
 grind [O1,World.cell?]
set_option maxHeartbeats 4000000 in
def I0F (u:Value)(tags:List Int)(marks:List J2)(now nn:Int)(A:Option Addr)(c:Nat)(w:World)
  (c3:Calls Tryz.prog 99 #[u] w fun e w1=>∃v,e=.returned v/\(∃ao cap,v=.slice ao tags.length cap)/\X7 w v tags w1/\(∀k,B1 v=some k->w.heap.size<=k)/\∀k,k<w.heap.size->w1.heap[k]?=w.heap[k]?)
  (hm:marks≠[]->∃b o,A=some ⟨b,o,none⟩/\b<w.heap.size/\∀k:Nat,k<marks.length->O1 w.heap b (o+k*2)=some (.int .i64 (gt marks (k:Int)).Kind)/\O1 w.heap b (o+k*2+1)=some (.int .i64 (gt marks (k:Int)).Group)) (e6:marks.length<=4611686018427387904) (e7:tags.length<=20000000000000):
  Calls Tryz.prog 153 #[u,.slice A marks.length c,.int .i64 now,.int .i64 nn] w fun e w1=>∃v,e=.returned v/\X7 w v (marks.foldl (T4 now nn) tags) w1/\(∀k,B1 v=some k->w.heap.size<=k)/\∀k,k<w.heap.size->w1.heap[k]?=w.heap[k]?:=by
 go_enter Tryz.func153,Tryz.ntmps153
 go_wp2_with (go_at_call 99;refine c3.mono ?_;rintro e w1 ⟨v,rfl,⟨ao,cap,rfl⟩,hv,hlo,hb⟩)
 go_loopw [17] (fun i wr=>∃k:Nat,k<=marks.length/\i=.int .i64 k/\X7 w1 (.slice ao tags.length cap) ((marks.take k).foldl (T4 now nn) tags) wr) (fun i wr=>marks.length-(intOf i).toNat)
 case atStart=>exact⟨0,Nat.zero_le _,rfl,⟨rfl,rfl,rfl,Nat.le_refl _,fun _ _ _=>rfl,hv.own⟩⟩
 case round=>
  obtain⟨k,hk,rfl,z⟩:=hrel
  by_cases hd:k=marks.length
  ·have d1:decide ((k:Int)<(marks.length:Int))=false:=by simp;omega
   have p:=z;rw[hd,List.take_length]at p
   go_wp2
   go_ret
   refine⟨_,rfl,⟨p.os.trans hv.os,p.tape.trans hv.tape,p.output.trans hv.output,Nat.le_trans hv.size p.size,fun j U hn=>(p.rest j (Nat.lt_of_lt_of_le U hv.size) hn).trans (hb j U),p.own⟩,hlo,fun j U=>(p.rest j (Nat.lt_of_lt_of_le U hv.size) (fun e=>by have:=hlo j e;omega)).trans (hb j U)⟩
  ·have J:k<marks.length:=O'
   have d1:decide ((k:Int)<(marks.length:Int))=true:=by simp;omega
   obtain⟨b,o,rfl,b5,t⟩:=hm (by intro e;simp[e]at J);obtain⟨c0,c1⟩:=t k J;have y:wr.heap[b]?=w.heap[b]?:=(z.rest b (Nat.lt_of_lt_of_le b5 hv.size) (fun e=>by have:=hlo b e;omega)).trans (hb b b5);have e0:wr.cell? ⟨b,o+k*2,none⟩=some (.int .i64 (gt marks (k:Int)).Kind):=cell_of (by unfold O1 at c0 ⊢;rw[y];exact c0);have e1:wr.cell? ⟨b,o+k*2+1,none⟩=some (.int .i64 (gt marks (k:Int)).Group):=cell_of (by unfold O1 at c1 ⊢;rw[y];exact c1);have f:=H05 (T4 now nn) tags J;have s:=s0k now nn (marks.take k) tags;generalize (marks.take k).foldl (T4 now nn) tags=ot at *;generalize gt marks (k:Int)=mk at *;obtain⟨kd,C⟩:=mk;simp only at e0 e1;clear t c0 c1 hm c3
   by_cases hg:C<1\/((tags.length:Int)-1) / 2<C
   ·have c5:=step_skip (now:=now) (nn:=nn) (o:=ot) (m:=⟨kd,C⟩) (by rw[s];exact hg);rw[c5]at f;have d2:(decide (C<1)||decide (((tags.length:Int)-1).tdiv 2<C))=true:=by
     have e2:((tags.length:Int)-1).tdiv 2=((tags.length:Int)-1) / 2\/(tags.length=0/\((tags.length:Int)-1).tdiv 2=0):=by
      by_cases h0:tags.length=0
      ·exact .inr ⟨h0,by rw[h0];rfl⟩
      ·exact .inl (Int.tdiv_eq_ediv_of_nonneg O')
     simp;rcases e2 with h|⟨h0,h⟩<;>omega
    have c8:∀W,X7 w1 (.slice ao tags.length cap) ot W->X7 w1 (.slice ao tags.length cap) ((marks.take (k+1)).foldl (T4 now nn) tags) W:=fun W h=>by rw[f];exact h
    go_wp2
    all_goals first
     |(exfalso;rename_i hx;simp at d2;omega)
     |go_roundw
      case rel=>exact⟨k+1,O',by go_num,c8 _ (z.alloc _)⟩
      case measure=>simp[intOf];omega
   ·obtain⟨q,rfl⟩:∃q:Nat,C=q:=⟨C.toNat,O'⟩
    have h8:1<=q:=O'
    have e9:2*q<tags.length:=O'
    have e4:(q:Int)<=((tags.length:Int)-1).tdiv 2:=by rw[Int.tdiv_eq_ediv_of_nonneg O'];omega
    obtain⟨g,a,cur,c6,c4,R,e3,x,n⟩:∃g a cur,Value.slice ao tags.length cap=.slice (some ⟨g,0,none⟩) tags.length (a+1)/\wr.heap[g]?=some (.cells cur 3 (0,0))/\cur.size=a+1/\ot.length<=a+1/\a+1<=maxLen/\∀i:Nat,i<ot.length->cur[i]?=some (.int .i64 (ot.getD i 0)):=by
     rcases z.own with h0|⟨g,a,cur,h1,h2,h3,h4,h5,h6⟩
     ·rw[h0.1]at s;simp at s;omega
     ·exact⟨g,a,cur,by rw[h1,s],h2,h3,h4,h5,h6⟩
    cases c6;have d2:decide ((q:Int)<1)=false:=by simp;omega
    have d3:decide (((tags.length:Int)-1).tdiv 2<(q:Int))=false:=by simp;omega
    have l:=(X4.refl c4).alloc (.cells #[.int .i64 kd,.int .i64 (q:Int)] 184);have ci:=n (2*q-1) O';have cj:=n (2*q) O';have h7:IntKind.wrap .i64 (2*(q:Int))=2*(q:Int):=by simp[IntKind.wrap,IntKind.bits,IntKind.signed];omega
    have e5:IntKind.wrap .i64 (2*(q:Int)-1)=2*(q:Int)-1:=by simp[IntKind.wrap,IntKind.bits,IntKind.signed];omega
    have b1:(1:Int)<=2*(q:Int):=O'
    have b2:2*(q:Int)-1<(tags.length:Int):=O'
    have b3:(0:Int)<=2*(q:Int):=O'
    have b4:2*(q:Int)<(tags.length:Int):=O'
    have n1:(2*(q:Int)-1).toNat=2*q-1:=O'
    have n2:(2*(q:Int)).toNat=2*q:=O'
    by_cases k1:kd=1
    ·subst k1;have a1:=x0T;have a2:=E0x;have r:T4 now nn ot ⟨1,(q:Int)⟩=ot.set (2*q-1) now:=by
      unfold T4;rw[if_neg (show ¬((q:Int)<1\/((ot.length:Int)-1) / 2<(q:Int)) from O')];simp[n1]
     rw[r]at f;have d:∀W,X4 wr g (cur.setIfInBounds (2*q-1) (.int .i64 now)) W->X7 w1 (.slice (some ⟨g,0,none⟩) tags.length (a+1)) ((marks.take (k+1)).foldl (T4 now nn) tags) W:=fun W I=>by
      rw[f];exact z.chg I (by simp[s]) (by simp[R]) O' x (j0c n _ _ O')
     go_wp2_with (go_at_call 179;refine(j09 1 now nn _).mono ?_;rintro e w2 ⟨rfl,rfl⟩;rw[show chV 1 now nn=.iface 250 (.agg #[.int .i64 now])from rfl])
     go_region_with (go_at_call 261;refine(F0w now _ l.drew.hg ci cj).mono ?_;rintro e w3 ⟨rfl,hc3⟩)
     all_goals
      go_wp2
      go_roundw
      case rel=>exact⟨k+1,O',by go_num,d _ (l.drew.trans hc3)⟩
      case measure=>simp[intOf];omega
    by_cases k2:kd=2
    ·subst k2;have a1:=x0f;have a2:=F0P;have r:T4 now nn ot ⟨2,(q:Int)⟩=ot.set (2*q) now:=by
      unfold T4;rw[if_neg (show ¬((q:Int)<1\/((ot.length:Int)-1) / 2<(q:Int)) from O')];simp[n2]
     rw[r]at f;have d:∀W,X4 wr g (cur.setIfInBounds (2*q) (.int .i64 now)) W->X7 w1 (.slice (some ⟨g,0,none⟩) tags.length (a+1)) ((marks.take (k+1)).foldl (T4 now nn) tags) W:=fun W I=>by
      rw[f];exact z.chg I (by simp[s]) (by simp[R]) O' x (j0c n _ _ O')
     go_wp2_with (go_at_call 179;refine(j09 2 now nn _).mono ?_;rintro e w2 ⟨rfl,rfl⟩;rw[show chV 2 now nn=.iface 251 (.agg #[.int .i64 now])from rfl])
     go_region_with (go_at_call 262;refine(H0d now _ l.drew.hg ci cj).mono ?_;rintro e w3 ⟨rfl,hc3⟩)
     all_goals
      go_wp2
      go_roundw
      case rel=>exact⟨k+1,O',by go_num,d _ (l.drew.trans hc3)⟩
      case measure=>simp[intOf];omega
    by_cases k3:kd=3
    ·subst k3;have a1:=C0m;have a2:=E0P;have r:T4 now nn ot ⟨3,(q:Int)⟩=(ot.set (2*q-1) nn).set (2*q) nn:=by
      unfold T4;rw[if_neg (show ¬((q:Int)<1\/((ot.length:Int)-1) / 2<(q:Int)) from O')];simp[n1,n2]
     rw[r]at f;have d:∀W,X4 wr g ((cur.setIfInBounds (2*q-1) (.int .i64 nn)).setIfInBounds (2*q) (.int .i64 nn)) W->X7 w1 (.slice (some ⟨g,0,none⟩) tags.length (a+1)) ((marks.take (k+1)).foldl (T4 now nn) tags) W:=fun W I=>by
      rw[f];exact z.chg I (by simp[s]) (by simp[R]) O' x (j0c (j0c n _ _ O') _ _ V')
     go_wp2_with (go_at_call 179;refine(j09 3 now nn _).mono ?_;rintro e w2 ⟨rfl,rfl⟩;rw[show chV 3 now nn=.iface 253 (.agg #[.int .i64 nn])from rfl])
     go_region_with (go_at_call 263;refine(C07 nn _ l.drew.hg ci cj O').mono ?_;rintro e w3 ⟨rfl,hc3⟩)
     all_goals
      go_wp2
      go_roundw
      case rel=>exact⟨k+1,O',by go_num,d _ (l.drew.trans hc3)⟩
      case measure=>simp[intOf];omega
    have d4:decide (kd=1)=false:=by simp[k1]
    have r:T4 now nn ot ⟨kd,(q:Int)⟩=ot:=by
     unfold T4;rw[if_neg (show ¬((q:Int)<1\/((ot.length:Int)-1) / 2<(q:Int)) from O'),if_neg k1,if_neg k2,if_neg k3]
    rw[r]at f;have d:∀W,X7 w1 (.slice (some ⟨g,0,none⟩) tags.length (a+1)) ot W->X7 w1 (.slice (some ⟨g,0,none⟩) tags.length (a+1)) ((marks.take (k+1)).foldl (T4 now nn) tags) W:=fun W I=>by rw[f];exact I
    go_wp2_with (go_at_call 179;refine(j09 kd now nn _).mono ?_;rintro e w2 ⟨rfl,rfl⟩;rw[show chV kd now nn=.nilIface from by unfold chV;rw[if_neg k1,if_neg k2,if_neg k3]])
    go_roundw
    case rel=>exact⟨k+1,O',by go_num,d _ (z.alloc _)⟩
    case measure=>simp[intOf];omega
