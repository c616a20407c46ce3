/- P. Its conditions: none. -/
import Derived.WalkKit
import Derived.Handy
import Derived.Deep.RegionWith
import Derived.Test.YtmhooikfkhjijaaGreatYMd
import Derived.Test.YtmhooikfkhjijaaGreatYG24
import Derived.Test.YtmhooikfkhjijaaGreatYX17
set_option linter.all false
set_option maxRecDepth 100000
namespace Go.Proofs.YtmhooikfkhjijaaGreat
open Go.RowKit Go.Proofs
def chV (k now nn:Int):Value:=if k=1 then .iface 275 (.agg #[.int .i64 now])else if k=2 then .iface 276 (.agg #[.int .i64 now])else if k=3 then .iface 278 (.agg #[.int .i64 nn])else .nilIface
def j0U (k now nn:Int)(w:World):Calls Tryz.prog 148 #[.int .i64 k,.int .i64 now,.int .i64 nn] w fun e w'=>e=.returned (chV k now nn)/\w'=w:=by
 go_enter Tryz.func148,Tryz.ntmps148
 by_cases h1:k=1
 ·subst h1
  go_wp2
  go_ret
  exact⟨rfl,rfl⟩
 ·have d1:decide (k=1)=false:=by simp[h1]
  by_cases b:k=2
  ·subst b
   go_wp2
   go_ret
   exact⟨rfl,rfl⟩
  ·have d2:decide (k=2)=false:=by simp[b]
   by_cases a:k=3
   ·subst a
    go_wp2
    go_ret
    exact⟨rfl,rfl⟩
   ·have d3:decide (k=3)=false:=by simp[a]
    go_wp2
    go_ret
    exact⟨by simp[chV,h1,b,a],rfl⟩
theorem P06 (n:Nat) (x:Value) (w:World):(nilAhead (n+1) 275 x "gimlet/mark.change").run Tryz.prog w=.ok (some false) w:=by kernel_rfl
theorem O0o (n:Nat) (x:Value) (w:World):(nilAhead (n+1) 276 x "gimlet/mark.change").run Tryz.prog w=.ok (some false) w:=by kernel_rfl
theorem Q0w (n:Nat) (x:Value) (w:World):(nilAhead (n+1) 278 x "gimlet/mark.change").run Tryz.prog w=.ok (some false) w:=by kernel_rfl
theorem P0a (n:Nat) (x:Value) (w:World):(Go.method (n+1) 275 x "gimlet/mark.change").run Tryz.prog w=.ok (249,x) w:=by kernel_rfl
theorem O03 (n:Nat) (x:Value) (w:World):(Go.method (n+1) 276 x "gimlet/mark.change").run Tryz.prog w=.ok (250,x) w:=by kernel_rfl
theorem O0W (n:Nat) (x:Value) (w:World):(Go.method (n+1) 278 x "gimlet/mark.change").run Tryz.prog w=.ok (251,x) w:=by kernel_rfl
structure D5 (w:World)(g:Nat)(cur:Array Value)(w':World):Prop where
 os:w'.os=w.os
 tape:w'.tape=w.tape
 output:w'.output=w.output
 size:w.heap.size<=w'.heap.size
 hg:w'.heap[g]?=some (.cells cur 3 (0,0))
 rest:∀k,k<w.heap.size->k≠g->w'.heap[k]?=w.heap[k]?
section
variable {w w' w1:World}{g i:Nat}{cur cur':Array Value}{v:Value}
def D5.refl (h:w.heap[g]?=some (.cells cur 3 (0,0))):D5 w g cur w:=⟨rfl,rfl,rfl,Nat.le_refl _,h,fun _ _ _=>rfl⟩
def D5.alloc (h:D5 w g cur w')(o:Obj):D5 w g cur (w'.alloc o):=by
 have a:g<w'.heap.size:=(Array.getElem?_eq_some_iff.1 h.hg).1;exact⟨h.os,h.tape,h.output,by have:=h.size;simp;omega,(Below.heap_alloc _ _ _ a).trans h.hg,fun k hk hn=>(Below.heap_alloc _ _ _ (by have:=h.size;omega)).trans (h.rest k hk hn)⟩
def D5.set (h:D5 w g cur w')(i:Nat)(v:Value):D5 w g (cur.setIfInBounds i v) (w'.setCell ⟨g,i,none⟩ v):=by
 refine⟨h.os,h.tape,h.output,by have:=h.size;simp[World.setCell];exact this,?_,fun k hk hn=>?_⟩
 ·have:=h.hg;simp[World.setCell,Array.getElem?_modify,this]
 ·exact(Below.heap_setCell _ _ _ k hn).trans (h.rest k hk hn)
def D5.drew (h:D5 w g cur w'):D5 w g cur { w' with drawn:=w'.drawn+1 }:=⟨h.os,h.tape,h.output,h.size,h.hg,h.rest⟩
def D5.cell (h:D5 w g cur w'){x:Value}(hi:cur[i]?=some x):w'.cell? ⟨g,i,none⟩=some x/\w'.frozen? ⟨g,i,none⟩=false:=by
 constructor<;>simp[World.cell?,World.frozen?,h.hg,hi]
def D5.trans (h:D5 w g cur w')(a:D5 w' g cur' w1):D5 w g cur' w1:=
 ⟨a.os.trans h.os,a.tape.trans h.tape,a.output.trans h.output,Nat.le_trans h.size a.size,a.hg,fun k hk hn=>(a.rest k (Nat.lt_of_lt_of_le hk h.size) hn).trans (h.rest k hk hn)⟩
end
def F0u (now:Int){g i j:Nat}{cur:Array Value}{x y:Value}(w:World)(hg:w.heap[g]?=some (.cells cur 3 (0,0)))(hi:cur[i]?=some x)(b:cur[j]?=some y):
  Calls Tryz.prog 249 #[.agg #[.int .i64 now],.pointer (some ⟨g,i,none⟩),.pointer (some ⟨g,j,none⟩)] w fun e w'=>e=.returned (.tuple #[])/\D5 w g (cur.setIfInBounds i (.int .i64 now)) w':=by
 have a:=(D5.refl hg).alloc (.cells #[.int .i64 now] 275);obtain⟨h1,c⟩:=a.cell hi
 go_enter Tryz.func249,Tryz.ntmps249
 go_wp2
 go_end0
 exact⟨rfl,a.set _ _⟩
def x0m (now:Int){g i j:Nat}{cur:Array Value}{x y:Value}(w:World)(hg:w.heap[g]?=some (.cells cur 3 (0,0)))(hi:cur[i]?=some x)(b:cur[j]?=some y):
  Calls Tryz.prog 250 #[.agg #[.int .i64 now],.pointer (some ⟨g,i,none⟩),.pointer (some ⟨g,j,none⟩)] w fun e w'=>e=.returned (.tuple #[])/\D5 w g (cur.setIfInBounds j (.int .i64 now)) w':=by
 have a:=(D5.refl hg).alloc (.cells #[.int .i64 now] 276);obtain⟨h1,c⟩:=a.cell b
 go_enter Tryz.func250,Tryz.ntmps250
 go_wp2
 go_end0
 exact⟨rfl,a.set _ _⟩
def C0G (nn:Int){g i j:Nat}{cur:Array Value}{x y:Value}(w:World)(hg:w.heap[g]?=some (.cells cur 3 (0,0)))(hi:cur[i]?=some x)(d:cur[j]?=some y)(c:i≠j):
  Calls Tryz.prog 251 #[.agg #[.int .i64 nn],.pointer (some ⟨g,i,none⟩),.pointer (some ⟨g,j,none⟩)] w fun e w'=>e=.returned (.tuple #[])/\D5 w g ((cur.setIfInBounds i (.int .i64 nn)).setIfInBounds j (.int .i64 nn)) w':=by
 have b:=(D5.refl hg).alloc (.cells #[.int .i64 nn] 278);have h:g<w.heap.size:=(Array.getElem?_eq_some_iff.1 hg).1;obtain⟨h1,f⟩:=b.cell hi;obtain⟨h1,f⟩:=(D5.refl hg).cell hi;obtain⟨l,k⟩:=(D5.refl hg).cell d;have a:=((((D5.refl hg).set i (.int .i64 nn)).set j (.int .i64 nn)).alloc (.cells #[.int .i64 nn] 278)).drew
 go_enter Tryz.func251,Tryz.ntmps251
 go_wp2
 go_region
 all_goals (go_wp2;go_end0;exact⟨rfl,a⟩)
open Go.V hiding Row
open Go.X
structure l8 (w:World)(v:Value)(o:List Int)(W:World):Prop where
 os:W.os=w.os
 tape:W.tape=w.tape
 output:W.output=w.output
 size:w.heap.size<=W.heap.size
 rest:∀k,k<w.heap.size->D1 v≠some k->W.heap[k]?=w.heap[k]?
 own:(o=[]/\∃a,v=.slice a 0 0)\/∃g cap cur,v=.slice (some ⟨g,0,none⟩) o.length (cap+1)/\W.heap[g]?=some (.cells cur 3 (0,0))/\cur.size=cap+1/\o.length<=cap+1/\cap+1<=maxLen/\∀i:Nat,i<o.length->cur[i]?=some (.int .i64 (o.getD i 0))
def h02 {cur:Array Value}{o:List Int}(h:∀i:Nat,i<o.length->cur[i]?=some (.int .i64 (o.getD i 0)))(j:Nat)(x:Int)(a:j<o.length):
  ∀i:Nat,i<(o.set j x).length->(cur.setIfInBounds j (.int .i64 x))[i]?=some (.int .i64 ((o.set j x).getD i 0)):=by
 intro i hi;rw[List.length_set]at hi;have b:j<cur.size:=by
  have:=h j a;exact(Array.getElem?_eq_some_iff.1 this).1
 by_cases e:j=i
 ·subst e;rw[Array.getElem?_setIfInBounds_self_of_lt b];simp[List.getD,a]
 ·rw[Array.getElem?_setIfInBounds_ne e,h i hi];simp[List.getD,List.getElem?_set,e]
def l8.alloc {w W:World}{v:Value}{o:List Int}(h:l8 w v o W)(x:Obj):l8 w v o (W.alloc x):=by
 refine⟨h.os,h.tape,h.output,by have:=h.size;simp;omega,fun k hk hn=>(Below.heap_alloc _ _ _ (by have:=h.size;omega)).trans (h.rest k hk hn),?_⟩;rcases h.own with h0|⟨g,cap,cur,h1,h2,h3⟩
 ·exact .inl h0
 ·exact .inr ⟨g,cap,cur,h1,(Below.heap_alloc _ _ _ (Array.getElem?_eq_some_iff.1 h2).1).trans h2,h3⟩
def l8.chg {w W d:World}{g cap n:Nat}{o c:List Int}{cur':Array Value}(h:l8 w (.slice (some ⟨g,0,none⟩) n (cap+1)) o W)(a:D5 W g cur' d)(hn:c.length=n)(f:cur'.size=cap+1)(hle:n<=cap+1)(hm:cap+1<=maxLen)(j:∀i:Nat,i<c.length->cur'[i]?=some (.int .i64 (c.getD i 0))):
  l8 w (.slice (some ⟨g,0,none⟩) n (cap+1)) c d:=by
 refine⟨a.os.trans h.os,a.tape.trans h.tape,a.output.trans h.output,Nat.le_trans h.size a.size,fun k hk b=>(a.rest k (Nat.lt_of_lt_of_le hk h.size) (fun e=>b (by rw[e];rfl))).trans (h.rest k hk b),.inr ⟨g,cap,cur',by rw[hn],a.hg,f,by omega,hm,j⟩⟩
def v0z {α β:Type}[Inhabited β](f:α->β->α)(x:α){l:List β}{k:Nat}(h:k<l.length):(l.take (k+1)).foldl f x=f ((l.take k).foldl f x) (gt l (k:Int)):=by
 have:l[k]?=some (gt l (k:Int)):=by rw[B4 (x:=l[k]) (by simp[h])];simp[h]
 rw[List.take_succ,this,List.foldl_append];rfl
def A0o (now nn:Int)(o:List Int)(m:G2):(o5 now nn o m).length=o.length:=by
 unfold o5;split
 ·rfl
 ·split
  ·simp
  ·split
   ·simp
   ·split
    ·simp
    ·rfl
def r0q (now nn:Int):∀(l:List G2) (o:List Int),(l.foldl (o5 now nn) o).length=o.length
 |[],o=>rfl
 |m :: r,o=>by rw[List.foldl_cons,r0q now nn r,A0o]
def step_skip {now nn:Int}{o:List Int}{m:G2}(h:m.Group<1\/((o.length:Int)-1) / 2<m.Group):o5 now nn o m=o:=by unfold o5;rw[if_pos h]
def cell_of {W:World}{b o:Nat}{v:Value}(h:U2 W.heap b o=some v):W.cell? ⟨b,o,none⟩=some v:=by
 unfold U2 at h;simp only[World.cell?];exact h
set_option maxHeartbeats 4000000 in
def w0i (u:Value)(tags:List Int)(marks:List G2)(now nn:Int)(A:Option Addr)(c:Nat)(w:World)
  (b5:Calls Tryz.prog 130 #[u] w fun e w1=>∃v,e=.returned v/\(∃ao cap,v=.slice ao tags.length cap)/\l8 w v tags w1/\(∀k,D1 v=some k->w.heap.size<=k)/\∀k,k<w.heap.size->w1.heap[k]?=w.heap[k]?)
  (hm:marks≠[]->∃b o,A=some ⟨b,o,none⟩/\b<w.heap.size/\∀k:Nat,k<marks.length->U2 w.heap b (o+k*2)=some (.int .i64 (gt marks (k:Int)).Kind)/\U2 w.heap b (o+k*2+1)=some (.int .i64 (gt marks (k:Int)).Group)) (e9:marks.length<=4611686018427387904) (e4:tags.length<=20000000000000):
  Calls Tryz.prog 107 #[u,.slice A marks.length c,.int .i64 now,.int .i64 nn] w fun e w1=>∃v,e=.returned v/\l8 w v (marks.foldl (o5 now nn) tags) w1/\(∀k,D1 v=some k->w.heap.size<=k)/\∀k,k<w.heap.size->w1.heap[k]?=w.heap[k]?:=by
 go_enter Tryz.func107,Tryz.ntmps107
 go_wp2_with (go_at_call 130;refine b5.mono ?_;rintro e w1 ⟨v,rfl,⟨ao,cap,rfl⟩,hv,hlo,hb⟩)
 go_loopw [17] (fun i wr=>∃k:Nat,k<=marks.length/\i=.int .i64 k/\l8 w1 (.slice ao tags.length cap) ((marks.take k).foldl (o5 now nn) tags) wr) (fun i wr=>marks.length-(intOf i).toNat)
 case atStart=>exact⟨0,Nat.zero_le _,rfl,⟨rfl,rfl,rfl,Nat.le_refl _,fun _ _ _=>rfl,hv.own⟩⟩
 case round=>
  obtain⟨k,hk,rfl,C⟩:=hrel
  by_cases hd:k=marks.length
  ·have d1:decide ((k:Int)<(marks.length:Int))=false:=by simp;omega
   have n:=C;rw[hd,List.take_length]at n
   go_wp2
   go_ret
   refine⟨_,rfl,⟨n.os.trans hv.os,n.tape.trans hv.tape,n.output.trans hv.output,Nat.le_trans hv.size n.size,fun j hj hn=>(n.rest j (Nat.lt_of_lt_of_le hj hv.size) hn).trans (hb j hj),n.own⟩,hlo,fun j hj=>(n.rest j (Nat.lt_of_lt_of_le hj hv.size) (fun e=>by have:=hlo j e;omega)).trans (hb j hj)⟩
  ·have I:k<marks.length:=by omega
   have d1:decide ((k:Int)<(marks.length:Int))=true:=by simp;omega
   obtain⟨b,o,rfl,c3,t⟩:=hm (by intro e;simp[e]at I);obtain⟨c0,c1⟩:=t k I;have y:wr.heap[b]?=w.heap[b]?:=(C.rest b (Nat.lt_of_lt_of_le c3 hv.size) (fun e=>by have:=hlo b e;omega)).trans (hb b c3);have e0:wr.cell? ⟨b,o+k*2,none⟩=some (.int .i64 (gt marks (k:Int)).Kind):=cell_of (by unfold U2 at c0 ⊢;rw[y];exact c0);have e1:wr.cell? ⟨b,o+k*2+1,none⟩=some (.int .i64 (gt marks (k:Int)).Group):=cell_of (by unfold U2 at c1 ⊢;rw[y];exact c1);have f:=v0z (o5 now nn) tags I;have r:=r0q now nn (marks.take k) tags;generalize (marks.take k).foldl (o5 now nn) tags=ot at *;generalize gt marks (k:Int)=mk at *;obtain⟨z,U⟩:=mk;simp only at e0 e1;clear t c0 c1 hm b5
   by_cases hg:U<1\/((tags.length:Int)-1) / 2<U
   ·have c5:=step_skip (now:=now) (nn:=nn) (o:=ot) (m:=⟨z,U⟩) (by rw[r];exact hg);rw[c5]at f;have d2:(decide (U<1)||decide (((tags.length:Int)-1).tdiv 2<U))=true:=by
     have c6:((tags.length:Int)-1).tdiv 2=((tags.length:Int)-1) / 2\/(tags.length=0/\((tags.length:Int)-1).tdiv 2=0):=by
      by_cases h0:tags.length=0
      ·exact .inr ⟨h0,by rw[h0];rfl⟩
      ·exact .inl (Int.tdiv_eq_ediv_of_nonneg (by omega))
     simp;rcases c6 with h|⟨h0,h⟩<;>omega
    have c8:∀W,l8 w1 (.slice ao tags.length cap) ot W->l8 w1 (.slice ao tags.length cap) ((marks.take (k+1)).foldl (o5 now nn) tags) W:=fun W h=>by rw[f];exact h
    go_wp2
    all_goals first
     |(exfalso;rename_i hx;simp at d2;omega)
     |go_roundw
      case rel=>exact⟨k+1,by omega,by go_num,c8 _ (C.alloc _)⟩
      case measure=>simp[intOf];omega
   ·obtain⟨q,rfl⟩:∃q:Nat,U=q:=⟨U.toNat,by omega⟩
    have h9:1<=q:=by omega
    have e5:2*q<tags.length:=by omega
    have i1:(q:Int)<=((tags.length:Int)-1).tdiv 2:=by rw[Int.tdiv_eq_ediv_of_nonneg (by omega)];omega
    obtain⟨g,a,cur,e2,c4,J,e3,x,p⟩:∃g a cur,Value.slice ao tags.length cap=.slice (some ⟨g,0,none⟩) tags.length (a+1)/\wr.heap[g]?=some (.cells cur 3 (0,0))/\cur.size=a+1/\ot.length<=a+1/\a+1<=maxLen/\∀i:Nat,i<ot.length->cur[i]?=some (.int .i64 (ot.getD i 0)):=by
     rcases C.own with h0|⟨g,a,cur,h1,h2,h3,h4,h5,h6⟩
     ·rw[h0.1]at r;simp at r;omega
     ·exact⟨g,a,cur,by rw[h1,r],h2,h3,h4,h5,h6⟩
    cases e2;have d2:decide ((q:Int)<1)=false:=by simp;omega
    have d3:decide (((tags.length:Int)-1).tdiv 2<(q:Int))=false:=by simp;omega
    have l:=(D5.refl c4).alloc (.cells #[.int .i64 z,.int .i64 (q:Int)] 237);have ci:=p (2*q-1) (by omega);have cj:=p (2*q) (by omega);have h7:IntKind.wrap .i64 (2*(q:Int))=2*(q:Int):=by simp[IntKind.wrap,IntKind.bits,IntKind.signed];omega
    have h8:IntKind.wrap .i64 (2*(q:Int)-1)=2*(q:Int)-1:=by simp[IntKind.wrap,IntKind.bits,IntKind.signed];omega
    have b1:(1:Int)<=2*(q:Int):=by omega
    have b2:2*(q:Int)-1<(tags.length:Int):=by omega
    have b3:(0:Int)<=2*(q:Int):=by omega
    have b4:2*(q:Int)<(tags.length:Int):=by omega
    have n1:(2*(q:Int)-1).toNat=2*q-1:=by omega
    have n2:(2*(q:Int)).toNat=2*q:=by omega
    by_cases k1:z=1
    ·subst k1;have a1:=P06;have a2:=P0a;have s:o5 now nn ot ⟨1,(q:Int)⟩=ot.set (2*q-1) now:=by
      unfold o5;rw[if_neg (show ¬((q:Int)<1\/((ot.length:Int)-1) / 2<(q:Int)) by omega)];simp[n1,n2]
     rw[s]at f;have d:∀W,D5 wr g (cur.setIfInBounds (2*q-1) (.int .i64 now)) W->l8 w1 (.slice (some ⟨g,0,none⟩) tags.length (a+1)) ((marks.take (k+1)).foldl (o5 now nn) tags) W:=fun W R=>by
      rw[f];exact C.chg R (by simp[r]) (by simp[J]) (by omega) x (h02 p _ _ (by omega))
     go_wp2_with (go_at_call 148;refine(j0U 1 now nn _).mono ?_;rintro e w2 ⟨rfl,rfl⟩;rw[show chV 1 now nn=.iface 275 (.agg #[.int .i64 now])from rfl])
     go_region_with (go_at_call 249;refine(F0u now _ l.drew.hg ci cj).mono ?_;rintro e w3 ⟨rfl,hc3⟩)
     all_goals
      go_wp2
      go_roundw
      case rel=>exact⟨k+1,by omega,by go_num,d _ (l.drew.trans hc3)⟩
      case measure=>simp[intOf];omega
    by_cases k2:z=2
    ·subst k2;have a1:=O0o;have a2:=O03;have s:o5 now nn ot ⟨2,(q:Int)⟩=ot.set (2*q) now:=by
      unfold o5;rw[if_neg (show ¬((q:Int)<1\/((ot.length:Int)-1) / 2<(q:Int)) by omega)];simp[n1,n2]
     rw[s]at f;have d:∀W,D5 wr g (cur.setIfInBounds (2*q) (.int .i64 now)) W->l8 w1 (.slice (some ⟨g,0,none⟩) tags.length (a+1)) ((marks.take (k+1)).foldl (o5 now nn) tags) W:=fun W R=>by
      rw[f];exact C.chg R (by simp[r]) (by simp[J]) (by omega) x (h02 p _ _ (by omega))
     go_wp2_with (go_at_call 148;refine(j0U 2 now nn _).mono ?_;rintro e w2 ⟨rfl,rfl⟩;rw[show chV 2 now nn=.iface 276 (.agg #[.int .i64 now])from rfl])
     go_region_with (go_at_call 250;refine(x0m now _ l.drew.hg ci cj).mono ?_;rintro e w3 ⟨rfl,hc3⟩)
     all_goals
      go_wp2
      go_roundw
      case rel=>exact⟨k+1,by omega,by go_num,d _ (l.drew.trans hc3)⟩
      case measure=>simp[intOf];omega
    by_cases k3:z=3
    ·subst k3;have a1:=Q0w;have a2:=O0W;have s:o5 now nn ot ⟨3,(q:Int)⟩=(ot.set (2*q-1) nn).set (2*q) nn:=by
      unfold o5;rw[if_neg (show ¬((q:Int)<1\/((ot.length:Int)-1) / 2<(q:Int)) by omega)];simp[n1,n2]
     rw[s]at f;have d:∀W,D5 wr g ((cur.setIfInBounds (2*q-1) (.int .i64 nn)).setIfInBounds (2*q) (.int .i64 nn)) W->l8 w1 (.slice (some ⟨g,0,none⟩) tags.length (a+1)) ((marks.take (k+1)).foldl (o5 now nn) tags) W:=fun W R=>by
      rw[f];exact C.chg R (by simp[r]) (by simp[J]) (by omega) x (h02 (h02 p _ _ (by omega)) _ _ (by simp;omega))
     go_wp2_with (go_at_call 148;refine(j0U 3 now nn _).mono ?_;rintro e w2 ⟨rfl,rfl⟩;rw[show chV 3 now nn=.iface 278 (.agg #[.int .i64 nn])from rfl])
     go_region_with (go_at_call 251;refine(C0G nn _ l.drew.hg ci cj (by omega)).mono ?_;rintro e w3 ⟨rfl,hc3⟩)
     all_goals
      go_wp2
      go_roundw
      case rel=>exact⟨k+1,by omega,by go_num,d _ (l.drew.trans hc3)⟩
      case measure=>simp[intOf];omega
    have d4:decide (z=1)=false:=by simp[k1]
    have s:o5 now nn ot ⟨z,(q:Int)⟩=ot:=by
     unfold o5;rw[if_neg (show ¬((q:Int)<1\/((ot.length:Int)-1) / 2<(q:Int)) by omega),if_neg k1,if_neg k2,if_neg k3]
    rw[s]at f;have d:∀W,l8 w1 (.slice (some ⟨g,0,none⟩) tags.length (a+1)) ot W->l8 w1 (.slice (some ⟨g,0,none⟩) tags.length (a+1)) ((marks.take (k+1)).foldl (o5 now nn) tags) W:=fun W R=>by rw[f];exact R
    go_wp2_with (go_at_call 148;refine(j0U z now nn _).mono ?_;rintro e w2 ⟨rfl,rfl⟩;rw[show chV z now nn=.nilIface from by unfold chV;rw[if_neg k1,if_neg k2,if_neg k3]])
    go_roundw
    case rel=>exact⟨k+1,by omega,by go_num,d _ (C.alloc _)⟩
    case measure=>simp[intOf];omega
