/- P. Its conditions: none. -/
import Derived.Test.YtihmgaccbcfgjaaGreatQVShort
import Derived.Test.YtihmgaccbcfgjaaGreatQG30
import Derived.Test.YtihmgaccbcfgjaaGreatQG01
import Derived.ProofKit
import Derived.SizedLaws
import Derived.Carry
import Derived.OpenShut
open List (mem_cons not_mem_nil forall_mem_cons)
open Nat (zero_add)
set_option linter.all false
set_option maxRecDepth 100000
namespace Go.Proofs.YtihmgaccbcfgjaaGreat.Rc
open Go.V Go.RowKit
def c0w:Ty H4 where
 sz:=2
 R:=fun H S cs x=>∃(a:Option Addr) (c1:Nat),cs=[.int .i64 x.To,.slice a x.Src.length c1]/\Sl (P1 .i64) H S a c1 x.Src
 len:=by simp_all
 one:=by rintro _ _ _ _ ⟨_,_,rfl,_⟩ v hv;simp only[mem_cons,not_mem_nil,or_false]at hv;rcases hv with rfl|rfl<;>rfl
 L0:=fun k ⟨a,c1,h,h0⟩=>⟨a,c1,h,h0.L0 k⟩
def a0W:Ty L3 where
 sz:=3
 R:=fun H S cs x=>∃(a:Option Addr) (c1:Nat),∃(b:Option Addr) (c2:Nat),cs=[.int .i64 x.Regs,.slice a x.Accept.length c1,.slice b x.Edges.length c2]/\Sl (P1 .i64) H S a c1 x.Accept/\Sl c0w H S b c2 x.Edges
 len:=by simp_all
 one:=by rintro _ _ _ _ ⟨_,_,_,_,rfl,_,_⟩ v hv;simp only[mem_cons,not_mem_nil,or_false]at hv;rcases hv with rfl|rfl|rfl<;>rfl
 L0:=fun k ⟨a,c1,b,c2,h,h0,h1⟩=>⟨a,c1,b,c2,h,h0.L0 k,h1.L0 k⟩
def i0k:Ty Y1 where
 sz:=3
 R:=fun H S cs x=>∃(a:Option Addr) (c1:Nat),∃(b:Option Addr) (c2:Nat),cs=[.int .i64 x.Tags,.slice a x.Class.length c1,.slice b x.States.length c2]/\Sl (P1 .i64) H S a c1 x.Class/\Sl a0W H S b c2 x.States
 len:=by simp_all
 one:=by rintro _ _ _ _ ⟨_,_,_,_,rfl,_,_⟩ v hv;simp only[mem_cons,not_mem_nil,or_false]at hv;rcases hv with rfl|rfl|rfl<;>rfl
 L0:=fun k ⟨a,c1,b,c2,h,h0,h1⟩=>⟨a,c1,b,c2,h,h0.L0 k,h1.L0 k⟩
open Go.X (U0)
def D0r {H:I0}{S:D0}{cs:List Value}{x:H4}:(Go.X.J0 en (.st 0)).R H S cs x↔c0w.R H S cs x:=by
 refine(f0Q 0 H S cs x).trans ⟨?_,?_⟩
 ·rintro⟨c1,c2,rfl,h1,c3,c4,rfl,⟨A,c,rfl,a⟩,rfl⟩
  subst h1;exact⟨A,c,rfl,a⟩
 ·rintro⟨A,c,rfl,a⟩
  exact⟨[.int .i64 x.To],_,rfl,rfl,[.slice A x.Src.length c],[],rfl,⟨A,c,rfl,a⟩,rfl⟩
def v0t {α:Type}{T T':Ty α}(hs:T.sz=T'.sz)(h:∀{H S cs x},T.R H S cs x↔T'.R H S cs x){H:I0}{S:D0}{A:Option Addr}{c:Nat}{xs:List α}:Sl T H S A c xs↔Sl T' H S A c xs:=by
 constructor
 ·rintro⟨h1,f,d⟩
  refine⟨h1,f,fun i x a=>?_⟩;obtain⟨b,o,cs,e,g,j⟩:=d i x a
  grind
 ·rintro⟨h1,f,d⟩
  refine⟨h1,f,fun i x a=>?_⟩;obtain⟨b,o,cs,e,g,j⟩:=d i x a
  grind
def s0P {H:I0}{S:D0}{A:Option Addr}{c:Nat}{xs:List H4}:Sl (α:=H4) (Go.X.J0 en (.st 0)) H S A c xs↔Sl c0w H S A c xs:=v0t (α:=H4) (T:=Go.X.J0 en (.st 0)) (T':=c0w) rfl D0r
def I0L {H:I0}{S:D0}{cs:List Value}{x:L3}:(Go.X.J0 en (.st 1)).R H S cs x↔a0W.R H S cs x:=by
 refine(f0Q 1 H S cs x).trans ⟨?_,?_⟩
 ·rintro⟨c1,c2,rfl,h1,c3,c4,rfl,⟨A,c,rfl,f⟩,c5,g,rfl,⟨a,b,rfl,d⟩,rfl⟩
  subst h1;exact⟨A,c,a,b,rfl,f,s0P.1 d⟩
 ·rintro⟨A,c,a,b,rfl,f,d⟩
  exact⟨[.int .i64 x.Regs],_,rfl,rfl,[.slice A x.Accept.length c],_,rfl,⟨A,c,rfl,f⟩,[.slice a x.Edges.length b],[],rfl,⟨a,b,rfl,s0P.2 d⟩,rfl⟩
def v0B {H:I0}{S:D0}{A:Option Addr}{c:Nat}{xs:List L3}:Sl (α:=L3) (Go.X.J0 en (.st 1)) H S A c xs↔Sl a0W H S A c xs:=v0t (α:=L3) (T:=Go.X.J0 en (.st 1)) (T':=a0W) rfl I0L
def t0n {H:I0}{S:D0}{cs:List Value}{x:Y1}:(Go.X.J0 en (.st 2)).R H S cs x↔i0k.R H S cs x:=by
 refine(f0Q 2 H S cs x).trans ⟨?_,?_⟩
 ·rintro⟨c1,c2,rfl,h1,c3,c4,rfl,⟨A,c,rfl,f⟩,c5,g,rfl,⟨a,b,rfl,d⟩,rfl⟩
  subst h1;exact⟨A,c,a,b,rfl,f,v0B.1 d⟩
 ·rintro⟨A,c,a,b,rfl,f,d⟩
  exact⟨[.int .i64 x.Tags],_,rfl,rfl,[.slice A x.Class.length c],_,rfl,⟨A,c,rfl,f⟩,[.slice a x.States.length b],[],rfl,⟨a,b,rfl,v0B.2 d⟩,rfl⟩
def B0w (fuel:Nat){w:World}{S:D0}(m:∀b,S b->b<w.heap.size){p0:Y1}{A_p0_1 c_p0_1 A_p0_2 c_p0_2}(f:Sl (P1 .i64) w.heap S A_p0_1 c_p0_1 p0.Class)(c:Sl a0W w.heap S A_p0_2 c_p0_2 p0.States){r}(h:e0X fuel p0=some r):
 Calls Tryz.prog 15 #[.agg #[vI p0.Tags,vS A_p0_1 p0.Class c_p0_1,vS A_p0_2 p0.States c_p0_2]] w fun e w1=>∃v,e=.returned v/\Below w.heap.size w w1/\v=.bool r:=by
 have hR:(Go.X.J0 en (.st 2)).R w.heap S [vI p0.Tags,vS A_p0_1 p0.Class c_p0_1,vS A_p0_2 p0.States c_p0_2] p0:=t0n.2 ⟨_,_,_,_,rfl,f,c⟩;have a:Go.X.E2 en w.heap S [.d (.st 2)] p0 [.agg #[vI p0.Tags,vS A_p0_1 p0.Class c_p0_1,vS A_p0_2 p0.States c_p0_2]] []:=by
  refine Go.X.U9 (x:=.d (.st 2)) (r:=[]) ⟨_,_,[],[],[],rfl,rfl,rfl,?_,Go.X.a0M⟩;exact⟨rfl,hR⟩
 refine(v0m fuel w S _ [] p0 r h a m (by rintro b ⟨v,g,_⟩;grind) (by intro i j v p _ g;simp)).mono ?_
 rintro e w1 ⟨v,S1,pl1,rfl,a,hb,hk,hs1,hs2,hap,hbl⟩
 have a:Go.X.E2 en w1.heap S1 [.d .bool] r [v] pl1:=a;obtain⟨c1,u,l,p1,o,e0,rfl,n,h1,q⟩:=a;cases e0;obtain⟨rfl,h1⟩:=h1;subst h1;subst n;exact⟨_,rfl,⟨hb.os,hb.tape,hb.output,hb.size,fun k hk=>hb.block k hk (by rintro⟨v,g,_⟩;grind)⟩,rfl⟩
def D0i (w:World)(S:D0)(r:((List Bool)))(v:Value)(w1:World):Prop:=∃(A:Option Addr) (c:Nat),v=.slice A r.length c/\Ow l8 4 (Wr C3 w) w1.heap (inV v S) v r
abbrev R13 (w:World)(S:D0)(r:((List Bool))):Ending->World->Prop:=fun e w1=>∃v,e=.returned v/\Below w.heap.size w w1/\D0i w S r v w1
def A0o (fuel:Nat){w:World}{S:D0}(hS:∀b,S b->b<w.heap.size){p0:Y1}{A_p0_1 c_p0_1 A_p0_2 c_p0_2}(i:Sl (P1 .i64) w.heap S A_p0_1 c_p0_1 p0.Class)(g:Sl a0W w.heap S A_p0_2 c_p0_2 p0.States){r}(h:d0P fuel p0=some r):
 Calls Tryz.prog 13 #[.agg #[vI p0.Tags,vS A_p0_1 p0.Class c_p0_1,vS A_p0_2 p0.States c_p0_2]] w (R13 w S r):=by
 refine h0q (vs:=[.agg #[vI p0.Tags,vS A_p0_1 p0.Class c_p0_1,vS A_p0_2 p0.States c_p0_2]]) Tryz.func13 rfl rfl ?_;intro a ha;have cx:=Cx.start (W0:=C3) hS;refine sq fun K n=>Y3 ?_;refine j0t (V:=fun b=>vP b) (cs:=[vI p0.Tags,vS A_p0_1 p0.Class c_p0_1,vS A_p0_2 p0.States c_p0_2]) (T:=25) ha Z' (by rfl) ?_;intro w1 u h9 q7 p5 _ a ha;have f1:=Bx.new cx q7 p5;replace i:=i.L0 (P0.ext S h9);replace g:=g.L0 (P0.ext S h9);replace cx:=cx.ext h9;refine sg ha 1 [(1,vP u)] w1 fun a ha=>?_;refine n ?_;refine sq fun K n=>sq fun K n=>Y3 (ov (.agg #[.int .i64 p0.Tags,.slice A_p0_1 p0.Class.length c_p0_1,.slice A_p0_2 p0.States.length c_p0_2]) ha (u0S (cs:=[.int .i64 p0.Tags,.slice A_p0_1 p0.Class.length c_p0_1,.slice A_p0_2 p0.States.length c_p0_2]) w1 rfl rfl Tryz.underlying25 rfl (by rfl) (fun j v hj=>(k7 _ _ _ _).trans (by rw[zero_add];exact f1.cell j v hj))) fun a ha=>?_);obtain⟨x1,q6,h⟩:=a0c h;refine l0S ha Z' (f:=15) (args:=#[.agg #[vI p0.Tags,vS A_p0_1 p0.Class c_p0_1,vS A_p0_2 p0.States c_p0_2]]) (w':=w1) Z' (B0w fuel (p0:=p0) cx.lt i g q6) ?_;rintro v1 w2 ⟨n0,hp1⟩ a ha;obtain rfl:=hp1;have kk:=P0.ext S n0;replace f1:=f1.L0 kk;replace i:=i.L0 kk;replace g:=g.L0 kk;replace cx:=cx.ext n0;refine sk ha 1 [(9,vB (!x1))] fun a ha=>?_;refine n ?_;clear n;refine e0B ha rfl (fun q=>?_) (fun q=>?_)
 ·replace h:=itT q h;refine sq fun K n=>Y3 (sk ha 1 [(2,.slice none 0 0)] fun a ha=>?_);refine n ?_;clear n;refine wp_ret ?_;obtain rfl:=sj h;show bodyPost Tryz.prog Tryz.f13 (R13 w S _) .ret a w2;exact j0g (r1:=.tmp 2) (v1:=.slice none 0 0) ha rfl (.inl rfl) rfl ⟨_,rfl,cx.below,⟨_,_,rfl,Ow.nil⟩⟩
 ·replace h:=itF q h;refine wp_skip (n ?_);clear n;refine sq fun K n=>Y3 (sk ha 1 [(10,vF u 2)] fun a ha=>?_);refine ov (.slice A_p0_2 p0.States.length c_p0_2) ha (b0w w2 rfl rfl Tryz.underlying23 rfl ((k7 _ _ _ _).trans (by rw[zero_add];exact f1.cell 2 _ rfl))) fun a ha=>?_;refine sk ha 1 [(12,vI (p0.States.length:Int))] fun a ha=>?_;obtain⟨n2,h⟩:=b0i h;refine r0o (T:=l8) (z:=vB false) (zx:=false) (bytes:=1) ha cx Z' rfl rfl rfl Tryz.underlying28 Z' Z' (fun _ _=>rfl) n2 ?_;intro w3 S1 A1 c1 cx u5 j0 y6 u3 f2 a ha;replace f1:=f1.L0 j0;replace i:=i.L0 j0;replace g:=g.L0 j0;refine sk ha 1 [(3,vS A1 (List.replicate (Int.toNat (p0.States.length:Int)) false) c1)] fun a ha=>?_;refine n ?_;clear n;refine sq fun K n=>Y3 (sk ha 1 [(14,vS A1 (List.replicate (Int.toNat (p0.States.length:Int)) false) c1)] fun a ha=>?_);obtain⟨k1,h⟩:=b0i h;obtain⟨b2,o1,u1,rfl,p1,y8⟩:=f2.O8.get k1;obtain rfl:=p1;refine ov (vE b2 o1 (0:Int) 1) ha (obx w3 rfl rfl rfl Tryz.underlying28 rfl k1) fun a ha=>?_;refine u0Z (T:=l8) (f:=0) (x':=true) ha cx Z' rfl rfl rfl h0h f2 k1 Z' (k0z _ _ _) Z' (by rintro H2 _ _ rfl;rfl) ?_;intro w4 cx u9 j3 f3 a ha;replace f1:=f1.L0 j3;replace i:=i.L0 j3;replace g:=g.L0 j3;have k5:(((List.replicate (Int.toNat (p0.States.length:Int)) false).set (Int.toNat 0) true)).length=(List.replicate (Int.toNat (p0.States.length:Int)) false).length:=List.length_set;replace ha:Ag 57 [(1,.pointer (ad u 0)),(3,.slice (ad b2 o1) ((List.replicate (Int.toNat (p0.States.length:Int)) false).set (Int.toNat 0) true).length c1)] a:=by rw[k5];exact ha.to Z'
  replace f3:Ow l8 4 (Wr C3 w) w4.heap S1 (.slice (ad b2 o1) ((List.replicate (Int.toNat (p0.States.length:Int)) false).set (Int.toNat 0) true).length c1) ((List.replicate (Int.toNat (p0.States.length:Int)) false).set (Int.toNat 0) true):=by rw[k5];exact f3
  refine n ?_;clear n;refine sq fun K n=>sq fun K n=>Y3 ?_;refine j0t (V:=fun b=>.slice (ad b 0) 1 1) (cs:=[vI 0]) (T:=3) ha Z' Z' ?_;intro w5 b3 j1 s5 r6 _ a ha;have f4:=s0R (T:=(P1 .i64)) (xs:=[0]) (m:=1) cx j1 s5 r6 rfl Z' (R1.one (T:=(P1 .i64)) (x:=0) rfl);obtain⟨S2,cx,h6,p2,r3,f4⟩:=I0n cx j1 f4;have d1:F6 (vS (ad b2 o1) ((List.replicate (Int.toNat (p0.States.length:Int)) false).set (Int.toNat 0) true) c1) (.slice (ad b3 0) 1 1):=F6.new f3.lt (r3);replace f1:=f1.L0 h6;replace i:=i.L0 h6;replace g:=g.L0 h6;replace f3:=f3.j0z j1 h6 p2;replace f4:=G3.of f4;refine sg ha 1 [(1,vP u),(3,vS (ad b2 o1) ((List.replicate (Int.toNat (p0.States.length:Int)) false).set (Int.toNat 0) true) c1),(4,.slice (ad b3 0) 1 1)] w5 fun a ha=>?_;refine n ?_;clear n;refine wp_block ?_;obtain⟨t1,l0,h⟩:=a0c h;refine wp_mono (k0i (step:=(d0t fuel p0)) (I:=fun(s:List Bool×List Int) a w6=>match s with|(x2,l)=>∃(S3:D0),∃(A2:Option Addr) (c2:Nat),∃(A3:Option Addr) (c3:Nat),Cx w C3 S w6 S3/\Bx w6.heap S3 u 25 [vI p0.Tags,vS A_p0_1 p0.Class c_p0_1,vS A_p0_2 p0.States c_p0_2]/\Sl (P1 .i64) w6.heap S3 A_p0_1 c_p0_1 p0.Class/\Sl a0W w6.heap S3 A_p0_2 c_p0_2 p0.States/\Ow l8 4 (Wr C3 w) w6.heap S3 (vS A2 x2 c2) x2/\G3 (P1 .i64) 3 (Wr C3 w) w6.heap S3 (vS A3 l c3) l/\F6 (vS A2 x2 c2) (vS A3 l c3)/\Ag 57 [(1,vP u),(3,vS A2 x2 c2),(4,vS A3 l c3)] a) (D:=fun(t:List Bool) e a w7=>match t with|y1=>e=.exit 0/\∃(S4:D0),∃(A4:Option Addr) (c4:Nat),Cx w C3 S w7 S4/\Ow l8 4 (Wr C3 w) w7.heap S4 (vS A4 y1 c4) y1/\Ag 57 [(3,vS A4 y1 c4)] a) ?_ fuel _ t1 a _ l0 ?_) ?_
  ·clear h l0;rintro⟨x2,l⟩ ct a w6 ⟨S3,A2,c2,A3,c3,cx,f1,i,g,f5,f6,d2,ha⟩ h;refine l0x (NoP.loop (fun t c a w h=>by cases t<;>exact absurd h.1 X')) (fun hq=>?_);unfold d0t at h;refine sq fun K n=>sq fun K n=>Y3 (sg ha 3 [(1,vP u),(3,vS A2 x2 c2),(4,vS A3 l c3),(19,vB (decide ((l.length:Int)>0)))] w6 fun a ha=>?_);refine n ?_;clear n;refine e0B ha rfl (fun q=>?_) (fun q=>?_)
   ·replace h:=itT q h;refine wp_skip (n ?_);clear n;refine sq fun K n=>wp_block (sq fun K n=>?_);refine u0u 10 S3 rfl ?_;intro w8 e1 h4;have kk:=P0.ext S3 h4;replace f1:=f1.L0 kk;replace i:=i.L0 kk;replace g:=g.L0 kk;replace f5:=f5.ext h4;replace f6:=f6.ext h4;replace cx:=cx.ext h4;refine dk 0 (vF u 2) ha hq rfl (Sd.start _ _ _ _) fun p a ha=>?_;refine dv 1 (.slice A_p0_2 p0.States.length c_p0_2) ha hq rfl (fun w2 h8 c0=>b0w w2 rfl rfl Tryz.underlying23 rfl ((k7 _ _ _ _).trans (by rw[zero_add];exact u7.cell (c0 Z') (f1.cell 2 _ rfl)))) p fun p a ha=>?_;refine dk 2 (vS A3 l c3) ha hq rfl p fun p a ha=>?_;obtain⟨l1,h⟩:=b0i h;obtain⟨b4,o2,y4,rfl,r2,q3⟩:=f6.O8.get l1;obtain rfl:=r2;refine dv 3 (vE b4 o2 (0:Int) 1) ha hq rfl (fun w2 h8 c0=>obx w2 rfl rfl rfl Tryz.underlying22 rfl l1) p fun p a ha=>?_;refine dv 4 (vI (gt l 0)) ha hq rfl (fun w2 h8 c0=>b0w w2 rfl rfl Tryz.underlying3 rfl ((k7 _ _ _ _).trans (u7.cell (c0 Z') (q3 0 _ rfl)))) p fun p a ha=>?_;obtain⟨k8,h⟩:=b0i h;obtain⟨b5,o3,x0,rfl,n1,p3⟩:=g.O8.get k8;obtain⟨A5,c5,A6,c6,rfl,f8,f9⟩:=n1;refine dv 5 (vE b5 o3 (gt l 0) 3) ha hq rfl (fun w2 h8 c0=>obx w2 rfl rfl rfl Tryz.underlying23 rfl k8) p fun p a ha=>?_;refine dk 6 (.pointer (some (((⟨b5,o3,none⟩:Addr).add ((gt l 0).toNat*3)).add 2))) ha hq rfl p fun p a ha=>?_;refine dv 7 (vS A6 ((gt p0.States (gt l 0)).Edges) c6) ha hq rfl (fun w2 h8 c0=>b0w w2 rfl rfl Tryz.underlying51 rfl ((n0g _ _ _ _ _).trans (u7.cell (c0 Z') (p3 2 _ rfl)))) p fun p a ha=>?_;refine dk 8 (vI (((gt p0.States (gt l 0)).Edges).length:Int)) ha hq rfl p fun p a ha=>?_;refine dk 9 (vI 0) ha hq rfl p fun p a ha=>?_;refine o03 Z' ?_;replace ha:=ha.to (l':=[(1,vP u),(3,vS A2 x2 c2),(4,vS (ad b4 o2) l c3),(29,vS A6 ((gt p0.States (gt l 0)).Edges) c6),(30,vI (((gt p0.States (gt l 0)).Edges).length:Int)),(31,vI 0)]) Z';refine n ?_;clear n;refine wp_block ?_;obtain⟨t2,k4,h⟩:=a0c h;refine wp_mono (k0i (step:=(b0R fuel p0 x2 l)) (I:=fun(s:List Bool×List Int×Int) a w9=>match s with|(C,x5,o)=>∃(S5:D0),∃(A7:Option Addr) (U:Nat),∃(A8:Option Addr) (c8:Nat),Cx w C3 S w9 S5/\Bx w9.heap S5 u 25 [vI p0.Tags,vS A_p0_1 p0.Class c_p0_1,vS (ad b5 o3) p0.States c_p0_2]/\Sl (P1 .i64) w9.heap S5 A_p0_1 c_p0_1 p0.Class/\Sl a0W w9.heap S5 (ad b5 o3) c_p0_2 p0.States/\Ow l8 4 (Wr C3 w) w9.heap S5 (vS A7 C U) C/\G3 (P1 .i64) 3 (Wr C3 w) w9.heap S5 (vS A8 x5 c8) x5/\Sl c0w w9.heap S5 A6 c6 ((gt p0.States (gt l 0)).Edges)/\F6 (vS A7 C U) (vS A8 x5 c8)/\Ag 57 [(1,vP u),(3,vS A7 C U),(4,vS A8 x5 c8),(29,vS A6 ((gt p0.States (gt l 0)).Edges) c6),(30,vI (((gt p0.States (gt l 0)).Edges).length:Int)),(31,vI o)] a) (D:=fun(t:List Bool×List Int) e a y=>match t with|(y2,y3)=>e=.exit 2/\∃(S6:D0),∃(A9:Option Addr) (c9:Nat),∃(h0:Option Addr) (J:Nat),Cx w C3 S y S6/\Bx y.heap S6 u 25 [vI p0.Tags,vS A_p0_1 p0.Class c_p0_1,vS (ad b5 o3) p0.States c_p0_2]/\Sl (P1 .i64) y.heap S6 A_p0_1 c_p0_1 p0.Class/\Sl a0W y.heap S6 (ad b5 o3) c_p0_2 p0.States/\Ow l8 4 (Wr C3 w) y.heap S6 (vS A9 y2 c9) y2/\G3 (P1 .i64) 3 (Wr C3 w) y.heap S6 (vS h0 y3 J) y3/\F6 (vS A9 y2 c9) (vS h0 y3 J)/\Ag 57 [(1,vP u),(3,vS A9 y2 c9),(4,vS h0 y3 J)] a) ?_ fuel _ t2 a _ k4 ?_) ?_
    ·clear h k4;rintro⟨C,x5,o⟩ ct a w9 ⟨S5,A7,U,A8,c8,cx,f1,i,g,f10,f11,f9,d3,ha⟩ h;refine l0x (NoP.loop (fun t c a w h=>by cases t<;>exact absurd h.1 X')) (fun hq=>?_);unfold b0R at h;refine sq fun K n=>Y3 (sg ha 1 [(1,vP u),(3,vS A7 C U),(4,vS A8 x5 c8),(29,vS A6 ((gt p0.States (gt l 0)).Edges) c6),(30,vI (((gt p0.States (gt l 0)).Edges).length:Int)),(31,vI o),(32,vB (decide (o<(((gt p0.States (gt l 0)).Edges).length:Int))))] w9 fun a ha=>?_);refine n ?_;clear n;refine sq fun K n=>?_;refine e0B ha rfl (fun q=>?_) (fun q=>?_)
     ·replace h:=itT q h;refine wp_skip (n ?_);clear n;refine sq fun K n=>?_;obtain⟨q1,n4,h⟩:=a0c h;refine p0y (D:=fun a R=>∃x7:List Bool,∃x8:List Int,∃(S7:D0),∃(e6:Option Addr) (e2:Nat),∃(e4:Option Addr) (e3:Nat),(x7,x8)=q1/\Cx w C3 S R S7/\Bx R.heap S7 u 25 [vI p0.Tags,vS A_p0_1 p0.Class c_p0_1,vS (ad b5 o3) p0.States c_p0_2]/\Sl (P1 .i64) R.heap S7 A_p0_1 c_p0_1 p0.Class/\Sl a0W R.heap S7 (ad b5 o3) c_p0_2 p0.States/\Ow l8 4 (Wr C3 w) R.heap S7 (vS e6 x7 e2) x7/\G3 (P1 .i64) 3 (Wr C3 w) R.heap S7 (vS e4 x8 e3) x8/\Sl c0w R.heap S7 A6 c6 ((gt p0.States (gt l 0)).Edges)/\F6 (vS e6 x7 e2) (vS e4 x8 e3)/\Ag 57 [(1,vP u),(3,vS e6 x7 e2),(4,vS e4 x8 e3),(29,vS A6 ((gt p0.States (gt l 0)).Edges) c6),(30,vI (((gt p0.States (gt l 0)).Edges).length:Int)),(31,vI o)] a) ?_ ?_
      ·clear h;have h:=n4;refine wp_block (sq fun K n=>Y3 ?_);obtain⟨k3,h⟩:=b0i h;obtain⟨b6,o4,u0,rfl,p7,q5⟩:=f9.O8.get k3;obtain⟨h5,h7,rfl,f16⟩:=p7;refine ov (vE b6 o4 o 2) ha (obx w9 rfl rfl rfl Tryz.underlying51 rfl k3) fun a ha=>?_;refine ov (.agg #[vI ((gt ((gt p0.States (gt l 0)).Edges) o).To),vS h5 ((gt ((gt p0.States (gt l 0)).Edges) o).Src) h7]) ha (u0S (cs:=[vI ((gt ((gt p0.States (gt l 0)).Edges) o).To),vS h5 ((gt ((gt p0.States (gt l 0)).Edges) o).Src) h7]) w9 rfl rfl Tryz.underlying57 rfl Z' (fun j v hj=>(n0g _ _ _ _ _).trans (q5 j v hj))) fun a ha=>?_;refine I0u (d:=6) (z:=[vI 0,.slice none 0 0]) (vs:=[vI ((gt ((gt p0.States (gt l 0)).Edges) o).To),vS h5 ((gt ((gt p0.States (gt l 0)).Edges) o).Src) h7]) (v:=.agg #[vI ((gt ((gt p0.States (gt l 0)).Edges) o).To),vS h5 ((gt ((gt p0.States (gt l 0)).Edges) o).Src) h7]) ha cx Z' rfl Z' (fun _=>Z') rfl rfl (fun _=>Z') Z' Z' Z' ?_;intro a1 b7 cx e9 f17 a ha;have kk:=P0.ext S5 e9;replace f1:=f1.L0 kk;replace i:=i.L0 kk;replace g:=g.L0 kk;replace f10:=f10.ext e9;replace f11:=f11.ext e9;replace f9:=f9.L0 (P0.ext S5 e9);replace f16:=f16.L0 (P0.ext S5 e9);refine n ?_;clear n;refine sq fun K n=>?_;obtain⟨q2,s0,h⟩:=a0c h;refine p0y (D:=fun a w_=>∃x9:Bool,x9=q2/\a1=w_/\Ag 57 [(1,vP u),(3,vS A7 C U),(4,vS A8 x5 c8),(6,vP b7),(29,vS (ad b6 o4) ((gt p0.States (gt l 0)).Edges) c6),(30,vI (((gt p0.States (gt l 0)).Edges).length:Int)),(31,vI o),(45,vB x9)] a) ?_ ?_
       ·clear h;have h:=s0;refine Y3 (sk ha 1 [(6,vP b7),(29,vS (ad b6 o4) ((gt p0.States (gt l 0)).Edges) c6),(35,vF b7 0)] fun a ha=>?_);refine ov (.int .i64 ((gt ((gt p0.States (gt l 0)).Edges) o).To)) ha (b0w a1 rfl rfl Tryz.underlying3 rfl ((k7 _ _ _ _).trans (by rw[zero_add];exact f17.cell 0 _ rfl))) fun a ha=>?_;refine sk ha 2 [(38,vB (decide (((gt ((gt p0.States (gt l 0)).Edges) o).To)>=0)))] fun a ha=>?_;refine s0F (t:=38) ha rfl (fun q ha=>?_) (fun q ha=>?_)
        ·replace h:=itT q h;refine sk ha 2 [(38,vB true),(39,vS A7 C U),(40,vF b7 0)] fun a ha=>?_;refine ov (.int .i64 ((gt ((gt p0.States (gt l 0)).Edges) o).To)) ha (b0w a1 rfl rfl Tryz.underlying3 rfl ((k7 _ _ _ _).trans (by rw[zero_add];exact f17.cell 0 _ rfl))) fun a ha=>?_;obtain⟨k6,h⟩:=b0i h;obtain⟨b8,o5,s9,rfl,s4,q8⟩:=f10.O8.get k6;obtain rfl:=s4;refine ov (vE b8 o5 ((gt ((gt p0.States (gt l 0)).Edges) o).To) 1) ha (obx a1 rfl rfl rfl Tryz.underlying28 rfl k6) fun a ha=>?_;refine ov (vB (gt C ((gt ((gt p0.States (gt l 0)).Edges) o).To))) ha (b0w a1 rfl rfl Tryz.underlying4 rfl ((k7 _ _ _ _).trans (q8 0 _ rfl))) fun a ha=>?_;refine sk ha 2 [(3,vS (ad b8 o5) C U),(45,vB (!(gt C ((gt ((gt p0.States (gt l 0)).Edges) o).To))))] fun a ha=>?_;obtain rfl:=sj h;exact⟨_,rfl,rfl,ha.to Z'⟩
        ·replace h:=itF q h;refine sk ha 7 [(45,vB false)] fun a ha=>?_;obtain rfl:=sj h;exact⟨_,rfl,rfl,ha.to Z'⟩
       rintro a _ ⟨x9,rfl,rfl,ha⟩;refine n ?_;clear n;refine e0B ha rfl (fun q=>?_) (fun q=>?_)
       ·replace h:=itT q h;refine sq fun K n=>Y3 (sg ha 2 [(1,vP u),(3,vS A7 C U),(4,vS A8 x5 c8),(6,vP b7),(29,vS (ad b6 o4) ((gt p0.States (gt l 0)).Edges) c6),(30,vI (((gt p0.States (gt l 0)).Edges).length:Int)),(31,vI o),(46,vS A7 C U),(47,vF b7 0)] a1 fun a ha=>?_);refine ov (.int .i64 ((gt ((gt p0.States (gt l 0)).Edges) o).To)) ha (b0w a1 rfl rfl Tryz.underlying3 rfl ((k7 _ _ _ _).trans (by rw[zero_add];exact f17.cell 0 _ rfl))) fun a ha=>?_;obtain⟨j2,h⟩:=b0i h;obtain⟨b9,o6,y5,rfl,p4,u2⟩:=f10.O8.get j2;obtain rfl:=p4;refine ov (vE b9 o6 ((gt ((gt p0.States (gt l 0)).Edges) o).To) 1) ha (obx a1 rfl rfl rfl Tryz.underlying28 rfl j2) fun a ha=>?_;refine u0Z (T:=l8) (f:=0) (x':=true) ha cx Z' rfl rfl rfl h0h f10 j2 Z' (k0z _ _ _) Z' (by rintro H2 _ _ rfl;rfl) ?_;intro k0 cx r4 e7 f18 a ha;replace f1:=f1.L0 e7;replace i:=i.L0 e7;replace g:=g.L0 e7;replace f11:=f11.only r4 (f10.1 _ rfl).1 (fun e=>d3.symm _ e rfl);replace f17:=f17.L0 e7;replace f16:=f16.L0 e7;replace f9:=f9.L0 e7;have d6:F6 (vS A8 x5 c8) (vS (ad b9 o6) (C.set (Int.toNat ((gt ((gt p0.States (gt l 0)).Edges) o).To)) true) U):=fun k hk e=>d3.symm k hk e;have l4:((C.set (Int.toNat ((gt ((gt p0.States (gt l 0)).Edges) o).To)) true)).length=C.length:=List.length_set;replace ha:Ag 57 [(1,.pointer (ad u 0)),(3,.slice (ad b9 o6) (C.set (Int.toNat ((gt ((gt p0.States (gt l 0)).Edges) o).To)) true).length U),(4,.slice A8 x5.length c8),(6,.pointer (ad b7 0)),(29,.slice (ad b6 o4) ((gt p0.States (gt l 0)).Edges).length c6),(30,.int .i64 (((gt p0.States (gt l 0)).Edges).length:Int)),(31,.int .i64 o)] a:=by rw[l4];exact ha.to Z'
        replace f18:Ow l8 4 (Wr C3 w) k0.heap S5 (.slice (ad b9 o6) (C.set (Int.toNat ((gt ((gt p0.States (gt l 0)).Edges) o).To)) true).length U) (C.set (Int.toNat ((gt ((gt p0.States (gt l 0)).Edges) o).To)) true):=by rw[l4];exact f18
        refine n ?_;clear n;refine Y3 (sg ha 2 [(1,vP u),(3,vS (ad b9 o6) (C.set (Int.toNat ((gt ((gt p0.States (gt l 0)).Edges) o).To)) true) U),(29,vS (ad b6 o4) ((gt p0.States (gt l 0)).Edges) c6),(30,vI (((gt p0.States (gt l 0)).Edges).length:Int)),(31,vI o),(50,vS A8 x5 c8),(51,vF b7 0)] k0 fun a ha=>?_);refine ov (.int .i64 ((gt ((gt p0.States (gt l 0)).Edges) o).To)) ha (b0w k0 rfl rfl Tryz.underlying3 rfl ((k7 _ _ _ _).trans (by rw[zero_add];exact f17.cell 0 _ rfl))) fun a ha=>?_;refine j0t (V:=fun b=>.slice (ad b 0) 1 1) (cs:=[vI ((gt ((gt p0.States (gt l 0)).Edges) o).To)]) (T:=3) ha Z' Z' ?_;intro s6 y7 e5 o0 p6 _ a ha;have f19:=s0R (T:=(P1 .i64)) (xs:=[(gt ((gt p0.States (gt l 0)).Edges) o).To]) (m:=1) cx e5 o0 p6 rfl Z' (R1.one (T:=(P1 .i64)) (x:=(gt ((gt p0.States (gt l 0)).Edges) o).To) rfl);replace f19:=E08 cx f19;have kk:=P0.ext S5 e5;replace f1:=f1.L0 kk;replace i:=i.L0 kk;replace g:=g.L0 kk;replace f18:=f18.ext e5;replace f9:=f9.L0 (P0.ext S5 e5);replace f11:=f11.ext e5;replace cx:=cx.ext e5;obtain⟨s3,h⟩:=b0i h;refine y0y (T:=(P1 .i64)) (xs:=x5) (ys:=[(gt ((gt p0.States (gt l 0)).Edges) o).To]) (z:=vI 0) (bytes:=8) ha cx Z' rfl rfl rfl Tryz.underlying22 Z' Z' h0h f11 f19.O8 s3 ?_;intro u4 S8 k2 i1 cx h2 q4 r5 l2 f20 a ha;replace f1:=f1.L0 h2;replace i:=i.L0 h2;replace g:=g.L0 h2;have d7:F6 (vS (ad b9 o6) (C.set (Int.toNat ((gt ((gt p0.States (gt l 0)).Edges) o).To)) true) U) (vS k2 (x5++[(gt ((gt p0.States (gt l 0)).Edges) o).To]) i1):=F6.grow d6.symm f18.lt l2;replace f18:=f18.L0 h2 q4 (fun b q=>r5 b (f18.lt b q) (d6.symm b q));replace f9:=f9.L0 h2;refine sk ha 1 [(4,vS k2 (x5++[(gt ((gt p0.States (gt l 0)).Edges) o).To]) i1)] fun a ha=>?_;obtain rfl:=sj h;exact⟨_,_,_,(ad b9 o6),U,k2,i1,rfl,cx,f1,i,g,f18,f20,f9,d7,ha.to Z'⟩
       ·replace h:=itF q h;refine wp_skip ?_;obtain rfl:=sj h;exact⟨_,_,_,A7,U,A8,c8,rfl,cx,f1,i,g,f10,f11,f9,d3,ha.to Z'⟩
      rintro a R ⟨x7,x8,S7,e6,e2,e4,e3,rfl,cx,f1,i,g,f14,f15,f9,d5,ha⟩;refine n ?_;clear n;refine Y3 (sg ha 2 [(1,vP u),(3,vS e6 x7 e2),(4,vS e4 x8 e3),(29,vS A6 ((gt p0.States (gt l 0)).Edges) c6),(30,vI (((gt p0.States (gt l 0)).Edges).length:Int)),(31,vI (W (o+1)))] R fun a ha=>?_);obtain rfl:=sj h;exact⟨_,rfl,S7,e6,e2,e4,e3,cx,f1,i,g,f14,f15,f9,d5,ha.to Z'⟩
     ·replace h:=itF q h;refine wp_exit ?_;obtain rfl:=sj h;exact⟨_,rfl,rfl,S5,A7,U,A8,c8,cx,f1,i,g,f10,f11,d3,ha.to Z'⟩
    ·exact⟨S3,A2,c2,(ad b4 o2),c3,cx,f1,i,g,f5,f6,f9,d2,ha.to Z'⟩
    intro e a y hd;obtain⟨y2,y3⟩:=t2;obtain⟨rfl,S6,A9,c9,h0,J,cx,f1,i,g,f12,f13,d4,ha⟩:=hd;refine n ?_;clear n;refine Y3 (sg ha 1 [(1,vP u),(3,vS A9 y2 c9),(20,vS h0 y3 J)] y fun a ha=>?_);obtain⟨n3,h⟩:=b0i h;obtain⟨h3,p8,f21,l3⟩:=G3.tail_at (P:=Tryz.prog) (t:=22) (lo:=vI 1) Tryz.underlying22 Z' f13 n3;refine ov (vS h3 (G1 y3 1 (y3.length:Int)) (J-(1:Int).toNat)) ha (o0L y rfl (p8 y)) fun a ha=>?_;have d8:F6 (vS A9 y2 c9) (vS h3 (G1 y3 1 (y3.length:Int)) (J-(1:Int).toNat)):=fun k hk e=>d4 k hk ((l3 k).1 e);refine sk ha 1 [(4,vS h3 (G1 y3 1 (y3.length:Int)) (J-(1:Int).toNat))] fun a ha=>?_;obtain rfl:=sj h;exact⟨_,rfl,S6,A9,c9,h3,(J-(1:Int).toNat),cx,f1,i,g,f12,f21,d8,ha.to Z'⟩
   ·replace h:=itF q h;refine wp_exit ?_;obtain rfl:=sj h;exact⟨_,rfl,rfl,S3,A2,c2,cx,f5,ha.to Z'⟩
  ·exact⟨S2,(ad b2 o1),c1,(ad b3 0),1,cx,f1,i,g,f3,f4,d1,ha.to Z'⟩
  intro e a w7 hd;generalize t1=y1 at *;obtain⟨rfl,S4,A4,c4,cx,f7,ha⟩:=hd;refine n ?_;clear n;refine sq fun K n=>Y3 (sg ha 2 [(2,vS A4 y1 c4)] w7 fun a ha=>?_);refine n ?_;clear n;refine wp_ret ?_;obtain rfl:=sj h;show bodyPost Tryz.prog Tryz.f13 (R13 w S _) .ret a w7;exact j0g (r1:=.tmp 2) (v1:=vS A4 y1 c4) ha rfl (.inl rfl) rfl ⟨_,rfl,cx.below,⟨_,_,rfl,f7.result cx.sub⟩⟩
def E0N (F:Nat):U0 en (j0D F):=by
 intro w S us pl x y hm f i j m;obtain⟨c,u,n,p1,q,rfl,rfl,o,h1,p⟩:=f;obtain⟨rfl,rfl⟩:=Go.X.c0e p;obtain⟨rfl,h1⟩:=h1;obtain⟨A,c1,s,c2,rfl,g1,g2⟩:=t0n.1 h1;subst o;refine(A0o F i g1 g2 hm).mono ?_
 rintro e w1 ⟨v,rfl,hb,A3,c3,rfl,hown⟩
 refine⟨_,S,[],rfl,?_,⟨hb.os,hb.tape,hb.output,hb.size,fun k hk _=>hb.block k hk⟩,⟨hb.size,fun b a hn=>⟨hn,hb.block b a⟩⟩,fun b h _=>h,fun b h=>Nat.lt_of_lt_of_le (i b h) hb.size,by simp_all,by simp_all⟩;have g:Sl l8 w1.heap S A3 c3 (show List Bool from y):=by
  have l:=Ow.z0x hown;refine l.L0 ⟨Nat.le_refl _,fun b a hn=>⟨fun hs=>hn ?_,rfl⟩⟩;refine⟨.inr hs,fun e=>?_⟩;have:=(hown.own b e).2;rcases this with h|h
  ·exact h
  grind
 refine Go.X.U9 (E:=en) (x:=.d (.list .bool)) (r:=[]) ⟨[.slice A3 (show List Bool from y).length c3],_,[],[],[],rfl,rfl,rfl,?_,Go.X.a0M⟩;unfold Go.X.SR;exact⟨rfl,A3,c3,rfl,g⟩
end Go.Proofs.YtihmgaccbcfgjaaGreat.Rc
set_option maxRecDepth 100000
namespace Go.Proofs.YtihmgaccbcfgjaaGreat
open Go.V Go.RowKit Go.X
def q02 (F:Nat):U0 en (j0D F):=Rc.E0N F
def F02 (F:Nat):U0 en (p06 F):=k05 c0m (C:=t0u F) (j0h c0m (forall_mem_cons.2 ⟨q02 F,(forall_mem_cons.2 ⟨v0m F,(forall_mem_cons.2 ⟨w06 F,(forall_mem_cons.2 ⟨r0G F,(forall_mem_cons.2 ⟨C0n F,(fun _ h=>absurd h not_mem_nil)⟩)⟩)⟩)⟩)⟩)) fun x y h=>(H0o F x).trans h
def R0h (F:Nat):U0 en (Q0N F):=k05 c0m (C:=Q0I F) (j0h c0m (forall_mem_cons.2 ⟨F02 F,(forall_mem_cons.2 ⟨x0Q F,(forall_mem_cons.2 ⟨r0G F,(forall_mem_cons.2 ⟨R0B F,(fun _ h=>absurd h not_mem_nil)⟩)⟩)⟩)⟩)) fun x y h=>(R0p F x).trans h
def O0x (F:Nat):U0 en (M08 F):=k05 c0m (C:=M0H F) (j0h c0m (forall_mem_cons.2 ⟨F02 F,(forall_mem_cons.2 ⟨r0G F,(forall_mem_cons.2 ⟨N0G F,(forall_mem_cons.2 ⟨P0L F,(forall_mem_cons.2 ⟨N0U F,(forall_mem_cons.2 ⟨O0C F,(fun _ h=>absurd h not_mem_nil)⟩)⟩)⟩)⟩)⟩)⟩)) fun x y h=>(Q0p F x).trans h
end Go.Proofs.YtihmgaccbcfgjaaGreat
namespace Go.V
open Go.RowKit Go.ChangeShapes Go.WideShapes Go.ChangeAt
def L5 (k:IntKind)(x:Int):Prop:=k.min<=x/\x<=k.max
structure Rd (P:Program)(t:TypeId){α:Type}(T:Ty α)(wf:α->Prop):Prop where
 get:∀{H:Type} {enc:TypeId×Value->H} {W:World} {sp:Nat->Bool} {held:Bool} {fuel:Nat} {cs:List Value} {d:DataW H} {ps:List MemPlace},
  DataW.trod enc P W 0 sp held fuel t cs=some (d,ps)->(∀p∈ps,p.block<W.heap.size)->∃x,T.R W.heap C3 cs x/\wf x
section
variable {P:Program}{t e:TypeId}
def Rd.int {k:IntKind}(a:P.underlying t=some (.int k)):Rd P t (P1 k) (L5 k):=⟨by
 intro H enc W sp held fuel cs d ps h _;cases fuel with
 |zero=>simp[DataW.trod]at h
 |succ f=>
  simp only[DataW.trod,a]at h;split at h<;>simp_all
  obtain⟨⟨rfl,hw⟩,_⟩:=h;simp only[Lit.wf,Bool.and_eq_true,decide_eq_true_eq]at hw;exact⟨_,rfl,hw⟩⟩
def Rd.bool (a:P.underlying t=some .bool):Rd P t l8 (fun _=>True):=⟨fun h _=>by
 obtain⟨b,rfl,_⟩:=DataW.trod_bool a h;exact⟨b,rfl,trivial⟩⟩
def u0m {α β:Type}{f:α->Option β}:∀{l:List α} {r:List β},l.mapM f=some r->l.length=r.length/\∀(i:Nat) (x:α),l[i]?=some x->∃y,r[i]?=some y/\f x=some y
 |[],r,h=>by simp_all
 |x :: xs,r,h=>by
  cases b:f x with
  |none=>simp_all
  |some y=>
   cases a:xs.mapM f with
   |none=>simp_all
   |some ys=>
    simp[b,a]at h;obtain⟨h1,c⟩:=u0m a
    grind
theorem cells?_get {W:World}{base:Nat}{a:Addr}{n:Nat}{cs:List Value}(h:W.cells? base a n=some cs):cs.length=n/\∀(j:Nat) (v:Value),cs[j]?=some v->W.cell? (a.add j)=some v:=by
 unfold World.cells? at h;split at h
 ·obtain⟨h1,b⟩:=u0m h;simp at h1;refine⟨h1.symm,fun j v c=>?_⟩;obtain⟨y,d,f⟩:=b j j (by grind)
  simp_all
 grind
def m0M {α:Type}{Q:Nat->α->Prop}:∀(n:Nat),(∀i,i<n->∃x,Q i x)->∃xs:List α,xs.length=n/\∀(i:Nat) (x:α),xs[i]?=some x->Q i x
 |0,_=>⟨[],rfl,fun i x h=>by grind⟩
 |n+1,h=>by
  obtain⟨xs,hl,b⟩:=m0M n (fun i hi=>h i O');obtain⟨y,a⟩:=h n O';refine⟨xs++[y],by grind,fun i x hi=>?_⟩
  grind
def Rd.slice {α:Type}{T:Ty α}{wf:α->Prop}(I:P.underlying t=some (.slice e))(hE:P.cellsOf e=T.sz)(C:0<T.sz)(R:Rd P e T wf):Rd P t (O4 T) (fun l=>∀x∈l,wf x):=⟨by
 intro H enc W sp held fuel cs d ps h hp;rcases DataW.trod_slice I h with⟨rfl,_⟩|⟨a,len,cap,elems,rest,f,rfl,rfl,k,_,hle,_,hel,hget,_,_⟩
 ·exact⟨[],⟨none,0,rfl,Sl.nil⟩,X'⟩
 ·cases k;have m:∀j,j<len*P.cellsOf e->MemPlace.cell a.block (a.off+j)∈MemPlace.row a ((elems.length+rest.length)*P.cellsOf e):=fun j y=>MemPlace.mem_row.2 ⟨j,Nat.lt_of_lt_of_le y (Nat.mul_le_mul_right _ O'),rfl⟩;have key:∀i,i<len->∃x,(∃cs,T.R W.heap C3 cs x/\∀j v,cs[j]?=some v->W.cell? ((a.add (i*P.cellsOf e)).add j)=some v)/\wf x:=fun i hi=>by
   have s:=hget i hi;rw[List.getElem?_eq_getElem O']at s;simp only[Option.bind_eq_some_iff]at s;obtain⟨cs,a1,q⟩:=s;obtain⟨x,k,hw⟩:=R.get q (fun p U=>hp p (by
    grind))
   grind [cells?_get]
  obtain⟨xs,r,n⟩:=m0M len key;have c:xs≠[]->∃b o,a=⟨b,o,none⟩/\b<W.heap.size:=fun g=>by
   have u:0<len:=by
    grind
   obtain⟨x,⟨⟨cs,hR,w⟩,_⟩⟩:=key 0 u;have J:=T.len hR;have h1:=w 0 cs[0] X';obtain⟨b,o,spot⟩:=a;have:spot=none:=by
    have:=World.cell?_spot h1
    simp_all[Addr.add]
   subst this;refine⟨b,o,rfl,?_⟩;have:=hp (.cell b (o+0)) (by
    simp only[List.mem_append];exact .inl (m 0 (Nat.mul_pos u O')))
   exact this
  subst r;refine⟨xs,⟨some a,cap,rfl,hle,fun g=>?_,fun i x k=>?_⟩,fun x k=>?_⟩
  ·obtain⟨b,o,rfl,z⟩:=c g;exact⟨b,o,rfl,z,fun h=>h⟩
  ·have g:xs≠[]:=by grind
   obtain⟨b,o,rfl,z⟩:=c g;obtain⟨⟨cs,hR,w⟩,_⟩:=n i x k;refine⟨b,o,cs,rfl,hR,fun j v y=>?_⟩
   simp_all[n0g]
  grind [List.getElem?_of_mem]⟩
def D0J {H:Type}{enc:TypeId×Value->H}{W:World}{sp:Nat->Bool}{held:Bool}{fuel:Nat}{cs:List Value}{d:DataW H}{ps:List MemPlace}{fs:Array Field}(g:P.underlying t=some (.struct fs))
  (h:DataW.trod enc P W 0 sp held fuel t cs=some (d,ps)) (hp:∀p∈ps,p.block<W.heap.size):
  cs.length=P.cellsOf t/\∀(i:Nat) (f:Field),fs[i]?=some f->∃n c a,DataW.trod enc P W 0 sp held n f.type ((cs.drop f.offset).take (P.cellsOf f.type))=some (c,a)/\∀p∈a,p.block<W.heap.size:=by
 obtain⟨xs,n,rfl,l,hl,j,b⟩:=DataW.trod_struct g h;refine⟨hl,fun i f k=>?_⟩;have:=b i f k
 grind [List.getElem_mem]
def Rd.field {α:Type}{T:Ty α}{wf:α->Prop}{f:Field}{H:Type}{enc:TypeId×Value->H}{W:World}{sp:Nat->Bool}{held:Bool}{cs:List Value}(R:Rd P f.type T wf)
  (h:∃n b a,DataW.trod enc P W 0 sp held n f.type ((cs.drop f.offset).take (P.cellsOf f.type))=some (b,a)/\∀p∈a,p.block<W.heap.size):
  ∃x,T.R W.heap C3 ((cs.drop f.offset).take (P.cellsOf f.type)) x/\wf x:=by
 obtain⟨n,b,a,h1,c⟩:=h;exact R.get h1 c
def s05 {H:Type}{enc:TypeId×Value->H}(hl:laidOutB P=true){W g:World}(f:Below W.heap.size W g):∀{ts:List TypeId} {vs:List Value} {c:List (DataW H)} {ps:List MemPlace},
  (ts.all fun t=>P.readableRec t&&decide (t<P.types.size))=true->DataW.TrodAll enc P W 0 (fun _=>true) true ts vs c ps->(∀x∈ps,x.block<W.heap.size)->DataW.TrodAll enc P g 0 (fun b=>decide (b<W.heap.size)) true ts vs c ps
 |[],[],[],_,_,h,_=>h
 |[],[],_ :: _,_,_,h,_=>h.elim
 |[],_ :: _,_,_,_,h,_=>h.elim
 |_ :: _,[],_,_,_,h,_=>h.elim
 |_ :: _,_ :: _,[],_,_,h,_=>h.elim
 |t :: ts,v :: vs,d :: c,ps,hr,⟨p,q,h1,h2,e⟩,hp=>by
  simp only[List.all_cons,Bool.and_eq_true,decide_eq_true_eq]at hr;subst e;exact⟨p,q,Below.trod hl hr.1.1 hr.1.2 h1 f (fun x a=>hp x (List.mem_append_left _ a)),s05 hl f hr.2 h2 (fun x a=>hp x (List.mem_append_right _ a)),rfl⟩
def A0X {C:Checked}{os:Os}{f:FuncId}{fn:Func}{s:ChangeSpec}{tb:TypeId}{H:Type}{enc:TypeId×Value->H}(own:ownKnob C.prog.godebug=none)(started:os.Started)(b:C.prog.inits.idxOf? f=none)(u:C.prog.funcs[f]?=some fn)(hl:laidOutB C.prog=true)
  (m:fn.resultTypes=#[tb]) (n:C.prog.underlying tb=some .bool) (c:s.vars=[]) (r:(fn.params.toList.all fun t=>C.prog.readableRec t&&decide (t<C.prog.types.size))=true)
  (witness:∃(w:World) (tape:Tape) (i:Input),w.os=os/\(w.forCall tape i).Shaped C.prog/\i.vars=[]/\Input.okWide C.prog (w.forCall tape i) .any w.heap.size f i/\
   s.pre6 enc C.prog fn [] false (w.forCall tape i).memory i.args/\({}:Assume).holds C.prog (lone (Frame.enter C.prog f i.args .normal) [] (w.forCall tape i)))
  (d:∀(W:World) (args:Array Value) (a:List (DataW H)) (p:List MemPlace),DataW.TrodAll enc C.prog W 0 (fun _=>true) true fn.params.toList args.toList a p->(s.fn H (a++[])).results=[.lit (.bool true)]/\(s.fn H (a++[])).args=a/\(s.fn H (a++[])).vars=[])
  (body:∀(W:World) (base:Nat) (args:Array Value) (a:List (DataW H)) (p:List MemPlace),(∀(j:Nat) t v,fn.params[j]?=some t->args[j]?=some v->Value.okWide C.prog W .any base t v)->
   DataW.TrodAll enc C.prog W 0 (fun _=>true) true fn.params.toList args.toList a p->(∀x∈p,x.block<W.heap.size)->(DataW.weightsEach C.prog fn.params.toList a).all (·<=reachBytes)=true->
   Calls C.prog f args W fun e R=>e=.returned (.bool true)/\Below W.heap.size W R):
  ReturnsInHanded {} C os f .any (s.pre6 enc C.prog fn [] false) (s.post enc C.prog fn false true false false):=by
 refine returnsInHanded_of_change_sized own started b u witness ?_;intro W base args a gs before l J _ g _;have k:=J;obtain⟨p,q,I,z,rfl,_,_⟩:=J;rw[c]at z;obtain⟨rfl,rfl⟩:=trodVars_none z;have o:∀x∈p,x.block<W.heap.size:=fun x U=>by simpa using k.lt x (List.mem_append_left _ U)
 have y:s.plain.varTypes C.prog=[]:=by unfold ChangeSpec.plain;simp[DataSpec.varTypes,c]
 rw[y,List.append_nil,List.append_nil]at g;refine(body W base args a p l I o g).mono fun e R ⟨he,hb⟩=>?_;subst he;obtain⟨s1,s2,s3⟩:=d W args a p I;refine⟨_,rfl,a,[],p++[],[],p,[],k,?_,?_,?_,hb.frame _,fun h=>by cases h⟩
 ·rw[s1,m];exact trodAll_cons_mk (shut_bool n _) trodAll_mk0
 ·simp_all[s05]
 ·rw[s3,c];rfl
def B0L {H:Type}{enc:TypeId×Value->H}{W:World}{fuel n c:Nat}{A:Option Addr}{d:DataW H}{ps:List MemPlace}{ts:List TypeId}{i:List (DataW H)}{j:Nat}(g:P.underlying t=some (.slice e))
  (h:DataW.trod enc P W 0 (fun _=>true) true fuel t (Value.slice A n c).cells.toList=some (d,ps)) (b:(DataW.weightsEach P ts i).all (·<=reachBytes)=true) (k:ts[j]?=some t) (hd:i[j]?=some d):n*P.bytesOf e<=140737488351232:=by
 rcases DataW.trod_slice g h with⟨he,_⟩|⟨a,len,cap,elems,rest,f,rfl,he,hx,_,hle,_,hel,hget,_,_⟩
 ·simp_all[Value.cells]
 ·cases hx;simp[Value.cells]at he;have:=sized_slice b k hd g;simp only[List.length_map,hel]at this;have m:n*P.bytesOf e<=(len+rest.length)*P.bytesOf e:=Nat.mul_le_mul_right _ O';have l:reachBytes=140737488351232:=rfl;omega
end
