/- What the functions compute is what the program does. Its conditions: none. -/
import Derived.Test.YtfhehbfifffipaaVShort
import Derived.Test.YtfhehbfifffipaaTy
import Derived.Test.YtfhehbfifffipaaWad
import Derived.Test.YtfhehbfifffipaaWaf
set_option maxRecDepth 20000
set_option autoImplicit false
namespace Go.Proofs.Ytfhehbfifffipaa
open Go.V Go.RowKit
set_option linter.unusedVariables false
def post13 (w : World) (S : Off) (r : (Bool)) (v : Value) (w1 : World) : Prop := v = .bool r
abbrev R13 (w : World) (S : Off) (r : (Bool)) : Ending → World → Prop := fun e w1 => ∃ v, e = .returned v ∧ Below w.heap.size w w1 ∧ post13 w S r v w1
theorem ok13 (fuel : Nat) {w : World} {S : Off} (hS : ∀ b, S b → b < w.heap.size)   {r : (Bool)} (h : m_law17_sure fuel  = some r) :
 Calls Try.prog 13 #[] w (R13 w S r) := by
 refine enterL (vs := []) Try.func13 rfl rfl ?_
 intro a ha
 have cx := Cx.start (W0 := nob) hS
 refine with_nop (noP_body _ _) (fun hq => ?_)
 unfold m_law17_sure at h
 refine sq fun K hK => ?_
 refine reg ?_
 refine sg ha 1 [] w fun a ha => ?_
 refine hK _ _ ?_
 clear hK
 refine sq fun K hK => ?_
 refine reg ?_
 refine sg ha 5 [(7, .agg #[vI 2, vI (-1), vI (-1), vI 0, .int .u64 0, .int .u64 0, .int .u64 0, .int .u64 0]), (8, .agg #[vI 8, vI 0, vI (-1), vI 0, .int .u64 0, .int .u64 0, .int .u64 0, .int .u64 0]), (9, .agg #[vI 5, vI 1, vI (-1), vI 0, .int .u64 0, .int .u64 0, .int .u64 0, .int .u64 0]), (10, .agg #[vI 2, vI (-1), vI (-1), vI 0, .int .u64 0, .int .u64 0, .int .u64 0, .int .u64 0]), (11, .agg #[vI 3, vI 2, vI 3, vI 0, .int .u64 0, .int .u64 0, .int .u64 0, .int .u64 0])] w fun a ha => ?_
 refine op_new (V := fun b => .slice (some ⟨b, 0, none⟩) 5 5) (cs := [vI 2, vI (-1), vI (-1), vI 0, .int .u64 0, .int .u64 0, .int .u64 0, .int .u64 0, vI 8, vI 0, vI (-1), vI 0, .int .u64 0, .int .u64 0, .int .u64 0, .int .u64 0, vI 5, vI 1, vI (-1), vI 0, .int .u64 0, .int .u64 0, .int .u64 0, .int .u64 0, vI 2, vI (-1), vI (-1), vI 0, .int .u64 0, .int .u64 0, .int .u64 0, .int .u64 0, vI 3, vI 2, vI 3, vI 0, .int .u64 0, .int .u64 0, .int .u64 0, .int .u64 0]) (T := 42) ha (by kernel_rfl) (by kernel_rfl) ?_
 intro w1 b1 hb1 hk1 he1 _ a ha
 have f1 := lit_ow (T := tTerm) (xs := [(⟨2, (-1), (-1), (0 : Int), (List.replicate 4 0)⟩ : MTerm), (⟨8, 0, (-1), (0 : Int), (List.replicate 4 0)⟩ : MTerm), (⟨5, 1, (-1), (0 : Int), (List.replicate 4 0)⟩ : MTerm), (⟨2, (-1), (-1), (0 : Int), (List.replicate 4 0)⟩ : MTerm), (⟨3, 2, 3, (0 : Int), (List.replicate 4 0)⟩ : MTerm)]) (m := 5) cx hb1 hk1 he1 rfl (by kernel_rfl) ((Els.one (T := tTerm) (x := (⟨2, (-1), (-1), (0 : Int), (List.replicate 4 0)⟩ : MTerm)) ⟨rfl, rfl⟩).append ((Els.one (T := tTerm) (x := (⟨8, 0, (-1), (0 : Int), (List.replicate 4 0)⟩ : MTerm)) ⟨rfl, rfl⟩).append ((Els.one (T := tTerm) (x := (⟨5, 1, (-1), (0 : Int), (List.replicate 4 0)⟩ : MTerm)) ⟨rfl, rfl⟩).append ((Els.one (T := tTerm) (x := (⟨2, (-1), (-1), (0 : Int), (List.replicate 4 0)⟩ : MTerm)) ⟨rfl, rfl⟩).append (Els.one (T := tTerm) (x := (⟨3, 2, 3, (0 : Int), (List.replicate 4 0)⟩ : MTerm)) ⟨rfl, rfl⟩)))))
 replace f1 := own_out cx f1
 replace cx := cx.ext hb1
 refine sg ha 1 [(1, .slice (some ⟨b1, 0, none⟩) 5 5)] w1 fun a ha => ?_
 refine hK _ _ ?_
 clear hK
 refine sq fun K hK => ?_
 refine reg ?_
 refine sg ha 1 [(1, .slice (some ⟨b1, 0, none⟩) 5 5), (13, .slice (some ⟨b1, 0, none⟩) 5 5)] w1 fun a ha => ?_
 obtain ⟨x1, hx1, h⟩ := obind h
 refine op_call ha (by kernel_rfl) (f := 19) (args := #[.slice (some ⟨b1, 0, none⟩) 5 5, vI 0]) (w' := w1) (by kernel_rfl) (ok19 fuel (p0 := [(⟨2, (-1), (-1), (0 : Int), (List.replicate 4 0)⟩ : MTerm), (⟨8, 0, (-1), (0 : Int), (List.replicate 4 0)⟩ : MTerm), (⟨5, 1, (-1), (0 : Int), (List.replicate 4 0)⟩ : MTerm), (⟨2, (-1), (-1), (0 : Int), (List.replicate 4 0)⟩ : MTerm), (⟨3, 2, 3, (0 : Int), (List.replicate 4 0)⟩ : MTerm)]) (p1 := 0) cx.lt f1 hx1) ?_
 rintro v1 w2 ⟨hb2, hp1⟩ a ha
 obtain ⟨A1, c1, rfl, f2⟩ := hp1
 replace f2 := own_out cx f2
 replace f1 := f1.keep (Keep.ext S hb2)
 replace cx := cx.ext hb2
 refine sg ha 1 [(1, .slice (some ⟨b1, 0, none⟩) 5 5), (2, vS A1 x1 c1)] w2 fun a ha => ?_
 refine hK _ _ ?_
 clear hK
 refine sq fun K hK => ?_
 refine reg ?_
 refine sg ha 1 [(1, .slice (some ⟨b1, 0, none⟩) 5 5), (2, vS A1 x1 c1), (16, .slice (some ⟨b1, 0, none⟩) 5 5)] w2 fun a ha => ?_
 obtain ⟨x2, hx2, h⟩ := obind h
 refine op_call ha (by kernel_rfl) (f := 14) (args := #[.slice (some ⟨b1, 0, none⟩) 5 5, vI 0]) (w' := w2) (by kernel_rfl) (ok14 fuel (p0 := [(⟨2, (-1), (-1), (0 : Int), (List.replicate 4 0)⟩ : MTerm), (⟨8, 0, (-1), (0 : Int), (List.replicate 4 0)⟩ : MTerm), (⟨5, 1, (-1), (0 : Int), (List.replicate 4 0)⟩ : MTerm), (⟨2, (-1), (-1), (0 : Int), (List.replicate 4 0)⟩ : MTerm), (⟨3, 2, 3, (0 : Int), (List.replicate 4 0)⟩ : MTerm)]) (p1 := 0) cx.lt f1 hx2) ?_
 rintro v2 w3 ⟨hb3, hp2⟩ a ha
 obtain ⟨_, _, rfl, ⟨A2, c2, rfl, f3⟩, rfl⟩ := hp2
 replace f1 := f1.keep (Keep.ext S hb3)
 replace f2 := f2.keep (Keep.ext S hb3)
 replace cx := cx.ext hb3
 refine sg ha 3 [(1, .slice (some ⟨b1, 0, none⟩) 5 5), (2, vS A1 x1 c1), (18, .agg #[vI x2.1.To, vI x2.1.Turn, vS A2 x2.1.Steps c2]), (19, vB x2.2)] w3 fun a ha => ?_
 refine op_var (d := 3) (z := [vI 0, vI 0, .slice none 0 0]) (vs := [vI x2.1.To, vI x2.1.Turn, vS A2 x2.1.Steps c2]) (v := .agg #[vI x2.1.To, vI x2.1.Turn, vS A2 x2.1.Steps c2]) ha cx (by kernel_rfl) rfl (by kernel_rfl) (fun _ => by kernel_rfl) rfl rfl (fun _ => by kernel_rfl) (by kernel_rfl) (by kernel_rfl) (by kernel_rfl) ?_
 intro w4 b2 cx hb4 f4 a ha
 replace f1 := f1.keep (Keep.ext S hb4)
 replace f2 := f2.keep (Keep.ext S hb4)
 replace f3 := f3.keep (Keep.ext S hb4)
 refine sg ha 1 [(1, .slice (some ⟨b1, 0, none⟩) 5 5), (2, vS A1 x1 c1), (4, vB x2.2)] w4 fun a ha => ?_
 refine hK _ _ ?_
 clear hK
 refine sq fun K hK => ?_
 refine reg ?_
 refine sg ha 1 [(1, .slice (some ⟨b1, 0, none⟩) 5 5), (2, vS A1 x1 c1), (4, vB x2.2), (21, .slice (some ⟨b1, 0, none⟩) 5 5)] w4 fun a ha => ?_
 obtain ⟨x3, hx3, h⟩ := obind h
 refine op_call ha (by kernel_rfl) (f := 14) (args := #[.slice (some ⟨b1, 0, none⟩) 5 5, vI 1]) (w' := w4) (by kernel_rfl) (ok14 fuel (p0 := [(⟨2, (-1), (-1), (0 : Int), (List.replicate 4 0)⟩ : MTerm), (⟨8, 0, (-1), (0 : Int), (List.replicate 4 0)⟩ : MTerm), (⟨5, 1, (-1), (0 : Int), (List.replicate 4 0)⟩ : MTerm), (⟨2, (-1), (-1), (0 : Int), (List.replicate 4 0)⟩ : MTerm), (⟨3, 2, 3, (0 : Int), (List.replicate 4 0)⟩ : MTerm)]) (p1 := 1) cx.lt f1 hx3) ?_
 rintro v3 w5 ⟨hb5, hp3⟩ a ha
 obtain ⟨_, _, rfl, ⟨A3, c3, rfl, f5⟩, rfl⟩ := hp3
 replace f1 := f1.keep (Keep.ext S hb5)
 replace f2 := f2.keep (Keep.ext S hb5)
 replace cx := cx.ext hb5
 refine sg ha 3 [(1, .slice (some ⟨b1, 0, none⟩) 5 5), (2, vS A1 x1 c1), (4, vB x2.2), (23, .agg #[vI x3.1.To, vI x3.1.Turn, vS A3 x3.1.Steps c3]), (24, vB x3.2)] w5 fun a ha => ?_
 refine op_var (d := 5) (z := [vI 0, vI 0, .slice none 0 0]) (vs := [vI x3.1.To, vI x3.1.Turn, vS A3 x3.1.Steps c3]) (v := .agg #[vI x3.1.To, vI x3.1.Turn, vS A3 x3.1.Steps c3]) ha cx (by kernel_rfl) rfl (by kernel_rfl) (fun _ => by kernel_rfl) rfl rfl (fun _ => by kernel_rfl) (by kernel_rfl) (by kernel_rfl) (by kernel_rfl) ?_
 intro w6 b3 cx hb6 f6 a ha
 replace f1 := f1.keep (Keep.ext S hb6)
 replace f2 := f2.keep (Keep.ext S hb6)
 replace f5 := f5.keep (Keep.ext S hb6)
 refine sg ha 1 [(1, .slice (some ⟨b1, 0, none⟩) 5 5), (2, vS A1 x1 c1), (4, vB x2.2), (5, vP b3), (6, vB x3.2)] w6 fun a ha => ?_
 refine hK _ _ ?_
 clear hK
 refine sq fun K hK => ?_
 obtain ⟨q1, hj1, h⟩ := obind h
 refine wp_cutV (D := fun a w7 => ∃ x4 : Bool, ∃ (S1 : Off), x4 = q1 ∧ Cx w nob S w7 S1 ∧ Ag 81 [(0, vB x4)] a) ?_ ?_
 · clear h; have h := hj1
   refine reg ?_
   refine sg ha 4 [(1, .slice (some ⟨b1, 0, none⟩) 5 5), (2, vS A1 x1 c1), (4, vB x2.2), (5, vP b3), (6, vB x3.2), (28, vB ((x1.length : Int) == 2))] w6 fun a ha => ?_
   refine split_b (t := 28) ha rfl (fun hb ha => ?_) (fun hb ha => ?_)
   · replace h := itT hb h
     refine sg ha 1 [(1, .slice (some ⟨b1, 0, none⟩) 5 5), (2, vS A1 x1 c1), (4, vB x2.2), (5, vP b3), (6, vB x3.2), (28, vB true), (29, vS A1 x1 c1)] w6 fun a ha => ?_
     obtain ⟨hi1, h⟩ := ite_some h
     obtain ⟨b4, o1, cs1, rfl, hr1, hc1⟩ := f2.rdb.get hi1
     obtain ⟨A4, c4, rfl, f7⟩ := hr1
     refine ov (vE b4 o1 (0 : Int) 3) ha (obx w6 rfl rfl rfl Try.underlying31 rfl hi1) fun a ha => ?_
     refine sg ha 1 [(1, .slice (some ⟨b1, 0, none⟩) 5 5), (2, vS (some ⟨b4, o1, none⟩) x1 c1), (4, vB x2.2), (5, vP b3), (6, vB x3.2), (28, vB true), (31, .pointer (some (((⟨b4, o1, none⟩ : Addr).add ((0 : Int).toNat * 3)).add 0)))] w6 fun a ha => ?_
     refine ov (vI ((gt x1 0).To)) ha (ob_load w6 rfl rfl Try.underlying3 rfl ((cell_add2 _ _ _ _ _).trans (hc1 0 _ rfl))) fun a ha => ?_
     refine sg ha 3 [(1, .slice (some ⟨b1, 0, none⟩) 5 5), (2, vS (some ⟨b4, o1, none⟩) x1 c1), (4, vB x2.2), (5, vP b3), (6, vB x3.2), (35, vB (((gt x1 0).To) == 0))] w6 fun a ha => ?_
     refine split_b (t := 35) ha rfl (fun hb ha => ?_) (fun hb ha => ?_)
     · replace h := itT hb h
       refine sg ha 1 [(1, .slice (some ⟨b1, 0, none⟩) 5 5), (2, vS (some ⟨b4, o1, none⟩) x1 c1), (4, vB x2.2), (5, vP b3), (6, vB x3.2), (35, vB true), (36, vS (some ⟨b4, o1, none⟩) x1 c1)] w6 fun a ha => ?_
       obtain ⟨hi2, h⟩ := ite_some h
       obtain ⟨cs2, hr2, hc2⟩ := f2.rdb.at hi2
       obtain ⟨A5, c5, rfl, f8⟩ := hr2
       refine ov (vE b4 o1 (0 : Int) 3) ha (obx w6 rfl rfl rfl Try.underlying31 rfl hi2) fun a ha => ?_
       refine sg ha 1 [(1, .slice (some ⟨b1, 0, none⟩) 5 5), (2, vS (some ⟨b4, o1, none⟩) x1 c1), (4, vB x2.2), (5, vP b3), (6, vB x3.2), (35, vB true), (38, .pointer (some (((⟨b4, o1, none⟩ : Addr).add ((0 : Int).toNat * 3)).add 1)))] w6 fun a ha => ?_
       refine ov (vI ((gt x1 0).Turn)) ha (ob_load w6 rfl rfl Try.underlying3 rfl ((cell_add2 _ _ _ _ _).trans (hc2 1 _ rfl))) fun a ha => ?_
       refine sg ha 3 [(1, .slice (some ⟨b1, 0, none⟩) 5 5), (2, vS (some ⟨b4, o1, none⟩) x1 c1), (4, vB x2.2), (5, vP b3), (6, vB x3.2), (42, vB (((gt x1 0).Turn) == 2))] w6 fun a ha => ?_
       refine split_b (t := 42) ha rfl (fun hb ha => ?_) (fun hb ha => ?_)
       · replace h := itT hb h
         refine sg ha 1 [(1, .slice (some ⟨b1, 0, none⟩) 5 5), (2, vS (some ⟨b4, o1, none⟩) x1 c1), (4, vB x2.2), (5, vP b3), (6, vB x3.2), (42, vB true), (43, vS (some ⟨b4, o1, none⟩) x1 c1)] w6 fun a ha => ?_
         obtain ⟨hi3, h⟩ := ite_some h
         obtain ⟨cs3, hr3, hc3⟩ := f2.rdb.at hi3
         obtain ⟨A6, c6, rfl, f9⟩ := hr3
         refine ov (vE b4 o1 (1 : Int) 3) ha (obx w6 rfl rfl rfl Try.underlying31 rfl hi3) fun a ha => ?_
         refine sg ha 1 [(1, .slice (some ⟨b1, 0, none⟩) 5 5), (2, vS (some ⟨b4, o1, none⟩) x1 c1), (4, vB x2.2), (5, vP b3), (6, vB x3.2), (42, vB true), (45, .pointer (some (((⟨b4, o1, none⟩ : Addr).add ((1 : Int).toNat * 3)).add 1)))] w6 fun a ha => ?_
         refine ov (vI ((gt x1 1).Turn)) ha (ob_load w6 rfl rfl Try.underlying3 rfl ((cell_add2 _ _ _ _ _).trans (hc3 1 _ rfl))) fun a ha => ?_
         refine sg ha 3 [(1, .slice (some ⟨b1, 0, none⟩) 5 5), (2, vS (some ⟨b4, o1, none⟩) x1 c1), (4, vB x2.2), (5, vP b3), (6, vB x3.2), (49, vB (((gt x1 1).Turn) == 1))] w6 fun a ha => ?_
         refine split_b (t := 49) ha rfl (fun hb ha => ?_) (fun hb ha => ?_)
         · replace h := itT hb h
           refine sg ha 1 [(1, .slice (some ⟨b1, 0, none⟩) 5 5), (4, vB x2.2), (5, vP b3), (6, vB x3.2), (49, vB true), (50, vS (some ⟨b4, o1, none⟩) x1 c1)] w6 fun a ha => ?_
           obtain ⟨hi4, h⟩ := ite_some h
           obtain ⟨cs4, hr4, hc4⟩ := f2.rdb.at hi4
           obtain ⟨A7, c7, rfl, f10⟩ := hr4
           refine ov (vE b4 o1 (1 : Int) 3) ha (obx w6 rfl rfl rfl Try.underlying31 rfl hi4) fun a ha => ?_
           refine sg ha 1 [(1, .slice (some ⟨b1, 0, none⟩) 5 5), (4, vB x2.2), (5, vP b3), (6, vB x3.2), (49, vB true), (52, .pointer (some (((⟨b4, o1, none⟩ : Addr).add ((1 : Int).toNat * 3)).add 2)))] w6 fun a ha => ?_
           refine ov (vS A7 ((gt x1 1).Steps) c7) ha (ob_load w6 rfl rfl Try.underlying25 rfl ((cell_add2 _ _ _ _ _).trans (hc4 2 _ rfl))) fun a ha => ?_
           refine op_new (V := fun b => .slice (some ⟨b, 0, none⟩) 4 4) (cs := [vI 1, vI 3, vI 5, vI 6]) (T := 3) ha (by kernel_rfl) (by kernel_rfl) ?_
           intro w8 b5 hb7 hk2 he2 _ a ha
           have f11 := lit_ow (T := (tInt .i64)) (xs := [1, 3, 5, 6]) (m := 4) cx hb7 hk2 he2 rfl (by kernel_rfl) ((Els.one (T := (tInt .i64)) (x := 1) rfl).append ((Els.one (T := (tInt .i64)) (x := 3) rfl).append ((Els.one (T := (tInt .i64)) (x := 5) rfl).append (Els.one (T := (tInt .i64)) (x := 6) rfl))))
           replace f11 := own_out cx f11
           replace f1 := f1.keep (Keep.ext S hb7)
           replace f6 := f6.keep (Keep.ext S hb7)
           replace f5 := f5.keep (Keep.ext S hb7)
           replace f10 := f10.keep (Keep.ext S hb7)
           replace cx := cx.ext hb7
           obtain ⟨x5, hx4, h⟩ := obind h
           refine op_call ha (by kernel_rfl) (f := 30) (args := #[vS A7 ((gt x1 1).Steps) c7, .slice (some ⟨b5, 0, none⟩) 4 4]) (w' := w8) (by kernel_rfl) (ok30 fuel (p0 := (gt x1 1).Steps) (p1 := [1, 3, 5, 6]) cx.lt f10 f11 hx4) ?_
           rintro v4 w9 ⟨hb8, hp4⟩ a ha
           obtain rfl := hp4
           replace f1 := f1.keep (Keep.ext S hb8)
           replace f6 := f6.keep (Keep.ext S hb8)
           replace f5 := f5.keep (Keep.ext S hb8)
           replace cx := cx.ext hb8
           refine sg ha 2 [(1, .slice (some ⟨b1, 0, none⟩) 5 5), (4, vB x2.2), (5, vP b3), (6, vB x3.2), (57, vB x5)] w9 fun a ha => ?_
           refine split_b (t := 57) ha rfl (fun hb ha => ?_) (fun hb ha => ?_)
           · replace h := itT hb h
             refine sg ha 4 [(1, .slice (some ⟨b1, 0, none⟩) 5 5), (5, vP b3), (6, vB x3.2), (61, vB (!x2.2))] w9 fun a ha => ?_
             refine split_b (t := 61) ha rfl (fun hb ha => ?_) (fun hb ha => ?_)
             · replace h := itT hb h
               refine sg ha 3 [(1, .slice (some ⟨b1, 0, none⟩) 5 5), (5, vP b3), (64, vB x3.2)] w9 fun a ha => ?_
               refine split_b (t := 64) ha rfl (fun hb ha => ?_) (fun hb ha => ?_)
               · replace h := itT hb h
                 refine sg ha 1 [(1, .slice (some ⟨b1, 0, none⟩) 5 5), (5, vP b3), (64, vB true), (65, vF b3 0)] w9 fun a ha => ?_
                 refine ov (.int .i64 x3.1.To) ha (ob_load w9 rfl rfl Try.underlying3 rfl ((cell_add1 _ _ _ _).trans (by rw [Nat.zero_add]; exact f6.cell 0 _ rfl))) fun a ha => ?_
                 refine sg ha 3 [(1, .slice (some ⟨b1, 0, none⟩) 5 5), (5, vP b3), (69, vB (x3.1.To == (-1)))] w9 fun a ha => ?_
                 refine split_b (t := 69) ha rfl (fun hb ha => ?_) (fun hb ha => ?_)
                 · replace h := itT hb h
                   refine sg ha 1 [(1, .slice (some ⟨b1, 0, none⟩) 5 5), (69, vB true), (70, vF b3 2)] w9 fun a ha => ?_
                   refine ov (.slice A3 x3.1.Steps.length c3) ha (ob_load w9 rfl rfl Try.underlying25 rfl ((cell_add1 _ _ _ _).trans (by rw [Nat.zero_add]; exact f6.cell 2 _ rfl))) fun a ha => ?_
                   refine op_new (V := fun b => .slice (some ⟨b, 0, none⟩) 2 2) (cs := [vI 7, vI 9]) (T := 3) ha (by kernel_rfl) (by kernel_rfl) ?_
                   intro w10 b6 hb9 hk3 he3 _ a ha
                   have f12 := lit_ow (T := (tInt .i64)) (xs := [7, 9]) (m := 2) cx hb9 hk3 he3 rfl (by kernel_rfl) ((Els.one (T := (tInt .i64)) (x := 7) rfl).append (Els.one (T := (tInt .i64)) (x := 9) rfl))
                   replace f12 := own_out cx f12
                   replace f1 := f1.keep (Keep.ext S hb9)
                   replace f5 := f5.keep (Keep.ext S hb9)
                   replace cx := cx.ext hb9
                   obtain ⟨x6, hx5, h⟩ := obind h
                   refine op_call ha (by kernel_rfl) (f := 30) (args := #[vS A3 x3.1.Steps c3, .slice (some ⟨b6, 0, none⟩) 2 2]) (w' := w10) (by kernel_rfl) (ok30 fuel (p0 := x3.1.Steps) (p1 := [7, 9]) cx.lt f5 f12 hx5) ?_
                   rintro v5 w11 ⟨hb10, hp5⟩ a ha
                   obtain rfl := hp5
                   replace f1 := f1.keep (Keep.ext S hb10)
                   replace cx := cx.ext hb10
                   refine sg ha 2 [(1, .slice (some ⟨b1, 0, none⟩) 5 5), (75, vB x6)] w11 fun a ha => ?_
                   refine split_b (t := 75) ha rfl (fun hb ha => ?_) (fun hb ha => ?_)
                   · replace h := itT hb h
                     refine sg ha 1 [(75, vB true), (76, .slice (some ⟨b1, 0, none⟩) 5 5)] w11 fun a ha => ?_
                     obtain ⟨x7, hx6, h⟩ := obind h
                     refine op_call ha (by kernel_rfl) (f := 17) (args := #[.slice (some ⟨b1, 0, none⟩) 5 5, vI 4]) (w' := w11) (by kernel_rfl) (ok17 fuel (p0 := [(⟨2, (-1), (-1), (0 : Int), (List.replicate 4 0)⟩ : MTerm), (⟨8, 0, (-1), (0 : Int), (List.replicate 4 0)⟩ : MTerm), (⟨5, 1, (-1), (0 : Int), (List.replicate 4 0)⟩ : MTerm), (⟨2, (-1), (-1), (0 : Int), (List.replicate 4 0)⟩ : MTerm), (⟨3, 2, 3, (0 : Int), (List.replicate 4 0)⟩ : MTerm)]) (p1 := 4) cx.lt f1 hx6) ?_
                     rintro v6 w12 ⟨hb11, hp6⟩ a ha
                     obtain ⟨A8, c8, rfl, f13⟩ := hp6
                     replace f13 := own_out cx f13
                     replace cx := cx.ext hb11
                     refine sg ha 4 [(0, vB ((x7.length : Int) == 2))] w12 fun a ha => ?_
                     obtain rfl := Option.some.inj h
                     exact ⟨_, _, rfl, cx, ha.to (by kernel_rfl)⟩
                   · replace h := itF hb h
                     refine sg ha 6 [(0, vB false)] w11 fun a ha => ?_
                     obtain rfl := Option.some.inj h
                     exact ⟨_, _, rfl, cx, ha.to (by kernel_rfl)⟩
                 · replace h := itF hb h
                   refine sg ha 12 [(0, vB false)] w9 fun a ha => ?_
                   obtain rfl := Option.some.inj h
                   exact ⟨_, _, rfl, cx, ha.to (by kernel_rfl)⟩
               · replace h := itF hb h
                 refine sg ha 17 [(0, vB false)] w9 fun a ha => ?_
                 obtain rfl := Option.some.inj h
                 exact ⟨_, _, rfl, cx, ha.to (by kernel_rfl)⟩
             · replace h := itF hb h
               refine sg ha 20 [(0, vB false)] w9 fun a ha => ?_
               obtain rfl := Option.some.inj h
               exact ⟨_, _, rfl, cx, ha.to (by kernel_rfl)⟩
           · replace h := itF hb h
             refine sg ha 24 [(0, vB false)] w9 fun a ha => ?_
             obtain rfl := Option.some.inj h
             exact ⟨_, _, rfl, cx, ha.to (by kernel_rfl)⟩
         · replace h := itF hb h
           refine sg ha 32 [(0, vB false)] w6 fun a ha => ?_
           obtain rfl := Option.some.inj h
           exact ⟨_, _, rfl, cx, ha.to (by kernel_rfl)⟩
       · replace h := itF hb h
         refine sg ha 39 [(0, vB false)] w6 fun a ha => ?_
         obtain rfl := Option.some.inj h
         exact ⟨_, _, rfl, cx, ha.to (by kernel_rfl)⟩
     · replace h := itF hb h
       refine sg ha 46 [(0, vB false)] w6 fun a ha => ?_
       obtain rfl := Option.some.inj h
       exact ⟨_, _, rfl, cx, ha.to (by kernel_rfl)⟩
   · replace h := itF hb h
     refine sg ha 53 [(0, vB false)] w6 fun a ha => ?_
     obtain rfl := Option.some.inj h
     exact ⟨_, _, rfl, cx, ha.to (by kernel_rfl)⟩
 rintro a w7 ⟨x4, S1, rfl, cx, ha⟩
 refine hK _ _ ?_
 clear hK
 refine wp_ret ?_
 obtain rfl := Option.some.inj h
 show bodyPost Try.prog Try.f13 (R13 w S _) .ret a w7
 exact ret_1 (r1 := .tmp 0) (v1 := vB x4) ha rfl (.inl rfl) rfl ⟨_, rfl, cx.below, rfl⟩
end Go.Proofs.Ytfhehbfifffipaa
