/- What the functions compute is what the program does. Its conditions: none. -/
import Derived.Test.YtfhehbfifffipaaVShort
import Derived.Test.YtfhehbfifffipaaTy
set_option maxRecDepth 20000
set_option autoImplicit false
namespace Go.Proofs.Ytfhehbfifffipaa
open Go.V Go.RowKit
set_option linter.unusedVariables false
def post110 (w : World) (S : Off) (r : (Int)) (v : Value) (w1 : World) : Prop := v = .int .i64 r
abbrev R110 (w : World) (S : Off) (r : (Int)) : Ending → World → Prop := fun e w1 => ∃ v, e = .returned v ∧ Below w.heap.size w w1 ∧ post110 w S r v w1
theorem ok110 (fuel : Nat) {w : World} {S : Off} (hS : ∀ b, S b → b < w.heap.size) {p0 : (List MTerm)} {p1 : (List Int)} {p2 : Int} {A_p0 : Option Addr} {c_p0 : Nat} (h_p0 : Sl tTerm w.heap S A_p0 c_p0 p0) {A_p1 : Option Addr} {c_p1 : Nat} (h_p1 : Sl (tInt .i64) w.heap S A_p1 c_p1 p1) {r : (Int)} (h : m_term_low fuel p0 p1 p2 = some r) :
 Calls Try.prog 110 #[vS A_p0 p0 c_p0, vS A_p1 p1 c_p1, vI p2] w (R110 w S r) := by
 refine enterL (vs := [vS A_p0 p0 c_p0, vS A_p1 p1 c_p1, vI p2]) Try.func110 rfl rfl ?_
 intro a ha
 have cx := Cx.start (W0 := nob) hS
 refine with_nop (noP_body _ _) (fun hq => ?_)
 unfold m_term_low at h
 refine sq fun K hK => ?_
 refine reg ?_
 refine sg ha 1 [(0, vS A_p0 p0 c_p0), (1, vS A_p1 p1 c_p1), (2, vI p2)] w fun a ha => ?_
 refine hK _ _ ?_
 clear hK
 refine sq fun K hK => ?_
 refine reg ?_
 refine sg ha 2 [(1, vS A_p1 p1 c_p1), (2, vI p2), (8, vS A_p0 p0 c_p0), (9, vI p2)] w fun a ha => ?_
 obtain ⟨hi1, h⟩ := ite_some h
 obtain ⟨b1, o1, cs1, rfl, hr1, hc1⟩ := h_p0.rdb.get hi1
 obtain ⟨rfl, hl1⟩ := hr1
 refine ov (vE b1 o1 p2 8) ha (obx w rfl rfl rfl Try.underlying22 rfl hi1) fun a ha => ?_
 refine ov (.agg #[vI ((gt p0 p2).Kind), vI ((gt p0 p2).A), vI ((gt p0 p2).B), vI ((gt p0 p2).N), .int .u64 (gt ((gt p0 p2).Set) 0), .int .u64 (gt ((gt p0 p2).Set) 1), .int .u64 (gt ((gt p0 p2).Set) 2), .int .u64 (gt ((gt p0 p2).Set) 3)]) ha (ob_loadn (cs := [vI ((gt p0 p2).Kind), vI ((gt p0 p2).A), vI ((gt p0 p2).B), vI ((gt p0 p2).N), .int .u64 (gt ((gt p0 p2).Set) 0), .int .u64 (gt ((gt p0 p2).Set) 1), .int .u64 (gt ((gt p0 p2).Set) 2), .int .u64 (gt ((gt p0 p2).Set) 3)]) w rfl rfl Try.underlying42 rfl (by kernel_rfl) (fun j v hj => (cell_add2 _ _ _ _ _).trans (hc1 j v hj))) fun a ha => ?_
 refine op_var (d := 7) (z := [vI 0, vI 0, vI 0, vI 0, .int .u64 0, .int .u64 0, .int .u64 0, .int .u64 0]) (vs := [vI ((gt p0 p2).Kind), vI ((gt p0 p2).A), vI ((gt p0 p2).B), vI ((gt p0 p2).N), .int .u64 (gt ((gt p0 p2).Set) 0), .int .u64 (gt ((gt p0 p2).Set) 1), .int .u64 (gt ((gt p0 p2).Set) 2), .int .u64 (gt ((gt p0 p2).Set) 3)]) (v := .agg #[vI ((gt p0 p2).Kind), vI ((gt p0 p2).A), vI ((gt p0 p2).B), vI ((gt p0 p2).N), .int .u64 (gt ((gt p0 p2).Set) 0), .int .u64 (gt ((gt p0 p2).Set) 1), .int .u64 (gt ((gt p0 p2).Set) 2), .int .u64 (gt ((gt p0 p2).Set) 3)]) ha cx (by kernel_rfl) rfl (by kernel_rfl) (fun _ => by kernel_rfl) rfl rfl (fun _ => by kernel_rfl) (by kernel_rfl) (by kernel_rfl) (by kernel_rfl) ?_
 intro w1 b2 cx hb1 f1 a ha
 replace h_p1 := h_p1.keep (Keep.ext S hb1)
 refine hK _ _ ?_
 clear hK
 refine sq fun K hK => ?_
 obtain ⟨q1, hj1, h⟩ := obind h
 refine wp_cutV (D := fun a w2 => ∃ (S1 : Off), .inl () = q1 ∧ Cx w nob S w2 S1 ∧ Ag 85 [] a) ?_ ?_
 · have hq1 := h; clear h; have h := hj1
   refine sq fun K hK => ?_
   refine reg ?_
   refine sg ha 1 [(1, vS A_p1 p1 c_p1), (2, vI p2), (7, vP b2), (12, vF b2 0)] w1 fun a ha => ?_
   refine ov (.int .i64 ((gt p0 p2).Kind)) ha (ob_load w1 rfl rfl Try.underlying3 rfl ((cell_add1 _ _ _ _).trans (by rw [Nat.zero_add]; exact f1.cell 0 _ rfl))) fun a ha => ?_
   refine hK _ _ ?_
   clear hK
   obtain ⟨q2, hj2, h⟩ := obind h
   refine wp_cutV (D := fun a w3 => ∃ (S2 : Off), .inl () = q2 ∧ Cx w nob S w3 S2 ∧ Ag 85 [] a) ?_ ?_
   · have hq2 := h; clear h; have h := hj2
     refine wp_block ?_
     refine sq fun K hK => ?_
     obtain ⟨q3, hj3, h⟩ := obind h
     refine wp_cutV (D := fun a w_ => ∃ x1 : Bool, x1 = q3 ∧ w1 = w_ ∧ Ag 85 [(1, vS A_p1 p1 c_p1), (2, vI p2), (7, vP b2), (13, vI ((gt p0 p2).Kind)), (14, vB x1)] a) ?_ ?_
     · clear h; have h := hj3
       refine sq fun K hK => ?_
       refine reg ?_
       refine sg ha 2 [(1, vS A_p1 p1 c_p1), (2, vI p2), (7, vP b2), (13, vI ((gt p0 p2).Kind)), (14, vB (((gt p0 p2).Kind) == 1))] w1 fun a ha => ?_
       refine hK _ _ ?_
       clear hK
       refine cond_b ha rfl (fun hb => ?_) (fun hb => ?_)
       · replace h := itT hb h
         refine wp_skip ?_
         obtain rfl := Option.some.inj h
         exact ⟨_, rfl, rfl, ha.to (by kernel_rfl)⟩
       · replace h := itF hb h
         refine reg ?_
         refine sg ha 2 [(1, vS A_p1 p1 c_p1), (2, vI p2), (7, vP b2), (13, vI ((gt p0 p2).Kind)), (14, vB (((gt p0 p2).Kind) == 2))] w1 fun a ha => ?_
         obtain rfl := Option.some.inj h
         exact ⟨_, rfl, rfl, ha.to (by kernel_rfl)⟩
     rintro a _ ⟨x1, rfl, rfl, ha⟩
     refine hK _ _ ?_
     clear hK
     refine cond_b ha rfl (fun hb => ?_) (fun hb => ?_)
     · replace h := itT hb h
       refine sq fun K hK => ?_
       obtain ⟨q4, hj4, h⟩ := obind h
       refine wp_cutV (D := fun a w_ => ∃ x2 : Bool, x2 = q4 ∧ w1 = w_ ∧ Ag 85 [(2, vI p2), (24, vB x2)] a) ?_ ?_
       · clear h; have h := hj4
         refine reg ?_
         refine sg ha 1 [(2, vI p2), (7, vP b2), (17, vF b2 1)] w1 fun a ha => ?_
         refine ov (.int .i64 ((gt p0 p2).A)) ha (ob_load w1 rfl rfl Try.underlying3 rfl ((cell_add1 _ _ _ _).trans (by rw [Nat.zero_add]; exact f1.cell 1 _ rfl))) fun a ha => ?_
         refine sg ha 2 [(2, vI p2), (7, vP b2), (20, vB (((gt p0 p2).A) == (-1)))] w1 fun a ha => ?_
         refine split_b (t := 20) ha rfl (fun hb ha => ?_) (fun hb ha => ?_)
         · replace h := itT hb h
           refine sg ha 1 [(2, vI p2), (20, vB true), (21, vF b2 2)] w1 fun a ha => ?_
           refine ov (.int .i64 ((gt p0 p2).B)) ha (ob_load w1 rfl rfl Try.underlying3 rfl ((cell_add1 _ _ _ _).trans (by rw [Nat.zero_add]; exact f1.cell 2 _ rfl))) fun a ha => ?_
           refine sg ha 2 [(2, vI p2), (24, vB (((gt p0 p2).B) == (-1)))] w1 fun a ha => ?_
           obtain rfl := Option.some.inj h
           exact ⟨_, rfl, rfl, ha.to (by kernel_rfl)⟩
         · replace h := itF hb h
           refine sg ha 4 [(2, vI p2), (24, vB false)] w1 fun a ha => ?_
           obtain rfl := Option.some.inj h
           exact ⟨_, rfl, rfl, ha.to (by kernel_rfl)⟩
       rintro a _ ⟨x2, rfl, rfl, ha⟩
       refine hK _ _ ?_
       clear hK
       refine cond_b ha rfl (fun hb => ?_) (fun hb => ?_)
       · replace h := itT hb h
         refine sq fun K hK => ?_
         refine reg ?_
         refine sg ha 2 [(6, vI p2)] w1 fun a ha => ?_
         refine hK _ _ ?_
         clear hK
         refine wp_ret ?_
         obtain rfl := Option.some.inj h
         replace h := hq2
         obtain rfl := Option.some.inj h
         replace h := hq1
         obtain rfl := Option.some.inj h
         show bodyPost Try.prog Try.f110 (R110 w S _) .ret a w1
         exact ret_1 (r1 := .tmp 6) (v1 := vI p2) ha rfl (.inl rfl) rfl ⟨_, rfl, cx.below, rfl⟩
       · replace h := itF hb h
         refine wp_skip ?_
         obtain rfl := Option.some.inj h
         exact ⟨_, rfl, cx, ha.to (by kernel_rfl)⟩
     · replace h := itF hb h
       refine sq fun K hK => ?_
       obtain ⟨q5, hj5, h⟩ := obind h
       refine wp_cutV (D := fun a w_ => ∃ x3 : Bool, x3 = q5 ∧ w1 = w_ ∧ Ag 85 [(1, vS A_p1 p1 c_p1), (2, vI p2), (7, vP b2), (13, vI ((gt p0 p2).Kind)), (26, vB x3)] a) ?_ ?_
       · clear h; have h := hj5
         refine sq fun K hK => ?_
         refine reg ?_
         refine sg ha 2 [(1, vS A_p1 p1 c_p1), (2, vI p2), (7, vP b2), (13, vI ((gt p0 p2).Kind)), (26, vB (((gt p0 p2).Kind) == 3))] w1 fun a ha => ?_
         refine hK _ _ ?_
         clear hK
         refine cond_b ha rfl (fun hb => ?_) (fun hb => ?_)
         · replace h := itT hb h
           refine wp_skip ?_
           obtain rfl := Option.some.inj h
           exact ⟨_, rfl, rfl, ha.to (by kernel_rfl)⟩
         · replace h := itF hb h
           refine reg ?_
           refine sg ha 2 [(1, vS A_p1 p1 c_p1), (2, vI p2), (7, vP b2), (13, vI ((gt p0 p2).Kind)), (26, vB (((gt p0 p2).Kind) == 4))] w1 fun a ha => ?_
           obtain rfl := Option.some.inj h
           exact ⟨_, rfl, rfl, ha.to (by kernel_rfl)⟩
       rintro a _ ⟨x3, rfl, rfl, ha⟩
       refine hK _ _ ?_
       clear hK
       refine cond_b ha rfl (fun hb => ?_) (fun hb => ?_)
       · replace h := itT hb h
         refine sq fun K hK => ?_
         obtain ⟨q6, hj6, h⟩ := obind h
         refine wp_cutV (D := fun a w4 => ∃ x4 : Bool, ∃ (S3 : Off), x4 = q6 ∧ Cx w nob S w4 S3 ∧ Sl (tInt .i64) w4.heap S3 A_p1 c_p1 p1 ∧ Bx w4.heap S3 b2 42 [vI ((gt p0 p2).Kind), vI ((gt p0 p2).A), vI ((gt p0 p2).B), vI ((gt p0 p2).N), .int .u64 (gt ((gt p0 p2).Set) 0), .int .u64 (gt ((gt p0 p2).Set) 1), .int .u64 (gt ((gt p0 p2).Set) 2), .int .u64 (gt ((gt p0 p2).Set) 3)] ∧ Ag 85 [(1, vS A_p1 p1 c_p1), (7, vP b2), (54, vB x4)] a) ?_ ?_
         · clear h; have h := hj6
           refine dr_start 26 S rfl ?_
           intro w5 e1 hb2
           replace h_p1 := h_p1.keep (Keep.ext S hb2)
           replace f1 := f1.keep (Keep.ext S hb2)
           replace cx := cx.ext hb2
           refine dk 0 (vF b2 2) ha hq rfl (Sd.start _ _ _ _) fun hsx a ha => ?_
           refine dv 1 (.int .i64 ((gt p0 p2).B)) ha hq rfl (fun w2 hw2 hw3 => ob_load w2 rfl rfl Try.underlying3 rfl ((cell_add1 _ _ _ _).trans (by rw [Nat.zero_add]; exact Sold.cell (hw3 (by kernel_rfl)) (f1.cell 2 _ rfl)))) hsx fun hsx a ha => ?_
           refine dk 2 (vB (decide (((gt p0 p2).B) ≥ 0))) ha hq rfl hsx fun hsx a ha => ?_
           refine dk 3 (vB (decide (((gt p0 p2).B) ≥ 0))) ha hq rfl hsx fun hsx a ha => ?_
           refine split_b (t := 32) ha rfl (fun hb ha => ?_) (fun hb ha => ?_)
           · replace h := itT hb h
             refine dk 4 (vF b2 2) ha hq rfl hsx fun hsx a ha => ?_
             refine dv 5 (.int .i64 ((gt p0 p2).B)) ha hq rfl (fun w2 hw2 hw3 => ob_load w2 rfl rfl Try.underlying3 rfl ((cell_add1 _ _ _ _).trans (by rw [Nat.zero_add]; exact Sold.cell (hw3 (by kernel_rfl)) (f1.cell 2 _ rfl)))) hsx fun hsx a ha => ?_
             refine dk 6 (vI p2) ha hq rfl hsx fun hsx a ha => ?_
             refine dk 7 (vI (W (p2 - 1))) ha hq rfl hsx fun hsx a ha => ?_
             refine dk 8 (vB (((gt p0 p2).B) == (W (p2 - 1)))) ha hq rfl hsx fun hsx a ha => ?_
             refine dk 9 (vB (((gt p0 p2).B) == (W (p2 - 1)))) ha hq rfl hsx fun hsx a ha => ?_
             refine dk 10 (vB (((gt p0 p2).B) == (W (p2 - 1)))) ha hq rfl hsx fun hsx a ha => ?_
             refine split_b (t := 39) ha rfl (fun hb ha => ?_) (fun hb ha => ?_)
             · replace h := itT hb h
               refine dk 11 (vF b2 1) ha hq rfl hsx fun hsx a ha => ?_
               refine dv 12 (.int .i64 ((gt p0 p2).A)) ha hq rfl (fun w2 hw2 hw3 => ob_load w2 rfl rfl Try.underlying3 rfl ((cell_add1 _ _ _ _).trans (by rw [Nat.zero_add]; exact Sold.cell (hw3 (by kernel_rfl)) (f1.cell 1 _ rfl)))) hsx fun hsx a ha => ?_
               refine dk 13 (vB (decide (((gt p0 p2).A) ≥ 0))) ha hq rfl hsx fun hsx a ha => ?_
               refine dk 14 (vB (decide (((gt p0 p2).A) ≥ 0))) ha hq rfl hsx fun hsx a ha => ?_
               refine dk 15 (vB (decide (((gt p0 p2).A) ≥ 0))) ha hq rfl hsx fun hsx a ha => ?_
               refine split_b (t := 44) ha rfl (fun hb ha => ?_) (fun hb ha => ?_)
               · replace h := itT hb h
                 refine dk 16 (vF b2 1) ha hq rfl hsx fun hsx a ha => ?_
                 refine dv 17 (.int .i64 ((gt p0 p2).A)) ha hq rfl (fun w2 hw2 hw3 => ob_load w2 rfl rfl Try.underlying3 rfl ((cell_add1 _ _ _ _).trans (by rw [Nat.zero_add]; exact Sold.cell (hw3 (by kernel_rfl)) (f1.cell 1 _ rfl)))) hsx fun hsx a ha => ?_
                 refine dk 18 (vS A_p1 p1 c_p1) ha hq rfl hsx fun hsx a ha => ?_
                 refine dk 19 (vF b2 2) ha hq rfl hsx fun hsx a ha => ?_
                 refine dv 20 (.int .i64 ((gt p0 p2).B)) ha hq rfl (fun w2 hw2 hw3 => ob_load w2 rfl rfl Try.underlying3 rfl ((cell_add1 _ _ _ _).trans (by rw [Nat.zero_add]; exact Sold.cell (hw3 (by kernel_rfl)) (f1.cell 2 _ rfl)))) hsx fun hsx a ha => ?_
                 obtain ⟨hi2, h⟩ := ite_some h
                 obtain ⟨b3, o2, cs2, rfl, hr2, hc2⟩ := h_p1.rdb.get hi2
                 obtain rfl := hr2
                 refine dv 21 (vE b3 o2 ((gt p0 p2).B) 1) ha hq rfl (fun w2 hw2 hw3 => obx w2 rfl rfl rfl Try.underlying25 rfl hi2) hsx fun hsx a ha => ?_
                 refine dv 22 (vI (gt p1 ((gt p0 p2).B))) ha hq rfl (fun w2 hw2 hw3 => ob_load w2 rfl rfl Try.underlying3 rfl ((cell_add1 _ _ _ _).trans (Sold.cell (hw3 (by kernel_rfl)) (hc2 0 _ rfl)))) hsx fun hsx a ha => ?_
                 refine dk 23 (vI (W ((gt p1 ((gt p0 p2).B)) - 1))) ha hq rfl hsx fun hsx a ha => ?_
                 refine dk 24 (vB (((gt p0 p2).A) == (W ((gt p1 ((gt p0 p2).B)) - 1)))) ha hq rfl hsx fun hsx a ha => ?_
                 refine dk 25 (vB (((gt p0 p2).A) == (W ((gt p1 ((gt p0 p2).B)) - 1)))) ha hq rfl hsx fun hsx a ha => ?_
                 refine dr_done (by kernel_rfl) ?_
                 replace ha := ha.to (l' := [(1, vS (some ⟨b3, o2, none⟩) p1 c_p1), (7, vP b2), (54, vB (((gt p0 p2).A) == (W ((gt p1 ((gt p0 p2).B)) - 1))))]) (by kernel_rfl)
                 obtain rfl := Option.some.inj h
                 exact ⟨_, _, rfl, cx, h_p1, f1, ha.to (by kernel_rfl)⟩
               · replace h := itF hb h
                 refine dof 16 ha hq rfl hsx fun hsx a ha => ?_
                 refine dof 17 ha hq rfl hsx fun hsx a ha => ?_
                 refine dof 18 ha hq rfl hsx fun hsx a ha => ?_
                 refine dof 19 ha hq rfl hsx fun hsx a ha => ?_
                 refine dof 20 ha hq rfl hsx fun hsx a ha => ?_
                 refine dof 21 ha hq rfl hsx fun hsx a ha => ?_
                 refine dof 22 ha hq rfl hsx fun hsx a ha => ?_
                 refine dof 23 ha hq rfl hsx fun hsx a ha => ?_
                 refine dof 24 ha hq rfl hsx fun hsx a ha => ?_
                 refine dk 25 (vB false) ha hq rfl hsx fun hsx a ha => ?_
                 refine dr_done (by kernel_rfl) ?_
                 replace ha := ha.to (l' := [(1, vS A_p1 p1 c_p1), (7, vP b2), (54, vB false)]) (by kernel_rfl)
                 obtain rfl := Option.some.inj h
                 exact ⟨_, _, rfl, cx, h_p1, f1, ha.to (by kernel_rfl)⟩
             · replace h := itF hb h
               refine dof 11 ha hq rfl hsx fun hsx a ha => ?_
               refine dof 12 ha hq rfl hsx fun hsx a ha => ?_
               refine dof 13 ha hq rfl hsx fun hsx a ha => ?_
               refine dk 14 (vB false) ha hq rfl hsx fun hsx a ha => ?_
               refine dk 15 (vB false) ha hq rfl hsx fun hsx a ha => ?_
               refine dof 16 ha hq rfl hsx fun hsx a ha => ?_
               refine dof 17 ha hq rfl hsx fun hsx a ha => ?_
               refine dof 18 ha hq rfl hsx fun hsx a ha => ?_
               refine dof 19 ha hq rfl hsx fun hsx a ha => ?_
               refine dof 20 ha hq rfl hsx fun hsx a ha => ?_
               refine dof 21 ha hq rfl hsx fun hsx a ha => ?_
               refine dof 22 ha hq rfl hsx fun hsx a ha => ?_
               refine dof 23 ha hq rfl hsx fun hsx a ha => ?_
               refine dof 24 ha hq rfl hsx fun hsx a ha => ?_
               refine dk 25 (vB false) ha hq rfl hsx fun hsx a ha => ?_
               refine dr_done (by kernel_rfl) ?_
               replace ha := ha.to (l' := [(1, vS A_p1 p1 c_p1), (7, vP b2), (54, vB false)]) (by kernel_rfl)
               obtain rfl := Option.some.inj h
               exact ⟨_, _, rfl, cx, h_p1, f1, ha.to (by kernel_rfl)⟩
           · replace h := itF hb h
             refine dof 4 ha hq rfl hsx fun hsx a ha => ?_
             refine dof 5 ha hq rfl hsx fun hsx a ha => ?_
             refine dof 6 ha hq rfl hsx fun hsx a ha => ?_
             refine dof 7 ha hq rfl hsx fun hsx a ha => ?_
             refine dof 8 ha hq rfl hsx fun hsx a ha => ?_
             refine dk 9 (vB false) ha hq rfl hsx fun hsx a ha => ?_
             refine dk 10 (vB false) ha hq rfl hsx fun hsx a ha => ?_
             refine dof 11 ha hq rfl hsx fun hsx a ha => ?_
             refine dof 12 ha hq rfl hsx fun hsx a ha => ?_
             refine dof 13 ha hq rfl hsx fun hsx a ha => ?_
             refine dk 14 (vB false) ha hq rfl hsx fun hsx a ha => ?_
             refine dk 15 (vB false) ha hq rfl hsx fun hsx a ha => ?_
             refine dof 16 ha hq rfl hsx fun hsx a ha => ?_
             refine dof 17 ha hq rfl hsx fun hsx a ha => ?_
             refine dof 18 ha hq rfl hsx fun hsx a ha => ?_
             refine dof 19 ha hq rfl hsx fun hsx a ha => ?_
             refine dof 20 ha hq rfl hsx fun hsx a ha => ?_
             refine dof 21 ha hq rfl hsx fun hsx a ha => ?_
             refine dof 22 ha hq rfl hsx fun hsx a ha => ?_
             refine dof 23 ha hq rfl hsx fun hsx a ha => ?_
             refine dof 24 ha hq rfl hsx fun hsx a ha => ?_
             refine dk 25 (vB false) ha hq rfl hsx fun hsx a ha => ?_
             refine dr_done (by kernel_rfl) ?_
             replace ha := ha.to (l' := [(1, vS A_p1 p1 c_p1), (7, vP b2), (54, vB false)]) (by kernel_rfl)
             obtain rfl := Option.some.inj h
             exact ⟨_, _, rfl, cx, h_p1, f1, ha.to (by kernel_rfl)⟩
         rintro a w4 ⟨x4, S3, rfl, cx, h_p1, f1, ha⟩
         refine hK _ _ ?_
         clear hK
         refine cond_b ha rfl (fun hb => ?_) (fun hb => ?_)
         · replace h := itT hb h
           refine sq fun K hK => ?_
           refine reg ?_
           refine sg ha 2 [(55, vS A_p1 p1 c_p1), (56, vF b2 1)] w4 fun a ha => ?_
           refine ov (.int .i64 ((gt p0 p2).A)) ha (ob_load w4 rfl rfl Try.underlying3 rfl ((cell_add1 _ _ _ _).trans (by rw [Nat.zero_add]; exact f1.cell 1 _ rfl))) fun a ha => ?_
           obtain ⟨hi3, h⟩ := ite_some h
           obtain ⟨b4, o3, cs3, rfl, hr3, hc3⟩ := h_p1.rdb.get hi3
           obtain rfl := hr3
           refine ov (vE b4 o3 ((gt p0 p2).A) 1) ha (obx w4 rfl rfl rfl Try.underlying25 rfl hi3) fun a ha => ?_
           refine ov (vI (gt p1 ((gt p0 p2).A))) ha (ob_load w4 rfl rfl Try.underlying3 rfl ((cell_add1 _ _ _ _).trans (hc3 0 _ rfl))) fun a ha => ?_
           refine sg ha 1 [(6, vI (gt p1 ((gt p0 p2).A)))] w4 fun a ha => ?_
           refine hK _ _ ?_
           clear hK
           refine wp_ret ?_
           obtain rfl := Option.some.inj h
           replace h := hq2
           obtain rfl := Option.some.inj h
           replace h := hq1
           obtain rfl := Option.some.inj h
           show bodyPost Try.prog Try.f110 (R110 w S _) .ret a w4
           exact ret_1 (r1 := .tmp 6) (v1 := vI (gt p1 ((gt p0 p2).A))) ha rfl (.inl rfl) rfl ⟨_, rfl, cx.below, rfl⟩
         · replace h := itF hb h
           refine wp_skip ?_
           obtain rfl := Option.some.inj h
           exact ⟨_, rfl, cx, ha.to (by kernel_rfl)⟩
       · replace h := itF hb h
         refine sq fun K hK => ?_
         obtain ⟨q7, hj7, h⟩ := obind h
         refine wp_cutV (D := fun a w_ => ∃ x5 : Bool, x5 = q7 ∧ w1 = w_ ∧ Ag 85 [(1, vS A_p1 p1 c_p1), (2, vI p2), (7, vP b2), (60, vB x5)] a) ?_ ?_
         · clear h; have h := hj7
           refine sq fun K hK => ?_
           refine reg ?_
           refine sg ha 2 [(1, vS A_p1 p1 c_p1), (2, vI p2), (7, vP b2), (13, vI ((gt p0 p2).Kind)), (60, vB (((gt p0 p2).Kind) == 5))] w1 fun a ha => ?_
           refine hK _ _ ?_
           clear hK
           refine cond_b ha rfl (fun hb => ?_) (fun hb => ?_)
           · replace h := itT hb h
             refine wp_skip ?_
             obtain rfl := Option.some.inj h
             exact ⟨_, rfl, rfl, ha.to (by kernel_rfl)⟩
           · replace h := itF hb h
             refine sq fun K hK => ?_
             refine reg ?_
             refine sg ha 2 [(1, vS A_p1 p1 c_p1), (2, vI p2), (7, vP b2), (13, vI ((gt p0 p2).Kind)), (60, vB (((gt p0 p2).Kind) == 6))] w1 fun a ha => ?_
             refine hK _ _ ?_
             clear hK
             refine cond_b ha rfl (fun hb => ?_) (fun hb => ?_)
             · replace h := itT hb h
               refine wp_skip ?_
               obtain rfl := Option.some.inj h
               exact ⟨_, rfl, rfl, ha.to (by kernel_rfl)⟩
             · replace h := itF hb h
               refine sq fun K hK => ?_
               refine reg ?_
               refine sg ha 2 [(1, vS A_p1 p1 c_p1), (2, vI p2), (7, vP b2), (13, vI ((gt p0 p2).Kind)), (60, vB (((gt p0 p2).Kind) == 7))] w1 fun a ha => ?_
               refine hK _ _ ?_
               clear hK
               refine cond_b ha rfl (fun hb => ?_) (fun hb => ?_)
               · replace h := itT hb h
                 refine wp_skip ?_
                 obtain rfl := Option.some.inj h
                 exact ⟨_, rfl, rfl, ha.to (by kernel_rfl)⟩
               · replace h := itF hb h
                 refine reg ?_
                 refine sg ha 2 [(1, vS A_p1 p1 c_p1), (2, vI p2), (7, vP b2), (60, vB (((gt p0 p2).Kind) == 8))] w1 fun a ha => ?_
                 obtain rfl := Option.some.inj h
                 exact ⟨_, rfl, rfl, ha.to (by kernel_rfl)⟩
         rintro a _ ⟨x5, rfl, rfl, ha⟩
         refine hK _ _ ?_
         clear hK
         refine cond_b ha rfl (fun hb => ?_) (fun hb => ?_)
         · replace h := itT hb h
           refine sq fun K hK => ?_
           obtain ⟨q8, hj8, h⟩ := obind h
           refine wp_cutV (D := fun a w_ => ∃ x6 : Bool, x6 = q8 ∧ w1 = w_ ∧ Ag 85 [(1, vS A_p1 p1 c_p1), (7, vP b2), (79, vB x6)] a) ?_ ?_
           · clear h; have h := hj8
             refine reg ?_
             refine sg ha 1 [(1, vS A_p1 p1 c_p1), (2, vI p2), (7, vP b2), (65, vF b2 2)] w1 fun a ha => ?_
             refine ov (.int .i64 ((gt p0 p2).B)) ha (ob_load w1 rfl rfl Try.underlying3 rfl ((cell_add1 _ _ _ _).trans (by rw [Nat.zero_add]; exact f1.cell 2 _ rfl))) fun a ha => ?_
             refine sg ha 2 [(1, vS A_p1 p1 c_p1), (2, vI p2), (7, vP b2), (68, vB (((gt p0 p2).B) == (-1)))] w1 fun a ha => ?_
             refine split_b (t := 68) ha rfl (fun hb ha => ?_) (fun hb ha => ?_)
             · replace h := itT hb h
               refine sg ha 1 [(1, vS A_p1 p1 c_p1), (2, vI p2), (7, vP b2), (68, vB true), (69, vF b2 1)] w1 fun a ha => ?_
               refine ov (.int .i64 ((gt p0 p2).A)) ha (ob_load w1 rfl rfl Try.underlying3 rfl ((cell_add1 _ _ _ _).trans (by rw [Nat.zero_add]; exact f1.cell 1 _ rfl))) fun a ha => ?_
               refine sg ha 3 [(1, vS A_p1 p1 c_p1), (2, vI p2), (7, vP b2), (73, vB (decide (((gt p0 p2).A) ≥ 0)))] w1 fun a ha => ?_
               refine split_b (t := 73) ha rfl (fun hb ha => ?_) (fun hb ha => ?_)
               · replace h := itT hb h
                 refine sg ha 1 [(1, vS A_p1 p1 c_p1), (2, vI p2), (7, vP b2), (73, vB true), (74, vF b2 1)] w1 fun a ha => ?_
                 refine ov (.int .i64 ((gt p0 p2).A)) ha (ob_load w1 rfl rfl Try.underlying3 rfl ((cell_add1 _ _ _ _).trans (by rw [Nat.zero_add]; exact f1.cell 1 _ rfl))) fun a ha => ?_
                 refine sg ha 4 [(1, vS A_p1 p1 c_p1), (7, vP b2), (79, vB (((gt p0 p2).A) == (W (p2 - 1))))] w1 fun a ha => ?_
                 obtain rfl := Option.some.inj h
                 exact ⟨_, rfl, rfl, ha.to (by kernel_rfl)⟩
               · replace h := itF hb h
                 refine sg ha 6 [(1, vS A_p1 p1 c_p1), (7, vP b2), (79, vB false)] w1 fun a ha => ?_
                 obtain rfl := Option.some.inj h
                 exact ⟨_, rfl, rfl, ha.to (by kernel_rfl)⟩
             · replace h := itF hb h
               refine sg ha 11 [(1, vS A_p1 p1 c_p1), (7, vP b2), (79, vB false)] w1 fun a ha => ?_
               obtain rfl := Option.some.inj h
               exact ⟨_, rfl, rfl, ha.to (by kernel_rfl)⟩
           rintro a _ ⟨x6, rfl, rfl, ha⟩
           refine hK _ _ ?_
           clear hK
           refine cond_b ha rfl (fun hb => ?_) (fun hb => ?_)
           · replace h := itT hb h
             refine sq fun K hK => ?_
             refine reg ?_
             refine sg ha 2 [(80, vS A_p1 p1 c_p1), (81, vF b2 1)] w1 fun a ha => ?_
             refine ov (.int .i64 ((gt p0 p2).A)) ha (ob_load w1 rfl rfl Try.underlying3 rfl ((cell_add1 _ _ _ _).trans (by rw [Nat.zero_add]; exact f1.cell 1 _ rfl))) fun a ha => ?_
             obtain ⟨hi4, h⟩ := ite_some h
             obtain ⟨b5, o4, cs4, rfl, hr4, hc4⟩ := h_p1.rdb.get hi4
             obtain rfl := hr4
             refine ov (vE b5 o4 ((gt p0 p2).A) 1) ha (obx w1 rfl rfl rfl Try.underlying25 rfl hi4) fun a ha => ?_
             refine ov (vI (gt p1 ((gt p0 p2).A))) ha (ob_load w1 rfl rfl Try.underlying3 rfl ((cell_add1 _ _ _ _).trans (hc4 0 _ rfl))) fun a ha => ?_
             refine sg ha 1 [(6, vI (gt p1 ((gt p0 p2).A)))] w1 fun a ha => ?_
             refine hK _ _ ?_
             clear hK
             refine wp_ret ?_
             obtain rfl := Option.some.inj h
             replace h := hq2
             obtain rfl := Option.some.inj h
             replace h := hq1
             obtain rfl := Option.some.inj h
             show bodyPost Try.prog Try.f110 (R110 w S _) .ret a w1
             exact ret_1 (r1 := .tmp 6) (v1 := vI (gt p1 ((gt p0 p2).A))) ha rfl (.inl rfl) rfl ⟨_, rfl, cx.below, rfl⟩
           · replace h := itF hb h
             refine wp_skip ?_
             obtain rfl := Option.some.inj h
             exact ⟨_, rfl, cx, ha.to (by kernel_rfl)⟩
         · replace h := itF hb h
           refine wp_skip ?_
           obtain rfl := Option.some.inj h
           exact ⟨_, rfl, cx, ha.to (by kernel_rfl)⟩
   rintro a w3 ⟨S2, rfl, cx, ha⟩
   obtain rfl := Option.some.inj h
   exact ⟨_, rfl, cx, ha.to (by kernel_rfl)⟩
 rintro a w2 ⟨S1, rfl, cx, ha⟩
 refine hK _ _ ?_
 clear hK
 refine sq fun K hK => ?_
 refine reg ?_
 refine sg ha 1 [(6, vI (-1))] w2 fun a ha => ?_
 refine hK _ _ ?_
 clear hK
 refine wp_ret ?_
 obtain rfl := Option.some.inj h
 show bodyPost Try.prog Try.f110 (R110 w S _) .ret a w2
 exact ret_1 (r1 := .tmp 6) (v1 := vI (-1)) ha rfl (.inl rfl) rfl ⟨_, rfl, cx.below, rfl⟩
def post111 (w : World) (S : Off) (r : (Bool)) (v : Value) (w1 : World) : Prop := v = .bool r
abbrev R111 (w : World) (S : Off) (r : (Bool)) : Ending → World → Prop := fun e w1 => ∃ v, e = .returned v ∧ Below w.heap.size w w1 ∧ post111 w S r v w1
theorem ok111 (fuel : Nat) {w : World} {S : Off} (hS : ∀ b, S b → b < w.heap.size) {p0 : MTerm}  {r : (Bool)} (h : m_term_fields fuel p0 = some r) :
 Calls Try.prog 111 #[.agg #[vI p0.Kind, vI p0.A, vI p0.B, vI p0.N, .int .u64 (gt p0.Set 0), .int .u64 (gt p0.Set 1), .int .u64 (gt p0.Set 2), .int .u64 (gt p0.Set 3)]] w (R111 w S r) := by
 refine enterL (vs := [.agg #[vI p0.Kind, vI p0.A, vI p0.B, vI p0.N, .int .u64 (gt p0.Set 0), .int .u64 (gt p0.Set 1), .int .u64 (gt p0.Set 2), .int .u64 (gt p0.Set 3)]]) Try.func111 rfl rfl ?_
 intro a ha
 have cx := Cx.start (W0 := nob) hS
 refine with_nop (noP_body _ _) (fun hq => ?_)
 unfold m_term_fields at h
 refine sq fun K hK => ?_
 refine reg ?_
 refine op_new (V := fun b => vP b) (cs := [vI p0.Kind, vI p0.A, vI p0.B, vI p0.N, .int .u64 (gt p0.Set 0), .int .u64 (gt p0.Set 1), .int .u64 (gt p0.Set 2), .int .u64 (gt p0.Set 3)]) (T := 42) ha (by kernel_rfl) (by kernel_rfl) ?_
 intro w1 b1 hb1 hk1 he1 _ a ha
 have f1 := Bx.new cx hk1 he1
 replace cx := cx.ext hb1
 refine sg ha 1 [(1, vP b1)] w1 fun a ha => ?_
 refine hK _ _ ?_
 clear hK
 refine sq fun K hK => ?_
 refine sq fun K hK => ?_
 obtain ⟨q1, hj1, h⟩ := obind h
 refine wp_cutV (D := fun a w_ => ∃ x1 : Bool, x1 = q1 ∧ w1 = w_ ∧ Ag 26 [(1, vP b1), (11, vB x1)] a) ?_ ?_
 · clear h; have h := hj1
   refine reg ?_
   refine sg ha 1 [(1, vP b1), (3, vF b1 0)] w1 fun a ha => ?_
   refine ov (.int .i64 p0.Kind) ha (ob_load w1 rfl rfl Try.underlying3 rfl ((cell_add1 _ _ _ _).trans (by rw [Nat.zero_add]; exact f1.cell 0 _ rfl))) fun a ha => ?_
   refine sg ha 2 [(1, vP b1), (6, vB (p0.Kind != 2))] w1 fun a ha => ?_
   refine split_b (t := 6) ha rfl (fun hb ha => ?_) (fun hb ha => ?_)
   · replace h := itT hb h
     refine sg ha 1 [(1, vP b1), (6, vB true), (7, vF b1 4)] w1 fun a ha => ?_
     refine ov (.agg #[.int .u64 (gt p0.Set 0), .int .u64 (gt p0.Set 1), .int .u64 (gt p0.Set 2), .int .u64 (gt p0.Set 3)]) ha (ob_loadn (cs := [.int .u64 (gt p0.Set 0), .int .u64 (gt p0.Set 1), .int .u64 (gt p0.Set 2), .int .u64 (gt p0.Set 3)]) w1 rfl rfl Try.underlying40 rfl (by kernel_rfl) (fun j v hj => (cell_add2 _ _ _ _ _).trans (by rw [Nat.zero_add]; exact f1.cell (4 + j) v (sub_cells (off := 4) (m := 4) rfl hj)))) fun a ha => ?_
     refine sg ha 1 [(1, vP b1), (6, vB true), (8, .agg #[.int .u64 (gt p0.Set 0), .int .u64 (gt p0.Set 1), .int .u64 (gt p0.Set 2), .int .u64 (gt p0.Set 3)]), (9, .agg #[.int .u64 0, .int .u64 0, .int .u64 0, .int .u64 0])] w1 fun a ha => ?_
     refine ov (vB (!(((gt p0.Set 0) == 0) && (((gt p0.Set 1) == 0) && (((gt p0.Set 2) == 0) && ((gt p0.Set 3) == 0)))))) ha (ob_neagg w1 rfl rfl rfl (by kernel_rfl) (eqL40 (gt p0.Set 0) (gt p0.Set 1) (gt p0.Set 2) (gt p0.Set 3) 0 0 0 0)) fun a ha => ?_
     refine sg ha 1 [(1, vP b1), (11, vB (!(((gt p0.Set 0) == 0) && (((gt p0.Set 1) == 0) && (((gt p0.Set 2) == 0) && ((gt p0.Set 3) == 0))))))] w1 fun a ha => ?_
     obtain rfl := Option.some.inj h
     exact ⟨_, rfl, rfl, ha.to (by kernel_rfl)⟩
   · replace h := itF hb h
     refine sg ha 5 [(1, vP b1), (11, vB false)] w1 fun a ha => ?_
     obtain rfl := Option.some.inj h
     exact ⟨_, rfl, rfl, ha.to (by kernel_rfl)⟩
 rintro a _ ⟨x1, rfl, rfl, ha⟩
 refine hK _ _ ?_
 clear hK
 refine cond_b ha rfl (fun hb => ?_) (fun hb => ?_)
 · replace h := itT hb h
   refine sq fun K hK => ?_
   refine reg ?_
   refine sg ha 1 [(2, vB false)] w1 fun a ha => ?_
   refine hK _ _ ?_
   clear hK
   refine wp_ret ?_
   obtain rfl := Option.some.inj h
   show bodyPost Try.prog Try.f111 (R111 w S _) .ret a w1
   exact ret_1 (r1 := .tmp 2) (v1 := vB false) ha rfl (.inl rfl) rfl ⟨_, rfl, cx.below, rfl⟩
 · replace h := itF hb h
   refine wp_skip ?_
   refine hK _ _ ?_
   clear hK
   refine sq fun K hK => ?_
   refine sq fun K hK => ?_
   refine reg ?_
   refine sg ha 1 [(1, vP b1), (12, vF b1 0)] w1 fun a ha => ?_
   refine ov (.int .i64 p0.Kind) ha (ob_load w1 rfl rfl Try.underlying3 rfl ((cell_add1 _ _ _ _).trans (by rw [Nat.zero_add]; exact f1.cell 0 _ rfl))) fun a ha => ?_
   refine sg ha 1 [(1, vP b1), (14, vB (p0.Kind == 7))] w1 fun a ha => ?_
   refine hK _ _ ?_
   clear hK
   refine cond_b ha rfl (fun hb => ?_) (fun hb => ?_)
   · replace h := itT hb h
     refine sq fun K hK => ?_
     obtain ⟨q2, hj2, h⟩ := obind h
     refine wp_cutV (D := fun a w_ => ∃ x2 : Bool, x2 = q2 ∧ w1 = w_ ∧ Ag 26 [(2, vB x2)] a) ?_ ?_
     · clear h; have h := hj2
       refine reg ?_
       refine sg ha 1 [(1, vP b1), (15, vF b1 3)] w1 fun a ha => ?_
       refine ov (.int .i64 p0.N) ha (ob_load w1 rfl rfl Try.underlying3 rfl ((cell_add1 _ _ _ _).trans (by rw [Nat.zero_add]; exact f1.cell 3 _ rfl))) fun a ha => ?_
       refine sg ha 2 [(1, vP b1), (18, vB (decide (p0.N ≥ 1)))] w1 fun a ha => ?_
       refine split_b (t := 18) ha rfl (fun hb ha => ?_) (fun hb ha => ?_)
       · replace h := itT hb h
         refine sg ha 1 [(18, vB true), (19, vF b1 3)] w1 fun a ha => ?_
         refine ov (.int .i64 p0.N) ha (ob_load w1 rfl rfl Try.underlying3 rfl ((cell_add1 _ _ _ _).trans (by rw [Nat.zero_add]; exact f1.cell 3 _ rfl))) fun a ha => ?_
         refine sg ha 3 [(2, vB (decide (p0.N ≤ 9)))] w1 fun a ha => ?_
         obtain rfl := Option.some.inj h
         exact ⟨_, rfl, rfl, ha.to (by kernel_rfl)⟩
       · replace h := itF hb h
         refine sg ha 5 [(2, vB false)] w1 fun a ha => ?_
         obtain rfl := Option.some.inj h
         exact ⟨_, rfl, rfl, ha.to (by kernel_rfl)⟩
     rintro a _ ⟨x2, rfl, rfl, ha⟩
     refine hK _ _ ?_
     clear hK
     refine wp_ret ?_
     obtain rfl := Option.some.inj h
     show bodyPost Try.prog Try.f111 (R111 w S _) .ret a w1
     exact ret_1 (r1 := .tmp 2) (v1 := vB x2) ha rfl (.inl rfl) rfl ⟨_, rfl, cx.below, rfl⟩
   · replace h := itF hb h
     refine wp_skip ?_
     refine hK _ _ ?_
     clear hK
     refine sq fun K hK => ?_
     refine reg ?_
     refine sg ha 1 [(23, vF b1 3)] w1 fun a ha => ?_
     refine ov (.int .i64 p0.N) ha (ob_load w1 rfl rfl Try.underlying3 rfl ((cell_add1 _ _ _ _).trans (by rw [Nat.zero_add]; exact f1.cell 3 _ rfl))) fun a ha => ?_
     refine sg ha 2 [(2, vB (p0.N == 0))] w1 fun a ha => ?_
     refine hK _ _ ?_
     clear hK
     refine wp_ret ?_
     obtain rfl := Option.some.inj h
     show bodyPost Try.prog Try.f111 (R111 w S _) .ret a w1
     exact ret_1 (r1 := .tmp 2) (v1 := vB (p0.N == 0)) ha rfl (.inl rfl) rfl ⟨_, rfl, cx.below, rfl⟩
def post112 (w : World) (S : Off) (r : (Bool)) (v : Value) (w1 : World) : Prop := v = .bool r
abbrev R112 (w : World) (S : Off) (r : (Bool)) : Ending → World → Prop := fun e w1 => ∃ v, e = .returned v ∧ Below w.heap.size w w1 ∧ post112 w S r v w1
theorem ok112 (fuel : Nat) {w : World} {S : Off} (hS : ∀ b, S b → b < w.heap.size) {p0 : MTerm} {p1 : (List MTerm)} {A_p1 : Option Addr} {c_p1 : Nat} (h_p1 : Sl tTerm w.heap S A_p1 c_p1 p1) {r : (Bool)} (h : m_term_again fuel p0 p1 = some r) :
 Calls Try.prog 112 #[.agg #[vI p0.Kind, vI p0.A, vI p0.B, vI p0.N, .int .u64 (gt p0.Set 0), .int .u64 (gt p0.Set 1), .int .u64 (gt p0.Set 2), .int .u64 (gt p0.Set 3)], vS A_p1 p1 c_p1] w (R112 w S r) := by
 refine enterL (vs := [.agg #[vI p0.Kind, vI p0.A, vI p0.B, vI p0.N, .int .u64 (gt p0.Set 0), .int .u64 (gt p0.Set 1), .int .u64 (gt p0.Set 2), .int .u64 (gt p0.Set 3)], vS A_p1 p1 c_p1]) Try.func112 rfl rfl ?_
 intro a ha
 have cx := Cx.start (W0 := nob) hS
 refine with_nop (noP_body _ _) (fun hq => ?_)
 unfold m_term_again at h
 refine sq fun K hK => ?_
 refine reg ?_
 refine op_new (V := fun b => vP b) (cs := [vI p0.Kind, vI p0.A, vI p0.B, vI p0.N, .int .u64 (gt p0.Set 0), .int .u64 (gt p0.Set 1), .int .u64 (gt p0.Set 2), .int .u64 (gt p0.Set 3)]) (T := 42) ha (by kernel_rfl) (by kernel_rfl) ?_
 intro w1 b1 hb1 hk1 he1 _ a ha
 have f1 := Bx.new cx hk1 he1
 replace h_p1 := h_p1.keep (Keep.ext S hb1)
 replace cx := cx.ext hb1
 refine sg ha 1 [(1, vS A_p1 p1 c_p1), (2, vP b1)] w1 fun a ha => ?_
 refine hK _ _ ?_
 clear hK
 refine sq fun K hK => ?_
 refine sq fun K hK => ?_
 refine reg ?_
 refine sg ha 3 [(2, vP b1), (7, vS A_p1 p1 c_p1), (8, vI (p1.length : Int)), (9, vI 0)] w1 fun a ha => ?_
 refine hK _ _ ?_
 clear hK
 refine wp_block ?_
 obtain ⟨t1, ht1, h⟩ := obind h
 refine wp_mono (wp_iter (step := (m_term_again_l1 fuel p0 p1)) (I := fun (s : Int) a w2 => match s with | x1 => ∃ (S1 : Off), Cx w nob S w2 S1 ∧ Bx w2.heap S1 b1 42 [vI p0.Kind, vI p0.A, vI p0.B, vI p0.N, .int .u64 (gt p0.Set 0), .int .u64 (gt p0.Set 1), .int .u64 (gt p0.Set 2), .int .u64 (gt p0.Set 3)] ∧ Sl tTerm w2.heap S1 A_p1 c_p1 p1 ∧ Ag 29 [(2, vP b1), (7, vS A_p1 p1 c_p1), (8, vI (p1.length : Int)), (9, vI x1)] a) (D := fun (t : (Unit) ⊕ (Bool)) e a w3 => match t with | .inl () => e = .exit 0 ∧ ∃ (S2 : Off), Cx w nob S w3 S2 ∧ Ag 29 [] a | .inr r => e = .ret ∧ bodyPost Try.prog Try.f112 (R112 w S r) .ret a w3) ?_ fuel _ t1 a _ ht1 ?_) ?_
 · clear h ht1
   rintro x1 ct a w2 ⟨S1, cx, f1, h_p1, ha⟩ h
   refine with_nop (NoP.loop (fun t c a w h => by cases t <;> exact absurd h.1 (by simp))) (fun hq => ?_)
   unfold m_term_again_l1 at h
   refine sq fun K hK => ?_
   refine reg ?_
   refine sg ha 1 [(2, vP b1), (7, vS A_p1 p1 c_p1), (8, vI (p1.length : Int)), (9, vI x1), (10, vB (decide (x1 < (p1.length : Int))))] w2 fun a ha => ?_
   refine hK _ _ ?_
   clear hK
   refine sq fun K hK => ?_
   refine cond_b ha rfl (fun hb => ?_) (fun hb => ?_)
   · replace h := itT hb h
     refine wp_skip ?_
     refine hK _ _ ?_
     clear hK
     refine sq fun K hK => ?_
     refine wp_block ?_
     refine sq fun K hK => ?_
     refine reg ?_
     obtain ⟨hi1, h⟩ := ite_some h
     obtain ⟨b2, o1, cs1, rfl, hr1, hc1⟩ := h_p1.rdb.get hi1
     obtain ⟨rfl, hl1⟩ := hr1
     refine ov (vE b2 o1 x1 8) ha (obx w2 rfl rfl rfl Try.underlying22 rfl hi1) fun a ha => ?_
     refine ov (.agg #[vI ((gt p1 x1).Kind), vI ((gt p1 x1).A), vI ((gt p1 x1).B), vI ((gt p1 x1).N), .int .u64 (gt ((gt p1 x1).Set) 0), .int .u64 (gt ((gt p1 x1).Set) 1), .int .u64 (gt ((gt p1 x1).Set) 2), .int .u64 (gt ((gt p1 x1).Set) 3)]) ha (ob_loadn (cs := [vI ((gt p1 x1).Kind), vI ((gt p1 x1).A), vI ((gt p1 x1).B), vI ((gt p1 x1).N), .int .u64 (gt ((gt p1 x1).Set) 0), .int .u64 (gt ((gt p1 x1).Set) 1), .int .u64 (gt ((gt p1 x1).Set) 2), .int .u64 (gt ((gt p1 x1).Set) 3)]) w2 rfl rfl Try.underlying42 rfl (by kernel_rfl) (fun j v hj => (cell_add2 _ _ _ _ _).trans (hc1 j v hj))) fun a ha => ?_
     refine op_var (d := 6) (z := [vI 0, vI 0, vI 0, vI 0, .int .u64 0, .int .u64 0, .int .u64 0, .int .u64 0]) (vs := [vI ((gt p1 x1).Kind), vI ((gt p1 x1).A), vI ((gt p1 x1).B), vI ((gt p1 x1).N), .int .u64 (gt ((gt p1 x1).Set) 0), .int .u64 (gt ((gt p1 x1).Set) 1), .int .u64 (gt ((gt p1 x1).Set) 2), .int .u64 (gt ((gt p1 x1).Set) 3)]) (v := .agg #[vI ((gt p1 x1).Kind), vI ((gt p1 x1).A), vI ((gt p1 x1).B), vI ((gt p1 x1).N), .int .u64 (gt ((gt p1 x1).Set) 0), .int .u64 (gt ((gt p1 x1).Set) 1), .int .u64 (gt ((gt p1 x1).Set) 2), .int .u64 (gt ((gt p1 x1).Set) 3)]) ha cx (by kernel_rfl) rfl (by kernel_rfl) (fun _ => by kernel_rfl) rfl rfl (fun _ => by kernel_rfl) (by kernel_rfl) (by kernel_rfl) (by kernel_rfl) ?_
     intro w4 b3 cx hb2 f2 a ha
     replace f1 := f1.keep (Keep.ext S1 hb2)
     replace h_p1 := h_p1.keep (Keep.ext S1 hb2)
     refine hK _ _ ?_
     clear hK
     refine sq fun K hK => ?_
     obtain ⟨q1, hj1, h⟩ := obind h
     refine wp_cutV (D := fun a w_ => ∃ x2 : Bool, x2 = q1 ∧ w4 = w_ ∧ Ag 29 [(2, vP b1), (7, vS (some ⟨b2, o1, none⟩) p1 c_p1), (8, vI (p1.length : Int)), (9, vI x1), (27, vB x2)] a) ?_ ?_
     · clear h; have h := hj1
       refine reg ?_
       refine sg ha 1 [(2, vP b1), (6, vP b3), (7, vS (some ⟨b2, o1, none⟩) p1 c_p1), (8, vI (p1.length : Int)), (9, vI x1), (13, vF b1 0)] w4 fun a ha => ?_
       refine ov (.int .i64 p0.Kind) ha (ob_load w4 rfl rfl Try.underlying3 rfl ((cell_add1 _ _ _ _).trans (by rw [Nat.zero_add]; exact f1.cell 0 _ rfl))) fun a ha => ?_
       refine sg ha 2 [(2, vP b1), (6, vP b3), (7, vS (some ⟨b2, o1, none⟩) p1 c_p1), (8, vI (p1.length : Int)), (9, vI x1), (16, vB (p0.Kind == 7))] w4 fun a ha => ?_
       refine split_b (t := 16) ha rfl (fun hb ha => ?_) (fun hb ha => ?_)
       · replace h := itT hb h
         refine sg ha 1 [(2, vP b1), (6, vP b3), (7, vS (some ⟨b2, o1, none⟩) p1 c_p1), (8, vI (p1.length : Int)), (9, vI x1), (16, vB true), (17, vF b3 0)] w4 fun a ha => ?_
         refine ov (.int .i64 ((gt p1 x1).Kind)) ha (ob_load w4 rfl rfl Try.underlying3 rfl ((cell_add1 _ _ _ _).trans (by rw [Nat.zero_add]; exact f2.cell 0 _ rfl))) fun a ha => ?_
         refine sg ha 3 [(2, vP b1), (6, vP b3), (7, vS (some ⟨b2, o1, none⟩) p1 c_p1), (8, vI (p1.length : Int)), (9, vI x1), (21, vB (((gt p1 x1).Kind) == 7))] w4 fun a ha => ?_
         refine split_b (t := 21) ha rfl (fun hb ha => ?_) (fun hb ha => ?_)
         · replace h := itT hb h
           refine sg ha 1 [(2, vP b1), (7, vS (some ⟨b2, o1, none⟩) p1 c_p1), (8, vI (p1.length : Int)), (9, vI x1), (21, vB true), (22, vF b3 3)] w4 fun a ha => ?_
           refine ov (.int .i64 ((gt p1 x1).N)) ha (ob_load w4 rfl rfl Try.underlying3 rfl ((cell_add1 _ _ _ _).trans (by rw [Nat.zero_add]; exact f2.cell 3 _ rfl))) fun a ha => ?_
           refine sg ha 1 [(2, vP b1), (7, vS (some ⟨b2, o1, none⟩) p1 c_p1), (8, vI (p1.length : Int)), (9, vI x1), (21, vB true), (23, vI ((gt p1 x1).N)), (24, vF b1 3)] w4 fun a ha => ?_
           refine ov (.int .i64 p0.N) ha (ob_load w4 rfl rfl Try.underlying3 rfl ((cell_add1 _ _ _ _).trans (by rw [Nat.zero_add]; exact f1.cell 3 _ rfl))) fun a ha => ?_
           refine sg ha 2 [(2, vP b1), (7, vS (some ⟨b2, o1, none⟩) p1 c_p1), (8, vI (p1.length : Int)), (9, vI x1), (27, vB (((gt p1 x1).N) == p0.N))] w4 fun a ha => ?_
           obtain rfl := Option.some.inj h
           exact ⟨_, rfl, rfl, ha.to (by kernel_rfl)⟩
         · replace h := itF hb h
           refine sg ha 6 [(2, vP b1), (7, vS (some ⟨b2, o1, none⟩) p1 c_p1), (8, vI (p1.length : Int)), (9, vI x1), (27, vB false)] w4 fun a ha => ?_
           obtain rfl := Option.some.inj h
           exact ⟨_, rfl, rfl, ha.to (by kernel_rfl)⟩
       · replace h := itF hb h
         refine sg ha 11 [(2, vP b1), (7, vS (some ⟨b2, o1, none⟩) p1 c_p1), (8, vI (p1.length : Int)), (9, vI x1), (27, vB false)] w4 fun a ha => ?_
         obtain rfl := Option.some.inj h
         exact ⟨_, rfl, rfl, ha.to (by kernel_rfl)⟩
     rintro a _ ⟨x2, rfl, rfl, ha⟩
     refine hK _ _ ?_
     clear hK
     refine cond_b ha rfl (fun hb => ?_) (fun hb => ?_)
     · replace h := itT hb h
       refine sq fun K hK => ?_
       refine reg ?_
       refine sg ha 1 [(4, vB true)] w4 fun a ha => ?_
       refine hK _ _ ?_
       clear hK
       refine wp_ret ?_
       obtain rfl := Option.some.inj h
       refine ⟨_, rfl, rfl, ?_⟩
       show bodyPost Try.prog Try.f112 (R112 w S _) .ret a w4
       exact ret_1 (r1 := .tmp 4) (v1 := vB true) ha rfl (.inl rfl) rfl ⟨_, rfl, cx.below, rfl⟩
     · replace h := itF hb h
       refine wp_skip ?_
       refine hK _ _ ?_
       clear hK
       refine reg ?_
       refine sg ha 2 [(2, vP b1), (7, vS (some ⟨b2, o1, none⟩) p1 c_p1), (8, vI (p1.length : Int)), (9, vI (W (x1 + 1)))] w4 fun a ha => ?_
       obtain rfl := Option.some.inj h
       exact ⟨_, rfl, S1, cx, f1, h_p1, ha.to (by kernel_rfl)⟩
   · replace h := itF hb h
     refine wp_exit ?_
     obtain rfl := Option.some.inj h
     exact ⟨_, rfl, rfl, S1, cx, ha.to (by kernel_rfl)⟩
 · exact ⟨S, cx, f1, h_p1, ha.to (by kernel_rfl)⟩
 intro e a w3 hd
 cases t1 with
 | inr r1 =>
  obtain ⟨rfl, hd⟩ := hd
  obtain rfl := Option.some.inj h
  exact hd
 | inl oo1 =>
  obtain ⟨rfl, S2, cx, ha⟩ := hd
  refine hK _ _ ?_
  clear hK
  refine sq fun K hK => ?_
  refine reg ?_
  refine sg ha 1 [(4, vB false)] w3 fun a ha => ?_
  refine hK _ _ ?_
  clear hK
  refine wp_ret ?_
  obtain rfl := Option.some.inj h
  show bodyPost Try.prog Try.f112 (R112 w S _) .ret a w3
  exact ret_1 (r1 := .tmp 4) (v1 := vB false) ha rfl (.inl rfl) rfl ⟨_, rfl, cx.below, rfl⟩
def post92 (w : World) (S : Off) (r : ((List Int))) (v : Value) (w1 : World) : Prop := ∃ (A : Option Addr) (c : Nat), v = .slice A r.length c ∧ Ow (tInt .i64) 3 (Wr nob w) w1.heap (inV v S) v r ∧ (r = [] → A = none)
abbrev R92 (w : World) (S : Off) (r : ((List Int))) : Ending → World → Prop := fun e w1 => ∃ v, e = .returned v ∧ Below w.heap.size w w1 ∧ post92 w S r v w1
theorem ok92 (fuel : Nat) {w : World} {S : Off} (hS : ∀ b, S b → b < w.heap.size) {p0 : (List MTerm)} {A_p0 : Option Addr} {c_p0 : Nat} (h_p0 : Sl tTerm w.heap S A_p0 c_p0 p0) {r : ((List Int))} (h : m_term_Low fuel p0 = some r) :
 Calls Try.prog 92 #[vS A_p0 p0 c_p0] w (R92 w S r) := by
 refine enterL (vs := [vS A_p0 p0 c_p0]) Try.func92 rfl rfl ?_
 intro a ha
 have cx := Cx.start (W0 := nob) hS
 refine with_nop (noP_body _ _) (fun hq => ?_)
 unfold m_term_Low at h
 refine sq fun K hK => ?_
 refine reg ?_
 refine sg ha 1 [(0, vS A_p0 p0 c_p0)] w fun a ha => ?_
 refine hK _ _ ?_
 clear hK
 refine sq fun K hK => ?_
 refine sq fun K hK => ?_
 obtain ⟨q1, hj1, h⟩ := obind h
 refine wp_cutV (D := fun a w_ => ∃ x1 : Bool, x1 = q1 ∧ w = w_ ∧ Ag 64 [(0, vS A_p0 p0 c_p0), (15, vB x1)] a) ?_ ?_
 · clear h; have h := hj1
   refine reg ?_
   refine sg ha 4 [(0, vS A_p0 p0 c_p0), (11, vB ((p0.length : Int) == 0))] w fun a ha => ?_
   refine split_b (t := 11) ha rfl (fun hb ha => ?_) (fun hb ha => ?_)
   · replace h := itT hb h
     refine sg ha 4 [(0, vS A_p0 p0 c_p0), (15, vB true)] w fun a ha => ?_
     obtain rfl := Option.some.inj h
     exact ⟨_, rfl, rfl, ha.to (by kernel_rfl)⟩
   · replace h := itF hb h
     refine sg ha 4 [(0, vS A_p0 p0 c_p0), (15, vB (decide ((p0.length : Int) > 400)))] w fun a ha => ?_
     obtain rfl := Option.some.inj h
     exact ⟨_, rfl, rfl, ha.to (by kernel_rfl)⟩
 rintro a _ ⟨x1, rfl, rfl, ha⟩
 refine hK _ _ ?_
 clear hK
 refine cond_b ha rfl (fun hb => ?_) (fun hb => ?_)
 · replace h := itT hb h
   refine sq fun K hK => ?_
   refine reg ?_
   refine sg ha 1 [(2, .slice none 0 0)] w fun a ha => ?_
   refine hK _ _ ?_
   clear hK
   refine wp_ret ?_
   obtain rfl := Option.some.inj h
   show bodyPost Try.prog Try.f92 (R92 w S _) .ret a w
   exact ret_1 (r1 := .tmp 2) (v1 := .slice none 0 0) ha rfl (.inl rfl) rfl ⟨_, rfl, cx.below, ⟨_, _, rfl, Ow.nil, (fun _ => rfl)⟩⟩
 · replace h := itF hb h
   refine wp_skip ?_
   refine hK _ _ ?_
   clear hK
   refine sq fun K hK => ?_
   refine reg ?_
   refine sg ha 1 [(0, vS A_p0 p0 c_p0), (3, .slice none 0 0)] w fun a ha => ?_
   refine hK _ _ ?_
   clear hK
   refine sq fun K hK => ?_
   refine reg ?_
   refine sg ha 1 [(0, vS A_p0 p0 c_p0), (3, .slice none 0 0), (4, vI 0)] w fun a ha => ?_
   refine hK _ _ ?_
   clear hK
   refine sq fun K hK => ?_
   refine sq fun K hK => ?_
   refine reg ?_
   refine sg ha 3 [(0, vS A_p0 p0 c_p0), (3, .slice none 0 0), (4, vI 0), (16, vS A_p0 p0 c_p0), (17, vI (p0.length : Int)), (18, vI 0)] w fun a ha => ?_
   refine hK _ _ ?_
   clear hK
   refine wp_block ?_
   obtain ⟨t1, ht1, h⟩ := obind h
   refine wp_mono (wp_iter (step := (m_term_Low_l1 fuel p0)) (I := fun (s : List Int × Int × Int) a w1 => match s with | (x2, x3, x4) => ∃ (S1 : Off), ∃ (A1 : Option Addr) (c1 : Nat), Cx w nob S w1 S1 ∧ Sl tTerm w1.heap S1 A_p0 c_p0 p0 ∧ Ow (tInt .i64) 3 (Wr nob w) w1.heap S1 (vS A1 x2 c1) x2 ∧ Ag 64 [(0, vS A_p0 p0 c_p0), (3, vS A1 x2 c1), (4, vI x3), (16, vS A_p0 p0 c_p0), (17, vI (p0.length : Int)), (18, vI x4)] a) (D := fun (t : (List Int × Int) ⊕ ((List Int))) e a w2 => match t with | .inl (y1, y2) => e = .exit 0 ∧ ∃ (S2 : Off), ∃ (A2 : Option Addr) (c2 : Nat), Cx w nob S w2 S2 ∧ Sl tTerm w2.heap S2 A_p0 c_p0 p0 ∧ Ow (tInt .i64) 3 (Wr nob w) w2.heap S2 (vS A2 y1 c2) y1 ∧ Ag 64 [(0, vS A_p0 p0 c_p0), (3, vS A2 y1 c2), (4, vI y2)] a | .inr r => e = .ret ∧ bodyPost Try.prog Try.f92 (R92 w S r) .ret a w2) ?_ fuel _ t1 a _ ht1 ?_) ?_
   · clear h ht1
     rintro ⟨x2, x3, x4⟩ ct a w1 ⟨S1, A1, c1, cx, h_p0, f1, ha⟩ h
     refine with_nop (NoP.loop (fun t c a w h => by cases t <;> exact absurd h.1 (by simp))) (fun hq => ?_)
     unfold m_term_Low_l1 at h
     refine sq fun K hK => ?_
     refine reg ?_
     refine sg ha 1 [(0, vS A_p0 p0 c_p0), (3, vS A1 x2 c1), (4, vI x3), (16, vS A_p0 p0 c_p0), (17, vI (p0.length : Int)), (18, vI x4), (19, vB (decide (x4 < (p0.length : Int))))] w1 fun a ha => ?_
     refine hK _ _ ?_
     clear hK
     refine sq fun K hK => ?_
     refine cond_b ha rfl (fun hb => ?_) (fun hb => ?_)
     · replace h := itT hb h
       refine wp_skip ?_
       refine hK _ _ ?_
       clear hK
       refine sq fun K hK => ?_
       refine wp_block ?_
       refine sq fun K hK => ?_
       refine reg ?_
       refine sg ha 1 [(0, vS A_p0 p0 c_p0), (3, vS A1 x2 c1), (4, vI x3), (16, vS A_p0 p0 c_p0), (17, vI (p0.length : Int)), (18, vI x4), (20, vI x4)] w1 fun a ha => ?_
       obtain ⟨hi1, h⟩ := ite_some h
       obtain ⟨b1, o1, cs1, rfl, hr1, hc1⟩ := h_p0.rdb.get hi1
       obtain ⟨rfl, hl1⟩ := hr1
       refine ov (vE b1 o1 x4 8) ha (obx w1 rfl rfl rfl Try.underlying22 rfl hi1) fun a ha => ?_
       refine ov (.agg #[vI ((gt p0 x4).Kind), vI ((gt p0 x4).A), vI ((gt p0 x4).B), vI ((gt p0 x4).N), .int .u64 (gt ((gt p0 x4).Set) 0), .int .u64 (gt ((gt p0 x4).Set) 1), .int .u64 (gt ((gt p0 x4).Set) 2), .int .u64 (gt ((gt p0 x4).Set) 3)]) ha (ob_loadn (cs := [vI ((gt p0 x4).Kind), vI ((gt p0 x4).A), vI ((gt p0 x4).B), vI ((gt p0 x4).N), .int .u64 (gt ((gt p0 x4).Set) 0), .int .u64 (gt ((gt p0 x4).Set) 1), .int .u64 (gt ((gt p0 x4).Set) 2), .int .u64 (gt ((gt p0 x4).Set) 3)]) w1 rfl rfl Try.underlying42 rfl (by kernel_rfl) (fun j v hj => (cell_add2 _ _ _ _ _).trans (hc1 j v hj))) fun a ha => ?_
       refine op_new (V := fun b => vP b) (cs := [vI 0, vI 0, vI 0, vI 0, .int .u64 0, .int .u64 0, .int .u64 0, .int .u64 0]) (T := 42) ha (by kernel_rfl) (by kernel_rfl) ?_
       intro w3 b2 hb1 hk1 he1 _ a ha
       refine sg ha 1 [(0, vS (some ⟨b1, o1, none⟩) p0 c_p0), (3, vS A1 x2 c1), (4, vI x3), (5, vI x4), (6, vP b2), (16, vS (some ⟨b1, o1, none⟩) p0 c_p0), (17, vI (p0.length : Int)), (18, vI x4), (22, .agg #[vI ((gt p0 x4).Kind), vI ((gt p0 x4).A), vI ((gt p0 x4).B), vI ((gt p0 x4).N), .int .u64 (gt ((gt p0 x4).Set) 0), .int .u64 (gt ((gt p0 x4).Set) 1), .int .u64 (gt ((gt p0 x4).Set) 2), .int .u64 (gt ((gt p0 x4).Set) 3)])] w3 fun a ha => ?_
       refine op_setAll (vs := [vI ((gt p0 x4).Kind), vI ((gt p0 x4).A), vI ((gt p0 x4).B), vI ((gt p0 x4).N), .int .u64 (gt ((gt p0 x4).Set) 0), .int .u64 (gt ((gt p0 x4).Set) 1), .int .u64 (gt ((gt p0 x4).Set) 2), .int .u64 (gt ((gt p0 x4).Set) 3)]) (v := .agg #[vI ((gt p0 x4).Kind), vI ((gt p0 x4).A), vI ((gt p0 x4).B), vI ((gt p0 x4).N), .int .u64 (gt ((gt p0 x4).Set) 0), .int .u64 (gt ((gt p0 x4).Set) 1), .int .u64 (gt ((gt p0 x4).Set) 2), .int .u64 (gt ((gt p0 x4).Set) 3)]) ha (by kernel_rfl) rfl rfl rfl rfl hk1 (by kernel_rfl) (by kernel_rfl) ?_
       intro w4 on1 _ hk2 a ha
       have hb2 := var_done hb1 on1 he1
       have f3 := Bx.new cx hk2 he1
       replace h_p0 := h_p0.keep (Keep.ext S1 hb2)
       replace f1 := f1.ext hb2
       replace cx := cx.ext hb2
       refine hK _ _ ?_
       clear hK
       refine sq fun K hK => ?_
       refine reg ?_
       refine sg ha 3 [(0, vS (some ⟨b1, o1, none⟩) p0 c_p0), (3, vS A1 x2 c1), (4, vI x3), (5, vI x4), (6, vP b2), (16, vS (some ⟨b1, o1, none⟩) p0 c_p0), (17, vI (p0.length : Int)), (18, vI x4), (23, vS (some ⟨b1, o1, none⟩) p0 c_p0), (24, vS A1 x2 c1), (25, vI x4)] w4 fun a ha => ?_
       obtain ⟨x5, hx1, h⟩ := obind h
       refine op_call ha (by kernel_rfl) (f := 110) (args := #[vS (some ⟨b1, o1, none⟩) p0 c_p0, vS A1 x2 c1, vI x4]) (w' := w4) (by kernel_rfl) (ok110 fuel (p0 := p0) (p1 := x2) (p2 := x4) (lt_minus (v := vS A1 x2 c1) cx.lt) (h_p0.minus (v := vS A1 x2 c1)) (f1.asSl) hx1) ?_
       rintro v1 w5 ⟨hb3, hp1⟩ a ha
       obtain rfl := hp1
       replace h_p0 := h_p0.keep (Keep.ext S1 hb3)
       replace f1 := f1.ext hb3
       replace f3 := f3.keep (Keep.ext S1 hb3)
       replace cx := cx.ext hb3
       refine sg ha 1 [(0, vS (some ⟨b1, o1, none⟩) p0 c_p0), (3, vS A1 x2 c1), (4, vI x3), (5, vI x4), (6, vP b2), (7, vI x5), (16, vS (some ⟨b1, o1, none⟩) p0 c_p0), (17, vI (p0.length : Int)), (18, vI x4)] w5 fun a ha => ?_
       refine hK _ _ ?_
       clear hK
       refine sq fun K hK => ?_
       refine sq fun K hK => ?_
       obtain ⟨q2, hj2, h⟩ := obind h
       refine wp_cutV (D := fun a w6 => ∃ x6 : Bool, ∃ (S3 : Off), x6 = q2 ∧ Cx w nob S w6 S3 ∧ Sl tTerm w6.heap S3 (some ⟨b1, o1, none⟩) c_p0 p0 ∧ Ow (tInt .i64) 3 (Wr nob w) w6.heap S3 (vS A1 x2 c1) x2 ∧ Bx w6.heap S3 b2 42 [vI ((gt p0 x4).Kind), vI ((gt p0 x4).A), vI ((gt p0 x4).B), vI ((gt p0 x4).N), .int .u64 (gt ((gt p0 x4).Set) 0), .int .u64 (gt ((gt p0 x4).Set) 1), .int .u64 (gt ((gt p0 x4).Set) 2), .int .u64 (gt ((gt p0 x4).Set) 3)] ∧ Ag 64 [(0, vS (some ⟨b1, o1, none⟩) p0 c_p0), (3, vS A1 x2 c1), (4, vI x3), (6, vP b2), (7, vI x5), (16, vS (some ⟨b1, o1, none⟩) p0 c_p0), (17, vI (p0.length : Int)), (18, vI x4), (41, vB x6)] a) ?_ ?_
       · clear h; have h := hj2
         refine dr_start 15 S1 rfl ?_
         intro w7 e1 hb4
         replace h_p0 := h_p0.keep (Keep.ext S1 hb4)
         replace f1 := f1.ext hb4
         replace f3 := f3.keep (Keep.ext S1 hb4)
         replace cx := cx.ext hb4
         have hkk := Keep.refl w7.heap S1
         have hold := Sold.start w7
         have g1 := h_p0
         have g2 := f1
         have g3 := f3
         refine dk 0 (vI x5) ha hq rfl (Sd.start _ _ _ _) fun hsx a ha => ?_
         refine dk 1 (vB (decide (x5 < 0))) ha hq rfl hsx fun hsx a ha => ?_
         refine dk 2 (vB (decide (x5 < 0))) ha hq rfl hsx fun hsx a ha => ?_
         refine split_b (t := 29) ha rfl (fun hb ha => ?_) (fun hb ha => ?_)
         · replace h := itT hb h
           refine dof 3 ha hq rfl hsx fun hsx a ha => ?_
           refine dof 4 ha hq rfl hsx fun hsx a ha => ?_
           refine dof 5 ha hq rfl hsx fun hsx a ha => ?_
           refine dk 6 (vB true) ha hq rfl hsx fun hsx a ha => ?_
           refine dk 7 (vB true) ha hq rfl hsx fun hsx a ha => ?_
           refine dof 8 ha hq rfl hsx fun hsx a ha => ?_
           refine dof 9 ha hq rfl hsx fun hsx a ha => ?_
           refine dof 10 ha hq rfl hsx fun hsx a ha => ?_
           refine dof 11 ha hq rfl hsx fun hsx a ha => ?_
           refine dof 12 ha hq rfl hsx fun hsx a ha => ?_
           refine dof 13 ha hq rfl hsx fun hsx a ha => ?_
           refine dk 14 (vB true) ha hq rfl hsx fun hsx a ha => ?_
           refine dr_done (by kernel_rfl) ?_
           replace ha := ha.to (l' := [(0, vS (some ⟨b1, o1, none⟩) p0 c_p0), (3, vS A1 x2 c1), (4, vI x3), (6, vP b2), (7, vI x5), (16, vS (some ⟨b1, o1, none⟩) p0 c_p0), (17, vI (p0.length : Int)), (18, vI x4), (41, vB true)]) (by kernel_rfl)
           obtain rfl := Option.some.inj h
           exact ⟨_, _, rfl, cx, h_p0, f1, f3, ha.to (by kernel_rfl)⟩
         · replace h := itF hb h
           refine dv 3 (.agg #[.int .i64 ((gt p0 x4).Kind), .int .i64 ((gt p0 x4).A), .int .i64 ((gt p0 x4).B), .int .i64 ((gt p0 x4).N), .int .u64 (gt ((gt p0 x4).Set) 0), .int .u64 (gt ((gt p0 x4).Set) 1), .int .u64 (gt ((gt p0 x4).Set) 2), .int .u64 (gt ((gt p0 x4).Set) 3)]) ha hq rfl (fun w2 hw2 hw3 => ob_loadn (cs := [.int .i64 ((gt p0 x4).Kind), .int .i64 ((gt p0 x4).A), .int .i64 ((gt p0 x4).B), .int .i64 ((gt p0 x4).N), .int .u64 (gt ((gt p0 x4).Set) 0), .int .u64 (gt ((gt p0 x4).Set) 1), .int .u64 (gt ((gt p0 x4).Set) 2), .int .u64 (gt ((gt p0 x4).Set) 3)]) w2 rfl rfl Try.underlying42 rfl (by kernel_rfl) (fun j v hj => (cell_add1 _ _ _ _).trans (by rw [Nat.zero_add]; exact Sk.cell g3.2 hw2 (g3.cell j v hj)))) hsx fun hsx a ha => ?_
           refine dr_one (i := 4) (by kernel_rfl) rfl ?_
           obtain ⟨x7, hx2, h⟩ := obind h
           refine op_call ha (by kernel_rfl) (f := 111) (args := #[.agg #[vI ((gt p0 x4).Kind), vI ((gt p0 x4).A), vI ((gt p0 x4).B), vI ((gt p0 x4).N), .int .u64 (gt ((gt p0 x4).Set) 0), .int .u64 (gt ((gt p0 x4).Set) 1), .int .u64 (gt ((gt p0 x4).Set) 2), .int .u64 (gt ((gt p0 x4).Set) 3)]]) (w' := w7) (by kernel_rfl) (ok111 fuel (p0 := (gt p0 x4)) cx.lt hx2) ?_
           rintro v2 w8 ⟨hb5, hp2⟩ a ha
           obtain rfl := hp2
           replace h_p0 := h_p0.keep (Keep.ext S1 hb5)
           replace f1 := f1.ext hb5
           replace f3 := f3.keep (Keep.ext S1 hb5)
           replace cx := cx.ext hb5
           replace hold := hold.ext hkk.size hb5
           replace hkk := hkk.trans (Keep.ext S1 hb5)
           refine dr_next (Sd.before hkk hold) ?_
           refine dk 5 (vB (!x7)) ha hq rfl (Sd.before hkk hold) fun hsx a ha => ?_
           refine dk 6 (vB (!x7)) ha hq rfl hsx fun hsx a ha => ?_
           refine dk 7 (vB (!x7)) ha hq rfl hsx fun hsx a ha => ?_
           refine split_b (t := 34) ha rfl (fun hb ha => ?_) (fun hb ha => ?_)
           · replace h := itT hb h
             refine dof 8 ha hq rfl hsx fun hsx a ha => ?_
             refine dof 9 ha hq rfl hsx fun hsx a ha => ?_
             refine dof 10 ha hq rfl hsx fun hsx a ha => ?_
             refine dof 11 ha hq rfl hsx fun hsx a ha => ?_
             refine dof 12 ha hq rfl hsx fun hsx a ha => ?_
             refine dof 13 ha hq rfl hsx fun hsx a ha => ?_
             refine dk 14 (vB true) ha hq rfl hsx fun hsx a ha => ?_
             refine dr_done (by kernel_rfl) ?_
             replace ha := ha.to (l' := [(0, vS (some ⟨b1, o1, none⟩) p0 c_p0), (3, vS A1 x2 c1), (4, vI x3), (6, vP b2), (7, vI x5), (16, vS (some ⟨b1, o1, none⟩) p0 c_p0), (17, vI (p0.length : Int)), (18, vI x4), (41, vB true)]) (by kernel_rfl)
             obtain rfl := Option.some.inj h
             exact ⟨_, _, rfl, cx, h_p0, f1, f3, ha.to (by kernel_rfl)⟩
           · replace h := itF hb h
             refine dv 8 (.agg #[.int .i64 ((gt p0 x4).Kind), .int .i64 ((gt p0 x4).A), .int .i64 ((gt p0 x4).B), .int .i64 ((gt p0 x4).N), .int .u64 (gt ((gt p0 x4).Set) 0), .int .u64 (gt ((gt p0 x4).Set) 1), .int .u64 (gt ((gt p0 x4).Set) 2), .int .u64 (gt ((gt p0 x4).Set) 3)]) ha hq rfl (fun w2 hw2 hw3 => ob_loadn (cs := [.int .i64 ((gt p0 x4).Kind), .int .i64 ((gt p0 x4).A), .int .i64 ((gt p0 x4).B), .int .i64 ((gt p0 x4).N), .int .u64 (gt ((gt p0 x4).Set) 0), .int .u64 (gt ((gt p0 x4).Set) 1), .int .u64 (gt ((gt p0 x4).Set) 2), .int .u64 (gt ((gt p0 x4).Set) 3)]) w2 rfl rfl Try.underlying42 rfl (by kernel_rfl) (fun j v hj => (cell_add1 _ _ _ _).trans (by rw [Nat.zero_add]; exact Sk.cell g3.2 hw2 (g3.cell j v hj)))) hsx fun hsx a ha => ?_
             refine dk 9 (vS (some ⟨b1, o1, none⟩) p0 c_p0) ha hq rfl hsx fun hsx a ha => ?_
             refine dk 10 (vI x5) ha hq rfl hsx fun hsx a ha => ?_
             refine dk 11 (vI x4) ha hq rfl hsx fun hsx a ha => ?_
             obtain ⟨hi2, h⟩ := ite_some h
             obtain ⟨A3, hr2, f4⟩ := slice_at (P := Try.prog) (T := tTerm) (t := 22) (lo := (some (vI x5))) (hi := (some (vI x4))) (mx := none) (vlo := x5) (vhi := x4) (vmx := (c_p0 : Int)) Try.underlying22 (by kernel_rfl) h_p0 ⟨_, rfl⟩ ⟨_, rfl⟩ rfl hi2 (.inl rfl)
             refine dv 12 (vS A3 (cutL p0 x5 x4) (Int.toNat ((c_p0 : Int) - x5))) ha hq rfl (fun w2 hw2 hw3 => ob_slice w2 rfl (hr2 w2)) hsx fun hsx a ha => ?_
             refine dr_one (i := 13) (by kernel_rfl) rfl ?_
             obtain ⟨x8, hx3, h⟩ := obind h
             refine op_call ha (by kernel_rfl) (f := 112) (args := #[.agg #[vI ((gt p0 x4).Kind), vI ((gt p0 x4).A), vI ((gt p0 x4).B), vI ((gt p0 x4).N), .int .u64 (gt ((gt p0 x4).Set) 0), .int .u64 (gt ((gt p0 x4).Set) 1), .int .u64 (gt ((gt p0 x4).Set) 2), .int .u64 (gt ((gt p0 x4).Set) 3)], vS A3 (cutL p0 x5 x4) (Int.toNat ((c_p0 : Int) - x5))]) (w' := w8) (by kernel_rfl) (ok112 fuel (p0 := (gt p0 x4)) (p1 := (cutL p0 x5 x4)) cx.lt f4 hx3) ?_
             rintro v3 w9 ⟨hb6, hp3⟩ a ha
             obtain rfl := hp3
             replace h_p0 := h_p0.keep (Keep.ext S1 hb6)
             replace f1 := f1.ext hb6
             replace f3 := f3.keep (Keep.ext S1 hb6)
             replace cx := cx.ext hb6
             replace hold := hold.ext hkk.size hb6
             replace hkk := hkk.trans (Keep.ext S1 hb6)
             refine dr_next (Sd.before hkk hold) ?_
             refine dk 14 (vB x8) ha hq rfl (Sd.before hkk hold) fun hsx a ha => ?_
             refine dr_done (by kernel_rfl) ?_
             replace ha := ha.to (l' := [(0, vS (some ⟨b1, o1, none⟩) p0 c_p0), (3, vS A1 x2 c1), (4, vI x3), (6, vP b2), (7, vI x5), (16, vS (some ⟨b1, o1, none⟩) p0 c_p0), (17, vI (p0.length : Int)), (18, vI x4), (41, vB x8)]) (by kernel_rfl)
             obtain rfl := Option.some.inj h
             exact ⟨_, _, rfl, cx, h_p0, f1, f3, ha.to (by kernel_rfl)⟩
       rintro a w6 ⟨x6, S3, rfl, cx, h_p0, f1, f3, ha⟩
       refine hK _ _ ?_
       clear hK
       refine cond_b ha rfl (fun hb => ?_) (fun hb => ?_)
       · replace h := itT hb h
         refine sq fun K hK => ?_
         refine reg ?_
         refine sg ha 1 [(2, .slice none 0 0)] w6 fun a ha => ?_
         refine hK _ _ ?_
         clear hK
         refine wp_ret ?_
         obtain rfl := Option.some.inj h
         refine ⟨_, rfl, rfl, ?_⟩
         show bodyPost Try.prog Try.f92 (R92 w S _) .ret a w6
         exact ret_1 (r1 := .tmp 2) (v1 := .slice none 0 0) ha rfl (.inl rfl) rfl ⟨_, rfl, cx.below, ⟨_, _, rfl, Ow.nil, (fun _ => rfl)⟩⟩
       · replace h := itF hb h
         refine wp_skip ?_
         refine hK _ _ ?_
         clear hK
         refine sq fun K hK => ?_
         obtain ⟨q3, hj3, h⟩ := obind h
         refine wp_cutV (D := fun a w_ => ∃ x9 : Int, x9 = q3 ∧ w6 = w_ ∧ Ag 64 [(0, vS (some ⟨b1, o1, none⟩) p0 c_p0), (3, vS A1 x2 c1), (4, vI x9), (7, vI x5), (16, vS (some ⟨b1, o1, none⟩) p0 c_p0), (17, vI (p0.length : Int)), (18, vI x4)] a) ?_ ?_
         · clear h; have h := hj3
           refine sq fun K hK => ?_
           refine reg ?_
           refine sg ha 1 [(0, vS (some ⟨b1, o1, none⟩) p0 c_p0), (3, vS A1 x2 c1), (4, vI x3), (7, vI x5), (16, vS (some ⟨b1, o1, none⟩) p0 c_p0), (17, vI (p0.length : Int)), (18, vI x4), (42, vF b2 0)] w6 fun a ha => ?_
           refine ov (.int .i64 ((gt p0 x4).Kind)) ha (ob_load w6 rfl rfl Try.underlying3 rfl ((cell_add1 _ _ _ _).trans (by rw [Nat.zero_add]; exact f3.cell 0 _ rfl))) fun a ha => ?_
           refine sg ha 1 [(0, vS (some ⟨b1, o1, none⟩) p0 c_p0), (3, vS A1 x2 c1), (4, vI x3), (7, vI x5), (16, vS (some ⟨b1, o1, none⟩) p0 c_p0), (17, vI (p0.length : Int)), (18, vI x4), (44, vB (((gt p0 x4).Kind) == 2))] w6 fun a ha => ?_
           refine hK _ _ ?_
           clear hK
           refine cond_b ha rfl (fun hb => ?_) (fun hb => ?_)
           · replace h := itT hb h
             refine reg ?_
             refine sg ha 3 [(0, vS (some ⟨b1, o1, none⟩) p0 c_p0), (3, vS A1 x2 c1), (4, vI (W (x3 + 1))), (7, vI x5), (16, vS (some ⟨b1, o1, none⟩) p0 c_p0), (17, vI (p0.length : Int)), (18, vI x4)] w6 fun a ha => ?_
             obtain rfl := Option.some.inj h
             exact ⟨_, rfl, rfl, ha.to (by kernel_rfl)⟩
           · replace h := itF hb h
             refine wp_skip ?_
             obtain rfl := Option.some.inj h
             exact ⟨_, rfl, rfl, ha.to (by kernel_rfl)⟩
         rintro a _ ⟨x9, rfl, rfl, ha⟩
         refine hK _ _ ?_
         clear hK
         refine reg ?_
         refine sg ha 2 [(0, vS (some ⟨b1, o1, none⟩) p0 c_p0), (4, vI x9), (16, vS (some ⟨b1, o1, none⟩) p0 c_p0), (17, vI (p0.length : Int)), (18, vI x4), (47, vS A1 x2 c1), (48, vI x5)] w6 fun a ha => ?_
         refine op_new (V := fun b => .slice (some ⟨b, 0, none⟩) 1 1) (cs := [vI x5]) (T := 3) ha (by kernel_rfl) (by kernel_rfl) ?_
         intro w10 b3 hb7 hk3 he2 _ a ha
         have f5 := lit_ow (T := (tInt .i64)) (xs := [x5]) (m := 1) cx hb7 hk3 he2 rfl (by kernel_rfl) (Els.one (T := (tInt .i64)) (x := x5) rfl)
         replace f5 := own_out cx f5
         replace h_p0 := h_p0.keep (Keep.ext S3 hb7)
         replace f1 := f1.ext hb7
         replace cx := cx.ext hb7
         obtain ⟨hp4, h⟩ := ite_some h
         refine op_append (T := (tInt .i64)) (xs := x2) (ys := [x5]) (z := vI 0) (bytes := 8) ha cx (by kernel_rfl) rfl rfl rfl Try.underlying25 (by kernel_rfl) (by kernel_rfl) wr_id f1 f5.rdb hp4 ?_
         intro w11 S4 A4 c3 cx kp1 hs1 hn1 hat1 f6 a ha
         replace h_p0 := h_p0.keep kp1
         refine sg ha 1 [(0, vS (some ⟨b1, o1, none⟩) p0 c_p0), (3, vS A4 (x2 ++ [x5]) c3), (4, vI x9), (16, vS (some ⟨b1, o1, none⟩) p0 c_p0), (17, vI (p0.length : Int)), (18, vI x4)] w11 fun a ha => ?_
         refine hK _ _ ?_
         clear hK
         refine reg ?_
         refine sg ha 2 [(0, vS (some ⟨b1, o1, none⟩) p0 c_p0), (3, vS A4 (x2 ++ [x5]) c3), (4, vI x9), (16, vS (some ⟨b1, o1, none⟩) p0 c_p0), (17, vI (p0.length : Int)), (18, vI (W (x4 + 1)))] w11 fun a ha => ?_
         obtain rfl := Option.some.inj h
         exact ⟨_, rfl, S4, A4, c3, cx, h_p0, f6, ha.to (by kernel_rfl)⟩
     · replace h := itF hb h
       refine wp_exit ?_
       obtain rfl := Option.some.inj h
       exact ⟨_, rfl, rfl, S1, A1, c1, cx, h_p0, f1, ha.to (by kernel_rfl)⟩
   · exact ⟨S, none, 0, cx, h_p0, Ow.nil, ha.to (by kernel_rfl)⟩
   intro e a w2 hd
   cases t1 with
   | inr r1 =>
    obtain ⟨rfl, hd⟩ := hd
    obtain rfl := Option.some.inj h
    exact hd
   | inl oo1 =>
    obtain ⟨y1, y2⟩ := oo1
    obtain ⟨rfl, S2, A2, c2, cx, h_p0, f2, ha⟩ := hd
    refine hK _ _ ?_
    clear hK
    refine sq fun K hK => ?_
    refine sq fun K hK => ?_
    obtain ⟨q4, hj4, h⟩ := obind h
    refine wp_cutV (D := fun a w_ => ∃ x10 : Bool, x10 = q4 ∧ w2 = w_ ∧ Ag 64 [(3, vS A2 y1 c2), (62, vB x10)] a) ?_ ?_
    · clear h; have h := hj4
      refine reg ?_
      refine sg ha 3 [(0, vS A_p0 p0 c_p0), (3, vS A2 y1 c2), (54, vB (decide (y2 > 64)))] w2 fun a ha => ?_
      refine split_b (t := 54) ha rfl (fun hb ha => ?_) (fun hb ha => ?_)
      · replace h := itT hb h
        refine sg ha 8 [(3, vS A2 y1 c2), (62, vB true)] w2 fun a ha => ?_
        obtain rfl := Option.some.inj h
        exact ⟨_, rfl, rfl, ha.to (by kernel_rfl)⟩
      · replace h := itF hb h
        refine sg ha 4 [(3, vS A2 y1 c2), (54, vB false), (55, vS A2 y1 c2), (58, vI (W ((p0.length : Int) - 1)))] w2 fun a ha => ?_
        obtain ⟨hi3, h⟩ := ite_some h
        obtain ⟨b4, o2, cs2, rfl, hr3, hc2⟩ := f2.rdb.get hi3
        obtain rfl := hr3
        refine ov (vE b4 o2 (W ((p0.length : Int) - 1)) 1) ha (obx w2 rfl rfl rfl Try.underlying25 rfl hi3) fun a ha => ?_
        refine ov (vI (gt y1 (W ((p0.length : Int) - 1)))) ha (ob_load w2 rfl rfl Try.underlying3 rfl ((cell_add1 _ _ _ _).trans (hc2 0 _ rfl))) fun a ha => ?_
        refine sg ha 2 [(3, vS (some ⟨b4, o2, none⟩) y1 c2), (62, vB ((gt y1 (W ((p0.length : Int) - 1))) != 0))] w2 fun a ha => ?_
        obtain rfl := Option.some.inj h
        exact ⟨_, rfl, rfl, ha.to (by kernel_rfl)⟩
    rintro a _ ⟨x10, rfl, rfl, ha⟩
    refine hK _ _ ?_
    clear hK
    refine cond_b ha rfl (fun hb => ?_) (fun hb => ?_)
    · replace h := itT hb h
      refine sq fun K hK => ?_
      refine reg ?_
      refine sg ha 1 [(2, .slice none 0 0)] w2 fun a ha => ?_
      refine hK _ _ ?_
      clear hK
      refine wp_ret ?_
      obtain rfl := Option.some.inj h
      show bodyPost Try.prog Try.f92 (R92 w S _) .ret a w2
      exact ret_1 (r1 := .tmp 2) (v1 := .slice none 0 0) ha rfl (.inl rfl) rfl ⟨_, rfl, cx.below, ⟨_, _, rfl, Ow.nil, (fun _ => rfl)⟩⟩
    · replace h := itF hb h
      refine wp_skip ?_
      refine hK _ _ ?_
      clear hK
      refine sq fun K hK => ?_
      refine reg ?_
      refine sg ha 2 [(2, vS A2 y1 c2)] w2 fun a ha => ?_
      refine hK _ _ ?_
      clear hK
      refine wp_ret ?_
      obtain ⟨hnn, h⟩ := ite_some h
      obtain rfl := Option.some.inj h
      show bodyPost Try.prog Try.f92 (R92 w S _) .ret a w2
      exact ret_1 (r1 := .tmp 2) (v1 := vS A2 y1 c2) ha rfl (.inl rfl) rfl ⟨_, rfl, cx.below, ⟨_, _, rfl, f2.result cx.sub, (fun e => absurd e (nonE_ne hnn))⟩⟩
def post59 (w : World) (S : Off) (r : (Bool)) (v : Value) (w1 : World) : Prop := v = .bool r
abbrev R59 (w : World) (S : Off) (r : (Bool)) : Ending → World → Prop := fun e w1 => ∃ v, e = .returned v ∧ Below w.heap.size w w1 ∧ post59 w S r v w1
theorem ok59 (fuel : Nat) {w : World} {S : Off} (hS : ∀ b, S b → b < w.heap.size) {p0 : (List MTerm)} {A_p0 : Option Addr} {c_p0 : Nat} (h_p0 : Sl tTerm w.heap S A_p0 c_p0 p0) {r : (Bool)} (h : m_term_Right fuel p0 = some r) :
 Calls Try.prog 59 #[vS A_p0 p0 c_p0] w (R59 w S r) := by
 refine enterL (vs := [vS A_p0 p0 c_p0]) Try.func59 rfl rfl ?_
 intro a ha
 have cx := Cx.start (W0 := nob) hS
 refine with_nop (noP_body _ _) (fun hq => ?_)
 unfold m_term_Right at h
 refine sq fun K hK => ?_
 refine reg ?_
 refine sg ha 1 [(0, vS A_p0 p0 c_p0)] w fun a ha => ?_
 refine hK _ _ ?_
 clear hK
 refine sq fun K hK => ?_
 refine reg ?_
 refine sg ha 1 [(3, vS A_p0 p0 c_p0)] w fun a ha => ?_
 obtain ⟨x1, hx1, h⟩ := obind h
 refine op_call ha (by kernel_rfl) (f := 92) (args := #[vS A_p0 p0 c_p0]) (w' := w) (by kernel_rfl) (ok92 fuel (p0 := p0) cx.lt h_p0 hx1) ?_
 rintro v1 w1 ⟨hb1, hp1⟩ a ha
 obtain ⟨A1, c1, rfl, f1, hz1⟩ := hp1
 replace f1 := own_out cx f1
 replace cx := cx.ext hb1
 refine sg ha 3 [(2, vB (decide ((x1.length : Int) > 0)))] w1 fun a ha => ?_
 refine hK _ _ ?_
 clear hK
 refine wp_ret ?_
 obtain rfl := Option.some.inj h
 show bodyPost Try.prog Try.f59 (R59 w S _) .ret a w1
 exact ret_1 (r1 := .tmp 2) (v1 := vB (decide ((x1.length : Int) > 0))) ha rfl (.inl rfl) rfl ⟨_, rfl, cx.below, rfl⟩
end Go.Proofs.Ytfhehbfifffipaa
