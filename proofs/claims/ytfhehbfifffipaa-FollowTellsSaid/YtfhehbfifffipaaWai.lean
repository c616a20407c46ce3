/- What the functions compute is what the program does. Its conditions: none. -/
import Derived.Test.YtfhehbfifffipaaVShort
import Derived.Test.YtfhehbfifffipaaTy
import Derived.Test.YtfhehbfifffipaaWae
set_option maxRecDepth 20000
set_option autoImplicit false
namespace Go.Proofs.Ytfhehbfifffipaa
open Go.V Go.RowKit
set_option linter.unusedVariables false
def post27 (w : World) (S : Off) (r : ((List Int))) (v : Value) (w1 : World) : Prop := ∃ (A : Option Addr) (c : Nat), v = .slice A r.length c ∧ Ow (tInt .i64) 3 (Wr nob w) w1.heap (inV v S) v r
abbrev R27 (w : World) (S : Off) (r : ((List Int))) : Ending → World → Prop := fun e w1 => ∃ v, e = .returned v ∧ Below w.heap.size w w1 ∧ post27 w S r v w1
theorem ok27 (fuel : Nat) {w : World} {S : Off} (hS : ∀ b, S b → b < w.heap.size) {p0 : (List MTerm)} {A_p0 : Option Addr} {c_p0 : Nat} (h_p0 : Sl tTerm w.heap S A_p0 c_p0 p0) {r : ((List Int))} (h : m_ref10_Up fuel p0 = some r) :
 Calls Try.prog 27 #[vS A_p0 p0 c_p0] w (R27 w S r) := by
 refine enterL (vs := [vS A_p0 p0 c_p0]) Try.func27 rfl rfl ?_
 intro a ha
 have cx := Cx.start (W0 := nob) hS
 refine with_nop (noP_body _ _) (fun hq => ?_)
 unfold m_ref10_Up at h
 refine sq fun K hK => ?_
 refine reg ?_
 refine sg ha 1 [(0, vS A_p0 p0 c_p0)] w fun a ha => ?_
 refine hK _ _ ?_
 clear hK
 refine sq fun K hK => ?_
 refine sq fun K hK => ?_
 refine reg ?_
 refine sg ha 1 [(0, vS A_p0 p0 c_p0), (6, vS A_p0 p0 c_p0)] w fun a ha => ?_
 obtain ⟨x1, hx1, h⟩ := obind h
 refine op_call ha (by kernel_rfl) (f := 12) (args := #[vS A_p0 p0 c_p0]) (w' := w) (by kernel_rfl) (ok12 fuel (p0 := p0) cx.lt h_p0 hx1) ?_
 rintro v1 w1 ⟨hb1, hp1⟩ a ha
 obtain rfl := hp1
 replace h_p0 := h_p0.keep (Keep.ext S hb1)
 replace cx := cx.ext hb1
 refine sg ha 1 [(0, vS A_p0 p0 c_p0), (8, vB (!x1))] w1 fun a ha => ?_
 refine hK _ _ ?_
 clear hK
 refine cond_b ha rfl (fun hb => ?_) (fun hb => ?_)
 · replace h := itT hb h
   refine sq fun K hK => ?_
   refine reg ?_
   refine sg ha 1 [(2, .slice none 0 0)] w1 fun a ha => ?_
   refine hK _ _ ?_
   clear hK
   refine wp_ret ?_
   obtain rfl := Option.some.inj h
   show bodyPost Try.prog Try.f27 (R27 w S _) .ret a w1
   exact ret_1 (r1 := .tmp 2) (v1 := .slice none 0 0) ha rfl (.inl rfl) rfl ⟨_, rfl, cx.below, ⟨_, _, rfl, Ow.nil⟩⟩
 · replace h := itF hb h
   refine wp_skip ?_
   refine hK _ _ ?_
   clear hK
   refine sq fun K hK => ?_
   refine reg ?_
   refine sg ha 2 [(0, vS A_p0 p0 c_p0), (10, vI (p0.length : Int))] w1 fun a ha => ?_
   obtain ⟨hp2, h⟩ := ite_some h
   refine op_make (T := (tInt .i64)) (z := vI 0) (zx := (0 : Int)) (bytes := 8) ha cx (by kernel_rfl) rfl rfl rfl Try.underlying25 (by kernel_rfl) (by kernel_rfl) (fun _ _ => rfl) hp2 ?_
   intro w2 S1 A1 c1 cx hb2 kp1 hs1 hn1 f1 a ha
   replace h_p0 := h_p0.keep kp1
   refine sg ha 1 [(0, vS A_p0 p0 c_p0), (3, vS A1 (List.replicate (Int.toNat (p0.length : Int)) (0 : Int)) c1)] w2 fun a ha => ?_
   refine hK _ _ ?_
   clear hK
   refine sq fun K hK => ?_
   refine sq fun K hK => ?_
   refine reg ?_
   refine sg ha 1 [(0, vS A_p0 p0 c_p0), (3, vS A1 (List.replicate (Int.toNat (p0.length : Int)) (0 : Int)) c1), (4, vI 0)] w2 fun a ha => ?_
   refine hK _ _ ?_
   clear hK
   refine wp_block ?_
   obtain ⟨t1, ht1, h⟩ := obind h
   refine wp_mono (wp_iter (step := (m_ref10_Up_l1 fuel p0)) (I := fun (s : List Int × Int) a w3 => match s with | (x2, x3) => ∃ (S2 : Off), ∃ (A2 : Option Addr) (c2 : Nat), Cx w nob S w3 S2 ∧ Sl tTerm w3.heap S2 A_p0 c_p0 p0 ∧ Ow (tInt .i64) 3 (Wr nob w) w3.heap S2 (vS A2 x2 c2) x2 ∧ Ag 56 [(0, vS A_p0 p0 c_p0), (3, vS A2 x2 c2), (4, vI x3)] a) (D := fun (t : List Int) e a w4 => match t with | y1 => e = .exit 0 ∧ ∃ (S3 : Off), ∃ (A3 : Option Addr) (c3 : Nat), Cx w nob S w4 S3 ∧ Sl tTerm w4.heap S3 A_p0 c_p0 p0 ∧ Ow (tInt .i64) 3 (Wr nob w) w4.heap S3 (vS A3 y1 c3) y1 ∧ Ag 56 [(0, vS A_p0 p0 c_p0), (3, vS A3 y1 c3)] a) ?_ fuel _ t1 a _ ht1 ?_) ?_
   · clear h ht1
     rintro ⟨x2, x3⟩ ct a w3 ⟨S2, A2, c2, cx, h_p0, f2, ha⟩ h
     refine with_nop (NoP.loop (fun t c a w h => by cases t <;> exact absurd h.1 (by simp))) (fun hq => ?_)
     unfold m_ref10_Up_l1 at h
     refine sq fun K hK => ?_
     refine sq fun K hK => ?_
     refine reg ?_
     refine sg ha 4 [(0, vS A_p0 p0 c_p0), (3, vS A2 x2 c2), (4, vI x3), (15, vB (decide (x3 < (p0.length : Int))))] w3 fun a ha => ?_
     refine hK _ _ ?_
     clear hK
     refine cond_b ha rfl (fun hb => ?_) (fun hb => ?_)
     · replace h := itT hb h
       refine wp_skip ?_
       refine hK _ _ ?_
       clear hK
       refine sq fun K hK => ?_
       refine wp_block ?_
       refine reg ?_
       refine sg ha 2 [(0, vS A_p0 p0 c_p0), (3, vS A2 x2 c2), (4, vI x3), (18, vS A2 x2 c2), (19, vI x3)] w3 fun a ha => ?_
       obtain ⟨hi1, h⟩ := ite_some h
       obtain ⟨b1, o1, cs1, rfl, hr1, hc1⟩ := f2.rdb.get hi1
       obtain rfl := hr1
       refine ov (vE b1 o1 x3 1) ha (obx w3 rfl rfl rfl Try.underlying25 rfl hi1) fun a ha => ?_
       refine op_setEl (T := (tInt .i64)) (f := 0) (x' := (-1)) ha cx (by kernel_rfl) rfl rfl rfl wr_id f2 hi1 (by kernel_rfl) (add1_eq _ _ _) (by kernel_rfl) (by rintro H2 _ _ rfl; rfl) ?_
       intro w5 cx on1 kp2 f4 a ha
       replace h_p0 := h_p0.keep kp2
       have hl1 : ((x2.set (Int.toNat x3) (-1))).length = x2.length := List.length_set
       replace ha : Ag 56 [(0, .slice A_p0 p0.length c_p0), (3, .slice (some ⟨b1, o1, none⟩) (x2.set (Int.toNat x3) (-1)).length c2), (4, .int .i64 x3)] a := by rw [hl1]; exact ha.to (by kernel_rfl)
       replace f4 : Ow (tInt .i64) 3 (Wr nob w) w5.heap S2 (.slice (some ⟨b1, o1, none⟩) (x2.set (Int.toNat x3) (-1)).length c2) (x2.set (Int.toNat x3) (-1)) := by rw [hl1]; exact f4
       refine hK _ _ ?_
       clear hK
       refine reg ?_
       refine sg ha 3 [(0, vS A_p0 p0 c_p0), (3, vS (some ⟨b1, o1, none⟩) (x2.set (Int.toNat x3) (-1)) c2), (4, vI (W (x3 + 1)))] w5 fun a ha => ?_
       obtain rfl := Option.some.inj h
       exact ⟨_, rfl, S2, (some ⟨b1, o1, none⟩), c2, cx, h_p0, f4, ha.to (by kernel_rfl)⟩
     · replace h := itF hb h
       refine wp_exit ?_
       obtain rfl := Option.some.inj h
       exact ⟨_, rfl, rfl, S2, A2, c2, cx, h_p0, f2, ha.to (by kernel_rfl)⟩
   · exact ⟨S1, A1, c1, cx, h_p0, f1, ha.to (by kernel_rfl)⟩
   intro e a w4 hd
   generalize t1 = y1 at *
   obtain ⟨rfl, S3, A3, c3, cx, h_p0, f3, ha⟩ := hd
   refine hK _ _ ?_
   clear hK
   refine sq fun K hK => ?_
   refine sq fun K hK => ?_
   refine reg ?_
   refine sg ha 1 [(0, vS A_p0 p0 c_p0), (3, vS A3 y1 c3), (5, vI 0)] w4 fun a ha => ?_
   refine hK _ _ ?_
   clear hK
   refine wp_block ?_
   obtain ⟨t2, ht2, h⟩ := obind h
   refine wp_mono (wp_iter (step := (m_ref10_Up_l2 fuel p0 y1)) (I := fun (s : List Int × Int) a w6 => match s with | (x4, x5) => ∃ (S4 : Off), ∃ (A4 : Option Addr) (c4 : Nat), Cx w nob S w6 S4 ∧ Sl tTerm w6.heap S4 A_p0 c_p0 p0 ∧ Ow (tInt .i64) 3 (Wr nob w) w6.heap S4 (vS A4 x4 c4) x4 ∧ Ag 56 [(0, vS A_p0 p0 c_p0), (3, vS A4 x4 c4), (5, vI x5)] a) (D := fun (t : List Int) e a w7 => match t with | y2 => e = .exit 2 ∧ ∃ (S5 : Off), ∃ (A5 : Option Addr) (c5 : Nat), Cx w nob S w7 S5 ∧ Ow (tInt .i64) 3 (Wr nob w) w7.heap S5 (vS A5 y2 c5) y2 ∧ Ag 56 [(3, vS A5 y2 c5)] a) ?_ fuel _ t2 a _ ht2 ?_) ?_
   · clear h ht2
     rintro ⟨x4, x5⟩ ct a w6 ⟨S4, A4, c4, cx, h_p0, f5, ha⟩ h
     refine with_nop (NoP.loop (fun t c a w h => by cases t <;> exact absurd h.1 (by simp))) (fun hq => ?_)
     unfold m_ref10_Up_l2 at h
     refine sq fun K hK => ?_
     refine sq fun K hK => ?_
     refine reg ?_
     refine sg ha 4 [(0, vS A_p0 p0 c_p0), (3, vS A4 x4 c4), (5, vI x5), (24, vB (decide (x5 < (p0.length : Int))))] w6 fun a ha => ?_
     refine hK _ _ ?_
     clear hK
     refine cond_b ha rfl (fun hb => ?_) (fun hb => ?_)
     · replace h := itT hb h
       refine wp_skip ?_
       refine hK _ _ ?_
       clear hK
       refine sq fun K hK => ?_
       obtain ⟨q1, hj1, h⟩ := obind h
       refine wp_cutV (D := fun a w8 => ∃ x6 : List Int, ∃ (S6 : Off), ∃ (A6 : Option Addr) (c6 : Nat), x6 = q1 ∧ Cx w nob S w8 S6 ∧ Sl tTerm w8.heap S6 A_p0 c_p0 p0 ∧ Ow (tInt .i64) 3 (Wr nob w) w8.heap S6 (vS A6 x6 c6) x6 ∧ Ag 56 [(0, vS A_p0 p0 c_p0), (3, vS A6 x6 c6), (5, vI x5)] a) ?_ ?_
       · clear h; have h := hj1
         refine wp_block ?_
         refine sq fun K hK => ?_
         obtain ⟨q2, hj2, h⟩ := obind h
         refine wp_cutV (D := fun a w9 => ∃ x7 : List Int, ∃ (S7 : Off), ∃ (A7 : Option Addr) (c7 : Nat), x7 = q2 ∧ Cx w nob S w9 S7 ∧ Sl tTerm w9.heap S7 A_p0 c_p0 p0 ∧ Ow (tInt .i64) 3 (Wr nob w) w9.heap S7 (vS A7 x7 c7) x7 ∧ Ag 56 [(0, vS A_p0 p0 c_p0), (3, vS A7 x7 c7), (5, vI x5)] a) ?_ ?_
         · clear h; have h := hj2
           refine sq fun K hK => ?_
           refine reg ?_
           refine sg ha 2 [(0, vS A_p0 p0 c_p0), (3, vS A4 x4 c4), (5, vI x5), (27, vS A_p0 p0 c_p0), (28, vI x5)] w6 fun a ha => ?_
           obtain ⟨hi2, h⟩ := ite_some h
           obtain ⟨b2, o2, cs2, rfl, hr2, hc2⟩ := h_p0.rdb.get hi2
           obtain ⟨rfl, hl2⟩ := hr2
           refine ov (vE b2 o2 x5 8) ha (obx w6 rfl rfl rfl Try.underlying22 rfl hi2) fun a ha => ?_
           refine sg ha 1 [(0, vS (some ⟨b2, o2, none⟩) p0 c_p0), (3, vS A4 x4 c4), (5, vI x5), (30, .pointer (some (((⟨b2, o2, none⟩ : Addr).add (x5.toNat * 8)).add 1)))] w6 fun a ha => ?_
           refine ov (vI ((gt p0 x5).A)) ha (ob_load w6 rfl rfl Try.underlying3 rfl ((cell_add2 _ _ _ _ _).trans (hc2 1 _ rfl))) fun a ha => ?_
           refine sg ha 1 [(0, vS (some ⟨b2, o2, none⟩) p0 c_p0), (3, vS A4 x4 c4), (5, vI x5), (32, vB (decide (((gt p0 x5).A) ≥ 0)))] w6 fun a ha => ?_
           refine hK _ _ ?_
           clear hK
           refine cond_b ha rfl (fun hb => ?_) (fun hb => ?_)
           · replace h := itT hb h
             refine reg ?_
             refine sg ha 3 [(0, vS (some ⟨b2, o2, none⟩) p0 c_p0), (3, vS A4 x4 c4), (5, vI x5), (33, vS A4 x4 c4), (34, vS (some ⟨b2, o2, none⟩) p0 c_p0), (35, vI x5)] w6 fun a ha => ?_
             obtain ⟨hi3, h⟩ := ite_some h
             obtain ⟨cs3, hr3, hc3⟩ := h_p0.rdb.at hi3
             obtain ⟨rfl, hl3⟩ := hr3
             refine ov (vE b2 o2 x5 8) ha (obx w6 rfl rfl rfl Try.underlying22 rfl hi3) fun a ha => ?_
             refine sg ha 1 [(0, vS (some ⟨b2, o2, none⟩) p0 c_p0), (3, vS A4 x4 c4), (5, vI x5), (33, vS A4 x4 c4), (37, .pointer (some (((⟨b2, o2, none⟩ : Addr).add (x5.toNat * 8)).add 1)))] w6 fun a ha => ?_
             refine ov (vI ((gt p0 x5).A)) ha (ob_load w6 rfl rfl Try.underlying3 rfl ((cell_add2 _ _ _ _ _).trans (hc3 1 _ rfl))) fun a ha => ?_
             refine sg ha 1 [(0, vS (some ⟨b2, o2, none⟩) p0 c_p0), (3, vS A4 x4 c4), (5, vI x5), (33, vS A4 x4 c4), (38, vI ((gt p0 x5).A)), (39, vI x5)] w6 fun a ha => ?_
             obtain ⟨hi4, h⟩ := ite_some h
             obtain ⟨b3, o3, cs4, rfl, hr4, hc4⟩ := f5.rdb.get hi4
             obtain rfl := hr4
             refine ov (vE b3 o3 ((gt p0 x5).A) 1) ha (obx w6 rfl rfl rfl Try.underlying25 rfl hi4) fun a ha => ?_
             refine op_setEl (T := (tInt .i64)) (f := 0) (x' := x5) ha cx (by kernel_rfl) rfl rfl rfl wr_id f5 hi4 (by kernel_rfl) (add1_eq _ _ _) (by kernel_rfl) (by rintro H2 _ _ rfl; rfl) ?_
             intro w10 cx on2 kp3 f9 a ha
             replace h_p0 := h_p0.keep kp3
             have hl4 : ((x4.set (Int.toNat ((gt p0 x5).A)) x5)).length = x4.length := List.length_set
             replace ha : Ag 56 [(0, .slice (some ⟨b2, o2, none⟩) p0.length c_p0), (3, .slice (some ⟨b3, o3, none⟩) (x4.set (Int.toNat ((gt p0 x5).A)) x5).length c4), (5, .int .i64 x5)] a := by rw [hl4]; exact ha.to (by kernel_rfl)
             replace f9 : Ow (tInt .i64) 3 (Wr nob w) w10.heap S4 (.slice (some ⟨b3, o3, none⟩) (x4.set (Int.toNat ((gt p0 x5).A)) x5).length c4) (x4.set (Int.toNat ((gt p0 x5).A)) x5) := by rw [hl4]; exact f9
             obtain rfl := Option.some.inj h
             exact ⟨_, _, (some ⟨b3, o3, none⟩), c4, rfl, cx, h_p0, f9, ha.to (by kernel_rfl)⟩
           · replace h := itF hb h
             refine wp_skip ?_
             obtain rfl := Option.some.inj h
             exact ⟨_, _, A4, c4, rfl, cx, h_p0, f5, ha.to (by kernel_rfl)⟩
         rintro a w9 ⟨x7, S7, A7, c7, rfl, cx, h_p0, f8, ha⟩
         refine hK _ _ ?_
         clear hK
         refine sq fun K hK => ?_
         refine reg ?_
         refine sg ha 2 [(0, vS A_p0 p0 c_p0), (3, vS A7 x7 c7), (5, vI x5), (41, vS A_p0 p0 c_p0), (42, vI x5)] w9 fun a ha => ?_
         obtain ⟨hi5, h⟩ := ite_some h
         obtain ⟨b4, o4, cs5, rfl, hr5, hc5⟩ := h_p0.rdb.get hi5
         obtain ⟨rfl, hl5⟩ := hr5
         refine ov (vE b4 o4 x5 8) ha (obx w9 rfl rfl rfl Try.underlying22 rfl hi5) fun a ha => ?_
         refine sg ha 1 [(0, vS (some ⟨b4, o4, none⟩) p0 c_p0), (3, vS A7 x7 c7), (5, vI x5), (44, .pointer (some (((⟨b4, o4, none⟩ : Addr).add (x5.toNat * 8)).add 2)))] w9 fun a ha => ?_
         refine ov (vI ((gt p0 x5).B)) ha (ob_load w9 rfl rfl Try.underlying3 rfl ((cell_add2 _ _ _ _ _).trans (hc5 2 _ rfl))) fun a ha => ?_
         refine sg ha 1 [(0, vS (some ⟨b4, o4, none⟩) p0 c_p0), (3, vS A7 x7 c7), (5, vI x5), (46, vB (decide (((gt p0 x5).B) ≥ 0)))] w9 fun a ha => ?_
         refine hK _ _ ?_
         clear hK
         refine cond_b ha rfl (fun hb => ?_) (fun hb => ?_)
         · replace h := itT hb h
           refine reg ?_
           refine sg ha 3 [(0, vS (some ⟨b4, o4, none⟩) p0 c_p0), (3, vS A7 x7 c7), (5, vI x5), (47, vS A7 x7 c7), (48, vS (some ⟨b4, o4, none⟩) p0 c_p0), (49, vI x5)] w9 fun a ha => ?_
           obtain ⟨hi6, h⟩ := ite_some h
           obtain ⟨cs6, hr6, hc6⟩ := h_p0.rdb.at hi6
           obtain ⟨rfl, hl6⟩ := hr6
           refine ov (vE b4 o4 x5 8) ha (obx w9 rfl rfl rfl Try.underlying22 rfl hi6) fun a ha => ?_
           refine sg ha 1 [(0, vS (some ⟨b4, o4, none⟩) p0 c_p0), (3, vS A7 x7 c7), (5, vI x5), (47, vS A7 x7 c7), (51, .pointer (some (((⟨b4, o4, none⟩ : Addr).add (x5.toNat * 8)).add 2)))] w9 fun a ha => ?_
           refine ov (vI ((gt p0 x5).B)) ha (ob_load w9 rfl rfl Try.underlying3 rfl ((cell_add2 _ _ _ _ _).trans (hc6 2 _ rfl))) fun a ha => ?_
           refine sg ha 1 [(0, vS (some ⟨b4, o4, none⟩) p0 c_p0), (3, vS A7 x7 c7), (5, vI x5), (47, vS A7 x7 c7), (52, vI ((gt p0 x5).B)), (53, vI x5)] w9 fun a ha => ?_
           obtain ⟨hi7, h⟩ := ite_some h
           obtain ⟨b5, o5, cs7, rfl, hr7, hc7⟩ := f8.rdb.get hi7
           obtain rfl := hr7
           refine ov (vE b5 o5 ((gt p0 x5).B) 1) ha (obx w9 rfl rfl rfl Try.underlying25 rfl hi7) fun a ha => ?_
           refine op_setEl (T := (tInt .i64)) (f := 0) (x' := x5) ha cx (by kernel_rfl) rfl rfl rfl wr_id f8 hi7 (by kernel_rfl) (add1_eq _ _ _) (by kernel_rfl) (by rintro H2 _ _ rfl; rfl) ?_
           intro w11 cx on3 kp4 f10 a ha
           replace h_p0 := h_p0.keep kp4
           have hl7 : ((x7.set (Int.toNat ((gt p0 x5).B)) x5)).length = x7.length := List.length_set
           replace ha : Ag 56 [(0, .slice (some ⟨b4, o4, none⟩) p0.length c_p0), (3, .slice (some ⟨b5, o5, none⟩) (x7.set (Int.toNat ((gt p0 x5).B)) x5).length c7), (5, .int .i64 x5)] a := by rw [hl7]; exact ha.to (by kernel_rfl)
           replace f10 : Ow (tInt .i64) 3 (Wr nob w) w11.heap S7 (.slice (some ⟨b5, o5, none⟩) (x7.set (Int.toNat ((gt p0 x5).B)) x5).length c7) (x7.set (Int.toNat ((gt p0 x5).B)) x5) := by rw [hl7]; exact f10
           obtain rfl := Option.some.inj h
           exact ⟨_, _, (some ⟨b5, o5, none⟩), c7, rfl, cx, h_p0, f10, ha.to (by kernel_rfl)⟩
         · replace h := itF hb h
           refine wp_skip ?_
           obtain rfl := Option.some.inj h
           exact ⟨_, _, A7, c7, rfl, cx, h_p0, f8, ha.to (by kernel_rfl)⟩
       rintro a w8 ⟨x6, S6, A6, c6, rfl, cx, h_p0, f7, ha⟩
       refine hK _ _ ?_
       clear hK
       refine reg ?_
       refine sg ha 3 [(0, vS A_p0 p0 c_p0), (3, vS A6 x6 c6), (5, vI (W (x5 + 1)))] w8 fun a ha => ?_
       obtain rfl := Option.some.inj h
       exact ⟨_, rfl, S6, A6, c6, cx, h_p0, f7, ha.to (by kernel_rfl)⟩
     · replace h := itF hb h
       refine wp_exit ?_
       obtain rfl := Option.some.inj h
       exact ⟨_, rfl, rfl, S4, A4, c4, cx, f5, ha.to (by kernel_rfl)⟩
   · exact ⟨S3, A3, c3, cx, h_p0, f3, ha.to (by kernel_rfl)⟩
   intro e a w7 hd
   generalize t2 = y2 at *
   obtain ⟨rfl, S5, A5, c5, cx, f6, ha⟩ := hd
   refine hK _ _ ?_
   clear hK
   refine sq fun K hK => ?_
   refine reg ?_
   refine sg ha 2 [(2, vS A5 y2 c5)] w7 fun a ha => ?_
   refine hK _ _ ?_
   clear hK
   refine wp_ret ?_
   obtain rfl := Option.some.inj h
   show bodyPost Try.prog Try.f27 (R27 w S _) .ret a w7
   exact ret_1 (r1 := .tmp 2) (v1 := vS A5 y2 c5) ha rfl (.inl rfl) rfl ⟨_, rfl, cx.below, ⟨_, _, rfl, f6.result cx.sub⟩⟩
end Go.Proofs.Ytfhehbfifffipaa
