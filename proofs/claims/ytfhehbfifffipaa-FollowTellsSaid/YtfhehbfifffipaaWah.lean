/- What the functions compute is what the program does. Its conditions: none. -/
import Derived.Test.YtfhehbfifffipaaVShort
import Derived.Test.YtfhehbfifffipaaTy
import Derived.Test.YtfhehbfifffipaaWae
set_option maxRecDepth 20000
set_option autoImplicit false
namespace Go.Proofs.Ytfhehbfifffipaa
open Go.V Go.RowKit
set_option linter.unusedVariables false
def post25 (w : World) (S : Off) (r : ((List Int))) (v : Value) (w1 : World) : Prop := ∃ (A : Option Addr) (c : Nat), v = .slice A r.length c ∧ Ow (tInt .i64) 3 (Wr nob w) w1.heap (inV v S) v r
abbrev R25 (w : World) (S : Off) (r : ((List Int))) : Ending → World → Prop := fun e w1 => ∃ v, e = .returned v ∧ Below w.heap.size w w1 ∧ post25 w S r v w1
theorem ok25 (fuel : Nat) {w : World} {S : Off} (hS : ∀ b, S b → b < w.heap.size) {p0 : (List MTerm)} {A_p0 : Option Addr} {c_p0 : Nat} (h_p0 : Sl tTerm w.heap S A_p0 c_p0 p0) {r : ((List Int))} (h : m_ref16_Index fuel p0 = some r) :
 Calls Try.prog 25 #[vS A_p0 p0 c_p0] w (R25 w S r) := by
 refine enterL (vs := [vS A_p0 p0 c_p0]) Try.func25 rfl rfl ?_
 intro a ha
 have cx := Cx.start (W0 := nob) hS
 refine with_nop (noP_body _ _) (fun hq => ?_)
 unfold m_ref16_Index at h
 refine sq fun K hK => ?_
 refine reg ?_
 refine sg ha 1 [(0, vS A_p0 p0 c_p0)] w fun a ha => ?_
 refine hK _ _ ?_
 clear hK
 refine sq fun K hK => ?_
 refine sq fun K hK => ?_
 refine reg ?_
 refine sg ha 1 [(0, vS A_p0 p0 c_p0), (6, vS A_p0 p0 c_p0)] w fun a ha => ?_
 obtain ⟨x1, hx1, h⟩ := obind h
 refine op_call ha (by kernel_rfl) (f := 12) (args := #[vS A_p0 p0 c_p0]) (w' := w) (by kernel_rfl) (ok12 fuel (p0 := p0) cx.lt h_p0 hx1) ?_
 rintro v1 w1 ⟨hb1, hp1⟩ a ha
 obtain rfl := hp1
 replace h_p0 := h_p0.keep (Keep.ext S hb1)
 replace cx := cx.ext hb1
 refine sg ha 1 [(0, vS A_p0 p0 c_p0), (8, vB (!x1))] w1 fun a ha => ?_
 refine hK _ _ ?_
 clear hK
 refine cond_b ha rfl (fun hb => ?_) (fun hb => ?_)
 · replace h := itT hb h
   refine sq fun K hK => ?_
   refine reg ?_
   refine sg ha 1 [(2, .slice none 0 0)] w1 fun a ha => ?_
   refine hK _ _ ?_
   clear hK
   refine wp_ret ?_
   obtain rfl := Option.some.inj h
   show bodyPost Try.prog Try.f25 (R25 w S _) .ret a w1
   exact ret_1 (r1 := .tmp 2) (v1 := .slice none 0 0) ha rfl (.inl rfl) rfl ⟨_, rfl, cx.below, ⟨_, _, rfl, Ow.nil⟩⟩
 · replace h := itF hb h
   refine wp_skip ?_
   refine hK _ _ ?_
   clear hK
   refine sq fun K hK => ?_
   refine reg ?_
   refine sg ha 2 [(0, vS A_p0 p0 c_p0), (10, vI (p0.length : Int))] w1 fun a ha => ?_
   obtain ⟨hp2, h⟩ := ite_some h
   refine op_make (T := (tInt .i64)) (z := vI 0) (zx := (0 : Int)) (bytes := 8) ha cx (by kernel_rfl) rfl rfl rfl Try.underlying25 (by kernel_rfl) (by kernel_rfl) (fun _ _ => rfl) hp2 ?_
   intro w2 S1 A1 c1 cx hb2 kp1 hs1 hn1 f1 a ha
   replace h_p0 := h_p0.keep kp1
   refine sg ha 2 [(0, vS A_p0 p0 c_p0), (3, vS A1 (List.replicate (Int.toNat (p0.length : Int)) (0 : Int)) c1), (4, vI 0)] w2 fun a ha => ?_
   refine hK _ _ ?_
   clear hK
   refine sq fun K hK => ?_
   refine sq fun K hK => ?_
   refine reg ?_
   refine sg ha 1 [(0, vS A_p0 p0 c_p0), (3, vS A1 (List.replicate (Int.toNat (p0.length : Int)) (0 : Int)) c1), (4, vI 0), (5, vI 0)] w2 fun a ha => ?_
   refine hK _ _ ?_
   clear hK
   refine wp_block ?_
   obtain ⟨t1, ht1, h⟩ := obind h
   refine wp_mono (wp_iter (step := (m_ref16_Index_l1 fuel p0)) (I := fun (s : List Int × Int × Int) a w3 => match s with | (x2, x3, x4) => ∃ (S2 : Off), ∃ (A2 : Option Addr) (c2 : Nat), Cx w nob S w3 S2 ∧ Sl tTerm w3.heap S2 A_p0 c_p0 p0 ∧ Ow (tInt .i64) 3 (Wr nob w) w3.heap S2 (vS A2 x2 c2) x2 ∧ Ag 34 [(0, vS A_p0 p0 c_p0), (3, vS A2 x2 c2), (4, vI x3), (5, vI x4)] a) (D := fun (t : List Int) e a w4 => match t with | y1 => e = .exit 0 ∧ ∃ (S3 : Off), ∃ (A3 : Option Addr) (c3 : Nat), Cx w nob S w4 S3 ∧ Ow (tInt .i64) 3 (Wr nob w) w4.heap S3 (vS A3 y1 c3) y1 ∧ Ag 34 [(3, vS A3 y1 c3)] a) ?_ fuel _ t1 a _ ht1 ?_) ?_
   · clear h ht1
     rintro ⟨x2, x3, x4⟩ ct a w3 ⟨S2, A2, c2, cx, h_p0, f2, ha⟩ h
     refine with_nop (NoP.loop (fun t c a w h => by cases t <;> exact absurd h.1 (by simp))) (fun hq => ?_)
     unfold m_ref16_Index_l1 at h
     refine sq fun K hK => ?_
     refine sq fun K hK => ?_
     refine reg ?_
     refine sg ha 4 [(0, vS A_p0 p0 c_p0), (3, vS A2 x2 c2), (4, vI x3), (5, vI x4), (15, vB (decide (x4 < (p0.length : Int))))] w3 fun a ha => ?_
     refine hK _ _ ?_
     clear hK
     refine cond_b ha rfl (fun hb => ?_) (fun hb => ?_)
     · replace h := itT hb h
       refine wp_skip ?_
       refine hK _ _ ?_
       clear hK
       refine sq fun K hK => ?_
       obtain ⟨q1, hj1, h⟩ := obind h
       refine wp_cutV (D := fun a w5 => ∃ x5 : List Int, ∃ x6 : Int, ∃ (S4 : Off), ∃ (A4 : Option Addr) (c4 : Nat), (x5, x6) = q1 ∧ Cx w nob S w5 S4 ∧ Sl tTerm w5.heap S4 A_p0 c_p0 p0 ∧ Ow (tInt .i64) 3 (Wr nob w) w5.heap S4 (vS A4 x5 c4) x5 ∧ Ag 34 [(0, vS A_p0 p0 c_p0), (3, vS A4 x5 c4), (4, vI x6), (5, vI x4)] a) ?_ ?_
       · clear h; have h := hj1
         refine wp_block ?_
         refine sq fun K hK => ?_
         refine reg ?_
         refine sg ha 2 [(0, vS A_p0 p0 c_p0), (3, vS A2 x2 c2), (4, vI x3), (5, vI x4), (18, vS A2 x2 c2), (19, vI x4)] w3 fun a ha => ?_
         obtain ⟨hi1, h⟩ := ite_some h
         obtain ⟨b1, o1, cs1, rfl, hr1, hc1⟩ := f2.rdb.get hi1
         obtain rfl := hr1
         refine ov (vE b1 o1 x4 1) ha (obx w3 rfl rfl rfl Try.underlying25 rfl hi1) fun a ha => ?_
         refine op_setEl (T := (tInt .i64)) (f := 0) (x' := (-1)) ha cx (by kernel_rfl) rfl rfl rfl wr_id f2 hi1 (by kernel_rfl) (add1_eq _ _ _) (by kernel_rfl) (by rintro H2 _ _ rfl; rfl) ?_
         intro w6 cx on1 kp2 f5 a ha
         replace h_p0 := h_p0.keep kp2
         have hl1 : ((x2.set (Int.toNat x4) (-1))).length = x2.length := List.length_set
         replace ha : Ag 34 [(0, .slice A_p0 p0.length c_p0), (3, .slice (some ⟨b1, o1, none⟩) (x2.set (Int.toNat x4) (-1)).length c2), (4, .int .i64 x3), (5, .int .i64 x4)] a := by rw [hl1]; exact ha.to (by kernel_rfl)
         replace f5 : Ow (tInt .i64) 3 (Wr nob w) w6.heap S2 (.slice (some ⟨b1, o1, none⟩) (x2.set (Int.toNat x4) (-1)).length c2) (x2.set (Int.toNat x4) (-1)) := by rw [hl1]; exact f5
         refine hK _ _ ?_
         clear hK
         refine sq fun K hK => ?_
         refine reg ?_
         refine sg ha 2 [(0, vS A_p0 p0 c_p0), (3, vS (some ⟨b1, o1, none⟩) (x2.set (Int.toNat x4) (-1)) c2), (4, vI x3), (5, vI x4), (21, vS A_p0 p0 c_p0), (22, vI x4)] w6 fun a ha => ?_
         obtain ⟨hi2, h⟩ := ite_some h
         obtain ⟨b2, o2, cs2, rfl, hr2, hc2⟩ := h_p0.rdb.get hi2
         obtain ⟨rfl, hl2⟩ := hr2
         refine ov (vE b2 o2 x4 8) ha (obx w6 rfl rfl rfl Try.underlying22 rfl hi2) fun a ha => ?_
         refine sg ha 1 [(0, vS (some ⟨b2, o2, none⟩) p0 c_p0), (3, vS (some ⟨b1, o1, none⟩) (x2.set (Int.toNat x4) (-1)) c2), (4, vI x3), (5, vI x4), (24, .pointer (some (((⟨b2, o2, none⟩ : Addr).add (x4.toNat * 8)).add 0)))] w6 fun a ha => ?_
         refine ov (vI ((gt p0 x4).Kind)) ha (ob_load w6 rfl rfl Try.underlying3 rfl ((cell_add2 _ _ _ _ _).trans (hc2 0 _ rfl))) fun a ha => ?_
         refine sg ha 1 [(0, vS (some ⟨b2, o2, none⟩) p0 c_p0), (3, vS (some ⟨b1, o1, none⟩) (x2.set (Int.toNat x4) (-1)) c2), (4, vI x3), (5, vI x4), (26, vB (((gt p0 x4).Kind) == 2))] w6 fun a ha => ?_
         refine hK _ _ ?_
         clear hK
         refine cond_b ha rfl (fun hb => ?_) (fun hb => ?_)
         · replace h := itT hb h
           refine sq fun K hK => ?_
           refine reg ?_
           refine sg ha 3 [(0, vS (some ⟨b2, o2, none⟩) p0 c_p0), (3, vS (some ⟨b1, o1, none⟩) (x2.set (Int.toNat x4) (-1)) c2), (4, vI x3), (5, vI x4), (27, vS (some ⟨b1, o1, none⟩) (x2.set (Int.toNat x4) (-1)) c2), (28, vI x4), (29, vI x3)] w6 fun a ha => ?_
           obtain ⟨hi3, h⟩ := ite_some h
           obtain ⟨cs3, hr3, hc3⟩ := f5.rdb.at hi3
           obtain rfl := hr3
           refine ov (vE b1 o1 x4 1) ha (obx w6 rfl rfl rfl Try.underlying25 rfl hi3) fun a ha => ?_
           refine op_setEl (T := (tInt .i64)) (f := 0) (x' := x3) ha cx (by kernel_rfl) rfl rfl rfl wr_id f5 hi3 (by kernel_rfl) (add1_eq _ _ _) (by kernel_rfl) (by rintro H2 _ _ rfl; rfl) ?_
           intro w7 cx on2 kp3 f6 a ha
           replace h_p0 := h_p0.keep kp3
           have hl3 : (((x2.set (Int.toNat x4) (-1)).set (Int.toNat x4) x3)).length = (x2.set (Int.toNat x4) (-1)).length := List.length_set
           replace ha : Ag 34 [(0, .slice (some ⟨b2, o2, none⟩) p0.length c_p0), (3, .slice (some ⟨b1, o1, none⟩) ((x2.set (Int.toNat x4) (-1)).set (Int.toNat x4) x3).length c2), (4, .int .i64 x3), (5, .int .i64 x4)] a := by rw [hl3]; exact ha.to (by kernel_rfl)
           replace f6 : Ow (tInt .i64) 3 (Wr nob w) w7.heap S2 (.slice (some ⟨b1, o1, none⟩) ((x2.set (Int.toNat x4) (-1)).set (Int.toNat x4) x3).length c2) ((x2.set (Int.toNat x4) (-1)).set (Int.toNat x4) x3) := by rw [hl3]; exact f6
           refine hK _ _ ?_
           clear hK
           refine reg ?_
           refine sg ha 3 [(0, vS (some ⟨b2, o2, none⟩) p0 c_p0), (3, vS (some ⟨b1, o1, none⟩) ((x2.set (Int.toNat x4) (-1)).set (Int.toNat x4) x3) c2), (4, vI (W (x3 + 1))), (5, vI x4)] w7 fun a ha => ?_
           obtain rfl := Option.some.inj h
           exact ⟨_, _, _, (some ⟨b1, o1, none⟩), c2, rfl, cx, h_p0, f6, ha.to (by kernel_rfl)⟩
         · replace h := itF hb h
           refine wp_skip ?_
           obtain rfl := Option.some.inj h
           exact ⟨_, _, _, (some ⟨b1, o1, none⟩), c2, rfl, cx, h_p0, f5, ha.to (by kernel_rfl)⟩
       rintro a w5 ⟨x5, x6, S4, A4, c4, rfl, cx, h_p0, f4, ha⟩
       refine hK _ _ ?_
       clear hK
       refine reg ?_
       refine sg ha 3 [(0, vS A_p0 p0 c_p0), (3, vS A4 x5 c4), (4, vI x6), (5, vI (W (x4 + 1)))] w5 fun a ha => ?_
       obtain rfl := Option.some.inj h
       exact ⟨_, rfl, S4, A4, c4, cx, h_p0, f4, ha.to (by kernel_rfl)⟩
     · replace h := itF hb h
       refine wp_exit ?_
       obtain rfl := Option.some.inj h
       exact ⟨_, rfl, rfl, S2, A2, c2, cx, f2, ha.to (by kernel_rfl)⟩
   · exact ⟨S1, A1, c1, cx, h_p0, f1, ha.to (by kernel_rfl)⟩
   intro e a w4 hd
   generalize t1 = y1 at *
   obtain ⟨rfl, S3, A3, c3, cx, f3, ha⟩ := hd
   refine hK _ _ ?_
   clear hK
   refine sq fun K hK => ?_
   refine reg ?_
   refine sg ha 2 [(2, vS A3 y1 c3)] w4 fun a ha => ?_
   refine hK _ _ ?_
   clear hK
   refine wp_ret ?_
   obtain rfl := Option.some.inj h
   show bodyPost Try.prog Try.f25 (R25 w S _) .ret a w4
   exact ret_1 (r1 := .tmp 2) (v1 := vS A3 y1 c3) ha rfl (.inl rfl) rfl ⟨_, rfl, cx.below, ⟨_, _, rfl, f3.result cx.sub⟩⟩
end Go.Proofs.Ytfhehbfifffipaa
