/- What the functions compute is what the program does. Its conditions: none. -/
import Derived.Test.YtfhehbfifffipaaVShort
import Derived.Test.YtfhehbfifffipaaTy
import Derived.Test.YtfhehbfifffipaaWae
set_option maxRecDepth 20000
set_option autoImplicit false
namespace Go.Proofs.Ytfhehbfifffipaa
open Go.V Go.RowKit
set_option linter.unusedVariables false
def post22 (w : World) (S : Off) (r : ((List Int))) (v : Value) (w1 : World) : Prop := ∃ (A : Option Addr) (c : Nat), v = .slice A r.length c ∧ Ow (tInt .i64) 3 (Wr nob w) w1.heap (inV v S) v r
abbrev R22 (w : World) (S : Off) (r : ((List Int))) : Ending → World → Prop := fun e w1 => ∃ v, e = .returned v ∧ Below w.heap.size w w1 ∧ post22 w S r v w1
theorem ok22 (fuel : Nat) {w : World} {S : Off} (hS : ∀ b, S b → b < w.heap.size) {p0 : (List MTerm)} {A_p0 : Option Addr} {c_p0 : Nat} (h_p0 : Sl tTerm w.heap S A_p0 c_p0 p0) {r : ((List Int))} (h : m_ref16_Leaves fuel p0 = some r) :
 Calls Try.prog 22 #[vS A_p0 p0 c_p0] w (R22 w S r) := by
 refine enterL (vs := [vS A_p0 p0 c_p0]) Try.func22 rfl rfl ?_
 intro a ha
 have cx := Cx.start (W0 := nob) hS
 refine with_nop (noP_body _ _) (fun hq => ?_)
 unfold m_ref16_Leaves at h
 refine sq fun K hK => ?_
 refine reg ?_
 refine sg ha 1 [(0, vS A_p0 p0 c_p0)] w fun a ha => ?_
 refine hK _ _ ?_
 clear hK
 refine sq fun K hK => ?_
 refine reg ?_
 refine sg ha 1 [(0, vS A_p0 p0 c_p0), (3, .slice none 0 0)] w fun a ha => ?_
 refine hK _ _ ?_
 clear hK
 refine sq fun K hK => ?_
 refine sq fun K hK => ?_
 refine reg ?_
 refine sg ha 1 [(0, vS A_p0 p0 c_p0), (3, .slice none 0 0), (5, vS A_p0 p0 c_p0)] w fun a ha => ?_
 obtain ⟨x1, hx1, h⟩ := obind h
 refine op_call ha (by kernel_rfl) (f := 12) (args := #[vS A_p0 p0 c_p0]) (w' := w) (by kernel_rfl) (ok12 fuel (p0 := p0) cx.lt h_p0 hx1) ?_
 rintro v1 w1 ⟨hb1, hp1⟩ a ha
 obtain rfl := hp1
 replace h_p0 := h_p0.keep (Keep.ext S hb1)
 replace cx := cx.ext hb1
 refine sg ha 1 [(0, vS A_p0 p0 c_p0), (3, .slice none 0 0), (7, vB (!x1))] w1 fun a ha => ?_
 refine hK _ _ ?_
 clear hK
 refine cond_b ha rfl (fun hb => ?_) (fun hb => ?_)
 · replace h := itT hb h
   refine sq fun K hK => ?_
   refine reg ?_
   refine sg ha 1 [(2, .slice none 0 0)] w1 fun a ha => ?_
   refine hK _ _ ?_
   clear hK
   refine wp_ret ?_
   obtain rfl := Option.some.inj h
   show bodyPost Try.prog Try.f22 (R22 w S _) .ret a w1
   exact ret_1 (r1 := .tmp 2) (v1 := .slice none 0 0) ha rfl (.inl rfl) rfl ⟨_, rfl, cx.below, ⟨_, _, rfl, Ow.nil⟩⟩
 · replace h := itF hb h
   refine wp_skip ?_
   refine hK _ _ ?_
   clear hK
   refine sq fun K hK => ?_
   refine sq fun K hK => ?_
   refine reg ?_
   refine sg ha 1 [(0, vS A_p0 p0 c_p0), (3, .slice none 0 0), (4, vI 0)] w1 fun a ha => ?_
   refine hK _ _ ?_
   clear hK
   refine wp_block ?_
   obtain ⟨t1, ht1, h⟩ := obind h
   refine wp_mono (wp_iter (step := (m_ref16_Leaves_l1 fuel p0)) (I := fun (s : List Int × Int) a w2 => match s with | (x2, x3) => ∃ (S1 : Off), ∃ (A1 : Option Addr) (c1 : Nat), Cx w nob S w2 S1 ∧ Sl tTerm w2.heap S1 A_p0 c_p0 p0 ∧ Ow (tInt .i64) 3 (Wr nob w) w2.heap S1 (vS A1 x2 c1) x2 ∧ Ag 25 [(0, vS A_p0 p0 c_p0), (3, vS A1 x2 c1), (4, vI x3)] a) (D := fun (t : List Int) e a w3 => match t with | y1 => e = .exit 0 ∧ ∃ (S2 : Off), ∃ (A2 : Option Addr) (c2 : Nat), Cx w nob S w3 S2 ∧ Ow (tInt .i64) 3 (Wr nob w) w3.heap S2 (vS A2 y1 c2) y1 ∧ Ag 25 [(3, vS A2 y1 c2)] a) ?_ fuel _ t1 a _ ht1 ?_) ?_
   · clear h ht1
     rintro ⟨x2, x3⟩ ct a w2 ⟨S1, A1, c1, cx, h_p0, f1, ha⟩ h
     refine with_nop (NoP.loop (fun t c a w h => by cases t <;> exact absurd h.1 (by simp))) (fun hq => ?_)
     unfold m_ref16_Leaves_l1 at h
     refine sq fun K hK => ?_
     refine sq fun K hK => ?_
     refine reg ?_
     refine sg ha 4 [(0, vS A_p0 p0 c_p0), (3, vS A1 x2 c1), (4, vI x3), (11, vB (decide (x3 < (p0.length : Int))))] w2 fun a ha => ?_
     refine hK _ _ ?_
     clear hK
     refine cond_b ha rfl (fun hb => ?_) (fun hb => ?_)
     · replace h := itT hb h
       refine wp_skip ?_
       refine hK _ _ ?_
       clear hK
       refine sq fun K hK => ?_
       obtain ⟨q1, hj1, h⟩ := obind h
       refine wp_cutV (D := fun a w4 => ∃ x4 : List Int, ∃ (S3 : Off), ∃ (A3 : Option Addr) (c3 : Nat), x4 = q1 ∧ Cx w nob S w4 S3 ∧ Sl tTerm w4.heap S3 A_p0 c_p0 p0 ∧ Ow (tInt .i64) 3 (Wr nob w) w4.heap S3 (vS A3 x4 c3) x4 ∧ Ag 25 [(0, vS A_p0 p0 c_p0), (3, vS A3 x4 c3), (4, vI x3)] a) ?_ ?_
       · clear h; have h := hj1
         refine wp_block ?_
         refine sq fun K hK => ?_
         refine reg ?_
         refine sg ha 2 [(0, vS A_p0 p0 c_p0), (3, vS A1 x2 c1), (4, vI x3), (14, vS A_p0 p0 c_p0), (15, vI x3)] w2 fun a ha => ?_
         obtain ⟨hi1, h⟩ := ite_some h
         obtain ⟨b1, o1, cs1, rfl, hr1, hc1⟩ := h_p0.rdb.get hi1
         obtain ⟨rfl, hl1⟩ := hr1
         refine ov (vE b1 o1 x3 8) ha (obx w2 rfl rfl rfl Try.underlying22 rfl hi1) fun a ha => ?_
         refine sg ha 1 [(0, vS (some ⟨b1, o1, none⟩) p0 c_p0), (3, vS A1 x2 c1), (4, vI x3), (17, .pointer (some (((⟨b1, o1, none⟩ : Addr).add (x3.toNat * 8)).add 0)))] w2 fun a ha => ?_
         refine ov (vI ((gt p0 x3).Kind)) ha (ob_load w2 rfl rfl Try.underlying3 rfl ((cell_add2 _ _ _ _ _).trans (hc1 0 _ rfl))) fun a ha => ?_
         refine sg ha 1 [(0, vS (some ⟨b1, o1, none⟩) p0 c_p0), (3, vS A1 x2 c1), (4, vI x3), (19, vB (((gt p0 x3).Kind) == 2))] w2 fun a ha => ?_
         refine hK _ _ ?_
         clear hK
         refine cond_b ha rfl (fun hb => ?_) (fun hb => ?_)
         · replace h := itT hb h
           refine reg ?_
           refine sg ha 2 [(0, vS (some ⟨b1, o1, none⟩) p0 c_p0), (4, vI x3), (20, vS A1 x2 c1), (21, vI x3)] w2 fun a ha => ?_
           refine op_new (V := fun b => .slice (some ⟨b, 0, none⟩) 1 1) (cs := [vI x3]) (T := 3) ha (by kernel_rfl) (by kernel_rfl) ?_
           intro w5 b2 hb2 hk1 he1 _ a ha
           have f4 := lit_ow (T := (tInt .i64)) (xs := [x3]) (m := 1) cx hb2 hk1 he1 rfl (by kernel_rfl) (Els.one (T := (tInt .i64)) (x := x3) rfl)
           replace f4 := own_out cx f4
           replace h_p0 := h_p0.keep (Keep.ext S1 hb2)
           replace f1 := f1.ext hb2
           replace cx := cx.ext hb2
           obtain ⟨hp2, h⟩ := ite_some h
           refine op_append (T := (tInt .i64)) (xs := x2) (ys := [x3]) (z := vI 0) (bytes := 8) ha cx (by kernel_rfl) rfl rfl rfl Try.underlying25 (by kernel_rfl) (by kernel_rfl) wr_id f1 f4.rdb hp2 ?_
           intro w6 S4 A4 c4 cx kp1 hs1 hn1 hat1 f5 a ha
           replace h_p0 := h_p0.keep kp1
           refine sg ha 1 [(0, vS (some ⟨b1, o1, none⟩) p0 c_p0), (3, vS A4 (x2 ++ [x3]) c4), (4, vI x3)] w6 fun a ha => ?_
           obtain rfl := Option.some.inj h
           exact ⟨_, _, A4, c4, rfl, cx, h_p0, f5, ha.to (by kernel_rfl)⟩
         · replace h := itF hb h
           refine wp_skip ?_
           obtain rfl := Option.some.inj h
           exact ⟨_, _, A1, c1, rfl, cx, h_p0, f1, ha.to (by kernel_rfl)⟩
       rintro a w4 ⟨x4, S3, A3, c3, rfl, cx, h_p0, f3, ha⟩
       refine hK _ _ ?_
       clear hK
       refine reg ?_
       refine sg ha 3 [(0, vS A_p0 p0 c_p0), (3, vS A3 x4 c3), (4, vI (W (x3 + 1)))] w4 fun a ha => ?_
       obtain rfl := Option.some.inj h
       exact ⟨_, rfl, S3, A3, c3, cx, h_p0, f3, ha.to (by kernel_rfl)⟩
     · replace h := itF hb h
       refine wp_exit ?_
       obtain rfl := Option.some.inj h
       exact ⟨_, rfl, rfl, S1, A1, c1, cx, f1, ha.to (by kernel_rfl)⟩
   · exact ⟨S, none, 0, cx, h_p0, Ow.nil, ha.to (by kernel_rfl)⟩
   intro e a w3 hd
   generalize t1 = y1 at *
   obtain ⟨rfl, S2, A2, c2, cx, f2, ha⟩ := hd
   refine hK _ _ ?_
   clear hK
   refine sq fun K hK => ?_
   refine reg ?_
   refine sg ha 2 [(2, vS A2 y1 c2)] w3 fun a ha => ?_
   refine hK _ _ ?_
   clear hK
   refine wp_ret ?_
   obtain rfl := Option.some.inj h
   show bodyPost Try.prog Try.f22 (R22 w S _) .ret a w3
   exact ret_1 (r1 := .tmp 2) (v1 := vS A2 y1 c2) ha rfl (.inl rfl) rfl ⟨_, rfl, cx.below, ⟨_, _, rfl, f2.result cx.sub⟩⟩
end Go.Proofs.Ytfhehbfifffipaa
