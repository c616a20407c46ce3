/- What the functions compute is what the program does. Its conditions: none. -/
import Derived.Test.YtfhehbfifffipaaVShort
import Derived.Test.YtfhehbfifffipaaTy
set_option maxRecDepth 20000
set_option autoImplicit false
namespace Go.Proofs.Ytfhehbfifffipaa
open Go.V Go.RowKit
set_option linter.unusedVariables false
def post30 (w : World) (S : Off) (r : (Bool)) (v : Value) (w1 : World) : Prop := v = .bool r
abbrev R30 (w : World) (S : Off) (r : (Bool)) : Ending → World → Prop := fun e w1 => ∃ v, e = .returned v ∧ Below w.heap.size w w1 ∧ post30 w S r v w1
theorem ok30 (fuel : Nat) {w : World} {S : Off} (hS : ∀ b, S b → b < w.heap.size) {p0 : (List Int)} {p1 : (List Int)} {A_p0 : Option Addr} {c_p0 : Nat} (h_p0 : Sl (tInt .i64) w.heap S A_p0 c_p0 p0) {A_p1 : Option Addr} {c_p1 : Nat} (h_p1 : Sl (tInt .i64) w.heap S A_p1 c_p1 p1) {r : (Bool)} (h : m_ref06_Ints fuel p0 p1 = some r) :
 Calls Try.prog 30 #[vS A_p0 p0 c_p0, vS A_p1 p1 c_p1] w (R30 w S r) := by
 refine enterL (vs := [vS A_p0 p0 c_p0, vS A_p1 p1 c_p1]) Try.func30 rfl rfl ?_
 intro a ha
 have cx := Cx.start (W0 := nob) hS
 refine with_nop (noP_body _ _) (fun hq => ?_)
 unfold m_ref06_Ints at h
 refine sq fun K hK => ?_
 refine reg ?_
 refine sg ha 1 [(0, vS A_p0 p0 c_p0), (1, vS A_p1 p1 c_p1)] w fun a ha => ?_
 refine hK _ _ ?_
 clear hK
 refine sq fun K hK => ?_
 refine sq fun K hK => ?_
 refine reg ?_
 refine sg ha 5 [(0, vS A_p0 p0 c_p0), (1, vS A_p1 p1 c_p1), (10, vB ((p0.length : Int) != (p1.length : Int)))] w fun a ha => ?_
 refine hK _ _ ?_
 clear hK
 refine cond_b ha rfl (fun hb => ?_) (fun hb => ?_)
 · replace h := itT hb h
   refine sq fun K hK => ?_
   refine reg ?_
   refine sg ha 1 [(4, vB false)] w fun a ha => ?_
   refine hK _ _ ?_
   clear hK
   refine wp_ret ?_
   obtain rfl := Option.some.inj h
   show bodyPost Try.prog Try.f30 (R30 w S _) .ret a w
   exact ret_1 (r1 := .tmp 4) (v1 := vB false) ha rfl (.inl rfl) rfl ⟨_, rfl, cx.below, rfl⟩
 · replace h := itF hb h
   refine wp_skip ?_
   refine hK _ _ ?_
   clear hK
   refine sq fun K hK => ?_
   refine sq fun K hK => ?_
   refine reg ?_
   refine sg ha 1 [(0, vS A_p0 p0 c_p0), (1, vS A_p1 p1 c_p1), (5, vI 0)] w fun a ha => ?_
   refine hK _ _ ?_
   clear hK
   refine wp_block ?_
   obtain ⟨t1, ht1, h⟩ := obind h
   refine wp_mono (wp_iter (step := (m_ref06_Ints_l1 fuel p0 p1)) (I := fun (s : Int) a w1 => match s with | x1 => ∃ (S1 : Off), Cx w nob S w1 S1 ∧ Sl (tInt .i64) w1.heap S1 A_p0 c_p0 p0 ∧ Sl (tInt .i64) w1.heap S1 A_p1 c_p1 p1 ∧ Ag 26 [(0, vS A_p0 p0 c_p0), (1, vS A_p1 p1 c_p1), (5, vI x1)] a) (D := fun (t : (Unit) ⊕ (Bool)) e a w2 => match t with | .inl () => e = .exit 0 ∧ ∃ (S2 : Off), Cx w nob S w2 S2 ∧ Ag 26 [] a | .inr r => e = .ret ∧ bodyPost Try.prog Try.f30 (R30 w S r) .ret a w2) ?_ fuel _ t1 a _ ht1 ?_) ?_
   · clear h ht1
     rintro x1 ct a w1 ⟨S1, cx, h_p0, h_p1, ha⟩ h
     refine with_nop (NoP.loop (fun t c a w h => by cases t <;> exact absurd h.1 (by simp))) (fun hq => ?_)
     unfold m_ref06_Ints_l1 at h
     refine sq fun K hK => ?_
     refine sq fun K hK => ?_
     refine reg ?_
     refine sg ha 4 [(0, vS A_p0 p0 c_p0), (1, vS A_p1 p1 c_p1), (5, vI x1), (14, vB (decide (x1 < (p0.length : Int))))] w1 fun a ha => ?_
     refine hK _ _ ?_
     clear hK
     refine cond_b ha rfl (fun hb => ?_) (fun hb => ?_)
     · replace h := itT hb h
       refine wp_skip ?_
       refine hK _ _ ?_
       clear hK
       refine sq fun K hK => ?_
       refine wp_block ?_
       refine sq fun K hK => ?_
       refine dr_start 9 S1 rfl ?_
       intro w3 e1 hb1
       replace h_p0 := h_p0.keep (Keep.ext S1 hb1)
       replace h_p1 := h_p1.keep (Keep.ext S1 hb1)
       replace cx := cx.ext hb1
       refine dk 0 (vS A_p0 p0 c_p0) ha hq rfl (Sd.start _ _ _ _) fun hsx a ha => ?_
       refine dk 1 (vI x1) ha hq rfl hsx fun hsx a ha => ?_
       obtain ⟨hi1, h⟩ := ite_some h
       obtain ⟨b1, o1, cs1, rfl, hr1, hc1⟩ := h_p0.rdb.get hi1
       obtain rfl := hr1
       refine dv 2 (vE b1 o1 x1 1) ha hq rfl (fun w2 hw2 hw3 => obx w2 rfl rfl rfl Try.underlying25 rfl hi1) hsx fun hsx a ha => ?_
       refine dv 3 (vI (gt p0 x1)) ha hq rfl (fun w2 hw2 hw3 => ob_load w2 rfl rfl Try.underlying3 rfl ((cell_add1 _ _ _ _).trans (Sold.cell (hw3 (by kernel_rfl)) (hc1 0 _ rfl)))) hsx fun hsx a ha => ?_
       refine dk 4 (vS A_p1 p1 c_p1) ha hq rfl hsx fun hsx a ha => ?_
       refine dk 5 (vI x1) ha hq rfl hsx fun hsx a ha => ?_
       obtain ⟨hi2, h⟩ := ite_some h
       obtain ⟨b2, o2, cs2, rfl, hr2, hc2⟩ := h_p1.rdb.get hi2
       obtain rfl := hr2
       refine dv 6 (vE b2 o2 x1 1) ha hq rfl (fun w2 hw2 hw3 => obx w2 rfl rfl rfl Try.underlying25 rfl hi2) hsx fun hsx a ha => ?_
       refine dv 7 (vI (gt p1 x1)) ha hq rfl (fun w2 hw2 hw3 => ob_load w2 rfl rfl Try.underlying3 rfl ((cell_add1 _ _ _ _).trans (Sold.cell (hw3 (by kernel_rfl)) (hc2 0 _ rfl)))) hsx fun hsx a ha => ?_
       refine dk 8 (vB ((gt p0 x1) != (gt p1 x1))) ha hq rfl hsx fun hsx a ha => ?_
       refine dr_done (by kernel_rfl) ?_
       replace ha := ha.to (l' := [(0, vS (some ⟨b1, o1, none⟩) p0 c_p0), (1, vS (some ⟨b2, o2, none⟩) p1 c_p1), (5, vI x1), (25, vB ((gt p0 x1) != (gt p1 x1)))]) (by kernel_rfl)
       refine hK _ _ ?_
       clear hK
       refine cond_b ha rfl (fun hb => ?_) (fun hb => ?_)
       · replace h := itT hb h
         refine sq fun K hK => ?_
         refine reg ?_
         refine sg ha 1 [(4, vB false)] w3 fun a ha => ?_
         refine hK _ _ ?_
         clear hK
         refine wp_ret ?_
         obtain rfl := Option.some.inj h
         refine ⟨_, rfl, rfl, ?_⟩
         show bodyPost Try.prog Try.f30 (R30 w S _) .ret a w3
         exact ret_1 (r1 := .tmp 4) (v1 := vB false) ha rfl (.inl rfl) rfl ⟨_, rfl, cx.below, rfl⟩
       · replace h := itF hb h
         refine wp_skip ?_
         refine hK _ _ ?_
         clear hK
         refine reg ?_
         refine sg ha 3 [(0, vS (some ⟨b1, o1, none⟩) p0 c_p0), (1, vS (some ⟨b2, o2, none⟩) p1 c_p1), (5, vI (W (x1 + 1)))] w3 fun a ha => ?_
         obtain rfl := Option.some.inj h
         exact ⟨_, rfl, S1, cx, h_p0, h_p1, ha.to (by kernel_rfl)⟩
     · replace h := itF hb h
       refine wp_exit ?_
       obtain rfl := Option.some.inj h
       exact ⟨_, rfl, rfl, S1, cx, ha.to (by kernel_rfl)⟩
   · exact ⟨S, cx, h_p0, h_p1, ha.to (by kernel_rfl)⟩
   intro e a w2 hd
   cases t1 with
   | inr r1 =>
    obtain ⟨rfl, hd⟩ := hd
    obtain rfl := Option.some.inj h
    exact hd
   | inl oo1 =>
    obtain ⟨rfl, S2, cx, ha⟩ := hd
    refine hK _ _ ?_
    clear hK
    refine sq fun K hK => ?_
    refine reg ?_
    refine sg ha 1 [(4, vB true)] w2 fun a ha => ?_
    refine hK _ _ ?_
    clear hK
    refine wp_ret ?_
    obtain rfl := Option.some.inj h
    show bodyPost Try.prog Try.f30 (R30 w S _) .ret a w2
    exact ret_1 (r1 := .tmp 4) (v1 := vB true) ha rfl (.inl rfl) rfl ⟨_, rfl, cx.below, rfl⟩
end Go.Proofs.Ytfhehbfifffipaa
