/- The frame of a law: from what a row reads to the walk. Its conditions: none. -/
import Derived.Test.YtjkoiijpmiibpaaRows
import Derived.Test.YtjkoiijpmiibpaaRd
import Derived.Test.YtjkoiijpmiibpaaDAllocMakes
import Derived.Test.YtjkoiijpmiibpaaWn
set_option maxRecDepth 100000
set_option autoImplicit false
set_option linter.unusedVariables false
namespace Go.Proofs.Ytjkoiijpmiibpaa
open Go.V Go.RowKit Go.ChangeShapes Go.WideShapes Go.ChangeAt
theorem frameAllocMakes (hm : AllocMakesLaw) : Rows.AllocMakesSaid :=
  OpenClaim.holds_of_wide 4 Try.f4 rfl rfl rfl rfl rfl rfl rfl ⟨rfl, rfl, rfl, rfl, rfl⟩ rfl rfl rfl rfl rfl (by kernel_rfl) Try.func4 (by kernel_rfl)
    (of_decide_eq_true (by kernel_rfl)) (by unfold Func.isWrapper; first | (rw [if_pos (by decide +kernel)]; kernel_rfl) | (rw [if_neg (by decide +kernel)]; exact ⟨rfl, rfl⟩))
    (fun os started H enc _ => by
      refine law_lift (s := Rows.allocMakesSpec) (C := Try.checked) (by kernel_rfl) started (by kernel_rfl) Try.func4 (by kernel_rfl) rfl Try.underlying4 rfl (by kernel_rfl)
        (ChangeSpec.witness6 (enc := enc) (C := Try.checked) false ⟨#[], #[.agg #[.int .i64 0, .slice none 0 0, .slice none 0 0]], []⟩ 8 (by kernel_rfl) (by kernel_rfl) (by kernel_rfl) (by kernel_rfl)) ?_ ?_
      · intro W args ds p hA
        rw [Try.params4] at hA
        obtain ⟨v0, vs0, d0, ds0, p0, q0, hargs, rfl, rfl, h0, r0⟩ := trodAll_cons hA
        obtain ⟨rfl, rfl, rfl⟩ := trodAll_nil r0
        exact ⟨rfl, rfl, rfl⟩
      · intro W base args ds p hval hA hlt hsz
        rw [Try.params4] at hval hsz
        rw [Try.params4] at hA
        obtain ⟨v0, vs0, d0, ds0, p0, q0, hargs, rfl, rfl, h0, r0⟩ := trodAll_cons hA
        obtain ⟨rfl, rfl, rfl⟩ := trodAll_nil r0
        obtain rfl : args = #[v0] := by cases args; simp_all
        obtain ⟨g0, hg0⟩ := h0
        obtain ⟨x0, he0, wf0⟩ := rd25.get hg0 (fun x hx => hlt x (by simp [hx]))
        obtain ⟨A0_0, c0_0, A0_1, c0_1, he0, hs0_0, hs0_1⟩ := he0
        obtain rfl : v0 = .agg #[.int .i64 x0.Tags, .slice A0_0 x0.Class.length c0_0, .slice A0_1 x0.States.length c0_1] := okWide_agg Try.underlying25 (hval 0 25 v0 rfl rfl) he0
        obtain ⟨fuel, h⟩ := hm x0 wf0
        refine (ok4 fuel (S := nob) (fun _ h => h.elim) (p0 := x0) hs0_0 hs0_1 h).mono ?_
        rintro e w1 ⟨v, rfl, hb, hp⟩
        exact ⟨by rw [show v = .bool true from hp], hb⟩)
end Go.Proofs.Ytjkoiijpmiibpaa
