/- The frame of a law: from what a row reads to the walk. Its conditions: none. -/
import Derived.Test.YtinehfaelciljaaRows
import Derived.Test.YtinehfaelciljaaRd
import Derived.Test.YtinehfaelciljaaDMovesRings
import Derived.Test.YtinehfaelciljaaWe
set_option maxRecDepth 100000
set_option autoImplicit false
set_option linter.unusedVariables false
namespace Go.Proofs.Ytinehfaelciljaa
open Go.V Go.RowKit Go.ChangeShapes Go.WideShapes Go.ChangeAt
theorem frameMovesRings (hm : MovesRingsLaw) : Rows.MovesRingsSaid :=
  OpenClaim.holds_of_wide 4 Try.f4 rfl rfl rfl rfl rfl rfl rfl ⟨rfl, rfl, rfl, rfl, rfl⟩ rfl rfl rfl rfl rfl (by kernel_rfl) Try.func4 (by kernel_rfl)
    (of_decide_eq_true (by kernel_rfl)) (by unfold Func.isWrapper; first | (rw [if_pos (by decide +kernel)]; kernel_rfl) | (rw [if_neg (by decide +kernel)]; exact ⟨rfl, rfl⟩))
    (fun os started H enc _ => by
      refine law_lift (s := Rows.movesRingsSpec) (C := Try.checked) (by kernel_rfl) started (by kernel_rfl) Try.func4 (by kernel_rfl) rfl Try.underlying4 rfl (by kernel_rfl)
        (ChangeSpec.witness6 (enc := enc) (C := Try.checked) false ⟨#[], #[.int .u8 0, .int .u8 0], []⟩ 8 (by kernel_rfl) (by kernel_rfl) (by kernel_rfl) (by kernel_rfl)) ?_ ?_
      · intro W args ds p hA
        rw [Try.params4] at hA
        obtain ⟨v0, vs0, d0, ds0, p0, q0, hargs, rfl, rfl, h0, r0⟩ := trodAll_cons hA
        obtain ⟨v1, vs1, d1, ds1, p1, q1, rfl, rfl, rfl, h1, r1⟩ := trodAll_cons r0
        obtain ⟨rfl, rfl, rfl⟩ := trodAll_nil r1
        exact ⟨rfl, rfl, rfl⟩
      · intro W base args ds p hval hA hlt hsz
        rw [Try.params4] at hval hsz
        rw [Try.params4] at hA
        obtain ⟨v0, vs0, d0, ds0, p0, q0, hargs, rfl, rfl, h0, r0⟩ := trodAll_cons hA
        obtain ⟨v1, vs1, d1, ds1, p1, q1, rfl, rfl, rfl, h1, r1⟩ := trodAll_cons r0
        obtain ⟨rfl, rfl, rfl⟩ := trodAll_nil r1
        obtain rfl : args = #[v0, v1] := by cases args; simp_all
        obtain ⟨a0, rfl, rfl, rfl, w0⟩ := open_int Try.underlying5 (hval 0 5 v0 rfl rfl) h0
        simp only [Lit.wf, Bool.and_eq_true, decide_eq_true_eq] at w0
        obtain ⟨a1, rfl, rfl, rfl, w1⟩ := open_int Try.underlying5 (hval 1 5 v1 rfl rfl) h1
        simp only [Lit.wf, Bool.and_eq_true, decide_eq_true_eq] at w1
        obtain ⟨fuel, h⟩ := hm a0 a1 w0 w1
        refine (ok4 fuel (S := nob) (fun _ h => h.elim) (p0 := a0) (p1 := a1)  h).mono ?_
        rintro e w1 ⟨v, rfl, hb, hp⟩
        exact ⟨by rw [show v = .bool true from hp], hb⟩)
end Go.Proofs.Ytinehfaelciljaa
