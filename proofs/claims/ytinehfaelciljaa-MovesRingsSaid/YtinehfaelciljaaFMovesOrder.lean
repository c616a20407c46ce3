/- The frame of a law: from what a row reads to the walk. Its conditions: none. -/
import Derived.Test.YtinehfaelciljaaRows
import Derived.Test.YtinehfaelciljaaRd
import Derived.Test.YtinehfaelciljaaDMovesOrder
import Derived.Test.YtinehfaelciljaaWd
set_option maxRecDepth 100000
set_option autoImplicit false
set_option linter.unusedVariables false
namespace Go.Proofs.Ytinehfaelciljaa
open Go.V Go.RowKit Go.ChangeShapes Go.WideShapes Go.ChangeAt
theorem frameMovesOrder (hm : MovesOrderLaw) : Rows.MovesOrderSaid :=
  OpenClaim.holds_of_wide 3 Try.f3 rfl rfl rfl rfl rfl rfl rfl ⟨rfl, rfl, rfl, rfl, rfl⟩ rfl rfl rfl rfl rfl (by kernel_rfl) Try.func3 (by kernel_rfl)
    (of_decide_eq_true (by kernel_rfl)) (by unfold Func.isWrapper; first | (rw [if_pos (by decide +kernel)]; kernel_rfl) | (rw [if_neg (by decide +kernel)]; exact ⟨rfl, rfl⟩))
    (fun os started H enc _ => by
      refine law_lift (s := Rows.movesOrderSpec) (C := Try.checked) (by kernel_rfl) started (by kernel_rfl) Try.func3 (by kernel_rfl) rfl Try.underlying4 rfl (by kernel_rfl)
        (ChangeSpec.witness6 (enc := enc) (C := Try.checked) false ⟨#[], #[.slice none 0 0, .int .i64 0, .slice none 0 0], []⟩ 8 (by kernel_rfl) (by kernel_rfl) (by kernel_rfl) (by kernel_rfl)) ?_ ?_
      · intro W args ds p hA
        rw [Try.params3] at hA
        obtain ⟨v0, vs0, d0, ds0, p0, q0, hargs, rfl, rfl, h0, r0⟩ := trodAll_cons hA
        obtain ⟨v1, vs1, d1, ds1, p1, q1, rfl, rfl, rfl, h1, r1⟩ := trodAll_cons r0
        obtain ⟨v2, vs2, d2, ds2, p2, q2, rfl, rfl, rfl, h2, r2⟩ := trodAll_cons r1
        obtain ⟨rfl, rfl, rfl⟩ := trodAll_nil r2
        exact ⟨rfl, rfl, rfl⟩
      · intro W base args ds p hval hA hlt hsz
        rw [Try.params3] at hval hsz
        rw [Try.params3] at hA
        obtain ⟨v0, vs0, d0, ds0, p0, q0, hargs, rfl, rfl, h0, r0⟩ := trodAll_cons hA
        obtain ⟨v1, vs1, d1, ds1, p1, q1, rfl, rfl, rfl, h1, r1⟩ := trodAll_cons r0
        obtain ⟨v2, vs2, d2, ds2, p2, q2, rfl, rfl, rfl, h2, r2⟩ := trodAll_cons r1
        obtain ⟨rfl, rfl, rfl⟩ := trodAll_nil r2
        obtain rfl : args = #[v0, v1, v2] := by cases args; simp_all
        obtain ⟨A0, n0, c0, rfl⟩ := okWide_slice Try.underlying22 (hval 0 22 v0 rfl rfl)
        obtain ⟨g0, hg0⟩ := h0
        obtain ⟨x0, ⟨A0_, c0_, he0, hs0⟩, wf0⟩ := rd22.get hg0 (fun x hx => hlt x (by simp [hx]))
        obtain ⟨rfl, rfl, rfl⟩ : A0 = A0_ ∧ n0 = x0.length ∧ c0 = c0_ := by simpa [Value.cells] using he0
        have l0 := top_len Try.underlying22 hg0 hsz (j := 0) rfl rfl
        rw [show Try.prog.bytesOf 33 = 16 from by kernel_rfl] at l0
        obtain ⟨a1, rfl, rfl, rfl, w1⟩ := open_int Try.underlying3 (hval 1 3 v1 rfl rfl) h1
        simp only [Lit.wf, Bool.and_eq_true, decide_eq_true_eq] at w1
        obtain ⟨A2, n2, c2, rfl⟩ := okWide_slice Try.underlying23 (hval 2 23 v2 rfl rfl)
        obtain ⟨g2, hg2⟩ := h2
        obtain ⟨x2, ⟨A2_, c2_, he2, hs2⟩, wf2⟩ := rd23.get hg2 (fun x hx => hlt x (by simp [hx]))
        obtain ⟨rfl, rfl, rfl⟩ : A2 = A2_ ∧ n2 = x2.length ∧ c2 = c2_ := by simpa [Value.cells] using he2
        have l2 := top_len Try.underlying23 hg2 hsz (j := 2) rfl rfl
        rw [show Try.prog.bytesOf 3 = 8 from by kernel_rfl] at l2
        obtain ⟨fuel, h⟩ := hm x0 a1 x2 wf0 l0 w1 wf2 l2
        refine (ok3 fuel (S := nob) (fun _ h => h.elim) (p0 := x0) (p1 := a1) (p2 := x2) hs0 hs2 h).mono ?_
        rintro e w1 ⟨v, rfl, hb, hp⟩
        exact ⟨by rw [show v = .bool true from hp], hb⟩)
end Go.Proofs.Ytinehfaelciljaa
