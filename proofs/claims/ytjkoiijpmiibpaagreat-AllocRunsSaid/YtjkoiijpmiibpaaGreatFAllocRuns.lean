/- The frame of a law: from what a row reads to the walk. Its conditions: none. -/
import Derived.Test.YtjkoiijpmiibpaaGreatRows
import Derived.Test.YtjkoiijpmiibpaaGreatRd
import Derived.Test.YtjkoiijpmiibpaaGreatDAllocRuns
import Derived.Test.YtjkoiijpmiibpaaGreatWq
set_option maxRecDepth 100000
set_option autoImplicit false
set_option linter.unusedVariables false
namespace Go.Proofs.YtjkoiijpmiibpaaGreat
open Go.V Go.RowKit Go.ChangeShapes Go.WideShapes Go.ChangeAt
theorem frameAllocRuns (hm : AllocRunsLaw) : Rows.AllocRunsSaid :=
  OpenClaim.holds_of_wide 4 Tryz.f4 rfl rfl rfl rfl rfl rfl rfl ⟨rfl, rfl, rfl, rfl, rfl⟩ rfl rfl rfl rfl rfl (by kernel_rfl) Tryz.func4 (by kernel_rfl)
    (of_decide_eq_true (by kernel_rfl)) (by unfold Func.isWrapper; first | (rw [if_pos (by decide +kernel)]; kernel_rfl) | (rw [if_neg (by decide +kernel)]; exact ⟨rfl, rfl⟩))
    (fun os started H enc _ => by
      refine law_lift (s := Rows.allocRunsSpec) (C := Tryz.checked) (by kernel_rfl) started (by kernel_rfl) Tryz.func4 (by kernel_rfl) rfl Tryz.underlying4 rfl (by kernel_rfl)
        (ChangeSpec.witness6 (enc := enc) (C := Tryz.checked) false ⟨#[], #[.agg #[.int .i64 0, .slice none 0 0, .slice none 0 0], .slice none 0 0], []⟩ 8 (by kernel_rfl) (by kernel_rfl) (by kernel_rfl) (by kernel_rfl)) ?_ ?_
      · intro W args ds p hA
        rw [Tryz.params4] at hA
        obtain ⟨v0, vs0, d0, ds0, p0, q0, hargs, rfl, rfl, h0, r0⟩ := trodAll_cons hA
        obtain ⟨v1, vs1, d1, ds1, p1, q1, rfl, rfl, rfl, h1, r1⟩ := trodAll_cons r0
        obtain ⟨rfl, rfl, rfl⟩ := trodAll_nil r1
        exact ⟨rfl, rfl, rfl⟩
      · intro W base args ds p hval hA hlt hsz
        rw [Tryz.params4] at hval hsz
        rw [Tryz.params4] at hA
        obtain ⟨v0, vs0, d0, ds0, p0, q0, hargs, rfl, rfl, h0, r0⟩ := trodAll_cons hA
        obtain ⟨v1, vs1, d1, ds1, p1, q1, rfl, rfl, rfl, h1, r1⟩ := trodAll_cons r0
        obtain ⟨rfl, rfl, rfl⟩ := trodAll_nil r1
        obtain rfl : args = #[v0, v1] := by cases args; simp_all
        obtain ⟨g0, hg0⟩ := h0
        obtain ⟨x0, he0, wf0⟩ := rd55.get hg0 (fun x hx => hlt x (by simp [hx]))
        obtain ⟨A0_0, c0_0, A0_1, c0_1, he0, hs0_0, hs0_1⟩ := he0
        obtain rfl : v0 = .agg #[.int .i64 x0.Tags, .slice A0_0 x0.Class.length c0_0, .slice A0_1 x0.States.length c0_1] := okWide_agg Tryz.underlying55 (hval 0 55 v0 rfl rfl) he0
        obtain ⟨A1, n1, c1, rfl⟩ := okWide_slice Tryz.underlying26 (hval 1 26 v1 rfl rfl)
        obtain ⟨g1, hg1⟩ := h1
        obtain ⟨x1, ⟨A1_, c1_, he1, hs1⟩, wf1⟩ := rd26.get hg1 (fun x hx => hlt x (by simp [hx]))
        obtain ⟨rfl, rfl, rfl⟩ : A1 = A1_ ∧ n1 = x1.length ∧ c1 = c1_ := by simpa [Value.cells] using he1
        have l1 := top_len Tryz.underlying26 hg1 hsz (j := 1) rfl rfl
        rw [show Tryz.prog.bytesOf 5 = 1 from by kernel_rfl] at l1
        obtain ⟨fuel, h⟩ := hm x0 x1 wf0 wf1 l1
        refine (ok4 fuel (S := nob) (fun _ h => h.elim) (p0 := x0) (p1 := x1) hs0_0 hs0_1 hs1 h).mono ?_
        rintro e w1 ⟨v, rfl, hb, hp⟩
        exact ⟨by rw [show v = .bool true from hp], hb⟩)
end Go.Proofs.YtjkoiijpmiibpaaGreat
