/- The frame of a law: from what a row reads to the walk. Its conditions: none. -/
import Derived.Test.YtjkoiijpmiibpaaGreatRows
import Derived.Test.YtjkoiijpmiibpaaGreatRd
import Derived.Test.YtjkoiijpmiibpaaGreatDAllocTells
import Derived.Test.YtjkoiijpmiibpaaGreatWl
set_option maxRecDepth 100000
set_option autoImplicit false
set_option linter.unusedVariables false
namespace Go.Proofs.YtjkoiijpmiibpaaGreat
open Go.V Go.RowKit Go.ChangeShapes Go.WideShapes Go.ChangeAt
theorem frameAllocTells (hm : AllocTellsLaw) : Rows.AllocTellsSaid :=
  OpenClaim.holds_of_wide 3 Tryz.f3 rfl rfl rfl rfl rfl rfl rfl ⟨rfl, rfl, rfl, rfl, rfl⟩ rfl rfl rfl rfl rfl (by kernel_rfl) Tryz.func3 (by kernel_rfl)
    (of_decide_eq_true (by kernel_rfl)) (by unfold Func.isWrapper; first | (rw [if_pos (by decide +kernel)]; kernel_rfl) | (rw [if_neg (by decide +kernel)]; exact ⟨rfl, rfl⟩))
    (fun os started H enc _ => by
      refine law_lift (s := Rows.allocTellsSpec) (C := Tryz.checked) (by kernel_rfl) started (by kernel_rfl) Tryz.func3 (by kernel_rfl) rfl Tryz.underlying4 rfl (by kernel_rfl)
        (ChangeSpec.witness6 (enc := enc) (C := Tryz.checked) false ⟨#[], #[.agg #[.int .i64 0, .int .i64 0, .slice none 0 0, .slice none 0 0], .agg #[.int .i64 0, .int .i64 0, .slice none 0 0, .slice none 0 0], .slice none 0 0], []⟩ 8 (by kernel_rfl) (by kernel_rfl) (by kernel_rfl) (by kernel_rfl)) ?_ ?_
      · intro W args ds p hA
        rw [Tryz.params3] at hA
        obtain ⟨v0, vs0, d0, ds0, p0, q0, hargs, rfl, rfl, h0, r0⟩ := trodAll_cons hA
        obtain ⟨v1, vs1, d1, ds1, p1, q1, rfl, rfl, rfl, h1, r1⟩ := trodAll_cons r0
        obtain ⟨v2, vs2, d2, ds2, p2, q2, rfl, rfl, rfl, h2, r2⟩ := trodAll_cons r1
        obtain ⟨rfl, rfl, rfl⟩ := trodAll_nil r2
        exact ⟨rfl, rfl, rfl⟩
      · intro W base args ds p hval hA hlt hsz
        rw [Tryz.params3] at hval hsz
        rw [Tryz.params3] at hA
        obtain ⟨v0, vs0, d0, ds0, p0, q0, hargs, rfl, rfl, h0, r0⟩ := trodAll_cons hA
        obtain ⟨v1, vs1, d1, ds1, p1, q1, rfl, rfl, rfl, h1, r1⟩ := trodAll_cons r0
        obtain ⟨v2, vs2, d2, ds2, p2, q2, rfl, rfl, rfl, h2, r2⟩ := trodAll_cons r1
        obtain ⟨rfl, rfl, rfl⟩ := trodAll_nil r2
        obtain rfl : args = #[v0, v1, v2] := by cases args; simp_all
        obtain ⟨g0, hg0⟩ := h0
        obtain ⟨x0, he0, wf0⟩ := rd25.get hg0 (fun x hx => hlt x (by simp [hx]))
        obtain ⟨A0_0, c0_0, A0_1, c0_1, he0, hs0_0, hs0_1⟩ := he0
        obtain rfl : v0 = .agg #[.int .i64 x0.Tags, .int .i64 x0.Regs, .slice A0_0 x0.Class.length c0_0, .slice A0_1 x0.Stands.length c0_1] := okWide_agg Tryz.underlying25 (hval 0 25 v0 rfl rfl) he0
        obtain ⟨g1, hg1⟩ := h1
        obtain ⟨x1, he1, wf1⟩ := rd25.get hg1 (fun x hx => hlt x (by simp [hx]))
        obtain ⟨A1_0, c1_0, A1_1, c1_1, he1, hs1_0, hs1_1⟩ := he1
        obtain rfl : v1 = .agg #[.int .i64 x1.Tags, .int .i64 x1.Regs, .slice A1_0 x1.Class.length c1_0, .slice A1_1 x1.Stands.length c1_1] := okWide_agg Tryz.underlying25 (hval 1 25 v1 rfl rfl) he1
        obtain ⟨A2, n2, c2, rfl⟩ := okWide_slice Tryz.underlying26 (hval 2 26 v2 rfl rfl)
        obtain ⟨g2, hg2⟩ := h2
        obtain ⟨x2, ⟨A2_, c2_, he2, hs2⟩, wf2⟩ := rd26.get hg2 (fun x hx => hlt x (by simp [hx]))
        obtain ⟨rfl, rfl, rfl⟩ : A2 = A2_ ∧ n2 = x2.length ∧ c2 = c2_ := by simpa [Value.cells] using he2
        have l2 := top_len Tryz.underlying26 hg2 hsz (j := 2) rfl rfl
        rw [show Tryz.prog.bytesOf 5 = 1 from by kernel_rfl] at l2
        obtain ⟨fuel, h⟩ := hm x0 x1 x2 wf0 wf1 wf2 l2
        refine (ok3 fuel (S := nob) (fun _ h => h.elim) (p0 := x0) (p1 := x1) (p2 := x2) hs0_0 hs0_1 hs1_0 hs1_1 hs2 h).mono ?_
        rintro e w1 ⟨v, rfl, hb, hp⟩
        exact ⟨by rw [show v = .bool true from hp], hb⟩)
end Go.Proofs.YtjkoiijpmiibpaaGreat
