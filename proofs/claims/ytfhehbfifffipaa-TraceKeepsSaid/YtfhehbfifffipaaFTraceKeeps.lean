/- The frame of a law: from what a row reads to the walk. Its conditions: none. -/
import Derived.Test.YtfhehbfifffipaaRows
import Derived.Test.YtfhehbfifffipaaRd
import Derived.Test.YtfhehbfifffipaaDTraceKeeps
import Derived.Test.YtfhehbfifffipaaWba
set_option maxRecDepth 100000
set_option autoImplicit false
set_option linter.unusedVariables false
namespace Go.Proofs.Ytfhehbfifffipaa
open Go.V Go.RowKit Go.ChangeShapes Go.WideShapes Go.ChangeAt
theorem frameTraceKeeps (hm : TraceKeepsLaw) : Rows.TraceKeepsSaid :=
  OpenClaim.holds_of_wide 9 Try.f9 rfl rfl rfl rfl rfl rfl rfl ⟨rfl, rfl, rfl, rfl, rfl⟩ rfl rfl rfl rfl rfl (by kernel_rfl) Try.func9 (by kernel_rfl)
    (of_decide_eq_true (by kernel_rfl)) (by unfold Func.isWrapper; first | (rw [if_pos (by decide +kernel)]; kernel_rfl) | (rw [if_neg (by decide +kernel)]; exact ⟨rfl, rfl⟩))
    (fun os started H enc _ => by
      refine law_lift (s := Rows.traceKeepsSpec) (C := Try.checked) (by kernel_rfl) started (by kernel_rfl) Try.func9 (by kernel_rfl) rfl Try.underlying4 rfl (by kernel_rfl)
        (ChangeSpec.witness6 (enc := enc) (C := Try.checked) false ⟨#[], #[.slice none 0 0, .agg #[.slice none 0 0, .slice none 0 0], .slice none 0 0], []⟩ 8 (by kernel_rfl) (by kernel_rfl) (by kernel_rfl) (by kernel_rfl)) ?_ ?_
      · intro W args ds p hA
        rw [Try.params9] at hA
        obtain ⟨v0, vs0, d0, ds0, p0, q0, hargs, rfl, rfl, h0, r0⟩ := trodAll_cons hA
        obtain ⟨v1, vs1, d1, ds1, p1, q1, rfl, rfl, rfl, h1, r1⟩ := trodAll_cons r0
        obtain ⟨v2, vs2, d2, ds2, p2, q2, rfl, rfl, rfl, h2, r2⟩ := trodAll_cons r1
        obtain ⟨rfl, rfl, rfl⟩ := trodAll_nil r2
        exact ⟨rfl, rfl, rfl⟩
      · intro W base args ds p hval hA hlt hsz
        rw [Try.params9] at hval hsz
        rw [Try.params9] at hA
        obtain ⟨v0, vs0, d0, ds0, p0, q0, hargs, rfl, rfl, h0, r0⟩ := trodAll_cons hA
        obtain ⟨v1, vs1, d1, ds1, p1, q1, rfl, rfl, rfl, h1, r1⟩ := trodAll_cons r0
        obtain ⟨v2, vs2, d2, ds2, p2, q2, rfl, rfl, rfl, h2, r2⟩ := trodAll_cons r1
        obtain ⟨rfl, rfl, rfl⟩ := trodAll_nil r2
        obtain rfl : args = #[v0, v1, v2] := by cases args; simp_all
        obtain ⟨A0, n0, c0, rfl⟩ := okWide_slice Try.underlying22 (hval 0 22 v0 rfl rfl)
        obtain ⟨g0, hg0⟩ := h0
        obtain ⟨x0, ⟨A0_, c0_, he0, hs0⟩, wf0⟩ := rd22.get hg0 (fun x hx => hlt x (by simp [hx]))
        obtain ⟨rfl, rfl, rfl⟩ : A0 = A0_ ∧ n0 = x0.length ∧ c0 = c0_ := by simpa [Value.cells] using he0
        have l0 := top_len Try.underlying22 hg0 hsz (j := 0) rfl rfl
        rw [show Try.prog.bytesOf 42 = 64 from by kernel_rfl] at l0
        obtain ⟨g1, hg1⟩ := h1
        obtain ⟨x1, he1, wf1⟩ := rd63.get hg1 (fun x hx => hlt x (by simp [hx]))
        obtain ⟨A1_0, c1_0, A1_1, c1_1, he1, hs1_0, hs1_1⟩ := he1
        obtain rfl : v1 = .agg #[.slice A1_0 x1.A.length c1_0, .slice A1_1 x1.B.length c1_1] := okWide_agg Try.underlying63 (hval 1 63 v1 rfl rfl) he1
        obtain ⟨A2, n2, c2, rfl⟩ := okWide_slice Try.underlying25 (hval 2 25 v2 rfl rfl)
        obtain ⟨g2, hg2⟩ := h2
        obtain ⟨x2, ⟨A2_, c2_, he2, hs2⟩, wf2⟩ := rd25.get hg2 (fun x hx => hlt x (by simp [hx]))
        obtain ⟨rfl, rfl, rfl⟩ : A2 = A2_ ∧ n2 = x2.length ∧ c2 = c2_ := by simpa [Value.cells] using he2
        have l2 := top_len Try.underlying25 hg2 hsz (j := 2) rfl rfl
        rw [show Try.prog.bytesOf 3 = 8 from by kernel_rfl] at l2
        obtain ⟨fuel, h⟩ := hm x0 x1 x2 wf0 l0 wf1 wf2 l2
        refine (ok9 fuel (S := nob) (fun _ h => h.elim) (p0 := x0) (p1 := x1) (p2 := x2) hs0 hs1_0 hs1_1 hs2 h).mono ?_
        rintro e w1 ⟨v, rfl, hb, hp⟩
        exact ⟨by rw [show v = .bool true from hp], hb⟩)
end Go.Proofs.Ytfhehbfifffipaa
