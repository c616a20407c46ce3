/- What a row reads is what the walks take. Its conditions: none. -/
import Derived.Test.YtfhehbfifffipaaVRow
import Derived.Test.YtfhehbfifffipaaTy
set_option maxRecDepth 100000
set_option autoImplicit false
set_option linter.unusedVariables false
namespace Go.Proofs.Ytfhehbfifffipaa
open Go.V Go.RowKit Go.ChangeShapes Go.WideShapes Go.ChangeAt
def wfTerm (x : MTerm) : Prop := (inK .i64) x.Kind ∧ (inK .i64) x.A ∧ (inK .i64) x.B ∧ (inK .i64) x.N ∧ (x.Set.length = 4 ∧ ∀ y ∈ x.Set, inK .u64 y)
theorem rd42 : Rd Try.prog 42 tTerm wfTerm := ⟨by
  intro H enc W sp held fuel cs d ps h hp
  obtain ⟨hl, hf⟩ := struct_get Try.underlying42 h hp
  have hl : cs.length = 8 := hl.trans (by kernel_rfl)
  obtain ⟨x0, h0, w0⟩ := Rd.field (Rd.int Try.underlying3) (hf 0 _ rfl)
  have k0 := cell1 (off := 0) (by kernel_rfl) h0
  obtain ⟨x1, h1, w1⟩ := Rd.field (Rd.int Try.underlying3) (hf 1 _ rfl)
  have k1 := cell1 (off := 1) (by kernel_rfl) h1
  obtain ⟨x2, h2, w2⟩ := Rd.field (Rd.int Try.underlying3) (hf 2 _ rfl)
  have k2 := cell1 (off := 2) (by kernel_rfl) h2
  obtain ⟨x3, h3, w3⟩ := Rd.field (Rd.int Try.underlying3) (hf 3 _ rfl)
  have k3 := cell1 (off := 3) (by kernel_rfl) h3
  obtain ⟨n4, e4, q4, g4, _⟩ := hf 4 _ rfl
  obtain ⟨a4, b4, c4, d4, h4, wa4, wb4, wc4, wd4⟩ := arr4_get Try.underlying40 Try.underlying38 (by kernel_rfl) (by kernel_rfl) g4
  obtain ⟨k4, l4, m4, o4⟩ := cell4 (off := 4) (by kernel_rfl) h4
  have h9 : ∃ z0 z1 z2 z3 z4 z5 z6 z7, cs = [z0, z1, z2, z3, z4, z5, z6, z7] := by match cs, hl with | [z0, z1, z2, z3, z4, z5, z6, z7], _ => exact ⟨z0, z1, z2, z3, z4, z5, z6, z7, rfl⟩
  obtain ⟨z0, z1, z2, z3, z4, z5, z6, z7, rfl⟩ := h9
  simp only [List.getElem?_cons_zero, List.getElem?_cons_succ, Option.some.injEq, Nat.reduceAdd] at k0 k1 k2 k3 k4 l4 m4 o4
  subst k0
  subst k1
  subst k2
  subst k3
  subst k4
  subst l4
  subst m4
  subst o4
  exact ⟨⟨x0, x1, x2, x3, [a4, b4, c4, d4]⟩, ⟨rfl, rfl⟩, ⟨w0, w1, w2, w3, ⟨rfl, by simp only [List.mem_cons, List.not_mem_nil, or_false]; rintro y (rfl | rfl | rfl | rfl) <;> assumption⟩⟩⟩⟩
theorem rd22 : Rd Try.prog 22 (tSl tTerm) (fun l => ∀ x ∈ l, (wfTerm) x) := Rd.slice Try.underlying22 (by kernel_rfl) (by decide) rd42
theorem rd35 : Rd Try.prog 35 (tSl (tInt .u8)) (fun l => ∀ x ∈ l, (inK .u8) x) := Rd.slice Try.underlying35 (by kernel_rfl) (by decide) (Rd.int Try.underlying5)
def wfEntry (x : MEntry) : Prop := (inK .i64) x.Depth ∧ (inK .i64) x.Node ∧ (inK .i64) x.From ∧ (inK .i64) x.To
theorem rd49 : Rd Try.prog 49 tEntry wfEntry := ⟨by
  intro H enc W sp held fuel cs d ps h hp
  obtain ⟨hl, hf⟩ := struct_get Try.underlying49 h hp
  have hl : cs.length = 4 := hl.trans (by kernel_rfl)
  obtain ⟨x0, h0, w0⟩ := Rd.field (Rd.int Try.underlying3) (hf 0 _ rfl)
  have k0 := cell1 (off := 0) (by kernel_rfl) h0
  obtain ⟨x1, h1, w1⟩ := Rd.field (Rd.int Try.underlying3) (hf 1 _ rfl)
  have k1 := cell1 (off := 1) (by kernel_rfl) h1
  obtain ⟨x2, h2, w2⟩ := Rd.field (Rd.int Try.underlying3) (hf 2 _ rfl)
  have k2 := cell1 (off := 2) (by kernel_rfl) h2
  obtain ⟨x3, h3, w3⟩ := Rd.field (Rd.int Try.underlying3) (hf 3 _ rfl)
  have k3 := cell1 (off := 3) (by kernel_rfl) h3
  have h9 : ∃ z0 z1 z2 z3, cs = [z0, z1, z2, z3] := by match cs, hl with | [z0, z1, z2, z3], _ => exact ⟨z0, z1, z2, z3, rfl⟩
  obtain ⟨z0, z1, z2, z3, rfl⟩ := h9
  simp only [List.getElem?_cons_zero, List.getElem?_cons_succ, Option.some.injEq] at k0 k1 k2 k3
  subst k0
  subst k1
  subst k2
  subst k3
  exact ⟨⟨x0, x1, x2, x3⟩, rfl, ⟨w0, w1, w2, w3⟩⟩⟩
theorem rd43 : Rd Try.prog 43 (tSl tEntry) (fun l => ∀ x ∈ l, (wfEntry) x) := Rd.slice Try.underlying43 (by kernel_rfl) (by decide) rd49
theorem rd25 : Rd Try.prog 25 (tSl (tInt .i64)) (fun l => ∀ x ∈ l, (inK .i64) x) := Rd.slice Try.underlying25 (by kernel_rfl) (by decide) (Rd.int Try.underlying3)
def wfGimletlaw18Two (x : MGimletlaw18Two) : Prop := (fun l => ∀ x ∈ l, (inK .i64) x) x.A ∧ (fun l => ∀ x ∈ l, (inK .i64) x) x.B
theorem rd63 : Rd Try.prog 63 tGimletlaw18Two wfGimletlaw18Two := ⟨by
  intro H enc W sp held fuel cs d ps h hp
  obtain ⟨hl, hf⟩ := struct_get Try.underlying63 h hp
  have hl : cs.length = 2 := hl.trans (by kernel_rfl)
  obtain ⟨x0, h0, w0⟩ := Rd.field rd25 (hf 0 _ rfl)
  obtain ⟨A0, s0, h0, t0⟩ := h0
  have k0 := cell1 (off := 0) (by kernel_rfl) h0
  obtain ⟨x1, h1, w1⟩ := Rd.field rd25 (hf 1 _ rfl)
  obtain ⟨A1, s1, h1, t1⟩ := h1
  have k1 := cell1 (off := 1) (by kernel_rfl) h1
  have h9 : ∃ z0 z1, cs = [z0, z1] := by match cs, hl with | [z0, z1], _ => exact ⟨z0, z1, rfl⟩
  obtain ⟨z0, z1, rfl⟩ := h9
  simp only [List.getElem?_cons_zero, List.getElem?_cons_succ, Option.some.injEq] at k0 k1
  subst k0
  subst k1
  exact ⟨⟨x0, x1⟩, ⟨A0, s0, A1, s1, rfl, t0, t1⟩, ⟨w0, w1⟩⟩⟩
end Go.Proofs.Ytfhehbfifffipaa
