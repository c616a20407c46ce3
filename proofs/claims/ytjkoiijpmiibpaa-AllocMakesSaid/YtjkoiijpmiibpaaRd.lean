/- What a row reads is what the walks take. Its conditions: none. -/
import Derived.Test.YtjkoiijpmiibpaaVRow
import Derived.Test.YtjkoiijpmiibpaaTy
set_option maxRecDepth 100000
set_option autoImplicit false
set_option linter.unusedVariables false
namespace Go.Proofs.Ytjkoiijpmiibpaa
open Go.V Go.RowKit Go.ChangeShapes Go.WideShapes Go.ChangeAt
theorem rd22 : Rd Try.prog 22 (tSl (tInt .i64)) (fun l => ∀ x ∈ l, (inK .i64) x) := Rd.slice Try.underlying22 (by kernel_rfl) (by decide) (Rd.int Try.underlying3)
def wfEdge (x : MEdge) : Prop := (inK .i64) x.To ∧ (fun l => ∀ x ∈ l, (inK .i64) x) x.Src
theorem rd46 : Rd Try.prog 46 tEdge wfEdge := ⟨by
  intro H enc W sp held fuel cs d ps h hp
  obtain ⟨hl, hf⟩ := struct_get Try.underlying46 h hp
  have hl : cs.length = 2 := hl.trans (by kernel_rfl)
  obtain ⟨x0, h0, w0⟩ := Rd.field (Rd.int Try.underlying3) (hf 0 _ rfl)
  have k0 := cell1 (off := 0) (by kernel_rfl) h0
  obtain ⟨x1, h1, w1⟩ := Rd.field rd22 (hf 1 _ rfl)
  obtain ⟨A1, s1, h1, t1⟩ := h1
  have k1 := cell1 (off := 1) (by kernel_rfl) h1
  have h9 : ∃ z0 z1, cs = [z0, z1] := by match cs, hl with | [z0, z1], _ => exact ⟨z0, z1, rfl⟩
  obtain ⟨z0, z1, rfl⟩ := h9
  simp only [List.getElem?_cons_zero, List.getElem?_cons_succ, Option.some.injEq] at k0 k1
  subst k0
  subst k1
  exact ⟨⟨x0, x1⟩, ⟨A1, s1, rfl, t1⟩, ⟨w0, w1⟩⟩⟩
theorem rd39 : Rd Try.prog 39 (tSl tEdge) (fun l => ∀ x ∈ l, (wfEdge) x) := Rd.slice Try.underlying39 (by kernel_rfl) (by decide) rd46
def wfState (x : MState) : Prop := (inK .i64) x.Regs ∧ (fun l => ∀ x ∈ l, (inK .i64) x) x.Accept ∧ (fun l => ∀ x ∈ l, (wfEdge) x) x.Edges
theorem rd41 : Rd Try.prog 41 tState wfState := ⟨by
  intro H enc W sp held fuel cs d ps h hp
  obtain ⟨hl, hf⟩ := struct_get Try.underlying41 h hp
  have hl : cs.length = 3 := hl.trans (by kernel_rfl)
  obtain ⟨x0, h0, w0⟩ := Rd.field (Rd.int Try.underlying3) (hf 0 _ rfl)
  have k0 := cell1 (off := 0) (by kernel_rfl) h0
  obtain ⟨x1, h1, w1⟩ := Rd.field rd22 (hf 1 _ rfl)
  obtain ⟨A1, s1, h1, t1⟩ := h1
  have k1 := cell1 (off := 1) (by kernel_rfl) h1
  obtain ⟨x2, h2, w2⟩ := Rd.field rd39 (hf 2 _ rfl)
  obtain ⟨A2, s2, h2, t2⟩ := h2
  have k2 := cell1 (off := 2) (by kernel_rfl) h2
  have h9 : ∃ z0 z1 z2, cs = [z0, z1, z2] := by match cs, hl with | [z0, z1, z2], _ => exact ⟨z0, z1, z2, rfl⟩
  obtain ⟨z0, z1, z2, rfl⟩ := h9
  simp only [List.getElem?_cons_zero, List.getElem?_cons_succ, Option.some.injEq] at k0 k1 k2
  subst k0
  subst k1
  subst k2
  exact ⟨⟨x0, x1, x2⟩, ⟨A1, s1, A2, s2, rfl, t1, t2⟩, ⟨w0, w1, w2⟩⟩⟩
theorem rd23 : Rd Try.prog 23 (tSl tState) (fun l => ∀ x ∈ l, (wfState) x) := Rd.slice Try.underlying23 (by kernel_rfl) (by decide) rd41
def wfDfa (x : MDfa) : Prop := (inK .i64) x.Tags ∧ (fun l => ∀ x ∈ l, (inK .i64) x) x.Class ∧ (fun l => ∀ x ∈ l, (wfState) x) x.States
theorem rd25 : Rd Try.prog 25 tDfa wfDfa := ⟨by
  intro H enc W sp held fuel cs d ps h hp
  obtain ⟨hl, hf⟩ := struct_get Try.underlying25 h hp
  have hl : cs.length = 3 := hl.trans (by kernel_rfl)
  obtain ⟨x0, h0, w0⟩ := Rd.field (Rd.int Try.underlying3) (hf 0 _ rfl)
  have k0 := cell1 (off := 0) (by kernel_rfl) h0
  obtain ⟨x1, h1, w1⟩ := Rd.field rd22 (hf 1 _ rfl)
  obtain ⟨A1, s1, h1, t1⟩ := h1
  have k1 := cell1 (off := 1) (by kernel_rfl) h1
  obtain ⟨x2, h2, w2⟩ := Rd.field rd23 (hf 2 _ rfl)
  obtain ⟨A2, s2, h2, t2⟩ := h2
  have k2 := cell1 (off := 2) (by kernel_rfl) h2
  have h9 : ∃ z0 z1 z2, cs = [z0, z1, z2] := by match cs, hl with | [z0, z1, z2], _ => exact ⟨z0, z1, z2, rfl⟩
  obtain ⟨z0, z1, z2, rfl⟩ := h9
  simp only [List.getElem?_cons_zero, List.getElem?_cons_succ, Option.some.injEq] at k0 k1 k2
  subst k0
  subst k1
  subst k2
  exact ⟨⟨x0, x1, x2⟩, ⟨A1, s1, A2, s2, rfl, t1, t2⟩, ⟨w0, w1, w2⟩⟩⟩
end Go.Proofs.Ytjkoiijpmiibpaa
