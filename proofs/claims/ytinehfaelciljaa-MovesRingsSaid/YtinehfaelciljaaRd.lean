/- What a row reads is what the walks take. Its conditions: none. -/
import Derived.Test.YtinehfaelciljaaVRow
import Derived.Test.YtinehfaelciljaaTy
set_option maxRecDepth 100000
set_option autoImplicit false
set_option linter.unusedVariables false
namespace Go.Proofs.Ytinehfaelciljaa
open Go.V Go.RowKit Go.ChangeShapes Go.WideShapes Go.ChangeAt
def wfMove (x : MMove) : Prop := (inK .i64) x.To ∧ (inK .i64) x.From
theorem rd33 : Rd Try.prog 33 tMove wfMove := ⟨by
  intro H enc W sp held fuel cs d ps h hp
  obtain ⟨hl, hf⟩ := struct_get Try.underlying33 h hp
  have hl : cs.length = 2 := hl.trans (by kernel_rfl)
  obtain ⟨x0, h0, w0⟩ := Rd.field (Rd.int Try.underlying3) (hf 0 _ rfl)
  have k0 := cell1 (off := 0) (by kernel_rfl) h0
  obtain ⟨x1, h1, w1⟩ := Rd.field (Rd.int Try.underlying3) (hf 1 _ rfl)
  have k1 := cell1 (off := 1) (by kernel_rfl) h1
  have h9 : ∃ z0 z1, cs = [z0, z1] := by match cs, hl with | [z0, z1], _ => exact ⟨z0, z1, rfl⟩
  obtain ⟨z0, z1, rfl⟩ := h9
  simp only [List.getElem?_cons_zero, List.getElem?_cons_succ, Option.some.injEq] at k0 k1
  subst k0
  subst k1
  exact ⟨⟨x0, x1⟩, rfl, ⟨w0, w1⟩⟩⟩
theorem rd22 : Rd Try.prog 22 (tSl tMove) (fun l => ∀ x ∈ l, (wfMove) x) := Rd.slice Try.underlying22 (by kernel_rfl) (by decide) rd33
theorem rd23 : Rd Try.prog 23 (tSl (tInt .i64)) (fun l => ∀ x ∈ l, (inK .i64) x) := Rd.slice Try.underlying23 (by kernel_rfl) (by decide) (Rd.int Try.underlying3)
end Go.Proofs.Ytinehfaelciljaa
