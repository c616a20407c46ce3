/- What a row reads is what the walks take. Its conditions: none. -/
import Derived.Test.YtjkoiijpmiibpaaGreatVRow
import Derived.Test.YtjkoiijpmiibpaaGreatTy
set_option maxRecDepth 100000
set_option autoImplicit false
set_option linter.unusedVariables false
namespace Go.Proofs.YtjkoiijpmiibpaaGreat
open Go.V Go.RowKit Go.ChangeShapes Go.WideShapes Go.ChangeAt
theorem rd22 : Rd Tryz.prog 22 (tSl (tInt .i64)) (fun l => ∀ x ∈ l, (inK .i64) x) := Rd.slice Tryz.underlying22 (by kernel_rfl) (by decide) (Rd.int Tryz.underlying3)
def wfMove (x : MMove) : Prop := (inK .i64) x.To ∧ (inK .i64) x.From
theorem rd97 : Rd Tryz.prog 97 tMove wfMove := ⟨by
  intro H enc W sp held fuel cs d ps h hp
  obtain ⟨hl, hf⟩ := struct_get Tryz.underlying97 h hp
  have hl : cs.length = 2 := hl.trans (by kernel_rfl)
  obtain ⟨x0, h0, w0⟩ := Rd.field (Rd.int Tryz.underlying3) (hf 0 _ rfl)
  have k0 := cell1 (off := 0) (by kernel_rfl) h0
  obtain ⟨x1, h1, w1⟩ := Rd.field (Rd.int Tryz.underlying3) (hf 1 _ rfl)
  have k1 := cell1 (off := 1) (by kernel_rfl) h1
  have h9 : ∃ z0 z1, cs = [z0, z1] := by match cs, hl with | [z0, z1], _ => exact ⟨z0, z1, rfl⟩
  obtain ⟨z0, z1, rfl⟩ := h9
  simp only [List.getElem?_cons_zero, List.getElem?_cons_succ, Option.some.injEq] at k0 k1
  subst k0
  subst k1
  exact ⟨⟨x0, x1⟩, rfl, ⟨w0, w1⟩⟩⟩
theorem rd72 : Rd Tryz.prog 72 (tSl tMove) (fun l => ∀ x ∈ l, (wfMove) x) := Rd.slice Tryz.underlying72 (by kernel_rfl) (by decide) rd97
def wfWay (x : MWay) : Prop := (inK .i64) x.To ∧ (fun l => ∀ x ∈ l, (wfMove) x) x.Moves
theorem rd74 : Rd Tryz.prog 74 tWay wfWay := ⟨by
  intro H enc W sp held fuel cs d ps h hp
  obtain ⟨hl, hf⟩ := struct_get Tryz.underlying74 h hp
  have hl : cs.length = 2 := hl.trans (by kernel_rfl)
  obtain ⟨x0, h0, w0⟩ := Rd.field (Rd.int Tryz.underlying3) (hf 0 _ rfl)
  have k0 := cell1 (off := 0) (by kernel_rfl) h0
  obtain ⟨x1, h1, w1⟩ := Rd.field rd72 (hf 1 _ rfl)
  obtain ⟨A1, s1, h1, t1⟩ := h1
  have k1 := cell1 (off := 1) (by kernel_rfl) h1
  have h9 : ∃ z0 z1, cs = [z0, z1] := by match cs, hl with | [z0, z1], _ => exact ⟨z0, z1, rfl⟩
  obtain ⟨z0, z1, rfl⟩ := h9
  simp only [List.getElem?_cons_zero, List.getElem?_cons_succ, Option.some.injEq] at k0 k1
  subst k0
  subst k1
  exact ⟨⟨x0, x1⟩, ⟨A1, s1, rfl, t1⟩, ⟨w0, w1⟩⟩⟩
theorem rd45 : Rd Tryz.prog 45 (tSl tWay) (fun l => ∀ x ∈ l, (wfWay) x) := Rd.slice Tryz.underlying45 (by kernel_rfl) (by decide) rd74
def wfStand (x : MStand) : Prop := (fun l => ∀ x ∈ l, (inK .i64) x) x.Accept ∧ (fun l => ∀ x ∈ l, (wfWay) x) x.Ways
theorem rd47 : Rd Tryz.prog 47 tStand wfStand := ⟨by
  intro H enc W sp held fuel cs d ps h hp
  obtain ⟨hl, hf⟩ := struct_get Tryz.underlying47 h hp
  have hl : cs.length = 2 := hl.trans (by kernel_rfl)
  obtain ⟨x0, h0, w0⟩ := Rd.field rd22 (hf 0 _ rfl)
  obtain ⟨A0, s0, h0, t0⟩ := h0
  have k0 := cell1 (off := 0) (by kernel_rfl) h0
  obtain ⟨x1, h1, w1⟩ := Rd.field rd45 (hf 1 _ rfl)
  obtain ⟨A1, s1, h1, t1⟩ := h1
  have k1 := cell1 (off := 1) (by kernel_rfl) h1
  have h9 : ∃ z0 z1, cs = [z0, z1] := by match cs, hl with | [z0, z1], _ => exact ⟨z0, z1, rfl⟩
  obtain ⟨z0, z1, rfl⟩ := h9
  simp only [List.getElem?_cons_zero, List.getElem?_cons_succ, Option.some.injEq] at k0 k1
  subst k0
  subst k1
  exact ⟨⟨x0, x1⟩, ⟨A0, s0, A1, s1, rfl, t0, t1⟩, ⟨w0, w1⟩⟩⟩
theorem rd23 : Rd Tryz.prog 23 (tSl tStand) (fun l => ∀ x ∈ l, (wfStand) x) := Rd.slice Tryz.underlying23 (by kernel_rfl) (by decide) rd47
def wfProg (x : MProg) : Prop := (inK .i64) x.Tags ∧ (inK .i64) x.Regs ∧ (fun l => ∀ x ∈ l, (inK .i64) x) x.Class ∧ (fun l => ∀ x ∈ l, (wfStand) x) x.Stands
theorem rd25 : Rd Tryz.prog 25 tProg wfProg := ⟨by
  intro H enc W sp held fuel cs d ps h hp
  obtain ⟨hl, hf⟩ := struct_get Tryz.underlying25 h hp
  have hl : cs.length = 4 := hl.trans (by kernel_rfl)
  obtain ⟨x0, h0, w0⟩ := Rd.field (Rd.int Tryz.underlying3) (hf 0 _ rfl)
  have k0 := cell1 (off := 0) (by kernel_rfl) h0
  obtain ⟨x1, h1, w1⟩ := Rd.field (Rd.int Tryz.underlying3) (hf 1 _ rfl)
  have k1 := cell1 (off := 1) (by kernel_rfl) h1
  obtain ⟨x2, h2, w2⟩ := Rd.field rd22 (hf 2 _ rfl)
  obtain ⟨A2, s2, h2, t2⟩ := h2
  have k2 := cell1 (off := 2) (by kernel_rfl) h2
  obtain ⟨x3, h3, w3⟩ := Rd.field rd23 (hf 3 _ rfl)
  obtain ⟨A3, s3, h3, t3⟩ := h3
  have k3 := cell1 (off := 3) (by kernel_rfl) h3
  have h9 : ∃ z0 z1 z2 z3, cs = [z0, z1, z2, z3] := by match cs, hl with | [z0, z1, z2, z3], _ => exact ⟨z0, z1, z2, z3, rfl⟩
  obtain ⟨z0, z1, z2, z3, rfl⟩ := h9
  simp only [List.getElem?_cons_zero, List.getElem?_cons_succ, Option.some.injEq] at k0 k1 k2 k3
  subst k0
  subst k1
  subst k2
  subst k3
  exact ⟨⟨x0, x1, x2, x3⟩, ⟨A2, s2, A3, s3, rfl, t2, t3⟩, ⟨w0, w1, w2, w3⟩⟩⟩
theorem rd26 : Rd Tryz.prog 26 (tSl (tInt .u8)) (fun l => ∀ x ∈ l, (inK .u8) x) := Rd.slice Tryz.underlying26 (by kernel_rfl) (by decide) (Rd.int Tryz.underlying5)
def wfEdge (x : MEdge) : Prop := (inK .i64) x.To ∧ (fun l => ∀ x ∈ l, (inK .i64) x) x.Src
theorem rd104 : Rd Tryz.prog 104 tEdge wfEdge := ⟨by
  intro H enc W sp held fuel cs d ps h hp
  obtain ⟨hl, hf⟩ := struct_get Tryz.underlying104 h hp
  have hl : cs.length = 2 := hl.trans (by kernel_rfl)
  obtain ⟨x0, h0, w0⟩ := Rd.field (Rd.int Tryz.underlying3) (hf 0 _ rfl)
  have k0 := cell1 (off := 0) (by kernel_rfl) h0
  obtain ⟨x1, h1, w1⟩ := Rd.field rd22 (hf 1 _ rfl)
  obtain ⟨A1, s1, h1, t1⟩ := h1
  have k1 := cell1 (off := 1) (by kernel_rfl) h1
  have h9 : ∃ z0 z1, cs = [z0, z1] := by match cs, hl with | [z0, z1], _ => exact ⟨z0, z1, rfl⟩
  obtain ⟨z0, z1, rfl⟩ := h9
  simp only [List.getElem?_cons_zero, List.getElem?_cons_succ, Option.some.injEq] at k0 k1
  subst k0
  subst k1
  exact ⟨⟨x0, x1⟩, ⟨A1, s1, rfl, t1⟩, ⟨w0, w1⟩⟩⟩
theorem rd100 : Rd Tryz.prog 100 (tSl tEdge) (fun l => ∀ x ∈ l, (wfEdge) x) := Rd.slice Tryz.underlying100 (by kernel_rfl) (by decide) rd104
def wfState (x : MState) : Prop := (inK .i64) x.Regs ∧ (fun l => ∀ x ∈ l, (inK .i64) x) x.Accept ∧ (fun l => ∀ x ∈ l, (wfEdge) x) x.Edges
theorem rd102 : Rd Tryz.prog 102 tState wfState := ⟨by
  intro H enc W sp held fuel cs d ps h hp
  obtain ⟨hl, hf⟩ := struct_get Tryz.underlying102 h hp
  have hl : cs.length = 3 := hl.trans (by kernel_rfl)
  obtain ⟨x0, h0, w0⟩ := Rd.field (Rd.int Tryz.underlying3) (hf 0 _ rfl)
  have k0 := cell1 (off := 0) (by kernel_rfl) h0
  obtain ⟨x1, h1, w1⟩ := Rd.field rd22 (hf 1 _ rfl)
  obtain ⟨A1, s1, h1, t1⟩ := h1
  have k1 := cell1 (off := 1) (by kernel_rfl) h1
  obtain ⟨x2, h2, w2⟩ := Rd.field rd100 (hf 2 _ rfl)
  obtain ⟨A2, s2, h2, t2⟩ := h2
  have k2 := cell1 (off := 2) (by kernel_rfl) h2
  have h9 : ∃ z0 z1 z2, cs = [z0, z1, z2] := by match cs, hl with | [z0, z1, z2], _ => exact ⟨z0, z1, z2, rfl⟩
  obtain ⟨z0, z1, z2, rfl⟩ := h9
  simp only [List.getElem?_cons_zero, List.getElem?_cons_succ, Option.some.injEq] at k0 k1 k2
  subst k0
  subst k1
  subst k2
  exact ⟨⟨x0, x1, x2⟩, ⟨A1, s1, A2, s2, rfl, t1, t2⟩, ⟨w0, w1, w2⟩⟩⟩
theorem rd53 : Rd Tryz.prog 53 (tSl tState) (fun l => ∀ x ∈ l, (wfState) x) := Rd.slice Tryz.underlying53 (by kernel_rfl) (by decide) rd102
def wfDfa (x : MDfa) : Prop := (inK .i64) x.Tags ∧ (fun l => ∀ x ∈ l, (inK .i64) x) x.Class ∧ (fun l => ∀ x ∈ l, (wfState) x) x.States
theorem rd55 : Rd Tryz.prog 55 tDfa wfDfa := ⟨by
  intro H enc W sp held fuel cs d ps h hp
  obtain ⟨hl, hf⟩ := struct_get Tryz.underlying55 h hp
  have hl : cs.length = 3 := hl.trans (by kernel_rfl)
  obtain ⟨x0, h0, w0⟩ := Rd.field (Rd.int Tryz.underlying3) (hf 0 _ rfl)
  have k0 := cell1 (off := 0) (by kernel_rfl) h0
  obtain ⟨x1, h1, w1⟩ := Rd.field rd22 (hf 1 _ rfl)
  obtain ⟨A1, s1, h1, t1⟩ := h1
  have k1 := cell1 (off := 1) (by kernel_rfl) h1
  obtain ⟨x2, h2, w2⟩ := Rd.field rd53 (hf 2 _ rfl)
  obtain ⟨A2, s2, h2, t2⟩ := h2
  have k2 := cell1 (off := 2) (by kernel_rfl) h2
  have h9 : ∃ z0 z1 z2, cs = [z0, z1, z2] := by match cs, hl with | [z0, z1, z2], _ => exact ⟨z0, z1, z2, rfl⟩
  obtain ⟨z0, z1, z2, rfl⟩ := h9
  simp only [List.getElem?_cons_zero, List.getElem?_cons_succ, Option.some.injEq] at k0 k1 k2
  subst k0
  subst k1
  subst k2
  exact ⟨⟨x0, x1, x2⟩, ⟨A1, s1, A2, s2, rfl, t1, t2⟩, ⟨w0, w1, w2⟩⟩⟩
end Go.Proofs.YtjkoiijpmiibpaaGreat
