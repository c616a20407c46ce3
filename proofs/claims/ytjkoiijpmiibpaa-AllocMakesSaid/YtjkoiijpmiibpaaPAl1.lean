/- Machines: what is one. Its conditions: none. -/
import Derived.Test.YtjkoiijpmiibpaaPIt
set_option autoImplicit false
namespace Go.Proofs.Ytjkoiijpmiibpaa
open Go.V Go.RowKit

/-! Classes. -/
def nxC (l : List Int) : Nat → Int
  | 0 => 0
  | i + 1 => if gt l (i : Int) = nxC l i then nxC l i + 1 else nxC l i
theorem nxC_le (l : List Int) : ∀ i, 0 ≤ nxC l i ∧ nxC l i ≤ i
  | 0 => ⟨Int.le_refl _, Int.le_refl _⟩
  | i + 1 => by have := nxC_le l i; unfold nxC; split <;> omega
def okC (l : List Int) (i : Nat) : Prop := 0 ≤ gt l (i : Int) ∧ gt l (i : Int) ≤ nxC l i
def ClsOk (l : List Int) : Prop := (∀ i, i < l.length → okC l i) ∧ l.length = 256
open Classical in
theorem m_partRight {l : List Int} {fuel : Nat} (hl : l.length ≤ 1000) (hf : 1000 < fuel) : m_part_Right fuel l = some (decide (ClsOk l)) := by
  have h := iter_chkS (body := m_part_Right_l1 fuel l) (fu := fuel) l.length (nxC l) (okC l) (fun i hi _ => by
    have hin : inb l (i : Int) = true := inb_true (by omega) (by omega)
    have hd : (i : Int) < (l.length : Int) := by omega
    have hx := nxC_le l i
    unfold m_part_Right_l1
    simp only [hd, decide_true, if_true, hin, W_succ (show i < 9223372036854775807 by omega)]
    by_cases c1 : gt l (i : Int) < 0
    · simp [c1, okC, show ¬ (0 ≤ gt l (i : Int)) by omega]
    · by_cases c2 : gt l (i : Int) > nxC l i
      · simp [c1, c2, okC, show ¬ (gt l (i : Int) ≤ nxC l i) by omega]
      · have hok : okC l i := ⟨by omega, by omega⟩
        rw [if_pos hok]
        simp only [c1, c2, decide_false, Bool.false_eq_true, if_false, bind_some', W_id (n := gt l (i : Int) + 1) (by omega) (by omega)]
        have : (if gt l (i : Int) + 1 > nxC l i then gt l (i : Int) + 1 else nxC l i) = nxC l (i + 1) := by
          rw [nxC]
          by_cases c3 : gt l (i : Int) = nxC l i
          · rw [if_pos c3, if_pos (by omega), c3]
          · rw [if_neg c3, if_neg (by omega)]
        rw [this]) (by unfold m_part_Right_l1; simp) (by omega)
  unfold m_part_Right
  have h0 : iter (m_part_Right_l1 fuel l) fuel (0, 0) = _ := h
  rw [h0]
  by_cases c : ∀ i, i < l.length → okC l i
  · rw [if_pos c]
    simp only [bind_some']
    congr 1
    by_cases c2 : l.length = 256
    · rw [decide_eq_true (show ClsOk l from ⟨c, c2⟩)]; simp [c2]
    · rw [decide_eq_false (show ¬ ClsOk l from fun h => c2 h.2), beq_eq_false_iff_ne]; omega
  · rw [if_neg c, decide_eq_false (show ¬ ClsOk l from fun h => c h.1)]; rfl
open Classical in
theorem m_ref13Right {l : List Int} {fuel : Nat} (hl : l.length ≤ 1000) (hf : 1000 < fuel) : m_ref13_Right fuel l = some (decide (ClsOk l)) := by
  have h := iter_chkS (body := m_ref13_Right_l1 fuel l) (fu := fuel) l.length (nxC l) (okC l) (fun i hi _ => by
    have hin : inb l (i : Int) = true := inb_true (by omega) (by omega)
    have hd : (i : Int) < (l.length : Int) := by omega
    have hx := nxC_le l i
    unfold m_ref13_Right_l1
    simp only [hd, decide_true, if_true, hin, W_succ (show i < 9223372036854775807 by omega)]
    by_cases c1 : gt l (i : Int) < 0
    · simp [c1, okC, show ¬ (0 ≤ gt l (i : Int)) by omega]
    · by_cases c2 : gt l (i : Int) > nxC l i
      · simp [c1, c2, okC, show ¬ (gt l (i : Int) ≤ nxC l i) by omega]
      · have hok : okC l i := ⟨by omega, by omega⟩
        rw [if_pos hok]
        by_cases c3 : gt l (i : Int) = nxC l i
        · simp [c3, nxC, show ¬ nxC l i < 0 by omega, W_id (n := nxC l i + 1) (by omega) (by omega)]
        · simp [c1, c2, c3, nxC]) (by unfold m_ref13_Right_l1; simp) (by omega)
  unfold m_ref13_Right
  have h0 : iter (m_ref13_Right_l1 fuel l) fuel (0, 0) = _ := h
  rw [h0]
  by_cases c : ∀ i, i < l.length → okC l i
  · rw [if_pos c]
    simp only [bind_some']
    congr 1
    by_cases c2 : l.length = 256
    · rw [decide_eq_true (show ClsOk l from ⟨c, c2⟩)]; simp [c2]
    · rw [decide_eq_false (show ¬ ClsOk l from fun h => c2 h.2), beq_eq_false_iff_ne]; omega
  · rw [if_neg c, decide_eq_false (show ¬ ClsOk l from fun h => c h.1)]; rfl
def lsC (l : List Int) : Nat → List Int
  | 0 => []
  | i + 1 => if gt l (i : Int) = (lsC l i).length then lsC l i ++ [IntKind.wrap .u8 (i : Int)] else lsC l i
theorem lsC_le (l : List Int) : ∀ i, (lsC l i).length ≤ i
  | 0 => Nat.le_refl _
  | i + 1 => by have := lsC_le l i; unfold lsC; split <;> simp <;> omega
open Classical in
noncomputable def leastC (l : List Int) : List Int := if ClsOk l then lsC l 256 else []
theorem m_partLeast {l : List Int} {fuel : Nat} (hl : l.length ≤ 1000) (hf : 1000 < fuel) : m_part_Least fuel l = some (leastC l) := by
  unfold m_part_Least leastC
  simp only [m_partRight hl hf, bind_some']
  by_cases c : ClsOk l
  · have h := iter_end (body := m_part_Least_l1 fuel l) (fu := fuel) l.length (fun i => (lsC l i, (i : Int))) (lsC l l.length) (fun i hi => by
      have hin : inb l (i : Int) = true := inb_true (by omega) (by omega)
      have hd : (i : Int) < (l.length : Int) := by omega
      have hx := lsC_le l i
      unfold m_part_Least_l1
      simp only [hd, decide_true, if_true, hin, W_succ (show i < 9223372036854775807 by omega), lsC, beq_iff_eq]
      split
      · rw [if_pos (apOk_true (by simp; omega))]; rfl
      · rfl) (by unfold m_part_Least_l1; simp) (by omega)
    have h0 : iter (m_part_Least_l1 fuel l) fuel (([] : List Int), 0) = some (lsC l l.length) := h
    simp only [c, decide_true, Bool.not_true, Bool.false_eq_true, if_false, if_true, h0, bind_some', c.2]
  · simp [c]
theorem m_ref13Least {l : List Int} {fuel : Nat} (hl : l.length ≤ 1000) (hf : 1000 < fuel) : m_ref13_Least fuel l = some (leastC l) := by
  unfold m_ref13_Least leastC
  simp only [m_ref13Right hl hf, bind_some']
  by_cases c : ClsOk l
  · have h := iter_end (body := m_ref13_Least_l1 fuel l) (fu := fuel) 256 (fun i => (lsC l i, (i : Int))) (lsC l 256) (fun i hi => by
      have hl2 := c.2
      have hin : inb l (i : Int) = true := inb_true (by omega) (by omega)
      have hd : (i : Int) < 256 := by omega
      have hx := lsC_le l i
      unfold m_ref13_Least_l1
      simp only [hd, decide_true, if_true, hin, W_succ (show i < 9223372036854775807 by omega), lsC, beq_iff_eq]
      split
      · rw [if_pos (apOk_true (by simp; omega))]; rfl
      · rfl) (by unfold m_ref13_Least_l1; simp) (by omega)
    have h0 : iter (m_ref13_Least_l1 fuel l) fuel (([] : List Int), 0) = some (lsC l 256) := h
    simp only [c, decide_true, Bool.not_true, Bool.false_eq_true, if_false, if_true, h0, bind_some']
  · simp [c]
end Go.Proofs.Ytjkoiijpmiibpaa
