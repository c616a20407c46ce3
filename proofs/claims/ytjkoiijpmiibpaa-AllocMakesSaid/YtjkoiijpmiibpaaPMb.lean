/- Moves: how many it takes, by the document. Its conditions: none. -/
import Derived.Test.YtjkoiijpmiibpaaPMa4
set_option autoImplicit false
namespace Go.Proofs.Ytjkoiijpmiibpaa
open Go.V Go.RowKit

open Classical in
theorem m_right {ms : List MMove} {fuel : Nat} (hl : ms.length ≤ 5000) (hf : 5000 < fuel) : m_ref27_Right fuel ms = some (decide (RightM ms)) := by
  have hin2 : ∀ i, i < ms.length → iter (m_ref27_Right_l2 fuel ms (i : Int)) fuel 0 = some (if ∃ k, k < i ∧ (gt ms k).To = (gt ms i).To then .inr false else .inl ()) := by
    intro i hi
    have hst : ∀ k, k < i → m_ref27_Right_l2 fuel ms (i : Int) (k : Int) = if (gt ms k).To = (gt ms i).To then some (.done (.inr false)) else some (.next ((k + 1 : Nat) : Int)) := by
      intro k hk
      have hd : (k : Int) < (i : Int) := by omega
      unfold m_ref27_Right_l2
      simp only [hd, decide_true, if_true, inb_true (l := ms) (i := (k : Int)) (by omega) (by omega), inb_true (l := ms) (i := (i : Int)) (by omega) (by omega), W_succ (show k < 9223372036854775807 by omega), beq_iff_eq]
    rcases first_bad (fun k => (gt ms k).To = (gt ms i).To) i with h | ⟨k, h1, h2, h3⟩
    · rw [if_neg (fun ⟨k, h4, h5⟩ => h k h4 h5)]
      exact iter_endI (body := m_ref27_Right_l2 fuel ms (i : Int)) i (.inl ()) (fun k hk => by rw [hst k hk, if_neg (h k hk)]) (by unfold m_ref27_Right_l2; simp) (by omega)
    · rw [if_pos ⟨k, h1, h2⟩]
      exact iter_endI (body := m_ref27_Right_l2 fuel ms (i : Int)) k (.inr false) (fun j hj => by rw [hst j (by omega), if_neg (h3 j hj)]) (by rw [hst k h1, if_pos h2]) (by omega)
  have hstep : ∀ i, i < ms.length → m_ref27_Right_l1 fuel ms (i : Int) = if badM ms i then some (.done (.inr false)) else some (.next ((i + 1 : Nat) : Int)) := by
    intro i hi
    have hin : inb ms (i : Int) = true := inb_true (by omega) (by omega)
    have hd : (i : Int) < (ms.length : Int) := by omega
    unfold m_ref27_Right_l1
    simp only [hd, decide_true, if_true, hin, W_succ (show i < 9223372036854775807 by omega), hin2 i hi]
    by_cases c1 : (gt ms i).To < 0
    · simp [c1, badM]
    · by_cases c2 : (gt ms i).From < -1
      · simp [c1, c2, badM]
      · by_cases c3 : ∃ k, k < i ∧ (gt ms k).To = (gt ms i).To
        · rw [if_pos c3, if_pos (show badM ms i from .inr (.inr c3))]
          simp [c1, c2]
        · rw [if_neg c3, if_neg (show ¬ badM ms i from fun h => h.elim c1 (fun h => h.elim c2 c3))]
          simp [c1, c2]
  unfold m_ref27_Right
  rcases first_bad (badM ms) ms.length with h | ⟨i, h1, h2, h3⟩
  · rw [iter_endI (body := m_ref27_Right_l1 fuel ms) ms.length (.inl ()) (fun i hi => by rw [hstep i hi, if_neg (h i hi)]) (by unfold m_ref27_Right_l1; simp) (by omega), decide_eq_true (show RightM ms from h)]
    rfl
  · rw [iter_endI (body := m_ref27_Right_l1 fuel ms) i (.inr false) (fun j hj => by rw [hstep j (by omega), if_neg (h3 j hj)]) (by rw [hstep i h1, if_pos h2]) (by omega), decide_eq_false (show ¬ RightM ms from fun h => h i h1 h2)]
    rfl

theorem m_from {ms : List MMove} {fuel : Nat} (hl : ms.length ≤ 5000) (hf : 5000 < fuel) (x : Int) : m_ref27_from fuel ms x = some (fS ms x) := by
  have hstep : ∀ i, i < ms.length → m_ref27_from_l1 fuel ms x (i : Int) = if (gt ms i).To = x then some (.done (.inr (gt ms i).From)) else some (.next ((i + 1 : Nat) : Int)) := by
    intro i hi
    have hin : inb ms (i : Int) = true := inb_true (by omega) (by omega)
    have hd : (i : Int) < (ms.length : Int) := by omega
    unfold m_ref27_from_l1
    simp only [hd, decide_true, if_true, hin, W_succ (show i < 9223372036854775807 by omega), beq_iff_eq]
  unfold m_ref27_from
  rcases first_bad (fun i => (gt ms i).To = x) ms.length with h | ⟨i, h1, h2, h3⟩
  · rw [iter_endI (body := m_ref27_from_l1 fuel ms x) ms.length (.inl ()) (fun i hi => by rw [hstep i hi, if_neg (h i hi)]) (by unfold m_ref27_from_l1; simp) (by omega)]
    rw [fS_no (fun m hm => by obtain ⟨i, hi, rfl⟩ := List.mem_iff_getElem.1 hm; have := h i hi; rw [gtE hi] at this; exact this)]
    rfl
  · rw [iter_endI (body := m_ref27_from_l1 fuel ms x) i (.inr (gt ms i).From) (fun j hj => by rw [hstep j (by omega), if_neg (h3 j hj)]) (by rw [hstep i h1, if_pos h2]) (by omega)]
    have : ms.find? (fun m => m.To == x) = some (gt ms i) := by
      rw [List.find?_eq_some_iff_getElem]
      refine ⟨by simpa using h2, i, h1, (gtE h1).symm, fun j hj => ?_⟩
      have := h3 j hj
      rw [gtE (by omega)] at this
      simpa using this
    unfold fS
    rw [this]
    rfl

theorem all_min {f : Int → Int} {m : Int} {N : Nat} (h : it f (N + 1) m = m) (hk : ∀ k, k < N → m < it f (k + 1) m) (j : Nat) : m ≤ it f j m := by
  rw [it_mod h j]
  have : j % (N + 1) < N + 1 := Nat.mod_lt j (Nat.succ_pos N)
  cases c : j % (N + 1) with
  | zero => exact Int.le_refl _
  | succ k => exact Int.le_of_lt (hk k (by omega))
open Classical in
theorem m_ring27 {ms : List MMove} {fuel : Nat} (hl : ms.length ≤ 5000) (hf : 5000 < fuel) (m : Int) : m_ref27_ring fuel ms m = some (decide (Ring (fS ms) (ms.length + 1) m ∧ fS ms m ≠ m)) := by
  have hstep : ∀ i, i < ms.length → m < it (fS ms) (i + 1) m → m_ref27_ring_l1 fuel ms m (fS ms m) (it (fS ms) (i + 1) m, (i : Int)) = some (.next (it (fS ms) (i + 1 + 1) m, ((i + 1 : Nat) : Int))) := by
    intro i hi hgt
    have hd : (i : Int) < (ms.length : Int) := by omega
    have hgt' : it (fS ms) (i + 1) m > m := hgt
    unfold m_ref27_ring_l1
    simp only [hd, decide_true, if_true, hgt', bind_some', m_from hl hf, W_succ (show i < 9223372036854775807 by omega)]
    rfl
  have hfin : ∀ i y, i ≤ ms.length → y = it (fS ms) (i + 1) m → (∀ k, k < i → m < it (fS ms) (k + 1) m) → (i = ms.length ∨ y ≤ m) → iter (m_ref27_ring_l1 fuel ms m (fS ms m)) fuel (fS ms m, 0) = some y ∧ (y = m ↔ Ring (fS ms) (ms.length + 1) m) := by
    intro i y hi hy hk hor
    constructor
    · have := iter_end (body := m_ref27_ring_l1 fuel ms m (fS ms m)) (fu := fuel) i (fun i => (it (fS ms) (i + 1) m, (i : Int))) y (fun k h => hstep k (by omega) (hk k h)) (by
        unfold m_ref27_ring_l1
        simp only
        by_cases c : (i : Int) < (ms.length : Int)
        · have hle : ¬ (it (fS ms) (i + 1) m > m) := by rcases hor with h | h <;> omega
          simp only [c, decide_true, if_true, hle, decide_false, bind_some', Bool.false_eq_true, if_false, hy]
        · simp only [c, decide_false, bind_some', Bool.false_eq_true, if_false, hy]) (by omega)
      exact this
    · constructor
      · intro e
        rw [e] at hy
        exact ⟨i + 1, by omega, by omega, hy.symm, all_min hy.symm hk⟩
      · rintro ⟨p, p1, p2, p3, p4⟩
        rcases hor with h | h
        · by_cases c : p ≤ i
          · have := hk (p - 1) (by omega)
            rw [show p - 1 + 1 = p by omega, p3] at this
            omega
          · rw [hy, show i + 1 = p by omega, p3]
        · have := p4 (i + 1)
          rw [← hy] at this
          omega
  obtain ⟨y, h1, h2⟩ : ∃ y, iter (m_ref27_ring_l1 fuel ms m (fS ms m)) fuel (fS ms m, 0) = some y ∧ (y = m ↔ Ring (fS ms) (ms.length + 1) m) := by
    rcases first_bad (fun i => it (fS ms) (i + 1) m ≤ m) ms.length with h | ⟨i, h1, h2, h3⟩
    · exact ⟨_, hfin ms.length _ (Nat.le_refl _) rfl (fun k hk => Int.not_le.1 (h k hk)) (.inl rfl)⟩
    · exact ⟨_, hfin i _ (by omega) rfl (fun k hk => Int.not_le.1 (h3 k hk)) (.inr h2)⟩
  unfold m_ref27_ring
  simp only [m_from hl hf, bind_some', h1]
  by_cases c : y = m
  · have hR := h2.1 c
    simp only [c, beq_self_eq_true, if_true, hR, true_and]
    by_cases c2 : fS ms m = m <;> simp [c2]
  · have hR : ¬ Ring (fS ms) (ms.length + 1) m := fun h => c (h2.2 h)
    simp [c, hR]
open Classical in
theorem m_least27 {ms : List MMove} {fuel : Nat} (hl : ms.length ≤ 5000) (hf : 5000 < fuel) (hr : RightM ms) : m_ref27_Least fuel ms = some ((((keyS ms).length + rings (fS ms) (keyS ms) (ms.length + 1) : Nat) : Int), 0) := by
  have hn := right_nd hr
  let rb : MMove → Bool := fun m => decide (Ring (fS ms) (ms.length + 1) m.To ∧ fS ms m.To ≠ m.To)
  have hstep : ∀ i, i < ms.length → m_ref27_Least_l1 fuel ms ((((ms.take i).countP ntM + (ms.take i).countP rb : Nat) : Int), (i : Int)) = some (.next ((((ms.take (i + 1)).countP ntM + (ms.take (i + 1)).countP rb : Nat) : Int), ((i + 1 : Nat) : Int))) := by
    intro i hi
    have hin : inb ms (i : Int) = true := inb_true (by omega) (by omega)
    have hd : (i : Int) < (ms.length : Int) := by omega
    have hb1 : (ms.take i).countP ntM ≤ 5000 := Nat.le_trans List.countP_le_length (by rw [List.length_take]; omega)
    have hb2 : (ms.take i).countP rb ≤ 5000 := Nat.le_trans List.countP_le_length (by rw [List.length_take]; omega)
    unfold m_ref27_Least_l1
    rw [gt_take hi, List.countP_append, List.countP_append, List.countP_singleton, List.countP_singleton]
    generalize hA : (ms.take i).countP ntM = A at hb1
    generalize hB : (ms.take i).countP rb = B at hb2
    simp only [hd, decide_true, if_true, hin, W_succ (show i < 9223372036854775807 by omega), m_ring27 hl hf, bind_some']
    rw [show decide (Ring (fS ms) (ms.length + 1) (gt ms i).To ∧ fS ms (gt ms i).To ≠ (gt ms i).To) = rb (gt ms i) from rfl, show ((gt ms i).To != (gt ms i).From) = ntM (gt ms i) from rfl]
    cases ntM (gt ms i) <;> cases rb (gt ms i) <;> simp only [Bool.false_eq_true, if_false, if_true, bind_some', W_succ (show A + B < 9223372036854775807 by omega), W_succ (show A + B + 1 < 9223372036854775807 by omega), Nat.add_zero] <;> first | rfl | (congr 4; omega)
  have := iter_end (body := m_ref27_Least_l1 fuel ms) (fu := fuel) ms.length (fun i => ((((ms.take i).countP ntM + (ms.take i).countP rb : Nat) : Int), (i : Int))) (((ms.countP ntM + ms.countP rb : Nat) : Int)) hstep (by unfold m_ref27_Least_l1; simp) (by omega)
  have hrb : ms.countP rb = rings (fS ms) (keyS ms) (ms.length + 1) := by
    unfold rings keyS
    rw [(sortI_perm _).countP_eq]
    unfold keysM
    rw [List.countP_map, List.countP_filter]
    have : ∀ (l : List MMove), (∀ m ∈ l, m ∈ ms) → l.countP rb = l.countP (fun m => ((fun m => decide (Ring (fS ms) (ms.length + 1) m)) ∘ MMove.To) m && ntM m) := by
      intro l
      induction l with
      | nil => intro _; rfl
      | cons a l ih =>
        intro h
        have e : rb a = (((fun m => decide (Ring (fS ms) (ms.length + 1) m)) ∘ MMove.To) a && ntM a) := by
          have h3 := fS_mem hn (h a (by simp))
          simp only [rb, h3, Function.comp, ntM, bne, Bool.decide_and, ne_eq, decide_not]
          congr 2
          by_cases c : a.From = a.To
          · simp [c]
          · simp [c, Ne.symm c]
        simp only [List.countP_cons, e, ih (fun m hm => h m (by simp [hm]))]
    exact this ms fun m h => h
  unfold m_ref27_Least
  have hR : decide (RightM ms) = true := decide_eq_true hr
  simp only [m_right hl hf, bind_some', hR, Bool.not_true, Bool.false_eq_true, if_false]
  have h0 : iter (m_ref27_Least_l1 fuel ms) fuel (0, 0) = some (((ms.countP ntM + ms.countP rb : Nat) : Int)) := this
  rw [h0, hrb, ← keyS_len]
  rfl
end Go.Proofs.Ytjkoiijpmiibpaa
