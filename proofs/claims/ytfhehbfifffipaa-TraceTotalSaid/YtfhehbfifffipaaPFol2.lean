/- What is known of the nodes of a term: leaves, their numbers, what a node is a part of, and how deep it lies. Its conditions: none. -/
import Derived.Test.YtfhehbfifffipaaPFol1
set_option autoImplicit false
namespace Go.Proofs.Ytfhehbfifffipaa
open Go.V Go.RowKit

/-! Leaves. -/
def leavesL (l : List MTerm) : Nat → List Int
  | 0 => []
  | i + 1 => if (gt l (i : Int)).Kind = 2 then leavesL l i ++ [(i : Int)] else leavesL l i
theorem leavesL_len (l : List MTerm) : ∀ i, (leavesL l i).length = leavesN l i
  | 0 => rfl
  | i + 1 => by simp only [leavesL, leavesN]; split <;> simp [leavesL_len l i]
def LeavesF (l : List MTerm) : List Int := if RightB l then leavesL l l.length else []
theorem leaves_step {l : List MTerm} (hl : l.length ≤ 400) {i : Nat} (hi : i < l.length) (fuel : Nat) :
    m_place_Leaves_l1 fuel l (leavesL l i, (i : Int)) = some (.next (leavesL l (i + 1), ((i + 1 : Nat) : Int))) ∧ m_ref16_Leaves_l1 fuel l (leavesL l i, (i : Int)) = some (.next (leavesL l (i + 1), ((i + 1 : Nat) : Int))) := by
  have h1 : (i : Int) < (l.length : Int) := by omega
  have hin : inb l (i : Int) = true := inb_true (by omega) (by omega)
  have hWi : W ((i : Int) + 1) = ((i + 1 : Nat) : Int) := W_succ (by omega)
  have hle := leavesN_le l i
  have hap : apOk 8 (leavesL l i) [(i : Int)] = true := apOk_true (by rw [leavesL_len]; simp; omega)
  unfold m_place_Leaves_l1 m_ref16_Leaves_l1
  by_cases hk : (gt l (i : Int)).Kind = 2 <;> simp [h1, hin, hWi, hap, hk, leavesL]
theorem m_Leaves {l : List MTerm} (hw : ∀ x ∈ l, wfTerm x) {fuel : Nat} (hf : 401 < fuel) : m_place_Leaves fuel l = some (LeavesF l) := by
  unfold m_place_Leaves LeavesF
  rw [m_Right l hf]
  cases hR : RightB l with
  | false => rfl
  | true =>
    obtain ⟨t, ht⟩ := tree_of hw hR
    have h400 := ht.le; have hlen := ht.len
    have := iter_up (step := m_place_Leaves_l1 fuel l) (fun i => (leavesL l i, (i : Int))) (leavesL l l.length) l.length (fun i hi => .inl (leaves_step (by omega) hi fuel).1) (by unfold m_place_Leaves_l1; simp) l.length 0 fuel (by omega) (by omega)
    simp only [bind_some', Bool.not_true, Bool.false_eq_true, if_false, if_true]
    simp only [leavesL] at this
    rw [show (0 : Int) = ((0 : Nat) : Int) from rfl, this]; rfl
theorem r_Leaves {l : List MTerm} (hw : ∀ x ∈ l, wfTerm x) (hl : l.length * 64 ≤ 140737488351232) {fuel : Nat} (hf : 401 < fuel) (hf2 : l.length + 1 < fuel) : m_ref16_Leaves fuel l = some (LeavesF l) := by
  unfold m_ref16_Leaves LeavesF
  rw [r_Right l hl hf2]
  cases hR : RightB l with
  | false => rfl
  | true =>
    obtain ⟨t, ht⟩ := tree_of hw hR
    have h400 := ht.le; have hlen := ht.len
    have := iter_up (step := m_ref16_Leaves_l1 fuel l) (fun i => (leavesL l i, (i : Int))) (leavesL l l.length) l.length (fun i hi => .inl (leaves_step (by omega) hi fuel).2) (by unfold m_ref16_Leaves_l1; simp) l.length 0 fuel (by omega) (by omega)
    simp only [bind_some', Bool.not_true, Bool.false_eq_true, if_false, if_true]
    simp only [leavesL] at this
    rw [show (0 : Int) = ((0 : Nat) : Int) from rfl, this]; rfl
theorem leavesN_mono (l : List MTerm) {i j : Nat} (h : i ≤ j) : leavesN l i ≤ leavesN l j := by
  induction j with
  | zero => obtain rfl : i = 0 := by omega
            exact Nat.le_refl _
  | succ j ih =>
    by_cases e : i = j + 1
    · subst e; exact Nat.le_refl _
    · have := ih (by omega); simp only [leavesN]; omega
/-- The place p is that of the Leaf q. -/
theorem leavesL_get (l : List MTerm) : ∀ (i p : Nat), p < leavesN l i → ∃ q : Nat, q < i ∧ (leavesL l i)[p]? = some (q : Int) ∧ (gt l (q : Int)).Kind = 2 ∧ leavesN l q = p
  | 0, p, h => by simp [leavesN] at h
  | i + 1, p, h => by
    simp only [leavesN, leavesL] at h ⊢
    by_cases hk : (gt l (i : Int)).Kind = 2
    · simp only [hk, if_true] at h ⊢
      by_cases e : p = leavesN l i
      · exact ⟨i, by omega, by rw [List.getElem?_append_right (by rw [leavesL_len]; omega), leavesL_len]; simp [e], hk, e.symm⟩
      · obtain ⟨q, h1, h2, h3, h4⟩ := leavesL_get l i p (by omega)
        exact ⟨q, by omega, by rw [List.getElem?_append_left (by rw [leavesL_len]; omega)]; exact h2, h3, h4⟩
    · simp only [hk, if_false, Nat.add_zero] at h ⊢
      obtain ⟨q, h1, h2, h3, h4⟩ := leavesL_get l i p h
      exact ⟨q, by omega, h2, h3, h4⟩

/-! Index. -/
def idxL (l : List MTerm) : Nat → List Int
  | 0 => []
  | i + 1 => idxL l i ++ [if (gt l (i : Int)).Kind = 2 then (leavesN l i : Int) else -1]
theorem idxL_len (l : List MTerm) : ∀ i, (idxL l i).length = i
  | 0 => rfl
  | i + 1 => by simp [idxL, idxL_len l i]
theorem idxL_get (l : List MTerm) : ∀ (i j : Nat), j < i → (idxL l i)[j]? = some (if (gt l (j : Int)).Kind = 2 then (leavesN l j : Int) else -1)
  | 0, j, h => by omega
  | i + 1, j, h => by
    simp only [idxL]
    by_cases e : j = i
    · subst e; rw [List.getElem?_append_right (by rw [idxL_len]; omega), idxL_len]; simp
    · rw [List.getElem?_append_left (by rw [idxL_len]; omega)]; exact idxL_get l i j (by omega)
def IndexF (l : List MTerm) : List Int := if RightB l then idxL l l.length else []
def idxQ (l : List MTerm) (p : Nat) : Nat → List Int
  | 0 => []
  | i + 1 => idxQ l p i ++ [if (gt l (i : Int)).Kind = 2 ∧ leavesN l i < p then (leavesN l i : Int) else -1]
theorem idxQ_len (l : List MTerm) (p : Nat) : ∀ i, (idxQ l p i).length = i
  | 0 => rfl
  | i + 1 => by simp [idxQ, idxQ_len l p i]
theorem idxQ_get (l : List MTerm) (p : Nat) : ∀ (i j : Nat), j < i → (idxQ l p i)[j]? = some (if (gt l (j : Int)).Kind = 2 ∧ leavesN l j < p then (leavesN l j : Int) else -1)
  | 0, j, h => by omega
  | i + 1, j, h => by
    simp only [idxQ]
    by_cases e : j = i
    · subst e; rw [List.getElem?_append_right (by rw [idxQ_len]; omega), idxQ_len]; simp
    · rw [List.getElem?_append_left (by rw [idxQ_len]; omega)]; exact idxQ_get l p i j (by omega)
theorem leaf_inj (l : List MTerm) {i j : Nat} (hi : (gt l (i : Int)).Kind = 2) (hj : (gt l (j : Int)).Kind = 2) (h : leavesN l i = leavesN l j) : i = j := by
  rcases Nat.lt_trichotomy i j with c | c | c
  · have := leavesN_mono l (show i + 1 ≤ j from c); simp only [leavesN, hi, if_true] at this; omega
  · exact c
  · have := leavesN_mono l (show j + 1 ≤ i from c); simp only [leavesN, hj, if_true] at this; omega
theorem idxQ_set (l : List MTerm) {p q n : Nat} (hq : q < n) (hk : (gt l (q : Int)).Kind = 2) (hp : leavesN l q = p) : (idxQ l p n).set q (p : Int) = idxQ l (p + 1) n := by
  apply List.ext_getElem?
  intro j
  by_cases hj : j < n
  · rw [idxQ_get l _ n j hj, List.getElem?_set]
    by_cases e : q = j
    · subst e; simp [idxQ_len, hj, hk, hp]
    · rw [if_neg e, idxQ_get l _ n j hj]
      by_cases k2 : (gt l (j : Int)).Kind = 2
      · have : leavesN l j ≠ p := fun h => e (leaf_inj l hk k2 (hp.trans h.symm))
        simp only [k2, true_and]
        by_cases c : leavesN l j < p
        · rw [if_pos c, if_pos (by omega)]
        · rw [if_neg c, if_neg (by omega)]
      · simp [k2]
  · rw [List.getElem?_eq_none (by simp [idxQ_len]; omega), List.getElem?_eq_none (by simp [idxQ_len]; omega)]
theorem idxQ_zero (l : List MTerm) : ∀ n, idxQ l 0 n = List.replicate n (-1)
  | 0 => rfl
  | n + 1 => by simp [idxQ, idxQ_zero l n, List.replicate_succ']
theorem idxQ_all (l : List MTerm) (n : Nat) : idxQ l (leavesN l n) n = idxL l n := by
  apply List.ext_getElem?
  intro j
  by_cases hj : j < n
  · rw [idxQ_get l _ n j hj, idxL_get l n j hj]
    by_cases k2 : (gt l (j : Int)).Kind = 2
    · have := leavesN_mono l (show j + 1 ≤ n from hj); simp only [leavesN, k2, if_true] at this
      simp [k2]; omega
    · simp [k2]
  · rw [List.getElem?_eq_none (by simp [idxQ_len]; omega), List.getElem?_eq_none (by simp [idxL_len]; omega)]
theorem m_Index {l : List MTerm} (hw : ∀ x ∈ l, wfTerm x) {fuel : Nat} (hf : 401 < fuel) : m_place_Index fuel l = some (IndexF l) := by
  unfold m_place_Index IndexF
  rw [m_Right l hf, m_Leaves hw hf]
  cases hR : RightB l with
  | false => rfl
  | true =>
    obtain ⟨t, ht⟩ := tree_of hw hR
    have h400 := ht.le; have hlen := ht.len
    have hmk : mkOk 8 (l.length : Int) = true := by simp [mkOk]; omega
    have e1 := iter_up (step := m_place_Index_l1 fuel l) (fun i => (List.replicate i (-1) ++ List.replicate (l.length - i) 0, (i : Int))) (List.replicate l.length (-1)) l.length
      (fun i hi => .inl (by
        have h1 : (i : Int) < (l.length : Int) := by omega
        have hii : inb (List.replicate i (-1 : Int) ++ List.replicate (l.length - i) 0) (i : Int) = true := inb_true (by omega) (by simp; omega)
        unfold m_place_Index_l1
        simp only [List.length_replicate, Int.toNat_natCast, h1, decide_true, if_true, hii, W_succ (show i < 9223372036854775807 by omega)]
        rw [replicate_cons hi 0, set_mid (by simp), List.replicate_succ']
        simp)) (by unfold m_place_Index_l1; simp) l.length 0 fuel (by omega) (by omega)
    have hLF : LeavesF l = leavesL l l.length := by simp [LeavesF, hR]
    have hle := leavesN_le l l.length
    have e2 := iter_up (step := m_place_Index_l2 fuel (List.replicate l.length (-1)) (leavesL l l.length)) (fun p => (idxQ l p l.length, (p : Int))) (idxL l l.length) (leavesN l l.length)
      (fun p hp => .inl (by
        obtain ⟨q, h1, h2, h3, h4⟩ := leavesL_get l l.length p hp
        have h5 : (p : Int) < ((leavesL l l.length).length : Int) := by rw [leavesL_len]; omega
        have h6 : inb (leavesL l l.length) (p : Int) = true := inb_true (by omega) h5
        have h7 : inb (idxQ l p l.length) (q : Int) = true := inb_true (by omega) (by rw [idxQ_len]; omega)
        unfold m_place_Index_l2
        simp only [h5, decide_true, if_true, h6, gt_get_nat h2, h7, Int.toNat_natCast, idxQ_set l h1 h3 h4, W_succ (show p < 9223372036854775807 by omega)])) (by unfold m_place_Index_l2; simp [leavesL_len, idxQ_all]) (leavesN l l.length) 0 fuel (by omega) (by omega)
    simp only [bind_some', Bool.not_true, Bool.false_eq_true, if_false, if_true, hmk, Int.toNat_natCast, hLF]
    simp only [List.replicate_zero, List.nil_append, Nat.sub_zero] at e1
    rw [show ((List.replicate l.length (0 : Int)), (0 : Int)) = (List.replicate l.length 0, ((0 : Nat) : Int)) from rfl, e1, bind_some']
    rw [idxQ_zero] at e2
    rw [show ((List.replicate l.length (-1 : Int)), (0 : Int)) = (List.replicate l.length (-1), ((0 : Nat) : Int)) from rfl, e2]; rfl
theorem r_Index {l : List MTerm} (hw : ∀ x ∈ l, wfTerm x) (hl : l.length * 64 ≤ 140737488351232) {fuel : Nat} (hf : 401 < fuel) (hf2 : l.length + 1 < fuel) : m_ref16_Index fuel l = some (IndexF l) := by
  unfold m_ref16_Index IndexF
  rw [r_Right l hl hf2]
  cases hR : RightB l with
  | false => rfl
  | true =>
    obtain ⟨t, ht⟩ := tree_of hw hR
    have h400 := ht.le; have hlen := ht.len
    have hmk : mkOk 8 (l.length : Int) = true := by simp [mkOk]; omega
    have e1 := iter_up (step := m_ref16_Index_l1 fuel l) (fun i => (idxL l i ++ List.replicate (l.length - i) 0, (leavesN l i : Int), (i : Int))) (idxL l l.length) l.length
      (fun i hi => .inl (by
        have h1 : (i : Int) < (l.length : Int) := by omega
        have hin : inb l (i : Int) = true := inb_true (by omega) (by omega)
        have hle := leavesN_le l i
        have hii : ∀ (y : Int) m, inb (idxL l i ++ y :: m) (i : Int) = true := fun y m => inb_true (by omega) (by simp [idxL_len]; omega)
        have hset : ∀ (x y : Int) m, (idxL l i ++ x :: m).set i y = idxL l i ++ y :: m := fun x y m => set_mid (idxL_len l i).symm
        unfold m_ref16_Index_l1
        rw [replicate_cons hi 0]
        simp only [h1, decide_true, if_true, hii, hin, Int.toNat_natCast, hset, W_succ (show i < 9223372036854775807 by omega), W_succ (show leavesN l i < 9223372036854775807 by omega), idxL, leavesN]
        by_cases k2 : (gt l (i : Int)).Kind = 2 <;> simp [k2])) (by unfold m_ref16_Index_l1; simp) l.length 0 fuel (by omega) (by omega)
    simp only [bind_some', Bool.not_true, Bool.false_eq_true, if_false, if_true, hmk, Int.toNat_natCast]
    simp only [idxL, leavesN, List.nil_append, Nat.sub_zero] at e1
    rw [show ((List.replicate l.length (0 : Int)), (0 : Int), (0 : Int)) = (List.replicate l.length 0, ((0 : Nat) : Int), ((0 : Nat) : Int)) from rfl, e1]; rfl
end Go.Proofs.Ytfhehbfifffipaa
