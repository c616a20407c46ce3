/- Homes by an edge. Its conditions: none. -/
import Derived.Test.YtjkoiijpmiibpaaPRep
set_option autoImplicit false
namespace Go.Proofs.Ytjkoiijpmiibpaa
open Go.V Go.RowKit

theorem nodup_len' {l m : List Int} (hn : l.Nodup) (hs : ∀ x ∈ l, x ∈ m) : l.length ≤ m.length := by
  induction l generalizing m with
  | nil => simp
  | cons a l ih =>
    have h1 := List.nodup_cons.1 hn
    have ha : a ∈ m := hs a (by simp)
    have := ih (m := m.erase a) h1.2 (fun x hx => (List.mem_erase_of_ne (fun e : x = a => h1.1 (e ▸ hx))).2 (hs x (by simp [hx])))
    rw [List.length_erase_of_mem ha] at this
    have := List.length_pos_of_mem ha
    simp only [List.length_cons]; omega
/-- The least number that is not in a list. -/
def lfree (a : List Int) : Nat := ((List.range (a.length + 1)).find? (fun n : Nat => decide ((n : Int) ∉ a))).getD 0
theorem lfree_spec (a : List Int) : (lfree a : Int) ∉ a ∧ lfree a ≤ a.length ∧ ∀ m : Nat, m < lfree a → (m : Int) ∈ a := by
  cases h : (List.range (a.length + 1)).find? (fun n : Nat => decide ((n : Int) ∉ a)) with
  | none =>
    exfalso
    have h1 := List.find?_eq_none.1 h
    have h2 : ∀ n : Nat, n < a.length + 1 → (n : Int) ∈ a := fun n hn => by
      have := h1 n (List.mem_range.2 hn)
      simpa using this
    have := nodup_len' (l := (List.range (a.length + 1)).map fun n : Nat => (n : Int)) (m := a) (by
      unfold List.Nodup
      rw [List.pairwise_map]
      exact List.pairwise_lt_range.imp (fun h => by omega)) (fun x hx => by obtain ⟨n, hn, rfl⟩ := List.mem_map.1 hx; exact h2 n (List.mem_range.1 hn))
    simp at this
    omega
  | some n =>
    have e : lfree a = n := by unfold lfree; rw [h]; rfl
    obtain ⟨h1, i, hi, h2, h3⟩ := List.find?_eq_some_iff_getElem.1 h
    simp only [List.getElem_range] at h2 h3
    subst h2
    rw [e]
    refine ⟨by simpa using h1, by simp at hi; omega, fun m hm => ?_⟩
    have := h3 m hm
    simpa using this
/-! Homes that are taken. -/
def HInv (h : MAllocHomes) (a : List Int) : Prop := h.at_ = a ∧ ∀ n : Int, 0 ≤ n → n < 1217 → (gt h.taken.1 n = true ↔ n ∈ a)
theorem mem_setN {a : List Int} {k : Nat} {n m : Int} (hk : k < a.length) (ha : gt a (k : Int) < 0) (hm : 0 ≤ m) : m ∈ a.set k n ↔ m = n ∨ m ∈ a := by
  constructor
  · intro h; exact (List.mem_or_eq_of_mem_set h).symm
  · rintro (rfl | h)
    · exact List.mem_set hk _
    · obtain ⟨j, hj, rfl⟩ := List.mem_iff_getElem.1 h
      rw [gtE hk] at ha
      have hne : k ≠ j := fun e => by subst e; omega
      exact List.mem_iff_getElem.2 ⟨j, by rw [List.length_set]; exact hj, by rw [List.getElem_set, if_neg hne]⟩
theorem m_take_yes {fuel : Nat} {h : MAllocHomes} {a : List Int} {k n : Int} (hI : HInv h a) (h0 : 0 ≤ n) (h1 : n < 1217) (hn : n ∈ a) : m_alloc_homes_take fuel h k n = some (false, h) := by
  unfold m_alloc_homes_take
  have hin : inbN 1217 n = true := by unfold inbN; simp; omega
  simp [hin, (hI.2 n h0 h1).2 hn]
theorem m_take_no {fuel : Nat} {h : MAllocHomes} {a : List Int} {k : Nat} {n : Int} (hI : HInv h a) (h0 : 0 ≤ n) (h1 : n < 1217) (hn : n ∉ a) (hk : k < a.length) (ha : gt a (k : Int) < 0) : ∃ h', m_alloc_homes_take fuel h (k : Int) n = some (true, h') ∧ HInv h' (a.set k n) := by
  unfold m_alloc_homes_take
  have hin : inbN 1217 n = true := by unfold inbN; simp; omega
  have hik : inb h.at_ (k : Int) = true := by rw [hI.1]; exact inb_true (by omega) (by omega)
  have hf : gt h.taken.1 n = false := by
    cases c : gt h.taken.1 n with
    | false => rfl
    | true => exact absurd ((hI.2 n h0 h1).1 c) hn
  refine ⟨⟨arrSet h.taken n true, h.at_.set k n⟩, by simp [hin, hik, hf], by rw [hI.1], fun m hm0 hm1 => ?_⟩
  rw [mem_setN hk ha hm0]
  have hlen := h.taken.2
  have : gt (arrSet h.taken n true).1 m = if m = n then true else gt h.taken.1 m := by
    show gt (h.taken.1.set n.toNat true) m = _
    rw [gt_setG (by omega) hm0 (by omega), show ((n.toNat : Nat) : Int) = n by omega]
  rw [this]
  by_cases c : m = n
  · simp [c]
  · rw [if_neg c, hI.2 m hm0 hm1]; simp [c]
theorem m_least_h {fuel : Nat} {h : MAllocHomes} {a : List Int} {k : Nat} (hI : HInv h a) (hl : a.length ≤ 1000) (hf : 2000 < fuel) (hk : k < a.length) (ha : gt a (k : Int) < 0) : ∃ h', m_alloc_homes_least fuel h (k : Int) = some h' ∧ HInv h' (a.set k (lfree a)) := by
  obtain ⟨s1, s2, s3⟩ := lfree_spec a
  obtain ⟨h', h1, h2⟩ := m_take_no (fuel := fuel) (n := (lfree a : Int)) hI (by omega) (by omega) s1 hk ha
  refine ⟨h', ?_, h2⟩
  have := iter_end (body := m_alloc_homes_least_l1 fuel h (k : Int)) (fu := fuel) (lfree a) (fun i => (h, (i : Int))) h' (fun i hi => by
    unfold m_alloc_homes_least_l1
    simp [m_take_yes (fuel := fuel) (k := (k : Int)) hI (by omega) (by omega) (s3 i hi), W_succ (show i < 9223372036854775807 by omega)]) (by
    unfold m_alloc_homes_least_l1
    simp [h1]) (by omega)
  unfold m_alloc_homes_least
  have h0 : iter (m_alloc_homes_least_l1 fuel h (k : Int)) fuel (h, 0) = some h' := this
  rw [h0]; rfl
end Go.Proofs.Ytjkoiijpmiibpaa
