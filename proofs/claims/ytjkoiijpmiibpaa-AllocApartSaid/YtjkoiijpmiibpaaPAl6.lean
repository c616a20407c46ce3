/- Homes by an edge: what they are like. Its conditions: none. -/
import Derived.Test.YtjkoiijpmiibpaaPAl5
set_option autoImplicit false
namespace Go.Proofs.Ytjkoiijpmiibpaa
open Go.V Go.RowKit

theorem gt_mem {α : Type} [Inhabited α] {a : List α} {i : Nat} (h : i < a.length) : gt a (i : Int) ∈ a := by rw [gtE h]; exact List.getElem_mem _
theorem mem_gt {α : Type} [Inhabited α] {a : List α} {v : α} (h : v ∈ a) : ∃ i : Nat, i < a.length ∧ gt a (i : Int) = v := by
  obtain ⟨i, hi, e⟩ := List.mem_iff_getElem.1 h
  exact ⟨i, hi, by rw [gtE hi, e]⟩
/-- What is told in it is told once. -/
def ApartN (a : List Int) : Prop := ∀ i j : Nat, i < a.length → j < a.length → i ≠ j → 0 ≤ gt a (i : Int) → gt a (i : Int) ≠ gt a (j : Int)
theorem apart_set {a : List Int} {k : Nat} {v : Int} (h : ApartN a) (hv : v ∉ a) (hk : k < a.length) : ApartN (a.set k v) := by
  intro i j hi hj hne h0
  rw [List.length_set] at hi hj
  rw [gt_setG hk (by omega) (by omega)] at h0 ⊢
  rw [gt_setG hk (by omega) (by omega)]
  by_cases c1 : (i : Int) = k
  · rw [if_pos c1, if_neg (by omega)]; exact fun e => hv (e ▸ gt_mem hj)
  · rw [if_neg c1] at h0 ⊢
    by_cases c2 : (j : Int) = k
    · rw [if_pos c2]; exact fun e => hv (e ▸ gt_mem hi)
    · rw [if_neg c2]; exact h i j hi hj hne h0
theorem lfree_lt {a : List Int} {k : Nat} (hk : k < a.length) (ha : gt a (k : Int) < 0) : lfree a < a.length := by
  obtain ⟨s1, s2, s3⟩ := lfree_spec a
  rcases Nat.lt_or_ge (lfree a) a.length with h | h
  · exact h
  · exfalso
    have e : lfree a = a.length := by omega
    have := nodup_len' (l := gt a (k : Int) :: (List.range a.length).map fun n : Nat => (n : Int)) (m := a) (by
      refine List.nodup_cons.2 ⟨fun h => ?_, ?_⟩
      · obtain ⟨n, _, hn⟩ := List.mem_map.1 h; omega
      · unfold List.Nodup
        rw [List.pairwise_map]
        exact List.pairwise_lt_range.imp (fun h => by omega)) (fun x hx => by
      rcases List.mem_cons.1 hx with rfl | hx
      · exact gt_mem hk
      · obtain ⟨n, hn, rfl⟩ := List.mem_map.1 hx
        exact s3 n (by rw [e]; exact List.mem_range.1 hn))
    simp only [List.length_cons, List.length_map, List.length_range] at this
    omega
/-- Homes: apart, each below B. -/
structure HomeOk (B r : Int) (h : List Int) : Prop where
  len : (h.length : Int) = r
  apart : ApartN h
  rng : ∀ i : Nat, i < h.length → 0 ≤ gt h (i : Int) ∧ gt h (i : Int) < B
theorem gv1_ok {from_ src : List Int} {B : Int} (hf : ∀ v ∈ from_, 0 ≤ v ∧ v < B) (hs : ∀ i : Nat, i < src.length → gt src (i : Int) < from_.length) : ∀ k, k ≤ src.length → ApartN (gv1 from_ src k) ∧ ∀ i : Nat, i < src.length → gt (gv1 from_ src k) (i : Int) = -1 ∨ (0 ≤ gt (gv1 from_ src k) (i : Int) ∧ gt (gv1 from_ src k) (i : Int) < B)
  | 0, _ => by
    have h0 : ∀ i : Nat, i < src.length → gt (gv1 from_ src 0) (i : Int) = -1 := fun i hi => gv1_behind from_ src 0 i (Nat.zero_le _) hi
    refine ⟨fun i j hi hj hne h => ?_, fun i hi => .inl (h0 i hi)⟩
    rw [gv1_len] at hi
    rw [h0 i hi] at h; omega
  | k + 1, hk => by
    obtain ⟨ih1, ih2⟩ := gv1_ok hf hs k (by omega)
    unfold gv1
    split
    · rename_i c
      have hv : 0 ≤ gt from_ (gt src (k : Int)) ∧ gt from_ (gt src (k : Int)) < B := by
        apply hf
        obtain ⟨m, hm⟩ : ∃ m : Nat, gt src (k : Int) = (m : Int) := ⟨(gt src (k : Int)).toNat, by omega⟩
        have := hs k (by omega)
        rw [hm] at this ⊢
        exact gt_mem (by omega)
      refine ⟨apart_set ih1 c.2 (by rw [gv1_len]; omega), fun i hi => ?_⟩
      rw [gt_setG (by rw [gv1_len]; omega) (by omega) (by rw [gv1_len]; omega)]
      by_cases c1 : (i : Int) = k
      · rw [if_pos c1]; exact .inr hv
      · rw [if_neg c1]; exact ih2 i hi
    · exact ⟨ih1, ih2⟩
theorem gv2_ok {a : List Int} {B : Int} (hB : (a.length : Int) ≤ B) (h1 : ApartN a) (h2 : ∀ i : Nat, i < a.length → gt a (i : Int) = -1 ∨ (0 ≤ gt a (i : Int) ∧ gt a (i : Int) < B)) : ∀ k, k ≤ a.length → ApartN (gv2 a k) ∧ (∀ i : Nat, i < a.length → gt (gv2 a k) (i : Int) = -1 ∨ (0 ≤ gt (gv2 a k) (i : Int) ∧ gt (gv2 a k) (i : Int) < B)) ∧ ∀ i : Nat, i < k → 0 ≤ gt (gv2 a k) (i : Int)
  | 0, _ => ⟨h1, h2, fun i hi => by omega⟩
  | k + 1, hk => by
    obtain ⟨i1, i2, i3⟩ := gv2_ok hB h1 h2 k (by omega)
    have hlen := gv2_len a k
    unfold gv2
    split
    · rename_i c
      have hkl : k < (gv2 a k).length := by omega
      have hlt := lfree_lt hkl c
      refine ⟨apart_set i1 (lfree_spec _).1 hkl, fun i hi => ?_, fun i hi => ?_⟩
      · rw [gt_setG hkl (by omega) (by omega)]
        by_cases c1 : (i : Int) = k
        · rw [if_pos c1]; exact .inr ⟨by omega, by omega⟩
        · rw [if_neg c1]; exact i2 i hi
      · rw [gt_setG hkl (by omega) (by omega)]
        by_cases c1 : (i : Int) = k
        · rw [if_pos c1]; omega
        · rw [if_neg c1]; exact i3 i (by omega)
    · rename_i c
      refine ⟨i1, i2, fun i hi => ?_⟩
      by_cases c1 : i = k
      · subst c1; omega
      · exact i3 i (by omega)
theorem giveL_ok {from_ src : List Int} {B r : Int} (hf : ∀ v ∈ from_, 0 ≤ v ∧ v < B) (hs : ∀ i : Nat, i < src.length → gt src (i : Int) < from_.length) (hr : (src.length : Int) = r) (hB : r ≤ B) : HomeOk B r (giveL from_ src) := by
  obtain ⟨a1, a2⟩ := gv1_ok hf hs src.length (Nat.le_refl _)
  have hl := gv1_len from_ src src.length
  obtain ⟨b1, b2, b3⟩ := gv2_ok (a := gv1 from_ src src.length) (B := B) (by omega) a1 (fun i hi => a2 i (by omega)) src.length (by omega)
  have hg : (giveL from_ src).length = src.length := by unfold giveL; rw [gv2_len, gv1_len]
  refine ⟨by rw [hg]; exact hr, b1, fun i hi => ?_⟩
  rw [hg] at hi
  have h0 := b3 i hi
  rcases b2 i (by omega) with h | h
  · have h0' : 0 ≤ gt (giveL from_ src) (i : Int) := h0
    have h' : gt (giveL from_ src) (i : Int) = -1 := h
    omega
  · exact h
end Go.Proofs.Ytjkoiijpmiibpaa
