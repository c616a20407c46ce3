/- A list of one thing, many times. Its conditions: none. -/
import Derived.Test.YtjkoiijpmiibpaaPIt
set_option autoImplicit false
namespace Go.Proofs.Ytjkoiijpmiibpaa
open Go.V Go.RowKit

theorem mul_one64 : ∀ k, k < 1001 → m_math_bits_Mul 0 (IntKind.wrap .u64 1) (IntKind.wrap .u64 ((k : Nat) : Int)) = some (0, (k : Int)) := by decide +kernel
theorem m_repeat {fuel k : Nat} {v : Int} (hk : k ≤ 1000) (hf : 1000 < fuel) : m_slices_Repeat_int_int fuel [v] (k : Int) = some (List.replicate k v) := by
  have hm : m_math_bits_Mul fuel (IntKind.wrap .u64 (([v].length : Nat) : Int)) (IntKind.wrap .u64 (k : Int)) = some (0, (k : Int)) := mul_one64 k (by omega)
  have loop : ∀ (m n fu : Nat), 1 ≤ n → n ≤ k → k - n ≤ m → m < fu → iter (m_slices_Repeat_int_int_l1 fuel (0, (k : Int)) [v]) fu (List.replicate n v ++ List.replicate (k - n) 0, (n : Int)) = some (List.replicate k v) := by
    intro m
    induction m with
    | zero =>
      intro n fu h1 h2 h3 h4
      obtain ⟨fu, rfl⟩ : ∃ q, fu = q + 1 := ⟨fu - 1, by omega⟩
      have : n = k := by omega
      subst this
      unfold iter m_slices_Repeat_int_int_l1
      simp
    | succ m ih =>
      intro n fu h1 h2 h3 h4
      obtain ⟨fu, rfl⟩ : ∃ q, fu = q + 1 := ⟨fu - 1, by omega⟩
      by_cases c : n = k
      · subst c
        unfold iter m_slices_Repeat_int_int_l1
        simp
      · have hlen : (List.replicate n v ++ List.replicate (k - n) (0 : Int)).length = k := by simp; omega
        have hcut : cutL (List.replicate n v ++ List.replicate (k - n) (0 : Int)) 0 (n : Int) = List.replicate n v := by
          unfold cutL
          simp
        have hci : copyIn (List.replicate n v ++ List.replicate (k - n) (0 : Int)) (n : Int) (n : Int) = List.replicate (n + min n (k - n)) v ++ List.replicate (k - (n + min n (k - n))) 0 := by
          unfold copyIn copyL
          rw [hcut]
          simp only [Int.toNat_natCast]
          rw [List.take_left' (by simp), List.drop_left' (by simp)]
          simp only [List.length_replicate, List.take_replicate, List.drop_replicate]
          rw [Nat.min_comm (k - n) n, show k - (n + min n (k - n)) = k - n - n by omega, ← List.append_assoc, List.replicate_append_replicate]
        have hst : m_slices_Repeat_int_int_l1 fuel (0, (k : Int)) [v] (List.replicate n v ++ List.replicate (k - n) 0, (n : Int)) = some (.next (List.replicate (n + min n (k - n)) v ++ List.replicate (k - (n + min n (k - n))) 0, ((n + min n (k - n) : Nat) : Int))) := by
          unfold m_slices_Repeat_int_int_l1
          have s1 : slOk (List.replicate n v ++ List.replicate (k - n) (0 : Int)) (n : Int) (k : Int) = true := by
            unfold slOk; rw [hlen]; simp; omega
          have s2 : slOk (List.replicate n v ++ List.replicate (k - n) (0 : Int)) 0 (n : Int) = true := by
            unfold slOk; rw [hlen]; simp; omega
          have hd : (n : Int) < (k : Int) := by omega
          have hmin : Nat.min n (k - n) ≤ n := Nat.min_le_left _ _
          simp only [hlen, hd, decide_true, if_true, s1, s2, hci, hcut, List.length_replicate, Int.toNat_natCast]
          rw [W_id (by omega) (by omega)]
          rfl
        unfold iter
        rw [hst]
        exact ih (n + min n (k - n)) fu (by omega) (by omega) (by omega) (by omega)
  unfold m_slices_Repeat_int_int
  have hk0 : ¬ (k : Int) < 0 := by omega
  simp only [hk0, decide_false, Bool.false_eq_true, if_false, hm, bind_some', show ¬ ((0 : Int) > 0) by omega, show ¬ ((k : Int) > 9223372036854775807) by omega, W_id (n := (k : Int)) (by omega) (by omega), Int.toNat_natCast]
  rw [if_pos (show mkOk 8 (k : Int) = true by unfold mkOk; simp; omega)]
  rcases Nat.eq_zero_or_pos k with h0 | h0
  · subst h0
    obtain ⟨fu, rfl⟩ : ∃ q, fuel = q + 1 := ⟨fuel - 1, by omega⟩
    simp [copyL, iter, m_slices_Repeat_int_int_l1]
  · have := loop k 1 fuel (by omega) (by omega) (by omega) (by omega)
    have hc : copyL (List.replicate k (0 : Int)) [v] = List.replicate 1 v ++ List.replicate (k - 1) 0 := by
      unfold copyL
      simp only [List.length_replicate, List.length_singleton, List.drop_replicate]
      rw [List.take_of_length_le (by simp; omega)]; rfl
    have hm2 : ((Nat.min [v].length (List.replicate k (0 : Int)).length : Nat) : Int) = ((1 : Nat) : Int) := by
      simp only [List.length_replicate, List.length_singleton]
      congr 1
      exact Nat.min_eq_left h0
    rw [hc, hm2, this]; rfl
end Go.Proofs.Ytjkoiijpmiibpaa
