/- Loops over plain data. Its conditions: none. -/
import Derived.Test.YtjkoiijpmiibpaaMo
import Derived.Test.YtjkoiijpmiibpaaVPl
set_option autoImplicit false
namespace Go.Proofs.Ytjkoiijpmiibpaa
open Go.V Go.RowKit

theorem iter_end {S ρ : Type} {body : S → Option (Ctl S ρ)} (n : Nat) (g : Nat → S) (res : ρ) (hs : ∀ i, i < n → body (g i) = some (.next (g (i + 1)))) (he : body (g n) = some (.done res)) {fu : Nat} (h : n < fu) : iter body fu (g 0) = some res := by
  have key : ∀ (k i fu : Nat), i + k = n → k < fu → iter body fu (g i) = some res := by
    intro k
    induction k with
    | zero =>
      intro i fu hi hfu
      obtain ⟨fu, rfl⟩ : ∃ m, fu = m + 1 := ⟨fu - 1, by omega⟩
      unfold iter
      rw [show i = n by omega, he]
    | succ k ih =>
      intro i fu hi hfu
      obtain ⟨fu, rfl⟩ : ∃ m, fu = m + 1 := ⟨fu - 1, by omega⟩
      unfold iter
      rw [hs i (by omega)]
      exact ih (i + 1) fu (by omega) (by omega)
  exact key n 0 fu (by omega) h
theorem iter_endI {ρ : Type} {body : Int → Option (Ctl Int ρ)} (n : Nat) (res : ρ) (hs : ∀ i : Nat, i < n → body (i : Int) = some (.next ((i + 1 : Nat) : Int))) (he : body (n : Int) = some (.done res)) {fu : Nat} (h : n < fu) : iter body fu 0 = some res :=
  iter_end n (fun i => (i : Int)) res hs he h
theorem first_bad (p : Nat → Prop) (n : Nat) : (∀ i, i < n → ¬ p i) ∨ ∃ i, i < n ∧ p i ∧ ∀ j, j < i → ¬ p j := by
  induction n with
  | zero => exact .inl fun i h => by omega
  | succ n ih =>
    rcases ih with h | ⟨i, h1, h2, h3⟩
    · by_cases c : p n
      · exact .inr ⟨n, by omega, c, h⟩
      · refine .inl fun i hi => ?_
        by_cases e : i = n
        · rw [e]; exact c
        · exact h i (by omega)
    · exact .inr ⟨i, by omega, h2, h3⟩
theorem gtE {α : Type} [Inhabited α] {l : List α} {i : Nat} (h : i < l.length) : gt l (i : Int) = l[i] := gt_get_nat (by simp [h])
open Classical in
/-- A loop that ends with 'false' at the first thing that is not as it must be. -/
theorem iter_chk {body : Int → Option (Ctl Int (Unit ⊕ Bool))} (n : Nat) (c : Nat → Prop) (hs : ∀ i : Nat, i < n → body (i : Int) = if c i then some (.next ((i + 1 : Nat) : Int)) else some (.done (.inr false))) (he : body (n : Int) = some (.done (.inl ()))) {fu : Nat} (h : n < fu) :
    iter body fu 0 = some (if ∀ i, i < n → c i then .inl () else .inr false) := by
  rcases first_bad (fun i => ¬ c i) n with h1 | ⟨i, h1, h2, h3⟩
  · have h1' : ∀ i, i < n → c i := fun i hi => Classical.not_not.1 (h1 i hi)
    rw [if_pos h1']
    exact iter_endI n _ (fun i hi => by rw [hs i hi, if_pos (h1' i hi)]) he h
  · rw [if_neg (fun ha => h2 (ha i h1))]
    exact iter_endI i _ (fun j hj => by rw [hs j (by omega), if_pos (Classical.not_not.1 (h3 j hj))]) (by rw [hs i h1, if_neg h2]) (by omega)
open Classical in
/-- .. with a state that goes on as it must while all is well. -/
theorem iter_chkS {S : Type} {body : S × Int → Option (Ctl (S × Int) (Unit ⊕ Bool))} (n : Nat) (g : Nat → S) (c : Nat → Prop) (hs : ∀ i : Nat, i < n → (∀ j, j < i → c j) → body (g i, (i : Int)) = if c i then some (.next (g (i + 1), ((i + 1 : Nat) : Int))) else some (.done (.inr false))) (he : body (g n, (n : Int)) = some (.done (.inl ()))) {fu : Nat} (h : n < fu) :
    iter body fu (g 0, 0) = some (if ∀ i, i < n → c i then .inl () else .inr false) := by
  rcases first_bad (fun i => ¬ c i) n with h1 | ⟨i, h1, h2, h3⟩
  · have h1' : ∀ i, i < n → c i := fun i hi => Classical.not_not.1 (h1 i hi)
    rw [if_pos h1']
    exact iter_end n (fun i => (g i, (i : Int))) _ (fun i hi => by rw [hs i hi (fun j hj => h1' j (by omega)), if_pos (h1' i hi)]) he h
  · have h3' : ∀ j, j < i → c j := fun j hj => Classical.not_not.1 (h3 j hj)
    rw [if_neg (fun ha => h2 (ha i h1))]
    exact iter_end i (fun i => (g i, (i : Int))) _ (fun j hj => by rw [hs j (by omega) (fun k hk => h3' k (by omega)), if_pos (h3' j hj)]) (by rw [hs i h1 h3', if_neg h2]) (by omega)
/-- .. with a state that is told by what holds of it. -/
theorem iter_inv {S ρ : Type} {body : S × Int → Option (Ctl (S × Int) ρ)} (I : Nat → S → Prop) (R : ρ → Prop) (n : Nat) (hs : ∀ i : Nat, i < n → ∀ s, I i s → ∃ s', body (s, (i : Int)) = some (.next (s', ((i + 1 : Nat) : Int))) ∧ I (i + 1) s')
    (he : ∀ s, I n s → ∃ r, body (s, (n : Int)) = some (.done r) ∧ R r) {fu : Nat} (h : n < fu) (s0 : S) (h0 : I 0 s0) : ∃ r, iter body fu (s0, 0) = some r ∧ R r := by
  have key : ∀ (k i fu : Nat) (s : S), i + k = n → k < fu → I i s → ∃ r, iter body fu (s, (i : Int)) = some r ∧ R r := by
    intro k
    induction k with
    | zero =>
      intro i fu s hi hfu hI
      obtain ⟨fu, rfl⟩ : ∃ m, fu = m + 1 := ⟨fu - 1, by omega⟩
      obtain rfl : i = n := by omega
      obtain ⟨r, h1, h2⟩ := he s hI
      exact ⟨r, by unfold iter; rw [h1], h2⟩
    | succ k ih =>
      intro i fu s hi hfu hI
      obtain ⟨fu, rfl⟩ : ∃ m, fu = m + 1 := ⟨fu - 1, by omega⟩
      obtain ⟨s', h1, h2⟩ := hs i (by omega) s hI
      obtain ⟨r, h3, h4⟩ := ih (i + 1) fu s' (by omega) (by omega) h2
      exact ⟨r, by unfold iter; rw [h1]; exact h3, h4⟩
  exact key n 0 fu s0 (by omega) h h0
theorem gt_setG {α : Type} [Inhabited α] {l : List α} {i : Nat} {v : α} {j : Int} (hi : i < l.length) (h0 : 0 ≤ j) (hj : j < l.length) : gt (l.set i v) j = if j = (i : Int) then v else gt l j := by
  obtain ⟨k, rfl⟩ : ∃ k : Nat, j = (k : Int) := ⟨j.toNat, by omega⟩
  rw [gtE (show k < (l.set i v).length by rw [List.length_set]; omega), gtE (show k < l.length by omega), List.getElem_set]
  by_cases c : i = k
  · subst c; simp
  · rw [if_neg c, if_neg (by omega)]
theorem take_gt {α : Type} [Inhabited α] {l : List α} {i : Nat} (h : i < l.length) : l.take (i + 1) = l.take i ++ [gt l (i : Int)] := by
  rw [List.take_add_one, List.getElem?_eq_getElem h, gtE h]; rfl
end Go.Proofs.Ytjkoiijpmiibpaa
