/- Terms as trees, and what tells whether a list is one. Its conditions: none. -/
import Derived.Test.YtfhehbfifffipaaVPl
import Derived.Test.YtfhehbfifffipaaMo
set_option autoImplicit false
namespace Go.Proofs.Ytfhehbfifffipaa
open Go.V Go.RowKit

def Z4 : List Int := [0, 0, 0, 0]
inductive Tm where
  | eps | leaf (s : List Int) | cat (a b : Tm) | alt (a b : Tm) | star (a : Tm) | maybe (a : Tm) | group (n : Int) (a : Tm) | iter (a : Tm)
def Tm.size : Tm → Nat
  | .eps => 1 | .leaf _ => 1 | .cat a b => a.size + b.size + 1 | .alt a b => a.size + b.size + 1
  | .star a => a.size + 1 | .maybe a => a.size + 1 | .group _ a => a.size + 1 | .iter a => a.size + 1
theorem Tm.size_pos (t : Tm) : 0 < t.size := by cases t <;> simp [Tm.size]
def Tm.top (t : Tm) (lo : Nat) : Nat := lo + t.size - 1
/-- The node of a tree that begins at lo. -/
def Tm.node (lo : Nat) : Tm → MTerm
  | .eps => ⟨1, -1, -1, 0, Z4⟩
  | .leaf s => ⟨2, -1, -1, 0, s⟩
  | .cat a b => ⟨3, (a.top lo : Int), (b.top (lo + a.size) : Int), 0, Z4⟩
  | .alt a b => ⟨4, (a.top lo : Int), (b.top (lo + a.size) : Int), 0, Z4⟩
  | .star a => ⟨5, (a.top lo : Int), -1, 0, Z4⟩
  | .maybe a => ⟨6, (a.top lo : Int), -1, 0, Z4⟩
  | .group n a => ⟨7, (a.top lo : Int), -1, n, Z4⟩
  | .iter a => ⟨8, (a.top lo : Int), -1, 0, Z4⟩
def Tm.flat (lo : Nat) : Tm → List MTerm
  | .eps => [Tm.node lo .eps]
  | .leaf s => [Tm.node lo (.leaf s)]
  | .cat a b => a.flat lo ++ b.flat (lo + a.size) ++ [Tm.node lo (.cat a b)]
  | .alt a b => a.flat lo ++ b.flat (lo + a.size) ++ [Tm.node lo (.alt a b)]
  | .star a => a.flat lo ++ [Tm.node lo (.star a)]
  | .maybe a => a.flat lo ++ [Tm.node lo (.maybe a)]
  | .group n a => a.flat lo ++ [Tm.node lo (.group n a)]
  | .iter a => a.flat lo ++ [Tm.node lo (.iter a)]
theorem Tm.flat_len (t : Tm) : ∀ lo, (t.flat lo).length = t.size := by
  induction t <;> intro lo <;> simp [Tm.flat, Tm.size, *] <;> omega

/-- What 'low' tells. -/
def lowAt (l : List MTerm) (a : List Int) (i : Nat) : Int :=
  let x := gt l (i : Int)
  if x.Kind = 1 ∨ x.Kind = 2 then (if x.A = -1 ∧ x.B = -1 then (i : Int) else -1)
  else if x.Kind = 3 ∨ x.Kind = 4 then (if x.B = (i : Int) - 1 ∧ 0 ≤ x.B ∧ 0 ≤ x.A ∧ x.A = gt a x.B - 1 then gt a x.A else -1)
  else if x.Kind = 5 ∨ x.Kind = 6 ∨ x.Kind = 7 ∨ x.Kind = 8 then (if x.B = -1 ∧ 0 ≤ x.A ∧ x.A = (i : Int) - 1 then gt a x.A else -1)
  else -1
def noSet (x : MTerm) : Bool := gt x.Set 0 == 0 && (gt x.Set 1 == 0 && (gt x.Set 2 == 0 && gt x.Set 3 == 0))
def fieldsB (x : MTerm) : Bool := (x.Kind == 2 || noSet x) && (if x.Kind == 7 then decide (1 ≤ x.N) && decide (x.N ≤ 9) else x.N == 0)
def againB (x : MTerm) (seg : List MTerm) : Bool := x.Kind == 7 && seg.any fun y => y.Kind == 7 && y.N == x.N
def segL (l : List MTerm) (a i : Nat) : List MTerm := (l.drop a).take (i - a)
def goodB (l : List MTerm) (a : List Int) (i : Nat) : Bool := decide (0 ≤ lowAt l a i) && fieldsB (gt l (i : Int)) && !againB (gt l (i : Int)) (segL l (lowAt l a i).toNat i)
def lowsN (l : List MTerm) : Nat → Option (List Int)
  | 0 => some []
  | i + 1 => match lowsN l i with
    | none => none
    | some a => if goodB l a i then some (a ++ [lowAt l a i]) else none
def leavesN (l : List MTerm) : Nat → Nat
  | 0 => 0
  | i + 1 => leavesN l i + if (gt l (i : Int)).Kind = 2 then 1 else 0
theorem leavesN_le (l : List MTerm) : ∀ i, leavesN l i ≤ i
  | 0 => Nat.le_refl _
  | i + 1 => by have := leavesN_le l i; simp only [leavesN]; split <;> omega
def LowF (l : List MTerm) : List Int :=
  match lowsN l l.length with
  | none => []
  | some a => if l.length = 0 ∨ 400 < l.length ∨ 64 < leavesN l l.length ∨ gt a ((l.length : Int) - 1) ≠ 0 then [] else a
def RightB (l : List MTerm) : Bool := !(LowF l).isEmpty

/-- What is so of lows. -/
structure LowOk (a : List Int) (i : Nat) : Prop where
  len : a.length = i
  rng : ∀ j : Nat, j < i → 0 ≤ gt a (j : Int) ∧ gt a (j : Int) ≤ j
theorem lowAt_rng {l : List MTerm} {a : List Int} {i : Nat} (h : LowOk a i) (h0 : 0 ≤ lowAt l a i) : lowAt l a i ≤ i := by
  have hr : ∀ z : Int, 0 ≤ z → z < i → gt a z ≤ z := fun z h1 h2 => by
    have := (h.rng z.toNat (by omega)).2
    rwa [show ((z.toNat : Nat) : Int) = z from by omega] at this
  have hr0 : ∀ z : Int, 0 ≤ z → z < i → 0 ≤ gt a z := fun z h1 h2 => by
    have := (h.rng z.toNat (by omega)).1
    rwa [show ((z.toNat : Nat) : Int) = z from by omega] at this
  revert h0
  unfold lowAt
  simp only
  generalize gt l (i : Int) = x
  repeat' split
  all_goals intro h0
  all_goals first
    | omega
    | (rename_i h1; have a1 := hr x.A (by omega) (by first | omega | (have := hr x.B (by omega) (by omega); omega)); first | omega | (have := hr x.B (by omega) (by omega); omega))
theorem LowOk.snoc {l : List MTerm} {a : List Int} {i : Nat} (h : LowOk a i) (h0 : 0 ≤ lowAt l a i) : LowOk (a ++ [lowAt l a i]) (i + 1) := by
  refine ⟨by simp [h.len], fun j hj => ?_⟩
  by_cases e : j = i
  · subst e
    rw [gt_append_right h.len.symm]
    exact ⟨h0, lowAt_rng h h0⟩
  · rw [gt_append_left (by omega) (by rw [h.len]; omega)]
    exact h.rng j (by omega)
theorem lowsN_ok {l : List MTerm} : ∀ {i : Nat} {a : List Int}, lowsN l i = some a → LowOk a i
  | 0, a, h => by simp [lowsN] at h; subst h; exact ⟨rfl, fun j hj => by omega⟩
  | i + 1, a, h => by
    simp only [lowsN] at h
    split at h
    · cases h
    · rename_i b hb
      split at h
      · rename_i hg
        cases h
        simp only [goodB, Bool.and_eq_true, decide_eq_true_eq] at hg
        exact (lowsN_ok hb).snoc hg.1.1
      · cases h

/-! The program's. -/
theorem m_low {l : List MTerm} {a : List Int} {i : Nat} (fuel : Nat) (hi : i < l.length) (ha : LowOk a i) (hb : i < 4611686018427387904) : m_term_low fuel l a (i : Int) = some (lowAt l a i) := by
  have hin : inb l (i : Int) = true := inb_true (by omega) (by omega)
  have hW : W ((i : Int) - 1) = (i : Int) - 1 := W_id (by omega) (by omega)
  have hr : ∀ z : Int, 0 ≤ z → z < i → gt a z ≤ z ∧ 0 ≤ gt a z := fun z h1 h2 => by
    have := ha.rng z.toNat (by omega)
    rwa [show ((z.toNat : Nat) : Int) = z from by omega, and_comm] at this
  have hl := ha.len
  unfold m_term_low lowAt
  simp only [hin, if_true, hW]
  generalize gt l (i : Int) = x
  have hia : ∀ z : Int, 0 ≤ z → z < i → inb a z = true := fun z h1 h2 => inb_true h1 (by omega)
  have hWA : 0 ≤ x.B → x.B < i → W (gt a x.B - 1) = gt a x.B - 1 := fun h1 h2 => W_id (by have := hr x.B h1 h2; omega) (by have := hr x.B h1 h2; omega)
  obtain ⟨k, A, B, N, S⟩ := x
  simp only at hWA ⊢
  by_cases c1 : k = 1 ∨ k = 2
  · have e1 : ((if (k == 1) = true then some (k == 1) else some (k == 2)) : Option Bool) = some true := by rcases c1 with rfl | rfl <;> rfl
    simp only [e1, bind_some', if_true, c1]
    by_cases hA : A = -1 <;> by_cases hB : B = -1 <;> simp [hA, hB]
  · have e1 : ((if (k == 1) = true then some (k == 1) else some (k == 2)) : Option Bool) = some false := by
      have : ¬ k = 1 := fun h => c1 (.inl h)
      have : ¬ k = 2 := fun h => c1 (.inr h)
      simp [*]
    simp only [e1, bind_some', Bool.false_eq_true, if_false, c1]
    by_cases c2 : k = 3 ∨ k = 4
    · have e2 : ((if (k == 3) = true then some (k == 3) else some (k == 4)) : Option Bool) = some true := by rcases c2 with rfl | rfl <;> rfl
      simp only [e2, bind_some', if_true, c2]
      by_cases hB : 0 ≤ B
      · by_cases hB2 : B = (i : Int) - 1
        · have h1i : (1 : Int) ≤ (i : Int) := by omega
          have hib := hia B hB (by omega)
          have hw := hWA hB (by omega)
          by_cases hA : 0 ≤ A
          · by_cases hA2 : A = gt a B - 1
            · have := hr B hB (by omega)
              have hiA := hia A hA (by omega)
              simp only [ge_iff_le, hB, hB2, hA, decide_true, if_true, beq_self_eq_true] at *
              simp only [hib, if_true, hw, bind_some', hA2, beq_self_eq_true]
              rw [← hA2]
              simp only [hiA, if_true, bind_some']
              simp [h1i]
            · simp only [ge_iff_le, hB, hB2, hA, decide_true, if_true, beq_self_eq_true] at *
              simp [hib, hw, hA2, h1i]
          · simp only [ge_iff_le, hB, hB2, hA, decide_true, decide_false, if_true, beq_self_eq_true] at *
            simp [hA]
        · simp [hB, hB2]
      · simp [hB]
    · have e2 : ((if (k == 3) = true then some (k == 3) else some (k == 4)) : Option Bool) = some false := by
        have : ¬ k = 3 := fun h => c2 (.inl h)
        have : ¬ k = 4 := fun h => c2 (.inr h)
        simp [*]
      simp only [e2, bind_some', Bool.false_eq_true, if_false, c2]
      by_cases c3 : k = 5 ∨ k = 6 ∨ k = 7 ∨ k = 8
      · have e3 : ((if (k == 5) = true then some (k == 5) else if (k == 6) = true then some (k == 6) else if (k == 7) = true then some (k == 7) else some (k == 8)) : Option Bool) = some true := by rcases c3 with rfl | rfl | rfl | rfl <;> rfl
        simp only [e3, bind_some', if_true, c3]
        by_cases hB : B = -1
        · by_cases hA : 0 ≤ A
          · by_cases hA2 : A = (i : Int) - 1
            · have hiA := hia A hA (by omega)
              have h1i : (1 : Int) ≤ (i : Int) := by omega
              simp only [ge_iff_le, hB, hA, hA2, decide_true, if_true, beq_self_eq_true] at *
              simp [hiA, h1i]
            · simp [hB, hA, hA2]
          · simp [hB, hA]
        · simp [hB]
      · have e3 : ((if (k == 5) = true then some (k == 5) else if (k == 6) = true then some (k == 6) else if (k == 7) = true then some (k == 7) else some (k == 8)) : Option Bool) = some false := by
          have : ¬ k = 5 := fun h => c3 (by simp [h])
          have : ¬ k = 6 := fun h => c3 (by simp [h])
          have : ¬ k = 7 := fun h => c3 (by simp [h])
          have : ¬ k = 8 := fun h => c3 (by simp [h])
          simp [*]
        simp only [e3, bind_some', Bool.false_eq_true, if_false, c3]
theorem m_fields (fuel : Nat) (x : MTerm) : m_term_fields fuel x = some (fieldsB x) := by
  unfold m_term_fields fieldsB noSet
  grind
theorem m_again (fuel : Nat) (x : MTerm) (seg : List MTerm) (hf : seg.length < fuel) (hs : seg.length < 4611686018427387904) : m_term_again fuel x seg = some (againB x seg) := by
  have key : ∀ k i, i + k = seg.length → ∃ t, iter (m_term_again_l1 fuel x seg) (k + 1) (i : Int) = some t ∧ (match t with | .inl _ => some false | .inr r => some r) = some (x.Kind == 7 && (seg.drop i).any fun y => y.Kind == 7 && y.N == x.N) := by
    intro k
    induction k with
    | zero =>
      intro i hi
      refine ⟨.inl (), ?_, ?_⟩
      · unfold iter m_term_again_l1
        have : ¬ ((i : Int) < (seg.length : Int)) := by omega
        simp [this]
      · rw [List.drop_of_length_le (by omega)]; simp
    | succ k ih =>
      intro i hi
      have hlt : i < seg.length := by omega
      have hin : inb seg (i : Int) = true := inb_true (by omega) (by omega)
      have hg : gt seg (i : Int) = seg[i] := gt_get_nat (by simp [hlt])
      have hd : seg.drop i = seg[i] :: seg.drop (i + 1) := List.drop_eq_getElem_cons hlt
      have hd1 : (i : Int) < (seg.length : Int) := by omega
      by_cases hx : (x.Kind == 7 && (seg[i].Kind == 7 && seg[i].N == x.N)) = true
      · refine ⟨.inr true, ?_, ?_⟩
        · unfold iter m_term_again_l1
          simp only [hd1, decide_true, if_true, hin, hg]
          grind
        · rw [hd]; simp only [List.any_cons]; grind
      · obtain ⟨t, h1, h2⟩ := ih (i + 1) (by omega)
        refine ⟨t, ?_, ?_⟩
        · unfold iter
          have : m_term_again_l1 fuel x seg (i : Int) = some (.next ((i + 1 : Nat) : Int)) := by
            unfold m_term_again_l1
            simp only [hd1, decide_true, if_true, hin, hg, W_succ (show i < 9223372036854775807 by omega)]
            grind
          rw [this]; exact h1
        · rw [h2, hd]; simp only [List.any_cons]; grind
  obtain ⟨t, h1, h2⟩ := key seg.length 0 (by omega)
  have mono : iter (m_term_again_l1 fuel x seg) fuel ((0 : Nat) : Int) = some t := iter_mono h1 (by omega)
  unfold m_term_again
  rw [show (0 : Int) = ((0 : Nat) : Int) from rfl, mono]
  rw [List.drop_zero] at h2
  cases t <;> simpa [againB] using h2
end Go.Proofs.Ytfhehbfifffipaa
