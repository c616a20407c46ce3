/- Which of two rows is ahead: an order. Its conditions: none. -/
import Derived.Test.YtfhehbfifffipaaPTot
set_option autoImplicit false
namespace Go.Proofs.Ytfhehbfifffipaa
open Go.V Go.RowKit

theorem aheadL_rng (P Q : List Int) : ∀ (n : Nat) (r : Int), aheadL P Q n = some r → r = -1 ∨ r = 1
  | 0, r, h => by simp [aheadL] at h
  | n + 1, r, h => by
    unfold aheadL at h
    split at h
    · exact aheadL_rng P Q n r h
    · simp only [Option.some.injEq] at h; subst h; split <;> simp
theorem aheadL_symm (P Q : List Int) : ∀ n : Nat, aheadL Q P n = (aheadL P Q n).map fun r => -r
  | 0 => rfl
  | n + 1 => by
    unfold aheadL
    by_cases c : gt P (n : Int) = gt Q (n : Int)
    · rw [if_pos c, if_pos c.symm]; exact aheadL_symm P Q n
    · rw [if_neg c, if_neg (Ne.symm c)]
      by_cases c2 : gt Q (n : Int) < gt P (n : Int)
      · rw [if_pos c2, if_neg (by omega)]; rfl
      · rw [if_neg c2, if_pos (by omega)]; rfl
theorem aheadL_none (P Q : List Int) : ∀ n : Nat, aheadL P Q n = none → ∀ j : Nat, j < n → gt P (j : Int) = gt Q (j : Int)
  | 0, _, j, hj => by omega
  | n + 1, h, j, hj => by
    unfold aheadL at h
    split at h
    · rename_i c
      by_cases e : j = n
      · subst e; exact c
      · exact aheadL_none P Q n h j (by omega)
    · cases h
theorem aheadL_congr (P P' Q Q' : List Int) : ∀ n : Nat, (∀ j : Nat, j < n → gt P (j : Int) = gt P' (j : Int)) → (∀ j : Nat, j < n → gt Q (j : Int) = gt Q' (j : Int)) → aheadL P Q n = aheadL P' Q' n
  | 0, _, _ => rfl
  | n + 1, h1, h2 => by
    unfold aheadL
    rw [h1 n (by omega), h2 n (by omega), aheadL_congr P P' Q Q' n (fun j hj => h1 j (by omega)) (fun j hj => h2 j (by omega))]
/-- Not behind. -/
def nb (o : Option Int) : Prop := o = none ∨ o = some (-1)
theorem aheadL_trans (P Q R : List Int) : ∀ n : Nat, nb (aheadL P Q n) → nb (aheadL Q R n) → nb (aheadL P R n) ∧ ((aheadL P Q n = some (-1) ∨ aheadL Q R n = some (-1)) → aheadL P R n = some (-1))
  | 0, _, _ => ⟨.inl rfl, fun h => by simp [aheadL] at h⟩
  | n + 1, h1, h2 => by
    unfold aheadL at h1 h2 ⊢
    by_cases c1 : gt P (n : Int) = gt Q (n : Int)
    · by_cases c2 : gt Q (n : Int) = gt R (n : Int)
      · simp only [c1, c2, if_true] at h1 h2 ⊢
        exact aheadL_trans P Q R n h1 h2
      · have c3 : gt P (n : Int) ≠ gt R (n : Int) := by rw [c1]; exact c2
        rw [if_neg c2] at h2
        rw [if_neg c2, if_neg c3]
        rcases h2 with h2 | h2
        · cases h2
        · simp only [Option.some.injEq] at h2
          split at h2
          · rw [if_pos (by omega)]; exact ⟨.inr rfl, fun _ => rfl⟩
          · omega
    · rw [if_neg c1] at h1
      rcases h1 with h1 | h1
      · cases h1
      · simp only [Option.some.injEq] at h1
        split at h1
        · rename_i c4
          by_cases c2 : gt Q (n : Int) = gt R (n : Int)
          · have c3 : gt P (n : Int) ≠ gt R (n : Int) := by rw [← c2]; exact c1
            rw [if_neg c3, if_pos (by omega)]; exact ⟨.inr rfl, fun _ => rfl⟩
          · rw [if_neg c2] at h2
            rcases h2 with h2 | h2
            · cases h2
            · simp only [Option.some.injEq] at h2
              split at h2
              · rw [if_neg (show ¬ gt P (n : Int) = gt R (n : Int) by omega), if_pos (by omega)]; exact ⟨.inr rfl, fun _ => rfl⟩
              · omega
        · omega
theorem forkV_def {s t : Int} (hs : 0 ≤ s) (ht : 0 ≤ t) : forkV s t = if s % 2 = t % 2 then (if s < t then -1 else 1) else s % 2 - t % 2 := by
  unfold forkV
  rw [Int.tmod_eq_emod_of_nonneg hs, Int.tmod_eq_emod_of_nonneg ht]
  by_cases c : s % 2 = t % 2 <;> simp [c]
theorem forkV_anti {s t : Int} (hs : 0 ≤ s) (ht : 0 ≤ t) (h : s ≠ t) : forkV t s = - forkV s t ∧ (forkV s t = -1 ∨ forkV s t = 1) := by
  rw [forkV_def hs ht, forkV_def ht hs]
  by_cases c : s % 2 = t % 2
  · rw [if_pos c, if_pos c.symm]
    by_cases c2 : s < t
    · rw [if_pos c2, if_neg (by omega)]; simp
    · rw [if_neg c2, if_pos (by omega)]; simp
  · rw [if_neg c, if_neg (Ne.symm c)]; omega
theorem forkV_trans {s t u : Int} (hs : 0 ≤ s) (ht : 0 ≤ t) (hu : 0 ≤ u) (h1 : forkV s t = -1) (h2 : forkV t u = -1) : forkV s u = -1 ∧ s ≠ u := by
  rw [forkV_def hs ht] at h1
  rw [forkV_def ht hu] at h2
  rw [forkV_def hs hu]
  by_cases c1 : s % 2 = t % 2 <;> by_cases c2 : t % 2 = u % 2
  · rw [if_pos c1] at h1; rw [if_pos c2] at h2
    split at h1 <;> split at h2
    · rw [if_pos (by omega), if_pos (by omega)]; omega
    all_goals omega
  · rw [if_pos c1] at h1; rw [if_neg c2] at h2; rw [if_neg (by omega)]; omega
  · rw [if_neg c1] at h1; rw [if_pos c2] at h2; rw [if_neg (by omega)]; omega
  · omega

def mn (a b : Int) : Int := if a < b then a else b
theorem low_mn : ∀ (xs : List Int) (n a b : Int), xs.foldl lowStep (n, mn a b) = ((xs.foldl lowStep (n, b)).1, mn a (xs.foldl lowStep (n, b)).2)
  | [], n, a, b => rfl
  | x :: xs, n, a, b => by
    simp only [List.foldl_cons, lowStep]
    by_cases c : Int.tmod x 2 = 0
    · simp only [c, if_true]; exact low_mn xs _ a b
    · simp only [c, if_false]
      have e : (if n < mn a b then n else mn a b) = mn a (if n < b then n else b) := by
        unfold mn
        (repeat' split) <;> omega
      rw [e]; exact low_mn xs _ a _
theorem lowsR_mn : ∀ (fs : List (List Int)) (n a b : Int), lowsR (n, mn a b) fs = (lowsR (n, b) fs).map (mn a)
  | [], n, a, b => rfl
  | f :: fs, n, a, b => by
    simp only [lowsR, low_mn, List.map_cons]
    rw [lowsR_mn fs]
theorem low_le_depth : ∀ (xs : List Int) (n low : Int), low ≤ n + 1 → (xs.foldl lowStep (n, low)).2 ≤ (xs.foldl lowStep (n, low)).1 + 1
  | [], n, low, h => h
  | x :: xs, n, low, h => by
    simp only [List.foldl_cons, lowStep]
    by_cases c : Int.tmod x 2 = 0
    · simp only [c, if_true]; exact low_le_depth xs _ _ (by omega)
    · simp only [c, if_false]; exact low_le_depth xs _ _ (by split <;> omega)
theorem low_down : ∀ (xs : List Int) (n low : Int), (xs.foldl lowStep (n, low)).2 ≤ low
  | [], n, low => by simp
  | x :: xs, n, low => by
    simp only [List.foldl_cons, lowStep]
    by_cases c : Int.tmod x 2 = 0
    · simp only [c, if_true]; exact low_down xs _ _
    · simp only [c, if_false]
      have := low_down xs (n - 1) (if n < low then n else low)
      split at this <;> split <;> omega
theorem lowsR_le : ∀ (fs : List (List Int)) (n low : Int), ∀ x ∈ lowsR (n, low) fs, x ≤ low
  | [], n, low, x, hx => by simp [lowsR] at hx
  | f :: fs, n, low, x, hx => by
    have h1 := low_down f n low
    simp only [lowsR, List.mem_cons] at hx
    rcases hx with rfl | hx
    · exact h1
    · have := lowsR_le fs (f.foldl lowStep (n, low)).1 (f.foldl lowStep (n, low)).2 x hx
      omega
theorem lowsR_down : ∀ (fs : List (List Int)) (s : Int × Int), (lowsR s fs).Pairwise fun a b => b ≤ a
  | [], s => List.Pairwise.nil
  | f :: fs, s => by
    simp only [lowsR]
    exact List.Pairwise.cons (fun x hx => lowsR_le fs _ _ x hx) (lowsR_down fs _)
theorem lowsR_split (B : List (List Int)) (mid tl : List Int) (rest : List (List Int)) : ∀ s : Int × Int, lowsR s (B ++ (mid ++ tl) :: rest) = lowsR s B ++ lowsR (mid.foldl lowStep (B.flatten.foldl lowStep s)) (tl :: rest) := by
  induction B with
  | nil => intro s; simp [lowsR, List.foldl_append]
  | cons b B ih =>
    intro s
    have h := ih (b.foldl lowStep s)
    rw [List.cons_append]
    rw [show lowsR s (b :: (B ++ (mid ++ tl) :: rest)) = (b.foldl lowStep s).2 :: lowsR (b.foldl lowStep s) (B ++ (mid ++ tl) :: rest) from rfl, h]
    rw [show lowsR s (b :: B) = (b.foldl lowStep s).2 :: lowsR (b.foldl lowStep s) B from rfl, List.flatten_cons, List.foldl_append, List.cons_append]

theorem depthAt_of {N : Nat} {x : List (List Int)} {k i : Nat} {s : List Nat} (h : nestS N [] ((x.take k).flatten ++ (gt x (k : Int)).take i) = some s) : depthAt N x k i = s.length := by
  rw [nestS_append] at h
  simp [depthAt, h]
theorem flat_cut {x : List (List Int)} {k : Nat} (hk : k < x.length) (i : Nat) : x.flatten = ((x.take k).flatten ++ (gt x (k : Int)).take i) ++ ((gt x (k : Int)).drop i :: x.drop (k + 1)).flatten := by
  have e : x = x.take k ++ gt x (k : Int) :: x.drop (k + 1) := by rw [← drop_cons hk, List.take_append_drop]
  conv => lhs; rw [e]
  simp only [List.flatten_append, List.flatten_cons, List.append_assoc]
  rw [← List.append_assoc ((gt x (k : Int)).take i), List.take_append_drop]
/-- Lows from a fork on, by those from a later one on. -/
theorem lows_rel {N : Nat} {x : List (List Int)} {s : List Nat} (h : nestS N [] x.flatten = some s) {k i k' i' : Nat} (hk : k < x.length) (hk' : k' < x.length) {B : List (List Int)} {mid : List Int}
    (hB : (gt x (k : Int)).drop i :: x.drop (k + 1) = B ++ (mid ++ (gt x (k' : Int)).drop i') :: x.drop (k' + 1)) :
    lowsAt N x k i = lowsR ((depthAt N x k i : Int), (depthAt N x k i : Int) + 1) B ++ (lowsAt N x k' i').map (mn (mid.foldl lowStep (B.flatten.foldl lowStep ((depthAt N x k i : Int), (depthAt N x k i : Int) + 1))).2) := by
  have c1 := flat_cut hk i
  have c2 := flat_cut hk' i'
  have hc : ((x.take k).flatten ++ (gt x (k : Int)).take i) ++ (B.flatten ++ mid) = (x.take k').flatten ++ (gt x (k' : Int)).take i' := by
    rw [hB] at c1
    rw [c1] at c2
    have : ((x.take k).flatten ++ (gt x (k : Int)).take i ++ (B.flatten ++ mid)) ++ ((gt x (k' : Int)).drop i' :: x.drop (k' + 1)).flatten = ((x.take k').flatten ++ (gt x (k' : Int)).take i') ++ ((gt x (k' : Int)).drop i' :: x.drop (k' + 1)).flatten := by
      rw [← c2]; simp [List.append_assoc]
    exact List.append_cancel_right this
  rw [c1, nestS_append] at h
  cases n1 : nestS N [] ((x.take k).flatten ++ (gt x (k : Int)).take i) with
  | none => rw [n1] at h; cases h
  | some s1 =>
    have h' := h
    rw [n1] at h
    simp only [Option.bind_some] at h
    rw [hB] at h
    simp only [List.flatten_append, List.flatten_cons, nestS_append] at h
    have d1 := depthAt_of n1
    cases n2 : nestS N s1 B.flatten with
    | none => rw [n2] at h; cases h
    | some s2 =>
      rw [n2] at h
      simp only [Option.bind_some] at h
      cases n3 : nestS N s2 mid with
      | none => rw [n3] at h; cases h
      | some s3 =>
        have n4 : nestS N [] ((x.take k').flatten ++ (gt x (k' : Int)).take i') = some s3 := by
          rw [← hc, nestS_append, n1]
          simp [nestS_append, n2, n3]
        have d2 := depthAt_of n4
        have e1 : ((B.flatten ++ mid).foldl lowStep ((s1.length : Int), (s1.length : Int) + 1)).1 = (s3.length : Int) := lowStep_depth _ _ _ _ (by rw [nestS_append, n2]; exact n3)
        have e2 := low_le_depth (B.flatten ++ mid) (s1.length : Int) ((s1.length : Int) + 1) (by omega)
        rw [List.foldl_append] at e1 e2
        unfold lowsAt LowsF
        rw [d1, d2, hB, lowsR_split]
        congr 1
        generalize hm : mid.foldl lowStep (B.flatten.foldl lowStep ((s1.length : Int), (s1.length : Int) + 1)) = r at *
        have e3 : r = ((s3.length : Int), mn r.2 ((s3.length : Int) + 1)) := by
          have : mn r.2 ((s3.length : Int) + 1) = r.2 := by unfold mn; split <;> omega
          rw [this, ← e1]
        conv => lhs; rw [e3]
        rw [lowsR_mn]
end Go.Proofs.Ytfhehbfifffipaa
