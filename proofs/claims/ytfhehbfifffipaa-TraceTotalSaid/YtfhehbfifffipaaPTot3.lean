/- Which of two runs is ahead: a total order. Its conditions: none. -/
import Derived.Test.YtfhehbfifffipaaPTot2
set_option autoImplicit false
namespace Go.Proofs.Ytfhehbfifffipaa
open Go.V Go.RowKit

theorem aheadL_same {P Q : List Int} : ∀ n : Nat, (∀ j : Nat, j < n → gt P (j : Int) = gt Q (j : Int)) → aheadL P Q n = none
  | 0, _ => rfl
  | n + 1, h => by
    unfold aheadL
    rw [if_pos (h n (by omega))]
    exact aheadL_same n (fun j hj => h j (by omega))
theorem gt_map_mn (m : Int) {P : List Int} {j : Nat} (h : j < P.length) : gt (P.map (mn m)) (j : Int) = mn m (gt P (j : Int)) := by
  rw [gt_get_nat (l := P.map (mn m)) (x := mn m P[j]) (by simp [h]), gt_get_nat (x := P[j]) (by simp [h])]
theorem down_gt {P : List Int} (h : P.Pairwise fun a b => b ≤ a) {i j : Nat} (hij : i < j) (hj : j < P.length) : gt P (j : Int) ≤ gt P (i : Int) := by
  rw [gt_get_nat (x := P[j]) (by simp [hj]), gt_get_nat (x := P[i]) (by simp)]
  exact List.pairwise_iff_getElem.1 h i j (by omega) hj hij
theorem aheadL_mn (m : Int) {P Q : List Int} (hP : P.Pairwise fun a b => b ≤ a) (hQ : Q.Pairwise fun a b => b ≤ a) : ∀ n : Nat, n ≤ P.length → n ≤ Q.length → nb (aheadL P Q n) → nb (aheadL (P.map (mn m)) (Q.map (mn m)) n)
  | 0, _, _, _ => .inl rfl
  | n + 1, h1, h2, h => by
    unfold aheadL at h ⊢
    rw [gt_map_mn m (show n < P.length by omega), gt_map_mn m (show n < Q.length by omega)]
    by_cases c : gt P (n : Int) = gt Q (n : Int)
    · rw [if_pos c] at h
      rw [c, if_pos rfl]
      exact aheadL_mn m hP hQ n (by omega) (by omega) h
    · rw [if_neg c] at h
      have hlt : gt Q (n : Int) < gt P (n : Int) := by
        rcases h with h | h
        · cases h
        · simp only [Option.some.injEq] at h
          split at h
          · assumption
          · omega
      by_cases c2 : mn m (gt P (n : Int)) = mn m (gt Q (n : Int))
      · rw [if_pos c2]
        left
        refine aheadL_same n ?_
        intro j hj
        have d1 := down_gt hP hj (by omega)
        have d2 := down_gt hQ hj (by omega)
        rw [gt_map_mn m (show j < P.length by omega), gt_map_mn m (show j < Q.length by omega)]
        unfold mn at c2 ⊢
        (repeat' split at c2) <;> (repeat' split) <;> omega
      · rw [if_neg c2, if_pos (by unfold mn at c2 ⊢; (repeat' split at c2) <;> (repeat' split) <;> omega)]
        exact .inr rfl
theorem aheadL_pre (pre : List Int) {A B : List Int} : ∀ n : Nat, n ≤ A.length → n ≤ B.length → aheadL (pre ++ A) (pre ++ B) (pre.length + n) = aheadL A B n
  | 0, _, _ => by
    have : aheadL A B 0 = none := rfl
    rw [this]
    refine aheadL_same _ ?_
    intro j hj
    rw [gt_append_left (by omega) (by omega), gt_append_left (by omega) (by omega)]
  | n + 1, h1, h2 => by
    rw [show pre.length + (n + 1) = (pre.length + n) + 1 by omega]
    have e : ∀ C : List Int, n < C.length → gt (pre ++ C) ((pre.length + n : Nat) : Int) = gt C (n : Int) := by
      intro C hC
      rw [gt_get_nat (x := C[n]) (by simp [hC]), gt_get_nat (x := C[n]) (by simp [hC])]
    unfold aheadL
    rw [e A (by omega), e B (by omega), aheadL_pre pre n (by omega) (by omega)]
/-- One fork lies ahead of another. -/
def lexlt (k i k' i' : Nat) : Prop := k < k' ∨ (k = k' ∧ i < i')
/-- Rows that are alike up to a fork. -/
structure Alike (x y : List (List Int)) (k i : Nat) : Prop where
  kx : k < x.length
  ky : k < y.length
  pre : x.take k = y.take k
  ix : i ≤ (gt x (k : Int)).length
  iy : i ≤ (gt y (k : Int)).length
  pre2 : (gt x (k : Int)).take i = (gt y (k : Int)).take i
theorem Fork.alike {x y : List (List Int)} {k i : Nat} (F : Fork x y k i) : Alike x y k i := ⟨F.kx, F.ky, F.pre, Nat.le_of_lt F.ix, Nat.le_of_lt F.iy, F.pre2⟩
theorem Fork.symm {x y : List (List Int)} {k i : Nat} (F : Fork x y k i) : Fork y x k i := ⟨F.ky, F.kx, F.pre.symm, F.iy, F.ix, F.pre2.symm, fun h => F.ne h.symm⟩
theorem Alike.symm {x y : List (List Int)} {k i : Nat} (F : Alike x y k i) : Alike y x k i := ⟨F.ky, F.kx, F.pre.symm, F.iy, F.ix, F.pre2.symm⟩
theorem gt_of_take {α : Type} [Inhabited α] {x y : List α} {n k : Nat} (h : x.take n = y.take n) (hk : k < n) : gt x (k : Int) = gt y (k : Int) := by
  have e : ∀ z : List α, gt z (k : Int) = gt (z.take n) (k : Int) := by
    intro z
    by_cases c : k < z.length
    · rw [gt_get_nat (x := z[k]) (by simp [c]), gt_get_nat (x := z[k]) (by simp [c, hk])]
    · have h1 : z.take n = z := List.take_of_length_le (by omega)
      rw [h1]
  rw [e x, e y, h]
theorem take_of_take {α : Type} {x y : List α} {n k : Nat} (h : x.take n = y.take n) (hk : k ≤ n) : x.take k = y.take k := by
  have e : ∀ z : List α, z.take k = (z.take n).take k := by intro z; rw [List.take_take, Nat.min_eq_left hk]
  rw [e x, e y, h]
/-- Rows that are alike up to a later fork are so up to a former one, and go the same step there. -/
theorem Alike.low {x y : List (List Int)} {k i k' i' : Nat} (A : Alike x y k' i') (hl : lexlt k i k' i') (hi : i < (gt x (k : Int)).length) : Alike x y k i ∧ i < (gt y (k : Int)).length ∧ gt (gt x (k : Int)) (i : Int) = gt (gt y (k : Int)) (i : Int) := by
  have a1 := A.kx; have a2 := A.ky
  rcases hl with h | ⟨rfl, h⟩
  · have e := gt_of_take A.pre h
    exact ⟨⟨by omega, by omega, take_of_take A.pre (by omega), by omega, by rw [← e]; omega, by rw [e]⟩, by rw [← e]; exact hi, by rw [e]⟩
  · have h4 := A.iy; have h5 := A.ix
    exact ⟨⟨A.kx, A.ky, A.pre, by omega, by omega, take_of_take A.pre2 (by omega)⟩, by omega, gt_of_take A.pre2 h⟩
theorem depthAt_alike {N : Nat} {x y : List (List Int)} {k i : Nat} (A : Alike x y k i) : depthAt N x k i = depthAt N y k i := by
  unfold depthAt; rw [A.pre, A.pre2]
def cutB (x : List (List Int)) (k i k' : Nat) : List (List Int) := if k < k' then (gt x (k : Int)).drop i :: (x.drop (k + 1)).take (k' - (k + 1)) else []
def cutM (x : List (List Int)) (k i k' i' : Nat) : List Int := if k < k' then (gt x (k' : Int)).take i' else ((gt x (k : Int)).drop i).take (i' - i)
theorem cut_eq {x : List (List Int)} {k i k' i' : Nat} (hk' : k' < x.length) (hl : lexlt k i k' i') : (gt x (k : Int)).drop i :: x.drop (k + 1) = cutB x k i k' ++ (cutM x k i k' i' ++ (gt x (k' : Int)).drop i') :: x.drop (k' + 1) := by
  unfold cutB cutM
  rcases hl with h | ⟨rfl, h⟩
  · simp only [h, if_true, List.take_append_drop, List.cons_append, List.cons.injEq, true_and]
    have h2 : x.drop k' = gt x (k' : Int) :: x.drop (k' + 1) := drop_cons hk'
    rw [← h2]
    have h3 : x.drop k' = (x.drop (k + 1)).drop (k' - (k + 1)) := by rw [List.drop_drop]; congr 1; omega
    rw [h3, List.take_append_drop]
  · simp only [Nat.lt_irrefl, if_false, List.nil_append, List.cons.injEq, and_true]
    have h3 : (gt x (k : Int)).drop i' = ((gt x (k : Int)).drop i).drop (i' - i) := by rw [List.drop_drop]; congr 1; omega
    rw [h3, List.take_append_drop]
theorem cutB_alike {x y : List (List Int)} {k i k' i' : Nat} (A : Alike x y k' i') : cutB x k i k' = cutB y k i k' := by
  unfold cutB
  by_cases h : k < k'
  · simp only [h, if_true]
    rw [gt_of_take A.pre h]
    congr 1
    have e : ∀ z : List (List Int), (z.drop (k + 1)).take (k' - (k + 1)) = (z.take k').drop (k + 1) := by intro z; rw [List.drop_take]
    rw [e x, e y, A.pre]
  · simp only [h, if_false]
theorem cutM_alike {x y : List (List Int)} {k i k' i' : Nat} (A : Alike x y k' i') (hl : lexlt k i k' i') : cutM x k i k' i' = cutM y k i k' i' := by
  unfold cutM
  rcases hl with h | ⟨rfl, h⟩
  · simp only [h, if_true, A.pre2]
  · simp only [Nat.lt_irrefl, if_false]
    have e : ∀ z : List Int, (z.drop i).take (i' - i) = (z.take i').drop i := by intro z; rw [List.drop_take]
    rw [e, e, A.pre2]
theorem lowsAt_down (N : Nat) (x : List (List Int)) (k i : Nat) : (lowsAt N x k i).Pairwise fun a b => b ≤ a := lowsR_down _ _
theorem lowsAt_len {N : Nat} {x : List (List Int)} {k i : Nat} (hk : k < x.length) : (lowsAt N x k i).length = x.length - k := by
  simp [lowsAt, LowsF, lowsR_len]; omega
/-- What is not behind from a later fork on is not behind from a former one on. -/
theorem lows_up {N : Nat} {x y : List (List Int)} (hx : ∃ s, nestS N [] x.flatten = some s) (hy : ∃ s, nestS N [] y.flatten = some s) (hlen : x.length = y.length) {k i k' i' : Nat} (A : Alike x y k' i') (hl : lexlt k i k' i') (hi : i < (gt x (k : Int)).length)
    (h : nb (aheadL (lowsAt N x k' i') (lowsAt N y k' i') (x.length - k'))) : nb (aheadL (lowsAt N x k i) (lowsAt N y k i) (x.length - k)) := by
  obtain ⟨s1, hx⟩ := hx
  obtain ⟨s2, hy⟩ := hy
  obtain ⟨A0, _, _⟩ := A.low hl hi
  have r1 := lows_rel hx A0.kx A.kx (cut_eq A.kx hl)
  have r2 := lows_rel hy A0.ky A.ky (cut_eq A.ky hl)
  rw [← depthAt_alike A0, ← cutB_alike A, ← cutM_alike A hl] at r2
  have l1 := lowsAt_len (N := N) (i := i) A0.kx
  have l3 := lowsAt_len (N := N) (i := i') A.kx
  have l4 := lowsAt_len (N := N) (i := i') A.ky
  generalize (lowsR ((depthAt N x k i : Int), (depthAt N x k i : Int) + 1) (cutB x k i k')) = pre at *
  generalize ((cutM x k i k' i').foldl lowStep ((cutB x k i k').flatten.foldl lowStep ((depthAt N x k i : Int), (depthAt N x k i : Int) + 1))).2 = m at *
  have hn : x.length - k = pre.length + (x.length - k') := by
    rw [r1] at l1
    simp only [List.length_append, List.length_map] at l1
    omega
  rw [r1, r2, hn, aheadL_pre pre _ (by simp; omega) (by simp; omega)]
  exact aheadL_mn m (lowsAt_down N x k' i') (lowsAt_down N y k' i') _ (by omega) (by omega) h
theorem fork_uniq {x y : List (List Int)} {k i k' i' : Nat} (F : Fork x y k i) (G : Fork x y k' i') : k = k' ∧ i = i' := by
  have key : ∀ {k i k' i' : Nat}, Fork x y k i → Fork x y k' i' → ¬ lexlt k i k' i' := by
    intro k i k' i' F G hl
    exact F.ne (G.alike.low hl F.ix).2.2
  have h1 := key F G
  have h2 := key G F
  unfold lexlt at h1 h2
  omega
/-- A row: what the order asks of it. -/
structure RowI (N n : Nat) (x : List (List Int)) : Prop where
  nest : ∃ s, nestS N [] x.flatten = some s
  len : x.length = n
/-- Ahead from a fork on. -/
def fwd (N n : Nat) (x y : List (List Int)) (k i : Nat) : Prop :=
  aheadL (lowsAt N x k i) (lowsAt N y k i) (n - k) = some (-1) ∨ (aheadL (lowsAt N x k i) (lowsAt N y k i) (n - k) = none ∧ forkV (gt (gt x (k : Int)) (i : Int)) (gt (gt y (k : Int)) (i : Int)) = -1)
def atF (N n : Nat) (x y : List (List Int)) (k i : Nat) : Int := match aheadL (lowsAt N x k i) (lowsAt N y k i) (n - k) with
  | some r => r
  | none => forkV (gt (gt x (k : Int)) (i : Int)) (gt (gt y (k : Int)) (i : Int))
theorem row_el {N n : Nat} {x : List (List Int)} (h : RowI N n x) {k i : Nat} (hk : k < x.length) (hi : i < (gt x (k : Int)).length) : 0 ≤ gt (gt x (k : Int)) (i : Int) := by
  obtain ⟨s, hs⟩ := h.nest
  exact (nest_el hs hk hi).1
theorem atF_anti {N n : Nat} {x y : List (List Int)} (hx : RowI N n x) (hy : RowI N n y) {k i : Nat} (F : Fork x y k i) : atF N n y x k i = - atF N n x y k i ∧ (atF N n x y k i = -1 ∨ atF N n x y k i = 1) := by
  have h1 := row_el hx F.kx F.ix
  have h2 := row_el hy F.ky F.iy
  have h3 := forkV_anti h1 h2 F.ne
  unfold atF
  rw [aheadL_symm (lowsAt N x k i)]
  cases c : aheadL (lowsAt N x k i) (lowsAt N y k i) (n - k) with
  | none => exact h3
  | some r => exact ⟨rfl, aheadL_rng _ _ _ _ c⟩
theorem atF_fwd {N n : Nat} {x y : List (List Int)} {k i : Nat} : atF N n x y k i = -1 ↔ fwd N n x y k i := by
  unfold atF fwd
  cases c : aheadL (lowsAt N x k i) (lowsAt N y k i) (n - k) <;> simp
theorem fwd_nb {N n : Nat} {x y : List (List Int)} {k i : Nat} (h : fwd N n x y k i) : nb (aheadL (lowsAt N x k i) (lowsAt N y k i) (n - k)) := by
  rcases h with h | h
  · exact .inr h
  · exact .inl h.1
theorem Alike.trans {x y u : List (List Int)} {k i : Nat} (A : Alike x y k i) (B : Alike y u k i) : Alike x u k i := ⟨A.kx, B.ky, A.pre.trans B.pre, A.ix, B.iy, A.pre2.trans B.pre2⟩
/-- Of three rows: what is ahead of one that is ahead of the third one is ahead of that. -/
theorem fwd_trans {N n : Nat} {x y u : List (List Int)} (hx : RowI N n x) (hy : RowI N n y) (hu : RowI N n u) {k1 i1 k2 i2 : Nat} (F : Fork x y k1 i1) (G : Fork y u k2 i2) (h1 : fwd N n x y k1 i1) (h2 : fwd N n y u k2 i2)
    (hf : x = u ∨ ∃ k i, Fork x u k i) : ∃ k i, Fork x u k i ∧ fwd N n x u k i := by
  have ex := hx.len; have ey := hy.len; have eu := hu.len
  have tri : lexlt k1 i1 k2 i2 ∨ (k1 = k2 ∧ i1 = i2) ∨ lexlt k2 i2 k1 i1 := by unfold lexlt; omega
  rcases tri with hl | ⟨rfl, rfl⟩ | hl
  · obtain ⟨A, hi, hs⟩ := G.alike.low hl F.iy
    refine ⟨k1, i1, ?_, ?_⟩
    · have B := F.alike.trans A
      exact ⟨B.kx, B.ky, B.pre, F.ix, hi, B.pre2, by rw [← hs]; exact F.ne⟩
    · have hnb := lows_up hy.nest hu.nest (by omega) G.alike hl F.iy (by rw [ey]; exact fwd_nb h2)
      rw [ey] at hnb
      have ht := aheadL_trans _ _ _ _ (fwd_nb h1) hnb
      rcases h1 with h1 | ⟨h1, h3⟩
      · exact .inl (ht.2 (.inl h1))
      · rcases ht.1 with h4 | h4
        · exact .inr ⟨h4, by rw [← hs]; exact h3⟩
        · exact .inl h4
  · have ht := aheadL_trans _ _ _ _ (fwd_nb h1) (fwd_nb h2)
    have e1 := row_el hx F.kx F.ix
    have e2 := row_el hy F.ky F.iy
    have e3 := row_el hu G.ky G.iy
    have B := F.alike.trans G.alike
    have hfw : aheadL (lowsAt N x k1 i1) (lowsAt N u k1 i1) (n - k1) = some (-1) ∨ (aheadL (lowsAt N x k1 i1) (lowsAt N u k1 i1) (n - k1) = none ∧ forkV (gt (gt x (k1 : Int)) (i1 : Int)) (gt (gt u (k1 : Int)) (i1 : Int)) = -1 ∧ gt (gt x (k1 : Int)) (i1 : Int) ≠ gt (gt u (k1 : Int)) (i1 : Int)) := by
      rcases h1 with h1 | ⟨h1, h3⟩
      · exact .inl (ht.2 (.inl h1))
      · rcases h2 with h2 | ⟨h2, h4⟩
        · exact .inl (ht.2 (.inr h2))
        · rcases ht.1 with h5 | h5
          · exact .inr ⟨h5, forkV_trans e1 e2 e3 h3 h4⟩
          · exact .inl h5
    by_cases c : gt (gt x (k1 : Int)) (i1 : Int) = gt (gt u (k1 : Int)) (i1 : Int)
    · have hst : aheadL (lowsAt N x k1 i1) (lowsAt N u k1 i1) (n - k1) = some (-1) := by
        rcases hfw with h | ⟨_, _, h⟩
        · exact h
        · exact absurd c h
      rcases hf with rfl | ⟨k, i, H⟩
      · exfalso
        rw [aheadL_same _ (fun j _ => rfl)] at hst
        cases hst
      · refine ⟨k, i, H, ?_⟩
        have hl : lexlt k1 i1 k i := by
          have t3 : lexlt k1 i1 k i ∨ (k1 = k ∧ i1 = i) ∨ lexlt k i k1 i1 := by unfold lexlt; omega
          rcases t3 with h | ⟨rfl, rfl⟩ | h
          · exact h
          · exact absurd c H.ne
          · exact absurd (B.low h H.ix).2.2 H.ne
        rcases (atF_anti hx hu H).2 with h | h
        · exact atF_fwd.1 h
        · exfalso
          have h6 : fwd N n u x k i := atF_fwd.1 (by rw [(atF_anti hx hu H).1, h])
          have h7 := lows_up hu.nest hx.nest (by omega) H.symm.alike hl G.iy (by rw [eu]; exact fwd_nb h6)
          rw [eu, aheadL_symm (lowsAt N x k1 i1), hst] at h7
          rcases h7 with h7 | h7 <;> simp at h7
    · refine ⟨k1, i1, ⟨B.kx, B.ky, B.pre, F.ix, G.iy, B.pre2, c⟩, ?_⟩
      rcases hfw with h | ⟨h, h', _⟩
      · exact .inl h
      · exact .inr ⟨h, h'⟩
  · obtain ⟨A, hi, hs⟩ := F.alike.symm.low hl G.ix
    refine ⟨k2, i2, ?_, ?_⟩
    · have B := A.symm.trans G.alike
      exact ⟨B.kx, B.ky, B.pre, hi, G.iy, B.pre2, by rw [← hs]; exact G.ne⟩
    · have hnb := lows_up hx.nest hy.nest (by omega) F.alike hl hi (by rw [ex]; exact fwd_nb h1)
      rw [ex] at hnb
      have ht := aheadL_trans _ _ _ _ hnb (fwd_nb h2)
      rcases h2 with h2 | ⟨h2, h3⟩
      · exact .inl (ht.2 (.inr h2))
      · rcases ht.1 with h4 | h4
        · exact .inr ⟨h4, by rw [← hs]; exact h3⟩
        · exact .inl h4
end Go.Proofs.Ytfhehbfifffipaa
