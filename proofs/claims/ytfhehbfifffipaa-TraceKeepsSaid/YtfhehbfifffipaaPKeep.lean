/- A run that is ahead of another one at one place is so still, whichever way both go on from there. Its conditions: none. -/
import Derived.Test.YtfhehbfifffipaaPTot
set_option autoImplicit false
namespace Go.Proofs.Ytfhehbfifffipaa
open Go.V Go.RowKit

theorem framesR_fold {fuel : Nat} {l : List MTerm} : ∀ (run : List Int) (fs0 gs : List (List Int)) (at_ at' : Int), framesR fuel l at_ run = some (gs, at') → foldE (stepF fuel l) (fs0, at_) run = .inl (fs0 ++ gs, at')
  | [], fs0, gs, at_, at', h => by
    simp only [framesR, Option.some.injEq, Prod.mk.injEq] at h
    obtain ⟨rfl, rfl⟩ := h
    simp [foldE]
  | p :: ps, fs0, gs, at_, at', h => by
    simp only [framesR] at h
    cases c : wayTo (wayL fuel l at_) p with
    | none => rw [c] at h; cases h
    | some y =>
      rw [c] at h
      cases c4 : framesR fuel l p ps with
      | none => rw [c4] at h; cases h
      | some r =>
        rw [c4] at h
        simp only [Option.map_some, Option.some.injEq, Prod.mk.injEq] at h
        obtain ⟨rfl, rfl⟩ := h
        simp only [foldE, stepF, c]
        rw [framesR_fold ps (fs0 ++ [y.Steps]) r.1 p r.2 c4]
        simp
theorem framesR_append {fuel : Nat} {l : List MTerm} : ∀ (a b : List Int) (at_ : Int) (gs : List (List Int)) (at' : Int), framesR fuel l at_ (a ++ b) = some (gs, at') → ∃ g1 e g2, framesR fuel l at_ a = some (g1, e) ∧ framesR fuel l e b = some (g2, at') ∧ gs = g1 ++ g2 ∧ e = a.getLastD at_
  | [], b, at_, gs, at', h => ⟨[], at_, gs, rfl, h, rfl, rfl⟩
  | p :: a, b, at_, gs, at', h => by
    simp only [List.cons_append, framesR] at h
    cases c : wayTo (wayL fuel l at_) p with
    | none => rw [c] at h; cases h
    | some y =>
      rw [c] at h
      cases c4 : framesR fuel l p (a ++ b) with
      | none => rw [c4] at h; cases h
      | some r =>
        rw [c4] at h
        simp only [Option.map_some, Option.some.injEq, Prod.mk.injEq] at h
        obtain ⟨rfl, rfl⟩ := h
        obtain ⟨g1, e, g2, h1, h2, h3, h4⟩ := framesR_append a b p r.1 r.2 c4
        refine ⟨y.Steps :: g1, e, g2, by simp [framesR, c, h1], h2, by rw [h3]; rfl, ?_⟩
        rw [h4, List.getLastD_cons]
theorem lowsR_app : ∀ (a b : List (List Int)) (s : Int × Int), lowsR s (a ++ b) = lowsR s a ++ lowsR (a.flatten.foldl lowStep s) b
  | [], b, s => rfl
  | f :: a, b, s => by
    simp only [List.cons_append, lowsR, lowsR_app a b, List.flatten_cons, List.foldl_append]
theorem lowsR_last : ∀ (fs : List (List Int)) (s : Int × Int) (n : Nat), fs.length = n + 1 → gt (lowsR s fs) (n : Int) = (fs.flatten.foldl lowStep s).2
  | [], s, n, h => by simp at h
  | [f], s, n, h => by
    obtain rfl : n = 0 := by simpa using h.symm
    simp [lowsR, gt]
  | f :: g :: fs, s, n, h => by
    obtain ⟨m, rfl⟩ : ∃ m, n = m + 1 := ⟨n - 1, by simp at h; omega⟩
    have := lowsR_last (g :: fs) (f.foldl lowStep s) m (by simpa using h)
    rw [List.flatten_cons, List.foldl_append, ← this]
    rfl
/-- What comes behind changes nothing. -/
theorem aheadL_keeps {P Q M : List Int} {lx ly : Int} {n : Nat} (hP : P.length = n + 1) (hQ : Q.length = n + 1) (hx : gt P (n : Int) = lx) (hy : gt Q (n : Int) = ly) : ∀ j : Nat, j ≤ M.length → aheadL (P ++ M.map (mn lx)) (Q ++ M.map (mn ly)) (n + 1 + j) = aheadL P Q (n + 1)
  | 0, _ => aheadL_congr _ _ _ _ (n + 1) (fun i hi => by rw [gt_append_left (by omega) (by omega)]) (fun i hi => by rw [gt_append_left (by omega) (by omega)])
  | j + 1, hj => by
    have ih := aheadL_keeps (M := M) hP hQ hx hy j (by omega)
    have e : ∀ {R : List Int} (z : Int), R.length = n + 1 → gt (R ++ M.map (mn z)) ((n + 1 + j : Nat) : Int) = mn z (gt M (j : Int)) := by
      intro R z hR
      rw [gt_get_nat (x := mn z (M[j]'(by omega))) (by rw [List.getElem?_append_right (by omega), hR]; simp [show j < M.length by omega]), gt_get_nat (l := M) (x := M[j]'(by omega)) (by simp)]
    rw [show n + 1 + (j + 1) = (n + 1 + j) + 1 by omega]
    conv => lhs; unfold aheadL
    rw [e lx hP, e ly hQ]
    by_cases c : mn lx (gt M (j : Int)) = mn ly (gt M (j : Int))
    · rw [if_pos c]; exact ih
    · rw [if_neg c]
      unfold aheadL
      have hne : lx ≠ ly := fun h => c (by rw [h])
      rw [hx, hy, if_neg hne]
      have hiff : (mn ly (gt M (j : Int)) < mn lx (gt M (j : Int))) ↔ ly < lx := by
        unfold mn at c ⊢
        (repeat' split at c) <;> (repeat' split) <;> omega
      by_cases c2 : ly < lx
      · rw [if_pos (hiff.2 c2), if_pos c2]
      · rw [if_neg (fun h => c2 (hiff.1 h)), if_neg c2]
theorem take_app {α : Type} {x r : List α} {k : Nat} (h : k ≤ x.length) : (x ++ r).take k = x.take k := List.take_append_of_le_length h
/-- The lows of a longer row. -/
theorem lows_app {N : Nat} {x r : List (List Int)} {s : List Nat} (hx : nestS N [] x.flatten = some s) {k i : Nat} (hk : k < x.length) :
    ∃ lx, lowsAt N (x ++ r) k i = lowsAt N x k i ++ (lowsR ((s.length : Int), (s.length : Int) + 1) r).map (mn lx) ∧ gt (lowsAt N x k i) ((x.length - k - 1 : Nat) : Int) = lx := by
  have g1 : gt (x ++ r) (k : Int) = gt x (k : Int) := gt_append_left (by omega) (by omega)
  have hd : depthAt N (x ++ r) k i = depthAt N x k i := by unfold depthAt; rw [take_app (by omega), g1]
  obtain ⟨s1, s2, s3, h1, h2, h3, h4⟩ := lows_cut hx hk i
  have hdep : depthAt N x k i = s2.length := by simp [depthAt, h1, h2]
  have hn : nestS N s2 ((gt x (k : Int)).drop i :: x.drop (k + 1)).flatten = some s := by simp [nestS_append, h3, h4]
  have e1 := lowStep_depth _ _ _ ((s2.length : Int) + 1) hn
  have e2 := low_le_depth (((gt x (k : Int)).drop i :: x.drop (k + 1)).flatten) (s2.length : Int) ((s2.length : Int) + 1) (by omega)
  refine ⟨((((gt x (k : Int)).drop i :: x.drop (k + 1)).flatten).foldl lowStep ((s2.length : Int), (s2.length : Int) + 1)).2, ?_, ?_⟩
  · unfold lowsAt LowsF
    rw [hd, g1, hdep, List.drop_append_of_le_length (by omega), ← List.cons_append, lowsR_app]
    congr 1
    generalize (((gt x (k : Int)).drop i :: x.drop (k + 1)).flatten).foldl lowStep ((s2.length : Int), (s2.length : Int) + 1) = u at *
    have e3 : u = ((s.length : Int), mn u.2 ((s.length : Int) + 1)) := by
      have : mn u.2 ((s.length : Int) + 1) = u.2 := by unfold mn; split <;> omega
      rw [this, ← e1]
    conv => lhs; rw [e3]
    rw [lowsR_mn]
  · unfold lowsAt LowsF
    rw [hdep, lowsR_last _ _ _ (by simp; omega)]
/-- .. so the order is the same. -/
theorem atF_app {N n m : Nat} {x y r : List (List Int)} {s : List Nat} (hx : nestS N [] x.flatten = some s) (hy : nestS N [] y.flatten = some s) (lx : x.length = n) (ly : y.length = n) (hm : n + r.length = m) {k i : Nat} (F : Fork x y k i) : atF N m (x ++ r) (y ++ r) k i = atF N n x y k i := by
  have kx := F.kx; have ky := F.ky
  obtain ⟨u, h1, h2⟩ := lows_app (r := r) hx (i := i) kx
  obtain ⟨v, h3, h4⟩ := lows_app (r := r) hy (i := i) ky
  have l1 := lowsAt_len (N := N) (i := i) kx
  have l2 := lowsAt_len (N := N) (i := i) ky
  have g1 : gt (x ++ r) (k : Int) = gt x (k : Int) := gt_append_left (by omega) (by omega)
  have g2 : gt (y ++ r) (k : Int) = gt y (k : Int) := gt_append_left (by omega) (by omega)
  have key := aheadL_keeps (P := lowsAt N x k i) (Q := lowsAt N y k i) (M := lowsR ((s.length : Int), (s.length : Int) + 1) r) (n := x.length - k - 1) (lx := u) (ly := v) (by omega) (by omega) h2 (by rw [show x.length - k - 1 = y.length - k - 1 by omega]; exact h4) r.length (by rw [lowsR_len]; omega)
  unfold atF
  rw [h1, h3, g1, g2]
  rw [show m - k = x.length - k - 1 + 1 + r.length by omega, key, show x.length - k - 1 + 1 = n - k by omega]
/-- Runs, not to the end: they are the same, or part at a fork. -/
theorem two_forkR {fuel : Nat} {l : List MTerm} (hv : ∀ p, ∀ h ∈ wayL fuel l p, LeafEnd l h) {a b : List Int} {x y r : List (List Int)} {e f : Int} (h1 : framesR fuel l (-1) a = some (x, e)) (h2 : framesR fuel l (-1) b = some (y, f)) (hl : a.length = b.length) :
    a = b ∨ ∃ k i : Nat, PartF (x ++ r) (y ++ r) = .inr ((k : Int), (i : Int)) ∧ PartF x y = .inr ((k : Int), (i : Int)) ∧ Fork x y k i := by
  have l1 := framesR_len _ _ _ _ h1
  have l2 := framesR_len _ _ _ _ h2
  cases c : foldE partsT 0 (x.zip y) with
  | inl n => exact .inl (framesR_same hv a b _ x y e f h1 h2 hl ⟨0, n, c⟩)
  | inr z =>
    right
    obtain ⟨k, i, rfl, F⟩ := framesR_fork hv a b _ x y e f 0 z h1 h2 c
    refine ⟨k, i, ?_, ?_, F⟩
    · unfold PartF
      rw [List.zip_append (by omega), foldE_append, c]
      simp
    · unfold PartF; rw [c]; simp
theorem aheadF_at {N n : Nat} {x y : List (List Int)} {k i : Nat} (h : PartF x y = .inr ((k : Int), (i : Int))) (hl : x.length = n) : aheadF N x y = atF N n x y k i := by
  unfold aheadF atF
  simp only [h, Int.toNat_natCast, hl]
  rfl
theorem keeps {fuel : Nat} {l : List MTerm} (hw : ∀ x ∈ l, wfTerm x) (hl : l.length ≤ 1000) (hf : 1000001 < fuel) (hR : RightB l = true) {a b more : List Int} (hab : a.length = b.length) (ha0 : a ≠ []) (hlast : a.getLastD (-1) = b.getLastD (-1)) (h1 : (FramesF fuel l (a ++ more) true).2 = true) (h2 : (FramesF fuel l (b ++ more) true).2 = true) :
    (FramesF fuel l a false).2 = true ∧ (FramesF fuel l b false).2 = true ∧ aheadF l.length (FramesF fuel l a false).1 (FramesF fuel l b false).1 = aheadF l.length (FramesF fuel l (a ++ more) true).1 (FramesF fuel l (b ++ more) true).1 := by
  have hv := fun p => ways_leaf hw hl hf p
  obtain ⟨t, ht⟩ := tree_of hw hR
  obtain ⟨gs, at1, r1, e1⟩ := FramesF_R h1
  obtain ⟨hs, at2, r2, e2⟩ := FramesF_R h2
  obtain ⟨x, e, x2, q1, q2, rfl, q4⟩ := framesR_append _ _ _ _ _ r1
  obtain ⟨y, f, y2, p1, p2, rfl, p4⟩ := framesR_append _ _ _ _ _ r2
  obtain rfl : e = f := by rw [q4, p4, hlast]
  rw [q2] at p2
  simp only [Option.some.injEq, Prod.mk.injEq] at p2
  obtain ⟨rfl, rfl⟩ := p2
  rw [e1, e2, List.append_assoc, List.append_assoc]
  have fa : ∀ {c : List Int} {z : List (List Int)} {e : Int}, framesR fuel l (-1) c = some (z, e) → FramesF fuel l c false = (z, true) ∧ ∃ s, Open l t e s ∧ nestS l.length [] z.flatten = some s := by
    intro c z e h
    have h3 := framesR_fold c [] z (-1) e h
    simp only [List.nil_append] at h3
    refine ⟨by simp [FramesF, hR, runF, h3, outE], ?_⟩
    exact fold_nest hw ht hR hf c ([], -1) (z, e) [] (.inl ⟨rfl, rfl⟩) rfl h3
  obtain ⟨f1, s1, o1, n1⟩ := fa q1
  obtain ⟨f2, s2, o2, n2⟩ := fa p1
  obtain rfl := open_uniq ht hR o1 o2
  rw [f1, f2]
  refine ⟨rfl, rfl, ?_⟩
  have l1 := framesR_len _ _ _ _ q1
  have l2 := framesR_len _ _ _ _ p1
  rcases two_forkR (r := x2 ++ [(endL fuel l at1).1.Steps]) hv q1 p1 hab with rfl | ⟨k, i, g1, g2, F⟩
  · rw [q1] at p1
    simp only [Option.some.injEq, Prod.mk.injEq, and_true] at p1
    subst p1
    obtain ⟨n, hn⟩ := PartF_self x
    obtain ⟨m, hm⟩ := PartF_self (x ++ (x2 ++ [(endL fuel l at1).1.Steps]))
    simp only [aheadF, hn, hm]
  · rw [aheadF_at (n := a.length) g2 l1, aheadF_at (n := a.length + (x2 ++ [(endL fuel l at1).1.Steps]).length) g1 (by rw [List.length_append, l1])]
    exact (atF_app n1 n2 l1 (by omega) rfl F).symm
end Go.Proofs.Ytfhehbfifffipaa
