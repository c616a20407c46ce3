/- Which of two runs is ahead is told by their trees. Its conditions: none. -/
import Derived.Test.YtfhehbfifffipaaPTot
import Derived.Test.YtfhehbfifffipaaPTrc2
set_option autoImplicit false
namespace Go.Proofs.Ytfhehbfifffipaa
open Go.V Go.RowKit

/-- Steps, each with its frame. -/
def evs : Int → List (List Int) → List (Int × Int)
  | _, [] => []
  | k, f :: fs => f.map (fun x => (k, x)) ++ evs (k + 1) fs
def gE : Grow → List (Int × Int) → Option Grow
  | s, [] => some s
  | s, e :: es => match growT e.1 s e.2 with | .inl s' => gE s' es | .inr _ => none
theorem gE_append : ∀ (a b : List (Int × Int)) (s : Grow), gE s (a ++ b) = (gE s a).bind fun s' => gE s' b
  | [], b, s => rfl
  | e :: a, b, s => by
    simp only [List.cons_append, gE]
    cases growT e.1 s e.2 with
    | inr t => rfl
    | inl s' => exact gE_append a b s'
theorem gE_frame (k : Int) : ∀ (f : List Int) (s : Grow), gE s (f.map fun x => (k, x)) = match foldE (growT k) s f with | .inl s' => some s' | .inr _ => none
  | [], s => rfl
  | x :: f, s => by
    simp only [List.map_cons, gE, foldE]
    cases growT k s x with
    | inr t => rfl
    | inl s' => exact gE_frame k f s'
theorem gE_of {n : Nat} : ∀ (fs : List (List Int)) (s s' : Grow × Int), foldE (frameT n) s fs = .inl s' → gE s.1 (evs s.2 fs) = some s'.1
  | [], s, s', h => by simp only [foldE, Sum.inl.injEq] at h; subst h; rfl
  | f :: fs, s, s', h => by
    simp only [foldE, frameT] at h
    simp only [evs, gE_append, gE_frame]
    cases c : foldE (growT s.2) s.1 f with
    | inr t => rw [c] at h; cases h
    | inl s1 =>
      rw [c] at h
      simp only at h
      by_cases hd : (doneB s1 && decide (s.2 < (n : Int) - 1)) = true
      · rw [if_pos hd] at h; cases h
      · rw [if_neg hd] at h
        exact gE_of fs (s1, s.2 + 1) s' h
theorem gE_Of {x : List (List Int)} {t : List MEntry} (h : OfF x = (t, true)) : gE ([], []) (evs 0 x) = some (t, []) := by
  unfold OfF at h
  cases c : foldE (frameT x.length) (([], []), 0) x with
  | inr u => rw [c] at h; simp at h
  | inl s =>
    rw [c] at h
    simp only at h
    split at h
    · rename_i hd
      simp only [Prod.mk.injEq, and_true] at h
      have := gE_of _ _ _ c
      simp only [doneB, Bool.and_eq_true, decide_eq_true_eq] at hd
      rw [this, ← h, ← List.eq_nil_of_length_eq_zero hd.1]
    · simp at h
theorem evs_append : ∀ (a b : List (List Int)) (k : Int), evs k (a ++ b) = evs k a ++ evs (k + a.length) b
  | [], b, k => by simp [evs]
  | f :: a, b, k => by
    simp only [List.cons_append, evs, evs_append a b, List.append_assoc, List.length_cons]
    congr 3; omega
/-- A row, cut at a fork. -/
theorem evs_cut {x : List (List Int)} {k i : Nat} (hk : k < x.length) (hi : i < (gt x (k : Int)).length) : evs 0 x = (evs 0 (x.take k) ++ ((gt x (k : Int)).take i).map (fun z => ((k : Int), z))) ++ evs (k : Int) ((gt x (k : Int)).drop i :: x.drop (k + 1)) := by
  have e : x = x.take k ++ gt x (k : Int) :: x.drop (k + 1) := by rw [← drop_cons hk, List.take_append_drop]
  conv => lhs; rw [e, evs_append]
  have hl : (0 : Int) + ((x.take k).length : Int) = (k : Int) := by simp; omega
  rw [hl]
  simp only [evs, List.append_assoc]
  congr 1
  rw [← List.append_assoc, ← List.map_append, List.take_append_drop]

/-- What a state is. -/
structure GOk (s : Grow) : Prop where
  rng : ∀ j : Nat, j < s.2.length → 0 ≤ gt s.2 (j : Int) ∧ gt s.2 (j : Int) < (s.1.length : Int)
  inc : ∀ i j : Nat, i < j → j < s.2.length → gt s.2 (i : Int) < gt s.2 (j : Int)
/-- A step: something opens, or the last thing that is open closes. -/
theorem growT_cases {k : Int} {o : List MEntry} {p : List Int} {s' : Grow} {x : Int} (h : growT k (o, p) x = .inl s') : 0 ≤ x ∧
    ((Int.tmod x 2 = 0 ∧ s' = (o ++ [⟨((p.length + 1 : Nat) : Int), W (Int.tdiv x 2), k, 0⟩], p ++ [(o.length : Int)])) ∨
     (Int.tmod x 2 ≠ 0 ∧ ∃ (p0 : List Int) (z : Int), p = p0 ++ [z] ∧ (gt o z).Node = W (Int.tdiv x 2) ∧ s' = (o.set z.toNat ⟨(gt o z).Depth, (gt o z).Node, (gt o z).From, k⟩, p0))) := by
  unfold growT at h
  split at h
  · cases h
  · rename_i h0
    refine ⟨by simp only [not_or] at h0; omega, ?_⟩
    split at h
    · rename_i hm
      exact .inl ⟨hm, (Sum.inl.inj h).symm⟩
    · rename_i hm
      split at h
      · cases h
      · rename_i hp
        split at h
        · rename_i hN
          simp only at hp hN h
          have hz : p = p.take (p.length - 1) ++ [gt p ((p.length - 1 : Nat) : Int)] := by
            have h1 : p.length - 1 < p.length := by omega
            rw [gt_get_nat (x := p[p.length - 1]) (by simp [h1]), ← List.take_succ_eq_append_getElem h1]
            rw [List.take_of_length_le (by omega)]
          exact .inr ⟨hm, _, _, hz, hN, (Sum.inl.inj h).symm⟩
        · cases h
theorem growT_gok {k : Int} {s s' : Grow} {x : Int} (hI : GOk s) (h : growT k s x = .inl s') : GOk s' := by
  obtain ⟨o, p⟩ := s
  obtain ⟨_, ⟨_, rfl⟩ | ⟨_, p0, z, rfl, _, rfl⟩⟩ := growT_cases h
  · constructor
    · intro j hj
      simp only [List.length_append, List.length_singleton] at hj ⊢
      by_cases e : j = p.length
      · subst e; rw [gt_append_right rfl]; omega
      · have := hI.rng j (by simp only; omega)
        simp only at this
        rw [gt_append_left (by omega) (by omega)]; omega
    · intro i j hij hj
      simp only [List.length_append, List.length_singleton] at hj ⊢
      have hi := (hI.rng i (by simp only; omega)).2
      simp only at hi
      rw [gt_append_left (i := (i : Int)) (by omega) (by omega)]
      by_cases e : j = p.length
      · subst e; rw [gt_append_right rfl]; exact hi
      · rw [gt_append_left (by omega) (by omega)]; exact hI.inc i j hij (by simp only; omega)
  · have hr := hI.rng; have hc := hI.inc
    simp only [List.length_append, List.length_singleton] at hr hc
    constructor
    · intro j hj
      simp only at hj
      have := hr j (by omega)
      rw [gt_append_left (by omega) (by omega)] at this
      simpa using this
    · intro i j hij hj
      simp only at hj
      have := hc i j hij (by omega)
      rwa [gt_append_left (by omega) (by omega), gt_append_left (by omega) (by omega)] at this
theorem gE_gok : ∀ (es : List (Int × Int)) (s s' : Grow), GOk s → gE s es = some s' → GOk s'
  | [], s, s', hI, h => by simp only [gE, Option.some.injEq] at h; subst h; exact hI
  | e :: es, s, s', hI, h => by
    simp only [gE] at h
    cases c : growT e.1 s e.2 with
    | inr t => rw [c] at h; cases h
    | inl s1 => rw [c] at h; exact gE_gok es s1 s' (growT_gok hI c) h

/-- What is so behind some steps of what was there ahead of them: the m first open ones are so still; the others have closed, each in its frame. -/
structure Shape (o0 : List MEntry) (p0 : List Int) (cl : Nat → Int) (m : Nat) (s : Grow) : Prop where
  m_le : m ≤ p0.length
  op : ∃ q : List Int, s.2 = p0.take m ++ q ∧ ∀ z ∈ q, (o0.length : Int) ≤ z ∧ z < (s.1.length : Int)
  len : o0.length ≤ s.1.length
  old : ∀ j : Nat, j < m → gt s.1 (gt p0 (j : Int)) = gt o0 (gt p0 (j : Int))
  new : ∀ j : Nat, m ≤ j → j < p0.length → gt s.1 (gt p0 (j : Int)) = ⟨(gt o0 (gt p0 (j : Int))).Depth, (gt o0 (gt p0 (j : Int))).Node, (gt o0 (gt p0 (j : Int))).From, cl j⟩
  rest : ∀ r : Nat, r < o0.length → (∀ j : Nat, j < p0.length → gt p0 (j : Int) ≠ (r : Int)) → gt s.1 (r : Int) = gt o0 (r : Int)
theorem Shape.start (s : Grow) (cl : Nat → Int) : Shape s.1 s.2 cl s.2.length s :=
  ⟨Nat.le_refl _, ⟨[], by simp, by simp⟩, Nat.le_refl _, fun _ _ => rfl, fun j h1 h2 => by omega, fun _ _ _ => rfl⟩
theorem gt_set_int {α : Type} [Inhabited α] {o : List α} {i j : Int} {x : α} (h0 : 0 ≤ i) (h1 : 0 ≤ j) (h : i ≠ j) : gt (o.set i.toNat x) j = gt o j := by
  obtain ⟨n, rfl⟩ := Int.eq_ofNat_of_zero_le h1
  exact gt_set_ne (by omega)
/-- The low of a state: one more than how many are open still of those that were. -/
theorem shape_step {o0 : List MEntry} {p0 : List Int} {cl : Nat → Int} {m : Nat} {s s' : Grow} {k x : Int} (hI : GOk (o0, p0)) (hS : Shape o0 p0 cl m s) (h : growT k s x = .inl s') :
    ∃ m', m' ≤ m ∧ Shape o0 p0 (fun j => if m' ≤ j ∧ j < m then k else cl j) m' s' ∧ lowStep ((s.2.length : Int), (m : Int) + 1) x = ((s'.2.length : Int), (m' : Int) + 1) := by
  obtain ⟨o, p⟩ := s
  obtain ⟨q, hq, hz⟩ := hS.op
  simp only at hq hz
  have hml := hS.m_le
  have hr := hI.rng
  simp only at hr
  have hlen0 := hS.len
  simp only at hlen0
  obtain ⟨_, ⟨hm, rfl⟩ | ⟨hm, p1, z, hp, _, rfl⟩⟩ := growT_cases h
  · refine ⟨m, Nat.le_refl _, ⟨hml, ⟨q ++ [(o.length : Int)], by simp [hq], ?_⟩, by simp; omega, ?_, ?_, ?_⟩, ?_⟩
    · intro y hy
      simp only [List.length_append, List.length_singleton]
      rcases List.mem_append.1 hy with hy | hy
      · have := hz y hy; omega
      · simp only [List.mem_singleton] at hy; omega
    · intro j hj
      have := hr j (by omega)
      rw [gt_append_left this.1 (by omega)]; exact hS.old j hj
    · intro j h1 h2
      have := hr j h2
      rw [gt_append_left this.1 (by omega)]
      rw [if_neg (by omega)]
      exact hS.new j h1 h2
    · intro r h1 h2
      rw [gt_append_left (by omega) (by omega)]; exact hS.rest r h1 h2
    · simp only [lowStep]; rw [if_pos hm]; simp
  · rw [hp] at hq
    have hplen : p.length = p1.length + 1 := by rw [hp]; simp
    rcases List.eq_nil_or_concat q with rfl | ⟨q1, y, rfl⟩
    · -- one of those that were open closes
      have hm0 : 0 < m := by
        rcases Nat.eq_zero_or_pos m with h0 | h0
        · subst h0; simp at hq
        · exact h0
      have htk : p0.take m = p0.take (m - 1) ++ [gt p0 ((m - 1 : Nat) : Int)] := by
        have h1 : m - 1 < p0.length := by omega
        conv => lhs; rw [show m = (m - 1) + 1 by omega, List.take_succ_eq_append_getElem h1]
        rw [gt_get_nat (x := p0[m - 1]) (by simp [h1])]
      rw [List.append_nil, htk] at hq
      obtain ⟨e1, e2⟩ := List.append_inj' hq (by simp)
      simp only [List.cons.injEq, and_true] at e2
      have hzr := hr (m - 1) (by omega)
      rw [← e2] at hzr
      have hne : ∀ j : Nat, j < p0.length → j ≠ m - 1 → z ≠ gt p0 (j : Int) := by
        intro j hj hj2
        rw [e2]
        have hc := hI.inc
        simp only at hc
        rcases Nat.lt_or_gt_of_ne hj2 with hlt | hgt
        · have := hc j (m - 1) hlt (by omega); omega
        · have := hc (m - 1) j hgt hj; omega
      refine ⟨m - 1, by omega, ⟨by omega, ⟨[], by simp [e1], by simp⟩, by simp; omega, ?_, ?_, ?_⟩, ?_⟩
      · intro j hj
        have := hr j (by omega)
        rw [gt_set_int hzr.1 this.1 (hne j (by omega) (by omega))]
        exact hS.old j (by omega)
      · intro j h1 h2
        by_cases hj : j = m - 1
        · subst hj
          rw [if_pos ⟨Nat.le_refl _, by omega⟩, ← e2]
          have ho := hS.old (m - 1) (by omega)
          rw [← e2] at ho
          simp only at ho
          simp only
          rw [gt_int (l := o.set z.toNat (⟨(gt o z).Depth, (gt o z).Node, (gt o z).From, k⟩ : MEntry)) (x := (⟨(gt o z).Depth, (gt o z).Node, (gt o z).From, k⟩ : MEntry)) (List.getElem?_set_self (by omega)), ho]
        · have := hr j h2
          rw [gt_set_int hzr.1 this.1 (hne j h2 hj)]
          rw [if_neg (by omega)]
          exact hS.new j (by omega) h2
      · intro r h1 h2
        have := h2 (m - 1) (by omega)
        rw [gt_set_int hzr.1 (by omega) (by rw [e2]; exact this)]
        exact hS.rest r h1 h2
      · have hpl : p1.length = m - 1 := by rw [e1]; simp; omega
        simp only [lowStep]
        rw [if_neg hm, hplen, hpl]
        rw [if_pos (by omega)]
        simp only [Prod.mk.injEq]; omega
    · -- a newer one closes
      simp only [List.concat_eq_append] at hq hz
      rw [← List.append_assoc] at hq
      obtain ⟨e1, e2⟩ := List.append_inj' hq (by simp)
      simp only [List.cons.injEq, and_true] at e2
      subst e2
      have hzr := hz z (by simp)
      refine ⟨m, Nat.le_refl _, ⟨hml, ⟨q1, e1, ?_⟩, by simp; omega, ?_, ?_, ?_⟩, ?_⟩
      · intro y hy
        have := hz y (by simp [hy])
        simpa using this
      · intro j hj
        have := hr j (by omega)
        rw [gt_set_int (by omega) this.1 (by omega)]; exact hS.old j hj
      · intro j h1 h2
        have := hr j h2
        rw [gt_set_int (by omega) this.1 (by omega)]
        rw [if_neg (by omega)]
        exact hS.new j h1 h2
      · intro r h1 h2
        rw [gt_set_int (by omega) (by omega) (by omega)]; exact hS.rest r h1 h2
      · have hpl : m ≤ p1.length := by rw [e1]; simp; omega
        simp only [lowStep]
        rw [if_neg hm, hplen]
        rw [if_neg (by omega)]
        simp
theorem Shape.congr {o0 : List MEntry} {p0 : List Int} {cl cl' : Nat → Int} {m : Nat} {s : Grow} (h : Shape o0 p0 cl m s) (hc : ∀ j, m ≤ j → j < p0.length → cl' j = cl j) : Shape o0 p0 cl' m s :=
  ⟨h.m_le, h.op, h.len, h.old, fun j h1 h2 => by rw [hc j h1 h2]; exact h.new j h1 h2, h.rest⟩
theorem shape_frame {o0 : List MEntry} {p0 : List Int} (hI : GOk (o0, p0)) {k : Int} : ∀ (f : List Int) (cl : Nat → Int) (m : Nat) (s s' : Grow), Shape o0 p0 cl m s → gE s (f.map fun x => (k, x)) = some s' →
    ∃ m', m' ≤ m ∧ Shape o0 p0 (fun j => if m' ≤ j ∧ j < m then k else cl j) m' s' ∧ f.foldl lowStep ((s.2.length : Int), (m : Int) + 1) = ((s'.2.length : Int), (m' : Int) + 1)
  | [], cl, m, s, s', hS, h => by
    simp only [List.map_nil, gE, Option.some.injEq] at h
    subst h
    exact ⟨m, Nat.le_refl _, hS.congr (fun j h1 h2 => by rw [if_neg (by omega)]), rfl⟩
  | x :: f, cl, m, s, s', hS, h => by
    simp only [List.map_cons, gE] at h
    cases c : growT k s x with
    | inr t => rw [c] at h; cases h
    | inl s1 =>
      rw [c] at h
      obtain ⟨m1, h1, h2, h3⟩ := shape_step hI hS c
      obtain ⟨m2, h4, h5, h6⟩ := shape_frame hI f _ m1 s1 s' h2 h
      refine ⟨m2, by omega, h5.congr ?_, by rw [List.foldl_cons, h3, h6]⟩
      intro j hj1 hj2
      by_cases c1 : j < m1
      · rw [if_pos ⟨hj1, by omega⟩, if_pos ⟨hj1, c1⟩]
      · by_cases c2 : j < m
        · rw [if_pos ⟨hj1, c2⟩, if_neg (by omega), if_pos ⟨by omega, c2⟩]
        · rw [if_neg (by omega), if_neg (by omega), if_neg (by omega)]
/-- How many are above some number. -/
def cnt (L : List Int) (j : Int) : Nat := (L.filter fun z => decide (j < z)).length
theorem cnt_cons (z : Int) (L : List Int) (j : Int) : cnt (z :: L) j = (if j < z then 1 else 0) + cnt L j := by
  unfold cnt
  by_cases h : j < z <;> simp [h]; omega
theorem cnt_zero {L : List Int} {j : Int} (h : ∀ z ∈ L, z ≤ j) : cnt L j = 0 := by
  unfold cnt
  rw [List.length_eq_zero_iff, List.filter_eq_nil_iff]
  intro z hz; have := h z hz; simp; omega
theorem shape_frames {o0 : List MEntry} {p0 : List Int} (hI : GOk (o0, p0)) : ∀ (fs : List (List Int)) (k : Int) (cl : Nat → Int) (m : Nat) (s s' : Grow), Shape o0 p0 cl m s → gE s (evs k fs) = some s' →
    (∃ m', m' ≤ m ∧ Shape o0 p0 (fun j => if m' ≤ j ∧ j < m then k + (cnt (lowsR ((s.2.length : Int), (m : Int) + 1) fs) ((j : Int) + 1) : Int) else cl j) m' s') ∧ ∀ z ∈ lowsR ((s.2.length : Int), (m : Int) + 1) fs, 1 ≤ z
  | [], k, cl, m, s, s', hS, h => by
    simp only [evs, gE, Option.some.injEq] at h
    subst h
    exact ⟨⟨m, Nat.le_refl _, hS.congr (fun j h1 h2 => by rw [if_neg (by omega)])⟩, by simp [lowsR]⟩
  | f :: fs, k, cl, m, s, s', hS, h => by
    simp only [evs, gE_append] at h
    cases c : gE s (f.map fun x => (k, x)) with
    | none => rw [c] at h; cases h
    | some s1 =>
      rw [c] at h
      simp only [Option.bind_some] at h
      obtain ⟨m1, h1, h2, h3⟩ := shape_frame hI f cl m s s1 hS c
      obtain ⟨⟨m2, h4, h5⟩, h7⟩ := shape_frames hI fs (k + 1) _ m1 s1 s' h2 h
      refine ⟨⟨m2, by omega, h5.congr ?_⟩, by
        intro z hz
        simp only [lowsR, h3, List.mem_cons] at hz
        rcases hz with rfl | hz
        · omega
        · exact h7 z hz⟩
      intro j hj1 hj2
      simp only [lowsR, h3, cnt_cons]
      by_cases c1 : j < m1
      · rw [if_pos (show m2 ≤ j ∧ j < m from ⟨hj1, by omega⟩), if_pos (show m2 ≤ j ∧ j < m1 from ⟨hj1, c1⟩), if_pos (show (j : Int) + 1 < (m1 : Int) + 1 by omega)]
        simp only [Int.natCast_add]; omega
      · by_cases c2 : j < m
        · rw [if_pos (show m2 ≤ j ∧ j < m from ⟨hj1, c2⟩), if_neg (show ¬ (j : Int) + 1 < (m1 : Int) + 1 by omega), if_neg (show ¬ (m2 ≤ j ∧ j < m1) by omega), if_pos (show m1 ≤ j ∧ j < m from ⟨by omega, c2⟩)]
          rw [cnt_zero]
          · simp
          · intro z hz
            have := lowsR_le fs _ _ z hz
            omega
        · rw [if_neg (show ¬ (m2 ≤ j ∧ j < m) by omega), if_neg (show ¬ (m2 ≤ j ∧ j < m1) by omega), if_neg (show ¬ (m1 ≤ j ∧ j < m) by omega)]
/-- All that was open is closed: in which frame. -/
theorem shape_end {o0 : List MEntry} {p0 : List Int} (hI : GOk (o0, p0)) {fs : List (List Int)} {k : Int} {t : List MEntry} (h : gE (o0, p0) (evs k fs) = some (t, [])) :
    Shape o0 p0 (fun j => k + (cnt (lowsR ((p0.length : Int), (p0.length : Int) + 1) fs) ((j : Int) + 1) : Int)) 0 (t, []) ∧ ∀ z ∈ lowsR ((p0.length : Int), (p0.length : Int) + 1) fs, 1 ≤ z := by
  obtain ⟨⟨m', h1, h2⟩, h6⟩ := shape_frames hI fs k (fun _ => 0) p0.length (o0, p0) (t, []) (Shape.start (o0, p0) _) h
  have hm : m' = 0 := by
    obtain ⟨q, hq, _⟩ := h2.op
    have := congrArg List.length hq
    have := h2.m_le
    simp at *; omega
  subst hm
  exact ⟨h2.congr (fun j h3 h4 => by rw [if_pos ⟨Nat.zero_le _, h4⟩]), h6⟩
/-- What an entry is, its end apart. -/
def headE (e : MEntry) : Int × Int × Int := (e.Depth, e.Node, e.From)
theorem growT_head {k : Int} {s s' : Grow} {x : Int} (h : growT k s x = .inl s') : s.1.length ≤ s'.1.length ∧ ∀ r : Nat, r < s.1.length → headE (gt s'.1 (r : Int)) = headE (gt s.1 (r : Int)) := by
  obtain ⟨o, p⟩ := s
  obtain ⟨_, ⟨_, rfl⟩ | ⟨_, p0, z, rfl, _, rfl⟩⟩ := growT_cases h
  · refine ⟨by simp, fun r hr => ?_⟩
    rw [gt_append_left (by omega) (by simp only at hr; omega)]
  · refine ⟨by simp, fun r hr => ?_⟩
    simp only at hr ⊢
    by_cases e : z.toNat = r
    · subst e
      rw [gt_int (x := (⟨(gt o z).Depth, (gt o z).Node, (gt o z).From, k⟩ : MEntry)) (by rw [Int.toNat_natCast]; exact List.getElem?_set_self hr)]
      rfl
    · rw [gt_set_ne e]
theorem gE_head : ∀ (es : List (Int × Int)) (s s' : Grow), gE s es = some s' → s.1.length ≤ s'.1.length ∧ ∀ r : Nat, r < s.1.length → headE (gt s'.1 (r : Int)) = headE (gt s.1 (r : Int))
  | [], s, s', h => by simp only [gE, Option.some.injEq] at h; subst h; exact ⟨Nat.le_refl _, fun _ _ => rfl⟩
  | e :: es, s, s', h => by
    simp only [gE] at h
    cases c : growT e.1 s e.2 with
    | inr t => rw [c] at h; cases h
    | inl s1 =>
      rw [c] at h
      obtain ⟨h1, h2⟩ := growT_head c
      obtain ⟨h3, h4⟩ := gE_head es s1 s' h
      exact ⟨by omega, fun r hr => (h4 r (by omega)).trans (h2 r hr)⟩
/-- The next entry lies no deeper than one below what is open. -/
theorem gE_first : ∀ (es : List (Int × Int)) (s s' : Grow), gE s es = some s' → s'.1.length = s.1.length ∨ (s.1.length < s'.1.length ∧ (gt s'.1 (s.1.length : Int)).Depth ≤ (s.2.length : Int) + 1)
  | [], s, s', h => by simp only [gE, Option.some.injEq] at h; subst h; exact .inl rfl
  | e :: es, s, s', h => by
    simp only [gE] at h
    cases c : growT e.1 s e.2 with
    | inr t => rw [c] at h; cases h
    | inl s1 =>
      rw [c] at h
      obtain ⟨o, p⟩ := s
      obtain ⟨_, ⟨_, rfl⟩ | ⟨_, p0, z, rfl, _, rfl⟩⟩ := growT_cases c
      · right
        obtain ⟨h1, h2⟩ := gE_head es _ s' h
        have := h2 o.length (by simp)
        simp only [List.length_append, List.length_singleton] at h1
        simp only [gt_append_right (rfl : o.length = o.length), headE, Prod.mk.injEq] at this
        exact ⟨by simp only; omega, by simp only; omega⟩
      · have := gE_first es _ s' h
        simp only [List.length_set, List.length_append, List.length_singleton] at this ⊢
        omega
theorem gE_low : ∀ (es : List (Int × Int)) (s s' : Grow) (low : Int), gE s es = some s' → ((es.map Prod.snd).foldl lowStep ((s.2.length : Int), low)).1 = (s'.2.length : Int)
  | [], s, s', low, h => by simp only [gE, Option.some.injEq] at h; subst h; rfl
  | e :: es, s, s', low, h => by
    simp only [gE] at h
    cases c : growT e.1 s e.2 with
    | inr t => rw [c] at h; cases h
    | inl s1 =>
      rw [c] at h
      obtain ⟨o, p⟩ := s
      have hl : ∃ low', lowStep ((p.length : Int), low) e.2 = ((s1.2.length : Int), low') := by
        obtain ⟨_, ⟨hm, rfl⟩ | ⟨hm, p0, z, rfl, _, rfl⟩⟩ := growT_cases c
        · exact ⟨low, by simp [lowStep, hm]⟩
        · exact ⟨_, by simp only [lowStep, hm, if_false, List.length_append, List.length_singleton]; congr 1; omega⟩
      obtain ⟨low', hl⟩ := hl
      simp only [List.map_cons, List.foldl_cons, hl]
      exact gE_low es s1 s' low' h
theorem evs_snd : ∀ (fs : List (List Int)) (k : Int), (evs k fs).map Prod.snd = fs.flatten
  | [], k => rfl
  | f :: fs, k => by
    rw [evs, List.map_append, evs_snd fs, List.map_map, show (Prod.snd ∘ fun x => (k, x)) = id from rfl, List.map_id]; rfl
/-- What is told at the first entry that is unlike. -/
def sgI (a b : Int) : Int := if a < b then -1 else if a > b then 1 else 0
def cmpE (x y : MEntry) : Int := if x.Depth ≠ y.Depth then sgI y.Depth x.Depth else if x.Node ≠ y.Node then sgI x.Node y.Node else if x.From ≠ y.From then sgI x.From y.From else sgI y.To x.To
theorem r_sign (fuel : Nat) (a b : Int) : m_ref14_sign fuel a b = some (sgI a b) := by
  unfold m_ref14_sign sgI
  by_cases h1 : a < b
  · simp [h1]
  · by_cases h2 : a > b <;> simp [h1, h2]
theorem r_at (fuel : Nat) (t : List MEntry) (j : Nat) : m_ref14_at fuel t (j : Int) = some (gt t (j : Int)) := by
  unfold m_ref14_at
  by_cases h : j < t.length
  · have h1 : (j : Int) < (t.length : Int) := by omega
    have h2 : inb t (j : Int) = true := inb_true (by omega) h1
    simp [h1, h2]
  · have h1 : ¬ ((j : Int) < (t.length : Int)) := by omega
    have h2 : gt t (j : Int) = (⟨0, 0, 0, 0⟩ : MEntry) := by
      rw [gt_nat, List.getD_eq_getElem?_getD, List.getElem?_eq_none (by omega)]; rfl
    simp [h1, h2]
theorem r_ahead_at {fuel : Nat} {a b : List MEntry} {i : Nat} (hi : i < a.length ∨ i < b.length) (hs : ∀ j : Nat, j < i → gt a (j : Int) = gt b (j : Int)) (hne : gt a (i : Int) ≠ gt b (i : Int)) (hl : i ≤ 1000000000) (hf : i < fuel) :
    m_ref14_Ahead fuel a b = some (cmpE (gt a (i : Int)) (gt b (i : Int))) := by
  have hx : ∀ j : Nat, j ≤ i → ((if (decide ((j : Int) < (a.length : Int))) then some true else some (decide ((j : Int) < (b.length : Int)))) : Option Bool) = some true := by
    intro j hj
    by_cases h1 : (j : Int) < (a.length : Int)
    · simp [h1]
    · have h2 : (j : Int) < (b.length : Int) := by omega
      simp [h1, h2]
  have := iter_up (step := m_ref14_Ahead_l1 fuel a b) (fun i => (i : Int)) (.inr (cmpE (gt a (i : Int)) (gt b (i : Int)))) i (fun j hj => .inl (by
    unfold m_ref14_Ahead_l1
    simp only [hx j (by omega), bind_some', if_true, r_at, hs j hj, bne_self_eq_false, Bool.false_eq_true, if_false, W_succ (show j < 9223372036854775807 by omega)])) (by
    unfold m_ref14_Ahead_l1
    simp only [hx i (Nat.le_refl _), bind_some', if_true, r_at, r_sign]
    generalize gt a (i : Int) = x at *
    generalize gt b (i : Int) = y at *
    obtain ⟨d, n, f, t⟩ := x
    obtain ⟨d', n', f', t'⟩ := y
    simp only [ne_eq, MEntry.mk.injEq] at hne
    unfold cmpE
    by_cases c1 : d = d'
    · by_cases c2 : n = n'
      · by_cases c3 : f = f'
        · have c4 : ¬ t = t' := fun h => hne ⟨c1, c2, c3, h⟩
          simp [c1, c2, c3, c4]
        · simp [c1, c2, c3]
      · simp [c1, c2]
    · simp [c1]) i 0 fuel (by omega) hf
  unfold m_ref14_Ahead
  rw [show (0 : Int) = ((0 : Nat) : Int) from rfl, this]; rfl
/-- Where two lists of lows part from behind. -/
theorem cnt_same {P Q : List Int} (hl : P.length = Q.length) {n : Nat} (hn : n ≤ P.length) (hs : ∀ j : Nat, n ≤ j → j < P.length → gt P (j : Int) = gt Q (j : Int)) (z : Int) (h1 : ∀ j : Nat, j < n → z < gt P (j : Int)) (h2 : ∀ j : Nat, j < n → z < gt Q (j : Int)) : cnt P z = cnt Q z := by
  have e : ∀ L : List Int, n ≤ L.length → (∀ j : Nat, j < n → z < gt L (j : Int)) → cnt L z = n + cnt (L.drop n) z := by
    intro L hL h
    have : cnt L z = cnt (L.take n) z + cnt (L.drop n) z := by
      unfold cnt; rw [← List.length_append, ← List.filter_append, List.take_append_drop]
    rw [this]
    congr 1
    unfold cnt
    rw [List.filter_eq_self.2]
    · simp; omega
    · intro y hy
      obtain ⟨j, hj, rfl⟩ := List.getElem_of_mem hy
      simp only [List.length_take] at hj
      have := h j (by omega)
      rw [gt_get_nat (x := L[j]'(by omega)) (by simp)] at this
      simpa using this
  rw [e P hn h1, e Q (by omega) h2]
  congr 2
  apply List.ext_getElem (by simp [hl])
  intro j h3 h4
  simp only [List.length_drop] at h3 h4
  have := hs (n + j) (by omega) (by omega)
  rw [gt_get_nat (x := P[n + j]'(by omega)) (by simp), gt_get_nat (x := Q[n + j]'(by omega)) (by simp)] at this
  simpa using this
theorem cnt_gt {P Q : List Int} (hP : P.Pairwise fun a b => b ≤ a) (hQ : Q.Pairwise fun a b => b ≤ a) (hl : P.length = Q.length) : ∀ n : Nat, n ≤ P.length → (∀ j : Nat, n ≤ j → j < P.length → gt P (j : Int) = gt Q (j : Int)) → aheadL P Q n = some (-1) →
    ∃ z ∈ Q, (∃ y ∈ P, z < y) ∧ cnt Q z < cnt P z ∧ ∀ z', z' < z → cnt P z' = cnt Q z'
  | 0, _, _, h => by simp [aheadL] at h
  | n + 1, hn, hs, h => by
    unfold aheadL at h
    by_cases c : gt P (n : Int) = gt Q (n : Int)
    · rw [if_pos c] at h
      refine cnt_gt hP hQ hl n (by omega) ?_ h
      intro j h1 h2
      by_cases e : j = n
      · subst e; exact c
      · exact hs j (by omega) h2
    · rw [if_neg c] at h
      have hlt : gt Q (n : Int) < gt P (n : Int) := by
        simp only [Option.some.injEq] at h
        split at h
        · assumption
        · omega
      have ab : ∀ {L : List Int}, L.Pairwise (fun a b => b ≤ a) → n < L.length → ∀ j : Nat, j < n → gt L (n : Int) ≤ gt L (j : Int) := fun hL hnL j hj => down_gt hL hj hnL
      refine ⟨gt Q (n : Int), gt_mem (by omega), ⟨gt P (n : Int), gt_mem (by omega), hlt⟩, ?_, ?_⟩
      · have c1 : cnt Q (gt Q (n : Int)) ≤ n := by
          have : cnt Q (gt Q (n : Int)) = cnt (Q.take n) (gt Q (n : Int)) + cnt (Q.drop n) (gt Q (n : Int)) := by
            unfold cnt; rw [← List.length_append, ← List.filter_append, List.take_append_drop]
          rw [this, cnt_zero (L := Q.drop n)]
          · have := List.length_filter_le (fun z => decide (gt Q (n : Int) < z)) (Q.take n)
            unfold cnt; simp only [List.length_take] at this; omega
          · intro z hz
            obtain ⟨j, hj, rfl⟩ := List.getElem_of_mem hz
            simp only [List.length_drop] at hj
            rw [List.getElem_drop]
            rcases Nat.eq_zero_or_pos j with h0 | h0
            · subst h0; rw [gt_get_nat (x := Q[n]'(by omega)) (by simp)]; simp
            · have := down_gt hQ (show n < n + j by omega) (by omega)
              rwa [gt_get_nat (i := n + j) (x := Q[n + j]'(by omega)) (by simp)] at this
        have c2 : n + 1 ≤ cnt P (gt Q (n : Int)) := by
          have : cnt P (gt Q (n : Int)) = cnt (P.take (n + 1)) (gt Q (n : Int)) + cnt (P.drop (n + 1)) (gt Q (n : Int)) := by
            unfold cnt; rw [← List.length_append, ← List.filter_append, List.take_append_drop]
          rw [this]
          have : cnt (P.take (n + 1)) (gt Q (n : Int)) = n + 1 := by
            unfold cnt
            rw [List.filter_eq_self.2]
            · simp; omega
            · intro y hy
              obtain ⟨j, hj, rfl⟩ := List.getElem_of_mem hy
              simp only [List.length_take] at hj
              rw [List.getElem_take]
              have e : gt P (n : Int) ≤ gt P (j : Int) := by
                rcases Nat.lt_or_ge j n with h0 | h0
                · exact ab hP (by omega) j h0
                · obtain rfl : j = n := by omega
                  exact Int.le_refl _
              rw [gt_get_nat (i := j) (x := P[j]'(by omega)) (by simp)] at e
              simp; omega
          omega
        omega
      · intro z' hz'
        refine cnt_same hl (n := n + 1) hn hs z' ?_ ?_
        · intro j hj
          rcases Nat.lt_or_ge j n with h0 | h0
          · have := ab hP (by omega) j h0; omega
          · obtain rfl : j = n := by omega
            omega
        · intro j hj
          rcases Nat.lt_or_ge j n with h0 | h0
          · have := ab hQ (by omega) j h0; omega
          · obtain rfl : j = n := by omega
            exact hz'
/-- What is known of the trees of two rows that part. -/
structure TwoT (o0 : List MEntry) (p0 : List Int) (k : Int) (Lx Ly : List Int) (tx ty : List MEntry) : Prop where
  ok : GOk (o0, p0)
  sx : Shape o0 p0 (fun j => k + (cnt Lx ((j : Int) + 1) : Int)) 0 (tx, [])
  sy : Shape o0 p0 (fun j => k + (cnt Ly ((j : Int) + 1) : Int)) 0 (ty, [])
  x1 : ∀ z ∈ Lx, 1 ≤ z ∧ z ≤ (p0.length : Int) + 1
  y1 : ∀ z ∈ Ly, 1 ≤ z ∧ z ≤ (p0.length : Int) + 1
  dx : Lx.Pairwise fun a b => b ≤ a
  dy : Ly.Pairwise fun a b => b ≤ a
  len : Lx.length = Ly.length
  bx : o0.length ≤ 1000000000
theorem TwoT.same {o0 : List MEntry} {p0 : List Int} {k : Int} {Lx Ly : List Int} {tx ty : List MEntry} (h : TwoT o0 p0 k Lx Ly tx ty) {r : Nat} (hr : r < o0.length) (hc : ∀ j : Nat, j < p0.length → gt p0 (j : Int) = (r : Int) → cnt Lx ((j : Int) + 1) = cnt Ly ((j : Int) + 1)) : gt tx (r : Int) = gt ty (r : Int) := by
  by_cases e : ∃ j : Nat, j < p0.length ∧ gt p0 (j : Int) = (r : Int)
  · obtain ⟨j, h1, h2⟩ := e
    have a := h.sx.new j (Nat.zero_le _) h1
    have b := h.sy.new j (Nat.zero_le _) h1
    simp only at a b
    rw [h2] at a b
    rw [a, b, hc j h1 h2]
  · have hn : ∀ j : Nat, j < p0.length → gt p0 (j : Int) ≠ (r : Int) := fun j h1 h2 => e ⟨j, h1, h2⟩
    have a := h.sx.rest r hr hn
    have b := h.sy.rest r hr hn
    simp only at a b
    rw [a, b]
theorem TwoT.symm {o0 : List MEntry} {p0 : List Int} {k : Int} {Lx Ly : List Int} {tx ty : List MEntry} (h : TwoT o0 p0 k Lx Ly tx ty) : TwoT o0 p0 k Ly Lx ty tx := ⟨h.ok, h.sy, h.sx, h.y1, h.x1, h.dy, h.dx, h.len.symm, h.bx⟩
/-- They do not close alike: the uppermost one that they do not close in one frame tells. -/
theorem TwoT.lows {o0 : List MEntry} {p0 : List Int} {k : Int} {Lx Ly : List Int} {tx ty : List MEntry} {fuel : Nat} (h : TwoT o0 p0 k Lx Ly tx ty) (hf : 1000000001 < fuel) (ha : aheadL Lx Ly Lx.length = some (-1)) :
    m_ref14_Ahead fuel tx ty = some (-1) ∧ m_ref14_Ahead fuel ty tx = some 1 := by
  obtain ⟨z, hz, ⟨y, hy, hzy⟩, h1, h2⟩ := cnt_gt h.dx h.dy h.len Lx.length (Nat.le_refl _) (fun j h1 h2 => by omega) ha
  have hz1 := h.y1 z hz
  have hy1 := h.x1 y hy
  obtain ⟨j, rfl⟩ : ∃ j : Nat, z = (j : Int) + 1 := ⟨(z - 1).toNat, by omega⟩
  have hj : j < p0.length := by omega
  have hr := h.ok.rng j hj
  simp only at hr
  obtain ⟨i, hi⟩ : ∃ i : Nat, gt p0 (j : Int) = (i : Int) := ⟨(gt p0 (j : Int)).toNat, by omega⟩
  rw [hi] at hr
  have hsame : ∀ r : Nat, r < i → gt tx (r : Int) = gt ty (r : Int) := by
    intro r hri
    refine h.same (by omega) ?_
    intro j' hj' he
    refine h2 _ ?_
    have hinc := h.ok.inc
    simp only at hinc
    rcases Nat.lt_trichotomy j' j with h3 | h3 | h3
    · omega
    · subst h3; omega
    · have := hinc j j' h3 hj'; omega
  have a := h.sx.new j (Nat.zero_le _) hj
  have b := h.sy.new j (Nat.zero_le _) hj
  simp only at a b
  rw [hi] at a b
  have hlx := h.sx.len; have hly := h.sy.len; have hb := h.bx
  simp only at hlx hly
  have hne : gt tx (i : Int) ≠ gt ty (i : Int) := by
    rw [a, b]; intro h3; simp only [MEntry.mk.injEq, true_and] at h3; omega
  rw [r_ahead_at (.inl (by omega)) hsame hne (by omega) (by omega), r_ahead_at (.inl (by omega)) (fun r hr => (hsame r hr).symm) (Ne.symm hne) (by omega) (by omega), a, b]
  have d1 : k + (cnt Ly ((j : Int) + 1) : Int) < k + (cnt Lx ((j : Int) + 1) : Int) := by omega
  have d2 : ¬ (k + (cnt Lx ((j : Int) + 1) : Int) < k + (cnt Ly ((j : Int) + 1) : Int)) := by omega
  refine ⟨?_, ?_⟩
  · simp only [cmpE, ne_eq, not_true, if_false, sgI]; rw [if_pos d1]
  · simp only [cmpE, ne_eq, not_true, if_false, sgI]; rw [if_neg d2, if_pos d1]
theorem list_of_none {P Q : List Int} (hl : P.length = Q.length) (h : aheadL P Q P.length = none) : P = Q := by
  have := aheadL_none P Q _ h
  apply List.ext_getElem hl
  intro i h1 h2
  have := this i h1
  rwa [gt_get_nat (x := P[i]) (by simp), gt_get_nat (x := Q[i]) (by simp)] at this
theorem W_half {s : Int} (h0 : 0 ≤ s) (h1 : s ≤ 4000000000) : W (Int.tdiv s 2) = s / 2 := by
  rw [Int.tdiv_eq_ediv_of_nonneg h0, W_id (by omega) (by omega)]
theorem sgI_lt {a b : Int} (h : a < b) : sgI a b = -1 := if_pos h
theorem sgI_gt {a b : Int} (h : b < a) : sgI a b = 1 := by unfold sgI; rw [if_neg (by omega), if_pos h]
/-- The theorem: the order of the rows is that of the trees. -/
theorem trees_ahead {N n fuel : Nat} {x y : List (List Int)} {tx ty : List MEntry} {k i : Nat} (hox : OfF x = (tx, true)) (hoy : OfF y = (ty, true)) (hx : RowI N n x) (hy : RowI N n y) (F : Fork x y k i) (hN : N ≤ 1000000) (htx : tx.length ≤ 1000000000) (hf : 1000000001 < fuel) :
    m_ref14_Ahead fuel tx ty = some (atF N n x y k i) := by
  have gx := gE_Of hox
  have gy := gE_Of hoy
  rw [evs_cut F.kx F.ix, gE_append] at gx
  rw [evs_cut F.ky F.iy, gE_append, ← F.pre, ← F.pre2] at gy
  cases hc : gE ([], []) (evs 0 (x.take k) ++ ((gt x (k : Int)).take i).map fun z => ((k : Int), z)) with
  | none => rw [hc] at gx; cases gx
  | some s0 =>
  rw [hc] at gx gy
  simp only [Option.bind_some] at gx gy
  obtain ⟨o0, p0⟩ := s0
  have hok : GOk (o0, p0) := gE_gok _ _ _ ⟨fun j hj => by simp at hj, fun i j _ hj => by simp at hj⟩ hc
  obtain ⟨sx, x1⟩ := shape_end hok gx
  obtain ⟨sy, y1⟩ := shape_end hok gy
  have hdep : ∀ {u : List (List Int)}, RowI N n u → k < u.length → i < (gt u (k : Int)).length → u.take k = x.take k → (gt u (k : Int)).take i = (gt x (k : Int)).take i → depthAt N u k i = p0.length := by
    intro u hu hk hi h1 h2
    obtain ⟨s, hs⟩ := hu.nest
    obtain ⟨s1, s2, s3, n1, n2, _, _⟩ := lows_cut hs hk i
    have h3 := gE_low _ _ _ 1 hc
    rw [List.map_append, evs_snd, List.map_map, show (Prod.snd ∘ fun z => ((k : Int), z)) = id from rfl, List.map_id] at h3
    have h4 := lowStep_depth ((u.take k).flatten ++ (gt u (k : Int)).take i) [] s2 1 (by rw [nestS_append, n1]; exact n2)
    rw [h1, h2] at h4
    simp only [List.length_nil] at h3 h4
    have h5 : (s2.length : Int) = (p0.length : Int) := h4.symm.trans h3
    have : depthAt N u k i = s2.length := by simp [depthAt, n1, n2]
    omega
  have dX := hdep hx F.kx F.ix rfl rfl
  have dY := hdep hy F.ky F.iy F.pre.symm F.pre2.symm
  have eX : lowsAt N x k i = lowsR ((p0.length : Int), (p0.length : Int) + 1) ((gt x (k : Int)).drop i :: x.drop (k + 1)) := by unfold lowsAt LowsF; rw [dX]
  have eY : lowsAt N y k i = lowsR ((p0.length : Int), (p0.length : Int) + 1) ((gt y (k : Int)).drop i :: y.drop (k + 1)) := by unfold lowsAt LowsF; rw [dY]
  rw [← eX] at sx x1
  rw [← eY] at sy y1
  have lX := lowsAt_len (N := N) (i := i) F.kx
  have lY := lowsAt_len (N := N) (i := i) F.ky
  have hxl := hx.len; have hyl := hy.len
  have hlx := sx.len
  simp only at hlx
  have T : TwoT o0 p0 (k : Int) (lowsAt N x k i) (lowsAt N y k i) tx ty := ⟨hok, sx, sy, fun z hz => ⟨x1 z hz, by rw [eX] at hz; exact lowsR_le _ _ _ z hz⟩, fun z hz => ⟨y1 z hz, by rw [eY] at hz; exact lowsR_le _ _ _ z hz⟩, lowsAt_down N x k i, lowsAt_down N y k i, by omega, by omega⟩
  unfold atF
  rw [show n - k = (lowsAt N x k i).length by omega]
  cases ca : aheadL (lowsAt N x k i) (lowsAt N y k i) (lowsAt N x k i).length with
  | some r =>
    rcases aheadL_rng _ _ _ _ ca with rfl | rfl
    · exact (T.lows hf ca).1
    · have := aheadL_symm (lowsAt N x k i) (lowsAt N y k i) (lowsAt N x k i).length
      rw [ca] at this
      rw [T.len] at this
      exact (T.symm.lows hf this).2
  | none =>
    have hL := list_of_none T.len ca
    have hsame : ∀ r : Nat, r < o0.length → gt tx (r : Int) = gt ty (r : Int) := fun r hr => T.same hr (fun j _ _ => by rw [hL])
    obtain ⟨sx', hsx⟩ := hx.nest
    obtain ⟨sy', hsy⟩ := hy.nest
    have ex := nest_el hsx F.kx F.ix
    have ey := nest_el hsy F.ky F.iy
    have hne := F.ne
    -- the first steps
    have hdx : (gt x (k : Int)).drop i = gt (gt x (k : Int)) (i : Int) :: (gt x (k : Int)).drop (i + 1) := drop_cons F.ix
    have hdy : (gt y (k : Int)).drop i = gt (gt y (k : Int)) (i : Int) :: (gt y (k : Int)).drop (i + 1) := drop_cons F.iy
    rw [hdx] at gx
    rw [hdy] at gy
    generalize gt (gt x (k : Int)) (i : Int) = s at *
    generalize gt (gt y (k : Int)) (i : Int) = t at *
    simp only [evs, List.map_cons, List.cons_append, gE] at gx gy
    cases cx : growT (k : Int) (o0, p0) s with
    | inr u => rw [cx] at gx; cases gx
    | inl a =>
    cases cy : growT (k : Int) (o0, p0) t with
    | inr u => rw [cy] at gy; cases gy
    | inl b =>
    rw [cx] at gx
    rw [cy] at gy
    simp only at gx gy
    have ms : Int.tmod s 2 = s % 2 := Int.tmod_eq_emod_of_nonneg ex.1
    have mt : Int.tmod t 2 = t % 2 := Int.tmod_eq_emod_of_nonneg ey.1
    have hb := T.bx
    have hlast : ∀ {u : List MEntry}, u.length = o0.length → gt u (o0.length : Int) = (⟨0, 0, 0, 0⟩ : MEntry) := by
      intro u hu
      rw [gt_nat, List.getD_eq_getElem?_getD, List.getElem?_eq_none (by omega)]; rfl
    -- what opens, and what closes
    have opens : ∀ {u : Int} {c : Grow} {es : List (Int × Int)} {v : List MEntry}, c = (o0 ++ [⟨((p0.length + 1 : Nat) : Int), W (Int.tdiv u 2), (k : Int), 0⟩], p0 ++ [(o0.length : Int)]) → gE c es = some (v, []) → o0.length < v.length ∧ headE (gt v (o0.length : Int)) = (((p0.length + 1 : Nat) : Int), W (Int.tdiv u 2), (k : Int)) := by
      intro u c es v hc hg
      subst hc
      obtain ⟨h1, h2⟩ := gE_head _ _ _ hg
      simp only [List.length_append, List.length_singleton] at h1 h2
      have h3 := h2 o0.length (by omega)
      rw [gt_append_right rfl] at h3
      exact ⟨by omega, h3⟩
    have closes : ∀ {c : Grow} {es : List (Int × Int)} {v : List MEntry} {p1 : List Int} {w : Int} {e : MEntry}, p0 = p1 ++ [w] → c = (o0.set w.toNat e, p1) → gE c es = some (v, []) → (gt v (o0.length : Int)).Depth ≤ (p0.length : Int) := by
      intro c es v p1 w e hp hc hg
      subst hc
      have h1 := gE_first _ _ _ hg
      simp only [List.length_set] at h1
      have h2 : p0.length = p1.length + 1 := by rw [hp]; simp
      rcases h1 with h1 | ⟨_, h1⟩
      · rw [hlast h1]; simp only; omega
      · omega
    obtain ⟨_, ⟨hs, ha⟩ | ⟨hs, p1, z1, hp1, hn1, ha⟩⟩ := growT_cases cx
    · obtain ⟨h1, h2⟩ := opens ha gx
      simp only [headE, Prod.mk.injEq] at h2
      obtain ⟨_, ⟨ht, hb'⟩ | ⟨ht, p2, z2, hp2, hn2, hb'⟩⟩ := growT_cases cy
      · obtain ⟨h3, h4⟩ := opens hb' gy
        simp only [headE, Prod.mk.injEq] at h4
        have hW1 := W_half ex.1 (by omega)
        have hW2 := W_half ey.1 (by omega)
        have hnn : (gt tx (o0.length : Int)).Node ≠ (gt ty (o0.length : Int)).Node := by
          rw [h2.2.1, h4.2.1, hW1, hW2]; omega
        rw [r_ahead_at (.inl h1) hsame (fun h => hnn (by rw [h])) (by omega) (by omega)]
        unfold cmpE
        rw [if_neg (by rw [h2.1, h4.1]; simp), if_pos hnn, h2.2.1, h4.2.1, hW1, hW2, forkV_def ex.1 ey.1, if_pos (by omega)]
        by_cases c : s < t
        · rw [if_pos c, sgI_lt (by omega)]
        · rw [if_neg c, sgI_gt (by omega)]
      · have h3 := closes hp2 hb' gy
        have hdd : (gt tx (o0.length : Int)).Depth ≠ (gt ty (o0.length : Int)).Depth := by rw [h2.1]; omega
        rw [r_ahead_at (.inl h1) hsame (fun h => hdd (by rw [h])) (by omega) (by omega)]
        unfold cmpE
        rw [if_pos hdd, sgI_lt (by rw [h2.1]; omega), forkV_def ex.1 ey.1, if_neg (by omega)]
        exact congrArg some (show (-1 : Int) = s % 2 - t % 2 by omega)
    · have h1 := closes hp1 ha gx
      obtain ⟨_, ⟨ht, hb'⟩ | ⟨ht, p2, z2, hp2, hn2, hb'⟩⟩ := growT_cases cy
      · obtain ⟨h3, h4⟩ := opens hb' gy
        simp only [headE, Prod.mk.injEq] at h4
        have hdd : (gt tx (o0.length : Int)).Depth ≠ (gt ty (o0.length : Int)).Depth := by rw [h4.1]; omega
        rw [r_ahead_at (.inr h3) hsame (fun h => hdd (by rw [h])) (by omega) (by omega)]
        unfold cmpE
        rw [if_pos hdd, sgI_gt (by rw [h4.1]; omega), forkV_def ex.1 ey.1, if_neg (by omega)]
        exact congrArg some (show (1 : Int) = s % 2 - t % 2 by omega)
      · exfalso
        rw [hp1] at hp2
        obtain ⟨_, e2⟩ := List.append_inj' hp2 (by simp)
        simp only [List.cons.injEq, and_true] at e2
        subst e2
        rw [hn1, W_half ex.1 (by omega), W_half ey.1 (by omega)] at hn2
        omega
end Go.Proofs.Ytfhehbfifffipaa
