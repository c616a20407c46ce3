/- The tree of frames: the program and the document tell the same. Its conditions: none. -/
import Derived.Test.YtfhehbfifffipaaPTrc1
set_option autoImplicit false
namespace Go.Proofs.Ytfhehbfifffipaa
open Go.V Go.RowKit

abbrev Grow := List MEntry × List Int
def growT (k : Int) (s : Grow) (x : Int) : Grow ⊕ Unit :=
  if x < 0 ∨ (s.2.length = 0 ∧ 0 < s.1.length) then .inr ()
  else if Int.tmod x 2 = 0 then .inl (s.1 ++ [⟨((s.2.length + 1 : Nat) : Int), W (Int.tdiv x 2), k, 0⟩], s.2 ++ [(s.1.length : Int)])
  else if s.2.length = 0 then .inr ()
  else
    if (gt s.1 (gt s.2 ((s.2.length - 1 : Nat) : Int))).Node = W (Int.tdiv x 2) then
      .inl (s.1.set (gt s.2 ((s.2.length - 1 : Nat) : Int)).toNat ⟨(gt s.1 (gt s.2 ((s.2.length - 1 : Nat) : Int))).Depth, (gt s.1 (gt s.2 ((s.2.length - 1 : Nat) : Int))).Node, (gt s.1 (gt s.2 ((s.2.length - 1 : Nat) : Int))).From, k⟩, s.2.take (s.2.length - 1))
    else .inr ()
def doneB (s : Grow) : Bool := decide (s.2.length = 0) && decide (0 < s.1.length)
structure GrowI (n : Nat) (s : Grow) : Prop where
  out : s.1.length ≤ n
  open_ : s.2.length ≤ n
  rng : ∀ x ∈ s.2, 0 ≤ x ∧ x < (s.1.length : Int)
theorem growT_ok {k : Int} {n : Nat} {s s' : Grow} {x : Int} (hI : GrowI n s) (h : growT k s x = .inl s') : GrowI (n + 1) s' := by
  unfold growT at h
  split at h
  · cases h
  · split at h
    · obtain rfl := Sum.inl.inj h
      have h1 := hI.out; have h2 := hI.open_
      refine ⟨by simp; omega, by simp; omega, fun y hy => ?_⟩
      rcases List.mem_append.1 hy with hy | hy
      · have := hI.rng y hy; simp; omega
      · simp at hy; subst hy; simp; omega
    · split at h
      · cases h
      · split at h
        · obtain rfl := Sum.inl.inj h
          have h1 := hI.out; have h2 := hI.open_
          refine ⟨by simp; omega, by simp; omega, fun y hy => ?_⟩
          have := hI.rng y (List.mem_of_mem_take hy)
          simpa using this
        · cases h
theorem m_grow {k : Int} {n : Nat} {s : Grow} {x : Int} (fuel : Nat) (hn : n ≤ 1000000000) (hI : GrowI n s) :
    (∃ s', growT k s x = .inl s' ∧ m_tree_grower_step fuel ⟨s.1, s.2⟩ x k = some (true, ⟨s'.1, s'.2⟩)) ∨ (growT k s x = .inr () ∧ ∃ g, m_tree_grower_step fuel ⟨s.1, s.2⟩ x k = some (false, g)) := by
  obtain ⟨out, op⟩ := s
  have h1 := hI.out; have h2 := hI.open_
  simp only at h1 h2
  have hap1 : ∀ y : Int, apOk 8 op [y] = true := fun y => apOk_true (by simp; omega)
  have hap2 : ∀ y : MEntry, apOk 32 out [y] = true := fun y => apOk_true (by simp; omega)
  unfold growT m_tree_grower_step
  by_cases hx : x < 0
  · right; simp [hx]
  · by_cases hop : op.length = 0
    · obtain rfl := List.eq_nil_of_length_eq_zero hop
      by_cases ho : 0 < out.length
      · right; simp [hx, ho]
      · obtain rfl := List.eq_nil_of_length_eq_zero (show out.length = 0 by omega)
        by_cases hm : Int.tmod x 2 = 0
        · left; refine ⟨_, by simp [hx, hm]; rfl, ?_⟩; simp [hx, hm, hap1, hap2]
        · right; simp [hx, hm]
    · have hop' : ¬ ((op.length : Int) = 0) := by omega
      by_cases hm : Int.tmod x 2 = 0
      · left
        refine ⟨(out ++ [⟨((op.length + 1 : Nat) : Int), W (Int.tdiv x 2), k, 0⟩], op ++ [(out.length : Int)]), by rw [if_neg (fun h => h.elim hx fun h => hop h.1), if_pos hm], ?_⟩
        simp only [hx, decide_false, Bool.false_eq_true, if_false, beq_iff_eq, hop', bind_some', hm, if_true, hap1, hap2]
        simp
      · have hW : W ((op.length : Int) - 1) = ((op.length - 1 : Nat) : Int) := by rw [W_id (by omega) (by omega)]; omega
        have htop := hI.rng _ (gt_mem (show op.length - 1 < op.length by omega))
        simp only at htop
        have hin1 : inb op ((op.length - 1 : Nat) : Int) = true := inb_true (by omega) (by omega)
        have hin2 : inb out (gt op ((op.length - 1 : Nat) : Int)) = true := inb_true htop.1 htop.2
        have hsl : slOk op 0 ((op.length - 1 : Nat) : Int) = true := by simp [slOk]
        have hcut : cutL op 0 ((op.length - 1 : Nat) : Int) = op.take (op.length - 1) := by simp [cutL]
        have hset : ∀ e : MEntry, gt (out.set (gt op ((op.length - 1 : Nat) : Int)).toNat e) (gt op ((op.length - 1 : Nat) : Int)) = e := fun e => gt_int (List.getElem?_set_self (by omega))
        simp only [hx, decide_false, Bool.false_eq_true, if_false, beq_iff_eq, hop', bind_some', hm, hW, hin1, hin2, hsl, if_true, hcut, hset, false_or, hop, false_and]
        by_cases hN : (gt out (gt op ((op.length - 1 : Nat) : Int))).Node = W (Int.tdiv x 2)
        · left; exact ⟨_, by rw [if_pos hN], by simp [hN]⟩
        · right; exact ⟨by rw [if_neg hN], _, by simp [hN]; rfl⟩
theorem grow_iter_m {fuel : Nat} {fs : List (List Int)} {k : Nat} (hk : k < fs.length) {n : Nat} {s : Grow} (hI : GrowI n s) (hn : n + (gt fs (k : Int)).length ≤ 1000000000) (hf : (gt fs (k : Int)).length < fuel) (x1 : MTreeGrower) :
    iter (m_tree_Of_l2 fuel fs x1 (k : Int)) fuel (⟨s.1, s.2⟩, 0) = some (outE (fun s => .inl ⟨s.1, s.2⟩) (fun _ => .inr ([], false)) (foldE (growT (k : Int)) s (gt fs (k : Int)))) ∧ ∀ s', foldE (growT (k : Int)) s (gt fs (k : Int)) = .inl s' → GrowI (n + (gt fs (k : Int)).length) s' := by
  have hin0 : inb fs (k : Int) = true := inb_true (by omega) (by omega)
  refine iter_fold0 (step := m_tree_Of_l2 fuel fs x1 (k : Int)) (fun (s : Grow) i => (⟨s.1, s.2⟩, i)) (fun s => (.inl ⟨s.1, s.2⟩ : MTreeGrower ⊕ (List MEntry × Bool))) (fun _ : Unit => .inr ([], false)) (growT (k : Int)) (gt fs (k : Int)) (fun i s => GrowI (n + i) s) s (by omega) hI ?_ ?_
  · intro i s hi hI
    have hin : inb (gt fs (k : Int)) (i : Int) = true := inb_true (by omega) (by omega)
    have hd : (i : Int) < ((gt fs (k : Int)).length : Int) := by omega
    unfold m_tree_Of_l2
    simp only [hd, decide_true, if_true, hin0, hin, W_succ (show i < 9223372036854775807 by omega)]
    rcases m_grow (k := (k : Int)) (x := gt (gt fs (k : Int)) (i : Int)) fuel (show n + i ≤ 1000000000 by omega) hI with ⟨s', h1, h2⟩ | ⟨h1, g, h2⟩
    · exact .inl ⟨s', h1, by simp [h2], growT_ok hI h1⟩
    · exact .inr ⟨(), h1, by simp [h2]⟩
  · intro s hI
    unfold m_tree_Of_l2
    simp
theorem grow_iter_r {fuel : Nat} {fs : List (List Int)} {k : Nat} (hk : k < fs.length) {n : Nat} {s : Grow} (hI : GrowI n s) (hn : n + (gt fs (k : Int)).length ≤ 1000000000) (hf : (gt fs (k : Int)).length < fuel) (x1 : List MEntry) (x2 : List Int) (x3 : Bool) :
    iter (m_ref14_Of_l2 fuel fs x1 x2 x3 (k : Int)) fuel (s.1, s.2, doneB s, 0) = some (outE (fun s => .inl (s.1, s.2, doneB s)) (fun _ => .inr ([], false)) (foldE (growT (k : Int)) s (gt fs (k : Int)))) := by
  have hin0 : inb fs (k : Int) = true := inb_true (by omega) (by omega)
  refine (iter_fold0 (step := m_ref14_Of_l2 fuel fs x1 x2 x3 (k : Int)) (fun (s : Grow) i => (s.1, s.2, doneB s, i)) (fun s => (.inl (s.1, s.2, doneB s) : (List MEntry × List Int × Bool) ⊕ (List MEntry × Bool))) (fun _ : Unit => .inr ([], false)) (growT (k : Int)) (gt fs (k : Int)) (fun i s => GrowI (n + i) s) s (by omega) hI ?_ ?_).1
  · intro i s hi hI
    have hin : inb (gt fs (k : Int)) (i : Int) = true := inb_true (by omega) (by omega)
    have hd : (i : Int) < ((gt fs (k : Int)).length : Int) := by omega
    have hok : ∀ s', growT (k : Int) s (gt (gt fs (k : Int)) (i : Int)) = .inl s' → GrowI (n + (i + 1)) s' := fun s' h => growT_ok hI h
    unfold m_ref14_Of_l2
    simp only [hd, decide_true, if_true, hin0, hin, W_succ (show i < 9223372036854775807 by omega)]
    generalize gt (gt fs (k : Int)) (i : Int) = x at *
    obtain ⟨out, op⟩ := s
    have h1 := hI.out; have h2 := hI.open_
    simp only at h1 h2
    have hap1 : ∀ y : Int, apOk 8 op [y] = true := fun y => apOk_true (by simp; omega)
    have hap2 : ∀ y : MEntry, apOk 32 out [y] = true := fun y => apOk_true (by simp; omega)
    by_cases hx : x < 0
    · exact .inr ⟨(), by simp [growT, hx], by simp [hx]⟩
    · by_cases hdn : doneB (out, op) = true
      · have hdn' := hdn
        simp only [doneB, Bool.and_eq_true, decide_eq_true_eq] at hdn'
        exact .inr ⟨(), by unfold growT; rw [if_pos (.inr hdn')], by simp [hx, hdn]⟩
      · have hno : ¬ (x < 0 ∨ (op.length = 0 ∧ 0 < out.length)) := by
          simp only [doneB, Bool.and_eq_true, decide_eq_true_eq] at hdn
          rintro (h | h)
          · exact hx h
          · exact hdn h
        have hdnf : doneB (out, op) = false := by simpa using hdn
        by_cases hm : Int.tmod x 2 = 0
        · have hd0 : ∀ e : MEntry, ∀ y : Int, doneB (out ++ [e], op ++ [y]) = false := fun e y => by simp [doneB]
          have e : growT (k : Int) (out, op) x = .inl (out ++ [⟨((op.length + 1 : Nat) : Int), W (Int.tdiv x 2), k, 0⟩], op ++ [(out.length : Int)]) := by unfold growT; rw [if_neg hno, if_pos hm]
          have hW2 : ∀ e : MEntry, W (((out ++ [e]).length : Int) - 1) = (out.length : Int) := fun e => by rw [W_id (by simp only [List.length_append, List.length_singleton]; omega) (by simp only [List.length_append, List.length_singleton]; omega), List.length_append, List.length_singleton]; omega
          exact .inl ⟨_, e, by simp only [hx, hdnf, hm, hap1, hap2, hW2, W_succ (show op.length < 9223372036854775807 by omega), hd0, decide_false, Bool.false_eq_true, if_false, if_true, bind_some', beq_self_eq_true], hok _ e⟩
        · by_cases hop : op.length = 0
          · have e : growT (k : Int) (out, op) x = .inr () := by unfold growT; rw [if_neg hno, if_neg hm, if_pos hop]
            exact .inr ⟨(), e, by simp [hx, hdnf, hm, hop]⟩
          · have hop' : ¬ ((op.length : Int) = 0) := by omega
            have hW : W ((op.length : Int) - 1) = ((op.length - 1 : Nat) : Int) := by rw [W_id (by omega) (by omega)]; omega
            have htop := hI.rng _ (gt_mem (show op.length - 1 < op.length by omega))
            simp only at htop
            have hin1 : inb op ((op.length - 1 : Nat) : Int) = true := inb_true (by omega) (by omega)
            have hin2 : inb out (gt op ((op.length - 1 : Nat) : Int)) = true := inb_true htop.1 htop.2
            have hsl : slOk op 0 ((op.length - 1 : Nat) : Int) = true := by simp [slOk]
            have hcut : cutL op 0 ((op.length - 1 : Nat) : Int) = op.take (op.length - 1) := by simp [cutL]
            by_cases hN : (gt out (gt op ((op.length - 1 : Nat) : Int))).Node = W (Int.tdiv x 2)
            · have e : growT (k : Int) (out, op) x = .inl (out.set (gt op ((op.length - 1 : Nat) : Int)).toNat ⟨(gt out (gt op ((op.length - 1 : Nat) : Int))).Depth, (gt out (gt op ((op.length - 1 : Nat) : Int))).Node, (gt out (gt op ((op.length - 1 : Nat) : Int))).From, k⟩, op.take (op.length - 1)) := by
                unfold growT; rw [if_neg hno, if_neg hm, if_neg hop, if_pos hN]
              have hpos : 0 < out.length := by omega
              refine .inl ⟨_, e, ?_, hok _ e⟩
              have hlen0 : (((op.take (op.length - 1)).length : Int) == 0) = decide ((op.take (op.length - 1)).length = 0) := by rw [Bool.eq_iff_iff]; simp
              simp only [hx, hdnf, hm, hop', hW, hin1, hin2, hsl, hcut, decide_false, Bool.false_eq_true, if_false, bind_some', beq_iff_eq, if_true, bne_iff_ne, ne_eq, hN, not_true, hlen0, bne_self_eq_false]
              simp only [doneB, List.length_set, hpos, decide_true, Bool.and_true]
            · have e : growT (k : Int) (out, op) x = .inr () := by unfold growT; rw [if_neg hno, if_neg hm, if_neg hop, if_neg hN]
              have hNb : ((gt out (gt op ((op.length - 1 : Nat) : Int))).Node != W (Int.tdiv x 2)) = true := by simpa using hN
              exact .inr ⟨(), e, by simp only [hx, hdnf, hm, hop', hW, hin1, hin2, hNb, decide_false, Bool.false_eq_true, if_false, bind_some', beq_iff_eq, if_true]⟩
  · intro s hI
    unfold m_ref14_Of_l2
    simp [hin0]

def frameT (n : Nat) (s : Grow × Int) (fr : List Int) : (Grow × Int) ⊕ Unit :=
  match foldE (growT s.2) s.1 fr with
  | .inl s' => if doneB s' && decide (s.2 < (n : Int) - 1) then .inr () else .inl (s', s.2 + 1)
  | .inr _ => .inr ()
def OfF (fs : List (List Int)) : List MEntry × Bool :=
  match foldE (frameT fs.length) (([], []), 0) fs with
  | .inl (s, _) => if doneB s then (s.1, true) else ([], false)
  | .inr _ => ([], false)
structure FrI (i : Nat) (s : Grow × Int) : Prop where
  k : s.2 = i
  g : GrowI (i * 2000000) s.1
theorem Of_eq {fuel : Nat} {fs : List (List Int)} (hl : fs.length ≤ 100) (hst : ∀ f ∈ fs, f.length ≤ 2000000) (hf : 2000001 < fuel) : m_tree_Of fuel fs = some (OfF fs) ∧ m_ref14_Of fuel fs = some (OfF fs) := by
  have hI0 : FrI 0 ((([], []), 0) : Grow × Int) := ⟨rfl, by simp, by simp, by simp⟩
  have hWn : W ((fs.length : Int) - 1) = (fs.length : Int) - 1 := W_id (by omega) (by omega)
  have hg : ∀ (i : Nat) (s : Grow × Int), i < fs.length → FrI i s → ∀ s', foldE (growT s.2) s.1 (gt fs (i : Int)) = .inl s' → GrowI (i * 2000000 + (gt fs (i : Int)).length) s' → FrI (i + 1) (s', s.2 + 1) := by
    intro i s hi hI s' h1 h2
    have := hst _ (gt_mem hi)
    exact ⟨by simp [hI.k], by have := h2.out; show s'.1.length ≤ _; omega, by have := h2.open_; show s'.2.length ≤ _; omega, h2.rng⟩
  have hm := iter_fold0 (step := m_tree_Of_l1 fuel fs) (fun (s : Grow × Int) i => (⟨s.1.1, s.1.2⟩, i)) (fun s => (.inl ⟨s.1.1, s.1.2⟩ : MTreeGrower ⊕ (List MEntry × Bool))) (fun _ : Unit => .inr ([], false)) (frameT fs.length) fs FrI (([], []), 0) (fuel := fuel) (by omega) hI0
    (fun i s hi hI => by
      have hin : inb fs (i : Int) = true := inb_true (by omega) (by omega)
      have hd : (i : Int) < (fs.length : Int) := by omega
      have hfl := hst _ (gt_mem hi)
      obtain ⟨g1, g2⟩ := grow_iter_m (fuel := fuel) hi hI.g (show i * 2000000 + (gt fs (i : Int)).length ≤ 1000000000 by omega) (by omega) ⟨s.1.1, s.1.2⟩
      have hg := hg i s hi hI
      rw [hI.k] at hg
      unfold m_tree_Of_l1 frameT
      simp only [hd, decide_true, if_true, hin, g1, bind_some', W_succ (show i < 9223372036854775807 by omega), hI.k, hWn]
      cases c : foldE (growT (i : Int)) s.1 (gt fs (i : Int)) with
      | inr u => exact .inr ⟨(), rfl, rfl⟩
      | inl s' =>
        have hg' := hg s' c (g2 s' c)
        simp only [outE, doneB]
        by_cases h1 : s'.2.length = 0 <;> by_cases h2 : 0 < s'.1.length <;> by_cases h3 : (i : Int) < (fs.length : Int) - 1 <;> simp [h1, h2, h3] <;> simpa [h1] using hg')
    (fun s _ => by unfold m_tree_Of_l1; simp)
  have hr := iter_fold0 (step := m_ref14_Of_l1 fuel fs) (fun (s : Grow × Int) i => (s.1.1, s.1.2, doneB s.1, i)) (fun s => (.inl (s.1.1, doneB s.1) : (List MEntry × Bool) ⊕ (List MEntry × Bool))) (fun _ : Unit => .inr ([], false)) (frameT fs.length) fs FrI (([], []), 0) (fuel := fuel) (by omega) hI0
    (fun i s hi hI => by
      have hin : inb fs (i : Int) = true := inb_true (by omega) (by omega)
      have hd : (i : Int) < (fs.length : Int) := by omega
      have hfl := hst _ (gt_mem hi)
      obtain ⟨_, g2⟩ := grow_iter_m (fuel := fuel) hi hI.g (show i * 2000000 + (gt fs (i : Int)).length ≤ 1000000000 by omega) (by omega) ⟨s.1.1, s.1.2⟩
      have g1 := grow_iter_r (fuel := fuel) hi hI.g (show i * 2000000 + (gt fs (i : Int)).length ≤ 1000000000 by omega) (by omega) s.1.1 s.1.2 (doneB s.1)
      have hg := hg i s hi hI
      rw [hI.k] at hg
      unfold m_ref14_Of_l1 frameT
      simp only [hd, decide_true, if_true, g1, bind_some', W_succ (show i < 9223372036854775807 by omega), hI.k, hWn]
      cases c : foldE (growT (i : Int)) s.1 (gt fs (i : Int)) with
      | inr u => exact .inr ⟨(), rfl, rfl⟩
      | inl s' =>
        have hg' := hg s' c (g2 s' c)
        simp only [outE]
        cases hdn : doneB s' <;> by_cases h3 : (i : Int) < (fs.length : Int) - 1 <;> simp [h3, hdn] <;> exact hg')
    (fun s _ => by unfold m_ref14_Of_l1; simp)
  unfold m_tree_Of m_ref14_Of OfF
  have e1 := hm.1
  have e2 := hr.1
  rw [show (⟨[], []⟩ : MTreeGrower) = ⟨((([], []), 0) : Grow × Int).1.1, ((([], []), 0) : Grow × Int).1.2⟩ from rfl, e1]
  rw [show (([] : List MEntry), ([] : List Int), false, (0 : Int)) = (((([], []), 0) : Grow × Int).1.1, ((([], []), 0) : Grow × Int).1.2, doneB ((([], []), 0) : Grow × Int).1, 0) from rfl, e2]
  cases c : foldE (frameT fs.length) (([], []), 0) fs with
  | inr u => exact ⟨rfl, rfl⟩
  | inl s =>
    obtain ⟨s, k⟩ := s
    simp only [outE, bind_some', doneB]
    by_cases h1 : s.2.length = 0 <;> by_cases h2 : s.1.length = 0 <;> simp [h1, h2, Nat.pos_iff_ne_zero] <;> try omega
/-- A tree is the same as itself. -/
theorem r_ahead_self {fuel : Nat} {t : List MEntry} (hl : t.length ≤ 1000000000) (hf : t.length < fuel) : m_ref14_Ahead fuel t t = some 0 := by
  have := iter_up (step := m_ref14_Ahead_l1 fuel t t) (fun i => (i : Int)) (.inl ()) t.length (fun i hi => .inl (by
    have hd : (i : Int) < (t.length : Int) := by omega
    have hin : inb t (i : Int) = true := inb_true (by omega) (by omega)
    unfold m_ref14_Ahead_l1 m_ref14_at
    simp only [hd, decide_true, if_true, bind_some', hin, bne_self_eq_false, Bool.false_eq_true, if_false, W_succ (show i < 9223372036854775807 by omega)])) (by unfold m_ref14_Ahead_l1; simp) t.length 0 fuel (by omega) hf
  unfold m_ref14_Ahead
  rw [show (0 : Int) = ((0 : Nat) : Int) from rfl, this]; rfl
theorem OfF_len {fs : List (List Int)} (hl : fs.length ≤ 100) (hst : ∀ f ∈ fs, f.length ≤ 2000000) : (OfF fs).1.length ≤ 1000000000 := by
  have hgl : ∀ (k : Int) (xs : List Int) (s s' : Grow), foldE (growT k) s xs = .inl s' → s'.1.length ≤ s.1.length + xs.length := by
    intro k xs
    induction xs with
    | nil => intro s s' h; simp only [foldE, Sum.inl.injEq] at h; subst h; simp
    | cons x xs ih =>
      intro s s' h
      simp only [foldE] at h
      cases c : growT k s x with
      | inr u => rw [c] at h; cases h
      | inl s2 =>
        rw [c] at h
        have h1 := ih s2 s' h
        have h2 : s2.1.length ≤ s.1.length + 1 := by
          unfold growT at c
          split at c
          · cases c
          · split at c
            · obtain rfl := Sum.inl.inj c; simp
            · split at c
              · cases c
              · split at c
                · obtain rfl := Sum.inl.inj c; simp
                · cases c
        simp; omega
  have hfl : ∀ (n : Nat) (xs : List (List Int)) (s s' : Grow × Int), (∀ f ∈ xs, f.length ≤ 2000000) → foldE (frameT n) s xs = .inl s' → s'.1.1.length ≤ s.1.1.length + xs.length * 2000000 := by
    intro n xs
    induction xs with
    | nil => intro s s' _ h; simp only [foldE, Sum.inl.injEq] at h; subst h; simp
    | cons x xs ih =>
      intro s s' hx h
      simp only [foldE] at h
      cases c : frameT n s x with
      | inr u => rw [c] at h; cases h
      | inl s2 =>
        rw [c] at h
        have h1 := ih s2 s' (fun f hf => hx f (by simp [hf])) h
        have h3 := hx x (by simp)
        unfold frameT at c
        cases c2 : foldE (growT s.2) s.1 x with
        | inr u => rw [c2] at c; cases c
        | inl s3 =>
          rw [c2] at c
          have h2 := hgl _ _ _ _ c2
          simp only at c
          split at c
          · cases c
          · obtain rfl := Sum.inl.inj c
            simp only [List.length_cons] at *
            omega
  unfold OfF
  split
  · rename_i s k h
    have := hfl _ _ _ _ hst h
    simp at this
    split
    · simp; omega
    · simp
  · simp
end Go.Proofs.Ytfhehbfifffipaa
