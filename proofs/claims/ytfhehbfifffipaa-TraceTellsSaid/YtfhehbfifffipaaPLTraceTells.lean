/- TraceTells: the frames and the tree of any list of places, and whether it is a run over any bytes, are those that the document tells. Its conditions: none. -/
import Derived.Test.YtfhehbfifffipaaPTrc3
import Derived.Test.YtfhehbfifffipaaPSure18
import Derived.Test.YtfhehbfifffipaaFTraceTells
set_option autoImplicit false
namespace Go.Proofs.Ytfhehbfifffipaa
open Go.V Go.RowKit

theorem ints_self {fuel : Nat} {a : List Int} (hl : a.length ≤ 1000000000) (hf : a.length < fuel) : m_ref06_Ints fuel a a = some true := by
  have := iter_up (step := m_ref06_Ints_l1 fuel a a) (fun i => (i : Int)) (.inl ()) a.length (fun i hi => .inl (by
    have hd : (i : Int) < (a.length : Int) := by omega
    have hin : inb a (i : Int) = true := inb_true (by omega) (by omega)
    unfold m_ref06_Ints_l1
    simp only [hd, decide_true, if_true, hin, bne_self_eq_false, Bool.false_eq_true, if_false, W_succ (show i < 9223372036854775807 by omega)])) (by unfold m_ref06_Ints_l1; simp) a.length 0 fuel (by omega) hf
  unfold m_ref06_Ints
  rw [show (0 : Int) = ((0 : Nat) : Int) from rfl, this]; simp
theorem OfF_len {fs : List (List Int)} (hl : fs.length ≤ 100) (hst : ∀ f ∈ fs, f.length ≤ 2000000) : (OfF fs).1.length ≤ 1000000000 := by
  have hgl : ∀ (k : Int) (xs : List Int) (s s' : Grow), foldE (growT k) s xs = .inl s' → s'.1.length ≤ s.1.length + xs.length := by
    intro k xs
    induction xs with
    | nil => intro s s' h; simp only [foldE, Sum.inl.injEq] at h; subst h; simp
    | cons x xs ih =>
      intro s s' h
      simp only [foldE] at h
      cases c : growT k s x with
      | inr u => rw [c] at h; cases h
      | inl s2 =>
        rw [c] at h
        have h1 := ih s2 s' h
        have h2 : s2.1.length ≤ s.1.length + 1 := by
          unfold growT at c
          split at c
          · cases c
          · split at c
            · obtain rfl := Sum.inl.inj c; simp
            · split at c
              · cases c
              · split at c
                · obtain rfl := Sum.inl.inj c; simp
                · cases c
        simp; omega
  have hfl : ∀ (n : Nat) (xs : List (List Int)) (s s' : Grow × Int), (∀ f ∈ xs, f.length ≤ 2000000) → foldE (frameT n) s xs = .inl s' → s'.1.1.length ≤ s.1.1.length + xs.length * 2000000 := by
    intro n xs
    induction xs with
    | nil => intro s s' _ h; simp only [foldE, Sum.inl.injEq] at h; subst h; simp
    | cons x xs ih =>
      intro s s' hx h
      simp only [foldE] at h
      cases c : frameT n s x with
      | inr u => rw [c] at h; cases h
      | inl s2 =>
        rw [c] at h
        have h1 := ih s2 s' (fun f hf => hx f (by simp [hf])) h
        have h3 := hx x (by simp)
        unfold frameT at c
        cases c2 : foldE (growT s.2) s.1 x with
        | inr u => rw [c2] at c; cases c
        | inl s3 =>
          rw [c2] at c
          have h2 := hgl _ _ _ _ c2
          simp only at c
          split at c
          · cases c
          · obtain rfl := Sum.inl.inj c
            simp only [List.length_cons] at *
            omega
  unfold OfF
  split
  · rename_i s k h
    have := hfl _ _ _ _ hst h
    simp at this
    split
    · simp; omega
    · simp
  · simp
theorem traceTells_law : TraceTellsLaw := by
  intro l run w hw hl hr hrl hww hwl
  refine ⟨10000000000000, ?_⟩
  have hs := sure18
  have hf : 2000000001 < 10000000000000 := by omega
  generalize 10000000000000 = fuel at *
  unfold m_law18_TraceTells m_law18_few
  by_cases h1 : (l.length : Int) ≤ 60
  · by_cases h2 : (run.length : Int) ≤ 16
    · by_cases h3 : (w.length : Int) > 60
      · simp [h1, h2, h3, hs]
      · have T := waysT (fuel := fuel) hw hl (by omega) (by omega)
        have hF := fun fin => Frames_eq T (show l.length ≤ 1000 by omega) (show 1000001 < fuel by omega) (show run.length ≤ 1000 by omega) fin
        have hin : ∀ (fin : Bool) (x4 : Int), iter (m_law18_TraceTells_l2 fuel l run w x4 (FramesF fuel l run fin) (FramesF fuel l run fin)) fuel 0 = some (.inl ()) := by
          intro fin x4
          obtain ⟨_, _, h5, h6⟩ := hF fin
          have := iter_up (step := m_law18_TraceTells_l2 fuel l run w x4 (FramesF fuel l run fin) (FramesF fuel l run fin)) (fun i => (i : Int)) (.inl ()) (FramesF fuel l run fin).1.length (fun i hi => .inl (by
            have hd : (i : Int) < ((FramesF fuel l run fin).1.length : Int) := by omega
            have hin : inb (FramesF fuel l run fin).1 (i : Int) = true := inb_true (by omega) (by omega)
            have h7 := h6 _ (gt_mem hi)
            unfold m_law18_TraceTells_l2
            simp only [hd, decide_true, if_true, hin, ints_self (fuel := fuel) (show (gt (FramesF fuel l run fin).1 (i : Int)).length ≤ 1000000000 by omega) (by omega), bind_some', Bool.not_true, Bool.false_eq_true, if_false, W_succ (show i < 9223372036854775807 by omega)])) (by unfold m_law18_TraceTells_l2; simp) (FramesF fuel l run fin).1.length 0 fuel (by omega) (by omega)
          exact this
        have hout : iter (m_law18_TraceTells_l1 fuel l run w) fuel 0 = some (.inl ()) := by
          refine iter_up (step := m_law18_TraceTells_l1 fuel l run w) (fun i => (i : Int)) (.inl ()) 2 (fun i hi => .inl ?_) ?_ 2 0 fuel (by omega) (by omega)
          · have hd : (i : Int) < 2 := by omega
            obtain ⟨e1, e2, _, _⟩ := hF ((i : Int) == 1)
            unfold m_law18_TraceTells_l1
            simp only [hd, decide_true, if_true, e1, e2, bind_some', bne_self_eq_false, Bool.false_eq_true, if_false, hin, W_succ (show i < 9223372036854775807 by omega)]
          · unfold m_law18_TraceTells_l1; simp
        have hT : ∃ t : List MEntry × Bool, m_trace_Tree fuel l run = some t ∧ m_ref18_Tree fuel l run = some t ∧ t.1.length ≤ 1000000000 := by
          obtain ⟨e1, e2, h5, h6⟩ := hF true
          unfold m_trace_Tree m_ref18_Tree
          rw [e1, e2]
          obtain ⟨o1, o2⟩ := Of_eq (fuel := fuel) (fs := (FramesF fuel l run true).1) (by omega) h6 (by omega)
          have ol := OfF_len (fs := (FramesF fuel l run true).1) (by omega) h6
          cases c : (FramesF fuel l run true).2 with
          | false => exact ⟨([], false), by simp [c], by simp [c], by simp⟩
          | true => exact ⟨OfF (FramesF fuel l run true).1, by simp [c, o1], by simp [c, o2], ol⟩
        obtain ⟨t, t1, t2, t3⟩ := hT
        obtain ⟨f1, f2⟩ := Fits_eq (fuel := fuel) (run := run) (w := w) hw T (by omega) (by omega) (by omega) hww
        simp [h1, h2, h3, hs, hout, t1, t2, f1, f2, r_Same_self t3 (show t.1.length < fuel by omega)]
    · simp [h1, h2, hs]
  · simp [h1, hs]
theorem traceTells_holds : Rows.TraceTellsSaid := frameTraceTells traceTells_law
end Go.Proofs.Ytfhehbfifffipaa
