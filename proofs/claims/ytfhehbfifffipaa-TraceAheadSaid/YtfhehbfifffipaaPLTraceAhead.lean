/- TraceAhead: how far up any two runs have closed what was open, and which one is ahead, are what the document tells. Its conditions: none. -/
import Derived.Test.YtfhehbfifffipaaPLRef18
import Derived.Test.YtfhehbfifffipaaPSure18
import Derived.Test.YtfhehbfifffipaaFTraceAhead
set_option autoImplicit false
namespace Go.Proofs.Ytfhehbfifffipaa
open Go.V Go.RowKit

theorem r_two {fuel : Nat} {l : List MTerm} (hw : ∀ x ∈ l, wfTerm x) (T : WaysT fuel l) (hl : l.length ≤ 1000) (hf : 2000001 < fuel) {a b : List Int} (ha : a.length ≤ 40) (hb : b.length ≤ 40) (fin : Bool) :
    m_ref18_two fuel l a b fin = some (if twoOk fuel l a b fin = true ∧ a ≠ b then ((FramesF fuel l a fin).1, (FramesF fuel l b fin).1, (match PartF (FramesF fuel l a fin).1 (FramesF fuel l b fin).1 with | .inl _ => (-1, 0) | .inr z => z)) else ([], [], -1, 0)) := by
  obtain ⟨_, e1, _, _⟩ := Frames_eq T hl (by omega) (show a.length ≤ 1000 by omega) fin
  obtain ⟨_, e2, _, _⟩ := Frames_eq T hl (by omega) (show b.length ≤ 1000 by omega) fin
  have hi := ints_eq (fuel := fuel) (a := a) (b := b) (by omega) (by omega)
  unfold m_ref18_two
  rw [e1, e2]
  cases hok : twoOk fuel l a b fin with
  | true =>
    obtain ⟨h1, h2, h3, I⟩ := two_ok hw T hl (by omega) ha hb hok
    have hp := r_part_eq (fuel := fuel) I.len I.la I.sa hf
    have h4 : ((a.length : Int) != (b.length : Int)) = false := by simp [h3]
    by_cases c : a = b
    · subst c
      simp [h1, hi]
    · simp only [h1, h2, h4, hi, hp, c, bind_some', Bool.not_true, Bool.false_eq_true, if_false, decide_false, ne_eq, not_false_eq_true, and_self, if_true]
      rfl
  | false =>
    simp only [twoOk, Bool.and_eq_false_iff, decide_eq_false_iff_not] at hok
    cases h1 : (FramesF fuel l a fin).2 with
    | false => simp [h1]
    | true =>
      cases h2 : (FramesF fuel l b fin).2 with
      | false => simp [h1, h2]
      | true =>
        have h3 : ¬ a.length = b.length := by simpa [h1, h2] using hok
        have h4 : ((a.length : Int) != (b.length : Int)) = true := by simp; omega
        simp [h1, h2, h4]
theorem r_ahead_loop {fuel : Nat} (x1 : (List (List Int)) × (List (List Int)) × Int × Int) {p q : List Int} (hlen : p.length = q.length) : ∀ (n m : Nat), n ≤ p.length → n < m → p.length ≤ 1000000000 →
    iter (m_ref18_Ahead_l1 fuel x1 p q) m ((n : Int) - 1) = some (match aheadL p q n with | none => .inl () | some r => .inr r)
  | 0, m, _, hm, _ => by
    obtain ⟨m, rfl⟩ : ∃ k, m = k + 1 := ⟨m - 1, by omega⟩
    unfold iter m_ref18_Ahead_l1
    simp [aheadL]
  | n + 1, m, hn, hm, hl => by
    obtain ⟨m, rfl⟩ : ∃ k, m = k + 1 := ⟨m - 1, by omega⟩
    have e : (((n + 1 : Nat) : Int) - 1) = (n : Int) := by omega
    have h1 : inb p (n : Int) = true := inb_true (by omega) (by omega)
    have h2 : inb q (n : Int) = true := inb_true (by omega) (by omega)
    have hW2 : W ((n : Int) - 1) = (n : Int) - 1 := W_id (by omega) (by omega)
    have h0 : (n : Int) ≥ 0 := by omega
    have hst : m_ref18_Ahead_l1 fuel x1 p q (n : Int) = if gt p (n : Int) = gt q (n : Int) then some (.next ((n : Int) - 1)) else some (.done (.inr (if gt q (n : Int) < gt p (n : Int) then -1 else 1))) := by
      unfold m_ref18_Ahead_l1
      simp only [h0, decide_true, if_true, h1, h2, hW2]
      by_cases c : gt p (n : Int) = gt q (n : Int)
      · simp [c]
      · by_cases c2 : gt q (n : Int) < gt p (n : Int)
        · simp [c, c2]
        · simp [c, c2, show gt p (n : Int) < gt q (n : Int) by omega]
    rw [e]
    unfold iter
    rw [hst]
    unfold aheadL
    by_cases c : gt p (n : Int) = gt q (n : Int)
    · simp only [c, if_true]
      exact r_ahead_loop x1 hlen n m (by omega) (by omega) hl
    · simp only [c, if_false]
theorem r_Ahead {fuel : Nat} {l : List MTerm} (hw : ∀ x ∈ l, wfTerm x) (T : WaysT fuel l) (hl : l.length ≤ 1000) (hf : 1000000001 < fuel) {a b : List Int} (ha : a.length ≤ 40) (hb : b.length ≤ 40) (fin : Bool) :
    m_ref18_Ahead fuel l a b fin = some (if twoOk fuel l a b fin then aheadF l.length (FramesF fuel l a fin).1 (FramesF fuel l b fin).1 else 0) := by
  unfold m_ref18_Ahead
  rw [r_two hw T hl (by omega) ha hb fin]
  cases hok : twoOk fuel l a b fin with
  | false => simp
  | true =>
    by_cases hab : a = b
    · subst hab
      obtain ⟨n, hn⟩ := PartF_self (FramesF fuel l a fin).1
      simp [aheadF, hn]
    obtain ⟨h1, h2, h3, I⟩ := two_ok hw T hl (by omega) ha hb hok
    generalize (FramesF fuel l a fin).1 = x at *
    generalize (FramesF fuel l b fin).1 = y at *
    simp only [hab, ne_eq, not_false_eq_true, and_self, if_true, bind_some']
    unfold aheadF
    cases c : PartF x y with
    | inl u => simp
    | inr z =>
      obtain ⟨k, i, rfl, hk, hk2, hi, hi2, hne⟩ := PartF_in c
      obtain ⟨s1, n1⟩ := I.na
      obtain ⟨s2, n2⟩ := I.nb
      have hlen := I.len; have hla := I.la
      obtain ⟨p1, p2, p3, u1, u2, hu1, hu2, hu3⟩ := lowsAt_m (fuel := fuel) n1 hk (show i ≤ _ by omega) I.fa I.la hf
      obtain ⟨q1, q2, q3, v1, v2, hv1, hv2, hv3⟩ := lowsAt_m (fuel := fuel) n2 hk2 (show i ≤ _ by omega) I.fb (by omega) hf
      have r1 := r_lows (fuel := fuel) n1 hk (show i ≤ _ by omega) I.fa I.la I.sa hf hu1 hu2
      have r2 := r_lows (fuel := fuel) n2 hk2 (show i ≤ _ by omega) I.fb (by omega) I.sb hf hv1 hv2
      rw [← hu3] at r1
      rw [← hv3] at r2
      replace r1 : m_ref18_lows fuel x (k : Int) (i : Int) = some (lowsAt l.length x k i) := r1
      replace r2 : m_ref18_lows fuel y (k : Int) (i : Int) = some (lowsAt l.length y k i) := r2
      have hW : W (((lowsAt l.length x k i).length : Int) - 1) = ((x.length - k : Nat) : Int) - 1 := by rw [p2, W_id (by omega) (by omega)]
      have ok1 : inb x (k : Int) = true := inb_true (by omega) (by omega)
      have ok2 : inb y (k : Int) = true := inb_true (by omega) (by omega)
      have ok3 : inb (gt x (k : Int)) (i : Int) = true := inb_true (by omega) (by omega)
      have ok4 : inb (gt y (k : Int)) (i : Int) = true := inb_true (by omega) (by omega)
      have hk0 : ¬ ((k : Int) < 0) := by omega
      have hloop := r_ahead_loop (fuel := fuel) (x, y, (k : Int), (i : Int)) (p := lowsAt l.length x k i) (q := lowsAt l.length y k i) (by omega) (x.length - k) fuel (by omega) (by omega) (by omega)
      have e1 := nest_el n1 hk hi
      have e2 := nest_el n2 hk2 hi2
      simp only [hk0, decide_false, Bool.false_eq_true, if_false, r1, r2, bind_some', hW, hloop, Int.toNat_natCast, ok1, ok2, ok3, ok4, if_true]
      cases aheadL (lowsAt l.length x k i) (lowsAt l.length y k i) (x.length - k) with
      | some r => rfl
      | none =>
        have m1 : Int.tmod (gt (gt x (k : Int)) (i : Int)) 2 = gt (gt x (k : Int)) (i : Int) % 2 := Int.tmod_eq_emod_of_nonneg e1.1
        have m2 : Int.tmod (gt (gt y (k : Int)) (i : Int)) 2 = gt (gt y (k : Int)) (i : Int) % 2 := Int.tmod_eq_emod_of_nonneg e2.1
        have hW1 : W (gt (gt x (k : Int)) (i : Int) % 2 - gt (gt y (k : Int)) (i : Int) % 2) = gt (gt x (k : Int)) (i : Int) % 2 - gt (gt y (k : Int)) (i : Int) % 2 := W_id (by omega) (by omega)
        simp only [forkV, m1, m2, hW1, bne_iff_ne, decide_eq_true_eq]
        by_cases c1 : gt (gt x (k : Int)) (i : Int) % 2 = gt (gt y (k : Int)) (i : Int) % 2
        · by_cases c2 : gt (gt x (k : Int)) (i : Int) < gt (gt y (k : Int)) (i : Int) <;> simp [c1, c2]
        · simp [c1]
theorem Lows_eq {fuel : Nat} {l : List MTerm} (hw : ∀ x ∈ l, wfTerm x) (T : WaysT fuel l) (hl : l.length ≤ 1000) (hf : 1000000001 < fuel) {a b : List Int} (ha : a.length ≤ 40) (hb : b.length ≤ 40) (fin : Bool) :
    ∃ p q : List Int, m_trace_Lows fuel l a b fin = some (p, q) ∧ m_ref18_Lows fuel l a b fin = some (p, q) ∧ p.length ≤ 1000000 ∧ q.length ≤ 1000000 := by
  unfold m_trace_Lows m_ref18_Lows
  rw [m_parted hw T hl (by omega) ha hb fin, r_two hw T hl (by omega) ha hb fin]
  cases hok : twoOk fuel l a b fin with
  | false => exact ⟨[], [], by simp, by simp, by simp, by simp⟩
  | true =>
    by_cases hab : a = b
    · subst hab
      obtain ⟨n, hn⟩ := PartF_self (FramesF fuel l a fin).1
      exact ⟨[], [], by simp [hn], by simp, by simp, by simp⟩
    obtain ⟨h1, h2, h3, I⟩ := two_ok hw T hl (by omega) ha hb hok
    generalize (FramesF fuel l a fin).1 = x at *
    generalize (FramesF fuel l b fin).1 = y at *
    simp only [hab, ne_eq, not_false_eq_true, and_self, if_true, bind_some']
    cases c : PartF x y with
    | inl u => exact ⟨[], [], by simp, by simp, by simp, by simp⟩
    | inr z =>
      obtain ⟨k, i, rfl, hk, hk2, hi, hi2, hne⟩ := PartF_in c
      obtain ⟨s1, n1⟩ := I.na
      obtain ⟨s2, n2⟩ := I.nb
      have hlen := I.len; have hla := I.la
      obtain ⟨p1, p2, p3, u1, u2, hu1, hu2, hu3⟩ := lowsAt_m (fuel := fuel) n1 hk (show i ≤ _ by omega) I.fa I.la hf
      obtain ⟨q1, q2, q3, v1, v2, hv1, hv2, hv3⟩ := lowsAt_m (fuel := fuel) n2 hk2 (show i ≤ _ by omega) I.fb (by omega) hf
      have r1 := r_lows (fuel := fuel) n1 hk (show i ≤ _ by omega) I.fa I.la I.sa hf hu1 hu2
      have r2 := r_lows (fuel := fuel) n2 hk2 (show i ≤ _ by omega) I.fb (by omega) I.sb hf hv1 hv2
      rw [← hu3] at r1
      rw [← hv3] at r2
      replace r1 : m_ref18_lows fuel x (k : Int) (i : Int) = some (lowsAt l.length x k i) := r1
      replace r2 : m_ref18_lows fuel y (k : Int) (i : Int) = some (lowsAt l.length y k i) := r2
      have hk0 : ¬ ((k : Int) < 0) := by omega
      refine ⟨lowsAt l.length x k i, lowsAt l.length y k i, ?_, ?_, by omega, by omega⟩
      · simp only [Bool.not_true, Bool.false_eq_true, if_false, p1, q1, bind_some']
      · simp only [hk0, decide_false, Bool.false_eq_true, if_false, r1, r2, bind_some']
theorem traceAhead_law : TraceAheadLaw := by
  intro l z fin hw hl hz
  refine ⟨10000000000000, ?_⟩
  have hs := sure18
  have hf : 2000000001 < 10000000000000 := by omega
  generalize 10000000000000 = fuel at *
  unfold m_law18_TraceAhead m_law18_few
  by_cases h1 : (l.length : Int) ≤ 60
  · by_cases h2 : (z.A.length : Int) ≤ 16
    · by_cases h3 : (z.B.length : Int) > 16
      · simp [h1, h2, h3, hs]
      · have T := waysT (fuel := fuel) hw hl (by omega) (by omega)
        obtain ⟨p, q, e1, e2, l1, l2⟩ := Lows_eq (fuel := fuel) (a := z.A) (b := z.B) hw T (by omega) (by omega) (by omega) (by omega) fin
        have e3 := m_Ahead (fuel := fuel) (a := z.A) (b := z.B) hw T (by omega) (by omega) (by omega) (by omega) fin
        have e4 := r_Ahead (fuel := fuel) (a := z.A) (b := z.B) hw T (by omega) (by omega) (by omega) (by omega) fin
        have i1 := ints_eq (fuel := fuel) (a := p) (b := p) (by omega) (by omega)
        have i2 := ints_eq (fuel := fuel) (a := q) (b := q) (by omega) (by omega)
        simp [h1, h2, h3, hs, e1, e2, e3, e4, i1, i2]
    · simp [h1, h2, hs]
  · simp [h1, hs]
theorem traceAhead_holds : Rows.TraceAheadSaid := frameTraceAhead traceAhead_law
end Go.Proofs.Ytfhehbfifffipaa
