/- TraceTotal: of any two runs to the end that are not the same just one is ahead, and what is ahead of what is ahead of a third one is ahead of that. Its conditions: none. -/
import Derived.Test.YtfhehbfifffipaaPTot3
import Derived.Test.YtfhehbfifffipaaPSure18
import Derived.Test.YtfhehbfifffipaaFTraceTotal
set_option autoImplicit false
namespace Go.Proofs.Ytfhehbfifffipaa
open Go.V Go.RowKit

/-- What is told of two runs to the end that are there. -/
theorem total_two {fuel : Nat} {l : List MTerm} (hw : ∀ x ∈ l, wfTerm x) (hl : l.length ≤ 1000) (T : WaysT fuel l) (hf : 1000001 < fuel) {a b : List Int} (ha : a.length ≤ 40) (hb : b.length ≤ 40) (h1 : (FramesF fuel l a true).2 = true) (h2 : (FramesF fuel l b true).2 = true) (hab : a.length = b.length) :
    (a = b ∧ aheadF l.length (FramesF fuel l a true).1 (FramesF fuel l b true).1 = 0) ∨ (a ≠ b ∧ ∃ k i, Fork (FramesF fuel l a true).1 (FramesF fuel l b true).1 k i ∧ aheadF l.length (FramesF fuel l a true).1 (FramesF fuel l b true).1 = atF l.length (a.length + 1) (FramesF fuel l a true).1 (FramesF fuel l b true).1 k i) := by
  have hv := fun p => ways_leaf hw hl hf p
  have hlen := FramesF_len T hf (show a.length ≤ 1000 by omega) h1
  simp only [if_true] at hlen
  by_cases e : a = b
  · subst e
    obtain ⟨n, hn⟩ := PartF_self (FramesF fuel l a true).1
    exact .inl ⟨rfl, by simp [aheadF, hn]⟩
  · rcases two_fork hv h1 h2 hab with h | ⟨k, i, hP, F⟩
    · exact absurd h e
    · refine .inr ⟨e, k, i, F, ?_⟩
      unfold aheadF atF
      simp only [hP, Int.toNat_natCast]
      rw [hlen]
      rfl
theorem traceTotal_law : TraceTotalLaw := by
  intro l z c hw hl hz hc hcl
  refine ⟨10000000000000, ?_⟩
  have hs := sure18
  have hf : 2000000001 < 10000000000000 := by omega
  generalize 10000000000000 = fuel at *
  unfold m_law18_TraceTotal m_law18_few
  by_cases h1 : (l.length : Int) ≤ 60
  case neg => simp [h1, hs]
  by_cases h2 : (z.A.length : Int) ≤ 16
  case neg => simp [h1, h2, hs]
  by_cases h3 : z.A.length = z.B.length
  case neg => simp [h1, h2, hs, show ((z.A.length : Int) != (z.B.length : Int)) = true by simp; omega]
  by_cases h4 : c.length = z.A.length
  case neg => simp [h1, h2, hs, show ((z.A.length : Int) != (z.B.length : Int)) = false by simp; omega, show ((c.length : Int) != (z.A.length : Int)) = true by simp; omega]
  have T := waysT (fuel := fuel) hw (show l.length * 64 ≤ 140737488351232 by omega) (by omega) (by omega)
  obtain ⟨e1, _, _, _⟩ := Frames_eq T (show l.length ≤ 1000 by omega) (by omega) (show z.A.length ≤ 1000 by omega) true
  obtain ⟨e2, _, _, _⟩ := Frames_eq T (show l.length ≤ 1000 by omega) (by omega) (show z.B.length ≤ 1000 by omega) true
  obtain ⟨e3, _, _, _⟩ := Frames_eq T (show l.length ≤ 1000 by omega) (by omega) (show c.length ≤ 1000 by omega) true
  have hb1 : ((z.A.length : Int) != (z.B.length : Int)) = false := by simp; omega
  have hb2 : ((c.length : Int) != (z.A.length : Int)) = false := by simp; omega
  simp only [h1, h2, decide_true, if_true, bind_some', Bool.not_true, Bool.false_eq_true, if_false, hb1, hb2, e1, e2, e3]
  cases f1 : (FramesF fuel l z.A true).2 with
  | false => simp [hs]
  | true =>
  cases f2 : (FramesF fuel l z.B true).2 with
  | false => simp [hs]
  | true =>
  cases f3 : (FramesF fuel l c true).2 with
  | false => simp [hs]
  | true =>
  have ok : ∀ {a b : List Int}, (FramesF fuel l a true).2 = true → (FramesF fuel l b true).2 = true → a.length = b.length → twoOk fuel l a b true = true := fun p q r => by simp [twoOk, p, q, r]
  have m1 := m_Ahead (fuel := fuel) (a := z.A) (b := z.B) hw T (by omega) (by omega) (by omega) (by omega) true
  have m2 := m_Ahead (fuel := fuel) (a := z.B) (b := c) hw T (by omega) (by omega) (by omega) (by omega) true
  have m3 := m_Ahead (fuel := fuel) (a := z.A) (b := c) hw T (by omega) (by omega) (by omega) (by omega) true
  have m4 := m_Ahead (fuel := fuel) (a := z.B) (b := z.A) hw T (by omega) (by omega) (by omega) (by omega) true
  rw [ok f1 f2 h3, if_pos rfl] at m1
  rw [ok f2 f3 (by omega), if_pos rfl] at m2
  rw [ok f1 f3 (by omega), if_pos rfl] at m3
  rw [ok f2 f1 (by omega), if_pos rfl] at m4
  have i1 := ints_eq (fuel := fuel) (a := z.A) (b := z.B) (by omega) (by omega)
  have row : ∀ {a : List Int}, a.length = z.A.length → (FramesF fuel l a true).2 = true → RowI l.length (z.A.length + 1) (FramesF fuel l a true).1 := fun {a} p q => by
    have hlen := FramesF_len T (by omega) (show a.length ≤ 1000 by omega) q
    obtain ⟨s, n1, _⟩ := frames_nest hw (by omega) q
    exact ⟨⟨s, n1⟩, by rw [hlen]; simp; omega⟩
  have rA := row rfl f1
  have rB := row h3.symm f2
  have rC := row h4 f3
  have t1 := total_two hw (by omega) T (by omega) (show z.A.length ≤ 40 by omega) (show z.B.length ≤ 40 by omega) f1 f2 h3
  have t2 := total_two hw (by omega) T (by omega) (show z.B.length ≤ 40 by omega) (show c.length ≤ 40 by omega) f2 f3 (by omega)
  have t3 := total_two hw (by omega) T (by omega) (show z.A.length ≤ 40 by omega) (show c.length ≤ 40 by omega) f1 f3 (by omega)
  have t4 := total_two hw (by omega) T (by omega) (show z.B.length ≤ 40 by omega) (show z.A.length ≤ 40 by omega) f2 f1 (by omega)
  rw [← h3] at t2 t4
  simp only [m1, m2, m3, m4, i1, bind_some', Bool.not_true, Bool.false_eq_true, if_false]
  generalize aheadF l.length (FramesF fuel l z.A true).1 (FramesF fuel l z.B true).1 = p at *
  generalize aheadF l.length (FramesF fuel l z.B true).1 (FramesF fuel l c true).1 = q at *
  generalize aheadF l.length (FramesF fuel l z.A true).1 (FramesF fuel l c true).1 = r at *
  generalize aheadF l.length (FramesF fuel l z.B true).1 (FramesF fuel l z.A true).1 = p' at *
  -- p' is the other way round
  have hp : p' = - p ∧ (p = -1 ∨ p = 0 ∨ p = 1) ∧ (p = 0 ↔ z.A = z.B) := by
    rcases t1 with ⟨e, rfl⟩ | ⟨e, k, i, F, rfl⟩
    · rcases t4 with ⟨_, rfl⟩ | ⟨e', _⟩
      · simp [e]
      · exact absurd e.symm e'
    · rcases t4 with ⟨e', _⟩ | ⟨_, k', i', G, rfl⟩
      · exact absurd e'.symm e
      · obtain ⟨rfl, rfl⟩ := fork_uniq F G.symm
        obtain ⟨h5, h6⟩ := atF_anti rA rB F
        refine ⟨h5, by omega, ?_⟩
        constructor
        · intro h; omega
        · intro h; exact absurd h e
  have hneg : p < 0 → q < 0 → r < 0 := by
    intro h5 h6
    rcases t1 with ⟨_, rfl⟩ | ⟨e, k, i, F, rfl⟩
    · omega
    rcases t2 with ⟨_, rfl⟩ | ⟨e', k', i', G, rfl⟩
    · omega
    have w1 : fwd l.length (z.A.length + 1) (FramesF fuel l z.A true).1 (FramesF fuel l z.B true).1 k i := atF_fwd.1 (by have := (atF_anti rA rB F).2; omega)
    have w2 : fwd l.length (z.A.length + 1) (FramesF fuel l z.B true).1 (FramesF fuel l c true).1 k' i' := atF_fwd.1 (by have := (atF_anti rB rC G).2; omega)
    rcases t3 with ⟨e3, rfl⟩ | ⟨_, k3, i3, H, rfl⟩
    · obtain ⟨k4, i4, H, w3⟩ := fwd_trans rA rB rC F G w1 w2 (.inl (by rw [e3]))
      exact absurd (by rw [e3]) H.ne
    · obtain ⟨k4, i4, H', w3⟩ := fwd_trans rA rB rC F G w1 w2 (.inr ⟨k3, i3, H⟩)
      obtain ⟨rfl, rfl⟩ := fork_uniq H H'
      rw [atF_fwd.2 w3]; omega
  have hpos : 0 < p → 0 < q → 0 < r := by
    intro h5 h6
    rcases t1 with ⟨_, rfl⟩ | ⟨e, k, i, F, rfl⟩
    · omega
    rcases t2 with ⟨_, rfl⟩ | ⟨e', k', i', G, rfl⟩
    · omega
    have w1 : fwd l.length (z.A.length + 1) (FramesF fuel l z.B true).1 (FramesF fuel l z.A true).1 k i := atF_fwd.1 (by have := atF_anti rA rB F; omega)
    have w2 : fwd l.length (z.A.length + 1) (FramesF fuel l c true).1 (FramesF fuel l z.B true).1 k' i' := atF_fwd.1 (by have := atF_anti rB rC G; omega)
    rcases t3 with ⟨e3, rfl⟩ | ⟨_, k3, i3, H, rfl⟩
    · obtain ⟨k4, i4, H, w3⟩ := fwd_trans rC rB rA G.symm F.symm w2 w1 (.inl (by rw [e3]))
      exact absurd (by rw [e3]) H.ne
    · obtain ⟨k4, i4, H', w3⟩ := fwd_trans rC rB rA G.symm F.symm w2 w1 (.inr ⟨k3, i3, H.symm⟩)
      obtain ⟨rfl, rfl⟩ := fork_uniq H.symm H'
      have := (atF_anti rC rA H').1
      rw [this, atF_fwd.2 w3]; omega
  obtain ⟨rfl, hr, hz0⟩ := hp
  have hW : W (0 - -p) = p := by rw [W_id (by omega) (by omega)]; omega
  have hEq : ((p == 0) != decide (z.A = z.B)) = false := by
    by_cases e : z.A = z.B
    · simp [e, hz0.2 e]
    · have : p ≠ 0 := fun h => e (hz0.1 h)
      simp [e, this]
  have hWb : (p != W (0 - -p)) = false := by rw [hW]; simp
  have c1 : ¬ p < -1 := by omega
  have c2 : ¬ p > 1 := by omega
  simp only [c1, c2, decide_false, Bool.false_eq_true, if_false, hWb, hEq, bind_some', hs]
  by_cases n1 : p < 0
  · by_cases n2 : q < 0
    · have n3 : ¬ (r ≥ 0) := by have := hneg n1 n2; omega
      have n4 : ¬ (p > 0) := by omega
      simp [n1, n2, n3, n4]
    · have n4 : ¬ (p > 0) := by omega
      simp [n1, n2, n4]
  · by_cases n4 : p > 0
    · by_cases n5 : q > 0
      · have n6 : ¬ (r ≤ 0) := by have := hpos n4 n5; omega
        simp [n1, n4, n5, n6]
      · simp [n1, n4, n5]
    · simp [n1, n4]
theorem traceTotal_holds : Rows.TraceTotalSaid := frameTraceTotal traceTotal_law
end Go.Proofs.Ytfhehbfifffipaa
