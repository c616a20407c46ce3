/- TraceTrees: of two runs to the end over as many places the one that is ahead has the parse tree that is ahead. Its conditions: none. -/
import Derived.Test.YtfhehbfifffipaaPTre
import Derived.Test.YtfhehbfifffipaaPPt
import Derived.Test.YtfhehbfifffipaaPSure18
import Derived.Test.YtfhehbfifffipaaFTraceTrees
set_option autoImplicit false
namespace Go.Proofs.Ytfhehbfifffipaa
open Go.V Go.RowKit

theorem r_Tree {fuel : Nat} {l : List MTerm} (hw : ∀ x ∈ l, wfTerm x) (T : WaysT fuel l) (hl : l.length ≤ 1000) (hf : 2000001 < fuel) {a : List Int} (ha : a.length ≤ 40) :
    m_ref18_Tree fuel l a = some (if (FramesF fuel l a true).2 then OfF (FramesF fuel l a true).1 else ([], false)) ∧ (OfF (FramesF fuel l a true).1).1.length ≤ 1000000000 := by
  obtain ⟨_, e1, e2, e3⟩ := Frames_eq T hl (by omega) (show a.length ≤ 1000 by omega) true
  have e4 := (Of_eq (fuel := fuel) (show (FramesF fuel l a true).1.length ≤ 100 by omega) e3 hf).2
  refine ⟨?_, OfF_len (by omega) e3⟩
  unfold m_ref18_Tree
  rw [e1]
  cases h : (FramesF fuel l a true).2 <;> simp [h, e4]
theorem traceTrees_law : TraceTreesLaw := by
  intro l z hw hl hz
  refine ⟨10000000000000, ?_⟩
  have hs := sure18
  have hf : 2000000001 < 10000000000000 := by omega
  generalize 10000000000000 = fuel at *
  unfold m_law18_TraceTrees m_law18_few
  by_cases h1 : (l.length : Int) ≤ 60
  case neg => simp [h1, hs]
  by_cases h2 : (z.A.length : Int) ≤ 16
  case neg => simp [h1, h2, hs]
  by_cases h3 : z.A.length = z.B.length
  case neg => simp [h1, h2, hs, show ((z.A.length : Int) != (z.B.length : Int)) = true by simp; omega]
  have T := waysT (fuel := fuel) hw (show l.length * 64 ≤ 140737488351232 by omega) (by omega) (by omega)
  obtain ⟨e1, b1⟩ := r_Tree (fuel := fuel) hw T (by omega) (by omega) (show z.A.length ≤ 40 by omega)
  obtain ⟨e2, b2⟩ := r_Tree (fuel := fuel) hw T (by omega) (by omega) (show z.B.length ≤ 40 by omega)
  have hb1 : ((z.A.length : Int) != (z.B.length : Int)) = false := by simp; omega
  have m1 := m_Ahead (fuel := fuel) (a := z.A) (b := z.B) hw T (by omega) (by omega) (by omega) (by omega) true
  have m2 := m_Ahead (fuel := fuel) (a := z.A) (b := z.A) hw T (by omega) (by omega) (by omega) (by omega) true
  have m3 : aheadF l.length (FramesF fuel l z.A true).1 (FramesF fuel l z.A true).1 = 0 := by
    obtain ⟨n, hn⟩ := PartF_self (FramesF fuel l z.A true).1
    simp [aheadF, hn]
  rw [m3] at m2
  simp only [ite_self] at m2
  simp only [h1, h2, decide_true, if_true, bind_some', Bool.not_true, Bool.false_eq_true, if_false, hb1, e1, e2, m1, m2]
  cases f1 : (FramesF fuel l z.A true).2 with
  | false => simp [hs, twoOk, f1]
  | true =>
  cases f2 : (FramesF fuel l z.B true).2 with
  | false =>
    obtain ⟨_, t, P, _, _, ho⟩ := tree_ok hw (show 1000001 < fuel by omega) f1
    have hno : twoOk fuel l z.A z.B true = false := by simp [twoOk, f2]
    simp only [if_true, ho, hno, Bool.not_true, Bool.not_false, Bool.false_eq_true, if_false, bind_some', beq_self_eq_true, hs]
  | true =>
  obtain ⟨_, t, P, ht, hv, ho⟩ := tree_ok hw (show 1000001 < fuel by omega) f1
  obtain ⟨_, t', P', ht', hv', ho'⟩ := tree_ok hw (show 1000001 < fuel by omega) f2
  have hok : twoOk fuel l z.A z.B true = true := by simp [twoOk, f1, f2, h3]
  have row : ∀ {a : List Int}, a.length = z.A.length → (FramesF fuel l a true).2 = true → RowI l.length (z.A.length + 1) (FramesF fuel l a true).1 := fun {a} p q => by
    have hlen := FramesF_len T (by omega) (show a.length ≤ 1000 by omega) q
    obtain ⟨s, n1, _⟩ := frames_nest hw (by omega) q
    exact ⟨⟨s, n1⟩, by rw [hlen]; simp; omega⟩
  have key : m_ref14_Ahead fuel (t.ents 0 1 0 P) (t'.ents 0 1 0 P') = some (aheadF l.length (FramesF fuel l z.A true).1 (FramesF fuel l z.B true).1) := by
    by_cases hab : z.A = z.B
    · rw [← hab, m3]
      rw [← hab, ho] at ho'
      simp only [Prod.mk.injEq, and_true] at ho'
      rw [← ho']
      exact r_ahead_self (by rw [ho] at b1; exact b1) (by rw [ho] at b1; simp only at b1; omega)
    · rcases two_fork (fun p => ways_leaf hw (show l.length ≤ 1000 by omega) (show 1000001 < fuel by omega) p) f1 f2 h3 with h | ⟨k, i, hP, F⟩
      · exact absurd h hab
      · rw [ho] at b1
        rw [trees_ahead ho ho' (row rfl f1) (row h3.symm f2) F (by omega) b1 (by omega)]
        congr 1
        have hlen := FramesF_len T (by omega) (show z.A.length ≤ 1000 by omega) f1
        simp only [if_true] at hlen
        unfold aheadF atF
        simp only [hP, Int.toNat_natCast]
        rw [hlen]
        rfl
  simp only [hok, if_true, ho, ho', key, bind_some', Bool.not_true, Bool.false_eq_true, if_false, beq_self_eq_true, hs]
theorem traceTrees_holds : Rows.TraceTreesSaid := frameTraceTrees traceTrees_law
end Go.Proofs.Ytfhehbfifffipaa
