/- TraceKeeps: a run that is ahead of another one at one place is so still, whichever way both go on from there to the end. Its conditions: none. -/
import Derived.Test.YtfhehbfifffipaaPKeep
import Derived.Test.YtfhehbfifffipaaPSure18
import Derived.Test.YtfhehbfifffipaaFTraceKeeps
set_option autoImplicit false
namespace Go.Proofs.Ytfhehbfifffipaa
open Go.V Go.RowKit

theorem last_gt {a : List Int} {n : Nat} (h : a.length = n + 1) (d : Int) : a.getLastD d = gt a (n : Int) := by
  rw [gt_nat, List.getD_eq_getElem?_getD, List.getLastD_eq_getLast?, List.getLast?_eq_getElem?]
  have e : a.length - 1 = n := by omega
  rw [e, List.getElem?_eq_getElem (show n < a.length by omega)]
  rfl
theorem traceKeeps_law : TraceKeepsLaw := by
  intro l z more hw hl hz hm hml
  refine ⟨10000000000000, ?_⟩
  have hs := sure18
  have hf : 2000000001 < 10000000000000 := by omega
  have hRr := r_Right l (fuel := 10000000000000) (by omega)
  generalize 10000000000000 = fuel at *
  unfold m_law18_TraceKeeps m_law18_few
  by_cases h1 : (l.length : Int) ≤ 60
  case neg => simp [h1, hs]
  by_cases h2 : (z.A.length : Int) ≤ 16
  case neg => simp [h1, h2, hs]
  by_cases h3 : z.A.length = z.B.length
  case neg => simp [h1, h2, hs, show ((z.A.length : Int) != (z.B.length : Int)) = true by rw [bne_iff_ne]; omega]
  have hb1 : ((z.A.length : Int) != (z.B.length : Int)) = false := by simp; omega
  by_cases h4 : z.A.length = 0
  · simp [h1, h2, hb1, hs, show ((z.A.length : Int) == 0) = true by rw [beq_iff_eq]; omega]
  have hb2 : ((z.A.length : Int) == 0) = false := by rw [beq_eq_false_iff_ne]; omega
  by_cases h5 : (more.length : Int) > 8
  · simp [h1, h2, hb1, hb2, h5, hs]
  obtain ⟨n, hn⟩ : ∃ n, z.A.length = n + 1 := ⟨z.A.length - 1, by omega⟩
  have hW1 : W ((z.A.length : Int) - 1) = (n : Int) := by rw [W_id (by omega) (by omega)]; omega
  have hW2 : W ((z.B.length : Int) - 1) = (n : Int) := by rw [W_id (by omega) (by omega)]; omega
  have hi1 : inb z.A (n : Int) = true := inb_true (by omega) (by omega)
  have hi2 : inb z.B (n : Int) = true := inb_true (by omega) (by omega)
  have hlA := last_gt hn (-1)
  have hlB := last_gt (show z.B.length = n + 1 by omega) (-1)
  by_cases h6 : gt z.A (n : Int) = gt z.B (n : Int)
  case neg => simp [h1, h2, hb1, hb2, h5, hs, hW1, hW2, hi1, hi2, h6]
  have hRr := hRr (by omega)
  have T := waysT (fuel := fuel) hw (show l.length * 64 ≤ 140737488351232 by omega) (by omega) (by omega)
  have la : (z.A ++ more).length ≤ 1000 := by simp; omega
  have lb : (z.B ++ more).length ≤ 1000 := by simp; omega
  obtain ⟨e1, _, _, _⟩ := Frames_eq T (show l.length ≤ 1000 by omega) (by omega) la true
  obtain ⟨e2, _, _, _⟩ := Frames_eq T (show l.length ≤ 1000 by omega) (by omega) lb true
  have ap1 : apOk 8 ([] : List Int) z.A = true := apOk_true (by simp; omega)
  have ap2 : apOk 8 z.A more = true := apOk_true (by omega)
  have ap3 : apOk 8 ([] : List Int) z.B = true := apOk_true (by simp; omega)
  have ap4 : apOk 8 z.B more = true := apOk_true (by omega)
  have hb3 : (gt z.A (n : Int) != gt z.B (n : Int)) = false := by simp [h6]
  simp only [h1, h2, decide_true, if_true, bind_some', Bool.not_true, Bool.false_eq_true, if_false, hb1, hb2, h5, decide_false, hW1, hW2, hi1, hi2, hb3, ap1, ap2, ap3, ap4, List.nil_append, e1, e2, hRr]
  cases f1 : (FramesF fuel l (z.A ++ more) true).2 with
  | false => simp [hs]
  | true =>
  cases f2 : (FramesF fuel l (z.B ++ more) true).2 with
  | false => simp [hs]
  | true =>
  cases hR : RightB l with
  | false => simp [hs]
  | true =>
  obtain ⟨k1, k2, k3⟩ := keeps hw (by omega) (show 1000001 < fuel by omega) hR h3 (by intro h; rw [h] at h4; exact h4 rfl) (by rw [hlA, hlB, h6]) f1 f2
  have m1 := m_Ahead (fuel := fuel) (a := z.A) (b := z.B) hw T (by omega) (by omega) (by omega) (by omega) false
  have m2 := m_Ahead (fuel := fuel) (a := z.A ++ more) (b := z.B ++ more) hw T (by omega) (by omega) (by simp; omega) (by simp; omega) true
  have ok1 : twoOk fuel l z.A z.B false = true := by simp [twoOk, k1, k2, h3]
  have ok2 : twoOk fuel l (z.A ++ more) (z.B ++ more) true = true := by simp [twoOk, f1, f2, h3]
  rw [ok1, if_pos rfl] at m1
  rw [ok2, if_pos rfl] at m2
  simp [m1, m2, k3, hs]
theorem traceKeeps_holds : Rows.TraceKeepsSaid := frameTraceKeeps traceKeeps_law
end Go.Proofs.Ytfhehbfifffipaa
