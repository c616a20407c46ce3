/- MovesOrder: moves put in order do, one after the other, what they do at once, in the least number. Its conditions: none. -/
import Derived.Test.YtinehfaelciljaaPMov6
import Derived.Test.YtinehfaelciljaaPSure27
import Derived.Test.YtinehfaelciljaaFMovesOrder
set_option autoImplicit false
namespace Go.Proofs.Ytinehfaelciljaa
open Go.V Go.RowKit

open Classical in
theorem m_orderM {ms : List MMove} {sp : Int} {fuel : Nat} (hl : ms.length ≤ 60) (hf : 1000 < fuel) : m_moves_Order fuel ms sp = if RightM ms ∧ FreeM ms sp then Option.bind (m_moves_order_run fuel (askM ms sp)) fun o => some (o.out, 0) else some ([], 1) := by
  unfold m_moves_Order
  simp only [m_once (ms := ms) (by omega) hf, bind_some', m_contains (ms := ms) (sp := sp) (by omega) hf]
  by_cases h1 : RightM ms
  · by_cases h2 : sp < 0
    · have hF : ¬ FreeM ms sp := fun h => by have := h.1; omega
      simp [h1, h2, hF]
    · by_cases h3 : ∃ i, i < ms.length ∧ usesM ms sp i
      · have hF : ¬ FreeM ms sp := fun h => by obtain ⟨i, h4, h5⟩ := h3; exact h.2 i h4 h5
        simp [h1, h2, hF, h3]
      · have hF : FreeM ms sp := ⟨by omega, fun i h4 h5 => h3 ⟨i, h4, h5⟩⟩
        simp only [h1, hF, and_self, if_true, decide_true, Bool.not_true, Bool.false_eq_true, if_false, h2, decide_false, h3, bind_some', m_ask (sp := sp) (right_nd h1) (show ms.length ≤ 1000 by omega) hf]
  · simp [h1]
end Go.Proofs.Ytinehfaelciljaa
