/- Moves: what is done to the registers. Its conditions: none. -/
import Derived.Test.YtjkoiijpmiibpaaGreatPMa5
set_option autoImplicit false
namespace Go.Proofs.YtjkoiijpmiibpaaGreat
open Go.V Go.RowKit

def inR (L : Nat) (m : MMove) : Prop := 0 ≤ m.To ∧ m.To < L ∧ -1 ≤ m.From ∧ m.From < L
theorem get27 {l : List Int} {m : MMove} {now : Int} {fuel : Nat} (h : inR l.length m) : m_ref27_get fuel l m now = some (valE now (gt l) m.From, true) := by
  obtain ⟨h1, h2, h3, h4⟩ := h
  unfold m_ref27_get valE
  by_cases c : m.From = -1
  · simp [show ¬ m.To < 0 by omega, show ¬ (l.length : Int) ≤ m.To by omega, c, show ¬ (l.length : Int) ≤ -1 by omega]
  · simp [show ¬ m.To < 0 by omega, show ¬ (l.length : Int) ≤ m.To by omega, show ¬ (l.length : Int) ≤ m.From by omega, show ¬ m.From < -1 by omega, c, inb_true (show 0 ≤ m.From by omega) h4]
def applyL (now : Int) (l : List Int) (ms : List MMove) : List Int := ms.foldl (fun l m => l.set m.To.toNat (valE now (gt l) m.From)) l
theorem apply_len (now : Int) (ms : List MMove) : ∀ l : List Int, (applyL now l ms).length = l.length := by
  induction ms with
  | nil => intro l; rfl
  | cons m ms ih => intro l; exact (ih _).trans (List.length_set ..)
theorem apply_snoc (now : Int) (l : List Int) (ms : List MMove) (m : MMove) : applyL now l (ms ++ [m]) = (applyL now l ms).set m.To.toNat (valE now (gt (applyL now l ms)) m.From) := by simp [applyL]
theorem m_apply27 {l : List Int} {ms : List MMove} {now : Int} {fuel : Nat} (hr : ∀ m ∈ ms, inR l.length m) (hl : ms.length ≤ 5000) (hL : l.length ≤ 5000) (hf : 5000 < fuel) : m_ref27_Apply fuel l ms now = some (applyL now l ms) := by
  have hstep : ∀ i, i < ms.length → m_ref27_Apply_l1 fuel ms now l (applyL now l (ms.take i), (i : Int)) = some (.next (applyL now l (ms.take (i + 1)), ((i + 1 : Nat) : Int))) := by
    intro i hi
    have hin : inb ms (i : Int) = true := inb_true (by omega) (by omega)
    have hd : (i : Int) < (ms.length : Int) := by omega
    have hm : inR l.length (gt ms i) := by rw [gtE hi]; exact hr _ (List.getElem_mem hi)
    have hlen := apply_len now (ms.take i) l
    unfold m_ref27_Apply_l1
    rw [gt_take hi, apply_snoc]
    simp only [hd, decide_true, if_true, hin, get27 (l := applyL now l (ms.take i)) (fuel := fuel) (now := now) (by rw [hlen]; exact hm), bind_some', W_succ (show i < 9223372036854775807 by omega), inb_true (l := applyL now l (ms.take i)) hm.1 (by rw [hlen]; exact hm.2.1)]
  have := iter_end (body := m_ref27_Apply_l1 fuel ms now l) (fu := fuel) ms.length (fun i => (applyL now l (ms.take i), (i : Int))) (applyL now l ms) hstep (by unfold m_ref27_Apply_l1; simp) (by omega)
  unfold m_ref27_Apply
  rw [if_pos (apOk_true (by simp; omega))]
  have h0 : iter (m_ref27_Apply_l1 fuel ms now l) fuel (([] : List Int) ++ l, 0) = some (applyL now l ms) := this
  rw [h0]; rfl
/-! Applied in the order, the moves do what they do at once. -/
end Go.Proofs.YtjkoiijpmiibpaaGreat
