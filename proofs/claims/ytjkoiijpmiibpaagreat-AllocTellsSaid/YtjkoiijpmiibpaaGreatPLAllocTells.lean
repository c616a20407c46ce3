/- AllocTells: whether any program is one, whether any two are the same, and, byte by byte, where a run is, and what it has found. Its conditions: none. -/
import Derived.Test.YtjkoiijpmiibpaaGreatPAp5
import Derived.Test.YtjkoiijpmiibpaaGreatPSure28
import Derived.Test.YtjkoiijpmiibpaaGreatFAllocTells
set_option autoImplicit false
namespace Go.Proofs.YtjkoiijpmiibpaaGreat
open Go.V Go.RowKit

def runT (p : MProg) (w : List Int) : Nat → RS
  | 0 => beginS p
  | i + 1 => if i < w.length then feedS p (gt w (i : Int)) (runT p w i) else runT p w i
theorem byte_in {x : Int} (h : inK .u8 x) : 0 ≤ x ∧ x < 256 := by
  obtain ⟨h1, h2⟩ := h
  rw [show IntKind.min .u8 = 0 from by decide] at h1
  rw [show IntKind.max .u8 = 255 from by decide] at h2
  omega
theorem runT_inv {p : MProg} (hR : RightP p) (hs : SizeP p) {w : List Int} (hw : ∀ x ∈ w, inK .u8 x) : ∀ i, i ≤ w.length → RInv p i (runT p w i)
  | 0, _ => begin_inv hR
  | i + 1, h => by
    have ih := runT_inv hR hs hw i (by omega)
    have hb := hw (gt w (i : Int)) (by rw [gtE (show i < w.length by omega)]; exact List.getElem_mem _)
    unfold runT
    rw [if_pos (by omega)]
    exact feed_inv hR hs ih (byte_in hb).1 (byte_in hb).2
theorem lawAllocTells : AllocTellsLaw := by
  intro p q w _ _ hw _
  refine ⟨10000000000000, ?_⟩
  generalize hfu : (10000000000000 : Nat) = fuel
  have hsure : m_law28_sure fuel = some true := hfu ▸ sure28
  have hf : 6000 < fuel := by omega
  unfold m_law28_AllocTells
  rw [m_small28 (p := p) (by omega), m_small28 (p := q) (by omega)]
  by_cases hP : SmallQ p
  case neg => simp only [hP, decide_false, Bool.not_false, if_true, bind_some', hsure]
  by_cases hQ : SmallQ q
  case neg => simp only [hP, hQ, decide_true, decide_false, Bool.not_true, Bool.not_false, Bool.false_eq_true, if_false, if_true, bind_some', hsure]
  by_cases hL : (w.length : Int) > 30
  · simp only [hP, hQ, hL, decide_true, Bool.not_true, Bool.false_eq_true, if_false, if_true, bind_some', hsure]
  have hs := hP.1
  simp only [hP, hQ, hL, decide_true, decide_false, Bool.not_true, Bool.false_eq_true, if_false, bind_some', m_rightP hs (show 2000 < fuel by omega), m_rightQ hs (show 2000 < fuel by omega), m_sameA (b := q) hs (show 2000 < fuel by omega), m_sameR (b := q) hs (show 2000 < fuel by omega), bne_self_eq_false]
  by_cases hR : RightP p
  case neg =>
    have hst : m_alloc_Start fuel p = some (none, 11) := by
      unfold m_alloc_Start
      simp only [m_rightP hs (show 2000 < fuel by omega), hR, decide_false, Bool.not_false, if_true, bind_some']
    rw [hst]
    simp only [bind_some', hR, decide_false, Bool.not_false, if_true, beq_self_eq_true, hsure]
  rw [m_startA hR hs (show 2000 < fuel by omega)]
  simp only [bind_some', hR, decide_true, Bool.not_true, Bool.false_eq_true, if_false, bne_self_eq_false, m_startR hR hs (show 2000 < fuel by omega)]
  have hloop : ∀ (o1 : MAllocRun) (x16 : MGimletref28Run), iter (m_law28_AllocTells_l1 fuel w p o1 x16) fuel (toA p (beginS p), toR p (beginS p), 0) = some (.inl ()) := by
    intro o1 x16
    refine iter_end (body := m_law28_AllocTells_l1 fuel w p o1 x16) (fu := fuel) (w.length + 1) (fun i => (toA p (runT p w i), toR p (runT p w i), (i : Int))) (.inl ()) (fun i hi => ?_) (by
      have hd : ¬ ((w.length + 1 : Nat) : Int) ≤ (w.length : Int) := by omega
      unfold m_law28_AllocTells_l1
      simp only [hd, decide_false, Bool.false_eq_true, if_false]) (by omega)
    have hI := runT_inv hR hs hw i (by omega)
    have hd : (i : Int) ≤ (w.length : Int) := by omega
    have hsp : m_ref14_Spanned fuel (if (runT p w i).tags.length = 0 then (([], false) : List MSpan × Bool) else (spansL (runT p w i).tags (runT p w i).to, true)).1 (if (runT p w i).tags.length = 0 then (([], false) : List MSpan × Bool) else (spansL (runT p w i).tags (runT p w i).to, true)).1 = some true := by
      split
      · exact m_spanned (by simp) (by omega)
      · have := hI.tags
        have := hR.2.1
        exact m_spanned (spansL_len _ _ (by omega)) (by omega)
    have hhere : (if decide ((toR p (runT p w i)).Stand ≥ 0) = true then (if inb p.Stands (toR p (runT p w i)).Stand = true then some (decide (((gt p.Stands (toR p (runT p w i)).Stand).Accept.length : Int) > 0)) else none) else some false : Option Bool) = some (decide (accs p (runT p w i).stand)) := by
      have := m_here hI (fuel := fuel)
      unfold m_alloc_Run_Here at this
      obtain ⟨x, h1, h2⟩ := obind this
      rw [← h2]; exact h1
    have hat : ((toA p (runT p w i)).at_ != (i : Int)) = false := by
      have := hI.at_
      show ((runT p w i).at_ != (i : Int)) = false
      simp [this]
    have hst : ((toA p (runT p w i)).stand != (toR p (runT p w i)).Stand) = false := by
      show ((runT p w i).stand != (runT p w i).stand) = false; simp
    have hwk : ((toA p (runT p w i)).work != (toR p (runT p w i)).Work) = false := by
      show ((runT p w i).work != (runT p w i).work) = false; simp
    show m_law28_AllocTells_l1 fuel w p o1 x16 _ = _
    unfold m_law28_AllocTells_l1 m_alloc_Run_At m_alloc_Run_Stand m_alloc_Run_Work
    simp only [hd, decide_true, if_true, m_foundA hR hI (show 2000 < fuel by omega), m_foundR hR hI (show 2000 < fuel by omega), bind_some', hhere, hsp, Bool.not_true, Bool.false_eq_true, if_false, bne_self_eq_false, hat, hst, hwk, m_here hI, W_succ (show i < 9223372036854775807 by omega)]
    by_cases c : i < w.length
    · have hc : (i : Int) < (w.length : Int) := by omega
      have hin : inb w (i : Int) = true := inb_true (by omega) hc
      have hb := hw (gt w (i : Int)) (by rw [gtE c]; exact List.getElem_mem _)
      have hb1 := (byte_in hb).2
      have e : runT p w (i + 1) = feedS p (gt w (i : Int)) (runT p w i) := by rw [runT, if_pos c]
      rw [e]
      simp only [hc, decide_true, if_true, hin, m_feedA hR hs hI (show i ≤ 1000 by omega) (byte_in hb).1 hb1 (show 2000 < fuel by omega), m_feedR hR hs hI (show i ≤ 1000 by omega) (byte_in hb).1 hb1 hf, bind_some']
    · have hc : ¬ (i : Int) < (w.length : Int) := by omega
      have e : runT p w (i + 1) = runT p w i := by rw [runT, if_neg c]
      rw [e]
      simp only [hc, decide_false, Bool.false_eq_true, if_false, bind_some']
  simp only [hloop, bind_some', hsure]
theorem allocTells_holds : Rows.AllocTellsSaid := frameAllocTells lawAllocTells
end Go.Proofs.YtjkoiijpmiibpaaGreat
