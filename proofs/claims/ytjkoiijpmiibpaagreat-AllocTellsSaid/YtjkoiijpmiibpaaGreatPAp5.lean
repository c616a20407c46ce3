/- Runs of programs: a byte, by the document. Its conditions: none. -/
import Derived.Test.YtjkoiijpmiibpaaGreatPAp4
import Derived.Test.YtjkoiijpmiibpaaGreatPAp2
set_option autoImplicit false
namespace Go.Proofs.YtjkoiijpmiibpaaGreat
open Go.V Go.RowKit

def toR (p : MProg) (s : RS) : MGimletref28Run := ⟨p, s.at_, s.stand, s.regs, s.tags, s.to, !(s.tags.length == 0), s.work⟩
theorem m_acceptR {p : MProg} (hR : RightP p) (hs : SizeP p) {n : Nat} {s : RS} (h : RInv p n s) {fuel : Nat} (hf : 2000 < fuel) : m_ref28_accept fuel (toR p s) = some (toR p (accS p s)) := by
  unfold m_ref28_accept accS
  have key : (if decide (s.stand < 0) = true then some true else (if inb p.Stands s.stand = true then some (((gt p.Stands s.stand).Accept.length : Int) == 0) else none) : Option Bool) = some (!decide (accs p s.stand)) := by
    by_cases c : s.stand < 0
    · rw [if_pos (decide_eq_true c), decide_eq_false (fun h : accs p s.stand => by have := h.1; omega)]; rfl
    · have hin : inb p.Stands s.stand = true := inb_true (by omega) h.st1
      rw [if_neg (by simpa using c), if_pos hin]
      congr 1
      by_cases c2 : (gt p.Stands s.stand).Accept.length = 0
      · rw [decide_eq_false (fun h : accs p s.stand => h.2 c2)]; simp [c2]
      · rw [decide_eq_true (show accs p s.stand from ⟨by omega, c2⟩), Bool.not_true, beq_eq_false_iff_ne]; omega
  have key' : (if decide ((toR p s).Stand < 0) = true then some true else (if inb (toR p s).P.Stands (toR p s).Stand = true then some (((gt (toR p s).P.Stands (toR p s).Stand).Accept.length : Int) == 0) else none) : Option Bool) = some (!decide (accs p s.stand)) := key
  rw [key']
  by_cases c : accs p s.stand
  · have hin : inb p.Stands s.stand = true := inb_true c.1 h.st1
    have hsz := (size_stand hs c.1 h.st1).1
    have hin' : inb (toR p s).P.Stands (toR p s).Stand = true := hin
    have hl := iter_end (body := m_ref28_accept_l1 fuel (toR p s)) (fu := fuel) (gt p.Stands s.stand).Accept.length (fun i => ((⟨p, s.at_, s.stand, s.regs, ((gt p.Stands s.stand).Accept.take i).map (valT s.regs s.at_), s.to, !(s.tags.length == 0), s.work⟩ : MGimletref28Run), (i : Int))) (⟨p, s.at_, s.stand, s.regs, (gt p.Stands s.stand).Accept.map (valT s.regs s.at_), s.to, !(s.tags.length == 0), s.work⟩ : MGimletref28Run) (fun i hi => by
      have hin2 : inb (gt p.Stands s.stand).Accept (i : Int) = true := inb_true (by omega) (by omega)
      have hd : (i : Int) < ((gt p.Stands s.stand).Accept.length : Int) := by omega
      have hrd := acc_read hR h c.1 hi
      have hap : ∀ v, apOk 8 (((gt p.Stands s.stand).Accept.take i).map (valT s.regs s.at_)) [v] = true := fun v => apOk_true (by simp; omega)
      show m_ref28_accept_l1 fuel (toR p s) _ = _
      unfold m_ref28_accept_l1
      simp only [show (toR p s).P = p from rfl, show (toR p s).Stand = s.stand from rfl, hd, decide_true, if_true, hin2, W_succ (show i < 9223372036854775807 by omega), hap, take_gt hi, List.map_append, List.map_cons, List.map_nil]
      generalize gt (gt p.Stands s.stand).Accept (i : Int) = v at hrd
      unfold valT
      rcases hrd with rfl | rfl | hv
      · rfl
      · rfl
      · have h1 : ¬ v = -1 := fun e => by rw [e] at hv; cases hv
        have h2 : ¬ v = -2 := fun e => by rw [e] at hv; cases hv
        have h1' : (v == -1) = false := by simpa using h1
        have h2' : (v == -2) = false := by simpa using h2
        simp only [h1', h2', hv, h1, h2, Bool.false_eq_true, if_false, if_true, bind_some']) (by
      show m_ref28_accept_l1 fuel (toR p s) _ = _
      unfold m_ref28_accept_l1
      simp [show (toR p s).P = p from rfl, show (toR p s).Stand = s.stand from rfl, List.take_length]) (by omega)
    have h0 : iter (m_ref28_accept_l1 fuel (toR p s)) fuel ((⟨(toR p s).P, (toR p s).At, (toR p s).Stand, (toR p s).Regs, [], (toR p s).To, (toR p s).Is, (toR p s).Work⟩ : MGimletref28Run), 0) = _ := hl
    have hne : (!(((gt p.Stands s.stand).Accept.map (valT s.regs s.at_)).length == 0)) = true := by have := c.2; simpa using this
    rw [decide_eq_true c]
    simp only [Bool.not_true, Bool.false_eq_true, if_false, bind_some', hin', if_true, h0]
    simp only [c, if_true, toR, hne]
  · rw [decide_eq_false c]
    simp only [Bool.not_false, if_true, bind_some', c, if_false]
theorem byte_W {b : Int} (b0 : 0 ≤ b) (b1 : b < 256) : W b = b := W_id (by omega) (by omega)
theorem m_feedR {p : MProg} (hR : RightP p) (hs : SizeP p) {n : Nat} {s : RS} (h : RInv p n s) (hn : n ≤ 1000) {b : Int} (b0 : 0 ≤ b) (b1 : b < 256) {fuel : Nat} (hf : 6000 < fuel) : m_ref28_Feed fuel (toR p s) b = some (toR p (feedS p b s)) := by
  have h5 := h.w0
  have h6 := h.w1
  have h7 := h.at_
  have hr5 := hR.2.2.2.2.1
  have hW1 : W (s.work + 1) = s.work + 1 := W_id (by omega) (by omega)
  have hW3 : W (s.at_ + 1) = s.at_ + 1 := W_id (by omega) (by omega)
  unfold m_ref28_Feed feedS
  by_cases c : s.stand ≥ 0
  · obtain ⟨c0, c1, h3, h4⟩ := way_ok hR hs h c b0 b1
    have hin : inb p.Stands s.stand = true := inb_true c h.st1
    have hcl : inb p.Class b = true := inb_true b0 (by rw [hR.2.2.2.2.2.2.2.1.2]; omega)
    have hin2 : inb (gt p.Stands s.stand).Ways (gt p.Class b) = true := inb_true c0 c1
    have hW2 : W (s.work + 1 + ((wayS p b s).Moves.length : Int)) = s.work + 1 + ((wayS p b s).Moves.length : Int) := W_id (by omega) (by omega)
    have hap := m_apply27 (l := s.regs) (ms := (wayS p b s).Moves) (now := s.at_) (fuel := fuel) (fun m hm => by
      obtain ⟨i, hi, rfl⟩ := List.mem_iff_getElem.1 hm
      have h8 := h3.2.2.2.2 i hi
      have h9 := h.regs
      unfold MovAt MoveOk at h8
      rw [gtE hi] at h8
      unfold inR
      omega) (by omega) (by have := h.regs; omega) (by omega)
    have hgo : goS p b s = ⟨s.tags, s.to, s.at_ + 1, (wayS p b s).To, s.work + 1 + (wayS p b s).Moves.length, applyL s.at_ s.regs (wayS p b s).Moves⟩ := by unfold goS; rw [if_pos c]
    have hI2 : RInv p (n + 1) (goS p b s) := by
      rw [hgo]
      exact ⟨by simp only [apply_len]; exact h.regs, h3.1, h3.2.1, by simp only; omega, by simp only; omega, by simp only; omega, h.tags⟩
    have hacc := m_acceptR hR hs hI2 (fuel := fuel) (by omega)
    rw [hgo] at hacc ⊢
    have hwy : gt (gt p.Stands s.stand).Ways (gt p.Class b) = wayS p b s := rfl
    simp only [show (toR p s).Stand = s.stand from rfl, show (toR p s).P = p from rfl, show (toR p s).Work = s.work from rfl, show (toR p s).At = s.at_ from rfl, show (toR p s).Regs = s.regs from rfl, show (toR p s).Tags = s.tags from rfl, show (toR p s).To = s.to from rfl, show (toR p s).Is = !(s.tags.length == 0) from rfl, c, decide_true, if_true, hin, byte_W b0 b1, hcl, hin2, hwy, hap, bind_some', hW1, hW2, hW3]
    simp only [toR] at hacc ⊢
    rw [hacc]; rfl
  · have hgo : goS p b s = ⟨s.tags, s.to, s.at_ + 1, s.stand, s.work + 1, s.regs⟩ := by unfold goS; rw [if_neg c]
    have hI2 : RInv p (n + 1) (goS p b s) := by
      rw [hgo]
      exact ⟨h.regs, h.st0, h.st1, by simp only; omega, by simp only; omega, by simp only; omega, h.tags⟩
    have hacc := m_acceptR hR hs hI2 (fuel := fuel) (by omega)
    rw [hgo] at hacc ⊢
    simp only [show (toR p s).Stand = s.stand from rfl, show (toR p s).P = p from rfl, show (toR p s).Work = s.work from rfl, show (toR p s).At = s.at_ from rfl, show (toR p s).Regs = s.regs from rfl, show (toR p s).Tags = s.tags from rfl, show (toR p s).To = s.to from rfl, show (toR p s).Is = !(s.tags.length == 0) from rfl, c, decide_false, Bool.false_eq_true, if_false, hW1, bind_some', hW3]
    simp only [toR] at hacc ⊢
    rw [hacc]; rfl
theorem m_foundR {p : MProg} (hR : RightP p) {n : Nat} {s : RS} (h : RInv p n s) {fuel : Nat} (hf : 2000 < fuel) : m_ref28_Found fuel (toR p s) = some (if s.tags.length = 0 then ([], false) else (spansL s.tags s.to, true)) := by
  unfold m_ref28_Found
  have h1 := h.tags
  have h2 := hR.2.1
  by_cases c : s.tags.length = 0
  · have c' : (toR p s).Is = false := by simp [toR, c]
    simp only [c', Bool.not_false, if_true, c]
  · have c' : (toR p s).Is = true := by simpa [toR] using c
    have hm := m_refSpans (tags := s.tags) (to := s.to) (fuel := fuel) (by omega) hf
    simp only [c', Bool.not_true, Bool.false_eq_true, if_false, c]
    show (m_ref20_Spans fuel s.tags s.to).bind _ = _
    rw [hm]; rfl
theorem m_startR {p : MProg} (hR : RightP p) (hs : SizeP p) {fuel : Nat} (hf : 2000 < fuel) : m_ref28_Start fuel p = some (toR p (beginS p)) := by
  unfold m_ref28_Start
  have h1 := hR.2.2.2.1
  have h2 := hR.2.2.2.2.1
  have h3 := hR.2.2.2.2.2.1
  have hmk : mkOk 8 p.Regs = true := by unfold mkOk; simp; omega
  have hI : RInv p 0 ⟨[], 0, 0, 0, 0, List.replicate p.Regs.toNat 0⟩ := ⟨by simp; omega, by simp, by simp only; omega, rfl, by simp, by simp, .inl rfl⟩
  have hacc := m_acceptR hR hs hI hf
  simp only [hmk, if_true]
  simp only [toR] at hacc ⊢
  have e : (!(([] : List Int).length == 0)) = false := rfl
  rw [e] at hacc
  rw [hacc]; rfl
end Go.Proofs.YtjkoiijpmiibpaaGreat
