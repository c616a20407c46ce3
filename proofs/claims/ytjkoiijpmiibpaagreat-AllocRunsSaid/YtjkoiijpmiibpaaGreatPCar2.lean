/- Cars of machines: a byte, by the document. Its conditions: none. -/
import Derived.Test.YtjkoiijpmiibpaaGreatPCar1
set_option autoImplicit false
namespace Go.Proofs.YtjkoiijpmiibpaaGreat
open Go.V Go.RowKit

def toD (d : MDfa) (s : CS) : MGimletref25Car := ⟨d, s.at_, s.state, s.regs, s.tags, s.to, !(s.tags.length == 0), s.work⟩
theorem m_acceptD {d : MDfa} (hR : RightD d) (hs : SmallD d) {n : Nat} {s : CS} (h : CInv d n s) {fuel : Nat} (hf : 2000 < fuel) : m_ref25_accept fuel (toD d s) = some (toD d (accC d s)) := by
  unfold m_ref25_accept accC
  have key : (if decide (s.state < 0) = true then some true else (if inb d.States s.state = true then some (((gt d.States s.state).Accept.length : Int) == 0) else none) : Option Bool) = some (!decide (accD d s.state)) := by
    by_cases c : s.state < 0
    · rw [if_pos (decide_eq_true c), decide_eq_false (fun h : accD d s.state => by have := h.1; omega)]; rfl
    · have hin : inb d.States s.state = true := inb_true (by omega) h.st1
      rw [if_neg (by simpa using c), if_pos hin]
      congr 1
      by_cases c2 : (gt d.States s.state).Accept.length = 0
      · rw [decide_eq_false (fun h : accD d s.state => h.2 c2)]; simp [c2]
      · rw [decide_eq_true (show accD d s.state from ⟨by omega, c2⟩), Bool.not_true, beq_eq_false_iff_ne]; omega
  have key' : (if decide ((toD d s).State < 0) = true then some true else (if inb (toD d s).D.States (toD d s).State = true then some (((gt (toD d s).D.States (toD d s).State).Accept.length : Int) == 0) else none) : Option Bool) = some (!decide (accD d s.state)) := key
  rw [key']
  by_cases c : accD d s.state
  · have hsz := (size_state hs c.1 h.st1).1
    have hin' : inb (toD d s).D.States (toD d s).State = true := inb_true c.1 h.st1
    have hl := iter_end (body := m_ref25_accept_l1 fuel (toD d s)) (fu := fuel) (gt d.States s.state).Accept.length (fun i => ((⟨d, s.at_, s.state, s.regs, ((gt d.States s.state).Accept.take i).map (valC s.regs s.at_), s.to, !(s.tags.length == 0), s.work⟩ : MGimletref25Car), (i : Int))) (⟨d, s.at_, s.state, s.regs, (gt d.States s.state).Accept.map (valC s.regs s.at_), s.to, !(s.tags.length == 0), s.work⟩ : MGimletref25Car) (fun i hi => by
      have hin2 : inb (gt d.States s.state).Accept (i : Int) = true := inb_true (by omega) (by omega)
      have hd : (i : Int) < ((gt d.States s.state).Accept.length : Int) := by omega
      have hrd := accC_read hR h c.1 hi
      have hap : ∀ v, apOk 8 (((gt d.States s.state).Accept.take i).map (valC s.regs s.at_)) [v] = true := fun v => apOk_true (by simp; omega)
      show m_ref25_accept_l1 fuel (toD d s) _ = _
      unfold m_ref25_accept_l1
      simp only [show (toD d s).D = d from rfl, show (toD d s).State = s.state from rfl, hd, decide_true, if_true, hin2, W_succ (show i < 9223372036854775807 by omega), hap, take_gt hi, List.map_append, List.map_cons, List.map_nil]
      generalize gt (gt d.States s.state).Accept (i : Int) = v at hrd
      unfold valC
      rcases hrd with rfl | rfl | hv
      · rfl
      · rfl
      · have h1 : ¬ v = -1 := fun e => by rw [e] at hv; cases hv
        have h2 : ¬ v = -2 := fun e => by rw [e] at hv; cases hv
        have h1' : (v == -1) = false := by simpa using h1
        have h2' : (v == -2) = false := by simpa using h2
        simp only [h1', h2', hv, h1, h2, Bool.false_eq_true, if_false, if_true, bind_some']) (by
      show m_ref25_accept_l1 fuel (toD d s) _ = _
      unfold m_ref25_accept_l1
      simp [show (toD d s).D = d from rfl, show (toD d s).State = s.state from rfl, List.take_length]) (by omega)
    have h0 : iter (m_ref25_accept_l1 fuel (toD d s)) fuel ((⟨(toD d s).D, (toD d s).At, (toD d s).State, (toD d s).Regs, [], (toD d s).To, (toD d s).Is, (toD d s).Work⟩ : MGimletref25Car), 0) = _ := hl
    have hne : (!(((gt d.States s.state).Accept.map (valC s.regs s.at_)).length == 0)) = true := by have := c.2; simpa using this
    rw [decide_eq_true c]
    simp only [Bool.not_true, Bool.false_eq_true, if_false, bind_some', hin', if_true, h0]
    simp only [c, if_true, toD, hne]
  · rw [decide_eq_false c]
    simp only [Bool.not_false, if_true, bind_some', c, if_false]
theorem byteW {b : Int} (b0 : 0 ≤ b) (b1 : b < 256) : W b = b := W_id (by omega) (by omega)
theorem m_feedD {d : MDfa} (hR : RightD d) (hs : SmallD d) {n : Nat} {s : CS} (h : CInv d n s) (hn : n ≤ 1000) {b : Int} (b0 : 0 ≤ b) (b1 : b < 256) {fuel : Nat} (hf : 2000 < fuel) : m_ref25_Feed fuel (toD d s) b = some (toD d (feedC d b s)) := by
  have h5 := h.w0
  have h6 := h.w1
  have h7 := h.at_
  have hW1 : W (s.work + 1) = s.work + 1 := W_id (by omega) (by omega)
  have hW3 : W (s.at_ + 1) = s.at_ + 1 := W_id (by omega) (by omega)
  have hI2 := goC_inv hR hs h b0 b1
  have hacc := m_acceptD hR hs hI2 hf
  unfold m_ref25_Feed feedC
  by_cases c : s.state ≥ 0
  · obtain ⟨c0, c1, h3, h4⟩ := edgeC_ok hR hs h c b0 b1
    have hin : inb d.States s.state = true := inb_true c h.st1
    have hcl : inb d.Class b = true := inb_true b0 (by rw [hR.2.2.2.2.2.1.2]; omega)
    have hin2 : inb (gt d.States s.state).Edges (gt d.Class b) = true := inb_true c0 c1
    have hW2 : W (s.work + 1 + ((edgeC d b s).Src.length : Int)) = s.work + 1 + ((edgeC d b s).Src.length : Int) := W_id (by omega) (by omega)
    have hwy : gt (gt d.States s.state).Edges (gt d.Class b) = edgeC d b s := rfl
    have hl := iter_end (body := m_ref25_Feed_l1 fuel (toD d s) b) (fu := fuel) (edgeC d b s).Src.length (fun i => (((edgeC d b s).Src.take i).map (valC s.regs s.at_), (i : Int))) ((edgeC d b s).Src.map (valC s.regs s.at_)) (fun i hi => by
      have hin2 : inb (edgeC d b s).Src (i : Int) = true := inb_true (by omega) (by omega)
      have hd : (i : Int) < ((edgeC d b s).Src.length : Int) := by omega
      have hrd := src_read h c h3 hi
      have hap : ∀ v, apOk 8 (((edgeC d b s).Src.take i).map (valC s.regs s.at_)) [v] = true := fun v => apOk_true (by simp; omega)
      show m_ref25_Feed_l1 fuel (toD d s) b _ = _
      unfold m_ref25_Feed_l1
      simp only [show (toD d s).D = d from rfl, show (toD d s).State = s.state from rfl, byteW b0 b1, hwy, hd, decide_true, if_true, hin2, W_succ (show i < 9223372036854775807 by omega), hap, take_gt hi, List.map_append, List.map_cons, List.map_nil, show (toD d s).At = s.at_ from rfl, show (toD d s).Regs = s.regs from rfl]
      generalize gt (edgeC d b s).Src (i : Int) = v at hrd
      unfold valC
      rcases hrd with rfl | hv
      · rfl
      · have h1 : ¬ v = -1 := fun e => by rw [e] at hv; cases hv
        have h2 : ¬ v = -2 := fun e => by rw [e] at hv; cases hv
        have h1' : (v == -1) = false := by simpa using h1
        simp only [h1', hv, h1, h2, Bool.false_eq_true, if_false, if_true, bind_some']) (by
      show m_ref25_Feed_l1 fuel (toD d s) b _ = _
      unfold m_ref25_Feed_l1
      simp [show (toD d s).D = d from rfl, show (toD d s).State = s.state from rfl, byteW b0 b1, hwy, List.take_length]) (by omega)
    have h0 : iter (m_ref25_Feed_l1 fuel (toD d s) b) fuel (([] : List Int), 0) = _ := hl
    have hgo : goC d b s = ⟨s.tags, s.to, s.at_ + 1, (edgeC d b s).To, s.work + 1 + (edgeC d b s).Src.length, (edgeC d b s).Src.map (valC s.regs s.at_)⟩ := by unfold goC; rw [if_pos c]
    rw [hgo] at hacc ⊢
    simp only [show (toD d s).State = s.state from rfl, show (toD d s).D = d from rfl, show (toD d s).Work = s.work from rfl, show (toD d s).At = s.at_ from rfl, show (toD d s).Tags = s.tags from rfl, show (toD d s).To = s.to from rfl, show (toD d s).Is = !(s.tags.length == 0) from rfl, show (toD d s).Regs = s.regs from rfl, c, decide_true, if_true, hin, byteW b0 b1, hcl, hin2, hW1, hwy, h0, bind_some', List.length_map, hW2, hW3]
    simp only [toD] at hacc ⊢
    rw [hacc]; rfl
  · have hgo : goC d b s = ⟨s.tags, s.to, s.at_ + 1, s.state, s.work + 1, s.regs⟩ := by unfold goC; rw [if_neg c]
    rw [hgo] at hacc ⊢
    simp only [show (toD d s).State = s.state from rfl, show (toD d s).D = d from rfl, show (toD d s).Work = s.work from rfl, show (toD d s).At = s.at_ from rfl, show (toD d s).Tags = s.tags from rfl, show (toD d s).To = s.to from rfl, show (toD d s).Is = !(s.tags.length == 0) from rfl, show (toD d s).Regs = s.regs from rfl, c, decide_false, Bool.false_eq_true, if_false, hW1, bind_some', hW3]
    simp only [toD] at hacc ⊢
    rw [hacc]; rfl
theorem m_foundD {d : MDfa} (hR : RightD d) {n : Nat} {s : CS} (h : CInv d n s) {fuel : Nat} (hf : 2000 < fuel) : m_ref25_Found fuel (toD d s) = some (if s.tags.length = 0 then ([], false) else (spansL s.tags s.to, true)) := by
  unfold m_ref25_Found
  have h1 := h.tags
  have h2 := hR.2.1
  by_cases c : s.tags.length = 0
  · have c' : (toD d s).Is = false := by simp [toD, c]
    simp only [c', Bool.not_false, if_true, c]
  · have c' : (toD d s).Is = true := by simpa [toD] using c
    have hm := m_refSpans (tags := s.tags) (to := s.to) (fuel := fuel) (by omega) hf
    simp only [c', Bool.not_true, Bool.false_eq_true, if_false, c]
    show (m_ref20_Spans fuel s.tags s.to).bind _ = _
    rw [hm]; rfl
theorem m_newD {d : MDfa} (hR : RightD d) (hs : SmallD d) {fuel : Nat} (hf : 2000 < fuel) : m_ref25_New fuel d = some (toD d (beginC d)) := by
  have hacc := m_acceptD hR hs (begin0_inv hR) hf
  unfold m_ref25_New
  simp only [toD] at hacc ⊢
  have e : (!(([] : List Int).length == 0)) = false := rfl
  rw [e] at hacc
  rw [hacc]; rfl
end Go.Proofs.YtjkoiijpmiibpaaGreat
