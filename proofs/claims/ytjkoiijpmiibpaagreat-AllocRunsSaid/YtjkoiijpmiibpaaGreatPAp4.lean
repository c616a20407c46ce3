/- Runs of programs: a byte. Its conditions: none. -/
import Derived.Test.YtjkoiijpmiibpaaGreatPAp3
set_option autoImplicit false
namespace Go.Proofs.YtjkoiijpmiibpaaGreat
open Go.V Go.RowKit

structure RS where
  tags : List Int
  to : Int
  at_ : Int
  stand : Int
  work : Int
  regs : List Int
def valT (regs : List Int) (at_ n : Int) : Int := if n = -1 then at_ else if n = -2 then -1 else gt regs n
def accs (p : MProg) (stand : Int) : Prop := 0 ≤ stand ∧ (gt p.Stands stand).Accept.length ≠ 0
instance (p : MProg) (n : Int) : Decidable (accs p n) := inferInstanceAs (Decidable (_ ∧ _))
def accS (p : MProg) (s : RS) : RS := if accs p s.stand then ⟨(gt p.Stands s.stand).Accept.map (valT s.regs s.at_), s.at_, s.at_, s.stand, s.work, s.regs⟩ else s
def wayS (p : MProg) (b : Int) (s : RS) : MWay := gt (gt p.Stands s.stand).Ways (gt p.Class b)
def goS (p : MProg) (b : Int) (s : RS) : RS := if 0 ≤ s.stand then ⟨s.tags, s.to, s.at_ + 1, (wayS p b s).To, s.work + 1 + (wayS p b s).Moves.length, applyL s.at_ s.regs (wayS p b s).Moves⟩ else ⟨s.tags, s.to, s.at_ + 1, s.stand, s.work + 1, s.regs⟩
def feedS (p : MProg) (b : Int) (s : RS) : RS := accS p (goS p b s)
def beginS (p : MProg) : RS := accS p ⟨[], 0, 0, 0, 0, List.replicate p.Regs.toNat 0⟩
structure RInv (p : MProg) (n : Nat) (s : RS) : Prop where
  regs : (s.regs.length : Int) = p.Regs
  st0 : -1 ≤ s.stand
  st1 : s.stand < p.Stands.length
  at_ : s.at_ = n
  w0 : (n : Int) ≤ s.work
  w1 : s.work ≤ 1301 * n
  tags : s.tags.length = 0 ∨ (s.tags.length : Int) = p.Tags
def toA (p : MProg) (s : RS) : MAllocRun := ⟨⟨s.tags, s.to⟩, p, s.at_, s.stand, s.work, s.regs⟩

theorem right_stand {p : MProg} (hR : RightP p) {v : Int} (h0 : 0 ≤ v) (h1 : v < p.Stands.length) : StandOk p (leastC p.Class).length (gt p.Stands v) := by
  have := hR.2.2.2.2.2.2.2.2 v.toNat (by omega)
  rwa [show ((v.toNat : Nat) : Int) = v by omega] at this
theorem size_stand {p : MProg} (hs : SizeP p) {v : Int} (h0 : 0 ≤ v) (h1 : v < p.Stands.length) : SizeS (gt p.Stands v) := by
  have := hs.2.2 v.toNat (by omega)
  rwa [show ((v.toNat : Nat) : Int) = v by omega] at this
theorem accS_inv {p : MProg} (hR : RightP p) {n : Nat} {s : RS} (h : RInv p n s) : RInv p n (accS p s) := by
  unfold accS
  split
  · rename_i c
    refine ⟨h.regs, h.st0, h.st1, h.at_, h.w0, h.w1, ?_⟩
    have := (right_stand hR c.1 h.st1).1
    simp only [List.length_map]; exact this
  · exact h
theorem way_ok {p : MProg} (hR : RightP p) (hs : SizeP p) {n : Nat} {s : RS} (h : RInv p n s) (h0 : 0 ≤ s.stand) {b : Int} (b0 : 0 ≤ b) (b1 : b < 256) : 0 ≤ gt p.Class b ∧ gt p.Class b < (gt p.Stands s.stand).Ways.length ∧ WayOk p (wayS p b s) ∧ (wayS p b s).Moves.length ≤ 1300 := by
  have h1 := right_stand hR h0 h.st1
  have h2 := size_stand hs h0 h.st1
  obtain ⟨c0, c1⟩ := cls_lt hR.2.2.2.2.2.2.2.1 b0 b1
  rw [← h1.2.2.1] at c1
  have h3 := h1.2.2.2 (gt p.Class b).toNat (by omega)
  have h4 := h2.2.2 (gt p.Class b).toNat (by omega)
  unfold WayAt at h3
  unfold SizeW at h4
  rw [show (((gt p.Class b).toNat : Nat) : Int) = gt p.Class b by omega] at h3 h4
  exact ⟨c0, c1, h3, h4⟩
theorem feed_inv {p : MProg} (hR : RightP p) (hs : SizeP p) {n : Nat} {s : RS} (h : RInv p n s) {b : Int} (b0 : 0 ≤ b) (b1 : b < 256) : RInv p (n + 1) (feedS p b s) := by
  refine accS_inv hR ?_
  unfold goS
  split
  · rename_i c
    obtain ⟨_, _, h3, h4⟩ := way_ok hR hs h c b0 b1
    have h5 := h.w0
    have h6 := h.w1
    have h7 := h.at_
    have h8 := h3.1
    exact ⟨by simp only [apply_len]; exact h.regs, h8, h3.2.1, by simp only; omega, by simp only; omega, by simp only; omega, h.tags⟩
  · have h5 := h.w0
    have h6 := h.w1
    have h7 := h.at_
    exact ⟨h.regs, h.st0, h.st1, by simp only; omega, by simp only; omega, by simp only; omega, h.tags⟩
theorem begin_inv {p : MProg} (hR : RightP p) : RInv p 0 (beginS p) := by
  have h1 := hR.2.2.2.1
  have h2 := hR.2.2.2.2.2.1
  exact accS_inv hR ⟨by simp; omega, by simp, by simp only; omega, rfl, by simp, by simp, .inl rfl⟩
theorem acc_read {p : MProg} (hR : RightP p) {n : Nat} {s : RS} (h : RInv p n s) (h0 : 0 ≤ s.stand) {i : Nat} (hi : i < (gt p.Stands s.stand).Accept.length) : (gt (gt p.Stands s.stand).Accept (i : Int)) = -1 ∨ (gt (gt p.Stands s.stand).Accept (i : Int)) = -2 ∨ inb s.regs (gt (gt p.Stands s.stand).Accept (i : Int)) = true := by
  have h1 := (right_stand hR h0 h.st1).2.1 i hi
  have h2 := h.regs
  unfold AccI at h1
  by_cases c1 : gt (gt p.Stands s.stand).Accept (i : Int) = -1
  · exact .inl c1
  · by_cases c2 : gt (gt p.Stands s.stand).Accept (i : Int) = -2
    · exact .inr (.inl c2)
    · exact .inr (.inr (inb_true (by omega) (by omega)))
theorem m_valueA {p : MProg} {s : RS} {v : Int} {fuel : Nat} (h : v = -1 ∨ v = -2 ∨ inb s.regs v = true) : m_alloc_Run_value fuel (toA p s) v = some (valT s.regs s.at_ v) := by
  unfold m_alloc_Run_value valT toA
  rcases h with rfl | rfl | h
  · rfl
  · rfl
  · have h1 : ¬ v = -1 := fun e => by rw [e] at h; cases h
    have h2 : ¬ v = -2 := fun e => by rw [e] at h; cases h
    have h1' : (v == -1) = false := by simpa using h1
    have h2' : (v == -2) = false := by simpa using h2
    simp only [h1', h2', h, h1, h2, Bool.false_eq_true, if_false, if_true]
theorem m_here {p : MProg} {n : Nat} {s : RS} (h : RInv p n s) {fuel : Nat} : m_alloc_Run_Here fuel (toA p s) = some (decide (accs p s.stand)) := by
  have key : (if decide (s.stand ≥ 0) = true then (if inb p.Stands s.stand = true then some (decide (((gt p.Stands s.stand).Accept.length : Int) > 0)) else none) else some false : Option Bool) = some (decide (accs p s.stand)) := by
    by_cases c : s.stand ≥ 0
    · have hin : inb p.Stands s.stand = true := inb_true c h.st1
      rw [if_pos (decide_eq_true c), if_pos hin]
      congr 1
      exact decide_eq_decide.2 ⟨fun h => ⟨c, by omega⟩, fun h => by have := h.2; omega⟩
    · rw [if_neg (by simpa using c), decide_eq_false (fun h : accs p s.stand => c h.1)]
  exact (congrArg (fun o => Option.bind o fun x1 => some x1) key).trans rfl
theorem m_acceptA {p : MProg} (hR : RightP p) (hs : SizeP p) {n : Nat} {s : RS} (h : RInv p n s) {fuel : Nat} (hf : 2000 < fuel) : m_alloc_Run_accept fuel (toA p s) = some (toA p (accS p s)) := by
  unfold m_alloc_Run_accept
  rw [m_here h]
  unfold accS
  by_cases c : accs p s.stand
  · have hin : inb p.Stands s.stand = true := inb_true c.1 h.st1
    have hsz := (size_stand hs c.1 h.st1).1
    have hin' : inb (toA p s).p.Stands (toA p s).stand = true := hin
    have hl := iter_end (body := m_alloc_Run_accept_l1 fuel (toA p s)) (fu := fuel) (gt p.Stands s.stand).Accept.length (fun i => (((gt p.Stands s.stand).Accept.take i).map (valT s.regs s.at_), (i : Int))) ((gt p.Stands s.stand).Accept.map (valT s.regs s.at_)) (fun i hi => by
      have hin2 : inb (gt p.Stands s.stand).Accept (i : Int) = true := inb_true (by omega) (by omega)
      have hd : (i : Int) < ((gt p.Stands s.stand).Accept.length : Int) := by omega
      unfold m_alloc_Run_accept_l1
      simp only [show (toA p s).p = p from rfl, show (toA p s).stand = s.stand from rfl, hd, decide_true, if_true, hin2, m_valueA (p := p) (acc_read hR h c.1 hi), bind_some', W_succ (show i < 9223372036854775807 by omega)]
      rw [if_pos (apOk_true (by simp; omega)), take_gt hi, List.map_append]; rfl) (by
      unfold m_alloc_Run_accept_l1
      simp [show (toA p s).p = p from rfl, show (toA p s).stand = s.stand from rfl, List.take_length]) (by omega)
    have h0 : iter (m_alloc_Run_accept_l1 fuel (toA p s)) fuel (([] : List Int), 0) = _ := hl
    simp only [c, decide_true, Bool.not_true, Bool.false_eq_true, if_false, bind_some', hin', if_true, h0]
    rfl
  · simp only [c, decide_false, Bool.not_false, if_true, bind_some', if_false]
theorem m_feedA {p : MProg} (hR : RightP p) (hs : SizeP p) {n : Nat} {s : RS} (h : RInv p n s) (hn : n ≤ 1000) {b : Int} (b0 : 0 ≤ b) (b1 : b < 256) {fuel : Nat} (hf : 2000 < fuel) : m_alloc_Run_Feed fuel (toA p s) b = some (toA p (feedS p b s)) := by
  have h5 := h.w0
  have h6 := h.w1
  have h7 := h.at_
  have hW1 : W (s.work + 1) = s.work + 1 := W_id (by omega) (by omega)
  have hW3 : W (s.at_ + 1) = s.at_ + 1 := W_id (by omega) (by omega)
  unfold m_alloc_Run_Feed feedS
  by_cases c : s.stand ≥ 0
  · obtain ⟨c0, c1, h3, h4⟩ := way_ok hR hs h c b0 b1
    have hin : inb p.Stands s.stand = true := inb_true c h.st1
    have hcl : inb p.Class b = true := inb_true b0 (by rw [hR.2.2.2.2.2.2.2.1.2]; omega)
    have hin2 : inb (gt p.Stands s.stand).Ways (gt p.Class b) = true := inb_true c0 c1
    have hW2 : W (s.work + 1 + ((wayS p b s).Moves.length : Int)) = s.work + 1 + ((wayS p b s).Moves.length : Int) := W_id (by omega) (by omega)
    have hl := iter_end (body := m_alloc_Run_Feed_l1 fuel (toA p s) b) (fu := fuel) (wayS p b s).Moves.length (fun i => ((⟨⟨s.tags, s.to⟩, p, s.at_, s.stand, s.work + 1, applyL s.at_ s.regs ((wayS p b s).Moves.take i)⟩ : MAllocRun), (i : Int))) (⟨⟨s.tags, s.to⟩, p, s.at_, s.stand, s.work + 1, applyL s.at_ s.regs (wayS p b s).Moves⟩ : MAllocRun) (fun i hi => by
      have hin3 : inb (wayS p b s).Moves (i : Int) = true := inb_true (by omega) (by omega)
      have hd : (i : Int) < ((wayS p b s).Moves.length : Int) := by omega
      have hm := h3.2.2.2.2 i hi
      unfold MovAt MoveOk at hm
      have hrl : ((applyL s.at_ s.regs ((wayS p b s).Moves.take i)).length : Int) = p.Regs := by rw [apply_len]; exact h.regs
      have hinT : inb (applyL s.at_ s.regs ((wayS p b s).Moves.take i)) (gt (wayS p b s).Moves (i : Int)).To = true := inb_true hm.1 (by omega)
      have hv : m_alloc_Run_value fuel (⟨⟨s.tags, s.to⟩, p, s.at_, s.stand, s.work + 1, applyL s.at_ s.regs ((wayS p b s).Moves.take i)⟩ : MAllocRun) (gt (wayS p b s).Moves (i : Int)).From = some (valE s.at_ (gt (applyL s.at_ s.regs ((wayS p b s).Moves.take i))) (gt (wayS p b s).Moves (i : Int)).From) := by
        have hv1 := m_valueA (p := p) (s := ⟨s.tags, s.to, s.at_, s.stand, s.work + 1, applyL s.at_ s.regs ((wayS p b s).Moves.take i)⟩) (v := (gt (wayS p b s).Moves (i : Int)).From) (fuel := fuel) (by
          by_cases e : (gt (wayS p b s).Moves (i : Int)).From = -1
          · exact .inl e
          · exact .inr (.inr (inb_true (by omega) (by simp only; omega))))
        refine hv1.trans ?_
        unfold valT valE
        by_cases e : (gt (wayS p b s).Moves (i : Int)).From = -1
        · simp only [e, if_true]
        · have e2 : ¬ (gt (wayS p b s).Moves (i : Int)).From = -2 := by omega
          simp only [e, e2, if_false]
      show m_alloc_Run_Feed_l1 fuel (toA p s) b _ = _
      unfold m_alloc_Run_Feed_l1
      have hwy : gt (gt (toA p s).p.Stands (toA p s).stand).Ways (gt (toA p s).p.Class b) = wayS p b s := rfl
      simp only [hwy, hd, decide_true, if_true, hin3, hv, bind_some', hinT, W_succ (show i < 9223372036854775807 by omega)]
      rw [take_gt hi, apply_snoc]) (by
      show m_alloc_Run_Feed_l1 fuel (toA p s) b _ = _
      unfold m_alloc_Run_Feed_l1
      have hwy : gt (gt (toA p s).p.Stands (toA p s).stand).Ways (gt (toA p s).p.Class b) = wayS p b s := rfl
      simp [hwy, List.take_length]) (by omega)
    have h0 : iter (m_alloc_Run_Feed_l1 fuel (toA p s) b) fuel ((⟨⟨s.tags, s.to⟩, p, s.at_, s.stand, s.work + 1, s.regs⟩ : MAllocRun), 0) = _ := hl
    have hgo : goS p b s = ⟨s.tags, s.to, s.at_ + 1, (wayS p b s).To, s.work + 1 + (wayS p b s).Moves.length, applyL s.at_ s.regs (wayS p b s).Moves⟩ := by unfold goS; rw [if_pos c]
    have hI2 : RInv p (n + 1) (goS p b s) := by
      rw [hgo]
      exact ⟨by simp only [apply_len]; exact h.regs, h3.1, h3.2.1, by simp only; omega, by simp only; omega, by simp only; omega, h.tags⟩
    have hacc := m_acceptA hR hs hI2 hf
    rw [hgo] at hacc ⊢
    simp only [show (toA p s).stand = s.stand from rfl, show (toA p s).p = p from rfl, show (toA p s).work = s.work from rfl, show (toA p s).last = ⟨s.tags, s.to⟩ from rfl, show (toA p s).at_ = s.at_ from rfl, show (toA p s).regs = s.regs from rfl, c, decide_true, if_true, hin, hcl, hin2, hW1, h0, bind_some', hW3]
    have hwy : gt (gt p.Stands s.stand).Ways (gt p.Class b) = wayS p b s := rfl
    simp only [hwy, hW2]
    simp only [toA] at hacc ⊢
    rw [hacc]; rfl
  · have hgo : goS p b s = ⟨s.tags, s.to, s.at_ + 1, s.stand, s.work + 1, s.regs⟩ := by unfold goS; rw [if_neg c]
    have hI2 : RInv p (n + 1) (goS p b s) := by
      rw [hgo]
      exact ⟨h.regs, h.st0, h.st1, by simp only; omega, by simp only; omega, by simp only; omega, h.tags⟩
    have hacc := m_acceptA hR hs hI2 hf
    rw [hgo] at hacc ⊢
    simp only [show (toA p s).stand = s.stand from rfl, show (toA p s).p = p from rfl, show (toA p s).work = s.work from rfl, show (toA p s).last = ⟨s.tags, s.to⟩ from rfl, show (toA p s).at_ = s.at_ from rfl, show (toA p s).regs = s.regs from rfl, c, decide_false, Bool.false_eq_true, if_false, hW1, bind_some', hW3]
    simp only [toA] at hacc ⊢
    rw [hacc]; rfl
theorem m_foundA {p : MProg} (hR : RightP p) {n : Nat} {s : RS} (h : RInv p n s) {fuel : Nat} (hf : 2000 < fuel) : m_alloc_last_Found fuel (toA p s) = some (if s.tags.length = 0 then ([], false) else (spansL s.tags s.to, true)) := by
  unfold m_alloc_last_Found
  have h1 := h.tags
  have h2 := hR.2.1
  by_cases c : s.tags.length = 0
  · have c' : (((toA p s).last.tags.length : Int) == 0) = true := by simpa [toA] using c
    simp only [c', if_true, c]
  · have c' : (((toA p s).last.tags.length : Int) == 0) = false := by simpa [toA] using c
    have hm := m_markSpans (tags := s.tags) (to := s.to) (fuel := fuel) (by omega) hf
    simp only [c', Bool.false_eq_true, if_false, c]
    show (m_mark_Spans fuel s.tags s.to).bind _ = _
    rw [hm]; rfl
theorem m_startA {p : MProg} (hR : RightP p) (hs : SizeP p) {fuel : Nat} (hf : 2000 < fuel) : m_alloc_Start fuel p = some (some (toA p (beginS p)), 0) := by
  unfold m_alloc_Start
  have h1 := hR.2.2.2.1
  have h2 := hR.2.2.2.2.1
  have h3 := hR.2.2.2.2.2.1
  have hmk : mkOk 8 p.Regs = true := by unfold mkOk; simp; omega
  have hI : RInv p 0 ⟨[], 0, 0, 0, 0, List.replicate p.Regs.toNat 0⟩ := ⟨by simp; omega, by simp, by simp only; omega, rfl, by simp, by simp, .inl rfl⟩
  have hacc := m_acceptA hR hs hI hf
  simp only [m_rightP hs hf, hR, decide_true, Bool.not_true, Bool.false_eq_true, if_false, bind_some', hmk, if_true, m_copied hs hf]
  simp only [toA] at hacc ⊢
  rw [hacc]; rfl
end Go.Proofs.YtjkoiijpmiibpaaGreat
