/- Cars of machines: a byte. Its conditions: none. -/
import Derived.Test.YtjkoiijpmiibpaaGreatPAl3
import Derived.Test.YtjkoiijpmiibpaaGreatPAp3
import Derived.Test.YtjkoiijpmiibpaaGreatMo4
set_option autoImplicit false
namespace Go.Proofs.YtjkoiijpmiibpaaGreat
open Go.V Go.RowKit

structure CS where
  tags : List Int
  to : Int
  at_ : Int
  state : Int
  work : Int
  regs : List Int
def valC (regs : List Int) (at_ n : Int) : Int := if n = -1 then at_ else if n = -2 then -1 else gt regs n
def accD (d : MDfa) (q : Int) : Prop := 0 ≤ q ∧ (gt d.States q).Accept.length ≠ 0
instance (d : MDfa) (q : Int) : Decidable (accD d q) := inferInstanceAs (Decidable (_ ∧ _))
def accC (d : MDfa) (s : CS) : CS := if accD d s.state then ⟨(gt d.States s.state).Accept.map (valC s.regs s.at_), s.at_, s.at_, s.state, s.work, s.regs⟩ else s
def edgeC (d : MDfa) (b : Int) (s : CS) : MEdge := gt (gt d.States s.state).Edges (gt d.Class b)
def goC (d : MDfa) (b : Int) (s : CS) : CS := if 0 ≤ s.state then ⟨s.tags, s.to, s.at_ + 1, (edgeC d b s).To, s.work + 1 + (edgeC d b s).Src.length, (edgeC d b s).Src.map (valC s.regs s.at_)⟩ else ⟨s.tags, s.to, s.at_ + 1, s.state, s.work + 1, s.regs⟩
def feedC (d : MDfa) (b : Int) (s : CS) : CS := accC d (goC d b s)
def beginC (d : MDfa) : CS := accC d ⟨[], 0, 0, 0, 0, []⟩
structure CInv (d : MDfa) (n : Nat) (s : CS) : Prop where
  regs : 0 ≤ s.state → (s.regs.length : Int) = (gt d.States s.state).Regs
  st0 : -1 ≤ s.state
  st1 : s.state < d.States.length
  at_ : s.at_ = n
  w0 : 0 ≤ s.work
  w1 : s.work ≤ 401 * n
  tags : s.tags.length = 0 ∨ (s.tags.length : Int) = d.Tags
theorem right_state {d : MDfa} (hR : RightD d) {v : Int} (h0 : 0 ≤ v) (h1 : v < d.States.length) : StateOk d (leastC d.Class).length (gt d.States v) := by
  have := hR.2.2.2.2.2.2.2 v.toNat (by omega)
  rwa [show ((v.toNat : Nat) : Int) = v by omega] at this
theorem size_state {d : MDfa} (hs : SmallD d) {v : Int} (h0 : 0 ≤ v) (h1 : v < d.States.length) : SmallS (gt d.States v) := by
  have := hs.2.2 v.toNat (by omega)
  rwa [show ((v.toNat : Nat) : Int) = v by omega] at this
theorem accC_inv {d : MDfa} (hR : RightD d) {n : Nat} {s : CS} (h : CInv d n s) : CInv d n (accC d s) := by
  unfold accC
  split
  · rename_i c
    refine ⟨h.regs, h.st0, h.st1, h.at_, h.w0, h.w1, ?_⟩
    have := (right_state hR c.1 h.st1).2.2.1
    simp only [List.length_map]; exact this
  · exact h
theorem edgeC_ok {d : MDfa} (hR : RightD d) (hs : SmallD d) {n : Nat} {s : CS} (h : CInv d n s) (h0 : 0 ≤ s.state) {b : Int} (b0 : 0 ≤ b) (b1 : b < 256) : 0 ≤ gt d.Class b ∧ gt d.Class b < (gt d.States s.state).Edges.length ∧ EdgeOk d (edgeC d b s) (gt d.States s.state).Regs ∧ (edgeC d b s).Src.length ≤ 400 := by
  have h1 := right_state hR h0 h.st1
  have h2 := size_state hs h0 h.st1
  obtain ⟨c0, c1⟩ := cls_lt hR.2.2.2.2.2.1 b0 b1
  rw [← h1.2.2.2.1] at c1
  have h3 := h1.2.2.2.2.2 (gt d.Class b).toNat (by omega)
  have h4 := h2.2.2.2 (gt d.Class b).toNat (by omega)
  unfold SrcOk at h4
  rw [show (((gt d.Class b).toNat : Nat) : Int) = gt d.Class b by omega] at h3 h4
  exact ⟨c0, c1, h3, h4⟩
theorem goC_inv {d : MDfa} (hR : RightD d) (hs : SmallD d) {n : Nat} {s : CS} (h : CInv d n s) {b : Int} (b0 : 0 ≤ b) (b1 : b < 256) : CInv d (n + 1) (goC d b s) := by
  have h5 := h.w0
  have h6 := h.w1
  have h7 := h.at_
  unfold goC
  split
  · rename_i c
    obtain ⟨_, _, h3, h4⟩ := edgeC_ok hR hs h c b0 b1
    refine ⟨fun h8 => ?_, ?_, ?_, by simp only; omega, by simp only; omega, by simp only; omega, h.tags⟩
    · simp only at h8 ⊢
      rw [List.length_map]
      unfold EdgeOk at h3
      rw [if_neg (by omega)] at h3
      exact h3.2.2.1
    · simp only
      unfold EdgeOk at h3
      split at h3 <;> omega
    · have h9 := hR.2.2.2.1
      simp only
      unfold EdgeOk at h3
      split at h3 <;> omega
  · rename_i c
    exact ⟨fun h8 => absurd h8 c, h.st0, h.st1, by simp only; omega, by simp only; omega, by simp only; omega, h.tags⟩
theorem feedC_inv {d : MDfa} (hR : RightD d) (hs : SmallD d) {n : Nat} {s : CS} (h : CInv d n s) {b : Int} (b0 : 0 ≤ b) (b1 : b < 256) : CInv d (n + 1) (feedC d b s) := accC_inv hR (goC_inv hR hs h b0 b1)
theorem begin0_inv {d : MDfa} (hR : RightD d) : CInv d 0 ⟨[], 0, 0, 0, 0, []⟩ := by
  have h2 := hR.2.2.2.1
  exact ⟨fun _ => by rw [hR.2.2.2.2.2.2.1]; rfl, by simp, by simp only; omega, rfl, by simp, by simp, .inl rfl⟩
theorem beginC_inv {d : MDfa} (hR : RightD d) : CInv d 0 (beginC d) := accC_inv hR (begin0_inv hR)
theorem accC_read {d : MDfa} (hR : RightD d) {n : Nat} {s : CS} (h : CInv d n s) (h0 : 0 ≤ s.state) {i : Nat} (hi : i < (gt d.States s.state).Accept.length) : (gt (gt d.States s.state).Accept (i : Int)) = -1 ∨ (gt (gt d.States s.state).Accept (i : Int)) = -2 ∨ inb s.regs (gt (gt d.States s.state).Accept (i : Int)) = true := by
  have h1 := (right_state hR h0 h.st1).2.2.2.2.1 i hi
  have h2 := h.regs h0
  unfold fromP at h1
  rcases h1 with h1 | h1 | h1
  · exact .inr (.inl h1)
  · exact .inl h1
  · exact .inr (.inr (inb_true h1.1 (by omega)))
theorem src_read {d : MDfa} {n : Nat} {s : CS} (h : CInv d n s) (h0 : 0 ≤ s.state) {x : MEdge} (hx : EdgeOk d x (gt d.States s.state).Regs) {i : Nat} (hi : i < x.Src.length) : gt x.Src (i : Int) = -1 ∨ inb s.regs (gt x.Src (i : Int)) = true := by
  have h2 := h.regs h0
  unfold EdgeOk at hx
  split at hx
  · omega
  · rcases hx.2.2.2 i hi with h1 | h1
    · exact .inl h1
    · exact .inr (inb_true h1.1 (by omega))
/-! The program's car. -/
def toC (d : MDfa) (s : CS) : MDriveCar := ⟨⟨s.tags, s.to⟩, d, s.at_, s.state, s.work, s.regs⟩
theorem m_hereC {d : MDfa} {s : CS} {v : Int} {fuel : Nat} (h : v = -1 ∨ v = -2 ∨ inb s.regs v = true) : m_drive_Car_here fuel (toC d s) v = some (valC s.regs s.at_ v) := by
  unfold m_drive_Car_here valC toC
  rcases h with rfl | rfl | h
  · rfl
  · rfl
  · have h1 : ¬ v = -1 := fun e => by rw [e] at h; cases h
    have h2 : ¬ v = -2 := fun e => by rw [e] at h; cases h
    have h1' : (v == -1) = false := by simpa using h1
    have h2' : (v == -2) = false := by simpa using h2
    simp only [h1', h2', h, h1, h2, Bool.false_eq_true, if_false, if_true]
theorem m_eachC {d : MDfa} {s : CS} {l : List Int} {fuel : Nat} (hl : l.length ≤ 1000) (hf : 2000 < fuel) (h : ∀ i : Nat, i < l.length → gt l (i : Int) = -1 ∨ gt l (i : Int) = -2 ∨ inb s.regs (gt l (i : Int)) = true) : m_drive_Car_each fuel (toC d s) l = some (l.map (valC s.regs s.at_)) := by
  have hl1 := iter_end (body := m_drive_Car_each_l1 fuel (toC d s) l) (fu := fuel) l.length (fun i => ((l.take i).map (valC s.regs s.at_), (i : Int))) (l.map (valC s.regs s.at_)) (fun i hi => by
    have hin : inb l (i : Int) = true := inb_true (by omega) (by omega)
    have hd : (i : Int) < (l.length : Int) := by omega
    unfold m_drive_Car_each_l1
    simp only [hd, decide_true, if_true, hin, m_hereC (h i hi), bind_some', W_succ (show i < 9223372036854775807 by omega)]
    rw [if_pos (apOk_true (by simp; omega)), take_gt hi, List.map_append]; rfl) (by unfold m_drive_Car_each_l1; simp [List.take_length]) (by omega)
  have h0 : iter (m_drive_Car_each_l1 fuel (toC d s) l) fuel (([] : List Int), 0) = _ := hl1
  unfold m_drive_Car_each
  rw [h0]; rfl
theorem m_acceptsC {d : MDfa} {n : Nat} {s : CS} (h : CInv d n s) {fuel : Nat} : m_drive_Car_accepts fuel (toC d s) = some (decide (accD d s.state)) := by
  have key : (if decide (s.state ≥ 0) = true then (if inb d.States s.state = true then some (decide (((gt d.States s.state).Accept.length : Int) > 0)) else none) else some false : Option Bool) = some (decide (accD d s.state)) := by
    by_cases c : s.state ≥ 0
    · have hin : inb d.States s.state = true := inb_true c h.st1
      rw [if_pos (decide_eq_true c), if_pos hin]
      congr 1
      exact decide_eq_decide.2 ⟨fun h => ⟨c, by omega⟩, fun h => by have := h.2; omega⟩
    · rw [if_neg (by simpa using c), decide_eq_false (fun h : accD d s.state => c h.1)]
  exact (congrArg (fun o => Option.bind o fun x1 => some x1) key).trans rfl
theorem m_acceptC {d : MDfa} (hR : RightD d) (hs : SmallD d) {n : Nat} {s : CS} (h : CInv d n s) {fuel : Nat} (hf : 2000 < fuel) : m_drive_Car_accept fuel (toC d s) = some (toC d (accC d s)) := by
  unfold m_drive_Car_accept
  rw [m_acceptsC h]
  unfold accC
  by_cases c : accD d s.state
  · have hin : inb (toC d s).d.States (toC d s).state = true := inb_true c.1 h.st1
    have hsz := (size_state hs c.1 h.st1).1
    have he := m_eachC (d := d) (s := s) (l := (gt d.States s.state).Accept) (fuel := fuel) (by omega) hf (fun i hi => accC_read hR h c.1 hi)
    have he' : m_drive_Car_each fuel (toC d s) (gt (toC d s).d.States (toC d s).state).Accept = _ := he
    simp only [c, decide_true, if_true, bind_some', hin, he']
    rfl
  · simp only [c, decide_false, Bool.false_eq_true, if_false, bind_some']
theorem m_feedC {d : MDfa} (hR : RightD d) (hs : SmallD d) {n : Nat} {s : CS} (h : CInv d n s) (hn : n ≤ 1000) {b : Int} (b0 : 0 ≤ b) (b1 : b < 256) {fuel : Nat} (hf : 2000 < fuel) : m_drive_Car_Feed fuel (toC d s) b = some (toC d (feedC d b s)) := by
  have h5 := h.w0
  have h6 := h.w1
  have h7 := h.at_
  have hW1 : W (s.work + 1) = s.work + 1 := W_id (by omega) (by omega)
  have hW3 : W (s.at_ + 1) = s.at_ + 1 := W_id (by omega) (by omega)
  have hI2 := goC_inv hR hs h b0 b1
  have hacc := m_acceptC hR hs hI2 hf
  unfold m_drive_Car_Feed feedC
  by_cases c : s.state ≥ 0
  · obtain ⟨c0, c1, h3, h4⟩ := edgeC_ok hR hs h c b0 b1
    have hin : inb d.States s.state = true := inb_true c h.st1
    have hcl : inb d.Class b = true := inb_true b0 (by rw [hR.2.2.2.2.2.1.2]; omega)
    have hin2 : inb (gt d.States s.state).Edges (gt d.Class b) = true := inb_true c0 c1
    have hW2 : W (s.work + 1 + ((edgeC d b s).Src.length : Int)) = s.work + 1 + ((edgeC d b s).Src.length : Int) := W_id (by omega) (by omega)
    have he := m_eachC (d := d) (s := ⟨s.tags, s.to, s.at_, s.state, s.work + 1, s.regs⟩) (l := (edgeC d b s).Src) (fuel := fuel) (by omega) hf (fun i hi => (src_read h c h3 hi).elim .inl (fun h => .inr (.inr h)))
    have hgo : goC d b s = ⟨s.tags, s.to, s.at_ + 1, (edgeC d b s).To, s.work + 1 + (edgeC d b s).Src.length, (edgeC d b s).Src.map (valC s.regs s.at_)⟩ := by unfold goC; rw [if_pos c]
    rw [hgo] at hacc ⊢
    have hwy : gt (gt d.States s.state).Edges (gt d.Class b) = edgeC d b s := rfl
    simp only [toC] at he
    simp only [show (toC d s).state = s.state from rfl, show (toC d s).d = d from rfl, show (toC d s).work = s.work from rfl, show (toC d s).last = ⟨s.tags, s.to⟩ from rfl, show (toC d s).at_ = s.at_ from rfl, show (toC d s).regs = s.regs from rfl, c, decide_true, if_true, hin, hcl, hin2, hW1, hwy, he, bind_some', List.length_map, hW2, hW3]
    simp only [toC] at hacc ⊢
    rw [hacc]; rfl
  · have hgo : goC d b s = ⟨s.tags, s.to, s.at_ + 1, s.state, s.work + 1, s.regs⟩ := by unfold goC; rw [if_neg c]
    rw [hgo] at hacc ⊢
    simp only [show (toC d s).state = s.state from rfl, show (toC d s).d = d from rfl, show (toC d s).work = s.work from rfl, show (toC d s).last = ⟨s.tags, s.to⟩ from rfl, show (toC d s).at_ = s.at_ from rfl, show (toC d s).regs = s.regs from rfl, c, decide_false, Bool.false_eq_true, if_false, hW1, bind_some', hW3]
    simp only [toC] at hacc ⊢
    rw [hacc]; rfl
theorem m_foundC {d : MDfa} (hR : RightD d) {n : Nat} {s : CS} (h : CInv d n s) {fuel : Nat} (hf : 2000 < fuel) : m_drive_last_Found fuel (toC d s) = some (if s.tags.length = 0 then ([], false) else (spansL s.tags s.to, true)) := by
  unfold m_drive_last_Found
  have h1 := h.tags
  have h2 := hR.2.1
  by_cases c : s.tags.length = 0
  · have c' : (((toC d s).last.tags.length : Int) == 0) = true := by simpa [toC] using c
    simp only [c', if_true, c]
  · have c' : (((toC d s).last.tags.length : Int) == 0) = false := by simpa [toC] using c
    have hm := m_markSpans (tags := s.tags) (to := s.to) (fuel := fuel) (by omega) hf
    simp only [c', Bool.false_eq_true, if_false, c]
    show (m_mark_Spans fuel s.tags s.to).bind _ = _
    rw [hm]; rfl
theorem m_ownD {d : MDfa} {fuel : Nat} (hs : SmallD d) (hf : 2000 < fuel) : m_drive_own fuel d = some d := by
  obtain ⟨b1, b2, b3⟩ := hs
  have hl2 : ∀ (x4 : MDfa) (i : Nat), i < d.States.length → iter (m_drive_own_l2 fuel d x4 (i : Int) (⟨(gt d.States (i : Int)).Regs, (gt d.States (i : Int)).Accept, ([] : List MEdge)⟩ : MState)) fuel ((⟨(gt d.States (i : Int)).Regs, (gt d.States (i : Int)).Accept, ([] : List MEdge)⟩ : MState), 0) = some (gt d.States (i : Int)) := by
    intro x4 i hi
    obtain ⟨d1, d2, d3, d4⟩ := b3 i hi
    have h := iter_end (body := m_drive_own_l2 fuel d x4 (i : Int) (⟨(gt d.States (i : Int)).Regs, (gt d.States (i : Int)).Accept, ([] : List MEdge)⟩ : MState)) (fu := fuel) (gt d.States (i : Int)).Edges.length (fun c => ((⟨(gt d.States (i : Int)).Regs, (gt d.States (i : Int)).Accept, (gt d.States (i : Int)).Edges.take c⟩ : MState), (c : Int))) (gt d.States (i : Int)) (fun c hc => by
      have hin : inb (gt d.States (i : Int)).Edges (c : Int) = true := inb_true (by omega) (by omega)
      have hd : (c : Int) < ((gt d.States (i : Int)).Edges.length : Int) := by omega
      have hm : (gt (gt d.States (i : Int)).Edges (c : Int)).Src.length ≤ 400 := d4 c hc
      unfold m_drive_own_l2 m_slices_Clone_int_int
      simp only [hd, decide_true, if_true, hin, W_succ (show c < 9223372036854775807 by omega)]
      rw [if_pos (apOk_true (by simp; omega))]
      simp only [bind_some']
      rw [if_pos (apOk_true (by simp; omega)), take_gt hc]) (by
      unfold m_drive_own_l2
      simp [List.take_length]) (by omega)
    exact h
  unfold m_drive_own
  have hcl : m_slices_Clone_int_int fuel d.Class = some d.Class := by
    unfold m_slices_Clone_int_int; rw [if_pos (apOk_true (by simp; omega))]
  simp only [hcl, bind_some']
  have h := iter_end (body := m_drive_own_l1 fuel (⟨d.Tags, d.Class, ([] : List MState)⟩ : MDfa) d) (fu := fuel) d.States.length (fun i => ((⟨d.Tags, d.Class, d.States.take i⟩ : MDfa), (i : Int))) d (fun i hi => by
    obtain ⟨d1, d2, d3, d4⟩ := b3 i hi
    have hin : inb d.States (i : Int) = true := inb_true (by omega) (by omega)
    have hd : (i : Int) < (d.States.length : Int) := by omega
    have hcl : m_slices_Clone_int_int fuel (gt d.States (i : Int)).Accept = some (gt d.States (i : Int)).Accept := by
      unfold m_slices_Clone_int_int; rw [if_pos (apOk_true (by simp; omega))]
    unfold m_drive_own_l1
    simp only [hd, decide_true, if_true, hin, hcl, bind_some', hl2 _ i hi, W_succ (show i < 9223372036854775807 by omega)]
    rw [if_pos (apOk_true (by simp; omega)), take_gt hi]) (by unfold m_drive_own_l1; simp [List.take_length]) (by omega)
  have h0 : iter (m_drive_own_l1 fuel (⟨d.Tags, d.Class, ([] : List MState)⟩ : MDfa) d) fuel ((⟨d.Tags, d.Class, ([] : List MState)⟩ : MDfa), 0) = some d := h
  rw [h0]; rfl
theorem m_newC {d : MDfa} (hR : RightD d) (hs : SmallD d) {fuel : Nat} (hf : 2000 < fuel) : m_drive_New fuel d = some (some (toC d (beginC d)), 0) := by
  have hacc := m_acceptC hR hs (begin0_inv hR) hf
  unfold m_drive_New
  simp only [m_right24 hs (show 1000 < fuel by omega), hR, decide_true, Bool.not_true, Bool.false_eq_true, if_false, bind_some', m_ownD hs hf]
  simp only [toC] at hacc ⊢
  rw [hacc]; rfl
end Go.Proofs.YtjkoiijpmiibpaaGreat
