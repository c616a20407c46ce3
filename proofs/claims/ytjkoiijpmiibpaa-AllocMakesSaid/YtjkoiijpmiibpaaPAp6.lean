/- Is a program of moves right: the document's word. Its conditions: none. -/
import Derived.Test.YtjkoiijpmiibpaaPAp1
set_option autoImplicit false
namespace Go.Proofs.Ytjkoiijpmiibpaa
open Go.V Go.RowKit

open Classical in
theorem m_wayR {p : MProg} {x : MWay} {fuel : Nat} (hR0 : 0 ≤ p.Regs) (hR : p.Regs ≤ 1217) (hl : x.Moves.length ≤ 1300) (hf : 2000 < fuel) : m_ref28_way fuel p x = some (decide (WayOk p x)) := by
  have hW : W (2 * p.Regs) = 2 * p.Regs := W_id (by omega) (by omega)
  have hc := iter_chk (fu := fuel) (body := m_ref28_way_l1 fuel p x) x.Moves.length (MovAt p.Regs x.Moves) (fun i hi => by
    have hin : inb x.Moves (i : Int) = true := inb_true (by omega) (by omega)
    have hd : (i : Int) < (x.Moves.length : Int) := by omega
    unfold m_ref28_way_l1 MovAt
    simp only [hd, decide_true, if_true, hin, W_succ (show i < 9223372036854775807 by omega)]
    generalize gt x.Moves (i : Int) = m
    unfold MoveOk
    by_cases c1 : m.To < 0
    · simp [c1, show ¬ 0 ≤ m.To by omega]
    by_cases c2 : m.To ≥ p.Regs
    · simp [c1, c2, show ¬ m.To < p.Regs by omega]
    by_cases c3 : m.From < -1
    · simp [c1, c2, c3, show ¬ -1 ≤ m.From by omega]
    by_cases c4 : m.From ≥ p.Regs
    · simp [c1, c2, c3, c4, show ¬ m.From < p.Regs by omega]
    by_cases c5 : m.From = m.To
    · simp [c1, c2, c3, c4, c5]
    · simp [c1, c2, c3, c4, c5, show 0 ≤ m.To by omega, show m.To < p.Regs by omega, show -1 ≤ m.From by omega, show m.From < p.Regs by omega]) (by unfold m_ref28_way_l1; simp) (by omega)
  unfold m_ref28_way
  by_cases c1 : x.To < -1
  · simp [c1, WayOk, show ¬ -1 ≤ x.To by omega]
  by_cases c2 : x.To ≥ (p.Stands.length : Int)
  · simp [c1, c2, WayOk, show ¬ x.To < (p.Stands.length : Int) by omega]
  by_cases c3 : x.To = -1 ∧ 0 < x.Moves.length
  · have hn : ¬ WayOk p x := fun h => by have := h.2.2.1 c3.1; omega
    have c4 : (x.Moves.length : Int) > 0 := by omega
    have c5 : (x.To == -1) = true := by simp [c3.1]
    rw [decide_eq_false hn]
    simp only [c1, c2, c4, c5, decide_false, decide_true, Bool.false_eq_true, if_false, if_true, bind_some']
  have c3' : (if (x.To == -1) = true then (if decide ((x.Moves.length : Int) > 0) = true then some true else some (decide ((x.Moves.length : Int) > W (2 * p.Regs)))) else some (decide ((x.Moves.length : Int) > W (2 * p.Regs))) : Option Bool) = some (decide ((x.Moves.length : Int) > 2 * p.Regs)) := by
    rw [hW]
    by_cases e : x.To = -1
    · have : ¬ (x.Moves.length : Int) > 0 := fun h => c3 ⟨e, by omega⟩
      have c5 : (x.To == -1) = true := by simp [e]
      simp only [c5, this, decide_false, Bool.false_eq_true, if_false, if_true]
    · have c5 : (x.To == -1) = false := by simp [e]
      simp only [c5, Bool.false_eq_true, if_false]
  simp only [c1, c2, decide_false, Bool.false_eq_true, if_false, c3', bind_some', hc]
  by_cases c5 : (x.Moves.length : Int) > 2 * p.Regs
  · rw [decide_eq_false (show ¬ WayOk p x from fun h => by have := h.2.2.2.1; omega)]; simp [c5]
  · simp only [c5, decide_false, Bool.false_eq_true, if_false]
    by_cases c6 : ∀ i, i < x.Moves.length → MovAt p.Regs x.Moves i
    · rw [if_pos c6, decide_eq_true (show WayOk p x from ⟨by omega, by omega, fun e => by have := fun h => c3 ⟨e, h⟩; omega, by omega, c6⟩)]
    · rw [if_neg c6, decide_eq_false (show ¬ WayOk p x from fun h => c6 h.2.2.2.2)]
open Classical in
theorem m_rightQ {p : MProg} {fuel : Nat} (hs : SizeP p) (hf : 2000 < fuel) : m_ref28_Right fuel p = some (decide (RightP p)) := by
  obtain ⟨hs1, hs2, hs3⟩ := hs
  have hl1 : 0 ≤ p.Regs → p.Regs ≤ 1217 → iter (m_ref28_Right_l1 fuel p (leastC p.Class)) fuel 0 = some (if ∀ i, i < p.Stands.length → StandOk p (leastC p.Class).length (gt p.Stands (i : Int)) then .inl () else .inr false) := fun hR0 hR => iter_chk (body := m_ref28_Right_l1 fuel p (leastC p.Class)) (fu := fuel) p.Stands.length (fun i => StandOk p (leastC p.Class).length (gt p.Stands (i : Int))) (fun i hi => by
    have hin : inb p.Stands (i : Int) = true := inb_true (by omega) (by omega)
    have hd : (i : Int) < (p.Stands.length : Int) := by omega
    obtain ⟨b1, b2, b3⟩ := hs3 i hi
    have h2 := iter_chk (fu := fuel) (body := m_ref28_Right_l2 fuel p (leastC p.Class) (i : Int)) (gt p.Stands (i : Int)).Accept.length (AccI p.Regs (gt p.Stands (i : Int)).Accept) (fun t ht => by
      have hin : inb (gt p.Stands (i : Int)).Accept (t : Int) = true := inb_true (by omega) (by omega)
      have hd : (t : Int) < ((gt p.Stands (i : Int)).Accept.length : Int) := by omega
      unfold m_ref28_Right_l2 AccI
      simp only [hd, decide_true, if_true, hin, W_succ (show t < 9223372036854775807 by omega)]
      by_cases c : gt (gt p.Stands (i : Int)).Accept (t : Int) < -2
      · simp [c, show ¬ -2 ≤ gt (gt p.Stands (i : Int)).Accept (t : Int) by omega]
      · by_cases c2 : gt (gt p.Stands (i : Int)).Accept (t : Int) ≥ p.Regs
        · simp [c, c2, show ¬ gt (gt p.Stands (i : Int)).Accept (t : Int) < p.Regs by omega]
        · simp [c, c2, show -2 ≤ gt (gt p.Stands (i : Int)).Accept (t : Int) by omega, show gt (gt p.Stands (i : Int)).Accept (t : Int) < p.Regs by omega]) (by unfold m_ref28_Right_l2; simp) (by omega)
    have h3 : (gt p.Stands (i : Int)).Ways.length = (leastC p.Class).length → iter (m_ref28_Right_l3 fuel p (leastC p.Class) (i : Int)) fuel 0 = _ := fun hw => iter_chk (fu := fuel) (body := m_ref28_Right_l3 fuel p (leastC p.Class) (i : Int)) (leastC p.Class).length (WayAt p (gt p.Stands (i : Int))) (fun c hc => by
      have hin : inb (gt p.Stands (i : Int)).Ways (c : Int) = true := inb_true (by omega) (by omega)
      have hd : (c : Int) < ((leastC p.Class).length : Int) := by omega
      unfold m_ref28_Right_l3
      simp only [hd, decide_true, if_true, hin, m_wayR (x := gt (gt p.Stands (i : Int)).Ways (c : Int)) hR0 hR (b3 c (by omega)) hf, bind_some', W_succ (show c < 9223372036854775807 by omega)]
      unfold WayAt
      by_cases h : WayOk p (gt (gt p.Stands (i : Int)).Ways (c : Int)) <;> simp [h]) (by unfold m_ref28_Right_l3; simp) (by omega)
    unfold m_ref28_Right_l1
    simp only [hd, decide_true, if_true, hin, W_succ (show i < 9223372036854775807 by omega)]
    generalize gt p.Stands (i : Int) = s at h2 h3 b1 b2 b3 ⊢
    have hcond : (if ((s.Accept.length : Int) != 0) = true then (if ((s.Accept.length : Int) != p.Tags) = true then some true else some ((s.Ways.length : Int) != ((leastC p.Class).length : Int))) else some ((s.Ways.length : Int) != ((leastC p.Class).length : Int)) : Option Bool) = some (!decide ((s.Accept.length = 0 ∨ (s.Accept.length : Int) = p.Tags) ∧ s.Ways.length = (leastC p.Class).length)) := by
      have a3' : ((s.Ways.length : Int) != ((leastC p.Class).length : Int)) = !decide (s.Ways.length = (leastC p.Class).length) := by
        by_cases a3 : s.Ways.length = (leastC p.Class).length
        · simp [a3]
        · rw [decide_eq_false a3, Bool.not_false, bne_iff_ne]; omega
      rw [a3']
      by_cases a1 : s.Accept.length = 0
      · simp [a1]
      · have a1' : ((s.Accept.length : Int) != 0) = true := by rw [bne_iff_ne]; omega
        by_cases a2 : (s.Accept.length : Int) = p.Tags
        · have a2' : ((s.Accept.length : Int) != p.Tags) = false := by simp [a2]
          have e2 : ((s.Accept.length = 0 ∨ (s.Accept.length : Int) = p.Tags) ∧ s.Ways.length = (leastC p.Class).length) ↔ s.Ways.length = (leastC p.Class).length := ⟨fun h => h.2, fun h => ⟨.inr a2, h⟩⟩
          simp only [a1', a2', if_true, Bool.false_eq_true, if_false]
          by_cases a3 : s.Ways.length = (leastC p.Class).length
          · rw [decide_eq_true a3, decide_eq_true (e2.2 a3)]
          · rw [decide_eq_false a3, decide_eq_false (fun h => a3 (e2.1 h))]
        · have a2' : ((s.Accept.length : Int) != p.Tags) = true := by rw [bne_iff_ne]; exact a2
          rw [decide_eq_false (show ¬ (_ ∧ _) from fun h => h.1.elim a1 a2)]
          simp only [a1', a2', if_true, Bool.not_false]
    rw [hcond]
    by_cases d4 : (s.Accept.length = 0 ∨ (s.Accept.length : Int) = p.Tags) ∧ s.Ways.length = (leastC p.Class).length
    · simp only [decide_eq_true d4, bind_some', Bool.not_true, Bool.false_eq_true, if_false, h2, h3 d4.2]
      by_cases d6 : ∀ t, t < s.Accept.length → AccI p.Regs s.Accept t
      · rw [if_pos d6]
        by_cases d5 : ∀ c, c < (leastC p.Class).length → WayAt p s c
        · rw [if_pos d5, if_pos (show StandOk p (leastC p.Class).length s from ⟨d4.1, d6, d4.2, by rw [d4.2]; exact d5⟩)]
        · rw [if_neg d5, if_neg (show ¬ StandOk p (leastC p.Class).length s from fun h => d5 (by have := h.2.2.2; rw [d4.2] at this; exact this))]
      · rw [if_neg d6, if_neg (show ¬ StandOk p (leastC p.Class).length s from fun h => d6 h.2.1)]
    · rw [if_neg (show ¬ StandOk p (leastC p.Class).length s from fun h => d4 ⟨h.1, h.2.2.1⟩), decide_eq_false d4]; rfl) (by unfold m_ref28_Right_l1; simp) (by omega)
  unfold m_ref28_Right
  by_cases e1 : p.Tags < 1
  · simp [e1, RightP, show ¬ 1 ≤ p.Tags by omega]
  by_cases e2 : p.Tags > 19
  · simp [e1, e2, RightP, show ¬ p.Tags ≤ 19 by omega]
  by_cases e3 : Int.tmod p.Tags 2 = 0
  · simp [e1, e2, e3, RightP]
  have e3' : (Int.tmod p.Tags 2 == 0) = false := by simpa using e3
  by_cases r1 : p.Regs < 1
  · simp [e1, e2, e3, r1, RightP, show ¬ 1 ≤ p.Regs by omega]
  by_cases r2 : p.Regs > 1217
  · simp [e1, e2, e3, r1, r2, RightP, show ¬ p.Regs ≤ 1217 by omega]
  by_cases e4 : (p.Stands.length : Int) < 1
  · simp only [e1, e2, e3', r1, r2, e4, decide_false, decide_true, Bool.false_eq_true, if_false, if_true, bind_some']
    rw [decide_eq_false (show ¬ RightP p from fun h => by have := h.2.2.2.2.2.1; omega)]
  have e5 : ¬ (p.Stands.length : Int) > 400 := by omega
  by_cases e6 : ClsOk p.Class
  · simp only [e1, e2, e3', r1, r2, e4, e5, decide_false, Bool.false_eq_true, if_false, m_ref13Right (l := p.Class) (by omega) (show 1000 < fuel by omega), e6, decide_true, Bool.not_true, bind_some', m_ref13Least (l := p.Class) (by omega) (show 1000 < fuel by omega), hl1 (by omega) (by omega)]
    by_cases e7 : ∀ i, i < p.Stands.length → StandOk p (leastC p.Class).length (gt p.Stands (i : Int))
    · rw [if_pos e7, decide_eq_true (show RightP p from ⟨by omega, by omega, e3, by omega, by omega, by omega, by omega, e6, e7⟩)]
    · rw [if_neg e7, decide_eq_false (show ¬ RightP p from fun h => e7 h.2.2.2.2.2.2.2.2)]
  · simp only [e1, e2, e3', r1, r2, e4, e5, decide_false, Bool.false_eq_true, if_false, m_ref13Right (l := p.Class) (by omega) (show 1000 < fuel by omega), e6, Bool.not_false, bind_some', if_true]
    rw [decide_eq_false (show ¬ RightP p from fun h => e6 h.2.2.2.2.2.2.2.1)]

end Go.Proofs.Ytjkoiijpmiibpaa
