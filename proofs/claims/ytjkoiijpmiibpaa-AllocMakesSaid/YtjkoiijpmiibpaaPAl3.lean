/- Machines: what is one, by the document. Its conditions: none. -/
import Derived.Test.YtjkoiijpmiibpaaPAl2
set_option autoImplicit false
namespace Go.Proofs.Ytjkoiijpmiibpaa
open Go.V Go.RowKit

open Classical in
theorem m_entry {n regs : Int} {fuel : Nat} : m_ref24_entry fuel n regs false = some (decide (fromP n regs)) := by
  unfold m_ref24_entry fromP
  by_cases c : n ≥ 0
  · by_cases c1 : n < regs
    · simp [c, c1]
    · simp [c, c1, show ¬ n = -1 by omega]
  · by_cases c1 : n = -1
    · simp [c1]
    · simp [c, c1, show ¬ 0 ≤ n by omega]
open Classical in
theorem m_entryN {n regs : Int} {fuel : Nat} : m_ref24_entry fuel n regs true = some (decide (n = -2 ∨ fromP n regs)) := by
  unfold m_ref24_entry fromP
  by_cases c : n ≥ 0
  · by_cases c1 : n < regs
    · simp [c, c1]
    · simp [c, c1, show ¬ n = -1 by omega, show ¬ n = -2 by omega]
  · by_cases c1 : n = -1
    · simp [c1]
    · by_cases c2 : n = -2
      · simp [c2]
      · simp [c, c1, c2, show ¬ 0 ≤ n by omega]
def FromAt (x : MEdge) (regs : Int) (i : Nat) : Prop := fromP (gt x.Src (i : Int)) regs
def AccAt (s : MState) (t : Nat) : Prop := gt s.Accept (t : Int) = -2 ∨ fromP (gt s.Accept (t : Int)) s.Regs
open Classical in
theorem m_edge24 {d : MDfa} {x : MEdge} {regs : Int} {fuel : Nat} (hl : x.Src.length ≤ 1000) (hf : 1000 < fuel) : m_ref24_edge fuel d x regs = some (decide (EdgeOk d x regs)) := by
  have hc := iter_chk (fu := fuel) (body := m_ref24_edge_l1 fuel regs x) x.Src.length (FromAt x regs) (fun i hi => by
    have hin : inb x.Src (i : Int) = true := inb_true (by omega) (by omega)
    have hd : (i : Int) < (x.Src.length : Int) := by omega
    unfold m_ref24_edge_l1
    simp only [hd, decide_true, if_true, hin, m_entry, bind_some', W_succ (show i < 9223372036854775807 by omega)]
    by_cases h : FromAt x regs i
    · rw [if_pos h, decide_eq_true (show fromP (gt x.Src (i : Int)) regs from h)]; rfl
    · rw [if_neg h, decide_eq_false (show ¬ fromP (gt x.Src (i : Int)) regs from h)]; rfl) (by unfold m_ref24_edge_l1; simp) (by omega)
  unfold m_ref24_edge
  by_cases c : x.To = -1
  · by_cases c2 : x.Src.length = 0 <;> simp [EdgeOk, c, c2]
  · have c' : (x.To == -1) = false := by simpa using c
    simp only [c', Bool.false_eq_true, if_false]
    by_cases c1 : x.To < 0
    · rw [decide_eq_false (show ¬ EdgeOk d x regs by unfold EdgeOk; rw [if_neg c]; exact fun h => by have := h.1; omega)]
      simp only [c1, decide_true, bind_some', if_true]
    · by_cases c2 : x.To ≥ d.States.length
      · rw [decide_eq_false (show ¬ EdgeOk d x regs by unfold EdgeOk; rw [if_neg c]; exact fun h => by have := h.2.1; omega)]
        simp only [c1, c2, decide_true, decide_false, bind_some', if_true, Bool.false_eq_true, if_false]
      · have hin : inb d.States x.To = true := inb_true (by omega) (by omega)
        by_cases c3 : (x.Src.length : Int) = (gt d.States x.To).Regs
        · have c3' : ((x.Src.length : Int) != (gt d.States x.To).Regs) = false := by simpa using c3
          simp only [c1, c2, c3', hin, decide_false, if_true, bind_some', Bool.false_eq_true, if_false, hc]
          by_cases c4 : ∀ i, i < x.Src.length → FromAt x regs i
          · rw [if_pos c4, decide_eq_true (show EdgeOk d x regs by unfold EdgeOk; rw [if_neg c]; exact ⟨by omega, by omega, c3, c4⟩)]
          · rw [if_neg c4, decide_eq_false (show ¬ EdgeOk d x regs by unfold EdgeOk; rw [if_neg c]; exact fun h => c4 h.2.2.2)]
        · have c3' : ((x.Src.length : Int) != (gt d.States x.To).Regs) = true := by simpa using c3
          rw [decide_eq_false (show ¬ EdgeOk d x regs by unfold EdgeOk; rw [if_neg c]; exact fun h => c3 h.2.2.1)]
          simp only [c1, c2, c3', hin, decide_false, if_true, bind_some', Bool.false_eq_true, if_false]
open Classical in
theorem m_refRight24 {d : MDfa} {fuel : Nat} (hs : SmallD d) (hf : 1000 < fuel) : m_ref24_Right fuel d = some (decide (RightD d)) := by
  obtain ⟨hs1, hs2, hs3⟩ := hs
  have hl2 : ∀ i, i < d.States.length → iter (m_ref24_Right_l2 fuel d (leastC d.Class) (i : Int)) fuel 0 = some (if ∀ t, t < (gt d.States (i : Int)).Accept.length → AccAt (gt d.States (i : Int)) t then .inl () else .inr false) := by
    intro i hi
    have hsm := hs3 i hi
    have hb := hsm.1
    refine iter_chk (fu := fuel) (body := m_ref24_Right_l2 fuel d (leastC d.Class) (i : Int)) (gt d.States (i : Int)).Accept.length _ (fun t ht => ?_) (by unfold m_ref24_Right_l2; simp) (by omega)
    have hin : inb (gt d.States (i : Int)).Accept (t : Int) = true := inb_true (by omega) (by omega)
    have hd : (t : Int) < ((gt d.States (i : Int)).Accept.length : Int) := by omega
    unfold m_ref24_Right_l2
    simp only [hd, decide_true, if_true, hin, W_succ (show t < 9223372036854775807 by omega), m_entryN, bind_some']
    by_cases h : AccAt (gt d.States (i : Int)) t
    · rw [if_pos h, decide_eq_true (show gt (gt d.States (i : Int)).Accept (t : Int) = -2 ∨ fromP (gt (gt d.States (i : Int)).Accept (t : Int)) (gt d.States (i : Int)).Regs from h)]; rfl
    · rw [if_neg h, decide_eq_false (show ¬ (gt (gt d.States (i : Int)).Accept (t : Int) = -2 ∨ fromP (gt (gt d.States (i : Int)).Accept (t : Int)) (gt d.States (i : Int)).Regs) from h)]; rfl
  have hl3 : ∀ i, i < d.States.length → (gt d.States (i : Int)).Edges.length = (leastC d.Class).length → iter (m_ref24_Right_l3 fuel d (leastC d.Class) (i : Int)) fuel 0 = some (if ∀ c, c < (gt d.States (i : Int)).Edges.length → EdgeOk d (gt (gt d.States (i : Int)).Edges (c : Int)) (gt d.States (i : Int)).Regs then .inl () else .inr false) := by
    intro i hi he
    have hsm := hs3 i hi
    have hb := hsm.2.1
    rw [he]
    refine iter_chk (fu := fuel) (body := m_ref24_Right_l3 fuel d (leastC d.Class) (i : Int)) (leastC d.Class).length _ (fun c hc => ?_) (by unfold m_ref24_Right_l3; simp) (by omega)
    have hin : inb (gt d.States (i : Int)).Edges (c : Int) = true := inb_true (by omega) (by omega)
    have hd : (c : Int) < ((leastC d.Class).length : Int) := by omega
    have hsrc : (gt (gt d.States (i : Int)).Edges (c : Int)).Src.length ≤ 400 := hsm.2.2.2 c (by omega)
    unfold m_ref24_Right_l3
    simp only [hd, decide_true, if_true, hin, W_succ (show c < 9223372036854775807 by omega), m_edge24 (d := d) (x := gt (gt d.States (i : Int)).Edges (c : Int)) (regs := (gt d.States (i : Int)).Regs) (by omega) hf, bind_some']
    by_cases h : EdgeOk d (gt (gt d.States (i : Int)).Edges (c : Int)) (gt d.States (i : Int)).Regs <;> simp [h]
  have hl1 := iter_chk (body := m_ref24_Right_l1 fuel d (leastC d.Class)) (fu := fuel) d.States.length (fun i => StateOk d (leastC d.Class).length (gt d.States (i : Int))) (fun i hi => by
    have hin : inb d.States (i : Int) = true := inb_true (by omega) (by omega)
    have hd : (i : Int) < (d.States.length : Int) := by omega
    have h2 := hl2 i hi
    have h3 := hl3 i hi
    have hsm := hs3 i hi
    unfold m_ref24_Right_l1
    simp only [hd, decide_true, if_true, hin, W_succ (show i < 9223372036854775807 by omega)]
    generalize gt d.States (i : Int) = s at h2 h3 hsm ⊢
    by_cases d1 : s.Regs < 0
    · simp [d1, StateOk, show ¬ 0 ≤ s.Regs by omega]
    · by_cases d2 : s.Regs > 1216
      · simp [d1, d2, StateOk, show ¬ s.Regs ≤ 1216 by omega]
      · have hcond : ∀ b : Bool, ((s.Edges.length : Int) != ((leastC d.Class).length : Int)) = b → (if ((s.Accept.length : Int) != 0) then (if ((s.Accept.length : Int) != d.Tags) then some true else some ((s.Edges.length : Int) != ((leastC d.Class).length : Int))) else some ((s.Edges.length : Int) != ((leastC d.Class).length : Int)) : Option Bool) = some (!decide ((s.Accept.length = 0 ∨ (s.Accept.length : Int) = d.Tags) ∧ b = false)) := by
          intro b hb
          rw [hb]
          by_cases a1 : s.Accept.length = 0
          · cases b <;> simp [a1]
          · have a1' : ((s.Accept.length : Int) != 0) = true := by rw [bne_iff_ne]; omega
            by_cases a2 : (s.Accept.length : Int) = d.Tags
            · cases b <;> simp [a1, a2]
            · cases b <;> simp [a1, a2]
        by_cases d3 : s.Edges.length = (leastC d.Class).length
        · have d3' : ((s.Edges.length : Int) != ((leastC d.Class).length : Int)) = false := by simp [d3]
          simp only [d1, d2, decide_false, Bool.false_eq_true, if_false, hcond false d3', bind_some', and_true, h2, h3 d3]
          by_cases d4 : s.Accept.length = 0 ∨ (s.Accept.length : Int) = d.Tags
          · simp only [d4, decide_true, Bool.not_true, Bool.false_eq_true, if_false]
            by_cases d5 : ∀ t, t < s.Accept.length → AccAt s t
            · rw [if_pos d5]
              by_cases d6 : ∀ c, c < s.Edges.length → EdgeOk d (gt s.Edges (c : Int)) s.Regs
              · rw [if_pos d6, if_pos (show StateOk d (leastC d.Class).length s from ⟨by omega, by omega, d4, d3, d5, d6⟩)]
              · rw [if_neg d6, if_neg (show ¬ StateOk d (leastC d.Class).length s from fun h => d6 h.2.2.2.2.2)]
            · rw [if_neg d5, if_neg (show ¬ StateOk d (leastC d.Class).length s from fun h => d5 h.2.2.2.2.1)]
          · simp only [d4, decide_false, Bool.not_false, if_true]
            rw [if_neg (show ¬ StateOk d (leastC d.Class).length s from fun h => d4 h.2.2.1)]
        · have d3' : ((s.Edges.length : Int) != ((leastC d.Class).length : Int)) = true := by rw [bne_iff_ne]; omega
          simp only [d1, d2, decide_false, Bool.false_eq_true, if_false, hcond true d3', bind_some']
          rw [if_neg (show ¬ StateOk d (leastC d.Class).length s from fun h => d3 h.2.2.2.1)]
          simp) (by unfold m_ref24_Right_l1; simp) (by omega)
  unfold m_ref24_Right
  by_cases e1 : d.Tags < 1
  · simp [e1, RightD, show ¬ 1 ≤ d.Tags by omega]
  by_cases e2 : d.Tags > 19
  · simp [e1, e2, RightD, show ¬ d.Tags ≤ 19 by omega]
  by_cases e3 : Int.tmod d.Tags 2 = 0
  · simp [e1, e2, e3, RightD]
  have e3' : (Int.tmod d.Tags 2 == 0) = false := by simpa using e3
  by_cases e4 : (d.States.length : Int) < 1
  · simp only [e1, e2, e3', e4, decide_false, decide_true, Bool.false_eq_true, if_false, if_true, bind_some']
    rw [decide_eq_false (show ¬ RightD d from fun h => by have := h.2.2.2.1; omega)]
  have e5 : ¬ (d.States.length : Int) > 400 := by omega
  by_cases e6 : ClsOk d.Class
  · have hin : inb d.States 0 = true := inb_true (by omega) (by omega)
    by_cases e8 : (gt d.States 0).Regs = 0
    · have e8' : ((gt d.States 0).Regs != 0) = false := by simpa using e8
      simp only [e1, e2, e3', e4, e5, decide_false, Bool.false_eq_true, if_false, m_ref13Right (l := d.Class) (by omega) hf, e6, decide_true, Bool.not_true, bind_some', hin, if_true, e8', m_ref13Least (l := d.Class) (by omega) hf, hl1]
      by_cases e7 : ∀ i, i < d.States.length → StateOk d (leastC d.Class).length (gt d.States (i : Int))
      · rw [if_pos e7, decide_eq_true (show RightD d from ⟨by omega, by omega, e3, by omega, by omega, e6, e8, e7⟩)]
      · rw [if_neg e7, decide_eq_false (show ¬ RightD d from fun h => e7 h.2.2.2.2.2.2.2)]
    · have e8' : ((gt d.States 0).Regs != 0) = true := by simpa using e8
      simp only [e1, e2, e3', e4, e5, decide_false, Bool.false_eq_true, if_false, m_ref13Right (l := d.Class) (by omega) hf, e6, decide_true, Bool.not_true, bind_some', hin, if_true, e8']
      rw [decide_eq_false (show ¬ RightD d from fun h => e8 h.2.2.2.2.2.2.1)]
  · simp only [e1, e2, e3', e4, e5, decide_false, Bool.false_eq_true, if_false, m_ref13Right (l := d.Class) (by omega) hf, e6, Bool.not_false, bind_some', if_true]
    rw [decide_eq_false (show ¬ RightD d from fun h => e6 h.2.2.2.2.2.1)]
end Go.Proofs.Ytjkoiijpmiibpaa
