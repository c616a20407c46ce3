/- Machines: what is one (all of it). Its conditions: none. -/
import Derived.Test.YtjkoiijpmiibpaaPAl1
set_option autoImplicit false
namespace Go.Proofs.Ytjkoiijpmiibpaa
open Go.V Go.RowKit

def fromP (n regs : Int) : Prop := n = -1 ∨ (0 ≤ n ∧ n < regs)
def EdgeOk (d : MDfa) (x : MEdge) (regs : Int) : Prop := if x.To = -1 then x.Src.length = 0 else (0 ≤ x.To ∧ x.To < d.States.length ∧ (x.Src.length : Int) = (gt d.States x.To).Regs ∧ ∀ i, i < x.Src.length → fromP (gt x.Src (i : Int)) regs)
def AccOk (l : List Int) (regs : Int) : Prop := ∀ i, i < l.length → gt l (i : Int) = -2 ∨ fromP (gt l (i : Int)) regs
def StateOk (d : MDfa) (cl : Nat) (s : MState) : Prop := 0 ≤ s.Regs ∧ s.Regs ≤ 1216 ∧ (s.Accept.length = 0 ∨ (s.Accept.length : Int) = d.Tags) ∧ s.Edges.length = cl ∧ AccOk s.Accept s.Regs ∧ ∀ c, c < s.Edges.length → EdgeOk d (gt s.Edges (c : Int)) s.Regs
def RightD (d : MDfa) : Prop := 1 ≤ d.Tags ∧ d.Tags ≤ 19 ∧ Int.tmod d.Tags 2 ≠ 0 ∧ 1 ≤ d.States.length ∧ d.States.length ≤ 400 ∧ ClsOk d.Class ∧ (gt d.States 0).Regs = 0 ∧ ∀ i, i < d.States.length → StateOk d (leastC d.Class).length (gt d.States (i : Int))
def SrcOk (s : MState) (c : Nat) : Prop := (gt s.Edges (c : Int)).Src.length ≤ 400
def SmallS (s : MState) : Prop := s.Accept.length ≤ 40 ∧ s.Edges.length ≤ 300 ∧ s.Regs ≤ 400 ∧ ∀ c, c < s.Edges.length → SrcOk s c
def SmallD (d : MDfa) : Prop := d.States.length ≤ 60 ∧ d.Class.length ≤ 300 ∧ ∀ i, i < d.States.length → SmallS (gt d.States (i : Int))
open Classical in
theorem m_small24 {d : MDfa} {fuel : Nat} (hf : 1000 < fuel) : m_law24_Small fuel d = some (decide (SmallD d)) := by
  have h2 : ∀ i, i < d.States.length → (gt d.States (i : Int)).Edges.length ≤ 300 → iter (m_law24_Small_l2 fuel d (i : Int)) fuel 0 = some (if ∀ c, c < (gt d.States (i : Int)).Edges.length → SrcOk (gt d.States (i : Int)) c then .inl () else .inr false) := by
    intro i hi he
    refine iter_chk (fu := fuel) (body := m_law24_Small_l2 fuel d (i : Int)) (gt d.States (i : Int)).Edges.length _ (fun c hc => ?_) (by unfold m_law24_Small_l2; simp) (by omega)
    have hin : inb (gt d.States (i : Int)).Edges (c : Int) = true := inb_true (by omega) (by omega)
    have hd : (c : Int) < ((gt d.States (i : Int)).Edges.length : Int) := by omega
    unfold m_law24_Small_l2
    simp only [hd, decide_true, if_true, hin, W_succ (show c < 9223372036854775807 by omega)]
    by_cases h : SrcOk (gt d.States (i : Int)) c
    · rw [if_pos h]; unfold SrcOk at h; simp; omega
    · rw [if_neg h]; unfold SrcOk at h; simp; omega
  unfold m_law24_Small
  by_cases c1 : (d.States.length : Int) > 60
  · simp [c1, SmallD, show ¬ d.States.length ≤ 60 by omega]
  · by_cases c2 : (d.Class.length : Int) > 300
    · simp [c1, c2, SmallD, show ¬ d.Class.length ≤ 300 by omega]
    · simp only [c1, c2, decide_false, Bool.false_eq_true, if_false, bind_some']
      rw [iter_chk (body := m_law24_Small_l1 fuel d) d.States.length (fun i => SmallS (gt d.States (i : Int))) (fun i hi => by
        have hin : inb d.States (i : Int) = true := inb_true (by omega) (by omega)
        have hd : (i : Int) < (d.States.length : Int) := by omega
        have h3 := h2 i hi
        unfold m_law24_Small_l1
        simp only [hd, decide_true, if_true, hin, W_succ (show i < 9223372036854775807 by omega)]
        generalize gt d.States (i : Int) = s at h3 ⊢
        by_cases d1 : (s.Accept.length : Int) > 40
        · simp [d1, SmallS, show ¬ s.Accept.length ≤ 40 by omega]
        · by_cases d2 : (s.Edges.length : Int) > 300
          · simp [d1, d2, SmallS, show ¬ s.Edges.length ≤ 300 by omega]
          · by_cases d3 : s.Regs > 400
            · simp [d1, d2, d3, SmallS, show ¬ s.Regs ≤ 400 by omega]
            · simp only [d1, d2, d3, decide_false, Bool.false_eq_true, if_false, bind_some', h3 (by omega)]
              by_cases d4 : ∀ c, c < s.Edges.length → SrcOk s c
              · rw [if_pos d4, if_pos (show SmallS s from ⟨by omega, by omega, by omega, d4⟩)]
              · rw [if_neg d4, if_neg (show ¬ SmallS s from fun h => d4 h.2.2.2)]) (by unfold m_law24_Small_l1; simp) (by omega)]
      by_cases c3 : ∀ i, i < d.States.length → SmallS (gt d.States (i : Int))
      · rw [if_pos c3, decide_eq_true (show SmallD d from ⟨by omega, by omega, c3⟩)]; rfl
      · rw [if_neg c3, decide_eq_false (show ¬ SmallD d from fun h => c3 h.2.2)]; rfl

/-! The program's reading. -/
open Classical in
theorem m_from24 {n regs : Int} {fuel : Nat} : m_subset_from fuel n regs = some (decide (fromP n regs)) := by
  unfold m_subset_from fromP
  by_cases c : n = -1
  · simp [c]
  · by_cases c1 : n ≥ 0
    · simp [c, c1]
    · simp [c, c1, show ¬ 0 ≤ n by omega]
theorem idx_has {body : Int → Option (Ctl Int (Unit ⊕ Int))} (n : Nat) (p : Nat → Prop) (hs : ∀ i : Nat, i < n → (p i → body (i : Int) = some (.done (.inr (i : Int)))) ∧ (¬ p i → body (i : Int) = some (.next ((i + 1 : Nat) : Int)))) (he : body (n : Int) = some (.done (.inl ()))) {fu : Nat} (h : n < fu) :
    ((∃ i, i < n ∧ p i) ∧ ∃ i : Nat, iter body fu 0 = some (.inr (i : Int))) ∨ ((∀ i, i < n → ¬ p i) ∧ iter body fu 0 = some (.inl ())) := by
  rcases first_bad p n with h1 | ⟨i, h1, h2, h3⟩
  · exact .inr ⟨h1, iter_endI n _ (fun i hi => (hs i hi).2 (h1 i hi)) he h⟩
  · exact .inl ⟨⟨i, h1, h2⟩, i, iter_endI i _ (fun j hj => (hs j (by omega)).2 (h3 j hj)) ((hs i h1).1 h2) (by omega)⟩
open Classical in
theorem m_accepts {s : MState} {tags : Int} {fuel : Nat} (hl : s.Accept.length ≤ 1000) (hf : 1000 < fuel) : m_subset_accepts fuel s tags = some (decide ((s.Accept.length = 0 ∨ (s.Accept.length : Int) = tags) ∧ AccOk s.Accept s.Regs)) := by
  have h1 : ∀ n, m_subset_accepts_1 fuel n s = some (decide (¬ (n = -2 ∨ fromP n s.Regs))) := by
    intro n
    unfold m_subset_accepts_1
    by_cases c : n = -2
    · simp [c]
    · simp [c, m_from24]
  have hc : m_slices_ContainsFunc_int_int_subset_accepts_1 fuel s.Accept s = some (decide (¬ AccOk s.Accept s.Regs)) := by
    unfold m_slices_ContainsFunc_int_int_subset_accepts_1 m_slices_IndexFunc_int_int_subset_accepts_1
    rcases idx_has (body := m_slices_IndexFunc_int_int_subset_accepts_1_l1 fuel s.Accept s) (fu := fuel) s.Accept.length (fun i => ¬ (gt s.Accept (i : Int) = -2 ∨ fromP (gt s.Accept (i : Int)) s.Regs)) (fun i hi => by
      have hin : inb s.Accept (i : Int) = true := inb_true (by omega) (by omega)
      have hd : (i : Int) < (s.Accept.length : Int) := by omega
      unfold m_slices_IndexFunc_int_int_subset_accepts_1_l1
      simp only [hd, decide_true, if_true, hin, h1, bind_some', W_succ (show i < 9223372036854775807 by omega)]
      exact ⟨fun h => by simp [h], fun h => by simp [Classical.not_not.1 h]⟩) (by unfold m_slices_IndexFunc_int_int_subset_accepts_1_l1; simp) (by omega) with ⟨⟨i, h2, h3⟩, j, h4⟩ | ⟨h2, h3⟩
    · rw [h4, decide_eq_true (show ¬ AccOk s.Accept s.Regs from fun h => h3 (h i h2))]; simp
    · rw [h3, decide_eq_false (show ¬ ¬ AccOk s.Accept s.Regs from fun h => h (fun i hi => Classical.not_not.1 (h2 i hi)))]; simp
  unfold m_subset_accepts
  by_cases c : s.Accept.length = 0
  · have : AccOk s.Accept s.Regs := fun i hi => by omega
    simp [c, this]
  · by_cases c2 : (s.Accept.length : Int) = tags
    · have c' : ((s.Accept.length : Int) == 0) = false := by rw [beq_eq_false_iff_ne]; omega
      have c2' : ((s.Accept.length : Int) == tags) = true := by simpa using c2
      simp only [c', c2', hc, Bool.false_eq_true, if_false, if_true, bind_some']
      by_cases c3 : AccOk s.Accept s.Regs <;> simp [c3, c2]
    · have c' : ((s.Accept.length : Int) == 0) = false := by rw [beq_eq_false_iff_ne]; omega
      have c2' : ((s.Accept.length : Int) == tags) = false := by simpa using c2
      simp only [c', c2', Bool.false_eq_true, if_false, bind_some']
      rw [decide_eq_false (fun h => h.1.elim c c2)]
open Classical in
theorem m_leads {d : MDfa} {s : MState} {x : MEdge} {fuel : Nat} (hl : x.Src.length ≤ 1000) (hf : 1000 < fuel) : m_subset_leads fuel d s x = some (decide (EdgeOk d x s.Regs)) := by
  have hc : m_slices_ContainsFunc_int_int_subset_leads_1 fuel x.Src s = some (decide (¬ ∀ i, i < x.Src.length → fromP (gt x.Src (i : Int)) s.Regs)) := by
    unfold m_slices_ContainsFunc_int_int_subset_leads_1 m_slices_IndexFunc_int_int_subset_leads_1
    rcases idx_has (body := m_slices_IndexFunc_int_int_subset_leads_1_l1 fuel x.Src s) (fu := fuel) x.Src.length (fun i => ¬ fromP (gt x.Src (i : Int)) s.Regs) (fun i hi => by
      have hin : inb x.Src (i : Int) = true := inb_true (by omega) (by omega)
      have hd : (i : Int) < (x.Src.length : Int) := by omega
      unfold m_slices_IndexFunc_int_int_subset_leads_1_l1 m_subset_leads_1
      simp only [hd, decide_true, if_true, hin, m_from24, bind_some', W_succ (show i < 9223372036854775807 by omega)]
      exact ⟨fun h => by simp [h], fun h => by simp [Classical.not_not.1 h]⟩) (by unfold m_slices_IndexFunc_int_int_subset_leads_1_l1; simp) (by omega) with ⟨⟨i, h2, h3⟩, j, h4⟩ | ⟨h2, h3⟩
    · rw [h4, decide_eq_true (show ¬ ∀ i, i < x.Src.length → fromP (gt x.Src (i : Int)) s.Regs from fun h => h3 (h i h2))]; simp
    · rw [h3, decide_eq_false (show ¬ ¬ ∀ i, i < x.Src.length → fromP (gt x.Src (i : Int)) s.Regs from fun h => h (fun i hi => Classical.not_not.1 (h2 i hi)))]; simp
  unfold m_subset_leads
  by_cases c : x.To = -1
  · by_cases c2 : x.Src.length = 0 <;> simp [EdgeOk, c, c2]
  · have c' : (x.To == -1) = false := by simpa using c
    simp only [c', Bool.false_eq_true, if_false]
    by_cases c1 : x.To ≥ 0
    · by_cases c2 : x.To < d.States.length
      · have hin : inb d.States x.To = true := inb_true c1 c2
        by_cases c3 : (x.Src.length : Int) = (gt d.States x.To).Regs
        · have c3' : ((x.Src.length : Int) == (gt d.States x.To).Regs) = true := by simpa using c3
          by_cases c4 : ∀ i, i < x.Src.length → fromP (gt x.Src (i : Int)) s.Regs
          · rw [decide_eq_false (fun h => h c4)] at hc
            rw [decide_eq_true (show EdgeOk d x s.Regs by unfold EdgeOk; rw [if_neg c]; exact ⟨c1, c2, c3, c4⟩)]
            simp only [c1, c2, c3', hin, hc, decide_true, if_true, bind_some', Bool.not_false]
          · rw [decide_eq_true c4] at hc
            rw [decide_eq_false (show ¬ EdgeOk d x s.Regs by unfold EdgeOk; rw [if_neg c]; exact fun h => c4 h.2.2.2)]
            simp only [c1, c2, c3', hin, hc, decide_true, if_true, bind_some', Bool.not_true]
        · have c3' : ((x.Src.length : Int) == (gt d.States x.To).Regs) = false := by simpa using c3
          rw [decide_eq_false (show ¬ EdgeOk d x s.Regs by unfold EdgeOk; rw [if_neg c]; exact fun h => c3 h.2.2.1)]
          simp only [c1, c2, c3', hin, decide_true, if_true, bind_some', Bool.false_eq_true, if_false]
      · rw [decide_eq_false (show ¬ EdgeOk d x s.Regs by unfold EdgeOk; rw [if_neg c]; exact fun h => c2 h.2.1)]
        simp only [c1, c2, decide_true, decide_false, if_true, bind_some', Bool.false_eq_true, if_false]
    · rw [decide_eq_false (show ¬ EdgeOk d x s.Regs by unfold EdgeOk; rw [if_neg c]; exact fun h => c1 h.1)]
      simp only [c1, decide_false, bind_some', Bool.false_eq_true, if_false]
open Classical in
theorem m_right24 {d : MDfa} {fuel : Nat} (hs : SmallD d) (hf : 1000 < fuel) : m_subset_Right fuel d = some (decide (RightD d)) := by
  obtain ⟨hs1, hs2, hs3⟩ := hs
  have hl2 : ∀ i, i < d.States.length → iter (m_subset_Right_l2 fuel d (leastC d.Class) (i : Int)) fuel 0 = some (if ∀ c, c < (gt d.States (i : Int)).Edges.length → EdgeOk d (gt (gt d.States (i : Int)).Edges (c : Int)) (gt d.States (i : Int)).Regs then .inl () else .inr false) := by
    intro i hi
    have hsm := hs3 i hi
    refine iter_chk (fu := fuel) (body := m_subset_Right_l2 fuel d (leastC d.Class) (i : Int)) (gt d.States (i : Int)).Edges.length _ (fun c hc => ?_) (by unfold m_subset_Right_l2; simp) (by have := hsm.2.1; omega)
    have hb := hsm.2.1
    have hin : inb (gt d.States (i : Int)).Edges (c : Int) = true := inb_true (by omega) (by omega)
    have hd : (c : Int) < ((gt d.States (i : Int)).Edges.length : Int) := by omega
    have hsrc : (gt (gt d.States (i : Int)).Edges (c : Int)).Src.length ≤ 400 := hsm.2.2.2 c hc
    unfold m_subset_Right_l2
    simp only [hd, decide_true, if_true, hin, W_succ (show c < 9223372036854775807 by omega), m_leads (d := d) (s := gt d.States (i : Int)) (x := gt (gt d.States (i : Int)).Edges (c : Int)) (by omega) hf, bind_some']
    by_cases h : EdgeOk d (gt (gt d.States (i : Int)).Edges (c : Int)) (gt d.States (i : Int)).Regs <;> simp [h]
  have hl1 := iter_chk (body := m_subset_Right_l1 fuel d (leastC d.Class)) (fu := fuel) d.States.length (fun i => StateOk d (leastC d.Class).length (gt d.States (i : Int))) (fun i hi => by
    have hin : inb d.States (i : Int) = true := inb_true (by omega) (by omega)
    have hd : (i : Int) < (d.States.length : Int) := by omega
    have h3 := hl2 i hi
    have hsm := hs3 i hi
    unfold m_subset_Right_l1
    simp only [hd, decide_true, if_true, hin, W_succ (show i < 9223372036854775807 by omega)]
    generalize gt d.States (i : Int) = s at h3 hsm ⊢
    by_cases d1 : s.Regs < 0
    · simp [d1, StateOk, show ¬ 0 ≤ s.Regs by omega]
    · by_cases d2 : s.Regs > 1216
      · simp [d1, d2, StateOk, show ¬ s.Regs ≤ 1216 by omega]
      · by_cases d3 : s.Edges.length = (leastC d.Class).length
        · have d3' : ((s.Edges.length : Int) != ((leastC d.Class).length : Int)) = false := by simp [d3]
          have hacc := m_accepts (s := s) (tags := d.Tags) (fuel := fuel) (by have := hsm.1; omega) hf
          by_cases d4 : (s.Accept.length = 0 ∨ (s.Accept.length : Int) = d.Tags) ∧ AccOk s.Accept s.Regs
          · simp only [d1, d2, d3', hacc, d4, and_self, decide_false, decide_true, Bool.false_eq_true, if_false, bind_some', Bool.not_true, h3]
            by_cases d5 : ∀ c, c < s.Edges.length → EdgeOk d (gt s.Edges (c : Int)) s.Regs
            · rw [if_pos d5, if_pos (show StateOk d (leastC d.Class).length s from ⟨by omega, by omega, d4.1, d3, d4.2, d5⟩)]
            · rw [if_neg d5, if_neg (show ¬ StateOk d (leastC d.Class).length s from fun h => d5 h.2.2.2.2.2)]
          · have hn : ¬ StateOk d (leastC d.Class).length s := fun h => d4 ⟨h.2.2.1, h.2.2.2.2.1⟩
            rw [if_neg hn]
            simp only [d1, d2, d3', hacc, d4, decide_false, Bool.false_eq_true, if_false, bind_some', Bool.not_false, if_true]
        · have hn : ¬ StateOk d (leastC d.Class).length s := fun h => d3 h.2.2.2.1
          have : ((s.Edges.length : Int) != ((leastC d.Class).length : Int)) = true := by rw [bne_iff_ne]; omega
          simp [d1, d2, this, hn]) (by unfold m_subset_Right_l1; simp) (by omega)
  unfold m_subset_Right
  by_cases e1 : d.Tags < 1
  · simp [e1, RightD, show ¬ 1 ≤ d.Tags by omega]
  by_cases e2 : d.Tags > 19
  · simp [e1, e2, RightD, show ¬ d.Tags ≤ 19 by omega]
  by_cases e3 : Int.tmod d.Tags 2 = 0
  · simp [e1, e2, e3, RightD]
  by_cases e4 : d.States.length = 0
  · simp [e1, e2, e3, e4, RightD]
  have e5 : ¬ (d.States.length : Int) > 400 := by omega
  by_cases e6 : ClsOk d.Class
  · have hin : inb d.States 0 = true := inb_true (by omega) (by omega)
    have e3' : (Int.tmod d.Tags 2 == 0) = false := by simpa using e3
    have e4' : ((d.States.length : Int) == 0) = false := by rw [beq_eq_false_iff_ne]; omega
    simp only [e1, e2, e3', e4', e5, decide_false, Bool.false_eq_true, if_false, m_partRight (l := d.Class) (by omega) hf, e6, decide_true, Bool.not_true, bind_some', m_partLeast (l := d.Class) (by omega) hf, hl1]
    by_cases e7 : ∀ i, i < d.States.length → StateOk d (leastC d.Class).length (gt d.States (i : Int))
    · rw [if_pos e7]
      simp only [hin, if_true]
      by_cases e8 : (gt d.States 0).Regs = 0
      · rw [decide_eq_true (show RightD d from ⟨by omega, by omega, e3, by omega, by omega, e6, e8, e7⟩), e8]; rfl
      · rw [decide_eq_false (show ¬ RightD d from fun h => e8 h.2.2.2.2.2.2.1)]; simpa using e8
    · rw [if_neg e7, decide_eq_false (show ¬ RightD d from fun h => e7 h.2.2.2.2.2.2.2)]
  · have e3' : (Int.tmod d.Tags 2 == 0) = false := by simpa using e3
    have e4' : ((d.States.length : Int) == 0) = false := by rw [beq_eq_false_iff_ne]; omega
    simp only [e1, e2, e3', e4', e5, decide_false, Bool.false_eq_true, if_false, m_partRight (l := d.Class) (by omega) hf, e6, Bool.not_false, bind_some', if_true]
    rw [decide_eq_false (show ¬ RightD d from fun h => e6 h.2.2.2.2.2.1)]
end Go.Proofs.Ytjkoiijpmiibpaa
