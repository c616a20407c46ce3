/- Programs: what is one. Its conditions: none. -/
import Derived.Test.YtjkoiijpmiibpaaGreatPAl2
set_option autoImplicit false
namespace Go.Proofs.YtjkoiijpmiibpaaGreat
open Go.V Go.RowKit

def MoveOk (R : Int) (m : MMove) : Prop := 0 ≤ m.To ∧ m.To < R ∧ -1 ≤ m.From ∧ m.From < R ∧ m.From ≠ m.To
def MovAt (R : Int) (l : List MMove) (i : Nat) : Prop := MoveOk R (gt l (i : Int))
def WayOk (p : MProg) (x : MWay) : Prop := -1 ≤ x.To ∧ x.To < p.Stands.length ∧ (x.To = -1 → x.Moves.length = 0) ∧ (x.Moves.length : Int) ≤ 2 * p.Regs ∧ ∀ i, i < x.Moves.length → MovAt p.Regs x.Moves i
def AccI (R : Int) (l : List Int) (i : Nat) : Prop := -2 ≤ gt l (i : Int) ∧ gt l (i : Int) < R
def AccP (R : Int) (l : List Int) : Prop := ∀ i, i < l.length → AccI R l i
def WayAt (p : MProg) (s : MStand) (c : Nat) : Prop := WayOk p (gt s.Ways (c : Int))
def StandOk (p : MProg) (cl : Nat) (s : MStand) : Prop := (s.Accept.length = 0 ∨ (s.Accept.length : Int) = p.Tags) ∧ AccP p.Regs s.Accept ∧ s.Ways.length = cl ∧ ∀ c, c < s.Ways.length → WayAt p s c
def RightP (p : MProg) : Prop := 1 ≤ p.Tags ∧ p.Tags ≤ 19 ∧ Int.tmod p.Tags 2 ≠ 0 ∧ 1 ≤ p.Regs ∧ p.Regs ≤ 1217 ∧ 1 ≤ p.Stands.length ∧ p.Stands.length ≤ 400 ∧ ClsOk p.Class ∧ ∀ i, i < p.Stands.length → StandOk p (leastC p.Class).length (gt p.Stands (i : Int))
/-- There is not too much in it. -/
def SizeW (s : MStand) (c : Nat) : Prop := (gt s.Ways (c : Int)).Moves.length ≤ 1300
def SizeS (s : MStand) : Prop := s.Accept.length ≤ 40 ∧ s.Ways.length ≤ 300 ∧ ∀ c, c < s.Ways.length → SizeW s c
def SizeP (p : MProg) : Prop := p.Stands.length ≤ 60 ∧ p.Class.length ≤ 300 ∧ ∀ i, i < p.Stands.length → SizeS (gt p.Stands (i : Int))
open Classical in
theorem idx_any {body : Int → Option (Ctl Int (Unit ⊕ Int))} (n : Nat) (p : Nat → Prop) (hs : ∀ i : Nat, i < n → body (i : Int) = if p i then some (.done (.inr (i : Int))) else some (.next ((i + 1 : Nat) : Int))) (he : body (n : Int) = some (.done (.inl ()))) {fu : Nat} (h : n < fu) :
    ((∃ i, i < n ∧ p i) ∧ ∃ i : Nat, iter body fu 0 = some (.inr (i : Int))) ∨ ((∀ i, i < n → ¬ p i) ∧ iter body fu 0 = some (.inl ())) :=
  idx_has n p (fun i hi => ⟨fun h => by rw [hs i hi, if_pos h], fun h => by rw [hs i hi, if_neg h]⟩) he h
open Classical in
theorem m_bad {R : Int} {p : MProg} (hR : p.Regs = R) {m : MMove} {fuel : Nat} : m_alloc_right_1 fuel m p = some (decide (¬ MoveOk R m)) := by
  subst hR
  unfold m_alloc_right_1 MoveOk
  by_cases c1 : m.To < 0
  · simp [c1, show ¬ 0 ≤ m.To by omega]
  by_cases c2 : m.To ≥ p.Regs
  · simp [c1, c2, show ¬ m.To < p.Regs by omega]
  by_cases c3 : m.From < -1
  · simp [c1, c2, c3, show ¬ -1 ≤ m.From by omega]
  by_cases c4 : m.From ≥ p.Regs
  · simp [c1, c2, c3, c4, show ¬ m.From < p.Regs by omega]
  by_cases c5 : m.From = m.To
  · simp [c1, c2, c3, c4, c5]
  · simp [c1, c2, c3, c4, c5, show 0 ≤ m.To by omega, show m.To < p.Regs by omega, show -1 ≤ m.From by omega, show m.From < p.Regs by omega]
open Classical in
theorem m_wayA {p : MProg} {x : MWay} {fuel : Nat} (hR0 : 0 ≤ p.Regs) (hR : p.Regs ≤ 1217) (hl : x.Moves.length ≤ 1300) (hf : 2000 < fuel) : m_alloc_right fuel p x = some (decide (WayOk p x)) := by
  have hW : W (2 * p.Regs) = 2 * p.Regs := W_id (by omega) (by omega)
  have hc : m_slices_ContainsFunc_api_Move_api_Move_alloc_right_1 fuel x.Moves p = some (decide (¬ ∀ i, i < x.Moves.length → MovAt p.Regs x.Moves i)) := by
    unfold m_slices_ContainsFunc_api_Move_api_Move_alloc_right_1 m_slices_IndexFunc_api_Move_api_Move_alloc_right_1
    rcases idx_any (body := m_slices_IndexFunc_api_Move_api_Move_alloc_right_1_l1 fuel x.Moves p) (fu := fuel) x.Moves.length (fun i => ¬ MovAt p.Regs x.Moves i) (fun i hi => by
      have hin : inb x.Moves (i : Int) = true := inb_true (by omega) (by omega)
      have hd : (i : Int) < (x.Moves.length : Int) := by omega
      unfold m_slices_IndexFunc_api_Move_api_Move_alloc_right_1_l1 MovAt
      simp only [hd, decide_true, if_true, hin, m_bad rfl, bind_some', W_succ (show i < 9223372036854775807 by omega)]
      by_cases c : MoveOk p.Regs (gt x.Moves (i : Int)) <;> simp [c]) (by unfold m_slices_IndexFunc_api_Move_api_Move_alloc_right_1_l1; simp) (by omega) with ⟨⟨i, h2, h3⟩, j, h4⟩ | ⟨h2, h3⟩
    · rw [h4, decide_eq_true (show ¬ ∀ i, i < x.Moves.length → MovAt p.Regs x.Moves i from fun h => h3 (h i h2))]; simp
    · rw [h3, decide_eq_false (show ¬ ¬ ∀ i, i < x.Moves.length → MovAt p.Regs x.Moves i from fun h => h (fun i hi => Classical.not_not.1 (h2 i hi)))]; simp
  unfold m_alloc_right
  by_cases c1 : x.To < -1
  · simp [c1, WayOk, show ¬ -1 ≤ x.To by omega]
  by_cases c2 : x.To ≥ (p.Stands.length : Int)
  · simp [c1, c2, WayOk, show ¬ x.To < (p.Stands.length : Int) by omega]
  by_cases c3 : x.To = -1 ∧ 0 < x.Moves.length
  · have hn : ¬ WayOk p x := fun h => by have := h.2.2.1 c3.1; omega
    have c4 : (x.Moves.length : Int) > 0 := by omega
    have c5 : (x.To == -1) = true := by simp [c3.1]
    rw [decide_eq_false hn]
    simp only [c1, c2, c4, c5, decide_false, decide_true, Bool.false_eq_true, if_false, if_true, bind_some']
  have c3' : (if (x.To == -1) = true then (if decide ((x.Moves.length : Int) > 0) = true then some true else some (decide ((x.Moves.length : Int) > W (2 * p.Regs)))) else some (decide ((x.Moves.length : Int) > W (2 * p.Regs))) : Option Bool) = some (decide ((x.Moves.length : Int) > 2 * p.Regs)) := by
    rw [hW]
    by_cases e : x.To = -1
    · have : ¬ (x.Moves.length : Int) > 0 := fun h => c3 ⟨e, by omega⟩
      have c5 : (x.To == -1) = true := by simp [e]
      simp only [c5, this, decide_false, Bool.false_eq_true, if_false, if_true]
    · have c5 : (x.To == -1) = false := by simp [e]
      simp only [c5, Bool.false_eq_true, if_false]
  simp only [c1, c2, decide_false, Bool.false_eq_true, if_false, c3', bind_some', hc]
  by_cases c5 : (x.Moves.length : Int) > 2 * p.Regs
  · rw [decide_eq_false (show ¬ WayOk p x from fun h => by have := h.2.2.2.1; omega)]; simp [c5]
  · simp only [c5, decide_false, Bool.false_eq_true, if_false]
    by_cases c6 : ∀ i, i < x.Moves.length → MovAt p.Regs x.Moves i
    · rw [decide_eq_true (show WayOk p x from ⟨by omega, by omega, fun e => by have := fun h => c3 ⟨e, h⟩; omega, by omega, c6⟩), decide_eq_false (show ¬ ¬ _ from fun h => h c6)]; rfl
    · rw [decide_eq_false (show ¬ WayOk p x from fun h => c6 h.2.2.2.2), decide_eq_true c6]; rfl
open Classical in
theorem m_accA {p : MProg} {l : List Int} {fuel : Nat} (hl : l.length ≤ 1000) (hf : 2000 < fuel) : m_slices_ContainsFunc_int_int_alloc_Right_1 fuel l p = some (decide (¬ AccP p.Regs l)) := by
  unfold m_slices_ContainsFunc_int_int_alloc_Right_1 m_slices_IndexFunc_int_int_alloc_Right_1
  rcases idx_any (body := m_slices_IndexFunc_int_int_alloc_Right_1_l1 fuel l p) (fu := fuel) l.length (fun i => ¬ AccI p.Regs l i) (fun i hi => by
    have hin : inb l (i : Int) = true := inb_true (by omega) (by omega)
    have hd : (i : Int) < (l.length : Int) := by omega
    have h1 : m_alloc_Right_1 fuel (gt l (i : Int)) p = some (decide (¬ AccI p.Regs l i)) := by
      unfold m_alloc_Right_1 AccI
      by_cases c : gt l (i : Int) < -2
      · simp [c, show ¬ -2 ≤ gt l (i : Int) by omega]
      · by_cases c2 : gt l (i : Int) ≥ p.Regs
        · simp [c, c2, show ¬ gt l (i : Int) < p.Regs by omega]
        · simp [c, c2, show -2 ≤ gt l (i : Int) by omega, show gt l (i : Int) < p.Regs by omega]
    unfold m_slices_IndexFunc_int_int_alloc_Right_1_l1
    simp only [hd, decide_true, if_true, hin, h1, bind_some', W_succ (show i < 9223372036854775807 by omega)]
    by_cases c : AccI p.Regs l i <;> simp [c]) (by unfold m_slices_IndexFunc_int_int_alloc_Right_1_l1; simp) (by omega) with ⟨⟨i, h2, h3⟩, j, h4⟩ | ⟨h2, h3⟩
  · rw [h4, decide_eq_true (show ¬ AccP p.Regs l from fun h => h3 (h i h2))]; simp
  · rw [h3, decide_eq_false (show ¬ ¬ AccP p.Regs l from fun h => h (fun i hi => Classical.not_not.1 (h2 i hi)))]; simp
open Classical in
theorem m_rightP {p : MProg} {fuel : Nat} (hs : SizeP p) (hf : 2000 < fuel) : m_alloc_Right fuel p = some (decide (RightP p)) := by
  obtain ⟨hs1, hs2, hs3⟩ := hs
  have hl1 : 0 ≤ p.Regs → p.Regs ≤ 1217 → iter (m_alloc_Right_l1 fuel p (leastC p.Class)) fuel 0 = some (if ∀ i, i < p.Stands.length → StandOk p (leastC p.Class).length (gt p.Stands (i : Int)) then .inl () else .inr false) := fun hR0 hR => iter_chk (body := m_alloc_Right_l1 fuel p (leastC p.Class)) (fu := fuel) p.Stands.length (fun i => StandOk p (leastC p.Class).length (gt p.Stands (i : Int))) (fun i hi => by
    have hin : inb p.Stands (i : Int) = true := inb_true (by omega) (by omega)
    have hd : (i : Int) < (p.Stands.length : Int) := by omega
    have hsm := hs3 i hi
    unfold m_alloc_Right_l1
    simp only [hd, decide_true, if_true, hin, W_succ (show i < 9223372036854775807 by omega)]
    generalize gt p.Stands (i : Int) = s at hsm ⊢
    obtain ⟨b1, b2, b3⟩ := hsm
    have hw : m_slices_ContainsFunc_api_Way_api_Way_alloc_Right_2 fuel s.Ways p = some (decide (¬ ∀ c, c < s.Ways.length → WayAt p s c)) := by
      unfold m_slices_ContainsFunc_api_Way_api_Way_alloc_Right_2 m_slices_IndexFunc_api_Way_api_Way_alloc_Right_2
      rcases idx_any (body := m_slices_IndexFunc_api_Way_api_Way_alloc_Right_2_l1 fuel s.Ways p) (fu := fuel) s.Ways.length (fun c => ¬ WayAt p s c) (fun c hc => by
        have hin : inb s.Ways (c : Int) = true := inb_true (by omega) (by omega)
        have hd : (c : Int) < (s.Ways.length : Int) := by omega
        unfold m_slices_IndexFunc_api_Way_api_Way_alloc_Right_2_l1 m_alloc_Right_2
        simp only [hd, decide_true, if_true, hin, m_wayA (x := gt s.Ways (c : Int)) hR0 hR (b3 c hc) hf, bind_some', W_succ (show c < 9223372036854775807 by omega)]
        unfold WayAt
        by_cases c : WayOk p (gt s.Ways (c : Int)) <;> simp [c]) (by unfold m_slices_IndexFunc_api_Way_api_Way_alloc_Right_2_l1; simp) (by omega) with ⟨⟨i, h2, h3⟩, j, h4⟩ | ⟨h2, h3⟩
      · rw [h4, decide_eq_true (show ¬ ∀ c, c < s.Ways.length → WayAt p s c from fun h => h3 (h i h2))]; simp
      · rw [h3, decide_eq_false (show ¬ ¬ ∀ c, c < s.Ways.length → WayAt p s c from fun h => h (fun i hi => Classical.not_not.1 (h2 i hi)))]; simp
    have hcond : (if ((s.Accept.length : Int) != 0) = true then (if ((s.Accept.length : Int) != p.Tags) = true then some true else Option.bind (m_slices_ContainsFunc_int_int_alloc_Right_1 fuel s.Accept p) fun x6 => if x6 = true then some true else some ((s.Ways.length : Int) != ((leastC p.Class).length : Int))) else Option.bind (m_slices_ContainsFunc_int_int_alloc_Right_1 fuel s.Accept p) fun x7 => if x7 = true then some true else some ((s.Ways.length : Int) != ((leastC p.Class).length : Int)) : Option Bool) = some (!decide ((s.Accept.length = 0 ∨ (s.Accept.length : Int) = p.Tags) ∧ AccP p.Regs s.Accept ∧ s.Ways.length = (leastC p.Class).length)) := by
      rw [m_accA (by omega) hf]
      simp only [bind_some']
      by_cases a1 : s.Accept.length = 0
      · have hA : AccP p.Regs s.Accept := fun i hi => by omega
        by_cases a3 : s.Ways.length = (leastC p.Class).length
        · simp [a1, hA, a3]
        · have : ¬ (s.Ways.length : Int) = ((leastC p.Class).length : Int) := by omega
          simp [a1, hA, a3, this]
      · have a1' : ((s.Accept.length : Int) != 0) = true := by rw [bne_iff_ne]; omega
        by_cases a2 : (s.Accept.length : Int) = p.Tags
        · have a2' : ((s.Accept.length : Int) != p.Tags) = false := by simp [a2]
          by_cases hA : AccP p.Regs s.Accept
          · by_cases a3 : s.Ways.length = (leastC p.Class).length
            · have a3' : ((s.Ways.length : Int) != ((leastC p.Class).length : Int)) = false := by simp [a3]
              rw [decide_eq_true (show _ ∧ _ ∧ _ from ⟨.inr a2, hA, a3⟩)]
              simp only [a1', a2', a3', hA, not_true, decide_false, Bool.false_eq_true, if_false, if_true, Bool.not_true]
            · have a3' : ((s.Ways.length : Int) != ((leastC p.Class).length : Int)) = true := by rw [bne_iff_ne]; omega
              rw [decide_eq_false (show ¬ (_ ∧ _ ∧ _) from fun h => a3 h.2.2)]
              simp only [a1', a2', a3', hA, not_true, decide_false, Bool.false_eq_true, if_false, if_true, Bool.not_false]
          · rw [decide_eq_false (show ¬ (_ ∧ _ ∧ _) from fun h => hA h.2.1)]
            simp only [a1', a2', hA, not_false_iff, decide_true, Bool.false_eq_true, if_false, if_true, Bool.not_false]
        · have a2' : ((s.Accept.length : Int) != p.Tags) = true := by rw [bne_iff_ne]; exact a2
          rw [decide_eq_false (show ¬ (_ ∧ _ ∧ _) from fun h => h.1.elim a1 a2)]
          simp only [a1', a2', if_true, Bool.not_false]
    rw [hcond]
    simp only [bind_some', hw]
    by_cases d4 : (s.Accept.length = 0 ∨ (s.Accept.length : Int) = p.Tags) ∧ AccP p.Regs s.Accept ∧ s.Ways.length = (leastC p.Class).length
    · by_cases d5 : ∀ c, c < s.Ways.length → WayAt p s c
      · rw [if_pos (show StandOk p (leastC p.Class).length s from ⟨d4.1, d4.2.1, d4.2.2, d5⟩), decide_eq_false (show ¬ ¬ ∀ c, c < s.Ways.length → WayAt p s c from fun h => h d5), decide_eq_true d4]; rfl
      · rw [if_neg (show ¬ StandOk p (leastC p.Class).length s from fun h => d5 h.2.2.2), decide_eq_true d5, decide_eq_true d4]; rfl
    · rw [if_neg (show ¬ StandOk p (leastC p.Class).length s from fun h => d4 ⟨h.1, h.2.1, h.2.2.1⟩), decide_eq_false d4]; rfl) (by unfold m_alloc_Right_l1; simp) (by omega)
  unfold m_alloc_Right
  by_cases e1 : p.Tags < 1
  · simp [e1, RightP, show ¬ 1 ≤ p.Tags by omega]
  by_cases e2 : p.Tags > 19
  · simp [e1, e2, RightP, show ¬ p.Tags ≤ 19 by omega]
  by_cases e3 : Int.tmod p.Tags 2 = 0
  · simp [e1, e2, e3, RightP]
  have e3' : (Int.tmod p.Tags 2 == 0) = false := by simpa using e3
  by_cases r1 : p.Regs < 1
  · simp [e1, e2, e3, r1, RightP, show ¬ 1 ≤ p.Regs by omega]
  by_cases r2 : p.Regs > 1217
  · simp [e1, e2, e3, r1, r2, RightP, show ¬ p.Regs ≤ 1217 by omega]
  by_cases e4 : p.Stands.length = 0
  · simp [e1, e2, e3, r1, r2, e4, RightP]
  have e4' : ((p.Stands.length : Int) == 0) = false := by rw [beq_eq_false_iff_ne]; omega
  have e5 : ¬ (p.Stands.length : Int) > 400 := by omega
  by_cases e6 : ClsOk p.Class
  · simp only [e1, e2, e3', r1, r2, e4', e5, decide_false, Bool.false_eq_true, if_false, m_partRight (l := p.Class) (by omega) (show 1000 < fuel by omega), e6, decide_true, Bool.not_true, bind_some', m_partLeast (l := p.Class) (by omega) (show 1000 < fuel by omega), hl1 (by omega) (by omega)]
    by_cases e7 : ∀ i, i < p.Stands.length → StandOk p (leastC p.Class).length (gt p.Stands (i : Int))
    · rw [if_pos e7, decide_eq_true (show RightP p from ⟨by omega, by omega, e3, by omega, by omega, by omega, by omega, e6, e7⟩)]
    · rw [if_neg e7, decide_eq_false (show ¬ RightP p from fun h => e7 h.2.2.2.2.2.2.2.2)]
  · simp only [e1, e2, e3', r1, r2, e4', e5, decide_false, Bool.false_eq_true, if_false, m_partRight (l := p.Class) (by omega) (show 1000 < fuel by omega), e6, Bool.not_false, bind_some', if_true]
    rw [decide_eq_false (show ¬ RightP p from fun h => e6 h.2.2.2.2.2.2.2.1)]
end Go.Proofs.YtjkoiijpmiibpaaGreat
