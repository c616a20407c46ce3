/- Programs: what is one, by the document; when two are the same. Its conditions: none. -/
import Derived.Test.YtjkoiijpmiibpaaGreatPAp1
import Derived.Test.YtjkoiijpmiibpaaGreatMo3
set_option autoImplicit false
namespace Go.Proofs.YtjkoiijpmiibpaaGreat
open Go.V Go.RowKit

def SmallQ (p : MProg) : Prop := SizeP p ∧ p.Regs ≤ 600
open Classical in
theorem m_small28 {p : MProg} {fuel : Nat} (hf : 2000 < fuel) : m_law28_Small fuel p = some (decide (SmallQ p)) := by
  unfold m_law28_Small
  by_cases c1 : (p.Stands.length : Int) > 60
  · simp [c1, SmallQ, SizeP, show ¬ p.Stands.length ≤ 60 by omega]
  by_cases c2 : (p.Class.length : Int) > 300
  · simp [c1, c2, SmallQ, SizeP, show ¬ p.Class.length ≤ 300 by omega]
  by_cases c0 : p.Regs > 600
  · simp [c1, c2, c0, SmallQ, show ¬ p.Regs ≤ 600 by omega]
  simp only [c1, c2, c0, decide_false, Bool.false_eq_true, if_false, bind_some']
  rw [iter_chk (body := m_law28_Small_l1 fuel p) p.Stands.length (fun i => SizeS (gt p.Stands (i : Int))) (fun i hi => by
    have hin : inb p.Stands (i : Int) = true := inb_true (by omega) (by omega)
    have hd : (i : Int) < (p.Stands.length : Int) := by omega
    unfold m_law28_Small_l1
    simp only [hd, decide_true, if_true, hin, W_succ (show i < 9223372036854775807 by omega)]
    by_cases d1 : ((gt p.Stands (i : Int)).Accept.length : Int) > 40
    · simp [d1, SizeS, show ¬ (gt p.Stands (i : Int)).Accept.length ≤ 40 by omega]
    · by_cases d2 : ((gt p.Stands (i : Int)).Ways.length : Int) > 300
      · simp [d1, d2, SizeS, show ¬ (gt p.Stands (i : Int)).Ways.length ≤ 300 by omega]
      · have h3 := iter_chk (fu := fuel) (body := m_law28_Small_l2 fuel p (i : Int)) (gt p.Stands (i : Int)).Ways.length (SizeW (gt p.Stands (i : Int))) (fun c hc => by
          have hin : inb (gt p.Stands (i : Int)).Ways (c : Int) = true := inb_true (by omega) (by omega)
          have hd : (c : Int) < ((gt p.Stands (i : Int)).Ways.length : Int) := by omega
          unfold m_law28_Small_l2
          simp only [hd, decide_true, if_true, hin, W_succ (show c < 9223372036854775807 by omega)]
          by_cases h : SizeW (gt p.Stands (i : Int)) c
          · rw [if_pos h]; unfold SizeW at h; simp; omega
          · rw [if_neg h]; unfold SizeW at h; simp; omega) (by unfold m_law28_Small_l2; simp) (by omega)
        simp only [d1, d2, decide_false, Bool.false_eq_true, if_false, bind_some', h3]
        by_cases d4 : ∀ c, c < (gt p.Stands (i : Int)).Ways.length → SizeW (gt p.Stands (i : Int)) c
        · rw [if_pos d4, if_pos (show SizeS _ from ⟨by omega, by omega, d4⟩)]
        · rw [if_neg d4, if_neg (show ¬ SizeS _ from fun h => d4 h.2.2)]) (by unfold m_law28_Small_l1; simp) (by omega)]
  by_cases c3 : ∀ i, i < p.Stands.length → SizeS (gt p.Stands (i : Int))
  · rw [if_pos c3, decide_eq_true (show SmallQ p from ⟨⟨by omega, by omega, c3⟩, by omega⟩)]; rfl
  · rw [if_neg c3, decide_eq_false (show ¬ SmallQ p from fun h => c3 h.1.2.2)]; rfl
open Classical in
theorem m_wayR {p : MProg} {x : MWay} {fuel : Nat} (hR0 : 0 ≤ p.Regs) (hR : p.Regs ≤ 1217) (hl : x.Moves.length ≤ 1300) (hf : 2000 < fuel) : m_ref28_way fuel p x = some (decide (WayOk p x)) := by
  have hW : W (2 * p.Regs) = 2 * p.Regs := W_id (by omega) (by omega)
  have hc := iter_chk (fu := fuel) (body := m_ref28_way_l1 fuel p x) x.Moves.length (MovAt p.Regs x.Moves) (fun i hi => by
    have hin : inb x.Moves (i : Int) = true := inb_true (by omega) (by omega)
    have hd : (i : Int) < (x.Moves.length : Int) := by omega
    unfold m_ref28_way_l1 MovAt
    simp only [hd, decide_true, if_true, hin, W_succ (show i < 9223372036854775807 by omega)]
    generalize gt x.Moves (i : Int) = m
    unfold MoveOk
    by_cases c1 : m.To < 0
    · simp [c1, show ¬ 0 ≤ m.To by omega]
    by_cases c2 : m.To ≥ p.Regs
    · simp [c1, c2, show ¬ m.To < p.Regs by omega]
    by_cases c3 : m.From < -1
    · simp [c1, c2, c3, show ¬ -1 ≤ m.From by omega]
    by_cases c4 : m.From ≥ p.Regs
    · simp [c1, c2, c3, c4, show ¬ m.From < p.Regs by omega]
    by_cases c5 : m.From = m.To
    · simp [c1, c2, c3, c4, c5]
    · simp [c1, c2, c3, c4, c5, show 0 ≤ m.To by omega, show m.To < p.Regs by omega, show -1 ≤ m.From by omega, show m.From < p.Regs by omega]) (by unfold m_ref28_way_l1; simp) (by omega)
  unfold m_ref28_way
  by_cases c1 : x.To < -1
  · simp [c1, WayOk, show ¬ -1 ≤ x.To by omega]
  by_cases c2 : x.To ≥ (p.Stands.length : Int)
  · simp [c1, c2, WayOk, show ¬ x.To < (p.Stands.length : Int) by omega]
  by_cases c3 : x.To = -1 ∧ 0 < x.Moves.length
  · have hn : ¬ WayOk p x := fun h => by have := h.2.2.1 c3.1; omega
    have c4 : (x.Moves.length : Int) > 0 := by omega
    have c5 : (x.To == -1) = true := by simp [c3.1]
    rw [decide_eq_false hn]
    simp only [c1, c2, c4, c5, decide_false, decide_true, Bool.false_eq_true, if_false, if_true, bind_some']
  have c3' : (if (x.To == -1) = true then (if decide ((x.Moves.length : Int) > 0) = true then some true else some (decide ((x.Moves.length : Int) > W (2 * p.Regs)))) else some (decide ((x.Moves.length : Int) > W (2 * p.Regs))) : Option Bool) = some (decide ((x.Moves.length : Int) > 2 * p.Regs)) := by
    rw [hW]
    by_cases e : x.To = -1
    · have : ¬ (x.Moves.length : Int) > 0 := fun h => c3 ⟨e, by omega⟩
      have c5 : (x.To == -1) = true := by simp [e]
      simp only [c5, this, decide_false, Bool.false_eq_true, if_false, if_true]
    · have c5 : (x.To == -1) = false := by simp [e]
      simp only [c5, Bool.false_eq_true, if_false]
  simp only [c1, c2, decide_false, Bool.false_eq_true, if_false, c3', bind_some', hc]
  by_cases c5 : (x.Moves.length : Int) > 2 * p.Regs
  · rw [decide_eq_false (show ¬ WayOk p x from fun h => by have := h.2.2.2.1; omega)]; simp [c5]
  · simp only [c5, decide_false, Bool.false_eq_true, if_false]
    by_cases c6 : ∀ i, i < x.Moves.length → MovAt p.Regs x.Moves i
    · rw [if_pos c6, decide_eq_true (show WayOk p x from ⟨by omega, by omega, fun e => by have := fun h => c3 ⟨e, h⟩; omega, by omega, c6⟩)]
    · rw [if_neg c6, decide_eq_false (show ¬ WayOk p x from fun h => c6 h.2.2.2.2)]
open Classical in
theorem m_rightQ {p : MProg} {fuel : Nat} (hs : SizeP p) (hf : 2000 < fuel) : m_ref28_Right fuel p = some (decide (RightP p)) := by
  obtain ⟨hs1, hs2, hs3⟩ := hs
  have hl1 : 0 ≤ p.Regs → p.Regs ≤ 1217 → iter (m_ref28_Right_l1 fuel p (leastC p.Class)) fuel 0 = some (if ∀ i, i < p.Stands.length → StandOk p (leastC p.Class).length (gt p.Stands (i : Int)) then .inl () else .inr false) := fun hR0 hR => iter_chk (body := m_ref28_Right_l1 fuel p (leastC p.Class)) (fu := fuel) p.Stands.length (fun i => StandOk p (leastC p.Class).length (gt p.Stands (i : Int))) (fun i hi => by
    have hin : inb p.Stands (i : Int) = true := inb_true (by omega) (by omega)
    have hd : (i : Int) < (p.Stands.length : Int) := by omega
    obtain ⟨b1, b2, b3⟩ := hs3 i hi
    have h2 := iter_chk (fu := fuel) (body := m_ref28_Right_l2 fuel p (leastC p.Class) (i : Int)) (gt p.Stands (i : Int)).Accept.length (AccI p.Regs (gt p.Stands (i : Int)).Accept) (fun t ht => by
      have hin : inb (gt p.Stands (i : Int)).Accept (t : Int) = true := inb_true (by omega) (by omega)
      have hd : (t : Int) < ((gt p.Stands (i : Int)).Accept.length : Int) := by omega
      unfold m_ref28_Right_l2 AccI
      simp only [hd, decide_true, if_true, hin, W_succ (show t < 9223372036854775807 by omega)]
      by_cases c : gt (gt p.Stands (i : Int)).Accept (t : Int) < -2
      · simp [c, show ¬ -2 ≤ gt (gt p.Stands (i : Int)).Accept (t : Int) by omega]
      · by_cases c2 : gt (gt p.Stands (i : Int)).Accept (t : Int) ≥ p.Regs
        · simp [c, c2, show ¬ gt (gt p.Stands (i : Int)).Accept (t : Int) < p.Regs by omega]
        · simp [c, c2, show -2 ≤ gt (gt p.Stands (i : Int)).Accept (t : Int) by omega, show gt (gt p.Stands (i : Int)).Accept (t : Int) < p.Regs by omega]) (by unfold m_ref28_Right_l2; simp) (by omega)
    have h3 : (gt p.Stands (i : Int)).Ways.length = (leastC p.Class).length → iter (m_ref28_Right_l3 fuel p (leastC p.Class) (i : Int)) fuel 0 = _ := fun hw => iter_chk (fu := fuel) (body := m_ref28_Right_l3 fuel p (leastC p.Class) (i : Int)) (leastC p.Class).length (WayAt p (gt p.Stands (i : Int))) (fun c hc => by
      have hin : inb (gt p.Stands (i : Int)).Ways (c : Int) = true := inb_true (by omega) (by omega)
      have hd : (c : Int) < ((leastC p.Class).length : Int) := by omega
      unfold m_ref28_Right_l3
      simp only [hd, decide_true, if_true, hin, m_wayR (x := gt (gt p.Stands (i : Int)).Ways (c : Int)) hR0 hR (b3 c (by omega)) hf, bind_some', W_succ (show c < 9223372036854775807 by omega)]
      unfold WayAt
      by_cases h : WayOk p (gt (gt p.Stands (i : Int)).Ways (c : Int)) <;> simp [h]) (by unfold m_ref28_Right_l3; simp) (by omega)
    unfold m_ref28_Right_l1
    simp only [hd, decide_true, if_true, hin, W_succ (show i < 9223372036854775807 by omega)]
    generalize gt p.Stands (i : Int) = s at h2 h3 b1 b2 b3 ⊢
    have hcond : (if ((s.Accept.length : Int) != 0) = true then (if ((s.Accept.length : Int) != p.Tags) = true then some true else some ((s.Ways.length : Int) != ((leastC p.Class).length : Int))) else some ((s.Ways.length : Int) != ((leastC p.Class).length : Int)) : Option Bool) = some (!decide ((s.Accept.length = 0 ∨ (s.Accept.length : Int) = p.Tags) ∧ s.Ways.length = (leastC p.Class).length)) := by
      have a3' : ((s.Ways.length : Int) != ((leastC p.Class).length : Int)) = !decide (s.Ways.length = (leastC p.Class).length) := by
        by_cases a3 : s.Ways.length = (leastC p.Class).length
        · simp [a3]
        · rw [decide_eq_false a3, Bool.not_false, bne_iff_ne]; omega
      rw [a3']
      by_cases a1 : s.Accept.length = 0
      · simp [a1]
      · have a1' : ((s.Accept.length : Int) != 0) = true := by rw [bne_iff_ne]; omega
        by_cases a2 : (s.Accept.length : Int) = p.Tags
        · have a2' : ((s.Accept.length : Int) != p.Tags) = false := by simp [a2]
          have e2 : ((s.Accept.length = 0 ∨ (s.Accept.length : Int) = p.Tags) ∧ s.Ways.length = (leastC p.Class).length) ↔ s.Ways.length = (leastC p.Class).length := ⟨fun h => h.2, fun h => ⟨.inr a2, h⟩⟩
          simp only [a1', a2', if_true, Bool.false_eq_true, if_false]
          by_cases a3 : s.Ways.length = (leastC p.Class).length
          · rw [decide_eq_true a3, decide_eq_true (e2.2 a3)]
          · rw [decide_eq_false a3, decide_eq_false (fun h => a3 (e2.1 h))]
        · have a2' : ((s.Accept.length : Int) != p.Tags) = true := by rw [bne_iff_ne]; exact a2
          rw [decide_eq_false (show ¬ (_ ∧ _) from fun h => h.1.elim a1 a2)]
          simp only [a1', a2', if_true, Bool.not_false]
    rw [hcond]
    by_cases d4 : (s.Accept.length = 0 ∨ (s.Accept.length : Int) = p.Tags) ∧ s.Ways.length = (leastC p.Class).length
    · simp only [decide_eq_true d4, bind_some', Bool.not_true, Bool.false_eq_true, if_false, h2, h3 d4.2]
      by_cases d6 : ∀ t, t < s.Accept.length → AccI p.Regs s.Accept t
      · rw [if_pos d6]
        by_cases d5 : ∀ c, c < (leastC p.Class).length → WayAt p s c
        · rw [if_pos d5, if_pos (show StandOk p (leastC p.Class).length s from ⟨d4.1, d6, d4.2, by rw [d4.2]; exact d5⟩)]
        · rw [if_neg d5, if_neg (show ¬ StandOk p (leastC p.Class).length s from fun h => d5 (by have := h.2.2.2; rw [d4.2] at this; exact this))]
      · rw [if_neg d6, if_neg (show ¬ StandOk p (leastC p.Class).length s from fun h => d6 h.2.1)]
    · rw [if_neg (show ¬ StandOk p (leastC p.Class).length s from fun h => d4 ⟨h.1, h.2.2.1⟩), decide_eq_false d4]; rfl) (by unfold m_ref28_Right_l1; simp) (by omega)
  unfold m_ref28_Right
  by_cases e1 : p.Tags < 1
  · simp [e1, RightP, show ¬ 1 ≤ p.Tags by omega]
  by_cases e2 : p.Tags > 19
  · simp [e1, e2, RightP, show ¬ p.Tags ≤ 19 by omega]
  by_cases e3 : Int.tmod p.Tags 2 = 0
  · simp [e1, e2, e3, RightP]
  have e3' : (Int.tmod p.Tags 2 == 0) = false := by simpa using e3
  by_cases r1 : p.Regs < 1
  · simp [e1, e2, e3, r1, RightP, show ¬ 1 ≤ p.Regs by omega]
  by_cases r2 : p.Regs > 1217
  · simp [e1, e2, e3, r1, r2, RightP, show ¬ p.Regs ≤ 1217 by omega]
  by_cases e4 : (p.Stands.length : Int) < 1
  · simp only [e1, e2, e3', r1, r2, e4, decide_false, decide_true, Bool.false_eq_true, if_false, if_true, bind_some']
    rw [decide_eq_false (show ¬ RightP p from fun h => by have := h.2.2.2.2.2.1; omega)]
  have e5 : ¬ (p.Stands.length : Int) > 400 := by omega
  by_cases e6 : ClsOk p.Class
  · simp only [e1, e2, e3', r1, r2, e4, e5, decide_false, Bool.false_eq_true, if_false, m_ref13Right (l := p.Class) (by omega) (show 1000 < fuel by omega), e6, decide_true, Bool.not_true, bind_some', m_ref13Least (l := p.Class) (by omega) (show 1000 < fuel by omega), hl1 (by omega) (by omega)]
    by_cases e7 : ∀ i, i < p.Stands.length → StandOk p (leastC p.Class).length (gt p.Stands (i : Int))
    · rw [if_pos e7, decide_eq_true (show RightP p from ⟨by omega, by omega, e3, by omega, by omega, by omega, by omega, e6, e7⟩)]
    · rw [if_neg e7, decide_eq_false (show ¬ RightP p from fun h => e7 h.2.2.2.2.2.2.2.2)]
  · simp only [e1, e2, e3', r1, r2, e4, e5, decide_false, Bool.false_eq_true, if_false, m_ref13Right (l := p.Class) (by omega) (show 1000 < fuel by omega), e6, Bool.not_false, bind_some', if_true]
    rw [decide_eq_false (show ¬ RightP p from fun h => e6 h.2.2.2.2.2.2.2.1)]

/-! The same. -/
theorem gt_ext {α : Type} [Inhabited α] {a b : List α} (hl : a.length = b.length) (h : ∀ i : Nat, i < a.length → gt a (i : Int) = gt b (i : Int)) : a = b :=
  List.ext_getElem hl fun i h1 h2 => by have := h i h1; rwa [gtE h1, gtE h2] at this
def SameAt {α : Type} [Inhabited α] (a b : List α) (i : Nat) : Prop := gt a (i : Int) = gt b (i : Int)
open Classical in
/-- Two lists that are held against one another, one by one. -/
theorem iter_same {α : Type} [Inhabited α] {a b : List α} {body : Int → Option (Ctl Int (Unit ⊕ Bool))} (hl : a.length = b.length) (hs : ∀ i : Nat, i < a.length → body (i : Int) = if SameAt a b i then some (.next ((i + 1 : Nat) : Int)) else some (.done (.inr false))) (he : body (a.length : Int) = some (.done (.inl ()))) {fu : Nat} (h : a.length < fu) :
    iter body fu 0 = some (if a = b then .inl () else .inr false) := by
  rw [iter_chk a.length (SameAt a b) hs he h]
  by_cases c : a = b
  · subst c; rw [if_pos rfl, if_pos (show ∀ i, i < a.length → SameAt a a i from fun i _ => rfl)]
  · rw [if_neg c, if_neg (fun h : ∀ i, i < a.length → SameAt a b i => c (gt_ext hl h))]
open Classical in
theorem m_intsS {a b : List Int} {fuel : Nat} (hl : a.length ≤ 1000) (hf : 2000 < fuel) : m_slices_Equal_int_int fuel a b = some (decide (a = b)) := by
  unfold m_slices_Equal_int_int
  by_cases c : a.length = b.length
  · have h := iter_same (a := a) (b := b) (fu := fuel) (body := m_slices_Equal_int_int_l1 fuel a b) c (fun i hi => by
      have h1 : inb a (i : Int) = true := inb_true (by omega) (by omega)
      have h2 : inb b (i : Int) = true := inb_true (by omega) (by omega)
      have hd : (i : Int) < (a.length : Int) := by omega
      unfold m_slices_Equal_int_int_l1
      simp only [hd, decide_true, if_true, h1, h2, W_succ (show i < 9223372036854775807 by omega)]
      by_cases e : SameAt a b i
      · have e' : (gt a (i : Int) != gt b (i : Int)) = false := by unfold SameAt at e; simp [e]
        rw [if_pos e]; simp only [e', Bool.false_eq_true, if_false]
      · have e' : (gt a (i : Int) != gt b (i : Int)) = true := by rw [bne_iff_ne]; exact e
        rw [if_neg e]; simp only [e', if_true]) (by unfold m_slices_Equal_int_int_l1; simp) (by omega)
    have c' : ((a.length : Int) != (b.length : Int)) = false := by simp [c]
    simp only [c', Bool.false_eq_true, if_false, h, bind_some']
    by_cases e : a = b <;> simp [e]
  · have c' : ((a.length : Int) != (b.length : Int)) = true := by rw [bne_iff_ne]; omega
    simp only [c', if_true]
    rw [decide_eq_false (fun e => c (by rw [e]))]
open Classical in
theorem m_intsR {a b : List Int} {fuel : Nat} (hl : a.length ≤ 1000) (hf : 2000 < fuel) : m_ref06_Ints fuel a b = some (decide (a = b)) := by
  unfold m_ref06_Ints
  by_cases c : a.length = b.length
  · have h := iter_same (a := a) (b := b) (fu := fuel) (body := m_ref06_Ints_l1 fuel a b) c (fun i hi => by
      have h1 : inb a (i : Int) = true := inb_true (by omega) (by omega)
      have h2 : inb b (i : Int) = true := inb_true (by omega) (by omega)
      have hd : (i : Int) < (a.length : Int) := by omega
      unfold m_ref06_Ints_l1
      simp only [hd, decide_true, if_true, h1, h2, W_succ (show i < 9223372036854775807 by omega)]
      by_cases e : SameAt a b i
      · have e' : (gt a (i : Int) != gt b (i : Int)) = false := by unfold SameAt at e; simp [e]
        rw [if_pos e]; simp only [e', Bool.false_eq_true, if_false]
      · have e' : (gt a (i : Int) != gt b (i : Int)) = true := by rw [bne_iff_ne]; exact e
        rw [if_neg e]; simp only [e', if_true]) (by unfold m_ref06_Ints_l1; simp) (by omega)
    have c' : ((a.length : Int) != (b.length : Int)) = false := by simp [c]
    simp only [c', Bool.false_eq_true, if_false, h, bind_some']
    by_cases e : a = b <;> simp [e]
  · have c' : ((a.length : Int) != (b.length : Int)) = true := by rw [bne_iff_ne]; omega
    simp only [c', if_true]
    rw [decide_eq_false (fun e => c (by rw [e]))]
theorem mv_eq (a b : MMove) : (a.To == b.To && a.From == b.From) = true ↔ a = b := by
  cases a; cases b; simp
open Classical in
theorem m_movesS {a b : List MMove} {fuel : Nat} (hl : a.length ≤ 1300) (hf : 2000 < fuel) : m_slices_Equal_api_Move_api_Move fuel a b = some (decide (a = b)) := by
  unfold m_slices_Equal_api_Move_api_Move
  by_cases c : a.length = b.length
  · have h := iter_same (a := a) (b := b) (fu := fuel) (body := m_slices_Equal_api_Move_api_Move_l1 fuel a b) c (fun i hi => by
      have h1 : inb a (i : Int) = true := inb_true (by omega) (by omega)
      have h2 : inb b (i : Int) = true := inb_true (by omega) (by omega)
      have hd : (i : Int) < (a.length : Int) := by omega
      unfold m_slices_Equal_api_Move_api_Move_l1
      simp only [hd, decide_true, if_true, h1, h2, W_succ (show i < 9223372036854775807 by omega)]
      by_cases e : SameAt a b i
      · have e' := (mv_eq (gt a (i : Int)) (gt b (i : Int))).2 e
        rw [if_pos e]; simp only [e', Bool.not_true, Bool.false_eq_true, if_false]
      · have e' := Bool.eq_false_iff.2 (fun h => e ((mv_eq (gt a (i : Int)) (gt b (i : Int))).1 h))
        rw [if_neg e]; simp only [e', Bool.not_false, if_true]) (by unfold m_slices_Equal_api_Move_api_Move_l1; simp) (by omega)
    have c' : ((a.length : Int) != (b.length : Int)) = false := by simp [c]
    simp only [c', Bool.false_eq_true, if_false, h, bind_some']
    by_cases e : a = b <;> simp [e]
  · have c' : ((a.length : Int) != (b.length : Int)) = true := by rw [bne_iff_ne]; omega
    simp only [c', if_true]
    rw [decide_eq_false (fun e => c (by rw [e]))]
theorem way_eq (a b : MWay) : (a.To = b.To ∧ a.Moves = b.Moves) ↔ a = b := by cases a; cases b; simp
theorem stand_eq (a b : MStand) : (a.Accept = b.Accept ∧ a.Ways = b.Ways) ↔ a = b := by cases a; cases b; simp
theorem prog_eq (a b : MProg) : (a.Tags = b.Tags ∧ a.Regs = b.Regs ∧ a.Class = b.Class ∧ a.Stands = b.Stands) ↔ a = b := by cases a; cases b; simp
open Classical in
theorem m_sameWay {a b : MWay} {fuel : Nat} (hl : a.Moves.length ≤ 1300) (hf : 2000 < fuel) : m_alloc_sameWay fuel a b = some (decide (a = b)) := by
  unfold m_alloc_sameWay
  by_cases c : a.To = b.To
  · have c' : (a.To == b.To) = true := by simp [c]
    simp only [c', if_true, m_movesS hl hf, bind_some']
    by_cases d : a.Moves = b.Moves
    · rw [decide_eq_true d, decide_eq_true ((way_eq a b).1 ⟨c, d⟩)]
    · rw [decide_eq_false d, decide_eq_false (fun e => d ((way_eq a b).2 e).2)]
  · have c' : (a.To == b.To) = false := by simp [c]
    simp only [c', Bool.false_eq_true, if_false, bind_some']
    rw [decide_eq_false (fun e => c ((way_eq a b).2 e).1)]
open Classical in
theorem m_refWay {a b : MWay} {fuel : Nat} (hl : a.Moves.length ≤ 1300) (hf : 2000 < fuel) : m_ref28_sameWay fuel a b = some (decide (a = b)) := by
  unfold m_ref28_sameWay
  by_cases c : a.To = b.To
  · have c' : (a.To != b.To) = false := by simp [c]
    by_cases cl : a.Moves.length = b.Moves.length
    · have h := iter_same (a := a.Moves) (b := b.Moves) (fu := fuel) (body := m_ref28_sameWay_l1 fuel a b) cl (fun i hi => by
        have h1 : inb a.Moves (i : Int) = true := inb_true (by omega) (by omega)
        have h2 : inb b.Moves (i : Int) = true := inb_true (by omega) (by omega)
        have hd : (i : Int) < (a.Moves.length : Int) := by omega
        unfold m_ref28_sameWay_l1
        simp only [hd, decide_true, if_true, h1, h2, W_succ (show i < 9223372036854775807 by omega)]
        by_cases e : SameAt a.Moves b.Moves i
        · have e' := (mv_eq (gt a.Moves (i : Int)) (gt b.Moves (i : Int))).2 e
          rw [if_pos e]; simp only [e', Bool.not_true, Bool.false_eq_true, if_false]
        · have e' := Bool.eq_false_iff.2 (fun h => e ((mv_eq (gt a.Moves (i : Int)) (gt b.Moves (i : Int))).1 h))
          rw [if_neg e]; simp only [e', Bool.not_false, if_true]) (by unfold m_ref28_sameWay_l1; simp) (by omega)
      have cl' : ((a.Moves.length : Int) != (b.Moves.length : Int)) = false := by simp [cl]
      simp only [c', cl', Bool.false_eq_true, if_false, bind_some', h]
      by_cases d : a.Moves = b.Moves
      · rw [if_pos d, decide_eq_true ((way_eq a b).1 ⟨c, d⟩)]
      · rw [if_neg d, decide_eq_false (fun e => d ((way_eq a b).2 e).2)]
    · have cl' : ((a.Moves.length : Int) != (b.Moves.length : Int)) = true := by rw [bne_iff_ne]; omega
      simp only [c', cl', Bool.false_eq_true, if_false, bind_some', if_true]
      rw [decide_eq_false (fun e => cl (by rw [e]))]
  · have c' : (a.To != b.To) = true := by simp [c]
    simp only [c', if_true, bind_some']
    rw [decide_eq_false (fun e => c ((way_eq a b).2 e).1)]
open Classical in
theorem m_sameStand {a b : MStand} {fuel : Nat} (hs : SizeS a) (hf : 2000 < fuel) : m_alloc_sameStand fuel a b = some (decide (a = b)) := by
  obtain ⟨b1, b2, b3⟩ := hs
  unfold m_alloc_sameStand
  simp only [m_intsS (a := a.Accept) (b := b.Accept) (by omega) hf, bind_some']
  by_cases c : a.Accept = b.Accept
  · simp only [c, decide_true, if_true]
    unfold m_slices_EqualFunc_api_Way_api_Way_api_Way_api_Way_alloc_sameWay
    by_cases cl : a.Ways.length = b.Ways.length
    · have h := iter_same (a := a.Ways) (b := b.Ways) (fu := fuel) (body := m_slices_EqualFunc_api_Way_api_Way_api_Way_api_Way_alloc_sameWay_l1 fuel b.Ways a.Ways) cl (fun i hi => by
        have h1 : inb a.Ways (i : Int) = true := inb_true (by omega) (by omega)
        have h2 : inb b.Ways (i : Int) = true := inb_true (by omega) (by omega)
        have hd : (i : Int) < (a.Ways.length : Int) := by omega
        unfold m_slices_EqualFunc_api_Way_api_Way_api_Way_api_Way_alloc_sameWay_l1
        simp only [hd, decide_true, if_true, h1, h2, m_sameWay (a := gt a.Ways (i : Int)) (b := gt b.Ways (i : Int)) (b3 i hi) hf, bind_some', W_succ (show i < 9223372036854775807 by omega)]
        by_cases e : SameAt a.Ways b.Ways i
        · rw [if_pos e, decide_eq_true (show gt a.Ways (i : Int) = gt b.Ways (i : Int) from e)]; rfl
        · rw [if_neg e, decide_eq_false (show ¬ gt a.Ways (i : Int) = gt b.Ways (i : Int) from e)]; rfl) (by unfold m_slices_EqualFunc_api_Way_api_Way_api_Way_api_Way_alloc_sameWay_l1; simp) (by omega)
      have cl' : ((a.Ways.length : Int) != (b.Ways.length : Int)) = false := by simp [cl]
      simp only [cl', Bool.false_eq_true, if_false, h, bind_some']
      by_cases d : a.Ways = b.Ways
      · rw [if_pos d, decide_eq_true ((stand_eq a b).1 ⟨c, d⟩)]; rfl
      · rw [if_neg d, decide_eq_false (fun e => d ((stand_eq a b).2 e).2)]; rfl
    · have cl' : ((a.Ways.length : Int) != (b.Ways.length : Int)) = true := by rw [bne_iff_ne]; omega
      simp only [cl', if_true, bind_some']
      rw [decide_eq_false (fun e => cl (by rw [e]))]
  · simp only [c, decide_false, Bool.false_eq_true, if_false, bind_some']
    rw [decide_eq_false (fun e => c ((stand_eq a b).2 e).1)]
open Classical in
theorem m_sameA {a b : MProg} {fuel : Nat} (hs : SizeP a) (hf : 2000 < fuel) : m_alloc_Same fuel a b = some (decide (a = b)) := by
  obtain ⟨b1, b2, b3⟩ := hs
  unfold m_alloc_Same
  by_cases c1 : a.Tags = b.Tags
  · have c1' : (a.Tags == b.Tags) = true := by simp [c1]
    by_cases c2 : a.Regs = b.Regs
    · have c2' : (a.Regs == b.Regs) = true := by simp [c2]
      simp only [c1', c2', if_true, m_intsS (a := a.Class) (b := b.Class) (by omega) hf, bind_some']
      by_cases c3 : a.Class = b.Class
      · simp only [c3, decide_true, if_true]
        unfold m_slices_EqualFunc_api_Stand_api_Stand_api_Stand_api_Stand_alloc_sameStand
        by_cases cl : a.Stands.length = b.Stands.length
        · have h := iter_same (a := a.Stands) (b := b.Stands) (fu := fuel) (body := m_slices_EqualFunc_api_Stand_api_Stand_api_Stand_api_Stand_alloc_sameStand_l1 fuel b.Stands a.Stands) cl (fun i hi => by
            have h1 : inb a.Stands (i : Int) = true := inb_true (by omega) (by omega)
            have h2 : inb b.Stands (i : Int) = true := inb_true (by omega) (by omega)
            have hd : (i : Int) < (a.Stands.length : Int) := by omega
            unfold m_slices_EqualFunc_api_Stand_api_Stand_api_Stand_api_Stand_alloc_sameStand_l1
            simp only [hd, decide_true, if_true, h1, h2, m_sameStand (a := gt a.Stands (i : Int)) (b := gt b.Stands (i : Int)) (b3 i hi) hf, bind_some', W_succ (show i < 9223372036854775807 by omega)]
            by_cases e : SameAt a.Stands b.Stands i
            · rw [if_pos e, decide_eq_true (show gt a.Stands (i : Int) = gt b.Stands (i : Int) from e)]; rfl
            · rw [if_neg e, decide_eq_false (show ¬ gt a.Stands (i : Int) = gt b.Stands (i : Int) from e)]; rfl) (by unfold m_slices_EqualFunc_api_Stand_api_Stand_api_Stand_api_Stand_alloc_sameStand_l1; simp) (by omega)
          have cl' : ((a.Stands.length : Int) != (b.Stands.length : Int)) = false := by simp [cl]
          simp only [cl', Bool.false_eq_true, if_false, h, bind_some']
          by_cases d : a.Stands = b.Stands
          · rw [if_pos d, decide_eq_true ((prog_eq a b).1 ⟨c1, c2, c3, d⟩)]; rfl
          · rw [if_neg d, decide_eq_false (fun e => d ((prog_eq a b).2 e).2.2.2)]; rfl
        · have cl' : ((a.Stands.length : Int) != (b.Stands.length : Int)) = true := by rw [bne_iff_ne]; omega
          simp only [cl', if_true, bind_some']
          rw [decide_eq_false (fun e => cl (by rw [e]))]
      · simp only [c3, decide_false, Bool.false_eq_true, if_false, bind_some']
        rw [decide_eq_false (fun e => c3 ((prog_eq a b).2 e).2.2.1)]
    · have c2' : (a.Regs == b.Regs) = false := by simp [c2]
      simp only [c1', c2', if_true, Bool.false_eq_true, if_false, bind_some']
      rw [decide_eq_false (fun e => c2 ((prog_eq a b).2 e).2.1)]
  · have c1' : (a.Tags == b.Tags) = false := by simp [c1]
    simp only [c1', Bool.false_eq_true, if_false, bind_some']
    rw [decide_eq_false (fun e => c1 ((prog_eq a b).2 e).1)]
open Classical in
theorem m_sameR {a b : MProg} {fuel : Nat} (hs : SizeP a) (hf : 2000 < fuel) : m_ref28_Same fuel a b = some (decide (a = b)) := by
  obtain ⟨b1, b2, b3⟩ := hs
  unfold m_ref28_Same
  by_cases c1 : a.Tags = b.Tags
  · have c1' : (a.Tags != b.Tags) = false := by simp [c1]
    by_cases c2 : a.Regs = b.Regs
    · have c2' : (a.Regs != b.Regs) = false := by simp [c2]
      by_cases c3 : a.Class = b.Class
      · have hc : m_ref06_Ints fuel a.Class b.Class = some true := by rw [m_intsR (by omega) hf, decide_eq_true c3]
        by_cases cl : a.Stands.length = b.Stands.length
        · have cl' : ((a.Stands.length : Int) != (b.Stands.length : Int)) = false := by simp [cl]
          have h := iter_same (a := a.Stands) (b := b.Stands) (fu := fuel) (body := m_ref28_Same_l1 fuel a b) cl (fun i hi => by
            have h1 : inb a.Stands (i : Int) = true := inb_true (by omega) (by omega)
            have h2 : inb b.Stands (i : Int) = true := inb_true (by omega) (by omega)
            have hd : (i : Int) < (a.Stands.length : Int) := by omega
            obtain ⟨d1, d2, d3⟩ := b3 i hi
            unfold m_ref28_Same_l1
            simp only [hd, decide_true, if_true, h1, h2, bind_some', W_succ (show i < 9223372036854775807 by omega)]
            have hst := stand_eq (gt a.Stands (i : Int)) (gt b.Stands (i : Int))
            unfold SameAt
            generalize gt a.Stands (i : Int) = x at d1 d2 d3 hst ⊢
            generalize gt b.Stands (i : Int) = y at hst ⊢
            simp only [m_intsR (a := x.Accept) (b := y.Accept) (by omega) hf, bind_some']
            by_cases e1 : x.Accept = y.Accept
            · by_cases el : x.Ways.length = y.Ways.length
              · have el' : ((x.Ways.length : Int) != (y.Ways.length : Int)) = false := by simp [el]
                have h2 := iter_same (a := x.Ways) (b := y.Ways) (fu := fuel) (body := m_ref28_Same_l2 fuel a b (i : Int) x y) el (fun c hc => by
                  have h1 : inb x.Ways (c : Int) = true := inb_true (by omega) (by omega)
                  have h2 : inb y.Ways (c : Int) = true := inb_true (by omega) (by omega)
                  have hd : (c : Int) < (x.Ways.length : Int) := by omega
                  unfold m_ref28_Same_l2
                  simp only [hd, decide_true, if_true, h1, h2, m_refWay (a := gt x.Ways (c : Int)) (b := gt y.Ways (c : Int)) (d3 c hc) hf, bind_some', W_succ (show c < 9223372036854775807 by omega)]
                  by_cases e : SameAt x.Ways y.Ways c
                  · rw [if_pos e, decide_eq_true (show gt x.Ways (c : Int) = gt y.Ways (c : Int) from e)]; rfl
                  · rw [if_neg e, decide_eq_false (show ¬ gt x.Ways (c : Int) = gt y.Ways (c : Int) from e)]; rfl) (by unfold m_ref28_Same_l2; simp) (by omega)
                simp only [e1, decide_true, Bool.not_true, Bool.false_eq_true, if_false, el', bind_some', h2]
                by_cases ew : x.Ways = y.Ways
                · rw [if_pos ew, if_pos (hst.1 ⟨e1, ew⟩)]
                · rw [if_neg ew, if_neg (fun h => ew (hst.2 h).2)]
              · have el' : ((x.Ways.length : Int) != (y.Ways.length : Int)) = true := by rw [bne_iff_ne]; omega
                simp only [e1, decide_true, Bool.not_true, Bool.false_eq_true, if_false, el', bind_some', if_true]
                rw [if_neg (fun h => el (by rw [h]))]
            · simp only [e1, decide_false, Bool.not_false, if_true, bind_some']
              rw [if_neg (fun h => e1 (hst.2 h).1)]) (by unfold m_ref28_Same_l1; simp) (by omega)
          simp only [c1', c2', Bool.false_eq_true, if_false, hc, bind_some', Bool.not_true, cl', h]
          by_cases d : a.Stands = b.Stands
          · rw [if_pos d, decide_eq_true ((prog_eq a b).1 ⟨c1, c2, c3, d⟩)]
          · rw [if_neg d, decide_eq_false (fun e => d ((prog_eq a b).2 e).2.2.2)]
        · have cl' : ((a.Stands.length : Int) != (b.Stands.length : Int)) = true := by rw [bne_iff_ne]; omega
          simp only [c1', c2', Bool.false_eq_true, if_false, hc, bind_some', Bool.not_true, cl', if_true]
          rw [decide_eq_false (fun e => cl (by rw [e]))]
      · simp only [c1', c2', Bool.false_eq_true, if_false, m_intsR (a := a.Class) (b := b.Class) (by omega) hf, bind_some', c3, decide_false, Bool.not_false, if_true]
        rw [decide_eq_false (fun e => c3 ((prog_eq a b).2 e).2.2.1)]
    · have c2' : (a.Regs != b.Regs) = true := by simp [c2]
      simp only [c1', c2', Bool.false_eq_true, if_false, bind_some', if_true]
      rw [decide_eq_false (fun e => c2 ((prog_eq a b).2 e).2.1)]
  · have c1' : (a.Tags != b.Tags) = true := by simp [c1]
    simp only [c1', bind_some', if_true]
    rw [decide_eq_false (fun e => c1 ((prog_eq a b).2 e).1)]
end Go.Proofs.YtjkoiijpmiibpaaGreat
