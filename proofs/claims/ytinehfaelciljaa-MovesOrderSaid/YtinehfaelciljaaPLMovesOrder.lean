/- MovesOrder: moves put in order do, one after the other, what they do at once, in the least number. Its conditions: none. -/
import Derived.Test.YtinehfaelciljaaPMov6
import Derived.Test.YtinehfaelciljaaPSure27
import Derived.Test.YtinehfaelciljaaFMovesOrder
set_option autoImplicit false
namespace Go.Proofs.Ytinehfaelciljaa
open Go.V Go.RowKit

def fillM (p2 : List Int) : Nat → List Int
  | 0 => List.replicate 100 0
  | i + 1 => if i < p2.length then ((fillM p2 i).set i (W (1000 + (i : Int)))).set i (gt p2 i) else (fillM p2 i).set i (W (1000 + (i : Int)))
theorem fill_len (p2 : List Int) : ∀ i, (fillM p2 i).length = 100
  | 0 => List.length_replicate
  | i + 1 => by unfold fillM; split <;> simp [fill_len p2 i]
open Classical in
theorem m_orderM {ms : List MMove} {sp : Int} {fuel : Nat} (hl : ms.length ≤ 60) (hf : 1000 < fuel) : m_moves_Order fuel ms sp = if RightM ms ∧ FreeM ms sp then Option.bind (m_moves_order_run fuel (askM ms sp)) fun o => some (o.out, 0) else some ([], 1) := by
  unfold m_moves_Order
  simp only [m_once (ms := ms) (by omega) hf, bind_some', m_contains (ms := ms) (sp := sp) (by omega) hf]
  by_cases h1 : RightM ms
  · by_cases h2 : sp < 0
    · have hF : ¬ FreeM ms sp := fun h => by have := h.1; omega
      simp [h1, h2, hF]
    · by_cases h3 : ∃ i, i < ms.length ∧ usesM ms sp i
      · have hF : ¬ FreeM ms sp := fun h => by obtain ⟨i, h4, h5⟩ := h3; exact h.2 i h4 h5
        simp [h1, h2, hF, h3]
      · have hF : FreeM ms sp := ⟨by omega, fun i h4 h5 => h3 ⟨i, h4, h5⟩⟩
        simp only [h1, hF, and_self, if_true, decide_true, Bool.not_true, Bool.false_eq_true, if_false, h2, decide_false, h3, bind_some', m_ask (sp := sp) (right_nd h1) (show ms.length ≤ 1000 by omega) hf]
  · simp [h1]
theorem movesOrder_law : MovesOrderLaw := by
  intro p0 p1 p2 hw hl hk1 hw2 hl2
  refine ⟨10000000000000, ?_⟩
  have hs := sure27
  have hf : 1000 < 10000000000000 := by omega
  generalize 10000000000000 = fuel at *
  unfold m_law27_MovesOrder
  by_cases c1 : (p0.length : Int) > 60
  · simp [c1, hs]
  by_cases c2 : (p2.length : Int) > 100
  · simp [c1, c2, hs]
  have hlm : p0.length ≤ 60 := by omega
  simp only [c1, c2, decide_false, Bool.false_eq_true, if_false, bind_some', m_orderM hlm hf, m_right (show p0.length ≤ 1000 by omega) hf, m_free27 (show p0.length ≤ 1000 by omega) hf]
  by_cases hR : RightM p0
  case neg => simp [hR, hs]
  by_cases hF : FreeM p0 p1
  case neg => simp [hR, hF, hs]
  have hsp : ∀ m ∈ p0, m.To ≠ p1 ∧ m.From ≠ p1 := by
    intro m hm
    obtain ⟨i, hi, rfl⟩ := List.mem_iff_getElem.1 hm
    have := hF.2 i hi
    unfold usesM at this
    rw [gtE hi] at this
    exact ⟨fun e => this (.inl e), fun e => this (.inr e)⟩
  have hsp0 := hF.1
  have hn := right_nd hR
  obtain ⟨o, ho, hI, he⟩ := order_ends (fuel := fuel) (-7) (gt (fillM p2 100)) hlm hR hsp (by omega) hf
  have hlen := hI.len
  rw [he, List.length_nil, Nat.add_zero] at hlen
  have hKl := keyS_le p0
  have hqle : rings (fS p0) (keyS p0) (p0.length + 1) ≤ (keyS p0).length := List.countP_le_length
  rw [if_pos ⟨hR, hF⟩, ho]
  simp only [bind_some', hR, hF, decide_true, Bool.not_true, Bool.false_eq_true, if_false, m_least27 (show p0.length ≤ 1000 by omega) hf hR]
  generalize hq : rings (fS p0) (keyS p0) (p0.length + 1) = q at *
  have h1 : iter (m_law27_MovesOrder_l1 fuel p0 p1 p2 (o.out, 0) (((((keyS p0).length + q : Nat) : Int)), 0)) fuel (0, 0) = some (((keyS p0).length : Nat) : Int) := by
    rw [keyS_len]
    refine iter_end (body := m_law27_MovesOrder_l1 fuel p0 p1 p2 (o.out, 0) ((((p0.countP ntM + q : Nat) : Int)), 0)) (fu := fuel) p0.length (fun i => ((((p0.take i).countP ntM : Nat) : Int), (i : Int))) ((p0.countP ntM : Nat) : Int) (fun i hi => ?_) (by unfold m_law27_MovesOrder_l1; simp) (by omega)
    have hin : inb p0 (i : Int) = true := inb_true (by omega) (by omega)
    have hd : (i : Int) < (p0.length : Int) := by omega
    have hb1 : (p0.take i).countP ntM ≤ 1000 := Nat.le_trans List.countP_le_length (by rw [List.length_take]; omega)
    unfold m_law27_MovesOrder_l1
    rw [gt_take hi, List.countP_append, List.countP_singleton]
    generalize hA : (p0.take i).countP ntM = A at hb1
    simp only [hd, decide_true, if_true, hin, W_succ (show i < 9223372036854775807 by omega), bind_some']
    rw [show ((gt p0 i).To != (gt p0 i).From) = ntM (gt p0 i) from rfl]
    cases ntM (gt p0 i) <;> simp [W_succ (show A < 9223372036854775807 by omega)]
  rw [h1]
  have hx : ((o.out.length : Int) != (((keyS p0).length + q : Nat) : Int)) = false := by rw [bne_eq_false_iff_eq]; omega
  simp only [bind_some', show ((0 : Int) != 0) = false from rfl, Bool.false_eq_true, if_false, hx]
  have h2 : iter (m_law27_MovesOrder_l2 fuel p0 p1 p2 (o.out, 0) ((((keyS p0).length + q : Nat) : Int), 0) (((keyS p0).length : Nat) : Int)) fuel 0 = some (.inl ()) := by
    refine iter_endI (body := m_law27_MovesOrder_l2 fuel p0 p1 p2 (o.out, 0) ((((keyS p0).length + q : Nat) : Int), 0) (((keyS p0).length : Nat) : Int)) o.out.length (Sum.inl ()) (fun i hi => ?_) (by unfold m_law27_MovesOrder_l2; simp) (by omega)
    have hin : inb o.out (i : Int) = true := inb_true (by omega) (by omega)
    have hd : (i : Int) < (o.out.length : Int) := by omega
    have hm : gt o.out (i : Int) ∈ o.out := by rw [gtE hi]; exact List.getElem_mem hi
    have hne := hI.ne _ hm
    have hrg := hI.rg _ hm
    unfold m_law27_MovesOrder_l2
    have e1 : ((gt o.out (i : Int)).To == (gt o.out (i : Int)).From) = false := by simpa using hne
    by_cases e2 : (gt o.out (i : Int)).To = p1
    · have := hrg e2
      have e3 : (((((keyS p0).length + q : Nat) : Int)) == (((keyS p0).length : Nat) : Int)) = false := by rw [beq_eq_false_iff_ne]; omega
      have e4 : ((gt o.out (i : Int)).To == p1) = true := by simpa using e2
      simp only [hd, decide_true, if_true, hin, e1, e4, e3, bind_some', Bool.false_eq_true, if_false, W_succ (show i < 9223372036854775807 by omega)]
    · have e4 : ((gt o.out (i : Int)).To == p1) = false := by simpa using e2
      simp only [hd, decide_true, if_true, hin, e1, e4, bind_some', Bool.false_eq_true, if_false, W_succ (show i < 9223372036854775807 by omega)]
  rw [h2]
  simp only [bind_some']
  have hst3 : ∀ i, i < p0.length → m_law27_MovesOrder_l3 fuel p0 p1 p2 (o.out, 0) (i : Int) = if ((gt p0 (i : Int)).To ≥ 100 ∨ (gt p0 (i : Int)).From ≥ 100 ∨ p1 ≥ 100) then some (.done (.inr true)) else some (.next ((i + 1 : Nat) : Int)) := by
    intro i hi
    have hin : inb p0 (i : Int) = true := inb_true (by omega) (by omega)
    have hd : (i : Int) < (p0.length : Int) := by omega
    unfold m_law27_MovesOrder_l3
    simp only [hd, decide_true, if_true, hin, hs, bind_some', W_succ (show i < 9223372036854775807 by omega)]
    by_cases d1 : (gt p0 (i : Int)).To ≥ 100
    · simp [d1]
    · by_cases d2 : (gt p0 (i : Int)).From ≥ 100
      · simp [d1, d2]
      · by_cases d3 : p1 ≥ 100 <;> simp [d1, d2, d3]
  rcases first_bad (fun i => (gt p0 (i : Int)).To ≥ 100 ∨ (gt p0 (i : Int)).From ≥ 100 ∨ p1 ≥ 100) p0.length with h3 | ⟨i, h3, h4, h5⟩
  case inr =>
    rw [iter_endI (body := m_law27_MovesOrder_l3 fuel p0 p1 p2 (o.out, 0)) i (.inr true) (fun j hj => by rw [hst3 j (by omega), if_neg (h5 j hj)]) (by rw [hst3 i h3, if_pos h4]) (by omega)]
    rfl
  rw [iter_endI (body := m_law27_MovesOrder_l3 fuel p0 p1 p2 (o.out, 0)) p0.length (.inl ()) (fun i hi => by rw [hst3 i hi, if_neg (h3 i hi)]) (by unfold m_law27_MovesOrder_l3; simp) (by omega)]
  simp only [bind_some']
  rw [if_pos (show mkOk 8 100 = true from by decide)]
  have h6 : iter (m_law27_MovesOrder_l4 fuel p0 p1 p2 (o.out, 0)) fuel (List.replicate (Int.toNat 100) (0 : Int), 0) = some (fillM p2 100) := by
    refine iter_end (body := m_law27_MovesOrder_l4 fuel p0 p1 p2 (o.out, 0)) (fu := fuel) 100 (fun i => (fillM p2 i, (i : Int))) (fillM p2 100) (fun i hi => ?_) (by unfold m_law27_MovesOrder_l4; simp [fill_len]) (by omega)
    have hL := fill_len p2 i
    have hin : inb (fillM p2 i) (i : Int) = true := inb_true (by omega) (by omega)
    have hd : (i : Int) < ((fillM p2 i).length : Int) := by omega
    unfold m_law27_MovesOrder_l4
    simp only [hd, decide_true, if_true, hin, Int.toNat_natCast, W_succ (show i < 9223372036854775807 by omega)]
    by_cases d : i < p2.length
    · have d1 : (i : Int) < (p2.length : Int) := by omega
      have d2 : inb p2 (i : Int) = true := inb_true (by omega) (by omega)
      have d3 : inb ((fillM p2 i).set i (W (1000 + (i : Int)))) (i : Int) = true := inb_true (by omega) (by rw [List.length_set]; omega)
      simp only [d1, d2, d3, decide_true, if_true, bind_some', fillM, d]
    · have d1 : ¬ (i : Int) < (p2.length : Int) := by omega
      simp only [d1, decide_false, Bool.false_eq_true, if_false, bind_some', fillM, d]
  rw [h6]
  have hL := fill_len p2 100
  have hrange : ∀ m ∈ p0, inR (fillM p2 100).length m := by
    intro m hm
    have ht := right_to hR m hm
    obtain ⟨i, hi, rfl⟩ := List.mem_iff_getElem.1 hm
    have := h3 i hi
    rw [gtE hi] at this
    rw [hL]
    exact ⟨ht.1, by omega, ht.2, by omega⟩
  have hout : ∀ m ∈ o.out, inR (fillM p2 100).length m := by
    by_cases hz : p0.length = 0
    · intro m hm
      have : o.out.length = 0 := by omega
      rw [List.length_eq_zero_iff.1 this] at hm
      simp at hm
    · have := h3 0 (by omega)
      exact out_range hR hrange ⟨hsp0, by rw [hL]; omega⟩ hI
  have hregs := end_regs hR hrange hI he hout
  have ha := m_apply27 (fuel := fuel) (now := -7) hout (by omega) (by omega) hf
  have hb := m_once27 (fuel := fuel) (now := -7) hrange (by omega) (by omega) hf
  have la := apply_len (-7) o.out (fillM p2 100)
  have lb := once_len (-7) (gt (fillM p2 100)) p0 (fillM p2 100)
  simp only [bind_some', ha, hb]
  generalize applyL (-7) (fillM p2 100) o.out = A at *
  generalize onceL (-7) (gt (fillM p2 100)) (fillM p2 100) p0 = B at *
  by_cases c3 : p1 < (A.length : Int)
  · have e := set_eq (a := A) (b := B) (p := p1.toNat) (by omega) (fun j hj hne => hregs j (by omega) (by omega) (by omega))
    simp only [c3, decide_true, if_true, inb_true hsp0 c3, inb_true (l := B) hsp0 (by omega), bind_some', e, m_ints (a := B.set p1.toNat 0) (fuel := fuel) (by rw [List.length_set]; omega) hf, hs]
  · have e : A = B := List.ext_getElem (by omega) (fun i h1 h2 => by
      have := hregs i (by omega) (by omega) (by omega)
      rwa [gtE h1, gtE h2] at this)
    subst e
    simp only [c3, decide_false, Bool.false_eq_true, if_false, bind_some', m_ints (a := A) (fuel := fuel) (by omega) hf, hs, if_true]
theorem movesOrder_holds : Rows.MovesOrderSaid := frameMovesOrder movesOrder_law
end Go.Proofs.Ytinehfaelciljaa
