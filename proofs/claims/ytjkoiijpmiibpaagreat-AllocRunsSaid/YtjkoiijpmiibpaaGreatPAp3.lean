/- Runs of programs: copies, what is found, classes. Its conditions: none. -/
import Derived.Test.YtjkoiijpmiibpaaGreatPAp1
import Derived.Test.YtjkoiijpmiibpaaGreatPMa4
set_option autoImplicit false
namespace Go.Proofs.YtjkoiijpmiibpaaGreat
open Go.V Go.RowKit

/-! A program in memory of its own. -/
theorem m_copied {p : MProg} {fuel : Nat} (hs : SizeP p) (hf : 2000 < fuel) : m_alloc_copied fuel p = some p := by
  obtain ⟨b1, b2, b3⟩ := hs
  have hl2 : ∀ (x4 : MProg) (i : Nat), i < p.Stands.length → iter (m_alloc_copied_l2 fuel x4 p (i : Int) (gt p.Stands (i : Int)).Accept) fuel ((⟨(gt p.Stands (i : Int)).Accept, ([] : (List MWay))⟩ : MStand), 0) = some (gt p.Stands (i : Int)) := by
    intro x4 i hi
    obtain ⟨d1, d2, d3⟩ := b3 i hi
    have h := iter_end (body := m_alloc_copied_l2 fuel x4 p (i : Int) (gt p.Stands (i : Int)).Accept) (fu := fuel) (gt p.Stands (i : Int)).Ways.length (fun c => ((⟨(gt p.Stands (i : Int)).Accept, (gt p.Stands (i : Int)).Ways.take c⟩ : MStand), (c : Int))) (gt p.Stands (i : Int)) (fun c hc => by
      have hin : inb (gt p.Stands (i : Int)).Ways (c : Int) = true := inb_true (by omega) (by omega)
      have hd : (c : Int) < ((gt p.Stands (i : Int)).Ways.length : Int) := by omega
      have hm : (gt (gt p.Stands (i : Int)).Ways (c : Int)).Moves.length ≤ 1300 := d3 c hc
      unfold m_alloc_copied_l2 m_slices_Clone_api_Move_api_Move
      simp only [hd, decide_true, if_true, hin, W_succ (show c < 9223372036854775807 by omega)]
      rw [if_pos (apOk_true (by simp; omega))]
      simp only [bind_some']
      rw [if_pos (apOk_true (by simp; omega)), take_gt hc]) (by
      unfold m_alloc_copied_l2
      simp [List.take_length]) (by omega)
    exact h
  unfold m_alloc_copied m_slices_Clone_int_int
  rw [if_pos (apOk_true (by simp; omega))]
  simp only [bind_some']
  have h := iter_end (body := m_alloc_copied_l1 fuel (⟨p.Tags, p.Regs, p.Class, ([] : List MStand)⟩ : MProg) p) (fu := fuel) p.Stands.length (fun i => ((⟨p.Tags, p.Regs, p.Class, p.Stands.take i⟩ : MProg), (i : Int))) p (fun i hi => by
    obtain ⟨d1, d2, d3⟩ := b3 i hi
    have hin : inb p.Stands (i : Int) = true := inb_true (by omega) (by omega)
    have hd : (i : Int) < (p.Stands.length : Int) := by omega
    unfold m_alloc_copied_l1 m_slices_Clone_int_int
    simp only [hd, decide_true, if_true, hin, W_succ (show i < 9223372036854775807 by omega)]
    rw [if_pos (apOk_true (by simp; omega))]
    simp only [bind_some', hl2 _ i hi]
    rw [if_pos (apOk_true (by simp; omega)), take_gt hi]) (by unfold m_alloc_copied_l1; simp [List.take_length]) (by omega)
  have h0 : iter (m_alloc_copied_l1 fuel (⟨p.Tags, p.Regs, p.Class, ([] : List MStand)⟩ : MProg) p) fuel ((⟨p.Tags, p.Regs, p.Class, ([] : List MStand)⟩ : MProg), 0) = some p := h
  rw [h0]; rfl
/-! What tags say that groups span. -/
def spanL (a b : Int) : MSpan := if a < 0 ∨ b < 0 then ⟨-1, -1⟩ else ⟨a, b⟩
def spansN (tags : List Int) (to : Int) : Nat → List MSpan
  | 0 => [spanL (gt tags 0) to]
  | k + 1 => spansN tags to k ++ [spanL (gt tags ((2 * k + 1 : Nat) : Int)) (gt tags ((2 * k + 2 : Nat) : Int))]
def spansL (tags : List Int) (to : Int) : List MSpan := if tags.length % 2 = 0 then [] else spansN tags to (tags.length / 2)
theorem spansN_len (tags : List Int) (to : Int) : ∀ k, (spansN tags to k).length = k + 1
  | 0 => rfl
  | k + 1 => by simp [spansN, spansN_len tags to k]
theorem tmod_nat (n : Nat) : Int.tmod (n : Int) 2 = ((n % 2 : Nat) : Int) := rfl
theorem m_markSpans {tags : List Int} {to : Int} {fuel : Nat} (hl : tags.length ≤ 1000) (hf : 2000 < fuel) : m_mark_Spans fuel tags to = some (spansL tags to) := by
  unfold m_mark_Spans spansL
  rw [tmod_nat]
  by_cases c : tags.length % 2 = 0
  · simp [c]
  have c' : (((tags.length % 2 : Nat) : Int) == 0) = false := by rw [beq_eq_false_iff_ne]; omega
  rw [if_neg c]
  simp only [c', Bool.false_eq_true, if_false]
  have hodd : tags.length % 2 = 1 := by omega
  have h := iter_end (body := m_mark_Spans_l1 fuel tags to) (fu := fuel) tags.length (fun i => ((if i = 0 then [] else spansN tags to (i / 2)), (i : Int))) (spansN tags to (tags.length / 2)) (fun i hi => by
    have hin : inb tags (i : Int) = true := inb_true (by omega) (by omega)
    have hd : (i : Int) < (tags.length : Int) := by omega
    unfold m_mark_Spans_l1
    simp only [hd, decide_true, if_true, hin, W_succ (show i < 9223372036854775807 by omega), tmod_nat, Nat.succ_ne_zero, if_false]
    by_cases c0 : i = 0
    · subst c0
      have e1 : ¬ ((0 : Nat) : Int) > 0 := by omega
      by_cases n1 : gt tags 0 < 0
      · simp [n1, spansN, spanL, apOk_true]
      · by_cases n2 : to < 0
        · simp [n1, n2, spansN, spanL, apOk_true]
        · simp [n1, n2, spansN, spanL, apOk_true]
    · have e1 : (i : Int) > 0 := by omega
      simp only [e1, decide_true, if_true, bind_some', c0, if_false]
      by_cases c2 : i % 2 = 0
      · have c2' : (((i % 2 : Nat) : Int) == 0) = true := by simp [c2]
        have e2 : (i + 1) / 2 = i / 2 := by omega
        simp only [c2', if_true, bind_some', e2]
      · have c2' : (((i % 2 : Nat) : Int) == 0) = false := by rw [beq_eq_false_iff_ne]; omega
        have hin2 : inb tags ((i + 1 : Nat) : Int) = true := inb_true (by omega) (by omega)
        have e2 : (i + 1) / 2 = i / 2 + 1 := by omega
        have e3 : 2 * (i / 2) + 1 = i := by omega
        have e4 : 2 * (i / 2) + 2 = i + 1 := by omega
        have hap : ∀ y, apOk 16 (spansN tags to (i / 2)) [y] = true := fun y => apOk_true (by rw [spansN_len]; simp; omega)
        simp only [c2', Bool.false_eq_true, if_false, hin2, if_true, e2, spansN, e3, e4]
        by_cases n1 : gt tags (i : Int) < 0
        · simp [n1, spanL, hap]
        · by_cases n2 : gt tags ((i + 1 : Nat) : Int) < 0
          · simp only [n1, n2, decide_false, decide_true, Bool.false_eq_true, if_false, if_true, bind_some', hap, spanL, or_true]
          · simp only [n1, n2, decide_false, Bool.false_eq_true, if_false, if_true, bind_some', hap, spanL, or_self]) (by
    unfold m_mark_Spans_l1
    have : ¬ tags.length = 0 := by omega
    simp [this]) (by omega)
  have h0 : iter (m_mark_Spans_l1 fuel tags to) fuel (([] : List MSpan), 0) = some (spansN tags to (tags.length / 2)) := h
  rw [h0]; rfl
theorem m_span20 {a b : Int} {fuel : Nat} : m_ref20_span fuel a b = some (spanL a b) := by
  unfold m_ref20_span spanL
  by_cases n1 : a < 0
  · simp [n1]
  · by_cases n2 : b < 0
    · simp [n1, n2]
    · simp [n1, n2]
theorem m_refSpans {tags : List Int} {to : Int} {fuel : Nat} (hl : tags.length ≤ 1000) (hf : 2000 < fuel) : m_ref20_Spans fuel tags to = some (spansL tags to) := by
  unfold m_ref20_Spans spansL
  rw [tmod_nat]
  by_cases c : tags.length % 2 = 0
  · simp [c]
  have c' : (((tags.length % 2 : Nat) : Int) == 0) = false := by rw [beq_eq_false_iff_ne]; omega
  have hin0 : inb tags 0 = true := inb_true (by omega) (by omega)
  rw [if_neg c]
  simp only [c', Bool.false_eq_true, if_false, hin0, if_true, m_span20, bind_some']
  have h := iter_end (body := m_ref20_Spans_l1 fuel tags (spanL (gt tags 0) to)) (fu := fuel) (tags.length / 2) (fun k => (spansN tags to k, ((2 * k + 1 : Nat) : Int))) (spansN tags to (tags.length / 2)) (fun k hk => by
    have hin : inb tags ((2 * k + 1 : Nat) : Int) = true := inb_true (by omega) (by omega)
    have hin2 : inb tags ((2 * k + 1 + 1 : Nat) : Int) = true := inb_true (by omega) (by omega)
    have hd : ((2 * k + 1 + 1 : Nat) : Int) < (tags.length : Int) := by omega
    have e : W (((2 * k + 1 : Nat) : Int) + 2) = ((2 * (k + 1) + 1 : Nat) : Int) := by rw [W_id (by omega) (by omega)]; omega
    unfold m_ref20_Spans_l1
    simp only [W_succ (show 2 * k + 1 < 9223372036854775807 by omega), hd, decide_true, if_true, hin, hin2, m_span20, bind_some', e]
    rw [if_pos (apOk_true (by rw [spansN_len]; simp; omega))]; rfl) (by
    have hd : ¬ ((2 * (tags.length / 2) + 1 + 1 : Nat) : Int) < (tags.length : Int) := by omega
    unfold m_ref20_Spans_l1
    simp only [W_succ (show 2 * (tags.length / 2) + 1 < 9223372036854775807 by omega), hd, decide_false, Bool.false_eq_true, if_false]) (by omega)
  have h0 : iter (m_ref20_Spans_l1 fuel tags (spanL (gt tags 0) to)) fuel ([spanL (gt tags 0) to], 1) = some (spansN tags to (tags.length / 2)) := h
  rw [h0]; rfl
theorem spansL_len (tags : List Int) (to : Int) (h : tags.length ≤ 1000) : (spansL tags to).length ≤ 1000 := by
  unfold spansL
  split
  · simp
  · rw [spansN_len]; omega
theorem m_spanned {a : List MSpan} {fuel : Nat} (hl : a.length ≤ 1000) (hf : 2000 < fuel) : m_ref14_Spanned fuel a a = some true := by
  unfold m_ref14_Spanned
  have h := iter_endI (body := m_ref14_Spanned_l1 fuel a a) (fu := fuel) a.length (.inl ()) (fun i hi => by
    have hin : inb a (i : Int) = true := inb_true (by omega) (by omega)
    have hd : (i : Int) < (a.length : Int) := by omega
    unfold m_ref14_Spanned_l1
    simp [hd, hin, W_succ (show i < 9223372036854775807 by omega)]) (by unfold m_ref14_Spanned_l1; simp) (by omega)
  simp [h]
/-! Each byte has a class. -/
theorem lsC_len (l : List Int) : ∀ i, ((lsC l i).length : Int) = nxC l i
  | 0 => rfl
  | i + 1 => by
    have ih := lsC_len l i
    unfold lsC nxC
    by_cases c : gt l (i : Int) = nxC l i
    · rw [if_pos c, if_pos (by omega), List.length_append]; simp; omega
    · rw [if_neg c, if_neg (by omega)]; exact ih
theorem nxC_mono (l : List Int) (i : Nat) : ∀ k, nxC l i ≤ nxC l (i + k)
  | 0 => Int.le_refl _
  | k + 1 => by
    have ih := nxC_mono l i k
    show nxC l i ≤ nxC l (i + k + 1)
    rw [nxC]; split <;> omega
theorem cls_lt {l : List Int} (h : ClsOk l) {b : Int} (h0 : 0 ≤ b) (h1 : b < 256) : 0 ≤ gt l b ∧ gt l b < (leastC l).length := by
  obtain ⟨k, rfl⟩ : ∃ k : Nat, b = (k : Int) := ⟨b.toNat, by omega⟩
  have hk := h.1 k (by rw [h.2]; omega)
  refine ⟨hk.1, ?_⟩
  unfold leastC
  rw [if_pos h, lsC_len]
  have h2 := nxC_mono l (k + 1) (256 - (k + 1))
  rw [show k + 1 + (256 - (k + 1)) = 256 by omega] at h2
  have h3 : gt l (k : Int) < nxC l (k + 1) := by
    have := hk.2
    rw [nxC]; split <;> omega
  omega
end Go.Proofs.YtjkoiijpmiibpaaGreat
