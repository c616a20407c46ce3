/- How a node is nothing, and the ways into a node; by the program and by the document. Its conditions: none. -/
import Derived.Test.YtfhehbfifffipaaPFol3
set_option autoImplicit false
namespace Go.Proofs.Ytfhehbfifffipaa
open Go.V Go.RowKit

/-! Steps. -/
def opn (q : Nat) : Int := 2 * (q : Int)
def cls (q : Nat) : Int := 2 * (q : Int) + 1
def Tm.steps (lo : Nat) : Tm → List Int
  | .eps => [opn lo, cls lo]
  | .leaf _ => [opn lo, cls lo]
  | .cat a b => [opn (Tm.top (.cat a b) lo)] ++ (a.steps lo ++ b.steps (lo + a.size)) ++ [cls (Tm.top (.cat a b) lo)]
  | .alt a b => [opn (Tm.top (.alt a b) lo)] ++ (if a.can then a.steps lo else b.steps (lo + a.size)) ++ [cls (Tm.top (.alt a b) lo)]
  | .star a => [opn (Tm.top (.star a) lo), cls (Tm.top (.star a) lo)]
  | .maybe a => [opn (Tm.top (.maybe a) lo), cls (Tm.top (.maybe a) lo)]
  | .group n a => [opn (Tm.top (.group n a) lo)] ++ a.steps lo ++ [cls (Tm.top (.group n a) lo)]
  | .iter a => [opn (Tm.top (.iter a) lo)] ++ a.steps lo ++ [cls (Tm.top (.iter a) lo)]
theorem Tm.steps_le (t : Tm) : ∀ lo, (t.steps lo).length ≤ 2 * t.size := by
  induction t with
  | eps => intro lo; simp [Tm.steps, Tm.size]
  | leaf s => intro lo; simp [Tm.steps, Tm.size]
  | cat a b iha ihb => intro lo; have := iha lo; have := ihb (lo + a.size); simp [Tm.steps, Tm.size]; omega
  | alt a b iha ihb => intro lo; have := iha lo; have := ihb (lo + a.size); simp only [Tm.steps, Tm.size]; split <;> simp <;> omega
  | star a iha | maybe a iha => intro lo; have := iha lo; simp [Tm.steps, Tm.size]; omega
  | group n a iha => intro lo; have := iha lo; simp [Tm.steps, Tm.size]; omega
  | iter a iha => intro lo; have := iha lo; simp [Tm.steps, Tm.size]; omega
theorem W_opn {q : Nat} (h : q ≤ 1000000000) : W (2 * (q : Int)) = opn q := W_id (by omega) (by omega)
theorem W_cls {q : Nat} (h : q ≤ 1000000000) : W (opn q + 1) = cls q := W_id (by unfold opn; omega) (by unfold opn; omega)
theorem At.top_lt {l : List MTerm} {lo : Nat} {s : Tm} (h : At l lo s) : s.top lo < l.length := by have := h.len; have := s.size_pos; unfold Tm.top; omega
/-- What 'can' tells. -/
structure CanT (l : List MTerm) (c : List Bool) : Prop where
  len : c.length = l.length
  top : ∀ (s : Tm) (lo : Nat), At l lo s → gt c (s.top lo : Int) = s.can
theorem canT {l : List MTerm} (hR : RightB l = true) : CanT l (CanF l) := by
  simp only [CanF, hR, if_true]
  exact ⟨canL_len _ _, fun s lo h => canL_top h _ (by have := h.len; have := s.size_pos; unfold Tm.top; omega)⟩
theorem m_walk {l : List MTerm} {c : List Bool} (hc : CanT l c) (hl : l.length ≤ 400) (fuel : Nat) : ∀ (s : Tm) (lo : Nat), At l lo s → ∀ (k : Nat) (out : List Int), s.size ≤ k → out.length + 2 * s.size ≤ 1000000000 →
    m_null_walk fuel k l c (s.top lo : Int) out = some (out ++ s.steps lo) := by
  intro s
  induction s with
  | eps | leaf _ =>
    intro lo h k out hk ho
    obtain ⟨k, rfl⟩ : ∃ q, k = q + 1 := ⟨k - 1, by simp [Tm.size] at hk; omega⟩
    have hlen := h.len
    have hg := h.gt_top
    simp only [Tm.size] at hlen ho
    have hin : inb l (lo : Int) = true := inb_true (by omega) (by omega)
    have ap1 : ∀ x : Int, apOk 8 out [x] = true := fun x => apOk_true (by simp; omega)
    have ap2 : ∀ x y : Int, apOk 8 (out ++ [x]) [y] = true := fun x y => apOk_true (by simp; omega)
    simp only [Tm.top, Tm.size, Nat.add_sub_cancel] at hg ⊢
    unfold m_null_walk
    simp [W_opn (show lo ≤ 1000000000 by omega), W_cls (show lo ≤ 1000000000 by omega), ap1, ap2, hin, hg, Tm.node, Tm.steps]
  | cat a b iha ihb =>
    intro lo h k out hk ho
    obtain ⟨k, rfl⟩ : ∃ q, k = q + 1 := ⟨k - 1, by simp [Tm.size] at hk; omega⟩
    have hlen := h.len
    have hg := h.gt_top
    obtain ⟨ha, hb, _⟩ := (At.bin rfl rfl).1 h
    have sa := a.steps_le lo; have sb := b.steps_le (lo + a.size)
    simp only [Tm.steps]
    simp only [Tm.size] at hlen ho hk
    have htop : Tm.top (.cat a b) lo < l.length := by simp only [Tm.top, Tm.size]; omega
    generalize Tm.top (.cat a b) lo = r at *
    have hin : inb l (r : Int) = true := inb_true (by omega) (by omega)
    have ap1 : apOk 8 out [opn r] = true := apOk_true (by simp; omega)
    unfold m_null_walk
    simp only [W_opn (show r ≤ 1000000000 by omega), ap1, if_true, hin, hg, Tm.node]
    have e1 := iha lo ha k (out ++ [opn r]) (by omega) (by simp; omega)
    have e2 := ihb (lo + a.size) hb k (out ++ [opn r] ++ a.steps lo) (by omega) (by simp; omega)
    have ap2 : apOk 8 (out ++ [opn r] ++ a.steps lo ++ b.steps (lo + a.size)) [cls r] = true := apOk_true (by simp; omega)
    simp only [beq_self_eq_true, if_true, e1, bind_some', e2, W_cls (show r ≤ 1000000000 by omega), ap2]
    simp
  | alt a b iha ihb =>
    intro lo h k out hk ho
    obtain ⟨k, rfl⟩ : ∃ q, k = q + 1 := ⟨k - 1, by simp [Tm.size] at hk; omega⟩
    have hlen := h.len
    have hg := h.gt_top
    obtain ⟨ha, hb, _⟩ := (At.bin rfl rfl).1 h
    have sa := a.steps_le lo; have sb := b.steps_le (lo + a.size)
    simp only [Tm.steps]
    simp only [Tm.size] at hlen ho hk
    have htop : Tm.top (.alt a b) lo < l.length := by simp only [Tm.top, Tm.size]; omega
    generalize Tm.top (.alt a b) lo = r at *
    have hin : inb l (r : Int) = true := inb_true (by omega) (by omega)
    have ap1 : apOk 8 out [opn r] = true := apOk_true (by simp; omega)
    have hia : inb c (a.top lo : Int) = true := inb_true (by omega) (by rw [hc.len]; unfold Tm.top; omega)
    unfold m_null_walk
    simp only [W_opn (show r ≤ 1000000000 by omega), ap1, if_true, hin, hg, Tm.node, hia, hc.top a lo ha]
    have e1 := iha lo ha k (out ++ [opn r]) (by omega) (by simp; omega)
    have e2 := ihb (lo + a.size) hb k (out ++ [opn r]) (by omega) (by simp; omega)
    have ap2 : apOk 8 (out ++ [opn r] ++ a.steps lo) [cls r] = true := apOk_true (by simp; omega)
    have ap3 : apOk 8 (out ++ [opn r] ++ b.steps (lo + a.size)) [cls r] = true := apOk_true (by simp; omega)
    rw [show ((4 : Int) == 3) = false from rfl, show ((4 : Int) == 4) = true from rfl]
    cases a.can
    · simp only [Bool.false_eq_true, if_false, if_true, e2, bind_some', W_cls (show r ≤ 1000000000 by omega), ap3]
      simp
    · simp only [Bool.false_eq_true, if_false, if_true, e1, bind_some', W_cls (show r ≤ 1000000000 by omega), ap2]
      simp
  | star a iha | maybe a iha =>
    intro lo h k out hk ho
    obtain ⟨k, rfl⟩ : ∃ q, k = q + 1 := ⟨k - 1, by simp [Tm.size] at hk; omega⟩
    have hlen := h.len
    have hg := h.gt_top
    simp only [Tm.steps]
    simp only [Tm.size] at hlen ho hk
    have htop := h.top_lt
    generalize Tm.top _ lo = r at *
    have hin : inb l (r : Int) = true := inb_true (by omega) (by omega)
    have ap1 : ∀ x : Int, apOk 8 out [x] = true := fun x => apOk_true (by simp; omega)
    have ap2 : ∀ x y : Int, apOk 8 (out ++ [x]) [y] = true := fun x y => apOk_true (by simp; omega)
    unfold m_null_walk
    simp [W_opn (show r ≤ 1000000000 by omega), W_cls (show r ≤ 1000000000 by omega), ap1, ap2, hin, hg, Tm.node]
  | group n a iha | iter a iha =>
    intro lo h k out hk ho
    obtain ⟨k, rfl⟩ : ∃ q, k = q + 1 := ⟨k - 1, by simp [Tm.size] at hk; omega⟩
    have hlen := h.len
    have hg := h.gt_top
    obtain ⟨ha, _⟩ := (At.un rfl rfl).1 h
    have sa := a.steps_le lo
    simp only [Tm.steps]
    simp only [Tm.size] at hlen ho hk
    have htop := h.top_lt
    generalize Tm.top _ lo = r at *
    have hin : inb l (r : Int) = true := inb_true (by omega) (by omega)
    have ap1 : apOk 8 out [opn r] = true := apOk_true (by simp; omega)
    have e1 := iha lo ha k (out ++ [opn r]) (by omega) (by simp; omega)
    have ap2 : apOk 8 (out ++ [opn r] ++ a.steps lo) [cls r] = true := apOk_true (by simp; omega)
    unfold m_null_walk
    simp only [W_opn (show r ≤ 1000000000 by omega), ap1, if_true, hin, hg, Tm.node]
    simp [e1, W_cls (show r ≤ 1000000000 by omega)]
    simpa using ap2
theorem r_Of {l : List MTerm} {c : List Bool} (hc : CanT l c) (hl : l.length ≤ 400) (fuel : Nat) : ∀ (s : Tm) (lo : Nat), At l lo s → ∀ (k : Nat), s.size ≤ k →
    m_ref12_Of fuel k l c (s.top lo : Int) = some (s.steps lo) := by
  intro s
  induction s with
  | eps | leaf _ =>
    intro lo h k hk
    obtain ⟨k, rfl⟩ : ∃ q, k = q + 1 := ⟨k - 1, by simp [Tm.size] at hk; omega⟩
    have hlen := h.len
    have hg := h.gt_top
    simp only [Tm.size] at hlen
    have hin : inb l (lo : Int) = true := inb_true (by omega) (by omega)
    have ap2 : ∀ x y : Int, apOk 8 [x] [y] = true := fun x y => apOk_true (by simp)
    simp only [Tm.top, Tm.size, Nat.add_sub_cancel] at hg ⊢
    unfold m_ref12_Of
    simp [W_opn (show lo ≤ 1000000000 by omega), W_cls (show lo ≤ 1000000000 by omega), ap2, hin, hg, Tm.node, Tm.steps]
  | cat a b iha ihb =>
    intro lo h k hk
    obtain ⟨k, rfl⟩ : ∃ q, k = q + 1 := ⟨k - 1, by simp [Tm.size] at hk; omega⟩
    have hlen := h.len
    have hg := h.gt_top
    obtain ⟨ha, hb, _⟩ := (At.bin rfl rfl).1 h
    have sa := a.steps_le lo; have sb := b.steps_le (lo + a.size)
    simp only [Tm.steps]
    simp only [Tm.size] at hlen hk
    have htop : Tm.top (.cat a b) lo < l.length := by simp only [Tm.top, Tm.size]; omega
    generalize Tm.top (.cat a b) lo = r at *
    have hin : inb l (r : Int) = true := inb_true (by omega) (by omega)
    have e1 := iha lo ha k (by omega)
    have e2 := ihb (lo + a.size) hb k (by omega)
    have ap1 : apOk 8 [opn r] (a.steps lo) = true := apOk_true (by simp; omega)
    have ap2 : apOk 8 ([opn r] ++ a.steps lo) (b.steps (lo + a.size)) = true := apOk_true (by simp; omega)
    have ap3 : apOk 8 (([opn r] ++ a.steps lo) ++ b.steps (lo + a.size)) [cls r] = true := apOk_true (by simp; omega)
    unfold m_ref12_Of
    simp only [W_opn (show r ≤ 1000000000 by omega), if_true, hin, hg, Tm.node, beq_self_eq_true, e1, e2, bind_some', ap1, ap2, W_cls (show r ≤ 1000000000 by omega), ap3]
    simp
  | alt a b iha ihb =>
    intro lo h k hk
    obtain ⟨k, rfl⟩ : ∃ q, k = q + 1 := ⟨k - 1, by simp [Tm.size] at hk; omega⟩
    have hlen := h.len
    have hg := h.gt_top
    obtain ⟨ha, hb, _⟩ := (At.bin rfl rfl).1 h
    have sa := a.steps_le lo; have sb := b.steps_le (lo + a.size)
    simp only [Tm.steps]
    simp only [Tm.size] at hlen hk
    have htop : Tm.top (.alt a b) lo < l.length := by simp only [Tm.top, Tm.size]; omega
    generalize Tm.top (.alt a b) lo = r at *
    have hin : inb l (r : Int) = true := inb_true (by omega) (by omega)
    have hia : inb c (a.top lo : Int) = true := inb_true (by omega) (by rw [hc.len]; unfold Tm.top; omega)
    have e1 := iha lo ha k (by omega)
    have e2 := ihb (lo + a.size) hb k (by omega)
    have ap1 : apOk 8 [opn r] (a.steps lo) = true := apOk_true (by simp; omega)
    have ap1b : apOk 8 [opn r] (b.steps (lo + a.size)) = true := apOk_true (by simp; omega)
    have ap3 : apOk 8 ([opn r] ++ a.steps lo) [cls r] = true := apOk_true (by simp; omega)
    have ap4 : apOk 8 ([opn r] ++ b.steps (lo + a.size)) [cls r] = true := apOk_true (by simp; omega)
    unfold m_ref12_Of
    simp only [W_opn (show r ≤ 1000000000 by omega), if_true, hin, hg, Tm.node, hia, hc.top a lo ha]
    rw [show ((4 : Int) == 3) = false from rfl, show ((4 : Int) == 4) = true from rfl]
    cases a.can
    · simp only [Bool.false_eq_true, if_false, if_true, e2, bind_some', ap1b, W_cls (show r ≤ 1000000000 by omega), ap4]
    · simp only [Bool.false_eq_true, if_false, if_true, e1, bind_some', ap1, W_cls (show r ≤ 1000000000 by omega), ap3]
  | star a iha | maybe a iha =>
    intro lo h k hk
    obtain ⟨k, rfl⟩ : ∃ q, k = q + 1 := ⟨k - 1, by simp [Tm.size] at hk; omega⟩
    have hlen := h.len
    have hg := h.gt_top
    simp only [Tm.steps]
    simp only [Tm.size] at hlen hk
    have htop := h.top_lt
    generalize Tm.top _ lo = r at *
    have hin : inb l (r : Int) = true := inb_true (by omega) (by omega)
    have ap2 : ∀ x y : Int, apOk 8 [x] [y] = true := fun x y => apOk_true (by simp)
    unfold m_ref12_Of
    simp [W_opn (show r ≤ 1000000000 by omega), W_cls (show r ≤ 1000000000 by omega), ap2, hin, hg, Tm.node]
  | group n a iha | iter a iha =>
    intro lo h k hk
    obtain ⟨k, rfl⟩ : ∃ q, k = q + 1 := ⟨k - 1, by simp [Tm.size] at hk; omega⟩
    have hlen := h.len
    have hg := h.gt_top
    obtain ⟨ha, _⟩ := (At.un rfl rfl).1 h
    have sa := a.steps_le lo
    simp only [Tm.steps]
    simp only [Tm.size] at hlen hk
    have htop := h.top_lt
    generalize Tm.top _ lo = r at *
    have hin : inb l (r : Int) = true := inb_true (by omega) (by omega)
    have e1 := iha lo ha k (by omega)
    have ap1 : apOk 8 [opn r] (a.steps lo) = true := apOk_true (by simp; omega)
    have ap2 : apOk 8 ([opn r] ++ a.steps lo) [cls r] = true := apOk_true (by simp; omega)
    unfold m_ref12_Of
    simp only [W_opn (show r ≤ 1000000000 by omega), if_true, hin, hg, Tm.node]
    simp [e1, ap1, W_cls (show r ≤ 1000000000 by omega)]
    simpa using ap2
theorem m_Steps {l : List MTerm} (hw : ∀ x ∈ l, wfTerm x) {t : Tm} (ht : IsT l t) (hR : RightB l = true) {fuel : Nat} (hf : 401 < fuel) {lo : Nat} {s : Tm} (h : At l lo s) :
    m_null_Steps fuel l (s.top lo : Int) = some (if s.can then s.steps lo else []) := by
  have h400 := ht.le; have hlen := ht.len; have hsl := h.len; have hp := s.size_pos
  have hc := canT hR
  have htl : s.top lo < l.length := by unfold Tm.top; omega
  have hn : ¬ ((s.top lo : Int) ≥ ((CanF l).length : Int)) := by rw [hc.len]; omega
  have hn0 : ¬ ((s.top lo : Int) < 0) := by omega
  have hin : inb (CanF l) (s.top lo : Int) = true := inb_true (by omega) (by rw [hc.len]; omega)
  unfold m_null_Steps
  rw [m_Can hw hf]
  simp only [bind_some', hn0, decide_false, Bool.false_eq_true, if_false, hn, hin, if_true, hc.top s lo h]
  cases s.can
  · rfl
  · rw [m_walk hc (by omega) fuel s lo h fuel [] (by omega) (by simp; omega)]; rfl
theorem r_Steps {l : List MTerm} (hw : ∀ x ∈ l, wfTerm x) {t : Tm} (ht : IsT l t) (hR : RightB l = true) {fuel : Nat} (hf : 401 < fuel) {lo : Nat} {s : Tm} (h : At l lo s) :
    m_ref12_Steps fuel l (s.top lo : Int) = some (if s.can then s.steps lo else []) := by
  have h400 := ht.le; have hlen := ht.len; have hsl := h.len; have hp := s.size_pos
  have hc := canT hR
  have htl : s.top lo < l.length := by unfold Tm.top; omega
  have hn : ¬ ((s.top lo : Int) ≥ ((CanF l).length : Int)) := by rw [hc.len]; omega
  have hn0 : ¬ ((s.top lo : Int) < 0) := by omega
  have hin : inb (CanF l) (s.top lo : Int) = true := inb_true (by omega) (by rw [hc.len]; omega)
  unfold m_ref12_Steps
  rw [r_Can hw (by omega) hf (by omega)]
  simp only [bind_some', hn0, decide_false, Bool.false_eq_true, if_false, hn, hin, if_true, hc.top s lo h]
  cases s.can
  · rfl
  · rw [r_Of hc (by omega) fuel s lo h fuel (by omega)]; rfl
end Go.Proofs.Ytfhehbfifffipaa
