/- How a node is nothing, and the ways into a node; by the program and by the document. Its conditions: none. -/
import Derived.Test.YtfhehbfifffipaaPFol1
set_option autoImplicit false
namespace Go.Proofs.Ytfhehbfifffipaa
open Go.V Go.RowKit

/-! Steps. -/
def opn (q : Nat) : Int := 2 * (q : Int)
def cls (q : Nat) : Int := 2 * (q : Int) + 1
def Tm.steps (lo : Nat) : Tm → List Int
  | .eps => [opn lo, cls lo]
  | .leaf _ => [opn lo, cls lo]
  | .cat a b => [opn (Tm.top (.cat a b) lo)] ++ (a.steps lo ++ b.steps (lo + a.size)) ++ [cls (Tm.top (.cat a b) lo)]
  | .alt a b => [opn (Tm.top (.alt a b) lo)] ++ (if a.can then a.steps lo else b.steps (lo + a.size)) ++ [cls (Tm.top (.alt a b) lo)]
  | .star a => [opn (Tm.top (.star a) lo), cls (Tm.top (.star a) lo)]
  | .maybe a => [opn (Tm.top (.maybe a) lo), cls (Tm.top (.maybe a) lo)]
  | .group n a => [opn (Tm.top (.group n a) lo)] ++ a.steps lo ++ [cls (Tm.top (.group n a) lo)]
  | .iter a => [opn (Tm.top (.iter a) lo)] ++ a.steps lo ++ [cls (Tm.top (.iter a) lo)]
theorem Tm.steps_le (t : Tm) : ∀ lo, (t.steps lo).length ≤ 2 * t.size := by
  induction t with
  | eps => intro lo; simp [Tm.steps, Tm.size]
  | leaf s => intro lo; simp [Tm.steps, Tm.size]
  | cat a b iha ihb => intro lo; have := iha lo; have := ihb (lo + a.size); simp [Tm.steps, Tm.size]; omega
  | alt a b iha ihb => intro lo; have := iha lo; have := ihb (lo + a.size); simp only [Tm.steps, Tm.size]; split <;> simp <;> omega
  | star a iha | maybe a iha => intro lo; have := iha lo; simp [Tm.steps, Tm.size]; omega
  | group n a iha => intro lo; have := iha lo; simp [Tm.steps, Tm.size]; omega
  | iter a iha => intro lo; have := iha lo; simp [Tm.steps, Tm.size]; omega
theorem W_opn {q : Nat} (h : q ≤ 1000000000) : W (2 * (q : Int)) = opn q := W_id (by omega) (by omega)
theorem W_cls {q : Nat} (h : q ≤ 1000000000) : W (opn q + 1) = cls q := W_id (by unfold opn; omega) (by unfold opn; omega)
theorem At.top_lt {l : List MTerm} {lo : Nat} {s : Tm} (h : At l lo s) : s.top lo < l.length := by have := h.len; have := s.size_pos; unfold Tm.top; omega
/-- What 'can' tells. -/
structure CanT (l : List MTerm) (c : List Bool) : Prop where
  len : c.length = l.length
  top : ∀ (s : Tm) (lo : Nat), At l lo s → gt c (s.top lo : Int) = s.can
theorem canT {l : List MTerm} (hR : RightB l = true) : CanT l (CanF l) := by
  simp only [CanF, hR, if_true]
  exact ⟨canL_len _ _, fun s lo h => canL_top h _ (by have := h.len; have := s.size_pos; unfold Tm.top; omega)⟩
theorem m_walk {l : List MTerm} {c : List Bool} (hc : CanT l c) (hl : l.length ≤ 400) (fuel : Nat) : ∀ (s : Tm) (lo : Nat), At l lo s → ∀ (k : Nat) (out : List Int), s.size ≤ k → out.length + 2 * s.size ≤ 1000000000 →
    m_null_walk fuel k l c (s.top lo : Int) out = some (out ++ s.steps lo) := by
  intro s
  induction s with
  | eps | leaf _ =>
    intro lo h k out hk ho
    obtain ⟨k, rfl⟩ : ∃ q, k = q + 1 := ⟨k - 1, by simp [Tm.size] at hk; omega⟩
    have hlen := h.len
    have hg := h.gt_top
    simp only [Tm.size] at hlen ho
    have hin : inb l (lo : Int) = true := inb_true (by omega) (by omega)
    have ap1 : ∀ x : Int, apOk 8 out [x] = true := fun x => apOk_true (by simp; omega)
    have ap2 : ∀ x y : Int, apOk 8 (out ++ [x]) [y] = true := fun x y => apOk_true (by simp; omega)
    simp only [Tm.top, Tm.size, Nat.add_sub_cancel] at hg ⊢
    unfold m_null_walk
    simp [W_opn (show lo ≤ 1000000000 by omega), W_cls (show lo ≤ 1000000000 by omega), ap1, ap2, hin, hg, Tm.node, Tm.steps]
  | cat a b iha ihb =>
    intro lo h k out hk ho
    obtain ⟨k, rfl⟩ : ∃ q, k = q + 1 := ⟨k - 1, by simp [Tm.size] at hk; omega⟩
    have hlen := h.len
    have hg := h.gt_top
    obtain ⟨ha, hb, _⟩ := (At.bin rfl rfl).1 h
    have sa := a.steps_le lo; have sb := b.steps_le (lo + a.size)
    simp only [Tm.steps]
    simp only [Tm.size] at hlen ho hk
    have htop : Tm.top (.cat a b) lo < l.length := by simp only [Tm.top, Tm.size]; omega
    generalize Tm.top (.cat a b) lo = r at *
    have hin : inb l (r : Int) = true := inb_true (by omega) (by omega)
    have ap1 : apOk 8 out [opn r] = true := apOk_true (by simp; omega)
    unfold m_null_walk
    simp only [W_opn (show r ≤ 1000000000 by omega), ap1, if_true, hin, hg, Tm.node]
    have e1 := iha lo ha k (out ++ [opn r]) (by omega) (by simp; omega)
    have e2 := ihb (lo + a.size) hb k (out ++ [opn r] ++ a.steps lo) (by omega) (by simp; omega)
    have ap2 : apOk 8 (out ++ [opn r] ++ a.steps lo ++ b.steps (lo + a.size)) [cls r] = true := apOk_true (by simp; omega)
    simp only [beq_self_eq_true, if_true, e1, bind_some', e2, W_cls (show r ≤ 1000000000 by omega), ap2]
    simp
  | alt a b iha ihb =>
    intro lo h k out hk ho
    obtain ⟨k, rfl⟩ : ∃ q, k = q + 1 := ⟨k - 1, by simp [Tm.size] at hk; omega⟩
    have hlen := h.len
    have hg := h.gt_top
    obtain ⟨ha, hb, _⟩ := (At.bin rfl rfl).1 h
    have sa := a.steps_le lo; have sb := b.steps_le (lo + a.size)
    simp only [Tm.steps]
    simp only [Tm.size] at hlen ho hk
    have htop : Tm.top (.alt a b) lo < l.length := by simp only [Tm.top, Tm.size]; omega
    generalize Tm.top (.alt a b) lo = r at *
    have hin : inb l (r : Int) = true := inb_true (by omega) (by omega)
    have ap1 : apOk 8 out [opn r] = true := apOk_true (by simp; omega)
    have hia : inb c (a.top lo : Int) = true := inb_true (by omega) (by rw [hc.len]; unfold Tm.top; omega)
    unfold m_null_walk
    simp only [W_opn (show r ≤ 1000000000 by omega), ap1, if_true, hin, hg, Tm.node, hia, hc.top a lo ha]
    have e1 := iha lo ha k (out ++ [opn r]) (by omega) (by simp; omega)
    have e2 := ihb (lo + a.size) hb k (out ++ [opn r]) (by omega) (by simp; omega)
    have ap2 : apOk 8 (out ++ [opn r] ++ a.steps lo) [cls r] = true := apOk_true (by simp; omega)
    have ap3 : apOk 8 (out ++ [opn r] ++ b.steps (lo + a.size)) [cls r] = true := apOk_true (by simp; omega)
    rw [show ((4 : Int) == 3) = false from rfl, show ((4 : Int) == 4) = true from rfl]
    cases a.can
    · simp only [Bool.false_eq_true, if_false, if_true, e2, bind_some', W_cls (show r ≤ 1000000000 by omega), ap3]
      simp
    · simp only [Bool.false_eq_true, if_false, if_true, e1, bind_some', W_cls (show r ≤ 1000000000 by omega), ap2]
      simp
  | star a iha | maybe a iha =>
    intro lo h k out hk ho
    obtain ⟨k, rfl⟩ : ∃ q, k = q + 1 := ⟨k - 1, by simp [Tm.size] at hk; omega⟩
    have hlen := h.len
    have hg := h.gt_top
    simp only [Tm.steps]
    simp only [Tm.size] at hlen ho hk
    have htop := h.top_lt
    generalize Tm.top _ lo = r at *
    have hin : inb l (r : Int) = true := inb_true (by omega) (by omega)
    have ap1 : ∀ x : Int, apOk 8 out [x] = true := fun x => apOk_true (by simp; omega)
    have ap2 : ∀ x y : Int, apOk 8 (out ++ [x]) [y] = true := fun x y => apOk_true (by simp; omega)
    unfold m_null_walk
    simp [W_opn (show r ≤ 1000000000 by omega), W_cls (show r ≤ 1000000000 by omega), ap1, ap2, hin, hg, Tm.node]
  | group n a iha | iter a iha =>
    intro lo h k out hk ho
    obtain ⟨k, rfl⟩ : ∃ q, k = q + 1 := ⟨k - 1, by simp [Tm.size] at hk; omega⟩
    have hlen := h.len
    have hg := h.gt_top
    obtain ⟨ha, _⟩ := (At.un rfl rfl).1 h
    have sa := a.steps_le lo
    simp only [Tm.steps]
    simp only [Tm.size] at hlen ho hk
    have htop := h.top_lt
    generalize Tm.top _ lo = r at *
    have hin : inb l (r : Int) = true := inb_true (by omega) (by omega)
    have ap1 : apOk 8 out [opn r] = true := apOk_true (by simp; omega)
    have e1 := iha lo ha k (out ++ [opn r]) (by omega) (by simp; omega)
    have ap2 : apOk 8 (out ++ [opn r] ++ a.steps lo) [cls r] = true := apOk_true (by simp; omega)
    unfold m_null_walk
    simp only [W_opn (show r ≤ 1000000000 by omega), ap1, if_true, hin, hg, Tm.node]
    simp [e1, W_cls (show r ≤ 1000000000 by omega)]
    simpa using ap2
theorem r_Of {l : List MTerm} {c : List Bool} (hc : CanT l c) (hl : l.length ≤ 400) (fuel : Nat) : ∀ (s : Tm) (lo : Nat), At l lo s → ∀ (k : Nat), s.size ≤ k →
    m_ref12_Of fuel k l c (s.top lo : Int) = some (s.steps lo) := by
  intro s
  induction s with
  | eps | leaf _ =>
    intro lo h k hk
    obtain ⟨k, rfl⟩ : ∃ q, k = q + 1 := ⟨k - 1, by simp [Tm.size] at hk; omega⟩
    have hlen := h.len
    have hg := h.gt_top
    simp only [Tm.size] at hlen
    have hin : inb l (lo : Int) = true := inb_true (by omega) (by omega)
    have ap2 : ∀ x y : Int, apOk 8 [x] [y] = true := fun x y => apOk_true (by simp)
    simp only [Tm.top, Tm.size, Nat.add_sub_cancel] at hg ⊢
    unfold m_ref12_Of
    simp [W_opn (show lo ≤ 1000000000 by omega), W_cls (show lo ≤ 1000000000 by omega), ap2, hin, hg, Tm.node, Tm.steps]
  | cat a b iha ihb =>
    intro lo h k hk
    obtain ⟨k, rfl⟩ : ∃ q, k = q + 1 := ⟨k - 1, by simp [Tm.size] at hk; omega⟩
    have hlen := h.len
    have hg := h.gt_top
    obtain ⟨ha, hb, _⟩ := (At.bin rfl rfl).1 h
    have sa := a.steps_le lo; have sb := b.steps_le (lo + a.size)
    simp only [Tm.steps]
    simp only [Tm.size] at hlen hk
    have htop : Tm.top (.cat a b) lo < l.length := by simp only [Tm.top, Tm.size]; omega
    generalize Tm.top (.cat a b) lo = r at *
    have hin : inb l (r : Int) = true := inb_true (by omega) (by omega)
    have e1 := iha lo ha k (by omega)
    have e2 := ihb (lo + a.size) hb k (by omega)
    have ap1 : apOk 8 [opn r] (a.steps lo) = true := apOk_true (by simp; omega)
    have ap2 : apOk 8 ([opn r] ++ a.steps lo) (b.steps (lo + a.size)) = true := apOk_true (by simp; omega)
    have ap3 : apOk 8 (([opn r] ++ a.steps lo) ++ b.steps (lo + a.size)) [cls r] = true := apOk_true (by simp; omega)
    unfold m_ref12_Of
    simp only [W_opn (show r ≤ 1000000000 by omega), if_true, hin, hg, Tm.node, beq_self_eq_true, e1, e2, bind_some', ap1, ap2, W_cls (show r ≤ 1000000000 by omega), ap3]
    simp
  | alt a b iha ihb =>
    intro lo h k hk
    obtain ⟨k, rfl⟩ : ∃ q, k = q + 1 := ⟨k - 1, by simp [Tm.size] at hk; omega⟩
    have hlen := h.len
    have hg := h.gt_top
    obtain ⟨ha, hb, _⟩ := (At.bin rfl rfl).1 h
    have sa := a.steps_le lo; have sb := b.steps_le (lo + a.size)
    simp only [Tm.steps]
    simp only [Tm.size] at hlen hk
    have htop : Tm.top (.alt a b) lo < l.length := by simp only [Tm.top, Tm.size]; omega
    generalize Tm.top (.alt a b) lo = r at *
    have hin : inb l (r : Int) = true := inb_true (by omega) (by omega)
    have hia : inb c (a.top lo : Int) = true := inb_true (by omega) (by rw [hc.len]; unfold Tm.top; omega)
    have e1 := iha lo ha k (by omega)
    have e2 := ihb (lo + a.size) hb k (by omega)
    have ap1 : apOk 8 [opn r] (a.steps lo) = true := apOk_true (by simp; omega)
    have ap1b : apOk 8 [opn r] (b.steps (lo + a.size)) = true := apOk_true (by simp; omega)
    have ap3 : apOk 8 ([opn r] ++ a.steps lo) [cls r] = true := apOk_true (by simp; omega)
    have ap4 : apOk 8 ([opn r] ++ b.steps (lo + a.size)) [cls r] = true := apOk_true (by simp; omega)
    unfold m_ref12_Of
    simp only [W_opn (show r ≤ 1000000000 by omega), if_true, hin, hg, Tm.node, hia, hc.top a lo ha]
    rw [show ((4 : Int) == 3) = false from rfl, show ((4 : Int) == 4) = true from rfl]
    cases a.can
    · simp only [Bool.false_eq_true, if_false, if_true, e2, bind_some', ap1b, W_cls (show r ≤ 1000000000 by omega), ap4]
    · simp only [Bool.false_eq_true, if_false, if_true, e1, bind_some', ap1, W_cls (show r ≤ 1000000000 by omega), ap3]
  | star a iha | maybe a iha =>
    intro lo h k hk
    obtain ⟨k, rfl⟩ : ∃ q, k = q + 1 := ⟨k - 1, by simp [Tm.size] at hk; omega⟩
    have hlen := h.len
    have hg := h.gt_top
    simp only [Tm.steps]
    simp only [Tm.size] at hlen hk
    have htop := h.top_lt
    generalize Tm.top _ lo = r at *
    have hin : inb l (r : Int) = true := inb_true (by omega) (by omega)
    have ap2 : ∀ x y : Int, apOk 8 [x] [y] = true := fun x y => apOk_true (by simp)
    unfold m_ref12_Of
    simp [W_opn (show r ≤ 1000000000 by omega), W_cls (show r ≤ 1000000000 by omega), ap2, hin, hg, Tm.node]
  | group n a iha | iter a iha =>
    intro lo h k hk
    obtain ⟨k, rfl⟩ : ∃ q, k = q + 1 := ⟨k - 1, by simp [Tm.size] at hk; omega⟩
    have hlen := h.len
    have hg := h.gt_top
    obtain ⟨ha, _⟩ := (At.un rfl rfl).1 h
    have sa := a.steps_le lo
    simp only [Tm.steps]
    simp only [Tm.size] at hlen hk
    have htop := h.top_lt
    generalize Tm.top _ lo = r at *
    have hin : inb l (r : Int) = true := inb_true (by omega) (by omega)
    have e1 := iha lo ha k (by omega)
    have ap1 : apOk 8 [opn r] (a.steps lo) = true := apOk_true (by simp; omega)
    have ap2 : apOk 8 ([opn r] ++ a.steps lo) [cls r] = true := apOk_true (by simp; omega)
    unfold m_ref12_Of
    simp only [W_opn (show r ≤ 1000000000 by omega), if_true, hin, hg, Tm.node]
    simp [e1, ap1, W_cls (show r ≤ 1000000000 by omega)]
    simpa using ap2
theorem m_Steps {l : List MTerm} (hw : ∀ x ∈ l, wfTerm x) {t : Tm} (ht : IsT l t) (hR : RightB l = true) {fuel : Nat} (hf : 401 < fuel) {lo : Nat} {s : Tm} (h : At l lo s) :
    m_null_Steps fuel l (s.top lo : Int) = some (if s.can then s.steps lo else []) := by
  have h400 := ht.le; have hlen := ht.len; have hsl := h.len; have hp := s.size_pos
  have hc := canT hR
  have htl : s.top lo < l.length := by unfold Tm.top; omega
  have hn : ¬ ((s.top lo : Int) ≥ ((CanF l).length : Int)) := by rw [hc.len]; omega
  have hn0 : ¬ ((s.top lo : Int) < 0) := by omega
  have hin : inb (CanF l) (s.top lo : Int) = true := inb_true (by omega) (by rw [hc.len]; omega)
  unfold m_null_Steps
  rw [m_Can hw hf]
  simp only [bind_some', hn0, decide_false, Bool.false_eq_true, if_false, hn, hin, if_true, hc.top s lo h]
  cases s.can
  · rfl
  · rw [m_walk hc (by omega) fuel s lo h fuel [] (by omega) (by simp; omega)]; rfl
theorem r_Steps {l : List MTerm} (hw : ∀ x ∈ l, wfTerm x) {t : Tm} (ht : IsT l t) (hR : RightB l = true) {fuel : Nat} (hf : 401 < fuel) {lo : Nat} {s : Tm} (h : At l lo s) :
    m_ref12_Steps fuel l (s.top lo : Int) = some (if s.can then s.steps lo else []) := by
  have h400 := ht.le; have hlen := ht.len; have hsl := h.len; have hp := s.size_pos
  have hc := canT hR
  have htl : s.top lo < l.length := by unfold Tm.top; omega
  have hn : ¬ ((s.top lo : Int) ≥ ((CanF l).length : Int)) := by rw [hc.len]; omega
  have hn0 : ¬ ((s.top lo : Int) < 0) := by omega
  have hin : inb (CanF l) (s.top lo : Int) = true := inb_true (by omega) (by rw [hc.len]; omega)
  unfold m_ref12_Steps
  rw [r_Can hw (by omega) hf (by omega)]
  simp only [bind_some', hn0, decide_false, Bool.false_eq_true, if_false, hn, hin, if_true, hc.top s lo h]
  cases s.can
  · rfl
  · rw [r_Of hc (by omega) fuel s lo h fuel (by omega)]; rfl
def Tm.into (lo p : Nat) (ahead : List Int) : Tm → List MHop
  | .eps => []
  | .leaf _ => [⟨(p : Int), 0, ahead ++ [opn lo]⟩]
  | .cat a b => a.into lo p (ahead ++ [opn (Tm.top (.cat a b) lo)]) ++ (if a.can then b.into (lo + a.size) (p + a.leaves) (ahead ++ [opn (Tm.top (.cat a b) lo)] ++ a.steps lo) else [])
  | .alt a b => a.into lo p (ahead ++ [opn (Tm.top (.alt a b) lo)]) ++ b.into (lo + a.size) (p + a.leaves) (ahead ++ [opn (Tm.top (.alt a b) lo)])
  | .star a => a.into lo p (ahead ++ [opn (Tm.top (.star a) lo)])
  | .maybe a => a.into lo p (ahead ++ [opn (Tm.top (.maybe a) lo)])
  | .group n a => a.into lo p (ahead ++ [opn (Tm.top (.group n a) lo)])
  | .iter a => a.into lo p (ahead ++ [opn (Tm.top (.iter a) lo)])
theorem Tm.into_len (t : Tm) : ∀ lo p ahead, (t.into lo p ahead).length ≤ t.leaves := by
  induction t with
  | eps => intro lo p ahead; simp [Tm.into]
  | leaf s => intro lo p ahead; simp [Tm.into, Tm.leaves]
  | cat a b iha ihb =>
    intro lo p ahead
    have := iha lo p (ahead ++ [opn (Tm.top (.cat a b) lo)])
    have := ihb (lo + a.size) (p + a.leaves) (ahead ++ [opn (Tm.top (.cat a b) lo)] ++ a.steps lo)
    simp only [Tm.into, Tm.leaves]
    split <;> simp only [List.length_append, List.length_nil] <;> omega
  | alt a b iha ihb =>
    intro lo p ahead
    have := iha lo p (ahead ++ [opn (Tm.top (.alt a b) lo)])
    have := ihb (lo + a.size) (p + a.leaves) (ahead ++ [opn (Tm.top (.alt a b) lo)])
    simp only [Tm.into, Tm.leaves, List.length_append]; omega
  | star a iha | maybe a iha | group _ a iha | iter a iha => intro lo p ahead; exact iha _ _ _

theorem leavesN_at {l : List MTerm} : ∀ {s : Tm} {lo : Nat}, At l lo s → leavesN l (lo + s.size) = leavesN l lo + s.leaves := by
  intro s
  induction s with
  | eps => intro lo h; have hg := h.gt_top; simp only [Tm.top, Tm.size, Nat.add_sub_cancel] at hg; simp [Tm.size, leavesN, hg, Tm.node, Tm.leaves]
  | leaf s => intro lo h; have hg := h.gt_top; simp only [Tm.top, Tm.size, Nat.add_sub_cancel] at hg; simp [Tm.size, leavesN, hg, Tm.node, Tm.leaves]
  | cat a b iha ihb | alt a b iha ihb =>
    intro lo h
    have hg := h.gt_top
    obtain ⟨ha, hb, _⟩ := (At.bin rfl rfl).1 h
    simp only [Tm.top, Tm.size] at hg
    have e : lo + (a.size + b.size + 1) - 1 = lo + a.size + b.size := by omega
    rw [e] at hg
    simp only [Tm.size, ← Nat.add_assoc, leavesN, hg, Tm.node, Tm.leaves, ihb hb, iha ha]
    simp
  | star a iha | maybe a iha | group _ a iha | iter a iha =>
    intro lo h
    have hg := h.gt_top
    obtain ⟨ha, _⟩ := (At.un rfl rfl).1 h
    simp only [Tm.top, Tm.size] at hg
    have e : lo + (a.size + 1) - 1 = lo + a.size := by omega
    rw [e] at hg
    simp only [Tm.size, ← Nat.add_assoc, leavesN, hg, Tm.node, Tm.leaves, iha ha]
    simp
theorem m_more {fuel : Nat} {a b : List Int} (h : (a.length + b.length) * 8 ≤ 140737488355328) : m_follow_more fuel a b = some (a ++ b) := by
  have hs : slOk a 0 (a.length : Int) = true := by simp [slOk]
  have hc : cutL a 0 (a.length : Int) = a := by simp [cutL]
  have ha : apOk 8 a b = true := apOk_true h
  unfold m_follow_more
  simp [hs, hc, ha]
theorem r_put {fuel : Nat} {a b : List Int} (h : (a.length + b.length) * 8 ≤ 140737488355328) : m_ref17_put fuel a b = some (a ++ b) := by
  have h1 : apOk 8 ([] : List Int) a = true := apOk_true (by simp; omega)
  have h2 : apOk 8 a b = true := apOk_true h
  unfold m_ref17_put
  simp [h1, h2]
/-- What a chart tells. -/
structure ChartT (c : MFollowChart) (l : List MTerm) (t : Tm) : Prop where
  tl : c.l = l
  up : UpT c.up t
  deep : DeepT c.deep t
  index : c.index = idxL l l.length
  can : c.can = CanF l
theorem idx_leaf {l : List MTerm} {lo : Nat} {s : List Int} (h : At l lo (.leaf s)) : inb (idxL l l.length) (lo : Int) = true ∧ gt (idxL l l.length) (lo : Int) = (leavesN l lo : Int) := by
  have hlen := h.len
  have hg := h.gt_top
  simp only [Tm.top, Tm.size, Nat.add_sub_cancel] at hg hlen
  refine ⟨inb_true (by omega) (by rw [idxL_len]; omega), ?_⟩
  rw [gt_get_nat (idxL_get l l.length lo (by omega)), hg]
  simp [Tm.node]
theorem m_into {l : List MTerm} (hw : ∀ x ∈ l, wfTerm x) {t : Tm} (ht : IsT l t) (hR : RightB l = true) {c : MFollowChart} (hc : ChartT c l t) {fuel : Nat} (hf : 401 < fuel) :
    ∀ (s : Tm) (lo : Nat), At l lo s → ∀ (k : Nat) (ahead : List Int) (out : List MHop), s.size ≤ k → ahead.length + 1000 * s.size ≤ 1000000000 → out.length + s.size ≤ 1000000000 →
      m_follow_chart_into fuel k c (s.top lo : Int) ahead out = some (out ++ s.into lo (leavesN l lo) ahead) := by
  have h400 := ht.le; have hlen0 := ht.len
  have hcl := hc.tl; have hci := hc.index; have hcc := hc.can
  have hct := canT hR
  intro s
  induction s with
  | eps =>
    intro lo h k ahead out hk ho ho2
    obtain ⟨k, rfl⟩ : ∃ q, k = q + 1 := ⟨k - 1, by simp [Tm.size] at hk; omega⟩
    have htop := h.top_lt
    have hg := h.gt_top
    simp only [Tm.size] at ho ho2
    generalize Tm.top _ lo = r at *
    have hin : inb l (r : Int) = true := inb_true (by omega) (by omega)
    unfold m_follow_chart_into
    simp only [hcl, hin, if_true, W_opn (show r ≤ 1000000000 by omega), m_more (fuel := fuel) (a := ahead) (b := [opn r]) (by simp; omega), bind_some', hg, Tm.node]
    simp [Tm.into]
  | leaf s =>
    intro lo h k ahead out hk ho ho2
    obtain ⟨k, rfl⟩ : ∃ q, k = q + 1 := ⟨k - 1, by simp [Tm.size] at hk; omega⟩
    have htop := h.top_lt
    have hg := h.gt_top
    obtain ⟨i1, i2⟩ := idx_leaf h
    simp only [Tm.size] at ho ho2
    simp only [Tm.top, Tm.size, Nat.add_sub_cancel] at hg htop ⊢
    have hin : inb l (lo : Int) = true := inb_true (by omega) (by omega)
    have hap : ∀ x : MHop, apOk 40 out [x] = true := fun x => apOk_true (by simp; omega)
    unfold m_follow_chart_into
    simp only [hcl, hin, if_true, W_opn (show lo ≤ 1000000000 by omega), m_more (fuel := fuel) (a := ahead) (b := [opn lo]) (by simp; omega), bind_some', hg, Tm.node, hci, i1, i2, hap]
    simp [Tm.into]
  | cat a b iha ihb =>
    intro lo h k ahead out hk ho ho2
    obtain ⟨k, rfl⟩ : ∃ q, k = q + 1 := ⟨k - 1, by simp [Tm.size] at hk; omega⟩
    have htop := h.top_lt
    have hlen := h.len
    have hg := h.gt_top
    obtain ⟨ha, hb, _⟩ := (At.bin rfl rfl).1 h
    have sa := a.steps_le lo; have la := a.into_len lo (leavesN l lo) (ahead ++ [opn (Tm.top (.cat a b) lo)]); have lla := a.leaves_le
    simp only [Tm.into]
    simp only [Tm.size] at hlen ho ho2 hk
    generalize Tm.top (.cat a b) lo = r at *
    have hin : inb l (r : Int) = true := inb_true (by omega) (by omega)
    have hia : inb (CanF l) (a.top lo : Int) = true := inb_true (by omega) (by rw [hct.len]; have := ha.top_lt; omega)
    have e1 := iha lo ha k (ahead ++ [opn r]) out (by omega) (by simp; omega) (by omega)
    have e2 := ihb (lo + a.size) hb k (ahead ++ [opn r] ++ a.steps lo) (out ++ a.into lo (leavesN l lo) (ahead ++ [opn r])) (by omega) (by simp; omega) (by simp; omega)
    rw [leavesN_at ha] at e2
    unfold m_follow_chart_into
    simp only [hcl, hin, if_true, W_opn (show r ≤ 1000000000 by omega), m_more (fuel := fuel) (a := ahead) (b := [opn r]) (by simp; omega), bind_some', hg, Tm.node, e1, hcc, hia, hct.top a lo ha]
    rw [show ((3 : Int) == 2) = false from rfl, show ((3 : Int) == 3) = true from rfl]
    cases hcan : a.can
    · simp
    · simp only [Bool.false_eq_true, if_false, if_true, m_Steps hw ht hR hf ha, hcan, bind_some', m_more (fuel := fuel) (a := ahead ++ [opn r]) (b := a.steps lo) (by simp; omega), e2]
      simp
  | alt a b iha ihb =>
    intro lo h k ahead out hk ho ho2
    obtain ⟨k, rfl⟩ : ∃ q, k = q + 1 := ⟨k - 1, by simp [Tm.size] at hk; omega⟩
    have htop := h.top_lt
    have hlen := h.len
    have hg := h.gt_top
    obtain ⟨ha, hb, _⟩ := (At.bin rfl rfl).1 h
    have la := a.into_len lo (leavesN l lo) (ahead ++ [opn (Tm.top (.alt a b) lo)]); have lla := a.leaves_le
    simp only [Tm.into]
    simp only [Tm.size] at hlen ho ho2 hk
    generalize Tm.top (.alt a b) lo = r at *
    have hin : inb l (r : Int) = true := inb_true (by omega) (by omega)
    have e1 := iha lo ha k (ahead ++ [opn r]) out (by omega) (by simp; omega) (by omega)
    have e2 := ihb (lo + a.size) hb k (ahead ++ [opn r]) (out ++ a.into lo (leavesN l lo) (ahead ++ [opn r])) (by omega) (by simp; omega) (by simp; omega)
    rw [leavesN_at ha] at e2
    unfold m_follow_chart_into
    simp only [hcl, hin, if_true, W_opn (show r ≤ 1000000000 by omega), m_more (fuel := fuel) (a := ahead) (b := [opn r]) (by simp; omega), bind_some', hg, Tm.node, e1, e2]
    simp
  | star a iha | maybe a iha | group _ a iha | iter a iha =>
    intro lo h k ahead out hk ho ho2
    obtain ⟨k, rfl⟩ : ∃ q, k = q + 1 := ⟨k - 1, by simp [Tm.size] at hk; omega⟩
    have htop := h.top_lt
    have hlen := h.len
    have hg := h.gt_top
    obtain ⟨ha, _⟩ := (At.un rfl rfl).1 h
    simp only [Tm.into]
    simp only [Tm.size] at hlen ho ho2 hk
    generalize Tm.top _ lo = r at *
    have hin : inb l (r : Int) = true := inb_true (by omega) (by omega)
    have e1 := iha lo ha k (ahead ++ [opn r]) out (by omega) (by simp; omega) (by omega)
    unfold m_follow_chart_into
    simp only [hcl, hin, if_true, W_opn (show r ≤ 1000000000 by omega), m_more (fuel := fuel) (a := ahead) (b := [opn r]) (by simp; omega), bind_some', hg, Tm.node, e1]
    simp
theorem r_into {l : List MTerm} {t : Tm} (ht : IsT l t) (hR : RightB l = true) {fuel : Nat} (hf : 401 < fuel) :
    ∀ (s : Tm) (lo : Nat), At l lo s → ∀ (k : Nat) (ahead : List Int), s.size ≤ k → ahead.length + 1000 * s.size ≤ 1000000000 →
      m_ref17_into fuel k l (idxL l l.length) (CanF l) (s.top lo : Int) ahead = some (s.into lo (leavesN l lo) ahead) := by
  have h400 := ht.le; have hlen0 := ht.len
  have hct := canT hR
  intro s
  induction s with
  | eps =>
    intro lo h k ahead hk ho
    obtain ⟨k, rfl⟩ : ∃ q, k = q + 1 := ⟨k - 1, by simp [Tm.size] at hk; omega⟩
    have htop := h.top_lt
    have hg := h.gt_top
    simp only [Tm.size] at ho
    generalize Tm.top _ lo = r at *
    have hin : inb l (r : Int) = true := inb_true (by omega) (by omega)
    unfold m_ref17_into
    simp only [hin, if_true, W_opn (show r ≤ 1000000000 by omega), r_put (fuel := fuel) (a := ahead) (b := [opn r]) (by simp; omega), bind_some', hg, Tm.node]
    simp [Tm.into]
  | leaf s =>
    intro lo h k ahead hk ho
    obtain ⟨k, rfl⟩ : ∃ q, k = q + 1 := ⟨k - 1, by simp [Tm.size] at hk; omega⟩
    have htop := h.top_lt
    have hg := h.gt_top
    obtain ⟨i1, i2⟩ := idx_leaf h
    simp only [Tm.size] at ho
    simp only [Tm.top, Tm.size, Nat.add_sub_cancel] at hg htop ⊢
    have hin : inb l (lo : Int) = true := inb_true (by omega) (by omega)
    unfold m_ref17_into
    simp only [hin, if_true, W_opn (show lo ≤ 1000000000 by omega), r_put (fuel := fuel) (a := ahead) (b := [opn lo]) (by simp; omega), bind_some', hg, Tm.node, i1, i2]
    simp [Tm.into]
  | cat a b iha ihb =>
    intro lo h k ahead hk ho
    obtain ⟨k, rfl⟩ : ∃ q, k = q + 1 := ⟨k - 1, by simp [Tm.size] at hk; omega⟩
    have htop := h.top_lt
    have hlen := h.len
    have hg := h.gt_top
    obtain ⟨ha, hb, _⟩ := (At.bin rfl rfl).1 h
    have sa := a.steps_le lo; have la := a.into_len lo (leavesN l lo) (ahead ++ [opn (Tm.top (.cat a b) lo)]); have lla := a.leaves_le
    have lb := b.into_len (lo + a.size) (leavesN l lo + a.leaves) (ahead ++ [opn (Tm.top (.cat a b) lo)] ++ a.steps lo); have llb := b.leaves_le
    simp only [Tm.into]
    simp only [Tm.size] at hlen ho hk
    generalize Tm.top (.cat a b) lo = r at *
    have hin : inb l (r : Int) = true := inb_true (by omega) (by omega)
    have hia : inb (CanF l) (a.top lo : Int) = true := inb_true (by omega) (by rw [hct.len]; have := ha.top_lt; omega)
    have e1 := iha lo ha k (ahead ++ [opn r]) (by omega) (by simp; omega)
    have e2 := ihb (lo + a.size) hb k (ahead ++ [opn r] ++ a.steps lo) (by omega) (by simp; omega)
    rw [leavesN_at ha] at e2
    unfold m_ref17_into
    simp only [hin, if_true, W_opn (show r ≤ 1000000000 by omega), r_put (fuel := fuel) (a := ahead) (b := [opn r]) (by simp; omega), bind_some', hg, Tm.node, e1, hia, hct.top a lo ha]
    rw [show ((3 : Int) == 2) = false from rfl, show ((3 : Int) == 3) = true from rfl]
    cases hcan : a.can
    · simp
    · have hap : apOk 40 (a.into lo (leavesN l lo) (ahead ++ [opn r])) (b.into (lo + a.size) (leavesN l lo + a.leaves) (ahead ++ [opn r] ++ a.steps lo)) = true := apOk_true (by omega)
      simp only [Bool.false_eq_true, if_false, if_true, r_Of hct (by omega) fuel a lo ha fuel (by omega), bind_some', r_put (fuel := fuel) (a := ahead ++ [opn r]) (b := a.steps lo) (by simp; omega), e2, hap]
  | alt a b iha ihb =>
    intro lo h k ahead hk ho
    obtain ⟨k, rfl⟩ : ∃ q, k = q + 1 := ⟨k - 1, by simp [Tm.size] at hk; omega⟩
    have htop := h.top_lt
    have hlen := h.len
    have hg := h.gt_top
    obtain ⟨ha, hb, _⟩ := (At.bin rfl rfl).1 h
    have la := a.into_len lo (leavesN l lo) (ahead ++ [opn (Tm.top (.alt a b) lo)]); have lla := a.leaves_le
    have lb := b.into_len (lo + a.size) (leavesN l lo + a.leaves) (ahead ++ [opn (Tm.top (.alt a b) lo)]); have llb := b.leaves_le
    simp only [Tm.into]
    simp only [Tm.size] at hlen ho hk
    generalize Tm.top (.alt a b) lo = r at *
    have hin : inb l (r : Int) = true := inb_true (by omega) (by omega)
    have e1 := iha lo ha k (ahead ++ [opn r]) (by omega) (by simp; omega)
    have e2 := ihb (lo + a.size) hb k (ahead ++ [opn r]) (by omega) (by simp; omega)
    rw [leavesN_at ha] at e2
    have hap : apOk 40 (a.into lo (leavesN l lo) (ahead ++ [opn r])) (b.into (lo + a.size) (leavesN l lo + a.leaves) (ahead ++ [opn r])) = true := apOk_true (by omega)
    unfold m_ref17_into
    simp only [hin, if_true, W_opn (show r ≤ 1000000000 by omega), r_put (fuel := fuel) (a := ahead) (b := [opn r]) (by simp; omega), bind_some', hg, Tm.node, e1, e2, hap]
    simp
  | star a iha | maybe a iha | group _ a iha | iter a iha =>
    intro lo h k ahead hk ho
    obtain ⟨k, rfl⟩ : ∃ q, k = q + 1 := ⟨k - 1, by simp [Tm.size] at hk; omega⟩
    have htop := h.top_lt
    have hlen := h.len
    have hg := h.gt_top
    obtain ⟨ha, _⟩ := (At.un rfl rfl).1 h
    simp only [Tm.into]
    simp only [Tm.size] at hlen ho hk
    generalize Tm.top _ lo = r at *
    have hin : inb l (r : Int) = true := inb_true (by omega) (by omega)
    have e1 := iha lo ha k (ahead ++ [opn r]) (by omega) (by simp; omega)
    unfold m_ref17_into
    simp only [hin, if_true, W_opn (show r ≤ 1000000000 by omega), r_put (fuel := fuel) (a := ahead) (b := [opn r]) (by simp; omega), bind_some', hg, Tm.node, e1]
    simp
/-- What stands around a part of a term. -/
inductive Fr where
  | catL (b : Tm) | catR (a : Tm) | altL (b : Tm) | altR (a : Tm) | star | maybe | group (n : Int) | iter
def Fr.plug (s : Tm) : Fr → Tm
  | .catL b => .cat s b | .catR a => .cat a s | .altL b => .alt s b | .altR a => .alt a s
  | .star => .star s | .maybe => .maybe s | .group n => .group n s | .iter => .iter s
def Fr.off : Fr → Nat
  | .catR a => a.size | .altR a => a.size | _ => 0
def Fr.lvs : Fr → Nat
  | .catR a => a.leaves | .altR a => a.leaves | _ => 0
def Ctx (t : Tm) : Nat → Tm → List Fr → Prop
  | lo, s, [] => lo = 0 ∧ s = t
  | lo, s, f :: fs => f.off ≤ lo ∧ Ctx t (lo - f.off) (f.plug s) fs
theorem Ctx.size {t : Tm} : ∀ {fs : List Fr} {lo : Nat} {s : Tm}, Ctx t lo s fs → fs.length + s.size ≤ t.size
  | [], lo, s, ⟨_, h⟩ => by subst h; simp
  | f :: fs, lo, s, ⟨_, h⟩ => by
    have := Ctx.size h
    cases f <;> simp [Fr.plug, Tm.size] at this ⊢ <;> omega
/-- What is known of a part of a term. -/
structure Part (l : List MTerm) (u d : List Int) (lo : Nat) (s : Tm) (k : Nat) : Prop where
  at_ : At l lo s
  up : UpOk u lo s
  deep : DeepOk d lo k s
theorem Ctx.part {l : List MTerm} {t : Tm} {u d : List Int} (ht : IsT l t) (hu : UpT u t) (hd : DeepT d t) : ∀ {fs : List Fr} {lo : Nat} {s : Tm}, Ctx t lo s fs → Part l u d lo s (fs.length + 1)
  | [], lo, s, ⟨h1, h2⟩ => by subst h1; subst h2; exact ⟨ht.at0, hu.inner, hd.deep⟩
  | f :: fs, lo, s, ⟨ho, h⟩ => by
    obtain ⟨h1, h2, h3⟩ := Ctx.part ht hu hd h
    cases f <;> simp only [Fr.plug, Fr.off, Nat.sub_zero] at h1 h2 h3 ho
    case catL b => exact ⟨((At.bin rfl rfl).1 h1).1, h2.2.2.1, h3.2.1⟩
    case altL b => exact ⟨((At.bin rfl rfl).1 h1).1, h2.2.2.1, h3.2.1⟩
    case catR a =>
      have e : lo - a.size + a.size = lo := by omega
      have := ((At.bin rfl rfl).1 h1).2.1
      have g2 := h2.2.2.2
      have g3 := h3.2.2
      rw [e] at this g2 g3
      exact ⟨this, g2, g3⟩
    case altR a =>
      have e : lo - a.size + a.size = lo := by omega
      have := ((At.bin rfl rfl).1 h1).2.1
      have g2 := h2.2.2.2
      have g3 := h3.2.2
      rw [e] at this g2 g3
      exact ⟨this, g2, g3⟩
    all_goals exact ⟨((At.un rfl rfl).1 h1).1, h2.2, h3.2⟩
theorem Ctx.edge {l : List MTerm} {t : Tm} {u d : List Int} (ht : IsT l t) (hu : UpT u t) (hd : DeepT d t) {f : Fr} {fs : List Fr} {lo : Nat} {s : Tm} (h : Ctx t lo s (f :: fs)) :
    gt u (s.top lo : Int) = ((f.plug s).top (lo - f.off) : Int) := by
  obtain ⟨ho, h⟩ := h
  obtain ⟨h1, h2, h3⟩ := Ctx.part ht hu hd h
  cases f <;> simp only [Fr.plug, Fr.off, Nat.sub_zero] at h1 h2 h3 ho ⊢
  case catL b => exact h2.1
  case altL b => exact h2.1
  case catR a =>
    have e : lo - a.size + a.size = lo := by omega
    have := h2.2.1
    rwa [e] at this
  case altR a =>
    have e : lo - a.size + a.size = lo := by omega
    have := h2.2.1
    rwa [e] at this
  all_goals exact h2.1
theorem Ctx.root {t : Tm} {u : List Int} (hu : UpT u t) {lo : Nat} {s : Tm} (h : Ctx t lo s []) : gt u (s.top lo : Int) = -1 := by
  obtain ⟨rfl, rfl⟩ := h; exact hu.root

def turnsF (d : Int) : List MHop → List MHop → List MHop
  | out, [] => out
  | out, h :: r => turnsF d (if out.any (fun x => x.To == h.To) then out else out ++ [⟨h.To, d, h.Steps⟩]) r
theorem turnsF_len (d : Int) : ∀ (r out : List MHop), (turnsF d out r).length ≤ out.length + r.length
  | [], out => by simp [turnsF]
  | h :: r, out => by
    simp only [turnsF, List.length_cons]
    cases out.any (fun x => x.To == h.To) with
    | true => have := turnsF_len d r out; simp only [if_true]; omega
    | false => have := turnsF_len d r (out ++ [⟨h.To, d, h.Steps⟩]); simp only [Bool.false_eq_true, if_false]; simp only [List.length_append, List.length_cons, List.length_nil] at this; omega
/-- The climb, as a function of what stands around. -/
def climbF (lo p : Nat) (s : Tm) (st : List Int) (out : List MHop) : List Fr → List MHop × List Int × Bool
  | [] => (out, st, true)
  | .catL b :: fs =>
    if b.can then climbF lo p (.cat s b) (st ++ b.steps (lo + s.size) ++ [cls (Tm.top (.cat s b) lo)]) (turnsF (fs.length + 1 : Nat) out (b.into (lo + s.size) (p + s.leaves) st)) fs
    else (turnsF (fs.length + 1 : Nat) out (b.into (lo + s.size) (p + s.leaves) st), [], false)
  | .star :: fs => climbF lo p (.star s) (st ++ [cls (Tm.top (.star s) lo)]) (turnsF (fs.length + 1 : Nat) out (s.into lo p st)) fs
  | f :: fs => climbF (lo - f.off) (p - f.lvs) (f.plug s) (st ++ [cls ((f.plug s).top (lo - f.off))]) out fs
theorem leavesN_off {l : List MTerm} {t : Tm} {u d : List Int} (ht : IsT l t) (hu : UpT u t) (hd : DeepT d t) {f : Fr} {fs : List Fr} {lo : Nat} {s : Tm} (h : Ctx t lo s (f :: fs)) : leavesN l (lo - f.off) = leavesN l lo - f.lvs := by
  obtain ⟨ho, h⟩ := h
  obtain ⟨h1, h2, h3⟩ := Ctx.part ht hu hd h
  clear h2 h3
  cases f <;> simp only [Fr.plug, Fr.off, Fr.lvs, Nat.sub_zero] at h1 ho ⊢
  case catR a =>
    have := leavesN_at ((At.bin rfl rfl).1 h1).1
    rw [show lo - a.size + a.size = lo from by omega] at this; omega
  case altR a =>
    have := leavesN_at ((At.bin rfl rfl).1 h1).1
    rw [show lo - a.size + a.size = lo from by omega] at this; omega

/-! The program's. -/
theorem m_contains (fuel : Nat) (out : List MHop) (h : MHop) (hf : out.length < fuel) (hl : out.length ≤ 1000000000) : m_slices_ContainsFunc_api_Hop_api_Hop_follow_chart_turns_1 fuel out h = some (out.any fun x => x.To == h.To) := by
  have key : ∀ (k i : Nat), i + k = out.length → ∀ m, k < m → ∃ t, iter (m_slices_IndexFunc_api_Hop_api_Hop_follow_chart_turns_1_l1 fuel out h) m (i : Int) = some t ∧ (match t with | .inl _ => (out.drop i).any (fun x => x.To == h.To) = false | .inr r => 0 ≤ r ∧ (out.drop i).any (fun x => x.To == h.To) = true) := by
    intro k
    induction k with
    | zero =>
      intro i hi m hm
      obtain ⟨m, rfl⟩ : ∃ q, m = q + 1 := ⟨m - 1, by omega⟩
      refine ⟨.inl (), ?_, ?_⟩
      · unfold iter m_slices_IndexFunc_api_Hop_api_Hop_follow_chart_turns_1_l1
        have : ¬ ((i : Int) < (out.length : Int)) := by omega
        simp [this]
      · rw [List.drop_of_length_le (by omega)]; rfl
    | succ k ih =>
      intro i hi m hm
      obtain ⟨m, rfl⟩ : ∃ q, m = q + 1 := ⟨m - 1, by omega⟩
      have hlt : i < out.length := by omega
      have hin : inb out (i : Int) = true := inb_true (by omega) (by omega)
      have hg : gt out (i : Int) = out[i] := gt_get_nat (by simp [hlt])
      have hd : out.drop i = out[i] :: out.drop (i + 1) := List.drop_eq_getElem_cons hlt
      have hd1 : (i : Int) < (out.length : Int) := by omega
      have hst : m_slices_IndexFunc_api_Hop_api_Hop_follow_chart_turns_1_l1 fuel out h (i : Int) = if (out[i].To == h.To) = true then some (.done (.inr (i : Int))) else some (.next ((i + 1 : Nat) : Int)) := by
        unfold m_slices_IndexFunc_api_Hop_api_Hop_follow_chart_turns_1_l1 m_follow_chart_turns_1
        simp only [hd1, decide_true, if_true, hin, hg, bind_some', W_succ (show i < 9223372036854775807 by omega)]
      unfold iter
      rw [hst]
      by_cases c : (out[i].To == h.To) = true
      · rw [if_pos c]
        exact ⟨_, rfl, by omega, by rw [hd]; simp only [List.any_cons, c, Bool.true_or]⟩
      · rw [if_neg c]
        obtain ⟨t, h1, h2⟩ := ih (i + 1) (by omega) m (by omega)
        refine ⟨t, h1, ?_⟩
        rw [hd]
        have c' : (out[i].To == h.To) = false := by simpa using c
        cases t with
        | inl _ => simp only [List.any_cons, c', Bool.false_or]; exact h2
        | inr r => simp only [List.any_cons, c', Bool.false_or]; exact h2
  obtain ⟨t, h1, h2⟩ := key out.length 0 (by omega) fuel (by omega)
  unfold m_slices_ContainsFunc_api_Hop_api_Hop_follow_chart_turns_1 m_slices_IndexFunc_api_Hop_api_Hop_follow_chart_turns_1
  rw [show (0 : Int) = ((0 : Nat) : Int) from rfl, h1]
  rw [List.drop_zero] at h2
  cases t with
  | inl _ => simp only [bind_some']; rw [h2]; rfl
  | inr r => simp only [bind_some']; rw [h2.2]; simp [h2.1]
theorem drop_cons {α : Type} [Inhabited α] {l : List α} {i : Nat} (h : i < l.length) : l.drop i = gt l (i : Int) :: l.drop (i + 1) := by
  rw [List.drop_eq_getElem_cons h, gt_get_nat (x := l[i]) (by simp [h])]
theorem m_turns {fuel : Nat} {c : MFollowChart} {at_ : Nat} {d : Int} {goal : Int} {st : List Int} {out hops : List MHop} (hinto : m_follow_chart_into fuel fuel c goal st [] = some hops) (hd : inb c.deep (at_ : Int) = true) (hdv : gt c.deep (at_ : Int) = d)
    (hb : out.length + hops.length ≤ 1000000) (hf : 1000001 < fuel) : m_follow_chart_turns fuel c (at_ : Int) goal st out = some (turnsF d out hops) := by
  have key : ∀ (k i : Nat) (o : List MHop), i + k = hops.length → o.length + k ≤ 1000000 → ∀ m, k < m → iter (m_follow_chart_turns_l1 fuel c (at_ : Int) out hops) m (o, (i : Int)) = some (turnsF d o (hops.drop i)) := by
    intro k
    induction k with
    | zero =>
      intro i o hi ho m hm
      obtain ⟨m, rfl⟩ : ∃ q, m = q + 1 := ⟨m - 1, by omega⟩
      rw [List.drop_of_length_le (by omega)]
      unfold iter m_follow_chart_turns_l1
      have : ¬ ((i : Int) < (hops.length : Int)) := by omega
      simp [this, turnsF]
    | succ k ih =>
      intro i o hi ho m hm
      obtain ⟨m, rfl⟩ : ∃ q, m = q + 1 := ⟨m - 1, by omega⟩
      have hlt : i < hops.length := by omega
      have hin : inb hops (i : Int) = true := inb_true (by omega) (by omega)
      have hd1 : (i : Int) < (hops.length : Int) := by omega
      have hap : ∀ x : MHop, apOk 40 o [x] = true := fun x => apOk_true (by simp; omega)
      have hst : m_follow_chart_turns_l1 fuel c (at_ : Int) out hops (o, (i : Int)) = some (.next ((if o.any (fun x => x.To == (gt hops (i : Int)).To) then o else o ++ [⟨(gt hops (i : Int)).To, d, (gt hops (i : Int)).Steps⟩]), ((i + 1 : Nat) : Int))) := by
        unfold m_follow_chart_turns_l1
        simp only [hd1, decide_true, if_true, hin, m_contains fuel o (gt hops (i : Int)) (by omega) (by omega), bind_some', hd, hdv, hap, W_succ (show i < 9223372036854775807 by omega)]
        cases o.any (fun x => x.To == (gt hops (i : Int)).To) <;> simp
      unfold iter
      rw [hst, drop_cons hlt]
      simp only [turnsF]
      refine ih (i + 1) _ (by omega) ?_ m (by omega)
      split
      · omega
      · simp only [List.length_append, List.length_cons, List.length_nil]; omega
  unfold m_follow_chart_turns
  rw [hinto]
  simp only [bind_some']
  rw [show (0 : Int) = ((0 : Nat) : Int) from rfl, key hops.length 0 out (by omega) (by omega) fuel (by omega)]
  simp
theorem m_climb {l : List MTerm} (hw : ∀ x ∈ l, wfTerm x) {t : Tm} (ht : IsT l t) (hR : RightB l = true) {c : MFollowChart} (hc : ChartT c l t) {fuel : Nat} (hf : 1000001 < fuel) (p1 : Int) :
    ∀ (fs : List Fr) (lo : Nat) (s : Tm) (st : List Int) (out : List MHop), Ctx t lo s fs → st.length + 1000 * fs.length ≤ 500000 → out.length + 1000 * fs.length ≤ 500000 → ∀ m, fs.length < m →
      ∃ r, iter (m_follow_chart_climb_l1 fuel c p1) m ((s.top lo : Int), st, out, gt c.up (s.top lo : Int)) = some r ∧
        (match r with | .inl (y1, y2) => (y2, y1, true) | .inr (z1, z2) => (z1, z2, false)) = climbF lo (leavesN l lo) s st out fs ∧ (∀ z1 z2, r = .inr (z1, z2) → z2 = []) := by
  have h400 := ht.le; have hlen0 := ht.len
  have hcl := hc.tl; have hcc := hc.can
  have hct := canT hR
  intro fs
  induction fs with
  | nil =>
    intro lo s st out hx h1 h2 m hm
    obtain ⟨m, rfl⟩ : ∃ q, m = q + 1 := ⟨m - 1, by omega⟩
    refine ⟨.inl (st, out), ?_, rfl, fun _ _ h => by cases h⟩
    rw [hx.root hc.up]
    unfold iter m_follow_chart_climb_l1
    simp
  | cons f fs ih =>
    intro lo s st out hx h1 h2 m hm
    obtain ⟨m, rfl⟩ : ∃ q, m = q + 1 := ⟨m - 1, by omega⟩
    have hpart := hx.part ht hc.up hc.deep
    have hpar := hx.2.part ht hc.up hc.deep
    have hedge := hx.edge ht hc.up hc.deep
    have hx2 := hx.2
    have hlvs := leavesN_off ht hc.up hc.deep hx
    have hsz := hx.size
    simp only [List.length_cons] at h1 h2 hm hsz
    rw [hedge]
    have htop := hpar.at_.top_lt
    have hg := hpar.at_.gt_top
    have hdp := hpar.deep.top
    generalize hlo : lo - f.off = lo' at *
    generalize hr : (f.plug s).top lo' = r at *
    have hin : inb l (r : Int) = true := inb_true (by omega) (by omega)
    have hiu : inb c.up (r : Int) = true := inb_true (by omega) (by rw [hc.up.len]; omega)
    have hid : inb c.deep (r : Int) = true := inb_true (by omega) (by rw [hc.deep.len]; omega)
    have hr0 : (r : Int) ≥ 0 := by omega
    have hcls : W (W (2 * (r : Int)) + 1) = cls r := by rw [W_opn (by omega), W_cls (by omega)]
    -- what is done at the end of a round
    have next : ∀ (st' : List Int) (out' : List MHop), st'.length ≤ st.length + 900 → (Option.bind (m_follow_more fuel st' [W (W (2 * (r : Int)) + 1)]) fun x12 => if inb c.up (r : Int) = true then (some (.next ((r : Int), x12, out', gt c.up (r : Int))) : Option (Ctl (Int × List Int × List MHop × Int) ((List Int × List MHop) ⊕ ((List MHop) × (List Int))))) else none) = some (.next ((r : Int), st' ++ [cls r], out', gt c.up (r : Int))) := fun st' out' hs => by
      rw [hcls, m_more (fuel := fuel) (a := st') (b := [cls r]) (by simp; omega), hiu]; rfl
    have plain : ∀ (fs' : List Fr), climbF lo (leavesN l lo) s st out (f :: fs) = climbF lo' (leavesN l lo') (f.plug s) (st ++ [cls r]) out fs → m_follow_chart_climb_l1 fuel c p1 ((s.top lo : Int), st, out, (r : Int)) = some (.next ((r : Int), st ++ [cls r], out, gt c.up (r : Int))) →
        ∃ r', iter (m_follow_chart_climb_l1 fuel c p1) (m + 1) ((s.top lo : Int), st, out, (r : Int)) = some r' ∧ (match r' with | .inl (y1, y2) => (y2, y1, true) | .inr (z1, z2) => (z1, z2, false)) = climbF lo (leavesN l lo) s st out (f :: fs) ∧ (∀ z1 z2, r' = .inr (z1, z2) → z2 = []) := fun _ e1 e2 => by
      unfold iter
      rw [e1, e2]
      have := ih lo' (f.plug s) (st ++ [cls r]) out hx2 (by simp; omega) (by omega) m (by omega)
      rw [hr] at this
      exact this
    have step0 : m_follow_chart_climb_l1 fuel c p1 ((s.top lo : Int), st, out, (r : Int)) = m_follow_chart_climb_l1 fuel c p1 ((s.top lo : Int), st, out, (r : Int)) := rfl
    conv at step0 => rhs; unfold m_follow_chart_climb_l1
    simp only [hr0, decide_true, if_true, hcl, hin, hg] at step0
    cases f with
    | catL b =>
      simp only [Fr.plug, Fr.off, Nat.sub_zero] at hlo hr hg hpar step0
      subst hlo
      obtain ⟨hats, hatb, _⟩ := (At.bin rfl rfl).1 hpar.at_
      have hbi := b.into_len (lo + s.size) (leavesN l lo + s.leaves) st
      have hbl := b.leaves_le; have hbs := b.steps_le (lo + s.size)
      have hsb : b.size ≤ 400 := by have := hatb.len; omega
      have hinto := m_into hw ht hR hc (show 401 < fuel by omega) b (lo + s.size) hatb fuel st [] (by omega) (by omega) (by simp; omega)
      rw [leavesN_at hats, List.nil_append] at hinto
      have hturn := m_turns (at_ := r) (d := (fs.length + 1 : Nat)) (st := st) (out := out) hinto hid hdp (by omega) hf
      have hbin : inb (CanF l) (b.top (lo + s.size) : Int) = true := inb_true (by omega) (by rw [hct.len]; have := hatb.top_lt; omega)
      simp only [Tm.node, beq_self_eq_true, if_true, bind_some', hturn, hcc, hbin, hct.top b _ hatb] at step0
      have htl := turnsF_len ((fs.length + 1 : Nat) : Int) (b.into (lo + s.size) (leavesN l lo + s.leaves) st) out
      simp only [climbF]
      cases hcan : b.can with
      | false =>
        simp only [hcan, Bool.not_false, if_true, bind_some'] at step0
        refine ⟨_, by unfold iter; rw [step0], ?_, fun z1 z2 h => by cases h; rfl⟩
        simp
      | true =>
        simp only [hcan, Bool.not_true, Bool.false_eq_true, if_false, m_Steps hw ht hR (show 401 < fuel by omega) hatb, if_true, bind_some', m_more (fuel := fuel) (a := st) (b := b.steps (lo + s.size)) (by omega)] at step0
        rw [next _ _ (by simp; omega)] at step0
        unfold iter
        rw [step0]
        have := ih lo (.cat s b) (st ++ b.steps (lo + s.size) ++ [cls r]) (turnsF ((fs.length + 1 : Nat) : Int) out (b.into (lo + s.size) (leavesN l lo + s.leaves) st)) hx2 (by simp; omega) (by omega) m (by omega)
        rw [hr] at this
        rw [if_pos rfl, hr]
        exact this
    | star =>
      simp only [Fr.plug, Fr.off, Nat.sub_zero] at hlo hr hg hpar step0
      subst hlo
      obtain ⟨hats, _⟩ := (At.un rfl rfl).1 hpar.at_
      have hbi := s.into_len lo (leavesN l lo) st
      have hbl := s.leaves_le
      have hsb : s.size ≤ 400 := by have := hats.len; omega
      have hinto := m_into hw ht hR hc (show 401 < fuel by omega) s lo hats fuel st [] (by omega) (by omega) (by simp; omega)
      rw [List.nil_append] at hinto
      have hturn := m_turns (at_ := r) (d := (fs.length + 1 : Nat)) (st := st) (out := out) hinto hid hdp (by omega) hf
      simp only [Tm.node, show ((5 : Int) == 3) = false from rfl, beq_self_eq_true, Bool.false_eq_true, if_false, if_true, bind_some', hturn] at step0
      rw [next _ _ (by omega)] at step0
      have htl := turnsF_len ((fs.length + 1 : Nat) : Int) (s.into lo (leavesN l lo) st) out
      simp only [climbF]
      unfold iter
      rw [step0]
      have := ih lo (.star s) (st ++ [cls r]) (turnsF ((fs.length + 1 : Nat) : Int) out (s.into lo (leavesN l lo) st)) hx2 (by simp; omega) (by omega) m (by omega)
      rw [hr] at this
      rw [hr]
      exact this
    | catR a =>
      simp only [Fr.plug, Fr.off] at hlo hr hg hpar step0
      have hps := s.size_pos
      have hne : ((a.top lo' : Int) == (s.top lo : Int)) = false := by
        have := hx.1
        have := a.size_pos
        simp only [Fr.off] at *
        have : a.top lo' ≠ s.top lo := by unfold Tm.top; omega
        simp; omega
      refine plain fs (by simp only [climbF, Fr.off, Fr.lvs, hlo, hlvs, Fr.plug, hr]) ?_
      rw [step0]
      simp only [Tm.node, hne, beq_self_eq_true, if_true, bind_some', Bool.false_eq_true, if_false]
      exact next st out (by omega)
    | altR a =>
      simp only [Fr.plug, Fr.off] at hlo hr hg hpar step0
      refine plain fs (by simp only [climbF, Fr.off, Fr.lvs, hlo, hlvs, Fr.plug, hr]) ?_
      rw [step0]
      simp only [Tm.node, bind_some']
      exact next st out (by omega)
    | altL b | maybe | group n | iter =>
      simp only [Fr.plug, Fr.off, Nat.sub_zero] at hlo hr hg hpar step0
      subst hlo
      refine plain fs (by subst hr; rfl) ?_
      rw [step0]
      simp only [Tm.node, bind_some']
      exact next st out (by omega)
end Go.Proofs.Ytfhehbfifffipaa
