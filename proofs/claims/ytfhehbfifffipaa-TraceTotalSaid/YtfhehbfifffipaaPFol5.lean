/- The ways into a node; by the program and by the document. Its conditions: none. -/
import Derived.Test.YtfhehbfifffipaaPFol4
set_option autoImplicit false
namespace Go.Proofs.Ytfhehbfifffipaa
open Go.V Go.RowKit

def Tm.into (lo p : Nat) (ahead : List Int) : Tm → List MHop
  | .eps => []
  | .leaf _ => [⟨(p : Int), 0, ahead ++ [opn lo]⟩]
  | .cat a b => a.into lo p (ahead ++ [opn (Tm.top (.cat a b) lo)]) ++ (if a.can then b.into (lo + a.size) (p + a.leaves) (ahead ++ [opn (Tm.top (.cat a b) lo)] ++ a.steps lo) else [])
  | .alt a b => a.into lo p (ahead ++ [opn (Tm.top (.alt a b) lo)]) ++ b.into (lo + a.size) (p + a.leaves) (ahead ++ [opn (Tm.top (.alt a b) lo)])
  | .star a => a.into lo p (ahead ++ [opn (Tm.top (.star a) lo)])
  | .maybe a => a.into lo p (ahead ++ [opn (Tm.top (.maybe a) lo)])
  | .group n a => a.into lo p (ahead ++ [opn (Tm.top (.group n a) lo)])
  | .iter a => a.into lo p (ahead ++ [opn (Tm.top (.iter a) lo)])
theorem Tm.into_len (t : Tm) : ∀ lo p ahead, (t.into lo p ahead).length ≤ t.leaves := by
  induction t with
  | eps => intro lo p ahead; simp [Tm.into]
  | leaf s => intro lo p ahead; simp [Tm.into, Tm.leaves]
  | cat a b iha ihb =>
    intro lo p ahead
    have := iha lo p (ahead ++ [opn (Tm.top (.cat a b) lo)])
    have := ihb (lo + a.size) (p + a.leaves) (ahead ++ [opn (Tm.top (.cat a b) lo)] ++ a.steps lo)
    simp only [Tm.into, Tm.leaves]
    split <;> simp only [List.length_append, List.length_nil] <;> omega
  | alt a b iha ihb =>
    intro lo p ahead
    have := iha lo p (ahead ++ [opn (Tm.top (.alt a b) lo)])
    have := ihb (lo + a.size) (p + a.leaves) (ahead ++ [opn (Tm.top (.alt a b) lo)])
    simp only [Tm.into, Tm.leaves, List.length_append]; omega
  | star a iha | maybe a iha | group _ a iha | iter a iha => intro lo p ahead; exact iha _ _ _

theorem leavesN_at {l : List MTerm} : ∀ {s : Tm} {lo : Nat}, At l lo s → leavesN l (lo + s.size) = leavesN l lo + s.leaves := by
  intro s
  induction s with
  | eps => intro lo h; have hg := h.gt_top; simp only [Tm.top, Tm.size, Nat.add_sub_cancel] at hg; simp [Tm.size, leavesN, hg, Tm.node, Tm.leaves]
  | leaf s => intro lo h; have hg := h.gt_top; simp only [Tm.top, Tm.size, Nat.add_sub_cancel] at hg; simp [Tm.size, leavesN, hg, Tm.node, Tm.leaves]
  | cat a b iha ihb | alt a b iha ihb =>
    intro lo h
    have hg := h.gt_top
    obtain ⟨ha, hb, _⟩ := (At.bin rfl rfl).1 h
    simp only [Tm.top, Tm.size] at hg
    have e : lo + (a.size + b.size + 1) - 1 = lo + a.size + b.size := by omega
    rw [e] at hg
    simp only [Tm.size, ← Nat.add_assoc, leavesN, hg, Tm.node, Tm.leaves, ihb hb, iha ha]
    simp
  | star a iha | maybe a iha | group _ a iha | iter a iha =>
    intro lo h
    have hg := h.gt_top
    obtain ⟨ha, _⟩ := (At.un rfl rfl).1 h
    simp only [Tm.top, Tm.size] at hg
    have e : lo + (a.size + 1) - 1 = lo + a.size := by omega
    rw [e] at hg
    simp only [Tm.size, ← Nat.add_assoc, leavesN, hg, Tm.node, Tm.leaves, iha ha]
    simp
theorem m_more {fuel : Nat} {a b : List Int} (h : (a.length + b.length) * 8 ≤ 140737488355328) : m_follow_more fuel a b = some (a ++ b) := by
  have hs : slOk a 0 (a.length : Int) = true := by simp [slOk]
  have hc : cutL a 0 (a.length : Int) = a := by simp [cutL]
  have ha : apOk 8 a b = true := apOk_true h
  unfold m_follow_more
  simp [hs, hc, ha]
theorem r_put {fuel : Nat} {a b : List Int} (h : (a.length + b.length) * 8 ≤ 140737488355328) : m_ref17_put fuel a b = some (a ++ b) := by
  have h1 : apOk 8 ([] : List Int) a = true := apOk_true (by simp; omega)
  have h2 : apOk 8 a b = true := apOk_true h
  unfold m_ref17_put
  simp [h1, h2]
/-- What a chart tells. -/
structure ChartT (c : MFollowChart) (l : List MTerm) (t : Tm) : Prop where
  tl : c.l = l
  up : UpT c.up t
  deep : DeepT c.deep t
  index : c.index = idxL l l.length
  can : c.can = CanF l
theorem idx_leaf {l : List MTerm} {lo : Nat} {s : List Int} (h : At l lo (.leaf s)) : inb (idxL l l.length) (lo : Int) = true ∧ gt (idxL l l.length) (lo : Int) = (leavesN l lo : Int) := by
  have hlen := h.len
  have hg := h.gt_top
  simp only [Tm.top, Tm.size, Nat.add_sub_cancel] at hg hlen
  refine ⟨inb_true (by omega) (by rw [idxL_len]; omega), ?_⟩
  rw [gt_get_nat (idxL_get l l.length lo (by omega)), hg]
  simp [Tm.node]
theorem m_into {l : List MTerm} (hw : ∀ x ∈ l, wfTerm x) {t : Tm} (ht : IsT l t) (hR : RightB l = true) {c : MFollowChart} (hc : ChartT c l t) {fuel : Nat} (hf : 401 < fuel) :
    ∀ (s : Tm) (lo : Nat), At l lo s → ∀ (k : Nat) (ahead : List Int) (out : List MHop), s.size ≤ k → ahead.length + 1000 * s.size ≤ 1000000000 → out.length + s.size ≤ 1000000000 →
      m_follow_chart_into fuel k c (s.top lo : Int) ahead out = some (out ++ s.into lo (leavesN l lo) ahead) := by
  have h400 := ht.le; have hlen0 := ht.len
  have hcl := hc.tl; have hci := hc.index; have hcc := hc.can
  have hct := canT hR
  intro s
  induction s with
  | eps =>
    intro lo h k ahead out hk ho ho2
    obtain ⟨k, rfl⟩ : ∃ q, k = q + 1 := ⟨k - 1, by simp [Tm.size] at hk; omega⟩
    have htop := h.top_lt
    have hg := h.gt_top
    simp only [Tm.size] at ho ho2
    generalize Tm.top _ lo = r at *
    have hin : inb l (r : Int) = true := inb_true (by omega) (by omega)
    unfold m_follow_chart_into
    simp only [hcl, hin, if_true, W_opn (show r ≤ 1000000000 by omega), m_more (fuel := fuel) (a := ahead) (b := [opn r]) (by simp; omega), bind_some', hg, Tm.node]
    simp [Tm.into]
  | leaf s =>
    intro lo h k ahead out hk ho ho2
    obtain ⟨k, rfl⟩ : ∃ q, k = q + 1 := ⟨k - 1, by simp [Tm.size] at hk; omega⟩
    have htop := h.top_lt
    have hg := h.gt_top
    obtain ⟨i1, i2⟩ := idx_leaf h
    simp only [Tm.size] at ho ho2
    simp only [Tm.top, Tm.size, Nat.add_sub_cancel] at hg htop ⊢
    have hin : inb l (lo : Int) = true := inb_true (by omega) (by omega)
    have hap : ∀ x : MHop, apOk 40 out [x] = true := fun x => apOk_true (by simp; omega)
    unfold m_follow_chart_into
    simp only [hcl, hin, if_true, W_opn (show lo ≤ 1000000000 by omega), m_more (fuel := fuel) (a := ahead) (b := [opn lo]) (by simp; omega), bind_some', hg, Tm.node, hci, i1, i2, hap]
    simp [Tm.into]
  | cat a b iha ihb =>
    intro lo h k ahead out hk ho ho2
    obtain ⟨k, rfl⟩ : ∃ q, k = q + 1 := ⟨k - 1, by simp [Tm.size] at hk; omega⟩
    have htop := h.top_lt
    have hlen := h.len
    have hg := h.gt_top
    obtain ⟨ha, hb, _⟩ := (At.bin rfl rfl).1 h
    have sa := a.steps_le lo; have la := a.into_len lo (leavesN l lo) (ahead ++ [opn (Tm.top (.cat a b) lo)]); have lla := a.leaves_le
    simp only [Tm.into]
    simp only [Tm.size] at hlen ho ho2 hk
    generalize Tm.top (.cat a b) lo = r at *
    have hin : inb l (r : Int) = true := inb_true (by omega) (by omega)
    have hia : inb (CanF l) (a.top lo : Int) = true := inb_true (by omega) (by rw [hct.len]; have := ha.top_lt; omega)
    have e1 := iha lo ha k (ahead ++ [opn r]) out (by omega) (by simp; omega) (by omega)
    have e2 := ihb (lo + a.size) hb k (ahead ++ [opn r] ++ a.steps lo) (out ++ a.into lo (leavesN l lo) (ahead ++ [opn r])) (by omega) (by simp; omega) (by simp; omega)
    rw [leavesN_at ha] at e2
    unfold m_follow_chart_into
    simp only [hcl, hin, if_true, W_opn (show r ≤ 1000000000 by omega), m_more (fuel := fuel) (a := ahead) (b := [opn r]) (by simp; omega), bind_some', hg, Tm.node, e1, hcc, hia, hct.top a lo ha]
    rw [show ((3 : Int) == 2) = false from rfl, show ((3 : Int) == 3) = true from rfl]
    cases hcan : a.can
    · simp
    · simp only [Bool.false_eq_true, if_false, if_true, m_Steps hw ht hR hf ha, hcan, bind_some', m_more (fuel := fuel) (a := ahead ++ [opn r]) (b := a.steps lo) (by simp; omega), e2]
      simp
  | alt a b iha ihb =>
    intro lo h k ahead out hk ho ho2
    obtain ⟨k, rfl⟩ : ∃ q, k = q + 1 := ⟨k - 1, by simp [Tm.size] at hk; omega⟩
    have htop := h.top_lt
    have hlen := h.len
    have hg := h.gt_top
    obtain ⟨ha, hb, _⟩ := (At.bin rfl rfl).1 h
    have la := a.into_len lo (leavesN l lo) (ahead ++ [opn (Tm.top (.alt a b) lo)]); have lla := a.leaves_le
    simp only [Tm.into]
    simp only [Tm.size] at hlen ho ho2 hk
    generalize Tm.top (.alt a b) lo = r at *
    have hin : inb l (r : Int) = true := inb_true (by omega) (by omega)
    have e1 := iha lo ha k (ahead ++ [opn r]) out (by omega) (by simp; omega) (by omega)
    have e2 := ihb (lo + a.size) hb k (ahead ++ [opn r]) (out ++ a.into lo (leavesN l lo) (ahead ++ [opn r])) (by omega) (by simp; omega) (by simp; omega)
    rw [leavesN_at ha] at e2
    unfold m_follow_chart_into
    simp only [hcl, hin, if_true, W_opn (show r ≤ 1000000000 by omega), m_more (fuel := fuel) (a := ahead) (b := [opn r]) (by simp; omega), bind_some', hg, Tm.node, e1, e2]
    simp
  | star a iha | maybe a iha | group _ a iha | iter a iha =>
    intro lo h k ahead out hk ho ho2
    obtain ⟨k, rfl⟩ : ∃ q, k = q + 1 := ⟨k - 1, by simp [Tm.size] at hk; omega⟩
    have htop := h.top_lt
    have hlen := h.len
    have hg := h.gt_top
    obtain ⟨ha, _⟩ := (At.un rfl rfl).1 h
    simp only [Tm.into]
    simp only [Tm.size] at hlen ho ho2 hk
    generalize Tm.top _ lo = r at *
    have hin : inb l (r : Int) = true := inb_true (by omega) (by omega)
    have e1 := iha lo ha k (ahead ++ [opn r]) out (by omega) (by simp; omega) (by omega)
    unfold m_follow_chart_into
    simp only [hcl, hin, if_true, W_opn (show r ≤ 1000000000 by omega), m_more (fuel := fuel) (a := ahead) (b := [opn r]) (by simp; omega), bind_some', hg, Tm.node, e1]
    simp
theorem r_into {l : List MTerm} {t : Tm} (ht : IsT l t) (hR : RightB l = true) {fuel : Nat} (hf : 401 < fuel) :
    ∀ (s : Tm) (lo : Nat), At l lo s → ∀ (k : Nat) (ahead : List Int), s.size ≤ k → ahead.length + 1000 * s.size ≤ 1000000000 →
      m_ref17_into fuel k l (idxL l l.length) (CanF l) (s.top lo : Int) ahead = some (s.into lo (leavesN l lo) ahead) := by
  have h400 := ht.le; have hlen0 := ht.len
  have hct := canT hR
  intro s
  induction s with
  | eps =>
    intro lo h k ahead hk ho
    obtain ⟨k, rfl⟩ : ∃ q, k = q + 1 := ⟨k - 1, by simp [Tm.size] at hk; omega⟩
    have htop := h.top_lt
    have hg := h.gt_top
    simp only [Tm.size] at ho
    generalize Tm.top _ lo = r at *
    have hin : inb l (r : Int) = true := inb_true (by omega) (by omega)
    unfold m_ref17_into
    simp only [hin, if_true, W_opn (show r ≤ 1000000000 by omega), r_put (fuel := fuel) (a := ahead) (b := [opn r]) (by simp; omega), bind_some', hg, Tm.node]
    simp [Tm.into]
  | leaf s =>
    intro lo h k ahead hk ho
    obtain ⟨k, rfl⟩ : ∃ q, k = q + 1 := ⟨k - 1, by simp [Tm.size] at hk; omega⟩
    have htop := h.top_lt
    have hg := h.gt_top
    obtain ⟨i1, i2⟩ := idx_leaf h
    simp only [Tm.size] at ho
    simp only [Tm.top, Tm.size, Nat.add_sub_cancel] at hg htop ⊢
    have hin : inb l (lo : Int) = true := inb_true (by omega) (by omega)
    unfold m_ref17_into
    simp only [hin, if_true, W_opn (show lo ≤ 1000000000 by omega), r_put (fuel := fuel) (a := ahead) (b := [opn lo]) (by simp; omega), bind_some', hg, Tm.node, i1, i2]
    simp [Tm.into]
  | cat a b iha ihb =>
    intro lo h k ahead hk ho
    obtain ⟨k, rfl⟩ : ∃ q, k = q + 1 := ⟨k - 1, by simp [Tm.size] at hk; omega⟩
    have htop := h.top_lt
    have hlen := h.len
    have hg := h.gt_top
    obtain ⟨ha, hb, _⟩ := (At.bin rfl rfl).1 h
    have sa := a.steps_le lo; have la := a.into_len lo (leavesN l lo) (ahead ++ [opn (Tm.top (.cat a b) lo)]); have lla := a.leaves_le
    have lb := b.into_len (lo + a.size) (leavesN l lo + a.leaves) (ahead ++ [opn (Tm.top (.cat a b) lo)] ++ a.steps lo); have llb := b.leaves_le
    simp only [Tm.into]
    simp only [Tm.size] at hlen ho hk
    generalize Tm.top (.cat a b) lo = r at *
    have hin : inb l (r : Int) = true := inb_true (by omega) (by omega)
    have hia : inb (CanF l) (a.top lo : Int) = true := inb_true (by omega) (by rw [hct.len]; have := ha.top_lt; omega)
    have e1 := iha lo ha k (ahead ++ [opn r]) (by omega) (by simp; omega)
    have e2 := ihb (lo + a.size) hb k (ahead ++ [opn r] ++ a.steps lo) (by omega) (by simp; omega)
    rw [leavesN_at ha] at e2
    unfold m_ref17_into
    simp only [hin, if_true, W_opn (show r ≤ 1000000000 by omega), r_put (fuel := fuel) (a := ahead) (b := [opn r]) (by simp; omega), bind_some', hg, Tm.node, e1, hia, hct.top a lo ha]
    rw [show ((3 : Int) == 2) = false from rfl, show ((3 : Int) == 3) = true from rfl]
    cases hcan : a.can
    · simp
    · have hap : apOk 40 (a.into lo (leavesN l lo) (ahead ++ [opn r])) (b.into (lo + a.size) (leavesN l lo + a.leaves) (ahead ++ [opn r] ++ a.steps lo)) = true := apOk_true (by omega)
      simp only [Bool.false_eq_true, if_false, if_true, r_Of hct (by omega) fuel a lo ha fuel (by omega), bind_some', r_put (fuel := fuel) (a := ahead ++ [opn r]) (b := a.steps lo) (by simp; omega), e2, hap]
  | alt a b iha ihb =>
    intro lo h k ahead hk ho
    obtain ⟨k, rfl⟩ : ∃ q, k = q + 1 := ⟨k - 1, by simp [Tm.size] at hk; omega⟩
    have htop := h.top_lt
    have hlen := h.len
    have hg := h.gt_top
    obtain ⟨ha, hb, _⟩ := (At.bin rfl rfl).1 h
    have la := a.into_len lo (leavesN l lo) (ahead ++ [opn (Tm.top (.alt a b) lo)]); have lla := a.leaves_le
    have lb := b.into_len (lo + a.size) (leavesN l lo + a.leaves) (ahead ++ [opn (Tm.top (.alt a b) lo)]); have llb := b.leaves_le
    simp only [Tm.into]
    simp only [Tm.size] at hlen ho hk
    generalize Tm.top (.alt a b) lo = r at *
    have hin : inb l (r : Int) = true := inb_true (by omega) (by omega)
    have e1 := iha lo ha k (ahead ++ [opn r]) (by omega) (by simp; omega)
    have e2 := ihb (lo + a.size) hb k (ahead ++ [opn r]) (by omega) (by simp; omega)
    rw [leavesN_at ha] at e2
    have hap : apOk 40 (a.into lo (leavesN l lo) (ahead ++ [opn r])) (b.into (lo + a.size) (leavesN l lo + a.leaves) (ahead ++ [opn r])) = true := apOk_true (by omega)
    unfold m_ref17_into
    simp only [hin, if_true, W_opn (show r ≤ 1000000000 by omega), r_put (fuel := fuel) (a := ahead) (b := [opn r]) (by simp; omega), bind_some', hg, Tm.node, e1, e2, hap]
    simp
  | star a iha | maybe a iha | group _ a iha | iter a iha =>
    intro lo h k ahead hk ho
    obtain ⟨k, rfl⟩ : ∃ q, k = q + 1 := ⟨k - 1, by simp [Tm.size] at hk; omega⟩
    have htop := h.top_lt
    have hlen := h.len
    have hg := h.gt_top
    obtain ⟨ha, _⟩ := (At.un rfl rfl).1 h
    simp only [Tm.into]
    simp only [Tm.size] at hlen ho hk
    generalize Tm.top _ lo = r at *
    have hin : inb l (r : Int) = true := inb_true (by omega) (by omega)
    have e1 := iha lo ha k (ahead ++ [opn r]) (by omega) (by simp; omega)
    unfold m_ref17_into
    simp only [hin, if_true, W_opn (show r ≤ 1000000000 by omega), r_put (fuel := fuel) (a := ahead) (b := [opn r]) (by simp; omega), bind_some', hg, Tm.node, e1]
    simp
end Go.Proofs.Ytfhehbfifffipaa
