/- What is known of the nodes of a term: whether they can be nothing, and how; by the program and by the document. Its conditions: none. -/
import Derived.Test.YtfhehbfifffipaaPTerm3
set_option autoImplicit false
namespace Go.Proofs.Ytfhehbfifffipaa
open Go.V Go.RowKit

theorem At.node_at {l : List MTerm} : ∀ {s : Tm} {lo : Nat}, At l lo s → ∀ i, lo ≤ i → i < lo + s.size → ∃ lo' s', At l lo' s' ∧ s'.top lo' = i ∧ lo ≤ lo' ∧ s'.size ≤ s.size := by
  intro s
  have leafc : ∀ (t : Tm) (lo : Nat), t.size = 1 → At l lo t → ∀ i, lo ≤ i → i < lo + t.size → ∃ lo' s', At l lo' s' ∧ s'.top lo' = i ∧ lo ≤ lo' ∧ s'.size ≤ t.size := fun t lo ht h i h1 h2 => ⟨lo, t, h, by unfold Tm.top; omega, by omega, by omega⟩
  induction s with
  | eps => exact fun h => leafc _ _ rfl h
  | leaf s => exact fun h => leafc _ _ rfl h
  | cat a b iha ihb =>
    intro lo h i h1 h2
    obtain ⟨ha, hb, _⟩ := (At.bin rfl rfl).1 h
    simp only [Tm.size] at h2 ⊢
    rcases Nat.lt_or_ge i (lo + a.size) with c | c
    · obtain ⟨lo', s', p1, p2, p3, p4⟩ := iha ha i h1 c; exact ⟨lo', s', p1, p2, p3, by omega⟩
    · rcases Nat.lt_or_ge i (lo + a.size + b.size) with c2 | c2
      · obtain ⟨lo', s', p1, p2, p3, p4⟩ := ihb hb i c c2; exact ⟨lo', s', p1, p2, by omega, by omega⟩
      · exact ⟨lo, .cat a b, h, by simp only [Tm.top, Tm.size]; omega, by omega, by simp [Tm.size]⟩
  | alt a b iha ihb =>
    intro lo h i h1 h2
    obtain ⟨ha, hb, _⟩ := (At.bin rfl rfl).1 h
    simp only [Tm.size] at h2 ⊢
    rcases Nat.lt_or_ge i (lo + a.size) with c | c
    · obtain ⟨lo', s', p1, p2, p3, p4⟩ := iha ha i h1 c; exact ⟨lo', s', p1, p2, p3, by omega⟩
    · rcases Nat.lt_or_ge i (lo + a.size + b.size) with c2 | c2
      · obtain ⟨lo', s', p1, p2, p3, p4⟩ := ihb hb i c c2; exact ⟨lo', s', p1, p2, by omega, by omega⟩
      · exact ⟨lo, .alt a b, h, by simp only [Tm.top, Tm.size]; omega, by omega, by simp [Tm.size]⟩
  | star a iha =>
    intro lo h i h1 h2
    obtain ⟨ha, _⟩ := (At.un rfl rfl).1 h
    simp only [Tm.size] at h2 ⊢
    rcases Nat.lt_or_ge i (lo + a.size) with c | c
    · obtain ⟨lo', s', p1, p2, p3, p4⟩ := iha ha i h1 c; exact ⟨lo', s', p1, p2, p3, by omega⟩
    · exact ⟨lo, .star a, h, by simp only [Tm.top, Tm.size]; omega, by omega, by simp [Tm.size]⟩
  | maybe a iha =>
    intro lo h i h1 h2
    obtain ⟨ha, _⟩ := (At.un rfl rfl).1 h
    simp only [Tm.size] at h2 ⊢
    rcases Nat.lt_or_ge i (lo + a.size) with c | c
    · obtain ⟨lo', s', p1, p2, p3, p4⟩ := iha ha i h1 c; exact ⟨lo', s', p1, p2, p3, by omega⟩
    · exact ⟨lo, .maybe a, h, by simp only [Tm.top, Tm.size]; omega, by omega, by simp [Tm.size]⟩
  | group n a iha =>
    intro lo h i h1 h2
    obtain ⟨ha, _⟩ := (At.un rfl rfl).1 h
    simp only [Tm.size] at h2 ⊢
    rcases Nat.lt_or_ge i (lo + a.size) with c | c
    · obtain ⟨lo', s', p1, p2, p3, p4⟩ := iha ha i h1 c; exact ⟨lo', s', p1, p2, p3, by omega⟩
    · exact ⟨lo, .group n a, h, by simp only [Tm.top, Tm.size]; omega, by omega, by simp [Tm.size]⟩
  | iter a iha =>
    intro lo h i h1 h2
    obtain ⟨ha, _⟩ := (At.un rfl rfl).1 h
    simp only [Tm.size] at h2 ⊢
    rcases Nat.lt_or_ge i (lo + a.size) with c | c
    · obtain ⟨lo', s', p1, p2, p3, p4⟩ := iha ha i h1 c; exact ⟨lo', s', p1, p2, p3, by omega⟩
    · exact ⟨lo, .iter a, h, by simp only [Tm.top, Tm.size]; omega, by omega, by simp [Tm.size]⟩
theorem IsT.node {l : List MTerm} {t : Tm} (h : IsT l t) {i : Nat} (hi : i < l.length) : ∃ lo s, At l lo s ∧ s.top lo = i := by
  obtain ⟨lo, s, h1, h2, _⟩ := h.at0.node_at i (by omega) (by rw [h.len] at hi; omega)
  exact ⟨lo, s, h1, h2⟩

/-! Can. -/
def Tm.can : Tm → Bool
  | .eps => true | .leaf _ => false | .cat a b => a.can && b.can | .alt a b => a.can || b.can
  | .star _ => true | .maybe _ => true | .group _ a => a.can | .iter a => a.can
def canNode (l : List MTerm) (c : List Bool) (i : Nat) : Bool :=
  let x := gt l (i : Int)
  if x.Kind = 1 ∨ x.Kind = 5 ∨ x.Kind = 6 then true
  else if x.Kind = 3 then gt c x.A && gt c x.B else if x.Kind = 4 then gt c x.A || gt c x.B else if x.Kind = 7 ∨ x.Kind = 8 then gt c x.A else false
def canL (l : List MTerm) : Nat → List Bool
  | 0 => []
  | i + 1 => canL l i ++ [canNode l (canL l i) i]
theorem canL_len (l : List MTerm) : ∀ i, (canL l i).length = i
  | 0 => rfl
  | i + 1 => by simp [canL, canL_len l i]
theorem canL_pre (l : List MTerm) {i j : Nat} (h : j < i) : gt (canL l i) (j : Int) = canNode l (canL l j) j := by
  induction i with
  | zero => omega
  | succ i ih =>
    simp only [canL]
    by_cases e : j = i
    · subst e; rw [gt_append_right (canL_len l j).symm]
    · rw [gt_append_left (by omega) (by rw [canL_len]; omega)]; exact ih (by omega)
theorem canL_top {l : List MTerm} : ∀ {s : Tm} {lo : Nat}, At l lo s → ∀ i, s.top lo < i → gt (canL l i) (s.top lo : Int) = s.can := by
  intro s
  induction s with
  | eps => intro lo h i hi; rw [canL_pre l hi]; simp [canNode, h.gt_top, Tm.node, Tm.can]
  | leaf s => intro lo h i hi; rw [canL_pre l hi]; simp [canNode, h.gt_top, Tm.node, Tm.can]
  | cat a b iha ihb =>
    intro lo h i hi; rw [canL_pre l hi]
    obtain ⟨ha, hb, _⟩ := (At.bin rfl rfl).1 h
    have := a.size_pos; have := b.size_pos
    simp only [canNode, h.gt_top, Tm.node, Tm.can]
    simp [iha ha _ (show a.top lo < Tm.top (.cat a b) lo by simp only [Tm.top, Tm.size]; omega), ihb hb _ (show b.top (lo + a.size) < Tm.top (.cat a b) lo by simp only [Tm.top, Tm.size]; omega)]
  | alt a b iha ihb =>
    intro lo h i hi; rw [canL_pre l hi]
    obtain ⟨ha, hb, _⟩ := (At.bin rfl rfl).1 h
    have := a.size_pos; have := b.size_pos
    simp only [canNode, h.gt_top, Tm.node, Tm.can]
    simp [iha ha _ (show a.top lo < Tm.top (.alt a b) lo by simp only [Tm.top, Tm.size]; omega), ihb hb _ (show b.top (lo + a.size) < Tm.top (.alt a b) lo by simp only [Tm.top, Tm.size]; omega)]
  | star a iha => intro lo h i hi; rw [canL_pre l hi]; simp [canNode, h.gt_top, Tm.node, Tm.can]
  | maybe a iha => intro lo h i hi; rw [canL_pre l hi]; simp [canNode, h.gt_top, Tm.node, Tm.can]
  | group n a iha =>
    intro lo h i hi; rw [canL_pre l hi]
    obtain ⟨ha, _⟩ := (At.un rfl rfl).1 h
    have := a.size_pos
    simp only [canNode, h.gt_top, Tm.node, Tm.can]
    simp [iha ha _ (show a.top lo < Tm.top (.group n a) lo by simp only [Tm.top, Tm.size]; omega)]
  | iter a iha =>
    intro lo h i hi; rw [canL_pre l hi]
    obtain ⟨ha, _⟩ := (At.un rfl rfl).1 h
    have := a.size_pos
    simp only [canNode, h.gt_top, Tm.node, Tm.can]
    simp [iha ha _ (show a.top lo < Tm.top (.iter a) lo by simp only [Tm.top, Tm.size]; omega)]
def CanF (l : List MTerm) : List Bool := if RightB l then canL l l.length else []

theorem can_step {l : List MTerm} {t : Tm} (ht : IsT l t) {i : Nat} (hi : i < l.length) (fuel : Nat) :
    m_null_Can_l1 fuel l (canL l i ++ List.replicate (l.length - i) false, (i : Int)) = some (.next (canL l (i + 1) ++ List.replicate (l.length - (i + 1)) false, ((i + 1 : Nat) : Int))) ∧
    m_ref12_Can_l1 fuel l (canL l i ++ List.replicate (l.length - i) false, (i : Int)) = some (.next (canL l (i + 1) ++ List.replicate (l.length - (i + 1)) false, ((i + 1 : Nat) : Int))) := by
  have h400 := ht.le; have hlen := ht.len
  have h1 : (i : Int) < (l.length : Int) := by omega
  have hin : inb l (i : Int) = true := inb_true (by omega) (by omega)
  have hWi : W ((i : Int) + 1) = ((i + 1 : Nat) : Int) := W_succ (by omega)
  rw [replicate_cons hi false]
  generalize hm : List.replicate (l.length - (i + 1)) false = m
  have hset : ∀ (y : Bool), (canL l i ++ false :: m).set i y = canL l i ++ y :: m := fun y => set_mid (canL_len l i).symm
  have hgl : ∀ (z : Nat), z < i → gt (canL l i ++ false :: m) (z : Int) = gt (canL l i) (z : Int) := fun z h => gt_append_left (by omega) (by rw [canL_len]; omega)
  have hib : ∀ (z : Nat), z ≤ i → inb (canL l i ++ false :: m) (z : Int) = true := fun z h => inb_true (by omega) (by simp [canL_len]; omega)
  have hii := hib i (by omega)
  have hr : canL l (i + 1) ++ m = canL l i ++ canNode l (canL l i) i :: m := by simp [canL]
  rw [hr]
  unfold m_null_Can_l1 m_ref12_Can_l1
  simp only [h1, decide_true, if_true, hin, hii, hWi, Int.toNat_natCast, hset]
  obtain ⟨lo, s, hat, hs⟩ := ht.node hi
  have hg := hat.gt_top
  rw [hs] at hg
  cases s with
  | eps => simp [hg, Tm.node, canNode]
  | leaf s => simp [hg, Tm.node, canNode, hset false]
  | cat a b =>
    have := a.size_pos; have := b.size_pos
    have pa : a.top lo < i := by rw [← hs]; simp only [Tm.top, Tm.size]; omega
    have pb : b.top (lo + a.size) < i := by rw [← hs]; simp only [Tm.top, Tm.size]; omega
    simp only [hg, Tm.node, canNode, hib _ (Nat.le_of_lt pa), hib _ (Nat.le_of_lt pb), hgl _ pa, hgl _ pb]
    cases gt (canL l i) (a.top lo : Int) <;> simp
  | alt a b =>
    have := a.size_pos; have := b.size_pos
    have pa : a.top lo < i := by rw [← hs]; simp only [Tm.top, Tm.size]; omega
    have pb : b.top (lo + a.size) < i := by rw [← hs]; simp only [Tm.top, Tm.size]; omega
    simp only [hg, Tm.node, canNode, hib _ (Nat.le_of_lt pa), hib _ (Nat.le_of_lt pb), hgl _ pa, hgl _ pb]
    cases gt (canL l i) (a.top lo : Int) <;> simp
  | star a => simp [hg, Tm.node, canNode]
  | maybe a => simp [hg, Tm.node, canNode]
  | group n a =>
    have := a.size_pos
    have pa : a.top lo < i := by rw [← hs]; simp only [Tm.top, Tm.size]; omega
    simp [hg, Tm.node, canNode, hib _ (Nat.le_of_lt pa), hgl _ pa]
  | iter a =>
    have := a.size_pos
    have pa : a.top lo < i := by rw [← hs]; simp only [Tm.top, Tm.size]; omega
    simp [hg, Tm.node, canNode, hib _ (Nat.le_of_lt pa), hgl _ pa]
theorem m_Can {l : List MTerm} (hw : ∀ x ∈ l, wfTerm x) {fuel : Nat} (hf : 401 < fuel) : m_null_Can fuel l = some (CanF l) := by
  unfold m_null_Can CanF
  rw [m_Right l hf]
  cases hR : RightB l with
  | false => rfl
  | true =>
    obtain ⟨t, ht⟩ := tree_of hw hR
    have h400 := ht.le; have hlen := ht.len
    have hmk : mkOk 1 (l.length : Int) = true := by simp [mkOk]; omega
    have := iter_up (step := m_null_Can_l1 fuel l) (fun i => (canL l i ++ List.replicate (l.length - i) false, (i : Int))) (canL l l.length) l.length
      (fun i hi => .inl (can_step ht hi fuel).1) (by unfold m_null_Can_l1; simp) l.length 0 fuel (by omega) (by omega)
    simp only [bind_some', Bool.not_true, Bool.false_eq_true, if_false, hmk, if_true, Int.toNat_natCast]
    simp only [canL, List.nil_append, Nat.sub_zero] at this
    rw [show (0 : Int) = ((0 : Nat) : Int) from rfl, this]
    rfl
theorem r_Can {l : List MTerm} (hw : ∀ x ∈ l, wfTerm x) (hl : l.length * 64 ≤ 140737488351232) {fuel : Nat} (hf : 401 < fuel) (hf2 : l.length + 1 < fuel) : m_ref12_Can fuel l = some (CanF l) := by
  unfold m_ref12_Can CanF
  rw [r_Right l hl hf2]
  cases hR : RightB l with
  | false => rfl
  | true =>
    obtain ⟨t, ht⟩ := tree_of hw hR
    have h400 := ht.le; have hlen := ht.len
    have hmk : mkOk 1 (l.length : Int) = true := by simp [mkOk]; omega
    have := iter_up (step := m_ref12_Can_l1 fuel l) (fun i => (canL l i ++ List.replicate (l.length - i) false, (i : Int))) (canL l l.length) l.length
      (fun i hi => .inl (can_step ht hi fuel).2) (by unfold m_ref12_Can_l1; simp) l.length 0 fuel (by omega) (by omega)
    simp only [bind_some', Bool.not_true, Bool.false_eq_true, if_false, hmk, if_true, Int.toNat_natCast]
    simp only [canL, List.nil_append, Nat.sub_zero] at this
    rw [show (0 : Int) = ((0 : Nat) : Int) from rfl, this]
    rfl
end Go.Proofs.Ytfhehbfifffipaa
