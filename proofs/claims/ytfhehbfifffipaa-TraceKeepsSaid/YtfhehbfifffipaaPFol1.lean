/- What is known of the nodes of a term: whether they can be nothing, and how; by the program and by the document. Its conditions: none. -/
import Derived.Test.YtfhehbfifffipaaPTerm
set_option autoImplicit false
namespace Go.Proofs.Ytfhehbfifffipaa
open Go.V Go.RowKit

theorem At.node_at {l : List MTerm} : ∀ {s : Tm} {lo : Nat}, At l lo s → ∀ i, lo ≤ i → i < lo + s.size → ∃ lo' s', At l lo' s' ∧ s'.top lo' = i ∧ lo ≤ lo' ∧ s'.size ≤ s.size := by
  intro s
  have leafc : ∀ (t : Tm) (lo : Nat), t.size = 1 → At l lo t → ∀ i, lo ≤ i → i < lo + t.size → ∃ lo' s', At l lo' s' ∧ s'.top lo' = i ∧ lo ≤ lo' ∧ s'.size ≤ t.size := fun t lo ht h i h1 h2 => ⟨lo, t, h, by unfold Tm.top; omega, by omega, by omega⟩
  induction s with
  | eps => exact fun h => leafc _ _ rfl h
  | leaf s => exact fun h => leafc _ _ rfl h
  | cat a b iha ihb =>
    intro lo h i h1 h2
    obtain ⟨ha, hb, _⟩ := (At.bin rfl rfl).1 h
    simp only [Tm.size] at h2 ⊢
    rcases Nat.lt_or_ge i (lo + a.size) with c | c
    · obtain ⟨lo', s', p1, p2, p3, p4⟩ := iha ha i h1 c; exact ⟨lo', s', p1, p2, p3, by omega⟩
    · rcases Nat.lt_or_ge i (lo + a.size + b.size) with c2 | c2
      · obtain ⟨lo', s', p1, p2, p3, p4⟩ := ihb hb i c c2; exact ⟨lo', s', p1, p2, by omega, by omega⟩
      · exact ⟨lo, .cat a b, h, by simp only [Tm.top, Tm.size]; omega, by omega, by simp [Tm.size]⟩
  | alt a b iha ihb =>
    intro lo h i h1 h2
    obtain ⟨ha, hb, _⟩ := (At.bin rfl rfl).1 h
    simp only [Tm.size] at h2 ⊢
    rcases Nat.lt_or_ge i (lo + a.size) with c | c
    · obtain ⟨lo', s', p1, p2, p3, p4⟩ := iha ha i h1 c; exact ⟨lo', s', p1, p2, p3, by omega⟩
    · rcases Nat.lt_or_ge i (lo + a.size + b.size) with c2 | c2
      · obtain ⟨lo', s', p1, p2, p3, p4⟩ := ihb hb i c c2; exact ⟨lo', s', p1, p2, by omega, by omega⟩
      · exact ⟨lo, .alt a b, h, by simp only [Tm.top, Tm.size]; omega, by omega, by simp [Tm.size]⟩
  | star a iha =>
    intro lo h i h1 h2
    obtain ⟨ha, _⟩ := (At.un rfl rfl).1 h
    simp only [Tm.size] at h2 ⊢
    rcases Nat.lt_or_ge i (lo + a.size) with c | c
    · obtain ⟨lo', s', p1, p2, p3, p4⟩ := iha ha i h1 c; exact ⟨lo', s', p1, p2, p3, by omega⟩
    · exact ⟨lo, .star a, h, by simp only [Tm.top, Tm.size]; omega, by omega, by simp [Tm.size]⟩
  | maybe a iha =>
    intro lo h i h1 h2
    obtain ⟨ha, _⟩ := (At.un rfl rfl).1 h
    simp only [Tm.size] at h2 ⊢
    rcases Nat.lt_or_ge i (lo + a.size) with c | c
    · obtain ⟨lo', s', p1, p2, p3, p4⟩ := iha ha i h1 c; exact ⟨lo', s', p1, p2, p3, by omega⟩
    · exact ⟨lo, .maybe a, h, by simp only [Tm.top, Tm.size]; omega, by omega, by simp [Tm.size]⟩
  | group n a iha =>
    intro lo h i h1 h2
    obtain ⟨ha, _⟩ := (At.un rfl rfl).1 h
    simp only [Tm.size] at h2 ⊢
    rcases Nat.lt_or_ge i (lo + a.size) with c | c
    · obtain ⟨lo', s', p1, p2, p3, p4⟩ := iha ha i h1 c; exact ⟨lo', s', p1, p2, p3, by omega⟩
    · exact ⟨lo, .group n a, h, by simp only [Tm.top, Tm.size]; omega, by omega, by simp [Tm.size]⟩
  | iter a iha =>
    intro lo h i h1 h2
    obtain ⟨ha, _⟩ := (At.un rfl rfl).1 h
    simp only [Tm.size] at h2 ⊢
    rcases Nat.lt_or_ge i (lo + a.size) with c | c
    · obtain ⟨lo', s', p1, p2, p3, p4⟩ := iha ha i h1 c; exact ⟨lo', s', p1, p2, p3, by omega⟩
    · exact ⟨lo, .iter a, h, by simp only [Tm.top, Tm.size]; omega, by omega, by simp [Tm.size]⟩
theorem IsT.node {l : List MTerm} {t : Tm} (h : IsT l t) {i : Nat} (hi : i < l.length) : ∃ lo s, At l lo s ∧ s.top lo = i := by
  obtain ⟨lo, s, h1, h2, _⟩ := h.at0.node_at i (by omega) (by rw [h.len] at hi; omega)
  exact ⟨lo, s, h1, h2⟩

/-! Can. -/
def Tm.can : Tm → Bool
  | .eps => true | .leaf _ => false | .cat a b => a.can && b.can | .alt a b => a.can || b.can
  | .star _ => true | .maybe _ => true | .group _ a => a.can | .iter a => a.can
def canNode (l : List MTerm) (c : List Bool) (i : Nat) : Bool :=
  let x := gt l (i : Int)
  if x.Kind = 1 ∨ x.Kind = 5 ∨ x.Kind = 6 then true
  else if x.Kind = 3 then gt c x.A && gt c x.B else if x.Kind = 4 then gt c x.A || gt c x.B else if x.Kind = 7 ∨ x.Kind = 8 then gt c x.A else false
def canL (l : List MTerm) : Nat → List Bool
  | 0 => []
  | i + 1 => canL l i ++ [canNode l (canL l i) i]
theorem canL_len (l : List MTerm) : ∀ i, (canL l i).length = i
  | 0 => rfl
  | i + 1 => by simp [canL, canL_len l i]
theorem canL_pre (l : List MTerm) {i j : Nat} (h : j < i) : gt (canL l i) (j : Int) = canNode l (canL l j) j := by
  induction i with
  | zero => omega
  | succ i ih =>
    simp only [canL]
    by_cases e : j = i
    · subst e; rw [gt_append_right (canL_len l j).symm]
    · rw [gt_append_left (by omega) (by rw [canL_len]; omega)]; exact ih (by omega)
theorem canL_top {l : List MTerm} : ∀ {s : Tm} {lo : Nat}, At l lo s → ∀ i, s.top lo < i → gt (canL l i) (s.top lo : Int) = s.can := by
  intro s
  induction s with
  | eps => intro lo h i hi; rw [canL_pre l hi]; simp [canNode, h.gt_top, Tm.node, Tm.can]
  | leaf s => intro lo h i hi; rw [canL_pre l hi]; simp [canNode, h.gt_top, Tm.node, Tm.can]
  | cat a b iha ihb =>
    intro lo h i hi; rw [canL_pre l hi]
    obtain ⟨ha, hb, _⟩ := (At.bin rfl rfl).1 h
    have := a.size_pos; have := b.size_pos
    simp only [canNode, h.gt_top, Tm.node, Tm.can]
    simp [iha ha _ (show a.top lo < Tm.top (.cat a b) lo by simp only [Tm.top, Tm.size]; omega), ihb hb _ (show b.top (lo + a.size) < Tm.top (.cat a b) lo by simp only [Tm.top, Tm.size]; omega)]
  | alt a b iha ihb =>
    intro lo h i hi; rw [canL_pre l hi]
    obtain ⟨ha, hb, _⟩ := (At.bin rfl rfl).1 h
    have := a.size_pos; have := b.size_pos
    simp only [canNode, h.gt_top, Tm.node, Tm.can]
    simp [iha ha _ (show a.top lo < Tm.top (.alt a b) lo by simp only [Tm.top, Tm.size]; omega), ihb hb _ (show b.top (lo + a.size) < Tm.top (.alt a b) lo by simp only [Tm.top, Tm.size]; omega)]
  | star a iha => intro lo h i hi; rw [canL_pre l hi]; simp [canNode, h.gt_top, Tm.node, Tm.can]
  | maybe a iha => intro lo h i hi; rw [canL_pre l hi]; simp [canNode, h.gt_top, Tm.node, Tm.can]
  | group n a iha =>
    intro lo h i hi; rw [canL_pre l hi]
    obtain ⟨ha, _⟩ := (At.un rfl rfl).1 h
    have := a.size_pos
    simp only [canNode, h.gt_top, Tm.node, Tm.can]
    simp [iha ha _ (show a.top lo < Tm.top (.group n a) lo by simp only [Tm.top, Tm.size]; omega)]
  | iter a iha =>
    intro lo h i hi; rw [canL_pre l hi]
    obtain ⟨ha, _⟩ := (At.un rfl rfl).1 h
    have := a.size_pos
    simp only [canNode, h.gt_top, Tm.node, Tm.can]
    simp [iha ha _ (show a.top lo < Tm.top (.iter a) lo by simp only [Tm.top, Tm.size]; omega)]
def CanF (l : List MTerm) : List Bool := if RightB l then canL l l.length else []

theorem can_step {l : List MTerm} {t : Tm} (ht : IsT l t) {i : Nat} (hi : i < l.length) (fuel : Nat) :
    m_null_Can_l1 fuel l (canL l i ++ List.replicate (l.length - i) false, (i : Int)) = some (.next (canL l (i + 1) ++ List.replicate (l.length - (i + 1)) false, ((i + 1 : Nat) : Int))) ∧
    m_ref12_Can_l1 fuel l (canL l i ++ List.replicate (l.length - i) false, (i : Int)) = some (.next (canL l (i + 1) ++ List.replicate (l.length - (i + 1)) false, ((i + 1 : Nat) : Int))) := by
  have h400 := ht.le; have hlen := ht.len
  have h1 : (i : Int) < (l.length : Int) := by omega
  have hin : inb l (i : Int) = true := inb_true (by omega) (by omega)
  have hWi : W ((i : Int) + 1) = ((i + 1 : Nat) : Int) := W_succ (by omega)
  rw [replicate_cons hi false]
  generalize hm : List.replicate (l.length - (i + 1)) false = m
  have hset : ∀ (y : Bool), (canL l i ++ false :: m).set i y = canL l i ++ y :: m := fun y => set_mid (canL_len l i).symm
  have hgl : ∀ (z : Nat), z < i → gt (canL l i ++ false :: m) (z : Int) = gt (canL l i) (z : Int) := fun z h => gt_append_left (by omega) (by rw [canL_len]; omega)
  have hib : ∀ (z : Nat), z ≤ i → inb (canL l i ++ false :: m) (z : Int) = true := fun z h => inb_true (by omega) (by simp [canL_len]; omega)
  have hii := hib i (by omega)
  have hr : canL l (i + 1) ++ m = canL l i ++ canNode l (canL l i) i :: m := by simp [canL]
  rw [hr]
  unfold m_null_Can_l1 m_ref12_Can_l1
  simp only [h1, decide_true, if_true, hin, hii, hWi, Int.toNat_natCast, hset]
  obtain ⟨lo, s, hat, hs⟩ := ht.node hi
  have hg := hat.gt_top
  rw [hs] at hg
  cases s with
  | eps => simp [hg, Tm.node, canNode]
  | leaf s => simp [hg, Tm.node, canNode, hset false]
  | cat a b =>
    have := a.size_pos; have := b.size_pos
    have pa : a.top lo < i := by rw [← hs]; simp only [Tm.top, Tm.size]; omega
    have pb : b.top (lo + a.size) < i := by rw [← hs]; simp only [Tm.top, Tm.size]; omega
    simp only [hg, Tm.node, canNode, hib _ (Nat.le_of_lt pa), hib _ (Nat.le_of_lt pb), hgl _ pa, hgl _ pb]
    cases gt (canL l i) (a.top lo : Int) <;> simp
  | alt a b =>
    have := a.size_pos; have := b.size_pos
    have pa : a.top lo < i := by rw [← hs]; simp only [Tm.top, Tm.size]; omega
    have pb : b.top (lo + a.size) < i := by rw [← hs]; simp only [Tm.top, Tm.size]; omega
    simp only [hg, Tm.node, canNode, hib _ (Nat.le_of_lt pa), hib _ (Nat.le_of_lt pb), hgl _ pa, hgl _ pb]
    cases gt (canL l i) (a.top lo : Int) <;> simp
  | star a => simp [hg, Tm.node, canNode]
  | maybe a => simp [hg, Tm.node, canNode]
  | group n a =>
    have := a.size_pos
    have pa : a.top lo < i := by rw [← hs]; simp only [Tm.top, Tm.size]; omega
    simp [hg, Tm.node, canNode, hib _ (Nat.le_of_lt pa), hgl _ pa]
  | iter a =>
    have := a.size_pos
    have pa : a.top lo < i := by rw [← hs]; simp only [Tm.top, Tm.size]; omega
    simp [hg, Tm.node, canNode, hib _ (Nat.le_of_lt pa), hgl _ pa]
theorem m_Can {l : List MTerm} (hw : ∀ x ∈ l, wfTerm x) {fuel : Nat} (hf : 401 < fuel) : m_null_Can fuel l = some (CanF l) := by
  unfold m_null_Can CanF
  rw [m_Right l hf]
  cases hR : RightB l with
  | false => rfl
  | true =>
    obtain ⟨t, ht⟩ := tree_of hw hR
    have h400 := ht.le; have hlen := ht.len
    have hmk : mkOk 1 (l.length : Int) = true := by simp [mkOk]; omega
    have := iter_up (step := m_null_Can_l1 fuel l) (fun i => (canL l i ++ List.replicate (l.length - i) false, (i : Int))) (canL l l.length) l.length
      (fun i hi => .inl (can_step ht hi fuel).1) (by unfold m_null_Can_l1; simp) l.length 0 fuel (by omega) (by omega)
    simp only [bind_some', Bool.not_true, Bool.false_eq_true, if_false, hmk, if_true, Int.toNat_natCast]
    simp only [canL, List.nil_append, Nat.sub_zero] at this
    rw [show (0 : Int) = ((0 : Nat) : Int) from rfl, this]
    rfl
theorem r_Can {l : List MTerm} (hw : ∀ x ∈ l, wfTerm x) (hl : l.length * 64 ≤ 140737488351232) {fuel : Nat} (hf : 401 < fuel) (hf2 : l.length + 1 < fuel) : m_ref12_Can fuel l = some (CanF l) := by
  unfold m_ref12_Can CanF
  rw [r_Right l hl hf2]
  cases hR : RightB l with
  | false => rfl
  | true =>
    obtain ⟨t, ht⟩ := tree_of hw hR
    have h400 := ht.le; have hlen := ht.len
    have hmk : mkOk 1 (l.length : Int) = true := by simp [mkOk]; omega
    have := iter_up (step := m_ref12_Can_l1 fuel l) (fun i => (canL l i ++ List.replicate (l.length - i) false, (i : Int))) (canL l l.length) l.length
      (fun i hi => .inl (can_step ht hi fuel).2) (by unfold m_ref12_Can_l1; simp) l.length 0 fuel (by omega) (by omega)
    simp only [bind_some', Bool.not_true, Bool.false_eq_true, if_false, hmk, if_true, Int.toNat_natCast]
    simp only [canL, List.nil_append, Nat.sub_zero] at this
    rw [show (0 : Int) = ((0 : Nat) : Int) from rfl, this]
    rfl
/-! Leaves. -/
def leavesL (l : List MTerm) : Nat → List Int
  | 0 => []
  | i + 1 => if (gt l (i : Int)).Kind = 2 then leavesL l i ++ [(i : Int)] else leavesL l i
theorem leavesL_len (l : List MTerm) : ∀ i, (leavesL l i).length = leavesN l i
  | 0 => rfl
  | i + 1 => by simp only [leavesL, leavesN]; split <;> simp [leavesL_len l i]
def LeavesF (l : List MTerm) : List Int := if RightB l then leavesL l l.length else []
theorem leaves_step {l : List MTerm} (hl : l.length ≤ 400) {i : Nat} (hi : i < l.length) (fuel : Nat) :
    m_place_Leaves_l1 fuel l (leavesL l i, (i : Int)) = some (.next (leavesL l (i + 1), ((i + 1 : Nat) : Int))) ∧ m_ref16_Leaves_l1 fuel l (leavesL l i, (i : Int)) = some (.next (leavesL l (i + 1), ((i + 1 : Nat) : Int))) := by
  have h1 : (i : Int) < (l.length : Int) := by omega
  have hin : inb l (i : Int) = true := inb_true (by omega) (by omega)
  have hWi : W ((i : Int) + 1) = ((i + 1 : Nat) : Int) := W_succ (by omega)
  have hle := leavesN_le l i
  have hap : apOk 8 (leavesL l i) [(i : Int)] = true := apOk_true (by rw [leavesL_len]; simp; omega)
  unfold m_place_Leaves_l1 m_ref16_Leaves_l1
  by_cases hk : (gt l (i : Int)).Kind = 2 <;> simp [h1, hin, hWi, hap, hk, leavesL]
theorem m_Leaves {l : List MTerm} (hw : ∀ x ∈ l, wfTerm x) {fuel : Nat} (hf : 401 < fuel) : m_place_Leaves fuel l = some (LeavesF l) := by
  unfold m_place_Leaves LeavesF
  rw [m_Right l hf]
  cases hR : RightB l with
  | false => rfl
  | true =>
    obtain ⟨t, ht⟩ := tree_of hw hR
    have h400 := ht.le; have hlen := ht.len
    have := iter_up (step := m_place_Leaves_l1 fuel l) (fun i => (leavesL l i, (i : Int))) (leavesL l l.length) l.length (fun i hi => .inl (leaves_step (by omega) hi fuel).1) (by unfold m_place_Leaves_l1; simp) l.length 0 fuel (by omega) (by omega)
    simp only [bind_some', Bool.not_true, Bool.false_eq_true, if_false, if_true]
    simp only [leavesL] at this
    rw [show (0 : Int) = ((0 : Nat) : Int) from rfl, this]; rfl
theorem r_Leaves {l : List MTerm} (hw : ∀ x ∈ l, wfTerm x) (hl : l.length * 64 ≤ 140737488351232) {fuel : Nat} (hf : 401 < fuel) (hf2 : l.length + 1 < fuel) : m_ref16_Leaves fuel l = some (LeavesF l) := by
  unfold m_ref16_Leaves LeavesF
  rw [r_Right l hl hf2]
  cases hR : RightB l with
  | false => rfl
  | true =>
    obtain ⟨t, ht⟩ := tree_of hw hR
    have h400 := ht.le; have hlen := ht.len
    have := iter_up (step := m_ref16_Leaves_l1 fuel l) (fun i => (leavesL l i, (i : Int))) (leavesL l l.length) l.length (fun i hi => .inl (leaves_step (by omega) hi fuel).2) (by unfold m_ref16_Leaves_l1; simp) l.length 0 fuel (by omega) (by omega)
    simp only [bind_some', Bool.not_true, Bool.false_eq_true, if_false, if_true]
    simp only [leavesL] at this
    rw [show (0 : Int) = ((0 : Nat) : Int) from rfl, this]; rfl
theorem leavesN_mono (l : List MTerm) {i j : Nat} (h : i ≤ j) : leavesN l i ≤ leavesN l j := by
  induction j with
  | zero => obtain rfl : i = 0 := by omega
            exact Nat.le_refl _
  | succ j ih =>
    by_cases e : i = j + 1
    · subst e; exact Nat.le_refl _
    · have := ih (by omega); simp only [leavesN]; omega
/-- The place p is that of the Leaf q. -/
theorem leavesL_get (l : List MTerm) : ∀ (i p : Nat), p < leavesN l i → ∃ q : Nat, q < i ∧ (leavesL l i)[p]? = some (q : Int) ∧ (gt l (q : Int)).Kind = 2 ∧ leavesN l q = p
  | 0, p, h => by simp [leavesN] at h
  | i + 1, p, h => by
    simp only [leavesN, leavesL] at h ⊢
    by_cases hk : (gt l (i : Int)).Kind = 2
    · simp only [hk, if_true] at h ⊢
      by_cases e : p = leavesN l i
      · exact ⟨i, by omega, by rw [List.getElem?_append_right (by rw [leavesL_len]; omega), leavesL_len]; simp [e], hk, e.symm⟩
      · obtain ⟨q, h1, h2, h3, h4⟩ := leavesL_get l i p (by omega)
        exact ⟨q, by omega, by rw [List.getElem?_append_left (by rw [leavesL_len]; omega)]; exact h2, h3, h4⟩
    · simp only [hk, if_false, Nat.add_zero] at h ⊢
      obtain ⟨q, h1, h2, h3, h4⟩ := leavesL_get l i p h
      exact ⟨q, by omega, h2, h3, h4⟩

/-! Index. -/
def idxL (l : List MTerm) : Nat → List Int
  | 0 => []
  | i + 1 => idxL l i ++ [if (gt l (i : Int)).Kind = 2 then (leavesN l i : Int) else -1]
theorem idxL_len (l : List MTerm) : ∀ i, (idxL l i).length = i
  | 0 => rfl
  | i + 1 => by simp [idxL, idxL_len l i]
theorem idxL_get (l : List MTerm) : ∀ (i j : Nat), j < i → (idxL l i)[j]? = some (if (gt l (j : Int)).Kind = 2 then (leavesN l j : Int) else -1)
  | 0, j, h => by omega
  | i + 1, j, h => by
    simp only [idxL]
    by_cases e : j = i
    · subst e; rw [List.getElem?_append_right (by rw [idxL_len]; omega), idxL_len]; simp
    · rw [List.getElem?_append_left (by rw [idxL_len]; omega)]; exact idxL_get l i j (by omega)
def IndexF (l : List MTerm) : List Int := if RightB l then idxL l l.length else []
def idxQ (l : List MTerm) (p : Nat) : Nat → List Int
  | 0 => []
  | i + 1 => idxQ l p i ++ [if (gt l (i : Int)).Kind = 2 ∧ leavesN l i < p then (leavesN l i : Int) else -1]
theorem idxQ_len (l : List MTerm) (p : Nat) : ∀ i, (idxQ l p i).length = i
  | 0 => rfl
  | i + 1 => by simp [idxQ, idxQ_len l p i]
theorem idxQ_get (l : List MTerm) (p : Nat) : ∀ (i j : Nat), j < i → (idxQ l p i)[j]? = some (if (gt l (j : Int)).Kind = 2 ∧ leavesN l j < p then (leavesN l j : Int) else -1)
  | 0, j, h => by omega
  | i + 1, j, h => by
    simp only [idxQ]
    by_cases e : j = i
    · subst e; rw [List.getElem?_append_right (by rw [idxQ_len]; omega), idxQ_len]; simp
    · rw [List.getElem?_append_left (by rw [idxQ_len]; omega)]; exact idxQ_get l p i j (by omega)
theorem leaf_inj (l : List MTerm) {i j : Nat} (hi : (gt l (i : Int)).Kind = 2) (hj : (gt l (j : Int)).Kind = 2) (h : leavesN l i = leavesN l j) : i = j := by
  rcases Nat.lt_trichotomy i j with c | c | c
  · have := leavesN_mono l (show i + 1 ≤ j from c); simp only [leavesN, hi, if_true] at this; omega
  · exact c
  · have := leavesN_mono l (show j + 1 ≤ i from c); simp only [leavesN, hj, if_true] at this; omega
theorem idxQ_set (l : List MTerm) {p q n : Nat} (hq : q < n) (hk : (gt l (q : Int)).Kind = 2) (hp : leavesN l q = p) : (idxQ l p n).set q (p : Int) = idxQ l (p + 1) n := by
  apply List.ext_getElem?
  intro j
  by_cases hj : j < n
  · rw [idxQ_get l _ n j hj, List.getElem?_set]
    by_cases e : q = j
    · subst e; simp [idxQ_len, hj, hk, hp]
    · rw [if_neg e, idxQ_get l _ n j hj]
      by_cases k2 : (gt l (j : Int)).Kind = 2
      · have : leavesN l j ≠ p := fun h => e (leaf_inj l hk k2 (hp.trans h.symm))
        simp only [k2, true_and]
        by_cases c : leavesN l j < p
        · rw [if_pos c, if_pos (by omega)]
        · rw [if_neg c, if_neg (by omega)]
      · simp [k2]
  · rw [List.getElem?_eq_none (by simp [idxQ_len]; omega), List.getElem?_eq_none (by simp [idxQ_len]; omega)]
theorem idxQ_zero (l : List MTerm) : ∀ n, idxQ l 0 n = List.replicate n (-1)
  | 0 => rfl
  | n + 1 => by simp [idxQ, idxQ_zero l n, List.replicate_succ']
theorem idxQ_all (l : List MTerm) (n : Nat) : idxQ l (leavesN l n) n = idxL l n := by
  apply List.ext_getElem?
  intro j
  by_cases hj : j < n
  · rw [idxQ_get l _ n j hj, idxL_get l n j hj]
    by_cases k2 : (gt l (j : Int)).Kind = 2
    · have := leavesN_mono l (show j + 1 ≤ n from hj); simp only [leavesN, k2, if_true] at this
      simp [k2]; omega
    · simp [k2]
  · rw [List.getElem?_eq_none (by simp [idxQ_len]; omega), List.getElem?_eq_none (by simp [idxL_len]; omega)]
theorem m_Index {l : List MTerm} (hw : ∀ x ∈ l, wfTerm x) {fuel : Nat} (hf : 401 < fuel) : m_place_Index fuel l = some (IndexF l) := by
  unfold m_place_Index IndexF
  rw [m_Right l hf, m_Leaves hw hf]
  cases hR : RightB l with
  | false => rfl
  | true =>
    obtain ⟨t, ht⟩ := tree_of hw hR
    have h400 := ht.le; have hlen := ht.len
    have hmk : mkOk 8 (l.length : Int) = true := by simp [mkOk]; omega
    have e1 := iter_up (step := m_place_Index_l1 fuel l) (fun i => (List.replicate i (-1) ++ List.replicate (l.length - i) 0, (i : Int))) (List.replicate l.length (-1)) l.length
      (fun i hi => .inl (by
        have h1 : (i : Int) < (l.length : Int) := by omega
        have hii : inb (List.replicate i (-1 : Int) ++ List.replicate (l.length - i) 0) (i : Int) = true := inb_true (by omega) (by simp; omega)
        unfold m_place_Index_l1
        simp only [List.length_replicate, Int.toNat_natCast, h1, decide_true, if_true, hii, W_succ (show i < 9223372036854775807 by omega)]
        rw [replicate_cons hi 0, set_mid (by simp), List.replicate_succ']
        simp)) (by unfold m_place_Index_l1; simp) l.length 0 fuel (by omega) (by omega)
    have hLF : LeavesF l = leavesL l l.length := by simp [LeavesF, hR]
    have hle := leavesN_le l l.length
    have e2 := iter_up (step := m_place_Index_l2 fuel (List.replicate l.length (-1)) (leavesL l l.length)) (fun p => (idxQ l p l.length, (p : Int))) (idxL l l.length) (leavesN l l.length)
      (fun p hp => .inl (by
        obtain ⟨q, h1, h2, h3, h4⟩ := leavesL_get l l.length p hp
        have h5 : (p : Int) < ((leavesL l l.length).length : Int) := by rw [leavesL_len]; omega
        have h6 : inb (leavesL l l.length) (p : Int) = true := inb_true (by omega) h5
        have h7 : inb (idxQ l p l.length) (q : Int) = true := inb_true (by omega) (by rw [idxQ_len]; omega)
        unfold m_place_Index_l2
        simp only [h5, decide_true, if_true, h6, gt_get_nat h2, h7, Int.toNat_natCast, idxQ_set l h1 h3 h4, W_succ (show p < 9223372036854775807 by omega)])) (by unfold m_place_Index_l2; simp [leavesL_len, idxQ_all]) (leavesN l l.length) 0 fuel (by omega) (by omega)
    simp only [bind_some', Bool.not_true, Bool.false_eq_true, if_false, if_true, hmk, Int.toNat_natCast, hLF]
    simp only [List.replicate_zero, List.nil_append, Nat.sub_zero] at e1
    rw [show ((List.replicate l.length (0 : Int)), (0 : Int)) = (List.replicate l.length 0, ((0 : Nat) : Int)) from rfl, e1, bind_some']
    rw [idxQ_zero] at e2
    rw [show ((List.replicate l.length (-1 : Int)), (0 : Int)) = (List.replicate l.length (-1), ((0 : Nat) : Int)) from rfl, e2]; rfl
theorem r_Index {l : List MTerm} (hw : ∀ x ∈ l, wfTerm x) (hl : l.length * 64 ≤ 140737488351232) {fuel : Nat} (hf : 401 < fuel) (hf2 : l.length + 1 < fuel) : m_ref16_Index fuel l = some (IndexF l) := by
  unfold m_ref16_Index IndexF
  rw [r_Right l hl hf2]
  cases hR : RightB l with
  | false => rfl
  | true =>
    obtain ⟨t, ht⟩ := tree_of hw hR
    have h400 := ht.le; have hlen := ht.len
    have hmk : mkOk 8 (l.length : Int) = true := by simp [mkOk]; omega
    have e1 := iter_up (step := m_ref16_Index_l1 fuel l) (fun i => (idxL l i ++ List.replicate (l.length - i) 0, (leavesN l i : Int), (i : Int))) (idxL l l.length) l.length
      (fun i hi => .inl (by
        have h1 : (i : Int) < (l.length : Int) := by omega
        have hin : inb l (i : Int) = true := inb_true (by omega) (by omega)
        have hle := leavesN_le l i
        have hii : ∀ (y : Int) m, inb (idxL l i ++ y :: m) (i : Int) = true := fun y m => inb_true (by omega) (by simp [idxL_len]; omega)
        have hset : ∀ (x y : Int) m, (idxL l i ++ x :: m).set i y = idxL l i ++ y :: m := fun x y m => set_mid (idxL_len l i).symm
        unfold m_ref16_Index_l1
        rw [replicate_cons hi 0]
        simp only [h1, decide_true, if_true, hii, hin, Int.toNat_natCast, hset, W_succ (show i < 9223372036854775807 by omega), W_succ (show leavesN l i < 9223372036854775807 by omega), idxL, leavesN]
        by_cases k2 : (gt l (i : Int)).Kind = 2 <;> simp [k2])) (by unfold m_ref16_Index_l1; simp) l.length 0 fuel (by omega) (by omega)
    simp only [bind_some', Bool.not_true, Bool.false_eq_true, if_false, if_true, hmk, Int.toNat_natCast]
    simp only [idxL, leavesN, List.nil_append, Nat.sub_zero] at e1
    rw [show ((List.replicate l.length (0 : Int)), (0 : Int), (0 : Int)) = (List.replicate l.length 0, ((0 : Nat) : Int), ((0 : Nat) : Int)) from rfl, e1]; rfl
/-- What stands in u for the inner nodes of a tree. -/
def UpOk (u : List Int) (lo : Nat) : Tm → Prop
  | .eps => True
  | .leaf _ => True
  | .cat a b => gt u (a.top lo : Int) = (Tm.top (.cat a b) lo : Int) ∧ gt u (b.top (lo + a.size) : Int) = (Tm.top (.cat a b) lo : Int) ∧ UpOk u lo a ∧ UpOk u (lo + a.size) b
  | .alt a b => gt u (a.top lo : Int) = (Tm.top (.alt a b) lo : Int) ∧ gt u (b.top (lo + a.size) : Int) = (Tm.top (.alt a b) lo : Int) ∧ UpOk u lo a ∧ UpOk u (lo + a.size) b
  | .star a => gt u (a.top lo : Int) = (Tm.top (.star a) lo : Int) ∧ UpOk u lo a
  | .maybe a => gt u (a.top lo : Int) = (Tm.top (.maybe a) lo : Int) ∧ UpOk u lo a
  | .group n a => gt u (a.top lo : Int) = (Tm.top (.group n a) lo : Int) ∧ UpOk u lo a
  | .iter a => gt u (a.top lo : Int) = (Tm.top (.iter a) lo : Int) ∧ UpOk u lo a
theorem UpOk.congr {u v : List Int} : ∀ {s : Tm} {lo : Nat}, (∀ j : Nat, lo ≤ j → j < s.top lo → gt v (j : Int) = gt u (j : Int)) → UpOk u lo s → UpOk v lo s := by
  intro s
  induction s with
  | eps => intros; trivial
  | leaf s => intros; trivial
  | cat a b iha ihb =>
    intro lo h hu
    have := a.size_pos; have := b.size_pos
    simp only [Tm.top, Tm.size] at h
    obtain ⟨h1, h2, h3, h4⟩ := hu
    exact ⟨by rw [h _ (by unfold Tm.top; omega) (by unfold Tm.top; omega)]; exact h1, by rw [h _ (by unfold Tm.top; omega) (by unfold Tm.top; omega)]; exact h2,
      iha (fun j j1 j2 => h j j1 (by unfold Tm.top at j2; omega)) h3, ihb (fun j j1 j2 => h j (by omega) (by unfold Tm.top at j2; omega)) h4⟩
  | alt a b iha ihb =>
    intro lo h hu
    have := a.size_pos; have := b.size_pos
    simp only [Tm.top, Tm.size] at h
    obtain ⟨h1, h2, h3, h4⟩ := hu
    exact ⟨by rw [h _ (by unfold Tm.top; omega) (by unfold Tm.top; omega)]; exact h1, by rw [h _ (by unfold Tm.top; omega) (by unfold Tm.top; omega)]; exact h2,
      iha (fun j j1 j2 => h j j1 (by unfold Tm.top at j2; omega)) h3, ihb (fun j j1 j2 => h j (by omega) (by unfold Tm.top at j2; omega)) h4⟩
  | star a iha | maybe a iha | group _ a iha | iter a iha =>
    intro lo h hu
    have := a.size_pos
    simp only [Tm.top, Tm.size] at h
    obtain ⟨h1, h3⟩ := hu
    exact ⟨by rw [h _ (by unfold Tm.top; omega) (by unfold Tm.top; omega)]; exact h1, iha (fun j j1 j2 => h j j1 (by unfold Tm.top at j2; omega)) h3⟩

def setUp (l : List MTerm) (o : List Int) (i : Nat) : List Int :=
  let x := gt l (i : Int)
  let o1 := if 0 ≤ x.A then o.set x.A.toNat i else o
  if 0 ≤ x.B then o1.set x.B.toNat i else o1
def upR (l : List MTerm) (lo : Nat) : Nat → List Int → List Int
  | 0, o => o
  | k + 1, o => setUp l (upR l lo k o) (lo + k)
theorem setUp_len (l : List MTerm) (o : List Int) (i : Nat) : (setUp l o i).length = o.length := by
  unfold setUp; simp only; repeat' split
  all_goals simp
theorem upR_len (l : List MTerm) (lo : Nat) (o : List Int) : ∀ k, (upR l lo k o).length = o.length
  | 0 => rfl
  | k + 1 => by simp [upR, setUp_len, upR_len l lo o k]
theorem upR_add (l : List MTerm) (lo a : Nat) (o : List Int) : ∀ b, upR l lo (a + b) o = upR l (lo + a) b (upR l lo a o)
  | 0 => rfl
  | b + 1 => by rw [← Nat.add_assoc]; simp only [upR, upR_add l lo a o b, Nat.add_assoc]
theorem gt_set_ne {α : Type} [Inhabited α] {o : List α} {i j : Nat} {x : α} (h : i ≠ j) : gt (o.set i x) (j : Int) = gt o (j : Int) := by
  unfold gt
  rw [List.getD_eq_getElem?_getD, List.getD_eq_getElem?_getD, Int.toNat_natCast, List.getElem?_set_ne h]
theorem gt_set_eq {α : Type} [Inhabited α] {o : List α} {i : Nat} {x : α} (h : i < o.length) : gt (o.set i x) (i : Int) = x := gt_get_nat (by simp [h])
theorem upR_tree {l : List MTerm} : ∀ {s : Tm} {lo : Nat}, At l lo s → ∀ o : List Int, lo + s.size ≤ o.length →
    (∀ j : Nat, (j < lo ∨ s.top lo ≤ j) → gt (upR l lo s.size o) (j : Int) = gt o (j : Int)) ∧ UpOk (upR l lo s.size o) lo s := by
  intro s
  induction s with
  | eps =>
    intro lo h o ho
    refine ⟨fun j hj => ?_, trivial⟩
    have hg := h.gt_top
    simp only [Tm.top, Tm.size, Nat.add_sub_cancel] at hg
    simp [upR, Tm.size, setUp, hg, Tm.node]
  | leaf s =>
    intro lo h o ho
    refine ⟨fun j hj => ?_, trivial⟩
    have hg := h.gt_top
    simp only [Tm.top, Tm.size, Nat.add_sub_cancel] at hg
    simp [upR, Tm.size, setUp, hg, Tm.node]
  | cat a b iha ihb | alt a b iha ihb =>
    intro lo h o ho
    have hg := h.gt_top
    obtain ⟨ha, hb, _⟩ := (At.bin rfl rfl).1 h
    have := a.size_pos; have := b.size_pos
    simp only [Tm.size] at ho
    obtain ⟨a1, a2⟩ := iha ha o (by omega)
    obtain ⟨b1, b2⟩ := ihb hb (upR l lo a.size o) (by rw [upR_len]; omega)
    have e : upR l lo (a.size + b.size + 1) o = setUp l (upR l (lo + a.size) b.size (upR l lo a.size o)) (lo + (a.size + b.size)) := by simp only [upR, upR_add]
    simp only [Tm.size, e]
    generalize hv : upR l (lo + a.size) b.size (upR l lo a.size o) = v at *
    have hvl : v.length = o.length := by rw [← hv, upR_len, upR_len]
    have hi : lo + (a.size + b.size) = lo + (a.size + b.size + 1) - 1 := by omega
    have hs : setUp l v (lo + (a.size + b.size)) = (v.set (a.top lo) ((lo + (a.size + b.size) : Nat) : Int)).set (b.top (lo + a.size)) ((lo + (a.size + b.size) : Nat) : Int) := by
      simp only [Tm.top, Tm.size] at hg
      rw [← hi] at hg
      generalize lo + (a.size + b.size) = i at hg ⊢
      unfold setUp
      simp only [hg, Tm.node]
      simp
    rw [hs]
    have ta : a.top lo = lo + a.size - 1 := rfl
    have tb : b.top (lo + a.size) = lo + a.size + b.size - 1 := rfl
    refine ⟨fun j hj => ?_, ?_⟩
    · simp only [Tm.top, Tm.size] at hj
      rw [gt_set_ne (by omega), gt_set_ne (by omega), b1 j (by omega), a1 j (by omega)]
    · have tt : lo + (a.size + b.size) = lo + (a.size + b.size + 1) - 1 := by omega
      refine ⟨?_, ?_, ?_, ?_⟩
      · rw [gt_set_ne (by omega), gt_set_eq (by omega)]; simp only [Tm.top, Tm.size, tt]
      · rw [gt_set_eq (by simp; omega)]; simp only [Tm.top, Tm.size, tt]
      · exact a2.congr fun j j1 j2 => by rw [gt_set_ne (by omega), gt_set_ne (by omega), b1 j (by omega)]
      · exact b2.congr fun j j1 j2 => by rw [gt_set_ne (by omega), gt_set_ne (by omega)]
  | star a iha | maybe a iha | group _ a iha | iter a iha =>
    intro lo h o ho
    have hg := h.gt_top
    obtain ⟨ha, _⟩ := (At.un rfl rfl).1 h
    have := a.size_pos
    simp only [Tm.size] at ho
    obtain ⟨a1, a2⟩ := iha ha o (by omega)
    simp only [Tm.size, upR]
    generalize hv : upR l lo a.size o = v at *
    have hvl : v.length = o.length := by rw [← hv, upR_len]
    have hs : setUp l v (lo + a.size) = v.set (a.top lo) ((lo + a.size : Nat) : Int) := by
      simp only [Tm.top, Tm.size] at hg
      rw [show lo + (a.size + 1) - 1 = lo + a.size from by omega] at hg
      generalize lo + a.size = i at hg ⊢
      unfold setUp
      simp only [hg, Tm.node]
      simp
    rw [hs]
    have ta : a.top lo = lo + a.size - 1 := rfl
    refine ⟨fun j hj => ?_, ?_⟩
    · simp only [Tm.top, Tm.size] at hj
      rw [gt_set_ne (by omega), a1 j (by omega)]
    · have tt : lo + a.size = lo + (a.size + 1) - 1 := by omega
      refine ⟨?_, ?_⟩
      · rw [gt_set_eq (by omega)]; simp only [Tm.top, Tm.size, tt]
      · exact a2.congr fun j j1 j2 => by rw [gt_set_ne (by omega)]

/-- What is known of 'up'. -/
structure UpT (u : List Int) (t : Tm) : Prop where
  len : u.length = t.size
  root : gt u (t.top 0 : Int) = -1
  inner : UpOk u 0 t
theorem up_step {l : List MTerm} {t : Tm} (ht : IsT l t) {o : List Int} (ho : o.length = l.length) {i : Nat} (hi : i < l.length) (fuel : Nat) (y : List Int) :
    m_term_Up_l1 fuel l (o, (i : Int)) = some (.next (setUp l o i, ((i + 1 : Nat) : Int))) ∧ m_ref10_Up_l2 fuel l y (o, (i : Int)) = some (.next (setUp l o i, ((i + 1 : Nat) : Int))) := by
  have h400 := ht.le; have hlen := ht.len
  have h1 : (i : Int) < (l.length : Int) := by omega
  have hin : inb l (i : Int) = true := inb_true (by omega) (by omega)
  have hWi : W ((i : Int) + 1) = ((i + 1 : Nat) : Int) := W_succ (by omega)
  have hib : ∀ (o : List Int) (z : Nat), o.length = l.length → z < i → inb o (z : Int) = true := fun o z h h2 => inb_true (by omega) (by omega)
  obtain ⟨lo, s, hat, hs⟩ := ht.node hi
  have hg := hat.gt_top
  rw [hs] at hg
  unfold m_term_Up_l1 m_ref10_Up_l2 setUp
  cases s with
  | eps => simp [h1, hin, hWi, hg, Tm.node]
  | leaf s => simp [h1, hin, hWi, hg, Tm.node]
  | cat a b | alt a b =>
    have := a.size_pos; have := b.size_pos
    have pa : a.top lo < i := by rw [← hs]; simp only [Tm.top, Tm.size]; omega
    have pb : b.top (lo + a.size) < i := by rw [← hs]; simp only [Tm.top, Tm.size]; omega
    simp [h1, hin, hWi, hg, Tm.node, hib o _ ho pa, hib (o.set (a.top lo) (i : Int)) _ (by simpa using ho) pb]
  | star a | maybe a | group _ a | iter a =>
    have := a.size_pos
    have pa : a.top lo < i := by rw [← hs]; simp only [Tm.top, Tm.size]; omega
    simp [h1, hin, hWi, hg, Tm.node, hib o _ ho pa]
theorem m_Up {l : List MTerm} {t : Tm} (ht : IsT l t) (hR : RightB l = true) {fuel : Nat} (hf : 401 < fuel) : ∃ u, m_term_Up fuel l = some u ∧ UpT u t := by
  have h400 := ht.le; have hlen := ht.len; have hp := t.size_pos
  have hmk : mkOk 8 (l.length : Int) = true := by simp [mkOk]; omega
  have hW : W ((l.length : Int) - 1) = ((l.length - 1 : Nat) : Int) := by rw [W_id (by omega) (by omega)]; omega
  let o : List Int := (List.replicate l.length (0 : Int)).set (l.length - 1) (-1)
  have ho : o.length = l.length := by simp [o]
  have e := iter_up (step := m_term_Up_l1 fuel l) (fun i => (upR l 0 i o, (i : Int))) (upR l 0 l.length o) l.length
    (fun i hi => .inl (by have := (up_step ht (o := upR l 0 i o) (by rw [upR_len, ho]) hi fuel []).1; rw [this]; simp [upR])) (by unfold m_term_Up_l1; simp) l.length 0 fuel (by omega) (by omega)
  refine ⟨upR l 0 l.length o, ?_, ?_⟩
  · unfold m_term_Up
    rw [m_Right l hf, hR]
    have hin : inb (List.replicate l.length (0 : Int)) ((l.length - 1 : Nat) : Int) = true := inb_true (by omega) (by simp; omega)
    simp only [bind_some', Bool.not_true, Bool.false_eq_true, if_false, hmk, if_true, Int.toNat_natCast, hW, hin]
    simp only [upR] at e
    rw [show ((List.replicate l.length (0 : Int)).set (l.length - 1) (-1), (0 : Int)) = (o, ((0 : Nat) : Int)) from rfl, e]; rfl
  · obtain ⟨p1, p2⟩ := upR_tree ht.at0 o (by omega)
    rw [hlen]
    refine ⟨by rw [upR_len, ho, hlen], ?_, p2⟩
    rw [p1 _ (.inr (Nat.le_refl _)), show t.top 0 = l.length - 1 from by unfold Tm.top; omega]
    exact gt_set_eq (by simp; omega)
theorem r_Up {l : List MTerm} {t : Tm} (ht : IsT l t) (hR : RightB l = true) {fuel : Nat} (hf : 401 < fuel) : ∃ u, m_ref10_Up fuel l = some u ∧ UpT u t := by
  have h400 := ht.le; have hlen := ht.len; have hp := t.size_pos
  have hmk : mkOk 8 (l.length : Int) = true := by simp [mkOk]; omega
  let o : List Int := List.replicate l.length (-1)
  have ho : o.length = l.length := by simp [o]
  have e1 := iter_up (step := m_ref10_Up_l1 fuel l) (fun i => (List.replicate i (-1) ++ List.replicate (l.length - i) 0, (i : Int))) (List.replicate l.length (-1)) l.length
      (fun i hi => .inl (by
        have h1 : (i : Int) < (l.length : Int) := by omega
        have hii : inb (List.replicate i (-1 : Int) ++ List.replicate (l.length - i) 0) (i : Int) = true := inb_true (by omega) (by simp; omega)
        unfold m_ref10_Up_l1
        simp only [Int.toNat_natCast, h1, decide_true, if_true, hii, W_succ (show i < 9223372036854775807 by omega)]
        rw [replicate_cons hi 0, set_mid (by simp), List.replicate_succ']
        simp)) (by unfold m_ref10_Up_l1; simp) l.length 0 fuel (by omega) (by omega)
  have e := iter_up (step := m_ref10_Up_l2 fuel l o) (fun i => (upR l 0 i o, (i : Int))) (upR l 0 l.length o) l.length
    (fun i hi => .inl (by have := (up_step ht (o := upR l 0 i o) (by rw [upR_len, ho]) hi fuel o).2; rw [this]; simp [upR])) (by unfold m_ref10_Up_l2; simp) l.length 0 fuel (by omega) (by omega)
  refine ⟨upR l 0 l.length o, ?_, ?_⟩
  · unfold m_ref10_Up
    rw [r_Right l (fuel := fuel) (by omega) (by omega), hR]
    simp only [bind_some', Bool.not_true, Bool.false_eq_true, if_false, hmk, if_true, Int.toNat_natCast]
    simp only [List.replicate_zero, List.nil_append, Nat.sub_zero] at e1
    rw [show ((List.replicate l.length (0 : Int)), (0 : Int)) = (List.replicate l.length 0, ((0 : Nat) : Int)) from rfl, e1, bind_some']
    simp only [upR] at e
    rw [show ((List.replicate l.length (-1 : Int)), (0 : Int)) = (o, ((0 : Nat) : Int)) from rfl, e]; rfl
  · obtain ⟨p1, p2⟩ := upR_tree ht.at0 o (by omega)
    rw [hlen]
    refine ⟨by rw [upR_len, ho, hlen], ?_, p2⟩
    rw [p1 _ (.inr (Nat.le_refl _)), show t.top 0 = l.length - 1 from by unfold Tm.top; omega]
    have hl1 : l.length - 1 < l.length := by omega
    exact gt_get_nat (by simp only [o, List.getElem?_replicate, hl1, if_true])

/-! How deep. -/
def DeepOk (d : List Int) (lo : Nat) (k : Nat) : Tm → Prop
  | .eps => gt d (lo : Int) = k
  | .leaf _ => gt d (lo : Int) = k
  | .cat a b => gt d (Tm.top (.cat a b) lo : Int) = k ∧ DeepOk d lo (k + 1) a ∧ DeepOk d (lo + a.size) (k + 1) b
  | .alt a b => gt d (Tm.top (.alt a b) lo : Int) = k ∧ DeepOk d lo (k + 1) a ∧ DeepOk d (lo + a.size) (k + 1) b
  | .star a => gt d (Tm.top (.star a) lo : Int) = k ∧ DeepOk d lo (k + 1) a
  | .maybe a => gt d (Tm.top (.maybe a) lo : Int) = k ∧ DeepOk d lo (k + 1) a
  | .group n a => gt d (Tm.top (.group n a) lo : Int) = k ∧ DeepOk d lo (k + 1) a
  | .iter a => gt d (Tm.top (.iter a) lo : Int) = k ∧ DeepOk d lo (k + 1) a
theorem DeepOk.top {d : List Int} {lo k : Nat} {s : Tm} (h : DeepOk d lo k s) : gt d (s.top lo : Int) = k := by
  cases s <;> first | exact h | exact h.1
/-- Each node's depth is one more than that of what it is a part of. -/
theorem DeepOk.of {d u : List Int} : ∀ {s : Tm} {lo k : Nat}, UpOk u lo s → gt d (s.top lo : Int) = k → (∀ j p : Nat, lo ≤ j → j < s.top lo → gt u (j : Int) = p → gt d (j : Int) = gt d (p : Int) + 1) → DeepOk d lo k s := by
  intro s
  induction s with
  | eps => intro lo k _ h _; exact h
  | leaf s => intro lo k _ h _; exact h
  | cat a b iha ihb | alt a b iha ihb =>
    intro lo k hu h hs
    obtain ⟨h1, h2, h3, h4⟩ := hu
    have := a.size_pos; have := b.size_pos
    simp only [Tm.top, Tm.size] at hs
    have sa := hs _ _ (show lo ≤ a.top lo by unfold Tm.top; omega) (by unfold Tm.top; omega) h1
    have sb := hs _ _ (show lo ≤ b.top (lo + a.size) by unfold Tm.top; omega) (by unfold Tm.top; omega) h2
    refine ⟨h, iha h3 (by rw [sa, h]; rfl) fun j p j1 j2 j3 => hs j p j1 (by unfold Tm.top at j2; omega) j3, ihb h4 (by rw [sb, h]; rfl) fun j p j1 j2 j3 => hs j p (by omega) (by unfold Tm.top at j2; omega) j3⟩
  | star a iha | maybe a iha | group _ a iha | iter a iha =>
    intro lo k hu h hs
    obtain ⟨h1, h3⟩ := hu
    have := a.size_pos
    simp only [Tm.top, Tm.size] at hs
    have sa := hs _ _ (show lo ≤ a.top lo by unfold Tm.top; omega) (by unfold Tm.top; omega) h1
    exact ⟨h, iha h3 (by rw [sa, h]; rfl) fun j p j1 j2 j3 => hs j p j1 (by unfold Tm.top at j2; omega) j3⟩
/-- Each inner node is a part of one that stands behind it. -/
theorem UpOk.behind {u : List Int} : ∀ {s : Tm} {lo : Nat}, UpOk u lo s → ∀ j : Nat, lo ≤ j → j < s.top lo → ∃ p : Nat, gt u (j : Int) = p ∧ j < p ∧ p ≤ s.top lo := by
  intro s
  induction s with
  | eps => intro lo _ j h1 h2; simp [Tm.top, Tm.size] at h2; omega
  | leaf s => intro lo _ j h1 h2; simp [Tm.top, Tm.size] at h2; omega
  | cat a b iha ihb | alt a b iha ihb =>
    intro lo hu j j1 j2
    obtain ⟨h1, h2, h3, h4⟩ := hu
    have := a.size_pos; have := b.size_pos
    simp only [Tm.top, Tm.size] at j2 ⊢
    rcases Nat.lt_trichotomy j (a.top lo) with c | c | c
    · obtain ⟨p, p1, p2, p3⟩ := iha h3 j j1 c; exact ⟨p, p1, p2, by unfold Tm.top at p3; omega⟩
    · subst c; exact ⟨_, h1, by simp only [Tm.top, Tm.size]; omega, by simp only [Tm.top, Tm.size]; omega⟩
    · rcases Nat.lt_or_ge j (b.top (lo + a.size)) with c2 | c2
      · obtain ⟨p, p1, p2, p3⟩ := ihb h4 j (by unfold Tm.top at c; omega) c2; exact ⟨p, p1, p2, by unfold Tm.top at p3; omega⟩
      · obtain rfl : j = b.top (lo + a.size) := by unfold Tm.top at *; omega
        exact ⟨_, h2, by simp only [Tm.top, Tm.size]; omega, by simp only [Tm.top, Tm.size]; omega⟩
  | star a iha | maybe a iha | group _ a iha | iter a iha =>
    intro lo hu j j1 j2
    obtain ⟨h1, h3⟩ := hu
    have := a.size_pos
    simp only [Tm.top, Tm.size] at j2 ⊢
    rcases Nat.lt_or_ge j (a.top lo) with c | c
    · obtain ⟨p, p1, p2, p3⟩ := iha h3 j j1 c; exact ⟨p, p1, p2, by unfold Tm.top at p3; omega⟩
    · obtain rfl : j = a.top lo := by unfold Tm.top at *; omega
      exact ⟨_, h1, by simp only [Tm.top, Tm.size]; omega, by simp only [Tm.top, Tm.size]; omega⟩
def setDeep (u o : List Int) (i : Nat) : List Int := if 0 ≤ gt u (i : Int) then o.set i (gt o (gt u (i : Int)) + 1) else o.set i 1
structure DeepT (d : List Int) (t : Tm) : Prop where
  len : d.length = t.size
  deep : DeepOk d 0 1 t
theorem deep_loop {u : List Int} {t : Tm} (hu : UpT u t) {step : List Int × Int → Option (Ctl (List Int × Int) (List Int))} (hd : ∀ o : List Int, step (o, -1) = some (.done o))
    (hs : ∀ (o : List Int) (i : Nat), o.length = t.size → i < t.size → (∀ p : Nat, gt u (i : Int) = p → i < p ∧ p < t.size ∧ 1 ≤ gt o (p : Int) ∧ gt o (p : Int) ≤ t.size) → (gt u (i : Int) < 0 ∨ ∃ p : Nat, gt u (i : Int) = p) → step (o, (i : Int)) = some (.next (setDeep u o i, (i : Int) - 1))) :
    ∀ (k : Nat) (o : List Int), o.length = t.size → k ≤ t.size → (∀ j : Nat, k ≤ j → j < t.size → 1 ≤ gt o (j : Int) ∧ gt o (j : Int) ≤ (t.size - j : Nat)) → (k < t.size → gt o (t.top 0 : Int) = 1) →
      (∀ j p : Nat, k ≤ j → j < t.top 0 → gt u (j : Int) = p → gt o (j : Int) = gt o (p : Int) + 1) → ∀ m, k < m → ∃ d, iter step m (o, (k : Int) - 1) = some d ∧ DeepT d t
  | 0, o, h1, _, h3, h4, h5, m, hm => by
    obtain ⟨m, rfl⟩ : ∃ q, m = q + 1 := ⟨m - 1, by omega⟩
    have := t.size_pos
    refine ⟨o, by unfold iter; rw [show ((0 : Nat) : Int) - 1 = -1 from rfl, hd], h1, DeepOk.of hu.inner (h4 (by omega)) fun j p j1 j2 j3 => h5 j p j1 j2 j3⟩
  | k + 1, o, h1, h2, h3, h4, h5, m, hm => by
    obtain ⟨m, rfl⟩ : ∃ q, m = q + 1 := ⟨m - 1, by omega⟩
    have hpos := t.size_pos
    have htop : t.top 0 = t.size - 1 := by unfold Tm.top; omega
    have hcase : (k = t.size - 1 ∧ gt u (k : Int) = -1) ∨ ∃ p : Nat, gt u (k : Int) = p ∧ k < p ∧ p < t.size ∧ k < t.top 0 := by
      by_cases e : k = t.size - 1
      · exact .inl ⟨e, by rw [e, ← htop]; exact hu.root⟩
      · obtain ⟨p, p1, p2, p3⟩ := hu.inner.behind k (Nat.zero_le _) (by omega)
        exact .inr ⟨p, p1, p2, by omega, by omega⟩
    have hst := hs o k h1 (by omega) (fun p hp => by
      rcases hcase with ⟨_, e⟩ | ⟨q, q1, q2, q3, _⟩
      · omega
      · obtain rfl : p = q := by omega
        have := h3 p (by omega) q3
        exact ⟨q2, q3, this.1, by omega⟩) (by rcases hcase with ⟨_, e⟩ | ⟨q, q1, _⟩; exact .inl (by omega); exact .inr ⟨q, q1⟩)
    rw [show (((k + 1 : Nat) : Int) - 1) = (k : Int) from by omega]
    unfold iter
    rw [hst]
    have hk1 : (1 : Int) ≤ ((t.size - k : Nat) : Int) := by omega
    have hv : ∃ v : Int, setDeep u o k = o.set k v ∧ 1 ≤ v ∧ v ≤ (t.size - k : Nat) ∧ (k = t.top 0 → v = 1) ∧ ∀ p : Nat, gt u (k : Int) = p → v = gt o (p : Int) + 1 := by
      rcases hcase with ⟨e1, e⟩ | ⟨q, q1, q2, q3, q4⟩
      · exact ⟨1, by simp [setDeep, e], Int.le_refl _, hk1, fun _ => rfl, fun p hp => by rw [e] at hp; omega⟩
      · have := h3 q (by omega) q3
        exact ⟨gt o (q : Int) + 1, by simp [setDeep, q1], by omega, by omega, fun h => by omega, fun p hp => by rw [show p = q from by omega]⟩
    obtain ⟨v, v1, v2, v3, v4, v5⟩ := hv
    rw [v1]
    refine deep_loop hu hd hs k (o.set k v) (by simpa using h1) (by omega) (fun j j1 j2 => ?_) (fun _ => ?_) (fun j p j1 j2 j3 => ?_) m (by omega)
    · by_cases e : j = k
      · subst e; rw [gt_set_eq (by omega)]; exact ⟨v2, v3⟩
      · rw [gt_set_ne (by omega)]; exact h3 j (by omega) j2
    · by_cases e : k = t.top 0
      · rw [← e, gt_set_eq (by omega)]; exact v4 e
      · rw [gt_set_ne e]; clear hcase v5; exact h4 (by omega)
    · obtain ⟨p', p1, p2, p3⟩ := hu.inner.behind j (Nat.zero_le _) j2
      obtain rfl : p = p' := by omega
      by_cases e : j = k
      · subst e; rw [gt_set_eq (by omega), gt_set_ne (by omega)]; exact v5 p j3
      · rw [gt_set_ne (by omega), gt_set_ne (by omega)]; exact h5 j p (by omega) j2 j3
theorem m_Deep {l : List MTerm} {t : Tm} (ht : IsT l t) (hR : RightB l = true) {fuel : Nat} (hf : 401 < fuel) : ∃ d, m_term_Deep fuel l = some d ∧ DeepT d t := by
  obtain ⟨u, e, hu⟩ := m_Up ht hR hf
  have h400 := ht.le; have hp := t.size_pos; have hul := hu.len
  have hmk : mkOk 8 (u.length : Int) = true := by simp [mkOk]; omega
  have hW : W ((u.length : Int) - 1) = (t.size : Int) - 1 := by rw [W_id (by omega) (by omega)]; omega
  unfold m_term_Deep
  rw [e]
  simp only [bind_some', hmk, if_true, Int.toNat_natCast, hW]
  obtain ⟨d, h1, h2⟩ := deep_loop hu (step := m_term_Deep_l1 fuel u) (fun o => by unfold m_term_Deep_l1; simp) (fun o i h1 h2 h3 h4 => by
    have hin : inb o (i : Int) = true := inb_true (by omega) (by omega)
    have hiu : inb u (i : Int) = true := inb_true (by omega) (by omega)
    have h0 : (i : Int) ≥ 0 := by omega
    have hWi : W ((i : Int) - 1) = (i : Int) - 1 := W_id (by omega) (by omega)
    unfold m_term_Deep_l1 setDeep
    rcases h4 with h4 | ⟨p, h4⟩
    · have : ¬ gt u (i : Int) ≥ 0 := by omega
      simp [hin, hiu, this, hWi]
    · obtain ⟨q1, q2, q3, q4⟩ := h3 p h4
      have i1 : inb (o.set i 1) (p : Int) = true := inb_true (by omega) (by simp; omega)
      have i2 : inb (o.set i 1) (i : Int) = true := inb_true (by omega) (by simp; omega)
      have hW2 : W (1 + gt o (p : Int)) = gt o (p : Int) + 1 := by rw [W_id (by omega) (by omega)]; omega
      simp [hin, hiu, h4, i1, i2, hWi, gt_set_eq (show i < o.length by omega), gt_set_ne (show i ≠ p by omega), hW2]) t.size (List.replicate u.length 0) (by simp [hul]) (Nat.le_refl _) (fun j j1 j2 => by omega) (fun h => by omega) (fun j p j1 j2 => by unfold Tm.top at j2; omega) fuel (by omega)
  exact ⟨d, by rw [h1]; rfl, h2⟩
theorem r_Deep {l : List MTerm} {t : Tm} (ht : IsT l t) (hR : RightB l = true) {fuel : Nat} (hf : 401 < fuel) : ∃ d, m_ref10_Deep fuel l = some d ∧ DeepT d t := by
  obtain ⟨u, e, hu⟩ := r_Up ht hR hf
  have h400 := ht.le; have hp := t.size_pos; have hul := hu.len
  have hmk : mkOk 8 (u.length : Int) = true := by simp [mkOk]; omega
  have hW : W ((u.length : Int) - 1) = (t.size : Int) - 1 := by rw [W_id (by omega) (by omega)]; omega
  unfold m_ref10_Deep
  rw [e]
  simp only [bind_some', hmk, if_true, Int.toNat_natCast, hW]
  obtain ⟨d, h1, h2⟩ := deep_loop hu (step := m_ref10_Deep_l1 fuel u) (fun o => by unfold m_ref10_Deep_l1; simp) (fun o i h1 h2 h3 h4 => by
    have hin : inb o (i : Int) = true := inb_true (by omega) (by omega)
    have hiu : inb u (i : Int) = true := inb_true (by omega) (by omega)
    have h0 : (i : Int) ≥ 0 := by omega
    have hWi : W ((i : Int) - 1) = (i : Int) - 1 := W_id (by omega) (by omega)
    unfold m_ref10_Deep_l1 setDeep
    rcases h4 with h4 | ⟨p, h4⟩
    · have : ¬ gt u (i : Int) ≥ 0 := by omega
      simp [hin, hiu, this, hWi]
    · obtain ⟨q1, q2, q3, q4⟩ := h3 p h4
      have i1 : inb (o.set i 1) (p : Int) = true := inb_true (by omega) (by simp; omega)
      have i2 : inb (o.set i 1) (i : Int) = true := inb_true (by omega) (by simp; omega)
      have hW2 : W (gt o (p : Int) + 1) = gt o (p : Int) + 1 := W_id (by omega) (by omega)
      simp [hin, hiu, h4, i1, i2, hWi, gt_set_ne (show i ≠ p by omega), hW2]) t.size (List.replicate u.length 0) (by simp [hul]) (Nat.le_refl _) (fun j j1 j2 => by omega) (fun h => by omega) (fun j p j1 j2 => by unfold Tm.top at j2; omega) fuel (by omega)
  exact ⟨d, by rw [h1]; rfl, h2⟩
end Go.Proofs.Ytfhehbfifffipaa
