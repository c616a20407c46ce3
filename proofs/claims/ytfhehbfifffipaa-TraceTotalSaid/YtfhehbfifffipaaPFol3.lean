/- What a node is a part of, and how deep it lies; by the program and by the document. Its conditions: none. -/
import Derived.Test.YtfhehbfifffipaaPFol2
set_option autoImplicit false
namespace Go.Proofs.Ytfhehbfifffipaa
open Go.V Go.RowKit

/-- What stands in u for the inner nodes of a tree. -/
def UpOk (u : List Int) (lo : Nat) : Tm → Prop
  | .eps => True
  | .leaf _ => True
  | .cat a b => gt u (a.top lo : Int) = (Tm.top (.cat a b) lo : Int) ∧ gt u (b.top (lo + a.size) : Int) = (Tm.top (.cat a b) lo : Int) ∧ UpOk u lo a ∧ UpOk u (lo + a.size) b
  | .alt a b => gt u (a.top lo : Int) = (Tm.top (.alt a b) lo : Int) ∧ gt u (b.top (lo + a.size) : Int) = (Tm.top (.alt a b) lo : Int) ∧ UpOk u lo a ∧ UpOk u (lo + a.size) b
  | .star a => gt u (a.top lo : Int) = (Tm.top (.star a) lo : Int) ∧ UpOk u lo a
  | .maybe a => gt u (a.top lo : Int) = (Tm.top (.maybe a) lo : Int) ∧ UpOk u lo a
  | .group n a => gt u (a.top lo : Int) = (Tm.top (.group n a) lo : Int) ∧ UpOk u lo a
  | .iter a => gt u (a.top lo : Int) = (Tm.top (.iter a) lo : Int) ∧ UpOk u lo a
theorem UpOk.congr {u v : List Int} : ∀ {s : Tm} {lo : Nat}, (∀ j : Nat, lo ≤ j → j < s.top lo → gt v (j : Int) = gt u (j : Int)) → UpOk u lo s → UpOk v lo s := by
  intro s
  induction s with
  | eps => intros; trivial
  | leaf s => intros; trivial
  | cat a b iha ihb =>
    intro lo h hu
    have := a.size_pos; have := b.size_pos
    simp only [Tm.top, Tm.size] at h
    obtain ⟨h1, h2, h3, h4⟩ := hu
    exact ⟨by rw [h _ (by unfold Tm.top; omega) (by unfold Tm.top; omega)]; exact h1, by rw [h _ (by unfold Tm.top; omega) (by unfold Tm.top; omega)]; exact h2,
      iha (fun j j1 j2 => h j j1 (by unfold Tm.top at j2; omega)) h3, ihb (fun j j1 j2 => h j (by omega) (by unfold Tm.top at j2; omega)) h4⟩
  | alt a b iha ihb =>
    intro lo h hu
    have := a.size_pos; have := b.size_pos
    simp only [Tm.top, Tm.size] at h
    obtain ⟨h1, h2, h3, h4⟩ := hu
    exact ⟨by rw [h _ (by unfold Tm.top; omega) (by unfold Tm.top; omega)]; exact h1, by rw [h _ (by unfold Tm.top; omega) (by unfold Tm.top; omega)]; exact h2,
      iha (fun j j1 j2 => h j j1 (by unfold Tm.top at j2; omega)) h3, ihb (fun j j1 j2 => h j (by omega) (by unfold Tm.top at j2; omega)) h4⟩
  | star a iha | maybe a iha | group _ a iha | iter a iha =>
    intro lo h hu
    have := a.size_pos
    simp only [Tm.top, Tm.size] at h
    obtain ⟨h1, h3⟩ := hu
    exact ⟨by rw [h _ (by unfold Tm.top; omega) (by unfold Tm.top; omega)]; exact h1, iha (fun j j1 j2 => h j j1 (by unfold Tm.top at j2; omega)) h3⟩

def setUp (l : List MTerm) (o : List Int) (i : Nat) : List Int :=
  let x := gt l (i : Int)
  let o1 := if 0 ≤ x.A then o.set x.A.toNat i else o
  if 0 ≤ x.B then o1.set x.B.toNat i else o1
def upR (l : List MTerm) (lo : Nat) : Nat → List Int → List Int
  | 0, o => o
  | k + 1, o => setUp l (upR l lo k o) (lo + k)
theorem setUp_len (l : List MTerm) (o : List Int) (i : Nat) : (setUp l o i).length = o.length := by
  unfold setUp; simp only; repeat' split
  all_goals simp
theorem upR_len (l : List MTerm) (lo : Nat) (o : List Int) : ∀ k, (upR l lo k o).length = o.length
  | 0 => rfl
  | k + 1 => by simp [upR, setUp_len, upR_len l lo o k]
theorem upR_add (l : List MTerm) (lo a : Nat) (o : List Int) : ∀ b, upR l lo (a + b) o = upR l (lo + a) b (upR l lo a o)
  | 0 => rfl
  | b + 1 => by rw [← Nat.add_assoc]; simp only [upR, upR_add l lo a o b, Nat.add_assoc]
theorem gt_set_ne {α : Type} [Inhabited α] {o : List α} {i j : Nat} {x : α} (h : i ≠ j) : gt (o.set i x) (j : Int) = gt o (j : Int) := by
  unfold gt
  rw [List.getD_eq_getElem?_getD, List.getD_eq_getElem?_getD, Int.toNat_natCast, List.getElem?_set_ne h]
theorem gt_set_eq {α : Type} [Inhabited α] {o : List α} {i : Nat} {x : α} (h : i < o.length) : gt (o.set i x) (i : Int) = x := gt_get_nat (by simp [h])
theorem upR_tree {l : List MTerm} : ∀ {s : Tm} {lo : Nat}, At l lo s → ∀ o : List Int, lo + s.size ≤ o.length →
    (∀ j : Nat, (j < lo ∨ s.top lo ≤ j) → gt (upR l lo s.size o) (j : Int) = gt o (j : Int)) ∧ UpOk (upR l lo s.size o) lo s := by
  intro s
  induction s with
  | eps =>
    intro lo h o ho
    refine ⟨fun j hj => ?_, trivial⟩
    have hg := h.gt_top
    simp only [Tm.top, Tm.size, Nat.add_sub_cancel] at hg
    simp [upR, Tm.size, setUp, hg, Tm.node]
  | leaf s =>
    intro lo h o ho
    refine ⟨fun j hj => ?_, trivial⟩
    have hg := h.gt_top
    simp only [Tm.top, Tm.size, Nat.add_sub_cancel] at hg
    simp [upR, Tm.size, setUp, hg, Tm.node]
  | cat a b iha ihb | alt a b iha ihb =>
    intro lo h o ho
    have hg := h.gt_top
    obtain ⟨ha, hb, _⟩ := (At.bin rfl rfl).1 h
    have := a.size_pos; have := b.size_pos
    simp only [Tm.size] at ho
    obtain ⟨a1, a2⟩ := iha ha o (by omega)
    obtain ⟨b1, b2⟩ := ihb hb (upR l lo a.size o) (by rw [upR_len]; omega)
    have e : upR l lo (a.size + b.size + 1) o = setUp l (upR l (lo + a.size) b.size (upR l lo a.size o)) (lo + (a.size + b.size)) := by simp only [upR, upR_add]
    simp only [Tm.size, e]
    generalize hv : upR l (lo + a.size) b.size (upR l lo a.size o) = v at *
    have hvl : v.length = o.length := by rw [← hv, upR_len, upR_len]
    have hi : lo + (a.size + b.size) = lo + (a.size + b.size + 1) - 1 := by omega
    have hs : setUp l v (lo + (a.size + b.size)) = (v.set (a.top lo) ((lo + (a.size + b.size) : Nat) : Int)).set (b.top (lo + a.size)) ((lo + (a.size + b.size) : Nat) : Int) := by
      simp only [Tm.top, Tm.size] at hg
      rw [← hi] at hg
      generalize lo + (a.size + b.size) = i at hg ⊢
      unfold setUp
      simp only [hg, Tm.node]
      simp
    rw [hs]
    have ta : a.top lo = lo + a.size - 1 := rfl
    have tb : b.top (lo + a.size) = lo + a.size + b.size - 1 := rfl
    refine ⟨fun j hj => ?_, ?_⟩
    · simp only [Tm.top, Tm.size] at hj
      rw [gt_set_ne (by omega), gt_set_ne (by omega), b1 j (by omega), a1 j (by omega)]
    · have tt : lo + (a.size + b.size) = lo + (a.size + b.size + 1) - 1 := by omega
      refine ⟨?_, ?_, ?_, ?_⟩
      · rw [gt_set_ne (by omega), gt_set_eq (by omega)]; simp only [Tm.top, Tm.size, tt]
      · rw [gt_set_eq (by simp; omega)]; simp only [Tm.top, Tm.size, tt]
      · exact a2.congr fun j j1 j2 => by rw [gt_set_ne (by omega), gt_set_ne (by omega), b1 j (by omega)]
      · exact b2.congr fun j j1 j2 => by rw [gt_set_ne (by omega), gt_set_ne (by omega)]
  | star a iha | maybe a iha | group _ a iha | iter a iha =>
    intro lo h o ho
    have hg := h.gt_top
    obtain ⟨ha, _⟩ := (At.un rfl rfl).1 h
    have := a.size_pos
    simp only [Tm.size] at ho
    obtain ⟨a1, a2⟩ := iha ha o (by omega)
    simp only [Tm.size, upR]
    generalize hv : upR l lo a.size o = v at *
    have hvl : v.length = o.length := by rw [← hv, upR_len]
    have hs : setUp l v (lo + a.size) = v.set (a.top lo) ((lo + a.size : Nat) : Int) := by
      simp only [Tm.top, Tm.size] at hg
      rw [show lo + (a.size + 1) - 1 = lo + a.size from by omega] at hg
      generalize lo + a.size = i at hg ⊢
      unfold setUp
      simp only [hg, Tm.node]
      simp
    rw [hs]
    have ta : a.top lo = lo + a.size - 1 := rfl
    refine ⟨fun j hj => ?_, ?_⟩
    · simp only [Tm.top, Tm.size] at hj
      rw [gt_set_ne (by omega), a1 j (by omega)]
    · have tt : lo + a.size = lo + (a.size + 1) - 1 := by omega
      refine ⟨?_, ?_⟩
      · rw [gt_set_eq (by omega)]; simp only [Tm.top, Tm.size, tt]
      · exact a2.congr fun j j1 j2 => by rw [gt_set_ne (by omega)]

/-- What is known of 'up'. -/
structure UpT (u : List Int) (t : Tm) : Prop where
  len : u.length = t.size
  root : gt u (t.top 0 : Int) = -1
  inner : UpOk u 0 t
theorem up_step {l : List MTerm} {t : Tm} (ht : IsT l t) {o : List Int} (ho : o.length = l.length) {i : Nat} (hi : i < l.length) (fuel : Nat) (y : List Int) :
    m_term_Up_l1 fuel l (o, (i : Int)) = some (.next (setUp l o i, ((i + 1 : Nat) : Int))) ∧ m_ref10_Up_l2 fuel l y (o, (i : Int)) = some (.next (setUp l o i, ((i + 1 : Nat) : Int))) := by
  have h400 := ht.le; have hlen := ht.len
  have h1 : (i : Int) < (l.length : Int) := by omega
  have hin : inb l (i : Int) = true := inb_true (by omega) (by omega)
  have hWi : W ((i : Int) + 1) = ((i + 1 : Nat) : Int) := W_succ (by omega)
  have hib : ∀ (o : List Int) (z : Nat), o.length = l.length → z < i → inb o (z : Int) = true := fun o z h h2 => inb_true (by omega) (by omega)
  obtain ⟨lo, s, hat, hs⟩ := ht.node hi
  have hg := hat.gt_top
  rw [hs] at hg
  unfold m_term_Up_l1 m_ref10_Up_l2 setUp
  cases s with
  | eps => simp [h1, hin, hWi, hg, Tm.node]
  | leaf s => simp [h1, hin, hWi, hg, Tm.node]
  | cat a b | alt a b =>
    have := a.size_pos; have := b.size_pos
    have pa : a.top lo < i := by rw [← hs]; simp only [Tm.top, Tm.size]; omega
    have pb : b.top (lo + a.size) < i := by rw [← hs]; simp only [Tm.top, Tm.size]; omega
    simp [h1, hin, hWi, hg, Tm.node, hib o _ ho pa, hib (o.set (a.top lo) (i : Int)) _ (by simpa using ho) pb]
  | star a | maybe a | group _ a | iter a =>
    have := a.size_pos
    have pa : a.top lo < i := by rw [← hs]; simp only [Tm.top, Tm.size]; omega
    simp [h1, hin, hWi, hg, Tm.node, hib o _ ho pa]
theorem m_Up {l : List MTerm} {t : Tm} (ht : IsT l t) (hR : RightB l = true) {fuel : Nat} (hf : 401 < fuel) : ∃ u, m_term_Up fuel l = some u ∧ UpT u t := by
  have h400 := ht.le; have hlen := ht.len; have hp := t.size_pos
  have hmk : mkOk 8 (l.length : Int) = true := by simp [mkOk]; omega
  have hW : W ((l.length : Int) - 1) = ((l.length - 1 : Nat) : Int) := by rw [W_id (by omega) (by omega)]; omega
  let o : List Int := (List.replicate l.length (0 : Int)).set (l.length - 1) (-1)
  have ho : o.length = l.length := by simp [o]
  have e := iter_up (step := m_term_Up_l1 fuel l) (fun i => (upR l 0 i o, (i : Int))) (upR l 0 l.length o) l.length
    (fun i hi => .inl (by have := (up_step ht (o := upR l 0 i o) (by rw [upR_len, ho]) hi fuel []).1; rw [this]; simp [upR])) (by unfold m_term_Up_l1; simp) l.length 0 fuel (by omega) (by omega)
  refine ⟨upR l 0 l.length o, ?_, ?_⟩
  · unfold m_term_Up
    rw [m_Right l hf, hR]
    have hin : inb (List.replicate l.length (0 : Int)) ((l.length - 1 : Nat) : Int) = true := inb_true (by omega) (by simp; omega)
    simp only [bind_some', Bool.not_true, Bool.false_eq_true, if_false, hmk, if_true, Int.toNat_natCast, hW, hin]
    simp only [upR] at e
    rw [show ((List.replicate l.length (0 : Int)).set (l.length - 1) (-1), (0 : Int)) = (o, ((0 : Nat) : Int)) from rfl, e]; rfl
  · obtain ⟨p1, p2⟩ := upR_tree ht.at0 o (by omega)
    rw [hlen]
    refine ⟨by rw [upR_len, ho, hlen], ?_, p2⟩
    rw [p1 _ (.inr (Nat.le_refl _)), show t.top 0 = l.length - 1 from by unfold Tm.top; omega]
    exact gt_set_eq (by simp; omega)
theorem r_Up {l : List MTerm} {t : Tm} (ht : IsT l t) (hR : RightB l = true) {fuel : Nat} (hf : 401 < fuel) : ∃ u, m_ref10_Up fuel l = some u ∧ UpT u t := by
  have h400 := ht.le; have hlen := ht.len; have hp := t.size_pos
  have hmk : mkOk 8 (l.length : Int) = true := by simp [mkOk]; omega
  let o : List Int := List.replicate l.length (-1)
  have ho : o.length = l.length := by simp [o]
  have e1 := iter_up (step := m_ref10_Up_l1 fuel l) (fun i => (List.replicate i (-1) ++ List.replicate (l.length - i) 0, (i : Int))) (List.replicate l.length (-1)) l.length
      (fun i hi => .inl (by
        have h1 : (i : Int) < (l.length : Int) := by omega
        have hii : inb (List.replicate i (-1 : Int) ++ List.replicate (l.length - i) 0) (i : Int) = true := inb_true (by omega) (by simp; omega)
        unfold m_ref10_Up_l1
        simp only [Int.toNat_natCast, h1, decide_true, if_true, hii, W_succ (show i < 9223372036854775807 by omega)]
        rw [replicate_cons hi 0, set_mid (by simp), List.replicate_succ']
        simp)) (by unfold m_ref10_Up_l1; simp) l.length 0 fuel (by omega) (by omega)
  have e := iter_up (step := m_ref10_Up_l2 fuel l o) (fun i => (upR l 0 i o, (i : Int))) (upR l 0 l.length o) l.length
    (fun i hi => .inl (by have := (up_step ht (o := upR l 0 i o) (by rw [upR_len, ho]) hi fuel o).2; rw [this]; simp [upR])) (by unfold m_ref10_Up_l2; simp) l.length 0 fuel (by omega) (by omega)
  refine ⟨upR l 0 l.length o, ?_, ?_⟩
  · unfold m_ref10_Up
    rw [r_Right l (fuel := fuel) (by omega) (by omega), hR]
    simp only [bind_some', Bool.not_true, Bool.false_eq_true, if_false, hmk, if_true, Int.toNat_natCast]
    simp only [List.replicate_zero, List.nil_append, Nat.sub_zero] at e1
    rw [show ((List.replicate l.length (0 : Int)), (0 : Int)) = (List.replicate l.length 0, ((0 : Nat) : Int)) from rfl, e1, bind_some']
    simp only [upR] at e
    rw [show ((List.replicate l.length (-1 : Int)), (0 : Int)) = (o, ((0 : Nat) : Int)) from rfl, e]; rfl
  · obtain ⟨p1, p2⟩ := upR_tree ht.at0 o (by omega)
    rw [hlen]
    refine ⟨by rw [upR_len, ho, hlen], ?_, p2⟩
    rw [p1 _ (.inr (Nat.le_refl _)), show t.top 0 = l.length - 1 from by unfold Tm.top; omega]
    have hl1 : l.length - 1 < l.length := by omega
    exact gt_get_nat (by simp only [o, List.getElem?_replicate, hl1, if_true])

/-! How deep. -/
def DeepOk (d : List Int) (lo : Nat) (k : Nat) : Tm → Prop
  | .eps => gt d (lo : Int) = k
  | .leaf _ => gt d (lo : Int) = k
  | .cat a b => gt d (Tm.top (.cat a b) lo : Int) = k ∧ DeepOk d lo (k + 1) a ∧ DeepOk d (lo + a.size) (k + 1) b
  | .alt a b => gt d (Tm.top (.alt a b) lo : Int) = k ∧ DeepOk d lo (k + 1) a ∧ DeepOk d (lo + a.size) (k + 1) b
  | .star a => gt d (Tm.top (.star a) lo : Int) = k ∧ DeepOk d lo (k + 1) a
  | .maybe a => gt d (Tm.top (.maybe a) lo : Int) = k ∧ DeepOk d lo (k + 1) a
  | .group n a => gt d (Tm.top (.group n a) lo : Int) = k ∧ DeepOk d lo (k + 1) a
  | .iter a => gt d (Tm.top (.iter a) lo : Int) = k ∧ DeepOk d lo (k + 1) a
theorem DeepOk.top {d : List Int} {lo k : Nat} {s : Tm} (h : DeepOk d lo k s) : gt d (s.top lo : Int) = k := by
  cases s <;> first | exact h | exact h.1
/-- Each node's depth is one more than that of what it is a part of. -/
theorem DeepOk.of {d u : List Int} : ∀ {s : Tm} {lo k : Nat}, UpOk u lo s → gt d (s.top lo : Int) = k → (∀ j p : Nat, lo ≤ j → j < s.top lo → gt u (j : Int) = p → gt d (j : Int) = gt d (p : Int) + 1) → DeepOk d lo k s := by
  intro s
  induction s with
  | eps => intro lo k _ h _; exact h
  | leaf s => intro lo k _ h _; exact h
  | cat a b iha ihb | alt a b iha ihb =>
    intro lo k hu h hs
    obtain ⟨h1, h2, h3, h4⟩ := hu
    have := a.size_pos; have := b.size_pos
    simp only [Tm.top, Tm.size] at hs
    have sa := hs _ _ (show lo ≤ a.top lo by unfold Tm.top; omega) (by unfold Tm.top; omega) h1
    have sb := hs _ _ (show lo ≤ b.top (lo + a.size) by unfold Tm.top; omega) (by unfold Tm.top; omega) h2
    refine ⟨h, iha h3 (by rw [sa, h]; rfl) fun j p j1 j2 j3 => hs j p j1 (by unfold Tm.top at j2; omega) j3, ihb h4 (by rw [sb, h]; rfl) fun j p j1 j2 j3 => hs j p (by omega) (by unfold Tm.top at j2; omega) j3⟩
  | star a iha | maybe a iha | group _ a iha | iter a iha =>
    intro lo k hu h hs
    obtain ⟨h1, h3⟩ := hu
    have := a.size_pos
    simp only [Tm.top, Tm.size] at hs
    have sa := hs _ _ (show lo ≤ a.top lo by unfold Tm.top; omega) (by unfold Tm.top; omega) h1
    exact ⟨h, iha h3 (by rw [sa, h]; rfl) fun j p j1 j2 j3 => hs j p j1 (by unfold Tm.top at j2; omega) j3⟩
/-- Each inner node is a part of one that stands behind it. -/
theorem UpOk.behind {u : List Int} : ∀ {s : Tm} {lo : Nat}, UpOk u lo s → ∀ j : Nat, lo ≤ j → j < s.top lo → ∃ p : Nat, gt u (j : Int) = p ∧ j < p ∧ p ≤ s.top lo := by
  intro s
  induction s with
  | eps => intro lo _ j h1 h2; simp [Tm.top, Tm.size] at h2; omega
  | leaf s => intro lo _ j h1 h2; simp [Tm.top, Tm.size] at h2; omega
  | cat a b iha ihb | alt a b iha ihb =>
    intro lo hu j j1 j2
    obtain ⟨h1, h2, h3, h4⟩ := hu
    have := a.size_pos; have := b.size_pos
    simp only [Tm.top, Tm.size] at j2 ⊢
    rcases Nat.lt_trichotomy j (a.top lo) with c | c | c
    · obtain ⟨p, p1, p2, p3⟩ := iha h3 j j1 c; exact ⟨p, p1, p2, by unfold Tm.top at p3; omega⟩
    · subst c; exact ⟨_, h1, by simp only [Tm.top, Tm.size]; omega, by simp only [Tm.top, Tm.size]; omega⟩
    · rcases Nat.lt_or_ge j (b.top (lo + a.size)) with c2 | c2
      · obtain ⟨p, p1, p2, p3⟩ := ihb h4 j (by unfold Tm.top at c; omega) c2; exact ⟨p, p1, p2, by unfold Tm.top at p3; omega⟩
      · obtain rfl : j = b.top (lo + a.size) := by unfold Tm.top at *; omega
        exact ⟨_, h2, by simp only [Tm.top, Tm.size]; omega, by simp only [Tm.top, Tm.size]; omega⟩
  | star a iha | maybe a iha | group _ a iha | iter a iha =>
    intro lo hu j j1 j2
    obtain ⟨h1, h3⟩ := hu
    have := a.size_pos
    simp only [Tm.top, Tm.size] at j2 ⊢
    rcases Nat.lt_or_ge j (a.top lo) with c | c
    · obtain ⟨p, p1, p2, p3⟩ := iha h3 j j1 c; exact ⟨p, p1, p2, by unfold Tm.top at p3; omega⟩
    · obtain rfl : j = a.top lo := by unfold Tm.top at *; omega
      exact ⟨_, h1, by simp only [Tm.top, Tm.size]; omega, by simp only [Tm.top, Tm.size]; omega⟩
def setDeep (u o : List Int) (i : Nat) : List Int := if 0 ≤ gt u (i : Int) then o.set i (gt o (gt u (i : Int)) + 1) else o.set i 1
structure DeepT (d : List Int) (t : Tm) : Prop where
  len : d.length = t.size
  deep : DeepOk d 0 1 t
theorem deep_loop {u : List Int} {t : Tm} (hu : UpT u t) {step : List Int × Int → Option (Ctl (List Int × Int) (List Int))} (hd : ∀ o : List Int, step (o, -1) = some (.done o))
    (hs : ∀ (o : List Int) (i : Nat), o.length = t.size → i < t.size → (∀ p : Nat, gt u (i : Int) = p → i < p ∧ p < t.size ∧ 1 ≤ gt o (p : Int) ∧ gt o (p : Int) ≤ t.size) → (gt u (i : Int) < 0 ∨ ∃ p : Nat, gt u (i : Int) = p) → step (o, (i : Int)) = some (.next (setDeep u o i, (i : Int) - 1))) :
    ∀ (k : Nat) (o : List Int), o.length = t.size → k ≤ t.size → (∀ j : Nat, k ≤ j → j < t.size → 1 ≤ gt o (j : Int) ∧ gt o (j : Int) ≤ (t.size - j : Nat)) → (k < t.size → gt o (t.top 0 : Int) = 1) →
      (∀ j p : Nat, k ≤ j → j < t.top 0 → gt u (j : Int) = p → gt o (j : Int) = gt o (p : Int) + 1) → ∀ m, k < m → ∃ d, iter step m (o, (k : Int) - 1) = some d ∧ DeepT d t
  | 0, o, h1, _, h3, h4, h5, m, hm => by
    obtain ⟨m, rfl⟩ : ∃ q, m = q + 1 := ⟨m - 1, by omega⟩
    have := t.size_pos
    refine ⟨o, by unfold iter; rw [show ((0 : Nat) : Int) - 1 = -1 from rfl, hd], h1, DeepOk.of hu.inner (h4 (by omega)) fun j p j1 j2 j3 => h5 j p j1 j2 j3⟩
  | k + 1, o, h1, h2, h3, h4, h5, m, hm => by
    obtain ⟨m, rfl⟩ : ∃ q, m = q + 1 := ⟨m - 1, by omega⟩
    have hpos := t.size_pos
    have htop : t.top 0 = t.size - 1 := by unfold Tm.top; omega
    have hcase : (k = t.size - 1 ∧ gt u (k : Int) = -1) ∨ ∃ p : Nat, gt u (k : Int) = p ∧ k < p ∧ p < t.size ∧ k < t.top 0 := by
      by_cases e : k = t.size - 1
      · exact .inl ⟨e, by rw [e, ← htop]; exact hu.root⟩
      · obtain ⟨p, p1, p2, p3⟩ := hu.inner.behind k (Nat.zero_le _) (by omega)
        exact .inr ⟨p, p1, p2, by omega, by omega⟩
    have hst := hs o k h1 (by omega) (fun p hp => by
      rcases hcase with ⟨_, e⟩ | ⟨q, q1, q2, q3, _⟩
      · omega
      · obtain rfl : p = q := by omega
        have := h3 p (by omega) q3
        exact ⟨q2, q3, this.1, by omega⟩) (by rcases hcase with ⟨_, e⟩ | ⟨q, q1, _⟩; exact .inl (by omega); exact .inr ⟨q, q1⟩)
    rw [show (((k + 1 : Nat) : Int) - 1) = (k : Int) from by omega]
    unfold iter
    rw [hst]
    have hk1 : (1 : Int) ≤ ((t.size - k : Nat) : Int) := by omega
    have hv : ∃ v : Int, setDeep u o k = o.set k v ∧ 1 ≤ v ∧ v ≤ (t.size - k : Nat) ∧ (k = t.top 0 → v = 1) ∧ ∀ p : Nat, gt u (k : Int) = p → v = gt o (p : Int) + 1 := by
      rcases hcase with ⟨e1, e⟩ | ⟨q, q1, q2, q3, q4⟩
      · exact ⟨1, by simp [setDeep, e], Int.le_refl _, hk1, fun _ => rfl, fun p hp => by rw [e] at hp; omega⟩
      · have := h3 q (by omega) q3
        exact ⟨gt o (q : Int) + 1, by simp [setDeep, q1], by omega, by omega, fun h => by omega, fun p hp => by rw [show p = q from by omega]⟩
    obtain ⟨v, v1, v2, v3, v4, v5⟩ := hv
    rw [v1]
    refine deep_loop hu hd hs k (o.set k v) (by simpa using h1) (by omega) (fun j j1 j2 => ?_) (fun _ => ?_) (fun j p j1 j2 j3 => ?_) m (by omega)
    · by_cases e : j = k
      · subst e; rw [gt_set_eq (by omega)]; exact ⟨v2, v3⟩
      · rw [gt_set_ne (by omega)]; exact h3 j (by omega) j2
    · by_cases e : k = t.top 0
      · rw [← e, gt_set_eq (by omega)]; exact v4 e
      · rw [gt_set_ne e]; clear hcase v5; exact h4 (by omega)
    · obtain ⟨p', p1, p2, p3⟩ := hu.inner.behind j (Nat.zero_le _) j2
      obtain rfl : p = p' := by omega
      by_cases e : j = k
      · subst e; rw [gt_set_eq (by omega), gt_set_ne (by omega)]; exact v5 p j3
      · rw [gt_set_ne (by omega), gt_set_ne (by omega)]; exact h5 j p (by omega) j2 j3
theorem m_Deep {l : List MTerm} {t : Tm} (ht : IsT l t) (hR : RightB l = true) {fuel : Nat} (hf : 401 < fuel) : ∃ d, m_term_Deep fuel l = some d ∧ DeepT d t := by
  obtain ⟨u, e, hu⟩ := m_Up ht hR hf
  have h400 := ht.le; have hp := t.size_pos; have hul := hu.len
  have hmk : mkOk 8 (u.length : Int) = true := by simp [mkOk]; omega
  have hW : W ((u.length : Int) - 1) = (t.size : Int) - 1 := by rw [W_id (by omega) (by omega)]; omega
  unfold m_term_Deep
  rw [e]
  simp only [bind_some', hmk, if_true, Int.toNat_natCast, hW]
  obtain ⟨d, h1, h2⟩ := deep_loop hu (step := m_term_Deep_l1 fuel u) (fun o => by unfold m_term_Deep_l1; simp) (fun o i h1 h2 h3 h4 => by
    have hin : inb o (i : Int) = true := inb_true (by omega) (by omega)
    have hiu : inb u (i : Int) = true := inb_true (by omega) (by omega)
    have h0 : (i : Int) ≥ 0 := by omega
    have hWi : W ((i : Int) - 1) = (i : Int) - 1 := W_id (by omega) (by omega)
    unfold m_term_Deep_l1 setDeep
    rcases h4 with h4 | ⟨p, h4⟩
    · have : ¬ gt u (i : Int) ≥ 0 := by omega
      simp [hin, hiu, this, hWi]
    · obtain ⟨q1, q2, q3, q4⟩ := h3 p h4
      have i1 : inb (o.set i 1) (p : Int) = true := inb_true (by omega) (by simp; omega)
      have i2 : inb (o.set i 1) (i : Int) = true := inb_true (by omega) (by simp; omega)
      have hW2 : W (1 + gt o (p : Int)) = gt o (p : Int) + 1 := by rw [W_id (by omega) (by omega)]; omega
      simp [hin, hiu, h4, i1, i2, hWi, gt_set_eq (show i < o.length by omega), gt_set_ne (show i ≠ p by omega), hW2]) t.size (List.replicate u.length 0) (by simp [hul]) (Nat.le_refl _) (fun j j1 j2 => by omega) (fun h => by omega) (fun j p j1 j2 => by unfold Tm.top at j2; omega) fuel (by omega)
  exact ⟨d, by rw [h1]; rfl, h2⟩
theorem r_Deep {l : List MTerm} {t : Tm} (ht : IsT l t) (hR : RightB l = true) {fuel : Nat} (hf : 401 < fuel) : ∃ d, m_ref10_Deep fuel l = some d ∧ DeepT d t := by
  obtain ⟨u, e, hu⟩ := r_Up ht hR hf
  have h400 := ht.le; have hp := t.size_pos; have hul := hu.len
  have hmk : mkOk 8 (u.length : Int) = true := by simp [mkOk]; omega
  have hW : W ((u.length : Int) - 1) = (t.size : Int) - 1 := by rw [W_id (by omega) (by omega)]; omega
  unfold m_ref10_Deep
  rw [e]
  simp only [bind_some', hmk, if_true, Int.toNat_natCast, hW]
  obtain ⟨d, h1, h2⟩ := deep_loop hu (step := m_ref10_Deep_l1 fuel u) (fun o => by unfold m_ref10_Deep_l1; simp) (fun o i h1 h2 h3 h4 => by
    have hin : inb o (i : Int) = true := inb_true (by omega) (by omega)
    have hiu : inb u (i : Int) = true := inb_true (by omega) (by omega)
    have h0 : (i : Int) ≥ 0 := by omega
    have hWi : W ((i : Int) - 1) = (i : Int) - 1 := W_id (by omega) (by omega)
    unfold m_ref10_Deep_l1 setDeep
    rcases h4 with h4 | ⟨p, h4⟩
    · have : ¬ gt u (i : Int) ≥ 0 := by omega
      simp [hin, hiu, this, hWi]
    · obtain ⟨q1, q2, q3, q4⟩ := h3 p h4
      have i1 : inb (o.set i 1) (p : Int) = true := inb_true (by omega) (by simp; omega)
      have i2 : inb (o.set i 1) (i : Int) = true := inb_true (by omega) (by simp; omega)
      have hW2 : W (gt o (p : Int) + 1) = gt o (p : Int) + 1 := W_id (by omega) (by omega)
      simp [hin, hiu, h4, i1, i2, hWi, gt_set_ne (show i ≠ p by omega), hW2]) t.size (List.replicate u.length 0) (by simp [hul]) (Nat.le_refl _) (fun j j1 j2 => by omega) (fun h => by omega) (fun j p j1 j2 => by unfold Tm.top at j2; omega) fuel (by omega)
  exact ⟨d, by rw [h1]; rfl, h2⟩
end Go.Proofs.Ytfhehbfifffipaa
