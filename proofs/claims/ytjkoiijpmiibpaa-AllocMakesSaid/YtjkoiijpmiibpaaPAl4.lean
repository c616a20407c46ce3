/- Homes by an edge. Its conditions: none. -/
import Derived.Test.YtjkoiijpmiibpaaPRep
set_option autoImplicit false
namespace Go.Proofs.Ytjkoiijpmiibpaa
open Go.V Go.RowKit

theorem nodup_len' {l m : List Int} (hn : l.Nodup) (hs : ∀ x ∈ l, x ∈ m) : l.length ≤ m.length := by
  induction l generalizing m with
  | nil => simp
  | cons a l ih =>
    have h1 := List.nodup_cons.1 hn
    have ha : a ∈ m := hs a (by simp)
    have := ih (m := m.erase a) h1.2 (fun x hx => (List.mem_erase_of_ne (fun e : x = a => h1.1 (e ▸ hx))).2 (hs x (by simp [hx])))
    rw [List.length_erase_of_mem ha] at this
    have := List.length_pos_of_mem ha
    simp only [List.length_cons]; omega
/-- The least number that is not in a list. -/
def lfree (a : List Int) : Nat := ((List.range (a.length + 1)).find? (fun n : Nat => decide ((n : Int) ∉ a))).getD 0
theorem lfree_spec (a : List Int) : (lfree a : Int) ∉ a ∧ lfree a ≤ a.length ∧ ∀ m : Nat, m < lfree a → (m : Int) ∈ a := by
  cases h : (List.range (a.length + 1)).find? (fun n : Nat => decide ((n : Int) ∉ a)) with
  | none =>
    exfalso
    have h1 := List.find?_eq_none.1 h
    have h2 : ∀ n : Nat, n < a.length + 1 → (n : Int) ∈ a := fun n hn => by
      have := h1 n (List.mem_range.2 hn)
      simpa using this
    have := nodup_len' (l := (List.range (a.length + 1)).map fun n : Nat => (n : Int)) (m := a) (by
      unfold List.Nodup
      rw [List.pairwise_map]
      exact List.pairwise_lt_range.imp (fun h => by omega)) (fun x hx => by obtain ⟨n, hn, rfl⟩ := List.mem_map.1 hx; exact h2 n (List.mem_range.1 hn))
    simp at this
    omega
  | some n =>
    have e : lfree a = n := by unfold lfree; rw [h]; rfl
    obtain ⟨h1, i, hi, h2, h3⟩ := List.find?_eq_some_iff_getElem.1 h
    simp only [List.getElem_range] at h2 h3
    subst h2
    rw [e]
    refine ⟨by simpa using h1, by simp at hi; omega, fun m hm => ?_⟩
    have := h3 m hm
    simpa using this
/-! Homes that are taken. -/
def HInv (h : MAllocHomes) (a : List Int) : Prop := h.at_ = a ∧ ∀ n : Int, 0 ≤ n → n < 1217 → (gt h.taken.1 n = true ↔ n ∈ a)
theorem mem_setN {a : List Int} {k : Nat} {n m : Int} (hk : k < a.length) (ha : gt a (k : Int) < 0) (hm : 0 ≤ m) : m ∈ a.set k n ↔ m = n ∨ m ∈ a := by
  constructor
  · intro h; exact (List.mem_or_eq_of_mem_set h).symm
  · rintro (rfl | h)
    · exact List.mem_set hk _
    · obtain ⟨j, hj, rfl⟩ := List.mem_iff_getElem.1 h
      rw [gtE hk] at ha
      have hne : k ≠ j := fun e => by subst e; omega
      exact List.mem_iff_getElem.2 ⟨j, by rw [List.length_set]; exact hj, by rw [List.getElem_set, if_neg hne]⟩
theorem m_take_yes {fuel : Nat} {h : MAllocHomes} {a : List Int} {k n : Int} (hI : HInv h a) (h0 : 0 ≤ n) (h1 : n < 1217) (hn : n ∈ a) : m_alloc_homes_take fuel h k n = some (false, h) := by
  unfold m_alloc_homes_take
  have hin : inbN 1217 n = true := by unfold inbN; simp; omega
  simp [hin, (hI.2 n h0 h1).2 hn]
theorem m_take_no {fuel : Nat} {h : MAllocHomes} {a : List Int} {k : Nat} {n : Int} (hI : HInv h a) (h0 : 0 ≤ n) (h1 : n < 1217) (hn : n ∉ a) (hk : k < a.length) (ha : gt a (k : Int) < 0) : ∃ h', m_alloc_homes_take fuel h (k : Int) n = some (true, h') ∧ HInv h' (a.set k n) := by
  unfold m_alloc_homes_take
  have hin : inbN 1217 n = true := by unfold inbN; simp; omega
  have hik : inb h.at_ (k : Int) = true := by rw [hI.1]; exact inb_true (by omega) (by omega)
  have hf : gt h.taken.1 n = false := by
    cases c : gt h.taken.1 n with
    | false => rfl
    | true => exact absurd ((hI.2 n h0 h1).1 c) hn
  refine ⟨⟨arrSet h.taken n true, h.at_.set k n⟩, by simp [hin, hik, hf], by rw [hI.1], fun m hm0 hm1 => ?_⟩
  rw [mem_setN hk ha hm0]
  have hlen := h.taken.2
  have : gt (arrSet h.taken n true).1 m = if m = n then true else gt h.taken.1 m := by
    show gt (h.taken.1.set n.toNat true) m = _
    rw [gt_setG (by omega) hm0 (by omega), show ((n.toNat : Nat) : Int) = n by omega]
  rw [this]
  by_cases c : m = n
  · simp [c]
  · rw [if_neg c, hI.2 m hm0 hm1]; simp [c]
theorem m_least_h {fuel : Nat} {h : MAllocHomes} {a : List Int} {k : Nat} (hI : HInv h a) (hl : a.length ≤ 1000) (hf : 2000 < fuel) (hk : k < a.length) (ha : gt a (k : Int) < 0) : ∃ h', m_alloc_homes_least fuel h (k : Int) = some h' ∧ HInv h' (a.set k (lfree a)) := by
  obtain ⟨s1, s2, s3⟩ := lfree_spec a
  obtain ⟨h', h1, h2⟩ := m_take_no (fuel := fuel) (n := (lfree a : Int)) hI (by omega) (by omega) s1 hk ha
  refine ⟨h', ?_, h2⟩
  have := iter_end (body := m_alloc_homes_least_l1 fuel h (k : Int)) (fu := fuel) (lfree a) (fun i => (h, (i : Int))) h' (fun i hi => by
    unfold m_alloc_homes_least_l1
    simp [m_take_yes (fuel := fuel) (k := (k : Int)) hI (by omega) (by omega) (s3 i hi), W_succ (show i < 9223372036854775807 by omega)]) (by
    unfold m_alloc_homes_least_l1
    simp [h1]) (by omega)
  unfold m_alloc_homes_least
  have h0 : iter (m_alloc_homes_least_l1 fuel h (k : Int)) fuel (h, 0) = some h' := this
  rw [h0]; rfl
def gv1 (from_ src : List Int) : Nat → List Int
  | 0 => List.replicate src.length (-1)
  | k + 1 => if 0 ≤ gt src (k : Int) ∧ gt from_ (gt src (k : Int)) ∉ gv1 from_ src k then (gv1 from_ src k).set k (gt from_ (gt src (k : Int))) else gv1 from_ src k
def gv2 (a : List Int) : Nat → List Int
  | 0 => a
  | k + 1 => if gt (gv2 a k) (k : Int) < 0 then (gv2 a k).set k (lfree (gv2 a k)) else gv2 a k
/-- The homes by an edge. -/
def giveL (from_ src : List Int) : List Int := gv2 (gv1 from_ src src.length) src.length
theorem gv1_len (from_ src : List Int) : ∀ k, (gv1 from_ src k).length = src.length
  | 0 => List.length_replicate
  | k + 1 => by unfold gv1; split <;> simp [gv1_len from_ src k]
theorem gv2_len (a : List Int) : ∀ k, (gv2 a k).length = a.length
  | 0 => rfl
  | k + 1 => by unfold gv2; split <;> simp [gv2_len a k]
theorem gv1_behind (from_ src : List Int) : ∀ k j : Nat, k ≤ j → j < src.length → gt (gv1 from_ src k) (j : Int) = -1
  | 0, j, _, hj => by rw [gtE (by rw [gv1_len]; exact hj)]; simp [gv1]
  | k + 1, j, hk, hj => by
    have ih := gv1_behind from_ src k j (by omega) hj
    unfold gv1
    split
    · rw [gt_setG (by rw [gv1_len]; omega) (by omega) (by rw [gv1_len]; omega), if_neg (by omega)]; exact ih
    · exact ih
/-- What there is before the first step: nothing is taken. -/
theorem inv_start (n : Nat) : HInv ⟨arrZ 1217, List.replicate n (-1)⟩ (List.replicate n (-1)) := by
  refine ⟨rfl, fun m h0 h1 => ⟨fun h => ?_, fun h => ?_⟩⟩
  · exfalso
    have : gt (arrZ 1217).1 m = false := by
      obtain ⟨k, rfl⟩ : ∃ k : Nat, m = (k : Int) := ⟨m.toNat, by omega⟩
      rw [gtE (by rw [(arrZ 1217).2]; omega)]
      exact List.getElem_replicate _
    simp only at h
    rw [this] at h; cases h
  · have := List.eq_of_mem_replicate h; omega
theorem m_giveL {fuel : Nat} {from_ : List Int} {x : MEdge} (hf : 2000 < fuel) (hl : x.Src.length ≤ 1000) (hsrc : ∀ i, i < x.Src.length → gt x.Src (i : Int) < from_.length) (hfr : ∀ v ∈ from_, 0 ≤ v ∧ v < 1217) : m_alloc_give fuel from_ x = some (giveL from_ x.Src) := by
  unfold m_alloc_give
  simp only [m_repeat (k := x.Src.length) (v := -1) (fuel := fuel) (by omega) (by omega), bind_some']
  obtain ⟨y1, h1, hy1⟩ := iter_inv (body := m_alloc_give_l1 fuel from_ (List.replicate x.Src.length (-1)) x) (fu := fuel) (fun i h => HInv h (gv1 from_ x.Src i)) (fun h => HInv h (gv1 from_ x.Src x.Src.length)) x.Src.length (fun i hi h hI => by
    have hin : inb x.Src (i : Int) = true := inb_true (by omega) (by omega)
    have hd : (i : Int) < (x.Src.length : Int) := by omega
    have hb := gv1_behind from_ x.Src i i (Nat.le_refl _) hi
    unfold m_alloc_give_l1
    simp only [hd, decide_true, if_true, hin, W_succ (show i < 9223372036854775807 by omega)]
    by_cases c : gt x.Src (i : Int) ≥ 0
    · have hs := hsrc i hi
      have hin2 : inb from_ (gt x.Src (i : Int)) = true := inb_true c hs
      have hv : 0 ≤ gt from_ (gt x.Src (i : Int)) ∧ gt from_ (gt x.Src (i : Int)) < 1217 := by
        apply hfr
        obtain ⟨k, hk⟩ : ∃ k : Nat, gt x.Src (i : Int) = (k : Int) := ⟨(gt x.Src (i : Int)).toNat, by omega⟩
        rw [hk] at hs ⊢
        rw [gtE (by omega)]
        exact List.getElem_mem _
      by_cases c2 : gt from_ (gt x.Src (i : Int)) ∈ gv1 from_ x.Src i
      · refine ⟨h, by simp only [c, decide_true, if_true, hin2, m_take_yes hI hv.1 hv.2 c2, bind_some'], ?_⟩
        have : gv1 from_ x.Src (i + 1) = gv1 from_ x.Src i := by rw [gv1, if_neg (fun h => h.2 c2)]
        rw [this]; exact hI
      · obtain ⟨h', e1, e2⟩ := m_take_no (fuel := fuel) hI hv.1 hv.2 c2 (k := i) (by rw [gv1_len]; exact hi) (by omega)
        refine ⟨h', by simp only [c, decide_true, if_true, hin2, e1, bind_some'], ?_⟩
        have : gv1 from_ x.Src (i + 1) = (gv1 from_ x.Src i).set i (gt from_ (gt x.Src (i : Int))) := by rw [gv1, if_pos ⟨c, c2⟩]
        rw [this]; exact e2
    · refine ⟨h, by simp only [c, decide_false, Bool.false_eq_true, if_false, bind_some'], ?_⟩
      have : gv1 from_ x.Src (i + 1) = gv1 from_ x.Src i := by rw [gv1, if_neg (fun h => c h.1)]
      rw [this]; exact hI) (fun h hI => ⟨h, by unfold m_alloc_give_l1; simp, hI⟩) (by omega) ⟨arrZ 1217, List.replicate x.Src.length (-1)⟩ (inv_start _)
  rw [h1]
  have hly : y1.at_.length = x.Src.length := by rw [hy1.1, gv1_len]
  obtain ⟨y2, h2, hy2⟩ := iter_inv (body := m_alloc_give_l2 fuel y1) (fu := fuel) (fun i h => HInv h (gv2 (gv1 from_ x.Src x.Src.length) i)) (fun h => HInv h (giveL from_ x.Src)) x.Src.length (fun i hi h hI => by
    have hlen : (gv2 (gv1 from_ x.Src x.Src.length) i).length = x.Src.length := by rw [gv2_len, gv1_len]
    have hin : inb (gv2 (gv1 from_ x.Src x.Src.length) i) (i : Int) = true := inb_true (by omega) (by omega)
    have hd : (i : Int) < (y1.at_.length : Int) := by omega
    unfold m_alloc_give_l2
    simp only [hd, decide_true, if_true, hin, W_succ (show i < 9223372036854775807 by omega), hI.1]
    by_cases c : gt (gv2 (gv1 from_ x.Src x.Src.length) i) (i : Int) < 0
    · obtain ⟨h', e1, e2⟩ := m_least_h (fuel := fuel) hI (by omega) hf (k := i) (by omega) c
      refine ⟨h', by simp only [c, decide_true, if_true, e1, bind_some'], ?_⟩
      rw [gv2, if_pos c]; exact e2
    · refine ⟨h, by simp only [c, decide_false, Bool.false_eq_true, if_false, bind_some'], ?_⟩
      rw [gv2, if_neg c]; exact hI) (fun h hI => ⟨h, by unfold m_alloc_give_l2; simp [hly], hI⟩) (by omega) y1 hy1
  simp only [bind_some', h2, hy2.1]
theorem gt_mem {α : Type} [Inhabited α] {a : List α} {i : Nat} (h : i < a.length) : gt a (i : Int) ∈ a := by rw [gtE h]; exact List.getElem_mem _
theorem mem_gt {α : Type} [Inhabited α] {a : List α} {v : α} (h : v ∈ a) : ∃ i : Nat, i < a.length ∧ gt a (i : Int) = v := by
  obtain ⟨i, hi, e⟩ := List.mem_iff_getElem.1 h
  exact ⟨i, hi, by rw [gtE hi, e]⟩
/-- What is told in it is told once. -/
def ApartN (a : List Int) : Prop := ∀ i j : Nat, i < a.length → j < a.length → i ≠ j → 0 ≤ gt a (i : Int) → gt a (i : Int) ≠ gt a (j : Int)
theorem apart_set {a : List Int} {k : Nat} {v : Int} (h : ApartN a) (hv : v ∉ a) (hk : k < a.length) : ApartN (a.set k v) := by
  intro i j hi hj hne h0
  rw [List.length_set] at hi hj
  rw [gt_setG hk (by omega) (by omega)] at h0 ⊢
  rw [gt_setG hk (by omega) (by omega)]
  by_cases c1 : (i : Int) = k
  · rw [if_pos c1, if_neg (by omega)]; exact fun e => hv (e ▸ gt_mem hj)
  · rw [if_neg c1] at h0 ⊢
    by_cases c2 : (j : Int) = k
    · rw [if_pos c2]; exact fun e => hv (e ▸ gt_mem hi)
    · rw [if_neg c2]; exact h i j hi hj hne h0
theorem lfree_lt {a : List Int} {k : Nat} (hk : k < a.length) (ha : gt a (k : Int) < 0) : lfree a < a.length := by
  obtain ⟨s1, s2, s3⟩ := lfree_spec a
  rcases Nat.lt_or_ge (lfree a) a.length with h | h
  · exact h
  · exfalso
    have e : lfree a = a.length := by omega
    have := nodup_len' (l := gt a (k : Int) :: (List.range a.length).map fun n : Nat => (n : Int)) (m := a) (by
      refine List.nodup_cons.2 ⟨fun h => ?_, ?_⟩
      · obtain ⟨n, _, hn⟩ := List.mem_map.1 h; omega
      · unfold List.Nodup
        rw [List.pairwise_map]
        exact List.pairwise_lt_range.imp (fun h => by omega)) (fun x hx => by
      rcases List.mem_cons.1 hx with rfl | hx
      · exact gt_mem hk
      · obtain ⟨n, hn, rfl⟩ := List.mem_map.1 hx
        exact s3 n (by rw [e]; exact List.mem_range.1 hn))
    simp only [List.length_cons, List.length_map, List.length_range] at this
    omega
/-- Homes: apart, each below B. -/
structure HomeOk (B r : Int) (h : List Int) : Prop where
  len : (h.length : Int) = r
  apart : ApartN h
  rng : ∀ i : Nat, i < h.length → 0 ≤ gt h (i : Int) ∧ gt h (i : Int) < B
theorem gv1_ok {from_ src : List Int} {B : Int} (hf : ∀ v ∈ from_, 0 ≤ v ∧ v < B) (hs : ∀ i : Nat, i < src.length → gt src (i : Int) < from_.length) : ∀ k, k ≤ src.length → ApartN (gv1 from_ src k) ∧ ∀ i : Nat, i < src.length → gt (gv1 from_ src k) (i : Int) = -1 ∨ (0 ≤ gt (gv1 from_ src k) (i : Int) ∧ gt (gv1 from_ src k) (i : Int) < B)
  | 0, _ => by
    have h0 : ∀ i : Nat, i < src.length → gt (gv1 from_ src 0) (i : Int) = -1 := fun i hi => gv1_behind from_ src 0 i (Nat.zero_le _) hi
    refine ⟨fun i j hi hj hne h => ?_, fun i hi => .inl (h0 i hi)⟩
    rw [gv1_len] at hi
    rw [h0 i hi] at h; omega
  | k + 1, hk => by
    obtain ⟨ih1, ih2⟩ := gv1_ok hf hs k (by omega)
    unfold gv1
    split
    · rename_i c
      have hv : 0 ≤ gt from_ (gt src (k : Int)) ∧ gt from_ (gt src (k : Int)) < B := by
        apply hf
        obtain ⟨m, hm⟩ : ∃ m : Nat, gt src (k : Int) = (m : Int) := ⟨(gt src (k : Int)).toNat, by omega⟩
        have := hs k (by omega)
        rw [hm] at this ⊢
        exact gt_mem (by omega)
      refine ⟨apart_set ih1 c.2 (by rw [gv1_len]; omega), fun i hi => ?_⟩
      rw [gt_setG (by rw [gv1_len]; omega) (by omega) (by rw [gv1_len]; omega)]
      by_cases c1 : (i : Int) = k
      · rw [if_pos c1]; exact .inr hv
      · rw [if_neg c1]; exact ih2 i hi
    · exact ⟨ih1, ih2⟩
theorem gv2_ok {a : List Int} {B : Int} (hB : (a.length : Int) ≤ B) (h1 : ApartN a) (h2 : ∀ i : Nat, i < a.length → gt a (i : Int) = -1 ∨ (0 ≤ gt a (i : Int) ∧ gt a (i : Int) < B)) : ∀ k, k ≤ a.length → ApartN (gv2 a k) ∧ (∀ i : Nat, i < a.length → gt (gv2 a k) (i : Int) = -1 ∨ (0 ≤ gt (gv2 a k) (i : Int) ∧ gt (gv2 a k) (i : Int) < B)) ∧ ∀ i : Nat, i < k → 0 ≤ gt (gv2 a k) (i : Int)
  | 0, _ => ⟨h1, h2, fun i hi => by omega⟩
  | k + 1, hk => by
    obtain ⟨i1, i2, i3⟩ := gv2_ok hB h1 h2 k (by omega)
    have hlen := gv2_len a k
    unfold gv2
    split
    · rename_i c
      have hkl : k < (gv2 a k).length := by omega
      have hlt := lfree_lt hkl c
      refine ⟨apart_set i1 (lfree_spec _).1 hkl, fun i hi => ?_, fun i hi => ?_⟩
      · rw [gt_setG hkl (by omega) (by omega)]
        by_cases c1 : (i : Int) = k
        · rw [if_pos c1]; exact .inr ⟨by omega, by omega⟩
        · rw [if_neg c1]; exact i2 i hi
      · rw [gt_setG hkl (by omega) (by omega)]
        by_cases c1 : (i : Int) = k
        · rw [if_pos c1]; omega
        · rw [if_neg c1]; exact i3 i (by omega)
    · rename_i c
      refine ⟨i1, i2, fun i hi => ?_⟩
      by_cases c1 : i = k
      · subst c1; omega
      · exact i3 i (by omega)
theorem giveL_ok {from_ src : List Int} {B r : Int} (hf : ∀ v ∈ from_, 0 ≤ v ∧ v < B) (hs : ∀ i : Nat, i < src.length → gt src (i : Int) < from_.length) (hr : (src.length : Int) = r) (hB : r ≤ B) : HomeOk B r (giveL from_ src) := by
  obtain ⟨a1, a2⟩ := gv1_ok hf hs src.length (Nat.le_refl _)
  have hl := gv1_len from_ src src.length
  obtain ⟨b1, b2, b3⟩ := gv2_ok (a := gv1 from_ src src.length) (B := B) (by omega) a1 (fun i hi => a2 i (by omega)) src.length (by omega)
  have hg : (giveL from_ src).length = src.length := by unfold giveL; rw [gv2_len, gv1_len]
  refine ⟨by rw [hg]; exact hr, b1, fun i hi => ?_⟩
  rw [hg] at hi
  have h0 := b3 i hi
  rcases b2 i (by omega) with h | h
  · have h0' : 0 ≤ gt (giveL from_ src) (i : Int) := h0
    have h' : gt (giveL from_ src) (i : Int) = -1 := h
    omega
  · exact h
end Go.Proofs.Ytjkoiijpmiibpaa
