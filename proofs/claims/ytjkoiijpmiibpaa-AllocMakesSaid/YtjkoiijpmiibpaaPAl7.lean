/- Homes of a machine: states one by one, as they are come to. Its conditions: none. -/
import Derived.Test.YtjkoiijpmiibpaaPAl4
import Derived.Test.YtjkoiijpmiibpaaPAl2
set_option autoImplicit false
namespace Go.Proofs.Ytjkoiijpmiibpaa
open Go.V Go.RowKit

abbrev T3 := List (List Int) × List Bool × List Int
def est (cur : Int) (s : T3) (x : MEdge) : T3 :=
  if 0 ≤ x.To ∧ gt s.2.1 x.To = false then (s.1.set x.To.toNat (giveL (gt s.1 cur) x.Src), s.2.1.set x.To.toNat true, s.2.2 ++ [x.To]) else s
def efold (l : List MEdge) (cur : Int) (s : T3) : Nat → T3
  | 0 => s
  | c + 1 => est cur (efold l cur s c) (gt l (c : Int))
def curB (d : MDfa) (s : T3) (k : Nat) : List MEdge := (gt d.States (gt s.2.2 (k : Int))).Edges
def bfs (d : MDfa) : Nat → T3
  | 0 => (List.replicate d.States.length [], (List.replicate d.States.length false).set 0 true, [0])
  | k + 1 => if k < (bfs d k).2.2.length then efold (curB d (bfs d k) k) (gt (bfs d k).2.2 (k : Int)) (bfs d k) (curB d (bfs d k) k).length else bfs d k
def regsOf (d : MDfa) (v : Int) : Int := (gt d.States v).Regs
structure BInv (d : MDfa) (B : Int) (s : T3) : Prop where
  l1 : s.1.length = d.States.length
  l2 : s.2.1.length = d.States.length
  nd : s.2.2.Nodup
  rng : ∀ v ∈ s.2.2, 0 ≤ v ∧ v < d.States.length
  cm : ∀ i : Nat, i < d.States.length → (gt s.2.1 (i : Int) = true ↔ (i : Int) ∈ s.2.2)
  hm : ∀ v ∈ s.2.2, HomeOk B (regsOf d v) (gt s.1 v)
theorem BInv.len {d : MDfa} {B : Int} {s : T3} (h : BInv d B s) : s.2.2.length ≤ d.States.length := by
  have := nodup_len' (m := (List.range d.States.length).map fun n : Nat => (n : Int)) h.nd (fun v hv => by
    obtain ⟨h0, h1⟩ := h.rng v hv
    exact List.mem_map.2 ⟨v.toNat, List.mem_range.2 (by omega), by omega⟩)
  simpa using this
/-- What an edge of a right machine gives. -/
theorem edge_home {d : MDfa} {B : Int} {s : T3} (hI : BInv d B s) {cur : Int} (hc : cur ∈ s.2.2) {x : MEdge} (hx : EdgeOk d x (regsOf d cur)) (h0 : 0 ≤ x.To) (hB : ∀ i : Nat, i < d.States.length → (gt d.States (i : Int)).Regs ≤ B) :
    x.To < d.States.length ∧ (∀ i : Nat, i < x.Src.length → gt x.Src (i : Int) < (gt s.1 cur).length) ∧ (∀ v ∈ gt s.1 cur, 0 ≤ v ∧ v < B) ∧ HomeOk B (regsOf d x.To) (giveL (gt s.1 cur) x.Src) := by
  unfold EdgeOk at hx
  rw [if_neg (by omega)] at hx
  obtain ⟨_, h2, h3, h4⟩ := hx
  have hm := hI.hm cur hc
  have hf : ∀ v ∈ gt s.1 cur, 0 ≤ v ∧ v < B := fun v hv => by
    obtain ⟨i, hi, rfl⟩ := mem_gt hv
    exact hm.rng i hi
  have hs : ∀ i : Nat, i < x.Src.length → gt x.Src (i : Int) < (gt s.1 cur).length := fun i hi => by
    have h5 := h4 i hi
    have h6 := hm.len
    unfold fromP at h5; omega
  have hb : regsOf d x.To ≤ B := by
    have := hB x.To.toNat (by omega)
    rw [show ((x.To.toNat : Nat) : Int) = x.To by omega] at this
    exact this
  exact ⟨h2, hs, hf, giveL_ok hf hs h3 hb⟩
theorem gt_setI {α : Type} [Inhabited α] {l : List α} {i : Int} {v : α} {j : Int} (h0 : 0 ≤ i) (hi : i < l.length) (g0 : 0 ≤ j) (hj : j < l.length) : gt (l.set i.toNat v) j = if j = i then v else gt l j := by
  rw [gt_setG (by omega) g0 hj, show ((i.toNat : Nat) : Int) = i by omega]
theorem est_ok {d : MDfa} {B : Int} {s : T3} (hI : BInv d B s) {cur : Int} (hc : cur ∈ s.2.2) {x : MEdge} (hx : EdgeOk d x (regsOf d cur)) (hB : ∀ i : Nat, i < d.States.length → (gt d.States (i : Int)).Regs ≤ B) :
    BInv d B (est cur s x) ∧ (∃ t, (est cur s x).2.2 = s.2.2 ++ t) := by
  unfold est
  split
  · rename_i c
    obtain ⟨c0, c1⟩ := c
    obtain ⟨h2, _, _, h5⟩ := edge_home hI hc hx c0 hB
    have hn : x.To ∉ s.2.2 := fun h => by
      have := (hI.cm x.To.toNat (by omega)).2 (by rw [show ((x.To.toNat : Nat) : Int) = x.To by omega]; exact h)
      rw [show ((x.To.toNat : Nat) : Int) = x.To by omega, c1] at this; cases this
    have l1 := hI.l1
    have l2 := hI.l2
    refine ⟨⟨by simp [l1], by simp [l2], ?_, ?_, ?_, ?_⟩, _, rfl⟩
    · exact List.nodup_append.2 ⟨hI.nd, by simp, fun a ha b hb e => hn (by rw [List.mem_singleton] at hb; rw [← hb, ← e]; exact ha)⟩
    · intro v hv
      rcases List.mem_append.1 hv with hv | hv
      · exact hI.rng v hv
      · rw [List.mem_singleton] at hv; subst hv; exact ⟨c0, h2⟩
    · intro i hi
      show gt (s.2.1.set x.To.toNat true) (i : Int) = true ↔ (i : Int) ∈ s.2.2 ++ [x.To]
      rw [gt_setI c0 (by omega) (by omega) (by omega), List.mem_append, List.mem_singleton]
      by_cases e : (i : Int) = x.To
      · simp [e]
      · rw [if_neg e, hI.cm i hi]; simp [e]
    · intro v hv
      show HomeOk B (regsOf d v) (gt (s.1.set x.To.toNat (giveL (gt s.1 cur) x.Src)) v)
      rcases List.mem_append.1 hv with hv | hv
      · obtain ⟨r0, r1⟩ := hI.rng v hv
        rw [gt_setI c0 (by omega) r0 (by omega), if_neg (fun e : v = x.To => hn (e ▸ hv))]
        exact hI.hm v hv
      · rw [List.mem_singleton] at hv; subst hv
        rw [gt_setI c0 (by omega) c0 (by omega), if_pos rfl]; exact h5
  · exact ⟨hI, [], by simp⟩
theorem efold_ok {d : MDfa} {B : Int} {s : T3} (hI : BInv d B s) {cur : Int} (hc : cur ∈ s.2.2) {l : List MEdge} (hl : ∀ c : Nat, c < l.length → EdgeOk d (gt l (c : Int)) (regsOf d cur)) (hB : ∀ i : Nat, i < d.States.length → (gt d.States (i : Int)).Regs ≤ B) :
    ∀ c, c ≤ l.length → BInv d B (efold l cur s c) ∧ ∃ t, (efold l cur s c).2.2 = s.2.2 ++ t
  | 0, _ => ⟨hI, [], by simp [efold]⟩
  | c + 1, h => by
    obtain ⟨i1, t, i2⟩ := efold_ok hI hc hl hB c (by omega)
    obtain ⟨j1, u, j2⟩ := est_ok i1 (cur := cur) (by rw [i2]; exact List.mem_append_left _ hc) (hl c (by omega)) hB
    exact ⟨j1, t ++ u, by show (est cur (efold l cur s c) (gt l (c : Int))).2.2 = _; rw [j2, i2, List.append_assoc]⟩
/-- The most registers that a state has. -/
def mostR (d : MDfa) : Nat → Int
  | 0 => 0
  | i + 1 => if (gt d.States (i : Int)).Regs > mostR d i then (gt d.States (i : Int)).Regs else mostR d i
theorem mostR_ge (d : MDfa) : ∀ k i : Nat, i < k → (gt d.States (i : Int)).Regs ≤ mostR d k
  | k + 1, i, h => by
    unfold mostR
    by_cases e : i = k
    · subst e; split <;> omega
    · have := mostR_ge d k i (by omega)
      split <;> omega
theorem mostR_le {d : MDfa} {B : Int} (h0 : 0 ≤ B) : ∀ k, (∀ i : Nat, i < k → (gt d.States (i : Int)).Regs ≤ B) → mostR d k ≤ B
  | 0, _ => h0
  | k + 1, h => by
    have := mostR_le h0 k (fun i hi => h i (by omega))
    have := h k (by omega)
    unfold mostR; split <;> omega
theorem mostR_0 (d : MDfa) : ∀ k, 0 ≤ mostR d k
  | 0 => Int.le_refl _
  | k + 1 => by have := mostR_0 d k; unfold mostR; split <;> omega
theorem mostR_is (d : MDfa) : ∀ k, mostR d k = 0 ∨ ∃ i : Nat, i < k ∧ (gt d.States (i : Int)).Regs = mostR d k
  | 0 => .inl rfl
  | k + 1 => by
    unfold mostR
    split
    · exact .inr ⟨k, by omega, rfl⟩
    · rcases mostR_is d k with h | ⟨i, h1, h2⟩
      · exact .inl h
      · exact .inr ⟨i, by omega, h2⟩
theorem bfs_ok {d : MDfa} (hR : RightD d) {B : Int} (hB : ∀ i : Nat, i < d.States.length → (gt d.States (i : Int)).Regs ≤ B) : ∀ k, BInv d B (bfs d k)
  | 0 => by
    obtain ⟨_, _, _, h1, _, _, h0, _⟩ := hR
    refine ⟨by simp [bfs], by simp [bfs], by simp [bfs], ?_, ?_, ?_⟩
    · intro v hv
      simp only [bfs, List.mem_singleton] at hv; subst hv; omega
    · intro i hi
      simp only [bfs]
      rw [show (0 : Nat) = ((0 : Int)).toNat from rfl, gt_setI (by omega) (by simp; omega) (by omega) (by simp; omega), List.mem_singleton]
      by_cases e : (i : Int) = 0
      · simp [e]
      · rw [if_neg e, gtE (by simp; exact hi)]; simp; omega
    · intro v hv
      simp only [bfs, List.mem_singleton] at hv; subst hv
      have : gt (bfs d 0).1 0 = [] := by
        show gt (List.replicate d.States.length ([] : List Int)) ((0 : Nat) : Int) = []
        rw [gtE (by simp; omega)]; simp
      show HomeOk B (regsOf d 0) (gt (bfs d 0).1 0)
      rw [this]
      exact ⟨by unfold regsOf; rw [h0]; rfl, fun i j hi => by simp at hi, fun i hi => by simp at hi⟩
  | k + 1 => by
    have ih := bfs_ok hR hB k
    unfold bfs
    split
    · rename_i c
      have hm := gt_mem c
      obtain ⟨r0, r1⟩ := ih.rng _ hm
      refine (efold_ok ih hm (fun c hc => ?_) hB _ (Nat.le_refl _)).1
      have := hR.2.2.2.2.2.2.2 (gt (bfs d k).2.2 (k : Int)).toNat (by omega)
      rw [show (((gt (bfs d k).2.2 (k : Int)).toNat : Nat) : Int) = gt (bfs d k).2.2 (k : Int) by omega] at this
      exact this.2.2.2.2.2 c hc
    · exact ih
theorem bfs_stays {d : MDfa} {k : Nat} (h : ¬ k < (bfs d k).2.2.length) : ∀ m, bfs d (k + m) = bfs d k
  | 0 => rfl
  | m + 1 => by
    have ih := bfs_stays h m
    show bfs d (k + m + 1) = _
    rw [bfs, ih, if_neg (by omega)]
/-- When all is done. -/
theorem bfs_end {d : MDfa} (hR : RightD d) : ∃ K, K ≤ d.States.length ∧ ¬ K < (bfs d K).2.2.length ∧ bfs d d.States.length = bfs d K ∧ ∀ k, k < K → k < (bfs d k).2.2.length := by
  rcases first_bad (fun k => ¬ k < (bfs d k).2.2.length) (d.States.length + 1) with h | ⟨K, h1, h2, h3⟩
  · exfalso
    have h1 := h d.States.length (by omega)
    have h2 := (bfs_ok hR (mostR_ge d d.States.length) d.States.length).len
    omega
  · refine ⟨K, by omega, h2, ?_, fun k hk => Classical.not_not.1 (h3 k hk)⟩
    have := bfs_stays h2 (d.States.length - K)
    rw [show K + (d.States.length - K) = d.States.length by omega] at this
    exact this
def ownL (n : Int) : List Int := (List.range n.toNat).map fun i : Nat => (i : Int)
theorem ownL_ok {B r : Int} (h0 : 0 ≤ r) (h : r ≤ B) : HomeOk B r (ownL r) := by
  have hl : (ownL r).length = r.toNat := by simp [ownL]
  have hg : ∀ i : Nat, i < r.toNat → gt (ownL r) (i : Int) = (i : Int) := fun i hi => by
    rw [gtE (by omega)]; simp [ownL]
  refine ⟨by omega, fun i j hi hj hne _ => ?_, fun i hi => ?_⟩
  · rw [hg i (by omega), hg j (by omega)]; omega
  · rw [hg i (by omega)]; omega
/-- The homes of a state's registers. -/
def homeAt (d : MDfa) (s : T3) (i : Nat) : List Int := if gt s.2.1 (i : Int) = true then gt s.1 (i : Int) else ownL (regsOf d i)
def homesL (d : MDfa) : List (List Int) := (List.range d.States.length).map (homeAt d (bfs d d.States.length))
def mxL (l : List Int) (m : Int) : Nat → Int
  | 0 => m
  | k + 1 => if gt l (k : Int) + 1 > mxL l m k then gt l (k : Int) + 1 else mxL l m k
def manyN (h : Nat → List Int) : Nat → Int
  | 0 => 0
  | i + 1 => mxL (h i) (manyN h i) (h i).length
def manyL (d : MDfa) : Int := manyN (homeAt d (bfs d d.States.length)) d.States.length
theorem home_ok {d : MDfa} (hR : RightD d) {i : Nat} (hi : i < d.States.length) : HomeOk (mostR d d.States.length) (regsOf d i) (homeAt d (bfs d d.States.length) i) := by
  have hI := bfs_ok hR (mostR_ge d d.States.length) d.States.length
  unfold homeAt
  split
  · rename_i c
    exact hI.hm _ ((hI.cm i hi).1 c)
  · exact ownL_ok (hR.2.2.2.2.2.2.2 i hi).1 (mostR_ge d _ i hi)
theorem homesL_len (d : MDfa) : (homesL d).length = d.States.length := by simp [homesL]
theorem homesL_gt {d : MDfa} {i : Nat} (h : i < d.States.length) : gt (homesL d) (i : Int) = homeAt d (bfs d d.States.length) i := by
  rw [gtE (by rw [homesL_len]; exact h)]; simp [homesL]
theorem mxL_le {l : List Int} {m B : Int} (hm : m ≤ B) : ∀ k, (∀ i : Nat, i < k → gt l (i : Int) < B) → mxL l m k ≤ B
  | 0, _ => hm
  | k + 1, h => by
    have := mxL_le hm k (fun i hi => h i (by omega))
    have := h k (by omega)
    unfold mxL; split <;> omega
theorem mxL_ge {l : List Int} {m : Int} : ∀ k, m ≤ mxL l m k ∧ ∀ i : Nat, i < k → gt l (i : Int) < mxL l m k
  | 0 => ⟨Int.le_refl _, fun i hi => by omega⟩
  | k + 1 => by
    obtain ⟨h1, h2⟩ := mxL_ge (l := l) (m := m) k
    unfold mxL
    split
    · refine ⟨by omega, fun i hi => ?_⟩
      by_cases e : i = k
      · subst e; omega
      · have := h2 i (by omega); omega
    · refine ⟨by omega, fun i hi => ?_⟩
      by_cases e : i = k
      · subst e; omega
      · exact h2 i (by omega)
theorem manyN_le {h : Nat → List Int} {B : Int} (h0 : 0 ≤ B) : ∀ k, (∀ i, i < k → ∀ j : Nat, j < (h i).length → gt (h i) (j : Int) < B) → manyN h k ≤ B
  | 0, _ => h0
  | k + 1, hk => mxL_le (manyN_le h0 k (fun i hi => hk i (by omega))) _ (hk k (by omega))
theorem manyN_ge {h : Nat → List Int} : ∀ k, 0 ≤ manyN h k ∧ ∀ i, i < k → ∀ j : Nat, j < (h i).length → gt (h i) (j : Int) < manyN h k
  | 0 => ⟨Int.le_refl _, fun i hi => by omega⟩
  | k + 1 => by
    obtain ⟨h1, h2⟩ := manyN_ge (h := h) k
    obtain ⟨g1, g2⟩ := mxL_ge (l := h k) (m := manyN h k) (h k).length
    refine ⟨by show 0 ≤ mxL _ _ _; omega, fun i hi j hj => ?_⟩
    show gt (h i) (j : Int) < mxL _ _ _
    by_cases e : i = k
    · subst e; exact g2 j hj
    · have := h2 i (by omega) j hj; omega
theorem apart_nodup {l : List Int} (h : ApartN l) (h0 : ∀ i : Nat, i < l.length → 0 ≤ gt l (i : Int)) : l.Nodup := List.pairwise_iff_getElem.2 fun i j hi hj hij => by
  have := h i j hi hj (by omega) (h0 i hi)
  rwa [gtE hi, gtE hj] at this
/-- There are as many homes as the state with the most registers has. -/
theorem many_most {d : MDfa} (hR : RightD d) : manyL d = mostR d d.States.length := by
  have hle : manyL d ≤ mostR d d.States.length := manyN_le (mostR_0 d _) _ (fun i hi j hj => ((home_ok hR hi).rng j hj).2)
  refine Int.le_antisymm hle ?_
  obtain ⟨g0, g1⟩ := manyN_ge (h := homeAt d (bfs d d.States.length)) d.States.length
  rcases mostR_is d d.States.length with h | ⟨i, h1, h2⟩
  · rw [h]; exact g0
  · have hh := home_ok hR h1
    have hlen := hh.len
    have g2 : ∀ j : Nat, j < (homeAt d (bfs d d.States.length) i).length → gt (homeAt d (bfs d d.States.length) i) (j : Int) < manyL d := g1 i h1
    have := nodup_len' (m := (List.range (manyL d).toNat).map fun n : Nat => (n : Int)) (apart_nodup hh.apart (fun j hj => (hh.rng j hj).1)) (fun v hv => by
      obtain ⟨j, hj, rfl⟩ := mem_gt hv
      have := hh.rng j hj
      have := g2 j hj
      exact List.mem_map.2 ⟨(gt (homeAt d (bfs d d.States.length) i) (j : Int)).toNat, List.mem_range.2 (by omega), by omega⟩)
    simp only [List.length_map, List.length_range] at this
    have e : regsOf d i = mostR d d.States.length := h2
    have : 0 ≤ manyL d := g0
    omega
theorem gt_drop {α : Type} [Inhabited α] {l : List α} {k : Nat} (h : k < l.length) : gt (l.drop k) 0 = gt l (k : Int) := by
  rw [show (0 : Int) = ((0 : Nat) : Int) from rfl, gtE (by rw [List.length_drop]; omega), gtE h, List.getElem_drop]; simp
theorem gt_pre {α : Type} [Inhabited α] {l t : List α} {k : Nat} (h : k < l.length) : gt (l ++ t) (k : Int) = gt l (k : Int) := by
  rw [gtE (by rw [List.length_append]; omega), gtE h, List.getElem_append_left h]
theorem W_i {n : Int} (h1 : 0 ≤ n) (h2 : n < 9223372036854775807) : W (n + 1) = n + 1 := W_id (by omega) (by omega)
/-- One state's edges. -/
theorem homes_l2 {d : MDfa} (hR : RightD d) (hS : SmallD d) {fuel k : Nat} (hf : 3000 < fuel) {o : List (List Int)} {cm : List Bool} (hk : k < (bfs d k).2.2.length) :
    iter (m_alloc_Homes_l2 fuel d o cm ((bfs d k).2.2.drop k)) fuel ((bfs d k).1, (bfs d k).2.1, (bfs d k).2.2.drop k, 0) = some ((bfs d (k + 1)).1, (bfs d (k + 1)).2.1, (bfs d (k + 1)).2.2.drop k) := by
  have hB400 : ∀ i : Nat, i < d.States.length → (gt d.States (i : Int)).Regs ≤ 400 := fun i hi => (hS.2.2 i hi).2.2.1
  have hI := bfs_ok hR hB400 k
  have e1 : bfs d (k + 1) = efold (curB d (bfs d k) k) (gt (bfs d k).2.2 (k : Int)) (bfs d k) (curB d (bfs d k) k).length := by rw [bfs, if_pos hk]
  rw [e1]
  have e0 : gt ((bfs d k).2.2.drop k) 0 = gt (bfs d k).2.2 (k : Int) := gt_drop hk
  have hcm := gt_mem hk
  have hlen := hI.len
  obtain ⟨s1, s2, s3⟩ := hS
  have hE : ∀ c : Nat, c < (curB d (bfs d k) k).length → EdgeOk d (gt (curB d (bfs d k) k) (c : Int)) (regsOf d (gt (bfs d k).2.2 (k : Int))) ∧ (gt (curB d (bfs d k) k) (c : Int)).Src.length ≤ 400 := fun c hc => by
    obtain ⟨r0, r1⟩ := hI.rng _ hcm
    have h1 := hR.2.2.2.2.2.2.2 (gt (bfs d k).2.2 (k : Int)).toNat (by omega)
    have h2 := s3 (gt (bfs d k).2.2 (k : Int)).toNat (by omega)
    rw [show (((gt (bfs d k).2.2 (k : Int)).toNat : Nat) : Int) = gt (bfs d k).2.2 (k : Int) by omega] at h1 h2
    exact ⟨h1.2.2.2.2.2 c hc, h2.2.2.2 c hc⟩
  have hEl : (curB d (bfs d k) k).length ≤ 300 := by
    obtain ⟨r0, r1⟩ := hI.rng _ hcm
    have h2 := s3 (gt (bfs d k).2.2 (k : Int)).toNat (by omega)
    rw [show (((gt (bfs d k).2.2 (k : Int)).toNat : Nat) : Int) = gt (bfs d k).2.2 (k : Int) by omega] at h2
    exact h2.2.1
  generalize hs : bfs d k = s at *
  generalize hcur : gt s.2.2 (k : Int) = cur at *
  have hcb : curB d s k = (gt d.States cur).Edges := by unfold curB; rw [hcur]
  rw [hcb] at hE hEl ⊢
  refine iter_end (body := m_alloc_Homes_l2 fuel d o cm (s.2.2.drop k)) (fu := fuel) (gt d.States cur).Edges.length (fun c => ((efold (gt d.States cur).Edges cur s c).1, (efold (gt d.States cur).Edges cur s c).2.1, (efold (gt d.States cur).Edges cur s c).2.2.drop k, (c : Int))) _ (fun c hc => ?_) ?_ (by omega)
  · obtain ⟨i1, t, i2⟩ := efold_ok hI hcm (fun c hc => (hE c hc).1) hB400 c (by omega)
    have hin : inb (gt d.States cur).Edges (c : Int) = true := inb_true (by omega) (by omega)
    have hd : (c : Int) < ((gt d.States cur).Edges.length : Int) := by omega
    obtain ⟨hx1, hx2⟩ := hE c hc
    show m_alloc_Homes_l2 fuel d o cm (s.2.2.drop k) _ = _
    unfold m_alloc_Homes_l2
    simp only [efold, e0]
    generalize efold (gt d.States cur).Edges cur s c = e at *
    generalize gt (gt d.States cur).Edges (c : Int) = x at *
    simp only [hd, decide_true, if_true, hin, W_succ (show c < 9223372036854775807 by omega)]
    by_cases c0 : x.To ≥ 0
    · obtain ⟨g1, g2, g3, g4⟩ := edge_home i1 (cur := cur) (by rw [i2]; exact List.mem_append_left _ hcm) hx1 c0 hB400
      have l1 := i1.l1
      have l2 := i1.l2
      have l3 := i1.len
      have n2 : inb e.2.1 x.To = true := inb_true c0 (by omega)
      have n1 : inb e.1 x.To = true := inb_true c0 (by omega)
      have hke : k < e.2.2.length := by rw [i2, List.length_append]; omega
      have hcur2 : gt (e.2.2.drop k) 0 = cur := by rw [gt_drop hke, i2, gt_pre hk, hcur]
      obtain ⟨r0, r1⟩ := i1.rng cur (by rw [i2]; exact List.mem_append_left _ hcm)
      have n3 : inb e.1 cur = true := inb_true r0 (by omega)
      have n4 : inb (e.2.2.drop k) 0 = true := inb_true (by omega) (by rw [List.length_drop]; omega)
      simp only [c0, decide_true, if_true, n2, bind_some']
      by_cases c1 : gt e.2.1 x.To = false
      · have hap : apOk 8 (e.2.2.drop k) [x.To] = true := apOk_true (by rw [List.length_drop]; simp; omega)
        have hg := m_giveL (fuel := fuel) (from_ := gt e.1 cur) (x := x) (by omega) (by omega) g2 (fun v hv => by have := g3 v hv; omega)
        have hest : est cur e x = (e.1.set x.To.toNat (giveL (gt e.1 cur) x.Src), e.2.1.set x.To.toNat true, e.2.2 ++ [x.To]) := by unfold est; rw [if_pos ⟨c0, c1⟩]
        simp only [c1, Bool.not_false, if_true, n2, n4, hcur2, n3, hg, bind_some', n1, hap, hest]
        rw [List.drop_append_of_le_length (by omega)]
      · have hest : est cur e x = e := by unfold est; rw [if_neg (fun h => c1 h.2)]
        have c1' : gt e.2.1 x.To = true := by simpa using c1
        simp only [c1', Bool.not_true, Bool.false_eq_true, if_false, bind_some', hest]
    · have hest : est cur e x = e := by unfold est; rw [if_neg (fun h => c0 h.1)]
      simp only [c0, decide_false, Bool.false_eq_true, if_false, bind_some', hest]
  · show m_alloc_Homes_l2 fuel d o cm (s.2.2.drop k) _ = _
    unfold m_alloc_Homes_l2
    simp [e0]
theorem homes_l1 {d : MDfa} (hR : RightD d) (hS : SmallD d) {fuel : Nat} (hf : 3000 < fuel) :
    iter (m_alloc_Homes_l1 fuel d) fuel ((bfs d 0).1, (bfs d 0).2.1, (bfs d 0).2.2) = some ((bfs d d.States.length).1, (bfs d d.States.length).2.1) := by
  obtain ⟨K, h1, h2, h3, h4⟩ := bfs_end hR
  rw [h3]
  have hn := hS.1
  refine iter_end (body := m_alloc_Homes_l1 fuel d) (fu := fuel) K (fun k => ((bfs d k).1, (bfs d k).2.1, (bfs d k).2.2.drop k)) _ (fun k hk => ?_) ?_ (by omega)
  · have hkl := h4 k hk
    have hI := bfs_ok hR (mostR_ge d d.States.length) k
    have hm := hI.rng _ (gt_mem hkl)
    have hl := homes_l2 hR hS hf (o := (bfs d k).1) (cm := (bfs d k).2.1) hkl
    have hlen := hI.len
    have n1 : inb ((bfs d k).2.2.drop k) 0 = true := inb_true (by omega) (by rw [List.length_drop]; omega)
    have e0 : gt ((bfs d k).2.2.drop k) 0 = gt (bfs d k).2.2 (k : Int) := gt_drop hkl
    have n2 : inb d.States (gt (bfs d k).2.2 (k : Int)) = true := inb_true hm.1 hm.2
    have hg : (((bfs d k).2.2.drop k).length : Int) > 0 := by rw [List.length_drop]; omega
    unfold m_alloc_Homes_l1
    simp only [hg, decide_true, if_true, n1, e0, n2, hl, bind_some']
    have hI2 := bfs_ok hR (mostR_ge d d.States.length) (k + 1)
    have hpre : k < (bfs d (k + 1)).2.2.length := by
      rw [bfs, if_pos hkl]
      obtain ⟨_, t, i2⟩ := efold_ok hI (cur := gt (bfs d k).2.2 (k : Int)) (gt_mem hkl) (l := curB d (bfs d k) k) (fun c hc => by
        have := hR.2.2.2.2.2.2.2 (gt (bfs d k).2.2 (k : Int)).toNat (by omega)
        rw [show (((gt (bfs d k).2.2 (k : Int)).toNat : Nat) : Int) = gt (bfs d k).2.2 (k : Int) by omega] at this
        exact this.2.2.2.2.2 c hc) (mostR_ge d d.States.length) _ (Nat.le_refl _)
      rw [i2, List.length_append]; omega
    have hso : slOk ((bfs d (k + 1)).2.2.drop k) 1 (((bfs d (k + 1)).2.2.drop k).length : Int) = true := by
      unfold slOk; simp; omega
    rw [if_pos hso]
    have : cutL ((bfs d (k + 1)).2.2.drop k) 1 (((bfs d (k + 1)).2.2.drop k).length : Int) = (bfs d (k + 1)).2.2.drop (k + 1) := by
      unfold cutL
      rw [List.drop_drop, List.take_of_length_le (by simp; omega)]; rfl
    rw [this]
  · unfold m_alloc_Homes_l1
    have : ¬ (((bfs d K).2.2.drop K).length : Int) > 0 := by rw [List.length_drop]; omega
    simp only [this, decide_false, Bool.false_eq_true, if_false]
theorem m_own {n : Int} (h0 : 0 ≤ n) (h1 : n ≤ 1000) {fuel : Nat} (hf : 3000 < fuel) : m_alloc_own fuel n = some (ownL n) := by
  obtain ⟨k, rfl⟩ : ∃ k : Nat, n = (k : Int) := ⟨n.toNat, by omega⟩
  have h := iter_end (body := m_alloc_own_l1 fuel (k : Int)) (fu := fuel) k (fun i => ((List.range i).map fun i : Nat => (i : Int), (i : Int))) (ownL (k : Int)) (fun i hi => by
    have hd : (i : Int) < (k : Int) := by omega
    unfold m_alloc_own_l1
    simp only [hd, decide_true, if_true, W_succ (show i < 9223372036854775807 by omega)]
    rw [if_pos (apOk_true (by simp; omega)), List.range_succ, List.map_append]; rfl) (by unfold m_alloc_own_l1; simp [ownL]) (by omega)
  unfold m_alloc_own
  have h0' : iter (m_alloc_own_l1 fuel (k : Int)) fuel (([] : List Int), 0) = some (ownL (k : Int)) := h
  rw [h0']; rfl
def mixL (d : MDfa) (i : Nat) : List (List Int) := (List.range d.States.length).map fun j => if j < i then homeAt d (bfs d d.States.length) j else gt (bfs d d.States.length).1 (j : Int)
theorem mix_gt {d : MDfa} {i j : Nat} (h : j < d.States.length) : gt (mixL d i) (j : Int) = if j < i then homeAt d (bfs d d.States.length) j else gt (bfs d d.States.length).1 (j : Int) := by
  rw [gtE (by simp [mixL, h])]; simp [mixL]
theorem mix_succ {d : MDfa} {i : Nat} (h : i < d.States.length) : (mixL d i).set i (homeAt d (bfs d d.States.length) i) = mixL d (i + 1) := by
  refine List.ext_getElem (by simp [mixL]) (fun j h1 h2 => ?_)
  have hj : j < d.States.length := by simpa [mixL] using h2
  rw [List.getElem_set]
  by_cases e : i = j
  · subst e; simp [mixL]
  · rw [if_neg e]; simp only [mixL, List.getElem_map, List.getElem_range]
    by_cases c : j < i
    · rw [if_pos c, if_pos (by omega)]
    · rw [if_neg c, if_neg (by omega)]
theorem homes_l3 {d : MDfa} (hR : RightD d) (hS : SmallD d) {fuel : Nat} (hf : 3000 < fuel) :
    iter (m_alloc_Homes_l3 fuel (bfs d d.States.length).1 (bfs d d.States.length).2.1 d) fuel ((bfs d d.States.length).1, 0, 0) = some (homesL d, manyL d) := by
  have hI := bfs_ok hR (mostR_ge d d.States.length) d.States.length
  have hn := hS.1
  have hB400 : ∀ i : Nat, i < d.States.length → (gt d.States (i : Int)).Regs ≤ 400 := fun i hi => (hS.2.2 i hi).2.2.1
  have hm400 : mostR d d.States.length ≤ 400 := mostR_le (by omega) _ hB400
  have e0 : (bfs d d.States.length).1 = mixL d 0 := by
    refine List.ext_getElem (by simp [mixL, hI.l1]) (fun j h1 h2 => ?_)
    simp only [mixL, List.getElem_map, List.getElem_range, Nat.not_lt_zero, if_false]
    rw [gtE h1]
  have e1 : homesL d = mixL d d.States.length := by
    unfold homesL mixL
    refine List.map_congr_left (fun j hj => ?_)
    rw [if_pos (List.mem_range.1 hj)]
  have h := iter_end (body := m_alloc_Homes_l3 fuel (bfs d d.States.length).1 (bfs d d.States.length).2.1 d) (fu := fuel) d.States.length (fun i => (mixL d i, manyN (homeAt d (bfs d d.States.length)) i, (i : Int))) (homesL d, manyL d) (fun i hi => by
    have hin : inb d.States (i : Int) = true := inb_true (by omega) (by omega)
    have hd : (i : Int) < (d.States.length : Int) := by omega
    have hin2 : inb (bfs d d.States.length).2.1 (i : Int) = true := inb_true (by omega) (by rw [hI.l2]; omega)
    have hin3 : ∀ q, inb (mixL d q) (i : Int) = true := fun q => inb_true (by omega) (by simp [mixL]; omega)
    have hh := home_ok hR hi
    have hR0 := (hR.2.2.2.2.2.2.2 i hi).1
    have hR4 := hB400 i hi
    have hset : (if (!(gt (bfs d d.States.length).2.1 (i : Int))) = true then Option.bind (m_alloc_own fuel ((gt d.States (i : Int)).Regs)) fun x18 => if inb (mixL d i) (i : Int) = true then some ((mixL d i).set (Int.toNat (i : Int)) x18) else none else some (mixL d i)) = some (mixL d (i + 1)) := by
      rw [← mix_succ hi]
      cases c : gt (bfs d d.States.length).2.1 (i : Int) with
      | false =>
        have : homeAt d (bfs d d.States.length) i = ownL (gt d.States (i : Int)).Regs := by unfold homeAt; rw [if_neg (by rw [c]; decide)]; rfl
        simp only [Bool.not_false, if_true, m_own hR0 (by omega) hf, bind_some', hin3, this, Int.toNat_natCast]
      | true =>
        have : homeAt d (bfs d d.States.length) i = gt (mixL d i) (i : Int) := by
          rw [mix_gt hi, if_neg (by omega)]; unfold homeAt; rw [if_pos c]
        have hl : i < (mixL d i).length := by simp [mixL, hi]
        rw [this, gtE hl, List.set_getElem_self]; rfl
    have hg : gt (mixL d (i + 1)) (i : Int) = homeAt d (bfs d d.States.length) i := by rw [mix_gt hi, if_pos (by omega)]
    have h4 := iter_end (body := m_alloc_Homes_l4 fuel d (i : Int) (mixL d (i + 1)) (bfs d d.States.length).2.1 (manyN (homeAt d (bfs d d.States.length)) i)) (fu := fuel) (homeAt d (bfs d d.States.length) i).length (fun k => (mxL (homeAt d (bfs d d.States.length) i) (manyN (homeAt d (bfs d d.States.length)) i) k, (k : Int))) (manyN (homeAt d (bfs d d.States.length)) (i + 1)) (fun k hk => by
      have hin5 : inb (homeAt d (bfs d d.States.length) i) (k : Int) = true := inb_true (by omega) (by omega)
      have hd5 : (k : Int) < ((homeAt d (bfs d d.States.length) i).length : Int) := by omega
      have hr := hh.rng k hk
      have hl := hh.len
      unfold m_alloc_Homes_l4
      have hrg : regsOf d i = (gt d.States (i : Int)).Regs := rfl
      simp only [hg, hd5, decide_true, if_true, hin5, W_succ (show k < 9223372036854775807 by omega), W_i hr.1 (by omega)]
      rfl) (by unfold m_alloc_Homes_l4; simp only [hg]; simp; rfl) (by have hrg : regsOf d i = (gt d.States (i : Int)).Regs := rfl; have hl := hh.len; omega)
    unfold m_alloc_Homes_l3
    simp only [hd, decide_true, if_true, hin, hin2]
    rw [hset]
    simp only [bind_some', if_true, hin3, W_succ (show i < 9223372036854775807 by omega)]
    have h4' : iter (m_alloc_Homes_l4 fuel d (i : Int) (mixL d (i + 1)) (bfs d d.States.length).2.1 (manyN (homeAt d (bfs d d.States.length)) i)) fuel (manyN (homeAt d (bfs d d.States.length)) i, 0) = _ := h4
    rw [h4']; rfl) (by unfold m_alloc_Homes_l3; simp [e1, manyL]) (by omega)
  rw [← e0] at h
  exact h
open Classical in
theorem m_allocHomes {d : MDfa} (hS : SmallD d) {fuel : Nat} (hf : 3000 < fuel) : m_alloc_Homes fuel d = some (if RightD d then (homesL d, manyL d) else ([], 0)) := by
  unfold m_alloc_Homes
  rw [m_right24 hS (by omega)]
  by_cases hR : RightD d
  · have hn := hS.1
    have h1 : 1 ≤ d.States.length := hR.2.2.2.1
    have k1 : mkOk 24 (d.States.length : Int) = true := by unfold mkOk; simp; omega
    have k2 : mkOk 1 (d.States.length : Int) = true := by unfold mkOk; simp; omega
    have k3 : inb (List.replicate (Int.toNat (d.States.length : Int)) false) 0 = true := inb_true (by omega) (by simp; omega)
    have l1 := homes_l1 hR hS hf
    have e0 : (bfs d 0).1 = List.replicate (Int.toNat (d.States.length : Int)) ([] : List Int) := by simp [bfs]
    have e1 : (bfs d 0).2.1 = (List.replicate (Int.toNat (d.States.length : Int)) false).set (Int.toNat 0) true := by simp [bfs]
    have e2 : (bfs d 0).2.2 = [0] := rfl
    rw [e0, e1, e2] at l1
    have hne : nonE (homesL d) = true := by
      unfold nonE
      cases c : homesL d with
      | nil => have := homesL_len d; rw [c] at this; simp at this; omega
      | cons a l => rfl
    simp only [hR, decide_true, Bool.not_true, Bool.false_eq_true, if_false, bind_some', k1, k2, k3, if_true, l1, homes_l3 hR hS hf, hne]
  · simp [hR]
end Go.Proofs.Ytjkoiijpmiibpaa
