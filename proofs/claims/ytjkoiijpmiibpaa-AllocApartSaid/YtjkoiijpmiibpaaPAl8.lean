/- Homes of a machine: the program finds them. Its conditions: none. -/
import Derived.Test.YtjkoiijpmiibpaaPAl7
set_option autoImplicit false
namespace Go.Proofs.Ytjkoiijpmiibpaa
open Go.V Go.RowKit

theorem gt_drop {α : Type} [Inhabited α] {l : List α} {k : Nat} (h : k < l.length) : gt (l.drop k) 0 = gt l (k : Int) := by
  rw [show (0 : Int) = ((0 : Nat) : Int) from rfl, gtE (by rw [List.length_drop]; omega), gtE h, List.getElem_drop]; simp
theorem gt_pre {α : Type} [Inhabited α] {l t : List α} {k : Nat} (h : k < l.length) : gt (l ++ t) (k : Int) = gt l (k : Int) := by
  rw [gtE (by rw [List.length_append]; omega), gtE h, List.getElem_append_left h]
theorem W_i {n : Int} (h1 : 0 ≤ n) (h2 : n < 9223372036854775807) : W (n + 1) = n + 1 := W_id (by omega) (by omega)
/-- One state's edges. -/
theorem homes_l2 {d : MDfa} (hR : RightD d) (hS : SmallD d) {fuel k : Nat} (hf : 3000 < fuel) {o : List (List Int)} {cm : List Bool} (hk : k < (bfs d k).2.2.length) :
    iter (m_alloc_Homes_l2 fuel d o cm ((bfs d k).2.2.drop k)) fuel ((bfs d k).1, (bfs d k).2.1, (bfs d k).2.2.drop k, 0) = some ((bfs d (k + 1)).1, (bfs d (k + 1)).2.1, (bfs d (k + 1)).2.2.drop k) := by
  have hB400 : ∀ i : Nat, i < d.States.length → (gt d.States (i : Int)).Regs ≤ 400 := fun i hi => (hS.2.2 i hi).2.2.1
  have hI := bfs_ok hR hB400 k
  have e1 : bfs d (k + 1) = efold (curB d (bfs d k) k) (gt (bfs d k).2.2 (k : Int)) (bfs d k) (curB d (bfs d k) k).length := by rw [bfs, if_pos hk]
  rw [e1]
  have e0 : gt ((bfs d k).2.2.drop k) 0 = gt (bfs d k).2.2 (k : Int) := gt_drop hk
  have hcm := gt_mem hk
  have hlen := hI.len
  obtain ⟨s1, s2, s3⟩ := hS
  have hE : ∀ c : Nat, c < (curB d (bfs d k) k).length → EdgeOk d (gt (curB d (bfs d k) k) (c : Int)) (regsOf d (gt (bfs d k).2.2 (k : Int))) ∧ (gt (curB d (bfs d k) k) (c : Int)).Src.length ≤ 400 := fun c hc => by
    obtain ⟨r0, r1⟩ := hI.rng _ hcm
    have h1 := hR.2.2.2.2.2.2.2 (gt (bfs d k).2.2 (k : Int)).toNat (by omega)
    have h2 := s3 (gt (bfs d k).2.2 (k : Int)).toNat (by omega)
    rw [show (((gt (bfs d k).2.2 (k : Int)).toNat : Nat) : Int) = gt (bfs d k).2.2 (k : Int) by omega] at h1 h2
    exact ⟨h1.2.2.2.2.2 c hc, h2.2.2.2 c hc⟩
  have hEl : (curB d (bfs d k) k).length ≤ 300 := by
    obtain ⟨r0, r1⟩ := hI.rng _ hcm
    have h2 := s3 (gt (bfs d k).2.2 (k : Int)).toNat (by omega)
    rw [show (((gt (bfs d k).2.2 (k : Int)).toNat : Nat) : Int) = gt (bfs d k).2.2 (k : Int) by omega] at h2
    exact h2.2.1
  generalize hs : bfs d k = s at *
  generalize hcur : gt s.2.2 (k : Int) = cur at *
  have hcb : curB d s k = (gt d.States cur).Edges := by unfold curB; rw [hcur]
  rw [hcb] at hE hEl ⊢
  refine iter_end (body := m_alloc_Homes_l2 fuel d o cm (s.2.2.drop k)) (fu := fuel) (gt d.States cur).Edges.length (fun c => ((efold (gt d.States cur).Edges cur s c).1, (efold (gt d.States cur).Edges cur s c).2.1, (efold (gt d.States cur).Edges cur s c).2.2.drop k, (c : Int))) _ (fun c hc => ?_) ?_ (by omega)
  · obtain ⟨i1, t, i2⟩ := efold_ok hI hcm (fun c hc => (hE c hc).1) hB400 c (by omega)
    have hin : inb (gt d.States cur).Edges (c : Int) = true := inb_true (by omega) (by omega)
    have hd : (c : Int) < ((gt d.States cur).Edges.length : Int) := by omega
    obtain ⟨hx1, hx2⟩ := hE c hc
    show m_alloc_Homes_l2 fuel d o cm (s.2.2.drop k) _ = _
    unfold m_alloc_Homes_l2
    simp only [efold, e0]
    generalize efold (gt d.States cur).Edges cur s c = e at *
    generalize gt (gt d.States cur).Edges (c : Int) = x at *
    simp only [hd, decide_true, if_true, hin, W_succ (show c < 9223372036854775807 by omega)]
    by_cases c0 : x.To ≥ 0
    · obtain ⟨g1, g2, g3, g4⟩ := edge_home i1 (cur := cur) (by rw [i2]; exact List.mem_append_left _ hcm) hx1 c0 hB400
      have l1 := i1.l1
      have l2 := i1.l2
      have l3 := i1.len
      have n2 : inb e.2.1 x.To = true := inb_true c0 (by omega)
      have n1 : inb e.1 x.To = true := inb_true c0 (by omega)
      have hke : k < e.2.2.length := by rw [i2, List.length_append]; omega
      have hcur2 : gt (e.2.2.drop k) 0 = cur := by rw [gt_drop hke, i2, gt_pre hk, hcur]
      obtain ⟨r0, r1⟩ := i1.rng cur (by rw [i2]; exact List.mem_append_left _ hcm)
      have n3 : inb e.1 cur = true := inb_true r0 (by omega)
      have n4 : inb (e.2.2.drop k) 0 = true := inb_true (by omega) (by rw [List.length_drop]; omega)
      simp only [c0, decide_true, if_true, n2, bind_some']
      by_cases c1 : gt e.2.1 x.To = false
      · have hap : apOk 8 (e.2.2.drop k) [x.To] = true := apOk_true (by rw [List.length_drop]; simp; omega)
        have hg := m_giveL (fuel := fuel) (from_ := gt e.1 cur) (x := x) (by omega) (by omega) g2 (fun v hv => by have := g3 v hv; omega)
        have hest : est cur e x = (e.1.set x.To.toNat (giveL (gt e.1 cur) x.Src), e.2.1.set x.To.toNat true, e.2.2 ++ [x.To]) := by unfold est; rw [if_pos ⟨c0, c1⟩]
        simp only [c1, Bool.not_false, if_true, n2, n4, hcur2, n3, hg, bind_some', n1, hap, hest]
        rw [List.drop_append_of_le_length (by omega)]
      · have hest : est cur e x = e := by unfold est; rw [if_neg (fun h => c1 h.2)]
        have c1' : gt e.2.1 x.To = true := by simpa using c1
        simp only [c1', Bool.not_true, Bool.false_eq_true, if_false, bind_some', hest]
    · have hest : est cur e x = e := by unfold est; rw [if_neg (fun h => c0 h.1)]
      simp only [c0, decide_false, Bool.false_eq_true, if_false, bind_some', hest]
  · show m_alloc_Homes_l2 fuel d o cm (s.2.2.drop k) _ = _
    unfold m_alloc_Homes_l2
    simp [e0]
theorem homes_l1 {d : MDfa} (hR : RightD d) (hS : SmallD d) {fuel : Nat} (hf : 3000 < fuel) :
    iter (m_alloc_Homes_l1 fuel d) fuel ((bfs d 0).1, (bfs d 0).2.1, (bfs d 0).2.2) = some ((bfs d d.States.length).1, (bfs d d.States.length).2.1) := by
  obtain ⟨K, h1, h2, h3, h4⟩ := bfs_end hR
  rw [h3]
  have hn := hS.1
  refine iter_end (body := m_alloc_Homes_l1 fuel d) (fu := fuel) K (fun k => ((bfs d k).1, (bfs d k).2.1, (bfs d k).2.2.drop k)) _ (fun k hk => ?_) ?_ (by omega)
  · have hkl := h4 k hk
    have hI := bfs_ok hR (mostR_ge d d.States.length) k
    have hm := hI.rng _ (gt_mem hkl)
    have hl := homes_l2 hR hS hf (o := (bfs d k).1) (cm := (bfs d k).2.1) hkl
    have hlen := hI.len
    have n1 : inb ((bfs d k).2.2.drop k) 0 = true := inb_true (by omega) (by rw [List.length_drop]; omega)
    have e0 : gt ((bfs d k).2.2.drop k) 0 = gt (bfs d k).2.2 (k : Int) := gt_drop hkl
    have n2 : inb d.States (gt (bfs d k).2.2 (k : Int)) = true := inb_true hm.1 hm.2
    have hg : (((bfs d k).2.2.drop k).length : Int) > 0 := by rw [List.length_drop]; omega
    unfold m_alloc_Homes_l1
    simp only [hg, decide_true, if_true, n1, e0, n2, hl, bind_some']
    have hI2 := bfs_ok hR (mostR_ge d d.States.length) (k + 1)
    have hpre : k < (bfs d (k + 1)).2.2.length := by
      rw [bfs, if_pos hkl]
      obtain ⟨_, t, i2⟩ := efold_ok hI (cur := gt (bfs d k).2.2 (k : Int)) (gt_mem hkl) (l := curB d (bfs d k) k) (fun c hc => by
        have := hR.2.2.2.2.2.2.2 (gt (bfs d k).2.2 (k : Int)).toNat (by omega)
        rw [show (((gt (bfs d k).2.2 (k : Int)).toNat : Nat) : Int) = gt (bfs d k).2.2 (k : Int) by omega] at this
        exact this.2.2.2.2.2 c hc) (mostR_ge d d.States.length) _ (Nat.le_refl _)
      rw [i2, List.length_append]; omega
    have hso : slOk ((bfs d (k + 1)).2.2.drop k) 1 (((bfs d (k + 1)).2.2.drop k).length : Int) = true := by
      unfold slOk; simp; omega
    rw [if_pos hso]
    have : cutL ((bfs d (k + 1)).2.2.drop k) 1 (((bfs d (k + 1)).2.2.drop k).length : Int) = (bfs d (k + 1)).2.2.drop (k + 1) := by
      unfold cutL
      rw [List.drop_drop, List.take_of_length_le (by simp; omega)]; rfl
    rw [this]
  · unfold m_alloc_Homes_l1
    have : ¬ (((bfs d K).2.2.drop K).length : Int) > 0 := by rw [List.length_drop]; omega
    simp only [this, decide_false, Bool.false_eq_true, if_false]
theorem m_own {n : Int} (h0 : 0 ≤ n) (h1 : n ≤ 1000) {fuel : Nat} (hf : 3000 < fuel) : m_alloc_own fuel n = some (ownL n) := by
  obtain ⟨k, rfl⟩ : ∃ k : Nat, n = (k : Int) := ⟨n.toNat, by omega⟩
  have h := iter_end (body := m_alloc_own_l1 fuel (k : Int)) (fu := fuel) k (fun i => ((List.range i).map fun i : Nat => (i : Int), (i : Int))) (ownL (k : Int)) (fun i hi => by
    have hd : (i : Int) < (k : Int) := by omega
    unfold m_alloc_own_l1
    simp only [hd, decide_true, if_true, W_succ (show i < 9223372036854775807 by omega)]
    rw [if_pos (apOk_true (by simp; omega)), List.range_succ, List.map_append]; rfl) (by unfold m_alloc_own_l1; simp [ownL]) (by omega)
  unfold m_alloc_own
  have h0' : iter (m_alloc_own_l1 fuel (k : Int)) fuel (([] : List Int), 0) = some (ownL (k : Int)) := h
  rw [h0']; rfl
def mixL (d : MDfa) (i : Nat) : List (List Int) := (List.range d.States.length).map fun j => if j < i then homeAt d (bfs d d.States.length) j else gt (bfs d d.States.length).1 (j : Int)
theorem mix_gt {d : MDfa} {i j : Nat} (h : j < d.States.length) : gt (mixL d i) (j : Int) = if j < i then homeAt d (bfs d d.States.length) j else gt (bfs d d.States.length).1 (j : Int) := by
  rw [gtE (by simp [mixL, h])]; simp [mixL]
theorem mix_succ {d : MDfa} {i : Nat} (h : i < d.States.length) : (mixL d i).set i (homeAt d (bfs d d.States.length) i) = mixL d (i + 1) := by
  refine List.ext_getElem (by simp [mixL]) (fun j h1 h2 => ?_)
  have hj : j < d.States.length := by simpa [mixL] using h2
  rw [List.getElem_set]
  by_cases e : i = j
  · subst e; simp [mixL]
  · rw [if_neg e]; simp only [mixL, List.getElem_map, List.getElem_range]
    by_cases c : j < i
    · rw [if_pos c, if_pos (by omega)]
    · rw [if_neg c, if_neg (by omega)]
theorem homes_l3 {d : MDfa} (hR : RightD d) (hS : SmallD d) {fuel : Nat} (hf : 3000 < fuel) :
    iter (m_alloc_Homes_l3 fuel (bfs d d.States.length).1 (bfs d d.States.length).2.1 d) fuel ((bfs d d.States.length).1, 0, 0) = some (homesL d, manyL d) := by
  have hI := bfs_ok hR (mostR_ge d d.States.length) d.States.length
  have hn := hS.1
  have hB400 : ∀ i : Nat, i < d.States.length → (gt d.States (i : Int)).Regs ≤ 400 := fun i hi => (hS.2.2 i hi).2.2.1
  have hm400 : mostR d d.States.length ≤ 400 := mostR_le (by omega) _ hB400
  have e0 : (bfs d d.States.length).1 = mixL d 0 := by
    refine List.ext_getElem (by simp [mixL, hI.l1]) (fun j h1 h2 => ?_)
    simp only [mixL, List.getElem_map, List.getElem_range, Nat.not_lt_zero, if_false]
    rw [gtE h1]
  have e1 : homesL d = mixL d d.States.length := by
    unfold homesL mixL
    refine List.map_congr_left (fun j hj => ?_)
    rw [if_pos (List.mem_range.1 hj)]
  have h := iter_end (body := m_alloc_Homes_l3 fuel (bfs d d.States.length).1 (bfs d d.States.length).2.1 d) (fu := fuel) d.States.length (fun i => (mixL d i, manyN (homeAt d (bfs d d.States.length)) i, (i : Int))) (homesL d, manyL d) (fun i hi => by
    have hin : inb d.States (i : Int) = true := inb_true (by omega) (by omega)
    have hd : (i : Int) < (d.States.length : Int) := by omega
    have hin2 : inb (bfs d d.States.length).2.1 (i : Int) = true := inb_true (by omega) (by rw [hI.l2]; omega)
    have hin3 : ∀ q, inb (mixL d q) (i : Int) = true := fun q => inb_true (by omega) (by simp [mixL]; omega)
    have hh := home_ok hR hi
    have hR0 := (hR.2.2.2.2.2.2.2 i hi).1
    have hR4 := hB400 i hi
    have hset : (if (!(gt (bfs d d.States.length).2.1 (i : Int))) = true then Option.bind (m_alloc_own fuel ((gt d.States (i : Int)).Regs)) fun x18 => if inb (mixL d i) (i : Int) = true then some ((mixL d i).set (Int.toNat (i : Int)) x18) else none else some (mixL d i)) = some (mixL d (i + 1)) := by
      rw [← mix_succ hi]
      cases c : gt (bfs d d.States.length).2.1 (i : Int) with
      | false =>
        have : homeAt d (bfs d d.States.length) i = ownL (gt d.States (i : Int)).Regs := by unfold homeAt; rw [if_neg (by rw [c]; decide)]; rfl
        simp only [Bool.not_false, if_true, m_own hR0 (by omega) hf, bind_some', hin3, this, Int.toNat_natCast]
      | true =>
        have : homeAt d (bfs d d.States.length) i = gt (mixL d i) (i : Int) := by
          rw [mix_gt hi, if_neg (by omega)]; unfold homeAt; rw [if_pos c]
        have hl : i < (mixL d i).length := by simp [mixL, hi]
        rw [this, gtE hl, List.set_getElem_self]; rfl
    have hg : gt (mixL d (i + 1)) (i : Int) = homeAt d (bfs d d.States.length) i := by rw [mix_gt hi, if_pos (by omega)]
    have h4 := iter_end (body := m_alloc_Homes_l4 fuel d (i : Int) (mixL d (i + 1)) (bfs d d.States.length).2.1 (manyN (homeAt d (bfs d d.States.length)) i)) (fu := fuel) (homeAt d (bfs d d.States.length) i).length (fun k => (mxL (homeAt d (bfs d d.States.length) i) (manyN (homeAt d (bfs d d.States.length)) i) k, (k : Int))) (manyN (homeAt d (bfs d d.States.length)) (i + 1)) (fun k hk => by
      have hin5 : inb (homeAt d (bfs d d.States.length) i) (k : Int) = true := inb_true (by omega) (by omega)
      have hd5 : (k : Int) < ((homeAt d (bfs d d.States.length) i).length : Int) := by omega
      have hr := hh.rng k hk
      have hl := hh.len
      unfold m_alloc_Homes_l4
      have hrg : regsOf d i = (gt d.States (i : Int)).Regs := rfl
      simp only [hg, hd5, decide_true, if_true, hin5, W_succ (show k < 9223372036854775807 by omega), W_i hr.1 (by omega)]
      rfl) (by unfold m_alloc_Homes_l4; simp only [hg]; simp; rfl) (by have hrg : regsOf d i = (gt d.States (i : Int)).Regs := rfl; have hl := hh.len; omega)
    unfold m_alloc_Homes_l3
    simp only [hd, decide_true, if_true, hin, hin2]
    rw [hset]
    simp only [bind_some', if_true, hin3, W_succ (show i < 9223372036854775807 by omega)]
    have h4' : iter (m_alloc_Homes_l4 fuel d (i : Int) (mixL d (i + 1)) (bfs d d.States.length).2.1 (manyN (homeAt d (bfs d d.States.length)) i)) fuel (manyN (homeAt d (bfs d d.States.length)) i, 0) = _ := h4
    rw [h4']; rfl) (by unfold m_alloc_Homes_l3; simp [e1, manyL]) (by omega)
  rw [← e0] at h
  exact h
open Classical in
theorem m_allocHomes {d : MDfa} (hS : SmallD d) {fuel : Nat} (hf : 3000 < fuel) : m_alloc_Homes fuel d = some (if RightD d then (homesL d, manyL d) else ([], 0)) := by
  unfold m_alloc_Homes
  rw [m_right24 hS (by omega)]
  by_cases hR : RightD d
  · have hn := hS.1
    have h1 : 1 ≤ d.States.length := hR.2.2.2.1
    have k1 : mkOk 24 (d.States.length : Int) = true := by unfold mkOk; simp; omega
    have k2 : mkOk 1 (d.States.length : Int) = true := by unfold mkOk; simp; omega
    have k3 : inb (List.replicate (Int.toNat (d.States.length : Int)) false) 0 = true := inb_true (by omega) (by simp; omega)
    have l1 := homes_l1 hR hS hf
    have e0 : (bfs d 0).1 = List.replicate (Int.toNat (d.States.length : Int)) ([] : List Int) := by simp [bfs]
    have e1 : (bfs d 0).2.1 = (List.replicate (Int.toNat (d.States.length : Int)) false).set (Int.toNat 0) true := by simp [bfs]
    have e2 : (bfs d 0).2.2 = [0] := rfl
    rw [e0, e1, e2] at l1
    have hne : nonE (homesL d) = true := by
      unfold nonE
      cases c : homesL d with
      | nil => have := homesL_len d; rw [c] at this; simp at this; omega
      | cons a l => rfl
    simp only [hR, decide_true, Bool.not_true, Bool.false_eq_true, if_false, bind_some', k1, k2, k3, if_true, l1, homes_l3 hR hS hf, hne]
  · simp [hR]
end Go.Proofs.Ytjkoiijpmiibpaa
