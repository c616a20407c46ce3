/- The document's homes of a machine are the program's. Its conditions: none. -/
import Derived.Test.YtjkoiijpmiibpaaPAl7
set_option autoImplicit false
namespace Go.Proofs.Ytjkoiijpmiibpaa
open Go.V Go.RowKit

theorem m_taken28 {fuel : Nat} {l : List Int} {n : Int} (hl : l.length ≤ 1000) (hf : 2000 < fuel) : m_ref28_taken fuel l n = some (decide (n ∈ l)) := by
  unfold m_ref28_taken
  rcases first_bad (fun i => gt l (i : Int) = n) l.length with h | ⟨i, hi, hp, hq⟩
  · rw [iter_endI (body := m_ref28_taken_l1 fuel l n) l.length (.inl ()) (fun i hi => by
      have hin : inb l (i : Int) = true := inb_true (by omega) (by omega)
      have hd : (i : Int) < (l.length : Int) := by omega
      have hne : (gt l (i : Int) == n) = false := by simpa using h i hi
      unfold m_ref28_taken_l1
      simp only [hd, decide_true, if_true, hin, hne, Bool.false_eq_true, if_false, W_succ (show i < 9223372036854775807 by omega)]) (by unfold m_ref28_taken_l1; simp) (by omega)]
    have : n ∉ l := fun hm => by
      obtain ⟨i, hi, e⟩ := mem_gt hm
      exact h i hi e
    simp [this]
  · rw [iter_endI (body := m_ref28_taken_l1 fuel l n) i (.inr true) (fun j hj => by
      have hin : inb l (j : Int) = true := inb_true (by omega) (by omega)
      have hd : (j : Int) < (l.length : Int) := by omega
      have hne : (gt l (j : Int) == n) = false := by simpa using hq j hj
      unfold m_ref28_taken_l1
      simp only [hd, decide_true, if_true, hin, hne, Bool.false_eq_true, if_false, W_succ (show j < 9223372036854775807 by omega)]) (by
      have hin : inb l (i : Int) = true := inb_true (by omega) (by omega)
      have hd : (i : Int) < (l.length : Int) := by omega
      unfold m_ref28_taken_l1
      simp [hd, hin, hp]) (by omega)]
    have : n ∈ l := hp ▸ gt_mem hi
    simp [this]
theorem m_give28 {fuel : Nat} {from_ : List Int} {x : MEdge} (hf : 3000 < fuel) (hl : x.Src.length ≤ 1000) (hsrc : ∀ i, i < x.Src.length → gt x.Src (i : Int) < from_.length) (hfr : ∀ v ∈ from_, 0 ≤ v) : m_ref28_give fuel from_ x = some (giveL from_ x.Src) := by
  unfold m_ref28_give
  have h1 := iter_end (body := m_ref28_give_l1 fuel from_ x) (fu := fuel) x.Src.length (fun i => (List.replicate i (-1 : Int), (i : Int))) (List.replicate x.Src.length (-1)) (fun i hi => by
    have hd : (i : Int) < (x.Src.length : Int) := by omega
    have hap : apOk 8 (List.replicate i (-1 : Int)) [(-1)] = true := apOk_true (by simp; omega)
    unfold m_ref28_give_l1
    simp only [hd, decide_true, if_true, hap, W_succ (show i < 9223372036854775807 by omega)]
    rw [← List.replicate_succ']) (by unfold m_ref28_give_l1; simp) (by omega)
  have h1' : iter (m_ref28_give_l1 fuel from_ x) fuel (([] : List Int), 0) = some (List.replicate x.Src.length (-1)) := h1
  have h2 := iter_end (body := m_ref28_give_l2 fuel from_ x (List.replicate x.Src.length (-1))) (fu := fuel) x.Src.length (fun i => (gv1 from_ x.Src i, (i : Int))) (gv1 from_ x.Src x.Src.length) (fun i hi => by
    have hin : inb x.Src (i : Int) = true := inb_true (by omega) (by omega)
    have hd : (i : Int) < (x.Src.length : Int) := by omega
    have hlen := gv1_len from_ x.Src i
    have hin3 : inb (gv1 from_ x.Src i) (i : Int) = true := inb_true (by omega) (by omega)
    unfold m_ref28_give_l2
    simp only [hd, decide_true, if_true, hin, W_succ (show i < 9223372036854775807 by omega)]
    by_cases c : gt x.Src (i : Int) ≥ 0
    · have hin2 : inb from_ (gt x.Src (i : Int)) = true := inb_true c (hsrc i hi)
      simp only [c, decide_true, if_true, hin2, m_taken28 (show (gv1 from_ x.Src i).length ≤ 1000 by omega) (show 2000 < fuel by omega), bind_some']
      by_cases c2 : gt from_ (gt x.Src (i : Int)) ∈ gv1 from_ x.Src i
      · have : gv1 from_ x.Src (i + 1) = gv1 from_ x.Src i := by rw [gv1, if_neg (fun h => h.2 c2)]
        simp [c2, this]
      · have : gv1 from_ x.Src (i + 1) = (gv1 from_ x.Src i).set i (gt from_ (gt x.Src (i : Int))) := by rw [gv1, if_pos ⟨c, c2⟩]
        simp [c2, this, hin3]
    · have : gv1 from_ x.Src (i + 1) = gv1 from_ x.Src i := by rw [gv1, if_neg (fun h => c h.1)]
      simp only [c, decide_false, bind_some', Bool.false_eq_true, if_false, this]) (by unfold m_ref28_give_l2; simp) (by omega)
  have h2' : iter (m_ref28_give_l2 fuel from_ x (List.replicate x.Src.length (-1))) fuel (List.replicate x.Src.length (-1), 0) = some (gv1 from_ x.Src x.Src.length) := h2
  have hy := gv1_len from_ x.Src x.Src.length
  generalize hgy : gv1 from_ x.Src x.Src.length = y at *
  have h3 := iter_end (body := m_ref28_give_l3 fuel y) (fu := fuel) x.Src.length (fun i => (gv2 y i, (i : Int))) (gv2 y x.Src.length) (fun i hi => by
    have hlen := gv2_len y i
    have hd : (i : Int) < ((gv2 y i).length : Int) := by omega
    have hin : inb (gv2 y i) (i : Int) = true := inb_true (by omega) (by omega)
    unfold m_ref28_give_l3
    simp only [hd, decide_true, if_true, W_succ (show i < 9223372036854775807 by omega)]
    have h4 : iter (m_ref28_give_l4 fuel (gv2 y i) (i : Int)) fuel (gv2 y i, 0) = some (gv2 y (i + 1)) := by
      generalize hga : gv2 y i = a at *
      by_cases c : gt a (i : Int) < 0
      · have e : gv2 y (i + 1) = a.set i (lfree a) := by rw [gv2, hga, if_pos c]
        obtain ⟨s1, s2, s3⟩ := lfree_spec a
        rw [e]
        have h5 := iter_end (body := m_ref28_give_l4 fuel a (i : Int)) (fu := fuel) (lfree a + 1) (fun q => (if q ≤ lfree a then a else a.set i (lfree a), (q : Int))) (a.set i (lfree a)) (fun q hq => by
          have hq2 : q ≤ lfree a := by omega
          unfold m_ref28_give_l4
          simp only [hq2, if_true, hin, c, decide_true, m_taken28 (show a.length ≤ 1000 by omega) (show 2000 < fuel by omega), bind_some', W_succ (show q < 9223372036854775807 by omega)]
          by_cases c2 : q = lfree a
          · subst c2
            simp [s1, show ¬ (lfree a + 1 ≤ lfree a) by omega]
          · have := s3 q (by omega)
            have c3 : q + 1 ≤ lfree a := by omega
            simp [this, c3]) (by
          have hin2 : inb (a.set i (lfree a : Int)) (i : Int) = true := inb_true (by omega) (by simp; omega)
          have hg : gt (a.set i (lfree a : Int)) (i : Int) = (lfree a : Int) := by rw [gt_setG (by omega) (by omega) (by omega), if_pos rfl]
          unfold m_ref28_give_l4
          have c3 : ¬ lfree a + 1 ≤ lfree a := by omega
          have c4 : ¬ ((lfree a : Int) < 0) := by omega
          simp only [c3, if_false, hin2, if_true, hg, c4, decide_false, Bool.false_eq_true]) (by omega)
        simpa using h5
      · have e : gv2 y (i + 1) = a := by rw [gv2, hga, if_neg c]
        rw [e]
        exact iter_end (body := m_ref28_give_l4 fuel a (i : Int)) (fu := fuel) 0 (fun q => (a, (q : Int))) a (fun q hq => by omega) (by unfold m_ref28_give_l4; simp [hin, c]) (by omega)
    rw [h4]; rfl) (by unfold m_ref28_give_l3; simp [gv2_len, hy]) (by omega)
  have h3' : iter (m_ref28_give_l3 fuel y) fuel (y, 0) = some (gv2 y x.Src.length) := h3
  simp only [h1', h2', h3', bind_some']
  unfold giveL
  rw [hgy]
/-- One state's edges. -/
theorem homes28_l2 {d : MDfa} (hR : RightD d) (hS : SmallD d) {fuel k : Nat} (hf : 3000 < fuel) {o : List (List Int)} {cm : List Bool} (hk : k < (bfs d k).2.2.length) :
    iter (m_ref28_Homes_l2 fuel d o cm (bfs d k).2.2 (k : Int)) fuel ((bfs d k).1, (bfs d k).2.1, (bfs d k).2.2, 0) = some ((bfs d (k + 1)).1, (bfs d (k + 1)).2.1, (bfs d (k + 1)).2.2) := by
  have hB400 : ∀ i : Nat, i < d.States.length → (gt d.States (i : Int)).Regs ≤ 400 := fun i hi => (hS.2.2 i hi).2.2.1
  have hI := bfs_ok hR hB400 k
  have e1 : bfs d (k + 1) = efold (curB d (bfs d k) k) (gt (bfs d k).2.2 (k : Int)) (bfs d k) (curB d (bfs d k) k).length := by rw [bfs, if_pos hk]
  rw [e1]
  have hcm := gt_mem hk
  have hlen := hI.len
  obtain ⟨s1, s2, s3⟩ := hS
  have hE : ∀ c : Nat, c < (curB d (bfs d k) k).length → EdgeOk d (gt (curB d (bfs d k) k) (c : Int)) (regsOf d (gt (bfs d k).2.2 (k : Int))) ∧ (gt (curB d (bfs d k) k) (c : Int)).Src.length ≤ 400 := fun c hc => by
    obtain ⟨r0, r1⟩ := hI.rng _ hcm
    have h1 := hR.2.2.2.2.2.2.2 (gt (bfs d k).2.2 (k : Int)).toNat (by omega)
    have h2 := s3 (gt (bfs d k).2.2 (k : Int)).toNat (by omega)
    rw [show (((gt (bfs d k).2.2 (k : Int)).toNat : Nat) : Int) = gt (bfs d k).2.2 (k : Int) by omega] at h1 h2
    exact ⟨h1.2.2.2.2.2 c hc, h2.2.2.2 c hc⟩
  have hEl : (curB d (bfs d k) k).length ≤ 300 := by
    obtain ⟨r0, r1⟩ := hI.rng _ hcm
    have h2 := s3 (gt (bfs d k).2.2 (k : Int)).toNat (by omega)
    rw [show (((gt (bfs d k).2.2 (k : Int)).toNat : Nat) : Int) = gt (bfs d k).2.2 (k : Int) by omega] at h2
    exact h2.2.1
  generalize hs : bfs d k = s at *
  generalize hcur : gt s.2.2 (k : Int) = cur at *
  have hcb : curB d s k = (gt d.States cur).Edges := by unfold curB; rw [hcur]
  rw [hcb] at hE hEl ⊢
  refine iter_end (body := m_ref28_Homes_l2 fuel d o cm s.2.2 (k : Int)) (fu := fuel) (gt d.States cur).Edges.length (fun c => ((efold (gt d.States cur).Edges cur s c).1, (efold (gt d.States cur).Edges cur s c).2.1, (efold (gt d.States cur).Edges cur s c).2.2, (c : Int))) _ (fun c hc => ?_) ?_ (by omega)
  · obtain ⟨i1, t, i2⟩ := efold_ok hI hcm (fun c hc => (hE c hc).1) hB400 c (by omega)
    have hin : inb (gt d.States cur).Edges (c : Int) = true := inb_true (by omega) (by omega)
    have hd : (c : Int) < ((gt d.States cur).Edges.length : Int) := by omega
    obtain ⟨hx1, hx2⟩ := hE c hc
    show m_ref28_Homes_l2 fuel d o cm s.2.2 (k : Int) _ = _
    unfold m_ref28_Homes_l2
    simp only [efold, hcur]
    generalize efold (gt d.States cur).Edges cur s c = e at *
    generalize gt (gt d.States cur).Edges (c : Int) = x at *
    simp only [hd, decide_true, if_true, hin, W_succ (show c < 9223372036854775807 by omega)]
    by_cases c0 : x.To ≥ 0
    · obtain ⟨g1, g2, g3, g4⟩ := edge_home i1 (cur := cur) (by rw [i2]; exact List.mem_append_left _ hcm) hx1 c0 hB400
      have l1 := i1.l1
      have l2 := i1.l2
      have l3 := i1.len
      have n2 : inb e.2.1 x.To = true := inb_true c0 (by omega)
      have n1 : inb e.1 x.To = true := inb_true c0 (by omega)
      have hke : k < e.2.2.length := by rw [i2, List.length_append]; omega
      have hcur2 : gt e.2.2 (k : Int) = cur := by rw [i2, gt_pre hk, hcur]
      obtain ⟨r0, r1⟩ := i1.rng cur (by rw [i2]; exact List.mem_append_left _ hcm)
      have n3 : inb e.1 cur = true := inb_true r0 (by omega)
      have n4 : inb e.2.2 (k : Int) = true := inb_true (by omega) (by omega)
      simp only [c0, decide_true, if_true, n2, bind_some']
      by_cases c1 : gt e.2.1 x.To = false
      · have hap : apOk 8 e.2.2 [x.To] = true := apOk_true (by simp; omega)
        have hg := m_give28 (fuel := fuel) (from_ := gt e.1 cur) (x := x) (by omega) (by omega) g2 (fun v hv => (g3 v hv).1)
        have hest : est cur e x = (e.1.set x.To.toNat (giveL (gt e.1 cur) x.Src), e.2.1.set x.To.toNat true, e.2.2 ++ [x.To]) := by unfold est; rw [if_pos ⟨c0, c1⟩]
        simp only [c1, Bool.not_false, if_true, n2, n4, hcur2, n3, hg, bind_some', n1, hap, hest]
      · have hest : est cur e x = e := by unfold est; rw [if_neg (fun h => c1 h.2)]
        have c1' : gt e.2.1 x.To = true := by simpa using c1
        simp only [c1', Bool.not_true, Bool.false_eq_true, if_false, bind_some', hest]
    · have hest : est cur e x = e := by unfold est; rw [if_neg (fun h => c0 h.1)]
      simp only [c0, decide_false, Bool.false_eq_true, if_false, bind_some', hest]
  · show m_ref28_Homes_l2 fuel d o cm s.2.2 (k : Int) _ = _
    unfold m_ref28_Homes_l2
    simp [hcur]
theorem homes28_l1 {d : MDfa} (hR : RightD d) (hS : SmallD d) {fuel : Nat} (hf : 3000 < fuel) {o : List (List Int)} {cm : List Bool} :
    iter (m_ref28_Homes_l1 fuel d o cm) fuel ((bfs d 0).1, (bfs d 0).2.1, (bfs d 0).2.2, 0) = some ((bfs d d.States.length).1, (bfs d d.States.length).2.1) := by
  obtain ⟨K, h1, h2, h3, h4⟩ := bfs_end hR
  rw [h3]
  have hn := hS.1
  refine iter_end (body := m_ref28_Homes_l1 fuel d o cm) (fu := fuel) K (fun k => ((bfs d k).1, (bfs d k).2.1, (bfs d k).2.2, (k : Int))) _ (fun k hk => ?_) ?_ (by omega)
  · have hkl := h4 k hk
    have hI := bfs_ok hR (mostR_ge d d.States.length) k
    have hm := hI.rng _ (gt_mem hkl)
    have hl := homes28_l2 hR hS hf (o := (bfs d k).1) (cm := (bfs d k).2.1) hkl
    have n1 : inb (bfs d k).2.2 (k : Int) = true := inb_true (by omega) (by omega)
    have n2 : inb d.States (gt (bfs d k).2.2 (k : Int)) = true := inb_true hm.1 hm.2
    have hg : (k : Int) < ((bfs d k).2.2.length : Int) := by omega
    unfold m_ref28_Homes_l1
    simp only [hg, decide_true, if_true, n1, n2, hl, bind_some', W_succ (show k < 9223372036854775807 by omega)]
  · unfold m_ref28_Homes_l1
    have : ¬ ((K : Int) < ((bfs d K).2.2.length : Int)) := by omega
    simp only [this, decide_false, Bool.false_eq_true, if_false]
/-- A row that is not there at the end of the way is nil. -/
theorem bfs_none {d : MDfa} (hR : RightD d) : ∀ k i : Nat, i < d.States.length → gt (bfs d k).2.1 (i : Int) = false → gt (bfs d k).1 (i : Int) = []
  | 0, i, hi, _ => by
    show gt (List.replicate d.States.length ([] : List Int)) (i : Int) = []
    rw [gtE (by simp; exact hi)]; simp
  | k + 1, i, hi, h => by
    unfold bfs at h ⊢
    split at h
    · rename_i hk
      rw [if_pos hk]
      have hI := bfs_ok hR (mostR_ge d d.States.length) k
      have hcm := gt_mem hk
      have hE : ∀ c : Nat, c < (curB d (bfs d k) k).length → EdgeOk d (gt (curB d (bfs d k) k) (c : Int)) (regsOf d (gt (bfs d k).2.2 (k : Int))) := fun c hc => by
        have := hR.2.2.2.2.2.2.2 (gt (bfs d k).2.2 (k : Int)).toNat (by have := hI.rng _ hcm; omega)
        rw [show (((gt (bfs d k).2.2 (k : Int)).toNat : Nat) : Int) = gt (bfs d k).2.2 (k : Int) by have := hI.rng _ hcm; omega] at this
        exact this.2.2.2.2.2 c hc
      have key : ∀ c, c ≤ (curB d (bfs d k) k).length → gt (efold (curB d (bfs d k) k) (gt (bfs d k).2.2 (k : Int)) (bfs d k) c).2.1 (i : Int) = false → gt (efold (curB d (bfs d k) k) (gt (bfs d k).2.2 (k : Int)) (bfs d k) c).1 (i : Int) = [] := by
        intro c
        induction c with
        | zero => intro _ h; exact bfs_none hR k i hi h
        | succ c ih =>
          intro hc h
          have hI2 := (efold_ok hI hcm hE (mostR_ge d d.States.length) c (by omega)).1
          simp only [efold] at h ⊢
          generalize efold (curB d (bfs d k) k) (gt (bfs d k).2.2 (k : Int)) (bfs d k) c = e at *
          generalize gt (curB d (bfs d k) k) (c : Int) = x at *
          unfold est at h ⊢
          split at h
          · rename_i c0
            rw [if_pos c0]
            have l1 := hI2.l1
            have l2 := hI2.l2
            by_cases g : x.To < d.States.length
            · simp only at h ⊢
              rw [gt_setI c0.1 (by omega) (by omega) (by omega)] at h
              rw [gt_setI c0.1 (by omega) (by omega) (by omega)]
              by_cases e2 : (i : Int) = x.To
              · rw [if_pos e2] at h; cases h
              · rw [if_neg e2] at h ⊢; exact ih (by omega) h
            · simp only at h ⊢
              rw [List.set_eq_of_length_le (by omega)] at h
              rw [List.set_eq_of_length_le (by omega)]
              exact ih (by omega) h
          · rename_i c0
            rw [if_neg c0]; exact ih (by omega) h
      exact key _ (Nat.le_refl _) h
    · rename_i hk
      rw [if_neg hk]; exact bfs_none hR k i hi h
theorem homes28_l3 {d : MDfa} (hR : RightD d) (hS : SmallD d) {fuel : Nat} (hf : 3000 < fuel) :
    iter (m_ref28_Homes_l3 fuel d (bfs d d.States.length).1 (bfs d d.States.length).2.1) fuel ((bfs d d.States.length).1, 0, 0) = some (homesL d, manyL d) := by
  have hI := bfs_ok hR (mostR_ge d d.States.length) d.States.length
  have hn := hS.1
  have hB400 : ∀ i : Nat, i < d.States.length → (gt d.States (i : Int)).Regs ≤ 400 := fun i hi => (hS.2.2 i hi).2.2.1
  have hm400 : mostR d d.States.length ≤ 400 := mostR_le (by omega) _ hB400
  have e0 : (bfs d d.States.length).1 = mixL d 0 := by
    refine List.ext_getElem (by simp [mixL, hI.l1]) (fun j h1 h2 => ?_)
    simp only [mixL, List.getElem_map, List.getElem_range, Nat.not_lt_zero, if_false]
    rw [gtE h1]
  have e1 : homesL d = mixL d d.States.length := by
    unfold homesL mixL
    refine List.map_congr_left (fun j hj => ?_)
    rw [if_pos (List.mem_range.1 hj)]
  have h := iter_end (body := m_ref28_Homes_l3 fuel d (bfs d d.States.length).1 (bfs d d.States.length).2.1) (fu := fuel) d.States.length (fun i => (mixL d i, manyN (homeAt d (bfs d d.States.length)) i, (i : Int))) (homesL d, manyL d) (fun i hi => by
    have hlm : ∀ q, (mixL d q).length = d.States.length := fun q => by simp [mixL]
    have hd : (i : Int) < ((mixL d i).length : Int) := by rw [hlm]; omega
    have hin : inb d.States (i : Int) = true := inb_true (by omega) (by omega)
    have hin2 : inb (bfs d d.States.length).2.1 (i : Int) = true := inb_true (by omega) (by rw [hI.l2]; omega)
    have hh := home_ok hR hi
    have hR0 := (hR.2.2.2.2.2.2.2 i hi).1
    have hR4 := hB400 i hi
    have hset : iter (m_ref28_Homes_l4 fuel d (mixL d i) (bfs d d.States.length).2.1 (manyN (homeAt d (bfs d d.States.length)) i) (i : Int)) fuel (mixL d i, 0) = some (mixL d (i + 1)) := by
      rw [← mix_succ hi]
      cases c : gt (bfs d d.States.length).2.1 (i : Int) with
      | false =>
        have hown : homeAt d (bfs d d.States.length) i = ownL (gt d.States (i : Int)).Regs := by unfold homeAt; rw [if_neg (by rw [c]; decide)]; rfl
        rw [hown]
        obtain ⟨r, hr⟩ : ∃ r : Nat, (gt d.States (i : Int)).Regs = (r : Int) := ⟨(gt d.States (i : Int)).Regs.toNat, by omega⟩
        have hg0 : gt (mixL d i) (i : Int) = [] := by rw [mix_gt hi, if_neg (by omega)]; exact bfs_none hR _ i hi c
        have h4 := iter_end (body := m_ref28_Homes_l4 fuel d (mixL d i) (bfs d d.States.length).2.1 (manyN (homeAt d (bfs d d.States.length)) i) (i : Int)) (fu := fuel) r (fun q => ((mixL d i).set i (ownL (q : Int)), (q : Int))) ((mixL d i).set i (ownL (r : Int))) (fun q hq => by
          have hgq : gt ((mixL d i).set i (ownL (q : Int))) (i : Int) = ownL (q : Int) := by rw [gt_setG (by rw [hlm]; exact hi) (by omega) (by rw [hlm]; omega), if_pos rfl]
          have hinq : inb ((mixL d i).set i (ownL (q : Int))) (i : Int) = true := inb_true (by omega) (by rw [List.length_set, hlm]; omega)
          have hq2 : (q : Int) < (r : Int) := by omega
          have hap : apOk 8 (ownL (q : Int)) [(q : Int)] = true := apOk_true (by simp [ownL]; omega)
          have hsn : ownL (q : Int) ++ [(q : Int)] = ownL ((q + 1 : Nat) : Int) := by simp [ownL, List.range_succ]
          unfold m_ref28_Homes_l4
          simp only [hin2, if_true, c, Bool.not_false, hin, hr, hq2, decide_true, bind_some', hinq, hgq, hap, hsn, Int.toNat_natCast, List.set_set, W_succ (show q < 9223372036854775807 by omega)]) (by
          unfold m_ref28_Homes_l4
          simp only [hin2, if_true, c, Bool.not_false, hin, hr, Int.lt_irrefl, decide_false, bind_some', Bool.false_eq_true, if_false]) (by omega)
        have hs0 : (mixL d i).set i (ownL ((0 : Nat) : Int)) = mixL d i := by
          have : ownL ((0 : Nat) : Int) = gt (mixL d i) (i : Int) := by rw [hg0]; rfl
          rw [this, gtE (by rw [hlm]; exact hi), List.set_getElem_self]
        simp only [hs0] at h4
        rw [hr]
        exact h4
      | true =>
        have : homeAt d (bfs d d.States.length) i = gt (mixL d i) (i : Int) := by
          rw [mix_gt hi, if_neg (by omega)]; unfold homeAt; rw [if_pos c]
        have hl : i < (mixL d i).length := by simp [mixL, hi]
        rw [this, gtE hl, List.set_getElem_self]
        exact iter_end (body := m_ref28_Homes_l4 fuel d (mixL d i) (bfs d d.States.length).2.1 (manyN (homeAt d (bfs d d.States.length)) i) (i : Int)) (fu := fuel) 0 (fun q => (mixL d i, (q : Int))) (mixL d i) (fun q hq => by omega) (by
          unfold m_ref28_Homes_l4
          simp only [hin2, if_true, c, Bool.not_true, Bool.false_eq_true, if_false, bind_some']) (by omega)
    have hg : gt (mixL d (i + 1)) (i : Int) = homeAt d (bfs d d.States.length) i := by rw [mix_gt hi, if_pos (by omega)]
    have hin3 : inb (mixL d (i + 1)) (i : Int) = true := inb_true (by omega) (by rw [hlm]; omega)
    have h4 := iter_end (body := m_ref28_Homes_l5 fuel d (bfs d d.States.length).2.1 (manyN (homeAt d (bfs d d.States.length)) i) (i : Int) (mixL d (i + 1))) (fu := fuel) (homeAt d (bfs d d.States.length) i).length (fun k => (mxL (homeAt d (bfs d d.States.length) i) (manyN (homeAt d (bfs d d.States.length)) i) k, (k : Int))) (manyN (homeAt d (bfs d d.States.length)) (i + 1)) (fun k hk => by
      have hin5 : inb (homeAt d (bfs d d.States.length) i) (k : Int) = true := inb_true (by omega) (by omega)
      have hd5 : (k : Int) < ((homeAt d (bfs d d.States.length) i).length : Int) := by omega
      have hr := hh.rng k hk
      have hl := hh.len
      unfold m_ref28_Homes_l5
      have hrg : regsOf d i = (gt d.States (i : Int)).Regs := rfl
      simp only [hg, hd5, decide_true, if_true, hin5, hin3, W_succ (show k < 9223372036854775807 by omega), W_i hr.1 (by omega), mxL]
      by_cases c : gt (homeAt d (bfs d d.States.length) i) (k : Int) ≥ mxL (homeAt d (bfs d d.States.length) i) (manyN (homeAt d (bfs d d.States.length)) i) k
      · simp [c]; intro h; omega
      · simp [c]; intro h; omega) (by unfold m_ref28_Homes_l5; simp only [hg, hin3]; simp; rfl) (by have hrg : regsOf d i = (gt d.States (i : Int)).Regs := rfl; have hl := hh.len; omega)
    have h4' : iter (m_ref28_Homes_l5 fuel d (bfs d d.States.length).2.1 (manyN (homeAt d (bfs d d.States.length)) i) (i : Int) (mixL d (i + 1))) fuel (manyN (homeAt d (bfs d d.States.length)) i, 0) = _ := h4
    unfold m_ref28_Homes_l3
    simp only [hd, decide_true, if_true, hset, bind_some', h4', W_succ (show i < 9223372036854775807 by omega)]) (by unfold m_ref28_Homes_l3; simp [e1, manyL, mixL]) (by omega)
  rw [← e0] at h
  exact h
open Classical in
theorem m_homes28 {d : MDfa} (hS : SmallD d) {fuel : Nat} (hf : 3000 < fuel) (hm : m_ref24_Right fuel d = some (decide (RightD d))) : m_ref28_Homes fuel d = some (if RightD d then (homesL d, manyL d) else ([], 0)) := by
  unfold m_ref28_Homes
  rw [hm]
  by_cases hR : RightD d
  · have hn := hS.1
    have h1 : 1 ≤ d.States.length := hR.2.2.2.1
    have k1 : mkOk 24 (d.States.length : Int) = true := by unfold mkOk; simp; omega
    have k2 : mkOk 1 (d.States.length : Int) = true := by unfold mkOk; simp; omega
    have k3 : inb (List.replicate (Int.toNat (d.States.length : Int)) false) 0 = true := inb_true (by omega) (by simp; omega)
    have l1 := homes28_l1 hR hS hf (o := (bfs d 0).1) (cm := List.replicate (Int.toNat (d.States.length : Int)) false)
    have e0 : (bfs d 0).1 = List.replicate (Int.toNat (d.States.length : Int)) ([] : List Int) := by simp [bfs]
    have e1 : (bfs d 0).2.1 = (List.replicate (Int.toNat (d.States.length : Int)) false).set (Int.toNat 0) true := by simp [bfs]
    have e2 : (bfs d 0).2.2 = [0] := rfl
    rw [e0, e1, e2] at l1
    simp only [hR, decide_true, Bool.not_true, Bool.false_eq_true, if_false, bind_some', k1, k2, k3, if_true, l1, homes28_l3 hR hS hf]
  · simp [hR]
end Go.Proofs.Ytjkoiijpmiibpaa
