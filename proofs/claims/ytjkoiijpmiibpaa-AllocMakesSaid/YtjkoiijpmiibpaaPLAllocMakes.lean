/- AllocMakes: the program of a machine is right, its moves are the fewest, and they do what the edges tell. Its conditions: none. -/
import Derived.Test.YtjkoiijpmiibpaaPMk1
import Derived.Test.YtjkoiijpmiibpaaPMb
import Derived.Test.YtjkoiijpmiibpaaPAp6
import Derived.Test.YtjkoiijpmiibpaaPAl3
import Derived.Test.YtjkoiijpmiibpaaPAl9
import Derived.Test.YtjkoiijpmiibpaaPSure28
import Derived.Test.YtjkoiijpmiibpaaFAllocMakes
set_option autoImplicit false
namespace Go.Proofs.Ytjkoiijpmiibpaa
open Go.V Go.RowKit

/-- The registers that the law begins with. -/
def BegR (R : Nat) (y : List Int) : Prop := y.length = R ∧ ∀ j : Nat, j < R → gt y (j : Int) = 1000 + (j : Int)
theorem beg_of {fuel R : Nat} (hR : R ≤ 1000) (hf : 6000 < fuel) (d : MDfa) (x3 : MProg × Int) (x7 : List (List Int) × Int) : ∃ y, iter (m_law28_AllocMakes_l1 fuel d x3 x7) fuel (List.replicate R 0, 0) = some y ∧ BegR R y := by
  refine iter_inv (body := m_law28_AllocMakes_l1 fuel d x3 x7) (fu := fuel) (fun i y => y.length = R ∧ ∀ j : Nat, j < i → gt y (j : Int) = 1000 + (j : Int)) (fun y => BegR R y) R (fun i hi y hI => ?_) (fun y hI => ⟨y, ?_, hI⟩) (by omega) _ ⟨by simp, fun j hj => by omega⟩
  · have hd : (i : Int) < (y.length : Int) := by omega
    have hin : inb y (i : Int) = true := inb_true (by omega) (by omega)
    have hW : W (1000 + (i : Int)) = 1000 + (i : Int) := W_id (by omega) (by omega)
    refine ⟨y.set i (1000 + (i : Int)), ?_, by simp [hI.1], fun j hj => ?_⟩
    · unfold m_law28_AllocMakes_l1
      simp only [hd, decide_true, if_true, hin, hW, Int.toNat_natCast, W_succ (show i < 9223372036854775807 by omega)]
    · rw [gt_setG (by omega) (by omega) (by omega)]
      by_cases e : (j : Int) = i
      · rw [if_pos e]; omega
      · rw [if_neg e]; exact hI.2 j (by omega)
  · unfold m_law28_AllocMakes_l1
    simp [hI.1]
theorem home_in {d : MDfa} {q : Int} (h0 : 0 ≤ q) (h1 : q < d.States.length) : inb (homesL d) q = true := inb_true h0 (by rw [homesL_len]; exact h1)
theorem accs_like {fuel : Nat} {d : MDfa} (hR : RightD d) (hS : SmallD d) (hf : 6000 < fuel) (x3 : MProg × Int) (y : List Int) {i : Nat} (hi : i < d.States.length) :
    iter (m_law28_AllocMakes_l3 fuel d x3 (homesL d, manyL d) y (i : Int) (gt d.States (i : Int)) (standL fuel d i)) fuel 0 = some (.inl ()) := by
  obtain ⟨s1, s2, s3, s4, s5, s6⟩ := hR.2.2.2.2.2.2.2 i hi
  have b1 := (hS.2.2 i hi).1
  have hin0 := home_in (d := d) (show 0 ≤ (i : Int) by omega) (by omega)
  have hh := hA_ok hR (show 0 ≤ (i : Int) by omega) (show (i : Int) < d.States.length by omega)
  have hl := hh.len
  have hrg : regsOf d i = (gt d.States (i : Int)).Regs := rfl
  refine iter_endI (body := m_law28_AllocMakes_l3 fuel d x3 (homesL d, manyL d) y (i : Int) (gt d.States (i : Int)) (standL fuel d i)) (gt d.States (i : Int)).Accept.length _ (fun k hk => ?_) (by unfold m_law28_AllocMakes_l3; simp) (by omega)
  have hin : inb (gt d.States (i : Int)).Accept (k : Int) = true := inb_true (by omega) (by omega)
  have hd : (k : Int) < ((gt d.States (i : Int)).Accept.length : Int) := by omega
  have e : gt (standL fuel d i).Accept (k : Int) = atH d i (gt (gt d.States (i : Int)).Accept (k : Int)) := by
    unfold standL; simp only; rw [gtE (by simp; exact hk), gtE hk]; simp
  have hin2 : inb (standL fuel d i).Accept (k : Int) = true := inb_true (by omega) (by simp [standL]; omega)
  have h5 := s5 k hk
  unfold m_law28_AllocMakes_l3
  simp only [hd, decide_true, if_true, hin, hin2, e]
  by_cases c : gt (gt d.States (i : Int)).Accept (k : Int) ≥ 0
  · have hin3 : inb (gt (homesL d) (i : Int)) (gt (gt d.States (i : Int)).Accept (k : Int)) = true := inb_true c (by
      show _ < ((hA d i).length : Int)
      unfold fromP at h5; omega)
    have ea : atH d i (gt (gt d.States (i : Int)).Accept (k : Int)) = gt (gt (homesL d) (i : Int)) (gt (gt d.States (i : Int)).Accept (k : Int)) := by unfold atH; rw [if_neg (by omega)]; rfl
    simp only [c, decide_true, if_true, hin0, hin3, bind_some', ea, bne_self_eq_false, Bool.false_eq_true, if_false, W_succ (show k < 9223372036854775807 by omega)]
  · have ea : atH d i (gt (gt d.States (i : Int)).Accept (k : Int)) = gt (gt d.States (i : Int)).Accept (k : Int) := by unfold atH; rw [if_pos (by omega)]
    simp only [c, decide_false, bind_some', ea, bne_self_eq_false, Bool.false_eq_true, if_false, W_succ (show k < 9223372036854775807 by omega)]
theorem once_like {fuel : Nat} {d : MDfa} (hR : RightD d) (hf : 6000 < fuel) (x3 : MProg × Int) (y : List Int) (s : MState) (t : MStand) (x18 : Int) (x20 : MWay) {q : Int} {x : MEdge} (h : EdgeAt d q x) :
    iter (m_law28_AllocMakes_l5 fuel d x3 (homesL d, manyL d) y q s t x18 x x20) fuel (([] : List MMove), 0) = some (onceH d q x) := by
  have hin0 := home_in h.q0 h.q1
  have hsm := h.sm
  refine iter_end (body := m_law28_AllocMakes_l5 fuel d x3 (homesL d, manyL d) y q s t x18 x x20) (fu := fuel) x.Src.length (fun k => (onceK d q x k, (k : Int))) _ (fun k hk => ?_) (by unfold m_law28_AllocMakes_l5; simp [onceH]) (by omega)
  have h0 : 0 ≤ x.To := by
    apply Classical.byContradiction
    intro c
    have := edge_out h c; omega
  obtain ⟨e1, e2, e3⟩ := edge_src h h0
  have hin : inb x.Src (k : Int) = true := inb_true (by omega) (by omega)
  have hd : (k : Int) < (x.Src.length : Int) := by omega
  have hin2 := home_in h0 e1
  have hh := hA_ok hR h0 e1
  have hl := hh.len
  have hin3 : inb (gt (homesL d) x.To) (k : Int) = true := inb_true (by omega) (by show (k : Int) < ((hA d x.To).length : Int); omega)
  have hq := hA_ok hR h.q0 h.q1
  have hql := hq.len
  have hf3 := e3 k hk
  have ek := once_klen (d := d) (q := q) (x := x) k
  have hap : ∀ m, apOk 16 (onceK d q x k) [m] = true := fun m => apOk_true (by simp; omega)
  have hat : (Option.bind (if decide (gt x.Src (k : Int) ≥ 0) = true then if inb (homesL d) q = true then if inb (gt (homesL d) q) (gt x.Src (k : Int)) = true then some (gt (gt (homesL d) q) (gt x.Src (k : Int))) else none else none else some (gt x.Src (k : Int))) fun v => (some v : Option Int)) = some (atH d q (gt x.Src (k : Int))) := by
    by_cases c : gt x.Src (k : Int) ≥ 0
    · have hin4 : inb (gt (homesL d) q) (gt x.Src (k : Int)) = true := inb_true c (by
        show _ < ((hA d q).length : Int)
        unfold fromP at hf3; omega)
      have ea : atH d q (gt x.Src (k : Int)) = gt (gt (homesL d) q) (gt x.Src (k : Int)) := by unfold atH; rw [if_neg (by omega)]; rfl
      simp only [c, decide_true, if_true, hin0, hin4, bind_some', ea]
    · have ea : atH d q (gt x.Src (k : Int)) = gt x.Src (k : Int) := by unfold atH; rw [if_pos (by omega)]
      simp only [c, decide_false, Bool.false_eq_true, if_false, bind_some', ea]
  have hat' : (if decide (gt x.Src (k : Int) ≥ 0) = true then if inb (homesL d) q = true then if inb (gt (homesL d) q) (gt x.Src (k : Int)) = true then some (gt (gt (homesL d) q) (gt x.Src (k : Int))) else none else none else some (gt x.Src (k : Int))) = some (atH d q (gt x.Src (k : Int))) := by
    rw [← hat]; cases (if decide (gt x.Src (k : Int) ≥ 0) = true then if inb (homesL d) q = true then if inb (gt (homesL d) q) (gt x.Src (k : Int)) = true then some (gt (gt (homesL d) q) (gt x.Src (k : Int))) else none else none else some (gt x.Src (k : Int))) <;> rfl
  unfold m_law28_AllocMakes_l5
  simp only [hd, decide_true, if_true, hin, hin2, hin3]
  rw [hat']
  simp only [bind_some', hap, if_true, W_succ (show k < 9223372036854775807 by omega)]
  have em : mvK d q x k = ⟨gt (gt (homesL d) x.To) (k : Int), atH d q (gt x.Src (k : Int))⟩ := rfl
  by_cases c : (mvK d q x k).To ≠ (mvK d q x k).From
  · have c2 : (atH d q (gt x.Src (k : Int)) != gt (gt (homesL d) x.To) (k : Int)) = true := by
      rw [em] at c; simp only at c
      simp only [bne_iff_ne, ne_eq]; exact fun e => c e.symm
    have c3 : onceK d q x (k + 1) = onceK d q x k ++ [mvK d q x k] := by rw [onceK, if_pos c]
    simp only [c2, if_true, bind_some', c3, em]
  · have c2 : (atH d q (gt x.Src (k : Int)) != gt (gt (homesL d) x.To) (k : Int)) = false := by
      rw [em] at c; simp only [ne_eq, Classical.not_not] at c
      simp [c]
    have c3 : onceK d q x (k + 1) = onceK d q x k := by rw [onceK, if_neg c]
    simp only [c2, Bool.false_eq_true, if_false, bind_some', c3]
theorem want_like {fuel : Nat} {d : MDfa} (hR : RightD d) (hS : SmallD d) (hf : 6000 < fuel) (x3 : MProg × Int) {y : List Int} (hy : BegR (manyL d + 1).toNat y) (s : MState) (t : MStand) (x18 : Int) {q : Int} {x : MEdge} (h : EdgeAt d q x) :
    iter (m_law28_AllocMakes_l6 fuel d x3 (homesL d, manyL d) y q s t x18 x (applyL 7 y (wayL fuel d q x).Moves)) fuel 0 = some (.inl ()) := by
  have hin0 := home_in h.q0 h.q1
  have hsm := h.sm
  have hm := many_le hR hS
  have hO := way_ord hR hf h
  have hyl := hy.1
  have hin7 : ∀ m ∈ onceH d q x, inR y.length m := fun m hm' => by have := once_rng hR h m hm'; unfold inR; omega
  obtain ⟨o1, o2⟩ := hO.reg 7 y hin7 (by omega)
  refine iter_endI (body := m_law28_AllocMakes_l6 fuel d x3 (homesL d, manyL d) y q s t x18 x (applyL 7 y (wayL fuel d q x).Moves)) x.Src.length _ (fun k hk => ?_) (by unfold m_law28_AllocMakes_l6; simp) (by omega)
  have h0 : 0 ≤ x.To := by
    apply Classical.byContradiction
    intro c
    have := edge_out h c; omega
  obtain ⟨e1, e2, e3⟩ := edge_src h h0
  have hin : inb x.Src (k : Int) = true := inb_true (by omega) (by omega)
  have hd : (k : Int) < (x.Src.length : Int) := by omega
  have hin2 := home_in h0 e1
  have hh := hA_ok hR h0 e1
  have hl := hh.len
  have hr := hh.rng k (by omega)
  have hin3 : inb (gt (homesL d) x.To) (k : Int) = true := inb_true (by omega) (by show (k : Int) < ((hA d x.To).length : Int); omega)
  have hq := hA_ok hR h.q0 h.q1
  have hql := hq.len
  have hf3 := e3 k hk
  have hv := once_val hR h h0 (now := 7) (r := y) (by omega) hk
  have ha := o2 (gt (hA d x.To) (k : Int)) hr.1 (by omega) (by omega)
  rw [hv] at ha
  have hin5 : inb (applyL 7 y (wayL fuel d q x).Moves) (gt (gt (homesL d) x.To) (k : Int)) = true := inb_true hr.1 (by rw [apply_len]; show gt (hA d x.To) (k : Int) < _; omega)
  have ha' : gt (applyL 7 y (wayL fuel d q x).Moves) (gt (gt (homesL d) x.To) (k : Int)) = valE 7 (gt y) (atH d q (gt x.Src (k : Int))) := ha
  unfold m_law28_AllocMakes_l6
  simp only [hd, decide_true, if_true, hin, hin2, hin3, hin5, ha']
  by_cases c : gt x.Src (k : Int) ≥ 0
  · have hlt : gt x.Src (k : Int) < ((hA d q).length : Int) := by unfold fromP at hf3; omega
    have hin4 : inb (gt (homesL d) q) (gt x.Src (k : Int)) = true := inb_true c hlt
    have ea : atH d q (gt x.Src (k : Int)) = gt (gt (homesL d) q) (gt x.Src (k : Int)) := by unfold atH; rw [if_neg (by omega)]; rfl
    obtain ⟨n, hn⟩ : ∃ n : Nat, gt x.Src (k : Int) = (n : Int) := ⟨(gt x.Src (k : Int)).toNat, by omega⟩
    have hrn := hq.rng n (by omega)
    rw [← hn] at hrn
    have hrn' : 0 ≤ gt (gt (homesL d) q) (gt x.Src (k : Int)) ∧ gt (gt (homesL d) q) (gt x.Src (k : Int)) < manyL d := hrn
    obtain ⟨v, hv2⟩ : ∃ v : Nat, gt (gt (homesL d) q) (gt x.Src (k : Int)) = (v : Int) := ⟨(gt (gt (homesL d) q) (gt x.Src (k : Int))).toNat, by omega⟩
    have hval : valE 7 (gt y) (atH d q (gt x.Src (k : Int))) = 1000 + (v : Int) := by
      rw [ea, hv2]; unfold valE; rw [if_neg (by omega)]; exact hy.2 v (by omega)
    have hW : W (1000 + (v : Int)) = 1000 + (v : Int) := W_id (by omega) (by omega)
    rw [hval]
    simp only [c, decide_true, if_true, hin0, hin4, hv2, hW, bind_some', bne_self_eq_false, Bool.false_eq_true, if_false, W_succ (show k < 9223372036854775807 by omega)]
  · have e7 : gt x.Src (k : Int) = -1 := by unfold fromP at hf3; omega
    have hval : valE 7 (gt y) (atH d q (gt x.Src (k : Int))) = 7 := by rw [e7]; unfold atH valE; simp
    rw [hval]
    simp only [c, decide_false, Bool.false_eq_true, if_false, bind_some', bne_self_eq_false, W_succ (show k < 9223372036854775807 by omega)]
theorem ways_like {fuel : Nat} {d : MDfa} (hR : RightD d) (hS : SmallD d) (hf : 6000 < fuel) (x3 : MProg × Int) {y : List Int} (hy : BegR (manyL d + 1).toNat y) {i : Nat} (hi : i < d.States.length) :
    iter (m_law28_AllocMakes_l4 fuel d x3 (homesL d, manyL d) y (i : Int) (gt d.States (i : Int)) (standL fuel d i)) fuel 0 = some (.inl ()) := by
  have hm := many_le hR hS
  have hyl := hy.1
  obtain ⟨b1, b2, b3, b4⟩ := hS.2.2 i hi
  refine iter_endI (body := m_law28_AllocMakes_l4 fuel d x3 (homesL d, manyL d) y (i : Int) (gt d.States (i : Int)) (standL fuel d i)) (gt d.States (i : Int)).Edges.length _ (fun c hc => ?_) (by unfold m_law28_AllocMakes_l4; simp) (by omega)
  have hin : inb (gt d.States (i : Int)).Edges (c : Int) = true := inb_true (by omega) (by omega)
  have hin2 : inb (standL fuel d i).Ways (c : Int) = true := inb_true (by omega) (by simp [standL]; omega)
  have hd : (c : Int) < ((gt d.States (i : Int)).Edges.length : Int) := by omega
  have hE := edge_at hR hS (show 0 ≤ (i : Int) by omega) (show (i : Int) < d.States.length by omega) hc
  have hw := stand_way (fuel := fuel) hc
  generalize hxg : gt (gt d.States (i : Int)).Edges (c : Int) = x at *
  have hO := way_ord hR hf hE
  have hsm := hE.sm
  have hol := onceH_len hE
  have hin7 : ∀ m ∈ onceH d i x, inR y.length m := fun m hm' => by have := once_rng hR hE m hm'; unfold inR; omega
  obtain ⟨o1, o2⟩ := hO.reg 7 y hin7 (by omega)
  have hsml := hO.small
  have h1 := once_like hR hf x3 y (gt d.States (i : Int)) (standL fuel d i) (c : Int) (wayL fuel d i x) hE
  have h2 := m_least27 (ms := onceH d i x) (fuel := fuel) (by omega) (by omega) (once_right hR hE)
  have h3 := m_apply27 (l := y) (ms := (wayL fuel d i x).Moves) (now := 7) (fuel := fuel) o1 (by omega) (by omega) (by omega)
  have h4 := want_like hR hS hf x3 hy (gt d.States (i : Int)) (standL fuel d i) (c : Int) hE
  have hlen := hO.len
  have hb1 : (x.To != (wayL fuel d i x).To) = false := by simp [wayL]
  have hb2 : (((wayL fuel d i x).Moves.length : Int) != (((keyS (onceH d i x)).length + rings (fS (onceH d i x)) (keyS (onceH d i x)) ((onceH d i x).length + 1) : Nat) : Int)) = false := by rw [hlen]; simp
  unfold m_law28_AllocMakes_l4
  simp only [hd, decide_true, if_true, hin, hin2, hxg, hw, bind_some', h1, h2, h3, hb1, hb2, Bool.false_eq_true, if_false, h4, W_succ (show c < 9223372036854775807 by omega)]
theorem stands_like {fuel : Nat} {d : MDfa} (hR : RightD d) (hS : SmallD d) (hf : 6000 < fuel) {y : List Int} (hy : BegR (manyL d + 1).toNat y) :
    iter (m_law28_AllocMakes_l2 fuel d (progL fuel d, 0) (homesL d, manyL d) y) fuel 0 = some (.inl ()) := by
  have hn := hS.1
  refine iter_endI (body := m_law28_AllocMakes_l2 fuel d (progL fuel d, 0) (homesL d, manyL d) y) d.States.length _ (fun i hi => ?_) (by unfold m_law28_AllocMakes_l2; simp [prog_len]) (by omega)
  have hd : (i : Int) < ((progL fuel d).Stands.length : Int) := by rw [prog_len]; omega
  have hin : inb d.States (i : Int) = true := inb_true (by omega) (by omega)
  have hin2 : inb (progL fuel d).Stands (i : Int) = true := inb_true (by omega) hd
  have hb1 : (((gt d.States (i : Int)).Accept.length : Int) != ((standL fuel d i).Accept.length : Int)) = false := by simp [standL]
  have hb2 : (((gt d.States (i : Int)).Edges.length : Int) != ((standL fuel d i).Ways.length : Int)) = false := by simp [standL]
  unfold m_law28_AllocMakes_l2
  simp only [hd, decide_true, if_true, hin, hin2, prog_stand hi, bind_some', hb1, hb2, Bool.false_eq_true, if_false, accs_like hR hS hf (progL fuel d, 0) y hi, ways_like hR hS hf (progL fuel d, 0) hy hi, W_succ (show i < 9223372036854775807 by omega)]
theorem lawAllocMakes : AllocMakesLaw := by
  intro d _
  refine ⟨10000000000000, ?_⟩
  generalize hfu : (10000000000000 : Nat) = fuel
  have hs : m_law28_sure fuel = some true := hfu ▸ sure28
  have hf : 6000 < fuel := by omega
  unfold m_law28_AllocMakes
  rw [m_small24 (by omega)]
  by_cases hS : SmallD d
  · have hr24 := m_refRight24 hS (show 1000 < fuel by omega)
    by_cases hR : RightD d
    · have hm := many_le hR hS
      have h28 : m_ref28_Homes fuel d = some (homesL d, manyL d) := by rw [m_homes28 hS (by omega) hr24, if_pos hR]
      have hri := m_rightQ (prog_size hR hS hf) (show 2000 < fuel by omega)
      have hpr := prog_right hR hS hf
      have hW : W (manyL d + 1) = manyL d + 1 := W_id (by omega) (by omega)
      have hb1 : ((progL fuel d).Regs != W (manyL d + 1)) = false := by rw [hW]; simp [progL]
      have hb2 : (((progL fuel d).Stands.length : Int) != (d.States.length : Int)) = false := by rw [prog_len]; simp
      have hb3 : ((progL fuel d).Tags != d.Tags) = false := by simp [progL]
      have hb4 : mkOk 8 (progL fuel d).Regs = true := by show mkOk 8 (manyL d + 1) = true; unfold mkOk; simp; omega
      obtain ⟨y, hy1, hy2⟩ := beg_of (fuel := fuel) (R := (manyL d + 1).toNat) (by omega) hf d (progL fuel d, 0) (homesL d, manyL d)
      have hy1' : iter (m_law28_AllocMakes_l1 fuel d (progL fuel d, 0) (homesL d, manyL d)) fuel (List.replicate (Int.toNat (progL fuel d).Regs) 0, 0) = some y := hy1
      simp only [hS, decide_true, Bool.not_true, Bool.false_eq_true, if_false, bind_some', m_make hR hS hf, hr24, hR, h28, hri, hpr, hb1, hb2, hb3, bne_self_eq_false, hb4, if_true, hy1', stands_like hR hS hf hy2, hs]
    · have hmk : m_alloc_Make fuel d = some ((⟨(0 : Int), (0 : Int), ([] : (List Int)), ([] : (List MStand))⟩ : MProg), 11) := by
        unfold m_alloc_Make
        rw [m_allocHomes hS (by omega), if_neg hR]; rfl
      simp [hS, hmk, hr24, hR, hs]
  · simp only [hS, decide_false, Bool.not_false, if_true, hs, bind_some']
theorem allocMakes_holds : Rows.AllocMakesSaid := frameAllocMakes lawAllocMakes
end Go.Proofs.Ytjkoiijpmiibpaa
