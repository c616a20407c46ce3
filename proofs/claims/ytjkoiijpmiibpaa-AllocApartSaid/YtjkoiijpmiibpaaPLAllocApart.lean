/- AllocApart: no two registers of a state have one home, and there are as many homes as the state with the most registers has. Its conditions: none. -/
import Derived.Test.YtjkoiijpmiibpaaPAl3
import Derived.Test.YtjkoiijpmiibpaaPAl8
import Derived.Test.YtjkoiijpmiibpaaPSure28
import Derived.Test.YtjkoiijpmiibpaaFAllocApart
set_option autoImplicit false
namespace Go.Proofs.Ytjkoiijpmiibpaa
open Go.V Go.RowKit

theorem apart_l3 {d : MDfa} (hR : RightD d) {fuel i k : Nat} (hf : 3000 < fuel) (hS : SmallD d) (x6 : Int) (hi : i < d.States.length) (hk : k < (homeAt d (bfs d d.States.length) i).length) (m : Int) :
    iter (m_law28_AllocApart_l3 fuel d (homesL d, m) x6 (i : Int) (k : Int)) fuel 0 = some (.inl ()) := by
  have hh := home_ok hR hi
  have hg := homesL_gt hi
  have hn := homesL_len d
  have hlen := hh.len
  have h400 := (hS.2.2 i hi).2.2.1
  have hrg : regsOf d i = (gt d.States (i : Int)).Regs := rfl
  have n1 : inb (homesL d) (i : Int) = true := inb_true (by omega) (by omega)
  refine iter_endI (body := m_law28_AllocApart_l3 fuel d (homesL d, m) x6 (i : Int) (k : Int)) k _ (fun j hj => ?_) (by unfold m_law28_AllocApart_l3; simp) (by omega)
  have n2 : inb (homeAt d (bfs d d.States.length) i) (j : Int) = true := inb_true (by omega) (by omega)
  have n3 : inb (homeAt d (bfs d d.States.length) i) (k : Int) = true := inb_true (by omega) (by omega)
  have hd : (j : Int) < (k : Int) := by omega
  have hne := hh.apart j k (by omega) hk (by omega) (hh.rng j (by omega)).1
  have hne' : (gt (homeAt d (bfs d d.States.length) i) (j : Int) == gt (homeAt d (bfs d d.States.length) i) (k : Int)) = false := by simpa using hne
  unfold m_law28_AllocApart_l3
  simp only [hd, decide_true, if_true, n1, hg, n2, n3, hne', Bool.false_eq_true, if_false, W_succ (show j < 9223372036854775807 by omega)]
theorem apart_l2 {d : MDfa} (hR : RightD d) {fuel i : Nat} (hf : 3000 < fuel) (hS : SmallD d) (x6 : Int) (hi : i < d.States.length) :
    iter (m_law28_AllocApart_l2 fuel d (homesL d, manyL d) x6 (i : Int)) fuel 0 = some (.inl ()) := by
  have hh := home_ok hR hi
  have hg := homesL_gt hi
  have hn := homesL_len d
  have hlen := hh.len
  have h400 := (hS.2.2 i hi).2.2.1
  have hrg : regsOf d i = (gt d.States (i : Int)).Regs := rfl
  have n1 : inb (homesL d) (i : Int) = true := inb_true (by omega) (by omega)
  refine iter_endI (body := m_law28_AllocApart_l2 fuel d (homesL d, manyL d) x6 (i : Int)) (homeAt d (bfs d d.States.length) i).length _ (fun k hk => ?_) (by unfold m_law28_AllocApart_l2; simp [n1, hg]) (by omega)
  have n2 : inb (homeAt d (bfs d d.States.length) i) (k : Int) = true := inb_true (by omega) (by omega)
  have hd : (k : Int) < ((homeAt d (bfs d d.States.length) i).length : Int) := by omega
  obtain ⟨r0, r1⟩ := hh.rng k hk
  rw [← many_most hR] at r1
  have c0 : ¬ gt (homeAt d (bfs d d.States.length) i) (k : Int) < 0 := by omega
  have c1 : ¬ gt (homeAt d (bfs d d.States.length) i) (k : Int) ≥ manyL d := by omega
  unfold m_law28_AllocApart_l2
  simp only [n1, if_true, hg, hd, decide_true, n2, c0, c1, decide_false, Bool.false_eq_true, if_false, bind_some', apart_l3 hR hf hS x6 hi hk, W_succ (show k < 9223372036854775807 by omega)]
theorem lawAllocApart : AllocApartLaw := by
  intro d _
  refine ⟨10000000000000, ?_⟩
  generalize hfu : (10000000000000 : Nat) = fuel
  have hs : m_law28_sure fuel = some true := hfu ▸ sure28
  have hf : 3000 < fuel := by omega
  unfold m_law28_AllocApart
  rw [m_small24 (by omega)]
  by_cases hS : SmallD d
  · simp only [hS, decide_true, Bool.not_true, Bool.false_eq_true, if_false, bind_some', m_refRight24 hS (show 1000 < fuel by omega)]
    by_cases hR : RightD d
    · simp only [hR, decide_true, Bool.not_true, Bool.false_eq_true, if_false, m_allocHomes hS hf, bind_some', if_true]
      have hl : ((homesL d).length : Int) = (d.States.length : Int) := by rw [homesL_len]
      have hl' : (((homesL d).length : Int) != (d.States.length : Int)) = false := by simp [hl]
      have hn := hS.1
      have h1 := iter_end (body := m_law28_AllocApart_l1 fuel d (homesL d, manyL d)) (fu := fuel) d.States.length (fun i => (mostR d i, (i : Int))) (.inl (mostR d d.States.length)) (fun i hi => by
        have hh := home_ok hR hi
        have hg := homesL_gt hi
        have hnl := homesL_len d
        have hlen := hh.len
        have n1 : inb (homesL d) (i : Int) = true := inb_true (by omega) (by omega)
        have n2 : inb d.States (i : Int) = true := inb_true (by omega) (by omega)
        have hd : (i : Int) < ((homesL d).length : Int) := by omega
        have hrg : regsOf d i = (gt d.States (i : Int)).Regs := rfl
        have hne : (((homeAt d (bfs d d.States.length) i).length : Int) != (gt d.States (i : Int)).Regs) = false := by simp; omega
        unfold m_law28_AllocApart_l1
        simp only [hd, decide_true, if_true, n1, n2, hg, hne, Bool.false_eq_true, if_false, apart_l2 hR hf hS (mostR d i) hi, bind_some', W_succ (show i < 9223372036854775807 by omega)]
        by_cases c : (gt d.States (i : Int)).Regs > mostR d i
        · simp [c, mostR]
        · simp [c, mostR]) (by unfold m_law28_AllocApart_l1; simp [hl]) (by omega)
      have h0 : iter (m_law28_AllocApart_l1 fuel d (homesL d, manyL d)) fuel (0, 0) = some (.inl (mostR d d.States.length)) := h1
      rw [many_most hR] at h0
      simp only [hl', Bool.false_eq_true, if_false, h0, bind_some', many_most hR, beq_self_eq_true, if_true, hs]
    · simp only [hR, decide_false, Bool.not_false, if_true, hs, bind_some']
  · simp only [hS, decide_false, Bool.not_false, if_true, hs, bind_some']
theorem allocApart_holds : Rows.AllocApartSaid := frameAllocApart lawAllocApart
end Go.Proofs.Ytjkoiijpmiibpaa
