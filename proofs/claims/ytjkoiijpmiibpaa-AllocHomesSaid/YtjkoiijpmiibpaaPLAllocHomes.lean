/- AllocHomes: the homes of a machine are those of the document. Its conditions: none. -/
import Derived.Test.YtjkoiijpmiibpaaPAl3
import Derived.Test.YtjkoiijpmiibpaaPAl9
import Derived.Test.YtjkoiijpmiibpaaPSure28
import Derived.Test.YtjkoiijpmiibpaaFAllocHomes
set_option autoImplicit false
namespace Go.Proofs.Ytjkoiijpmiibpaa
open Go.V Go.RowKit

theorem m_rows_self {l : List (List Int)} {fuel : Nat} (hl : l.length ≤ 1000) (hr : ∀ i : Nat, i < l.length → (gt l (i : Int)).length ≤ 1000) (hf : 2000 < fuel) : m_ref21_Rows fuel l l = some true := by
  unfold m_ref21_Rows
  have h := iter_endI (body := m_ref21_Rows_l1 fuel l l) l.length (.inl ()) (fun i hi => by
    have hin : inb l (i : Int) = true := inb_true (by omega) (by omega)
    have hd : (i : Int) < (l.length : Int) := by omega
    have hri := hr i hi
    have h2 := iter_endI (body := m_ref21_Rows_l2 fuel l l (i : Int)) (gt l (i : Int)).length (.inl ()) (fun k hk => by
      have hin2 : inb (gt l (i : Int)) (k : Int) = true := inb_true (by omega) (by omega)
      have hd2 : (k : Int) < ((gt l (i : Int)).length : Int) := by omega
      unfold m_ref21_Rows_l2
      simp only [hin, if_true, hd2, decide_true, hin2, bne_self_eq_false, Bool.false_eq_true, if_false, W_succ (show k < 9223372036854775807 by omega)]) (by unfold m_ref21_Rows_l2; simp [hin]) (fu := fuel) (by omega)
    unfold m_ref21_Rows_l1
    simp only [hd, decide_true, if_true, hin, bne_self_eq_false, Bool.false_eq_true, if_false, h2, bind_some', W_succ (show i < 9223372036854775807 by omega)]) (by unfold m_ref21_Rows_l1; simp) (fu := fuel) (by omega)
  simp only [bne_self_eq_false, Bool.false_eq_true, if_false, h, bind_some']
theorem lawAllocHomes : AllocHomesLaw := by
  intro d _
  refine ⟨10000000000000, ?_⟩
  generalize hfu : (10000000000000 : Nat) = fuel
  have hs : m_law28_sure fuel = some true := hfu ▸ sure28
  have hf : 3000 < fuel := by omega
  unfold m_law28_AllocHomes
  rw [m_small24 (by omega)]
  by_cases hS : SmallD d
  · have fin : ∀ (sm : Bool) (r : List (List Int) × Int), sm = true → m_alloc_Homes fuel d = some r → m_ref28_Homes fuel d = some r → m_ref21_Rows fuel r.1 r.1 = some true → Option.bind (some sm) (fun x1 => if (!x1) = true then Option.bind (m_law28_sure fuel) fun x2 => some x2 else Option.bind (m_alloc_Homes fuel d) fun x3 => Option.bind (m_ref28_Homes fuel d) fun x4 => Option.bind (Option.bind (m_ref21_Rows fuel x3.1 x4.1) fun x6 => if x6 = true then if (x3.2 == x4.2) = true then Option.bind (m_law28_sure fuel) fun x7 => some x7 else some false else some false) fun x5 => some x5) = some true := fun sm r h0 h1 h2 h3 => by
      simp only [h0, Bool.not_true, Bool.false_eq_true, if_false, bind_some', h1, h2, h3, if_true, beq_self_eq_true, hs]
    by_cases hR : RightD d
    · refine fin _ (homesL d, manyL d) (by simp [hS]) (by rw [m_allocHomes hS hf, if_pos hR]) (by rw [m_homes28 hS hf (m_refRight24 hS (show 1000 < fuel by omega)), if_pos hR]) (m_rows_self ?_ (fun i hi => ?_) (by omega))
      · have := homesL_len d; have := hS.1; simp only; omega
      · simp only at hi ⊢
        rw [homesL_len] at hi
        rw [homesL_gt hi]
        have hh := home_ok hR hi
        have h400 := (hS.2.2 i hi).2.2.1
        have hlen := hh.len
        have hrg : regsOf d i = (gt d.States (i : Int)).Regs := rfl
        omega
    · exact fin _ ([], 0) (by simp [hS]) (by rw [m_allocHomes hS hf, if_neg hR]) (by rw [m_homes28 hS hf (m_refRight24 hS (show 1000 < fuel by omega)), if_neg hR]) (m_rows_self (by simp) (fun i hi => by simp at hi) (by omega))
  · simp only [hS, decide_false, Bool.not_false, if_true, hs, bind_some']
theorem allocHomes_holds : Rows.AllocHomesSaid := frameAllocHomes lawAllocHomes
end Go.Proofs.Ytjkoiijpmiibpaa
