/- Homes by an edge: what is given. Its conditions: none. -/
import Derived.Test.YtjkoiijpmiibpaaPAl4
set_option autoImplicit false
namespace Go.Proofs.Ytjkoiijpmiibpaa
open Go.V Go.RowKit

def gv1 (from_ src : List Int) : Nat → List Int
  | 0 => List.replicate src.length (-1)
  | k + 1 => if 0 ≤ gt src (k : Int) ∧ gt from_ (gt src (k : Int)) ∉ gv1 from_ src k then (gv1 from_ src k).set k (gt from_ (gt src (k : Int))) else gv1 from_ src k
def gv2 (a : List Int) : Nat → List Int
  | 0 => a
  | k + 1 => if gt (gv2 a k) (k : Int) < 0 then (gv2 a k).set k (lfree (gv2 a k)) else gv2 a k
/-- The homes by an edge. -/
def giveL (from_ src : List Int) : List Int := gv2 (gv1 from_ src src.length) src.length
theorem gv1_len (from_ src : List Int) : ∀ k, (gv1 from_ src k).length = src.length
  | 0 => List.length_replicate
  | k + 1 => by unfold gv1; split <;> simp [gv1_len from_ src k]
theorem gv2_len (a : List Int) : ∀ k, (gv2 a k).length = a.length
  | 0 => rfl
  | k + 1 => by unfold gv2; split <;> simp [gv2_len a k]
theorem gv1_behind (from_ src : List Int) : ∀ k j : Nat, k ≤ j → j < src.length → gt (gv1 from_ src k) (j : Int) = -1
  | 0, j, _, hj => by rw [gtE (by rw [gv1_len]; exact hj)]; simp [gv1]
  | k + 1, j, hk, hj => by
    have ih := gv1_behind from_ src k j (by omega) hj
    unfold gv1
    split
    · rw [gt_setG (by rw [gv1_len]; omega) (by omega) (by rw [gv1_len]; omega), if_neg (by omega)]; exact ih
    · exact ih
/-- What there is before the first step: nothing is taken. -/
theorem inv_start (n : Nat) : HInv ⟨arrZ 1217, List.replicate n (-1)⟩ (List.replicate n (-1)) := by
  refine ⟨rfl, fun m h0 h1 => ⟨fun h => ?_, fun h => ?_⟩⟩
  · exfalso
    have : gt (arrZ 1217).1 m = false := by
      obtain ⟨k, rfl⟩ : ∃ k : Nat, m = (k : Int) := ⟨m.toNat, by omega⟩
      rw [gtE (by rw [(arrZ 1217).2]; omega)]
      exact List.getElem_replicate _
    simp only at h
    rw [this] at h; cases h
  · have := List.eq_of_mem_replicate h; omega
theorem m_giveL {fuel : Nat} {from_ : List Int} {x : MEdge} (hf : 2000 < fuel) (hl : x.Src.length ≤ 1000) (hsrc : ∀ i, i < x.Src.length → gt x.Src (i : Int) < from_.length) (hfr : ∀ v ∈ from_, 0 ≤ v ∧ v < 1217) : m_alloc_give fuel from_ x = some (giveL from_ x.Src) := by
  unfold m_alloc_give
  simp only [m_repeat (k := x.Src.length) (v := -1) (fuel := fuel) (by omega) (by omega), bind_some']
  obtain ⟨y1, h1, hy1⟩ := iter_inv (body := m_alloc_give_l1 fuel from_ (List.replicate x.Src.length (-1)) x) (fu := fuel) (fun i h => HInv h (gv1 from_ x.Src i)) (fun h => HInv h (gv1 from_ x.Src x.Src.length)) x.Src.length (fun i hi h hI => by
    have hin : inb x.Src (i : Int) = true := inb_true (by omega) (by omega)
    have hd : (i : Int) < (x.Src.length : Int) := by omega
    have hb := gv1_behind from_ x.Src i i (Nat.le_refl _) hi
    unfold m_alloc_give_l1
    simp only [hd, decide_true, if_true, hin, W_succ (show i < 9223372036854775807 by omega)]
    by_cases c : gt x.Src (i : Int) ≥ 0
    · have hs := hsrc i hi
      have hin2 : inb from_ (gt x.Src (i : Int)) = true := inb_true c hs
      have hv : 0 ≤ gt from_ (gt x.Src (i : Int)) ∧ gt from_ (gt x.Src (i : Int)) < 1217 := by
        apply hfr
        obtain ⟨k, hk⟩ : ∃ k : Nat, gt x.Src (i : Int) = (k : Int) := ⟨(gt x.Src (i : Int)).toNat, by omega⟩
        rw [hk] at hs ⊢
        rw [gtE (by omega)]
        exact List.getElem_mem _
      by_cases c2 : gt from_ (gt x.Src (i : Int)) ∈ gv1 from_ x.Src i
      · refine ⟨h, by simp only [c, decide_true, if_true, hin2, m_take_yes hI hv.1 hv.2 c2, bind_some'], ?_⟩
        have : gv1 from_ x.Src (i + 1) = gv1 from_ x.Src i := by rw [gv1, if_neg (fun h => h.2 c2)]
        rw [this]; exact hI
      · obtain ⟨h', e1, e2⟩ := m_take_no (fuel := fuel) hI hv.1 hv.2 c2 (k := i) (by rw [gv1_len]; exact hi) (by omega)
        refine ⟨h', by simp only [c, decide_true, if_true, hin2, e1, bind_some'], ?_⟩
        have : gv1 from_ x.Src (i + 1) = (gv1 from_ x.Src i).set i (gt from_ (gt x.Src (i : Int))) := by rw [gv1, if_pos ⟨c, c2⟩]
        rw [this]; exact e2
    · refine ⟨h, by simp only [c, decide_false, Bool.false_eq_true, if_false, bind_some'], ?_⟩
      have : gv1 from_ x.Src (i + 1) = gv1 from_ x.Src i := by rw [gv1, if_neg (fun h => c h.1)]
      rw [this]; exact hI) (fun h hI => ⟨h, by unfold m_alloc_give_l1; simp, hI⟩) (by omega) ⟨arrZ 1217, List.replicate x.Src.length (-1)⟩ (inv_start _)
  rw [h1]
  have hly : y1.at_.length = x.Src.length := by rw [hy1.1, gv1_len]
  obtain ⟨y2, h2, hy2⟩ := iter_inv (body := m_alloc_give_l2 fuel y1) (fu := fuel) (fun i h => HInv h (gv2 (gv1 from_ x.Src x.Src.length) i)) (fun h => HInv h (giveL from_ x.Src)) x.Src.length (fun i hi h hI => by
    have hlen : (gv2 (gv1 from_ x.Src x.Src.length) i).length = x.Src.length := by rw [gv2_len, gv1_len]
    have hin : inb (gv2 (gv1 from_ x.Src x.Src.length) i) (i : Int) = true := inb_true (by omega) (by omega)
    have hd : (i : Int) < (y1.at_.length : Int) := by omega
    unfold m_alloc_give_l2
    simp only [hd, decide_true, if_true, hin, W_succ (show i < 9223372036854775807 by omega), hI.1]
    by_cases c : gt (gv2 (gv1 from_ x.Src x.Src.length) i) (i : Int) < 0
    · obtain ⟨h', e1, e2⟩ := m_least_h (fuel := fuel) hI (by omega) hf (k := i) (by omega) c
      refine ⟨h', by simp only [c, decide_true, if_true, e1, bind_some'], ?_⟩
      rw [gv2, if_pos c]; exact e2
    · refine ⟨h, by simp only [c, decide_false, Bool.false_eq_true, if_false, bind_some'], ?_⟩
      rw [gv2, if_neg c]; exact hI) (fun h hI => ⟨h, by unfold m_alloc_give_l2; simp [hly], hI⟩) (by omega) y1 hy1
  simp only [bind_some', h2, hy2.1]
end Go.Proofs.Ytjkoiijpmiibpaa
