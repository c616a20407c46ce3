/- The ways from a place, to the end, and into a node: the program and the document tell the same. Its conditions: none. -/
import Derived.Test.YtfhehbfifffipaaPFol8
import Derived.Test.YtfhehbfifffipaaPSure17
set_option autoImplicit false
namespace Go.Proofs.Ytfhehbfifffipaa
open Go.V Go.RowKit

/-- The climb from a place. -/
def climbP (t : Tm) (p q : Nat) (S : List Int) (fs : List Fr) : List MHop × List Int × Bool := climbF q p (.leaf S) [cls q] [] fs
theorem m_of {l : List MTerm} (hw : ∀ x ∈ l, wfTerm x) {t : Tm} (ht : IsT l t) (hR : RightB l = true) {fuel : Nat} (hf : 401 < fuel) : ∃ c, m_follow_of fuel l = some (some c, true) ∧ ChartT c l t := by
  obtain ⟨u, e1, hu⟩ := m_Up ht hR hf
  obtain ⟨d, e2, hd⟩ := m_Deep ht hR hf
  refine ⟨⟨l, u, d, idxL l l.length, CanF l⟩, ?_, ⟨rfl, hu, hd, rfl, rfl⟩⟩
  unfold m_follow_of
  rw [m_Right l hf, e1, e2, m_Index hw hf, m_Can hw hf]
  simp [hR, IndexF]
theorem m_of_no {l : List MTerm} (hR : RightB l = false) {fuel : Nat} (hf : 401 < fuel) : m_follow_of fuel l = some (none, false) := by
  unfold m_follow_of
  rw [m_Right l hf]
  simp [hR]
theorem m_at {l : List MTerm} (hw : ∀ x ∈ l, wfTerm x) {t : Tm} (ht : IsT l t) (hR : RightB l = true) {fuel : Nat} (hf : 401 < fuel) {p q : Nat} {S : List Int} {fs : List Fr} (hp : IsPlace l t p q S fs) (hpl : p < leavesN l l.length) :
    ∃ c, m_follow_at fuel l (p : Int) = some (some c, (q : Int), true) ∧ ChartT c l t := by
  obtain ⟨c, e, hc⟩ := m_of hw ht hR hf
  refine ⟨c, ?_, hc⟩
  have hLF : LeavesF l = leavesL l l.length := by simp [LeavesF, hR]
  have h0 : ¬ ((p : Int) < 0) := by omega
  have h1 : ¬ ((p : Int) ≥ ((leavesL l l.length).length : Int)) := by rw [leavesL_len]; omega
  have hin : inb (leavesL l l.length) (p : Int) = true := inb_true (by omega) (by rw [leavesL_len]; omega)
  unfold m_follow_at
  rw [e, m_Leaves hw hf, hLF]
  simp [h0, h1, hin, gt_get_nat hp.get]
  omega
theorem m_at_no {l : List MTerm} (hw : ∀ x ∈ l, wfTerm x) {fuel : Nat} (hf : 401 < fuel) {p : Int} (hp : RightB l = false ∨ p < 0 ∨ (leavesN l l.length : Int) ≤ p) : m_follow_at fuel l p = some (none, 0, false) := by
  unfold m_follow_at
  cases hR : RightB l with
  | false => rw [m_of_no hR hf]; simp
  | true =>
    obtain ⟨t, ht⟩ := tree_of hw hR
    obtain ⟨c, e, hc⟩ := m_of hw ht hR hf
    have hLF : LeavesF l = leavesL l l.length := by simp [LeavesF, hR]
    have hp' := hp.resolve_left (by simp [hR])
    rw [e, m_Leaves hw hf, hLF]
    rcases hp' with h | h
    · simp [h]
    · have h1 : p ≥ ((leavesL l l.length).length : Int) := by rw [leavesL_len]; exact h
      by_cases h0 : p < 0
      · simp [h0]
      · simp [h0, h1]
theorem m_climb_at {l : List MTerm} (hw : ∀ x ∈ l, wfTerm x) {t : Tm} (ht : IsT l t) (hR : RightB l = true) {c : MFollowChart} (hc : ChartT c l t) {fuel : Nat} (hf : 1000001 < fuel) {p q : Nat} {S : List Int} {fs : List Fr} (hp : IsPlace l t p q S fs) :
    m_follow_chart_climb fuel c (q : Int) = some ((climbP t p q S fs).1, if (climbP t p q S fs).2.2 then (climbP t p q S fs).2.1 else []) := by
  have h400 := ht.le; have hln := ht.len
  have hsz := hp.ctx.size
  have hat := hp.ctx.at_ ht
  have hq : q < l.length := by have := hat.len; simp only [Tm.size] at this; omega
  have hiu : inb c.up (q : Int) = true := inb_true (by omega) (by rw [hc.up.len]; omega)
  obtain ⟨r, h1, h2, h3⟩ := m_climb hw ht hR hc hf (q : Int) fs q (.leaf S) [cls q] [] hp.ctx (by simp; simp only [Tm.size] at hsz; omega) (by simp; simp only [Tm.size] at hsz; omega) fuel (by simp only [Tm.size] at hsz; omega)
  unfold m_follow_chart_climb
  rw [hp.num] at h2
  simp only [Tm.top, Tm.size, Nat.add_sub_cancel] at h1
  simp only [hiu, if_true, W_opn (show q ≤ 1000000000 by omega), W_cls (show q ≤ 1000000000 by omega), h1, bind_some']
  unfold climbP
  rw [← h2]
  cases r with
  | inl y => obtain ⟨y1, y2⟩ := y; rfl
  | inr z => obtain ⟨z1, z2⟩ := z; rw [h3 z1 z2 rfl]; rfl
theorem r_climb_at {l : List MTerm} (hw : ∀ x ∈ l, wfTerm x) {t : Tm} (ht : IsT l t) (hR : RightB l = true) {fuel : Nat} (hf : 1000001 < fuel) {p q : Nat} {S : List Int} {fs : List Fr} (hp : IsPlace l t p q S fs) (hpl : p < leavesN l l.length) :
    m_ref17_climb fuel l (p : Int) = some ((climbP t p q S fs).1, if (climbP t p q S fs).2.2 then (⟨-1, 0, (climbP t p q S fs).2.1⟩, true) else (⟨0, 0, []⟩, false)) := by
  have h400 := ht.le; have hln := ht.len
  have hsz := hp.ctx.size
  have hat := hp.ctx.at_ ht
  have hq : q < l.length := by have := hat.len; simp only [Tm.size] at this; omega
  obtain ⟨u, e1, hu⟩ := r_Up ht hR (show 401 < fuel by omega)
  obtain ⟨d, e2, hd⟩ := r_Deep ht hR (show 401 < fuel by omega)
  have hLF : LeavesF l = leavesL l l.length := by simp [LeavesF, hR]
  have hIF : IndexF l = idxL l l.length := by simp [IndexF, hR]
  have hin : inb (leavesL l l.length) (p : Int) = true := inb_true (by omega) (by rw [leavesL_len]; omega)
  obtain ⟨r, h1, h2, h3⟩ := r_climb ht hR hu hd hf (leavesL l l.length) (p : Int) ⟨0, 0, []⟩ fs q (.leaf S) [cls q] [] hp.ctx (by simp; simp only [Tm.size] at hsz; omega) (by simp; simp only [Tm.size] at hsz; omega) fuel (by simp only [Tm.size] at hsz; omega)
  unfold m_ref17_climb
  rw [hp.num] at h2
  simp only [Tm.top, Tm.size, Nat.add_sub_cancel] at h1
  rw [e1, e2, r_Index hw (by omega) (by omega) (by omega), r_Can hw (by omega) (by omega) (by omega), r_Leaves hw (by omega) (by omega) (by omega), hLF, hIF]
  simp only [bind_some', hin, if_true, gt_get_nat hp.get, W_opn (show q ≤ 1000000000 by omega), W_cls (show q ≤ 1000000000 by omega), h1]
  unfold climbP
  rw [← h2]
  cases r with
  | inl y => obtain ⟨y1, y2, y3⟩ := y; rfl
  | inr z => obtain ⟨z1, z2, z3⟩ := z; obtain ⟨rfl, rfl⟩ := h3 z1 z2 z3 rfl; rfl
theorem climbP_ways {l : List MTerm} {t : Tm} (ht : IsT l t) {p q : Nat} {S : List Int} {fs : List Fr} (hp : IsPlace l t p q S fs) : Ways t.leaves (climbP t p q S fs).1 ∧ (climbP t p q S fs).2.1.length ≤ 500000 := by
  have hsz := hp.ctx.size
  have h400 := ht.le
  have := climbF_ways ht fs q (.leaf S) [cls q] [] hp.ctx ⟨by simp, List.Pairwise.nil⟩ (by simp; simp only [Tm.size] at hsz; omega)
  rw [hp.num] at this
  exact this
theorem climbF_len {l : List MTerm} {t : Tm} (ht : IsT l t) : ∀ (fs : List Fr) (lo p : Nat) (s : Tm) (st : List Int) (out : List MHop), Ctx t lo s fs → out.length + 1000 * fs.length ≤ 500000 → (climbF lo p s st out fs).1.length ≤ 500000
  | [], lo, p, s, st, out, hx, hl => by simp only [climbF]; simpa using hl
  | f :: fs, lo, p, s, st, out, hx, hl => by
    have hpar := hx.2.at_ ht
    have hlen := hpar.len
    have h400 := ht.le; have hln := ht.len
    simp only [List.length_cons] at hl
    cases f with
    | catL b =>
      simp only [Fr.plug, Fr.off, Nat.sub_zero, Tm.size] at hlen
      have h1 := turnsF_len ((fs.length + 1 : Nat) : Int) (b.into (lo + s.size) (p + s.leaves) st) out
      have h2 := b.into_len (lo + s.size) (p + s.leaves) st
      have h3 := b.leaves_le
      simp only [climbF]
      split
      · exact climbF_len ht fs lo p (.cat s b) _ _ hx.2 (by omega)
      · dsimp only; omega
    | star =>
      simp only [Fr.plug, Fr.off, Nat.sub_zero, Tm.size] at hlen
      have h1 := turnsF_len ((fs.length + 1 : Nat) : Int) (s.into lo p st) out
      have h2 := s.into_len lo p st
      have h3 := s.leaves_le
      simp only [climbF]
      exact climbF_len ht fs lo p (.star s) _ _ hx.2 (by omega)
    | catR a => exact climbF_len ht fs (lo - (Fr.catR a).off) (p - (Fr.catR a).lvs) ((Fr.catR a).plug s) _ out hx.2 (by omega)
    | altR a => exact climbF_len ht fs (lo - (Fr.altR a).off) (p - (Fr.altR a).lvs) ((Fr.altR a).plug s) _ out hx.2 (by omega)
    | altL b => exact climbF_len ht fs (lo - (Fr.altL b).off) (p - (Fr.altL b).lvs) ((Fr.altL b).plug s) _ out hx.2 (by omega)
    | maybe => exact climbF_len ht fs (lo - Fr.maybe.off) (p - Fr.maybe.lvs) (Fr.maybe.plug s) _ out hx.2 (by omega)
    | group n => exact climbF_len ht fs (lo - (Fr.group n).off) (p - (Fr.group n).lvs) ((Fr.group n).plug s) _ out hx.2 (by omega)
    | iter => exact climbF_len ht fs (lo - Fr.iter.off) (p - Fr.iter.lvs) (Fr.iter.plug s) _ out hx.2 (by omega)
theorem climbP_len {l : List MTerm} {t : Tm} (ht : IsT l t) {p q : Nat} {S : List Int} {fs : List Fr} (hp : IsPlace l t p q S fs) : (climbP t p q S fs).1.length ≤ 500000 := by
  have hsz := hp.ctx.size
  have h400 := ht.le
  exact climbF_len ht fs q p (.leaf S) [cls q] [] hp.ctx (by simp; simp only [Tm.size] at hsz; omega)

/-! From. -/
theorem m_From {l : List MTerm} (hw : ∀ x ∈ l, wfTerm x) {t : Tm} (ht : IsT l t) (hR : RightB l = true) {fuel : Nat} (hf : 1000001 < fuel) {p q : Nat} {S : List Int} {fs : List Fr} (hp : IsPlace l t p q S fs) (hpl : p < leavesN l l.length) :
    m_follow_From fuel l (p : Int) = some (sortK MHop.To (climbP t p q S fs).1) := by
  obtain ⟨c, e, hc⟩ := m_at hw ht hR (show 401 < fuel by omega) hp hpl
  obtain ⟨hways, _⟩ := climbP_ways ht hp
  have hl := climbP_len ht hp
  have hlv := ht.lv
  unfold m_follow_From
  rw [e]
  simp only [bind_some', m_climb_at hw ht hR hc hf hp, hways.soOk (by omega) (by omega), if_true]
  have hperm := sortK_perm MHop.To (climbP t p q S fs).1
  rw [m_own _ (by rw [sortK_len]; omega) (by rw [sortK_len]; omega) (fun h hh => (hways.ok h (hperm.mem_iff.1 hh)).2.2)]
  simp
theorem r_From {l : List MTerm} (hw : ∀ x ∈ l, wfTerm x) {t : Tm} (ht : IsT l t) (hR : RightB l = true) {fuel : Nat} (hf : 1000001 < fuel) {p q : Nat} {S : List Int} {fs : List Fr} (hp : IsPlace l t p q S fs) (hpl : p < leavesN l l.length) :
    m_ref17_From fuel l (p : Int) = some (sortK MHop.To (climbP t p q S fs).1) := by
  obtain ⟨hways, _⟩ := climbP_ways ht hp
  have hl := climbP_len ht hp
  have hlv := ht.lv; have h400 := ht.le; have hln := ht.len
  have hla := leavesN_all ht
  have hLF : LeavesF l = leavesL l l.length := by simp [LeavesF, hR]
  have hrl := r_Leaves hw (show l.length * 64 ≤ 140737488351232 by omega) (show 401 < fuel by omega) (by omega)
  rw [hLF] at hrl
  have h0 : ¬ ((p : Int) < 0) := by omega
  have h1 : ¬ ((p : Int) ≥ ((leavesL l l.length).length : Int)) := by rw [leavesL_len]; omega
  unfold m_ref17_From
  simp only [h0, decide_false, Bool.false_eq_true, if_false, hrl, bind_some', h1, r_climb_at hw ht hR hf hp hpl]
  generalize hcl : (climbP t p q S fs).1 = out at *
  generalize hx3 : (out, (if (climbP t p q S fs).2.2 = true then ((⟨-1, 0, (climbP t p q S fs).2.1⟩ : MHop), true) else (⟨0, 0, []⟩, false))) = x3
  have hx1 : x3.1 = out := by rw [← hx3]
  have inner : ∀ (r : Nat) (x4 acc : List MHop), acc.length + out.length ≤ 1000000 → iter (m_ref17_From_l2 fuel l x3 x4 (r : Int)) fuel (acc, 0) = some (acc ++ out.filter fun h => h.To == (r : Int)) := by
    intro r x4 acc hacc
    have := iter_up (step := m_ref17_From_l2 fuel l x3 x4 (r : Int)) (fun i => (acc ++ (out.take i).filter (fun h => h.To == (r : Int)), (i : Int))) (acc ++ out.filter fun h => h.To == (r : Int)) out.length (fun i hi => .inl (by
      have hin : inb out (i : Int) = true := inb_true (by omega) (by omega)
      have hd1 : (i : Int) < (out.length : Int) := by omega
      have hg : gt out (i : Int) = out[i] := gt_get_nat (by simp [hi])
      have hle : ((out.take i).filter (fun h => h.To == (r : Int))).length ≤ i := Nat.le_trans (List.length_filter_le _ _) (by simp; omega)
      have hap : apOk 40 (acc ++ (out.take i).filter (fun h => h.To == (r : Int))) [out[i]] = true := apOk_true (by simp; omega)
      have htk : out.take (i + 1) = out.take i ++ [out[i]] := List.take_succ_eq_append_getElem hi
      unfold m_ref17_From_l2
      simp only [hx1, hd1, decide_true, if_true, hin, hg, hap, W_succ (show i < 9223372036854775807 by omega), htk, List.filter_append]
      by_cases c : (out[i].To == (r : Int)) = true
      · simp [c]
      · simp [c])) (by unfold m_ref17_From_l2; simp [hx1]) out.length 0 fuel (by omega) (by omega)
    simpa using this
  have outer := iter_up (step := m_ref17_From_l1 fuel l x3) (fun r => (bucket out r, (r : Int))) (bucket out t.leaves) t.leaves (fun r hr => .inl (by
    have hd1 : (r : Int) < ((leavesL l l.length).length : Int) := by rw [leavesL_len, hla]; omega
    unfold m_ref17_From_l1
    have := bucket_len out r
    simp only [hrl, bind_some', hd1, decide_true, if_true, inner r (bucket out r) (bucket out r) (by omega), W_succ (show r < 9223372036854775807 by omega)]
    rfl)) (by unfold m_ref17_From_l1; simp [hrl, leavesL_len, hla]) t.leaves 0 fuel (by omega) (by omega)
  simp only [bucket] at outer
  rw [show (([] : List MHop), (0 : Int)) = ([], ((0 : Nat) : Int)) from rfl, outer, bucket_sort hways]
  rfl
theorem m_From_no {l : List MTerm} (hw : ∀ x ∈ l, wfTerm x) {fuel : Nat} (hf : 401 < fuel) {p : Int} (hp : RightB l = false ∨ p < 0 ∨ (leavesN l l.length : Int) ≤ p) : m_follow_From fuel l p = some [] := by
  unfold m_follow_From
  rw [m_at_no hw hf hp]; simp
theorem r_From_no {l : List MTerm} (hw : ∀ x ∈ l, wfTerm x) (hl : l.length * 64 ≤ 140737488351232) {fuel : Nat} (hf : 401 < fuel) (hf2 : l.length + 1 < fuel) {p : Int} (hp : RightB l = false ∨ p < 0 ∨ (leavesN l l.length : Int) ≤ p) : m_ref17_From fuel l p = some [] := by
  unfold m_ref17_From
  by_cases h0 : p < 0
  · simp [h0]
  · have h1 : p ≥ ((LeavesF l).length : Int) := by
      cases hR : RightB l with
      | false => simp [LeavesF, hR]; omega
      | true =>
        rw [show LeavesF l = leavesL l l.length by simp [LeavesF, hR], leavesL_len]
        rcases hp with h | h | h
        · simp [hR] at h
        · omega
        · exact h
    rw [r_Leaves hw hl hf hf2]
    simp [h0, h1]
/-! End. -/
def EndR (s : List Int) : MHop × Bool := if s.length = 0 then (⟨0, 0, []⟩, false) else (⟨-1, 0, s⟩, true)
theorem climbF_pos : ∀ (fs : List Fr) (lo p : Nat) (s : Tm) (st : List Int) (out : List MHop), st ≠ [] → (climbF lo p s st out fs).2.2 = true → (climbF lo p s st out fs).2.1 ≠ []
  | [], lo, p, s, st, out, hst, _ => by simpa only [climbF] using hst
  | f :: fs, lo, p, s, st, out, hst, h => by
    cases f with
    | catL b =>
      simp only [climbF] at h ⊢
      split at h
      · rename_i hb; rw [if_pos hb]; exact climbF_pos fs _ _ _ _ _ (by simp) h
      · simp at h
    | star => simp only [climbF] at h ⊢; exact climbF_pos fs _ _ _ _ _ (by simp) h
    | catR a => exact climbF_pos fs (lo - (Fr.catR a).off) (p - (Fr.catR a).lvs) ((Fr.catR a).plug s) _ out (by simp) h
    | altR a => exact climbF_pos fs (lo - (Fr.altR a).off) (p - (Fr.altR a).lvs) ((Fr.altR a).plug s) _ out (by simp) h
    | altL b => exact climbF_pos fs (lo - (Fr.altL b).off) (p - (Fr.altL b).lvs) ((Fr.altL b).plug s) _ out (by simp) h
    | maybe => exact climbF_pos fs (lo - Fr.maybe.off) (p - Fr.maybe.lvs) (Fr.maybe.plug s) _ out (by simp) h
    | group n => exact climbF_pos fs (lo - (Fr.group n).off) (p - (Fr.group n).lvs) ((Fr.group n).plug s) _ out (by simp) h
    | iter => exact climbF_pos fs (lo - Fr.iter.off) (p - Fr.iter.lvs) (Fr.iter.plug s) _ out (by simp) h
theorem m_End {l : List MTerm} (hw : ∀ x ∈ l, wfTerm x) {t : Tm} (ht : IsT l t) (hR : RightB l = true) {fuel : Nat} (hf : 1000001 < fuel) {p q : Nat} {S : List Int} {fs : List Fr} (hp : IsPlace l t p q S fs) (hpl : p < leavesN l l.length) :
    m_follow_End fuel l (p : Int) = some (EndR (if (climbP t p q S fs).2.2 then (climbP t p q S fs).2.1 else [])) := by
  obtain ⟨c, e, hc⟩ := m_at hw ht hR (show 401 < fuel by omega) hp hpl
  have h1 : ((p : Int) == -1) = false := by simp
  unfold m_follow_End EndR
  simp only [h1, Bool.false_eq_true, if_false, e, bind_some', if_true, m_climb_at hw ht hR hc hf hp]
  generalize (if (climbP t p q S fs).2.2 = true then (climbP t p q S fs).2.1 else []) = s
  by_cases hs : s.length = 0 <;> simp [hs]
theorem r_End {l : List MTerm} (hw : ∀ x ∈ l, wfTerm x) {t : Tm} (ht : IsT l t) (hR : RightB l = true) {fuel : Nat} (hf : 1000001 < fuel) {p q : Nat} {S : List Int} {fs : List Fr} (hp : IsPlace l t p q S fs) (hpl : p < leavesN l l.length) :
    m_ref17_End fuel l (p : Int) = some (EndR (if (climbP t p q S fs).2.2 then (climbP t p q S fs).2.1 else [])) := by
  have h1 : ((p : Int) == -1) = false := by simp
  have h2 : ¬ ((p : Int) < -1) := by omega
  have h400 := ht.le; have hln := ht.len
  have hLF : LeavesF l = leavesL l l.length := by simp [LeavesF, hR]
  have h3 : ¬ ((p : Int) ≥ ((leavesL l l.length).length : Int)) := by rw [leavesL_len]; omega
  unfold m_ref17_End EndR
  simp only [h2, decide_false, Bool.false_eq_true, if_false, r_Right l (show l.length * 64 ≤ 140737488351232 by omega) (show l.length + 1 < fuel by omega), hR, Bool.not_true, bind_some', r_Leaves hw (show l.length * 64 ≤ 140737488351232 by omega) (show 401 < fuel by omega) (by omega), hLF, h3, h1, r_climb_at hw ht hR hf hp hpl]
  by_cases hb : (climbP t p q S fs).2.2 = true
  · have := climbF_pos fs q p (.leaf S) [cls q] [] (by simp) hb
    have h5 : (climbP t p q S fs).2.1.length ≠ 0 := fun h => this (List.eq_nil_of_length_eq_zero h)
    simp [hb, h5]
  · simp [hb]
theorem m_End_begin {l : List MTerm} (hw : ∀ x ∈ l, wfTerm x) {t : Tm} (ht : IsT l t) (hR : RightB l = true) {fuel : Nat} (hf : 1000001 < fuel) : m_follow_End fuel l (-1) = some (EndR (if t.can then t.steps 0 else [])) ∧ m_ref17_End fuel l (-1) = some (EndR (if t.can then t.steps 0 else [])) := by
  have h400 := ht.le; have hln := ht.len; have hp := t.size_pos
  have hW : W ((l.length : Int) - 1) = (t.top 0 : Int) := by rw [W_id (by omega) (by omega)]; unfold Tm.top; omega
  have hLF : LeavesF l = leavesL l l.length := by simp [LeavesF, hR]
  have h3 : ¬ ((-1 : Int) ≥ ((leavesL l l.length).length : Int)) := by omega
  constructor
  · unfold m_follow_End EndR
    simp only [beq_self_eq_true, if_true, hW, m_Steps hw ht hR (show 401 < fuel by omega) ht.at0, bind_some']
    generalize (if t.can = true then t.steps 0 else []) = s
    by_cases hs : s.length = 0
    · simp [hs]
    · simp [hs]
  · unfold m_ref17_End EndR
    simp only [show ¬ ((-1 : Int) < -1) from by omega, decide_false, Bool.false_eq_true, if_false, r_Right l (show l.length * 64 ≤ 140737488351232 by omega) (show l.length + 1 < fuel by omega), hR, Bool.not_true, bind_some', r_Leaves hw (show l.length * 64 ≤ 140737488351232 by omega) (show 401 < fuel by omega) (by omega), hLF, h3, beq_self_eq_true, if_true, hW, r_Steps hw ht hR (show 401 < fuel by omega) ht.at0]
    generalize (if t.can = true then t.steps 0 else []) = s
    by_cases hs : s.length = 0
    · simp [hs]
    · simp [hs]
theorem m_Steps_no {l : List MTerm} (hw : ∀ x ∈ l, wfTerm x) (hR : RightB l = false) {fuel : Nat} (hf : 401 < fuel) (q : Int) : m_null_Steps fuel l q = some [] := by
  unfold m_null_Steps
  rw [m_Can hw hf, show CanF l = [] by simp [CanF, hR]]
  by_cases h : q < 0
  · simp [h]
  · have h2 : q ≥ 0 := by omega
    simp [h, h2]
theorem m_End_no {l : List MTerm} (hw : ∀ x ∈ l, wfTerm x) (hl : l.length * 64 ≤ 140737488351232) {fuel : Nat} (hf : 401 < fuel) (hf2 : l.length + 1 < fuel) {p : Int} (hp : RightB l = false ∨ p < -1 ∨ (leavesN l l.length : Int) ≤ p) : m_follow_End fuel l p = some (EndR []) ∧ m_ref17_End fuel l p = some (EndR []) := by
  constructor
  · unfold m_follow_End EndR
    by_cases h1 : p = -1
    · subst h1
      have hR : RightB l = false := by
        rcases hp with h | h | h
        · exact h
        · omega
        · omega
      simp [m_Steps_no hw hR hf]
    · have hp' : RightB l = false ∨ p < 0 ∨ (leavesN l l.length : Int) ≤ p := by
        rcases hp with h | h | h
        · exact .inl h
        · exact .inr (.inl (by omega))
        · exact .inr (.inr h)
      simp [h1, m_at_no hw hf hp']
  · unfold m_ref17_End EndR
    by_cases h1 : p < -1
    · simp [h1]
    · rw [r_Right l hl hf2]
      cases hR : RightB l with
      | false => simp [h1]
      | true =>
        have h2 : p ≥ ((LeavesF l).length : Int) := by
          rw [show LeavesF l = leavesL l l.length by simp [LeavesF, hR], leavesL_len]
          rcases hp with h | h | h
          · simp [hR] at h
          · omega
          · exact h
        simp [h1, r_Leaves hw hl hf hf2, h2]
/-! First. -/
theorem node_idx {l : List MTerm} {t : Tm} (ht : IsT l t) {q : Int} (h0 : 0 ≤ q) (h1 : q < l.length) : ∃ lo s, At l lo s ∧ (s.top lo : Int) = q := by
  obtain ⟨lo, s, h2, h3⟩ := ht.node (i := q.toNat) (by omega)
  exact ⟨lo, s, h2, by omega⟩
theorem m_First {l : List MTerm} (hw : ∀ x ∈ l, wfTerm x) {t : Tm} (ht : IsT l t) (hR : RightB l = true) {fuel : Nat} (hf : 1000001 < fuel) {lo : Nat} {s : Tm} (h : At l lo s) : m_follow_First fuel l (s.top lo : Int) = some (s.into lo (leavesN l lo) []) ∧ m_ref17_First fuel l (s.top lo : Int) = some (s.into lo (leavesN l lo) []) := by
  have h400 := ht.le; have hln := ht.len
  have htop := h.top_lt
  have hsl := h.len
  have h0 : ¬ ((s.top lo : Int) < 0) := by omega
  have h1 : ¬ ((s.top lo : Int) ≥ (l.length : Int)) := by omega
  have hil := s.into_len lo (leavesN l lo) []
  have hls := s.leaves_le
  constructor
  · obtain ⟨c, e, hc⟩ := m_of hw ht hR (show 401 < fuel by omega)
    unfold m_follow_First
    rw [e]
    simp only [Bool.not_true, Bool.false_eq_true, if_false, h0, decide_false, h1, bind_some', m_into hw ht hR hc (show 401 < fuel by omega) s lo h fuel [] [] (by omega) (by simp; omega) (by simp; omega), List.nil_append]
    rw [m_own _ (by omega) (by omega) (fun h' hh => (s.into_ok lo (leavesN l lo) [] (by omega) (by simp; omega) h' hh).2.2)]
    rfl
  · unfold m_ref17_First
    have hIF : IndexF l = idxL l l.length := by simp [IndexF, hR]
    rw [r_Right l (show l.length * 64 ≤ 140737488351232 by omega) (show l.length + 1 < fuel by omega), hR]
    simp only [Bool.not_true, Bool.false_eq_true, if_false, h0, decide_false, h1, bind_some', r_Index hw (show l.length * 64 ≤ 140737488351232 by omega) (show 401 < fuel by omega) (by omega), r_Can hw (show l.length * 64 ≤ 140737488351232 by omega) (show 401 < fuel by omega) (by omega), hIF, r_into ht hR (show 401 < fuel by omega) s lo h fuel [] (by omega) (by simp; omega)]
theorem m_First_no {l : List MTerm} (hw : ∀ x ∈ l, wfTerm x) (hl : l.length * 64 ≤ 140737488351232) {fuel : Nat} (hf : 401 < fuel) (hf2 : l.length + 1 < fuel) {q : Int} (hq : RightB l = false ∨ q < 0 ∨ (l.length : Int) ≤ q) : m_follow_First fuel l q = some [] ∧ m_ref17_First fuel l q = some [] := by
  constructor
  · unfold m_follow_First
    cases hR : RightB l with
    | false => rw [m_of_no hR hf]; simp
    | true =>
      obtain ⟨t, ht⟩ := tree_of hw hR
      obtain ⟨c, e, hc⟩ := m_of hw ht hR hf
      rw [e]
      rcases hq with h | h | h
      · simp [hR] at h
      · simp [h]
      · by_cases h0 : q < 0 <;> simp [h0, h]
  · unfold m_ref17_First
    rw [r_Right l hl hf2]
    cases hR : RightB l with
    | false => simp
    | true =>
      rcases hq with h | h | h
      · simp [hR] at h
      · simp [h]
      · by_cases h0 : q < 0 <;> simp [h0, h]
/-! Two ways, two lists of ways. -/
theorem r_Same {fuel : Nat} (h : MHop) (hf : h.Steps.length < fuel) (hl : h.Steps.length ≤ 1000000000) : m_ref17_Same fuel h h = some true := by
  have := iter_up (step := m_ref17_Same_l1 fuel h h) (fun i => (i : Int)) (.inl ()) h.Steps.length (fun i hi => .inl (by
    have hin : inb h.Steps (i : Int) = true := inb_true (by omega) (by omega)
    have hd1 : (i : Int) < (h.Steps.length : Int) := by omega
    unfold m_ref17_Same_l1
    simp [hd1, hin, W_succ (show i < 9223372036854775807 by omega)])) (by unfold m_ref17_Same_l1; simp) h.Steps.length 0 fuel (by omega) (by omega)
  unfold m_ref17_Same
  rw [show (0 : Int) = ((0 : Nat) : Int) from rfl, this]
  simp
theorem r_All {fuel : Nat} (out : List MHop) (hf : out.length < fuel) (hl : out.length ≤ 1000000000) (hs : ∀ h ∈ out, h.Steps.length ≤ 2000000) (hf2 : 2000000 < fuel) : m_ref17_All fuel out out = some true := by
  have := iter_up (step := m_ref17_All_l1 fuel out out) (fun i => (i : Int)) (.inl ()) out.length (fun i hi => .inl (by
    have hin : inb out (i : Int) = true := inb_true (by omega) (by omega)
    have hd1 : (i : Int) < (out.length : Int) := by omega
    have hg : gt out (i : Int) = out[i] := gt_get_nat (by simp [hi])
    have h1 := hs out[i] (List.getElem_mem _)
    unfold m_ref17_All_l1
    simp only [hd1, decide_true, if_true, hin, hg, r_Same (fuel := fuel) out[i] (by omega) (by omega), bind_some', Bool.not_true, Bool.false_eq_true, if_false, W_succ (show i < 9223372036854775807 by omega)])) (by unfold m_ref17_All_l1; simp) out.length 0 fuel (by omega) (by omega)
  unfold m_ref17_All
  rw [show (0 : Int) = ((0 : Nat) : Int) from rfl, this]
  simp
end Go.Proofs.Ytfhehbfifffipaa
