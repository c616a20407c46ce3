/- Moves: an order is run to its end. Its conditions: none. -/
import Derived.Test.YtinehfaelciljaaPMov2
set_option autoImplicit false
namespace Go.Proofs.Ytinehfaelciljaa
open Go.V Go.RowKit
variable {f : Int → Int} {K : List Int} {sp now : Int} {n : Nat} {r0 : Int → Int}
theorem MInv.waits {o : MMovesOrder} {q : Nat} (I : MInv f K sp n now r0 o q) {t : Int} : waitsB o t = true ↔ ∃ s ∈ Pk o, mget o.left s = t := by
  unfold waitsB
  rw [List.any_eq_true]
  constructor
  · rintro ⟨s, hs, h⟩
    simp only [Bool.and_eq_true, beq_iff_eq] at h
    exact ⟨s, (mhas_iff _ _).1 h.1, h.2⟩
  · rintro ⟨s, hs, h⟩
    exact ⟨s, by rw [I.keys]; exact I.sub s hs, by rw [(mhas_iff _ _).2 hs, h]; simp⟩
theorem free_step (S : MSet f K sp n) {s : MMovesOrder × Bool} {q : Nat} (I : MInv f K sp n now r0 s.1 q) (t : Int) : MInv f K sp n now r0 (freeS s t).1 q := by
  unfold freeS
  split
  · rename_i c
    simp only [Bool.and_eq_true, Bool.not_eq_true'] at c
    exact I.put S ((mhas_iff _ _).1 c.1) (fun x hx e => by have := I.waits.2 ⟨x, hx, e⟩; rw [c.2] at this; cases this)
  · exact I
theorem free_inv (S : MSet f K sp n) {q : Nat} (ks : List Int) : ∀ s : MMovesOrder × Bool, MInv f K sp n now r0 s.1 q → MInv f K sp n now r0 (ks.foldl freeS s).1 q := by
  induction ks with
  | nil => intro s I; exact I
  | cons t ks ih => intro s I; exact ih _ (free_step S I t)
theorem free_true (ks : List Int) : ∀ s : MMovesOrder × Bool, s.2 = true → (ks.foldl freeS s).2 = true := by
  induction ks with
  | nil => intro s h; exact h
  | cons t ks ih => intro s h; exact ih _ (by unfold freeS; split <;> first | rfl | exact h)
theorem free_false (ks : List Int) : ∀ s : MMovesOrder × Bool, (ks.foldl freeS s).2 = false → ks.foldl freeS s = s ∧ ∀ t ∈ ks, mhas s.1.left t = true → waitsB s.1 t = true := by
  induction ks with
  | nil => intro s h; exact ⟨rfl, fun t ht => by simp at ht⟩
  | cons t ks ih =>
    intro s h
    rw [List.foldl_cons] at h ⊢
    have e : ¬ (mhas s.1.left t && !waitsB s.1 t) = true := by
      intro c
      have : (freeS s t).2 = true := by unfold freeS; rw [if_pos c]
      rw [free_true ks _ this] at h; cases h
    have e2 : freeS s t = s := by unfold freeS; rw [if_neg e]
    rw [e2] at h ⊢
    refine ⟨(ih s h).1, fun u hu hm => ?_⟩
    rcases List.mem_cons.1 hu with rfl | hu
    · rw [hm] at e; simpa using e
    · exact (ih s h).2 u hu hm
theorem mdel_len {m : List (Int × Int)} {k : Int} (h : mhas m k = true) : (mdel m k).length < m.length := by
  have h1 := (mhas_iff _ _).1 h
  have := congrArg List.length (mdel_keys m k)
  rw [List.length_erase_of_mem h1] at this
  have h2 := List.length_pos_of_mem h1
  simp only [List.length_map] at this h2
  omega
theorem free_less (ks : List Int) : ∀ s : MMovesOrder × Bool, (ks.foldl freeS s).1.left.length ≤ s.1.left.length ∧ (s.2 = false → (ks.foldl freeS s).2 = true → (ks.foldl freeS s).1.left.length < s.1.left.length) := by
  induction ks with
  | nil => intro s; exact ⟨Nat.le_refl _, fun h1 h2 => by rw [List.foldl_nil] at h2; rw [h1] at h2; cases h2⟩
  | cons t ks ih =>
    intro s
    rw [List.foldl_cons]
    obtain ⟨h1, h2⟩ := ih (freeS s t)
    by_cases c : (mhas s.1.left t && !waitsB s.1 t) = true
    · have e : freeS s t = (putO s.1 t, true) := by unfold freeS; rw [if_pos c]
      simp only [Bool.and_eq_true] at c
      have h3 : (freeS s t).1.left.length < s.1.left.length := by rw [e]; exact mdel_len c.1
      exact ⟨by omega, fun _ _ => by omega⟩
    · have e : freeS s t = s := by unfold freeS; rw [if_neg c]
      rw [e] at h1 h2 ⊢
      exact ⟨h1, h2⟩
def measO (o : MMovesOrder) : Nat := 2 * o.left.length + (if (o.keys.foldl freeS (o, false)).2 = true then 0 else 1)
theorem MInv.small {o : MMovesOrder} {q : Nat} (I : MInv f K sp n now r0 o q) (hK : K.length ≤ 60) : q ≤ K.length ∧ o.out.length ≤ 120 := by
  have h1 := I.cnt
  have h2 : rings f K n ≤ K.length := List.countP_le_length
  have h3 := I.len
  exact ⟨by omega, by omega⟩
theorem m_run {fuel : Nat} (S : MSet f K sp n) (hK : K.length ≤ 60) (hf : 1000 < fuel) (p0 : MMovesOrder) : ∀ (k : Nat) (o : MMovesOrder) (q fu : Nat), measO o < k → k ≤ fu → MInv f K sp n now r0 o q → ∃ o' q', iter (m_moves_order_run_l1 fuel p0) fu o = some o' ∧ MInv f K sp n now r0 o' q' ∧ o'.left = [] := by
  intro k
  induction k with
  | zero => intro o q fu h; omega
  | succ k ih =>
    intro o q fu hm hfu I
    obtain ⟨fu, rfl⟩ : ∃ m, fu = m + 1 := ⟨fu - 1, by omega⟩
    obtain ⟨_, ho⟩ := I.small hK
    have hkl : o.keys.length ≤ 60 := by rw [I.keys]; exact hK
    by_cases hl : o.left = []
    · refine ⟨o, q, ?_, I, hl⟩
      unfold iter m_moves_order_run_l1
      simp [hl]
    · have hpos : ((o.left.length : Int) > 0) := by
        have : o.left.length ≠ 0 := fun h => hl (List.length_eq_zero_iff.1 h)
        omega
      have hfree := m_free (fuel := fuel) (o := o) (by omega) (by omega) hf
      cases c : (o.keys.foldl freeS (o, false)).2 with
      | true =>
        have hst : m_moves_order_run_l1 fuel p0 o = some (.next (o.keys.foldl freeS (o, false)).1) := by
          unfold m_moves_order_run_l1
          simp only [hpos, decide_true, if_true, hfree, bind_some', c, Bool.not_true, Bool.false_eq_true, if_false]
        have hlt := (free_less o.keys (o, false)).2 rfl c
        simp only at hlt
        obtain ⟨o', q', h1, h2⟩ := ih (o.keys.foldl freeS (o, false)).1 q fu (by
          unfold measO at hm ⊢
          rw [if_pos c] at hm
          split <;> omega) (by omega) (free_inv S o.keys (o, false) I)
        refine ⟨o', q', ?_, h2⟩
        unfold iter
        rw [hst]
        exact h1
      | false =>
        obtain ⟨e, hw⟩ := free_false o.keys (o, false) c
        have hring := m_ring (fuel := fuel) (o := o) (by omega) (by omega) hf
        have hst : m_moves_order_run_l1 fuel p0 o = some (.next (ringO o)) := by
          unfold m_moves_order_run_l1
          simp only [hpos, decide_true, if_true, hfree, bind_some', e, Bool.not_false, hring]
        obtain ⟨I2, hP, t, ht, hno⟩ := I.ring S (fun t ht => I.waits.1 (hw t (by rw [I.keys]; exact I.sub t ht) ((mhas_iff _ _).2 ht))) hl
        have hlen : (ringO o).left.length = o.left.length := by simpa [Pk] using congrArg List.length hP
        have c2 : ((ringO o).keys.foldl freeS (ringO o, false)).2 = true := by
          cases c2 : ((ringO o).keys.foldl freeS (ringO o, false)).2 with
          | true => rfl
          | false =>
            have := (free_false _ _ c2).2 t (by rw [I2.keys]; exact I2.sub t ht) ((mhas_iff _ _).2 ht)
            obtain ⟨s, hs, h⟩ := I2.waits.1 this
            exact absurd h (hno s hs)
        obtain ⟨o', q', h1, h2⟩ := ih (ringO o) (q + 1) fu (by
          unfold measO at hm ⊢
          rw [if_neg (by rw [c]; simp)] at hm
          rw [if_pos c2, hlen]
          omega) (by omega) I2
        refine ⟨o', q', ?_, h2⟩
        unfold iter
        rw [hst]
        exact h1
end Go.Proofs.Ytinehfaelciljaa
