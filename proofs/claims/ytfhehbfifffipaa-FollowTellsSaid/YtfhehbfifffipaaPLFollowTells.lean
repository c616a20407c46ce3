/- FollowTells: the ways into any node of any term, from any place, and to the end, are those that the document tells. Its conditions: none. -/
import Derived.Test.YtfhehbfifffipaaPFol9
import Derived.Test.YtfhehbfifffipaaFFollowTells
set_option autoImplicit false
namespace Go.Proofs.Ytfhehbfifffipaa
open Go.V Go.RowKit

theorem endR_len {s : List Int} (h : s.length ≤ 500000) : (EndR s).1.Steps.length ≤ 500000 := by
  unfold EndR; split <;> simp [h]
/-- What the program and the document tell alike. -/
structure Tells (fuel : Nat) (l : List MTerm) (q p : Int) (e : MHop × Bool) (a b : List MHop) : Prop where
  me : m_follow_End fuel l p = some e
  re : m_ref17_End fuel l p = some e
  ma : m_follow_First fuel l q = some a
  ra : m_ref17_First fuel l q = some a
  mb : m_follow_From fuel l p = some b
  rb : m_ref17_From fuel l p = some b
  el : e.1.Steps.length ≤ 2000000
  al : a.length ≤ 1000000 ∧ ∀ h ∈ a, h.Steps.length ≤ 2000000
  bl : b.length ≤ 1000000 ∧ ∀ h ∈ b, h.Steps.length ≤ 2000000
theorem tells {l : List MTerm} (hw : ∀ x ∈ l, wfTerm x) (hl : l.length * 64 ≤ 140737488351232) {fuel : Nat} (hf : 1000001 < fuel) (hf2 : l.length + 1 < fuel) (q p : Int) : ∃ e a b, Tells fuel l q p e a b := by
  have hfirst : ∃ a : List MHop, m_follow_First fuel l q = some a ∧ m_ref17_First fuel l q = some a ∧ a.length ≤ 1000000 ∧ ∀ h ∈ a, h.Steps.length ≤ 2000000 := by
    by_cases hq : RightB l = false ∨ q < 0 ∨ (l.length : Int) ≤ q
    · obtain ⟨h1, h2⟩ := m_First_no hw hl (show 401 < fuel by omega) hf2 hq
      exact ⟨[], h1, h2, by simp, by simp⟩
    · have hR : RightB l = true := by
        cases h : RightB l with
        | true => rfl
        | false => exact absurd (.inl h) hq
      obtain ⟨t, ht⟩ := tree_of hw hR
      have h0 : 0 ≤ q := by
        rcases Int.lt_or_le q 0 with h | h
        · exact absurd (.inr (.inl h)) hq
        · exact h
      have h1 : q < l.length := by
        rcases Int.lt_or_le q l.length with h | h
        · exact h
        · exact absurd (.inr (.inr h)) hq
      obtain ⟨lo, s, hat, rfl⟩ := node_idx ht h0 h1
      obtain ⟨h2, h3⟩ := m_First hw ht hR hf hat
      have hil := s.into_len lo (leavesN l lo) []
      have hls := s.leaves_le
      have hsl := hat.len; have h400 := ht.le; have hln := ht.len
      exact ⟨_, h2, h3, by omega, fun h hh => (s.into_ok lo (leavesN l lo) [] (by omega) (by simp; omega) h hh).2.2⟩
  obtain ⟨a, ha1, ha2, ha3, ha4⟩ := hfirst
  by_cases hp : RightB l = false ∨ p < 0 ∨ (leavesN l l.length : Int) ≤ p
  · have hb1 := m_From_no hw (show 401 < fuel by omega) hp
    have hb2 := r_From_no hw hl (show 401 < fuel by omega) hf2 hp
    by_cases hp1 : p = -1 ∧ RightB l = true
    · obtain ⟨rfl, hR⟩ := hp1
      obtain ⟨t, ht⟩ := tree_of hw hR
      obtain ⟨h1, h2⟩ := m_End_begin hw ht hR hf
      have hst := t.steps_le 0
      have h400 := ht.le
      refine ⟨_, a, [], h1, h2, ha1, ha2, hb1, hb2, ?_, ⟨ha3, ha4⟩, ⟨by simp, by simp⟩⟩
      refine Nat.le_trans (endR_len ?_) (by omega)
      split
      · omega
      · simp
    · have hp' : RightB l = false ∨ p < -1 ∨ (leavesN l l.length : Int) ≤ p := by
        rcases hp with h | h | h
        · exact .inl h
        · by_cases e : p = -1
          · refine .inl ?_
            cases hR : RightB l with
            | false => rfl
            | true => exact absurd ⟨e, hR⟩ hp1
          · exact .inr (.inl (by omega))
        · exact .inr (.inr h)
      obtain ⟨h1, h2⟩ := m_End_no hw hl (show 401 < fuel by omega) hf2 hp'
      exact ⟨_, a, [], h1, h2, ha1, ha2, hb1, hb2, by simp [EndR], ⟨ha3, ha4⟩, ⟨by simp, by simp⟩⟩
  · have hR : RightB l = true := by
      cases h : RightB l with
      | true => rfl
      | false => exact absurd (.inl h) hp
    obtain ⟨t, ht⟩ := tree_of hw hR
    obtain ⟨n, rfl⟩ : ∃ n : Nat, p = n := by
      rcases Int.lt_or_le p 0 with h | h
      · exact absurd (.inr (.inl h)) hp
      · exact ⟨p.toNat, by omega⟩
    have hn : n < leavesN l l.length := by
      rcases Nat.lt_or_ge n (leavesN l l.length) with h | h
      · exact h
      · exact absurd (.inr (.inr (by omega))) hp
    obtain ⟨q', S, fs, hpl⟩ := place_of ht hn
    obtain ⟨hways, hlen⟩ := climbP_ways ht hpl
    have hcl := climbP_len ht hpl
    refine ⟨_, a, _, m_End hw ht hR hf hpl hn, r_End hw ht hR hf hpl hn, ha1, ha2, m_From hw ht hR hf hpl hn, r_From hw ht hR hf hpl hn, ?_, ⟨ha3, ha4⟩, ⟨by rw [sortK_len]; omega, fun h hh => (hways.ok h ((sortK_perm MHop.To _).mem_iff.1 hh)).2.2⟩⟩
    refine Nat.le_trans (endR_len ?_) (by omega)
    split
    · exact hlen
    · simp
theorem followTells_law : FollowTellsLaw := by
  intro l q p hw hl hq hp
  refine ⟨10000000000000, ?_⟩
  have hs := sure17
  have hf : 2000001 < 10000000000000 := by omega
  have hf2 : l.length + 1 < 10000000000000 := by omega
  generalize 10000000000000 = fuel at *
  obtain ⟨e, a, b, T⟩ := tells hw hl (show 1000001 < fuel by omega) hf2 q p
  have sa := r_All (fuel := fuel) a (by have := T.al.1; omega) (by have := T.al.1; omega) T.al.2 (by omega)
  have sb := r_All (fuel := fuel) b (by have := T.bl.1; omega) (by have := T.bl.1; omega) T.bl.2 (by omega)
  have se := r_Same (fuel := fuel) e.1 (by have := T.el; omega) (by have := T.el; omega)
  unfold m_law17_FollowTells
  rw [r_Right l hl hf2]
  simp only [hs, T.me, T.re, T.ma, T.ra, T.mb, T.rb, sa, sb, se, bind_some', if_true, beq_self_eq_true]
  by_cases h6 : (l.length : Int) > 60 <;> by_cases h5 : (l.length : Int) > 500 <;> cases RightB l <;> simp [h6, h5]
theorem followTells_holds : Rows.FollowTellsSaid := frameFollowTells followTells_law
end Go.Proofs.Ytfhehbfifffipaa
