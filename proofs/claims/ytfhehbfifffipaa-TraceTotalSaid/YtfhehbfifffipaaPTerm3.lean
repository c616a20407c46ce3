/- A list that is a term is a tree. Its conditions: none. -/
import Derived.Test.YtfhehbfifffipaaPTerm2
import Derived.Test.YtfhehbfifffipaaRd
set_option autoImplicit false
namespace Go.Proofs.Ytfhehbfifffipaa
open Go.V Go.RowKit

def SetOk (s : List Int) : Prop := s.length = 4 ∧ ∀ y ∈ s, inK .u64 y
def Tm.ok : Tm → Prop
  | .eps => True | .leaf s => SetOk s | .cat a b => a.ok ∧ b.ok | .alt a b => a.ok ∧ b.ok
  | .star a => a.ok | .maybe a => a.ok | .group n a => 1 ≤ n ∧ n ≤ 9 ∧ a.ok | .iter a => a.ok
def Tm.leaves : Tm → Nat
  | .eps => 0 | .leaf _ => 1 | .cat a b => a.leaves + b.leaves | .alt a b => a.leaves + b.leaves
  | .star a => a.leaves | .maybe a => a.leaves | .group _ a => a.leaves | .iter a => a.leaves
theorem Tm.leaves_le (t : Tm) : t.leaves ≤ t.size := by induction t <;> simp [Tm.leaves, Tm.size] <;> omega

/-- Trees that stand behind one another, the last one first. -/
def St (l : List MTerm) (a : List Int) : Nat → List Tm → Prop
  | i, [] => i = 0
  | i, t :: ts => t.size ≤ i ∧ At l (i - t.size) t ∧ t.ok ∧ gt a ((i - 1 : Nat) : Int) = ((i - t.size : Nat) : Int) ∧ leavesN l i = leavesN l (i - t.size) + t.leaves ∧ St l a (i - t.size) ts
theorem St.snoc {l : List MTerm} {a : List Int} {v : Int} : ∀ {ts : List Tm} {i : Nat}, i ≤ a.length → St l a i ts → St l (a ++ [v]) i ts
  | [], _, _, h => h
  | t :: ts, i, hi, ⟨h1, h2, h3, h4, h5, h6⟩ => by
    have := t.size_pos
    exact ⟨h1, h2, h3, by rw [gt_append_left (by omega) (by omega)]; exact h4, h5, St.snoc (by omega) h6⟩
theorem noSet_Z {x : MTerm} (hw : wfTerm x) (h : noSet x = true) : x.Set = Z4 := by
  have hl := hw.2.2.2.2.1
  simp only [noSet, Bool.and_eq_true, beq_iff_eq] at h
  obtain ⟨k, A, B, N, S⟩ := x
  simp only at *
  match S, hl with
  | [s0, s1, s2, s3], _ =>
    obtain ⟨a, b, c, d⟩ := h
    simp [gt] at a b c d
    simp [Z4, a, b, c, d]
theorem lowsN_st {l : List MTerm} (hw : ∀ x ∈ l, wfTerm x) : ∀ {i : Nat} {a : List Int}, lowsN l i = some a → i ≤ l.length → ∃ ts, St l a i ts
  | 0, a, _, _ => ⟨[], rfl⟩
  | i + 1, a, h, hi => by
    simp only [lowsN] at h
    split at h
    · cases h
    · rename_i b hb
      split at h
      · rename_i hg
        cases h
        obtain ⟨ts, hst⟩ := lowsN_st hw hb (by omega)
        have ok := lowsN_ok hb
        simp only [goodB, Bool.and_eq_true, decide_eq_true_eq] at hg
        obtain ⟨⟨h0, hf⟩, _⟩ := hg
        have hget : l[i]? = some (gt l (i : Int)) := by
          have hil : i < l.length := by omega
          rw [gt_get_nat (x := l[i]) (by simp [hil])]; simp [hil]
        have hwx : wfTerm (gt l (i : Int)) := hw _ (List.mem_of_getElem? hget)
        have hgv : gt (b ++ [lowAt l b i]) ((i : Nat) : Int) = lowAt l b i := gt_append_right ok.len.symm
        have hst' : St l (b ++ [lowAt l b i]) i ts := hst.snoc (by rw [ok.len]; omega)
        have hlv : leavesN l (i + 1) = leavesN l i + if (gt l (i : Int)).Kind = 2 then 1 else 0 := rfl
        -- a new tree of what stands last
        have mk : ∀ (t : Tm) (us : List Tm), t.size ≤ i + 1 → At l (i + 1 - t.size) t → t.ok → lowAt l b i = ((i + 1 - t.size : Nat) : Int) → leavesN l (i + 1) = leavesN l (i + 1 - t.size) + t.leaves → St l (b ++ [lowAt l b i]) (i + 1 - t.size) us → ∃ ts, St l (b ++ [lowAt l b i]) (i + 1) ts :=
          fun t us h1 h2 h3 h4 h5 h6 => ⟨t :: us, h1, h2, h3, by rw [Nat.add_sub_cancel, hgv, h4], h5, h6⟩
        generalize hx : gt l (i : Int) = x at *
        have hxz : x.Kind ≠ 2 → x.Set = Z4 := fun h2 => noSet_Z hwx (by simp only [fieldsB, Bool.and_eq_true, Bool.or_eq_true, beq_iff_eq] at hf; exact hf.1.resolve_left h2)
        have hxn : x.Kind ≠ 7 → x.N = 0 := fun h7 => by simp only [fieldsB, Bool.and_eq_true, Bool.or_eq_true, beq_iff_eq, h7, if_false] at hf; exact hf.2
        have hv : lowAt l b i = (if x.Kind = 1 ∨ x.Kind = 2 then (if x.A = -1 ∧ x.B = -1 then (i : Int) else -1)
            else if x.Kind = 3 ∨ x.Kind = 4 then (if x.B = (i : Int) - 1 ∧ 0 ≤ x.B ∧ 0 ≤ x.A ∧ x.A = gt b x.B - 1 then gt b x.A else -1)
            else if x.Kind = 5 ∨ x.Kind = 6 ∨ x.Kind = 7 ∨ x.Kind = 8 then (if x.B = -1 ∧ 0 ≤ x.A ∧ x.A = (i : Int) - 1 then gt b x.A else -1) else -1) := by
          unfold lowAt; simp only [hx]
        by_cases c1 : x.Kind = 1 ∨ x.Kind = 2
        · rw [if_pos c1] at hv
          by_cases cA : x.A = -1 ∧ x.B = -1
          · rw [if_pos cA] at hv
            rcases c1 with c1 | c1
            · have e : x = Tm.node i .eps := by
                have := hxz (by omega); have := hxn (by omega)
                obtain ⟨k, A, B, N, S⟩ := x; simp only [Tm.node] at *; simp_all
              exact mk .eps ts (by simp [Tm.size]) ((At.one rfl rfl).2 (by show l[i]? = some (Tm.node i .eps); rw [hget, e])) trivial (by rw [hv]; simp [Tm.size]) (by rw [hlv, c1]; simp [Tm.size, Tm.leaves]) (by simpa [Tm.size] using hst')
            · have e : x = Tm.node i (.leaf x.Set) := by
                have := hxn (by omega)
                obtain ⟨k, A, B, N, S⟩ := x; simp only [Tm.node] at *; simp_all
              exact mk (.leaf x.Set) ts (by simp [Tm.size]) ((At.one rfl rfl).2 (by show l[i]? = some (Tm.node i (.leaf x.Set)); rw [hget]; exact congrArg some e)) ⟨hwx.2.2.2.2.1, hwx.2.2.2.2.2⟩ (by rw [hv]; simp [Tm.size]) (by rw [hlv, c1]; simp [Tm.size, Tm.leaves]) (by simpa [Tm.size] using hst')
          · rw [if_neg cA] at hv; omega
        · rw [if_neg c1] at hv
          by_cases c2 : x.Kind = 3 ∨ x.Kind = 4
          · rw [if_pos c2] at hv
            by_cases cA : x.B = (i : Int) - 1 ∧ 0 ≤ x.B ∧ 0 ≤ x.A ∧ x.A = gt b x.B - 1
            · rw [if_pos cA] at hv
              obtain ⟨cB, cB0, cA0, cA1⟩ := cA
              cases ts with
              | nil => have : i = 0 := hst; omega
              | cons tb ts =>
                obtain ⟨p1, p2, p3, p4, p5, p6⟩ := hst
                have e1 : gt b x.B = ((i - tb.size : Nat) : Int) := by rw [cB, ← p4]; congr 1; omega
                have hA : x.A = ((i - tb.size - 1 : Nat) : Int) := by omega
                cases ts with
                | nil => have : i - tb.size = 0 := p6; omega
                | cons ta ts =>
                  obtain ⟨q1, q2, q3, q4, q5, q6⟩ := p6
                  have hp := ta.size_pos; have hp2 := tb.size_pos
                  have hv2 : lowAt l b i = ((i - tb.size - ta.size : Nat) : Int) := by rw [hv, hA, q4]
                  have hlo : i + 1 - (ta.size + tb.size + 1) = i - tb.size - ta.size := by omega
                  have hlo2 : i - tb.size - ta.size + ta.size = i - tb.size := by omega
                  have hq6 : St l (b ++ [lowAt l b i]) (i - tb.size - ta.size) ts := St.snoc (by rw [ok.len]; omega) q6
                  rcases c2 with c2 | c2
                  · have e : x = Tm.node (i - tb.size - ta.size) (.cat ta tb) := by
                      have := hxz (by omega); have := hxn (by omega)
                      obtain ⟨k, A, B, N, S⟩ := x; simp only [Tm.node, Tm.top] at *; simp only [MTerm.mk.injEq]; refine ⟨c2, by omega, by omega, by assumption, by assumption⟩
                    refine mk (.cat ta tb) ts (by simp [Tm.size]; omega) ?_ ⟨q3, p3⟩ (by simp only [Tm.size]; omega) (by simp only [Tm.size, Tm.leaves, hlo, hlv, c2]; simp; omega) (by simp only [Tm.size, hlo]; exact hq6)
                    simp only [Tm.size, hlo]
                    exact (At.bin rfl rfl).2 ⟨q2, by rw [hlo2]; exact p2, by rw [hlo2, show i - tb.size + tb.size = i from by omega, hget, e]⟩
                  · have e : x = Tm.node (i - tb.size - ta.size) (.alt ta tb) := by
                      have := hxz (by omega); have := hxn (by omega)
                      obtain ⟨k, A, B, N, S⟩ := x; simp only [Tm.node, Tm.top] at *; simp only [MTerm.mk.injEq]; refine ⟨c2, by omega, by omega, by assumption, by assumption⟩
                    refine mk (.alt ta tb) ts (by simp [Tm.size]; omega) ?_ ⟨q3, p3⟩ (by simp only [Tm.size]; omega) (by simp only [Tm.size, Tm.leaves, hlo, hlv, c2]; simp; omega) (by simp only [Tm.size, hlo]; exact hq6)
                    simp only [Tm.size, hlo]
                    exact (At.bin rfl rfl).2 ⟨q2, by rw [hlo2]; exact p2, by rw [hlo2, show i - tb.size + tb.size = i from by omega, hget, e]⟩
            · rw [if_neg cA] at hv; omega
          · rw [if_neg c2] at hv
            by_cases c3 : x.Kind = 5 ∨ x.Kind = 6 ∨ x.Kind = 7 ∨ x.Kind = 8
            · rw [if_pos c3] at hv
              by_cases cA : x.B = -1 ∧ 0 ≤ x.A ∧ x.A = (i : Int) - 1
              · rw [if_pos cA] at hv
                obtain ⟨cB, cA0, cA1⟩ := cA
                cases ts with
                | nil => have : i = 0 := hst; omega
                | cons ta ts =>
                  obtain ⟨q1, q2, q3, q4, q5, q6⟩ := hst
                  have hp := ta.size_pos
                  have hA : x.A = ((i - 1 : Nat) : Int) := by omega
                  have hv2 : lowAt l b i = ((i - ta.size : Nat) : Int) := by rw [hv, hA, q4]
                  have hlo : i + 1 - (ta.size + 1) = i - ta.size := by omega
                  have hlo2 : i - ta.size + ta.size = i := by omega
                  have hq6 : St l (b ++ [lowAt l b i]) (i - ta.size) ts := St.snoc (by rw [ok.len]; omega) q6
                  have fin : ∀ t : Tm, t.size = ta.size + 1 → t.leaves = ta.leaves → t.flat (i - ta.size) = ta.flat (i - ta.size) ++ [t.node (i - ta.size)] → t.ok → x = t.node (i - ta.size) → ∃ ts, St l (b ++ [lowAt l b i]) (i + 1) ts := fun t s1 s2 s3 s4 e => by
                    refine mk t ts (by omega) ?_ s4 (by omega) (by rw [s1, hlo, s2, hlv, if_neg (by omega)]; omega) (by rw [s1, hlo]; exact hq6)
                    rw [s1, hlo]
                    exact (At.un s1 s3).2 ⟨q2, by rw [hlo2, hget, e]⟩
                  have hz := hxz (by omega)
                  rcases c3 with c3 | c3 | c3 | c3
                  · refine fin (.star ta) rfl rfl rfl q3 ?_
                    have := hxn (by omega)
                    obtain ⟨k, A, B, N, S⟩ := x; simp only [Tm.node, Tm.top] at *; simp only [MTerm.mk.injEq]; refine ⟨c3, by omega, cB, by assumption, hz⟩
                  · refine fin (.maybe ta) rfl rfl rfl q3 ?_
                    have := hxn (by omega)
                    obtain ⟨k, A, B, N, S⟩ := x; simp only [Tm.node, Tm.top] at *; simp only [MTerm.mk.injEq]; refine ⟨c3, by omega, cB, by assumption, hz⟩
                  · have hn : 1 ≤ x.N ∧ x.N ≤ 9 := by simp only [fieldsB, c3, Bool.and_eq_true, beq_self_eq_true, if_true, decide_eq_true_eq] at hf; exact hf.2
                    refine fin (.group x.N ta) rfl rfl rfl ⟨hn.1, hn.2, q3⟩ ?_
                    obtain ⟨k, A, B, N, S⟩ := x; simp only [Tm.node, Tm.top] at *; simp only [MTerm.mk.injEq]; refine ⟨c3, by omega, cB, trivial, hz⟩
                  · refine fin (.iter ta) rfl rfl rfl q3 ?_
                    have := hxn (by omega)
                    obtain ⟨k, A, B, N, S⟩ := x; simp only [Tm.node, Tm.top] at *; simp only [MTerm.mk.injEq]; refine ⟨c3, by omega, cB, by assumption, hz⟩
              · rw [if_neg cA] at hv; omega
            · rw [if_neg c3] at hv; omega
      · cases h
/-- A term, as a tree. -/
structure IsT (l : List MTerm) (t : Tm) : Prop where
  eq : l = t.flat 0
  at0 : At l 0 t
  ok : t.ok
  len : l.length = t.size
  le : t.size ≤ 400
  lv : t.leaves ≤ 64
theorem tree_of {l : List MTerm} (hw : ∀ x ∈ l, wfTerm x) (h : RightB l = true) : ∃ t, IsT l t := by
  unfold RightB LowF at h
  cases hL : lowsN l l.length with
  | none => simp [hL] at h
  | some a =>
    simp only [hL] at h
    split at h
    · simp at h
    · rename_i hc
      have ok := lowsN_ok hL
      obtain ⟨ts, hst⟩ := lowsN_st hw hL (Nat.le_refl _)
      cases ts with
      | nil => exact absurd (.inl hst) hc
      | cons t ts =>
        obtain ⟨q1, q2, q3, q4, q5, q6⟩ := hst
        have h4 : gt a ((l.length : Int) - 1) = 0 := by
          rcases Int.decEq (gt a ((l.length : Int) - 1)) 0 with h | h
          · exact absurd (.inr (.inr (.inr h))) hc
          · exact h
        have h0 : l.length ≠ 0 := fun h => hc (.inl h)
        rw [show ((l.length - 1 : Nat) : Int) = (l.length : Int) - 1 from by omega, h4] at q4
        have hs : t.size = l.length := by omega
        rw [hs, Nat.sub_self] at q2
        have hfl : l = t.flat 0 := by
          have := q2
          unfold At at this
          rwa [List.drop_zero, hs, List.take_length] at this
        have h400 : ¬ 400 < l.length := fun h => hc (.inr (.inl h))
        have h64 : ¬ 64 < leavesN l l.length := fun h => hc (.inr (.inr (.inl h)))
        rw [hs, Nat.sub_self] at q5
        have : leavesN l 0 = 0 := rfl
        exact ⟨t, hfl, q2, q3, hs.symm, by omega, by omega⟩
end Go.Proofs.Ytfhehbfifffipaa
