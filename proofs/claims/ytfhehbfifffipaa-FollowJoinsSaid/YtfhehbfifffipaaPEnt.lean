/- Whether entries are a parse tree: the document's rule tells it. Its conditions: none. -/
import Derived.Test.YtfhehbfifffipaaPPt
import Derived.Test.YtfhehbfifffipaaPTrc3
set_option autoImplicit false
namespace Go.Proofs.Ytfhehbfifffipaa
open Go.V Go.RowKit

/-- Each byte is in its Leaf's set. -/
def okB (H : Int → Nat → Prop) : Int → Wd → Prop
  | _, [] => True
  | k, .inl _ :: r => okB H k r
  | k, .inr q :: r => H k q ∧ okB H (k + 1) r
def nbW : Wd → Nat
  | [] => 0
  | .inl _ :: r => nbW r
  | .inr _ :: r => nbW r + 1
theorem nbW_append : ∀ a b : Wd, nbW (a ++ b) = nbW a + nbW b
  | [], b => by simp [nbW]
  | .inl _ :: a, b => by simp only [List.cons_append, nbW]; exact nbW_append a b
  | .inr _ :: a, b => by simp only [List.cons_append, nbW, nbW_append a b]; omega
theorem okB_append (H : Int → Nat → Prop) : ∀ (a b : Wd) (k : Int), okB H k (a ++ b) ↔ okB H k a ∧ okB H (k + nbW a) b
  | [], b, k => by simp [okB, nbW]
  | .inl _ :: a, b, k => by simp only [List.cons_append, okB, nbW]; exact okB_append H a b k
  | .inr _ :: a, b, k => by
    simp only [List.cons_append, okB, nbW, okB_append H a b]
    rw [show k + 1 + (nbW a : Int) = k + ((nbW a + 1 : Nat) : Int) by omega, and_assoc]
theorem okB_wrap (H : Int → Nat → Prop) (k : Int) (q : Nat) (w : Wd) : okB H k (wrap q w) ↔ okB H k w := by
  unfold wrap
  simp only [okB, okB_append, and_true]
theorem nbW_wrap (q : Nat) (w : Wd) : nbW (wrap q w) = nbW w := by
  unfold wrap; simp [nbW, nbW_append]
theorem star_nb {V : Pt → Prop} {F : Pt → Wd} (h : ∀ x, V x → nbW (F x) = x.wid) : ∀ P, starV V P → nbW (starW F P) = P.wid
  | .nil, _ => rfl
  | .two x r, hv => by simp only [starW, nbW_append, h x hv.1, star_nb h r hv.2.2, Pt.wid]
  | .byte, hv => by simp [starV] at hv
  | .one _, hv => by simp [starV] at hv
  | .other _, hv => by simp [starV] at hv
theorem word_nb : ∀ (s : Tm) (lo : Nat) (P : Pt), s.val P → nbW (s.word lo P) = P.wid := by
  intro s
  induction s with
  | eps => intro lo P hv; cases hv; simp [Tm.word, nbW_wrap, nbW, Pt.wid]
  | leaf S => intro lo P hv; cases hv; simp [Tm.word, nbW_wrap, nbW, Pt.wid]
  | cat a b iha ihb => rintro lo P ⟨x, y, rfl, h1, h2⟩; simp [Tm.word, nbW_wrap, nbW_append, Pt.wid, iha lo x h1, ihb _ y h2]
  | alt a b iha ihb =>
    rintro lo P (⟨x, rfl, h1⟩ | ⟨x, rfl, h1⟩)
    · simp [Tm.word, nbW_wrap, Pt.wid, iha lo x h1]
    · simp [Tm.word, nbW_wrap, Pt.wid, ihb _ x h1]
  | star a iha => intro lo P hv; simp only [Tm.word, nbW_wrap]; exact star_nb (iha lo) P hv
  | maybe a iha =>
    rintro lo P (rfl | ⟨x, rfl, h1, _⟩)
    · simp [Tm.word, nbW_wrap, nbW, Pt.wid]
    · simp [Tm.word, nbW_wrap, Pt.wid, iha lo x h1]
  | group n a iha => rintro lo P ⟨x, rfl, h1⟩; simp [Tm.word, nbW_wrap, Pt.wid, iha lo x h1]
  | iter a iha => rintro lo P ⟨x, rfl, h1⟩; simp [Tm.word, nbW_wrap, Pt.wid, iha lo x h1]
theorem ents_head (s : Tm) (lo : Nat) (d k : Int) (P : Pt) : ∃ E, s.ents lo d k P = ⟨d, (s.top lo : Int), k, k + P.wid⟩ :: E := by
  cases s <;> first | exact ⟨_, rfl⟩ | (refine ⟨[], ?_⟩; simp [Tm.ents, Tm.top, Tm.size])

/-! The document's rule, kind by kind. -/
def chkB (w : List Int) (t : List MEntry) (i : Int) (e : MEntry) : Bool :=
  decide (0 ≤ i) && (decide (i < (t.length : Int)) && (((((gt t i).Depth) == e.Depth) && ((((gt t i).Node) == e.Node) && ((((gt t i).From) == e.From) && (((gt t i).To) == e.To)))) && (decide (0 ≤ e.From) && (decide (e.From ≤ e.To) && decide (e.To ≤ (w.length : Int))))))
theorem ent_hd (w : List Int) (t : List MEntry) (i : Int) (e : MEntry) : ((
      if (decide (i < 0)) then
        some true
      else
        if (decide (i ≥ (t.length : Int))) then
          some true
        else
          if inb t i then
            if (!((((gt t i).Depth) == e.Depth) && ((((gt t i).Node) == e.Node) && ((((gt t i).From) == e.From) && (((gt t i).To) == e.To))))) then
              some true
            else
              if (decide (e.From < 0)) then
                some true
              else
                if (decide (e.To < e.From)) then
                  some true
                else
                  some (decide (e.To > (w.length : Int)))
          else none) : Option (Bool)) = some (!chkB w t i e) := by
  unfold chkB
  by_cases h1 : i < 0
  · simp [h1, show ¬ (0 ≤ i) by omega]
  · by_cases h2 : i < (t.length : Int)
    · have h3 : inb t i = true := inb_true (by omega) h2
      simp only [h1, show ¬ (i ≥ (t.length : Int)) by omega, h3, h2, show 0 ≤ i by omega, decide_true, decide_false, Bool.false_eq_true, if_false, if_true, Bool.true_and]
      cases (((gt t i).Depth) == e.Depth) && ((((gt t i).Node) == e.Node) && ((((gt t i).From) == e.From) && (((gt t i).To) == e.To))) with
      | false => simp
      | true =>
        simp only [Bool.not_true, Bool.false_eq_true, if_false, Bool.true_and]
        by_cases h4 : e.From < 0
        · simp [h4, show ¬ (0 ≤ e.From) by omega]
        · by_cases h5 : e.To < e.From
          · simp [h4, h5, show ¬ (e.From ≤ e.To) by omega]
          · by_cases h6 : e.To > (w.length : Int)
            · simp [h4, h5, h6, show ¬ (e.To ≤ (w.length : Int)) by omega]
            · simp [h4, h5, h6, show 0 ≤ e.From by omega, show e.From ≤ e.To by omega, show e.To ≤ (w.length : Int) by omega]
    · simp [h1, h2, show i ≥ (t.length : Int) by omega]
theorem chk_of {w : List Int} {t : List MEntry} {i : Int} {e : MEntry} (h : chkB w t i e = true) : 0 ≤ i ∧ i < (t.length : Int) ∧ gt t i = e ∧ 0 ≤ e.From ∧ e.From ≤ e.To ∧ e.To ≤ (w.length : Int) := by
  simp only [chkB, Bool.and_eq_true, decide_eq_true_eq, beq_iff_eq] at h
  obtain ⟨h1, h2, ⟨h3, h4, h5, h6⟩, h7, h8, h9⟩ := h
  refine ⟨h1, h2, ?_, h7, h8, h9⟩
  generalize gt t i = u at *
  obtain ⟨a, b, c, d⟩ := u
  obtain ⟨a', b', c', d'⟩ := e
  simp only at h3 h4 h5 h6
  subst h3; subst h4; subst h5; subst h6; rfl
theorem chk_mk {w : List Int} {t : List MEntry} {i : Int} {e : MEntry} (h1 : 0 ≤ i) (h2 : i < (t.length : Int)) (h3 : gt t i = e) (h4 : 0 ≤ e.From) (h5 : e.From ≤ e.To) (h6 : e.To ≤ (w.length : Int)) : chkB w t i e = true := by
  simp [chkB, h1, h2, h3, h4, h5, h6]
section
variable {fuel k : Nat} {l : List MTerm} {w : List Int} {t : List MEntry} {i : Int} {e : MEntry}
theorem ent_no (h : chkB w t i e = false) : m_ref14_entry fuel (k + 1) l w t i e = some (-1) := by
  unfold m_ref14_entry
  rw [ent_hd, h]; rfl
theorem ent_1 (h : chkB w t i e = true) (hn : inb l e.Node = true) (hk : (gt l e.Node).Kind = 1) : m_ref14_entry fuel (k + 1) l w t i e = some (if e.From = e.To then W (i + 1) else -1) := by
  unfold m_ref14_entry
  rw [ent_hd, h]
  by_cases c : e.From = e.To <;> simp [hn, hk, c]
theorem ent_2 (h : chkB w t i e = true) (hn : inb l e.Node = true) (hk : (gt l e.Node).Kind = 2) (hS : (gt l e.Node).Set.length = 4 ∧ ∀ y ∈ (gt l e.Node).Set, inK .u64 y) (hw : ∀ x ∈ w, inK .u8 x) (hwl : w.length ≤ 1000000) :
    m_ref14_entry fuel (k + 1) l w t i e = some (if e.To = e.From + 1 ∧ hasB (gt l e.Node).Set (gt w e.From) = true then W (i + 1) else -1) := by
  obtain ⟨_, _, _, h4, h5, h6⟩ := chk_of h
  have hW : W (e.From + 1) = e.From + 1 := W_id (by omega) (by omega)
  unfold m_ref14_entry
  rw [ent_hd, h]
  by_cases c : e.To = e.From + 1
  · have hin : inb w e.From = true := inb_true h4 (by omega)
    have hb : inK .u8 (gt w e.From) := by
      obtain ⟨n, hn⟩ : ∃ n : Nat, e.From = n := ⟨e.From.toNat, by omega⟩
      rw [hn]; exact hw _ (gt_mem (by omega))
    have := (Has_eq fuel hS hb).2
    cases hh : hasB (gt l e.Node).Set (gt w e.From) <;> simp [hn, hk, c, hW, hin, this, hh]
  · simp [hn, hk, c, hW]
theorem ent_3 (h : chkB w t i e = true) (hn : inb l e.Node = true) (hk : (gt l e.Node).Kind = 3) (hi : W (i + 1) = i + 1) :
    m_ref14_entry fuel (k + 1) l w t i e = if i + 1 ≥ (t.length : Int) then some (-1) else Option.bind (m_ref14_entry fuel k l w t (i + 1) ⟨W (e.Depth + 1), (gt l e.Node).A, e.From, (gt t (i + 1)).To⟩) fun x4 => if x4 < 0 ∨ (gt t (i + 1)).To > e.To then some (-1) else m_ref14_entry fuel k l w t x4 ⟨W (e.Depth + 1), (gt l e.Node).B, (gt t (i + 1)).To, e.To⟩ := by
  obtain ⟨h1, _, _, _⟩ := chk_of h
  conv => lhs; unfold m_ref14_entry
  rw [ent_hd, h]
  simp only [hn, hk, hi, Bool.not_true, bind_some', Bool.false_eq_true, if_false, if_true, show ((3 : Int) == 1) = false from rfl, show ((3 : Int) == 2) = false from rfl, beq_self_eq_true]
  by_cases c : i + 1 ≥ (t.length : Int)
  · simp [c]
  · have hin : inb t (i + 1) = true := inb_true (by omega) (by omega)
    simp only [c, decide_false, Bool.false_eq_true, if_false, hin, if_true]
    cases m_ref14_entry fuel k l w t (i + 1) ⟨W (e.Depth + 1), (gt l e.Node).A, e.From, (gt t (i + 1)).To⟩ with
    | none => rfl
    | some x4 =>
      by_cases c1 : x4 < 0
      · simp [c1]
      · by_cases c2 : (gt t (i + 1)).To > e.To
        · simp [c1, c2]
        · simp only [c1, c2, decide_false, Bool.false_eq_true, if_false, bind_some', or_self]
          cases m_ref14_entry fuel k l w t x4 ⟨W (e.Depth + 1), (gt l e.Node).B, (gt t (i + 1)).To, e.To⟩ <;> rfl
theorem ent_4 (h : chkB w t i e = true) (hn : inb l e.Node = true) (hk : (gt l e.Node).Kind = 4) (hi : W (i + 1) = i + 1) :
    m_ref14_entry fuel (k + 1) l w t i e = m_ref14_entry fuel k l w t (i + 1) ⟨W (e.Depth + 1), if i + 1 < (t.length : Int) ∧ (gt t (i + 1)).Node = (gt l e.Node).B then (gt l e.Node).B else (gt l e.Node).A, e.From, e.To⟩ := by
  obtain ⟨h1, _, _, _⟩ := chk_of h
  conv => lhs; unfold m_ref14_entry
  rw [ent_hd, h]
  simp only [hn, hk, hi, Bool.not_true, bind_some', Bool.false_eq_true, if_false, if_true, show ((4 : Int) == 1) = false from rfl, show ((4 : Int) == 2) = false from rfl, show ((4 : Int) == 3) = false from rfl, beq_self_eq_true]
  by_cases c : i + 1 < (t.length : Int)
  · have hin : inb t (i + 1) = true := inb_true (by omega) (by omega)
    simp only [c, decide_true, hin, if_true, true_and, bind_some']
    by_cases c2 : (gt t (i + 1)).Node = (gt l e.Node).B
    · simp only [c2, beq_self_eq_true, if_true, bind_some']
      cases m_ref14_entry fuel k l w t (i + 1) ⟨W (e.Depth + 1), (gt l e.Node).B, e.From, e.To⟩ <;> rfl
    · have : ((gt t (i + 1)).Node == (gt l e.Node).B) = false := by simpa using c2
      simp only [this, Bool.false_eq_true, if_false, bind_some', c2]
      cases m_ref14_entry fuel k l w t (i + 1) ⟨W (e.Depth + 1), (gt l e.Node).A, e.From, e.To⟩ <;> rfl
  · simp only [c, decide_false, Bool.false_eq_true, if_false, bind_some', false_and]
    cases m_ref14_entry fuel k l w t (i + 1) ⟨W (e.Depth + 1), (gt l e.Node).A, e.From, e.To⟩ <;> rfl
theorem ent_5 (h : chkB w t i e = true) (hn : inb l e.Node = true) (hk : (gt l e.Node).Kind = 5) (hi : W (i + 1) = i + 1) :
    m_ref14_entry fuel (k + 1) l w t i e = m_ref14_kids fuel (m_ref14_entry fuel k) l w t (i + 1) e := by
  conv => lhs; unfold m_ref14_entry
  rw [ent_hd, h]
  simp only [hn, hk, hi, Bool.not_true, bind_some', Bool.false_eq_true, if_false, if_true, show ((5 : Int) == 1) = false from rfl, show ((5 : Int) == 2) = false from rfl, show ((5 : Int) == 3) = false from rfl, show ((5 : Int) == 4) = false from rfl, beq_self_eq_true]
  cases m_ref14_kids fuel (m_ref14_entry fuel k) l w t (i + 1) e <;> rfl
theorem ent_6 (h : chkB w t i e = true) (hn : inb l e.Node = true) (hk : (gt l e.Node).Kind = 6) (hi : W (i + 1) = i + 1) :
    m_ref14_entry fuel (k + 1) l w t i e = if e.From = e.To then some (i + 1) else m_ref14_entry fuel k l w t (i + 1) ⟨W (e.Depth + 1), (gt l e.Node).A, e.From, e.To⟩ := by
  conv => lhs; unfold m_ref14_entry
  rw [ent_hd, h]
  simp only [hn, hk, hi, Bool.not_true, bind_some', Bool.false_eq_true, if_false, if_true, show ((6 : Int) == 1) = false from rfl, show ((6 : Int) == 2) = false from rfl, show ((6 : Int) == 3) = false from rfl, show ((6 : Int) == 4) = false from rfl, show ((6 : Int) == 5) = false from rfl, beq_self_eq_true]
  by_cases c : e.From = e.To
  · simp [c]
  · have : (e.From == e.To) = false := by simpa using c
    simp only [this, c, Bool.false_eq_true, if_false, bind_some']
    cases m_ref14_entry fuel k l w t (i + 1) ⟨W (e.Depth + 1), (gt l e.Node).A, e.From, e.To⟩ <;> rfl
theorem ent_7 (h : chkB w t i e = true) (hn : inb l e.Node = true) (hk : (gt l e.Node).Kind = 7 ∨ (gt l e.Node).Kind = 8) (hi : W (i + 1) = i + 1) :
    m_ref14_entry fuel (k + 1) l w t i e = m_ref14_entry fuel k l w t (i + 1) ⟨W (e.Depth + 1), (gt l e.Node).A, e.From, e.To⟩ := by
  conv => lhs; unfold m_ref14_entry
  rw [ent_hd, h]
  have hb : ∀ z : Int, z = 1 ∨ z = 2 ∨ z = 3 ∨ z = 4 ∨ z = 5 ∨ z = 6 → ((gt l e.Node).Kind == z) = false := by
    intro z hz; simp; omega
  simp only [hn, hi, Bool.not_true, bind_some', Bool.false_eq_true, if_false, if_true, hb 1 (by simp), hb 2 (by simp), hb 3 (by simp), hb 4 (by simp), hb 5 (by simp), hb 6 (by simp)]
  cases m_ref14_entry fuel k l w t (i + 1) ⟨W (e.Depth + 1), (gt l e.Node).A, e.From, e.To⟩ <;> rfl
end
theorem drop_head {α : Type} [Inhabited α] {t : List α} {i : Nat} {e : α} {r : List α} (h : t.drop i = e :: r) : i < t.length ∧ gt t (i : Int) = e ∧ t.drop (i + 1) = r := by
  have h1 : i < t.length := by
    rcases Nat.lt_or_ge i t.length with h1 | h1
    · exact h1
    · rw [List.drop_of_length_le h1] at h; cases h
  rw [drop_cons h1] at h
  simp only [List.cons.injEq] at h
  exact ⟨h1, h.1, h.2⟩
theorem drop_add {α : Type} {t a r : List α} {i : Nat} (h : t.drop i = a ++ r) : t.drop (i + a.length) = r := by
  rw [← List.drop_drop, h, List.drop_left]
/-- The k-th byte is in the set of the Leaf q. -/
def InS (l : List MTerm) (w : List Int) (k : Int) (q : Nat) : Prop := hasB (gt l (q : Int)).Set (gt w k) = true
section
variable {fuel : Nat} {l : List MTerm} {w : List Int} {t : List MEntry}
/-- What is so throughout. -/
structure EntI (l : List MTerm) (w : List Int) (t : List MEntry) (fuel : Nat) : Prop where
  hw : ∀ x ∈ w, inK .u8 x
  wl : w.length ≤ 1000000
  tl : t.length ≤ 4000000000000000000
  fl : w.length + 1 < fuel
  set : ∀ q : Nat, q < l.length → (gt l (q : Int)).Set.length = 4 ∧ ∀ y ∈ (gt l (q : Int)).Set, inK .u64 y
theorem chk_head (I : EntI l w t fuel) {i : Nat} {d k0 T : Int} {q : Nat} {E rest : List MEntry} (h : t.drop i = (⟨d, (q : Int), k0, T⟩ :: E) ++ rest) (h0 : 0 ≤ k0) (h1 : k0 ≤ T) (h2 : T ≤ (w.length : Int)) :
    chkB w t (i : Int) ⟨d, (q : Int), k0, T⟩ = true ∧ t.drop (i + 1) = E ++ rest ∧ W ((i : Int) + 1) = ((i + 1 : Nat) : Int) ∧ i < t.length := by
  obtain ⟨h3, h4, h5⟩ := drop_head (r := E ++ rest) (by simpa using h)
  have := I.tl
  exact ⟨chk_mk (by omega) (by omega) h4 h0 h1 h2, h5, W_succ (by omega), h3⟩
theorem top_inb {s : Tm} {lo : Nat} (h : At l lo s) : inb l (s.top lo : Int) = true := by
  have := h.top_lt; exact inb_true (by omega) (by omega)
/-- The parts of a Star, one by one. -/
theorem kids_of (I : EntI l w t fuel) {V : Pt → Prop} {FE : Int → Pt → List MEntry} {F : Pt → Wd} {rc : List MTerm → List Int → List MEntry → Int → MEntry → Option Int} {e : MEntry} {x0 : Int} (hn : inb l e.Node = true) (hT : e.To ≤ (w.length : Int))
    (hFE : ∀ k x, ∃ E, FE k x = ⟨W (e.Depth + 1), (gt l e.Node).A, k, k + x.wid⟩ :: E) (hnb : ∀ x, V x → nbW (F x) = x.wid)
    (hr : ∀ x, V x → ∀ (i : Nat) (k0 : Int) (rest : List MEntry), 0 ≤ k0 → k0 + x.wid ≤ (w.length : Int) → okB (InS l w) k0 (F x) → t.drop i = FE k0 x ++ rest → rc l w t (i : Int) ⟨W (e.Depth + 1), (gt l e.Node).A, k0, k0 + x.wid⟩ = some ((i + (FE k0 x).length : Nat) : Int)) :
    ∀ (P : Pt), starV V P → ∀ (i : Nat) (k0 : Int) (rest : List MEntry) (fu : Nat), 0 ≤ k0 → k0 + P.wid = e.To → okB (InS l w) k0 (starW F P) → t.drop i = starE FE k0 P ++ rest → P.wid < fu →
      iter (m_ref14_kids_l1 fuel rc l w t x0 e) fu ((i : Int), k0) = some (.inl ((i + (starE FE k0 P).length : Nat) : Int))
  | .nil, _, i, k0, rest, fu, h0, h1, _, _, hf => by
    obtain ⟨fu, rfl⟩ : ∃ n, fu = n + 1 := ⟨fu - 1, by omega⟩
    simp only [Pt.wid] at h1
    unfold iter m_ref14_kids_l1
    simp [show ¬ (k0 < e.To) by omega, starE]
  | .two x r, hv, i, k0, rest, fu, h0, h1, hk, hd, hf => by
    obtain ⟨fu, rfl⟩ : ∃ n, fu = n + 1 := ⟨fu - 1, by omega⟩
    obtain ⟨v1, v2, v3⟩ := hv
    simp only [Pt.wid] at h1 hf
    simp only [starW, okB_append, hnb x v1] at hk
    simp only [starE, List.append_assoc] at hd
    have hx := hr x v1 i k0 _ h0 (by omega) hk.1 hd
    have hd2 := drop_add hd
    obtain ⟨E, hE⟩ := hFE k0 x
    have hd1 := hd
    rw [hE] at hd1
    obtain ⟨g1, g2, _⟩ := drop_head (r := E ++ (starE FE (k0 + x.wid) r ++ rest)) (by simpa using hd1)
    have hin : inb t (i : Int) = true := inb_true (by omega) (by omega)
    have ih := kids_of (x0 := x0) I hn hT hFE hnb hr r v3 (i + (FE k0 x).length) (k0 + x.wid) rest fu (by omega) (by omega) hk.2 hd2 (by omega)
    unfold iter
    have hstep : m_ref14_kids_l1 fuel rc l w t x0 e ((i : Int), k0) = some (.next (((i + (FE k0 x).length : Nat) : Int), k0 + x.wid)) := by
      unfold m_ref14_kids_l1
      have c1 : k0 < e.To := by omega
      have c2 : ¬ ((i : Int) ≥ (t.length : Int)) := by omega
      have c3 : ¬ (k0 + (x.wid : Int) ≤ k0) := by omega
      have c4 : ¬ (((i + (FE k0 x).length : Nat) : Int) < 0) := by omega
      have c5 : ¬ (k0 + (x.wid : Int) > e.To) := by omega
      simp only [c1, c2, decide_true, decide_false, if_true, Bool.false_eq_true, if_false, hin, g2, c3, bind_some', hn, hx, c4, c5]
    rw [hstep]
    simp only
    rw [ih]
    simp [starE, Nat.add_assoc]
  | .byte, hv, _, _, _, _, _, _, _, _, _ => by simp [starV] at hv
  | .one _, hv, _, _, _, _, _, _, _, _, _ => by simp [starV] at hv
  | .other _, hv, _, _, _, _, _, _, _, _, _ => by simp [starV] at hv
/-- The entries of a parse are one. -/
theorem entry_of (I : EntI l w t fuel) : ∀ (s : Tm) (lo : Nat), At l lo s → ∀ (P : Pt), s.val P → ∀ (kf i : Nat) (d k0 : Int) (rest : List MEntry), s.size ≤ kf → 0 ≤ k0 → k0 + P.wid ≤ (w.length : Int) → okB (InS l w) k0 (s.word lo P) → t.drop i = s.ents lo d k0 P ++ rest → 0 ≤ d → d + s.size ≤ 1000000000 →
    m_ref14_entry fuel kf l w t (i : Int) ⟨d, (s.top lo : Int), k0, k0 + P.wid⟩ = some ((i + (s.ents lo d k0 P).length : Nat) : Int) := by
  intro s
  have hWd : ∀ d : Int, 0 ≤ d → d ≤ 1000000000 → W (d + 1) = d + 1 := fun d h1 h2 => W_id (by omega) (by omega)
  induction s with
  | eps =>
    intro lo hat P hv kf i d k0 rest hk h0 h1 hb hd hd0 hds
    cases hv
    obtain ⟨kf, rfl⟩ : ∃ n, kf = n + 1 := ⟨kf - 1, by simp [Tm.size] at hk; omega⟩
    simp only [Tm.ents, Pt.wid] at hd h1 ⊢
    obtain ⟨c1, c2, c3, c4⟩ := chk_head I hd h0 (by omega) h1
    rw [show (Tm.eps.top lo : Int) = (lo : Int) by simp [Tm.top, Tm.size]]
    rw [ent_1 c1 (by have := top_inb hat; simpa [Tm.top, Tm.size] using this) (by have := hat.gt_top; simp only [Tm.top, Tm.size, Nat.add_sub_cancel] at this; rw [this]; rfl)]
    simp [c3]
  | leaf S =>
    intro lo hat P hv kf i d k0 rest hk h0 h1 hb hd hd0 hds
    cases hv
    obtain ⟨kf, rfl⟩ : ∃ n, kf = n + 1 := ⟨kf - 1, by simp [Tm.size] at hk; omega⟩
    simp only [Tm.ents, Pt.wid] at hd h1 ⊢
    obtain ⟨c1, c2, c3, c4⟩ := chk_head I hd h0 (by omega) h1
    rw [show ((Tm.leaf S).top lo : Int) = (lo : Int) by simp [Tm.top, Tm.size]]
    have hlt := hat.top_lt
    simp only [Tm.top, Tm.size, Nat.add_sub_cancel] at hlt
    simp only [Tm.word, okB_wrap, okB, and_true] at hb
    rw [ent_2 c1 (by have := top_inb hat; simpa [Tm.top, Tm.size] using this) (by have := hat.gt_top; simp only [Tm.top, Tm.size, Nat.add_sub_cancel] at this; rw [this]; rfl) (I.set lo hlt) I.hw I.wl]
    simp only
    rw [if_pos ⟨by simp, hb⟩, c3]
    simp
  | cat a b iha ihb =>
    intro lo hat P hv kf i d k0 rest hk h0 h1 hb hd hd0 hds
    obtain ⟨x, y, rfl, v1, v2⟩ := hv
    obtain ⟨kf, rfl⟩ : ∃ n, kf = n + 1 := ⟨kf - 1, by simp [Tm.size] at hk; omega⟩
    obtain ⟨ha, hb', _⟩ := (At.bin rfl rfl).1 hat
    simp only [Tm.size] at hk hds
    simp only [Tm.word, okB_wrap, okB_append, word_nb a lo x v1] at hb
    simp only [Tm.ents, Pt.wid] at hd h1 ⊢
    obtain ⟨c1, c2, c3, c4⟩ := chk_head I hd h0 (by omega) (by omega)
    have hg := hat.gt_top
    have hn := top_inb hat
    rw [ent_3 c1 hn (by rw [hg]; rfl) (by rw [c3]; simp)]
    rw [List.append_assoc] at c2
    obtain ⟨E, hE⟩ := ents_head a lo (d + 1) k0 x
    have c2' := c2
    rw [hE] at c2'
    obtain ⟨g1, g2, _⟩ := drop_head (r := E ++ (b.ents (lo + a.size) (d + 1) (k0 + x.wid) y ++ rest)) (by simpa using c2')
    have e1 : ((i : Int) + 1) = ((i + 1 : Nat) : Int) := by omega
    simp only [e1, g2, hWd d hd0 (by omega), show ¬ (((i + 1 : Nat) : Int) ≥ (t.length : Int)) by omega, if_false]
    have hA : (gt l (Tm.top (.cat a b) lo : Int)).A = (a.top lo : Int) := by rw [hg]; rfl
    have hB : (gt l (Tm.top (.cat a b) lo : Int)).B = (b.top (lo + a.size) : Int) := by rw [hg]; rfl
    rw [hA, hB, iha lo ha x v1 kf (i + 1) (d + 1) k0 _ (by omega) h0 (by omega) hb.1 c2 (by omega) (by omega), bind_some']
    rw [if_neg (by omega)]
    rw [show k0 + ((x.wid + y.wid : Nat) : Int) = k0 + (x.wid : Int) + (y.wid : Int) by omega]
    rw [ihb (lo + a.size) hb' y v2 kf _ (d + 1) (k0 + x.wid) rest (by omega) (by omega) (by omega) hb.2 (drop_add c2) (by omega) (by omega)]
    congr 2
    simp; omega
  | alt a b iha ihb =>
    intro lo hat P hv kf i d k0 rest hk h0 h1 hb hd hd0 hds
    obtain ⟨kf, rfl⟩ : ∃ n, kf = n + 1 := ⟨kf - 1, by simp [Tm.size] at hk; omega⟩
    obtain ⟨ha, hb', _⟩ := (At.bin rfl rfl).1 hat
    simp only [Tm.size] at hk hds
    have hg := hat.gt_top
    have hn := top_inb hat
    have hA : (gt l (Tm.top (.alt a b) lo : Int)).A = (a.top lo : Int) := by rw [hg]; rfl
    have hB : (gt l (Tm.top (.alt a b) lo : Int)).B = (b.top (lo + a.size) : Int) := by rw [hg]; rfl
    have e1 : ((i : Int) + 1) = ((i + 1 : Nat) : Int) := by omega
    have hap := a.size_pos; have hbp := b.size_pos
    rcases hv with ⟨x, rfl, v1⟩ | ⟨x, rfl, v1⟩
    · simp only [Tm.word, okB_wrap] at hb
      simp only [Tm.ents, Pt.wid] at hd h1 ⊢
      obtain ⟨c1, c2, c3, c4⟩ := chk_head I hd h0 (by omega) (by omega)
      rw [ent_4 c1 hn (by rw [hg]; rfl) (by rw [c3]; simp)]
      obtain ⟨E, hE⟩ := ents_head a lo (d + 1) k0 x
      have c2' := c2
      rw [hE] at c2'
      obtain ⟨g1, g2, _⟩ := drop_head (r := E ++ rest) (by simpa using c2')
      simp only [e1, g2, hWd d hd0 (by omega), hA, hB]
      rw [if_neg (by unfold Tm.top; omega), iha lo ha x v1 kf (i + 1) (d + 1) k0 _ (by omega) h0 (by omega) hb c2 (by omega) (by omega)]
      congr 2
      simp; omega
    · simp only [Tm.word, okB_wrap] at hb
      simp only [Tm.ents, Pt.wid] at hd h1 ⊢
      obtain ⟨c1, c2, c3, c4⟩ := chk_head I hd h0 (by omega) (by omega)
      rw [ent_4 c1 hn (by rw [hg]; rfl) (by rw [c3]; simp)]
      obtain ⟨E, hE⟩ := ents_head b (lo + a.size) (d + 1) k0 x
      have c2' := c2
      rw [hE] at c2'
      obtain ⟨g1, g2, _⟩ := drop_head (r := E ++ rest) (by simpa using c2')
      simp only [e1, g2, hWd d hd0 (by omega), hA, hB]
      rw [if_pos ⟨by omega, by simp⟩, ihb (lo + a.size) hb' x v1 kf (i + 1) (d + 1) k0 _ (by omega) h0 (by omega) hb c2 (by omega) (by omega)]
      congr 2
      simp; omega
  | star a iha =>
    intro lo hat P hv kf i d k0 rest hk h0 h1 hb hd hd0 hds
    obtain ⟨kf, rfl⟩ : ∃ n, kf = n + 1 := ⟨kf - 1, by simp [Tm.size] at hk; omega⟩
    obtain ⟨ha, _⟩ := (At.un rfl rfl).1 hat
    simp only [Tm.size] at hk hds
    simp only [Tm.word, okB_wrap] at hb
    simp only [Tm.ents] at hd ⊢
    have hg := hat.gt_top
    have hn := top_inb hat
    have hA : (gt l (Tm.top (.star a) lo : Int)).A = (a.top lo : Int) := by rw [hg]; rfl
    obtain ⟨c1, c2, c3, c4⟩ := chk_head I hd h0 (by omega) (by omega)
    rw [ent_5 c1 hn (by rw [hg]; rfl) (by rw [c3]; simp)]
    have e1 : ((i : Int) + 1) = ((i + 1 : Nat) : Int) := by omega
    have hwf := I.fl
    unfold m_ref14_kids
    rw [e1]
    rw [kids_of I (V := a.val) (FE := fun k x => a.ents lo (d + 1) k x) (F := fun x => a.word lo x) (rc := m_ref14_entry fuel kf) (e := ⟨d, (Tm.top (.star a) lo : Int), k0, k0 + P.wid⟩) hn h1
      (fun k x => by simp only [hA, hWd d hd0 (by omega)]; exact ents_head a lo (d + 1) k x) (fun x hx => word_nb a lo x hx)
      (fun x hx i' k' rest' h2 h3 h4 h5 => by simp only [hA, hWd d hd0 (by omega)]; exact iha lo ha x hx kf i' (d + 1) k' rest' (by omega) h2 h3 h4 h5 (by omega) (by omega)) P hv (i + 1) k0 rest fuel h0 rfl hb c2 (by omega)]
    simp only [bind_some']
    congr 2
    simp; omega
  | maybe a iha =>
    intro lo hat P hv kf i d k0 rest hk h0 h1 hb hd hd0 hds
    obtain ⟨kf, rfl⟩ : ∃ n, kf = n + 1 := ⟨kf - 1, by simp [Tm.size] at hk; omega⟩
    obtain ⟨ha, _⟩ := (At.un rfl rfl).1 hat
    simp only [Tm.size] at hk hds
    have hg := hat.gt_top
    have hn := top_inb hat
    have hA : (gt l (Tm.top (.maybe a) lo : Int)).A = (a.top lo : Int) := by rw [hg]; rfl
    have e1 : ((i : Int) + 1) = ((i + 1 : Nat) : Int) := by omega
    rcases hv with rfl | ⟨x, rfl, v1, v2⟩
    · simp only [Tm.ents, Pt.wid] at hd h1 ⊢
      obtain ⟨c1, c2, c3, c4⟩ := chk_head I hd h0 (by omega) (by omega)
      rw [ent_6 c1 hn (by rw [hg]; rfl) (by rw [c3]; simp)]
      simp
    · simp only [Tm.word, okB_wrap] at hb
      simp only [Tm.ents, Pt.wid] at hd h1 ⊢
      obtain ⟨c1, c2, c3, c4⟩ := chk_head I hd h0 (by omega) (by omega)
      rw [ent_6 c1 hn (by rw [hg]; rfl) (by rw [c3]; simp)]
      simp only [e1, hWd d hd0 (by omega), hA]
      rw [if_neg (by omega), iha lo ha x v1 kf (i + 1) (d + 1) k0 _ (by omega) h0 (by omega) hb c2 (by omega) (by omega)]
      congr 2
      simp; omega
  | group n a iha =>
    intro lo hat P hv kf i d k0 rest hk h0 h1 hb hd hd0 hds
    obtain ⟨x, rfl, v1⟩ := hv
    obtain ⟨kf, rfl⟩ : ∃ n, kf = n + 1 := ⟨kf - 1, by simp [Tm.size] at hk; omega⟩
    obtain ⟨ha, _⟩ := (At.un rfl rfl).1 hat
    simp only [Tm.size] at hk hds
    have hg := hat.gt_top
    have hn := top_inb hat
    have hA : (gt l (Tm.top (.group n a) lo : Int)).A = (a.top lo : Int) := by rw [hg]; rfl
    have e1 : ((i : Int) + 1) = ((i + 1 : Nat) : Int) := by omega
    simp only [Tm.word, okB_wrap] at hb
    simp only [Tm.ents, Pt.wid] at hd h1 ⊢
    obtain ⟨c1, c2, c3, c4⟩ := chk_head I hd h0 (by omega) (by omega)
    rw [ent_7 c1 hn (by rw [hg]; exact .inl rfl) (by rw [c3]; simp)]
    simp only [e1, hWd d hd0 (by omega), hA]
    rw [iha lo ha x v1 kf (i + 1) (d + 1) k0 _ (by omega) h0 (by omega) hb c2 (by omega) (by omega)]
    congr 2
    simp; omega
  | iter a iha =>
    intro lo hat P hv kf i d k0 rest hk h0 h1 hb hd hd0 hds
    obtain ⟨x, rfl, v1⟩ := hv
    obtain ⟨kf, rfl⟩ : ∃ n, kf = n + 1 := ⟨kf - 1, by simp [Tm.size] at hk; omega⟩
    obtain ⟨ha, _⟩ := (At.un rfl rfl).1 hat
    simp only [Tm.size] at hk hds
    have hg := hat.gt_top
    have hn := top_inb hat
    have hA : (gt l (Tm.top (.iter a) lo : Int)).A = (a.top lo : Int) := by rw [hg]; rfl
    have e1 : ((i : Int) + 1) = ((i + 1 : Nat) : Int) := by omega
    simp only [Tm.word, okB_wrap] at hb
    simp only [Tm.ents, Pt.wid] at hd h1 ⊢
    obtain ⟨c1, c2, c3, c4⟩ := chk_head I hd h0 (by omega) (by omega)
    rw [ent_7 c1 hn (by rw [hg]; exact .inr rfl) (by rw [c3]; simp)]
    simp only [e1, hWd d hd0 (by omega), hA]
    rw [iha lo ha x v1 kf (i + 1) (d + 1) k0 _ (by omega) h0 (by omega) hb c2 (by omega) (by omega)]
    congr 2
    simp; omega
end
section
variable {fuel : Nat} {l : List MTerm} {w : List Int} {t : List MEntry}
/-- It is the entries of a parse. -/
def IsP (l : List MTerm) (w : List Int) (t : List MEntry) (V : Pt → Prop) (F : Pt → Wd) (FE : Int → Pt → List MEntry) (i : Nat) (k0 T r : Int) : Prop :=
  ∃ P rest, V P ∧ 0 ≤ k0 ∧ T = k0 + P.wid ∧ T ≤ (w.length : Int) ∧ okB (InS l w) k0 (F P) ∧ t.drop i = FE k0 P ++ rest ∧ r = ((i + (FE k0 P).length : Nat) : Int)
theorem kids_sound {V : Pt → Prop} {FE : Int → Pt → List MEntry} {F : Pt → Wd} {rc : List MTerm → List Int → List MEntry → Int → MEntry → Option Int} {e : MEntry} {x0 : Int} (hn : inb l e.Node = true) (hT : e.To ≤ (w.length : Int))
    (hFE : ∀ k x, ∃ E, FE k x = ⟨W (e.Depth + 1), (gt l e.Node).A, k, k + x.wid⟩ :: E) (hnb : ∀ x, V x → nbW (F x) = x.wid)
    (hr : ∀ (i : Nat) (k T : Int), ∃ r, rc l w t (i : Int) ⟨W (e.Depth + 1), (gt l e.Node).A, k, T⟩ = some r ∧ (r = -1 ∨ IsP l w t V F FE i k T r)) :
    ∀ (n i : Nat) (k0 : Int) (fu : Nat), 0 ≤ k0 → k0 + n = e.To → n < fu →
      ∃ r, iter (m_ref14_kids_l1 fuel rc l w t x0 e) fu ((i : Int), k0) = some r ∧ (r = .inr (-1) ∨ ∃ z, r = .inl z ∧ IsP l w t (starV V) (starW F) (starE FE) i k0 e.To z) := by
  intro n
  induction n using Nat.strongRecOn with
  | _ n ih =>
    intro i k0 fu h0 h1 hf
    obtain ⟨fu, rfl⟩ : ∃ m, fu = m + 1 := ⟨fu - 1, by omega⟩
    by_cases hn0 : n = 0
    · subst hn0
      refine ⟨.inl (i : Int), ?_, .inr ⟨_, rfl, .nil, t.drop i, trivial, h0, by simp [Pt.wid]; omega, hT, trivial, by simp [starE], by simp [starE]⟩⟩
      unfold iter m_ref14_kids_l1
      simp [show ¬ (k0 < e.To) by omega]
    · have c1 : k0 < e.To := by omega
      by_cases hi : i < t.length
      · have hin : inb t (i : Int) = true := inb_true (by omega) (by omega)
        have c2 : ¬ ((i : Int) ≥ (t.length : Int)) := by omega
        by_cases c3 : (gt t (i : Int)).To ≤ k0
        · refine ⟨.inr (-1), ?_, .inl rfl⟩
          unfold iter m_ref14_kids_l1
          simp [c1, c2, hin, c3]
        · obtain ⟨r, hr1, hr2⟩ := hr i k0 (gt t (i : Int)).To
          rcases hr2 with rfl | ⟨x, rest, v1, _, v3, v4, v5, v6, rfl⟩
          · refine ⟨.inr (-1), ?_, .inl rfl⟩
            unfold iter m_ref14_kids_l1
            simp [c1, c2, hin, c3, hn, hr1]
          · by_cases c5 : (gt t (i : Int)).To > e.To
            · refine ⟨.inr (-1), ?_, .inl rfl⟩
              have c4 : ¬ (((i + (FE k0 x).length : Nat) : Int) < 0) := by omega
              unfold iter m_ref14_kids_l1
              simp only [c1, c2, decide_true, decide_false, if_true, Bool.false_eq_true, if_false, hin, c3, bind_some', hn, hr1, c4, c5]
            · have hwid : 0 < x.wid := by omega
              obtain ⟨r', h2, h3⟩ := ih (n - x.wid) (by omega) (i + (FE k0 x).length) (k0 + x.wid) fu (by omega) (by omega) (by omega)
              refine ⟨r', ?_, ?_⟩
              · have c4 : ¬ (((i + (FE k0 x).length : Nat) : Int) < 0) := by omega
                unfold iter
                have hstep : m_ref14_kids_l1 fuel rc l w t x0 e ((i : Int), k0) = some (.next (((i + (FE k0 x).length : Nat) : Int), k0 + x.wid)) := by
                  rw [v3] at c3 c5 hr1
                  unfold m_ref14_kids_l1
                  simp only [v3, c1, c2, decide_true, decide_false, if_true, Bool.false_eq_true, if_false, hin, c3, bind_some', hn, hr1, c4, c5]
                rw [hstep]; exact h2
              · rcases h3 with h3 | ⟨z, h3, P, rest', u1, _, u3, u4, u5, u6, rfl⟩
                · exact .inl h3
                · refine .inr ⟨_, h3, .two x P, rest', ⟨v1, hwid, u1⟩, h0, by simp only [Pt.wid]; omega, hT, ?_, ?_, ?_⟩
                  · simp only [starW, okB_append, hnb x v1]; exact ⟨v5, u5⟩
                  · have := drop_add v6
                    rw [this] at u6
                    simp only [starE, List.append_assoc]
                    rw [v6, u6]
                  · simp [starE, Nat.add_assoc]
      · refine ⟨.inr (-1), ?_, .inl rfl⟩
        unfold iter m_ref14_kids_l1
        simp [c1, show (i : Int) ≥ (t.length : Int) by omega]
theorem drop_cons' {i : Nat} {e : MEntry} (h : i < t.length) (hg : gt t (i : Int) = e) {r : List MEntry} (hr : t.drop (i + 1) = r) : t.drop i = e :: r := by rw [drop_cons h, hg, hr]
theorem entry_sound (I : EntI l w t fuel) : ∀ (s : Tm) (lo : Nat), At l lo s → ∀ (kf i : Nat) (d k0 T : Int), s.size ≤ kf → 0 ≤ d → d + s.size ≤ 1000000000 →
    ∃ r, m_ref14_entry fuel kf l w t (i : Int) ⟨d, (s.top lo : Int), k0, T⟩ = some r ∧ (r = -1 ∨ IsP l w t s.val (s.word lo) (s.ents lo d) i k0 T r) := by
  intro s
  have hWd : ∀ d : Int, 0 ≤ d → d ≤ 1000000000 → W (d + 1) = d + 1 := fun d h1 h2 => W_id (by omega) (by omega)
  have pre : ∀ {s : Tm} {lo : Nat}, At l lo s → ∀ (kf i : Nat) (d k0 T : Int), s.size ≤ kf + 1 →
      (chkB w t (i : Int) ⟨d, (s.top lo : Int), k0, T⟩ = true → 0 ≤ k0 → k0 ≤ T → T ≤ (w.length : Int) → i < t.length → gt t (i : Int) = ⟨d, (s.top lo : Int), k0, T⟩ → W ((i : Int) + 1) = ((i + 1 : Nat) : Int) → ∃ r, m_ref14_entry fuel (kf + 1) l w t (i : Int) ⟨d, (s.top lo : Int), k0, T⟩ = some r ∧ (r = -1 ∨ IsP l w t s.val (s.word lo) (s.ents lo d) i k0 T r)) →
      ∃ r, m_ref14_entry fuel (kf + 1) l w t (i : Int) ⟨d, (s.top lo : Int), k0, T⟩ = some r ∧ (r = -1 ∨ IsP l w t s.val (s.word lo) (s.ents lo d) i k0 T r) := by
    intro s lo hat kf i d k0 T hk h
    cases hc : chkB w t (i : Int) ⟨d, (s.top lo : Int), k0, T⟩ with
    | false => exact ⟨-1, ent_no hc, .inl rfl⟩
    | true =>
      obtain ⟨_, c2, c3, c4, c5, c6⟩ := chk_of hc
      have := I.tl
      exact h hc c4 c5 c6 (by omega) c3 (W_succ (by omega))
  induction s with
  | eps =>
    intro lo hat kf i d k0 T hk hd0 hds
    obtain ⟨kf, rfl⟩ : ∃ n, kf = n + 1 := ⟨kf - 1, by simp [Tm.size] at hk; omega⟩
    refine pre hat kf i d k0 T hk fun c1 h0 h1 h2 hi hg hW => ?_
    rw [ent_1 c1 (top_inb hat) (by rw [hat.gt_top]; rfl)]
    by_cases c : k0 = T
    · refine ⟨_, rfl, .inr ⟨.nil, t.drop (i + 1), rfl, h0, by simp [Pt.wid, c], h2, by simp [Tm.word, okB_wrap, okB], ?_, ?_⟩⟩
      · exact drop_cons' hi (by rw [hg]; simp [Tm.top, Tm.size, Pt.wid, c]) rfl
      · simp only; rw [if_pos c, hW]; simp [Tm.ents]
    · exact ⟨-1, by simp only; rw [if_neg c], .inl rfl⟩
  | leaf S =>
    intro lo hat kf i d k0 T hk hd0 hds
    obtain ⟨kf, rfl⟩ : ∃ n, kf = n + 1 := ⟨kf - 1, by simp [Tm.size] at hk; omega⟩
    refine pre hat kf i d k0 T hk fun c1 h0 h1 h2 hi hg hW => ?_
    rw [ent_2 c1 (top_inb hat) (by rw [hat.gt_top]; rfl) (I.set _ hat.top_lt) I.hw I.wl]
    by_cases c : T = k0 + 1 ∧ hasB (gt l ((Tm.leaf S).top lo : Int)).Set (gt w k0) = true
    · refine ⟨_, rfl, .inr ⟨.byte, t.drop (i + 1), rfl, h0, by simp [Pt.wid, c.1], h2, ?_, ?_, ?_⟩⟩
      · simp only [Tm.word, okB_wrap, okB, and_true]
        have := c.2
        simpa [Tm.top, Tm.size, InS] using this
      · exact drop_cons' hi (by rw [hg]; simp [Tm.top, Tm.size, Pt.wid, c.1]) rfl
      · simp only; rw [if_pos c, hW]; simp [Tm.ents]
    · exact ⟨-1, by simp only; rw [if_neg c], .inl rfl⟩
  | cat a b iha ihb =>
    intro lo hat kf i d k0 T hk hd0 hds
    obtain ⟨kf, rfl⟩ : ∃ n, kf = n + 1 := ⟨kf - 1, by simp [Tm.size] at hk; omega⟩
    refine pre hat kf i d k0 T hk fun c1 h0 h1 h2 hi hg hW => ?_
    obtain ⟨ha, hb', _⟩ := (At.bin rfl rfl).1 hat
    simp only [Tm.size] at hk hds
    have hgt := hat.gt_top
    have e1 : ((i : Int) + 1) = ((i + 1 : Nat) : Int) := by omega
    have hA : (gt l (Tm.top (.cat a b) lo : Int)).A = (a.top lo : Int) := by rw [hgt]; rfl
    have hB : (gt l (Tm.top (.cat a b) lo : Int)).B = (b.top (lo + a.size) : Int) := by rw [hgt]; rfl
    rw [ent_3 c1 (top_inb hat) (by rw [hgt]; rfl) (by rw [hW]; simp)]
    simp only [e1, hWd d hd0 (by omega), hA, hB]
    by_cases c2 : ((i + 1 : Nat) : Int) ≥ (t.length : Int)
    · exact ⟨-1, by rw [if_pos c2], .inl rfl⟩
    · rw [if_neg c2]
      obtain ⟨r, hr1, hr2⟩ := iha lo ha kf (i + 1) (d + 1) k0 (gt t ((i + 1 : Nat) : Int)).To (by omega) (by omega) (by omega)
      rw [hr1, bind_some']
      rcases hr2 with rfl | ⟨x, rest, v1, v2, v3, v4, v5, v6, rfl⟩
      · exact ⟨-1, by simp, .inl rfl⟩
      · by_cases c3 : (gt t ((i + 1 : Nat) : Int)).To > T
        · exact ⟨-1, by rw [if_pos (.inr c3)], .inl rfl⟩
        · rw [if_neg (by omega)]
          obtain ⟨r2, hs1, hs2⟩ := ihb (lo + a.size) hb' kf (i + 1 + (a.ents lo (d + 1) k0 x).length) (d + 1) (gt t ((i + 1 : Nat) : Int)).To T (by omega) (by omega) (by omega)
          refine ⟨r2, hs1, ?_⟩
          rcases hs2 with rfl | ⟨y, rest', u1, u2, u3, u4, u5, u6, rfl⟩
          · exact .inl rfl
          · rw [v3] at u3 u5 u6
            refine .inr ⟨.two x y, rest', ⟨x, y, rfl, v1, u1⟩, h0, by simp only [Pt.wid]; omega, h2, ?_, ?_, ?_⟩
            · simp only [Tm.word, okB_wrap, okB_append, word_nb a lo x v1]; exact ⟨v5, u5⟩
            · refine drop_cons' hi (by rw [hg]; simp only [Pt.wid, MEntry.mk.injEq, true_and]; omega) ?_
              have := drop_add v6
              rw [this] at u6
              show t.drop (i + 1) = (a.ents lo (d + 1) k0 x ++ b.ents (lo + a.size) (d + 1) (k0 + x.wid) y) ++ rest'
              rw [List.append_assoc, v6, u6]
            · rw [v3]; simp [Tm.ents]; omega
  | alt a b iha ihb =>
    intro lo hat kf i d k0 T hk hd0 hds
    obtain ⟨kf, rfl⟩ : ∃ n, kf = n + 1 := ⟨kf - 1, by simp [Tm.size] at hk; omega⟩
    refine pre hat kf i d k0 T hk fun c1 h0 h1 h2 hi hg hW => ?_
    obtain ⟨ha, hb', _⟩ := (At.bin rfl rfl).1 hat
    simp only [Tm.size] at hk hds
    have hgt := hat.gt_top
    have e1 : ((i : Int) + 1) = ((i + 1 : Nat) : Int) := by omega
    have hA : (gt l (Tm.top (.alt a b) lo : Int)).A = (a.top lo : Int) := by rw [hgt]; rfl
    have hB : (gt l (Tm.top (.alt a b) lo : Int)).B = (b.top (lo + a.size) : Int) := by rw [hgt]; rfl
    rw [ent_4 c1 (top_inb hat) (by rw [hgt]; rfl) (by rw [hW]; simp)]
    simp only [e1, hWd d hd0 (by omega), hA, hB]
    by_cases c2 : ((i + 1 : Nat) : Int) < (t.length : Int) ∧ (gt t ((i + 1 : Nat) : Int)).Node = (b.top (lo + a.size) : Int)
    · rw [if_pos c2]
      obtain ⟨r, hr1, hr2⟩ := ihb (lo + a.size) hb' kf (i + 1) (d + 1) k0 T (by omega) (by omega) (by omega)
      refine ⟨r, hr1, hr2.imp id ?_⟩
      rintro ⟨x, rest, v1, v2, v3, v4, v5, v6, rfl⟩
      exact ⟨.other x, rest, .inr ⟨x, rfl, v1⟩, h0, v3, h2, by simpa [Tm.word, okB_wrap] using v5, drop_cons' hi (by rw [hg, v3]; rfl) v6, by simp [Tm.ents]; omega⟩
    · rw [if_neg c2]
      obtain ⟨r, hr1, hr2⟩ := iha lo ha kf (i + 1) (d + 1) k0 T (by omega) (by omega) (by omega)
      refine ⟨r, hr1, hr2.imp id ?_⟩
      rintro ⟨x, rest, v1, v2, v3, v4, v5, v6, rfl⟩
      exact ⟨.one x, rest, .inl ⟨x, rfl, v1⟩, h0, v3, h2, by simpa [Tm.word, okB_wrap] using v5, drop_cons' hi (by rw [hg, v3]; rfl) v6, by simp [Tm.ents]; omega⟩
  | star a iha =>
    intro lo hat kf i d k0 T hk hd0 hds
    obtain ⟨kf, rfl⟩ : ∃ n, kf = n + 1 := ⟨kf - 1, by simp [Tm.size] at hk; omega⟩
    refine pre hat kf i d k0 T hk fun c1 h0 h1 h2 hi hg hW => ?_
    obtain ⟨ha, _⟩ := (At.un rfl rfl).1 hat
    simp only [Tm.size] at hk hds
    have hgt := hat.gt_top
    have e1 : ((i : Int) + 1) = ((i + 1 : Nat) : Int) := by omega
    have hA : (gt l (Tm.top (.star a) lo : Int)).A = (a.top lo : Int) := by rw [hgt]; rfl
    rw [ent_5 c1 (top_inb hat) (by rw [hgt]; rfl) (by rw [hW]; simp)]
    have hfl := I.fl
    have hT : T = k0 + ((T - k0).toNat : Int) := by omega
    obtain ⟨r, hr1, hr2⟩ := kids_sound (fuel := fuel) (l := l) (w := w) (t := t) (V := a.val) (FE := fun k x => a.ents lo (d + 1) k x) (F := fun x => a.word lo x) (rc := m_ref14_entry fuel kf) (e := ⟨d, (Tm.top (.star a) lo : Int), k0, T⟩) (x0 := (i : Int) + 1) (top_inb hat) h2
      (fun k x => by simp only [hA, hWd d hd0 (by omega)]; exact ents_head a lo (d + 1) k x) (fun x hx => word_nb a lo x hx)
      (fun i' k' T' => by simp only [hA, hWd d hd0 (by omega)]; exact iha lo ha kf i' (d + 1) k' T' (by omega) (by omega) (by omega)) (T - k0).toNat (i + 1) k0 fuel h0 hT.symm (by omega)
    unfold m_ref14_kids
    rw [e1] at hr1 ⊢
    rw [hr1]
    rcases hr2 with rfl | ⟨z, rfl, P, rest, u1, u2, u3, u4, u5, u6, rfl⟩
    · exact ⟨-1, rfl, .inl rfl⟩
    · refine ⟨_, rfl, .inr ⟨P, rest, u1, h0, u3, h2, by simpa [Tm.word, okB_wrap] using u5, drop_cons' hi (by rw [hg]; exact congrArg (fun z => (⟨d, (Tm.top (.star a) lo : Int), k0, z⟩ : MEntry)) u3) u6, by simp [Tm.ents]; omega⟩⟩
  | maybe a iha =>
    intro lo hat kf i d k0 T hk hd0 hds
    obtain ⟨kf, rfl⟩ : ∃ n, kf = n + 1 := ⟨kf - 1, by simp [Tm.size] at hk; omega⟩
    refine pre hat kf i d k0 T hk fun c1 h0 h1 h2 hi hg hW => ?_
    obtain ⟨ha, _⟩ := (At.un rfl rfl).1 hat
    simp only [Tm.size] at hk hds
    have hgt := hat.gt_top
    have e1 : ((i : Int) + 1) = ((i + 1 : Nat) : Int) := by omega
    have hA : (gt l (Tm.top (.maybe a) lo : Int)).A = (a.top lo : Int) := by rw [hgt]; rfl
    rw [ent_6 c1 (top_inb hat) (by rw [hgt]; rfl) (by rw [hW]; simp)]
    simp only [e1, hWd d hd0 (by omega), hA]
    by_cases c : k0 = T
    · rw [if_pos c]
      refine ⟨_, rfl, .inr ⟨.nil, t.drop (i + 1), .inl rfl, h0, by simp [Pt.wid, c], h2, by simp [Tm.word, okB_wrap, okB], ?_, ?_⟩⟩
      · exact drop_cons' hi (by rw [hg]; simp [Pt.wid, c]) (by simp)
      · simp [Tm.ents]
    · rw [if_neg c]
      obtain ⟨r, hr1, hr2⟩ := iha lo ha kf (i + 1) (d + 1) k0 T (by omega) (by omega) (by omega)
      refine ⟨r, hr1, hr2.imp id ?_⟩
      rintro ⟨x, rest, v1, v2, v3, v4, v5, v6, rfl⟩
      exact ⟨.one x, rest, .inr ⟨x, rfl, v1, by omega⟩, h0, v3, h2, by simpa [Tm.word, okB_wrap] using v5, drop_cons' hi (by rw [hg, v3]; rfl) v6, by simp [Tm.ents]; omega⟩
  | group n a iha =>
    intro lo hat kf i d k0 T hk hd0 hds
    obtain ⟨kf, rfl⟩ : ∃ n, kf = n + 1 := ⟨kf - 1, by simp [Tm.size] at hk; omega⟩
    refine pre hat kf i d k0 T hk fun c1 h0 h1 h2 hi hg hW => ?_
    obtain ⟨ha, _⟩ := (At.un rfl rfl).1 hat
    simp only [Tm.size] at hk hds
    have hgt := hat.gt_top
    have e1 : ((i : Int) + 1) = ((i + 1 : Nat) : Int) := by omega
    have hA : (gt l (Tm.top (.group n a) lo : Int)).A = (a.top lo : Int) := by rw [hgt]; rfl
    rw [ent_7 c1 (top_inb hat) (by rw [hgt]; exact .inl rfl) (by rw [hW]; simp)]
    simp only [e1, hWd d hd0 (by omega), hA]
    obtain ⟨r, hr1, hr2⟩ := iha lo ha kf (i + 1) (d + 1) k0 T (by omega) (by omega) (by omega)
    refine ⟨r, hr1, hr2.imp id ?_⟩
    rintro ⟨x, rest, v1, v2, v3, v4, v5, v6, rfl⟩
    exact ⟨.one x, rest, ⟨x, rfl, v1⟩, h0, v3, h2, by simpa [Tm.word, okB_wrap] using v5, drop_cons' hi (by rw [hg, v3]; rfl) v6, by simp [Tm.ents]; omega⟩
  | iter a iha =>
    intro lo hat kf i d k0 T hk hd0 hds
    obtain ⟨kf, rfl⟩ : ∃ n, kf = n + 1 := ⟨kf - 1, by simp [Tm.size] at hk; omega⟩
    refine pre hat kf i d k0 T hk fun c1 h0 h1 h2 hi hg hW => ?_
    obtain ⟨ha, _⟩ := (At.un rfl rfl).1 hat
    simp only [Tm.size] at hk hds
    have hgt := hat.gt_top
    have e1 : ((i : Int) + 1) = ((i + 1 : Nat) : Int) := by omega
    have hA : (gt l (Tm.top (.iter a) lo : Int)).A = (a.top lo : Int) := by rw [hgt]; rfl
    rw [ent_7 c1 (top_inb hat) (by rw [hgt]; exact .inr rfl) (by rw [hW]; simp)]
    simp only [e1, hWd d hd0 (by omega), hA]
    obtain ⟨r, hr1, hr2⟩ := iha lo ha kf (i + 1) (d + 1) k0 T (by omega) (by omega) (by omega)
    refine ⟨r, hr1, hr2.imp id ?_⟩
    rintro ⟨x, rest, v1, v2, v3, v4, v5, v6, rfl⟩
    exact ⟨.one x, rest, ⟨x, rfl, v1⟩, h0, v3, h2, by simpa [Tm.word, okB_wrap] using v5, drop_cons' hi (by rw [hg, v3]; rfl) v6, by simp [Tm.ents]; omega⟩
end
end Go.Proofs.Ytfhehbfifffipaa
