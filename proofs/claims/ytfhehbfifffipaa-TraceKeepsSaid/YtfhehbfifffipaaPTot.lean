/- Each way opens just one Leaf, with its last step: so runs that are not the same part. Its conditions: none. -/
import Derived.Test.YtfhehbfifffipaaPTrc4
set_option autoImplicit false
namespace Go.Proofs.Ytfhehbfifffipaa
open Go.V Go.RowKit

/-- A step that opens a Leaf. -/
def LO (l : List MTerm) (x : Int) : Prop := ∃ q : Nat, x = opn q ∧ (gt l (q : Int)).Kind = 2
theorem not_LO_cls (l : List MTerm) (q : Nat) : ¬ LO l (cls q) := by
  rintro ⟨q', h, _⟩; unfold cls opn at h; omega
theorem not_LO_opn {l : List MTerm} {q : Nat} (h : (gt l (q : Int)).Kind ≠ 2) : ¬ LO l (opn q) := by
  rintro ⟨q', h1, h2⟩
  have : q = q' := by unfold opn at h1; omega
  subst this; exact h h2
theorem At.kind_ne {l : List MTerm} {lo : Nat} {s : Tm} (h : At l lo s) (hs : ∀ S, s ≠ .leaf S) : (gt l (s.top lo : Int)).Kind ≠ 2 := by
  rw [h.gt_top]
  cases s with
  | leaf S => exact absurd rfl (hs S)
  | _ => simp [Tm.node]
theorem steps_noLO {l : List MTerm} : ∀ (t : Tm) (lo : Nat), At l lo t → t.can = true → ∀ x ∈ t.steps lo, ¬ LO l x := by
  intro t
  induction t with
  | eps =>
    intro lo h hc x hx
    have hk := h.kind_ne (by intro S hS; cases hS)
    simp only [Tm.top, Tm.size, Nat.add_sub_cancel] at hk
    simp only [Tm.steps, List.mem_cons, List.not_mem_nil, or_false] at hx
    rcases hx with rfl | rfl
    · exact not_LO_opn hk
    · exact not_LO_cls l _
  | leaf S => intro lo h hc; simp [Tm.can] at hc
  | cat a b iha ihb =>
    intro lo h hc x hx
    have hk := h.kind_ne (by intro S hS; cases hS)
    obtain ⟨h1, h2, _⟩ := (At.bin rfl rfl).1 h
    simp only [Tm.can, Bool.and_eq_true] at hc
    simp only [Tm.steps, List.mem_append, List.mem_singleton] at hx
    rcases hx with (rfl | hx | hx) | rfl
    · exact not_LO_opn hk
    · exact iha lo h1 hc.1 x hx
    · exact ihb _ h2 hc.2 x hx
    · exact not_LO_cls l _
  | alt a b iha ihb =>
    intro lo h hc x hx
    have hk := h.kind_ne (by intro S hS; cases hS)
    obtain ⟨h1, h2, _⟩ := (At.bin rfl rfl).1 h
    simp only [Tm.can, Bool.or_eq_true] at hc
    simp only [Tm.steps, List.mem_append, List.mem_singleton] at hx
    rcases hx with (rfl | hx) | rfl
    · exact not_LO_opn hk
    · split at hx
      · rename_i hca; exact iha lo h1 hca x hx
      · rename_i hca; exact ihb _ h2 (hc.resolve_left hca) x hx
    · exact not_LO_cls l _
  | star a iha =>
    intro lo h hc x hx
    have hk := h.kind_ne (by intro S hS; cases hS)
    simp only [Tm.steps, List.mem_cons, List.not_mem_nil, or_false] at hx
    rcases hx with rfl | rfl
    · exact not_LO_opn hk
    · exact not_LO_cls l _
  | maybe a iha =>
    intro lo h hc x hx
    have hk := h.kind_ne (by intro S hS; cases hS)
    simp only [Tm.steps, List.mem_cons, List.not_mem_nil, or_false] at hx
    rcases hx with rfl | rfl
    · exact not_LO_opn hk
    · exact not_LO_cls l _
  | group n a iha =>
    intro lo h hc x hx
    have hk := h.kind_ne (by intro S hS; cases hS)
    simp only [Tm.can] at hc
    simp only [Tm.steps, List.mem_append, List.mem_singleton] at hx
    rcases hx with (rfl | hx) | rfl
    · exact not_LO_opn hk
    · exact iha lo ((At.un rfl rfl).1 h).1 hc x hx
    · exact not_LO_cls l _
  | iter a iha =>
    intro lo h hc x hx
    have hk := h.kind_ne (by intro S hS; cases hS)
    simp only [Tm.can] at hc
    simp only [Tm.steps, List.mem_append, List.mem_singleton] at hx
    rcases hx with (rfl | hx) | rfl
    · exact not_LO_opn hk
    · exact iha lo ((At.un rfl rfl).1 h).1 hc x hx
    · exact not_LO_cls l _
/-- A way's last step opens its place's Leaf, and no step ahead of it opens one. -/
def LeafEnd (l : List MTerm) (h : MHop) : Prop := ∃ (pre : List Int) (q : Nat), h.Steps = pre ++ [opn q] ∧ (∀ x ∈ pre, ¬ LO l x) ∧ (gt l (q : Int)).Kind = 2 ∧ h.To = (leavesN l q : Int)
theorem into_leaf {l : List MTerm} : ∀ (s : Tm) (lo : Nat) (ahead : List Int), At l lo s → (∀ x ∈ ahead, ¬ LO l x) → ∀ h ∈ s.into lo (leavesN l lo) ahead, LeafEnd l h := by
  intro s
  induction s with
  | eps => intro lo ahead _ _ h hh; simp [Tm.into] at hh
  | leaf S =>
    intro lo ahead hat ha h hh
    simp only [Tm.into, List.mem_singleton] at hh
    subst hh
    have hk := hat.gt_top
    simp only [Tm.top, Tm.size, Nat.add_sub_cancel] at hk
    exact ⟨ahead, lo, rfl, ha, by rw [hk]; rfl, rfl⟩
  | cat a b iha ihb =>
    intro lo ahead hat ha h hh
    have hk := hat.kind_ne (by intro S hS; cases hS)
    obtain ⟨h1, h2, _⟩ := (At.bin rfl rfl).1 hat
    have ha' : ∀ x ∈ ahead ++ [opn (Tm.top (.cat a b) lo)], ¬ LO l x := by
      intro x hx
      rcases List.mem_append.1 hx with hx | hx
      · exact ha x hx
      · simp only [List.mem_singleton] at hx; subst hx; exact not_LO_opn hk
    simp only [Tm.into, List.mem_append] at hh
    rcases hh with hh | hh
    · exact iha lo _ h1 ha' h hh
    · split at hh
      · rename_i hca
        rw [← leavesN_at h1] at hh
        refine ihb (lo + a.size) _ h2 ?_ h hh
        intro x hx
        rcases List.mem_append.1 hx with hx | hx
        · exact ha' x hx
        · exact steps_noLO a lo h1 hca x hx
      · simp at hh
  | alt a b iha ihb =>
    intro lo ahead hat ha h hh
    have hk := hat.kind_ne (by intro S hS; cases hS)
    obtain ⟨h1, h2, _⟩ := (At.bin rfl rfl).1 hat
    have ha' : ∀ x ∈ ahead ++ [opn (Tm.top (.alt a b) lo)], ¬ LO l x := by
      intro x hx
      rcases List.mem_append.1 hx with hx | hx
      · exact ha x hx
      · simp only [List.mem_singleton] at hx; subst hx; exact not_LO_opn hk
    simp only [Tm.into, List.mem_append] at hh
    rcases hh with hh | hh
    · exact iha lo _ h1 ha' h hh
    · rw [← leavesN_at h1] at hh
      exact ihb (lo + a.size) _ h2 ha' h hh
  | star a iha | maybe a iha | group _ a iha | iter a iha =>
    intro lo ahead hat ha h hh
    have hk := hat.kind_ne (by intro S hS; cases hS)
    refine iha lo _ ((At.un rfl rfl).1 hat).1 ?_ h hh
    intro x hx
    rcases List.mem_append.1 hx with hx | hx
    · exact ha x hx
    · simp only [List.mem_singleton] at hx; subst hx; exact not_LO_opn hk

theorem turnsF_leaf {l : List MTerm} (d : Int) : ∀ (r out : List MHop), (∀ h ∈ out, LeafEnd l h) → (∀ h ∈ r, LeafEnd l h) → ∀ h ∈ turnsF d out r, LeafEnd l h
  | [], out, h, _ => h
  | x :: r, out, h, hr => by
    simp only [turnsF]
    refine turnsF_leaf d r _ ?_ (fun y hy => hr y (by simp [hy]))
    split
    · exact h
    · intro y hy
      rcases List.mem_append.1 hy with hy | hy
      · exact h y hy
      · simp only [List.mem_singleton] at hy; subst hy; exact hr x (by simp)
theorem noLO_snoc {l : List MTerm} {st : List Int} (h : ∀ x ∈ st, ¬ LO l x) (q : Nat) : ∀ x ∈ st ++ [cls q], ¬ LO l x := by
  intro x hx
  rcases List.mem_append.1 hx with hx | hx
  · exact h x hx
  · simp only [List.mem_singleton] at hx; subst hx; exact not_LO_cls l q
theorem climbF_leaf {l : List MTerm} {t : Tm} (ht : IsT l t) : ∀ (fs : List Fr) (lo : Nat) (s : Tm) (st : List Int) (out : List MHop), Ctx t lo s fs → (∀ x ∈ st, ¬ LO l x) → (∀ h ∈ out, LeafEnd l h) → ∀ h ∈ (climbF lo (leavesN l lo) s st out fs).1, LeafEnd l h
  | [], lo, s, st, out, hx, hn, hg => hg
  | f :: fs, lo, s, st, out, hx, hn, hg => by
    have hpar := hx.2.at_ ht
    have hself := hx.at_ ht
    have hln := leavesN_at hself
    have hlv : leavesN l (lo - f.off) = leavesN l lo - f.lvs := by
      cases f <;> simp only [Fr.plug, Fr.off, Fr.lvs, Nat.sub_zero] at hpar ⊢
      case catR a =>
        have h0 := hx.1; simp only [Fr.off] at h0
        have := leavesN_at ((At.bin rfl rfl).1 hpar).1
        rw [show lo - a.size + a.size = lo from by omega] at this; omega
      case altR a =>
        have h0 := hx.1; simp only [Fr.off] at h0
        have := leavesN_at ((At.bin rfl rfl).1 hpar).1
        rw [show lo - a.size + a.size = lo from by omega] at this; omega
    have hc := noLO_snoc hn ((f.plug s).top (lo - f.off))
    cases f with
    | catL b =>
      have hxb : Ctx t (lo + s.size) b (.catR s :: fs) := ⟨Nat.le_add_left _ _, by simpa [Fr.off, Fr.plug] using hx.2⟩
      have hatb := hxb.at_ ht
      have hg' := turnsF_leaf (l := l) ((fs.length + 1 : Nat) : Int) (b.into (lo + s.size) (leavesN l lo + s.leaves) st) out hg (by rw [← hln]; exact into_leaf b _ st hatb hn)
      simp only [climbF]
      split
      · rename_i hcb
        refine climbF_leaf ht fs lo (.cat s b) _ _ hx.2 (noLO_snoc ?_ _) hg'
        intro x hx
        rcases List.mem_append.1 hx with hx | hx
        · exact hn x hx
        · exact steps_noLO b _ hatb hcb x hx
      · exact hg'
    | star =>
      have hg' := turnsF_leaf (l := l) ((fs.length + 1 : Nat) : Int) (s.into lo (leavesN l lo) st) out hg (into_leaf s lo st hself hn)
      simp only [climbF]
      exact climbF_leaf ht fs lo (.star s) _ _ hx.2 hc hg'
    | catR a =>
      have := climbF_leaf ht fs (lo - (Fr.catR a).off) ((Fr.catR a).plug s) _ out hx.2 hc hg
      rw [hlv] at this; exact this
    | altR a =>
      have := climbF_leaf ht fs (lo - (Fr.altR a).off) ((Fr.altR a).plug s) _ out hx.2 hc hg
      rw [hlv] at this; exact this
    | altL b =>
      have := climbF_leaf ht fs (lo - (Fr.altL b).off) ((Fr.altL b).plug s) _ out hx.2 hc hg
      rw [hlv] at this; exact this
    | maybe =>
      have := climbF_leaf ht fs (lo - Fr.maybe.off) (Fr.maybe.plug s) _ out hx.2 hc hg
      rw [hlv] at this; exact this
    | group n =>
      have := climbF_leaf ht fs (lo - (Fr.group n).off) ((Fr.group n).plug s) _ out hx.2 hc hg
      rw [hlv] at this; exact this
    | iter =>
      have := climbF_leaf ht fs (lo - Fr.iter.off) (Fr.iter.plug s) _ out hx.2 hc hg
      rw [hlv] at this; exact this
theorem ways_leaf {l : List MTerm} (hw : ∀ x ∈ l, wfTerm x) (hl : l.length ≤ 1000) {fuel : Nat} (hf : 1000001 < fuel) (p : Int) : ∀ h ∈ wayL fuel l p, LeafEnd l h := by
  intro h hh
  cases hR : RightB l with
  | false =>
    unfold wayL at hh
    split at hh
    · rw [(m_First_no hw (by omega) (by omega) (by omega) (.inl hR)).1] at hh; simp at hh
    · rw [m_From_no hw (by omega) (.inl hR)] at hh; simp at hh
  | true =>
    obtain ⟨t, ht⟩ := tree_of hw hR
    have h400 := ht.le; have hln := ht.len; have hsp := t.size_pos
    have hW : W ((l.length : Int) - 1) = (t.top 0 : Int) := by rw [W_id (by omega) (by omega)]; unfold Tm.top; omega
    unfold wayL at hh
    split at hh
    · rw [hW, (m_First hw ht hR hf ht.at0).1] at hh
      exact into_leaf t 0 [] ht.at0 (by simp) h (by simpa using hh)
    · rename_i hp
      by_cases hin : p < (leavesN l l.length : Int)
      · obtain ⟨n, rfl⟩ : ∃ n : Nat, p = n := ⟨p.toNat, by omega⟩
        obtain ⟨q, S, fs, hpl⟩ := place_of ht (show n < leavesN l l.length by omega)
        rw [m_From hw ht hR hf hpl (by omega)] at hh
        have hc := climbF_leaf ht fs q (.leaf S) [cls q] [] hpl.ctx (by intro x hx; simp only [List.mem_singleton] at hx; subst hx; exact not_LO_cls l q) (by simp)
        rw [hpl.num] at hc
        replace hc : ∀ h ∈ (climbP t n q S fs).1, LeafEnd l h := hc
        exact hc h ((sortK_perm MHop.To _).mem_iff.1 (by simpa using hh))
      · rw [m_From_no hw (by omega) (.inr (.inr (by omega)))] at hh; simp at hh
/-- Ways that do not differ within the shorter one are to one place, by the same steps. -/
theorem leaf_uniq {l : List MTerm} {h h' : MHop} (a : LeafEnd l h) (b : LeafEnd l h') (hn : ∀ i : Nat, i < h.Steps.length → i < h'.Steps.length → gt h.Steps (i : Int) = gt h'.Steps (i : Int)) : h.Steps = h'.Steps ∧ h.To = h'.To := by
  have key : ∀ {h h' : MHop}, LeafEnd l h → LeafEnd l h' → h.Steps.length ≤ h'.Steps.length → (∀ i : Nat, i < h.Steps.length → i < h'.Steps.length → gt h.Steps (i : Int) = gt h'.Steps (i : Int)) → h.Steps = h'.Steps ∧ h.To = h'.To := by
    rintro h h' ⟨p, q, e1, n1, k1, t1⟩ ⟨p', q', e2, n2, k2, t2⟩ hle hn
    have hl1 : h.Steps.length = p.length + 1 := by rw [e1]; simp
    have hl2 : h'.Steps.length = p'.length + 1 := by rw [e2]; simp
    have hlast : gt h.Steps (p.length : Int) = opn q := by rw [e1]; exact gt_append_right rfl
    have hsame := hn p.length (by omega) (by omega)
    rw [hlast] at hsame
    by_cases c : p.length < p'.length
    · exfalso
      have hg : gt h'.Steps (p.length : Int) ∈ p' := by
        rw [e2, gt_append_left (by omega) (by omega)]; exact gt_mem c
      exact n2 _ hg ⟨q, hsame.symm, k1⟩
    · have hpl : p.length = p'.length := by omega
      have e : h.Steps = h'.Steps := by
        apply List.ext_getElem (by omega)
        intro i h1 h2
        have := hn i h1 h2
        rwa [gt_get_nat (x := h.Steps[i]) (by simp), gt_get_nat (x := h'.Steps[i]) (by simp)] at this
      refine ⟨e, ?_⟩
      rw [e, e2, hpl, gt_append_right rfl] at hlast
      have : q' = q := by unfold opn at hlast; omega
      rw [t1, t2, this]
  rcases Nat.le_total h.Steps.length h'.Steps.length with hle | hle
  · exact key a b hle hn
  · obtain ⟨h1, h2⟩ := key b a hle (fun i hi hi' => (hn i hi' hi).symm)
    exact ⟨h1.symm, h2.symm⟩

/-- The frames of a run, from a place on. -/
def framesR (fuel : Nat) (l : List MTerm) : Int → List Int → Option (List (List Int) × Int)
  | at_, [] => some ([], at_)
  | at_, p :: ps => match wayTo (wayL fuel l at_) p with
    | none => none
    | some h => (framesR fuel l p ps).map fun r => (h.Steps :: r.1, r.2)
theorem fold_framesR {fuel : Nat} {l : List MTerm} : ∀ (run : List Int) (fs0 fs : List (List Int)) (at_ at' : Int), foldE (stepF fuel l) (fs0, at_) run = .inl (fs, at') → ∃ gs, framesR fuel l at_ run = some (gs, at') ∧ fs = fs0 ++ gs
  | [], fs0, fs, at_, at', h => by
    simp only [foldE, Sum.inl.injEq, Prod.mk.injEq] at h
    exact ⟨[], by simp [framesR, h.2], by simp [h.1]⟩
  | p :: ps, fs0, fs, at_, at', h => by
    simp only [foldE] at h
    cases c : wayTo (wayL fuel l at_) p with
    | none => simp [stepF, c] at h
    | some y =>
      have e : stepF fuel l (fs0, at_) p = .inl (fs0 ++ [y.Steps], p) := by simp [stepF, c]
      rw [e] at h
      obtain ⟨gs, h1, h2⟩ := fold_framesR ps _ _ _ _ h
      exact ⟨y.Steps :: gs, by simp [framesR, c, h1], by simp [h2]⟩
theorem partT_none : ∀ (xs ys : List Int) (s n : Int), foldE partT s (xs.zip ys) = .inl n → ∀ i : Nat, i < xs.length → i < ys.length → gt xs (i : Int) = gt ys (i : Int)
  | [], _, _, _, _, i, h1, _ => by simp at h1
  | _ :: _, [], _, _, _, i, _, h2 => by simp at h2
  | x :: xs, y :: ys, s, n, h, i, h1, h2 => by
    simp only [List.zip_cons_cons, foldE, partT] at h
    by_cases c : x = y
    · simp only [c, if_true] at h
      cases i with
      | zero => simpa [gt] using c
      | succ i =>
        have := partT_none xs ys (s + 1) n h i (by simpa using h1) (by simpa using h2)
        simpa [gt] using this
    · simp [c] at h
/-- Runs from one place whose frames do not differ within the shorter one are the same. -/
theorem framesR_same {fuel : Nat} {l : List MTerm} (hv : ∀ p, ∀ h ∈ wayL fuel l p, LeafEnd l h) : ∀ (a b : List Int) (at_ : Int) (x y : List (List Int)) (e f : Int), framesR fuel l at_ a = some (x, e) → framesR fuel l at_ b = some (y, f) → a.length = b.length →
    (∃ s n, foldE partsT s (x.zip y) = .inl n) → a = b
  | [], [], _, _, _, _, _, _, _, _, _ => rfl
  | [], _ :: _, _, _, _, _, _, _, _, h, _ => by simp at h
  | _ :: _, [], _, _, _, _, _, _, _, h, _ => by simp at h
  | p :: a, q :: b, at_, x, y, e, f, h1, h2, hl, hn => by
    simp only [framesR] at h1 h2
    cases c1 : wayTo (wayL fuel l at_) p with
    | none => rw [c1] at h1; cases h1
    | some g1 =>
      cases c2 : wayTo (wayL fuel l at_) q with
      | none => rw [c2] at h2; cases h2
      | some g2 =>
        rw [c1] at h1; rw [c2] at h2
        cases c4 : framesR fuel l p a with
        | none => rw [c4] at h1; cases h1
        | some r1 =>
        cases c5 : framesR fuel l q b with
        | none => rw [c5] at h2; cases h2
        | some r2 =>
        rw [c4] at h1; rw [c5] at h2
        simp only [Option.map_some, Option.some.injEq, Prod.mk.injEq] at h1 h2
        obtain ⟨rfl, rfl⟩ := h1
        obtain ⟨rfl, rfl⟩ := h2
        obtain ⟨s, n, hn⟩ := hn
        simp only [List.zip_cons_cons, foldE, partsT] at hn
        cases c3 : foldE partT 0 (g1.Steps.zip g2.Steps) with
        | inr j => rw [c3] at hn; cases hn
        | inl m =>
          rw [c3] at hn
          have hd := partT_none _ _ _ _ c3
          have hu := leaf_uniq (hv _ _ (List.mem_of_find?_eq_some c1)) (hv _ _ (List.mem_of_find?_eq_some c2)) hd
          have t1 : g1.To = p := by simpa using List.find?_some c1
          have t2 : g2.To = q := by simpa using List.find?_some c2
          have hpq : p = q := by rw [← t1, ← t2, hu.2]
          subst hpq
          rw [framesR_same hv a b p r1.1 r2.1 r1.2 r2.2 c4 c5 (by simpa using hl) ⟨_, n, hn⟩]

theorem partT_some : ∀ (xs ys : List Int) (s j : Int), foldE partT s (xs.zip ys) = .inr j → ∃ i : Nat, j = s + i ∧ i < xs.length ∧ i < ys.length ∧ xs.take i = ys.take i ∧ gt xs (i : Int) ≠ gt ys (i : Int)
  | [], _, s, j, h => by simp [foldE] at h
  | _ :: _, [], s, j, h => by simp [foldE] at h
  | x :: xs, y :: ys, s, j, h => by
    simp only [List.zip_cons_cons, foldE, partT] at h
    by_cases c : x = y
    · simp only [c, if_true] at h
      obtain ⟨i, h1, h2, h3, h4, h5⟩ := partT_some xs ys (s + 1) j h
      exact ⟨i + 1, by omega, by simp; omega, by simp; omega, by simp [c, h4], by simpa [gt] using h5⟩
    · simp only [c, if_false, Sum.inr.injEq] at h
      exact ⟨0, by omega, by simp, by simp, by simp, by simpa [gt] using c⟩
/-- Two rows that are alike up to a fork, and part there. -/
structure Fork (x y : List (List Int)) (k i : Nat) : Prop where
  kx : k < x.length
  ky : k < y.length
  pre : x.take k = y.take k
  ix : i < (gt x (k : Int)).length
  iy : i < (gt y (k : Int)).length
  pre2 : (gt x (k : Int)).take i = (gt y (k : Int)).take i
  ne : gt (gt x (k : Int)) (i : Int) ≠ gt (gt y (k : Int)) (i : Int)
theorem framesR_fork {fuel : Nat} {l : List MTerm} (hv : ∀ p, ∀ h ∈ wayL fuel l p, LeafEnd l h) : ∀ (a b : List Int) (at_ : Int) (x y : List (List Int)) (e f : Int) (s : Int) (z : Int × Int), framesR fuel l at_ a = some (x, e) → framesR fuel l at_ b = some (y, f) →
    foldE partsT s (x.zip y) = .inr z → ∃ k i : Nat, z = (s + k, (i : Int)) ∧ Fork x y k i
  | [], b, at_, x, y, e, f, s, z, h1, h2, h => by
    simp only [framesR, Option.some.injEq, Prod.mk.injEq] at h1
    obtain ⟨rfl, _⟩ := h1
    simp [foldE] at h
  | p :: a, [], at_, x, y, e, f, s, z, h1, h2, h => by
    simp only [framesR, Option.some.injEq, Prod.mk.injEq] at h2
    obtain ⟨rfl, _⟩ := h2
    simp [foldE] at h
  | p :: a, q :: b, at_, x, y, e, f, s, z, h1, h2, h => by
    simp only [framesR] at h1 h2
    cases c1 : wayTo (wayL fuel l at_) p with
    | none => rw [c1] at h1; cases h1
    | some g1 =>
      cases c2 : wayTo (wayL fuel l at_) q with
      | none => rw [c2] at h2; cases h2
      | some g2 =>
        rw [c1] at h1; rw [c2] at h2
        cases c4 : framesR fuel l p a with
        | none => rw [c4] at h1; cases h1
        | some r1 =>
        cases c5 : framesR fuel l q b with
        | none => rw [c5] at h2; cases h2
        | some r2 =>
        rw [c4] at h1; rw [c5] at h2
        simp only [Option.map_some, Option.some.injEq, Prod.mk.injEq] at h1 h2
        obtain ⟨rfl, rfl⟩ := h1
        obtain ⟨rfl, rfl⟩ := h2
        simp only [List.zip_cons_cons, foldE, partsT] at h
        cases c3 : foldE partT 0 (g1.Steps.zip g2.Steps) with
        | inr j =>
          rw [c3] at h
          simp only [Sum.inr.injEq] at h
          subst h
          obtain ⟨i, i1, i2, i3, i4, i5⟩ := partT_some _ _ _ _ c3
          exact ⟨0, i, by simp [i1], ⟨by simp, by simp, by simp, by simpa [gt] using i2, by simpa [gt] using i3, by simpa [gt] using i4, by simpa [gt] using i5⟩⟩
        | inl m =>
          rw [c3] at h
          have hd := partT_none _ _ _ _ c3
          have hu := leaf_uniq (hv _ _ (List.mem_of_find?_eq_some c1)) (hv _ _ (List.mem_of_find?_eq_some c2)) hd
          have t1 : g1.To = p := by simpa using List.find?_some c1
          have t2 : g2.To = q := by simpa using List.find?_some c2
          have hpq : p = q := by rw [← t1, ← t2, hu.2]
          subst hpq
          obtain ⟨k, i, e1, F⟩ := framesR_fork hv a b p r1.1 r2.1 r1.2 r2.2 (s + 1) z c4 c5 h
          have hg : ∀ (u : List Int) (r : List (List Int)), gt (u :: r) ((k + 1 : Nat) : Int) = gt r (k : Int) := fun u r => rfl
          refine ⟨k + 1, i, by rw [e1]; congr 1; omega, ?_⟩
          exact ⟨by simpa using F.kx, by simpa using F.ky, by simp [hu.1, F.pre], by rw [hg]; exact F.ix, by rw [hg]; exact F.iy, by rw [hg, hg]; exact F.pre2, by rw [hg, hg]; exact F.ne⟩

theorem FramesF_R {fuel : Nat} {l : List MTerm} {run : List Int} (h : (FramesF fuel l run true).2 = true) : ∃ gs at', framesR fuel l (-1) run = some (gs, at') ∧ (FramesF fuel l run true).1 = gs ++ [(endL fuel l at').1.Steps] := by
  unfold FramesF at h ⊢
  cases hR : RightB l with
  | false => simp [hR] at h
  | true =>
    simp only [hR, if_true] at h ⊢
    unfold runF at h ⊢
    cases c : foldE (stepF fuel l) ([], -1) run with
    | inl s =>
      obtain ⟨fs, at_⟩ := s
      rw [c] at h
      obtain ⟨gs, h1, h2⟩ := fold_framesR run _ _ _ _ c
      simp only [outE] at h ⊢
      simp only [List.nil_append] at h2
      subst h2
      refine ⟨fs, at_, h1, ?_⟩
      cases ce : (endL fuel l at_).2 with
      | false => simp [ce] at h
      | true => simp
    | inr t =>
      exfalso
      rw [c] at h
      simp only [outE, id] at h
      have : ∀ (xs : List Int) s, foldE (stepF fuel l) s xs = .inr t → t = .inr ([], false) := by
        intro xs
        induction xs with
        | nil => intro s h; simp [foldE] at h
        | cons x xs ih =>
          intro s
          simp only [foldE]
          cases hw : wayTo (wayL fuel l s.2) x with
          | some y => simpa [stepF, hw] using ih _
          | none => simp [stepF, hw]; exact fun h => h.symm
      have := this _ _ c
      subst this
      simp at h
theorem foldE_append {α σ υ : Type} (f : σ → α → σ ⊕ υ) : ∀ (xs ys : List α) (s : σ), foldE f s (xs ++ ys) = match foldE f s xs with | .inl s' => foldE f s' ys | .inr t => .inr t
  | [], ys, s => rfl
  | x :: xs, ys, s => by
    simp only [List.cons_append, foldE]
    cases f s x with
    | inl s' => exact foldE_append f xs ys s'
    | inr t => rfl
theorem framesR_len {fuel : Nat} {l : List MTerm} : ∀ (run : List Int) (at_ : Int) (x : List (List Int)) (e : Int), framesR fuel l at_ run = some (x, e) → x.length = run.length
  | [], at_, x, e, h => by
    simp only [framesR, Option.some.injEq, Prod.mk.injEq] at h
    obtain ⟨rfl, _⟩ := h; rfl
  | p :: a, at_, x, e, h => by
    simp only [framesR] at h
    cases c1 : wayTo (wayL fuel l at_) p with
    | none => rw [c1] at h; cases h
    | some g =>
      rw [c1] at h
      cases c4 : framesR fuel l p a with
      | none => rw [c4] at h; cases h
      | some r =>
        rw [c4] at h
        simp only [Option.map_some, Option.some.injEq, Prod.mk.injEq] at h
        obtain ⟨rfl, _⟩ := h
        simp [framesR_len a p r.1 r.2 c4]
theorem aheadL_congr (P P' Q Q' : List Int) : ∀ n : Nat, (∀ j : Nat, j < n → gt P (j : Int) = gt P' (j : Int)) → (∀ j : Nat, j < n → gt Q (j : Int) = gt Q' (j : Int)) → aheadL P Q n = aheadL P' Q' n
  | 0, _, _ => rfl
  | n + 1, h1, h2 => by
    unfold aheadL
    rw [h1 n (by omega), h2 n (by omega), aheadL_congr P P' Q Q' n (fun j hj => h1 j (by omega)) (fun j hj => h2 j (by omega))]
/-- Not behind. -/
def nb (o : Option Int) : Prop := o = none ∨ o = some (-1)
def mn (a b : Int) : Int := if a < b then a else b
theorem low_mn : ∀ (xs : List Int) (n a b : Int), xs.foldl lowStep (n, mn a b) = ((xs.foldl lowStep (n, b)).1, mn a (xs.foldl lowStep (n, b)).2)
  | [], n, a, b => rfl
  | x :: xs, n, a, b => by
    simp only [List.foldl_cons, lowStep]
    by_cases c : Int.tmod x 2 = 0
    · simp only [c, if_true]; exact low_mn xs _ a b
    · simp only [c, if_false]
      have e : (if n < mn a b then n else mn a b) = mn a (if n < b then n else b) := by
        unfold mn
        (repeat' split) <;> omega
      rw [e]; exact low_mn xs _ a _
theorem lowsR_mn : ∀ (fs : List (List Int)) (n a b : Int), lowsR (n, mn a b) fs = (lowsR (n, b) fs).map (mn a)
  | [], n, a, b => rfl
  | f :: fs, n, a, b => by
    simp only [lowsR, low_mn, List.map_cons]
    rw [lowsR_mn fs]
theorem low_le_depth : ∀ (xs : List Int) (n low : Int), low ≤ n + 1 → (xs.foldl lowStep (n, low)).2 ≤ (xs.foldl lowStep (n, low)).1 + 1
  | [], n, low, h => h
  | x :: xs, n, low, h => by
    simp only [List.foldl_cons, lowStep]
    by_cases c : Int.tmod x 2 = 0
    · simp only [c, if_true]; exact low_le_depth xs _ _ (by omega)
    · simp only [c, if_false]; exact low_le_depth xs _ _ (by split <;> omega)
/-- One fork lies ahead of another. -/
def lexlt (k i k' i' : Nat) : Prop := k < k' ∨ (k = k' ∧ i < i')
/-- Rows that are alike up to a fork. -/
structure Alike (x y : List (List Int)) (k i : Nat) : Prop where
  kx : k < x.length
  ky : k < y.length
  pre : x.take k = y.take k
  ix : i ≤ (gt x (k : Int)).length
  iy : i ≤ (gt y (k : Int)).length
  pre2 : (gt x (k : Int)).take i = (gt y (k : Int)).take i
theorem Fork.alike {x y : List (List Int)} {k i : Nat} (F : Fork x y k i) : Alike x y k i := ⟨F.kx, F.ky, F.pre, Nat.le_of_lt F.ix, Nat.le_of_lt F.iy, F.pre2⟩
theorem Fork.symm {x y : List (List Int)} {k i : Nat} (F : Fork x y k i) : Fork y x k i := ⟨F.ky, F.kx, F.pre.symm, F.iy, F.ix, F.pre2.symm, fun h => F.ne h.symm⟩
theorem Alike.symm {x y : List (List Int)} {k i : Nat} (F : Alike x y k i) : Alike y x k i := ⟨F.ky, F.kx, F.pre.symm, F.iy, F.ix, F.pre2.symm⟩
theorem gt_of_take {α : Type} [Inhabited α] {x y : List α} {n k : Nat} (h : x.take n = y.take n) (hk : k < n) : gt x (k : Int) = gt y (k : Int) := by
  have e : ∀ z : List α, gt z (k : Int) = gt (z.take n) (k : Int) := by
    intro z
    by_cases c : k < z.length
    · rw [gt_get_nat (x := z[k]) (by simp [c]), gt_get_nat (x := z[k]) (by simp [c, hk])]
    · have h1 : z.take n = z := List.take_of_length_le (by omega)
      rw [h1]
  rw [e x, e y, h]
theorem take_of_take {α : Type} {x y : List α} {n k : Nat} (h : x.take n = y.take n) (hk : k ≤ n) : x.take k = y.take k := by
  have e : ∀ z : List α, z.take k = (z.take n).take k := by intro z; rw [List.take_take, Nat.min_eq_left hk]
  rw [e x, e y, h]
/-- Rows that are alike up to a later fork are so up to a former one, and go the same step there. -/
theorem Alike.low {x y : List (List Int)} {k i k' i' : Nat} (A : Alike x y k' i') (hl : lexlt k i k' i') (hi : i < (gt x (k : Int)).length) : Alike x y k i ∧ i < (gt y (k : Int)).length ∧ gt (gt x (k : Int)) (i : Int) = gt (gt y (k : Int)) (i : Int) := by
  have a1 := A.kx; have a2 := A.ky
  rcases hl with h | ⟨rfl, h⟩
  · have e := gt_of_take A.pre h
    exact ⟨⟨by omega, by omega, take_of_take A.pre (by omega), by omega, by rw [← e]; omega, by rw [e]⟩, by rw [← e]; exact hi, by rw [e]⟩
  · have h4 := A.iy; have h5 := A.ix
    exact ⟨⟨A.kx, A.ky, A.pre, by omega, by omega, take_of_take A.pre2 (by omega)⟩, by omega, gt_of_take A.pre2 h⟩
theorem lowsAt_len {N : Nat} {x : List (List Int)} {k i : Nat} (hk : k < x.length) : (lowsAt N x k i).length = x.length - k := by
  simp [lowsAt, LowsF, lowsR_len]; omega
/-- A row: what the order asks of it. -/
structure RowI (N n : Nat) (x : List (List Int)) : Prop where
  nest : ∃ s, nestS N [] x.flatten = some s
  len : x.length = n
def atF (N n : Nat) (x y : List (List Int)) (k i : Nat) : Int := match aheadL (lowsAt N x k i) (lowsAt N y k i) (n - k) with
  | some r => r
  | none => forkV (gt (gt x (k : Int)) (i : Int)) (gt (gt y (k : Int)) (i : Int))
theorem Alike.trans {x y u : List (List Int)} {k i : Nat} (A : Alike x y k i) (B : Alike y u k i) : Alike x u k i := ⟨A.kx, B.ky, A.pre.trans B.pre, A.ix, B.iy, A.pre2.trans B.pre2⟩
end Go.Proofs.Ytfhehbfifffipaa
