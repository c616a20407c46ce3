/- The ways from a place, to the end, and into a node: the program and the document tell the same. Its conditions: none. -/
import Derived.Test.YtfhehbfifffipaaPFol7
set_option autoImplicit false
namespace Go.Proofs.Ytfhehbfifffipaa
open Go.V Go.RowKit

theorem Ctx.down {t : Tm} : ∀ {s : Tm} {lo : Nat} {fs : List Fr}, Ctx t lo s fs → ∀ i, lo ≤ i → i < lo + s.size → ∃ lo' s' fs', Ctx t lo' s' fs' ∧ s'.top lo' = i := by
  intro s
  induction s with
  | eps => intro lo fs h i h1 h2; exact ⟨lo, .eps, fs, h, by simp only [Tm.top, Tm.size] at *; omega⟩
  | leaf s => intro lo fs h i h1 h2; exact ⟨lo, .leaf s, fs, h, by simp only [Tm.top, Tm.size] at *; omega⟩
  | cat a b iha ihb =>
    intro lo fs h i h1 h2
    simp only [Tm.size] at h2
    rcases Nat.lt_or_ge i (lo + a.size) with c | c
    · exact iha (fs := .catL b :: fs) ⟨Nat.zero_le _, h⟩ i h1 c
    · rcases Nat.lt_or_ge i (lo + a.size + b.size) with c2 | c2
      · exact ihb (lo := lo + a.size) (fs := .catR a :: fs) ⟨by simp [Fr.off], by simpa [Fr.off, Fr.plug] using h⟩ i c c2
      · exact ⟨lo, _, fs, h, by simp only [Tm.top, Tm.size]; omega⟩
  | alt a b iha ihb =>
    intro lo fs h i h1 h2
    simp only [Tm.size] at h2
    rcases Nat.lt_or_ge i (lo + a.size) with c | c
    · exact iha (fs := .altL b :: fs) ⟨Nat.zero_le _, h⟩ i h1 c
    · rcases Nat.lt_or_ge i (lo + a.size + b.size) with c2 | c2
      · exact ihb (lo := lo + a.size) (fs := .altR a :: fs) ⟨by simp [Fr.off], by simpa [Fr.off, Fr.plug] using h⟩ i c c2
      · exact ⟨lo, _, fs, h, by simp only [Tm.top, Tm.size]; omega⟩
  | star a iha =>
    intro lo fs h i h1 h2
    simp only [Tm.size] at h2
    rcases Nat.lt_or_ge i (lo + a.size) with c | c
    · exact iha (fs := .star :: fs) ⟨Nat.zero_le _, h⟩ i h1 c
    · exact ⟨lo, _, fs, h, by simp only [Tm.top, Tm.size]; omega⟩
  | maybe a iha =>
    intro lo fs h i h1 h2
    simp only [Tm.size] at h2
    rcases Nat.lt_or_ge i (lo + a.size) with c | c
    · exact iha (fs := .maybe :: fs) ⟨Nat.zero_le _, h⟩ i h1 c
    · exact ⟨lo, _, fs, h, by simp only [Tm.top, Tm.size]; omega⟩
  | group n a iha =>
    intro lo fs h i h1 h2
    simp only [Tm.size] at h2
    rcases Nat.lt_or_ge i (lo + a.size) with c | c
    · exact iha (fs := .group n :: fs) ⟨Nat.zero_le _, h⟩ i h1 c
    · exact ⟨lo, _, fs, h, by simp only [Tm.top, Tm.size]; omega⟩
  | iter a iha =>
    intro lo fs h i h1 h2
    simp only [Tm.size] at h2
    rcases Nat.lt_or_ge i (lo + a.size) with c | c
    · exact iha (fs := .iter :: fs) ⟨Nat.zero_le _, h⟩ i h1 c
    · exact ⟨lo, _, fs, h, by simp only [Tm.top, Tm.size]; omega⟩
theorem Ctx.at_ {l : List MTerm} {t : Tm} (ht : IsT l t) : ∀ {fs : List Fr} {lo : Nat} {s : Tm}, Ctx t lo s fs → At l lo s
  | [], lo, s, ⟨h1, h2⟩ => by subst h1; subst h2; exact ht.at0
  | f :: fs, lo, s, ⟨ho, h⟩ => by
    have h1 := Ctx.at_ ht h
    cases f <;> simp only [Fr.plug, Fr.off, Nat.sub_zero] at h1 ho
    case catL b => exact ((At.bin rfl rfl).1 h1).1
    case altL b => exact ((At.bin rfl rfl).1 h1).1
    case catR a =>
      have := ((At.bin rfl rfl).1 h1).2.1
      rwa [show lo - a.size + a.size = lo from by omega] at this
    case altR a =>
      have := ((At.bin rfl rfl).1 h1).2.1
      rwa [show lo - a.size + a.size = lo from by omega] at this
    all_goals exact ((At.un rfl rfl).1 h1).1
/-- A place: its Leaf, and what stands around it. -/
structure IsPlace (l : List MTerm) (t : Tm) (p q : Nat) (S : List Int) (fs : List Fr) : Prop where
  ctx : Ctx t q (.leaf S) fs
  num : leavesN l q = p
  get : (leavesL l l.length)[p]? = some (q : Int)
theorem place_of {l : List MTerm} {t : Tm} (ht : IsT l t) {p : Nat} (hp : p < leavesN l l.length) : ∃ q S fs, IsPlace l t p q S fs := by
  obtain ⟨q, h1, h2, h3, h4⟩ := leavesL_get l l.length p hp
  obtain ⟨lo, s, fs, hx, hs⟩ := Ctx.down (t := t) (s := t) (lo := 0) (fs := []) ⟨rfl, rfl⟩ q (Nat.zero_le _) (by rw [ht.len] at h1; omega)
  have hat := hx.at_ ht
  have hg := hat.gt_top
  rw [hs] at hg
  cases s with
  | leaf S =>
    simp only [Tm.top, Tm.size, Nat.add_sub_cancel] at hs
    subst hs
    exact ⟨lo, S, fs, hx, h4, h2⟩
  | _ => rw [hg] at h3; simp [Tm.node] at h3
theorem leavesN_all {l : List MTerm} {t : Tm} (ht : IsT l t) : leavesN l l.length = t.leaves := by
  have := leavesN_at ht.at0
  rw [Nat.zero_add, ← ht.len] at this
  simpa [leavesN] using this

/-! What comes out of a climb. -/
def HopOk (n : Nat) (h : MHop) : Prop := 0 ≤ h.To ∧ h.To < n ∧ h.Steps.length ≤ 2000000
theorem Tm.into_ok (s : Tm) : ∀ (lo p : Nat) (ahead : List Int), s.size ≤ 400 → ahead.length + 1000 * s.size ≤ 2000000 → ∀ h ∈ s.into lo p ahead, (p : Int) ≤ h.To ∧ h.To < ((p + s.leaves : Nat) : Int) ∧ h.Steps.length ≤ 2000000 := by
  induction s with
  | eps => intro lo p ahead _ _ h hh; simp [Tm.into] at hh
  | leaf s => intro lo p ahead _ ho h hh; simp only [Tm.into, List.mem_singleton] at hh; subst hh; simp only [Tm.leaves, Tm.size] at *; refine ⟨by simp, by simp; omega, by simp; omega⟩
  | cat a b iha ihb =>
    intro lo p ahead hs ho h hh
    have sa := a.steps_le lo
    simp only [Tm.into, Tm.size, Tm.leaves, List.mem_append] at *
    rcases hh with hh | hh
    · have := iha lo p _ (by omega) (by simp; omega) h hh; refine ⟨by omega, by omega, this.2.2⟩
    · split at hh
      · have := ihb (lo + a.size) (p + a.leaves) _ (by omega) (by simp; omega) h hh; refine ⟨by omega, by omega, this.2.2⟩
      · simp at hh
  | alt a b iha ihb =>
    intro lo p ahead hs ho h hh
    simp only [Tm.into, Tm.size, Tm.leaves, List.mem_append] at *
    rcases hh with hh | hh
    · have := iha lo p _ (by omega) (by simp; omega) h hh; refine ⟨by omega, by omega, this.2.2⟩
    · have := ihb (lo + a.size) (p + a.leaves) _ (by omega) (by simp; omega) h hh; refine ⟨by omega, by omega, this.2.2⟩
  | star a iha | maybe a iha | group _ a iha | iter a iha =>
    intro lo p ahead hs ho h hh
    simp only [Tm.into, Tm.size, Tm.leaves] at *
    exact iha lo p _ (by omega) (by simp; omega) h hh
/-- Ways, each to a place of its own. -/
structure Ways (n : Nat) (out : List MHop) : Prop where
  ok : ∀ h ∈ out, HopOk n h
  dist : out.Pairwise fun a b => a.To ≠ b.To
theorem turnsF_ways {n : Nat} (d : Int) : ∀ (r out : List MHop), Ways n out → (∀ h ∈ r, HopOk n h) → Ways n (turnsF d out r)
  | [], out, h, _ => h
  | x :: r, out, h, hr => by
    simp only [turnsF]
    refine turnsF_ways d r _ ?_ (fun y hy => hr y (by simp [hy]))
    split
    · exact h
    · rename_i hc
      have hx := hr x (by simp)
      refine ⟨fun y hy => ?_, ?_⟩
      · rcases List.mem_append.1 hy with hy | hy
        · exact h.ok y hy
        · simp only [List.mem_singleton] at hy; subst hy; exact hx
      · refine List.pairwise_append.2 ⟨h.dist, by simp, fun a ha b hb => ?_⟩
        simp only [List.mem_singleton] at hb
        subst hb
        intro e
        exact hc (List.any_eq_true.2 ⟨a, ha, by simpa using e⟩)
theorem climbF_ways {l : List MTerm} {t : Tm} (ht : IsT l t) : ∀ (fs : List Fr) (lo : Nat) (s : Tm) (st : List Int) (out : List MHop), Ctx t lo s fs → Ways t.leaves out → st.length + 1000 * fs.length ≤ 500000 →
    Ways t.leaves (climbF lo (leavesN l lo) s st out fs).1 ∧ (climbF lo (leavesN l lo) s st out fs).2.1.length ≤ 500000
  | [], lo, s, st, out, hx, hw, hl => ⟨hw, by simp only [climbF]; simpa using hl⟩
  | f :: fs, lo, s, st, out, hx, hw, hl => by
    have hpar := hx.2.at_ ht
    have hlen := hpar.len
    have h400 := ht.le; have hln := ht.len
    have hmono := leavesN_mono l hlen
    rw [leavesN_at hpar, leavesN_all ht] at hmono
    have hlv : leavesN l (lo - f.off) = leavesN l lo - f.lvs := by
      cases f <;> simp only [Fr.plug, Fr.off, Fr.lvs, Nat.sub_zero] at hpar ⊢
      case catR a =>
        have h0 := hx.1; simp only [Fr.off] at h0
        have := leavesN_at ((At.bin rfl rfl).1 hpar).1
        rw [show lo - a.size + a.size = lo from by omega] at this; omega
      case altR a =>
        have h0 := hx.1; simp only [Fr.off] at h0
        have := leavesN_at ((At.bin rfl rfl).1 hpar).1
        rw [show lo - a.size + a.size = lo from by omega] at this; omega
    simp only [List.length_cons] at hl
    cases f with
    | catL b =>
      simp only [Fr.plug, Fr.off, Nat.sub_zero, Tm.leaves, Tm.size] at hpar hmono hlen
      have hbs := b.steps_le (lo + s.size)
      have hw' := turnsF_ways (n := t.leaves) ((fs.length + 1 : Nat) : Int) (b.into (lo + s.size) (leavesN l lo + s.leaves) st) out hw (fun h hh => by
        have := b.into_ok (lo + s.size) (leavesN l lo + s.leaves) st (by omega) (by omega) h hh
        exact ⟨by omega, by omega, this.2.2⟩)
      simp only [climbF]
      split
      · exact climbF_ways ht fs lo (.cat s b) _ _ hx.2 hw' (by simp; omega)
      · exact ⟨hw', by simp⟩
    | star =>
      simp only [Fr.plug, Fr.off, Nat.sub_zero, Tm.leaves, Tm.size] at hpar hmono hlen
      have hw' := turnsF_ways (n := t.leaves) ((fs.length + 1 : Nat) : Int) (s.into lo (leavesN l lo) st) out hw (fun h hh => by
        have := s.into_ok lo (leavesN l lo) st (by omega) (by omega) h hh
        exact ⟨by omega, by omega, this.2.2⟩)
      simp only [climbF]
      exact climbF_ways ht fs lo (.star s) _ _ hx.2 hw' (by simp; omega)
    | catR a =>
      have := climbF_ways ht fs (lo - (Fr.catR a).off) ((Fr.catR a).plug s) (st ++ [cls (((Fr.catR a).plug s).top (lo - (Fr.catR a).off))]) out hx.2 hw (by simp; omega)
      rw [hlv] at this; exact this
    | altR a =>
      have := climbF_ways ht fs (lo - (Fr.altR a).off) ((Fr.altR a).plug s) (st ++ [cls (((Fr.altR a).plug s).top (lo - (Fr.altR a).off))]) out hx.2 hw (by simp; omega)
      rw [hlv] at this; exact this
    | altL b =>
      have := climbF_ways ht fs (lo - (Fr.altL b).off) ((Fr.altL b).plug s) (st ++ [cls (((Fr.altL b).plug s).top (lo - (Fr.altL b).off))]) out hx.2 hw (by simp; omega)
      rw [hlv] at this; exact this
    | maybe =>
      have := climbF_ways ht fs (lo - Fr.maybe.off) (Fr.maybe.plug s) (st ++ [cls ((Fr.maybe.plug s).top (lo - Fr.maybe.off))]) out hx.2 hw (by simp; omega)
      rw [hlv] at this; exact this
    | group n =>
      have := climbF_ways ht fs (lo - (Fr.group n).off) ((Fr.group n).plug s) (st ++ [cls (((Fr.group n).plug s).top (lo - (Fr.group n).off))]) out hx.2 hw (by simp; omega)
      rw [hlv] at this; exact this
    | iter =>
      have := climbF_ways ht fs (lo - Fr.iter.off) (Fr.iter.plug s) (st ++ [cls ((Fr.iter.plug s).top (lo - Fr.iter.off))]) out hx.2 hw (by simp; omega)
      rw [hlv] at this; exact this
theorem Ways.soOk {n : Nat} {out : List MHop} (h : Ways n out) (hn : n ≤ 1000) (hl : out.length ≤ 1000000) : soOk MHop.To out = true := by
  simp only [Go.V.soOk, Bool.and_eq_true, List.all_eq_true, decide_eq_true_eq]
  refine ⟨⟨by omega, fun x hx => ?_⟩, (distK_pair _ _).2 h.dist⟩
  have := h.ok x hx
  exact ⟨this.1, by have := this.2.1; omega⟩
theorem copyL_self {α : Type} (z : α) (ys : List α) : copyL (List.replicate ys.length z) ys = ys := by
  simp [copyL]
theorem m_own {fuel : Nat} (out : List MHop) (hl : out.length ≤ 1000000) (hf : out.length < fuel) (hs : ∀ h ∈ out, h.Steps.length ≤ 2000000) : m_follow_own fuel out = some out := by
  have key := iter_up (step := m_follow_own_l1 fuel out) (fun i => (out, (i : Int))) out out.length (fun i hi => .inl (by
    have hin : inb out (i : Int) = true := inb_true (by omega) (by omega)
    have hd1 : (i : Int) < (out.length : Int) := by omega
    have hg : gt out (i : Int) = out[i] := gt_get_nat (by simp [hi])
    have h1 := hs out[i] (List.getElem_mem _)
    have hmk : mkOk 8 (out[i].Steps.length : Int) = true := by simp [mkOk]; omega
    unfold m_follow_own_l1
    simp only [hd1, decide_true, if_true, hin, hg, hmk, Int.toNat_natCast, copyL_self, W_succ (show i < 9223372036854775807 by omega)]
    rw [show (⟨out[i].To, out[i].Turn, out[i].Steps⟩ : MHop) = out[i] from rfl]
    simp)) (by unfold m_follow_own_l1; simp) out.length 0 fuel (by omega) (by omega)
  unfold m_follow_own
  rw [show (0 : Int) = ((0 : Nat) : Int) from rfl, key]; rfl

/-! The document's order of ways. -/
def bucket (out : List MHop) : Nat → List MHop
  | 0 => []
  | n + 1 => bucket out n ++ out.filter fun h => h.To == (n : Int)
theorem bucket_perm (out : List MHop) : ∀ n, (bucket out n).Perm (out.filter fun h => decide (0 ≤ h.To) && decide (h.To < n))
  | 0 => by
    have : (out.filter fun h => decide (0 ≤ h.To) && decide (h.To < ((0 : Nat) : Int))) = [] := by
      rw [List.filter_eq_nil_iff]; intro x _; simp
    rw [this]; exact List.Perm.refl _
  | n + 1 => by
    have ih := bucket_perm out n
    simp only [bucket]
    refine (ih.append_right _).trans ?_
    have e : out.Perm (out.filter (fun h => decide (0 ≤ h.To) && decide (h.To < (n : Int))) ++ out.filter (fun h => !(decide (0 ≤ h.To) && decide (h.To < (n : Int))))) := (List.filter_append_perm _ _).symm
    have e2 := e.filter fun h => decide (0 ≤ h.To) && decide (h.To < ((n + 1 : Nat) : Int))
    refine List.Perm.trans ?_ e2.symm
    rw [List.filter_append, List.filter_filter, List.filter_filter]
    have a1 : (out.filter fun a => (decide (0 ≤ a.To) && decide (a.To < ((n + 1 : Nat) : Int))) && (decide (0 ≤ a.To) && decide (a.To < (n : Int)))) = out.filter fun h => decide (0 ≤ h.To) && decide (h.To < (n : Int)) := by
      apply List.filter_congr; intro x _; rw [Bool.eq_iff_iff]; simp; omega
    have a2 : (out.filter fun a => (decide (0 ≤ a.To) && decide (a.To < ((n + 1 : Nat) : Int))) && !(decide (0 ≤ a.To) && decide (a.To < (n : Int)))) = out.filter fun h => h.To == (n : Int) := by
      apply List.filter_congr; intro x _; rw [Bool.eq_iff_iff]; simp; omega
    rw [a1, a2]
theorem bucket_sorted (out : List MHop) : ∀ n, (bucket out n).Pairwise (fun a b => a.To ≤ b.To) ∧ ∀ h ∈ bucket out n, h.To < n
  | 0 => ⟨List.Pairwise.nil, by simp [bucket]⟩
  | n + 1 => by
    obtain ⟨h1, h2⟩ := bucket_sorted out n
    simp only [bucket]
    refine ⟨List.pairwise_append.2 ⟨h1, ?_, fun a ha b hb => ?_⟩, fun x hx => ?_⟩
    · refine List.Pairwise.imp_of_mem ?_ (List.pairwise_of_forall (R := fun _ _ => True) (fun _ _ => trivial))
      intro a b ha hb _
      simp only [List.mem_filter, beq_iff_eq] at ha hb
      rw [ha.2, hb.2]; exact Int.le_refl _
    · have := h2 a ha
      simp only [List.mem_filter, beq_iff_eq] at hb
      omega
    · rcases List.mem_append.1 hx with hx | hx
      · have := h2 x hx; omega
      · simp only [List.mem_filter, beq_iff_eq] at hx; omega
theorem bucket_sort {n : Nat} {out : List MHop} (h : Ways n out) : bucket out n = sortK MHop.To out := by
  refine sortK_of MHop.To ?_ (bucket_sorted out n).1 ((distK_pair _ _).2 h.dist)
  have := bucket_perm out n
  rwa [List.filter_eq_self.2 (fun x hx => by have := h.ok x hx; simp [this.1, this.2.1])] at this
theorem bucket_len (out : List MHop) : ∀ n, (bucket out n).length ≤ out.length := fun n => by
  rw [(bucket_perm out n).length_eq]; exact List.length_filter_le _ _
end Go.Proofs.Ytfhehbfifffipaa
