/- The places of a parse are joined by ways, from the begin to the end. Its conditions: none. -/
import Derived.Test.YtfhehbfifffipaaPEnt
set_option autoImplicit false
namespace Go.Proofs.Ytfhehbfifffipaa
open Go.V Go.RowKit

/-- The Leaves of a word's bytes. -/
def qsW : Wd → List Nat
  | [] => []
  | .inl _ :: r => qsW r
  | .inr q :: r => q :: qsW r
theorem qsW_append : ∀ a b : Wd, qsW (a ++ b) = qsW a ++ qsW b
  | [], b => rfl
  | .inl _ :: a, b => by simp only [List.cons_append, qsW]; exact qsW_append a b
  | .inr q :: a, b => by simp only [List.cons_append, qsW, qsW_append a b]
theorem qsW_wrap (q : Nat) (w : Wd) : qsW (wrap q w) = qsW w := by unfold wrap; simp [qsW, qsW_append]
theorem qsW_len : ∀ w : Wd, (qsW w).length = nbW w
  | [] => rfl
  | .inl _ :: r => qsW_len r
  | .inr q :: r => by simp [qsW, nbW, qsW_len r]
def hasTo (hs : List MHop) (n : Nat) : Prop := ∃ h ∈ hs, h.To = (n : Int)
theorem hasTo.turns {d : Int} {n : Nat} : ∀ (r out : List MHop), hasTo out n ∨ hasTo r n → hasTo (turnsF d out r) n
  | [], out, h => by
    rcases h with h | ⟨_, h, _⟩
    · exact h
    · simp at h
  | x :: r, out, h => by
    simp only [turnsF]
    refine hasTo.turns r _ ?_
    have keep : ∀ {o : List MHop}, hasTo o n → hasTo (if o.any (fun y => y.To == x.To) then o else o ++ [⟨x.To, d, x.Steps⟩]) n := by
      rintro o ⟨h, h1, h2⟩
      split
      · exact ⟨h, h1, h2⟩
      · exact ⟨h, by simp [h1], h2⟩
    rcases h with h | ⟨h, h1, h2⟩
    · exact .inl (keep h)
    · rcases List.mem_cons.1 h1 with rfl | h1
      · left
        split
        · rename_i hc
          obtain ⟨y, hy1, hy2⟩ := List.any_eq_true.1 hc
          exact ⟨y, hy1, by rw [← h2]; simpa using hy2⟩
        · exact ⟨⟨h.To, d, h.Steps⟩, by simp, h2⟩
      · exact .inr ⟨h, h1, h2⟩
theorem climbF_mono {n : Nat} : ∀ (fs : List Fr) (lo p : Nat) (s : Tm) (st : List Int) (out : List MHop), hasTo out n → hasTo (climbF lo p s st out fs).1 n
  | [], lo, p, s, st, out, h => h
  | f :: fs, lo, p, s, st, out, h => by
    cases f with
    | catL b =>
      simp only [climbF]
      split
      · exact climbF_mono fs _ _ _ _ _ (hasTo.turns _ _ (.inl h))
      · exact hasTo.turns _ _ (.inl h)
    | star => simp only [climbF]; exact climbF_mono fs _ _ _ _ _ (hasTo.turns _ _ (.inl h))
    | catR a => exact climbF_mono fs (lo - (Fr.catR a).off) (p - (Fr.catR a).lvs) ((Fr.catR a).plug s) _ out h
    | altR a => exact climbF_mono fs (lo - (Fr.altR a).off) (p - (Fr.altR a).lvs) ((Fr.altR a).plug s) _ out h
    | altL b => exact climbF_mono fs (lo - (Fr.altL b).off) (p - (Fr.altL b).lvs) ((Fr.altL b).plug s) _ out h
    | maybe => exact climbF_mono fs (lo - Fr.maybe.off) (p - Fr.maybe.lvs) (Fr.maybe.plug s) _ out h
    | group n => exact climbF_mono fs (lo - (Fr.group n).off) (p - (Fr.group n).lvs) ((Fr.group n).plug s) _ out h
    | iter => exact climbF_mono fs (lo - Fr.iter.off) (p - Fr.iter.lvs) (Fr.iter.plug s) _ out h
theorem can_of_val : ∀ (s : Tm) (P : Pt), s.val P → P.wid = 0 → s.can = true := by
  intro s
  induction s with
  | eps => intro P _ _; rfl
  | leaf S => intro P h hw; cases h; simp [Pt.wid] at hw
  | cat a b iha ihb =>
    rintro P ⟨x, y, rfl, h1, h2⟩ hw
    simp only [Pt.wid] at hw
    simp [Tm.can, iha x h1 (by omega), ihb y h2 (by omega)]
  | alt a b iha ihb =>
    rintro P (⟨x, rfl, h1⟩ | ⟨x, rfl, h1⟩) hw
    · simp [Tm.can, iha x h1 hw]
    · simp [Tm.can, ihb x h1 hw]
  | star a iha => intro P _ _; rfl
  | maybe a iha => intro P _ _; rfl
  | group n a iha => rintro P ⟨x, rfl, h1⟩ hw; simpa [Tm.can] using iha x h1 hw
  | iter a iha => rintro P ⟨x, rfl, h1⟩ hw; simpa [Tm.can] using iha x h1 hw
theorem qs_none {s : Tm} {lo : Nat} {P : Pt} (h : s.val P) (hw : P.wid = 0) : qsW (s.word lo P) = [] := by
  apply List.eq_nil_of_length_eq_zero
  rw [qsW_len, word_nb s lo P h, hw]
theorem qs_some {s : Tm} {lo : Nat} {P : Pt} (h : s.val P) (hw : 0 < P.wid) : ∃ q r, qsW (s.word lo P) = q :: r := by
  have : (qsW (s.word lo P)).length ≠ 0 := by rw [qsW_len, word_nb s lo P h]; omega
  cases h2 : qsW (s.word lo P) with
  | nil => rw [h2] at this; simp at this
  | cons q r => exact ⟨q, r, rfl⟩
/-- There is a way into a part to the first place of a parse of it. -/
theorem into_first {l : List MTerm} : ∀ (s : Tm) (lo : Nat) (ahead : List Int) (P : Pt) (q : Nat) (r : List Nat), At l lo s → s.val P → qsW (s.word lo P) = q :: r → hasTo (s.into lo (leavesN l lo) ahead) (leavesN l q) := by
  intro s
  induction s with
  | eps => intro lo ahead P q r hat hv hq; cases hv; simp [Tm.word, qsW_wrap, qsW] at hq
  | leaf S =>
    intro lo ahead P q r hat hv hq
    cases hv
    simp only [Tm.word, qsW_wrap, qsW, List.cons.injEq] at hq
    exact ⟨_, List.mem_singleton.2 rfl, by simp [hq.1]⟩
  | cat a b iha ihb =>
    intro lo ahead P q r hat hv hq
    obtain ⟨x, y, rfl, v1, v2⟩ := hv
    obtain ⟨ha, hb, _⟩ := (At.bin rfl rfl).1 hat
    simp only [Tm.word, qsW_wrap, qsW_append] at hq
    simp only [Tm.into]
    rcases Nat.eq_zero_or_pos x.wid with hx | hx
    · rw [qs_none v1 hx, List.nil_append] at hq
      rw [if_pos (can_of_val a x v1 hx), ← leavesN_at ha]
      obtain ⟨h, h1, h2⟩ := ihb (lo + a.size) (ahead ++ [opn (Tm.top (.cat a b) lo)] ++ a.steps lo) y q r hb v2 hq
      exact ⟨h, List.mem_append.2 (.inr h1), h2⟩
    · obtain ⟨q', r', hqx⟩ := qs_some (lo := lo) v1 hx
      rw [hqx] at hq
      simp only [List.cons_append, List.cons.injEq] at hq
      obtain ⟨h, h1, h2⟩ := iha lo (ahead ++ [opn (Tm.top (.cat a b) lo)]) x q' r' ha v1 hqx
      exact ⟨h, List.mem_append.2 (.inl h1), by rw [h2, hq.1]⟩
  | alt a b iha ihb =>
    intro lo ahead P q r hat hv hq
    obtain ⟨ha, hb, _⟩ := (At.bin rfl rfl).1 hat
    simp only [Tm.into]
    rcases hv with ⟨x, rfl, v1⟩ | ⟨x, rfl, v1⟩
    · simp only [Tm.word, qsW_wrap] at hq
      obtain ⟨h, h1, h2⟩ := iha lo (ahead ++ [opn (Tm.top (.alt a b) lo)]) x q r ha v1 hq
      exact ⟨h, List.mem_append.2 (.inl h1), h2⟩
    · simp only [Tm.word, qsW_wrap] at hq
      rw [← leavesN_at ha]
      obtain ⟨h, h1, h2⟩ := ihb (lo + a.size) (ahead ++ [opn (Tm.top (.alt a b) lo)]) x q r hb v1 hq
      exact ⟨h, List.mem_append.2 (.inr h1), h2⟩
  | star a iha =>
    intro lo ahead P q r hat hv hq
    obtain ⟨ha, _⟩ := (At.un rfl rfl).1 hat
    cases P with
    | nil => simp [Tm.word, qsW_wrap, starW, qsW] at hq
    | two x y =>
      obtain ⟨v1, v2, _⟩ := hv
      simp only [Tm.word, qsW_wrap, starW, qsW_append] at hq
      obtain ⟨q', r', hqx⟩ := qs_some (lo := lo) v1 v2
      rw [hqx] at hq
      simp only [List.cons_append, List.cons.injEq] at hq
      obtain ⟨h, h1, h2⟩ := iha lo (ahead ++ [opn (Tm.top (.star a) lo)]) x q' r' ha v1 hqx
      exact ⟨h, h1, by rw [h2, hq.1]⟩
    | byte => simp [Tm.val, starV] at hv
    | one _ => simp [Tm.val, starV] at hv
    | other _ => simp [Tm.val, starV] at hv
  | maybe a iha =>
    intro lo ahead P q r hat hv hq
    obtain ⟨ha, _⟩ := (At.un rfl rfl).1 hat
    rcases hv with rfl | ⟨x, rfl, v1, _⟩
    · simp [Tm.word, qsW_wrap, qsW] at hq
    · simp only [Tm.word, qsW_wrap] at hq
      exact iha lo _ x q r ha v1 hq
  | group n a iha =>
    intro lo ahead P q r hat hv hq
    obtain ⟨ha, _⟩ := (At.un rfl rfl).1 hat
    obtain ⟨x, rfl, v1⟩ := hv
    simp only [Tm.word, qsW_wrap] at hq
    exact iha lo _ x q r ha v1 hq
  | iter a iha =>
    intro lo ahead P q r hat hv hq
    obtain ⟨ha, _⟩ := (At.un rfl rfl).1 hat
    obtain ⟨x, rfl, v1⟩ := hv
    simp only [Tm.word, qsW_wrap] at hq
    exact iha lo _ x q r ha v1 hq
/-- The climb from a Leaf comes to a part. -/
def Arr (l : List MTerm) (t : Tm) (q lo : Nat) (s : Tm) (fs : List Fr) : Prop := ∃ (S : List Int) (gs : List Fr) (st : List Int) (out : List MHop), Ctx t q (.leaf S) gs ∧ climbF q (leavesN l q) (.leaf S) [cls q] [] gs = climbF lo (leavesN l lo) s st out fs
/-- There is a way from a Leaf to another one. -/
def Jn (l : List MTerm) (t : Tm) (q q' : Nat) : Prop := ∃ (S : List Int) (gs : List Fr), Ctx t q (.leaf S) gs ∧ hasTo (climbF q (leavesN l q) (.leaf S) [cls q] [] gs).1 (leavesN l q')
def Joined (R : Nat → Nat → Prop) : List Nat → Prop
  | a :: b :: r => R a b ∧ Joined R (b :: r)
  | _ => True
theorem Joined_append {R : Nat → Nat → Prop} : ∀ (xs ys : List Nat), Joined R xs → Joined R ys → (∀ a b, xs.getLast? = some a → ys.head? = some b → R a b) → Joined R (xs ++ ys)
  | [], ys, _, h, _ => h
  | [a], [], _, _, _ => trivial
  | [a], b :: ys, _, h, hj => ⟨hj a b rfl rfl, h⟩
  | a :: b :: r, ys, h1, h2, hj => ⟨h1.1, Joined_append (b :: r) ys h1.2 h2 (fun a' b' h3 h4 => hj a' b' (by rw [List.getLast?_cons_cons]; exact h3) h4)⟩
theorem last_append {xs ys : List Nat} {a : Nat} (h : (xs ++ ys).getLast? = some a) : (ys = [] ∧ xs.getLast? = some a) ∨ ys.getLast? = some a := by
  cases ys with
  | nil => left; simpa using h
  | cons y ys => right; rw [List.getLast?_append] at h; simpa using h
theorem Arr.up {l : List MTerm} {t : Tm} (ht : IsT l t) {q lo : Nat} {s : Tm} {f : Fr} {fs : List Fr} (hx : Ctx t lo s (f :: fs)) (h : Arr l t q lo s (f :: fs)) (hf : ∀ b, f = .catL b → b.can = true) : Arr l t q (lo - f.off) (f.plug s) fs := by
  obtain ⟨S, gs, st, out, h1, h2⟩ := h
  have hlv := climb_lvs ht hx
  cases f with
  | catL b =>
    refine ⟨S, gs, st ++ b.steps (lo + s.size) ++ [cls (Tm.top (.cat s b) lo)], turnsF (fs.length + 1 : Nat) out (b.into (lo + s.size) (leavesN l lo + s.leaves) st), h1, ?_⟩
    rw [h2]
    conv => lhs; unfold climbF
    rw [if_pos (hf b rfl)]
    rfl
  | star => exact ⟨S, gs, _, _, h1, by rw [h2]; simp only [climbF]; rfl⟩
  | catR a => exact ⟨S, gs, _, _, h1, by rw [h2, hlv]; rfl⟩
  | altR a => exact ⟨S, gs, _, _, h1, by rw [h2, hlv]; rfl⟩
  | altL b => exact ⟨S, gs, _, _, h1, by rw [h2, hlv]; rfl⟩
  | maybe => exact ⟨S, gs, _, _, h1, by rw [h2, hlv]; rfl⟩
  | group n => exact ⟨S, gs, _, _, h1, by rw [h2, hlv]; rfl⟩
  | iter => exact ⟨S, gs, _, _, h1, by rw [h2, hlv]; rfl⟩
theorem Arr.cat {l : List MTerm} {t : Tm} {q lo : Nat} {s b : Tm} {fs : List Fr} {P : Pt} {q' : Nat} {r : List Nat} (ha : At l lo s) (hb : At l (lo + s.size) b) (h : Arr l t q lo s (.catL b :: fs)) (hv : b.val P) (hq : qsW (b.word (lo + s.size) P) = q' :: r) : Jn l t q q' := by
  obtain ⟨S, gs, st, out, h1, h2⟩ := h
  refine ⟨S, gs, h1, ?_⟩
  rw [h2]
  have := into_first b (lo + s.size) st P q' r hb hv hq
  rw [leavesN_at ha] at this
  simp only [climbF]
  split
  · exact climbF_mono _ _ _ _ _ _ (hasTo.turns _ _ (.inr this))
  · exact hasTo.turns _ _ (.inr this)
theorem Arr.star {l : List MTerm} {t : Tm} {q lo : Nat} {s : Tm} {fs : List Fr} {P : Pt} {q' : Nat} {r : List Nat} (ha : At l lo s) (h : Arr l t q lo s (.star :: fs)) (hv : s.val P) (hq : qsW (s.word lo P) = q' :: r) : Jn l t q q' := by
  obtain ⟨S, gs, st, out, h1, h2⟩ := h
  refine ⟨S, gs, h1, ?_⟩
  rw [h2]
  have := into_first s lo st P q' r ha hv hq
  simp only [climbF]
  exact climbF_mono _ _ _ _ _ _ (hasTo.turns _ _ (.inr this))
theorem star_joined {R : Nat → Nat → Prop} {A : Nat → Prop} {V : Pt → Prop} {F : Pt → Wd} (h1 : ∀ x, V x → Joined R (qsW (F x)) ∧ ∀ q, (qsW (F x)).getLast? = some q → A q) (h2 : ∀ q x q' r, A q → V x → qsW (F x) = q' :: r → R q q') (hne : ∀ x, V x → 0 < x.wid → qsW (F x) ≠ []) :
    ∀ P, starV V P → Joined R (qsW (starW F P)) ∧ ∀ q, (qsW (starW F P)).getLast? = some q → A q
  | .nil, _ => ⟨trivial, fun q h => by simp [starW, qsW] at h⟩
  | .two x r, hv => by
    obtain ⟨v1, v2, v3⟩ := hv
    obtain ⟨i1, i2⟩ := star_joined h1 h2 hne r v3
    simp only [starW, qsW_append]
    refine ⟨Joined_append _ _ (h1 x v1).1 i1 ?_, ?_⟩
    · intro a b ha hb
      cases r with
      | two y r' =>
        have hy := hne y v3.1 v3.2.1
        simp only [starW, qsW_append] at hb
        cases hc : qsW (F y) with
        | nil => exact absurd hc hy
        | cons q' r'' =>
          rw [hc] at hb
          simp only [List.cons_append, List.head?_cons, Option.some.injEq] at hb
          subst hb
          exact h2 a y q' r'' ((h1 x v1).2 a ha) v3.1 hc
      | nil => simp [starW, qsW] at hb
      | byte => simp [starV] at v3
      | one _ => simp [starV] at v3
      | other _ => simp [starV] at v3
    · intro q hq
      rcases last_append hq with ⟨_, hq⟩ | hq
      · exact (h1 x v1).2 q hq
      · exact i2 q hq
  | .byte, hv => by simp [starV] at hv
  | .one _, hv => by simp [starV] at hv
  | .other _, hv => by simp [starV] at hv
theorem joined {l : List MTerm} {t : Tm} (ht : IsT l t) : ∀ (s : Tm) (lo : Nat) (fs : List Fr) (P : Pt), Ctx t lo s fs → s.val P → Joined (Jn l t) (qsW (s.word lo P)) ∧ ∀ q, (qsW (s.word lo P)).getLast? = some q → Arr l t q lo s fs := by
  intro s
  induction s with
  | eps => intro lo fs P hx hv; cases hv; simp [Tm.word, qsW_wrap, qsW, Joined]
  | leaf S =>
    intro lo fs P hx hv
    cases hv
    refine ⟨by simp [Tm.word, qsW_wrap, qsW, Joined], ?_⟩
    intro q hq
    simp only [Tm.word, qsW_wrap, qsW, List.getLast?_singleton, Option.some.injEq] at hq
    subst hq
    exact ⟨S, fs, [cls lo], [], hx, rfl⟩
  | cat a b iha ihb =>
    intro lo fs P hx hv
    obtain ⟨x, y, rfl, v1, v2⟩ := hv
    have hxa : Ctx t lo a (.catL b :: fs) := ⟨Nat.zero_le _, hx⟩
    have hxb : Ctx t (lo + a.size) b (.catR a :: fs) := ⟨Nat.le_add_left _ _, by simpa [Fr.off, Fr.plug] using hx⟩
    obtain ⟨a1, a2⟩ := iha lo _ x hxa v1
    obtain ⟨b1, b2⟩ := ihb (lo + a.size) _ y hxb v2
    simp only [Tm.word, qsW_wrap, qsW_append]
    refine ⟨Joined_append _ _ a1 b1 ?_, ?_⟩
    · intro q q' h1 h2
      cases hc : qsW (b.word (lo + a.size) y) with
      | nil => rw [hc] at h2; simp at h2
      | cons q'' r =>
        rw [hc] at h2
        simp only [List.head?_cons, Option.some.injEq] at h2
        subst h2
        exact (a2 q h1).cat (hxa.at_ ht) (hxb.at_ ht) v2 hc
    · intro q hq
      rcases last_append hq with ⟨hn, hq⟩ | hq
      · have hw0 : y.wid = 0 := by
          rw [← word_nb b (lo + a.size) y v2, ← qsW_len, hn]; rfl
        exact (a2 q hq).up ht hxa (fun b' e => by cases e; exact can_of_val b y v2 hw0)
      · have := (b2 q hq).up ht hxb (fun b' e => by cases e)
        simpa [Fr.off, Fr.plug] using this
  | alt a b iha ihb =>
    intro lo fs P hx hv
    have hxa : Ctx t lo a (.altL b :: fs) := ⟨Nat.zero_le _, hx⟩
    have hxb : Ctx t (lo + a.size) b (.altR a :: fs) := ⟨Nat.le_add_left _ _, by simpa [Fr.off, Fr.plug] using hx⟩
    rcases hv with ⟨x, rfl, v1⟩ | ⟨x, rfl, v1⟩
    · obtain ⟨a1, a2⟩ := iha lo _ x hxa v1
      simp only [Tm.word, qsW_wrap]
      exact ⟨a1, fun q hq => (a2 q hq).up ht hxa (fun b' e => by cases e)⟩
    · obtain ⟨a1, a2⟩ := ihb (lo + a.size) _ x hxb v1
      simp only [Tm.word, qsW_wrap]
      refine ⟨a1, fun q hq => ?_⟩
      have := (a2 q hq).up ht hxb (fun b' e => by cases e)
      simpa [Fr.off, Fr.plug] using this
  | star a iha =>
    intro lo fs P hx hv
    have hxa : Ctx t lo a (.star :: fs) := ⟨Nat.zero_le _, hx⟩
    simp only [Tm.word, qsW_wrap]
    obtain ⟨h1, h2⟩ := star_joined (R := Jn l t) (A := fun q => Arr l t q lo a (.star :: fs)) (V := a.val) (F := fun x => a.word lo x) (fun x v1 => iha lo _ x hxa v1) (fun q x q' r hA v1 hq => hA.star (hxa.at_ ht) v1 hq)
      (fun x v1 hw hn => by obtain ⟨q, r, h⟩ := qs_some (lo := lo) v1 hw; rw [h] at hn; cases hn) P hv
    exact ⟨h1, fun q hq => (h2 q hq).up ht hxa (fun b' e => by cases e)⟩
  | maybe a iha =>
    intro lo fs P hx hv
    have hxa : Ctx t lo a (.maybe :: fs) := ⟨Nat.zero_le _, hx⟩
    rcases hv with rfl | ⟨x, rfl, v1, _⟩
    · simp [Tm.word, qsW_wrap, qsW, Joined]
    · obtain ⟨a1, a2⟩ := iha lo _ x hxa v1
      simp only [Tm.word, qsW_wrap]
      exact ⟨a1, fun q hq => (a2 q hq).up ht hxa (fun b' e => by cases e)⟩
  | group n a iha =>
    intro lo fs P hx hv
    have hxa : Ctx t lo a (.group n :: fs) := ⟨Nat.zero_le _, hx⟩
    obtain ⟨x, rfl, v1⟩ := hv
    obtain ⟨a1, a2⟩ := iha lo _ x hxa v1
    simp only [Tm.word, qsW_wrap]
    exact ⟨a1, fun q hq => (a2 q hq).up ht hxa (fun b' e => by cases e)⟩
  | iter a iha =>
    intro lo fs P hx hv
    have hxa : Ctx t lo a (.iter :: fs) := ⟨Nat.zero_le _, hx⟩
    obtain ⟨x, rfl, v1⟩ := hv
    obtain ⟨a1, a2⟩ := iha lo _ x hxa v1
    simp only [Tm.word, qsW_wrap]
    exact ⟨a1, fun q hq => (a2 q hq).up ht hxa (fun b' e => by cases e)⟩
/-- The Leaves of entries. -/
def qsE (l : List MTerm) : List MEntry → List Nat
  | [] => []
  | e :: r => if (gt l e.Node).Kind = 2 then e.Node.toNat :: qsE l r else qsE l r
theorem qsE_append (l : List MTerm) : ∀ a b : List MEntry, qsE l (a ++ b) = qsE l a ++ qsE l b
  | [], b => rfl
  | e :: a, b => by
    simp only [List.cons_append, qsE]
    split <;> simp [qsE_append l a b]
theorem star_qs {l : List MTerm} {V : Pt → Prop} {F : Pt → Wd} {FE : Int → Pt → List MEntry} {N : Nat} (h : ∀ x k, V x → qsE l (FE k x) = qsW (F x) ∧ ∀ e ∈ FE k x, 0 ≤ e.Node ∧ e.Node < (N : Int)) : ∀ (P : Pt) (k : Int), starV V P → qsE l (starE FE k P) = qsW (starW F P) ∧ ∀ e ∈ starE FE k P, 0 ≤ e.Node ∧ e.Node < (N : Int)
  | .nil, k, _ => ⟨rfl, by simp [starE]⟩
  | .two x r, k, hv => by
    obtain ⟨h1, h2⟩ := h x k hv.1
    obtain ⟨h3, h4⟩ := star_qs h r (k + x.wid) hv.2.2
    simp only [starE, starW, qsE_append, qsW_append, h1, h3, true_and]
    intro e he
    rcases List.mem_append.1 he with he | he
    · exact h2 e he
    · exact h4 e he
  | .byte, _, hv => by simp [starV] at hv
  | .one _, _, hv => by simp [starV] at hv
  | .other _, _, hv => by simp [starV] at hv
theorem ents_qs {l : List MTerm} : ∀ (s : Tm) (lo : Nat) (d k : Int) (P : Pt), At l lo s → s.val P → qsE l (s.ents lo d k P) = qsW (s.word lo P) ∧ ∀ e ∈ s.ents lo d k P, 0 ≤ e.Node ∧ e.Node < (l.length : Int) := by
  intro s
  have hd : ∀ {s : Tm} {lo : Nat} (hat : At l lo s) (hs : ∀ S, s ≠ .leaf S) (d k T : Int) (E : List MEntry), (qsE l E = qsE l E ∧ ∀ e ∈ E, 0 ≤ e.Node ∧ e.Node < (l.length : Int)) → qsE l (⟨d, (s.top lo : Int), k, T⟩ :: E) = qsE l E ∧ ∀ e ∈ (⟨d, (s.top lo : Int), k, T⟩ : MEntry) :: E, 0 ≤ e.Node ∧ e.Node < (l.length : Int) := by
    intro s lo hat hs d k T E hE
    refine ⟨?_, ?_⟩
    · simp only [qsE]; rw [if_neg (hat.kind_ne hs)]
    · intro e he
      rcases List.mem_cons.1 he with rfl | he
      · have := hat.top_lt; simp only; omega
      · exact hE.2 e he
  induction s with
  | eps =>
    intro lo d k P hat hv
    cases hv
    have hk := hat.kind_ne (by intro S h; cases h)
    have hlt := hat.top_lt
    simp only [Tm.top, Tm.size, Nat.add_sub_cancel] at hk hlt
    refine ⟨?_, ?_⟩
    · simp only [Tm.ents, qsE, Tm.word, qsW_wrap, qsW]
      rw [if_neg hk]
    · intro e he
      simp only [Tm.ents, List.mem_singleton] at he
      subst he; simp only; omega
  | leaf S =>
    intro lo d k P hat hv
    cases hv
    have hk := hat.gt_top
    have hlt := hat.top_lt
    simp only [Tm.top, Tm.size, Nat.add_sub_cancel] at hk hlt
    refine ⟨?_, ?_⟩
    · simp only [Tm.ents, qsE, Tm.word, qsW_wrap, qsW]
      rw [if_pos (by rw [hk]; rfl)]
      simp
    · intro e he
      simp only [Tm.ents, List.mem_singleton] at he
      subst he; simp only; omega
  | cat a b iha ihb =>
    intro lo d k P hat hv
    obtain ⟨x, y, rfl, v1, v2⟩ := hv
    obtain ⟨ha, hb, _⟩ := (At.bin rfl rfl).1 hat
    obtain ⟨a1, a2⟩ := iha lo (d + 1) k x ha v1
    obtain ⟨b1, b2⟩ := ihb (lo + a.size) (d + 1) (k + x.wid) y hb v2
    obtain ⟨c1, c2⟩ := hd hat (by intro S h; cases h) d k (k + ((Pt.two x y).wid : Int)) (a.ents lo (d + 1) k x ++ b.ents (lo + a.size) (d + 1) (k + x.wid) y) ⟨rfl, fun e he => (List.mem_append.1 he).elim (a2 e) (b2 e)⟩
    refine ⟨?_, c2⟩
    simp only [Tm.ents, Tm.word, qsW_wrap, qsW_append]
    rw [c1, qsE_append, a1, b1]
  | alt a b iha ihb =>
    intro lo d k P hat hv
    obtain ⟨ha, hb, _⟩ := (At.bin rfl rfl).1 hat
    rcases hv with ⟨x, rfl, v1⟩ | ⟨x, rfl, v1⟩
    · obtain ⟨a1, a2⟩ := iha lo (d + 1) k x ha v1
      obtain ⟨c1, c2⟩ := hd hat (by intro S h; cases h) d k (k + ((Pt.one x).wid : Int)) (a.ents lo (d + 1) k x) ⟨rfl, a2⟩
      exact ⟨by simp only [Tm.ents, Tm.word, qsW_wrap]; rw [c1, a1], c2⟩
    · obtain ⟨a1, a2⟩ := ihb (lo + a.size) (d + 1) k x hb v1
      obtain ⟨c1, c2⟩ := hd hat (by intro S h; cases h) d k (k + ((Pt.other x).wid : Int)) (b.ents (lo + a.size) (d + 1) k x) ⟨rfl, a2⟩
      exact ⟨by simp only [Tm.ents, Tm.word, qsW_wrap]; rw [c1, a1], c2⟩
  | star a iha =>
    intro lo d k P hat hv
    obtain ⟨ha, _⟩ := (At.un rfl rfl).1 hat
    obtain ⟨a1, a2⟩ := star_qs (l := l) (V := a.val) (F := fun x => a.word lo x) (FE := fun k x => a.ents lo (d + 1) k x) (N := l.length) (fun x k v => iha lo (d + 1) k x ha v) P k hv
    obtain ⟨c1, c2⟩ := hd hat (by intro S h; cases h) d k (k + (P.wid : Int)) (starE (fun k x => a.ents lo (d + 1) k x) k P) ⟨rfl, a2⟩
    exact ⟨by simp only [Tm.ents, Tm.word, qsW_wrap]; rw [c1, a1], c2⟩
  | maybe a iha =>
    intro lo d k P hat hv
    obtain ⟨ha, _⟩ := (At.un rfl rfl).1 hat
    rcases hv with rfl | ⟨x, rfl, v1, _⟩
    · obtain ⟨c1, c2⟩ := hd hat (by intro S h; cases h) d k (k + ((Pt.nil).wid : Int)) [] ⟨rfl, by simp⟩
      exact ⟨by simp only [Tm.ents, Tm.word, qsW_wrap]; rw [c1]; rfl, c2⟩
    · obtain ⟨a1, a2⟩ := iha lo (d + 1) k x ha v1
      obtain ⟨c1, c2⟩ := hd hat (by intro S h; cases h) d k (k + ((Pt.one x).wid : Int)) (a.ents lo (d + 1) k x) ⟨rfl, a2⟩
      exact ⟨by simp only [Tm.ents, Tm.word, qsW_wrap]; rw [c1, a1], c2⟩
  | group n a iha =>
    intro lo d k P hat hv
    obtain ⟨ha, _⟩ := (At.un rfl rfl).1 hat
    obtain ⟨x, rfl, v1⟩ := hv
    obtain ⟨a1, a2⟩ := iha lo (d + 1) k x ha v1
    obtain ⟨c1, c2⟩ := hd hat (by intro S h; cases h) d k (k + ((Pt.one x).wid : Int)) (a.ents lo (d + 1) k x) ⟨rfl, a2⟩
    exact ⟨by simp only [Tm.ents, Tm.word, qsW_wrap]; rw [c1, a1], c2⟩
  | iter a iha =>
    intro lo d k P hat hv
    obtain ⟨ha, _⟩ := (At.un rfl rfl).1 hat
    obtain ⟨x, rfl, v1⟩ := hv
    obtain ⟨a1, a2⟩ := iha lo (d + 1) k x ha v1
    obtain ⟨c1, c2⟩ := hd hat (by intro S h; cases h) d k (k + ((Pt.one x).wid : Int)) (a.ents lo (d + 1) k x) ⟨rfl, a2⟩
    exact ⟨by simp only [Tm.ents, Tm.word, qsW_wrap]; rw [c1, a1], c2⟩
end Go.Proofs.Ytfhehbfifffipaa
