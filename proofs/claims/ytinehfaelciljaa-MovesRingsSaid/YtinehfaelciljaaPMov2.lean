/- Moves: the run of an order. Its conditions: none. -/
import Derived.Test.YtinehfaelciljaaPMov1
set_option autoImplicit false
namespace Go.Proofs.Ytinehfaelciljaa
open Go.V Go.RowKit

/-! Lists of registers. -/
theorem nodup_len {l m : List Int} (hn : l.Nodup) (hs : ∀ x ∈ l, x ∈ m) : l.length ≤ m.length := by
  induction l generalizing m with
  | nil => simp
  | cons a l ih =>
    have h1 := List.nodup_cons.1 hn
    have ha : a ∈ m := hs a (by simp)
    have := ih (m := m.erase a) h1.2 (fun x hx => (List.mem_erase_of_ne (fun e : x = a => h1.1 (e ▸ hx))).2 (hs x (by simp [hx])))
    rw [List.length_erase_of_mem ha] at this
    have := List.length_pos_of_mem ha
    simp only [List.length_cons]; omega
theorem nodup_perm {l m : List Int} (hn : l.Nodup) (hs : ∀ x ∈ l, x ∈ m) (hl : m.length ≤ l.length) : l.Perm m := by
  induction l generalizing m with
  | nil => cases m with
    | nil => exact List.Perm.refl _
    | cons a m => simp at hl
  | cons a l ih =>
    have h1 := List.nodup_cons.1 hn
    have ha : a ∈ m := hs a (by simp)
    have := ih (m := m.erase a) h1.2 (fun x hx => (List.mem_erase_of_ne (fun e : x = a => h1.1 (e ▸ hx))).2 (hs x (by simp [hx]))) (by rw [List.length_erase_of_mem ha]; simp only [List.length_cons] at hl; omega)
    exact (this.cons a).trans (List.perm_cons_erase ha).symm
theorem inj_map {g : Int → Int} {l : List Int} (h : (l.map g).Nodup) : ∀ x ∈ l, ∀ y ∈ l, g x = g y → x = y := by
  induction l with
  | nil => intro x hx; simp at hx
  | cons a l ih =>
    rw [List.map_cons, List.nodup_cons] at h
    intro x hx y hy e
    rcases List.mem_cons.1 hx with hx | hx <;> rcases List.mem_cons.1 hy with hy | hy
    · rw [hx, hy]
    · exact absurd (List.mem_map.2 ⟨y, hy, by rw [← e, hx]⟩) h.1
    · exact absurd (List.mem_map.2 ⟨x, hx, by rw [e, hy]⟩) h.1
    · exact ih h.2 x hx y hy e
theorem countP_same {l : List Int} {p q : Int → Bool} (h : ∀ x ∈ l, p x = q x) : l.countP p = l.countP q := by
  induction l with
  | nil => rfl
  | cons b l ih => simp only [List.countP_cons, h b (by simp), ih (fun x hx => h x (by simp [hx]))]
theorem countP_drop {l : List Int} {p q : Int → Bool} {a : Int} (hn : l.Nodup) (ha : a ∈ l) (hp : p a = true) (hq : q a = false) (h : ∀ x ∈ l, x ≠ a → p x = q x) : l.countP p = l.countP q + 1 := by
  induction l with
  | nil => simp at ha
  | cons b l ih =>
    have h1 := List.nodup_cons.1 hn
    by_cases e : b = a
    · subst e
      simp only [List.countP_cons, hp, hq, countP_same (fun x hx => h x (List.mem_cons_of_mem _ hx) (fun e => h1.1 (e ▸ hx)))]
      simp
    · have ha' : a ∈ l := (List.mem_cons.1 ha).resolve_left (Ne.symm e)
      have := ih h1.2 ha' (fun x hx => h x (by simp [hx]))
      simp only [List.countP_cons, h b (by simp) e, this]; omega

/-! Steps along f. -/
def it (f : Int → Int) : Nat → Int → Int
  | 0, x => x
  | n + 1, x => f (it f n x)
theorem it_add (f : Int → Int) (i j : Nat) (x : Int) : it f (i + j) x = it f i (it f j x) := by
  induction i with
  | zero => rw [Nat.zero_add]; rfl
  | succ i ih => rw [Nat.succ_add]; simp only [it, ih]
theorem it_mul {f : Int → Int} {p : Nat} {m : Int} (h : it f p m = m) : ∀ k, it f (k * p) m = m
  | 0 => by rw [Nat.zero_mul]; rfl
  | k + 1 => by rw [Nat.succ_mul, it_add, h, it_mul h k]
theorem it_hole {f : Int → Int} {P : List Int} {a : Int} (hin : ∀ j, it f j a ∈ P) (hinj : ∀ x ∈ P, ∀ y ∈ P, f x = f y → x = y) : ∃ p, 1 ≤ p ∧ p ≤ P.length ∧ it f p a = a := by
  have hc : ∃ i j, i < j ∧ j < P.length + 1 ∧ it f i a = it f j a := by
    refine Classical.byContradiction fun hno => ?_
    have hno' : ∀ i j, i < j → j < P.length + 1 → it f i a ≠ it f j a := fun i j h1 h2 h3 => hno ⟨i, j, h1, h2, h3⟩
    have hnd : ((List.range (P.length + 1)).map fun j => it f j a).Nodup := by
      unfold List.Nodup
      rw [List.pairwise_map]
      exact List.pairwise_lt_range.imp_of_mem (fun ha hb hlt => hno' _ _ hlt (List.mem_range.1 hb))
    have := nodup_len hnd (m := P) (by intro x hx; obtain ⟨j, _, rfl⟩ := List.mem_map.1 hx; exact hin j)
    simp at this
    omega
  obtain ⟨i, j, h1, h2, h3⟩ := hc
  have key : ∀ i d, it f i a = it f (i + d) a → it f d a = a := by
    intro i
    induction i with
    | zero => intro d h; rw [Nat.zero_add] at h; exact h.symm
    | succ i ih =>
      intro d h
      rw [Nat.succ_add] at h
      exact ih d (hinj _ (hin _) _ (hin _) h)
  exact ⟨j - i, by omega, by omega, key i (j - i) (by rw [show i + (j - i) = j by omega]; exact h3)⟩

/-! What the registers hold. -/
def valE (now : Int) (r : Int → Int) (x : Int) : Int := if x = -1 then now else r x
def stepE (now : Int) (r : Int → Int) (m : MMove) : Int → Int := fun x => if x = m.To then valE now r m.From else r x
def runE (now : Int) (r : Int → Int) (out : List MMove) : Int → Int := out.foldl (stepE now) r
theorem runE_app (now : Int) (r : Int → Int) (out : List MMove) (m : MMove) : runE now r (out ++ [m]) = stepE now (runE now r out) m := by simp [runE]
theorem val_step {now : Int} {r : Int → Int} {m : MMove} {x : Int} (h : x ≠ m.To) : valE now (stepE now r m) x = valE now r x := by
  unfold valE stepE; simp only [if_neg h]

/-! The state. -/
structure MSet (f : Int → Int) (K : List Int) (sp : Int) (n : Nat) : Prop where
  nd : K.Nodup
  st : K.Pairwise (fun a b => a ≤ b)
  ne : ∀ t ∈ K, f t ≠ t
  spK : sp ∉ K
  spf : ∀ t ∈ K, f t ≠ sp
  m1 : (-1 : Int) ∉ K
  sp1 : sp ≠ -1
  cl : ∀ x, x ∉ K → f x ∉ K
  hn : K.length ≤ n
def Pk (o : MMovesOrder) : List Int := o.left.map Prod.fst
def Ring (f : Int → Int) (n : Nat) (m : Int) : Prop := ∃ p, 1 ≤ p ∧ p ≤ n ∧ it f p m = m ∧ ∀ j, m ≤ it f j m
def Whole (f : Int → Int) (o : MMovesOrder) (m : Int) : Prop := ∀ j, it f j m ∈ Pk o ∧ mget o.left (it f j m) = it f (j + 1) m
open Classical in
noncomputable def cntW (f : Int → Int) (K : List Int) (n : Nat) (o : MMovesOrder) : Nat := K.countP fun m => decide (Ring f n m ∧ Whole f o m)
open Classical in
noncomputable def rings (f : Int → Int) (K : List Int) (n : Nat) : Nat := K.countP fun m => decide (Ring f n m)
structure MInv (f : Int → Int) (K : List Int) (sp : Int) (n : Nat) (now : Int) (r0 : Int → Int) (o : MMovesOrder) (q : Nat) : Prop where
  keys : o.keys = K
  spare : o.spare = sp
  nd : (Pk o).Nodup
  sub : ∀ t ∈ Pk o, t ∈ K
  lf : ∀ t ∈ Pk o, mget o.left t = f t ∨ mget o.left t = sp
  pend : ∀ t ∈ Pk o, valE now (runE now r0 o.out) (mget o.left t) = valE now r0 (f t)
  done : ∀ t ∈ K, t ∉ Pk o → runE now r0 o.out t = valE now r0 (f t)
  oth : ∀ t, t ∉ K → t ≠ sp → runE now r0 o.out t = r0 t
  ne : ∀ m ∈ o.out, m.To ≠ m.From
  rg : ∀ m ∈ o.out, m.To = sp → 0 < q
  fr : ∀ m ∈ o.out, (m.To ∈ K ∨ m.To = sp) ∧ (m.From = sp ∨ m.From ∈ K ∨ ∃ t ∈ K, m.From = f t)
  len : o.out.length + o.left.length = K.length + q
  cnt : q + cntW f K n o = rings f K n
variable {f : Int → Int} {K : List Int} {sp now : Int} {n : Nat} {r0 : Int → Int}
theorem MInv.put (S : MSet f K sp n) {o : MMovesOrder} {q : Nat} (I : MInv f K sp n now r0 o q) {t : Int} (ht : t ∈ Pk o) (hw : ∀ s ∈ Pk o, mget o.left s ≠ t) : MInv f K sp n now r0 (putO o t) q := by
  have hP : Pk (putO o t) = (Pk o).erase t := mdel_keys _ _
  have hm : ∀ s, s ∈ Pk (putO o t) ↔ s ≠ t ∧ s ∈ Pk o := fun s => by rw [hP]; exact I.nd.mem_erase_iff
  have hg : ∀ s, s ≠ t → mget (putO o t).left s = mget o.left s := fun s h => mget_del h
  have tK := I.sub t ht
  have hout : (putO o t).out = o.out ++ [⟨t, mget o.left t⟩] := rfl
  refine ⟨I.keys, I.spare, hP ▸ I.nd.erase t, fun s hs => I.sub s ((hm s).1 hs).2, fun s hs => ?_, fun s hs => ?_, fun s hs hs2 => ?_, fun s hs hs2 => ?_, fun m hmm => ?_, fun m hmm e => ?_, fun m hmm => ?_, ?_, ?_⟩
  · rw [hg s ((hm s).1 hs).1]; exact I.lf s ((hm s).1 hs).2
  · obtain ⟨h1, h2⟩ := (hm s).1 hs
    rw [hg s h1, hout, runE_app, val_step (hw s h2)]
    exact I.pend s h2
  · rw [hout, runE_app]
    unfold stepE
    by_cases e : s = t
    · subst e; rw [if_pos rfl]; exact I.pend s ht
    · rw [if_neg e]
      exact I.done s hs (fun h => hs2 ((hm s).2 ⟨e, h⟩))
  · rw [hout, runE_app]
    unfold stepE
    rw [if_neg (show ¬ s = t from fun e => hs (e ▸ tK))]
    exact I.oth s hs hs2
  · rw [hout] at hmm
    rcases List.mem_append.1 hmm with h | h
    · exact I.ne m h
    · rw [List.mem_singleton.1 h]; exact (hw t ht).symm
  · rw [hout] at hmm
    rcases List.mem_append.1 hmm with h | h
    · exact I.rg m h e
    · rw [List.mem_singleton.1 h] at e; exact absurd (show t = sp from e) (fun e => S.spK (e ▸ tK))
  · rw [hout] at hmm
    rcases List.mem_append.1 hmm with h | h
    · exact I.fr m h
    · rw [List.mem_singleton.1 h]
      refine ⟨.inl tK, ?_⟩
      rcases I.lf t ht with e | e
      · exact .inr (.inr ⟨t, tK, e⟩)
      · exact .inl e
  · have h1 : (putO o t).left.length = o.left.length - 1 := by
      have := congrArg List.length hP
      rw [List.length_erase_of_mem ht] at this
      simpa [Pk] using this
    have h2 : 0 < o.left.length := by have := List.length_pos_of_mem ht; simpa [Pk] using this
    have := I.len
    rw [hout, h1]; simp only [List.length_append, List.length_singleton]; omega
  · rw [← I.cnt]
    congr 1
    unfold cntW
    refine countP_same fun m _ => decide_eq_decide.2 ⟨fun ⟨R, W⟩ => ⟨R, fun j => ?_⟩, fun ⟨R, W⟩ => ⟨R, fun j => ?_⟩⟩
    · have h := W j
      have h3 := (hm _).1 h.1
      rw [hg _ h3.1] at h
      exact ⟨h3.2, h.2⟩
    · have hne : it f j m ≠ t := by
        intro e
        obtain ⟨p, p1, _, p2, _⟩ := R
        have h4 : it f (j + p - 1 + 1) m = t := by rw [show j + p - 1 + 1 = j + p by omega, it_add, p2, e]
        have h5 := W (j + p - 1)
        exact hw _ h5.1 (h5.2.trans h4)
      exact ⟨(hm _).2 ⟨hne, (W j).1⟩, by rw [hg _ hne]; exact (W j).2⟩
theorem ring_fold (a : Int) (ks : List Int) : ∀ s : MMovesOrder, s.spare ≠ a → Pk (ks.foldl (ringS a) s) = Pk s ∧ (ks.foldl (ringS a) s).keys = s.keys ∧ (ks.foldl (ringS a) s).spare = s.spare ∧ (ks.foldl (ringS a) s).out = s.out ∧ ∀ j, mget (ks.foldl (ringS a) s).left j = if j ∈ ks ∧ j ∈ Pk s ∧ mget s.left j = a then s.spare else mget s.left j := by
  induction ks with
  | nil => intro s _; simp
  | cons t ks ih =>
    intro s hs
    rw [List.foldl_cons]
    by_cases c : (mhas s.left t && mget s.left t == a) = true
    · have e : ringS a s t = ⟨mput s.left t s.spare, s.keys, s.spare, s.out⟩ := by unfold ringS; rw [if_pos c]
      rw [e]
      simp only [Bool.and_eq_true, beq_iff_eq] at c
      have hk : Pk ⟨mput s.left t s.spare, s.keys, s.spare, s.out⟩ = Pk s := keys_put_old _ _ _ c.1
      have htP : t ∈ Pk s := (mhas_iff _ _).1 c.1
      obtain ⟨h1, h2, h3, h4, h5⟩ := ih ⟨mput s.left t s.spare, s.keys, s.spare, s.out⟩ hs
      refine ⟨h1.trans hk, h2, h3, h4, fun j => ?_⟩
      rw [h5 j, hk, mget_put]
      by_cases ej : t = j
      · subst ej; rw [if_pos rfl, if_neg (fun h => hs h.2.2), if_pos ⟨List.mem_cons_self .., htP, c.2⟩]
      · rw [if_neg ej]
        have : (j ∈ t :: ks) ↔ j ∈ ks := ⟨fun h => (List.mem_cons.1 h).resolve_left (Ne.symm ej), fun h => List.mem_cons_of_mem _ h⟩
        simp only [this]
    · have e : ringS a s t = s := by unfold ringS; rw [if_neg c]
      rw [e]
      obtain ⟨h1, h2, h3, h4, h5⟩ := ih s hs
      refine ⟨h1, h2, h3, h4, fun j => ?_⟩
      rw [h5 j]
      by_cases ej : j = t
      · subst ej
        have hno : ¬ (j ∈ Pk s ∧ mget s.left j = a) := by
          intro h; apply c; rw [(mhas_iff _ _).2 h.1, h.2]; simp
        rw [if_neg (fun h => hno h.2), if_neg (fun h => hno h.2)]
      · have : (j ∈ t :: ks) ↔ j ∈ ks := ⟨fun h => (List.mem_cons.1 h).resolve_left ej, fun h => List.mem_cons_of_mem _ h⟩
        simp only [this]
theorem find_least {K : List Int} {p : Int → Bool} {a : Int} (hs : K.Pairwise (fun a b => a ≤ b)) (h : K.find? p = some a) : a ∈ K ∧ p a = true ∧ ∀ t ∈ K, p t = true → a ≤ t := by
  obtain ⟨h1, l1, l2, rfl, h2⟩ := List.find?_eq_some_iff_append.1 h
  refine ⟨by simp, h1, fun t ht hp => ?_⟩
  rcases List.mem_append.1 ht with h3 | h3
  · have := h2 t h3; simp [hp] at this
  · rcases List.mem_cons.1 h3 with rfl | h3
    · exact Int.le_refl _
    · exact (List.pairwise_cons.1 (List.pairwise_append.1 hs).2.1).1 t h3
open Classical in
theorem MInv.ring (S : MSet f K sp n) {o : MMovesOrder} {q : Nat} (I : MInv f K sp n now r0 o q) (hall : ∀ t ∈ Pk o, ∃ s ∈ Pk o, mget o.left s = t) (hne : o.left ≠ []) : MInv f K sp n now r0 (ringO o) (q + 1) ∧ Pk (ringO o) = Pk o ∧ ∃ t ∈ Pk (ringO o), ∀ s ∈ Pk (ringO o), mget (ringO o).left s ≠ t := by
  have hperm : (Pk o).Perm ((Pk o).map (mget o.left)) := nodup_perm I.nd (fun t ht => by obtain ⟨s, h1, h2⟩ := hall t ht; exact List.mem_map.2 ⟨s, h1, h2⟩) (by simp)
  have hin : ∀ s ∈ Pk o, mget o.left s ∈ Pk o := fun s hs => hperm.mem_iff.2 (List.mem_map.2 ⟨s, hs, rfl⟩)
  have hlf : ∀ s ∈ Pk o, mget o.left s = f s := fun s hs => (I.lf s hs).resolve_right (fun e => S.spK (e ▸ I.sub _ (hin s hs)))
  have hinj : ∀ x ∈ Pk o, ∀ y ∈ Pk o, f x = f y → x = y := by
    intro x hx y hy e
    exact inj_map (hperm.nodup_iff.1 I.nd) x hx y hy (by rw [hlf x hx, hlf y hy, e])
  have horb : ∀ x ∈ Pk o, ∀ j, it f j x ∈ Pk o := by
    intro x hx j
    induction j with
    | zero => exact hx
    | succ j ih => have := hin _ ih; rw [hlf _ ih] at this; exact this
  have hwh : ∀ x ∈ Pk o, Whole f o x := fun x hx j => ⟨horb x hx j, hlf _ (horb x hx j)⟩
  have hPle : (Pk o).length ≤ n := Nat.le_trans (nodup_len I.nd I.sub) S.hn
  obtain ⟨b, hb⟩ : ∃ b, b ∈ Pk o := by
    cases hl : o.left with
    | nil => exact absurd hl hne
    | cons b l => exact ⟨b.1, by simp [Pk, hl]⟩
  obtain ⟨a, ha⟩ : ∃ a, o.keys.find? (fun t => mhas o.left t) = some a := by
    cases h : o.keys.find? (fun t => mhas o.left t) with
    | some a => exact ⟨a, rfl⟩
    | none =>
      have := List.find?_eq_none.1 h b (by rw [I.keys]; exact I.sub b hb)
      exact absurd ((mhas_iff _ _).2 hb) this
  obtain ⟨aK, haP, hleast⟩ := find_least (by rw [I.keys]; exact S.st) ha
  rw [I.keys] at aK
  have aP : a ∈ Pk o := (mhas_iff _ _).1 haP
  have hmin : ∀ t ∈ Pk o, a ≤ t := fun t ht => hleast t (by rw [I.keys]; exact I.sub t ht) ((mhas_iff _ _).2 ht)
  have hspa : sp ≠ a := fun e => S.spK (e ▸ aK)
  obtain ⟨p, p1, p2, p3⟩ := it_hole (horb a aP) hinj
  have Ra : Ring f n a := ⟨p, p1, Nat.le_trans p2 hPle, p3, fun j => hmin _ (horb a aP j)⟩
  have eR : ringO o = o.keys.foldl (ringS a) ⟨o.left, o.keys, o.spare, o.out ++ [⟨o.spare, a⟩]⟩ := by unfold ringO; rw [ha]
  obtain ⟨h1, h2, h3, h4, h5⟩ := ring_fold a o.keys ⟨o.left, o.keys, o.spare, o.out ++ [⟨o.spare, a⟩]⟩ (by rw [I.spare]; exact hspa)
  rw [← eR] at h1 h2 h3 h4 h5
  have hP : Pk (ringO o) = Pk o := h1
  have hg : ∀ j ∈ Pk o, mget (ringO o).left j = if mget o.left j = a then sp else mget o.left j := by
    intro j hj
    rw [h5 j]
    have : j ∈ o.keys := by rw [I.keys]; exact I.sub j hj
    simp only [this, true_and, I.spare]
    have hj' : j ∈ Pk ⟨o.left, o.keys, sp, o.out ++ [⟨sp, a⟩]⟩ := hj
    simp only [hj', true_and]
  simp only [I.spare] at h4
  refine ⟨⟨h2.trans I.keys, h3.trans I.spare, hP ▸ I.nd, fun t ht => I.sub t (hP ▸ ht), fun t ht => ?_, fun t ht => ?_, fun t ht ht2 => ?_, fun t ht ht2 => ?_, fun m hm => ?_, fun m hm e => by omega, fun m hm => ?_, ?_, ?_⟩, hP, a, hP ▸ aP, fun s hs => ?_⟩
  · rw [hP] at ht
    rw [hg t ht]
    split
    · exact .inr rfl
    · exact .inl (hlf t ht)
  · rw [hP] at ht
    rw [hg t ht, h4, runE_app]
    by_cases c : mget o.left t = a
    · rw [if_pos c]
      have hp := I.pend t ht
      rw [c] at hp
      rw [← hp]
      unfold valE stepE
      rw [if_neg S.sp1, if_pos rfl]
      rfl
    · rw [if_neg c, val_step (fun e => S.spK (by have := I.sub _ (hin t ht); rw [e] at this; exact this))]
      exact I.pend t ht
  · rw [hP] at ht2
    rw [h4, runE_app]
    unfold stepE
    rw [if_neg (show ¬ t = sp from fun e => S.spK (e ▸ ht))]
    exact I.done t ht ht2
  · rw [h4, runE_app]
    unfold stepE
    rw [if_neg (show ¬ t = sp from ht2)]
    exact I.oth t ht ht2
  · rw [h4] at hm
    rcases List.mem_append.1 hm with h | h
    · exact I.ne m h
    · rw [List.mem_singleton.1 h]; exact hspa
  · rw [h4] at hm
    rcases List.mem_append.1 hm with h | h
    · exact I.fr m h
    · rw [List.mem_singleton.1 h]; exact ⟨.inr rfl, .inr (.inl aK)⟩
  · have hl : (ringO o).left.length = o.left.length := by simpa [Pk] using congrArg List.length hP
    have := I.len
    rw [h4, hl]; simp only [List.length_append, List.length_singleton]; omega
  · have hc : cntW f K n o = cntW f K n (ringO o) + 1 := by
      unfold cntW
      refine countP_drop S.nd aK (decide_eq_true ⟨Ra, hwh a aP⟩) (decide_eq_false ?_) fun m hm hma => decide_eq_decide.2 ⟨fun ⟨R, W⟩ => ⟨R, fun j => ?_⟩, fun ⟨R, W⟩ => ⟨R, fun j => ?_⟩⟩
      · intro h
        have hw := (h.2 (p - 1)).2
        have hq : f (it f (p - 1) a) = a := by have := p3; rw [show p = p - 1 + 1 by omega] at this; exact this
        rw [show it f (p - 1 + 1) a = a from hq, hg _ (horb a aP _), hlf _ (horb a aP _), if_pos hq] at hw
        exact hspa hw
      · have hj := W j
        refine ⟨hP ▸ hj.1, ?_⟩
        rw [hg _ hj.1, if_neg, hj.2]
        intro e
        have e2 : it f (j + 1) m = a := hj.2.symm.trans e
        obtain ⟨d, d1, _, d2, d3⟩ := R
        have hd : (j + 1) ≤ (j + 1) * d := Nat.le_mul_of_pos_right _ d1
        have e3 : it f ((j + 1) * d - (j + 1)) a = m := by
          rw [← e2, ← it_add, show (j + 1) * d - (j + 1) + (j + 1) = (j + 1) * d by omega]
          exact it_mul d2 _
        have h6 : a ≤ m := by rw [← e3]; exact hmin _ (horb a aP _)
        have h7 : m ≤ a := by have := d3 (j + 1); rw [e2] at this; exact this
        exact hma (Int.le_antisymm h7 h6)
      · have hj := W j
        rw [hP] at hj
        refine ⟨hj.1, ?_⟩
        have hjj := hj.2
        rw [hg _ hj.1] at hjj
        split at hjj
        · have := (W (j + 1)).1
          rw [hP, ← hjj] at this
          exact absurd (I.sub _ this) S.spK
        · exact hjj
    have := I.cnt
    omega
  · rw [hP] at hs
    rw [hg s hs]
    split
    · exact hspa
    · assumption
end Go.Proofs.Ytinehfaelciljaa
