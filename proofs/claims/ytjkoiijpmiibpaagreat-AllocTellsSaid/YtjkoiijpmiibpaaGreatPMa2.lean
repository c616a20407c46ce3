/- Moves: the run of an order. Its conditions: none. -/
import Derived.Test.YtjkoiijpmiibpaaGreatPMa1
set_option autoImplicit false
namespace Go.Proofs.YtjkoiijpmiibpaaGreat
open Go.V Go.RowKit

/-! Lists of registers. -/
theorem countP_same {l : List Int} {p q : Int → Bool} (h : ∀ x ∈ l, p x = q x) : l.countP p = l.countP q := by
  induction l with
  | nil => rfl
  | cons b l ih => simp only [List.countP_cons, h b (by simp), ih (fun x hx => h x (by simp [hx]))]
/-! Steps along f. -/
def it (f : Int → Int) : Nat → Int → Int
  | 0, x => x
  | n + 1, x => f (it f n x)
theorem it_add (f : Int → Int) (i j : Nat) (x : Int) : it f (i + j) x = it f i (it f j x) := by
  induction i with
  | zero => rw [Nat.zero_add]; rfl
  | succ i ih => rw [Nat.succ_add]; simp only [it, ih]
/-! What the registers hold. -/
def valE (now : Int) (r : Int → Int) (x : Int) : Int := if x = -1 then now else r x
def stepE (now : Int) (r : Int → Int) (m : MMove) : Int → Int := fun x => if x = m.To then valE now r m.From else r x
def runE (now : Int) (r : Int → Int) (out : List MMove) : Int → Int := out.foldl (stepE now) r
theorem runE_app (now : Int) (r : Int → Int) (out : List MMove) (m : MMove) : runE now r (out ++ [m]) = stepE now (runE now r out) m := by simp [runE]
theorem val_step {now : Int} {r : Int → Int} {m : MMove} {x : Int} (h : x ≠ m.To) : valE now (stepE now r m) x = valE now r x := by
  unfold valE stepE; simp only [if_neg h]

/-! The state. -/
structure MSet (f : Int → Int) (K : List Int) (sp : Int) (n : Nat) : Prop where
  nd : K.Nodup
  st : K.Pairwise (fun a b => a ≤ b)
  ne : ∀ t ∈ K, f t ≠ t
  spK : sp ∉ K
  spf : ∀ t ∈ K, f t ≠ sp
  m1 : (-1 : Int) ∉ K
  sp1 : sp ≠ -1
  cl : ∀ x, x ∉ K → f x ∉ K
  hn : K.length ≤ n
def Pk (o : MMovesOrder) : List Int := o.left.map Prod.fst
def Ring (f : Int → Int) (n : Nat) (m : Int) : Prop := ∃ p, 1 ≤ p ∧ p ≤ n ∧ it f p m = m ∧ ∀ j, m ≤ it f j m
def Whole (f : Int → Int) (o : MMovesOrder) (m : Int) : Prop := ∀ j, it f j m ∈ Pk o ∧ mget o.left (it f j m) = it f (j + 1) m
open Classical in
noncomputable def cntW (f : Int → Int) (K : List Int) (n : Nat) (o : MMovesOrder) : Nat := K.countP fun m => decide (Ring f n m ∧ Whole f o m)
open Classical in
noncomputable def rings (f : Int → Int) (K : List Int) (n : Nat) : Nat := K.countP fun m => decide (Ring f n m)
structure MInv (f : Int → Int) (K : List Int) (sp : Int) (n : Nat) (now : Int) (r0 : Int → Int) (o : MMovesOrder) (q : Nat) : Prop where
  keys : o.keys = K
  spare : o.spare = sp
  nd : (Pk o).Nodup
  sub : ∀ t ∈ Pk o, t ∈ K
  lf : ∀ t ∈ Pk o, mget o.left t = f t ∨ mget o.left t = sp
  pend : ∀ t ∈ Pk o, valE now (runE now r0 o.out) (mget o.left t) = valE now r0 (f t)
  done : ∀ t ∈ K, t ∉ Pk o → runE now r0 o.out t = valE now r0 (f t)
  oth : ∀ t, t ∉ K → t ≠ sp → runE now r0 o.out t = r0 t
  ne : ∀ m ∈ o.out, m.To ≠ m.From
  rg : ∀ m ∈ o.out, m.To = sp → 0 < q
  fr : ∀ m ∈ o.out, (m.To ∈ K ∨ m.To = sp) ∧ (m.From = sp ∨ m.From ∈ K ∨ ∃ t ∈ K, m.From = f t)
  len : o.out.length + o.left.length = K.length + q
  cnt : q + cntW f K n o = rings f K n
variable {f : Int → Int} {K : List Int} {sp now : Int} {n : Nat} {r0 : Int → Int}
theorem MInv.put (S : MSet f K sp n) {o : MMovesOrder} {q : Nat} (I : MInv f K sp n now r0 o q) {t : Int} (ht : t ∈ Pk o) (hw : ∀ s ∈ Pk o, mget o.left s ≠ t) : MInv f K sp n now r0 (putO o t) q := by
  have hP : Pk (putO o t) = (Pk o).erase t := mdel_keys _ _
  have hm : ∀ s, s ∈ Pk (putO o t) ↔ s ≠ t ∧ s ∈ Pk o := fun s => by rw [hP]; exact I.nd.mem_erase_iff
  have hg : ∀ s, s ≠ t → mget (putO o t).left s = mget o.left s := fun s h => mget_del h
  have tK := I.sub t ht
  have hout : (putO o t).out = o.out ++ [⟨t, mget o.left t⟩] := rfl
  refine ⟨I.keys, I.spare, hP ▸ I.nd.erase t, fun s hs => I.sub s ((hm s).1 hs).2, fun s hs => ?_, fun s hs => ?_, fun s hs hs2 => ?_, fun s hs hs2 => ?_, fun m hmm => ?_, fun m hmm e => ?_, fun m hmm => ?_, ?_, ?_⟩
  · rw [hg s ((hm s).1 hs).1]; exact I.lf s ((hm s).1 hs).2
  · obtain ⟨h1, h2⟩ := (hm s).1 hs
    rw [hg s h1, hout, runE_app, val_step (hw s h2)]
    exact I.pend s h2
  · rw [hout, runE_app]
    unfold stepE
    by_cases e : s = t
    · subst e; rw [if_pos rfl]; exact I.pend s ht
    · rw [if_neg e]
      exact I.done s hs (fun h => hs2 ((hm s).2 ⟨e, h⟩))
  · rw [hout, runE_app]
    unfold stepE
    rw [if_neg (show ¬ s = t from fun e => hs (e ▸ tK))]
    exact I.oth s hs hs2
  · rw [hout] at hmm
    rcases List.mem_append.1 hmm with h | h
    · exact I.ne m h
    · rw [List.mem_singleton.1 h]; exact (hw t ht).symm
  · rw [hout] at hmm
    rcases List.mem_append.1 hmm with h | h
    · exact I.rg m h e
    · rw [List.mem_singleton.1 h] at e; exact absurd (show t = sp from e) (fun e => S.spK (e ▸ tK))
  · rw [hout] at hmm
    rcases List.mem_append.1 hmm with h | h
    · exact I.fr m h
    · rw [List.mem_singleton.1 h]
      refine ⟨.inl tK, ?_⟩
      rcases I.lf t ht with e | e
      · exact .inr (.inr ⟨t, tK, e⟩)
      · exact .inl e
  · have h1 : (putO o t).left.length = o.left.length - 1 := by
      have := congrArg List.length hP
      rw [List.length_erase_of_mem ht] at this
      simpa [Pk] using this
    have h2 : 0 < o.left.length := by have := List.length_pos_of_mem ht; simpa [Pk] using this
    have := I.len
    rw [hout, h1]; simp only [List.length_append, List.length_singleton]; omega
  · rw [← I.cnt]
    congr 1
    unfold cntW
    refine countP_same fun m _ => decide_eq_decide.2 ⟨fun ⟨R, W⟩ => ⟨R, fun j => ?_⟩, fun ⟨R, W⟩ => ⟨R, fun j => ?_⟩⟩
    · have h := W j
      have h3 := (hm _).1 h.1
      rw [hg _ h3.1] at h
      exact ⟨h3.2, h.2⟩
    · have hne : it f j m ≠ t := by
        intro e
        obtain ⟨p, p1, _, p2, _⟩ := R
        have h4 : it f (j + p - 1 + 1) m = t := by rw [show j + p - 1 + 1 = j + p by omega, it_add, p2, e]
        have h5 := W (j + p - 1)
        exact hw _ h5.1 (h5.2.trans h4)
      exact ⟨(hm _).2 ⟨hne, (W j).1⟩, by rw [hg _ hne]; exact (W j).2⟩
end Go.Proofs.YtjkoiijpmiibpaaGreat
