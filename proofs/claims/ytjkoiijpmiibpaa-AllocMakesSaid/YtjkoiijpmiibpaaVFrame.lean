/- Frames as lists of known slots; regions whose operations are run by the kernel; the rules of code over such frames. Its conditions: none. -/
import Derived.Tactics
import Derived.Orders
import Derived.Deep.Quiet
import Derived.KernelRfl
namespace Go.V

abbrev FL := List (Nat × Value)

def look? : FL → Nat → Option Value
  | [], _ => none
  | (k, v) :: r, t => if k = t then some v else look? r t

def lk (l : FL) : Operand → Value
  | .tmp t => (look? l t).getD undef
  | .const v => v
  | .global g => .pointer (some ⟨g, 0, none⟩)
  | .func f => .func (.func f) #[] #[]

def knows (l : FL) : Operand → Bool
  | .tmp t => (look? l t).isSome
  | _ => true

/-- What is known of a frame of n slots. -/
structure Ag (n : Nat) (l : FL) (a : Act) : Prop where
  size : a.tmps.size = n
  defers : a.defers = []
  slot : ∀ k v, look? l k = some v → a.tmps[k]? = some v

theorem Ag.eval {n : Nat} {l : FL} {a : Act} (h : Ag n l a) {x : Operand} (hx : knows l x = true) : a.eval x = lk l x := by
  cases x with
  | tmp t =>
    simp only [knows, Option.isSome_iff_exists] at hx
    obtain ⟨v, hv⟩ := hx
    have := h.slot t v hv
    simp [Act.eval, lk, hv, this]
  | const v => rfl
  | global g => rfl
  | func f => rfl

def putL (l : FL) (d : Option Nat) (v : Value) : FL :=
  match d with
  | none => l
  | some d => (d, v) :: l

theorem Ag.put {n : Nat} {l : FL} {a : Act} (h : Ag n l a) (d : Option Nat) (v : Value) (hd : ∀ k, d = some k → k < n) : Ag n (putL l d v) (a.put d v) := by
  cases d with
  | none => exact h
  | some d =>
    have hdn := hd d rfl
    refine ⟨by simp [Act.put, h.size], by simp [Act.put, h.defers], fun k u hk => ?_⟩
    simp only [putL, look?] at hk
    simp only [Act.put]
    by_cases e : d = k
    · subst e
      simp only [if_true, Option.some.injEq] at hk
      subst hk
      rw [Array.getElem?_setIfInBounds_self_of_lt (by rw [h.size]; exact hdn)]
    · rw [if_neg e] at hk
      rw [Array.getElem?_setIfInBounds_ne e]
      exact h.slot k u hk

def covers (l : FL) : FL → Prop
  | [] => True
  | (k, v) :: r => look? l k = some v ∧ covers l r

theorem covers_look {l : FL} : ∀ {l' : FL}, covers l l' → ∀ k v, look? l' k = some v → look? l k = some v
  | (k', v') :: r, h, k, v, hk => by
    simp only [look?] at hk
    by_cases e : k' = k
    · subst e; simp only [if_true, Option.some.injEq] at hk; subst hk; exact h.1
    · rw [if_neg e] at hk; exact covers_look h.2 k v hk

theorem Ag.of {n : Nat} {l l' : FL} {a : Act} (h : Ag n l a) (hc : covers l l') : Ag n l' a := ⟨h.size, h.defers, fun k v hk => h.slot k v (covers_look hc k v hk)⟩

/-- Of a guard: what its operation's slot says. -/
def gate (ops : Array Oper) (l : FL) (o : Oper) : Option Bool :=
  match o.guard with
  | none => some true
  | some (j, want) =>
    match (ops[j]?).bind (·.dst) with
    | some d => match look? l d with
      | some (.bool b) => some (b == want)
      | some (.tuple _) => some false
      | _ => none
    | none => none

theorem gate_wanted {ops : Array Oper} {n : Nat} {l : FL} {a : Act} (h : Ag n l a) {o : Oper} {b : Bool} (hg : gate ops l o = some b) : Region.wanted o (yielded ops a.tmps) = b := by
  unfold gate at hg
  unfold Region.wanted
  cases hgd : o.guard with
  | none => simp [hgd] at hg; simp [hg]
  | some jw =>
    obtain ⟨j, want⟩ := jw
    simp only [hgd] at hg
    simp only
    cases hd : (ops[j]?).bind (·.dst) with
    | none => simp [hd] at hg
    | some d =>
      simp only [hd] at hg
      cases hl : look? l d with
      | none => simp [hl] at hg
      | some v =>
        have hs := h.slot d v hl
        simp only [hl] at hg
        unfold yielded
        simp only [hd, Option.bind_some, hs]
        cases v <;> simp at hg
        case bool c => simpa using hg
        case tuple vs => subst hg; simp

def dstOk (n : Nat) (o : Oper) : Bool :=
  match o.dst with
  | some d => decide (d < n)
  | none => true
theorem dstOk_lt {n : Nat} {o : Oper} (h : dstOk n o = true) : ∀ k, o.dst = some k → k < n := by
  intro k hk
  simpa [dstOk, hk] using h

def noSel : Op → Bool
  | .select .. => false
  | _ => true

theorem exec_ag {n : Nat} {l : FL} {a : Act} (h : Ag n l a) {o : Oper} (hs : noSel o.op = true) (hk : o.op.operands.all (knows l) = true) : execOp a.eval o = execOp (lk l) o := by
  refine execOp_congr o ?_ ?_
  · intro cs b e; rw [e] at hs; cases hs
  · intro x hx
    exact h.eval (by have := (Array.all_eq_true_iff_forall_mem).1 hk x hx; exact this)

/-- An operation in a frame: it may be run. -/
def fit (n : Nat) (l : FL) (o : Oper) : Bool := noSel o.op && o.op.operands.all (knows l) && dstOk n o

theorem fit_dst {n : Nat} {l : FL} {o : Oper} (h : fit n l o = true) : ∀ k, o.dst = some k → k < n := by
  simp only [fit, Bool.and_eq_true] at h
  exact dstOk_lt h.2
theorem fit_exec {n : Nat} {l : FL} {o : Oper} (h : fit n l o = true) {a : Act} (ha : Ag n l a) : execOp a.eval o = execOp (lk l) o := by
  simp only [fit, Bool.and_eq_true] at h
  exact exec_ag ha h.1.1 h.1.2

section
variable {P : Program} {ops : Array Oper} {n : Nat} {Q : Exit → Act → World → Prop}

/-- One operation, run: it leaves a value. -/
theorem op_val {l : FL} {a : Act} {w w' : World} {o : Oper} {rest : List Oper} {v : Value} (ha : Ag n l a) (hf : (gate ops l o == some true && fit n l o) = true)
    (hr : (execOp (lk l) o).run P w = .ok (.value v) w') (h : ∀ a', Ag n (putL l o.dst v) a' → wpList P ops Q rest a' w') : wpList P ops Q (o :: rest) a w := by
  simp only [Bool.and_eq_true, beq_iff_eq] at hf
  unfold wpList
  rw [if_pos (gate_wanted ha hf.1)]
  refine .inl ?_
  simp only [Oper.wp, fit_exec hf.2 ha, hr, Oper.upon]
  exact h _ (ha.put _ _ (fit_dst hf.2))
theorem op_skip {l : FL} {a : Act} {w w' : World} {o : Oper} {rest : List Oper} (ha : Ag n l a) (hf : (gate ops l o == some true && fit n l o) = true)
    (hr : (execOp (lk l) o).run P w = .ok .skip w') (h : ∀ a', Ag n (putL l o.dst undef) a' → wpList P ops Q rest a' w') : wpList P ops Q (o :: rest) a w := by
  simp only [Bool.and_eq_true, beq_iff_eq] at hf
  unfold wpList
  rw [if_pos (gate_wanted ha hf.1)]
  refine .inl ?_
  simp only [Oper.wp, fit_exec hf.2 ha, hr, Oper.upon]
  exact h _ (ha.put _ _ (fit_dst hf.2))
/-- An operation whose guard says no. -/
theorem op_off {l : FL} {a : Act} {w : World} {o : Oper} {rest : List Oper} (ha : Ag n l a) (hf : (gate ops l o == some false && dstOk n o) = true)
    (h : ∀ a', Ag n (putL l o.dst undef) a' → wpList P ops Q rest a' w) : wpList P ops Q (o :: rest) a w := by
  simp only [Bool.and_eq_true, beq_iff_eq] at hf
  unfold wpList
  rw [gate_wanted ha hf.1]
  simp only [Bool.false_eq_true, if_false]
  exact h _ (ha.put _ _ (dstOk_lt hf.2))
/-- A call of a function with a body. -/
theorem op_call {l : FL} {a : Act} {w w' : World} {o : Oper} {rest : List Oper} {f : FuncId} {args : Array Value} (ha : Ag n l a) (hf : (gate ops l o == some true && fit n l o) = true)
    (hr : (execOp (lk l) o).run P w = .ok (.enter f args) w') {R : Value → World → Prop} (hc : Calls P f args w' fun e w'' => ∃ v, e = .returned v ∧ R v w'')
    (h : ∀ v w'', R v w'' → ∀ a', Ag n (putL l o.dst v) a' → wpList P ops Q rest a' w'') : wpList P ops Q (o :: rest) a w := by
  simp only [Bool.and_eq_true, beq_iff_eq] at hf
  unfold wpList
  rw [if_pos (gate_wanted ha hf.1)]
  refine .inl ?_
  simp only [Oper.wp, fit_exec hf.2 ha, hr, Oper.upon]
  refine hc.mono ?_
  rintro e w'' ⟨v, rfl, hv⟩
  exact h v w'' hv _ (ha.put _ _ (fit_dst hf.2))

/-- So many operations, run by reckoning. -/
def seg (P : Program) (ops : Array Oper) (n : Nat) : Nat → List Oper → FL → World → Option (List Oper × FL × World)
  | 0, xs, l, w => some (xs, l, w)
  | _ + 1, [], _, _ => none
  | k + 1, o :: rest, l, w =>
    match gate ops l o with
    | some true =>
      if fit n l o then
        match (execOp (lk l) o).run P w with
        | .ok (.value v) w' => seg P ops n k rest (putL l o.dst v) w'
        | .ok .skip w' => seg P ops n k rest (putL l o.dst undef) w'
        | _ => none
      else none
    | some false => if dstOk n o then seg P ops n k rest (putL l o.dst undef) w else none
    | none => none

theorem seg_sound : ∀ (k : Nat) (xs : List Oper) (l : FL) (w : World) (rest : List Oper) (l' : FL) (w' : World), seg P ops n k xs l w = some (rest, l', w') →
    ∀ a, Ag n l a → (∀ a', Ag n l' a' → wpList P ops Q rest a' w') → wpList P ops Q xs a w
  | 0, xs, l, w, rest, l', w', h, a, ha, hk => by
    simp only [seg, Option.some.injEq, Prod.mk.injEq] at h
    obtain ⟨rfl, rfl, rfl⟩ := h
    exact hk a ha
  | k + 1, [], l, w, rest, l', w', h, a, ha, hk => by simp [seg] at h
  | k + 1, o :: xs, l, w, rest, l', w', h, a, ha, hk => by
    unfold seg at h
    split at h
    · rename_i hg
      split at h
      · rename_i hf
        split at h
        · rename_i v w1 hr
          exact op_val ha (by simp [hg, hf]) hr fun a' ha' => seg_sound k xs _ _ rest l' w' h a' ha' hk
        · rename_i w1 hr
          exact op_skip ha (by simp [hg, hf]) hr fun a' ha' => seg_sound k xs _ _ rest l' w' h a' ha' hk
        · cases h
      · cases h
    · rename_i hg
      split at h
      · rename_i hd
        exact op_off ha (by simp [hg, hd]) fun a' ha' => seg_sound k xs _ _ rest l' w' h a' ha' hk
      · cases h
    · cases h

/-- The same, and of what is known then a part: as the kernel reckons. -/
def segs (P : Program) (ops : Array Oper) (n k : Nat) (ks : List Nat) (xs : List Oper) (l : FL) (w : World) : Option (List Oper × FL × World) :=
  (seg P ops n k xs l w).map fun r => (r.1, ks.filterMap (fun t => (look? r.2.1 t).map fun v => (t, v)), r.2.2)

theorem look_filterMap (l : FL) : ∀ (ks : List Nat) (k : Nat) (v : Value), look? (ks.filterMap (fun t => (look? l t).map fun v => (t, v))) k = some v → look? l k = some v
  | [], k, v, h => by simp [look?] at h
  | t :: ks, k, v, h => by
    cases ht : look? l t with
    | none =>
      simp only [List.filterMap_cons, ht, Option.map_none] at h
      exact look_filterMap l ks k v h
    | some u =>
      simp only [List.filterMap_cons, ht, Option.map_some, look?] at h
      by_cases e : t = k
      · subst e; simp only [if_true, Option.some.injEq] at h; subst h; exact ht
      · rw [if_neg e] at h; exact look_filterMap l ks k v h

theorem segs_sound {k : Nat} {ks : List Nat} {xs : List Oper} {l : FL} {w : World} {l' : FL} {w' : World} {a : Act} (ha : Ag n l a)
    (h : segs P ops n k ks xs l w = some (xs.drop k, l', w')) (hk : ∀ a', Ag n l' a' → wpList P ops Q (xs.drop k) a' w') : wpList P ops Q xs a w := by
  generalize xs.drop k = rest at h hk
  unfold segs at h
  cases hs : seg P ops n k xs l w with
  | none => simp [hs] at h
  | some r =>
    obtain ⟨r1, r2, r3⟩ := r
    simp only [hs, Option.map_some, Option.some.injEq, Prod.mk.injEq] at h
    obtain ⟨rfl, rfl, rfl⟩ := h
    exact seg_sound k xs l w _ r2 _ hs a ha fun a' ha' => hk a' ⟨ha'.size, ha'.defers, fun t v ht => ha'.slot t v (look_filterMap r2 ks t v ht)⟩

theorem seg_look {P : Program} {ops : Array Oper} {n : Nat} : ∀ (k : Nat) (xs : List Oper) (l : FL) (w : World) (r : List Oper) (l' : FL) (w' : World), seg P ops n k xs l w = some (r, l', w') → ∀ t, (∀ o ∈ xs.take k, o.dst ≠ some t) → look? l' t = look? l t
  | 0, xs, l, w, r, l', w', h, t, _ => by
    simp only [seg, Option.some.injEq, Prod.mk.injEq] at h
    rw [h.2.1]
  | k + 1, [], l, w, r, l', w', h, t, _ => by simp [seg] at h
  | k + 1, o :: xs, l, w, r, l', w', h, t, ht => by
    have hp : ∀ v, look? (putL l o.dst v) t = look? l t := by
      intro v
      have := ht o (by simp)
      cases hd : o.dst with
      | none => rfl
      | some d =>
        rw [hd] at this
        simp only [putL, look?]
        rw [if_neg (fun e => this (by rw [e]))]
    have ht' : ∀ o ∈ xs.take k, o.dst ≠ some t := fun o ho => ht o (by simp [ho])
    unfold seg at h
    split at h
    · split at h
      · split at h
        · rw [seg_look k xs _ _ r l' w' h t ht', hp]
        · rw [seg_look k xs _ _ r l' w' h t ht', hp]
        · cases h
      · cases h
    · split at h
      · rw [seg_look k xs _ _ r l' w' h t ht', hp]
      · cases h
    · cases h
theorem look_app {t : Nat} {v : Value} : ∀ (d l : FL), look? (d ++ l) t = some v → look? d t = some v ∨ (look? d t = none ∧ look? l t = some v)
  | [], l, h => .inr ⟨rfl, h⟩
  | (k, u) :: d, l, h => by
    simp only [List.cons_append, look?] at h ⊢
    by_cases e : k = t
    · rw [if_pos e] at h ⊢; exact .inl h
    · rw [if_neg e] at h ⊢; exact look_app d l h
theorem look_none {t : Nat} : ∀ (d : FL), look? d t = none → (d.any fun e => e.1 == t) = false
  | [], _ => rfl
  | (k, u) :: d, h => by
    simp only [look?] at h
    by_cases e : k = t
    · rw [if_pos e] at h; cases h
    · rw [if_neg e] at h
      simp only [List.any_cons, look_none d h, Bool.or_false]
      simpa using e
/-- What the operations write is told anew, or was not known. -/
def dok (xs : List Oper) (d l : FL) : Bool := xs.all fun o => match o.dst with | none => true | some t => (d.any fun e => e.1 == t) || (look? l t).isNone
theorem sk {P : Program} {ops : Array Oper} {n : Nat} {Q : Exit → Act → World → Prop} {xs : List Oper} {l : FL} {w : World} {a : Act} (ha : Ag n l a) (k : Nat) (d : FL) (hk : ∀ a', Ag n (d ++ l) a' → wpList P ops Q (xs.drop k) a' w)
    (h : segs P ops n k (d.map Prod.fst) xs l w = some (xs.drop k, d, w) := by kernel_rfl) (h2 : dok (xs.take k) d l = true := by kernel_rfl) : wpList P ops Q xs a w := by
  generalize xs.drop k = rest at h hk
  unfold segs at h
  cases hs : seg P ops n k xs l w with
  | none => simp [hs] at h
  | some r =>
    obtain ⟨r1, r2, r3⟩ := r
    simp only [hs, Option.map_some, Option.some.injEq, Prod.mk.injEq] at h
    obtain ⟨rfl, h3, rfl⟩ := h
    refine seg_sound k xs l _ _ r2 _ hs a ha fun a' ha' => hk a' ⟨ha'.size, ha'.defers, fun t v ht => ?_⟩
    rcases look_app d l ht with h4 | ⟨h4, h5⟩
    · exact ha'.slot t v (look_filterMap r2 _ t v (by rw [h3]; exact h4))
    · refine ha'.slot t v ?_
      rw [seg_look k xs l _ _ r2 _ hs t ?_, h5]
      intro o ho hd
      have := List.all_eq_true.1 h2 o ho
      simp only [hd, look_none d h4, h5, Option.isNone_some, Bool.or_self] at this
      cases this

end
end Go.V
