/- Short forms: what is read, how a function is entered and left, over all that a call holds. Its conditions: none. -/
import Derived.Test.YtjkoiijpmiibpaaU2
namespace Go.V
open Go.RowKit

def pickL {β : Type _} (l : List β) : List Nat → List β
  | [] => []
  | i :: is => match l[i]? with
    | some x => x :: pickL l is
    | none => pickL l is
theorem pickL_mem {β : Type _} {l : List β} {x : β} : ∀ {is : List Nat}, x ∈ pickL l is → ∃ i ∈ is, l[i]? = some x
  | i :: is, h => by
    unfold pickL at h
    cases e : l[i]? with
    | none => rw [e] at h; obtain ⟨j, hj, hx⟩ := pickL_mem h; exact ⟨j, by simp [hj], hx⟩
    | some y =>
      rw [e] at h
      rcases List.mem_cons.1 h with rfl | h
      · exact ⟨i, by simp, e⟩
      · obtain ⟨j, hj, hx⟩ := pickL_mem h; exact ⟨j, by simp [hj], hx⟩
theorem pickL_pw {β : Type _} {l : List β} {C : β → β → Prop} (hs : ∀ a b, C a b → C b a) (h : l.Pairwise C) : ∀ {is : List Nat}, is.Nodup → (pickL l is).Pairwise C
  | [], _ => List.Pairwise.nil
  | i :: is, hn => by
    have hn' := List.nodup_cons.1 hn
    unfold pickL
    cases e : l[i]? with
    | none => exact pickL_pw hs h hn'.2
    | some x =>
      refine List.pairwise_cons.2 ⟨fun y hy => ?_, pickL_pw hs h hn'.2⟩
      obtain ⟨j, hj, hx⟩ := pickL_mem hy
      have hne : i ≠ j := fun e => hn'.1 (e ▸ hj)
      obtain ⟨h1, h2⟩ := List.getElem?_eq_some_iff.1 e
      obtain ⟨h3, h4⟩ := List.getElem?_eq_some_iff.1 hx
      have hp := List.pairwise_iff_getElem.1 h
      rw [← h2, ← h4]
      rcases Nat.lt_or_gt_of_ne hne with hlt | hgt
      · exact hp i j h1 h3 hlt
      · exact hs _ _ (hp j i h3 h1 hgt)
section
variable {P : Program} {ops : Array Oper} {n : Nat} {Q : Exit → Act → World → Prop} {l : FL} {a : Act} {w : World} {o : Oper} {rest : List Oper}
variable {w0 w1 : World} {W0 S0 S S1 : Off} {R : List RP} {O Oh rst : List OE} {up : OE → List OE} {α : Type}
/-- A part of what is held, in another order. -/
theorem HB.pq (h : HB w0 W0 S0 w S R O) (ri oi : List Nat) (hd : oi.Nodup := by decide) : HB w0 W0 S0 w S (pickL R ri) (pickL O oi) :=
  ⟨h.cx, fun r hr => by obtain ⟨i, _, hi⟩ := pickL_mem hr; exact h.ro r (List.mem_of_getElem? hi), fun o ho => by obtain ⟨i, _, hi⟩ := pickL_mem ho; exact h.ow o (List.mem_of_getElem? hi),
    pickL_pw (fun a b hab k hk hk' => hab k hk' hk) h.dj hd⟩
theorem HB.nR (h : HB w0 W0 S0 w S R O) (T : Ty α) : HB w0 W0 S0 w S (rS T none 0 [] :: R) O := h.aS Sl.nil
/-- In a function: since world w, with the own things Oh that were handed over. -/
abbrev HC (w : World) (S : Off) (Oh : List OE) (w1 : World) (S1 : Off) (R : List RP) (O : List OE) : Prop := HB w (bl Oh) (mi S Oh) w1 S1 R O
theorem hc0 (hS : ∀ b, S b → b < w.heap.size) : HC w S [] w S [] [] := OQ.nil.st hS
/-! Reads. -/
/-- A field of a field; an element's field. -/
theorem l2 {T : TypeId} {x : Operand} {b p q j : Nat} {v : Value} {d : TypeDesc} (hc : cellH w.heap b (p + q + j) = some v) (ht : P.underlying T = some d) (ha : Ag n l a) (k : ∀ a', Ag n (putL l o.dst v) a' → wpList P ops Q rest a' w)
    (ho : o.op = .load T x := by rfl) (hx : lk l x = .pointer (some (((⟨b, p, none⟩ : Addr).add q).add j)) := by rfl) (hfl : flat d = true := by rfl) (hf : (gate ops l o == some true && fit n l o) = true := by kernel_rfl) : wpList P ops Q (o :: rest) a w :=
  op_val ha hf (ob_load w ho hx ht hfl ((cell_add2 _ _ _ _ _).trans hc)) k
theorem l1 {T : TypeId} {x : Operand} {b p q : Nat} {v : Value} {d : TypeDesc} (hc : cellH w.heap b (p + q) = some v) (ht : P.underlying T = some d) (ha : Ag n l a) (k : ∀ a', Ag n (putL l o.dst v) a' → wpList P ops Q rest a' w)
    (ho : o.op = .load T x := by rfl) (hx : lk l x = .pointer (some ((⟨b, p, none⟩ : Addr).add q)) := by rfl) (hfl : flat d = true := by rfl) (hf : (gate ops l o == some true && fit n l o) = true := by kernel_rfl) : wpList P ops Q (o :: rest) a w :=
  op_val ha hf (ob_load w ho hx ht hfl ((cell_add1 _ _ _ _).trans hc)) k
/-- The address of an element. -/
theorem ix {T : TypeId} {x y : Operand} {xs : List α} {c : Nat} {k : IntKind} {i : Int} {b off E sz : Nat} (hi : inb xs i = true) (hT : P.underlying T = some (.slice E)) (ha : Ag n l a)
    (k' : ∀ a', Ag n (putL l o.dst (vE b off i sz)) a' → wpList P ops Q rest a' w)
    (ho : o.op = .indexAddr T x y := by rfl) (hx : lk l x = vS (some ⟨b, off, none⟩) xs c := by rfl) (hy : lk l y = .int k i := by rfl) (hE : (P.info? E).map (·.size) = some sz := by rfl)
    (hf : (gate ops l o == some true && fit n l o) = true := by kernel_rfl) : wpList P ops Q (o :: rest) a w :=
  op_val ha hf (ob_idx w ho hx hy hT hE (inb_iff hi).1 (inb_iff hi).2) k'
/-! In and out. -/
theorem en {f : FuncId} {fn : Func} {c : Code} {vs : List Value} {q : QP} (hf : P.funcs[f]? = some fn) (hb : fn.body = some c)
    (k : ∀ a, Ag fn.ntmps (argsL vs 0) a → NoP (bodyPost P fn (RQ w S Oh q)) → c.wp P (bodyPost P fn (RQ w S Oh q)) a w) (hn : (decide (vs.length ≤ fn.ntmps)) = true := by kernel_rfl) : Calls P f vs.toArray w (RQ w S Oh q) :=
  enterL hf hb hn fun a ha => with_nop (noP_body _ _) fun hq => k a ha hq
theorem e0 {fn : Func} {e : Exit} {q : QP} {R' : List RP} {O' : List OE} (ha : Ag n l a) (hb : Back w S Oh w1 R' O') (hq : q (.tuple #[]) R' O') (hf : fn.results = #[] := by rfl) (he : e = .ret ∨ e = .normal := by first | exact .inl rfl | exact .inr rfl) : bodyPost P fn (RQ w S Oh q) e a w1 :=
  ret0 ha hf he ⟨_, rfl, _, _, hq, hb⟩
theorem e1 {fn : Func} {e : Exit} {q : QP} {R' : List RP} {O' : List OE} {r1 : ResultVar} {v1 : Value} (ha : Ag n l a) (h1 : RV P l w1 r1 v1) (hb : Back w S Oh w1 R' O') (hq : q v1 R' O') (hf : fn.results = #[r1] := by rfl) (he : e = .ret ∨ e = .normal := by first | exact .inl rfl | exact .inr rfl) : bodyPost P fn (RQ w S Oh q) e a w1 :=
  ret_1 ha hf he h1 ⟨_, rfl, _, _, hq, hb⟩
theorem e2 {fn : Func} {e : Exit} {q : QP} {R' : List RP} {O' : List OE} {r1 r2 : ResultVar} {v1 v2 : Value} (ha : Ag n l a) (h1 : RV P l w1 r1 v1) (h2 : RV P l w1 r2 v2) (hb : Back w S Oh w1 R' O') (hq : q (.tuple #[v1, v2]) R' O') (hf : fn.results = #[r1, r2] := by rfl) (he : e = .ret ∨ e = .normal := by first | exact .inl rfl | exact .inr rfl) : bodyPost P fn (RQ w S Oh q) e a w1 :=
  ret_2 ha hf he h1 h2 ⟨_, rfl, _, _, hq, hb⟩
theorem e3 {fn : Func} {e : Exit} {q : QP} {R' : List RP} {O' : List OE} {r1 r2 r3 : ResultVar} {v1 v2 v3 : Value} (ha : Ag n l a) (h1 : RV P l w1 r1 v1) (h2 : RV P l w1 r2 v2) (h3 : RV P l w1 r3 v3) (hb : Back w S Oh w1 R' O') (hq : q (.tuple #[v1, v2, v3]) R' O') (hf : fn.results = #[r1, r2, r3] := by rfl) (he : e = .ret ∨ e = .normal := by first | exact .inl rfl | exact .inr rfl) : bodyPost P fn (RQ w S Oh q) e a w1 :=
  ret_3 ha hf he h1 h2 h3 ⟨_, rfl, _, _, hq, hb⟩
theorem e4 {fn : Func} {e : Exit} {q : QP} {R' : List RP} {O' : List OE} {r1 r2 r3 r4 : ResultVar} {v1 v2 v3 v4 : Value} (ha : Ag n l a) (h1 : RV P l w1 r1 v1) (h2 : RV P l w1 r2 v2) (h3 : RV P l w1 r3 v3) (h4 : RV P l w1 r4 v4) (hb : Back w S Oh w1 R' O') (hq : q (.tuple #[v1, v2, v3, v4]) R' O') (hf : fn.results = #[r1, r2, r3, r4] := by rfl) (he : e = .ret ∨ e = .normal := by first | exact .inl rfl | exact .inr rfl) : bodyPost P fn (RQ w S Oh q) e a w1 :=
  ret_4 ha hf he h1 h2 h3 h4 ⟨_, rfl, _, _, hq, hb⟩

/-! A call that reads what is the caller's own: it gives back nothing that reads it. -/
def OFlat (o : OE) : Prop := ∀ ⦃H S S'⦄, o.ok H S → o.ok H S'
theorem oS_flat {T : Ty α} {e : TypeId} {A : Option Addr} {nn c : Nat} {xs : List α} (h : ∀ {H S H' S' cs x}, T.R H S cs x → T.R H' S' cs x) : OFlat (oS T e A nn c xs) := fun _ _ _ ⟨cs, h1, h2, h3⟩ => ⟨cs, h1, h2, fun i x hx => h (h3 i x hx)⟩
theorem HB.comeL {S' : Off} {Or : List OE} {O' : List OE} (hp : HB w0 W0 S0 w S R O) (s : Sel O Oh Or) (hb : Back w S' Oh w1 [] O') (hfl : ∀ o ∈ O', OFlat o) : HB w0 W0 S0 w1 (nS S Oh O') R (O' ++ Or) := by
  have := hp.come s (w1 := w1) (R' := []) (O' := O') ⟨hb.bel, fun _ h => (by cases h), fun o ho => ⟨(hb.ow o ho).1, hfl o ho (hb.ow o ho).2.1, (hb.ow o ho).2.2⟩, hb.dj⟩
  simpa using this
theorem ucallL {f : FuncId} {args : Array Value} {Or : List OE} {q : QP} {S' : Off} (hp : HB w0 W0 S0 w S R O) (s : Sel O Oh Or) (hq : ∀ v R' O', q v R' O' → R' = [] ∧ ∀ o ∈ O', OFlat o) (ha : Ag n l a) (hc : Calls P f args w (RQ w S' Oh q))
    (k : ∀ v O' w1, BelW (bl Oh) w w1 → q v [] O' → HB w0 W0 S0 w1 (nS S Oh O') R (O' ++ Or) → ∀ a', Ag n (putL l o.dst v) a' → wpList P ops Q rest a' w1)
    (hr : (execOp (lk l) o).run P w = .ok (.enter f args) w := by kernel_rfl)
    (hf : (gate ops l o == some true && fit n l o) = true := by kernel_rfl) : wpList P ops Q (o :: rest) a w := by
  refine op_call ha hf hr hc ?_
  rintro v w1 ⟨R', O', hqv, hb⟩ a' ha'
  obtain ⟨rfl, hfl⟩ := hq v R' O' hqv
  exact k v O' w1 hb.bel hqv (hp.comeL s hb hfl) a' ha'
theorem BelW.nil {w w1 : World} (h : BelW (bl []) w w1) : Below w.heap.size w w1 := ⟨h.os, h.tape, h.output, h.size, fun k hk => h.block k hk (fun ⟨_, h, _⟩ => by cases h)⟩
end
end Go.V
