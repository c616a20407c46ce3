/- More of what code does with slices and variables: cuts in any order of steps, append onto a slice without room, variables that are filled later, pointers that may be nil. Its conditions: none. -/
import Derived.Test.YtinehfaelciljaaVDraw
import Derived.ArgAppend
import Derived.Laws.CopyRow
import Derived.Laws.IdiomCopy
namespace Go.V
open Go.RowKit

section
variable {P : Program} {ops : Array Oper} {n : Nat} {Q : Exit → Act → World → Prop} {l : FL} {a : Act} {w : World} {o : Oper} {rest : List Oper}

theorem ob_isnil {t t2 : TypeId} {x : Operand} {e : TypeId} {A : Option Addr} {nn c : Nat} (w : World) (ho : o.op = .binOp .eql t x (.const (.slice none 0 0)) t2) (hx : lk l x = .slice A nn c)
    (ht : P.underlying t = some (.slice e)) : (execOp (lk l) o).run P w = .ok (.value (.bool A.isNone)) w := by
  have h1 : (binOp .eql t (.slice A nn c) (.slice none 0 0)).run P w = .ok (.bool A.isNone) w := by simp only [binOp]; simp [run_equal_slice_nil w t e A nn c ht]
  have h3 : (eqGuard .eql t x (.const (.slice none 0 0)) (.slice A nn c) (.slice none 0 0)).run P w = .ok () w := by simp [eqGuard]
  have hc : lk l (.const (.slice none 0 0)) = .slice none 0 0 := rfl
  simp only [execOp, ho, hx, hc, Sem.run_bind, h3, h1, Result.andThen_ok, Sem.run_pure]
theorem sl_isnone {α : Type} {T : Ty α} {H : Heap} {S : Off} {A : Option Addr} {c : Nat} {xs : List α} (h : Sl T H S A c xs) (hA : A.isNone = true) : xs = [] := by
  cases xs with
  | nil => rfl
  | cons y ys => obtain ⟨b, o, hA2, _⟩ := h.2.1 (by simp); rw [hA2] at hA; cases hA
/-- A pointer to a struct that nobody writes to, or nil. -/
def Pt {α : Type} (T : Ty α) (t : TypeId) (H : Heap) (S : Off) (r : Option α) (v : Value) : Prop :=
  match r with
  | none => v = .pointer none
  | some x => ∃ b cs, v = .pointer (some ⟨b, 0, none⟩) ∧ Bx H S b t cs ∧ T.R H S cs x
theorem Pt.keep {α : Type} {T : Ty α} {t : TypeId} {H H' : Heap} {S S' : Off} {r : Option α} {v : Value} (k : Keep H S H' S') (h : Pt T t H S r v) : Pt T t H' S' r v := by
  cases r with
  | none => exact h
  | some x => obtain ⟨b, cs, h1, h2, h3⟩ := h; exact ⟨b, cs, h1, h2.keep k, T.keep k h3⟩
theorem Pt.get {α : Type} {T : Ty α} {t : TypeId} {H : Heap} {S : Off} {r : Option α} {x : α} {v : Value} (h : Pt T t H S r v) (hr : r = some x) : ∃ b cs, v = .pointer (some ⟨b, 0, none⟩) ∧ Bx H S b t cs ∧ T.R H S cs x := by
  subst hr; exact h
theorem Pt.none {α : Type} {T : Ty α} {t : TypeId} {H : Heap} {S : Off} : Pt T t H S Option.none (.pointer Option.none) := rfl
/-- The blocks of a list of things of the call's own. -/
def obl (vs : List Value) : Off := fun k => ∃ v ∈ vs, v.ownBlock = some k
def inL (vs : List Value) (S : Off) : Off := fun k => S k ∨ obl vs k
theorem obl_at {vs : List Value} {v : Value} {k : Nat} (i : Nat) (h : vs[i]? = some v) (hk : v.ownBlock = some k) : obl vs k := ⟨v, List.mem_of_getElem? h, hk⟩
theorem obl_nil {k : Nat} : ¬ obl [] k := fun ⟨_, h, _⟩ => by cases h
theorem obl_cons {v : Value} {vs : List Value} {k : Nat} (h : v.ownBlock ≠ some k) (t : ¬ obl vs k) : ¬ obl (v :: vs) k := fun ⟨u, hu, hk⟩ => by
  rcases List.mem_cons.1 hu with rfl | hu
  · exact h hk
  · exact t ⟨u, hu, hk⟩
/-- What holds of each block of each. -/
theorem all_nil {C : Nat → Prop} : ∀ k, obl [] k → C k := fun _ h => absurd h obl_nil
theorem all_cons {C : Nat → Prop} {v : Value} {vs : List Value} (h : ∀ k, v.ownBlock = some k → C k) (t : ∀ k, obl vs k → C k) : ∀ k, obl (v :: vs) k → C k := fun k ⟨u, hu, hk⟩ => by
  rcases List.mem_cons.1 hu with rfl | hu
  · exact h k hk
  · exact t k ⟨u, hu, hk⟩
theorem inL_sub {vs : List Value} {S S' : Off} (hs : ∀ k, S k → S' k) (h : ∀ k, obl vs k → S' k) : ∀ k, inL vs S k → S' k := fun k hk => hk.elim (hs k) (h k)
theorem Mb.own {M : Off} {H : Heap} {S : Off} {b : Nat} {t : TypeId} {cs : List Value} (h : Mb M H S b t cs) : ∀ k, (bv b).ownBlock = some k → S k ∧ M k := fun k hk => by cases hk; exact h.2
theorem Mb.weak {M M' : Off} {H : Heap} {S : Off} {b : Nat} {t : TypeId} {cs : List Value} (h : Mb M H S b t cs) (hm : ∀ k, (bv b).ownBlock = some k → M' k) : Mb M' H S b t cs := ⟨h.1, h.2.1, hm b rfl⟩
theorem Ow.out {α : Type} {T : Ty α} {e : TypeId} {M : Off} {H : Heap} {S S0 : Off} {v : Value} {xs : List α} {vs : List Value} (h : Ow T e M H S v xs) (hs : ∀ k, inL vs S0 k → S k) (hv : ∀ k, v.ownBlock = some k → obl vs k) : Ow T e M H (inL vs S0) v xs :=
  h.keepS hs (fun b hb => .inr (hv b hb))
theorem Mb.out {M : Off} {H : Heap} {S S0 : Off} {b : Nat} {t : TypeId} {cs : List Value} {vs : List Value} (h : Mb M H S b t cs) (hv : ∀ k, (bv b).ownBlock = some k → obl vs k) : Mb M H (inL vs S0) b t cs := ⟨h.1, .inr (hv b rfl), h.2.2⟩
theorem BelW.refl (W0 : Off) (w : World) : BelW W0 w w := ⟨rfl, rfl, rfl, Nat.le_refl _, fun _ _ _ => rfl⟩

/-- Things of the call's own were handed over, and came back. -/
theorem back {w0 w w1 : World} {W0 S0 S : Off} {us vs : List Value} (cx : Cx w0 W0 S0 w S) (hu : ∀ k, obl us k → S k ∧ Wr W0 w0 k) (hb : BelW (obl us) w w1) (hv : ∀ k, obl vs k → k < w1.heap.size ∧ Wr (obl us) w k) :
    Cx w0 W0 S0 w1 (inL vs S) ∧ Keep w.heap S w1.heap (inL vs S) ∧ (∀ b, S b → inL vs S b) ∧ (∀ k, k < w.heap.size → ¬ obl us k → w1.heap[k]? = w.heap[k]?) := by
  refine ⟨⟨⟨hb.os.trans cx.bel.os, hb.tape.trans cx.bel.tape, hb.output.trans cx.bel.output, Nat.le_trans cx.bel.size hb.size, fun k hk hnn => (hb.block k (by have := cx.size; omega) (fun e => ?_)).trans (cx.bel.block k hk hnn)⟩, fun b h => .inl (cx.sub b h), fun b h => h.elim (fun h => Nat.lt_of_lt_of_le (cx.lt b h) hb.size) (fun h => (hv b h).1), cx.lt0⟩,
    ⟨hb.size, fun b h hnn => ⟨fun hi => hi.elim hnn (fun h2 => ?_), hb.block b h (fun e => hnn (hu b e).1)⟩⟩, fun _ h => .inl h, fun k hk hne => hb.block k hk hne⟩
  · rcases (hu k e).2 with h | h
    · exact hnn h
    · omega
  · rcases (hv b h2).2 with h3 | h3
    · exact hnn (hu b h3).1
    · omega
theorem back_wr {w0 w : World} {W0 Wf S0 S : Off} {us : List Value} (cx : Cx w0 W0 S0 w S) (hu : ∀ k, obl us k → S k ∧ Wr Wf w0 k) {k : Nat} (h : Wr (obl us) w k) : Wr Wf w0 k := by
  rcases h with h | h
  · exact (hu k h).2
  · exact .inr (by have := cx.size; omega)
theorem Els.cut {α : Type} {T : Ty α} {H : Heap} {S : Off} {cs : List Value} {xs : List α} (h : Els T H S cs xs) (k : Nat) : Els T H S (cs.take (k * T.sz)) (xs.take k) := by
  refine ⟨by rw [List.length_take, List.length_take, h.1]; exact (Nat.mul_min_mul_right k xs.length T.sz), fun i x hx => ?_⟩
  have hi : i < k := by
    rcases Nat.lt_or_ge i k with h | h
    · exact h
    · rw [List.getElem?_take_eq_none (by omega)] at hx; cases hx
  rw [List.getElem?_take_of_lt hi] at hx
  have h2 := h.2 i x hx
  have hle : i * T.sz + T.sz ≤ k * T.sz := by rw [← Nat.succ_mul]; exact Nat.mul_le_mul_right _ hi
  rw [List.drop_take, List.take_take, Nat.min_eq_left (by omega)]
  exact h2
end
end Go.V
