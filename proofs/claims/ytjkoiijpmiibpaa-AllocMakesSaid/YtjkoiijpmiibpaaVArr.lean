/- Arrays within a variable of the call's own; a struct put into a field. Its conditions: none. -/
import Derived.Test.YtjkoiijpmiibpaaVMap
namespace Go.V
open Go.RowKit

/-- n truths. -/
abbrev ArrB (n : Nat) := {l : List Bool // l.length = n}
instance (n : Nat) : Inhabited (ArrB n) := ⟨⟨List.replicate n false, List.length_replicate⟩⟩
def arrZ (n : Nat) : ArrB n := ⟨List.replicate n false, List.length_replicate⟩
def arrSet {n : Nat} (a : ArrB n) (i : Int) (v : Bool) : ArrB n := ⟨a.1.set i.toNat v, by rw [List.length_set]; exact a.2⟩
def arrC {n : Nat} (a : ArrB n) : List Value := a.1.map Value.bool
theorem arrC_len {n : Nat} (a : ArrB n) : (arrC a).length = n := by rw [arrC, List.length_map]; exact a.2
theorem arr_get {n : Nat} {a : ArrB n} {cs : List Value} {i : Int} (h : inbN n i = true) : (arrC a ++ cs)[i.toNat]? = some (.bool (gt a.1 i)) := by
  have hh := inbN_iff h
  have hl : i.toNat < a.1.length := by rw [a.2]; omega
  rw [List.getElem?_append_left (by rw [arrC_len]; omega), arrC, List.getElem?_map]
  simp [gt, List.getD_eq_getElem?_getD, hl]
theorem arr_tail {n : Nat} {a : ArrB n} {cs : List Value} {j k : Nat} {v : Value} (hk : k = n + j) (h : cs[j]? = some v) : (arrC a ++ cs)[k]? = some v := by
  subst hk
  rw [List.getElem?_append_right (by rw [arrC_len]; omega), arrC_len, show n + j - n = j by omega]; exact h
theorem arr_set {n : Nat} {a : ArrB n} {cs : List Value} {i : Int} {v : Bool} (h : inbN n i = true) : (arrC a ++ cs).set i.toNat (.bool v) = arrC (arrSet a i v) ++ cs := by
  have hh := inbN_iff h
  rw [List.set_append_left _ _ (by rw [arrC_len]; omega), arrC, arrC, arrSet, List.map_set]
theorem arr_off {n : Nat} {a : ArrB n} {cs : List Value} {i : Int} {v : Bool} (h : inbN n i = true) : (decide (i.toNat < (arrC a ++ cs).length) && (Value.bool v).oneCell') = true := by
  have hh := inbN_iff h
  rw [Bool.and_eq_true, decide_eq_true_eq, List.length_append, arrC_len]
  exact ⟨by omega, rfl⟩

variable {P : Program} {ops : Array Oper} {n : Nat} {Q : Exit → Act → World → Prop} {l : FL} {a : Act} {w : World} {o : Oper} {rest : List Oper}

/-- The address of an element of an array that stands in a variable. -/
theorem ob_aidxF {l : FL} {o : Oper} {T : TypeId} {x ix : Operand} {k : IntKind} {i : Int} {b q m E sz : Nat} (w : World) (ho : o.op = .indexAddr T x ix) (hx : lk l x = .pointer (some ((⟨b, 0, none⟩ : Addr).add q))) (hi : lk l ix = .int k i)
    (hT : P.underlying T = some (.array m E)) (hE : (P.info? E).map (·.size) = some sz) (h0 : 0 ≤ i) (h1 : i < m) :
    (execOp (lk l) o).run P w = .ok (.value (.pointer (some (((⟨b, 0, none⟩ : Addr).add q).add (i.toNat * sz))))) w := by
  obtain ⟨inf, hinf, hsz⟩ := Option.map_eq_some_iff.1 hE
  subst hsz
  simp [execOp, ho, hx, hi, Instr.indexAt, Instr.sureAddr, asIntOf, run_underlying hT, sizeOf, typeInfo, hinf, h0, h1]

def putAt (cs : List Value) (i : Nat) : List Value → List Value
  | [] => cs
  | v :: vs => putAt (cs.set i v) (i + 1) vs
theorem run_storeCells_sub (b : Nat) (t : TypeId) (off : Nat) : ∀ (vs : List Value) (i : Nat) (w : World) (cs : List Value), w.heap[b]? = some (.cells cs.toArray t (0, 0)) → off + i + vs.length ≤ cs.length → (∀ v ∈ vs, v.oneCell' = true) →
    ∃ w1, (storeCells ⟨b, off, none⟩ vs i).run P w = .ok () w1 ∧ Only b w w1 ∧ w1.heap.size = w.heap.size ∧ w1.heap[b]? = some (.cells (putAt cs (off + i) vs).toArray t (0, 0))
  | [], i, w, cs, hb, hl, _ => ⟨w, by simp [storeCells], ⟨rfl, rfl, rfl, Nat.le_refl _, fun _ _ _ => rfl⟩, rfl, hb⟩
  | v :: vs, i, w, cs, hb, hl, h1 => by
    simp only [List.length_cons] at hl
    have hi : off + i < cs.length := by omega
    have hc : w.cell? ⟨b, off + i, none⟩ = some cs[off + i] := by rw [cellH_cell]; unfold cellH; rw [hb]; simp [hi]
    have hf : w.frozen? ⟨b, off + i, none⟩ = false := by simp [World.frozen?, hb]
    have hst := run_store1 (P := P) (w := w) (ad := (⟨b, off, none⟩ : Addr).add i) (by unfold Addr.add; split <;> simp_all) (h1 v (by simp)) hc hf
    obtain ⟨w1, hr, ho, hs, hb1⟩ := run_storeCells_sub b t off vs (i + 1) (w.setCell ⟨b, off + i, none⟩ v) (cs.set (off + i) v) (setCell_block hb) (by simp; omega) (fun u hu => h1 u (by simp [hu]))
    have oc := Only.cell w b (off + i) v
    exact ⟨w1, by simp [storeCells, hst, hr], ⟨ho.os.trans oc.os, ho.tape.trans oc.tape, ho.output.trans oc.output, Nat.le_trans oc.size ho.size, fun k hk hn => (ho.block k (Nat.lt_of_lt_of_le hk oc.size) hn).trans (oc.block k hk hn)⟩, hs.trans (by simp [World.setCell]), hb1⟩
/-- A store of a struct into a field of a variable of the call's own. -/
theorem op_setSub {T : TypeId} {x y : Operand} {b off : Nat} {t : TypeId} {cs vs : List Value} {v : Value} {ad : Addr} (ha : Ag n l a) (hf : (gate ops l o == some true && fit n l o) = true) (ho : o.op = .store T x y)
    (hx : lk l x = .pointer (some ad)) (hy : lk l y = v) (hv : v.cells = vs.toArray) (hb : w.heap[b]? = some (.cells cs.toArray t (0, 0))) (had : ad = ⟨b, off, none⟩) (hl : (decide (off + vs.length ≤ cs.length) && vs.all (·.oneCell')) = true)
    (hsz : (P.info? T).map (·.size) = some vs.length)
    (h : ∀ w1, Only b w w1 → w1.heap[b]? = some (.cells (putAt cs off vs).toArray t (0, 0)) → ∀ a', Ag n (putL l o.dst undef) a' → wpList P ops Q rest a' w1) : wpList P ops Q (o :: rest) a w := by
  simp only [Bool.and_eq_true, decide_eq_true_eq, List.all_eq_true] at hl
  obtain ⟨inf, hinf, hs⟩ := Option.map_eq_some_iff.1 hsz
  subst had
  obtain ⟨w1, hr, hon, hsize, hb1⟩ := run_storeCells_sub (P := P) b t off vs 0 w cs hb (by omega) hl.2
  rw [Nat.add_zero] at hb1
  refine op_skip ha hf (w' := w1) ?_ fun a' ha' => h _ hon hb1 a' ha'
  have e1 : v.cells.size = vs.length := by rw [hv]; simp
  have e2 : v.cells.toList = vs := by rw [hv]
  simp [execOp, ho, hx, hy, Instr.storeAt, Instr.sureAddr, storeVar, e1, e2, sizeOf, typeInfo, hinf, hs, hr]
/-- What is written to lies behind what there was. -/
theorem Sold.only {w0 w w1 : World} {b : Nat} (h : Sold w0 w) (hb : w0.heap.size ≤ b) (hs : w0.heap.size ≤ w.heap.size) (ho : Only b w w1) : Sold w0 w1 :=
  fun k hk => (ho.block k (Nat.lt_of_lt_of_le hk hs) (fun e => by omega)).trans (h k hk)
end Go.V
