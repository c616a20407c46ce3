/- Maps from numbers to numbers, of the call's own; bytes of a constant string; rests. Its conditions: none. -/
import Derived.Test.YtjkoiijpmiibpaaVMore
import Derived.Lib.SlBytesConst
namespace Go.V
open Go.RowKit

section
variable {P : Program} {ops : Array Oper} {n : Nat} {Q : Exit → Act → World → Prop} {l : FL} {a : Act} {w : World} {o : Oper} {rest : List Oper}

end

/-! Maps. -/
def mget : List (Int × Int) → Int → Int
  | [], _ => 0
  | (a, b) :: r, k => if a == k then b else mget r k
def mhas : List (Int × Int) → Int → Bool
  | [], _ => false
  | (a, _) :: r, k => a == k || mhas r k
def mput : List (Int × Int) → Int → Int → List (Int × Int)
  | [], k, v => [(k, v)]
  | (a, b) :: r, k, v => if a == k then (k, v) :: r else (a, b) :: mput r k v
def mdel : List (Int × Int) → Int → List (Int × Int)
  | [], _ => []
  | (a, b) :: r, k => if a == k then r else (a, b) :: mdel r k

def MapIs (es : List MapEntry) (m : List (Int × Int)) : Prop := es.map (fun e => (e.key, e.val)) = m.map (fun p => (.int .i64 p.1, .int .i64 p.2))
theorem MapIs.cons_inv {e : MapEntry} {es : List MapEntry} {m : List (Int × Int)} (h : MapIs (e :: es) m) : ∃ a b m', m = (a, b) :: m' ∧ e.key = .int .i64 a ∧ e.val = .int .i64 b ∧ MapIs es m' := by
  cases m with
  | nil => simp [MapIs] at h
  | cons p m' => simp [MapIs] at h; exact ⟨p.1, p.2, m', rfl, h.1.1, h.1.2, h.2⟩
theorem MapIs.nil_inv {m : List (Int × Int)} (h : MapIs [] m) : m = [] := by simpa [MapIs] using h.symm

/-- What the search among the entries finds. -/
theorem map_find (k : Int) : ∀ (es : List MapEntry) (m : List (Int × Int)), MapIs es m → ∀ i : Nat,
    (Instr.findNow (.int .i64) (.int .i64 k) es i = some none ∧ mhas m k = false ∧ mget m k = 0 ∧ ∀ v, mput m k v = m ++ [(k, v)] ∧ mdel m k = m) ∨
    ∃ j, Instr.findNow (.int .i64) (.int .i64 k) es i = some (some (i + j, .int .i64 (mget m k))) ∧ j < es.length ∧ mhas m k = true ∧ m[j]? = some (k, mget m k) ∧ (∀ v, mput m k v = m.set j (k, v)) ∧ mdel m k = m.eraseIdx j
  | [], m, h, i => by obtain rfl := h.nil_inv; exact .inl ⟨rfl, rfl, rfl, fun v => ⟨rfl, rfl⟩⟩
  | e :: es, m, h, i => by
    obtain ⟨a, b, m', rfl, h1, h2, h3⟩ := h.cons_inv
    by_cases hk : a = k
    · subst hk
      refine .inr ⟨0, ?_, by simp, by simp [mhas], by simp [mget], fun v => by simp [mput], by simp [mdel]⟩
      simp [Instr.findNow, Instr.sameNow, h1, h2, mget]
    · have hk' : (a == k) = false := by simpa using hk
      have hs : Instr.sameNow (.int .i64) (.int .i64 k) e.key = some false := by
        have : ¬ k = a := fun e => hk e.symm
        simp [Instr.sameNow, h1, this]
      rcases map_find k es m' h3 (i + 1) with ⟨f1, f2, f3, f4⟩ | ⟨j, f1, f2, f3, f4, f5, f6⟩
      · refine .inl ⟨?_, by simp [mhas, hk', f2], by simp [mget, hk', f3], fun v => ⟨by simp [mput, hk', (f4 v).1], by simp [mdel, hk', (f4 v).2]⟩⟩
        simp [Instr.findNow, hs, f1]
      · refine .inr ⟨j + 1, ?_, by simp; omega, by simp [mhas, hk', f3], by simp [mget, hk', f4], fun v => by simp [mput, hk', f5 v], by simp [mdel, hk', f6]⟩
        simp [Instr.findNow, hs, f1, mget, hk', Nat.add_assoc, Nat.add_comm 1 j]

/-- A map of the call's own, and one that nobody writes to. -/
def Mp (M : Off) (H : Heap) (S : Off) (r : Nat) (m : List (Int × Int)) : Prop := (∃ es clock, H[r]? = some (.map es clock) ∧ MapIs es.toList m) ∧ S r ∧ M r
def Mr (H : Heap) (S : Off) (r : Nat) (m : List (Int × Int)) : Prop := (∃ es clock, H[r]? = some (.map es clock) ∧ MapIs es.toList m) ∧ ¬ S r

section
variable {M M' : Off} {H H' : Heap} {S S' S0 : Off} {r b : Nat} {m : List (Int × Int)} {w w1 w0 : World} {W0 Wf : Off}
theorem Mp.blk_lt (h : Mp M H S r m) : r < H.size := by obtain ⟨⟨_, _, h1, _⟩, _⟩ := h; exact getElem?_lt h1
theorem Mr.blk_lt (h : Mr H S r m) : r < H.size := by obtain ⟨⟨_, _, h1, _⟩, _⟩ := h; exact getElem?_lt h1
theorem Mr.keep (k : Keep H S H' S') (h : Mr H S r m) : Mr H' S' r m := by
  obtain ⟨h1, h2⟩ := k.blk r h.blk_lt h.2
  obtain ⟨⟨es, cl, he, hm⟩, _⟩ := h
  exact ⟨⟨es, cl, h2.trans he, hm⟩, h1⟩
theorem Mr.minus {u : Value} (h : Mr H S r m) : Mr H (Go.V.minus S u) r m := h.keep (Keep.less (fun _ h => h.1))
theorem Mp.keep (h : Mp M H S r m) (hs : ∀ b, S b → S' b) (hb : H'[r]? = H[r]?) : Mp M H' S' r m := by
  obtain ⟨⟨es, cl, he, hm⟩, h1, h2⟩ := h
  exact ⟨⟨es, cl, hb.trans he, hm⟩, hs r h1, h2⟩
theorem Mp.ext (h : Mp M w.heap S r m) (hb : Below w.heap.size w w1) : Mp M w1.heap S r m := h.keep (fun _ h => h) (hb.block r h.blk_lt)
theorem Mp.extS (h : Mp M w.heap S r m) (hb : Below w.heap.size w w1) (hs : ∀ b, S b → S' b) : Mp M w1.heap S' r m := h.keep hs (hb.block r h.blk_lt)
theorem Mp.lt (h : Mp M H S r m) : ∀ k, (bv r).ownBlock = some k → k < H.size := fun k hk => by cases hk; exact h.blk_lt
theorem Mp.own (h : Mp M H S r m) : ∀ k, (bv r).ownBlock = some k → S k ∧ M k := fun k hk => by cases hk; exact h.2
theorem Mp.only (h : Mp M w.heap S r m) (ho : Only b w w1) (hd : r ≠ b) : Mp M w1.heap S r m := h.keep (fun _ h => h) (ho.block r h.blk_lt hd)
theorem Mp.minus {u : Value} (h : Mp M H S r m) (d : Dis (bv r) u) : Mp M H (Go.V.minus S u) r m := ⟨h.1, ⟨h.2.1, fun e => d r rfl e⟩, h.2.2⟩
theorem Mp.weak (h : Mp M H S r m) (hm : ∀ k, (bv r).ownBlock = some k → M' k) : Mp M' H S r m := ⟨h.1, h.2.1, hm r rfl⟩
theorem Mp.out {vs : List Value} (h : Mp M H S r m) (hv : ∀ k, (bv r).ownBlock = some k → obl vs k) : Mp M H (inL vs S0) r m := ⟨h.1, .inr (hv r rfl), h.2.2⟩
theorem map_own (cx : Cx w0 W0 S0 w S) (hb : Below w.heap.size w w1) (hk : w1.heap[b]? = some (.map #[] 0)) (he : w.heap.size = b) :
    ∃ S1, Cx w0 W0 S0 w1 S1 ∧ Keep w.heap S w1.heap S1 ∧ (∀ b, S b → S1 b) ∧ Mp (Wr W0 w0) w1.heap S1 b [] :=
  ⟨fun k => k = b ∨ S k, (cx.ext hb).more (fun _ h => .inr h) (fun k h => h.elim (fun h => by subst h; exact getElem?_lt hk) ((cx.ext hb).lt k)), ⟨hb.size, fun k h hn => ⟨fun hi => hi.elim (fun h2 => by omega) hn, hb.block k h⟩⟩,
    fun _ h => .inr h, ⟨_, _, hk, rfl⟩, .inl rfl, .inr (by have := cx.size; omega)⟩

variable {P : Program} {ops : Array Oper} {n : Nat} {Q : Exit → Act → World → Prop} {l : FL} {a : Act} {o : Oper} {rest : List Oper}

def MapAt (w : World) (r : Nat) (m : List (Int × Int)) : Prop := ∃ es clock, w.heap[r]? = some (.map es clock) ∧ MapIs es.toList m
theorem MapAt.old {w2 : World} (h : MapAt w r m) (e : w2.heap[r]? = w.heap[r]?) : MapAt w2 r m := by
  obtain ⟨es, cl, he, hm⟩ := h
  exact ⟨es, cl, e.trans he, hm⟩

theorem checkKey_int {em : Bool} {kt : TypeId} {k : Int} (hk : P.underlying kt = some (.int .i64)) (w : World) : (Instr.checkKey em 10000 kt (.int .i64 k)).run P w = .ok () w := by
  show (Instr.checkKey em (9999 + 1) kt (.int .i64 k)).run P w = .ok () w
  generalize 9999 = q
  simp [Instr.checkKey, run_underlying hk]
theorem getObj_map {es : Array MapEntry} {cl : Nat} (h : w.heap[r]? = some (.map es cl)) : (getObj r).run P w = .ok (.map es cl) w := by
  simp [getObj, Sem.run, h]

/-- m[k]. -/
theorem ob_lookup {t kt et : TypeId} {x i : Operand} {ok : Bool} {k : Int} (w : World) (ho : o.op = .lookup t x i ok) (hx : lk l x = .map (some r)) (hi : lk l i = .int .i64 k)
    (ht : P.underlying t = some (.map kt et)) (hk : P.underlying kt = some (.int .i64)) (hz : (P.info? et).map (·.zero) = some (some (.int .i64 0))) (hm : MapAt w r m) :
    (execOp (lk l) o).run P w = .ok (.value (if ok then .tuple #[.int .i64 (mget m k), .bool (mhas m k)] else .int .i64 (mget m k))) w := by
  obtain ⟨es, cl, he, hmi⟩ := hm
  obtain ⟨inf, hinf, hz⟩ := Option.map_eq_some_iff.1 hz
  rcases map_find k es.toList m hmi 0 with ⟨f1, f2, f3, _⟩ | ⟨j, f1, f2, f3, _⟩
  · simp [execOp, ho, hx, hi, Instr.lookup, run_underlying ht, getObj_map he, checkKey_int hk, Instr.findKey, run_underlying hk, f1, f2, f3, zeroValue, typeInfo, hinf, hz]
  · simp [execOp, ho, hx, hi, Instr.lookup, run_underlying ht, getObj_map he, checkKey_int hk, Instr.findKey, run_underlying hk, f1, f3]
theorem ob_lookup1 {t kt et : TypeId} {x i : Operand} {k : Int} (w : World) (ho : o.op = .lookup t x i false) (hx : lk l x = .map (some r)) (hi : lk l i = .int .i64 k)
    (ht : P.underlying t = some (.map kt et)) (hk : P.underlying kt = some (.int .i64)) (hz : (P.info? et).map (·.zero) = some (some (.int .i64 0))) (hm : MapAt w r m) :
    (execOp (lk l) o).run P w = .ok (.value (.int .i64 (mget m k))) w := ob_lookup w ho hx hi ht hk hz hm
theorem ob_lookup2 {t kt et : TypeId} {x i : Operand} {k : Int} (w : World) (ho : o.op = .lookup t x i true) (hx : lk l x = .map (some r)) (hi : lk l i = .int .i64 k)
    (ht : P.underlying t = some (.map kt et)) (hk : P.underlying kt = some (.int .i64)) (hz : (P.info? et).map (·.zero) = some (some (.int .i64 0))) (hm : MapAt w r m) :
    (execOp (lk l) o).run P w = .ok (.value (.tuple #[.int .i64 (mget m k), .bool (mhas m k)])) w := ob_lookup w ho hx hi ht hk hz hm

def setMap (w : World) (r : Nat) (ob : Obj) : World := { w with heap := w.heap.setIfInBounds r ob }
theorem setMap_at {ob ob0 : Obj} (h : w.heap[r]? = some ob0) : (setMap w r ob).heap[r]? = some ob := by
  unfold setMap
  rw [Array.getElem?_setIfInBounds_self_of_lt (getElem?_lt h)]
theorem setMap_only (w : World) (r : Nat) (ob : Obj) : Only r w (setMap w r ob) := ⟨rfl, rfl, rfl, by simp [setMap], fun k _ hk => by simp [setMap, Ne.symm hk]⟩
theorem run_setObj {ob : Obj} {es : Array MapEntry} {cl : Nat} (h : w.heap[r]? = some (.map es cl)) : (setObj r ob).run P w = .ok () (setMap w r ob) := by
  simp [setObj, Sem.run, h, setMap]

theorem keyStays (w : World) (k : Int) : (Instr.keyThatStays (.int .i64 k) (.int .i64 k)).run P w = .ok (.int .i64 k) w := by
  simp [Instr.keyThatStays, Instr.sameBits]

theorem run_mput {t kt et : TypeId} {es : Array MapEntry} {cl : Nat} {k v : Int} (ht : P.underlying t = some (.map kt et)) (hk : P.underlying kt = some (.int .i64)) (he : w.heap[r]? = some (.map es cl)) (hm : MapIs es.toList m) :
    ∃ es' cl', (Instr.mapUpdate t (.map (some r)) (.int .i64 k) (.int .i64 v)).run P w = .ok () (setMap w r (.map es' cl')) ∧ MapIs es'.toList (mput m k v) := by
  rcases map_find k es.toList m hm 0 with ⟨f1, f2, f3, f4⟩ | ⟨j, f1, f2, f3, f4, f5, f6⟩
  · refine ⟨es.push ⟨.int .i64 k, .int .i64 v, cl⟩, cl + 1, ?_, ?_⟩
    · simp [Instr.mapUpdate, run_underlying ht, getObj_map he, checkKey_int hk, Instr.findKey, run_underlying hk, f1, run_setObj he]
    · rw [(f4 v).1]
      simp only [MapIs] at hm ⊢
      simp [hm]
  · have hj : j < es.size := by simpa using f2
    have hkj : es[j].key = .int .i64 k := by
      have h1 : (es.toList.map (fun e => (e.key, e.val)))[j]? = (m.map (fun p => ((.int .i64 p.1, .int .i64 p.2) : Value × Value)))[j]? := by rw [hm]
      rw [List.getElem?_map, List.getElem?_map, f4] at h1
      simp [hj] at h1
      exact h1.1
    refine ⟨es.modify j fun e => { e with key := .int .i64 k, val := .int .i64 v }, cl, ?_, ?_⟩
    · simp [Instr.mapUpdate, run_underlying ht, getObj_map he, checkKey_int hk, Instr.findKey, run_underlying hk, f1, hj, hkj, keyStays, run_setObj he]
    · rw [f5 v]
      simp only [MapIs] at hm ⊢
      rw [Array.toList_modify]
      apply List.ext_getElem?
      intro i
      have h1 : (es.toList.map (fun e => (e.key, e.val)))[i]? = (m.map (fun p => ((.int .i64 p.1, .int .i64 p.2) : Value × Value)))[i]? := by rw [hm]
      rw [List.getElem?_map, List.getElem?_map] at h1
      rw [List.getElem?_map, List.getElem?_map, List.getElem?_modify, List.getElem?_set]
      by_cases e : j = i
      · subst e
        have hl : j < m.length := by
          rcases Nat.lt_or_ge j m.length with h | h
          · exact h
          · rw [List.getElem?_eq_none h] at f4; cases f4
        simp [hj, hl]
      · simp only [e, if_false]
        rw [← h1]
        cases es.toList[i]? <;> rfl
theorem run_mdel {t kt et k2 : TypeId} {ty : TypeId} {es : Array MapEntry} {cl : Nat} {k : Int} (ht : P.underlying t = some (.map kt et)) (hk : P.underlying kt = some (.int .i64)) (he : w.heap[r]? = some (.map es cl)) (hm : MapIs es.toList m) :
    ∃ es' cl', (Builtin.delete_ #[t, k2] ty #[.map (some r), .int .i64 k]).run P w = .ok (.tuple #[]) (setMap w r (.map es' cl')) ∧ MapIs es'.toList (mdel m k) := by
  rcases map_find k es.toList m hm 0 with ⟨f1, f2, f3, f4⟩ | ⟨j, f1, f2, f3, f4, f5, f6⟩
  · refine ⟨es, cl, ?_, ?_⟩
    · simp [Builtin.delete_, run_underlying ht, getObj_map he, checkKey_int hk, Instr.findKey, run_underlying hk, f1, run_setObj he]
    · rw [(f4 0).2]; exact hm
  · have hj : j < es.size := by simpa using f2
    refine ⟨es.eraseIdxIfInBounds j, cl, ?_, ?_⟩
    · simp [Builtin.delete_, run_underlying ht, getObj_map he, checkKey_int hk, Instr.findKey, run_underlying hk, f1, run_setObj he]
    · rw [f6]
      simp only [MapIs] at hm ⊢
      rw [Array.eraseIdxIfInBounds, dif_pos hj, Array.toList_eraseIdx]
      apply List.ext_getElem?
      intro i
      have h1 : ∀ i : Nat, (es.toList.map (fun e => (e.key, e.val)))[i]? = (m.map (fun p => ((.int .i64 p.1, .int .i64 p.2) : Value × Value)))[i]? := fun i => by rw [hm]
      simp only [List.getElem?_map] at h1
      rw [List.getElem?_map, List.getElem?_map, List.getElem?_eraseIdx, List.getElem?_eraseIdx]
      split <;> exact h1 _

/-- m[k] = v. -/
theorem op_mput {t kt et : TypeId} {x i y : Operand} {k v : Int} (ha : Ag n l a) (hf : (gate ops l o == some true && fit n l o) = true) (ho : o.op = .mapUpdate t x i y) (hx : lk l x = .map (some r)) (hi : lk l i = .int .i64 k) (hy : lk l y = .int .i64 v)
    (ht : P.underlying t = some (.map kt et)) (hk : P.underlying kt = some (.int .i64)) (hm : Mp M w.heap S r m)
    (h : ∀ w1, Only r w w1 → Mp M w1.heap S r (mput m k v) → ∀ a', Ag n (putL l o.dst undef) a' → wpList P ops Q rest a' w1) : wpList P ops Q (o :: rest) a w := by
  obtain ⟨⟨es, cl, he, hmi⟩, hS⟩ := hm
  obtain ⟨es', cl', hr, hm'⟩ := run_mput (P := P) (k := k) (v := v) ht hk he hmi
  refine op_skip ha hf (w' := setMap w r (.map es' cl')) ?_ fun a' ha' => h _ (setMap_only w r _) ⟨⟨es', cl', setMap_at he, hm'⟩, hS⟩ a' ha'
  simp [execOp, ho, hx, hi, hy, hr]
/-- delete(m, k). -/
theorem op_mdel {t kt et k2 : TypeId} {x i : Operand} {k : Int} (ha : Ag n l a) (hf : (gate ops l o == some true && fit n l o) = true) (ho : o.op = .call { callee := .builtin .delete, args := #[x, i], argTypes := #[t, k2] }) (hx : lk l x = .map (some r)) (hi : lk l i = .int .i64 k)
    (ht : P.underlying t = some (.map kt et)) (hk : P.underlying kt = some (.int .i64)) (hm : Mp M w.heap S r m)
    (h : ∀ w1, Only r w w1 → Mp M w1.heap S r (mdel m k) → ∀ a', Ag n (putL l o.dst (.tuple #[])) a' → wpList P ops Q rest a' w1) : wpList P ops Q (o :: rest) a w := by
  obtain ⟨⟨es, cl, he, hmi⟩, hS⟩ := hm
  obtain ⟨es', cl', hr, hm'⟩ := run_mdel (P := P) (k2 := k2) (ty := o.type) (k := k) ht hk he hmi
  refine op_val ha hf (v := .tuple #[]) (w' := setMap w r (.map es' cl')) ?_ fun a' ha' => h _ (setMap_only w r _) ⟨⟨es', cl', setMap_at he, hm'⟩, hS⟩ a' ha'
  simp only [execOp, ho, resolve, invoke, builtin, Sem.run_bind, Sem.run_pure, Result.andThen_ok, List.map_toArray, List.map_cons, List.map_nil, hx, hi, hr]
/-- len(m). -/
theorem ob_mlen {t kt et : TypeId} {x : Operand} (w : World) (ht : P.underlying t = some (.map kt et)) (ho : o.op = .call { callee := .builtin .len, args := #[x], argTypes := #[t] }) (hx : lk l x = .map (some r)) (hm : MapAt w r m) :
    (execOp (lk l) o).run P w = .ok (.value (.int .i64 m.length)) w := by
  obtain ⟨es, cl, he, hmi⟩ := hm
  have hl : es.size = m.length := by
    have := congrArg List.length hmi
    simpa using this
  simp only [execOp, ho, resolve, invoke, builtin, Sem.run_bind, Sem.run_pure, Result.andThen_ok, List.map_toArray, List.map_cons, List.map_nil, hx]
  simp [Builtin.len_, run_underlying ht, getObj_map he, hl]
  rfl
/-- make(map). -/
theorem op_mnew {t : TypeId} (ha : Ag n l a) (hf : (gate ops l o == some true && fit n l o) = true) (ho : o.op = .makeMap t none)
    (h : ∀ w1 b, Below w.heap.size w w1 → w1.heap[b]? = some (.map #[] 0) → w.heap.size = b → ∀ a', Ag n (putL l o.dst (.map (some b))) a' → wpList P ops Q rest a' w1) : wpList P ops Q (o :: rest) a w := by
  refine op_val ha hf (v := .map (some w.heap.size)) (w' := { w with heap := w.heap.push (.map #[] 0) }) ?_ fun a' ha' => h { w with heap := w.heap.push (.map #[] 0) } w.heap.size ⟨rfl, rfl, rfl, by simp, fun k hk => by simp [Array.getElem?_push, Nat.ne_of_lt hk]⟩ (by simp) rfl a' ha'
  simp [execOp, ho, Instr.makeMap, newObj, Sem.run]
end
end Go.V
