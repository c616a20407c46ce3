/- More of what code does with slices and variables: cuts in any order of steps, append onto a slice without room, variables that are filled later, pointers that may be nil. Its conditions: none. -/
import Derived.Test.YtjkoiijpmiibpaaVDraw
import Derived.ArgAppend
import Derived.Laws.CopyRow
import Derived.Laws.IdiomCopy
namespace Go.V
open Go.RowKit

section
variable {P : Program} {ops : Array Oper} {n : Nat} {Q : Exit → Act → World → Prop} {l : FL} {a : Act} {w : World} {o : Oper} {rest : List Oper}

theorem ob_slice {t : TypeId} {x : Operand} {lo hi mx : Option Operand} {v : Value} (w : World) (ho : o.op = .slice t x lo hi mx)
    (h : (Instr.sliceAt t (lk l x) (lo.map (lk l)) (hi.map (lk l)) (mx.map (lk l))).run P w = .ok v w) : (execOp (lk l) o).run P w = .ok (.value v) w := by
  simp [execOp, ho, h]

/-- A variable that is laid, and filled a few steps later. -/
theorem var_done {w w1 w2 : World} {b : Nat} (hb : Below w.heap.size w w1) (ho : Only b w1 w2) (he : w.heap.size = b) : Below w.heap.size w w2 :=
  hb.trans ⟨ho.os, ho.tape, ho.output, ho.size, fun k hk => ho.block k (by have := hb.size; omega) (by omega)⟩

theorem pop_at {α : Type} {T : Ty α} {H : Heap} {S M : Off} {t e : TypeId} {hi : Value} {A : Option Addr} {c : Nat} {xs : List α} {k : IntKind} {vhi : Int} (ht : P.underlying t = some (.slice e)) (hE : (P.info? e).map (·.size) = some T.sz)
    (hown : Ow T e M H S (.slice A xs.length c) xs) (hk : slOk xs 0 vhi = true) (hhi : hi = .int k vhi := by rfl) :
    (∀ w, (Instr.sliceAt t (.slice A xs.length c) none (some hi) none).run P w = .ok (.slice A (cutL xs 0 vhi).length c) w) ∧ Ow T e M H S (.slice A (cutL xs 0 vhi).length c) (cutL xs 0 vhi) := by
  subst hhi
  have hk' := hk
  simp only [slOk, Bool.and_eq_true, decide_eq_true_eq] at hk'
  obtain ⟨⟨_, h1⟩, h2⟩ := hk'
  have hcap := hown.cap
  have hlen := cutL_len hk
  obtain ⟨inf, hinf, hsz⟩ := Option.map_eq_some_iff.1 hE
  refine ⟨fun w => ?_, hown.take h1 h2⟩
  have b2 := run_sliceBound (P := P) (w := w) k vhi c .sliceAcap (by omega) (by omega)
  simp only [Instr.sliceAt, Instr.slice, Instr.sliceBounds, Sem.run_bind, run_underlying ht, Result.andThen_ok]
  simp [b2, sizeOf, typeInfo, hinf, hsz, hlen]
  cases A <;> simp [Addr.add]
theorem ob_isnil {t t2 : TypeId} {x : Operand} {e : TypeId} {A : Option Addr} {nn c : Nat} (w : World) (ho : o.op = .binOp .eql t x (.const (.slice none 0 0)) t2) (hx : lk l x = .slice A nn c)
    (ht : P.underlying t = some (.slice e)) : (execOp (lk l) o).run P w = .ok (.value (.bool A.isNone)) w := by
  have h1 : (binOp .eql t (.slice A nn c) (.slice none 0 0)).run P w = .ok (.bool A.isNone) w := by simp only [binOp]; simp [run_equal_slice_nil w t e A nn c ht]
  have h3 : (eqGuard .eql t x (.const (.slice none 0 0)) (.slice A nn c) (.slice none 0 0)).run P w = .ok () w := by simp [eqGuard]
  have hc : lk l (.const (.slice none 0 0)) = .slice none 0 0 := rfl
  simp only [execOp, ho, hx, hc, Sem.run_bind, h3, h1, Result.andThen_ok, Sem.run_pure]
theorem sl_isnone {α : Type} {T : Ty α} {H : Heap} {S : Off} {A : Option Addr} {c : Nat} {xs : List α} (h : Sl T H S A c xs) (hA : A.isNone = true) : xs = [] := by
  cases xs with
  | nil => rfl
  | cons y ys => obtain ⟨b, o, hA2, _⟩ := h.2.1 (by simp); rw [hA2] at hA; cases hA
/-- A pointer to a struct that nobody writes to, or nil. -/
def Pt {α : Type} (T : Ty α) (t : TypeId) (H : Heap) (S : Off) (r : Option α) (v : Value) : Prop :=
  match r with
  | none => v = .pointer none
  | some x => ∃ b cs, v = .pointer (some ⟨b, 0, none⟩) ∧ Bx H S b t cs ∧ T.R H S cs x
theorem Pt.keep {α : Type} {T : Ty α} {t : TypeId} {H H' : Heap} {S S' : Off} {r : Option α} {v : Value} (k : Keep H S H' S') (h : Pt T t H S r v) : Pt T t H' S' r v := by
  cases r with
  | none => exact h
  | some x => obtain ⟨b, cs, h1, h2, h3⟩ := h; exact ⟨b, cs, h1, h2.keep k, T.keep k h3⟩
theorem Pt.get {α : Type} {T : Ty α} {t : TypeId} {H : Heap} {S : Off} {r : Option α} {x : α} {v : Value} (h : Pt T t H S r v) (hr : r = some x) : ∃ b cs, v = .pointer (some ⟨b, 0, none⟩) ∧ Bx H S b t cs ∧ T.R H S cs x := by
  subst hr; exact h
theorem Pt.none {α : Type} {T : Ty α} {t : TypeId} {H : Heap} {S : Off} : Pt T t H S Option.none (.pointer Option.none) := rfl
/-- The blocks of a list of things of the call's own. -/
def obl (vs : List Value) : Off := fun k => ∃ v ∈ vs, v.ownBlock = some k
def inL (vs : List Value) (S : Off) : Off := fun k => S k ∨ obl vs k
theorem obl_at {vs : List Value} {v : Value} {k : Nat} (i : Nat) (h : vs[i]? = some v) (hk : v.ownBlock = some k) : obl vs k := ⟨v, List.mem_of_getElem? h, hk⟩
theorem obl_nil {k : Nat} : ¬ obl [] k := fun ⟨_, h, _⟩ => by cases h
theorem obl_cons {v : Value} {vs : List Value} {k : Nat} (h : v.ownBlock ≠ some k) (t : ¬ obl vs k) : ¬ obl (v :: vs) k := fun ⟨u, hu, hk⟩ => by
  rcases List.mem_cons.1 hu with rfl | hu
  · exact h hk
  · exact t ⟨u, hu, hk⟩
/-- What holds of each block of each. -/
theorem all_nil {C : Nat → Prop} : ∀ k, obl [] k → C k := fun _ h => absurd h obl_nil
theorem all_cons {C : Nat → Prop} {v : Value} {vs : List Value} (h : ∀ k, v.ownBlock = some k → C k) (t : ∀ k, obl vs k → C k) : ∀ k, obl (v :: vs) k → C k := fun k ⟨u, hu, hk⟩ => by
  rcases List.mem_cons.1 hu with rfl | hu
  · exact h k hk
  · exact t k ⟨u, hu, hk⟩
theorem inL_sub {vs : List Value} {S S' : Off} (hs : ∀ k, S k → S' k) (h : ∀ k, obl vs k → S' k) : ∀ k, inL vs S k → S' k := fun k hk => hk.elim (hs k) (h k)
theorem Mb.own {M : Off} {H : Heap} {S : Off} {b : Nat} {t : TypeId} {cs : List Value} (h : Mb M H S b t cs) : ∀ k, (bv b).ownBlock = some k → S k ∧ M k := fun k hk => by cases hk; exact h.2
theorem Mb.asBx {M : Off} {H : Heap} {S : Off} {b : Nat} {t : TypeId} {cs : List Value} (h : Mb M H S b t cs) : Bx H (Go.V.minus S (bv b)) b t cs := ⟨h.1, fun e => e.2 rfl⟩
theorem Mb.weak {M M' : Off} {H : Heap} {S : Off} {b : Nat} {t : TypeId} {cs : List Value} (h : Mb M H S b t cs) (hm : ∀ k, (bv b).ownBlock = some k → M' k) : Mb M' H S b t cs := ⟨h.1, h.2.1, hm b rfl⟩
theorem Ow.out {α : Type} {T : Ty α} {e : TypeId} {M : Off} {H : Heap} {S S0 : Off} {v : Value} {xs : List α} {vs : List Value} (h : Ow T e M H S v xs) (hs : ∀ k, inL vs S0 k → S k) (hv : ∀ k, v.ownBlock = some k → obl vs k) : Ow T e M H (inL vs S0) v xs :=
  h.keepS hs (fun b hb => .inr (hv b hb))
theorem Mb.out {M : Off} {H : Heap} {S S0 : Off} {b : Nat} {t : TypeId} {cs : List Value} {vs : List Value} (h : Mb M H S b t cs) (hv : ∀ k, (bv b).ownBlock = some k → obl vs k) : Mb M H (inL vs S0) b t cs := ⟨h.1, .inr (hv b rfl), h.2.2⟩
theorem BelW.refl (W0 : Off) (w : World) : BelW W0 w w := ⟨rfl, rfl, rfl, Nat.le_refl _, fun _ _ _ => rfl⟩

/-- Things of the call's own were handed over, and came back. -/
theorem back {w0 w w1 : World} {W0 S0 S : Off} {us vs : List Value} (cx : Cx w0 W0 S0 w S) (hu : ∀ k, obl us k → S k ∧ Wr W0 w0 k) (hb : BelW (obl us) w w1) (hv : ∀ k, obl vs k → k < w1.heap.size ∧ Wr (obl us) w k) :
    Cx w0 W0 S0 w1 (inL vs S) ∧ Keep w.heap S w1.heap (inL vs S) ∧ (∀ b, S b → inL vs S b) ∧ (∀ k, k < w.heap.size → ¬ obl us k → w1.heap[k]? = w.heap[k]?) := by
  refine ⟨⟨⟨hb.os.trans cx.bel.os, hb.tape.trans cx.bel.tape, hb.output.trans cx.bel.output, Nat.le_trans cx.bel.size hb.size, fun k hk hnn => (hb.block k (by have := cx.size; omega) (fun e => ?_)).trans (cx.bel.block k hk hnn)⟩, fun b h => .inl (cx.sub b h), fun b h => h.elim (fun h => Nat.lt_of_lt_of_le (cx.lt b h) hb.size) (fun h => (hv b h).1), cx.lt0⟩,
    ⟨hb.size, fun b h hnn => ⟨fun hi => hi.elim hnn (fun h2 => ?_), hb.block b h (fun e => hnn (hu b e).1)⟩⟩, fun _ h => .inl h, fun k hk hne => hb.block k hk hne⟩
  · rcases (hu k e).2 with h | h
    · exact hnn h
    · omega
  · rcases (hv b h2).2 with h3 | h3
    · exact hnn (hu b h3).1
    · omega
theorem back_wr {w0 w : World} {W0 Wf S0 S : Off} {us : List Value} (cx : Cx w0 W0 S0 w S) (hu : ∀ k, obl us k → S k ∧ Wr Wf w0 k) {k : Nat} (h : Wr (obl us) w k) : Wr Wf w0 k := by
  rcases h with h | h
  · exact (hu k h).2
  · exact .inr (by have := cx.size; omega)
def copyL {α : Type} (xs ys : List α) : List α := ys.take xs.length ++ xs.drop ys.length
theorem copyL_len {α : Type} (xs ys : List α) : (copyL xs ys).length = xs.length := by simp only [copyL, List.length_append, List.length_take, List.length_drop]; omega
theorem Els.cut {α : Type} {T : Ty α} {H : Heap} {S : Off} {cs : List Value} {xs : List α} (h : Els T H S cs xs) (k : Nat) : Els T H S (cs.take (k * T.sz)) (xs.take k) := by
  refine ⟨by rw [List.length_take, List.length_take, h.1]; exact (Nat.mul_min_mul_right k xs.length T.sz), fun i x hx => ?_⟩
  have hi : i < k := by
    rcases Nat.lt_or_ge i k with h | h
    · exact h
    · rw [List.getElem?_take_eq_none (by omega)] at hx; cases hx
  rw [List.getElem?_take_of_lt hi] at hx
  have h2 := h.2 i x hx
  have hle : i * T.sz + T.sz ≤ k * T.sz := by rw [← Nat.succ_mul]; exact Nat.mul_le_mul_right _ hi
  rw [List.drop_take, List.take_take, Nat.min_eq_left (by omega)]
  exact h2
theorem Els.tail {α : Type} {T : Ty α} {H : Heap} {S : Off} {cs : List Value} {xs : List α} (h : Els T H S cs xs) (k : Nat) : Els T H S (cs.drop (k * T.sz)) (xs.drop k) := by
  refine ⟨by rw [List.length_drop, List.length_drop, h.1, Nat.sub_mul], fun i x hx => ?_⟩
  rw [List.getElem?_drop] at hx
  have h2 := h.2 _ x hx
  rw [List.drop_drop, ← Nat.add_mul]
  exact h2

/-- copy, of one-cell elements, onto a slice of the call's own. -/
theorem op_copy {α : Type} {T : Ty α} {w0 : World} {W0 Wf S0 S : Off} {t e : TypeId} {x y : Operand} {A B : Option Addr} {c d : Nat} {xs ys : List α} (ha : Ag n l a) (cx : Cx w0 W0 S0 w S) (hf : (gate ops l o == some true && fit n l o) = true)
    (ho : o.op = .call { callee := .builtin .copy, args := #[x, y], argTypes := #[t, t] }) (hx : lk l x = .slice A xs.length c) (hy : lk l y = .slice B ys.length d) (ht : P.underlying t = some (.slice e)) (hE : (P.info? e).map (·.size) = some 1) (hT : T.sz = 1)
    (hW : ∀ k, Wr Wf w0 k → Wr W0 w0 k) (hown : Ow T e (Wr Wf w0) w.heap S (.slice A xs.length c) xs) (hys : Rdb T w.heap S B ys)
    (h : ∀ w1, Cx w0 W0 S0 w1 S → (∀ k, k < w.heap.size → (Value.slice A xs.length c).ownBlock ≠ some k → w1.heap[k]? = w.heap[k]?) → Keep w.heap S w1.heap S → Ow T e (Wr Wf w0) w1.heap S (.slice A xs.length c) (copyL xs ys) →
      ∀ a', Ag n (putL l o.dst (.int .i64 (Nat.min ys.length xs.length : Nat))) a' → wpList P ops Q rest a' w1) : wpList P ops Q (o :: rest) a w := by
  have fin : ∀ (w1 : World) (m : Nat), (Builtin.copy_ #[t, t] o.type #[.slice A xs.length c, .slice B ys.length d]).run P w = .ok (goInt m) w1 → m = Nat.min ys.length xs.length →
      Cx w0 W0 S0 w1 S → (∀ k, k < w.heap.size → (Value.slice A xs.length c).ownBlock ≠ some k → w1.heap[k]? = w.heap[k]?) → Keep w.heap S w1.heap S → Ow T e (Wr Wf w0) w1.heap S (.slice A xs.length c) (copyL xs ys) → wpList P ops Q (o :: rest) a w := by
    intro w1 m hr hm h1 h2 h3 h4
    refine op_val ha hf (v := .int .i64 (Nat.min ys.length xs.length : Nat)) (w' := w1) ?_ fun a' ha' => h w1 h1 h2 h3 h4 a' ha'
    subst hm
    simp only [execOp, ho, resolve, invoke, builtin, Sem.run_bind, Sem.run_pure, Result.andThen_ok, List.map_toArray, List.map_cons, List.map_nil, hx, hy, hr]
    rfl
  by_cases h0 : Nat.min ys.length xs.length = 0
  · refine fin w 0 (run_copy_none w t t o.type e A B xs.length c ys.length d ht hE h0) h0.symm cx (fun _ _ _ => rfl) (Keep.refl _ _) ?_
    have : copyL xs ys = xs := by
      rcases Nat.eq_zero_or_pos xs.length with hz | hz
      · have := List.eq_nil_of_length_eq_zero hz; subst this; simp [copyL]
      · have hy0 : ys.length = 0 := by
          rcases Nat.le_total ys.length xs.length with hle | hle
          · rwa [show Nat.min ys.length xs.length = ys.length from Nat.min_eq_left hle] at h0
          · rw [show Nat.min ys.length xs.length = xs.length from Nat.min_eq_right hle] at h0; omega
        have := List.eq_nil_of_length_eq_zero hy0; subst this; simp [copyL]
    rw [this]; exact hown
  · have hxp : 0 < xs.length := by
      rcases Nat.eq_zero_or_pos xs.length with hz | hz
      · exact absurd (by rw [hz]; exact Nat.min_zero _) h0
      · exact hz
    have hyp : 0 < ys.length := by
      rcases Nat.eq_zero_or_pos ys.length with hz | hz
      · exact absurd (by rw [hz]; exact Nat.zero_min _) h0
      · exact hz
    obtain ⟨b, off, _, hB, _⟩ := hys 0 ys[0] (by simp [hyp])
    subst hB
    obtain ⟨news, hen, hcells⟩ := Rdb.news (w := w) (xs := ys) (k := 0) (A := some ⟨b, off, none⟩) (T := T) (S := S) (fun i x hx => by
      obtain ⟨b, o, cs, h1, h2, h3⟩ := hys i x hx
      exact ⟨b, o, cs, h1, h2, fun j v hj => by rw [Nat.zero_add]; exact h3 j v hj⟩)
    have hlt := hown.lt
    obtain ⟨hs0, cs, ⟨hcl, hrow⟩, hels⟩ := hown
    rcases hrow with ⟨hv, hz⟩ | ⟨g, cap, cur, hv, hg, hnc, hm, hcs, htake⟩
    · omega
    · simp at hv
      obtain ⟨rfl, rfl⟩ := hv
      rw [hT, Nat.mul_one] at hcl hcs htake
      have hnl : news.length = ys.length := by rw [hen.1, hT, Nat.mul_one]
      have hml : (news.take xs.length).length = Nat.min ys.length xs.length := by rw [List.length_take, hnl]; exact Nat.min_comm _ _
      have hr := run_copy_row (P := P) w t t o.type e g 0 xs.length c ⟨b, off, none⟩ ys.length d cur e (news.take xs.length) ht hE hg hml (fun j v hj => by
        rw [cell_add1]
        have hj' : news[j]? = some v := by
          rcases Nat.lt_or_ge j xs.length with h | h
          · rwa [List.getElem?_take_of_lt h] at hj
          · rw [List.getElem?_take_eq_none h] at hj; cases hj
        have := hcells b off rfl j v hj'
        simpa using this) (by rw [hml, hcs, Nat.zero_add]; exact Nat.le_trans (Nat.min_le_right _ _) hnc) (fun v hv => hen.oneCell v (List.mem_of_mem_take hv))
      simp only [List.take_zero, List.nil_append, Nat.zero_add] at hr
      have hgS := hs0 g (by simp [Value.ownBlock])
      have hgl := getElem?_lt hg
      have hon : Only g w (w.setRow g (news.take xs.length ++ cur.toList.drop (news.take xs.length).length).toArray) := ⟨rfl, rfl, rfl, by simp [World.setRow], fun k _ hk => by simp [World.setRow, Array.getElem?_modify, Ne.symm hk]⟩
      have hk := hon.keep hgS.1
      refine fin _ _ hr hml (hon.cx cx (hW _ hgS.2)) (fun k hk hne => hon.block k hk (fun e => hne (by rw [e]; simp [Value.ownBlock]))) hk ⟨hs0, news.take xs.length ++ cs.drop ys.length, ⟨?_, .inr ⟨g, c, (news.take xs.length ++ cur.toList.drop (news.take xs.length).length).toArray, by rw [copyL_len], setRow_heap w g cur _ e _ hg, by rw [copyL_len]; exact hnc, hm, ?_, ?_⟩⟩, ?_⟩
      · rw [copyL_len, hT, Nat.mul_one, List.length_append, hml, List.length_drop, hcl]
        rcases Nat.le_total ys.length xs.length with hle | hle
        · rw [show Nat.min ys.length xs.length = ys.length from Nat.min_eq_left hle]; omega
        · rw [show Nat.min ys.length xs.length = xs.length from Nat.min_eq_right hle]; omega
      · have h9 : (news.take xs.length).length ≤ c := by rw [hml]; exact Nat.le_trans (Nat.min_le_right _ _) hnc
        simp only [hT, Nat.mul_one, List.size_toArray, List.length_append, List.length_drop, Array.length_toList, hcs]
        omega
      · rw [copyL_len, hT, Nat.mul_one]
        show List.take xs.length (news.take xs.length ++ cur.toList.drop (news.take xs.length).length) = _
        rw [List.take_append, List.take_take, Nat.min_self, ← htake]
        congr 1
        rw [List.drop_take]
        rcases Nat.le_total ys.length xs.length with hle | hle
        · have : (news.take xs.length).length = ys.length := by rw [hml]; exact Nat.min_eq_left hle
          rw [this]
        · have : (news.take xs.length).length = xs.length := by rw [hml]; exact Nat.min_eq_right hle
          rw [this, Nat.sub_self, List.take_zero, Nat.sub_eq_zero_of_le hle, List.take_zero]
      · have h1 := (hen.keep hk).cut xs.length
        have h2 := (hels.keep hk).tail ys.length
        rw [hT, Nat.mul_one] at h1 h2
        exact h1.append h2
end
end Go.V
