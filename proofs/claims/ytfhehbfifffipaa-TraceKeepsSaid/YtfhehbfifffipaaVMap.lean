/- Maps from numbers to numbers, of the call's own; bytes of a constant string; rests. Its conditions: none. -/
import Derived.Test.YtfhehbfifffipaaVSort
import Derived.Lib.SlBytesConst
namespace Go.V
open Go.RowKit

section
variable {P : Program} {ops : Array Oper} {n : Nat} {Q : Exit → Act → World → Prop} {l : FL} {a : Act} {w : World} {o : Oper} {rest : List Oper}

/-- The bytes of a constant string: nobody writes to them. -/
theorem op_bconv {α : Type} {T : Ty α} {w0 : World} {W0 Wf S0 S : Off} {t e : TypeId} {x : Operand} {b c : Nat} {xs : List α} (ha : Ag n l a) (cx : Cx w0 W0 S0 w S) (hf : (gate ops l o == some true && fit n l o) = true)
    (ho : o.op = .convert t t x) (hx : lk l x = .slice (some ⟨b, 0, none⟩) xs.length c) (ht : P.underlying t = some (.slice e)) (he : P.underlying e = some (.int .u8))
    (hW : ∀ k, Wr Wf w0 k → Wr W0 w0 k) (hmine : ∀ k, (Value.slice (some ⟨b, 0, none⟩) xs.length c).ownBlock = some k → ¬ S0 k) (hown : Ow T e (Wr Wf w0) w.heap S (.slice (some ⟨b, 0, none⟩) xs.length c) xs)
    (h : ∀ w1, Cx w0 W0 S0 w1 (minus S (.slice (some ⟨b, 0, none⟩) xs.length c)) → Only b w w1 → Keep w.heap S w1.heap S → Sl T w1.heap (minus S (.slice (some ⟨b, 0, none⟩) xs.length c)) (some ⟨b, 0, none⟩) c xs →
      ∀ a', Ag n (putL l o.dst (.slice (some ⟨b, 0, none⟩) xs.length c)) a' → wpList P ops Q rest a' w1) : wpList P ops Q (o :: rest) a w := by
  have hb := hown.1 b (by simp [Value.ownBlock])
  have hcap := hown.cap
  have hrdb := hown.rdb
  obtain ⟨_, cs, ⟨hl, hrow⟩, hels⟩ := hown
  rcases hrow with ⟨hv, _⟩ | ⟨g, cap, cur, hv, hg, hnc, hm, hcs, htake⟩
  · cases hv
  · simp at hv
    obtain ⟨rfl, rfl⟩ := hv
    have hsh : w.shape? b = some (e, cur.size) := by unfold World.shape?; rw [hg]
    have hfr : (w.freeze ⟨b, cur.size, none⟩ 1).heap[b]? = some (.cells cur e (cur.size, cur.size + 1)) := by
      unfold World.freeze
      rw [if_neg (by decide)]
      simp [Array.getElem?_modify, hg]
    have hon : Only b w (w.freeze ⟨b, cur.size, none⟩ 1) := by
      unfold World.freeze
      rw [if_neg (by decide)]
      exact ⟨rfl, rfl, rfl, by simp, fun k _ hk => by simp [Array.getElem?_modify, Ne.symm hk]⟩
    have hk := hon.keep hb.1
    refine op_val ha hf (v := .slice (some ⟨b, 0, none⟩) xs.length c) (w' := w.freeze ⟨b, cur.size, none⟩ 1) ?_ fun a' ha' => h _ ((hon.cx cx (hW b hb.2)).minus hmine) hon hk ⟨hnc, fun _ => ⟨b, 0, rfl, ?_, ?_⟩, ?_⟩ a' ha'
    · simp [execOp, ho, hx, convert, run_underlying ht, run_underlying he, markStringish, hsh]
    · exact getElem?_lt hfr
    · exact fun hs => hs.2 rfl
    · intro i x hx2
      obtain ⟨b', o', cs', hA, hR, hc⟩ := hrdb i x hx2
      simp at hA
      obtain ⟨rfl, rfl⟩ := hA
      refine ⟨b, 0, cs', rfl, T.keep (hk.trans (Keep.less (fun _ h => h.1))) hR, fun j v hj => ?_⟩
      have := hc j v hj
      unfold cellH at this ⊢
      rw [hg] at this
      rw [hfr]
      exact this
end

/-! Maps. -/
def MapIs (es : List MapEntry) (m : List (Int × Int)) : Prop := es.map (fun e => (e.key, e.val)) = m.map (fun p => (.int .i64 p.1, .int .i64 p.2))
theorem MapIs.cons_inv {e : MapEntry} {es : List MapEntry} {m : List (Int × Int)} (h : MapIs (e :: es) m) : ∃ a b m', m = (a, b) :: m' ∧ e.key = .int .i64 a ∧ e.val = .int .i64 b ∧ MapIs es m' := by
  cases m with
  | nil => simp [MapIs] at h
  | cons p m' => simp [MapIs] at h; exact ⟨p.1, p.2, m', rfl, h.1.1, h.1.2, h.2⟩
/-- A map of the call's own, and one that nobody writes to. -/
def Mp (M : Off) (H : Heap) (S : Off) (r : Nat) (m : List (Int × Int)) : Prop := (∃ es clock, H[r]? = some (.map es clock) ∧ MapIs es.toList m) ∧ S r ∧ M r
def Mr (H : Heap) (S : Off) (r : Nat) (m : List (Int × Int)) : Prop := (∃ es clock, H[r]? = some (.map es clock) ∧ MapIs es.toList m) ∧ ¬ S r

section
variable {M M' : Off} {H H' : Heap} {S S' S0 : Off} {r b : Nat} {m : List (Int × Int)} {w w1 w0 : World} {W0 Wf : Off}
theorem Mp.blk_lt (h : Mp M H S r m) : r < H.size := by obtain ⟨⟨_, _, h1, _⟩, _⟩ := h; exact getElem?_lt h1
theorem Mr.blk_lt (h : Mr H S r m) : r < H.size := by obtain ⟨⟨_, _, h1, _⟩, _⟩ := h; exact getElem?_lt h1
theorem Mr.keep (k : Keep H S H' S') (h : Mr H S r m) : Mr H' S' r m := by
  obtain ⟨h1, h2⟩ := k.blk r h.blk_lt h.2
  obtain ⟨⟨es, cl, he, hm⟩, _⟩ := h
  exact ⟨⟨es, cl, h2.trans he, hm⟩, h1⟩
theorem Mr.minus {u : Value} (h : Mr H S r m) : Mr H (Go.V.minus S u) r m := h.keep (Keep.less (fun _ h => h.1))
theorem Mp.keep (h : Mp M H S r m) (hs : ∀ b, S b → S' b) (hb : H'[r]? = H[r]?) : Mp M H' S' r m := by
  obtain ⟨⟨es, cl, he, hm⟩, h1, h2⟩ := h
  exact ⟨⟨es, cl, hb.trans he, hm⟩, hs r h1, h2⟩
theorem Mp.ext (h : Mp M w.heap S r m) (hb : Below w.heap.size w w1) : Mp M w1.heap S r m := h.keep (fun _ h => h) (hb.block r h.blk_lt)
theorem Mp.extS (h : Mp M w.heap S r m) (hb : Below w.heap.size w w1) (hs : ∀ b, S b → S' b) : Mp M w1.heap S' r m := h.keep hs (hb.block r h.blk_lt)
theorem Mp.lt (h : Mp M H S r m) : ∀ k, (bv r).ownBlock = some k → k < H.size := fun k hk => by cases hk; exact h.blk_lt
theorem Mp.own (h : Mp M H S r m) : ∀ k, (bv r).ownBlock = some k → S k ∧ M k := fun k hk => by cases hk; exact h.2
theorem Mp.only (h : Mp M w.heap S r m) (ho : Only b w w1) (hd : r ≠ b) : Mp M w1.heap S r m := h.keep (fun _ h => h) (ho.block r h.blk_lt hd)
theorem Mp.minus {u : Value} (h : Mp M H S r m) (d : Dis (bv r) u) : Mp M H (Go.V.minus S u) r m := ⟨h.1, ⟨h.2.1, fun e => d r rfl e⟩, h.2.2⟩
theorem Mp.weak (h : Mp M H S r m) (hm : ∀ k, (bv r).ownBlock = some k → M' k) : Mp M' H S r m := ⟨h.1, h.2.1, hm r rfl⟩
theorem Mp.out {vs : List Value} (h : Mp M H S r m) (hv : ∀ k, (bv r).ownBlock = some k → obl vs k) : Mp M H (inL vs S0) r m := ⟨h.1, .inr (hv r rfl), h.2.2⟩
variable {P : Program} {ops : Array Oper} {n : Nat} {Q : Exit → Act → World → Prop} {l : FL} {a : Act} {o : Oper} {rest : List Oper}

end
end Go.V
