/- A slice of the call's own that is cut at its front. Its conditions: none. -/
import Derived.Test.YtjkoiijpmiibpaaVRep
namespace Go.V
open Go.RowKit

/-- Its row has more ahead of it. -/
def OwQ {α : Type} (T : Ty α) (e : TypeId) (M : Off) (H : Heap) (S : Off) (v : Value) (xs : List α) : Prop :=
  ∃ g o pre cap, v = .slice (some ⟨g, o, none⟩) xs.length (cap - pre.length) ∧ Ow T e M H S (.slice (some ⟨g, 0, none⟩) (pre ++ xs).length cap) (pre ++ xs) ∧ (pre.length < cap → o = pre.length * T.sz)
section
variable {α : Type} {T : Ty α} {e : TypeId} {M M' : Off} {H H' : Heap} {S S' : Off} {v u : Value} {xs : List α} {w w1 : World}
theorem OwQ.of {b n c : Nat} (h : Ow T e M H S (.slice (some ⟨b, 0, none⟩) n c) xs) : OwQ T e M H S (.slice (some ⟨b, 0, none⟩) n c) xs := by
  obtain ⟨A, c', hv⟩ := h.form
  simp at hv
  obtain ⟨rfl, rfl, rfl⟩ := hv
  exact ⟨b, 0, [], c, by simp, by simpa using h, fun _ => by simp⟩
theorem OwQ.base (h : OwQ T e M H S v xs) : ∃ g n c ys, (∀ k, v.ownBlock = some k ↔ (Value.slice (some ⟨g, 0, none⟩) n c).ownBlock = some k) ∧ Ow T e M H S (.slice (some ⟨g, 0, none⟩) n c) ys ∧
    ∀ (M1 : Off) (H1 : Heap) (S1 : Off), Ow T e M1 H1 S1 (.slice (some ⟨g, 0, none⟩) n c) ys → OwQ T e M1 H1 S1 v xs := by
  obtain ⟨g, o, pre, cap, rfl, h, ho⟩ := h
  exact ⟨g, _, cap, pre ++ xs, fun k => by simp [Value.ownBlock], h, fun M1 H1 S1 h1 => ⟨g, o, pre, cap, rfl, h1, ho⟩⟩
theorem OwQ.own (h : OwQ T e M H S v xs) : ∀ k, v.ownBlock = some k → S k ∧ M k := by
  obtain ⟨g, n, c, ys, hb, h, _⟩ := h.base
  exact fun k hk => h.own k ((hb k).1 hk)
theorem OwQ.lt (h : OwQ T e M H S v xs) : ∀ k, v.ownBlock = some k → k < H.size := by
  obtain ⟨g, n, c, ys, hb, h, _⟩ := h.base
  exact fun k hk => h.lt k ((hb k).1 hk)
theorem OwQ.keep (h : OwQ T e M H S v xs) (k : Keep H S H' S') (hs : ∀ b, S b → S' b) (hv : ∀ b, v.ownBlock = some b → H'[b]? = H[b]?) : OwQ T e M H' S' v xs := by
  obtain ⟨g, n, c, ys, hb, h, hr⟩ := h.base
  exact hr _ _ _ (h.keep k hs (fun b hk => hv b ((hb b).2 hk)))
theorem OwQ.weak (h : OwQ T e M H S v xs) (hm : ∀ k, v.ownBlock = some k → M' k) : OwQ T e M' H S v xs := by
  obtain ⟨g, n, c, ys, hb, h, hr⟩ := h.base
  exact hr _ _ _ (h.weak (fun k hk => hm k ((hb k).2 hk)))
theorem OwQ.minus (h : OwQ T e M H S v xs) (d : Dis v u) : OwQ T e M H (Go.V.minus S u) v xs := by
  obtain ⟨g, n, c, ys, hb, h, hr⟩ := h.base
  exact hr _ _ _ (h.minus (fun k hk e => d k ((hb k).2 hk) e))
theorem OwQ.ext (h : OwQ T e M w.heap S v xs) (hb : Below w.heap.size w w1) : OwQ T e M w1.heap S v xs := h.keep (Keep.ext S hb) (fun _ h => h) (fun b hv => hb.block b (h.lt b hv))
theorem OwQ.extS {S1 : Off} (h : OwQ T e M w.heap S v xs) (hb : Below w.heap.size w w1) (k : Keep w.heap S w1.heap S1) (hs : ∀ b, S b → S1 b) : OwQ T e M w1.heap S1 v xs := h.keep k hs (fun b hv => hb.block b (h.lt b hv))
theorem OwQ.only {b : Nat} (h : OwQ T e M w.heap S v xs) (ho : Only b w w1) (hS : S b) (hd : v.ownBlock ≠ some b) : OwQ T e M w1.heap S v xs :=
  h.keep (ho.keep hS) (fun _ h => h) (fun k hk => ho.block k (h.lt k hk) (fun e => hd (by rw [← e]; exact hk)))
theorem OwQ.form (h : OwQ T e M H S v xs) : ∃ A c, v = .slice A xs.length c := by
  obtain ⟨g, o, pre, cap, rfl, _⟩ := h
  exact ⟨_, _, rfl⟩
theorem OwQ.cap {A : Option Addr} {n c : Nat} (h : OwQ T e M H S (.slice A n c) xs) : xs.length ≤ c := by
  obtain ⟨g, o, pre, cap, hv, h, _⟩ := h
  simp at hv
  have := h.cap
  simp at this
  omega
theorem OwQ.rdb {A : Option Addr} {n c : Nat} (h : OwQ T e M H S (.slice A n c) xs) : Rdb T H S A xs := by
  obtain ⟨g, o, pre, cap, hv, h, ho⟩ := h
  simp at hv
  obtain ⟨rfl, _, _⟩ := hv
  intro i x hx
  have hi : i < xs.length := (List.getElem?_eq_some_iff.1 hx).1
  have hcap := h.cap
  rw [List.length_append] at hcap
  obtain ⟨b, o2, cs, hA, hr, hc⟩ := h.rdb (pre.length + i) x (by rw [List.getElem?_append_right (by omega), Nat.add_sub_cancel_left]; exact hx)
  simp at hA
  obtain ⟨rfl, rfl⟩ := hA
  refine ⟨g, o, cs, rfl, hr, fun j v hj => ?_⟩
  have := hc j v hj
  rw [ho (by omega), ← Nat.add_mul]
  rwa [Nat.zero_add] at this
/-- s[lo:] -/
theorem OwQ.tail_at {P : Program} {t : TypeId} {lo : Value} {A : Option Addr} {c : Nat} {k : IntKind} {vlo : Int} (ht : P.underlying t = some (.slice e)) (hE : (P.info? e).map (·.size) = some T.sz)
    (hown : OwQ T e M H S (.slice A xs.length c) xs) (hk : slOk xs vlo xs.length = true) (hlo : lo = .int k vlo := by rfl) :
    ∃ A1, (∀ w, (Instr.sliceAt t (.slice A xs.length c) (some lo) none none).run P w = .ok (.slice A1 (cutL xs vlo xs.length).length (c - vlo.toNat)) w) ∧ OwQ T e M H S (.slice A1 (cutL xs vlo xs.length).length (c - vlo.toNat)) (cutL xs vlo xs.length) ∧
      (∀ k, (Value.slice A1 (cutL xs vlo xs.length).length (c - vlo.toNat)).ownBlock = some k ↔ (Value.slice A xs.length c).ownBlock = some k) := by
  subst hlo
  have hcl := cutL_len hk
  simp only [slOk, Bool.and_eq_true, decide_eq_true_eq] at hk
  have hcap := hown.cap
  obtain ⟨inf, hinf, hsz⟩ := Option.map_eq_some_iff.1 hE
  obtain ⟨g, o, pre, cap, hv, h, ho⟩ := hown
  simp at hv
  obtain ⟨rfl, rfl⟩ := hv
  have hcut : cutL xs vlo xs.length = xs.drop vlo.toNat := by unfold cutL; exact List.take_of_length_le (by rw [List.length_drop]; omega)
  refine ⟨some (if cap - pre.length = vlo.toNat then ⟨g, o, none⟩ else ⟨g, o + vlo.toNat * T.sz, none⟩), fun w => ?_, ?_, ?_⟩
  · have b2 := run_sliceBound (P := P) (w := w) k vlo xs.length .sliceB (by omega) (by omega)
    have hadd : (⟨g, o, none⟩ : Addr).add (vlo.toNat * T.sz) = ⟨g, o + vlo.toNat * T.sz, none⟩ := by unfold Addr.add; by_cases hz : vlo.toNat * T.sz = 0 <;> simp [hz]
    have hl : (cutL xs vlo xs.length).length = xs.length - vlo.toNat := by rw [hcl]; omega
    rw [hl]
    simp only [Instr.sliceAt, Instr.slice, Instr.sliceBounds, Sem.run_bind, run_underlying ht, Result.andThen_ok]
    simp [b2, sizeOf, typeInfo, hinf, hsz, hadd]
    split <;> rfl
  · have hp : (pre ++ xs.take vlo.toNat).length = pre.length + vlo.toNat := by rw [List.length_append, List.length_take]; omega
    have hx : (pre ++ xs.take vlo.toNat) ++ cutL xs vlo xs.length = pre ++ xs := by rw [hcut, List.append_assoc, List.take_append_drop]
    refine ⟨g, if cap - pre.length = vlo.toNat then o else o + vlo.toNat * T.sz, pre ++ xs.take vlo.toNat, cap, ?_, by rw [hx]; exact h, fun hlt => ?_⟩
    · rw [hp, Nat.sub_sub]; split <;> rfl
    · rw [hp] at hlt ⊢
      rw [if_neg (by omega), ho (by omega), Nat.add_mul]
  · intro k; split <;> simp [Value.ownBlock]
theorem run_append_room_off {P : Program} (w : World) (t ty e : TypeId) (i : TypeInfo) (ht : P.underlying t = some (.slice e)) (hi : P.info? e = some i)
    (g off sLen sCap : Nat) (cur : Array Value) (hg : w.heap[g]? = some (.cells cur e (0, 0)))
    (a : Addr) (m c : Nat) (news : List Value) (hl : news.length = m * i.size) (hnews : ∀ j u, news[j]? = some u → w.cell? (a.add j) = some u) (h1 : ∀ u ∈ news, u.oneCell' = true)
    (hroom : sLen + m ≤ sCap) (hfit : off + sLen * i.size + news.length ≤ cur.size) :
    (Builtin.append_ #[t, t] ty #[.slice (some ⟨g, off, none⟩) sLen sCap, .slice (some a) m c]).run P w =
      .ok (.slice (some ⟨g, off, none⟩) (sLen + m) sCap) (w.setRow g (cur.toList.take (off + sLen * i.size) ++ news ++ cur.toList.drop (off + sLen * i.size + news.length)).toArray) := by
  have hf := run_firstCells_some (P := P) w i.size m a m c news hl hnews
  have hst := run_storeCells_at P g (off + sLen * i.size) e news 0 cur w hg (by simpa using hfit) h1
  simp only [Nat.add_zero] at hst
  simp [Builtin.append_, run_underlying ht, sizeOf, typeInfo, hi, Builtin.lenOf, hroom, hf, Addr.add_lit, hst]
/-- append onto it, of what reads as a list that is not empty. -/
theorem run_append_q {P : Program} {w : World} (t ty e : TypeId) (bytes : Nat) (z : Value) (ht : P.underlying t = some (.slice e)) (hE : (P.info? e).map (fun i => (i.zero, i.size, i.bytes)) = some (some z, T.sz, bytes)) (hzs : (decide (z.cells.size = T.sz) && decide (0 < T.sz) && decide (0 < bytes)) = true)
    {v : Value} {xs ys : List α} (hown : OwQ T e M w.heap S v xs) {A : Option Addr} {c : Nat} (hy : Rdb T w.heap S A ys) (hne : 0 < ys.length) (hfit : apOk bytes xs ys = true) :
    ∃ v' w1, (Builtin.append_ #[t, t] ty #[v, .slice A ys.length c]).run P w = .ok v' w1 ∧ w.grownBy w1 v.ownBlock ∧ (∀ k, v'.ownBlock = some k → v.ownBlock = some k ∨ w.heap.size ≤ k) ∧
      ∀ S1 : Off, Keep w.heap S w1.heap S1 → ∀ M1 : Off, (∀ k, v'.ownBlock = some k → S1 k ∧ M1 k) → OwQ T e M1 w1.heap S1 v' (xs ++ ys) := by
  obtain ⟨i, hi, hi2⟩ := Option.map_eq_some_iff.1 hE
  simp only [Prod.mk.injEq] at hi2
  obtain ⟨hz, hsz, hby⟩ := hi2
  simp only [Bool.and_eq_true, decide_eq_true_eq] at hzs
  simp only [apOk, decide_eq_true_eq] at hfit
  have hmax : xs.length + ys.length ≤ maxLen := by
    have : xs.length + ys.length ≤ (xs.length + ys.length) * bytes := Nat.le_mul_of_pos_right _ hzs.2
    simp only [maxLen]; omega
  obtain ⟨news, hen, hcells⟩ := Rdb.news (w := w) (xs := ys) (k := 0) (A := A) (T := T) (S := S) (fun i x hx => by
    obtain ⟨b, o, cs, h1, h2, h3⟩ := hy i x hx
    exact ⟨b, o, cs, h1, h2, fun j v hj => by rw [Nat.zero_add]; exact h3 j v hj⟩)
  obtain ⟨b, o', _, hA, _⟩ := hy 0 ys[0] (by simp [hne])
  subst hA
  have hnews : ∀ j u, news[j]? = some u → w.cell? ((⟨b, o', none⟩ : Addr).add j) = some u := by
    intro j u hj
    rw [cell_add1]
    have := hcells b o' rfl j u hj
    simpa using this
  have hrd : ∀ A n c, v = .slice A n c → Rdb T w.heap S A xs := fun A n c e => by subst e; exact hown.rdb
  obtain ⟨g, o, pre, cap, rfl, how, ho⟩ := hown
  have hbase := how
  obtain ⟨hS, cs, ⟨hcl, hrow⟩, hels⟩ := how
  rcases hrow with ⟨hv, _⟩ | ⟨g', cap', cur, hv, hg, hnc, hcm, hcs, htake⟩
  · cases hv
  · simp at hv
    obtain ⟨rfl, rfl⟩ := hv
    simp only [List.length_append] at hnc hcl htake
    by_cases hroom : xs.length + ys.length ≤ cap - pre.length
    · have hoo := ho (by omega)
      have hmul : o + xs.length * i.size + news.length = (pre.length + xs.length + ys.length) * T.sz := by rw [hen.1, hoo, hsz, Nat.add_mul, Nat.add_mul]
      have hle : (pre.length + xs.length + ys.length) * T.sz ≤ cap * T.sz := Nat.mul_le_mul_right _ (by omega)
      have hr := run_append_room_off (P := P) w t ty e i ht hi g o xs.length (cap - pre.length) cur hg ⟨b, o', none⟩ ys.length c news (by rw [hen.1, hsz]) hnews hen.oneCell hroom (by rw [hmul, hcs]; exact hle)
      have hat : o + xs.length * i.size = (pre.length + xs.length) * T.sz := by rw [hoo, hsz, Nat.add_mul]
      rw [hat, htake] at hr
      refine ⟨_, _, hr, ⟨rfl, rfl, rfl, by simp, fun k _ hk => setRow_other w g k _ (fun e => hk (by simp [Value.ownBlock, e]))⟩, fun q hq => .inl (by simpa [Value.ownBlock] using hq), fun S1 k M1 hS1 => ?_⟩
      refine ⟨g, o, pre, cap, by simp, ⟨fun q hq => hS1 q (by simpa [Value.ownBlock] using hq), cs ++ news, ⟨?_, .inr ⟨g, cap, _, rfl, setRow_heap w g cur _ e _ hg, by simp; omega, hcm, ?_, ?_⟩⟩, ?_⟩, ho⟩
      · rw [List.length_append, hcl, hen.1]; simp only [List.length_append]; rw [← Nat.add_mul]; congr 1; omega
      · simp only [List.size_toArray, List.length_append, List.length_drop, Array.length_toList, hcl, hen.1, hcs, ← Nat.add_mul]
        omega
      · have hl2 : (pre ++ (xs ++ ys)).length * T.sz = (cs ++ news).length := by simp only [List.length_append, hcl, hen.1, ← Nat.add_mul]; congr 1; omega
        rw [hl2]
        exact List.take_left
      · rw [← List.append_assoc]
        exact (hels.keep k).append (hen.keep k)
    · have hrx := hrd _ _ _ rfl
      obtain ⟨olds, heo, hco⟩ := Rdb.news (w := w) (xs := xs) (k := 0) (A := some ⟨g, o, none⟩) (T := T) (S := S) (fun i x hx => by
        obtain ⟨b, o, cs, h1, h2, h3⟩ := hrx i x hx
        exact ⟨b, o, cs, h1, h2, fun j v hj => by rw [Nat.zero_add]; exact h3 j v hj⟩)
      have holds : ∀ j u, olds[j]? = some u → w.cell? ((⟨g, o, none⟩ : Addr).add j) = some u := by
        intro j u hj
        rw [cell_add1]
        have := hco g o rfl j u hj
        simpa using this
      obtain ⟨v', w', hrun, h2, h3⟩ := run_append_arg_grows (P := P) w t ty e i z T.sz bytes ht hi hz hsz hby hzs.1.1 hzs.1.2 ⟨g, o, none⟩ xs.length (cap - pre.length) olds heo.1 holds ⟨b, o', none⟩ ys.length c news hen.1 hnews (by omega) hmax hfit
      have hrw := Row.of h2
      refine ⟨v', w', hrun, ⟨h3.os, h3.tape, h3.output, h3.size, fun k hk _ => h3.block k hk (by simp)⟩, fun q hq => .inr (h2.lt q hq).1, fun S1 k M1 hS1 => ?_⟩
      obtain ⟨hl, hrest⟩ := hrw
      rcases hrest with ⟨_, h0⟩ | ⟨g2, cap2, cur2, rfl, hrest⟩
      · omega
      · exact OwQ.of ⟨hS1, olds ++ news, ⟨by rw [show (xs ++ ys).length = xs.length + ys.length from List.length_append]; exact hl, .inr ⟨g2, cap2, cur2, by rw [List.length_append], by rw [show (xs ++ ys).length = xs.length + ys.length from List.length_append]; exact hrest⟩⟩, (heo.keep k).append (hen.keep k)⟩
theorem op_appendQ {P : Program} {ops : Array Oper} {n : Nat} {Q : Exit → Act → World → Prop} {l : FL} {a : Act} {o : Oper} {rest : List Oper} {w0 : World} {W0 Wf S0 : Off} {t : TypeId} {bytes : Nat} {z : Value} {x y : Operand} {ys : List α} {A : Option Addr} {c : Nat} (ha : Ag n l a) (cx : Cx w0 W0 S0 w S) (hf : (gate ops l o == some true && fit n l o) = true)
    (ho : o.op = .call { callee := .builtin .append, args := #[x, y], argTypes := #[t, t] }) (hx : lk l x = v) (hy : lk l y = .slice A ys.length c)
    (ht : P.underlying t = some (.slice e)) (hE : (P.info? e).map (fun i => (i.zero, i.size, i.bytes)) = some (some z, T.sz, bytes)) (hzs : (decide (z.cells.size = T.sz) && decide (0 < T.sz) && decide (0 < bytes)) = true)
    (hW : ∀ k, Wr Wf w0 k → Wr W0 w0 k) (hown : OwQ T e (Wr Wf w0) w.heap S v xs) (hys : Rdb T w.heap S A ys) (hfit : apOk bytes xs ys = true)
    (h : ∀ w1 S1 A1 c1, Cx w0 W0 S0 w1 S1 → Keep w.heap S w1.heap S1 → (∀ b, S b → S1 b) → (∀ k, k < w.heap.size → v.ownBlock ≠ some k → w1.heap[k]? = w.heap[k]?) →
      (∀ k, (Value.slice A1 (xs ++ ys).length c1).ownBlock = some k → v.ownBlock = some k ∨ w.heap.size ≤ k) → OwQ T e (Wr Wf w0) w1.heap S1 (.slice A1 (xs ++ ys).length c1) (xs ++ ys) →
      ∀ a', Ag n (putL l o.dst (.slice A1 (xs ++ ys).length c1)) a' → wpList P ops Q rest a' w1) (hne : 0 < ys.length := by exact Nat.zero_lt_succ _) : wpList P ops Q (o :: rest) a w := by
  obtain ⟨v', w1, hrun, hg, hat, hdone⟩ := run_append_q (P := P) (w := w) t o.type e bytes z ht hE hzs hown hys (c := c) hne hfit
  have hlt := hown.lt
  have hSv : ∀ k, v.ownBlock = some k → S k := fun k hk => (hown.own k hk).1
  have hMf : ∀ k, v.ownBlock = some k → Wr Wf w0 k := fun k hk => (hown.own k hk).2
  have hMv : ∀ k, v.ownBlock = some k → Wr W0 w0 k := fun k hk => hW k (hMf k hk)
  have hkeep : Keep w.heap S w1.heap (inV v' S) := ⟨hg.size, fun b hb hn => ⟨fun hi => by
      rcases hi with hi | hi
      · rcases hat b hi with e | e
        · exact hn (hSv b e)
        · omega
      · exact hn hi, hg.block b hb (fun e => hn (hSv b e.symm))⟩⟩
  have how := hdone (inV v' S) hkeep (Wr Wf w0) (fun k hk => ⟨.inl hk, by
    rcases hat k hk with e | e
    · exact hMf k e
    · have := cx.size; exact .inr (by omega)⟩)
  obtain ⟨A1, c1, rfl⟩ := how.form
  refine op_val ha hf (v := .slice A1 (xs ++ ys).length c1) (w' := w1) ?_ fun a' ha' => h w1 (inV (.slice A1 (xs ++ ys).length c1) S) A1 c1 ?_ hkeep (fun b hb => .inr hb) (fun k hk hne => hg.block k hk (fun e => hne e.symm)) ?_ how a' ha'
  · simp only [execOp, ho, resolve, invoke, builtin, Sem.run_bind, Sem.run_pure, Result.andThen_ok, List.map_toArray, List.map_cons, List.map_nil, hx, hy, hrun]
  · refine ⟨⟨hg.os.trans cx.bel.os, hg.tape.trans cx.bel.tape, hg.output.trans cx.bel.output, Nat.le_trans cx.bel.size hg.size, fun k hk hn => (hg.block k (by have := cx.size; omega) (fun e => ?_)).trans (cx.bel.block k hk hn)⟩, fun b hb => .inr (cx.sub b hb), fun b hb => ?_, cx.lt0⟩
    · rcases hMv k e.symm with h2 | h2
      · exact hn h2
      · omega
    · rcases hb with hb | hb
      · exact how.lt b hb
      · exact Nat.lt_of_lt_of_le (cx.lt b hb) hg.size
  · exact hat
theorem Ow.flatS {S0 : Off} (h : Ow T e M H (inV v S0) v xs) (hfl : ∀ {H S H' S' cs x}, T.R H S cs x → T.R H' S' cs x) : Ow T e M H (inV v S) v xs := by
  obtain ⟨h0, cs, hr, hl, he⟩ := h
  exact ⟨fun k hk => ⟨.inl hk, (h0 k hk).2⟩, cs, hr, hl, fun i x hx => hfl (he i x hx)⟩
end
end Go.V
