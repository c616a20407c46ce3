/- More of what code does with slices and variables: cuts in any order of steps, append onto a slice without room, variables that are filled later, pointers that may be nil. Its conditions: none. -/
import Derived.Test.YtfhehbfifffipaaVDraw
import Derived.ArgAppend
import Derived.Laws.CopyRow
import Derived.Laws.IdiomCopy
namespace Go.V
open Go.RowKit

section
variable {P : Program} {ops : Array Oper} {n : Nat} {Q : Exit → Act → World → Prop} {l : FL} {a : Act} {w : World} {o : Oper} {rest : List Oper}

/-- A cut of a slice that nobody writes to. -/
theorem slice_at {α : Type} {T : Ty α} {H : Heap} {S : Off} {t e : TypeId} {lo hi mx : Option Value} {A : Option Addr} {c : Nat} {xs : List α} {vlo vhi vmx : Int}
    (ht : P.underlying t = some (.slice e)) (hE : (P.info? e).map (·.size) = some T.sz) (hs : Sl T H S A c xs)
    (hlo : (match lo with | none => vlo = 0 | some y => ∃ k, y = .int k vlo)) (hhi : (match hi with | none => vhi = xs.length ∧ mx = none | some y => ∃ k, y = .int k vhi)) (hmx : (match mx with | none => vmx = c | some y => ∃ k, y = .int k vmx))
    (hk : slOk xs vlo vhi = true) (hm : (mx = none ∨ (vhi ≤ vmx ∧ vmx ≤ xs.length))) :
    ∃ A1, (∀ w, (Instr.sliceAt t (.slice A xs.length c) lo hi mx).run P w = .ok (.slice A1 (cutL xs vlo vhi).length (vmx - vlo).toNat) w) ∧ Sl T H S A1 (vmx - vlo).toNat (cutL xs vlo vhi) := by
  have hk' := hk
  simp only [slOk, Bool.and_eq_true, decide_eq_true_eq] at hk'
  obtain ⟨⟨h0, h1⟩, h2⟩ := hk'
  have hcap := hs.1
  obtain ⟨inf, hinf, hsz⟩ := Option.map_eq_some_iff.1 hE
  have hmc : vhi ≤ vmx ∧ vmx ≤ c := by
    cases mx with
    | none => simp only at hmx; omega
    | some y =>
      rcases hm with hm | hm
      · cases hm
      · omega
  have hlen := cutL_len hk
  refine ⟨if vmx.toNat = vlo.toNat then A else A.map (·.add (vlo.toNat * T.sz)), fun w => ?_, hs.cut (m := (vmx - vlo).toNat) (c' := (vmx - vlo).toNat) hk (by omega) ?_⟩
  · have e1 : vhi.toNat - vlo.toNat = (vhi - vlo).toNat := by omega
    have e2 : vmx.toNat - vlo.toNat = (vmx - vlo).toNat := by omega
    rw [hlen]
    unfold Instr.sliceAt Instr.slice
    simp only [Sem.run_bind, run_underlying ht, Result.andThen_ok]
    have hbounds : (Instr.sliceBounds true xs.length c lo hi mx).run P w = .ok (vlo.toNat, vhi.toNat, vmx.toNat) w := by
      unfold Instr.sliceBounds
      cases mx with
      | none =>
        simp only at hmx
        cases hi with
        | none =>
          simp only at hhi
          cases lo with
          | none => simp only at hlo; subst hlo; simp [hhi.1, hmx]
          | some y =>
            obtain ⟨k, rfl⟩ := hlo
            have := run_sliceBound (P := P) (w := w) k vlo xs.length .sliceB h0 (by omega)
            simp [hhi.1, hmx, this]
        | some z =>
          obtain ⟨k2, rfl⟩ := hhi
          have b2 := run_sliceBound (P := P) (w := w) k2 vhi c .sliceAcap (by omega) (by omega)
          cases lo with
          | none => simp only at hlo; subst hlo; simp [hmx, b2]
          | some y =>
            obtain ⟨k, rfl⟩ := hlo
            have b1 := run_sliceBound (P := P) (w := w) k vlo vhi.toNat .sliceB h0 (by omega)
            simp [hmx, b1, b2]
      | some q =>
        obtain ⟨k3, rfl⟩ := hmx
        have b3 := run_sliceBound (P := P) (w := w) k3 vmx c .slice3Acap (by omega) (by omega)
        cases hi with
        | none => exact absurd hhi.2 (by simp)
        | some z =>
          obtain ⟨k2, rfl⟩ := hhi
          have b2 := run_sliceBound (P := P) (w := w) k2 vhi vmx.toNat .slice3B (by omega) (by omega)
          cases lo with
          | none => simp only at hlo; subst hlo; simp [b2, b3]
          | some y =>
            obtain ⟨k, rfl⟩ := hlo
            have b1 := run_sliceBound (P := P) (w := w) k vlo vhi.toNat .slice3C h0 (by omega)
            simp [b1, b2, b3]
    simp only [hbounds, Result.andThen_ok, sizeOf, typeInfo, Sem.run_bind]
    simp [hinf, hsz, e1, e2]
  · by_cases hz : vmx.toNat = vlo.toNat
    · right
      refine ⟨by omega, List.eq_nil_of_length_eq_zero (by rw [hlen]; omega)⟩
    · left; rw [if_neg hz]
theorem ob_slice {t : TypeId} {x : Operand} {lo hi mx : Option Operand} {v : Value} (w : World) (ho : o.op = .slice t x lo hi mx)
    (h : (Instr.sliceAt t (lk l x) (lo.map (lk l)) (hi.map (lk l)) (mx.map (lk l))).run P w = .ok v w) : (execOp (lk l) o).run P w = .ok (.value v) w := by
  simp [execOp, ho, h]

/-- A variable that is laid, and filled a few steps later. -/
theorem var_done {w w1 w2 : World} {b : Nat} (hb : Below w.heap.size w w1) (ho : Only b w1 w2) (he : w.heap.size = b) : Below w.heap.size w w2 :=
  hb.trans ⟨ho.os, ho.tape, ho.output, ho.size, fun k hk => ho.block k (by have := hb.size; omega) (by omega)⟩

/-- append onto a slice that has no room: what is told of it afterwards is but that it reads so. -/
theorem op_appendF {α : Type} {T : Ty α} {w0 : World} {W0 S0 S : Off} {t e : TypeId} {bytes : Nat} {z : Value} {x y : Operand} {xs ys : List α} {A B : Option Addr} {c d : Nat} (ha : Ag n l a) (cx : Cx w0 W0 S0 w S) (hf : (gate ops l o == some true && fit n l o) = true)
    (ho : o.op = .call { callee := .builtin .append, args := #[x, y], argTypes := #[t, t] }) (hx : lk l x = .slice B xs.length d) (hy : lk l y = .slice A ys.length c)
    (ht : P.underlying t = some (.slice e)) (hE : (P.info? e).map (fun i => (i.zero, i.size, i.bytes)) = some (some z, T.sz, bytes)) (hzs : (decide (z.cells.size = T.sz) && decide (0 < T.sz) && decide (0 < bytes)) = true)
    (hxs : Sl T w.heap S B d xs) (hd : d ≤ xs.length) (hys : Rdb T w.heap S A ys) (hfit : apOk bytes xs ys = true)
    (h : ∀ w1 A1 c1, Below w.heap.size w w1 → Sl T w1.heap S A1 c1 (xs ++ ys) → ∀ a', Ag n (putL l o.dst (.slice A1 (xs ++ ys).length c1)) a' → wpList P ops Q rest a' w1) : wpList P ops Q (o :: rest) a w := by
  obtain ⟨i, hi, hi2⟩ := Option.map_eq_some_iff.1 hE
  simp only [Prod.mk.injEq] at hi2
  obtain ⟨hz, hsz, hby⟩ := hi2
  simp only [Bool.and_eq_true, decide_eq_true_eq] at hzs
  simp only [apOk, decide_eq_true_eq] at hfit
  have hd2 := hxs.1
  have hdd : d = xs.length := by omega
  have hmax : xs.length + ys.length ≤ maxLen := by
    have : xs.length + ys.length ≤ (xs.length + ys.length) * bytes := Nat.le_mul_of_pos_right _ hzs.2
    simp only [maxLen]; omega
  have fin : ∀ (v' : Value) (w1 : World), (Builtin.append_ #[t, t] o.type #[.slice B xs.length d, .slice A ys.length c]).run P w = .ok v' w1 → ∀ A1 c1, v' = .slice A1 (xs ++ ys).length c1 → Below w.heap.size w w1 → Sl T w1.heap S A1 c1 (xs ++ ys) → wpList P ops Q (o :: rest) a w := by
    rintro v' w1 hrun A1 c1 rfl hb hsl
    refine op_val ha hf (v := .slice A1 (xs ++ ys).length c1) (w' := w1) ?_ fun a' ha' => h w1 A1 c1 hb hsl a' ha'
    simp only [execOp, ho, resolve, invoke, builtin, Sem.run_bind, Sem.run_pure, Result.andThen_ok, List.map_toArray, List.map_cons, List.map_nil, hx, hy, hrun]
  rcases Nat.eq_zero_or_pos ys.length with h0 | hpos
  · have h0 : ys = [] := List.eq_nil_of_length_eq_zero h0
    subst h0
    refine fin (.slice B xs.length d) w ?_ B d (by simp) (Below.refl _ w) (by simpa using hxs)
    cases A <;> cases B <;> simp [Builtin.append_, run_underlying ht, sizeOf, typeInfo, hi, Builtin.lenOf, Builtin.firstCells, loadCells, loadCellsFrom, hd2, storeCells]
  · obtain ⟨b, off, _, hA, _⟩ := hys 0 ys[0] (by simp [hpos])
    subst hA
    have rd : ∀ {A : Option Addr} {xs : List α}, Rdb T w.heap S A xs → ∃ news, Els T w.heap S news xs ∧ ∀ b o, A = some ⟨b, o, none⟩ → ∀ j u, news[j]? = some u → cellH w.heap b (o + 0 * T.sz + j) = some u := fun hr => Rdb.news (w := w) (k := 0) (fun i x hx => by
      obtain ⟨b, o, cs, h1, h2, h3⟩ := hr i x hx
      exact ⟨b, o, cs, h1, h2, fun j v hj => by rw [Nat.zero_add]; exact h3 j v hj⟩)
    obtain ⟨news, hen, hcells⟩ := rd hys
    obtain ⟨olds, heo, hcello⟩ := rd hxs.rdb
    have hnews : ∀ j u, news[j]? = some u → w.cell? ((⟨b, off, none⟩ : Addr).add j) = some u := by
      intro j u hj
      rw [cell_add1]
      have := hcells b off rfl j u hj
      simpa using this
    have key : ∃ v' w1, (Builtin.append_ #[t, t] o.type #[.slice B xs.length d, .slice (some ⟨b, off, none⟩) ys.length c]).run P w = .ok v' w1 ∧ w1.ownsRow w.heap.size e T.sz v' (xs.length + ys.length) (olds ++ news) ∧ w1.grownBy w1 none ∧ Below w.heap.size w w1 := by
      have low : ∀ w1 : World, w1.grownBy w1 none := fun w1 => ⟨rfl, rfl, rfl, Nat.le_refl _, fun _ _ _ => rfl⟩
      cases B with
      | none =>
        have hx0 : xs = [] := by
          cases xs with
          | nil => rfl
          | cons y ys => obtain ⟨b, o, cs, h, _⟩ := hxs.rdb 0 y (by simp); cases h
        subst hx0
        have hdz : d = 0 := hdd
        subst hdz
        have ho0 : olds = [] := List.eq_nil_of_length_eq_zero (by have := heo.1; simpa using this)
        subst ho0
        obtain ⟨v', w', hrun, h2, h3, _, _⟩ := run_append_own_at (P := P) w w.heap.size t o.type e i z T.sz bytes ht hi hz hsz hby hzs.1.1 hzs.1.2 (.slice none 0 0) 0 [] ⟨by simp, .inl ⟨rfl, rfl⟩⟩ ⟨b, off, none⟩ ys.length c news hen.1 hnews hen.oneCell (by simpa using hmax) (by simpa using hfit) (Nat.le_refl _)
        exact ⟨v', w', hrun, by simpa using h2, low _, h3.os, h3.tape, h3.output, h3.size, fun k hk => h3.block k hk (by simp [Value.ownBlock])⟩
      | some ad =>
        obtain ⟨v', w', hrun, h2, h3⟩ := run_append_arg_grows (P := P) w t o.type e i z T.sz bytes ht hi hz hsz hby hzs.1.1 hzs.1.2 ad xs.length d olds heo.1 (fun j u hj => by
          have hj' : j < olds.length := by
            rcases Nat.lt_or_ge j olds.length with h | h
            · exact h
            · rw [List.getElem?_eq_none h] at hj; cases hj
          have hne : xs ≠ [] := by rintro rfl; have := heo.1; simp only [List.length_nil, Nat.zero_mul] at this; omega
          obtain ⟨b2, o2, hA2, _⟩ := hxs.2.1 hne
          have hA2 := Option.some.inj hA2
          subst hA2
          rw [cell_add1]
          have := hcello b2 o2 rfl j u hj
          simpa using this) ⟨b, off, none⟩ ys.length c news hen.1 hnews (by omega) hmax hfit
        exact ⟨v', w', hrun, h2, low _, h3.os, h3.tape, h3.output, h3.size, fun k hk => h3.block k hk (by simp)⟩
    obtain ⟨v', w1, hrun, hrow, _, hb⟩ := key
    have hk : Keep w.heap S w1.heap S := Keep.ext S hb
    obtain ⟨hl, hv | ⟨g, cap, cur, hv, hgb, hg, hnc, hm, hcs, htake⟩⟩ := hrow
    · exact absurd hv.2 (by omega)
    · have how : Ow T e (fun k => w.heap.size ≤ k) w1.heap (fun k => k = g ∨ S k) (.slice (some ⟨g, 0, none⟩) (xs ++ ys).length cap) (xs ++ ys) := by
        refine ⟨fun k hk => ?_, olds ++ news, ⟨by simpa using hl, .inr ⟨g, cap, cur, rfl, hg, by simpa using hnc, hm, hcs, by simpa using htake⟩⟩, ?_⟩
        · simp [Value.ownBlock] at hk; subst hk; exact ⟨.inl rfl, hgb⟩
        · have k2 : Keep w.heap S w1.heap (fun k => k = g ∨ S k) := ⟨hk.size, fun b hb hn => ⟨fun hi => hi.elim (fun e => by omega) hn, (hk.blk b hb hn).2⟩⟩
          exact (heo.keep k2).append (hen.keep k2)
      refine fin v' w1 hrun (some ⟨g, 0, none⟩) cap (by rw [hv]; simp) hb (how.freeze (fun _ h => .inr h) (fun b hb hs => ?_))
      simp [Value.ownBlock] at hb; subst hb
      have := cx.lt _ hs; omega
theorem pop_at {α : Type} {T : Ty α} {H : Heap} {S M : Off} {t e : TypeId} {hi : Value} {A : Option Addr} {c : Nat} {xs : List α} {k : IntKind} {vhi : Int} (ht : P.underlying t = some (.slice e)) (hE : (P.info? e).map (·.size) = some T.sz)
    (hown : Ow T e M H S (.slice A xs.length c) xs) (hk : slOk xs 0 vhi = true) (hhi : hi = .int k vhi := by rfl) :
    (∀ w, (Instr.sliceAt t (.slice A xs.length c) none (some hi) none).run P w = .ok (.slice A (cutL xs 0 vhi).length c) w) ∧ Ow T e M H S (.slice A (cutL xs 0 vhi).length c) (cutL xs 0 vhi) := by
  subst hhi
  have hk' := hk
  simp only [slOk, Bool.and_eq_true, decide_eq_true_eq] at hk'
  obtain ⟨⟨_, h1⟩, h2⟩ := hk'
  have hcap := hown.cap
  have hlen := cutL_len hk
  obtain ⟨inf, hinf, hsz⟩ := Option.map_eq_some_iff.1 hE
  refine ⟨fun w => ?_, hown.take h1 h2⟩
  have b2 := run_sliceBound (P := P) (w := w) k vhi c .sliceAcap (by omega) (by omega)
  simp only [Instr.sliceAt, Instr.slice, Instr.sliceBounds, Sem.run_bind, run_underlying ht, Result.andThen_ok]
  simp [b2, sizeOf, typeInfo, hinf, hsz, hlen]
  cases A <;> simp [Addr.add]
theorem mx_ok {a b c d : Int} (h : (decide (a ≤ b) && decide (c ≤ d)) = true) : a ≤ b ∧ c ≤ d := by simpa using h
theorem cut_room {α : Type} {xs : List α} {lo hi : Int} (h : slOk xs lo hi = true) : (hi - lo).toNat ≤ (cutL xs lo hi).length := Nat.le_of_eq (cutL_len h).symm

/-- A pointer to a struct that nobody writes to, or nil. -/
def Pt {α : Type} (T : Ty α) (t : TypeId) (H : Heap) (S : Off) (r : Option α) (v : Value) : Prop :=
  match r with
  | none => v = .pointer none
  | some x => ∃ b cs, v = .pointer (some ⟨b, 0, none⟩) ∧ Bx H S b t cs ∧ T.R H S cs x
theorem Pt.keep {α : Type} {T : Ty α} {t : TypeId} {H H' : Heap} {S S' : Off} {r : Option α} {v : Value} (k : Keep H S H' S') (h : Pt T t H S r v) : Pt T t H' S' r v := by
  cases r with
  | none => exact h
  | some x => obtain ⟨b, cs, h1, h2, h3⟩ := h; exact ⟨b, cs, h1, h2.keep k, T.keep k h3⟩
theorem Pt.get {α : Type} {T : Ty α} {t : TypeId} {H : Heap} {S : Off} {r : Option α} {x : α} {v : Value} (h : Pt T t H S r v) (hr : r = some x) : ∃ b cs, v = .pointer (some ⟨b, 0, none⟩) ∧ Bx H S b t cs ∧ T.R H S cs x := by
  subst hr; exact h
theorem Pt.none {α : Type} {T : Ty α} {t : TypeId} {H : Heap} {S : Off} : Pt T t H S Option.none (.pointer Option.none) := rfl
/-- The blocks of a list of things of the call's own. -/
def obl (vs : List Value) : Off := fun k => ∃ v ∈ vs, v.ownBlock = some k
def inL (vs : List Value) (S : Off) : Off := fun k => S k ∨ obl vs k
theorem obl_at {vs : List Value} {v : Value} {k : Nat} (i : Nat) (h : vs[i]? = some v) (hk : v.ownBlock = some k) : obl vs k := ⟨v, List.mem_of_getElem? h, hk⟩
theorem obl_nil {k : Nat} : ¬ obl [] k := fun ⟨_, h, _⟩ => by cases h
theorem obl_cons {v : Value} {vs : List Value} {k : Nat} (h : v.ownBlock ≠ some k) (t : ¬ obl vs k) : ¬ obl (v :: vs) k := fun ⟨u, hu, hk⟩ => by
  rcases List.mem_cons.1 hu with rfl | hu
  · exact h hk
  · exact t ⟨u, hu, hk⟩
/-- What holds of each block of each. -/
theorem all_nil {C : Nat → Prop} : ∀ k, obl [] k → C k := fun _ h => absurd h obl_nil
theorem all_cons {C : Nat → Prop} {v : Value} {vs : List Value} (h : ∀ k, v.ownBlock = some k → C k) (t : ∀ k, obl vs k → C k) : ∀ k, obl (v :: vs) k → C k := fun k ⟨u, hu, hk⟩ => by
  rcases List.mem_cons.1 hu with rfl | hu
  · exact h k hk
  · exact t k ⟨u, hu, hk⟩
theorem nil_all {C : Nat → Prop} : ∀ k, (Value.slice none 0 0).ownBlock = some k → C k := fun k h => by cases h
theorem inL_sub {vs : List Value} {S S' : Off} (hs : ∀ k, S k → S' k) (h : ∀ k, obl vs k → S' k) : ∀ k, inL vs S k → S' k := fun k hk => hk.elim (hs k) (h k)
theorem Mb.own {M : Off} {H : Heap} {S : Off} {b : Nat} {t : TypeId} {cs : List Value} (h : Mb M H S b t cs) : ∀ k, (bv b).ownBlock = some k → S k ∧ M k := fun k hk => by cases hk; exact h.2
theorem Mb.asBx {M : Off} {H : Heap} {S : Off} {b : Nat} {t : TypeId} {cs : List Value} (h : Mb M H S b t cs) : Bx H (Go.V.minus S (bv b)) b t cs := ⟨h.1, fun e => e.2 rfl⟩
theorem Mb.weak {M M' : Off} {H : Heap} {S : Off} {b : Nat} {t : TypeId} {cs : List Value} (h : Mb M H S b t cs) (hm : ∀ k, (bv b).ownBlock = some k → M' k) : Mb M' H S b t cs := ⟨h.1, h.2.1, hm b rfl⟩
theorem Ow.out {α : Type} {T : Ty α} {e : TypeId} {M : Off} {H : Heap} {S S0 : Off} {v : Value} {xs : List α} {vs : List Value} (h : Ow T e M H S v xs) (hs : ∀ k, inL vs S0 k → S k) (hv : ∀ k, v.ownBlock = some k → obl vs k) : Ow T e M H (inL vs S0) v xs :=
  h.keepS hs (fun b hb => .inr (hv b hb))
theorem Mb.out {M : Off} {H : Heap} {S S0 : Off} {b : Nat} {t : TypeId} {cs : List Value} {vs : List Value} (h : Mb M H S b t cs) (hv : ∀ k, (bv b).ownBlock = some k → obl vs k) : Mb M H (inL vs S0) b t cs := ⟨h.1, .inr (hv b rfl), h.2.2⟩
theorem BelW.refl (W0 : Off) (w : World) : BelW W0 w w := ⟨rfl, rfl, rfl, Nat.le_refl _, fun _ _ _ => rfl⟩

/-- Things of the call's own were handed over, and came back. -/
theorem back {w0 w w1 : World} {W0 S0 S : Off} {us vs : List Value} (cx : Cx w0 W0 S0 w S) (hu : ∀ k, obl us k → S k ∧ Wr W0 w0 k) (hb : BelW (obl us) w w1) (hv : ∀ k, obl vs k → k < w1.heap.size ∧ Wr (obl us) w k) :
    Cx w0 W0 S0 w1 (inL vs S) ∧ Keep w.heap S w1.heap (inL vs S) ∧ (∀ b, S b → inL vs S b) ∧ (∀ k, k < w.heap.size → ¬ obl us k → w1.heap[k]? = w.heap[k]?) := by
  refine ⟨⟨⟨hb.os.trans cx.bel.os, hb.tape.trans cx.bel.tape, hb.output.trans cx.bel.output, Nat.le_trans cx.bel.size hb.size, fun k hk hnn => (hb.block k (by have := cx.size; omega) (fun e => ?_)).trans (cx.bel.block k hk hnn)⟩, fun b h => .inl (cx.sub b h), fun b h => h.elim (fun h => Nat.lt_of_lt_of_le (cx.lt b h) hb.size) (fun h => (hv b h).1), cx.lt0⟩,
    ⟨hb.size, fun b h hnn => ⟨fun hi => hi.elim hnn (fun h2 => ?_), hb.block b h (fun e => hnn (hu b e).1)⟩⟩, fun _ h => .inl h, fun k hk hne => hb.block k hk hne⟩
  · rcases (hu k e).2 with h | h
    · exact hnn h
    · omega
  · rcases (hv b h2).2 with h3 | h3
    · exact hnn (hu b h3).1
    · omega
theorem back_wr {w0 w : World} {W0 Wf S0 S : Off} {us : List Value} (cx : Cx w0 W0 S0 w S) (hu : ∀ k, obl us k → S k ∧ Wr Wf w0 k) {k : Nat} (h : Wr (obl us) w k) : Wr Wf w0 k := by
  rcases h with h | h
  · exact (hu k h).2
  · exact .inr (by have := cx.size; omega)
theorem Dis.growL {v u : Value} {us : List Value} {w : World} (d : ∀ k, v.ownBlock = some k → ¬ obl us k) (h : ∀ k, v.ownBlock = some k → k < w.heap.size) (h' : ∀ k, u.ownBlock = some k → Wr (obl us) w k) : Dis v u := fun k hk e => by
  rcases h' k e with h2 | h2
  · exact d k hk h2
  · have := h k hk; omega

theorem inb_set {α : Type} {xs : List α} {i j : Int} {v : α} (h : inb xs j = true) : inb (xs.set i.toNat v) j = true := by simpa [inb] using h
theorem cell_add3 (w : World) (b o n m k : Nat) : w.cell? ((((⟨b, o, none⟩ : Addr).add n).add m).add k) = cellH w.heap b (o + n + m + k) := by
  rw [add2_eq, cell_add1]

def copyL {α : Type} (xs ys : List α) : List α := ys.take xs.length ++ xs.drop ys.length
theorem copyL_len {α : Type} (xs ys : List α) : (copyL xs ys).length = xs.length := by simp only [copyL, List.length_append, List.length_take, List.length_drop]; omega
theorem Els.cut {α : Type} {T : Ty α} {H : Heap} {S : Off} {cs : List Value} {xs : List α} (h : Els T H S cs xs) (k : Nat) : Els T H S (cs.take (k * T.sz)) (xs.take k) := by
  refine ⟨by rw [List.length_take, List.length_take, h.1]; exact (Nat.mul_min_mul_right k xs.length T.sz), fun i x hx => ?_⟩
  have hi : i < k := by
    rcases Nat.lt_or_ge i k with h | h
    · exact h
    · rw [List.getElem?_take_eq_none (by omega)] at hx; cases hx
  rw [List.getElem?_take_of_lt hi] at hx
  have h2 := h.2 i x hx
  have hle : i * T.sz + T.sz ≤ k * T.sz := by rw [← Nat.succ_mul]; exact Nat.mul_le_mul_right _ hi
  rw [List.drop_take, List.take_take, Nat.min_eq_left (by omega)]
  exact h2
theorem Els.tail {α : Type} {T : Ty α} {H : Heap} {S : Off} {cs : List Value} {xs : List α} (h : Els T H S cs xs) (k : Nat) : Els T H S (cs.drop (k * T.sz)) (xs.drop k) := by
  refine ⟨by rw [List.length_drop, List.length_drop, h.1, Nat.sub_mul], fun i x hx => ?_⟩
  rw [List.getElem?_drop] at hx
  have h2 := h.2 _ x hx
  rw [List.drop_drop, ← Nat.add_mul]
  exact h2

/-- copy, of one-cell elements, onto a slice of the call's own. -/
theorem op_copy {α : Type} {T : Ty α} {w0 : World} {W0 Wf S0 S : Off} {t e : TypeId} {x y : Operand} {A B : Option Addr} {c d : Nat} {xs ys : List α} (ha : Ag n l a) (cx : Cx w0 W0 S0 w S) (hf : (gate ops l o == some true && fit n l o) = true)
    (ho : o.op = .call { callee := .builtin .copy, args := #[x, y], argTypes := #[t, t] }) (hx : lk l x = .slice A xs.length c) (hy : lk l y = .slice B ys.length d) (ht : P.underlying t = some (.slice e)) (hE : (P.info? e).map (·.size) = some 1) (hT : T.sz = 1)
    (hW : ∀ k, Wr Wf w0 k → Wr W0 w0 k) (hown : Ow T e (Wr Wf w0) w.heap S (.slice A xs.length c) xs) (hys : Rdb T w.heap S B ys)
    (h : ∀ w1, Cx w0 W0 S0 w1 S → (∀ k, k < w.heap.size → (Value.slice A xs.length c).ownBlock ≠ some k → w1.heap[k]? = w.heap[k]?) → Keep w.heap S w1.heap S → Ow T e (Wr Wf w0) w1.heap S (.slice A xs.length c) (copyL xs ys) →
      ∀ a', Ag n (putL l o.dst (.int .i64 (Nat.min ys.length xs.length : Nat))) a' → wpList P ops Q rest a' w1) : wpList P ops Q (o :: rest) a w := by
  have fin : ∀ (w1 : World) (m : Nat), (Builtin.copy_ #[t, t] o.type #[.slice A xs.length c, .slice B ys.length d]).run P w = .ok (goInt m) w1 → m = Nat.min ys.length xs.length →
      Cx w0 W0 S0 w1 S → (∀ k, k < w.heap.size → (Value.slice A xs.length c).ownBlock ≠ some k → w1.heap[k]? = w.heap[k]?) → Keep w.heap S w1.heap S → Ow T e (Wr Wf w0) w1.heap S (.slice A xs.length c) (copyL xs ys) → wpList P ops Q (o :: rest) a w := by
    intro w1 m hr hm h1 h2 h3 h4
    refine op_val ha hf (v := .int .i64 (Nat.min ys.length xs.length : Nat)) (w' := w1) ?_ fun a' ha' => h w1 h1 h2 h3 h4 a' ha'
    subst hm
    simp only [execOp, ho, resolve, invoke, builtin, Sem.run_bind, Sem.run_pure, Result.andThen_ok, List.map_toArray, List.map_cons, List.map_nil, hx, hy, hr]
    rfl
  by_cases h0 : Nat.min ys.length xs.length = 0
  · refine fin w 0 (run_copy_none w t t o.type e A B xs.length c ys.length d ht hE h0) h0.symm cx (fun _ _ _ => rfl) (Keep.refl _ _) ?_
    have : copyL xs ys = xs := by
      rcases Nat.eq_zero_or_pos xs.length with hz | hz
      · have := List.eq_nil_of_length_eq_zero hz; subst this; simp [copyL]
      · have hy0 : ys.length = 0 := by
          rcases Nat.le_total ys.length xs.length with hle | hle
          · rwa [show Nat.min ys.length xs.length = ys.length from Nat.min_eq_left hle] at h0
          · rw [show Nat.min ys.length xs.length = xs.length from Nat.min_eq_right hle] at h0; omega
        have := List.eq_nil_of_length_eq_zero hy0; subst this; simp [copyL]
    rw [this]; exact hown
  · have hxp : 0 < xs.length := by
      rcases Nat.eq_zero_or_pos xs.length with hz | hz
      · exact absurd (by rw [hz]; exact Nat.min_zero _) h0
      · exact hz
    have hyp : 0 < ys.length := by
      rcases Nat.eq_zero_or_pos ys.length with hz | hz
      · exact absurd (by rw [hz]; exact Nat.zero_min _) h0
      · exact hz
    obtain ⟨b, off, _, hB, _⟩ := hys 0 ys[0] (by simp [hyp])
    subst hB
    obtain ⟨news, hen, hcells⟩ := Rdb.news (w := w) (xs := ys) (k := 0) (A := some ⟨b, off, none⟩) (T := T) (S := S) (fun i x hx => by
      obtain ⟨b, o, cs, h1, h2, h3⟩ := hys i x hx
      exact ⟨b, o, cs, h1, h2, fun j v hj => by rw [Nat.zero_add]; exact h3 j v hj⟩)
    have hlt := hown.lt
    obtain ⟨hs0, cs, ⟨hcl, hrow⟩, hels⟩ := hown
    rcases hrow with ⟨hv, hz⟩ | ⟨g, cap, cur, hv, hg, hnc, hm, hcs, htake⟩
    · omega
    · simp at hv
      obtain ⟨rfl, rfl⟩ := hv
      rw [hT, Nat.mul_one] at hcl hcs htake
      have hnl : news.length = ys.length := by rw [hen.1, hT, Nat.mul_one]
      have hml : (news.take xs.length).length = Nat.min ys.length xs.length := by rw [List.length_take, hnl]; exact Nat.min_comm _ _
      have hr := run_copy_row (P := P) w t t o.type e g 0 xs.length c ⟨b, off, none⟩ ys.length d cur e (news.take xs.length) ht hE hg hml (fun j v hj => by
        rw [cell_add1]
        have hj' : news[j]? = some v := by
          rcases Nat.lt_or_ge j xs.length with h | h
          · rwa [List.getElem?_take_of_lt h] at hj
          · rw [List.getElem?_take_eq_none h] at hj; cases hj
        have := hcells b off rfl j v hj'
        simpa using this) (by rw [hml, hcs, Nat.zero_add]; exact Nat.le_trans (Nat.min_le_right _ _) hnc) (fun v hv => hen.oneCell v (List.mem_of_mem_take hv))
      simp only [List.take_zero, List.nil_append, Nat.zero_add] at hr
      have hgS := hs0 g (by simp [Value.ownBlock])
      have hgl := getElem?_lt hg
      have hon : Only g w (w.setRow g (news.take xs.length ++ cur.toList.drop (news.take xs.length).length).toArray) := ⟨rfl, rfl, rfl, by simp [World.setRow], fun k _ hk => by simp [World.setRow, Array.getElem?_modify, Ne.symm hk]⟩
      have hk := hon.keep hgS.1
      refine fin _ _ hr hml (hon.cx cx (hW _ hgS.2)) (fun k hk hne => hon.block k hk (fun e => hne (by rw [e]; simp [Value.ownBlock]))) hk ⟨hs0, news.take xs.length ++ cs.drop ys.length, ⟨?_, .inr ⟨g, c, (news.take xs.length ++ cur.toList.drop (news.take xs.length).length).toArray, by rw [copyL_len], setRow_heap w g cur _ e _ hg, by rw [copyL_len]; exact hnc, hm, ?_, ?_⟩⟩, ?_⟩
      · rw [copyL_len, hT, Nat.mul_one, List.length_append, hml, List.length_drop, hcl]
        rcases Nat.le_total ys.length xs.length with hle | hle
        · rw [show Nat.min ys.length xs.length = ys.length from Nat.min_eq_left hle]; omega
        · rw [show Nat.min ys.length xs.length = xs.length from Nat.min_eq_right hle]; omega
      · have h9 : (news.take xs.length).length ≤ c := by rw [hml]; exact Nat.le_trans (Nat.min_le_right _ _) hnc
        simp only [hT, Nat.mul_one, List.size_toArray, List.length_append, List.length_drop, Array.length_toList, hcs]
        omega
      · rw [copyL_len, hT, Nat.mul_one]
        show List.take xs.length (news.take xs.length ++ cur.toList.drop (news.take xs.length).length) = _
        rw [List.take_append, List.take_take, Nat.min_self, ← htake]
        congr 1
        rw [List.drop_take]
        rcases Nat.le_total ys.length xs.length with hle | hle
        · have : (news.take xs.length).length = ys.length := by rw [hml]; exact Nat.min_eq_left hle
          rw [this]
        · have : (news.take xs.length).length = xs.length := by rw [hml]; exact Nat.min_eq_right hle
          rw [this, Nat.sub_self, List.take_zero, Nat.sub_eq_zero_of_le hle, List.take_zero]
      · have h1 := (hen.keep hk).cut xs.length
        have h2 := (hels.keep hk).tail ys.length
        rw [hT, Nat.mul_one] at h1 h2
        exact h1.append h2
end
end Go.V
