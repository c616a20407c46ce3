/- A copy within one slice of the call's own. Its conditions: none. -/
import Derived.Test.YtjkoiijpmiibpaaVArr
namespace Go.V
open Go.RowKit
variable {P : Program} {ops : Array Oper} {n : Nat} {Q : Exit → Act → World → Prop} {l : FL} {a : Act} {w : World} {o : Oper} {rest : List Oper}

/-- s[lo:] of a slice of the call's own, to be written to. -/
theorem from_at {α : Type} {T : Ty α} {H : Heap} {S M : Off} {t e : TypeId} {lo : Value} {A : Option Addr} {c : Nat} {xs : List α} {k : IntKind} {vlo : Int} (ht : P.underlying t = some (.slice e)) (hE : (P.info? e).map (·.size) = some T.sz)
    (hown : Ow T e M H S (.slice A xs.length c) xs) (hk : slOk xs vlo xs.length = true) (hlo : lo = .int k vlo := by rfl) :
    ∃ A1, (∀ w, (Instr.sliceAt t (.slice A xs.length c) (some lo) none none).run P w = .ok (.slice A1 (xs.length - vlo.toNat) (c - vlo.toNat)) w) ∧ (vlo < xs.length → A1 = A.map (·.add (vlo.toNat * T.sz))) := by
  subst hlo
  have hk' := hk
  simp only [slOk, Bool.and_eq_true, decide_eq_true_eq] at hk'
  obtain ⟨⟨h0, h1⟩, h2⟩ := hk'
  have hcap := hown.cap
  obtain ⟨inf, hinf, hsz⟩ := Option.map_eq_some_iff.1 hE
  refine ⟨if c = vlo.toNat then A else A.map (·.add (vlo.toNat * T.sz)), fun w => ?_, fun h => by rw [if_neg (by omega)]⟩
  have b2 := run_sliceBound (P := P) (w := w) k vlo xs.length .sliceB (by omega) (by omega)
  simp only [Instr.sliceAt, Instr.slice, Instr.sliceBounds, Sem.run_bind, run_underlying ht, Result.andThen_ok]
  simp [b2, sizeOf, typeInfo, hinf, hsz]
def copyIn {α : Type} (xs : List α) (lo hi : Int) : List α := xs.take lo.toNat ++ copyL (xs.drop lo.toNat) (cutL xs 0 hi)
theorem copyIn_len {α : Type} (xs : List α) (lo hi : Int) : (copyIn xs lo hi).length = xs.length := by
  unfold copyIn; rw [List.length_append, copyL_len, List.length_take, List.length_drop]; omega
/-- copy(s[lo:], s[:hi]), of one-cell elements. -/
theorem op_copyIn {α : Type} {T : Ty α} {w0 : World} {W0 Wf S0 S : Off} {t e : TypeId} {x y : Operand} {A A1 : Option Addr} {c : Nat} {xs : List α} {lo hi : Int} (ha : Ag n l a) (cx : Cx w0 W0 S0 w S) (hf : (gate ops l o == some true && fit n l o) = true)
    (ho : o.op = .call { callee := .builtin .copy, args := #[x, y], argTypes := #[t, t] }) (hx : lk l x = .slice A1 (xs.length - lo.toNat) (c - lo.toNat)) (hy : lk l y = .slice A (cutL xs 0 hi).length c) (ht : P.underlying t = some (.slice e)) (hE : (P.info? e).map (·.size) = some 1) (hT : T.sz = 1)
    (hW : ∀ k, Wr Wf w0 k → Wr W0 w0 k) (hown : Ow T e (Wr Wf w0) w.heap S (.slice A xs.length c) xs) (hlo : slOk xs lo xs.length = true) (hhi : slOk xs 0 hi = true) (hA1 : lo < xs.length → A1 = A.map (·.add (lo.toNat * T.sz)))
    (h : ∀ w1, Cx w0 W0 S0 w1 S → (∀ k, k < w.heap.size → (Value.slice A xs.length c).ownBlock ≠ some k → w1.heap[k]? = w.heap[k]?) → Keep w.heap S w1.heap S → Ow T e (Wr Wf w0) w1.heap S (.slice A xs.length c) (copyIn xs lo hi) →
      ∀ a', Ag n (putL l o.dst (.int .i64 (Nat.min (cutL xs 0 hi).length (xs.length - lo.toNat) : Nat))) a' → wpList P ops Q rest a' w1) : wpList P ops Q (o :: rest) a w := by
  have hlo' := hlo
  simp only [slOk, Bool.and_eq_true, decide_eq_true_eq] at hlo'
  have hhi' := hhi
  simp only [slOk, Bool.and_eq_true, decide_eq_true_eq] at hhi'
  have hcl := cutL_len hhi
  have fin : ∀ (w1 : World) (m : Nat), (Builtin.copy_ #[t, t] o.type #[.slice A1 (xs.length - lo.toNat) (c - lo.toNat), .slice A (cutL xs 0 hi).length c]).run P w = .ok (goInt m) w1 → m = Nat.min (cutL xs 0 hi).length (xs.length - lo.toNat) →
      Cx w0 W0 S0 w1 S → (∀ k, k < w.heap.size → (Value.slice A xs.length c).ownBlock ≠ some k → w1.heap[k]? = w.heap[k]?) → Keep w.heap S w1.heap S → Ow T e (Wr Wf w0) w1.heap S (.slice A xs.length c) (copyIn xs lo hi) → wpList P ops Q (o :: rest) a w := by
    intro w1 m hr hm h1 h2 h3 h4
    refine op_val ha hf (v := .int .i64 (Nat.min (cutL xs 0 hi).length (xs.length - lo.toNat) : Nat)) (w' := w1) ?_ fun a' ha' => h w1 h1 h2 h3 h4 a' ha'
    subst hm
    simp only [execOp, ho, resolve, invoke, builtin, Sem.run_bind, Sem.run_pure, Result.andThen_ok, List.map_toArray, List.map_cons, List.map_nil, hx, hy, hr]
    rfl
  by_cases h0 : Nat.min (cutL xs 0 hi).length (xs.length - lo.toNat) = 0
  · refine fin w 0 (run_copy_none w t t o.type e A1 A (xs.length - lo.toNat) (c - lo.toNat) (cutL xs 0 hi).length c ht hE h0) h0.symm cx (fun _ _ _ => rfl) (Keep.refl _ _) ?_
    have : copyIn xs lo hi = xs := by
      unfold copyIn copyL
      rcases Nat.eq_zero_or_pos (xs.length - lo.toNat) with hz | hz
      · rw [show xs.drop lo.toNat = [] from List.drop_of_length_le (by omega)]; simp
        exact List.take_of_length_le (by omega)
      · have hy0 : (cutL xs 0 hi).length = 0 := by
          rcases Nat.le_total (cutL xs 0 hi).length (xs.length - lo.toNat) with hle | hle
          · rwa [show Nat.min (cutL xs 0 hi).length (xs.length - lo.toNat) = (cutL xs 0 hi).length from Nat.min_eq_left hle] at h0
          · rw [show Nat.min (cutL xs 0 hi).length (xs.length - lo.toNat) = xs.length - lo.toNat from Nat.min_eq_right hle] at h0; omega
        rw [List.eq_nil_of_length_eq_zero hy0]; simp
    rw [this]; exact hown
  · have hp1 : 0 < xs.length - lo.toNat := by
      rcases Nat.eq_zero_or_pos (xs.length - lo.toNat) with hz | hz
      · exact absurd (by rw [hz]; exact Nat.min_zero _) h0
      · exact hz
    have hrd := hown.rdb
    have hlt := hown.lt
    obtain ⟨hs0, cs, ⟨hcl2, hrow⟩, hels⟩ := hown
    rcases hrow with ⟨hv, hz⟩ | ⟨g, cap, cur, hv, hg, hnc, hm, hcs, htake⟩
    · omega
    · simp at hv
      obtain ⟨rfl, rfl⟩ := hv
      have hA := hA1 (by omega)
      rw [hT, Nat.mul_one] at hA hcl2 hcs htake
      have hA' : A1 = some ⟨g, lo.toNat, none⟩ := hA.trans (congrArg some (by unfold Addr.add; by_cases hk : lo.toNat = 0 <;> simp [hk]))
      subst hA'
      generalize hys : cutL xs 0 hi = ys at *
      have hyx : ∀ (i : Nat) (x : α), ys[i]? = some x → xs[i]? = some x := by
        intro i x hx
        have hil : i < ys.length := (List.getElem?_eq_some_iff.1 hx).1
        rw [← hys] at hx
        unfold cutL at hx
        rw [List.getElem?_take_of_lt (by omega)] at hx
        simpa using hx
      obtain ⟨news, hen, hcells⟩ := Rdb.news (w := w) (xs := ys) (k := 0) (A := some ⟨g, 0, none⟩) (T := T) (S := S) (fun i x hx => by
        obtain ⟨b, o, cs, h1, h2, h3⟩ := hrd i x (hyx i x hx)
        exact ⟨b, o, cs, h1, h2, fun j v hj => by rw [Nat.zero_add]; exact h3 j v hj⟩)
      have hnl : news.length = ys.length := by rw [hen.1, hT, Nat.mul_one]
      have hml : (news.take (xs.length - lo.toNat)).length = Nat.min ys.length (xs.length - lo.toNat) := by rw [List.length_take, hnl]; exact Nat.min_comm _ _
      have hle : Nat.min ys.length (xs.length - lo.toNat) ≤ xs.length - lo.toNat := Nat.min_le_right _ _
      have hr := run_copy_row (P := P) w t t o.type e g lo.toNat (xs.length - lo.toNat) (c - lo.toNat) ⟨g, 0, none⟩ ys.length c cur e (news.take (xs.length - lo.toNat)) ht hE hg hml (fun j v hj => by
        rw [cell_add1]
        have hj' : news[j]? = some v := by
          rcases Nat.lt_or_ge j (xs.length - lo.toNat) with h | h
          · rwa [List.getElem?_take_of_lt h] at hj
          · rw [List.getElem?_take_eq_none h] at hj; cases hj
        have := hcells g 0 rfl j v hj'
        simpa using this) (by rw [hml, hcs]; omega) (fun v hv => hen.oneCell v (List.mem_of_mem_take hv))
      have hgS := hs0 g (by simp [Value.ownBlock])
      have hgl := getElem?_lt hg
      generalize hN : news.take (xs.length - lo.toNat) = N at *
      have hon : Only g w (w.setRow g (cur.toList.take lo.toNat ++ N ++ cur.toList.drop (lo.toNat + N.length)).toArray) := ⟨rfl, rfl, rfl, by simp [World.setRow], fun k _ hk => by simp [World.setRow, Array.getElem?_modify, Ne.symm hk]⟩
      have hk := hon.keep hgS.1
      have hcz : cur.toList.length = c := by rw [Array.length_toList, hcs]
      refine fin _ _ hr hml (hon.cx cx (hW _ hgS.2)) (fun k hk hne => hon.block k hk (fun e => hne (by rw [e]; simp [Value.ownBlock]))) hk ⟨hs0, cs.take lo.toNat ++ (N ++ (cs.drop lo.toNat).drop ys.length), ⟨?_, .inr ⟨g, c, (cur.toList.take lo.toNat ++ N ++ cur.toList.drop (lo.toNat + N.length)).toArray, by rw [copyIn_len], setRow_heap w g cur _ e _ hg, by rw [copyIn_len]; exact hnc, hm, ?_, ?_⟩⟩, ?_⟩
      · rw [copyIn_len, hT, Nat.mul_one, List.length_append, List.length_append, hml, List.length_drop, List.length_drop, List.length_take, hcl2]
        rcases Nat.le_total ys.length (xs.length - lo.toNat) with h | h
        · rw [show Nat.min ys.length (xs.length - lo.toNat) = ys.length from Nat.min_eq_left h]; omega
        · rw [show Nat.min ys.length (xs.length - lo.toNat) = xs.length - lo.toNat from Nat.min_eq_right h]; omega
      · rw [hT, Nat.mul_one, List.size_toArray, List.length_append, List.length_append, List.length_drop, List.length_take, hcz]
        omega
      · rw [copyIn_len, hT, Nat.mul_one]
        show List.take xs.length (cur.toList.take lo.toNat ++ N ++ cur.toList.drop (lo.toNat + N.length)) = _
        have hA1 : (cur.toList.take lo.toNat ++ N).length = lo.toNat + N.length := by rw [List.length_append, List.length_take, hcz]; omega
        rw [List.take_append, List.take_of_length_le (by rw [hA1]; omega), hA1, ← htake, List.take_take, Nat.min_eq_left (by omega), List.append_assoc]
        congr 1
        congr 1
        rw [List.drop_drop, List.drop_take]
        rcases Nat.le_total ys.length (xs.length - lo.toNat) with h | h
        · rw [hml, show Nat.min ys.length (xs.length - lo.toNat) = ys.length from Nat.min_eq_left h]
        · rw [hml, show Nat.min ys.length (xs.length - lo.toNat) = xs.length - lo.toNat from Nat.min_eq_right h, show xs.length - (lo.toNat + (xs.length - lo.toNat)) = 0 by omega, show xs.length - (lo.toNat + ys.length) = 0 by omega, List.take_zero, List.take_zero]
      · have h1 := (hels.keep hk).cut lo.toNat
        have h2 := (hen.keep hk).cut (xs.length - lo.toNat)
        have h3 := ((hels.keep hk).tail lo.toNat).tail ys.length
        rw [hT, Nat.mul_one] at h1 h2 h3
        rw [Nat.mul_one, hN] at *
        have h4 := h1.append (h2.append h3)
        unfold copyIn copyL
        rw [List.length_drop, hys]
        exact h4
end Go.V
