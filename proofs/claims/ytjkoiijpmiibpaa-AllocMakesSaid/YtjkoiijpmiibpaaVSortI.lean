/- Numbers put in order by the library, in place. Its conditions: none. -/
import Derived.Test.YtjkoiijpmiibpaaVMore
import Derived.Shelf.Sort.Plain
import Derived.Shelf.Slices.In.SortNone
namespace Go.V
open Go.RowKit

def insI (x : Int) : List Int → List Int
  | [] => [x]
  | y :: ys => if x ≤ y then x :: y :: ys else y :: insI x ys
def sortI : List Int → List Int
  | [] => []
  | x :: xs => insI x (sortI xs)
theorem insI_perm (x : Int) : ∀ l : List Int, (insI x l).Perm (x :: l)
  | [] => List.Perm.refl _
  | y :: ys => by
    unfold insI
    split
    · exact List.Perm.refl _
    · exact ((insI_perm x ys).cons y).trans (List.Perm.swap x y ys)
theorem sortI_perm : ∀ xs : List Int, (sortI xs).Perm xs
  | [] => List.Perm.refl _
  | x :: xs => (insI_perm x (sortI xs)).trans ((sortI_perm xs).cons x)
theorem sortI_len (xs : List Int) : (sortI xs).length = xs.length := (sortI_perm xs).length_eq
theorem insI_sorted (x : Int) : ∀ l : List Int, l.Pairwise (fun a b => a ≤ b) → (insI x l).Pairwise (fun a b => a ≤ b)
  | [], _ => List.pairwise_singleton _ _
  | y :: ys, h => by
    unfold insI
    have h1 := List.pairwise_cons.1 h
    split
    · rename_i hxy
      refine List.pairwise_cons.2 ⟨fun z hz => ?_, h⟩
      rcases List.mem_cons.1 hz with rfl | hz
      · exact hxy
      · have := h1.1 z hz; omega
    · rename_i hxy
      refine List.pairwise_cons.2 ⟨fun z hz => ?_, insI_sorted x ys h1.2⟩
      rcases List.mem_cons.1 ((insI_perm x ys).mem_iff.1 hz) with rfl | hz
      · omega
      · exact h1.1 z hz
theorem sortI_sorted : ∀ xs : List Int, (sortI xs).Pairwise fun a b => a ≤ b
  | [] => List.Pairwise.nil
  | x :: xs => insI_sorted x _ (sortI_sorted xs)
theorem sorted_eq : ∀ {l m : List Int}, l.Perm m → l.Pairwise (fun a b => a ≤ b) → m.Pairwise (fun a b => a ≤ b) → l = m
  | [], m, h, _, _ => h.nil_eq
  | x :: l, [], h, _, _ => by have := h.length_eq; simp at this
  | x :: l, y :: m, h, h1, h2 => by
    have a1 := List.pairwise_cons.1 h1
    have a2 := List.pairwise_cons.1 h2
    have e : x = y := by
      have hx : x ∈ y :: m := h.mem_iff.1 (by simp)
      have hy : y ∈ x :: l := h.mem_iff.2 (by simp)
      rcases List.mem_cons.1 hx with e | hx
      · exact e
      · rcases List.mem_cons.1 hy with e | hy
        · exact e.symm
        · have := a1.1 y hy; have := a2.1 x hx; omega
    subst e
    rw [sorted_eq (List.Perm.cons_inv h) a1.2 a2.2]
theorem sortI_merge (xs : List Int) : (xs.mergeSort fun x y => decide (x ≤ y)) = sortI xs := by
  refine sorted_eq ((List.mergeSort_perm xs _).trans (sortI_perm xs).symm) ?_ (sortI_sorted xs)
  have := List.pairwise_mergeSort (le := fun x y : Int => decide (x ≤ y)) (fun a b c h1 h2 => by simp at h1 h2 ⊢; omega) (fun a b => by simp; omega) xs
  simpa using this
theorem els_ints {H : Heap} {S : Off} {cs : List Value} {xs : List Int} : Els (tInt .i64) H S cs xs ↔ cs = xs.map (.int .i64) := by
  constructor
  · rintro ⟨h1, h2⟩
    simp only [tInt, Nat.mul_one] at h1 h2
    apply List.ext_getElem (by simp [h1])
    intro i h3 h4
    have := h2 i xs[i] (by simp)
    have e : List.take 1 (List.drop i cs) = [cs[i]] := by rw [List.drop_eq_getElem_cons h3, List.take_succ_cons, List.take_zero]
    rw [e] at this
    simpa using this
  · rintro rfl
    refine ⟨by simp [tInt], fun i x hx => ?_⟩
    obtain ⟨hi, rfl⟩ := List.getElem?_eq_some_iff.1 hx
    simp only [tInt, Nat.mul_one]
    rw [List.drop_eq_getElem_cons (by simpa using hi), List.take_succ_cons, List.take_zero]
    simp

open Go.Sort Go.Shelf Go.Proofs in
/-- slices.Sort of numbers, as an operation of a call. -/
theorem sortI_call {P : Program} {ρ : Ren} {f : FuncId} (L : Lays.n189 P ρ) (hf : ρ.f 189 = f) {w w0 : World} {W0 Wf S0 S : Off} {e : TypeId} {A : Option Addr} {c : Nat} {xs : List Int} (cx : Cx w0 W0 S0 w S) (hW : ∀ k, Wr Wf w0 k → Wr W0 w0 k)
    (ho : Ow (tInt .i64) e (Wr Wf w0) w.heap S (.slice A xs.length c) xs) (hok : decide (xs.length < 4611686018427387904) = true) :
    Calls P f #[.slice A xs.length c] w fun ee w1 => ∃ v, ee = .returned v ∧ v = .tuple #[] ∧ Cx w0 W0 S0 w1 S ∧
      (∀ k, k < w.heap.size → (Value.slice A xs.length c).ownBlock ≠ some k → w1.heap[k]? = w.heap[k]?) ∧ Keep w.heap S w1.heap S ∧ Ow (tInt .i64) e (Wr Wf w0) w1.heap S (.slice A xs.length c) (sortI xs) := by
  subst hf
  simp only [decide_eq_true_eq] at hok
  have hown := ho.own
  obtain ⟨hs0, cs, ⟨hcl0, hrow⟩, hels⟩ := ho
  rcases hrow with ⟨hv, h0⟩ | ⟨gb, cap, cur, hv, hgb, hnc, hm, hcs, htake⟩
  · have hx : xs = [] := List.eq_nil_of_length_eq_zero h0
    subst hx
    simp at hv
    obtain ⟨rfl, rfl⟩ := hv
    refine (Any.slices_Sort_int_none L none 0 w).mono ?_
    rintro ee w1 ⟨rfl, rfl⟩
    exact ⟨_, rfl, rfl, cx, fun _ _ _ => rfl, Keep.refl _ _, fun k hk => by simp [Value.ownBlock] at hk, [], ⟨by simp [sortI], .inl ⟨rfl, by simp [sortI]⟩⟩, els_ints.2 (by simp [sortI])⟩
  · simp at hv
    obtain ⟨rfl, rfl⟩ := hv
    have hsz : (tInt .i64).sz = 1 := rfl
    rw [hsz, Nat.mul_one] at hcl0 htake
    rw [hsz, Nat.mul_one] at hcs
    have hcells := els_ints.1 hels
    have hgl : gb < w.heap.size := getElem?_lt hgb
    have hH : Holds (Value.int .i64) w gb 0 xs.toArray := by
      intro j hj
      simp only [List.size_toArray] at hj
      refine ⟨?_, by simp [World.frozen?, hgb]⟩
      rw [cellH_cell]
      unfold cellH
      rw [hgb]
      simp only [Nat.zero_add]
      have h1 : (cur.toList.take xs.length)[j]? = (xs.map (Value.int .i64))[j]? := by rw [htake, hcells]
      rw [List.getElem?_take_of_lt hj] at h1
      rw [← Array.getElem?_toList, h1]
      simp [hj]
    have hsort := Any.slices_Sort_int L gb 0 c xs w hH hgl hok
    rw [sortI_merge] at hsort
    refine hsort.mono ?_
    rintro ee w1 ⟨rfl, m, os, rfl⟩
    have hpl : (sortI xs).length = xs.length := sortI_len xs
    have hb1 : (grow (putRow (Value.int .i64) (Sort.ahead w m) gb 0 (sortI xs).toArray) os).heap[gb]? = some (.cells (putCells (Value.int .i64) 0 (sortI xs).toArray cur) e (0, 0)) := by
      rw [heap_grow_old _ _ (by simpa [putRow, mapBlock, Sort.ahead] using hgl)]
      simp [putRow, mapBlock, Sort.ahead, Array.getElem?_modify, hgb, onCells]
    have hold : ∀ k, k < w.heap.size → (Value.slice (some ⟨gb, 0, none⟩) xs.length c).ownBlock ≠ some k → (grow (putRow (Value.int .i64) (Sort.ahead w m) gb 0 (sortI xs).toArray) os).heap[k]? = w.heap[k]? := by
      intro k hk hne
      have hne2 : gb ≠ k := fun e => hne (by rw [e]; simp [Value.ownBlock])
      rw [heap_grow_old _ _ (by simpa [putRow, mapBlock, Sort.ahead] using hk)]
      simp [putRow, mapBlock, Sort.ahead, Array.getElem?_modify, hne2]
    have hsize : w.heap.size ≤ (grow (putRow (Value.int .i64) (Sort.ahead w m) gb 0 (sortI xs).toArray) os).heap.size := by simp [grow, putRow, mapBlock, Sort.ahead]
    have h1 : (grow (putRow (Value.int .i64) (Sort.ahead w m) gb 0 (sortI xs).toArray) os).os = w.os := rfl
    have h2 : (grow (putRow (Value.int .i64) (Sort.ahead w m) gb 0 (sortI xs).toArray) os).tape = w.tape := rfl
    have h3 : (grow (putRow (Value.int .i64) (Sort.ahead w m) gb 0 (sortI xs).toArray) os).output = w.output := rfl
    generalize grow (putRow (Value.int .i64) (Sort.ahead w m) gb 0 (sortI xs).toArray) os = w1 at *
    have kp : Keep w.heap S w1.heap S := ⟨hsize, fun k hk hn => ⟨hn, hold k hk (fun e => hn (hown k e).1)⟩⟩
    refine ⟨_, rfl, rfl, ⟨⟨h1.trans cx.bel.os, h2.trans cx.bel.tape, h3.trans cx.bel.output, Nat.le_trans cx.bel.size hsize, fun k hk hn => (hold k (by have := cx.size; omega) (fun e => ?_)).trans (cx.bel.block k hk hn)⟩, cx.sub, fun b hb => Nat.lt_of_lt_of_le (cx.lt b hb) hsize, cx.lt0⟩, hold, kp, ?_⟩
    · rcases hW k (hown k e).2 with h | h
      · exact hn h
      · omega
    · refine ⟨fun k hk => ⟨(hs0 k hk).1, (hs0 k hk).2⟩, (sortI xs).map (.int .i64), ⟨by simp [tInt], .inr ⟨gb, c, _, by rw [sortI_len], hb1, by rw [sortI_len]; exact hnc, hm, by simpa [putCells, tInt] using hcs, ?_⟩⟩, els_ints.2 rfl⟩
      rw [sortI_len, hsz, Nat.mul_one]
      apply List.ext_getElem?
      intro t
      by_cases hs : t < xs.length
      · rw [List.getElem?_take_of_lt hs, Array.getElem?_toList]
        have hlt : t < cur.size := by omega
        simp only [putCells, Array.getElem?_mapIdx, Array.getElem?_eq_getElem hlt, Option.map_some, List.size_toArray, hpl, Nat.zero_le, Nat.zero_add, hs, and_self, if_true, Nat.sub_zero]
        have hlt2 : t < (sortI xs).length := by rw [sortI_len]; exact hs
        rw [List.getElem?_map, List.getElem?_eq_getElem hlt2]
        simp
        rw [List.getElem?_eq_getElem hlt2]; rfl
      · rw [List.getElem?_take_eq_none (by omega), List.getElem?_eq_none (by rw [List.length_map, sortI_len]; omega)]
end Go.V
