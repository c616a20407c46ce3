/- slices.SortFunc of structs whose first cell is a small number, by that number; slices.Sort of numbers: on slices of the call's own. Its conditions: none. -/
import Derived.Test.YtfhehbfifffipaaVMore
import Derived.Shelf.SlSortCmp.NoneTotal
namespace Go.V
open Go.RowKit

def insK {α : Type} (key : α → Int) (x : α) : List α → List α
  | [] => [x]
  | y :: r => if key x ≤ key y then x :: y :: r else y :: insK key x r
def sortK {α : Type} (key : α → Int) : List α → List α
  | [] => []
  | x :: r => insK key x (sortK key r)
def distK {α : Type} (key : α → Int) : List α → Bool
  | [] => true
  | x :: r => r.all (fun y => key x != key y) && distK key r
def soOk {α : Type} (key : α → Int) (xs : List α) : Bool := decide (xs.length < 4611686018427387904) && xs.all (fun x => decide (0 ≤ key x) && decide (key x < 4294967296)) && distK key xs

theorem insK_perm {α : Type} (key : α → Int) (x : α) : ∀ l : List α, (insK key x l).Perm (x :: l)
  | [] => List.Perm.refl _
  | y :: r => by
    unfold insK
    split
    · exact List.Perm.refl _
    · exact ((insK_perm key x r).cons y).trans (List.Perm.swap x y r)
theorem sortK_perm {α : Type} (key : α → Int) : ∀ l : List α, (sortK key l).Perm l
  | [] => List.Perm.refl _
  | x :: r => (insK_perm key x _).trans ((sortK_perm key r).cons x)
theorem sortK_len {α : Type} (key : α → Int) (l : List α) : (sortK key l).length = l.length := (sortK_perm key l).length_eq
theorem insK_sorted {α : Type} (key : α → Int) (x : α) : ∀ l : List α, l.Pairwise (fun a b => key a ≤ key b) → (insK key x l).Pairwise (fun a b => key a ≤ key b)
  | [], _ => by simp [insK]
  | y :: r, h => by
    obtain ⟨h1, h2⟩ := List.pairwise_cons.1 h
    unfold insK
    split
    · rename_i hb
      refine List.pairwise_cons.2 ⟨fun q hq => ?_, h⟩
      rcases List.mem_cons.1 hq with rfl | hq
      · exact hb
      · exact Int.le_trans hb (h1 q hq)
    · rename_i hb
      refine List.pairwise_cons.2 ⟨fun q hq => ?_, insK_sorted key x r h2⟩
      rcases List.mem_cons.1 ((insK_perm key x r).mem_iff.1 hq) with rfl | hq
      · omega
      · exact h1 q hq
theorem sortK_sorted {α : Type} (key : α → Int) : ∀ l : List α, (sortK key l).Pairwise (fun a b => key a ≤ key b)
  | [] => List.Pairwise.nil
  | x :: r => insK_sorted key x _ (sortK_sorted key r)
theorem distK_pair {α : Type} (key : α → Int) : ∀ l : List α, distK key l = true ↔ l.Pairwise (fun a b => key a ≠ key b)
  | [] => by simp [distK]
  | x :: r => by simp [distK, distK_pair key r]
theorem sorted_unique {α : Type} (key : α → Int) : ∀ l m : List α, l.Perm m → l.Pairwise (fun a b => key a < key b) → m.Pairwise (fun a b => key a < key b) → l = m
  | [], m, h, _, _ => (List.Perm.nil_eq h)
  | x :: l, [], h, _, _ => by have := h.length_eq; simp at this
  | x :: l, y :: m, h, h1, h2 => by
    obtain ⟨a1, a2⟩ := List.pairwise_cons.1 h1
    obtain ⟨b1, b2⟩ := List.pairwise_cons.1 h2
    have e : x = y := by
      rcases List.mem_cons.1 (h.mem_iff.1 (List.mem_cons_self ..)) with e | hx
      · exact e
      · rcases List.mem_cons.1 (h.mem_iff.2 (List.mem_cons_self ..)) with e | hy
        · exact e.symm
        · have := b1 x hx; have := a1 y hy; omega
    subst e
    rw [sorted_unique key l m (List.Perm.cons_inv h) a2 b2]
theorem pair_strict {α : Type} (key : α → Int) {l : List α} (h : l.Pairwise (fun a b => key a ≤ key b)) (h2 : l.Pairwise (fun a b => key a ≠ key b)) : l.Pairwise (fun a b => key a < key b) := by
  have := h.and h2
  exact this.imp (fun ⟨h1, h2⟩ => by omega)
/-- What is sorted, of the same things, each of a key of its own, is sortK. -/
theorem sortK_of {α : Type} (key : α → Int) {l m : List α} (hp : l.Perm m) (hs : l.Pairwise (fun a b => key a ≤ key b)) (hd : distK key m = true) : l = sortK key m := by
  have hd' := (distK_pair key m).1 hd
  have d1 : l.Pairwise (fun a b => key a ≠ key b) := (hp.pairwise_iff (fun {a b} (h : key a ≠ key b) => h.symm)).2 hd'
  have d2 : (sortK key m).Pairwise (fun a b => key a ≠ key b) := ((sortK_perm key m).pairwise_iff (fun {a b} (h : key a ≠ key b) => h.symm)).2 hd'
  exact sorted_unique key _ _ (hp.trans (sortK_perm key m).symm) (pair_strict key hs d1) (pair_strict key (sortK_sorted key m) d2)

/-- Two lists, one by one in a relation. -/
inductive All2 {α β : Type} (R : α → β → Prop) : List α → List β → Prop
  | nil : All2 R [] []
  | cons {a b l m} (h : R a b) (t : All2 R l m) : All2 R (a :: l) (b :: m)
theorem All2.perm {α β : Type} {R : α → β → Prop} {l l' : List α} (h : l.Perm l') : ∀ {m : List β}, All2 R l m → ∃ m', m.Perm m' ∧ All2 R l' m' := by
  induction h with
  | nil => intro m h; exact ⟨m, .refl _, h⟩
  | cons x _ ih =>
    intro m h
    cases h with
    | cons h t =>
      obtain ⟨m', hp, h2⟩ := ih t
      exact ⟨_ :: m', hp.cons _, .cons h h2⟩
  | swap x y l =>
    intro m h
    cases h with
    | cons h t =>
      cases t with
      | cons h2 t => exact ⟨_ :: _ :: _, List.Perm.swap _ _ _, .cons h2 (.cons h t)⟩
  | trans _ _ ih1 ih2 =>
    intro m h
    obtain ⟨m1, p1, h1⟩ := ih1 h
    obtain ⟨m2, p2, h2⟩ := ih2 h1
    exact ⟨m2, p1.trans p2, h2⟩
theorem All2.length {α β : Type} {R : α → β → Prop} {l : List α} {m : List β} (h : All2 R l m) : l.length = m.length := by
  induction h with
  | nil => rfl
  | cons _ _ ih => simp [ih]
theorem All2.get {α β : Type} {R : α → β → Prop} {l : List α} {m : List β} (h : All2 R l m) : ∀ (i : Nat) (a : α) (b : β), l[i]? = some a → m[i]? = some b → R a b := by
  induction h with
  | nil => intro i a b h; simp at h
  | cons h _ ih =>
    intro i a b h1 h2
    cases i with
    | zero => simp at h1 h2; subst h1; subst h2; exact h
    | succ i => exact ih i a b (by simpa using h1) (by simpa using h2)
theorem All2.of {α β : Type} {R : α → β → Prop} : ∀ {l : List α} {m : List β}, l.length = m.length → (∀ (i : Nat) (a : α) (b : β), l[i]? = some a → m[i]? = some b → R a b) → All2 R l m
  | [], [], _, _ => .nil
  | [], _ :: _, h, _ => by simp at h
  | _ :: _, [], h, _ => by simp at h
  | a :: l, b :: m, h, h2 => .cons (h2 0 a b rfl rfl) (All2.of (by simpa using h) fun i x y hx hy => h2 (i + 1) x y (by simpa using hx) (by simpa using hy))
theorem All2.pair {α β : Type} {R : α → β → Prop} {f : α → Int} {g : β → Int} (hR : ∀ a b, R a b → f a = g b) {l : List α} {m : List β} (h : All2 R l m) (hp : l.Pairwise (fun a b => f a ≤ f b)) : m.Pairwise (fun a b => g a ≤ g b) := by
  induction h with
  | nil => exact List.Pairwise.nil
  | cons h t ih =>
    rename_i a b l m
    obtain ⟨h1, h2⟩ := List.pairwise_cons.1 hp
    refine List.pairwise_cons.2 ⟨fun y hy => ?_, ih h2⟩
    obtain ⟨i, hi, rfl⟩ := List.mem_iff_getElem.1 hy
    have hl : i < l.length := by rw [t.length]; exact hi
    have := t.get i l[i] m[i] (by simp [hl]) (by simp [hi])
    rw [← hR _ _ h, ← hR _ _ this]
    exact h1 _ (List.getElem_mem hl)

/-- A struct of three cells, the first one a small number. -/
structure RawHop where
  to : Int
  turn : Int
  st : Value
  lo : 0 ≤ to
  hi : to < 4294967296
  h1 : st.oneCell' = true
instance : Inhabited RawHop := ⟨⟨0, 0, .slice none 0 0, by decide, by decide, rfl⟩⟩
def RawHop.cells (x : RawHop) : List Value := [.int .i64 x.to, .int .i64 x.turn, x.st]
def RawHop.less (x y : RawHop) : Int := x.to - y.to
theorem RawHop.swo : Go.Sort.SWO (Go.Proofs.ltOf RawHop.less) where
  irrefl x := by simp [Go.Proofs.ltOf, RawHop.less]
  trans x y z h1 h2 := by simp only [Go.Proofs.ltOf, decide_eq_true_eq] at *; simp only [RawHop.less] at *; omega
  ntrans x y z h1 h2 := by simp only [Go.Proofs.ltOf, decide_eq_false_iff_not] at *; simp only [RawHop.less] at *; omega
theorem RawHop.wrap (x y : RawHop) : IntKind.i64.wrap (x.to - y.to) = x.to - y.to := by
  have := x.lo; have := x.hi; have := y.lo; have := y.hi
  simp [IntKind.wrap, IntKind.bits, IntKind.signed]; omega

section
variable {α : Type} {T : Ty α} {key : α → Int}
open Go.Sort in
theorem get_flat_cells (d : Array RawHop) (i j : Nat) (hi : i < d.size) (hj : j < 3) : (flatK RawHop.cells 3 d)[i * 3 + j]! = (d[i]!.cells)[j]! := by
  rw [get_flatK _ _ _ _ (by omega)]
  rw [show (i * 3 + j) / 3 = i from by omega, show (i * 3 + j) % 3 = j from by omega]

open Go.Sort in
/-- The raw elements of a block. -/
theorem raws_of {H : Heap} {S : Off} (hsh : ∀ cs x, T.R H S cs x → ∃ turn st, cs = [.int .i64 (key x), .int .i64 turn, st]) (hsz : T.sz = 3) :
    ∀ (xs : List α) (cs : List Value), Els T H S cs xs → (∀ x ∈ xs, 0 ≤ key x ∧ key x < 4294967296) → ∃ ds : List RawHop, All2 (fun (r : RawHop) x => T.R H S r.cells x ∧ r.to = key x) ds xs ∧ cs = (ds.map RawHop.cells).flatten
  | [], cs, h, _ => ⟨[], .nil, by have := h.1; simp at this; simpa using this⟩
  | x :: xs, cs, h, hk => by
    have h0 := h.2 0 x (by simp)
    simp only [Nat.zero_mul, List.drop_zero] at h0
    obtain ⟨turn, st, e⟩ := hsh _ _ h0
    have h1 : st.oneCell' = true := T.one h0 st (by rw [e]; simp)
    have ht : Els T H S (cs.drop T.sz) xs := by
      have := h.tail 1
      simpa using this
    obtain ⟨ds, ha, hc⟩ := raws_of hsh hsz xs _ ht (fun y hy => hk y (by simp [hy]))
    have hx := hk x (by simp)
    refine ⟨⟨key x, turn, st, hx.1, hx.2, h1⟩ :: ds, .cons ⟨by rw [e] at h0; exact h0, rfl⟩ ha, ?_⟩
    rw [List.map_cons, List.flatten_cons, ← hc]
    conv => lhs; rw [← List.take_append_drop T.sz cs]
    rw [e]; rfl

theorem els_of_raws {H : Heap} {S : Off} {ds : List RawHop} {xs : List α} (h : All2 (fun (r : RawHop) x => T.R H S r.cells x) ds xs) : Els T H S (ds.map RawHop.cells).flatten xs := by
  induction h with
  | nil => exact Els.nil
  | cons h _ ih =>
    have := (Els.one h).append ih
    simpa using this

theorem flat_len : ∀ ds : List RawHop, ((ds.map RawHop.cells).flatten).length = ds.length * 3
  | [] => rfl
  | d :: ds => by rw [List.map_cons, List.flatten_cons, List.length_append, flat_len ds]; simp [RawHop.cells]; omega
theorem flat_get : ∀ (ds : List RawHop) (i j : Nat) (hi : i < ds.length), j < 3 → ((ds.map RawHop.cells).flatten)[i * 3 + j]? = (ds[i].cells)[j]?
  | d :: ds, 0, j, hi, hj => by
    simp only [List.map_cons, List.flatten_cons, Nat.zero_mul, Nat.zero_add, List.getElem_cons_zero]
    rw [List.getElem?_append_left (by simp [RawHop.cells]; omega)]
  | d :: ds, i + 1, j, hi, hj => by
    simp only [List.map_cons, List.flatten_cons, List.getElem_cons_succ]
    rw [List.getElem?_append_right (by simp [RawHop.cells]; omega)]
    have := flat_get ds i j (by simpa using hi) hj
    rw [← this]
    congr 1
    simp [RawHop.cells]; omega

open Go.Sort in
theorem holds_raw {w : World} {g : Nat} {cur : Array Value} {e : TypeId} {ds : List RawHop} (hg : w.heap[g]? = some (.cells cur e (0, 0))) (ht : cur.toList.take (ds.length * 3) = (ds.map RawHop.cells).flatten) : HoldsK RawHop.cells 3 w g 0 ds.toArray := by
  intro t hs
  simp only [size_flatK, List.size_toArray] at hs
  refine ⟨?_, by simp [World.frozen?, hg]⟩
  obtain ⟨i, j, hj, rfl⟩ : ∃ i j, j < 3 ∧ t = i * 3 + j := ⟨t / 3, t % 3, by omega, by omega⟩
  have hi : i < ds.length := by omega
  rw [get_flat_cells _ _ _ (by simpa using hi) hj]
  have h1 : (cur.toList.take (ds.length * 3))[i * 3 + j]? = (ds[i].cells)[j]? := by rw [ht]; exact flat_get ds i j hi hj
  rw [List.getElem?_take_of_lt hs] at h1
  rw [cellH_cell]
  unfold cellH
  rw [hg]
  simp only [Nat.zero_add]
  rw [← Array.getElem?_toList, h1]
  have hl : j < (ds[i].cells).length := by simp [RawHop.cells]; omega
  simp [hi, hl]

open Go.Sort in
theorem take_flat (cur : Array Value) (d : Array RawHop) (h : d.size * 3 ≤ cur.size) : (putCells id 0 (flatK RawHop.cells 3 d) cur).toList.take (d.size * 3) = (d.toList.map RawHop.cells).flatten := by
  apply List.ext_getElem?
  intro t
  by_cases hs : t < d.size * 3
  · obtain ⟨i, j, hj, rfl⟩ : ∃ i j, j < 3 ∧ t = i * 3 + j := ⟨t / 3, t % 3, by omega, by omega⟩
    have hi : i < d.size := by omega
    rw [flat_get d.toList i j (by simpa using hi) hj]
    rw [List.getElem?_take_of_lt hs, Array.getElem?_toList]
    have h2 := get_flat_cells d i j hi hj
    have hl : j < (d[i].cells).length := by simp [RawHop.cells]; omega
    have hlt : i * 3 + j < cur.size := by omega
    simp only [putCells, Array.getElem?_mapIdx, Array.getElem?_eq_getElem hlt, Option.map_some, size_flatK, Nat.zero_le, Nat.zero_add, hs, and_self, if_true, Nat.sub_zero, id, h2]
    simp [hi, hl]
  · rw [List.getElem?_take_eq_none (by omega), List.getElem?_eq_none (by rw [flat_len]; simp; omega)]

open Go.Sort Go.Shelf Go.Proofs in
/-- slices.SortFunc on a slice of the call's own. -/
theorem sort_ow {P : Program} {ρ : Ren} (L : SlLaysF0.n6 P ρ) (hagg : ∀ w, (isAgg (ρ.t 24)).run P w = .ok true w) (hszt : ∀ w, (Go.sizeOf (ρ.t 24)).run P w = .ok 3 w) {g : Nat} (eg : ∀ args w, (callFunc g args).run P w = .ok (.enter g args) w)
    (hcl : ∀ (x y : RawHop) (w : World), Calls P g #[.agg x.cells.toArray, .agg y.cells.toArray] w fun e w' => e = .returned (.int .i64 (x.to - y.to)) ∧ ∃ q os', w' = grow (w.drewN q) os')
    {w : World} {S M : Off} {e : TypeId} {A : Option Addr} {c : Nat} {xs : List α} (hsh : ∀ (S : Off) cs x, T.R w.heap S cs x → ∃ turn st, cs = [.int .i64 (key x), .int .i64 turn, st]) (hsz : T.sz = 3)
    (ho : Ow T e M w.heap S (.slice A xs.length c) xs) (hok : soOk key xs = true) :
    Calls P (ρ.f 6) #[.slice A xs.length c, .func (.func g) #[] #[]] w fun ee w1 => ee = .returned (.tuple #[]) ∧ w1.os = w.os ∧ w1.tape = w.tape ∧ w1.output = w.output ∧ w.heap.size ≤ w1.heap.size ∧
      (∀ k, k < w.heap.size → (Value.slice A xs.length c).ownBlock ≠ some k → w1.heap[k]? = w.heap[k]?) ∧ (∀ S1, Keep w.heap S w1.heap S1 → (∀ k, S k → S1 k) → Ow T e M w1.heap S1 (.slice A xs.length c) (sortK key xs)) := by
  simp only [soOk, Bool.and_eq_true, List.all_eq_true, decide_eq_true_eq] at hok
  obtain ⟨hs0, cs, ⟨hcl0, hrow⟩, hels⟩ := ho
  rcases hrow with ⟨hv, h0⟩ | ⟨gb, cap, cur, hv, hgb, hnc, hm, hcs, htake⟩
  · have hx : xs = [] := List.eq_nil_of_length_eq_zero h0
    subst hx
    simp at hv
    obtain ⟨rfl, rfl⟩ := hv
    refine (AnyF.slices_SortFunc_none L none 0 _ w).mono ?_
    rintro ee w1 ⟨rfl, rfl⟩
    refine ⟨rfl, rfl, rfl, rfl, Nat.le_refl _, fun _ _ _ => rfl, fun S1 _ _ => ⟨fun k hk => by simp [Value.ownBlock] at hk, [], ⟨by simp [sortK], .inl ⟨rfl, rfl⟩⟩, Els.nil⟩⟩
  · simp at hv
    obtain ⟨rfl, rfl⟩ := hv
    rw [hsz] at hcl0 hcs htake
    obtain ⟨ds, hall, hflat⟩ := raws_of (T := T) (key := key) (hsh S) hsz xs cs hels hok.1.2
    have hdl : ds.length = xs.length := hall.length
    have hH : HoldsK RawHop.cells 3 w gb 0 ds.toArray := holds_raw hgb (by rw [hdl, htake, hflat])
    have hgl : gb < w.heap.size := getElem?_lt hgb
    have hS := AnyQ.slices_SortFunc L 3 hagg hszt RawHop.cells (fun _ => rfl) (fun x v hv => by
        simp only [RawHop.cells, List.mem_cons, List.not_mem_nil, or_false] at hv
        rcases hv with rfl | rfl | rfl
        · rfl
        · rfl
        · exact x.h1) RawHop.less RawHop.swo g #[] gb 0 c ds.toArray w eg (fun m os dk _ x y => hcl x y _) hH hgl (by simp only [List.size_toArray, hdl]; exact hok.1.1)
    rw [List.size_toArray, hdl] at hS
    refine hS.mono ?_
    rintro ee w1 ⟨rfl, d', m, os, hp, hso, rfl⟩
    obtain ⟨hp1, _, hp3⟩ := hp
    simp only [List.size_toArray, hdl] at hp1
    have e1 : d'.extract 0 xs.length = d' := by rw [← hp1]; exact Array.extract_size
    have e2 : ds.toArray.extract 0 xs.length = ds.toArray := by rw [← hdl]; simp
    rw [e1, e2] at hp3
    simp only at hp3
    obtain ⟨xs', hpx, hall'⟩ := hall.perm hp3.symm
    have hxl : xs'.length = xs.length := hpx.symm.length_eq
    have hpw : xs'.Pairwise (fun a b => key a ≤ key b) := by
      refine All2.pair (f := RawHop.to) (fun a b h => h.2) hall' ?_
      rw [List.pairwise_iff_getElem]
      intro i j hi hj hij
      have h3 := hso i j (Nat.zero_le _) hij (by simp at hj; omega)
      simp at hi hj
      rw [getElem!_pos d' i hi, getElem!_pos d' j hj] at h3
      simp only [ltOf, decide_eq_false_iff_not] at h3
      simp only [RawHop.less] at h3
      simp only [Array.getElem_toList]
      omega
    have hxs : xs' = sortK key xs := sortK_of key hpx.symm hpw hok.2
    subst hxs
    have hb1 : (sortWorldK RawHop.cells 3 w gb 0 m d' os).heap[gb]? = some (.cells (putCells id 0 (flatK RawHop.cells 3 d') cur) e (0, 0)) := by
      unfold sortWorldK putRowK
      rw [heap_grow_old _ _ (by simpa using hgl)]
      simp [putRow, mapBlock, Sort.ahead, Array.getElem?_modify, hgb, onCells]
    refine ⟨rfl, rfl, rfl, rfl, by simp [sortWorldK, putRowK], fun k hk hne => ?_, fun S1 kp hs1 => ⟨fun k hk => ⟨hs1 k (hs0 k hk).1, (hs0 k hk).2⟩, (d'.toList.map RawHop.cells).flatten, ⟨?_, .inr ⟨gb, c, _, by rw [sortK_len], hb1, by rw [sortK_len]; exact hnc, hm, by rw [hsz]; simpa [putCells] using hcs, ?_⟩⟩, ?_⟩⟩
    · have hne2 : gb ≠ k := fun e => hne (by rw [e]; simp [Value.ownBlock])
      unfold sortWorldK putRowK
      rw [heap_grow_old _ _ (by simpa using hk)]
      simp [putRow, mapBlock, Sort.ahead, Array.getElem?_modify, hne2]
    · rw [flat_len, hsz, sortK_len]; simp [hp1]
    · rw [hsz, sortK_len]
      have := take_flat cur d' (by rw [hp1, hcs]; omega)
      rw [hp1] at this; exact this
    · have h4 : All2 (fun (r : RawHop) x => T.R w.heap S r.cells x) d'.toList (sortK key xs) := All2.of hall'.length fun i a b h1 h2 => (hall'.get i a b h1 h2).1
      exact (els_of_raws h4).keep kp

open Go.Sort Go.Shelf Go.Proofs in
/-- The same, as an operation of a call. -/
theorem sort_call {P : Program} {ρ : Ren} {f g : FuncId} (L : SlLaysF0.n6 P ρ) (hf : ρ.f 6 = f) (hagg : ∀ w, (isAgg (ρ.t 24)).run P w = .ok true w) (hszt : ∀ w, (Go.sizeOf (ρ.t 24)).run P w = .ok 3 w) (eg : ∀ args w, (callFunc g args).run P w = .ok (.enter g args) w)
    (hcl : ∀ (x y : RawHop) (w : World), Calls P g #[.agg x.cells.toArray, .agg y.cells.toArray] w fun e w' => e = .returned (.int .i64 (x.to - y.to)) ∧ ∃ q os', w' = grow (w.drewN q) os')
    {w w0 : World} {W0 Wf S0 S : Off} {e : TypeId} {A : Option Addr} {c : Nat} {xs : List α} (cx : Cx w0 W0 S0 w S) (hW : ∀ k, Wr Wf w0 k → Wr W0 w0 k) (hsh : ∀ (S : Off) cs x, T.R w.heap S cs x → ∃ turn st, cs = [.int .i64 (key x), .int .i64 turn, st]) (hsz : T.sz = 3)
    (ho : Ow T e (Wr Wf w0) w.heap S (.slice A xs.length c) xs) (hok : soOk key xs = true) :
    Calls P f #[.slice A xs.length c, .func (.func g) #[] #[]] w fun ee w1 => ∃ v, ee = .returned v ∧ v = .tuple #[] ∧ Cx w0 W0 S0 w1 S ∧
      (∀ k, k < w.heap.size → (Value.slice A xs.length c).ownBlock ≠ some k → w1.heap[k]? = w.heap[k]?) ∧ Keep w.heap S w1.heap S ∧ Ow T e (Wr Wf w0) w1.heap S (.slice A xs.length c) (sortK key xs) := by
  subst hf
  have hown := ho.own
  refine (sort_ow L hagg hszt eg hcl hsh hsz ho hok).mono ?_
  rintro ee w1 ⟨rfl, h1, h2, h3, h4, h5, h6⟩
  have kp : Keep w.heap S w1.heap S := ⟨h4, fun k hk hn => ⟨hn, h5 k hk (fun e => hn (hown k e).1)⟩⟩
  refine ⟨_, rfl, rfl, ⟨⟨h1.trans cx.bel.os, h2.trans cx.bel.tape, h3.trans cx.bel.output, Nat.le_trans cx.bel.size h4, fun k hk hn => (h5 k (by have := cx.size; omega) (fun e => ?_)).trans (cx.bel.block k hk hn)⟩, cx.sub, fun b hb => Nat.lt_of_lt_of_le (cx.lt b hb) h4, cx.lt0⟩, h5, kp, h6 S kp (fun _ h => h)⟩
  rcases hW k (hown k e).2 with h | h
  · exact hn h
  · omega
end
end Go.V
