/- How values read as data: types, slices, blocks of the call's own; what is kept from heap to heap. Its conditions: none. -/
import Derived.Test.YtjkoiijpmiibpaaVCode
import Derived.Below
import Derived.Laws.OwnMore
import Derived.Laws.MakeOwn
import Derived.Deep.Draws
import Derived.Deep.AppendLies
namespace Go.V
open Go.RowKit

abbrev Heap := Array Obj
abbrev Off := Nat → Prop

/-- From heap H, the blocks in S apart, to heap H', those in S' apart. -/
structure Keep (H : Heap) (S : Off) (H' : Heap) (S' : Off) : Prop where
  size : H.size ≤ H'.size
  blk : ∀ b, b < H.size → ¬ S b → ¬ S' b ∧ H'[b]? = H[b]?

theorem Keep.refl (H : Heap) (S : Off) : Keep H S H S := ⟨Nat.le_refl _, fun _ _ h => ⟨h, rfl⟩⟩
theorem Keep.trans {H H1 H2 : Heap} {S S1 S2 : Off} (h : Keep H S H1 S1) (k : Keep H1 S1 H2 S2) : Keep H S H2 S2 :=
  ⟨Nat.le_trans h.size k.size, fun b hb hs => by
    obtain ⟨h1, h2⟩ := h.blk b hb hs
    obtain ⟨k1, k2⟩ := k.blk b (Nat.lt_of_lt_of_le hb h.size) h1
    exact ⟨k1, k2.trans h2⟩⟩
theorem Keep.less {H : Heap} {S S' : Off} (h : ∀ b, S' b → S b) : Keep H S H S' := ⟨Nat.le_refl _, fun b _ hn => ⟨fun h' => hn (h b h'), rfl⟩⟩

/-- A type: how many cells, and how they read. -/
structure Ty (α : Type) where
  sz : Nat
  R : Heap → Off → List Value → α → Prop
  len : ∀ {H S cs x}, R H S cs x → cs.length = sz
  one : ∀ {H S cs x}, R H S cs x → ∀ v ∈ cs, v.oneCell' = true
  keep : ∀ {H S H' S' cs x}, Keep H S H' S' → R H S cs x → R H' S' cs x

def cellH (H : Heap) (b o : Nat) : Option Value :=
  match H[b]? with
  | some (.cells c _ _) => c[o]?
  | _ => none

theorem cellH_cell (w : World) (b o : Nat) : w.cell? ⟨b, o, none⟩ = cellH w.heap b o := by
  unfold World.cell? cellH
  simp only
  cases w.heap[b]? with
  | none => rfl
  | some o => cases o <;> simp
theorem cellH_lt {H : Heap} {b o : Nat} {v : Value} (h : cellH H b o = some v) : b < H.size := by
  unfold cellH at h
  rcases Nat.lt_or_ge b H.size with hl | hl
  · exact hl
  · rw [Array.getElem?_eq_none hl] at h; cases h
theorem cellH_eq {H H' : Heap} {b o : Nat} (h : H'[b]? = H[b]?) : cellH H' b o = cellH H b o := by unfold cellH; rw [h]

/-- A slice whose cells read as a list. -/
def Rdb {α : Type} (T : Ty α) (H : Heap) (S : Off) (A : Option Addr) (xs : List α) : Prop :=
  ∀ (i : Nat) (x : α), xs[i]? = some x → ∃ b o cs, A = some ⟨b, o, none⟩ ∧ T.R H S cs x ∧ ∀ j v, cs[j]? = some v → cellH H b (o + i * T.sz + j) = some v

/-- The same, where nobody writes. -/
def Sl {α : Type} (T : Ty α) (H : Heap) (S : Off) (A : Option Addr) (c : Nat) (xs : List α) : Prop :=
  xs.length ≤ c ∧ (xs ≠ [] → ∃ b o, A = some ⟨b, o, none⟩ ∧ b < H.size ∧ ¬ S b) ∧ Rdb T H S A xs

theorem Sl.rdb {α : Type} {T : Ty α} {H : Heap} {S : Off} {A : Option Addr} {c : Nat} {xs : List α} (h : Sl T H S A c xs) : Rdb T H S A xs := h.2.2
theorem Sl.keep {α : Type} {T : Ty α} {H H' : Heap} {S S' : Off} {A : Option Addr} {c : Nat} {xs : List α} (k : Keep H S H' S') (h : Sl T H S A c xs) : Sl T H' S' A c xs := by
  refine ⟨h.1, fun hx => ?_, fun i x hx => ?_⟩
  · obtain ⟨b, o, hA, hb, hs⟩ := h.2.1 hx
    exact ⟨b, o, hA, Nat.lt_of_lt_of_le hb k.size, (k.blk b hb hs).1⟩
  · have hne : xs ≠ [] := by rintro rfl; simp at hx
    obtain ⟨b, o, hA, hb, hs⟩ := h.2.1 hne
    obtain ⟨b', o', cs, hA', hr, hc⟩ := h.2.2 i x hx
    obtain ⟨rfl, rfl⟩ : b = b' ∧ o = o' := by rw [hA] at hA'; simpa using hA'
    exact ⟨b, o, cs, hA, T.keep k hr, fun j v hj => by rw [cellH_eq (k.blk b hb hs).2]; exact hc j v hj⟩
theorem Sl.nil {α : Type} {T : Ty α} {H : Heap} {S : Off} {A : Option Addr} {c : Nat} : Sl T H S A c [] := ⟨by simp, fun h => absurd rfl h, fun i x hx => by simp at hx⟩

abbrev W (n : Int) : Int := IntKind.i64.wrap n
def band (k : IntKind) (a b : Int) : Int := k.wrap (BitVec.ofInt k.bits a &&& BitVec.ofInt k.bits b).toNat
def shr (k : IntKind) (a b : Int) : Int := a.fdiv (2 ^ min b.toNat k.bits)
theorem ite_t {α : Sort _} {b : Bool} {x y : α} (h : b = true) : (if b then x else y) = x := if_pos h
theorem ite_f {α : Sort _} {b : Bool} {x y : α} (h : b = false) : (if b then x else y) = y := if_neg (by rw [h]; decide)
theorem ite_some {α : Type _} {b : Bool} {x : Option α} {r : α} (h : (if b then x else none) = some r) : b = true ∧ x = some r := by
  cases b with
  | true => exact ⟨rfl, h⟩
  | false => cases h
theorem obind {α β : Type _} {m : Option α} {f : α → Option β} {r : β} (h : Option.bind m f = some r) : ∃ x, m = some x ∧ f x = some r := by
  cases m with
  | none => cases h
  | some x => exact ⟨x, rfl, h⟩
theorem split_b {G : Prop} {n t : Nat} {b : Bool} {l : FL} {a : Act} (ha : Ag n l a) (hl : look? l t = some (.bool b)) (ht : b = true → Ag n ((t, .bool true) :: l) a → G) (hf : b = false → Ag n ((t, .bool false) :: l) a → G) : G := by
  have key : ∀ b', b = b' → Ag n ((t, .bool b') :: l) a := fun b' e => ⟨ha.size, ha.defers, fun k v hk => by
    simp only [look?] at hk
    by_cases e2 : t = k
    · subst e2; simp only [if_true, Option.some.injEq] at hk; subst hk; subst e; exact ha.slot _ _ hl
    · rw [if_neg e2] at hk; exact ha.slot k v hk⟩
  cases b with
  | true => exact ht rfl (key true rfl)
  | false => exact hf rfl (key false rfl)
theorem Ag.to {n : Nat} {l l' : FL} {a : Act} (ha : Ag n l a) (h : l'.map (fun p => look? l p.1) = l'.map (fun p => some p.2)) : Ag n l' a := by
  refine ⟨ha.size, ha.defers, ?_⟩
  induction l' with
  | nil => intro k v hk; simp [look?] at hk
  | cons p r ih =>
    intro k v hk
    simp only [List.map_cons, List.cons.injEq] at h
    obtain ⟨pk, pv⟩ := p
    simp only [look?] at hk
    by_cases e : pk = k
    · subst e; simp only [if_true, Option.some.injEq] at hk; subst hk; exact ha.slot _ _ h.1
    · rw [if_neg e] at hk; exact ih h.2 k v hk
theorem wp_cutV {P : Program} {c : Code} {Q : Exit → Act → World → Prop} {D : Act → World → Prop} {a : Act} {w : World} (h : c.wp P (Exit.then D Q) a w) (hd : ∀ a w, D a w → Q .normal a w) : c.wp P Q a w :=
  wp_mono h fun e a w hq => by cases e <;> first | exact hd _ _ hq | exact hq

def gt {α : Type} [Inhabited α] (l : List α) (i : Int) : α := l.getD i.toNat default
def inb {α : Type} (l : List α) (i : Int) : Bool := decide (0 ≤ i) && decide (i < l.length)
theorem inb_iff {α : Type} {l : List α} {i : Int} (h : inb l i = true) : 0 ≤ i ∧ i < l.length := by simpa [inb] using h
theorem gt_get {α : Type} [Inhabited α] {l : List α} {i : Int} (h : inb l i = true) : l[i.toNat]? = some (gt l i) := by
  have := inb_iff h
  have hl : i.toNat < l.length := by omega
  simp [gt, hl]

theorem Rdb.get {α : Type} [Inhabited α] {T : Ty α} {H : Heap} {S : Off} {A : Option Addr} {xs : List α} (h : Rdb T H S A xs) {i : Int} (hi : inb xs i = true) :
    ∃ b o cs, A = some ⟨b, o, none⟩ ∧ T.R H S cs (gt xs i) ∧ ∀ j v, cs[j]? = some v → cellH H b (o + i.toNat * T.sz + j) = some v := h _ _ (gt_get hi)
theorem Rdb.at {α : Type} [Inhabited α] {T : Ty α} {H : Heap} {S : Off} {b o : Nat} {xs : List α} (h : Rdb T H S (some ⟨b, o, none⟩) xs) {i : Int} (hi : inb xs i = true) :
    ∃ cs, T.R H S cs (gt xs i) ∧ ∀ j v, cs[j]? = some v → cellH H b (o + i.toNat * T.sz + j) = some v := by
  obtain ⟨b', o', cs, hA, hr⟩ := h.get hi
  simp at hA
  obtain ⟨rfl, rfl⟩ := hA
  exact ⟨cs, hr⟩

def tInt (k : IntKind) : Ty Int where
  sz := 1
  R := fun _ _ cs x => cs = [.int k x]
  len := by rintro _ _ _ _ rfl; rfl
  one := by rintro _ _ _ _ rfl v hv; simp at hv; subst hv; rfl
  keep := fun _ h => h
def tBool : Ty Bool where
  sz := 1
  R := fun _ _ cs x => cs = [.bool x]
  len := by rintro _ _ _ _ rfl; rfl
  one := by rintro _ _ _ _ rfl v hv; simp at hv; subst hv; rfl
  keep := fun _ h => h
def tSl {α : Type} (T : Ty α) : Ty (List α) where
  sz := 1
  R := fun H S cs xs => ∃ (A : Option Addr) (c : Nat), cs = [.slice A xs.length c] ∧ Sl T H S A c xs
  len := by rintro _ _ _ _ ⟨_, _, rfl, _⟩; rfl
  one := by rintro _ _ _ _ ⟨_, _, rfl, _⟩ v hv; simp at hv; subst hv; rfl
  keep := fun k ⟨A, c, h1, h2⟩ => ⟨A, c, h1, h2.keep k⟩

/-- A slice value of the call's own (block B on), as cells. -/
def Row (H : Heap) (e : TypeId) (sz : Nat) (v : Value) (n : Nat) (cs : List Value) : Prop :=
  cs.length = n * sz ∧ ((v = .slice none 0 0 ∧ n = 0) ∨
   ∃ g cap cur, v = .slice (some ⟨g, 0, none⟩) n cap ∧ H[g]? = some (.cells cur e (0, 0)) ∧ n ≤ cap ∧ cap ≤ maxLen ∧ cur.size = cap * sz ∧ cur.toList.take (n * sz) = cs)
theorem Row.own {w : World} {e : TypeId} {sz : Nat} {v : Value} {n : Nat} {cs : List Value} (h : Row w.heap e sz v n cs) : w.ownsRow 0 e sz v n cs := by
  obtain ⟨h0, h1 | ⟨g, cap, cur, hv, r⟩⟩ := h
  · exact ⟨h0, .inl h1⟩
  · exact ⟨h0, .inr ⟨g, cap, cur, hv, Nat.zero_le _, r⟩⟩
theorem Row.of {w : World} {B : Nat} {e : TypeId} {sz : Nat} {v : Value} {n : Nat} {cs : List Value} (h : w.ownsRow B e sz v n cs) : Row w.heap e sz v n cs := by
  obtain ⟨h0, h1 | ⟨g, cap, cur, hv, _, r⟩⟩ := h
  · exact ⟨h0, .inl h1⟩
  · exact ⟨h0, .inr ⟨g, cap, cur, hv, r⟩⟩

/-- Cells read as a list of elements. -/
def Els {α : Type} (T : Ty α) (H : Heap) (S : Off) (cs : List Value) (xs : List α) : Prop :=
  cs.length = xs.length * T.sz ∧ ∀ (i : Nat) (x : α), xs[i]? = some x → T.R H S ((cs.drop (i * T.sz)).take T.sz) x

theorem Els.nil {α : Type} {T : Ty α} {H : Heap} {S : Off} : Els T H S [] [] := ⟨by simp, fun i x hx => by simp at hx⟩
theorem Els.keep {α : Type} {T : Ty α} {H H' : Heap} {S S' : Off} {cs : List Value} {xs : List α} (k : Keep H S H' S') (h : Els T H S cs xs) : Els T H' S' cs xs :=
  ⟨h.1, fun i x hx => T.keep k (h.2 i x hx)⟩
theorem Els.append {α : Type} {T : Ty α} {H : Heap} {S : Off} {cs ds : List Value} {xs ys : List α} (h : Els T H S cs xs) (k : Els T H S ds ys) : Els T H S (cs ++ ds) (xs ++ ys) := by
  refine ⟨by simp [h.1, k.1, Nat.add_mul], fun i x hx => ?_⟩
  rcases Nat.lt_or_ge i xs.length with hi | hi
  · rw [List.getElem?_append_left hi] at hx
    have h2 := h.2 i x hx
    have hle : i * T.sz + T.sz ≤ cs.length := by rw [h.1, ← Nat.succ_mul]; exact Nat.mul_le_mul_right _ hi
    rw [List.drop_append_of_le_length (by omega), List.take_append_of_le_length (by simp; omega)]
    exact h2
  · rw [List.getElem?_append_right hi] at hx
    have k2 := k.2 _ x hx
    have e : i * T.sz = cs.length + (i - xs.length) * T.sz := by rw [h.1, ← Nat.add_mul]; congr 1; omega
    rw [e, List.drop_append]
    have : List.drop (cs.length + (i - xs.length) * T.sz) cs = [] := List.drop_of_length_le (by omega)
    rw [this, List.nil_append]
    have e2 : cs.length + (i - xs.length) * T.sz - cs.length = (i - xs.length) * T.sz := by omega
    rw [e2]
    exact k2
theorem Els.one {α : Type} {T : Ty α} {H : Heap} {S : Off} {cs : List Value} {x : α} (h : T.R H S cs x) : Els T H S cs [x] := by
  refine ⟨by simp [T.len h], fun i y hy => ?_⟩
  cases i with
  | zero =>
    simp at hy; subst hy
    simp only [Nat.zero_mul, List.drop_zero]
    rw [List.take_of_length_le (by rw [T.len h]; exact Nat.le_refl _)]; exact h
  | succ i => simp at hy
theorem Els.oneCell {α : Type} {T : Ty α} {H : Heap} {S : Off} {cs : List Value} {xs : List α} (h : Els T H S cs xs) : ∀ v ∈ cs, v.oneCell' = true := by
  intro v hv
  obtain ⟨p, hp, rfl⟩ := List.getElem_of_mem hv
  have hp' : p < xs.length * T.sz := by rw [← h.1]; exact hp
  have hsz : 0 < T.sz := by
    rcases Nat.eq_zero_or_pos T.sz with e | e
    · rw [e] at hp'; omega
    · exact e
  have hi : p / T.sz < xs.length := (Nat.div_lt_iff_lt_mul hsz).2 hp'
  have h2 := h.2 (p / T.sz) _ (List.getElem?_eq_getElem hi)
  refine T.one h2 _ ?_
  have hmod := Nat.mod_lt p hsz
  have hdm : p / T.sz * T.sz + p % T.sz = p := by rw [Nat.mul_comm]; exact Nat.div_add_mod p T.sz
  refine List.mem_iff_getElem?.2 ⟨p % T.sz, ?_⟩
  rw [List.getElem?_take_of_lt hmod, List.getElem?_drop, hdm, List.getElem?_eq_getElem hp]

/-- A slice of the call's own: it may be written to (M), and S says so. -/
def Ow {α : Type} (T : Ty α) (e : TypeId) (M : Off) (H : Heap) (S : Off) (v : Value) (xs : List α) : Prop :=
  (∀ k, v.ownBlock = some k → S k ∧ M k) ∧ ∃ cs, Row H e T.sz v xs.length cs ∧ Els T H S cs xs

def inV (v : Value) (S : Off) : Off := fun k => v.ownBlock = some k ∨ S k

section
variable {α : Type} {T : Ty α} {e : TypeId} {M M' : Off} {H H' : Heap} {S S' : Off} {v : Value} {xs : List α}

theorem Ow.form (h : Ow T e M H S v xs) : ∃ A c, v = .slice A xs.length c := by
  obtain ⟨_, cs, ⟨_, h1⟩, _⟩ := h
  rcases h1 with ⟨rfl, h0⟩ | ⟨g, cap, cur, rfl, _⟩
  · exact ⟨none, 0, by rw [h0]⟩
  · exact ⟨_, _, rfl⟩
theorem Ow.cap {A : Option Addr} {n c : Nat} (h : Ow T e M H S (.slice A n c) xs) : xs.length ≤ c := by
  obtain ⟨_, cs, ⟨_, h1⟩, _⟩ := h
  rcases h1 with ⟨hv, h0⟩ | ⟨g, cap, cur, hv, _, hc, _⟩
  · omega
  · simp at hv; obtain ⟨_, _, rfl⟩ := hv; exact hc
theorem Ow.own (h : Ow T e M H S v xs) : ∀ k, v.ownBlock = some k → S k ∧ M k := h.1
theorem Ow.lt (h : Ow T e M H S v xs) : ∀ k, v.ownBlock = some k → k < H.size := by
  obtain ⟨_, cs, ⟨_, h1⟩, _⟩ := h
  rcases h1 with ⟨rfl, h0⟩ | ⟨g, cap, cur, rfl, hg, _⟩
  · intro k hk; simp [Value.ownBlock] at hk
  · intro k hk
    simp [Value.ownBlock] at hk
    subst hk
    exact (Array.getElem?_eq_some_iff.1 hg).1
theorem Ow.rdb {A : Option Addr} {n c : Nat} (h : Ow T e M H S (.slice A n c) xs) : Rdb T H S A xs := by
  obtain ⟨_, cs, ⟨hl, h1⟩, he⟩ := h
  intro i x hx
  have hi : i < xs.length := by
    rcases Nat.lt_or_ge i xs.length with h | h
    · exact h
    · rw [List.getElem?_eq_none h] at hx; cases hx
  rcases h1 with ⟨hv, h0⟩ | ⟨g, cap, cur, hv, hg, hnc, hm, hcs, htake⟩
  · omega
  · simp at hv
    obtain ⟨rfl, rfl, rfl⟩ := hv
    refine ⟨g, 0, _, rfl, he.2 i x hx, fun j u hj => ?_⟩
    have hjs : j < T.sz := by
      rcases Nat.lt_or_ge j T.sz with h | h
      · exact h
      · rw [List.getElem?_eq_none (by simp; omega)] at hj; cases hj
    rw [List.getElem?_take_of_lt hjs, List.getElem?_drop] at hj
    unfold cellH
    rw [hg]
    simp only
    rw [← htake] at hj
    have hle : i * T.sz + T.sz ≤ xs.length * T.sz := by rw [← Nat.succ_mul]; exact Nat.mul_le_mul_right _ hi
    rw [List.getElem?_take_of_lt (by omega)] at hj
    rw [Nat.zero_add]
    simpa using hj
theorem Ow.keep (k : Keep H S H' S') (h : Ow T e M H S v xs) (hs : ∀ b, S b → S' b) (hb : ∀ b, v.ownBlock = some b → H'[b]? = H[b]?) : Ow T e M H' S' v xs := by
  obtain ⟨h0, cs, ⟨hl, h1⟩, he⟩ := h
  refine ⟨fun k hk => ⟨hs k (h0 k hk).1, (h0 k hk).2⟩, cs, ⟨hl, ?_⟩, he.keep k⟩
  rcases h1 with h1 | ⟨g, cap, cur, rfl, hg, r⟩
  · exact .inl h1
  · exact .inr ⟨g, cap, cur, rfl, by rw [hb g (by simp [Value.ownBlock])]; exact hg, r⟩
theorem Ow.keepS (h : Ow T e M H S v xs) (hs : ∀ b, S' b → S b) (hv : ∀ b, v.ownBlock = some b → S' b) : Ow T e M H S' v xs := by
  obtain ⟨h0, cs, h1, he⟩ := h
  exact ⟨fun k hk => ⟨hv k hk, (h0 k hk).2⟩, cs, h1, he.keep (Keep.less hs)⟩
theorem Ow.weak (h : Ow T e M H S v xs) (hm : ∀ k, v.ownBlock = some k → M' k) : Ow T e M' H S v xs := ⟨fun k hk => ⟨(h.1 k hk).1, hm k hk⟩, h.2⟩
/-- It is left as it is from now on. -/
theorem Ow.freeze {A : Option Addr} {n c : Nat} (h : Ow T e M H S (.slice A n c) xs) (hs : ∀ b, S' b → S b) (hn : ∀ b, (Value.slice A n c).ownBlock = some b → ¬ S' b) : Sl T H S' A c xs := by
  refine ⟨h.cap, fun hx => ?_, ?_⟩
  · obtain ⟨_, cs, ⟨hl, h1⟩, he⟩ := h
    rcases h1 with ⟨hv, h0⟩ | ⟨g, cap, cur, hv, hg, hnc, hm, hcs, htake⟩
    · exact absurd (List.eq_nil_of_length_eq_zero h0) hx
    · simp at hv
      obtain ⟨rfl, rfl, rfl⟩ := hv
      exact ⟨g, 0, rfl, (Array.getElem?_eq_some_iff.1 hg).1, hn g (by simp [Value.ownBlock])⟩
  · have hr := h.rdb
    intro i x hx
    obtain ⟨b, o, cs, hA, hr', hc⟩ := hr i x hx
    exact ⟨b, o, cs, hA, T.keep (Keep.less hs) hr', hc⟩
theorem Ow.nil : Ow T e M H S (.slice none 0 0) [] := ⟨fun k hk => by simp [Value.ownBlock] at hk, [], ⟨by simp, .inl ⟨rfl, rfl⟩⟩, Els.nil⟩
end

/-- A block that is known whole, and that nobody writes to. -/
def Bx (H : Heap) (S : Off) (b : Nat) (t : TypeId) (cs : List Value) : Prop := H[b]? = some (.cells cs.toArray t (0, 0)) ∧ ¬ S b
/-- A block that is known whole, of the call's own. -/
def Mb (M : Off) (H : Heap) (S : Off) (b : Nat) (t : TypeId) (cs : List Value) : Prop := H[b]? = some (.cells cs.toArray t (0, 0)) ∧ S b ∧ M b

theorem getElem?_lt {H : Heap} {b : Nat} {o : Obj} (h : H[b]? = some o) : b < H.size := (Array.getElem?_eq_some_iff.1 h).1
theorem Bx.blk_lt {H : Heap} {S : Off} {b : Nat} {t : TypeId} {cs : List Value} (h : Bx H S b t cs) : b < H.size := getElem?_lt h.1
theorem Mb.blk_lt {M : Off} {H : Heap} {S : Off} {b : Nat} {t : TypeId} {cs : List Value} (h : Mb M H S b t cs) : b < H.size := getElem?_lt h.1
theorem Bx.keep {H H' : Heap} {S S' : Off} {b : Nat} {t : TypeId} {cs : List Value} (k : Keep H S H' S') (h : Bx H S b t cs) : Bx H' S' b t cs := by
  obtain ⟨h1, h2⟩ := k.blk b (getElem?_lt h.1) h.2
  exact ⟨h2.trans h.1, h1⟩
theorem Bx.cell {H : Heap} {S : Off} {b : Nat} {t : TypeId} {cs : List Value} (h : Bx H S b t cs) (j : Nat) (v : Value) (hj : cs[j]? = some v) : cellH H b j = some v := by
  unfold cellH; rw [h.1]; simpa using hj
theorem Mb.cell {M : Off} {H : Heap} {S : Off} {b : Nat} {t : TypeId} {cs : List Value} (h : Mb M H S b t cs) (j : Nat) (v : Value) (hj : cs[j]? = some v) : cellH H b j = some v := by
  unfold cellH; rw [h.1]; simpa using hj
theorem Mb.keep {M : Off} {H H' : Heap} {S S' : Off} {b : Nat} {t : TypeId} {cs : List Value} (h : Mb M H S b t cs) (hs : ∀ b, S b → S' b) (hb : H'[b]? = H[b]?) : Mb M H' S' b t cs :=
  ⟨hb.trans h.1, hs b h.2.1, h.2.2⟩

/-- But for the blocks in W0 all is as it was. -/
structure BelW (W0 : Off) (w w1 : World) : Prop where
  os : w1.os = w.os
  tape : w1.tape = w.tape
  output : w1.output = w.output
  size : w.heap.size ≤ w1.heap.size
  block : ∀ k, k < w.heap.size → ¬ W0 k → w1.heap[k]? = w.heap[k]?
def nob : Off := fun _ => False
def obs (v : Value) : Off := fun k => v.ownBlock = some k
theorem BelW.below {w w1 : World} (h : BelW nob w w1) : Below w.heap.size w w1 := ⟨h.os, h.tape, h.output, h.size, fun k hk => h.block k hk (fun h => h)⟩
theorem BelW.trans {W0 : Off} {w w1 w2 : World} (h : BelW W0 w w1) (b : Below w1.heap.size w1 w2) : BelW W0 w w2 :=
  ⟨b.os.trans h.os, b.tape.trans h.tape, b.output.trans h.output, Nat.le_trans h.size b.size, fun k hk hn => (b.block k (Nat.lt_of_lt_of_le hk h.size)).trans (h.block k hk hn)⟩
def Wr (W0 : Off) (w0 : World) : Off := fun k => W0 k ∨ w0.heap.size ≤ k

/-- Where a call stands: in world w, since world w0 (W0: what it may write to of what was there), the blocks in S being written to (S0: the callers'). -/
structure Cx (w0 : World) (W0 S0 : Off) (w : World) (S : Off) : Prop where
  bel : BelW W0 w0 w
  sub : ∀ b, S0 b → S b
  lt : ∀ b, S b → b < w.heap.size
  lt0 : ∀ b, S0 b → b < w0.heap.size

theorem Cx.start {w : World} {W0 S : Off} (hS : ∀ b, S b → b < w.heap.size) : Cx w W0 S w S := ⟨⟨rfl, rfl, rfl, Nat.le_refl _, fun _ _ _ => rfl⟩, fun _ h => h, hS, hS⟩
theorem Cx.size {w0 w : World} {W0 S0 S : Off} (h : Cx w0 W0 S0 w S) : w0.heap.size ≤ w.heap.size := h.bel.size
theorem Cx.below {w0 w : World} {S0 S : Off} (h : Cx w0 nob S0 w S) : Below w0.heap.size w0 w := h.bel.below
/-- Behind what turns nothing that was there. -/
theorem Cx.ext {w0 w w1 : World} {W0 S0 S : Off} (h : Cx w0 W0 S0 w S) (hb : Below w.heap.size w w1) : Cx w0 W0 S0 w1 S :=
  ⟨h.bel.trans hb, h.sub, fun b hbS => Nat.lt_of_lt_of_le (h.lt b hbS) hb.size, h.lt0⟩
theorem Cx.more {w0 w : World} {W0 S0 S S1 : Off} (h : Cx w0 W0 S0 w S) (hs : ∀ b, S b → S1 b) (hl : ∀ b, S1 b → b < w.heap.size) : Cx w0 W0 S0 w S1 :=
  ⟨h.bel, fun b hb => hs b (h.sub b hb), hl, h.lt0⟩
theorem Cx.mine {w0 w : World} {W0 S0 S : Off} (h : Cx w0 W0 S0 w S) {b : Nat} (hb : Wr nob w0 b) : ¬ S0 b := fun hs => by
  have := h.lt0 b hs
  rcases hb with hb | hb
  · exact hb
  · omega

theorem Keep.ext {w w1 : World} (S : Off) (hb : Below w.heap.size w w1) : Keep w.heap S w1.heap S := ⟨hb.size, fun b h hn => ⟨hn, hb.block b h⟩⟩

section
variable {P : Program}
/-- l[i], of a slice that reads as a list: its address. -/
theorem ob_idx {l : FL} {o : Oper} {T : TypeId} {x ix : Operand} {k : IntKind} {i : Int} {b off n c E sz : Nat} (w : World) (ho : o.op = .indexAddr T x ix) (hx : lk l x = .slice (some ⟨b, off, none⟩) n c) (hi : lk l ix = .int k i)
    (hT : P.underlying T = some (.slice E)) (hE : (P.info? E).map (·.size) = some sz) (h0 : 0 ≤ i) (h1 : i < n) :
    (execOp (lk l) o).run P w = .ok (.value (.pointer (some ((⟨b, off, none⟩ : Addr).add (i.toNat * sz))))) w := by
  obtain ⟨inf, hinf, hsz⟩ := Option.map_eq_some_iff.1 hE
  subst hsz
  simp [execOp, ho, hx, hi, Instr.indexAt, asIntOf, run_underlying hT, sizeOf, typeInfo, hinf, h0, h1]

theorem cell_add2 (w : World) (b o n m : Nat) : w.cell? (((⟨b, o, none⟩ : Addr).add n).add m) = cellH w.heap b (o + n + m) := by
  rw [← cellH_cell]
  congr 1
  unfold Addr.add
  by_cases hn : n = 0 <;> by_cases hm : m = 0 <;> simp [hn, hm]
theorem cell_add1 (w : World) (b o n : Nat) : w.cell? ((⟨b, o, none⟩ : Addr).add n) = cellH w.heap b (o + n) := by
  rw [← cellH_cell]
  congr 1
  unfold Addr.add
  by_cases hn : n = 0 <;> simp [hn]

def flat : TypeDesc → Bool
  | .struct _ | .array _ _ => false
  | _ => true

theorem ob_load {l : FL} {o : Oper} {T : TypeId} {x : Operand} {a : Addr} {v : Value} {d : TypeDesc} (w : World) (ho : o.op = .load T x) (hx : lk l x = .pointer (some a))
    (hT : P.underlying T = some d) (hd : flat d = true) (hc : w.cell? a = some v) :
    (execOp (lk l) o).run P w = .ok (.value v) w := by
  have : (isAgg T).run P w = .ok false w := by
    unfold isAgg
    simp only [run_underlying hT, Sem.run_bind]
    cases d <;> simp_all [flat]
  simp [execOp, ho, hx, Instr.loadAt, Instr.sureAddr, loadVar, this, load, Sem.run, hc]

theorem run_loadCellsFrom_all (a : Addr) (w : World) : ∀ (cs : List Value) (i : Nat) (acc : Array Value), (∀ j v, cs[j]? = some v → w.cell? (a.add (i + j)) = some v) →
    (loadCellsFrom a i cs.length acc).run P w = .ok (acc ++ cs.toArray) w
  | [], i, acc, _ => by simp [loadCellsFrom]
  | c :: cs, i, acc, h => by
    have h0 := h 0 c (by simp)
    have ih := run_loadCellsFrom_all a w cs (i + 1) (acc.push c) (fun j v hj => by have := h (j + 1) v (by simpa using hj); rwa [show i + 1 + j = i + (j + 1) from by omega])
    simp only [Nat.add_zero] at h0
    simp [loadCellsFrom, load, Sem.run, h0, ih]
theorem ob_loadn {l : FL} {o : Oper} {T : TypeId} {x : Operand} {a : Addr} {cs : List Value} {d : TypeDesc} (w : World) (ho : o.op = .load T x) (hx : lk l x = .pointer (some a))
    (hT : P.underlying T = some d) (hd : flat d = false) (hE : (P.info? T).map (·.size) = some cs.length) (hc : ∀ j v, cs[j]? = some v → w.cell? (a.add j) = some v) :
    (execOp (lk l) o).run P w = .ok (.value (.agg cs.toArray)) w := by
  obtain ⟨inf, hinf, hsz⟩ := Option.map_eq_some_iff.1 hE
  have : (isAgg T).run P w = .ok true w := by
    unfold isAgg
    simp only [run_underlying hT, Sem.run_bind]
    cases d <;> simp_all [flat]
  have h2 := run_loadCellsFrom_all (P := P) a w cs 0 #[] (fun j v hj => by rw [Nat.zero_add]; exact hc j v hj)
  simp [execOp, ho, hx, Instr.loadAt, Instr.sureAddr, loadVar, this, loadCells, sizeOf, typeInfo, hinf, hsz, h2]

/-- What a result's variable holds at the end. -/
def RV (P : Program) (l : FL) (w : World) : ResultVar → Value → Prop
  | .tmp t, v => look? l t = some v
  | .cell q t, v => ∃ ad, look? l q = some (.pointer (some ad)) ∧ (loadVar t ad).run P w = .ok v w

def rvs (tmps : Array Value) (r : ResultVar) : Sem Value :=
  match r with
  | .tmp t => pure (tmps.getD t undef)
  | .cell a t => do loadVar t (← asAddr (tmps.getD a undef))

theorem RV.run {n : Nat} {l : FL} {a : Act} {w : World} {r : ResultVar} {v : Value} (ha : Ag n l a) (h : RV P l w r v) : (rvs a.tmps r).run P w = .ok v w := by
  cases r with
  | tmp t => simp [rvs, ha.slot t v h]
  | cell q t =>
    obtain ⟨ad, h1, h2⟩ := h
    simp [rvs, ha.slot q _ h1, asAddr, h2]

theorem ret_2 {n : Nat} {l : FL} {a : Act} {w : World} {fn : Func} {R : Ending → World → Prop} {e : Exit} {r1 r2 : ResultVar} {v1 v2 : Value} (ha : Ag n l a) (hf : fn.results = #[r1, r2]) (he : e = .ret ∨ e = .normal)
    (h1 : RV P l w r1 v1) (h2 : RV P l w r2 v2) (h : R (.returned (.tuple #[v1, v2])) w) : bodyPost P fn R e a w := by
  have e1 := h1.run ha
  have e2 := h2.run ha
  have hr : (results fn a.tmps).run P w = .ok (.tuple #[v1, v2]) w := by
    have : results fn a.tmps = (do let x ← rvs a.tmps r1; let y ← rvs a.tmps r2; pure (.tuple #[x, y])) := by
      unfold results; rw [hf]; simp [rvs]; rfl
    rw [this]; simp [e1, e2]
  rcases he with rfl | rfl <;> exact ⟨ha.defers, _, hr, h⟩
theorem ret_1 {n : Nat} {l : FL} {a : Act} {w : World} {fn : Func} {R : Ending → World → Prop} {e : Exit} {r1 : ResultVar} {v1 : Value} (ha : Ag n l a) (hf : fn.results = #[r1]) (he : e = .ret ∨ e = .normal)
    (h1 : RV P l w r1 v1) (h : R (.returned v1) w) : bodyPost P fn R e a w := by
  have e1 := h1.run ha
  have hr : (results fn a.tmps).run P w = .ok v1 w := by
    have : results fn a.tmps = rvs a.tmps r1 := by
      unfold results; rw [hf]; simp [rvs]; rfl
    rw [this]; simp [e1]
  rcases he with rfl | rfl <;> exact ⟨ha.defers, _, hr, h⟩
theorem ret_3 {n : Nat} {l : FL} {a : Act} {w : World} {fn : Func} {R : Ending → World → Prop} {e : Exit} {r1 r2 r3 : ResultVar} {v1 v2 v3 : Value} (ha : Ag n l a) (hf : fn.results = #[r1, r2, r3]) (he : e = .ret ∨ e = .normal)
    (h1 : RV P l w r1 v1) (h2 : RV P l w r2 v2) (h3 : RV P l w r3 v3) (h : R (.returned (.tuple #[v1, v2, v3])) w) : bodyPost P fn R e a w := by
  have e1 := h1.run ha
  have e2 := h2.run ha
  have e3 := h3.run ha
  have hr : (results fn a.tmps).run P w = .ok (.tuple #[v1, v2, v3]) w := by
    have : results fn a.tmps = (do let x ← rvs a.tmps r1; let y ← rvs a.tmps r2; let z ← rvs a.tmps r3; pure (.tuple #[x, y, z])) := by
      unfold results; rw [hf]; simp [rvs]; rfl
    rw [this]; simp [e1, e2, e3]
  rcases he with rfl | rfl <;> exact ⟨ha.defers, _, hr, h⟩
theorem ret_4 {n : Nat} {l : FL} {a : Act} {w : World} {fn : Func} {R : Ending → World → Prop} {e : Exit} {r1 r2 r3 r4 : ResultVar} {v1 v2 v3 v4 : Value} (ha : Ag n l a) (hf : fn.results = #[r1, r2, r3, r4]) (he : e = .ret ∨ e = .normal)
    (h1 : RV P l w r1 v1) (h2 : RV P l w r2 v2) (h3 : RV P l w r3 v3) (h4 : RV P l w r4 v4) (h : R (.returned (.tuple #[v1, v2, v3, v4])) w) : bodyPost P fn R e a w := by
  have e1 := h1.run ha
  have e2 := h2.run ha
  have e3 := h3.run ha
  have e4 := h4.run ha
  have hr : (results fn a.tmps).run P w = .ok (.tuple #[v1, v2, v3, v4]) w := by
    have : results fn a.tmps = (do let x ← rvs a.tmps r1; let y ← rvs a.tmps r2; let z ← rvs a.tmps r3; let u ← rvs a.tmps r4; pure (.tuple #[x, y, z, u])) := by
      unfold results; rw [hf]; simp [rvs]; rfl
    rw [this]; simp [e1, e2, e3, e4]
  rcases he with rfl | rfl <;> exact ⟨ha.defers, _, hr, h⟩

theorem RV.cell {l : FL} {w : World} {q : Nat} {t : TypeId} {b : Nat} {tt : TypeId} {cs : List Value} {d : TypeDesc} (hl : look? l q = some (.pointer (some ⟨b, 0, none⟩))) (hb : w.heap[b]? = some (.cells cs.toArray tt (0, 0)))
    (hT : P.underlying t = some d) (hd : flat d = false) (hE : (P.info? t).map (·.size) = some cs.length) : RV P l w (.cell q t) (.agg cs.toArray) := by
  refine ⟨_, hl, ?_⟩
  obtain ⟨inf, hinf, hsz⟩ := Option.map_eq_some_iff.1 hE
  have h1 : (isAgg t).run P w = .ok true w := by
    unfold isAgg
    simp only [run_underlying hT, Sem.run_bind]
    cases d <;> simp_all [flat]
  have h2 := run_loadCellsFrom_all (P := P) ⟨b, 0, none⟩ w cs 0 #[] (fun j v hj => by
    rw [cell_add1, Nat.zero_add, Nat.zero_add]
    unfold cellH; rw [hb]; simpa using hj)
  simp [loadVar, h1, loadCells, sizeOf, typeInfo, hinf, hsz, h2]
end
end Go.V
