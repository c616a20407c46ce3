/- What a call holds, as one thing: what it reads, and what is its own, all apart. Its conditions: none. -/
import Derived.Test.YtjkoiijpmiibpaaVShort
namespace Go.V
open Go.RowKit

abbrev RP := Heap → Off → Prop
def RKeep (r : RP) : Prop := ∀ ⦃H S H' S'⦄, Keep H S H' S' → r H S → r H' S'
section
variable {α : Type}
abbrev rS (T : Ty α) (A : Option Addr) (c : Nat) (xs : List α) : RP := fun H S => Sl T H S A c xs
abbrev rB (b : Nat) (t : TypeId) (cs : List Value) : RP := fun H S => Bx H S b t cs
abbrev rP (T : Ty α) (t : TypeId) (r : Option α) (v : Value) : RP := fun H S => Pt T t H S r v
theorem rS_k {T : Ty α} {A : Option Addr} {c : Nat} {xs : List α} : RKeep (rS T A c xs) := fun _ _ _ _ k h => h.keep k
theorem rB_k {b : Nat} {t : TypeId} {cs : List Value} : RKeep (rB b t cs) := fun _ _ _ _ k h => h.keep k
theorem rP_k {T : Ty α} {t : TypeId} {r : Option α} {v : Value} : RKeep (rP T t r v) := fun _ _ _ _ k h => h.keep k
end

/-- An own thing: its blocks, and how it reads. -/
structure OE where
  B : Off
  ok : Heap → Off → Prop
structure OLaw (o : OE) : Prop where
  keep : ∀ ⦃H S H' S'⦄, Keep H S H' S' → (∀ k, o.B k → H'[k]? = H[k]?) → o.ok H S → o.ok H' S'
  live : ∀ ⦃H S⦄, o.ok H S → ∀ k, o.B k → k < H.size

def OwC {α : Type} (T : Ty α) (e : TypeId) (H : Heap) (S : Off) (v : Value) (xs : List α) : Prop := ∃ cs, Row H e T.sz v xs.length cs ∧ Els T H S cs xs
section
variable {α : Type}
abbrev oS (T : Ty α) (e : TypeId) (A : Option Addr) (n c : Nat) (xs : List α) : OE := ⟨obs (.slice A n c), fun H S => OwC T e H S (.slice A n c) xs⟩
abbrev oB (b : Nat) (t : TypeId) (cs : List Value) : OE := ⟨fun k => b = k, fun H _ => H[b]? = some (.cells cs.toArray t (0, 0))⟩
abbrev oM (r : Nat) (m : List (Int × Int)) : OE := ⟨fun k => r = k, fun H _ => ∃ es clock, H[r]? = some (.map es clock) ∧ MapIs es.toList m⟩
theorem OwC.ow {T : Ty α} {e : TypeId} {M : Off} {H : Heap} {S : Off} {v : Value} {xs : List α} (h : OwC T e H S v xs) (hs : ∀ k, v.ownBlock = some k → S k ∧ M k) : Ow T e M H S v xs := ⟨hs, h⟩
theorem oS_l {T : Ty α} {e : TypeId} {A : Option Addr} {n c : Nat} {xs : List α} : OLaw (oS T e A n c xs) := by
  constructor
  · rintro H S H' S' k hb ⟨cs, ⟨hl, h1⟩, he⟩
    refine ⟨cs, ⟨hl, ?_⟩, he.keep k⟩
    rcases h1 with h1 | ⟨g, cap, cur, hv, hg, r⟩
    · exact .inl h1
    · exact .inr ⟨g, cap, cur, hv, by rw [hb g (by show (Value.slice A n c).ownBlock = some g; rw [hv]; simp [Value.ownBlock])]; exact hg, r⟩
  · rintro H S ⟨cs, ⟨hl, h1⟩, he⟩ k hk
    have hk : (Value.slice A n c).ownBlock = some k := hk
    rcases h1 with ⟨hv, h0⟩ | ⟨g, cap, cur, hv, hg, _⟩
    · rw [hv] at hk; simp [Value.ownBlock] at hk
    · rw [hv] at hk; simp [Value.ownBlock] at hk; subst hk; exact getElem?_lt hg
theorem oB_l {b : Nat} {t : TypeId} {cs : List Value} : OLaw (oB b t cs) := ⟨fun _ _ _ _ _ hb h => (hb b rfl).trans h, fun _ _ h k hk => by subst hk; exact getElem?_lt h⟩
end

/-- Where a call stands, with all that it holds. -/
structure HB (w0 : World) (W0 S0 : Off) (w : World) (S : Off) (R : List RP) (O : List OE) : Prop where
  cx : Cx w0 W0 S0 w S
  ro : ∀ r ∈ R, RKeep r ∧ r w.heap S
  ow : ∀ o ∈ O, OLaw o ∧ o.ok w.heap S ∧ ∀ k, o.B k → S k ∧ ¬ S0 k ∧ Wr W0 w0 k
  dj : O.Pairwise fun a b => ∀ k, a.B k → ¬ b.B k

/-- One of the own things, what is there with another one in its stead, and the others. -/
structure Foc (O : List OE) (o : OE) (up : OE → List OE) (rest : List OE) : Prop where
  ex : ∃ pre post, O = pre ++ o :: post ∧ rest = pre ++ post ∧ ∀ x, up x = pre ++ x :: post
section
variable {o a b c d e f g h i : OE} {O : List OE}
theorem F0 : Foc (o :: O) o (fun x => x :: O) O := ⟨[], O, rfl, rfl, fun _ => rfl⟩
theorem F1 : Foc (a :: o :: O) o (fun x => a :: x :: O) (a :: O) := ⟨[a], O, rfl, rfl, fun _ => rfl⟩
theorem F2 : Foc (a :: b :: o :: O) o (fun x => a :: b :: x :: O) (a :: b :: O) := ⟨[a, b], O, rfl, rfl, fun _ => rfl⟩
theorem F3 : Foc (a :: b :: c :: o :: O) o (fun x => a :: b :: c :: x :: O) (a :: b :: c :: O) := ⟨[a, b, c], O, rfl, rfl, fun _ => rfl⟩
end

section
variable {w0 w w1 : World} {W0 S0 S S1 : Off} {R : List RP} {O rest : List OE} {o o' : OE} {up : OE → List OE} {α : Type}
theorem Foc.mem (F : Foc O o up rest) : o ∈ O := by obtain ⟨p, q, rfl, _⟩ := F.ex; simp
theorem Foc.sub (F : Foc O o up rest) : ∀ x ∈ rest, x ∈ O := by obtain ⟨p, q, rfl, rfl, _⟩ := F.ex; intro x hx; simp at hx ⊢; rcases hx with h | h <;> simp [h]
theorem Foc.inup (F : Foc O o up rest) {o' x : OE} (h : x ∈ up o') : x = o' ∨ x ∈ rest := by
  obtain ⟨p, q, rfl, rfl, hu⟩ := F.ex
  rw [hu] at h; simp at h ⊢
  rcases h with h | h | h <;> simp [h]
theorem Foc.dj (F : Foc O o up rest) (h : O.Pairwise fun a b => ∀ k, a.B k → ¬ b.B k) : (∀ x ∈ rest, ∀ k, o.B k → ¬ x.B k) ∧ rest.Pairwise fun a b => ∀ k, a.B k → ¬ b.B k := by
  obtain ⟨p, q, rfl, rfl, hu⟩ := F.ex
  rw [List.pairwise_append, List.pairwise_cons] at h
  obtain ⟨h1, ⟨h2, h3⟩, h4⟩ := h
  refine ⟨fun x hx k hk hxk => ?_, List.pairwise_append.2 ⟨h1, h3, fun a ha b hb => h4 a ha b (by simp [hb])⟩⟩
  rcases List.mem_append.1 hx with hx | hx
  · exact h4 x hx o (by simp) k hxk hk
  · exact h2 x hx k hk hxk
theorem Foc.djup (F : Foc O o up rest) (h : rest.Pairwise fun a b => ∀ k, a.B k → ¬ b.B k) {o' : OE} (h' : ∀ x ∈ rest, ∀ k, o'.B k → ¬ x.B k) : (up o').Pairwise fun a b => ∀ k, a.B k → ¬ b.B k := by
  obtain ⟨p, q, rfl, rfl, hu⟩ := F.ex
  rw [hu, List.pairwise_append, List.pairwise_cons]
  rw [List.pairwise_append] at h
  obtain ⟨h1, h3, h4⟩ := h
  refine ⟨h1, ⟨fun x hx => h' x (by simp [hx]), h3⟩, fun a ha b hb k hak hbk => ?_⟩
  rcases List.mem_cons.1 hb with rfl | hb
  · exact h' a (by simp [ha]) k hbk hak
  · exact h4 a ha b hb k hak hbk

theorem HB.lt (h : HB w0 W0 S0 w S R O) : ∀ b, S b → b < w.heap.size := h.cx.lt
theorem HB.at (h : HB w0 W0 S0 w S R O) (F : Foc O o up rest) : OLaw o ∧ o.ok w.heap S ∧ ∀ k, o.B k → S k ∧ ¬ S0 k ∧ Wr W0 w0 k := h.ow o F.mem
/-- One own thing has turned; what is new of it lies behind what there was. -/
theorem HB.put (h : HB w0 W0 S0 w S R O) (F : Foc O o up rest) (cx : Cx w0 W0 S0 w1 S1) (hk : Keep w.heap S w1.heap S1) (hs : ∀ b, S b → S1 b) (hb : ∀ k, k < w.heap.size → ¬ o.B k → w1.heap[k]? = w.heap[k]?)
    (hl : OLaw o') (hok : o'.ok w1.heap S1) (hown : ∀ k, o'.B k → S1 k ∧ ¬ S0 k ∧ Wr W0 w0 k) (hn : ∀ k, o'.B k → o.B k ∨ w.heap.size ≤ k) : HB w0 W0 S0 w1 S1 R (up o') := by
  obtain ⟨d1, d2⟩ := F.dj h.dj
  refine ⟨cx, fun r hr => ⟨(h.ro r hr).1, (h.ro r hr).1 hk (h.ro r hr).2⟩, fun x hx => ?_, F.djup d2 fun x hx k hk2 hxk => ?_⟩
  · rcases F.inup hx with rfl | hx
    · exact ⟨hl, hok, hown⟩
    · obtain ⟨l, k1, k2⟩ := h.ow x (F.sub x hx)
      have hlive := l.live k1
      exact ⟨l, l.keep hk (fun k hxk => hb k (hlive k hxk) (fun ho => d1 x hx k ho hxk)) k1, fun k hxk => ⟨hs k (k2 k hxk).1, (k2 k hxk).2⟩⟩
  · rcases hn k hk2 with ho | hge
    · exact d1 x hx k ho hxk
    · have := (h.ow x (F.sub x hx)).1.live (h.ow x (F.sub x hx)).2.1 k hxk; omega
/-- Only the block of one own thing has turned. -/
theorem HB.only (h : HB w0 W0 S0 w S R O) (F : Foc O o up rest) {b : Nat} (on : Only b w w1) (hb : o.B b) (hl : OLaw o') (hok : o'.ok w1.heap S) (hB : ∀ k, o'.B k → o.B k) : HB w0 W0 S0 w1 S R (up o') := by
  obtain ⟨l, k1, k2⟩ := h.at F
  exact h.put F (on.cx h.cx (k2 b hb).2.2) (on.keep (k2 b hb).1) (fun _ h => h) (fun k hk hn => on.block k hk (fun e => hn (e ▸ hb))) hl hok (fun k hk => k2 k (hB k hk)) (fun k hk => .inl (hB k hk))
/-- A new own thing. -/
theorem HB.push (h : HB w0 W0 S0 w S R O) (hbel : Below w.heap.size w w1) (hl : OLaw o') (hok : o'.ok w1.heap (fun k => o'.B k ∨ S k)) (hn : ∀ k, o'.B k → w.heap.size ≤ k) : HB w0 W0 S0 w1 (fun k => o'.B k ∨ S k) R (o' :: O) := by
  have hk : Keep w.heap S w1.heap (fun k => o'.B k ∨ S k) := ⟨hbel.size, fun b hb hns => ⟨fun h => h.elim (fun h => by have := hn b h; omega) hns, hbel.block b hb⟩⟩
  have hc := h.cx.ext hbel
  refine ⟨hc.more (fun _ h => .inr h) (fun b hb => hb.elim (fun hb => hl.live hok b hb) (hc.lt b)), fun r hr => ⟨(h.ro r hr).1, (h.ro r hr).1 hk (h.ro r hr).2⟩, fun x hx => ?_, List.pairwise_cons.2 ⟨fun x hx k hk1 hk2 => ?_, h.dj⟩⟩
  · rcases List.mem_cons.1 hx with rfl | hx
    · exact ⟨hl, hok, fun k hk => ⟨.inl hk, fun h0 => by have := h.cx.lt0 k h0; have := hn k hk; have := h.cx.size; omega, .inr (by have := hn k hk; have := h.cx.size; omega)⟩⟩
    · obtain ⟨l, k1, k2⟩ := h.ow x hx
      exact ⟨l, l.keep hk (fun k hxk => hbel.block k (l.live k1 k hxk)) k1, fun k hxk => ⟨.inr (k2 k hxk).1, (k2 k hxk).2⟩⟩
  · have := (h.ow x hx).1.live (h.ow x hx).2.1 k hk2
    have := hn k hk1
    omega
theorem HB.ext (h : HB w0 W0 S0 w S R O) (hb : Below w.heap.size w w1) : HB w0 W0 S0 w1 S R O := by
  have hk := Keep.ext S hb
  exact ⟨h.cx.ext hb, fun r hr => ⟨(h.ro r hr).1, (h.ro r hr).1 hk (h.ro r hr).2⟩, fun x hx => ⟨(h.ow x hx).1, (h.ow x hx).1.keep hk (fun k hxk => hb.block k ((h.ow x hx).1.live (h.ow x hx).2.1 k hxk)) (h.ow x hx).2.1, (h.ow x hx).2.2⟩, h.dj⟩
theorem HB.ad (h : HB w0 W0 S0 w S R O) {r : RP} (hk : RKeep r) (hr : r w.heap S) : HB w0 W0 S0 w S (r :: R) O :=
  ⟨h.cx, fun x hx => by rcases List.mem_cons.1 hx with rfl | hx; exact ⟨hk, hr⟩; exact h.ro x hx, h.ow, h.dj⟩
theorem HB.aS (h : HB w0 W0 S0 w S R O) {T : Ty α} {A : Option Addr} {c : Nat} {xs : List α} (f : Sl T w.heap S A c xs) : HB w0 W0 S0 w S (rS T A c xs :: R) O := h.ad rS_k f
theorem HB.aB (h : HB w0 W0 S0 w S R O) {b : Nat} {t : TypeId} {cs : List Value} (f : Bx w.heap S b t cs) : HB w0 W0 S0 w S (rB b t cs :: R) O := h.ad rB_k f
theorem HB.aP (h : HB w0 W0 S0 w S R O) {T : Ty α} {t : TypeId} {r : Option α} {v : Value} (f : Pt T t w.heap S r v) : HB w0 W0 S0 w S (rP T t r v :: R) O := h.ad rP_k f
/-- Without some blocks of one's own: they are left. -/
theorem HB.less (h : HB w0 W0 S0 w S R O) (F : Foc O o up rest) : HB w0 W0 S0 w (fun k => S k ∧ ¬ o.B k) R rest := by
  obtain ⟨d1, d2⟩ := F.dj h.dj
  obtain ⟨l, k1, k2⟩ := h.at F
  have hk : Keep w.heap S w.heap (fun k => S k ∧ ¬ o.B k) := Keep.less fun _ h => h.1
  exact ⟨⟨h.cx.bel, fun b hb => ⟨h.cx.sub b hb, fun hB => (k2 b hB).2.1 hb⟩, fun b hb => h.cx.lt b hb.1, h.cx.lt0⟩, fun r hr => ⟨(h.ro r hr).1, (h.ro r hr).1 hk (h.ro r hr).2⟩,
    fun x hx => ⟨(h.ow x (F.sub x hx)).1, (h.ow x (F.sub x hx)).1.keep hk (fun _ _ => rfl) (h.ow x (F.sub x hx)).2.1, fun k hxk => ⟨⟨((h.ow x (F.sub x hx)).2.2 k hxk).1, fun ho => d1 x hx k ho hxk⟩, ((h.ow x (F.sub x hx)).2.2 k hxk).2⟩⟩, d2⟩
theorem HB.len {T : Ty α} {e : TypeId} {A : Option Addr} {n c : Nat} {xs : List α} (h : HB w0 W0 S0 w S R O) (F : Foc O (oS T e A n c xs) up rest) : n = xs.length := by
  obtain ⟨cs, ⟨_, h1⟩, _⟩ := (h.at F).2.1
  rcases h1 with ⟨hv, h0⟩ | ⟨g, cap, cur, hv, _⟩
  · simp at hv; omega
  · simp at hv; exact hv.2.1
/-- The facts of what is one's own, as the laws of operations take them. -/
theorem HB.oS {T : Ty α} {e : TypeId} {A : Option Addr} {n c : Nat} {xs : List α} (h : HB w0 W0 S0 w S R O) (F : Foc O (Go.V.oS T e A n c xs) up rest) : Ow T e (Wr W0 w0) w.heap S (.slice A n c) xs :=
  ⟨fun k hk => ⟨((h.at F).2.2 k hk).1, ((h.at F).2.2 k hk).2.2⟩, (h.at F).2.1⟩
theorem HB.oB {b : Nat} {t : TypeId} {cs : List Value} (h : HB w0 W0 S0 w S R O) (F : Foc O (Go.V.oB b t cs) up rest) : Mb (Wr W0 w0) w.heap S b t cs := ⟨(h.at F).2.1, ((h.at F).2.2 b rfl).1, ((h.at F).2.2 b rfl).2.2⟩
theorem HB.oM {r : Nat} {m : List (Int × Int)} (h : HB w0 W0 S0 w S R O) (F : Foc O (Go.V.oM r m) up rest) : Mp (Wr W0 w0) w.heap S r m := ⟨(h.at F).2.1, ((h.at F).2.2 r rfl).1, ((h.at F).2.2 r rfl).2.2⟩
/-- An own slice is never written to from now on. -/
theorem HB.fS {T : Ty α} {e : TypeId} {A : Option Addr} {n c : Nat} {xs : List α} (h : HB w0 W0 S0 w S R O) (F : Foc O (Go.V.oS T e A n c xs) up rest) : HB w0 W0 S0 w (fun k => S k ∧ ¬ obs (.slice A n c) k) (rS T A c xs :: R) rest :=
  (h.less F).ad rS_k ((h.oS F).freeze (fun _ h => h.1) (fun _ hb hs => hs.2 hb))
theorem HB.fB {b : Nat} {t : TypeId} {cs : List Value} (h : HB w0 W0 S0 w S R O) (F : Foc O (Go.V.oB b t cs) up rest) : HB w0 W0 S0 w (fun k => S k ∧ ¬ b = k) (rB b t cs :: R) rest :=
  (h.less F).ad rB_k ⟨(h.at F).2.1, fun hs => hs.2 rfl⟩
/-! What is read, by its place. -/
section
variable {r a b c d e f g h i j k l m n p q : RP}
theorem HB.r0 (hp : HB w0 W0 S0 w S (r :: R) O) : r w.heap S := (hp.ro r (by simp)).2
theorem HB.r1 (hp : HB w0 W0 S0 w S (a :: r :: R) O) : r w.heap S := (hp.ro r (by simp)).2
theorem HB.r2 (hp : HB w0 W0 S0 w S (a :: b :: r :: R) O) : r w.heap S := (hp.ro r (by simp)).2
theorem HB.r3 (hp : HB w0 W0 S0 w S (a :: b :: c :: r :: R) O) : r w.heap S := (hp.ro r (by simp)).2
theorem HB.r4 (hp : HB w0 W0 S0 w S (a :: b :: c :: d :: r :: R) O) : r w.heap S := (hp.ro r (by simp)).2
theorem HB.r5 (hp : HB w0 W0 S0 w S (a :: b :: c :: d :: e :: r :: R) O) : r w.heap S := (hp.ro r (by simp)).2
theorem HB.r6 (hp : HB w0 W0 S0 w S (a :: b :: c :: d :: e :: f :: r :: R) O) : r w.heap S := (hp.ro r (by simp)).2
theorem HB.r7 (hp : HB w0 W0 S0 w S (a :: b :: c :: d :: e :: f :: g :: r :: R) O) : r w.heap S := (hp.ro r (by simp)).2
theorem HB.r8 (hp : HB w0 W0 S0 w S (a :: b :: c :: d :: e :: f :: g :: h :: r :: R) O) : r w.heap S := (hp.ro r (by simp)).2
end
/-- A part of what is held, in another order. -/
theorem HB.pk (h : HB w0 W0 S0 w S R O) (ri oi : List Nat) {R' : List RP} {O' : List OE} (hr : ri.map (fun i => R[i]?) = R'.map some) (ho : oi.map (fun i => O[i]?) = O'.map some) (hd : oi.Nodup := by decide) : HB w0 W0 S0 w S R' O' := by
  refine ⟨h.cx, fun r hx => ?_, fun x hx => ?_, ?_⟩
  · have : some r ∈ ri.map (fun i => R[i]?) := by rw [hr]; exact List.mem_map.2 ⟨r, hx, rfl⟩
    obtain ⟨i, _, hi⟩ := List.mem_map.1 this
    exact h.ro r (List.mem_of_getElem? hi)
  · have : some x ∈ oi.map (fun i => O[i]?) := by rw [ho]; exact List.mem_map.2 ⟨x, hx, rfl⟩
    obtain ⟨i, _, hi⟩ := List.mem_map.1 this
    exact h.ow x (List.mem_of_getElem? hi)
  · have hlen : oi.length = O'.length := by simpa using congrArg List.length ho
    have hget : ∀ p (h1 : p < oi.length) (h2 : p < O'.length), O[oi[p]]? = some O'[p] := fun p h1 h2 => by
      have := congrArg (fun l => l[p]?) ho
      simpa [h1, h2] using this
    rw [List.pairwise_iff_getElem]
    intro p q hp hq hpq k hk1 hk2
    have g1 := hget p (by omega) hp
    have g2 := hget q (by omega) hq
    have hne : oi[p]'(by omega) ≠ oi[q]'(by omega) := fun e => by
      have := (List.pairwise_iff_getElem.1 hd) p q (by omega) (by omega) hpq
      exact this e
    have hdj := List.pairwise_iff_getElem.1 h.dj
    obtain ⟨h3, h4⟩ := List.getElem?_eq_some_iff.1 g1
    obtain ⟨h5, h6⟩ := List.getElem?_eq_some_iff.1 g2
    rw [← h4] at hk1
    rw [← h6] at hk2
    rcases Nat.lt_or_gt_of_ne hne with hlt | hgt
    · exact hdj _ _ h3 h5 hlt k hk1 hk2
    · exact hdj _ _ h5 h3 hgt k hk2 hk1
end
end Go.V
