/- A slice of one's own whose elements are slices of one's own. Its conditions: none. -/
import Derived.Test.YtjkoiijpmiibpaaU3
namespace Go.V
open Go.RowKit

/-- A cell as it is. -/
def tRaw : Ty Value where
  sz := 1
  R := fun _ _ cs v => cs = [v] ∧ v.oneCell' = true
  len := by rintro _ _ _ _ ⟨rfl, _⟩; rfl
  one := by rintro _ _ _ _ ⟨rfl, h⟩ v hv; simp at hv; subst hv; exact h
  keep := fun _ h => h
structure RowsOk {α : Type} (T : Ty α) (e : TypeId) (H : Heap) (S : Off) (vs : List Value) (xss : List (List α)) (hole : Option Nat) : Prop where
  len : vs.length = xss.length
  ok : ∀ i v xs, hole ≠ some i → vs[i]? = some v → xss[i]? = some xs → OwC T e H S v xs
  dj : ∀ i j v u k, i ≠ j → hole ≠ some i → hole ≠ some j → vs[i]? = some v → vs[j]? = some u → obs v k → ¬ obs u k
/-- The rows, one of them apart. -/
abbrev oRs {α : Type} (T : Ty α) (e : TypeId) (vs : List Value) (xss : List (List α)) (hole : Option Nat) : OE :=
  ⟨fun k => ∃ i v, hole ≠ some i ∧ vs[i]? = some v ∧ obs v k, fun H S => RowsOk T e H S vs xss hole⟩
theorem OwC.keep {α : Type} {T : Ty α} {e : TypeId} {H H' : Heap} {S S' : Off} {v : Value} {xs : List α} (h : OwC T e H S v xs) (k : Keep H S H' S') (hb : ∀ k, obs v k → H'[k]? = H[k]?) : OwC T e H' S' v xs := by
  obtain ⟨cs, ⟨hl, h1⟩, he⟩ := h
  refine ⟨cs, ⟨hl, ?_⟩, he.keep k⟩
  rcases h1 with h1 | ⟨g, cap, cur, hv, hg, r⟩
  · exact .inl h1
  · exact .inr ⟨g, cap, cur, hv, by rw [hb g (by subst hv; simp [obs, Value.ownBlock])]; exact hg, r⟩
theorem OwC.live {α : Type} {T : Ty α} {e : TypeId} {H : Heap} {S : Off} {v : Value} {xs : List α} (h : OwC T e H S v xs) : ∀ k, obs v k → k < H.size := by
  obtain ⟨cs, ⟨hl, h1⟩, he⟩ := h
  intro k hk
  rcases h1 with ⟨hv, _⟩ | ⟨g, cap, cur, hv, hg, _⟩
  · subst hv; simp [obs, Value.ownBlock] at hk
  · subst hv; simp [obs, Value.ownBlock] at hk; subst hk; exact getElem?_lt hg
theorem OwC.form {α : Type} {T : Ty α} {e : TypeId} {H : Heap} {S : Off} {v : Value} {xs : List α} (h : OwC T e H S v xs) : ∃ A c, v = .slice A xs.length c := by
  obtain ⟨cs, ⟨_, h1⟩, _⟩ := h
  rcases h1 with ⟨rfl, h0⟩ | ⟨g, cap, cur, rfl, _⟩
  · exact ⟨none, 0, by rw [h0]⟩
  · exact ⟨_, _, rfl⟩
section
variable {α : Type} {T : Ty α} {e : TypeId} {vs : List Value} {xss : List (List α)} {hole : Option Nat}
theorem oRs_l : OLaw (oRs T e vs xss hole) := by
  constructor
  · rintro H S H' S' k hb ⟨h1, h2, h3⟩
    exact ⟨h1, fun i v xs hh hv hx => (h2 i v xs hh hv hx).keep k (fun j hj => hb j ⟨i, v, hh, hv, hj⟩), h3⟩
  · rintro H S ⟨h1, h2, h3⟩ k ⟨i, v, hh, hv, hk⟩
    have hi : i < xss.length := by rw [← h1]; exact (List.getElem?_eq_some_iff.1 hv).1
    exact (h2 i v _ hh hv (List.getElem?_eq_getElem hi)).live k hk
end
section
variable {w0 w w1 : World} {W0 S0 S S1 : Off} {R : List RP} {O rest rest2 : List OE} {up up2 : OE → List OE} {α : Type} {T : Ty α} {e eo : TypeId} {vs : List Value} {xss : List (List α)} {hole : Option Nat} {A : Option Addr} {n c : Nat}
/-- A row, read. -/
theorem HB.rAt (h : HB w0 W0 S0 w S R O) (F : Foc O (oRs T e vs xss hole) up rest) {i : Int} (hi : inb vs i = true) (hh : hole ≠ some i.toNat := by simp) :
    inb xss i = true ∧ ∃ A c, gt vs i = .slice A (gt xss i).length c ∧ Rdb T w.heap S A (gt xss i) := by
  obtain ⟨_, ⟨h1, h2, h3⟩, h4⟩ := h.at F
  have hx : inb xss i = true := by have := inb_iff hi; simp [inb]; omega
  have hv := gt_get hi
  have ho := h2 _ _ _ hh hv (gt_get hx)
  obtain ⟨A, c, hA⟩ := ho.form
  refine ⟨hx, A, c, hA, ?_⟩
  have := ho.ow (M := fun _ => True) (fun k hk => ⟨(h4 k ⟨_, _, hh, hv, hk⟩).1, trivial⟩)
  rw [hA] at this
  exact this.rdb
/-- A row, taken out. -/
theorem HB.rOut (h : HB w0 W0 S0 w S R O) (F : Foc O (oRs T e vs xss none) up rest) {i : Int} (hi : inb vs i = true) (hv : gt vs i = .slice A n c) :
    HB w0 W0 S0 w S R (Go.V.oS T e A n c (gt xss i) :: oRs T e vs xss (some i.toNat) :: rest) := by
  obtain ⟨d1, d2⟩ := F.dj h.dj
  obtain ⟨l, ⟨h1, h2, h3⟩, h4⟩ := h.at F
  have hx : inb xss i = true := by have := inb_iff hi; simp [inb]; omega
  have g := gt_get hi
  rw [hv] at g
  have hB : ∀ k, obs (.slice A n c) k → (oRs T e vs xss none).B k := fun k hk => ⟨_, _, by simp, g, hk⟩
  have hB2 : ∀ k, (oRs T e vs xss (some i.toNat)).B k → (oRs T e vs xss none).B k := fun k ⟨j, v, hh, hj, hk⟩ => ⟨j, v, by simp, hj, hk⟩
  refine ⟨h.cx, h.ro, fun x hx2 => ?_, ?_⟩
  · rcases List.mem_cons.1 hx2 with rfl | hx2
    · exact ⟨oS_l, h2 _ _ _ (by simp) g (gt_get hx), fun k hk => h4 k (hB k hk)⟩
    · rcases List.mem_cons.1 hx2 with rfl | hx2
      · exact ⟨oRs_l, ⟨h1, fun j v xs _ => h2 j v xs (by simp), fun j j2 v u k hne _ _ => h3 j j2 v u k hne (by simp) (by simp)⟩, fun k hk => h4 k (hB2 k hk)⟩
      · exact h.ow x (F.sub x hx2)
  · refine List.pairwise_cons.2 ⟨fun x hx2 k hk hxk => ?_, List.pairwise_cons.2 ⟨fun x hx2 k hk hxk => d1 x hx2 k (hB2 k hk) hxk, d2⟩⟩
    rcases List.mem_cons.1 hx2 with rfl | hx2
    · obtain ⟨j, v, hh, hj, hk2⟩ := hxk
      exact h3 _ j _ v k (fun e => hh (by rw [e])) (by simp) (by simp) g hj hk hk2
    · exact d1 x hx2 k (hB k hk) hxk
/-- A row, put back. -/
theorem HB.rIn {i : Nat} {row : List α} (h : HB w0 W0 S0 w S R O) (F : Foc O (oRs T e vs xss (some i)) up rest) (F2 : Foc rest (Go.V.oS T e A n c row) up2 rest2) :
    HB w0 W0 S0 w S R (oRs T e (vs.set i (.slice A n c)) (xss.set i row) none :: rest2) := by
  obtain ⟨d1, d2⟩ := F.dj h.dj
  obtain ⟨e1, e2⟩ := F2.dj d2
  obtain ⟨l, ⟨h1, h2, h3⟩, h4⟩ := h.at F
  have hr := h.ow _ (F.sub _ F2.mem)
  have dr := d1 _ F2.mem
  have cas : ∀ j v, (vs.set i (.slice A n c))[j]? = some v → (j = i ∧ v = .slice A n c) ∨ (j ≠ i ∧ vs[j]? = some v) := fun j v hj => by
    rw [List.getElem?_set] at hj
    by_cases e : i = j
    · rw [if_pos e] at hj
      split at hj
      · exact .inl ⟨e.symm, by simpa using hj.symm⟩
      · cases hj
    · rw [if_neg e] at hj; exact .inr ⟨fun h => e h.symm, hj⟩
  have hB : ∀ k, (oRs T e (vs.set i (.slice A n c)) (xss.set i row) none).B k → (oRs T e vs xss (some i)).B k ∨ obs (.slice A n c) k := fun k ⟨j, v, _, hj, hk⟩ => by
    rcases cas j v hj with ⟨rfl, rfl⟩ | ⟨hne, hj⟩
    · exact .inr hk
    · exact .inl ⟨j, v, fun e => hne (by simpa using e.symm), hj, hk⟩
  refine ⟨h.cx, h.ro, fun x hx => ?_, List.pairwise_cons.2 ⟨fun x hx k hk hxk => ?_, e2⟩⟩
  · rcases List.mem_cons.1 hx with rfl | hx
    · refine ⟨oRs_l, ⟨by simp [h1], fun j v xs _ hj hxs => ?_, fun j j2 v u k hne _ _ hj hj2 hk hk2 => ?_⟩, fun k hk => (hB k hk).elim (h4 k) (hr.2.2 k)⟩
      · rcases cas j v hj with ⟨rfl, rfl⟩ | ⟨hne, hj⟩
        · rw [List.getElem?_set, if_pos rfl] at hxs
          split at hxs
          · simp at hxs; subst hxs; exact hr.2.1
          · cases hxs
        · rw [List.getElem?_set, if_neg (fun e => hne e.symm)] at hxs
          exact h2 j v xs (fun e => hne (by simpa using e.symm)) hj hxs
      · rcases cas j v hj with ⟨e1, e2⟩ | ⟨hne1, g1⟩
        · rcases cas j2 u hj2 with ⟨e3, e4⟩ | ⟨hne2, g2⟩
          · exact hne (e1.trans e3.symm)
          · exact dr k ⟨j2, u, fun e => hne2 (by simpa using e.symm), g2, hk2⟩ (by subst e2; exact hk)
        · rcases cas j2 u hj2 with ⟨e3, e4⟩ | ⟨hne2, g2⟩
          · exact dr k ⟨j, v, fun e => hne1 (by simpa using e.symm), g1, hk⟩ (by subst e4; exact hk2)
          · exact h3 j j2 v u k hne (fun e => hne1 (by simpa using e.symm)) (fun e => hne2 (by simpa using e.symm)) g1 g2 hk hk2
    · exact h.ow x (F.sub x (F2.sub x hx))
  · rcases hB k hk with hk | hk
    · exact d1 x (F2.sub x hx) k hk hxk
    · exact e1 x hx k hk hxk
/-- No rows yet. -/
theorem HB.rNil (h : HB w0 W0 S0 w S R O) (T : Ty α) (e : TypeId) (m : Nat) : HB w0 W0 S0 w S R (oRs T e (List.replicate m (.slice none 0 0)) (List.replicate m []) none :: O) := by
  have hb : ∀ k, ¬ (oRs T e (List.replicate m (.slice none 0 0)) (List.replicate m []) none).B k := by
    rintro k ⟨i, v, _, hv, hk⟩
    have := List.mem_of_getElem? hv
    rw [List.mem_replicate] at this
    rw [this.2] at hk; simp [obs, Value.ownBlock] at hk
  refine ⟨h.cx, h.ro, fun x hx => ?_, List.pairwise_cons.2 ⟨fun x _ k hk => absurd hk (hb k), h.dj⟩⟩
  rcases List.mem_cons.1 hx with rfl | hx
  · refine ⟨oRs_l, ⟨by simp, fun i v xs _ hv hxs => ?_, fun i j v u k _ _ _ hv _ hk => ?_⟩, fun k hk => absurd hk (hb k)⟩
    · have h1 := List.mem_of_getElem? hv
      have h2 := List.mem_of_getElem? hxs
      rw [List.mem_replicate] at h1 h2
      rw [h1.2, h2.2]
      exact ⟨[], ⟨by simp, .inl ⟨rfl, rfl⟩⟩, Els.nil⟩
    · have := List.mem_of_getElem? hv
      rw [List.mem_replicate] at this
      rw [this.2] at hk; simp [obs, Value.ownBlock] at hk
  · exact h.ow x hx
/-- All of it is left. -/
theorem HB.rFz (h : HB w0 W0 S0 w S R O) (F : Foc O (oRs T e vs xss none) up rest) (F2 : Foc rest (Go.V.oS tRaw eo A n c vs) up2 rest2) :
    ∃ S1, HB w0 W0 S0 w S1 (rS (tSl T) A c xss :: R) rest2 := by
  have hrow : ∀ (i : Int), inb vs i = true → inb xss i = true ∧ ∃ A c, gt vs i = .slice A (gt xss i).length c ∧ OwC T e w.heap S (.slice A (gt xss i).length c) (gt xss i) ∧ ∀ k, obs (.slice A (gt xss i).length c) k → S k ∧ (oRs T e vs xss none).B k := fun i hi => by
    obtain ⟨_, ⟨h1, h2, h3⟩, h4⟩ := h.at F
    have hx : inb xss i = true := by have := inb_iff hi; simp [inb]; omega
    have hv := gt_get hi
    have ho := h2 _ _ _ (by simp) hv (gt_get hx)
    obtain ⟨A, c, hA⟩ := ho.form
    rw [hA] at ho hv
    exact ⟨hx, A, c, hA, ho, fun k hk => ⟨(h4 k ⟨_, _, by simp, hv, hk⟩).1, _, _, by simp, hv, hk⟩⟩
  have hlen := (h.at F).2.1.len
  have h1 := h.less F
  have h2 := h1.fS F2
  refine ⟨_, h2.cx, fun r hr => ?_, h2.ow, h2.dj⟩
  rcases List.mem_cons.1 hr with rfl | hr
  · have g := h2.r0
    refine ⟨rS_k, by rw [← hlen]; exact g.1, fun hne => g.2.1 (fun hv => hne (by rw [hv] at hlen; exact List.eq_nil_of_length_eq_zero hlen.symm)), fun i xs hxs => ?_⟩
    have hi : i < xss.length := (List.getElem?_eq_some_iff.1 hxs).1
    obtain ⟨b, o, cs, hA, ⟨hc, _⟩, hcell⟩ := g.2.2 i (gt vs (i : Int)) (gt_get (i := (i : Int)) (by simp [inb]; omega))
    obtain ⟨hx, A2, c2, hv2, ho2, hB⟩ := hrow (i : Int) (by simp [inb]; omega)
    have hxe : gt xss (i : Int) = xs := by have := gt_get hx; simp at this; rw [this] at hxs; simpa using hxs
    refine ⟨b, o, cs, hA, ⟨A2, c2, by rw [hc, hv2, hxe], ?_⟩, hcell⟩
    rw [← hxe]
    exact (ho2.ow (M := fun _ => True) (fun k hk => ⟨(hB k hk).1, trivial⟩)).freeze (fun b hb => hb.1.1) (fun b hb hs => hs.1.2 (hB b hb).2)
  · exact h2.ro r (by simp [hr])
end
end Go.V
