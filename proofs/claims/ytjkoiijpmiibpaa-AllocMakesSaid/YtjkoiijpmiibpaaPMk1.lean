/- Moves that are put in order: what they do, whatever is in the registers. Its conditions: none. -/
import Derived.Test.YtjkoiijpmiibpaaPMa4
import Derived.Test.YtjkoiijpmiibpaaPAl7
import Derived.Test.YtjkoiijpmiibpaaPAp1
set_option autoImplicit false
namespace Go.Proofs.Ytjkoiijpmiibpaa
open Go.V Go.RowKit
open Classical in

theorem m_orderM {ms : List MMove} {sp : Int} {fuel : Nat} (hl : ms.length ≤ 400) (hf : 5000 < fuel) : m_moves_Order fuel ms sp = if RightM ms ∧ FreeM ms sp then Option.bind (m_moves_order_run fuel (askM ms sp)) fun o => some (o.out, 0) else some ([], 1) := by
  unfold m_moves_Order
  simp only [m_once (ms := ms) (by omega) hf, bind_some', m_contains (ms := ms) (sp := sp) (by omega) hf]
  by_cases h1 : RightM ms
  · by_cases h2 : sp < 0
    · have hF : ¬ FreeM ms sp := fun h => by have := h.1; omega
      simp [h1, h2, hF]
    · by_cases h3 : ∃ i, i < ms.length ∧ usesM ms sp i
      · have hF : ¬ FreeM ms sp := fun h => by obtain ⟨i, h4, h5⟩ := h3; exact h.2 i h4 h5
        simp [h1, h2, hF, h3]
      · have hF : FreeM ms sp := ⟨by omega, fun i h4 h5 => h3 ⟨i, h4, h5⟩⟩
        simp only [h1, hF, and_self, if_true, decide_true, Bool.not_true, Bool.false_eq_true, if_false, h2, decide_false, h3, bind_some', m_ask (sp := sp) (right_nd h1) (show ms.length ≤ 5000 by omega) hf]
  · simp [h1]
/-- What moves in order do. -/
structure OrdOk (ms : List MMove) (sp : Int) (l : List MMove) : Prop where
  len : l.length = (keyS ms).length + rings (fS ms) (keyS ms) (ms.length + 1)
  ne : ∀ m ∈ l, m.To ≠ m.From
  reg : ∀ (now : Int) (r : List Int), (∀ m ∈ ms, inR r.length m) → sp < r.length → (∀ m ∈ l, inR r.length m) ∧ ∀ j : Int, 0 ≤ j → j < r.length → j ≠ sp → gt (applyL now r l) j = gt (onceL now (gt r) r ms) j
def ordL (fuel : Nat) (ms : List MMove) (sp : Int) : List MMove := ((m_moves_Order fuel ms sp).getD ([], 0)).1
theorem free_sp {ms : List MMove} {sp : Int} (hF : FreeM ms sp) : ∀ m ∈ ms, m.To ≠ sp ∧ m.From ≠ sp := by
  intro m hm
  obtain ⟨i, hi, rfl⟩ := List.mem_iff_getElem.1 hm
  have := hF.2 i hi
  unfold usesM at this
  rw [gtE hi] at this
  exact ⟨fun e => this (.inl e), fun e => this (.inr e)⟩
theorem ord_ok {ms : List MMove} {sp : Int} {fuel : Nat} (hl : ms.length ≤ 400) (hf : 5000 < fuel) (hR : RightM ms) (hF : FreeM ms sp) : m_moves_Order fuel ms sp = some (ordL fuel ms sp, 0) ∧ OrdOk ms sp (ordL fuel ms sp) := by
  have hsp := free_sp hF
  have hsp0 := hF.1
  obtain ⟨o, ho, hI, he⟩ := order_ends (fuel := fuel) 0 (fun _ => 0) hl hR hsp (by omega) hf
  have hm : m_moves_Order fuel ms sp = some (o.out, 0) := by rw [m_orderM hl hf, if_pos ⟨hR, hF⟩, ho]; rfl
  have ho2 : ordL fuel ms sp = o.out := by unfold ordL; rw [hm]; rfl
  rw [ho2]
  refine ⟨hm, ?_, hI.ne, fun now r hin hlt => ?_⟩
  · have := hI.len
    rw [he, List.length_nil, Nat.add_zero] at this
    exact this
  · obtain ⟨o2, ho3, hI2, he2⟩ := order_ends (fuel := fuel) now (gt r) hl hR hsp (by omega) hf
    rw [ho] at ho3
    obtain rfl := Option.some.inj ho3
    have hout := out_range (L := r.length) hR hin ⟨hsp0, hlt⟩ hI2
    exact ⟨hout, fun j h0 h1 hne => end_regs hR hin hI2 he2 hout j h0 h1 hne⟩
theorem rings_le (f : Int → Int) (K : List Int) (n : Nat) : rings f K n ≤ K.length := List.countP_le_length
theorem OrdOk.small {ms l : List MMove} {sp : Int} (h : OrdOk ms sp l) : l.length ≤ 2 * ms.length := by
  have h1 := h.len
  have h2 := rings_le (fS ms) (keyS ms) (ms.length + 1)
  have h3 := keyS_le ms
  omega
theorem right_of {ms : List MMove} (h : ∀ m ∈ ms, 0 ≤ m.To ∧ -1 ≤ m.From) (hn : (ms.map MMove.To).Nodup) : RightM ms := by
  intro i hi hb
  have hm := h (gt ms (i : Int)) (by rw [gtE hi]; exact List.getElem_mem _)
  unfold badM at hb
  rcases hb with hb | hb | ⟨k, hk, e⟩
  · omega
  · omega
  · unfold List.Nodup at hn
    rw [List.pairwise_map, List.pairwise_iff_getElem] at hn
    rw [gtE hi, gtE (show k < ms.length by omega)] at e
    exact hn k i (by omega) hi hk e
/-- The homes of a state. -/
def hA (d : MDfa) (q : Int) : List Int := gt (homesL d) q
def atH (d : MDfa) (q n : Int) : Int := if n < 0 then n else gt (hA d q) n
def mvK (d : MDfa) (q : Int) (x : MEdge) (k : Nat) : MMove := ⟨gt (hA d x.To) (k : Int), atH d q (gt x.Src (k : Int))⟩
def onceK (d : MDfa) (q : Int) (x : MEdge) : Nat → List MMove
  | 0 => []
  | k + 1 => if (mvK d q x k).To ≠ (mvK d q x k).From then onceK d q x k ++ [mvK d q x k] else onceK d q x k
def onceH (d : MDfa) (q : Int) (x : MEdge) : List MMove := onceK d q x x.Src.length
theorem hA_ok {d : MDfa} (hR : RightD d) {q : Int} (h0 : 0 ≤ q) (h1 : q < d.States.length) : HomeOk (manyL d) (regsOf d q) (hA d q) := by
  obtain ⟨k, rfl⟩ : ∃ k : Nat, q = (k : Int) := ⟨q.toNat, by omega⟩
  have hk : k < d.States.length := by omega
  unfold hA
  rw [homesL_gt hk, many_most hR]
  exact home_ok hR hk
theorem once_mem {d : MDfa} {q : Int} {x : MEdge} {m : MMove} : ∀ k, m ∈ onceK d q x k ↔ ∃ i, i < k ∧ mvK d q x i = m ∧ m.To ≠ m.From
  | 0 => by simp [onceK]
  | k + 1 => by
    have ih := once_mem (d := d) (q := q) (x := x) (m := m) k
    unfold onceK
    split
    · rename_i c
      rw [List.mem_append, ih, List.mem_singleton]
      constructor
      · rintro (⟨i, h1, h2⟩ | rfl)
        · exact ⟨i, by omega, h2⟩
        · exact ⟨k, by omega, rfl, c⟩
      · rintro ⟨i, h1, h2, h3⟩
        by_cases e : i = k
        · subst e; exact .inr h2.symm
        · exact .inl ⟨i, by omega, h2, h3⟩
    · rename_i c
      rw [ih]
      constructor
      · rintro ⟨i, h1, h2⟩; exact ⟨i, by omega, h2⟩
      · rintro ⟨i, h1, h2, h3⟩
        by_cases e : i = k
        · subst e; rw [h2] at c; exact absurd h3 c
        · exact ⟨i, by omega, h2, h3⟩
theorem once_klen {d : MDfa} {q : Int} {x : MEdge} : ∀ k, (onceK d q x k).length ≤ k
  | 0 => by simp [onceK]
  | k + 1 => by have := once_klen (d := d) (q := q) (x := x) k; unfold onceK; split <;> simp <;> omega
theorem once_nd {d : MDfa} {q : Int} {x : MEdge} {B r : Int} (hh : HomeOk B r (hA d x.To)) : ∀ k, k ≤ (hA d x.To).length → ((onceK d q x k).map MMove.To).Nodup
  | 0, _ => by simp [onceK]
  | k + 1, hk => by
    have ih := once_nd (q := q) hh k (by omega)
    unfold onceK
    split
    · rw [List.map_append]
      refine List.nodup_append.2 ⟨ih, by simp, fun a ha b hb e => ?_⟩
      simp only [List.map_cons, List.map_nil, List.mem_singleton] at hb
      obtain ⟨m, hm, rfl⟩ := List.mem_map.1 ha
      obtain ⟨i, h1, h2, _⟩ := (once_mem k).1 hm
      rw [hb, ← h2] at e
      exact hh.apart i k (by omega) (by omega) (by omega) (hh.rng i (by omega)).1 e
    · exact ih
structure EdgeAt (d : MDfa) (q : Int) (x : MEdge) : Prop where
  q0 : 0 ≤ q
  q1 : q < d.States.length
  ok : EdgeOk d x (regsOf d q)
  sm : x.Src.length ≤ 400
theorem edge_at {d : MDfa} (hR : RightD d) (hS : SmallD d) {q : Int} (h0 : 0 ≤ q) (h1 : q < d.States.length) {c : Nat} (hc : c < (gt d.States q).Edges.length) : EdgeAt d q (gt (gt d.States q).Edges (c : Int)) := by
  have h2 := hR.2.2.2.2.2.2.2 q.toNat (by omega)
  have h3 := hS.2.2 q.toNat (by omega)
  rw [show ((q.toNat : Nat) : Int) = q by omega] at h2 h3
  exact ⟨h0, h1, h2.2.2.2.2.2 c hc, h3.2.2.2 c hc⟩
theorem edge_src {d : MDfa} {q : Int} {x : MEdge} (h : EdgeAt d q x) (h0 : 0 ≤ x.To) : x.To < d.States.length ∧ (x.Src.length : Int) = regsOf d x.To ∧ ∀ i : Nat, i < x.Src.length → fromP (gt x.Src (i : Int)) (regsOf d q) := by
  have := h.ok
  unfold EdgeOk at this
  rw [if_neg (by omega)] at this
  exact ⟨this.2.1, this.2.2.1, this.2.2.2⟩
theorem edge_out {d : MDfa} {q : Int} {x : MEdge} (h : EdgeAt d q x) (h0 : ¬ 0 ≤ x.To) : x.To = -1 ∧ x.Src.length = 0 := by
  have := h.ok
  unfold EdgeOk at this
  split at this
  · rename_i c; exact ⟨c, this⟩
  · exact absurd this.1 h0
/-- Where a number's value is: in a home, or Now. -/
theorem at_rng {d : MDfa} (hR : RightD d) {q n : Int} (h0 : 0 ≤ q) (h1 : q < d.States.length) (hn : fromP n (regsOf d q)) : -1 ≤ atH d q n ∧ atH d q n < manyL d := by
  have hh := hA_ok hR h0 h1
  have h2 := hh.len
  unfold atH
  rcases hn with rfl | ⟨h3, h4⟩
  · have : 0 ≤ manyL d := by rw [many_most hR]; exact mostR_0 d _
    rw [if_pos (by omega)]; omega
  · rw [if_neg (by omega)]
    obtain ⟨k, rfl⟩ : ∃ k : Nat, n = (k : Int) := ⟨n.toNat, by omega⟩
    have := hh.rng k (by omega)
    omega
theorem once_rng {d : MDfa} (hR : RightD d) {q : Int} {x : MEdge} (h : EdgeAt d q x) : ∀ m ∈ onceH d q x, 0 ≤ m.To ∧ m.To < manyL d ∧ -1 ≤ m.From ∧ m.From < manyL d := by
  intro m hm
  obtain ⟨i, hi, rfl, _⟩ := (once_mem _).1 hm
  by_cases c : 0 ≤ x.To
  · obtain ⟨e1, e2, e3⟩ := edge_src h c
    have hh := hA_ok hR c e1
    have h2 := hh.len
    have h3 := hh.rng i (by omega)
    have h4 := at_rng hR h.q0 h.q1 (e3 i hi)
    exact ⟨h3.1, h3.2, h4.1, h4.2⟩
  · have := (edge_out h c).2; omega
theorem once_right {d : MDfa} (hR : RightD d) {q : Int} {x : MEdge} (h : EdgeAt d q x) : RightM (onceH d q x) := by
  refine right_of (fun m hm => by have := once_rng hR h m hm; omega) ?_
  by_cases c : 0 ≤ x.To
  · obtain ⟨e1, e2, e3⟩ := edge_src h c
    have hh := hA_ok hR c e1
    have h2 := hh.len
    exact once_nd hh _ (by omega)
  · unfold onceH; rw [(edge_out h c).2]; simp [onceK]
theorem once_free {d : MDfa} (hR : RightD d) {q : Int} {x : MEdge} (h : EdgeAt d q x) : FreeM (onceH d q x) (manyL d) := by
  refine ⟨by rw [many_most hR]; exact mostR_0 d _, fun i hi hu => ?_⟩
  have := once_rng hR h (gt (onceH d q x) (i : Int)) (by rw [gtE hi]; exact List.getElem_mem _)
  unfold usesM at hu
  omega
theorem onceH_len {d : MDfa} {q : Int} {x : MEdge} (h : EdgeAt d q x) : (onceH d q x).length ≤ 400 ∧ (onceH d q x).length ≤ x.Src.length := by
  have := once_klen (d := d) (q := q) (x := x) x.Src.length
  have h2 := h.sm
  unfold onceH; omega
/-- What the moves at once leave in the homes that they lead to. -/
theorem once_val {d : MDfa} (hR : RightD d) {q : Int} {x : MEdge} (h : EdgeAt d q x) (h0 : 0 ≤ x.To) {now : Int} {r : List Int} (hr : (r.length : Int) = manyL d + 1) {k : Nat} (hk : k < x.Src.length) :
    gt (onceL now (gt r) r (onceH d q x)) (gt (hA d x.To) (k : Int)) = valE now (gt r) (atH d q (gt x.Src (k : Int))) := by
  obtain ⟨e1, e2, e3⟩ := edge_src h h0
  have hh := hA_ok hR h0 e1
  have h2 := hh.len
  have h3 := hh.rng k (by omega)
  have hin : ∀ m ∈ onceH d q x, inR r.length m := fun m hm => by have := once_rng hR h m hm; unfold inR; omega
  obtain ⟨g1, g2⟩ := once_get now (gt r) (onceH d q x) r (right_nd (once_right hR h)) hin (gt (hA d x.To) (k : Int)) h3.1 (by omega)
  by_cases c : (mvK d q x k).To ≠ (mvK d q x k).From
  · exact g2 (mvK d q x k) ((once_mem _).2 ⟨k, hk, rfl, c⟩) rfl
  · have c' : gt (hA d x.To) (k : Int) = atH d q (gt x.Src (k : Int)) := Classical.not_not.1 c
    rw [g1 (fun m hm e => ?_)]
    · rw [← c']; unfold valE; rw [if_neg (by omega)]
    · obtain ⟨i, hi, rfl, hne⟩ := (once_mem _).1 hm
      have : i = k := by
        apply Classical.byContradiction
        intro hik
        exact hh.apart i k (by omega) (by omega) hik (hh.rng i (by omega)).1 e
      subst this
      exact c hne
def wayL (fuel : Nat) (d : MDfa) (q : Int) (x : MEdge) : MWay := ⟨x.To, ordL fuel (onceH d q x) (manyL d)⟩
def standL (fuel : Nat) (d : MDfa) (q : Nat) : MStand := ⟨(gt d.States (q : Int)).Accept.map (atH d q), (gt d.States (q : Int)).Edges.map (wayL fuel d q)⟩
def progL (fuel : Nat) (d : MDfa) : MProg := ⟨d.Tags, manyL d + 1, d.Class, (List.range d.States.length).map (standL fuel d)⟩
def mkL (d : MDfa) : MAllocMaker := ⟨d, homesL d, manyL d⟩
theorem many_le {d : MDfa} (hR : RightD d) (hS : SmallD d) : 0 ≤ manyL d ∧ manyL d ≤ 400 := by
  rw [many_most hR]
  exact ⟨mostR_0 d _, mostR_le (by omega) _ (fun i hi => (hS.2.2 i hi).2.2.1)⟩
theorem m_at {d : MDfa} (hR : RightD d) {q n : Int} (h0 : 0 ≤ q) (h1 : q < d.States.length) (hn : n = -2 ∨ fromP n (regsOf d q)) {fuel : Nat} : m_alloc_maker_at fuel (mkL d) q n = some (atH d q n) := by
  have hh := hA_ok hR h0 h1
  have h2 := hh.len
  unfold m_alloc_maker_at atH
  by_cases c : n < 0
  · simp [c]
  · have hn2 : n < regsOf d q := by unfold fromP at hn; omega
    have n1 : inb (mkL d).homes q = true := inb_true h0 (by show q < ((homesL d).length : Int); rw [homesL_len]; exact h1)
    have n2 : inb (gt (mkL d).homes q) n = true := inb_true (by omega) (by show n < ((hA d q).length : Int); omega)
    simp only [c, decide_false, Bool.false_eq_true, if_false, n1, n2, if_true]
    rfl
theorem m_makeWay {d : MDfa} (hR : RightD d) {q : Int} {x : MEdge} (h : EdgeAt d q x) {fuel : Nat} (hf : 6000 < fuel) : m_alloc_maker_way fuel (mkL d) q x = some (wayL fuel d q x) := by
  have hsm := h.sm
  have hl := iter_end (body := m_alloc_maker_way_l1 fuel (mkL d) q x) (fu := fuel) x.Src.length (fun k => (onceK d q x k, (k : Int))) (onceH d q x) (fun k hk => by
    have hin : inb x.Src (k : Int) = true := inb_true (by omega) (by omega)
    have hd : (k : Int) < (x.Src.length : Int) := by omega
    have h0 : 0 ≤ x.To := by
      apply Classical.byContradiction
      intro c
      have := (edge_out h c).2; omega
    obtain ⟨e1, e2, e3⟩ := edge_src h h0
    have hh := hA_ok hR h0 e1
    have h2 := hh.len
    have n1 : inb (mkL d).homes x.To = true := inb_true h0 (by show x.To < ((homesL d).length : Int); rw [homesL_len]; exact e1)
    have n2 : inb (gt (mkL d).homes x.To) (k : Int) = true := inb_true (by omega) (by show (k : Int) < ((hA d x.To).length : Int); omega)
    have hkl := once_klen (d := d) (q := q) (x := x) k
    unfold m_alloc_maker_way_l1
    simp only [hd, decide_true, if_true, hin, n1, n2, m_at hR h.q0 h.q1 (.inr (e3 k hk)), bind_some', W_succ (show k < 9223372036854775807 by omega)]
    by_cases c : (mvK d q x k).To ≠ (mvK d q x k).From
    · have hc : ((mvK d q x k).To != (mvK d q x k).From) = true := by rw [bne_iff_ne]; exact c
      have hap : apOk 16 (onceK d q x k) [mvK d q x k] = true := apOk_true (by simp; omega)
      have e : onceK d q x (k + 1) = onceK d q x k ++ [mvK d q x k] := by rw [onceK, if_pos c]
      rw [e]
      show Option.bind (if ((mvK d q x k).To != (mvK d q x k).From) = true then if apOk 16 (onceK d q x k) [mvK d q x k] = true then some (onceK d q x k ++ [mvK d q x k]) else none else some (onceK d q x k)) _ = _
      rw [if_pos hc, if_pos hap]; rfl
    · have hc : ¬ ((mvK d q x k).To != (mvK d q x k).From) = true := by rw [bne_iff_ne]; exact c
      have e : onceK d q x (k + 1) = onceK d q x k := by rw [onceK, if_neg c]
      rw [e]
      show Option.bind (if ((mvK d q x k).To != (mvK d q x k).From) = true then if apOk 16 (onceK d q x k) [mvK d q x k] = true then some (onceK d q x k ++ [mvK d q x k]) else none else some (onceK d q x k)) _ = _
      rw [if_neg hc]; rfl) (by unfold m_alloc_maker_way_l1; simp [onceH]) (by omega)
  have h0 : iter (m_alloc_maker_way_l1 fuel (mkL d) q x) fuel (([] : List MMove), 0) = some (onceH d q x) := hl
  have ho := (ord_ok (fuel := fuel) (onceH_len h).1 (by omega) (once_right hR h) (once_free hR h)).1
  unfold m_alloc_maker_way
  rw [h0]
  show Option.bind (m_moves_Order fuel (onceH d q x) (manyL d)) _ = _
  rw [ho]; rfl
theorem m_makeStand {d : MDfa} (hR : RightD d) (hS : SmallD d) {q : Nat} (hq : q < d.States.length) {fuel : Nat} (hf : 6000 < fuel) : m_alloc_maker_stand fuel (mkL d) (q : Int) = some (standL fuel d q) := by
  have hin : inb (mkL d).d.States (q : Int) = true := inb_true (by omega) (by show (q : Int) < (d.States.length : Int); omega)
  obtain ⟨b1, b2, b3, b4⟩ := hS.2.2 q hq
  have hst := hR.2.2.2.2.2.2.2 q hq
  have hl1 := iter_end (body := m_alloc_maker_stand_l1 fuel (mkL d) (q : Int)) (fu := fuel) (gt d.States (q : Int)).Accept.length (fun i => ((⟨((gt d.States (q : Int)).Accept.take i).map (atH d q), ([] : List MWay)⟩ : MStand), (i : Int))) (⟨(gt d.States (q : Int)).Accept.map (atH d q), ([] : List MWay)⟩ : MStand) (fun i hi => by
    have n1 : inb (gt d.States (q : Int)).Accept (i : Int) = true := inb_true (by omega) (by omega)
    have hd : (i : Int) < ((gt d.States (q : Int)).Accept.length : Int) := by omega
    have hacc := hst.2.2.2.2.1 i hi
    show m_alloc_maker_stand_l1 fuel (mkL d) (q : Int) _ = _
    unfold m_alloc_maker_stand_l1
    simp only [show (mkL d).d = d from rfl, hd, decide_true, if_true, n1, m_at hR (show 0 ≤ (q : Int) by omega) (show (q : Int) < d.States.length by omega) hacc, bind_some', W_succ (show i < 9223372036854775807 by omega)]
    rw [if_pos (apOk_true (by simp; omega)), take_gt hi, List.map_append]; rfl) (by
    show m_alloc_maker_stand_l1 fuel (mkL d) (q : Int) _ = _
    unfold m_alloc_maker_stand_l1
    simp [show (mkL d).d = d from rfl, List.take_length]) (by omega)
  have hl2 := iter_end (body := m_alloc_maker_stand_l2 fuel (mkL d) (q : Int) (⟨(gt d.States (q : Int)).Accept.map (atH d q), ([] : List MWay)⟩ : MStand)) (fu := fuel) (gt d.States (q : Int)).Edges.length (fun i => ((⟨(gt d.States (q : Int)).Accept.map (atH d q), ((gt d.States (q : Int)).Edges.take i).map (wayL fuel d q)⟩ : MStand), (i : Int))) (standL fuel d q) (fun i hi => by
    have n1 : inb (gt d.States (q : Int)).Edges (i : Int) = true := inb_true (by omega) (by omega)
    have hd : (i : Int) < ((gt d.States (q : Int)).Edges.length : Int) := by omega
    show m_alloc_maker_stand_l2 fuel (mkL d) (q : Int) _ _ = _
    unfold m_alloc_maker_stand_l2
    simp only [show (mkL d).d = d from rfl, hd, decide_true, if_true, n1, m_makeWay hR (edge_at hR hS (show 0 ≤ (q : Int) by omega) (show (q : Int) < d.States.length by omega) hi) hf, bind_some', W_succ (show i < 9223372036854775807 by omega)]
    rw [if_pos (apOk_true (by simp; omega)), take_gt hi, List.map_append]; rfl) (by
    show m_alloc_maker_stand_l2 fuel (mkL d) (q : Int) _ _ = _
    unfold m_alloc_maker_stand_l2
    simp [show (mkL d).d = d from rfl, List.take_length, standL]) (by omega)
  have h1 : iter (m_alloc_maker_stand_l1 fuel (mkL d) (q : Int)) fuel ((⟨([] : List Int), ([] : List MWay)⟩ : MStand), 0) = _ := hl1
  have h2 : iter (m_alloc_maker_stand_l2 fuel (mkL d) (q : Int) (⟨(gt d.States (q : Int)).Accept.map (atH d q), ([] : List MWay)⟩ : MStand)) fuel ((⟨(gt d.States (q : Int)).Accept.map (atH d q), ([] : List MWay)⟩ : MStand), 0) = _ := hl2
  unfold m_alloc_maker_stand
  simp only [hin, if_true, h1, h2, bind_some']
theorem m_make {d : MDfa} (hR : RightD d) (hS : SmallD d) {fuel : Nat} (hf : 6000 < fuel) : m_alloc_Make fuel d = some (progL fuel d, 0) := by
  have hm := many_le hR hS
  have hW : W (manyL d + 1) = manyL d + 1 := W_id (by omega) (by omega)
  have hn := hS.1
  have hne : (homesL d).isEmpty = false := by
    have h1 : 1 ≤ d.States.length := hR.2.2.2.1
    cases c : homesL d with
    | nil => have := homesL_len d; rw [c] at this; simp at this; omega
    | cons a l => rfl
  have hcl : m_slices_Clone_int_int fuel d.Class = some d.Class := by
    have := hS.2.1
    unfold m_slices_Clone_int_int
    rw [if_pos (apOk_true (by simp; omega))]
  have hl := iter_end (body := m_alloc_Make_l1 fuel d (homesL d, manyL d) (⟨d.Tags, manyL d + 1, d.Class, ([] : List MStand)⟩ : MProg)) (fu := fuel) d.States.length (fun i => ((⟨d.Tags, manyL d + 1, d.Class, (List.range i).map (standL fuel d)⟩ : MProg), (i : Int))) (progL fuel d) (fun i hi => by
    have hd : (i : Int) < (d.States.length : Int) := by omega
    have hst : m_alloc_maker_stand fuel (⟨d, homesL d, manyL d⟩ : MAllocMaker) (i : Int) = _ := m_makeStand hR hS hi hf
    unfold m_alloc_Make_l1
    simp only [hd, decide_true, if_true, hst, bind_some', W_succ (show i < 9223372036854775807 by omega)]
    rw [if_pos (apOk_true (by simp; omega)), List.range_succ, List.map_append]; rfl) (by unfold m_alloc_Make_l1; simp [progL]) (by omega)
  have h0 : iter (m_alloc_Make_l1 fuel d (homesL d, manyL d) (⟨d.Tags, manyL d + 1, d.Class, ([] : List MStand)⟩ : MProg)) fuel ((⟨d.Tags, manyL d + 1, d.Class, ([] : List MStand)⟩ : MProg), 0) = some (progL fuel d) := hl
  unfold m_alloc_Make
  rw [m_allocHomes hS (by omega), if_pos hR]
  simp only [bind_some', hne, Bool.false_eq_true, if_false, hcl, hW, h0]
theorem prog_stand {fuel : Nat} {d : MDfa} {i : Nat} (h : i < d.States.length) : gt (progL fuel d).Stands (i : Int) = standL fuel d i := by
  unfold progL
  simp only
  rw [gtE (by simp; exact h)]; simp
theorem prog_len (fuel : Nat) (d : MDfa) : (progL fuel d).Stands.length = d.States.length := by simp [progL]
theorem stand_way {fuel : Nat} {d : MDfa} {q c : Nat} (h : c < (gt d.States (q : Int)).Edges.length) : gt (standL fuel d q).Ways (c : Int) = wayL fuel d q (gt (gt d.States (q : Int)).Edges (c : Int)) := by
  unfold standL
  simp only
  rw [gtE (by simp; exact h), gtE h]; simp
theorem way_ord {fuel : Nat} {d : MDfa} (hR : RightD d) (hf : 6000 < fuel) {q : Int} {x : MEdge} (h : EdgeAt d q x) : OrdOk (onceH d q x) (manyL d) (wayL fuel d q x).Moves :=
  (ord_ok (fuel := fuel) (onceH_len h).1 (by omega) (once_right hR h) (once_free hR h)).2
theorem regs_most {d : MDfa} (hR : RightD d) {q : Int} (h0 : 0 ≤ q) (h1 : q < d.States.length) : regsOf d q ≤ manyL d := by
  have := mostR_ge d d.States.length q.toNat (by omega)
  rw [show ((q.toNat : Nat) : Int) = q by omega] at this
  rw [many_most hR]; exact this
theorem way_small {fuel : Nat} {d : MDfa} (hR : RightD d) (hf : 6000 < fuel) {q : Int} {x : MEdge} (h : EdgeAt d q x) : (wayL fuel d q x).Moves.length ≤ 2 * x.Src.length ∧ ((wayL fuel d q x).Moves.length : Int) ≤ 2 * manyL d := by
  have h1 := (way_ord hR hf h).small
  have h2 := (onceH_len h).2
  refine ⟨by omega, ?_⟩
  by_cases c : 0 ≤ x.To
  · obtain ⟨e1, e2, e3⟩ := edge_src h c
    have := regs_most hR c e1
    omega
  · have := (edge_out h c).2
    have h3 : 0 ≤ manyL d := by rw [many_most hR]; exact mostR_0 d _
    omega
theorem way_right {fuel : Nat} {d : MDfa} (hR : RightD d) (hf : 6000 < fuel) {q : Int} {x : MEdge} (h : EdgeAt d q x) : WayOk (progL fuel d) (wayL fuel d q x) := by
  have ho := way_ord hR hf h
  obtain ⟨s1, s2⟩ := way_small hR hf h
  have h3 : 0 ≤ manyL d := by rw [many_most hR]; exact mostR_0 d _
  have hin : ∀ m ∈ onceH d q x, inR (List.replicate (manyL d + 1).toNat (0 : Int)).length m := fun m hm => by
    have := once_rng hR h m hm
    rw [List.length_replicate]; unfold inR; omega
  obtain ⟨g1, _⟩ := ho.reg 0 (List.replicate (manyL d + 1).toNat 0) hin (by rw [List.length_replicate]; omega)
  have hm : ∀ i, i < (wayL fuel d q x).Moves.length → MovAt (progL fuel d).Regs (wayL fuel d q x).Moves i := fun i hi => by
    have hme := gt_mem hi
    have h5 := g1 _ hme
    have h6 := ho.ne _ hme
    rw [List.length_replicate] at h5
    unfold inR at h5
    show MoveOk (manyL d + 1) _
    exact ⟨h5.1, by omega, h5.2.2.1, by omega, fun e => h6 e.symm⟩
  have hs : ((wayL fuel d q x).Moves.length : Int) ≤ 2 * (progL fuel d).Regs := by show _ ≤ 2 * (manyL d + 1); omega
  by_cases c : 0 ≤ x.To
  · obtain ⟨e1, e2, e3⟩ := edge_src h c
    exact ⟨by show -1 ≤ x.To; omega, by show x.To < _; rw [prog_len]; exact e1, fun e => by have : x.To = -1 := e; omega, hs, hm⟩
  · have := edge_out h c
    exact ⟨by show -1 ≤ x.To; omega, by show x.To < _; rw [prog_len]; omega, fun _ => by omega, hs, hm⟩
theorem prog_right {fuel : Nat} {d : MDfa} (hR : RightD d) (hS : SmallD d) (hf : 6000 < fuel) : RightP (progL fuel d) := by
  have hm := many_le hR hS
  obtain ⟨r1, r2, r3, r4, r5, r6, r7, r8⟩ := hR
  have hR : RightD d := ⟨r1, r2, r3, r4, r5, r6, r7, r8⟩
  refine ⟨r1, r2, r3, by show 1 ≤ manyL d + 1; omega, by show manyL d + 1 ≤ 1217; omega, by rw [prog_len]; exact r4, by rw [prog_len]; exact r5, r6, fun i hi => ?_⟩
  rw [prog_len] at hi
  rw [prog_stand hi]
  obtain ⟨s1, s2, s3, s4, s5, s6⟩ := r8 i hi
  refine ⟨?_, ?_, ?_, ?_⟩
  · show ((gt d.States (i : Int)).Accept.map (atH d i)).length = 0 ∨ _
    rw [List.length_map]
    show _ ∨ (((gt d.States (i : Int)).Accept.map (atH d i)).length : Int) = d.Tags
    rw [List.length_map]; exact s3
  · intro t ht
    have ht' : t < (gt d.States (i : Int)).Accept.length := by simpa [standL] using ht
    have e : gt (standL fuel d i).Accept (t : Int) = atH d i (gt (gt d.States (i : Int)).Accept (t : Int)) := by
      unfold standL; simp only; rw [gtE (by simp; exact ht'), gtE ht']; simp
    show -2 ≤ gt (standL fuel d i).Accept (t : Int) ∧ gt (standL fuel d i).Accept (t : Int) < manyL d + 1
    rw [e]
    rcases s5 t ht' with h | h
    · rw [h]; unfold atH; rw [if_pos (by omega)]; omega
    · have := at_rng hR (show 0 ≤ (i : Int) by omega) (show (i : Int) < d.States.length by omega) h
      omega
  · show ((gt d.States (i : Int)).Edges.map (wayL fuel d i)).length = _
    rw [List.length_map]; exact s4
  · intro c hc
    have hc' : c < (gt d.States (i : Int)).Edges.length := by simpa [standL] using hc
    unfold WayAt
    rw [stand_way hc']
    exact way_right hR hf (edge_at hR hS (by omega) (by omega) hc')
theorem prog_size {fuel : Nat} {d : MDfa} (hR : RightD d) (hS : SmallD d) (hf : 6000 < fuel) : SizeP (progL fuel d) := by
  refine ⟨by rw [prog_len]; exact hS.1, hS.2.1, fun i hi => ?_⟩
  rw [prog_len] at hi
  rw [prog_stand hi]
  obtain ⟨b1, b2, b3, b4⟩ := hS.2.2 i hi
  refine ⟨by simpa [standL] using b1, by simpa [standL] using b2, fun c hc => ?_⟩
  have hc' : c < (gt d.States (i : Int)).Edges.length := by simpa [standL] using hc
  unfold SizeW
  rw [stand_way hc']
  have h1 := edge_at hR hS (show 0 ≤ (i : Int) by omega) (show (i : Int) < d.States.length by omega) hc'
  have h2 := (way_small hR hf h1).1
  have h3 := h1.sm
  omega
end Go.Proofs.Ytjkoiijpmiibpaa
