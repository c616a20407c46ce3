/- Regions that draw their order, over frames of known slots: what only reads is taken first; the condition on the world hangs on what has come up. Its conditions: none. -/
import Derived.Test.YtjkoiijpmiibpaaVOps
import Derived.OrdersHeld
namespace Go.V
open Go.RowKit

def NoP (Q : Exit → Act → World → Prop) : Prop := ∀ c a w, ¬ Q (.panic c) a w

section
variable {P : Program} {ops : Array Oper} {n : Nat} {Q : Exit → Act → World → Prop} {S : Array Bool → World → Prop} {l : FL} {a : Act} {w : World} {listed : Array Bool} {fuel : Nat}

/-- Whatever order is picked from here on; behind each operation S holds, of what has come up and of the world. -/
def wpS (P : Program) (ops : Array Oper) (Q : Exit → Act → World → Prop) (S : Array Bool → World → Prop) : Nat → Array Bool → Act → World → Prop
  | 0, L, a, w => Region.ready .any ops L = [] ∧ Q .normal a w
  | f + 1, L, a, w => (Region.ready .any ops L = [] → Q .normal a w) ∧ ∀ i ∈ Region.ready .any ops L, wpOp P ops Q i (fun a' w' => S (L.setIfInBounds i true) w' ∧ wpS P ops Q S f (L.setIfInBounds i true) a' w') a w

theorem wpS_any : ∀ (f : Nat) (L : Array Bool) (a : Act) (w : World), wpS P ops Q S f L a w → wpAny P .any ops Q f L a w
  | 0, _, _, _, h => h
  | f + 1, _, _, _, h => ⟨h.1, fun i hi => wpOp_mono (fun a' w' k => wpS_any f _ a' w' k.2) (h.2 i hi)⟩

/-- What has come up is closed: nothing came before what it waits for. -/
def Cl (ops : Array Oper) (L : Array Bool) : Prop := L.size = ops.size ∧ ∀ j o, ops[j]? = some o → L.getD j false = true → ∀ e ∈ o.after, Region.binds .any e = true → L.getD e.on false = true
def clb (ops : Array Oper) (L : Array Bool) : Bool := (L.size == ops.size) && (List.range ops.size).all fun j => match ops[j]? with
  | some o => !L.getD j false || o.after.all fun e => !Region.binds .any e || L.getD e.on false
  | none => true
theorem clb_cl {L : Array Bool} (h : clb ops L = true) : Cl ops L := by
  simp only [clb, Bool.and_eq_true, beq_iff_eq, List.all_eq_true] at h
  refine ⟨h.1, fun j o ho hj e he hb => ?_⟩
  have hlt : j < ops.size := (Array.getElem?_eq_some_iff.1 ho).1
  have h2 := h.2 j (List.mem_range.2 hlt)
  simp only [ho, hj, Bool.not_true, Bool.false_or, Array.all_eq_true_iff_forall_mem] at h2
  have h3 := h2 e he
  simpa [hb] using h3
theorem Cl.set {L : Array Bool} {j : Nat} (h : Cl ops L) (hj : j ∈ Region.ready .any ops L) : Cl ops (L.setIfInBounds j true) := by
  refine ⟨by simp [h.1], fun k o ho hk e he hb => ?_⟩
  obtain ⟨_, oj, hoj, hall⟩ := mem_ready.1 hj
  by_cases e2 : j = k
  · subst e2
    rw [hoj] at ho; cases ho
    exact getD_set_true (hall e he hb)
  · rw [getD_set_ne false e2] at hk
    exact getD_set_true (h.2 k o ho hk e he hb)

/-- An operation that may come up, and yields the same in all worlds that may be met until it does, may be taken first. -/
theorem wpS_first {i : Nat} {oi : Oper} {v : Value} {Sx : World → Prop} (hi : ops[i]? = some oi) (hsel : ∀ (j : Nat) (o : Oper) cs b, ops[j]? = some o → o.op ≠ .select cs b)
    (hQ : ∀ c a w, Q (.panic c) (a.put oi.dst v) w → Q (.panic c) a w) (hSx : ∀ L w, Cl ops L → L.getD i true = false → S L w → Sx w) (hSi : ∀ L w, S (L.setIfInBounds i true) w → L.getD i true = false → S L w)
    (hSj : ∀ L w, S L w → S (L.setIfInBounds i true) w) :
    ∀ (fuel : Nat) (L : Array Bool) (a : Act) (w : World), Cl ops L → (∀ j oj, ops[j]? = some oj → j ≠ i → L.getD j true = false → (∀ e ∈ oj.after, Region.binds .any e = true → e.on ≠ i) → oi.apart ops oj = true) →
      i ∈ Region.ready .any ops L → YieldsIf P ops Sx oi v a → S L w → wpS P ops Q S fuel (L.setIfInBounds i true) (a.put oi.dst v) w → wpS P ops Q S (fuel + 1) L a w := by
  intro fuel
  induction fuel with
  | zero =>
    intro L a w hcl _ hr hy hS H
    refine ⟨fun h => (by rw [h] at hr; cases hr), fun j hj => ?_⟩
    by_cases e : j = i
    · subst e; exact hy.wpOp hi (hSx L w hcl (mem_ready.1 hr).1 hS) ⟨hSj L w hS, H⟩
    · have := ready_mono hj e
      rw [H.1] at this
      cases this
  | succ fuel ih =>
    intro L a w hcl hfree hr hy hS H
    have hun := (mem_ready.1 hr).1
    refine ⟨fun h => (by rw [h] at hr; cases hr), fun j hj => ?_⟩
    by_cases e : j = i
    · subst e; exact hy.wpOp hi (hSx L w hcl hun hS) ⟨hSj L w hS, H⟩
    · have h1 := H.2 j (ready_mono hj e)
      obtain ⟨hjun, oj, hoj, hall⟩ := mem_ready.1 hj
      have hnot : ∀ e ∈ oj.after, Region.binds .any e = true → e.on ≠ i := fun e he hb heq => by
        have h1 := hall e he hb
        rw [heq] at h1
        rcases Nat.lt_or_ge i L.size with h' | h'
        · simp [h'] at hun h1; rw [hun] at h1; cases h1
        · simp [Array.getElem?_eq_none h'] at h1
      have h2 := wpOp_putIf hoj (hfree j oj hoj e hjun hnot) (fun cs b => hsel i oi cs b hi) (fun cs b => hsel j oj cs b hoj) hQ hy h1
      have hfree' : ∀ k ok, ops[k]? = some ok → k ≠ i → (L.setIfInBounds j true).getD k true = false → (∀ e ∈ ok.after, Region.binds .any e = true → e.on ≠ i) → oi.apart ops ok = true := fun k ok hk hki hun hno => by
        refine hfree k ok hk hki ?_ hno
        by_cases hjk : j = k
        · subst hjk; exact hjun
        · rw [getD_set_ne true hjk] at hun; exact hun
      refine wpOp_mono (fun a' w' h3 => ?_) h2
      have h4 := h3.2.1
      rw [Array.setIfInBounds_comm _ _ (Ne.symm e)] at h4
      have hS' := hSi _ w' h4 (by rw [getD_set_ne true e]; exact hun)
      refine ⟨hS', ih (L.setIfInBounds j true) a' w' (hcl.set hj) hfree' (ready_mono hr (Ne.symm e)) h3.1 hS' ?_⟩
      rw [Array.setIfInBounds_comm _ _ e]
      exact h3.2.2

/-- What m waits for (m, and what these wait for). -/
def marks (ops : Array Oper) (s : List Nat) : List Nat → List Nat
  | [] => s
  | j :: js => marks ops (if s.contains j then (match ops[j]? with | some o => (o.after.toList.filter (Region.binds .any)).map (·.on) ++ s | none => s) else s) js
def waitsFor (ops : Array Oper) (m i : Nat) : Bool := decide (ops.size ≤ m) || (marks ops [m] (List.range ops.size).reverse).contains i
theorem marks_sound {L : Array Bool} (hc : Cl ops L) {m : Nat} : ∀ (js s : List Nat), (∀ k ∈ s, L.getD k false = false → L.getD m false = false) → ∀ k ∈ marks ops s js, L.getD k false = false → L.getD m false = false
  | [], s, h => h
  | j :: js, s, h => by
    unfold marks
    refine marks_sound hc js _ ?_
    split
    · rename_i hj
      have hj : j ∈ s := by simpa using hj
      cases ho : ops[j]? with
      | none => simpa [ho] using h
      | some o =>
        simp only
        intro k hk hkL
        simp only [List.mem_append, List.mem_map, List.mem_filter] at hk
        rcases hk with ⟨e, ⟨he, hb⟩, rfl⟩ | hk
        · refine h j hj ?_
          cases hL : L.getD j false with
          | false => rfl
          | true => have := hc.2 j o ho hL e (by simpa using he) hb; rw [this] at hkL; cases hkL
        · exact h k hk hkL
    · exact h
theorem waitsFor_sound {L : Array Bool} (hc : Cl ops L) {m i : Nat} (h : waitsFor ops m i = true) (hi : L.getD i true = false) : L.getD m false = false := by
  simp only [waitsFor, Bool.or_eq_true, decide_eq_true_eq] at h
  rcases h with h | h
  · rw [← hc.1] at h; simp [h]
  · refine marks_sound hc _ [m] (fun k hk hL => by simp at hk; subst hk; exact hL) i (by simpa using h) ?_
    rcases Nat.lt_or_ge i L.size with h' | h'
    · simpa [h'] using hi
    · simp [h']

def Sk (T : Off) (w w' : World) : Prop := ∃ T', Keep w.heap T w'.heap T'
/-- As it was at the start w0, the blocks in T apart; and until m has come up all that was there is as it was. -/
def Sd (m : Nat) (T : Off) (w0 : World) (L : Array Bool) (w : World) : Prop := Sk T w0 w ∧ (L.getD m false = false → ∀ k, k < w0.heap.size → w.heap[k]? = w0.heap[k]?)
def Sold (w0 w : World) : Prop := ∀ k, k < w0.heap.size → w.heap[k]? = w0.heap[k]?

theorem Sd.start (m : Nat) (T : Off) (w0 : World) (L : Array Bool) : Sd m T w0 L w0 := ⟨⟨T, Keep.refl _ _⟩, fun _ _ _ => rfl⟩
theorem Sd.before {m : Nat} {T T' : Off} {w0 : World} {L : Array Bool} (k : Keep w0.heap T w.heap T') (h : Sold w0 w) : Sd m T w0 L w := ⟨⟨T', k⟩, fun _ => h⟩
theorem Sd.behind {m : Nat} {T T' : Off} {w0 : World} {L : Array Bool} (k : Keep w0.heap T w.heap T') (h : L.getD m false = true) : Sd m T w0 L w := ⟨⟨T', k⟩, fun e => by rw [h] at e; cases e⟩
theorem Sold.start (w : World) : Sold w w := fun _ _ => rfl
theorem Sold.ext {w0 w w1 : World} (h : Sold w0 w) (hs : w0.heap.size ≤ w.heap.size) (hb : Below w.heap.size w w1) : Sold w0 w1 := fun k hk => (hb.block k (Nat.lt_of_lt_of_le hk hs)).trans (h k hk)
theorem Sold.cell {w w' : World} {b o : Nat} {v : Value} (e : Sold w w') (h : cellH w.heap b o = some v) : cellH w'.heap b o = some v := (cellH_eq (e b (cellH_lt h))).trans h
theorem Sk.cell {T : Off} {w w' : World} {b o : Nat} {v : Value} (hn : ¬ T b) (e : Sk T w w') (h : cellH w.heap b o = some v) : cellH w'.heap b o = some v := by
  obtain ⟨T', k⟩ := e
  exact (cellH_eq (k.blk b (cellH_lt h) hn).2).trans h

/-- It may be taken first. -/
def may (ops : Array Oper) (listed : Array Bool) (m i : Nat) : Bool := Region.noSelect ops && Region.free .any ops listed i && (Region.ready .any ops listed).contains i && clb ops listed && (i != m)

theorem sd_put {m i : Nat} {T : Off} {w0 : World} (hm : i ≠ m) (L : Array Bool) (w : World) : Sd m T w0 (L.setIfInBounds i true) w ↔ Sd m T w0 L w := by
  unfold Sd; rw [getD_set_ne false hm]

theorem dr_start {id : Nat} {xs : List Oper} (m : Nat) (T : Off) (hm : P.follows .mixedOrders = true)
    (h : ∀ w1, w1.heap = w.heap → Below w.heap.size w w1 → wpS P xs.toArray Q (Sd m T w1) xs.toArray.size (Array.replicate xs.toArray.size false) a w1) : (Code.region id xs.toArray true).wp P Q a w :=
  wp_region_any hm (wpS_any _ _ _ _ (h _ rfl ⟨rfl, rfl, rfl, Nat.le_refl _, fun _ _ => rfl⟩))

theorem dr_val {m i : Nat} {T : Off} {w0 : World} {o : Oper} {v : Value} (ha : Ag n l a) (hq : NoP Q) (hi : ops[i]? = some o) (hm : may ops listed m i = true) (hf : (gate ops l o == some true && fit n l o) = true)
    (hr : ∀ w', Sk T w0 w' → (waitsFor ops m i = true → Sold w0 w') → (execOp (lk l) o).run P w' = .ok (.value v) w') (hS : Sd m T w0 listed w)
    (h : Sd m T w0 (listed.setIfInBounds i true) w → ∀ a', Ag n (putL l o.dst v) a' → wpS P ops Q (Sd m T w0) fuel (listed.setIfInBounds i true) a' w) : wpS P ops Q (Sd m T w0) (fuel + 1) listed a w := by
  simp only [may, Bool.and_eq_true, bne_iff_ne, ne_eq] at hm
  simp only [Bool.and_eq_true, beq_iff_eq] at hf
  obtain ⟨⟨⟨⟨h1, h2⟩, h3⟩, h4⟩, h5⟩ := hm
  refine wpS_first (Sx := fun w' => Sk T w0 w' ∧ (waitsFor ops m i = true → Sold w0 w')) hi (Region.noSelect_spec h1) (fun c a w hp => absurd hp (hq c _ w)) (fun L w' hc hu hs => ⟨hs.1, fun hw => hs.2 (waitsFor_sound hc hw hu)⟩)
    (fun L w' hs _ => (sd_put h5 L w').1 hs) (fun L w' hs => (sd_put h5 L w').2 hs) fuel listed a w (clb_cl h4) (Region.free_spec hi h2) (by simpa using h3) (.inl ⟨gate_wanted ha hf.1, fun w' hw' => ?_⟩) hS (h ((sd_put h5 listed w).2 hS) _ (ha.put _ _ (fit_dst hf.2)))
  rw [fit_exec hf.2 ha]
  exact hr w' hw'.1 hw'.2
theorem dr_off {m i : Nat} {T : Off} {w0 : World} {o : Oper} (ha : Ag n l a) (hq : NoP Q) (hi : ops[i]? = some o) (hm : may ops listed m i = true) (hf : (gate ops l o == some false && dstOk n o) = true) (hS : Sd m T w0 listed w)
    (h : Sd m T w0 (listed.setIfInBounds i true) w → ∀ a', Ag n (putL l o.dst undef) a' → wpS P ops Q (Sd m T w0) fuel (listed.setIfInBounds i true) a' w) : wpS P ops Q (Sd m T w0) (fuel + 1) listed a w := by
  simp only [may, Bool.and_eq_true, bne_iff_ne, ne_eq] at hm
  simp only [Bool.and_eq_true, beq_iff_eq] at hf
  obtain ⟨⟨⟨⟨h1, h2⟩, h3⟩, h4⟩, h5⟩ := hm
  exact wpS_first (Sx := fun _ => True) hi (Region.noSelect_spec h1) (fun c a w hp => absurd hp (hq c _ w)) (fun _ _ _ _ _ => trivial)
    (fun L w' hs _ => (sd_put h5 L w').1 hs) (fun L w' hs => (sd_put h5 L w').2 hs) fuel listed a w (clb_cl h4) (Region.free_spec hi h2) (by simpa using h3) (v := undef) (.inr ⟨gate_wanted ha hf.1, rfl⟩) hS (h ((sd_put h5 listed w).2 hS) _ (ha.put _ _ (dstOk_lt hf.2)))

/-- One that comes now: by the laws of a plain region. -/
theorem one_op {i : Nat} {o : Oper} (hi : ops[i]? = some o)
    (h : wpList P ops (Exit.then (fun a' w' => S (listed.setIfInBounds i true) w' ∧ wpS P ops Q S fuel (listed.setIfInBounds i true) a' w') Q) [o] a w) : wpOp P ops Q i (fun a' w' => S (listed.setIfInBounds i true) w' ∧ wpS P ops Q S fuel (listed.setIfInBounds i true) a' w') a w := by
  unfold wpOp
  simp only [hi]
  unfold wpList at h
  split
  · rename_i hw
    rw [if_pos hw] at h
    rcases h with h | ⟨h1, a0, w0, h2⟩
    · refine .inl ?_
      unfold Oper.wp at h ⊢
      generalize (execOp a.eval o).run P w = r at h ⊢
      cases r with
      | ok x w' =>
        cases x <;> first | exact h | exact h.mono (fun e w'' he => by cases e <;> first | exact he | (obtain ⟨a1, w1, h3⟩ := he; exact ⟨a1, w1, h3⟩))
      | halt x w' => cases x <;> exact h
    · exact .inr ⟨h1, a0, w0, h2⟩
  · rename_i hw
    rw [if_neg hw] at h
    exact h
/-- The one that must come now. -/
theorem dr_one {i : Nat} {o : Oper} (hr : Region.ready .any ops listed = [i]) (hi : ops[i]? = some o)
    (h : wpList P ops (Exit.then (fun a' w' => S (listed.setIfInBounds i true) w' ∧ wpS P ops Q S fuel (listed.setIfInBounds i true) a' w') Q) [o] a w) : wpS P ops Q S (fuel + 1) listed a w := by
  refine ⟨fun h0 => (by rw [hr] at h0; cases h0), fun j hj => ?_⟩
  rw [hr] at hj
  simp only [List.mem_singleton] at hj
  subst hj
  exact one_op hi h
/-- One of two comes now. -/
theorem dr_two {i j : Nat} {o o' : Oper} (hr : Region.ready .any ops listed = [i, j]) (hi : ops[i]? = some o) (hj : ops[j]? = some o')
    (h : wpList P ops (Exit.then (fun a' w' => S (listed.setIfInBounds i true) w' ∧ wpS P ops Q S fuel (listed.setIfInBounds i true) a' w') Q) [o] a w)
    (h' : wpList P ops (Exit.then (fun a' w' => S (listed.setIfInBounds j true) w' ∧ wpS P ops Q S fuel (listed.setIfInBounds j true) a' w') Q) [o'] a w) : wpS P ops Q S (fuel + 1) listed a w := by
  refine ⟨fun h0 => (by rw [hr] at h0; cases h0), fun q hq => ?_⟩
  rw [hr] at hq
  simp only [List.mem_cons, List.not_mem_nil, or_false] at hq
  rcases hq with rfl | rfl
  · exact one_op hi h
  · exact one_op hj h'
theorem dr_done (hr : Region.ready .any ops listed = []) (h : Q .normal a w) : wpS P ops Q S fuel listed a w := by
  cases fuel with
  | zero => exact ⟨hr, h⟩
  | succ f => exact ⟨fun _ => h, by rw [hr]; simp⟩
theorem dr_next {K : Act → World → Prop} (h1 : S listed w) (h2 : K a w) : wpList P ops (Exit.then (fun a' w' => S listed w' ∧ K a' w') Q) [] a w := ⟨h1, h2⟩

theorem Sl.off {α : Type} {T : Ty α} {H : Heap} {O : Off} {b o c : Nat} {xs : List α} {i : Int} (h : Sl T H O (some ⟨b, o, none⟩) c xs) (hi : inb xs i = true) : ¬ O b := by
  have hx : xs ≠ [] := by rintro rfl; have := inb_iff hi; simp at this; omega
  obtain ⟨b', o', hA, _, hn⟩ := h.2.1 hx
  simp at hA
  obtain ⟨rfl, _⟩ := hA
  exact hn
theorem with_nop {c : Code} (hq : NoP Q) (h : NoP Q → c.wp P Q a w) : c.wp P Q a w := h hq
theorem NoP.loop {σ τ : Type} {c : Ctl σ τ} {K : Act → World → Prop} {D : τ → Exit → Act → World → Prop} (h : ∀ t c a w, ¬ D t (.panic c) a w) : NoP (Exit.then K (fun e a' w' => ∃ t, c = .done t ∧ D t e a' w')) := by
  rintro ch a w ⟨t, _, hd⟩; exact h t ch a w hd
end
end Go.V
