/- Loops that fold a list; the ways of a run, and its frames. Its conditions: none. -/
import Derived.Test.YtfhehbfifffipaaPFol7
set_option autoImplicit false
namespace Go.Proofs.Ytfhehbfifffipaa
open Go.V Go.RowKit


theorem endR_len {s : List Int} (h : s.length ≤ 500000) : (EndR s).1.Steps.length ≤ 500000 := by
  unfold EndR; split <;> simp [h]
/-- What the program and the document tell alike. -/
structure Tells (fuel : Nat) (l : List MTerm) (q p : Int) (e : MHop × Bool) (a b : List MHop) : Prop where
  me : m_follow_End fuel l p = some e
  re : m_ref17_End fuel l p = some e
  ma : m_follow_First fuel l q = some a
  ra : m_ref17_First fuel l q = some a
  mb : m_follow_From fuel l p = some b
  rb : m_ref17_From fuel l p = some b
  el : e.1.Steps.length ≤ 2000000
  al : a.length ≤ 1000000 ∧ ∀ h ∈ a, HopOk (leavesN l l.length) h
  bl : b.length ≤ 1000000 ∧ ∀ h ∈ b, HopOk (leavesN l l.length) h
theorem tells {l : List MTerm} (hw : ∀ x ∈ l, wfTerm x) (hl : l.length * 64 ≤ 140737488351232) {fuel : Nat} (hf : 1000001 < fuel) (hf2 : l.length + 1 < fuel) (q p : Int) : ∃ e a b, Tells fuel l q p e a b := by
  have hfirst : ∃ a : List MHop, m_follow_First fuel l q = some a ∧ m_ref17_First fuel l q = some a ∧ a.length ≤ 1000000 ∧ ∀ h ∈ a, HopOk (leavesN l l.length) h := by
    by_cases hq : RightB l = false ∨ q < 0 ∨ (l.length : Int) ≤ q
    · obtain ⟨h1, h2⟩ := m_First_no hw hl (show 401 < fuel by omega) hf2 hq
      exact ⟨[], h1, h2, by simp, by simp⟩
    · have hR : RightB l = true := by
        cases h : RightB l with
        | true => rfl
        | false => exact absurd (.inl h) hq
      obtain ⟨t, ht⟩ := tree_of hw hR
      have h0 : 0 ≤ q := by
        rcases Int.lt_or_le q 0 with h | h
        · exact absurd (.inr (.inl h)) hq
        · exact h
      have h1 : q < l.length := by
        rcases Int.lt_or_le q l.length with h | h
        · exact h
        · exact absurd (.inr (.inr h)) hq
      obtain ⟨lo, s, hat, rfl⟩ := node_idx ht h0 h1
      obtain ⟨h2, h3⟩ := m_First hw ht hR hf hat
      have hil := s.into_len lo (leavesN l lo) []
      have hls := s.leaves_le
      have hsl := hat.len; have h400 := ht.le; have hln := ht.len
      exact ⟨_, h2, h3, by omega, fun h hh => by
        have h4 := s.into_ok lo (leavesN l lo) [] (by omega) (by simp; omega) h hh
        have h5 := leavesN_at hat
        have h6 := leavesN_mono l hsl
        exact ⟨by omega, by omega, h4.2.2⟩⟩
  obtain ⟨a, ha1, ha2, ha3, ha4⟩ := hfirst
  by_cases hp : RightB l = false ∨ p < 0 ∨ (leavesN l l.length : Int) ≤ p
  · have hb1 := m_From_no hw (show 401 < fuel by omega) hp
    have hb2 := r_From_no hw hl (show 401 < fuel by omega) hf2 hp
    by_cases hp1 : p = -1 ∧ RightB l = true
    · obtain ⟨rfl, hR⟩ := hp1
      obtain ⟨t, ht⟩ := tree_of hw hR
      obtain ⟨h1, h2⟩ := m_End_begin hw ht hR hf
      have hst := t.steps_le 0
      have h400 := ht.le
      refine ⟨_, a, [], h1, h2, ha1, ha2, hb1, hb2, ?_, ⟨ha3, ha4⟩, ⟨by simp, by simp⟩⟩
      refine Nat.le_trans (endR_len ?_) (by omega)
      split
      · omega
      · simp
    · have hp' : RightB l = false ∨ p < -1 ∨ (leavesN l l.length : Int) ≤ p := by
        rcases hp with h | h | h
        · exact .inl h
        · by_cases e : p = -1
          · refine .inl ?_
            cases hR : RightB l with
            | false => rfl
            | true => exact absurd ⟨e, hR⟩ hp1
          · exact .inr (.inl (by omega))
        · exact .inr (.inr h)
      obtain ⟨h1, h2⟩ := m_End_no hw hl (show 401 < fuel by omega) hf2 hp'
      exact ⟨_, a, [], h1, h2, ha1, ha2, hb1, hb2, by simp [EndR], ⟨ha3, ha4⟩, ⟨by simp, by simp⟩⟩
  · have hR : RightB l = true := by
      cases h : RightB l with
      | true => rfl
      | false => exact absurd (.inl h) hp
    obtain ⟨t, ht⟩ := tree_of hw hR
    obtain ⟨n, rfl⟩ : ∃ n : Nat, p = n := by
      rcases Int.lt_or_le p 0 with h | h
      · exact absurd (.inr (.inl h)) hp
      · exact ⟨p.toNat, by omega⟩
    have hn : n < leavesN l l.length := by
      rcases Nat.lt_or_ge n (leavesN l l.length) with h | h
      · exact h
      · exact absurd (.inr (.inr (by omega))) hp
    obtain ⟨q', S, fs, hpl⟩ := place_of ht hn
    obtain ⟨hways, hlen⟩ := climbP_ways ht hpl
    have hcl := climbP_len ht hpl
    refine ⟨_, a, _, m_End hw ht hR hf hpl hn, r_End hw ht hR hf hpl hn, ha1, ha2, m_From hw ht hR hf hpl hn, r_From hw ht hR hf hpl hn, ?_, ⟨ha3, ha4⟩, ⟨by rw [sortK_len]; omega, fun h hh => by rw [leavesN_all ht]; exact hways.ok h ((sortK_perm MHop.To _).mem_iff.1 hh)⟩⟩
    refine Nat.le_trans (endR_len ?_) (by omega)
    split
    · exact hlen
    · simp


theorem gt_mem {α : Type} [Inhabited α] {l : List α} {i : Nat} (h : i < l.length) : gt l (i : Int) ∈ l := by
  rw [gt_get_nat (x := l[i]) (by simp [h])]; exact List.getElem_mem h
/-- A fold that may stop. -/
def foldE {α σ τ : Type} (f : σ → α → σ ⊕ τ) : σ → List α → σ ⊕ τ
  | s, [] => .inl s
  | s, x :: xs => match f s x with
    | .inl s' => foldE f s' xs
    | .inr t => .inr t
def outE {σ υ τ : Type} (fin : σ → τ) (bad : υ → τ) : σ ⊕ υ → τ
  | .inl s => fin s
  | .inr t => bad t
/-- A loop over a list by index. -/
theorem iter_foldE {α σ υ τ ρ : Type} [Inhabited α] {step : ρ → Option (Ctl ρ τ)} (mk : σ → Int → ρ) (fin : σ → τ) (bad : υ → τ) (f : σ → α → σ ⊕ υ) (xs : List α) (I : Nat → σ → Prop)
    (hs : ∀ (i : Nat) (s : σ), i < xs.length → I i s → (∃ s', f s (gt xs (i : Int)) = .inl s' ∧ step (mk s (i : Int)) = some (.next (mk s' ((i + 1 : Nat) : Int))) ∧ I (i + 1) s') ∨ (∃ t, f s (gt xs (i : Int)) = .inr t ∧ step (mk s (i : Int)) = some (.done (bad t))))
    (hd : ∀ s, I xs.length s → step (mk s (xs.length : Int)) = some (.done (fin s))) :
    ∀ (k i : Nat) (s : σ) (fuel : Nat), i + k = xs.length → k < fuel → I i s → iter step fuel (mk s (i : Int)) = some (outE fin bad (foldE f s (xs.drop i))) ∧ ∀ s', foldE f s (xs.drop i) = .inl s' → I xs.length s' := by
  intro k
  induction k with
  | zero =>
    intro i s fuel h hf hI
    obtain rfl : i = xs.length := by omega
    cases fuel with
    | zero => omega
    | succ n =>
      refine ⟨?_, ?_⟩
      · unfold iter
        rw [hd s hI]
        simp [foldE, outE]
      · intro s' h'
        simp only [List.drop_length, foldE, Sum.inl.injEq] at h'
        exact h' ▸ hI
  | succ k ih =>
    intro i s fuel h hf hI
    cases fuel with
    | zero => omega
    | succ n =>
      have hi : i < xs.length := by omega
      have hdr := drop_cons hi
      unfold iter
      rcases hs i s hi hI with ⟨s', h1, h2, h3⟩ | ⟨t, h1, h2⟩
      · rw [h2, hdr]
        simp only [foldE, h1]
        exact ih (i + 1) s' n (by omega) (by omega) h3
      · rw [h2, hdr]
        simp [foldE, h1, outE]
theorem iter_fold0 {α σ υ τ ρ : Type} [Inhabited α] {step : ρ → Option (Ctl ρ τ)} (mk : σ → Int → ρ) (fin : σ → τ) (bad : υ → τ) (f : σ → α → σ ⊕ υ) (xs : List α) (I : Nat → σ → Prop) (s : σ) {fuel : Nat} (hf : xs.length < fuel) (h0 : I 0 s)
    (hs : ∀ (i : Nat) (s : σ), i < xs.length → I i s → (∃ s', f s (gt xs (i : Int)) = .inl s' ∧ step (mk s (i : Int)) = some (.next (mk s' ((i + 1 : Nat) : Int))) ∧ I (i + 1) s') ∨ (∃ t, f s (gt xs (i : Int)) = .inr t ∧ step (mk s (i : Int)) = some (.done (bad t))))
    (hd : ∀ s, I xs.length s → step (mk s (xs.length : Int)) = some (.done (fin s))) :
    iter step fuel (mk s 0) = some (outE fin bad (foldE f s xs)) ∧ ∀ s', foldE f s xs = .inl s' → I xs.length s' :=
  iter_foldE mk fin bad f xs I hs hd xs.length 0 s fuel (by omega) hf h0

/-- The ways from a place; from below 0: from the begin. -/
def wayL (fuel : Nat) (l : List MTerm) (p : Int) : List MHop := if p < 0 then (m_follow_First fuel l (W ((l.length : Int) - 1))).getD [] else (m_follow_From fuel l p).getD []
def endL (fuel : Nat) (l : List MTerm) (p : Int) : MHop × Bool := (m_follow_End fuel l p).getD (⟨0, 0, []⟩, false)
structure WaysT (fuel : Nat) (l : List MTerm) : Prop where
  m : ∀ p, m_trace_ways fuel l p = some (wayL fuel l p)
  rF : ∃ a, m_ref17_First fuel l (W ((l.length : Int) - 1)) = some a ∧ ∀ p, p < 0 → wayL fuel l p = a
  rP : ∀ p, ∃ a, m_ref17_From fuel l p = some a ∧ (0 ≤ p → a = wayL fuel l p)
  me : ∀ p, m_follow_End fuel l p = some (endL fuel l p)
  re : ∀ p, m_ref17_End fuel l p = some (endL fuel l p)
  el : ∀ p, (endL fuel l p).1.Steps.length ≤ 2000000
  len : ∀ p, (wayL fuel l p).length ≤ 1000000
  ok : ∀ p, ∀ h ∈ wayL fuel l p, HopOk (leavesN l l.length) h
theorem waysT {l : List MTerm} (hw : ∀ x ∈ l, wfTerm x) (hl : l.length * 64 ≤ 140737488351232) {fuel : Nat} (hf : 1000001 < fuel) (hf2 : l.length + 1 < fuel) : WaysT fuel l := by
  have T := tells hw hl hf hf2
  refine ⟨?_, ?_, ?_, ?_, ?_, ?_, ?_, ?_⟩
  · intro p
    obtain ⟨e, a, b, T⟩ := T (W ((l.length : Int) - 1)) p
    unfold m_trace_ways wayL
    by_cases h : p < 0 <;> simp [h, T.ma, T.mb]
  · obtain ⟨e, a, b, T⟩ := T (W ((l.length : Int) - 1)) 0
    exact ⟨a, T.ra, fun p h => by simp [wayL, h, T.ma]⟩
  · intro p
    obtain ⟨e, a, b, T⟩ := T 0 p
    exact ⟨b, T.rb, fun h => by simp [wayL, show ¬ p < 0 by omega, T.mb]⟩
  · intro p; obtain ⟨e, a, b, T⟩ := T 0 p; simp [endL, T.me]
  · intro p; obtain ⟨e, a, b, T⟩ := T 0 p; simp [endL, T.me, T.re]
  · intro p; obtain ⟨e, a, b, T⟩ := T 0 p; simp only [endL, T.me]; exact T.el
  · intro p
    obtain ⟨e, a, b, T⟩ := T (W ((l.length : Int) - 1)) p
    unfold wayL
    by_cases h : p < 0
    · simp only [h, if_true, T.ma]; exact T.al.1
    · simp only [h, if_false, T.mb]; exact T.bl.1
  · intro p
    obtain ⟨e, a, b, T⟩ := T (W ((l.length : Int) - 1)) p
    unfold wayL
    by_cases h : p < 0
    · simp only [h, if_true, T.ma]; exact T.al.2
    · simp only [h, if_false, T.mb]; exact T.bl.2

/-- The way to a place. -/
def wayTo (hs : List MHop) (p : Int) : Option MHop := hs.find? fun h => h.To == p
theorem m_indexTo {fuel : Nat} (hs : List MHop) (p : Int) (hl : hs.length ≤ 1000000) (hf : 1000001 < fuel) :
    (∃ (i : Nat) (h : MHop), m_slices_IndexFunc_api_Hop_api_Hop_trace_Frames_1 fuel hs p = some (i : Int) ∧ i < hs.length ∧ gt hs (i : Int) = h ∧ wayTo hs p = some h) ∨ (m_slices_IndexFunc_api_Hop_api_Hop_trace_Frames_1 fuel hs p = some (-1) ∧ wayTo hs p = none) := by
  have key : ∀ (k i fu : Nat), i + k = hs.length → k < fu →
      (∃ (j : Nat) (h : MHop), iter (m_slices_IndexFunc_api_Hop_api_Hop_trace_Frames_1_l1 fuel hs p) fu (i : Int) = some (.inr (j : Int)) ∧ j < hs.length ∧ gt hs (j : Int) = h ∧ (hs.drop i).find? (fun h => h.To == p) = some h) ∨ (iter (m_slices_IndexFunc_api_Hop_api_Hop_trace_Frames_1_l1 fuel hs p) fu (i : Int) = some (.inl ()) ∧ (hs.drop i).find? (fun h => h.To == p) = none) := by
    intro k
    induction k with
    | zero =>
      intro i fu h hfu
      cases fu with
      | zero => omega
      | succ n =>
        right
        obtain rfl : i = hs.length := by omega
        unfold iter m_slices_IndexFunc_api_Hop_api_Hop_trace_Frames_1_l1
        simp
    | succ k ih =>
      intro i fu h hfu
      cases fu with
      | zero => omega
      | succ n =>
        have hi : i < hs.length := by omega
        have hin : inb hs (i : Int) = true := inb_true (by omega) (by omega)
        have hd : (i : Int) < (hs.length : Int) := by omega
        have hst : m_slices_IndexFunc_api_Hop_api_Hop_trace_Frames_1_l1 fuel hs p (i : Int) = if (gt hs (i : Int)).To == p then some (.done (.inr (i : Int))) else some (.next ((i + 1 : Nat) : Int)) := by
          unfold m_slices_IndexFunc_api_Hop_api_Hop_trace_Frames_1_l1 m_trace_Frames_1
          simp only [hd, decide_true, if_true, hin, bind_some', W_succ (show i < 9223372036854775807 by omega)]
        unfold iter
        rw [hst, drop_cons hi, List.find?_cons]
        cases c : (gt hs (i : Int)).To == p with
        | true => exact .inl ⟨i, _, by simp, hi, rfl, by simp⟩
        | false =>
          simp only [Bool.false_eq_true, if_false]
          exact ih (i + 1) n (by omega) (by omega)
  unfold m_slices_IndexFunc_api_Hop_api_Hop_trace_Frames_1
  rcases key hs.length 0 fuel (by omega) (by omega) with ⟨j, h, h1, h2, h3, h4⟩ | ⟨h1, h2⟩
  · rw [show ((0 : Nat) : Int) = 0 from rfl] at h1
    exact .inl ⟨j, h, by rw [h1]; rfl, h2, h3, by simpa [wayTo] using h4⟩
  · rw [show ((0 : Nat) : Int) = 0 from rfl] at h1
    exact .inr ⟨by rw [h1]; rfl, by simpa [wayTo] using h2⟩
theorem r_hop {fuel : Nat} {l : List MTerm} (T : WaysT fuel l) (hf : 1000001 < fuel) {p to : Int} (hp : p = -1 ∨ 0 ≤ p) :
    m_ref18_hop fuel l p to = some (match wayTo (wayL fuel l p) to with | some h => (h, true) | none => (⟨0, 0, []⟩, false)) := by
  have hlen := T.len p
  have hh : m_ref18_hop fuel l p to = Option.bind (iter (m_ref18_hop_l1 fuel (wayL fuel l p) to) fuel ((⟨(0 : Int), (0 : Int), []⟩ : MHop), 0)) fun t1 => match t1 with
    | .inl y1 => some ((⟨(0 : Int), (0 : Int), []⟩ : MHop), false)
    | .inr r1 => some r1 := by
    obtain ⟨a, ha1, ha2⟩ := T.rF
    obtain ⟨b, hb1, hb2⟩ := T.rP p
    unfold m_ref18_hop
    rcases hp with h | h
    · subst h
      simp only [hb1, ha1, bind_some', beq_self_eq_true, if_true, ha2 (-1) (by omega)]
      rfl
    · have : (p == -1) = false := by simp; omega
      simp only [hb1, this, Bool.false_eq_true, if_false, bind_some', hb2 h]
      rfl
  rw [hh]
  generalize wayL fuel l p = hs at *
  have := iter_fold0 (step := m_ref18_hop_l1 fuel hs to) (fun s i => (s, i)) (fun s => (.inl s : MHop ⊕ (MHop × Bool))) id (fun s h => if h.To == to then .inr (.inr (h, true)) else .inl s) hs (fun _ _ => True) (⟨0, 0, []⟩ : MHop) (fuel := fuel) (by omega) trivial
    (fun i s hi _ => by
      have hin : inb hs (i : Int) = true := inb_true (by omega) (by omega)
      have hd : (i : Int) < (hs.length : Int) := by omega
      unfold m_ref18_hop_l1
      simp only [hd, decide_true, if_true, hin, W_succ (show i < 9223372036854775807 by omega)]
      by_cases c : (gt hs (i : Int)).To == to
      · exact .inr ⟨.inr (gt hs (i : Int), true), by simp [c], by simp [c]⟩
      · exact .inl ⟨s, by simp [c], by simp [c], trivial⟩)
    (fun s _ => by unfold m_ref18_hop_l1; simp)
  rw [this.1]
  have hfd : ∀ (xs : List MHop) (s : MHop), foldE (fun s h => if h.To == to then .inr (.inr (h, true)) else .inl s : MHop → MHop → MHop ⊕ (MHop ⊕ (MHop × Bool))) s xs = match wayTo xs to with | some h => .inr (.inr (h, true)) | none => .inl s := by
    intro xs
    induction xs with
    | nil => intro s; rfl
    | cons x xs ih =>
      intro s
      simp only [foldE, wayTo, List.find?_cons]
      cases c : x.To == to with
      | true => simp
      | false => simpa [wayTo] using ih s
  rw [hfd]
  cases wayTo hs to <;> rfl

/-- The frames of a run, one by one: what they are, and where it stands. -/
def stepF (fuel : Nat) (l : List MTerm) (s : List (List Int) × Int) (p : Int) : (List (List Int) × Int) ⊕ ((List (List Int) × Int) ⊕ (List (List Int) × Bool)) :=
  match wayTo (wayL fuel l s.2) p with
  | some h => .inl (s.1 ++ [h.Steps], p)
  | none => .inr (.inr ([], false))
def runF (fuel : Nat) (l : List MTerm) (run : List Int) : (List (List Int) × Int) ⊕ (List (List Int) × Bool) := outE .inl id (foldE (stepF fuel l) ([], -1) run)
def FramesF (fuel : Nat) (l : List MTerm) (run : List Int) (fin : Bool) : List (List Int) × Bool :=
  if RightB l then
    match runF fuel l run with
    | .inl (fs, at_) => if fin then (if (endL fuel l at_).2 then (fs ++ [(endL fuel l at_).1.Steps], true) else ([], false)) else (fs, true)
    | .inr r => r
  else ([], false)
/-- What stands so far. -/
structure RunI (l : List MTerm) (i : Nat) (s : List (List Int) × Int) : Prop where
  len : s.1.length = i
  at_ : s.2 = -1 ∨ 0 ≤ s.2 ∧ s.2 < (leavesN l l.length : Int)
  steps : ∀ f ∈ s.1, f.length ≤ 2000000
theorem stepF_ok {fuel : Nat} {l : List MTerm} (T : WaysT fuel l) {i : Nat} {s s' : List (List Int) × Int} {p : Int} (hI : RunI l i s) (h : stepF fuel l s p = .inl s') : RunI l (i + 1) s' := by
  unfold stepF at h
  split at h
  · rename_i x hx
    obtain rfl := Sum.inl.inj h
    have hm := List.mem_of_find?_eq_some hx
    have hp : x.To = p := by simpa using List.find?_some hx
    have hk := T.ok _ x hm
    refine ⟨by simp [hI.len], .inr ⟨hp ▸ hk.1, hp ▸ hk.2.1⟩, fun f hf => ?_⟩
    rcases List.mem_append.1 hf with h | h
    · exact hI.steps f h
    · simp at h; subst h; exact hk.2.2
  · cases h
theorem runF_m {fuel : Nat} {l : List MTerm} (T : WaysT fuel l) (hf : 1000001 < fuel) {run : List Int} (hr : run.length ≤ 1000) (fin : Bool) :
    iter (m_trace_Frames_l1 fuel l fin run) fuel ([], -1, 0) = some (runF fuel l run) ∧ iter (m_ref18_Frames_l1 fuel l run fin) fuel ([], -1, 0) = some (runF fuel l run) ∧ ∀ fs at_, runF fuel l run = .inl (fs, at_) → RunI l run.length (fs, at_) := by
  have hI0 : RunI l 0 (([] : List (List Int)), (-1 : Int)) := ⟨rfl, .inl rfl, by simp⟩
  have hm := iter_fold0 (step := m_trace_Frames_l1 fuel l fin run) (fun s i => (s.1, s.2, i)) (fun s => (.inl s : (List (List Int) × Int) ⊕ (List (List Int) × Bool))) id (stepF fuel l) run (RunI l) (([] : List (List Int)), (-1 : Int)) (fuel := fuel) (by omega) hI0
    (fun i s hi hI => by
      have hin : inb run (i : Int) = true := inb_true (by omega) (by omega)
      have hd : (i : Int) < (run.length : Int) := by omega
      have hl := hI.len
      have hap : ∀ x : List Int, apOk 24 s.1 [x] = true := fun x => apOk_true (by simp; omega)
      have hstep : ∀ s', stepF fuel l s (gt run (i : Int)) = .inl s' → RunI l (i + 1) s' := fun s' h => stepF_ok T hI h
      unfold m_trace_Frames_l1
      simp only [hd, decide_true, if_true, hin, T.m, bind_some', W_succ (show i < 9223372036854775807 by omega)]
      rcases m_indexTo (wayL fuel l s.2) (gt run (i : Int)) (T.len _) hf with ⟨j, x, h1, h2, h3, h4⟩ | ⟨h1, h2⟩
      · have hin2 : inb (wayL fuel l s.2) (j : Int) = true := inb_true (by omega) (by omega)
        have e : stepF fuel l s (gt run (i : Int)) = .inl (s.1 ++ [x.Steps], gt run (i : Int)) := by simp [stepF, h4]
        exact .inl ⟨_, e, by simp [h1, hin2, h3, hap, show ¬ ((j : Int) < 0) by omega], hstep _ e⟩
      · exact .inr ⟨.inr ([], false), by simp [stepF, h2], by simp [h1]⟩)
    (fun s _ => by unfold m_trace_Frames_l1; simp)
  have hr := iter_fold0 (step := m_ref18_Frames_l1 fuel l run fin) (fun s i => (s.1, s.2, i)) (fun s => (.inl s : (List (List Int) × Int) ⊕ (List (List Int) × Bool))) id (stepF fuel l) run (RunI l) (([] : List (List Int)), (-1 : Int)) (fuel := fuel) (by omega) hI0
    (fun i s hi hI => by
      have hin : inb run (i : Int) = true := inb_true (by omega) (by omega)
      have hd : (i : Int) < (run.length : Int) := by omega
      have hl := hI.len
      have hap : ∀ x : List Int, apOk 24 s.1 [x] = true := fun x => apOk_true (by simp; omega)
      have hstep : ∀ s', stepF fuel l s (gt run (i : Int)) = .inl s' → RunI l (i + 1) s' := fun s' h => stepF_ok T hI h
      unfold m_ref18_Frames_l1
      simp only [hd, decide_true, if_true, hin, r_hop T hf (hI.at_.imp id And.left), bind_some', W_succ (show i < 9223372036854775807 by omega)]
      cases c : wayTo (wayL fuel l s.2) (gt run (i : Int)) with
      | some x =>
        have e : stepF fuel l s (gt run (i : Int)) = .inl (s.1 ++ [x.Steps], gt run (i : Int)) := by simp [stepF, c]
        exact .inl ⟨_, e, by simp [hap], hstep _ e⟩
      | none => exact .inr ⟨.inr ([], false), by simp [stepF, c], by simp⟩)
    (fun s _ => by unfold m_ref18_Frames_l1; simp)
  refine ⟨hm.1, hr.1, fun fs at_ h => ?_⟩
  refine hm.2 (fs, at_) ?_
  unfold runF at h
  cases c : foldE (stepF fuel l) ([], -1) run with
  | inl s => rw [c] at h; simp only [outE, Sum.inl.injEq] at h; rw [h]
  | inr t =>
    exfalso
    rw [c] at h
    simp only [outE] at h
    subst h
    have : ∀ (xs : List Int) s, foldE (stepF fuel l) s xs ≠ .inr (.inl (fs, at_)) := by
      intro xs
      induction xs with
      | nil => intro s; simp [foldE]
      | cons x xs ih =>
        intro s
        simp only [foldE]
        cases hw : wayTo (wayL fuel l s.2) x with
        | some y => simpa [stepF, hw] using ih _
        | none => simp [stepF, hw]
    exact this _ _ c
theorem Frames_eq {fuel : Nat} {l : List MTerm} (T : WaysT fuel l) (hl : l.length ≤ 1000) (hf : 1000001 < fuel) {run : List Int} (hr : run.length ≤ 1000) (fin : Bool) :
    m_trace_Frames fuel l run fin = some (FramesF fuel l run fin) ∧ m_ref18_Frames fuel l run fin = some (FramesF fuel l run fin) ∧ (FramesF fuel l run fin).1.length ≤ run.length + 1 ∧ ∀ f ∈ (FramesF fuel l run fin).1, f.length ≤ 2000000 := by
  obtain ⟨h1, h2, h3⟩ := runF_m T hf hr fin
  have hml := m_Right l (fuel := fuel) (by omega)
  have hrl := r_Right l (fuel := fuel) (by omega) (by omega)
  unfold m_trace_Frames m_ref18_Frames FramesF
  rw [hml, hrl]
  cases hR : RightB l with
  | false => simp
  | true =>
    simp only [bind_some', Bool.not_true, Bool.false_eq_true, if_false, h1, h2, if_true, T.me, T.re]
    cases c : runF fuel l run with
    | inr r =>
      have : r = ([], false) := by
        unfold runF at c
        cases c2 : foldE (stepF fuel l) ([], -1) run with
        | inl s => rw [c2] at c; simp [outE] at c
        | inr t =>
          rw [c2] at c
          simp only [outE] at c
          subst c
          have : ∀ (xs : List Int) s, foldE (stepF fuel l) s xs = .inr (.inr r) → r = ([], false) := by
            intro xs
            induction xs with
            | nil => intro s h; simp [foldE] at h
            | cons x xs ih =>
              intro s
              simp only [foldE]
              cases hw : wayTo (wayL fuel l s.2) x with
              | some y => simpa [stepF, hw] using ih _
              | none => simp [stepF, hw]; exact fun h => h.symm
          exact this _ _ c2
      simp [this]
    | inl s =>
      obtain ⟨fs, at_⟩ := s
      have hI := h3 fs at_ c
      have hlen : fs.length = run.length := hI.len
      have hst : ∀ f ∈ fs, f.length ≤ 2000000 := hI.steps
      have hap : apOk 24 fs [(endL fuel l at_).1.Steps] = true := apOk_true (by simp; omega)
      have he := T.el at_
      cases fin with
      | false => simp [hlen]; exact hst
      | true =>
        dsimp only
        generalize endL fuel l at_ = e at *
        obtain ⟨e1, b⟩ := e
        cases b with
        | false => simp
        | true =>
          simp only [Bool.not_true, Bool.false_eq_true, if_false, if_true, hap, bind_some', true_and]
          refine ⟨by simp [hlen], fun f hf => ?_⟩
          rcases List.mem_append.1 hf with h | h
          · exact hst f h
          · simp at h; subst h; exact he
end Go.Proofs.Ytfhehbfifffipaa
