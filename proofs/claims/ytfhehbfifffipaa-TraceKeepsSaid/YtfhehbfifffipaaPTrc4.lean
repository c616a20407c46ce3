/- Where two rows of frames part, and how far up they close: the program and the document tell the same. Its conditions: none. -/
import Derived.Test.YtfhehbfifffipaaPNest
set_option autoImplicit false
namespace Go.Proofs.Ytfhehbfifffipaa
open Go.V Go.RowKit

theorem gt_zip {α β : Type} [Inhabited α] [Inhabited β] {a : List α} {b : List β} {i : Nat} (h1 : i < a.length) (h2 : i < b.length) : gt (a.zip b) (i : Int) = (gt a (i : Int), gt b (i : Int)) := by
  rw [gt_get_nat (x := a[i]) (by simp [h1]), gt_get_nat (x := b[i]) (by simp [h2])]
  exact gt_get_nat (by rw [List.getElem?_eq_getElem (by simp; omega)]; simp)
def partT (s : Int) (xy : Int × Int) : Int ⊕ Int := if xy.1 = xy.2 then .inl (s + 1) else .inr s
def partsT (k : Int) (xy : List Int × List Int) : Int ⊕ (Int × Int) :=
  match foldE partT 0 (xy.1.zip xy.2) with
  | .inl _ => .inl (k + 1)
  | .inr i => .inr (k, i)
def PartF (a b : List (List Int)) : Int ⊕ (Int × Int) := foldE partsT 0 (a.zip b)
theorem part_in {fuel : Nat} {a b : List (List Int)} {k : Nat} (hk : k < a.length) (hb : k < b.length) (hl : (gt a (k : Int)).length ≤ 1000000000) (hf : (gt a (k : Int)).length < fuel) (x1 : MTraceFork) :
    iter (m_trace_partOf_l2 fuel a b x1 (k : Int)) fuel (x1, 0) = some (outE (fun _ => .inl x1) (fun j => .inr (⟨(k : Int), j⟩, true)) (foldE partT 0 ((gt a (k : Int)).zip (gt b (k : Int))))) := by
  have ha0 : inb a (k : Int) = true := inb_true (by omega) (by omega)
  have hb0 : inb b (k : Int) = true := inb_true (by omega) (by omega)
  generalize hx : gt a (k : Int) = x at *
  generalize hy : gt b (k : Int) = y at *
  have hzl : (x.zip y).length = min x.length y.length := by simp
  refine (iter_fold0 (step := m_trace_partOf_l2 fuel a b x1 (k : Int)) (fun (s : Int) i => (x1, i)) (fun _ => (.inl x1 : MTraceFork ⊕ (MTraceFork × Bool))) (fun j => .inr (⟨(k : Int), j⟩, true)) partT (x.zip y) (fun i s => s = (i : Int)) 0 (fuel := fuel) (by omega) rfl ?_ ?_).1
  · intro i s hi hs
    subst hs
    have h1 : inb x (i : Int) = true := inb_true (by omega) (by omega)
    have h2 : inb y (i : Int) = true := inb_true (by omega) (by omega)
    have hd : (i : Int) < (if (y.length : Int) < (x.length : Int) then (y.length : Int) else (x.length : Int)) := by split <;> omega
    unfold m_trace_partOf_l2 partT
    simp only [hx, hy, hd, decide_true, if_true, ha0, hb0, h1, h2, gt_zip (show i < x.length by omega) (show i < y.length by omega), W_succ (show i < 9223372036854775807 by omega)]
    by_cases c : gt x (i : Int) = gt y (i : Int)
    · exact .inl ⟨(i : Int) + 1, by simp [c], by simp [c], by simp⟩
    · exact .inr ⟨(i : Int), by simp [c], by simp [c]⟩
  · intro s hs
    unfold m_trace_partOf_l2
    have hd : ¬ (((x.zip y).length : Int) < (if (y.length : Int) < (x.length : Int) then (y.length : Int) else (x.length : Int))) := by split <;> omega
    simp only [hx, hy, hd, decide_false, Bool.false_eq_true, if_false]
theorem part_eq {fuel : Nat} {a b : List (List Int)} (hab : a.length = b.length) (hl : a.length ≤ 1000000) (hst : ∀ f ∈ a, f.length ≤ 2000000) (hf : 2000001 < fuel) :
    m_trace_partOf fuel a b = some (match PartF a b with | .inl _ => (⟨0, 0⟩, false) | .inr z => (⟨z.1, z.2⟩, true)) := by
  have hzl : (a.zip b).length = a.length := by simp; omega
  have hm := (iter_fold0 (step := m_trace_partOf_l1 fuel a b) (fun (s : Int) i => ((⟨0, 0⟩ : MTraceFork), i)) (fun _ => (.inl ⟨0, 0⟩ : MTraceFork ⊕ (MTraceFork × Bool))) (fun z => .inr (⟨z.1, z.2⟩, true)) partsT (a.zip b) (fun i s => s = (i : Int)) 0 (fuel := fuel) (by omega) rfl
    (fun i s hi hs => by
      subst hs
      have hia : i < a.length := by omega
      have hib : i < b.length := by omega
      have hsl := hst _ (gt_mem hia)
      have h1 : inb a (i : Int) = true := inb_true (by omega) (by omega)
      have h2 : inb b (i : Int) = true := inb_true (by omega) (by omega)
      have hd : (i : Int) < (a.length : Int) := by omega
      unfold m_trace_partOf_l1 partsT
      simp only [hd, decide_true, if_true, h1, h2, part_in (fuel := fuel) hia hib (by omega) (by omega) ⟨0, 0⟩, bind_some', gt_zip hia hib, W_succ (show i < 9223372036854775807 by omega)]
      cases c : foldE partT 0 ((gt a (i : Int)).zip (gt b (i : Int))) with
      | inl u => exact .inl ⟨(i : Int) + 1, rfl, rfl, by simp⟩
      | inr j => exact .inr ⟨((i : Int), j), rfl, rfl⟩)
    (fun s hs => by unfold m_trace_partOf_l1; simp only [hzl]; simp)).1
  unfold m_trace_partOf PartF
  rw [hm]
  cases foldE partsT 0 (a.zip b) <;> rfl
/-- What is known of where two rows part. -/
theorem partT_in : ∀ (xs : List (Int × Int)) (s j : Int), foldE partT s xs = .inr j → ∃ n : Nat, j = s + n ∧ n < xs.length ∧ (gt xs (n : Int)).1 ≠ (gt xs (n : Int)).2
  | [], s, j, h => by simp [foldE] at h
  | x :: xs, s, j, h => by
    simp only [foldE, partT] at h
    by_cases c : x.1 = x.2
    · simp only [c, if_true] at h
      obtain ⟨n, h1, h2, h3⟩ := partT_in xs (s + 1) j h
      exact ⟨n + 1, by omega, by simp; omega, by simpa [gt] using h3⟩
    · simp only [c, if_false, Sum.inr.injEq] at h
      exact ⟨0, by omega, by simp, by simpa [gt] using c⟩
theorem partsT_in : ∀ (xs : List (List Int × List Int)) (s : Int) (z : Int × Int), foldE partsT s xs = .inr z → ∃ n : Nat, z.1 = s + n ∧ n < xs.length ∧ foldE partT 0 ((gt xs (n : Int)).1.zip (gt xs (n : Int)).2) = .inr z.2
  | [], s, z, h => by simp [foldE] at h
  | x :: xs, s, z, h => by
    simp only [foldE, partsT] at h
    cases c : foldE partT 0 (x.1.zip x.2) with
    | inl u =>
      rw [c] at h
      obtain ⟨n, h1, h2, h3⟩ := partsT_in xs (s + 1) z h
      exact ⟨n + 1, by omega, by simp; omega, by simpa [gt] using h3⟩
    | inr i =>
      rw [c] at h
      simp only [Sum.inr.injEq] at h
      subst h
      exact ⟨0, by simp, by simp, by simpa [gt] using c⟩
theorem PartF_in {a b : List (List Int)} {z : Int × Int} (h : PartF a b = .inr z) : ∃ k i : Nat, z = ((k : Int), (i : Int)) ∧ k < a.length ∧ k < b.length ∧ i < (gt a (k : Int)).length ∧ i < (gt b (k : Int)).length ∧ gt (gt a (k : Int)) (i : Int) ≠ gt (gt b (k : Int)) (i : Int) := by
  obtain ⟨k, h1, h2, h3⟩ := partsT_in _ _ _ h
  simp only [List.length_zip] at h2
  have hka : k < a.length := by omega
  have hkb : k < b.length := by omega
  rw [gt_zip hka hkb] at h3
  dsimp only at h3
  obtain ⟨i, h4, h5, h6⟩ := partT_in _ _ _ h3
  simp only [List.length_zip] at h5
  rw [gt_zip (by omega) (by omega)] at h6
  obtain ⟨z1, z2⟩ := z
  simp only [Int.zero_add] at h1 h4
  subst h1; subst h4
  exact ⟨k, i, rfl, hka, hkb, by omega, by omega, h6⟩
def lowStep (s : Int × Int) (x : Int) : Int × Int := if Int.tmod x 2 = 0 then (s.1 + 1, s.2) else (s.1 - 1, if s.1 < s.2 then s.1 else s.2)
def lowsR (s : Int × Int) : List (List Int) → List Int
  | [] => []
  | f :: fs => (f.foldl lowStep s).2 :: lowsR (f.foldl lowStep s) fs
theorem foldE_inl {α σ υ : Type} (g : σ → α → σ) : ∀ (xs : List α) (s : σ), foldE (fun s x => (.inl (g s x) : σ ⊕ υ)) s xs = .inl (xs.foldl g s)
  | [], s => rfl
  | x :: xs, s => by simp only [foldE, List.foldl_cons]; exact foldE_inl g xs (g s x)
theorem stepN_cases {N : Nat} {s s' : List Nat} {x : Int} (h : stepN N s x = some s') : 0 ≤ x ∧ x < 2 * (N : Int) ∧ ((Int.tmod x 2 = 0 ∧ s'.length = s.length + 1) ∨ (Int.tmod x 2 = 1 ∧ s.length = s'.length + 1)) := by
  unfold stepN at h
  split at h
  · rename_i hx
    refine ⟨hx.1, hx.2, ?_⟩
    split at h
    · rename_i hm
      left
      refine ⟨hm, ?_⟩
      simp only [Option.some.injEq] at h; subst h; simp
    · rename_i hm
      right
      have h2 : Int.tmod x 2 = x % 2 := Int.tmod_eq_emod_of_nonneg hx.1
      refine ⟨by omega, ?_⟩
      split at h
      · cases h
      · split at h
        · simp only [Option.some.injEq] at h; subst h; simp
        · cases h
  · cases h
/-- A prefix of what goes, goes; and the step behind it. -/
theorem nestS_at {N : Nat} {s s' : List Nat} {xs : List Int} (h : nestS N s xs = some s') {i : Nat} (hi : i < xs.length) : ∃ si sj, nestS N s (xs.take i) = some si ∧ stepN N si (gt xs (i : Int)) = some sj ∧ nestS N s (xs.take (i + 1)) = some sj := by
  have e : xs = xs.take i ++ gt xs (i : Int) :: xs.drop (i + 1) := by rw [← drop_cons hi, List.take_append_drop]
  rw [e, nestS_append] at h
  cases c : nestS N s (xs.take i) with
  | none => rw [c] at h; cases h
  | some si =>
    rw [c] at h
    simp only [Option.bind_some, nestS] at h
    cases c2 : stepN N si (gt xs (i : Int)) with
    | none => rw [c2] at h; cases h
    | some sj =>
      refine ⟨si, sj, rfl, c2, ?_⟩
      have : xs.take (i + 1) = xs.take i ++ [gt xs (i : Int)] := by
        rw [List.take_succ_eq_append_getElem hi, gt_get_nat (x := xs[i]) (by simp [hi])]
      rw [this, nestS_append, c]
      simp [nestS, c2]
theorem nestS_len {N : Nat} : ∀ (xs : List Int) (s s' : List Nat), nestS N s xs = some s' → s'.length ≤ s.length + xs.length
  | [], s, s', h => by simp only [nestS, Option.some.injEq] at h; subst h; simp
  | x :: xs, s, s', h => by
    simp only [nestS] at h
    cases c : stepN N s x with
    | none => rw [c] at h; cases h
    | some s1 =>
      rw [c] at h
      have h1 := nestS_len xs s1 s' h
      have h2 := (stepN_cases c).2.2
      simp; omega
/-- The depth is how much is open. -/
theorem lowStep_depth {N : Nat} : ∀ (xs : List Int) (s s' : List Nat) (low : Int), nestS N s xs = some s' → (xs.foldl lowStep ((s.length : Int), low)).1 = (s'.length : Int)
  | [], s, s', low, h => by simp only [nestS, Option.some.injEq] at h; subst h; rfl
  | x :: xs, s, s', low, h => by
    simp only [nestS] at h
    cases c : stepN N s x with
    | none => rw [c] at h; cases h
    | some s1 =>
      rw [c] at h
      have hc := (stepN_cases c).2.2
      simp only [List.foldl_cons, lowStep]
      rcases hc with ⟨h1, h2⟩ | ⟨h1, h2⟩
      · rw [if_pos h1, show (s.length : Int) + 1 = (s1.length : Int) by omega]; exact lowStep_depth xs s1 s' _ h
      · rw [if_neg (by omega), show (s.length : Int) - 1 = (s1.length : Int) by omega]; exact lowStep_depth xs s1 s' _ h
theorem m_through {fuel N : Nat} {xs : List Int} {s s' : List Nat} (h : nestS N s xs = some s') (hl : s.length + xs.length ≤ 1000000000) (hf : xs.length < fuel) (low : Int) :
    m_trace_closer_through fuel ⟨⟨(s.length : Int)⟩, low⟩ xs = some ⟨⟨(xs.foldl lowStep ((s.length : Int), low)).1⟩, (xs.foldl lowStep ((s.length : Int), low)).2⟩ := by
  have hi := (iter_fold0 (υ := Unit) (step := m_trace_closer_through_l1 fuel ⟨⟨(s.length : Int)⟩, low⟩ xs) (fun (st : Int × Int) i => ((⟨⟨st.1⟩, st.2⟩ : MTraceCloser), i)) (fun st => (⟨⟨st.1⟩, st.2⟩ : MTraceCloser)) (fun _ => default) (fun st x => .inl (lowStep st x)) xs (fun i st => ∃ si, nestS N s (xs.take i) = some si ∧ st.1 = (si.length : Int)) ((s.length : Int), low) (fuel := fuel) hf ⟨s, by simp [nestS], rfl⟩
    (fun i st hi hI => by
      obtain ⟨si, h1, h2⟩ := hI
      obtain ⟨si', sj, h3, h4, h5⟩ := nestS_at h hi
      obtain rfl : si = si' := by rw [h1] at h3; exact Option.some.inj h3
      have hsl := nestS_len _ _ _ h1
      have htl : (xs.take i).length ≤ i := by simp; omega
      obtain ⟨_, _, hc⟩ := stepN_cases h4
      have hin : inb xs (i : Int) = true := inb_true (by omega) (by omega)
      have hd : (i : Int) < (xs.length : Int) := by omega
      refine .inl ⟨_, rfl, ?_, sj, h5, ?_⟩
      · unfold m_trace_closer_through_l1 m_trace_depth_step lowStep
        simp only [hd, decide_true, if_true, hin, W_succ (show i < 9223372036854775807 by omega), h2]
        rcases hc with ⟨h6, h7⟩ | ⟨h6, h7⟩
        · have hW : W ((si.length : Int) + 1) = (si.length : Int) + 1 := W_id (by omega) (by omega)
          simp [h6, hW]
        · have h8 : ¬ (Int.tmod (gt xs (i : Int)) 2 = 0) := by omega
          have hW : W ((si.length : Int) - 1) = (si.length : Int) - 1 := W_id (by omega) (by omega)
          have hW2 : W ((si.length : Int) - 1 + 1) = (si.length : Int) := by rw [W_id (by omega) (by omega)]; omega
          have h9 : (si.length : Int) > 0 := by omega
          simp only [h6, hW, hW2, h9, decide_true, if_true, bind_some', show ((1 : Int) == 0) = false from rfl, Bool.false_eq_true, if_false, show ¬ ((1 : Int) = 0) by omega]
      · unfold lowStep
        rcases hc with ⟨h6, h7⟩ | ⟨h6, h7⟩
        · rw [if_pos h6]; simp only; omega
        · rw [if_neg (by omega)]; simp only; omega)
    (fun st _ => by unfold m_trace_closer_through_l1; simp)).1
  unfold m_trace_closer_through
  rw [hi, foldE_inl]; rfl
theorem nest_frames {N : Nat} {b : List (List Int)} {s0 s : List Nat} (h : nestS N s0 b.flatten = some s) : ∀ i, i < b.length → ∃ si sj, nestS N s0 (b.take i).flatten = some si ∧ nestS N si (gt b (i : Int)) = some sj ∧ nestS N s0 (b.take (i + 1)).flatten = some sj ∧ (b.take i).flatten.length + (gt b (i : Int)).length ≤ b.flatten.length := by
  intro i hi
  have e : b = b.take i ++ gt b (i : Int) :: b.drop (i + 1) := by rw [← drop_cons hi, List.take_append_drop]
  have e2 : b.take (i + 1) = b.take i ++ [gt b (i : Int)] := by rw [List.take_succ_eq_append_getElem hi, gt_get_nat (x := b[i]) (by simp [hi])]
  have h' := h
  have hlen : b.flatten.length = (b.take i).flatten.length + ((gt b (i : Int)).length + (b.drop (i + 1)).flatten.length) := by
    conv => lhs; rw [e]
    simp
  rw [e] at h'
  simp only [List.flatten_append, List.flatten_cons, nestS_append] at h'
  cases c : nestS N s0 (b.take i).flatten with
  | none => rw [c] at h'; cases h'
  | some si =>
    rw [c] at h'
    simp only [Option.bind_some] at h'
    cases c2 : nestS N si (gt b (i : Int)) with
    | none => rw [c2] at h'; cases h'
    | some sj => exact ⟨si, sj, rfl, c2, by rw [e2]; simp [nestS_append, c, c2], by omega⟩
/-- .. and of frames. -/
theorem m_lows_a {fuel N : Nat} {a : List (List Int)} {z : MTraceFork} {k : Nat} (hz : z.frame = k) (hk : k ≤ a.length) {s : List Nat} (h : nestS N [] (a.take k).flatten = some s) (hl : (a.take k).flatten.length ≤ 1000000000) (hf : (a.take k).flatten.length < fuel) (hf2 : k < fuel) (hk2 : k ≤ 1000000000) :
    ∃ low, iter (m_trace_fork_lows_l1 fuel a z) fuel (⟨⟨0⟩, 0⟩, 0) = some ⟨⟨(s.length : Int)⟩, low⟩ := by
  have hcut : cutL a 0 z.frame = a.take k := by simp [cutL, hz]
  generalize hb : a.take k = b at *
  have hbl : b.length ≤ k := by rw [← hb]; simp; omega
  have hpre := nest_frames h
  have hi := iter_fold0 (υ := Unit) (step := m_trace_fork_lows_l1 fuel a z) (fun (st : Int × Int) i => ((⟨⟨st.1⟩, st.2⟩ : MTraceCloser), i)) (fun st => (⟨⟨st.1⟩, st.2⟩ : MTraceCloser)) (fun _ => default) (fun st f => .inl (f.foldl lowStep st)) b (fun i st => ∃ si, nestS N [] (b.take i).flatten = some si ∧ st.1 = (si.length : Int)) ((0 : Int), 0) (fuel := fuel) (by omega) ⟨[], by simp [nestS], rfl⟩
    (fun i st hi hI => by
      obtain ⟨si, h1, h2⟩ := hI
      obtain ⟨si', sj, h3, h4, h5, h6⟩ := hpre i hi
      obtain rfl : si = si' := by rw [h1] at h3; exact Option.some.inj h3
      have hsl := nestS_len _ _ _ h1
      simp only [List.length_nil] at hsl
      have hin : inb b (i : Int) = true := inb_true (by omega) (by omega)
      have hd : (i : Int) < (b.length : Int) := by omega
      obtain ⟨st1, st2⟩ := st
      simp only at h2
      subst h2
      refine .inl ⟨_, rfl, ?_, sj, h5, lowStep_depth _ _ _ _ h4⟩
      unfold m_trace_fork_lows_l1
      simp only [hcut, hd, decide_true, if_true, hin, m_through (fuel := fuel) h4 (by omega) (by omega) st2, bind_some', W_succ (show i < 9223372036854775807 by omega)])
    (fun st _ => by unfold m_trace_fork_lows_l1; simp [hcut])
  rw [foldE_inl] at hi
  obtain ⟨si, h1, h2⟩ := hi.2 _ rfl
  rw [List.take_length, h] at h1
  obtain rfl := Option.some.inj h1
  exact ⟨_, by rw [hi.1]; simp only [outE]; rw [h2]⟩
theorem lows_cut {N : Nat} {a : List (List Int)} {s : List Nat} (h : nestS N [] a.flatten = some s) {k : Nat} (hk : k < a.length) (i : Nat) : ∃ s1 s2 s3, nestS N [] (a.take k).flatten = some s1 ∧ nestS N s1 ((gt a (k : Int)).take i) = some s2 ∧ nestS N s2 ((gt a (k : Int)).drop i) = some s3 ∧ nestS N s3 (a.drop (k + 1)).flatten = some s := by
  have e : a = a.take k ++ gt a (k : Int) :: a.drop (k + 1) := by rw [← drop_cons hk, List.take_append_drop]
  rw [e] at h
  simp only [List.flatten_append, List.flatten_cons, nestS_append] at h
  cases c : nestS N [] (a.take k).flatten with
  | none => rw [c] at h; cases h
  | some s1 =>
    rw [c] at h
    simp only [Option.bind_some] at h
    rw [← List.take_append_drop i (gt a (k : Int)), nestS_append] at h
    cases c2 : nestS N s1 ((gt a (k : Int)).take i) with
    | none => rw [c2] at h; cases h
    | some s2 =>
      rw [c2] at h
      simp only [Option.bind_some] at h
      cases c3 : nestS N s2 ((gt a (k : Int)).drop i) with
      | none => rw [c3] at h; cases h
      | some s3 => rw [c3] at h; exact ⟨s1, s2, s3, rfl, c2, c3, h⟩
/-- How far up: the document's rule. -/
def LowsF (a : List (List Int)) (k i : Nat) (n : Nat) : List Int := lowsR ((n : Int), (n : Int) + 1) ((gt a (k : Int)).drop i :: a.drop (k + 1))

theorem lowsR_fold : ∀ (xs : List (List Int)) (st : Int × Int) (out : List Int), (xs.foldl (fun (u : (Int × Int) × List Int) f => (f.foldl lowStep u.1, u.2 ++ [(f.foldl lowStep u.1).2])) (st, out)).2 = out ++ lowsR st xs
  | [], st, out => by simp [lowsR]
  | x :: xs, st, out => by simp only [List.foldl_cons, lowsR]; rw [lowsR_fold xs]; simp
theorem m_lows {fuel N : Nat} {a : List (List Int)} {s : List Nat} (h : nestS N [] a.flatten = some s) {k i : Nat} (hk : k < a.length) (hi : i ≤ (gt a (k : Int)).length) (hl : a.flatten.length ≤ 1000000000) (ha : a.length ≤ 1000000) (hf : 1000000001 < fuel) :
    ∃ s1 s2, nestS N [] (a.take k).flatten = some s1 ∧ nestS N s1 ((gt a (k : Int)).take i) = some s2 ∧ m_trace_fork_lows fuel ⟨(k : Int), (i : Int)⟩ a = some (LowsF a k i s2.length) := by
  obtain ⟨s1, s2, s3, h1, h2, h3, h4⟩ := lows_cut h hk i
  have e : a = a.take k ++ gt a (k : Int) :: a.drop (k + 1) := by rw [← drop_cons hk, List.take_append_drop]
  have hlen : a.flatten.length = (a.take k).flatten.length + ((gt a (k : Int)).length + (a.drop (k + 1)).flatten.length) := by
    conv => lhs; rw [e]
    simp
  have n1 := nestS_len _ _ _ h1
  have n2 := nestS_len _ _ _ h2
  have n3 := nestS_len _ _ _ h3
  have t1 : ((gt a (k : Int)).take i).length = i := by simp; omega
  have t2 : ((gt a (k : Int)).drop i).length = (gt a (k : Int)).length - i := by simp
  simp only [List.length_nil] at n1
  refine ⟨s1, s2, h1, h2, ?_⟩
  obtain ⟨low, hA⟩ := m_lows_a (fuel := fuel) (z := ⟨(k : Int), (i : Int)⟩) rfl (show k ≤ a.length by omega) h1 (by omega) (by omega) (by omega) (by omega)
  have hsl1 : slOk a 0 (k : Int) = true := by simp [slOk]; omega
  have hin : inb a (k : Int) = true := inb_true (by omega) (by omega)
  have hsl2 : slOk (gt a (k : Int)) 0 (i : Int) = true := by simp [slOk]; omega
  have hsl3 : slOk (gt a (k : Int)) (i : Int) ((gt a (k : Int)).length : Int) = true := by simp [slOk]; omega
  have hc2 : cutL (gt a (k : Int)) 0 (i : Int) = (gt a (k : Int)).take i := by simp [cutL]
  have hc3 : cutL (gt a (k : Int)) (i : Int) ((gt a (k : Int)).length : Int) = (gt a (k : Int)).drop i := by
    unfold cutL; rw [Int.toNat_natCast]; apply List.take_of_length_le; simp
  have hWk : W ((k : Int) + 1) = ((k + 1 : Nat) : Int) := W_succ (by omega)
  have hsl4 : slOk a ((k + 1 : Nat) : Int) (a.length : Int) = true := by simp [slOk]; omega
  have hc4 : cutL a ((k + 1 : Nat) : Int) (a.length : Int) = a.drop (k + 1) := by
    unfold cutL; rw [Int.toNat_natCast]; apply List.take_of_length_le; simp; omega
  have hT2 := m_through (fuel := fuel) h2 (by omega) (by omega) low
  have hd2 := lowStep_depth _ _ _ low h2
  have hT3 := m_through (fuel := fuel) h3 (by omega) (by omega) ((s2.length : Int) + 1)
  have hd3 := lowStep_depth _ _ _ ((s2.length : Int) + 1) h3
  have hWb : W ((s2.length : Int) + 1) = (s2.length : Int) + 1 := W_id (by omega) (by omega)
  unfold m_trace_fork_lows
  simp only [hsl1, if_true, hA, bind_some', hin, hsl2, hc2, hT2, hd2, hsl3, hc3]
  unfold m_trace_closer_begin
  simp only [hWb, bind_some', hT3, hWk, hsl4, if_true]
  generalize hr : ((gt a (k : Int)).drop i).foldl lowStep ((s2.length : Int), (s2.length : Int) + 1) = r at *
  have hbl : (a.drop (k + 1)).length ≤ 1000000 := by simp; omega
  have hLF : LowsF a k i s2.length = [r.2] ++ lowsR r (a.drop (k + 1)) := by simp [LowsF, lowsR, hr]
  rw [hLF]
  have hpre := nest_frames h4
  have hit := (iter_fold0 (υ := Unit) (step := m_trace_fork_lows_l2 fuel ⟨⟨r.1⟩, r.2⟩ a ⟨(k : Int), (i : Int)⟩) (fun (st : (Int × Int) × List Int) i => ((⟨⟨st.1.1⟩, st.1.2⟩ : MTraceCloser), st.2, i)) (fun st => st.2) (fun _ => default) (fun st f => .inl (f.foldl lowStep st.1, st.2 ++ [(f.foldl lowStep st.1).2])) (a.drop (k + 1)) (fun j st => (∃ si, nestS N s3 ((a.drop (k + 1)).take j).flatten = some si ∧ st.1.1 = (si.length : Int)) ∧ st.2.length = j + 1) (r, [r.2]) (fuel := fuel) (by omega) ⟨⟨s3, by simp [nestS], hd3⟩, rfl⟩
    (fun j st hj hI => by
      obtain ⟨⟨si, h5, h6⟩, h7⟩ := hI
      obtain ⟨si', sj, h8, h9, h10, h11⟩ := hpre j hj
      obtain rfl : si = si' := by rw [h5] at h8; exact Option.some.inj h8
      have hsl := nestS_len _ _ _ h5
      have hinb : inb (a.drop (k + 1)) (j : Int) = true := inb_true (by omega) (by omega)
      have hd : (j : Int) < ((a.drop (k + 1)).length : Int) := by omega
      obtain ⟨⟨st1, st2⟩, out⟩ := st
      simp only at h6 h7
      subst h6
      have hap : ∀ y : Int, apOk 8 out [y] = true := fun y => apOk_true (by simp; omega)
      refine .inl ⟨_, rfl, ?_, ⟨sj, h10, lowStep_depth _ _ _ _ h9⟩, by simp [h7]⟩
      unfold m_trace_fork_lows_l2
      simp only [hWk, hc4, hd, decide_true, if_true, hinb, m_through (fuel := fuel) h9 (by omega) (by omega) st2, bind_some', hap, W_succ (show j < 9223372036854775807 by omega)])
    (fun st _ => by unfold m_trace_fork_lows_l2; simp only [hWk, hc4]; simp)).1
  rw [foldE_inl] at hit
  simp only [outE] at hit
  rw [lowsR_fold] at hit
  rw [hit]
  rfl
theorem partT_self : ∀ (xs : List Int) (s : Int), ∃ n, foldE partT s (xs.zip xs) = .inl n
  | [], s => ⟨s, rfl⟩
  | x :: xs, s => by
    obtain ⟨n, h⟩ := partT_self xs (s + 1)
    exact ⟨n, by simpa [foldE, partT] using h⟩
theorem PartF_self (a : List (List Int)) : ∃ n, PartF a a = .inl n := by
  have : ∀ (xs : List (List Int)) (s : Int), ∃ n, foldE partsT s (xs.zip xs) = .inl n := by
    intro xs
    induction xs with
    | nil => intro s; exact ⟨s, rfl⟩
    | cons x xs ih =>
      intro s
      obtain ⟨n, h⟩ := ih (s + 1)
      obtain ⟨m, h2⟩ := partT_self x 0
      exact ⟨n, by simp only [List.zip_cons_cons, foldE, partsT, h2]; exact h⟩
  exact this a 0
/-- How far up is never below 0, and never grows. -/
theorem low_rng {N : Nat} : ∀ (xs : List Int) (s s' : List Nat) (low B : Int), nestS N s xs = some s' → 0 ≤ low → low ≤ B → 0 ≤ (xs.foldl lowStep ((s.length : Int), low)).2 ∧ (xs.foldl lowStep ((s.length : Int), low)).2 ≤ B
  | [], s, s', low, B, h, h0, h1 => ⟨h0, h1⟩
  | x :: xs, s, s', low, B, h, h0, h1 => by
    simp only [nestS] at h
    cases c : stepN N s x with
    | none => rw [c] at h; cases h
    | some s1 =>
      rw [c] at h
      have hc := (stepN_cases c).2.2
      simp only [List.foldl_cons, lowStep]
      rcases hc with ⟨h2, h3⟩ | ⟨h2, h3⟩
      · rw [if_pos h2, show (s.length : Int) + 1 = (s1.length : Int) by omega]; exact low_rng xs s1 s' low B h h0 h1
      · rw [if_neg (by omega), show (s.length : Int) - 1 = (s1.length : Int) by omega]
        exact low_rng xs s1 s' _ B h (by split <;> omega) (by split <;> omega)
theorem lowsR_rng {N : Nat} : ∀ (fs : List (List Int)) (s s' : List Nat) (low B : Int), nestS N s fs.flatten = some s' → 0 ≤ low → low ≤ B → ∀ x ∈ lowsR ((s.length : Int), low) fs, 0 ≤ x ∧ x ≤ B
  | [], s, s', low, B, h, h0, h1, x, hx => by simp [lowsR] at hx
  | f :: fs, s, s', low, B, h, h0, h1, x, hx => by
    simp only [List.flatten_cons, nestS_append] at h
    cases c : nestS N s f with
    | none => rw [c] at h; cases h
    | some s1 =>
      rw [c] at h
      simp only [Option.bind_some] at h
      have h2 := low_rng f s s1 low B c h0 h1
      have h3 := lowStep_depth f s s1 low c
      simp only [lowsR, List.mem_cons] at hx
      rcases hx with rfl | hx
      · exact h2
      · have e : f.foldl lowStep ((s.length : Int), low) = ((s1.length : Int), (f.foldl lowStep ((s.length : Int), low)).2) := by rw [← h3]
        rw [e] at hx
        exact lowsR_rng fs s1 s' _ B h h2.1 h2.2 x hx
theorem lowsR_len : ∀ (fs : List (List Int)) (s : Int × Int), (lowsR s fs).length = fs.length
  | [], s => rfl
  | f :: fs, s => by simp [lowsR, lowsR_len fs]
theorem m_sign (fuel : Nat) (p : Int) : m_trace_sign fuel p = some (if p < 0 then -1 else if 0 < p then 1 else 0) := by
  unfold m_trace_sign
  congr 1
  by_cases h1 : p < 0
  · by_cases h2 : (-1 : Int) > p
    · simp [h1, h2]
    · simp [h1, h2]; omega
  · by_cases h3 : 0 < p
    · by_cases h4 : 1 < p
      · simp [h1, h3, h4, show ¬ ((-1 : Int) > p) by omega]
      · simp [h1, h3, h4, show ¬ ((-1 : Int) > p) by omega]; omega
    · simp [h1, h3, show ¬ ((-1 : Int) > p) by omega, show ¬ (1 < p) by omega]; omega
/-- What two rows tell, from behind. -/
def aheadL (p q : List Int) : Nat → Option Int
  | 0 => none
  | n + 1 => if gt p (n : Int) = gt q (n : Int) then aheadL p q n else some (if gt q (n : Int) < gt p (n : Int) then -1 else 1)
theorem m_ahead_loop {fuel : Nat} (x1 : (List (List Int)) × (List (List Int)) × MTraceFork × Bool) {p q : List Int} (hlen : p.length = q.length) (hp : ∀ x ∈ p, 0 ≤ x ∧ x ≤ 1000000001) (hq : ∀ x ∈ q, 0 ≤ x ∧ x ≤ 1000000001) : ∀ (n m : Nat), n ≤ p.length → n < m → p.length ≤ 1000000000 →
    iter (m_trace_Ahead_l1 fuel x1 p q) m ((n : Int) - 1) = some (match aheadL p q n with | none => .inl () | some r => .inr r)
  | 0, m, _, hm, _ => by
    obtain ⟨m, rfl⟩ : ∃ k, m = k + 1 := ⟨m - 1, by omega⟩
    unfold iter m_trace_Ahead_l1
    simp [aheadL]
  | n + 1, m, hn, hm, hl => by
    obtain ⟨m, rfl⟩ : ∃ k, m = k + 1 := ⟨m - 1, by omega⟩
    have e : (((n + 1 : Nat) : Int) - 1) = (n : Int) := by omega
    have h1 : inb p (n : Int) = true := inb_true (by omega) (by omega)
    have h2 : inb q (n : Int) = true := inb_true (by omega) (by omega)
    have h3 := hp _ (gt_mem (show n < p.length by omega))
    have h4 := hq _ (gt_mem (show n < q.length by omega))
    have hW : W (gt q (n : Int) - gt p (n : Int)) = gt q (n : Int) - gt p (n : Int) := W_id (by omega) (by omega)
    have hW2 : W ((n : Int) - 1) = (n : Int) - 1 := W_id (by omega) (by omega)
    have h0 : (n : Int) ≥ 0 := by omega
    have hst : m_trace_Ahead_l1 fuel x1 p q (n : Int) = if gt p (n : Int) = gt q (n : Int) then some (.next ((n : Int) - 1)) else some (.done (.inr (if gt q (n : Int) < gt p (n : Int) then -1 else 1))) := by
      unfold m_trace_Ahead_l1
      simp only [h0, decide_true, if_true, h1, h2, m_sign, hW, hW2, bind_some']
      by_cases c : gt p (n : Int) = gt q (n : Int)
      · simp [c]
      · have hb : (gt p (n : Int) != gt q (n : Int)) = true := by simpa using c
        simp only [hb, c, if_true, if_false]
        congr 3
        by_cases c2 : gt q (n : Int) < gt p (n : Int)
        · simp [c2, show gt q (n : Int) - gt p (n : Int) < 0 by omega]
        · simp [c2, show ¬ (gt q (n : Int) - gt p (n : Int) < 0) by omega, show 0 < gt q (n : Int) - gt p (n : Int) by omega]; try omega
    rw [e]
    unfold iter
    rw [hst]
    unfold aheadL
    by_cases c : gt p (n : Int) = gt q (n : Int)
    · simp only [c, if_true]
      exact m_ahead_loop x1 hlen hp hq n m (by omega) (by omega) hl
    · simp only [c, if_false]
/-- The frames of two runs, and where they part. -/
structure TwoI (N : Nat) (a b : List (List Int)) : Prop where
  na : ∃ s, nestS N [] a.flatten = some s
  nb : ∃ s, nestS N [] b.flatten = some s
  la : a.length ≤ 1000000
  len : a.length = b.length
  fa : a.flatten.length ≤ 100000000
  fb : b.flatten.length ≤ 100000000
  sa : ∀ f ∈ a, f.length ≤ 2000000
  sb : ∀ f ∈ b, f.length ≤ 2000000
/-- What is told at a fork. -/
def forkV (s t : Int) : Int := if Int.tmod s 2 ≠ Int.tmod t 2 then Int.tmod s 2 - Int.tmod t 2 else if s < t then -1 else 1
def depthAt (N : Nat) (a : List (List Int)) (k i : Nat) : Nat := (((nestS N [] (a.take k).flatten).bind fun s => nestS N s ((gt a (k : Int)).take i)).getD []).length
def lowsAt (N : Nat) (a : List (List Int)) (k i : Nat) : List Int := LowsF a k i (depthAt N a k i)
theorem lowsAt_m {fuel N : Nat} {a : List (List Int)} {s : List Nat} (h : nestS N [] a.flatten = some s) {k i : Nat} (hk : k < a.length) (hi : i ≤ (gt a (k : Int)).length) (hl : a.flatten.length ≤ 100000000) (ha : a.length ≤ 1000000) (hf : 1000000001 < fuel) :
    m_trace_fork_lows fuel ⟨(k : Int), (i : Int)⟩ a = some (lowsAt N a k i) ∧ (lowsAt N a k i).length = a.length - k ∧ (∀ x ∈ lowsAt N a k i, 0 ≤ x ∧ x ≤ 1000000001) ∧ ∃ s1 s2, nestS N [] (a.take k).flatten = some s1 ∧ nestS N s1 ((gt a (k : Int)).take i) = some s2 ∧ depthAt N a k i = s2.length := by
  obtain ⟨s1, s2, h1, h2, h3⟩ := m_lows h hk hi (by omega) ha hf
  obtain ⟨s1', s2', s3, h1', h2', h3', h4'⟩ := lows_cut h hk i
  obtain rfl : s1' = s1 := by rw [h1'] at h1; exact Option.some.inj h1
  obtain rfl : s2' = s2 := by rw [h2'] at h2; exact Option.some.inj h2
  have hd : depthAt N a k i = s2'.length := by simp [depthAt, h1, h2]
  have e : a = a.take k ++ gt a (k : Int) :: a.drop (k + 1) := by rw [← drop_cons hk, List.take_append_drop]
  have hlen : a.flatten.length = (a.take k).flatten.length + ((gt a (k : Int)).length + (a.drop (k + 1)).flatten.length) := by
    conv => lhs; rw [e]
    simp
  have n1 := nestS_len _ _ _ h1
  have n2 := nestS_len _ _ _ h2
  simp only [List.length_nil] at n1
  have t1 : ((gt a (k : Int)).take i).length = i := by simp; omega
  refine ⟨by rw [h3]; simp [lowsAt, hd], by simp [lowsAt, LowsF, lowsR_len]; omega, ?_, s1', s2', h1, h2, hd⟩
  unfold lowsAt LowsF
  rw [hd]
  exact lowsR_rng (N := N) _ s2' s _ 1000000001 (by simp [nestS_append, h3', h4']) (by omega) (by omega)
def aheadF (N : Nat) (a b : List (List Int)) : Int :=
  match PartF a b with
  | .inl _ => 0
  | .inr z => match aheadL (lowsAt N a z.1.toNat z.2.toNat) (lowsAt N b z.1.toNat z.2.toNat) (a.length - z.1.toNat) with
    | some r => r
    | none => forkV (gt (gt a z.1) z.2) (gt (gt b z.1) z.2)

theorem fork_sign {N : Nat} {x y : Int} (hx : 0 ≤ x ∧ x < 2 * (N : Int)) (hy : 0 ≤ y ∧ y < 2 * (N : Int)) (hN : N ≤ 1000000) (hne : x ≠ y) (fuel : Nat) :
    (if (Int.tmod x 2 != Int.tmod y 2) = true then m_trace_sign fuel (W (Int.tmod x 2 - Int.tmod y 2)) else m_trace_sign fuel (W (x - y))) = some (forkV x y) := by
  have h1 : Int.tmod x 2 = x % 2 := Int.tmod_eq_emod_of_nonneg hx.1
  have h2 : Int.tmod y 2 = y % 2 := Int.tmod_eq_emod_of_nonneg hy.1
  have hW1 : W (x % 2 - y % 2) = x % 2 - y % 2 := W_id (by omega) (by omega)
  have hW2 : W (x - y) = x - y := W_id (by omega) (by omega)
  unfold forkV
  rw [h1, h2, hW1, hW2, m_sign, m_sign]
  by_cases c : x % 2 = y % 2
  · by_cases c2 : x < y
    · simp [c, c2, show x - y < 0 by omega]
    · simp [c, c2, show ¬ (x - y < 0) by omega, show 0 < x - y by omega]; try omega
  · simp only [bne_iff_ne, ne_eq, c, not_false_eq_true, if_true]
    congr 1
    split <;> try split
    all_goals omega
theorem nest_mem {N : Nat} : ∀ (xs : List Int) (s s' : List Nat), nestS N s xs = some s' → ∀ x ∈ xs, 0 ≤ x ∧ x < 2 * (N : Int)
  | x :: xs, s, s', h, y, hy => by
    simp only [nestS] at h
    cases c : stepN N s x with
    | none => rw [c] at h; cases h
    | some s1 =>
      rw [c] at h
      have hc := stepN_cases c
      rcases List.mem_cons.1 hy with rfl | hy
      · exact ⟨hc.1, hc.2.1⟩
      · exact nest_mem xs s1 s' h y hy
theorem nest_el {N : Nat} {a : List (List Int)} {s : List Nat} (h : nestS N [] a.flatten = some s) {k i : Nat} (hk : k < a.length) (hi : i < (gt a (k : Int)).length) : 0 ≤ gt (gt a (k : Int)) (i : Int) ∧ gt (gt a (k : Int)) (i : Int) < 2 * (N : Int) :=
  nest_mem _ _ _ h _ (List.mem_flatten.2 ⟨_, gt_mem hk, gt_mem hi⟩)
/-- The frames of two runs. -/
def twoOk (fuel : Nat) (l : List MTerm) (a b : List Int) (fin : Bool) : Bool := (FramesF fuel l a fin).2 && (FramesF fuel l b fin).2 && decide (a.length = b.length)
theorem FramesF_len {fuel : Nat} {l : List MTerm} (T : WaysT fuel l) (hf : 1000001 < fuel) {run : List Int} (hr : run.length ≤ 1000) {fin : Bool} (h : (FramesF fuel l run fin).2 = true) : (FramesF fuel l run fin).1.length = run.length + (if fin then 1 else 0) := by
  obtain ⟨_, _, h3⟩ := runF_m T hf hr fin
  unfold FramesF at h ⊢
  cases hR : RightB l with
  | false => simp [hR] at h
  | true =>
    simp only [hR, if_true] at h ⊢
    cases c : runF fuel l run with
    | inl s =>
      obtain ⟨fs, at_⟩ := s
      have := (h3 fs at_ c).len
      rw [c] at h
      simp only at h this ⊢
      cases fin with
      | false => simpa using this
      | true =>
        simp only [if_true] at h ⊢
        cases ce : (endL fuel l at_).2 with
        | false => simp [ce] at h
        | true => simp [this]
    | inr r =>
      exfalso
      rw [c] at h
      unfold runF at c
      cases c2 : foldE (stepF fuel l) ([], -1) run with
      | inl s => rw [c2] at c; simp [outE] at c
      | inr t =>
        rw [c2] at c
        simp only [outE, id] at c
        subst c
        have : ∀ (xs : List Int) s, foldE (stepF fuel l) s xs = .inr (.inr r) → r = ([], false) := by
          intro xs
          induction xs with
          | nil => intro s h; simp [foldE] at h
          | cons x xs ih =>
            intro s
            simp only [foldE]
            cases hw : wayTo (wayL fuel l s.2) x with
            | some y => simpa [stepF, hw] using ih _
            | none => simp [stepF, hw]; exact fun h => h.symm
        have := this _ _ c2
        subst this
        simp at h
theorem flat_len : ∀ (a : List (List Int)) (B : Nat), (∀ f ∈ a, f.length ≤ B) → a.flatten.length ≤ a.length * B
  | [], B, _ => by simp
  | x :: a, B, h => by
    have h1 := flat_len a B (fun f hf => h f (by simp [hf]))
    have h2 := h x (by simp)
    simp only [List.flatten_cons, List.length_append, List.length_cons, Nat.add_mul, Nat.one_mul]
    omega
theorem two_ok {fuel : Nat} {l : List MTerm} (hw : ∀ x ∈ l, wfTerm x) (T : WaysT fuel l) (hl : l.length ≤ 1000) (hf : 1000001 < fuel) {a b : List Int} (ha : a.length ≤ 40) (hb : b.length ≤ 40) {fin : Bool} (h : twoOk fuel l a b fin = true) :
    (FramesF fuel l a fin).2 = true ∧ (FramesF fuel l b fin).2 = true ∧ a.length = b.length ∧ TwoI l.length (FramesF fuel l a fin).1 (FramesF fuel l b fin).1 := by
  simp only [twoOk, Bool.and_eq_true, decide_eq_true_eq] at h
  obtain ⟨⟨h1, h2⟩, h3⟩ := h
  obtain ⟨_, _, _, e1⟩ := Frames_eq T hl hf (show a.length ≤ 1000 by omega) fin
  obtain ⟨_, _, _, e2⟩ := Frames_eq T hl hf (show b.length ≤ 1000 by omega) fin
  have l1 := FramesF_len T hf (show a.length ≤ 1000 by omega) h1
  have l2 := FramesF_len T hf (show b.length ≤ 1000 by omega) h2
  have hif : (if fin = true then 1 else 0) ≤ 1 := by cases fin <;> simp
  have f1 := flat_len _ _ e1
  have f2 := flat_len _ _ e2
  obtain ⟨s1, n1, _⟩ := frames_nest hw hf h1
  obtain ⟨s2, n2, _⟩ := frames_nest hw hf h2
  exact ⟨h1, h2, h3, ⟨s1, n1⟩, ⟨s2, n2⟩, by omega, by omega, by omega, by omega, e1, e2⟩
theorem m_parted {fuel : Nat} {l : List MTerm} (hw : ∀ x ∈ l, wfTerm x) (T : WaysT fuel l) (hl : l.length ≤ 1000) (hf : 2000001 < fuel) {a b : List Int} (ha : a.length ≤ 40) (hb : b.length ≤ 40) (fin : Bool) :
    m_trace_parted fuel l a b fin = some (if twoOk fuel l a b fin then ((FramesF fuel l a fin).1, (FramesF fuel l b fin).1, (match PartF (FramesF fuel l a fin).1 (FramesF fuel l b fin).1 with | .inl _ => (⟨0, 0⟩, false) | .inr z => (⟨z.1, z.2⟩, true))) else ([], [], ⟨0, 0⟩, false)) := by
  obtain ⟨e1, _, _, _⟩ := Frames_eq T hl (by omega) (show a.length ≤ 1000 by omega) fin
  obtain ⟨e2, _, _, _⟩ := Frames_eq T hl (by omega) (show b.length ≤ 1000 by omega) fin
  unfold m_trace_parted
  rw [e1, e2]
  cases hok : twoOk fuel l a b fin with
  | true =>
    obtain ⟨h1, h2, h3, I⟩ := two_ok hw T hl (by omega) ha hb hok
    have hp := part_eq (fuel := fuel) I.len I.la I.sa hf
    simp [h1, h2, h3, hp]
    all_goals rfl
  | false =>
    simp only [twoOk, Bool.and_eq_false_iff, decide_eq_false_iff_not] at hok
    cases h1 : (FramesF fuel l a fin).2 with
    | false => simp [h1]
    | true =>
      cases h2 : (FramesF fuel l b fin).2 with
      | false => simp [h1, h2]
      | true =>
        have h3 : ¬ a.length = b.length := by simpa [h1, h2] using hok
        have h4 : ((a.length : Int) != (b.length : Int)) = true := by simp; omega
        simp [h1, h2, h4]
theorem m_Ahead {fuel : Nat} {l : List MTerm} (hw : ∀ x ∈ l, wfTerm x) (T : WaysT fuel l) (hl : l.length ≤ 1000) (hf : 1000000001 < fuel) {a b : List Int} (ha : a.length ≤ 40) (hb : b.length ≤ 40) (fin : Bool) :
    m_trace_Ahead fuel l a b fin = some (if twoOk fuel l a b fin then aheadF l.length (FramesF fuel l a fin).1 (FramesF fuel l b fin).1 else 0) := by
  unfold m_trace_Ahead
  rw [m_parted hw T hl (by omega) ha hb fin]
  cases hok : twoOk fuel l a b fin with
  | false => simp
  | true =>
    obtain ⟨h1, h2, h3, I⟩ := two_ok hw T hl (by omega) ha hb hok
    generalize (FramesF fuel l a fin).1 = x at *
    generalize (FramesF fuel l b fin).1 = y at *
    simp only [if_true, bind_some']
    unfold aheadF
    cases c : PartF x y with
    | inl u => simp
    | inr z =>
      obtain ⟨k, i, rfl, hk, hk2, hi, hi2, hne⟩ := PartF_in c
      obtain ⟨s1, n1⟩ := I.na
      obtain ⟨s2, n2⟩ := I.nb
      obtain ⟨p1, p2, p3, _⟩ := lowsAt_m n1 hk (show i ≤ _ by omega) I.fa I.la hf
      obtain ⟨q1, q2, q3, _⟩ := lowsAt_m n2 hk2 (show i ≤ _ by omega) I.fb (by have := I.len; have := I.la; omega) hf
      have hlen := I.len; have hla := I.la
      have hW : W (((lowsAt l.length x k i).length : Int) - 1) = ((x.length - k : Nat) : Int) - 1 := by rw [p2, W_id (by omega) (by omega)]
      have ok1 : inb x (k : Int) = true := inb_true (by omega) (by omega)
      have ok2 : inb y (k : Int) = true := inb_true (by omega) (by omega)
      have ok3 : inb (gt x (k : Int)) (i : Int) = true := inb_true (by omega) (by omega)
      have ok4 : inb (gt y (k : Int)) (i : Int) = true := inb_true (by omega) (by omega)
      have hfs := fork_sign (nest_el n1 hk hi) (nest_el n2 hk2 hi2) (by omega) hne fuel
      have hloop := m_ahead_loop (fuel := fuel) (x, y, (⟨(k : Int), (i : Int)⟩ : MTraceFork), true) (p := lowsAt l.length x k i) (q := lowsAt l.length y k i) (by omega) p3 q3 (x.length - k) fuel (by omega) (by omega) (by omega)
      simp only [Bool.not_true, Bool.false_eq_true, if_false, p1, q1, bind_some', hW, hloop, Int.toNat_natCast, ok1, ok2, ok3, ok4, if_true]
      cases aheadL (lowsAt l.length x k i) (lowsAt l.length y k i) (x.length - k) with
      | some r => rfl
      | none =>
        simp only
        rw [← hfs]
        split <;> simp [m_sign]
end Go.Proofs.Ytfhehbfifffipaa
