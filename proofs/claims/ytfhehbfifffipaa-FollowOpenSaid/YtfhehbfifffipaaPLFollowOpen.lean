/- FollowOpen: behind a way just the nodes are open that its place is in; behind a way to the end none; ways ascend by their places. Its conditions: none. -/
import Derived.Test.YtfhehbfifffipaaPNest
import Derived.Test.YtfhehbfifffipaaFFollowOpen
set_option autoImplicit false
namespace Go.Proofs.Ytfhehbfifffipaa
open Go.V Go.RowKit

def rv (s : List Nat) : List Int := s.reverse.map fun n : Nat => (n : Int)
theorem rv_cons (q : Nat) (s : List Nat) : rv (q :: s) = rv s ++ [(q : Int)] := by simp [rv]
theorem rv_len (s : List Nat) : (rv s).length = s.length := by simp [rv]
theorem step_len {N : Nat} {s s' : List Nat} {x : Int} (h : stepN N s x = some s') : s'.length ≤ s.length + 1 := by
  unfold stepN at h
  split at h
  · split at h
    · simp only [Option.some.injEq] at h; subst h; simp
    · split at h
      · cases h
      · split at h
        · simp only [Option.some.injEq] at h; subst h; simp; omega
        · cases h
  · cases h
theorem nest_at {N : Nat} {s s' : List Nat} {xs : List Int} (h : nestS N s xs = some s') {i : Nat} (hi : i < xs.length) : ∃ si sj, nestS N s (xs.take i) = some si ∧ stepN N si (gt xs (i : Int)) = some sj ∧ nestS N s (xs.take (i + 1)) = some sj := by
  have e : xs = xs.take i ++ gt xs (i : Int) :: xs.drop (i + 1) := by rw [← drop_cons hi, List.take_append_drop]
  rw [e, nestS_append] at h
  cases c : nestS N s (xs.take i) with
  | none => rw [c] at h; cases h
  | some si =>
    rw [c] at h
    simp only [Option.bind_some, nestS] at h
    cases c2 : stepN N si (gt xs (i : Int)) with
    | none => rw [c2] at h; cases h
    | some sj =>
      refine ⟨si, sj, rfl, c2, ?_⟩
      have : xs.take (i + 1) = xs.take i ++ [gt xs (i : Int)] := by
        rw [List.take_succ_eq_append_getElem hi, gt_get_nat (x := xs[i]) (by simp [hi])]
      rw [this, nestS_append, c]
      simp [nestS, c2]
theorem nest_le {N : Nat} : ∀ (xs : List Int) (s s' : List Nat), nestS N s xs = some s' → s'.length ≤ s.length + xs.length
  | [], s, s', h => by simp only [nestS, Option.some.injEq] at h; subst h; simp
  | x :: xs, s, s', h => by
    simp only [nestS] at h
    cases c : stepN N s x with
    | none => rw [c] at h; cases h
    | some s1 =>
      rw [c] at h
      have h1 := nest_le xs s1 s' h
      have h2 := step_len c
      simp; omega
theorem foldE_inl' {α σ υ : Type} (g : σ → α → σ) : ∀ (xs : List α) (s : σ), foldE (fun s x => (.inl (g s x) : σ ⊕ υ)) s xs = .inl (xs.foldl g s)
  | [], s => rfl
  | x :: xs, s => by simp only [foldE, List.foldl_cons]; exact foldE_inl' g xs (g s x)
/-- What the program's stack does. -/
theorem m_Nested {fuel : Nat} {l : List MTerm} (hR : RightB l = true) (hl : l.length ≤ 1000) {st st' : List Nat} {steps : List Int} (h : nestS l.length st steps = some st') (hb : st.length + steps.length ≤ 1000000000) (hf : steps.length < fuel) (hf2 : 401 < fuel) :
    m_follow_Nested fuel l (rv st) steps = some (rv st', true) := by
  have hit := iter_fold0 (υ := Unit) (step := m_follow_Nested_l1 fuel l (rv st) steps) (fun (s : List Nat) i => (rv s, i)) (fun s => (.inl (rv s) : List Int ⊕ (List Int × Bool))) (fun _ => .inr ([], false)) (fun s x => .inl ((stepN l.length s x).getD [])) steps (fun i s => nestS l.length st (steps.take i) = some s) st (fuel := fuel) hf (by simp [nestS])
    (fun i s hi hI => by
      obtain ⟨si, sj, h1, h2, h3⟩ := nest_at h hi
      obtain rfl : si = s := by rw [hI] at h1; exact (Option.some.inj h1).symm
      have hsl := nest_le _ _ _ hI
      have htl : (steps.take i).length ≤ i := by simp; omega
      have hin : inb steps (i : Int) = true := inb_true (by omega) (by omega)
      have hd : (i : Int) < (steps.length : Int) := by omega
      refine .inl ⟨sj, by rw [h2]; rfl, ?_, h3⟩
      unfold m_follow_Nested_l1
      simp only [hd, decide_true, if_true, hin, W_succ (show i < 9223372036854775807 by omega)]
      generalize gt steps (i : Int) = x at *
      unfold stepN at h2
      split at h2
      · rename_i hx
        have hdv : Int.tdiv x 2 = x / 2 := Int.tdiv_eq_ediv_of_nonneg hx.1
        have hW : W (Int.tdiv x 2) = x / 2 := by rw [hdv, W_id (by omega) (by omega)]
        have hx0 : ¬ (x < 0) := by omega
        have hx1 : ¬ (x / 2 ≥ (l.length : Int)) := by omega
        split at h2
        · rename_i hm
          simp only [Option.some.injEq] at h2
          subst h2
          have hap : apOk 8 (rv si) [x / 2] = true := apOk_true (by simp [rv_len]; omega)
          have hq : (((Int.tdiv x 2).toNat : Nat) : Int) = x / 2 := by rw [hdv]; omega
          simp only [hx0, hW, hx1, hm, hap, decide_false, Bool.false_eq_true, if_false, if_true, bind_some', beq_self_eq_true, rv_cons, hq]
        · rename_i hm
          split at h2
          · cases h2
          · rename_i q r
            split at h2
            · rename_i hq
              simp only [Option.some.injEq] at h2
              subst h2
              have hm' : (Int.tmod x 2 == 0) = false := by simpa using hm
              have hlen : ((rv (q :: r)).length : Int) = (r.length : Int) + 1 := by rw [rv_len]; simp
              have hW2 : W ((r.length : Int) + 1 - 1) = (r.length : Int) := by simp only [List.length_cons] at hsl; rw [W_id (by omega) (by omega)]; omega
              have hin2 : inb (rv (q :: r)) (r.length : Int) = true := inb_true (by omega) (by rw [hlen]; omega)
              have hgt : gt (rv (q :: r)) (r.length : Int) = (q : Int) := by rw [rv_cons]; exact gt_append_right (by rw [rv_len])
              have hsl2 : slOk (rv (q :: r)) 0 (r.length : Int) = true := by simp [slOk, rv_len]; omega
              have hcut : cutL (rv (q :: r)) 0 (r.length : Int) = rv r := by
                rw [rv_cons]; unfold cutL
                rw [show ((r.length : Int) - 0).toNat = r.length by omega, show (0 : Int).toNat = 0 from rfl, List.drop_zero]
                exact List.take_left' (rv_len r)
              have hqx : (q : Int) = x / 2 := by rw [hq, hdv]
              have h0 : ((r.length : Int) + 1 == 0) = false := by simp; omega
              simp only [hx0, hW, hx1, hm', hlen, hW2, hin2, hgt, hsl2, hcut, hqx, h0, decide_false, Bool.false_eq_true, if_false, if_true, bind_some', bne_self_eq_false]
            · cases h2
      · cases h2)
    (fun s _ => by unfold m_follow_Nested_l1; simp)
  have hfin : steps.foldl (fun s x => (stepN l.length s x).getD []) st = st' := by
    have h1 := hit.2 _ (foldE_inl' _ _ _)
    rw [List.take_length, h] at h1
    exact (Option.some.inj h1).symm
  have hap : apOk 8 ([] : List Int) (rv st) = true := apOk_true (by simp [rv_len]; omega)
  unfold m_follow_Nested m_slices_Clone_int_int
  rw [m_Right l hf2, hR]
  simp only [Bool.not_true, Bool.false_eq_true, if_false, bind_some', hap, if_true, hit.1, foldE_inl', outE, hfin]
/-- The nodes above. -/
theorem m_above {fuel : Nat} {l : List MTerm} {t : Tm} {u d : List Int} (ht : IsT l t) (hu : UpT u t) (hd : DeepT d t) (p1 : Int) : ∀ (fs : List Fr) (lo : Nat) (s : Tm) (out : List Int) (m : Nat), Ctx t lo s fs → fs.length + 1 < m → out.length + fs.length ≤ 1000000 →
    iter (m_law17_above_l1 fuel u p1) m ((s.top lo : Int), out) = some (rv (s.top lo :: ancs lo s fs) ++ out)
  | [], lo, s, out, m, hx, hm, ho => by
    obtain ⟨m, rfl⟩ : ∃ k, m = k + 2 := ⟨m - 2, by simp at hm; omega⟩
    have hat := (hx.at_ ht).top_lt
    have h1 : (s.top lo : Int) ≥ 0 := by omega
    have hap : apOk 8 [(s.top lo : Int)] out = true := apOk_true (by simp at ho ⊢; omega)
    have hin : inb u (s.top lo : Int) = true := inb_true (by omega) (by have := hu.len; have := ht.len; omega)
    have hst : m_law17_above_l1 fuel u p1 ((s.top lo : Int), out) = some (.next (-1, [(s.top lo : Int)] ++ out)) := by
      unfold m_law17_above_l1
      simp only [h1, decide_true, if_true, hap, hin, hx.root hu]
    have hst2 : ∀ o : List Int, m_law17_above_l1 fuel u p1 (-1, o) = some (.done o) := by
      intro o; unfold m_law17_above_l1; simp
    unfold iter
    rw [hst]
    simp only
    unfold iter
    rw [hst2]
    simp [ancs, rv]
  | f :: fs, lo, s, out, m, hx, hm, ho => by
    obtain ⟨m, rfl⟩ : ∃ k, m = k + 1 := ⟨m - 1, by omega⟩
    simp only [List.length_cons] at hm ho
    have hat := (hx.at_ ht).top_lt
    have h1 : (s.top lo : Int) ≥ 0 := by omega
    have hap : apOk 8 [(s.top lo : Int)] out = true := apOk_true (by simp; omega)
    have hin : inb u (s.top lo : Int) = true := inb_true (by omega) (by have := hu.len; have := ht.len; omega)
    have ih := m_above (fuel := fuel) ht hu hd p1 fs (lo - f.off) (f.plug s) ([(s.top lo : Int)] ++ out) m hx.2 (by omega) (by simp; omega)
    have hst : m_law17_above_l1 fuel u p1 ((s.top lo : Int), out) = some (.next (((f.plug s).top (lo - f.off) : Int), [(s.top lo : Int)] ++ out)) := by
      unfold m_law17_above_l1
      simp only [h1, decide_true, if_true, hap, hin, hx.edge ht hu hd]
    unfold iter
    rw [hst]
    simp only
    rw [ih, rv_cons (s.top lo)]
    simp [ancs]
theorem into_rng (s : Tm) : ∀ (lo p : Nat) (ahead : List Int), ∀ h ∈ s.into lo p ahead, (p : Int) ≤ h.To ∧ h.To < ((p + s.leaves : Nat) : Int) := by
  induction s with
  | eps => intro lo p ahead h hh; simp [Tm.into] at hh
  | leaf s => intro lo p ahead h hh; simp only [Tm.into, List.mem_singleton] at hh; subst hh; simp [Tm.leaves]; omega
  | cat a b iha ihb =>
    intro lo p ahead h hh
    simp only [Tm.into, Tm.leaves, List.mem_append] at *
    rcases hh with hh | hh
    · have := iha lo p _ h hh; omega
    · split at hh
      · have := ihb _ _ _ h hh; omega
      · simp at hh
  | alt a b iha ihb =>
    intro lo p ahead h hh
    simp only [Tm.into, Tm.leaves, List.mem_append] at *
    rcases hh with hh | hh
    · have := iha lo p _ h hh; omega
    · have := ihb _ _ _ h hh; omega
  | star a iha | maybe a iha | group _ a iha | iter a iha =>
    intro lo p ahead h hh
    simp only [Tm.into, Tm.leaves] at *
    exact iha lo p _ h hh
theorem into_asc (s : Tm) : ∀ (lo p : Nat) (ahead : List Int), (s.into lo p ahead).Pairwise fun a b => a.To < b.To := by
  induction s with
  | eps => intro lo p ahead; simp [Tm.into]
  | leaf s => intro lo p ahead; simp [Tm.into]
  | cat a b iha ihb =>
    intro lo p ahead
    simp only [Tm.into]
    refine List.pairwise_append.2 ⟨iha _ _ _, ?_, fun x hx y hy => ?_⟩
    · split
      · exact ihb _ _ _
      · simp
    · split at hy
      · have h1 := into_rng a _ _ _ x hx
        have h2 := into_rng b _ _ _ y hy
        omega
      · simp at hy
  | alt a b iha ihb =>
    intro lo p ahead
    simp only [Tm.into]
    refine List.pairwise_append.2 ⟨iha _ _ _, ihb _ _ _, fun x hx y hy => ?_⟩
    have h1 := into_rng a _ _ _ x hx
    have h2 := into_rng b _ _ _ y hy
    omega
  | star a iha | maybe a iha | group _ a iha | iter a iha =>
    intro lo p ahead
    simp only [Tm.into]
    exact iha lo p _

theorem ints_same {fuel : Nat} {a : List Int} (hl : a.length ≤ 1000000000) (hf : a.length < fuel) : m_ref06_Ints fuel a a = some true := by
  have := iter_up (step := m_ref06_Ints_l1 fuel a a) (fun i => (i : Int)) (.inl ()) a.length (fun i hi => .inl (by
    have hd : (i : Int) < (a.length : Int) := by omega
    have hin : inb a (i : Int) = true := inb_true (by omega) (by omega)
    unfold m_ref06_Ints_l1
    simp only [hd, decide_true, if_true, hin, bne_self_eq_false, Bool.false_eq_true, if_false, W_succ (show i < 9223372036854775807 by omega)])) (by unfold m_ref06_Ints_l1; simp) a.length 0 fuel (by omega) hf
  unfold m_ref06_Ints
  rw [show (0 : Int) = ((0 : Nat) : Int) from rfl, this]; simp
theorem endR_to {s : List Int} (h : (EndR s).2 = true) : (EndR s).1.To = -1 := by
  unfold EndR at h ⊢
  by_cases hz : s.length = 0
  · rw [if_pos hz] at h; cases h
  · rw [if_neg hz]
/-- What the ways from somewhere are like. -/
structure WaysO (l : List MTerm) (t : Tm) (st : List Nat) (hs : List MHop) : Prop where
  good : ∀ h ∈ hs, ∃ s', Open l t h.To s' ∧ nestS l.length st h.Steps = some s'
  asc : hs.Pairwise fun a b => a.To < b.To
  rng : ∀ h ∈ hs, HopOk (leavesN l l.length) h
  len : hs.length ≤ 1000000
theorem open_above {fuel : Nat} {l : List MTerm} {t : Tm} {u d : List Int} (ht : IsT l t) (hu : UpT u t) (hd : DeepT d t) {n : Nat} {s : List Nat} (ho : Open l t (n : Int) s) (hf : 1000001 < fuel) :
    inb (leavesL l l.length) (n : Int) = true ∧ m_law17_above fuel u (gt (leavesL l l.length) (n : Int)) = some (rv s) ∧ s.length ≤ 401 := by
  rcases ho with ⟨h, _⟩ | ⟨n', q, S, fs, h1, h2, rfl⟩
  · omega
  · obtain rfl : n = n' := by omega
    have hlt := (List.getElem?_eq_some_iff.1 h2.get).1
    have hsz := h2.ctx.size
    have h400 := ht.le
    have hanc : ∀ (fs : List Fr) (lo : Nat) (s : Tm), (ancs lo s fs).length = fs.length := by
      intro fs
      induction fs with
      | nil => intro lo s; rfl
      | cons f fs ih => intro lo s; simp [ancs, ih]
    have := m_above (fuel := fuel) ht hu hd (q : Int) fs q (.leaf S) [] fuel h2.ctx (by simp only [Tm.size] at hsz; omega) (by simp only [Tm.size] at hsz; simp; omega)
    simp only [Tm.top, Tm.size, Nat.add_sub_cancel, List.append_nil] at this
    refine ⟨inb_true (by omega) (by omega), ?_, by simp only [Tm.size] at hsz; simp [hanc]; omega⟩
    rw [gt_get_nat h2.get]
    unfold m_law17_above
    rw [this]; rfl
theorem open_loop {fuel : Nat} {l : List MTerm} {t : Tm} {u d : List Int} (ht : IsT l t) (hR : RightB l = true) (hu : UpT u t) (hd : DeepT d t) (hf : 2000001 < fuel) (hl : l.length ≤ 1000) (p1 : Int) {st : List Nat} (hst : st.length ≤ 401) {hs : List MHop} (hW : WaysO l t st hs) :
    iter (m_law17_FollowOpen_l1 fuel l p1 (leavesL l l.length) u hs (rv st)) fuel 0 = some (.inl ()) := by
  have hlen := hW.len
  refine iter_up (step := m_law17_FollowOpen_l1 fuel l p1 (leavesL l l.length) u hs (rv st)) (fun i => (i : Int)) (.inl ()) hs.length (fun i hi => .inl ?_) (by unfold m_law17_FollowOpen_l1; simp) hs.length 0 fuel (by omega) (by omega)
  have hd' : (i : Int) < (hs.length : Int) := by omega
  have hin : inb hs (i : Int) = true := inb_true (by omega) (by omega)
  have hm : gt hs (i : Int) ∈ hs := by
    rw [gt_get_nat (x := hs[i]) (by simp [hi])]; exact List.getElem_mem hi
  obtain ⟨s', ho, hn⟩ := hW.good _ hm
  have hr := hW.rng _ hm
  obtain ⟨n, hTo⟩ : ∃ n : Nat, (gt hs (i : Int)).To = n := ⟨(gt hs (i : Int)).To.toNat, by have := hr.1; omega⟩
  rw [hTo] at ho
  obtain ⟨a1, a2, a3⟩ := open_above (fuel := fuel) ht hu hd ho (by omega)
  have hN := m_Nested (fuel := fuel) hR hl hn (by have := hr.2.2; omega) (by have := hr.2.2; omega) (by omega)
  have hI := ints_same (fuel := fuel) (a := rv s') (by rw [rv_len]; omega) (by rw [rv_len]; omega)
  have c1 : ¬ ((n : Int) < 0) := by omega
  have c2 : ¬ ((n : Int) ≥ ((leavesL l l.length).length : Int)) := by have := hr.2.1; rw [leavesL_len]; omega
  have hfirst : (if decide ((i : Int) > 0) = true then (if inb hs (W ((i : Int) - 1)) = true then some (decide ((n : Int) ≤ (gt hs (W ((i : Int) - 1))).To)) else none) else some false) = some false := by
    by_cases c : (i : Int) > 0
    · obtain ⟨j, rfl⟩ : ∃ j, i = j + 1 := ⟨i - 1, by omega⟩
      have hWj : W (((j + 1 : Nat) : Int) - 1) = (j : Int) := by rw [W_id (by omega) (by omega)]; omega
      have hin2 : inb hs (j : Int) = true := inb_true (by omega) (by omega)
      have := List.pairwise_iff_getElem.1 hW.asc j (j + 1) (by omega) hi (by omega)
      have e1 : gt hs (j : Int) = hs[j] := gt_get_nat (by simp)
      have e2 : gt hs ((j + 1 : Nat) : Int) = hs[j + 1] := gt_get_nat (by simp)
      rw [e2] at hTo
      have c3 : ¬ ((n : Int) ≤ hs[j].To) := by omega
      simp only [c, decide_true, if_true, hWj, hin2, e1, c3, decide_false]
    · simp only [c, decide_false, Bool.false_eq_true, if_false]
  unfold m_law17_FollowOpen_l1
  simp only [hd', decide_true, if_true, hin, hTo, c1, c2, decide_false, Bool.false_eq_true, if_false, hfirst, bind_some', hN, Bool.not_true, a1, a2, hI, W_succ (show i < 9223372036854775807 by omega)]
theorem followOpen_law : FollowOpenLaw := by
  intro l p hw hl hp
  refine ⟨10000000000000, ?_⟩
  have hs := sure17
  have hf : 2000001 < 10000000000000 := by omega
  have hf2 : l.length + 1 < 10000000000000 := by omega
  generalize 10000000000000 = fuel at *
  unfold m_law17_FollowOpen
  rw [r_Right l hl hf2]
  by_cases h6 : (l.length : Int) > 60
  · simp [h6, hs]
  cases hR : RightB l with
  | false => simp [h6, hs]
  | true =>
    obtain ⟨t, ht⟩ := tree_of hw hR
    have T := waysT (fuel := fuel) hw hl (by omega) hf2
    obtain ⟨u, e1, hu⟩ := r_Up ht hR (show 401 < fuel by omega)
    obtain ⟨d, _, hd⟩ := m_Deep ht hR (show 401 < fuel by omega)
    have hLF : LeavesF l = leavesL l l.length := by simp [LeavesF, hR]
    have hlv := r_Leaves hw hl (show 401 < fuel by omega) hf2
    rw [hLF] at hlv
    have h400 := ht.le; have hln := ht.len; have hsp := t.size_pos
    have hWt : W ((l.length : Int) - 1) = (t.top 0 : Int) := by rw [W_id (by omega) (by omega)]; unfold Tm.top; omega
    obtain ⟨f1, _⟩ := m_First hw ht hR (show 1000001 < fuel by omega) ht.at0
    rw [← hWt] at f1
    by_cases hin : 0 ≤ p ∧ p < (leavesN l l.length : Int)
    · obtain ⟨n, rfl⟩ : ∃ n : Nat, p = n := ⟨p.toNat, by omega⟩
      have hn : n < leavesN l l.length := by omega
      obtain ⟨q, S, fs, hpl⟩ := place_of ht hn
      have ho : Open l t (n : Int) (q :: ancs q (.leaf S) fs) := .inr ⟨n, q, S, fs, rfl, hpl, rfl⟩
      obtain ⟨a1, a2, a3⟩ := open_above (fuel := fuel) ht hu hd ho (by omega)
      obtain ⟨g1, g2⟩ := ways_good hw ht hR (show 1000001 < fuel by omega) ho
      have fr := m_From hw ht hR (show 1000001 < fuel by omega) hpl hn
      have hwl : wayL fuel l (n : Int) = sortK MHop.To (climbP t n q S fs).1 := by unfold wayL; rw [if_neg (by omega), fr]; rfl
      obtain ⟨hways, _⟩ := climbP_ways ht hpl
      have hWO : WaysO l t (q :: ancs q (.leaf S) fs) (sortK MHop.To (climbP t n q S fs).1) := by
        refine ⟨by rw [← hwl]; exact g1, ?_, by rw [← hwl]; exact T.ok _, by rw [← hwl]; exact T.len _⟩
        have h1 := sortK_sorted MHop.To (climbP t n q S fs).1
        have h2 : (sortK MHop.To (climbP t n q S fs).1).Pairwise fun a b => a.To ≠ b.To := ((sortK_perm MHop.To _).pairwise_iff (fun h => Ne.symm h)).2 hways.dist
        exact (h1.and h2).imp fun h => by omega
      have hlp := open_loop ht hR hu hd hf (by omega) (n : Int) a3 hWO
      have c0 : (n : Int) ≥ 0 := by omega
      have c1 : (n : Int) < ((leavesL l l.length).length : Int) := by rw [leavesL_len]; omega
      have c2 : ¬ ((n : Int) < 0) := by omega
      have c3 : ¬ ((n : Int) ≥ ((leavesL l l.length).length : Int)) := by omega
      have me := T.me (n : Int)
      simp only [h6, decide_false, Bool.false_eq_true, if_false, bind_some', Bool.not_true, hlv, e1, f1, c0, c1, decide_true, if_true, a1, fr, a2, hlp, c2, c3, me, hs]
      cases hE : (endL fuel l (n : Int)).2 with
      | false => simp
      | true =>
        have hn2 := g2 hE
        have hN := m_Nested (fuel := fuel) hR (by omega) hn2 (by have := T.el (n : Int); omega) (by have := T.el (n : Int); omega) (by omega)
        have hTo : (endL fuel l (n : Int)).1.To = -1 := by
          have := m_End hw ht hR (show 1000001 < fuel by omega) hpl hn
          rw [me] at this
          have h3 := Option.some.inj this
          rw [h3] at hE ⊢
          exact endR_to hE
        simp only [Bool.not_true, Bool.false_eq_true, if_false, hN, bind_some', if_true, hTo]
        simp [rv]
    · have hWO : WaysO l t [] (t.into 0 (leavesN l 0) []) := by
        have hwl : wayL fuel l (-1) = t.into 0 (leavesN l 0) [] := by unfold wayL; rw [if_pos (by omega), f1]; rfl
        exact ⟨by rw [← hwl]; exact (ways_good hw ht hR (show 1000001 < fuel by omega) (.inl ⟨rfl, rfl⟩)).1, into_asc t _ _ _, by rw [← hwl]; exact T.ok _, by rw [← hwl]; exact T.len _⟩
      have hlp := open_loop ht hR hu hd hf (by omega) p (st := []) (by simp) hWO
      rw [show rv [] = [] from rfl] at hlp
      have hfn := m_From_no hw (show 401 < fuel by omega) (p := p) (by omega)
      by_cases c0 : p ≥ 0
      · have c1 : ¬ (p < ((leavesL l l.length).length : Int)) := by rw [leavesL_len]; omega
        have c2 : ¬ (p < 0) := by omega
        have c3 : p ≥ ((leavesL l l.length).length : Int) := by omega
        simp [h6, hlv, e1, f1, c0, c1, c2, c3, hlp, hfn, hs]
      · have c2 : p < 0 := by omega
        simp [h6, hlv, e1, f1, c0, c2, hlp, hfn, hs]
theorem followOpen_holds : Rows.FollowOpenSaid := frameFollowOpen followOpen_law
end Go.Proofs.Ytfhehbfifffipaa
