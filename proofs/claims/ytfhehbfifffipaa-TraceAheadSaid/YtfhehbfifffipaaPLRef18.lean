/- The document's rows of frames: where two part, and how far up they close. Its conditions: none. -/
import Derived.Test.YtfhehbfifffipaaPTrc4
import Derived.Test.YtfhehbfifffipaaMo11
set_option autoImplicit false
namespace Go.Proofs.Ytfhehbfifffipaa
open Go.V Go.RowKit

theorem r_part_in {fuel : Nat} {a b : List (List Int)} {k : Nat} (hk : k < a.length) (hb : k < b.length) (hl : (gt a (k : Int)).length ≤ 1000000000) (hf : (gt a (k : Int)).length < fuel) :
    iter (m_ref18_part_l2 fuel a b (k : Int)) fuel 0 = some (outE (fun _ => .inl ()) (fun j => .inr ((k : Int), j)) (foldE partT 0 ((gt a (k : Int)).zip (gt b (k : Int))))) := by
  have ha0 : inb a (k : Int) = true := inb_true (by omega) (by omega)
  have hb0 : inb b (k : Int) = true := inb_true (by omega) (by omega)
  generalize hx : gt a (k : Int) = x at *
  generalize hy : gt b (k : Int) = y at *
  have hzl : (x.zip y).length = min x.length y.length := by simp
  refine (iter_fold0 (step := m_ref18_part_l2 fuel a b (k : Int)) (fun (s : Int) i => i) (fun _ => (.inl () : Unit ⊕ (Int × Int))) (fun j => .inr ((k : Int), j)) partT (x.zip y) (fun i s => s = (i : Int)) 0 (fuel := fuel) (by omega) rfl ?_ ?_).1
  · intro i s hi hs
    subst hs
    have h1 : inb x (i : Int) = true := inb_true (by omega) (by omega)
    have h2 : inb y (i : Int) = true := inb_true (by omega) (by omega)
    have hd1 : (i : Int) < (x.length : Int) := by omega
    have hd2 : (i : Int) < (y.length : Int) := by omega
    unfold m_ref18_part_l2 partT
    simp only [hx, hy, hd1, hd2, decide_true, if_true, ha0, hb0, h1, h2, bind_some', gt_zip (show i < x.length by omega) (show i < y.length by omega), W_succ (show i < 9223372036854775807 by omega)]
    by_cases c : gt x (i : Int) = gt y (i : Int)
    · exact .inl ⟨(i : Int) + 1, by simp [c], by simp [c], by simp⟩
    · exact .inr ⟨(i : Int), by simp [c], by simp [c]⟩
  · intro s hs
    unfold m_ref18_part_l2
    by_cases hd1 : ((x.zip y).length : Int) < (x.length : Int)
    · have hd2 : ¬ ((x.zip y).length : Int) < (y.length : Int) := by omega
      simp only [hx, hy, ha0, hb0, hd1, hd2, decide_true, decide_false, if_true, bind_some', Bool.false_eq_true, if_false]
    · simp only [hx, hy, ha0, hb0, hd1, decide_true, decide_false, if_true, bind_some', Bool.false_eq_true, if_false]
theorem r_part_eq {fuel : Nat} {a b : List (List Int)} (hab : a.length = b.length) (hl : a.length ≤ 1000000) (hst : ∀ f ∈ a, f.length ≤ 2000000) (hf : 2000001 < fuel) :
    m_ref18_part fuel a b = some (match PartF a b with | .inl _ => (-1, 0) | .inr z => z) := by
  have hzl : (a.zip b).length = a.length := by simp; omega
  have hr := (iter_fold0 (step := m_ref18_part_l1 fuel a b) (fun (s : Int) i => i) (fun _ => (.inl () : Unit ⊕ (Int × Int))) (fun z => .inr z) partsT (a.zip b) (fun i s => s = (i : Int)) 0 (fuel := fuel) (by omega) rfl
    (fun i s hi hs => by
      subst hs
      have hia : i < a.length := by omega
      have hib : i < b.length := by omega
      have hsl := hst _ (gt_mem hia)
      have hd : (i : Int) < (a.length : Int) := by omega
      unfold m_ref18_part_l1 partsT
      simp only [hd, decide_true, if_true, r_part_in (fuel := fuel) hia hib (by omega) (by omega), bind_some', gt_zip hia hib, W_succ (show i < 9223372036854775807 by omega)]
      cases c : foldE partT 0 ((gt a (i : Int)).zip (gt b (i : Int))) with
      | inl u => exact .inl ⟨(i : Int) + 1, rfl, rfl, by simp⟩
      | inr j => exact .inr ⟨((i : Int), j), rfl, rfl⟩)
    (fun s hs => by unfold m_ref18_part_l1; simp only [hzl]; simp)).1
  unfold m_ref18_part PartF
  rw [hr]
  cases foldE partsT 0 (a.zip b) <;> rfl

def depthStep (s : Int) (x : Int) : Int := if Int.tmod x 2 = 0 then s + 1 else s - 1
theorem depth_nest {N : Nat} : ∀ (xs : List Int) (s s' : List Nat), nestS N s xs = some s' → xs.foldl depthStep (s.length : Int) = (s'.length : Int)
  | [], s, s', h => by simp only [nestS, Option.some.injEq] at h; subst h; rfl
  | x :: xs, s, s', h => by
    simp only [nestS] at h
    cases c : stepN N s x with
    | none => rw [c] at h; cases h
    | some s1 =>
      rw [c] at h
      have hc := (stepN_cases c).2.2
      simp only [List.foldl_cons, depthStep]
      rcases hc with ⟨h1, h2⟩ | ⟨h1, h2⟩
      · rw [if_pos h1, show (s.length : Int) + 1 = (s1.length : Int) by omega]; exact depth_nest xs s1 s' h
      · rw [if_neg (by omega), show (s.length : Int) - 1 = (s1.length : Int) by omega]; exact depth_nest xs s1 s' h
theorem W_step {x : Int} {n : Nat} (hn : n ≤ 1000000000) (hx : Int.tmod x 2 = 0 ∨ Int.tmod x 2 = 1) (hn2 : Int.tmod x 2 = 1 → 1 ≤ n) : W (W ((n : Int) + 1) - W (2 * Int.tmod x 2)) = depthStep (n : Int) x := by
  unfold depthStep
  rcases hx with h | h
  · rw [h, if_pos rfl, W_id (n := (n : Int) + 1) (by omega) (by omega), show W (2 * (0 : Int)) = 0 from rfl, W_id (by omega) (by omega)]; omega
  · have := hn2 h
    rw [h, if_neg (by omega), W_id (n := (n : Int) + 1) (by omega) (by omega), show W (2 * (1 : Int)) = 2 from rfl, W_id (by omega) (by omega)]; omega
theorem r_lows_in {fuel N : Nat} {a : List (List Int)} {k i f m : Nat} (hf : f < a.length) {s s' : List Nat} (ys : List Int) (hy : ys = (gt a (f : Int)).take m) (hm : m ≤ (gt a (f : Int)).length) (hkm : f < k ∧ m = (gt a (f : Int)).length ∨ f = k ∧ m = i)
    (h : nestS N s ys = some s') (hl : s.length + ys.length ≤ 1000000000) (hfu : ys.length < fuel) (x1 x2 : Int) :
    iter (m_ref18_lows_l2 fuel a (k : Int) (i : Int) x1 (f : Int)) fuel ((s.length : Int), 0) = some (s'.length : Int) := by
  have hyl : ys.length = m := by rw [hy]; simp; omega
  have hin : inb a (f : Int) = true := inb_true (by omega) (by omega)
  have hg : ∀ j : Nat, j < m → gt ys (j : Int) = gt (gt a (f : Int)) (j : Int) := by
    intro j hj
    rw [hy, gt_get_nat (x := (gt a (f : Int))[j]'(by omega)) (by simp [hj] <;> omega), gt_get_nat (x := (gt a (f : Int))[j]'(by omega)) (by simp)]
  have hi := (iter_fold0 (υ := Unit) (step := m_ref18_lows_l2 fuel a (k : Int) (i : Int) x1 (f : Int)) (fun (st : Int) i => (st, i)) (fun st => st) (fun _ => default) (fun st x => .inl (depthStep st x)) ys (fun j st => ∃ si, nestS N s (ys.take j) = some si ∧ st = (si.length : Int)) (s.length : Int) (fuel := fuel) hfu ⟨s, by simp [nestS], rfl⟩
    (fun j st hj hI => by
      obtain ⟨si, h1, rfl⟩ := hI
      obtain ⟨si', sj, h3, h4, h5⟩ := nestS_at h hj
      obtain rfl : si = si' := by rw [h1] at h3; exact Option.some.inj h3
      have hsl := nestS_len _ _ _ h1
      have htl : (ys.take j).length ≤ j := by simp; omega
      obtain ⟨_, _, hc⟩ := stepN_cases h4
      have hin2 : inb (gt a (f : Int)) (j : Int) = true := inb_true (by omega) (by omega)
      have hd : (j : Int) < ((gt a (f : Int)).length : Int) := by omega
      have hd2 : ¬ ((f : Int) < (k : Int)) → (j : Int) < (i : Int) := by omega
      refine .inl ⟨_, rfl, ?_, sj, h5, ?_⟩
      · have hWs := W_step (x := gt ys (j : Int)) (n := si.length) (by omega) (by omega) (by omega)
        unfold m_ref18_lows_l2
        rw [hg j (by omega)] at hWs ⊢
        by_cases c : (f : Int) < (k : Int)
        · simp only [hin, hd, c, decide_true, if_true, bind_some', hin2, hWs, W_succ (show j < 9223372036854775807 by omega)]
        · simp only [hin, hd, c, hd2 c, decide_true, decide_false, Bool.false_eq_true, if_false, if_true, bind_some', hin2, hWs, W_succ (show j < 9223372036854775807 by omega)]
      · have := depth_nest (N := N) [gt ys (j : Int)] si sj (by simp [nestS, h4])
        simpa using this)
    (fun st _ => by
      unfold m_ref18_lows_l2
      by_cases c : (ys.length : Int) < ((gt a (f : Int)).length : Int)
      · have c1 : ¬ ((f : Int) < (k : Int)) := by omega
        have c2 : ¬ ((ys.length : Int) < (i : Int)) := by omega
        simp only [hin, c, c1, c2, decide_true, decide_false, Bool.false_eq_true, if_false, if_true, bind_some']
      · simp only [hin, c, decide_true, decide_false, Bool.false_eq_true, if_false, if_true, bind_some'])).1
  rw [hi, foldE_inl]
  simp only [outE]
  rw [depth_nest ys s s' h]
theorem r_lows_low {fuel N : Nat} {a : List (List Int)} {f m : Nat} (hf : f < a.length) {s s' : List Nat} {ys : List Int} (hy : ys = (gt a (f : Int)).drop m) (hm : m ≤ (gt a (f : Int)).length)
    (h : nestS N s ys = some s') (hl : s.length + (gt a (f : Int)).length ≤ 1000000000) (hfu : ys.length < fuel) (low : Int) (p1 p2 x7 x8 : Int) (x9 : List Int) :
    iter (m_ref18_lows_l4 fuel a p1 p2 x7 x8 x9 (f : Int) (m : Int)) fuel ((s.length : Int), low, (m : Int)) = some (ys.foldl lowStep ((s.length : Int), low)) := by
  have hyl : ys.length = (gt a (f : Int)).length - m := by rw [hy]; simp
  have hin : inb a (f : Int) = true := inb_true (by omega) (by omega)
  have hg : ∀ j : Nat, j < ys.length → gt ys (j : Int) = gt (gt a (f : Int)) ((m : Int) + (j : Int)) := by
    intro j hj
    rw [show (m : Int) + (j : Int) = ((m + j : Nat) : Int) by omega, hy, gt_get_nat (x := (gt a (f : Int))[m + j]'(by omega)) (by simp <;> omega), gt_get_nat (x := (gt a (f : Int))[m + j]'(by omega)) (by simp)]
  have hi := (iter_fold0 (υ := Unit) (step := m_ref18_lows_l4 fuel a p1 p2 x7 x8 x9 (f : Int) (m : Int)) (fun (st : Int × Int) j => (st.1, st.2, (m : Int) + j)) (fun st => st) (fun _ => default) (fun st x => .inl (lowStep st x)) ys (fun j st => ∃ si, nestS N s (ys.take j) = some si ∧ st.1 = (si.length : Int)) ((s.length : Int), low) (fuel := fuel) hfu ⟨s, by simp [nestS], rfl⟩
    (fun j st hj hI => by
      obtain ⟨si, h1, h2⟩ := hI
      obtain ⟨si', sj, h3, h4, h5⟩ := nestS_at h hj
      obtain rfl : si = si' := by rw [h1] at h3; exact Option.some.inj h3
      have hsl := nestS_len _ _ _ h1
      have htl : (ys.take j).length ≤ j := by simp; omega
      obtain ⟨_, _, hc⟩ := stepN_cases h4
      obtain ⟨st1, st2⟩ := st
      simp only at h2
      subst h2
      have hin2 : inb (gt a (f : Int)) ((m : Int) + (j : Int)) = true := inb_true (by omega) (by omega)
      have hd : (m : Int) + (j : Int) < ((gt a (f : Int)).length : Int) := by omega
      have hWj : W ((m : Int) + (j : Int) + 1) = (m : Int) + ((j + 1 : Nat) : Int) := by rw [W_id (by omega) (by omega)]; omega
      have hd1 := depth_nest (N := N) [gt ys (j : Int)] si sj (by simp [nestS, h4])
      have hWs := W_step (x := gt ys (j : Int)) (n := si.length) (by omega) (by omega) (by omega)
      refine .inl ⟨_, rfl, ?_, sj, h5, ?_⟩
      · rw [hg j hj] at hWs ⊢ hc
        unfold m_ref18_lows_l4 lowStep
        unfold depthStep at hWs
        rcases hc with ⟨h6, h7⟩ | ⟨h6, h7⟩
        · rw [if_pos h6] at hWs ⊢
          rw [h6] at hWs
          simp only [hin, hd, decide_true, if_true, hin2, h6, hWs, hWj, bind_some', show ((0 : Int) == 1) = false from rfl, Bool.false_eq_true, if_false]
        · rw [if_neg (by omega)] at hWs ⊢
          rw [h6] at hWs
          by_cases c : (si.length : Int) < st2
          · simp only [hin, hd, decide_true, if_true, hin2, h6, hWs, hWj, bind_some', beq_self_eq_true, c]
          · simp only [hin, hd, decide_true, if_true, hin2, h6, hWs, hWj, bind_some', beq_self_eq_true, c, decide_false, Bool.false_eq_true, if_false]
      · have := lowStep_depth (N := N) [gt ys (j : Int)] si sj st2 (by simp [nestS, h4])
        simpa using this)
    (fun st _ => by
      unfold m_ref18_lows_l4
      have c : ¬ ((m : Int) + (ys.length : Int) < ((gt a (f : Int)).length : Int)) := by omega
      simp only [hin, c, decide_false, Bool.false_eq_true, if_false, if_true])).1
  simp only [Int.add_zero] at hi
  rw [hi, foldE_inl]; rfl

theorem r_lows {fuel N : Nat} {a : List (List Int)} {s s1 s2 : List Nat} (h : nestS N [] a.flatten = some s) {k i : Nat} (hk : k < a.length) (hi : i ≤ (gt a (k : Int)).length) (hl : a.flatten.length ≤ 100000000) (ha : a.length ≤ 1000000) (hst : ∀ f ∈ a, f.length ≤ 2000000) (hf : 1000000001 < fuel)
    (h1 : nestS N [] (a.take k).flatten = some s1) (h2 : nestS N s1 ((gt a (k : Int)).take i) = some s2) : m_ref18_lows fuel a (k : Int) (i : Int) = some (LowsF a k i s2.length) := by
  obtain ⟨s1', s2', s3, h1', h2', h3, h4⟩ := lows_cut h hk i
  obtain rfl : s1' = s1 := by rw [h1'] at h1; exact Option.some.inj h1
  obtain rfl : s2' = s2 := by rw [h2'] at h2; exact Option.some.inj h2
  have e : a = a.take k ++ gt a (k : Int) :: a.drop (k + 1) := by rw [← drop_cons hk, List.take_append_drop]
  have hlen : a.flatten.length = (a.take k).flatten.length + ((gt a (k : Int)).length + (a.drop (k + 1)).flatten.length) := by
    conv => lhs; rw [e]
    simp
  have n1 := nestS_len _ _ _ h1
  have n2 := nestS_len _ _ _ h2
  simp only [List.length_nil] at n1
  have t1 : ((gt a (k : Int)).take i).length = i := by simp; omega
  have hgk := hst _ (gt_mem hk)
  -- the frames ahead of the fork
  have hA : iter (m_ref18_lows_l1 fuel a (k : Int) (i : Int)) fuel (0, 0) = some (s2'.length : Int) := by
    have hxl : (a.take k ++ [(gt a (k : Int)).take i]).length = k + 1 := by simp; omega
    have hx : nestS N [] (a.take k ++ [(gt a (k : Int)).take i]).flatten = some s2' := by simp [nestS_append, h1, h2]
    have hg1 : ∀ j : Nat, j < k → gt (a.take k ++ [(gt a (k : Int)).take i]) (j : Int) = gt a (j : Int) := by
      intro j hj
      rw [gt_append_left (by omega) (by simp; omega)]
      simp only [gt_nat, List.getD_eq_getElem?_getD]
      rw [List.getElem?_take_of_lt hj]
    have hg2 : gt (a.take k ++ [(gt a (k : Int)).take i]) (k : Int) = (gt a (k : Int)).take i := gt_append_right (by simp; omega)
    have hxf : (a.take k ++ [(gt a (k : Int)).take i]).flatten.length ≤ 100000000 := by simp only [List.flatten_append, List.flatten_cons, List.flatten_nil, List.append_nil, List.length_append, t1]; omega
    generalize a.take k ++ [(gt a (k : Int)).take i] = b at *
    have hpre := nest_frames hx
    have hit := iter_fold0 (υ := Unit) (step := m_ref18_lows_l1 fuel a (k : Int) (i : Int)) (fun (st : Int) j => (st, j)) (fun st => st) (fun _ => default) (fun st f => .inl (f.foldl depthStep st)) b (fun j st => ∃ si, nestS N [] (b.take j).flatten = some si ∧ st = (si.length : Int)) (0 : Int) (fuel := fuel) (by omega) ⟨[], by simp [nestS], rfl⟩
      (fun j st hj hI => by
        obtain ⟨si, h5, rfl⟩ := hI
        obtain ⟨si', sj, h8, h9, h10, h11⟩ := hpre j hj
        obtain rfl : si = si' := by rw [h5] at h8; exact Option.some.inj h8
        have hsl := nestS_len _ _ _ h5
        simp only [List.length_nil] at hsl
        have hd : (j : Int) < (a.length : Int) := by omega
        have hd2 : (j : Int) ≤ (k : Int) := by omega
        have hin : iter (m_ref18_lows_l2 fuel a (k : Int) (i : Int) (si.length : Int) (j : Int)) fuel ((si.length : Int), 0) = some (sj.length : Int) := by
          by_cases c : j < k
          · have := hst _ (gt_mem (show j < a.length by omega))
            rw [hg1 j c] at h9 h11
            exact r_lows_in (N := N) (show j < a.length by omega) (gt a (j : Int)) (m := (gt a (j : Int)).length) (by simp) (Nat.le_refl _) (.inl ⟨c, rfl⟩) h9 (by omega) (by omega) _ 0
          · obtain rfl : j = k := by omega
            rw [hg2] at h9 h11
            exact r_lows_in (N := N) hk ((gt a (j : Int)).take i) (m := i) rfl hi (.inr ⟨rfl, rfl⟩) h9 (by omega) (by omega) _ 0
        refine .inl ⟨_, rfl, ?_, sj, h10, depth_nest _ _ _ h9⟩
        unfold m_ref18_lows_l1
        rw [depth_nest _ _ _ h9]
        simp only [hd, hd2, decide_true, if_true, bind_some', hin, W_succ (show j < 9223372036854775807 by omega)])
      (fun st _ => by
        unfold m_ref18_lows_l1
        have c : ¬ ((b.length : Int) ≤ (k : Int)) := by omega
        by_cases c2 : (b.length : Int) < (a.length : Int)
        · simp only [c, c2, decide_true, decide_false, if_true, bind_some', Bool.false_eq_true, if_false]
        · simp only [c2, decide_false, bind_some', Bool.false_eq_true, if_false])
    rw [foldE_inl] at hit
    obtain ⟨si, h5, h6⟩ := hit.2 _ rfl
    rw [List.take_length, hx] at h5
    obtain rfl := Option.some.inj h5
    rw [hit.1]; simp only [outE]; rw [h6]
  -- from the fork on
  have hb : nestS N s2' (((gt a (k : Int)).drop i) :: a.drop (k + 1)).flatten = some s := by simp [nestS_append, h3, h4]
  have hWb : W ((s2'.length : Int) + 1) = (s2'.length : Int) + 1 := W_id (by omega) (by omega)
  have hB : iter (m_ref18_lows_l3 fuel a (k : Int) (i : Int) (s2'.length : Int)) fuel ((s2'.length : Int), (s2'.length : Int) + 1, ([] : List Int), (k : Int)) = some (LowsF a k i s2'.length) := by
    unfold LowsF
    have hbl : (((gt a (k : Int)).drop i) :: a.drop (k + 1)).length = a.length - k := by simp; omega
    have hg : ∀ j : Nat, j < a.length - k → gt (((gt a (k : Int)).drop i) :: a.drop (k + 1)) (j : Int) = (gt a ((k + j : Nat) : Int)).drop (if j = 0 then i else 0) := by
      intro j hj
      cases j with
      | zero => simp [gt]
      | succ j =>
        rw [gt_get_nat (x := a[k + (j + 1)]'(by omega)) (by simp; rw [List.getElem?_eq_getElem (by omega)]; congr 1; congr 1; omega), gt_get_nat (x := a[k + (j + 1)]'(by omega)) (by simp)]
        simp
    have hbf : (((gt a (k : Int)).drop i) :: a.drop (k + 1)).flatten.length ≤ 100000000 := by simp only [List.flatten_cons, List.length_append, List.length_drop]; omega
    generalize ((gt a (k : Int)).drop i) :: a.drop (k + 1) = b at *
    have hpre := nest_frames hb
    have hit := (iter_fold0 (υ := Unit) (step := m_ref18_lows_l3 fuel a (k : Int) (i : Int) (s2'.length : Int)) (fun (st : (Int × Int) × List Int) j => (st.1.1, st.1.2, st.2, (k : Int) + j)) (fun st => st.2) (fun _ => default) (fun st f => .inl (f.foldl lowStep st.1, st.2 ++ [(f.foldl lowStep st.1).2])) b (fun j st => (∃ si, nestS N s2' (b.take j).flatten = some si ∧ st.1.1 = (si.length : Int)) ∧ st.2.length = j) (((s2'.length : Int), (s2'.length : Int) + 1), []) (fuel := fuel) (by omega) ⟨⟨s2', by simp [nestS], rfl⟩, rfl⟩
      (fun j st hj hI => by
        obtain ⟨⟨si, h5, h6⟩, h7⟩ := hI
        obtain ⟨si', sj, h8, h9, h10, h11⟩ := hpre j hj
        obtain rfl : si = si' := by rw [h5] at h8; exact Option.some.inj h8
        have hsl := nestS_len _ _ _ h5
        obtain ⟨⟨st1, st2⟩, out⟩ := st
        simp only at h6 h7
        subst h6
        have hkj : k + j < a.length := by omega
        have hfl := hst _ (gt_mem hkj)
        have hap : ∀ y : Int, apOk 8 out [y] = true := fun y => apOk_true (by simp; omega)
        have hd : (k : Int) + (j : Int) < (a.length : Int) := by omega
        have hWj : W ((k : Int) + (j : Int) + 1) = (k : Int) + ((j + 1 : Nat) : Int) := by rw [W_id (by omega) (by omega)]; omega
        have hx11 : (if ((k : Int) + (j : Int) == (k : Int)) then some (i : Int) else some 0) = some (((if j = 0 then i else 0 : Nat)) : Int) := by
          by_cases c : j = 0
          · subst c; simp
          · have : ¬ ((k : Int) + (j : Int) = (k : Int)) := by omega
            simp [c, this]
        have hmle : (if j = 0 then i else 0) ≤ (gt a ((k + j : Nat) : Int)).length := by
          by_cases c : j = 0
          · subst c; simpa using hi
          · simp [c]
        have hin := r_lows_low (fuel := fuel) (N := N) hkj (m := if j = 0 then i else 0) (hg j (by omega)) hmle h9 (by omega) (by omega) st2 (k : Int) (i : Int) (si.length : Int) st2 out
        refine .inl ⟨_, rfl, ?_, ⟨sj, h10, lowStep_depth _ _ _ _ h9⟩, by simp [h7]⟩
        unfold m_ref18_lows_l3
        have e1 : (k : Int) + (j : Int) = ((k + j : Nat) : Int) := by omega
        rw [e1] at hd hWj hx11
        simp only [e1, hd, decide_true, if_true, hx11, bind_some', hin, hap, hWj])
      (fun st _ => by
        unfold m_ref18_lows_l3
        have c : ¬ ((k : Int) + (b.length : Int) < (a.length : Int)) := by omega
        simp only [c, decide_false, Bool.false_eq_true, if_false])).1
    rw [foldE_inl] at hit
    simp only [outE, Int.add_zero] at hit
    rw [lowsR_fold] at hit
    simpa using hit
  unfold m_ref18_lows
  simp only [hA, bind_some', hWb, hB]
end Go.Proofs.Ytfhehbfifffipaa
