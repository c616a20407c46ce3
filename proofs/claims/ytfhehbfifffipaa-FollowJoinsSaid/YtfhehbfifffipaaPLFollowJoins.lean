/- FollowJoins: of any parse tree the places, one by one, are joined by ways, from the begin to the end. Its conditions: none. -/
import Derived.Test.YtfhehbfifffipaaPJoin
import Derived.Test.YtfhehbfifffipaaPSure17
import Derived.Test.YtfhehbfifffipaaFFollowJoins
set_option autoImplicit false
namespace Go.Proofs.Ytfhehbfifffipaa
open Go.V Go.RowKit

theorem m_way {fuel : Nat} {hs : List MHop} {n : Nat} (h : hasTo hs n) (hl : hs.length ≤ 1000000) (hf : hs.length < fuel) : ∃ x, m_law17_way fuel hs (n : Int) = some (x, true) := by
  have := iter_fold0 (step := m_law17_way_l1 fuel hs (n : Int)) (fun s i => (s, i)) (fun s => (.inl s : MHop ⊕ (MHop × Bool))) id (fun s h => if h.To == (n : Int) then .inr (.inr (h, true)) else .inl s) hs (fun _ _ => True) (⟨0, 0, []⟩ : MHop) (fuel := fuel) hf trivial
    (fun i s hi _ => by
      have hin : inb hs (i : Int) = true := inb_true (by omega) (by omega)
      have hd : (i : Int) < (hs.length : Int) := by omega
      unfold m_law17_way_l1
      simp only [hd, decide_true, if_true, hin, W_succ (show i < 9223372036854775807 by omega)]
      by_cases c : (gt hs (i : Int)).To == (n : Int)
      · exact .inr ⟨.inr (gt hs (i : Int), true), by simp [c], by simp [c]⟩
      · exact .inl ⟨s, by simp [c], by simp [c], trivial⟩)
    (fun s _ => by unfold m_law17_way_l1; simp)
  unfold m_law17_way
  rw [this.1]
  have hfd : ∀ (xs : List MHop) (s : MHop), hasTo xs n → ∃ x, foldE (fun s h => if h.To == (n : Int) then .inr (.inr (h, true)) else .inl s : MHop → MHop → MHop ⊕ (MHop ⊕ (MHop × Bool))) s xs = .inr (.inr (x, true)) := by
    intro xs
    induction xs with
    | nil => rintro s ⟨_, h, _⟩; simp at h
    | cons x xs ih =>
      rintro s ⟨h, h1, h2⟩
      simp only [foldE]
      by_cases c : x.To == (n : Int)
      · exact ⟨x, by simp [c]⟩
      · rcases List.mem_cons.1 h1 with rfl | h1
        · simp [h2] at c
        · simp only [c, Bool.false_eq_true, if_false]; exact ih s ⟨h, h1, h2⟩
  obtain ⟨x, hx⟩ := hfd hs ⟨0, 0, []⟩ h
  exact ⟨x, by rw [hx]; rfl⟩
/-- From place to place there are ways. -/
def Chain (fuel : Nat) (l : List MTerm) : Int → List Nat → Prop
  | _, [] => True
  | p, q :: r => hasTo (wayL fuel l p) (leavesN l q) ∧ Chain fuel l (leavesN l q : Int) r
def lastAt (l : List MTerm) : Int → List Nat → Int
  | p, [] => p
  | _, q :: r => lastAt l (leavesN l q : Int) r
theorem fj_loop {fuel : Nat} {l : List MTerm} (hw : ∀ x ∈ l, wfTerm x) (hR : RightB l = true) (T : WaysT fuel l) (hl : l.length ≤ 1000) (hf : 1000001 < fuel) {t : List MEntry} (ht : ∀ e ∈ t, 0 ≤ e.Node ∧ e.Node < (l.length : Int)) (htl : t.length ≤ 4000000000000000000) : ∀ (n i : Nat) (p : Int) (fu : Nat), i + n = t.length → n < fu → Chain fuel l p (qsE l (t.drop i)) →
    iter (m_law17_FollowJoins_l1 fuel l t (idxL l l.length)) fu (p, (i : Int)) = some (.inl (lastAt l p (qsE l (t.drop i))))
  | 0, i, p, fu, hi, hfu, _ => by
    obtain ⟨fu, rfl⟩ : ∃ m, fu = m + 1 := ⟨fu - 1, by omega⟩
    unfold iter m_law17_FollowJoins_l1
    rw [List.drop_of_length_le (by omega)]
    simp [show ¬ ((i : Int) < (t.length : Int)) by omega, qsE, lastAt]
  | n + 1, i, p, fu, hi, hfu, hc => by
    obtain ⟨fu, rfl⟩ : ∃ m, fu = m + 1 := ⟨fu - 1, by omega⟩
    have hit : i < t.length := by omega
    have hd : (i : Int) < (t.length : Int) := by omega
    have hin : inb t (i : Int) = true := inb_true (by omega) (by omega)
    have he := ht _ (gt_mem hit)
    have hWi : W ((i : Int) + 1) = ((i + 1 : Nat) : Int) := W_succ (by omega)
    rw [drop_cons hit] at hc ⊢
    obtain ⟨e, hgt⟩ : ∃ e, gt t (i : Int) = e := ⟨_, rfl⟩
    rw [hgt] at he hc ⊢
    obtain ⟨q, hq⟩ : ∃ q : Nat, e.Node = (q : Int) := ⟨e.Node.toNat, by omega⟩
    have hin2 : inb l e.Node = true := inb_true he.1 he.2
    unfold iter
    by_cases hk : (gt l e.Node).Kind = 2
    · simp only [qsE, hk, if_true, Chain, lastAt] at hc ⊢
      have hqn : e.Node.toNat = q := by omega
      rw [hqn] at hc ⊢
      have hil := idxL_len l l.length
      have hin3 : inb (idxL l l.length) e.Node = true := inb_true he.1 (by omega)
      have hg : gt (idxL l l.length) e.Node = (leavesN l q : Int) := by
        rw [hq, gt_get_nat (idxL_get l l.length q (by omega)), if_pos (by rw [← hq]; exact hk)]
      obtain ⟨x, hx⟩ := m_way (fuel := fuel) hc.1 (T.len p) (by have := T.len p; omega)
      obtain ⟨_, _, b, T1⟩ := tells (fuel := fuel) hw (show l.length * 64 ≤ 140737488351232 by omega) hf (by omega) (W ((l.length : Int) - 1)) p
      have hstep : m_law17_FollowJoins_l1 fuel l t (idxL l l.length) (p, (i : Int)) = some (.next ((leavesN l q : Int), ((i + 1 : Nat) : Int))) := by
        unfold m_law17_FollowJoins_l1
        by_cases hp : p ≥ 0
        · have hway : wayL fuel l p = b := by simp [wayL, show ¬ p < 0 by omega, T1.mb]
          rw [hway] at hx
          simp only [hd, decide_true, if_true, hin, hgt, hin2, hk, bne_self_eq_false, Bool.false_eq_true, if_false, T1.ma, T1.mb, hp, bind_some', hin3, hg, hx, Bool.not_true, hWi]
        · simp only [hd, decide_true, decide_false, if_true, hin, hgt, hin2, hk, bne_self_eq_false, Bool.false_eq_true, if_false, T1.ma, hp, bind_some', hin3, hg, hWi]
          have hway : wayL fuel l p = (m_follow_First fuel l (W ((l.length : Int) - 1))).getD [] := by simp [wayL, show p < 0 by omega]
          rw [hway, T1.ma, Option.getD_some] at hx
          simp only [hx, Bool.not_true, Bool.false_eq_true, if_false, bind_some']
      rw [hstep]
      exact fj_loop hw hR T hl hf ht htl n (i + 1) _ fu (by omega) (by omega) hc.2
    · simp only [qsE, hk, if_false] at hc ⊢
      have hstep : m_law17_FollowJoins_l1 fuel l t (idxL l l.length) (p, (i : Int)) = some (.next (p, ((i + 1 : Nat) : Int))) := by
        have hk' : ((gt l e.Node).Kind != 2) = true := by simpa using hk
        unfold m_law17_FollowJoins_l1
        simp only [hd, decide_true, if_true, hin, hgt, hin2, hk', bind_some', hWi]
      rw [hstep]
      exact fj_loop hw hR T hl hf ht htl n (i + 1) _ fu (by omega) (by omega) hc
theorem ways_of {l : List MTerm} (hw : ∀ x ∈ l, wfTerm x) {t : Tm} (ht : IsT l t) (hR : RightB l = true) {fuel : Nat} (hf : 1000001 < fuel) {q : Nat} {S : List Int} {gs : List Fr} (hx : Ctx t q (.leaf S) gs) :
    (∀ n, hasTo (climbF q (leavesN l q) (.leaf S) [cls q] [] gs).1 n → hasTo (wayL fuel l (leavesN l q : Int)) n) ∧ (endL fuel l (leavesN l q : Int)) = EndR (if (climbF q (leavesN l q) (.leaf S) [cls q] [] gs).2.2 then (climbF q (leavesN l q) (.leaf S) [cls q] [] gs).2.1 else []) := by
  have hp := place_at ht hx
  have hpl : leavesN l q < leavesN l l.length := by
    have := (List.getElem?_eq_some_iff.1 hp.get).1
    rw [leavesL_len] at this; exact this
  have h1 := m_From hw ht hR hf hp hpl
  have h2 := m_End hw ht hR hf hp hpl
  constructor
  · rintro n ⟨h, h3, h4⟩
    refine ⟨h, ?_, h4⟩
    unfold wayL
    rw [if_neg (by omega), h1]
    exact (sortK_perm MHop.To _).mem_iff.2 h3
  · unfold endL; rw [h2]; rfl
theorem joins_all {l : List MTerm} (hw : ∀ x ∈ l, wfTerm x) {t : Tm} (ht : IsT l t) (hR : RightB l = true) {fuel : Nat} (hf : 1000001 < fuel) {P : Pt} (hv : t.val P) :
    Chain fuel l (-1) (qsW (t.word 0 P)) ∧ (endL fuel l (lastAt l (-1) (qsW (t.word 0 P)))).2 = true := by
  have h400 := ht.le; have hln := ht.len; have hsp := t.size_pos
  have hW : W ((l.length : Int) - 1) = (t.top 0 : Int) := by rw [W_id (by omega) (by omega)]; unfold Tm.top; omega
  obtain ⟨j1, j2⟩ := joined ht t 0 [] P ⟨rfl, rfl⟩ hv
  cases hc : qsW (t.word 0 P) with
  | nil =>
    refine ⟨trivial, ?_⟩
    have hw0 : P.wid = 0 := by rw [← word_nb t 0 P hv, ← qsW_len, hc]; rfl
    have hcan := can_of_val t P hv hw0
    simp only [lastAt]
    unfold endL
    rw [(m_End_begin hw ht hR hf).1, hcan]
    have : (t.steps 0).length ≠ 0 := by cases t <;> simp [Tm.steps]
    simp [EndR, this]
  | cons q r =>
    rw [hc] at j1 j2
    have rest : ∀ (r : List Nat) (q : Nat), Joined (Jn l t) (q :: r) → Chain fuel l (leavesN l q : Int) r ∧ ∃ q', (q :: r).getLast? = some q' ∧ lastAt l (leavesN l q : Int) r = (leavesN l q' : Int) := by
      intro r
      induction r with
      | nil => intro q _; exact ⟨trivial, q, rfl, rfl⟩
      | cons q' r ih =>
        intro q hj
        obtain ⟨⟨S, gs, hx, h1⟩, h2⟩ := hj
        obtain ⟨i1, q2, i2, i3⟩ := ih q' h2
        exact ⟨⟨(ways_of hw ht hR hf hx).1 _ h1, i1⟩, q2, by rw [List.getLast?_cons_cons]; exact i2, i3⟩
    obtain ⟨r1, q2, r2, r3⟩ := rest r q j1
    refine ⟨⟨?_, r1⟩, ?_⟩
    · obtain ⟨h, h1, h2⟩ := into_first t 0 [] P q r ht.at0 hv hc
      refine ⟨h, ?_, h2⟩
      unfold wayL
      rw [if_pos (by omega), hW, (m_First hw ht hR hf ht.at0).1]
      simpa [leavesN] using h1
    · simp only [lastAt, r3]
      obtain ⟨S, gs, st, out, hx, h1⟩ := j2 q2 r2
      rw [(ways_of hw ht hR hf hx).2]
      have hflag : (climbF q2 (leavesN l q2) (.leaf S) [cls q2] [] gs).2.2 = true := by rw [h1]; rfl
      rw [if_pos hflag]
      have := climbF_pos gs q2 (leavesN l q2) (.leaf S) [cls q2] [] (by simp) hflag
      have h5 : (climbF q2 (leavesN l q2) (.leaf S) [cls q2] [] gs).2.1.length ≠ 0 := fun h => this (List.eq_nil_of_length_eq_zero h)
      simp [EndR, h5]
theorem followJoins_law : FollowJoinsLaw := by
  intro l w t hw hl hww hwl htt htl
  refine ⟨10000000000000, ?_⟩
  have hs := sure17
  have hf : 4398046511104 < 10000000000000 := by omega
  have hRr := r_Right l (fuel := 10000000000000) (by omega)
  generalize 10000000000000 = fuel at *
  unfold m_law17_FollowJoins
  by_cases h1 : (l.length : Int) > 60
  · simp [h1, hs]
  by_cases h2 : (w.length : Int) > 60
  · simp [h1, h2, hs]
  have hRr := hRr (by omega)
  simp only [h1, h2, decide_false, Bool.false_eq_true, if_false]
  cases hR : RightB l with
  | false =>
    have : m_ref14_Right fuel l w t = some false := by unfold m_ref14_Right; rw [hRr, hR]; simp
    simp [this, hs]
  | true =>
  obtain ⟨tr, ht⟩ := tree_of hw hR
  have h400 := ht.le; have hln := ht.len; have hsp := tr.size_pos
  have hW : W ((l.length : Int) - 1) = (tr.top 0 : Int) := by rw [W_id (by omega) (by omega)]; unfold Tm.top; omega
  have I : EntI l w t fuel := ⟨hww, by omega, by omega, by omega, fun q hq => (hw _ (gt_mem hq)).2.2.2.2⟩
  obtain ⟨r, hr1, hr2⟩ := entry_sound I tr 0 ht.at0 fuel 0 1 0 (w.length : Int) (by omega) (by omega) (by omega)
  rw [show ((0 : Nat) : Int) = 0 from rfl] at hr1
  have hright : m_ref14_Right fuel l w t = some (r == (t.length : Int)) := by
    unfold m_ref14_Right
    rw [hRr, hR, hW]
    simp only [bind_some', if_true, hr1]
  rw [hright]
  by_cases hrt : r = (t.length : Int)
  case neg =>
    have : (r == (t.length : Int)) = false := by simpa using hrt
    simp [this, hs]
  rcases hr2 with rfl | ⟨P, rest, hv, _, hwid, _, _, hdrop, hlen⟩
  · omega
  have hte : t = tr.ents 0 1 0 P := by
    rw [List.drop_zero] at hdrop
    have h5 := congrArg List.length hdrop
    simp only [List.length_append] at h5
    have : rest = [] := List.eq_nil_of_length_eq_zero (by omega)
    rw [hdrop, this, List.append_nil]
  have T := waysT (fuel := fuel) hw (show l.length * 64 ≤ 140737488351232 by omega) (by omega) (by omega)
  obtain ⟨q1, q2⟩ := ents_qs tr 0 1 0 P ht.at0 hv
  rw [← hte] at q1 q2
  obtain ⟨c1, c2⟩ := joins_all hw ht hR (show 1000001 < fuel by omega) hv
  rw [← q1] at c1 c2
  have hIF : IndexF l = idxL l l.length := by simp [IndexF, hR]
  have hIx := r_Index hw (fuel := fuel) (show l.length * 64 ≤ 140737488351232 by omega) (by omega) (by omega)
  rw [hIF] at hIx
  have hloop := fj_loop hw hR T (by omega) (show 1000001 < fuel by omega) q2 (by omega) t.length 0 (-1) fuel (by omega) (by omega) (by rw [List.drop_zero]; exact c1)
  rw [List.drop_zero, show ((0 : Nat) : Int) = 0 from rfl] at hloop
  have hb : (r == (t.length : Int)) = true := by simpa using hrt
  simp only [hb, Bool.not_true, bind_some', Bool.false_eq_true, if_false, hIx, hloop, T.me, c2, if_true, hs]
theorem followJoins_holds : Rows.FollowJoinsSaid := frameFollowJoins followJoins_law
end Go.Proofs.Ytfhehbfifffipaa
