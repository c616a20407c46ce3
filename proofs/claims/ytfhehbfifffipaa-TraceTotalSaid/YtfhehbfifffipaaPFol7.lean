/- From a place up to the root, by the document. Its conditions: none. -/
import Derived.Test.YtfhehbfifffipaaPFol6
set_option autoImplicit false
namespace Go.Proofs.Ytfhehbfifffipaa
open Go.V Go.RowKit

theorem r_known (fuel : Nat) (out : List MHop) (to : Int) (hf : out.length < fuel) (hl : out.length ≤ 1000000000) : m_ref17_known fuel out to = some (out.any fun x => x.To == to) := by
  have key : ∀ (k i : Nat), i + k = out.length → ∀ m, k < m → ∃ t, iter (m_ref17_known_l1 fuel out to) m (i : Int) = some t ∧ (match t with | .inl _ => (out.drop i).any (fun x => x.To == to) = false | .inr r => r = true ∧ (out.drop i).any (fun x => x.To == to) = true) := by
    intro k
    induction k with
    | zero =>
      intro i hi m hm
      obtain ⟨m, rfl⟩ : ∃ q, m = q + 1 := ⟨m - 1, by omega⟩
      refine ⟨.inl (), ?_, ?_⟩
      · unfold iter m_ref17_known_l1
        have : ¬ ((i : Int) < (out.length : Int)) := by omega
        simp [this]
      · rw [List.drop_of_length_le (by omega)]; rfl
    | succ k ih =>
      intro i hi m hm
      obtain ⟨m, rfl⟩ : ∃ q, m = q + 1 := ⟨m - 1, by omega⟩
      have hlt : i < out.length := by omega
      have hin : inb out (i : Int) = true := inb_true (by omega) (by omega)
      have hd1 : (i : Int) < (out.length : Int) := by omega
      have hst : m_ref17_known_l1 fuel out to (i : Int) = if ((gt out (i : Int)).To == to) = true then some (.done (.inr true)) else some (.next ((i + 1 : Nat) : Int)) := by
        unfold m_ref17_known_l1
        simp only [hd1, decide_true, if_true, hin, W_succ (show i < 9223372036854775807 by omega)]
      unfold iter
      rw [hst, drop_cons hlt]
      by_cases c : ((gt out (i : Int)).To == to) = true
      · rw [if_pos c]
        exact ⟨_, rfl, rfl, by simp only [List.any_cons, c, Bool.true_or]⟩
      · rw [if_neg c]
        obtain ⟨t, h1, h2⟩ := ih (i + 1) (by omega) m (by omega)
        refine ⟨t, h1, ?_⟩
        have c' : ((gt out (i : Int)).To == to) = false := by simpa using c
        cases t with
        | inl _ => simp only [List.any_cons, c', Bool.false_or]; exact h2
        | inr r => simp only [List.any_cons, c', Bool.false_or]; exact h2
  obtain ⟨t, h1, h2⟩ := key out.length 0 (by omega) fuel (by omega)
  unfold m_ref17_known
  rw [show (0 : Int) = ((0 : Nat) : Int) from rfl, h1]
  rw [List.drop_zero] at h2
  cases t with
  | inl _ => simp only [bind_some']; rw [h2]
  | inr r => simp only [bind_some']; rw [h2.2, h2.1]
theorem r_turns {fuel : Nat} {l : List MTerm} {x6 : MHop} {x1 x2 x3 : List Int} {x4 : List Bool} {x7 : Int} {x8 : List Int} {x9 : List MHop} {x12 : Int} {x14 : List MHop} {d : Int} (hd : inb x2 (gt x1 x7) = true) (hdv : gt x2 (gt x1 x7) = d) (hops : List MHop) (hhl : hops.length ≤ 1000000) :
    ∀ (k i : Nat) (o hs : List MHop), hs.length = hops.length → hs.drop i = hops.drop i → i + k = hops.length → o.length + k ≤ 1000000 → 1000001 < fuel → ∀ m, k < m →
      iter (m_ref17_climb_l2 fuel l x6 x1 x2 x3 x4 x7 x8 x9 x12 x14) m (o, hs, (i : Int)) = some (turnsF d o (hops.drop i)) := by
  intro k
  induction k with
  | zero =>
    intro i o hs hl hdr hi ho hf m hm
    obtain ⟨m, rfl⟩ : ∃ q, m = q + 1 := ⟨m - 1, by omega⟩
    rw [List.drop_of_length_le (by omega)]
    unfold iter m_ref17_climb_l2
    have : ¬ ((i : Int) < (hs.length : Int)) := by omega
    simp [this, turnsF]
  | succ k ih =>
    intro i o hs hl hdr hi ho hf m hm
    obtain ⟨m, rfl⟩ : ∃ q, m = q + 1 := ⟨m - 1, by omega⟩
    have hlt : i < hops.length := by omega
    have hin : inb hs (i : Int) = true := inb_true (by omega) (by omega)
    have hd1 : (i : Int) < (hs.length : Int) := by omega
    have hap : ∀ x : MHop, apOk 40 o [x] = true := fun x => apOk_true (by simp; omega)
    have hge : gt hs (i : Int) = gt hops (i : Int) := by
      have e1 := drop_cons (l := hs) (i := i) (by omega)
      have e2 := drop_cons (l := hops) (i := i) hlt
      rw [hdr, e2] at e1
      exact (List.cons.inj e1).1.symm
    have hdn : hs.drop (i + 1) = hops.drop (i + 1) := by
      have e1 := drop_cons (l := hs) (i := i) (by omega)
      have e2 := drop_cons (l := hops) (i := i) hlt
      rw [hdr, e2] at e1
      exact (List.cons.inj e1).2.symm
    have hin2 : ∀ y : MHop, inb (hs.set i y) (i : Int) = true := fun y => inb_true (by omega) (by simp; omega)
    have hse : ∀ y : MHop, gt (hs.set i y) (i : Int) = y := fun y => gt_set_eq (by omega)
    have hds : ∀ y : MHop, (hs.set i y).drop (i + 1) = hops.drop (i + 1) := fun y => by rw [List.drop_set_of_lt (by omega), hdn]
    have he : m_ref17_climb_l2 fuel l x6 x1 x2 x3 x4 x7 x8 x9 x12 x14 (o, hs, (i : Int)) = if o.any (fun x => x.To == (gt hops (i : Int)).To) then some (.next (o, hs, ((i + 1 : Nat) : Int))) else some (.next (o ++ [⟨(gt hops (i : Int)).To, d, (gt hops (i : Int)).Steps⟩], hs.set i ⟨(gt hops (i : Int)).To, d, (gt hops (i : Int)).Steps⟩, ((i + 1 : Nat) : Int))) := by
      unfold m_ref17_climb_l2
      simp only [hd1, decide_true, if_true, hin, hge, r_known fuel o (gt hops (i : Int)).To (by omega) (by omega), bind_some', hd, hdv, Int.toNat_natCast, hin2, hse, hap, W_succ (show i < 9223372036854775807 by omega)]
      cases o.any (fun x => x.To == (gt hops (i : Int)).To) <;> simp
    have hst : ∃ hs', hs'.length = hops.length ∧ hs'.drop (i + 1) = hops.drop (i + 1) ∧ m_ref17_climb_l2 fuel l x6 x1 x2 x3 x4 x7 x8 x9 x12 x14 (o, hs, (i : Int)) = some (.next ((if o.any (fun x => x.To == (gt hops (i : Int)).To) then o else o ++ [⟨(gt hops (i : Int)).To, d, (gt hops (i : Int)).Steps⟩]), hs', ((i + 1 : Nat) : Int))) := by
      rw [he]
      cases o.any (fun x => x.To == (gt hops (i : Int)).To) with
      | true => exact ⟨hs, hl, hdn, rfl⟩
      | false => exact ⟨hs.set i ⟨(gt hops (i : Int)).To, d, (gt hops (i : Int)).Steps⟩, by simpa using hl, hds _, rfl⟩
    obtain ⟨hs', p1, p2, p3⟩ := hst
    unfold iter
    rw [p3, drop_cons hlt]
    simp only [turnsF]
    refine ih (i + 1) _ hs' p1 p2 (by omega) ?_ hf m (by omega)
    split
    · omega
    · simp only [List.length_append, List.length_cons, List.length_nil]; omega
theorem r_climb {l : List MTerm} {t : Tm} (ht : IsT l t) (hR : RightB l = true) {u d : List Int} (hu : UpT u t) (hd : DeepT d t) {fuel : Nat} (hf : 1000001 < fuel) (x5 : List Int) (p1 : Int) (x6 : MHop) :
    ∀ (fs : List Fr) (lo : Nat) (s : Tm) (st : List Int) (out : List MHop), Ctx t lo s fs → st.length + 1000 * fs.length ≤ 500000 → out.length + 1000 * fs.length ≤ 500000 → ∀ m, fs.length < m →
      ∃ r, iter (m_ref17_climb_l1 fuel l u d (idxL l l.length) (CanF l) x5 p1) m (x6, (s.top lo : Int), st, out) = some r ∧
        (match r with | .inl (_, y2, y3) => (y3, y2, true) | .inr (z1, _, _) => (z1, [], false)) = climbF lo (leavesN l lo) s st out fs ∧ (∀ z1 z2 z3, r = .inr (z1, z2, z3) → z2 = ⟨0, 0, []⟩ ∧ z3 = false) := by
  have h400 := ht.le; have hlen0 := ht.len
  have hct := canT hR
  intro fs
  induction fs with
  | nil =>
    intro lo s st out hx h1 h2 m hm
    obtain ⟨m, rfl⟩ : ∃ q, m = q + 1 := ⟨m - 1, by omega⟩
    refine ⟨.inl (x6, st, out), ?_, rfl, fun _ _ _ h => by cases h⟩
    have hpart := hx.part ht hu hd
    have hiu : inb u (s.top lo : Int) = true := inb_true (by omega) (by rw [hu.len]; have := hpart.at_.top_lt; omega)
    have hroot := hx.root hu
    have e : m_ref17_climb_l1 fuel l u d (idxL l l.length) (CanF l) x5 p1 (x6, (s.top lo : Int), st, out) = some (.done (.inl (x6, st, out))) := by
      unfold m_ref17_climb_l1
      simp [hiu, hroot]
    unfold iter
    rw [e]
  | cons f fs ih =>
    intro lo s st out hx h1 h2 m hm
    obtain ⟨m, rfl⟩ : ∃ q, m = q + 1 := ⟨m - 1, by omega⟩
    have hpart := hx.part ht hu hd
    have hpar := hx.2.part ht hu hd
    have hedge := hx.edge ht hu hd
    have hx2 := hx.2
    have hlvs := leavesN_off ht hu hd hx
    have hsz := hx.size
    simp only [List.length_cons] at h1 h2 hm hsz
    have hiq : inb u (s.top lo : Int) = true := inb_true (by omega) (by rw [hu.len]; have := hpart.at_.top_lt; omega)
    have htop := hpar.at_.top_lt
    have hg := hpar.at_.gt_top
    have hdp := hpar.deep.top
    generalize hlo : lo - f.off = lo' at *
    generalize hr : (f.plug s).top lo' = r at *
    have hin : inb l (r : Int) = true := inb_true (by omega) (by omega)
    have hid : inb d (r : Int) = true := inb_true (by omega) (by rw [hd.len]; omega)
    have hr0 : (r : Int) ≥ 0 := by omega
    have hcls : W (W (2 * (r : Int)) + 1) = cls r := by rw [W_opn (by omega), W_cls (by omega)]
    have put1 : ∀ st' : List Int, st'.length ≤ st.length + 900 → m_ref17_put fuel st' [W (W (2 * (r : Int)) + 1)] = some (st' ++ [cls r]) := fun st' hs => by
      rw [hcls, r_put (fuel := fuel) (a := st') (b := [cls r]) (by simp; omega)]
    have plain : climbF lo (leavesN l lo) s st out (f :: fs) = climbF lo' (leavesN l lo') (f.plug s) (st ++ [cls r]) out fs → m_ref17_climb_l1 fuel l u d (idxL l l.length) (CanF l) x5 p1 (x6, (s.top lo : Int), st, out) = some (.next (x6, (r : Int), st ++ [cls r], out)) →
        ∃ r', iter (m_ref17_climb_l1 fuel l u d (idxL l l.length) (CanF l) x5 p1) (m + 1) (x6, (s.top lo : Int), st, out) = some r' ∧ (match r' with | .inl (_, y2, y3) => (y3, y2, true) | .inr (z1, _, _) => (z1, [], false)) = climbF lo (leavesN l lo) s st out (f :: fs) ∧ (∀ z1 z2 z3, r' = .inr (z1, z2, z3) → z2 = ⟨0, 0, []⟩ ∧ z3 = false) := fun e1 e2 => by
      unfold iter
      rw [e1, e2]
      have := ih lo' (f.plug s) (st ++ [cls r]) out hx2 (by simp; omega) (by omega) m (by omega)
      rw [hr] at this
      exact this
    have step0 : m_ref17_climb_l1 fuel l u d (idxL l l.length) (CanF l) x5 p1 (x6, (s.top lo : Int), st, out) = m_ref17_climb_l1 fuel l u d (idxL l l.length) (CanF l) x5 p1 (x6, (s.top lo : Int), st, out) := rfl
    conv at step0 => rhs; unfold m_ref17_climb_l1
    simp only [hiq, hedge, hr0, decide_true, if_true, hin, hg] at step0
    cases f with
    | catL b =>
      simp only [Fr.plug, Fr.off, Nat.sub_zero] at hlo hr hg hpar step0
      subst hlo
      obtain ⟨hats, hatb, _⟩ := (At.bin rfl rfl).1 hpar.at_
      have hbi := b.into_len (lo + s.size) (leavesN l lo + s.leaves) st
      have hbl := b.leaves_le; have hbs := b.steps_le (lo + s.size)
      have hsb : b.size ≤ 400 := by have := hatb.len; omega
      have hinto := r_into ht hR (show 401 < fuel by omega) b (lo + s.size) hatb fuel st (by omega) (by omega)
      rw [leavesN_at hats] at hinto
      have hturn : ∀ x14, iter (m_ref17_climb_l2 fuel l x6 u d (idxL l l.length) (CanF l) (s.top lo : Int) st out (b.top (lo + s.size) : Int) x14) fuel (out, b.into (lo + s.size) (leavesN l lo + s.leaves) st, 0) = some (turnsF ((fs.length + 1 : Nat) : Int) out (b.into (lo + s.size) (leavesN l lo + s.leaves) st)) := fun x14 => by
        have := r_turns (fuel := fuel) (l := l) (x6 := x6) (x1 := u) (x2 := d) (x3 := idxL l l.length) (x4 := CanF l) (x7 := (s.top lo : Int)) (x8 := st) (x9 := out) (x12 := (b.top (lo + s.size) : Int)) (x14 := x14) (d := ((fs.length + 1 : Nat) : Int)) (by rw [hedge]; exact hid) (by rw [hedge]; exact hdp) (b.into (lo + s.size) (leavesN l lo + s.leaves) st) (by omega) (b.into (lo + s.size) (leavesN l lo + s.leaves) st).length 0 out (b.into (lo + s.size) (leavesN l lo + s.leaves) st) rfl rfl (by omega) (by omega) hf fuel (by omega)
        simpa using this
      have hbin : inb (CanF l) (b.top (lo + s.size) : Int) = true := inb_true (by omega) (by rw [hct.len]; have := hatb.top_lt; omega)
      have hb0 : (b.top (lo + s.size) : Int) ≥ 0 := by omega
      simp only [Tm.node, beq_self_eq_true, if_true, bind_some', show ((3 : Int) == 5) = false from rfl, Bool.false_eq_true, if_false, hb0, decide_true, hinto, hturn, hbin, hct.top b _ hatb] at step0
      have htl := turnsF_len ((fs.length + 1 : Nat) : Int) (b.into (lo + s.size) (leavesN l lo + s.leaves) st) out
      simp only [climbF]
      cases hcan : b.can with
      | false =>
        simp only [hcan, Bool.not_false, if_true, bind_some'] at step0
        refine ⟨_, by unfold iter; rw [step0], ?_, fun z1 z2 z3 h => by cases h; exact ⟨rfl, rfl⟩⟩
        simp
      | true =>
        simp only [hcan, Bool.not_true, Bool.false_eq_true, if_false, r_Of hct (by omega) fuel b _ hatb fuel (by omega), bind_some', r_put (fuel := fuel) (a := st) (b := b.steps (lo + s.size)) (by omega)] at step0
        rw [put1 _ (by simp; omega)] at step0
        unfold iter
        rw [step0]
        have := ih lo (.cat s b) (st ++ b.steps (lo + s.size) ++ [cls r]) (turnsF ((fs.length + 1 : Nat) : Int) out (b.into (lo + s.size) (leavesN l lo + s.leaves) st)) hx2 (by simp; omega) (by omega) m (by omega)
        rw [hr] at this
        rw [if_pos rfl, hr]
        exact this
    | star =>
      simp only [Fr.plug, Fr.off, Nat.sub_zero] at hlo hr hg hpar step0
      subst hlo
      obtain ⟨hats, _⟩ := (At.un rfl rfl).1 hpar.at_
      have hbi := s.into_len lo (leavesN l lo) st
      have hbl := s.leaves_le
      have hsb : s.size ≤ 400 := by have := hats.len; omega
      have hinto := r_into ht hR (show 401 < fuel by omega) s lo hats fuel st (by omega) (by omega)
      have hturn : ∀ x14, iter (m_ref17_climb_l2 fuel l x6 u d (idxL l l.length) (CanF l) (s.top lo : Int) st out (s.top lo : Int) x14) fuel (out, s.into lo (leavesN l lo) st, 0) = some (turnsF ((fs.length + 1 : Nat) : Int) out (s.into lo (leavesN l lo) st)) := fun x14 => by
        have := r_turns (fuel := fuel) (l := l) (x6 := x6) (x1 := u) (x2 := d) (x3 := idxL l l.length) (x4 := CanF l) (x7 := (s.top lo : Int)) (x8 := st) (x9 := out) (x12 := (s.top lo : Int)) (x14 := x14) (d := ((fs.length + 1 : Nat) : Int)) (by rw [hedge]; exact hid) (by rw [hedge]; exact hdp) (s.into lo (leavesN l lo) st) (by omega) (s.into lo (leavesN l lo) st).length 0 out (s.into lo (leavesN l lo) st) rfl rfl (by omega) (by omega) hf fuel (by omega)
        simpa using this
      have hb0 : (s.top lo : Int) ≥ 0 := by omega
      simp only [Tm.node, show ((5 : Int) == 3) = false from rfl, beq_self_eq_true, Bool.false_eq_true, if_false, if_true, bind_some', hb0, decide_true, hinto, hturn] at step0
      rw [put1 _ (by omega)] at step0
      have htl := turnsF_len ((fs.length + 1 : Nat) : Int) (s.into lo (leavesN l lo) st) out
      simp only [climbF]
      unfold iter
      rw [step0]
      have := ih lo (.star s) (st ++ [cls r]) (turnsF ((fs.length + 1 : Nat) : Int) out (s.into lo (leavesN l lo) st)) hx2 (by simp; omega) (by omega) m (by omega)
      rw [hr] at this
      rw [hr]
      exact this
    | catR a =>
      simp only [Fr.plug, Fr.off] at hlo hr hg hpar step0
      have hps := s.size_pos
      have hne : ((a.top lo' : Int) == (s.top lo : Int)) = false := by
        have := hx.1
        have := a.size_pos
        simp only [Fr.off] at *
        have : a.top lo' ≠ s.top lo := by unfold Tm.top; omega
        simp; omega
      refine plain (by simp only [climbF, Fr.off, Fr.lvs, hlo, hlvs, Fr.plug, hr]) ?_
      rw [step0]
      simp only [Tm.node, hne, beq_self_eq_true, if_true, bind_some', Bool.false_eq_true, if_false, show ((3 : Int) == 5) = false from rfl]
      simp [put1 st (by omega)]
    | altR a =>
      simp only [Fr.plug, Fr.off] at hlo hr hg hpar step0
      refine plain (by simp only [climbF, Fr.off, Fr.lvs, hlo, hlvs, Fr.plug, hr]) ?_
      rw [step0]
      simp only [Tm.node, bind_some']
      simp [put1 st (by omega)]
    | altL b | maybe | group n | iter =>
      simp only [Fr.plug, Fr.off, Nat.sub_zero] at hlo hr hg hpar step0
      subst hlo
      refine plain (by subst hr; rfl) ?_
      rw [step0]
      simp only [Tm.node, bind_some']
      simp [put1 st (by omega)]
end Go.Proofs.Ytfhehbfifffipaa
