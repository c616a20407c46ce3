/- From a place up to the root, by the document. Its conditions: none. -/
import Derived.Test.YtfhehbfifffipaaPFol4
import Derived.Test.YtfhehbfifffipaaPSure17
set_option autoImplicit false
namespace Go.Proofs.Ytfhehbfifffipaa
open Go.V Go.RowKit

theorem r_known (fuel : Nat) (out : List MHop) (to : Int) (hf : out.length < fuel) (hl : out.length ≤ 1000000000) : m_ref17_known fuel out to = some (out.any fun x => x.To == to) := by
  have key : ∀ (k i : Nat), i + k = out.length → ∀ m, k < m → ∃ t, iter (m_ref17_known_l1 fuel out to) m (i : Int) = some t ∧ (match t with | .inl _ => (out.drop i).any (fun x => x.To == to) = false | .inr r => r = true ∧ (out.drop i).any (fun x => x.To == to) = true) := by
    intro k
    induction k with
    | zero =>
      intro i hi m hm
      obtain ⟨m, rfl⟩ : ∃ q, m = q + 1 := ⟨m - 1, by omega⟩
      refine ⟨.inl (), ?_, ?_⟩
      · unfold iter m_ref17_known_l1
        have : ¬ ((i : Int) < (out.length : Int)) := by omega
        simp [this]
      · rw [List.drop_of_length_le (by omega)]; rfl
    | succ k ih =>
      intro i hi m hm
      obtain ⟨m, rfl⟩ : ∃ q, m = q + 1 := ⟨m - 1, by omega⟩
      have hlt : i < out.length := by omega
      have hin : inb out (i : Int) = true := inb_true (by omega) (by omega)
      have hd1 : (i : Int) < (out.length : Int) := by omega
      have hst : m_ref17_known_l1 fuel out to (i : Int) = if ((gt out (i : Int)).To == to) = true then some (.done (.inr true)) else some (.next ((i + 1 : Nat) : Int)) := by
        unfold m_ref17_known_l1
        simp only [hd1, decide_true, if_true, hin, W_succ (show i < 9223372036854775807 by omega)]
      unfold iter
      rw [hst, drop_cons hlt]
      by_cases c : ((gt out (i : Int)).To == to) = true
      · rw [if_pos c]
        exact ⟨_, rfl, rfl, by simp only [List.any_cons, c, Bool.true_or]⟩
      · rw [if_neg c]
        obtain ⟨t, h1, h2⟩ := ih (i + 1) (by omega) m (by omega)
        refine ⟨t, h1, ?_⟩
        have c' : ((gt out (i : Int)).To == to) = false := by simpa using c
        cases t with
        | inl _ => simp only [List.any_cons, c', Bool.false_or]; exact h2
        | inr r => simp only [List.any_cons, c', Bool.false_or]; exact h2
  obtain ⟨t, h1, h2⟩ := key out.length 0 (by omega) fuel (by omega)
  unfold m_ref17_known
  rw [show (0 : Int) = ((0 : Nat) : Int) from rfl, h1]
  rw [List.drop_zero] at h2
  cases t with
  | inl _ => simp only [bind_some']; rw [h2]
  | inr r => simp only [bind_some']; rw [h2.2, h2.1]
theorem r_turns {fuel : Nat} {l : List MTerm} {x6 : MHop} {x1 x2 x3 : List Int} {x4 : List Bool} {x7 : Int} {x8 : List Int} {x9 : List MHop} {x12 : Int} {x14 : List MHop} {d : Int} (hd : inb x2 (gt x1 x7) = true) (hdv : gt x2 (gt x1 x7) = d) (hops : List MHop) (hhl : hops.length ≤ 1000000) :
    ∀ (k i : Nat) (o hs : List MHop), hs.length = hops.length → hs.drop i = hops.drop i → i + k = hops.length → o.length + k ≤ 1000000 → 1000001 < fuel → ∀ m, k < m →
      iter (m_ref17_climb_l2 fuel l x6 x1 x2 x3 x4 x7 x8 x9 x12 x14) m (o, hs, (i : Int)) = some (turnsF d o (hops.drop i)) := by
  intro k
  induction k with
  | zero =>
    intro i o hs hl hdr hi ho hf m hm
    obtain ⟨m, rfl⟩ : ∃ q, m = q + 1 := ⟨m - 1, by omega⟩
    rw [List.drop_of_length_le (by omega)]
    unfold iter m_ref17_climb_l2
    have : ¬ ((i : Int) < (hs.length : Int)) := by omega
    simp [this, turnsF]
  | succ k ih =>
    intro i o hs hl hdr hi ho hf m hm
    obtain ⟨m, rfl⟩ : ∃ q, m = q + 1 := ⟨m - 1, by omega⟩
    have hlt : i < hops.length := by omega
    have hin : inb hs (i : Int) = true := inb_true (by omega) (by omega)
    have hd1 : (i : Int) < (hs.length : Int) := by omega
    have hap : ∀ x : MHop, apOk 40 o [x] = true := fun x => apOk_true (by simp; omega)
    have hge : gt hs (i : Int) = gt hops (i : Int) := by
      have e1 := drop_cons (l := hs) (i := i) (by omega)
      have e2 := drop_cons (l := hops) (i := i) hlt
      rw [hdr, e2] at e1
      exact (List.cons.inj e1).1.symm
    have hdn : hs.drop (i + 1) = hops.drop (i + 1) := by
      have e1 := drop_cons (l := hs) (i := i) (by omega)
      have e2 := drop_cons (l := hops) (i := i) hlt
      rw [hdr, e2] at e1
      exact (List.cons.inj e1).2.symm
    have hin2 : ∀ y : MHop, inb (hs.set i y) (i : Int) = true := fun y => inb_true (by omega) (by simp; omega)
    have hse : ∀ y : MHop, gt (hs.set i y) (i : Int) = y := fun y => gt_set_eq (by omega)
    have hds : ∀ y : MHop, (hs.set i y).drop (i + 1) = hops.drop (i + 1) := fun y => by rw [List.drop_set_of_lt (by omega), hdn]
    have he : m_ref17_climb_l2 fuel l x6 x1 x2 x3 x4 x7 x8 x9 x12 x14 (o, hs, (i : Int)) = if o.any (fun x => x.To == (gt hops (i : Int)).To) then some (.next (o, hs, ((i + 1 : Nat) : Int))) else some (.next (o ++ [⟨(gt hops (i : Int)).To, d, (gt hops (i : Int)).Steps⟩], hs.set i ⟨(gt hops (i : Int)).To, d, (gt hops (i : Int)).Steps⟩, ((i + 1 : Nat) : Int))) := by
      unfold m_ref17_climb_l2
      simp only [hd1, decide_true, if_true, hin, hge, r_known fuel o (gt hops (i : Int)).To (by omega) (by omega), bind_some', hd, hdv, Int.toNat_natCast, hin2, hse, hap, W_succ (show i < 9223372036854775807 by omega)]
      cases o.any (fun x => x.To == (gt hops (i : Int)).To) <;> simp
    have hst : ∃ hs', hs'.length = hops.length ∧ hs'.drop (i + 1) = hops.drop (i + 1) ∧ m_ref17_climb_l2 fuel l x6 x1 x2 x3 x4 x7 x8 x9 x12 x14 (o, hs, (i : Int)) = some (.next ((if o.any (fun x => x.To == (gt hops (i : Int)).To) then o else o ++ [⟨(gt hops (i : Int)).To, d, (gt hops (i : Int)).Steps⟩]), hs', ((i + 1 : Nat) : Int))) := by
      rw [he]
      cases o.any (fun x => x.To == (gt hops (i : Int)).To) with
      | true => exact ⟨hs, hl, hdn, rfl⟩
      | false => exact ⟨hs.set i ⟨(gt hops (i : Int)).To, d, (gt hops (i : Int)).Steps⟩, by simpa using hl, hds _, rfl⟩
    obtain ⟨hs', p1, p2, p3⟩ := hst
    unfold iter
    rw [p3, drop_cons hlt]
    simp only [turnsF]
    refine ih (i + 1) _ hs' p1 p2 (by omega) ?_ hf m (by omega)
    split
    · omega
    · simp only [List.length_append, List.length_cons, List.length_nil]; omega
theorem r_climb {l : List MTerm} {t : Tm} (ht : IsT l t) (hR : RightB l = true) {u d : List Int} (hu : UpT u t) (hd : DeepT d t) {fuel : Nat} (hf : 1000001 < fuel) (x5 : List Int) (p1 : Int) (x6 : MHop) :
    ∀ (fs : List Fr) (lo : Nat) (s : Tm) (st : List Int) (out : List MHop), Ctx t lo s fs → st.length + 1000 * fs.length ≤ 500000 → out.length + 1000 * fs.length ≤ 500000 → ∀ m, fs.length < m →
      ∃ r, iter (m_ref17_climb_l1 fuel l u d (idxL l l.length) (CanF l) x5 p1) m (x6, (s.top lo : Int), st, out) = some r ∧
        (match r with | .inl (_, y2, y3) => (y3, y2, true) | .inr (z1, _, _) => (z1, [], false)) = climbF lo (leavesN l lo) s st out fs ∧ (∀ z1 z2 z3, r = .inr (z1, z2, z3) → z2 = ⟨0, 0, []⟩ ∧ z3 = false) := by
  have h400 := ht.le; have hlen0 := ht.len
  have hct := canT hR
  intro fs
  induction fs with
  | nil =>
    intro lo s st out hx h1 h2 m hm
    obtain ⟨m, rfl⟩ : ∃ q, m = q + 1 := ⟨m - 1, by omega⟩
    refine ⟨.inl (x6, st, out), ?_, rfl, fun _ _ _ h => by cases h⟩
    have hpart := hx.part ht hu hd
    have hiu : inb u (s.top lo : Int) = true := inb_true (by omega) (by rw [hu.len]; have := hpart.at_.top_lt; omega)
    have hroot := hx.root hu
    have e : m_ref17_climb_l1 fuel l u d (idxL l l.length) (CanF l) x5 p1 (x6, (s.top lo : Int), st, out) = some (.done (.inl (x6, st, out))) := by
      unfold m_ref17_climb_l1
      simp [hiu, hroot]
    unfold iter
    rw [e]
  | cons f fs ih =>
    intro lo s st out hx h1 h2 m hm
    obtain ⟨m, rfl⟩ : ∃ q, m = q + 1 := ⟨m - 1, by omega⟩
    have hpart := hx.part ht hu hd
    have hpar := hx.2.part ht hu hd
    have hedge := hx.edge ht hu hd
    have hx2 := hx.2
    have hlvs := leavesN_off ht hu hd hx
    have hsz := hx.size
    simp only [List.length_cons] at h1 h2 hm hsz
    have hiq : inb u (s.top lo : Int) = true := inb_true (by omega) (by rw [hu.len]; have := hpart.at_.top_lt; omega)
    have htop := hpar.at_.top_lt
    have hg := hpar.at_.gt_top
    have hdp := hpar.deep.top
    generalize hlo : lo - f.off = lo' at *
    generalize hr : (f.plug s).top lo' = r at *
    have hin : inb l (r : Int) = true := inb_true (by omega) (by omega)
    have hid : inb d (r : Int) = true := inb_true (by omega) (by rw [hd.len]; omega)
    have hr0 : (r : Int) ≥ 0 := by omega
    have hcls : W (W (2 * (r : Int)) + 1) = cls r := by rw [W_opn (by omega), W_cls (by omega)]
    have put1 : ∀ st' : List Int, st'.length ≤ st.length + 900 → m_ref17_put fuel st' [W (W (2 * (r : Int)) + 1)] = some (st' ++ [cls r]) := fun st' hs => by
      rw [hcls, r_put (fuel := fuel) (a := st') (b := [cls r]) (by simp; omega)]
    have plain : climbF lo (leavesN l lo) s st out (f :: fs) = climbF lo' (leavesN l lo') (f.plug s) (st ++ [cls r]) out fs → m_ref17_climb_l1 fuel l u d (idxL l l.length) (CanF l) x5 p1 (x6, (s.top lo : Int), st, out) = some (.next (x6, (r : Int), st ++ [cls r], out)) →
        ∃ r', iter (m_ref17_climb_l1 fuel l u d (idxL l l.length) (CanF l) x5 p1) (m + 1) (x6, (s.top lo : Int), st, out) = some r' ∧ (match r' with | .inl (_, y2, y3) => (y3, y2, true) | .inr (z1, _, _) => (z1, [], false)) = climbF lo (leavesN l lo) s st out (f :: fs) ∧ (∀ z1 z2 z3, r' = .inr (z1, z2, z3) → z2 = ⟨0, 0, []⟩ ∧ z3 = false) := fun e1 e2 => by
      unfold iter
      rw [e1, e2]
      have := ih lo' (f.plug s) (st ++ [cls r]) out hx2 (by simp; omega) (by omega) m (by omega)
      rw [hr] at this
      exact this
    have step0 : m_ref17_climb_l1 fuel l u d (idxL l l.length) (CanF l) x5 p1 (x6, (s.top lo : Int), st, out) = m_ref17_climb_l1 fuel l u d (idxL l l.length) (CanF l) x5 p1 (x6, (s.top lo : Int), st, out) := rfl
    conv at step0 => rhs; unfold m_ref17_climb_l1
    simp only [hiq, hedge, hr0, decide_true, if_true, hin, hg] at step0
    cases f with
    | catL b =>
      simp only [Fr.plug, Fr.off, Nat.sub_zero] at hlo hr hg hpar step0
      subst hlo
      obtain ⟨hats, hatb, _⟩ := (At.bin rfl rfl).1 hpar.at_
      have hbi := b.into_len (lo + s.size) (leavesN l lo + s.leaves) st
      have hbl := b.leaves_le; have hbs := b.steps_le (lo + s.size)
      have hsb : b.size ≤ 400 := by have := hatb.len; omega
      have hinto := r_into ht hR (show 401 < fuel by omega) b (lo + s.size) hatb fuel st (by omega) (by omega)
      rw [leavesN_at hats] at hinto
      have hturn : ∀ x14, iter (m_ref17_climb_l2 fuel l x6 u d (idxL l l.length) (CanF l) (s.top lo : Int) st out (b.top (lo + s.size) : Int) x14) fuel (out, b.into (lo + s.size) (leavesN l lo + s.leaves) st, 0) = some (turnsF ((fs.length + 1 : Nat) : Int) out (b.into (lo + s.size) (leavesN l lo + s.leaves) st)) := fun x14 => by
        have := r_turns (fuel := fuel) (l := l) (x6 := x6) (x1 := u) (x2 := d) (x3 := idxL l l.length) (x4 := CanF l) (x7 := (s.top lo : Int)) (x8 := st) (x9 := out) (x12 := (b.top (lo + s.size) : Int)) (x14 := x14) (d := ((fs.length + 1 : Nat) : Int)) (by rw [hedge]; exact hid) (by rw [hedge]; exact hdp) (b.into (lo + s.size) (leavesN l lo + s.leaves) st) (by omega) (b.into (lo + s.size) (leavesN l lo + s.leaves) st).length 0 out (b.into (lo + s.size) (leavesN l lo + s.leaves) st) rfl rfl (by omega) (by omega) hf fuel (by omega)
        simpa using this
      have hbin : inb (CanF l) (b.top (lo + s.size) : Int) = true := inb_true (by omega) (by rw [hct.len]; have := hatb.top_lt; omega)
      have hb0 : (b.top (lo + s.size) : Int) ≥ 0 := by omega
      simp only [Tm.node, beq_self_eq_true, if_true, bind_some', show ((3 : Int) == 5) = false from rfl, Bool.false_eq_true, if_false, hb0, decide_true, hinto, hturn, hbin, hct.top b _ hatb] at step0
      have htl := turnsF_len ((fs.length + 1 : Nat) : Int) (b.into (lo + s.size) (leavesN l lo + s.leaves) st) out
      simp only [climbF]
      cases hcan : b.can with
      | false =>
        simp only [hcan, Bool.not_false, if_true, bind_some'] at step0
        refine ⟨_, by unfold iter; rw [step0], ?_, fun z1 z2 z3 h => by cases h; exact ⟨rfl, rfl⟩⟩
        simp
      | true =>
        simp only [hcan, Bool.not_true, Bool.false_eq_true, if_false, r_Of hct (by omega) fuel b _ hatb fuel (by omega), bind_some', r_put (fuel := fuel) (a := st) (b := b.steps (lo + s.size)) (by omega)] at step0
        rw [put1 _ (by simp; omega)] at step0
        unfold iter
        rw [step0]
        have := ih lo (.cat s b) (st ++ b.steps (lo + s.size) ++ [cls r]) (turnsF ((fs.length + 1 : Nat) : Int) out (b.into (lo + s.size) (leavesN l lo + s.leaves) st)) hx2 (by simp; omega) (by omega) m (by omega)
        rw [hr] at this
        rw [if_pos rfl, hr]
        exact this
    | star =>
      simp only [Fr.plug, Fr.off, Nat.sub_zero] at hlo hr hg hpar step0
      subst hlo
      obtain ⟨hats, _⟩ := (At.un rfl rfl).1 hpar.at_
      have hbi := s.into_len lo (leavesN l lo) st
      have hbl := s.leaves_le
      have hsb : s.size ≤ 400 := by have := hats.len; omega
      have hinto := r_into ht hR (show 401 < fuel by omega) s lo hats fuel st (by omega) (by omega)
      have hturn : ∀ x14, iter (m_ref17_climb_l2 fuel l x6 u d (idxL l l.length) (CanF l) (s.top lo : Int) st out (s.top lo : Int) x14) fuel (out, s.into lo (leavesN l lo) st, 0) = some (turnsF ((fs.length + 1 : Nat) : Int) out (s.into lo (leavesN l lo) st)) := fun x14 => by
        have := r_turns (fuel := fuel) (l := l) (x6 := x6) (x1 := u) (x2 := d) (x3 := idxL l l.length) (x4 := CanF l) (x7 := (s.top lo : Int)) (x8 := st) (x9 := out) (x12 := (s.top lo : Int)) (x14 := x14) (d := ((fs.length + 1 : Nat) : Int)) (by rw [hedge]; exact hid) (by rw [hedge]; exact hdp) (s.into lo (leavesN l lo) st) (by omega) (s.into lo (leavesN l lo) st).length 0 out (s.into lo (leavesN l lo) st) rfl rfl (by omega) (by omega) hf fuel (by omega)
        simpa using this
      have hb0 : (s.top lo : Int) ≥ 0 := by omega
      simp only [Tm.node, show ((5 : Int) == 3) = false from rfl, beq_self_eq_true, Bool.false_eq_true, if_false, if_true, bind_some', hb0, decide_true, hinto, hturn] at step0
      rw [put1 _ (by omega)] at step0
      have htl := turnsF_len ((fs.length + 1 : Nat) : Int) (s.into lo (leavesN l lo) st) out
      simp only [climbF]
      unfold iter
      rw [step0]
      have := ih lo (.star s) (st ++ [cls r]) (turnsF ((fs.length + 1 : Nat) : Int) out (s.into lo (leavesN l lo) st)) hx2 (by simp; omega) (by omega) m (by omega)
      rw [hr] at this
      rw [hr]
      exact this
    | catR a =>
      simp only [Fr.plug, Fr.off] at hlo hr hg hpar step0
      have hps := s.size_pos
      have hne : ((a.top lo' : Int) == (s.top lo : Int)) = false := by
        have := hx.1
        have := a.size_pos
        simp only [Fr.off] at *
        have : a.top lo' ≠ s.top lo := by unfold Tm.top; omega
        simp; omega
      refine plain (by simp only [climbF, Fr.off, Fr.lvs, hlo, hlvs, Fr.plug, hr]) ?_
      rw [step0]
      simp only [Tm.node, hne, beq_self_eq_true, if_true, bind_some', Bool.false_eq_true, if_false, show ((3 : Int) == 5) = false from rfl]
      simp [put1 st (by omega)]
    | altR a =>
      simp only [Fr.plug, Fr.off] at hlo hr hg hpar step0
      refine plain (by simp only [climbF, Fr.off, Fr.lvs, hlo, hlvs, Fr.plug, hr]) ?_
      rw [step0]
      simp only [Tm.node, bind_some']
      simp [put1 st (by omega)]
    | altL b | maybe | group n | iter =>
      simp only [Fr.plug, Fr.off, Nat.sub_zero] at hlo hr hg hpar step0
      subst hlo
      refine plain (by subst hr; rfl) ?_
      rw [step0]
      simp only [Tm.node, bind_some']
      simp [put1 st (by omega)]
theorem Ctx.down {t : Tm} : ∀ {s : Tm} {lo : Nat} {fs : List Fr}, Ctx t lo s fs → ∀ i, lo ≤ i → i < lo + s.size → ∃ lo' s' fs', Ctx t lo' s' fs' ∧ s'.top lo' = i := by
  intro s
  induction s with
  | eps => intro lo fs h i h1 h2; exact ⟨lo, .eps, fs, h, by simp only [Tm.top, Tm.size] at *; omega⟩
  | leaf s => intro lo fs h i h1 h2; exact ⟨lo, .leaf s, fs, h, by simp only [Tm.top, Tm.size] at *; omega⟩
  | cat a b iha ihb =>
    intro lo fs h i h1 h2
    simp only [Tm.size] at h2
    rcases Nat.lt_or_ge i (lo + a.size) with c | c
    · exact iha (fs := .catL b :: fs) ⟨Nat.zero_le _, h⟩ i h1 c
    · rcases Nat.lt_or_ge i (lo + a.size + b.size) with c2 | c2
      · exact ihb (lo := lo + a.size) (fs := .catR a :: fs) ⟨by simp [Fr.off], by simpa [Fr.off, Fr.plug] using h⟩ i c c2
      · exact ⟨lo, _, fs, h, by simp only [Tm.top, Tm.size]; omega⟩
  | alt a b iha ihb =>
    intro lo fs h i h1 h2
    simp only [Tm.size] at h2
    rcases Nat.lt_or_ge i (lo + a.size) with c | c
    · exact iha (fs := .altL b :: fs) ⟨Nat.zero_le _, h⟩ i h1 c
    · rcases Nat.lt_or_ge i (lo + a.size + b.size) with c2 | c2
      · exact ihb (lo := lo + a.size) (fs := .altR a :: fs) ⟨by simp [Fr.off], by simpa [Fr.off, Fr.plug] using h⟩ i c c2
      · exact ⟨lo, _, fs, h, by simp only [Tm.top, Tm.size]; omega⟩
  | star a iha =>
    intro lo fs h i h1 h2
    simp only [Tm.size] at h2
    rcases Nat.lt_or_ge i (lo + a.size) with c | c
    · exact iha (fs := .star :: fs) ⟨Nat.zero_le _, h⟩ i h1 c
    · exact ⟨lo, _, fs, h, by simp only [Tm.top, Tm.size]; omega⟩
  | maybe a iha =>
    intro lo fs h i h1 h2
    simp only [Tm.size] at h2
    rcases Nat.lt_or_ge i (lo + a.size) with c | c
    · exact iha (fs := .maybe :: fs) ⟨Nat.zero_le _, h⟩ i h1 c
    · exact ⟨lo, _, fs, h, by simp only [Tm.top, Tm.size]; omega⟩
  | group n a iha =>
    intro lo fs h i h1 h2
    simp only [Tm.size] at h2
    rcases Nat.lt_or_ge i (lo + a.size) with c | c
    · exact iha (fs := .group n :: fs) ⟨Nat.zero_le _, h⟩ i h1 c
    · exact ⟨lo, _, fs, h, by simp only [Tm.top, Tm.size]; omega⟩
  | iter a iha =>
    intro lo fs h i h1 h2
    simp only [Tm.size] at h2
    rcases Nat.lt_or_ge i (lo + a.size) with c | c
    · exact iha (fs := .iter :: fs) ⟨Nat.zero_le _, h⟩ i h1 c
    · exact ⟨lo, _, fs, h, by simp only [Tm.top, Tm.size]; omega⟩
theorem Ctx.at_ {l : List MTerm} {t : Tm} (ht : IsT l t) : ∀ {fs : List Fr} {lo : Nat} {s : Tm}, Ctx t lo s fs → At l lo s
  | [], lo, s, ⟨h1, h2⟩ => by subst h1; subst h2; exact ht.at0
  | f :: fs, lo, s, ⟨ho, h⟩ => by
    have h1 := Ctx.at_ ht h
    cases f <;> simp only [Fr.plug, Fr.off, Nat.sub_zero] at h1 ho
    case catL b => exact ((At.bin rfl rfl).1 h1).1
    case altL b => exact ((At.bin rfl rfl).1 h1).1
    case catR a =>
      have := ((At.bin rfl rfl).1 h1).2.1
      rwa [show lo - a.size + a.size = lo from by omega] at this
    case altR a =>
      have := ((At.bin rfl rfl).1 h1).2.1
      rwa [show lo - a.size + a.size = lo from by omega] at this
    all_goals exact ((At.un rfl rfl).1 h1).1
/-- A place: its Leaf, and what stands around it. -/
structure IsPlace (l : List MTerm) (t : Tm) (p q : Nat) (S : List Int) (fs : List Fr) : Prop where
  ctx : Ctx t q (.leaf S) fs
  num : leavesN l q = p
  get : (leavesL l l.length)[p]? = some (q : Int)
theorem place_of {l : List MTerm} {t : Tm} (ht : IsT l t) {p : Nat} (hp : p < leavesN l l.length) : ∃ q S fs, IsPlace l t p q S fs := by
  obtain ⟨q, h1, h2, h3, h4⟩ := leavesL_get l l.length p hp
  obtain ⟨lo, s, fs, hx, hs⟩ := Ctx.down (t := t) (s := t) (lo := 0) (fs := []) ⟨rfl, rfl⟩ q (Nat.zero_le _) (by rw [ht.len] at h1; omega)
  have hat := hx.at_ ht
  have hg := hat.gt_top
  rw [hs] at hg
  cases s with
  | leaf S =>
    simp only [Tm.top, Tm.size, Nat.add_sub_cancel] at hs
    subst hs
    exact ⟨lo, S, fs, hx, h4, h2⟩
  | _ => rw [hg] at h3; simp [Tm.node] at h3
theorem leavesN_all {l : List MTerm} {t : Tm} (ht : IsT l t) : leavesN l l.length = t.leaves := by
  have := leavesN_at ht.at0
  rw [Nat.zero_add, ← ht.len] at this
  simpa [leavesN] using this

/-! What comes out of a climb. -/
def HopOk (n : Nat) (h : MHop) : Prop := 0 ≤ h.To ∧ h.To < n ∧ h.Steps.length ≤ 2000000
theorem Tm.into_ok (s : Tm) : ∀ (lo p : Nat) (ahead : List Int), s.size ≤ 400 → ahead.length + 1000 * s.size ≤ 2000000 → ∀ h ∈ s.into lo p ahead, (p : Int) ≤ h.To ∧ h.To < ((p + s.leaves : Nat) : Int) ∧ h.Steps.length ≤ 2000000 := by
  induction s with
  | eps => intro lo p ahead _ _ h hh; simp [Tm.into] at hh
  | leaf s => intro lo p ahead _ ho h hh; simp only [Tm.into, List.mem_singleton] at hh; subst hh; simp only [Tm.leaves, Tm.size] at *; refine ⟨by simp, by simp; omega, by simp; omega⟩
  | cat a b iha ihb =>
    intro lo p ahead hs ho h hh
    have sa := a.steps_le lo
    simp only [Tm.into, Tm.size, Tm.leaves, List.mem_append] at *
    rcases hh with hh | hh
    · have := iha lo p _ (by omega) (by simp; omega) h hh; refine ⟨by omega, by omega, this.2.2⟩
    · split at hh
      · have := ihb (lo + a.size) (p + a.leaves) _ (by omega) (by simp; omega) h hh; refine ⟨by omega, by omega, this.2.2⟩
      · simp at hh
  | alt a b iha ihb =>
    intro lo p ahead hs ho h hh
    simp only [Tm.into, Tm.size, Tm.leaves, List.mem_append] at *
    rcases hh with hh | hh
    · have := iha lo p _ (by omega) (by simp; omega) h hh; refine ⟨by omega, by omega, this.2.2⟩
    · have := ihb (lo + a.size) (p + a.leaves) _ (by omega) (by simp; omega) h hh; refine ⟨by omega, by omega, this.2.2⟩
  | star a iha | maybe a iha | group _ a iha | iter a iha =>
    intro lo p ahead hs ho h hh
    simp only [Tm.into, Tm.size, Tm.leaves] at *
    exact iha lo p _ (by omega) (by simp; omega) h hh
/-- Ways, each to a place of its own. -/
structure Ways (n : Nat) (out : List MHop) : Prop where
  ok : ∀ h ∈ out, HopOk n h
  dist : out.Pairwise fun a b => a.To ≠ b.To
theorem turnsF_ways {n : Nat} (d : Int) : ∀ (r out : List MHop), Ways n out → (∀ h ∈ r, HopOk n h) → Ways n (turnsF d out r)
  | [], out, h, _ => h
  | x :: r, out, h, hr => by
    simp only [turnsF]
    refine turnsF_ways d r _ ?_ (fun y hy => hr y (by simp [hy]))
    split
    · exact h
    · rename_i hc
      have hx := hr x (by simp)
      refine ⟨fun y hy => ?_, ?_⟩
      · rcases List.mem_append.1 hy with hy | hy
        · exact h.ok y hy
        · simp only [List.mem_singleton] at hy; subst hy; exact hx
      · refine List.pairwise_append.2 ⟨h.dist, by simp, fun a ha b hb => ?_⟩
        simp only [List.mem_singleton] at hb
        subst hb
        intro e
        exact hc (List.any_eq_true.2 ⟨a, ha, by simpa using e⟩)
theorem climbF_ways {l : List MTerm} {t : Tm} (ht : IsT l t) : ∀ (fs : List Fr) (lo : Nat) (s : Tm) (st : List Int) (out : List MHop), Ctx t lo s fs → Ways t.leaves out → st.length + 1000 * fs.length ≤ 500000 →
    Ways t.leaves (climbF lo (leavesN l lo) s st out fs).1 ∧ (climbF lo (leavesN l lo) s st out fs).2.1.length ≤ 500000
  | [], lo, s, st, out, hx, hw, hl => ⟨hw, by simp only [climbF]; simpa using hl⟩
  | f :: fs, lo, s, st, out, hx, hw, hl => by
    have hpar := hx.2.at_ ht
    have hlen := hpar.len
    have h400 := ht.le; have hln := ht.len
    have hmono := leavesN_mono l hlen
    rw [leavesN_at hpar, leavesN_all ht] at hmono
    have hlv : leavesN l (lo - f.off) = leavesN l lo - f.lvs := by
      cases f <;> simp only [Fr.plug, Fr.off, Fr.lvs, Nat.sub_zero] at hpar ⊢
      case catR a =>
        have h0 := hx.1; simp only [Fr.off] at h0
        have := leavesN_at ((At.bin rfl rfl).1 hpar).1
        rw [show lo - a.size + a.size = lo from by omega] at this; omega
      case altR a =>
        have h0 := hx.1; simp only [Fr.off] at h0
        have := leavesN_at ((At.bin rfl rfl).1 hpar).1
        rw [show lo - a.size + a.size = lo from by omega] at this; omega
    simp only [List.length_cons] at hl
    cases f with
    | catL b =>
      simp only [Fr.plug, Fr.off, Nat.sub_zero, Tm.leaves, Tm.size] at hpar hmono hlen
      have hbs := b.steps_le (lo + s.size)
      have hw' := turnsF_ways (n := t.leaves) ((fs.length + 1 : Nat) : Int) (b.into (lo + s.size) (leavesN l lo + s.leaves) st) out hw (fun h hh => by
        have := b.into_ok (lo + s.size) (leavesN l lo + s.leaves) st (by omega) (by omega) h hh
        exact ⟨by omega, by omega, this.2.2⟩)
      simp only [climbF]
      split
      · exact climbF_ways ht fs lo (.cat s b) _ _ hx.2 hw' (by simp; omega)
      · exact ⟨hw', by simp⟩
    | star =>
      simp only [Fr.plug, Fr.off, Nat.sub_zero, Tm.leaves, Tm.size] at hpar hmono hlen
      have hw' := turnsF_ways (n := t.leaves) ((fs.length + 1 : Nat) : Int) (s.into lo (leavesN l lo) st) out hw (fun h hh => by
        have := s.into_ok lo (leavesN l lo) st (by omega) (by omega) h hh
        exact ⟨by omega, by omega, this.2.2⟩)
      simp only [climbF]
      exact climbF_ways ht fs lo (.star s) _ _ hx.2 hw' (by simp; omega)
    | catR a =>
      have := climbF_ways ht fs (lo - (Fr.catR a).off) ((Fr.catR a).plug s) (st ++ [cls (((Fr.catR a).plug s).top (lo - (Fr.catR a).off))]) out hx.2 hw (by simp; omega)
      rw [hlv] at this; exact this
    | altR a =>
      have := climbF_ways ht fs (lo - (Fr.altR a).off) ((Fr.altR a).plug s) (st ++ [cls (((Fr.altR a).plug s).top (lo - (Fr.altR a).off))]) out hx.2 hw (by simp; omega)
      rw [hlv] at this; exact this
    | altL b =>
      have := climbF_ways ht fs (lo - (Fr.altL b).off) ((Fr.altL b).plug s) (st ++ [cls (((Fr.altL b).plug s).top (lo - (Fr.altL b).off))]) out hx.2 hw (by simp; omega)
      rw [hlv] at this; exact this
    | maybe =>
      have := climbF_ways ht fs (lo - Fr.maybe.off) (Fr.maybe.plug s) (st ++ [cls ((Fr.maybe.plug s).top (lo - Fr.maybe.off))]) out hx.2 hw (by simp; omega)
      rw [hlv] at this; exact this
    | group n =>
      have := climbF_ways ht fs (lo - (Fr.group n).off) ((Fr.group n).plug s) (st ++ [cls (((Fr.group n).plug s).top (lo - (Fr.group n).off))]) out hx.2 hw (by simp; omega)
      rw [hlv] at this; exact this
    | iter =>
      have := climbF_ways ht fs (lo - Fr.iter.off) (Fr.iter.plug s) (st ++ [cls ((Fr.iter.plug s).top (lo - Fr.iter.off))]) out hx.2 hw (by simp; omega)
      rw [hlv] at this; exact this
theorem Ways.soOk {n : Nat} {out : List MHop} (h : Ways n out) (hn : n ≤ 1000) (hl : out.length ≤ 1000000) : soOk MHop.To out = true := by
  simp only [Go.V.soOk, Bool.and_eq_true, List.all_eq_true, decide_eq_true_eq]
  refine ⟨⟨by omega, fun x hx => ?_⟩, (distK_pair _ _).2 h.dist⟩
  have := h.ok x hx
  exact ⟨this.1, by have := this.2.1; omega⟩
theorem copyL_self {α : Type} (z : α) (ys : List α) : copyL (List.replicate ys.length z) ys = ys := by
  simp [copyL]
theorem m_own {fuel : Nat} (out : List MHop) (hl : out.length ≤ 1000000) (hf : out.length < fuel) (hs : ∀ h ∈ out, h.Steps.length ≤ 2000000) : m_follow_own fuel out = some out := by
  have key := iter_up (step := m_follow_own_l1 fuel out) (fun i => (out, (i : Int))) out out.length (fun i hi => .inl (by
    have hin : inb out (i : Int) = true := inb_true (by omega) (by omega)
    have hd1 : (i : Int) < (out.length : Int) := by omega
    have hg : gt out (i : Int) = out[i] := gt_get_nat (by simp [hi])
    have h1 := hs out[i] (List.getElem_mem _)
    have hmk : mkOk 8 (out[i].Steps.length : Int) = true := by simp [mkOk]; omega
    unfold m_follow_own_l1
    simp only [hd1, decide_true, if_true, hin, hg, hmk, Int.toNat_natCast, copyL_self, W_succ (show i < 9223372036854775807 by omega)]
    rw [show (⟨out[i].To, out[i].Turn, out[i].Steps⟩ : MHop) = out[i] from rfl]
    simp)) (by unfold m_follow_own_l1; simp) out.length 0 fuel (by omega) (by omega)
  unfold m_follow_own
  rw [show (0 : Int) = ((0 : Nat) : Int) from rfl, key]; rfl

/-! The document's order of ways. -/
def bucket (out : List MHop) : Nat → List MHop
  | 0 => []
  | n + 1 => bucket out n ++ out.filter fun h => h.To == (n : Int)
theorem bucket_perm (out : List MHop) : ∀ n, (bucket out n).Perm (out.filter fun h => decide (0 ≤ h.To) && decide (h.To < n))
  | 0 => by
    have : (out.filter fun h => decide (0 ≤ h.To) && decide (h.To < ((0 : Nat) : Int))) = [] := by
      rw [List.filter_eq_nil_iff]; intro x _; simp
    rw [this]; exact List.Perm.refl _
  | n + 1 => by
    have ih := bucket_perm out n
    simp only [bucket]
    refine (ih.append_right _).trans ?_
    have e : out.Perm (out.filter (fun h => decide (0 ≤ h.To) && decide (h.To < (n : Int))) ++ out.filter (fun h => !(decide (0 ≤ h.To) && decide (h.To < (n : Int))))) := (List.filter_append_perm _ _).symm
    have e2 := e.filter fun h => decide (0 ≤ h.To) && decide (h.To < ((n + 1 : Nat) : Int))
    refine List.Perm.trans ?_ e2.symm
    rw [List.filter_append, List.filter_filter, List.filter_filter]
    have a1 : (out.filter fun a => (decide (0 ≤ a.To) && decide (a.To < ((n + 1 : Nat) : Int))) && (decide (0 ≤ a.To) && decide (a.To < (n : Int)))) = out.filter fun h => decide (0 ≤ h.To) && decide (h.To < (n : Int)) := by
      apply List.filter_congr; intro x _; rw [Bool.eq_iff_iff]; simp; omega
    have a2 : (out.filter fun a => (decide (0 ≤ a.To) && decide (a.To < ((n + 1 : Nat) : Int))) && !(decide (0 ≤ a.To) && decide (a.To < (n : Int)))) = out.filter fun h => h.To == (n : Int) := by
      apply List.filter_congr; intro x _; rw [Bool.eq_iff_iff]; simp; omega
    rw [a1, a2]
theorem bucket_sorted (out : List MHop) : ∀ n, (bucket out n).Pairwise (fun a b => a.To ≤ b.To) ∧ ∀ h ∈ bucket out n, h.To < n
  | 0 => ⟨List.Pairwise.nil, by simp [bucket]⟩
  | n + 1 => by
    obtain ⟨h1, h2⟩ := bucket_sorted out n
    simp only [bucket]
    refine ⟨List.pairwise_append.2 ⟨h1, ?_, fun a ha b hb => ?_⟩, fun x hx => ?_⟩
    · refine List.Pairwise.imp_of_mem ?_ (List.pairwise_of_forall (R := fun _ _ => True) (fun _ _ => trivial))
      intro a b ha hb _
      simp only [List.mem_filter, beq_iff_eq] at ha hb
      rw [ha.2, hb.2]; exact Int.le_refl _
    · have := h2 a ha
      simp only [List.mem_filter, beq_iff_eq] at hb
      omega
    · rcases List.mem_append.1 hx with hx | hx
      · have := h2 x hx; omega
      · simp only [List.mem_filter, beq_iff_eq] at hx; omega
theorem bucket_sort {n : Nat} {out : List MHop} (h : Ways n out) : bucket out n = sortK MHop.To out := by
  refine sortK_of MHop.To ?_ (bucket_sorted out n).1 ((distK_pair _ _).2 h.dist)
  have := bucket_perm out n
  rwa [List.filter_eq_self.2 (fun x hx => by have := h.ok x hx; simp [this.1, this.2.1])] at this
theorem bucket_len (out : List MHop) : ∀ n, (bucket out n).length ≤ out.length := fun n => by
  rw [(bucket_perm out n).length_eq]; exact List.length_filter_le _ _
/-- The climb from a place. -/
def climbP (t : Tm) (p q : Nat) (S : List Int) (fs : List Fr) : List MHop × List Int × Bool := climbF q p (.leaf S) [cls q] [] fs
theorem m_of {l : List MTerm} (hw : ∀ x ∈ l, wfTerm x) {t : Tm} (ht : IsT l t) (hR : RightB l = true) {fuel : Nat} (hf : 401 < fuel) : ∃ c, m_follow_of fuel l = some (some c, true) ∧ ChartT c l t := by
  obtain ⟨u, e1, hu⟩ := m_Up ht hR hf
  obtain ⟨d, e2, hd⟩ := m_Deep ht hR hf
  refine ⟨⟨l, u, d, idxL l l.length, CanF l⟩, ?_, ⟨rfl, hu, hd, rfl, rfl⟩⟩
  unfold m_follow_of
  rw [m_Right l hf, e1, e2, m_Index hw hf, m_Can hw hf]
  simp [hR, IndexF]
theorem m_of_no {l : List MTerm} (hR : RightB l = false) {fuel : Nat} (hf : 401 < fuel) : m_follow_of fuel l = some (none, false) := by
  unfold m_follow_of
  rw [m_Right l hf]
  simp [hR]
theorem m_at {l : List MTerm} (hw : ∀ x ∈ l, wfTerm x) {t : Tm} (ht : IsT l t) (hR : RightB l = true) {fuel : Nat} (hf : 401 < fuel) {p q : Nat} {S : List Int} {fs : List Fr} (hp : IsPlace l t p q S fs) (hpl : p < leavesN l l.length) :
    ∃ c, m_follow_at fuel l (p : Int) = some (some c, (q : Int), true) ∧ ChartT c l t := by
  obtain ⟨c, e, hc⟩ := m_of hw ht hR hf
  refine ⟨c, ?_, hc⟩
  have hLF : LeavesF l = leavesL l l.length := by simp [LeavesF, hR]
  have h0 : ¬ ((p : Int) < 0) := by omega
  have h1 : ¬ ((p : Int) ≥ ((leavesL l l.length).length : Int)) := by rw [leavesL_len]; omega
  have hin : inb (leavesL l l.length) (p : Int) = true := inb_true (by omega) (by rw [leavesL_len]; omega)
  unfold m_follow_at
  rw [e, m_Leaves hw hf, hLF]
  simp [h0, h1, hin, gt_get_nat hp.get]
  omega
theorem m_at_no {l : List MTerm} (hw : ∀ x ∈ l, wfTerm x) {fuel : Nat} (hf : 401 < fuel) {p : Int} (hp : RightB l = false ∨ p < 0 ∨ (leavesN l l.length : Int) ≤ p) : m_follow_at fuel l p = some (none, 0, false) := by
  unfold m_follow_at
  cases hR : RightB l with
  | false => rw [m_of_no hR hf]; simp
  | true =>
    obtain ⟨t, ht⟩ := tree_of hw hR
    obtain ⟨c, e, hc⟩ := m_of hw ht hR hf
    have hLF : LeavesF l = leavesL l l.length := by simp [LeavesF, hR]
    have hp' := hp.resolve_left (by simp [hR])
    rw [e, m_Leaves hw hf, hLF]
    rcases hp' with h | h
    · simp [h]
    · have h1 : p ≥ ((leavesL l l.length).length : Int) := by rw [leavesL_len]; exact h
      by_cases h0 : p < 0
      · simp [h0]
      · simp [h0, h1]
theorem m_climb_at {l : List MTerm} (hw : ∀ x ∈ l, wfTerm x) {t : Tm} (ht : IsT l t) (hR : RightB l = true) {c : MFollowChart} (hc : ChartT c l t) {fuel : Nat} (hf : 1000001 < fuel) {p q : Nat} {S : List Int} {fs : List Fr} (hp : IsPlace l t p q S fs) :
    m_follow_chart_climb fuel c (q : Int) = some ((climbP t p q S fs).1, if (climbP t p q S fs).2.2 then (climbP t p q S fs).2.1 else []) := by
  have h400 := ht.le; have hln := ht.len
  have hsz := hp.ctx.size
  have hat := hp.ctx.at_ ht
  have hq : q < l.length := by have := hat.len; simp only [Tm.size] at this; omega
  have hiu : inb c.up (q : Int) = true := inb_true (by omega) (by rw [hc.up.len]; omega)
  obtain ⟨r, h1, h2, h3⟩ := m_climb hw ht hR hc hf (q : Int) fs q (.leaf S) [cls q] [] hp.ctx (by simp; simp only [Tm.size] at hsz; omega) (by simp; simp only [Tm.size] at hsz; omega) fuel (by simp only [Tm.size] at hsz; omega)
  unfold m_follow_chart_climb
  rw [hp.num] at h2
  simp only [Tm.top, Tm.size, Nat.add_sub_cancel] at h1
  simp only [hiu, if_true, W_opn (show q ≤ 1000000000 by omega), W_cls (show q ≤ 1000000000 by omega), h1, bind_some']
  unfold climbP
  rw [← h2]
  cases r with
  | inl y => obtain ⟨y1, y2⟩ := y; rfl
  | inr z => obtain ⟨z1, z2⟩ := z; rw [h3 z1 z2 rfl]; rfl
theorem r_climb_at {l : List MTerm} (hw : ∀ x ∈ l, wfTerm x) {t : Tm} (ht : IsT l t) (hR : RightB l = true) {fuel : Nat} (hf : 1000001 < fuel) {p q : Nat} {S : List Int} {fs : List Fr} (hp : IsPlace l t p q S fs) (hpl : p < leavesN l l.length) :
    m_ref17_climb fuel l (p : Int) = some ((climbP t p q S fs).1, if (climbP t p q S fs).2.2 then (⟨-1, 0, (climbP t p q S fs).2.1⟩, true) else (⟨0, 0, []⟩, false)) := by
  have h400 := ht.le; have hln := ht.len
  have hsz := hp.ctx.size
  have hat := hp.ctx.at_ ht
  have hq : q < l.length := by have := hat.len; simp only [Tm.size] at this; omega
  obtain ⟨u, e1, hu⟩ := r_Up ht hR (show 401 < fuel by omega)
  obtain ⟨d, e2, hd⟩ := r_Deep ht hR (show 401 < fuel by omega)
  have hLF : LeavesF l = leavesL l l.length := by simp [LeavesF, hR]
  have hIF : IndexF l = idxL l l.length := by simp [IndexF, hR]
  have hin : inb (leavesL l l.length) (p : Int) = true := inb_true (by omega) (by rw [leavesL_len]; omega)
  obtain ⟨r, h1, h2, h3⟩ := r_climb ht hR hu hd hf (leavesL l l.length) (p : Int) ⟨0, 0, []⟩ fs q (.leaf S) [cls q] [] hp.ctx (by simp; simp only [Tm.size] at hsz; omega) (by simp; simp only [Tm.size] at hsz; omega) fuel (by simp only [Tm.size] at hsz; omega)
  unfold m_ref17_climb
  rw [hp.num] at h2
  simp only [Tm.top, Tm.size, Nat.add_sub_cancel] at h1
  rw [e1, e2, r_Index hw (by omega) (by omega) (by omega), r_Can hw (by omega) (by omega) (by omega), r_Leaves hw (by omega) (by omega) (by omega), hLF, hIF]
  simp only [bind_some', hin, if_true, gt_get_nat hp.get, W_opn (show q ≤ 1000000000 by omega), W_cls (show q ≤ 1000000000 by omega), h1]
  unfold climbP
  rw [← h2]
  cases r with
  | inl y => obtain ⟨y1, y2, y3⟩ := y; rfl
  | inr z => obtain ⟨z1, z2, z3⟩ := z; obtain ⟨rfl, rfl⟩ := h3 z1 z2 z3 rfl; rfl
theorem climbP_ways {l : List MTerm} {t : Tm} (ht : IsT l t) {p q : Nat} {S : List Int} {fs : List Fr} (hp : IsPlace l t p q S fs) : Ways t.leaves (climbP t p q S fs).1 ∧ (climbP t p q S fs).2.1.length ≤ 500000 := by
  have hsz := hp.ctx.size
  have h400 := ht.le
  have := climbF_ways ht fs q (.leaf S) [cls q] [] hp.ctx ⟨by simp, List.Pairwise.nil⟩ (by simp; simp only [Tm.size] at hsz; omega)
  rw [hp.num] at this
  exact this
theorem climbF_len {l : List MTerm} {t : Tm} (ht : IsT l t) : ∀ (fs : List Fr) (lo p : Nat) (s : Tm) (st : List Int) (out : List MHop), Ctx t lo s fs → out.length + 1000 * fs.length ≤ 500000 → (climbF lo p s st out fs).1.length ≤ 500000
  | [], lo, p, s, st, out, hx, hl => by simp only [climbF]; simpa using hl
  | f :: fs, lo, p, s, st, out, hx, hl => by
    have hpar := hx.2.at_ ht
    have hlen := hpar.len
    have h400 := ht.le; have hln := ht.len
    simp only [List.length_cons] at hl
    cases f with
    | catL b =>
      simp only [Fr.plug, Fr.off, Nat.sub_zero, Tm.size] at hlen
      have h1 := turnsF_len ((fs.length + 1 : Nat) : Int) (b.into (lo + s.size) (p + s.leaves) st) out
      have h2 := b.into_len (lo + s.size) (p + s.leaves) st
      have h3 := b.leaves_le
      simp only [climbF]
      split
      · exact climbF_len ht fs lo p (.cat s b) _ _ hx.2 (by omega)
      · dsimp only; omega
    | star =>
      simp only [Fr.plug, Fr.off, Nat.sub_zero, Tm.size] at hlen
      have h1 := turnsF_len ((fs.length + 1 : Nat) : Int) (s.into lo p st) out
      have h2 := s.into_len lo p st
      have h3 := s.leaves_le
      simp only [climbF]
      exact climbF_len ht fs lo p (.star s) _ _ hx.2 (by omega)
    | catR a => exact climbF_len ht fs (lo - (Fr.catR a).off) (p - (Fr.catR a).lvs) ((Fr.catR a).plug s) _ out hx.2 (by omega)
    | altR a => exact climbF_len ht fs (lo - (Fr.altR a).off) (p - (Fr.altR a).lvs) ((Fr.altR a).plug s) _ out hx.2 (by omega)
    | altL b => exact climbF_len ht fs (lo - (Fr.altL b).off) (p - (Fr.altL b).lvs) ((Fr.altL b).plug s) _ out hx.2 (by omega)
    | maybe => exact climbF_len ht fs (lo - Fr.maybe.off) (p - Fr.maybe.lvs) (Fr.maybe.plug s) _ out hx.2 (by omega)
    | group n => exact climbF_len ht fs (lo - (Fr.group n).off) (p - (Fr.group n).lvs) ((Fr.group n).plug s) _ out hx.2 (by omega)
    | iter => exact climbF_len ht fs (lo - Fr.iter.off) (p - Fr.iter.lvs) (Fr.iter.plug s) _ out hx.2 (by omega)
theorem climbP_len {l : List MTerm} {t : Tm} (ht : IsT l t) {p q : Nat} {S : List Int} {fs : List Fr} (hp : IsPlace l t p q S fs) : (climbP t p q S fs).1.length ≤ 500000 := by
  have hsz := hp.ctx.size
  have h400 := ht.le
  exact climbF_len ht fs q p (.leaf S) [cls q] [] hp.ctx (by simp; simp only [Tm.size] at hsz; omega)

/-! From. -/
theorem m_From {l : List MTerm} (hw : ∀ x ∈ l, wfTerm x) {t : Tm} (ht : IsT l t) (hR : RightB l = true) {fuel : Nat} (hf : 1000001 < fuel) {p q : Nat} {S : List Int} {fs : List Fr} (hp : IsPlace l t p q S fs) (hpl : p < leavesN l l.length) :
    m_follow_From fuel l (p : Int) = some (sortK MHop.To (climbP t p q S fs).1) := by
  obtain ⟨c, e, hc⟩ := m_at hw ht hR (show 401 < fuel by omega) hp hpl
  obtain ⟨hways, _⟩ := climbP_ways ht hp
  have hl := climbP_len ht hp
  have hlv := ht.lv
  unfold m_follow_From
  rw [e]
  simp only [bind_some', m_climb_at hw ht hR hc hf hp, hways.soOk (by omega) (by omega), if_true]
  have hperm := sortK_perm MHop.To (climbP t p q S fs).1
  rw [m_own _ (by rw [sortK_len]; omega) (by rw [sortK_len]; omega) (fun h hh => (hways.ok h (hperm.mem_iff.1 hh)).2.2)]
  simp
theorem r_From {l : List MTerm} (hw : ∀ x ∈ l, wfTerm x) {t : Tm} (ht : IsT l t) (hR : RightB l = true) {fuel : Nat} (hf : 1000001 < fuel) {p q : Nat} {S : List Int} {fs : List Fr} (hp : IsPlace l t p q S fs) (hpl : p < leavesN l l.length) :
    m_ref17_From fuel l (p : Int) = some (sortK MHop.To (climbP t p q S fs).1) := by
  obtain ⟨hways, _⟩ := climbP_ways ht hp
  have hl := climbP_len ht hp
  have hlv := ht.lv; have h400 := ht.le; have hln := ht.len
  have hla := leavesN_all ht
  have hLF : LeavesF l = leavesL l l.length := by simp [LeavesF, hR]
  have hrl := r_Leaves hw (show l.length * 64 ≤ 140737488351232 by omega) (show 401 < fuel by omega) (by omega)
  rw [hLF] at hrl
  have h0 : ¬ ((p : Int) < 0) := by omega
  have h1 : ¬ ((p : Int) ≥ ((leavesL l l.length).length : Int)) := by rw [leavesL_len]; omega
  unfold m_ref17_From
  simp only [h0, decide_false, Bool.false_eq_true, if_false, hrl, bind_some', h1, r_climb_at hw ht hR hf hp hpl]
  generalize hcl : (climbP t p q S fs).1 = out at *
  generalize hx3 : (out, (if (climbP t p q S fs).2.2 = true then ((⟨-1, 0, (climbP t p q S fs).2.1⟩ : MHop), true) else (⟨0, 0, []⟩, false))) = x3
  have hx1 : x3.1 = out := by rw [← hx3]
  have inner : ∀ (r : Nat) (x4 acc : List MHop), acc.length + out.length ≤ 1000000 → iter (m_ref17_From_l2 fuel l x3 x4 (r : Int)) fuel (acc, 0) = some (acc ++ out.filter fun h => h.To == (r : Int)) := by
    intro r x4 acc hacc
    have := iter_up (step := m_ref17_From_l2 fuel l x3 x4 (r : Int)) (fun i => (acc ++ (out.take i).filter (fun h => h.To == (r : Int)), (i : Int))) (acc ++ out.filter fun h => h.To == (r : Int)) out.length (fun i hi => .inl (by
      have hin : inb out (i : Int) = true := inb_true (by omega) (by omega)
      have hd1 : (i : Int) < (out.length : Int) := by omega
      have hg : gt out (i : Int) = out[i] := gt_get_nat (by simp [hi])
      have hle : ((out.take i).filter (fun h => h.To == (r : Int))).length ≤ i := Nat.le_trans (List.length_filter_le _ _) (by simp; omega)
      have hap : apOk 40 (acc ++ (out.take i).filter (fun h => h.To == (r : Int))) [out[i]] = true := apOk_true (by simp; omega)
      have htk : out.take (i + 1) = out.take i ++ [out[i]] := List.take_succ_eq_append_getElem hi
      unfold m_ref17_From_l2
      simp only [hx1, hd1, decide_true, if_true, hin, hg, hap, W_succ (show i < 9223372036854775807 by omega), htk, List.filter_append]
      by_cases c : (out[i].To == (r : Int)) = true
      · simp [c]
      · simp [c])) (by unfold m_ref17_From_l2; simp [hx1]) out.length 0 fuel (by omega) (by omega)
    simpa using this
  have outer := iter_up (step := m_ref17_From_l1 fuel l x3) (fun r => (bucket out r, (r : Int))) (bucket out t.leaves) t.leaves (fun r hr => .inl (by
    have hd1 : (r : Int) < ((leavesL l l.length).length : Int) := by rw [leavesL_len, hla]; omega
    unfold m_ref17_From_l1
    have := bucket_len out r
    simp only [hrl, bind_some', hd1, decide_true, if_true, inner r (bucket out r) (bucket out r) (by omega), W_succ (show r < 9223372036854775807 by omega)]
    rfl)) (by unfold m_ref17_From_l1; simp [hrl, leavesL_len, hla]) t.leaves 0 fuel (by omega) (by omega)
  simp only [bucket] at outer
  rw [show (([] : List MHop), (0 : Int)) = ([], ((0 : Nat) : Int)) from rfl, outer, bucket_sort hways]
  rfl
theorem m_From_no {l : List MTerm} (hw : ∀ x ∈ l, wfTerm x) {fuel : Nat} (hf : 401 < fuel) {p : Int} (hp : RightB l = false ∨ p < 0 ∨ (leavesN l l.length : Int) ≤ p) : m_follow_From fuel l p = some [] := by
  unfold m_follow_From
  rw [m_at_no hw hf hp]; simp
theorem r_From_no {l : List MTerm} (hw : ∀ x ∈ l, wfTerm x) (hl : l.length * 64 ≤ 140737488351232) {fuel : Nat} (hf : 401 < fuel) (hf2 : l.length + 1 < fuel) {p : Int} (hp : RightB l = false ∨ p < 0 ∨ (leavesN l l.length : Int) ≤ p) : m_ref17_From fuel l p = some [] := by
  unfold m_ref17_From
  by_cases h0 : p < 0
  · simp [h0]
  · have h1 : p ≥ ((LeavesF l).length : Int) := by
      cases hR : RightB l with
      | false => simp [LeavesF, hR]; omega
      | true =>
        rw [show LeavesF l = leavesL l l.length by simp [LeavesF, hR], leavesL_len]
        rcases hp with h | h | h
        · simp [hR] at h
        · omega
        · exact h
    rw [r_Leaves hw hl hf hf2]
    simp [h0, h1]
/-! End. -/
def EndR (s : List Int) : MHop × Bool := if s.length = 0 then (⟨0, 0, []⟩, false) else (⟨-1, 0, s⟩, true)
theorem climbF_pos : ∀ (fs : List Fr) (lo p : Nat) (s : Tm) (st : List Int) (out : List MHop), st ≠ [] → (climbF lo p s st out fs).2.2 = true → (climbF lo p s st out fs).2.1 ≠ []
  | [], lo, p, s, st, out, hst, _ => by simpa only [climbF] using hst
  | f :: fs, lo, p, s, st, out, hst, h => by
    cases f with
    | catL b =>
      simp only [climbF] at h ⊢
      split at h
      · rename_i hb; rw [if_pos hb]; exact climbF_pos fs _ _ _ _ _ (by simp) h
      · simp at h
    | star => simp only [climbF] at h ⊢; exact climbF_pos fs _ _ _ _ _ (by simp) h
    | catR a => exact climbF_pos fs (lo - (Fr.catR a).off) (p - (Fr.catR a).lvs) ((Fr.catR a).plug s) _ out (by simp) h
    | altR a => exact climbF_pos fs (lo - (Fr.altR a).off) (p - (Fr.altR a).lvs) ((Fr.altR a).plug s) _ out (by simp) h
    | altL b => exact climbF_pos fs (lo - (Fr.altL b).off) (p - (Fr.altL b).lvs) ((Fr.altL b).plug s) _ out (by simp) h
    | maybe => exact climbF_pos fs (lo - Fr.maybe.off) (p - Fr.maybe.lvs) (Fr.maybe.plug s) _ out (by simp) h
    | group n => exact climbF_pos fs (lo - (Fr.group n).off) (p - (Fr.group n).lvs) ((Fr.group n).plug s) _ out (by simp) h
    | iter => exact climbF_pos fs (lo - Fr.iter.off) (p - Fr.iter.lvs) (Fr.iter.plug s) _ out (by simp) h
theorem m_End {l : List MTerm} (hw : ∀ x ∈ l, wfTerm x) {t : Tm} (ht : IsT l t) (hR : RightB l = true) {fuel : Nat} (hf : 1000001 < fuel) {p q : Nat} {S : List Int} {fs : List Fr} (hp : IsPlace l t p q S fs) (hpl : p < leavesN l l.length) :
    m_follow_End fuel l (p : Int) = some (EndR (if (climbP t p q S fs).2.2 then (climbP t p q S fs).2.1 else [])) := by
  obtain ⟨c, e, hc⟩ := m_at hw ht hR (show 401 < fuel by omega) hp hpl
  have h1 : ((p : Int) == -1) = false := by simp
  unfold m_follow_End EndR
  simp only [h1, Bool.false_eq_true, if_false, e, bind_some', if_true, m_climb_at hw ht hR hc hf hp]
  generalize (if (climbP t p q S fs).2.2 = true then (climbP t p q S fs).2.1 else []) = s
  by_cases hs : s.length = 0 <;> simp [hs]
theorem r_End {l : List MTerm} (hw : ∀ x ∈ l, wfTerm x) {t : Tm} (ht : IsT l t) (hR : RightB l = true) {fuel : Nat} (hf : 1000001 < fuel) {p q : Nat} {S : List Int} {fs : List Fr} (hp : IsPlace l t p q S fs) (hpl : p < leavesN l l.length) :
    m_ref17_End fuel l (p : Int) = some (EndR (if (climbP t p q S fs).2.2 then (climbP t p q S fs).2.1 else [])) := by
  have h1 : ((p : Int) == -1) = false := by simp
  have h2 : ¬ ((p : Int) < -1) := by omega
  have h400 := ht.le; have hln := ht.len
  have hLF : LeavesF l = leavesL l l.length := by simp [LeavesF, hR]
  have h3 : ¬ ((p : Int) ≥ ((leavesL l l.length).length : Int)) := by rw [leavesL_len]; omega
  unfold m_ref17_End EndR
  simp only [h2, decide_false, Bool.false_eq_true, if_false, r_Right l (show l.length * 64 ≤ 140737488351232 by omega) (show l.length + 1 < fuel by omega), hR, Bool.not_true, bind_some', r_Leaves hw (show l.length * 64 ≤ 140737488351232 by omega) (show 401 < fuel by omega) (by omega), hLF, h3, h1, r_climb_at hw ht hR hf hp hpl]
  by_cases hb : (climbP t p q S fs).2.2 = true
  · have := climbF_pos fs q p (.leaf S) [cls q] [] (by simp) hb
    have h5 : (climbP t p q S fs).2.1.length ≠ 0 := fun h => this (List.eq_nil_of_length_eq_zero h)
    simp [hb, h5]
  · simp [hb]
theorem m_End_begin {l : List MTerm} (hw : ∀ x ∈ l, wfTerm x) {t : Tm} (ht : IsT l t) (hR : RightB l = true) {fuel : Nat} (hf : 1000001 < fuel) : m_follow_End fuel l (-1) = some (EndR (if t.can then t.steps 0 else [])) ∧ m_ref17_End fuel l (-1) = some (EndR (if t.can then t.steps 0 else [])) := by
  have h400 := ht.le; have hln := ht.len; have hp := t.size_pos
  have hW : W ((l.length : Int) - 1) = (t.top 0 : Int) := by rw [W_id (by omega) (by omega)]; unfold Tm.top; omega
  have hLF : LeavesF l = leavesL l l.length := by simp [LeavesF, hR]
  have h3 : ¬ ((-1 : Int) ≥ ((leavesL l l.length).length : Int)) := by omega
  constructor
  · unfold m_follow_End EndR
    simp only [beq_self_eq_true, if_true, hW, m_Steps hw ht hR (show 401 < fuel by omega) ht.at0, bind_some']
    generalize (if t.can = true then t.steps 0 else []) = s
    by_cases hs : s.length = 0
    · simp [hs]
    · simp [hs]
  · unfold m_ref17_End EndR
    simp only [show ¬ ((-1 : Int) < -1) from by omega, decide_false, Bool.false_eq_true, if_false, r_Right l (show l.length * 64 ≤ 140737488351232 by omega) (show l.length + 1 < fuel by omega), hR, Bool.not_true, bind_some', r_Leaves hw (show l.length * 64 ≤ 140737488351232 by omega) (show 401 < fuel by omega) (by omega), hLF, h3, beq_self_eq_true, if_true, hW, r_Steps hw ht hR (show 401 < fuel by omega) ht.at0]
    generalize (if t.can = true then t.steps 0 else []) = s
    by_cases hs : s.length = 0
    · simp [hs]
    · simp [hs]
theorem m_Steps_no {l : List MTerm} (hw : ∀ x ∈ l, wfTerm x) (hR : RightB l = false) {fuel : Nat} (hf : 401 < fuel) (q : Int) : m_null_Steps fuel l q = some [] := by
  unfold m_null_Steps
  rw [m_Can hw hf, show CanF l = [] by simp [CanF, hR]]
  by_cases h : q < 0
  · simp [h]
  · have h2 : q ≥ 0 := by omega
    simp [h, h2]
theorem m_End_no {l : List MTerm} (hw : ∀ x ∈ l, wfTerm x) (hl : l.length * 64 ≤ 140737488351232) {fuel : Nat} (hf : 401 < fuel) (hf2 : l.length + 1 < fuel) {p : Int} (hp : RightB l = false ∨ p < -1 ∨ (leavesN l l.length : Int) ≤ p) : m_follow_End fuel l p = some (EndR []) ∧ m_ref17_End fuel l p = some (EndR []) := by
  constructor
  · unfold m_follow_End EndR
    by_cases h1 : p = -1
    · subst h1
      have hR : RightB l = false := by
        rcases hp with h | h | h
        · exact h
        · omega
        · omega
      simp [m_Steps_no hw hR hf]
    · have hp' : RightB l = false ∨ p < 0 ∨ (leavesN l l.length : Int) ≤ p := by
        rcases hp with h | h | h
        · exact .inl h
        · exact .inr (.inl (by omega))
        · exact .inr (.inr h)
      simp [h1, m_at_no hw hf hp']
  · unfold m_ref17_End EndR
    by_cases h1 : p < -1
    · simp [h1]
    · rw [r_Right l hl hf2]
      cases hR : RightB l with
      | false => simp [h1]
      | true =>
        have h2 : p ≥ ((LeavesF l).length : Int) := by
          rw [show LeavesF l = leavesL l l.length by simp [LeavesF, hR], leavesL_len]
          rcases hp with h | h | h
          · simp [hR] at h
          · omega
          · exact h
        simp [h1, r_Leaves hw hl hf hf2, h2]
/-! First. -/
theorem node_idx {l : List MTerm} {t : Tm} (ht : IsT l t) {q : Int} (h0 : 0 ≤ q) (h1 : q < l.length) : ∃ lo s, At l lo s ∧ (s.top lo : Int) = q := by
  obtain ⟨lo, s, h2, h3⟩ := ht.node (i := q.toNat) (by omega)
  exact ⟨lo, s, h2, by omega⟩
theorem m_First {l : List MTerm} (hw : ∀ x ∈ l, wfTerm x) {t : Tm} (ht : IsT l t) (hR : RightB l = true) {fuel : Nat} (hf : 1000001 < fuel) {lo : Nat} {s : Tm} (h : At l lo s) : m_follow_First fuel l (s.top lo : Int) = some (s.into lo (leavesN l lo) []) ∧ m_ref17_First fuel l (s.top lo : Int) = some (s.into lo (leavesN l lo) []) := by
  have h400 := ht.le; have hln := ht.len
  have htop := h.top_lt
  have hsl := h.len
  have h0 : ¬ ((s.top lo : Int) < 0) := by omega
  have h1 : ¬ ((s.top lo : Int) ≥ (l.length : Int)) := by omega
  have hil := s.into_len lo (leavesN l lo) []
  have hls := s.leaves_le
  constructor
  · obtain ⟨c, e, hc⟩ := m_of hw ht hR (show 401 < fuel by omega)
    unfold m_follow_First
    rw [e]
    simp only [Bool.not_true, Bool.false_eq_true, if_false, h0, decide_false, h1, bind_some', m_into hw ht hR hc (show 401 < fuel by omega) s lo h fuel [] [] (by omega) (by simp; omega) (by simp; omega), List.nil_append]
    rw [m_own _ (by omega) (by omega) (fun h' hh => (s.into_ok lo (leavesN l lo) [] (by omega) (by simp; omega) h' hh).2.2)]
    rfl
  · unfold m_ref17_First
    have hIF : IndexF l = idxL l l.length := by simp [IndexF, hR]
    rw [r_Right l (show l.length * 64 ≤ 140737488351232 by omega) (show l.length + 1 < fuel by omega), hR]
    simp only [Bool.not_true, Bool.false_eq_true, if_false, h0, decide_false, h1, bind_some', r_Index hw (show l.length * 64 ≤ 140737488351232 by omega) (show 401 < fuel by omega) (by omega), r_Can hw (show l.length * 64 ≤ 140737488351232 by omega) (show 401 < fuel by omega) (by omega), hIF, r_into ht hR (show 401 < fuel by omega) s lo h fuel [] (by omega) (by simp; omega)]
theorem m_First_no {l : List MTerm} (hw : ∀ x ∈ l, wfTerm x) (hl : l.length * 64 ≤ 140737488351232) {fuel : Nat} (hf : 401 < fuel) (hf2 : l.length + 1 < fuel) {q : Int} (hq : RightB l = false ∨ q < 0 ∨ (l.length : Int) ≤ q) : m_follow_First fuel l q = some [] ∧ m_ref17_First fuel l q = some [] := by
  constructor
  · unfold m_follow_First
    cases hR : RightB l with
    | false => rw [m_of_no hR hf]; simp
    | true =>
      obtain ⟨t, ht⟩ := tree_of hw hR
      obtain ⟨c, e, hc⟩ := m_of hw ht hR hf
      rw [e]
      rcases hq with h | h | h
      · simp [hR] at h
      · simp [h]
      · by_cases h0 : q < 0 <;> simp [h0, h]
  · unfold m_ref17_First
    rw [r_Right l hl hf2]
    cases hR : RightB l with
    | false => simp
    | true =>
      rcases hq with h | h | h
      · simp [hR] at h
      · simp [h]
      · by_cases h0 : q < 0 <;> simp [h0, h]
/-! Two ways, two lists of ways. -/
end Go.Proofs.Ytfhehbfifffipaa
