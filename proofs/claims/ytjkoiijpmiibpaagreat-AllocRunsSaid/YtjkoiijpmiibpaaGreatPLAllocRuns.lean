/- AllocRuns: a run of the program of any machine, byte by byte, is where the machine's car is, and has found what it has, within the work that is told. Its conditions: none. -/
import Derived.Test.YtjkoiijpmiibpaaGreatPCar2
import Derived.Test.YtjkoiijpmiibpaaGreatPMk1
import Derived.Test.YtjkoiijpmiibpaaGreatPAp4
import Derived.Test.YtjkoiijpmiibpaaGreatPSure28
import Derived.Test.YtjkoiijpmiibpaaGreatFAllocRuns
set_option autoImplicit false
namespace Go.Proofs.YtjkoiijpmiibpaaGreat
open Go.V Go.RowKit

/-- A run of the program is where the car is. -/
structure Like (d : MDfa) (n : Nat) (r : RS) (c : CS) : Prop where
  st : r.stand = c.state
  at_ : r.at_ = c.at_
  tags : r.tags = c.tags
  to : r.to = c.to
  regs : 0 ≤ c.state → ∀ k : Nat, k < c.regs.length → gt r.regs (gt (hA d c.state) (k : Int)) = gt c.regs (k : Int)
  work : r.work ≤ n * (1 + 2 * (manyL d + 1))
theorem like_acc {fuel : Nat} {d : MDfa} (hR : RightD d) {n : Nat} {r : RS} {c : CS} (hC : CInv d n c) (h : Like d n r c) : Like d n (accS (progL fuel d) r) (accC d c) := by
  have hst := h.st
  by_cases g : accD d c.state
  · have hq : c.state.toNat < d.States.length := by have := g.1; have := hC.st1; omega
    have e : ((c.state.toNat : Nat) : Int) = c.state := by have := g.1; omega
    have hp := prog_stand (fuel := fuel) hq
    rw [e] at hp
    have hacc : (gt (progL fuel d).Stands r.stand).Accept = (gt d.States c.state).Accept.map (atH d c.state) := by
      rw [hst, hp]; unfold standL; simp only [e]
    have g2 : accs (progL fuel d) r.stand := by
      refine ⟨by rw [hst]; exact g.1, ?_⟩
      rw [hacc, List.length_map]; exact g.2
    unfold accS accC
    rw [if_pos g2, if_pos g]
    refine ⟨h.st, h.at_, ?_, h.at_, h.regs, h.work⟩
    simp only
    rw [hacc, List.map_map]
    refine List.map_congr_left (fun v hv => ?_)
    obtain ⟨i, hi, rfl⟩ := mem_gt hv
    have h1 := (right_state hR g.1 hC.st1).2.2.2.2.1 i hi
    have hlen := hC.regs g.1
    have h2 := h.regs g.1
    have hat := h.at_
    simp only [Function.comp]
    generalize gt (gt d.States c.state).Accept (i : Int) = v at h1
    rcases h1 with rfl | rfl | h1
    · rfl
    · unfold valT valC atH; simp [hat]
    · have h3 := h2 v.toNat (by omega)
      rw [show ((v.toNat : Nat) : Int) = v by omega] at h3
      have hh := (hA_ok hR g.1 hC.st1)
      have hl := hh.len
      have h4 := hh.rng v.toNat (by unfold regsOf at hl; omega)
      rw [show ((v.toNat : Nat) : Int) = v by omega] at h4
      unfold valT valC atH
      rw [if_neg (show ¬ v < 0 by omega), if_neg (by omega), if_neg (by omega), if_neg (by omega), if_neg (by omega)]
      exact h3
  · have g2 : ¬ accs (progL fuel d) r.stand := by
      intro g2
      apply g
      have h0 : 0 ≤ c.state := by rw [← hst]; exact g2.1
      have hq : c.state.toNat < d.States.length := by have := hC.st1; omega
      have e : ((c.state.toNat : Nat) : Int) = c.state := by omega
      have hp := prog_stand (fuel := fuel) hq
      rw [e] at hp
      have := g2.2
      rw [hst, hp] at this
      unfold standL at this
      simp only [e, List.length_map] at this
      exact ⟨h0, this⟩
    unfold accS accC
    rw [if_neg g2, if_neg g]
    exact h
theorem like_go {fuel : Nat} (hf : 6000 < fuel) {d : MDfa} (hR : RightD d) (hS : SmallD d) {n : Nat} {r : RS} {c : CS} (hr : RInv (progL fuel d) n r) (hC : CInv d n c) (h : Like d n r c) {b : Int} (b0 : 0 ≤ b) (b1 : b < 256) : Like d (n + 1) (goS (progL fuel d) b r) (goC d b c) := by
  have hst := h.st
  have hm0 := (many_le hR hS).1
  have hwk := h.work
  have hmul : ((n + 1 : Nat) : Int) * (1 + 2 * (manyL d + 1)) = n * (1 + 2 * (manyL d + 1)) + (1 + 2 * (manyL d + 1)) := by rw [Int.natCast_add, Int.add_mul]; omega
  by_cases g : 0 ≤ c.state
  · have g2 : 0 ≤ r.stand := by rw [hst]; exact g
    have hq : c.state.toNat < d.States.length := by have := hC.st1; omega
    have e : ((c.state.toNat : Nat) : Int) = c.state := by omega
    have hp := prog_stand (fuel := fuel) hq
    rw [e] at hp
    obtain ⟨c0, c1, h3, h4⟩ := edgeC_ok hR hS hC g b0 b1
    have hcn : (gt d.Class b).toNat < (gt d.States c.state).Edges.length := by omega
    have ec : (((gt d.Class b).toNat : Nat) : Int) = gt d.Class b := by omega
    have hw := stand_way (fuel := fuel) (d := d) (q := c.state.toNat) (c := (gt d.Class b).toNat) (by rw [e]; exact hcn)
    rw [e, ec] at hw
    have hE : EdgeAt d c.state (edgeC d b c) := by
      have := edge_at hR hS g hC.st1 hcn
      rwa [ec] at this
    have hway : wayS (progL fuel d) b r = wayL fuel d c.state (edgeC d b c) := by
      unfold wayS
      rw [hst, hp]
      exact hw
    have hord := way_ord hR hf hE
    have hsm := (way_small hR hf hE).2
    unfold goS goC
    rw [if_pos g2, if_pos g, hway]
    refine ⟨rfl, by simp only; rw [h.at_], h.tags, h.to, fun h0 k hk => ?_, by simp only; rw [hmul]; omega⟩
    simp only at h0 hk ⊢
    rw [List.length_map] at hk
    have hrl : (r.regs.length : Int) = manyL d + 1 := hr.regs
    have hin : ∀ m ∈ onceH d c.state (edgeC d b c), inR r.regs.length m := fun m hm => by have := once_rng hR hE m hm; unfold inR; omega
    obtain ⟨e1, e2, e3⟩ := edge_src hE h0
    have hh := hA_ok hR h0 e1
    have h5 := hh.len
    have h6 := hh.rng k (by omega)
    have h7 := (hord.reg r.at_ r.regs hin (by omega)).2 (gt (hA d (edgeC d b c).To) (k : Int)) h6.1 (by omega) (by omega)
    have h8 := once_val hR hE h0 (now := r.at_) hrl hk
    have h9 : gt ((edgeC d b c).Src.map (valC c.regs c.at_)) (k : Int) = valC c.regs c.at_ (gt (edgeC d b c).Src (k : Int)) := by
      rw [gtE (by simpa using hk), gtE hk]; simp
    rw [h9]
    refine (h7.trans h8).trans ?_
    have hfr := e3 k hk
    generalize gt (edgeC d b c).Src (k : Int) = v at hfr
    rcases hfr with rfl | ⟨v0, v1⟩
    · unfold valE valC atH; simp [h.at_]
    · have hlen := hC.regs g
      have h10 := h.regs g v.toNat (by unfold regsOf at v1; omega)
      rw [show ((v.toNat : Nat) : Int) = v by omega] at h10
      have hh2 := hA_ok hR g hC.st1
      have hl2 := hh2.len
      have h11 := hh2.rng v.toNat (by omega)
      rw [show ((v.toNat : Nat) : Int) = v by omega] at h11
      unfold valE valC atH
      rw [if_neg (show ¬ v < 0 by omega), if_neg (by omega), if_neg (by omega), if_neg (by omega)]
      exact h10
  · have g2 : ¬ 0 ≤ r.stand := by rw [hst]; exact g
    unfold goS goC
    rw [if_neg g2, if_neg g]
    exact ⟨h.st, by simp only; rw [h.at_], h.tags, h.to, fun h0 => absurd h0 g, by simp only; rw [hmul]; omega⟩
theorem byte_rng {x : Int} (h : inK .u8 x) : 0 ≤ x ∧ x < 256 := by
  obtain ⟨h1, h2⟩ := h
  rw [show IntKind.min .u8 = 0 from by decide] at h1
  rw [show IntKind.max .u8 = 255 from by decide] at h2
  omega
def runR (p : MProg) (w : List Int) : Nat → RS
  | 0 => beginS p
  | i + 1 => if i < w.length then feedS p (gt w (i : Int)) (runR p w i) else runR p w i
def runC (d : MDfa) (w : List Int) : Nat → CS
  | 0 => beginC d
  | i + 1 => if i < w.length then feedC d (gt w (i : Int)) (runC d w i) else runC d w i
theorem run_like {fuel : Nat} (hf : 6000 < fuel) {d : MDfa} (hR : RightD d) (hS : SmallD d) {w : List Int} (hw : ∀ x ∈ w, inK .u8 x) : ∀ i, i ≤ w.length → RInv (progL fuel d) i (runR (progL fuel d) w i) ∧ CInv d i (runC d w i) ∧ Like d i (runR (progL fuel d) w i) (runC d w i)
  | 0, _ => by
    have hP := prog_right hR hS hf
    refine ⟨begin_inv hP, beginC_inv hR, like_acc hR (begin0_inv hR) ⟨rfl, rfl, rfl, rfl, fun _ k hk => by simp at hk, by simp⟩⟩
  | i + 1, h => by
    have hP := prog_right hR hS hf
    have hZ := prog_size hR hS hf
    obtain ⟨h1, h2, h3⟩ := run_like hf hR hS hw i (by omega)
    have hb := byte_rng (hw (gt w (i : Int)) (by rw [gtE (show i < w.length by omega)]; exact List.getElem_mem _))
    unfold runR runC
    rw [if_pos (by omega), if_pos (by omega)]
    exact ⟨feed_inv hP hZ h1 hb.1 hb.2, feedC_inv hR hS h2 hb.1 hb.2, like_acc hR (goC_inv hR hS h2 hb.1 hb.2) (like_go hf hR hS h1 h2 h3 hb.1 hb.2)⟩
theorem lawAllocRuns : AllocRunsLaw := by
  intro d w _ hw _
  refine ⟨10000000000000, ?_⟩
  generalize hfu : (10000000000000 : Nat) = fuel
  have hsure : m_law28_sure fuel = some true := hfu ▸ sure28
  have hf : 6000 < fuel := by omega
  unfold m_law28_AllocRuns
  rw [m_small24 (d := d) (by omega)]
  by_cases hS : SmallD d
  case neg => simp only [hS, decide_false, Bool.not_false, if_true, bind_some', hsure]
  by_cases hL : (w.length : Int) > 30
  · simp only [hS, hL, decide_true, Bool.not_true, Bool.false_eq_true, if_false, if_true, bind_some', hsure]
  by_cases hR : RightD d
  case neg => simp only [hS, hL, decide_true, decide_false, Bool.not_true, Bool.not_false, Bool.false_eq_true, if_false, if_true, bind_some', m_refRight24 hS (show 1000 < fuel by omega), hR, hsure]
  have hP := prog_right hR hS hf
  have hZ := prog_size hR hS hf
  have hm := many_le hR hS
  simp only [hS, hL, hR, decide_true, decide_false, Bool.not_true, Bool.false_eq_true, if_false, bind_some', m_refRight24 hS (show 1000 < fuel by omega), m_make hR hS hf, m_startA hP hZ (show 2000 < fuel by omega), m_newC hR hS (show 2000 < fuel by omega), m_newD hR hS (show 2000 < fuel by omega), bne_self_eq_false]
  have hloop : ∀ (x5 : MProg × Int) (hx : x5 = (progL fuel d, 0)) (o1 : MAllocRun) (o3 : MDriveCar) (x12 : MGimletref25Car), iter (m_law28_AllocRuns_l1 fuel w x5 o1 o3 x12) fuel (toA (progL fuel d) (beginS (progL fuel d)), toC d (beginC d), toD d (beginC d), 0) = some (.inl ()) := by
    intro x5 hx o1 o3 x12
    refine iter_end (body := m_law28_AllocRuns_l1 fuel w x5 o1 o3 x12) (fu := fuel) (w.length + 1) (fun i => (toA (progL fuel d) (runR (progL fuel d) w i), toC d (runC d w i), toD d (runC d w i), (i : Int))) (.inl ()) (fun i hi => ?_) (by
      have hd : ¬ ((w.length + 1 : Nat) : Int) ≤ (w.length : Int) := by omega
      unfold m_law28_AllocRuns_l1
      simp only [hd, decide_false, Bool.false_eq_true, if_false]) (by omega)
    obtain ⟨hr, hc, hlk⟩ := run_like hf hR hS hw i (by omega)
    have hd : (i : Int) ≤ (w.length : Int) := by omega
    have hsp : m_ref14_Spanned fuel (if (runC d w i).tags.length = 0 then (([], false) : List MSpan × Bool) else (spansL (runC d w i).tags (runC d w i).to, true)).1 (if (runC d w i).tags.length = 0 then (([], false) : List MSpan × Bool) else (spansL (runC d w i).tags (runC d w i).to, true)).1 = some true := by
      split
      · exact m_spanned (by simp) (by omega)
      · have := hc.tags
        have := hR.2.1
        exact m_spanned (spansL_len _ _ (by omega)) (by omega)
    have hfA := m_foundA hP hr (fuel := fuel) (by omega)
    rw [hlk.tags, hlk.to] at hfA
    have hat : ((toA (progL fuel d) (runR (progL fuel d) w i)).at_ != (i : Int)) = false := by
      have := hr.at_
      show ((runR (progL fuel d) w i).at_ != (i : Int)) = false
      simp [this]
    have hst : ((toA (progL fuel d) (runR (progL fuel d) w i)).stand != (toD d (runC d w i)).State) = false := by
      show ((runR (progL fuel d) w i).stand != (runC d w i).state) = false
      simp [hlk.st]
    have hW : W ((i : Int) * W (1 + W (2 * x5.1.Regs))) = (i : Int) * (1 + 2 * (manyL d + 1)) := by
      rw [hx]
      show W ((i : Int) * W (1 + W (2 * (manyL d + 1)))) = _
      rw [W_id (n := 2 * (manyL d + 1)) (by omega) (by omega), W_id (n := 1 + 2 * (manyL d + 1)) (by omega) (by omega)]
      have h1 : (i : Int) * (1 + 2 * (manyL d + 1)) ≤ 31 * (1 + 2 * (manyL d + 1)) := Int.mul_le_mul_of_nonneg_right (by omega) (by omega)
      have h2 : 0 ≤ (i : Int) * (1 + 2 * (manyL d + 1)) := Int.mul_nonneg (by omega) (by omega)
      exact W_id (by omega) (by omega)
    have hw1 : ¬ (toA (progL fuel d) (runR (progL fuel d) w i)).work > (i : Int) * (1 + 2 * (manyL d + 1)) := by
      have := hlk.work
      show ¬ (runR (progL fuel d) w i).work > _
      omega
    have hw2 : ¬ (toA (progL fuel d) (runR (progL fuel d) w i)).work < (i : Int) := by
      have := hr.w0
      show ¬ (runR (progL fuel d) w i).work < _
      omega
    show m_law28_AllocRuns_l1 fuel w x5 o1 o3 x12 _ = _
    unfold m_law28_AllocRuns_l1 m_alloc_Run_At m_alloc_Run_Stand m_alloc_Run_Work
    simp only [hd, decide_true, if_true, hfA, m_foundC hR hc (show 2000 < fuel by omega), m_foundD hR hc (show 2000 < fuel by omega), bind_some', hsp, Bool.not_true, Bool.false_eq_true, if_false, bne_self_eq_false, hat, hst, hW, hw1, hw2, decide_false, W_succ (show i < 9223372036854775807 by omega)]
    by_cases c : i < w.length
    · have hcc : (i : Int) < (w.length : Int) := by omega
      have hin : inb w (i : Int) = true := inb_true (by omega) hcc
      have hb := byte_rng (hw (gt w (i : Int)) (by rw [gtE c]; exact List.getElem_mem _))
      have e1 : runR (progL fuel d) w (i + 1) = feedS (progL fuel d) (gt w (i : Int)) (runR (progL fuel d) w i) := by rw [runR, if_pos c]
      have e2 : runC d w (i + 1) = feedC d (gt w (i : Int)) (runC d w i) := by rw [runC, if_pos c]
      rw [e1, e2]
      simp only [hcc, decide_true, if_true, hin, m_feedA hP hZ hr (show i ≤ 1000 by omega) hb.1 hb.2 (show 2000 < fuel by omega), m_feedC hR hS hc (show i ≤ 1000 by omega) hb.1 hb.2 (show 2000 < fuel by omega), m_feedD hR hS hc (show i ≤ 1000 by omega) hb.1 hb.2 (show 2000 < fuel by omega), bind_some']
    · have hcc : ¬ (i : Int) < (w.length : Int) := by omega
      have e1 : runR (progL fuel d) w (i + 1) = runR (progL fuel d) w i := by rw [runR, if_neg c]
      have e2 : runC d w (i + 1) = runC d w i := by rw [runC, if_neg c]
      rw [e1, e2]
      simp only [hcc, decide_false, Bool.false_eq_true, if_false, bind_some']
  simp only [hloop _ rfl, bind_some', hsure]
theorem allocRuns_holds : Rows.AllocRunsSaid := frameAllocRuns lawAllocRuns
end Go.Proofs.YtjkoiijpmiibpaaGreat
