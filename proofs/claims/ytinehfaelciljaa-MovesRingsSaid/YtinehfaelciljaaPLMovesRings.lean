/- MovesRings: a ring of moves takes one move more than it has, a row of moves takes as many as it has. Its conditions: none. -/
import Derived.Test.YtinehfaelciljaaPLMovesOrder
import Derived.Test.YtinehfaelciljaaFMovesRings
set_option autoImplicit false
namespace Go.Proofs.Ytinehfaelciljaa
open Go.V Go.RowKit

def rM (a k i : Nat) : MMove := ⟨((a + i : Nat) : Int), ((a + (i + 1) % k : Nat) : Int)⟩
def sM (a k i : Nat) : MMove := ⟨((a + i : Nat) : Int), ((a + k + i : Nat) : Int)⟩
def listM (g : Nat → MMove) (k : Nat) : List MMove := (List.range k).map g
theorem list_len (g : Nat → MMove) (k : Nat) : (listM g k).length = k := by simp [listM]
theorem list_snoc (g : Nat → MMove) (k : Nat) : listM g (k + 1) = listM g k ++ [g k] := by simp [listM, List.range_succ]
theorem list_gt {g : Nat → MMove} {k i : Nat} (h : i < k) : gt (listM g k) (i : Int) = g i := by
  rw [gtE (by rw [list_len]; exact h)]; simp [listM]
theorem list_mem {g : Nat → MMove} {k : Nat} {m : MMove} : m ∈ listM g k ↔ ∃ i, i < k ∧ g i = m := by
  unfold listM; rw [List.mem_map]; simp
theorem list_right {g : Nat → MMove} {a k : Nat} (hto : ∀ i, (g i).To = ((a + i : Nat) : Int)) (hfr : ∀ i, 0 ≤ (g i).From) : RightM (listM g k) := by
  intro i hi h
  rw [list_len] at hi
  unfold badM at h
  rw [list_gt hi] at h
  rcases h with h | h | ⟨j, h1, h2⟩
  · rw [hto] at h; omega
  · have := hfr i; omega
  · rw [list_gt (show j < k by omega), hto, hto] at h2; omega
theorem m_leastM {ms : List MMove} {fuel : Nat} (hl : ms.length ≤ 60) (hf : 1000 < fuel) (hR : RightM ms) (hsp : ∀ m ∈ ms, m.To ≠ -2 ∧ m.From ≠ -2) : m_moves_Least fuel ms = some ((((keyS ms).length + rings (fS ms) (keyS ms) (ms.length + 1) : Nat) : Int), 0) := by
  obtain ⟨o, ho, hI, he⟩ := order_ends (fuel := fuel) 0 (fun _ => 0) hl hR hsp (by omega) hf
  have hlen := hI.len
  rw [he, List.length_nil, Nat.add_zero] at hlen
  unfold m_moves_Least
  simp only [m_once (ms := ms) (show ms.length ≤ 1000 by omega) hf, bind_some', hR, decide_true, Bool.not_true, Bool.false_eq_true, if_false, m_ask (sp := -2) (right_nd hR) (show ms.length ≤ 1000 by omega) hf, ho, hlen]

/-! A ring. -/
theorem r_right (a k : Nat) : RightM (listM (rM a k) k) := list_right (a := a) (fun i => rfl) (fun i => by unfold rM; simp only; omega)
theorem s_right (a k : Nat) : RightM (listM (sM a k) k) := list_right (a := a) (fun i => rfl) (fun i => by unfold sM; simp only; omega)
theorem r_f {a k i : Nat} (h : i < k) : fS (listM (rM a k) k) ((a + i : Nat) : Int) = ((a + (i + 1) % k : Nat) : Int) :=
  fS_mem (right_nd (r_right a k)) (list_mem.2 ⟨i, h, rfl⟩)
theorem r_it {a k : Nat} (hk : 0 < k) (j : Nat) : it (fS (listM (rM a k) k)) j (a : Int) = ((a + j % k : Nat) : Int) := by
  induction j with
  | zero => simp [it]
  | succ j ih => rw [it, ih, r_f (Nat.mod_lt j hk), Nat.mod_add_mod]
theorem r_nt {a k i : Nat} (hk : 2 ≤ k) (h : i < k) : ntM (rM a k i) = true := by
  unfold ntM rM
  rw [bne_iff_ne]
  intro e
  simp only at e
  have e2 : i = (i + 1) % k := by omega
  by_cases c : i + 1 < k
  · rw [Nat.mod_eq_of_lt c] at e2; omega
  · have : i + 1 = k := by omega
    rw [this, Nat.mod_self] at e2; omega
theorem r_keys {a k : Nat} (hk : 2 ≤ k) : (keyS (listM (rM a k) k)).length = k := by
  rw [keyS_len]
  have := (List.countP_eq_length (p := ntM) (l := listM (rM a k) k)).2 (fun m hm => by obtain ⟨i, h1, rfl⟩ := list_mem.1 hm; exact r_nt hk h1)
  rw [this, list_len]
theorem r_keys0 {a k : Nat} (hk : k < 2) : (keyS (listM (rM a k) k)).length = 0 := by
  rw [keyS_len, List.countP_eq_zero]
  intro m hm
  obtain ⟨i, h1, rfl⟩ := list_mem.1 hm
  have : k = 1 := by omega
  subst this
  have : i = 0 := by omega
  subst this
  simp [ntM, rM]
open Classical in
theorem r_rings {a k : Nat} (hk : 2 ≤ k) : rings (fS (listM (rM a k) k)) (keyS (listM (rM a k) k)) (k + 1) = 1 := by
  have S := set_of (sp := -2) (r_right a k) (fun m hm => by obtain ⟨i, h1, rfl⟩ := list_mem.1 hm; unfold rM; simp only; omega) (by omega)
  have hRk : it (fS (listM (rM a k) k)) k (a : Int) = (a : Int) := by rw [r_it (by omega), Nat.mod_self, Nat.add_zero]
  unfold rings
  have hz : (keyS (listM (rM a k) k)).countP (fun _ => false) = 0 := by rw [List.countP_eq_zero]; intro m _; simp
  have hx1 : ∀ x ∈ keyS (listM (rM a k) k), x ≠ (a : Int) → ¬ Ring (fS (listM (rM a k) k)) (k + 1) x := by
    rintro x hx hne ⟨p, p1, p2, p3, p4⟩
    obtain ⟨m, h1, _, h3⟩ := keyS_mem.1 hx
    obtain ⟨i, h4, rfl⟩ := list_mem.1 h1
    have hxi : x = ((a + i : Nat) : Int) := h3.symm
    have hi : it (fS (listM (rM a k) k)) i (a : Int) = x := by rw [r_it (by omega), Nat.mod_eq_of_lt h4, hxi]
    have hle := p4 (k - i)
    rw [← hi, ← it_add, show k - i + i = k by omega, hRk, hi] at hle
    omega
  have haK : (a : Int) ∈ keyS (listM (rM a k) k) := keyS_mem.2 ⟨rM a k 0, list_mem.2 ⟨0, by omega, rfl⟩, by have := r_nt (a := a) hk (show 0 < k by omega); simpa [ntM] using this, by simp [rM]⟩
  have hRa : Ring (fS (listM (rM a k) k)) (k + 1) (a : Int) := ⟨k, by omega, by omega, hRk, fun j => by rw [r_it (by omega)]; omega⟩
  have := countP_drop (p := fun m => decide (Ring (fS (listM (rM a k) k)) (k + 1) m)) (q := fun _ => false) S.nd haK (decide_eq_true hRa) rfl (fun x hx hne => decide_eq_false (hx1 x hx hne))
  omega

/-! A row. -/
theorem s_f {a k i : Nat} (h : i < k) : fS (listM (sM a k) k) ((a + i : Nat) : Int) = ((a + k + i : Nat) : Int) :=
  fS_mem (right_nd (s_right a k)) (list_mem.2 ⟨i, h, rfl⟩)
theorem s_keys (a k : Nat) : (keyS (listM (sM a k) k)).length = k := by
  rw [keyS_len]
  have := (List.countP_eq_length (p := ntM) (l := listM (sM a k) k)).2 (fun m hm => by
    obtain ⟨i, h1, rfl⟩ := list_mem.1 hm
    unfold ntM sM; rw [bne_iff_ne]; simp only; omega)
  rw [this, list_len]
open Classical in
theorem s_rings (a k : Nat) : rings (fS (listM (sM a k) k)) (keyS (listM (sM a k) k)) (k + 1) = 0 := by
  unfold rings
  rw [List.countP_eq_zero]
  intro x hx h
  obtain ⟨p, p1, p2, p3, p4⟩ := of_decide_eq_true h
  obtain ⟨m, h1, _, h3⟩ := keyS_mem.1 hx
  obtain ⟨i, h4, rfl⟩ := list_mem.1 h1
  have hxi : x = ((a + i : Nat) : Int) := h3.symm
  have h2 := p4 2
  have e1 : it (fS (listM (sM a k) k)) 2 x = -2 := by
    rw [hxi]
    simp only [it]
    rw [s_f h4]
    exact fS_no (fun m hm => by obtain ⟨j, h5, rfl⟩ := list_mem.1 hm; unfold sM; simp only; omega)
  rw [e1, hxi] at h2
  omega
def fillR (L : Nat) : Nat → List Int
  | 0 => List.replicate L 0
  | i + 1 => (fillR L i).set i (W (7 * (i : Int)))
theorem fillR_len (L : Nat) : ∀ i, (fillR L i).length = L
  | 0 => List.length_replicate
  | i + 1 => by unfold fillR; rw [List.length_set]; exact fillR_len L i
theorem fillR_get (L : Nat) (hL : L ≤ 1000) : ∀ i, i ≤ L → ∀ j : Nat, j < i → gt (fillR L i) (j : Int) = ((7 * j : Nat) : Int)
  | 0, _, j, h => by omega
  | i + 1, hi, j, h => by
    unfold fillR
    rw [gt_set (by rw [fillR_len]; omega) (by omega) (by rw [fillR_len]; omega)]
    by_cases c : j = i
    · subst c
      rw [if_pos rfl, show 7 * (j : Int) = ((7 * j : Nat) : Int) by omega, W_id (by omega) (by omega)]
    · rw [if_neg (by omega)]
      exact fillR_get L hL i (by omega) j (by omega)
theorem movesRings_law : MovesRingsLaw := by
  intro p0 p1 hp0 hp1
  refine ⟨10000000000000, ?_⟩
  have hs := sure27
  have hf : 1000 < 10000000000000 := by omega
  generalize 10000000000000 = fuel at *
  have hb0 : 0 ≤ p0 ∧ p0 ≤ 255 := by exact hp0
  have hb1 : 0 ≤ p1 ∧ p1 ≤ 255 := by exact hp1
  obtain ⟨k, hk, hkl⟩ : ∃ k : Nat, Int.tmod (W p0) 20 = (k : Int) ∧ k < 20 := by
    obtain ⟨n, rfl⟩ : ∃ n : Nat, p0 = (n : Int) := ⟨p0.toNat, by omega⟩
    exact ⟨n % 20, by rw [W_id (by omega) (by omega)]; rfl, Nat.mod_lt _ (by omega)⟩
  obtain ⟨a, ha, hal⟩ : ∃ a : Nat, Int.tmod (W p1) 50 = (a : Int) ∧ a < 50 := by
    obtain ⟨n, rfl⟩ : ∃ n : Nat, p1 = (n : Int) := ⟨p1.toNat, by omega⟩
    exact ⟨n % 50, by rw [W_id (by omega) (by omega)]; rfl, Nat.mod_lt _ (by omega)⟩
  have hWn : ∀ n : Nat, n ≤ 100000 → W (n : Int) = n := fun n h => W_id (by omega) (by omega)
  have hadd : ∀ x y : Nat, x + y ≤ 100000 → W ((x : Int) + (y : Int)) = ((x + y : Nat) : Int) := fun x y h => by rw [show (x : Int) + (y : Int) = ((x + y : Nat) : Int) by omega]; exact hWn _ h
  have hmod : ∀ x y : Nat, Int.tmod (x : Int) (y : Int) = ((x % y : Nat) : Int) := fun x y => rfl
  have h1 : iter (m_law27_MovesRings_l1 fuel p0 p1) fuel (([] : List MMove), ([] : List MMove), 0) = some (listM (rM a k) k, listM (sM a k) k) := by
    refine iter_end (body := m_law27_MovesRings_l1 fuel p0 p1) (fu := fuel) k (fun i => (listM (rM a k) i, listM (sM a k) i, (i : Int))) (listM (rM a k) k, listM (sM a k) k) (fun i hi => ?_) (by unfold m_law27_MovesRings_l1; simp [hk]) (by omega)
    have hd : (i : Int) < (k : Int) := by omega
    have hz : ((k : Int) != 0) = true := by rw [bne_iff_ne]; omega
    have hm := Nat.mod_lt (i + 1) (show 0 < k by omega)
    unfold m_law27_MovesRings_l1
    rw [list_snoc, list_snoc]
    simp only [hk, ha, hd, decide_true, if_true, hz, W_succ (show i < 9223372036854775807 by omega), hmod, hadd a i (by omega), hadd a ((i + 1) % k) (by omega), hadd a k (by omega), hadd (a + k) i (by omega)]
    rw [if_pos (apOk_true (by rw [list_len]; simp; omega)), if_pos (apOk_true (by rw [list_len]; simp; omega))]
    rfl
  unfold m_law27_MovesRings
  rw [h1]
  have hRr := r_right a k
  have hRs := s_right a k
  have hl1 := list_len (rM a k) k
  have hl2 := list_len (sM a k) k
  have hL1 := m_leastM (fuel := fuel) (by rw [hl1]; omega) hf hRr (fun m hm => by obtain ⟨i, _, rfl⟩ := list_mem.1 hm; unfold rM; simp only; omega)
  have hL2 := m_leastM (fuel := fuel) (by rw [hl2]; omega) hf hRs (fun m hm => by obtain ⟨i, _, rfl⟩ := list_mem.1 hm; unfold sM; simp only; omega)
  rw [hl1] at hL1
  rw [hl2, s_keys, s_rings] at hL2
  have hnum : (((keyS (listM (rM a k) k)).length + rings (fS (listM (rM a k) k)) (keyS (listM (rM a k) k)) (k + 1) : Nat) : Int) = if k < 2 then 0 else ((k + 1 : Nat) : Int) := by
    by_cases c : k < 2
    · have h2 : rings (fS (listM (rM a k) k)) (keyS (listM (rM a k) k)) (k + 1) ≤ (keyS (listM (rM a k) k)).length := List.countP_le_length
      rw [r_keys0 c] at h2
      rw [if_pos c, r_keys0 c]; omega
    · rw [if_neg c, r_keys (by omega), r_rings (by omega)]
  have hsp : ∀ m ∈ listM (rM a k) k, m.To ≠ ((a + 2 * k : Nat) : Int) ∧ m.From ≠ ((a + 2 * k : Nat) : Int) := by
    intro m hm
    obtain ⟨i, h2, rfl⟩ := list_mem.1 hm
    have hm := Nat.mod_lt (i + 1) (show 0 < k by omega)
    unfold rM; simp only; omega
  have hF : FreeM (listM (rM a k) k) ((a + 2 * k : Nat) : Int) := by
    refine ⟨by omega, fun i hi h => ?_⟩
    have h2 := hsp _ (by rw [gtE hi]; exact List.getElem_mem hi : gt (listM (rM a k) k) (i : Int) ∈ listM (rM a k) k)
    unfold usesM at h
    rcases h with h | h
    · exact h2.1 h
    · exact h2.2 h
  obtain ⟨o, ho, hI, he⟩ := order_ends (fuel := fuel) (sp := ((a + 2 * k : Nat) : Int)) 1 (gt (fillR (a + 2 * k + 1) (a + 2 * k + 1))) (by rw [hl1]; omega) hRr hsp (by omega) hf
  have hlen := hI.len
  rw [he, List.length_nil, Nat.add_zero, hl1] at hlen
  have hout0 : (o.out.length : Int) = if k < 2 then 0 else ((k + 1 : Nat) : Int) := by rw [hlen]; exact hnum
  have hO : m_moves_Order fuel (listM (rM a k) k) ((a + 2 * k : Nat) : Int) = some (o.out, 0) := by
    rw [m_orderM (by rw [hl1]; omega) hf, if_pos ⟨hRr, hF⟩, ho]; rfl
  rw [hnum] at hL1
  have h2k : W (2 * (k : Int)) = ((2 * k : Nat) : Int) := by rw [show 2 * (k : Int) = ((2 * k : Nat) : Int) by omega]; exact hWn _ (by omega)
  have e7 : (if (decide ((k : Int) < 2)) then some (0 : Int) else some (W ((k : Int) + 1)) : Option Int) = some (if k < 2 then 0 else ((k + 1 : Nat) : Int)) := by
    by_cases c : k < 2
    · rw [if_pos c, if_pos (by rw [decide_eq_true_eq]; omega)]
    · rw [if_neg c, if_neg (by rw [decide_eq_true_eq]; omega), W_succ (by omega)]
  simp only [hk, ha, hL1, hL2, bind_some']
  rw [h2k, hadd a (2 * k) (by omega), hO]
  simp only [bind_some', e7, hout0, Nat.add_zero, bne_self_eq_false, Bool.false_eq_true, if_false]
  rw [show W (((a + 2 * k : Nat) : Int) + 1) = ((a + 2 * k + 1 : Nat) : Int) from W_succ (by omega), if_pos (show mkOk 8 ((a + 2 * k + 1 : Nat) : Int) = true from by unfold mkOk; rw [decide_eq_true (show (0 : Int) ≤ ((a + 2 * k + 1 : Nat) : Int) by omega), decide_eq_true (show ((a + 2 * k + 1 : Nat) : Int) * ((8 : Nat) : Int) ≤ 140737488355328 by omega)]; rfl)]
  have h2 : iter (m_law27_MovesRings_l2 fuel p0 p1 (listM (rM a k) k) (o.out, 0)) fuel (List.replicate (Int.toNat ((a + 2 * k + 1 : Nat) : Int)) (0 : Int), 0) = some (fillR (a + 2 * k + 1) (a + 2 * k + 1)) := by
    rw [Int.toNat_natCast]
    refine iter_end (body := m_law27_MovesRings_l2 fuel p0 p1 (listM (rM a k) k) (o.out, 0)) (fu := fuel) (a + 2 * k + 1) (fun i => (fillR (a + 2 * k + 1) i, (i : Int))) (fillR (a + 2 * k + 1) (a + 2 * k + 1)) (fun i hi => ?_) (by unfold m_law27_MovesRings_l2; simp [fillR_len]) (by omega)
    have hL := fillR_len (a + 2 * k + 1) i
    have hin : inb (fillR (a + 2 * k + 1) i) (i : Int) = true := inb_true (by omega) (by omega)
    have hd : (i : Int) < ((fillR (a + 2 * k + 1) i).length : Int) := by omega
    unfold m_law27_MovesRings_l2
    simp only [hd, decide_true, if_true, hin, Int.toNat_natCast, W_succ (show i < 9223372036854775807 by omega)]
    rfl
  rw [h2]
  have hrange : ∀ m ∈ listM (rM a k) k, inR (fillR (a + 2 * k + 1) (a + 2 * k + 1)).length m := by
    intro m hm
    obtain ⟨i, h3, rfl⟩ := list_mem.1 hm
    have h4 := Nat.mod_lt (i + 1) (show 0 < k by omega)
    rw [fillR_len]
    unfold inR rM; simp only; omega
  have hout := out_range hRr hrange ⟨by omega, by rw [fillR_len]; omega⟩ hI
  have hend := end_regs hRr hrange hI he hout
  have hol : o.out.length ≤ 1000 := by
    have : (if k < 2 then (0 : Int) else ((k + 1 : Nat) : Int)) ≤ 100 := by split <;> omega
    omega
  have hA := m_applyM (fuel := fuel) (now := 1) hout hol (by rw [fillR_len]; omega) hf
  have hB := m_onceM (fuel := fuel) (now := 1) hrange (by rw [hl1]; omega) (by rw [fillR_len]; omega) hf
  have lA := apply_len 1 o.out (fillR (a + 2 * k + 1) (a + 2 * k + 1))
  have lB := once_len 1 (gt (fillR (a + 2 * k + 1) (a + 2 * k + 1))) (listM (rM a k) k) (fillR (a + 2 * k + 1) (a + 2 * k + 1))
  have hval : ∀ i, i < k → gt (onceL 1 (gt (fillR (a + 2 * k + 1) (a + 2 * k + 1))) (fillR (a + 2 * k + 1) (a + 2 * k + 1)) (listM (rM a k) k)) ((a + i : Nat) : Int) = ((7 * (a + (i + 1) % k) : Nat) : Int) := by
    intro i hi
    have h4 := Nat.mod_lt (i + 1) (show 0 < k by omega)
    rw [(once_get 1 _ _ _ (right_nd hRr) hrange ((a + i : Nat) : Int) (by omega) (by rw [fillR_len]; omega)).2 (rM a k i) (list_mem.2 ⟨i, hi, rfl⟩) rfl]
    unfold valE
    rw [if_neg (by unfold rM; simp only; omega)]
    exact fillR_get (a + 2 * k + 1) (by omega) (a + 2 * k + 1) (Nat.le_refl _) (a + (i + 1) % k) (by omega)
  simp only [bind_some', hA, hB]
  rw [lA, lB]
  simp only [bne_self_eq_false, Bool.false_eq_true, if_false, bind_some']
  rw [iter_endI (body := m_law27_MovesRings_l3 fuel _ _ p0 p1) k (.inl ()) (fun i hi => by
    have h4 := Nat.mod_lt (i + 1) (show 0 < k by omega)
    have hd : (i : Int) < (k : Int) := by omega
    have hz : ((k : Int) != 0) = true := by rw [bne_iff_ne]; omega
    have e1 := hend ((a + i : Nat) : Int) (by omega) (by rw [fillR_len]; omega) (by omega)
    rw [hval i hi] at e1
    have i1 : inb (applyL 1 (fillR (a + 2 * k + 1) (a + 2 * k + 1)) o.out) ((a + i : Nat) : Int) = true := inb_true (by omega) (by rw [lA, fillR_len]; omega)
    have i2 : inb (onceL 1 (gt (fillR (a + 2 * k + 1) (a + 2 * k + 1))) (fillR (a + 2 * k + 1) (a + 2 * k + 1)) (listM (rM a k) k)) ((a + i : Nat) : Int) = true := inb_true (by omega) (by rw [lB, fillR_len]; omega)
    have e3 : W (7 * ((a + (i + 1) % k : Nat) : Int)) = ((7 * (a + (i + 1) % k) : Nat) : Int) := by rw [show 7 * ((a + (i + 1) % k : Nat) : Int) = ((7 * (a + (i + 1) % k) : Nat) : Int) by omega]; exact hWn _ (by omega)
    unfold m_law27_MovesRings_l3
    simp only [hk, ha, hd, decide_true, if_true]
    rw [hadd a i (by omega), W_succ (show i < 9223372036854775807 by omega), hmod, hadd a ((i + 1) % k) (by omega), e3, i1, i2, e1, hval i hi]
    simp only [hz, if_true, bne_self_eq_false, Bool.false_eq_true, if_false, bind_some']) (by unfold m_law27_MovesRings_l3; simp [hk]) (by omega)]
  simp only [bind_some', hs]
theorem movesRings_holds : Rows.MovesRingsSaid := frameMovesRings movesRings_law
end Go.Proofs.Ytinehfaelciljaa
