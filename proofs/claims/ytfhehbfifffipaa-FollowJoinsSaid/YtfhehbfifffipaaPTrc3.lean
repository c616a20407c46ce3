/- Which byte is in a set; which run fits which bytes: the program and the document tell the same. Its conditions: none. -/
import Derived.Test.YtfhehbfifffipaaPTrc2
set_option autoImplicit false
namespace Go.Proofs.Ytfhehbfifffipaa
open Go.V Go.RowKit

theorem wrap_u64 {n : Nat} (h : n < 18446744073709551616) : IntKind.wrap .u64 (n : Int) = n := by
  simp [IntKind.wrap, IntKind.bits, IntKind.signed]; omega
theorem band_u64 (x y : BitVec 64) : band .u64 (x.toNat : Int) (y.toNat : Int) = ((x &&& y).toNat : Int) := by
  unfold band
  simp only [IntKind.bits, BitVec.ofInt_natCast, BitVec.ofNat_toNat, BitVec.setWidth_eq]
  exact wrap_u64 (x &&& y).isLt
theorem shl_one {k : Nat} (h : k < 64) : shl .u64 1 (k : Int) = ((BitVec.twoPow 64 k).toNat : Int) := by
  have h1 : min k 64 = k := by omega
  have h2 : 2 ^ k < 18446744073709551616 := Nat.pow_lt_pow_right (a := 2) (by omega) (show k < 64 from h)
  unfold shl
  rw [show (IntKind.u64).bits = 64 from rfl, Int.toNat_natCast, h1, Int.one_mul, BitVec.toNat_twoPow, Nat.mod_eq_of_lt h2]
  rw [show ((2 : Int) ^ k) = ((2 ^ k : Nat) : Int) by simp]
  exact wrap_u64 h2
theorem shr_bv (x : BitVec 64) {k : Nat} (h : k < 64) : shr .u64 (x.toNat : Int) (k : Int) = ((x >>> k).toNat : Int) := by
  have h1 : min k 64 = k := by omega
  unfold shr
  rw [show (IntKind.u64).bits = 64 from rfl, Int.toNat_natCast, h1, BitVec.toNat_ushiftRight, Nat.shiftRight_eq_div_pow, show ((2 : Int) ^ k) = ((2 ^ k : Nat) : Int) by simp, Int.fdiv_eq_ediv_of_nonneg _ (Int.natCast_nonneg _), Int.natCast_ediv]
theorem bit_same {v : Int} (h0 : 0 ≤ v) (h1 : v < 18446744073709551616) {k : Nat} (hk : k < 64) : (band .u64 v (shl .u64 1 (k : Int)) != 0) = (band .u64 (shr .u64 v (k : Int)) 1 == 1) := by
  obtain ⟨x, rfl⟩ : ∃ x : BitVec 64, v = (x.toNat : Int) := ⟨BitVec.ofNat 64 v.toNat, by rw [BitVec.toNat_ofNat, Nat.mod_eq_of_lt (by omega)]; omega⟩
  rw [shl_one hk, shr_bv x hk, band_u64, show (1 : Int) = ((BitVec.twoPow 64 0).toNat : Int) from rfl, band_u64, BitVec.and_twoPow, BitVec.and_twoPow]
  have hb : (x >>> k).getLsbD 0 = x.getLsbD k := by simp
  rw [hb]
  have hp : (BitVec.twoPow 64 k).toNat ≠ 0 := by
    rw [BitVec.toNat_twoPow, Nat.mod_eq_of_lt (Nat.pow_lt_pow_right (a := 2) (by omega) (show k < 64 from hk))]
    exact Nat.ne_of_gt (Nat.two_pow_pos k)
  cases x.getLsbD k with
  | false => simp
  | true =>
    have : ((BitVec.twoPow 64 k).toNat : Int) ≠ 0 := by omega
    simp only [if_true, bne_iff_ne, ne_eq, this, not_false_eq_true, beq_self_eq_true, bne, beq_eq_false_iff_ne.2 this, Bool.not_false]
def hasB (s : List Int) (b : Int) : Bool := band .u64 (gt s (Int.tdiv b 64)) (shl .u64 1 (Int.tmod b 64)) != 0
theorem Has_eq (fuel : Nat) {s : List Int} (hs : s.length = 4 ∧ ∀ y ∈ s, inK .u64 y) {b : Int} (hb : inK .u8 b) : m_bset_Has fuel s b = some (hasB s b) ∧ m_ref01_Has fuel s (W b) = some (hasB s b) := by
  have hb' : 0 ≤ b ∧ b < 256 := ⟨hb.1, by have := hb.2; rw [show IntKind.u8.max = 255 from rfl] at this; omega⟩
  obtain ⟨n, rfl⟩ : ∃ n : Nat, b = n := ⟨b.toNat, by omega⟩
  have hn : n < 256 := by omega
  have hd : Int.tdiv (n : Int) 64 = ((n / 64 : Nat) : Int) := by rw [Int.tdiv_eq_ediv_of_nonneg (by omega)]; simp
  have hm : Int.tmod (n : Int) 64 = ((n % 64 : Nat) : Int) := by rw [Int.tmod_eq_emod_of_nonneg (by omega)]; simp
  have hw8 : IntKind.wrap .u8 ((n / 64 : Nat) : Int) = ((n / 64 : Nat) : Int) := by simp [IntKind.wrap, IntKind.bits, IntKind.signed]; omega
  have hWn : W (n : Int) = n := W_nat (by omega)
  have hWd : W ((n / 64 : Nat) : Int) = ((n / 64 : Nat) : Int) := W_nat (by omega)
  have hin : inbN 4 ((n / 64 : Nat) : Int) = true := by simp [inbN]; omega
  have hmem := hs.2 _ (gt_mem (show n / 64 < s.length by omega))
  have hv : 0 ≤ gt s ((n / 64 : Nat) : Int) ∧ gt s ((n / 64 : Nat) : Int) < 18446744073709551616 := ⟨hmem.1, by have := hmem.2; rw [show IntKind.u64.max = 18446744073709551615 from rfl] at this; omega⟩
  have h0 : (0 : Int) ≤ ((n % 64 : Nat) : Int) := by omega
  unfold m_bset_Has m_ref01_Has hasB
  simp only [hWn, hd, hm, hw8, hWd, hin, if_true, h0, decide_true, bit_same hv.1 hv.2 (show n % 64 < 64 by omega)]
  simp
  omega

theorem fold_places {fuel : Nat} {l : List MTerm} (T : WaysT fuel l) : ∀ (xs : List Int) (s s' : List (List Int) × Int), foldE (stepF fuel l) s xs = .inl s' → ∀ p ∈ xs, 0 ≤ p ∧ p < (leavesN l l.length : Int) := by
  intro xs
  induction xs with
  | nil => intro s s' _ p hp; cases hp
  | cons x xs ih =>
    intro s s' h p hp
    simp only [foldE] at h
    cases c : wayTo (wayL fuel l s.2) x with
    | none => simp [stepF, c] at h
    | some y =>
      have hm := List.mem_of_find?_eq_some c
      have hy : y.To = x := by simpa using List.find?_some c
      have hk := T.ok _ y hm
      rcases List.mem_cons.1 hp with rfl | hp
      · exact ⟨hy ▸ hk.1, hy ▸ hk.2.1⟩
      · exact ih _ s' (by simpa [stepF, c] using h) p hp
theorem frames_places {fuel : Nat} {l : List MTerm} (T : WaysT fuel l) {run : List Int} {fin : Bool} (h : (FramesF fuel l run fin).2 = true) : RightB l = true ∧ ∀ p ∈ run, 0 ≤ p ∧ p < (leavesN l l.length : Int) := by
  unfold FramesF at h
  cases hR : RightB l with
  | false => simp [hR] at h
  | true =>
    refine ⟨rfl, ?_⟩
    simp only [hR, if_true] at h
    unfold runF at h
    cases c : foldE (stepF fuel l) ([], -1) run with
    | inl s => exact fold_places T run _ s c
    | inr t =>
      exfalso
      rw [c] at h
      simp only [outE, id] at h
      have : ∀ (xs : List Int) s, foldE (stepF fuel l) s xs = .inr t → t = .inr ([], false) := by
        intro xs
        induction xs with
        | nil => intro s h; simp [foldE] at h
        | cons x xs ih =>
          intro s
          simp only [foldE]
          cases hw : wayTo (wayL fuel l s.2) x with
          | some y => simpa [stepF, hw] using ih _
          | none => simp [stepF, hw]; exact fun h => h.symm
      have := this _ _ c
      subst this
      simp at h
def fitT (l : List MTerm) (w : List Int) (i : Int) (p : Int) : Int ⊕ Unit := if hasB (gt l (gt (leavesL l l.length) p)).Set (gt w i) then .inl (i + 1) else .inr ()
def FitsF (fuel : Nat) (l : List MTerm) (run w : List Int) : Bool :=
  if (FramesF fuel l run false).2 = true ∧ run.length = w.length then (match foldE (fitT l w) 0 run with | .inl _ => true | .inr _ => false) else false
theorem Fits_eq {fuel : Nat} {l : List MTerm} (hw : ∀ x ∈ l, wfTerm x) (T : WaysT fuel l) (hl : l.length ≤ 1000) (hf : 1000001 < fuel) {run w : List Int} (hr : run.length ≤ 1000) (hww : ∀ x ∈ w, inK .u8 x) :
    m_trace_Fits fuel l run w = some (FitsF fuel l run w) ∧ m_ref18_Fits fuel l run w = some (FitsF fuel l run w) := by
  obtain ⟨e1, e2, _, _⟩ := Frames_eq T hl hf hr false
  have hml := m_Leaves hw (show 401 < fuel by omega)
  have hrl := r_Leaves hw (show l.length * 64 ≤ 140737488351232 by omega) (show 401 < fuel by omega) (by omega)
  unfold m_trace_Fits m_ref18_Fits FitsF
  rw [e1, e2, hml, hrl]
  cases c : (FramesF fuel l run false).2 with
  | false => simp [c]
  | true =>
    obtain ⟨hR, hpl⟩ := frames_places T c
    by_cases hlen : run.length = w.length
    · have hLF : LeavesF l = leavesL l l.length := by simp [LeavesF, hR]
      have hll := leavesL_len l l.length
      have hbody : ∀ i : Nat, i < run.length → inb run (i : Int) = true ∧ inb (leavesL l l.length) (gt run (i : Int)) = true ∧ inb l (gt (leavesL l l.length) (gt run (i : Int))) = true ∧ inb w (i : Int) = true ∧ (m_bset_Has fuel (gt l (gt (leavesL l l.length) (gt run (i : Int)))).Set (gt w (i : Int)) = some (hasB (gt l (gt (leavesL l l.length) (gt run (i : Int)))).Set (gt w (i : Int)))) ∧ m_ref01_Has fuel (gt l (gt (leavesL l l.length) (gt run (i : Int)))).Set (W (gt w (i : Int))) = some (hasB (gt l (gt (leavesL l l.length) (gt run (i : Int)))).Set (gt w (i : Int))) := by
        intro i hi
        have hp := hpl _ (gt_mem hi)
        obtain ⟨n, hn⟩ : ∃ n : Nat, gt run (i : Int) = n := ⟨(gt run (i : Int)).toNat, by omega⟩
        rw [hn] at hp ⊢
        obtain ⟨q, hq1, hq2, _, _⟩ := leavesL_get l l.length n (by omega)
        have hgq : gt (leavesL l l.length) (n : Int) = (q : Int) := gt_get_nat hq2
        rw [hgq]
        have hwf := hw _ (gt_mem hq1)
        have hb := hww _ (gt_mem (show i < w.length by omega))
        obtain ⟨h1, h2⟩ := Has_eq fuel hwf.2.2.2.2 hb
        exact ⟨inb_true (by omega) (by omega), inb_true (by omega) (by omega), inb_true (by omega) (by omega), inb_true (by omega) (by omega), h1, h2⟩
      have hm := (iter_fold0 (step := m_trace_Fits_l1 fuel l w (leavesL l l.length) run) (fun (s : Int) i => i) (fun s => (.inl () : Unit ⊕ Bool)) (fun _ : Unit => .inr false) (fitT l w) run (fun i s => s = (i : Int)) 0 (fuel := fuel) (by omega) rfl
        (fun i s hi hs => by
          subst hs
          obtain ⟨h1, h2, h3, h4, h5, h6⟩ := hbody i hi
          have hd : (i : Int) < (run.length : Int) := by omega
          unfold m_trace_Fits_l1 fitT
          simp only [hd, decide_true, if_true, h1, h2, h3, h4, h5, bind_some', W_succ (show i < 9223372036854775807 by omega)]
          cases hasB (gt l (gt (leavesL l l.length) (gt run (i : Int)))).Set (gt w (i : Int)) with
          | true => exact .inl ⟨_, rfl, by simp, by simp⟩
          | false => exact .inr ⟨(), by simp, by simp⟩)
        (fun s _ => by unfold m_trace_Fits_l1; simp)).1
      have hr := (iter_fold0 (step := m_ref18_Fits_l1 fuel l run w (leavesL l l.length)) (fun (s : Int) i => i) (fun s => (.inl () : Unit ⊕ Bool)) (fun _ : Unit => .inr false) (fitT l w) run (fun i s => s = (i : Int)) 0 (fuel := fuel) (by omega) rfl
        (fun i s hi hs => by
          subst hs
          obtain ⟨h1, h2, h3, h4, h5, h6⟩ := hbody i hi
          have hd : (i : Int) < (run.length : Int) := by omega
          unfold m_ref18_Fits_l1 fitT
          simp only [hd, decide_true, if_true, h1, h2, h3, h4, h6, bind_some', W_succ (show i < 9223372036854775807 by omega)]
          cases hasB (gt l (gt (leavesL l l.length) (gt run (i : Int)))).Set (gt w (i : Int)) with
          | true => exact .inl ⟨_, rfl, by simp, by simp⟩
          | false => exact .inr ⟨(), by simp, by simp⟩)
        (fun s _ => by unfold m_ref18_Fits_l1; simp)).1
      simp only [bind_some', c, Bool.not_true, Bool.false_eq_true, if_false, hlen, bne_self_eq_false, hLF, hm, hr, and_self, if_true]
      cases foldE (fitT l w) 0 run <;> simp [outE]
    · have hlen' : ¬ ((run.length : Int) = (w.length : Int)) := by omega
      simp [c, hlen, hlen', bne]
end Go.Proofs.Ytfhehbfifffipaa
