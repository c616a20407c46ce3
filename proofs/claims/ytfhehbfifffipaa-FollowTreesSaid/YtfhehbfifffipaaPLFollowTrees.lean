/- FollowTrees: any ways, one behind the other, from the begin to the end, are those of a parse tree, of a byte of each place's set. Its conditions: none. -/
import Derived.Test.YtfhehbfifffipaaPEnt
import Derived.Test.YtfhehbfifffipaaPSure17
import Derived.Test.YtfhehbfifffipaaFFollowTrees
set_option autoImplicit false
namespace Go.Proofs.Ytfhehbfifffipaa
open Go.V Go.RowKit

theorem bit01 {v : Int} (h0 : 0 ≤ v) (h1 : v < 18446744073709551616) {k : Nat} (hk : k < 64) : (band .u64 (shr .u64 v (k : Int)) 1 == 0) = !(band .u64 (shr .u64 v (k : Int)) 1 == 1) := by
  obtain ⟨n, rfl⟩ : ∃ n : Nat, v = n := ⟨v.toNat, by omega⟩
  have hx : ((BitVec.ofNat 64 n).toNat : Int) = (n : Int) := by simp; omega
  rw [← hx, shr_bv _ hk]
  have h1' : (1 : Int) = ((1#64).toNat : Int) := rfl
  have e := band_u64 (BitVec.ofNat 64 n >>> k) 1#64
  rw [← h1'] at e
  rw [e]
  have : ((BitVec.ofNat 64 n >>> k) &&& 1#64).toNat < 2 := by
    rw [BitVec.toNat_and, show (1#64).toNat = 1 from rfl, Nat.and_one_is_mod]; omega
  generalize ((BitVec.ofNat 64 n >>> k) &&& 1#64).toNat = m at *
  have : m = 0 ∨ m = 1 := by omega
  rcases this with rfl | rfl <;> rfl
theorem hasB_shr {s : List Int} (hs : s.length = 4 ∧ ∀ y ∈ s, inK .u64 y) {b : Int} (hb : inK .u8 b) : (band .u64 (shr .u64 (gt s (W (Int.tdiv (W b) 64))) (Int.tmod b 64)) 1 == 0) = !hasB s b ∧ inbN 4 (W (Int.tdiv (W b) 64)) = true ∧ 0 ≤ Int.tmod b 64 ∧ 0 ≤ b ∧ W b = b := by
  have hb' : 0 ≤ b ∧ b < 256 := ⟨hb.1, by have := hb.2; rw [show IntKind.u8.max = 255 from rfl] at this; omega⟩
  obtain ⟨n, rfl⟩ : ∃ n : Nat, b = n := ⟨b.toNat, by omega⟩
  have hn : n < 256 := by omega
  have hd : Int.tdiv (n : Int) 64 = ((n / 64 : Nat) : Int) := by rw [Int.tdiv_eq_ediv_of_nonneg (by omega)]; simp
  have hm : Int.tmod (n : Int) 64 = ((n % 64 : Nat) : Int) := by rw [Int.tmod_eq_emod_of_nonneg (by omega)]; simp
  have hWn : W (n : Int) = n := W_nat (by omega)
  have hWd : W ((n / 64 : Nat) : Int) = ((n / 64 : Nat) : Int) := W_nat (by omega)
  have hin : inbN 4 ((n / 64 : Nat) : Int) = true := by simp [inbN]; omega
  have hmem := hs.2 _ (gt_mem (show n / 64 < s.length by omega))
  have hv : 0 ≤ gt s ((n / 64 : Nat) : Int) ∧ gt s ((n / 64 : Nat) : Int) < 18446744073709551616 := ⟨hmem.1, by have := hmem.2; rw [show IntKind.u64.max = 18446744073709551615 from rfl] at this; omega⟩
  unfold hasB
  rw [hWn, hd, hm, hWd]
  refine ⟨?_, hin, by omega, by omega, rfl⟩
  rw [bit01 hv.1 hv.2 (by omega), ← bit_same hv.1 hv.2 (by omega)]
theorem runW_snoc {l : List MTerm} : ∀ (gs : List (List Int)) (run : List Int) (f : List Int) (p : Int), gs.length = run.length → runW l (gs ++ [f]) (run ++ [p]) = runW l gs run ++ sw f ++ [.inr (leafAt l p)]
  | [], [], f, p, _ => by simp [runW]
  | [], _ :: _, _, _, h => by simp at h
  | _ :: _, [], _, _, h => by simp at h
  | g :: gs, q :: run, f, p, h => by simp [runW, runW_snoc gs run f p (by simpa using h)]
theorem runW_nb {l : List MTerm} : ∀ (gs : List (List Int)) (run : List Int), gs.length = run.length → nbW (runW l gs run) = run.length
  | [], [], _ => rfl
  | [], _ :: _, h => by simp at h
  | _ :: _, [], h => by simp at h
  | g :: gs, q :: run, h => by
    have hs : nbW (sw g) = 0 := by
      have : ∀ xs : List Int, nbW (sw xs) = 0 := by
        intro xs
        induction xs with
        | nil => rfl
        | cons x xs ih => simpa [sw, nbW] using ih
      exact this g
    simp only [runW, nbW_append, nbW, hs, runW_nb gs run (by simpa using h)]
    simp
theorem sw_nb : ∀ xs : List Int, nbW (sw xs) = 0
  | [] => rfl
  | x :: xs => by simpa [sw, nbW] using sw_nb xs
theorem sw_ok (H : Int → Nat → Prop) : ∀ (xs : List Int) (k : Int), okB H k (sw xs)
  | [], k => trivial
  | x :: xs, k => by simpa [sw, okB] using sw_ok H xs k
theorem okB_mono {H H' : Int → Nat → Prop} : ∀ (w : Wd) (k : Int), (∀ j q, k ≤ j → j < k + nbW w → H j q → H' j q) → okB H k w → okB H' k w
  | [], _, _, _ => trivial
  | .inl _ :: r, k, h, ho => by simp only [okB, nbW] at *; exact okB_mono r k h ho
  | .inr q :: r, k, h, ho => by
    simp only [okB, nbW] at *
    exact ⟨h k q (by omega) (by omega) ho.1, okB_mono r (k + 1) (fun j q' h1 h2 => h j q' (by omega) (by omega)) ho.2⟩
/-- What is so of the law's loop. -/
structure FtI (l : List MTerm) (t : Tm) (p1 : List Int) (x5 : List (List Int)) (x6 : List Int) (x7 : Int) (i : Nat) : Prop where
  run : ∃ run : List Int, x5.length = run.length ∧ Stand l t x7 (runW l x5 run) ∧ okB (InS l p1) 0 (runW l x5 run) ∧ run.length = i
  w : x6 = p1.take i
  st : ∀ f ∈ x5, f.length ≤ 2000000
theorem ft_step {fuel : Nat} {l : List MTerm} (hw : ∀ x ∈ l, wfTerm x) {t : Tm} (ht : IsT l t) (hR : RightB l = true) (T : WaysT fuel l) (hf : 1000001 < fuel) {p1 : List Int} (hp : ∀ x ∈ p1, inK .u8 x) (hpl : p1.length ≤ 24) {x5 : List (List Int)} {x6 : List Int} {x7 : Int} {i : Nat} (hI : FtI l t p1 x5 x6 x7 i) (hi : i < p1.length) :
    m_law17_FollowTrees_l1 fuel l p1 (leavesL l l.length) (x5, x6, x7, (i : Int)) = some (.done (.inl (x5, x6, x7))) ∨ ∃ x5' x6' x7', m_law17_FollowTrees_l1 fuel l p1 (leavesL l l.length) (x5, x6, x7, (i : Int)) = some (.next (x5', x6', x7', ((i + 1 : Nat) : Int))) ∧ FtI l t p1 x5' x6' x7' (i + 1) := by
  obtain ⟨⟨run, r1, r2, r3, r4⟩, rw6, rst⟩ := hI
  have hd : (i : Int) < (p1.length : Int) := by omega
  have hin1 : inb p1 (i : Int) = true := inb_true (by omega) (by omega)
  obtain ⟨_, _, _, T0⟩ := tells (fuel := fuel) hw (show l.length * 64 ≤ 140737488351232 by have := ht.le; have := ht.len; omega) hf (by have := ht.le; have := ht.len; omega) (W ((l.length : Int) - 1)) 0
  have hsel : ((if (decide (x7 ≥ 0)) then Option.bind (m_follow_From fuel l x7) fun x11 => some x11 else some ((m_follow_First fuel l (W ((l.length : Int) - 1))).getD [])) : Option (List MHop)) = some (wayL fuel l x7) := by
    obtain ⟨_, _, b, T1⟩ := tells (fuel := fuel) hw (show l.length * 64 ≤ 140737488351232 by have := ht.le; have := ht.len; omega) hf (by have := ht.le; have := ht.len; omega) (W ((l.length : Int) - 1)) x7
    by_cases h : x7 ≥ 0
    · simp [wayL, h, T1.mb, show ¬ x7 < 0 by omega]
    · simp [wayL, h, T0.ma, show x7 < 0 by omega]
  have hFirst : m_follow_First fuel l (W ((l.length : Int) - 1)) = some ((m_follow_First fuel l (W ((l.length : Int) - 1))).getD []) := by rw [T0.ma]; rfl
  have hgood := (ways_pre hw ht hR hf r2).1
  have hok := T.ok x7
  have hlen := T.len x7
  have hb := hp _ (gt_mem hi)
  unfold m_law17_FollowTrees_l1
  rw [hFirst]
  simp only [hd, decide_true, if_true, bind_some', hsel, hin1]
  generalize wayL fuel l x7 = hs at *
  by_cases h0 : hs.length = 0
  · left; simp [h0]
  · have h0' : ((hs.length : Int) == 0) = false := by rw [beq_eq_false_iff_ne]; omega
    have h0'' : ((hs.length : Int) != 0) = true := by rw [bne_iff_ne]; omega
    -- the way
    have hW0 : W (gt p1 (i : Int)) = gt p1 (i : Int) := (hasB_shr (s := [0, 0, 0, 0]) ⟨rfl, by intro y hy; simp at hy; subst hy; exact ⟨by decide, by decide⟩⟩ hb).2.2.2.2
    have hb0 : 0 ≤ gt p1 (i : Int) := (hasB_shr (s := [0, 0, 0, 0]) ⟨rfl, by intro y hy; simp at hy; subst hy; exact ⟨by decide, by decide⟩⟩ hb).2.2.2.1
    obtain ⟨m, hm, hml⟩ : ∃ m : Nat, Int.tmod (W (gt p1 (i : Int))) (hs.length : Int) = (m : Int) ∧ m < hs.length := by
      rw [hW0, Int.tmod_eq_emod_of_nonneg hb0]
      have h1 := Int.emod_nonneg (gt p1 (i : Int)) (show (hs.length : Int) ≠ 0 by omega)
      have h2 := Int.emod_lt_of_pos (gt p1 (i : Int)) (show 0 < (hs.length : Int) by omega)
      exact ⟨(gt p1 (i : Int) % (hs.length : Int)).toNat, by omega, by omega⟩
    have hinm : inb hs (m : Int) = true := inb_true (by omega) (by omega)
    have hmem := gt_mem (l := hs) hml
    have hk := hok _ hmem
    have hg := hgood _ hmem
    simp only [h0', h0'', Bool.false_eq_true, if_false, if_true, hm, hinm]
    generalize gt hs (m : Int) = h at *
    obtain ⟨n, q, S, fs, W0, e1, hpl', hpre, e2⟩ := hg
    have hnl : n < leavesN l l.length := by have := hk.2.1; omega
    have hll := leavesL_len l l.length
    have hgq : gt (leavesL l l.length) (n : Int) = (q : Int) := gt_get_nat hpl'.get
    have hqlt : q < l.length := by
      have := (hpl'.ctx.at_ ht).top_lt
      simpa [Tm.top, Tm.size] using this
    have hset := (hw _ (gt_mem hqlt)).2.2.2.2
    obtain ⟨b1, b2, b3, _, _⟩ := hasB_shr hset hb
    have k1 : 0 ≤ h.To := hk.1
    have k2 : h.To < (leavesN l l.length : Int) := hk.2.1
    have c1 : ¬ (h.To < 0) := by omega
    have c2 : ¬ (h.To ≥ ((leavesL l l.length).length : Int)) := by omega
    have c3 : inb (leavesL l l.length) h.To = true := inb_true (by omega) (by omega)
    have c4 : inb l (gt (leavesL l l.length) h.To) = true := by rw [e1, hgq]; exact inb_true (by omega) (by omega)
    have c5 : apOk 24 x5 [h.Steps] = true := apOk_true (by simp; omega)
    have c6 : apOk 1 x6 [gt p1 (i : Int)] = true := apOk_true (by rw [rw6]; simp; omega)
    simp only [c1, c2, c3, c4, decide_false, Bool.false_eq_true, if_false, if_true, bind_some', b2, b3, decide_true]
    rw [e1, hgq, b1]
    cases hh : hasB (gt l (q : Int)).Set (gt p1 (i : Int)) with
    | false => left; simp
    | true =>
      right
      refine ⟨x5 ++ [h.Steps], x6 ++ [gt p1 (i : Int)], (n : Int), ?_, ⟨⟨run ++ [(n : Int)], by simp [r1], ?_, ?_, by simp [r4]⟩, ?_, ?_⟩⟩
      · simp only [Bool.not_true, Bool.false_eq_true, if_false, c5, c6, if_true, W_succ (show i < 9223372036854775807 by omega)]
      · rw [runW_snoc _ _ _ _ r1]
        exact .inr ⟨_, ⟨n, q, S, fs, W0, rfl, hpl', hpre, e2⟩, rfl⟩
      · rw [runW_snoc _ _ _ _ r1, okB_append, okB_append, nbW_append, runW_nb _ _ r1, sw_nb]
        refine ⟨⟨r3, sw_ok _ _ _⟩, ?_⟩
        simp only [okB, and_true, hpl'.leaf, InS]
        rw [show (0 : Int) + ((run.length + 0 : Nat) : Int) = (i : Int) by omega]
        exact hh
      · rw [rw6, List.take_succ_eq_append_getElem hi, gt_get_nat (x := p1[i]) (by simp [hi])]
      · intro f hf'
        rcases List.mem_append.1 hf' with hf' | hf'
        · exact rst f hf'
        · simp only [List.mem_singleton] at hf'; subst hf'; exact hk.2.2
theorem ft_loop {fuel : Nat} {l : List MTerm} (hw : ∀ x ∈ l, wfTerm x) {t : Tm} (ht : IsT l t) (hR : RightB l = true) (T : WaysT fuel l) (hf : 1000001 < fuel) {p1 : List Int} (hp : ∀ x ∈ p1, inK .u8 x) (hpl : p1.length ≤ 24) : ∀ (n i : Nat) (x5 : List (List Int)) (x6 : List Int) (x7 : Int) (fu : Nat), FtI l t p1 x5 x6 x7 i → i + n = p1.length → n < fu →
    ∃ y5 y6 y7 j, iter (m_law17_FollowTrees_l1 fuel l p1 (leavesL l l.length)) fu (x5, x6, x7, (i : Int)) = some (.inl (y5, y6, y7)) ∧ FtI l t p1 y5 y6 y7 j ∧ j ≤ p1.length
  | 0, i, x5, x6, x7, fu, hI, hi, hfu => by
    obtain ⟨fu, rfl⟩ : ∃ m, fu = m + 1 := ⟨fu - 1, by omega⟩
    refine ⟨x5, x6, x7, i, ?_, hI, by omega⟩
    unfold iter m_law17_FollowTrees_l1
    simp [show ¬ ((i : Int) < (p1.length : Int)) by omega]
  | n + 1, i, x5, x6, x7, fu, hI, hi, hfu => by
    obtain ⟨fu, rfl⟩ : ∃ m, fu = m + 1 := ⟨fu - 1, by omega⟩
    unfold iter
    rcases ft_step hw ht hR T hf hp hpl hI (by omega) with h | ⟨y5, y6, y7, h, hI'⟩
    · rw [h]; exact ⟨x5, x6, x7, i, rfl, hI, by omega⟩
    · rw [h]; exact ft_loop hw ht hR T hf hp hpl n (i + 1) y5 y6 y7 fu hI' (by omega) (by omega)
/-- A parse's entries are a tree. -/
theorem right_of {fuel : Nat} {l : List MTerm} (hwl : ∀ x ∈ l, wfTerm x) {t : Tm} (ht : IsT l t) (hR : RightB l = true) {w : List Int} {P : Pt} (hv : t.val P) (hw : ∀ x ∈ w, inK .u8 x) (hl : w.length = P.wid) (hl2 : w.length ≤ 1000000) (hf : 2000001 < fuel) (hok : okB (InS l w) 0 (t.word 0 P)) (htl : (t.ents 0 1 0 P).length ≤ 1000000000) : m_ref14_Right fuel l w (t.ents 0 1 0 P) = some true := by
  have h400 := ht.le; have hln := ht.len; have hsp := t.size_pos
  have hW : W ((l.length : Int) - 1) = (t.top 0 : Int) := by rw [W_id (by omega) (by omega)]; unfold Tm.top; omega
  have I : EntI l w (t.ents 0 1 0 P) fuel := ⟨hw, hl2, by omega, by omega, fun q hq => (hwl _ (gt_mem hq)).2.2.2.2⟩
  have := entry_of I t 0 ht.at0 P hv fuel 0 1 0 [] (by omega) (by omega) (by omega) hok (by simp) (by omega) (by omega)
  unfold m_ref14_Right
  have this' : m_ref14_entry fuel fuel l w (t.ents 0 1 0 P) 0 ⟨1, (t.top 0 : Int), 0, (P.wid : Int)⟩ = some ((t.ents 0 1 0 P).length : Int) := by simpa using this
  rw [r_Right l (by omega) (by omega), hR, hW, hl]
  simp only [bind_some', if_true, this']
  simp
theorem followTrees_law : FollowTreesLaw := by
  intro l p1 hw hl hp hpl
  refine ⟨10000000000000, ?_⟩
  have hs := sure17
  have hf : 2000000001 < 10000000000000 := by omega
  have hRr := r_Right l (fuel := 10000000000000) (by omega)
  generalize 10000000000000 = fuel at *
  unfold m_law17_FollowTrees
  by_cases h1 : (l.length : Int) > 60
  · simp [h1, hs]
  have hRr := hRr (by omega)
  cases hR : RightB l with
  | false => simp [h1, hRr, hR, hs]
  | true =>
  by_cases h2 : (p1.length : Int) > 24
  · simp [h1, hRr, hR, h2, hs]
  have T := waysT (fuel := fuel) hw (show l.length * 64 ≤ 140737488351232 by omega) (by omega) (by omega)
  obtain ⟨t, ht⟩ := tree_of hw hR
  have h400 := ht.le; have hln := ht.len
  have hLF : LeavesF l = leavesL l l.length := by simp [LeavesF, hR]
  have hLv := r_Leaves hw (fuel := fuel) (show l.length * 64 ≤ 140737488351232 by omega) (by omega) (by omega)
  rw [hLF] at hLv
  obtain ⟨y5, y6, y7, j, hit, ⟨⟨run, r1, r2, r3, r4⟩, r6, rst⟩, hj⟩ := ft_loop hw ht hR T (show 1000001 < fuel by omega) hp (by omega) p1.length 0 [] [] (-1) fuel ⟨⟨[], rfl, .inl ⟨rfl, rfl⟩, trivial, rfl⟩, by simp, by simp⟩ (by omega) (by omega)
  simp only [h1, decide_false, Bool.false_eq_true, if_false, hRr, bind_some', hR, Bool.not_true, h2, hLv]
  rw [show (0 : Int) = ((0 : Nat) : Int) from rfl, hit]
  simp only [bind_some', T.me]
  cases he : (endL fuel l y7).2 with
  | false => simp [hs]
  | true =>
    obtain ⟨P, hv, hword⟩ := (ways_pre hw ht hR (show 1000001 < fuel by omega) r2).2 he
    have hof := Of_word r1 hv (by omega) hword
    have hel := T.el y7
    have hst : ∀ f ∈ y5 ++ [(endL fuel l y7).1.Steps], f.length ≤ 2000000 := by
      intro f hf'
      rcases List.mem_append.1 hf' with hf' | hf'
      · exact rst f hf'
      · simp only [List.mem_singleton] at hf'; subst hf'; exact hel
    have hlen : (y5 ++ [(endL fuel l y7).1.Steps]).length ≤ 100 := by simp; omega
    have hOf := (Of_eq (fuel := fuel) hlen hst (by omega)).2
    have htl := OfF_len hlen hst
    rw [hof] at hOf htl
    have hap : apOk 24 y5 [(endL fuel l y7).1.Steps] = true := apOk_true (by simp; omega)
    have hwid : P.wid = j := by
      rw [← word_nb t 0 P hv, ← hword, nbW_append, runW_nb _ _ r1, sw_nb]; omega
    have hy6 : y6.length = P.wid := by rw [r6, hwid]; simp; omega
    have hright := right_of hw ht hR hv (w := y6) (fuel := fuel) (by rw [r6]; intro x hx; exact hp x (List.mem_of_mem_take hx)) hy6 (by omega) (by omega) (by
      rw [← hword, okB_append]
      refine ⟨okB_mono _ _ ?_ r3, sw_ok _ _ _⟩
      intro k q h3 h4 h5
      rw [runW_nb _ _ r1] at h4
      unfold InS at h5 ⊢
      obtain ⟨m, rfl⟩ : ∃ m : Nat, k = m := ⟨k.toNat, by omega⟩
      rw [r6, gt_get_nat (x := p1[m]'(by omega)) (by rw [List.getElem?_take_of_lt (by omega)]; simp)]
      rwa [gt_get_nat (x := p1[m]'(by omega)) (by simp)] at h5) htl
    simp [hap, hOf, hright, hs]
theorem followTrees_holds : Rows.FollowTreesSaid := frameFollowTrees followTrees_law
end Go.Proofs.Ytfhehbfifffipaa
