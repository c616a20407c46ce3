/- Whether a list is a term, by the program and by the document: the same. Its conditions: none. -/
import Derived.Test.YtfhehbfifffipaaPTerm
set_option autoImplicit false
namespace Go.Proofs.Ytfhehbfifffipaa
open Go.V Go.RowKit

theorem lowsN_none {l : List MTerm} {i : Nat} (h : lowsN l i = none) : ∀ k, lowsN l (i + k) = none
  | 0 => h
  | k + 1 => by rw [← Nat.add_assoc]; simp only [lowsN, lowsN_none h k]
def lowRes (l : List MTerm) : (List Int × Int) ⊕ List Int := match lowsN l l.length with | none => .inr [] | some b => .inl (b, (leavesN l l.length : Int))
theorem lowRes_none {l : List MTerm} {i : Nat} (h : lowsN l i = none) (hi : i ≤ l.length) : lowRes l = .inr [] := by
  have := lowsN_none h (l.length - i)
  rw [show i + (l.length - i) = l.length from by omega] at this
  simp [lowRes, this]
theorem segL_cut {l : List MTerm} {a : Int} {i : Nat} (h : 0 ≤ a) : cutL l a (i : Int) = segL l a.toNat i := by
  unfold cutL segL
  congr 1
  omega
theorem segL_len {l : List MTerm} {a i : Nat} : (segL l a i).length ≤ i := by simp [segL]; omega

theorem m_Low_step {l : List MTerm} {a : List Int} {i : Nat} {fuel : Nat} (h : lowsN l i = some a) (hi : i < l.length) (hl : l.length ≤ 400) (hf : 400 < fuel) :
    m_term_Low_l1 fuel l (a, (leavesN l i : Int), (i : Int)) = if goodB l a i then some (.next (a ++ [lowAt l a i], (leavesN l (i + 1) : Int), ((i + 1 : Nat) : Int))) else some (.done (.inr [])) := by
  have ok := lowsN_ok h
  have hin : inb l (i : Int) = true := inb_true (by omega) (by omega)
  have hlv := leavesN_le l i
  have h1 : (i : Int) < (l.length : Int) := by omega
  have hW : W ((leavesN l i : Int) + 1) = ((leavesN l i + 1 : Nat) : Int) := W_succ (by omega)
  have hWi : W ((i : Int) + 1) = ((i + 1 : Nat) : Int) := W_succ (by omega)
  have hap : ∀ x : Int, apOk 8 a [x] = true := fun x => apOk_true (by rw [ok.len]; simp; omega)
  unfold m_term_Low_l1
  simp only [h1, decide_true, if_true, hin, m_low fuel hi ok (by omega), bind_some', m_fields, hW, hWi, hap]
  by_cases hn : lowAt l a i < 0
  · have hg : goodB l a i = false := by unfold goodB; simp; intro; omega
    simp [hn, hg]
  · have hr := lowAt_rng (l := l) ok (by omega)
    have hsl : slOk l (lowAt l a i) (i : Int) = true := by simp [slOk]; omega
    simp only [hn, decide_false, Bool.false_eq_true, if_false, hsl, if_true, segL_cut (show 0 ≤ lowAt l a i by omega)]
    have hs : (segL l (lowAt l a i).toNat i).length ≤ i := segL_len
    rw [m_again fuel _ _ (by omega) (by omega)]
    have hg : goodB l a i = (fieldsB (gt l (i : Int)) && !againB (gt l (i : Int)) (segL l (lowAt l a i).toNat i)) := by unfold goodB; simp [show 0 ≤ lowAt l a i by omega]
    rw [hg]
    generalize againB (gt l (i : Int)) (segL l (lowAt l a i).toNat i) = ag
    generalize fieldsB (gt l (i : Int)) = fb
    by_cases hk : (gt l (i : Int)).Kind = 2
    · cases fb <;> cases ag <;> simp [hk, leavesN]
    · cases fb <;> cases ag <;> simp [hk, leavesN]
theorem m_Low_loop {l : List MTerm} {fuel : Nat} (hl : l.length ≤ 400) (hf : 400 < fuel) : ∀ (k i : Nat) (a : List Int), lowsN l i = some a → i + k = l.length → ∀ m, k < m → iter (m_term_Low_l1 fuel l) m (a, (leavesN l i : Int), (i : Int)) = some (lowRes l)
  | 0, i, a, h, hi, m, hm => by
    obtain ⟨m, rfl⟩ : ∃ q, m = q + 1 := ⟨m - 1, by omega⟩
    have : ¬ (i : Int) < (l.length : Int) := by omega
    obtain rfl : i = l.length := by omega
    unfold iter m_term_Low_l1
    simp [lowRes, h]
  | k + 1, i, a, h, hi, m, hm => by
    obtain ⟨m, rfl⟩ : ∃ q, m = q + 1 := ⟨m - 1, by omega⟩
    unfold iter
    rw [m_Low_step h (by omega) hl hf]
    by_cases hg : goodB l a i = true
    · rw [if_pos hg]
      exact m_Low_loop hl hf k (i + 1) _ (by simp only [lowsN, h, hg, if_true]) (by omega) m (by omega)
    · rw [if_neg hg, lowRes_none (i := i + 1) (by simp only [lowsN, h]; simp [hg]) (by omega)]
theorem m_Low (l : List MTerm) {fuel : Nat} (hf : 401 < fuel) : m_term_Low fuel l = some (LowF l) := by
  unfold m_term_Low LowF
  by_cases h0 : l.length = 0
  · have := List.eq_nil_of_length_eq_zero h0
    subst this
    rfl
  · by_cases h4 : 400 < l.length
    · have h4' : (l.length : Int) > 400 := by omega
      simp only [beq_iff_eq, Int.natCast_eq_zero, h0, if_false, h4', decide_true, bind_some', if_true, h4, true_or, or_true]
      cases lowsN l l.length <;> rfl
    · have h4' : ¬ (l.length : Int) > 400 := by omega
      have hlp := m_Low_loop (l := l) (fuel := fuel) (by omega) (by omega) l.length 0 [] rfl (by omega) fuel (by omega)
      simp only [beq_iff_eq, Int.natCast_eq_zero, h0, if_false, h4', decide_false, bind_some', Bool.false_eq_true]
      rw [show (([] : List Int), (0 : Int), (0 : Int)) = ([], (leavesN l 0 : Int), ((0 : Nat) : Int)) from rfl, hlp]
      simp only [bind_some', lowRes]
      cases hL : lowsN l l.length with
      | none => rfl
      | some b =>
        have ok := lowsN_ok hL
        have hw : W ((l.length : Int) - 1) = (l.length : Int) - 1 := W_id (by omega) (by omega)
        have hin : inb b ((l.length : Int) - 1) = true := inb_true (by omega) (by rw [ok.len]; omega)
        have hne : nonE b = true := by
          have := ok.len
          cases b with
          | nil => simp at this; omega
          | cons x y => rfl
        simp only [hw, hin, if_true]
        by_cases h6 : 64 < leavesN l l.length
        · have h6' : (leavesN l l.length : Int) > 64 := by omega
          simp [h6, h6']
        · have h6' : ¬ (leavesN l l.length : Int) > 64 := by omega
          by_cases hz : gt b ((l.length : Int) - 1) = 0
          · simp [h6, h6', hz, hne, h0, h4]
          · simp [h6, h6', hz]
theorem m_Right (l : List MTerm) {fuel : Nat} (hf : 401 < fuel) : m_term_Right fuel l = some (RightB l) := by
  unfold m_term_Right RightB
  rw [m_Low l hf]
  simp only [bind_some']
  cases LowF l <;> simp

/-! The document's. -/
theorem r_part (fuel : Nat) (k : Int) : m_ref10_part fuel k = some (decide (3 ≤ k) && decide (k ≤ 8), k == 3 || k == 4) := by
  unfold m_ref10_part
  by_cases h : k ≥ 3 <;> by_cases h3 : k = 3 <;> simp [h, h3]
theorem r_again (l : List MTerm) (x10 : List Int) (x7 : Int) (fuel : Nat) {i : Nat} (hi : i < l.length) (hb : i < 4611686018427387904) : ∀ (k a : Nat), a + k = i → ∀ m, k < m →
    ∃ t, iter (m_ref10_lows_l2 fuel l x10 x7 (i : Int)) m (a : Int) = some t ∧ t = if againB (gt l (i : Int)) (segL l a i) then .inr [] else .inl ()
  | 0, a, ha, m, hm => by
    obtain ⟨m, rfl⟩ : ∃ q, m = q + 1 := ⟨m - 1, by omega⟩
    obtain rfl : a = i := by omega
    refine ⟨.inl (), ?_, ?_⟩
    · unfold iter m_ref10_lows_l2
      simp
    · simp [againB, segL]
  | k + 1, a, ha, m, hm => by
    obtain ⟨m, rfl⟩ : ∃ q, m = q + 1 := ⟨m - 1, by omega⟩
    have hlt : a < l.length := by omega
    have hin : inb l (a : Int) = true := inb_true (by omega) (by omega)
    have hd1 : (a : Int) < (i : Int) := by omega
    have hg : gt l (a : Int) = l[a] := gt_get_nat (by simp [hlt])
    have hseg : segL l a i = l[a] :: segL l (a + 1) i := by
      unfold segL
      rw [List.drop_eq_getElem_cons hlt, show i - a = (i - (a + 1)) + 1 from by omega, List.take_succ_cons]
    have step : m_ref10_lows_l2 fuel l x10 x7 (i : Int) (a : Int) = if ((gt l (i : Int)).Kind == 7 && ((gt l (a : Int)).Kind == 7 && (gt l (a : Int)).N == (gt l (i : Int)).N)) then some (.done (.inr [])) else some (.next ((a + 1 : Nat) : Int)) := by
      unfold m_ref10_lows_l2
      simp only [hd1, decide_true, if_true, hin, W_succ (show a < 9223372036854775807 by omega)]
      generalize gt l (i : Int) = x
      generalize gt l (a : Int) = y
      by_cases h1 : x.Kind = 7 <;> by_cases h2 : y.Kind = 7 <;> by_cases h3 : y.N = x.N <;> simp [h1, h2, h3]
    unfold iter
    rw [step]
    by_cases hc : ((gt l (i : Int)).Kind == 7 && ((gt l (a : Int)).Kind == 7 && (gt l (a : Int)).N == (gt l (i : Int)).N)) = true
    · rw [if_pos hc]
      refine ⟨_, rfl, ?_⟩
      rw [hseg]
      simp only [againB, List.any_cons, ← hg]
      grind
    · rw [if_neg hc]
      obtain ⟨t, h1, h2⟩ := r_again l x10 x7 fuel hi hb k (a + 1) (by omega) m (by omega)
      refine ⟨t, h1, ?_⟩
      rw [h2, hseg]
      simp only [againB, List.any_cons, ← hg]
      grind
theorem r_fields (x : MTerm) :
    ((if (decide (x.Kind < 1)) = true then some true else if (decide (x.Kind > 8)) = true then some true else
      if (x.Kind != 2) = true then
        if (!((gt x.Set 0 == 0) && ((gt x.Set 1 == 0) && ((gt x.Set 2 == 0) && (gt x.Set 3 == 0))))) = true then some true
        else if (x.Kind != 7) = true then if (x.N != 0) = true then some true else if (x.Kind == 7) = true then if (decide (x.N < 1)) = true then some true else some (decide (x.N > 9)) else some false
          else if (x.Kind == 7) = true then if (decide (x.N < 1)) = true then some true else some (decide (x.N > 9)) else some false
      else if (x.Kind != 7) = true then if (x.N != 0) = true then some true else if (x.Kind == 7) = true then if (decide (x.N < 1)) = true then some true else some (decide (x.N > 9)) else some false
        else if (x.Kind == 7) = true then if (decide (x.N < 1)) = true then some true else some (decide (x.N > 9)) else some false) : Option Bool)
    = some (decide (x.Kind < 1) || decide (x.Kind > 8) || !fieldsB x) := by
  unfold fieldsB noSet
  obtain ⟨k, A, B, N, S⟩ := x
  simp only
  generalize ((gt S 0 == 0) && ((gt S 1 == 0) && ((gt S 2 == 0) && (gt S 3 == 0)))) = z
  by_cases h1 : k < 1
  · simp [h1]
  · by_cases h8 : k > 8
    · simp [h8]
    · by_cases h2 : k = 2
      · subst h2; by_cases hn : N = 0 <;> simp [hn]
      · by_cases h7 : k = 7
        · subst h7; cases z <;> by_cases n1 : N < 1 <;> by_cases n9 : N > 9 <;> simp [n1, n9] <;> omega
        · cases z <;> by_cases hn : N = 0 <;> simp [h1, h8, h2, h7, hn]
theorem kind_low {l : List MTerm} {a : List Int} {i : Nat} (h : ¬ (1 ≤ (gt l (i : Int)).Kind ∧ (gt l (i : Int)).Kind ≤ 8)) : goodB l a i = false := by
  have : lowAt l a i = -1 := by
    unfold lowAt
    simp only
    rw [if_neg (by omega), if_neg (by omega), if_neg (by omega)]
  simp [goodB, this]
theorem r_step {l : List MTerm} {a : List Int} {i : Nat} {fuel : Nat} (h : lowsN l i = some a) (hi : i < l.length) (hl : l.length < 2199023255552) (hf : l.length < fuel) :
    m_ref10_lows_l1 fuel l (a ++ List.replicate (l.length - i) 0, (leavesN l i : Int), (i : Int)) =
      if goodB l a i then some (.next (a ++ [lowAt l a i] ++ List.replicate (l.length - (i + 1)) 0, (leavesN l (i + 1) : Int), ((i + 1 : Nat) : Int))) else some (.done (.inr [])) := by
  have ok := lowsN_ok h
  have hin : inb l (i : Int) = true := inb_true (by omega) (by omega)
  have hlv := leavesN_le l i
  have h1 : (i : Int) < (l.length : Int) := by omega
  have hW : W ((leavesN l i : Int) + 1) = ((leavesN l i + 1 : Nat) : Int) := W_succ (by omega)
  have hWi : W ((i : Int) + 1) = ((i + 1 : Nat) : Int) := W_succ (by omega)
  have hWm : W ((i : Int) - 1) = (i : Int) - 1 := W_id (by omega) (by omega)
  have hlen : (a ++ List.replicate (l.length - i) (0 : Int)).length = l.length := by simp [ok.len]; omega
  have hinx : inb (a ++ List.replicate (l.length - i) (0 : Int)) (i : Int) = true := inb_true (by omega) (by rw [hlen]; omega)
  have hrep : List.replicate (l.length - i) (0 : Int) = 0 :: List.replicate (l.length - (i + 1)) 0 := replicate_cons hi 0
  have hset : ∀ (x y : Int) (m : List Int), (a ++ x :: m).set i y = a ++ y :: m := fun x y m => set_mid ok.len.symm
  have hgi : ∀ (x : Int) (m : List Int), gt (a ++ x :: m) (i : Int) = x := fun x m => gt_append_right ok.len.symm
  have hgl : ∀ (z x : Int) (m : List Int), 0 ≤ z → z < i → gt (a ++ x :: m) z = gt a z := fun z x m h0 h2 => gt_append_left h0 (by rw [ok.len]; omega)
  have hib : ∀ (z x : Int) (m : List Int), 0 ≤ z → z ≤ i → inb (a ++ x :: m) z = true := fun z x m h0 h2 => inb_true h0 (by simp [ok.len]; omega)
  have hr : ∀ z : Int, 0 ≤ z → z < i → gt a z ≤ z ∧ 0 ≤ gt a z := fun z h1 h2 => by
    have := ok.rng z.toNat (by omega)
    rwa [show ((z.toNat : Nat) : Int) = z from by omega, and_comm] at this
  -- what stands behind the checks
  have tail : ∀ v : Int, 0 ≤ v → v ≤ i → lowAt l a i = v → fieldsB (gt l (i : Int)) = true →
      (Option.bind (iter (m_ref10_lows_l2 fuel l (a ++ v :: List.replicate (l.length - (i + 1)) 0) (leavesN l (i + 1) : Int) (i : Int)) fuel v) fun t2 => match t2 with
        | .inl _ => (some (.next (a ++ v :: List.replicate (l.length - (i + 1)) 0, (leavesN l (i + 1) : Int), W ((i : Int) + 1))) : Option (Ctl (List Int × Int × Int) ((List Int × Int) ⊕ (List Int))))
        | .inr r1 => some (.done (.inr r1))) =
      if goodB l a i then some (.next (a ++ [v] ++ List.replicate (l.length - (i + 1)) 0, (leavesN l (i + 1) : Int), ((i + 1 : Nat) : Int))) else some (.done (.inr [])) := by
    intro v h0 h2 hv hfb
    obtain ⟨q, rfl⟩ := Int.eq_ofNat_of_zero_le h0
    obtain ⟨t, ht, hte⟩ := r_again l (a ++ (q : Int) :: List.replicate (l.length - (i + 1)) 0) (leavesN l (i + 1) : Int) fuel hi (by omega) (i - q) q (by omega) fuel (by omega)
    rw [ht, hte]
    have hg : goodB l a i = !againB (gt l (i : Int)) (segL l q i) := by unfold goodB; rw [hv, hfb]; simp
    rw [hg]
    by_cases hc : againB (gt l (i : Int)) (segL l q i) = true
    · simp [hc]
    · simp [hc, hWi]
  unfold m_ref10_lows_l1
  simp only [h1, decide_true, if_true, hin, hinx, r_part, bind_some', r_fields]
  rw [hrep]
  by_cases hk : 1 ≤ (gt l (i : Int)).Kind ∧ (gt l (i : Int)).Kind ≤ 8
  · have hk1 : ¬ (gt l (i : Int)).Kind < 1 := by omega
    have hk8 : ¬ (gt l (i : Int)).Kind > 8 := by omega
    simp only [hk1, hk8, decide_false, Bool.false_or]
    cases hfb : fieldsB (gt l (i : Int)) with
    | false =>
      have hg : goodB l a i = false := by simp [goodB, hfb]
      simp [hg]
    | true =>
      simp only [Bool.not_true, Bool.false_eq_true, if_false, Int.toNat_natCast, hset, hgi, hWm]
      have hlf : ((if ((gt l (i : Int)).Kind == 2) = true then some (W ((leavesN l i : Int) + 1)) else some (leavesN l i : Int)) : Option Int) = some ((leavesN l (i + 1) : Nat) : Int) := by
        rw [hW]
        by_cases h2 : (gt l (i : Int)).Kind = 2 <;> simp [h2, leavesN]
      simp only [hlf, bind_some']
      have bad : lowAt l a i = -1 → goodB l a i = false := fun hl2 => by simp [goodB, hl2]
      by_cases c1 : (gt l (i : Int)).Kind = 1 ∨ (gt l (i : Int)).Kind = 2
      · have kA : (decide (3 ≤ (gt l (i : Int)).Kind) && decide ((gt l (i : Int)).Kind ≤ 8)) = false := by rcases c1 with h | h <;> simp [h]
        have kB : ((gt l (i : Int)).Kind == 3 || (gt l (i : Int)).Kind == 4) = false := by rcases c1 with h | h <;> simp [h]
        have hv : lowAt l a i = if (gt l (i : Int)).A = -1 ∧ (gt l (i : Int)).B = -1 then (i : Int) else -1 := by unfold lowAt; simp only; rw [if_pos c1]
        simp only [kA, kB, Bool.not_false, if_true, Bool.false_eq_true, if_false]
        by_cases hA : (gt l (i : Int)).A = -1
        · by_cases hB : (gt l (i : Int)).B = -1
          · have hv' : lowAt l a i = i := by rw [hv, if_pos ⟨hA, hB⟩]
            simp only [hA, hB, bne_self_eq_false, Bool.false_eq_true, if_false, bind_some', hib i i _ (by omega) (by omega), if_true, hgi]
            refine (tail i (by omega) (by omega) hv' hfb).trans ?_; rw [hv']
          · rw [bad (by rw [hv, if_neg (fun h => hB h.2)])]
            simp [hA, hB]
        · rw [bad (by rw [hv, if_neg (fun h => hA h.1)])]
          simp [hA]
      · have kA : (decide (3 ≤ (gt l (i : Int)).Kind) && decide ((gt l (i : Int)).Kind ≤ 8)) = true := by simp; omega
        simp only [kA, Bool.not_true, Bool.false_eq_true, if_false, if_true]
        by_cases c2 : (gt l (i : Int)).Kind = 3 ∨ (gt l (i : Int)).Kind = 4
        · have kB : ((gt l (i : Int)).Kind == 3 || (gt l (i : Int)).Kind == 4) = true := by rcases c2 with h | h <;> simp [h]
          have hv : lowAt l a i = if (gt l (i : Int)).B = (i : Int) - 1 ∧ 0 ≤ (gt l (i : Int)).B ∧ 0 ≤ (gt l (i : Int)).A ∧ (gt l (i : Int)).A = gt a (gt l (i : Int)).B - 1 then gt a (gt l (i : Int)).A else -1 := by unfold lowAt; simp only; rw [if_neg c1, if_pos c2]
          simp only [kB, Bool.not_true, Bool.false_eq_true, if_false, if_true, bind_some']
          by_cases hB : (gt l (i : Int)).B = (i : Int) - 1
          · by_cases hB0 : (i : Int) - 1 < 0
            · rw [bad (by rw [hv, if_neg (fun h => by omega)])]
              simp only [hB, bne_self_eq_false, Bool.false_eq_true, if_false, hB0, decide_true, bind_some', if_true]
            · have hrB := hr ((i : Int) - 1) (by omega) (by omega)
              have hw2 : W (gt a ((i : Int) - 1) - 1) = gt a ((i : Int) - 1) - 1 := W_id (by omega) (by omega)
              simp only [hB, bne_self_eq_false, Bool.false_eq_true, if_false, hB0, decide_false, bind_some', hib _ _ _ (show 0 ≤ (i : Int) - 1 by omega) (by omega), if_true, hgl _ _ _ (show 0 ≤ (i : Int) - 1 by omega) (by omega), hw2]
              by_cases hA : (gt l (i : Int)).A = gt a ((i : Int) - 1) - 1
              · by_cases hA0 : gt a ((i : Int) - 1) - 1 < 0
                · rw [bad (by rw [hv, if_neg (fun h => by omega)])]
                  simp only [hA, bne_self_eq_false, Bool.false_eq_true, if_false, hA0, decide_true, bind_some', if_true]
                · have hrA := hr (gt a ((i : Int) - 1) - 1) (by omega) (by omega)
                  have hv' : lowAt l a i = gt a (gt a ((i : Int) - 1) - 1) := by rw [hv, hB, if_pos ⟨rfl, by omega, by omega, hA⟩, hA]
                  simp only [hA, bne_self_eq_false, Bool.false_eq_true, if_false, hA0, decide_false, bind_some', hib _ _ _ (show 0 ≤ gt a ((i : Int) - 1) - 1 by omega) (by omega), hib i _ _ (by omega) (by omega), if_true, hgl _ _ _ (show 0 ≤ gt a ((i : Int) - 1) - 1 by omega) (by omega), hgi]
                  refine (tail _ hrA.2 (by omega) hv' hfb).trans ?_; rw [hv']
              · rw [bad (by rw [hv, hB, if_neg (fun h => hA h.2.2.2)])]
                simp [hA]
          · rw [bad (by rw [hv, if_neg (fun h => hB h.1)])]
            simp [hB]
        · have c3 : (gt l (i : Int)).Kind = 5 ∨ (gt l (i : Int)).Kind = 6 ∨ (gt l (i : Int)).Kind = 7 ∨ (gt l (i : Int)).Kind = 8 := by omega
          have kB : ((gt l (i : Int)).Kind == 3 || (gt l (i : Int)).Kind == 4) = false := by rcases c3 with h | h | h | h <;> simp [h]
          have hv : lowAt l a i = if (gt l (i : Int)).B = -1 ∧ 0 ≤ (gt l (i : Int)).A ∧ (gt l (i : Int)).A = (i : Int) - 1 then gt a (gt l (i : Int)).A else -1 := by unfold lowAt; simp only; rw [if_neg c1, if_neg c2, if_pos c3]
          simp only [kB, Bool.not_false, if_true, Bool.false_eq_true, if_false]
          by_cases hB : (gt l (i : Int)).B = -1
          · simp only [hB, bne_self_eq_false, Bool.false_eq_true, if_false, bind_some']
            by_cases hA : (gt l (i : Int)).A = (i : Int) - 1
            · by_cases hA0 : (i : Int) - 1 < 0
              · rw [bad (by rw [hv, if_neg (fun h => by omega)])]
                simp only [hA, bne_self_eq_false, Bool.false_eq_true, if_false, hA0, decide_true, bind_some', if_true]
              · have hrA := hr ((i : Int) - 1) (by omega) (by omega)
                have hv' : lowAt l a i = gt a ((i : Int) - 1) := by rw [hv, hA, if_pos ⟨hB, by omega, rfl⟩]
                simp only [hA, bne_self_eq_false, Bool.false_eq_true, if_false, hA0, decide_false, bind_some', hib _ _ _ (show 0 ≤ (i : Int) - 1 by omega) (by omega), hib i _ _ (by omega) (by omega), if_true, hgl _ _ _ (show 0 ≤ (i : Int) - 1 by omega) (by omega), hgi]
                refine (tail _ hrA.2 (by omega) hv' hfb).trans ?_; rw [hv']
            · rw [bad (by rw [hv, if_neg (fun h => hA h.2.2)])]
              simp [hA]
          · rw [bad (by rw [hv, if_neg (fun h => hB h.1)])]
            simp [hB]
  · rw [kind_low hk]
    have : (decide ((gt l (i : Int)).Kind < 1) || decide ((gt l (i : Int)).Kind > 8) || !fieldsB (gt l (i : Int))) = true := by
      by_cases h8 : (gt l (i : Int)).Kind < 1
      · simp [h8]
      · have : (gt l (i : Int)).Kind > 8 := by omega
        simp [this]
    simp [this]
theorem r_loop {l : List MTerm} {fuel : Nat} (hl : l.length < 2199023255552) (hf : l.length < fuel) : ∀ (k i : Nat) (a : List Int), lowsN l i = some a → i + k = l.length → ∀ m, k < m →
    iter (m_ref10_lows_l1 fuel l) m (a ++ List.replicate (l.length - i) 0, (leavesN l i : Int), (i : Int)) = some (lowRes l)
  | 0, i, a, h, hi, m, hm => by
    obtain ⟨m, rfl⟩ : ∃ q, m = q + 1 := ⟨m - 1, by omega⟩
    obtain rfl : i = l.length := by omega
    unfold iter m_ref10_lows_l1
    simp [lowRes, h]
  | k + 1, i, a, h, hi, m, hm => by
    obtain ⟨m, rfl⟩ : ∃ q, m = q + 1 := ⟨m - 1, by omega⟩
    unfold iter
    rw [r_step h (by omega) hl hf]
    by_cases hg : goodB l a i = true
    · rw [if_pos hg]
      exact r_loop hl hf k (i + 1) _ (by simp only [lowsN, h, hg, if_true]) (by omega) m (by omega)
    · rw [if_neg hg, lowRes_none (i := i + 1) (by simp only [lowsN, h]; simp [hg]) (by omega)]
theorem r_Low (l : List MTerm) {fuel : Nat} (hl : l.length * 64 ≤ 140737488351232) (hf : l.length + 1 < fuel) : m_ref10_lows fuel l = some (LowF l) := by
  unfold m_ref10_lows LowF
  have hmk : mkOk 8 (l.length : Int) = true := by simp [mkOk]; omega
  have hlp := r_loop (l := l) (fuel := fuel) (by omega) (by omega) l.length 0 [] rfl (by omega) fuel (by omega)
  simp only [hmk, if_true, Int.toNat_natCast]
  rw [show (List.replicate l.length (0 : Int), (0 : Int), (0 : Int)) = ([] ++ List.replicate (l.length - 0) 0, (leavesN l 0 : Int), ((0 : Nat) : Int)) from by simp [leavesN], hlp]
  simp only [bind_some', lowRes]
  cases hL : lowsN l l.length with
  | none => rfl
  | some b =>
    have ok := lowsN_ok hL
    have hlv := leavesN_le l l.length
    by_cases h0 : l.length = 0
    · simp [h0]
    · by_cases h4 : 400 < l.length
      · have h4' : (l.length : Int) > 400 := by omega
        simp [h0, h4, h4']
      · have h4' : ¬ (l.length : Int) > 400 := by omega
        have hw : W ((l.length : Int) - 1) = (l.length : Int) - 1 := W_id (by omega) (by omega)
        have hin : inb b ((l.length : Int) - 1) = true := inb_true (by omega) (by rw [ok.len]; omega)
        have hne : nonE b = true := by
          have := ok.len
          cases b with
          | nil => simp at this; omega
          | cons x y => rfl
        simp only [hw, hin, if_true]
        by_cases h6 : 64 < leavesN l l.length
        · have h6' : (leavesN l l.length : Int) > 64 := by omega
          simp [h0, h4, h4', h6, h6']
        · have h6' : ¬ (leavesN l l.length : Int) > 64 := by omega
          by_cases hz : gt b ((l.length : Int) - 1) = 0
          · simp [h0, h4, h4', h6, h6', hz, hne]
          · simp [h0, h4, h4', h6, h6', hz]
theorem r_Right (l : List MTerm) {fuel : Nat} (hl : l.length * 64 ≤ 140737488351232) (hf : l.length + 1 < fuel) : m_ref10_Right fuel l = some (RightB l) := by
  unfold m_ref10_Right RightB
  rw [r_Low l hl hf]
  rfl

/-! A list that is a term is a tree. -/
/-- In a list there is, from lo on, a tree. -/
def At (l : List MTerm) (lo : Nat) (t : Tm) : Prop := (l.drop lo).take t.size = t.flat lo
theorem At.len {l : List MTerm} {lo : Nat} {t : Tm} (h : At l lo t) : lo + t.size ≤ l.length := by
  have := congrArg List.length h
  rw [Tm.flat_len, List.length_take, List.length_drop] at this
  have := t.size_pos
  omega
theorem At.get {l : List MTerm} {lo : Nat} {t : Tm} (h : At l lo t) {j : Nat} (hj : j < t.size) : l[lo + j]? = (t.flat lo)[j]? := by
  rw [← h, List.getElem?_take_of_lt hj, List.getElem?_drop]
theorem Tm.flat_top (t : Tm) (lo : Nat) : (t.flat lo)[t.size - 1]? = some (t.node lo) := by
  cases t <;> simp [Tm.flat, Tm.size, Tm.flat_len]
  all_goals (rw [List.getElem?_append_right (by simp [Tm.flat_len])]; simp [Tm.flat_len])
theorem At.top {l : List MTerm} {lo : Nat} {t : Tm} (h : At l lo t) : l[t.top lo]? = some (t.node lo) := by
  have hp := t.size_pos
  have := h.get (j := t.size - 1) (by omega)
  rw [Tm.flat_top] at this
  rwa [Tm.top, show lo + t.size - 1 = lo + (t.size - 1) from by omega]
theorem At.gt_top {l : List MTerm} {lo : Nat} {t : Tm} (h : At l lo t) : gt l (t.top lo : Int) = t.node lo := gt_get_nat h.top
theorem At.of {l : List MTerm} {lo : Nat} {t : Tm} (hl : lo + t.size ≤ l.length) (h : ∀ j, j < t.size → l[lo + j]? = (t.flat lo)[j]?) : At l lo t := by
  unfold At
  apply List.ext_getElem?
  intro j
  by_cases hj : j < t.size
  · rw [List.getElem?_take_of_lt hj, List.getElem?_drop, h j hj]
  · rw [List.getElem?_take_eq_none (by omega), List.getElem?_eq_none (by rw [Tm.flat_len]; omega)]
theorem At.bin {l : List MTerm} {lo : Nat} {a b t : Tm} (hs : t.size = a.size + b.size + 1) (hf : t.flat lo = a.flat lo ++ b.flat (lo + a.size) ++ [t.node lo]) : At l lo t ↔ At l lo a ∧ At l (lo + a.size) b ∧ l[lo + a.size + b.size]? = some (t.node lo) := by
  constructor
  · intro h
    have hl := h.len
    have e := fun j hj => h.get (j := j) hj
    rw [hf] at e
    refine ⟨At.of (by omega) fun j hj => ?_, At.of (by omega) fun j hj => ?_, ?_⟩
    · rw [e j (by omega), List.append_assoc, List.getElem?_append_left (by rw [Tm.flat_len]; omega)]
    · rw [Nat.add_assoc, e (a.size + j) (by omega), List.append_assoc, List.getElem?_append_right (by rw [Tm.flat_len]; omega), Tm.flat_len, Nat.add_sub_cancel_left, List.getElem?_append_left (by rw [Tm.flat_len]; omega)]
    · rw [Nat.add_assoc, e (a.size + b.size) (by omega), List.getElem?_append_right (by simp [Tm.flat_len])]
      simp [Tm.flat_len]
  · rintro ⟨h1, h2, h3⟩
    have hl := h2.len
    have h3l : lo + a.size + b.size < l.length := by
      rcases Nat.lt_or_ge (lo + a.size + b.size) l.length with h | h
      · exact h
      · rw [List.getElem?_eq_none h] at h3; cases h3
    refine At.of (by omega) fun j hj => ?_
    rw [hf]
    rcases Nat.lt_or_ge j a.size with ha | ha
    · rw [List.append_assoc, List.getElem?_append_left (by rw [Tm.flat_len]; omega), h1.get ha]
    · rcases Nat.lt_or_ge j (a.size + b.size) with hb | hb
      · rw [List.append_assoc, List.getElem?_append_right (by rw [Tm.flat_len]; omega), Tm.flat_len, List.getElem?_append_left (by rw [Tm.flat_len]; omega), ← h2.get (by omega)]
        congr 1; omega
      · obtain rfl : j = a.size + b.size := by omega
        rw [List.getElem?_append_right (by simp [Tm.flat_len]), ← Nat.add_assoc, h3]
        simp [Tm.flat_len]
theorem At.un {l : List MTerm} {lo : Nat} {a t : Tm} (hs : t.size = a.size + 1) (hf : t.flat lo = a.flat lo ++ [t.node lo]) : At l lo t ↔ At l lo a ∧ l[lo + a.size]? = some (t.node lo) := by
  constructor
  · intro h
    have hl := h.len
    have e := fun j hj => h.get (j := j) hj
    rw [hf] at e
    refine ⟨At.of (by omega) fun j hj => ?_, ?_⟩
    · rw [e j (by omega), List.getElem?_append_left (by rw [Tm.flat_len]; omega)]
    · rw [e a.size (by omega), List.getElem?_append_right (by simp [Tm.flat_len])]
      simp [Tm.flat_len]
  · rintro ⟨h1, h3⟩
    have h3l : lo + a.size < l.length := by
      rcases Nat.lt_or_ge (lo + a.size) l.length with h | h
      · exact h
      · rw [List.getElem?_eq_none h] at h3; cases h3
    refine At.of (by omega) fun j hj => ?_
    rw [hf]
    rcases Nat.lt_or_ge j a.size with ha | ha
    · rw [List.getElem?_append_left (by rw [Tm.flat_len]; omega), h1.get ha]
    · obtain rfl : j = a.size := by omega
      rw [List.getElem?_append_right (by simp [Tm.flat_len]), h3]
      simp [Tm.flat_len]
theorem At.one {l : List MTerm} {lo : Nat} {t : Tm} (hs : t.size = 1) (hf : t.flat lo = [t.node lo]) : At l lo t ↔ l[lo]? = some (t.node lo) := by
  constructor
  · intro h
    have := h.get (j := 0) (by omega)
    rw [hf] at this
    simpa using this
  · intro h
    have hl : lo < l.length := by
      rcases Nat.lt_or_ge lo l.length with h' | h'
      · exact h'
      · rw [List.getElem?_eq_none h'] at h; cases h
    refine At.of (by omega) fun j hj => ?_
    obtain rfl : j = 0 := by omega
    rw [hf, Nat.add_zero, h]; rfl
end Go.Proofs.Ytfhehbfifffipaa
