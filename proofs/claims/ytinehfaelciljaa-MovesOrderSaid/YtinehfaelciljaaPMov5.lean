/- Moves: the order of a list of moves, and the least number by the document. Its conditions: none. -/
import Derived.Test.YtinehfaelciljaaPMov4
set_option autoImplicit false
namespace Go.Proofs.Ytinehfaelciljaa
open Go.V Go.RowKit

theorem gtE {α : Type} [Inhabited α] {l : List α} {i : Nat} (h : i < l.length) : gt l (i : Int) = l[i] := gt_get_nat (by simp [h])
theorem right_nd {ms : List MMove} (h : RightM ms) : (ms.map MMove.To).Nodup := by
  unfold List.Nodup
  rw [List.pairwise_map, List.pairwise_iff_getElem]
  intro i j hi hj hij e
  exact h j hj (.inr (.inr ⟨i, hij, by rw [gtE hi, gtE hj]; exact e⟩))
theorem right_to {ms : List MMove} (h : RightM ms) : ∀ m ∈ ms, 0 ≤ m.To ∧ -1 ≤ m.From := by
  intro m hm
  obtain ⟨i, hi, rfl⟩ := List.mem_iff_getElem.1 hm
  have := h i hi
  unfold badM at this
  rw [gtE hi] at this
  exact ⟨Int.not_lt.1 fun c => this (.inl c), Int.not_lt.1 fun c => this (.inr (.inl c))⟩
def fS (ms : List MMove) (x : Int) : Int := match ms.find? (fun m => m.To == x) with | some m => m.From | none => -2
theorem fS_mem {ms : List MMove} (hn : (ms.map MMove.To).Nodup) {m : MMove} (hm : m ∈ ms) : fS ms m.To = m.From := by
  induction ms with
  | nil => simp at hm
  | cons a ms ih =>
    rw [List.map_cons, List.nodup_cons] at hn
    unfold fS
    rw [List.find?_cons]
    rcases List.mem_cons.1 hm with rfl | hm
    · simp
    · have : (a.To == m.To) = false := by
        rw [beq_eq_false_iff_ne]
        intro e
        exact hn.1 (List.mem_map.2 ⟨m, hm, e.symm⟩)
      rw [this]
      exact ih hn.2 hm
theorem fS_no {ms : List MMove} {x : Int} (h : ∀ m ∈ ms, m.To ≠ x) : fS ms x = -2 := by
  unfold fS
  rw [List.find?_eq_none.2 (fun m hm => by simpa using h m hm)]
theorem m_from {ms : List MMove} {fuel : Nat} (hl : ms.length ≤ 1000) (hf : 1000 < fuel) (x : Int) : m_ref27_from fuel ms x = some (fS ms x) := by
  have hstep : ∀ i, i < ms.length → m_ref27_from_l1 fuel ms x (i : Int) = if (gt ms i).To = x then some (.done (.inr (gt ms i).From)) else some (.next ((i + 1 : Nat) : Int)) := by
    intro i hi
    have hin : inb ms (i : Int) = true := inb_true (by omega) (by omega)
    have hd : (i : Int) < (ms.length : Int) := by omega
    unfold m_ref27_from_l1
    simp only [hd, decide_true, if_true, hin, W_succ (show i < 9223372036854775807 by omega), beq_iff_eq]
  unfold m_ref27_from
  rcases first_bad (fun i => (gt ms i).To = x) ms.length with h | ⟨i, h1, h2, h3⟩
  · rw [iter_endI (body := m_ref27_from_l1 fuel ms x) ms.length (.inl ()) (fun i hi => by rw [hstep i hi, if_neg (h i hi)]) (by unfold m_ref27_from_l1; simp) (by omega)]
    rw [fS_no (fun m hm => by obtain ⟨i, hi, rfl⟩ := List.mem_iff_getElem.1 hm; have := h i hi; rw [gtE hi] at this; exact this)]
    rfl
  · rw [iter_endI (body := m_ref27_from_l1 fuel ms x) i (.inr (gt ms i).From) (fun j hj => by rw [hstep j (by omega), if_neg (h3 j hj)]) (by rw [hstep i h1, if_pos h2]) (by omega)]
    have : ms.find? (fun m => m.To == x) = some (gt ms i) := by
      rw [List.find?_eq_some_iff_getElem]
      refine ⟨by simpa using h2, i, h1, (gtE h1).symm, fun j hj => ?_⟩
      have := h3 j hj
      rw [gtE (by omega)] at this
      simpa using this
    unfold fS
    rw [this]
    rfl

/-! The keys. -/
def keyS (ms : List MMove) : List Int := sortI (keysM ms)
theorem keyS_mem {ms : List MMove} {t : Int} : t ∈ keyS ms ↔ ∃ m ∈ ms, m.To ≠ m.From ∧ m.To = t := by
  unfold keyS
  rw [(sortI_perm _).mem_iff]
  unfold keysM
  constructor
  · intro h
    obtain ⟨m, h1, h2⟩ := List.mem_map.1 h
    have h3 := List.mem_filter.1 h1
    exact ⟨m, h3.1, by simpa [ntM] using h3.2, h2⟩
  · rintro ⟨m, h1, h2, h3⟩
    exact List.mem_map.2 ⟨m, List.mem_filter.2 ⟨h1, by simpa [ntM] using h2⟩, h3⟩
theorem keysM_nd {ms : List MMove} (h : (ms.map MMove.To).Nodup) : (keysM ms).Nodup :=
  (List.filter_sublist.map MMove.To).nodup h
theorem keyS_len (ms : List MMove) : (keyS ms).length = ms.countP ntM := by
  unfold keyS keysM
  rw [sortI_len, List.length_map, List.countP_eq_length_filter]
theorem keyS_le (ms : List MMove) : (keyS ms).length ≤ ms.length := by rw [keyS_len]; exact List.countP_le_length
theorem set_of {ms : List MMove} {sp : Int} (hr : RightM ms) (hsp : ∀ m ∈ ms, m.To ≠ sp ∧ m.From ≠ sp) (sp1 : sp ≠ -1) : MSet (fS ms) (keyS ms) sp (ms.length + 1) := by
  have hn := right_nd hr
  have ht := right_to hr
  refine ⟨(sortI_perm _).nodup_iff.2 (keysM_nd hn), sortI_sorted _, fun t h => ?_, fun h => ?_, fun t h => ?_, fun h => ?_, sp1, fun x hx h => ?_, Nat.le_trans (keyS_le ms) (Nat.le_succ _)⟩
  · obtain ⟨m, h1, h2, rfl⟩ := keyS_mem.1 h
    rw [fS_mem hn h1]; exact h2.symm
  · obtain ⟨m, h1, h2, h3⟩ := keyS_mem.1 h
    exact (hsp m h1).1 h3
  · obtain ⟨m, h1, h2, rfl⟩ := keyS_mem.1 h
    rw [fS_mem hn h1]; exact (hsp m h1).2
  · obtain ⟨m, h1, h2, h3⟩ := keyS_mem.1 h
    have := (ht m h1).1; omega
  · by_cases c : ∃ m ∈ ms, m.To = x
    · obtain ⟨m, h1, rfl⟩ := c
      have h2 : m.To = m.From := Classical.byContradiction fun e => hx (keyS_mem.2 ⟨m, h1, e, rfl⟩)
      rw [fS_mem hn h1, ← h2] at h
      exact hx h
    · rw [fS_no (fun m hm e => c ⟨m, hm, e⟩)] at h
      obtain ⟨m, h1, h2, h3⟩ := keyS_mem.1 h
      have := (ht m h1).1; omega
theorem left_get {l : List MMove} (hn : (l.map MMove.To).Nodup) {m : MMove} (hm : m ∈ l) : mget (l.map fun m => (m.To, m.From)) m.To = m.From := by
  induction l with
  | nil => simp at hm
  | cons a l ih =>
    rw [List.map_cons, List.nodup_cons] at hn
    rw [List.map_cons, mget]
    rcases List.mem_cons.1 hm with rfl | hm
    · simp
    · have : (a.To == m.To) = false := by
        rw [beq_eq_false_iff_ne]
        intro e
        exact hn.1 (List.mem_map.2 ⟨m, hm, e.symm⟩)
      rw [this]
      exact ih hn.2 hm
open Classical in
theorem init_of {ms : List MMove} {sp : Int} (now : Int) (r0 : Int → Int) (hr : RightM ms) (S : MSet (fS ms) (keyS ms) sp (ms.length + 1)) : MInv (fS ms) (keyS ms) sp (ms.length + 1) now r0 (askM ms sp) 0 := by
  have hn := right_nd hr
  have hP : Pk (askM ms sp) = keysM ms := by unfold Pk askM leftM keysM; simp [List.map_map, Function.comp_def]
  have hPm : ∀ t, t ∈ Pk (askM ms sp) ↔ t ∈ keyS ms := fun t => by rw [hP]; exact (sortI_perm _).mem_iff.symm
  have hg : ∀ t ∈ keyS ms, mget (askM ms sp).left t = fS ms t := by
    intro t h
    obtain ⟨m, h1, h2, rfl⟩ := keyS_mem.1 h
    rw [fS_mem hn h1]
    exact left_get ((List.filter_sublist.map MMove.To).nodup hn) (List.mem_filter.2 ⟨h1, by simpa [ntM] using h2⟩)
  refine ⟨rfl, rfl, hP ▸ keysM_nd hn, fun t h => (hPm t).1 h, fun t h => .inl (hg t ((hPm t).1 h)), fun t h => ?_, fun t h h2 => absurd ((hPm t).2 h) h2, fun t _ _ => rfl, fun m hm => ?_, fun m hm => ?_, fun m hm => ?_, ?_, ?_⟩
  · rw [hg t ((hPm t).1 h)]; rfl
  · simp [askM] at hm
  · simp [askM] at hm
  · simp [askM] at hm
  · have h1 : (askM ms sp).left.length = (keysM ms).length := by have := congrArg List.length hP; simpa [Pk] using this
    have h2 : (keyS ms).length = (keysM ms).length := sortI_len _
    rw [h1, h2]; simp [askM]
  · rw [Nat.zero_add]
    unfold cntW rings
    refine countP_same fun m hm => decide_eq_decide.2 ⟨fun h => h.1, fun h => ⟨h, fun j => ?_⟩⟩
    obtain ⟨p, p1, _, p2, _⟩ := h
    have hj : it (fS ms) j m ∈ keyS ms := by
      refine Classical.byContradiction fun c => ?_
      have hout : ∀ d, it (fS ms) (d + j) m ∉ keyS ms := by
        intro d
        induction d with
        | zero => rw [Nat.zero_add]; exact c
        | succ d ih => rw [Nat.succ_add]; exact S.cl _ ih
      have h3 : j ≤ j * p := Nat.le_mul_of_pos_right _ p1
      have := hout (j * p - j)
      rw [show j * p - j + j = j * p by omega, it_mul p2] at this
      exact this hm
    exact ⟨(hPm _).2 hj, hg _ hj⟩
open Classical in
theorem end_cnt {f : Int → Int} {K : List Int} {n : Nat} {o : MMovesOrder} (h : o.left = []) : cntW f K n o = 0 := by
  unfold cntW
  rw [List.countP_eq_zero]
  intro m _ c
  have := (of_decide_eq_true c).2 0
  simp [Pk, h] at this
theorem order_ends {ms : List MMove} {sp : Int} {fuel : Nat} (now : Int) (r0 : Int → Int) (hl : ms.length ≤ 60) (hr : RightM ms) (hsp : ∀ m ∈ ms, m.To ≠ sp ∧ m.From ≠ sp) (sp1 : sp ≠ -1) (hf : 1000 < fuel) : ∃ o, m_moves_order_run fuel (askM ms sp) = some o ∧ MInv (fS ms) (keyS ms) sp (ms.length + 1) now r0 o (rings (fS ms) (keyS ms) (ms.length + 1)) ∧ o.left = [] := by
  have S := set_of hr hsp sp1
  have I := init_of now r0 hr S
  have hK : (keyS ms).length ≤ 60 := Nat.le_trans (keyS_le ms) hl
  obtain ⟨o, q, h1, h2, h3⟩ := m_run (fuel := fuel) S hK hf (askM ms sp) 200 (askM ms sp) 0 fuel (by
    have h4 := I.len
    unfold measO
    have h5 : (askM ms sp).out = [] := rfl
    rw [h5, List.length_nil] at h4
    split <;> omega) (by omega) I
  have h4 := h2.cnt
  rw [end_cnt h3, Nat.add_zero] at h4
  subst h4
  refine ⟨o, ?_, h2, h3⟩
  unfold m_moves_order_run
  rw [h1]; rfl

/-! The document's rings. -/
theorem all_min {f : Int → Int} {m : Int} {N : Nat} (h : it f (N + 1) m = m) (hk : ∀ k, k < N → m < it f (k + 1) m) (j : Nat) : m ≤ it f j m := by
  rw [it_mod h j]
  have : j % (N + 1) < N + 1 := Nat.mod_lt j (Nat.succ_pos N)
  cases c : j % (N + 1) with
  | zero => exact Int.le_refl _
  | succ k => exact Int.le_of_lt (hk k (by omega))
open Classical in
theorem m_ring27 {ms : List MMove} {fuel : Nat} (hl : ms.length ≤ 1000) (hf : 1000 < fuel) (m : Int) : m_ref27_ring fuel ms m = some (decide (Ring (fS ms) (ms.length + 1) m ∧ fS ms m ≠ m)) := by
  have hstep : ∀ i, i < ms.length → m < it (fS ms) (i + 1) m → m_ref27_ring_l1 fuel ms m (fS ms m) (it (fS ms) (i + 1) m, (i : Int)) = some (.next (it (fS ms) (i + 1 + 1) m, ((i + 1 : Nat) : Int))) := by
    intro i hi hgt
    have hd : (i : Int) < (ms.length : Int) := by omega
    have hgt' : it (fS ms) (i + 1) m > m := hgt
    unfold m_ref27_ring_l1
    simp only [hd, decide_true, if_true, hgt', bind_some', m_from hl hf, W_succ (show i < 9223372036854775807 by omega)]
    rfl
  have hfin : ∀ i y, i ≤ ms.length → y = it (fS ms) (i + 1) m → (∀ k, k < i → m < it (fS ms) (k + 1) m) → (i = ms.length ∨ y ≤ m) → iter (m_ref27_ring_l1 fuel ms m (fS ms m)) fuel (fS ms m, 0) = some y ∧ (y = m ↔ Ring (fS ms) (ms.length + 1) m) := by
    intro i y hi hy hk hor
    constructor
    · have := iter_end (body := m_ref27_ring_l1 fuel ms m (fS ms m)) (fu := fuel) i (fun i => (it (fS ms) (i + 1) m, (i : Int))) y (fun k h => hstep k (by omega) (hk k h)) (by
        unfold m_ref27_ring_l1
        simp only
        by_cases c : (i : Int) < (ms.length : Int)
        · have hle : ¬ (it (fS ms) (i + 1) m > m) := by rcases hor with h | h <;> omega
          simp only [c, decide_true, if_true, hle, decide_false, bind_some', Bool.false_eq_true, if_false, hy]
        · simp only [c, decide_false, bind_some', Bool.false_eq_true, if_false, hy]) (by omega)
      exact this
    · constructor
      · intro e
        rw [e] at hy
        exact ⟨i + 1, by omega, by omega, hy.symm, all_min hy.symm hk⟩
      · rintro ⟨p, p1, p2, p3, p4⟩
        rcases hor with h | h
        · by_cases c : p ≤ i
          · have := hk (p - 1) (by omega)
            rw [show p - 1 + 1 = p by omega, p3] at this
            omega
          · rw [hy, show i + 1 = p by omega, p3]
        · have := p4 (i + 1)
          rw [← hy] at this
          omega
  obtain ⟨y, h1, h2⟩ : ∃ y, iter (m_ref27_ring_l1 fuel ms m (fS ms m)) fuel (fS ms m, 0) = some y ∧ (y = m ↔ Ring (fS ms) (ms.length + 1) m) := by
    rcases first_bad (fun i => it (fS ms) (i + 1) m ≤ m) ms.length with h | ⟨i, h1, h2, h3⟩
    · exact ⟨_, hfin ms.length _ (Nat.le_refl _) rfl (fun k hk => Int.not_le.1 (h k hk)) (.inl rfl)⟩
    · exact ⟨_, hfin i _ (by omega) rfl (fun k hk => Int.not_le.1 (h3 k hk)) (.inr h2)⟩
  unfold m_ref27_ring
  simp only [m_from hl hf, bind_some', h1]
  by_cases c : y = m
  · have hR := h2.1 c
    simp only [c, beq_self_eq_true, if_true, hR, true_and]
    by_cases c2 : fS ms m = m <;> simp [c2]
  · have hR : ¬ Ring (fS ms) (ms.length + 1) m := fun h => c (h2.2 h)
    simp [c, hR]
open Classical in
theorem m_least27 {ms : List MMove} {fuel : Nat} (hl : ms.length ≤ 1000) (hf : 1000 < fuel) (hr : RightM ms) : m_ref27_Least fuel ms = some ((((keyS ms).length + rings (fS ms) (keyS ms) (ms.length + 1) : Nat) : Int), 0) := by
  have hn := right_nd hr
  let rb : MMove → Bool := fun m => decide (Ring (fS ms) (ms.length + 1) m.To ∧ fS ms m.To ≠ m.To)
  have hstep : ∀ i, i < ms.length → m_ref27_Least_l1 fuel ms ((((ms.take i).countP ntM + (ms.take i).countP rb : Nat) : Int), (i : Int)) = some (.next ((((ms.take (i + 1)).countP ntM + (ms.take (i + 1)).countP rb : Nat) : Int), ((i + 1 : Nat) : Int))) := by
    intro i hi
    have hin : inb ms (i : Int) = true := inb_true (by omega) (by omega)
    have hd : (i : Int) < (ms.length : Int) := by omega
    have hb1 : (ms.take i).countP ntM ≤ 1000 := Nat.le_trans List.countP_le_length (by rw [List.length_take]; omega)
    have hb2 : (ms.take i).countP rb ≤ 1000 := Nat.le_trans List.countP_le_length (by rw [List.length_take]; omega)
    unfold m_ref27_Least_l1
    rw [gt_take hi, List.countP_append, List.countP_append, List.countP_singleton, List.countP_singleton]
    generalize hA : (ms.take i).countP ntM = A at hb1
    generalize hB : (ms.take i).countP rb = B at hb2
    simp only [hd, decide_true, if_true, hin, W_succ (show i < 9223372036854775807 by omega), m_ring27 hl hf, bind_some']
    rw [show decide (Ring (fS ms) (ms.length + 1) (gt ms i).To ∧ fS ms (gt ms i).To ≠ (gt ms i).To) = rb (gt ms i) from rfl, show ((gt ms i).To != (gt ms i).From) = ntM (gt ms i) from rfl]
    cases ntM (gt ms i) <;> cases rb (gt ms i) <;> simp only [Bool.false_eq_true, if_false, if_true, bind_some', W_succ (show A + B < 9223372036854775807 by omega), W_succ (show A + B + 1 < 9223372036854775807 by omega), Nat.add_zero] <;> first | rfl | (congr 4; omega)
  have := iter_end (body := m_ref27_Least_l1 fuel ms) (fu := fuel) ms.length (fun i => ((((ms.take i).countP ntM + (ms.take i).countP rb : Nat) : Int), (i : Int))) (((ms.countP ntM + ms.countP rb : Nat) : Int)) hstep (by unfold m_ref27_Least_l1; simp) (by omega)
  have hrb : ms.countP rb = rings (fS ms) (keyS ms) (ms.length + 1) := by
    unfold rings keyS
    rw [(sortI_perm _).countP_eq]
    unfold keysM
    rw [List.countP_map, List.countP_filter]
    have : ∀ (l : List MMove), (∀ m ∈ l, m ∈ ms) → l.countP rb = l.countP (fun m => ((fun m => decide (Ring (fS ms) (ms.length + 1) m)) ∘ MMove.To) m && ntM m) := by
      intro l
      induction l with
      | nil => intro _; rfl
      | cons a l ih =>
        intro h
        have e : rb a = (((fun m => decide (Ring (fS ms) (ms.length + 1) m)) ∘ MMove.To) a && ntM a) := by
          have h3 := fS_mem hn (h a (by simp))
          simp only [rb, h3, Function.comp, ntM, bne, Bool.decide_and, ne_eq, decide_not]
          congr 2
          by_cases c : a.From = a.To
          · simp [c]
          · simp [c, Ne.symm c]
        simp only [List.countP_cons, e, ih (fun m hm => h m (by simp [hm]))]
    exact this ms fun m h => h
  unfold m_ref27_Least
  have hR : decide (RightM ms) = true := decide_eq_true hr
  simp only [m_right hl hf, bind_some', hR, Bool.not_true, Bool.false_eq_true, if_false]
  have h0 : iter (m_ref27_Least_l1 fuel ms) fuel (0, 0) = some (((ms.countP ntM + ms.countP rb : Nat) : Int)) := this
  rw [h0, hrb, ← keyS_len]
  rfl
end Go.Proofs.Ytinehfaelciljaa
