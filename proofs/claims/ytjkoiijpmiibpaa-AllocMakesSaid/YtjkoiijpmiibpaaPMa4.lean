/- Moves: what is asked of an order, and the document's reading. Its conditions: none. -/
import Derived.Test.YtjkoiijpmiibpaaPMa1
set_option autoImplicit false
namespace Go.Proofs.Ytjkoiijpmiibpaa
open Go.V Go.RowKit

def badM (ms : List MMove) (i : Nat) : Prop := (gt ms i).To < 0 ∨ (gt ms i).From < -1 ∨ ∃ k, k < i ∧ (gt ms k).To = (gt ms i).To
def RightM (ms : List MMove) : Prop := ∀ i, i < ms.length → ¬ badM ms i
open Classical in
noncomputable def putsM (ms : List MMove) : Nat → List (Int × Int)
  | 0 => []
  | i + 1 => mput (putsM ms i) (gt ms i).To (W (mget (putsM ms i) (gt ms i).To + 1))
open Classical in
theorem puts_get {ms : List MMove} : ∀ i, (∀ j, j < i → ¬ badM ms j) → ∀ t, mget (putsM ms i) t = if ∃ k, k < i ∧ (gt ms k).To = t then 1 else 0 := by
  intro i
  induction i with
  | zero => intro _ t; rw [if_neg (by rintro ⟨k, h, _⟩; omega)]; rfl
  | succ i ih =>
    intro h t
    have hi := ih (fun j hj => h j (by omega))
    have hb := h i (by omega)
    rw [putsM, mget_put, hi (gt ms i).To, hi t]
    rw [if_neg (show ¬ ∃ k, k < i ∧ (gt ms k).To = (gt ms i).To from fun e => hb (.inr (.inr e)))]
    by_cases c : (gt ms i).To = t
    · rw [if_pos c, if_pos ⟨i, by omega, c⟩]; rfl
    · rw [if_neg c]
      have : (∃ k : Nat, k < i ∧ (gt ms (k : Int)).To = t) ↔ ∃ k : Nat, k < i + 1 ∧ (gt ms (k : Int)).To = t := by
        refine ⟨fun ⟨k, h1, h2⟩ => ⟨k, by omega, h2⟩, fun ⟨k, h1, h2⟩ => ⟨k, ?_, h2⟩⟩
        by_cases e : k = i
        · rw [e] at h2; exact absurd h2 c
        · omega
      simp only [this]
open Classical in
theorem m_once {ms : List MMove} {fuel : Nat} (hl : ms.length ≤ 5000) (hf : 5000 < fuel) : m_moves_atOnce fuel ms = some (decide (RightM ms)) := by
  have hstep : ∀ i, i < ms.length → (∀ j, j < i → ¬ badM ms j) → m_moves_atOnce_l1 fuel ms (putsM ms i, (i : Int)) = if badM ms i then some (.done (.inr false)) else some (.next (putsM ms (i + 1), ((i + 1 : Nat) : Int))) := by
    intro i hi hb
    have hin : inb ms (i : Int) = true := inb_true (by omega) (by omega)
    have hd : (i : Int) < (ms.length : Int) := by omega
    have hg := puts_get i hb (gt ms i).To
    unfold m_moves_atOnce_l1
    simp only [hd, decide_true, if_true, hin, W_succ (show i < 9223372036854775807 by omega), mget_put]
    by_cases c1 : (gt ms i).To < 0
    · simp [c1, badM]
    · by_cases c2 : (gt ms i).From < -1
      · simp [c1, c2, badM]
      · by_cases c3 : ∃ k, k < i ∧ (gt ms k).To = (gt ms i).To
        · rw [if_pos c3] at hg
          rw [if_pos (show badM ms i from .inr (.inr c3))]
          simp only [c1, c2, hg, decide_false, Bool.false_eq_true, if_false, if_true]
          rfl
        · rw [if_neg c3] at hg
          rw [if_neg (show ¬ badM ms i from fun h => h.elim c1 (fun h => h.elim c2 c3))]
          simp only [c1, c2, decide_false, Bool.false_eq_true, if_false, putsM, hg]
          rfl
  unfold m_moves_atOnce
  rcases first_bad (badM ms) ms.length with h | ⟨i, h1, h2, h3⟩
  · rw [show ((([] : List (Int × Int)), (0 : Int))) = (putsM ms 0, ((0 : Nat) : Int)) from rfl]
    rw [iter_end (body := m_moves_atOnce_l1 fuel ms) ms.length (fun i => (putsM ms i, (i : Int))) (.inl ()) (fun i hi => by rw [hstep i hi (fun j hj => h j (by omega)), if_neg (h i hi)]) (by unfold m_moves_atOnce_l1; simp) (by omega), decide_eq_true (show RightM ms from h)]
    rfl
  · rw [show ((([] : List (Int × Int)), (0 : Int))) = (putsM ms 0, ((0 : Nat) : Int)) from rfl]
    rw [iter_end (body := m_moves_atOnce_l1 fuel ms) i (fun i => (putsM ms i, (i : Int))) (.inr false) (fun j hj => by rw [hstep j (by omega) (fun k hk => h3 k (by omega)), if_neg (h3 j hj)]) (by rw [hstep i h1 h3, if_pos h2]) (by omega), decide_eq_false (show ¬ RightM ms from fun h => h i h1 h2)]
    rfl
/-! Free. -/
def usesM (ms : List MMove) (sp : Int) (i : Nat) : Prop := (gt ms i).To = sp ∨ (gt ms i).From = sp
def FreeM (ms : List MMove) (sp : Int) : Prop := 0 ≤ sp ∧ ∀ i, i < ms.length → ¬ usesM ms sp i
open Classical in
theorem m_contains {ms : List MMove} {fuel : Nat} {sp : Int} (hl : ms.length ≤ 5000) (hf : 5000 < fuel) : m_slices_ContainsFunc_api_Move_api_Move_moves_Order_1 fuel ms sp = some (decide (∃ i, i < ms.length ∧ usesM ms sp i)) := by
  have hstep : ∀ i, i < ms.length → m_slices_IndexFunc_api_Move_api_Move_moves_Order_1_l1 fuel ms sp (i : Int) = if usesM ms sp i then some (.done (.inr (i : Int))) else some (.next ((i + 1 : Nat) : Int)) := by
    intro i hi
    have hin : inb ms (i : Int) = true := inb_true (by omega) (by omega)
    have hd : (i : Int) < (ms.length : Int) := by omega
    unfold m_slices_IndexFunc_api_Move_api_Move_moves_Order_1_l1 m_moves_Order_1
    simp only [hd, decide_true, if_true, hin, W_succ (show i < 9223372036854775807 by omega)]
    by_cases c1 : (gt ms i).To = sp
    · simp [c1, usesM]
    · by_cases c2 : (gt ms i).From = sp <;> simp [c1, c2, usesM]
  unfold m_slices_ContainsFunc_api_Move_api_Move_moves_Order_1 m_slices_IndexFunc_api_Move_api_Move_moves_Order_1
  rcases first_bad (usesM ms sp) ms.length with h | ⟨i, h1, h2, h3⟩
  · rw [iter_endI (body := m_slices_IndexFunc_api_Move_api_Move_moves_Order_1_l1 fuel ms sp) ms.length (.inl ()) (fun i hi => by rw [hstep i hi, if_neg (h i hi)]) (by unfold m_slices_IndexFunc_api_Move_api_Move_moves_Order_1_l1; simp) (by omega), decide_eq_false (fun ⟨i, h4, h5⟩ => h i h4 h5)]
    rfl
  · rw [iter_endI (body := m_slices_IndexFunc_api_Move_api_Move_moves_Order_1_l1 fuel ms sp) i (.inr (i : Int)) (fun j hj => by rw [hstep j (by omega), if_neg (h3 j hj)]) (by rw [hstep i h1, if_pos h2]) (by omega), decide_eq_true ⟨i, h1, h2⟩]
    simp

/-! What is asked. -/
def ntM (m : MMove) : Bool := m.To != m.From
def leftM (ms : List MMove) : List (Int × Int) := (ms.filter ntM).map fun m => (m.To, m.From)
def keysM (ms : List MMove) : List Int := (ms.filter ntM).map MMove.To
def askM (ms : List MMove) (sp : Int) : MMovesOrder := ⟨leftM ms, sortI (keysM ms), sp, []⟩
theorem gt_take {ms : List MMove} {i : Nat} (h : i < ms.length) : ms.take (i + 1) = ms.take i ++ [gt ms i] := by
  rw [List.take_add_one, List.getElem?_eq_getElem h, gt_get_nat (x := ms[i]) (by simp [h])]; rfl
theorem m_ask {ms : List MMove} {sp : Int} {fuel : Nat} (hr : (ms.map MMove.To).Nodup) (hl : ms.length ≤ 5000) (hf : 5000 < fuel) : m_moves_ask fuel ms sp = some (askM ms sp) := by
  have hstep : ∀ i, i < ms.length → m_moves_ask_l1 fuel sp ms (⟨leftM (ms.take i), keysM (ms.take i), sp, []⟩, (i : Int)) = some (.next (⟨leftM (ms.take (i + 1)), keysM (ms.take (i + 1)), sp, []⟩, ((i + 1 : Nat) : Int))) := by
    intro i hi
    have hin : inb ms (i : Int) = true := inb_true (by omega) (by omega)
    have hd : (i : Int) < (ms.length : Int) := by omega
    have hlen : (keysM (ms.take i)).length ≤ 5000 := by
      unfold keysM; rw [List.length_map]
      have := List.length_filter_le ntM (ms.take i)
      rw [List.length_take] at this; omega
    unfold m_moves_ask_l1
    simp only [hd, decide_true, if_true, hin, W_succ (show i < 9223372036854775807 by omega)]
    rw [gt_take hi]
    cases c : ntM (gt ms i) with
    | true =>
      have hno : mhas (leftM (ms.take i)) (gt ms i).To = false := by
        cases h : mhas (leftM (ms.take i)) (gt ms i).To with
        | false => rfl
        | true =>
          exfalso
          have h2 := (mhas_iff _ _).1 h
          unfold leftM at h2
          rw [List.map_map] at h2
          obtain ⟨m, h3, h4⟩ := List.mem_map.1 h2
          have h5 := (List.mem_filter.1 h3).1
          have hsp : ms = ms.take i ++ ms.drop i := (List.take_append_drop i ms).symm
          rw [hsp, List.map_append, List.nodup_append] at hr
          refine hr.2.2 m.To (List.mem_map.2 ⟨m, h5, rfl⟩) (gt ms i).To (List.mem_map.2 ⟨gt ms i, ?_, rfl⟩) h4
          rw [gt_get_nat (x := ms[i]) (by simp [hi]), List.drop_eq_getElem_cons hi]
          exact List.mem_cons_self ..
      have hap : apOk 8 (keysM (ms.take i)) [(gt ms i).To] = true := apOk_true (by simp; omega)
      have hc : ((gt ms i).To != (gt ms i).From) = true := c
      have e1 : leftM (ms.take i ++ [gt ms i]) = leftM (ms.take i) ++ [((gt ms i).To, (gt ms i).From)] := by simp [leftM, List.filter_cons, c]
      have e2 : keysM (ms.take i ++ [gt ms i]) = keysM (ms.take i) ++ [(gt ms i).To] := by simp [keysM, List.filter_cons, c]
      simp only [hc, if_true, hap, bind_some', keys_put_new _ _ _ hno, e1, e2]
    | false =>
      have hc : ((gt ms i).To != (gt ms i).From) = false := c
      have e1 : leftM (ms.take i ++ [gt ms i]) = leftM (ms.take i) := by simp [leftM, List.filter_cons, c]
      have e2 : keysM (ms.take i ++ [gt ms i]) = keysM (ms.take i) := by simp [keysM, List.filter_cons, c]
      simp only [hc, Bool.false_eq_true, if_false, bind_some', e1, e2]
  have := iter_end (body := m_moves_ask_l1 fuel sp ms) (fu := fuel) ms.length (fun i => ((⟨leftM (ms.take i), keysM (ms.take i), sp, []⟩ : MMovesOrder), (i : Int))) (⟨leftM ms, keysM ms, sp, []⟩ : MMovesOrder) hstep (by unfold m_moves_ask_l1; simp) (by omega)
  unfold m_moves_ask
  rw [show ((⟨([] : List (Int × Int)), [], sp, []⟩ : MMovesOrder), (0 : Int)) = ((⟨leftM (ms.take 0), keysM (ms.take 0), sp, []⟩ : MMovesOrder), ((0 : Nat) : Int)) from rfl, this]
  have hlen : (keysM ms).length ≤ 5000 := by
    unfold keysM; rw [List.length_map]
    have := List.length_filter_le ntM ms; omega
  simp only [bind_some']
  rw [if_pos (decide_eq_true (show (keysM ms).length < 4611686018427387904 by omega))]
  rfl
theorem right_nd {ms : List MMove} (h : RightM ms) : (ms.map MMove.To).Nodup := by
  unfold List.Nodup
  rw [List.pairwise_map, List.pairwise_iff_getElem]
  intro i j hi hj hij e
  exact h j hj (.inr (.inr ⟨i, hij, by rw [gtE hi, gtE hj]; exact e⟩))
theorem right_to {ms : List MMove} (h : RightM ms) : ∀ m ∈ ms, 0 ≤ m.To ∧ -1 ≤ m.From := by
  intro m hm
  obtain ⟨i, hi, rfl⟩ := List.mem_iff_getElem.1 hm
  have := h i hi
  unfold badM at this
  rw [gtE hi] at this
  exact ⟨Int.not_lt.1 fun c => this (.inl c), Int.not_lt.1 fun c => this (.inr (.inl c))⟩
def fS (ms : List MMove) (x : Int) : Int := match ms.find? (fun m => m.To == x) with | some m => m.From | none => -2
theorem fS_mem {ms : List MMove} (hn : (ms.map MMove.To).Nodup) {m : MMove} (hm : m ∈ ms) : fS ms m.To = m.From := by
  induction ms with
  | nil => simp at hm
  | cons a ms ih =>
    rw [List.map_cons, List.nodup_cons] at hn
    unfold fS
    rw [List.find?_cons]
    rcases List.mem_cons.1 hm with rfl | hm
    · simp
    · have : (a.To == m.To) = false := by
        rw [beq_eq_false_iff_ne]
        intro e
        exact hn.1 (List.mem_map.2 ⟨m, hm, e.symm⟩)
      rw [this]
      exact ih hn.2 hm
theorem fS_no {ms : List MMove} {x : Int} (h : ∀ m ∈ ms, m.To ≠ x) : fS ms x = -2 := by
  unfold fS
  rw [List.find?_eq_none.2 (fun m hm => by simpa using h m hm)]
/-! The keys. -/
def keyS (ms : List MMove) : List Int := sortI (keysM ms)
theorem keyS_mem {ms : List MMove} {t : Int} : t ∈ keyS ms ↔ ∃ m ∈ ms, m.To ≠ m.From ∧ m.To = t := by
  unfold keyS
  rw [(sortI_perm _).mem_iff]
  unfold keysM
  constructor
  · intro h
    obtain ⟨m, h1, h2⟩ := List.mem_map.1 h
    have h3 := List.mem_filter.1 h1
    exact ⟨m, h3.1, by simpa [ntM] using h3.2, h2⟩
  · rintro ⟨m, h1, h2, h3⟩
    exact List.mem_map.2 ⟨m, List.mem_filter.2 ⟨h1, by simpa [ntM] using h2⟩, h3⟩
theorem keysM_nd {ms : List MMove} (h : (ms.map MMove.To).Nodup) : (keysM ms).Nodup :=
  (List.filter_sublist.map MMove.To).nodup h
theorem keyS_len (ms : List MMove) : (keyS ms).length = ms.countP ntM := by
  unfold keyS keysM
  rw [sortI_len, List.length_map, List.countP_eq_length_filter]
theorem keyS_le (ms : List MMove) : (keyS ms).length ≤ ms.length := by rw [keyS_len]; exact List.countP_le_length
theorem set_of {ms : List MMove} {sp : Int} (hr : RightM ms) (hsp : ∀ m ∈ ms, m.To ≠ sp ∧ m.From ≠ sp) (sp1 : sp ≠ -1) : MSet (fS ms) (keyS ms) sp (ms.length + 1) := by
  have hn := right_nd hr
  have ht := right_to hr
  refine ⟨(sortI_perm _).nodup_iff.2 (keysM_nd hn), sortI_sorted _, fun t h => ?_, fun h => ?_, fun t h => ?_, fun h => ?_, sp1, fun x hx h => ?_, Nat.le_trans (keyS_le ms) (Nat.le_succ _)⟩
  · obtain ⟨m, h1, h2, rfl⟩ := keyS_mem.1 h
    rw [fS_mem hn h1]; exact h2.symm
  · obtain ⟨m, h1, h2, h3⟩ := keyS_mem.1 h
    exact (hsp m h1).1 h3
  · obtain ⟨m, h1, h2, rfl⟩ := keyS_mem.1 h
    rw [fS_mem hn h1]; exact (hsp m h1).2
  · obtain ⟨m, h1, h2, h3⟩ := keyS_mem.1 h
    have := (ht m h1).1; omega
  · by_cases c : ∃ m ∈ ms, m.To = x
    · obtain ⟨m, h1, rfl⟩ := c
      have h2 : m.To = m.From := Classical.byContradiction fun e => hx (keyS_mem.2 ⟨m, h1, e, rfl⟩)
      rw [fS_mem hn h1, ← h2] at h
      exact hx h
    · rw [fS_no (fun m hm e => c ⟨m, hm, e⟩)] at h
      obtain ⟨m, h1, h2, h3⟩ := keyS_mem.1 h
      have := (ht m h1).1; omega
theorem left_get {l : List MMove} (hn : (l.map MMove.To).Nodup) {m : MMove} (hm : m ∈ l) : mget (l.map fun m => (m.To, m.From)) m.To = m.From := by
  induction l with
  | nil => simp at hm
  | cons a l ih =>
    rw [List.map_cons, List.nodup_cons] at hn
    rw [List.map_cons, mget]
    rcases List.mem_cons.1 hm with rfl | hm
    · simp
    · have : (a.To == m.To) = false := by
        rw [beq_eq_false_iff_ne]
        intro e
        exact hn.1 (List.mem_map.2 ⟨m, hm, e.symm⟩)
      rw [this]
      exact ih hn.2 hm
open Classical in
theorem init_of {ms : List MMove} {sp : Int} (now : Int) (r0 : Int → Int) (hr : RightM ms) (S : MSet (fS ms) (keyS ms) sp (ms.length + 1)) : MInv (fS ms) (keyS ms) sp (ms.length + 1) now r0 (askM ms sp) 0 := by
  have hn := right_nd hr
  have hP : Pk (askM ms sp) = keysM ms := by unfold Pk askM leftM keysM; simp [List.map_map, Function.comp_def]
  have hPm : ∀ t, t ∈ Pk (askM ms sp) ↔ t ∈ keyS ms := fun t => by rw [hP]; exact (sortI_perm _).mem_iff.symm
  have hg : ∀ t ∈ keyS ms, mget (askM ms sp).left t = fS ms t := by
    intro t h
    obtain ⟨m, h1, h2, rfl⟩ := keyS_mem.1 h
    rw [fS_mem hn h1]
    exact left_get ((List.filter_sublist.map MMove.To).nodup hn) (List.mem_filter.2 ⟨h1, by simpa [ntM] using h2⟩)
  refine ⟨rfl, rfl, hP ▸ keysM_nd hn, fun t h => (hPm t).1 h, fun t h => .inl (hg t ((hPm t).1 h)), fun t h => ?_, fun t h h2 => absurd ((hPm t).2 h) h2, fun t _ _ => rfl, fun m hm => ?_, fun m hm => ?_, fun m hm => ?_, ?_, ?_⟩
  · rw [hg t ((hPm t).1 h)]; rfl
  · simp [askM] at hm
  · simp [askM] at hm
  · simp [askM] at hm
  · have h1 : (askM ms sp).left.length = (keysM ms).length := by have := congrArg List.length hP; simpa [Pk] using this
    have h2 : (keyS ms).length = (keysM ms).length := sortI_len _
    rw [h1, h2]; simp [askM]
  · rw [Nat.zero_add]
    unfold cntW rings
    refine countP_same fun m hm => decide_eq_decide.2 ⟨fun h => h.1, fun h => ⟨h, fun j => ?_⟩⟩
    obtain ⟨p, p1, _, p2, _⟩ := h
    have hj : it (fS ms) j m ∈ keyS ms := by
      refine Classical.byContradiction fun c => ?_
      have hout : ∀ d, it (fS ms) (d + j) m ∉ keyS ms := by
        intro d
        induction d with
        | zero => rw [Nat.zero_add]; exact c
        | succ d ih => rw [Nat.succ_add]; exact S.cl _ ih
      have h3 : j ≤ j * p := Nat.le_mul_of_pos_right _ p1
      have := hout (j * p - j)
      rw [show j * p - j + j = j * p by omega, it_mul p2] at this
      exact this hm
    exact ⟨(hPm _).2 hj, hg _ hj⟩
open Classical in
theorem end_cnt {f : Int → Int} {K : List Int} {n : Nat} {o : MMovesOrder} (h : o.left = []) : cntW f K n o = 0 := by
  unfold cntW
  rw [List.countP_eq_zero]
  intro m _ c
  have := (of_decide_eq_true c).2 0
  simp [Pk, h] at this
theorem order_ends {ms : List MMove} {sp : Int} {fuel : Nat} (now : Int) (r0 : Int → Int) (hl : ms.length ≤ 400) (hr : RightM ms) (hsp : ∀ m ∈ ms, m.To ≠ sp ∧ m.From ≠ sp) (sp1 : sp ≠ -1) (hf : 5000 < fuel) : ∃ o, m_moves_order_run fuel (askM ms sp) = some o ∧ MInv (fS ms) (keyS ms) sp (ms.length + 1) now r0 o (rings (fS ms) (keyS ms) (ms.length + 1)) ∧ o.left = [] := by
  have S := set_of hr hsp sp1
  have I := init_of now r0 hr S
  have hK : (keyS ms).length ≤ 400 := Nat.le_trans (keyS_le ms) hl
  obtain ⟨o, q, h1, h2, h3⟩ := m_run (fuel := fuel) S hK hf (askM ms sp) 2000 (askM ms sp) 0 fuel (by
    have h4 := I.len
    unfold measO
    have h5 : (askM ms sp).out = [] := rfl
    rw [h5, List.length_nil] at h4
    split <;> omega) (by omega) I
  have h4 := h2.cnt
  rw [end_cnt h3, Nat.add_zero] at h4
  subst h4
  refine ⟨o, ?_, h2, h3⟩
  unfold m_moves_order_run
  rw [h1]; rfl
def inR (L : Nat) (m : MMove) : Prop := 0 ≤ m.To ∧ m.To < L ∧ -1 ≤ m.From ∧ m.From < L
theorem get27 {l : List Int} {m : MMove} {now : Int} {fuel : Nat} (h : inR l.length m) : m_ref27_get fuel l m now = some (valE now (gt l) m.From, true) := by
  obtain ⟨h1, h2, h3, h4⟩ := h
  unfold m_ref27_get valE
  by_cases c : m.From = -1
  · simp [show ¬ m.To < 0 by omega, show ¬ (l.length : Int) ≤ m.To by omega, c, show ¬ (l.length : Int) ≤ -1 by omega]
  · simp [show ¬ m.To < 0 by omega, show ¬ (l.length : Int) ≤ m.To by omega, show ¬ (l.length : Int) ≤ m.From by omega, show ¬ m.From < -1 by omega, c, inb_true (show 0 ≤ m.From by omega) h4]
def applyL (now : Int) (l : List Int) (ms : List MMove) : List Int := ms.foldl (fun l m => l.set m.To.toNat (valE now (gt l) m.From)) l
def onceL (now : Int) (r : Int → Int) (l : List Int) (ms : List MMove) : List Int := ms.foldl (fun l m => l.set m.To.toNat (valE now r m.From)) l
theorem apply_len (now : Int) (ms : List MMove) : ∀ l : List Int, (applyL now l ms).length = l.length := by
  induction ms with
  | nil => intro l; rfl
  | cons m ms ih => intro l; exact (ih _).trans (List.length_set ..)
theorem apply_snoc (now : Int) (l : List Int) (ms : List MMove) (m : MMove) : applyL now l (ms ++ [m]) = (applyL now l ms).set m.To.toNat (valE now (gt (applyL now l ms)) m.From) := by simp [applyL]
theorem apply_get (now : Int) (ms : List MMove) : ∀ (l : List Int) (r : Int → Int), (∀ j : Int, 0 ≤ j → j < l.length → gt l j = r j) → (∀ m ∈ ms, inR l.length m) → ∀ j : Int, 0 ≤ j → j < l.length → gt (applyL now l ms) j = runE now r ms j := by
  induction ms with
  | nil => intro l r h _; exact h
  | cons m ms ih =>
    intro l r h hm j h0 hj
    have hlen : (l.set m.To.toNat (valE now (gt l) m.From)).length = l.length := List.length_set ..
    obtain ⟨m1, m2, m3, m4⟩ := hm m (by simp)
    refine ih _ (stepE now r m) (fun k k0 k1 => ?_) (fun x hx => by rw [hlen]; exact hm x (by simp [hx])) j h0 (by rw [hlen]; exact hj)
    rw [hlen] at k1
    rw [gt_setG (by omega) k0 k1]
    unfold stepE
    rw [show ((m.To.toNat : Nat) : Int) = m.To by omega]
    split
    · unfold valE
      split
      · rfl
      · exact h _ (by omega) m4
    · exact h k k0 k1
theorem once_get (now : Int) (r : Int → Int) (ms : List MMove) : ∀ (l : List Int), (ms.map MMove.To).Nodup → (∀ m ∈ ms, inR l.length m) → ∀ j : Int, 0 ≤ j → j < l.length → ((∀ m ∈ ms, m.To ≠ j) → gt (onceL now r l ms) j = gt l j) ∧ (∀ m ∈ ms, m.To = j → gt (onceL now r l ms) j = valE now r m.From) := by
  induction ms with
  | nil => intro l _ _ j _ _; exact ⟨fun _ => rfl, fun m hm => by simp at hm⟩
  | cons m ms ih =>
    intro l hn hm j h0 hj
    rw [List.map_cons, List.nodup_cons] at hn
    have hlen : (l.set m.To.toNat (valE now r m.From)).length = l.length := List.length_set ..
    obtain ⟨m1, m2, m3, m4⟩ := hm m (by simp)
    obtain ⟨i1, i2⟩ := ih (l.set m.To.toNat (valE now r m.From)) hn.2 (fun x hx => by rw [hlen]; exact hm x (by simp [hx])) j h0 (by rw [hlen]; exact hj)
    have hs := gt_setG (l := l) (i := m.To.toNat) (v := valE now r m.From) (by omega) h0 hj
    rw [show ((m.To.toNat : Nat) : Int) = m.To by omega] at hs
    refine ⟨fun h => ?_, fun x hx e => ?_⟩
    · have e1 := i1 (fun x hx => h x (by simp [hx]))
      rw [hs, if_neg (fun e => h m (by simp) e.symm)] at e1
      exact e1
    · rcases List.mem_cons.1 hx with rfl | hx
      · have e1 := i1 (fun y hy e2 => hn.1 (List.mem_map.2 ⟨y, hy, e2.trans e.symm⟩))
        rw [hs, if_pos e.symm] at e1
        exact e1
      · exact i2 x hx e
theorem m_apply27 {l : List Int} {ms : List MMove} {now : Int} {fuel : Nat} (hr : ∀ m ∈ ms, inR l.length m) (hl : ms.length ≤ 5000) (hL : l.length ≤ 5000) (hf : 5000 < fuel) : m_ref27_Apply fuel l ms now = some (applyL now l ms) := by
  have hstep : ∀ i, i < ms.length → m_ref27_Apply_l1 fuel ms now l (applyL now l (ms.take i), (i : Int)) = some (.next (applyL now l (ms.take (i + 1)), ((i + 1 : Nat) : Int))) := by
    intro i hi
    have hin : inb ms (i : Int) = true := inb_true (by omega) (by omega)
    have hd : (i : Int) < (ms.length : Int) := by omega
    have hm : inR l.length (gt ms i) := by rw [gtE hi]; exact hr _ (List.getElem_mem hi)
    have hlen := apply_len now (ms.take i) l
    unfold m_ref27_Apply_l1
    rw [gt_take hi, apply_snoc]
    simp only [hd, decide_true, if_true, hin, get27 (l := applyL now l (ms.take i)) (fuel := fuel) (now := now) (by rw [hlen]; exact hm), bind_some', W_succ (show i < 9223372036854775807 by omega), inb_true (l := applyL now l (ms.take i)) hm.1 (by rw [hlen]; exact hm.2.1)]
  have := iter_end (body := m_ref27_Apply_l1 fuel ms now l) (fu := fuel) ms.length (fun i => (applyL now l (ms.take i), (i : Int))) (applyL now l ms) hstep (by unfold m_ref27_Apply_l1; simp) (by omega)
  unfold m_ref27_Apply
  rw [if_pos (apOk_true (by simp; omega))]
  have h0 : iter (m_ref27_Apply_l1 fuel ms now l) fuel (([] : List Int) ++ l, 0) = some (applyL now l ms) := this
  rw [h0]; rfl
/-! Applied in the order, the moves do what they do at once. -/
theorem end_regs {ms : List MMove} {sp now : Int} {l : List Int} {o : MMovesOrder} {q : Nat} {n : Nat} (hr : RightM ms) (hin : ∀ m ∈ ms, inR l.length m) (hI : MInv (fS ms) (keyS ms) sp n now (gt l) o q) (he : o.left = []) (hout : ∀ m ∈ o.out, inR l.length m) (j : Int) (h0 : 0 ≤ j) (hj : j < l.length) (hne : j ≠ sp) : gt (applyL now l o.out) j = gt (onceL now (gt l) l ms) j := by
  have hn := right_nd hr
  rw [apply_get now o.out l (gt l) (fun _ _ _ => rfl) hout j h0 hj]
  obtain ⟨i1, i2⟩ := once_get now (gt l) ms l hn hin j h0 hj
  by_cases c : ∃ m ∈ ms, m.To = j
  · obtain ⟨m, h1, h2⟩ := c
    rw [i2 m h1 h2]
    by_cases e : m.To = m.From
    · rw [hI.oth j (fun h => by
        obtain ⟨m', h3, h4, h5⟩ := keyS_mem.1 h
        have e1 := fS_mem hn h3
        have e2 := fS_mem hn h1
        rw [h5] at e1; rw [h2] at e2
        rw [e1] at e2
        apply h4; rw [h5, e2, ← e, h2]) hne]
      unfold valE
      rw [← e, if_neg (by omega), h2]
    · have hk : j ∈ keyS ms := keyS_mem.2 ⟨m, h1, e, h2⟩
      rw [hI.done j hk (by simp [Pk, he]), ← h2, fS_mem hn h1]
  · rw [i1 (fun m hm e => c ⟨m, hm, e⟩)]
    exact hI.oth j (fun h => by obtain ⟨m, h3, _, h5⟩ := keyS_mem.1 h; exact c ⟨m, h3, h5⟩) hne
theorem out_range {ms : List MMove} {sp now : Int} {r0 : Int → Int} {L : Nat} {o : MMovesOrder} {q n : Nat} (hr : RightM ms) (hin : ∀ m ∈ ms, inR L m) (hsp : 0 ≤ sp ∧ sp < L) (hI : MInv (fS ms) (keyS ms) sp n now r0 o q) : ∀ m ∈ o.out, inR L m := by
  intro m hm
  have hn := right_nd hr
  obtain ⟨h1, h2⟩ := hI.fr m hm
  have hk : ∀ t ∈ keyS ms, 0 ≤ t ∧ t < L := by
    intro t ht
    obtain ⟨m, h3, _, rfl⟩ := keyS_mem.1 ht
    exact ⟨(hin m h3).1, (hin m h3).2.1⟩
  have hto : 0 ≤ m.To ∧ m.To < L := by
    rcases h1 with h | h
    · exact hk _ h
    · rw [h]; exact hsp
  refine ⟨hto.1, hto.2, ?_⟩
  rcases h2 with h | h | ⟨t, h3, h4⟩
  · rw [h]; omega
  · have := hk _ h; omega
  · obtain ⟨m', h5, _, rfl⟩ := keyS_mem.1 h3
    rw [fS_mem hn h5] at h4
    rw [h4]; exact (hin m' h5).2.2
end Go.Proofs.Ytjkoiijpmiibpaa
