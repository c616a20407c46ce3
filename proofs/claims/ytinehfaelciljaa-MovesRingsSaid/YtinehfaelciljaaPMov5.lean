/- Moves: the order of a list of moves, and the least number by the document. Its conditions: none. -/
import Derived.Test.YtinehfaelciljaaPMov4
set_option autoImplicit false
namespace Go.Proofs.Ytinehfaelciljaa
open Go.V Go.RowKit

theorem gtE {α : Type} [Inhabited α] {l : List α} {i : Nat} (h : i < l.length) : gt l (i : Int) = l[i] := gt_get_nat (by simp [h])
theorem right_nd {ms : List MMove} (h : RightM ms) : (ms.map MMove.To).Nodup := by
  unfold List.Nodup
  rw [List.pairwise_map, List.pairwise_iff_getElem]
  intro i j hi hj hij e
  exact h j hj (.inr (.inr ⟨i, hij, by rw [gtE hi, gtE hj]; exact e⟩))
theorem right_to {ms : List MMove} (h : RightM ms) : ∀ m ∈ ms, 0 ≤ m.To ∧ -1 ≤ m.From := by
  intro m hm
  obtain ⟨i, hi, rfl⟩ := List.mem_iff_getElem.1 hm
  have := h i hi
  unfold badM at this
  rw [gtE hi] at this
  exact ⟨Int.not_lt.1 fun c => this (.inl c), Int.not_lt.1 fun c => this (.inr (.inl c))⟩
def fS (ms : List MMove) (x : Int) : Int := match ms.find? (fun m => m.To == x) with | some m => m.From | none => -2
theorem fS_mem {ms : List MMove} (hn : (ms.map MMove.To).Nodup) {m : MMove} (hm : m ∈ ms) : fS ms m.To = m.From := by
  induction ms with
  | nil => simp at hm
  | cons a ms ih =>
    rw [List.map_cons, List.nodup_cons] at hn
    unfold fS
    rw [List.find?_cons]
    rcases List.mem_cons.1 hm with rfl | hm
    · simp
    · have : (a.To == m.To) = false := by
        rw [beq_eq_false_iff_ne]
        intro e
        exact hn.1 (List.mem_map.2 ⟨m, hm, e.symm⟩)
      rw [this]
      exact ih hn.2 hm
theorem fS_no {ms : List MMove} {x : Int} (h : ∀ m ∈ ms, m.To ≠ x) : fS ms x = -2 := by
  unfold fS
  rw [List.find?_eq_none.2 (fun m hm => by simpa using h m hm)]
/-! The keys. -/
def keyS (ms : List MMove) : List Int := sortI (keysM ms)
theorem keyS_mem {ms : List MMove} {t : Int} : t ∈ keyS ms ↔ ∃ m ∈ ms, m.To ≠ m.From ∧ m.To = t := by
  unfold keyS
  rw [(sortI_perm _).mem_iff]
  unfold keysM
  constructor
  · intro h
    obtain ⟨m, h1, h2⟩ := List.mem_map.1 h
    have h3 := List.mem_filter.1 h1
    exact ⟨m, h3.1, by simpa [ntM] using h3.2, h2⟩
  · rintro ⟨m, h1, h2, h3⟩
    exact List.mem_map.2 ⟨m, List.mem_filter.2 ⟨h1, by simpa [ntM] using h2⟩, h3⟩
theorem keysM_nd {ms : List MMove} (h : (ms.map MMove.To).Nodup) : (keysM ms).Nodup :=
  (List.filter_sublist.map MMove.To).nodup h
theorem keyS_len (ms : List MMove) : (keyS ms).length = ms.countP ntM := by
  unfold keyS keysM
  rw [sortI_len, List.length_map, List.countP_eq_length_filter]
theorem keyS_le (ms : List MMove) : (keyS ms).length ≤ ms.length := by rw [keyS_len]; exact List.countP_le_length
theorem set_of {ms : List MMove} {sp : Int} (hr : RightM ms) (hsp : ∀ m ∈ ms, m.To ≠ sp ∧ m.From ≠ sp) (sp1 : sp ≠ -1) : MSet (fS ms) (keyS ms) sp (ms.length + 1) := by
  have hn := right_nd hr
  have ht := right_to hr
  refine ⟨(sortI_perm _).nodup_iff.2 (keysM_nd hn), sortI_sorted _, fun t h => ?_, fun h => ?_, fun t h => ?_, fun h => ?_, sp1, fun x hx h => ?_, Nat.le_trans (keyS_le ms) (Nat.le_succ _)⟩
  · obtain ⟨m, h1, h2, rfl⟩ := keyS_mem.1 h
    rw [fS_mem hn h1]; exact h2.symm
  · obtain ⟨m, h1, h2, h3⟩ := keyS_mem.1 h
    exact (hsp m h1).1 h3
  · obtain ⟨m, h1, h2, rfl⟩ := keyS_mem.1 h
    rw [fS_mem hn h1]; exact (hsp m h1).2
  · obtain ⟨m, h1, h2, h3⟩ := keyS_mem.1 h
    have := (ht m h1).1; omega
  · by_cases c : ∃ m ∈ ms, m.To = x
    · obtain ⟨m, h1, rfl⟩ := c
      have h2 : m.To = m.From := Classical.byContradiction fun e => hx (keyS_mem.2 ⟨m, h1, e, rfl⟩)
      rw [fS_mem hn h1, ← h2] at h
      exact hx h
    · rw [fS_no (fun m hm e => c ⟨m, hm, e⟩)] at h
      obtain ⟨m, h1, h2, h3⟩ := keyS_mem.1 h
      have := (ht m h1).1; omega
theorem left_get {l : List MMove} (hn : (l.map MMove.To).Nodup) {m : MMove} (hm : m ∈ l) : mget (l.map fun m => (m.To, m.From)) m.To = m.From := by
  induction l with
  | nil => simp at hm
  | cons a l ih =>
    rw [List.map_cons, List.nodup_cons] at hn
    rw [List.map_cons, mget]
    rcases List.mem_cons.1 hm with rfl | hm
    · simp
    · have : (a.To == m.To) = false := by
        rw [beq_eq_false_iff_ne]
        intro e
        exact hn.1 (List.mem_map.2 ⟨m, hm, e.symm⟩)
      rw [this]
      exact ih hn.2 hm
open Classical in
theorem init_of {ms : List MMove} {sp : Int} (now : Int) (r0 : Int → Int) (hr : RightM ms) (S : MSet (fS ms) (keyS ms) sp (ms.length + 1)) : MInv (fS ms) (keyS ms) sp (ms.length + 1) now r0 (askM ms sp) 0 := by
  have hn := right_nd hr
  have hP : Pk (askM ms sp) = keysM ms := by unfold Pk askM leftM keysM; simp [List.map_map, Function.comp_def]
  have hPm : ∀ t, t ∈ Pk (askM ms sp) ↔ t ∈ keyS ms := fun t => by rw [hP]; exact (sortI_perm _).mem_iff.symm
  have hg : ∀ t ∈ keyS ms, mget (askM ms sp).left t = fS ms t := by
    intro t h
    obtain ⟨m, h1, h2, rfl⟩ := keyS_mem.1 h
    rw [fS_mem hn h1]
    exact left_get ((List.filter_sublist.map MMove.To).nodup hn) (List.mem_filter.2 ⟨h1, by simpa [ntM] using h2⟩)
  refine ⟨rfl, rfl, hP ▸ keysM_nd hn, fun t h => (hPm t).1 h, fun t h => .inl (hg t ((hPm t).1 h)), fun t h => ?_, fun t h h2 => absurd ((hPm t).2 h) h2, fun t _ _ => rfl, fun m hm => ?_, fun m hm => ?_, fun m hm => ?_, ?_, ?_⟩
  · rw [hg t ((hPm t).1 h)]; rfl
  · simp [askM] at hm
  · simp [askM] at hm
  · simp [askM] at hm
  · have h1 : (askM ms sp).left.length = (keysM ms).length := by have := congrArg List.length hP; simpa [Pk] using this
    have h2 : (keyS ms).length = (keysM ms).length := sortI_len _
    rw [h1, h2]; simp [askM]
  · rw [Nat.zero_add]
    unfold cntW rings
    refine countP_same fun m hm => decide_eq_decide.2 ⟨fun h => h.1, fun h => ⟨h, fun j => ?_⟩⟩
    obtain ⟨p, p1, _, p2, _⟩ := h
    have hj : it (fS ms) j m ∈ keyS ms := by
      refine Classical.byContradiction fun c => ?_
      have hout : ∀ d, it (fS ms) (d + j) m ∉ keyS ms := by
        intro d
        induction d with
        | zero => rw [Nat.zero_add]; exact c
        | succ d ih => rw [Nat.succ_add]; exact S.cl _ ih
      have h3 : j ≤ j * p := Nat.le_mul_of_pos_right _ p1
      have := hout (j * p - j)
      rw [show j * p - j + j = j * p by omega, it_mul p2] at this
      exact this hm
    exact ⟨(hPm _).2 hj, hg _ hj⟩
open Classical in
theorem end_cnt {f : Int → Int} {K : List Int} {n : Nat} {o : MMovesOrder} (h : o.left = []) : cntW f K n o = 0 := by
  unfold cntW
  rw [List.countP_eq_zero]
  intro m _ c
  have := (of_decide_eq_true c).2 0
  simp [Pk, h] at this
theorem order_ends {ms : List MMove} {sp : Int} {fuel : Nat} (now : Int) (r0 : Int → Int) (hl : ms.length ≤ 60) (hr : RightM ms) (hsp : ∀ m ∈ ms, m.To ≠ sp ∧ m.From ≠ sp) (sp1 : sp ≠ -1) (hf : 1000 < fuel) : ∃ o, m_moves_order_run fuel (askM ms sp) = some o ∧ MInv (fS ms) (keyS ms) sp (ms.length + 1) now r0 o (rings (fS ms) (keyS ms) (ms.length + 1)) ∧ o.left = [] := by
  have S := set_of hr hsp sp1
  have I := init_of now r0 hr S
  have hK : (keyS ms).length ≤ 60 := Nat.le_trans (keyS_le ms) hl
  obtain ⟨o, q, h1, h2, h3⟩ := m_run (fuel := fuel) S hK hf (askM ms sp) 200 (askM ms sp) 0 fuel (by
    have h4 := I.len
    unfold measO
    have h5 : (askM ms sp).out = [] := rfl
    rw [h5, List.length_nil] at h4
    split <;> omega) (by omega) I
  have h4 := h2.cnt
  rw [end_cnt h3, Nat.add_zero] at h4
  subst h4
  refine ⟨o, ?_, h2, h3⟩
  unfold m_moves_order_run
  rw [h1]; rfl

/-! The document's rings. -/
end Go.Proofs.Ytinehfaelciljaa
