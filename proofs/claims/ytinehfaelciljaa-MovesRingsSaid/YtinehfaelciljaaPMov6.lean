/- Moves: what is done to the registers. Its conditions: none. -/
import Derived.Test.YtinehfaelciljaaPMov5
set_option autoImplicit false
namespace Go.Proofs.Ytinehfaelciljaa
open Go.V Go.RowKit

theorem gt_set {l : List Int} {i : Nat} {v j : Int} (hi : i < l.length) (h0 : 0 ≤ j) (hj : j < l.length) : gt (l.set i v) j = if j = (i : Int) then v else gt l j := by
  obtain ⟨k, rfl⟩ : ∃ k : Nat, j = (k : Int) := ⟨j.toNat, by omega⟩
  rw [gtE (show k < (l.set i v).length by rw [List.length_set]; omega), gtE (show k < l.length by omega), List.getElem_set]
  by_cases c : i = k
  · subst c; simp
  · rw [if_neg c, if_neg (by omega)]
def inR (L : Nat) (m : MMove) : Prop := 0 ≤ m.To ∧ m.To < L ∧ -1 ≤ m.From ∧ m.From < L
theorem getM {l : List Int} {m : MMove} {now : Int} {fuel : Nat} (h : inR l.length m) : m_moves_get fuel l m now = some (valE now (gt l) m.From, true) := by
  obtain ⟨h1, h2, h3, h4⟩ := h
  unfold m_moves_get valE
  by_cases c : m.From = -1
  · simp [show ¬ m.To < 0 by omega, show ¬ (l.length : Int) ≤ m.To by omega, c, show ¬ (l.length : Int) ≤ -1 by omega]
  · simp [show ¬ m.To < 0 by omega, show ¬ (l.length : Int) ≤ m.To by omega, show ¬ (l.length : Int) ≤ m.From by omega, show ¬ m.From < 0 by omega, c, inb_true (show 0 ≤ m.From by omega) h4]
def applyL (now : Int) (l : List Int) (ms : List MMove) : List Int := ms.foldl (fun l m => l.set m.To.toNat (valE now (gt l) m.From)) l
def onceL (now : Int) (r : Int → Int) (l : List Int) (ms : List MMove) : List Int := ms.foldl (fun l m => l.set m.To.toNat (valE now r m.From)) l
theorem apply_len (now : Int) (ms : List MMove) : ∀ l : List Int, (applyL now l ms).length = l.length := by
  induction ms with
  | nil => intro l; rfl
  | cons m ms ih => intro l; exact (ih _).trans (List.length_set ..)
theorem once_len (now : Int) (r : Int → Int) (ms : List MMove) : ∀ l : List Int, (onceL now r l ms).length = l.length := by
  induction ms with
  | nil => intro l; rfl
  | cons m ms ih => intro l; exact (ih _).trans (List.length_set ..)
theorem apply_snoc (now : Int) (l : List Int) (ms : List MMove) (m : MMove) : applyL now l (ms ++ [m]) = (applyL now l ms).set m.To.toNat (valE now (gt (applyL now l ms)) m.From) := by simp [applyL]
theorem once_snoc (now : Int) (r : Int → Int) (l : List Int) (ms : List MMove) (m : MMove) : onceL now r l (ms ++ [m]) = (onceL now r l ms).set m.To.toNat (valE now r m.From) := by simp [onceL]
theorem apply_get (now : Int) (ms : List MMove) : ∀ (l : List Int) (r : Int → Int), (∀ j : Int, 0 ≤ j → j < l.length → gt l j = r j) → (∀ m ∈ ms, inR l.length m) → ∀ j : Int, 0 ≤ j → j < l.length → gt (applyL now l ms) j = runE now r ms j := by
  induction ms with
  | nil => intro l r h _; exact h
  | cons m ms ih =>
    intro l r h hm j h0 hj
    have hlen : (l.set m.To.toNat (valE now (gt l) m.From)).length = l.length := List.length_set ..
    obtain ⟨m1, m2, m3, m4⟩ := hm m (by simp)
    refine ih _ (stepE now r m) (fun k k0 k1 => ?_) (fun x hx => by rw [hlen]; exact hm x (by simp [hx])) j h0 (by rw [hlen]; exact hj)
    rw [hlen] at k1
    rw [gt_set (by omega) k0 k1]
    unfold stepE
    rw [show ((m.To.toNat : Nat) : Int) = m.To by omega]
    split
    · unfold valE
      split
      · rfl
      · exact h _ (by omega) m4
    · exact h k k0 k1
theorem once_get (now : Int) (r : Int → Int) (ms : List MMove) : ∀ (l : List Int), (ms.map MMove.To).Nodup → (∀ m ∈ ms, inR l.length m) → ∀ j : Int, 0 ≤ j → j < l.length → ((∀ m ∈ ms, m.To ≠ j) → gt (onceL now r l ms) j = gt l j) ∧ (∀ m ∈ ms, m.To = j → gt (onceL now r l ms) j = valE now r m.From) := by
  induction ms with
  | nil => intro l _ _ j _ _; exact ⟨fun _ => rfl, fun m hm => by simp at hm⟩
  | cons m ms ih =>
    intro l hn hm j h0 hj
    rw [List.map_cons, List.nodup_cons] at hn
    have hlen : (l.set m.To.toNat (valE now r m.From)).length = l.length := List.length_set ..
    obtain ⟨m1, m2, m3, m4⟩ := hm m (by simp)
    obtain ⟨i1, i2⟩ := ih (l.set m.To.toNat (valE now r m.From)) hn.2 (fun x hx => by rw [hlen]; exact hm x (by simp [hx])) j h0 (by rw [hlen]; exact hj)
    have hs := gt_set (l := l) (i := m.To.toNat) (v := valE now r m.From) (by omega) h0 hj
    rw [show ((m.To.toNat : Nat) : Int) = m.To by omega] at hs
    refine ⟨fun h => ?_, fun x hx e => ?_⟩
    · have e1 := i1 (fun x hx => h x (by simp [hx]))
      rw [hs, if_neg (fun e => h m (by simp) e.symm)] at e1
      exact e1
    · rcases List.mem_cons.1 hx with rfl | hx
      · have e1 := i1 (fun y hy e2 => hn.1 (List.mem_map.2 ⟨y, hy, e2.trans e.symm⟩))
        rw [hs, if_pos e.symm] at e1
        exact e1
      · exact i2 x hx e
theorem m_applyM {l : List Int} {ms : List MMove} {now : Int} {fuel : Nat} (hr : ∀ m ∈ ms, inR l.length m) (hl : ms.length ≤ 1000) (hL : l.length ≤ 1000) (hf : 1000 < fuel) : m_moves_Apply fuel l ms now = some (applyL now l ms) := by
  have hstep : ∀ i, i < ms.length → m_moves_Apply_l1 fuel now l ms (applyL now l (ms.take i), (i : Int)) = some (.next (applyL now l (ms.take (i + 1)), ((i + 1 : Nat) : Int))) := by
    intro i hi
    have hin : inb ms (i : Int) = true := inb_true (by omega) (by omega)
    have hd : (i : Int) < (ms.length : Int) := by omega
    have hm : inR l.length (gt ms i) := by rw [gtE hi]; exact hr _ (List.getElem_mem hi)
    have hlen := apply_len now (ms.take i) l
    unfold m_moves_Apply_l1
    rw [gt_take hi, apply_snoc]
    simp only [hd, decide_true, if_true, hin, getM (l := applyL now l (ms.take i)) (fuel := fuel) (now := now) (by rw [hlen]; exact hm), bind_some', W_succ (show i < 9223372036854775807 by omega), inb_true (l := applyL now l (ms.take i)) hm.1 (by rw [hlen]; exact hm.2.1)]
  have := iter_end (body := m_moves_Apply_l1 fuel now l ms) (fu := fuel) ms.length (fun i => (applyL now l (ms.take i), (i : Int))) (applyL now l ms) hstep (by unfold m_moves_Apply_l1; simp) (by omega)
  unfold m_moves_Apply m_slices_Clone_int_int
  rw [if_pos (apOk_true (by simp; omega))]
  have h0 : iter (m_moves_Apply_l1 fuel now l ms) fuel (l, 0) = some (applyL now l ms) := this
  simp only [bind_some', h0]
theorem m_onceM {l : List Int} {ms : List MMove} {now : Int} {fuel : Nat} (hr : ∀ m ∈ ms, inR l.length m) (hl : ms.length ≤ 1000) (hL : l.length ≤ 1000) (hf : 1000 < fuel) : m_moves_Once fuel l ms now = some (onceL now (gt l) l ms) := by
  have hstep : ∀ i, i < ms.length → m_moves_Once_l1 fuel l now l ms (onceL now (gt l) l (ms.take i), (i : Int)) = some (.next (onceL now (gt l) l (ms.take (i + 1)), ((i + 1 : Nat) : Int))) := by
    intro i hi
    have hin : inb ms (i : Int) = true := inb_true (by omega) (by omega)
    have hd : (i : Int) < (ms.length : Int) := by omega
    have hm : inR l.length (gt ms i) := by rw [gtE hi]; exact hr _ (List.getElem_mem hi)
    have hlen := once_len now (gt l) (ms.take i) l
    unfold m_moves_Once_l1
    rw [gt_take hi, once_snoc]
    simp only [hd, decide_true, if_true, hin, getM (l := l) (fuel := fuel) (now := now) hm, bind_some', W_succ (show i < 9223372036854775807 by omega), inb_true (l := onceL now (gt l) l (ms.take i)) hm.1 (by rw [hlen]; exact hm.2.1)]
  have := iter_end (body := m_moves_Once_l1 fuel l now l ms) (fu := fuel) ms.length (fun i => (onceL now (gt l) l (ms.take i), (i : Int))) (onceL now (gt l) l ms) hstep (by unfold m_moves_Once_l1; simp) (by omega)
  unfold m_moves_Once m_slices_Clone_int_int
  rw [if_pos (apOk_true (by simp; omega))]
  have h0 : iter (m_moves_Once_l1 fuel l now l ms) fuel (l, 0) = some (onceL now (gt l) l ms) := this
  simp only [bind_some', h0]
/-! Applied in the order, the moves do what they do at once. -/
theorem end_regs {ms : List MMove} {sp now : Int} {l : List Int} {o : MMovesOrder} {q : Nat} {n : Nat} (hr : RightM ms) (hin : ∀ m ∈ ms, inR l.length m) (hI : MInv (fS ms) (keyS ms) sp n now (gt l) o q) (he : o.left = []) (hout : ∀ m ∈ o.out, inR l.length m) (j : Int) (h0 : 0 ≤ j) (hj : j < l.length) (hne : j ≠ sp) : gt (applyL now l o.out) j = gt (onceL now (gt l) l ms) j := by
  have hn := right_nd hr
  rw [apply_get now o.out l (gt l) (fun _ _ _ => rfl) hout j h0 hj]
  obtain ⟨i1, i2⟩ := once_get now (gt l) ms l hn hin j h0 hj
  by_cases c : ∃ m ∈ ms, m.To = j
  · obtain ⟨m, h1, h2⟩ := c
    rw [i2 m h1 h2]
    by_cases e : m.To = m.From
    · rw [hI.oth j (fun h => by
        obtain ⟨m', h3, h4, h5⟩ := keyS_mem.1 h
        have e1 := fS_mem hn h3
        have e2 := fS_mem hn h1
        rw [h5] at e1; rw [h2] at e2
        rw [e1] at e2
        apply h4; rw [h5, e2, ← e, h2]) hne]
      unfold valE
      rw [← e, if_neg (by omega), h2]
    · have hk : j ∈ keyS ms := keyS_mem.2 ⟨m, h1, e, h2⟩
      rw [hI.done j hk (by simp [Pk, he]), ← h2, fS_mem hn h1]
  · rw [i1 (fun m hm e => c ⟨m, hm, e⟩)]
    exact hI.oth j (fun h => by obtain ⟨m, h3, _, h5⟩ := keyS_mem.1 h; exact c ⟨m, h3, h5⟩) hne
theorem out_range {ms : List MMove} {sp now : Int} {r0 : Int → Int} {L : Nat} {o : MMovesOrder} {q n : Nat} (hr : RightM ms) (hin : ∀ m ∈ ms, inR L m) (hsp : 0 ≤ sp ∧ sp < L) (hI : MInv (fS ms) (keyS ms) sp n now r0 o q) : ∀ m ∈ o.out, inR L m := by
  intro m hm
  have hn := right_nd hr
  obtain ⟨h1, h2⟩ := hI.fr m hm
  have hk : ∀ t ∈ keyS ms, 0 ≤ t ∧ t < L := by
    intro t ht
    obtain ⟨m, h3, _, rfl⟩ := keyS_mem.1 ht
    exact ⟨(hin m h3).1, (hin m h3).2.1⟩
  have hto : 0 ≤ m.To ∧ m.To < L := by
    rcases h1 with h | h
    · exact hk _ h
    · rw [h]; exact hsp
  refine ⟨hto.1, hto.2, ?_⟩
  rcases h2 with h | h | ⟨t, h3, h4⟩
  · rw [h]; omega
  · have := hk _ h; omega
  · obtain ⟨m', h5, _, rfl⟩ := keyS_mem.1 h3
    rw [fS_mem hn h5] at h4
    rw [h4]; exact (hin m' h5).2.2
end Go.Proofs.Ytinehfaelciljaa
