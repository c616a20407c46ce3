/- Moves: what is asked of an order, and the document's reading. Its conditions: none. -/
import Derived.Test.YtinehfaelciljaaPMov3
import Derived.Test.YtinehfaelciljaaMo3
set_option autoImplicit false
namespace Go.Proofs.Ytinehfaelciljaa
open Go.V Go.RowKit

theorem iter_end {S ρ : Type} {body : S → Option (Ctl S ρ)} (n : Nat) (g : Nat → S) (res : ρ) (hs : ∀ i, i < n → body (g i) = some (.next (g (i + 1)))) (he : body (g n) = some (.done res)) {fu : Nat} (h : n < fu) : iter body fu (g 0) = some res := by
  have key : ∀ (k i fu : Nat), i + k = n → k < fu → iter body fu (g i) = some res := by
    intro k
    induction k with
    | zero =>
      intro i fu hi hfu
      obtain ⟨fu, rfl⟩ : ∃ m, fu = m + 1 := ⟨fu - 1, by omega⟩
      unfold iter
      rw [show i = n by omega, he]
    | succ k ih =>
      intro i fu hi hfu
      obtain ⟨fu, rfl⟩ : ∃ m, fu = m + 1 := ⟨fu - 1, by omega⟩
      unfold iter
      rw [hs i (by omega)]
      exact ih (i + 1) fu (by omega) (by omega)
  exact key n 0 fu (by omega) h
theorem iter_endI {ρ : Type} {body : Int → Option (Ctl Int ρ)} (n : Nat) (res : ρ) (hs : ∀ i : Nat, i < n → body (i : Int) = some (.next ((i + 1 : Nat) : Int))) (he : body (n : Int) = some (.done res)) {fu : Nat} (h : n < fu) : iter body fu 0 = some res :=
  iter_end n (fun i => (i : Int)) res hs he h
theorem first_bad (p : Nat → Prop) (n : Nat) : (∀ i, i < n → ¬ p i) ∨ ∃ i, i < n ∧ p i ∧ ∀ j, j < i → ¬ p j := by
  induction n with
  | zero => exact .inl fun i h => by omega
  | succ n ih =>
    rcases ih with h | ⟨i, h1, h2, h3⟩
    · by_cases c : p n
      · exact .inr ⟨n, by omega, c, h⟩
      · refine .inl fun i hi => ?_
        by_cases e : i = n
        · rw [e]; exact c
        · exact h i (by omega)
    · exact .inr ⟨i, by omega, h2, h3⟩

/-! Right. -/
def badM (ms : List MMove) (i : Nat) : Prop := (gt ms i).To < 0 ∨ (gt ms i).From < -1 ∨ ∃ k, k < i ∧ (gt ms k).To = (gt ms i).To
def RightM (ms : List MMove) : Prop := ∀ i, i < ms.length → ¬ badM ms i
open Classical in
noncomputable def putsM (ms : List MMove) : Nat → List (Int × Int)
  | 0 => []
  | i + 1 => mput (putsM ms i) (gt ms i).To (W (mget (putsM ms i) (gt ms i).To + 1))
open Classical in
theorem puts_get {ms : List MMove} : ∀ i, (∀ j, j < i → ¬ badM ms j) → ∀ t, mget (putsM ms i) t = if ∃ k, k < i ∧ (gt ms k).To = t then 1 else 0 := by
  intro i
  induction i with
  | zero => intro _ t; rw [if_neg (by rintro ⟨k, h, _⟩; omega)]; rfl
  | succ i ih =>
    intro h t
    have hi := ih (fun j hj => h j (by omega))
    have hb := h i (by omega)
    rw [putsM, mget_put, hi (gt ms i).To, hi t]
    rw [if_neg (show ¬ ∃ k, k < i ∧ (gt ms k).To = (gt ms i).To from fun e => hb (.inr (.inr e)))]
    by_cases c : (gt ms i).To = t
    · rw [if_pos c, if_pos ⟨i, by omega, c⟩]; rfl
    · rw [if_neg c]
      have : (∃ k : Nat, k < i ∧ (gt ms (k : Int)).To = t) ↔ ∃ k : Nat, k < i + 1 ∧ (gt ms (k : Int)).To = t := by
        refine ⟨fun ⟨k, h1, h2⟩ => ⟨k, by omega, h2⟩, fun ⟨k, h1, h2⟩ => ⟨k, ?_, h2⟩⟩
        by_cases e : k = i
        · rw [e] at h2; exact absurd h2 c
        · omega
      simp only [this]
open Classical in
theorem m_once {ms : List MMove} {fuel : Nat} (hl : ms.length ≤ 1000) (hf : 1000 < fuel) : m_moves_atOnce fuel ms = some (decide (RightM ms)) := by
  have hstep : ∀ i, i < ms.length → (∀ j, j < i → ¬ badM ms j) → m_moves_atOnce_l1 fuel ms (putsM ms i, (i : Int)) = if badM ms i then some (.done (.inr false)) else some (.next (putsM ms (i + 1), ((i + 1 : Nat) : Int))) := by
    intro i hi hb
    have hin : inb ms (i : Int) = true := inb_true (by omega) (by omega)
    have hd : (i : Int) < (ms.length : Int) := by omega
    have hg := puts_get i hb (gt ms i).To
    unfold m_moves_atOnce_l1
    simp only [hd, decide_true, if_true, hin, W_succ (show i < 9223372036854775807 by omega), mget_put]
    by_cases c1 : (gt ms i).To < 0
    · simp [c1, badM]
    · by_cases c2 : (gt ms i).From < -1
      · simp [c1, c2, badM]
      · by_cases c3 : ∃ k, k < i ∧ (gt ms k).To = (gt ms i).To
        · rw [if_pos c3] at hg
          rw [if_pos (show badM ms i from .inr (.inr c3))]
          simp only [c1, c2, hg, decide_false, Bool.false_eq_true, if_false, if_true]
          rfl
        · rw [if_neg c3] at hg
          rw [if_neg (show ¬ badM ms i from fun h => h.elim c1 (fun h => h.elim c2 c3))]
          simp only [c1, c2, decide_false, Bool.false_eq_true, if_false, putsM, hg]
          rfl
  unfold m_moves_atOnce
  rcases first_bad (badM ms) ms.length with h | ⟨i, h1, h2, h3⟩
  · rw [show ((([] : List (Int × Int)), (0 : Int))) = (putsM ms 0, ((0 : Nat) : Int)) from rfl]
    rw [iter_end (body := m_moves_atOnce_l1 fuel ms) ms.length (fun i => (putsM ms i, (i : Int))) (.inl ()) (fun i hi => by rw [hstep i hi (fun j hj => h j (by omega)), if_neg (h i hi)]) (by unfold m_moves_atOnce_l1; simp) (by omega), decide_eq_true (show RightM ms from h)]
    rfl
  · rw [show ((([] : List (Int × Int)), (0 : Int))) = (putsM ms 0, ((0 : Nat) : Int)) from rfl]
    rw [iter_end (body := m_moves_atOnce_l1 fuel ms) i (fun i => (putsM ms i, (i : Int))) (.inr false) (fun j hj => by rw [hstep j (by omega) (fun k hk => h3 k (by omega)), if_neg (h3 j hj)]) (by rw [hstep i h1 h3, if_pos h2]) (by omega), decide_eq_false (show ¬ RightM ms from fun h => h i h1 h2)]
    rfl
/-! Free. -/
def usesM (ms : List MMove) (sp : Int) (i : Nat) : Prop := (gt ms i).To = sp ∨ (gt ms i).From = sp
def FreeM (ms : List MMove) (sp : Int) : Prop := 0 ≤ sp ∧ ∀ i, i < ms.length → ¬ usesM ms sp i
open Classical in
theorem m_contains {ms : List MMove} {fuel : Nat} {sp : Int} (hl : ms.length ≤ 1000) (hf : 1000 < fuel) : m_slices_ContainsFunc_api_Move_api_Move_moves_Order_1 fuel ms sp = some (decide (∃ i, i < ms.length ∧ usesM ms sp i)) := by
  have hstep : ∀ i, i < ms.length → m_slices_IndexFunc_api_Move_api_Move_moves_Order_1_l1 fuel ms sp (i : Int) = if usesM ms sp i then some (.done (.inr (i : Int))) else some (.next ((i + 1 : Nat) : Int)) := by
    intro i hi
    have hin : inb ms (i : Int) = true := inb_true (by omega) (by omega)
    have hd : (i : Int) < (ms.length : Int) := by omega
    unfold m_slices_IndexFunc_api_Move_api_Move_moves_Order_1_l1 m_moves_Order_1
    simp only [hd, decide_true, if_true, hin, W_succ (show i < 9223372036854775807 by omega)]
    by_cases c1 : (gt ms i).To = sp
    · simp [c1, usesM]
    · by_cases c2 : (gt ms i).From = sp <;> simp [c1, c2, usesM]
  unfold m_slices_ContainsFunc_api_Move_api_Move_moves_Order_1 m_slices_IndexFunc_api_Move_api_Move_moves_Order_1
  rcases first_bad (usesM ms sp) ms.length with h | ⟨i, h1, h2, h3⟩
  · rw [iter_endI (body := m_slices_IndexFunc_api_Move_api_Move_moves_Order_1_l1 fuel ms sp) ms.length (.inl ()) (fun i hi => by rw [hstep i hi, if_neg (h i hi)]) (by unfold m_slices_IndexFunc_api_Move_api_Move_moves_Order_1_l1; simp) (by omega), decide_eq_false (fun ⟨i, h4, h5⟩ => h i h4 h5)]
    rfl
  · rw [iter_endI (body := m_slices_IndexFunc_api_Move_api_Move_moves_Order_1_l1 fuel ms sp) i (.inr (i : Int)) (fun j hj => by rw [hstep j (by omega), if_neg (h3 j hj)]) (by rw [hstep i h1, if_pos h2]) (by omega), decide_eq_true ⟨i, h1, h2⟩]
    simp

/-! What is asked. -/
def ntM (m : MMove) : Bool := m.To != m.From
def leftM (ms : List MMove) : List (Int × Int) := (ms.filter ntM).map fun m => (m.To, m.From)
def keysM (ms : List MMove) : List Int := (ms.filter ntM).map MMove.To
def askM (ms : List MMove) (sp : Int) : MMovesOrder := ⟨leftM ms, sortI (keysM ms), sp, []⟩
theorem gt_take {ms : List MMove} {i : Nat} (h : i < ms.length) : ms.take (i + 1) = ms.take i ++ [gt ms i] := by
  rw [List.take_add_one, List.getElem?_eq_getElem h, gt_get_nat (x := ms[i]) (by simp [h])]; rfl
theorem m_ask {ms : List MMove} {sp : Int} {fuel : Nat} (hr : (ms.map MMove.To).Nodup) (hl : ms.length ≤ 1000) (hf : 1000 < fuel) : m_moves_ask fuel ms sp = some (askM ms sp) := by
  have hstep : ∀ i, i < ms.length → m_moves_ask_l1 fuel sp ms (⟨leftM (ms.take i), keysM (ms.take i), sp, []⟩, (i : Int)) = some (.next (⟨leftM (ms.take (i + 1)), keysM (ms.take (i + 1)), sp, []⟩, ((i + 1 : Nat) : Int))) := by
    intro i hi
    have hin : inb ms (i : Int) = true := inb_true (by omega) (by omega)
    have hd : (i : Int) < (ms.length : Int) := by omega
    have hlen : (keysM (ms.take i)).length ≤ 1000 := by
      unfold keysM; rw [List.length_map]
      have := List.length_filter_le ntM (ms.take i)
      rw [List.length_take] at this; omega
    unfold m_moves_ask_l1
    simp only [hd, decide_true, if_true, hin, W_succ (show i < 9223372036854775807 by omega)]
    rw [gt_take hi]
    cases c : ntM (gt ms i) with
    | true =>
      have hno : mhas (leftM (ms.take i)) (gt ms i).To = false := by
        cases h : mhas (leftM (ms.take i)) (gt ms i).To with
        | false => rfl
        | true =>
          exfalso
          have h2 := (mhas_iff _ _).1 h
          unfold leftM at h2
          rw [List.map_map] at h2
          obtain ⟨m, h3, h4⟩ := List.mem_map.1 h2
          have h5 := (List.mem_filter.1 h3).1
          have hsp : ms = ms.take i ++ ms.drop i := (List.take_append_drop i ms).symm
          rw [hsp, List.map_append, List.nodup_append] at hr
          refine hr.2.2 m.To (List.mem_map.2 ⟨m, h5, rfl⟩) (gt ms i).To (List.mem_map.2 ⟨gt ms i, ?_, rfl⟩) h4
          rw [gt_get_nat (x := ms[i]) (by simp [hi]), List.drop_eq_getElem_cons hi]
          exact List.mem_cons_self ..
      have hap : apOk 8 (keysM (ms.take i)) [(gt ms i).To] = true := apOk_true (by simp; omega)
      have hc : ((gt ms i).To != (gt ms i).From) = true := c
      have e1 : leftM (ms.take i ++ [gt ms i]) = leftM (ms.take i) ++ [((gt ms i).To, (gt ms i).From)] := by simp [leftM, List.filter_cons, c]
      have e2 : keysM (ms.take i ++ [gt ms i]) = keysM (ms.take i) ++ [(gt ms i).To] := by simp [keysM, List.filter_cons, c]
      simp only [hc, if_true, hap, bind_some', keys_put_new _ _ _ hno, e1, e2]
    | false =>
      have hc : ((gt ms i).To != (gt ms i).From) = false := c
      have e1 : leftM (ms.take i ++ [gt ms i]) = leftM (ms.take i) := by simp [leftM, List.filter_cons, c]
      have e2 : keysM (ms.take i ++ [gt ms i]) = keysM (ms.take i) := by simp [keysM, List.filter_cons, c]
      simp only [hc, Bool.false_eq_true, if_false, bind_some', e1, e2]
  have := iter_end (body := m_moves_ask_l1 fuel sp ms) (fu := fuel) ms.length (fun i => ((⟨leftM (ms.take i), keysM (ms.take i), sp, []⟩ : MMovesOrder), (i : Int))) (⟨leftM ms, keysM ms, sp, []⟩ : MMovesOrder) hstep (by unfold m_moves_ask_l1; simp) (by omega)
  unfold m_moves_ask
  rw [show ((⟨([] : List (Int × Int)), [], sp, []⟩ : MMovesOrder), (0 : Int)) = ((⟨leftM (ms.take 0), keysM (ms.take 0), sp, []⟩ : MMovesOrder), ((0 : Nat) : Int)) from rfl, this]
  have hlen : (keysM ms).length ≤ 1000 := by
    unfold keysM; rw [List.length_map]
    have := List.length_filter_le ntM ms; omega
  simp only [bind_some']
  rw [if_pos (decide_eq_true (show (keysM ms).length < 4611686018427387904 by omega))]
  rfl
end Go.Proofs.Ytinehfaelciljaa
