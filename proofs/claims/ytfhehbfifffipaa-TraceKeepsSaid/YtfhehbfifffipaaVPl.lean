/- Plain tools: loops by an invariant, indices, sums that fit. Its conditions: none. -/
import Derived.Test.YtfhehbfifffipaaVMap
namespace Go.V
open Go.RowKit

theorem W_id {n : Int} (h1 : -9223372036854775808 ≤ n) (h2 : n ≤ 9223372036854775807) : W n = n := by
  simp [W, IntKind.wrap, IntKind.bits, IntKind.signed]; omega
theorem W_succ {n : Nat} (h2 : n < 9223372036854775807) : W ((n : Int) + 1) = ((n + 1 : Nat) : Int) := by rw [W_id (by omega) (by omega)]; rfl

theorem iter_mono {σ τ : Type} {step : σ → Option (Ctl σ τ)} : ∀ {k : Nat} {s : σ} {t : τ} {m : Nat}, iter step k s = some t → k ≤ m → iter step m s = some t
  | 0, s, t, m, h, _ => by simp [iter] at h
  | k + 1, s, t, m, h, hm => by
    obtain ⟨m, rfl⟩ : ∃ q, m = q + 1 := ⟨m - 1, by omega⟩
    unfold iter at h ⊢
    split at h
    · cases h
    · exact iter_mono h (by omega)
    · exact h
/-- A loop over numbers from 0 on. -/
theorem iter_up {σ τ : Type} {step : σ → Option (Ctl σ τ)} (st : Nat → σ) (r : τ) (n : Nat) (hs : ∀ i, i < n → step (st i) = some (.next (st (i + 1))) ∨ step (st i) = some (.done r)) (hd : step (st n) = some (.done r)) :
    ∀ (k i fuel : Nat), i + k = n → k < fuel → iter step fuel (st i) = some r := by
  intro k
  induction k with
  | zero =>
    intro i fuel h hf
    obtain rfl : i = n := by omega
    cases fuel with
    | zero => omega
    | succ f => unfold iter; rw [hd]
  | succ k ih =>
    intro i fuel h hf
    cases fuel with
    | zero => omega
    | succ f =>
      unfold iter
      rcases hs i (by omega) with h1 | h1
      · rw [h1]; exact ih (i + 1) f (by omega) (by omega)
      · rw [h1]

theorem gt_nat {α : Type} [Inhabited α] (l : List α) (i : Nat) : gt l (i : Int) = l.getD i default := rfl
theorem gt_get_nat {α : Type} [Inhabited α] {l : List α} {i : Nat} {x : α} (h : l[i]? = some x) : gt l (i : Int) = x := by
  rw [gt_nat, List.getD_eq_getElem?_getD, h]; rfl
theorem inb_true {α : Type} {l : List α} {i : Int} (h0 : 0 ≤ i) (h : i < l.length) : inb l i = true := by simp [inb, h0, h]
theorem apOk_true {α : Type} {b : Nat} {xs ys : List α} (h : (xs.length + ys.length) * b ≤ 140737488355328) : apOk b xs ys = true := by simpa [apOk] using h
@[simp] theorem bind_some' {α β : Type _} (x : α) (f : α → Option β) : Option.bind (some x) f = f x := rfl

theorem gt_append_left {α : Type} [Inhabited α] {l m : List α} {i : Int} (h0 : 0 ≤ i) (h : i < l.length) : gt (l ++ m) i = gt l i := by
  unfold gt
  rw [List.getD_eq_getElem?_getD, List.getD_eq_getElem?_getD, List.getElem?_append_left (by omega)]
theorem gt_append_right {α : Type} [Inhabited α] {l m : List α} {x : α} {i : Nat} (h : i = l.length) : gt (l ++ x :: m) (i : Int) = x := by
  subst h
  exact gt_get_nat (by simp)
theorem set_mid {α : Type} {l m : List α} {x y : α} {i : Nat} (h : i = l.length) : (l ++ x :: m).set i y = l ++ y :: m := by
  subst h; simp
theorem replicate_cons {α : Type} {n i : Nat} (h : i < n) (x : α) : List.replicate (n - i) x = x :: List.replicate (n - (i + 1)) x := by
  rw [show n - i = (n - (i + 1)) + 1 from by omega, List.replicate_succ]
end Go.V
