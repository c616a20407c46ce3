/- Plain tools: loops by an invariant, indices, sums that fit. Its conditions: none. -/
import Derived.Test.YtjkoiijpmiibpaaVMap
namespace Go.V
open Go.RowKit

theorem W_id {n : Int} (h1 : -9223372036854775808 ≤ n) (h2 : n ≤ 9223372036854775807) : W n = n := by
  simp [W, IntKind.wrap, IntKind.bits, IntKind.signed]; omega
theorem W_succ {n : Nat} (h2 : n < 9223372036854775807) : W ((n : Int) + 1) = ((n + 1 : Nat) : Int) := by rw [W_id (by omega) (by omega)]; rfl

theorem gt_nat {α : Type} [Inhabited α] (l : List α) (i : Nat) : gt l (i : Int) = l.getD i default := rfl
theorem gt_get_nat {α : Type} [Inhabited α] {l : List α} {i : Nat} {x : α} (h : l[i]? = some x) : gt l (i : Int) = x := by
  rw [gt_nat, List.getD_eq_getElem?_getD, h]; rfl
theorem inb_true {α : Type} {l : List α} {i : Int} (h0 : 0 ≤ i) (h : i < l.length) : inb l i = true := by simp [inb, h0, h]
theorem apOk_true {α : Type} {b : Nat} {xs ys : List α} (h : (xs.length + ys.length) * b ≤ 140737488355328) : apOk b xs ys = true := by simpa [apOk] using h
@[simp] theorem bind_some' {α β : Type _} (x : α) (f : α → Option β) : Option.bind (some x) f = f x := rfl

theorem gt_append_left {α : Type} [Inhabited α] {l m : List α} {i : Int} (h0 : 0 ≤ i) (h : i < l.length) : gt (l ++ m) i = gt l i := by
  unfold gt
  rw [List.getD_eq_getElem?_getD, List.getD_eq_getElem?_getD, List.getElem?_append_left (by omega)]
end Go.V
