/- slices.SortFunc of structs whose first cell is a small number, by that number; slices.Sort of numbers: on slices of the call's own. Its conditions: none. -/
import Derived.Test.YtinehfaelciljaaVMore
import Derived.Shelf.SlSortCmp.NoneTotal
namespace Go.V
open Go.RowKit

def insK {α : Type} (key : α → Int) (x : α) : List α → List α
  | [] => [x]
  | y :: r => if key x ≤ key y then x :: y :: r else y :: insK key x r
def sortK {α : Type} (key : α → Int) : List α → List α
  | [] => []
  | x :: r => insK key x (sortK key r)
/-- Two lists, one by one in a relation. -/
inductive All2 {α β : Type} (R : α → β → Prop) : List α → List β → Prop
  | nil : All2 R [] []
  | cons {a b l m} (h : R a b) (t : All2 R l m) : All2 R (a :: l) (b :: m)
theorem All2.length {α β : Type} {R : α → β → Prop} {l : List α} {m : List β} (h : All2 R l m) : l.length = m.length := by
  induction h with
  | nil => rfl
  | cons _ _ ih => simp [ih]
theorem All2.get {α β : Type} {R : α → β → Prop} {l : List α} {m : List β} (h : All2 R l m) : ∀ (i : Nat) (a : α) (b : β), l[i]? = some a → m[i]? = some b → R a b := by
  induction h with
  | nil => intro i a b h; simp at h
  | cons h _ ih =>
    intro i a b h1 h2
    cases i with
    | zero => simp at h1 h2; subst h1; subst h2; exact h
    | succ i => exact ih i a b (by simpa using h1) (by simpa using h2)
theorem All2.of {α β : Type} {R : α → β → Prop} : ∀ {l : List α} {m : List β}, l.length = m.length → (∀ (i : Nat) (a : α) (b : β), l[i]? = some a → m[i]? = some b → R a b) → All2 R l m
  | [], [], _, _ => .nil
  | [], _ :: _, h, _ => by simp at h
  | _ :: _, [], h, _ => by simp at h
  | a :: l, b :: m, h, h2 => .cons (h2 0 a b rfl rfl) (All2.of (by simpa using h) fun i x y hx hy => h2 (i + 1) x y (by simpa using hx) (by simpa using hy))
/-- A struct of three cells, the first one a small number. -/
structure RawHop where
  to : Int
  turn : Int
  st : Value
  lo : 0 ≤ to
  hi : to < 4294967296
  h1 : st.oneCell' = true
instance : Inhabited RawHop := ⟨⟨0, 0, .slice none 0 0, by decide, by decide, rfl⟩⟩
def RawHop.cells (x : RawHop) : List Value := [.int .i64 x.to, .int .i64 x.turn, x.st]
def RawHop.less (x y : RawHop) : Int := x.to - y.to
theorem RawHop.wrap (x y : RawHop) : IntKind.i64.wrap (x.to - y.to) = x.to - y.to := by
  have := x.lo; have := x.hi; have := y.lo; have := y.hi
  simp [IntKind.wrap, IntKind.bits, IntKind.signed]; omega

section
variable {α : Type} {T : Ty α} {key : α → Int}
open Go.Sort in
open Go.Sort in
open Go.Sort in
open Go.Sort in
open Go.Sort Go.Shelf Go.Proofs in
open Go.Sort Go.Shelf Go.Proofs in
end
end Go.V
