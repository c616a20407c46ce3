/- Machines: what is one (all of it). Its conditions: none. -/
import Derived.Test.YtjkoiijpmiibpaaGreatPAl1
set_option autoImplicit false
namespace Go.Proofs.YtjkoiijpmiibpaaGreat
open Go.V Go.RowKit

/-! The program's reading. -/
theorem idx_has {body : Int → Option (Ctl Int (Unit ⊕ Int))} (n : Nat) (p : Nat → Prop) (hs : ∀ i : Nat, i < n → (p i → body (i : Int) = some (.done (.inr (i : Int)))) ∧ (¬ p i → body (i : Int) = some (.next ((i + 1 : Nat) : Int)))) (he : body (n : Int) = some (.done (.inl ()))) {fu : Nat} (h : n < fu) :
    ((∃ i, i < n ∧ p i) ∧ ∃ i : Nat, iter body fu 0 = some (.inr (i : Int))) ∨ ((∀ i, i < n → ¬ p i) ∧ iter body fu 0 = some (.inl ())) := by
  rcases first_bad p n with h1 | ⟨i, h1, h2, h3⟩
  · exact .inr ⟨h1, iter_endI n _ (fun i hi => (hs i hi).2 (h1 i hi)) he h⟩
  · exact .inl ⟨⟨i, h1, h2⟩, i, iter_endI i _ (fun j hj => (hs j (by omega)).2 (h3 j hj)) ((hs i h1).1 h2) (by omega)⟩
end Go.Proofs.YtjkoiijpmiibpaaGreat
