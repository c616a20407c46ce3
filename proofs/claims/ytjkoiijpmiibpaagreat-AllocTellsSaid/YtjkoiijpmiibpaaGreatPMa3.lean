/- Moves: an order is run to its end. Its conditions: none. -/
import Derived.Test.YtjkoiijpmiibpaaGreatPMa2
set_option autoImplicit false
namespace Go.Proofs.YtjkoiijpmiibpaaGreat
open Go.V Go.RowKit
variable {f : Int → Int} {K : List Int} {sp now : Int} {n : Nat} {r0 : Int → Int}
theorem MInv.waits {o : MMovesOrder} {q : Nat} (I : MInv f K sp n now r0 o q) {t : Int} : waitsB o t = true ↔ ∃ s ∈ Pk o, mget o.left s = t := by
  unfold waitsB
  rw [List.any_eq_true]
  constructor
  · rintro ⟨s, hs, h⟩
    simp only [Bool.and_eq_true, beq_iff_eq] at h
    exact ⟨s, (mhas_iff _ _).1 h.1, h.2⟩
  · rintro ⟨s, hs, h⟩
    exact ⟨s, by rw [I.keys]; exact I.sub s hs, by rw [(mhas_iff _ _).2 hs, h]; simp⟩
end Go.Proofs.YtjkoiijpmiibpaaGreat
