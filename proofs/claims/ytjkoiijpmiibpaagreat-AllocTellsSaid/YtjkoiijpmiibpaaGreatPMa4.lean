/- Moves: what is asked of an order, and the document's reading. Its conditions: none. -/
import Derived.Test.YtjkoiijpmiibpaaGreatPMa3
set_option autoImplicit false
namespace Go.Proofs.YtjkoiijpmiibpaaGreat
open Go.V Go.RowKit

open Classical in
noncomputable def putsM (ms : List MMove) : Nat → List (Int × Int)
  | 0 => []
  | i + 1 => mput (putsM ms i) (gt ms i).To (W (mget (putsM ms i) (gt ms i).To + 1))
/-! Free. -/
/-! What is asked. -/
theorem gt_take {ms : List MMove} {i : Nat} (h : i < ms.length) : ms.take (i + 1) = ms.take i ++ [gt ms i] := by
  rw [List.take_add_one, List.getElem?_eq_getElem h, gt_get_nat (x := ms[i]) (by simp [h])]; rfl
end Go.Proofs.YtjkoiijpmiibpaaGreat
