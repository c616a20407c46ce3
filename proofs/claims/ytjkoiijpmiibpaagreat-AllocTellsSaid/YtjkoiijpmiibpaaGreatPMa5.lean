/- Moves: the order of a list of moves, and the least number by the document. Its conditions: none. -/
import Derived.Test.YtjkoiijpmiibpaaGreatPMa4
set_option autoImplicit false
namespace Go.Proofs.YtjkoiijpmiibpaaGreat
open Go.V Go.RowKit

/-! The keys. -/
end Go.Proofs.YtjkoiijpmiibpaaGreat
