/- What must come whatever the input is. Its conditions: none. -/
import Derived.Test.YtjkoiijpmiibpaaMo
import Derived.KernelRfl
set_option autoImplicit false
set_option maxRecDepth 100000
namespace Go.Proofs.Ytjkoiijpmiibpaa
open Go.V Go.RowKit
theorem sure28 : m_law28_sure 10000000000000 = some true := by kernel_rfl
end Go.Proofs.Ytjkoiijpmiibpaa
