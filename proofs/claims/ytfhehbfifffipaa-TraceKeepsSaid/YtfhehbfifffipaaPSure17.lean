/- What must come whatever the input is. Its conditions: none. -/
import Derived.Test.YtfhehbfifffipaaMo
import Derived.KernelRfl
set_option autoImplicit false
set_option maxRecDepth 100000
namespace Go.Proofs.Ytfhehbfifffipaa
open Go.V Go.RowKit
end Go.Proofs.Ytfhehbfifffipaa
