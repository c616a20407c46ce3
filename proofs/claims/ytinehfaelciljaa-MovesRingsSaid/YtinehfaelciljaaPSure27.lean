/- What must come whatever the input is. Its conditions: none. -/
import Derived.Test.YtinehfaelciljaaMo
import Derived.KernelRfl
set_option autoImplicit false
set_option maxRecDepth 100000
namespace Go.Proofs.Ytinehfaelciljaa
open Go.V Go.RowKit
theorem sure27 : m_law27_sure 10000000000000 = some true := by kernel_rfl
end Go.Proofs.Ytinehfaelciljaa
