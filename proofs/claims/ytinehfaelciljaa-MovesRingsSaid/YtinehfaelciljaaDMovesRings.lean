/- What is to be shown of the model of a law. Its conditions: none. -/
import Derived.Test.YtinehfaelciljaaMo
import Derived.Test.YtinehfaelciljaaRd
import Derived.Test.YtinehfaelciljaaMo4
set_option maxRecDepth 100000
set_option autoImplicit false
set_option linter.unusedVariables false
namespace Go.Proofs.Ytinehfaelciljaa
open Go.V Go.RowKit Go.ChangeShapes Go.WideShapes Go.ChangeAt
def MovesRingsLaw : Prop := ∀ (p0 : Int) (p1 : Int), (inK .u8) p0 → (inK .u8) p1 → ∃ fuel, m_law27_MovesRings fuel p0 p1 = some true
end Go.Proofs.Ytinehfaelciljaa
