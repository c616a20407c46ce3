/- What is to be shown of the model of a law. Its conditions: none. -/
import Derived.Test.YtjkoiijpmiibpaaMo
import Derived.Test.YtjkoiijpmiibpaaRd
import Derived.Test.YtjkoiijpmiibpaaMo4
set_option maxRecDepth 100000
set_option autoImplicit false
set_option linter.unusedVariables false
namespace Go.Proofs.Ytjkoiijpmiibpaa
open Go.V Go.RowKit Go.ChangeShapes Go.WideShapes Go.ChangeAt
def AllocMakesLaw : Prop := ∀ (p0 : MDfa), (wfDfa) p0 → ∃ fuel, m_law28_AllocMakes fuel p0 = some true
end Go.Proofs.Ytjkoiijpmiibpaa
