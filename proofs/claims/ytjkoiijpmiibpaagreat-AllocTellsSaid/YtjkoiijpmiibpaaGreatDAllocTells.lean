/- What is to be shown of the model of a law. Its conditions: none. -/
import Derived.Test.YtjkoiijpmiibpaaGreatMo
import Derived.Test.YtjkoiijpmiibpaaGreatRd
import Derived.Test.YtjkoiijpmiibpaaGreatMo3
set_option maxRecDepth 100000
set_option autoImplicit false
set_option linter.unusedVariables false
namespace Go.Proofs.YtjkoiijpmiibpaaGreat
open Go.V Go.RowKit Go.ChangeShapes Go.WideShapes Go.ChangeAt
def AllocTellsLaw : Prop := ∀ (p0 : MProg) (p1 : MProg) (p2 : (List Int)), (wfProg) p0 → (wfProg) p1 → (fun l => ∀ x ∈ l, (inK .u8) x) p2 → p2.length * 1 ≤ 140737488351232 → ∃ fuel, m_law28_AllocTells fuel p0 p1 p2 = some true
end Go.Proofs.YtjkoiijpmiibpaaGreat
