/- What is to be shown of the model of a law. Its conditions: none. -/
import Derived.Test.YtjkoiijpmiibpaaGreatMo
import Derived.Test.YtjkoiijpmiibpaaGreatRd
import Derived.Test.YtjkoiijpmiibpaaGreatMo4
set_option maxRecDepth 100000
set_option autoImplicit false
set_option linter.unusedVariables false
namespace Go.Proofs.YtjkoiijpmiibpaaGreat
open Go.V Go.RowKit Go.ChangeShapes Go.WideShapes Go.ChangeAt
def AllocRunsLaw : Prop := ∀ (p0 : MDfa) (p1 : (List Int)), (wfDfa) p0 → (fun l => ∀ x ∈ l, (inK .u8) x) p1 → p1.length * 1 ≤ 140737488351232 → ∃ fuel, m_law28_AllocRuns fuel p0 p1 = some true
end Go.Proofs.YtjkoiijpmiibpaaGreat
