/- What is to be shown of the model of a law. Its conditions: none. -/
import Derived.Test.YtfhehbfifffipaaMo
import Derived.Test.YtfhehbfifffipaaRd
import Derived.Test.YtfhehbfifffipaaMo5
set_option maxRecDepth 100000
set_option autoImplicit false
set_option linter.unusedVariables false
namespace Go.Proofs.Ytfhehbfifffipaa
open Go.V Go.RowKit Go.ChangeShapes Go.WideShapes Go.ChangeAt
def FollowJoinsLaw : Prop := ∀ (p0 : (List MTerm)) (p1 : (List Int)) (p2 : (List MEntry)), (fun l => ∀ x ∈ l, (wfTerm) x) p0 → p0.length * 64 ≤ 140737488351232 → (fun l => ∀ x ∈ l, (inK .u8) x) p1 → p1.length * 1 ≤ 140737488351232 → (fun l => ∀ x ∈ l, (wfEntry) x) p2 → p2.length * 32 ≤ 140737488351232 → ∃ fuel, m_law17_FollowJoins fuel p0 p1 p2 = some true
end Go.Proofs.Ytfhehbfifffipaa
