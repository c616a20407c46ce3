/- What is to be shown of the model of a law. Its conditions: none. -/
import Derived.Test.YtfhehbfifffipaaMo
import Derived.Test.YtfhehbfifffipaaRd
import Derived.Test.YtfhehbfifffipaaMo6
set_option maxRecDepth 100000
set_option autoImplicit false
set_option linter.unusedVariables false
namespace Go.Proofs.Ytfhehbfifffipaa
open Go.V Go.RowKit Go.ChangeShapes Go.WideShapes Go.ChangeAt
def FollowOpenLaw : Prop := ∀ (p0 : (List MTerm)) (p1 : Int), (fun l => ∀ x ∈ l, (wfTerm) x) p0 → p0.length * 64 ≤ 140737488351232 → (inK .i64) p1 → ∃ fuel, m_law17_FollowOpen fuel p0 p1 = some true
end Go.Proofs.Ytfhehbfifffipaa
