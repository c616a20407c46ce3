/- What is to be shown of the model of a law. Its conditions: none. -/
import Derived.Test.YtfhehbfifffipaaMo
import Derived.Test.YtfhehbfifffipaaRd
import Derived.Test.YtfhehbfifffipaaMo9
set_option maxRecDepth 100000
set_option autoImplicit false
set_option linter.unusedVariables false
namespace Go.Proofs.Ytfhehbfifffipaa
open Go.V Go.RowKit Go.ChangeShapes Go.WideShapes Go.ChangeAt
def TraceKeepsLaw : Prop := ∀ (p0 : (List MTerm)) (p1 : MGimletlaw18Two) (p2 : (List Int)), (fun l => ∀ x ∈ l, (wfTerm) x) p0 → p0.length * 64 ≤ 140737488351232 → (wfGimletlaw18Two) p1 → (fun l => ∀ x ∈ l, (inK .i64) x) p2 → p2.length * 8 ≤ 140737488351232 → ∃ fuel, m_law18_TraceKeeps fuel p0 p1 p2 = some true
end Go.Proofs.Ytfhehbfifffipaa
