/- What is to be shown of the model of a law. Its conditions: none. -/
import Derived.Test.YtinehfaelciljaaMo
import Derived.Test.YtinehfaelciljaaRd
import Derived.Test.YtinehfaelciljaaMo3
set_option maxRecDepth 100000
set_option autoImplicit false
set_option linter.unusedVariables false
namespace Go.Proofs.Ytinehfaelciljaa
open Go.V Go.RowKit Go.ChangeShapes Go.WideShapes Go.ChangeAt
def MovesOrderLaw : Prop := ∀ (p0 : (List MMove)) (p1 : Int) (p2 : (List Int)), (fun l => ∀ x ∈ l, (wfMove) x) p0 → p0.length * 16 ≤ 140737488351232 → (inK .i64) p1 → (fun l => ∀ x ∈ l, (inK .i64) x) p2 → p2.length * 8 ≤ 140737488351232 → ∃ fuel, m_law27_MovesOrder fuel p0 p1 p2 = some true
end Go.Proofs.Ytinehfaelciljaa
