/- What is to be shown of the model of a law. Its conditions: none. -/
import Derived.Test.YtihmgaccbcfgjaaGreatQMd
import Derived.Test.YtihmgaccbcfgjaaGreatQX15
set_option linter.all false
set_option maxRecDepth 100000
namespace Go.Proofs.YtihmgaccbcfgjaaGreat
open Go.V Go.RowKit Go.ChangeShapes Go.WideShapes Go.ChangeAt Go.X
def o0d:Prop:=∀ (p0:K0) (p1:(List Int)) (p2:(List Int)),V4 en 20 (.st 2) p0->V4 en 20 (.list (.int .u8)) p1->V4 en 20 (.list (.int .u8)) p2->p1.length*1<=140737488351232->p2.length*1<=140737488351232->∃ F,j0I F p0 p1 p2=some true
