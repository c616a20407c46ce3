/- P. Its conditions: none. -/
import Derived.Test.YtihmgaccbcfgjaaGreatRMd
import Derived.Test.YtihmgaccbcfgjaaGreatRX15
set_option linter.all false
set_option maxRecDepth 100000
namespace Go.Proofs.YtihmgaccbcfgjaaGreat
open Go.V Go.RowKit Go.ChangeShapes Go.WideShapes Go.ChangeAt Go.X
def V0f:Prop:=∀(p0:(List C0)) (p1:(List Int)),wfD en 20 (.list (.st 3)) p0->wfD en 20 (.list (.int .u8)) p1->p0.length*64<=140737488351232->p1.length*1<=140737488351232->∃F,T0n F p0 p1=some true
