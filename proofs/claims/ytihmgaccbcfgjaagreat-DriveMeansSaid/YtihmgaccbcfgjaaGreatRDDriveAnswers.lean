/- P. Its conditions: none. -/
import Derived.Test.YtihmgaccbcfgjaaGreatRMd
import Derived.Test.YtihmgaccbcfgjaaGreatRX15
set_option linter.all false
set_option maxRecDepth 100000
namespace Go.Proofs.YtihmgaccbcfgjaaGreat
open Go.V Go.RowKit Go.ChangeShapes Go.WideShapes Go.ChangeAt Go.X
def N0P:Prop:=∀(p0:Y1) (p1:(List Int)),wfD en 20 (.st 2) p0->wfD en 20 (.list (.int .u8)) p1->p1.length*1<=140737488351232->∃F,M0I F p0 p1=some true
