/- P. Its conditions: none. -/
import Derived.Test.YtihmgaccbcfgjaaGreatQMd
import Derived.Test.YtihmgaccbcfgjaaGreatQX15
set_option linter.all false
set_option maxRecDepth 100000
namespace Go.Proofs.YtihmgaccbcfgjaaGreat
open Go.V Go.RowKit Go.ChangeShapes Go.WideShapes Go.ChangeAt Go.X
def Q0M:Prop:=∀(p0:(List C0)) (p1:g0c),wfD en 20 (.list (.st 3)) p0->wfD en 20 (.st 4) p1->p0.length*64<=140737488351232->∃F,Q0A F p0 p1=some true
