/- P. Its conditions: none. -/
import Derived.Test.YtihmgaccbcfgjaaGreatTMd
import Derived.Test.YtihmgaccbcfgjaaGreatTX15
set_option linter.all false
set_option maxRecDepth 100000
namespace Go.Proofs.YtihmgaccbcfgjaaGreat
open Go.V Go.RowKit Go.ChangeShapes Go.WideShapes Go.ChangeAt Go.X
def v02:Prop:=∀(p0:(List C0)) (p1:Int) (a:(List Int)),wfD en 20 (.list (.st 3)) p0->wfD en 20 (.int .i64) p1->wfD en 20 (.arr 2 (.int .u8)) a->p0.length*64<=140737488351232->∃F,m0J F p0 p1 a=some true
