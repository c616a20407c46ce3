/- P. Its conditions: none. -/
import Derived.Test.YtihmgaccbcfgjaaGreatQMd
import Derived.Test.YtihmgaccbcfgjaaGreatQX15
set_option linter.all false
set_option maxRecDepth 100000
namespace Go.Proofs.YtihmgaccbcfgjaaGreat
open Go.V Go.RowKit Go.ChangeShapes Go.WideShapes Go.ChangeAt Go.X
def M0J:Prop:=∀(p0:(List C0)) (p1:Int) (a:(List Int)),wfD en 20 (.list (.st 3)) p0->wfD en 20 (.int .i64) p1->wfD en 20 (.list (.int .u8)) a->p0.length*64<=140737488351232->a.length*1<=140737488351232->∃F,L0w F p0 p1 a=some true
