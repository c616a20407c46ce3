/- P. Its conditions: none. -/
import Derived.Test.YtmhooikfkhjijaaGreatYMd
import Derived.Test.YtmhooikfkhjijaaGreatYX15
set_option linter.all false
set_option maxRecDepth 100000
namespace Go.Proofs.YtmhooikfkhjijaaGreat
open Go.V Go.RowKit Go.ChangeShapes Go.WideShapes Go.ChangeAt Go.X
def N0V:Prop:=∀(p0:(List C0)) (p1:(List a07)),wfD en 20 (.list (.st 0)) p0->wfD en 20 (.list (.st 6)) p1->p0.length*64<=140737488351232->p1.length*32<=140737488351232->∃F,M08 F p0 p1=some true
