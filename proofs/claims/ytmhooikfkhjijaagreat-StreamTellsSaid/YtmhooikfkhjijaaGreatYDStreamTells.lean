/- P. Its conditions: none. -/
import Derived.Test.YtmhooikfkhjijaaGreatYMd
import Derived.Test.YtmhooikfkhjijaaGreatYX15
set_option linter.all false
set_option maxRecDepth 100000
namespace Go.Proofs.YtmhooikfkhjijaaGreat
open Go.V Go.RowKit Go.ChangeShapes Go.WideShapes Go.ChangeAt Go.X
def a1w:Prop:=∀(p0:(List U0)) (p1:b0D) (p2:(List F07)),V4 en 20 (.list (.st 0)) p0->V4 en 20 (.st 4) p1->V4 en 20 (.list (.st 6)) p2->p0.length*64<=140737488351232->p2.length*32<=140737488351232->∃F,Z01 F p0 p1 p2=some true
