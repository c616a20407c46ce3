/- What is to be shown of the model of a law. Its conditions: none. -/
import Derived.Test.YtmhooikfkhjijaaGreatTMd
import Derived.Test.YtmhooikfkhjijaaGreatTX15
set_option linter.all false
set_option maxRecDepth 100000
namespace Go.Proofs.YtmhooikfkhjijaaGreat
open Go.V Go.RowKit Go.ChangeShapes Go.WideShapes Go.ChangeAt Go.X
def N0V:Prop:=∀ (p0:(List U0)) (p1:b0D) (p2:(List Int)),V4 en 20 (.list (.st 0)) p0->V4 en 20 (.st 4) p1->V4 en 20 (.list (.int .u8)) p2->p0.length*64<=140737488351232->p2.length*1<=140737488351232->∃ F,J0W F p0 p1 p2=some true
