/- What is to be shown of the model of a law. Its conditions: none. -/
import Derived.Test.YtdficaoajalfaaaGreatWMd
import Derived.Test.YtdficaoajalfaaaGreatWX15
set_option linter.all false
set_option maxRecDepth 100000
namespace Go.Proofs.YtdficaoajalfaaaGreat
open Go.V Go.RowKit Go.ChangeShapes Go.WideShapes Go.ChangeAt Go.X
def y0Q:Prop:=∀ (p0:(List D0)) (p1:N4) (p2:g0m),I1 en 20 (.list (.st 0)) p0->I1 en 20 (.st 12) p1->I1 en 20 (.st 13) p2->p0.length*64<=140737488351232->∃ F,l0k F p0 p1 p2=some true
