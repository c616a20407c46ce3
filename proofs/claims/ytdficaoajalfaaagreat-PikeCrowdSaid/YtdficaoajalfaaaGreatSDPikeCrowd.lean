/- What is to be shown of the model of a law. Its conditions: none. -/
import Derived.Test.YtdficaoajalfaaaGreatSMd
import Derived.Test.YtdficaoajalfaaaGreatSX15
set_option linter.all false
set_option maxRecDepth 100000
namespace Go.Proofs.YtdficaoajalfaaaGreat
open Go.V Go.RowKit Go.ChangeShapes Go.WideShapes Go.ChangeAt Go.X
def a_zo:Prop:=∀ (p0:(List a_2)) (p1:(List k_1)),wfD en 20 (.list (.st 0)) p0->wfD en 20 (.list (.st 2)) p1->p0.length*64<=140737488351232->p1.length*24<=140737488351232->∃ F,a_ke F p0 p1=some true
