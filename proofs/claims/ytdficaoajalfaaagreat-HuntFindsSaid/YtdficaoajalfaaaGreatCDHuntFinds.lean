/- P. Its conditions: none. -/
import Derived.Test.YtdficaoajalfaaaGreatCMd
import Derived.Test.YtdficaoajalfaaaGreatCX15
set_option linter.all false
set_option maxRecDepth 100000
namespace Go.Proofs.YtdficaoajalfaaaGreat
open Go.V Go.RowKit Go.ChangeShapes Go.WideShapes Go.ChangeAt Go.X
def I0A:Prop:=∀(p0:(List C0)) (p1:(List Int)),wfD en 20 (.list (.st 0)) p0->wfD en 20 (.list (.int .u8)) p1->p0.length*64<=140737488351232->p1.length*1<=140737488351232->∃F,G05 F p0 p1=some true
