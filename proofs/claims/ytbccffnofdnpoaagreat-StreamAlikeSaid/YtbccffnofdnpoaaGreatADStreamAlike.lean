/- P. Its conditions: none. -/
import Derived.Test.YtbccffnofdnpoaaGreatAMd
import Derived.Test.YtbccffnofdnpoaaGreatAX15
set_option linter.all false
set_option maxRecDepth 100000
namespace Go.Proofs.YtbccffnofdnpoaaGreat
open Go.V Go.RowKit Go.ChangeShapes Go.WideShapes Go.ChangeAt Go.X
def u0D:Prop:=∀(p0:(List D0)) (p1:(List a0u)),wfD en 20 (.list (.st 0)) p0->wfD en 20 (.list (.st 1)) p1->p0.length*64<=140737488351232->p1.length*32<=140737488351232->∃F,o0N F p0 p1=some true
