/- What is to be shown of the model of a law. Its conditions: none. -/
import Derived.Test.YtihmgaccbcfgjaaGreatRMd
import Derived.Test.YtihmgaccbcfgjaaGreatRX15
set_option linter.all false
set_option maxRecDepth 100000
namespace Go.Proofs.YtihmgaccbcfgjaaGreat
open Go.V Go.RowKit Go.ChangeShapes Go.WideShapes Go.ChangeAt Go.X
def A0E:Prop:=∀ (p0:K0) (p1:K0),V4 en 20 (.st 2) p0->V4 en 20 (.st 2) p1->∃ F,A0t F p0 p1=some true
