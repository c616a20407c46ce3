/- HuntTells holds: byte by byte, what is found, how many runs there are, whether it is over, and how much was done, are the document's. Its conditions: none. -/
import Derived.Test.YtdficaoajalfaaaGreatTFHuntTells
import Derived.Test.YtdficaoajalfaaaGreatTPLHuntTells
set_option linter.all false
namespace Go.Proofs.YtdficaoajalfaaaGreat
theorem huntTells_holds:Rows.HuntTellsSaid:=b_s6 b_s9
