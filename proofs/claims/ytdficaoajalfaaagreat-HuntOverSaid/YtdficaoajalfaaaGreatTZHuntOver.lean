/- HuntOver holds: what is found changes only to what begins no later, and, where it begins there, ends later; when it is over nothing changes it. Its conditions: none. -/
import Derived.Test.YtdficaoajalfaaaGreatTFHuntOver
import Derived.Test.YtdficaoajalfaaaGreatTPLHuntOver
set_option linter.all false
namespace Go.Proofs.YtdficaoajalfaaaGreat
theorem huntOver_holds:Rows.HuntOverSaid:=b_td b_ug
