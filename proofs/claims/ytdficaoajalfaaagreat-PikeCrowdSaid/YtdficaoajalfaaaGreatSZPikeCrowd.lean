/- PikeCrowd holds: runs are at unlike places, ascending, each began where a run could begin, groups lie between there and the end, ranks are ranks, and two runs that began at two places never change which one is ahead. Its conditions: none. -/
import Derived.Test.YtdficaoajalfaaaGreatSFPikeCrowd
import Derived.Test.YtdficaoajalfaaaGreatSPLPikeCrowd
set_option linter.all false
namespace Go.Proofs.YtdficaoajalfaaaGreat
theorem pikeCrowd_holds:Rows.PikeCrowdSaid:=a_8t b_ek
