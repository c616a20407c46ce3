/- PikeMatches holds: what groups of any term span in all bytes, and in the longest first part of them. Its conditions: none. -/
import Derived.Test.YtdficaoajalfaaaGreatSFPikeMatches
import Derived.Test.YtdficaoajalfaaaGreatSPLPikeMatches
set_option linter.all false
namespace Go.Proofs.YtdficaoajalfaaaGreat
theorem pikeMatches_holds:Rows.PikeMatchesSaid:=a_yo a_0d
