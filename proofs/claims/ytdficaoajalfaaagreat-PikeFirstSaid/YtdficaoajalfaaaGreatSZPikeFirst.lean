/- PikeFirst holds: the longest first part that is found is as the term, with the same groups; no longer part is as it. Its conditions: none. -/
import Derived.Test.YtdficaoajalfaaaGreatSFPikeFirst
import Derived.Test.YtdficaoajalfaaaGreatSPLPikeFirst
set_option linter.all false
namespace Go.Proofs.YtdficaoajalfaaaGreat
theorem pikeFirst_holds:Rows.PikeFirstSaid:=a_2i a_5u
