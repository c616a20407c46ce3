/- PikeTells holds: whatever a crowd of any term goes through, its places, tags, rank and work, and what is f_0, are the document's, each time. Its conditions: none. -/
import Derived.Test.YtdficaoajalfaaaGreatSFPikeTells
import Derived.Test.YtdficaoajalfaaaGreatSPLPikeTells
set_option linter.all false
namespace Go.Proofs.YtdficaoajalfaaaGreat
theorem pikeTells_holds:Rows.PikeTellsSaid:=a_2h a_5g
