/- P. Its conditions: none. -/
import Derived.Test.YtmhooikfkhjijaaGreatYFStreamPieces
import Derived.Test.YtmhooikfkhjijaaGreatYPLStreamPieces
set_option linter.all false
namespace Go.Proofs.YtmhooikfkhjijaaGreat
theorem streamPieces_holds:Rows.StreamPiecesSaid:=O0s P0b
