/- P. Its conditions: none. -/
import Derived.Test.YtmhooikfkhjijaaGreatYFStreamTells
import Derived.Test.YtmhooikfkhjijaaGreatYPLStreamTells
set_option linter.all false
namespace Go.Proofs.YtmhooikfkhjijaaGreat
theorem streamTells_holds:Rows.StreamTellsSaid:=a1R b1z
