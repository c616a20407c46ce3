/- StreamEmpty holds: an empty piece changes nothing, two pieces are as one. Its conditions: none. -/
import Derived.Test.YtmhooikfkhjijaaGreatWFStreamEmpty
import Derived.Test.YtmhooikfkhjijaaGreatWPLStreamEmpty
set_option linter.all false
namespace Go.Proofs.YtmhooikfkhjijaaGreat
theorem streamEmpty_holds:Rows.StreamEmptySaid:=Z0g Y0L
