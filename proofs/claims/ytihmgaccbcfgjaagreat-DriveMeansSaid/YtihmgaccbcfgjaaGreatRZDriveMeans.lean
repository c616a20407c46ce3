/- P. Its conditions: none. -/
import Derived.Test.YtihmgaccbcfgjaaGreatRFDriveMeans
import Derived.Test.YtihmgaccbcfgjaaGreatRPLDriveMeans
set_option linter.all false
namespace Go.Proofs.YtihmgaccbcfgjaaGreat
theorem driveMeans_holds:Rows.DriveMeansSaid:=W0Z V0A
