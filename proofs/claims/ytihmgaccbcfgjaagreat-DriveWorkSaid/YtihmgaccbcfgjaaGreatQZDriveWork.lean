/- DriveWork holds: a car does at most 1 and as many as the most registers of a state with each byte; it goes the same way by bytes of the same classes. Its conditions: none. -/
import Derived.Test.YtihmgaccbcfgjaaGreatQFDriveWork
import Derived.Test.YtihmgaccbcfgjaaGreatQPLDriveWork
set_option linter.all false
namespace Go.Proofs.YtihmgaccbcfgjaaGreat
theorem driveWork_holds:Rows.DriveWorkSaid:=r0P driveWork
