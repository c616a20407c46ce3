/- DriveTells holds: byte by byte, the state, the registers, what was accepted last, and the work of a car of any machine are the document's. Its conditions: none. -/
import Derived.Test.YtihmgaccbcfgjaaGreatQFDriveTells
import Derived.Test.YtihmgaccbcfgjaaGreatQPLDriveTells
set_option linter.all false
namespace Go.Proofs.YtihmgaccbcfgjaaGreat
theorem driveTells_holds:Rows.DriveTellsSaid:=s0c driveTells
