/- DriveAnswers holds: what any machine finds, and matches, in any bytes. Its conditions: none. -/
import Derived.Test.YtihmgaccbcfgjaaGreatQFDriveAnswers
import Derived.Test.YtihmgaccbcfgjaaGreatQPLDriveAnswers
set_option linter.all false
namespace Go.Proofs.YtihmgaccbcfgjaaGreat
theorem driveAnswers_holds:Rows.DriveAnswersSaid:=p00 driveAnswers
