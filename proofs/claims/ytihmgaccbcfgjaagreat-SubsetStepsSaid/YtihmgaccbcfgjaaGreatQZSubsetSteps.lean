/- P. Its conditions: none. -/
import Derived.Test.YtihmgaccbcfgjaaGreatQFSubsetSteps
import Derived.Test.YtihmgaccbcfgjaaGreatQPLSubsetSteps
set_option linter.all false
namespace Go.Proofs.YtihmgaccbcfgjaaGreat
theorem subsetSteps_holds:Rows.SubsetStepsSaid:=O0N N0e
