/- P. Its conditions: none. -/
import Derived.Test.YtihmgaccbcfgjaaGreatQFSubsetBuilds
import Derived.Test.YtihmgaccbcfgjaaGreatQPLSubsetBuilds
set_option linter.all false
namespace Go.Proofs.YtihmgaccbcfgjaaGreat
theorem subsetBuilds_holds:Rows.SubsetBuildsSaid:=R0b R0O
