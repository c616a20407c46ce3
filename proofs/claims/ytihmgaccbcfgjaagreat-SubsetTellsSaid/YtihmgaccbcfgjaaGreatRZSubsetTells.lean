/- SubsetTells holds: whether any machine is one, whether any two are the same, and which states are come to. Its conditions: none. -/
import Derived.Test.YtihmgaccbcfgjaaGreatRFSubsetTells
import Derived.Test.YtihmgaccbcfgjaaGreatRPLSubsetTells
set_option linter.all false
namespace Go.Proofs.YtihmgaccbcfgjaaGreat
theorem subsetTells_holds:Rows.SubsetTellsSaid:=B0z subsetTells
