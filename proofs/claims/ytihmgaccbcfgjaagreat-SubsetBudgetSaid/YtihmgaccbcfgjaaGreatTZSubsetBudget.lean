/- P. Its conditions: none. -/
import Derived.Test.YtihmgaccbcfgjaaGreatTFSubsetBudget
import Derived.Test.YtihmgaccbcfgjaaGreatTPLSubsetBudget
set_option linter.all false
namespace Go.Proofs.YtihmgaccbcfgjaaGreat
theorem subsetBudget_holds:Rows.SubsetBudgetSaid:=F03 G0A
