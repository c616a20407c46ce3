/- P. Its conditions: none. -/
import Derived.Test.YtbccffnofdnpoaaGreatAFStreamAlike
import Derived.Test.YtbccffnofdnpoaaGreatAPLStreamAlike
set_option linter.all false
namespace Go.Proofs.YtbccffnofdnpoaaGreat
theorem streamAlike_holds:Rows.StreamAlikeSaid:=K0e I0G
