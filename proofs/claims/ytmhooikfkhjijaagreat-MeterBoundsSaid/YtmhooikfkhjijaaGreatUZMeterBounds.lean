/- MeterBounds holds: what it may cost, by the program and by the document. Its conditions: none. -/
import Derived.Test.YtmhooikfkhjijaaGreatUFMeterBounds
import Derived.Test.YtmhooikfkhjijaaGreatUPLMeterBounds
set_option linter.all false
namespace Go.Proofs.YtmhooikfkhjijaaGreat
theorem meterBounds_holds:Rows.MeterBoundsSaid:=W03 V0H
