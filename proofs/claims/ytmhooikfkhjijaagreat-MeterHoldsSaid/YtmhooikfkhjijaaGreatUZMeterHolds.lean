/- MeterHolds holds: what it costs is at most what it may cost. Its conditions: none. -/
import Derived.Test.YtmhooikfkhjijaaGreatUFMeterHolds
import Derived.Test.YtmhooikfkhjijaaGreatUPLMeterHolds
set_option linter.all false
namespace Go.Proofs.YtmhooikfkhjijaaGreat
theorem meterHolds_holds:Rows.MeterHoldsSaid:=W0M T0n
