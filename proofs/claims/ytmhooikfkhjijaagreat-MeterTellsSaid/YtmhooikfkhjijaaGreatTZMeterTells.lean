/- MeterTells holds: what it costs, by the program and by the document. Its conditions: none. -/
import Derived.Test.YtmhooikfkhjijaaGreatTFMeterTells
import Derived.Test.YtmhooikfkhjijaaGreatTPLMeterTells
set_option linter.all false
namespace Go.Proofs.YtmhooikfkhjijaaGreat
theorem meterTells_holds:Rows.MeterTellsSaid:=U0F V0s
