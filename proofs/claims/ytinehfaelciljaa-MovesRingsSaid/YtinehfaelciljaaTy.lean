/- How the types of the program read. Its conditions: none. -/
import Derived.Test.YtinehfaelciljaaMo
import Derived.Test.YtinehfaelciljaaRows
set_option maxRecDepth 20000
set_option autoImplicit false
namespace Go.Proofs.Ytinehfaelciljaa
open Go.V Go.RowKit
set_option linter.unusedVariables false
def tMove : Ty MMove where
  sz := 2
  R := fun _ _ cs x => cs = [.int .i64 x.To, .int .i64 x.From]
  len := by rintro _ _ _ _ rfl; rfl
  one := by rintro _ _ _ _ rfl v hv; simp only [List.mem_cons, List.not_mem_nil, or_false] at hv; rcases hv with rfl | rfl <;> rfl
  keep := fun _ h => h
end Go.Proofs.Ytinehfaelciljaa
