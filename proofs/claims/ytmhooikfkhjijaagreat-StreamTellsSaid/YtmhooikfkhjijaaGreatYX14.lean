/- P. Its conditions: none. -/
import Derived.Test.YtmhooikfkhjijaaGreatYX13
set_option linter.all false
namespace Go.X
open Go.V Go.RowKit
def gtZ (n:Nat)(xs:List (List Int))(i:Int):List Int:=@gt _ ⟨List.replicate n 0⟩ xs i
def s6 {α:Type}(a:Option α):same a a=a:=by unfold same;simp
def q0X {α:Type}{b:Nat}{xs y:List α}(h:(if C1 b ([]:List α) xs then some xs else none)=some y):
  (if xs.isEmpty then same (some []) (if C1 b ([]:List α) xs then some ([]++xs)else none)else if C1 b ([]:List α) xs then some ([]++xs)else none)=some y:=by
 split at h
 ·rename_i hf;cases h;rw[if_pos hf];cases xs with
  |nil=>simp[s6]
  |cons x xs=>simp
 ·cases h
