/- P. Its conditions: none. -/
import Derived.Test.YtmhooikfkhjijaaGreatYX13
set_option linter.all false
namespace Go.X
open Go.V Go.RowKit
def gtZ (n:Nat)(xs:List (List Int))(i:Int):List Int:=@gt _ ⟨List.replicate n 0⟩ xs i
def c0y {α:Type}(a:Option α):same a a=a:=by unfold same;simp
def l0C {α:Type}{b:Nat}{xs y:List α}(h:(if I0 b ([]:List α) xs then some xs else none)=some y):
  (if xs.isEmpty then same (some []) (if I0 b ([]:List α) xs then some ([]++xs)else none)else if I0 b ([]:List α) xs then some ([]++xs)else none)=some y:=by
 split at h
 ·rename_i a;cases h;rw[if_pos a];cases xs with
  |nil=>simp[c0y]
  |cons x xs=>simp
 ·cases h
