/- P. Its conditions: none. -/
import Derived.Test.YtihmgaccbcfgjaaGreatRX13
set_option linter.all false
namespace Go.X
open Go.V Go.RowKit
def gtZ (n:Nat)(xs:List (List Int))(i:Int):List Int:=@gt _ ⟨List.replicate n 0⟩ xs i
def c0V {α:Type}(a:Option α):same a a=a:=by unfold same;simp
def x0x {α:Type}{b:Nat}{xs y:List α}(h:(if K0 b ([]:List α) xs then some xs else none)=some y):
  (if xs.isEmpty then same (some []) (if K0 b ([]:List α) xs then some ([]++xs)else none)else if K0 b ([]:List α) xs then some ([]++xs)else none)=some y:=by
 split at h
 ·rename_i a;cases h;rw[if_pos a];cases xs with
  |nil=>simp[c0V]
  |cons x xs=>simp
 ·cases h
