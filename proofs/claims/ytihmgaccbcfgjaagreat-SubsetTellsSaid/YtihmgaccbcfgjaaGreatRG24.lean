/- The Env is right. Plain tools: loops by an invariant, indices, sums that fit. Its conditions: none. -/
import Derived.Test.YtihmgaccbcfgjaaGreatREn
import Derived.Test.YtihmgaccbcfgjaaGreatRX13
import Derived.Test.YtihmgaccbcfgjaaGreatRG02
set_option linter.all false
set_option maxRecDepth 100000
namespace Go.Proofs.YtihmgaccbcfgjaaGreat
open Go.V Go.RowKit Go.X
theorem j0M:∀ i H S cs x,(en.ty i).R H S cs x↔(S6 en (en.fs i)).R H S cs (en.un i x)
 |0,_,_,_,_=>Iff.rfl
 |1,_,_,_,_=>Iff.rfl
 |2,_,_,_,_=>Iff.rfl
 |3,_,_,_,_=>Iff.rfl
 |4,_,_,_,_=>Iff.rfl
 |5,_,_,_,_=>Iff.rfl
 |6,_,_,_,_=>Iff.rfl
 |7,_,_,_,_=>Iff.rfl
 |8,_,_,_,_=>Iff.rfl
 |9,_,_,_,_=>Iff.rfl
 |10,_,_,_,_=>Iff.rfl
 |11,_,_,_,_=>Iff.rfl
 |12,_,_,_,_=>Iff.rfl
 |13,_,_,_,_=>Iff.rfl
 |14,_,_,_,_=>Iff.rfl
 |15,_,_,_,_=>Iff.rfl
 |16,_,_,_,_=>Iff.rfl
 |17,_,_,_,_=>Iff.rfl
 |18,_,_,_,_=>Iff.rfl
 |19,_,_,_,_=>Iff.rfl
 |20,_,_,_,_=>Iff.rfl
 |_+21,_,_,_,_=>Iff.rfl
theorem w0U:∀ i,(en.ty i).sz=(S6 en (en.fs i)).sz
 |0=>rfl
 |1=>rfl
 |2=>rfl
 |3=>rfl
 |4=>rfl
 |5=>rfl
 |6=>rfl
 |7=>rfl
 |8=>rfl
 |9=>rfl
 |10=>rfl
 |11=>rfl
 |12=>rfl
 |13=>rfl
 |14=>rfl
 |15=>rfl
 |16=>rfl
 |17=>rfl
 |18=>rfl
 |19=>rfl
 |20=>rfl
 |_+21=>rfl
theorem r0f:∀ i h,en.un i (en.mkS i h)=h
 |0,_=>rfl
 |1,_=>rfl
 |2,_=>rfl
 |3,_=>rfl
 |4,_=>rfl
 |5,_=>rfl
 |6,_=>rfl
 |7,_=>rfl
 |8,_=>rfl
 |9,_=>rfl
 |10,_=>rfl
 |11,_=>rfl
 |12,_=>rfl
 |13,_=>rfl
 |14,_=>rfl
 |15,_=>rfl
 |16,_=>rfl
 |17,_=>rfl
 |18,_=>rfl
 |19,_=>rfl
 |20,_=>rfl
 |_+21,_=>rfl
theorem K9:B1 en:=⟨j0M,w0U,r0f,by kernel_rfl⟩
end Go.Proofs.YtihmgaccbcfgjaaGreat
namespace Go.V
open Go.RowKit
theorem c0R {n:Int} (h1:-9223372036854775808<=n) (h2:n<=9223372036854775807):W n=n:=by
 simp [W,IntKind.wrap,IntKind.bits,IntKind.signed];omega
theorem R2 {n:Nat} (h2:n<9223372036854775807):W ((n:Int)+1)=((n+1:Nat):Int):=by rw [c0R (by omega) (by omega)];rfl
theorem v0m {α:Type} [Inhabited α] (l:List α) (i:Nat):gt l (i:Int)=l.getD i default:=rfl
theorem Y5 {α:Type} [Inhabited α] {l:List α} {i:Nat} {x:α} (h:l[i]?=some x):gt l (i:Int)=x:=by
 rw [v0m,List.getD_eq_getElem?_getD,h];rfl
theorem Y3 {α:Type} (l:List α) (i:Nat):y0 l (i:Int)=decide (i<l.length):=by
 simp [y0]
theorem B4 {α:Type} {l:List α} {i:Int} (h0:0<=i) (h:i<l.length):y0 l i=true:=by simp [y0,h0,h]
theorem a7 {α:Type} {b:Nat} {xs ys:List α} (h:(xs.length+ys.length)*b<=140737488355328):C1 b xs ys=true:=by simpa [C1] using h
@[simp] theorem F1 {α β:Type _} (x:α) (f:α->Option β):Option.bind (some x) f=f x:=rfl
theorem z0U {α:Type} [Inhabited α] {l m:List α} {i:Int} (h0:0<=i) (h:i<l.length):gt (l++m) i=gt l i:=by
 unfold gt;rw [List.getD_eq_getElem?_getD,List.getD_eq_getElem?_getD,List.getElem?_append_left (by omega)]
