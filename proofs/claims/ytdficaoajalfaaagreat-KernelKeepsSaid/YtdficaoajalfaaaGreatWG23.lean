/- Laws of the models and helpers of the proof. Its conditions: none. -/
import Derived.Test.YtdficaoajalfaaaGreatWMd
import Derived.Test.YtdficaoajalfaaaGreatWEn
import Derived.Test.YtdficaoajalfaaaGreatWX17
import Derived.Test.YtdficaoajalfaaaGreatWX14
import Derived.Test.YtdficaoajalfaaaGreatWVKey
set_option linter.all false
set_option maxRecDepth 100000
noncomputable section
namespace Go.Proofs.YtdficaoajalfaaaGreat
open Go.V Go.RowKit Go.X
theorem x0j (F:Nat) (x:_):D1 en (y0F F) 67 [.d (.list (.st 0))] (.d .bool) [] x=(a01 F).m x:=by kernel_rfl
theorem G0S (F:Nat) (x:_):D1 en (G09 F) 155 [.d (.st 7),.d (.st 7)] (.d .bool) [] x=(m0A F).m x:=by kernel_rfl
theorem G0K (F:Nat) (x:_):D1 en (y0y F) 125 [.d (.list (.st 0))] (.own 3 (.int .i64)) [] x=(f0R F).m x:=by kernel_rfl
theorem y0O (F:Nat) (x:_):D1 en (A0G F) 166 [.d (.list (.st 0))] (.own 3 (.int .i64)) [] x=(l0n F).m x:=by kernel_rfl
theorem x0N (F:Nat) (x:_):D1 en (F0C F) 107 [.d (.list (.st 0))] (.own 3 (.int .i64)) [] x=(e0Q F).m x:=by kernel_rfl
theorem D05 (F:Nat) (x:_):D1 en (B0P F) 128 [.d (.list (.st 0)),.d (.int .i64)] (.own 121 (.st 3)) [] x=(p0K F).m x:=by kernel_rfl
theorem D0p (F:Nat) (x:_):D1 en (B0R F) 123 [.d (.list (.st 0)),.d (.int .i64)] (.own 3 (.int .i64)) [] x=(k0L F).m x:=by kernel_rfl
theorem z0v (F:Nat) (x:_):D1 en (y0t F) 112 [.d (.list (.st 0)),.d (.int .i64)] (.tup [.d (.st 3),.d .bool]) [] x=(j0y F).m x:=by kernel_rfl
theorem H0L (F:Nat) (x:_):D1 en (B0g F) 115 [.d (.list (.st 0)),.d (.st 12)] (.tup [.own 171 (.st 18),.d (.st 7)]) [] x=(o0j F).m x:=by kernel_rfl
theorem C0p (F:Nat) (x:_):D1 en (w0X F) 117 [.d (.list (.st 18)),.d (.int .i64)] (.tup [.own 3 (.int .i64),.own 121 (.st 3)]) [] x=(p0g F).m x:=by kernel_rfl
theorem y0s (F:Nat) (x:_):D1 en (w01 F) 159 [.d (.list (.st 0)),.d (.int .i64)] (.tup [.alt .nilp (.box 239 [.d (.st 20)]),.d (.int .i64),.d .bool]) [] x=(j0D F).m x:=by kernel_rfl
theorem F0R (F:Nat) (x:_):D1 en (D0E F) 134 [.d (.st 7),.d (.int .i64)] (.d .bool) [] x=(i0p F).m x:=by kernel_rfl
theorem C0M (F:Nat) (x:_):D1 en (C0Q F) 110 [.d (.st 7),.d (.int .i64)] (.d .bool) [] x=(j0Y F).m x:=by kernel_rfl
theorem G0k (F:Nat) (x:_):D1 en (B0K F) 116 [.d (.arr 4 (.int .u64)),.d (.int .u8)] (.d .bool) [] x=(n0K F).m x:=by kernel_rfl
theorem I0u (F:Nat) (x:_):D1 en (E0J F) 114 [.d (.list (.st 0))] (.own 3 (.int .i64)) [] x=(l0I F).m x:=by kernel_rfl
theorem B0w (F:Nat) (x:_):D1 en (F0h F) 51 [.d (.list (.st 0)),.d (.st 12)] (.d .bool) [] x=(f0U F).m x:=by kernel_rfl
theorem G08 (F:Nat) (x:_):D1 en (D0a F) 162 [.d (.int .i64),.d (.int .i64)] (.own 3 (.int .i64)) [] x=(m04 F).m x:=by kernel_rfl
theorem B07 (F:Nat) (x:_):D1 en (D09 F) 129 [.d (.list (.st 0)),.d (.int .i64)] (.own 121 (.st 3)) [] x=(p0v F).m x:=by kernel_rfl
theorem z0r (F:Nat) (x:_):D1 en (F0J F) 189 [.d (.list (.st 0)),.d (.int .i64)] (.own 3 (.int .i64)) [] x=(k0Z F).m x:=by kernel_rfl
theorem G02 (F:Nat) (x:_):D1 en (D0d F) 167 [.d (.list (.st 0)),.d (.list (.int .i64)),.d (.int .i64)] (.d (.int .i64)) [] x=(o02 F).m x:=by kernel_rfl
theorem y0I (F:Nat) (x:_):D1 en (C0g F) 192 [.d (.list (.int .i64)),.d (.list (.int .i64))] (.d (.list (.int .i64))) [] x=(k0K F).m x:=by kernel_rfl
theorem E0x (F:Nat) (x:_):D1 en (G0A F) 163 [.d (.list (.int .i64)),.d (.list (.int .i64))] (.own 3 (.int .i64)) [] x=(j0N F).m x:=by kernel_rfl
theorem B0T (F:Nat) (x:_):D1 en (y0e F) 164 [.d (.list (.list (.int .i64))),.d (.list (.int .i64))] (.own 47 (.list (.int .i64))) [] x=(o03 F).m x:=by kernel_rfl
theorem B0X (F:Nat) (x:_):D1 en (C0j F) 118 [.d (.list (.st 0)),.agg [.d (.int .i64),.d (.list (.int .i64)),.V0 47 [3] (.list (.int .i64)),.d (.st 7)]] (.agg [.d (.int .i64),.d (.list (.int .i64)),.V0 47 [3] (.list (.int .i64)),.d (.st 7)]) [] x=(n09 F).m x:=by kernel_rfl
theorem B0U (F:Nat) (x:_):D1 en (A0U F) 102 [] (.own 147 (.st 0)) [] x=(m0u F).m x:=by kernel_rfl
theorem H07 (F:Nat) (x:_):D1 en (z0x F) 168 [.d (.st 0)] (.d .bool) [] x=(m09 F).m x:=by kernel_rfl
theorem D0v (F:Nat) (x:_):D1 en (C06 F) 156 [.d (.list (.st 0))] (.d (.int .i64)) [] x=(o0n F).m x:=by kernel_rfl
theorem y0S (F:Nat) (x:_):D1 en (x0q F) 20 [.d (.list (.st 0))] (.d .bool) [] x=(b0t F).m x:=by kernel_rfl
theorem F0A (F:Nat) (x:_):D1 en (E0B F) 169 [.d (.st 0),.d (.list (.st 0))] (.d .bool) [] x=(m05 F).m x:=by kernel_rfl
theorem H0k (F:Nat) (x:_):D1 en (A0s F) 157 [.d (.list (.list (.int .i64))),.d (.int .i64)] (.d .bool) [] x=(p0Z F).m x:=by kernel_rfl
theorem D0X (F:Nat) (x:_):D1 en (w08 F) 74 [.d (.list (.st 0)),.d (.st 7),.d (.list (.int .i64)),.d (.list (.st 3))] (.d (.st 7)) [] x=(m0X F).m x:=by kernel_rfl
theorem H0a (F:Nat) (x:_):D1 en (y0V F) 191 [.d (.ptr (.st 20)),.d (.int .i64),.d (.int .i64),.d (.list (.int .i64)),.own 121 (.st 3)] (.own 121 (.st 3)) [] x=(m0j F).m x:=by kernel_rfl
