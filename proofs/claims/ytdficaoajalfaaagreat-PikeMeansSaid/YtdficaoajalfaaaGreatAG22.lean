/- Laws of the models and helpers of the proof. Its conditions: none. -/
import Derived.Test.YtdficaoajalfaaaGreatAMd
import Derived.Test.YtdficaoajalfaaaGreatAEn
import Derived.Test.YtdficaoajalfaaaGreatAX17
import Derived.Test.YtdficaoajalfaaaGreatAX14
import Derived.Test.YtdficaoajalfaaaGreatAVKey
set_option linter.all false
set_option maxRecDepth 100000
noncomputable section
namespace Go.Proofs.YtdficaoajalfaaaGreat
open Go.V Go.RowKit Go.X
theorem E0J (F:Nat) (x:_):O1 en (D02 F) 14 [] (.d .bool) [] x=(o0K F).m x:=by kernel_rfl
theorem C0l (F:Nat) (x:_):O1 en (D0x F) 132 [.d (.st 7)] (.d (.st 7)) [] x=(o0L F).m x:=by kernel_rfl
theorem v0v (F:Nat) (x:_):O1 en (D0G F) 105 [.d (.list (.st 0))] (.own 4 .bool) [] x=(k0q F).m x:=by kernel_rfl
theorem w0X (F:Nat) (x:_):O1 en (E08 F) 122 [.d (.list (.st 0))] (.d (.int .i64)) [] x=(o0c F).m x:=by kernel_rfl
theorem z0f (F:Nat) (x:_):O1 en (E0S F) 171 [.own 121 (.st 3)] (.own 121 (.st 3)) [] x=(i0z F).m x:=by kernel_rfl
theorem F0q (F:Nat) (x:_):O1 en (y04 F) 124 [.d (.int .i64)] (.tup [.d .bool,.d .bool]) [] x=(o0F F).m x:=by kernel_rfl
theorem D0j (F:Nat) (x:_):O1 en (D0s F) 68 [.d (.list (.st 0))] (.box 129 [.d (.st 6)]) [] x=(m0h F).m x:=by kernel_rfl
theorem z0c (F:Nat) (x:_):O1 en (E02 F) 147 [.d (.st 7),.d (.list (.int .i64))] (.d (.int .i64)) [] x=(l0c F).m x:=by kernel_rfl
theorem z07 (F:Nat) (x:_):O1 en (y0a F) 161 [.d (.list (.st 0)),.d (.int .i64)] (.own 188 (.st 4)) [] x=(o06 F).m x:=by kernel_rfl
theorem F0y (F:Nat) (x:_):O1 en (A08 F) 99 [.d (.st 17),.d (.int .i64),.d (.int .i64),.d (.int .i64)] (.d .bool) [] x=(h0h F).m x:=by kernel_rfl
theorem B0K (F:Nat) (x:_):O1 en (w0J F) 170 [.d (.list (.st 0))] (.tup [.alt .nilp (.box 239 [.d (.st 20)]),.d .bool]) [] x=(j0L F).m x:=by kernel_rfl
theorem y0U (F:Nat) (x:_):O1 en (B0S F) 135 [.d (.st 19),.d (.int .i64),.d (.int .i64)] (.d (.int .i64)) [] x=(j0V F).m x:=by kernel_rfl
theorem D0h (F:Nat) (x:_):O1 en (B0L F) 19 [.d (.list (.st 0)),.d (.list (.int .u8))] (.tup [.own 36 (.st 1),.d (.int .i64)]) [] x=(l04 F).m x:=by kernel_rfl
theorem v0f (F:Nat) (x:_):O1 en (A0R F) 23 [.box 108 [.d (.st 8)],.d (.int .u8),.d .bool] (.tup []) [(0,.box 108 [.d (.st 8)])] x=(m0c F).m x:=by kernel_rfl
theorem x0v (F n:Nat) (x:_):O1 en (F0j F n) 140 [.d (.list (.st 0)),.d (.st 3),.d (.st 3)] (.tup [.d (.int .i64),.d (.int .i64),.d (.int .i64)]) [] x=(k0C F (n+1)).m x:=by kernel_rfl
theorem o0B (F n:Nat) (x:_):O1 en (v0O F n) 100 [.d (.list (.st 0)),.d (.st 17),.d (.int .i64),.d (.int .i64),.d (.int .i64),.d (.int .i64)] (.own 177 (.st 14)) [] x=(i00 F (n+1)).m x:=by kernel_rfl
theorem v0X (F:Nat) (x:_):O1 en (v0D F) 133 [.d (.st 7)] (.d .bool) [] x=(f07 F).m x:=by kernel_rfl
theorem y0W (F:Nat) (x:_):O1 en (v0a F) 178 [.d (.list (.st 0))] (.own 3 (.int .i64)) [] x=(j0S F).m x:=by kernel_rfl
theorem C0a (F:Nat) (x:_):O1 en (A0d F) 66 [.d (.list (.st 0))] (.alt .nil (.own 3 (.int .i64))) [] x=(i0H F).m x:=by kernel_rfl
theorem B0C (F:Nat) (x:_):O1 en (x0H F) 158 [.d (.list (.st 0)),.d (.int .i64)] (.own 3 (.int .i64)) [] x=(g0L F).m x:=by kernel_rfl
theorem D0B (F:Nat) (x:_):O1 en (x0k F) 71 [.d (.st 7),.d (.list (.int .i64)),.d (.list (.st 3))] (.d (.int .i64)) [] x=(n08 F).m x:=by kernel_rfl
theorem y0D (F:Nat) (x:_):O1 en (D0z F) 15 [.d (.list (.st 0)),.d (.list (.int .u8))] (.tup [.own 36 (.st 1),.d (.int .i64)]) [] x=(j0z F).m x:=by kernel_rfl
theorem y0o (F n:Nat) (x:_):O1 en (A0f F n) 190 [.d (.list (.st 0)),.d (.list .bool),.d (.int .i64),.own 3 (.int .i64)] (.own 3 (.int .i64)) [] x=(i07 F (n+1)).m x:=by kernel_rfl
theorem B0p (F:Nat) (x:_):O1 en (C0M F) 160 [.d (.ptr (.st 20)),.d (.int .i64)] (.tup [.own 121 (.st 3),.d (.list (.int .i64))]) [] x=(j0Y F).m x:=by kernel_rfl
theorem B06 (F n:Nat) (x:_):O1 en (C0W F n) 172 [.d (.ptr (.st 20)),.d (.int .i64),.d (.list (.int .i64)),.own 121 (.st 3)] (.own 121 (.st 3)) [] x=(g0p F (n+1)).m x:=by kernel_rfl
theorem y0O (F:Nat) (x:_):O1 en (D0i F) 67 [.d (.list (.st 0))] (.d .bool) [] x=(b0Q F).m x:=by kernel_rfl
theorem w0s (F:Nat) (x:_):O1 en (C05 F) 125 [.d (.list (.st 0))] (.own 3 (.int .i64)) [] x=(f0E F).m x:=by kernel_rfl
theorem w0e (F:Nat) (x:_):O1 en (z0K F) 166 [.d (.list (.st 0))] (.own 3 (.int .i64)) [] x=(n09 F).m x:=by kernel_rfl
theorem x08 (F:Nat) (x:_):O1 en (y0j F) 107 [.d (.list (.st 0))] (.own 3 (.int .i64)) [] x=(e09 F).m x:=by kernel_rfl
theorem A0Y (F:Nat) (x:_):O1 en (y07 F) 98 [.d (.list (.st 0)),.d (.list (.int .u8))] (.d (.st 17)) [] x=(l0A F).m x:=by kernel_rfl
theorem D0H (F:Nat) (x:_):O1 en (z03 F) 18 [.d (.list (.st 1)),.d (.list (.st 1))] (.d .bool) [] x=(k0z F).m x:=by kernel_rfl
theorem A0O (F:Nat) (x:_):O1 en (x0G F) 128 [.d (.list (.st 0)),.d (.int .i64)] (.own 121 (.st 3)) [] x=(o0J F).m x:=by kernel_rfl
theorem A00 (F:Nat) (x:_):O1 en (v05 F) 123 [.d (.list (.st 0)),.d (.int .i64)] (.own 3 (.int .i64)) [] x=(k0F F).m x:=by kernel_rfl
theorem F0e (F:Nat) (x:_):O1 en (v0B F) 112 [.d (.list (.st 0)),.d (.int .i64)] (.tup [.d (.st 3),.d .bool]) [] x=(o0N F).m x:=by kernel_rfl
theorem z0j (F:Nat) (x:_):O1 en (x0R F) 21 [.d (.list (.st 0))] (.tup [.alt .nilp (.box 108 [.d (.st 8)]),.d (.int .i64)]) [] x=(j0t F).m x:=by kernel_rfl
theorem D0f (F:Nat) (x:_):O1 en (D00 F) 17 [.d (.list (.st 0)),.d (.list (.int .u8))] (.tup [.own 36 (.st 1),.d (.int .i64)]) [] x=(h09 F).m x:=by kernel_rfl
theorem E0u (F:Nat) (x:_):O1 en (D0I F) 159 [.d (.list (.st 0)),.d (.int .i64)] (.tup [.alt .nilp (.box 239 [.d (.st 20)]),.d (.int .i64),.d .bool]) [] x=(j0C F).m x:=by kernel_rfl
theorem v0t (F:Nat) (x:_):O1 en (x0g F) 153 [.d (.list (.st 0)),.d (.list (.int .u8)),.d (.st 17),.d (.int .i64),.d (.int .i64),.d (.int .i64)] (.d .bool) [] x=(o0P F).m x:=by kernel_rfl
