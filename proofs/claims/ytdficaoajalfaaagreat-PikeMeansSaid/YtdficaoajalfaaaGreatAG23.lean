/- Laws of the models and helpers of the proof. Its conditions: none. -/
import Derived.Test.YtdficaoajalfaaaGreatAMd
import Derived.Test.YtdficaoajalfaaaGreatAEn
import Derived.Test.YtdficaoajalfaaaGreatAX17
import Derived.Test.YtdficaoajalfaaaGreatAX14
import Derived.Test.YtdficaoajalfaaaGreatAVKey
set_option linter.all false
set_option maxRecDepth 100000
noncomputable section
namespace Go.Proofs.YtdficaoajalfaaaGreat
open Go.V Go.RowKit Go.X
theorem C0C (F:Nat) (x:_):O1 en (w04 F) 134 [.d (.st 7),.d (.int .i64)] (.d .bool) [] x=(g0R F).m x:=by kernel_rfl
theorem A0m (F:Nat) (x:_):O1 en (E0z F) 110 [.d (.st 7),.d (.int .i64)] (.d .bool) [] x=(m01 F).m x:=by kernel_rfl
theorem y0T (F:Nat) (x:_):O1 en (x0y F) 116 [.d (.arr 4 (.int .u64)),.d (.int .u8)] (.d .bool) [] x=(l0l F).m x:=by kernel_rfl
theorem A0D (F:Nat) (x:_):O1 en (B0W F) 162 [.d (.int .i64),.d (.int .i64)] (.own 3 (.int .i64)) [] x=(m0R F).m x:=by kernel_rfl
theorem A0I (F:Nat) (x:_):O1 en (v0e F) 129 [.d (.list (.st 0)),.d (.int .i64)] (.own 121 (.st 3)) [] x=(p0d F).m x:=by kernel_rfl
theorem w0H (F:Nat) (x:_):O1 en (D0Z F) 189 [.d (.list (.st 0)),.d (.int .i64)] (.own 3 (.int .i64)) [] x=(j0g F).m x:=by kernel_rfl
theorem B0N (F:Nat) (x:_):O1 en (F0k F) 65 [.d (.list (.st 0)),.d (.list (.st 14))] (.own 36 (.st 1)) [] x=(p0f F).m x:=by kernel_rfl
theorem E0A (F:Nat) (x:_):O1 en (C0P F) 167 [.d (.list (.st 0)),.d (.list (.int .i64)),.d (.int .i64)] (.d (.int .i64)) [] x=(k09 F).m x:=by kernel_rfl
theorem C07 (F:Nat) (x:_):O1 en (B0G F) 192 [.d (.list (.int .i64)),.d (.list (.int .i64))] (.d (.list (.int .i64))) [] x=(k0G F).m x:=by kernel_rfl
theorem x0D (F:Nat) (x:_):O1 en (w0l F) 59 [] (.own 147 (.st 0)) [] x=(l0L F).m x:=by kernel_rfl
theorem C0F (F:Nat) (x:_):O1 en (w0Q F) 168 [.d (.st 0)] (.d .bool) [] x=(k02 F).m x:=by kernel_rfl
theorem y0S (F:Nat) (x:_):O1 en (y0V F) 156 [.d (.list (.st 0))] (.d (.int .i64)) [] x=(k06 F).m x:=by kernel_rfl
theorem y0h (F:Nat) (x:_):O1 en (A03 F) 20 [.d (.list (.st 0))] (.d .bool) [] x=(k0E F).m x:=by kernel_rfl
theorem B0g (F:Nat) (x:_):O1 en (x0j F) 169 [.d (.st 0),.d (.list (.st 0))] (.d .bool) [] x=(n0L F).m x:=by kernel_rfl
theorem C0R (F:Nat) (x:_):O1 en (v0d F) 89 [.d (.arr 4 (.int .u64)),.d (.int .i64)] (.d .bool) [] x=(k0N F).m x:=by kernel_rfl
theorem z0b (F:Nat) (x:_):O1 en (v0G F) 13 [.d (.list (.st 0)),.d (.list (.int .u8))] (.d .bool) [] x=(o0e F).m x:=by kernel_rfl
theorem C0k (F:Nat) (x:_):O1 en (E05 F) 131 [.d (.ptr (.st 8))] (.own 3 (.int .i64)) [] x=(i02 F).m x:=by kernel_rfl
theorem z0r (F:Nat) (x:_):O1 en (v0w F) 157 [.d (.list (.list (.int .i64))),.d (.int .i64)] (.d .bool) [] x=(n0E F).m x:=by kernel_rfl
theorem E0c (F:Nat) (x:_):O1 en (E0M F) 4 [.d (.list (.st 0)),.d (.list (.int .u8))] (.d .bool) [] x=(t0a F).m x:=by kernel_rfl
theorem z0l (F:Nat) (x:_):O1 en (C0H F) 81 [.d (.ptr (.st 8))] (.tup [.own 3 (.int .i64),.d .bool]) [] x=(o07 F).m x:=by kernel_rfl
theorem y0n (F:Nat) (x:_):O1 en (C0g F) 82 [.d (.ptr (.st 8))] (.tup [.own 3 (.int .i64),.d .bool]) [] x=(o0D F).m x:=by kernel_rfl
theorem w0P (F:Nat) (x:_):O1 en (B04 F) 74 [.d (.list (.st 0)),.d (.st 7),.d (.list (.int .i64)),.d (.list (.st 3))] (.d (.st 7)) [] x=(m0y F).m x:=by kernel_rfl
theorem E0W (F:Nat) (x:_):O1 en (z0n F) 60 [.d (.list (.st 0)),.d (.list (.int .u8)),.d .bool] (.tup [.own 36 (.st 1),.d (.int .i64)]) [] x=(k0y F).m x:=by kernel_rfl
theorem B0R (F:Nat) (x:_):O1 en (y0P F) 70 [.box 108 [.d (.st 8)],.d (.st 15),.d (.int .u8)] (.d (.list (.st 16))) [(0,.box 108 [.d (.st 8)])] x=(n0v F).m x:=by kernel_rfl
theorem v0o (F:Nat) (x:_):O1 en (B0w F) 191 [.d (.ptr (.st 20)),.d (.int .i64),.d (.int .i64),.d (.list (.int .i64)),.own 121 (.st 3)] (.own 121 (.st 3)) [] x=(m0g F).m x:=by kernel_rfl
theorem y0Y (F:Nat) (x:_):O1 en (F0f F) 195 [.d (.list (.st 0))] (.own 3 (.int .i64)) [] x=(f0S F).m x:=by kernel_rfl
theorem y0r (F:Nat) (x:_):O1 en (y0K F) 109 [.d (.list (.st 0))] (.d (.int .i64)) [] x=(n0N F).m x:=by kernel_rfl
theorem z0t (F:Nat) (x:_):O1 en (E03 F) 196 [.d (.list (.st 0))] (.own 3 (.int .i64)) [] x=(l0E F).m x:=by kernel_rfl
theorem D04 (F:Nat) (x:_):O1 en (B0t F) 139 [.d (.int .i64)] (.B1 47 [3] (.list (.int .i64))) [] x=(i0A F).m x:=by kernel_rfl
theorem y0M (F:Nat) (x:_):O1 en (A0V F) 113 [.d (.list (.st 0)),.d (.list (.int .i64))] (.own 188 (.st 4)) [] x=(i0E F).m x:=by kernel_rfl
theorem v0V (F:Nat) (x:_):O1 en (C0U F) 97 [.d (.list (.st 0)),.d (.list (.int .u8))] (.d (.int .i64)) [] x=(l07 F).m x:=by kernel_rfl
theorem A0x (F:Nat) (x:_):O1 en (w05 F) 101 [.d (.list (.int .i64)),.d (.int .i64)] (.own 36 (.st 1)) [] x=(o0R F).m x:=by kernel_rfl
theorem v0K (F:Nat) (x:_):O1 en (C0e F) 127 [.d (.list (.st 0)),.d (.list (.st 3))] (.own 124 (.st 5)) [] x=(o0W F).m x:=by kernel_rfl
theorem F0n (F:Nat) (x:_):O1 en (D0c F) 141 [.d (.st 19),.d (.int .i64),.d (.int .i64)] (.d (.int .i64)) [] x=(h03 F).m x:=by kernel_rfl
theorem v0r (F:Nat) (x:_):O1 en (B0e F) 64 [.d (.list (.st 0)),.d (.list (.int .u8))] (.tup [.own 177 (.st 14),.d (.int .i64)]) [] x=(o0E F).m x:=by kernel_rfl
theorem C0z (F:Nat) (x:_):O1 en (E0U F) 69 [.box 108 [.d (.st 8)],.d .bool] (.d (.st 15)) [(0,.box 108 [.d (.st 8)])] x=(k00 F).m x:=by kernel_rfl
