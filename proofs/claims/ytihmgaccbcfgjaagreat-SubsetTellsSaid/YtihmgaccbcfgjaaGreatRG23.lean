/- Laws of the models and helpers of the proof. Its conditions: none. -/
import Derived.Test.YtihmgaccbcfgjaaGreatRMd
import Derived.Test.YtihmgaccbcfgjaaGreatREn
import Derived.Test.YtihmgaccbcfgjaaGreatRX17
import Derived.Test.YtihmgaccbcfgjaaGreatRX14
import Derived.Test.YtihmgaccbcfgjaaGreatRVKey
set_option linter.all false
set_option maxRecDepth 100000
noncomputable section
namespace Go.Proofs.YtihmgaccbcfgjaaGreat
open Go.V Go.RowKit Go.X
theorem t0S (F:Nat) (x:_):L0 en (v0Z F) 11 [.d (.st 2)] (.d .bool) [] x=(d0B F).m x:=by kernel_rfl
theorem B0G (F:Nat) (x:_):L0 en (B0e F) 14 [.d (.st 2)] (.own 4 .bool) [] x=(A0l F).m x:=by kernel_rfl
theorem s0k (F:Nat) (x:_):L0 en (q0J F) 210 [.d (.list (.st 3))] (.own 3 (.int .i64)) [] x=(b0Q F).m x:=by kernel_rfl
theorem B0x (F:Nat) (x:_):L0 en (A05 F) 18 [.d (.st 2),.d (.st 2)] (.d .bool) [] x=(A0p F).m x:=by kernel_rfl
theorem r0G (F:Nat) (x:_):L0 en (w0Q F) 174 [.d (.st 5),.d (.int .i64)] (.d .bool) [] x=(e0y F).m x:=by kernel_rfl
theorem B0J (F:Nat) (x:_):L0 en (B0K F) 108 [.d (.st 0),.d (.st 0)] (.d .bool) [] x=(A0m F).m x:=by kernel_rfl
theorem A0X (F:Nat) (x:_):L0 en (A0B F) 3 [.d (.st 2),.d (.st 2)] (.d .bool) [] x=(A0I F).m x:=by kernel_rfl
theorem p0K (F:Nat) (x:_):L0 en (v00 F) 171 [.d (.list (.int .i64)),.d (.int .i64)] (.d .bool) [] x=(h0s F).m x:=by kernel_rfl
theorem x0r (F:Nat) (x:_):L0 en (t0N F) 59 [.d (.list (.st 3))] (.tup [.d (.list (.int .i64)),.d (.int .i64)]) [] x=(h03 F).m x:=by kernel_rfl
theorem q07 (F:Nat) (x:_):L0 en (w0A F) 152 [.d (.list (.st 3)),.d (.int .i64)] (.tup [.d (.st 11),.d .bool]) [] x=(f06 F).m x:=by kernel_rfl
theorem p0S (F:Nat) (x:_):L0 en (w0u F) 184 [.d (.st 5),.d (.list (.int .i64)),.d (.list (.st 11))] (.d (.int .i64)) [] x=(j0t F).m x:=by kernel_rfl
theorem q0b (F:Nat) (x:_):L0 en (q0V F) 205 [.d (.st 20),.d (.int .i64),.d (.int .i64)] (.d (.int .i64)) [] x=(e02 F).m x:=by kernel_rfl
theorem u0s (F:Nat) (x:_):L0 en (v0S F) 206 [.d (.list (.int .i64)),.d (.list (.int .i64))] (.own 3 (.int .i64)) [] x=(g0w F).m x:=by kernel_rfl
theorem s09 (F:Nat) (x:_):L0 en (r0a F) 187 [.agg [.d (.int .i64),.d (.list (.int .i64)),.M0 22 [3] (.list (.int .i64)),.d (.st 5)]] (.tup [.d (.st 6),.own 3 (.int .i64)]) [] x=(h0w F).m x:=by kernel_rfl
theorem v0B (F:Nat) (x:_):L0 en (t00 F) 16 [.d (.st 2)] (.d .bool) [] x=(b0K F).m x:=by kernel_rfl
theorem r00 (F:Nat) (x:_):L0 en (v0A F) 109 [.d (.list (.st 3))] (.d .bool) [] x=(A7 F).m x:=by kernel_rfl
theorem r0T (F:Nat) (x:_):L0 en (v0q F) 62 [.d (.list (.st 3))] (.d (.int .i64)) [] x=(c05 F).m x:=by kernel_rfl
theorem B0V (F:Nat) (x:_):L0 en (B0I F) 17 [.d (.st 2),.d (.st 2)] (.d .bool) [] x=(z02 F).m x:=by kernel_rfl
theorem y0w (F:Nat) (x:_):L0 en (v0X F) 219 [.own 116 (.st 11)] (.own 116 (.st 11)) [] x=(g0u F).m x:=by kernel_rfl
theorem w0M (F:Nat) (x:_):L0 en (x0y F) 47 [.d (.list (.int .i64))] (.own 5 (.int .u8)) [] x=(e0E F).m x:=by kernel_rfl
theorem z0E (F:Nat) (x:_):L0 en (q0i F) 104 [.d (.int .i64),.d (.int .i64)] (.d .bool) [] x=(e0t F).m x:=by kernel_rfl
theorem q04 (F:Nat) (x:_):L0 en (u0R F) 175 [.d (.st 5),.d (.list (.int .i64))] (.d (.int .i64)) [] x=(j0T F).m x:=by kernel_rfl
theorem y0d (F:Nat) (x:_):L0 en (x0t F) 151 [.d (.list (.st 3)),.d (.st 6)] (.d (.int .i64)) [] x=(f0Q F).m x:=by kernel_rfl
theorem y0O (F:Nat) (x:_):L0 en (s0V F) 183 [.d (.list (.st 16)),.d (.int .i64)] (.tup [.own 3 (.int .i64),.own 116 (.st 11)]) [] x=(i0d F).m x:=by kernel_rfl
theorem q0I (F:Nat) (x:_):L0 en (y0j F) 207 [.d (.list (.list (.int .i64))),.d (.list (.int .i64))] (.own 22 (.list (.int .i64))) [] x=(i0b F).m x:=by kernel_rfl
theorem z0t (F:Nat) (x:_):L0 en (y0U F) 156 [.d (.list (.st 3)),.d (.int .i64),.d (.st 6),.d (.int .u8)] (.tup [.d (.st 6),.own 3 (.int .i64)]) [] x=(j0u F).m x:=by kernel_rfl
theorem t0m (F:Nat) (x:_):L0 en (x0l F) 200 [.d (.st 5)] (.d (.st 5)) [] x=(j0U F).m x:=by kernel_rfl
theorem s0T (F:Nat) (x:_):L0 en (w0G F) 166 [.d (.st 3)] (.d .bool) [] x=(g0I F).m x:=by kernel_rfl
theorem u0e (F:Nat) (x:_):L0 en (q0L F) 117 [.d (.list (.st 3))] (.d (.int .i64)) [] x=(j0B F).m x:=by kernel_rfl
theorem q0P (F:Nat) (x:_):L0 en (q0U F) 191 [.d (.st 5),.d (.int .i64)] (.d .bool) [] x=(c0W F).m x:=by kernel_rfl
theorem z0a (F:Nat) (x:_):L0 en (z0S F) 60 [.d (.st 6),.d (.st 6)] (.d .bool) [] x=(k0C F).m x:=by kernel_rfl
theorem x06 (F:Nat) (x:_):L0 en (w07 F) 167 [.d (.st 3),.d (.list (.st 3))] (.d .bool) [] x=(h0t F).m x:=by kernel_rfl
theorem y02 (F:Nat) (x:_):L0 en (z0J F) 110 [.d (.int .i64)] (.d .bool) [] x=(e0T F).m x:=by kernel_rfl
theorem v0U (F:Nat) (x:_):L0 en (u0P F) 51 [.d (.list (.int .i64))] (.own 5 (.int .u8)) [] x=(j06 F).m x:=by kernel_rfl
theorem y07 (F:Nat) (x:_):L0 en (s0L F) 203 [.d (.int .i64)] (.M0 22 [3] (.list (.int .i64))) [] x=(g0g F).m x:=by kernel_rfl
theorem x0N (F:Nat) (x:_):L0 en (r0W F) 180 [.d (.list (.st 3)),.d (.int .i64)] (.own 184 (.st 12)) [] x=(k0b F).m x:=by kernel_rfl
theorem z0f (F:Nat) (x:_):L0 en (q03 F) 154 [.d (.list (.st 3)),.d (.list (.int .i64))] (.own 184 (.st 12)) [] x=(f01 F).m x:=by kernel_rfl
theorem t02 (F:Nat) (x:_):L0 en (q0n F) 176 [.d (.list (.st 3)),.d (.int .i64)] (.own 3 (.int .i64)) [] x=(c06 F).m x:=by kernel_rfl
theorem t0M (F:Nat) (x:_):L0 en (x0I F) 198 [.d (.list (.st 3)),.d (.int .i64)] (.own 116 (.st 11)) [] x=(g0U F).m x:=by kernel_rfl
theorem q0r (F:Nat) (x:_):L0 en (x08 F) 189 [.d (.list (.list (.int .i64))),.d (.int .i64)] (.d .bool) [] x=(k0j F).m x:=by kernel_rfl
theorem u0w (F:Nat) (x:_):L0 en (t0I F) 193 [.d (.list (.st 3))] (.tup [.alt .nilp (.box 246 [.d (.st 15)]),.d .bool]) [] x=(f08 F).m x:=by kernel_rfl
theorem v0V (F:Nat) (x:_):L0 en (r0O F) 19 [.d (.list (.st 3)),.d (.int .i64),.d (.int .i64)] (.tup [.d (.st 2),.d (.int .i64)]) [] x=(k0x F).m x:=by kernel_rfl
theorem r04 (F:Nat) (x:_):L0 en (q08 F) 178 [.d (.ptr (.st 15)),.d (.int .i64)] (.tup [.own 116 (.st 11),.d (.list (.int .i64))]) [] x=(e0C F).m x:=by kernel_rfl
