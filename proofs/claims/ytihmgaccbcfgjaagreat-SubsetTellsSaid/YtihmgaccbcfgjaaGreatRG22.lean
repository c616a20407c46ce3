/- Laws of the models and helpers of the proof. Its conditions: none. -/
import Derived.Test.YtihmgaccbcfgjaaGreatRMd
import Derived.Test.YtihmgaccbcfgjaaGreatREn
import Derived.Test.YtihmgaccbcfgjaaGreatRX17
import Derived.Test.YtihmgaccbcfgjaaGreatRX14
import Derived.Test.YtihmgaccbcfgjaaGreatRVKey
set_option linter.all false
set_option maxRecDepth 100000
noncomputable section
namespace Go.Proofs.YtihmgaccbcfgjaaGreat
open Go.V Go.RowKit Go.X
theorem A0W (F:Nat) (x:_):L0 en (A0H F) 12 [] (.d .bool) [] x=(A0f F).m x:=by kernel_rfl
theorem v0I (F:Nat) (x:_):L0 en (x0A F) 15 [.d (.st 2)] (.d .bool) [] x=(h0U F).m x:=by kernel_rfl
theorem z0O (F:Nat) (x:_):L0 en (v0F F) 144 [.d (.list (.st 3))] (.own 3 (.int .i64)) [] x=(b0B F).m x:=by kernel_rfl
theorem s08 (F:Nat) (x:_):L0 en (p0H F) 50 [.d (.list (.int .i64))] (.d .bool) [] x=(e0f F).m x:=by kernel_rfl
theorem q0Z (F:Nat) (x:_):L0 en (q02 F) 168 [.d (.arr 4 (.int .u64)),.d (.int .u8)] (.d .bool) [] x=(a0l F).m x:=by kernel_rfl
theorem p0L (F:Nat) (x:_):L0 en (r0i F) 150 [.d (.list (.st 3)),.d (.st 6)] (.d .bool) [] x=(f0K F).m x:=by kernel_rfl
theorem s0D (F:Nat) (x:_):L0 en (s03 F) 53 [.d (.st 2),.d (.st 0),.d (.int .i64)] (.d .bool) [] x=(h0o F).m x:=by kernel_rfl
theorem v0k (F:Nat) (x:_):L0 en (u0c F) 181 [.d (.int .i64),.d (.int .i64)] (.own 3 (.int .i64)) [] x=(k0o F).m x:=by kernel_rfl
theorem w0B (F:Nat) (x:_):L0 en (x0m F) 52 [.d (.int .i64),.d (.int .i64),.d .bool] (.d .bool) [] x=(e0i F).m x:=by kernel_rfl
theorem q0q (F:Nat) (x:_):L0 en (w09 F) 119 [.d (.list (.st 3)),.d (.st 6)] (.own 3 (.int .i64)) [] x=(h02 F).m x:=by kernel_rfl
theorem w0i (F:Nat) (x:_):L0 en (q00 F) 195 [.d (.list (.int .i64)),.d (.list (.int .i64))] (.d (.list (.int .i64))) [] x=(e0R F).m x:=by kernel_rfl
theorem q0O (F n:Nat) (x:_):L0 en (u0y F n) 204 [.d (.list (.st 3)),.d (.st 11),.d (.st 11)] (.tup [.d (.int .i64),.d (.int .i64),.d (.int .i64)]) [] x=(f04 F (n+1)).m x:=by kernel_rfl
theorem s0a (F n:Nat) (x:_):L0 en (u0d F n) 213 [.d (.ptr (.st 15)),.d (.int .i64),.d (.list (.int .i64)),.own 116 (.st 11)] (.own 116 (.st 11)) [] x=(d0a F (n+1)).m x:=by kernel_rfl
theorem x0W (F:Nat) (x:_):L0 en (q09 F) 186 [.d (.list (.st 3)),.agg [.d (.int .i64),.d (.list (.int .i64)),.M0 22 [3] (.list (.int .i64)),.d (.st 5)]] (.agg [.d (.int .i64),.d (.list (.int .i64)),.M0 22 [3] (.list (.int .i64)),.d (.st 5)]) [] x=(g0Q F).m x:=by kernel_rfl
theorem t0B (F:Nat) (x:_):L0 en (z0F F) 190 [.d (.st 5)] (.d .bool) [] x=(b0W F).m x:=by kernel_rfl
theorem s0r (F:Nat) (x:_):L0 en (v0a F) 114 [.d (.st 5),.d (.st 5)] (.d .bool) [] x=(h0X F).m x:=by kernel_rfl
theorem q0t (F:Nat) (x:_):L0 en (q0a F) 211 [.d (.list (.st 3))] (.own 3 (.int .i64)) [] x=(f0j F).m x:=by kernel_rfl
theorem v0z (F:Nat) (x:_):L0 en (w0S F) 172 [.d (.list (.st 3))] (.own 3 (.int .i64)) [] x=(b0f F).m x:=by kernel_rfl
theorem B0A (F:Nat) (x:_):L0 en (A00 F) 57 [.d (.st 1),.d (.st 1)] (.d .bool) [] x=(z08 F).m x:=by kernel_rfl
theorem u0K (F:Nat) (x:_):L0 en (r0N F) 49 [.d (.st 2),.d (.st 1),.d (.st 0)] (.d .bool) [] x=(j0l F).m x:=by kernel_rfl
theorem u0H (F:Nat) (x:_):L0 en (r0q F) 199 [.d (.list (.st 3)),.d (.int .i64)] (.own 116 (.st 11)) [] x=(j0n F).m x:=by kernel_rfl
theorem q0d (F:Nat) (x:_):L0 en (w0Z F) 173 [.d (.list (.list (.int .i64))),.d (.int .i64)] (.d .bool) [] x=(k0A F).m x:=by kernel_rfl
theorem x01 (F:Nat) (x:_):L0 en (t0L F) 58 [.d (.list (.st 3)),.d (.int .i64)] (.tup [.d (.st 6),.d (.int .i64)]) [] x=(h0h F).m x:=by kernel_rfl
theorem v0g (F:Nat) (x:_):L0 en (p07 F) 201 [.d (.st 20),.d (.int .i64),.d (.int .i64)] (.d (.int .i64)) [] x=(f00 F).m x:=by kernel_rfl
theorem w0V (F:Nat) (x:_):L0 en (p0T F) 208 [.d (.list (.list (.int .i64))),.d (.list (.int .i64))] (.own 22 (.list (.int .i64))) [] x=(j0j F).m x:=by kernel_rfl
theorem p0G (F n:Nat) (x:_):L0 en (x0Z F n) 192 [.d (.list (.st 3)),.d (.list .bool),.d (.int .i64),.own 3 (.int .i64)] (.own 3 (.int .i64)) [] x=(e0o F (n+1)).m x:=by kernel_rfl
theorem w0j (F:Nat) (x:_):L0 en (s0h F) 63 [.box 108 [.d (.list (.st 3)),.d (.int .i64),.d (.list (.int .u8)),.agg [.own 48 (.st 6),.fn 60 []]],.d (.st 6)] (.d (.st 1)) [(0,.box 108 [.d (.list (.st 3)),.d (.int .i64),.d (.list (.int .u8)),.agg [.own 48 (.st 6),.fn 60 []]])] x=(g0P F).m x:=by kernel_rfl
theorem B0U (F:Nat) (x:_):L0 en (B0m F) 45 [] (.own 132 (.st 3)) [] x=(A0d F).m x:=by kernel_rfl
theorem y0q (F:Nat) (x:_):L0 en (y0Y F) 111 [.d (.list (.st 3))] (.own 4 .bool) [] x=(c0y F).m x:=by kernel_rfl
theorem v0j (F:Nat) (x:_):L0 en (y06 F) 118 [.d (.st 6)] (.d (.int .i64)) [] x=(i0P F).m x:=by kernel_rfl
theorem u0N (F:Nat) (x:_):L0 en (z0C F) 46 [.d (.list (.int .i64))] (.d .bool) [] x=(e0G F).m x:=by kernel_rfl
theorem z0m (F:Nat) (x:_):L0 en (w0o F) 212 [.d (.list (.st 3))] (.own 3 (.int .i64)) [] x=(g0Y F).m x:=by kernel_rfl
theorem x0h (F:Nat) (x:_):L0 en (t0a F) 155 [.d (.list (.st 3))] (.own 3 (.int .i64)) [] x=(f0c F).m x:=by kernel_rfl
theorem y0N (F:Nat) (x:_):L0 en (s0l F) 48 [.d (.st 1),.d (.int .i64)] (.d .bool) [] x=(h0y F).m x:=by kernel_rfl
theorem B0u (F:Nat) (x:_):L0 en (A06 F) 56 [.d (.st 1),.d (.st 1)] (.d .bool) [] x=(A0b F).m x:=by kernel_rfl
theorem t0U (F:Nat) (x:_):L0 en (z0o F) 113 [] (.agg [.fn 146 [],.fn 147 [.box 75 [.fn 146 []]]]) [] x=(i0y F).m x:=by kernel_rfl
theorem r0m (F:Nat) (x:_):L0 en (u0G F) 37 [.d (.list (.int .i64)),.d (.list (.int .i64))] (.d .bool) [] x=(g0x F).m x:=by kernel_rfl
theorem s0z (F:Nat) (x:_):L0 en (u0x F) 149 [.d (.list (.st 3)),.d (.int .i64)] (.own 3 (.int .i64)) [] x=(e01 F).m x:=by kernel_rfl
theorem t0x (F:Nat) (x:_):L0 en (y0p F) 54 [.d (.list (.int .i64)),.d (.list (.int .i64))] (.d .bool) [] x=(f0w F).m x:=by kernel_rfl
theorem x0s (F:Nat) (x:_):L0 en (x0o F) 165 [.d (.list (.st 3)),.d (.list (.int .i64)),.d (.int .i64)] (.d (.int .i64)) [] x=(j0m F).m x:=by kernel_rfl
theorem q0j (F:Nat) (x:_):L0 en (p0E F) 182 [.d (.list (.st 3)),.d (.st 6)] (.tup [.own 239 (.st 16),.d (.st 5)]) [] x=(g0M F).m x:=by kernel_rfl
theorem p0O (F:Nat) (x:_):L0 en (y0T F) 185 [.d (.list (.st 3)),.d (.st 5),.d (.list (.int .i64)),.d (.list (.st 11))] (.d (.st 5)) [] x=(i0p F).m x:=by kernel_rfl
theorem x0i (F:Nat) (x:_):L0 en (w0x F) 177 [.d (.list (.st 3)),.d (.int .i64)] (.tup [.alt .nilp (.box 246 [.d (.st 15)]),.d (.int .i64),.d .bool]) [] x=(f02 F).m x:=by kernel_rfl
theorem r0y (F:Nat) (x:_):L0 en (q0f F) 194 [.d (.ptr (.st 15)),.d (.int .i64),.d (.int .i64),.d (.list (.int .i64)),.own 116 (.st 11)] (.own 116 (.st 11)) [] x=(j0Z F).m x:=by kernel_rfl
theorem x0u (F:Nat) (x:_):L0 en (v0J F) 120 [.box 108 [.d (.list (.st 3)),.d (.int .i64),.d (.list (.int .u8)),.agg [.own 48 (.st 6),.fn 60 []]],.d (.st 6),.d (.int .i64)] (.d (.st 0)) [(0,.box 108 [.d (.list (.st 3)),.d (.int .i64),.d (.list (.int .u8)),.agg [.own 48 (.st 6),.fn 60 []]])] x=(j05 F).m x:=by kernel_rfl
