/- Laws of the models and helpers of the proof. Its conditions: none. -/
import Derived.Test.YtihmgaccbcfgjaaGreatQMd
import Derived.Test.YtihmgaccbcfgjaaGreatQEn
import Derived.Test.YtihmgaccbcfgjaaGreatQX17
import Derived.Test.YtihmgaccbcfgjaaGreatQX14
import Derived.Test.YtihmgaccbcfgjaaGreatQVKey
set_option linter.all false
set_option maxRecDepth 100000
noncomputable section
namespace Go.Proofs.YtihmgaccbcfgjaaGreat
open Go.V Go.RowKit Go.X
theorem y0M (F:Nat) (x:_):L0 en (y0u F) 96 [.d (.st 2)] (.d (.st 2)) [] x=(g03 F).m x:=by kernel_rfl
theorem v0B (F:Nat) (x:_):L0 en (t00 F) 16 [.d (.st 2)] (.d .bool) [] x=(b0K F).m x:=by kernel_rfl
theorem r00 (F:Nat) (x:_):L0 en (v0A F) 109 [.d (.list (.st 3))] (.d .bool) [] x=(A7 F).m x:=by kernel_rfl
theorem r0T (F:Nat) (x:_):L0 en (v0q F) 62 [.d (.list (.st 3))] (.d (.int .i64)) [] x=(c05 F).m x:=by kernel_rfl
theorem y0w (F:Nat) (x:_):L0 en (v0X F) 219 [.own 116 (.st 11)] (.own 116 (.st 11)) [] x=(g0u F).m x:=by kernel_rfl
theorem w0M (F:Nat) (x:_):L0 en (x0y F) 47 [.d (.list (.int .i64))] (.own 5 (.int .u8)) [] x=(e0E F).m x:=by kernel_rfl
theorem z0E (F:Nat) (x:_):L0 en (q0i F) 104 [.d (.int .i64),.d (.int .i64)] (.d .bool) [] x=(e0t F).m x:=by kernel_rfl
theorem q04 (F:Nat) (x:_):L0 en (u0R F) 175 [.d (.st 5),.d (.list (.int .i64))] (.d (.int .i64)) [] x=(j0T F).m x:=by kernel_rfl
theorem z0f (F:Nat) (x:_):L0 en (q03 F) 154 [.d (.list (.st 3)),.d (.list (.int .i64))] (.own 184 (.st 12)) [] x=(f01 F).m x:=by kernel_rfl
theorem t02 (F:Nat) (x:_):L0 en (q0n F) 176 [.d (.list (.st 3)),.d (.int .i64)] (.own 3 (.int .i64)) [] x=(c06 F).m x:=by kernel_rfl
theorem t0M (F:Nat) (x:_):L0 en (x0I F) 198 [.d (.list (.st 3)),.d (.int .i64)] (.own 116 (.st 11)) [] x=(g0U F).m x:=by kernel_rfl
theorem q0r (F:Nat) (x:_):L0 en (x08 F) 189 [.d (.list (.list (.int .i64))),.d (.int .i64)] (.d .bool) [] x=(k0j F).m x:=by kernel_rfl
theorem r0w (F:Nat) (x:_):L0 en (u0O F) 141 [.d (.ptr (.st 9)),.d (.int .i64)] (.d (.int .i64)) [] x=(k0d F).m x:=by kernel_rfl
theorem w0i (F:Nat) (x:_):L0 en (q00 F) 195 [.d (.list (.int .i64)),.d (.list (.int .i64))] (.d (.list (.int .i64))) [] x=(e0R F).m x:=by kernel_rfl
theorem v0L (F:Nat) (x:_):L0 en (r0g F) 29 [.d (.st 2),.d (.list (.int .u8))] (.tup [.own 138 (.st 7),.d (.int .i64)]) [] x=(e0z F).m x:=by kernel_rfl
theorem u03 (F:Nat) (x:_):L0 en (u01 F) 9 [.d (.st 2),.d (.list (.int .u8)),.d (.list (.int .u8))] (.d .bool) [] x=(p0p F).m x:=by kernel_rfl
theorem x0i (F:Nat) (x:_):L0 en (w0x F) 177 [.d (.list (.st 3)),.d (.int .i64)] (.tup [.alt .nilp (.box 246 [.d (.st 15)]),.d (.int .i64),.d .bool]) [] x=(f02 F).m x:=by kernel_rfl
theorem r0y (F:Nat) (x:_):L0 en (q0f F) 194 [.d (.ptr (.st 15)),.d (.int .i64),.d (.int .i64),.d (.list (.int .i64)),.own 116 (.st 11)] (.own 116 (.st 11)) [] x=(j0Z F).m x:=by kernel_rfl
theorem x0u (F:Nat) (x:_):L0 en (v0J F) 120 [.box 108 [.d (.list (.st 3)),.d (.int .i64),.d (.list (.int .u8)),.agg [.own 48 (.st 6),.fn 60 []]],.d (.st 6),.d (.int .i64)] (.d (.st 0)) [(0,.box 108 [.d (.list (.st 3)),.d (.int .i64),.d (.list (.int .u8)),.agg [.own 48 (.st 6),.fn 60 []]])] x=(j05 F).m x:=by kernel_rfl
theorem t0m (F:Nat) (x:_):L0 en (x0l F) 200 [.d (.st 5)] (.d (.st 5)) [] x=(j0U F).m x:=by kernel_rfl
theorem s0T (F:Nat) (x:_):L0 en (w0G F) 166 [.d (.st 3)] (.d .bool) [] x=(g0I F).m x:=by kernel_rfl
theorem u0e (F:Nat) (x:_):L0 en (q0L F) 117 [.d (.list (.st 3))] (.d (.int .i64)) [] x=(j0B F).m x:=by kernel_rfl
theorem q0P (F:Nat) (x:_):L0 en (q0U F) 191 [.d (.st 5),.d (.int .i64)] (.d .bool) [] x=(c0W F).m x:=by kernel_rfl
theorem z0a (F:Nat) (x:_):L0 en (z0S F) 60 [.d (.st 6),.d (.st 6)] (.d .bool) [] x=(k0C F).m x:=by kernel_rfl
theorem x06 (F:Nat) (x:_):L0 en (w07 F) 167 [.d (.st 3),.d (.list (.st 3))] (.d .bool) [] x=(h0t F).m x:=by kernel_rfl
theorem y02 (F:Nat) (x:_):L0 en (z0J F) 110 [.d (.int .i64)] (.d .bool) [] x=(e0T F).m x:=by kernel_rfl
theorem v0U (F:Nat) (x:_):L0 en (u0P F) 51 [.d (.list (.int .i64))] (.own 5 (.int .u8)) [] x=(j06 F).m x:=by kernel_rfl
theorem y07 (F:Nat) (x:_):L0 en (s0L F) 203 [.d (.int .i64)] (.M0 22 [3] (.list (.int .i64))) [] x=(g0g F).m x:=by kernel_rfl
theorem s07 (F:Nat) (x:_):L0 en (t0X F) 42 [.d (.st 10)] (.tup [.own 138 (.st 7),.d .bool]) [] x=(d0D F).m x:=by kernel_rfl
theorem x0N (F:Nat) (x:_):L0 en (r0W F) 180 [.d (.list (.st 3)),.d (.int .i64)] (.own 184 (.st 12)) [] x=(k0b F).m x:=by kernel_rfl
theorem w0B (F:Nat) (x:_):L0 en (x0m F) 52 [.d (.int .i64),.d (.int .i64),.d .bool] (.d .bool) [] x=(e0i F).m x:=by kernel_rfl
theorem w01 (F:Nat) (x:_):L0 en (z0d F) 101 [.d (.list (.int .i64)),.d (.int .i64)] (.own 138 (.st 7)) [] x=(f0o F).m x:=by kernel_rfl
theorem q0q (F:Nat) (x:_):L0 en (w09 F) 119 [.d (.list (.st 3)),.d (.st 6)] (.own 3 (.int .i64)) [] x=(h02 F).m x:=by kernel_rfl
theorem q0d (F:Nat) (x:_):L0 en (w0Z F) 173 [.d (.list (.list (.int .i64))),.d (.int .i64)] (.d .bool) [] x=(k0A F).m x:=by kernel_rfl
theorem x01 (F:Nat) (x:_):L0 en (t0L F) 58 [.d (.list (.st 3)),.d (.int .i64)] (.tup [.d (.st 6),.d (.int .i64)]) [] x=(h0h F).m x:=by kernel_rfl
theorem y09 (F:Nat) (x:_):L0 en (t0l F) 30 [.d (.st 2),.d (.list (.int .u8))] (.tup [.own 138 (.st 7),.d (.int .i64)]) [] x=(k0l F).m x:=by kernel_rfl
theorem v0g (F:Nat) (x:_):L0 en (p07 F) 201 [.d (.st 20),.d (.int .i64),.d (.int .i64)] (.d (.int .i64)) [] x=(f00 F).m x:=by kernel_rfl
theorem s09 (F:Nat) (x:_):L0 en (r0a F) 187 [.agg [.d (.int .i64),.d (.list (.int .i64)),.M0 22 [3] (.list (.int .i64)),.d (.st 5)]] (.tup [.d (.st 6),.own 3 (.int .i64)]) [] x=(h0w F).m x:=by kernel_rfl
theorem r0J (F:Nat) (x:_):L0 en (t0H F) 40 [.d (.st 2)] (.d (.st 10)) [] x=(g0r F).m x:=by kernel_rfl
theorem v0I (F:Nat) (x:_):L0 en (x0A F) 15 [.d (.st 2)] (.d .bool) [] x=(h0U F).m x:=by kernel_rfl
theorem z0O (F:Nat) (x:_):L0 en (v0F F) 144 [.d (.list (.st 3))] (.own 3 (.int .i64)) [] x=(b0B F).m x:=by kernel_rfl
theorem s08 (F:Nat) (x:_):L0 en (p0H F) 50 [.d (.list (.int .i64))] (.d .bool) [] x=(e0f F).m x:=by kernel_rfl
theorem q0Z (F:Nat) (x:_):L0 en (q02 F) 168 [.d (.arr 4 (.int .u64)),.d (.int .u8)] (.d .bool) [] x=(a0l F).m x:=by kernel_rfl
theorem p0L (F:Nat) (x:_):L0 en (r0i F) 150 [.d (.list (.st 3)),.d (.st 6)] (.d .bool) [] x=(f0K F).m x:=by kernel_rfl
theorem s0D (F:Nat) (x:_):L0 en (s03 F) 53 [.d (.st 2),.d (.st 0),.d (.int .i64)] (.d .bool) [] x=(h0o F).m x:=by kernel_rfl
theorem u0L (F:Nat) (x:_):L0 en (r0z F) 38 [.d (.ptr (.st 9))] (.own 3 (.int .i64)) [] x=(e0c F).m x:=by kernel_rfl
theorem v0k (F:Nat) (x:_):L0 en (u0c F) 181 [.d (.int .i64),.d (.int .i64)] (.own 3 (.int .i64)) [] x=(k0o F).m x:=by kernel_rfl
theorem q0A (F:Nat) (x:_):L0 en (s0p F) 31 [.d (.list (.st 7)),.d (.list (.st 7))] (.d .bool) [] x=(d0m F).m x:=by kernel_rfl
theorem u0H (F:Nat) (x:_):L0 en (r0q F) 199 [.d (.list (.st 3)),.d (.int .i64)] (.own 116 (.st 11)) [] x=(j0n F).m x:=by kernel_rfl
theorem q0w (F:Nat) (x:_):L0 en (t0F F) 10 [.d (.st 2),.d (.list (.int .u8))] (.d .bool) [] x=(n0s F).m x:=by kernel_rfl
theorem x0s (F:Nat) (x:_):L0 en (x0o F) 165 [.d (.list (.st 3)),.d (.list (.int .i64)),.d (.int .i64)] (.d (.int .i64)) [] x=(j0m F).m x:=by kernel_rfl
theorem q0j (F:Nat) (x:_):L0 en (p0E F) 182 [.d (.list (.st 3)),.d (.st 6)] (.tup [.own 239 (.st 16),.d (.st 5)]) [] x=(g0M F).m x:=by kernel_rfl
theorem q0G (F:Nat) (x:_):L0 en (w0a F) 35 [.box 86 [.d (.st 9)],.d (.int .u8)] (.tup []) [(0,.box 86 [.d (.st 9)])] x=(d0o F).m x:=by kernel_rfl
theorem p0O (F:Nat) (x:_):L0 en (y0T F) 185 [.d (.list (.st 3)),.d (.st 5),.d (.list (.int .i64)),.d (.list (.st 11))] (.d (.st 5)) [] x=(i0p F).m x:=by kernel_rfl
theorem v0w (F:Nat) (x:_):L0 en (x0v F) 86 [.d (.st 2),.d (.list (.int .u8))] (.tup [.alt .nilp (.box 86 [.d (.st 9)]),.d (.int .i64)]) [] x=(g0t F).m x:=by kernel_rfl
theorem q0I (F:Nat) (x:_):L0 en (y0j F) 207 [.d (.list (.list (.int .i64))),.d (.list (.int .i64))] (.own 22 (.list (.int .i64))) [] x=(i0b F).m x:=by kernel_rfl
theorem z0t (F:Nat) (x:_):L0 en (y0U F) 156 [.d (.list (.st 3)),.d (.int .i64),.d (.st 6),.d (.int .u8)] (.tup [.d (.st 6),.own 3 (.int .i64)]) [] x=(j0u F).m x:=by kernel_rfl
