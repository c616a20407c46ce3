/- Laws of the models and helpers of the proof. Its conditions: none. -/
import Derived.Test.YtihmgaccbcfgjaaGreatQMd
import Derived.Test.YtihmgaccbcfgjaaGreatQEn
import Derived.Test.YtihmgaccbcfgjaaGreatQX17
import Derived.Test.YtihmgaccbcfgjaaGreatQX14
import Derived.Test.YtihmgaccbcfgjaaGreatQVKey
set_option linter.all false
set_option maxRecDepth 100000
noncomputable section
namespace Go.Proofs.YtihmgaccbcfgjaaGreat
open Go.V Go.RowKit Go.X
theorem q0T (F:Nat) (x:_):L0 en (s0x F) 26 [] (.d .bool) [] x=(c09 F).m x:=by kernel_rfl
theorem t0B (F:Nat) (x:_):L0 en (z0F F) 190 [.d (.st 5)] (.d .bool) [] x=(b0W F).m x:=by kernel_rfl
theorem s0r (F:Nat) (x:_):L0 en (v0a F) 114 [.d (.st 5),.d (.st 5)] (.d .bool) [] x=(h0X F).m x:=by kernel_rfl
theorem u0W (F:Nat) (x:_):L0 en (t0Y F) 100 [.d (.st 10)] (.d (.st 10)) [] x=(f0g F).m x:=by kernel_rfl
theorem q0t (F:Nat) (x:_):L0 en (q0a F) 211 [.d (.list (.st 3))] (.own 3 (.int .i64)) [] x=(f0j F).m x:=by kernel_rfl
theorem x0P (F:Nat) (x:_):L0 en (p0R F) 44 [.d (.st 10),.d (.int .u8)] (.d (.st 10)) [] x=(e0P F).m x:=by kernel_rfl
theorem v0z (F:Nat) (x:_):L0 en (w0S F) 172 [.d (.list (.st 3))] (.own 3 (.int .i64)) [] x=(b0f F).m x:=by kernel_rfl
theorem t0E (F:Nat) (x:_):L0 en (y0H F) 89 [.d (.ptr (.st 9))] (.d .bool) [] x=(e0d F).m x:=by kernel_rfl
theorem u0K (F:Nat) (x:_):L0 en (r0N F) 49 [.d (.st 2),.d (.st 1),.d (.st 0)] (.d .bool) [] x=(j0l F).m x:=by kernel_rfl
theorem r0m (F:Nat) (x:_):L0 en (u0G F) 37 [.d (.list (.int .i64)),.d (.list (.int .i64))] (.d .bool) [] x=(g0x F).m x:=by kernel_rfl
theorem s0z (F:Nat) (x:_):L0 en (u0x F) 149 [.d (.list (.st 3)),.d (.int .i64)] (.own 3 (.int .i64)) [] x=(e01 F).m x:=by kernel_rfl
theorem u0D (F:Nat) (x:_):L0 en (r0L F) 102 [.d (.list (.int .i64)),.d (.int .i64)] (.own 138 (.st 7)) [] x=(h0e F).m x:=by kernel_rfl
theorem t0x (F:Nat) (x:_):L0 en (y0p F) 54 [.d (.list (.int .i64)),.d (.list (.int .i64))] (.d .bool) [] x=(f0w F).m x:=by kernel_rfl
theorem q07 (F:Nat) (x:_):L0 en (w0A F) 152 [.d (.list (.st 3)),.d (.int .i64)] (.tup [.d (.st 11),.d .bool]) [] x=(f06 F).m x:=by kernel_rfl
theorem p0S (F:Nat) (x:_):L0 en (w0u F) 184 [.d (.st 5),.d (.list (.int .i64)),.d (.list (.st 11))] (.d (.int .i64)) [] x=(j0t F).m x:=by kernel_rfl
theorem u0t (F:Nat) (x:_):L0 en (y0F F) 97 [.box 86 [.d (.st 9)]] (.tup []) [(0,.box 86 [.d (.st 9)])] x=(f03 F).m x:=by kernel_rfl
theorem q0b (F:Nat) (x:_):L0 en (q0V F) 205 [.d (.st 20),.d (.int .i64),.d (.int .i64)] (.d (.int .i64)) [] x=(e02 F).m x:=by kernel_rfl
theorem u0s (F:Nat) (x:_):L0 en (v0S F) 206 [.d (.list (.int .i64)),.d (.list (.int .i64))] (.own 3 (.int .i64)) [] x=(g0w F).m x:=by kernel_rfl
theorem y0O (F:Nat) (x:_):L0 en (s0V F) 183 [.d (.list (.st 16)),.d (.int .i64)] (.tup [.own 3 (.int .i64),.own 116 (.st 11)]) [] x=(i0d F).m x:=by kernel_rfl
theorem r04 (F:Nat) (x:_):L0 en (q08 F) 178 [.d (.ptr (.st 15)),.d (.int .i64)] (.tup [.own 116 (.st 11),.d (.list (.int .i64))]) [] x=(e0C F).m x:=by kernel_rfl
theorem y0q (F:Nat) (x:_):L0 en (y0Y F) 111 [.d (.list (.st 3))] (.own 4 .bool) [] x=(c0y F).m x:=by kernel_rfl
theorem v0j (F:Nat) (x:_):L0 en (y06 F) 118 [.d (.st 6)] (.d (.int .i64)) [] x=(i0P F).m x:=by kernel_rfl
theorem u0N (F:Nat) (x:_):L0 en (z0C F) 46 [.d (.list (.int .i64))] (.d .bool) [] x=(e0G F).m x:=by kernel_rfl
theorem t09 (F:Nat) (x:_):L0 en (x0D F) 43 [.d (.ptr (.st 9))] (.d (.int .i64)) [] x=(j0S F).m x:=by kernel_rfl
theorem z0m (F:Nat) (x:_):L0 en (w0o F) 212 [.d (.list (.st 3))] (.own 3 (.int .i64)) [] x=(g0Y F).m x:=by kernel_rfl
theorem p0X (F:Nat) (x:_):L0 en (z0s F) 142 [.d (.int .i64),.d (.int .i64)] (.d (.st 7)) [] x=(i0Y F).m x:=by kernel_rfl
theorem x0h (F:Nat) (x:_):L0 en (t0a F) 155 [.d (.list (.st 3))] (.own 3 (.int .i64)) [] x=(f0c F).m x:=by kernel_rfl
theorem y0N (F:Nat) (x:_):L0 en (s0l F) 48 [.d (.st 1),.d (.int .i64)] (.d .bool) [] x=(h0y F).m x:=by kernel_rfl
theorem t0U (F:Nat) (x:_):L0 en (z0o F) 113 [] (.agg [.fn 146 [],.fn 147 [.box 75 [.fn 146 []]]]) [] x=(i0y F).m x:=by kernel_rfl
theorem p0K (F:Nat) (x:_):L0 en (v00 F) 171 [.d (.list (.int .i64)),.d (.int .i64)] (.d .bool) [] x=(h0s F).m x:=by kernel_rfl
theorem x0r (F:Nat) (x:_):L0 en (t0N F) 59 [.d (.list (.st 3))] (.tup [.d (.list (.int .i64)),.d (.int .i64)]) [] x=(h03 F).m x:=by kernel_rfl
theorem t0n (F:Nat) (x:_):L0 en (s0I F) 34 [.d (.st 2)] (.tup [.alt .nilp (.box 86 [.d (.st 9)]),.d (.int .i64)]) [] x=(b0I F).m x:=by kernel_rfl
theorem s0C (F:Nat) (x:_):L0 en (t0h F) 87 [.d (.ptr (.st 9))] (.tup [.own 138 (.st 7),.d (.int .i64)]) [] x=(f0P F).m x:=by kernel_rfl
theorem s04 (F:Nat) (x:_):L0 en (z0w F) 27 [.d (.st 2),.d (.list (.int .u8))] (.tup [.own 138 (.st 7),.d (.int .i64)]) [] x=(e0Y F).m x:=by kernel_rfl
theorem v0V (F:Nat) (x:_):L0 en (r0O F) 19 [.d (.list (.st 3)),.d (.int .i64),.d (.int .i64)] (.tup [.d (.st 2),.d (.int .i64)]) [] x=(k0x F).m x:=by kernel_rfl
theorem q0O (F n:Nat) (x:_):L0 en (u0y F n) 204 [.d (.list (.st 3)),.d (.st 11),.d (.st 11)] (.tup [.d (.int .i64),.d (.int .i64),.d (.int .i64)]) [] x=(f04 F (n+1)).m x:=by kernel_rfl
theorem s0a (F n:Nat) (x:_):L0 en (u0d F n) 213 [.d (.ptr (.st 15)),.d (.int .i64),.d (.list (.int .i64)),.own 116 (.st 11)] (.own 116 (.st 11)) [] x=(d0a F (n+1)).m x:=by kernel_rfl
theorem x0W (F:Nat) (x:_):L0 en (q09 F) 186 [.d (.list (.st 3)),.agg [.d (.int .i64),.d (.list (.int .i64)),.M0 22 [3] (.list (.int .i64)),.d (.st 5)]] (.agg [.d (.int .i64),.d (.list (.int .i64)),.M0 22 [3] (.list (.int .i64)),.d (.st 5)]) [] x=(g0Q F).m x:=by kernel_rfl
theorem r08 (F:Nat) (x:_):L0 en (u0V F) 85 [] (.own 132 (.st 3)) [] x=(i01 F).m x:=by kernel_rfl
theorem t0S (F:Nat) (x:_):L0 en (v0Z F) 11 [.d (.st 2)] (.d .bool) [] x=(d0B F).m x:=by kernel_rfl
theorem s0k (F:Nat) (x:_):L0 en (q0J F) 210 [.d (.list (.st 3))] (.own 3 (.int .i64)) [] x=(b0Q F).m x:=by kernel_rfl
theorem r0G (F:Nat) (x:_):L0 en (w0Q F) 174 [.d (.st 5),.d (.int .i64)] (.d .bool) [] x=(e0y F).m x:=by kernel_rfl
theorem v0T (F:Nat) (x:_):L0 en (x0V F) 88 [.d (.st 2),.d (.list (.int .u8))] (.d (.st 10)) [] x=(f0R F).m x:=by kernel_rfl
theorem z0P (F:Nat) (x:_):L0 en (r0Y F) 39 [.d (.ptr (.st 9))] (.d (.int .i64)) [] x=(e06 F).m x:=by kernel_rfl
theorem x03 (F:Nat) (x:_):L0 en (s0S F) 36 [.d (.ptr (.st 9))] (.d (.int .i64)) [] x=(e0N F).m x:=by kernel_rfl
theorem y0d (F:Nat) (x:_):L0 en (x0t F) 151 [.d (.list (.st 3)),.d (.st 6)] (.d (.int .i64)) [] x=(f0Q F).m x:=by kernel_rfl
theorem w0X (F:Nat) (x:_):L0 en (z0e F) 7 [.d (.st 2),.d (.list (.int .u8))] (.d .bool) [] x=(o0C F).m x:=by kernel_rfl
theorem u0w (F:Nat) (x:_):L0 en (t0I F) 193 [.d (.list (.st 3))] (.tup [.alt .nilp (.box 246 [.d (.st 15)]),.d .bool]) [] x=(f08 F).m x:=by kernel_rfl
theorem x0L (F:Nat) (x:_):L0 en (q0W F) 98 [.d (.ptr (.st 9)),.d (.list (.int .i64))] (.own 3 (.int .i64)) [] x=(f07 F).m x:=by kernel_rfl
theorem v0Y (F:Nat) (x:_):L0 en (r0v F) 28 [.d (.st 2),.d (.list (.int .u8))] (.tup [.own 138 (.st 7),.d (.int .i64)]) [] x=(h0H F).m x:=by kernel_rfl
theorem w0V (F:Nat) (x:_):L0 en (p0T F) 208 [.d (.list (.list (.int .i64))),.d (.list (.int .i64))] (.own 22 (.list (.int .i64))) [] x=(j0j F).m x:=by kernel_rfl
theorem p0G (F n:Nat) (x:_):L0 en (x0Z F n) 192 [.d (.list (.st 3)),.d (.list .bool),.d (.int .i64),.own 3 (.int .i64)] (.own 3 (.int .i64)) [] x=(e0o F (n+1)).m x:=by kernel_rfl
theorem w0j (F:Nat) (x:_):L0 en (s0h F) 63 [.box 108 [.d (.list (.st 3)),.d (.int .i64),.d (.list (.int .u8)),.agg [.own 48 (.st 6),.fn 60 []]],.d (.st 6)] (.d (.st 1)) [(0,.box 108 [.d (.list (.st 3)),.d (.int .i64),.d (.list (.int .u8)),.agg [.own 48 (.st 6),.fn 60 []]])] x=(g0P F).m x:=by kernel_rfl
