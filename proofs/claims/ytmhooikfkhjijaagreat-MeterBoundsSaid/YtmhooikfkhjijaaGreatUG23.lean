/- Laws of the models and helpers of the proof. Its conditions: none. -/
import Derived.Test.YtmhooikfkhjijaaGreatUMd
import Derived.Test.YtmhooikfkhjijaaGreatUEn
import Derived.Test.YtmhooikfkhjijaaGreatUX17
import Derived.Test.YtmhooikfkhjijaaGreatUX14
import Derived.Test.YtmhooikfkhjijaaGreatUVKey
set_option linter.all false
set_option maxRecDepth 100000
noncomputable section
namespace Go.Proofs.YtmhooikfkhjijaaGreat
open Go.V Go.RowKit Go.X
theorem X0w (F:Nat) (x:_):L0 en (P0X F) 31 [.d (.st 4)] (.d .bool) [] x=(M0g F).m x:=by kernel_rfl
theorem r0T (F:Nat) (x:_):L0 en (v0q F) 36 [.d (.list (.st 0))] (.d (.int .i64)) [] x=(c05 F).m x:=by kernel_rfl
theorem z0O (F:Nat) (x:_):L0 en (v0F F) 100 [.d (.list (.st 0))] (.own 3 (.int .i64)) [] x=(b0B F).m x:=by kernel_rfl
theorem w0M (F:Nat) (x:_):L0 en (x0y F) 72 [.d (.list (.int .i64))] (.own 5 (.int .u8)) [] x=(e0E F).m x:=by kernel_rfl
theorem q0Z (F:Nat) (x:_):L0 en (q02 F) 152 [.d (.arr 4 (.int .u64)),.d (.int .u8)] (.d .bool) [] x=(a0l F).m x:=by kernel_rfl
theorem R0z (F:Nat) (x:_):L0 en (W0j F) 84 [.d (.ptr (.st 20))] (.d (.int .i64)) [] x=(M0n F).m x:=by kernel_rfl
theorem v0k (F:Nat) (x:_):L0 en (u0c F) 149 [.d (.int .i64),.d (.int .i64)] (.own 3 (.int .i64)) [] x=(k0o F).m x:=by kernel_rfl
theorem u0H (F:Nat) (x:_):L0 en (r0q F) 144 [.d (.list (.st 0)),.d (.int .i64)] (.own 194 (.st 10)) [] x=(j0n F).m x:=by kernel_rfl
theorem x0s (F:Nat) (x:_):L0 en (x0o F) 138 [.d (.list (.st 0)),.d (.list (.int .i64)),.d (.int .i64)] (.d (.int .i64)) [] x=(j0m F).m x:=by kernel_rfl
theorem S0C (F:Nat) (x:_):L0 en (U0u F) 78 [.d (.list (.st 0))] (.tup [.alt .nilp (.box 158 [.d (.st 19)]),.d (.int .i64)]) [] x=(J0N F).m x:=by kernel_rfl
theorem P0V (F:Nat) (x:_):L0 en (P0v F) 12 [.d (.list (.st 0)),.d (.int .i64)] (.tup [.d (.st 5),.d (.int .i64)]) [] x=(I08 F).m x:=by kernel_rfl
theorem Q0d (F:Nat) (x:_):L0 en (R0s F) 80 [.box 158 [.d (.st 19)],.d (.int .u8),.d .bool] (.tup []) [(0,.box 158 [.d (.st 19)])] x=(K0p F).m x:=by kernel_rfl
theorem S0u (F:Nat) (x:_):L0 en (S0o F) 110 [.box 158 [.d (.st 19)],.d (.st 28),.d (.int .u8)] (.d (.list (.st 29))) [(0,.box 158 [.d (.st 19)])] x=(J0I F).m x:=by kernel_rfl
theorem r0y (F:Nat) (x:_):L0 en (q0f F) 197 [.d (.ptr (.st 31)),.d (.int .i64),.d (.int .i64),.d (.list (.int .i64)),.own 194 (.st 10)] (.own 194 (.st 10)) [] x=(j0Z F).m x:=by kernel_rfl
theorem V0c (F:Nat) (x:_):L0 en (U0s F) 9 [.d (.st 4)] (.d .bool) [] x=(G08 F).m x:=by kernel_rfl
theorem y0q (F:Nat) (x:_):L0 en (y0Y F) 195 [.d (.list (.st 0))] (.own 4 .bool) [] x=(c0y F).m x:=by kernel_rfl
theorem P05 (F:Nat) (x:_):L0 en (W0F F) 90 [.d (.st 4)] (.d (.st 4)) [] x=(L05 F).m x:=by kernel_rfl
theorem Q0u (F:Nat) (x:_):L0 en (S0T F) 20 [.d (.list (.st 0))] (.d .bool) [] x=(D0J F).m x:=by kernel_rfl
theorem q0t (F:Nat) (x:_):L0 en (q0a F) 185 [.d (.list (.st 0))] (.own 3 (.int .i64)) [] x=(f0j F).m x:=by kernel_rfl
theorem P0F (F:Nat) (x:_):L0 en (T0h F) 81 [.d (.ptr (.st 19))] (.d (.int .i64)) [] x=(L0J F).m x:=by kernel_rfl
theorem W0Z (F:Nat) (x:_):L0 en (Q0A F) 50 [.d (.ptr (.st 23))] (.d (.int .i64)) [] x=(K0g F).m x:=by kernel_rfl
theorem X0y (F:Nat) (x:_):L0 en (V0X F) 53 [.d (.list (.st 0))] (.alt .nil (.own 3 (.int .i64))) [] x=(H08 F).m x:=by kernel_rfl
theorem q0r (F:Nat) (x:_):L0 en (x08 F) 203 [.d (.list (.list (.int .i64))),.d (.int .i64)] (.d .bool) [] x=(k0j F).m x:=by kernel_rfl
theorem R0L (F:Nat) (x:_):L0 en (W0u F) 13 [.d (.st 4),.d (.int .i64)] (.tup [.d (.st 5),.d (.int .i64)]) [] x=(G0V F).m x:=by kernel_rfl
theorem u0w (F:Nat) (x:_):L0 en (t0I F) 172 [.d (.list (.st 0))] (.tup [.alt .nilp (.box 286 [.d (.st 31)]),.d .bool]) [] x=(f08 F).m x:=by kernel_rfl
theorem P09 (F:Nat) (x:_):L0 en (U03 F) 79 [.d (.ptr (.st 19))] (.tup [.own 3 (.int .i64),.d .bool]) [] x=(M0h F).m x:=by kernel_rfl
theorem V0V (F:Nat) (x:_):L0 en (T0k F) 115 [.d (.list (.int .i64)),.d (.list (.int .i64))] (.own 3 (.int .i64)) [] x=(J0X F).m x:=by kernel_rfl
theorem S0Z (F:Nat) (x:_):L0 en (R0P F) 83 [.box 158 [.d (.st 19)],.d (.int .i64)] (.tup []) [(0,.box 158 [.d (.st 19)])] x=(L0a F).m x:=by kernel_rfl
theorem r04 (F:Nat) (x:_):L0 en (q08 F) 176 [.d (.ptr (.st 31)),.d (.int .i64)] (.tup [.own 194 (.st 10),.d (.list (.int .i64))]) [] x=(e0C F).m x:=by kernel_rfl
theorem P0i (F:Nat) (x:_):L0 en (Q0I F) 91 [.box 167 [.d (.st 22),.d (.st 4),.d (.int .i64),.d (.int .i64),.d (.int .i64),.own 3 (.int .i64)]] (.tup []) [(0,.box 167 [.d (.st 22),.d (.st 4),.d (.int .i64),.d (.int .i64),.d (.int .i64),.own 3 (.int .i64)])] x=(J0d F).m x:=by kernel_rfl
theorem t0B (F:Nat) (x:_):L0 en (z0F F) 153 [.d (.st 11)] (.d .bool) [] x=(b0W F).m x:=by kernel_rfl
theorem s0T (F:Nat) (x:_):L0 en (w0G F) 139 [.d (.st 0)] (.d .bool) [] x=(g0I F).m x:=by kernel_rfl
theorem P0E (F:Nat) (x:_):L0 en (T05 F) 67 [.d (.st 4),.d (.st 2)] (.d .bool) [] x=(K0M F).m x:=by kernel_rfl
theorem W0X (F:Nat) (x:_):L0 en (T0t F) 70 [.d (.list (.st 0))] (.d (.int .i64)) [] x=(L0x F).m x:=by kernel_rfl
theorem S0E (F:Nat) (x:_):L0 en (P0W F) 40 [.d (.list (.st 0))] (.d (.int .i64)) [] x=(F0R F).m x:=by kernel_rfl
theorem T01 (F:Nat) (x:_):L0 en (R0J F) 134 [.d (.list (.st 0))] (.own 3 (.int .i64)) [] x=(I09 F).m x:=by kernel_rfl
theorem U0i (F:Nat) (x:_):L0 en (Q02 F) 132 [.d (.ptr (.st 23))] (.d .bool) [] x=(K0B F).m x:=by kernel_rfl
theorem S0F (F:Nat) (x:_):L0 en (X0B F) 106 [.d (.list (.st 0))] (.box 196 [.d (.st 18)]) [] x=(J0O F).m x:=by kernel_rfl
theorem t02 (F:Nat) (x:_):L0 en (q0n F) 179 [.d (.list (.st 0)),.d (.int .i64)] (.own 3 (.int .i64)) [] x=(c06 F).m x:=by kernel_rfl
theorem U0U (F:Nat) (x:_):L0 en (U0A F) 117 [.d (.ptr (.st 19))] (.own 3 (.int .i64)) [] x=(L0t F).m x:=by kernel_rfl
theorem Q0y (F:Nat) (x:_):L0 en (W0U F) 14 [.d (.st 4),.d (.int .i64)] (.tup [.d (.st 5),.d (.int .i64)]) [] x=(I0q F).m x:=by kernel_rfl
theorem R0W (F:Nat) (x:_):L0 en (X0x F) 143 [.d (.list (.st 0)),.d (.list (.st 10))] (.own 208 (.st 17)) [] x=(L0b F).m x:=by kernel_rfl
theorem p0S (F:Nat) (x:_):L0 en (w0u F) 111 [.d (.st 11),.d (.list (.int .i64)),.d (.list (.st 10))] (.d (.int .i64)) [] x=(j0t F).m x:=by kernel_rfl
theorem X0p (F:Nat) (x:_):L0 en (T0o F) 3 [.d (.list (.st 0)),.d (.st 4),.d (.int .i64)] (.d .bool) [] x=(O0E F).m x:=by kernel_rfl
theorem R0C (F:Nat) (x:_):L0 en (S0s F) 5 [.d (.list (.st 0)),.d (.st 4),.d (.list (.int .u8))] (.d .bool) [] x=(M0r F).m x:=by kernel_rfl
theorem q0O (F n:Nat) (x:_):L0 en (u0y F n) 158 [.d (.list (.st 0)),.d (.st 10),.d (.st 10)] (.tup [.d (.int .i64),.d (.int .i64),.d (.int .i64)]) [] x=(f04 F (n+1)).m x:=by kernel_rfl
theorem Q0h (F:Nat) (x:_):L0 en (P0Y F) 48 [.d (.st 4)] (.tup [.alt .nilp (.box 167 [.d (.st 22),.d (.st 4),.d (.int .i64),.d (.int .i64),.d (.int .i64),.own 3 (.int .i64)]),.d (.int .i64)]) [] x=(K0A F).m x:=by kernel_rfl
theorem X0D (F:Nat) (x:_):L0 en (Q0M F) 49 [.box 167 [.d (.st 22),.d (.st 4),.d (.int .i64),.d (.int .i64),.d (.int .i64),.own 3 (.int .i64)],.d (.int .u8)] (.tup []) [(0,.box 167 [.d (.st 22),.d (.st 4),.d (.int .i64),.d (.int .i64),.d (.int .i64),.own 3 (.int .i64)])] x=(K0o F).m x:=by kernel_rfl
