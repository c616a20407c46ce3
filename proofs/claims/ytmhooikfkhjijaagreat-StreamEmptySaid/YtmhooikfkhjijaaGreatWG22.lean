/- Laws of the models and helpers of the proof. Its conditions: none. -/
import Derived.Test.YtmhooikfkhjijaaGreatWMd
import Derived.Test.YtmhooikfkhjijaaGreatWEn
import Derived.Test.YtmhooikfkhjijaaGreatWX17
import Derived.Test.YtmhooikfkhjijaaGreatWX14
import Derived.Test.YtmhooikfkhjijaaGreatWVKey
set_option linter.all false
set_option maxRecDepth 100000
noncomputable section
namespace Go.Proofs.YtmhooikfkhjijaaGreat
open Go.V Go.RowKit Go.X
theorem t0B (F:Nat) (x:_):L0 en (z0F F) 153 [.d (.st 11)] (.d .bool) [] x=(b0W F).m x:=by kernel_rfl
theorem s0T (F:Nat) (x:_):L0 en (w0G F) 139 [.d (.st 0)] (.d .bool) [] x=(g0I F).m x:=by kernel_rfl
theorem U0i (F:Nat) (x:_):L0 en (Q02 F) 132 [.d (.ptr (.st 23))] (.d .bool) [] x=(K0B F).m x:=by kernel_rfl
theorem Y0G (F:Nat) (x:_):L0 en (Y00 F) 245 [.d (.st 24)] (.d .bool) [] x=(M0l F).m x:=by kernel_rfl
theorem S0F (F:Nat) (x:_):L0 en (X0B F) 106 [.d (.list (.st 0))] (.box 196 [.d (.st 18)]) [] x=(J0O F).m x:=by kernel_rfl
theorem t02 (F:Nat) (x:_):L0 en (q0n F) 179 [.d (.list (.st 0)),.d (.int .i64)] (.own 3 (.int .i64)) [] x=(c06 F).m x:=by kernel_rfl
theorem q0A (F:Nat) (x:_):L0 en (s0p F) 27 [.d (.list (.st 8)),.d (.list (.st 8))] (.d .bool) [] x=(d0m F).m x:=by kernel_rfl
theorem T0Z (F:Nat) (x:_):L0 en (W0G F) 92 [.d (.ptr (.st 23)),.d (.int .i64)] (.d (.int .i64)) [] x=(I0h F).m x:=by kernel_rfl
theorem p0O (F:Nat) (x:_):L0 en (y0T F) 113 [.d (.list (.st 0)),.d (.st 11),.d (.list (.int .i64)),.d (.list (.st 10))] (.d (.st 11)) [] x=(i0p F).m x:=by kernel_rfl
theorem P0f (F:Nat) (x:_):L0 en (U0J F) 116 [.d (.list (.list (.int .i64))),.d (.list (.int .i64))] (.own 23 (.list (.int .i64))) [] x=(K0Q F).m x:=by kernel_rfl
theorem p0G (F n:Nat) (x:_):L0 en (x0Z F n) 200 [.d (.list (.st 0)),.d (.list .bool),.d (.int .i64),.own 3 (.int .i64)] (.own 3 (.int .i64)) [] x=(e0o F (n+1)).m x:=by kernel_rfl
theorem s0a (F n:Nat) (x:_):L0 en (u0d F n) 174 [.d (.ptr (.st 31)),.d (.int .i64),.d (.list (.int .i64)),.own 194 (.st 10)] (.own 194 (.st 10)) [] x=(d0a F (n+1)).m x:=by kernel_rfl
theorem Z0n (F:Nat) (x:_):L0 en (Y0J F) 21 [] (.d .bool) [] x=(R0c F).m x:=by kernel_rfl
theorem t0m (F:Nat) (x:_):L0 en (x0l F) 151 [.d (.st 11)] (.d (.st 11)) [] x=(j0U F).m x:=by kernel_rfl
theorem r00 (F:Nat) (x:_):L0 en (v0A F) 68 [.d (.list (.st 0))] (.d .bool) [] x=(A7 F).m x:=by kernel_rfl
theorem s0k (F:Nat) (x:_):L0 en (q0J F) 193 [.d (.list (.st 0))] (.own 3 (.int .i64)) [] x=(b0Q F).m x:=by kernel_rfl
theorem q0P (F:Nat) (x:_):L0 en (q0U F) 154 [.d (.st 11),.d (.int .i64)] (.d .bool) [] x=(c0W F).m x:=by kernel_rfl
theorem y0w (F:Nat) (x:_):L0 en (v0X F) 173 [.own 194 (.st 10)] (.own 194 (.st 10)) [] x=(g0u F).m x:=by kernel_rfl
theorem Y0W (F:Nat) (x:_):L0 en (Y0U F) 246 [.d (.ptr (.st 20))] (.d .bool) [] x=(X0Z F).m x:=by kernel_rfl
theorem v0z (F:Nat) (x:_):L0 en (w0S F) 37 [.d (.list (.st 0))] (.own 3 (.int .i64)) [] x=(b0f F).m x:=by kernel_rfl
theorem q04 (F:Nat) (x:_):L0 en (u0R F) 114 [.d (.st 11),.d (.list (.int .i64))] (.d (.int .i64)) [] x=(j0T F).m x:=by kernel_rfl
theorem z0f (F:Nat) (x:_):L0 en (q03 F) 147 [.d (.list (.st 0)),.d (.list (.int .i64))] (.own 237 (.st 16)) [] x=(f01 F).m x:=by kernel_rfl
theorem s0z (F:Nat) (x:_):L0 en (u0x F) 101 [.d (.list (.st 0)),.d (.int .i64)] (.own 3 (.int .i64)) [] x=(e01 F).m x:=by kernel_rfl
theorem q0b (F:Nat) (x:_):L0 en (q0V F) 159 [.d (.st 30),.d (.int .i64),.d (.int .i64)] (.d (.int .i64)) [] x=(e02 F).m x:=by kernel_rfl
theorem Y0x (F:Nat) (x:_):L0 en (Y0B F) 8 [.d (.list (.st 0)),.d (.list (.int .u8)),.d (.list (.int .u8))] (.d .bool) [] x=(Y0k F).m x:=by kernel_rfl
theorem x0i (F:Nat) (x:_):L0 en (w0x F) 175 [.d (.list (.st 0)),.d (.int .i64)] (.tup [.alt .nilp (.box 286 [.d (.st 31)]),.d (.int .i64),.d .bool]) [] x=(f02 F).m x:=by kernel_rfl
theorem Y0w (F:Nat) (x:_):L0 en (Y0E F) 22 [.d (.list (.st 0))] (.tup [.alt .nilp (.box 88 [.d (.st 7),.ifc 120 (.agg [.box 109 [.box 158 [.d (.st 19)],.d (.list (.int .i64)),.d (.int .i64),.d .bool]])]),.d (.int .i64)]) [] x=(K0d F).m x:=by kernel_rfl
theorem Y0R (F:Nat) (x:_):L0 en (Z0a F) 34 [.box 88 [.d (.st 7),.ifc 120 (.agg [.box 109 [.box 158 [.d (.st 19)],.d (.list (.int .i64)),.d (.int .i64),.d .bool]])]] (.d (.int .i64)) [(0,.box 88 [.d (.st 7),.ifc 120 (.agg [.box 109 [.box 158 [.d (.st 19)],.d (.list (.int .i64)),.d (.int .i64),.d .bool]])])] x=(X0V F).m x:=by kernel_rfl
theorem u0e (F:Nat) (x:_):L0 en (q0L F) 69 [.d (.list (.st 0))] (.d (.int .i64)) [] x=(j0B F).m x:=by kernel_rfl
theorem u0N (F:Nat) (x:_):L0 en (z0C F) 71 [.d (.list (.int .i64))] (.d .bool) [] x=(e0G F).m x:=by kernel_rfl
theorem P0Z (F:Nat) (x:_):L0 en (U0h F) 77 [.d (.st 4),.d (.st 2)] (.d .bool) [] x=(L0L F).m x:=by kernel_rfl
theorem x06 (F:Nat) (x:_):L0 en (w07 F) 140 [.d (.st 0),.d (.list (.st 0))] (.d .bool) [] x=(h0t F).m x:=by kernel_rfl
theorem z0m (F:Nat) (x:_):L0 en (w0o F) 194 [.d (.list (.st 0))] (.own 3 (.int .i64)) [] x=(g0Y F).m x:=by kernel_rfl
theorem S0N (F:Nat) (x:_):L0 en (T0U F) 45 [.d (.ptr (.st 19))] (.d (.int .i64)) [] x=(J0V F).m x:=by kernel_rfl
theorem t0M (F:Nat) (x:_):L0 en (x0I F) 145 [.d (.list (.st 0)),.d (.int .i64)] (.own 194 (.st 10)) [] x=(g0U F).m x:=by kernel_rfl
theorem x0s (F:Nat) (x:_):L0 en (x0o F) 138 [.d (.list (.st 0)),.d (.list (.int .i64)),.d (.int .i64)] (.d (.int .i64)) [] x=(j0m F).m x:=by kernel_rfl
theorem S0C (F:Nat) (x:_):L0 en (U0u F) 78 [.d (.list (.st 0))] (.tup [.alt .nilp (.box 158 [.d (.st 19)]),.d (.int .i64)]) [] x=(J0N F).m x:=by kernel_rfl
theorem Y0O (F:Nat) (x:_):L0 en (Z0b F) 28 [.d (.st 4)] (.tup [.alt .nilp (.box 88 [.d (.st 7),.ifc 132 (.agg [.box 167 [.d (.st 23)]])]),.d (.int .i64)]) [] x=(R0n F).m x:=by kernel_rfl
theorem U05 (F:Nat) (x:_):L0 en (U0b F) 42 [.d (.list (.st 0))] (.tup [.alt .nilp (.box 109 [.box 158 [.d (.st 19)],.d (.list (.int .i64)),.d (.int .i64),.d .bool]),.d (.int .i64)]) [] x=(L0v F).m x:=by kernel_rfl
theorem X0P (F:Nat) (x:_):L0 en (W0x F) 43 [.box 109 [.box 158 [.d (.st 19)],.d (.list (.int .i64)),.d (.int .i64),.d .bool],.d (.int .u8)] (.tup []) [(0,.box 109 [.box 158 [.d (.st 19)],.d (.list (.int .i64)),.d (.int .i64),.d .bool])] x=(M0p F).m x:=by kernel_rfl
