/- Laws of the models and helpers of the proof. Its conditions: none. -/
import Derived.Test.YtmhooikfkhjijaaGreatTMd
import Derived.Test.YtmhooikfkhjijaaGreatTEn
import Derived.Test.YtmhooikfkhjijaaGreatTX17
import Derived.Test.YtmhooikfkhjijaaGreatTX14
import Derived.Test.YtmhooikfkhjijaaGreatTVKey
set_option linter.all false
set_option maxRecDepth 100000
noncomputable section
namespace Go.Proofs.YtmhooikfkhjijaaGreat
open Go.V Go.RowKit Go.X
theorem V0U (F:Nat) (x:_):L0 en (V0a F) 10 [] (.d .bool) [] x=(H0m F).m x:=by kernel_rfl
theorem t0B (F:Nat) (x:_):L0 en (z0F F) 153 [.d (.st 11)] (.d .bool) [] x=(b0W F).m x:=by kernel_rfl
theorem s0T (F:Nat) (x:_):L0 en (w0G F) 139 [.d (.st 0)] (.d .bool) [] x=(g0I F).m x:=by kernel_rfl
theorem P0E (F:Nat) (x:_):L0 en (T05 F) 67 [.d (.st 4),.d (.st 2)] (.d .bool) [] x=(K0M F).m x:=by kernel_rfl
theorem W0X (F:Nat) (x:_):L0 en (T0t F) 70 [.d (.list (.st 0))] (.d (.int .i64)) [] x=(L0x F).m x:=by kernel_rfl
theorem S0E (F:Nat) (x:_):L0 en (P0W F) 40 [.d (.list (.st 0))] (.d (.int .i64)) [] x=(F0R F).m x:=by kernel_rfl
theorem T01 (F:Nat) (x:_):L0 en (R0J F) 134 [.d (.list (.st 0))] (.own 3 (.int .i64)) [] x=(I09 F).m x:=by kernel_rfl
theorem W0D (F:Nat) (x:_):L0 en (R0d F) 52 [.d (.st 14),.d (.int .u8)] (.d (.st 14)) [] x=(L09 F).m x:=by kernel_rfl
theorem U0i (F:Nat) (x:_):L0 en (Q02 F) 132 [.d (.ptr (.st 23))] (.d .bool) [] x=(K0B F).m x:=by kernel_rfl
theorem S0F (F:Nat) (x:_):L0 en (X0B F) 106 [.d (.list (.st 0))] (.box 196 [.d (.st 18)]) [] x=(J0O F).m x:=by kernel_rfl
theorem R06 (F:Nat) (x:_):L0 en (P0C F) 129 [.d (.st 11),.d (.list (.int .i64))] (.d (.int .i64)) [] x=(K0O F).m x:=by kernel_rfl
theorem t02 (F:Nat) (x:_):L0 en (q0n F) 179 [.d (.list (.st 0)),.d (.int .i64)] (.own 3 (.int .i64)) [] x=(c06 F).m x:=by kernel_rfl
theorem S0X (F:Nat) (x:_):L0 en (P0t F) 97 [.d (.list (.st 0)),.d (.int .i64)] (.own 3 (.int .i64)) [] x=(J0w F).m x:=by kernel_rfl
theorem T0Z (F:Nat) (x:_):L0 en (W0G F) 92 [.d (.ptr (.st 23)),.d (.int .i64)] (.d (.int .i64)) [] x=(I0h F).m x:=by kernel_rfl
theorem R0r (F:Nat) (x:_):L0 en (W0p F) 17 [.d (.st 4),.d (.list (.int .u8))] (.tup [.d (.st 5),.d (.int .i64)]) [] x=(J0p F).m x:=by kernel_rfl
theorem Q0r (F:Nat) (x:_):L0 en (P08 F) 11 [.d (.list (.st 0)),.d (.int .i64)] (.tup [.d (.st 5),.d (.int .i64)]) [] x=(F04 F).m x:=by kernel_rfl
theorem W0A (F:Nat) (x:_):L0 en (Q0X F) 15 [.d (.list (.st 0)),.d (.list (.int .u8))] (.tup [.d (.st 5),.d (.int .i64)]) [] x=(H0N F).m x:=by kernel_rfl
theorem V0N (F:Nat) (x:_):L0 en (T0a F) 133 [.d (.list (.int .i64)),.d (.st 1),.d (.int .i64)] (.tup [.d (.int .i64),.d .bool]) [] x=(L0s F).m x:=by kernel_rfl
theorem p0O (F:Nat) (x:_):L0 en (y0T F) 113 [.d (.list (.st 0)),.d (.st 11),.d (.list (.int .i64)),.d (.list (.st 10))] (.d (.st 11)) [] x=(i0p F).m x:=by kernel_rfl
theorem P0f (F:Nat) (x:_):L0 en (U0J F) 116 [.d (.list (.list (.int .i64))),.d (.list (.int .i64))] (.own 23 (.list (.int .i64))) [] x=(K0Q F).m x:=by kernel_rfl
theorem p0G (F n:Nat) (x:_):L0 en (x0Z F n) 200 [.d (.list (.st 0)),.d (.list .bool),.d (.int .i64),.own 3 (.int .i64)] (.own 3 (.int .i64)) [] x=(e0o F (n+1)).m x:=by kernel_rfl
theorem s0a (F n:Nat) (x:_):L0 en (u0d F n) 174 [.d (.ptr (.st 31)),.d (.int .i64),.d (.list (.int .i64)),.own 194 (.st 10)] (.own 194 (.st 10)) [] x=(d0a F (n+1)).m x:=by kernel_rfl
theorem T0r (F:Nat) (x:_):L0 en (V0f F) 44 [.box 105 [.box 109 [.box 158 [.d (.st 19)],.d (.list (.int .i64)),.d (.int .i64),.d .bool],.d (.int .i64),.d (.int .i64)]] (.tup []) [(0,.box 105 [.box 109 [.box 158 [.d (.st 19)],.d (.list (.int .i64)),.d (.int .i64),.d .bool],.d (.int .i64),.d (.int .i64)])] x=(L0g F).m x:=by kernel_rfl
theorem t0m (F:Nat) (x:_):L0 en (x0l F) 151 [.d (.st 11)] (.d (.st 11)) [] x=(j0U F).m x:=by kernel_rfl
theorem R0e (F:Nat) (x:_):L0 en (V0l F) 124 [.d (.st 11)] (.d (.st 11)) [] x=(L0D F).m x:=by kernel_rfl
theorem r00 (F:Nat) (x:_):L0 en (v0A F) 68 [.d (.list (.st 0))] (.d .bool) [] x=(A7 F).m x:=by kernel_rfl
theorem s0k (F:Nat) (x:_):L0 en (q0J F) 193 [.d (.list (.st 0))] (.own 3 (.int .i64)) [] x=(b0Q F).m x:=by kernel_rfl
theorem q0P (F:Nat) (x:_):L0 en (q0U F) 154 [.d (.st 11),.d (.int .i64)] (.d .bool) [] x=(c0W F).m x:=by kernel_rfl
theorem y0w (F:Nat) (x:_):L0 en (v0X F) 173 [.own 194 (.st 10)] (.own 194 (.st 10)) [] x=(g0u F).m x:=by kernel_rfl
theorem U0f (F:Nat) (x:_):L0 en (R04 F) 89 [.d (.st 12),.d (.int .i64)] (.d (.st 12)) [] x=(K0x F).m x:=by kernel_rfl
theorem v0z (F:Nat) (x:_):L0 en (w0S F) 37 [.d (.list (.st 0))] (.own 3 (.int .i64)) [] x=(b0f F).m x:=by kernel_rfl
theorem q04 (F:Nat) (x:_):L0 en (u0R F) 114 [.d (.st 11),.d (.list (.int .i64))] (.d (.int .i64)) [] x=(j0T F).m x:=by kernel_rfl
theorem z0f (F:Nat) (x:_):L0 en (q03 F) 147 [.d (.list (.st 0)),.d (.list (.int .i64))] (.own 237 (.st 16)) [] x=(f01 F).m x:=by kernel_rfl
theorem T0T (F:Nat) (x:_):L0 en (R0Y F) 123 [.d (.list (.st 0)),.d (.list (.int .i64))] (.own 237 (.st 16)) [] x=(H0C F).m x:=by kernel_rfl
theorem s0z (F:Nat) (x:_):L0 en (u0x F) 101 [.d (.list (.st 0)),.d (.int .i64)] (.own 3 (.int .i64)) [] x=(e01 F).m x:=by kernel_rfl
theorem R0y (F:Nat) (x:_):L0 en (T0f F) 126 [.d (.list (.st 10)),.d (.int .i64)] (.tup [.d (.st 10),.d .bool]) [] x=(J00 F).m x:=by kernel_rfl
theorem R0f (F:Nat) (x:_):L0 en (W0H F) 191 [.d (.list (.st 0)),.d (.int .i64),.d (.int .i64)] (.d (.int .i64)) [] x=(L00 F).m x:=by kernel_rfl
theorem W00 (F:Nat) (x:_):L0 en (P0L F) 18 [.d (.st 4),.d (.list (.int .u8))] (.tup [.d (.st 5),.d (.int .i64)]) [] x=(L0G F).m x:=by kernel_rfl
theorem q0b (F:Nat) (x:_):L0 en (q0V F) 159 [.d (.st 30),.d (.int .i64),.d (.int .i64)] (.d (.int .i64)) [] x=(e02 F).m x:=by kernel_rfl
theorem P0N (F n:Nat) (x:_):L0 en (P0S F n) 187 [.d (.list (.st 0)),.d (.list .bool),.d (.int .i64)] (.own 3 (.int .i64)) [] x=(F0G F (n+1)).m x:=by kernel_rfl
theorem U0q (F:Nat) (x:_):L0 en (X0n F) 94 [.d (.list (.int .i64)),.d (.list (.st 1)),.d (.int .i64)] (.own 3 (.int .i64)) [] x=(K0H F).m x:=by kernel_rfl
theorem R0X (F:Nat) (x:_):L0 en (X0k F) 163 [.d (.list (.st 0)),.d (.int .i64)] (.tup [.own 194 (.st 10),.d (.st 10),.d .bool]) [] x=(I0V F).m x:=by kernel_rfl
theorem x0i (F:Nat) (x:_):L0 en (w0x F) 175 [.d (.list (.st 0)),.d (.int .i64)] (.tup [.alt .nilp (.box 286 [.d (.st 31)]),.d (.int .i64),.d .bool]) [] x=(f02 F).m x:=by kernel_rfl
theorem V0R (F n:Nat) (x:_):L0 en (P0o F n) 160 [.d (.list (.st 0)),.d (.list (.int .i64)),.d (.list .bool),.d (.int .i64),.d (.list (.int .i64))] (.own 194 (.st 10)) [] x=(G0U F (n+1)).m x:=by kernel_rfl
theorem W08 (F:Nat) (x:_):L0 en (S0e F) 35 [] (.own 145 (.st 0)) [] x=(K0c F).m x:=by kernel_rfl
theorem u0e (F:Nat) (x:_):L0 en (q0L F) 69 [.d (.list (.st 0))] (.d (.int .i64)) [] x=(j0B F).m x:=by kernel_rfl
theorem Q03 (F:Nat) (x:_):L0 en (V0d F) 162 [.d (.list (.st 0))] (.own 4 .bool) [] x=(G0N F).m x:=by kernel_rfl
theorem u0N (F:Nat) (x:_):L0 en (z0C F) 71 [.d (.list (.int .i64))] (.d .bool) [] x=(e0G F).m x:=by kernel_rfl
theorem P0Z (F:Nat) (x:_):L0 en (U0h F) 77 [.d (.st 4),.d (.st 2)] (.d .bool) [] x=(L0L F).m x:=by kernel_rfl
theorem Q0K (F:Nat) (x:_):L0 en (S0z F) 38 [.d .bool,.d (.int .i64)] (.d (.int .i64)) [] x=(I0z F).m x:=by kernel_rfl
theorem x06 (F:Nat) (x:_):L0 en (w07 F) 140 [.d (.st 0),.d (.list (.st 0))] (.d .bool) [] x=(h0t F).m x:=by kernel_rfl
theorem z0m (F:Nat) (x:_):L0 en (w0o F) 194 [.d (.list (.st 0))] (.own 3 (.int .i64)) [] x=(g0Y F).m x:=by kernel_rfl
theorem P06 (F:Nat) (x:_):L0 en (Q0W F) 39 [.d (.list (.st 0))] (.own 3 (.int .i64)) [] x=(E0t F).m x:=by kernel_rfl
theorem U0t (F:Nat) (x:_):L0 en (T0R F) 125 [.d (.arr 4 (.int .u64)),.d (.int .i64)] (.d .bool) [] x=(M0i F).m x:=by kernel_rfl
theorem S0N (F:Nat) (x:_):L0 en (T0U F) 45 [.d (.ptr (.st 19))] (.d (.int .i64)) [] x=(J0V F).m x:=by kernel_rfl
theorem R0H (F:Nat) (x:_):L0 en (U0N F) 170 [.d (.int .i64),.d (.int .i64)] (.d (.int .i64)) [] x=(J0v F).m x:=by kernel_rfl
theorem t0M (F:Nat) (x:_):L0 en (x0I F) 145 [.d (.list (.st 0)),.d (.int .i64)] (.own 194 (.st 10)) [] x=(g0U F).m x:=by kernel_rfl
theorem R0S (F:Nat) (x:_):L0 en (P0z F) 164 [.d (.list (.st 0)),.d (.int .i64)] (.own 3 (.int .i64)) [] x=(L03 F).m x:=by kernel_rfl
theorem x0s (F:Nat) (x:_):L0 en (x0o F) 138 [.d (.list (.st 0)),.d (.list (.int .i64)),.d (.int .i64)] (.d (.int .i64)) [] x=(j0m F).m x:=by kernel_rfl
theorem S0C (F:Nat) (x:_):L0 en (U0u F) 78 [.d (.list (.st 0))] (.tup [.alt .nilp (.box 158 [.d (.st 19)]),.d (.int .i64)]) [] x=(J0N F).m x:=by kernel_rfl
theorem P0V (F:Nat) (x:_):L0 en (P0v F) 12 [.d (.list (.st 0)),.d (.int .i64)] (.tup [.d (.st 5),.d (.int .i64)]) [] x=(I08 F).m x:=by kernel_rfl
theorem W0w (F:Nat) (x:_):L0 en (V01 F) 16 [.d (.list (.st 0)),.d (.list (.int .u8))] (.tup [.d (.st 5),.d (.int .i64)]) [] x=(L0k F).m x:=by kernel_rfl
theorem W0W (F:Nat) (x:_):L0 en (V0b F) 167 [.d (.int .i64)] (.agg [.M0 23 [3] (.list (.int .i64)),.M0 23 [3] (.list (.int .i64))]) [] x=(J0t F).m x:=by kernel_rfl
theorem V0W (F:Nat) (x:_):L0 en (X0a F) 168 [.d (.st 11),.d (.int .i64),.d (.int .i64),.d (.st 10),.d (.st 10)] (.d (.int .i64)) [] x=(I0e F).m x:=by kernel_rfl
theorem U05 (F:Nat) (x:_):L0 en (U0b F) 42 [.d (.list (.st 0))] (.tup [.alt .nilp (.box 109 [.box 158 [.d (.st 19)],.d (.list (.int .i64)),.d (.int .i64),.d .bool]),.d (.int .i64)]) [] x=(L0v F).m x:=by kernel_rfl
theorem X0P (F:Nat) (x:_):L0 en (W0x F) 43 [.box 109 [.box 158 [.d (.st 19)],.d (.list (.int .i64)),.d (.int .i64),.d .bool],.d (.int .u8)] (.tup []) [(0,.box 109 [.box 158 [.d (.st 19)],.d (.list (.int .i64)),.d (.int .i64),.d .bool])] x=(M0p F).m x:=by kernel_rfl
