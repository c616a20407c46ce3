/- P. Its conditions: none. -/
import Derived.Test.YtmhooikfkhjijaaGreatYMd
import Derived.Test.YtmhooikfkhjijaaGreatYEn
import Derived.Test.YtmhooikfkhjijaaGreatYX17
import Derived.Test.YtmhooikfkhjijaaGreatYX14
import Derived.Test.YtmhooikfkhjijaaGreatYVKey
set_option linter.all false
set_option maxRecDepth 100000
noncomputable section
namespace Go.Proofs.YtmhooikfkhjijaaGreat
open Go.V Go.RowKit Go.X
def Z0v (F:Nat)(x:_):L0 en (Y07 F) 54 [] (.own 145 (.st 0)) [] x=(X0Y F).m x:=by kernel_rfl
def R0O (F:Nat)(x:_):L0 en (U0T F) 41 [.d (.st 4)] (.d .bool) [] x=(H01 F).m x:=by kernel_rfl
def U0p (F:Nat)(x:_):L0 en (Q0J F) 51 [.d (.st 4)] (.d (.st 14)) [] x=(K0a F).m x:=by kernel_rfl
def V0k (F:Nat)(x:_):L0 en (Q0V F) 85 [.d (.list (.st 0))] (.d (.st 12)) [] x=(K06 F).m x:=by kernel_rfl
def T0q (F:Nat)(x:_):L0 en (V0A F) 93 [.d (.st 14)] (.d (.st 14)) [] x=(I00 F).m x:=by kernel_rfl
def Z0h (F:Nat)(x:_):L0 en (Y0I F) 24 [.d (.st 9),.d (.st 9)] (.d .bool) [] x=(X01 F).m x:=by kernel_rfl
def s08 (F:Nat)(x:_):L0 en (p0H F) 65 [.d (.list (.int .i64))] (.d .bool) [] x=(e0f F).m x:=by kernel_rfl
def r0G (F:Nat)(x:_):L0 en (w0Q F) 182 [.d (.st 11),.d (.int .i64)] (.d .bool) [] x=(e0y F).m x:=by kernel_rfl
def R0K (F:Nat)(x:_):L0 en (U0W F) 95 [.d (.int .i64)] (.tup [.d .bool,.d .bool]) [] x=(J0K F).m x:=by kernel_rfl
def R0w (F:Nat)(x:_):L0 en (T0e F) 161 [.d (.list (.st 0))] (.own 3 (.int .i64)) [] x=(I0R F).m x:=by kernel_rfl
def v0U (F:Nat)(x:_):L0 en (u0P F) 66 [.d (.list (.int .i64))] (.own 5 (.int .u8)) [] x=(j06 F).m x:=by kernel_rfl
def y07 (F:Nat)(x:_):L0 en (s0L F) 157 [.d (.int .i64)] (.M0 23 [3] (.list (.int .i64))) [] x=(g0g F).m x:=by kernel_rfl
def X0O (F:Nat)(x:_):L0 en (Q0m F) 190 [.d (.list (.st 10)),.d (.int .i64)] (.d .bool) [] x=(K0q F).m x:=by kernel_rfl
def x0N (F:Nat)(x:_):L0 en (r0W F) 180 [.d (.list (.st 0)),.d (.int .i64)] (.own 237 (.st 16)) [] x=(k0b F).m x:=by kernel_rfl
def S0L (F:Nat)(x:_):L0 en (S0t F) 119 [.d (.list (.st 0)),.d (.int .i64)] (.own 194 (.st 10)) [] x=(L0C F).m x:=by kernel_rfl
def S04 (F:Nat)(x:_):L0 en (W0P F) 108 [.d (.ptr (.st 19))] (.own 3 (.int .i64)) [] x=(J0s F).m x:=by kernel_rfl
def u0H (F:Nat)(x:_):L0 en (r0q F) 144 [.d (.list (.st 0)),.d (.int .i64)] (.own 194 (.st 10)) [] x=(j0n F).m x:=by kernel_rfl
def X0E (F:Nat)(x:_):L0 en (S0Y F) 186 [.d (.list (.int .i64)),.d (.list (.int .i64))] (.own 3 (.int .i64)) [] x=(I0Z F).m x:=by kernel_rfl
def u0w (F:Nat)(x:_):L0 en (t0I F) 172 [.d (.list (.st 0))] (.tup [.alt .nilp (.box 286 [.d (.st 31)]),.d .bool]) [] x=(f08 F).m x:=by kernel_rfl
def P09 (F:Nat)(x:_):L0 en (U03 F) 79 [.d (.ptr (.st 19))] (.tup [.own 3 (.int .i64),.d .bool]) [] x=(M0h F).m x:=by kernel_rfl
def V0V (F:Nat)(x:_):L0 en (T0k F) 115 [.d (.list (.int .i64)),.d (.list (.int .i64))] (.own 3 (.int .i64)) [] x=(J0X F).m x:=by kernel_rfl
def W0W (F:Nat)(x:_):L0 en (V0b F) 167 [.d (.int .i64)] (.agg [.M0 23 [3] (.list (.int .i64)),.M0 23 [3] (.list (.int .i64))]) [] x=(J0t F).m x:=by kernel_rfl
def V0W (F:Nat)(x:_):L0 en (X0a F) 168 [.d (.st 11),.d (.int .i64),.d (.int .i64),.d (.st 10),.d (.st 10)] (.d (.int .i64)) [] x=(I0e F).m x:=by kernel_rfl
def r0y (F:Nat)(x:_):L0 en (q0f F) 197 [.d (.ptr (.st 31)),.d (.int .i64),.d (.int .i64),.d (.list (.int .i64)),.own 194 (.st 10)] (.own 194 (.st 10)) [] x=(j0Z F).m x:=by kernel_rfl
def X0P (F:Nat)(x:_):L0 en (W0x F) 43 [.box 109 [.box 158 [.d (.st 19)],.d (.list (.int .i64)),.d (.int .i64),.d .bool],.d (.int .u8)] (.tup []) [(0,.box 109 [.box 158 [.d (.st 19)],.d (.list (.int .i64)),.d (.int .i64),.d .bool])] x=(M0p F).m x:=by kernel_rfl
def b1C (F:Nat)(x:_):L0 en (a18 F) 29 [.box 88 [.d (.st 7),.ifc 120 (.agg [.box 109 [.box 158 [.d (.st 19)],.d (.list (.int .i64)),.d (.int .i64),.d .bool]])],.d (.st 15),.d (.list (.st 6))] (.d .bool) [(0,.box 88 [.d (.st 7),.ifc 120 (.agg [.box 109 [.box 158 [.d (.st 19)],.d (.list (.int .i64)),.d (.int .i64),.d .bool]])])] x=(Z0N F).m x:=by kernel_rfl
def Y0q (F:Nat)(x:_):L0 en (Y03 F) 23 [.box 88 [.d (.st 7),.ifc 120 (.agg [.box 109 [.box 158 [.d (.st 19)],.d (.list (.int .i64)),.d (.int .i64),.d .bool]])],.d (.list (.int .u8))] (.tup [.agg [.d .bool,.d .bool,.d (.list (.st 8))],.d (.int .i64)]) [(0,.box 88 [.d (.st 7),.ifc 120 (.agg [.box 109 [.box 158 [.d (.st 19)],.d (.list (.int .i64)),.d (.int .i64),.d .bool]])])] x=(J0A F).m x:=by kernel_rfl
def a1L (F:Nat)(x:_):L0 en (b1O F) 99 [.d (.st 15)] (.d .bool) [] x=(Z0x F).m x:=by kernel_rfl
def X0w (F:Nat)(x:_):L0 en (P0X F) 31 [.d (.st 4)] (.d .bool) [] x=(M0g F).m x:=by kernel_rfl
def b1h (F:Nat)(x:_):L0 en (c1c F) 32 [.d (.st 4)] (.d (.st 15)) [] x=(Z09 F).m x:=by kernel_rfl
def V0T (F:Nat)(x:_):L0 en (P0s F) 46 [.d (.list (.st 0))] (.d (.st 13)) [] x=(L0A F).m x:=by kernel_rfl
def r0T (F:Nat)(x:_):L0 en (v0q F) 36 [.d (.list (.st 0))] (.d (.int .i64)) [] x=(c05 F).m x:=by kernel_rfl
def z0O (F:Nat)(x:_):L0 en (v0F F) 100 [.d (.list (.st 0))] (.own 3 (.int .i64)) [] x=(b0B F).m x:=by kernel_rfl
def V0w (F:Nat)(x:_):L0 en (X0J F) 122 [.d (.st 12)] (.own 3 (.int .i64)) [] x=(H0V F).m x:=by kernel_rfl
def T0u (F:Nat)(x:_):L0 en (T0x F) 189 [.d (.list (.st 0))] (.own 3 (.int .i64)) [] x=(I0N F).m x:=by kernel_rfl
def w0M (F:Nat)(x:_):L0 en (x0y F) 72 [.d (.list (.int .i64))] (.own 5 (.int .u8)) [] x=(e0E F).m x:=by kernel_rfl
def q0Z (F:Nat)(x:_):L0 en (q02 F) 152 [.d (.arr 4 (.int .u64)),.d (.int .u8)] (.d .bool) [] x=(a0l F).m x:=by kernel_rfl
def R0z (F:Nat)(x:_):L0 en (W0j F) 84 [.d (.ptr (.st 20))] (.d (.int .i64)) [] x=(M0n F).m x:=by kernel_rfl
def S0g (F:Nat)(x:_):L0 en (V06 F) 88 [.d (.st 12)] (.tup [.own 3 (.int .i64),.d .bool]) [] x=(K0J F).m x:=by kernel_rfl
def Q0T (F:Nat)(x:_):L0 en (V0p F) 87 [.d (.st 12),.d (.int .u8),.d .bool] (.d (.st 12)) [] x=(L0h F).m x:=by kernel_rfl
def v0k (F:Nat)(x:_):L0 en (u0c F) 149 [.d (.int .i64),.d (.int .i64)] (.own 3 (.int .i64)) [] x=(k0o F).m x:=by kernel_rfl
def V00 (F:Nat)(x:_):L0 en (P03 F) 165 [.d (.int .i64),.d (.int .i64)] (.own 3 (.int .i64)) [] x=(L08 F).m x:=by kernel_rfl
def S0r (F:Nat)(x:_):L0 en (W06 F) 118 [.d (.list (.st 0)),.d (.int .i64)] (.own 194 (.st 10)) [] x=(K0P F).m x:=by kernel_rfl
def q0r (F:Nat)(x:_):L0 en (x08 F) 203 [.d (.list (.list (.int .i64))),.d (.int .i64)] (.d .bool) [] x=(k0j F).m x:=by kernel_rfl
def R0W (F:Nat)(x:_):L0 en (X0x F) 143 [.d (.list (.st 0)),.d (.list (.st 10))] (.own 208 (.st 17)) [] x=(L0b F).m x:=by kernel_rfl
def p0S (F:Nat)(x:_):L0 en (w0u F) 111 [.d (.st 11),.d (.list (.int .i64)),.d (.list (.st 10))] (.d (.int .i64)) [] x=(j0t F).m x:=by kernel_rfl
def V0E (F:Nat)(x:_):L0 en (P01 F) 127 [.d (.st 11),.d (.list (.int .i64)),.d (.list (.st 10))] (.d (.int .i64)) [] x=(J0L F).m x:=by kernel_rfl
def b1y (F:Nat)(x:_):L0 en (b13 F) 63 [.d (.st 15),.d (.list (.int .u8))] (.tup [.d (.st 15),.d (.st 9),.d (.int .i64)]) [] x=(Z0J F).m x:=by kernel_rfl
def S0Z (F:Nat)(x:_):L0 en (R0P F) 83 [.box 158 [.d (.st 19)],.d (.int .i64)] (.tup []) [(0,.box 158 [.d (.st 19)])] x=(L0a F).m x:=by kernel_rfl
def Q0d (F:Nat)(x:_):L0 en (R0s F) 80 [.box 158 [.d (.st 19)],.d (.int .u8),.d .bool] (.tup []) [(0,.box 158 [.d (.st 19)])] x=(K0p F).m x:=by kernel_rfl
def S0u (F:Nat)(x:_):L0 en (S0o F) 110 [.box 158 [.d (.st 19)],.d (.st 28),.d (.int .u8)] (.d (.list (.st 29))) [(0,.box 158 [.d (.st 19)])] x=(J0I F).m x:=by kernel_rfl
def Z0r (F:Nat)(x:_):L0 en (Y0Y F) 242 [.box 109 [.box 158 [.d (.st 19)],.d (.list (.int .i64)),.d (.int .i64),.d .bool]] (.tup [.own 118 (.st 8),.d .bool]) [(0,.box 109 [.box 158 [.d (.st 19)],.d (.list (.int .i64)),.d (.int .i64),.d .bool])] x=(X0t F).m x:=by kernel_rfl
def Y0r (F:Nat)(x:_):L0 en (Y0N F) 56 [.box 88 [.d (.st 7),.ifc 120 (.agg [.box 109 [.box 158 [.d (.st 19)],.d (.list (.int .i64)),.d (.int .i64),.d .bool]])]] (.agg [.d .bool,.d .bool,.own 118 (.st 8)]) [(0,.box 88 [.d (.st 7),.ifc 120 (.agg [.box 109 [.box 158 [.d (.st 19)],.d (.list (.int .i64)),.d (.int .i64),.d .bool]])])] x=(I05 F).m x:=by kernel_rfl
def a1Z (F:Nat)(x:_):L0 en (b1R F) 25 [.box 88 [.d (.st 7),.ifc 132 (.agg [.box 167 [.d (.st 22),.d (.st 4),.d (.int .i64),.d (.int .i64),.d (.int .i64),.own 3 (.int .i64)]])]] (.tup [.agg [.d .bool,.d .bool,.d (.list (.st 8))],.d (.int .i64)]) [(0,.box 88 [.d (.st 7),.ifc 132 (.agg [.box 167 [.d (.st 22),.d (.st 4),.d (.int .i64),.d (.int .i64),.d (.int .i64),.own 3 (.int .i64)]])])] x=(a1a F).m x:=by kernel_rfl
def V0c (F:Nat)(x:_):L0 en (U0s F) 9 [.d (.st 4)] (.d .bool) [] x=(G08 F).m x:=by kernel_rfl
def b1w (F:Nat)(x:_):L0 en (b1n F) 98 [.d (.st 15)] (.d (.st 9)) [] x=(Z0A F).m x:=by kernel_rfl
def y0q (F:Nat)(x:_):L0 en (y0Y F) 195 [.d (.list (.st 0))] (.own 4 .bool) [] x=(c0y F).m x:=by kernel_rfl
def P05 (F:Nat)(x:_):L0 en (W0F F) 90 [.d (.st 4)] (.d (.st 4)) [] x=(L05 F).m x:=by kernel_rfl
def Q0u (F:Nat)(x:_):L0 en (S0T F) 20 [.d (.list (.st 0))] (.d .bool) [] x=(D0J F).m x:=by kernel_rfl
def W0g (F:Nat)(x:_):L0 en (S0D F) 188 [.d (.list (.st 0))] (.own 3 (.int .i64)) [] x=(I0g F).m x:=by kernel_rfl
def q0t (F:Nat)(x:_):L0 en (q0a F) 185 [.d (.list (.st 0))] (.own 3 (.int .i64)) [] x=(f0j F).m x:=by kernel_rfl
def S0H (F:Nat)(x:_):L0 en (R0F F) 47 [.d (.st 13),.d (.int .u8)] (.d (.st 13)) [] x=(L0m F).m x:=by kernel_rfl
def V04 (F:Nat)(x:_):L0 en (P0y F) 166 [.d (.st 11),.d (.int .i64)] (.d .bool) [] x=(F0O F).m x:=by kernel_rfl
def P0F (F:Nat)(x:_):L0 en (T0h F) 81 [.d (.ptr (.st 19))] (.d (.int .i64)) [] x=(L0J F).m x:=by kernel_rfl
def W0Z (F:Nat)(x:_):L0 en (Q0A F) 50 [.d (.ptr (.st 23))] (.d (.int .i64)) [] x=(K0g F).m x:=by kernel_rfl
def X0y (F:Nat)(x:_):L0 en (V0X F) 53 [.d (.list (.st 0))] (.alt .nil (.own 3 (.int .i64))) [] x=(H08 F).m x:=by kernel_rfl
def P0m (F:Nat)(x:_):L0 en (V0h F) 86 [.d (.st 12)] (.tup [.own 3 (.int .i64),.d .bool]) [] x=(K0f F).m x:=by kernel_rfl
def w01 (F:Nat)(x:_):L0 en (z0d F) 243 [.d (.list (.int .i64)),.d (.int .i64)] (.own 118 (.st 8)) [] x=(f0o F).m x:=by kernel_rfl
def U0U (F:Nat)(x:_):L0 en (U0A F) 117 [.d (.ptr (.st 19))] (.own 3 (.int .i64)) [] x=(L0t F).m x:=by kernel_rfl
def X0H (F:Nat)(x:_):L0 en (W0J F) 120 [.d (.list (.st 0)),.d (.int .i64)] (.tup [.d (.st 10),.d .bool]) [] x=(I0F F).m x:=by kernel_rfl
def q07 (F:Nat)(x:_):L0 en (w0A F) 146 [.d (.list (.st 0)),.d (.int .i64)] (.tup [.d (.st 10),.d .bool]) [] x=(f06 F).m x:=by kernel_rfl
def V0m (F:Nat)(x:_):L0 en (W0K F) 82 [.d (.ptr (.st 19))] (.tup [.own 3 (.int .i64),.d .bool]) [] x=(L01 F).m x:=by kernel_rfl
def w0i (F:Nat)(x:_):L0 en (q00 F) 196 [.d (.list (.int .i64)),.d (.list (.int .i64))] (.d (.list (.int .i64))) [] x=(e0R F).m x:=by kernel_rfl
def a1Q (F:Nat)(x:_):L0 en (b1o F) 7 [.d (.list (.st 0)),.d (.st 4),.d (.list (.st 6))] (.d .bool) [] x=(a1e F).m x:=by kernel_rfl
def Q05 (F:Nat)(x:_):L0 en (R0N F) 128 [.d (.list (.st 0)),.d (.st 11),.d (.list (.int .i64)),.d (.list (.st 10))] (.d (.st 11)) [] x=(M0m F).m x:=by kernel_rfl
def U0k (F:Nat)(x:_):L0 en (T0b F) 121 [.d (.list (.int .i64)),.d (.list (.st 16)),.d (.int .i64),.d (.int .i64)] (.own 3 (.int .i64)) [] x=(H0y F).m x:=by kernel_rfl
def r04 (F:Nat)(x:_):L0 en (q08 F) 176 [.d (.ptr (.st 31)),.d (.int .i64)] (.tup [.own 194 (.st 10),.d (.list (.int .i64))]) [] x=(e0C F).m x:=by kernel_rfl
def Q0h (F:Nat)(x:_):L0 en (P0Y F) 48 [.d (.st 4)] (.tup [.alt .nilp (.box 167 [.d (.st 22),.d (.st 4),.d (.int .i64),.d (.int .i64),.d (.int .i64),.own 3 (.int .i64)]),.d (.int .i64)]) [] x=(K0A F).m x:=by kernel_rfl
def P0i (F:Nat)(x:_):L0 en (Q0I F) 91 [.box 167 [.d (.st 22),.d (.st 4),.d (.int .i64),.d (.int .i64),.d (.int .i64),.own 3 (.int .i64)]] (.tup []) [(0,.box 167 [.d (.st 22),.d (.st 4),.d (.int .i64),.d (.int .i64),.d (.int .i64),.own 3 (.int .i64)])] x=(J0d F).m x:=by kernel_rfl
def a1W (F:Nat)(x:_):L0 en (b1K F) 34 [.box 88 [.d (.st 7),.ifc 132 (.agg [.box 167 [.d (.st 22),.d (.st 4),.d (.int .i64),.d (.int .i64),.d (.int .i64),.own 3 (.int .i64)]])]] (.d (.int .i64)) [(0,.box 88 [.d (.st 7),.ifc 132 (.agg [.box 167 [.d (.st 22),.d (.st 4),.d (.int .i64),.d (.int .i64),.d (.int .i64),.own 3 (.int .i64)]])])] x=(Z00 F).m x:=by kernel_rfl
def b1d (F:Nat)(x:_):L0 en (b1p F) 23 [.box 88 [.d (.st 7),.ifc 132 (.agg [.box 167 [.d (.st 22),.d (.st 4),.d (.int .i64),.d (.int .i64),.d (.int .i64),.own 3 (.int .i64)]])],.d (.list (.int .u8))] (.tup [.agg [.d .bool,.d .bool,.d (.list (.st 8))],.d (.int .i64)]) [(0,.box 88 [.d (.st 7),.ifc 132 (.agg [.box 167 [.d (.st 22),.d (.st 4),.d (.int .i64),.d (.int .i64),.d (.int .i64),.own 3 (.int .i64)]])])] x=(Z0Q F).m x:=by kernel_rfl
