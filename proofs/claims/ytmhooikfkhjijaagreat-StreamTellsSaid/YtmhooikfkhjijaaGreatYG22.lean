/- P. Its conditions: none. -/
import Derived.Test.YtmhooikfkhjijaaGreatYMd
import Derived.Test.YtmhooikfkhjijaaGreatYEn
import Derived.Test.YtmhooikfkhjijaaGreatYX17
import Derived.Test.YtmhooikfkhjijaaGreatYX14
import Derived.Test.YtmhooikfkhjijaaGreatYVKey
set_option linter.all false
set_option maxRecDepth 100000
noncomputable section
namespace Go.Proofs.YtmhooikfkhjijaaGreat
open Go.V Go.RowKit Go.X
def t0B (F:Nat)(x:_):L0 en (z0F F) 153 [.d (.st 11)] (.d .bool) [] x=(b0W F).m x:=by kernel_rfl
def s0T (F:Nat)(x:_):L0 en (w0G F) 139 [.d (.st 0)] (.d .bool) [] x=(g0I F).m x:=by kernel_rfl
def a13 (F:Nat)(x:_):L0 en (b1L F) 64 [.d (.st 15)] (.d (.int .i64)) [] x=(Z0G F).m x:=by kernel_rfl
def P0E (F:Nat)(x:_):L0 en (T05 F) 67 [.d (.st 4),.d (.st 2)] (.d .bool) [] x=(K0M F).m x:=by kernel_rfl
def W0X (F:Nat)(x:_):L0 en (T0t F) 70 [.d (.list (.st 0))] (.d (.int .i64)) [] x=(L0x F).m x:=by kernel_rfl
def S0E (F:Nat)(x:_):L0 en (P0W F) 40 [.d (.list (.st 0))] (.d (.int .i64)) [] x=(F0R F).m x:=by kernel_rfl
def T01 (F:Nat)(x:_):L0 en (R0J F) 134 [.d (.list (.st 0))] (.own 3 (.int .i64)) [] x=(I09 F).m x:=by kernel_rfl
def W0D (F:Nat)(x:_):L0 en (R0d F) 52 [.d (.st 14),.d (.int .u8)] (.d (.st 14)) [] x=(L09 F).m x:=by kernel_rfl
def U0i (F:Nat)(x:_):L0 en (Q02 F) 132 [.d (.ptr (.st 23))] (.d .bool) [] x=(K0B F).m x:=by kernel_rfl
def p0X (F:Nat)(x:_):L0 en (z0s F) 192 [.d (.int .i64),.d (.int .i64)] (.d (.st 8)) [] x=(i0Y F).m x:=by kernel_rfl
def Y0G (F:Nat)(x:_):L0 en (Y00 F) 245 [.d (.st 24)] (.d .bool) [] x=(M0l F).m x:=by kernel_rfl
def S0F (F:Nat)(x:_):L0 en (X0B F) 106 [.d (.list (.st 0))] (.box 196 [.d (.st 18)]) [] x=(J0O F).m x:=by kernel_rfl
def a10 (F:Nat)(x:_):L0 en (b18 F) 248 [.d (.ptr (.st 23))] (.d (.int .i64)) [] x=(Z0U F).m x:=by kernel_rfl
def R06 (F:Nat)(x:_):L0 en (P0C F) 129 [.d (.st 11),.d (.list (.int .i64))] (.d (.int .i64)) [] x=(K0O F).m x:=by kernel_rfl
def t02 (F:Nat)(x:_):L0 en (q0n F) 179 [.d (.list (.st 0)),.d (.int .i64)] (.own 3 (.int .i64)) [] x=(c06 F).m x:=by kernel_rfl
def q0A (F:Nat)(x:_):L0 en (s0p F) 27 [.d (.list (.st 8)),.d (.list (.st 8))] (.d .bool) [] x=(d0m F).m x:=by kernel_rfl
def S0X (F:Nat)(x:_):L0 en (P0t F) 97 [.d (.list (.st 0)),.d (.int .i64)] (.own 3 (.int .i64)) [] x=(J0w F).m x:=by kernel_rfl
def b1D (F:Nat)(x:_):L0 en (b1I F) 62 [.d (.st 15)] (.tup [.d (.st 15),.d (.st 9),.d (.int .i64)]) [] x=(Z0I F).m x:=by kernel_rfl
def T0Z (F:Nat)(x:_):L0 en (W0G F) 92 [.d (.ptr (.st 23)),.d (.int .i64)] (.d (.int .i64)) [] x=(I0h F).m x:=by kernel_rfl
def v0g (F:Nat)(x:_):L0 en (p07 F) 155 [.d (.st 30),.d (.int .i64),.d (.int .i64)] (.d (.int .i64)) [] x=(f00 F).m x:=by kernel_rfl
def W0Y (F:Nat)(x:_):L0 en (Q0g F) 109 [.box 158 [.d (.st 19)],.d .bool] (.d (.st 28)) [(0,.box 158 [.d (.st 19)])] x=(L0R F).m x:=by kernel_rfl
def U0M (F:Nat)(x:_):L0 en (R0B F) 169 [.d (.list (.st 0)),.d (.st 10),.d (.st 10)] (.tup [.d (.int .i64),.d (.int .i64),.d (.int .i64)]) [] x=(J0J F).m x:=by kernel_rfl
def q0O (F n:Nat)(x:_):L0 en (u0y F n) 158 [.d (.list (.st 0)),.d (.st 10),.d (.st 10)] (.tup [.d (.int .i64),.d (.int .i64),.d (.int .i64)]) [] x=(f04 F (n+1)).m x:=by kernel_rfl
def s0a (F n:Nat)(x:_):L0 en (u0d F n) 174 [.d (.ptr (.st 31)),.d (.int .i64),.d (.list (.int .i64)),.own 194 (.st 10)] (.own 194 (.st 10)) [] x=(d0a F (n+1)).m x:=by kernel_rfl
def X0D (F:Nat)(x:_):L0 en (Q0M F) 49 [.box 167 [.d (.st 22),.d (.st 4),.d (.int .i64),.d (.int .i64),.d (.int .i64),.own 3 (.int .i64)],.d (.int .u8)] (.tup []) [(0,.box 167 [.d (.st 22),.d (.st 4),.d (.int .i64),.d (.int .i64),.d (.int .i64),.own 3 (.int .i64)])] x=(K0o F).m x:=by kernel_rfl
def a1H (F:Nat)(x:_):L0 en (b1Q F) 29 [.box 88 [.d (.st 7),.ifc 132 (.agg [.box 167 [.d (.st 22),.d (.st 4),.d (.int .i64),.d (.int .i64),.d (.int .i64),.own 3 (.int .i64)]])],.d (.st 15),.d (.list (.st 6))] (.d .bool) [(0,.box 88 [.d (.st 7),.ifc 132 (.agg [.box 167 [.d (.st 22),.d (.st 4),.d (.int .i64),.d (.int .i64),.d (.int .i64),.own 3 (.int .i64)]])])] x=(Z08 F).m x:=by kernel_rfl
def Z0n (F:Nat)(x:_):L0 en (Y0J F) 21 [] (.d .bool) [] x=(R0c F).m x:=by kernel_rfl
def t0m (F:Nat)(x:_):L0 en (x0l F) 151 [.d (.st 11)] (.d (.st 11)) [] x=(j0U F).m x:=by kernel_rfl
def R0e (F:Nat)(x:_):L0 en (V0l F) 124 [.d (.st 11)] (.d (.st 11)) [] x=(L0D F).m x:=by kernel_rfl
def r00 (F:Nat)(x:_):L0 en (v0A F) 68 [.d (.list (.st 0))] (.d .bool) [] x=(A7 F).m x:=by kernel_rfl
def s0k (F:Nat)(x:_):L0 en (q0J F) 193 [.d (.list (.st 0))] (.own 3 (.int .i64)) [] x=(b0Q F).m x:=by kernel_rfl
def q0P (F:Nat)(x:_):L0 en (q0U F) 154 [.d (.st 11),.d (.int .i64)] (.d .bool) [] x=(c0W F).m x:=by kernel_rfl
def b1b (F:Nat)(x:_):L0 en (b1G F) 30 [.d (.list (.st 0))] (.d (.st 15)) [] x=(Z0T F).m x:=by kernel_rfl
def y0w (F:Nat)(x:_):L0 en (v0X F) 173 [.own 194 (.st 10)] (.own 194 (.st 10)) [] x=(g0u F).m x:=by kernel_rfl
def U0f (F:Nat)(x:_):L0 en (R04 F) 89 [.d (.st 12),.d (.int .i64)] (.d (.st 12)) [] x=(K0x F).m x:=by kernel_rfl
def Y0W (F:Nat)(x:_):L0 en (Y0U F) 246 [.d (.ptr (.st 20))] (.d .bool) [] x=(X0Z F).m x:=by kernel_rfl
def v0z (F:Nat)(x:_):L0 en (w0S F) 37 [.d (.list (.st 0))] (.own 3 (.int .i64)) [] x=(b0f F).m x:=by kernel_rfl
def b1x (F:Nat)(x:_):L0 en (b12 F) 247 [.d (.st 27)] (.d .bool) [] x=(Z0C F).m x:=by kernel_rfl
def q04 (F:Nat)(x:_):L0 en (u0R F) 114 [.d (.st 11),.d (.list (.int .i64))] (.d (.int .i64)) [] x=(j0T F).m x:=by kernel_rfl
def a1J (F:Nat)(x:_):L0 en (b1F F) 135 [.d (.st 14)] (.tup [.own 118 (.st 8),.d .bool]) [] x=(Z0P F).m x:=by kernel_rfl
def z0f (F:Nat)(x:_):L0 en (q03 F) 147 [.d (.list (.st 0)),.d (.list (.int .i64))] (.own 237 (.st 16)) [] x=(f01 F).m x:=by kernel_rfl
def T0T (F:Nat)(x:_):L0 en (R0Y F) 123 [.d (.list (.st 0)),.d (.list (.int .i64))] (.own 237 (.st 16)) [] x=(H0C F).m x:=by kernel_rfl
def s0z (F:Nat)(x:_):L0 en (u0x F) 101 [.d (.list (.st 0)),.d (.int .i64)] (.own 3 (.int .i64)) [] x=(e01 F).m x:=by kernel_rfl
def R0y (F:Nat)(x:_):L0 en (T0f F) 126 [.d (.list (.st 10)),.d (.int .i64)] (.tup [.d (.st 10),.d .bool]) [] x=(J00 F).m x:=by kernel_rfl
def R0f (F:Nat)(x:_):L0 en (W0H F) 191 [.d (.list (.st 0)),.d (.int .i64),.d (.int .i64)] (.d (.int .i64)) [] x=(L00 F).m x:=by kernel_rfl
def q0b (F:Nat)(x:_):L0 en (q0V F) 159 [.d (.st 30),.d (.int .i64),.d (.int .i64)] (.d (.int .i64)) [] x=(e02 F).m x:=by kernel_rfl
def P0N (F n:Nat)(x:_):L0 en (P0S F n) 187 [.d (.list (.st 0)),.d (.list .bool),.d (.int .i64)] (.own 3 (.int .i64)) [] x=(F0G F (n+1)).m x:=by kernel_rfl
def V0N (F:Nat)(x:_):L0 en (T0a F) 133 [.d (.list (.int .i64)),.d (.st 1),.d (.int .i64)] (.tup [.d (.int .i64),.d .bool]) [] x=(L0s F).m x:=by kernel_rfl
def p0O (F:Nat)(x:_):L0 en (y0T F) 113 [.d (.list (.st 0)),.d (.st 11),.d (.list (.int .i64)),.d (.list (.st 10))] (.d (.st 11)) [] x=(i0p F).m x:=by kernel_rfl
def P0f (F:Nat)(x:_):L0 en (U0J F) 116 [.d (.list (.list (.int .i64))),.d (.list (.int .i64))] (.own 23 (.list (.int .i64))) [] x=(K0Q F).m x:=by kernel_rfl
def p0G (F n:Nat)(x:_):L0 en (x0Z F n) 200 [.d (.list (.st 0)),.d (.list .bool),.d (.int .i64),.own 3 (.int .i64)] (.own 3 (.int .i64)) [] x=(e0o F (n+1)).m x:=by kernel_rfl
def V0R (F n:Nat)(x:_):L0 en (P0o F n) 160 [.d (.list (.st 0)),.d (.list (.int .i64)),.d (.list .bool),.d (.int .i64),.d (.list (.int .i64))] (.own 194 (.st 10)) [] x=(G0U F (n+1)).m x:=by kernel_rfl
def Y0w (F:Nat)(x:_):L0 en (Y0E F) 22 [.d (.list (.st 0))] (.tup [.alt .nilp (.box 88 [.d (.st 7),.ifc 120 (.agg [.box 109 [.box 158 [.d (.st 19)],.d (.list (.int .i64)),.d (.int .i64),.d .bool]])]),.d (.int .i64)]) [] x=(K0d F).m x:=by kernel_rfl
def Z0i (F:Nat)(x:_):L0 en (Y0X F) 25 [.box 88 [.d (.st 7),.ifc 120 (.agg [.box 109 [.box 158 [.d (.st 19)],.d (.list (.int .i64)),.d (.int .i64),.d .bool]])]] (.tup [.agg [.d .bool,.d .bool,.d (.list (.st 8))],.d (.int .i64)]) [(0,.box 88 [.d (.st 7),.ifc 120 (.agg [.box 109 [.box 158 [.d (.st 19)],.d (.list (.int .i64)),.d (.int .i64),.d .bool]])])] x=(U0d F).m x:=by kernel_rfl
def b1s (F:Nat)(x:_):L0 en (a11 F) 137 [.d (.st 13)] (.d .bool) [] x=(Z0Z F).m x:=by kernel_rfl
def a1N (F:Nat)(x:_):L0 en (a1M F) 19 [.d (.list (.st 6))] (.d .bool) [] x=(Z0X F).m x:=by kernel_rfl
def u0e (F:Nat)(x:_):L0 en (q0L F) 69 [.d (.list (.st 0))] (.d (.int .i64)) [] x=(j0B F).m x:=by kernel_rfl
def Q03 (F:Nat)(x:_):L0 en (V0d F) 162 [.d (.list (.st 0))] (.own 4 .bool) [] x=(G0N F).m x:=by kernel_rfl
def u0N (F:Nat)(x:_):L0 en (z0C F) 71 [.d (.list (.int .i64))] (.d .bool) [] x=(e0G F).m x:=by kernel_rfl
def P0Z (F:Nat)(x:_):L0 en (U0h F) 77 [.d (.st 4),.d (.st 2)] (.d .bool) [] x=(L0L F).m x:=by kernel_rfl
def x06 (F:Nat)(x:_):L0 en (w07 F) 140 [.d (.st 0),.d (.list (.st 0))] (.d .bool) [] x=(h0t F).m x:=by kernel_rfl
def z0m (F:Nat)(x:_):L0 en (w0o F) 194 [.d (.list (.st 0))] (.own 3 (.int .i64)) [] x=(g0Y F).m x:=by kernel_rfl
def P06 (F:Nat)(x:_):L0 en (Q0W F) 39 [.d (.list (.st 0))] (.own 3 (.int .i64)) [] x=(E0t F).m x:=by kernel_rfl
def U0t (F:Nat)(x:_):L0 en (T0R F) 125 [.d (.arr 4 (.int .u64)),.d (.int .i64)] (.d .bool) [] x=(M0i F).m x:=by kernel_rfl
def S0N (F:Nat)(x:_):L0 en (T0U F) 45 [.d (.ptr (.st 19))] (.d (.int .i64)) [] x=(J0V F).m x:=by kernel_rfl
def b17 (F:Nat)(x:_):L0 en (a1F F) 136 [.d (.st 13)] (.tup [.own 118 (.st 8),.d .bool]) [] x=(Z03 F).m x:=by kernel_rfl
def R0H (F:Nat)(x:_):L0 en (U0N F) 170 [.d (.int .i64),.d (.int .i64)] (.d (.int .i64)) [] x=(J0v F).m x:=by kernel_rfl
def t0M (F:Nat)(x:_):L0 en (x0I F) 145 [.d (.list (.st 0)),.d (.int .i64)] (.own 194 (.st 10)) [] x=(g0U F).m x:=by kernel_rfl
def R0S (F:Nat)(x:_):L0 en (P0z F) 164 [.d (.list (.st 0)),.d (.int .i64)] (.own 3 (.int .i64)) [] x=(L03 F).m x:=by kernel_rfl
def u0D (F:Nat)(x:_):L0 en (r0L F) 171 [.d (.list (.int .i64)),.d (.int .i64)] (.own 118 (.st 8)) [] x=(h0e F).m x:=by kernel_rfl
def x0s (F:Nat)(x:_):L0 en (x0o F) 138 [.d (.list (.st 0)),.d (.list (.int .i64)),.d (.int .i64)] (.d (.int .i64)) [] x=(j0m F).m x:=by kernel_rfl
def S0C (F:Nat)(x:_):L0 en (U0u F) 78 [.d (.list (.st 0))] (.tup [.alt .nilp (.box 158 [.d (.st 19)]),.d (.int .i64)]) [] x=(J0N F).m x:=by kernel_rfl
def U0q (F:Nat)(x:_):L0 en (X0n F) 94 [.d (.list (.int .i64)),.d (.list (.st 1)),.d (.int .i64)] (.own 3 (.int .i64)) [] x=(K0H F).m x:=by kernel_rfl
def R0X (F:Nat)(x:_):L0 en (X0k F) 163 [.d (.list (.st 0)),.d (.int .i64)] (.tup [.own 194 (.st 10),.d (.st 10),.d .bool]) [] x=(I0V F).m x:=by kernel_rfl
def x0i (F:Nat)(x:_):L0 en (w0x F) 175 [.d (.list (.st 0)),.d (.int .i64)] (.tup [.alt .nilp (.box 286 [.d (.st 31)]),.d (.int .i64),.d .bool]) [] x=(f02 F).m x:=by kernel_rfl
def U05 (F:Nat)(x:_):L0 en (U0b F) 42 [.d (.list (.st 0))] (.tup [.alt .nilp (.box 109 [.box 158 [.d (.st 19)],.d (.list (.int .i64)),.d (.int .i64),.d .bool]),.d (.int .i64)]) [] x=(L0v F).m x:=by kernel_rfl
def Y0O (F:Nat)(x:_):L0 en (Z0b F) 28 [.d (.st 4)] (.tup [.alt .nilp (.box 88 [.d (.st 7),.ifc 132 (.agg [.box 167 [.d (.st 22),.d (.st 4),.d (.int .i64),.d (.int .i64),.d (.int .i64),.own 3 (.int .i64)]])]),.d (.int .i64)]) [] x=(R0n F).m x:=by kernel_rfl
def Y0R (F:Nat)(x:_):L0 en (Z0a F) 34 [.box 88 [.d (.st 7),.ifc 120 (.agg [.box 109 [.box 158 [.d (.st 19)],.d (.list (.int .i64)),.d (.int .i64),.d .bool]])]] (.d (.int .i64)) [(0,.box 88 [.d (.st 7),.ifc 120 (.agg [.box 109 [.box 158 [.d (.st 19)],.d (.list (.int .i64)),.d (.int .i64),.d .bool]])])] x=(X0V F).m x:=by kernel_rfl
def a1D (F:Nat)(x:_):L0 en (b1H F) 56 [.box 88 [.d (.st 7),.ifc 132 (.agg [.box 167 [.d (.st 22),.d (.st 4),.d (.int .i64),.d (.int .i64),.d (.int .i64),.own 3 (.int .i64)]])]] (.agg [.d .bool,.d .bool,.own 118 (.st 8)]) [(0,.box 88 [.d (.st 7),.ifc 132 (.agg [.box 167 [.d (.st 22),.d (.st 4),.d (.int .i64),.d (.int .i64),.d (.int .i64),.own 3 (.int .i64)]])])] x=(Z0w F).m x:=by kernel_rfl
