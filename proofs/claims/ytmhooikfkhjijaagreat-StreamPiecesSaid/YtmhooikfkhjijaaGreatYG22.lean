/- P. Its conditions: none. -/
import Derived.Test.YtmhooikfkhjijaaGreatYMd
import Derived.Test.YtmhooikfkhjijaaGreatYEn
import Derived.Test.YtmhooikfkhjijaaGreatYX17
import Derived.Test.YtmhooikfkhjijaaGreatYX14
import Derived.Test.YtmhooikfkhjijaaGreatYVKey
set_option linter.all false
set_option maxRecDepth 100000
noncomputable section
namespace Go.Proofs.YtmhooikfkhjijaaGreat
open Go.V Go.RowKit Go.X
def v0X (F:Nat)(x:_):O1 en (v0D F) 153 [.d (.st 11)] (.d .bool) [] x=(f07 F).m x:=by kernel_rfl
def C0F (F:Nat)(x:_):O1 en (w0Q F) 139 [.d (.st 0)] (.d .bool) [] x=(k02 F).m x:=by kernel_rfl
def w0X (F:Nat)(x:_):O1 en (E08 F) 70 [.d (.list (.st 0))] (.d (.int .i64)) [] x=(o0c F).m x:=by kernel_rfl
def w0e (F:Nat)(x:_):O1 en (z0K F) 134 [.d (.list (.st 0))] (.own 3 (.int .i64)) [] x=(n09 F).m x:=by kernel_rfl
def P0t (F:Nat)(x:_):O1 en (O0G F) 132 [.d (.ptr (.st 23))] (.d .bool) [] x=(M0W F).m x:=by kernel_rfl
def O0d (F:Nat)(x:_):O1 en (P0P F) 245 [.d (.st 24)] (.d .bool) [] x=(M0h F).m x:=by kernel_rfl
def D0j (F:Nat)(x:_):O1 en (D0s F) 106 [.d (.list (.st 0))] (.box 196 [.d (.st 18)]) [] x=(m0h F).m x:=by kernel_rfl
def B0C (F:Nat)(x:_):O1 en (x0H F) 179 [.d (.list (.st 0)),.d (.int .i64)] (.own 3 (.int .i64)) [] x=(g0L F).m x:=by kernel_rfl
def D0H (F:Nat)(x:_):O1 en (z03 F) 27 [.d (.list (.st 8)),.d (.list (.st 8))] (.d .bool) [] x=(k0z F).m x:=by kernel_rfl
def A00 (F:Nat)(x:_):O1 en (v05 F) 97 [.d (.list (.st 0)),.d (.int .i64)] (.own 3 (.int .i64)) [] x=(k0F F).m x:=by kernel_rfl
def Q0j (F:Nat)(x:_):O1 en (Q0x F) 92 [.d (.ptr (.st 23)),.d (.int .i64)] (.d (.int .i64)) [] x=(M0M F).m x:=by kernel_rfl
def C07 (F:Nat)(x:_):O1 en (B0G F) 196 [.d (.list (.int .i64)),.d (.list (.int .i64))] (.d (.list (.int .i64))) [] x=(k0G F).m x:=by kernel_rfl
def B0p (F:Nat)(x:_):O1 en (C0M F) 176 [.d (.ptr (.st 31)),.d (.int .i64)] (.tup [.own 194 (.st 10),.d (.list (.int .i64))]) [] x=(j0Y F).m x:=by kernel_rfl
def o0B (F n:Nat)(x:_):O1 en (v0O F n) 61 [.d (.list (.st 0)),.d (.st 25),.d (.int .i64),.d (.int .i64),.d (.int .i64),.d (.int .i64)] (.own 180 (.st 26)) [] x=(i00 F (n+1)).m x:=by kernel_rfl
def O0L (F:Nat)(x:_):O1 en (P0s F) 48 [.d (.st 4)] (.tup [.alt .nilp (.box 167 [.d (.st 22),.d (.st 4),.d (.int .i64),.d (.int .i64),.d (.int .i64),.own 3 (.int .i64)]),.d (.int .i64)]) [] x=(M0S F).m x:=by kernel_rfl
def O07 (F:Nat)(x:_):O1 en (O0I F) 91 [.box 167 [.d (.st 22),.d (.st 4),.d (.int .i64),.d (.int .i64),.d (.int .i64),.own 3 (.int .i64)]] (.tup []) [(0,.box 167 [.d (.st 22),.d (.st 4),.d (.int .i64),.d (.int .i64),.d (.int .i64),.own 3 (.int .i64)])] x=(M0G F).m x:=by kernel_rfl
def O0b (F:Nat)(x:_):O1 en (P0x F) 23 [.box 88 [.d (.st 7),.ifc 120 (.agg [.box 109 [.box 158 [.d (.st 19)],.d (.list (.int .i64)),.d (.int .i64),.d .bool]])],.own 5 (.int .u8)] (.tup [.agg [.d .bool,.d .bool,.d (.list (.st 8))],.d (.int .i64)]) [(0,.box 88 [.d (.st 7),.ifc 120 (.agg [.box 109 [.box 158 [.d (.st 19)],.d (.list (.int .i64)),.d (.int .i64),.d .bool]])]),(1,.own 5 (.int .u8))] x=(M06 F).m x:=by kernel_rfl
def O0R (F:Nat)(x:_):O1 en (P0N F) 21 [] (.d .bool) [] x=(N0c F).m x:=by kernel_rfl
def C0l (F:Nat)(x:_):O1 en (D0x F) 151 [.d (.st 11)] (.d (.st 11)) [] x=(o0L F).m x:=by kernel_rfl
def y0O (F:Nat)(x:_):O1 en (D0i F) 68 [.d (.list (.st 0))] (.d .bool) [] x=(b0Q F).m x:=by kernel_rfl
def y0Y (F:Nat)(x:_):O1 en (F0f F) 193 [.d (.list (.st 0))] (.own 3 (.int .i64)) [] x=(f0S F).m x:=by kernel_rfl
def C0C (F:Nat)(x:_):O1 en (w04 F) 154 [.d (.st 11),.d (.int .i64)] (.d .bool) [] x=(g0R F).m x:=by kernel_rfl
def z0f (F:Nat)(x:_):O1 en (E0S F) 173 [.own 194 (.st 10)] (.own 194 (.st 10)) [] x=(i0z F).m x:=by kernel_rfl
def O0A (F:Nat)(x:_):O1 en (Q0k F) 246 [.d (.ptr (.st 20))] (.d .bool) [] x=(M02 F).m x:=by kernel_rfl
def x08 (F:Nat)(x:_):O1 en (y0j F) 37 [.d (.list (.st 0))] (.own 3 (.int .i64)) [] x=(e09 F).m x:=by kernel_rfl
def z0c (F:Nat)(x:_):O1 en (E02 F) 114 [.d (.st 11),.d (.list (.int .i64))] (.d (.int .i64)) [] x=(l0c F).m x:=by kernel_rfl
def y0M (F:Nat)(x:_):O1 en (A0V F) 147 [.d (.list (.st 0)),.d (.list (.int .i64))] (.own 237 (.st 16)) [] x=(i0E F).m x:=by kernel_rfl
def w0H (F:Nat)(x:_):O1 en (D0Z F) 101 [.d (.list (.st 0)),.d (.int .i64)] (.own 3 (.int .i64)) [] x=(j0g F).m x:=by kernel_rfl
def B0N (F:Nat)(x:_):O1 en (F0k F) 60 [.d (.list (.st 0)),.d (.list (.st 26))] (.own 118 (.st 8)) [] x=(p0f F).m x:=by kernel_rfl
def y0U (F:Nat)(x:_):O1 en (B0S F) 155 [.d (.st 30),.d (.int .i64),.d (.int .i64)] (.d (.int .i64)) [] x=(j0V F).m x:=by kernel_rfl
def C0z (F:Nat)(x:_):O1 en (E0U F) 109 [.box 158 [.d (.st 19)],.d .bool] (.d (.st 28)) [(0,.box 158 [.d (.st 19)])] x=(k00 F).m x:=by kernel_rfl
def x0v (F n:Nat)(x:_):O1 en (F0j F n) 158 [.d (.list (.st 0)),.d (.st 10),.d (.st 10)] (.tup [.d (.int .i64),.d (.int .i64),.d (.int .i64)]) [] x=(k0C F (n+1)).m x:=by kernel_rfl
def B06 (F n:Nat)(x:_):O1 en (C0W F n) 174 [.d (.ptr (.st 31)),.d (.int .i64),.d (.list (.int .i64)),.own 194 (.st 10)] (.own 194 (.st 10)) [] x=(g0p F (n+1)).m x:=by kernel_rfl
def O0i (F:Nat)(x:_):O1 en (P02 F) 19 [.d (.list (.st 6))] (.d .bool) [] x=(N0f F).m x:=by kernel_rfl
def y0S (F:Nat)(x:_):O1 en (y0V F) 69 [.d (.list (.st 0))] (.d (.int .i64)) [] x=(k06 F).m x:=by kernel_rfl
def P0W (F:Nat)(x:_):O1 en (O0z F) 71 [.d (.list (.int .i64))] (.d .bool) [] x=(M0A F).m x:=by kernel_rfl
def O08 (F:Nat)(x:_):O1 en (P0A F) 77 [.d (.st 4),.d (.st 2)] (.d .bool) [] x=(M0X F).m x:=by kernel_rfl
def B0g (F:Nat)(x:_):O1 en (x0j F) 140 [.d (.st 0),.d (.list (.st 0))] (.d .bool) [] x=(n0L F).m x:=by kernel_rfl
def z0t (F:Nat)(x:_):O1 en (E03 F) 194 [.d (.list (.st 0))] (.own 3 (.int .i64)) [] x=(l0E F).m x:=by kernel_rfl
def C0R (F:Nat)(x:_):O1 en (v0d F) 125 [.d (.arr 4 (.int .u64)),.d (.int .i64)] (.d .bool) [] x=(k0N F).m x:=by kernel_rfl
def A0I (F:Nat)(x:_):O1 en (v0e F) 145 [.d (.list (.st 0)),.d (.int .i64)] (.own 194 (.st 10)) [] x=(p0d F).m x:=by kernel_rfl
def F0y (F:Nat)(x:_):O1 en (A08 F) 59 [.d (.st 25),.d (.int .i64),.d (.int .i64),.d (.int .i64)] (.d .bool) [] x=(h0h F).m x:=by kernel_rfl
def E0A (F:Nat)(x:_):O1 en (C0P F) 138 [.d (.list (.st 0)),.d (.list (.int .i64)),.d (.int .i64)] (.d (.int .i64)) [] x=(k09 F).m x:=by kernel_rfl
def Q0c (F:Nat)(x:_):O1 en (P0z F) 6 [.d (.list (.st 0)),.d (.list (.st 6))] (.d .bool) [] x=(N01 F).m x:=by kernel_rfl
def F0n (F:Nat)(x:_):O1 en (D0c F) 159 [.d (.st 30),.d (.int .i64),.d (.int .i64)] (.d (.int .i64)) [] x=(h03 F).m x:=by kernel_rfl
def w0P (F:Nat)(x:_):O1 en (B04 F) 113 [.d (.list (.st 0)),.d (.st 11),.d (.list (.int .i64)),.d (.list (.st 10))] (.d (.st 11)) [] x=(m0y F).m x:=by kernel_rfl
def O0l (F:Nat)(x:_):O1 en (O0E F) 116 [.d (.list (.list (.int .i64))),.d (.list (.int .i64))] (.own 23 (.list (.int .i64))) [] x=(M0N F).m x:=by kernel_rfl
def y0o (F n:Nat)(x:_):O1 en (A0f F n) 200 [.d (.list (.st 0)),.d (.list .bool),.d (.int .i64),.own 3 (.int .i64)] (.own 3 (.int .i64)) [] x=(i07 F (n+1)).m x:=by kernel_rfl
def v0t (F:Nat)(x:_):O1 en (x0g F) 96 [.d (.list (.st 0)),.d (.list (.int .u8)),.d (.st 25),.d (.int .i64),.d (.int .i64),.d (.int .i64)] (.d .bool) [] x=(o0P F).m x:=by kernel_rfl
def P0e (F:Nat)(x:_):O1 en (P05 F) 22 [.d (.list (.st 0))] (.tup [.alt .nilp (.box 88 [.d (.st 7),.ifc 120 (.agg [.box 109 [.box 158 [.d (.st 19)],.d (.list (.int .i64)),.d (.int .i64),.d .bool]])]),.d (.int .i64)]) [] x=(M0p F).m x:=by kernel_rfl
def P0K (F:Nat)(x:_):O1 en (O0w F) 25 [.box 88 [.d (.st 7),.ifc 120 (.agg [.box 109 [.box 158 [.d (.st 19)],.d (.list (.int .i64)),.d (.int .i64),.d .bool]])]] (.tup [.agg [.d .bool,.d .bool,.d (.list (.st 8))],.d (.int .i64)]) [(0,.box 88 [.d (.st 7),.ifc 120 (.agg [.box 109 [.box 158 [.d (.st 19)],.d (.list (.int .i64)),.d (.int .i64),.d .bool]])])] x=(M0C F).m x:=by kernel_rfl
