/- P. Its conditions: none. -/
import Derived.Test.YtmhooikfkhjijaaGreatYMd
import Derived.Test.YtmhooikfkhjijaaGreatYEn
import Derived.Test.YtmhooikfkhjijaaGreatYX17
import Derived.Test.YtmhooikfkhjijaaGreatYX14
import Derived.Test.YtmhooikfkhjijaaGreatYVKey
set_option linter.all false
set_option maxRecDepth 100000
noncomputable section
namespace Go.Proofs.YtmhooikfkhjijaaGreat
open Go.V Go.RowKit Go.X
def O0J (F:Nat)(x:_):O1 en (Q0o F) 54 [] (.own 145 (.st 0)) [] x=(N0o F).m x:=by kernel_rfl
def P03 (F:Nat)(x:_):O1 en (Q0p F) 41 [.d (.st 4)] (.d .bool) [] x=(N0h F).m x:=by kernel_rfl
def Q0f (F:Nat)(x:_):O1 en (P09 F) 24 [.d (.st 9),.d (.st 9)] (.d .bool) [] x=(M0I F).m x:=by kernel_rfl
def A0m (F:Nat)(x:_):O1 en (E0z F) 182 [.d (.st 11),.d (.int .i64)] (.d .bool) [] x=(m01 F).m x:=by kernel_rfl
def F0q (F:Nat)(x:_):O1 en (y04 F) 95 [.d (.int .i64)] (.tup [.d .bool,.d .bool]) [] x=(o0F F).m x:=by kernel_rfl
def D04 (F:Nat)(x:_):O1 en (B0t F) 157 [.d (.int .i64)] (.B1 23 [3] (.list (.int .i64))) [] x=(i0A F).m x:=by kernel_rfl
def z07 (F:Nat)(x:_):O1 en (y0a F) 180 [.d (.list (.st 0)),.d (.int .i64)] (.own 237 (.st 16)) [] x=(o06 F).m x:=by kernel_rfl
def C0k (F:Nat)(x:_):O1 en (E05 F) 108 [.d (.ptr (.st 19))] (.own 3 (.int .i64)) [] x=(i02 F).m x:=by kernel_rfl
def A0O (F:Nat)(x:_):O1 en (x0G F) 144 [.d (.list (.st 0)),.d (.int .i64)] (.own 194 (.st 10)) [] x=(o0J F).m x:=by kernel_rfl
def B0K (F:Nat)(x:_):O1 en (w0J F) 172 [.d (.list (.st 0))] (.tup [.alt .nilp (.box 286 [.d (.st 31)]),.d .bool]) [] x=(j0L F).m x:=by kernel_rfl
def z0j (F:Nat)(x:_):O1 en (x0R F) 78 [.d (.list (.st 0))] (.tup [.alt .nilp (.box 158 [.d (.st 19)]),.d (.int .i64)]) [] x=(j0t F).m x:=by kernel_rfl
def E0u (F:Nat)(x:_):O1 en (D0I F) 175 [.d (.list (.st 0)),.d (.int .i64)] (.tup [.alt .nilp (.box 286 [.d (.st 31)]),.d (.int .i64),.d .bool]) [] x=(j0C F).m x:=by kernel_rfl
def K0H (F:Nat)(x:_):O1 en (K0e F) 42 [.d (.list (.st 0))] (.tup [.alt .nilp (.box 109 [.box 158 [.d (.st 19)],.d (.list (.int .i64)),.d (.int .i64),.d .bool]),.d (.int .i64)]) [] x=(G0P F).m x:=by kernel_rfl
def O04 (F:Nat)(x:_):O1 en (O0v F) 28 [.d (.st 4)] (.tup [.alt .nilp (.box 88 [.d (.st 7),.ifc 132 (.agg [.box 167 [.d (.st 22),.d (.st 4),.d (.int .i64),.d (.int .i64),.d (.int .i64),.own 3 (.int .i64)]])]),.d (.int .i64)]) [] x=(M0O F).m x:=by kernel_rfl
def y0r (F:Nat)(x:_):O1 en (y0K F) 36 [.d (.list (.st 0))] (.d (.int .i64)) [] x=(n0N F).m x:=by kernel_rfl
def w0s (F:Nat)(x:_):O1 en (C05 F) 100 [.d (.list (.st 0))] (.own 3 (.int .i64)) [] x=(f0E F).m x:=by kernel_rfl
def P0V (F:Nat)(x:_):O1 en (P0C F) 72 [.d (.list (.int .i64))] (.own 5 (.int .u8)) [] x=(M0U F).m x:=by kernel_rfl
def y0T (F:Nat)(x:_):O1 en (x0y F) 152 [.d (.arr 4 (.int .u64)),.d (.int .u8)] (.d .bool) [] x=(l0l F).m x:=by kernel_rfl
def O0T (F:Nat)(x:_):O1 en (O0n F) 84 [.d (.ptr (.st 20))] (.d (.int .i64)) [] x=(N0e F).m x:=by kernel_rfl
def A0D (F:Nat)(x:_):O1 en (B0W F) 149 [.d (.int .i64),.d (.int .i64)] (.own 3 (.int .i64)) [] x=(m0R F).m x:=by kernel_rfl
def z0r (F:Nat)(x:_):O1 en (v0w F) 203 [.d (.list (.list (.int .i64))),.d (.int .i64)] (.d .bool) [] x=(n0E F).m x:=by kernel_rfl
def v0K (F:Nat)(x:_):O1 en (C0e F) 143 [.d (.list (.st 0)),.d (.list (.st 10))] (.own 208 (.st 17)) [] x=(o0W F).m x:=by kernel_rfl
def D0B (F:Nat)(x:_):O1 en (x0k F) 111 [.d (.st 11),.d (.list (.int .i64)),.d (.list (.st 10))] (.d (.int .i64)) [] x=(n08 F).m x:=by kernel_rfl
def y0n (F:Nat)(x:_):O1 en (C0g F) 79 [.d (.ptr (.st 19))] (.tup [.own 3 (.int .i64),.d .bool]) [] x=(o0D F).m x:=by kernel_rfl
def O0U (F:Nat)(x:_):O1 en (P0c F) 115 [.d (.list (.int .i64)),.d (.list (.int .i64))] (.own 3 (.int .i64)) [] x=(M07 F).m x:=by kernel_rfl
def K0i (F:Nat)(x:_):O1 en (K0w F) 26 [.d (.list (.st 0)),.d (.list (.int .u8))] (.tup [.own 118 (.st 8),.d (.int .i64)]) [] x=(H0O F).m x:=by kernel_rfl
def v0o (F:Nat)(x:_):O1 en (B0w F) 197 [.d (.ptr (.st 31)),.d (.int .i64),.d (.int .i64),.d (.list (.int .i64)),.own 194 (.st 10)] (.own 194 (.st 10)) [] x=(m0g F).m x:=by kernel_rfl
def L0g (F:Nat)(x:_):O1 en (I0W F) 43 [.box 109 [.box 158 [.d (.st 19)],.d (.list (.int .i64)),.d (.int .i64),.d .bool],.d (.int .u8)] (.tup []) [(0,.box 109 [.box 158 [.d (.st 19)],.d (.list (.int .i64)),.d (.int .i64),.d .bool])] x=(G04 F).m x:=by kernel_rfl
def O0K (F:Nat)(x:_):O1 en (P0d F) 23 [.box 88 [.d (.st 7),.ifc 120 (.agg [.box 109 [.box 158 [.d (.st 19)],.d (.list (.int .i64)),.d (.int .i64),.d .bool]])],.d (.list (.int .u8))] (.tup [.agg [.d .bool,.d .bool,.d (.list (.st 8))],.d (.int .i64)]) [(0,.box 88 [.d (.st 7),.ifc 120 (.agg [.box 109 [.box 158 [.d (.st 19)],.d (.list (.int .i64)),.d (.int .i64),.d .bool]])])] x=(M0J F).m x:=by kernel_rfl
def v0v (F:Nat)(x:_):O1 en (D0G F) 195 [.d (.list (.st 0))] (.own 4 .bool) [] x=(k0q F).m x:=by kernel_rfl
def P0J (F:Nat)(x:_):O1 en (Q0m F) 90 [.d (.st 4)] (.d (.st 4)) [] x=(N0i F).m x:=by kernel_rfl
def y0h (F:Nat)(x:_):O1 en (A03 F) 20 [.d (.list (.st 0))] (.d .bool) [] x=(k0E F).m x:=by kernel_rfl
def y0W (F:Nat)(x:_):O1 en (v0a F) 185 [.d (.list (.st 0))] (.own 3 (.int .i64)) [] x=(j0S F).m x:=by kernel_rfl
def I07 (F:Nat)(x:_):O1 en (I03 F) 81 [.d (.ptr (.st 19))] (.d (.int .i64)) [] x=(H0i F).m x:=by kernel_rfl
def A0Y (F:Nat)(x:_):O1 en (y07 F) 58 [.d (.list (.st 0)),.d (.list (.int .u8))] (.d (.st 25)) [] x=(l0A F).m x:=by kernel_rfl
def C0a (F:Nat)(x:_):O1 en (A0d F) 53 [.d (.list (.st 0))] (.alt .nil (.own 3 (.int .i64))) [] x=(i0H F).m x:=by kernel_rfl
def v0V (F:Nat)(x:_):O1 en (C0U F) 57 [.d (.list (.st 0)),.d (.list (.int .u8))] (.d (.int .i64)) [] x=(l07 F).m x:=by kernel_rfl
def A0x (F:Nat)(x:_):O1 en (w05 F) 243 [.d (.list (.int .i64)),.d (.int .i64)] (.own 118 (.st 8)) [] x=(o0R F).m x:=by kernel_rfl
def Q0n (F:Nat)(x:_):O1 en (Q0g F) 117 [.d (.ptr (.st 19))] (.own 3 (.int .i64)) [] x=(M0L F).m x:=by kernel_rfl
def F0e (F:Nat)(x:_):O1 en (v0B F) 146 [.d (.list (.st 0)),.d (.int .i64)] (.tup [.d (.st 10),.d .bool]) [] x=(o0N F).m x:=by kernel_rfl
def z0l (F:Nat)(x:_):O1 en (C0H F) 82 [.d (.ptr (.st 19))] (.tup [.own 3 (.int .i64),.d .bool]) [] x=(o07 F).m x:=by kernel_rfl
def L0X (F:Nat)(x:_):O1 en (L07 F) 83 [.box 158 [.d (.st 19)],.d (.int .i64)] (.tup []) [(0,.box 158 [.d (.st 19)])] x=(H0z F).m x:=by kernel_rfl
def v0f (F:Nat)(x:_):O1 en (A0R F) 80 [.box 158 [.d (.st 19)],.d (.int .u8),.d .bool] (.tup []) [(0,.box 158 [.d (.st 19)])] x=(m0c F).m x:=by kernel_rfl
def B0R (F:Nat)(x:_):O1 en (y0P F) 110 [.box 158 [.d (.st 19)],.d (.st 28),.d (.int .u8)] (.d (.list (.st 29))) [(0,.box 158 [.d (.st 19)])] x=(n0v F).m x:=by kernel_rfl
def J0K (F:Nat)(x:_):O1 en (I0H F) 242 [.box 109 [.box 158 [.d (.st 19)],.d (.list (.int .i64)),.d (.int .i64),.d .bool]] (.tup [.own 118 (.st 8),.d .bool]) [(0,.box 109 [.box 158 [.d (.st 19)],.d (.list (.int .i64)),.d (.int .i64),.d .bool])] x=(H0j F).m x:=by kernel_rfl
def P0D (F:Nat)(x:_):O1 en (O0D F) 56 [.box 88 [.d (.st 7),.ifc 120 (.agg [.box 109 [.box 158 [.d (.st 19)],.d (.list (.int .i64)),.d (.int .i64),.d .bool]])]] (.agg [.d .bool,.d .bool,.own 118 (.st 8)]) [(0,.box 88 [.d (.st 7),.ifc 120 (.agg [.box 109 [.box 158 [.d (.st 19)],.d (.list (.int .i64)),.d (.int .i64),.d .bool]])])] x=(L0D F).m x:=by kernel_rfl
