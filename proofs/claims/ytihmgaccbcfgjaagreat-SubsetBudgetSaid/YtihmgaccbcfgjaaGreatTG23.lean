/- P. Its conditions: none. -/
import Derived.Test.YtihmgaccbcfgjaaGreatTMd
import Derived.Test.YtihmgaccbcfgjaaGreatTEn
import Derived.Test.YtihmgaccbcfgjaaGreatTX17
import Derived.Test.YtihmgaccbcfgjaaGreatTX14
import Derived.Test.YtihmgaccbcfgjaaGreatTVKey
set_option linter.all false
set_option maxRecDepth 100000
noncomputable section
namespace Go.Proofs.YtihmgaccbcfgjaaGreat
open Go.V Go.RowKit Go.X
def y0P (F:Nat)(x:_):I1 en (y0z F) 210 [.d (.list (.st 3))] (.own 3 (.int .i64)) [] x=(f0R F).m x:=Y'
def B0V (F:Nat)(x:_):I1 en (H0O F) 18 [.d (.st 2),.d (.st 2)] (.d .bool) [] x=(o0P F).m x:=Y'
def I0l (F:Nat)(x:_):I1 en (C0a F) 174 [.d (.st 5),.d (.int .i64)] (.d .bool) [] x=(j0L F).m x:=Y'
def E0M (F:Nat)(x:_):I1 en (x0H F) 126 [.d (.int .i64)] (.tup [.d .bool,.d .bool]) [] x=(n0y F).m x:=Y'
def G0Z (F:Nat)(x:_):I1 en (F0i F) 108 [.d (.st 0),.d (.st 0)] (.d .bool) [] x=(m0D F).m x:=Y'
def A0l (F:Nat)(x:_):I1 en (G0e F) 67 [.d (.list (.st 3))] (.alt .nil (.own 3 (.int .i64))) [] x=(m0U F).m x:=Y'
def x00 (F:Nat)(x:_):I1 en (H0V F) 171 [.d (.list (.int .i64)),.d (.int .i64)] (.d .bool) [] x=(p0c F).m x:=Y'
def B0y (F:Nat)(x:_):I1 en (A0j F) 59 [.d (.list (.st 3))] (.tup [.d (.list (.int .i64)),.d (.int .i64)]) [] x=(l00 F).m x:=Y'
def I01 (F:Nat)(x:_):I1 en (D0t F) 152 [.d (.list (.st 3)),.d (.int .i64)] (.tup [.d (.st 11),.d .bool]) [] x=(j0x F).m x:=Y'
def z0N (F:Nat)(x:_):I1 en (z0W F) 184 [.d (.st 5),.d (.list (.int .i64)),.d (.list (.st 11))] (.d (.int .i64)) [] x=(p03 F).m x:=Y'
def I0G (F:Nat)(x:_):I1 en (I0W F) 205 [.d (.st 20),.d (.int .i64),.d (.int .i64)] (.d (.int .i64)) [] x=(j0M F).m x:=Y'
def E0k (F:Nat)(x:_):I1 en (y0g F) 206 [.d (.list (.int .i64)),.d (.list (.int .i64))] (.own 3 (.int .i64)) [] x=(j0q F).m x:=Y'
def E0C (F:Nat)(x:_):I1 en (y0Z F) 187 [.agg [.d (.int .i64),.d (.list (.int .i64)),.X0 22 [3] (.list (.int .i64)),.d (.st 5)]] (.tup [.d (.st 6),.own 3 (.int .i64)]) [] x=(m0c F).m x:=Y'
def w08 (F:Nat)(x:_):I1 en (x0U F) 16 [.d (.st 2)] (.d .bool) [] x=(m0Z F).m x:=Y'
def B0g (F:Nat)(x:_):I1 en (B03 F) 109 [.d (.list (.st 3))] (.d .bool) [] x=(b0t F).m x:=Y'
def J0a (F:Nat)(x:_):I1 en (y0D F) 62 [.d (.list (.st 3))] (.d (.int .i64)) [] x=(h0C F).m x:=Y'
def A0Q (F:Nat)(x:_):I1 en (x0R F) 17 [.d (.st 2),.d (.st 2)] (.d .bool) [] x=(o05 F).m x:=Y'
def G0a (F:Nat)(x:_):I1 en (C0C F) 219 [.own 116 (.st 11)] (.own 116 (.st 11)) [] x=(i0W F).m x:=Y'
def y0L (F:Nat)(x:_):I1 en (x0u F) 47 [.d (.list (.int .i64))] (.own 5 (.int .u8)) [] x=(j0S F).m x:=Y'
def G0f (F:Nat)(x:_):I1 en (x0k F) 104 [.d (.int .i64),.d (.int .i64)] (.d .bool) [] x=(l0u F).m x:=Y'
def z0v (F:Nat)(x:_):I1 en (G0Q F) 175 [.d (.st 5),.d (.list (.int .i64))] (.d (.int .i64)) [] x=(o09 F).m x:=Y'
def D0a (F:Nat)(x:_):I1 en (y0A F) 151 [.d (.list (.st 3)),.d (.st 6)] (.d (.int .i64)) [] x=(k0Z F).m x:=Y'
def I0k (F:Nat)(x:_):I1 en (w05 F) 183 [.d (.list (.st 16)),.d (.int .i64)] (.tup [.own 3 (.int .i64),.own 116 (.st 11)]) [] x=(o0v F).m x:=Y'
def x0P (F:Nat)(x:_):I1 en (x0S F) 207 [.d (.list (.list (.int .i64))),.d (.list (.int .i64))] (.own 22 (.list (.int .i64))) [] x=(m0s F).m x:=Y'
def x08 (F:Nat)(x:_):I1 en (y0x F) 156 [.d (.list (.st 3)),.d (.int .i64),.d (.st 6),.d (.int .u8)] (.tup [.d (.st 6),.own 3 (.int .i64)]) [] x=(m0N F).m x:=Y'
def z0I (F:Nat)(x:_):I1 en (D0b F) 200 [.d (.st 5)] (.d (.st 5)) [] x=(l0Z F).m x:=Y'
def I0r (F:Nat)(x:_):I1 en (D0Y F) 166 [.d (.st 3)] (.d .bool) [] x=(o0M F).m x:=Y'
def x04 (F:Nat)(x:_):I1 en (D0F F) 117 [.d (.list (.st 3))] (.d (.int .i64)) [] x=(m0Q F).m x:=Y'
def H0E (F:Nat)(x:_):I1 en (E0q F) 191 [.d (.st 5),.d (.int .i64)] (.d .bool) [] x=(g0O F).m x:=Y'
def F0D (F:Nat)(x:_):I1 en (H07 F) 60 [.d (.st 6),.d (.st 6)] (.d .bool) [] x=(p09 F).m x:=Y'
def y0V (F:Nat)(x:_):I1 en (C08 F) 167 [.d (.st 3),.d (.list (.st 3))] (.d .bool) [] x=(p0o F).m x:=Y'
def C0l (F:Nat)(x:_):I1 en (F0m F) 110 [.d (.int .i64)] (.d .bool) [] x=(k0M F).m x:=Y'
def I0D (F:Nat)(x:_):I1 en (F0T F) 51 [.d (.list (.int .i64))] (.own 5 (.int .u8)) [] x=(n04 F).m x:=Y'
def G0k (F:Nat)(x:_):I1 en (A02 F) 203 [.d (.int .i64)] (.X0 22 [3] (.list (.int .i64))) [] x=(i00 F).m x:=Y'
def H0w (F:Nat)(x:_):I1 en (D0W F) 180 [.d (.list (.st 3)),.d (.int .i64)] (.own 184 (.st 12)) [] x=(p0C F).m x:=Y'
def A0Z (F:Nat)(x:_):I1 en (F0u F) 154 [.d (.list (.st 3)),.d (.list (.int .i64))] (.own 184 (.st 12)) [] x=(j08 F).m x:=Y'
def I0c (F:Nat)(x:_):I1 en (A0i F) 176 [.d (.list (.st 3)),.d (.int .i64)] (.own 3 (.int .i64)) [] x=(g0R F).m x:=Y'
def H0p (F:Nat)(x:_):I1 en (F08 F) 198 [.d (.list (.st 3)),.d (.int .i64)] (.own 116 (.st 11)) [] x=(p0p F).m x:=Y'
def I08 (F:Nat)(x:_):I1 en (A0O F) 189 [.d (.list (.list (.int .i64))),.d (.int .i64)] (.d .bool) [] x=(n0X F).m x:=Y'
def I0R (F:Nat)(x:_):I1 en (A0q F) 193 [.d (.list (.st 3))] (.tup [.alt .nilp (.box 246 [.d (.st 15)]),.d .bool]) [] x=(j0y F).m x:=Y'
def I0I (F:Nat)(x:_):I1 en (A0Y F) 19 [.d (.list (.st 3)),.d (.int .i64),.d (.int .i64)] (.tup [.d (.st 2),.d (.int .i64)]) [] x=(l0J F).m x:=Y'
def H0H (F:Nat)(x:_):I1 en (z0R F) 178 [.d (.ptr (.st 15)),.d (.int .i64)] (.tup [.own 116 (.st 11),.d (.list (.int .i64))]) [] x=(l0D F).m x:=Y'
