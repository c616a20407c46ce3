/- P. Its conditions: none. -/
import Derived.Test.YtihmgaccbcfgjaaGreatTMd
import Derived.Test.YtihmgaccbcfgjaaGreatTEn
import Derived.Test.YtihmgaccbcfgjaaGreatTX17
import Derived.Test.YtihmgaccbcfgjaaGreatTX14
import Derived.Test.YtihmgaccbcfgjaaGreatTVKey
set_option linter.all false
set_option maxRecDepth 100000
noncomputable section
namespace Go.Proofs.YtihmgaccbcfgjaaGreat
open Go.V Go.RowKit Go.X
def H0o (F:Nat)(x:_):I1 en (t0u F) 12 [] (.d .bool) [] x=(p06 F).m x:=Y'
def I0Z (F:Nat)(x:_):I1 en (I0b F) 15 [.d (.st 2)] (.d .bool) [] x=(m0p F).m x:=Y'
def x0r (F:Nat)(x:_):I1 en (z0q F) 21 [.d (.list (.st 3))] (.d .bool) [] x=(p0M F).m x:=Y'
def y09 (F:Nat)(x:_):I1 en (A09 F) 144 [.d (.list (.st 3))] (.own 3 (.int .i64)) [] x=(f0O F).m x:=Y'
def F00 (F:Nat)(x:_):I1 en (z09 F) 50 [.d (.list (.int .i64))] (.d .bool) [] x=(k0Q F).m x:=Y'
def C0x (F:Nat)(x:_):I1 en (C0Z F) 168 [.d (.arr 4 (.int .u64)),.d (.int .u8)] (.d .bool) [] x=(d0m F).m x:=Y'
def w03 (F:Nat)(x:_):I1 en (C0L F) 150 [.d (.list (.st 3)),.d (.st 6)] (.d .bool) [] x=(i05 F).m x:=Y'
def G0R (F:Nat)(x:_):I1 en (z03 F) 53 [.d (.st 2),.d (.st 0),.d (.int .i64)] (.d .bool) [] x=(o0S F).m x:=Y'
def J0b (F:Nat)(x:_):I1 en (C0R F) 181 [.d (.int .i64),.d (.int .i64)] (.own 3 (.int .i64)) [] x=(o0w F).m x:=Y'
def G0B (F:Nat)(x:_):I1 en (D0k F) 52 [.d (.int .i64),.d (.int .i64),.d .bool] (.d .bool) [] x=(j05 F).m x:=Y'
def E0T (F:Nat)(x:_):I1 en (H0e F) 119 [.d (.list (.st 3)),.d (.st 6)] (.own 3 (.int .i64)) [] x=(o0j F).m x:=Y'
def B0W (F:Nat)(x:_):I1 en (z08 F) 195 [.d (.list (.int .i64)),.d (.list (.int .i64))] (.d (.list (.int .i64))) [] x=(k0w F).m x:=Y'
def F07 (F:Nat)(x:_):I1 en (u04 F) 5 [.d (.list (.st 3)),.d (.int .i64),.d (.arr 2 (.int .u8))] (.d .bool) [] x=(t0s F).m x:=Y'
def B0j (F n:Nat)(x:_):I1 en (H0i F n) 204 [.d (.list (.st 3)),.d (.st 11),.d (.st 11)] (.tup [.d (.int .i64),.d (.int .i64),.d (.int .i64)]) [] x=(l0C F (n+1)).m x:=Y'
def A0w (F n:Nat)(x:_):I1 en (z0d F n) 213 [.d (.ptr (.st 15)),.d (.int .i64),.d (.list (.int .i64)),.own 116 (.st 11)] (.own 116 (.st 11)) [] x=(h0i F (n+1)).m x:=Y'
def F0M (F:Nat)(x:_):I1 en (G0u F) 186 [.d (.list (.st 3)),.agg [.d (.int .i64),.d (.list (.int .i64)),.X0 22 [3] (.list (.int .i64)),.d (.st 5)]] (.agg [.d (.int .i64),.d (.list (.int .i64)),.X0 22 [3] (.list (.int .i64)),.d (.st 5)]) [] x=(n0k F).m x:=Y'
def E0V (F:Nat)(x:_):I1 en (D0z F) 190 [.d (.st 5)] (.d .bool) [] x=(f0v F).m x:=Y'
def A08 (F:Nat)(x:_):I1 en (D0K F) 114 [.d (.st 5),.d (.st 5)] (.d .bool) [] x=(q0g F).m x:=Y'
def z0Z (F:Nat)(x:_):I1 en (G0v F) 211 [.d (.list (.st 3))] (.own 3 (.int .i64)) [] x=(j04 F).m x:=Y'
def E04 (F:Nat)(x:_):I1 en (C00 F) 172 [.d (.list (.st 3))] (.own 3 (.int .i64)) [] x=(f0m F).m x:=Y'
def G0x (F:Nat)(x:_):I1 en (E0i F) 57 [.d (.st 1),.d (.st 1)] (.d .bool) [] x=(n0a F).m x:=Y'
def A0g (F:Nat)(x:_):I1 en (y0C F) 49 [.d (.st 2),.d (.st 1),.d (.st 0)] (.d .bool) [] x=(n0e F).m x:=Y'
def I0w (F:Nat)(x:_):I1 en (x0O F) 199 [.d (.list (.st 3)),.d (.int .i64)] (.own 116 (.st 11)) [] x=(l05 F).m x:=Y'
def I0j (F:Nat)(x:_):I1 en (y01 F) 173 [.d (.list (.list (.int .i64))),.d (.int .i64)] (.d .bool) [] x=(m0W F).m x:=Y'
def B0N (F:Nat)(x:_):I1 en (D0T F) 58 [.d (.list (.st 3)),.d (.int .i64)] (.tup [.d (.st 6),.d (.int .i64)]) [] x=(n0l F).m x:=Y'
def A0C (F:Nat)(x:_):I1 en (G05 F) 201 [.d (.st 20),.d (.int .i64),.d (.int .i64)] (.d (.int .i64)) [] x=(j0C F).m x:=Y'
def y03 (F:Nat)(x:_):I1 en (G0Y F) 208 [.d (.list (.list (.int .i64))),.d (.list (.int .i64))] (.own 22 (.list (.int .i64))) [] x=(o0F F).m x:=Y'
def I0E (F n:Nat)(x:_):I1 en (x0D F n) 192 [.d (.list (.st 3)),.d (.list .bool),.d (.int .i64),.own 3 (.int .i64)] (.own 3 (.int .i64)) [] x=(l0A F (n+1)).m x:=Y'
def F0B (F:Nat)(x:_):I1 en (C0D F) 63 [.box 108 [.d (.list (.st 3)),.d (.int .i64),.d (.list (.int .u8)),.agg [.own 48 (.st 6),.fn 60 []]],.d (.st 6)] (.d (.st 1)) [(0,.box 108 [.d (.list (.st 3)),.d (.int .i64),.d (.list (.int .u8)),.agg [.own 48 (.st 6),.fn 60 []]])] x=(o0z F).m x:=Y'
def E0c (F:Nat)(x:_):I1 en (B0B F) 45 [] (.own 132 (.st 3)) [] x=(l0R F).m x:=Y'
def G01 (F:Nat)(x:_):I1 en (G08 F) 111 [.d (.list (.st 3))] (.own 4 .bool) [] x=(g00 F).m x:=Y'
def H0L (F:Nat)(x:_):I1 en (x0V F) 118 [.d (.st 6)] (.d (.int .i64)) [] x=(p0n F).m x:=Y'
def D0q (F:Nat)(x:_):I1 en (w0Z F) 46 [.d (.list (.int .i64))] (.d .bool) [] x=(k0v F).m x:=Y'
def B0h (F:Nat)(x:_):I1 en (A0P F) 212 [.d (.list (.st 3))] (.own 3 (.int .i64)) [] x=(q0j F).m x:=Y'
def H0S (F:Nat)(x:_):I1 en (y0J F) 155 [.d (.list (.st 3))] (.own 3 (.int .i64)) [] x=(k0X F).m x:=Y'
def F0H (F:Nat)(x:_):I1 en (F0n F) 48 [.d (.st 1),.d (.int .i64)] (.d .bool) [] x=(o0I F).m x:=Y'
def B0n (F:Nat)(x:_):I1 en (F0s F) 56 [.d (.st 1),.d (.st 1)] (.d .bool) [] x=(m0X F).m x:=Y'
def H0D (F:Nat)(x:_):I1 en (y0h F) 113 [] (.agg [.fn 146 [],.fn 147 [.box 75 [.fn 146 []]]]) [] x=(p0h F).m x:=Y'
def H0N (F:Nat)(x:_):I1 en (D0f F) 37 [.d (.list (.int .i64)),.d (.list (.int .i64))] (.d .bool) [] x=(l0G F).m x:=Y'
def A0K (F:Nat)(x:_):I1 en (I0f F) 149 [.d (.list (.st 3)),.d (.int .i64)] (.own 3 (.int .i64)) [] x=(k0p F).m x:=Y'
def I0H (F:Nat)(x:_):I1 en (B0l F) 54 [.d (.list (.int .i64)),.d (.list (.int .i64))] (.d .bool) [] x=(f0f F).m x:=Y'
def H0x (F:Nat)(x:_):I1 en (I0P F) 165 [.d (.list (.st 3)),.d (.list (.int .i64)),.d (.int .i64)] (.d (.int .i64)) [] x=(q0D F).m x:=Y'
def D06 (F:Nat)(x:_):I1 en (G0j F) 182 [.d (.list (.st 3)),.d (.st 6)] (.tup [.own 239 (.st 16),.d (.st 5)]) [] x=(q0B F).m x:=Y'
def B0c (F:Nat)(x:_):I1 en (B08 F) 185 [.d (.list (.st 3)),.d (.st 5),.d (.list (.int .i64)),.d (.list (.st 11))] (.d (.st 5)) [] x=(p0i F).m x:=Y'
def F0z (F:Nat)(x:_):I1 en (I0J F) 177 [.d (.list (.st 3)),.d (.int .i64)] (.tup [.alt .nilp (.box 246 [.d (.st 15)]),.d (.int .i64),.d .bool]) [] x=(j0I F).m x:=Y'
def C0g (F:Nat)(x:_):I1 en (z0a F) 194 [.d (.ptr (.st 15)),.d (.int .i64),.d (.int .i64),.d (.list (.int .i64)),.own 116 (.st 11)] (.own 116 (.st 11)) [] x=(o0D F).m x:=Y'
def I0d (F:Nat)(x:_):I1 en (D0m F) 120 [.box 108 [.d (.list (.st 3)),.d (.int .i64),.d (.list (.int .u8)),.agg [.own 48 (.st 6),.fn 60 []]],.d (.st 6),.d (.int .i64)] (.d (.st 0)) [(0,.box 108 [.d (.list (.st 3)),.d (.int .i64),.d (.list (.int .u8)),.agg [.own 48 (.st 6),.fn 60 []]])] x=(o00 F).m x:=Y'
