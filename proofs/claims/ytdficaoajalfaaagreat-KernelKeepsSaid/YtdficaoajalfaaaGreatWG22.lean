/- Laws of the models and helpers of the proof. Its conditions: none. -/
import Derived.Test.YtdficaoajalfaaaGreatWMd
import Derived.Test.YtdficaoajalfaaaGreatWEn
import Derived.Test.YtdficaoajalfaaaGreatWX17
import Derived.Test.YtdficaoajalfaaaGreatWX14
import Derived.Test.YtdficaoajalfaaaGreatWVKey
set_option linter.all false
set_option maxRecDepth 100000
noncomputable section
namespace Go.Proofs.YtdficaoajalfaaaGreat
open Go.V Go.RowKit Go.X
theorem I08 (F:Nat) (x:_):D1 en (I0U F) 57 [.d (.st 12)] (.d .bool) [] x=(s0w F).m x:=by kernel_rfl
theorem H0y (F:Nat) (x:_):D1 en (x0i F) 195 [.d (.list (.st 0))] (.own 3 (.int .i64)) [] x=(f0y F).m x:=by kernel_rfl
theorem D08 (F:Nat) (x:_):D1 en (A0k F) 109 [.d (.list (.st 0))] (.d (.int .i64)) [] x=(j0U F).m x:=by kernel_rfl
theorem H0I (F:Nat) (x:_):D1 en (C0X F) 95 [.d (.list (.st 0))] (.d (.int .i64)) [] x=(i0Q F).m x:=by kernel_rfl
theorem F0e (F:Nat) (x:_):D1 en (D0b F) 103 [.d (.st 12),.d (.st 12)] (.d .bool) [] x=(n04 F).m x:=by kernel_rfl
theorem A0i (F:Nat) (x:_):D1 en (x0U F) 196 [.d (.list (.st 0))] (.own 3 (.int .i64)) [] x=(o0E F).m x:=by kernel_rfl
theorem A0n (F:Nat) (x:_):D1 en (I0E F) 104 [.d (.int .i64)] (.d .bool) [] x=(l0X F).m x:=by kernel_rfl
theorem G0o (F:Nat) (x:_):D1 en (H0f F) 139 [.d (.int .i64)] (.V0 47 [3] (.list (.int .i64))) [] x=(j0p F).m x:=by kernel_rfl
theorem D0Y (F:Nat) (x:_):D1 en (H0g F) 113 [.d (.list (.st 0)),.d (.list (.int .i64))] (.own 188 (.st 4)) [] x=(l0q F).m x:=by kernel_rfl
theorem G0b (F:Nat) (x:_):D1 en (H0B F) 141 [.d (.st 19),.d (.int .i64),.d (.int .i64)] (.d (.int .i64)) [] x=(k0X F).m x:=by kernel_rfl
theorem I0F (F:Nat) (x:_):D1 en (x0k F) 165 [.d (.list (.list (.int .i64))),.d (.list (.int .i64))] (.own 47 (.list (.int .i64))) [] x=(o0P F).m x:=by kernel_rfl
theorem D02 (F:Nat) (x:_):D1 en (D04 F) 54 [.d (.list (.st 0)),.d (.int .i64),.d (.st 12),.d (.int .u8)] (.tup [.d (.st 12),.own 3 (.int .i64)]) [] x=(j09 F).m x:=by kernel_rfl
theorem G0P (F:Nat) (x:_):D1 en (I0e F) 119 [.agg [.d (.int .i64),.d (.list (.int .i64)),.V0 47 [3] (.list (.int .i64)),.d (.st 7)]] (.tup [.d (.st 12),.own 3 (.int .i64)]) [] x=(n0j F).m x:=by kernel_rfl
theorem z0h (F:Nat) (x:_):D1 en (B0i F) 132 [.d (.st 7)] (.d (.st 7)) [] x=(m0Y F).m x:=by kernel_rfl
theorem y0H (F:Nat) (x:_):D1 en (E0Y F) 105 [.d (.list (.st 0))] (.own 4 .bool) [] x=(h0Q F).m x:=by kernel_rfl
theorem x0m (F:Nat) (x:_):D1 en (G0q F) 122 [.d (.list (.st 0))] (.d (.int .i64)) [] x=(p0V F).m x:=by kernel_rfl
theorem F02 (F:Nat) (x:_):D1 en (G0l F) 171 [.own 121 (.st 3)] (.own 121 (.st 3)) [] x=(k01 F).m x:=by kernel_rfl
theorem E05 (F:Nat) (x:_):D1 en (A0v F) 124 [.d (.int .i64)] (.tup [.d .bool,.d .bool]) [] x=(n0n F).m x:=by kernel_rfl
theorem I0y (F:Nat) (x:_):D1 en (C0d F) 77 [.d (.list (.st 0))] (.own 3 (.int .i64)) [] x=(d05 F).m x:=by kernel_rfl
theorem y0d (F:Nat) (x:_):D1 en (x09 F) 147 [.d (.st 7),.d (.list (.int .i64))] (.d (.int .i64)) [] x=(o0X F).m x:=by kernel_rfl
theorem y0a (F:Nat) (x:_):D1 en (C09 F) 161 [.d (.list (.st 0)),.d (.int .i64)] (.own 188 (.st 4)) [] x=(o0d F).m x:=by kernel_rfl
theorem G0g (F:Nat) (x:_):D1 en (y0l F) 111 [.d (.list (.st 0)),.d (.st 12)] (.d (.int .i64)) [] x=(j0z F).m x:=by kernel_rfl
theorem C0e (F:Nat) (x:_):D1 en (F0M F) 170 [.d (.list (.st 0))] (.tup [.alt .nilp (.box 239 [.d (.st 20)]),.d .bool]) [] x=(k0s F).m x:=by kernel_rfl
theorem J0s (F:Nat) (x:_):D1 en (J0n F) 12 [.d (.list (.st 0)),.d (.st 12),.d (.st 13)] (.d .bool) [] x=(u0e F).m x:=by kernel_rfl
theorem x0a (F:Nat) (x:_):D1 en (F07 F) 135 [.d (.st 19),.d (.int .i64),.d (.int .i64)] (.d (.int .i64)) [] x=(l0D F).m x:=by kernel_rfl
theorem G07 (F n:Nat) (x:_):D1 en (B00 F n) 140 [.d (.list (.st 0)),.d (.st 3),.d (.st 3)] (.tup [.d (.int .i64),.d (.int .i64),.d (.int .i64)]) [] x=(l0e F (n+1)).m x:=by kernel_rfl
theorem D0M (F:Nat) (x:_):D1 en (x0x F) 48 [] (.d .bool) [] x=(p0W F).m x:=by kernel_rfl
theorem A0m (F:Nat) (x:_):D1 en (B0Q F) 133 [.d (.st 7)] (.d .bool) [] x=(e06 F).m x:=by kernel_rfl
theorem z0L (F:Nat) (x:_):D1 en (E0b F) 56 [.d (.st 12)] (.d (.int .i64)) [] x=(j07 F).m x:=by kernel_rfl
theorem E0n (F:Nat) (x:_):D1 en (D0o F) 178 [.d (.list (.st 0))] (.own 3 (.int .i64)) [] x=(i05 F).m x:=by kernel_rfl
theorem C0f (F:Nat) (x:_):D1 en (H0V F) 27 [.d (.st 7),.d (.int .i64)] (.d .bool) [] x=(e08 F).m x:=by kernel_rfl
theorem I05 (F:Nat) (x:_):D1 en (J0p F) 58 [.d (.list (.st 0)),.d (.st 12)] (.d .bool) [] x=(q0t F).m x:=by kernel_rfl
theorem D0x (F:Nat) (x:_):D1 en (H0U F) 66 [.d (.list (.st 0))] (.alt .nil (.own 3 (.int .i64))) [] x=(l03 F).m x:=by kernel_rfl
theorem I0l (F:Nat) (x:_):D1 en (x07 F) 154 [] (.agg [.fn 185 [],.fn 187 [.box 84 [.fn 185 []]]]) [] x=(q0b F).m x:=by kernel_rfl
theorem B0G (F:Nat) (x:_):D1 en (D0r F) 158 [.d (.list (.st 0)),.d (.int .i64)] (.own 3 (.int .i64)) [] x=(h0H F).m x:=by kernel_rfl
theorem G0I (F:Nat) (x:_):D1 en (F0x F) 50 [.d (.list (.int .i64)),.d (.list (.int .i64))] (.d .bool) [] x=(j0a F).m x:=by kernel_rfl
theorem D0j (F:Nat) (x:_):D1 en (E0N F) 106 [.d (.list (.int .i64)),.d (.int .i64)] (.d .bool) [] x=(q0j F).m x:=by kernel_rfl
theorem C02 (F:Nat) (x:_):D1 en (C0v F) 53 [.d (.list (.st 0)),.d (.st 12)] (.own 3 (.int .i64)) [] x=(k0v F).m x:=by kernel_rfl
theorem B0a (F:Nat) (x:_):D1 en (C0Z F) 186 [.d (.list (.int .i64)),.d (.list (.int .i64))] (.d .bool) [] x=(i0X F).m x:=by kernel_rfl
theorem E02 (F:Nat) (x:_):D1 en (x0o F) 71 [.d (.st 7),.d (.list (.int .i64)),.d (.list (.st 3))] (.d (.int .i64)) [] x=(o0A F).m x:=by kernel_rfl
theorem x0K (F:Nat) (x:_):D1 en (y06 F) 108 [.d (.list (.list (.int .i64))),.d (.int .i64)] (.d .bool) [] x=(o0s F).m x:=by kernel_rfl
theorem B0b (F:Nat) (x:_):D1 en (G0i F) 49 [.d (.list (.st 0)),.d (.int .i64)] (.tup [.d (.st 12),.d (.int .i64)]) [] x=(k0I F).m x:=by kernel_rfl
theorem B0k (F n:Nat) (x:_):D1 en (A0p F n) 190 [.d (.list (.st 0)),.d (.list .bool),.d (.int .i64),.own 3 (.int .i64)] (.own 3 (.int .i64)) [] x=(j03 F (n+1)).m x:=by kernel_rfl
theorem z0P (F:Nat) (x:_):D1 en (C0i F) 160 [.d (.ptr (.st 20)),.d (.int .i64)] (.tup [.own 121 (.st 3),.d (.list (.int .i64))]) [] x=(l02 F).m x:=by kernel_rfl
theorem I0t (F n:Nat) (x:_):D1 en (z06 F n) 172 [.d (.ptr (.st 20)),.d (.int .i64),.d (.list (.int .i64)),.own 121 (.st 3)] (.own 121 (.st 3)) [] x=(i0w F (n+1)).m x:=by kernel_rfl
