/- Laws of the models and helpers of the proof. Its conditions: none. -/
import Derived.Test.YtdficaoajalfaaaGreatTMd
import Derived.Test.YtdficaoajalfaaaGreatTEn
import Derived.Test.YtdficaoajalfaaaGreatTX17
import Derived.Test.YtdficaoajalfaaaGreatTX14
import Derived.Test.YtdficaoajalfaaaGreatTVKey
set_option linter.all false
set_option maxRecDepth 100000
noncomputable section
namespace Go.Proofs.YtdficaoajalfaaaGreat
open Go.V Go.RowKit Go.X
theorem b_h9 (F:Nat) (x:_):c_1 en (a_30 F) 195 [.d (.list (.st 0))] (.own 3 (.int .i64)) [] x=(a_hv F).m x:=by kernel_rfl
theorem b_az (F:Nat) (x:_):c_1 en (a_x2 F) 109 [.d (.list (.st 0))] (.d (.int .i64)) [] x=(a_p7 F).m x:=by kernel_rfl
theorem a_62 (F:Nat) (x:_):c_1 en (a_u5 F) 95 [.d (.list (.st 0))] (.d (.int .i64)) [] x=(a_jd F).m x:=by kernel_rfl
theorem a_41 (F:Nat) (x:_):c_1 en (a_sz F) 196 [.d (.list (.st 0))] (.own 3 (.int .i64)) [] x=(a_l1 F).m x:=by kernel_rfl
theorem b_rb (F:Nat) (x:_):c_1 en (b_rd F) 45 [.d (.ptr (.st 10))] (.d (.int .i64)) [] x=(a_oc F).m x:=by kernel_rfl
theorem a_9k (F:Nat) (x:_):c_1 en (a_vz F) 139 [.d (.int .i64)] (.tab 47 [3] (.list (.int .i64))) [] x=(a_jn F).m x:=by kernel_rfl
theorem b_tg (F:Nat) (x:_):c_1 en (b_tc F) 43 [.d (.st 11)] (.tup [.own 36 (.st 1),.d .bool]) [] x=(a_69 F).m x:=by kernel_rfl
theorem b_hk (F:Nat) (x:_):c_1 en (a_34 F) 113 [.d (.list (.st 0)),.d (.list (.int .i64))] (.own 188 (.st 4)) [] x=(a_pv F).m x:=by kernel_rfl
theorem a_96 (F:Nat) (x:_):c_1 en (a_tp F) 101 [.d (.list (.int .i64)),.d (.int .i64)] (.own 36 (.st 1)) [] x=(a_n6 F).m x:=by kernel_rfl
theorem a_5h (F:Nat) (x:_):c_1 en (a_st F) 63 [.d (.list (.int .i64)),.d (.int .i64)] (.own 36 (.st 1)) [] x=(a_lr F).m x:=by kernel_rfl
theorem b_ax (F:Nat) (x:_):c_1 en (a_yj F) 80 [.d (.list (.st 0)),.d (.int .i64)] (.tup [.d (.st 3),.d .bool]) [] x=(a_k2 F).m x:=by kernel_rfl
theorem a_21 (F:Nat) (x:_):c_1 en (a_qs F) 127 [.d (.list (.st 0)),.d (.list (.st 3))] (.own 124 (.st 5)) [] x=(a_j4 F).m x:=by kernel_rfl
theorem a_xa (F:Nat) (x:_):c_1 en (a_mk F) 141 [.d (.st 19),.d (.int .i64),.d (.int .i64)] (.d (.int .i64)) [] x=(a_cn F).m x:=by kernel_rfl
theorem a_4w (F:Nat) (x:_):c_1 en (a_ss F) 145 [.d (.list (.st 0)),.d (.int .i64)] (.tup [.own 121 (.st 3),.d (.st 3),.d .bool]) [] x=(a_hd F).m x:=by kernel_rfl
theorem a_ux (F:Nat) (x:_):c_1 en (a_lk F) 69 [.box 108 [.d (.st 8)],.d .bool] (.d (.st 15)) [(0,.box 108 [.d (.st 8)])] x=(a_fg F).m x:=by kernel_rfl
theorem b_tt (F:Nat) (x:_):c_1 en (b_ue F) 34 [] (.d .bool) [] x=(a_zk F).m x:=by kernel_rfl
theorem b_bp (F:Nat) (x:_):c_1 en (a_xl F) 132 [.d (.st 7)] (.d (.st 7)) [] x=(a_qf F).m x:=by kernel_rfl
theorem b_et (F:Nat) (x:_):c_1 en (a_0w F) 105 [.d (.list (.st 0))] (.own 4 .bool) [] x=(a_m4 F).m x:=by kernel_rfl
theorem b_a4 (F:Nat) (x:_):c_1 en (a_yn F) 144 [.d (.list (.st 0))] (.own 4 .bool) [] x=(a_g0 F).m x:=by kernel_rfl
theorem b_a2 (F:Nat) (x:_):c_1 en (a_ya F) 122 [.d (.list (.st 0))] (.d (.int .i64)) [] x=(a_qc F).m x:=by kernel_rfl
theorem a_9s (F:Nat) (x:_):c_1 en (a_ty F) 171 [.own 121 (.st 3)] (.own 121 (.st 3)) [] x=(a_ib F).m x:=by kernel_rfl
theorem a_6h (F:Nat) (x:_):c_1 en (a_uy F) 182 [.d (.list (.st 0))] (.own 3 (.int .i64)) [] x=(a_is F).m x:=by kernel_rfl
theorem a_9w (F:Nat) (x:_):c_1 en (a_ua F) 124 [.d (.int .i64)] (.tup [.d .bool,.d .bool]) [] x=(a_n0 F).m x:=by kernel_rfl
theorem a_2f (F:Nat) (x:_):c_1 en (a_qv F) 77 [.d (.list (.st 0))] (.own 3 (.int .i64)) [] x=(v_5 F).m x:=by kernel_rfl
theorem a_2q (F:Nat) (x:_):c_1 en (a_qo F) 68 [.d (.list (.st 0))] (.box 129 [.d (.st 6)]) [] x=(a_ka F).m x:=by kernel_rfl
theorem b_bw (F:Nat) (x:_):c_1 en (a_x8 F) 147 [.d (.st 7),.d (.list (.int .i64))] (.d (.int .i64)) [] x=(a_qa F).m x:=by kernel_rfl
theorem b_aw (F:Nat) (x:_):c_1 en (a_xt F) 161 [.d (.list (.st 0)),.d (.int .i64)] (.own 188 (.st 4)) [] x=(a_p1 F).m x:=by kernel_rfl
theorem b_af (F:Nat) (x:_):c_1 en (a_vs F) 79 [.d (.list (.st 0)),.d (.int .i64)] (.own 121 (.st 3)) [] x=(a_od F).m x:=by kernel_rfl
theorem a_tk (F:Nat) (x:_):c_1 en (a_jr F) 24 [.d (.ptr (.st 8))] (.own 3 (.int .i64)) [] x=(a_ed F).m x:=by kernel_rfl
theorem b_be (F:Nat) (x:_):c_1 en (a_xp F) 90 [.d (.list (.st 3)),.d (.int .i64)] (.tup [.d (.st 3),.d .bool]) [] x=(a_px F).m x:=by kernel_rfl
theorem b_p1 (F:Nat) (x:_):c_1 en (b_p7 F) 10 [.d (.list (.st 0)),.d (.list (.int .u8))] (.d .bool) [] x=(a_7d F).m x:=by kernel_rfl
theorem b_bd (F:Nat) (x:_):c_1 en (a_yk F) 170 [.d (.list (.st 0))] (.tup [.alt .nilp (.box 239 [.d (.st 20)]),.d .bool]) [] x=(a_kg F).m x:=by kernel_rfl
theorem a_3g (F:Nat) (x:_):c_1 en (a_qj F) 85 [.d (.list (.int .i64)),.d (.list (.int .i64))] (.own 3 (.int .i64)) [] x=(a_jw F).m x:=by kernel_rfl
theorem a_tl (F:Nat) (x:_):c_1 en (a_jq F) 135 [.d (.st 19),.d (.int .i64),.d (.int .i64)] (.d (.int .i64)) [] x=(a_a1 F).m x:=by kernel_rfl
theorem b_q3 (F:Nat) (x:_):c_1 en (b_qz F) 9 [.d (.list (.st 0)),.d (.list (.int .u8)),.d (.list (.int .u8))] (.d .bool) [] x=(a_9d F).m x:=by kernel_rfl
theorem a_77 (F:Nat) (x:_):c_1 en (a_vx F) 149 [.d (.int .i64)] (.agg [.tab 47 [3] (.list (.int .i64)),.tab 47 [3] (.list (.int .i64))]) [] x=(a_iv F).m x:=by kernel_rfl
theorem a_w4 (F:Nat) (x:_):c_1 en (a_mb F) 23 [.box 108 [.d (.st 8)],.d (.int .u8),.d .bool] (.tup []) [(0,.box 108 [.d (.st 8)])] x=(a_co F).m x:=by kernel_rfl
theorem b_a6 (F n:Nat) (x:_):c_1 en (a_xm F n) 140 [.d (.list (.st 0)),.d (.st 3),.d (.st 3)] (.tup [.d (.int .i64),.d (.int .i64),.d (.int .i64)]) [] x=(a_kq F (n+1)).m x:=by kernel_rfl
theorem a_6q (F:Nat) (x:_):c_1 en (a_uh F) 133 [.d (.st 7)] (.d .bool) [] x=(a_cr F).m x:=by kernel_rfl
theorem b_ap (F:Nat) (x:_):c_1 en (a_yb F) 28 [.d (.list (.st 0))] (.d (.st 9)) [] x=(a_kt F).m x:=by kernel_rfl
theorem b_b8 (F:Nat) (x:_):c_1 en (a_xf F) 178 [.d (.list (.st 0))] (.own 3 (.int .i64)) [] x=(a_ks F).m x:=by kernel_rfl
theorem a_5f (F:Nat) (x:_):c_1 en (a_s9 F) 27 [.d (.st 7),.d (.int .i64)] (.d .bool) [] x=(a_a6 F).m x:=by kernel_rfl
theorem a_5b (F:Nat) (x:_):c_1 en (a_s8 F) 143 [.d (.list (.st 0))] (.own 3 (.int .i64)) [] x=(a_hc F).m x:=by kernel_rfl
theorem a_6e (F:Nat) (x:_):c_1 en (a_va F) 32 [.d (.st 9),.d (.int .u8),.d .bool] (.d (.st 9)) [] x=(a_i3 F).m x:=by kernel_rfl
theorem a_42 (F:Nat) (x:_):c_1 en (a_sv F) 183 [.d (.list (.st 3)),.d (.int .i64)] (.d .bool) [] x=(a_lt F).m x:=by kernel_rfl
theorem a_7w (F:Nat) (x:_):c_1 en (a_vn F) 66 [.d (.list (.st 0))] (.alt .nil (.own 3 (.int .i64))) [] x=(a_id F).m x:=by kernel_rfl
theorem a_6v (F:Nat) (x:_):c_1 en (a_vd F) 158 [.d (.list (.st 0)),.d (.int .i64)] (.own 3 (.int .i64)) [] x=(a_e5 F).m x:=by kernel_rfl
theorem b_ba (F:Nat) (x:_):c_1 en (a_xz F) 71 [.d (.st 7),.d (.list (.int .i64)),.d (.list (.st 3))] (.d (.int .i64)) [] x=(a_qb F).m x:=by kernel_rfl
theorem a_89 (F:Nat) (x:_):c_1 en (a_vm F) 91 [.d (.st 7),.d (.list (.int .i64)),.d (.list (.st 3))] (.d (.int .i64)) [] x=(a_nl F).m x:=by kernel_rfl
theorem b_tb (F:Nat) (x:_):c_1 en (b_ta F) 35 [.d (.list (.st 0)),.d (.list (.int .u8))] (.tup [.own 36 (.st 1),.d (.int .i64)]) [] x=(a_3e F).m x:=by kernel_rfl
theorem a_85 (F:Nat) (x:_):c_1 en (a_uq F) 94 [.d (.list (.st 0)),.d (.st 7),.d (.list (.int .i64)),.d (.list (.st 3))] (.d (.st 7)) [] x=(a_nm F).m x:=by kernel_rfl
theorem a_1x (F:Nat) (x:_):c_1 en (a_ra F) 86 [.d (.list (.list (.int .i64))),.d (.list (.int .i64))] (.own 47 (.list (.int .i64))) [] x=(a_kf F).m x:=by kernel_rfl
theorem a_46 (F:Nat) (x:_):c_1 en (a_su F) 92 [.d (.list (.int .i64)),.d (.list (.st 4)),.d (.int .i64),.d (.int .i64)] (.own 3 (.int .i64)) [] x=(a_d0 F).m x:=by kernel_rfl
theorem b_ao (F n:Nat) (x:_):c_1 en (a_xn F n) 190 [.d (.list (.st 0)),.d (.list .bool),.d (.int .i64),.own 3 (.int .i64)] (.own 3 (.int .i64)) [] x=(a_ku F (n+1)).m x:=by kernel_rfl
theorem a_rg (F:Nat) (x:_):c_1 en (a_je F) 160 [.d (.ptr (.st 20)),.d (.int .i64)] (.tup [.own 121 (.st 3),.d (.list (.int .i64))]) [] x=(z_5 F).m x:=by kernel_rfl
theorem a_ti (F n:Nat) (x:_):c_1 en (a_ju F n) 172 [.d (.ptr (.st 20)),.d (.int .i64),.d (.list (.int .i64)),.own 121 (.st 3)] (.own 121 (.st 3)) [] x=(u_7 F (n+1)).m x:=by kernel_rfl
