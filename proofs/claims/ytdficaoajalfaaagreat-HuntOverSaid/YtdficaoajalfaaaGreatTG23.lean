/- Laws of the models and helpers of the proof. Its conditions: none. -/
import Derived.Test.YtdficaoajalfaaaGreatTMd
import Derived.Test.YtdficaoajalfaaaGreatTEn
import Derived.Test.YtdficaoajalfaaaGreatTX17
import Derived.Test.YtdficaoajalfaaaGreatTX14
import Derived.Test.YtdficaoajalfaaaGreatTVKey
set_option linter.all false
set_option maxRecDepth 100000
noncomputable section
namespace Go.Proofs.YtdficaoajalfaaaGreat
open Go.V Go.RowKit Go.X
theorem b_u1 (F:Nat) (x:_):c_1 en (b_u5 F) 96 [] (.own 147 (.st 0)) [] x=(b_kd F).m x:=by kernel_rfl
theorem b_tu (F:Nat) (x:_):c_1 en (b_uf F) 44 [.d (.st 11)] (.d .bool) [] x=(a_8o F).m x:=by kernel_rfl
theorem a_7a (F:Nat) (x:_):c_1 en (a_vp F) 67 [.d (.list (.st 0))] (.d .bool) [] x=(q_7 F).m x:=by kernel_rfl
theorem b_gv (F:Nat) (x:_):c_1 en (a_0u F) 125 [.d (.list (.st 0))] (.own 3 (.int .i64)) [] x=(a_fw F).m x:=by kernel_rfl
theorem b_bm (F:Nat) (x:_):c_1 en (a_xq F) 166 [.d (.list (.st 0))] (.own 3 (.int .i64)) [] x=(a_kj F).m x:=by kernel_rfl
theorem b_ts (F:Nat) (x:_):c_1 en (b_tx F) 47 [.d (.st 11),.d (.int .u8)] (.d (.st 11)) [] x=(a_7n F).m x:=by kernel_rfl
theorem a_0x (F:Nat) (x:_):c_1 en (a_pq F) 22 [.d (.ptr (.st 8))] (.d (.int .i64)) [] x=(a_h6 F).m x:=by kernel_rfl
theorem a_18 (F:Nat) (x:_):c_1 en (a_q0 F) 107 [.d (.list (.st 0))] (.own 3 (.int .i64)) [] x=(a_af F).m x:=by kernel_rfl
theorem a_86 (F:Nat) (x:_):c_1 en (a_vr F) 62 [.d (.st 9)] (.tup [.own 3 (.int .i64),.d .bool]) [] x=(a_im F).m x:=by kernel_rfl
theorem a_5i (F:Nat) (x:_):c_1 en (a_s4 F) 61 [.d (.st 9)] (.tup [.own 3 (.int .i64),.d .bool]) [] x=(a_g5 F).m x:=by kernel_rfl
theorem a_2x (F:Nat) (x:_):c_1 en (a_qx F) 152 [.d (.int .i64),.d (.int .i64)] (.d (.int .i64)) [] x=(a_f1 F).m x:=by kernel_rfl
theorem a_5k (F:Nat) (x:_):c_1 en (a_td F) 78 [.d (.list (.st 0)),.d (.int .i64)] (.own 121 (.st 3)) [] x=(a_ly F).m x:=by kernel_rfl
theorem a_1b (F:Nat) (x:_):c_1 en (a_pn F) 18 [.d (.list (.st 1)),.d (.list (.st 1))] (.d .bool) [] x=(a_bq F).m x:=by kernel_rfl
theorem a_3d (F:Nat) (x:_):c_1 en (a_q2 F) 128 [.d (.list (.st 0)),.d (.int .i64)] (.own 121 (.st 3)) [] x=(a_jx F).m x:=by kernel_rfl
theorem a_29 (F:Nat) (x:_):c_1 en (a_qy F) 123 [.d (.list (.st 0)),.d (.int .i64)] (.own 3 (.int .i64)) [] x=(a_fm F).m x:=by kernel_rfl
theorem a_7s (F:Nat) (x:_):c_1 en (a_tw F) 112 [.d (.list (.st 0)),.d (.int .i64)] (.tup [.d (.st 3),.d .bool]) [] x=(a_ox F).m x:=by kernel_rfl
theorem a_83 (F:Nat) (x:_):c_1 en (a_uu F) 184 [.d (.list (.st 0)),.d (.int .i64),.d (.int .i64)] (.d (.int .i64)) [] x=(a_nk F).m x:=by kernel_rfl
theorem b_fn (F:Nat) (x:_):c_1 en (a_1c F) 21 [.d (.list (.st 0))] (.tup [.alt .nilp (.box 108 [.d (.st 8)]),.d (.int .i64)]) [] x=(a_jf F).m x:=by kernel_rfl
theorem a_8k (F:Nat) (x:_):c_1 en (a_vu F) 151 [.d (.list (.st 0)),.d (.st 3),.d (.st 3)] (.tup [.d (.int .i64),.d (.int .i64),.d (.int .i64)]) [] x=(a_no F).m x:=by kernel_rfl
theorem b_b1 (F:Nat) (x:_):c_1 en (a_xh F) 159 [.d (.list (.st 0)),.d (.int .i64)] (.tup [.alt .nilp (.box 239 [.d (.st 20)]),.d (.int .i64),.d .bool]) [] x=(a_ki F).m x:=by kernel_rfl
theorem b_ad (F n:Nat) (x:_):c_1 en (a_ul F n) 142 [.d (.list (.st 0)),.d (.list (.int .i64)),.d (.list .bool),.d (.int .i64),.d (.list (.int .i64))] (.own 121 (.st 3)) [] x=(a_fj F (n+1)).m x:=by kernel_rfl
theorem b_qe (F:Nat) (x:_):c_1 en (b_qd F) 41 [.box 78 [.box 108 [.d (.st 8)],.d (.list (.int .i64)),.d (.int .i64),.d .bool],.d (.int .u8)] (.tup []) [(0,.box 78 [.box 108 [.d (.st 8)],.d (.list (.int .i64)),.d (.int .i64),.d .bool])] x=(a_hl F).m x:=by kernel_rfl
theorem a_91 (F:Nat) (x:_):c_1 en (a_tu F) 88 [.d (.st 7)] (.d (.st 7)) [] x=(a_n9 F).m x:=by kernel_rfl
theorem b_ut (F:Nat) (x:_):c_1 en (b_us F) 42 [.d (.list (.st 0))] (.d (.st 11)) [] x=(b_fo F).m x:=by kernel_rfl
theorem b_e5 (F:Nat) (x:_):c_1 en (a_0q F) 134 [.d (.st 7),.d (.int .i64)] (.d .bool) [] x=(a_i6 F).m x:=by kernel_rfl
theorem b_gp (F:Nat) (x:_):c_1 en (a_04 F) 181 [.d (.list (.st 0))] (.own 3 (.int .i64)) [] x=(a_m0 F).m x:=by kernel_rfl
theorem a_60 (F:Nat) (x:_):c_1 en (a_vw F) 110 [.d (.st 7),.d (.int .i64)] (.d .bool) [] x=(a_n5 F).m x:=by kernel_rfl
theorem b_sf (F:Nat) (x:_):c_1 en (b_rc F) 40 [.d (.ptr (.st 10))] (.d .bool) [] x=(a_np F).m x:=by kernel_rfl
theorem b_ff (F:Nat) (x:_):c_1 en (a_1j F) 116 [.d (.arr 4 (.int .u64)),.d (.int .u8)] (.d .bool) [] x=(a_ru F).m x:=by kernel_rfl
theorem a_xb (F:Nat) (x:_):c_1 en (a_mf F) 46 [.d (.ptr (.st 8))] (.d (.int .i64)) [] x=(a_gd F).m x:=by kernel_rfl
theorem a_8r (F:Nat) (x:_):c_1 en (a_u2 F) 162 [.d (.int .i64),.d (.int .i64)] (.own 3 (.int .i64)) [] x=(a_ot F).m x:=by kernel_rfl
theorem a_5c (F:Nat) (x:_):c_1 en (a_ta F) 148 [.d (.int .i64),.d (.int .i64)] (.own 3 (.int .i64)) [] x=(a_l4 F).m x:=by kernel_rfl
theorem a_4z (F:Nat) (x:_):c_1 en (a_sx F) 129 [.d (.list (.st 0)),.d (.int .i64)] (.own 121 (.st 3)) [] x=(a_l5 F).m x:=by kernel_rfl
theorem a_5e (F:Nat) (x:_):c_1 en (a_s0 F) 189 [.d (.list (.st 0)),.d (.int .i64)] (.own 3 (.int .i64)) [] x=(a_hg F).m x:=by kernel_rfl
theorem b_bb (F:Nat) (x:_):c_1 en (a_x1 F) 179 [.d (.list (.int .i64)),.d (.list (.int .i64))] (.own 3 (.int .i64)) [] x=(a_k0 F).m x:=by kernel_rfl
theorem b_f5 (F:Nat) (x:_):c_1 en (a_05 F) 167 [.d (.list (.st 0)),.d (.list (.int .i64)),.d (.int .i64)] (.d (.int .i64)) [] x=(a_r4 F).m x:=by kernel_rfl
theorem a_5a (F:Nat) (x:_):c_1 en (a_te F) 192 [.d (.list (.int .i64)),.d (.list (.int .i64))] (.d (.list (.int .i64))) [] x=(a_hb F).m x:=by kernel_rfl
theorem a_w5 (F:Nat) (x:_):c_1 en (a_mh F) 30 [.box 108 [.d (.st 8)],.d (.int .i64)] (.tup []) [(0,.box 108 [.d (.st 8)])] x=(a_gj F).m x:=by kernel_rfl
theorem b_ux (F:Nat) (x:_):c_1 en (b_u4 F) 38 [.d (.list (.st 0))] (.tup [.alt .nilp (.box 78 [.box 108 [.d (.st 8)],.d (.list (.int .i64)),.d (.int .i64),.d .bool]),.d (.int .i64)]) [] x=(a_rq F).m x:=by kernel_rfl
theorem a_5l (F:Nat) (x:_):c_1 en (a_s1 F) 168 [.d (.st 0)] (.d .bool) [] x=(a_lv F).m x:=by kernel_rfl
theorem b_ea (F:Nat) (x:_):c_1 en (a_0l F) 156 [.d (.list (.st 0))] (.d (.int .i64)) [] x=(a_rp F).m x:=by kernel_rfl
theorem a_5r (F:Nat) (x:_):c_1 en (a_s3 F) 20 [.d (.list (.st 0))] (.d .bool) [] x=(j_0 F).m x:=by kernel_rfl
theorem a_45 (F:Nat) (x:_):c_1 en (a_sw F) 87 [.d (.st 9)] (.own 3 (.int .i64)) [] x=(a_hh F).m x:=by kernel_rfl
theorem a_9e (F:Nat) (x:_):c_1 en (a_ui F) 31 [.d (.st 9),.d (.int .i64)] (.d (.st 9)) [] x=(a_of F).m x:=by kernel_rfl
theorem b_am (F:Nat) (x:_):c_1 en (a_tq F) 169 [.d (.st 0),.d (.list (.st 0))] (.d .bool) [] x=(a_ob F).m x:=by kernel_rfl
theorem a_9m (F:Nat) (x:_):c_1 en (a_uk F) 121 [.d (.int .i64),.d (.int .i64)] (.d (.st 1)) [] x=(a_n3 F).m x:=by kernel_rfl
theorem b_bo (F:Nat) (x:_):c_1 en (a_xs F) 89 [.d (.arr 4 (.int .u64)),.d (.int .i64)] (.d .bool) [] x=(a_pz F).m x:=by kernel_rfl
theorem b_uo (F:Nat) (x:_):c_1 en (b_up F) 33 [.d (.list (.st 0)),.d (.list (.int .u8))] (.d .bool) [] x=(a_22 F).m x:=by kernel_rfl
theorem a_6i (F:Nat) (x:_):c_1 en (a_ur F) 120 [.d (.st 7),.d (.list (.int .i64))] (.d (.int .i64)) [] x=(a_n8 F).m x:=by kernel_rfl
theorem b_fk (F:Nat) (x:_):c_1 en (a_1g F) 93 [.d (.list (.st 0)),.d (.list (.int .i64))] (.own 188 (.st 4)) [] x=(a_ie F).m x:=by kernel_rfl
theorem a_uw (F:Nat) (x:_):c_1 en (a_le F) 131 [.d (.ptr (.st 8))] (.own 3 (.int .i64)) [] x=(a_bk F).m x:=by kernel_rfl
theorem a_5t (F:Nat) (x:_):c_1 en (a_s6 F) 146 [.d (.list (.st 0)),.d (.int .i64)] (.own 3 (.int .i64)) [] x=(a_l3 F).m x:=by kernel_rfl
theorem a_40 (F:Nat) (x:_):c_1 en (a_tc F) 157 [.d (.list (.list (.int .i64))),.d (.int .i64)] (.d .bool) [] x=(a_l0 F).m x:=by kernel_rfl
theorem a_wx (F:Nat) (x:_):c_1 en (a_l9 F) 81 [.d (.ptr (.st 8))] (.tup [.own 3 (.int .i64),.d .bool]) [] x=(a_cp F).m x:=by kernel_rfl
theorem a_u8 (F:Nat) (x:_):c_1 en (a_k9 F) 82 [.d (.ptr (.st 8))] (.tup [.own 3 (.int .i64),.d .bool]) [] x=(a_bi F).m x:=by kernel_rfl
theorem b_ft (F n:Nat) (x:_):c_1 en (a_0c F n) 180 [.d (.list (.st 0)),.d (.list .bool),.d (.int .i64)] (.own 3 (.int .i64)) [] x=(a_fl F (n+1)).m x:=by kernel_rfl
theorem b_a0 (F:Nat) (x:_):c_1 en (a_xr F) 74 [.d (.list (.st 0)),.d (.st 7),.d (.list (.int .i64)),.d (.list (.st 3))] (.d (.st 7)) [] x=(a_qd F).m x:=by kernel_rfl
theorem a_0i (F:Nat) (x:_):c_1 en (a_o5 F) 150 [.d (.st 7),.d (.int .i64),.d (.int .i64),.d (.st 3),.d (.st 3)] (.d (.int .i64)) [] x=(a_eh F).m x:=by kernel_rfl
theorem a_01 (F:Nat) (x:_):c_1 en (a_o9 F) 70 [.box 108 [.d (.st 8)],.d (.st 15),.d (.int .u8)] (.d (.list (.st 16))) [(0,.box 108 [.d (.st 8)])] x=(a_in F).m x:=by kernel_rfl
theorem a_r5 (F:Nat) (x:_):c_1 en (a_ip F) 191 [.d (.ptr (.st 20)),.d (.int .i64),.d (.int .i64),.d (.list (.int .i64)),.own 121 (.st 3)] (.own 121 (.st 3)) [] x=(a_du F).m x:=by kernel_rfl
theorem b_p8 (F:Nat) (x:_):c_1 en (b_l0 F) 39 [.box 78 [.box 108 [.d (.st 8)],.d (.list (.int .i64)),.d (.int .i64),.d .bool]] (.tup [.own 36 (.st 1),.d .bool]) [(0,.box 78 [.box 108 [.d (.st 8)],.d (.list (.int .i64)),.d (.int .i64),.d .bool])] x=(a_gm F).m x:=by kernel_rfl
