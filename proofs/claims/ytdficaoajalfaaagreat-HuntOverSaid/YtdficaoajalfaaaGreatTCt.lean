/- Each contract holds. Its conditions: none. -/
import Derived.Test.YtdficaoajalfaaaGreatTG22
import Derived.Test.YtdficaoajalfaaaGreatTG23
import Derived.Test.YtdficaoajalfaaaGreatTG24
import Derived.Test.YtdficaoajalfaaaGreatTX16
import Derived.Test.YtdficaoajalfaaaGreatTX17
import Derived.Test.YtdficaoajalfaaaGreatTG32
import Derived.Test.YtdficaoajalfaaaGreatTJn
import Derived.Test.YtdficaoajalfaaaGreatTG26
set_option linter.all false
set_option maxRecDepth 100000
namespace Go.Proofs.YtdficaoajalfaaaGreat
open Go.V Go.RowKit Go.X
theorem a_cb:∀ c∈([]:List (Sm en.D)),b_5 en c:=fun _ h=>absurd h List.not_mem_nil
theorem a_a3 {c:Sm en.D} {r:List (Sm en.D)} (h:b_5 en c) (hr:∀ c∈r,b_5 en c):∀ d∈c :: r,b_5 en d:=List.forall_mem_cons.2 ⟨h,hr⟩
theorem a_dl {C:Cx0 en} {c:Sm en.D} (hm:∀ x,c_1 en C c.f c.ins c.res c.back x=c.m x) (hs:∀ d∈C.sm,b_5 en d):b_5 en c:=a_4 a_6 (C:=C) (b_2 a_6 hs) fun x y h=>(hm x).trans h
theorem b_gq (F:Nat):b_5 en (a_r4 F):=a_dl (b_f5 F) a_cb
theorem a_4x (F:Nat):b_5 en (a_lv F):=a_dl (a_5l F) a_cb
theorem a_6o (F:Nat):b_5 en (a_ob F):=a_dl (b_am F) a_cb
theorem a_sm (F:Nat):b_5 en (a_fw F):=a_dl (b_gv F) (a_a3 (b_gq F) (a_a3 (a_4x F) (a_a3 (a_6o F) a_cb)))
theorem x_3 (F:Nat):b_5 en (q_7 F):=a_dl (a_7a F) (a_a3 (a_sm F) a_cb)
theorem a_fv (F:Nat):b_5 en (a_af F):=a_dl (a_18 F) (a_a3 (x_3 F) a_cb)
theorem a_s5 (F:Nat):b_5 en (a_hg F):=a_dl (a_5e F) (a_a3 (a_sm F) a_cb)
theorem b_fj (F:Nat):b_5 en (a_rp F):=a_dl (b_ea F) (a_a3 (a_s5 F) a_cb)
theorem b_bc (F:Nat):b_5 en (a_p7 F):=a_dl (b_az F) (a_a3 (x_3 F) (a_a3 (b_fj F) a_cb))
theorem a_z0 (F:Nat):b_5 en (a_m4 F):=a_dl (b_et F) (a_a3 (x_3 F) a_cb)
theorem a_xj (F:Nat):∀ n,b_5 en (a_ku F n)
 |0=>fun w S us pl x y h=>by cases h
 |n+1=>a_dl (b_ao F n) (a_a3 (a_xj F n) a_cb)
theorem a_ny (F:Nat):b_5 en (a_e5 F):=a_dl (a_6v F) (a_a3 (a_z0 F) (a_a3 (a_xj F F) a_cb))
theorem a_u0 (F:Nat):b_5 en (a_hv F):=a_dl (b_h9 F) (a_a3 (x_3 F) a_cb)
theorem a_x4 (F:Nat):b_5 en (a_ks F):=a_dl (b_b8 F) (a_a3 (a_u0 F) a_cb)
theorem a_5p (F:Nat):b_5 en (a_l1 F):=a_dl (a_41 F) (a_a3 (x_3 F) (a_a3 (a_fv F) a_cb))
theorem a_xe (F:Nat):b_5 en (a_kg F):=a_dl (b_bd F) (a_a3 (x_3 F) (a_a3 (a_z0 F) (a_a3 (a_x4 F) (a_a3 (a_u0 F) (a_a3 (a_5p F) a_cb)))))
theorem a_xu (F:Nat):b_5 en (a_ki F):=a_dl (b_b1 F) (a_a3 (a_fv F) (a_a3 (a_xe F) a_cb))
theorem a_s2 (F:Nat):b_5 en (a_hb F):=a_dl (a_5a F) a_cb
theorem a_ef (F:Nat):∀ n,b_5 en (u_7 F n)
 |0=>fun w S us pl x y h=>by cases h
 |n+1=>a_dl (a_ti F n) (a_a3 (a_ny F) (a_a3 (a_ef F n) (a_a3 (a_s2 F) a_cb)))
theorem a_rm (F:Nat):b_5 en (a_du F):=a_dl (a_r5 F) (a_a3 (a_ef F F) a_cb)
theorem a_ik (F:Nat):b_5 en (z_5 F):=a_dl (a_rg F) (a_a3 (a_ny F) (a_a3 (a_rm F) (a_a3 (a_s2 F) a_cb)))
theorem b_aj (F:Nat):b_5 en (a_ox F):=a_dl (a_7s F) (a_a3 (a_ny F) (a_a3 (a_xu F) (a_a3 (a_ik F) a_cb)))
theorem b_bu (F:Nat):b_5 en (a_p1 F):=a_dl (b_aw F) (a_a3 (a_s5 F) a_cb)
theorem a_3x (F:Nat):b_5 en (a_pv F):=a_dl (b_hk F) (a_a3 (x_3 F) (a_a3 (b_bu F) a_cb))
theorem a_vi (F:Nat):b_5 en (a_lh F):=a_4 a_6 (C:=a_lq F) (b_2 a_6 (fun _ h=>absurd h List.not_mem_nil)) fun (x:List a_2) y h=>(show c_1 en (a_lq F) 126 [.d (.list (.st 0))] (.own 147 (.st 0)) [] x=(if List.isEmpty (α:=a_2) x then same (some []) (if a_8 64 ([]:List a_2) x then some ([]++x) else none) else if a_8 64 ([]:List a_2) x then some ([]++x) else none) by kernel_rfl).trans (a_t1 h)
theorem a_2g (F:Nat):b_5 en (a_j4 F):=a_dl (a_21 F) (a_a3 (a_3x F) a_cb)
theorem a_vk (F:Nat):b_5 en (a_ib F):=a_dl (a_9s F) a_cb
theorem a_15 (F:Nat):b_5 en (a_jx F):=a_dl (a_3d F) (a_a3 (a_xe F) (a_a3 (a_vk F) (a_a3 (a_ef F F) a_cb)))
theorem a_wv (F:Nat):b_5 en (a_ml F):=b_nj (E:=en) (i:=3) (key:=fun x:a_1=>x.To) Go.Proofs.Tryz.srtL rfl Go.Proofs.Tryz.srtA Go.Proofs.Tryz.srtZ Go.Proofs.Tryz.srtE Go.Proofs.Tryz.srtC (fun H S cs x h=>by
 obtain ⟨c1,c2,rfl,h1,c3,c4,rfl,h2,c5,c6,rfl,⟨A,c,rfl,_⟩,rfl⟩:=(b_ex 3 _ _ _ _).1 h
 have h1:c1=[_]:=h1;have h2:c3=[_]:=h2
 subst h1;subst h2;exact ⟨_,_,rfl⟩) (by kernel_rfl)
theorem a_4y (F:Nat):b_5 en (a_l5 F):=a_dl (a_4z F) (a_a3 (a_xu F) (a_a3 (a_ik F) (a_a3 (a_vk F) (a_a3 (a_wv F) a_cb))))
theorem a_2b (F:Nat):b_5 en (a_ka F):=a_dl (a_2q F) (a_a3 (a_fv F) (a_a3 (b_bc F) (a_a3 (b_aj F) (a_a3 (a_3x F) (a_a3 (a_vi F) (a_a3 (a_2g F) (a_a3 (a_15 F) (a_a3 (a_4y F) a_cb))))))))
theorem a_sh (F:Nat):b_5 en (a_jf F):=a_dl (b_fn F) (a_a3 (x_3 F) (a_a3 (a_2b F) a_cb))
theorem a_vy (F:Nat):b_5 en (a_lm F):=a_4 a_6 (C:=a_k6 F) (b_2 a_6 (fun _ h=>absurd h List.not_mem_nil)) fun (x:List (List Int)) y h=>(show c_1 en (a_k6 F) 130 [.d (.list (.list (.int .i64)))] (.own 47 (.list (.int .i64))) [] x=(if List.isEmpty (α:=(List Int)) x then same (some []) (if a_8 24 ([]:List (List Int)) x then some ([]++x) else none) else if a_8 24 ([]:List (List Int)) x then some ([]++x) else none) by kernel_rfl).trans (a_t1 h)
theorem a_0n (F:Nat):b_5 en (a_pw F):=b_h1 fun w S hS A c v k hk hsl=>Wr.b_r0 2000 hS hsl (Wr.b_km hk (by omega))
theorem b_ak (F:Nat):b_5 en (a_ot F):=a_dl (a_8r F) (a_a3 (a_0n F) a_cb)
theorem a_ll (F:Nat):b_5 en (a_bk F):=a_dl (a_uw F) (a_a3 (b_ak F) a_cb)
theorem a_4o (F:Nat):b_5 en (a_l0 F):=a_dl (a_40 F) a_cb
theorem a_9i (F:Nat):b_5 en (a_n5 F):=a_dl (a_60 F) (a_a3 (a_4o F) a_cb)
theorem a_h8 (F:Nat):b_5 en (a_cr F):=a_dl (a_6q F) (a_a3 (a_9i F) a_cb)
theorem a_uo (F:Nat):b_5 en (a_jn F):=a_dl (a_9k F) a_cb
theorem b_au (F:Nat):b_5 en (a_qf F):=a_dl (b_bp F) (a_a3 (a_h8 F) (a_a3 (a_uo F) a_cb))
theorem a_t8 (F:Nat):b_5 en (a_fg F):=a_dl (a_ux F) (a_a3 (a_vy F) (a_a3 (a_ll F) (a_a3 (b_au F) a_cb)))
theorem b_gn (F:Nat):b_5 en (a_ru F):=a_dl (b_ff F) a_cb
theorem a_09 (F:Nat):b_5 en (a_in F):=a_dl (a_01 F) (a_a3 (b_gn F) a_cb)
theorem a_sd (F:Nat):b_5 en (a_i6 F):=a_dl (b_e5 F) a_cb
theorem a_mg (F:Nat):b_5 en (a_cn F):=a_dl (a_xa F) a_cb
theorem a_js (F:Nat):b_5 en (a_a1 F):=a_dl (a_tl F) (a_a3 (a_mg F) a_cb)
theorem b_a1 (F:Nat):b_5 en (a_qb F):=a_dl (b_ba F) (a_a3 (a_h8 F) (a_a3 (a_sd F) (a_a3 (a_js F) a_cb)))
theorem a_gc (F:Nat):b_5 en (t_7 F):=a_4 a_6 (C:=a_l8 F) (b_2 a_6 (fun _ h=>absurd h List.not_mem_nil)) fun (x:List Int) y h=>(show c_1 en (a_l8 F) 75 [.d (.list (.int .i64))] (.own 3 (.int .i64)) [] x=(if List.isEmpty (α:=Int) x then same (some []) (if a_8 8 ([]:List Int) x then some ([]++x) else none) else if a_8 8 ([]:List Int) x then some ([]++x) else none) by kernel_rfl).trans (a_t1 h)
theorem a_nz (F:Nat):b_5 en (a_fa F):=b_j3 F (a_gc F)
theorem a_92 (F:Nat):b_5 en (a_nq F):=b_ou F (a_u0 F) (a_sm F)
theorem a_ye (F:Nat):∀ n,b_5 en (a_kq F n)
 |0=>fun w S us pl x y h=>by cases h
 |n+1=>a_dl (b_a6 F n) (a_a3 (a_fv F) (a_a3 (a_ye F n) (a_a3 (a_92 F) (a_a3 (a_x4 F) a_cb))))
theorem b_bh (F:Nat):b_5 en (a_qd F):=a_dl (b_a0 F) (a_a3 (a_h8 F) (a_a3 (a_sd F) (a_a3 (a_js F) (a_a3 (a_uo F) (a_a3 (a_ye F F) (a_a3 (a_mg F) a_cb))))))
theorem a_ma (F:Nat):b_5 en (a_co F):=a_dl (a_w4 F) (a_a3 (a_t8 F) (a_a3 (a_09 F) (a_a3 (b_a1 F) (a_a3 (a_nz F) (a_a3 (b_bh F) a_cb)))))
theorem b_by (F:Nat):b_5 en (a_qa F):=a_dl (b_bw F) (a_a3 (a_h8 F) (a_a3 (a_sd F) a_cb))
theorem a_l6 (F:Nat):b_5 en (a_cp F):=a_dl (a_wx F) (a_a3 (a_nz F) (a_a3 (b_by F) a_cb))
theorem a_li (F:Nat):b_5 en (a_bi F):=a_dl (a_u8 F) (a_a3 (a_nz F) (a_a3 (a_ll F) a_cb))
theorem a_6p (F:Nat):b_5 en (a_n6 F):=a_dl (a_96 F) a_cb
theorem a_iw (F:Nat):b_5 en (a_bq F):=a_dl (a_1b F) a_cb
theorem a_95 (F:Nat):b_5 en (a_n0 F):=a_dl (a_9w F) a_cb
theorem a_u9 (F:Nat):b_5 en (a_id F):=a_dl (a_7w F) (a_a3 (a_95 F) a_cb)
theorem m_2 (F:Nat):b_5 en (j_0 F):=a_dl (a_5r F) (a_a3 (a_u9 F) a_cb)
theorem a_c0 (F:Nat):b_5 en (v_5 F):=a_dl (a_2f F) (a_a3 (m_2 F) a_cb)
theorem a_x0 (F:Nat):b_5 en (a_k0 F):=a_dl (b_bb F) a_cb
theorem a_mu (F:Nat):∀ n,b_5 en (a_fl F n)
 |0=>fun w S us pl x y h=>by cases h
 |n+1=>a_dl (b_ft F n) (a_a3 (a_mu F n) a_cb)
theorem a_ol (F:Nat):∀ n,b_5 en (a_fj F n)
 |0=>fun w S us pl x y h=>by cases h
 |n+1=>a_dl (b_ad F n) (a_a3 (a_ol F n) (a_a3 (a_x0 F) (a_a3 (a_mu F F) a_cb)))
theorem a_tb (F:Nat):b_5 en (a_hc F):=a_dl (a_5b F) (a_a3 (m_2 F) a_cb)
theorem a_qe (F:Nat):b_5 en (a_g0 F):=a_dl (b_a4 F) (a_a3 (m_2 F) a_cb)
theorem a_4q (F:Nat):b_5 en (a_ly F):=a_dl (a_5k F) (a_a3 (m_2 F) (a_a3 (a_ol F F) (a_a3 (a_tb F) (a_a3 (a_qe F) a_cb))))
theorem a_1n (F:Nat):b_5 en (a_m0 F):=a_dl (b_gp F) (a_a3 (m_2 F) a_cb)
theorem a_t0 (F:Nat):b_5 en (a_is F):=a_dl (a_6h F) (a_a3 (a_1n F) a_cb)
theorem a_5q (F:Nat):b_5 en (a_lt F):=a_dl (a_42 F) a_cb
theorem a_sq (F:Nat):b_5 en (a_hd F):=a_dl (a_4w F) (a_a3 (a_c0 F) (a_a3 (a_ol F F) (a_a3 (a_tb F) (a_a3 (a_qe F) (a_a3 (a_x0 F) (a_a3 (a_mu F F) (a_a3 (a_1n F) (a_a3 (a_t0 F) (a_a3 (a_5q F) a_cb)))))))))
theorem a_6y (F:Nat):b_5 en (a_od F):=a_dl (b_af F) (a_a3 (a_c0 F) (a_a3 (a_sq F) a_cb))
theorem a_4s (F:Nat):b_5 en (a_l3 F):=a_dl (a_5t F) (a_a3 (a_qe F) (a_a3 (a_mu F F) a_cb))
theorem a_yg (F:Nat):b_5 en (a_k2 F):=a_dl (b_ax F) (a_a3 (m_2 F) (a_a3 (a_c0 F) (a_a3 (a_sq F) (a_a3 (a_4s F) a_cb))))
theorem a_xi (F:Nat):b_5 en (a_kt F):=a_dl (b_ap F) (a_a3 (a_c0 F) (a_a3 (a_4q F) (a_a3 (a_6y F) (a_a3 (a_yg F) a_cb))))
theorem a_ym (F:Nat):b_5 en (a_kj F):=a_dl (b_bm F) (a_a3 (a_u9 F) a_cb)
theorem a_q9 (F:Nat):b_5 en (a_fm F):=a_dl (a_29 F) (a_a3 (a_ym F) a_cb)
theorem b_av (F:Nat):b_5 en (a_qc F):=a_dl (b_a2 F) (a_a3 (a_q9 F) a_cb)
theorem a_un (F:Nat):b_5 en (a_jd F):=a_dl (a_62 F) (a_a3 (m_2 F) (a_a3 (b_av F) a_cb))
theorem a_5o (F:Nat):b_5 en (a_l4 F):=a_dl (a_5c F) a_cb
theorem a_sr (F:Nat):b_5 en (a_hh F):=a_dl (a_45 F) (a_a3 (a_un F) (a_a3 (a_5o F) a_cb))
theorem a_hf (F:Nat):b_5 en (a_a6 F):=a_dl (a_5f F) a_cb
theorem a_v0 (F:Nat):b_5 en (a_iv F):=a_dl (a_77 F) a_cb
theorem a_6n (F:Nat):b_5 en (a_n9 F):=a_dl (a_91 F) (a_a3 (a_hf F) (a_a3 (a_v0 F) a_cb))
theorem b_bt (F:Nat):b_5 en (a_pz F):=a_dl (b_bo F) a_cb
theorem b_bk (F:Nat):b_5 en (a_px F):=a_dl (b_be F) a_cb
theorem a_q8 (F:Nat):b_5 en (a_f1 F):=a_dl (a_2x F) a_cb
theorem a_pt (F:Nat):b_5 en (a_eh F):=a_dl (a_0i F) (a_a3 (a_q8 F) a_cb)
theorem a_6k (F:Nat):b_5 en (a_nl F):=a_dl (a_89 F) (a_a3 (a_hf F) (a_a3 (a_pt F) a_cb))
theorem a_lx (F:Nat):b_5 en (a_d0 F):=a_dl (a_46 F) a_cb
theorem a_rx (F:Nat):b_5 en (a_ie F):=a_dl (b_fk F) (a_a3 (m_2 F) (a_a3 (a_q9 F) a_cb))
theorem a_7r (F:Nat):b_5 en (a_nk F):=a_dl (a_83 F) (a_a3 (a_ym F) a_cb)
theorem a_9g (F:Nat):b_5 en (a_no F):=a_dl (a_8k F) (a_a3 (a_c0 F) (a_a3 (a_t0 F) (a_a3 (a_7r F) a_cb)))
theorem a_93 (F:Nat):b_5 en (a_nm F):=a_dl (a_85 F) (a_a3 (a_hf F) (a_a3 (a_v0 F) (a_a3 (a_pt F) (a_a3 (a_9g F) (a_a3 (a_q8 F) a_cb)))))
theorem a_tn (F:Nat):b_5 en (a_i3 F):=a_dl (a_6e F) (a_a3 (a_sr F) (a_a3 (a_6n F) (a_a3 (b_bt F) (a_a3 (b_bk F) (a_a3 (a_6k F) (a_a3 (a_lx F) (a_a3 (a_rx F) (a_a3 (a_93 F) (a_a3 (a_un F) a_cb)))))))))
theorem a_tf (F:Nat):b_5 en (a_g5 F):=a_dl (a_5i F) (a_a3 (a_yg F) (a_a3 (a_sr F) (a_a3 (a_lx F) (a_a3 (a_rx F) a_cb))))
theorem a_72 (F:Nat):b_5 en (a_n8 F):=a_dl (a_6i F) (a_a3 (a_hf F) a_cb)
theorem a_up (F:Nat):b_5 en (a_im F):=a_dl (a_86 F) (a_a3 (a_lx F) (a_a3 (a_rx F) (a_a3 (a_72 F) a_cb)))
theorem a_8s (F:Nat):b_5 en (a_n3 F):=a_dl (a_9m F) a_cb
theorem a_5n (F:Nat):b_5 en (a_lr F):=a_dl (a_5h F) (a_a3 (a_8s F) a_cb)
theorem a_07 (F:Nat):b_5 en (a_h6 F):=a_dl (a_0x F) a_cb
theorem a_tg (F:Nat):b_5 en (a_ed F):=a_dl (a_tk F) (a_a3 (a_gc F) a_cb)
theorem a_w9 (F:Nat):b_5 en (a_gd F):=a_dl (a_xb F) a_cb
theorem a_3b (F:Nat):b_5 en (a_jw F):=a_dl (a_3g F) a_cb
theorem a_12 (F:Nat):b_5 en (a_kf F):=a_dl (a_1x F) a_cb
theorem a_wu (F:Nat):b_5 en (a_gj F):=a_dl (a_w5 F) (a_a3 (a_3b F) (a_a3 (a_12 F) a_cb))
theorem a_9a (F:Nat):b_5 en (a_of F):=a_dl (a_9e F) a_cb
theorem b_qb (F:Nat):b_5 en (a_22 F):=a_dl (b_uo F) a_cb
theorem a_7h (F:Nat):b_5 en (a_rq F):=a_dl (b_ux F) (a_a3 (a_sh F) (a_a3 (a_li F) a_cb))
theorem a_sp (F:Nat):b_5 en (a_gm F):=a_dl (b_p8 F) (a_a3 (a_6p F) a_cb)
theorem a_za (F:Nat):b_5 en (a_hl F):=a_dl (b_qe F) (a_a3 (a_07 F) (a_a3 (a_ma F) (a_a3 (a_wu F) (a_a3 (a_l6 F) a_cb))))
theorem b_th (F:Nat):b_5 en (a_3e F):=a_dl (b_tb F) (a_a3 (a_7h F) (a_a3 (a_sp F) (a_a3 (a_za F) a_cb)))
theorem b_u3 (F:Nat):b_5 en (b_kd F):=a_dl (b_u1 F) a_cb
theorem b_kz (F:Nat):b_5 en (a_zk F):=a_dl (b_tt F) (a_a3 (a_iw F) (a_a3 (b_th F) (a_a3 (a_7h F) (a_a3 (b_u3 F) a_cb))))
theorem b_uj (F:Nat):b_5 en (b_fo F):=a_dl (b_ut F) (a_a3 (a_xi F) (a_a3 (a_tf F) a_cb))
theorem b_tf (F:Nat):b_5 en (a_69 F):=a_dl (b_tg F) (a_a3 (a_5n F) a_cb)
theorem b_ub (F:Nat):b_5 en (a_7n F):=a_dl (b_ts F) (a_a3 (a_9a F) (a_a3 (a_tn F) (a_a3 (a_up F) a_cb)))
theorem b_ey (F:Nat):b_5 en (a_oc F):=a_dl (b_rb F) (a_a3 (a_tg F) a_cb)
theorem a_7o (F:Nat):b_5 en (a_np F):=a_dl (b_sf F) (a_a3 (a_07 F) (a_a3 (b_ey F) a_cb))
theorem b_qf (F:Nat):b_5 en (a_9d F):=a_dl (b_q3 F) (a_a3 (a_iw F) (a_a3 (m_2 F) (a_a3 (b_qb F) (a_a3 (b_kz F) (a_a3 (a_7h F) (a_a3 (a_sp F) (a_a3 (a_7o F) (a_a3 (a_za F) a_cb))))))))
theorem b_tm (F:Nat):b_5 en (a_8o F):=a_dl (b_tu F) a_cb
theorem b_p3 (F:Nat):b_5 en (a_7d F):=a_dl (b_p1 F) (a_a3 (a_iw F) (a_a3 (m_2 F) (a_a3 (a_07 F) (a_a3 (b_qb F) (a_a3 (b_kz F) (a_a3 (a_7h F) (a_a3 (a_sp F) (a_a3 (a_7o F) (a_a3 (a_za F) (a_a3 (b_uj F) (a_a3 (b_tf F) (a_a3 (b_tm F) (a_a3 (b_ey F) (a_a3 (a_w9 F) (a_a3 (b_ub F) a_cb)))))))))))))))
