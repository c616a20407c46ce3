/- What the functions compute is what the program does. Its conditions: none. -/
import Derived.Test.YtfhehbfifffipaaVShort
import Derived.Test.YtfhehbfifffipaaTy
import Derived.Test.YtfhehbfifffipaaSrt
import Derived.Test.YtfhehbfifffipaaWab
import Derived.Test.YtfhehbfifffipaaWac
set_option maxRecDepth 20000
set_option autoImplicit false
namespace Go.Proofs.Ytfhehbfifffipaa
open Go.V Go.RowKit
set_option linter.unusedVariables false
def post80 (w : World) (S : Off) (W0 : Off) (r : ((List MHop))) (v : Value) (w1 : World) : Prop := ∃ A_r0 : Option Addr, ∃ c_r0 : Nat, v = .slice A_r0 r.length c_r0 ∧ Ow tHop 27 (Wr W0 w) w1.heap (inL [.slice A_r0 r.length c_r0] S) (.slice A_r0 r.length c_r0) r
abbrev R80 (w : World) (S : Off) (W0 : Off) (r : ((List MHop))) : Ending → World → Prop := fun e w1 => ∃ v, e = .returned v ∧ BelW W0 w w1 ∧ post80 w S W0 r v w1
theorem ok80 (fuel : Nat) {w : World} {S : Off} (hS : ∀ b, S b → b < w.heap.size) {p0 : MFollowChart} {p1 : Int} {p2 : Int} {p3 : (List Int)} {p4 : (List MHop)} {M : Off} {b_p0 : Nat} {A_p0_0 : Option Addr} {c_p0_0 : Nat} {A_p0_1 : Option Addr} {c_p0_1 : Nat} {A_p0_2 : Option Addr} {c_p0_2 : Nat} {A_p0_3 : Option Addr} {c_p0_3 : Nat} {A_p0_4 : Option Addr} {c_p0_4 : Nat} (h_p0 : Bx w.heap S b_p0 111 [.slice A_p0_0 p0.l.length c_p0_0, .slice A_p0_1 p0.up.length c_p0_1, .slice A_p0_2 p0.deep.length c_p0_2, .slice A_p0_3 p0.index.length c_p0_3, .slice A_p0_4 p0.can.length c_p0_4]) (h_p0_0 : Sl tTerm w.heap S A_p0_0 c_p0_0 p0.l) (h_p0_1 : Sl (tInt .i64) w.heap S A_p0_1 c_p0_1 p0.up) (h_p0_2 : Sl (tInt .i64) w.heap S A_p0_2 c_p0_2 p0.deep) (h_p0_3 : Sl (tInt .i64) w.heap S A_p0_3 c_p0_3 p0.index) (h_p0_4 : Sl tBool w.heap S A_p0_4 c_p0_4 p0.can) {A_p3 : Option Addr} {c_p3 : Nat} (h_p3 : Sl (tInt .i64) w.heap S A_p3 c_p3 p3) {A_p4 : Option Addr} {c_p4 : Nat} (h_p4 : Ow tHop 27 (M) w.heap S (.slice A_p4 p4.length c_p4) p4) {r : ((List MHop))} (h : m_follow_chart_turns fuel p0 p1 p2 p3 p4 = some r) :
 Calls Try.prog 80 #[vP b_p0, vI p1, vI p2, vS A_p3 p3 c_p3, vS A_p4 p4 c_p4] w (R80 w S (obl [vS A_p4 p4 c_p4]) r) := by
 generalize hW0 : (obl [vS A_p4 p4 c_p4]) = W0
 replace h_p4 := h_p4.weak (M' := Wr W0 w) (fun k hk => .inl (by rw [← hW0]; exact obl_at 0 rfl hk))
 refine enterL (vs := [vP b_p0, vI p1, vI p2, vS A_p3 p3 c_p3, vS A_p4 p4 c_p4]) Try.func80 rfl rfl ?_
 intro a ha
 have cx := Cx.start (W0 := W0) hS
 refine with_nop (noP_body _ _) (fun hq => ?_)
 unfold m_follow_chart_turns at h
 refine sq fun K hK => ?_
 refine reg ?_
 refine sg ha 1 [(0, vP b_p0), (1, vI p1), (2, vI p2), (3, vS A_p3 p3 c_p3), (4, vS A_p4 p4 c_p4)] w fun a ha => ?_
 refine hK _ _ ?_
 clear hK
 refine sq fun K hK => ?_
 refine sq fun K hK => ?_
 refine reg ?_
 refine sg ha 3 [(0, vP b_p0), (1, vI p1), (4, vS A_p4 p4 c_p4), (13, vP b_p0), (14, vI p2), (15, vS A_p3 p3 c_p3)] w fun a ha => ?_
 obtain ⟨x1, hx1, h⟩ := obind h
 refine op_call ha (by kernel_rfl) (f := 53) (args := #[vP b_p0, vI p2, vS A_p3 p3 c_p3, .slice none 0 0]) (w' := w) (by kernel_rfl) (ok53 fuel fuel (M := Wr nob w) (p0 := p0) (p1 := p2) (p2 := p3) (p3 := ([] : List MHop)) cx.lt h_p0 h_p0_0 h_p0_1 h_p0_2 h_p0_3 h_p0_4 h_p3 Ow.nil hx1) ?_
 rintro v1 w1 ⟨hb1, hp1⟩ a ha
 obtain ⟨A1, c1, rfl, f1⟩ := hp1
 have hu1 : ∀ k, obl [.slice none 0 0] k → S k ∧ Wr W0 w k := (all_cons nil_all all_nil)
 have hu2 : ∀ k, obl [.slice none 0 0] k → S k ∧ Wr nob w k := (all_cons nil_all all_nil)
 have hv1 : ∀ k, obl [vS A1 x1 c1] k → k < w1.heap.size ∧ Wr (obl [.slice none 0 0]) w k := (all_cons (fun k hk => ⟨f1.lt k hk, (f1.own k hk).2⟩) all_nil)
 obtain ⟨cxn1, kp1, hs1, hn1⟩ := back cx hu1 hb1 hv1
 generalize inL [vS A1 x1 c1] S = S1 at cxn1 kp1 hs1 f1
 have d1 : Dis (vS A_p4 p4 c_p4) (vS A1 x1 c1) := Dis.growL (fun k hk => (obl_cons (fun e => by cases e) obl_nil)) h_p4.lt (fun k hk => (f1.own k hk).2)
 replace f1 := f1.weak (fun k hk => back_wr cx hu2 (f1.own k hk).2)
 replace h_p0 := h_p0.keep kp1
 replace h_p0_0 := h_p0_0.keep kp1
 replace h_p0_1 := h_p0_1.keep kp1
 replace h_p0_2 := h_p0_2.keep kp1
 replace h_p0_3 := h_p0_3.keep kp1
 replace h_p0_4 := h_p0_4.keep kp1
 replace h_p4 := h_p4.keep kp1 hs1 (fun b hb => hn1 b (h_p4.lt b hb) (obl_cons (fun e => by cases e) obl_nil))
 replace cx := cxn1
 refine sg ha 2 [(0, vP b_p0), (1, vI p1), (4, vS A_p4 p4 c_p4), (16, vS A1 x1 c1), (17, vI (x1.length : Int)), (18, vI 0)] w1 fun a ha => ?_
 refine hK _ _ ?_
 clear hK
 refine wp_block ?_
 obtain ⟨t1, ht1, h⟩ := obind h
 refine wp_mono (wp_iter (step := (m_follow_chart_turns_l1 fuel p0 p1 p4 x1)) (I := fun (s : List MHop × Int) a w2 => match s with | (x2, x3) => ∃ (S2 : Off), ∃ (A2 : Option Addr) (c2 : Nat), Cx w W0 S w2 S2 ∧ Bx w2.heap S2 b_p0 111 [vS A_p0_0 p0.l c_p0_0, vS A_p0_1 p0.up c_p0_1, vS A_p0_2 p0.deep c_p0_2, vS A_p0_3 p0.index c_p0_3, vS A_p0_4 p0.can c_p0_4] ∧ Sl tTerm w2.heap S2 A_p0_0 c_p0_0 p0.l ∧ Sl (tInt .i64) w2.heap S2 A_p0_1 c_p0_1 p0.up ∧ Sl (tInt .i64) w2.heap S2 A_p0_2 c_p0_2 p0.deep ∧ Sl (tInt .i64) w2.heap S2 A_p0_3 c_p0_3 p0.index ∧ Sl tBool w2.heap S2 A_p0_4 c_p0_4 p0.can ∧ Ow tHop 27 (Wr W0 w) w2.heap S2 (vS A2 x2 c2) x2 ∧ Ow tHop 27 (Wr nob w) w2.heap S2 (vS A1 x1 c1) x1 ∧ Dis (vS A2 x2 c2) (vS A1 x1 c1) ∧ Ag 40 [(0, vP b_p0), (1, vI p1), (4, vS A2 x2 c2), (16, vS A1 x1 c1), (17, vI (x1.length : Int)), (18, vI x3)] a) (D := fun (t : List MHop) e a w3 => match t with | y1 => e = .exit 0 ∧ ∃ (S3 : Off), ∃ (A3 : Option Addr) (c3 : Nat), Cx w W0 S w3 S3 ∧ Ow tHop 27 (Wr W0 w) w3.heap S3 (vS A3 y1 c3) y1 ∧ Ag 40 [(4, vS A3 y1 c3)] a) ?_ fuel _ t1 a _ ht1 ?_) ?_
 · clear h ht1
   rintro ⟨x2, x3⟩ ct a w2 ⟨S2, A2, c2, cx, h_p0, h_p0_0, h_p0_1, h_p0_2, h_p0_3, h_p0_4, f2, f1, d2, ha⟩ h
   refine with_nop (NoP.loop (fun t c a w h => by cases t <;> exact absurd h.1 (by simp))) (fun hq => ?_)
   unfold m_follow_chart_turns_l1 at h
   refine sq fun K hK => ?_
   refine reg ?_
   refine sg ha 1 [(0, vP b_p0), (1, vI p1), (4, vS A2 x2 c2), (16, vS A1 x1 c1), (17, vI (x1.length : Int)), (18, vI x3), (19, vB (decide (x3 < (x1.length : Int))))] w2 fun a ha => ?_
   refine hK _ _ ?_
   clear hK
   refine sq fun K hK => ?_
   refine cond_b ha rfl (fun hb => ?_) (fun hb => ?_)
   · replace h := itT hb h
     refine wp_skip ?_
     refine hK _ _ ?_
     clear hK
     refine sq fun K hK => ?_
     obtain ⟨q1, hj1, h⟩ := obind h
     refine wp_cutV (D := fun a w4 => ∃ x4 : List MHop, ∃ (S4 : Off), ∃ (A4 : Option Addr) (c4 : Nat), x4 = q1 ∧ Cx w W0 S w4 S4 ∧ Bx w4.heap S4 b_p0 111 [vS A_p0_0 p0.l c_p0_0, vS A_p0_1 p0.up c_p0_1, vS A_p0_2 p0.deep c_p0_2, vS A_p0_3 p0.index c_p0_3, vS A_p0_4 p0.can c_p0_4] ∧ Sl tTerm w4.heap S4 A_p0_0 c_p0_0 p0.l ∧ Sl (tInt .i64) w4.heap S4 A_p0_1 c_p0_1 p0.up ∧ Sl (tInt .i64) w4.heap S4 A_p0_2 c_p0_2 p0.deep ∧ Sl (tInt .i64) w4.heap S4 A_p0_3 c_p0_3 p0.index ∧ Sl tBool w4.heap S4 A_p0_4 c_p0_4 p0.can ∧ Ow tHop 27 (Wr W0 w) w4.heap S4 (vS A4 x4 c4) x4 ∧ Ow tHop 27 (Wr nob w) w4.heap S4 (vS A1 x1 c1) x1 ∧ Dis (vS A4 x4 c4) (vS A1 x1 c1) ∧ Ag 40 [(0, vP b_p0), (1, vI p1), (4, vS A4 x4 c4), (16, vS A1 x1 c1), (17, vI (x1.length : Int)), (18, vI x3)] a) ?_ ?_
     · clear h; have h := hj1
       refine wp_block ?_
       refine sq fun K hK => ?_
       refine reg ?_
       obtain ⟨hi1, h⟩ := ite_some h
       obtain ⟨b1, o1, cs1, rfl, hr1, hc1⟩ := f1.rdb.get hi1
       obtain ⟨A5, c5, rfl, f5⟩ := hr1
       refine ov (vE b1 o1 x3 3) ha (obx w2 rfl rfl rfl Try.underlying31 rfl hi1) fun a ha => ?_
       refine ov (.agg #[vI ((gt x1 x3).To), vI ((gt x1 x3).Turn), vS A5 ((gt x1 x3).Steps) c5]) ha (ob_loadn (cs := [vI ((gt x1 x3).To), vI ((gt x1 x3).Turn), vS A5 ((gt x1 x3).Steps) c5]) w2 rfl rfl Try.underlying27 rfl (by kernel_rfl) (fun j v hj => (cell_add2 _ _ _ _ _).trans (hc1 j v hj))) fun a ha => ?_
       refine op_new (V := fun b => vP b) (cs := [vI 0, vI 0, .slice none 0 0]) (T := 27) ha (by kernel_rfl) (by kernel_rfl) ?_
       intro w5 b2 hb2 hk1 he1 _ a ha
       have d4 : Dis (vS A2 x2 c2) (bv b2) := Dis.new f2.lt (bv_new he1)
       have d5 : Dis (vS (some ⟨b1, o1, none⟩) x1 c1) (bv b2) := Dis.new f1.lt (bv_new he1)
       obtain ⟨S5, cx, kp2, hs2, f6⟩ := box_own cx hb2 hk1 he1
       replace h_p0 := h_p0.keep kp2
       replace h_p0_0 := h_p0_0.keep kp2
       replace h_p0_1 := h_p0_1.keep kp2
       replace h_p0_2 := h_p0_2.keep kp2
       replace h_p0_3 := h_p0_3.keep kp2
       replace h_p0_4 := h_p0_4.keep kp2
       replace f2 := f2.extS hb2 kp2 hs2
       replace f1 := f1.extS hb2 kp2 hs2
       replace f5 := f5.keep kp2
       refine op_setAll (vs := [vI ((gt x1 x3).To), vI ((gt x1 x3).Turn), vS A5 ((gt x1 x3).Steps) c5]) (v := .agg #[vI ((gt x1 x3).To), vI ((gt x1 x3).Turn), vS A5 ((gt x1 x3).Steps) c5]) ha (by kernel_rfl) rfl rfl rfl rfl f6.1 (by kernel_rfl) (by kernel_rfl) ?_
       intro w6 on1 _ hk2 a ha
       replace cx := on1.cx cx f6.2.2
       have f7 : Mb (Wr W0 w) w6.heap S5 b2 27 [vI ((gt x1 x3).To), vI ((gt x1 x3).Turn), vS A5 ((gt x1 x3).Steps) c5] := ⟨hk2, f6.2⟩
       replace h_p0 := h_p0.keep (on1.keep f6.2.1)
       replace h_p0_0 := h_p0_0.keep (on1.keep f6.2.1)
       replace h_p0_1 := h_p0_1.keep (on1.keep f6.2.1)
       replace h_p0_2 := h_p0_2.keep (on1.keep f6.2.1)
       replace h_p0_3 := h_p0_3.keep (on1.keep f6.2.1)
       replace h_p0_4 := h_p0_4.keep (on1.keep f6.2.1)
       replace f2 := f2.only on1 f6.2.1 (Dis.ow_mb d4)
       replace f1 := f1.only on1 f6.2.1 (Dis.ow_mb d5)
       replace f5 := f5.keep (on1.keep f6.2.1)
       refine hK _ _ ?_
       clear hK
       refine sq fun K hK => ?_
       refine reg ?_
       refine sg ha 2 [(0, vP b_p0), (1, vI p1), (4, vS A2 x2 c2), (12, vP b2), (16, vS (some ⟨b1, o1, none⟩) x1 c1), (17, vI (x1.length : Int)), (18, vI x3), (22, vS A2 x2 c2), (23, .func (.func 99) #[] #[vP b2])] w6 fun a ha => ?_
       obtain ⟨x5, hx2, h⟩ := obind h
       refine op_call ha (by kernel_rfl) (f := 98) (args := #[vS A2 x2 c2, .func (.func 99) #[] #[vP b2]]) (w' := w6) (by kernel_rfl) (ok98099 fuel (p0 := x2) (p1 := (gt x1 x3)) (lt_minus (v := bv b2) (lt_minus (v := vS A2 x2 c2) cx.lt)) ((f2.asSl).minus (v := bv b2)) ((f7.minus d4.symm).asBx) ((f5.minus (v := vS A2 x2 c2)).minus (v := bv b2)) hx2) ?_
       rintro v2 w7 ⟨hb3, hp2⟩ a ha
       obtain rfl := hp2
       replace h_p0 := h_p0.keep (Keep.ext S5 hb3)
       replace h_p0_0 := h_p0_0.keep (Keep.ext S5 hb3)
       replace h_p0_1 := h_p0_1.keep (Keep.ext S5 hb3)
       replace h_p0_2 := h_p0_2.keep (Keep.ext S5 hb3)
       replace h_p0_3 := h_p0_3.keep (Keep.ext S5 hb3)
       replace h_p0_4 := h_p0_4.keep (Keep.ext S5 hb3)
       replace f2 := f2.ext hb3
       replace f7 := f7.ext hb3
       replace f5 := f5.keep (Keep.ext S5 hb3)
       replace f1 := f1.ext hb3
       replace cx := cx.ext hb3
       refine sg ha 1 [(0, vP b_p0), (1, vI p1), (4, vS A2 x2 c2), (12, vP b2), (16, vS (some ⟨b1, o1, none⟩) x1 c1), (17, vI (x1.length : Int)), (18, vI x3), (25, vB (!x5))] w7 fun a ha => ?_
       refine hK _ _ ?_
       clear hK
       refine cond_b ha rfl (fun hb => ?_) (fun hb => ?_)
       · replace h := itT hb h
         refine sq fun K hK => ?_
         refine reg ?_
         refine sg ha 3 [(0, vP b_p0), (1, vI p1), (4, vS A2 x2 c2), (12, vP b2), (16, vS (some ⟨b1, o1, none⟩) x1 c1), (17, vI (x1.length : Int)), (18, vI x3), (28, vF b_p0 2)] w7 fun a ha => ?_
         refine ov (.slice A_p0_2 p0.deep.length c_p0_2) ha (ob_load w7 rfl rfl Try.underlying25 rfl ((cell_add1 _ _ _ _).trans (by rw [Nat.zero_add]; exact h_p0.cell 2 _ rfl))) fun a ha => ?_
         refine sg ha 1 [(0, vP b_p0), (1, vI p1), (4, vS A2 x2 c2), (12, vP b2), (16, vS (some ⟨b1, o1, none⟩) x1 c1), (17, vI (x1.length : Int)), (18, vI x3), (29, vS A_p0_2 p0.deep c_p0_2), (30, vI p1)] w7 fun a ha => ?_
         obtain ⟨hi2, h⟩ := ite_some h
         obtain ⟨b3, o2, cs2, rfl, hr2, hc2⟩ := h_p0_2.rdb.get hi2
         obtain rfl := hr2
         refine ov (vE b3 o2 p1 1) ha (obx w7 rfl rfl rfl Try.underlying25 rfl hi2) fun a ha => ?_
         refine ov (vI (gt p0.deep p1)) ha (ob_load w7 rfl rfl Try.underlying3 rfl ((cell_add1 _ _ _ _).trans (hc2 0 _ rfl))) fun a ha => ?_
         refine sg ha 1 [(0, vP b_p0), (1, vI p1), (4, vS A2 x2 c2), (12, vP b2), (16, vS (some ⟨b1, o1, none⟩) x1 c1), (17, vI (x1.length : Int)), (18, vI x3), (32, vI (gt p0.deep p1)), (33, vF b2 1)] w7 fun a ha => ?_
         refine op_set1 (off := 1) (v := .int .i64 (gt p0.deep p1)) ha (by kernel_rfl) rfl rfl rfl f7.1 (by kernel_rfl) ((add1_eq _ _ _).trans (by rw [Nat.zero_add])) (by kernel_rfl) ?_
         intro w8 on2 hk3 a ha
         replace cx := on2.cx cx f7.2.2
         have f8 : Mb (Wr W0 w) w8.heap S5 b2 27 [vI ((gt x1 x3).To), vI (gt p0.deep p1), vS A5 ((gt x1 x3).Steps) c5] := ⟨hk3, f7.2⟩
         replace h_p0 := h_p0.keep (on2.keep f7.2.1)
         replace h_p0_0 := h_p0_0.keep (on2.keep f7.2.1)
         replace h_p0_1 := h_p0_1.keep (on2.keep f7.2.1)
         replace h_p0_2 := h_p0_2.keep (on2.keep f7.2.1)
         replace h_p0_3 := h_p0_3.keep (on2.keep f7.2.1)
         replace h_p0_4 := h_p0_4.keep (on2.keep f7.2.1)
         replace f2 := f2.only on2 f7.2.1 (Dis.ow_mb d4)
         replace f5 := f5.keep (on2.keep f7.2.1)
         replace f1 := f1.only on2 f7.2.1 (Dis.ow_mb d5)
         refine hK _ _ ?_
         clear hK
         refine reg ?_
         refine sg ha 1 [(0, vP b_p0), (1, vI p1), (12, vP b2), (16, vS (some ⟨b1, o1, none⟩) x1 c1), (17, vI (x1.length : Int)), (18, vI x3), (34, vS A2 x2 c2)] w8 fun a ha => ?_
         refine ov (.agg #[.int .i64 ((gt x1 x3).To), .int .i64 (gt p0.deep p1), .slice A5 ((gt x1 x3).Steps).length c5]) ha (ob_loadn (cs := [.int .i64 ((gt x1 x3).To), .int .i64 (gt p0.deep p1), .slice A5 ((gt x1 x3).Steps).length c5]) w8 rfl rfl Try.underlying27 rfl (by kernel_rfl) (fun j v hj => (cell_add1 _ _ _ _).trans (by rw [Nat.zero_add]; exact f8.cell j v hj))) fun a ha => ?_
         refine op_new (V := fun b => .slice (some ⟨b, 0, none⟩) 1 1) (cs := [vI ((gt x1 x3).To), vI (gt p0.deep p1), vS A5 ((gt x1 x3).Steps) c5]) (T := 27) ha (by kernel_rfl) (by kernel_rfl) ?_
         intro w9 b4 hb4 hk4 he2 _ a ha
         have f9 := lit_ow (T := tHop) (xs := [(⟨(gt x1 x3).To, (gt p0.deep p1), (gt x1 x3).Steps⟩ : MHop)]) (m := 1) cx hb4 hk4 he2 rfl (by kernel_rfl) (Els.one (T := tHop) (x := (⟨(gt x1 x3).To, (gt p0.deep p1), (gt x1 x3).Steps⟩ : MHop)) ⟨_, _, rfl, f5⟩)
         replace f9 := own_out cx f9
         replace h_p0 := h_p0.keep (Keep.ext S5 hb4)
         replace h_p0_0 := h_p0_0.keep (Keep.ext S5 hb4)
         replace h_p0_1 := h_p0_1.keep (Keep.ext S5 hb4)
         replace h_p0_2 := h_p0_2.keep (Keep.ext S5 hb4)
         replace h_p0_3 := h_p0_3.keep (Keep.ext S5 hb4)
         replace h_p0_4 := h_p0_4.keep (Keep.ext S5 hb4)
         replace f1 := f1.ext hb4
         replace f2 := f2.ext hb4
         replace cx := cx.ext hb4
         obtain ⟨hp3, h⟩ := ite_some h
         refine op_append (T := tHop) (xs := x2) (ys := [(⟨(gt x1 x3).To, (gt p0.deep p1), (gt x1 x3).Steps⟩ : MHop)]) (z := .agg #[vI 0, vI 0, .slice none 0 0]) (bytes := 40) ha cx (by kernel_rfl) rfl rfl rfl Try.underlying31 (by kernel_rfl) (by kernel_rfl) wr_id f2 f9.rdb hp3 ?_
         intro w10 S6 A6 c6 cx kp3 hs3 hn2 hat1 f10 a ha
         replace h_p0 := h_p0.keep kp3
         replace h_p0_0 := h_p0_0.keep kp3
         replace h_p0_1 := h_p0_1.keep kp3
         replace h_p0_2 := h_p0_2.keep kp3
         replace h_p0_3 := h_p0_3.keep kp3
         replace h_p0_4 := h_p0_4.keep kp3
         have d6 : Dis (vS (some ⟨b1, o1, none⟩) x1 c1) (vS A6 (x2 ++ [(⟨(gt x1 x3).To, (gt p0.deep p1), (gt x1 x3).Steps⟩ : MHop)]) c6) := Dis.grow d2.symm f1.lt hat1
         replace f1 := f1.keep kp3 hs3 (fun b hb => hn2 b (f1.lt b hb) (d2.symm b hb))
         refine sg ha 1 [(0, vP b_p0), (1, vI p1), (4, vS A6 (x2 ++ [(⟨(gt x1 x3).To, (gt p0.deep p1), (gt x1 x3).Steps⟩ : MHop)]) c6), (16, vS (some ⟨b1, o1, none⟩) x1 c1), (17, vI (x1.length : Int)), (18, vI x3)] w10 fun a ha => ?_
         obtain rfl := Option.some.inj h
         exact ⟨_, _, A6, c6, rfl, cx, h_p0, h_p0_0, h_p0_1, h_p0_2, h_p0_3, h_p0_4, f10, f1, d6.symm, ha.to (by kernel_rfl)⟩
       · replace h := itF hb h
         refine wp_skip ?_
         obtain rfl := Option.some.inj h
         exact ⟨_, _, A2, c2, rfl, cx, h_p0, h_p0_0, h_p0_1, h_p0_2, h_p0_3, h_p0_4, f2, f1, d2, ha.to (by kernel_rfl)⟩
     rintro a w4 ⟨x4, S4, A4, c4, rfl, cx, h_p0, h_p0_0, h_p0_1, h_p0_2, h_p0_3, h_p0_4, f4, f1, d3, ha⟩
     refine hK _ _ ?_
     clear hK
     refine reg ?_
     refine sg ha 2 [(0, vP b_p0), (1, vI p1), (4, vS A4 x4 c4), (16, vS A1 x1 c1), (17, vI (x1.length : Int)), (18, vI (W (x3 + 1)))] w4 fun a ha => ?_
     obtain rfl := Option.some.inj h
     exact ⟨_, rfl, S4, A4, c4, cx, h_p0, h_p0_0, h_p0_1, h_p0_2, h_p0_3, h_p0_4, f4, f1, d3, ha.to (by kernel_rfl)⟩
   · replace h := itF hb h
     refine wp_exit ?_
     obtain rfl := Option.some.inj h
     exact ⟨_, rfl, rfl, S2, A2, c2, cx, f2, ha.to (by kernel_rfl)⟩
 · exact ⟨S1, A_p4, c_p4, cx, h_p0, h_p0_0, h_p0_1, h_p0_2, h_p0_3, h_p0_4, h_p4, f1, d1, ha.to (by kernel_rfl)⟩
 intro e a w3 hd
 generalize t1 = y1 at *
 obtain ⟨rfl, S3, A3, c3, cx, f3, ha⟩ := hd
 refine hK _ _ ?_
 clear hK
 refine sq fun K hK => ?_
 refine reg ?_
 refine sg ha 2 [(10, vS A3 y1 c3)] w3 fun a ha => ?_
 refine hK _ _ ?_
 clear hK
 refine wp_ret ?_
 obtain rfl := Option.some.inj h
 have hin : ∀ k, inL [vS A3 y1 c3] S k → S3 k := inL_sub cx.sub (all_cons (fun k hk => (f3.own k hk).1) all_nil)
 show bodyPost Try.prog Try.f80 (R80 w S W0 _) .ret a w3
 exact ret_1 (r1 := .tmp 10) (v1 := vS A3 y1 c3) ha rfl (.inl rfl) rfl ⟨_, rfl, cx.bel, ⟨_, _, rfl, f3.out hin (fun k hk => obl_at 0 rfl hk)⟩⟩
def post48 (w : World) (S : Off) (W0 : Off) (r : ((List MHop) × (List Int))) (v : Value) (w1 : World) : Prop := ∃ A_r0 : Option Addr, ∃ c_r0 : Nat, ∃ A_r1 : Option Addr, ∃ c_r1 : Nat, v = .tuple #[.slice A_r0 r.1.length c_r0, .slice A_r1 r.2.length c_r1] ∧ Ow tHop 27 (Wr W0 w) w1.heap (inL [.slice A_r0 r.1.length c_r0] S) (.slice A_r0 r.1.length c_r0) r.1 ∧ Sl (tInt .i64) w1.heap (inL [.slice A_r0 r.1.length c_r0] S) A_r1 c_r1 r.2
abbrev R48 (w : World) (S : Off) (W0 : Off) (r : ((List MHop) × (List Int))) : Ending → World → Prop := fun e w1 => ∃ v, e = .returned v ∧ BelW W0 w w1 ∧ post48 w S W0 r v w1
theorem ok48 (fuel : Nat) {w : World} {S : Off} (hS : ∀ b, S b → b < w.heap.size) {p0 : MFollowChart} {p1 : Int} {b_p0 : Nat} {A_p0_0 : Option Addr} {c_p0_0 : Nat} {A_p0_1 : Option Addr} {c_p0_1 : Nat} {A_p0_2 : Option Addr} {c_p0_2 : Nat} {A_p0_3 : Option Addr} {c_p0_3 : Nat} {A_p0_4 : Option Addr} {c_p0_4 : Nat} (h_p0 : Bx w.heap S b_p0 111 [.slice A_p0_0 p0.l.length c_p0_0, .slice A_p0_1 p0.up.length c_p0_1, .slice A_p0_2 p0.deep.length c_p0_2, .slice A_p0_3 p0.index.length c_p0_3, .slice A_p0_4 p0.can.length c_p0_4]) (h_p0_0 : Sl tTerm w.heap S A_p0_0 c_p0_0 p0.l) (h_p0_1 : Sl (tInt .i64) w.heap S A_p0_1 c_p0_1 p0.up) (h_p0_2 : Sl (tInt .i64) w.heap S A_p0_2 c_p0_2 p0.deep) (h_p0_3 : Sl (tInt .i64) w.heap S A_p0_3 c_p0_3 p0.index) (h_p0_4 : Sl tBool w.heap S A_p0_4 c_p0_4 p0.can) {r : ((List MHop) × (List Int))} (h : m_follow_chart_climb fuel p0 p1 = some r) :
 Calls Try.prog 48 #[vP b_p0, vI p1] w (R48 w S (obl []) r) := by
 generalize hW0 : (obl []) = W0
 refine enterL (vs := [vP b_p0, vI p1]) Try.func48 rfl rfl ?_
 intro a ha
 have cx := Cx.start (W0 := W0) hS
 refine with_nop (noP_body _ _) (fun hq => ?_)
 unfold m_follow_chart_climb at h
 refine sq fun K hK => ?_
 refine reg ?_
 refine sg ha 2 [(0, vP b_p0), (1, vI p1)] w fun a ha => ?_
 refine hK _ _ ?_
 clear hK
 refine sq fun K hK => ?_
 refine reg ?_
 refine sg ha 3 [(0, vP b_p0), (1, vI p1), (12, vI (W ((W (2 * p1)) + 1)))] w fun a ha => ?_
 refine op_new (V := fun b => .slice (some ⟨b, 0, none⟩) 1 1) (cs := [vI (W ((W (2 * p1)) + 1))]) (T := 3) ha (by kernel_rfl) (by kernel_rfl) ?_
 intro w1 b1 hb1 hk1 he1 _ a ha
 have f1 := lit_ow (T := (tInt .i64)) (xs := [(W ((W (2 * p1)) + 1))]) (m := 1) cx hb1 hk1 he1 rfl (by kernel_rfl) (Els.one (T := (tInt .i64)) (x := (W ((W (2 * p1)) + 1))) rfl)
 replace f1 := own_out cx f1
 replace h_p0 := h_p0.keep (Keep.ext S hb1)
 replace h_p0_0 := h_p0_0.keep (Keep.ext S hb1)
 replace h_p0_1 := h_p0_1.keep (Keep.ext S hb1)
 replace h_p0_2 := h_p0_2.keep (Keep.ext S hb1)
 replace h_p0_3 := h_p0_3.keep (Keep.ext S hb1)
 replace h_p0_4 := h_p0_4.keep (Keep.ext S hb1)
 replace cx := cx.ext hb1
 refine sg ha 1 [(0, vP b_p0), (1, vI p1), (6, .slice (some ⟨b1, 0, none⟩) 1 1)] w1 fun a ha => ?_
 refine hK _ _ ?_
 clear hK
 refine sq fun K hK => ?_
 refine reg ?_
 refine sg ha 1 [(0, vP b_p0), (1, vI p1), (6, .slice (some ⟨b1, 0, none⟩) 1 1), (7, .slice none 0 0)] w1 fun a ha => ?_
 refine hK _ _ ?_
 clear hK
 refine sq fun K hK => ?_
 refine sq fun K hK => ?_
 refine reg ?_
 refine sg ha 3 [(0, vP b_p0), (1, vI p1), (6, .slice (some ⟨b1, 0, none⟩) 1 1), (7, .slice none 0 0), (16, vF b_p0 1)] w1 fun a ha => ?_
 refine ov (.slice A_p0_1 p0.up.length c_p0_1) ha (ob_load w1 rfl rfl Try.underlying25 rfl ((cell_add1 _ _ _ _).trans (by rw [Nat.zero_add]; exact h_p0.cell 1 _ rfl))) fun a ha => ?_
 refine sg ha 1 [(0, vP b_p0), (1, vI p1), (6, .slice (some ⟨b1, 0, none⟩) 1 1), (7, .slice none 0 0), (17, vS A_p0_1 p0.up c_p0_1), (18, vI p1)] w1 fun a ha => ?_
 obtain ⟨hi1, h⟩ := ite_some h
 obtain ⟨b2, o1, cs1, rfl, hr1, hc1⟩ := h_p0_1.rdb.get hi1
 obtain rfl := hr1
 refine ov (vE b2 o1 p1 1) ha (obx w1 rfl rfl rfl Try.underlying25 rfl hi1) fun a ha => ?_
 refine ov (vI (gt p0.up p1)) ha (ob_load w1 rfl rfl Try.underlying3 rfl ((cell_add1 _ _ _ _).trans (hc1 0 _ rfl))) fun a ha => ?_
 refine sg ha 1 [(0, vP b_p0), (1, vI p1), (6, .slice (some ⟨b1, 0, none⟩) 1 1), (7, .slice none 0 0), (8, vI (gt p0.up p1))] w1 fun a ha => ?_
 refine hK _ _ ?_
 clear hK
 refine wp_block ?_
 obtain ⟨t1, ht1, h⟩ := obind h
 refine wp_mono (wp_iter (step := (m_follow_chart_climb_l1 fuel p0 p1)) (I := fun (s : Int × List Int × List MHop × Int) a w2 => match s with | (x1, x2, x3, x4) => ∃ (S1 : Off), ∃ (A1 : Option Addr) (c1 : Nat), ∃ (A2 : Option Addr) (c2 : Nat), Cx w W0 S w2 S1 ∧ Bx w2.heap S1 b_p0 111 [vS A_p0_0 p0.l c_p0_0, vS (some ⟨b2, o1, none⟩) p0.up c_p0_1, vS A_p0_2 p0.deep c_p0_2, vS A_p0_3 p0.index c_p0_3, vS A_p0_4 p0.can c_p0_4] ∧ Sl tTerm w2.heap S1 A_p0_0 c_p0_0 p0.l ∧ Sl (tInt .i64) w2.heap S1 (some ⟨b2, o1, none⟩) c_p0_1 p0.up ∧ Sl (tInt .i64) w2.heap S1 A_p0_2 c_p0_2 p0.deep ∧ Sl (tInt .i64) w2.heap S1 A_p0_3 c_p0_3 p0.index ∧ Sl tBool w2.heap S1 A_p0_4 c_p0_4 p0.can ∧ Sl (tInt .i64) w2.heap S1 A1 c1 x2 ∧ Ow tHop 27 (Wr nob w) w2.heap S1 (vS A2 x3 c2) x3 ∧ Ag 93 [(0, vP b_p0), (1, vI x1), (6, vS A1 x2 c1), (7, vS A2 x3 c2), (8, vI x4)] a) (D := fun (t : (List Int × List MHop) ⊕ ((List MHop) × (List Int))) e a w3 => match t with | .inl (y1, y2) => e = .exit 0 ∧ ∃ (S2 : Off), ∃ (A3 : Option Addr) (c3 : Nat), ∃ (A4 : Option Addr) (c4 : Nat), Cx w W0 S w3 S2 ∧ Sl (tInt .i64) w3.heap S2 A3 c3 y1 ∧ Ow tHop 27 (Wr nob w) w3.heap S2 (vS A4 y2 c4) y2 ∧ Ag 93 [(6, vS A3 y1 c3), (7, vS A4 y2 c4)] a | .inr r => e = .ret ∧ bodyPost Try.prog Try.f48 (R48 w S W0 r) .ret a w3) ?_ fuel _ t1 a _ ht1 ?_) ?_
 · clear h ht1
   rintro ⟨x1, x2, x3, x4⟩ ct a w2 ⟨S1, A1, c1, A2, c2, cx, h_p0, h_p0_0, h_p0_1, h_p0_2, h_p0_3, h_p0_4, f2, f3, ha⟩ h
   refine with_nop (NoP.loop (fun t c a w h => by cases t <;> exact absurd h.1 (by simp))) (fun hq => ?_)
   unfold m_follow_chart_climb_l1 at h
   refine sq fun K hK => ?_
   refine sq fun K hK => ?_
   refine reg ?_
   refine sg ha 2 [(0, vP b_p0), (1, vI x1), (6, vS A1 x2 c1), (7, vS A2 x3 c2), (8, vI x4), (22, vB (decide (x4 ≥ 0)))] w2 fun a ha => ?_
   refine hK _ _ ?_
   clear hK
   refine cond_b ha rfl (fun hb => ?_) (fun hb => ?_)
   · replace h := itT hb h
     refine wp_skip ?_
     refine hK _ _ ?_
     clear hK
     refine sq fun K hK => ?_
     refine wp_block ?_
     refine sq fun K hK => ?_
     refine reg ?_
     refine sg ha 3 [(0, vP b_p0), (1, vI x1), (6, vS A1 x2 c1), (7, vS A2 x3 c2), (8, vI x4), (33, vF b_p0 0)] w2 fun a ha => ?_
     refine ov (.slice A_p0_0 p0.l.length c_p0_0) ha (ob_load w2 rfl rfl Try.underlying22 rfl ((cell_add1 _ _ _ _).trans (by rw [Nat.zero_add]; exact h_p0.cell 0 _ rfl))) fun a ha => ?_
     refine sg ha 1 [(0, vP b_p0), (1, vI x1), (6, vS A1 x2 c1), (7, vS A2 x3 c2), (8, vI x4), (34, vS A_p0_0 p0.l c_p0_0), (35, vI x4)] w2 fun a ha => ?_
     obtain ⟨hi2, h⟩ := ite_some h
     obtain ⟨b3, o2, cs2, rfl, hr2, hc2⟩ := h_p0_0.rdb.get hi2
     obtain ⟨rfl, hl1⟩ := hr2
     refine ov (vE b3 o2 x4 8) ha (obx w2 rfl rfl rfl Try.underlying22 rfl hi2) fun a ha => ?_
     refine ov (.agg #[vI ((gt p0.l x4).Kind), vI ((gt p0.l x4).A), vI ((gt p0.l x4).B), vI ((gt p0.l x4).N), .int .u64 (gt ((gt p0.l x4).Set) 0), .int .u64 (gt ((gt p0.l x4).Set) 1), .int .u64 (gt ((gt p0.l x4).Set) 2), .int .u64 (gt ((gt p0.l x4).Set) 3)]) ha (ob_loadn (cs := [vI ((gt p0.l x4).Kind), vI ((gt p0.l x4).A), vI ((gt p0.l x4).B), vI ((gt p0.l x4).N), .int .u64 (gt ((gt p0.l x4).Set) 0), .int .u64 (gt ((gt p0.l x4).Set) 1), .int .u64 (gt ((gt p0.l x4).Set) 2), .int .u64 (gt ((gt p0.l x4).Set) 3)]) w2 rfl rfl Try.underlying42 rfl (by kernel_rfl) (fun j v hj => (cell_add2 _ _ _ _ _).trans (hc2 j v hj))) fun a ha => ?_
     refine op_var (d := 9) (z := [vI 0, vI 0, vI 0, vI 0, .int .u64 0, .int .u64 0, .int .u64 0, .int .u64 0]) (vs := [vI ((gt p0.l x4).Kind), vI ((gt p0.l x4).A), vI ((gt p0.l x4).B), vI ((gt p0.l x4).N), .int .u64 (gt ((gt p0.l x4).Set) 0), .int .u64 (gt ((gt p0.l x4).Set) 1), .int .u64 (gt ((gt p0.l x4).Set) 2), .int .u64 (gt ((gt p0.l x4).Set) 3)]) (v := .agg #[vI ((gt p0.l x4).Kind), vI ((gt p0.l x4).A), vI ((gt p0.l x4).B), vI ((gt p0.l x4).N), .int .u64 (gt ((gt p0.l x4).Set) 0), .int .u64 (gt ((gt p0.l x4).Set) 1), .int .u64 (gt ((gt p0.l x4).Set) 2), .int .u64 (gt ((gt p0.l x4).Set) 3)]) ha cx (by kernel_rfl) rfl (by kernel_rfl) (fun _ => by kernel_rfl) rfl rfl (fun _ => by kernel_rfl) (by kernel_rfl) (by kernel_rfl) (by kernel_rfl) ?_
     intro w4 b4 cx hb2 f6 a ha
     replace h_p0 := h_p0.keep (Keep.ext S1 hb2)
     replace h_p0_0 := h_p0_0.keep (Keep.ext S1 hb2)
     replace h_p0_1 := h_p0_1.keep (Keep.ext S1 hb2)
     replace h_p0_2 := h_p0_2.keep (Keep.ext S1 hb2)
     replace h_p0_3 := h_p0_3.keep (Keep.ext S1 hb2)
     replace h_p0_4 := h_p0_4.keep (Keep.ext S1 hb2)
     replace f2 := f2.keep (Keep.ext S1 hb2)
     replace f3 := f3.ext hb2
     refine hK _ _ ?_
     clear hK
     refine sq fun K hK => ?_
     obtain ⟨q1, hj1, h⟩ := obind h
     refine wp_cutV (D := fun a w5 => ∃ x5 : List Int, ∃ x6 : List MHop, ∃ (S3 : Off), ∃ (A5 : Option Addr) (c5 : Nat), ∃ (A6 : Option Addr) (c6 : Nat), .inl (x5, x6) = q1 ∧ Cx w W0 S w5 S3 ∧ Bx w5.heap S3 b_p0 111 [vS (some ⟨b3, o2, none⟩) p0.l c_p0_0, vS (some ⟨b2, o1, none⟩) p0.up c_p0_1, vS A_p0_2 p0.deep c_p0_2, vS A_p0_3 p0.index c_p0_3, vS A_p0_4 p0.can c_p0_4] ∧ Sl tTerm w5.heap S3 (some ⟨b3, o2, none⟩) c_p0_0 p0.l ∧ Sl (tInt .i64) w5.heap S3 (some ⟨b2, o1, none⟩) c_p0_1 p0.up ∧ Sl (tInt .i64) w5.heap S3 A_p0_2 c_p0_2 p0.deep ∧ Sl (tInt .i64) w5.heap S3 A_p0_3 c_p0_3 p0.index ∧ Sl tBool w5.heap S3 A_p0_4 c_p0_4 p0.can ∧ Sl (tInt .i64) w5.heap S3 A5 c5 x5 ∧ Ow tHop 27 (Wr nob w) w5.heap S3 (vS A6 x6 c6) x6 ∧ Ag 93 [(0, vP b_p0), (6, vS A5 x5 c5), (7, vS A6 x6 c6), (8, vI x4)] a) ?_ ?_
     · have hq1 := h; clear h; have h := hj1
       refine wp_block ?_
       refine sq fun K hK => ?_
       obtain ⟨q2, hj2, h⟩ := obind h
       refine wp_cutV (D := fun a w_ => ∃ x7 : Bool, x7 = q2 ∧ w4 = w_ ∧ Ag 93 [(0, vP b_p0), (6, vS A1 x2 c1), (7, vS A2 x3 c2), (8, vI x4), (9, vP b4), (38, vB x7)] a) ?_ ?_
       · clear h; have h := hj2
         refine reg ?_
         refine sg ha 1 [(0, vP b_p0), (1, vI x1), (6, vS A1 x2 c1), (7, vS A2 x3 c2), (8, vI x4), (9, vP b4), (39, vF b4 0)] w4 fun a ha => ?_
         refine ov (.int .i64 ((gt p0.l x4).Kind)) ha (ob_load w4 rfl rfl Try.underlying3 rfl ((cell_add1 _ _ _ _).trans (by rw [Nat.zero_add]; exact f6.cell 0 _ rfl))) fun a ha => ?_
         refine sg ha 2 [(0, vP b_p0), (1, vI x1), (6, vS A1 x2 c1), (7, vS A2 x3 c2), (8, vI x4), (9, vP b4), (42, vB (((gt p0.l x4).Kind) == 3))] w4 fun a ha => ?_
         refine split_b (t := 42) ha rfl (fun hb ha => ?_) (fun hb ha => ?_)
         · replace h := itT hb h
           refine sg ha 1 [(0, vP b_p0), (1, vI x1), (6, vS A1 x2 c1), (7, vS A2 x3 c2), (8, vI x4), (9, vP b4), (42, vB true), (43, vF b4 1)] w4 fun a ha => ?_
           refine ov (.int .i64 ((gt p0.l x4).A)) ha (ob_load w4 rfl rfl Try.underlying3 rfl ((cell_add1 _ _ _ _).trans (by rw [Nat.zero_add]; exact f6.cell 1 _ rfl))) fun a ha => ?_
           refine sg ha 4 [(0, vP b_p0), (6, vS A1 x2 c1), (7, vS A2 x3 c2), (8, vI x4), (9, vP b4), (38, vB (((gt p0.l x4).A) == x1))] w4 fun a ha => ?_
           obtain rfl := Option.some.inj h
           exact ⟨_, rfl, rfl, ha.to (by kernel_rfl)⟩
         · replace h := itF hb h
           refine sg ha 6 [(0, vP b_p0), (6, vS A1 x2 c1), (7, vS A2 x3 c2), (8, vI x4), (9, vP b4), (38, vB false)] w4 fun a ha => ?_
           obtain rfl := Option.some.inj h
           exact ⟨_, rfl, rfl, ha.to (by kernel_rfl)⟩
       rintro a _ ⟨x7, rfl, rfl, ha⟩
       refine hK _ _ ?_
       clear hK
       refine cond_b ha rfl (fun hb => ?_) (fun hb => ?_)
       · replace h := itT hb h
         refine sq fun K hK => ?_
         refine reg ?_
         refine sg ha 3 [(0, vP b_p0), (6, vS A1 x2 c1), (7, vS A2 x3 c2), (8, vI x4), (9, vP b4), (48, vP b_p0), (49, vI x4), (50, vF b4 2)] w4 fun a ha => ?_
         refine ov (.int .i64 ((gt p0.l x4).B)) ha (ob_load w4 rfl rfl Try.underlying3 rfl ((cell_add1 _ _ _ _).trans (by rw [Nat.zero_add]; exact f6.cell 2 _ rfl))) fun a ha => ?_
         refine sg ha 2 [(0, vP b_p0), (6, vS A1 x2 c1), (8, vI x4), (9, vP b4), (48, vP b_p0), (49, vI x4), (51, vI ((gt p0.l x4).B)), (52, vS A1 x2 c1), (53, vS A2 x3 c2)] w4 fun a ha => ?_
         obtain ⟨x8, hx1, h⟩ := obind h
         refine op_call ha (by kernel_rfl) (f := 80) (args := #[vP b_p0, vI x4, vI ((gt p0.l x4).B), vS A1 x2 c1, vS A2 x3 c2]) (w' := w4) (by kernel_rfl) (ok80 fuel (M := Wr nob w) (p0 := p0) (p1 := x4) (p2 := (gt p0.l x4).B) (p3 := x2) (p4 := x3) cx.lt h_p0 h_p0_0 h_p0_1 h_p0_2 h_p0_3 h_p0_4 f2 f3 hx1) ?_
         rintro v1 w6 ⟨hb3, hp1⟩ a ha
         obtain ⟨A7, c7, rfl, f9⟩ := hp1
         have hu1 : ∀ k, obl [vS A2 x3 c2] k → S1 k ∧ Wr W0 w k := (all_cons (fun k hk => ⟨(f3.own k hk).1, wr_up k (f3.own k hk).2⟩) all_nil)
         have hu2 : ∀ k, obl [vS A2 x3 c2] k → S1 k ∧ Wr nob w k := (all_cons f3.own all_nil)
         have hv1 : ∀ k, obl [vS A7 x8 c7] k → k < w6.heap.size ∧ Wr (obl [vS A2 x3 c2]) w4 k := (all_cons (fun k hk => ⟨f9.lt k hk, (f9.own k hk).2⟩) all_nil)
         obtain ⟨cxn1, kp1, hs1, hn1⟩ := back cx hu1 hb3 hv1
         generalize inL [vS A7 x8 c7] S1 = S4 at cxn1 kp1 hs1 f9
         replace f9 := f9.weak (fun k hk => back_wr cx hu2 (f9.own k hk).2)
         replace h_p0 := h_p0.keep kp1
         replace h_p0_0 := h_p0_0.keep kp1
         replace h_p0_1 := h_p0_1.keep kp1
         replace h_p0_2 := h_p0_2.keep kp1
         replace h_p0_3 := h_p0_3.keep kp1
         replace h_p0_4 := h_p0_4.keep kp1
         replace f2 := f2.keep kp1
         replace f6 := f6.keep kp1
         replace cx := cxn1
         refine sg ha 1 [(0, vP b_p0), (6, vS A1 x2 c1), (7, vS A7 x8 c7), (8, vI x4), (9, vP b4)] w6 fun a ha => ?_
         refine hK _ _ ?_
         clear hK
         refine sq fun K hK => ?_
         refine sq fun K hK => ?_
         refine dr_start 9 S4 rfl ?_
         intro w7 e1 hb4
         replace h_p0 := h_p0.keep (Keep.ext S4 hb4)
         replace h_p0_0 := h_p0_0.keep (Keep.ext S4 hb4)
         replace h_p0_1 := h_p0_1.keep (Keep.ext S4 hb4)
         replace h_p0_2 := h_p0_2.keep (Keep.ext S4 hb4)
         replace h_p0_3 := h_p0_3.keep (Keep.ext S4 hb4)
         replace h_p0_4 := h_p0_4.keep (Keep.ext S4 hb4)
         replace f2 := f2.keep (Keep.ext S4 hb4)
         replace f9 := f9.ext hb4
         replace f6 := f6.keep (Keep.ext S4 hb4)
         replace cx := cx.ext hb4
         refine dk 0 (vP b_p0) ha hq rfl (Sd.start _ _ _ _) fun hsx a ha => ?_
         refine dk 1 (vP b_p0) ha hq rfl hsx fun hsx a ha => ?_
         refine dk 2 (vF b_p0 4) ha hq rfl hsx fun hsx a ha => ?_
         refine dv 3 (.slice A_p0_4 p0.can.length c_p0_4) ha hq rfl (fun w2 hw2 hw3 => ob_load w2 rfl rfl Try.underlying84 rfl ((cell_add1 _ _ _ _).trans (by rw [Nat.zero_add]; exact Sold.cell (hw3 (by kernel_rfl)) (h_p0.cell 4 _ rfl)))) hsx fun hsx a ha => ?_
         refine dk 4 (vF b4 2) ha hq rfl hsx fun hsx a ha => ?_
         refine dv 5 (.int .i64 ((gt p0.l x4).B)) ha hq rfl (fun w2 hw2 hw3 => ob_load w2 rfl rfl Try.underlying3 rfl ((cell_add1 _ _ _ _).trans (by rw [Nat.zero_add]; exact Sold.cell (hw3 (by kernel_rfl)) (f6.cell 2 _ rfl)))) hsx fun hsx a ha => ?_
         obtain ⟨hi3, h⟩ := ite_some h
         obtain ⟨b5, o3, cs3, rfl, hr3, hc3⟩ := h_p0_4.rdb.get hi3
         obtain rfl := hr3
         refine dv 6 (vE b5 o3 ((gt p0.l x4).B) 1) ha hq rfl (fun w2 hw2 hw3 => obx w2 rfl rfl rfl Try.underlying84 rfl hi3) hsx fun hsx a ha => ?_
         refine dv 7 (vB (gt p0.can ((gt p0.l x4).B))) ha hq rfl (fun w2 hw2 hw3 => ob_load w2 rfl rfl Try.underlying4 rfl ((cell_add1 _ _ _ _).trans (Sold.cell (hw3 (by kernel_rfl)) (hc3 0 _ rfl)))) hsx fun hsx a ha => ?_
         refine dk 8 (vB (!(gt p0.can ((gt p0.l x4).B)))) ha hq rfl hsx fun hsx a ha => ?_
         refine dr_done (by kernel_rfl) ?_
         replace ha := ha.to (l' := [(0, vP b_p0), (6, vS A1 x2 c1), (7, vS A7 x8 c7), (8, vI x4), (9, vP b4), (63, vB (!(gt p0.can ((gt p0.l x4).B))))]) (by kernel_rfl)
         refine hK _ _ ?_
         clear hK
         refine cond_b ha rfl (fun hb => ?_) (fun hb => ?_)
         · replace h := itT hb h
           refine sq fun K hK => ?_
           refine reg ?_
           refine sg ha 3 [(4, vS A7 x8 c7), (5, .slice none 0 0)] w7 fun a ha => ?_
           refine hK _ _ ?_
           clear hK
           refine wp_ret ?_
           obtain rfl := Option.some.inj h
           replace h := hq1
           obtain rfl := Option.some.inj h
           refine ⟨_, rfl, rfl, ?_⟩
           have hin : ∀ k, inL [vS A7 x8 c7] S k → S4 k := inL_sub cx.sub (all_cons (fun k hk => (f9.own k hk).1) all_nil)
           show bodyPost Try.prog Try.f48 (R48 w S W0 _) .ret a w7
           exact ret_2 (r1 := .tmp 4) (v1 := vS A7 x8 c7) (r2 := .tmp 5) (v2 := .slice none 0 0) ha rfl (.inl rfl) rfl rfl ⟨_, rfl, cx.bel, ⟨_, _, _, _, rfl, (f9.weak (M' := Wr W0 w) (fun k hk => wr_up k (f9.own k hk).2)).out hin (fun k hk => obl_at 0 rfl hk), Sl.nil⟩⟩
         · replace h := itF hb h
           refine wp_skip ?_
           refine hK _ _ ?_
           clear hK
           refine dr_start 10 S4 rfl ?_
           intro w8 e2 hb5
           replace h_p0 := h_p0.keep (Keep.ext S4 hb5)
           replace h_p0_0 := h_p0_0.keep (Keep.ext S4 hb5)
           replace h_p0_1 := h_p0_1.keep (Keep.ext S4 hb5)
           replace h_p0_2 := h_p0_2.keep (Keep.ext S4 hb5)
           replace h_p0_3 := h_p0_3.keep (Keep.ext S4 hb5)
           replace h_p0_4 := h_p0_4.keep (Keep.ext S4 hb5)
           replace f2 := f2.keep (Keep.ext S4 hb5)
           replace f9 := f9.ext hb5
           replace f6 := f6.keep (Keep.ext S4 hb5)
           replace cx := cx.ext hb5
           have hkk := Keep.refl w8.heap S4
           have hold := Sold.start w8
           have g1 := h_p0
           have g2 := h_p0_0
           have g3 := h_p0_1
           have g4 := h_p0_2
           have g5 := h_p0_3
           have g6 := h_p0_4
           have g7 := f2
           have g8 := f9
           have g9 := f6
           refine dk 0 (vS A1 x2 c1) ha hq rfl (Sd.start _ _ _ _) fun hsx a ha => ?_
           refine dk 1 (vP b_p0) ha hq rfl hsx fun hsx a ha => ?_
           refine dk 2 (vP b_p0) ha hq rfl hsx fun hsx a ha => ?_
           refine dk 3 (vF b_p0 0) ha hq rfl hsx fun hsx a ha => ?_
           refine dv 4 (.slice (some ⟨b3, o2, none⟩) p0.l.length c_p0_0) ha hq rfl (fun w2 hw2 hw3 => ob_load w2 rfl rfl Try.underlying22 rfl ((cell_add1 _ _ _ _).trans (by rw [Nat.zero_add]; exact Sk.cell g1.2 hw2 (g1.cell 0 _ rfl)))) hsx fun hsx a ha => ?_
           refine dk 5 (vF b4 2) ha hq rfl hsx fun hsx a ha => ?_
           refine dv 6 (.int .i64 ((gt p0.l x4).B)) ha hq rfl (fun w2 hw2 hw3 => ob_load w2 rfl rfl Try.underlying3 rfl ((cell_add1 _ _ _ _).trans (by rw [Nat.zero_add]; exact Sk.cell g9.2 hw2 (g9.cell 2 _ rfl)))) hsx fun hsx a ha => ?_
           refine dr_one (i := 7) (by kernel_rfl) rfl ?_
           obtain ⟨x9, hx2, h⟩ := obind h
           refine op_call ha (by kernel_rfl) (f := 46) (args := #[vS (some ⟨b3, o2, none⟩) p0.l c_p0_0, vI ((gt p0.l x4).B)]) (w' := w8) (by kernel_rfl) (ok46 fuel (p0 := p0.l) (p1 := (gt p0.l x4).B) cx.lt h_p0_0 hx2) ?_
           rintro v2 w9 ⟨hb6, hp2⟩ a ha
           obtain ⟨A8, c8, rfl, f10⟩ := hp2
           replace f10 := own_out cx f10
           replace h_p0 := h_p0.keep (Keep.ext S4 hb6)
           replace h_p0_0 := h_p0_0.keep (Keep.ext S4 hb6)
           replace h_p0_1 := h_p0_1.keep (Keep.ext S4 hb6)
           replace h_p0_2 := h_p0_2.keep (Keep.ext S4 hb6)
           replace h_p0_3 := h_p0_3.keep (Keep.ext S4 hb6)
           replace h_p0_4 := h_p0_4.keep (Keep.ext S4 hb6)
           replace f9 := f9.ext hb6
           replace f2 := f2.keep (Keep.ext S4 hb6)
           replace cx := cx.ext hb6
           replace hold := hold.ext hkk.size hb6
           replace hkk := hkk.trans (Keep.ext S4 hb6)
           refine dr_next (Sd.before hkk hold) ?_
           refine dr_one (i := 8) (by kernel_rfl) rfl ?_
           obtain ⟨x10, hx3, h⟩ := obind h
           refine op_call ha (by kernel_rfl) (f := 81) (args := #[vS A1 x2 c1, vS A8 x9 c8]) (w' := w9) (by kernel_rfl) (ok81 fuel (p0 := x2) (p1 := x9) cx.lt f2 f10 hx3) ?_
           rintro v3 w10 ⟨hb7, hp3⟩ a ha
           obtain ⟨A9, c9, rfl, f11⟩ := hp3
           replace h_p0 := h_p0.keep (Keep.ext S4 hb7)
           replace h_p0_0 := h_p0_0.keep (Keep.ext S4 hb7)
           replace h_p0_1 := h_p0_1.keep (Keep.ext S4 hb7)
           replace h_p0_2 := h_p0_2.keep (Keep.ext S4 hb7)
           replace h_p0_3 := h_p0_3.keep (Keep.ext S4 hb7)
           replace h_p0_4 := h_p0_4.keep (Keep.ext S4 hb7)
           replace f9 := f9.ext hb7
           replace cx := cx.ext hb7
           replace hold := hold.ext hkk.size hb7
           replace hkk := hkk.trans (Keep.ext S4 hb7)
           refine dr_next (Sd.before hkk hold) ?_
           refine dk 9 (vS A9 x10 c9) ha hq rfl (Sd.before hkk hold) fun hsx a ha => ?_
           refine dr_done (by kernel_rfl) ?_
           replace ha := ha.to (l' := [(0, vP b_p0), (6, vS A9 x10 c9), (7, vS A7 x8 c7), (8, vI x4)]) (by kernel_rfl)
           obtain rfl := Option.some.inj h
           exact ⟨_, _, _, A9, c9, A7, c7, rfl, cx, h_p0, h_p0_0, h_p0_1, h_p0_2, h_p0_3, h_p0_4, f11, f9, ha.to (by kernel_rfl)⟩
       · replace h := itF hb h
         refine sq fun K hK => ?_
         refine reg ?_
         refine sg ha 1 [(0, vP b_p0), (6, vS A1 x2 c1), (7, vS A2 x3 c2), (8, vI x4), (9, vP b4), (75, vF b4 0)] w4 fun a ha => ?_
         refine ov (.int .i64 ((gt p0.l x4).Kind)) ha (ob_load w4 rfl rfl Try.underlying3 rfl ((cell_add1 _ _ _ _).trans (by rw [Nat.zero_add]; exact f6.cell 0 _ rfl))) fun a ha => ?_
         refine sg ha 2 [(0, vP b_p0), (6, vS A1 x2 c1), (7, vS A2 x3 c2), (8, vI x4), (9, vP b4), (74, vB (((gt p0.l x4).Kind) == 5))] w4 fun a ha => ?_
         refine hK _ _ ?_
         clear hK
         refine cond_b ha rfl (fun hb => ?_) (fun hb => ?_)
         · replace h := itT hb h
           refine reg ?_
           refine sg ha 3 [(0, vP b_p0), (6, vS A1 x2 c1), (7, vS A2 x3 c2), (8, vI x4), (78, vP b_p0), (79, vI x4), (80, vF b4 1)] w4 fun a ha => ?_
           refine ov (.int .i64 ((gt p0.l x4).A)) ha (ob_load w4 rfl rfl Try.underlying3 rfl ((cell_add1 _ _ _ _).trans (by rw [Nat.zero_add]; exact f6.cell 1 _ rfl))) fun a ha => ?_
           refine sg ha 2 [(0, vP b_p0), (6, vS A1 x2 c1), (8, vI x4), (78, vP b_p0), (79, vI x4), (81, vI ((gt p0.l x4).A)), (82, vS A1 x2 c1), (83, vS A2 x3 c2)] w4 fun a ha => ?_
           obtain ⟨x11, hx4, h⟩ := obind h
           refine op_call ha (by kernel_rfl) (f := 80) (args := #[vP b_p0, vI x4, vI ((gt p0.l x4).A), vS A1 x2 c1, vS A2 x3 c2]) (w' := w4) (by kernel_rfl) (ok80 fuel (M := Wr nob w) (p0 := p0) (p1 := x4) (p2 := (gt p0.l x4).A) (p3 := x2) (p4 := x3) cx.lt h_p0 h_p0_0 h_p0_1 h_p0_2 h_p0_3 h_p0_4 f2 f3 hx4) ?_
           rintro v4 w11 ⟨hb8, hp4⟩ a ha
           obtain ⟨A10, c10, rfl, f12⟩ := hp4
           have hu3 : ∀ k, obl [vS A2 x3 c2] k → S1 k ∧ Wr W0 w k := (all_cons (fun k hk => ⟨(f3.own k hk).1, wr_up k (f3.own k hk).2⟩) all_nil)
           have hu4 : ∀ k, obl [vS A2 x3 c2] k → S1 k ∧ Wr nob w k := (all_cons f3.own all_nil)
           have hv2 : ∀ k, obl [vS A10 x11 c10] k → k < w11.heap.size ∧ Wr (obl [vS A2 x3 c2]) w4 k := (all_cons (fun k hk => ⟨f12.lt k hk, (f12.own k hk).2⟩) all_nil)
           obtain ⟨cxn2, kp2, hs2, hn2⟩ := back cx hu3 hb8 hv2
           generalize inL [vS A10 x11 c10] S1 = S5 at cxn2 kp2 hs2 f12
           replace f12 := f12.weak (fun k hk => back_wr cx hu4 (f12.own k hk).2)
           replace h_p0 := h_p0.keep kp2
           replace h_p0_0 := h_p0_0.keep kp2
           replace h_p0_1 := h_p0_1.keep kp2
           replace h_p0_2 := h_p0_2.keep kp2
           replace h_p0_3 := h_p0_3.keep kp2
           replace h_p0_4 := h_p0_4.keep kp2
           replace f2 := f2.keep kp2
           replace cx := cxn2
           refine sg ha 1 [(0, vP b_p0), (6, vS A1 x2 c1), (7, vS A10 x11 c10), (8, vI x4)] w11 fun a ha => ?_
           obtain rfl := Option.some.inj h
           exact ⟨_, _, _, A1, c1, A10, c10, rfl, cx, h_p0, h_p0_0, h_p0_1, h_p0_2, h_p0_3, h_p0_4, f2, f12, ha.to (by kernel_rfl)⟩
         · replace h := itF hb h
           refine wp_skip ?_
           obtain rfl := Option.some.inj h
           exact ⟨_, _, _, A1, c1, A2, c2, rfl, cx, h_p0, h_p0_0, h_p0_1, h_p0_2, h_p0_3, h_p0_4, f2, f3, ha.to (by kernel_rfl)⟩
     rintro a w5 ⟨x5, x6, S3, A5, c5, A6, c6, rfl, cx, h_p0, h_p0_0, h_p0_1, h_p0_2, h_p0_3, h_p0_4, f7, f8, ha⟩
     refine hK _ _ ?_
     clear hK
     refine reg ?_
     refine sg ha 4 [(0, vP b_p0), (7, vS A6 x6 c6), (8, vI x4), (85, vS A5 x5 c5), (88, vI (W ((W (2 * x4)) + 1)))] w5 fun a ha => ?_
     refine op_new (V := fun b => .slice (some ⟨b, 0, none⟩) 1 1) (cs := [vI (W ((W (2 * x4)) + 1))]) (T := 3) ha (by kernel_rfl) (by kernel_rfl) ?_
     intro w12 b6 hb9 hk2 he2 _ a ha
     have f13 := lit_ow (T := (tInt .i64)) (xs := [(W ((W (2 * x4)) + 1))]) (m := 1) cx hb9 hk2 he2 rfl (by kernel_rfl) (Els.one (T := (tInt .i64)) (x := (W ((W (2 * x4)) + 1))) rfl)
     replace f13 := own_out cx f13
     replace h_p0 := h_p0.keep (Keep.ext S3 hb9)
     replace h_p0_0 := h_p0_0.keep (Keep.ext S3 hb9)
     replace h_p0_1 := h_p0_1.keep (Keep.ext S3 hb9)
     replace h_p0_2 := h_p0_2.keep (Keep.ext S3 hb9)
     replace h_p0_3 := h_p0_3.keep (Keep.ext S3 hb9)
     replace h_p0_4 := h_p0_4.keep (Keep.ext S3 hb9)
     replace f8 := f8.ext hb9
     replace f7 := f7.keep (Keep.ext S3 hb9)
     replace cx := cx.ext hb9
     obtain ⟨x12, hx5, h⟩ := obind h
     refine op_call ha (by kernel_rfl) (f := 81) (args := #[vS A5 x5 c5, .slice (some ⟨b6, 0, none⟩) 1 1]) (w' := w12) (by kernel_rfl) (ok81 fuel (p0 := x5) (p1 := [(W ((W (2 * x4)) + 1))]) cx.lt f7 f13 hx5) ?_
     rintro v5 w13 ⟨hb10, hp5⟩ a ha
     obtain ⟨A11, c11, rfl, f14⟩ := hp5
     replace h_p0 := h_p0.keep (Keep.ext S3 hb10)
     replace h_p0_0 := h_p0_0.keep (Keep.ext S3 hb10)
     replace h_p0_1 := h_p0_1.keep (Keep.ext S3 hb10)
     replace h_p0_2 := h_p0_2.keep (Keep.ext S3 hb10)
     replace h_p0_3 := h_p0_3.keep (Keep.ext S3 hb10)
     replace h_p0_4 := h_p0_4.keep (Keep.ext S3 hb10)
     replace f8 := f8.ext hb10
     replace cx := cx.ext hb10
     refine sg ha 1 [(0, vP b_p0), (6, vS A11 x12 c11), (7, vS A6 x6 c6), (8, vI x4)] w13 fun a ha => ?_
     refine hK _ _ ?_
     clear hK
     refine dr_start 10 S3 rfl ?_
     intro w14 e3 hb11
     replace h_p0 := h_p0.keep (Keep.ext S3 hb11)
     replace h_p0_0 := h_p0_0.keep (Keep.ext S3 hb11)
     replace h_p0_1 := h_p0_1.keep (Keep.ext S3 hb11)
     replace h_p0_2 := h_p0_2.keep (Keep.ext S3 hb11)
     replace h_p0_3 := h_p0_3.keep (Keep.ext S3 hb11)
     replace h_p0_4 := h_p0_4.keep (Keep.ext S3 hb11)
     replace f14 := f14.keep (Keep.ext S3 hb11)
     replace f8 := f8.ext hb11
     replace cx := cx.ext hb11
     refine dk 0 (vI x4) ha hq rfl (Sd.start _ _ _ _) fun hsx a ha => ?_
     refine dk 1 (vP b_p0) ha hq rfl hsx fun hsx a ha => ?_
     refine dk 2 (vP b_p0) ha hq rfl hsx fun hsx a ha => ?_
     refine dk 3 (vF b_p0 1) ha hq rfl hsx fun hsx a ha => ?_
     refine dv 4 (.slice (some ⟨b2, o1, none⟩) p0.up.length c_p0_1) ha hq rfl (fun w2 hw2 hw3 => ob_load w2 rfl rfl Try.underlying25 rfl ((cell_add1 _ _ _ _).trans (by rw [Nat.zero_add]; exact Sold.cell (hw3 (by kernel_rfl)) (h_p0.cell 1 _ rfl)))) hsx fun hsx a ha => ?_
     refine dk 5 (vI x4) ha hq rfl hsx fun hsx a ha => ?_
     obtain ⟨hi4, h⟩ := ite_some h
     obtain ⟨cs4, hr4, hc4⟩ := h_p0_1.rdb.at hi4
     obtain rfl := hr4
     refine dv 6 (vE b2 o1 x4 1) ha hq rfl (fun w2 hw2 hw3 => obx w2 rfl rfl rfl Try.underlying25 rfl hi4) hsx fun hsx a ha => ?_
     refine dv 7 (vI (gt p0.up x4)) ha hq rfl (fun w2 hw2 hw3 => ob_load w2 rfl rfl Try.underlying3 rfl ((cell_add1 _ _ _ _).trans (Sold.cell (hw3 (by kernel_rfl)) (hc4 0 _ rfl)))) hsx fun hsx a ha => ?_
     refine dk 8 (vI x4) ha hq rfl hsx fun hsx a ha => ?_
     refine dk 9 (vI (gt p0.up x4)) ha hq rfl hsx fun hsx a ha => ?_
     refine dr_done (by kernel_rfl) ?_
     replace ha := ha.to (l' := [(0, vP b_p0), (1, vI x4), (6, vS A11 x12 c11), (7, vS A6 x6 c6), (8, vI (gt p0.up x4))]) (by kernel_rfl)
     obtain rfl := Option.some.inj h
     exact ⟨_, rfl, S3, A11, c11, A6, c6, cx, h_p0, h_p0_0, h_p0_1, h_p0_2, h_p0_3, h_p0_4, f14, f8, ha.to (by kernel_rfl)⟩
   · replace h := itF hb h
     refine wp_exit ?_
     obtain rfl := Option.some.inj h
     exact ⟨_, rfl, rfl, S1, A1, c1, A2, c2, cx, f2, f3, ha.to (by kernel_rfl)⟩
 · exact ⟨S, (some ⟨b1, 0, none⟩), 1, none, 0, cx, h_p0, h_p0_0, h_p0_1, h_p0_2, h_p0_3, h_p0_4, f1, Ow.nil, ha.to (by kernel_rfl)⟩
 intro e a w3 hd
 cases t1 with
 | inr r1 =>
  obtain ⟨rfl, hd⟩ := hd
  obtain rfl := Option.some.inj h
  exact hd
 | inl oo1 =>
  obtain ⟨y1, y2⟩ := oo1
  obtain ⟨rfl, S2, A3, c3, A4, c4, cx, f4, f5, ha⟩ := hd
  refine hK _ _ ?_
  clear hK
  refine sq fun K hK => ?_
  refine reg ?_
  refine sg ha 4 [(4, vS A4 y2 c4), (5, vS A3 y1 c3)] w3 fun a ha => ?_
  refine hK _ _ ?_
  clear hK
  refine wp_ret ?_
  obtain rfl := Option.some.inj h
  have hin : ∀ k, inL [vS A4 y2 c4] S k → S2 k := inL_sub cx.sub (all_cons (fun k hk => (f5.own k hk).1) all_nil)
  show bodyPost Try.prog Try.f48 (R48 w S W0 _) .ret a w3
  exact ret_2 (r1 := .tmp 4) (v1 := vS A4 y2 c4) (r2 := .tmp 5) (v2 := vS A3 y1 c3) ha rfl (.inl rfl) rfl rfl ⟨_, rfl, cx.bel, ⟨_, _, _, _, rfl, (f5.weak (M' := Wr W0 w) (fun k hk => wr_up k (f5.own k hk).2)).out hin (fun k hk => obl_at 0 rfl hk), f4.keep (Keep.less hin)⟩⟩
def post14 (w : World) (S : Off) (r : (MHop × Bool)) (v : Value) (w1 : World) : Prop := ∃ v0 : Value, ∃ v1 : Value, v = .tuple #[v0, v1] ∧ (∃ (A2 : Option Addr) (c2 : Nat), v0 = .agg #[.int .i64 r.1.To, .int .i64 r.1.Turn, .slice A2 r.1.Steps.length c2] ∧ Sl (tInt .i64) w1.heap S A2 c2 r.1.Steps) ∧ (v1 = .bool r.2)
abbrev R14 (w : World) (S : Off) (r : (MHop × Bool)) : Ending → World → Prop := fun e w1 => ∃ v, e = .returned v ∧ Below w.heap.size w w1 ∧ post14 w S r v w1
theorem ok14 (fuel : Nat) {w : World} {S : Off} (hS : ∀ b, S b → b < w.heap.size) {p0 : (List MTerm)} {p1 : Int} {A_p0 : Option Addr} {c_p0 : Nat} (h_p0 : Sl tTerm w.heap S A_p0 c_p0 p0) {r : (MHop × Bool)} (h : m_follow_End fuel p0 p1 = some r) :
 Calls Try.prog 14 #[vS A_p0 p0 c_p0, vI p1] w (R14 w S r) := by
 refine enterL (vs := [vS A_p0 p0 c_p0, vI p1]) Try.func14 rfl rfl ?_
 intro a ha
 have cx := Cx.start (W0 := nob) hS
 refine with_nop (noP_body _ _) (fun hq => ?_)
 unfold m_follow_End at h
 refine sq fun K hK => ?_
 refine reg ?_
 refine op_new (V := fun b => vP b) (cs := [vI 0, vI 0, .slice none 0 0]) (T := 27) ha (by kernel_rfl) (by kernel_rfl) ?_
 intro w1 b1 hb1 hk1 he1 _ a ha
 obtain ⟨S1, cx, kp1, hs1, f1⟩ := box_own cx hb1 hk1 he1
 replace h_p0 := h_p0.keep kp1
 refine sg ha 1 [(0, vS A_p0 p0 c_p0), (1, vI p1), (4, vP b1)] w1 fun a ha => ?_
 refine hK _ _ ?_
 clear hK
 refine sq fun K hK => ?_
 refine reg ?_
 refine sg ha 1 [(0, vS A_p0 p0 c_p0), (1, vI p1), (4, vP b1), (6, .slice none 0 0)] w1 fun a ha => ?_
 refine hK _ _ ?_
 clear hK
 refine sq fun K hK => ?_
 obtain ⟨q1, hj1, h⟩ := obind h
 refine wp_cutV (D := fun a w2 => ∃ x1 : List Int, ∃ (S2 : Off), ∃ (A1 : Option Addr) (c1 : Nat), x1 = q1 ∧ Cx w nob S w2 S2 ∧ Mb (Wr nob w) w2.heap S2 b1 27 [vI 0, vI 0, .slice none 0 0] ∧ Sl (tInt .i64) w2.heap S2 A1 c1 x1 ∧ Ag 37 [(4, vP b1), (6, vS A1 x1 c1)] a) ?_ ?_
 · clear h; have h := hj1
   refine sq fun K hK => ?_
   refine reg ?_
   refine sg ha 2 [(0, vS A_p0 p0 c_p0), (1, vI p1), (4, vP b1), (6, .slice none 0 0), (11, vB (p1 == (-1)))] w1 fun a ha => ?_
   refine hK _ _ ?_
   clear hK
   refine cond_b ha rfl (fun hb => ?_) (fun hb => ?_)
   · replace h := itT hb h
     refine reg ?_
     refine sg ha 4 [(4, vP b1), (12, vS A_p0 p0 c_p0), (15, vI (W ((p0.length : Int) - 1)))] w1 fun a ha => ?_
     obtain ⟨x2, hx1, h⟩ := obind h
     refine op_call ha (by kernel_rfl) (f := 46) (args := #[vS A_p0 p0 c_p0, vI (W ((p0.length : Int) - 1))]) (w' := w1) (by kernel_rfl) (ok46 fuel (p0 := p0) (p1 := (W ((p0.length : Int) - 1))) cx.lt h_p0 hx1) ?_
     rintro v1 w3 ⟨hb2, hp1⟩ a ha
     obtain ⟨A2, c2, rfl, f3⟩ := hp1
     replace f3 := own_out cx f3
     replace f1 := f1.ext hb2
     replace cx := cx.ext hb2
     refine sg ha 1 [(4, vP b1), (6, vS A2 x2 c2)] w3 fun a ha => ?_
     obtain rfl := Option.some.inj h
     exact ⟨_, _, A2, c2, rfl, cx, f1, f3, ha.to (by kernel_rfl)⟩
   · replace h := itF hb h
     refine sq fun K hK => ?_
     refine reg ?_
     refine sg ha 2 [(4, vP b1), (6, .slice none 0 0), (18, vS A_p0 p0 c_p0), (19, vI p1)] w1 fun a ha => ?_
     obtain ⟨x3, hx2, h⟩ := obind h
     refine op_call ha (by kernel_rfl) (f := 47) (args := #[vS A_p0 p0 c_p0, vI p1]) (w' := w1) (by kernel_rfl) (ok47 fuel (p0 := p0) (p1 := p1) cx.lt h_p0 hx2) ?_
     rintro v2 w4 ⟨hb3, hp2⟩ a ha
     obtain ⟨u1, _, _, rfl, f4, rfl, rfl⟩ := hp2
     replace f1 := f1.ext hb3
     replace cx := cx.ext hb3
     refine sg ha 7 [(4, vP b1), (6, .slice none 0 0), (7, u1), (8, vI x3.2.1), (9, vB x3.2.2)] w4 fun a ha => ?_
     refine hK _ _ ?_
     clear hK
     refine sq fun K hK => ?_
     refine reg ?_
     refine sg ha 1 [(4, vP b1), (6, .slice none 0 0), (7, u1), (8, vI x3.2.1), (24, vB x3.2.2)] w4 fun a ha => ?_
     refine hK _ _ ?_
     clear hK
     refine cond_b ha rfl (fun hb => ?_) (fun hb => ?_)
     · replace h := itT hb h
       refine reg ?_
       obtain ⟨x4, hx3, h⟩ := obind h
       obtain ⟨b2, cs1, rfl, f5, hr1⟩ := f4.get hx3
       obtain ⟨A3, c3, A4, c4, A5, c5, A6, c6, A7, c7, rfl, f6, f7, f8, f9, f10⟩ := hr1
       refine sg ha 2 [(4, vP b1), (26, vP b2), (27, vI x3.2.1)] w4 fun a ha => ?_
       obtain ⟨x5, hx4, h⟩ := obind h
       refine op_call ha (by kernel_rfl) (f := 48) (args := #[vP b2, vI x3.2.1]) (w' := w4) (by kernel_rfl) (ok48 fuel (p0 := x4) (p1 := x3.2.1) cx.lt f5 f6 f7 f8 f9 f10 hx4) ?_
       rintro v3 w5 ⟨hb4, hp3⟩ a ha
       obtain ⟨A8, c8, A9, c9, rfl, f11, f12⟩ := hp3
       have hu1 : ∀ k, obl [] k → S1 k ∧ Wr nob w k := all_nil
       have hv1 : ∀ k, obl [vS A8 x5.1 c8] k → k < w5.heap.size ∧ Wr (obl []) w4 k := (all_cons (fun k hk => ⟨f11.lt k hk, (f11.own k hk).2⟩) all_nil)
       obtain ⟨cxn1, kp2, hs2, hn1⟩ := back cx hu1 hb4 hv1
       generalize inL [vS A8 x5.1 c8] S1 = S3 at cxn1 kp2 hs2 f11 f12
       have d1 : Dis (bv b1) (vS A8 x5.1 c8) := Dis.growL (fun k hk => obl_nil) f1.lt (fun k hk => (f11.own k hk).2)
       replace f11 := f11.weak (fun k hk => back_wr cx hu1 (f11.own k hk).2)
       replace f1 := f1.keep hs2 (hn1 _ f1.blk_lt obl_nil)
       replace cx := cxn1
       refine sg ha 4 [(4, vP b1), (6, vS A9 x5.2 c9)] w5 fun a ha => ?_
       obtain rfl := Option.some.inj h
       exact ⟨_, _, A9, c9, rfl, cx, f1, f12, ha.to (by kernel_rfl)⟩
     · replace h := itF hb h
       refine wp_skip ?_
       obtain rfl := Option.some.inj h
       exact ⟨_, _, none, 0, rfl, cx, f1, Sl.nil, ha.to (by kernel_rfl)⟩
 rintro a w2 ⟨x1, S2, A1, c1, rfl, cx, f1, f2, ha⟩
 refine hK _ _ ?_
 clear hK
 refine sq fun K hK => ?_
 refine sq fun K hK => ?_
 refine reg ?_
 refine sg ha 3 [(4, vP b1), (6, vS A1 x1 c1), (33, vB ((x1.length : Int) == 0))] w2 fun a ha => ?_
 refine hK _ _ ?_
 clear hK
 refine cond_b ha rfl (fun hb => ?_) (fun hb => ?_)
 · replace h := itT hb h
   refine sq fun K hK => ?_
   refine reg ?_
   refine sg ha 1 [(4, vP b1), (34, .agg #[vI 0, vI 0, .slice none 0 0])] w2 fun a ha => ?_
   refine op_setAll (vs := [vI 0, vI 0, .slice none 0 0]) (v := .agg #[vI 0, vI 0, .slice none 0 0]) ha (by kernel_rfl) rfl rfl rfl rfl f1.1 (by kernel_rfl) (by kernel_rfl) ?_
   intro w6 on1 _ hk2 a ha
   replace cx := on1.cx cx f1.2.2
   have f13 : Mb (Wr nob w) w6.heap S2 b1 27 [vI 0, vI 0, .slice none 0 0] := ⟨hk2, f1.2⟩
   refine sg ha 1 [(4, vP b1), (5, vB false)] w6 fun a ha => ?_
   refine hK _ _ ?_
   clear hK
   refine wp_ret ?_
   obtain rfl := Option.some.inj h
   show bodyPost Try.prog Try.f14 (R14 w S _) .ret a w6
   exact ret_2 (r1 := .cell 4 27) (v1 := .agg #[vI 0, vI 0, .slice none 0 0]) (r2 := .tmp 5) (v2 := vB false) ha rfl (.inl rfl) (RV.cell (cs := [vI 0, vI 0, .slice none 0 0]) rfl f13.1 Try.underlying27 rfl (by kernel_rfl)) rfl ⟨_, rfl, cx.below, ⟨_, _, rfl, ⟨_, _, rfl, Sl.nil⟩, rfl⟩⟩
 · replace h := itF hb h
   refine wp_skip ?_
   refine hK _ _ ?_
   clear hK
   refine sq fun K hK => ?_
   refine reg ?_
   refine sg ha 2 [(4, vP b1), (36, .agg #[vI (-1), vI 0, vS A1 x1 c1])] w2 fun a ha => ?_
   refine op_setAll (vs := [vI (-1), vI 0, vS A1 x1 c1]) (v := .agg #[vI (-1), vI 0, vS A1 x1 c1]) ha (by kernel_rfl) rfl rfl rfl rfl f1.1 (by kernel_rfl) (by kernel_rfl) ?_
   intro w7 on2 _ hk3 a ha
   replace cx := on2.cx cx f1.2.2
   have f14 : Mb (Wr nob w) w7.heap S2 b1 27 [vI (-1), vI 0, vS A1 x1 c1] := ⟨hk3, f1.2⟩
   replace f2 := f2.keep (on2.keep f1.2.1)
   refine sg ha 1 [(4, vP b1), (5, vB true)] w7 fun a ha => ?_
   refine hK _ _ ?_
   clear hK
   refine wp_ret ?_
   obtain rfl := Option.some.inj h
   show bodyPost Try.prog Try.f14 (R14 w S _) .ret a w7
   exact ret_2 (r1 := .cell 4 27) (v1 := .agg #[vI (-1), vI 0, vS A1 x1 c1]) (r2 := .tmp 5) (v2 := vB true) ha rfl (.inl rfl) (RV.cell (cs := [vI (-1), vI 0, vS A1 x1 c1]) rfl f14.1 Try.underlying27 rfl (by kernel_rfl)) rfl ⟨_, rfl, cx.below, ⟨_, _, rfl, ⟨_, _, rfl, f2.keep (Keep.less cx.sub)⟩, rfl⟩⟩
def post52 (w : World) (S : Off) (W0 : Off) (r : ((List MHop))) (v : Value) (w1 : World) : Prop := ∃ A_r0 : Option Addr, ∃ c_r0 : Nat, v = .slice A_r0 r.length c_r0 ∧ Ow tHop 27 (Wr W0 w) w1.heap (inL [.slice A_r0 r.length c_r0] S) (.slice A_r0 r.length c_r0) r
abbrev R52 (w : World) (S : Off) (W0 : Off) (r : ((List MHop))) : Ending → World → Prop := fun e w1 => ∃ v, e = .returned v ∧ BelW W0 w w1 ∧ post52 w S W0 r v w1
theorem ok52 (fuel : Nat) {w : World} {S : Off} (hS : ∀ b, S b → b < w.heap.size) {p0 : (List MHop)} {M : Off} {A_p0 : Option Addr} {c_p0 : Nat} (h_p0 : Ow tHop 27 (M) w.heap S (.slice A_p0 p0.length c_p0) p0) {r : ((List MHop))} (h : m_follow_own fuel p0 = some r) :
 Calls Try.prog 52 #[vS A_p0 p0 c_p0] w (R52 w S (obl [vS A_p0 p0 c_p0]) r) := by
 generalize hW0 : (obl [vS A_p0 p0 c_p0]) = W0
 replace h_p0 := h_p0.weak (M' := Wr W0 w) (fun k hk => .inl (by rw [← hW0]; exact obl_at 0 rfl hk))
 refine enterL (vs := [vS A_p0 p0 c_p0]) Try.func52 rfl rfl ?_
 intro a ha
 have cx := Cx.start (W0 := W0) hS
 refine with_nop (noP_body _ _) (fun hq => ?_)
 unfold m_follow_own at h
 refine sq fun K hK => ?_
 refine reg ?_
 refine sg ha 1 [(0, vS A_p0 p0 c_p0)] w fun a ha => ?_
 refine hK _ _ ?_
 clear hK
 refine sq fun K hK => ?_
 refine sq fun K hK => ?_
 refine reg ?_
 refine sg ha 3 [(0, vS A_p0 p0 c_p0), (6, vI (p0.length : Int)), (7, vI 0)] w fun a ha => ?_
 refine hK _ _ ?_
 clear hK
 refine wp_block ?_
 obtain ⟨t1, ht1, h⟩ := obind h
 refine wp_mono (wp_iter (step := (m_follow_own_l1 fuel p0)) (I := fun (s : List MHop × Int) a w1 => match s with | (x1, x2) => ∃ (S1 : Off), ∃ (A1 : Option Addr) (c1 : Nat), Cx w W0 S w1 S1 ∧ Ow tHop 27 (Wr W0 w) w1.heap S1 (vS A1 x1 c1) x1 ∧ Ag 31 [(0, vS A1 x1 c1), (6, vI (p0.length : Int)), (7, vI x2)] a) (D := fun (t : List MHop) e a w2 => match t with | y1 => e = .exit 0 ∧ ∃ (S2 : Off), ∃ (A2 : Option Addr) (c2 : Nat), Cx w W0 S w2 S2 ∧ Ow tHop 27 (Wr W0 w) w2.heap S2 (vS A2 y1 c2) y1 ∧ Ag 31 [(0, vS A2 y1 c2)] a) ?_ fuel _ t1 a _ ht1 ?_) ?_
 · clear h ht1
   rintro ⟨x1, x2⟩ ct a w1 ⟨S1, A1, c1, cx, f1, ha⟩ h
   refine with_nop (NoP.loop (fun t c a w h => by cases t <;> exact absurd h.1 (by simp))) (fun hq => ?_)
   unfold m_follow_own_l1 at h
   refine sq fun K hK => ?_
   refine reg ?_
   refine sg ha 1 [(0, vS A1 x1 c1), (6, vI (p0.length : Int)), (7, vI x2), (8, vB (decide (x2 < (p0.length : Int))))] w1 fun a ha => ?_
   refine hK _ _ ?_
   clear hK
   refine sq fun K hK => ?_
   refine cond_b ha rfl (fun hb => ?_) (fun hb => ?_)
   · replace h := itT hb h
     refine wp_skip ?_
     refine hK _ _ ?_
     clear hK
     refine sq fun K hK => ?_
     refine wp_block ?_
     refine sq fun K hK => ?_
     refine reg ?_
     refine sg ha 2 [(0, vS A1 x1 c1), (3, vI x2), (6, vI (p0.length : Int)), (7, vI x2)] w1 fun a ha => ?_
     refine hK _ _ ?_
     clear hK
     refine sq fun K hK => ?_
     refine reg ?_
     refine sg ha 2 [(0, vS A1 x1 c1), (3, vI x2), (6, vI (p0.length : Int)), (7, vI x2), (10, vS A1 x1 c1), (11, vI x2)] w1 fun a ha => ?_
     obtain ⟨hi1, h⟩ := ite_some h
     obtain ⟨b1, o1, cs1, rfl, hr1, hc1⟩ := f1.rdb.get hi1
     obtain ⟨A3, c3, rfl, f3⟩ := hr1
     refine ov (vE b1 o1 x2 3) ha (obx w1 rfl rfl rfl Try.underlying31 rfl hi1) fun a ha => ?_
     refine sg ha 1 [(0, vS (some ⟨b1, o1, none⟩) x1 c1), (3, vI x2), (6, vI (p0.length : Int)), (7, vI x2), (13, .pointer (some (((⟨b1, o1, none⟩ : Addr).add (x2.toNat * 3)).add 2)))] w1 fun a ha => ?_
     refine ov (vS A3 ((gt x1 x2).Steps) c3) ha (ob_load w1 rfl rfl Try.underlying25 rfl ((cell_add2 _ _ _ _ _).trans (hc1 2 _ rfl))) fun a ha => ?_
     refine sg ha 1 [(0, vS (some ⟨b1, o1, none⟩) x1 c1), (3, vI x2), (6, vI (p0.length : Int)), (7, vI x2), (15, vI (((gt x1 x2).Steps).length : Int))] w1 fun a ha => ?_
     obtain ⟨hp1, h⟩ := ite_some h
     refine op_make (T := (tInt .i64)) (z := vI 0) (zx := (0 : Int)) (bytes := 8) ha cx (by kernel_rfl) rfl rfl rfl Try.underlying25 (by kernel_rfl) (by kernel_rfl) (fun _ _ => rfl) hp1 ?_
     intro w3 S3 A4 c4 cx hb1 kp1 hs1 hn1 f4 a ha
     have d1 : Dis (vS (some ⟨b1, o1, none⟩) x1 c1) (vS A4 (List.replicate (Int.toNat (((gt x1 x2).Steps).length : Int)) (0 : Int)) c4) := Dis.new f1.lt (hn1)
     replace f1 := f1.extS hb1 kp1 hs1
     refine sg ha 1 [(0, vS (some ⟨b1, o1, none⟩) x1 c1), (3, vI x2), (4, vS A4 (List.replicate (Int.toNat (((gt x1 x2).Steps).length : Int)) (0 : Int)) c4), (6, vI (p0.length : Int)), (7, vI x2)] w3 fun a ha => ?_
     refine hK _ _ ?_
     clear hK
     refine sq fun K hK => ?_
     refine reg ?_
     refine sg ha 3 [(0, vS (some ⟨b1, o1, none⟩) x1 c1), (3, vI x2), (4, vS A4 (List.replicate (Int.toNat (((gt x1 x2).Steps).length : Int)) (0 : Int)) c4), (6, vI (p0.length : Int)), (7, vI x2), (17, vS A4 (List.replicate (Int.toNat (((gt x1 x2).Steps).length : Int)) (0 : Int)) c4), (18, vS (some ⟨b1, o1, none⟩) x1 c1), (19, vI x2)] w3 fun a ha => ?_
     obtain ⟨hi2, h⟩ := ite_some h
     obtain ⟨cs2, hr2, hc2⟩ := f1.rdb.at hi2
     obtain ⟨A5, c5, rfl, f5⟩ := hr2
     refine ov (vE b1 o1 x2 3) ha (obx w3 rfl rfl rfl Try.underlying31 rfl hi2) fun a ha => ?_
     refine sg ha 1 [(0, vS (some ⟨b1, o1, none⟩) x1 c1), (3, vI x2), (4, vS A4 (List.replicate (Int.toNat (((gt x1 x2).Steps).length : Int)) (0 : Int)) c4), (6, vI (p0.length : Int)), (7, vI x2), (17, vS A4 (List.replicate (Int.toNat (((gt x1 x2).Steps).length : Int)) (0 : Int)) c4), (21, .pointer (some (((⟨b1, o1, none⟩ : Addr).add (x2.toNat * 3)).add 2)))] w3 fun a ha => ?_
     refine ov (vS A5 ((gt x1 x2).Steps) c5) ha (ob_load w3 rfl rfl Try.underlying25 rfl ((cell_add2 _ _ _ _ _).trans (hc2 2 _ rfl))) fun a ha => ?_
     refine op_copy (T := (tInt .i64)) (xs := (List.replicate (Int.toNat (((gt x1 x2).Steps).length : Int)) (0 : Int))) (ys := ((gt x1 x2).Steps)) ha cx (by kernel_rfl) rfl rfl rfl Try.underlying25 (by kernel_rfl) rfl wr_up f4 f5.rdb ?_
     intro w4 cx on1 kp2 f6 a ha
     replace f1 := f1.keep kp2 (fun _ h => h) (fun b hb => on1 b (f1.lt b hb) (d1 b hb))
     have d2 : Dis (vS (some ⟨b1, o1, none⟩) x1 c1) (vS A4 (copyL (List.replicate (Int.toNat (((gt x1 x2).Steps).length : Int)) (0 : Int)) ((gt x1 x2).Steps)) c4) := fun k hk e => d1 k hk (by cases A4 <;> exact e)
     have hl1 : ((copyL (List.replicate (Int.toNat (((gt x1 x2).Steps).length : Int)) (0 : Int)) ((gt x1 x2).Steps))).length = (List.replicate (Int.toNat (((gt x1 x2).Steps).length : Int)) (0 : Int)).length := copyL_len _ _
     replace ha : Ag 31 [(0, .slice (some ⟨b1, o1, none⟩) x1.length c1), (3, .int .i64 x2), (4, .slice A4 (copyL (List.replicate (Int.toNat (((gt x1 x2).Steps).length : Int)) (0 : Int)) ((gt x1 x2).Steps)).length c4), (6, .int .i64 (p0.length : Int)), (7, .int .i64 x2)] a := by rw [hl1]; exact ha.to (by kernel_rfl)
     replace f6 : Ow (tInt .i64) 3 (Wr nob w) w4.heap S3 (.slice A4 (copyL (List.replicate (Int.toNat (((gt x1 x2).Steps).length : Int)) (0 : Int)) ((gt x1 x2).Steps)).length c4) (copyL (List.replicate (Int.toNat (((gt x1 x2).Steps).length : Int)) (0 : Int)) ((gt x1 x2).Steps)) := by rw [hl1]; exact f6
     refine hK _ _ ?_
     clear hK
     refine reg ?_
     refine sg ha 3 [(0, vS (some ⟨b1, o1, none⟩) x1 c1), (6, vI (p0.length : Int)), (7, vI x2), (24, vS (some ⟨b1, o1, none⟩) x1 c1), (25, vI x2), (26, vS A4 (copyL (List.replicate (Int.toNat (((gt x1 x2).Steps).length : Int)) (0 : Int)) ((gt x1 x2).Steps)) c4)] w4 fun a ha => ?_
     obtain ⟨hi3, h⟩ := ite_some h
     obtain ⟨cs3, hr3, hc3⟩ := f1.rdb.at hi3
     obtain ⟨A6, c6, rfl, f7⟩ := hr3
     refine ov (vE b1 o1 x2 3) ha (obx w4 rfl rfl rfl Try.underlying31 rfl hi3) fun a ha => ?_
     refine sg ha 1 [(0, vS (some ⟨b1, o1, none⟩) x1 c1), (6, vI (p0.length : Int)), (7, vI x2), (26, vS A4 (copyL (List.replicate (Int.toNat (((gt x1 x2).Steps).length : Int)) (0 : Int)) ((gt x1 x2).Steps)) c4), (28, .pointer (some (((⟨b1, o1, none⟩ : Addr).add (x2.toNat * 3)).add 2)))] w4 fun a ha => ?_
     replace cx := cx.minus (v := vS A4 (copyL (List.replicate (Int.toNat (((gt x1 x2).Steps).length : Int)) (0 : Int)) ((gt x1 x2).Steps)) c4) (fun k hk => cx.mine (f6.own k hk).2)
     replace f1 := f1.minus d2
     replace f7 := f7.minus (v := vS A4 (copyL (List.replicate (Int.toNat (((gt x1 x2).Steps).length : Int)) (0 : Int)) ((gt x1 x2).Steps)) c4)
     replace f6 := f6.asSl
     refine op_setEl (T := tHop) (f := 2) (x' := (⟨(gt x1 x2).To, (gt x1 x2).Turn, (copyL (List.replicate (Int.toNat (((gt x1 x2).Steps).length : Int)) (0 : Int)) ((gt x1 x2).Steps))⟩ : MHop)) ha cx (by kernel_rfl) rfl rfl rfl wr_id f1 hi3 (by kernel_rfl) (add2_eq _ _ _ _) (by kernel_rfl) (fun H2 ecs kk hr => by obtain ⟨_, _, rfl, hh1⟩ := hr; exact ⟨_, _, rfl, f6.keep kk⟩) ?_
     intro w5 cx on2 kp3 f8 a ha
     have hl2 : ((x1.set (Int.toNat x2) (⟨(gt x1 x2).To, (gt x1 x2).Turn, (copyL (List.replicate (Int.toNat (((gt x1 x2).Steps).length : Int)) (0 : Int)) ((gt x1 x2).Steps))⟩ : MHop))).length = x1.length := List.length_set
     replace ha : Ag 31 [(0, .slice (some ⟨b1, o1, none⟩) (x1.set (Int.toNat x2) (⟨(gt x1 x2).To, (gt x1 x2).Turn, (copyL (List.replicate (Int.toNat (((gt x1 x2).Steps).length : Int)) (0 : Int)) ((gt x1 x2).Steps))⟩ : MHop)).length c1), (6, .int .i64 (p0.length : Int)), (7, .int .i64 x2)] a := by rw [hl2]; exact ha.to (by kernel_rfl)
     replace f8 : Ow tHop 27 (Wr W0 w) w5.heap (minus S3 (.slice A4 (copyL (List.replicate (Int.toNat (((gt x1 x2).Steps).length : Int)) (0 : Int)) ((gt x1 x2).Steps)).length c4)) (.slice (some ⟨b1, o1, none⟩) (x1.set (Int.toNat x2) (⟨(gt x1 x2).To, (gt x1 x2).Turn, (copyL (List.replicate (Int.toNat (((gt x1 x2).Steps).length : Int)) (0 : Int)) ((gt x1 x2).Steps))⟩ : MHop)).length c1) (x1.set (Int.toNat x2) (⟨(gt x1 x2).To, (gt x1 x2).Turn, (copyL (List.replicate (Int.toNat (((gt x1 x2).Steps).length : Int)) (0 : Int)) ((gt x1 x2).Steps))⟩ : MHop)) := by rw [hl2]; exact f8
     refine hK _ _ ?_
     clear hK
     refine reg ?_
     refine sg ha 2 [(0, vS (some ⟨b1, o1, none⟩) (x1.set (Int.toNat x2) (⟨(gt x1 x2).To, (gt x1 x2).Turn, (copyL (List.replicate (Int.toNat (((gt x1 x2).Steps).length : Int)) (0 : Int)) ((gt x1 x2).Steps))⟩ : MHop)) c1), (6, vI (p0.length : Int)), (7, vI (W (x2 + 1)))] w5 fun a ha => ?_
     obtain rfl := Option.some.inj h
     exact ⟨_, rfl, (minus S3 (vS A4 (copyL (List.replicate (Int.toNat (((gt x1 x2).Steps).length : Int)) (0 : Int)) ((gt x1 x2).Steps)) c4)), (some ⟨b1, o1, none⟩), c1, cx, f8, ha.to (by kernel_rfl)⟩
   · replace h := itF hb h
     refine wp_exit ?_
     obtain rfl := Option.some.inj h
     exact ⟨_, rfl, rfl, S1, A1, c1, cx, f1, ha.to (by kernel_rfl)⟩
 · exact ⟨S, A_p0, c_p0, cx, h_p0, ha.to (by kernel_rfl)⟩
 intro e a w2 hd
 generalize t1 = y1 at *
 obtain ⟨rfl, S2, A2, c2, cx, f2, ha⟩ := hd
 refine hK _ _ ?_
 clear hK
 refine sq fun K hK => ?_
 refine reg ?_
 refine sg ha 2 [(2, vS A2 y1 c2)] w2 fun a ha => ?_
 refine hK _ _ ?_
 clear hK
 refine wp_ret ?_
 obtain rfl := Option.some.inj h
 have hin : ∀ k, inL [vS A2 y1 c2] S k → S2 k := inL_sub cx.sub (all_cons (fun k hk => (f2.own k hk).1) all_nil)
 show bodyPost Try.prog Try.f52 (R52 w S W0 _) .ret a w2
 exact ret_1 (r1 := .tmp 2) (v1 := vS A2 y1 c2) ha rfl (.inl rfl) rfl ⟨_, rfl, cx.bel, ⟨_, _, rfl, f2.out hin (fun k hk => obl_at 0 rfl hk)⟩⟩
def post17 (w : World) (S : Off) (r : ((List MHop))) (v : Value) (w1 : World) : Prop := ∃ (A : Option Addr) (c : Nat), v = .slice A r.length c ∧ Ow tHop 27 (Wr nob w) w1.heap (inV v S) v r
abbrev R17 (w : World) (S : Off) (r : ((List MHop))) : Ending → World → Prop := fun e w1 => ∃ v, e = .returned v ∧ Below w.heap.size w w1 ∧ post17 w S r v w1
theorem ok17 (fuel : Nat) {w : World} {S : Off} (hS : ∀ b, S b → b < w.heap.size) {p0 : (List MTerm)} {p1 : Int} {A_p0 : Option Addr} {c_p0 : Nat} (h_p0 : Sl tTerm w.heap S A_p0 c_p0 p0) {r : ((List MHop))} (h : m_follow_First fuel p0 p1 = some r) :
 Calls Try.prog 17 #[vS A_p0 p0 c_p0, vI p1] w (R17 w S r) := by
 refine enterL (vs := [vS A_p0 p0 c_p0, vI p1]) Try.func17 rfl rfl ?_
 intro a ha
 have cx := Cx.start (W0 := nob) hS
 refine with_nop (noP_body _ _) (fun hq => ?_)
 unfold m_follow_First at h
 refine sq fun K hK => ?_
 refine reg ?_
 refine sg ha 1 [(0, vS A_p0 p0 c_p0), (1, vI p1)] w fun a ha => ?_
 refine hK _ _ ?_
 clear hK
 refine sq fun K hK => ?_
 refine reg ?_
 refine sg ha 1 [(0, vS A_p0 p0 c_p0), (1, vI p1), (8, vS A_p0 p0 c_p0)] w fun a ha => ?_
 obtain ⟨x1, hx1, h⟩ := obind h
 refine op_call ha (by kernel_rfl) (f := 51) (args := #[vS A_p0 p0 c_p0]) (w' := w) (by kernel_rfl) (ok51 fuel (p0 := p0) cx.lt h_p0 hx1) ?_
 rintro v1 w1 ⟨hb1, hp1⟩ a ha
 obtain ⟨u1, _, rfl, f1, rfl⟩ := hp1
 replace h_p0 := h_p0.keep (Keep.ext S hb1)
 replace cx := cx.ext hb1
 refine sg ha 5 [(0, vS A_p0 p0 c_p0), (1, vI p1), (5, u1), (6, vB x1.2)] w1 fun a ha => ?_
 refine hK _ _ ?_
 clear hK
 refine sq fun K hK => ?_
 refine sq fun K hK => ?_
 obtain ⟨q1, hj1, h⟩ := obind h
 refine wp_cutV (D := fun a w_ => ∃ x2 : Bool, x2 = q1 ∧ w1 = w_ ∧ Ag 28 [(1, vI p1), (5, u1), (23, vB x2)] a) ?_ ?_
 · clear h; have h := hj1
   refine reg ?_
   refine sg ha 3 [(0, vS A_p0 p0 c_p0), (1, vI p1), (5, u1), (14, vB (!x1.2))] w1 fun a ha => ?_
   refine split_b (t := 14) ha rfl (fun hb ha => ?_) (fun hb ha => ?_)
   · replace h := itT hb h
     refine sg ha 9 [(1, vI p1), (5, u1), (23, vB true)] w1 fun a ha => ?_
     obtain rfl := Option.some.inj h
     exact ⟨_, rfl, rfl, ha.to (by kernel_rfl)⟩
   · replace h := itF hb h
     refine sg ha 4 [(0, vS A_p0 p0 c_p0), (1, vI p1), (5, u1), (18, vB (decide (p1 < 0)))] w1 fun a ha => ?_
     refine split_b (t := 18) ha rfl (fun hb ha => ?_) (fun hb ha => ?_)
     · replace h := itT hb h
       refine sg ha 5 [(1, vI p1), (5, u1), (23, vB true)] w1 fun a ha => ?_
       obtain rfl := Option.some.inj h
       exact ⟨_, rfl, rfl, ha.to (by kernel_rfl)⟩
     · replace h := itF hb h
       refine sg ha 5 [(1, vI p1), (5, u1), (23, vB (decide (p1 ≥ (p0.length : Int))))] w1 fun a ha => ?_
       obtain rfl := Option.some.inj h
       exact ⟨_, rfl, rfl, ha.to (by kernel_rfl)⟩
 rintro a _ ⟨x2, rfl, rfl, ha⟩
 refine hK _ _ ?_
 clear hK
 refine cond_b ha rfl (fun hb => ?_) (fun hb => ?_)
 · replace h := itT hb h
   refine sq fun K hK => ?_
   refine reg ?_
   refine sg ha 1 [(4, .slice none 0 0)] w1 fun a ha => ?_
   refine hK _ _ ?_
   clear hK
   refine wp_ret ?_
   obtain rfl := Option.some.inj h
   show bodyPost Try.prog Try.f17 (R17 w S _) .ret a w1
   exact ret_1 (r1 := .tmp 4) (v1 := .slice none 0 0) ha rfl (.inl rfl) rfl ⟨_, rfl, cx.below, ⟨_, _, rfl, Ow.nil⟩⟩
 · replace h := itF hb h
   refine wp_skip ?_
   refine hK _ _ ?_
   clear hK
   refine sq fun K hK => ?_
   refine reg ?_
   obtain ⟨x3, hx2, h⟩ := obind h
   obtain ⟨b1, cs1, rfl, f2, hr1⟩ := f1.get hx2
   obtain ⟨A1, c1, A2, c2, A3, c3, A4, c4, A5, c5, rfl, f3, f4, f5, f6, f7⟩ := hr1
   refine sg ha 2 [(24, vP b1), (25, vI p1)] w1 fun a ha => ?_
   obtain ⟨x4, hx3, h⟩ := obind h
   refine op_call ha (by kernel_rfl) (f := 53) (args := #[vP b1, vI p1, .slice none 0 0, .slice none 0 0]) (w' := w1) (by kernel_rfl) (ok53 fuel fuel (M := Wr nob w) (p0 := x3) (p1 := p1) (p2 := ([] : List Int)) (p3 := ([] : List MHop)) cx.lt f2 f3 f4 f5 f6 f7 Sl.nil Ow.nil hx3) ?_
   rintro v2 w2 ⟨hb2, hp2⟩ a ha
   obtain ⟨A6, c6, rfl, f8⟩ := hp2
   have hu1 : ∀ k, obl [.slice none 0 0] k → S k ∧ Wr nob w k := (all_cons nil_all all_nil)
   have hv1 : ∀ k, obl [vS A6 x4 c6] k → k < w2.heap.size ∧ Wr (obl [.slice none 0 0]) w1 k := (all_cons (fun k hk => ⟨f8.lt k hk, (f8.own k hk).2⟩) all_nil)
   obtain ⟨cxn1, kp1, hs1, hn1⟩ := back cx hu1 hb2 hv1
   generalize inL [vS A6 x4 c6] S = S1 at cxn1 kp1 hs1 f8
   replace f8 := f8.weak (fun k hk => back_wr cx hu1 (f8.own k hk).2)
   replace cx := cxn1
   obtain ⟨x5, hx4, h⟩ := obind h
   refine op_call ha (by kernel_rfl) (f := 52) (args := #[vS A6 x4 c6]) (w' := w2) (by kernel_rfl) (ok52 fuel (M := Wr nob w) (p0 := x4) cx.lt f8 hx4) ?_
   rintro v3 w3 ⟨hb3, hp3⟩ a ha
   obtain ⟨A7, c7, rfl, f9⟩ := hp3
   have hu2 : ∀ k, obl [vS A6 x4 c6] k → S1 k ∧ Wr nob w k := (all_cons f8.own all_nil)
   have hv2 : ∀ k, obl [vS A7 x5 c7] k → k < w3.heap.size ∧ Wr (obl [vS A6 x4 c6]) w2 k := (all_cons (fun k hk => ⟨f9.lt k hk, (f9.own k hk).2⟩) all_nil)
   obtain ⟨cxn2, kp2, hs2, hn2⟩ := back cx hu2 hb3 hv2
   generalize inL [vS A7 x5 c7] S1 = S2 at cxn2 kp2 hs2 f9
   replace f9 := f9.weak (fun k hk => back_wr cx hu2 (f9.own k hk).2)
   replace cx := cxn2
   refine sg ha 1 [(4, vS A7 x5 c7)] w3 fun a ha => ?_
   refine hK _ _ ?_
   clear hK
   refine wp_ret ?_
   obtain rfl := Option.some.inj h
   show bodyPost Try.prog Try.f17 (R17 w S _) .ret a w3
   exact ret_1 (r1 := .tmp 4) (v1 := vS A7 x5 c7) ha rfl (.inl rfl) rfl ⟨_, rfl, cx.below, ⟨_, _, rfl, f9.result cx.sub⟩⟩
def post19 (w : World) (S : Off) (r : ((List MHop))) (v : Value) (w1 : World) : Prop := ∃ (A : Option Addr) (c : Nat), v = .slice A r.length c ∧ Ow tHop 27 (Wr nob w) w1.heap (inV v S) v r
abbrev R19 (w : World) (S : Off) (r : ((List MHop))) : Ending → World → Prop := fun e w1 => ∃ v, e = .returned v ∧ Below w.heap.size w w1 ∧ post19 w S r v w1
theorem ok19 (fuel : Nat) {w : World} {S : Off} (hS : ∀ b, S b → b < w.heap.size) {p0 : (List MTerm)} {p1 : Int} {A_p0 : Option Addr} {c_p0 : Nat} (h_p0 : Sl tTerm w.heap S A_p0 c_p0 p0) {r : ((List MHop))} (h : m_follow_From fuel p0 p1 = some r) :
 Calls Try.prog 19 #[vS A_p0 p0 c_p0, vI p1] w (R19 w S r) := by
 refine enterL (vs := [vS A_p0 p0 c_p0, vI p1]) Try.func19 rfl rfl ?_
 intro a ha
 have cx := Cx.start (W0 := nob) hS
 refine with_nop (noP_body _ _) (fun hq => ?_)
 unfold m_follow_From at h
 refine sq fun K hK => ?_
 refine reg ?_
 refine sg ha 1 [(0, vS A_p0 p0 c_p0), (1, vI p1)] w fun a ha => ?_
 refine hK _ _ ?_
 clear hK
 refine sq fun K hK => ?_
 refine reg ?_
 refine sg ha 2 [(11, vS A_p0 p0 c_p0), (12, vI p1)] w fun a ha => ?_
 obtain ⟨x1, hx1, h⟩ := obind h
 refine op_call ha (by kernel_rfl) (f := 47) (args := #[vS A_p0 p0 c_p0, vI p1]) (w' := w) (by kernel_rfl) (ok47 fuel (p0 := p0) (p1 := p1) cx.lt h_p0 hx1) ?_
 rintro v1 w1 ⟨hb1, hp1⟩ a ha
 obtain ⟨u1, _, _, rfl, f1, rfl, rfl⟩ := hp1
 replace cx := cx.ext hb1
 refine sg ha 7 [(5, u1), (6, vI x1.2.1), (7, vB x1.2.2)] w1 fun a ha => ?_
 refine hK _ _ ?_
 clear hK
 refine sq fun K hK => ?_
 refine sq fun K hK => ?_
 refine reg ?_
 refine sg ha 2 [(5, u1), (6, vI x1.2.1), (18, vB (!x1.2.2))] w1 fun a ha => ?_
 refine hK _ _ ?_
 clear hK
 refine cond_b ha rfl (fun hb => ?_) (fun hb => ?_)
 · replace h := itT hb h
   refine sq fun K hK => ?_
   refine reg ?_
   refine sg ha 1 [(4, .slice none 0 0)] w1 fun a ha => ?_
   refine hK _ _ ?_
   clear hK
   refine wp_ret ?_
   obtain rfl := Option.some.inj h
   show bodyPost Try.prog Try.f19 (R19 w S _) .ret a w1
   exact ret_1 (r1 := .tmp 4) (v1 := .slice none 0 0) ha rfl (.inl rfl) rfl ⟨_, rfl, cx.below, ⟨_, _, rfl, Ow.nil⟩⟩
 · replace h := itF hb h
   refine wp_skip ?_
   refine hK _ _ ?_
   clear hK
   refine sq fun K hK => ?_
   refine reg ?_
   obtain ⟨x2, hx2, h⟩ := obind h
   obtain ⟨b1, cs1, rfl, f2, hr1⟩ := f1.get hx2
   obtain ⟨A1, c1, A2, c2, A3, c3, A4, c4, A5, c5, rfl, f3, f4, f5, f6, f7⟩ := hr1
   refine sg ha 2 [(20, vP b1), (21, vI x1.2.1)] w1 fun a ha => ?_
   obtain ⟨x3, hx3, h⟩ := obind h
   refine op_call ha (by kernel_rfl) (f := 48) (args := #[vP b1, vI x1.2.1]) (w' := w1) (by kernel_rfl) (ok48 fuel (p0 := x2) (p1 := x1.2.1) cx.lt f2 f3 f4 f5 f6 f7 hx3) ?_
   rintro v2 w2 ⟨hb2, hp2⟩ a ha
   obtain ⟨A6, c6, A7, c7, rfl, f8, f9⟩ := hp2
   have hu1 : ∀ k, obl [] k → S k ∧ Wr nob w k := all_nil
   have hv1 : ∀ k, obl [vS A6 x3.1 c6] k → k < w2.heap.size ∧ Wr (obl []) w1 k := (all_cons (fun k hk => ⟨f8.lt k hk, (f8.own k hk).2⟩) all_nil)
   obtain ⟨cxn1, kp1, hs1, hn1⟩ := back cx hu1 hb2 hv1
   generalize inL [vS A6 x3.1 c6] S = S1 at cxn1 kp1 hs1 f8 f9
   replace f8 := f8.weak (fun k hk => back_wr cx hu1 (f8.own k hk).2)
   replace cx := cxn1
   refine sg ha 5 [(8, vS A6 x3.1 c6)] w2 fun a ha => ?_
   refine hK _ _ ?_
   clear hK
   refine sq fun K hK => ?_
   refine reg ?_
   refine sg ha 1 [(8, vS A6 x3.1 c6), (25, vS A6 x3.1 c6)] w2 fun a ha => ?_
   obtain ⟨hp3, h⟩ := ite_some h
   refine op_call ha (by kernel_rfl) (f := 56) (args := #[vS A6 x3.1 c6, .func (.func 57) #[] #[]]) (w' := w2) (by kernel_rfl) (sort_call (T := tHop) (key := MHop.To) Try.srtL rfl Try.srtA Try.srtZ Try.srtE Try.srtC cx wr_id (by rintro _ _ _ ⟨_, _, rfl, _⟩; exact ⟨_, _, rfl⟩) rfl f8 hp3) ?_
   rintro v3 w3 ⟨rfl, cx, on1, kp2, f10⟩ a ha
   have hl1 : ((sortK MHop.To x3.1)).length = x3.1.length := sortK_len _ _
   replace ha : Ag 29 [(8, .slice A6 (sortK MHop.To x3.1).length c6)] a := by rw [hl1]; exact ha.to (by kernel_rfl)
   replace f10 : Ow tHop 27 (Wr nob w) w3.heap S1 (.slice A6 (sortK MHop.To x3.1).length c6) (sortK MHop.To x3.1) := by rw [hl1]; exact f10
   refine hK _ _ ?_
   clear hK
   refine sq fun K hK => ?_
   refine reg ?_
   refine sg ha 1 [(27, vS A6 (sortK MHop.To x3.1) c6)] w3 fun a ha => ?_
   obtain ⟨x4, hx4, h⟩ := obind h
   refine op_call ha (by kernel_rfl) (f := 52) (args := #[vS A6 (sortK MHop.To x3.1) c6]) (w' := w3) (by kernel_rfl) (ok52 fuel (M := Wr nob w) (p0 := (sortK MHop.To x3.1)) cx.lt f10 hx4) ?_
   rintro v4 w4 ⟨hb3, hp4⟩ a ha
   obtain ⟨A8, c8, rfl, f11⟩ := hp4
   have hu2 : ∀ k, obl [vS A6 (sortK MHop.To x3.1) c6] k → S1 k ∧ Wr nob w k := (all_cons f10.own all_nil)
   have hv2 : ∀ k, obl [vS A8 x4 c8] k → k < w4.heap.size ∧ Wr (obl [vS A6 (sortK MHop.To x3.1) c6]) w3 k := (all_cons (fun k hk => ⟨f11.lt k hk, (f11.own k hk).2⟩) all_nil)
   obtain ⟨cxn2, kp3, hs2, hn2⟩ := back cx hu2 hb3 hv2
   generalize inL [vS A8 x4 c8] S1 = S2 at cxn2 kp3 hs2 f11
   replace f11 := f11.weak (fun k hk => back_wr cx hu2 (f11.own k hk).2)
   replace cx := cxn2
   refine sg ha 1 [(4, vS A8 x4 c8)] w4 fun a ha => ?_
   refine hK _ _ ?_
   clear hK
   refine wp_ret ?_
   obtain rfl := Option.some.inj h
   show bodyPost Try.prog Try.f19 (R19 w S _) .ret a w4
   exact ret_1 (r1 := .tmp 4) (v1 := vS A8 x4 c8) ha rfl (.inl rfl) rfl ⟨_, rfl, cx.below, ⟨_, _, rfl, f11.result cx.sub⟩⟩
end Go.Proofs.Ytfhehbfifffipaa
