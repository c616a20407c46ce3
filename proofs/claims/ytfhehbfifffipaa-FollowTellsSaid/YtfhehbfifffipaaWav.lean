/- What the functions compute is what the program does. Its conditions: none. -/
import Derived.Test.YtfhehbfifffipaaVShort
import Derived.Test.YtfhehbfifffipaaTy
import Derived.Test.YtfhehbfifffipaaWad
import Derived.Test.YtfhehbfifffipaaWae
import Derived.Test.YtfhehbfifffipaaWam
import Derived.Test.YtfhehbfifffipaaWao
import Derived.Test.YtfhehbfifffipaaWap
set_option maxRecDepth 20000
set_option autoImplicit false
namespace Go.Proofs.Ytfhehbfifffipaa
open Go.V Go.RowKit
set_option linter.unusedVariables false
def post21 (w : World) (S : Off) (r : (Bool)) (v : Value) (w1 : World) : Prop := v = .bool r
abbrev R21 (w : World) (S : Off) (r : (Bool)) : Ending → World → Prop := fun e w1 => ∃ v, e = .returned v ∧ Below w.heap.size w w1 ∧ post21 w S r v w1
theorem ok21 (fuel : Nat) {w : World} {S : Off} (hS : ∀ b, S b → b < w.heap.size) {p0 : MHop} {p1 : MHop} {A_p0_2 : Option Addr} {c_p0_2 : Nat} (h_p0_2 : Sl (tInt .i64) w.heap S A_p0_2 c_p0_2 p0.Steps) {A_p1_2 : Option Addr} {c_p1_2 : Nat} (h_p1_2 : Sl (tInt .i64) w.heap S A_p1_2 c_p1_2 p1.Steps) {r : (Bool)} (h : m_ref17_Same fuel p0 p1 = some r) :
 Calls Try.prog 21 #[.agg #[vI p0.To, vI p0.Turn, vS A_p0_2 p0.Steps c_p0_2], .agg #[vI p1.To, vI p1.Turn, vS A_p1_2 p1.Steps c_p1_2]] w (R21 w S r) := by
 refine enterL (vs := [.agg #[vI p0.To, vI p0.Turn, vS A_p0_2 p0.Steps c_p0_2], .agg #[vI p1.To, vI p1.Turn, vS A_p1_2 p1.Steps c_p1_2]]) Try.func21 rfl rfl ?_
 intro a ha
 have cx := Cx.start (W0 := nob) hS
 refine with_nop (noP_body _ _) (fun hq => ?_)
 unfold m_ref17_Same at h
 refine sq fun K hK => ?_
 refine reg ?_
 refine op_new (V := fun b => vP b) (cs := [vI p0.To, vI p0.Turn, vS A_p0_2 p0.Steps c_p0_2]) (T := 27) ha (by kernel_rfl) (by kernel_rfl) ?_
 intro w1 b1 hb1 hk1 he1 _ a ha
 have f1 := Bx.new cx hk1 he1
 replace h_p1_2 := h_p1_2.keep (Keep.ext S hb1)
 replace h_p0_2 := h_p0_2.keep (Keep.ext S hb1)
 replace cx := cx.ext hb1
 refine op_new (V := fun b => vP b) (cs := [vI p1.To, vI p1.Turn, vS A_p1_2 p1.Steps c_p1_2]) (T := 27) ha (by kernel_rfl) (by kernel_rfl) ?_
 intro w2 b2 hb2 hk2 he2 _ a ha
 have f2 := Bx.new cx hk2 he2
 replace f1 := f1.keep (Keep.ext S hb2)
 replace h_p0_2 := h_p0_2.keep (Keep.ext S hb2)
 replace h_p1_2 := h_p1_2.keep (Keep.ext S hb2)
 replace cx := cx.ext hb2
 refine sg ha 1 [(2, vP b1), (3, vP b2)] w2 fun a ha => ?_
 refine hK _ _ ?_
 clear hK
 refine sq fun K hK => ?_
 refine sq fun K hK => ?_
 obtain ⟨q1, hj1, h⟩ := obind h
 refine wp_cutV (D := fun a w_ => ∃ x1 : Bool, x1 = q1 ∧ w2 = w_ ∧ Ag 45 [(2, vP b1), (3, vP b2), (26, vB x1)] a) ?_ ?_
 · clear h; have h := hj1
   refine reg ?_
   refine sg ha 1 [(2, vP b1), (3, vP b2), (6, vF b1 0)] w2 fun a ha => ?_
   refine ov (.int .i64 p0.To) ha (ob_load w2 rfl rfl Try.underlying3 rfl ((cell_add1 _ _ _ _).trans (by rw [Nat.zero_add]; exact f1.cell 0 _ rfl))) fun a ha => ?_
   refine sg ha 1 [(2, vP b1), (3, vP b2), (7, vI p0.To), (8, vF b2 0)] w2 fun a ha => ?_
   refine ov (.int .i64 p1.To) ha (ob_load w2 rfl rfl Try.underlying3 rfl ((cell_add1 _ _ _ _).trans (by rw [Nat.zero_add]; exact f2.cell 0 _ rfl))) fun a ha => ?_
   refine sg ha 2 [(2, vP b1), (3, vP b2), (11, vB (p0.To != p1.To))] w2 fun a ha => ?_
   refine split_b (t := 11) ha rfl (fun hb ha => ?_) (fun hb ha => ?_)
   · replace h := itT hb h
     refine sg ha 15 [(2, vP b1), (3, vP b2), (26, vB true)] w2 fun a ha => ?_
     obtain rfl := Option.some.inj h
     exact ⟨_, rfl, rfl, ha.to (by kernel_rfl)⟩
   · replace h := itF hb h
     refine sg ha 1 [(2, vP b1), (3, vP b2), (11, vB false), (12, vF b1 1)] w2 fun a ha => ?_
     refine ov (.int .i64 p0.Turn) ha (ob_load w2 rfl rfl Try.underlying3 rfl ((cell_add1 _ _ _ _).trans (by rw [Nat.zero_add]; exact f1.cell 1 _ rfl))) fun a ha => ?_
     refine sg ha 1 [(2, vP b1), (3, vP b2), (11, vB false), (13, vI p0.Turn), (14, vF b2 1)] w2 fun a ha => ?_
     refine ov (.int .i64 p1.Turn) ha (ob_load w2 rfl rfl Try.underlying3 rfl ((cell_add1 _ _ _ _).trans (by rw [Nat.zero_add]; exact f2.cell 1 _ rfl))) fun a ha => ?_
     refine sg ha 3 [(2, vP b1), (3, vP b2), (18, vB (p0.Turn != p1.Turn))] w2 fun a ha => ?_
     refine split_b (t := 18) ha rfl (fun hb ha => ?_) (fun hb ha => ?_)
     · replace h := itT hb h
       refine sg ha 8 [(2, vP b1), (3, vP b2), (26, vB true)] w2 fun a ha => ?_
       obtain rfl := Option.some.inj h
       exact ⟨_, rfl, rfl, ha.to (by kernel_rfl)⟩
     · replace h := itF hb h
       refine sg ha 1 [(2, vP b1), (3, vP b2), (18, vB false), (19, vF b1 2)] w2 fun a ha => ?_
       refine ov (.slice A_p0_2 p0.Steps.length c_p0_2) ha (ob_load w2 rfl rfl Try.underlying25 rfl ((cell_add1 _ _ _ _).trans (by rw [Nat.zero_add]; exact f1.cell 2 _ rfl))) fun a ha => ?_
       refine sg ha 2 [(2, vP b1), (3, vP b2), (18, vB false), (21, vI (p0.Steps.length : Int)), (22, vF b2 2)] w2 fun a ha => ?_
       refine ov (.slice A_p1_2 p1.Steps.length c_p1_2) ha (ob_load w2 rfl rfl Try.underlying25 rfl ((cell_add1 _ _ _ _).trans (by rw [Nat.zero_add]; exact f2.cell 2 _ rfl))) fun a ha => ?_
       refine sg ha 3 [(2, vP b1), (3, vP b2), (26, vB ((p0.Steps.length : Int) != (p1.Steps.length : Int)))] w2 fun a ha => ?_
       obtain rfl := Option.some.inj h
       exact ⟨_, rfl, rfl, ha.to (by kernel_rfl)⟩
 rintro a _ ⟨x1, rfl, rfl, ha⟩
 refine hK _ _ ?_
 clear hK
 refine cond_b ha rfl (fun hb => ?_) (fun hb => ?_)
 · replace h := itT hb h
   refine sq fun K hK => ?_
   refine reg ?_
   refine sg ha 1 [(4, vB false)] w2 fun a ha => ?_
   refine hK _ _ ?_
   clear hK
   refine wp_ret ?_
   obtain rfl := Option.some.inj h
   show bodyPost Try.prog Try.f21 (R21 w S _) .ret a w2
   exact ret_1 (r1 := .tmp 4) (v1 := vB false) ha rfl (.inl rfl) rfl ⟨_, rfl, cx.below, rfl⟩
 · replace h := itF hb h
   refine wp_skip ?_
   refine hK _ _ ?_
   clear hK
   refine sq fun K hK => ?_
   refine sq fun K hK => ?_
   refine reg ?_
   refine sg ha 1 [(2, vP b1), (3, vP b2), (5, vI 0)] w2 fun a ha => ?_
   refine hK _ _ ?_
   clear hK
   refine wp_block ?_
   obtain ⟨t1, ht1, h⟩ := obind h
   refine wp_mono (wp_iter (step := (m_ref17_Same_l1 fuel p0 p1)) (I := fun (s : Int) a w3 => match s with | x2 => ∃ (S1 : Off), Cx w nob S w3 S1 ∧ Bx w3.heap S1 b1 27 [vI p0.To, vI p0.Turn, vS A_p0_2 p0.Steps c_p0_2] ∧ Sl (tInt .i64) w3.heap S1 A_p0_2 c_p0_2 p0.Steps ∧ Bx w3.heap S1 b2 27 [vI p1.To, vI p1.Turn, vS A_p1_2 p1.Steps c_p1_2] ∧ Sl (tInt .i64) w3.heap S1 A_p1_2 c_p1_2 p1.Steps ∧ Ag 45 [(2, vP b1), (3, vP b2), (5, vI x2)] a) (D := fun (t : (Unit) ⊕ (Bool)) e a w4 => match t with | .inl () => e = .exit 0 ∧ ∃ (S2 : Off), Cx w nob S w4 S2 ∧ Ag 45 [] a | .inr r => e = .ret ∧ bodyPost Try.prog Try.f21 (R21 w S r) .ret a w4) ?_ fuel _ t1 a _ ht1 ?_) ?_
   · clear h ht1
     rintro x2 ct a w3 ⟨S1, cx, f1, h_p0_2, f2, h_p1_2, ha⟩ h
     refine with_nop (NoP.loop (fun t c a w h => by cases t <;> exact absurd h.1 (by simp))) (fun hq => ?_)
     unfold m_ref17_Same_l1 at h
     refine sq fun K hK => ?_
     refine sq fun K hK => ?_
     refine reg ?_
     refine sg ha 2 [(2, vP b1), (3, vP b2), (5, vI x2), (27, vI x2), (28, vF b1 2)] w3 fun a ha => ?_
     refine ov (.slice A_p0_2 p0.Steps.length c_p0_2) ha (ob_load w3 rfl rfl Try.underlying25 rfl ((cell_add1 _ _ _ _).trans (by rw [Nat.zero_add]; exact f1.cell 2 _ rfl))) fun a ha => ?_
     refine sg ha 2 [(2, vP b1), (3, vP b2), (5, vI x2), (31, vB (decide (x2 < (p0.Steps.length : Int))))] w3 fun a ha => ?_
     refine hK _ _ ?_
     clear hK
     refine cond_b ha rfl (fun hb => ?_) (fun hb => ?_)
     · replace h := itT hb h
       refine wp_skip ?_
       refine hK _ _ ?_
       clear hK
       refine sq fun K hK => ?_
       refine wp_block ?_
       refine sq fun K hK => ?_
       refine dr_start 11 S1 rfl ?_
       intro w5 e1 hb3
       replace f1 := f1.keep (Keep.ext S1 hb3)
       replace h_p0_2 := h_p0_2.keep (Keep.ext S1 hb3)
       replace f2 := f2.keep (Keep.ext S1 hb3)
       replace h_p1_2 := h_p1_2.keep (Keep.ext S1 hb3)
       replace cx := cx.ext hb3
       refine dk 0 (vF b1 2) ha hq rfl (Sd.start _ _ _ _) fun hsx a ha => ?_
       refine dv 1 (.slice A_p0_2 p0.Steps.length c_p0_2) ha hq rfl (fun w2 hw2 hw3 => ob_load w2 rfl rfl Try.underlying25 rfl ((cell_add1 _ _ _ _).trans (by rw [Nat.zero_add]; exact Sold.cell (hw3 (by kernel_rfl)) (f1.cell 2 _ rfl)))) hsx fun hsx a ha => ?_
       refine dk 2 (vI x2) ha hq rfl hsx fun hsx a ha => ?_
       obtain ⟨hi1, h⟩ := ite_some h
       obtain ⟨b3, o1, cs1, rfl, hr1, hc1⟩ := h_p0_2.rdb.get hi1
       obtain rfl := hr1
       refine dv 3 (vE b3 o1 x2 1) ha hq rfl (fun w2 hw2 hw3 => obx w2 rfl rfl rfl Try.underlying25 rfl hi1) hsx fun hsx a ha => ?_
       refine dv 4 (vI (gt p0.Steps x2)) ha hq rfl (fun w2 hw2 hw3 => ob_load w2 rfl rfl Try.underlying3 rfl ((cell_add1 _ _ _ _).trans (Sold.cell (hw3 (by kernel_rfl)) (hc1 0 _ rfl)))) hsx fun hsx a ha => ?_
       refine dk 5 (vF b2 2) ha hq rfl hsx fun hsx a ha => ?_
       refine dv 6 (.slice A_p1_2 p1.Steps.length c_p1_2) ha hq rfl (fun w2 hw2 hw3 => ob_load w2 rfl rfl Try.underlying25 rfl ((cell_add1 _ _ _ _).trans (by rw [Nat.zero_add]; exact Sold.cell (hw3 (by kernel_rfl)) (f2.cell 2 _ rfl)))) hsx fun hsx a ha => ?_
       refine dk 7 (vI x2) ha hq rfl hsx fun hsx a ha => ?_
       obtain ⟨hi2, h⟩ := ite_some h
       obtain ⟨b4, o2, cs2, rfl, hr2, hc2⟩ := h_p1_2.rdb.get hi2
       obtain rfl := hr2
       refine dv 8 (vE b4 o2 x2 1) ha hq rfl (fun w2 hw2 hw3 => obx w2 rfl rfl rfl Try.underlying25 rfl hi2) hsx fun hsx a ha => ?_
       refine dv 9 (vI (gt p1.Steps x2)) ha hq rfl (fun w2 hw2 hw3 => ob_load w2 rfl rfl Try.underlying3 rfl ((cell_add1 _ _ _ _).trans (Sold.cell (hw3 (by kernel_rfl)) (hc2 0 _ rfl)))) hsx fun hsx a ha => ?_
       refine dk 10 (vB ((gt p0.Steps x2) != (gt p1.Steps x2))) ha hq rfl hsx fun hsx a ha => ?_
       refine dr_done (by kernel_rfl) ?_
       replace ha := ha.to (l' := [(2, vP b1), (3, vP b2), (5, vI x2), (44, vB ((gt p0.Steps x2) != (gt p1.Steps x2)))]) (by kernel_rfl)
       refine hK _ _ ?_
       clear hK
       refine cond_b ha rfl (fun hb => ?_) (fun hb => ?_)
       · replace h := itT hb h
         refine sq fun K hK => ?_
         refine reg ?_
         refine sg ha 1 [(4, vB false)] w5 fun a ha => ?_
         refine hK _ _ ?_
         clear hK
         refine wp_ret ?_
         obtain rfl := Option.some.inj h
         refine ⟨_, rfl, rfl, ?_⟩
         show bodyPost Try.prog Try.f21 (R21 w S _) .ret a w5
         exact ret_1 (r1 := .tmp 4) (v1 := vB false) ha rfl (.inl rfl) rfl ⟨_, rfl, cx.below, rfl⟩
       · replace h := itF hb h
         refine wp_skip ?_
         refine hK _ _ ?_
         clear hK
         refine reg ?_
         refine sg ha 3 [(2, vP b1), (3, vP b2), (5, vI (W (x2 + 1)))] w5 fun a ha => ?_
         obtain rfl := Option.some.inj h
         exact ⟨_, rfl, S1, cx, f1, h_p0_2, f2, h_p1_2, ha.to (by kernel_rfl)⟩
     · replace h := itF hb h
       refine wp_exit ?_
       obtain rfl := Option.some.inj h
       exact ⟨_, rfl, rfl, S1, cx, ha.to (by kernel_rfl)⟩
   · exact ⟨S, cx, f1, h_p0_2, f2, h_p1_2, ha.to (by kernel_rfl)⟩
   intro e a w4 hd
   cases t1 with
   | inr r1 =>
    obtain ⟨rfl, hd⟩ := hd
    obtain rfl := Option.some.inj h
    exact hd
   | inl oo1 =>
    obtain ⟨rfl, S2, cx, ha⟩ := hd
    refine hK _ _ ?_
    clear hK
    refine sq fun K hK => ?_
    refine reg ?_
    refine sg ha 1 [(4, vB true)] w4 fun a ha => ?_
    refine hK _ _ ?_
    clear hK
    refine wp_ret ?_
    obtain rfl := Option.some.inj h
    show bodyPost Try.prog Try.f21 (R21 w S _) .ret a w4
    exact ret_1 (r1 := .tmp 4) (v1 := vB true) ha rfl (.inl rfl) rfl ⟨_, rfl, cx.below, rfl⟩
def post16 (w : World) (S : Off) (r : (Bool)) (v : Value) (w1 : World) : Prop := v = .bool r
abbrev R16 (w : World) (S : Off) (r : (Bool)) : Ending → World → Prop := fun e w1 => ∃ v, e = .returned v ∧ Below w.heap.size w w1 ∧ post16 w S r v w1
theorem ok16 (fuel : Nat) {w : World} {S : Off} (hS : ∀ b, S b → b < w.heap.size) {p0 : (List MHop)} {p1 : (List MHop)} {A_p0 : Option Addr} {c_p0 : Nat} (h_p0 : Sl tHop w.heap S A_p0 c_p0 p0) {A_p1 : Option Addr} {c_p1 : Nat} (h_p1 : Sl tHop w.heap S A_p1 c_p1 p1) {r : (Bool)} (h : m_ref17_All fuel p0 p1 = some r) :
 Calls Try.prog 16 #[vS A_p0 p0 c_p0, vS A_p1 p1 c_p1] w (R16 w S r) := by
 refine enterL (vs := [vS A_p0 p0 c_p0, vS A_p1 p1 c_p1]) Try.func16 rfl rfl ?_
 intro a ha
 have cx := Cx.start (W0 := nob) hS
 refine with_nop (noP_body _ _) (fun hq => ?_)
 unfold m_ref17_All at h
 refine sq fun K hK => ?_
 refine reg ?_
 refine sg ha 1 [(0, vS A_p0 p0 c_p0), (1, vS A_p1 p1 c_p1)] w fun a ha => ?_
 refine hK _ _ ?_
 clear hK
 refine sq fun K hK => ?_
 refine sq fun K hK => ?_
 refine reg ?_
 refine sg ha 5 [(0, vS A_p0 p0 c_p0), (1, vS A_p1 p1 c_p1), (10, vB ((p0.length : Int) != (p1.length : Int)))] w fun a ha => ?_
 refine hK _ _ ?_
 clear hK
 refine cond_b ha rfl (fun hb => ?_) (fun hb => ?_)
 · replace h := itT hb h
   refine sq fun K hK => ?_
   refine reg ?_
   refine sg ha 1 [(4, vB false)] w fun a ha => ?_
   refine hK _ _ ?_
   clear hK
   refine wp_ret ?_
   obtain rfl := Option.some.inj h
   show bodyPost Try.prog Try.f16 (R16 w S _) .ret a w
   exact ret_1 (r1 := .tmp 4) (v1 := vB false) ha rfl (.inl rfl) rfl ⟨_, rfl, cx.below, rfl⟩
 · replace h := itF hb h
   refine wp_skip ?_
   refine hK _ _ ?_
   clear hK
   refine sq fun K hK => ?_
   refine sq fun K hK => ?_
   refine reg ?_
   refine sg ha 1 [(0, vS A_p0 p0 c_p0), (1, vS A_p1 p1 c_p1), (5, vI 0)] w fun a ha => ?_
   refine hK _ _ ?_
   clear hK
   refine wp_block ?_
   obtain ⟨t1, ht1, h⟩ := obind h
   refine wp_mono (wp_iter (step := (m_ref17_All_l1 fuel p0 p1)) (I := fun (s : Int) a w1 => match s with | x1 => ∃ (S1 : Off), Cx w nob S w1 S1 ∧ Sl tHop w1.heap S1 A_p0 c_p0 p0 ∧ Sl tHop w1.heap S1 A_p1 c_p1 p1 ∧ Ag 27 [(0, vS A_p0 p0 c_p0), (1, vS A_p1 p1 c_p1), (5, vI x1)] a) (D := fun (t : (Unit) ⊕ (Bool)) e a w2 => match t with | .inl () => e = .exit 0 ∧ ∃ (S2 : Off), Cx w nob S w2 S2 ∧ Ag 27 [] a | .inr r => e = .ret ∧ bodyPost Try.prog Try.f16 (R16 w S r) .ret a w2) ?_ fuel _ t1 a _ ht1 ?_) ?_
   · clear h ht1
     rintro x1 ct a w1 ⟨S1, cx, h_p0, h_p1, ha⟩ h
     refine with_nop (NoP.loop (fun t c a w h => by cases t <;> exact absurd h.1 (by simp))) (fun hq => ?_)
     unfold m_ref17_All_l1 at h
     refine sq fun K hK => ?_
     refine sq fun K hK => ?_
     refine reg ?_
     refine sg ha 4 [(0, vS A_p0 p0 c_p0), (1, vS A_p1 p1 c_p1), (5, vI x1), (14, vB (decide (x1 < (p0.length : Int))))] w1 fun a ha => ?_
     refine hK _ _ ?_
     clear hK
     refine cond_b ha rfl (fun hb => ?_) (fun hb => ?_)
     · replace h := itT hb h
       refine wp_skip ?_
       refine hK _ _ ?_
       clear hK
       refine sq fun K hK => ?_
       refine wp_block ?_
       refine sq fun K hK => ?_
       refine dr_start 10 S1 rfl ?_
       intro w3 e1 hb1
       replace h_p0 := h_p0.keep (Keep.ext S1 hb1)
       replace h_p1 := h_p1.keep (Keep.ext S1 hb1)
       replace cx := cx.ext hb1
       have hkk := Keep.refl w3.heap S1
       have hold := Sold.start w3
       have g1 := h_p0
       have g2 := h_p1
       refine dk 0 (vS A_p0 p0 c_p0) ha hq rfl (Sd.start _ _ _ _) fun hsx a ha => ?_
       refine dk 1 (vI x1) ha hq rfl hsx fun hsx a ha => ?_
       obtain ⟨hi1, h⟩ := ite_some h
       obtain ⟨b1, o1, cs1, rfl, hr1, hc1⟩ := g1.rdb.get hi1
       obtain ⟨A1, c1, rfl, f1⟩ := hr1
       have g3 := f1
       replace f1 := f1.keep hkk
       refine dv 2 (vE b1 o1 x1 3) ha hq rfl (fun w2 hw2 hw3 => obx w2 rfl rfl rfl Try.underlying31 rfl hi1) hsx fun hsx a ha => ?_
       refine dv 3 (.agg #[vI ((gt p0 x1).To), vI ((gt p0 x1).Turn), vS A1 ((gt p0 x1).Steps) c1]) ha hq rfl (fun w2 hw2 hw3 => ob_loadn (cs := [vI ((gt p0 x1).To), vI ((gt p0 x1).Turn), vS A1 ((gt p0 x1).Steps) c1]) w2 rfl rfl Try.underlying27 rfl (by kernel_rfl) (fun j v hj => (cell_add2 _ _ _ _ _).trans (Sk.cell (g1.off hi1) hw2 (hc1 j v hj)))) hsx fun hsx a ha => ?_
       refine dk 4 (vS A_p1 p1 c_p1) ha hq rfl hsx fun hsx a ha => ?_
       refine dk 5 (vI x1) ha hq rfl hsx fun hsx a ha => ?_
       obtain ⟨hi2, h⟩ := ite_some h
       obtain ⟨b2, o2, cs2, rfl, hr2, hc2⟩ := g2.rdb.get hi2
       obtain ⟨A2, c2, rfl, f2⟩ := hr2
       have g4 := f2
       replace f2 := f2.keep hkk
       refine dv 6 (vE b2 o2 x1 3) ha hq rfl (fun w2 hw2 hw3 => obx w2 rfl rfl rfl Try.underlying31 rfl hi2) hsx fun hsx a ha => ?_
       refine dv 7 (.agg #[vI ((gt p1 x1).To), vI ((gt p1 x1).Turn), vS A2 ((gt p1 x1).Steps) c2]) ha hq rfl (fun w2 hw2 hw3 => ob_loadn (cs := [vI ((gt p1 x1).To), vI ((gt p1 x1).Turn), vS A2 ((gt p1 x1).Steps) c2]) w2 rfl rfl Try.underlying27 rfl (by kernel_rfl) (fun j v hj => (cell_add2 _ _ _ _ _).trans (Sk.cell (g2.off hi2) hw2 (hc2 j v hj)))) hsx fun hsx a ha => ?_
       refine dr_one (i := 8) (by kernel_rfl) rfl ?_
       obtain ⟨x2, hx1, h⟩ := obind h
       refine op_call ha (by kernel_rfl) (f := 21) (args := #[.agg #[vI ((gt p0 x1).To), vI ((gt p0 x1).Turn), vS A1 ((gt p0 x1).Steps) c1], .agg #[vI ((gt p1 x1).To), vI ((gt p1 x1).Turn), vS A2 ((gt p1 x1).Steps) c2]]) (w' := w3) (by kernel_rfl) (ok21 fuel (p0 := (gt p0 x1)) (p1 := (gt p1 x1)) cx.lt f1 f2 hx1) ?_
       rintro v1 w4 ⟨hb2, hp1⟩ a ha
       obtain rfl := hp1
       replace h_p0 := h_p0.keep (Keep.ext S1 hb2)
       replace h_p1 := h_p1.keep (Keep.ext S1 hb2)
       replace cx := cx.ext hb2
       replace hold := hold.ext hkk.size hb2
       replace hkk := hkk.trans (Keep.ext S1 hb2)
       refine dr_next (Sd.before hkk hold) ?_
       refine dk 9 (vB (!x2)) ha hq rfl (Sd.before hkk hold) fun hsx a ha => ?_
       refine dr_done (by kernel_rfl) ?_
       replace ha := ha.to (l' := [(0, vS (some ⟨b1, o1, none⟩) p0 c_p0), (1, vS (some ⟨b2, o2, none⟩) p1 c_p1), (5, vI x1), (26, vB (!x2))]) (by kernel_rfl)
       refine hK _ _ ?_
       clear hK
       refine cond_b ha rfl (fun hb => ?_) (fun hb => ?_)
       · replace h := itT hb h
         refine sq fun K hK => ?_
         refine reg ?_
         refine sg ha 1 [(4, vB false)] w4 fun a ha => ?_
         refine hK _ _ ?_
         clear hK
         refine wp_ret ?_
         obtain rfl := Option.some.inj h
         refine ⟨_, rfl, rfl, ?_⟩
         show bodyPost Try.prog Try.f16 (R16 w S _) .ret a w4
         exact ret_1 (r1 := .tmp 4) (v1 := vB false) ha rfl (.inl rfl) rfl ⟨_, rfl, cx.below, rfl⟩
       · replace h := itF hb h
         refine wp_skip ?_
         refine hK _ _ ?_
         clear hK
         refine reg ?_
         refine sg ha 3 [(0, vS (some ⟨b1, o1, none⟩) p0 c_p0), (1, vS (some ⟨b2, o2, none⟩) p1 c_p1), (5, vI (W (x1 + 1)))] w4 fun a ha => ?_
         obtain rfl := Option.some.inj h
         exact ⟨_, rfl, S1, cx, h_p0, h_p1, ha.to (by kernel_rfl)⟩
     · replace h := itF hb h
       refine wp_exit ?_
       obtain rfl := Option.some.inj h
       exact ⟨_, rfl, rfl, S1, cx, ha.to (by kernel_rfl)⟩
   · exact ⟨S, cx, h_p0, h_p1, ha.to (by kernel_rfl)⟩
   intro e a w2 hd
   cases t1 with
   | inr r1 =>
    obtain ⟨rfl, hd⟩ := hd
    obtain rfl := Option.some.inj h
    exact hd
   | inl oo1 =>
    obtain ⟨rfl, S2, cx, ha⟩ := hd
    refine hK _ _ ?_
    clear hK
    refine sq fun K hK => ?_
    refine reg ?_
    refine sg ha 1 [(4, vB true)] w2 fun a ha => ?_
    refine hK _ _ ?_
    clear hK
    refine wp_ret ?_
    obtain rfl := Option.some.inj h
    show bodyPost Try.prog Try.f16 (R16 w S _) .ret a w2
    exact ret_1 (r1 := .tmp 4) (v1 := vB true) ha rfl (.inl rfl) rfl ⟨_, rfl, cx.below, rfl⟩
def post3 (w : World) (S : Off) (r : (Bool)) (v : Value) (w1 : World) : Prop := v = .bool r
abbrev R3 (w : World) (S : Off) (r : (Bool)) : Ending → World → Prop := fun e w1 => ∃ v, e = .returned v ∧ Below w.heap.size w w1 ∧ post3 w S r v w1
theorem ok3 (fuel : Nat) {w : World} {S : Off} (hS : ∀ b, S b → b < w.heap.size) {p0 : (List MTerm)} {p1 : Int} {p2 : Int} {A_p0 : Option Addr} {c_p0 : Nat} (h_p0 : Sl tTerm w.heap S A_p0 c_p0 p0) {r : (Bool)} (h : m_law17_FollowTells fuel p0 p1 p2 = some r) :
 Calls Try.prog 3 #[vS A_p0 p0 c_p0, vI p1, vI p2] w (R3 w S r) := by
 refine enterL (vs := [vS A_p0 p0 c_p0, vI p1, vI p2]) Try.func3 rfl rfl ?_
 intro a ha
 have cx := Cx.start (W0 := nob) hS
 refine with_nop (noP_body _ _) (fun hq => ?_)
 unfold m_law17_FollowTells at h
 refine sq fun K hK => ?_
 refine reg ?_
 refine sg ha 1 [(0, vS A_p0 p0 c_p0), (1, vI p1), (2, vI p2)] w fun a ha => ?_
 refine hK _ _ ?_
 clear hK
 refine sq fun K hK => ?_
 refine sq fun K hK => ?_
 obtain ⟨q1, hj1, h⟩ := obind h
 refine wp_cutV (D := fun a w1 => ∃ x1 : Bool, ∃ (S1 : Off), x1 = q1 ∧ Cx w nob S w1 S1 ∧ Sl tTerm w1.heap S1 A_p0 c_p0 p0 ∧ Ag 65 [(0, vS A_p0 p0 c_p0), (1, vI p1), (2, vI p2), (22, vB x1)] a) ?_ ?_
 · clear h; have h := hj1
   refine reg ?_
   refine sg ha 4 [(0, vS A_p0 p0 c_p0), (1, vI p1), (2, vI p2), (14, vB (decide ((p0.length : Int) > 60)))] w fun a ha => ?_
   refine split_b (t := 14) ha rfl (fun hb ha => ?_) (fun hb ha => ?_)
   · replace h := itT hb h
     refine sg ha 1 [(0, vS A_p0 p0 c_p0), (1, vI p1), (2, vI p2), (14, vB true), (15, vS A_p0 p0 c_p0)] w fun a ha => ?_
     obtain ⟨x2, hx1, h⟩ := obind h
     refine op_call ha (by kernel_rfl) (f := 12) (args := #[vS A_p0 p0 c_p0]) (w' := w) (by kernel_rfl) (ok12 fuel (p0 := p0) cx.lt h_p0 hx1) ?_
     rintro v1 w2 ⟨hb1, hp1⟩ a ha
     obtain rfl := hp1
     replace h_p0 := h_p0.keep (Keep.ext S hb1)
     replace cx := cx.ext hb1
     refine sg ha 2 [(0, vS A_p0 p0 c_p0), (1, vI p1), (2, vI p2), (18, vB x2)] w2 fun a ha => ?_
     refine split_b (t := 18) ha rfl (fun hb ha => ?_) (fun hb ha => ?_)
     · replace h := itT hb h
       refine sg ha 4 [(0, vS A_p0 p0 c_p0), (1, vI p1), (2, vI p2), (22, vB true)] w2 fun a ha => ?_
       obtain rfl := Option.some.inj h
       exact ⟨_, _, rfl, cx, h_p0, ha.to (by kernel_rfl)⟩
     · replace h := itF hb h
       refine sg ha 4 [(0, vS A_p0 p0 c_p0), (1, vI p1), (2, vI p2), (22, vB (decide ((p0.length : Int) > 500)))] w2 fun a ha => ?_
       obtain rfl := Option.some.inj h
       exact ⟨_, _, rfl, cx, h_p0, ha.to (by kernel_rfl)⟩
   · replace h := itF hb h
     refine sg ha 8 [(0, vS A_p0 p0 c_p0), (1, vI p1), (2, vI p2), (22, vB (decide ((p0.length : Int) > 500)))] w fun a ha => ?_
     obtain rfl := Option.some.inj h
     exact ⟨_, _, rfl, cx, h_p0, ha.to (by kernel_rfl)⟩
 rintro a w1 ⟨x1, S1, rfl, cx, h_p0, ha⟩
 refine hK _ _ ?_
 clear hK
 refine cond_b ha rfl (fun hb => ?_) (fun hb => ?_)
 · replace h := itT hb h
   refine sq fun K hK => ?_
   refine reg ?_
   obtain ⟨x3, hx2, h⟩ := obind h
   refine op_call ha (by kernel_rfl) (f := 13) (args := #[]) (w' := w1) (by kernel_rfl) (ok13 fuel cx.lt hx2) ?_
   rintro v2 w3 ⟨hb2, hp2⟩ a ha
   obtain rfl := hp2
   replace cx := cx.ext hb2
   refine sg ha 1 [(6, vB x3)] w3 fun a ha => ?_
   refine hK _ _ ?_
   clear hK
   refine wp_ret ?_
   obtain rfl := Option.some.inj h
   show bodyPost Try.prog Try.f3 (R3 w S _) .ret a w3
   exact ret_1 (r1 := .tmp 6) (v1 := vB x3) ha rfl (.inl rfl) rfl ⟨_, rfl, cx.below, rfl⟩
 · replace h := itF hb h
   refine wp_skip ?_
   refine hK _ _ ?_
   clear hK
   refine sq fun K hK => ?_
   refine reg ?_
   refine sg ha 2 [(0, vS A_p0 p0 c_p0), (1, vI p1), (2, vI p2), (25, vS A_p0 p0 c_p0), (26, vI p2)] w1 fun a ha => ?_
   obtain ⟨x4, hx3, h⟩ := obind h
   refine op_call ha (by kernel_rfl) (f := 14) (args := #[vS A_p0 p0 c_p0, vI p2]) (w' := w1) (by kernel_rfl) (ok14 fuel (p0 := p0) (p1 := p2) cx.lt h_p0 hx3) ?_
   rintro v3 w4 ⟨hb3, hp3⟩ a ha
   obtain ⟨_, _, rfl, ⟨A1, c1, rfl, f1⟩, rfl⟩ := hp3
   replace h_p0 := h_p0.keep (Keep.ext S1 hb3)
   replace cx := cx.ext hb3
   refine sg ha 3 [(0, vS A_p0 p0 c_p0), (1, vI p1), (2, vI p2), (28, .agg #[vI x4.1.To, vI x4.1.Turn, vS A1 x4.1.Steps c1]), (29, vB x4.2)] w4 fun a ha => ?_
   refine op_var (d := 7) (z := [vI 0, vI 0, .slice none 0 0]) (vs := [vI x4.1.To, vI x4.1.Turn, vS A1 x4.1.Steps c1]) (v := .agg #[vI x4.1.To, vI x4.1.Turn, vS A1 x4.1.Steps c1]) ha cx (by kernel_rfl) rfl (by kernel_rfl) (fun _ => by kernel_rfl) rfl rfl (fun _ => by kernel_rfl) (by kernel_rfl) (by kernel_rfl) (by kernel_rfl) ?_
   intro w5 b1 cx hb4 f2 a ha
   replace h_p0 := h_p0.keep (Keep.ext S1 hb4)
   replace f1 := f1.keep (Keep.ext S1 hb4)
   refine sg ha 1 [(0, vS A_p0 p0 c_p0), (1, vI p1), (2, vI p2), (7, vP b1), (8, vB x4.2)] w5 fun a ha => ?_
   refine hK _ _ ?_
   clear hK
   refine sq fun K hK => ?_
   refine reg ?_
   refine sg ha 2 [(0, vS A_p0 p0 c_p0), (1, vI p1), (2, vI p2), (7, vP b1), (8, vB x4.2), (31, vS A_p0 p0 c_p0), (32, vI p2)] w5 fun a ha => ?_
   obtain ⟨x5, hx4, h⟩ := obind h
   refine op_call ha (by kernel_rfl) (f := 15) (args := #[vS A_p0 p0 c_p0, vI p2]) (w' := w5) (by kernel_rfl) (ok15 fuel (p0 := p0) (p1 := p2) cx.lt h_p0 hx4) ?_
   rintro v4 w6 ⟨hb5, hp4⟩ a ha
   obtain ⟨_, _, rfl, ⟨A2, c2, rfl, f3⟩, rfl⟩ := hp4
   replace h_p0 := h_p0.keep (Keep.ext S1 hb5)
   replace f2 := f2.keep (Keep.ext S1 hb5)
   replace f1 := f1.keep (Keep.ext S1 hb5)
   replace cx := cx.ext hb5
   refine sg ha 3 [(0, vS A_p0 p0 c_p0), (1, vI p1), (2, vI p2), (7, vP b1), (8, vB x4.2), (34, .agg #[vI x5.1.To, vI x5.1.Turn, vS A2 x5.1.Steps c2]), (35, vB x5.2)] w6 fun a ha => ?_
   refine op_var (d := 9) (z := [vI 0, vI 0, .slice none 0 0]) (vs := [vI x5.1.To, vI x5.1.Turn, vS A2 x5.1.Steps c2]) (v := .agg #[vI x5.1.To, vI x5.1.Turn, vS A2 x5.1.Steps c2]) ha cx (by kernel_rfl) rfl (by kernel_rfl) (fun _ => by kernel_rfl) rfl rfl (fun _ => by kernel_rfl) (by kernel_rfl) (by kernel_rfl) (by kernel_rfl) ?_
   intro w7 b2 cx hb6 f4 a ha
   replace h_p0 := h_p0.keep (Keep.ext S1 hb6)
   replace f2 := f2.keep (Keep.ext S1 hb6)
   replace f1 := f1.keep (Keep.ext S1 hb6)
   replace f3 := f3.keep (Keep.ext S1 hb6)
   refine sg ha 1 [(0, vS A_p0 p0 c_p0), (1, vI p1), (2, vI p2), (7, vP b1), (8, vB x4.2), (9, vP b2), (10, vB x5.2)] w7 fun a ha => ?_
   refine hK _ _ ?_
   clear hK
   refine sq fun K hK => ?_
   obtain ⟨q2, hj2, h⟩ := obind h
   refine wp_cutV (D := fun a w8 => ∃ x6 : Bool, ∃ (S2 : Off), x6 = q2 ∧ Cx w nob S w8 S2 ∧ Ag 65 [(6, vB x6)] a) ?_ ?_
   · clear h; have h := hj2
     refine reg ?_
     refine sg ha 2 [(0, vS A_p0 p0 c_p0), (1, vI p1), (2, vI p2), (7, vP b1), (8, vB x4.2), (9, vP b2), (10, vB x5.2), (36, vS A_p0 p0 c_p0), (37, vI p1)] w7 fun a ha => ?_
     obtain ⟨x7, hx5, h⟩ := obind h
     refine op_call ha (by kernel_rfl) (f := 17) (args := #[vS A_p0 p0 c_p0, vI p1]) (w' := w7) (by kernel_rfl) (ok17 fuel (p0 := p0) (p1 := p1) cx.lt h_p0 hx5) ?_
     rintro v5 w9 ⟨hb7, hp5⟩ a ha
     obtain ⟨A3, c3, rfl, f5⟩ := hp5
     replace f5 := own_out cx f5
     replace h_p0 := h_p0.keep (Keep.ext S1 hb7)
     replace f2 := f2.keep (Keep.ext S1 hb7)
     replace f1 := f1.keep (Keep.ext S1 hb7)
     replace f4 := f4.keep (Keep.ext S1 hb7)
     replace f3 := f3.keep (Keep.ext S1 hb7)
     replace cx := cx.ext hb7
     refine sg ha 2 [(0, vS A_p0 p0 c_p0), (2, vI p2), (7, vP b1), (8, vB x4.2), (9, vP b2), (10, vB x5.2), (38, vS A3 x7 c3), (39, vS A_p0 p0 c_p0), (40, vI p1)] w9 fun a ha => ?_
     obtain ⟨x8, hx6, h⟩ := obind h
     refine op_call ha (by kernel_rfl) (f := 18) (args := #[vS A_p0 p0 c_p0, vI p1]) (w' := w9) (by kernel_rfl) (ok18 fuel (p0 := p0) (p1 := p1) cx.lt h_p0 hx6) ?_
     rintro v6 w10 ⟨hb8, hp6⟩ a ha
     obtain ⟨A4, c4, rfl, f6⟩ := hp6
     replace f6 := own_out cx f6
     replace h_p0 := h_p0.keep (Keep.ext S1 hb8)
     replace f2 := f2.keep (Keep.ext S1 hb8)
     replace f1 := f1.keep (Keep.ext S1 hb8)
     replace f4 := f4.keep (Keep.ext S1 hb8)
     replace f3 := f3.keep (Keep.ext S1 hb8)
     replace f5 := f5.keep (Keep.ext S1 hb8)
     replace cx := cx.ext hb8
     obtain ⟨x9, hx7, h⟩ := obind h
     refine op_call ha (by kernel_rfl) (f := 16) (args := #[vS A3 x7 c3, vS A4 x8 c4]) (w' := w10) (by kernel_rfl) (ok16 fuel (p0 := x7) (p1 := x8) cx.lt f5 f6 hx7) ?_
     rintro v7 w11 ⟨hb9, hp7⟩ a ha
     obtain rfl := hp7
     replace h_p0 := h_p0.keep (Keep.ext S1 hb9)
     replace f2 := f2.keep (Keep.ext S1 hb9)
     replace f1 := f1.keep (Keep.ext S1 hb9)
     replace f4 := f4.keep (Keep.ext S1 hb9)
     replace f3 := f3.keep (Keep.ext S1 hb9)
     replace cx := cx.ext hb9
     refine sg ha 1 [(0, vS A_p0 p0 c_p0), (2, vI p2), (7, vP b1), (8, vB x4.2), (9, vP b2), (10, vB x5.2), (43, vB x9)] w11 fun a ha => ?_
     refine split_b (t := 43) ha rfl (fun hb ha => ?_) (fun hb ha => ?_)
     · replace h := itT hb h
       refine sg ha 2 [(0, vS A_p0 p0 c_p0), (2, vI p2), (7, vP b1), (8, vB x4.2), (9, vP b2), (10, vB x5.2), (43, vB true), (44, vS A_p0 p0 c_p0), (45, vI p2)] w11 fun a ha => ?_
       obtain ⟨x10, hx8, h⟩ := obind h
       refine op_call ha (by kernel_rfl) (f := 19) (args := #[vS A_p0 p0 c_p0, vI p2]) (w' := w11) (by kernel_rfl) (ok19 fuel (p0 := p0) (p1 := p2) cx.lt h_p0 hx8) ?_
       rintro v8 w12 ⟨hb10, hp8⟩ a ha
       obtain ⟨A5, c5, rfl, f7⟩ := hp8
       replace f7 := own_out cx f7
       replace h_p0 := h_p0.keep (Keep.ext S1 hb10)
       replace f2 := f2.keep (Keep.ext S1 hb10)
       replace f1 := f1.keep (Keep.ext S1 hb10)
       replace f4 := f4.keep (Keep.ext S1 hb10)
       replace f3 := f3.keep (Keep.ext S1 hb10)
       replace cx := cx.ext hb10
       refine sg ha 2 [(7, vP b1), (8, vB x4.2), (9, vP b2), (10, vB x5.2), (43, vB true), (46, vS A5 x10 c5), (47, vS A_p0 p0 c_p0), (48, vI p2)] w12 fun a ha => ?_
       obtain ⟨x11, hx9, h⟩ := obind h
       refine op_call ha (by kernel_rfl) (f := 20) (args := #[vS A_p0 p0 c_p0, vI p2]) (w' := w12) (by kernel_rfl) (ok20 fuel (p0 := p0) (p1 := p2) cx.lt h_p0 hx9) ?_
       rintro v9 w13 ⟨hb11, hp9⟩ a ha
       obtain ⟨A6, c6, rfl, f8⟩ := hp9
       replace f8 := own_out cx f8
       replace f2 := f2.keep (Keep.ext S1 hb11)
       replace f1 := f1.keep (Keep.ext S1 hb11)
       replace f4 := f4.keep (Keep.ext S1 hb11)
       replace f3 := f3.keep (Keep.ext S1 hb11)
       replace f7 := f7.keep (Keep.ext S1 hb11)
       replace cx := cx.ext hb11
       obtain ⟨x12, hx10, h⟩ := obind h
       refine op_call ha (by kernel_rfl) (f := 16) (args := #[vS A5 x10 c5, vS A6 x11 c6]) (w' := w13) (by kernel_rfl) (ok16 fuel (p0 := x10) (p1 := x11) cx.lt f7 f8 hx10) ?_
       rintro v10 w14 ⟨hb12, hp10⟩ a ha
       obtain rfl := hp10
       replace f2 := f2.keep (Keep.ext S1 hb12)
       replace f1 := f1.keep (Keep.ext S1 hb12)
       replace f4 := f4.keep (Keep.ext S1 hb12)
       replace f3 := f3.keep (Keep.ext S1 hb12)
       replace cx := cx.ext hb12
       refine sg ha 2 [(7, vP b1), (8, vB x4.2), (9, vP b2), (10, vB x5.2), (52, vB x12)] w14 fun a ha => ?_
       refine split_b (t := 52) ha rfl (fun hb ha => ?_) (fun hb ha => ?_)
       · replace h := itT hb h
         refine ov (.agg #[.int .i64 x4.1.To, .int .i64 x4.1.Turn, .slice A1 x4.1.Steps.length c1]) ha (ob_loadn (cs := [.int .i64 x4.1.To, .int .i64 x4.1.Turn, .slice A1 x4.1.Steps.length c1]) w14 rfl rfl Try.underlying27 rfl (by kernel_rfl) (fun j v hj => (cell_add1 _ _ _ _).trans (by rw [Nat.zero_add]; exact f2.cell j v hj))) fun a ha => ?_
         refine ov (.agg #[.int .i64 x5.1.To, .int .i64 x5.1.Turn, .slice A2 x5.1.Steps.length c2]) ha (ob_loadn (cs := [.int .i64 x5.1.To, .int .i64 x5.1.Turn, .slice A2 x5.1.Steps.length c2]) w14 rfl rfl Try.underlying27 rfl (by kernel_rfl) (fun j v hj => (cell_add1 _ _ _ _).trans (by rw [Nat.zero_add]; exact f4.cell j v hj))) fun a ha => ?_
         obtain ⟨x13, hx11, h⟩ := obind h
         refine op_call ha (by kernel_rfl) (f := 21) (args := #[.agg #[vI x4.1.To, vI x4.1.Turn, vS A1 x4.1.Steps c1], .agg #[vI x5.1.To, vI x5.1.Turn, vS A2 x5.1.Steps c2]]) (w' := w14) (by kernel_rfl) (ok21 fuel (p0 := x4.1) (p1 := x5.1) cx.lt f1 f3 hx11) ?_
         rintro v11 w15 ⟨hb13, hp11⟩ a ha
         obtain rfl := hp11
         replace cx := cx.ext hb13
         refine sg ha 2 [(8, vB x4.2), (10, vB x5.2), (57, vB x13)] w15 fun a ha => ?_
         refine split_b (t := 57) ha rfl (fun hb ha => ?_) (fun hb ha => ?_)
         · replace h := itT hb h
           refine sg ha 5 [(62, vB (x4.2 == x5.2))] w15 fun a ha => ?_
           refine split_b (t := 62) ha rfl (fun hb ha => ?_) (fun hb ha => ?_)
           · replace h := itT hb h
             obtain ⟨x14, hx12, h⟩ := obind h
             refine op_call ha (by kernel_rfl) (f := 13) (args := #[]) (w' := w15) (by kernel_rfl) (ok13 fuel cx.lt hx12) ?_
             rintro v12 w16 ⟨hb14, hp12⟩ a ha
             obtain rfl := hp12
             replace cx := cx.ext hb14
             refine sg ha 2 [(6, vB x14)] w16 fun a ha => ?_
             obtain rfl := Option.some.inj h
             exact ⟨_, _, rfl, cx, ha.to (by kernel_rfl)⟩
           · replace h := itF hb h
             refine sg ha 3 [(6, vB false)] w15 fun a ha => ?_
             obtain rfl := Option.some.inj h
             exact ⟨_, _, rfl, cx, ha.to (by kernel_rfl)⟩
         · replace h := itF hb h
           refine sg ha 8 [(6, vB false)] w15 fun a ha => ?_
           obtain rfl := Option.some.inj h
           exact ⟨_, _, rfl, cx, ha.to (by kernel_rfl)⟩
       · replace h := itF hb h
         refine sg ha 13 [(6, vB false)] w14 fun a ha => ?_
         obtain rfl := Option.some.inj h
         exact ⟨_, _, rfl, cx, ha.to (by kernel_rfl)⟩
     · replace h := itF hb h
       refine sg ha 22 [(6, vB false)] w11 fun a ha => ?_
       obtain rfl := Option.some.inj h
       exact ⟨_, _, rfl, cx, ha.to (by kernel_rfl)⟩
   rintro a w8 ⟨x6, S2, rfl, cx, ha⟩
   refine hK _ _ ?_
   clear hK
   refine wp_ret ?_
   obtain rfl := Option.some.inj h
   show bodyPost Try.prog Try.f3 (R3 w S _) .ret a w8
   exact ret_1 (r1 := .tmp 6) (v1 := vB x6) ha rfl (.inl rfl) rfl ⟨_, rfl, cx.below, rfl⟩
end Go.Proofs.Ytfhehbfifffipaa
