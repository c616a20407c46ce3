/- What the functions compute is what the program does. Its conditions: none. -/
import Derived.Test.YtfhehbfifffipaaVShort
import Derived.Test.YtfhehbfifffipaaTy
import Derived.Test.YtfhehbfifffipaaWaa
import Derived.Test.YtfhehbfifffipaaWab
set_option maxRecDepth 20000
set_option autoImplicit false
namespace Go.Proofs.Ytfhehbfifffipaa
open Go.V Go.RowKit
set_option linter.unusedVariables false
def post67 (w : World) (S : Off) (r : ((List Int))) (v : Value) (w1 : World) : Prop := ∃ (A : Option Addr) (c : Nat), v = .slice A r.length c ∧ Ow (tInt .i64) 3 (Wr nob w) w1.heap (inV v S) v r
abbrev R67 (w : World) (S : Off) (r : ((List Int))) : Ending → World → Prop := fun e w1 => ∃ v, e = .returned v ∧ Below w.heap.size w w1 ∧ post67 w S r v w1
theorem ok67 (fuel : Nat) {w : World} {S : Off} (hS : ∀ b, S b → b < w.heap.size) {p0 : (List MTerm)} {A_p0 : Option Addr} {c_p0 : Nat} (h_p0 : Sl tTerm w.heap S A_p0 c_p0 p0) {r : ((List Int))} (h : m_place_Leaves fuel p0 = some r) :
 Calls Try.prog 67 #[vS A_p0 p0 c_p0] w (R67 w S r) := by
 refine enterL (vs := [vS A_p0 p0 c_p0]) Try.func67 rfl rfl ?_
 intro a ha
 have cx := Cx.start (W0 := nob) hS
 refine with_nop (noP_body _ _) (fun hq => ?_)
 unfold m_place_Leaves at h
 refine sq fun K hK => ?_
 refine reg ?_
 refine sg ha 1 [(0, vS A_p0 p0 c_p0)] w fun a ha => ?_
 refine hK _ _ ?_
 clear hK
 refine sq fun K hK => ?_
 refine sq fun K hK => ?_
 refine reg ?_
 refine sg ha 1 [(0, vS A_p0 p0 c_p0), (6, vS A_p0 p0 c_p0)] w fun a ha => ?_
 obtain ⟨x1, hx1, h⟩ := obind h
 refine op_call ha (by kernel_rfl) (f := 59) (args := #[vS A_p0 p0 c_p0]) (w' := w) (by kernel_rfl) (ok59 fuel (p0 := p0) cx.lt h_p0 hx1) ?_
 rintro v1 w1 ⟨hb1, hp1⟩ a ha
 obtain rfl := hp1
 replace h_p0 := h_p0.keep (Keep.ext S hb1)
 replace cx := cx.ext hb1
 refine sg ha 1 [(0, vS A_p0 p0 c_p0), (8, vB (!x1))] w1 fun a ha => ?_
 refine hK _ _ ?_
 clear hK
 refine cond_b ha rfl (fun hb => ?_) (fun hb => ?_)
 · replace h := itT hb h
   refine sq fun K hK => ?_
   refine reg ?_
   refine sg ha 1 [(2, .slice none 0 0)] w1 fun a ha => ?_
   refine hK _ _ ?_
   clear hK
   refine wp_ret ?_
   obtain rfl := Option.some.inj h
   show bodyPost Try.prog Try.f67 (R67 w S _) .ret a w1
   exact ret_1 (r1 := .tmp 2) (v1 := .slice none 0 0) ha rfl (.inl rfl) rfl ⟨_, rfl, cx.below, ⟨_, _, rfl, Ow.nil⟩⟩
 · replace h := itF hb h
   refine wp_skip ?_
   refine hK _ _ ?_
   clear hK
   refine sq fun K hK => ?_
   refine reg ?_
   refine sg ha 1 [(0, vS A_p0 p0 c_p0), (3, .slice none 0 0)] w1 fun a ha => ?_
   refine hK _ _ ?_
   clear hK
   refine sq fun K hK => ?_
   refine sq fun K hK => ?_
   refine reg ?_
   refine sg ha 3 [(3, .slice none 0 0), (9, vS A_p0 p0 c_p0), (10, vI (p0.length : Int)), (11, vI 0)] w1 fun a ha => ?_
   refine hK _ _ ?_
   clear hK
   refine wp_block ?_
   obtain ⟨t1, ht1, h⟩ := obind h
   refine wp_mono (wp_iter (step := (m_place_Leaves_l1 fuel p0)) (I := fun (s : List Int × Int) a w2 => match s with | (x2, x3) => ∃ (S1 : Off), ∃ (A1 : Option Addr) (c1 : Nat), Cx w nob S w2 S1 ∧ Ow (tInt .i64) 3 (Wr nob w) w2.heap S1 (vS A1 x2 c1) x2 ∧ Sl tTerm w2.heap S1 A_p0 c_p0 p0 ∧ Ag 25 [(3, vS A1 x2 c1), (9, vS A_p0 p0 c_p0), (10, vI (p0.length : Int)), (11, vI x3)] a) (D := fun (t : List Int) e a w3 => match t with | y1 => e = .exit 0 ∧ ∃ (S2 : Off), ∃ (A2 : Option Addr) (c2 : Nat), Cx w nob S w3 S2 ∧ Ow (tInt .i64) 3 (Wr nob w) w3.heap S2 (vS A2 y1 c2) y1 ∧ Ag 25 [(3, vS A2 y1 c2)] a) ?_ fuel _ t1 a _ ht1 ?_) ?_
   · clear h ht1
     rintro ⟨x2, x3⟩ ct a w2 ⟨S1, A1, c1, cx, f1, h_p0, ha⟩ h
     refine with_nop (NoP.loop (fun t c a w h => by cases t <;> exact absurd h.1 (by simp))) (fun hq => ?_)
     unfold m_place_Leaves_l1 at h
     refine sq fun K hK => ?_
     refine reg ?_
     refine sg ha 1 [(3, vS A1 x2 c1), (9, vS A_p0 p0 c_p0), (10, vI (p0.length : Int)), (11, vI x3), (12, vB (decide (x3 < (p0.length : Int))))] w2 fun a ha => ?_
     refine hK _ _ ?_
     clear hK
     refine sq fun K hK => ?_
     refine cond_b ha rfl (fun hb => ?_) (fun hb => ?_)
     · replace h := itT hb h
       refine wp_skip ?_
       refine hK _ _ ?_
       clear hK
       refine sq fun K hK => ?_
       obtain ⟨q1, hj1, h⟩ := obind h
       refine wp_cutV (D := fun a w4 => ∃ x4 : List Int, ∃ (S3 : Off), ∃ (A3 : Option Addr) (c3 : Nat), x4 = q1 ∧ Cx w nob S w4 S3 ∧ Ow (tInt .i64) 3 (Wr nob w) w4.heap S3 (vS A3 x4 c3) x4 ∧ Sl tTerm w4.heap S3 A_p0 c_p0 p0 ∧ Ag 25 [(3, vS A3 x4 c3), (9, vS A_p0 p0 c_p0), (10, vI (p0.length : Int)), (11, vI x3)] a) ?_ ?_
       · clear h; have h := hj1
         refine wp_block ?_
         refine sq fun K hK => ?_
         refine reg ?_
         refine sg ha 1 [(3, vS A1 x2 c1), (9, vS A_p0 p0 c_p0), (10, vI (p0.length : Int)), (11, vI x3), (13, vI x3)] w2 fun a ha => ?_
         obtain ⟨hi1, h⟩ := ite_some h
         obtain ⟨b1, o1, cs1, rfl, hr1, hc1⟩ := h_p0.rdb.get hi1
         obtain ⟨rfl, hl1⟩ := hr1
         refine ov (vE b1 o1 x3 8) ha (obx w2 rfl rfl rfl Try.underlying22 rfl hi1) fun a ha => ?_
         refine ov (.agg #[vI ((gt p0 x3).Kind), vI ((gt p0 x3).A), vI ((gt p0 x3).B), vI ((gt p0 x3).N), .int .u64 (gt ((gt p0 x3).Set) 0), .int .u64 (gt ((gt p0 x3).Set) 1), .int .u64 (gt ((gt p0 x3).Set) 2), .int .u64 (gt ((gt p0 x3).Set) 3)]) ha (ob_loadn (cs := [vI ((gt p0 x3).Kind), vI ((gt p0 x3).A), vI ((gt p0 x3).B), vI ((gt p0 x3).N), .int .u64 (gt ((gt p0 x3).Set) 0), .int .u64 (gt ((gt p0 x3).Set) 1), .int .u64 (gt ((gt p0 x3).Set) 2), .int .u64 (gt ((gt p0 x3).Set) 3)]) w2 rfl rfl Try.underlying42 rfl (by kernel_rfl) (fun j v hj => (cell_add2 _ _ _ _ _).trans (hc1 j v hj))) fun a ha => ?_
         refine op_new (V := fun b => vP b) (cs := [vI 0, vI 0, vI 0, vI 0, .int .u64 0, .int .u64 0, .int .u64 0, .int .u64 0]) (T := 42) ha (by kernel_rfl) (by kernel_rfl) ?_
         intro w5 b2 hb2 hk1 he1 _ a ha
         refine sg ha 1 [(3, vS A1 x2 c1), (4, vI x3), (5, vP b2), (9, vS (some ⟨b1, o1, none⟩) p0 c_p0), (10, vI (p0.length : Int)), (11, vI x3), (15, .agg #[vI ((gt p0 x3).Kind), vI ((gt p0 x3).A), vI ((gt p0 x3).B), vI ((gt p0 x3).N), .int .u64 (gt ((gt p0 x3).Set) 0), .int .u64 (gt ((gt p0 x3).Set) 1), .int .u64 (gt ((gt p0 x3).Set) 2), .int .u64 (gt ((gt p0 x3).Set) 3)])] w5 fun a ha => ?_
         refine op_setAll (vs := [vI ((gt p0 x3).Kind), vI ((gt p0 x3).A), vI ((gt p0 x3).B), vI ((gt p0 x3).N), .int .u64 (gt ((gt p0 x3).Set) 0), .int .u64 (gt ((gt p0 x3).Set) 1), .int .u64 (gt ((gt p0 x3).Set) 2), .int .u64 (gt ((gt p0 x3).Set) 3)]) (v := .agg #[vI ((gt p0 x3).Kind), vI ((gt p0 x3).A), vI ((gt p0 x3).B), vI ((gt p0 x3).N), .int .u64 (gt ((gt p0 x3).Set) 0), .int .u64 (gt ((gt p0 x3).Set) 1), .int .u64 (gt ((gt p0 x3).Set) 2), .int .u64 (gt ((gt p0 x3).Set) 3)]) ha (by kernel_rfl) rfl rfl rfl rfl hk1 (by kernel_rfl) (by kernel_rfl) ?_
         intro w6 on1 _ hk2 a ha
         have hb3 := var_done hb2 on1 he1
         have f4 := Bx.new cx hk2 he1
         replace f1 := f1.ext hb3
         replace h_p0 := h_p0.keep (Keep.ext S1 hb3)
         replace cx := cx.ext hb3
         refine hK _ _ ?_
         clear hK
         refine sq fun K hK => ?_
         refine reg ?_
         refine sg ha 1 [(3, vS A1 x2 c1), (4, vI x3), (9, vS (some ⟨b1, o1, none⟩) p0 c_p0), (10, vI (p0.length : Int)), (11, vI x3), (16, vF b2 0)] w6 fun a ha => ?_
         refine ov (.int .i64 ((gt p0 x3).Kind)) ha (ob_load w6 rfl rfl Try.underlying3 rfl ((cell_add1 _ _ _ _).trans (by rw [Nat.zero_add]; exact f4.cell 0 _ rfl))) fun a ha => ?_
         refine sg ha 1 [(3, vS A1 x2 c1), (4, vI x3), (9, vS (some ⟨b1, o1, none⟩) p0 c_p0), (10, vI (p0.length : Int)), (11, vI x3), (18, vB (((gt p0 x3).Kind) == 2))] w6 fun a ha => ?_
         refine hK _ _ ?_
         clear hK
         refine cond_b ha rfl (fun hb => ?_) (fun hb => ?_)
         · replace h := itT hb h
           refine reg ?_
           refine sg ha 2 [(9, vS (some ⟨b1, o1, none⟩) p0 c_p0), (10, vI (p0.length : Int)), (11, vI x3), (19, vS A1 x2 c1), (20, vI x3)] w6 fun a ha => ?_
           refine op_new (V := fun b => .slice (some ⟨b, 0, none⟩) 1 1) (cs := [vI x3]) (T := 3) ha (by kernel_rfl) (by kernel_rfl) ?_
           intro w7 b3 hb4 hk3 he2 _ a ha
           have f5 := lit_ow (T := (tInt .i64)) (xs := [x3]) (m := 1) cx hb4 hk3 he2 rfl (by kernel_rfl) (Els.one (T := (tInt .i64)) (x := x3) rfl)
           replace f5 := own_out cx f5
           replace h_p0 := h_p0.keep (Keep.ext S1 hb4)
           replace f1 := f1.ext hb4
           replace cx := cx.ext hb4
           obtain ⟨hp2, h⟩ := ite_some h
           refine op_append (T := (tInt .i64)) (xs := x2) (ys := [x3]) (z := vI 0) (bytes := 8) ha cx (by kernel_rfl) rfl rfl rfl Try.underlying25 (by kernel_rfl) (by kernel_rfl) wr_id f1 f5.rdb hp2 ?_
           intro w8 S4 A4 c4 cx kp1 hs1 hn1 hat1 f6 a ha
           replace h_p0 := h_p0.keep kp1
           refine sg ha 1 [(3, vS A4 (x2 ++ [x3]) c4), (9, vS (some ⟨b1, o1, none⟩) p0 c_p0), (10, vI (p0.length : Int)), (11, vI x3)] w8 fun a ha => ?_
           obtain rfl := Option.some.inj h
           exact ⟨_, _, A4, c4, rfl, cx, f6, h_p0, ha.to (by kernel_rfl)⟩
         · replace h := itF hb h
           refine wp_skip ?_
           obtain rfl := Option.some.inj h
           exact ⟨_, _, A1, c1, rfl, cx, f1, h_p0, ha.to (by kernel_rfl)⟩
       rintro a w4 ⟨x4, S3, A3, c3, rfl, cx, f3, h_p0, ha⟩
       refine hK _ _ ?_
       clear hK
       refine reg ?_
       refine sg ha 2 [(3, vS A3 x4 c3), (9, vS A_p0 p0 c_p0), (10, vI (p0.length : Int)), (11, vI (W (x3 + 1)))] w4 fun a ha => ?_
       obtain rfl := Option.some.inj h
       exact ⟨_, rfl, S3, A3, c3, cx, f3, h_p0, ha.to (by kernel_rfl)⟩
     · replace h := itF hb h
       refine wp_exit ?_
       obtain rfl := Option.some.inj h
       exact ⟨_, rfl, rfl, S1, A1, c1, cx, f1, ha.to (by kernel_rfl)⟩
   · exact ⟨S, none, 0, cx, Ow.nil, h_p0, ha.to (by kernel_rfl)⟩
   intro e a w3 hd
   generalize t1 = y1 at *
   obtain ⟨rfl, S2, A2, c2, cx, f2, ha⟩ := hd
   refine hK _ _ ?_
   clear hK
   refine sq fun K hK => ?_
   refine reg ?_
   refine sg ha 2 [(2, vS A2 y1 c2)] w3 fun a ha => ?_
   refine hK _ _ ?_
   clear hK
   refine wp_ret ?_
   obtain rfl := Option.some.inj h
   show bodyPost Try.prog Try.f67 (R67 w S _) .ret a w3
   exact ret_1 (r1 := .tmp 2) (v1 := vS A2 y1 c2) ha rfl (.inl rfl) rfl ⟨_, rfl, cx.below, ⟨_, _, rfl, f2.result cx.sub⟩⟩
def post88 (w : World) (S : Off) (r : ((List Int))) (v : Value) (w1 : World) : Prop := ∃ (A : Option Addr) (c : Nat), v = .slice A r.length c ∧ Ow (tInt .i64) 3 (Wr nob w) w1.heap (inV v S) v r
abbrev R88 (w : World) (S : Off) (r : ((List Int))) : Ending → World → Prop := fun e w1 => ∃ v, e = .returned v ∧ Below w.heap.size w w1 ∧ post88 w S r v w1
theorem ok88 (fuel : Nat) {w : World} {S : Off} (hS : ∀ b, S b → b < w.heap.size) {p0 : (List MTerm)} {A_p0 : Option Addr} {c_p0 : Nat} (h_p0 : Sl tTerm w.heap S A_p0 c_p0 p0) {r : ((List Int))} (h : m_place_Index fuel p0 = some r) :
 Calls Try.prog 88 #[vS A_p0 p0 c_p0] w (R88 w S r) := by
 refine enterL (vs := [vS A_p0 p0 c_p0]) Try.func88 rfl rfl ?_
 intro a ha
 have cx := Cx.start (W0 := nob) hS
 refine with_nop (noP_body _ _) (fun hq => ?_)
 unfold m_place_Index at h
 refine sq fun K hK => ?_
 refine reg ?_
 refine sg ha 1 [(0, vS A_p0 p0 c_p0)] w fun a ha => ?_
 refine hK _ _ ?_
 clear hK
 refine sq fun K hK => ?_
 refine sq fun K hK => ?_
 refine reg ?_
 refine sg ha 1 [(0, vS A_p0 p0 c_p0), (7, vS A_p0 p0 c_p0)] w fun a ha => ?_
 obtain ⟨x1, hx1, h⟩ := obind h
 refine op_call ha (by kernel_rfl) (f := 59) (args := #[vS A_p0 p0 c_p0]) (w' := w) (by kernel_rfl) (ok59 fuel (p0 := p0) cx.lt h_p0 hx1) ?_
 rintro v1 w1 ⟨hb1, hp1⟩ a ha
 obtain rfl := hp1
 replace h_p0 := h_p0.keep (Keep.ext S hb1)
 replace cx := cx.ext hb1
 refine sg ha 1 [(0, vS A_p0 p0 c_p0), (9, vB (!x1))] w1 fun a ha => ?_
 refine hK _ _ ?_
 clear hK
 refine cond_b ha rfl (fun hb => ?_) (fun hb => ?_)
 · replace h := itT hb h
   refine sq fun K hK => ?_
   refine reg ?_
   refine sg ha 1 [(2, .slice none 0 0)] w1 fun a ha => ?_
   refine hK _ _ ?_
   clear hK
   refine wp_ret ?_
   obtain rfl := Option.some.inj h
   show bodyPost Try.prog Try.f88 (R88 w S _) .ret a w1
   exact ret_1 (r1 := .tmp 2) (v1 := .slice none 0 0) ha rfl (.inl rfl) rfl ⟨_, rfl, cx.below, ⟨_, _, rfl, Ow.nil⟩⟩
 · replace h := itF hb h
   refine wp_skip ?_
   refine hK _ _ ?_
   clear hK
   refine sq fun K hK => ?_
   refine reg ?_
   refine sg ha 2 [(0, vS A_p0 p0 c_p0), (11, vI (p0.length : Int))] w1 fun a ha => ?_
   obtain ⟨hp2, h⟩ := ite_some h
   refine op_make (T := (tInt .i64)) (z := vI 0) (zx := (0 : Int)) (bytes := 8) ha cx (by kernel_rfl) rfl rfl rfl Try.underlying25 (by kernel_rfl) (by kernel_rfl) (fun _ _ => rfl) hp2 ?_
   intro w2 S1 A1 c1 cx hb2 kp1 hs1 hn1 f1 a ha
   replace h_p0 := h_p0.keep kp1
   refine sg ha 1 [(0, vS A_p0 p0 c_p0), (3, vS A1 (List.replicate (Int.toNat (p0.length : Int)) (0 : Int)) c1)] w2 fun a ha => ?_
   refine hK _ _ ?_
   clear hK
   refine sq fun K hK => ?_
   refine sq fun K hK => ?_
   refine reg ?_
   refine sg ha 3 [(0, vS A_p0 p0 c_p0), (3, vS A1 (List.replicate (Int.toNat (p0.length : Int)) (0 : Int)) c1), (14, vI ((List.replicate (Int.toNat (p0.length : Int)) (0 : Int)).length : Int)), (15, vI 0)] w2 fun a ha => ?_
   refine hK _ _ ?_
   clear hK
   refine wp_block ?_
   obtain ⟨t1, ht1, h⟩ := obind h
   refine wp_mono (wp_iter (step := (m_place_Index_l1 fuel p0)) (I := fun (s : List Int × Int) a w3 => match s with | (x2, x3) => ∃ (S2 : Off), ∃ (A2 : Option Addr) (c2 : Nat), Cx w nob S w3 S2 ∧ Sl tTerm w3.heap S2 A_p0 c_p0 p0 ∧ Ow (tInt .i64) 3 (Wr nob w) w3.heap S2 (vS A2 x2 c2) x2 ∧ Ag 36 [(0, vS A_p0 p0 c_p0), (3, vS A2 x2 c2), (14, vI ((List.replicate (Int.toNat (p0.length : Int)) (0 : Int)).length : Int)), (15, vI x3)] a) (D := fun (t : List Int) e a w4 => match t with | y1 => e = .exit 0 ∧ ∃ (S3 : Off), ∃ (A3 : Option Addr) (c3 : Nat), Cx w nob S w4 S3 ∧ Sl tTerm w4.heap S3 A_p0 c_p0 p0 ∧ Ow (tInt .i64) 3 (Wr nob w) w4.heap S3 (vS A3 y1 c3) y1 ∧ Ag 36 [(0, vS A_p0 p0 c_p0), (3, vS A3 y1 c3)] a) ?_ fuel _ t1 a _ ht1 ?_) ?_
   · clear h ht1
     rintro ⟨x2, x3⟩ ct a w3 ⟨S2, A2, c2, cx, h_p0, f2, ha⟩ h
     refine with_nop (NoP.loop (fun t c a w h => by cases t <;> exact absurd h.1 (by simp))) (fun hq => ?_)
     unfold m_place_Index_l1 at h
     refine sq fun K hK => ?_
     refine reg ?_
     refine sg ha 1 [(0, vS A_p0 p0 c_p0), (3, vS A2 x2 c2), (14, vI ((List.replicate (Int.toNat (p0.length : Int)) (0 : Int)).length : Int)), (15, vI x3), (16, vB (decide (x3 < ((List.replicate (Int.toNat (p0.length : Int)) (0 : Int)).length : Int))))] w3 fun a ha => ?_
     refine hK _ _ ?_
     clear hK
     refine sq fun K hK => ?_
     refine cond_b ha rfl (fun hb => ?_) (fun hb => ?_)
     · replace h := itT hb h
       refine wp_skip ?_
       refine hK _ _ ?_
       clear hK
       refine sq fun K hK => ?_
       refine wp_block ?_
       refine sq fun K hK => ?_
       refine reg ?_
       refine sg ha 2 [(0, vS A_p0 p0 c_p0), (3, vS A2 x2 c2), (4, vI x3), (14, vI ((List.replicate (Int.toNat (p0.length : Int)) (0 : Int)).length : Int)), (15, vI x3)] w3 fun a ha => ?_
       refine hK _ _ ?_
       clear hK
       refine reg ?_
       refine sg ha 2 [(0, vS A_p0 p0 c_p0), (3, vS A2 x2 c2), (14, vI ((List.replicate (Int.toNat (p0.length : Int)) (0 : Int)).length : Int)), (15, vI x3), (18, vS A2 x2 c2), (19, vI x3)] w3 fun a ha => ?_
       obtain ⟨hi1, h⟩ := ite_some h
       obtain ⟨b1, o1, cs1, rfl, hr1, hc1⟩ := f2.rdb.get hi1
       obtain rfl := hr1
       refine ov (vE b1 o1 x3 1) ha (obx w3 rfl rfl rfl Try.underlying25 rfl hi1) fun a ha => ?_
       refine op_setEl (T := (tInt .i64)) (f := 0) (x' := (-1)) ha cx (by kernel_rfl) rfl rfl rfl wr_id f2 hi1 (by kernel_rfl) (add1_eq _ _ _) (by kernel_rfl) (by rintro H2 _ _ rfl; rfl) ?_
       intro w5 cx on1 kp2 f4 a ha
       replace h_p0 := h_p0.keep kp2
       have hl1 : ((x2.set (Int.toNat x3) (-1))).length = x2.length := List.length_set
       replace ha : Ag 36 [(0, .slice A_p0 p0.length c_p0), (3, .slice (some ⟨b1, o1, none⟩) (x2.set (Int.toNat x3) (-1)).length c2), (14, .int .i64 ((List.replicate (Int.toNat (p0.length : Int)) (0 : Int)).length : Int)), (15, .int .i64 x3)] a := by rw [hl1]; exact ha.to (by kernel_rfl)
       replace f4 : Ow (tInt .i64) 3 (Wr nob w) w5.heap S2 (.slice (some ⟨b1, o1, none⟩) (x2.set (Int.toNat x3) (-1)).length c2) (x2.set (Int.toNat x3) (-1)) := by rw [hl1]; exact f4
       refine hK _ _ ?_
       clear hK
       refine reg ?_
       refine sg ha 2 [(0, vS A_p0 p0 c_p0), (3, vS (some ⟨b1, o1, none⟩) (x2.set (Int.toNat x3) (-1)) c2), (14, vI ((List.replicate (Int.toNat (p0.length : Int)) (0 : Int)).length : Int)), (15, vI (W (x3 + 1)))] w5 fun a ha => ?_
       obtain rfl := Option.some.inj h
       exact ⟨_, rfl, S2, (some ⟨b1, o1, none⟩), c2, cx, h_p0, f4, ha.to (by kernel_rfl)⟩
     · replace h := itF hb h
       refine wp_exit ?_
       obtain rfl := Option.some.inj h
       exact ⟨_, rfl, rfl, S2, A2, c2, cx, h_p0, f2, ha.to (by kernel_rfl)⟩
   · exact ⟨S1, A1, c1, cx, h_p0, f1, ha.to (by kernel_rfl)⟩
   intro e a w4 hd
   generalize t1 = y1 at *
   obtain ⟨rfl, S3, A3, c3, cx, h_p0, f3, ha⟩ := hd
   refine hK _ _ ?_
   clear hK
   refine sq fun K hK => ?_
   refine sq fun K hK => ?_
   refine reg ?_
   refine sg ha 1 [(3, vS A3 y1 c3), (22, vS A_p0 p0 c_p0)] w4 fun a ha => ?_
   obtain ⟨x4, hx2, h⟩ := obind h
   refine op_call ha (by kernel_rfl) (f := 67) (args := #[vS A_p0 p0 c_p0]) (w' := w4) (by kernel_rfl) (ok67 fuel (p0 := p0) cx.lt h_p0 hx2) ?_
   rintro v2 w6 ⟨hb3, hp3⟩ a ha
   obtain ⟨A4, c4, rfl, f5⟩ := hp3
   replace f5 := own_out cx f5
   replace f3 := f3.ext hb3
   replace cx := cx.ext hb3
   refine sg ha 2 [(3, vS A3 y1 c3), (23, vS A4 x4 c4), (24, vI (x4.length : Int)), (25, vI 0)] w6 fun a ha => ?_
   refine hK _ _ ?_
   clear hK
   refine wp_block ?_
   obtain ⟨t2, ht2, h⟩ := obind h
   refine wp_mono (wp_iter (step := (m_place_Index_l2 fuel y1 x4)) (I := fun (s : List Int × Int) a w7 => match s with | (x5, x6) => ∃ (S4 : Off), ∃ (A5 : Option Addr) (c5 : Nat), Cx w nob S w7 S4 ∧ Ow (tInt .i64) 3 (Wr nob w) w7.heap S4 (vS A5 x5 c5) x5 ∧ Sl (tInt .i64) w7.heap S4 A4 c4 x4 ∧ Ag 36 [(3, vS A5 x5 c5), (23, vS A4 x4 c4), (24, vI (x4.length : Int)), (25, vI x6)] a) (D := fun (t : List Int) e a w8 => match t with | y2 => e = .exit 2 ∧ ∃ (S5 : Off), ∃ (A6 : Option Addr) (c6 : Nat), Cx w nob S w8 S5 ∧ Ow (tInt .i64) 3 (Wr nob w) w8.heap S5 (vS A6 y2 c6) y2 ∧ Ag 36 [(3, vS A6 y2 c6)] a) ?_ fuel _ t2 a _ ht2 ?_) ?_
   · clear h ht2
     rintro ⟨x5, x6⟩ ct a w7 ⟨S4, A5, c5, cx, f6, f5, ha⟩ h
     refine with_nop (NoP.loop (fun t c a w h => by cases t <;> exact absurd h.1 (by simp))) (fun hq => ?_)
     unfold m_place_Index_l2 at h
     refine sq fun K hK => ?_
     refine reg ?_
     refine sg ha 1 [(3, vS A5 x5 c5), (23, vS A4 x4 c4), (24, vI (x4.length : Int)), (25, vI x6), (26, vB (decide (x6 < (x4.length : Int))))] w7 fun a ha => ?_
     refine hK _ _ ?_
     clear hK
     refine sq fun K hK => ?_
     refine cond_b ha rfl (fun hb => ?_) (fun hb => ?_)
     · replace h := itT hb h
       refine wp_skip ?_
       refine hK _ _ ?_
       clear hK
       refine sq fun K hK => ?_
       refine wp_block ?_
       refine sq fun K hK => ?_
       refine reg ?_
       refine sg ha 1 [(3, vS A5 x5 c5), (23, vS A4 x4 c4), (24, vI (x4.length : Int)), (25, vI x6), (27, vI x6)] w7 fun a ha => ?_
       obtain ⟨hi2, h⟩ := ite_some h
       obtain ⟨b2, o2, cs2, rfl, hr2, hc2⟩ := f5.rdb.get hi2
       obtain rfl := hr2
       refine ov (vE b2 o2 x6 1) ha (obx w7 rfl rfl rfl Try.underlying25 rfl hi2) fun a ha => ?_
       refine ov (vI (gt x4 x6)) ha (ob_load w7 rfl rfl Try.underlying3 rfl ((cell_add1 _ _ _ _).trans (hc2 0 _ rfl))) fun a ha => ?_
       refine sg ha 2 [(3, vS A5 x5 c5), (5, vI x6), (6, vI (gt x4 x6)), (23, vS (some ⟨b2, o2, none⟩) x4 c4), (24, vI (x4.length : Int)), (25, vI x6)] w7 fun a ha => ?_
       refine hK _ _ ?_
       clear hK
       refine reg ?_
       refine sg ha 3 [(3, vS A5 x5 c5), (23, vS (some ⟨b2, o2, none⟩) x4 c4), (24, vI (x4.length : Int)), (25, vI x6), (30, vS A5 x5 c5), (31, vI (gt x4 x6)), (32, vI x6)] w7 fun a ha => ?_
       obtain ⟨hi3, h⟩ := ite_some h
       obtain ⟨b3, o3, cs3, rfl, hr3, hc3⟩ := f6.rdb.get hi3
       obtain rfl := hr3
       refine ov (vE b3 o3 (gt x4 x6) 1) ha (obx w7 rfl rfl rfl Try.underlying25 rfl hi3) fun a ha => ?_
       refine op_setEl (T := (tInt .i64)) (f := 0) (x' := x6) ha cx (by kernel_rfl) rfl rfl rfl wr_id f6 hi3 (by kernel_rfl) (add1_eq _ _ _) (by kernel_rfl) (by rintro H2 _ _ rfl; rfl) ?_
       intro w9 cx on2 kp3 f8 a ha
       replace f5 := f5.keep kp3
       have hl2 : ((x5.set (Int.toNat (gt x4 x6)) x6)).length = x5.length := List.length_set
       replace ha : Ag 36 [(3, .slice (some ⟨b3, o3, none⟩) (x5.set (Int.toNat (gt x4 x6)) x6).length c5), (23, .slice (some ⟨b2, o2, none⟩) x4.length c4), (24, .int .i64 (x4.length : Int)), (25, .int .i64 x6)] a := by rw [hl2]; exact ha.to (by kernel_rfl)
       replace f8 : Ow (tInt .i64) 3 (Wr nob w) w9.heap S4 (.slice (some ⟨b3, o3, none⟩) (x5.set (Int.toNat (gt x4 x6)) x6).length c5) (x5.set (Int.toNat (gt x4 x6)) x6) := by rw [hl2]; exact f8
       refine hK _ _ ?_
       clear hK
       refine reg ?_
       refine sg ha 2 [(3, vS (some ⟨b3, o3, none⟩) (x5.set (Int.toNat (gt x4 x6)) x6) c5), (23, vS (some ⟨b2, o2, none⟩) x4 c4), (24, vI (x4.length : Int)), (25, vI (W (x6 + 1)))] w9 fun a ha => ?_
       obtain rfl := Option.some.inj h
       exact ⟨_, rfl, S4, (some ⟨b3, o3, none⟩), c5, cx, f8, f5, ha.to (by kernel_rfl)⟩
     · replace h := itF hb h
       refine wp_exit ?_
       obtain rfl := Option.some.inj h
       exact ⟨_, rfl, rfl, S4, A5, c5, cx, f6, ha.to (by kernel_rfl)⟩
   · exact ⟨S3, A3, c3, cx, f3, f5, ha.to (by kernel_rfl)⟩
   intro e a w8 hd
   generalize t2 = y2 at *
   obtain ⟨rfl, S5, A6, c6, cx, f7, ha⟩ := hd
   refine hK _ _ ?_
   clear hK
   refine sq fun K hK => ?_
   refine reg ?_
   refine sg ha 2 [(2, vS A6 y2 c6)] w8 fun a ha => ?_
   refine hK _ _ ?_
   clear hK
   refine wp_ret ?_
   obtain rfl := Option.some.inj h
   show bodyPost Try.prog Try.f88 (R88 w S _) .ret a w8
   exact ret_1 (r1 := .tmp 2) (v1 := vS A6 y2 c6) ha rfl (.inl rfl) rfl ⟨_, rfl, cx.below, ⟨_, _, rfl, f7.result cx.sub⟩⟩
def post51 (w : World) (S : Off) (r : ((Option MFollowChart) × Bool)) (v : Value) (w1 : World) : Prop := ∃ v0 : Value, ∃ v1 : Value, v = .tuple #[v0, v1] ∧ (Pt tFollowChart 111 w1.heap S r.1 v0) ∧ (v1 = .bool r.2)
abbrev R51 (w : World) (S : Off) (r : ((Option MFollowChart) × Bool)) : Ending → World → Prop := fun e w1 => ∃ v, e = .returned v ∧ Below w.heap.size w w1 ∧ post51 w S r v w1
theorem ok51 (fuel : Nat) {w : World} {S : Off} (hS : ∀ b, S b → b < w.heap.size) {p0 : (List MTerm)} {A_p0 : Option Addr} {c_p0 : Nat} (h_p0 : Sl tTerm w.heap S A_p0 c_p0 p0) {r : ((Option MFollowChart) × Bool)} (h : m_follow_of fuel p0 = some r) :
 Calls Try.prog 51 #[vS A_p0 p0 c_p0] w (R51 w S r) := by
 refine enterL (vs := [vS A_p0 p0 c_p0]) Try.func51 rfl rfl ?_
 intro a ha
 have cx := Cx.start (W0 := nob) hS
 refine with_nop (noP_body _ _) (fun hq => ?_)
 unfold m_follow_of at h
 refine sq fun K hK => ?_
 refine reg ?_
 refine sg ha 2 [(0, vS A_p0 p0 c_p0)] w fun a ha => ?_
 refine hK _ _ ?_
 clear hK
 refine sq fun K hK => ?_
 refine sq fun K hK => ?_
 refine reg ?_
 refine sg ha 1 [(0, vS A_p0 p0 c_p0), (4, vS A_p0 p0 c_p0)] w fun a ha => ?_
 obtain ⟨x1, hx1, h⟩ := obind h
 refine op_call ha (by kernel_rfl) (f := 59) (args := #[vS A_p0 p0 c_p0]) (w' := w) (by kernel_rfl) (ok59 fuel (p0 := p0) cx.lt h_p0 hx1) ?_
 rintro v1 w1 ⟨hb1, hp1⟩ a ha
 obtain rfl := hp1
 replace h_p0 := h_p0.keep (Keep.ext S hb1)
 replace cx := cx.ext hb1
 refine sg ha 1 [(0, vS A_p0 p0 c_p0), (6, vB (!x1))] w1 fun a ha => ?_
 refine hK _ _ ?_
 clear hK
 refine cond_b ha rfl (fun hb => ?_) (fun hb => ?_)
 · replace h := itT hb h
   refine sq fun K hK => ?_
   refine reg ?_
   refine sg ha 2 [(2, .pointer none), (3, vB false)] w1 fun a ha => ?_
   refine hK _ _ ?_
   clear hK
   refine wp_ret ?_
   obtain rfl := Option.some.inj h
   show bodyPost Try.prog Try.f51 (R51 w S _) .ret a w1
   exact ret_2 (r1 := .tmp 2) (v1 := .pointer none) (r2 := .tmp 3) (v2 := vB false) ha rfl (.inl rfl) rfl rfl ⟨_, rfl, cx.below, ⟨_, _, rfl, Pt.none, rfl⟩⟩
 · replace h := itF hb h
   refine wp_skip ?_
   refine hK _ _ ?_
   clear hK
   refine sq fun K hK => ?_
   refine reg ?_
   refine sg ha 2 [(0, vS A_p0 p0 c_p0), (7, vS A_p0 p0 c_p0), (8, vS A_p0 p0 c_p0)] w1 fun a ha => ?_
   obtain ⟨x2, hx2, h⟩ := obind h
   refine op_call ha (by kernel_rfl) (f := 86) (args := #[vS A_p0 p0 c_p0]) (w' := w1) (by kernel_rfl) (ok86 fuel (p0 := p0) cx.lt h_p0 hx2) ?_
   rintro v2 w2 ⟨hb2, hp2⟩ a ha
   obtain ⟨A1, c1, rfl, f1⟩ := hp2
   replace f1 := own_out cx f1
   replace h_p0 := h_p0.keep (Keep.ext S hb2)
   replace cx := cx.ext hb2
   refine sg ha 1 [(0, vS A_p0 p0 c_p0), (7, vS A_p0 p0 c_p0), (9, vS A1 x2 c1), (10, vS A_p0 p0 c_p0)] w2 fun a ha => ?_
   obtain ⟨x3, hx3, h⟩ := obind h
   refine op_call ha (by kernel_rfl) (f := 87) (args := #[vS A_p0 p0 c_p0]) (w' := w2) (by kernel_rfl) (ok87 fuel (p0 := p0) cx.lt h_p0 hx3) ?_
   rintro v3 w3 ⟨hb3, hp3⟩ a ha
   obtain ⟨A2, c2, rfl, f2⟩ := hp3
   replace f2 := own_out cx f2
   replace h_p0 := h_p0.keep (Keep.ext S hb3)
   replace f1 := f1.keep (Keep.ext S hb3)
   replace cx := cx.ext hb3
   refine sg ha 1 [(0, vS A_p0 p0 c_p0), (7, vS A_p0 p0 c_p0), (9, vS A1 x2 c1), (11, vS A2 x3 c2), (12, vS A_p0 p0 c_p0)] w3 fun a ha => ?_
   obtain ⟨x4, hx4, h⟩ := obind h
   refine op_call ha (by kernel_rfl) (f := 88) (args := #[vS A_p0 p0 c_p0]) (w' := w3) (by kernel_rfl) (ok88 fuel (p0 := p0) cx.lt h_p0 hx4) ?_
   rintro v4 w4 ⟨hb4, hp4⟩ a ha
   obtain ⟨A3, c3, rfl, f3⟩ := hp4
   replace f3 := own_out cx f3
   replace h_p0 := h_p0.keep (Keep.ext S hb4)
   replace f1 := f1.keep (Keep.ext S hb4)
   replace f2 := f2.keep (Keep.ext S hb4)
   replace cx := cx.ext hb4
   refine sg ha 1 [(7, vS A_p0 p0 c_p0), (9, vS A1 x2 c1), (11, vS A2 x3 c2), (13, vS A3 x4 c3), (14, vS A_p0 p0 c_p0)] w4 fun a ha => ?_
   obtain ⟨x5, hx5, h⟩ := obind h
   refine op_call ha (by kernel_rfl) (f := 78) (args := #[vS A_p0 p0 c_p0]) (w' := w4) (by kernel_rfl) (ok78 fuel (p0 := p0) cx.lt h_p0 hx5) ?_
   rintro v5 w5 ⟨hb5, hp5⟩ a ha
   obtain ⟨A4, c4, rfl, f4⟩ := hp5
   replace f4 := own_out cx f4
   replace h_p0 := h_p0.keep (Keep.ext S hb5)
   replace f1 := f1.keep (Keep.ext S hb5)
   replace f2 := f2.keep (Keep.ext S hb5)
   replace f3 := f3.keep (Keep.ext S hb5)
   replace cx := cx.ext hb5
   refine sg ha 1 [(16, .agg #[vS A_p0 p0 c_p0, vS A1 x2 c1, vS A2 x3 c2, vS A3 x4 c3, vS A4 x5 c4])] w5 fun a ha => ?_
   refine op_new (V := fun b => vP b) (cs := [vS A_p0 p0 c_p0, vS A1 x2 c1, vS A2 x3 c2, vS A3 x4 c3, vS A4 x5 c4]) (T := 111) ha (by kernel_rfl) (by kernel_rfl) ?_
   intro w6 b1 hb6 hk1 he1 _ a ha
   have f5 := Bx.new cx hk1 he1
   replace h_p0 := h_p0.keep (Keep.ext S hb6)
   replace f1 := f1.keep (Keep.ext S hb6)
   replace f2 := f2.keep (Keep.ext S hb6)
   replace f3 := f3.keep (Keep.ext S hb6)
   replace f4 := f4.keep (Keep.ext S hb6)
   replace cx := cx.ext hb6
   refine sg ha 2 [(2, vP b1), (3, vB true)] w6 fun a ha => ?_
   refine hK _ _ ?_
   clear hK
   refine wp_ret ?_
   obtain rfl := Option.some.inj h
   show bodyPost Try.prog Try.f51 (R51 w S _) .ret a w6
   exact ret_2 (r1 := .tmp 2) (v1 := vP b1) (r2 := .tmp 3) (v2 := vB true) ha rfl (.inl rfl) rfl rfl ⟨_, rfl, cx.below, ⟨_, _, rfl, ⟨_, _, rfl, f5.keep (Keep.less cx.sub), ⟨_, _, _, _, _, _, _, _, _, _, rfl, h_p0.keep (Keep.less cx.sub), f1.keep (Keep.less cx.sub), f2.keep (Keep.less cx.sub), f3.keep (Keep.less cx.sub), f4.keep (Keep.less cx.sub)⟩⟩, rfl⟩⟩
def post47 (w : World) (S : Off) (r : ((Option MFollowChart) × Int × Bool)) (v : Value) (w1 : World) : Prop := ∃ v0 : Value, ∃ v1 : Value, ∃ v2 : Value, v = .tuple #[v0, v1, v2] ∧ (Pt tFollowChart 111 w1.heap S r.1 v0) ∧ (v1 = .int .i64 r.2.1) ∧ (v2 = .bool r.2.2)
abbrev R47 (w : World) (S : Off) (r : ((Option MFollowChart) × Int × Bool)) : Ending → World → Prop := fun e w1 => ∃ v, e = .returned v ∧ Below w.heap.size w w1 ∧ post47 w S r v w1
theorem ok47 (fuel : Nat) {w : World} {S : Off} (hS : ∀ b, S b → b < w.heap.size) {p0 : (List MTerm)} {p1 : Int} {A_p0 : Option Addr} {c_p0 : Nat} (h_p0 : Sl tTerm w.heap S A_p0 c_p0 p0) {r : ((Option MFollowChart) × Int × Bool)} (h : m_follow_at fuel p0 p1 = some r) :
 Calls Try.prog 47 #[vS A_p0 p0 c_p0, vI p1] w (R47 w S r) := by
 refine enterL (vs := [vS A_p0 p0 c_p0, vI p1]) Try.func47 rfl rfl ?_
 intro a ha
 have cx := Cx.start (W0 := nob) hS
 refine with_nop (noP_body _ _) (fun hq => ?_)
 unfold m_follow_at at h
 refine sq fun K hK => ?_
 refine reg ?_
 refine sg ha 3 [(0, vS A_p0 p0 c_p0), (1, vI p1)] w fun a ha => ?_
 refine hK _ _ ?_
 clear hK
 refine sq fun K hK => ?_
 refine reg ?_
 refine sg ha 1 [(0, vS A_p0 p0 c_p0), (1, vI p1), (11, vS A_p0 p0 c_p0)] w fun a ha => ?_
 obtain ⟨x1, hx1, h⟩ := obind h
 refine op_call ha (by kernel_rfl) (f := 51) (args := #[vS A_p0 p0 c_p0]) (w' := w) (by kernel_rfl) (ok51 fuel (p0 := p0) cx.lt h_p0 hx1) ?_
 rintro v1 w1 ⟨hb1, hp1⟩ a ha
 obtain ⟨u1, _, rfl, f1, rfl⟩ := hp1
 replace h_p0 := h_p0.keep (Keep.ext S hb1)
 replace cx := cx.ext hb1
 refine sg ha 5 [(0, vS A_p0 p0 c_p0), (1, vI p1), (7, u1), (8, vB x1.2)] w1 fun a ha => ?_
 refine hK _ _ ?_
 clear hK
 refine sq fun K hK => ?_
 refine sq fun K hK => ?_
 refine reg ?_
 refine sg ha 2 [(0, vS A_p0 p0 c_p0), (1, vI p1), (7, u1), (16, vB (!x1.2))] w1 fun a ha => ?_
 refine hK _ _ ?_
 clear hK
 refine cond_b ha rfl (fun hb => ?_) (fun hb => ?_)
 · replace h := itT hb h
   refine sq fun K hK => ?_
   refine reg ?_
   refine sg ha 3 [(4, .pointer none), (5, vI 0), (6, vB false)] w1 fun a ha => ?_
   refine hK _ _ ?_
   clear hK
   refine wp_ret ?_
   obtain rfl := Option.some.inj h
   show bodyPost Try.prog Try.f47 (R47 w S _) .ret a w1
   exact ret_3 (r1 := .tmp 4) (v1 := .pointer none) (r2 := .tmp 5) (v2 := vI 0) (r3 := .tmp 6) (v3 := vB false) ha rfl (.inl rfl) rfl rfl rfl ⟨_, rfl, cx.below, ⟨_, _, _, rfl, Pt.none, rfl, rfl⟩⟩
 · replace h := itF hb h
   refine wp_skip ?_
   refine hK _ _ ?_
   clear hK
   refine sq fun K hK => ?_
   refine reg ?_
   refine sg ha 1 [(1, vI p1), (7, u1), (17, vS A_p0 p0 c_p0)] w1 fun a ha => ?_
   obtain ⟨x2, hx2, h⟩ := obind h
   refine op_call ha (by kernel_rfl) (f := 67) (args := #[vS A_p0 p0 c_p0]) (w' := w1) (by kernel_rfl) (ok67 fuel (p0 := p0) cx.lt h_p0 hx2) ?_
   rintro v2 w2 ⟨hb2, hp2⟩ a ha
   obtain ⟨A1, c1, rfl, f2⟩ := hp2
   replace f2 := own_out cx f2
   replace f1 := f1.keep (Keep.ext S hb2)
   replace cx := cx.ext hb2
   refine sg ha 1 [(1, vI p1), (7, u1), (9, vS A1 x2 c1)] w2 fun a ha => ?_
   refine hK _ _ ?_
   clear hK
   refine sq fun K hK => ?_
   refine sq fun K hK => ?_
   obtain ⟨q1, hj1, h⟩ := obind h
   refine wp_cutV (D := fun a w_ => ∃ x3 : Bool, x3 = q1 ∧ w2 = w_ ∧ Ag 32 [(1, vI p1), (7, u1), (9, vS A1 x2 c1), (26, vB x3)] a) ?_ ?_
   · clear h; have h := hj1
     refine reg ?_
     refine sg ha 3 [(1, vI p1), (7, u1), (9, vS A1 x2 c1), (21, vB (decide (p1 < 0)))] w2 fun a ha => ?_
     refine split_b (t := 21) ha rfl (fun hb ha => ?_) (fun hb ha => ?_)
     · replace h := itT hb h
       refine sg ha 5 [(1, vI p1), (7, u1), (9, vS A1 x2 c1), (26, vB true)] w2 fun a ha => ?_
       obtain rfl := Option.some.inj h
       exact ⟨_, rfl, rfl, ha.to (by kernel_rfl)⟩
     · replace h := itF hb h
       refine sg ha 5 [(1, vI p1), (7, u1), (9, vS A1 x2 c1), (26, vB (decide (p1 ≥ (x2.length : Int))))] w2 fun a ha => ?_
       obtain rfl := Option.some.inj h
       exact ⟨_, rfl, rfl, ha.to (by kernel_rfl)⟩
   rintro a _ ⟨x3, rfl, rfl, ha⟩
   refine hK _ _ ?_
   clear hK
   refine cond_b ha rfl (fun hb => ?_) (fun hb => ?_)
   · replace h := itT hb h
     refine sq fun K hK => ?_
     refine reg ?_
     refine sg ha 3 [(4, .pointer none), (5, vI 0), (6, vB false)] w2 fun a ha => ?_
     refine hK _ _ ?_
     clear hK
     refine wp_ret ?_
     obtain rfl := Option.some.inj h
     show bodyPost Try.prog Try.f47 (R47 w S _) .ret a w2
     exact ret_3 (r1 := .tmp 4) (v1 := .pointer none) (r2 := .tmp 5) (v2 := vI 0) (r3 := .tmp 6) (v3 := vB false) ha rfl (.inl rfl) rfl rfl rfl ⟨_, rfl, cx.below, ⟨_, _, _, rfl, Pt.none, rfl, rfl⟩⟩
   · replace h := itF hb h
     refine wp_skip ?_
     refine hK _ _ ?_
     clear hK
     refine sq fun K hK => ?_
     refine dr_start 8 S rfl ?_
     intro w3 e1 hb3
     replace f1 := f1.keep (Keep.ext S hb3)
     replace f2 := f2.keep (Keep.ext S hb3)
     replace cx := cx.ext hb3
     refine dk 0 u1 ha hq rfl (Sd.start _ _ _ _) fun hsx a ha => ?_
     refine dk 1 (vS A1 x2 c1) ha hq rfl hsx fun hsx a ha => ?_
     refine dk 2 (vI p1) ha hq rfl hsx fun hsx a ha => ?_
     obtain ⟨hi1, h⟩ := ite_some h
     obtain ⟨b1, o1, cs1, rfl, hr1, hc1⟩ := f2.rdb.get hi1
     obtain rfl := hr1
     refine dv 3 (vE b1 o1 p1 1) ha hq rfl (fun w2 hw2 hw3 => obx w2 rfl rfl rfl Try.underlying25 rfl hi1) hsx fun hsx a ha => ?_
     refine dv 4 (vI (gt x2 p1)) ha hq rfl (fun w2 hw2 hw3 => ob_load w2 rfl rfl Try.underlying3 rfl ((cell_add1 _ _ _ _).trans (Sold.cell (hw3 (by kernel_rfl)) (hc1 0 _ rfl)))) hsx fun hsx a ha => ?_
     refine dk 5 u1 ha hq rfl hsx fun hsx a ha => ?_
     refine dk 6 (vI (gt x2 p1)) ha hq rfl hsx fun hsx a ha => ?_
     refine dk 7 (vB true) ha hq rfl hsx fun hsx a ha => ?_
     refine dr_done (by kernel_rfl) ?_
     replace ha := ha.to (l' := [(4, u1), (5, vI (gt x2 p1)), (6, vB true)]) (by kernel_rfl)
     refine hK _ _ ?_
     clear hK
     refine wp_ret ?_
     obtain rfl := Option.some.inj h
     show bodyPost Try.prog Try.f47 (R47 w S _) .ret a w3
     exact ret_3 (r1 := .tmp 4) (v1 := u1) (r2 := .tmp 5) (v2 := vI (gt x2 p1)) (r3 := .tmp 6) (v3 := vB true) ha rfl (.inl rfl) rfl rfl rfl ⟨_, rfl, cx.below, ⟨_, _, _, rfl, f1.keep (Keep.less cx.sub), rfl, rfl⟩⟩
def post81 (w : World) (S : Off) (r : ((List Int))) (v : Value) (w1 : World) : Prop := ∃ (A : Option Addr) (c : Nat), v = .slice A r.length c ∧ Sl (tInt .i64) w1.heap S A c r
abbrev R81 (w : World) (S : Off) (r : ((List Int))) : Ending → World → Prop := fun e w1 => ∃ v, e = .returned v ∧ Below w.heap.size w w1 ∧ post81 w S r v w1
theorem ok81 (fuel : Nat) {w : World} {S : Off} (hS : ∀ b, S b → b < w.heap.size) {p0 : (List Int)} {p1 : (List Int)} {A_p0 : Option Addr} {c_p0 : Nat} (h_p0 : Sl (tInt .i64) w.heap S A_p0 c_p0 p0) {A_p1 : Option Addr} {c_p1 : Nat} (h_p1 : Sl (tInt .i64) w.heap S A_p1 c_p1 p1) {r : ((List Int))} (h : m_follow_more fuel p0 p1 = some r) :
 Calls Try.prog 81 #[vS A_p0 p0 c_p0, vS A_p1 p1 c_p1] w (R81 w S r) := by
 refine enterL (vs := [vS A_p0 p0 c_p0, vS A_p1 p1 c_p1]) Try.func81 rfl rfl ?_
 intro a ha
 have cx := Cx.start (W0 := nob) hS
 refine with_nop (noP_body _ _) (fun hq => ?_)
 unfold m_follow_more at h
 refine sq fun K hK => ?_
 refine reg ?_
 refine sg ha 1 [(0, vS A_p0 p0 c_p0), (1, vS A_p1 p1 c_p1)] w fun a ha => ?_
 refine hK _ _ ?_
 clear hK
 refine sq fun K hK => ?_
 refine reg ?_
 refine sg ha 5 [(1, vS A_p1 p1 c_p1), (5, vS A_p0 p0 c_p0), (7, vI (p0.length : Int)), (9, vI (p0.length : Int))] w fun a ha => ?_
 obtain ⟨hi1, h⟩ := ite_some h
 obtain ⟨hm1, h⟩ := ite_some h
 obtain ⟨A1, hr1, f1⟩ := slice_at (P := Try.prog) (T := (tInt .i64)) (t := 25) (lo := none) (hi := (some (vI (p0.length : Int)))) (mx := (some (vI (p0.length : Int)))) (vlo := 0) (vhi := (p0.length : Int)) (vmx := (p0.length : Int)) Try.underlying25 (by kernel_rfl) h_p0 rfl ⟨_, rfl⟩ ⟨_, rfl⟩ hi1 (.inr (mx_ok hm1))
 refine ov (vS A1 (cutL p0 0 (p0.length : Int)) (Int.toNat ((p0.length : Int) - 0))) ha (ob_slice w rfl (hr1 w)) fun a ha => ?_
 refine sg ha 1 [(10, vS A1 (cutL p0 0 (p0.length : Int)) (Int.toNat ((p0.length : Int) - 0))), (11, vS A_p1 p1 c_p1)] w fun a ha => ?_
 obtain ⟨hp1, h⟩ := ite_some h
 refine op_appendF (T := (tInt .i64)) (xs := (cutL p0 0 (p0.length : Int))) (ys := p1) (z := vI 0) (bytes := 8) ha cx (by kernel_rfl) rfl rfl rfl Try.underlying25 (by kernel_rfl) (by kernel_rfl) f1 (cut_room hi1) h_p1.rdb hp1 ?_
 intro w1 A2 c1 hb1 f2 a ha
 replace cx := cx.ext hb1
 refine sg ha 1 [(4, vS A2 ((cutL p0 0 (p0.length : Int)) ++ p1) c1)] w1 fun a ha => ?_
 refine hK _ _ ?_
 clear hK
 refine wp_ret ?_
 obtain rfl := Option.some.inj h
 show bodyPost Try.prog Try.f81 (R81 w S _) .ret a w1
 exact ret_1 (r1 := .tmp 4) (v1 := vS A2 ((cutL p0 0 (p0.length : Int)) ++ p1) c1) ha rfl (.inl rfl) rfl ⟨_, rfl, cx.below, ⟨_, _, rfl, f2.keep (Keep.less cx.sub)⟩⟩
def post53 (w : World) (S : Off) (W0 : Off) (r : ((List MHop))) (v : Value) (w1 : World) : Prop := ∃ A_r0 : Option Addr, ∃ c_r0 : Nat, v = .slice A_r0 r.length c_r0 ∧ Ow tHop 27 (Wr W0 w) w1.heap (inL [.slice A_r0 r.length c_r0] S) (.slice A_r0 r.length c_r0) r
abbrev R53 (w : World) (S : Off) (W0 : Off) (r : ((List MHop))) : Ending → World → Prop := fun e w1 => ∃ v, e = .returned v ∧ BelW W0 w w1 ∧ post53 w S W0 r v w1
theorem ok53 (fuel : Nat) : ∀ (k : Nat) {w : World} {S : Off} (hS : ∀ b, S b → b < w.heap.size) {p0 : MFollowChart} {p1 : Int} {p2 : (List Int)} {p3 : (List MHop)} {M : Off} {b_p0 : Nat} {A_p0_0 : Option Addr} {c_p0_0 : Nat} {A_p0_1 : Option Addr} {c_p0_1 : Nat} {A_p0_2 : Option Addr} {c_p0_2 : Nat} {A_p0_3 : Option Addr} {c_p0_3 : Nat} {A_p0_4 : Option Addr} {c_p0_4 : Nat} (h_p0 : Bx w.heap S b_p0 111 [.slice A_p0_0 p0.l.length c_p0_0, .slice A_p0_1 p0.up.length c_p0_1, .slice A_p0_2 p0.deep.length c_p0_2, .slice A_p0_3 p0.index.length c_p0_3, .slice A_p0_4 p0.can.length c_p0_4]) (h_p0_0 : Sl tTerm w.heap S A_p0_0 c_p0_0 p0.l) (h_p0_1 : Sl (tInt .i64) w.heap S A_p0_1 c_p0_1 p0.up) (h_p0_2 : Sl (tInt .i64) w.heap S A_p0_2 c_p0_2 p0.deep) (h_p0_3 : Sl (tInt .i64) w.heap S A_p0_3 c_p0_3 p0.index) (h_p0_4 : Sl tBool w.heap S A_p0_4 c_p0_4 p0.can) {A_p2 : Option Addr} {c_p2 : Nat} (h_p2 : Sl (tInt .i64) w.heap S A_p2 c_p2 p2) {A_p3 : Option Addr} {c_p3 : Nat} (h_p3 : Ow tHop 27 (M) w.heap S (.slice A_p3 p3.length c_p3) p3) {r : ((List MHop))} (h : m_follow_chart_into fuel k p0 p1 p2 p3 = some r), Calls Try.prog 53 #[.pointer (some ⟨b_p0, 0, none⟩), .int .i64 p1, .slice A_p2 p2.length c_p2, .slice A_p3 p3.length c_p3] w (R53 w S (obl [.slice A_p3 p3.length c_p3]) r) := by
 intro k
 induction k with
 | zero => intro w S hS p0 p1 p2 p3 M b_p0 A_p0_0 c_p0_0 A_p0_1 c_p0_1 A_p0_2 c_p0_2 A_p0_3 c_p0_3 A_p0_4 c_p0_4 h_p0 h_p0_0 h_p0_1 h_p0_2 h_p0_3 h_p0_4 A_p2 c_p2 h_p2 A_p3 c_p3 h_p3 r h; simp [m_follow_chart_into] at h
 | succ k ih =>
  intro w S hS p0 p1 p2 p3 M b_p0 A_p0_0 c_p0_0 A_p0_1 c_p0_1 A_p0_2 c_p0_2 A_p0_3 c_p0_3 A_p0_4 c_p0_4 h_p0 h_p0_0 h_p0_1 h_p0_2 h_p0_3 h_p0_4 A_p2 c_p2 h_p2 A_p3 c_p3 h_p3 r h
  generalize hW0 : (obl [vS A_p3 p3 c_p3]) = W0
  replace h_p3 := h_p3.weak (M' := Wr W0 w) (fun k hk => .inl (by rw [← hW0]; exact obl_at 0 rfl hk))
  refine enterL (vs := [vP b_p0, vI p1, vS A_p2 p2 c_p2, vS A_p3 p3 c_p3]) Try.func53 rfl rfl ?_
  intro a ha
  have cx := Cx.start (W0 := W0) hS
  refine with_nop (noP_body _ _) (fun hq => ?_)
  unfold m_follow_chart_into at h
  refine sq fun K hK => ?_
  refine reg ?_
  refine sg ha 1 [(0, vP b_p0), (1, vI p1), (2, vS A_p2 p2 c_p2), (3, vS A_p3 p3 c_p3)] w fun a ha => ?_
  refine hK _ _ ?_
  clear hK
  refine sq fun K hK => ?_
  refine reg ?_
  refine sg ha 3 [(0, vP b_p0), (1, vI p1), (2, vS A_p2 p2 c_p2), (3, vS A_p3 p3 c_p3), (13, vF b_p0 0)] w fun a ha => ?_
  refine ov (.slice A_p0_0 p0.l.length c_p0_0) ha (ob_load w rfl rfl Try.underlying22 rfl ((cell_add1 _ _ _ _).trans (by rw [Nat.zero_add]; exact h_p0.cell 0 _ rfl))) fun a ha => ?_
  refine sg ha 1 [(0, vP b_p0), (1, vI p1), (2, vS A_p2 p2 c_p2), (3, vS A_p3 p3 c_p3), (14, vS A_p0_0 p0.l c_p0_0), (15, vI p1)] w fun a ha => ?_
  obtain ⟨hi1, h⟩ := ite_some h
  obtain ⟨b1, o1, cs1, rfl, hr1, hc1⟩ := h_p0_0.rdb.get hi1
  obtain ⟨rfl, hl1⟩ := hr1
  refine ov (vE b1 o1 p1 8) ha (obx w rfl rfl rfl Try.underlying22 rfl hi1) fun a ha => ?_
  refine ov (.agg #[vI ((gt p0.l p1).Kind), vI ((gt p0.l p1).A), vI ((gt p0.l p1).B), vI ((gt p0.l p1).N), .int .u64 (gt ((gt p0.l p1).Set) 0), .int .u64 (gt ((gt p0.l p1).Set) 1), .int .u64 (gt ((gt p0.l p1).Set) 2), .int .u64 (gt ((gt p0.l p1).Set) 3)]) ha (ob_loadn (cs := [vI ((gt p0.l p1).Kind), vI ((gt p0.l p1).A), vI ((gt p0.l p1).B), vI ((gt p0.l p1).N), .int .u64 (gt ((gt p0.l p1).Set) 0), .int .u64 (gt ((gt p0.l p1).Set) 1), .int .u64 (gt ((gt p0.l p1).Set) 2), .int .u64 (gt ((gt p0.l p1).Set) 3)]) w rfl rfl Try.underlying42 rfl (by kernel_rfl) (fun j v hj => (cell_add2 _ _ _ _ _).trans (hc1 j v hj))) fun a ha => ?_
  refine op_var (d := 9) (z := [vI 0, vI 0, vI 0, vI 0, .int .u64 0, .int .u64 0, .int .u64 0, .int .u64 0]) (vs := [vI ((gt p0.l p1).Kind), vI ((gt p0.l p1).A), vI ((gt p0.l p1).B), vI ((gt p0.l p1).N), .int .u64 (gt ((gt p0.l p1).Set) 0), .int .u64 (gt ((gt p0.l p1).Set) 1), .int .u64 (gt ((gt p0.l p1).Set) 2), .int .u64 (gt ((gt p0.l p1).Set) 3)]) (v := .agg #[vI ((gt p0.l p1).Kind), vI ((gt p0.l p1).A), vI ((gt p0.l p1).B), vI ((gt p0.l p1).N), .int .u64 (gt ((gt p0.l p1).Set) 0), .int .u64 (gt ((gt p0.l p1).Set) 1), .int .u64 (gt ((gt p0.l p1).Set) 2), .int .u64 (gt ((gt p0.l p1).Set) 3)]) ha cx (by kernel_rfl) rfl (by kernel_rfl) (fun _ => by kernel_rfl) rfl rfl (fun _ => by kernel_rfl) (by kernel_rfl) (by kernel_rfl) (by kernel_rfl) ?_
  intro w1 b2 cx hb1 f1 a ha
  replace h_p0 := h_p0.keep (Keep.ext S hb1)
  replace h_p0_0 := h_p0_0.keep (Keep.ext S hb1)
  replace h_p0_1 := h_p0_1.keep (Keep.ext S hb1)
  replace h_p0_2 := h_p0_2.keep (Keep.ext S hb1)
  replace h_p0_3 := h_p0_3.keep (Keep.ext S hb1)
  replace h_p0_4 := h_p0_4.keep (Keep.ext S hb1)
  replace h_p2 := h_p2.keep (Keep.ext S hb1)
  replace h_p3 := h_p3.ext hb1
  refine hK _ _ ?_
  clear hK
  refine sq fun K hK => ?_
  refine reg ?_
  refine sg ha 3 [(0, vP b_p0), (1, vI p1), (3, vS A_p3 p3 c_p3), (9, vP b2), (18, vS A_p2 p2 c_p2), (20, vI (W (2 * p1)))] w1 fun a ha => ?_
  refine op_new (V := fun b => .slice (some ⟨b, 0, none⟩) 1 1) (cs := [vI (W (2 * p1))]) (T := 3) ha (by kernel_rfl) (by kernel_rfl) ?_
  intro w2 b3 hb2 hk1 he1 _ a ha
  have f2 := lit_ow (T := (tInt .i64)) (xs := [(W (2 * p1))]) (m := 1) cx hb2 hk1 he1 rfl (by kernel_rfl) (Els.one (T := (tInt .i64)) (x := (W (2 * p1))) rfl)
  replace f2 := own_out cx f2
  replace h_p0 := h_p0.keep (Keep.ext S hb2)
  replace h_p0_0 := h_p0_0.keep (Keep.ext S hb2)
  replace h_p0_1 := h_p0_1.keep (Keep.ext S hb2)
  replace h_p0_2 := h_p0_2.keep (Keep.ext S hb2)
  replace h_p0_3 := h_p0_3.keep (Keep.ext S hb2)
  replace h_p0_4 := h_p0_4.keep (Keep.ext S hb2)
  replace h_p3 := h_p3.ext hb2
  replace f1 := f1.keep (Keep.ext S hb2)
  replace h_p2 := h_p2.keep (Keep.ext S hb2)
  replace cx := cx.ext hb2
  obtain ⟨x1, hx1, h⟩ := obind h
  refine op_call ha (by kernel_rfl) (f := 81) (args := #[vS A_p2 p2 c_p2, .slice (some ⟨b3, 0, none⟩) 1 1]) (w' := w2) (by kernel_rfl) (ok81 fuel (p0 := p2) (p1 := [(W (2 * p1))]) cx.lt h_p2 f2 hx1) ?_
  rintro v1 w3 ⟨hb3, hp1⟩ a ha
  obtain ⟨A1, c1, rfl, f3⟩ := hp1
  replace h_p0 := h_p0.keep (Keep.ext S hb3)
  replace h_p0_0 := h_p0_0.keep (Keep.ext S hb3)
  replace h_p0_1 := h_p0_1.keep (Keep.ext S hb3)
  replace h_p0_2 := h_p0_2.keep (Keep.ext S hb3)
  replace h_p0_3 := h_p0_3.keep (Keep.ext S hb3)
  replace h_p0_4 := h_p0_4.keep (Keep.ext S hb3)
  replace h_p3 := h_p3.ext hb3
  replace f1 := f1.keep (Keep.ext S hb3)
  replace cx := cx.ext hb3
  refine sg ha 1 [(0, vP b_p0), (1, vI p1), (3, vS A_p3 p3 c_p3), (9, vP b2), (10, vS A1 x1 c1)] w3 fun a ha => ?_
  refine hK _ _ ?_
  clear hK
  refine sq fun K hK => ?_
  obtain ⟨q1, hj1, h⟩ := obind h
  refine wp_cutV (D := fun a w4 => ∃ x2 : List MHop, ∃ (S1 : Off), ∃ (A2 : Option Addr) (c2 : Nat), .inl x2 = q1 ∧ Cx w W0 S w4 S1 ∧ Ow tHop 27 (Wr W0 w) w4.heap S1 (vS A2 x2 c2) x2 ∧ Ag 94 [(3, vS A2 x2 c2)] a) ?_ ?_
  · have hq1 := h; clear h; have h := hj1
    refine sq fun K hK => ?_
    refine reg ?_
    refine sg ha 1 [(0, vP b_p0), (1, vI p1), (3, vS A_p3 p3 c_p3), (9, vP b2), (10, vS A1 x1 c1), (23, vF b2 0)] w3 fun a ha => ?_
    refine ov (.int .i64 ((gt p0.l p1).Kind)) ha (ob_load w3 rfl rfl Try.underlying3 rfl ((cell_add1 _ _ _ _).trans (by rw [Nat.zero_add]; exact f1.cell 0 _ rfl))) fun a ha => ?_
    refine hK _ _ ?_
    clear hK
    obtain ⟨q2, hj2, h⟩ := obind h
    refine wp_cutV (D := fun a w5 => ∃ x3 : List MHop, ∃ (S2 : Off), ∃ (A3 : Option Addr) (c3 : Nat), .inl x3 = q2 ∧ Cx w W0 S w5 S2 ∧ Ow tHop 27 (Wr W0 w) w5.heap S2 (vS A3 x3 c3) x3 ∧ Ag 94 [(3, vS A3 x3 c3)] a) ?_ ?_
    · have hq2 := h; clear h; have h := hj2
      refine wp_block ?_
      refine sq fun K hK => ?_
      refine reg ?_
      refine sg ha 2 [(0, vP b_p0), (1, vI p1), (3, vS A_p3 p3 c_p3), (9, vP b2), (10, vS A1 x1 c1), (24, vI ((gt p0.l p1).Kind)), (25, vB (((gt p0.l p1).Kind) == 2))] w3 fun a ha => ?_
      refine hK _ _ ?_
      clear hK
      refine cond_b ha rfl (fun hb => ?_) (fun hb => ?_)
      · replace h := itT hb h
        refine sq fun K hK => ?_
        refine reg ?_
        refine sg ha 4 [(1, vI p1), (10, vS A1 x1 c1), (27, vS A_p3 p3 c_p3), (30, vF b_p0 3)] w3 fun a ha => ?_
        refine ov (.slice A_p0_3 p0.index.length c_p0_3) ha (ob_load w3 rfl rfl Try.underlying25 rfl ((cell_add1 _ _ _ _).trans (by rw [Nat.zero_add]; exact h_p0.cell 3 _ rfl))) fun a ha => ?_
        refine sg ha 1 [(10, vS A1 x1 c1), (27, vS A_p3 p3 c_p3), (31, vS A_p0_3 p0.index c_p0_3), (32, vI p1)] w3 fun a ha => ?_
        obtain ⟨hi2, h⟩ := ite_some h
        obtain ⟨b4, o2, cs2, rfl, hr2, hc2⟩ := h_p0_3.rdb.get hi2
        obtain rfl := hr2
        refine ov (vE b4 o2 p1 1) ha (obx w3 rfl rfl rfl Try.underlying25 rfl hi2) fun a ha => ?_
        refine ov (vI (gt p0.index p1)) ha (ob_load w3 rfl rfl Try.underlying3 rfl ((cell_add1 _ _ _ _).trans (hc2 0 _ rfl))) fun a ha => ?_
        refine sg ha 2 [(27, vS A_p3 p3 c_p3), (36, .agg #[vI (gt p0.index p1), vI 0, vS A1 x1 c1])] w3 fun a ha => ?_
        refine op_new (V := fun b => .slice (some ⟨b, 0, none⟩) 1 1) (cs := [vI (gt p0.index p1), vI 0, vS A1 x1 c1]) (T := 27) ha (by kernel_rfl) (by kernel_rfl) ?_
        intro w6 b5 hb4 hk2 he2 _ a ha
        have f6 := lit_ow (T := tHop) (xs := [(⟨(gt p0.index p1), (0 : Int), x1⟩ : MHop)]) (m := 1) cx hb4 hk2 he2 rfl (by kernel_rfl) (Els.one (T := tHop) (x := (⟨(gt p0.index p1), (0 : Int), x1⟩ : MHop)) ⟨_, _, rfl, f3⟩)
        replace f6 := own_out cx f6
        replace h_p3 := h_p3.ext hb4
        replace cx := cx.ext hb4
        obtain ⟨hp2, h⟩ := ite_some h
        refine op_append (T := tHop) (xs := p3) (ys := [(⟨(gt p0.index p1), (0 : Int), x1⟩ : MHop)]) (z := .agg #[vI 0, vI 0, .slice none 0 0]) (bytes := 40) ha cx (by kernel_rfl) rfl rfl rfl Try.underlying31 (by kernel_rfl) (by kernel_rfl) wr_id h_p3 f6.rdb hp2 ?_
        intro w7 S3 A4 c4 cx kp1 hs1 hn1 hat1 f7 a ha
        refine sg ha 1 [(8, vS A4 (p3 ++ [(⟨(gt p0.index p1), (0 : Int), x1⟩ : MHop)]) c4)] w7 fun a ha => ?_
        refine hK _ _ ?_
        clear hK
        refine wp_ret ?_
        obtain rfl := Option.some.inj h
        replace h := hq2
        obtain rfl := Option.some.inj h
        replace h := hq1
        obtain rfl := Option.some.inj h
        have hin : ∀ k, inL [vS A4 (p3 ++ [(⟨(gt p0.index p1), (0 : Int), x1⟩ : MHop)]) c4] S k → S3 k := inL_sub cx.sub (all_cons (fun k hk => (f7.own k hk).1) all_nil)
        show bodyPost Try.prog Try.f53 (R53 w S W0 _) .ret a w7
        exact ret_1 (r1 := .tmp 8) (v1 := vS A4 (p3 ++ [(⟨(gt p0.index p1), (0 : Int), x1⟩ : MHop)]) c4) ha rfl (.inl rfl) rfl ⟨_, rfl, cx.bel, ⟨_, _, rfl, f7.out hin (fun k hk => obl_at 0 rfl hk)⟩⟩
      · replace h := itF hb h
        refine sq fun K hK => ?_
        refine reg ?_
        refine sg ha 2 [(0, vP b_p0), (3, vS A_p3 p3 c_p3), (9, vP b2), (10, vS A1 x1 c1), (24, vI ((gt p0.l p1).Kind)), (39, vB (((gt p0.l p1).Kind) == 3))] w3 fun a ha => ?_
        refine hK _ _ ?_
        clear hK
        refine cond_b ha rfl (fun hb => ?_) (fun hb => ?_)
        · replace h := itT hb h
          refine sq fun K hK => ?_
          refine reg ?_
          refine sg ha 2 [(0, vP b_p0), (3, vS A_p3 p3 c_p3), (9, vP b2), (10, vS A1 x1 c1), (41, vP b_p0), (42, vF b2 1)] w3 fun a ha => ?_
          refine ov (.int .i64 ((gt p0.l p1).A)) ha (ob_load w3 rfl rfl Try.underlying3 rfl ((cell_add1 _ _ _ _).trans (by rw [Nat.zero_add]; exact f1.cell 1 _ rfl))) fun a ha => ?_
          refine sg ha 2 [(0, vP b_p0), (9, vP b2), (10, vS A1 x1 c1), (41, vP b_p0), (43, vI ((gt p0.l p1).A)), (44, vS A1 x1 c1), (45, vS A_p3 p3 c_p3)] w3 fun a ha => ?_
          obtain ⟨x4, hx2, h⟩ := obind h
          refine op_call ha (by kernel_rfl) (f := 53) (args := #[vP b_p0, vI ((gt p0.l p1).A), vS A1 x1 c1, vS A_p3 p3 c_p3]) (w' := w3) (by kernel_rfl) (ih (M := Wr W0 w) (p0 := p0) (p1 := (gt p0.l p1).A) (p2 := x1) (p3 := p3) cx.lt h_p0 h_p0_0 h_p0_1 h_p0_2 h_p0_3 h_p0_4 f3 h_p3 hx2) ?_
          rintro v2 w8 ⟨hb5, hp3⟩ a ha
          obtain ⟨A5, c5, rfl, f8⟩ := hp3
          have hu1 : ∀ k, obl [vS A_p3 p3 c_p3] k → S k ∧ Wr W0 w k := (all_cons h_p3.own all_nil)
          have hv1 : ∀ k, obl [vS A5 x4 c5] k → k < w8.heap.size ∧ Wr (obl [vS A_p3 p3 c_p3]) w3 k := (all_cons (fun k hk => ⟨f8.lt k hk, (f8.own k hk).2⟩) all_nil)
          obtain ⟨cxn1, kp2, hs2, hn2⟩ := back cx hu1 hb5 hv1
          generalize inL [vS A5 x4 c5] S = S4 at cxn1 kp2 hs2 f8
          replace f8 := f8.weak (fun k hk => back_wr cx hu1 (f8.own k hk).2)
          replace h_p0 := h_p0.keep kp2
          replace h_p0_0 := h_p0_0.keep kp2
          replace h_p0_1 := h_p0_1.keep kp2
          replace h_p0_2 := h_p0_2.keep kp2
          replace h_p0_3 := h_p0_3.keep kp2
          replace h_p0_4 := h_p0_4.keep kp2
          replace f1 := f1.keep kp2
          replace f3 := f3.keep kp2
          replace cx := cxn1
          refine sg ha 1 [(0, vP b_p0), (3, vS A5 x4 c5), (9, vP b2), (10, vS A1 x1 c1)] w8 fun a ha => ?_
          refine hK _ _ ?_
          clear hK
          refine sq fun K hK => ?_
          refine dr_start 8 S4 rfl ?_
          intro w9 e1 hb6
          replace h_p0 := h_p0.keep (Keep.ext S4 hb6)
          replace h_p0_0 := h_p0_0.keep (Keep.ext S4 hb6)
          replace h_p0_1 := h_p0_1.keep (Keep.ext S4 hb6)
          replace h_p0_2 := h_p0_2.keep (Keep.ext S4 hb6)
          replace h_p0_3 := h_p0_3.keep (Keep.ext S4 hb6)
          replace h_p0_4 := h_p0_4.keep (Keep.ext S4 hb6)
          replace f8 := f8.ext hb6
          replace f1 := f1.keep (Keep.ext S4 hb6)
          replace f3 := f3.keep (Keep.ext S4 hb6)
          replace cx := cx.ext hb6
          refine dk 0 (vP b_p0) ha hq rfl (Sd.start _ _ _ _) fun hsx a ha => ?_
          refine dk 1 (vP b_p0) ha hq rfl hsx fun hsx a ha => ?_
          refine dk 2 (vF b_p0 4) ha hq rfl hsx fun hsx a ha => ?_
          refine dv 3 (.slice A_p0_4 p0.can.length c_p0_4) ha hq rfl (fun w2 hw2 hw3 => ob_load w2 rfl rfl Try.underlying84 rfl ((cell_add1 _ _ _ _).trans (by rw [Nat.zero_add]; exact Sold.cell (hw3 (by kernel_rfl)) (h_p0.cell 4 _ rfl)))) hsx fun hsx a ha => ?_
          refine dk 4 (vF b2 1) ha hq rfl hsx fun hsx a ha => ?_
          refine dv 5 (.int .i64 ((gt p0.l p1).A)) ha hq rfl (fun w2 hw2 hw3 => ob_load w2 rfl rfl Try.underlying3 rfl ((cell_add1 _ _ _ _).trans (by rw [Nat.zero_add]; exact Sold.cell (hw3 (by kernel_rfl)) (f1.cell 1 _ rfl)))) hsx fun hsx a ha => ?_
          obtain ⟨hi3, h⟩ := ite_some h
          obtain ⟨b6, o3, cs3, rfl, hr3, hc3⟩ := h_p0_4.rdb.get hi3
          obtain rfl := hr3
          refine dv 6 (vE b6 o3 ((gt p0.l p1).A) 1) ha hq rfl (fun w2 hw2 hw3 => obx w2 rfl rfl rfl Try.underlying84 rfl hi3) hsx fun hsx a ha => ?_
          refine dv 7 (vB (gt p0.can ((gt p0.l p1).A))) ha hq rfl (fun w2 hw2 hw3 => ob_load w2 rfl rfl Try.underlying4 rfl ((cell_add1 _ _ _ _).trans (Sold.cell (hw3 (by kernel_rfl)) (hc3 0 _ rfl)))) hsx fun hsx a ha => ?_
          refine dr_done (by kernel_rfl) ?_
          replace ha := ha.to (l' := [(0, vP b_p0), (3, vS A5 x4 c5), (9, vP b2), (10, vS A1 x1 c1), (54, vB (gt p0.can ((gt p0.l p1).A)))]) (by kernel_rfl)
          refine hK _ _ ?_
          clear hK
          refine cond_b ha rfl (fun hb => ?_) (fun hb => ?_)
          · replace h := itT hb h
            refine dr_start 13 S4 rfl ?_
            intro w10 e2 hb7
            replace h_p0 := h_p0.keep (Keep.ext S4 hb7)
            replace h_p0_0 := h_p0_0.keep (Keep.ext S4 hb7)
            replace h_p0_1 := h_p0_1.keep (Keep.ext S4 hb7)
            replace h_p0_2 := h_p0_2.keep (Keep.ext S4 hb7)
            replace h_p0_3 := h_p0_3.keep (Keep.ext S4 hb7)
            replace h_p0_4 := h_p0_4.keep (Keep.ext S4 hb7)
            replace f8 := f8.ext hb7
            replace f1 := f1.keep (Keep.ext S4 hb7)
            replace f3 := f3.keep (Keep.ext S4 hb7)
            replace cx := cx.ext hb7
            have hkk := Keep.refl w10.heap S4
            have hold := Sold.start w10
            have g1 := h_p0
            have g2 := h_p0_0
            have g3 := h_p0_1
            have g4 := h_p0_2
            have g5 := h_p0_3
            have g6 := h_p0_4
            have g7 := f8
            have g8 := f1
            have g9 := f3
            refine dk 0 (vP b_p0) ha hq rfl (Sd.start _ _ _ _) fun hsx a ha => ?_
            refine dk 1 (vF b2 2) ha hq rfl hsx fun hsx a ha => ?_
            refine dv 2 (.int .i64 ((gt p0.l p1).B)) ha hq rfl (fun w2 hw2 hw3 => ob_load w2 rfl rfl Try.underlying3 rfl ((cell_add1 _ _ _ _).trans (by rw [Nat.zero_add]; exact Sk.cell g8.2 hw2 (g8.cell 2 _ rfl)))) hsx fun hsx a ha => ?_
            refine dk 3 (vS A1 x1 c1) ha hq rfl hsx fun hsx a ha => ?_
            refine dk 4 (vP b_p0) ha hq rfl hsx fun hsx a ha => ?_
            refine dk 5 (vP b_p0) ha hq rfl hsx fun hsx a ha => ?_
            refine dk 6 (vF b_p0 0) ha hq rfl hsx fun hsx a ha => ?_
            refine dv 7 (.slice (some ⟨b1, o1, none⟩) p0.l.length c_p0_0) ha hq rfl (fun w2 hw2 hw3 => ob_load w2 rfl rfl Try.underlying22 rfl ((cell_add1 _ _ _ _).trans (by rw [Nat.zero_add]; exact Sk.cell g1.2 hw2 (g1.cell 0 _ rfl)))) hsx fun hsx a ha => ?_
            refine dk 8 (vF b2 1) ha hq rfl hsx fun hsx a ha => ?_
            refine dv 9 (.int .i64 ((gt p0.l p1).A)) ha hq rfl (fun w2 hw2 hw3 => ob_load w2 rfl rfl Try.underlying3 rfl ((cell_add1 _ _ _ _).trans (by rw [Nat.zero_add]; exact Sk.cell g8.2 hw2 (g8.cell 1 _ rfl)))) hsx fun hsx a ha => ?_
            refine dk 12 (vS A5 x4 c5) ha hq rfl hsx fun hsx a ha => ?_
            refine dr_one (i := 10) (by kernel_rfl) rfl ?_
            obtain ⟨x5, hx3, h⟩ := obind h
            refine op_call ha (by kernel_rfl) (f := 46) (args := #[vS (some ⟨b1, o1, none⟩) p0.l c_p0_0, vI ((gt p0.l p1).A)]) (w' := w10) (by kernel_rfl) (ok46 fuel (p0 := p0.l) (p1 := (gt p0.l p1).A) cx.lt h_p0_0 hx3) ?_
            rintro v3 w11 ⟨hb8, hp4⟩ a ha
            obtain ⟨A6, c6, rfl, f9⟩ := hp4
            replace f9 := own_out cx f9
            replace h_p0 := h_p0.keep (Keep.ext S4 hb8)
            replace h_p0_0 := h_p0_0.keep (Keep.ext S4 hb8)
            replace h_p0_1 := h_p0_1.keep (Keep.ext S4 hb8)
            replace h_p0_2 := h_p0_2.keep (Keep.ext S4 hb8)
            replace h_p0_3 := h_p0_3.keep (Keep.ext S4 hb8)
            replace h_p0_4 := h_p0_4.keep (Keep.ext S4 hb8)
            replace f3 := f3.keep (Keep.ext S4 hb8)
            replace f8 := f8.ext hb8
            replace cx := cx.ext hb8
            replace hold := hold.ext hkk.size hb8
            replace hkk := hkk.trans (Keep.ext S4 hb8)
            refine dr_next (Sd.before hkk hold) ?_
            refine dr_one (i := 11) (by kernel_rfl) rfl ?_
            obtain ⟨x6, hx4, h⟩ := obind h
            refine op_call ha (by kernel_rfl) (f := 81) (args := #[vS A1 x1 c1, vS A6 x5 c6]) (w' := w11) (by kernel_rfl) (ok81 fuel (p0 := x1) (p1 := x5) cx.lt f3 f9 hx4) ?_
            rintro v4 w12 ⟨hb9, hp5⟩ a ha
            obtain ⟨A7, c7, rfl, f10⟩ := hp5
            replace h_p0 := h_p0.keep (Keep.ext S4 hb9)
            replace h_p0_0 := h_p0_0.keep (Keep.ext S4 hb9)
            replace h_p0_1 := h_p0_1.keep (Keep.ext S4 hb9)
            replace h_p0_2 := h_p0_2.keep (Keep.ext S4 hb9)
            replace h_p0_3 := h_p0_3.keep (Keep.ext S4 hb9)
            replace h_p0_4 := h_p0_4.keep (Keep.ext S4 hb9)
            replace f8 := f8.ext hb9
            replace cx := cx.ext hb9
            replace hold := hold.ext hkk.size hb9
            replace hkk := hkk.trans (Keep.ext S4 hb9)
            refine dr_next (Sd.before hkk hold) ?_
            refine dr_one (i := 13) (by kernel_rfl) rfl ?_
            obtain ⟨x7, hx5, h⟩ := obind h
            refine op_call ha (by kernel_rfl) (f := 53) (args := #[vP b_p0, vI ((gt p0.l p1).B), vS A7 x6 c7, vS A5 x4 c5]) (w' := w12) (by kernel_rfl) (ih (M := Wr W0 w) (p0 := p0) (p1 := (gt p0.l p1).B) (p2 := x6) (p3 := x4) cx.lt h_p0 h_p0_0 h_p0_1 h_p0_2 h_p0_3 h_p0_4 f10 f8 hx5) ?_
            rintro v5 w13 ⟨hb10, hp6⟩ a ha
            obtain ⟨A8, c8, rfl, f11⟩ := hp6
            have hu2 : ∀ k, obl [vS A5 x4 c5] k → S4 k ∧ Wr W0 w k := (all_cons f8.own all_nil)
            have hv2 : ∀ k, obl [vS A8 x7 c8] k → k < w13.heap.size ∧ Wr (obl [vS A5 x4 c5]) w12 k := (all_cons (fun k hk => ⟨f11.lt k hk, (f11.own k hk).2⟩) all_nil)
            obtain ⟨cxn2, kp3, hs3, hn3⟩ := back cx hu2 hb10 hv2
            generalize inL [vS A8 x7 c8] S4 = S5 at cxn2 kp3 hs3 f11
            replace f11 := f11.weak (fun k hk => back_wr cx hu2 (f11.own k hk).2)
            replace cx := cxn2
            replace hkk := hkk.trans kp3
            refine dr_next (Sd.behind hkk (by kernel_rfl)) ?_
            refine dk 14 (vS A8 x7 c8) ha hq rfl (Sd.behind hkk (by kernel_rfl)) fun hsx a ha => ?_
            refine dr_done (by kernel_rfl) ?_
            replace ha := ha.to (l' := [(3, vS A8 x7 c8)]) (by kernel_rfl)
            obtain rfl := Option.some.inj h
            exact ⟨_, _, A8, c8, rfl, cx, f11, ha.to (by kernel_rfl)⟩
          · replace h := itF hb h
            refine wp_skip ?_
            obtain rfl := Option.some.inj h
            exact ⟨_, _, A5, c5, rfl, cx, f8, ha.to (by kernel_rfl)⟩
        · replace h := itF hb h
          refine sq fun K hK => ?_
          refine reg ?_
          refine sg ha 2 [(0, vP b_p0), (3, vS A_p3 p3 c_p3), (9, vP b2), (10, vS A1 x1 c1), (24, vI ((gt p0.l p1).Kind)), (69, vB (((gt p0.l p1).Kind) == 4))] w3 fun a ha => ?_
          refine hK _ _ ?_
          clear hK
          refine cond_b ha rfl (fun hb => ?_) (fun hb => ?_)
          · replace h := itT hb h
            refine dr_start 9 S rfl ?_
            intro w14 e3 hb11
            replace h_p0 := h_p0.keep (Keep.ext S hb11)
            replace h_p0_0 := h_p0_0.keep (Keep.ext S hb11)
            replace h_p0_1 := h_p0_1.keep (Keep.ext S hb11)
            replace h_p0_2 := h_p0_2.keep (Keep.ext S hb11)
            replace h_p0_3 := h_p0_3.keep (Keep.ext S hb11)
            replace h_p0_4 := h_p0_4.keep (Keep.ext S hb11)
            replace h_p3 := h_p3.ext hb11
            replace f1 := f1.keep (Keep.ext S hb11)
            replace f3 := f3.keep (Keep.ext S hb11)
            replace cx := cx.ext hb11
            have hkk := Keep.refl w14.heap S
            have hold := Sold.start w14
            have g10 := h_p0
            have g11 := h_p0_0
            have g12 := h_p0_1
            have g13 := h_p0_2
            have g14 := h_p0_3
            have g15 := h_p0_4
            have g16 := h_p3
            have g17 := f1
            have g18 := f3
            refine dk 0 (vP b_p0) ha hq rfl (Sd.start _ _ _ _) fun hsx a ha => ?_
            refine dk 1 (vF b2 2) ha hq rfl hsx fun hsx a ha => ?_
            refine dv 2 (.int .i64 ((gt p0.l p1).B)) ha hq rfl (fun w2 hw2 hw3 => ob_load w2 rfl rfl Try.underlying3 rfl ((cell_add1 _ _ _ _).trans (by rw [Nat.zero_add]; exact Sk.cell g17.2 hw2 (g17.cell 2 _ rfl)))) hsx fun hsx a ha => ?_
            refine dk 3 (vS A1 x1 c1) ha hq rfl hsx fun hsx a ha => ?_
            refine dk 4 (vP b_p0) ha hq rfl hsx fun hsx a ha => ?_
            refine dk 5 (vF b2 1) ha hq rfl hsx fun hsx a ha => ?_
            refine dv 6 (.int .i64 ((gt p0.l p1).A)) ha hq rfl (fun w2 hw2 hw3 => ob_load w2 rfl rfl Try.underlying3 rfl ((cell_add1 _ _ _ _).trans (by rw [Nat.zero_add]; exact Sk.cell g17.2 hw2 (g17.cell 1 _ rfl)))) hsx fun hsx a ha => ?_
            refine dk 7 (vS A1 x1 c1) ha hq rfl hsx fun hsx a ha => ?_
            refine dk 8 (vS A_p3 p3 c_p3) ha hq rfl hsx fun hsx a ha => ?_
            refine dr_one (i := 9) (by kernel_rfl) rfl ?_
            obtain ⟨x8, hx6, h⟩ := obind h
            refine op_call ha (by kernel_rfl) (f := 53) (args := #[vP b_p0, vI ((gt p0.l p1).A), vS A1 x1 c1, vS A_p3 p3 c_p3]) (w' := w14) (by kernel_rfl) (ih (M := Wr W0 w) (p0 := p0) (p1 := (gt p0.l p1).A) (p2 := x1) (p3 := p3) cx.lt h_p0 h_p0_0 h_p0_1 h_p0_2 h_p0_3 h_p0_4 f3 h_p3 hx6) ?_
            rintro v6 w15 ⟨hb12, hp7⟩ a ha
            obtain ⟨A9, c9, rfl, f12⟩ := hp7
            have hu3 : ∀ k, obl [vS A_p3 p3 c_p3] k → S k ∧ Wr W0 w k := (all_cons h_p3.own all_nil)
            have hv3 : ∀ k, obl [vS A9 x8 c9] k → k < w15.heap.size ∧ Wr (obl [vS A_p3 p3 c_p3]) w14 k := (all_cons (fun k hk => ⟨f12.lt k hk, (f12.own k hk).2⟩) all_nil)
            obtain ⟨cxn3, kp4, hs4, hn4⟩ := back cx hu3 hb12 hv3
            generalize inL [vS A9 x8 c9] S = S6 at cxn3 kp4 hs4 f12
            replace f12 := f12.weak (fun k hk => back_wr cx hu3 (f12.own k hk).2)
            replace h_p0 := h_p0.keep kp4
            replace h_p0_0 := h_p0_0.keep kp4
            replace h_p0_1 := h_p0_1.keep kp4
            replace h_p0_2 := h_p0_2.keep kp4
            replace h_p0_3 := h_p0_3.keep kp4
            replace h_p0_4 := h_p0_4.keep kp4
            replace f3 := f3.keep kp4
            replace cx := cxn3
            replace hkk := hkk.trans kp4
            refine dr_next (Sd.behind hkk (by kernel_rfl)) ?_
            refine dr_one (i := 10) (by kernel_rfl) rfl ?_
            obtain ⟨x9, hx7, h⟩ := obind h
            refine op_call ha (by kernel_rfl) (f := 53) (args := #[vP b_p0, vI ((gt p0.l p1).B), vS A1 x1 c1, vS A9 x8 c9]) (w' := w15) (by kernel_rfl) (ih (M := Wr W0 w) (p0 := p0) (p1 := (gt p0.l p1).B) (p2 := x1) (p3 := x8) cx.lt h_p0 h_p0_0 h_p0_1 h_p0_2 h_p0_3 h_p0_4 f3 f12 hx7) ?_
            rintro v7 w16 ⟨hb13, hp8⟩ a ha
            obtain ⟨A10, c10, rfl, f13⟩ := hp8
            have hu4 : ∀ k, obl [vS A9 x8 c9] k → S6 k ∧ Wr W0 w k := (all_cons f12.own all_nil)
            have hv4 : ∀ k, obl [vS A10 x9 c10] k → k < w16.heap.size ∧ Wr (obl [vS A9 x8 c9]) w15 k := (all_cons (fun k hk => ⟨f13.lt k hk, (f13.own k hk).2⟩) all_nil)
            obtain ⟨cxn4, kp5, hs5, hn5⟩ := back cx hu4 hb13 hv4
            generalize inL [vS A10 x9 c10] S6 = S7 at cxn4 kp5 hs5 f13
            replace f13 := f13.weak (fun k hk => back_wr cx hu4 (f13.own k hk).2)
            replace cx := cxn4
            replace hkk := hkk.trans kp5
            refine dr_next (Sd.behind hkk (by kernel_rfl)) ?_
            refine dk 11 (vS A10 x9 c10) ha hq rfl (Sd.behind hkk (by kernel_rfl)) fun hsx a ha => ?_
            refine dr_done (by kernel_rfl) ?_
            replace ha := ha.to (l' := [(3, vS A10 x9 c10)]) (by kernel_rfl)
            obtain rfl := Option.some.inj h
            exact ⟨_, _, A10, c10, rfl, cx, f13, ha.to (by kernel_rfl)⟩
          · replace h := itF hb h
            refine sq fun K hK => ?_
            obtain ⟨q3, hj3, h⟩ := obind h
            refine wp_cutV (D := fun a w_ => ∃ x10 : Bool, x10 = q3 ∧ w3 = w_ ∧ Ag 94 [(0, vP b_p0), (3, vS A_p3 p3 c_p3), (9, vP b2), (10, vS A1 x1 c1), (82, vB x10)] a) ?_ ?_
            · clear h; have h := hj3
              refine sq fun K hK => ?_
              refine reg ?_
              refine sg ha 2 [(0, vP b_p0), (3, vS A_p3 p3 c_p3), (9, vP b2), (10, vS A1 x1 c1), (24, vI ((gt p0.l p1).Kind)), (82, vB (((gt p0.l p1).Kind) == 5))] w3 fun a ha => ?_
              refine hK _ _ ?_
              clear hK
              refine cond_b ha rfl (fun hb => ?_) (fun hb => ?_)
              · replace h := itT hb h
                refine wp_skip ?_
                obtain rfl := Option.some.inj h
                exact ⟨_, rfl, rfl, ha.to (by kernel_rfl)⟩
              · replace h := itF hb h
                refine sq fun K hK => ?_
                refine reg ?_
                refine sg ha 2 [(0, vP b_p0), (3, vS A_p3 p3 c_p3), (9, vP b2), (10, vS A1 x1 c1), (24, vI ((gt p0.l p1).Kind)), (82, vB (((gt p0.l p1).Kind) == 6))] w3 fun a ha => ?_
                refine hK _ _ ?_
                clear hK
                refine cond_b ha rfl (fun hb => ?_) (fun hb => ?_)
                · replace h := itT hb h
                  refine wp_skip ?_
                  obtain rfl := Option.some.inj h
                  exact ⟨_, rfl, rfl, ha.to (by kernel_rfl)⟩
                · replace h := itF hb h
                  refine sq fun K hK => ?_
                  refine reg ?_
                  refine sg ha 2 [(0, vP b_p0), (3, vS A_p3 p3 c_p3), (9, vP b2), (10, vS A1 x1 c1), (24, vI ((gt p0.l p1).Kind)), (82, vB (((gt p0.l p1).Kind) == 7))] w3 fun a ha => ?_
                  refine hK _ _ ?_
                  clear hK
                  refine cond_b ha rfl (fun hb => ?_) (fun hb => ?_)
                  · replace h := itT hb h
                    refine wp_skip ?_
                    obtain rfl := Option.some.inj h
                    exact ⟨_, rfl, rfl, ha.to (by kernel_rfl)⟩
                  · replace h := itF hb h
                    refine reg ?_
                    refine sg ha 2 [(0, vP b_p0), (3, vS A_p3 p3 c_p3), (9, vP b2), (10, vS A1 x1 c1), (82, vB (((gt p0.l p1).Kind) == 8))] w3 fun a ha => ?_
                    obtain rfl := Option.some.inj h
                    exact ⟨_, rfl, rfl, ha.to (by kernel_rfl)⟩
            rintro a _ ⟨x10, rfl, rfl, ha⟩
            refine hK _ _ ?_
            clear hK
            refine cond_b ha rfl (fun hb => ?_) (fun hb => ?_)
            · replace h := itT hb h
              refine reg ?_
              refine sg ha 2 [(3, vS A_p3 p3 c_p3), (10, vS A1 x1 c1), (87, vP b_p0), (88, vF b2 1)] w3 fun a ha => ?_
              refine ov (.int .i64 ((gt p0.l p1).A)) ha (ob_load w3 rfl rfl Try.underlying3 rfl ((cell_add1 _ _ _ _).trans (by rw [Nat.zero_add]; exact f1.cell 1 _ rfl))) fun a ha => ?_
              refine sg ha 2 [(87, vP b_p0), (89, vI ((gt p0.l p1).A)), (90, vS A1 x1 c1), (91, vS A_p3 p3 c_p3)] w3 fun a ha => ?_
              obtain ⟨x11, hx8, h⟩ := obind h
              refine op_call ha (by kernel_rfl) (f := 53) (args := #[vP b_p0, vI ((gt p0.l p1).A), vS A1 x1 c1, vS A_p3 p3 c_p3]) (w' := w3) (by kernel_rfl) (ih (M := Wr W0 w) (p0 := p0) (p1 := (gt p0.l p1).A) (p2 := x1) (p3 := p3) cx.lt h_p0 h_p0_0 h_p0_1 h_p0_2 h_p0_3 h_p0_4 f3 h_p3 hx8) ?_
              rintro v8 w17 ⟨hb14, hp9⟩ a ha
              obtain ⟨A11, c11, rfl, f14⟩ := hp9
              have hu5 : ∀ k, obl [vS A_p3 p3 c_p3] k → S k ∧ Wr W0 w k := (all_cons h_p3.own all_nil)
              have hv5 : ∀ k, obl [vS A11 x11 c11] k → k < w17.heap.size ∧ Wr (obl [vS A_p3 p3 c_p3]) w3 k := (all_cons (fun k hk => ⟨f14.lt k hk, (f14.own k hk).2⟩) all_nil)
              obtain ⟨cxn5, kp6, hs6, hn6⟩ := back cx hu5 hb14 hv5
              generalize inL [vS A11 x11 c11] S = S8 at cxn5 kp6 hs6 f14
              replace f14 := f14.weak (fun k hk => back_wr cx hu5 (f14.own k hk).2)
              replace cx := cxn5
              refine sg ha 1 [(3, vS A11 x11 c11)] w17 fun a ha => ?_
              obtain rfl := Option.some.inj h
              exact ⟨_, _, A11, c11, rfl, cx, f14, ha.to (by kernel_rfl)⟩
            · replace h := itF hb h
              refine wp_skip ?_
              obtain rfl := Option.some.inj h
              exact ⟨_, _, A_p3, c_p3, rfl, cx, h_p3, ha.to (by kernel_rfl)⟩
    rintro a w5 ⟨x3, S2, A3, c3, rfl, cx, f5, ha⟩
    obtain rfl := Option.some.inj h
    exact ⟨_, _, A3, c3, rfl, cx, f5, ha.to (by kernel_rfl)⟩
  rintro a w4 ⟨x2, S1, A2, c2, rfl, cx, f4, ha⟩
  refine hK _ _ ?_
  clear hK
  refine sq fun K hK => ?_
  refine reg ?_
  refine sg ha 2 [(8, vS A2 x2 c2)] w4 fun a ha => ?_
  refine hK _ _ ?_
  clear hK
  refine wp_ret ?_
  obtain rfl := Option.some.inj h
  have hin : ∀ k, inL [vS A2 x2 c2] S k → S1 k := inL_sub cx.sub (all_cons (fun k hk => (f4.own k hk).1) all_nil)
  show bodyPost Try.prog Try.f53 (R53 w S W0 _) .ret a w4
  exact ret_1 (r1 := .tmp 8) (v1 := vS A2 x2 c2) ha rfl (.inl rfl) rfl ⟨_, rfl, cx.bel, ⟨_, _, rfl, f4.out hin (fun k hk => obl_at 0 rfl hk)⟩⟩
def post99 (w : World) (S : Off) (r : (Bool)) (v : Value) (w1 : World) : Prop := v = .bool r
abbrev R99 (w : World) (S : Off) (r : (Bool)) : Ending → World → Prop := fun e w1 => ∃ v, e = .returned v ∧ Below w.heap.size w w1 ∧ post99 w S r v w1
theorem ok99 (fuel : Nat) {w : World} {S : Off} (hS : ∀ b, S b → b < w.heap.size) {p0 : MHop} {p1 : MHop} {A_p0_2 : Option Addr} {c_p0_2 : Nat} (h_p0_2 : Sl (tInt .i64) w.heap S A_p0_2 c_p0_2 p0.Steps) {b_p1 : Nat} {A_p1_2 : Option Addr} {c_p1_2 : Nat} (h_p1 : Bx w.heap S b_p1 27 [.int .i64 p1.To, .int .i64 p1.Turn, .slice A_p1_2 p1.Steps.length c_p1_2]) (h_p1_2 : Sl (tInt .i64) w.heap S A_p1_2 c_p1_2 p1.Steps) {r : (Bool)} (h : m_follow_chart_turns_1 fuel p0 p1 = some r) :
 Calls Try.prog 99 #[.agg #[vI p0.To, vI p0.Turn, vS A_p0_2 p0.Steps c_p0_2], vP b_p1] w (R99 w S r) := by
 refine enterL (vs := [.agg #[vI p0.To, vI p0.Turn, vS A_p0_2 p0.Steps c_p0_2], vP b_p1]) Try.func99 rfl rfl ?_
 intro a ha
 have cx := Cx.start (W0 := nob) hS
 refine with_nop (noP_body _ _) (fun hq => ?_)
 unfold m_follow_chart_turns_1 at h
 refine sq fun K hK => ?_
 refine reg ?_
 refine op_new (V := fun b => vP b) (cs := [vI p0.To, vI p0.Turn, vS A_p0_2 p0.Steps c_p0_2]) (T := 27) ha (by kernel_rfl) (by kernel_rfl) ?_
 intro w1 b1 hb1 hk1 he1 _ a ha
 have f1 := Bx.new cx hk1 he1
 replace h_p1 := h_p1.keep (Keep.ext S hb1)
 replace h_p1_2 := h_p1_2.keep (Keep.ext S hb1)
 replace h_p0_2 := h_p0_2.keep (Keep.ext S hb1)
 replace cx := cx.ext hb1
 refine sg ha 1 [(1, vP b_p1), (2, vP b1)] w1 fun a ha => ?_
 refine hK _ _ ?_
 clear hK
 refine sq fun K hK => ?_
 refine reg ?_
 refine sg ha 1 [(1, vP b_p1), (4, vF b1 0)] w1 fun a ha => ?_
 refine ov (.int .i64 p0.To) ha (ob_load w1 rfl rfl Try.underlying3 rfl ((cell_add1 _ _ _ _).trans (by rw [Nat.zero_add]; exact f1.cell 0 _ rfl))) fun a ha => ?_
 refine sg ha 1 [(5, vI p0.To), (6, vF b_p1 0)] w1 fun a ha => ?_
 refine ov (.int .i64 p1.To) ha (ob_load w1 rfl rfl Try.underlying3 rfl ((cell_add1 _ _ _ _).trans (by rw [Nat.zero_add]; exact h_p1.cell 0 _ rfl))) fun a ha => ?_
 refine sg ha 2 [(3, vB (p0.To == p1.To))] w1 fun a ha => ?_
 refine hK _ _ ?_
 clear hK
 refine wp_ret ?_
 obtain rfl := Option.some.inj h
 show bodyPost Try.prog Try.f99 (R99 w S _) .ret a w1
 exact ret_1 (r1 := .tmp 3) (v1 := vB (p0.To == p1.To)) ha rfl (.inl rfl) rfl ⟨_, rfl, cx.below, rfl⟩
def post63099 (w : World) (S : Off) (r : (Int)) (v : Value) (w1 : World) : Prop := v = .int .i64 r
abbrev R63099 (w : World) (S : Off) (r : (Int)) : Ending → World → Prop := fun e w1 => ∃ v, e = .returned v ∧ Below w.heap.size w w1 ∧ post63099 w S r v w1
theorem ok63099 (fuel : Nat) {w : World} {S : Off} (hS : ∀ b, S b → b < w.heap.size) {p0 : (List MHop)} {p1 : MHop} {A_p0 : Option Addr} {c_p0 : Nat} (h_p0 : Sl tHop w.heap S A_p0 c_p0 p0) {b_p1 : Nat} {A_p1_2 : Option Addr} {c_p1_2 : Nat} (h_p1 : Bx w.heap S b_p1 27 [.int .i64 p1.To, .int .i64 p1.Turn, .slice A_p1_2 p1.Steps.length c_p1_2]) (h_p1_2 : Sl (tInt .i64) w.heap S A_p1_2 c_p1_2 p1.Steps) {r : (Int)} (h : m_slices_IndexFunc_api_Hop_api_Hop_follow_chart_turns_1 fuel p0 p1 = some r) :
 Calls Try.prog 63 #[vS A_p0 p0 c_p0, .func (.func 99) #[] #[vP b_p1]] w (R63099 w S r) := by
 refine enterL (vs := [vS A_p0 p0 c_p0, .func (.func 99) #[] #[vP b_p1]]) Try.func63 rfl rfl ?_
 intro a ha
 have cx := Cx.start (W0 := nob) hS
 refine with_nop (noP_body _ _) (fun hq => ?_)
 unfold m_slices_IndexFunc_api_Hop_api_Hop_follow_chart_turns_1 at h
 refine sq fun K hK => ?_
 refine reg ?_
 refine sg ha 1 [(0, vS A_p0 p0 c_p0), (1, .func (.func 99) #[] #[vP b_p1])] w fun a ha => ?_
 refine hK _ _ ?_
 clear hK
 refine sq fun K hK => ?_
 refine sq fun K hK => ?_
 refine reg ?_
 refine sg ha 3 [(0, vS A_p0 p0 c_p0), (1, .func (.func 99) #[] #[vP b_p1]), (7, vI (p0.length : Int)), (8, vI 0)] w fun a ha => ?_
 refine hK _ _ ?_
 clear hK
 refine wp_block ?_
 obtain ⟨t1, ht1, h⟩ := obind h
 refine wp_mono (wp_iter (step := (m_slices_IndexFunc_api_Hop_api_Hop_follow_chart_turns_1_l1 fuel p0 p1)) (I := fun (s : Int) a w1 => match s with | x1 => ∃ (S1 : Off), Cx w nob S w1 S1 ∧ Sl tHop w1.heap S1 A_p0 c_p0 p0 ∧ Bx w1.heap S1 b_p1 27 [vI p1.To, vI p1.Turn, vS A_p1_2 p1.Steps c_p1_2] ∧ Sl (tInt .i64) w1.heap S1 A_p1_2 c_p1_2 p1.Steps ∧ Ag 19 [(0, vS A_p0 p0 c_p0), (1, .func (.func 99) #[] #[vP b_p1]), (7, vI (p0.length : Int)), (8, vI x1)] a) (D := fun (t : (Unit) ⊕ (Int)) e a w2 => match t with | .inl () => e = .exit 0 ∧ ∃ (S2 : Off), Cx w nob S w2 S2 ∧ Ag 19 [] a | .inr r => e = .ret ∧ bodyPost Try.prog Try.f63 (R63099 w S r) .ret a w2) ?_ fuel _ t1 a _ ht1 ?_) ?_
 · clear h ht1
   rintro x1 ct a w1 ⟨S1, cx, h_p0, h_p1, h_p1_2, ha⟩ h
   refine with_nop (NoP.loop (fun t c a w h => by cases t <;> exact absurd h.1 (by simp))) (fun hq => ?_)
   unfold m_slices_IndexFunc_api_Hop_api_Hop_follow_chart_turns_1_l1 at h
   refine sq fun K hK => ?_
   refine reg ?_
   refine sg ha 1 [(0, vS A_p0 p0 c_p0), (1, .func (.func 99) #[] #[vP b_p1]), (7, vI (p0.length : Int)), (8, vI x1), (9, vB (decide (x1 < (p0.length : Int))))] w1 fun a ha => ?_
   refine hK _ _ ?_
   clear hK
   refine sq fun K hK => ?_
   refine cond_b ha rfl (fun hb => ?_) (fun hb => ?_)
   · replace h := itT hb h
     refine wp_skip ?_
     refine hK _ _ ?_
     clear hK
     refine sq fun K hK => ?_
     refine wp_block ?_
     refine sq fun K hK => ?_
     refine reg ?_
     refine sg ha 2 [(0, vS A_p0 p0 c_p0), (1, .func (.func 99) #[] #[vP b_p1]), (5, vI x1), (7, vI (p0.length : Int)), (8, vI x1)] w1 fun a ha => ?_
     refine hK _ _ ?_
     clear hK
     refine sq fun K hK => ?_
     refine reg ?_
     refine sg ha 3 [(0, vS A_p0 p0 c_p0), (1, .func (.func 99) #[] #[vP b_p1]), (5, vI x1), (7, vI (p0.length : Int)), (8, vI x1), (11, .func (.func 99) #[] #[vP b_p1]), (12, vS A_p0 p0 c_p0), (13, vI x1)] w1 fun a ha => ?_
     obtain ⟨hi1, h⟩ := ite_some h
     obtain ⟨b1, o1, cs1, rfl, hr1, hc1⟩ := h_p0.rdb.get hi1
     obtain ⟨A1, c1, rfl, f1⟩ := hr1
     refine ov (vE b1 o1 x1 3) ha (obx w1 rfl rfl rfl Try.underlying31 rfl hi1) fun a ha => ?_
     refine ov (.agg #[vI ((gt p0 x1).To), vI ((gt p0 x1).Turn), vS A1 ((gt p0 x1).Steps) c1]) ha (ob_loadn (cs := [vI ((gt p0 x1).To), vI ((gt p0 x1).Turn), vS A1 ((gt p0 x1).Steps) c1]) w1 rfl rfl Try.underlying27 rfl (by kernel_rfl) (fun j v hj => (cell_add2 _ _ _ _ _).trans (hc1 j v hj))) fun a ha => ?_
     obtain ⟨x2, hx1, h⟩ := obind h
     refine op_call ha (by kernel_rfl) (f := 99) (args := #[.agg #[vI ((gt p0 x1).To), vI ((gt p0 x1).Turn), vS A1 ((gt p0 x1).Steps) c1], vP b_p1]) (w' := w1) (by kernel_rfl) (ok99 fuel (p0 := (gt p0 x1)) (p1 := p1) cx.lt f1 h_p1 h_p1_2 hx1) ?_
     rintro v1 w3 ⟨hb1, hp1⟩ a ha
     obtain rfl := hp1
     replace h_p0 := h_p0.keep (Keep.ext S1 hb1)
     replace h_p1 := h_p1.keep (Keep.ext S1 hb1)
     replace h_p1_2 := h_p1_2.keep (Keep.ext S1 hb1)
     replace cx := cx.ext hb1
     refine hK _ _ ?_
     clear hK
     refine cond_b ha rfl (fun hb => ?_) (fun hb => ?_)
     · replace h := itT hb h
       refine sq fun K hK => ?_
       refine reg ?_
       refine sg ha 2 [(4, vI x1)] w3 fun a ha => ?_
       refine hK _ _ ?_
       clear hK
       refine wp_ret ?_
       obtain rfl := Option.some.inj h
       refine ⟨_, rfl, rfl, ?_⟩
       show bodyPost Try.prog Try.f63 (R63099 w S _) .ret a w3
       exact ret_1 (r1 := .tmp 4) (v1 := vI x1) ha rfl (.inl rfl) rfl ⟨_, rfl, cx.below, rfl⟩
     · replace h := itF hb h
       refine wp_skip ?_
       refine hK _ _ ?_
       clear hK
       refine reg ?_
       refine sg ha 2 [(0, vS (some ⟨b1, o1, none⟩) p0 c_p0), (1, .func (.func 99) #[] #[vP b_p1]), (7, vI (p0.length : Int)), (8, vI (W (x1 + 1)))] w3 fun a ha => ?_
       obtain rfl := Option.some.inj h
       exact ⟨_, rfl, S1, cx, h_p0, h_p1, h_p1_2, ha.to (by kernel_rfl)⟩
   · replace h := itF hb h
     refine wp_exit ?_
     obtain rfl := Option.some.inj h
     exact ⟨_, rfl, rfl, S1, cx, ha.to (by kernel_rfl)⟩
 · exact ⟨S, cx, h_p0, h_p1, h_p1_2, ha.to (by kernel_rfl)⟩
 intro e a w2 hd
 cases t1 with
 | inr r1 =>
  obtain ⟨rfl, hd⟩ := hd
  obtain rfl := Option.some.inj h
  exact hd
 | inl oo1 =>
  obtain ⟨rfl, S2, cx, ha⟩ := hd
  refine hK _ _ ?_
  clear hK
  refine sq fun K hK => ?_
  refine reg ?_
  refine sg ha 1 [(4, vI (-1))] w2 fun a ha => ?_
  refine hK _ _ ?_
  clear hK
  refine wp_ret ?_
  obtain rfl := Option.some.inj h
  show bodyPost Try.prog Try.f63 (R63099 w S _) .ret a w2
  exact ret_1 (r1 := .tmp 4) (v1 := vI (-1)) ha rfl (.inl rfl) rfl ⟨_, rfl, cx.below, rfl⟩
def post98099 (w : World) (S : Off) (r : (Bool)) (v : Value) (w1 : World) : Prop := v = .bool r
abbrev R98099 (w : World) (S : Off) (r : (Bool)) : Ending → World → Prop := fun e w1 => ∃ v, e = .returned v ∧ Below w.heap.size w w1 ∧ post98099 w S r v w1
theorem ok98099 (fuel : Nat) {w : World} {S : Off} (hS : ∀ b, S b → b < w.heap.size) {p0 : (List MHop)} {p1 : MHop} {A_p0 : Option Addr} {c_p0 : Nat} (h_p0 : Sl tHop w.heap S A_p0 c_p0 p0) {b_p1 : Nat} {A_p1_2 : Option Addr} {c_p1_2 : Nat} (h_p1 : Bx w.heap S b_p1 27 [.int .i64 p1.To, .int .i64 p1.Turn, .slice A_p1_2 p1.Steps.length c_p1_2]) (h_p1_2 : Sl (tInt .i64) w.heap S A_p1_2 c_p1_2 p1.Steps) {r : (Bool)} (h : m_slices_ContainsFunc_api_Hop_api_Hop_follow_chart_turns_1 fuel p0 p1 = some r) :
 Calls Try.prog 98 #[vS A_p0 p0 c_p0, .func (.func 99) #[] #[vP b_p1]] w (R98099 w S r) := by
 refine enterL (vs := [vS A_p0 p0 c_p0, .func (.func 99) #[] #[vP b_p1]]) Try.func98 rfl rfl ?_
 intro a ha
 have cx := Cx.start (W0 := nob) hS
 refine with_nop (noP_body _ _) (fun hq => ?_)
 unfold m_slices_ContainsFunc_api_Hop_api_Hop_follow_chart_turns_1 at h
 refine sq fun K hK => ?_
 refine reg ?_
 refine sg ha 1 [(0, vS A_p0 p0 c_p0), (1, .func (.func 99) #[] #[vP b_p1])] w fun a ha => ?_
 refine hK _ _ ?_
 clear hK
 refine sq fun K hK => ?_
 refine reg ?_
 refine sg ha 2 [(5, vS A_p0 p0 c_p0), (6, .func (.func 99) #[] #[vP b_p1])] w fun a ha => ?_
 obtain ⟨x1, hx1, h⟩ := obind h
 refine op_call ha (by kernel_rfl) (f := 63) (args := #[vS A_p0 p0 c_p0, .func (.func 99) #[] #[vP b_p1]]) (w' := w) (by kernel_rfl) (ok63099 fuel (p0 := p0) (p1 := p1) cx.lt h_p0 h_p1 h_p1_2 hx1) ?_
 rintro v1 w1 ⟨hb1, hp1⟩ a ha
 obtain rfl := hp1
 replace cx := cx.ext hb1
 refine sg ha 2 [(4, vB (decide (x1 ≥ 0)))] w1 fun a ha => ?_
 refine hK _ _ ?_
 clear hK
 refine wp_ret ?_
 obtain rfl := Option.some.inj h
 show bodyPost Try.prog Try.f98 (R98099 w S _) .ret a w1
 exact ret_1 (r1 := .tmp 4) (v1 := vB (decide (x1 ≥ 0))) ha rfl (.inl rfl) rfl ⟨_, rfl, cx.below, rfl⟩
end Go.Proofs.Ytfhehbfifffipaa
