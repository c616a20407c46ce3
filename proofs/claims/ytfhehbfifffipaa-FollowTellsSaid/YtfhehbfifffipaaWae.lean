/- What the functions compute is what the program does. Its conditions: none. -/
import Derived.Test.YtfhehbfifffipaaVShort
import Derived.Test.YtfhehbfifffipaaTy
set_option maxRecDepth 20000
set_option autoImplicit false
namespace Go.Proofs.Ytfhehbfifffipaa
open Go.V Go.RowKit
set_option linter.unusedVariables false
def post77 (w : World) (S : Off) (r : (Bool × Bool)) (v : Value) (w1 : World) : Prop := ∃ v0 : Value, ∃ v1 : Value, v = .tuple #[v0, v1] ∧ (v0 = .bool r.1) ∧ (v1 = .bool r.2)
abbrev R77 (w : World) (S : Off) (r : (Bool × Bool)) : Ending → World → Prop := fun e w1 => ∃ v, e = .returned v ∧ Below w.heap.size w w1 ∧ post77 w S r v w1
theorem ok77 (fuel : Nat) {w : World} {S : Off} (hS : ∀ b, S b → b < w.heap.size) {p0 : Int}  {r : (Bool × Bool)} (h : m_ref10_part fuel p0 = some r) :
 Calls Try.prog 77 #[vI p0] w (R77 w S r) := by
 refine enterL (vs := [vI p0]) Try.func77 rfl rfl ?_
 intro a ha
 have cx := Cx.start (W0 := nob) hS
 refine with_nop (noP_body _ _) (fun hq => ?_)
 unfold m_ref10_part at h
 refine sq fun K hK => ?_
 refine reg ?_
 refine sg ha 2 [(0, vI p0)] w fun a ha => ?_
 refine hK _ _ ?_
 clear hK
 refine sq fun K hK => ?_
 obtain ⟨q1, hj1, h⟩ := obind h
 refine wp_cutV (D := fun a w_ => ∃ x1 : Bool, ∃ x2 : Bool, (x1, x2) = q1 ∧ w = w_ ∧ Ag 16 [(2, vB x1), (3, vB x2)] a) ?_ ?_
 · clear h; have h := hj1
   refine reg ?_
   refine sg ha 3 [(0, vI p0), (6, vB (decide (p0 ≥ 3)))] w fun a ha => ?_
   refine split_b (t := 6) ha rfl (fun hb ha => ?_) (fun hb ha => ?_)
   · replace h := itT hb h
     refine sg ha 6 [(0, vI p0), (9, vB (decide (p0 ≤ 8))), (12, vB (p0 == 3))] w fun a ha => ?_
     refine split_b (t := 12) ha rfl (fun hb ha => ?_) (fun hb ha => ?_)
     · replace h := itT hb h
       refine sg ha 5 [(2, vB (decide (p0 ≤ 8))), (3, vB true)] w fun a ha => ?_
       obtain rfl := Option.some.inj h
       exact ⟨_, _, rfl, rfl, ha.to (by kernel_rfl)⟩
     · replace h := itF hb h
       refine sg ha 5 [(2, vB (decide (p0 ≤ 8))), (3, vB (p0 == 4))] w fun a ha => ?_
       obtain rfl := Option.some.inj h
       exact ⟨_, _, rfl, rfl, ha.to (by kernel_rfl)⟩
   · replace h := itF hb h
     refine sg ha 6 [(0, vI p0), (9, vB false), (12, vB (p0 == 3))] w fun a ha => ?_
     refine split_b (t := 12) ha rfl (fun hb ha => ?_) (fun hb ha => ?_)
     · replace h := itT hb h
       refine sg ha 5 [(2, vB false), (3, vB true)] w fun a ha => ?_
       obtain rfl := Option.some.inj h
       exact ⟨_, _, rfl, rfl, ha.to (by kernel_rfl)⟩
     · replace h := itF hb h
       refine sg ha 5 [(2, vB false), (3, vB (p0 == 4))] w fun a ha => ?_
       obtain rfl := Option.some.inj h
       exact ⟨_, _, rfl, rfl, ha.to (by kernel_rfl)⟩
 rintro a _ ⟨x1, x2, rfl, rfl, ha⟩
 refine hK _ _ ?_
 clear hK
 refine wp_ret ?_
 obtain rfl := Option.some.inj h
 show bodyPost Try.prog Try.f77 (R77 w S _) .ret a w
 exact ret_2 (r1 := .tmp 2) (v1 := vB x1) (r2 := .tmp 3) (v2 := vB x2) ha rfl (.inl rfl) rfl rfl ⟨_, rfl, cx.below, ⟨_, _, rfl, rfl, rfl⟩⟩
def post45 (w : World) (S : Off) (r : ((List Int))) (v : Value) (w1 : World) : Prop := ∃ (A : Option Addr) (c : Nat), v = .slice A r.length c ∧ Ow (tInt .i64) 3 (Wr nob w) w1.heap (inV v S) v r ∧ (r = [] → A = none)
abbrev R45 (w : World) (S : Off) (r : ((List Int))) : Ending → World → Prop := fun e w1 => ∃ v, e = .returned v ∧ Below w.heap.size w w1 ∧ post45 w S r v w1
theorem ok45 (fuel : Nat) {w : World} {S : Off} (hS : ∀ b, S b → b < w.heap.size) {p0 : (List MTerm)} {A_p0 : Option Addr} {c_p0 : Nat} (h_p0 : Sl tTerm w.heap S A_p0 c_p0 p0) {r : ((List Int))} (h : m_ref10_lows fuel p0 = some r) :
 Calls Try.prog 45 #[vS A_p0 p0 c_p0] w (R45 w S r) := by
 refine enterL (vs := [vS A_p0 p0 c_p0]) Try.func45 rfl rfl ?_
 intro a ha
 have cx := Cx.start (W0 := nob) hS
 refine with_nop (noP_body _ _) (fun hq => ?_)
 unfold m_ref10_lows at h
 refine sq fun K hK => ?_
 refine reg ?_
 refine sg ha 1 [(0, vS A_p0 p0 c_p0)] w fun a ha => ?_
 refine hK _ _ ?_
 clear hK
 refine sq fun K hK => ?_
 refine reg ?_
 refine sg ha 2 [(0, vS A_p0 p0 c_p0), (12, vI (p0.length : Int))] w fun a ha => ?_
 obtain ⟨hp1, h⟩ := ite_some h
 refine op_make (T := (tInt .i64)) (z := vI 0) (zx := (0 : Int)) (bytes := 8) ha cx (by kernel_rfl) rfl rfl rfl Try.underlying25 (by kernel_rfl) (by kernel_rfl) (fun _ _ => rfl) hp1 ?_
 intro w1 S1 A1 c1 cx hb1 kp1 hs1 hn1 f1 a ha
 replace h_p0 := h_p0.keep kp1
 refine sg ha 1 [(0, vS A_p0 p0 c_p0), (3, vS A1 (List.replicate (Int.toNat (p0.length : Int)) (0 : Int)) c1)] w1 fun a ha => ?_
 refine hK _ _ ?_
 clear hK
 refine sq fun K hK => ?_
 refine reg ?_
 refine sg ha 1 [(0, vS A_p0 p0 c_p0), (3, vS A1 (List.replicate (Int.toNat (p0.length : Int)) (0 : Int)) c1), (4, vI 0)] w1 fun a ha => ?_
 refine hK _ _ ?_
 clear hK
 refine sq fun K hK => ?_
 refine sq fun K hK => ?_
 refine reg ?_
 refine sg ha 1 [(0, vS A_p0 p0 c_p0), (3, vS A1 (List.replicate (Int.toNat (p0.length : Int)) (0 : Int)) c1), (4, vI 0), (5, vI 0)] w1 fun a ha => ?_
 refine hK _ _ ?_
 clear hK
 refine wp_block ?_
 obtain ⟨t1, ht1, h⟩ := obind h
 refine wp_mono (wp_iter (step := (m_ref10_lows_l1 fuel p0)) (I := fun (s : List Int × Int × Int) a w2 => match s with | (x1, x2, x3) => ∃ (S2 : Off), ∃ (A2 : Option Addr) (c2 : Nat), Cx w nob S w2 S2 ∧ Sl tTerm w2.heap S2 A_p0 c_p0 p0 ∧ Ow (tInt .i64) 3 (Wr nob w) w2.heap S2 (vS A2 x1 c2) x1 ∧ Ag 183 [(0, vS A_p0 p0 c_p0), (3, vS A2 x1 c2), (4, vI x2), (5, vI x3)] a) (D := fun (t : (List Int × Int) ⊕ ((List Int))) e a w3 => match t with | .inl (y1, y2) => e = .exit 0 ∧ ∃ (S3 : Off), ∃ (A3 : Option Addr) (c3 : Nat), Cx w nob S w3 S3 ∧ Sl tTerm w3.heap S3 A_p0 c_p0 p0 ∧ Ow (tInt .i64) 3 (Wr nob w) w3.heap S3 (vS A3 y1 c3) y1 ∧ Ag 183 [(0, vS A_p0 p0 c_p0), (3, vS A3 y1 c3), (4, vI y2)] a | .inr r => e = .ret ∧ bodyPost Try.prog Try.f45 (R45 w S r) .ret a w3) ?_ fuel _ t1 a _ ht1 ?_) ?_
 · clear h ht1
   rintro ⟨x1, x2, x3⟩ ct a w2 ⟨S2, A2, c2, cx, h_p0, f2, ha⟩ h
   refine with_nop (NoP.loop (fun t c a w h => by cases t <;> exact absurd h.1 (by simp))) (fun hq => ?_)
   unfold m_ref10_lows_l1 at h
   refine sq fun K hK => ?_
   refine sq fun K hK => ?_
   refine reg ?_
   refine sg ha 4 [(0, vS A_p0 p0 c_p0), (3, vS A2 x1 c2), (4, vI x2), (5, vI x3), (17, vB (decide (x3 < (p0.length : Int))))] w2 fun a ha => ?_
   refine hK _ _ ?_
   clear hK
   refine cond_b ha rfl (fun hb => ?_) (fun hb => ?_)
   · replace h := itT hb h
     refine wp_skip ?_
     refine hK _ _ ?_
     clear hK
     refine sq fun K hK => ?_
     refine wp_block ?_
     refine sq fun K hK => ?_
     refine reg ?_
     refine sg ha 2 [(0, vS A_p0 p0 c_p0), (3, vS A2 x1 c2), (4, vI x2), (5, vI x3), (20, vS A_p0 p0 c_p0), (21, vI x3)] w2 fun a ha => ?_
     obtain ⟨hi1, h⟩ := ite_some h
     obtain ⟨b1, o1, cs1, rfl, hr1, hc1⟩ := h_p0.rdb.get hi1
     obtain ⟨rfl, hl1⟩ := hr1
     refine ov (vE b1 o1 x3 8) ha (obx w2 rfl rfl rfl Try.underlying22 rfl hi1) fun a ha => ?_
     refine ov (.agg #[vI ((gt p0 x3).Kind), vI ((gt p0 x3).A), vI ((gt p0 x3).B), vI ((gt p0 x3).N), .int .u64 (gt ((gt p0 x3).Set) 0), .int .u64 (gt ((gt p0 x3).Set) 1), .int .u64 (gt ((gt p0 x3).Set) 2), .int .u64 (gt ((gt p0 x3).Set) 3)]) ha (ob_loadn (cs := [vI ((gt p0 x3).Kind), vI ((gt p0 x3).A), vI ((gt p0 x3).B), vI ((gt p0 x3).N), .int .u64 (gt ((gt p0 x3).Set) 0), .int .u64 (gt ((gt p0 x3).Set) 1), .int .u64 (gt ((gt p0 x3).Set) 2), .int .u64 (gt ((gt p0 x3).Set) 3)]) w2 rfl rfl Try.underlying42 rfl (by kernel_rfl) (fun j v hj => (cell_add2 _ _ _ _ _).trans (hc1 j v hj))) fun a ha => ?_
     refine op_var (d := 6) (z := [vI 0, vI 0, vI 0, vI 0, .int .u64 0, .int .u64 0, .int .u64 0, .int .u64 0]) (vs := [vI ((gt p0 x3).Kind), vI ((gt p0 x3).A), vI ((gt p0 x3).B), vI ((gt p0 x3).N), .int .u64 (gt ((gt p0 x3).Set) 0), .int .u64 (gt ((gt p0 x3).Set) 1), .int .u64 (gt ((gt p0 x3).Set) 2), .int .u64 (gt ((gt p0 x3).Set) 3)]) (v := .agg #[vI ((gt p0 x3).Kind), vI ((gt p0 x3).A), vI ((gt p0 x3).B), vI ((gt p0 x3).N), .int .u64 (gt ((gt p0 x3).Set) 0), .int .u64 (gt ((gt p0 x3).Set) 1), .int .u64 (gt ((gt p0 x3).Set) 2), .int .u64 (gt ((gt p0 x3).Set) 3)]) ha cx (by kernel_rfl) rfl (by kernel_rfl) (fun _ => by kernel_rfl) rfl rfl (fun _ => by kernel_rfl) (by kernel_rfl) (by kernel_rfl) (by kernel_rfl) ?_
     intro w4 b2 cx hb2 f4 a ha
     replace h_p0 := h_p0.keep (Keep.ext S2 hb2)
     replace f2 := f2.ext hb2
     refine hK _ _ ?_
     clear hK
     refine sq fun K hK => ?_
     refine reg ?_
     refine sg ha 1 [(0, vS (some ⟨b1, o1, none⟩) p0 c_p0), (3, vS A2 x1 c2), (4, vI x2), (5, vI x3), (6, vP b2), (25, vF b2 0)] w4 fun a ha => ?_
     refine ov (.int .i64 ((gt p0 x3).Kind)) ha (ob_load w4 rfl rfl Try.underlying3 rfl ((cell_add1 _ _ _ _).trans (by rw [Nat.zero_add]; exact f4.cell 0 _ rfl))) fun a ha => ?_
     obtain ⟨x4, hx1, h⟩ := obind h
     refine op_call ha (by kernel_rfl) (f := 77) (args := #[vI ((gt p0 x3).Kind)]) (w' := w4) (by kernel_rfl) (ok77 fuel (p0 := (gt p0 x3).Kind) cx.lt hx1) ?_
     rintro v1 w5 ⟨hb3, hp2⟩ a ha
     obtain ⟨_, _, rfl, rfl, rfl⟩ := hp2
     replace h_p0 := h_p0.keep (Keep.ext S2 hb3)
     replace f2 := f2.ext hb3
     replace f4 := f4.keep (Keep.ext S2 hb3)
     replace cx := cx.ext hb3
     refine sg ha 5 [(0, vS (some ⟨b1, o1, none⟩) p0 c_p0), (3, vS A2 x1 c2), (4, vI x2), (5, vI x3), (6, vP b2), (7, vB x4.1), (8, vB x4.2)] w5 fun a ha => ?_
     refine hK _ _ ?_
     clear hK
     refine sq fun K hK => ?_
     refine reg ?_
     refine sg ha 3 [(0, vS (some ⟨b1, o1, none⟩) p0 c_p0), (3, vS A2 x1 c2), (4, vI x2), (5, vI x3), (6, vP b2), (7, vB x4.1), (8, vB x4.2), (30, vS A2 x1 c2), (31, vI x3), (32, vI x3)] w5 fun a ha => ?_
     obtain ⟨hi2, h⟩ := ite_some h
     obtain ⟨b3, o2, cs2, rfl, hr2, hc2⟩ := f2.rdb.get hi2
     obtain rfl := hr2
     refine ov (vE b3 o2 x3 1) ha (obx w5 rfl rfl rfl Try.underlying25 rfl hi2) fun a ha => ?_
     refine op_setEl (T := (tInt .i64)) (f := 0) (x' := x3) ha cx (by kernel_rfl) rfl rfl rfl wr_id f2 hi2 (by kernel_rfl) (add1_eq _ _ _) (by kernel_rfl) (by rintro H2 _ _ rfl; rfl) ?_
     intro w6 cx on1 kp2 f5 a ha
     replace h_p0 := h_p0.keep kp2
     replace f4 := f4.keep kp2
     have hl2 : ((x1.set (Int.toNat x3) x3)).length = x1.length := List.length_set
     replace ha : Ag 183 [(0, .slice (some ⟨b1, o1, none⟩) p0.length c_p0), (3, .slice (some ⟨b3, o2, none⟩) (x1.set (Int.toNat x3) x3).length c2), (4, .int .i64 x2), (5, .int .i64 x3), (6, .pointer (some ⟨b2, 0, none⟩)), (7, .bool x4.1), (8, .bool x4.2)] a := by rw [hl2]; exact ha.to (by kernel_rfl)
     replace f5 : Ow (tInt .i64) 3 (Wr nob w) w6.heap S2 (.slice (some ⟨b3, o2, none⟩) (x1.set (Int.toNat x3) x3).length c2) (x1.set (Int.toNat x3) x3) := by rw [hl2]; exact f5
     refine hK _ _ ?_
     clear hK
     refine sq fun K hK => ?_
     refine sq fun K hK => ?_
     obtain ⟨q1, hj1, h⟩ := obind h
     refine wp_cutV (D := fun a w_ => ∃ x5 : Bool, x5 = q1 ∧ w6 = w_ ∧ Ag 183 [(0, vS (some ⟨b1, o1, none⟩) p0 c_p0), (3, vS (some ⟨b3, o2, none⟩) (x1.set (Int.toNat x3) x3) c2), (4, vI x2), (5, vI x3), (6, vP b2), (7, vB x4.1), (8, vB x4.2), (77, vB x5)] a) ?_ ?_
     · clear h; have h := hj1
       refine reg ?_
       refine sg ha 1 [(0, vS (some ⟨b1, o1, none⟩) p0 c_p0), (3, vS (some ⟨b3, o2, none⟩) (x1.set (Int.toNat x3) x3) c2), (4, vI x2), (5, vI x3), (6, vP b2), (7, vB x4.1), (8, vB x4.2), (34, vF b2 0)] w6 fun a ha => ?_
       refine ov (.int .i64 ((gt p0 x3).Kind)) ha (ob_load w6 rfl rfl Try.underlying3 rfl ((cell_add1 _ _ _ _).trans (by rw [Nat.zero_add]; exact f4.cell 0 _ rfl))) fun a ha => ?_
       refine sg ha 2 [(0, vS (some ⟨b1, o1, none⟩) p0 c_p0), (3, vS (some ⟨b3, o2, none⟩) (x1.set (Int.toNat x3) x3) c2), (4, vI x2), (5, vI x3), (6, vP b2), (7, vB x4.1), (8, vB x4.2), (37, vB (decide (((gt p0 x3).Kind) < 1)))] w6 fun a ha => ?_
       refine split_b (t := 37) ha rfl (fun hb ha => ?_) (fun hb ha => ?_)
       · replace h := itT hb h
         refine sg ha 40 [(0, vS (some ⟨b1, o1, none⟩) p0 c_p0), (3, vS (some ⟨b3, o2, none⟩) (x1.set (Int.toNat x3) x3) c2), (4, vI x2), (5, vI x3), (6, vP b2), (7, vB x4.1), (8, vB x4.2), (77, vB true)] w6 fun a ha => ?_
         obtain rfl := Option.some.inj h
         exact ⟨_, rfl, rfl, ha.to (by kernel_rfl)⟩
       · replace h := itF hb h
         refine sg ha 1 [(0, vS (some ⟨b1, o1, none⟩) p0 c_p0), (3, vS (some ⟨b3, o2, none⟩) (x1.set (Int.toNat x3) x3) c2), (4, vI x2), (5, vI x3), (6, vP b2), (7, vB x4.1), (8, vB x4.2), (37, vB false), (38, vF b2 0)] w6 fun a ha => ?_
         refine ov (.int .i64 ((gt p0 x3).Kind)) ha (ob_load w6 rfl rfl Try.underlying3 rfl ((cell_add1 _ _ _ _).trans (by rw [Nat.zero_add]; exact f4.cell 0 _ rfl))) fun a ha => ?_
         refine sg ha 3 [(0, vS (some ⟨b1, o1, none⟩) p0 c_p0), (3, vS (some ⟨b3, o2, none⟩) (x1.set (Int.toNat x3) x3) c2), (4, vI x2), (5, vI x3), (6, vP b2), (7, vB x4.1), (8, vB x4.2), (42, vB (decide (((gt p0 x3).Kind) > 8)))] w6 fun a ha => ?_
         refine split_b (t := 42) ha rfl (fun hb ha => ?_) (fun hb ha => ?_)
         · replace h := itT hb h
           refine sg ha 35 [(0, vS (some ⟨b1, o1, none⟩) p0 c_p0), (3, vS (some ⟨b3, o2, none⟩) (x1.set (Int.toNat x3) x3) c2), (4, vI x2), (5, vI x3), (6, vP b2), (7, vB x4.1), (8, vB x4.2), (77, vB true)] w6 fun a ha => ?_
           obtain rfl := Option.some.inj h
           exact ⟨_, rfl, rfl, ha.to (by kernel_rfl)⟩
         · replace h := itF hb h
           refine sg ha 1 [(0, vS (some ⟨b1, o1, none⟩) p0 c_p0), (3, vS (some ⟨b3, o2, none⟩) (x1.set (Int.toNat x3) x3) c2), (4, vI x2), (5, vI x3), (6, vP b2), (7, vB x4.1), (8, vB x4.2), (42, vB false), (43, vF b2 0)] w6 fun a ha => ?_
           refine ov (.int .i64 ((gt p0 x3).Kind)) ha (ob_load w6 rfl rfl Try.underlying3 rfl ((cell_add1 _ _ _ _).trans (by rw [Nat.zero_add]; exact f4.cell 0 _ rfl))) fun a ha => ?_
           refine sg ha 2 [(0, vS (some ⟨b1, o1, none⟩) p0 c_p0), (3, vS (some ⟨b3, o2, none⟩) (x1.set (Int.toNat x3) x3) c2), (4, vI x2), (5, vI x3), (6, vP b2), (7, vB x4.1), (8, vB x4.2), (42, vB false), (46, vB (((gt p0 x3).Kind) != 2))] w6 fun a ha => ?_
           refine split_b (t := 46) ha rfl (fun hb ha => ?_) (fun hb ha => ?_)
           · replace h := itT hb h
             refine sg ha 1 [(0, vS (some ⟨b1, o1, none⟩) p0 c_p0), (3, vS (some ⟨b3, o2, none⟩) (x1.set (Int.toNat x3) x3) c2), (4, vI x2), (5, vI x3), (6, vP b2), (7, vB x4.1), (8, vB x4.2), (42, vB false), (46, vB true), (47, vF b2 4)] w6 fun a ha => ?_
             refine ov (.agg #[.int .u64 (gt ((gt p0 x3).Set) 0), .int .u64 (gt ((gt p0 x3).Set) 1), .int .u64 (gt ((gt p0 x3).Set) 2), .int .u64 (gt ((gt p0 x3).Set) 3)]) ha (ob_loadn (cs := [.int .u64 (gt ((gt p0 x3).Set) 0), .int .u64 (gt ((gt p0 x3).Set) 1), .int .u64 (gt ((gt p0 x3).Set) 2), .int .u64 (gt ((gt p0 x3).Set) 3)]) w6 rfl rfl Try.underlying40 rfl (by kernel_rfl) (fun j v hj => (cell_add2 _ _ _ _ _).trans (by rw [Nat.zero_add]; exact f4.cell (4 + j) v (sub_cells (off := 4) (m := 4) rfl hj)))) fun a ha => ?_
             refine sg ha 1 [(0, vS (some ⟨b1, o1, none⟩) p0 c_p0), (3, vS (some ⟨b3, o2, none⟩) (x1.set (Int.toNat x3) x3) c2), (4, vI x2), (5, vI x3), (6, vP b2), (7, vB x4.1), (8, vB x4.2), (42, vB false), (46, vB true), (48, .agg #[.int .u64 (gt ((gt p0 x3).Set) 0), .int .u64 (gt ((gt p0 x3).Set) 1), .int .u64 (gt ((gt p0 x3).Set) 2), .int .u64 (gt ((gt p0 x3).Set) 3)]), (49, .agg #[.int .u64 0, .int .u64 0, .int .u64 0, .int .u64 0])] w6 fun a ha => ?_
             refine ov (vB (!(((gt ((gt p0 x3).Set) 0) == 0) && (((gt ((gt p0 x3).Set) 1) == 0) && (((gt ((gt p0 x3).Set) 2) == 0) && ((gt ((gt p0 x3).Set) 3) == 0)))))) ha (ob_neagg w6 rfl rfl rfl (by kernel_rfl) (eqL40 (gt ((gt p0 x3).Set) 0) (gt ((gt p0 x3).Set) 1) (gt ((gt p0 x3).Set) 2) (gt ((gt p0 x3).Set) 3) 0 0 0 0)) fun a ha => ?_
             refine sg ha 3 [(0, vS (some ⟨b1, o1, none⟩) p0 c_p0), (3, vS (some ⟨b3, o2, none⟩) (x1.set (Int.toNat x3) x3) c2), (4, vI x2), (5, vI x3), (6, vP b2), (7, vB x4.1), (8, vB x4.2), (53, vB (!(((gt ((gt p0 x3).Set) 0) == 0) && (((gt ((gt p0 x3).Set) 1) == 0) && (((gt ((gt p0 x3).Set) 2) == 0) && ((gt ((gt p0 x3).Set) 3) == 0))))))] w6 fun a ha => ?_
             refine split_b (t := 53) ha rfl (fun hb ha => ?_) (fun hb ha => ?_)
             · replace h := itT hb h
               refine sg ha 24 [(0, vS (some ⟨b1, o1, none⟩) p0 c_p0), (3, vS (some ⟨b3, o2, none⟩) (x1.set (Int.toNat x3) x3) c2), (4, vI x2), (5, vI x3), (6, vP b2), (7, vB x4.1), (8, vB x4.2), (77, vB true)] w6 fun a ha => ?_
               obtain rfl := Option.some.inj h
               exact ⟨_, rfl, rfl, ha.to (by kernel_rfl)⟩
             · replace h := itF hb h
               refine sg ha 1 [(0, vS (some ⟨b1, o1, none⟩) p0 c_p0), (3, vS (some ⟨b3, o2, none⟩) (x1.set (Int.toNat x3) x3) c2), (4, vI x2), (5, vI x3), (6, vP b2), (7, vB x4.1), (8, vB x4.2), (53, vB false), (54, vF b2 0)] w6 fun a ha => ?_
               refine ov (.int .i64 ((gt p0 x3).Kind)) ha (ob_load w6 rfl rfl Try.underlying3 rfl ((cell_add1 _ _ _ _).trans (by rw [Nat.zero_add]; exact f4.cell 0 _ rfl))) fun a ha => ?_
               refine sg ha 2 [(0, vS (some ⟨b1, o1, none⟩) p0 c_p0), (3, vS (some ⟨b3, o2, none⟩) (x1.set (Int.toNat x3) x3) c2), (4, vI x2), (5, vI x3), (6, vP b2), (7, vB x4.1), (8, vB x4.2), (53, vB false), (57, vB (((gt p0 x3).Kind) != 7))] w6 fun a ha => ?_
               refine split_b (t := 57) ha rfl (fun hb ha => ?_) (fun hb ha => ?_)
               · replace h := itT hb h
                 refine sg ha 1 [(0, vS (some ⟨b1, o1, none⟩) p0 c_p0), (3, vS (some ⟨b3, o2, none⟩) (x1.set (Int.toNat x3) x3) c2), (4, vI x2), (5, vI x3), (6, vP b2), (7, vB x4.1), (8, vB x4.2), (53, vB false), (57, vB true), (58, vF b2 3)] w6 fun a ha => ?_
                 refine ov (.int .i64 ((gt p0 x3).N)) ha (ob_load w6 rfl rfl Try.underlying3 rfl ((cell_add1 _ _ _ _).trans (by rw [Nat.zero_add]; exact f4.cell 3 _ rfl))) fun a ha => ?_
                 refine sg ha 4 [(0, vS (some ⟨b1, o1, none⟩) p0 c_p0), (3, vS (some ⟨b3, o2, none⟩) (x1.set (Int.toNat x3) x3) c2), (4, vI x2), (5, vI x3), (6, vP b2), (7, vB x4.1), (8, vB x4.2), (63, vB (((gt p0 x3).N) != 0))] w6 fun a ha => ?_
                 refine split_b (t := 63) ha rfl (fun hb ha => ?_) (fun hb ha => ?_)
                 · replace h := itT hb h
                   refine sg ha 14 [(0, vS (some ⟨b1, o1, none⟩) p0 c_p0), (3, vS (some ⟨b3, o2, none⟩) (x1.set (Int.toNat x3) x3) c2), (4, vI x2), (5, vI x3), (6, vP b2), (7, vB x4.1), (8, vB x4.2), (77, vB true)] w6 fun a ha => ?_
                   obtain rfl := Option.some.inj h
                   exact ⟨_, rfl, rfl, ha.to (by kernel_rfl)⟩
                 · replace h := itF hb h
                   refine sg ha 1 [(0, vS (some ⟨b1, o1, none⟩) p0 c_p0), (3, vS (some ⟨b3, o2, none⟩) (x1.set (Int.toNat x3) x3) c2), (4, vI x2), (5, vI x3), (6, vP b2), (7, vB x4.1), (8, vB x4.2), (63, vB false), (64, vF b2 0)] w6 fun a ha => ?_
                   refine ov (.int .i64 ((gt p0 x3).Kind)) ha (ob_load w6 rfl rfl Try.underlying3 rfl ((cell_add1 _ _ _ _).trans (by rw [Nat.zero_add]; exact f4.cell 0 _ rfl))) fun a ha => ?_
                   refine sg ha 2 [(0, vS (some ⟨b1, o1, none⟩) p0 c_p0), (3, vS (some ⟨b3, o2, none⟩) (x1.set (Int.toNat x3) x3) c2), (4, vI x2), (5, vI x3), (6, vP b2), (7, vB x4.1), (8, vB x4.2), (63, vB false), (67, vB (((gt p0 x3).Kind) == 7))] w6 fun a ha => ?_
                   refine split_b (t := 67) ha rfl (fun hb ha => ?_) (fun hb ha => ?_)
                   · replace h := itT hb h
                     refine sg ha 1 [(0, vS (some ⟨b1, o1, none⟩) p0 c_p0), (3, vS (some ⟨b3, o2, none⟩) (x1.set (Int.toNat x3) x3) c2), (4, vI x2), (5, vI x3), (6, vP b2), (7, vB x4.1), (8, vB x4.2), (63, vB false), (67, vB true), (68, vF b2 3)] w6 fun a ha => ?_
                     refine ov (.int .i64 ((gt p0 x3).N)) ha (ob_load w6 rfl rfl Try.underlying3 rfl ((cell_add1 _ _ _ _).trans (by rw [Nat.zero_add]; exact f4.cell 3 _ rfl))) fun a ha => ?_
                     refine sg ha 2 [(0, vS (some ⟨b1, o1, none⟩) p0 c_p0), (3, vS (some ⟨b3, o2, none⟩) (x1.set (Int.toNat x3) x3) c2), (4, vI x2), (5, vI x3), (6, vP b2), (7, vB x4.1), (8, vB x4.2), (63, vB false), (67, vB true), (71, vB (decide (((gt p0 x3).N) < 1)))] w6 fun a ha => ?_
                     refine split_b (t := 71) ha rfl (fun hb ha => ?_) (fun hb ha => ?_)
                     · replace h := itT hb h
                       refine sg ha 6 [(0, vS (some ⟨b1, o1, none⟩) p0 c_p0), (3, vS (some ⟨b3, o2, none⟩) (x1.set (Int.toNat x3) x3) c2), (4, vI x2), (5, vI x3), (6, vP b2), (7, vB x4.1), (8, vB x4.2), (77, vB true)] w6 fun a ha => ?_
                       obtain rfl := Option.some.inj h
                       exact ⟨_, rfl, rfl, ha.to (by kernel_rfl)⟩
                     · replace h := itF hb h
                       refine sg ha 1 [(0, vS (some ⟨b1, o1, none⟩) p0 c_p0), (3, vS (some ⟨b3, o2, none⟩) (x1.set (Int.toNat x3) x3) c2), (4, vI x2), (5, vI x3), (6, vP b2), (7, vB x4.1), (8, vB x4.2), (63, vB false), (67, vB true), (71, vB false), (72, vF b2 3)] w6 fun a ha => ?_
                       refine ov (.int .i64 ((gt p0 x3).N)) ha (ob_load w6 rfl rfl Try.underlying3 rfl ((cell_add1 _ _ _ _).trans (by rw [Nat.zero_add]; exact f4.cell 3 _ rfl))) fun a ha => ?_
                       refine sg ha 4 [(0, vS (some ⟨b1, o1, none⟩) p0 c_p0), (3, vS (some ⟨b3, o2, none⟩) (x1.set (Int.toNat x3) x3) c2), (4, vI x2), (5, vI x3), (6, vP b2), (7, vB x4.1), (8, vB x4.2), (77, vB (decide (((gt p0 x3).N) > 9)))] w6 fun a ha => ?_
                       obtain rfl := Option.some.inj h
                       exact ⟨_, rfl, rfl, ha.to (by kernel_rfl)⟩
                   · replace h := itF hb h
                     refine sg ha 10 [(0, vS (some ⟨b1, o1, none⟩) p0 c_p0), (3, vS (some ⟨b3, o2, none⟩) (x1.set (Int.toNat x3) x3) c2), (4, vI x2), (5, vI x3), (6, vP b2), (7, vB x4.1), (8, vB x4.2), (77, vB false)] w6 fun a ha => ?_
                     obtain rfl := Option.some.inj h
                     exact ⟨_, rfl, rfl, ha.to (by kernel_rfl)⟩
               · replace h := itF hb h
                 refine sg ha 7 [(0, vS (some ⟨b1, o1, none⟩) p0 c_p0), (3, vS (some ⟨b3, o2, none⟩) (x1.set (Int.toNat x3) x3) c2), (4, vI x2), (5, vI x3), (6, vP b2), (7, vB x4.1), (8, vB x4.2), (63, vB false), (64, vF b2 0)] w6 fun a ha => ?_
                 refine ov (.int .i64 ((gt p0 x3).Kind)) ha (ob_load w6 rfl rfl Try.underlying3 rfl ((cell_add1 _ _ _ _).trans (by rw [Nat.zero_add]; exact f4.cell 0 _ rfl))) fun a ha => ?_
                 refine sg ha 2 [(0, vS (some ⟨b1, o1, none⟩) p0 c_p0), (3, vS (some ⟨b3, o2, none⟩) (x1.set (Int.toNat x3) x3) c2), (4, vI x2), (5, vI x3), (6, vP b2), (7, vB x4.1), (8, vB x4.2), (63, vB false), (67, vB (((gt p0 x3).Kind) == 7))] w6 fun a ha => ?_
                 refine split_b (t := 67) ha rfl (fun hb ha => ?_) (fun hb ha => ?_)
                 · replace h := itT hb h
                   refine sg ha 1 [(0, vS (some ⟨b1, o1, none⟩) p0 c_p0), (3, vS (some ⟨b3, o2, none⟩) (x1.set (Int.toNat x3) x3) c2), (4, vI x2), (5, vI x3), (6, vP b2), (7, vB x4.1), (8, vB x4.2), (63, vB false), (67, vB true), (68, vF b2 3)] w6 fun a ha => ?_
                   refine ov (.int .i64 ((gt p0 x3).N)) ha (ob_load w6 rfl rfl Try.underlying3 rfl ((cell_add1 _ _ _ _).trans (by rw [Nat.zero_add]; exact f4.cell 3 _ rfl))) fun a ha => ?_
                   refine sg ha 2 [(0, vS (some ⟨b1, o1, none⟩) p0 c_p0), (3, vS (some ⟨b3, o2, none⟩) (x1.set (Int.toNat x3) x3) c2), (4, vI x2), (5, vI x3), (6, vP b2), (7, vB x4.1), (8, vB x4.2), (63, vB false), (67, vB true), (71, vB (decide (((gt p0 x3).N) < 1)))] w6 fun a ha => ?_
                   refine split_b (t := 71) ha rfl (fun hb ha => ?_) (fun hb ha => ?_)
                   · replace h := itT hb h
                     refine sg ha 6 [(0, vS (some ⟨b1, o1, none⟩) p0 c_p0), (3, vS (some ⟨b3, o2, none⟩) (x1.set (Int.toNat x3) x3) c2), (4, vI x2), (5, vI x3), (6, vP b2), (7, vB x4.1), (8, vB x4.2), (77, vB true)] w6 fun a ha => ?_
                     obtain rfl := Option.some.inj h
                     exact ⟨_, rfl, rfl, ha.to (by kernel_rfl)⟩
                   · replace h := itF hb h
                     refine sg ha 1 [(0, vS (some ⟨b1, o1, none⟩) p0 c_p0), (3, vS (some ⟨b3, o2, none⟩) (x1.set (Int.toNat x3) x3) c2), (4, vI x2), (5, vI x3), (6, vP b2), (7, vB x4.1), (8, vB x4.2), (63, vB false), (67, vB true), (71, vB false), (72, vF b2 3)] w6 fun a ha => ?_
                     refine ov (.int .i64 ((gt p0 x3).N)) ha (ob_load w6 rfl rfl Try.underlying3 rfl ((cell_add1 _ _ _ _).trans (by rw [Nat.zero_add]; exact f4.cell 3 _ rfl))) fun a ha => ?_
                     refine sg ha 4 [(0, vS (some ⟨b1, o1, none⟩) p0 c_p0), (3, vS (some ⟨b3, o2, none⟩) (x1.set (Int.toNat x3) x3) c2), (4, vI x2), (5, vI x3), (6, vP b2), (7, vB x4.1), (8, vB x4.2), (77, vB (decide (((gt p0 x3).N) > 9)))] w6 fun a ha => ?_
                     obtain rfl := Option.some.inj h
                     exact ⟨_, rfl, rfl, ha.to (by kernel_rfl)⟩
                 · replace h := itF hb h
                   refine sg ha 10 [(0, vS (some ⟨b1, o1, none⟩) p0 c_p0), (3, vS (some ⟨b3, o2, none⟩) (x1.set (Int.toNat x3) x3) c2), (4, vI x2), (5, vI x3), (6, vP b2), (7, vB x4.1), (8, vB x4.2), (77, vB false)] w6 fun a ha => ?_
                   obtain rfl := Option.some.inj h
                   exact ⟨_, rfl, rfl, ha.to (by kernel_rfl)⟩
           · replace h := itF hb h
             refine sg ha 8 [(0, vS (some ⟨b1, o1, none⟩) p0 c_p0), (3, vS (some ⟨b3, o2, none⟩) (x1.set (Int.toNat x3) x3) c2), (4, vI x2), (5, vI x3), (6, vP b2), (7, vB x4.1), (8, vB x4.2), (53, vB false), (54, vF b2 0)] w6 fun a ha => ?_
             refine ov (.int .i64 ((gt p0 x3).Kind)) ha (ob_load w6 rfl rfl Try.underlying3 rfl ((cell_add1 _ _ _ _).trans (by rw [Nat.zero_add]; exact f4.cell 0 _ rfl))) fun a ha => ?_
             refine sg ha 2 [(0, vS (some ⟨b1, o1, none⟩) p0 c_p0), (3, vS (some ⟨b3, o2, none⟩) (x1.set (Int.toNat x3) x3) c2), (4, vI x2), (5, vI x3), (6, vP b2), (7, vB x4.1), (8, vB x4.2), (53, vB false), (57, vB (((gt p0 x3).Kind) != 7))] w6 fun a ha => ?_
             refine split_b (t := 57) ha rfl (fun hb ha => ?_) (fun hb ha => ?_)
             · replace h := itT hb h
               refine sg ha 1 [(0, vS (some ⟨b1, o1, none⟩) p0 c_p0), (3, vS (some ⟨b3, o2, none⟩) (x1.set (Int.toNat x3) x3) c2), (4, vI x2), (5, vI x3), (6, vP b2), (7, vB x4.1), (8, vB x4.2), (53, vB false), (57, vB true), (58, vF b2 3)] w6 fun a ha => ?_
               refine ov (.int .i64 ((gt p0 x3).N)) ha (ob_load w6 rfl rfl Try.underlying3 rfl ((cell_add1 _ _ _ _).trans (by rw [Nat.zero_add]; exact f4.cell 3 _ rfl))) fun a ha => ?_
               refine sg ha 4 [(0, vS (some ⟨b1, o1, none⟩) p0 c_p0), (3, vS (some ⟨b3, o2, none⟩) (x1.set (Int.toNat x3) x3) c2), (4, vI x2), (5, vI x3), (6, vP b2), (7, vB x4.1), (8, vB x4.2), (63, vB (((gt p0 x3).N) != 0))] w6 fun a ha => ?_
               refine split_b (t := 63) ha rfl (fun hb ha => ?_) (fun hb ha => ?_)
               · replace h := itT hb h
                 refine sg ha 14 [(0, vS (some ⟨b1, o1, none⟩) p0 c_p0), (3, vS (some ⟨b3, o2, none⟩) (x1.set (Int.toNat x3) x3) c2), (4, vI x2), (5, vI x3), (6, vP b2), (7, vB x4.1), (8, vB x4.2), (77, vB true)] w6 fun a ha => ?_
                 obtain rfl := Option.some.inj h
                 exact ⟨_, rfl, rfl, ha.to (by kernel_rfl)⟩
               · replace h := itF hb h
                 refine sg ha 1 [(0, vS (some ⟨b1, o1, none⟩) p0 c_p0), (3, vS (some ⟨b3, o2, none⟩) (x1.set (Int.toNat x3) x3) c2), (4, vI x2), (5, vI x3), (6, vP b2), (7, vB x4.1), (8, vB x4.2), (63, vB false), (64, vF b2 0)] w6 fun a ha => ?_
                 refine ov (.int .i64 ((gt p0 x3).Kind)) ha (ob_load w6 rfl rfl Try.underlying3 rfl ((cell_add1 _ _ _ _).trans (by rw [Nat.zero_add]; exact f4.cell 0 _ rfl))) fun a ha => ?_
                 refine sg ha 2 [(0, vS (some ⟨b1, o1, none⟩) p0 c_p0), (3, vS (some ⟨b3, o2, none⟩) (x1.set (Int.toNat x3) x3) c2), (4, vI x2), (5, vI x3), (6, vP b2), (7, vB x4.1), (8, vB x4.2), (63, vB false), (67, vB (((gt p0 x3).Kind) == 7))] w6 fun a ha => ?_
                 refine split_b (t := 67) ha rfl (fun hb ha => ?_) (fun hb ha => ?_)
                 · replace h := itT hb h
                   refine sg ha 1 [(0, vS (some ⟨b1, o1, none⟩) p0 c_p0), (3, vS (some ⟨b3, o2, none⟩) (x1.set (Int.toNat x3) x3) c2), (4, vI x2), (5, vI x3), (6, vP b2), (7, vB x4.1), (8, vB x4.2), (63, vB false), (67, vB true), (68, vF b2 3)] w6 fun a ha => ?_
                   refine ov (.int .i64 ((gt p0 x3).N)) ha (ob_load w6 rfl rfl Try.underlying3 rfl ((cell_add1 _ _ _ _).trans (by rw [Nat.zero_add]; exact f4.cell 3 _ rfl))) fun a ha => ?_
                   refine sg ha 2 [(0, vS (some ⟨b1, o1, none⟩) p0 c_p0), (3, vS (some ⟨b3, o2, none⟩) (x1.set (Int.toNat x3) x3) c2), (4, vI x2), (5, vI x3), (6, vP b2), (7, vB x4.1), (8, vB x4.2), (63, vB false), (67, vB true), (71, vB (decide (((gt p0 x3).N) < 1)))] w6 fun a ha => ?_
                   refine split_b (t := 71) ha rfl (fun hb ha => ?_) (fun hb ha => ?_)
                   · replace h := itT hb h
                     refine sg ha 6 [(0, vS (some ⟨b1, o1, none⟩) p0 c_p0), (3, vS (some ⟨b3, o2, none⟩) (x1.set (Int.toNat x3) x3) c2), (4, vI x2), (5, vI x3), (6, vP b2), (7, vB x4.1), (8, vB x4.2), (77, vB true)] w6 fun a ha => ?_
                     obtain rfl := Option.some.inj h
                     exact ⟨_, rfl, rfl, ha.to (by kernel_rfl)⟩
                   · replace h := itF hb h
                     refine sg ha 1 [(0, vS (some ⟨b1, o1, none⟩) p0 c_p0), (3, vS (some ⟨b3, o2, none⟩) (x1.set (Int.toNat x3) x3) c2), (4, vI x2), (5, vI x3), (6, vP b2), (7, vB x4.1), (8, vB x4.2), (63, vB false), (67, vB true), (71, vB false), (72, vF b2 3)] w6 fun a ha => ?_
                     refine ov (.int .i64 ((gt p0 x3).N)) ha (ob_load w6 rfl rfl Try.underlying3 rfl ((cell_add1 _ _ _ _).trans (by rw [Nat.zero_add]; exact f4.cell 3 _ rfl))) fun a ha => ?_
                     refine sg ha 4 [(0, vS (some ⟨b1, o1, none⟩) p0 c_p0), (3, vS (some ⟨b3, o2, none⟩) (x1.set (Int.toNat x3) x3) c2), (4, vI x2), (5, vI x3), (6, vP b2), (7, vB x4.1), (8, vB x4.2), (77, vB (decide (((gt p0 x3).N) > 9)))] w6 fun a ha => ?_
                     obtain rfl := Option.some.inj h
                     exact ⟨_, rfl, rfl, ha.to (by kernel_rfl)⟩
                 · replace h := itF hb h
                   refine sg ha 10 [(0, vS (some ⟨b1, o1, none⟩) p0 c_p0), (3, vS (some ⟨b3, o2, none⟩) (x1.set (Int.toNat x3) x3) c2), (4, vI x2), (5, vI x3), (6, vP b2), (7, vB x4.1), (8, vB x4.2), (77, vB false)] w6 fun a ha => ?_
                   obtain rfl := Option.some.inj h
                   exact ⟨_, rfl, rfl, ha.to (by kernel_rfl)⟩
             · replace h := itF hb h
               refine sg ha 7 [(0, vS (some ⟨b1, o1, none⟩) p0 c_p0), (3, vS (some ⟨b3, o2, none⟩) (x1.set (Int.toNat x3) x3) c2), (4, vI x2), (5, vI x3), (6, vP b2), (7, vB x4.1), (8, vB x4.2), (63, vB false), (64, vF b2 0)] w6 fun a ha => ?_
               refine ov (.int .i64 ((gt p0 x3).Kind)) ha (ob_load w6 rfl rfl Try.underlying3 rfl ((cell_add1 _ _ _ _).trans (by rw [Nat.zero_add]; exact f4.cell 0 _ rfl))) fun a ha => ?_
               refine sg ha 2 [(0, vS (some ⟨b1, o1, none⟩) p0 c_p0), (3, vS (some ⟨b3, o2, none⟩) (x1.set (Int.toNat x3) x3) c2), (4, vI x2), (5, vI x3), (6, vP b2), (7, vB x4.1), (8, vB x4.2), (63, vB false), (67, vB (((gt p0 x3).Kind) == 7))] w6 fun a ha => ?_
               refine split_b (t := 67) ha rfl (fun hb ha => ?_) (fun hb ha => ?_)
               · replace h := itT hb h
                 refine sg ha 1 [(0, vS (some ⟨b1, o1, none⟩) p0 c_p0), (3, vS (some ⟨b3, o2, none⟩) (x1.set (Int.toNat x3) x3) c2), (4, vI x2), (5, vI x3), (6, vP b2), (7, vB x4.1), (8, vB x4.2), (63, vB false), (67, vB true), (68, vF b2 3)] w6 fun a ha => ?_
                 refine ov (.int .i64 ((gt p0 x3).N)) ha (ob_load w6 rfl rfl Try.underlying3 rfl ((cell_add1 _ _ _ _).trans (by rw [Nat.zero_add]; exact f4.cell 3 _ rfl))) fun a ha => ?_
                 refine sg ha 2 [(0, vS (some ⟨b1, o1, none⟩) p0 c_p0), (3, vS (some ⟨b3, o2, none⟩) (x1.set (Int.toNat x3) x3) c2), (4, vI x2), (5, vI x3), (6, vP b2), (7, vB x4.1), (8, vB x4.2), (63, vB false), (67, vB true), (71, vB (decide (((gt p0 x3).N) < 1)))] w6 fun a ha => ?_
                 refine split_b (t := 71) ha rfl (fun hb ha => ?_) (fun hb ha => ?_)
                 · replace h := itT hb h
                   refine sg ha 6 [(0, vS (some ⟨b1, o1, none⟩) p0 c_p0), (3, vS (some ⟨b3, o2, none⟩) (x1.set (Int.toNat x3) x3) c2), (4, vI x2), (5, vI x3), (6, vP b2), (7, vB x4.1), (8, vB x4.2), (77, vB true)] w6 fun a ha => ?_
                   obtain rfl := Option.some.inj h
                   exact ⟨_, rfl, rfl, ha.to (by kernel_rfl)⟩
                 · replace h := itF hb h
                   refine sg ha 1 [(0, vS (some ⟨b1, o1, none⟩) p0 c_p0), (3, vS (some ⟨b3, o2, none⟩) (x1.set (Int.toNat x3) x3) c2), (4, vI x2), (5, vI x3), (6, vP b2), (7, vB x4.1), (8, vB x4.2), (63, vB false), (67, vB true), (71, vB false), (72, vF b2 3)] w6 fun a ha => ?_
                   refine ov (.int .i64 ((gt p0 x3).N)) ha (ob_load w6 rfl rfl Try.underlying3 rfl ((cell_add1 _ _ _ _).trans (by rw [Nat.zero_add]; exact f4.cell 3 _ rfl))) fun a ha => ?_
                   refine sg ha 4 [(0, vS (some ⟨b1, o1, none⟩) p0 c_p0), (3, vS (some ⟨b3, o2, none⟩) (x1.set (Int.toNat x3) x3) c2), (4, vI x2), (5, vI x3), (6, vP b2), (7, vB x4.1), (8, vB x4.2), (77, vB (decide (((gt p0 x3).N) > 9)))] w6 fun a ha => ?_
                   obtain rfl := Option.some.inj h
                   exact ⟨_, rfl, rfl, ha.to (by kernel_rfl)⟩
               · replace h := itF hb h
                 refine sg ha 10 [(0, vS (some ⟨b1, o1, none⟩) p0 c_p0), (3, vS (some ⟨b3, o2, none⟩) (x1.set (Int.toNat x3) x3) c2), (4, vI x2), (5, vI x3), (6, vP b2), (7, vB x4.1), (8, vB x4.2), (77, vB false)] w6 fun a ha => ?_
                 obtain rfl := Option.some.inj h
                 exact ⟨_, rfl, rfl, ha.to (by kernel_rfl)⟩
     rintro a _ ⟨x5, rfl, rfl, ha⟩
     refine hK _ _ ?_
     clear hK
     refine cond_b ha rfl (fun hb => ?_) (fun hb => ?_)
     · replace h := itT hb h
       refine sq fun K hK => ?_
       refine reg ?_
       refine sg ha 1 [(2, .slice none 0 0)] w6 fun a ha => ?_
       refine hK _ _ ?_
       clear hK
       refine wp_ret ?_
       obtain rfl := Option.some.inj h
       refine ⟨_, rfl, rfl, ?_⟩
       show bodyPost Try.prog Try.f45 (R45 w S _) .ret a w6
       exact ret_1 (r1 := .tmp 2) (v1 := .slice none 0 0) ha rfl (.inl rfl) rfl ⟨_, rfl, cx.below, ⟨_, _, rfl, Ow.nil, (fun _ => rfl)⟩⟩
     · replace h := itF hb h
       refine wp_skip ?_
       refine hK _ _ ?_
       clear hK
       refine sq fun K hK => ?_
       refine sq fun K hK => ?_
       obtain ⟨q2, hj2, h⟩ := obind h
       refine wp_cutV (D := fun a w_ => ∃ x6 : Bool, x6 = q2 ∧ w6 = w_ ∧ Ag 183 [(0, vS (some ⟨b1, o1, none⟩) p0 c_p0), (3, vS (some ⟨b3, o2, none⟩) (x1.set (Int.toNat x3) x3) c2), (4, vI x2), (5, vI x3), (6, vP b2), (7, vB x4.1), (8, vB x4.2), (93, vB x6)] a) ?_ ?_
       · clear h; have h := hj2
         refine reg ?_
         refine sg ha 3 [(0, vS (some ⟨b1, o1, none⟩) p0 c_p0), (3, vS (some ⟨b3, o2, none⟩) (x1.set (Int.toNat x3) x3) c2), (4, vI x2), (5, vI x3), (6, vP b2), (7, vB x4.1), (8, vB x4.2), (80, vB (!x4.1))] w6 fun a ha => ?_
         refine split_b (t := 80) ha rfl (fun hb ha => ?_) (fun hb ha => ?_)
         · replace h := itT hb h
           refine sg ha 1 [(0, vS (some ⟨b1, o1, none⟩) p0 c_p0), (3, vS (some ⟨b3, o2, none⟩) (x1.set (Int.toNat x3) x3) c2), (4, vI x2), (5, vI x3), (6, vP b2), (7, vB x4.1), (8, vB x4.2), (80, vB true), (81, vF b2 1)] w6 fun a ha => ?_
           refine ov (.int .i64 ((gt p0 x3).A)) ha (ob_load w6 rfl rfl Try.underlying3 rfl ((cell_add1 _ _ _ _).trans (by rw [Nat.zero_add]; exact f4.cell 1 _ rfl))) fun a ha => ?_
           refine sg ha 3 [(0, vS (some ⟨b1, o1, none⟩) p0 c_p0), (3, vS (some ⟨b3, o2, none⟩) (x1.set (Int.toNat x3) x3) c2), (4, vI x2), (5, vI x3), (6, vP b2), (7, vB x4.1), (8, vB x4.2), (85, vB (((gt p0 x3).A) != (-1)))] w6 fun a ha => ?_
           refine split_b (t := 85) ha rfl (fun hb ha => ?_) (fun hb ha => ?_)
           · replace h := itT hb h
             refine sg ha 8 [(0, vS (some ⟨b1, o1, none⟩) p0 c_p0), (3, vS (some ⟨b3, o2, none⟩) (x1.set (Int.toNat x3) x3) c2), (4, vI x2), (5, vI x3), (6, vP b2), (7, vB x4.1), (8, vB x4.2), (93, vB true)] w6 fun a ha => ?_
             obtain rfl := Option.some.inj h
             exact ⟨_, rfl, rfl, ha.to (by kernel_rfl)⟩
           · replace h := itF hb h
             refine sg ha 3 [(0, vS (some ⟨b1, o1, none⟩) p0 c_p0), (3, vS (some ⟨b3, o2, none⟩) (x1.set (Int.toNat x3) x3) c2), (4, vI x2), (5, vI x3), (6, vP b2), (7, vB x4.1), (8, vB x4.2), (85, vB false), (88, vB (!x4.2))] w6 fun a ha => ?_
             refine split_b (t := 88) ha rfl (fun hb ha => ?_) (fun hb ha => ?_)
             · replace h := itT hb h
               refine sg ha 1 [(0, vS (some ⟨b1, o1, none⟩) p0 c_p0), (3, vS (some ⟨b3, o2, none⟩) (x1.set (Int.toNat x3) x3) c2), (4, vI x2), (5, vI x3), (6, vP b2), (7, vB x4.1), (8, vB x4.2), (85, vB false), (88, vB true), (89, vF b2 2)] w6 fun a ha => ?_
               refine ov (.int .i64 ((gt p0 x3).B)) ha (ob_load w6 rfl rfl Try.underlying3 rfl ((cell_add1 _ _ _ _).trans (by rw [Nat.zero_add]; exact f4.cell 2 _ rfl))) fun a ha => ?_
               refine sg ha 3 [(0, vS (some ⟨b1, o1, none⟩) p0 c_p0), (3, vS (some ⟨b3, o2, none⟩) (x1.set (Int.toNat x3) x3) c2), (4, vI x2), (5, vI x3), (6, vP b2), (7, vB x4.1), (8, vB x4.2), (93, vB (((gt p0 x3).B) != (-1)))] w6 fun a ha => ?_
               obtain rfl := Option.some.inj h
               exact ⟨_, rfl, rfl, ha.to (by kernel_rfl)⟩
             · replace h := itF hb h
               refine sg ha 5 [(0, vS (some ⟨b1, o1, none⟩) p0 c_p0), (3, vS (some ⟨b3, o2, none⟩) (x1.set (Int.toNat x3) x3) c2), (4, vI x2), (5, vI x3), (6, vP b2), (7, vB x4.1), (8, vB x4.2), (93, vB false)] w6 fun a ha => ?_
               obtain rfl := Option.some.inj h
               exact ⟨_, rfl, rfl, ha.to (by kernel_rfl)⟩
         · replace h := itF hb h
           refine sg ha 8 [(0, vS (some ⟨b1, o1, none⟩) p0 c_p0), (3, vS (some ⟨b3, o2, none⟩) (x1.set (Int.toNat x3) x3) c2), (4, vI x2), (5, vI x3), (6, vP b2), (7, vB x4.1), (8, vB x4.2), (85, vB false), (88, vB (!x4.2))] w6 fun a ha => ?_
           refine split_b (t := 88) ha rfl (fun hb ha => ?_) (fun hb ha => ?_)
           · replace h := itT hb h
             refine sg ha 1 [(0, vS (some ⟨b1, o1, none⟩) p0 c_p0), (3, vS (some ⟨b3, o2, none⟩) (x1.set (Int.toNat x3) x3) c2), (4, vI x2), (5, vI x3), (6, vP b2), (7, vB x4.1), (8, vB x4.2), (85, vB false), (88, vB true), (89, vF b2 2)] w6 fun a ha => ?_
             refine ov (.int .i64 ((gt p0 x3).B)) ha (ob_load w6 rfl rfl Try.underlying3 rfl ((cell_add1 _ _ _ _).trans (by rw [Nat.zero_add]; exact f4.cell 2 _ rfl))) fun a ha => ?_
             refine sg ha 3 [(0, vS (some ⟨b1, o1, none⟩) p0 c_p0), (3, vS (some ⟨b3, o2, none⟩) (x1.set (Int.toNat x3) x3) c2), (4, vI x2), (5, vI x3), (6, vP b2), (7, vB x4.1), (8, vB x4.2), (93, vB (((gt p0 x3).B) != (-1)))] w6 fun a ha => ?_
             obtain rfl := Option.some.inj h
             exact ⟨_, rfl, rfl, ha.to (by kernel_rfl)⟩
           · replace h := itF hb h
             refine sg ha 5 [(0, vS (some ⟨b1, o1, none⟩) p0 c_p0), (3, vS (some ⟨b3, o2, none⟩) (x1.set (Int.toNat x3) x3) c2), (4, vI x2), (5, vI x3), (6, vP b2), (7, vB x4.1), (8, vB x4.2), (93, vB false)] w6 fun a ha => ?_
             obtain rfl := Option.some.inj h
             exact ⟨_, rfl, rfl, ha.to (by kernel_rfl)⟩
       rintro a _ ⟨x6, rfl, rfl, ha⟩
       refine hK _ _ ?_
       clear hK
       refine cond_b ha rfl (fun hb => ?_) (fun hb => ?_)
       · replace h := itT hb h
         refine sq fun K hK => ?_
         refine reg ?_
         refine sg ha 1 [(2, .slice none 0 0)] w6 fun a ha => ?_
         refine hK _ _ ?_
         clear hK
         refine wp_ret ?_
         obtain rfl := Option.some.inj h
         refine ⟨_, rfl, rfl, ?_⟩
         show bodyPost Try.prog Try.f45 (R45 w S _) .ret a w6
         exact ret_1 (r1 := .tmp 2) (v1 := .slice none 0 0) ha rfl (.inl rfl) rfl ⟨_, rfl, cx.below, ⟨_, _, rfl, Ow.nil, (fun _ => rfl)⟩⟩
       · replace h := itF hb h
         refine wp_skip ?_
         refine hK _ _ ?_
         clear hK
         refine sq fun K hK => ?_
         obtain ⟨q3, hj3, h⟩ := obind h
         refine wp_cutV (D := fun a w_ => ∃ x7 : Int, x7 = q3 ∧ w6 = w_ ∧ Ag 183 [(0, vS (some ⟨b1, o1, none⟩) p0 c_p0), (3, vS (some ⟨b3, o2, none⟩) (x1.set (Int.toNat x3) x3) c2), (4, vI x7), (5, vI x3), (6, vP b2), (7, vB x4.1), (8, vB x4.2)] a) ?_ ?_
         · clear h; have h := hj3
           refine sq fun K hK => ?_
           refine reg ?_
           refine sg ha 1 [(0, vS (some ⟨b1, o1, none⟩) p0 c_p0), (3, vS (some ⟨b3, o2, none⟩) (x1.set (Int.toNat x3) x3) c2), (4, vI x2), (5, vI x3), (6, vP b2), (7, vB x4.1), (8, vB x4.2), (94, vF b2 0)] w6 fun a ha => ?_
           refine ov (.int .i64 ((gt p0 x3).Kind)) ha (ob_load w6 rfl rfl Try.underlying3 rfl ((cell_add1 _ _ _ _).trans (by rw [Nat.zero_add]; exact f4.cell 0 _ rfl))) fun a ha => ?_
           refine sg ha 1 [(0, vS (some ⟨b1, o1, none⟩) p0 c_p0), (3, vS (some ⟨b3, o2, none⟩) (x1.set (Int.toNat x3) x3) c2), (4, vI x2), (5, vI x3), (6, vP b2), (7, vB x4.1), (8, vB x4.2), (96, vB (((gt p0 x3).Kind) == 2))] w6 fun a ha => ?_
           refine hK _ _ ?_
           clear hK
           refine cond_b ha rfl (fun hb => ?_) (fun hb => ?_)
           · replace h := itT hb h
             refine reg ?_
             refine sg ha 3 [(0, vS (some ⟨b1, o1, none⟩) p0 c_p0), (3, vS (some ⟨b3, o2, none⟩) (x1.set (Int.toNat x3) x3) c2), (4, vI (W (x2 + 1))), (5, vI x3), (6, vP b2), (7, vB x4.1), (8, vB x4.2)] w6 fun a ha => ?_
             obtain rfl := Option.some.inj h
             exact ⟨_, rfl, rfl, ha.to (by kernel_rfl)⟩
           · replace h := itF hb h
             refine wp_skip ?_
             obtain rfl := Option.some.inj h
             exact ⟨_, rfl, rfl, ha.to (by kernel_rfl)⟩
         rintro a _ ⟨x7, rfl, rfl, ha⟩
         refine hK _ _ ?_
         clear hK
         refine sq fun K hK => ?_
         refine reg ?_
         refine sg ha 3 [(0, vS (some ⟨b1, o1, none⟩) p0 c_p0), (3, vS (some ⟨b3, o2, none⟩) (x1.set (Int.toNat x3) x3) c2), (4, vI x7), (5, vI x3), (6, vP b2), (7, vB x4.1), (8, vB x4.2), (9, vI (W (x3 - 1)))] w6 fun a ha => ?_
         refine hK _ _ ?_
         clear hK
         refine sq fun K hK => ?_
         obtain ⟨q4, hj4, h⟩ := obind h
         refine wp_cutV (D := fun a w_ => ∃ x8 : Int, .inl x8 = q4 ∧ w6 = w_ ∧ Ag 183 [(0, vS (some ⟨b1, o1, none⟩) p0 c_p0), (3, vS (some ⟨b3, o2, none⟩) (x1.set (Int.toNat x3) x3) c2), (4, vI x7), (5, vI x3), (6, vP b2), (7, vB x4.1), (9, vI x8)] a) ?_ ?_
         · have hq4 := h; clear h; have h := hj4
           refine sq fun K hK => ?_
           refine reg ?_
           refine sg ha 1 [(0, vS (some ⟨b1, o1, none⟩) p0 c_p0), (3, vS (some ⟨b3, o2, none⟩) (x1.set (Int.toNat x3) x3) c2), (4, vI x7), (5, vI x3), (6, vP b2), (7, vB x4.1), (9, vI (W (x3 - 1))), (101, vB x4.2)] w6 fun a ha => ?_
           refine hK _ _ ?_
           clear hK
           refine cond_b ha rfl (fun hb => ?_) (fun hb => ?_)
           · replace h := itT hb h
             refine sq fun K hK => ?_
             refine sq fun K hK => ?_
             obtain ⟨q5, hj5, h⟩ := obind h
             refine wp_cutV (D := fun a w_ => ∃ x9 : Bool, x9 = q5 ∧ w6 = w_ ∧ Ag 183 [(0, vS (some ⟨b1, o1, none⟩) p0 c_p0), (3, vS (some ⟨b3, o2, none⟩) (x1.set (Int.toNat x3) x3) c2), (4, vI x7), (5, vI x3), (6, vP b2), (7, vB x4.1), (9, vI (W (x3 - 1))), (109, vB x9)] a) ?_ ?_
             · clear h; have h := hj5
               refine reg ?_
               refine sg ha 1 [(0, vS (some ⟨b1, o1, none⟩) p0 c_p0), (3, vS (some ⟨b3, o2, none⟩) (x1.set (Int.toNat x3) x3) c2), (4, vI x7), (5, vI x3), (6, vP b2), (7, vB x4.1), (9, vI (W (x3 - 1))), (102, vF b2 2)] w6 fun a ha => ?_
               refine ov (.int .i64 ((gt p0 x3).B)) ha (ob_load w6 rfl rfl Try.underlying3 rfl ((cell_add1 _ _ _ _).trans (by rw [Nat.zero_add]; exact f4.cell 2 _ rfl))) fun a ha => ?_
               refine sg ha 3 [(0, vS (some ⟨b1, o1, none⟩) p0 c_p0), (3, vS (some ⟨b3, o2, none⟩) (x1.set (Int.toNat x3) x3) c2), (4, vI x7), (5, vI x3), (6, vP b2), (7, vB x4.1), (9, vI (W (x3 - 1))), (106, vB (((gt p0 x3).B) != (W (x3 - 1))))] w6 fun a ha => ?_
               refine split_b (t := 106) ha rfl (fun hb ha => ?_) (fun hb ha => ?_)
               · replace h := itT hb h
                 refine sg ha 3 [(0, vS (some ⟨b1, o1, none⟩) p0 c_p0), (3, vS (some ⟨b3, o2, none⟩) (x1.set (Int.toNat x3) x3) c2), (4, vI x7), (5, vI x3), (6, vP b2), (7, vB x4.1), (9, vI (W (x3 - 1))), (109, vB true)] w6 fun a ha => ?_
                 obtain rfl := Option.some.inj h
                 exact ⟨_, rfl, rfl, ha.to (by kernel_rfl)⟩
               · replace h := itF hb h
                 refine sg ha 3 [(0, vS (some ⟨b1, o1, none⟩) p0 c_p0), (3, vS (some ⟨b3, o2, none⟩) (x1.set (Int.toNat x3) x3) c2), (4, vI x7), (5, vI x3), (6, vP b2), (7, vB x4.1), (9, vI (W (x3 - 1))), (109, vB (decide ((W (x3 - 1)) < 0)))] w6 fun a ha => ?_
                 obtain rfl := Option.some.inj h
                 exact ⟨_, rfl, rfl, ha.to (by kernel_rfl)⟩
             rintro a _ ⟨x9, rfl, rfl, ha⟩
             refine hK _ _ ?_
             clear hK
             refine cond_b ha rfl (fun hb => ?_) (fun hb => ?_)
             · replace h := itT hb h
               refine sq fun K hK => ?_
               refine reg ?_
               refine sg ha 1 [(2, .slice none 0 0)] w6 fun a ha => ?_
               refine hK _ _ ?_
               clear hK
               refine wp_ret ?_
               obtain rfl := Option.some.inj h
               replace h := hq4
               obtain rfl := Option.some.inj h
               refine ⟨_, rfl, rfl, ?_⟩
               show bodyPost Try.prog Try.f45 (R45 w S _) .ret a w6
               exact ret_1 (r1 := .tmp 2) (v1 := .slice none 0 0) ha rfl (.inl rfl) rfl ⟨_, rfl, cx.below, ⟨_, _, rfl, Ow.nil, (fun _ => rfl)⟩⟩
             · replace h := itF hb h
               refine wp_skip ?_
               refine hK _ _ ?_
               clear hK
               refine reg ?_
               refine sg ha 2 [(0, vS (some ⟨b1, o1, none⟩) p0 c_p0), (3, vS (some ⟨b3, o2, none⟩) (x1.set (Int.toNat x3) x3) c2), (4, vI x7), (5, vI x3), (6, vP b2), (7, vB x4.1), (110, vS (some ⟨b3, o2, none⟩) (x1.set (Int.toNat x3) x3) c2), (111, vI (W (x3 - 1)))] w6 fun a ha => ?_
               obtain ⟨hi3, h⟩ := ite_some h
               obtain ⟨cs3, hr3, hc3⟩ := f5.rdb.at hi3
               obtain rfl := hr3
               refine ov (vE b3 o2 (W (x3 - 1)) 1) ha (obx w6 rfl rfl rfl Try.underlying25 rfl hi3) fun a ha => ?_
               refine ov (vI (gt (x1.set (Int.toNat x3) x3) (W (x3 - 1)))) ha (ob_load w6 rfl rfl Try.underlying3 rfl ((cell_add1 _ _ _ _).trans (hc3 0 _ rfl))) fun a ha => ?_
               refine sg ha 2 [(0, vS (some ⟨b1, o1, none⟩) p0 c_p0), (3, vS (some ⟨b3, o2, none⟩) (x1.set (Int.toNat x3) x3) c2), (4, vI x7), (5, vI x3), (6, vP b2), (7, vB x4.1), (9, vI (W ((gt (x1.set (Int.toNat x3) x3) (W (x3 - 1))) - 1)))] w6 fun a ha => ?_
               obtain rfl := Option.some.inj h
               exact ⟨_, rfl, rfl, ha.to (by kernel_rfl)⟩
           · replace h := itF hb h
             refine wp_skip ?_
             obtain rfl := Option.some.inj h
             exact ⟨_, rfl, rfl, ha.to (by kernel_rfl)⟩
         rintro a _ ⟨x8, rfl, rfl, ha⟩
         refine hK _ _ ?_
         clear hK
         refine sq fun K hK => ?_
         obtain ⟨q6, hj6, h⟩ := obind h
         refine wp_cutV (D := fun a w7 => ∃ x10 : List Int, ∃ (S4 : Off), ∃ (A4 : Option Addr) (c4 : Nat), .inl x10 = q6 ∧ Cx w nob S w7 S4 ∧ Sl tTerm w7.heap S4 (some ⟨b1, o1, none⟩) c_p0 p0 ∧ Ow (tInt .i64) 3 (Wr nob w) w7.heap S4 (vS A4 x10 c4) x10 ∧ Bx w7.heap S4 b2 42 [vI ((gt p0 x3).Kind), vI ((gt p0 x3).A), vI ((gt p0 x3).B), vI ((gt p0 x3).N), .int .u64 (gt ((gt p0 x3).Set) 0), .int .u64 (gt ((gt p0 x3).Set) 1), .int .u64 (gt ((gt p0 x3).Set) 2), .int .u64 (gt ((gt p0 x3).Set) 3)] ∧ Ag 183 [(0, vS (some ⟨b1, o1, none⟩) p0 c_p0), (3, vS A4 x10 c4), (4, vI x7), (5, vI x3), (6, vP b2)] a) ?_ ?_
         · have hq6 := h; clear h; have h := hj6
           refine sq fun K hK => ?_
           refine reg ?_
           refine sg ha 1 [(0, vS (some ⟨b1, o1, none⟩) p0 c_p0), (3, vS (some ⟨b3, o2, none⟩) (x1.set (Int.toNat x3) x3) c2), (4, vI x7), (5, vI x3), (6, vP b2), (9, vI x8), (115, vB x4.1)] w6 fun a ha => ?_
           refine hK _ _ ?_
           clear hK
           refine cond_b ha rfl (fun hb => ?_) (fun hb => ?_)
           · replace h := itT hb h
             refine sq fun K hK => ?_
             refine sq fun K hK => ?_
             obtain ⟨q7, hj7, h⟩ := obind h
             refine wp_cutV (D := fun a w_ => ∃ x11 : Bool, x11 = q7 ∧ w6 = w_ ∧ Ag 183 [(0, vS (some ⟨b1, o1, none⟩) p0 c_p0), (3, vS (some ⟨b3, o2, none⟩) (x1.set (Int.toNat x3) x3) c2), (4, vI x7), (5, vI x3), (6, vP b2), (9, vI x8), (123, vB x11)] a) ?_ ?_
             · clear h; have h := hj7
               refine reg ?_
               refine sg ha 1 [(0, vS (some ⟨b1, o1, none⟩) p0 c_p0), (3, vS (some ⟨b3, o2, none⟩) (x1.set (Int.toNat x3) x3) c2), (4, vI x7), (5, vI x3), (6, vP b2), (9, vI x8), (116, vF b2 1)] w6 fun a ha => ?_
               refine ov (.int .i64 ((gt p0 x3).A)) ha (ob_load w6 rfl rfl Try.underlying3 rfl ((cell_add1 _ _ _ _).trans (by rw [Nat.zero_add]; exact f4.cell 1 _ rfl))) fun a ha => ?_
               refine sg ha 3 [(0, vS (some ⟨b1, o1, none⟩) p0 c_p0), (3, vS (some ⟨b3, o2, none⟩) (x1.set (Int.toNat x3) x3) c2), (4, vI x7), (5, vI x3), (6, vP b2), (9, vI x8), (120, vB (((gt p0 x3).A) != x8))] w6 fun a ha => ?_
               refine split_b (t := 120) ha rfl (fun hb ha => ?_) (fun hb ha => ?_)
               · replace h := itT hb h
                 refine sg ha 3 [(0, vS (some ⟨b1, o1, none⟩) p0 c_p0), (3, vS (some ⟨b3, o2, none⟩) (x1.set (Int.toNat x3) x3) c2), (4, vI x7), (5, vI x3), (6, vP b2), (9, vI x8), (123, vB true)] w6 fun a ha => ?_
                 obtain rfl := Option.some.inj h
                 exact ⟨_, rfl, rfl, ha.to (by kernel_rfl)⟩
               · replace h := itF hb h
                 refine sg ha 3 [(0, vS (some ⟨b1, o1, none⟩) p0 c_p0), (3, vS (some ⟨b3, o2, none⟩) (x1.set (Int.toNat x3) x3) c2), (4, vI x7), (5, vI x3), (6, vP b2), (9, vI x8), (123, vB (decide (x8 < 0)))] w6 fun a ha => ?_
                 obtain rfl := Option.some.inj h
                 exact ⟨_, rfl, rfl, ha.to (by kernel_rfl)⟩
             rintro a _ ⟨x11, rfl, rfl, ha⟩
             refine hK _ _ ?_
             clear hK
             refine cond_b ha rfl (fun hb => ?_) (fun hb => ?_)
             · replace h := itT hb h
               refine sq fun K hK => ?_
               refine reg ?_
               refine sg ha 1 [(2, .slice none 0 0)] w6 fun a ha => ?_
               refine hK _ _ ?_
               clear hK
               refine wp_ret ?_
               obtain rfl := Option.some.inj h
               replace h := hq6
               obtain rfl := Option.some.inj h
               refine ⟨_, rfl, rfl, ?_⟩
               show bodyPost Try.prog Try.f45 (R45 w S _) .ret a w6
               exact ret_1 (r1 := .tmp 2) (v1 := .slice none 0 0) ha rfl (.inl rfl) rfl ⟨_, rfl, cx.below, ⟨_, _, rfl, Ow.nil, (fun _ => rfl)⟩⟩
             · replace h := itF hb h
               refine wp_skip ?_
               refine hK _ _ ?_
               clear hK
               refine reg ?_
               refine sg ha 4 [(0, vS (some ⟨b1, o1, none⟩) p0 c_p0), (3, vS (some ⟨b3, o2, none⟩) (x1.set (Int.toNat x3) x3) c2), (4, vI x7), (5, vI x3), (6, vP b2), (124, vS (some ⟨b3, o2, none⟩) (x1.set (Int.toNat x3) x3) c2), (125, vI x3), (126, vS (some ⟨b3, o2, none⟩) (x1.set (Int.toNat x3) x3) c2), (127, vI x8)] w6 fun a ha => ?_
               obtain ⟨hi4, h⟩ := ite_some h
               obtain ⟨cs4, hr4, hc4⟩ := f5.rdb.at hi4
               obtain rfl := hr4
               refine ov (vE b3 o2 x8 1) ha (obx w6 rfl rfl rfl Try.underlying25 rfl hi4) fun a ha => ?_
               refine ov (vI (gt (x1.set (Int.toNat x3) x3) x8)) ha (ob_load w6 rfl rfl Try.underlying3 rfl ((cell_add1 _ _ _ _).trans (hc4 0 _ rfl))) fun a ha => ?_
               obtain ⟨hi5, h⟩ := ite_some h
               obtain ⟨cs5, hr5, hc5⟩ := f5.rdb.at hi5
               obtain rfl := hr5
               refine ov (vE b3 o2 x3 1) ha (obx w6 rfl rfl rfl Try.underlying25 rfl hi5) fun a ha => ?_
               refine op_setEl (T := (tInt .i64)) (f := 0) (x' := (gt (x1.set (Int.toNat x3) x3) x8)) ha cx (by kernel_rfl) rfl rfl rfl wr_id f5 hi5 (by kernel_rfl) (add1_eq _ _ _) (by kernel_rfl) (by rintro H2 _ _ rfl; rfl) ?_
               intro w8 cx on2 kp3 f7 a ha
               replace h_p0 := h_p0.keep kp3
               replace f4 := f4.keep kp3
               have hl3 : (((x1.set (Int.toNat x3) x3).set (Int.toNat x3) (gt (x1.set (Int.toNat x3) x3) x8))).length = (x1.set (Int.toNat x3) x3).length := List.length_set
               replace ha : Ag 183 [(0, .slice (some ⟨b1, o1, none⟩) p0.length c_p0), (3, .slice (some ⟨b3, o2, none⟩) ((x1.set (Int.toNat x3) x3).set (Int.toNat x3) (gt (x1.set (Int.toNat x3) x3) x8)).length c2), (4, .int .i64 x7), (5, .int .i64 x3), (6, .pointer (some ⟨b2, 0, none⟩))] a := by rw [hl3]; exact ha.to (by kernel_rfl)
               replace f7 : Ow (tInt .i64) 3 (Wr nob w) w8.heap S2 (.slice (some ⟨b3, o2, none⟩) ((x1.set (Int.toNat x3) x3).set (Int.toNat x3) (gt (x1.set (Int.toNat x3) x3) x8)).length c2) ((x1.set (Int.toNat x3) x3).set (Int.toNat x3) (gt (x1.set (Int.toNat x3) x3) x8)) := by rw [hl3]; exact f7
               obtain rfl := Option.some.inj h
               exact ⟨_, _, (some ⟨b3, o2, none⟩), c2, rfl, cx, h_p0, f7, f4, ha.to (by kernel_rfl)⟩
           · replace h := itF hb h
             refine wp_skip ?_
             obtain rfl := Option.some.inj h
             exact ⟨_, _, (some ⟨b3, o2, none⟩), c2, rfl, cx, h_p0, f5, f4, ha.to (by kernel_rfl)⟩
         rintro a w7 ⟨x10, S4, A4, c4, rfl, cx, h_p0, f6, f4, ha⟩
         refine hK _ _ ?_
         clear hK
         refine sq fun K hK => ?_
         refine reg ?_
         refine sg ha 2 [(0, vS (some ⟨b1, o1, none⟩) p0 c_p0), (3, vS A4 x10 c4), (4, vI x7), (5, vI x3), (6, vP b2), (131, vS A4 x10 c4), (132, vI x3)] w7 fun a ha => ?_
         obtain ⟨hi6, h⟩ := ite_some h
         obtain ⟨b4, o3, cs6, rfl, hr6, hc6⟩ := f6.rdb.get hi6
         obtain rfl := hr6
         refine ov (vE b4 o3 x3 1) ha (obx w7 rfl rfl rfl Try.underlying25 rfl hi6) fun a ha => ?_
         refine ov (vI (gt x10 x3)) ha (ob_load w7 rfl rfl Try.underlying3 rfl ((cell_add1 _ _ _ _).trans (hc6 0 _ rfl))) fun a ha => ?_
         refine sg ha 1 [(0, vS (some ⟨b1, o1, none⟩) p0 c_p0), (3, vS (some ⟨b4, o3, none⟩) x10 c4), (4, vI x7), (5, vI x3), (6, vP b2), (10, vI (gt x10 x3))] w7 fun a ha => ?_
         refine hK _ _ ?_
         clear hK
         refine wp_block ?_
         obtain ⟨t2, ht2, h⟩ := obind h
         refine wp_mono (wp_iter (step := (m_ref10_lows_l2 fuel p0 x10 x7 x3)) (I := fun (s : Int) a w9 => match s with | x12 => ∃ (S5 : Off), Cx w nob S w9 S5 ∧ Sl tTerm w9.heap S5 (some ⟨b1, o1, none⟩) c_p0 p0 ∧ Ow (tInt .i64) 3 (Wr nob w) w9.heap S5 (vS (some ⟨b4, o3, none⟩) x10 c4) x10 ∧ Bx w9.heap S5 b2 42 [vI ((gt p0 x3).Kind), vI ((gt p0 x3).A), vI ((gt p0 x3).B), vI ((gt p0 x3).N), .int .u64 (gt ((gt p0 x3).Set) 0), .int .u64 (gt ((gt p0 x3).Set) 1), .int .u64 (gt ((gt p0 x3).Set) 2), .int .u64 (gt ((gt p0 x3).Set) 3)] ∧ Ag 183 [(0, vS (some ⟨b1, o1, none⟩) p0 c_p0), (3, vS (some ⟨b4, o3, none⟩) x10 c4), (4, vI x7), (5, vI x3), (6, vP b2), (10, vI x12)] a) (D := fun (t : (Unit) ⊕ ((List Int))) e a w10 => match t with | .inl () => e = .exit 2 ∧ ∃ (S6 : Off), Cx w nob S w10 S6 ∧ Sl tTerm w10.heap S6 (some ⟨b1, o1, none⟩) c_p0 p0 ∧ Ow (tInt .i64) 3 (Wr nob w) w10.heap S6 (vS (some ⟨b4, o3, none⟩) x10 c4) x10 ∧ Ag 183 [(0, vS (some ⟨b1, o1, none⟩) p0 c_p0), (3, vS (some ⟨b4, o3, none⟩) x10 c4), (4, vI x7), (5, vI x3)] a | .inr r => e = .ret ∧ bodyPost Try.prog Try.f45 (R45 w S r) .ret a w10) ?_ fuel _ t2 a _ ht2 ?_) ?_
         · clear h ht2
           rintro x12 ct a w9 ⟨S5, cx, h_p0, f6, f4, ha⟩ h
           refine with_nop (NoP.loop (fun t c a w h => by cases t <;> exact absurd h.1 (by simp))) (fun hq => ?_)
           unfold m_ref10_lows_l2 at h
           refine sq fun K hK => ?_
           refine sq fun K hK => ?_
           refine reg ?_
           refine sg ha 3 [(0, vS (some ⟨b1, o1, none⟩) p0 c_p0), (3, vS (some ⟨b4, o3, none⟩) x10 c4), (4, vI x7), (5, vI x3), (6, vP b2), (10, vI x12), (137, vB (decide (x12 < x3)))] w9 fun a ha => ?_
           refine hK _ _ ?_
           clear hK
           refine cond_b ha rfl (fun hb => ?_) (fun hb => ?_)
           · replace h := itT hb h
             refine wp_skip ?_
             refine hK _ _ ?_
             clear hK
             refine sq fun K hK => ?_
             refine wp_block ?_
             refine sq fun K hK => ?_
             obtain ⟨q8, hj8, h⟩ := obind h
             refine wp_cutV (D := fun a w11 => ∃ x13 : Bool, ∃ (S7 : Off), x13 = q8 ∧ Cx w nob S w11 S7 ∧ Sl tTerm w11.heap S7 (some ⟨b1, o1, none⟩) c_p0 p0 ∧ Ow (tInt .i64) 3 (Wr nob w) w11.heap S7 (vS (some ⟨b4, o3, none⟩) x10 c4) x10 ∧ Bx w11.heap S7 b2 42 [vI ((gt p0 x3).Kind), vI ((gt p0 x3).A), vI ((gt p0 x3).B), vI ((gt p0 x3).N), .int .u64 (gt ((gt p0 x3).Set) 0), .int .u64 (gt ((gt p0 x3).Set) 1), .int .u64 (gt ((gt p0 x3).Set) 2), .int .u64 (gt ((gt p0 x3).Set) 3)] ∧ Ag 183 [(0, vS (some ⟨b1, o1, none⟩) p0 c_p0), (3, vS (some ⟨b4, o3, none⟩) x10 c4), (4, vI x7), (5, vI x3), (6, vP b2), (10, vI x12), (160, vB x13)] a) ?_ ?_
             · clear h; have h := hj8
               refine dr_start 21 S5 rfl ?_
               intro w12 e1 hb4
               replace h_p0 := h_p0.keep (Keep.ext S5 hb4)
               replace f6 := f6.ext hb4
               replace f4 := f4.keep (Keep.ext S5 hb4)
               replace cx := cx.ext hb4
               refine dk 0 (vF b2 0) ha hq rfl (Sd.start _ _ _ _) fun hsx a ha => ?_
               refine dv 1 (.int .i64 ((gt p0 x3).Kind)) ha hq rfl (fun w2 hw2 hw3 => ob_load w2 rfl rfl Try.underlying3 rfl ((cell_add1 _ _ _ _).trans (by rw [Nat.zero_add]; exact Sold.cell (hw3 (by kernel_rfl)) (f4.cell 0 _ rfl)))) hsx fun hsx a ha => ?_
               refine dk 2 (vB (((gt p0 x3).Kind) == 7)) ha hq rfl hsx fun hsx a ha => ?_
               refine dk 3 (vB (((gt p0 x3).Kind) == 7)) ha hq rfl hsx fun hsx a ha => ?_
               refine split_b (t := 143) ha rfl (fun hb ha => ?_) (fun hb ha => ?_)
               · replace h := itT hb h
                 refine dk 4 (vS (some ⟨b1, o1, none⟩) p0 c_p0) ha hq rfl hsx fun hsx a ha => ?_
                 refine dk 5 (vI x12) ha hq rfl hsx fun hsx a ha => ?_
                 obtain ⟨hi7, h⟩ := ite_some h
                 obtain ⟨cs7, hr7, hc7⟩ := h_p0.rdb.at hi7
                 obtain ⟨rfl, hl4⟩ := hr7
                 refine dv 6 (vE b1 o1 x12 8) ha hq rfl (fun w2 hw2 hw3 => obx w2 rfl rfl rfl Try.underlying22 rfl hi7) hsx fun hsx a ha => ?_
                 refine dk 7 (.pointer (some (((⟨b1, o1, none⟩ : Addr).add (x12.toNat * 8)).add 0))) ha hq rfl hsx fun hsx a ha => ?_
                 refine dv 8 (vI ((gt p0 x12).Kind)) ha hq rfl (fun w2 hw2 hw3 => ob_load w2 rfl rfl Try.underlying3 rfl ((cell_add2 _ _ _ _ _).trans (Sold.cell (hw3 (by kernel_rfl)) (hc7 0 _ rfl)))) hsx fun hsx a ha => ?_
                 refine dk 9 (vB (((gt p0 x12).Kind) == 7)) ha hq rfl hsx fun hsx a ha => ?_
                 refine dk 10 (vB (((gt p0 x12).Kind) == 7)) ha hq rfl hsx fun hsx a ha => ?_
                 refine dk 11 (vB (((gt p0 x12).Kind) == 7)) ha hq rfl hsx fun hsx a ha => ?_
                 refine split_b (t := 151) ha rfl (fun hb ha => ?_) (fun hb ha => ?_)
                 · replace h := itT hb h
                   refine dk 12 (vS (some ⟨b1, o1, none⟩) p0 c_p0) ha hq rfl hsx fun hsx a ha => ?_
                   refine dk 13 (vI x12) ha hq rfl hsx fun hsx a ha => ?_
                   obtain ⟨hi8, h⟩ := ite_some h
                   obtain ⟨cs8, hr8, hc8⟩ := h_p0.rdb.at hi8
                   obtain ⟨rfl, hl5⟩ := hr8
                   refine dv 14 (vE b1 o1 x12 8) ha hq rfl (fun w2 hw2 hw3 => obx w2 rfl rfl rfl Try.underlying22 rfl hi8) hsx fun hsx a ha => ?_
                   refine dk 15 (.pointer (some (((⟨b1, o1, none⟩ : Addr).add (x12.toNat * 8)).add 3))) ha hq rfl hsx fun hsx a ha => ?_
                   refine dv 16 (vI ((gt p0 x12).N)) ha hq rfl (fun w2 hw2 hw3 => ob_load w2 rfl rfl Try.underlying3 rfl ((cell_add2 _ _ _ _ _).trans (Sold.cell (hw3 (by kernel_rfl)) (hc8 3 _ rfl)))) hsx fun hsx a ha => ?_
                   refine dk 17 (vF b2 3) ha hq rfl hsx fun hsx a ha => ?_
                   refine dv 18 (.int .i64 ((gt p0 x3).N)) ha hq rfl (fun w2 hw2 hw3 => ob_load w2 rfl rfl Try.underlying3 rfl ((cell_add1 _ _ _ _).trans (by rw [Nat.zero_add]; exact Sold.cell (hw3 (by kernel_rfl)) (f4.cell 3 _ rfl)))) hsx fun hsx a ha => ?_
                   refine dk 19 (vB (((gt p0 x12).N) == ((gt p0 x3).N))) ha hq rfl hsx fun hsx a ha => ?_
                   refine dk 20 (vB (((gt p0 x12).N) == ((gt p0 x3).N))) ha hq rfl hsx fun hsx a ha => ?_
                   refine dr_done (by kernel_rfl) ?_
                   replace ha := ha.to (l' := [(0, vS (some ⟨b1, o1, none⟩) p0 c_p0), (3, vS (some ⟨b4, o3, none⟩) x10 c4), (4, vI x7), (5, vI x3), (6, vP b2), (10, vI x12), (160, vB (((gt p0 x12).N) == ((gt p0 x3).N)))]) (by kernel_rfl)
                   obtain rfl := Option.some.inj h
                   exact ⟨_, _, rfl, cx, h_p0, f6, f4, ha.to (by kernel_rfl)⟩
                 · replace h := itF hb h
                   refine dof 12 ha hq rfl hsx fun hsx a ha => ?_
                   refine dof 13 ha hq rfl hsx fun hsx a ha => ?_
                   refine dof 14 ha hq rfl hsx fun hsx a ha => ?_
                   refine dof 15 ha hq rfl hsx fun hsx a ha => ?_
                   refine dof 16 ha hq rfl hsx fun hsx a ha => ?_
                   refine dof 17 ha hq rfl hsx fun hsx a ha => ?_
                   refine dof 18 ha hq rfl hsx fun hsx a ha => ?_
                   refine dof 19 ha hq rfl hsx fun hsx a ha => ?_
                   refine dk 20 (vB false) ha hq rfl hsx fun hsx a ha => ?_
                   refine dr_done (by kernel_rfl) ?_
                   replace ha := ha.to (l' := [(0, vS (some ⟨b1, o1, none⟩) p0 c_p0), (3, vS (some ⟨b4, o3, none⟩) x10 c4), (4, vI x7), (5, vI x3), (6, vP b2), (10, vI x12), (160, vB false)]) (by kernel_rfl)
                   obtain rfl := Option.some.inj h
                   exact ⟨_, _, rfl, cx, h_p0, f6, f4, ha.to (by kernel_rfl)⟩
               · replace h := itF hb h
                 refine dof 4 ha hq rfl hsx fun hsx a ha => ?_
                 refine dof 5 ha hq rfl hsx fun hsx a ha => ?_
                 refine dof 6 ha hq rfl hsx fun hsx a ha => ?_
                 refine dof 7 ha hq rfl hsx fun hsx a ha => ?_
                 refine dof 8 ha hq rfl hsx fun hsx a ha => ?_
                 refine dof 9 ha hq rfl hsx fun hsx a ha => ?_
                 refine dk 10 (vB false) ha hq rfl hsx fun hsx a ha => ?_
                 refine dk 11 (vB false) ha hq rfl hsx fun hsx a ha => ?_
                 refine dof 12 ha hq rfl hsx fun hsx a ha => ?_
                 refine dof 13 ha hq rfl hsx fun hsx a ha => ?_
                 refine dof 14 ha hq rfl hsx fun hsx a ha => ?_
                 refine dof 15 ha hq rfl hsx fun hsx a ha => ?_
                 refine dof 16 ha hq rfl hsx fun hsx a ha => ?_
                 refine dof 17 ha hq rfl hsx fun hsx a ha => ?_
                 refine dof 18 ha hq rfl hsx fun hsx a ha => ?_
                 refine dof 19 ha hq rfl hsx fun hsx a ha => ?_
                 refine dk 20 (vB false) ha hq rfl hsx fun hsx a ha => ?_
                 refine dr_done (by kernel_rfl) ?_
                 replace ha := ha.to (l' := [(0, vS (some ⟨b1, o1, none⟩) p0 c_p0), (3, vS (some ⟨b4, o3, none⟩) x10 c4), (4, vI x7), (5, vI x3), (6, vP b2), (10, vI x12), (160, vB false)]) (by kernel_rfl)
                 obtain rfl := Option.some.inj h
                 exact ⟨_, _, rfl, cx, h_p0, f6, f4, ha.to (by kernel_rfl)⟩
             rintro a w11 ⟨x13, S7, rfl, cx, h_p0, f6, f4, ha⟩
             refine hK _ _ ?_
             clear hK
             refine cond_b ha rfl (fun hb => ?_) (fun hb => ?_)
             · replace h := itT hb h
               refine sq fun K hK => ?_
               refine reg ?_
               refine sg ha 1 [(2, .slice none 0 0)] w11 fun a ha => ?_
               refine hK _ _ ?_
               clear hK
               refine wp_ret ?_
               obtain rfl := Option.some.inj h
               refine ⟨_, rfl, rfl, ?_⟩
               show bodyPost Try.prog Try.f45 (R45 w S _) .ret a w11
               exact ret_1 (r1 := .tmp 2) (v1 := .slice none 0 0) ha rfl (.inl rfl) rfl ⟨_, rfl, cx.below, ⟨_, _, rfl, Ow.nil, (fun _ => rfl)⟩⟩
             · replace h := itF hb h
               refine wp_skip ?_
               refine hK _ _ ?_
               clear hK
               refine reg ?_
               refine sg ha 3 [(0, vS (some ⟨b1, o1, none⟩) p0 c_p0), (3, vS (some ⟨b4, o3, none⟩) x10 c4), (4, vI x7), (5, vI x3), (6, vP b2), (10, vI (W (x12 + 1)))] w11 fun a ha => ?_
               obtain rfl := Option.some.inj h
               exact ⟨_, rfl, S7, cx, h_p0, f6, f4, ha.to (by kernel_rfl)⟩
           · replace h := itF hb h
             refine wp_exit ?_
             obtain rfl := Option.some.inj h
             exact ⟨_, rfl, rfl, S5, cx, h_p0, f6, ha.to (by kernel_rfl)⟩
         · exact ⟨S4, cx, h_p0, f6, f4, ha.to (by kernel_rfl)⟩
         intro e a w10 hd
         cases t2 with
         | inr r1 =>
          obtain ⟨rfl, hd⟩ := hd
          obtain rfl := Option.some.inj h
          exact ⟨_, rfl, rfl, hd⟩
         | inl oo1 =>
          obtain ⟨rfl, S6, cx, h_p0, f6, ha⟩ := hd
          refine hK _ _ ?_
          clear hK
          refine reg ?_
          refine sg ha 3 [(0, vS (some ⟨b1, o1, none⟩) p0 c_p0), (3, vS (some ⟨b4, o3, none⟩) x10 c4), (4, vI x7), (5, vI (W (x3 + 1)))] w10 fun a ha => ?_
          obtain rfl := Option.some.inj h
          exact ⟨_, rfl, S6, (some ⟨b4, o3, none⟩), c4, cx, h_p0, f6, ha.to (by kernel_rfl)⟩
   · replace h := itF hb h
     refine wp_exit ?_
     obtain rfl := Option.some.inj h
     exact ⟨_, rfl, rfl, S2, A2, c2, cx, h_p0, f2, ha.to (by kernel_rfl)⟩
 · exact ⟨S1, A1, c1, cx, h_p0, f1, ha.to (by kernel_rfl)⟩
 intro e a w3 hd
 cases t1 with
 | inr r1 =>
  obtain ⟨rfl, hd⟩ := hd
  obtain rfl := Option.some.inj h
  exact hd
 | inl oo2 =>
  obtain ⟨y1, y2⟩ := oo2
  obtain ⟨rfl, S3, A3, c3, cx, h_p0, f3, ha⟩ := hd
  refine hK _ _ ?_
  clear hK
  refine sq fun K hK => ?_
  refine sq fun K hK => ?_
  obtain ⟨q9, hj9, h⟩ := obind h
  refine wp_cutV (D := fun a w_ => ∃ x14 : Bool, x14 = q9 ∧ w3 = w_ ∧ Ag 183 [(3, vS A3 y1 c3), (181, vB x14)] a) ?_ ?_
  · clear h; have h := hj9
    refine reg ?_
    refine sg ha 4 [(0, vS A_p0 p0 c_p0), (3, vS A3 y1 c3), (4, vI y2), (164, vB ((p0.length : Int) == 0))] w3 fun a ha => ?_
    refine split_b (t := 164) ha rfl (fun hb ha => ?_) (fun hb ha => ?_)
    · replace h := itT hb h
      refine sg ha 17 [(3, vS A3 y1 c3), (181, vB true)] w3 fun a ha => ?_
      obtain rfl := Option.some.inj h
      exact ⟨_, rfl, rfl, ha.to (by kernel_rfl)⟩
    · replace h := itF hb h
      refine sg ha 5 [(0, vS A_p0 p0 c_p0), (3, vS A3 y1 c3), (4, vI y2), (169, vB (decide ((p0.length : Int) > 400)))] w3 fun a ha => ?_
      refine split_b (t := 169) ha rfl (fun hb ha => ?_) (fun hb ha => ?_)
      · replace h := itT hb h
        refine sg ha 12 [(3, vS A3 y1 c3), (181, vB true)] w3 fun a ha => ?_
        obtain rfl := Option.some.inj h
        exact ⟨_, rfl, rfl, ha.to (by kernel_rfl)⟩
      · replace h := itF hb h
        refine sg ha 4 [(0, vS A_p0 p0 c_p0), (3, vS A3 y1 c3), (173, vB (decide (y2 > 64)))] w3 fun a ha => ?_
        refine split_b (t := 173) ha rfl (fun hb ha => ?_) (fun hb ha => ?_)
        · replace h := itT hb h
          refine sg ha 8 [(3, vS A3 y1 c3), (181, vB true)] w3 fun a ha => ?_
          obtain rfl := Option.some.inj h
          exact ⟨_, rfl, rfl, ha.to (by kernel_rfl)⟩
        · replace h := itF hb h
          refine sg ha 4 [(3, vS A3 y1 c3), (173, vB false), (174, vS A3 y1 c3), (177, vI (W ((p0.length : Int) - 1)))] w3 fun a ha => ?_
          obtain ⟨hi9, h⟩ := ite_some h
          obtain ⟨b5, o4, cs9, rfl, hr9, hc9⟩ := f3.rdb.get hi9
          obtain rfl := hr9
          refine ov (vE b5 o4 (W ((p0.length : Int) - 1)) 1) ha (obx w3 rfl rfl rfl Try.underlying25 rfl hi9) fun a ha => ?_
          refine ov (vI (gt y1 (W ((p0.length : Int) - 1)))) ha (ob_load w3 rfl rfl Try.underlying3 rfl ((cell_add1 _ _ _ _).trans (hc9 0 _ rfl))) fun a ha => ?_
          refine sg ha 2 [(3, vS (some ⟨b5, o4, none⟩) y1 c3), (181, vB ((gt y1 (W ((p0.length : Int) - 1))) != 0))] w3 fun a ha => ?_
          obtain rfl := Option.some.inj h
          exact ⟨_, rfl, rfl, ha.to (by kernel_rfl)⟩
  rintro a _ ⟨x14, rfl, rfl, ha⟩
  refine hK _ _ ?_
  clear hK
  refine cond_b ha rfl (fun hb => ?_) (fun hb => ?_)
  · replace h := itT hb h
    refine sq fun K hK => ?_
    refine reg ?_
    refine sg ha 1 [(2, .slice none 0 0)] w3 fun a ha => ?_
    refine hK _ _ ?_
    clear hK
    refine wp_ret ?_
    obtain rfl := Option.some.inj h
    show bodyPost Try.prog Try.f45 (R45 w S _) .ret a w3
    exact ret_1 (r1 := .tmp 2) (v1 := .slice none 0 0) ha rfl (.inl rfl) rfl ⟨_, rfl, cx.below, ⟨_, _, rfl, Ow.nil, (fun _ => rfl)⟩⟩
  · replace h := itF hb h
    refine wp_skip ?_
    refine hK _ _ ?_
    clear hK
    refine sq fun K hK => ?_
    refine reg ?_
    refine sg ha 2 [(2, vS A3 y1 c3)] w3 fun a ha => ?_
    refine hK _ _ ?_
    clear hK
    refine wp_ret ?_
    obtain ⟨hnn, h⟩ := ite_some h
    obtain rfl := Option.some.inj h
    show bodyPost Try.prog Try.f45 (R45 w S _) .ret a w3
    exact ret_1 (r1 := .tmp 2) (v1 := vS A3 y1 c3) ha rfl (.inl rfl) rfl ⟨_, rfl, cx.below, ⟨_, _, rfl, f3.result cx.sub, (fun e => absurd e (nonE_ne hnn))⟩⟩
def post12 (w : World) (S : Off) (r : (Bool)) (v : Value) (w1 : World) : Prop := v = .bool r
abbrev R12 (w : World) (S : Off) (r : (Bool)) : Ending → World → Prop := fun e w1 => ∃ v, e = .returned v ∧ Below w.heap.size w w1 ∧ post12 w S r v w1
theorem ok12 (fuel : Nat) {w : World} {S : Off} (hS : ∀ b, S b → b < w.heap.size) {p0 : (List MTerm)} {A_p0 : Option Addr} {c_p0 : Nat} (h_p0 : Sl tTerm w.heap S A_p0 c_p0 p0) {r : (Bool)} (h : m_ref10_Right fuel p0 = some r) :
 Calls Try.prog 12 #[vS A_p0 p0 c_p0] w (R12 w S r) := by
 refine enterL (vs := [vS A_p0 p0 c_p0]) Try.func12 rfl rfl ?_
 intro a ha
 have cx := Cx.start (W0 := nob) hS
 refine with_nop (noP_body _ _) (fun hq => ?_)
 unfold m_ref10_Right at h
 refine sq fun K hK => ?_
 refine reg ?_
 refine sg ha 1 [(0, vS A_p0 p0 c_p0)] w fun a ha => ?_
 refine hK _ _ ?_
 clear hK
 refine sq fun K hK => ?_
 refine reg ?_
 refine sg ha 1 [(3, vS A_p0 p0 c_p0)] w fun a ha => ?_
 obtain ⟨x1, hx1, h⟩ := obind h
 refine op_call ha (by kernel_rfl) (f := 45) (args := #[vS A_p0 p0 c_p0]) (w' := w) (by kernel_rfl) (ok45 fuel (p0 := p0) cx.lt h_p0 hx1) ?_
 rintro v1 w1 ⟨hb1, hp1⟩ a ha
 obtain ⟨A1, c1, rfl, f1, hz1⟩ := hp1
 replace f1 := own_out cx f1
 replace cx := cx.ext hb1
 refine ov (vB (!(x1.isEmpty))) ha (ob_nilne w1 rfl rfl Try.underlying25 hz1 (rdb_some f1.rdb)) fun a ha => ?_
 refine sg ha 1 [(2, vB (!(x1.isEmpty)))] w1 fun a ha => ?_
 refine hK _ _ ?_
 clear hK
 refine wp_ret ?_
 obtain rfl := Option.some.inj h
 show bodyPost Try.prog Try.f12 (R12 w S _) .ret a w1
 exact ret_1 (r1 := .tmp 2) (v1 := vB (!(x1.isEmpty))) ha rfl (.inl rfl) rfl ⟨_, rfl, cx.below, rfl⟩
end Go.Proofs.Ytfhehbfifffipaa
