/- What the functions compute is what the program does. Its conditions: none. -/
import Derived.Test.YtfhehbfifffipaaVShort
import Derived.Test.YtfhehbfifffipaaTy
import Derived.Test.YtfhehbfifffipaaWaa
set_option maxRecDepth 20000
set_option autoImplicit false
namespace Go.Proofs.Ytfhehbfifffipaa
open Go.V Go.RowKit
set_option linter.unusedVariables false
def post78 (w : World) (S : Off) (r : ((List Bool))) (v : Value) (w1 : World) : Prop := ∃ (A : Option Addr) (c : Nat), v = .slice A r.length c ∧ Ow tBool 4 (Wr nob w) w1.heap (inV v S) v r
abbrev R78 (w : World) (S : Off) (r : ((List Bool))) : Ending → World → Prop := fun e w1 => ∃ v, e = .returned v ∧ Below w.heap.size w w1 ∧ post78 w S r v w1
theorem ok78 (fuel : Nat) {w : World} {S : Off} (hS : ∀ b, S b → b < w.heap.size) {p0 : (List MTerm)} {A_p0 : Option Addr} {c_p0 : Nat} (h_p0 : Sl tTerm w.heap S A_p0 c_p0 p0) {r : ((List Bool))} (h : m_null_Can fuel p0 = some r) :
 Calls Try.prog 78 #[vS A_p0 p0 c_p0] w (R78 w S r) := by
 refine enterL (vs := [vS A_p0 p0 c_p0]) Try.func78 rfl rfl ?_
 intro a ha
 have cx := Cx.start (W0 := nob) hS
 refine with_nop (noP_body _ _) (fun hq => ?_)
 unfold m_null_Can at h
 refine sq fun K hK => ?_
 refine reg ?_
 refine sg ha 1 [(0, vS A_p0 p0 c_p0)] w fun a ha => ?_
 refine hK _ _ ?_
 clear hK
 refine sq fun K hK => ?_
 refine sq fun K hK => ?_
 refine reg ?_
 refine sg ha 1 [(0, vS A_p0 p0 c_p0), (6, vS A_p0 p0 c_p0)] w fun a ha => ?_
 obtain ⟨x1, hx1, h⟩ := obind h
 refine op_call ha (by kernel_rfl) (f := 59) (args := #[vS A_p0 p0 c_p0]) (w' := w) (by kernel_rfl) (ok59 fuel (p0 := p0) cx.lt h_p0 hx1) ?_
 rintro v1 w1 ⟨hb1, hp1⟩ a ha
 obtain rfl := hp1
 replace h_p0 := h_p0.keep (Keep.ext S hb1)
 replace cx := cx.ext hb1
 refine sg ha 1 [(0, vS A_p0 p0 c_p0), (8, vB (!x1))] w1 fun a ha => ?_
 refine hK _ _ ?_
 clear hK
 refine cond_b ha rfl (fun hb => ?_) (fun hb => ?_)
 · replace h := itT hb h
   refine sq fun K hK => ?_
   refine reg ?_
   refine sg ha 1 [(2, .slice none 0 0)] w1 fun a ha => ?_
   refine hK _ _ ?_
   clear hK
   refine wp_ret ?_
   obtain rfl := Option.some.inj h
   show bodyPost Try.prog Try.f78 (R78 w S _) .ret a w1
   exact ret_1 (r1 := .tmp 2) (v1 := .slice none 0 0) ha rfl (.inl rfl) rfl ⟨_, rfl, cx.below, ⟨_, _, rfl, Ow.nil⟩⟩
 · replace h := itF hb h
   refine wp_skip ?_
   refine hK _ _ ?_
   clear hK
   refine sq fun K hK => ?_
   refine reg ?_
   refine sg ha 2 [(0, vS A_p0 p0 c_p0), (10, vI (p0.length : Int))] w1 fun a ha => ?_
   obtain ⟨hp2, h⟩ := ite_some h
   refine op_make (T := tBool) (z := vB false) (zx := false) (bytes := 1) ha cx (by kernel_rfl) rfl rfl rfl Try.underlying84 (by kernel_rfl) (by kernel_rfl) (fun _ _ => rfl) hp2 ?_
   intro w2 S1 A1 c1 cx hb2 kp1 hs1 hn1 f1 a ha
   replace h_p0 := h_p0.keep kp1
   refine sg ha 1 [(0, vS A_p0 p0 c_p0), (3, vS A1 (List.replicate (Int.toNat (p0.length : Int)) false) c1)] w2 fun a ha => ?_
   refine hK _ _ ?_
   clear hK
   refine sq fun K hK => ?_
   refine sq fun K hK => ?_
   refine reg ?_
   refine sg ha 3 [(3, vS A1 (List.replicate (Int.toNat (p0.length : Int)) false) c1), (12, vS A_p0 p0 c_p0), (13, vI (p0.length : Int)), (14, vI 0)] w2 fun a ha => ?_
   refine hK _ _ ?_
   clear hK
   refine wp_block ?_
   obtain ⟨t1, ht1, h⟩ := obind h
   refine wp_mono (wp_iter (step := (m_null_Can_l1 fuel p0)) (I := fun (s : List Bool × Int) a w3 => match s with | (x2, x3) => ∃ (S2 : Off), ∃ (A2 : Option Addr) (c2 : Nat), Cx w nob S w3 S2 ∧ Ow tBool 4 (Wr nob w) w3.heap S2 (vS A2 x2 c2) x2 ∧ Sl tTerm w3.heap S2 A_p0 c_p0 p0 ∧ Ag 75 [(3, vS A2 x2 c2), (12, vS A_p0 p0 c_p0), (13, vI (p0.length : Int)), (14, vI x3)] a) (D := fun (t : List Bool) e a w4 => match t with | y1 => e = .exit 0 ∧ ∃ (S3 : Off), ∃ (A3 : Option Addr) (c3 : Nat), Cx w nob S w4 S3 ∧ Ow tBool 4 (Wr nob w) w4.heap S3 (vS A3 y1 c3) y1 ∧ Ag 75 [(3, vS A3 y1 c3)] a) ?_ fuel _ t1 a _ ht1 ?_) ?_
   · clear h ht1
     rintro ⟨x2, x3⟩ ct a w3 ⟨S2, A2, c2, cx, f2, h_p0, ha⟩ h
     refine with_nop (NoP.loop (fun t c a w h => by cases t <;> exact absurd h.1 (by simp))) (fun hq => ?_)
     unfold m_null_Can_l1 at h
     refine sq fun K hK => ?_
     refine reg ?_
     refine sg ha 1 [(3, vS A2 x2 c2), (12, vS A_p0 p0 c_p0), (13, vI (p0.length : Int)), (14, vI x3), (15, vB (decide (x3 < (p0.length : Int))))] w3 fun a ha => ?_
     refine hK _ _ ?_
     clear hK
     refine sq fun K hK => ?_
     refine cond_b ha rfl (fun hb => ?_) (fun hb => ?_)
     · replace h := itT hb h
       refine wp_skip ?_
       refine hK _ _ ?_
       clear hK
       refine sq fun K hK => ?_
       obtain ⟨q1, hj1, h⟩ := obind h
       refine wp_cutV (D := fun a w5 => ∃ x4 : List Bool, ∃ (S4 : Off), ∃ (A4 : Option Addr) (c4 : Nat), x4 = q1 ∧ Cx w nob S w5 S4 ∧ Ow tBool 4 (Wr nob w) w5.heap S4 (vS A4 x4 c4) x4 ∧ Sl tTerm w5.heap S4 A_p0 c_p0 p0 ∧ Ag 75 [(3, vS A4 x4 c4), (12, vS A_p0 p0 c_p0), (13, vI (p0.length : Int)), (14, vI x3)] a) ?_ ?_
       · clear h; have h := hj1
         refine wp_block ?_
         refine sq fun K hK => ?_
         refine reg ?_
         refine sg ha 1 [(3, vS A2 x2 c2), (12, vS A_p0 p0 c_p0), (13, vI (p0.length : Int)), (14, vI x3), (16, vI x3)] w3 fun a ha => ?_
         obtain ⟨hi1, h⟩ := ite_some h
         obtain ⟨b1, o1, cs1, rfl, hr1, hc1⟩ := h_p0.rdb.get hi1
         obtain ⟨rfl, hl1⟩ := hr1
         refine ov (vE b1 o1 x3 8) ha (obx w3 rfl rfl rfl Try.underlying22 rfl hi1) fun a ha => ?_
         refine ov (.agg #[vI ((gt p0 x3).Kind), vI ((gt p0 x3).A), vI ((gt p0 x3).B), vI ((gt p0 x3).N), .int .u64 (gt ((gt p0 x3).Set) 0), .int .u64 (gt ((gt p0 x3).Set) 1), .int .u64 (gt ((gt p0 x3).Set) 2), .int .u64 (gt ((gt p0 x3).Set) 3)]) ha (ob_loadn (cs := [vI ((gt p0 x3).Kind), vI ((gt p0 x3).A), vI ((gt p0 x3).B), vI ((gt p0 x3).N), .int .u64 (gt ((gt p0 x3).Set) 0), .int .u64 (gt ((gt p0 x3).Set) 1), .int .u64 (gt ((gt p0 x3).Set) 2), .int .u64 (gt ((gt p0 x3).Set) 3)]) w3 rfl rfl Try.underlying42 rfl (by kernel_rfl) (fun j v hj => (cell_add2 _ _ _ _ _).trans (hc1 j v hj))) fun a ha => ?_
         refine op_new (V := fun b => vP b) (cs := [vI 0, vI 0, vI 0, vI 0, .int .u64 0, .int .u64 0, .int .u64 0, .int .u64 0]) (T := 42) ha (by kernel_rfl) (by kernel_rfl) ?_
         intro w6 b2 hb3 hk1 he1 _ a ha
         refine sg ha 1 [(3, vS A2 x2 c2), (4, vI x3), (5, vP b2), (12, vS (some ⟨b1, o1, none⟩) p0 c_p0), (13, vI (p0.length : Int)), (14, vI x3), (18, .agg #[vI ((gt p0 x3).Kind), vI ((gt p0 x3).A), vI ((gt p0 x3).B), vI ((gt p0 x3).N), .int .u64 (gt ((gt p0 x3).Set) 0), .int .u64 (gt ((gt p0 x3).Set) 1), .int .u64 (gt ((gt p0 x3).Set) 2), .int .u64 (gt ((gt p0 x3).Set) 3)])] w6 fun a ha => ?_
         refine op_setAll (vs := [vI ((gt p0 x3).Kind), vI ((gt p0 x3).A), vI ((gt p0 x3).B), vI ((gt p0 x3).N), .int .u64 (gt ((gt p0 x3).Set) 0), .int .u64 (gt ((gt p0 x3).Set) 1), .int .u64 (gt ((gt p0 x3).Set) 2), .int .u64 (gt ((gt p0 x3).Set) 3)]) (v := .agg #[vI ((gt p0 x3).Kind), vI ((gt p0 x3).A), vI ((gt p0 x3).B), vI ((gt p0 x3).N), .int .u64 (gt ((gt p0 x3).Set) 0), .int .u64 (gt ((gt p0 x3).Set) 1), .int .u64 (gt ((gt p0 x3).Set) 2), .int .u64 (gt ((gt p0 x3).Set) 3)]) ha (by kernel_rfl) rfl rfl rfl rfl hk1 (by kernel_rfl) (by kernel_rfl) ?_
         intro w7 on1 _ hk2 a ha
         have hb4 := var_done hb3 on1 he1
         have f5 := Bx.new cx hk2 he1
         replace f2 := f2.ext hb4
         replace h_p0 := h_p0.keep (Keep.ext S2 hb4)
         replace cx := cx.ext hb4
         refine hK _ _ ?_
         clear hK
         refine sq fun K hK => ?_
         refine reg ?_
         refine sg ha 1 [(3, vS A2 x2 c2), (4, vI x3), (5, vP b2), (12, vS (some ⟨b1, o1, none⟩) p0 c_p0), (13, vI (p0.length : Int)), (14, vI x3), (19, vF b2 0)] w7 fun a ha => ?_
         refine ov (.int .i64 ((gt p0 x3).Kind)) ha (ob_load w7 rfl rfl Try.underlying3 rfl ((cell_add1 _ _ _ _).trans (by rw [Nat.zero_add]; exact f5.cell 0 _ rfl))) fun a ha => ?_
         refine hK _ _ ?_
         clear hK
         obtain ⟨q2, hj2, h⟩ := obind h
         refine wp_cutV (D := fun a w8 => ∃ x5 : List Bool, ∃ (S5 : Off), ∃ (A5 : Option Addr) (c5 : Nat), x5 = q2 ∧ Cx w nob S w8 S5 ∧ Ow tBool 4 (Wr nob w) w8.heap S5 (vS A5 x5 c5) x5 ∧ Sl tTerm w8.heap S5 (some ⟨b1, o1, none⟩) c_p0 p0 ∧ Ag 75 [(3, vS A5 x5 c5), (12, vS (some ⟨b1, o1, none⟩) p0 c_p0), (13, vI (p0.length : Int)), (14, vI x3)] a) ?_ ?_
         · clear h; have h := hj2
           refine wp_block ?_
           refine sq fun K hK => ?_
           obtain ⟨q3, hj3, h⟩ := obind h
           refine wp_cutV (D := fun a w_ => ∃ x6 : Bool, x6 = q3 ∧ w7 = w_ ∧ Ag 75 [(3, vS A2 x2 c2), (4, vI x3), (5, vP b2), (12, vS (some ⟨b1, o1, none⟩) p0 c_p0), (13, vI (p0.length : Int)), (14, vI x3), (20, vI ((gt p0 x3).Kind)), (21, vB x6)] a) ?_ ?_
           · clear h; have h := hj3
             refine sq fun K hK => ?_
             refine reg ?_
             refine sg ha 2 [(3, vS A2 x2 c2), (4, vI x3), (5, vP b2), (12, vS (some ⟨b1, o1, none⟩) p0 c_p0), (13, vI (p0.length : Int)), (14, vI x3), (20, vI ((gt p0 x3).Kind)), (21, vB (((gt p0 x3).Kind) == 1))] w7 fun a ha => ?_
             refine hK _ _ ?_
             clear hK
             refine cond_b ha rfl (fun hb => ?_) (fun hb => ?_)
             · replace h := itT hb h
               refine wp_skip ?_
               obtain rfl := Option.some.inj h
               exact ⟨_, rfl, rfl, ha.to (by kernel_rfl)⟩
             · replace h := itF hb h
               refine sq fun K hK => ?_
               refine reg ?_
               refine sg ha 2 [(3, vS A2 x2 c2), (4, vI x3), (5, vP b2), (12, vS (some ⟨b1, o1, none⟩) p0 c_p0), (13, vI (p0.length : Int)), (14, vI x3), (20, vI ((gt p0 x3).Kind)), (21, vB (((gt p0 x3).Kind) == 5))] w7 fun a ha => ?_
               refine hK _ _ ?_
               clear hK
               refine cond_b ha rfl (fun hb => ?_) (fun hb => ?_)
               · replace h := itT hb h
                 refine wp_skip ?_
                 obtain rfl := Option.some.inj h
                 exact ⟨_, rfl, rfl, ha.to (by kernel_rfl)⟩
               · replace h := itF hb h
                 refine reg ?_
                 refine sg ha 2 [(3, vS A2 x2 c2), (4, vI x3), (5, vP b2), (12, vS (some ⟨b1, o1, none⟩) p0 c_p0), (13, vI (p0.length : Int)), (14, vI x3), (20, vI ((gt p0 x3).Kind)), (21, vB (((gt p0 x3).Kind) == 6))] w7 fun a ha => ?_
                 obtain rfl := Option.some.inj h
                 exact ⟨_, rfl, rfl, ha.to (by kernel_rfl)⟩
           rintro a _ ⟨x6, rfl, rfl, ha⟩
           refine hK _ _ ?_
           clear hK
           refine cond_b ha rfl (fun hb => ?_) (fun hb => ?_)
           · replace h := itT hb h
             refine reg ?_
             refine sg ha 2 [(3, vS A2 x2 c2), (12, vS (some ⟨b1, o1, none⟩) p0 c_p0), (13, vI (p0.length : Int)), (14, vI x3), (25, vS A2 x2 c2), (26, vI x3)] w7 fun a ha => ?_
             obtain ⟨hi2, h⟩ := ite_some h
             obtain ⟨b3, o2, cs2, rfl, hr2, hc2⟩ := f2.rdb.get hi2
             obtain rfl := hr2
             refine ov (vE b3 o2 x3 1) ha (obx w7 rfl rfl rfl Try.underlying84 rfl hi2) fun a ha => ?_
             refine op_setEl (T := tBool) (f := 0) (x' := true) ha cx (by kernel_rfl) rfl rfl rfl wr_id f2 hi2 (by kernel_rfl) (add1_eq _ _ _) (by kernel_rfl) (by rintro H2 _ _ rfl; rfl) ?_
             intro w9 cx on2 kp2 f7 a ha
             replace h_p0 := h_p0.keep kp2
             have hl2 : ((x2.set (Int.toNat x3) true)).length = x2.length := List.length_set
             replace ha : Ag 75 [(3, .slice (some ⟨b3, o2, none⟩) (x2.set (Int.toNat x3) true).length c2), (12, .slice (some ⟨b1, o1, none⟩) p0.length c_p0), (13, .int .i64 (p0.length : Int)), (14, .int .i64 x3)] a := by rw [hl2]; exact ha.to (by kernel_rfl)
             replace f7 : Ow tBool 4 (Wr nob w) w9.heap S2 (.slice (some ⟨b3, o2, none⟩) (x2.set (Int.toNat x3) true).length c2) (x2.set (Int.toNat x3) true) := by rw [hl2]; exact f7
             obtain rfl := Option.some.inj h
             exact ⟨_, _, (some ⟨b3, o2, none⟩), c2, rfl, cx, f7, h_p0, ha.to (by kernel_rfl)⟩
           · replace h := itF hb h
             refine sq fun K hK => ?_
             refine reg ?_
             refine sg ha 2 [(3, vS A2 x2 c2), (4, vI x3), (5, vP b2), (12, vS (some ⟨b1, o1, none⟩) p0 c_p0), (13, vI (p0.length : Int)), (14, vI x3), (20, vI ((gt p0 x3).Kind)), (28, vB (((gt p0 x3).Kind) == 3))] w7 fun a ha => ?_
             refine hK _ _ ?_
             clear hK
             refine cond_b ha rfl (fun hb => ?_) (fun hb => ?_)
             · replace h := itT hb h
               obtain ⟨q4, hj4, h⟩ := obind h
               refine wp_cutV (D := fun a w10 => ∃ x7 : List Bool, ∃ (S6 : Off), ∃ (A6 : Option Addr) (c6 : Nat), x7 = q4 ∧ Cx w nob S w10 S6 ∧ Ow tBool 4 (Wr nob w) w10.heap S6 (vS A6 x7 c6) x7 ∧ Sl tTerm w10.heap S6 (some ⟨b1, o1, none⟩) c_p0 p0 ∧ Ag 75 [(3, vS A6 x7 c6), (12, vS (some ⟨b1, o1, none⟩) p0 c_p0), (13, vI (p0.length : Int)), (14, vI x3)] a) ?_ ?_
               · clear h; have h := hj4
                 refine reg ?_
                 refine sg ha 4 [(3, vS A2 x2 c2), (5, vP b2), (12, vS (some ⟨b1, o1, none⟩) p0 c_p0), (13, vI (p0.length : Int)), (14, vI x3), (30, vS A2 x2 c2), (31, vI x3), (32, vS A2 x2 c2), (33, vF b2 1)] w7 fun a ha => ?_
                 refine ov (.int .i64 ((gt p0 x3).A)) ha (ob_load w7 rfl rfl Try.underlying3 rfl ((cell_add1 _ _ _ _).trans (by rw [Nat.zero_add]; exact f5.cell 1 _ rfl))) fun a ha => ?_
                 obtain ⟨hi3, h⟩ := ite_some h
                 obtain ⟨b4, o3, cs3, rfl, hr3, hc3⟩ := f2.rdb.get hi3
                 obtain rfl := hr3
                 refine ov (vE b4 o3 ((gt p0 x3).A) 1) ha (obx w7 rfl rfl rfl Try.underlying84 rfl hi3) fun a ha => ?_
                 refine ov (vB (gt x2 ((gt p0 x3).A))) ha (ob_load w7 rfl rfl Try.underlying4 rfl ((cell_add1 _ _ _ _).trans (hc3 0 _ rfl))) fun a ha => ?_
                 refine sg ha 1 [(3, vS (some ⟨b4, o3, none⟩) x2 c2), (5, vP b2), (12, vS (some ⟨b1, o1, none⟩) p0 c_p0), (13, vI (p0.length : Int)), (14, vI x3), (30, vS (some ⟨b4, o3, none⟩) x2 c2), (31, vI x3), (37, vB (gt x2 ((gt p0 x3).A)))] w7 fun a ha => ?_
                 refine split_b (t := 37) ha rfl (fun hb ha => ?_) (fun hb ha => ?_)
                 · replace h := itT hb h
                   refine sg ha 2 [(3, vS (some ⟨b4, o3, none⟩) x2 c2), (12, vS (some ⟨b1, o1, none⟩) p0 c_p0), (13, vI (p0.length : Int)), (14, vI x3), (30, vS (some ⟨b4, o3, none⟩) x2 c2), (31, vI x3), (37, vB true), (38, vS (some ⟨b4, o3, none⟩) x2 c2), (39, vF b2 2)] w7 fun a ha => ?_
                   refine ov (.int .i64 ((gt p0 x3).B)) ha (ob_load w7 rfl rfl Try.underlying3 rfl ((cell_add1 _ _ _ _).trans (by rw [Nat.zero_add]; exact f5.cell 2 _ rfl))) fun a ha => ?_
                   obtain ⟨hi4, h⟩ := ite_some h
                   obtain ⟨cs4, hr4, hc4⟩ := f2.rdb.at hi4
                   obtain rfl := hr4
                   refine ov (vE b4 o3 ((gt p0 x3).B) 1) ha (obx w7 rfl rfl rfl Try.underlying84 rfl hi4) fun a ha => ?_
                   refine ov (vB (gt x2 ((gt p0 x3).B))) ha (ob_load w7 rfl rfl Try.underlying4 rfl ((cell_add1 _ _ _ _).trans (hc4 0 _ rfl))) fun a ha => ?_
                   refine sg ha 1 [(3, vS (some ⟨b4, o3, none⟩) x2 c2), (12, vS (some ⟨b1, o1, none⟩) p0 c_p0), (13, vI (p0.length : Int)), (14, vI x3), (30, vS (some ⟨b4, o3, none⟩) x2 c2), (31, vI x3), (43, vB (gt x2 ((gt p0 x3).B)))] w7 fun a ha => ?_
                   obtain ⟨hi5, h⟩ := ite_some h
                   obtain ⟨cs5, hr5, hc5⟩ := f2.rdb.at hi5
                   obtain rfl := hr5
                   refine ov (vE b4 o3 x3 1) ha (obx w7 rfl rfl rfl Try.underlying84 rfl hi5) fun a ha => ?_
                   refine op_setEl (T := tBool) (f := 0) (x' := (gt x2 ((gt p0 x3).B))) ha cx (by kernel_rfl) rfl rfl rfl wr_id f2 hi5 (by kernel_rfl) (add1_eq _ _ _) (by kernel_rfl) (by rintro H2 _ _ rfl; rfl) ?_
                   intro w11 cx on3 kp3 f9 a ha
                   replace h_p0 := h_p0.keep kp3
                   have hl3 : ((x2.set (Int.toNat x3) (gt x2 ((gt p0 x3).B)))).length = x2.length := List.length_set
                   replace ha : Ag 75 [(3, .slice (some ⟨b4, o3, none⟩) (x2.set (Int.toNat x3) (gt x2 ((gt p0 x3).B))).length c2), (12, .slice (some ⟨b1, o1, none⟩) p0.length c_p0), (13, .int .i64 (p0.length : Int)), (14, .int .i64 x3)] a := by rw [hl3]; exact ha.to (by kernel_rfl)
                   replace f9 : Ow tBool 4 (Wr nob w) w11.heap S2 (.slice (some ⟨b4, o3, none⟩) (x2.set (Int.toNat x3) (gt x2 ((gt p0 x3).B))).length c2) (x2.set (Int.toNat x3) (gt x2 ((gt p0 x3).B))) := by rw [hl3]; exact f9
                   obtain rfl := Option.some.inj h
                   exact ⟨_, _, (some ⟨b4, o3, none⟩), c2, rfl, cx, f9, h_p0, ha.to (by kernel_rfl)⟩
                 · replace h := itF hb h
                   refine sg ha 6 [(3, vS (some ⟨b4, o3, none⟩) x2 c2), (12, vS (some ⟨b1, o1, none⟩) p0 c_p0), (13, vI (p0.length : Int)), (14, vI x3), (30, vS (some ⟨b4, o3, none⟩) x2 c2), (31, vI x3), (43, vB false)] w7 fun a ha => ?_
                   obtain ⟨hi6, h⟩ := ite_some h
                   obtain ⟨cs6, hr6, hc6⟩ := f2.rdb.at hi6
                   obtain rfl := hr6
                   refine ov (vE b4 o3 x3 1) ha (obx w7 rfl rfl rfl Try.underlying84 rfl hi6) fun a ha => ?_
                   refine op_setEl (T := tBool) (f := 0) (x' := false) ha cx (by kernel_rfl) rfl rfl rfl wr_id f2 hi6 (by kernel_rfl) (add1_eq _ _ _) (by kernel_rfl) (by rintro H2 _ _ rfl; rfl) ?_
                   intro w12 cx on4 kp4 f10 a ha
                   replace h_p0 := h_p0.keep kp4
                   have hl4 : ((x2.set (Int.toNat x3) false)).length = x2.length := List.length_set
                   replace ha : Ag 75 [(3, .slice (some ⟨b4, o3, none⟩) (x2.set (Int.toNat x3) false).length c2), (12, .slice (some ⟨b1, o1, none⟩) p0.length c_p0), (13, .int .i64 (p0.length : Int)), (14, .int .i64 x3)] a := by rw [hl4]; exact ha.to (by kernel_rfl)
                   replace f10 : Ow tBool 4 (Wr nob w) w12.heap S2 (.slice (some ⟨b4, o3, none⟩) (x2.set (Int.toNat x3) false).length c2) (x2.set (Int.toNat x3) false) := by rw [hl4]; exact f10
                   obtain rfl := Option.some.inj h
                   exact ⟨_, _, (some ⟨b4, o3, none⟩), c2, rfl, cx, f10, h_p0, ha.to (by kernel_rfl)⟩
               rintro a w10 ⟨x7, S6, A6, c6, rfl, cx, f8, h_p0, ha⟩
               obtain rfl := Option.some.inj h
               exact ⟨_, _, A6, c6, rfl, cx, f8, h_p0, ha.to (by kernel_rfl)⟩
             · replace h := itF hb h
               refine sq fun K hK => ?_
               refine reg ?_
               refine sg ha 2 [(3, vS A2 x2 c2), (4, vI x3), (5, vP b2), (12, vS (some ⟨b1, o1, none⟩) p0 c_p0), (13, vI (p0.length : Int)), (14, vI x3), (20, vI ((gt p0 x3).Kind)), (45, vB (((gt p0 x3).Kind) == 4))] w7 fun a ha => ?_
               refine hK _ _ ?_
               clear hK
               refine cond_b ha rfl (fun hb => ?_) (fun hb => ?_)
               · replace h := itT hb h
                 obtain ⟨q5, hj5, h⟩ := obind h
                 refine wp_cutV (D := fun a w13 => ∃ x8 : List Bool, ∃ (S7 : Off), ∃ (A7 : Option Addr) (c7 : Nat), x8 = q5 ∧ Cx w nob S w13 S7 ∧ Ow tBool 4 (Wr nob w) w13.heap S7 (vS A7 x8 c7) x8 ∧ Sl tTerm w13.heap S7 (some ⟨b1, o1, none⟩) c_p0 p0 ∧ Ag 75 [(3, vS A7 x8 c7), (12, vS (some ⟨b1, o1, none⟩) p0 c_p0), (13, vI (p0.length : Int)), (14, vI x3)] a) ?_ ?_
                 · clear h; have h := hj5
                   refine reg ?_
                   refine sg ha 4 [(3, vS A2 x2 c2), (5, vP b2), (12, vS (some ⟨b1, o1, none⟩) p0 c_p0), (13, vI (p0.length : Int)), (14, vI x3), (47, vS A2 x2 c2), (48, vI x3), (49, vS A2 x2 c2), (50, vF b2 1)] w7 fun a ha => ?_
                   refine ov (.int .i64 ((gt p0 x3).A)) ha (ob_load w7 rfl rfl Try.underlying3 rfl ((cell_add1 _ _ _ _).trans (by rw [Nat.zero_add]; exact f5.cell 1 _ rfl))) fun a ha => ?_
                   obtain ⟨hi7, h⟩ := ite_some h
                   obtain ⟨b5, o4, cs7, rfl, hr7, hc7⟩ := f2.rdb.get hi7
                   obtain rfl := hr7
                   refine ov (vE b5 o4 ((gt p0 x3).A) 1) ha (obx w7 rfl rfl rfl Try.underlying84 rfl hi7) fun a ha => ?_
                   refine ov (vB (gt x2 ((gt p0 x3).A))) ha (ob_load w7 rfl rfl Try.underlying4 rfl ((cell_add1 _ _ _ _).trans (hc7 0 _ rfl))) fun a ha => ?_
                   refine sg ha 1 [(3, vS (some ⟨b5, o4, none⟩) x2 c2), (5, vP b2), (12, vS (some ⟨b1, o1, none⟩) p0 c_p0), (13, vI (p0.length : Int)), (14, vI x3), (47, vS (some ⟨b5, o4, none⟩) x2 c2), (48, vI x3), (54, vB (gt x2 ((gt p0 x3).A)))] w7 fun a ha => ?_
                   refine split_b (t := 54) ha rfl (fun hb ha => ?_) (fun hb ha => ?_)
                   · replace h := itT hb h
                     refine sg ha 6 [(3, vS (some ⟨b5, o4, none⟩) x2 c2), (12, vS (some ⟨b1, o1, none⟩) p0 c_p0), (13, vI (p0.length : Int)), (14, vI x3), (47, vS (some ⟨b5, o4, none⟩) x2 c2), (48, vI x3), (60, vB true)] w7 fun a ha => ?_
                     obtain ⟨hi8, h⟩ := ite_some h
                     obtain ⟨cs8, hr8, hc8⟩ := f2.rdb.at hi8
                     obtain rfl := hr8
                     refine ov (vE b5 o4 x3 1) ha (obx w7 rfl rfl rfl Try.underlying84 rfl hi8) fun a ha => ?_
                     refine op_setEl (T := tBool) (f := 0) (x' := true) ha cx (by kernel_rfl) rfl rfl rfl wr_id f2 hi8 (by kernel_rfl) (add1_eq _ _ _) (by kernel_rfl) (by rintro H2 _ _ rfl; rfl) ?_
                     intro w14 cx on5 kp5 f12 a ha
                     replace h_p0 := h_p0.keep kp5
                     have hl5 : ((x2.set (Int.toNat x3) true)).length = x2.length := List.length_set
                     replace ha : Ag 75 [(3, .slice (some ⟨b5, o4, none⟩) (x2.set (Int.toNat x3) true).length c2), (12, .slice (some ⟨b1, o1, none⟩) p0.length c_p0), (13, .int .i64 (p0.length : Int)), (14, .int .i64 x3)] a := by rw [hl5]; exact ha.to (by kernel_rfl)
                     replace f12 : Ow tBool 4 (Wr nob w) w14.heap S2 (.slice (some ⟨b5, o4, none⟩) (x2.set (Int.toNat x3) true).length c2) (x2.set (Int.toNat x3) true) := by rw [hl5]; exact f12
                     obtain rfl := Option.some.inj h
                     exact ⟨_, _, (some ⟨b5, o4, none⟩), c2, rfl, cx, f12, h_p0, ha.to (by kernel_rfl)⟩
                   · replace h := itF hb h
                     refine sg ha 2 [(3, vS (some ⟨b5, o4, none⟩) x2 c2), (12, vS (some ⟨b1, o1, none⟩) p0 c_p0), (13, vI (p0.length : Int)), (14, vI x3), (47, vS (some ⟨b5, o4, none⟩) x2 c2), (48, vI x3), (54, vB false), (55, vS (some ⟨b5, o4, none⟩) x2 c2), (56, vF b2 2)] w7 fun a ha => ?_
                     refine ov (.int .i64 ((gt p0 x3).B)) ha (ob_load w7 rfl rfl Try.underlying3 rfl ((cell_add1 _ _ _ _).trans (by rw [Nat.zero_add]; exact f5.cell 2 _ rfl))) fun a ha => ?_
                     obtain ⟨hi9, h⟩ := ite_some h
                     obtain ⟨cs9, hr9, hc9⟩ := f2.rdb.at hi9
                     obtain rfl := hr9
                     refine ov (vE b5 o4 ((gt p0 x3).B) 1) ha (obx w7 rfl rfl rfl Try.underlying84 rfl hi9) fun a ha => ?_
                     refine ov (vB (gt x2 ((gt p0 x3).B))) ha (ob_load w7 rfl rfl Try.underlying4 rfl ((cell_add1 _ _ _ _).trans (hc9 0 _ rfl))) fun a ha => ?_
                     refine sg ha 1 [(3, vS (some ⟨b5, o4, none⟩) x2 c2), (12, vS (some ⟨b1, o1, none⟩) p0 c_p0), (13, vI (p0.length : Int)), (14, vI x3), (47, vS (some ⟨b5, o4, none⟩) x2 c2), (48, vI x3), (60, vB (gt x2 ((gt p0 x3).B)))] w7 fun a ha => ?_
                     obtain ⟨hi10, h⟩ := ite_some h
                     obtain ⟨cs10, hr10, hc10⟩ := f2.rdb.at hi10
                     obtain rfl := hr10
                     refine ov (vE b5 o4 x3 1) ha (obx w7 rfl rfl rfl Try.underlying84 rfl hi10) fun a ha => ?_
                     refine op_setEl (T := tBool) (f := 0) (x' := (gt x2 ((gt p0 x3).B))) ha cx (by kernel_rfl) rfl rfl rfl wr_id f2 hi10 (by kernel_rfl) (add1_eq _ _ _) (by kernel_rfl) (by rintro H2 _ _ rfl; rfl) ?_
                     intro w15 cx on6 kp6 f13 a ha
                     replace h_p0 := h_p0.keep kp6
                     have hl6 : ((x2.set (Int.toNat x3) (gt x2 ((gt p0 x3).B)))).length = x2.length := List.length_set
                     replace ha : Ag 75 [(3, .slice (some ⟨b5, o4, none⟩) (x2.set (Int.toNat x3) (gt x2 ((gt p0 x3).B))).length c2), (12, .slice (some ⟨b1, o1, none⟩) p0.length c_p0), (13, .int .i64 (p0.length : Int)), (14, .int .i64 x3)] a := by rw [hl6]; exact ha.to (by kernel_rfl)
                     replace f13 : Ow tBool 4 (Wr nob w) w15.heap S2 (.slice (some ⟨b5, o4, none⟩) (x2.set (Int.toNat x3) (gt x2 ((gt p0 x3).B))).length c2) (x2.set (Int.toNat x3) (gt x2 ((gt p0 x3).B))) := by rw [hl6]; exact f13
                     obtain rfl := Option.some.inj h
                     exact ⟨_, _, (some ⟨b5, o4, none⟩), c2, rfl, cx, f13, h_p0, ha.to (by kernel_rfl)⟩
                 rintro a w13 ⟨x8, S7, A7, c7, rfl, cx, f11, h_p0, ha⟩
                 obtain rfl := Option.some.inj h
                 exact ⟨_, _, A7, c7, rfl, cx, f11, h_p0, ha.to (by kernel_rfl)⟩
               · replace h := itF hb h
                 refine sq fun K hK => ?_
                 obtain ⟨q6, hj6, h⟩ := obind h
                 refine wp_cutV (D := fun a w_ => ∃ x9 : Bool, x9 = q6 ∧ w7 = w_ ∧ Ag 75 [(3, vS A2 x2 c2), (4, vI x3), (5, vP b2), (12, vS (some ⟨b1, o1, none⟩) p0 c_p0), (13, vI (p0.length : Int)), (14, vI x3), (62, vB x9)] a) ?_ ?_
                 · clear h; have h := hj6
                   refine sq fun K hK => ?_
                   refine reg ?_
                   refine sg ha 2 [(3, vS A2 x2 c2), (4, vI x3), (5, vP b2), (12, vS (some ⟨b1, o1, none⟩) p0 c_p0), (13, vI (p0.length : Int)), (14, vI x3), (20, vI ((gt p0 x3).Kind)), (62, vB (((gt p0 x3).Kind) == 7))] w7 fun a ha => ?_
                   refine hK _ _ ?_
                   clear hK
                   refine cond_b ha rfl (fun hb => ?_) (fun hb => ?_)
                   · replace h := itT hb h
                     refine wp_skip ?_
                     obtain rfl := Option.some.inj h
                     exact ⟨_, rfl, rfl, ha.to (by kernel_rfl)⟩
                   · replace h := itF hb h
                     refine reg ?_
                     refine sg ha 2 [(3, vS A2 x2 c2), (4, vI x3), (5, vP b2), (12, vS (some ⟨b1, o1, none⟩) p0 c_p0), (13, vI (p0.length : Int)), (14, vI x3), (62, vB (((gt p0 x3).Kind) == 8))] w7 fun a ha => ?_
                     obtain rfl := Option.some.inj h
                     exact ⟨_, rfl, rfl, ha.to (by kernel_rfl)⟩
                 rintro a _ ⟨x9, rfl, rfl, ha⟩
                 refine hK _ _ ?_
                 clear hK
                 refine cond_b ha rfl (fun hb => ?_) (fun hb => ?_)
                 · replace h := itT hb h
                   refine reg ?_
                   refine sg ha 4 [(3, vS A2 x2 c2), (12, vS (some ⟨b1, o1, none⟩) p0 c_p0), (13, vI (p0.length : Int)), (14, vI x3), (65, vS A2 x2 c2), (66, vI x3), (67, vS A2 x2 c2), (68, vF b2 1)] w7 fun a ha => ?_
                   refine ov (.int .i64 ((gt p0 x3).A)) ha (ob_load w7 rfl rfl Try.underlying3 rfl ((cell_add1 _ _ _ _).trans (by rw [Nat.zero_add]; exact f5.cell 1 _ rfl))) fun a ha => ?_
                   obtain ⟨hi11, h⟩ := ite_some h
                   obtain ⟨b6, o5, cs11, rfl, hr11, hc11⟩ := f2.rdb.get hi11
                   obtain rfl := hr11
                   refine ov (vE b6 o5 ((gt p0 x3).A) 1) ha (obx w7 rfl rfl rfl Try.underlying84 rfl hi11) fun a ha => ?_
                   refine ov (vB (gt x2 ((gt p0 x3).A))) ha (ob_load w7 rfl rfl Try.underlying4 rfl ((cell_add1 _ _ _ _).trans (hc11 0 _ rfl))) fun a ha => ?_
                   obtain ⟨hi12, h⟩ := ite_some h
                   obtain ⟨cs12, hr12, hc12⟩ := f2.rdb.at hi12
                   obtain rfl := hr12
                   refine ov (vE b6 o5 x3 1) ha (obx w7 rfl rfl rfl Try.underlying84 rfl hi12) fun a ha => ?_
                   refine op_setEl (T := tBool) (f := 0) (x' := (gt x2 ((gt p0 x3).A))) ha cx (by kernel_rfl) rfl rfl rfl wr_id f2 hi12 (by kernel_rfl) (add1_eq _ _ _) (by kernel_rfl) (by rintro H2 _ _ rfl; rfl) ?_
                   intro w16 cx on7 kp7 f14 a ha
                   replace h_p0 := h_p0.keep kp7
                   have hl7 : ((x2.set (Int.toNat x3) (gt x2 ((gt p0 x3).A)))).length = x2.length := List.length_set
                   replace ha : Ag 75 [(3, .slice (some ⟨b6, o5, none⟩) (x2.set (Int.toNat x3) (gt x2 ((gt p0 x3).A))).length c2), (12, .slice (some ⟨b1, o1, none⟩) p0.length c_p0), (13, .int .i64 (p0.length : Int)), (14, .int .i64 x3)] a := by rw [hl7]; exact ha.to (by kernel_rfl)
                   replace f14 : Ow tBool 4 (Wr nob w) w16.heap S2 (.slice (some ⟨b6, o5, none⟩) (x2.set (Int.toNat x3) (gt x2 ((gt p0 x3).A))).length c2) (x2.set (Int.toNat x3) (gt x2 ((gt p0 x3).A))) := by rw [hl7]; exact f14
                   obtain rfl := Option.some.inj h
                   exact ⟨_, _, (some ⟨b6, o5, none⟩), c2, rfl, cx, f14, h_p0, ha.to (by kernel_rfl)⟩
                 · replace h := itF hb h
                   refine wp_skip ?_
                   obtain rfl := Option.some.inj h
                   exact ⟨_, _, A2, c2, rfl, cx, f2, h_p0, ha.to (by kernel_rfl)⟩
         rintro a w8 ⟨x5, S5, A5, c5, rfl, cx, f6, h_p0, ha⟩
         obtain rfl := Option.some.inj h
         exact ⟨_, _, A5, c5, rfl, cx, f6, h_p0, ha.to (by kernel_rfl)⟩
       rintro a w5 ⟨x4, S4, A4, c4, rfl, cx, f4, h_p0, ha⟩
       refine hK _ _ ?_
       clear hK
       refine reg ?_
       refine sg ha 2 [(3, vS A4 x4 c4), (12, vS A_p0 p0 c_p0), (13, vI (p0.length : Int)), (14, vI (W (x3 + 1)))] w5 fun a ha => ?_
       obtain rfl := Option.some.inj h
       exact ⟨_, rfl, S4, A4, c4, cx, f4, h_p0, ha.to (by kernel_rfl)⟩
     · replace h := itF hb h
       refine wp_exit ?_
       obtain rfl := Option.some.inj h
       exact ⟨_, rfl, rfl, S2, A2, c2, cx, f2, ha.to (by kernel_rfl)⟩
   · exact ⟨S1, A1, c1, cx, f1, h_p0, ha.to (by kernel_rfl)⟩
   intro e a w4 hd
   generalize t1 = y1 at *
   obtain ⟨rfl, S3, A3, c3, cx, f3, ha⟩ := hd
   refine hK _ _ ?_
   clear hK
   refine sq fun K hK => ?_
   refine reg ?_
   refine sg ha 2 [(2, vS A3 y1 c3)] w4 fun a ha => ?_
   refine hK _ _ ?_
   clear hK
   refine wp_ret ?_
   obtain rfl := Option.some.inj h
   show bodyPost Try.prog Try.f78 (R78 w S _) .ret a w4
   exact ret_1 (r1 := .tmp 2) (v1 := vS A3 y1 c3) ha rfl (.inl rfl) rfl ⟨_, rfl, cx.below, ⟨_, _, rfl, f3.result cx.sub⟩⟩
def post79 (w : World) (S : Off) (W0 : Off) (r : ((List Int))) (v : Value) (w1 : World) : Prop := ∃ A_r0 : Option Addr, ∃ c_r0 : Nat, v = .slice A_r0 r.length c_r0 ∧ Ow (tInt .i64) 3 (Wr W0 w) w1.heap (inL [.slice A_r0 r.length c_r0] S) (.slice A_r0 r.length c_r0) r
abbrev R79 (w : World) (S : Off) (W0 : Off) (r : ((List Int))) : Ending → World → Prop := fun e w1 => ∃ v, e = .returned v ∧ BelW W0 w w1 ∧ post79 w S W0 r v w1
theorem ok79 (fuel : Nat) : ∀ (k : Nat) {w : World} {S : Off} (hS : ∀ b, S b → b < w.heap.size) {p0 : (List MTerm)} {p1 : (List Bool)} {p2 : Int} {p3 : (List Int)} {M : Off} {A_p0 : Option Addr} {c_p0 : Nat} (h_p0 : Sl tTerm w.heap S A_p0 c_p0 p0) {A_p1 : Option Addr} {c_p1 : Nat} (h_p1 : Sl tBool w.heap S A_p1 c_p1 p1) {A_p3 : Option Addr} {c_p3 : Nat} (h_p3 : Ow (tInt .i64) 3 (M) w.heap S (.slice A_p3 p3.length c_p3) p3) {r : ((List Int))} (h : m_null_walk fuel k p0 p1 p2 p3 = some r), Calls Try.prog 79 #[.slice A_p0 p0.length c_p0, .slice A_p1 p1.length c_p1, .int .i64 p2, .slice A_p3 p3.length c_p3] w (R79 w S (obl [.slice A_p3 p3.length c_p3]) r) := by
 intro k
 induction k with
 | zero => intro w S hS p0 p1 p2 p3 M A_p0 c_p0 h_p0 A_p1 c_p1 h_p1 A_p3 c_p3 h_p3 r h; simp [m_null_walk] at h
 | succ k ih =>
  intro w S hS p0 p1 p2 p3 M A_p0 c_p0 h_p0 A_p1 c_p1 h_p1 A_p3 c_p3 h_p3 r h
  generalize hW0 : (obl [vS A_p3 p3 c_p3]) = W0
  replace h_p3 := h_p3.weak (M' := Wr W0 w) (fun k hk => .inl (by rw [← hW0]; exact obl_at 0 rfl hk))
  refine enterL (vs := [vS A_p0 p0 c_p0, vS A_p1 p1 c_p1, vI p2, vS A_p3 p3 c_p3]) Try.func79 rfl rfl ?_
  intro a ha
  have cx := Cx.start (W0 := W0) hS
  refine with_nop (noP_body _ _) (fun hq => ?_)
  unfold m_null_walk at h
  refine sq fun K hK => ?_
  refine reg ?_
  refine sg ha 1 [(0, vS A_p0 p0 c_p0), (1, vS A_p1 p1 c_p1), (2, vI p2), (3, vS A_p3 p3 c_p3)] w fun a ha => ?_
  refine hK _ _ ?_
  clear hK
  refine sq fun K hK => ?_
  refine reg ?_
  refine sg ha 3 [(0, vS A_p0 p0 c_p0), (1, vS A_p1 p1 c_p1), (2, vI p2), (10, vS A_p3 p3 c_p3), (12, vI (W (2 * p2)))] w fun a ha => ?_
  refine op_new (V := fun b => .slice (some ⟨b, 0, none⟩) 1 1) (cs := [vI (W (2 * p2))]) (T := 3) ha (by kernel_rfl) (by kernel_rfl) ?_
  intro w1 b1 hb1 hk1 he1 _ a ha
  have f1 := lit_ow (T := (tInt .i64)) (xs := [(W (2 * p2))]) (m := 1) cx hb1 hk1 he1 rfl (by kernel_rfl) (Els.one (T := (tInt .i64)) (x := (W (2 * p2))) rfl)
  replace f1 := own_out cx f1
  replace h_p0 := h_p0.keep (Keep.ext S hb1)
  replace h_p1 := h_p1.keep (Keep.ext S hb1)
  replace h_p3 := h_p3.ext hb1
  replace cx := cx.ext hb1
  obtain ⟨hp1, h⟩ := ite_some h
  refine op_append (T := (tInt .i64)) (xs := p3) (ys := [(W (2 * p2))]) (z := vI 0) (bytes := 8) ha cx (by kernel_rfl) rfl rfl rfl Try.underlying25 (by kernel_rfl) (by kernel_rfl) wr_id h_p3 f1.rdb hp1 ?_
  intro w2 S1 A1 c1 cx kp1 hs1 hn1 hat1 f2 a ha
  replace h_p0 := h_p0.keep kp1
  replace h_p1 := h_p1.keep kp1
  refine sg ha 1 [(0, vS A_p0 p0 c_p0), (1, vS A_p1 p1 c_p1), (2, vI p2), (3, vS A1 (p3 ++ [(W (2 * p2))]) c1)] w2 fun a ha => ?_
  refine hK _ _ ?_
  clear hK
  refine sq fun K hK => ?_
  refine reg ?_
  refine sg ha 2 [(0, vS A_p0 p0 c_p0), (1, vS A_p1 p1 c_p1), (2, vI p2), (3, vS A1 (p3 ++ [(W (2 * p2))]) c1), (15, vS A_p0 p0 c_p0), (16, vI p2)] w2 fun a ha => ?_
  obtain ⟨hi1, h⟩ := ite_some h
  obtain ⟨b2, o1, cs1, rfl, hr1, hc1⟩ := h_p0.rdb.get hi1
  obtain ⟨rfl, hl1⟩ := hr1
  refine ov (vE b2 o1 p2 8) ha (obx w2 rfl rfl rfl Try.underlying22 rfl hi1) fun a ha => ?_
  refine ov (.agg #[vI ((gt p0 p2).Kind), vI ((gt p0 p2).A), vI ((gt p0 p2).B), vI ((gt p0 p2).N), .int .u64 (gt ((gt p0 p2).Set) 0), .int .u64 (gt ((gt p0 p2).Set) 1), .int .u64 (gt ((gt p0 p2).Set) 2), .int .u64 (gt ((gt p0 p2).Set) 3)]) ha (ob_loadn (cs := [vI ((gt p0 p2).Kind), vI ((gt p0 p2).A), vI ((gt p0 p2).B), vI ((gt p0 p2).N), .int .u64 (gt ((gt p0 p2).Set) 0), .int .u64 (gt ((gt p0 p2).Set) 1), .int .u64 (gt ((gt p0 p2).Set) 2), .int .u64 (gt ((gt p0 p2).Set) 3)]) w2 rfl rfl Try.underlying42 rfl (by kernel_rfl) (fun j v hj => (cell_add2 _ _ _ _ _).trans (hc1 j v hj))) fun a ha => ?_
  refine op_var (d := 9) (z := [vI 0, vI 0, vI 0, vI 0, .int .u64 0, .int .u64 0, .int .u64 0, .int .u64 0]) (vs := [vI ((gt p0 p2).Kind), vI ((gt p0 p2).A), vI ((gt p0 p2).B), vI ((gt p0 p2).N), .int .u64 (gt ((gt p0 p2).Set) 0), .int .u64 (gt ((gt p0 p2).Set) 1), .int .u64 (gt ((gt p0 p2).Set) 2), .int .u64 (gt ((gt p0 p2).Set) 3)]) (v := .agg #[vI ((gt p0 p2).Kind), vI ((gt p0 p2).A), vI ((gt p0 p2).B), vI ((gt p0 p2).N), .int .u64 (gt ((gt p0 p2).Set) 0), .int .u64 (gt ((gt p0 p2).Set) 1), .int .u64 (gt ((gt p0 p2).Set) 2), .int .u64 (gt ((gt p0 p2).Set) 3)]) ha cx (by kernel_rfl) rfl (by kernel_rfl) (fun _ => by kernel_rfl) rfl rfl (fun _ => by kernel_rfl) (by kernel_rfl) (by kernel_rfl) (by kernel_rfl) ?_
  intro w3 b3 cx hb2 f3 a ha
  replace h_p0 := h_p0.keep (Keep.ext S1 hb2)
  replace h_p1 := h_p1.keep (Keep.ext S1 hb2)
  replace f2 := f2.ext hb2
  refine hK _ _ ?_
  clear hK
  refine sq fun K hK => ?_
  obtain ⟨q1, hj1, h⟩ := obind h
  refine wp_cutV (D := fun a w4 => ∃ x1 : List Int, ∃ (S2 : Off), ∃ (A2 : Option Addr) (c2 : Nat), x1 = q1 ∧ Cx w W0 S w4 S2 ∧ Ow (tInt .i64) 3 (Wr W0 w) w4.heap S2 (vS A2 x1 c2) x1 ∧ Ag 68 [(2, vI p2), (3, vS A2 x1 c2)] a) ?_ ?_
  · clear h; have h := hj1
    refine sq fun K hK => ?_
    refine reg ?_
    refine sg ha 1 [(0, vS (some ⟨b2, o1, none⟩) p0 c_p0), (1, vS A_p1 p1 c_p1), (2, vI p2), (3, vS A1 (p3 ++ [(W (2 * p2))]) c1), (9, vP b3), (19, vF b3 0)] w3 fun a ha => ?_
    refine ov (.int .i64 ((gt p0 p2).Kind)) ha (ob_load w3 rfl rfl Try.underlying3 rfl ((cell_add1 _ _ _ _).trans (by rw [Nat.zero_add]; exact f3.cell 0 _ rfl))) fun a ha => ?_
    refine hK _ _ ?_
    clear hK
    obtain ⟨q2, hj2, h⟩ := obind h
    refine wp_cutV (D := fun a w5 => ∃ x2 : List Int, ∃ (S3 : Off), ∃ (A3 : Option Addr) (c3 : Nat), x2 = q2 ∧ Cx w W0 S w5 S3 ∧ Ow (tInt .i64) 3 (Wr W0 w) w5.heap S3 (vS A3 x2 c3) x2 ∧ Ag 68 [(2, vI p2), (3, vS A3 x2 c3)] a) ?_ ?_
    · clear h; have h := hj2
      refine wp_block ?_
      refine sq fun K hK => ?_
      refine reg ?_
      refine sg ha 2 [(0, vS (some ⟨b2, o1, none⟩) p0 c_p0), (1, vS A_p1 p1 c_p1), (2, vI p2), (3, vS A1 (p3 ++ [(W (2 * p2))]) c1), (9, vP b3), (20, vI ((gt p0 p2).Kind)), (21, vB (((gt p0 p2).Kind) == 3))] w3 fun a ha => ?_
      refine hK _ _ ?_
      clear hK
      refine cond_b ha rfl (fun hb => ?_) (fun hb => ?_)
      · replace h := itT hb h
        refine dr_start 9 S1 rfl ?_
        intro w6 e1 hb3
        replace h_p0 := h_p0.keep (Keep.ext S1 hb3)
        replace h_p1 := h_p1.keep (Keep.ext S1 hb3)
        replace f2 := f2.ext hb3
        replace f3 := f3.keep (Keep.ext S1 hb3)
        replace cx := cx.ext hb3
        have hkk := Keep.refl w6.heap S1
        have hold := Sold.start w6
        have g1 := h_p0
        have g2 := h_p1
        have g3 := f2
        have g4 := f3
        refine dk 0 (vS (some ⟨b2, o1, none⟩) p0 c_p0) ha hq rfl (Sd.start _ _ _ _) fun hsx a ha => ?_
        refine dk 1 (vS A_p1 p1 c_p1) ha hq rfl hsx fun hsx a ha => ?_
        refine dk 2 (vF b3 2) ha hq rfl hsx fun hsx a ha => ?_
        refine dv 3 (.int .i64 ((gt p0 p2).B)) ha hq rfl (fun w2 hw2 hw3 => ob_load w2 rfl rfl Try.underlying3 rfl ((cell_add1 _ _ _ _).trans (by rw [Nat.zero_add]; exact Sk.cell g4.2 hw2 (g4.cell 2 _ rfl)))) hsx fun hsx a ha => ?_
        refine dk 4 (vS (some ⟨b2, o1, none⟩) p0 c_p0) ha hq rfl hsx fun hsx a ha => ?_
        refine dk 5 (vS A_p1 p1 c_p1) ha hq rfl hsx fun hsx a ha => ?_
        refine dk 6 (vF b3 1) ha hq rfl hsx fun hsx a ha => ?_
        refine dv 7 (.int .i64 ((gt p0 p2).A)) ha hq rfl (fun w2 hw2 hw3 => ob_load w2 rfl rfl Try.underlying3 rfl ((cell_add1 _ _ _ _).trans (by rw [Nat.zero_add]; exact Sk.cell g4.2 hw2 (g4.cell 1 _ rfl)))) hsx fun hsx a ha => ?_
        refine dk 8 (vS A1 (p3 ++ [(W (2 * p2))]) c1) ha hq rfl hsx fun hsx a ha => ?_
        refine dr_one (i := 9) (by kernel_rfl) rfl ?_
        obtain ⟨x3, hx1, h⟩ := obind h
        refine op_call ha (by kernel_rfl) (f := 79) (args := #[vS (some ⟨b2, o1, none⟩) p0 c_p0, vS A_p1 p1 c_p1, vI ((gt p0 p2).A), vS A1 (p3 ++ [(W (2 * p2))]) c1]) (w' := w6) (by kernel_rfl) (ih (M := Wr W0 w) (p0 := p0) (p1 := p1) (p2 := (gt p0 p2).A) (p3 := (p3 ++ [(W (2 * p2))])) cx.lt h_p0 h_p1 f2 hx1) ?_
        rintro v1 w7 ⟨hb4, hp2⟩ a ha
        obtain ⟨A4, c4, rfl, f6⟩ := hp2
        have hu1 : ∀ k, obl [vS A1 (p3 ++ [(W (2 * p2))]) c1] k → S1 k ∧ Wr W0 w k := (all_cons f2.own all_nil)
        have hv1 : ∀ k, obl [vS A4 x3 c4] k → k < w7.heap.size ∧ Wr (obl [vS A1 (p3 ++ [(W (2 * p2))]) c1]) w6 k := (all_cons (fun k hk => ⟨f6.lt k hk, (f6.own k hk).2⟩) all_nil)
        obtain ⟨cxn1, kp2, hs2, hn2⟩ := back cx hu1 hb4 hv1
        generalize inL [vS A4 x3 c4] S1 = S4 at cxn1 kp2 hs2 f6
        replace f6 := f6.weak (fun k hk => back_wr cx hu1 (f6.own k hk).2)
        replace h_p0 := h_p0.keep kp2
        replace h_p1 := h_p1.keep kp2
        replace cx := cxn1
        replace hkk := hkk.trans kp2
        refine dr_next (Sd.behind hkk (by kernel_rfl)) ?_
        refine dr_one (i := 10) (by kernel_rfl) rfl ?_
        obtain ⟨x4, hx2, h⟩ := obind h
        refine op_call ha (by kernel_rfl) (f := 79) (args := #[vS (some ⟨b2, o1, none⟩) p0 c_p0, vS A_p1 p1 c_p1, vI ((gt p0 p2).B), vS A4 x3 c4]) (w' := w7) (by kernel_rfl) (ih (M := Wr W0 w) (p0 := p0) (p1 := p1) (p2 := (gt p0 p2).B) (p3 := x3) cx.lt h_p0 h_p1 f6 hx2) ?_
        rintro v2 w8 ⟨hb5, hp3⟩ a ha
        obtain ⟨A5, c5, rfl, f7⟩ := hp3
        have hu2 : ∀ k, obl [vS A4 x3 c4] k → S4 k ∧ Wr W0 w k := (all_cons f6.own all_nil)
        have hv2 : ∀ k, obl [vS A5 x4 c5] k → k < w8.heap.size ∧ Wr (obl [vS A4 x3 c4]) w7 k := (all_cons (fun k hk => ⟨f7.lt k hk, (f7.own k hk).2⟩) all_nil)
        obtain ⟨cxn2, kp3, hs3, hn3⟩ := back cx hu2 hb5 hv2
        generalize inL [vS A5 x4 c5] S4 = S5 at cxn2 kp3 hs3 f7
        replace f7 := f7.weak (fun k hk => back_wr cx hu2 (f7.own k hk).2)
        replace cx := cxn2
        replace hkk := hkk.trans kp3
        refine dr_next (Sd.behind hkk (by kernel_rfl)) ?_
        refine dk 11 (vS A5 x4 c5) ha hq rfl (Sd.behind hkk (by kernel_rfl)) fun hsx a ha => ?_
        refine dr_done (by kernel_rfl) ?_
        replace ha := ha.to (l' := [(2, vI p2), (3, vS A5 x4 c5)]) (by kernel_rfl)
        obtain rfl := Option.some.inj h
        exact ⟨_, _, A5, c5, rfl, cx, f7, ha.to (by kernel_rfl)⟩
      · replace h := itF hb h
        refine sq fun K hK => ?_
        refine reg ?_
        refine sg ha 2 [(0, vS (some ⟨b2, o1, none⟩) p0 c_p0), (1, vS A_p1 p1 c_p1), (2, vI p2), (3, vS A1 (p3 ++ [(W (2 * p2))]) c1), (9, vP b3), (20, vI ((gt p0 p2).Kind)), (34, vB (((gt p0 p2).Kind) == 4))] w3 fun a ha => ?_
        refine hK _ _ ?_
        clear hK
        refine cond_b ha rfl (fun hb => ?_) (fun hb => ?_)
        · replace h := itT hb h
          refine sq fun K hK => ?_
          refine reg ?_
          refine sg ha 2 [(0, vS (some ⟨b2, o1, none⟩) p0 c_p0), (1, vS A_p1 p1 c_p1), (2, vI p2), (3, vS A1 (p3 ++ [(W (2 * p2))]) c1), (9, vP b3), (36, vS A_p1 p1 c_p1), (37, vF b3 1)] w3 fun a ha => ?_
          refine ov (.int .i64 ((gt p0 p2).A)) ha (ob_load w3 rfl rfl Try.underlying3 rfl ((cell_add1 _ _ _ _).trans (by rw [Nat.zero_add]; exact f3.cell 1 _ rfl))) fun a ha => ?_
          obtain ⟨hi2, h⟩ := ite_some h
          obtain ⟨b4, o2, cs2, rfl, hr2, hc2⟩ := h_p1.rdb.get hi2
          obtain rfl := hr2
          refine ov (vE b4 o2 ((gt p0 p2).A) 1) ha (obx w3 rfl rfl rfl Try.underlying84 rfl hi2) fun a ha => ?_
          refine ov (vB (gt p1 ((gt p0 p2).A))) ha (ob_load w3 rfl rfl Try.underlying4 rfl ((cell_add1 _ _ _ _).trans (hc2 0 _ rfl))) fun a ha => ?_
          refine hK _ _ ?_
          clear hK
          refine cond_b ha rfl (fun hb => ?_) (fun hb => ?_)
          · replace h := itT hb h
            refine reg ?_
            refine sg ha 3 [(2, vI p2), (3, vS A1 (p3 ++ [(W (2 * p2))]) c1), (41, vS (some ⟨b2, o1, none⟩) p0 c_p0), (42, vS (some ⟨b4, o2, none⟩) p1 c_p1), (43, vF b3 1)] w3 fun a ha => ?_
            refine ov (.int .i64 ((gt p0 p2).A)) ha (ob_load w3 rfl rfl Try.underlying3 rfl ((cell_add1 _ _ _ _).trans (by rw [Nat.zero_add]; exact f3.cell 1 _ rfl))) fun a ha => ?_
            refine sg ha 1 [(2, vI p2), (41, vS (some ⟨b2, o1, none⟩) p0 c_p0), (42, vS (some ⟨b4, o2, none⟩) p1 c_p1), (44, vI ((gt p0 p2).A)), (45, vS A1 (p3 ++ [(W (2 * p2))]) c1)] w3 fun a ha => ?_
            obtain ⟨x5, hx3, h⟩ := obind h
            refine op_call ha (by kernel_rfl) (f := 79) (args := #[vS (some ⟨b2, o1, none⟩) p0 c_p0, vS (some ⟨b4, o2, none⟩) p1 c_p1, vI ((gt p0 p2).A), vS A1 (p3 ++ [(W (2 * p2))]) c1]) (w' := w3) (by kernel_rfl) (ih (M := Wr W0 w) (p0 := p0) (p1 := p1) (p2 := (gt p0 p2).A) (p3 := (p3 ++ [(W (2 * p2))])) cx.lt h_p0 h_p1 f2 hx3) ?_
            rintro v3 w9 ⟨hb6, hp4⟩ a ha
            obtain ⟨A6, c6, rfl, f8⟩ := hp4
            have hu3 : ∀ k, obl [vS A1 (p3 ++ [(W (2 * p2))]) c1] k → S1 k ∧ Wr W0 w k := (all_cons f2.own all_nil)
            have hv3 : ∀ k, obl [vS A6 x5 c6] k → k < w9.heap.size ∧ Wr (obl [vS A1 (p3 ++ [(W (2 * p2))]) c1]) w3 k := (all_cons (fun k hk => ⟨f8.lt k hk, (f8.own k hk).2⟩) all_nil)
            obtain ⟨cxn3, kp4, hs4, hn4⟩ := back cx hu3 hb6 hv3
            generalize inL [vS A6 x5 c6] S1 = S6 at cxn3 kp4 hs4 f8
            replace f8 := f8.weak (fun k hk => back_wr cx hu3 (f8.own k hk).2)
            replace cx := cxn3
            refine sg ha 1 [(2, vI p2), (3, vS A6 x5 c6)] w9 fun a ha => ?_
            obtain rfl := Option.some.inj h
            exact ⟨_, _, A6, c6, rfl, cx, f8, ha.to (by kernel_rfl)⟩
          · replace h := itF hb h
            refine reg ?_
            refine sg ha 3 [(2, vI p2), (3, vS A1 (p3 ++ [(W (2 * p2))]) c1), (47, vS (some ⟨b2, o1, none⟩) p0 c_p0), (48, vS (some ⟨b4, o2, none⟩) p1 c_p1), (49, vF b3 2)] w3 fun a ha => ?_
            refine ov (.int .i64 ((gt p0 p2).B)) ha (ob_load w3 rfl rfl Try.underlying3 rfl ((cell_add1 _ _ _ _).trans (by rw [Nat.zero_add]; exact f3.cell 2 _ rfl))) fun a ha => ?_
            refine sg ha 1 [(2, vI p2), (47, vS (some ⟨b2, o1, none⟩) p0 c_p0), (48, vS (some ⟨b4, o2, none⟩) p1 c_p1), (50, vI ((gt p0 p2).B)), (51, vS A1 (p3 ++ [(W (2 * p2))]) c1)] w3 fun a ha => ?_
            obtain ⟨x6, hx4, h⟩ := obind h
            refine op_call ha (by kernel_rfl) (f := 79) (args := #[vS (some ⟨b2, o1, none⟩) p0 c_p0, vS (some ⟨b4, o2, none⟩) p1 c_p1, vI ((gt p0 p2).B), vS A1 (p3 ++ [(W (2 * p2))]) c1]) (w' := w3) (by kernel_rfl) (ih (M := Wr W0 w) (p0 := p0) (p1 := p1) (p2 := (gt p0 p2).B) (p3 := (p3 ++ [(W (2 * p2))])) cx.lt h_p0 h_p1 f2 hx4) ?_
            rintro v4 w10 ⟨hb7, hp5⟩ a ha
            obtain ⟨A7, c7, rfl, f9⟩ := hp5
            have hu4 : ∀ k, obl [vS A1 (p3 ++ [(W (2 * p2))]) c1] k → S1 k ∧ Wr W0 w k := (all_cons f2.own all_nil)
            have hv4 : ∀ k, obl [vS A7 x6 c7] k → k < w10.heap.size ∧ Wr (obl [vS A1 (p3 ++ [(W (2 * p2))]) c1]) w3 k := (all_cons (fun k hk => ⟨f9.lt k hk, (f9.own k hk).2⟩) all_nil)
            obtain ⟨cxn4, kp5, hs5, hn5⟩ := back cx hu4 hb7 hv4
            generalize inL [vS A7 x6 c7] S1 = S7 at cxn4 kp5 hs5 f9
            replace f9 := f9.weak (fun k hk => back_wr cx hu4 (f9.own k hk).2)
            replace cx := cxn4
            refine sg ha 1 [(2, vI p2), (3, vS A7 x6 c7)] w10 fun a ha => ?_
            obtain rfl := Option.some.inj h
            exact ⟨_, _, A7, c7, rfl, cx, f9, ha.to (by kernel_rfl)⟩
        · replace h := itF hb h
          refine sq fun K hK => ?_
          obtain ⟨q3, hj3, h⟩ := obind h
          refine wp_cutV (D := fun a w_ => ∃ x7 : Bool, x7 = q3 ∧ w3 = w_ ∧ Ag 68 [(0, vS (some ⟨b2, o1, none⟩) p0 c_p0), (1, vS A_p1 p1 c_p1), (2, vI p2), (3, vS A1 (p3 ++ [(W (2 * p2))]) c1), (9, vP b3), (53, vB x7)] a) ?_ ?_
          · clear h; have h := hj3
            refine sq fun K hK => ?_
            refine reg ?_
            refine sg ha 2 [(0, vS (some ⟨b2, o1, none⟩) p0 c_p0), (1, vS A_p1 p1 c_p1), (2, vI p2), (3, vS A1 (p3 ++ [(W (2 * p2))]) c1), (9, vP b3), (20, vI ((gt p0 p2).Kind)), (53, vB (((gt p0 p2).Kind) == 7))] w3 fun a ha => ?_
            refine hK _ _ ?_
            clear hK
            refine cond_b ha rfl (fun hb => ?_) (fun hb => ?_)
            · replace h := itT hb h
              refine wp_skip ?_
              obtain rfl := Option.some.inj h
              exact ⟨_, rfl, rfl, ha.to (by kernel_rfl)⟩
            · replace h := itF hb h
              refine reg ?_
              refine sg ha 2 [(0, vS (some ⟨b2, o1, none⟩) p0 c_p0), (1, vS A_p1 p1 c_p1), (2, vI p2), (3, vS A1 (p3 ++ [(W (2 * p2))]) c1), (9, vP b3), (53, vB (((gt p0 p2).Kind) == 8))] w3 fun a ha => ?_
              obtain rfl := Option.some.inj h
              exact ⟨_, rfl, rfl, ha.to (by kernel_rfl)⟩
          rintro a _ ⟨x7, rfl, rfl, ha⟩
          refine hK _ _ ?_
          clear hK
          refine cond_b ha rfl (fun hb => ?_) (fun hb => ?_)
          · replace h := itT hb h
            refine reg ?_
            refine sg ha 3 [(2, vI p2), (3, vS A1 (p3 ++ [(W (2 * p2))]) c1), (56, vS (some ⟨b2, o1, none⟩) p0 c_p0), (57, vS A_p1 p1 c_p1), (58, vF b3 1)] w3 fun a ha => ?_
            refine ov (.int .i64 ((gt p0 p2).A)) ha (ob_load w3 rfl rfl Try.underlying3 rfl ((cell_add1 _ _ _ _).trans (by rw [Nat.zero_add]; exact f3.cell 1 _ rfl))) fun a ha => ?_
            refine sg ha 1 [(2, vI p2), (56, vS (some ⟨b2, o1, none⟩) p0 c_p0), (57, vS A_p1 p1 c_p1), (59, vI ((gt p0 p2).A)), (60, vS A1 (p3 ++ [(W (2 * p2))]) c1)] w3 fun a ha => ?_
            obtain ⟨x8, hx5, h⟩ := obind h
            refine op_call ha (by kernel_rfl) (f := 79) (args := #[vS (some ⟨b2, o1, none⟩) p0 c_p0, vS A_p1 p1 c_p1, vI ((gt p0 p2).A), vS A1 (p3 ++ [(W (2 * p2))]) c1]) (w' := w3) (by kernel_rfl) (ih (M := Wr W0 w) (p0 := p0) (p1 := p1) (p2 := (gt p0 p2).A) (p3 := (p3 ++ [(W (2 * p2))])) cx.lt h_p0 h_p1 f2 hx5) ?_
            rintro v5 w11 ⟨hb8, hp6⟩ a ha
            obtain ⟨A8, c8, rfl, f10⟩ := hp6
            have hu5 : ∀ k, obl [vS A1 (p3 ++ [(W (2 * p2))]) c1] k → S1 k ∧ Wr W0 w k := (all_cons f2.own all_nil)
            have hv5 : ∀ k, obl [vS A8 x8 c8] k → k < w11.heap.size ∧ Wr (obl [vS A1 (p3 ++ [(W (2 * p2))]) c1]) w3 k := (all_cons (fun k hk => ⟨f10.lt k hk, (f10.own k hk).2⟩) all_nil)
            obtain ⟨cxn5, kp6, hs6, hn6⟩ := back cx hu5 hb8 hv5
            generalize inL [vS A8 x8 c8] S1 = S8 at cxn5 kp6 hs6 f10
            replace f10 := f10.weak (fun k hk => back_wr cx hu5 (f10.own k hk).2)
            replace cx := cxn5
            refine sg ha 1 [(2, vI p2), (3, vS A8 x8 c8)] w11 fun a ha => ?_
            obtain rfl := Option.some.inj h
            exact ⟨_, _, A8, c8, rfl, cx, f10, ha.to (by kernel_rfl)⟩
          · replace h := itF hb h
            refine wp_skip ?_
            obtain rfl := Option.some.inj h
            exact ⟨_, _, A1, c1, rfl, cx, f2, ha.to (by kernel_rfl)⟩
    rintro a w5 ⟨x2, S3, A3, c3, rfl, cx, f5, ha⟩
    obtain rfl := Option.some.inj h
    exact ⟨_, _, A3, c3, rfl, cx, f5, ha.to (by kernel_rfl)⟩
  rintro a w4 ⟨x1, S2, A2, c2, rfl, cx, f4, ha⟩
  refine hK _ _ ?_
  clear hK
  refine sq fun K hK => ?_
  refine reg ?_
  refine sg ha 4 [(62, vS A2 x1 c2), (65, vI (W ((W (2 * p2)) + 1)))] w4 fun a ha => ?_
  refine op_new (V := fun b => .slice (some ⟨b, 0, none⟩) 1 1) (cs := [vI (W ((W (2 * p2)) + 1))]) (T := 3) ha (by kernel_rfl) (by kernel_rfl) ?_
  intro w12 b5 hb9 hk2 he2 _ a ha
  have f11 := lit_ow (T := (tInt .i64)) (xs := [(W ((W (2 * p2)) + 1))]) (m := 1) cx hb9 hk2 he2 rfl (by kernel_rfl) (Els.one (T := (tInt .i64)) (x := (W ((W (2 * p2)) + 1))) rfl)
  replace f11 := own_out cx f11
  replace f4 := f4.ext hb9
  replace cx := cx.ext hb9
  obtain ⟨hp7, h⟩ := ite_some h
  refine op_append (T := (tInt .i64)) (xs := x1) (ys := [(W ((W (2 * p2)) + 1))]) (z := vI 0) (bytes := 8) ha cx (by kernel_rfl) rfl rfl rfl Try.underlying25 (by kernel_rfl) (by kernel_rfl) wr_id f4 f11.rdb hp7 ?_
  intro w13 S9 A9 c9 cx kp7 hs7 hn7 hat2 f12 a ha
  refine sg ha 1 [(8, vS A9 (x1 ++ [(W ((W (2 * p2)) + 1))]) c9)] w13 fun a ha => ?_
  refine hK _ _ ?_
  clear hK
  refine wp_ret ?_
  obtain rfl := Option.some.inj h
  have hin : ∀ k, inL [vS A9 (x1 ++ [(W ((W (2 * p2)) + 1))]) c9] S k → S9 k := inL_sub cx.sub (all_cons (fun k hk => (f12.own k hk).1) all_nil)
  show bodyPost Try.prog Try.f79 (R79 w S W0 _) .ret a w13
  exact ret_1 (r1 := .tmp 8) (v1 := vS A9 (x1 ++ [(W ((W (2 * p2)) + 1))]) c9) ha rfl (.inl rfl) rfl ⟨_, rfl, cx.bel, ⟨_, _, rfl, f12.out hin (fun k hk => obl_at 0 rfl hk)⟩⟩
def post46 (w : World) (S : Off) (r : ((List Int))) (v : Value) (w1 : World) : Prop := ∃ (A : Option Addr) (c : Nat), v = .slice A r.length c ∧ Ow (tInt .i64) 3 (Wr nob w) w1.heap (inV v S) v r
abbrev R46 (w : World) (S : Off) (r : ((List Int))) : Ending → World → Prop := fun e w1 => ∃ v, e = .returned v ∧ Below w.heap.size w w1 ∧ post46 w S r v w1
theorem ok46 (fuel : Nat) {w : World} {S : Off} (hS : ∀ b, S b → b < w.heap.size) {p0 : (List MTerm)} {p1 : Int} {A_p0 : Option Addr} {c_p0 : Nat} (h_p0 : Sl tTerm w.heap S A_p0 c_p0 p0) {r : ((List Int))} (h : m_null_Steps fuel p0 p1 = some r) :
 Calls Try.prog 46 #[vS A_p0 p0 c_p0, vI p1] w (R46 w S r) := by
 refine enterL (vs := [vS A_p0 p0 c_p0, vI p1]) Try.func46 rfl rfl ?_
 intro a ha
 have cx := Cx.start (W0 := nob) hS
 refine with_nop (noP_body _ _) (fun hq => ?_)
 unfold m_null_Steps at h
 refine sq fun K hK => ?_
 refine reg ?_
 refine sg ha 1 [(0, vS A_p0 p0 c_p0), (1, vI p1)] w fun a ha => ?_
 refine hK _ _ ?_
 clear hK
 refine sq fun K hK => ?_
 refine reg ?_
 refine sg ha 1 [(0, vS A_p0 p0 c_p0), (1, vI p1), (6, vS A_p0 p0 c_p0)] w fun a ha => ?_
 obtain ⟨x1, hx1, h⟩ := obind h
 refine op_call ha (by kernel_rfl) (f := 78) (args := #[vS A_p0 p0 c_p0]) (w' := w) (by kernel_rfl) (ok78 fuel (p0 := p0) cx.lt h_p0 hx1) ?_
 rintro v1 w1 ⟨hb1, hp1⟩ a ha
 obtain ⟨A1, c1, rfl, f1⟩ := hp1
 replace f1 := own_out cx f1
 replace h_p0 := h_p0.keep (Keep.ext S hb1)
 replace cx := cx.ext hb1
 refine sg ha 1 [(0, vS A_p0 p0 c_p0), (1, vI p1), (5, vS A1 x1 c1)] w1 fun a ha => ?_
 refine hK _ _ ?_
 clear hK
 refine sq fun K hK => ?_
 refine sq fun K hK => ?_
 obtain ⟨q1, hj1, h⟩ := obind h
 refine wp_cutV (D := fun a w_ => ∃ x2 : Bool, x2 = q1 ∧ w1 = w_ ∧ Ag 27 [(0, vS A_p0 p0 c_p0), (1, vI p1), (5, vS A1 x1 c1), (22, vB x2)] a) ?_ ?_
 · clear h; have h := hj1
   refine reg ?_
   refine sg ha 3 [(0, vS A_p0 p0 c_p0), (1, vI p1), (5, vS A1 x1 c1), (10, vB (decide (p1 < 0)))] w1 fun a ha => ?_
   refine split_b (t := 10) ha rfl (fun hb ha => ?_) (fun hb ha => ?_)
   · replace h := itT hb h
     refine sg ha 12 [(0, vS A_p0 p0 c_p0), (1, vI p1), (5, vS A1 x1 c1), (22, vB true)] w1 fun a ha => ?_
     obtain rfl := Option.some.inj h
     exact ⟨_, rfl, rfl, ha.to (by kernel_rfl)⟩
   · replace h := itF hb h
     refine sg ha 6 [(0, vS A_p0 p0 c_p0), (1, vI p1), (5, vS A1 x1 c1), (16, vB (decide (p1 ≥ (x1.length : Int))))] w1 fun a ha => ?_
     refine split_b (t := 16) ha rfl (fun hb ha => ?_) (fun hb ha => ?_)
     · replace h := itT hb h
       refine sg ha 6 [(0, vS A_p0 p0 c_p0), (1, vI p1), (5, vS A1 x1 c1), (22, vB true)] w1 fun a ha => ?_
       obtain rfl := Option.some.inj h
       exact ⟨_, rfl, rfl, ha.to (by kernel_rfl)⟩
     · replace h := itF hb h
       refine sg ha 2 [(0, vS A_p0 p0 c_p0), (1, vI p1), (5, vS A1 x1 c1), (16, vB false), (17, vS A1 x1 c1), (18, vI p1)] w1 fun a ha => ?_
       obtain ⟨hi1, h⟩ := ite_some h
       obtain ⟨b1, o1, cs1, rfl, hr1, hc1⟩ := f1.rdb.get hi1
       obtain rfl := hr1
       refine ov (vE b1 o1 p1 1) ha (obx w1 rfl rfl rfl Try.underlying84 rfl hi1) fun a ha => ?_
       refine ov (vB (gt x1 p1)) ha (ob_load w1 rfl rfl Try.underlying4 rfl ((cell_add1 _ _ _ _).trans (hc1 0 _ rfl))) fun a ha => ?_
       refine sg ha 2 [(0, vS A_p0 p0 c_p0), (1, vI p1), (5, vS (some ⟨b1, o1, none⟩) x1 c1), (22, vB (!(gt x1 p1)))] w1 fun a ha => ?_
       obtain rfl := Option.some.inj h
       exact ⟨_, rfl, rfl, ha.to (by kernel_rfl)⟩
 rintro a _ ⟨x2, rfl, rfl, ha⟩
 refine hK _ _ ?_
 clear hK
 refine cond_b ha rfl (fun hb => ?_) (fun hb => ?_)
 · replace h := itT hb h
   refine sq fun K hK => ?_
   refine reg ?_
   refine sg ha 1 [(4, .slice none 0 0)] w1 fun a ha => ?_
   refine hK _ _ ?_
   clear hK
   refine wp_ret ?_
   obtain rfl := Option.some.inj h
   show bodyPost Try.prog Try.f46 (R46 w S _) .ret a w1
   exact ret_1 (r1 := .tmp 4) (v1 := .slice none 0 0) ha rfl (.inl rfl) rfl ⟨_, rfl, cx.below, ⟨_, _, rfl, Ow.nil⟩⟩
 · replace h := itF hb h
   refine wp_skip ?_
   refine hK _ _ ?_
   clear hK
   refine sq fun K hK => ?_
   refine reg ?_
   refine sg ha 3 [(23, vS A_p0 p0 c_p0), (24, vS A1 x1 c1), (25, vI p1)] w1 fun a ha => ?_
   obtain ⟨x3, hx2, h⟩ := obind h
   refine op_call ha (by kernel_rfl) (f := 79) (args := #[vS A_p0 p0 c_p0, vS A1 x1 c1, vI p1, .slice none 0 0]) (w' := w1) (by kernel_rfl) (ok79 fuel fuel (M := Wr nob w) (p0 := p0) (p1 := x1) (p2 := p1) (p3 := ([] : List Int)) cx.lt h_p0 f1 Ow.nil hx2) ?_
   rintro v2 w2 ⟨hb2, hp2⟩ a ha
   obtain ⟨A2, c2, rfl, f2⟩ := hp2
   have hu1 : ∀ k, obl [.slice none 0 0] k → S k ∧ Wr nob w k := (all_cons nil_all all_nil)
   have hv1 : ∀ k, obl [vS A2 x3 c2] k → k < w2.heap.size ∧ Wr (obl [.slice none 0 0]) w1 k := (all_cons (fun k hk => ⟨f2.lt k hk, (f2.own k hk).2⟩) all_nil)
   obtain ⟨cxn1, kp1, hs1, hn1⟩ := back cx hu1 hb2 hv1
   generalize inL [vS A2 x3 c2] S = S1 at cxn1 kp1 hs1 f2
   replace f2 := f2.weak (fun k hk => back_wr cx hu1 (f2.own k hk).2)
   replace cx := cxn1
   refine sg ha 1 [(4, vS A2 x3 c2)] w2 fun a ha => ?_
   refine hK _ _ ?_
   clear hK
   refine wp_ret ?_
   obtain rfl := Option.some.inj h
   show bodyPost Try.prog Try.f46 (R46 w S _) .ret a w2
   exact ret_1 (r1 := .tmp 4) (v1 := vS A2 x3 c2) ha rfl (.inl rfl) rfl ⟨_, rfl, cx.below, ⟨_, _, rfl, f2.result cx.sub⟩⟩
def post86 (w : World) (S : Off) (r : ((List Int))) (v : Value) (w1 : World) : Prop := ∃ (A : Option Addr) (c : Nat), v = .slice A r.length c ∧ Ow (tInt .i64) 3 (Wr nob w) w1.heap (inV v S) v r
abbrev R86 (w : World) (S : Off) (r : ((List Int))) : Ending → World → Prop := fun e w1 => ∃ v, e = .returned v ∧ Below w.heap.size w w1 ∧ post86 w S r v w1
theorem ok86 (fuel : Nat) {w : World} {S : Off} (hS : ∀ b, S b → b < w.heap.size) {p0 : (List MTerm)} {A_p0 : Option Addr} {c_p0 : Nat} (h_p0 : Sl tTerm w.heap S A_p0 c_p0 p0) {r : ((List Int))} (h : m_term_Up fuel p0 = some r) :
 Calls Try.prog 86 #[vS A_p0 p0 c_p0] w (R86 w S r) := by
 refine enterL (vs := [vS A_p0 p0 c_p0]) Try.func86 rfl rfl ?_
 intro a ha
 have cx := Cx.start (W0 := nob) hS
 refine with_nop (noP_body _ _) (fun hq => ?_)
 unfold m_term_Up at h
 refine sq fun K hK => ?_
 refine reg ?_
 refine sg ha 1 [(0, vS A_p0 p0 c_p0)] w fun a ha => ?_
 refine hK _ _ ?_
 clear hK
 refine sq fun K hK => ?_
 refine sq fun K hK => ?_
 refine reg ?_
 refine sg ha 1 [(0, vS A_p0 p0 c_p0), (6, vS A_p0 p0 c_p0)] w fun a ha => ?_
 obtain ⟨x1, hx1, h⟩ := obind h
 refine op_call ha (by kernel_rfl) (f := 59) (args := #[vS A_p0 p0 c_p0]) (w' := w) (by kernel_rfl) (ok59 fuel (p0 := p0) cx.lt h_p0 hx1) ?_
 rintro v1 w1 ⟨hb1, hp1⟩ a ha
 obtain rfl := hp1
 replace h_p0 := h_p0.keep (Keep.ext S hb1)
 replace cx := cx.ext hb1
 refine sg ha 1 [(0, vS A_p0 p0 c_p0), (8, vB (!x1))] w1 fun a ha => ?_
 refine hK _ _ ?_
 clear hK
 refine cond_b ha rfl (fun hb => ?_) (fun hb => ?_)
 · replace h := itT hb h
   refine sq fun K hK => ?_
   refine reg ?_
   refine sg ha 1 [(2, .slice none 0 0)] w1 fun a ha => ?_
   refine hK _ _ ?_
   clear hK
   refine wp_ret ?_
   obtain rfl := Option.some.inj h
   show bodyPost Try.prog Try.f86 (R86 w S _) .ret a w1
   exact ret_1 (r1 := .tmp 2) (v1 := .slice none 0 0) ha rfl (.inl rfl) rfl ⟨_, rfl, cx.below, ⟨_, _, rfl, Ow.nil⟩⟩
 · replace h := itF hb h
   refine wp_skip ?_
   refine hK _ _ ?_
   clear hK
   refine sq fun K hK => ?_
   refine reg ?_
   refine sg ha 2 [(0, vS A_p0 p0 c_p0), (10, vI (p0.length : Int))] w1 fun a ha => ?_
   obtain ⟨hp2, h⟩ := ite_some h
   refine op_make (T := (tInt .i64)) (z := vI 0) (zx := (0 : Int)) (bytes := 8) ha cx (by kernel_rfl) rfl rfl rfl Try.underlying25 (by kernel_rfl) (by kernel_rfl) (fun _ _ => rfl) hp2 ?_
   intro w2 S1 A1 c1 cx hb2 kp1 hs1 hn1 f1 a ha
   replace h_p0 := h_p0.keep kp1
   refine sg ha 1 [(0, vS A_p0 p0 c_p0), (3, vS A1 (List.replicate (Int.toNat (p0.length : Int)) (0 : Int)) c1)] w2 fun a ha => ?_
   refine hK _ _ ?_
   clear hK
   refine sq fun K hK => ?_
   refine reg ?_
   refine sg ha 4 [(0, vS A_p0 p0 c_p0), (3, vS A1 (List.replicate (Int.toNat (p0.length : Int)) (0 : Int)) c1), (12, vS A1 (List.replicate (Int.toNat (p0.length : Int)) (0 : Int)) c1), (15, vI (W ((p0.length : Int) - 1)))] w2 fun a ha => ?_
   obtain ⟨hi1, h⟩ := ite_some h
   obtain ⟨b1, o1, cs1, rfl, hr1, hc1⟩ := f1.rdb.get hi1
   obtain rfl := hr1
   refine ov (vE b1 o1 (W ((p0.length : Int) - 1)) 1) ha (obx w2 rfl rfl rfl Try.underlying25 rfl hi1) fun a ha => ?_
   refine op_setEl (T := (tInt .i64)) (f := 0) (x' := (-1)) ha cx (by kernel_rfl) rfl rfl rfl wr_id f1 hi1 (by kernel_rfl) (add1_eq _ _ _) (by kernel_rfl) (by rintro H2 _ _ rfl; rfl) ?_
   intro w3 cx on1 kp2 f2 a ha
   replace h_p0 := h_p0.keep kp2
   have hl1 : (((List.replicate (Int.toNat (p0.length : Int)) (0 : Int)).set (Int.toNat (W ((p0.length : Int) - 1))) (-1))).length = (List.replicate (Int.toNat (p0.length : Int)) (0 : Int)).length := List.length_set
   replace ha : Ag 42 [(0, .slice A_p0 p0.length c_p0), (3, .slice (some ⟨b1, o1, none⟩) ((List.replicate (Int.toNat (p0.length : Int)) (0 : Int)).set (Int.toNat (W ((p0.length : Int) - 1))) (-1)).length c1)] a := by rw [hl1]; exact ha.to (by kernel_rfl)
   replace f2 : Ow (tInt .i64) 3 (Wr nob w) w3.heap S1 (.slice (some ⟨b1, o1, none⟩) ((List.replicate (Int.toNat (p0.length : Int)) (0 : Int)).set (Int.toNat (W ((p0.length : Int) - 1))) (-1)).length c1) ((List.replicate (Int.toNat (p0.length : Int)) (0 : Int)).set (Int.toNat (W ((p0.length : Int) - 1))) (-1)) := by rw [hl1]; exact f2
   refine hK _ _ ?_
   clear hK
   refine sq fun K hK => ?_
   refine sq fun K hK => ?_
   refine reg ?_
   refine sg ha 3 [(3, vS (some ⟨b1, o1, none⟩) ((List.replicate (Int.toNat (p0.length : Int)) (0 : Int)).set (Int.toNat (W ((p0.length : Int) - 1))) (-1)) c1), (17, vS A_p0 p0 c_p0), (18, vI (p0.length : Int)), (19, vI 0)] w3 fun a ha => ?_
   refine hK _ _ ?_
   clear hK
   refine wp_block ?_
   obtain ⟨t1, ht1, h⟩ := obind h
   refine wp_mono (wp_iter (step := (m_term_Up_l1 fuel p0)) (I := fun (s : List Int × Int) a w4 => match s with | (x2, x3) => ∃ (S2 : Off), ∃ (A2 : Option Addr) (c2 : Nat), Cx w nob S w4 S2 ∧ Ow (tInt .i64) 3 (Wr nob w) w4.heap S2 (vS A2 x2 c2) x2 ∧ Sl tTerm w4.heap S2 A_p0 c_p0 p0 ∧ Ag 42 [(3, vS A2 x2 c2), (17, vS A_p0 p0 c_p0), (18, vI (p0.length : Int)), (19, vI x3)] a) (D := fun (t : List Int) e a w5 => match t with | y1 => e = .exit 0 ∧ ∃ (S3 : Off), ∃ (A3 : Option Addr) (c3 : Nat), Cx w nob S w5 S3 ∧ Ow (tInt .i64) 3 (Wr nob w) w5.heap S3 (vS A3 y1 c3) y1 ∧ Ag 42 [(3, vS A3 y1 c3)] a) ?_ fuel _ t1 a _ ht1 ?_) ?_
   · clear h ht1
     rintro ⟨x2, x3⟩ ct a w4 ⟨S2, A2, c2, cx, f3, h_p0, ha⟩ h
     refine with_nop (NoP.loop (fun t c a w h => by cases t <;> exact absurd h.1 (by simp))) (fun hq => ?_)
     unfold m_term_Up_l1 at h
     refine sq fun K hK => ?_
     refine reg ?_
     refine sg ha 1 [(3, vS A2 x2 c2), (17, vS A_p0 p0 c_p0), (18, vI (p0.length : Int)), (19, vI x3), (20, vB (decide (x3 < (p0.length : Int))))] w4 fun a ha => ?_
     refine hK _ _ ?_
     clear hK
     refine sq fun K hK => ?_
     refine cond_b ha rfl (fun hb => ?_) (fun hb => ?_)
     · replace h := itT hb h
       refine wp_skip ?_
       refine hK _ _ ?_
       clear hK
       refine sq fun K hK => ?_
       obtain ⟨q1, hj1, h⟩ := obind h
       refine wp_cutV (D := fun a w6 => ∃ x4 : List Int, ∃ (S4 : Off), ∃ (A4 : Option Addr) (c4 : Nat), x4 = q1 ∧ Cx w nob S w6 S4 ∧ Ow (tInt .i64) 3 (Wr nob w) w6.heap S4 (vS A4 x4 c4) x4 ∧ Sl tTerm w6.heap S4 A_p0 c_p0 p0 ∧ Ag 42 [(3, vS A4 x4 c4), (17, vS A_p0 p0 c_p0), (18, vI (p0.length : Int)), (19, vI x3)] a) ?_ ?_
       · clear h; have h := hj1
         refine wp_block ?_
         refine sq fun K hK => ?_
         refine reg ?_
         refine sg ha 1 [(3, vS A2 x2 c2), (17, vS A_p0 p0 c_p0), (18, vI (p0.length : Int)), (19, vI x3), (21, vI x3)] w4 fun a ha => ?_
         obtain ⟨hi2, h⟩ := ite_some h
         obtain ⟨b2, o2, cs2, rfl, hr2, hc2⟩ := h_p0.rdb.get hi2
         obtain ⟨rfl, hl2⟩ := hr2
         refine ov (vE b2 o2 x3 8) ha (obx w4 rfl rfl rfl Try.underlying22 rfl hi2) fun a ha => ?_
         refine ov (.agg #[vI ((gt p0 x3).Kind), vI ((gt p0 x3).A), vI ((gt p0 x3).B), vI ((gt p0 x3).N), .int .u64 (gt ((gt p0 x3).Set) 0), .int .u64 (gt ((gt p0 x3).Set) 1), .int .u64 (gt ((gt p0 x3).Set) 2), .int .u64 (gt ((gt p0 x3).Set) 3)]) ha (ob_loadn (cs := [vI ((gt p0 x3).Kind), vI ((gt p0 x3).A), vI ((gt p0 x3).B), vI ((gt p0 x3).N), .int .u64 (gt ((gt p0 x3).Set) 0), .int .u64 (gt ((gt p0 x3).Set) 1), .int .u64 (gt ((gt p0 x3).Set) 2), .int .u64 (gt ((gt p0 x3).Set) 3)]) w4 rfl rfl Try.underlying42 rfl (by kernel_rfl) (fun j v hj => (cell_add2 _ _ _ _ _).trans (hc2 j v hj))) fun a ha => ?_
         refine op_new (V := fun b => vP b) (cs := [vI 0, vI 0, vI 0, vI 0, .int .u64 0, .int .u64 0, .int .u64 0, .int .u64 0]) (T := 42) ha (by kernel_rfl) (by kernel_rfl) ?_
         intro w7 b3 hb3 hk1 he1 _ a ha
         refine sg ha 1 [(3, vS A2 x2 c2), (4, vI x3), (5, vP b3), (17, vS (some ⟨b2, o2, none⟩) p0 c_p0), (18, vI (p0.length : Int)), (19, vI x3), (23, .agg #[vI ((gt p0 x3).Kind), vI ((gt p0 x3).A), vI ((gt p0 x3).B), vI ((gt p0 x3).N), .int .u64 (gt ((gt p0 x3).Set) 0), .int .u64 (gt ((gt p0 x3).Set) 1), .int .u64 (gt ((gt p0 x3).Set) 2), .int .u64 (gt ((gt p0 x3).Set) 3)])] w7 fun a ha => ?_
         refine op_setAll (vs := [vI ((gt p0 x3).Kind), vI ((gt p0 x3).A), vI ((gt p0 x3).B), vI ((gt p0 x3).N), .int .u64 (gt ((gt p0 x3).Set) 0), .int .u64 (gt ((gt p0 x3).Set) 1), .int .u64 (gt ((gt p0 x3).Set) 2), .int .u64 (gt ((gt p0 x3).Set) 3)]) (v := .agg #[vI ((gt p0 x3).Kind), vI ((gt p0 x3).A), vI ((gt p0 x3).B), vI ((gt p0 x3).N), .int .u64 (gt ((gt p0 x3).Set) 0), .int .u64 (gt ((gt p0 x3).Set) 1), .int .u64 (gt ((gt p0 x3).Set) 2), .int .u64 (gt ((gt p0 x3).Set) 3)]) ha (by kernel_rfl) rfl rfl rfl rfl hk1 (by kernel_rfl) (by kernel_rfl) ?_
         intro w8 on2 _ hk2 a ha
         have hb4 := var_done hb3 on2 he1
         have f6 := Bx.new cx hk2 he1
         replace f3 := f3.ext hb4
         replace h_p0 := h_p0.keep (Keep.ext S2 hb4)
         replace cx := cx.ext hb4
         refine hK _ _ ?_
         clear hK
         refine sq fun K hK => ?_
         obtain ⟨q2, hj2, h⟩ := obind h
         refine wp_cutV (D := fun a w9 => ∃ x5 : List Int, ∃ (S5 : Off), ∃ (A5 : Option Addr) (c5 : Nat), x5 = q2 ∧ Cx w nob S w9 S5 ∧ Ow (tInt .i64) 3 (Wr nob w) w9.heap S5 (vS A5 x5 c5) x5 ∧ Bx w9.heap S5 b3 42 [vI ((gt p0 x3).Kind), vI ((gt p0 x3).A), vI ((gt p0 x3).B), vI ((gt p0 x3).N), .int .u64 (gt ((gt p0 x3).Set) 0), .int .u64 (gt ((gt p0 x3).Set) 1), .int .u64 (gt ((gt p0 x3).Set) 2), .int .u64 (gt ((gt p0 x3).Set) 3)] ∧ Sl tTerm w9.heap S5 (some ⟨b2, o2, none⟩) c_p0 p0 ∧ Ag 42 [(3, vS A5 x5 c5), (4, vI x3), (5, vP b3), (17, vS (some ⟨b2, o2, none⟩) p0 c_p0), (18, vI (p0.length : Int)), (19, vI x3)] a) ?_ ?_
         · clear h; have h := hj2
           refine sq fun K hK => ?_
           refine reg ?_
           refine sg ha 1 [(3, vS A2 x2 c2), (4, vI x3), (5, vP b3), (17, vS (some ⟨b2, o2, none⟩) p0 c_p0), (18, vI (p0.length : Int)), (19, vI x3), (24, vF b3 1)] w8 fun a ha => ?_
           refine ov (.int .i64 ((gt p0 x3).A)) ha (ob_load w8 rfl rfl Try.underlying3 rfl ((cell_add1 _ _ _ _).trans (by rw [Nat.zero_add]; exact f6.cell 1 _ rfl))) fun a ha => ?_
           refine sg ha 1 [(3, vS A2 x2 c2), (4, vI x3), (5, vP b3), (17, vS (some ⟨b2, o2, none⟩) p0 c_p0), (18, vI (p0.length : Int)), (19, vI x3), (26, vB (decide (((gt p0 x3).A) ≥ 0)))] w8 fun a ha => ?_
           refine hK _ _ ?_
           clear hK
           refine cond_b ha rfl (fun hb => ?_) (fun hb => ?_)
           · replace h := itT hb h
             refine reg ?_
             refine sg ha 2 [(3, vS A2 x2 c2), (4, vI x3), (5, vP b3), (17, vS (some ⟨b2, o2, none⟩) p0 c_p0), (18, vI (p0.length : Int)), (19, vI x3), (27, vS A2 x2 c2), (28, vF b3 1)] w8 fun a ha => ?_
             refine ov (.int .i64 ((gt p0 x3).A)) ha (ob_load w8 rfl rfl Try.underlying3 rfl ((cell_add1 _ _ _ _).trans (by rw [Nat.zero_add]; exact f6.cell 1 _ rfl))) fun a ha => ?_
             refine sg ha 1 [(3, vS A2 x2 c2), (4, vI x3), (5, vP b3), (17, vS (some ⟨b2, o2, none⟩) p0 c_p0), (18, vI (p0.length : Int)), (19, vI x3), (27, vS A2 x2 c2), (29, vI ((gt p0 x3).A)), (30, vI x3)] w8 fun a ha => ?_
             obtain ⟨hi3, h⟩ := ite_some h
             obtain ⟨b4, o3, cs3, rfl, hr3, hc3⟩ := f3.rdb.get hi3
             obtain rfl := hr3
             refine ov (vE b4 o3 ((gt p0 x3).A) 1) ha (obx w8 rfl rfl rfl Try.underlying25 rfl hi3) fun a ha => ?_
             refine op_setEl (T := (tInt .i64)) (f := 0) (x' := x3) ha cx (by kernel_rfl) rfl rfl rfl wr_id f3 hi3 (by kernel_rfl) (add1_eq _ _ _) (by kernel_rfl) (by rintro H2 _ _ rfl; rfl) ?_
             intro w10 cx on3 kp3 f8 a ha
             replace f6 := f6.keep kp3
             replace h_p0 := h_p0.keep kp3
             have hl3 : ((x2.set (Int.toNat ((gt p0 x3).A)) x3)).length = x2.length := List.length_set
             replace ha : Ag 42 [(3, .slice (some ⟨b4, o3, none⟩) (x2.set (Int.toNat ((gt p0 x3).A)) x3).length c2), (4, .int .i64 x3), (5, .pointer (some ⟨b3, 0, none⟩)), (17, .slice (some ⟨b2, o2, none⟩) p0.length c_p0), (18, .int .i64 (p0.length : Int)), (19, .int .i64 x3)] a := by rw [hl3]; exact ha.to (by kernel_rfl)
             replace f8 : Ow (tInt .i64) 3 (Wr nob w) w10.heap S2 (.slice (some ⟨b4, o3, none⟩) (x2.set (Int.toNat ((gt p0 x3).A)) x3).length c2) (x2.set (Int.toNat ((gt p0 x3).A)) x3) := by rw [hl3]; exact f8
             obtain rfl := Option.some.inj h
             exact ⟨_, _, (some ⟨b4, o3, none⟩), c2, rfl, cx, f8, f6, h_p0, ha.to (by kernel_rfl)⟩
           · replace h := itF hb h
             refine wp_skip ?_
             obtain rfl := Option.some.inj h
             exact ⟨_, _, A2, c2, rfl, cx, f3, f6, h_p0, ha.to (by kernel_rfl)⟩
         rintro a w9 ⟨x5, S5, A5, c5, rfl, cx, f7, f6, h_p0, ha⟩
         refine hK _ _ ?_
         clear hK
         refine sq fun K hK => ?_
         refine reg ?_
         refine sg ha 1 [(3, vS A5 x5 c5), (4, vI x3), (5, vP b3), (17, vS (some ⟨b2, o2, none⟩) p0 c_p0), (18, vI (p0.length : Int)), (19, vI x3), (32, vF b3 2)] w9 fun a ha => ?_
         refine ov (.int .i64 ((gt p0 x3).B)) ha (ob_load w9 rfl rfl Try.underlying3 rfl ((cell_add1 _ _ _ _).trans (by rw [Nat.zero_add]; exact f6.cell 2 _ rfl))) fun a ha => ?_
         refine sg ha 1 [(3, vS A5 x5 c5), (4, vI x3), (5, vP b3), (17, vS (some ⟨b2, o2, none⟩) p0 c_p0), (18, vI (p0.length : Int)), (19, vI x3), (34, vB (decide (((gt p0 x3).B) ≥ 0)))] w9 fun a ha => ?_
         refine hK _ _ ?_
         clear hK
         refine cond_b ha rfl (fun hb => ?_) (fun hb => ?_)
         · replace h := itT hb h
           refine reg ?_
           refine sg ha 2 [(3, vS A5 x5 c5), (4, vI x3), (17, vS (some ⟨b2, o2, none⟩) p0 c_p0), (18, vI (p0.length : Int)), (19, vI x3), (35, vS A5 x5 c5), (36, vF b3 2)] w9 fun a ha => ?_
           refine ov (.int .i64 ((gt p0 x3).B)) ha (ob_load w9 rfl rfl Try.underlying3 rfl ((cell_add1 _ _ _ _).trans (by rw [Nat.zero_add]; exact f6.cell 2 _ rfl))) fun a ha => ?_
           refine sg ha 1 [(3, vS A5 x5 c5), (17, vS (some ⟨b2, o2, none⟩) p0 c_p0), (18, vI (p0.length : Int)), (19, vI x3), (35, vS A5 x5 c5), (37, vI ((gt p0 x3).B)), (38, vI x3)] w9 fun a ha => ?_
           obtain ⟨hi4, h⟩ := ite_some h
           obtain ⟨b5, o4, cs4, rfl, hr4, hc4⟩ := f7.rdb.get hi4
           obtain rfl := hr4
           refine ov (vE b5 o4 ((gt p0 x3).B) 1) ha (obx w9 rfl rfl rfl Try.underlying25 rfl hi4) fun a ha => ?_
           refine op_setEl (T := (tInt .i64)) (f := 0) (x' := x3) ha cx (by kernel_rfl) rfl rfl rfl wr_id f7 hi4 (by kernel_rfl) (add1_eq _ _ _) (by kernel_rfl) (by rintro H2 _ _ rfl; rfl) ?_
           intro w11 cx on4 kp4 f9 a ha
           replace h_p0 := h_p0.keep kp4
           have hl4 : ((x5.set (Int.toNat ((gt p0 x3).B)) x3)).length = x5.length := List.length_set
           replace ha : Ag 42 [(3, .slice (some ⟨b5, o4, none⟩) (x5.set (Int.toNat ((gt p0 x3).B)) x3).length c5), (17, .slice (some ⟨b2, o2, none⟩) p0.length c_p0), (18, .int .i64 (p0.length : Int)), (19, .int .i64 x3)] a := by rw [hl4]; exact ha.to (by kernel_rfl)
           replace f9 : Ow (tInt .i64) 3 (Wr nob w) w11.heap S5 (.slice (some ⟨b5, o4, none⟩) (x5.set (Int.toNat ((gt p0 x3).B)) x3).length c5) (x5.set (Int.toNat ((gt p0 x3).B)) x3) := by rw [hl4]; exact f9
           obtain rfl := Option.some.inj h
           exact ⟨_, _, (some ⟨b5, o4, none⟩), c5, rfl, cx, f9, h_p0, ha.to (by kernel_rfl)⟩
         · replace h := itF hb h
           refine wp_skip ?_
           obtain rfl := Option.some.inj h
           exact ⟨_, _, A5, c5, rfl, cx, f7, h_p0, ha.to (by kernel_rfl)⟩
       rintro a w6 ⟨x4, S4, A4, c4, rfl, cx, f5, h_p0, ha⟩
       refine hK _ _ ?_
       clear hK
       refine reg ?_
       refine sg ha 2 [(3, vS A4 x4 c4), (17, vS A_p0 p0 c_p0), (18, vI (p0.length : Int)), (19, vI (W (x3 + 1)))] w6 fun a ha => ?_
       obtain rfl := Option.some.inj h
       exact ⟨_, rfl, S4, A4, c4, cx, f5, h_p0, ha.to (by kernel_rfl)⟩
     · replace h := itF hb h
       refine wp_exit ?_
       obtain rfl := Option.some.inj h
       exact ⟨_, rfl, rfl, S2, A2, c2, cx, f3, ha.to (by kernel_rfl)⟩
   · exact ⟨S1, (some ⟨b1, o1, none⟩), c1, cx, f2, h_p0, ha.to (by kernel_rfl)⟩
   intro e a w5 hd
   generalize t1 = y1 at *
   obtain ⟨rfl, S3, A3, c3, cx, f4, ha⟩ := hd
   refine hK _ _ ?_
   clear hK
   refine sq fun K hK => ?_
   refine reg ?_
   refine sg ha 2 [(2, vS A3 y1 c3)] w5 fun a ha => ?_
   refine hK _ _ ?_
   clear hK
   refine wp_ret ?_
   obtain rfl := Option.some.inj h
   show bodyPost Try.prog Try.f86 (R86 w S _) .ret a w5
   exact ret_1 (r1 := .tmp 2) (v1 := vS A3 y1 c3) ha rfl (.inl rfl) rfl ⟨_, rfl, cx.below, ⟨_, _, rfl, f4.result cx.sub⟩⟩
def post87 (w : World) (S : Off) (r : ((List Int))) (v : Value) (w1 : World) : Prop := ∃ (A : Option Addr) (c : Nat), v = .slice A r.length c ∧ Ow (tInt .i64) 3 (Wr nob w) w1.heap (inV v S) v r
abbrev R87 (w : World) (S : Off) (r : ((List Int))) : Ending → World → Prop := fun e w1 => ∃ v, e = .returned v ∧ Below w.heap.size w w1 ∧ post87 w S r v w1
theorem ok87 (fuel : Nat) {w : World} {S : Off} (hS : ∀ b, S b → b < w.heap.size) {p0 : (List MTerm)} {A_p0 : Option Addr} {c_p0 : Nat} (h_p0 : Sl tTerm w.heap S A_p0 c_p0 p0) {r : ((List Int))} (h : m_term_Deep fuel p0 = some r) :
 Calls Try.prog 87 #[vS A_p0 p0 c_p0] w (R87 w S r) := by
 refine enterL (vs := [vS A_p0 p0 c_p0]) Try.func87 rfl rfl ?_
 intro a ha
 have cx := Cx.start (W0 := nob) hS
 refine with_nop (noP_body _ _) (fun hq => ?_)
 unfold m_term_Deep at h
 refine sq fun K hK => ?_
 refine reg ?_
 refine sg ha 1 [(0, vS A_p0 p0 c_p0)] w fun a ha => ?_
 refine hK _ _ ?_
 clear hK
 refine sq fun K hK => ?_
 refine reg ?_
 refine sg ha 1 [(6, vS A_p0 p0 c_p0)] w fun a ha => ?_
 obtain ⟨x1, hx1, h⟩ := obind h
 refine op_call ha (by kernel_rfl) (f := 86) (args := #[vS A_p0 p0 c_p0]) (w' := w) (by kernel_rfl) (ok86 fuel (p0 := p0) cx.lt h_p0 hx1) ?_
 rintro v1 w1 ⟨hb1, hp1⟩ a ha
 obtain ⟨A1, c1, rfl, f1⟩ := hp1
 replace f1 := own_out cx f1
 replace cx := cx.ext hb1
 refine sg ha 1 [(3, vS A1 x1 c1)] w1 fun a ha => ?_
 refine hK _ _ ?_
 clear hK
 refine sq fun K hK => ?_
 refine reg ?_
 refine sg ha 2 [(3, vS A1 x1 c1), (9, vI (x1.length : Int))] w1 fun a ha => ?_
 obtain ⟨hp2, h⟩ := ite_some h
 refine op_make (T := (tInt .i64)) (z := vI 0) (zx := (0 : Int)) (bytes := 8) ha cx (by kernel_rfl) rfl rfl rfl Try.underlying25 (by kernel_rfl) (by kernel_rfl) (fun _ _ => rfl) hp2 ?_
 intro w2 S1 A2 c2 cx hb2 kp1 hs1 hn1 f2 a ha
 replace f1 := f1.keep kp1
 refine sg ha 1 [(3, vS A1 x1 c1), (4, vS A2 (List.replicate (Int.toNat (x1.length : Int)) (0 : Int)) c2)] w2 fun a ha => ?_
 refine hK _ _ ?_
 clear hK
 refine sq fun K hK => ?_
 refine sq fun K hK => ?_
 refine reg ?_
 refine sg ha 4 [(3, vS A1 x1 c1), (4, vS A2 (List.replicate (Int.toNat (x1.length : Int)) (0 : Int)) c2), (5, vI (W ((x1.length : Int) - 1)))] w2 fun a ha => ?_
 refine hK _ _ ?_
 clear hK
 refine wp_block ?_
 obtain ⟨t1, ht1, h⟩ := obind h
 refine wp_mono (wp_iter (step := (m_term_Deep_l1 fuel x1)) (I := fun (s : List Int × Int) a w3 => match s with | (x2, x3) => ∃ (S2 : Off), ∃ (A3 : Option Addr) (c3 : Nat), Cx w nob S w3 S2 ∧ Sl (tInt .i64) w3.heap S2 A1 c1 x1 ∧ Ow (tInt .i64) 3 (Wr nob w) w3.heap S2 (vS A3 x2 c3) x2 ∧ Ag 40 [(3, vS A1 x1 c1), (4, vS A3 x2 c3), (5, vI x3)] a) (D := fun (t : List Int) e a w4 => match t with | y1 => e = .exit 0 ∧ ∃ (S3 : Off), ∃ (A4 : Option Addr) (c4 : Nat), Cx w nob S w4 S3 ∧ Ow (tInt .i64) 3 (Wr nob w) w4.heap S3 (vS A4 y1 c4) y1 ∧ Ag 40 [(4, vS A4 y1 c4)] a) ?_ fuel _ t1 a _ ht1 ?_) ?_
 · clear h ht1
   rintro ⟨x2, x3⟩ ct a w3 ⟨S2, A3, c3, cx, f1, f3, ha⟩ h
   refine with_nop (NoP.loop (fun t c a w h => by cases t <;> exact absurd h.1 (by simp))) (fun hq => ?_)
   unfold m_term_Deep_l1 at h
   refine sq fun K hK => ?_
   refine sq fun K hK => ?_
   refine reg ?_
   refine sg ha 2 [(3, vS A1 x1 c1), (4, vS A3 x2 c3), (5, vI x3), (15, vB (decide (x3 ≥ 0)))] w3 fun a ha => ?_
   refine hK _ _ ?_
   clear hK
   refine cond_b ha rfl (fun hb => ?_) (fun hb => ?_)
   · replace h := itT hb h
     refine wp_skip ?_
     refine hK _ _ ?_
     clear hK
     refine sq fun K hK => ?_
     obtain ⟨q1, hj1, h⟩ := obind h
     refine wp_cutV (D := fun a w5 => ∃ x4 : List Int, ∃ (S4 : Off), ∃ (A5 : Option Addr) (c5 : Nat), x4 = q1 ∧ Cx w nob S w5 S4 ∧ Sl (tInt .i64) w5.heap S4 A1 c1 x1 ∧ Ow (tInt .i64) 3 (Wr nob w) w5.heap S4 (vS A5 x4 c5) x4 ∧ Ag 40 [(3, vS A1 x1 c1), (4, vS A5 x4 c5), (5, vI x3)] a) ?_ ?_
     · clear h; have h := hj1
       refine wp_block ?_
       refine sq fun K hK => ?_
       refine reg ?_
       refine sg ha 2 [(3, vS A1 x1 c1), (4, vS A3 x2 c3), (5, vI x3), (18, vS A3 x2 c3), (19, vI x3)] w3 fun a ha => ?_
       obtain ⟨hi1, h⟩ := ite_some h
       obtain ⟨b1, o1, cs1, rfl, hr1, hc1⟩ := f3.rdb.get hi1
       obtain rfl := hr1
       refine ov (vE b1 o1 x3 1) ha (obx w3 rfl rfl rfl Try.underlying25 rfl hi1) fun a ha => ?_
       refine op_setEl (T := (tInt .i64)) (f := 0) (x' := 1) ha cx (by kernel_rfl) rfl rfl rfl wr_id f3 hi1 (by kernel_rfl) (add1_eq _ _ _) (by kernel_rfl) (by rintro H2 _ _ rfl; rfl) ?_
       intro w6 cx on1 kp2 f6 a ha
       replace f1 := f1.keep kp2
       have hl1 : ((x2.set (Int.toNat x3) 1)).length = x2.length := List.length_set
       replace ha : Ag 40 [(3, .slice A1 x1.length c1), (4, .slice (some ⟨b1, o1, none⟩) (x2.set (Int.toNat x3) 1).length c3), (5, .int .i64 x3)] a := by rw [hl1]; exact ha.to (by kernel_rfl)
       replace f6 : Ow (tInt .i64) 3 (Wr nob w) w6.heap S2 (.slice (some ⟨b1, o1, none⟩) (x2.set (Int.toNat x3) 1).length c3) (x2.set (Int.toNat x3) 1) := by rw [hl1]; exact f6
       refine hK _ _ ?_
       clear hK
       refine sq fun K hK => ?_
       refine reg ?_
       refine sg ha 2 [(3, vS A1 x1 c1), (4, vS (some ⟨b1, o1, none⟩) (x2.set (Int.toNat x3) 1) c3), (5, vI x3), (21, vS A1 x1 c1), (22, vI x3)] w6 fun a ha => ?_
       obtain ⟨hi2, h⟩ := ite_some h
       obtain ⟨b2, o2, cs2, rfl, hr2, hc2⟩ := f1.rdb.get hi2
       obtain rfl := hr2
       refine ov (vE b2 o2 x3 1) ha (obx w6 rfl rfl rfl Try.underlying25 rfl hi2) fun a ha => ?_
       refine ov (vI (gt x1 x3)) ha (ob_load w6 rfl rfl Try.underlying3 rfl ((cell_add1 _ _ _ _).trans (hc2 0 _ rfl))) fun a ha => ?_
       refine sg ha 1 [(3, vS (some ⟨b2, o2, none⟩) x1 c1), (4, vS (some ⟨b1, o1, none⟩) (x2.set (Int.toNat x3) 1) c3), (5, vI x3), (25, vB (decide ((gt x1 x3) ≥ 0)))] w6 fun a ha => ?_
       refine hK _ _ ?_
       clear hK
       refine cond_b ha rfl (fun hb => ?_) (fun hb => ?_)
       · replace h := itT hb h
         refine dr_start 13 S2 rfl ?_
         intro w7 e1 hb3
         replace f1 := f1.keep (Keep.ext S2 hb3)
         replace f6 := f6.ext hb3
         replace cx := cx.ext hb3
         have hkk := Keep.refl w7.heap S2
         have hold := Sold.start w7
         have g1 := f1
         have g2 := f6
         refine dk 0 (vS (some ⟨b1, o1, none⟩) (x2.set (Int.toNat x3) 1) c3) ha hq rfl (Sd.start _ _ _ _) fun hsx a ha => ?_
         refine dk 1 (vI x3) ha hq rfl hsx fun hsx a ha => ?_
         obtain ⟨hi3, h⟩ := ite_some h
         obtain ⟨cs3, hr3, hc3⟩ := g2.rdb.at hi3
         obtain rfl := hr3
         refine dv 2 (vE b1 o1 x3 1) ha hq rfl (fun w2 hw2 hw3 => obx w2 rfl rfl rfl Try.underlying25 rfl hi3) hsx fun hsx a ha => ?_
         refine dv 3 (vI (gt (x2.set (Int.toNat x3) 1) x3)) ha hq rfl (fun w2 hw2 hw3 => ob_load w2 rfl rfl Try.underlying3 rfl ((cell_add1 _ _ _ _).trans (Sold.cell (hw3 (by kernel_rfl)) (hc3 0 _ rfl)))) hsx fun hsx a ha => ?_
         refine dk 4 (vS (some ⟨b1, o1, none⟩) (x2.set (Int.toNat x3) 1) c3) ha hq rfl hsx fun hsx a ha => ?_
         refine dk 5 (vS (some ⟨b2, o2, none⟩) x1 c1) ha hq rfl hsx fun hsx a ha => ?_
         refine dk 6 (vI x3) ha hq rfl hsx fun hsx a ha => ?_
         obtain ⟨hi4, h⟩ := ite_some h
         obtain ⟨cs4, hr4, hc4⟩ := g1.rdb.at hi4
         obtain rfl := hr4
         refine dv 7 (vE b2 o2 x3 1) ha hq rfl (fun w2 hw2 hw3 => obx w2 rfl rfl rfl Try.underlying25 rfl hi4) hsx fun hsx a ha => ?_
         refine dv 8 (vI (gt x1 x3)) ha hq rfl (fun w2 hw2 hw3 => ob_load w2 rfl rfl Try.underlying3 rfl ((cell_add1 _ _ _ _).trans (Sk.cell (g1.off hi4) hw2 (hc4 0 _ rfl)))) hsx fun hsx a ha => ?_
         obtain ⟨hi5, h⟩ := ite_some h
         obtain ⟨cs5, hr5, hc5⟩ := g2.rdb.at hi5
         obtain rfl := hr5
         refine dv 9 (vE b1 o1 (gt x1 x3) 1) ha hq rfl (fun w2 hw2 hw3 => obx w2 rfl rfl rfl Try.underlying25 rfl hi5) hsx fun hsx a ha => ?_
         refine dv 10 (vI (gt (x2.set (Int.toNat x3) 1) (gt x1 x3))) ha hq rfl (fun w2 hw2 hw3 => ob_load w2 rfl rfl Try.underlying3 rfl ((cell_add1 _ _ _ _).trans (Sold.cell (hw3 (by kernel_rfl)) (hc5 0 _ rfl)))) hsx fun hsx a ha => ?_
         refine dk 11 (vI (W ((gt (x2.set (Int.toNat x3) 1) x3) + (gt (x2.set (Int.toNat x3) 1) (gt x1 x3))))) ha hq rfl hsx fun hsx a ha => ?_
         obtain ⟨hi6, h⟩ := ite_some h
         obtain ⟨cs6, hr6, hc6⟩ := g2.rdb.at hi6
         obtain rfl := hr6
         refine dv 12 (vE b1 o1 x3 1) ha hq rfl (fun w2 hw2 hw3 => obx w2 rfl rfl rfl Try.underlying25 rfl hi6) hsx fun hsx a ha => ?_
         refine dr_one (i := 13) (by kernel_rfl) rfl ?_
         refine op_setEl (T := (tInt .i64)) (f := 0) (x' := (W ((gt (x2.set (Int.toNat x3) 1) x3) + (gt (x2.set (Int.toNat x3) 1) (gt x1 x3))))) ha cx (by kernel_rfl) rfl rfl rfl wr_id f6 hi6 (by kernel_rfl) (add1_eq _ _ _) (by kernel_rfl) (by rintro H2 _ _ rfl; rfl) ?_
         intro w8 cx on2 kp3 f7 a ha
         replace f1 := f1.keep kp3
         have hl2 : (((x2.set (Int.toNat x3) 1).set (Int.toNat x3) (W ((gt (x2.set (Int.toNat x3) 1) x3) + (gt (x2.set (Int.toNat x3) 1) (gt x1 x3)))))).length = (x2.set (Int.toNat x3) 1).length := List.length_set
         replace ha : Ag 40 [(3, .slice (some ⟨b2, o2, none⟩) x1.length c1), (4, .slice (some ⟨b1, o1, none⟩) ((x2.set (Int.toNat x3) 1).set (Int.toNat x3) (W ((gt (x2.set (Int.toNat x3) 1) x3) + (gt (x2.set (Int.toNat x3) 1) (gt x1 x3))))).length c3), (5, .int .i64 x3)] a := by rw [hl2]; exact ha.to (by kernel_rfl)
         replace f7 : Ow (tInt .i64) 3 (Wr nob w) w8.heap S2 (.slice (some ⟨b1, o1, none⟩) ((x2.set (Int.toNat x3) 1).set (Int.toNat x3) (W ((gt (x2.set (Int.toNat x3) 1) x3) + (gt (x2.set (Int.toNat x3) 1) (gt x1 x3))))).length c3) ((x2.set (Int.toNat x3) 1).set (Int.toNat x3) (W ((gt (x2.set (Int.toNat x3) 1) x3) + (gt (x2.set (Int.toNat x3) 1) (gt x1 x3))))) := by rw [hl2]; exact f7
         replace hkk := hkk.trans kp3
         refine dr_next (Sd.behind hkk (by kernel_rfl)) ?_
         refine dr_done (by kernel_rfl) ?_
         replace ha := ha.to (l' := [(3, vS (some ⟨b2, o2, none⟩) x1 c1), (4, vS (some ⟨b1, o1, none⟩) ((x2.set (Int.toNat x3) 1).set (Int.toNat x3) (W ((gt (x2.set (Int.toNat x3) 1) x3) + (gt (x2.set (Int.toNat x3) 1) (gt x1 x3))))) c3), (5, vI x3)]) (by kernel_rfl)
         obtain rfl := Option.some.inj h
         exact ⟨_, _, (some ⟨b1, o1, none⟩), c3, rfl, cx, f1, f7, ha.to (by kernel_rfl)⟩
       · replace h := itF hb h
         refine wp_skip ?_
         obtain rfl := Option.some.inj h
         exact ⟨_, _, (some ⟨b1, o1, none⟩), c3, rfl, cx, f1, f6, ha.to (by kernel_rfl)⟩
     rintro a w5 ⟨x4, S4, A5, c5, rfl, cx, f1, f5, ha⟩
     refine hK _ _ ?_
     clear hK
     refine reg ?_
     refine sg ha 3 [(3, vS A1 x1 c1), (4, vS A5 x4 c5), (5, vI (W (x3 - 1)))] w5 fun a ha => ?_
     obtain rfl := Option.some.inj h
     exact ⟨_, rfl, S4, A5, c5, cx, f1, f5, ha.to (by kernel_rfl)⟩
   · replace h := itF hb h
     refine wp_exit ?_
     obtain rfl := Option.some.inj h
     exact ⟨_, rfl, rfl, S2, A3, c3, cx, f3, ha.to (by kernel_rfl)⟩
 · exact ⟨S1, A2, c2, cx, f1, f2, ha.to (by kernel_rfl)⟩
 intro e a w4 hd
 generalize t1 = y1 at *
 obtain ⟨rfl, S3, A4, c4, cx, f4, ha⟩ := hd
 refine hK _ _ ?_
 clear hK
 refine sq fun K hK => ?_
 refine reg ?_
 refine sg ha 2 [(2, vS A4 y1 c4)] w4 fun a ha => ?_
 refine hK _ _ ?_
 clear hK
 refine wp_ret ?_
 obtain rfl := Option.some.inj h
 show bodyPost Try.prog Try.f87 (R87 w S _) .ret a w4
 exact ret_1 (r1 := .tmp 2) (v1 := vS A4 y1 c4) ha rfl (.inl rfl) rfl ⟨_, rfl, cx.below, ⟨_, _, rfl, f4.result cx.sub⟩⟩
end Go.Proofs.Ytfhehbfifffipaa
