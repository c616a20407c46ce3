/- What the functions compute is what the program does. Its conditions: none. -/
import Derived.Test.YtfhehbfifffipaaVShort
import Derived.Test.YtfhehbfifffipaaTy
import Derived.Test.YtfhehbfifffipaaWae
set_option maxRecDepth 20000
set_option autoImplicit false
namespace Go.Proofs.Ytfhehbfifffipaa
open Go.V Go.RowKit
set_option linter.unusedVariables false
def post55 (w : World) (S : Off) (r : ((List Bool))) (v : Value) (w1 : World) : Prop := ∃ (A : Option Addr) (c : Nat), v = .slice A r.length c ∧ Ow tBool 4 (Wr nob w) w1.heap (inV v S) v r
abbrev R55 (w : World) (S : Off) (r : ((List Bool))) : Ending → World → Prop := fun e w1 => ∃ v, e = .returned v ∧ Below w.heap.size w w1 ∧ post55 w S r v w1
theorem ok55 (fuel : Nat) {w : World} {S : Off} (hS : ∀ b, S b → b < w.heap.size) {p0 : (List MTerm)} {A_p0 : Option Addr} {c_p0 : Nat} (h_p0 : Sl tTerm w.heap S A_p0 c_p0 p0) {r : ((List Bool))} (h : m_ref12_Can fuel p0 = some r) :
 Calls Try.prog 55 #[vS A_p0 p0 c_p0] w (R55 w S r) := by
 refine enterL (vs := [vS A_p0 p0 c_p0]) Try.func55 rfl rfl ?_
 intro a ha
 have cx := Cx.start (W0 := nob) hS
 refine with_nop (noP_body _ _) (fun hq => ?_)
 unfold m_ref12_Can at h
 refine sq fun K hK => ?_
 refine reg ?_
 refine sg ha 1 [(0, vS A_p0 p0 c_p0)] w fun a ha => ?_
 refine hK _ _ ?_
 clear hK
 refine sq fun K hK => ?_
 refine sq fun K hK => ?_
 refine reg ?_
 refine sg ha 1 [(0, vS A_p0 p0 c_p0), (5, vS A_p0 p0 c_p0)] w fun a ha => ?_
 obtain ⟨x1, hx1, h⟩ := obind h
 refine op_call ha (by kernel_rfl) (f := 12) (args := #[vS A_p0 p0 c_p0]) (w' := w) (by kernel_rfl) (ok12 fuel (p0 := p0) cx.lt h_p0 hx1) ?_
 rintro v1 w1 ⟨hb1, hp1⟩ a ha
 obtain rfl := hp1
 replace h_p0 := h_p0.keep (Keep.ext S hb1)
 replace cx := cx.ext hb1
 refine sg ha 1 [(0, vS A_p0 p0 c_p0), (7, vB (!x1))] w1 fun a ha => ?_
 refine hK _ _ ?_
 clear hK
 refine cond_b ha rfl (fun hb => ?_) (fun hb => ?_)
 · replace h := itT hb h
   refine sq fun K hK => ?_
   refine reg ?_
   refine sg ha 1 [(2, .slice none 0 0)] w1 fun a ha => ?_
   refine hK _ _ ?_
   clear hK
   refine wp_ret ?_
   obtain rfl := Option.some.inj h
   show bodyPost Try.prog Try.f55 (R55 w S _) .ret a w1
   exact ret_1 (r1 := .tmp 2) (v1 := .slice none 0 0) ha rfl (.inl rfl) rfl ⟨_, rfl, cx.below, ⟨_, _, rfl, Ow.nil⟩⟩
 · replace h := itF hb h
   refine wp_skip ?_
   refine hK _ _ ?_
   clear hK
   refine sq fun K hK => ?_
   refine reg ?_
   refine sg ha 2 [(0, vS A_p0 p0 c_p0), (9, vI (p0.length : Int))] w1 fun a ha => ?_
   obtain ⟨hp2, h⟩ := ite_some h
   refine op_make (T := tBool) (z := vB false) (zx := false) (bytes := 1) ha cx (by kernel_rfl) rfl rfl rfl Try.underlying84 (by kernel_rfl) (by kernel_rfl) (fun _ _ => rfl) hp2 ?_
   intro w2 S1 A1 c1 cx hb2 kp1 hs1 hn1 f1 a ha
   replace h_p0 := h_p0.keep kp1
   refine sg ha 1 [(0, vS A_p0 p0 c_p0), (3, vS A1 (List.replicate (Int.toNat (p0.length : Int)) false) c1)] w2 fun a ha => ?_
   refine hK _ _ ?_
   clear hK
   refine sq fun K hK => ?_
   refine sq fun K hK => ?_
   refine reg ?_
   refine sg ha 1 [(0, vS A_p0 p0 c_p0), (3, vS A1 (List.replicate (Int.toNat (p0.length : Int)) false) c1), (4, vI 0)] w2 fun a ha => ?_
   refine hK _ _ ?_
   clear hK
   refine wp_block ?_
   obtain ⟨t1, ht1, h⟩ := obind h
   refine wp_mono (wp_iter (step := (m_ref12_Can_l1 fuel p0)) (I := fun (s : List Bool × Int) a w3 => match s with | (x2, x3) => ∃ (S2 : Off), ∃ (A2 : Option Addr) (c2 : Nat), Cx w nob S w3 S2 ∧ Sl tTerm w3.heap S2 A_p0 c_p0 p0 ∧ Ow tBool 4 (Wr nob w) w3.heap S2 (vS A2 x2 c2) x2 ∧ Ag 90 [(0, vS A_p0 p0 c_p0), (3, vS A2 x2 c2), (4, vI x3)] a) (D := fun (t : List Bool) e a w4 => match t with | y1 => e = .exit 0 ∧ ∃ (S3 : Off), ∃ (A3 : Option Addr) (c3 : Nat), Cx w nob S w4 S3 ∧ Ow tBool 4 (Wr nob w) w4.heap S3 (vS A3 y1 c3) y1 ∧ Ag 90 [(3, vS A3 y1 c3)] a) ?_ fuel _ t1 a _ ht1 ?_) ?_
   · clear h ht1
     rintro ⟨x2, x3⟩ ct a w3 ⟨S2, A2, c2, cx, h_p0, f2, ha⟩ h
     refine with_nop (NoP.loop (fun t c a w h => by cases t <;> exact absurd h.1 (by simp))) (fun hq => ?_)
     unfold m_ref12_Can_l1 at h
     refine sq fun K hK => ?_
     refine sq fun K hK => ?_
     refine reg ?_
     refine sg ha 4 [(0, vS A_p0 p0 c_p0), (3, vS A2 x2 c2), (4, vI x3), (14, vB (decide (x3 < (p0.length : Int))))] w3 fun a ha => ?_
     refine hK _ _ ?_
     clear hK
     refine cond_b ha rfl (fun hb => ?_) (fun hb => ?_)
     · replace h := itT hb h
       refine wp_skip ?_
       refine hK _ _ ?_
       clear hK
       refine sq fun K hK => ?_
       obtain ⟨q1, hj1, h⟩ := obind h
       refine wp_cutV (D := fun a w5 => ∃ x4 : List Bool, ∃ (S4 : Off), ∃ (A4 : Option Addr) (c4 : Nat), x4 = q1 ∧ Cx w nob S w5 S4 ∧ Sl tTerm w5.heap S4 A_p0 c_p0 p0 ∧ Ow tBool 4 (Wr nob w) w5.heap S4 (vS A4 x4 c4) x4 ∧ Ag 90 [(0, vS A_p0 p0 c_p0), (3, vS A4 x4 c4), (4, vI x3)] a) ?_ ?_
       · clear h; have h := hj1
         refine wp_block ?_
         refine sq fun K hK => ?_
         refine reg ?_
         refine sg ha 2 [(0, vS A_p0 p0 c_p0), (3, vS A2 x2 c2), (4, vI x3), (17, vS A_p0 p0 c_p0), (18, vI x3)] w3 fun a ha => ?_
         obtain ⟨hi1, h⟩ := ite_some h
         obtain ⟨b1, o1, cs1, rfl, hr1, hc1⟩ := h_p0.rdb.get hi1
         obtain ⟨rfl, hl1⟩ := hr1
         refine ov (vE b1 o1 x3 8) ha (obx w3 rfl rfl rfl Try.underlying22 rfl hi1) fun a ha => ?_
         refine sg ha 1 [(0, vS (some ⟨b1, o1, none⟩) p0 c_p0), (3, vS A2 x2 c2), (4, vI x3), (20, .pointer (some (((⟨b1, o1, none⟩ : Addr).add (x3.toNat * 8)).add 0)))] w3 fun a ha => ?_
         refine ov (vI ((gt p0 x3).Kind)) ha (ob_load w3 rfl rfl Try.underlying3 rfl ((cell_add2 _ _ _ _ _).trans (hc1 0 _ rfl))) fun a ha => ?_
         refine hK _ _ ?_
         clear hK
         obtain ⟨q2, hj2, h⟩ := obind h
         refine wp_cutV (D := fun a w6 => ∃ x5 : List Bool, ∃ (S5 : Off), ∃ (A5 : Option Addr) (c5 : Nat), x5 = q2 ∧ Cx w nob S w6 S5 ∧ Sl tTerm w6.heap S5 (some ⟨b1, o1, none⟩) c_p0 p0 ∧ Ow tBool 4 (Wr nob w) w6.heap S5 (vS A5 x5 c5) x5 ∧ Ag 90 [(0, vS (some ⟨b1, o1, none⟩) p0 c_p0), (3, vS A5 x5 c5), (4, vI x3)] a) ?_ ?_
         · clear h; have h := hj2
           refine wp_block ?_
           refine sq fun K hK => ?_
           obtain ⟨q3, hj3, h⟩ := obind h
           refine wp_cutV (D := fun a w_ => ∃ x6 : Bool, x6 = q3 ∧ w3 = w_ ∧ Ag 90 [(0, vS (some ⟨b1, o1, none⟩) p0 c_p0), (3, vS A2 x2 c2), (4, vI x3), (21, vI ((gt p0 x3).Kind)), (22, vB x6)] a) ?_ ?_
           · clear h; have h := hj3
             refine sq fun K hK => ?_
             refine reg ?_
             refine sg ha 2 [(0, vS (some ⟨b1, o1, none⟩) p0 c_p0), (3, vS A2 x2 c2), (4, vI x3), (21, vI ((gt p0 x3).Kind)), (22, vB (((gt p0 x3).Kind) == 1))] w3 fun a ha => ?_
             refine hK _ _ ?_
             clear hK
             refine cond_b ha rfl (fun hb => ?_) (fun hb => ?_)
             · replace h := itT hb h
               refine wp_skip ?_
               obtain rfl := Option.some.inj h
               exact ⟨_, rfl, rfl, ha.to (by kernel_rfl)⟩
             · replace h := itF hb h
               refine sq fun K hK => ?_
               refine reg ?_
               refine sg ha 2 [(0, vS (some ⟨b1, o1, none⟩) p0 c_p0), (3, vS A2 x2 c2), (4, vI x3), (21, vI ((gt p0 x3).Kind)), (22, vB (((gt p0 x3).Kind) == 5))] w3 fun a ha => ?_
               refine hK _ _ ?_
               clear hK
               refine cond_b ha rfl (fun hb => ?_) (fun hb => ?_)
               · replace h := itT hb h
                 refine wp_skip ?_
                 obtain rfl := Option.some.inj h
                 exact ⟨_, rfl, rfl, ha.to (by kernel_rfl)⟩
               · replace h := itF hb h
                 refine reg ?_
                 refine sg ha 2 [(0, vS (some ⟨b1, o1, none⟩) p0 c_p0), (3, vS A2 x2 c2), (4, vI x3), (21, vI ((gt p0 x3).Kind)), (22, vB (((gt p0 x3).Kind) == 6))] w3 fun a ha => ?_
                 obtain rfl := Option.some.inj h
                 exact ⟨_, rfl, rfl, ha.to (by kernel_rfl)⟩
           rintro a _ ⟨x6, rfl, rfl, ha⟩
           refine hK _ _ ?_
           clear hK
           refine cond_b ha rfl (fun hb => ?_) (fun hb => ?_)
           · replace h := itT hb h
             refine reg ?_
             refine sg ha 2 [(0, vS (some ⟨b1, o1, none⟩) p0 c_p0), (3, vS A2 x2 c2), (4, vI x3), (26, vS A2 x2 c2), (27, vI x3)] w3 fun a ha => ?_
             obtain ⟨hi2, h⟩ := ite_some h
             obtain ⟨b2, o2, cs2, rfl, hr2, hc2⟩ := f2.rdb.get hi2
             obtain rfl := hr2
             refine ov (vE b2 o2 x3 1) ha (obx w3 rfl rfl rfl Try.underlying84 rfl hi2) fun a ha => ?_
             refine op_setEl (T := tBool) (f := 0) (x' := true) ha cx (by kernel_rfl) rfl rfl rfl wr_id f2 hi2 (by kernel_rfl) (add1_eq _ _ _) (by kernel_rfl) (by rintro H2 _ _ rfl; rfl) ?_
             intro w7 cx on1 kp2 f6 a ha
             replace h_p0 := h_p0.keep kp2
             have hl2 : ((x2.set (Int.toNat x3) true)).length = x2.length := List.length_set
             replace ha : Ag 90 [(0, .slice (some ⟨b1, o1, none⟩) p0.length c_p0), (3, .slice (some ⟨b2, o2, none⟩) (x2.set (Int.toNat x3) true).length c2), (4, .int .i64 x3)] a := by rw [hl2]; exact ha.to (by kernel_rfl)
             replace f6 : Ow tBool 4 (Wr nob w) w7.heap S2 (.slice (some ⟨b2, o2, none⟩) (x2.set (Int.toNat x3) true).length c2) (x2.set (Int.toNat x3) true) := by rw [hl2]; exact f6
             obtain rfl := Option.some.inj h
             exact ⟨_, _, (some ⟨b2, o2, none⟩), c2, rfl, cx, h_p0, f6, ha.to (by kernel_rfl)⟩
           · replace h := itF hb h
             refine sq fun K hK => ?_
             refine reg ?_
             refine sg ha 2 [(0, vS (some ⟨b1, o1, none⟩) p0 c_p0), (3, vS A2 x2 c2), (4, vI x3), (21, vI ((gt p0 x3).Kind)), (29, vB (((gt p0 x3).Kind) == 3))] w3 fun a ha => ?_
             refine hK _ _ ?_
             clear hK
             refine cond_b ha rfl (fun hb => ?_) (fun hb => ?_)
             · replace h := itT hb h
               obtain ⟨q4, hj4, h⟩ := obind h
               refine wp_cutV (D := fun a w8 => ∃ x7 : List Bool, ∃ (S6 : Off), ∃ (A6 : Option Addr) (c6 : Nat), x7 = q4 ∧ Cx w nob S w8 S6 ∧ Sl tTerm w8.heap S6 (some ⟨b1, o1, none⟩) c_p0 p0 ∧ Ow tBool 4 (Wr nob w) w8.heap S6 (vS A6 x7 c6) x7 ∧ Ag 90 [(0, vS (some ⟨b1, o1, none⟩) p0 c_p0), (3, vS A6 x7 c6), (4, vI x3)] a) ?_ ?_
               · clear h; have h := hj4
                 refine reg ?_
                 refine sg ha 5 [(0, vS (some ⟨b1, o1, none⟩) p0 c_p0), (3, vS A2 x2 c2), (4, vI x3), (31, vS A2 x2 c2), (32, vI x3), (33, vS A2 x2 c2), (34, vS (some ⟨b1, o1, none⟩) p0 c_p0), (35, vI x3)] w3 fun a ha => ?_
                 obtain ⟨hi3, h⟩ := ite_some h
                 obtain ⟨cs3, hr3, hc3⟩ := h_p0.rdb.at hi3
                 obtain ⟨rfl, hl3⟩ := hr3
                 refine ov (vE b1 o1 x3 8) ha (obx w3 rfl rfl rfl Try.underlying22 rfl hi3) fun a ha => ?_
                 refine sg ha 1 [(0, vS (some ⟨b1, o1, none⟩) p0 c_p0), (3, vS A2 x2 c2), (4, vI x3), (31, vS A2 x2 c2), (32, vI x3), (33, vS A2 x2 c2), (37, .pointer (some (((⟨b1, o1, none⟩ : Addr).add (x3.toNat * 8)).add 1)))] w3 fun a ha => ?_
                 refine ov (vI ((gt p0 x3).A)) ha (ob_load w3 rfl rfl Try.underlying3 rfl ((cell_add2 _ _ _ _ _).trans (hc3 1 _ rfl))) fun a ha => ?_
                 obtain ⟨hi4, h⟩ := ite_some h
                 obtain ⟨b3, o3, cs4, rfl, hr4, hc4⟩ := f2.rdb.get hi4
                 obtain rfl := hr4
                 refine ov (vE b3 o3 ((gt p0 x3).A) 1) ha (obx w3 rfl rfl rfl Try.underlying84 rfl hi4) fun a ha => ?_
                 refine ov (vB (gt x2 ((gt p0 x3).A))) ha (ob_load w3 rfl rfl Try.underlying4 rfl ((cell_add1 _ _ _ _).trans (hc4 0 _ rfl))) fun a ha => ?_
                 refine sg ha 1 [(0, vS (some ⟨b1, o1, none⟩) p0 c_p0), (3, vS (some ⟨b3, o3, none⟩) x2 c2), (4, vI x3), (31, vS (some ⟨b3, o3, none⟩) x2 c2), (32, vI x3), (41, vB (gt x2 ((gt p0 x3).A)))] w3 fun a ha => ?_
                 refine split_b (t := 41) ha rfl (fun hb ha => ?_) (fun hb ha => ?_)
                 · replace h := itT hb h
                   refine sg ha 3 [(0, vS (some ⟨b1, o1, none⟩) p0 c_p0), (3, vS (some ⟨b3, o3, none⟩) x2 c2), (4, vI x3), (31, vS (some ⟨b3, o3, none⟩) x2 c2), (32, vI x3), (41, vB true), (42, vS (some ⟨b3, o3, none⟩) x2 c2), (43, vS (some ⟨b1, o1, none⟩) p0 c_p0), (44, vI x3)] w3 fun a ha => ?_
                   obtain ⟨hi5, h⟩ := ite_some h
                   obtain ⟨cs5, hr5, hc5⟩ := h_p0.rdb.at hi5
                   obtain ⟨rfl, hl4⟩ := hr5
                   refine ov (vE b1 o1 x3 8) ha (obx w3 rfl rfl rfl Try.underlying22 rfl hi5) fun a ha => ?_
                   refine sg ha 1 [(0, vS (some ⟨b1, o1, none⟩) p0 c_p0), (3, vS (some ⟨b3, o3, none⟩) x2 c2), (4, vI x3), (31, vS (some ⟨b3, o3, none⟩) x2 c2), (32, vI x3), (41, vB true), (42, vS (some ⟨b3, o3, none⟩) x2 c2), (46, .pointer (some (((⟨b1, o1, none⟩ : Addr).add (x3.toNat * 8)).add 2)))] w3 fun a ha => ?_
                   refine ov (vI ((gt p0 x3).B)) ha (ob_load w3 rfl rfl Try.underlying3 rfl ((cell_add2 _ _ _ _ _).trans (hc5 2 _ rfl))) fun a ha => ?_
                   obtain ⟨hi6, h⟩ := ite_some h
                   obtain ⟨cs6, hr6, hc6⟩ := f2.rdb.at hi6
                   obtain rfl := hr6
                   refine ov (vE b3 o3 ((gt p0 x3).B) 1) ha (obx w3 rfl rfl rfl Try.underlying84 rfl hi6) fun a ha => ?_
                   refine ov (vB (gt x2 ((gt p0 x3).B))) ha (ob_load w3 rfl rfl Try.underlying4 rfl ((cell_add1 _ _ _ _).trans (hc6 0 _ rfl))) fun a ha => ?_
                   refine sg ha 1 [(0, vS (some ⟨b1, o1, none⟩) p0 c_p0), (3, vS (some ⟨b3, o3, none⟩) x2 c2), (4, vI x3), (31, vS (some ⟨b3, o3, none⟩) x2 c2), (32, vI x3), (50, vB (gt x2 ((gt p0 x3).B)))] w3 fun a ha => ?_
                   obtain ⟨hi7, h⟩ := ite_some h
                   obtain ⟨cs7, hr7, hc7⟩ := f2.rdb.at hi7
                   obtain rfl := hr7
                   refine ov (vE b3 o3 x3 1) ha (obx w3 rfl rfl rfl Try.underlying84 rfl hi7) fun a ha => ?_
                   refine op_setEl (T := tBool) (f := 0) (x' := (gt x2 ((gt p0 x3).B))) ha cx (by kernel_rfl) rfl rfl rfl wr_id f2 hi7 (by kernel_rfl) (add1_eq _ _ _) (by kernel_rfl) (by rintro H2 _ _ rfl; rfl) ?_
                   intro w9 cx on2 kp3 f8 a ha
                   replace h_p0 := h_p0.keep kp3
                   have hl5 : ((x2.set (Int.toNat x3) (gt x2 ((gt p0 x3).B)))).length = x2.length := List.length_set
                   replace ha : Ag 90 [(0, .slice (some ⟨b1, o1, none⟩) p0.length c_p0), (3, .slice (some ⟨b3, o3, none⟩) (x2.set (Int.toNat x3) (gt x2 ((gt p0 x3).B))).length c2), (4, .int .i64 x3)] a := by rw [hl5]; exact ha.to (by kernel_rfl)
                   replace f8 : Ow tBool 4 (Wr nob w) w9.heap S2 (.slice (some ⟨b3, o3, none⟩) (x2.set (Int.toNat x3) (gt x2 ((gt p0 x3).B))).length c2) (x2.set (Int.toNat x3) (gt x2 ((gt p0 x3).B))) := by rw [hl5]; exact f8
                   obtain rfl := Option.some.inj h
                   exact ⟨_, _, (some ⟨b3, o3, none⟩), c2, rfl, cx, h_p0, f8, ha.to (by kernel_rfl)⟩
                 · replace h := itF hb h
                   refine sg ha 9 [(0, vS (some ⟨b1, o1, none⟩) p0 c_p0), (3, vS (some ⟨b3, o3, none⟩) x2 c2), (4, vI x3), (31, vS (some ⟨b3, o3, none⟩) x2 c2), (32, vI x3), (50, vB false)] w3 fun a ha => ?_
                   obtain ⟨hi8, h⟩ := ite_some h
                   obtain ⟨cs8, hr8, hc8⟩ := f2.rdb.at hi8
                   obtain rfl := hr8
                   refine ov (vE b3 o3 x3 1) ha (obx w3 rfl rfl rfl Try.underlying84 rfl hi8) fun a ha => ?_
                   refine op_setEl (T := tBool) (f := 0) (x' := false) ha cx (by kernel_rfl) rfl rfl rfl wr_id f2 hi8 (by kernel_rfl) (add1_eq _ _ _) (by kernel_rfl) (by rintro H2 _ _ rfl; rfl) ?_
                   intro w10 cx on3 kp4 f9 a ha
                   replace h_p0 := h_p0.keep kp4
                   have hl6 : ((x2.set (Int.toNat x3) false)).length = x2.length := List.length_set
                   replace ha : Ag 90 [(0, .slice (some ⟨b1, o1, none⟩) p0.length c_p0), (3, .slice (some ⟨b3, o3, none⟩) (x2.set (Int.toNat x3) false).length c2), (4, .int .i64 x3)] a := by rw [hl6]; exact ha.to (by kernel_rfl)
                   replace f9 : Ow tBool 4 (Wr nob w) w10.heap S2 (.slice (some ⟨b3, o3, none⟩) (x2.set (Int.toNat x3) false).length c2) (x2.set (Int.toNat x3) false) := by rw [hl6]; exact f9
                   obtain rfl := Option.some.inj h
                   exact ⟨_, _, (some ⟨b3, o3, none⟩), c2, rfl, cx, h_p0, f9, ha.to (by kernel_rfl)⟩
               rintro a w8 ⟨x7, S6, A6, c6, rfl, cx, h_p0, f7, ha⟩
               obtain rfl := Option.some.inj h
               exact ⟨_, _, A6, c6, rfl, cx, h_p0, f7, ha.to (by kernel_rfl)⟩
             · replace h := itF hb h
               refine sq fun K hK => ?_
               refine reg ?_
               refine sg ha 2 [(0, vS (some ⟨b1, o1, none⟩) p0 c_p0), (3, vS A2 x2 c2), (4, vI x3), (21, vI ((gt p0 x3).Kind)), (52, vB (((gt p0 x3).Kind) == 4))] w3 fun a ha => ?_
               refine hK _ _ ?_
               clear hK
               refine cond_b ha rfl (fun hb => ?_) (fun hb => ?_)
               · replace h := itT hb h
                 obtain ⟨q5, hj5, h⟩ := obind h
                 refine wp_cutV (D := fun a w11 => ∃ x8 : List Bool, ∃ (S7 : Off), ∃ (A7 : Option Addr) (c7 : Nat), x8 = q5 ∧ Cx w nob S w11 S7 ∧ Sl tTerm w11.heap S7 (some ⟨b1, o1, none⟩) c_p0 p0 ∧ Ow tBool 4 (Wr nob w) w11.heap S7 (vS A7 x8 c7) x8 ∧ Ag 90 [(0, vS (some ⟨b1, o1, none⟩) p0 c_p0), (3, vS A7 x8 c7), (4, vI x3)] a) ?_ ?_
                 · clear h; have h := hj5
                   refine reg ?_
                   refine sg ha 5 [(0, vS (some ⟨b1, o1, none⟩) p0 c_p0), (3, vS A2 x2 c2), (4, vI x3), (54, vS A2 x2 c2), (55, vI x3), (56, vS A2 x2 c2), (57, vS (some ⟨b1, o1, none⟩) p0 c_p0), (58, vI x3)] w3 fun a ha => ?_
                   obtain ⟨hi9, h⟩ := ite_some h
                   obtain ⟨cs9, hr9, hc9⟩ := h_p0.rdb.at hi9
                   obtain ⟨rfl, hl7⟩ := hr9
                   refine ov (vE b1 o1 x3 8) ha (obx w3 rfl rfl rfl Try.underlying22 rfl hi9) fun a ha => ?_
                   refine sg ha 1 [(0, vS (some ⟨b1, o1, none⟩) p0 c_p0), (3, vS A2 x2 c2), (4, vI x3), (54, vS A2 x2 c2), (55, vI x3), (56, vS A2 x2 c2), (60, .pointer (some (((⟨b1, o1, none⟩ : Addr).add (x3.toNat * 8)).add 1)))] w3 fun a ha => ?_
                   refine ov (vI ((gt p0 x3).A)) ha (ob_load w3 rfl rfl Try.underlying3 rfl ((cell_add2 _ _ _ _ _).trans (hc9 1 _ rfl))) fun a ha => ?_
                   obtain ⟨hi10, h⟩ := ite_some h
                   obtain ⟨b4, o4, cs10, rfl, hr10, hc10⟩ := f2.rdb.get hi10
                   obtain rfl := hr10
                   refine ov (vE b4 o4 ((gt p0 x3).A) 1) ha (obx w3 rfl rfl rfl Try.underlying84 rfl hi10) fun a ha => ?_
                   refine ov (vB (gt x2 ((gt p0 x3).A))) ha (ob_load w3 rfl rfl Try.underlying4 rfl ((cell_add1 _ _ _ _).trans (hc10 0 _ rfl))) fun a ha => ?_
                   refine sg ha 1 [(0, vS (some ⟨b1, o1, none⟩) p0 c_p0), (3, vS (some ⟨b4, o4, none⟩) x2 c2), (4, vI x3), (54, vS (some ⟨b4, o4, none⟩) x2 c2), (55, vI x3), (64, vB (gt x2 ((gt p0 x3).A)))] w3 fun a ha => ?_
                   refine split_b (t := 64) ha rfl (fun hb ha => ?_) (fun hb ha => ?_)
                   · replace h := itT hb h
                     refine sg ha 9 [(0, vS (some ⟨b1, o1, none⟩) p0 c_p0), (3, vS (some ⟨b4, o4, none⟩) x2 c2), (4, vI x3), (54, vS (some ⟨b4, o4, none⟩) x2 c2), (55, vI x3), (73, vB true)] w3 fun a ha => ?_
                     obtain ⟨hi11, h⟩ := ite_some h
                     obtain ⟨cs11, hr11, hc11⟩ := f2.rdb.at hi11
                     obtain rfl := hr11
                     refine ov (vE b4 o4 x3 1) ha (obx w3 rfl rfl rfl Try.underlying84 rfl hi11) fun a ha => ?_
                     refine op_setEl (T := tBool) (f := 0) (x' := true) ha cx (by kernel_rfl) rfl rfl rfl wr_id f2 hi11 (by kernel_rfl) (add1_eq _ _ _) (by kernel_rfl) (by rintro H2 _ _ rfl; rfl) ?_
                     intro w12 cx on4 kp5 f11 a ha
                     replace h_p0 := h_p0.keep kp5
                     have hl8 : ((x2.set (Int.toNat x3) true)).length = x2.length := List.length_set
                     replace ha : Ag 90 [(0, .slice (some ⟨b1, o1, none⟩) p0.length c_p0), (3, .slice (some ⟨b4, o4, none⟩) (x2.set (Int.toNat x3) true).length c2), (4, .int .i64 x3)] a := by rw [hl8]; exact ha.to (by kernel_rfl)
                     replace f11 : Ow tBool 4 (Wr nob w) w12.heap S2 (.slice (some ⟨b4, o4, none⟩) (x2.set (Int.toNat x3) true).length c2) (x2.set (Int.toNat x3) true) := by rw [hl8]; exact f11
                     obtain rfl := Option.some.inj h
                     exact ⟨_, _, (some ⟨b4, o4, none⟩), c2, rfl, cx, h_p0, f11, ha.to (by kernel_rfl)⟩
                   · replace h := itF hb h
                     refine sg ha 3 [(0, vS (some ⟨b1, o1, none⟩) p0 c_p0), (3, vS (some ⟨b4, o4, none⟩) x2 c2), (4, vI x3), (54, vS (some ⟨b4, o4, none⟩) x2 c2), (55, vI x3), (64, vB false), (65, vS (some ⟨b4, o4, none⟩) x2 c2), (66, vS (some ⟨b1, o1, none⟩) p0 c_p0), (67, vI x3)] w3 fun a ha => ?_
                     obtain ⟨hi12, h⟩ := ite_some h
                     obtain ⟨cs12, hr12, hc12⟩ := h_p0.rdb.at hi12
                     obtain ⟨rfl, hl9⟩ := hr12
                     refine ov (vE b1 o1 x3 8) ha (obx w3 rfl rfl rfl Try.underlying22 rfl hi12) fun a ha => ?_
                     refine sg ha 1 [(0, vS (some ⟨b1, o1, none⟩) p0 c_p0), (3, vS (some ⟨b4, o4, none⟩) x2 c2), (4, vI x3), (54, vS (some ⟨b4, o4, none⟩) x2 c2), (55, vI x3), (64, vB false), (65, vS (some ⟨b4, o4, none⟩) x2 c2), (69, .pointer (some (((⟨b1, o1, none⟩ : Addr).add (x3.toNat * 8)).add 2)))] w3 fun a ha => ?_
                     refine ov (vI ((gt p0 x3).B)) ha (ob_load w3 rfl rfl Try.underlying3 rfl ((cell_add2 _ _ _ _ _).trans (hc12 2 _ rfl))) fun a ha => ?_
                     obtain ⟨hi13, h⟩ := ite_some h
                     obtain ⟨cs13, hr13, hc13⟩ := f2.rdb.at hi13
                     obtain rfl := hr13
                     refine ov (vE b4 o4 ((gt p0 x3).B) 1) ha (obx w3 rfl rfl rfl Try.underlying84 rfl hi13) fun a ha => ?_
                     refine ov (vB (gt x2 ((gt p0 x3).B))) ha (ob_load w3 rfl rfl Try.underlying4 rfl ((cell_add1 _ _ _ _).trans (hc13 0 _ rfl))) fun a ha => ?_
                     refine sg ha 1 [(0, vS (some ⟨b1, o1, none⟩) p0 c_p0), (3, vS (some ⟨b4, o4, none⟩) x2 c2), (4, vI x3), (54, vS (some ⟨b4, o4, none⟩) x2 c2), (55, vI x3), (73, vB (gt x2 ((gt p0 x3).B)))] w3 fun a ha => ?_
                     obtain ⟨hi14, h⟩ := ite_some h
                     obtain ⟨cs14, hr14, hc14⟩ := f2.rdb.at hi14
                     obtain rfl := hr14
                     refine ov (vE b4 o4 x3 1) ha (obx w3 rfl rfl rfl Try.underlying84 rfl hi14) fun a ha => ?_
                     refine op_setEl (T := tBool) (f := 0) (x' := (gt x2 ((gt p0 x3).B))) ha cx (by kernel_rfl) rfl rfl rfl wr_id f2 hi14 (by kernel_rfl) (add1_eq _ _ _) (by kernel_rfl) (by rintro H2 _ _ rfl; rfl) ?_
                     intro w13 cx on5 kp6 f12 a ha
                     replace h_p0 := h_p0.keep kp6
                     have hl10 : ((x2.set (Int.toNat x3) (gt x2 ((gt p0 x3).B)))).length = x2.length := List.length_set
                     replace ha : Ag 90 [(0, .slice (some ⟨b1, o1, none⟩) p0.length c_p0), (3, .slice (some ⟨b4, o4, none⟩) (x2.set (Int.toNat x3) (gt x2 ((gt p0 x3).B))).length c2), (4, .int .i64 x3)] a := by rw [hl10]; exact ha.to (by kernel_rfl)
                     replace f12 : Ow tBool 4 (Wr nob w) w13.heap S2 (.slice (some ⟨b4, o4, none⟩) (x2.set (Int.toNat x3) (gt x2 ((gt p0 x3).B))).length c2) (x2.set (Int.toNat x3) (gt x2 ((gt p0 x3).B))) := by rw [hl10]; exact f12
                     obtain rfl := Option.some.inj h
                     exact ⟨_, _, (some ⟨b4, o4, none⟩), c2, rfl, cx, h_p0, f12, ha.to (by kernel_rfl)⟩
                 rintro a w11 ⟨x8, S7, A7, c7, rfl, cx, h_p0, f10, ha⟩
                 obtain rfl := Option.some.inj h
                 exact ⟨_, _, A7, c7, rfl, cx, h_p0, f10, ha.to (by kernel_rfl)⟩
               · replace h := itF hb h
                 refine sq fun K hK => ?_
                 obtain ⟨q6, hj6, h⟩ := obind h
                 refine wp_cutV (D := fun a w_ => ∃ x9 : Bool, x9 = q6 ∧ w3 = w_ ∧ Ag 90 [(0, vS (some ⟨b1, o1, none⟩) p0 c_p0), (3, vS A2 x2 c2), (4, vI x3), (75, vB x9)] a) ?_ ?_
                 · clear h; have h := hj6
                   refine sq fun K hK => ?_
                   refine reg ?_
                   refine sg ha 2 [(0, vS (some ⟨b1, o1, none⟩) p0 c_p0), (3, vS A2 x2 c2), (4, vI x3), (21, vI ((gt p0 x3).Kind)), (75, vB (((gt p0 x3).Kind) == 7))] w3 fun a ha => ?_
                   refine hK _ _ ?_
                   clear hK
                   refine cond_b ha rfl (fun hb => ?_) (fun hb => ?_)
                   · replace h := itT hb h
                     refine wp_skip ?_
                     obtain rfl := Option.some.inj h
                     exact ⟨_, rfl, rfl, ha.to (by kernel_rfl)⟩
                   · replace h := itF hb h
                     refine reg ?_
                     refine sg ha 2 [(0, vS (some ⟨b1, o1, none⟩) p0 c_p0), (3, vS A2 x2 c2), (4, vI x3), (75, vB (((gt p0 x3).Kind) == 8))] w3 fun a ha => ?_
                     obtain rfl := Option.some.inj h
                     exact ⟨_, rfl, rfl, ha.to (by kernel_rfl)⟩
                 rintro a _ ⟨x9, rfl, rfl, ha⟩
                 refine hK _ _ ?_
                 clear hK
                 refine cond_b ha rfl (fun hb => ?_) (fun hb => ?_)
                 · replace h := itT hb h
                   refine reg ?_
                   refine sg ha 5 [(0, vS (some ⟨b1, o1, none⟩) p0 c_p0), (3, vS A2 x2 c2), (4, vI x3), (78, vS A2 x2 c2), (79, vI x3), (80, vS A2 x2 c2), (81, vS (some ⟨b1, o1, none⟩) p0 c_p0), (82, vI x3)] w3 fun a ha => ?_
                   obtain ⟨hi15, h⟩ := ite_some h
                   obtain ⟨cs15, hr15, hc15⟩ := h_p0.rdb.at hi15
                   obtain ⟨rfl, hl11⟩ := hr15
                   refine ov (vE b1 o1 x3 8) ha (obx w3 rfl rfl rfl Try.underlying22 rfl hi15) fun a ha => ?_
                   refine sg ha 1 [(0, vS (some ⟨b1, o1, none⟩) p0 c_p0), (3, vS A2 x2 c2), (4, vI x3), (78, vS A2 x2 c2), (79, vI x3), (80, vS A2 x2 c2), (84, .pointer (some (((⟨b1, o1, none⟩ : Addr).add (x3.toNat * 8)).add 1)))] w3 fun a ha => ?_
                   refine ov (vI ((gt p0 x3).A)) ha (ob_load w3 rfl rfl Try.underlying3 rfl ((cell_add2 _ _ _ _ _).trans (hc15 1 _ rfl))) fun a ha => ?_
                   obtain ⟨hi16, h⟩ := ite_some h
                   obtain ⟨b5, o5, cs16, rfl, hr16, hc16⟩ := f2.rdb.get hi16
                   obtain rfl := hr16
                   refine ov (vE b5 o5 ((gt p0 x3).A) 1) ha (obx w3 rfl rfl rfl Try.underlying84 rfl hi16) fun a ha => ?_
                   refine ov (vB (gt x2 ((gt p0 x3).A))) ha (ob_load w3 rfl rfl Try.underlying4 rfl ((cell_add1 _ _ _ _).trans (hc16 0 _ rfl))) fun a ha => ?_
                   obtain ⟨hi17, h⟩ := ite_some h
                   obtain ⟨cs17, hr17, hc17⟩ := f2.rdb.at hi17
                   obtain rfl := hr17
                   refine ov (vE b5 o5 x3 1) ha (obx w3 rfl rfl rfl Try.underlying84 rfl hi17) fun a ha => ?_
                   refine op_setEl (T := tBool) (f := 0) (x' := (gt x2 ((gt p0 x3).A))) ha cx (by kernel_rfl) rfl rfl rfl wr_id f2 hi17 (by kernel_rfl) (add1_eq _ _ _) (by kernel_rfl) (by rintro H2 _ _ rfl; rfl) ?_
                   intro w14 cx on6 kp7 f13 a ha
                   replace h_p0 := h_p0.keep kp7
                   have hl12 : ((x2.set (Int.toNat x3) (gt x2 ((gt p0 x3).A)))).length = x2.length := List.length_set
                   replace ha : Ag 90 [(0, .slice (some ⟨b1, o1, none⟩) p0.length c_p0), (3, .slice (some ⟨b5, o5, none⟩) (x2.set (Int.toNat x3) (gt x2 ((gt p0 x3).A))).length c2), (4, .int .i64 x3)] a := by rw [hl12]; exact ha.to (by kernel_rfl)
                   replace f13 : Ow tBool 4 (Wr nob w) w14.heap S2 (.slice (some ⟨b5, o5, none⟩) (x2.set (Int.toNat x3) (gt x2 ((gt p0 x3).A))).length c2) (x2.set (Int.toNat x3) (gt x2 ((gt p0 x3).A))) := by rw [hl12]; exact f13
                   obtain rfl := Option.some.inj h
                   exact ⟨_, _, (some ⟨b5, o5, none⟩), c2, rfl, cx, h_p0, f13, ha.to (by kernel_rfl)⟩
                 · replace h := itF hb h
                   refine wp_skip ?_
                   obtain rfl := Option.some.inj h
                   exact ⟨_, _, A2, c2, rfl, cx, h_p0, f2, ha.to (by kernel_rfl)⟩
         rintro a w6 ⟨x5, S5, A5, c5, rfl, cx, h_p0, f5, ha⟩
         obtain rfl := Option.some.inj h
         exact ⟨_, _, A5, c5, rfl, cx, h_p0, f5, ha.to (by kernel_rfl)⟩
       rintro a w5 ⟨x4, S4, A4, c4, rfl, cx, h_p0, f4, ha⟩
       refine hK _ _ ?_
       clear hK
       refine reg ?_
       refine sg ha 3 [(0, vS A_p0 p0 c_p0), (3, vS A4 x4 c4), (4, vI (W (x3 + 1)))] w5 fun a ha => ?_
       obtain rfl := Option.some.inj h
       exact ⟨_, rfl, S4, A4, c4, cx, h_p0, f4, ha.to (by kernel_rfl)⟩
     · replace h := itF hb h
       refine wp_exit ?_
       obtain rfl := Option.some.inj h
       exact ⟨_, rfl, rfl, S2, A2, c2, cx, f2, ha.to (by kernel_rfl)⟩
   · exact ⟨S1, A1, c1, cx, h_p0, f1, ha.to (by kernel_rfl)⟩
   intro e a w4 hd
   generalize t1 = y1 at *
   obtain ⟨rfl, S3, A3, c3, cx, f3, ha⟩ := hd
   refine hK _ _ ?_
   clear hK
   refine sq fun K hK => ?_
   refine reg ?_
   refine sg ha 2 [(2, vS A3 y1 c3)] w4 fun a ha => ?_
   refine hK _ _ ?_
   clear hK
   refine wp_ret ?_
   obtain rfl := Option.some.inj h
   show bodyPost Try.prog Try.f55 (R55 w S _) .ret a w4
   exact ret_1 (r1 := .tmp 2) (v1 := vS A3 y1 c3) ha rfl (.inl rfl) rfl ⟨_, rfl, cx.below, ⟨_, _, rfl, f3.result cx.sub⟩⟩
def post82 (w : World) (S : Off) (r : ((List Int))) (v : Value) (w1 : World) : Prop := ∃ (A : Option Addr) (c : Nat), v = .slice A r.length c ∧ Ow (tInt .i64) 3 (Wr nob w) w1.heap (inV v S) v r
abbrev R82 (w : World) (S : Off) (r : ((List Int))) : Ending → World → Prop := fun e w1 => ∃ v, e = .returned v ∧ Below w.heap.size w w1 ∧ post82 w S r v w1
theorem ok82 (fuel : Nat) : ∀ (k : Nat) {w : World} {S : Off} (hS : ∀ b, S b → b < w.heap.size) {p0 : (List MTerm)} {p1 : (List Bool)} {p2 : Int} {A_p0 : Option Addr} {c_p0 : Nat} (h_p0 : Sl tTerm w.heap S A_p0 c_p0 p0) {A_p1 : Option Addr} {c_p1 : Nat} (h_p1 : Sl tBool w.heap S A_p1 c_p1 p1) {r : ((List Int))} (h : m_ref12_Of fuel k p0 p1 p2 = some r), Calls Try.prog 82 #[.slice A_p0 p0.length c_p0, .slice A_p1 p1.length c_p1, .int .i64 p2] w (R82 w S r) := by
 intro k
 induction k with
 | zero => intro w S hS p0 p1 p2 A_p0 c_p0 h_p0 A_p1 c_p1 h_p1 r h; simp [m_ref12_Of] at h
 | succ k ih =>
  intro w S hS p0 p1 p2 A_p0 c_p0 h_p0 A_p1 c_p1 h_p1 r h
  refine enterL (vs := [vS A_p0 p0 c_p0, vS A_p1 p1 c_p1, vI p2]) Try.func82 rfl rfl ?_
  intro a ha
  have cx := Cx.start (W0 := nob) hS
  refine with_nop (noP_body _ _) (fun hq => ?_)
  unfold m_ref12_Of at h
  refine sq fun K hK => ?_
  refine reg ?_
  refine sg ha 1 [(0, vS A_p0 p0 c_p0), (1, vS A_p1 p1 c_p1), (2, vI p2)] w fun a ha => ?_
  refine hK _ _ ?_
  clear hK
  refine sq fun K hK => ?_
  refine reg ?_
  refine sg ha 2 [(0, vS A_p0 p0 c_p0), (1, vS A_p1 p1 c_p1), (2, vI p2), (9, vI (W (2 * p2)))] w fun a ha => ?_
  refine op_new (V := fun b => .slice (some ⟨b, 0, none⟩) 1 1) (cs := [vI (W (2 * p2))]) (T := 3) ha (by kernel_rfl) (by kernel_rfl) ?_
  intro w1 b1 hb1 hk1 he1 _ a ha
  have f1 := lit_ow (T := (tInt .i64)) (xs := [(W (2 * p2))]) (m := 1) cx hb1 hk1 he1 rfl (by kernel_rfl) (Els.one (T := (tInt .i64)) (x := (W (2 * p2))) rfl)
  obtain ⟨S1, cx, kp1, hs1, hn1, f1⟩ := own_in cx hb1 f1
  replace h_p0 := h_p0.keep kp1
  replace h_p1 := h_p1.keep kp1
  refine sg ha 1 [(0, vS A_p0 p0 c_p0), (1, vS A_p1 p1 c_p1), (2, vI p2), (7, .slice (some ⟨b1, 0, none⟩) 1 1)] w1 fun a ha => ?_
  refine hK _ _ ?_
  clear hK
  refine sq fun K hK => ?_
  obtain ⟨q1, hj1, h⟩ := obind h
  refine wp_cutV (D := fun a w2 => ∃ x1 : List Int, ∃ (S2 : Off), ∃ (A1 : Option Addr) (c1 : Nat), x1 = q1 ∧ Cx w nob S w2 S2 ∧ Ow (tInt .i64) 3 (Wr nob w) w2.heap S2 (vS A1 x1 c1) x1 ∧ Ag 87 [(2, vI p2), (7, vS A1 x1 c1)] a) ?_ ?_
  · clear h; have h := hj1
    refine sq fun K hK => ?_
    refine reg ?_
    refine sg ha 2 [(0, vS A_p0 p0 c_p0), (1, vS A_p1 p1 c_p1), (2, vI p2), (7, .slice (some ⟨b1, 0, none⟩) 1 1), (11, vS A_p0 p0 c_p0), (12, vI p2)] w1 fun a ha => ?_
    obtain ⟨hi1, h⟩ := ite_some h
    obtain ⟨b2, o1, cs1, rfl, hr1, hc1⟩ := h_p0.rdb.get hi1
    obtain ⟨rfl, hl1⟩ := hr1
    refine ov (vE b2 o1 p2 8) ha (obx w1 rfl rfl rfl Try.underlying22 rfl hi1) fun a ha => ?_
    refine sg ha 1 [(0, vS (some ⟨b2, o1, none⟩) p0 c_p0), (1, vS A_p1 p1 c_p1), (2, vI p2), (7, .slice (some ⟨b1, 0, none⟩) 1 1), (14, .pointer (some (((⟨b2, o1, none⟩ : Addr).add (p2.toNat * 8)).add 0)))] w1 fun a ha => ?_
    refine ov (vI ((gt p0 p2).Kind)) ha (ob_load w1 rfl rfl Try.underlying3 rfl ((cell_add2 _ _ _ _ _).trans (hc1 0 _ rfl))) fun a ha => ?_
    refine hK _ _ ?_
    clear hK
    obtain ⟨q2, hj2, h⟩ := obind h
    refine wp_cutV (D := fun a w3 => ∃ x2 : List Int, ∃ (S3 : Off), ∃ (A2 : Option Addr) (c2 : Nat), x2 = q2 ∧ Cx w nob S w3 S3 ∧ Ow (tInt .i64) 3 (Wr nob w) w3.heap S3 (vS A2 x2 c2) x2 ∧ Ag 87 [(2, vI p2), (7, vS A2 x2 c2)] a) ?_ ?_
    · clear h; have h := hj2
      refine wp_block ?_
      refine sq fun K hK => ?_
      refine reg ?_
      refine sg ha 2 [(0, vS (some ⟨b2, o1, none⟩) p0 c_p0), (1, vS A_p1 p1 c_p1), (2, vI p2), (7, .slice (some ⟨b1, 0, none⟩) 1 1), (15, vI ((gt p0 p2).Kind)), (16, vB (((gt p0 p2).Kind) == 3))] w1 fun a ha => ?_
      refine hK _ _ ?_
      clear hK
      refine cond_b ha rfl (fun hb => ?_) (fun hb => ?_)
      · replace h := itT hb h
        refine sq fun K hK => ?_
        refine reg ?_
        refine sg ha 5 [(0, vS (some ⟨b2, o1, none⟩) p0 c_p0), (1, vS A_p1 p1 c_p1), (2, vI p2), (18, .slice (some ⟨b1, 0, none⟩) 1 1), (19, vS (some ⟨b2, o1, none⟩) p0 c_p0), (20, vS A_p1 p1 c_p1), (21, vS (some ⟨b2, o1, none⟩) p0 c_p0), (22, vI p2)] w1 fun a ha => ?_
        obtain ⟨hi2, h⟩ := ite_some h
        obtain ⟨cs2, hr2, hc2⟩ := h_p0.rdb.at hi2
        obtain ⟨rfl, hl2⟩ := hr2
        refine ov (vE b2 o1 p2 8) ha (obx w1 rfl rfl rfl Try.underlying22 rfl hi2) fun a ha => ?_
        refine sg ha 1 [(0, vS (some ⟨b2, o1, none⟩) p0 c_p0), (1, vS A_p1 p1 c_p1), (2, vI p2), (18, .slice (some ⟨b1, 0, none⟩) 1 1), (19, vS (some ⟨b2, o1, none⟩) p0 c_p0), (20, vS A_p1 p1 c_p1), (24, .pointer (some (((⟨b2, o1, none⟩ : Addr).add (p2.toNat * 8)).add 1)))] w1 fun a ha => ?_
        refine ov (vI ((gt p0 p2).A)) ha (ob_load w1 rfl rfl Try.underlying3 rfl ((cell_add2 _ _ _ _ _).trans (hc2 1 _ rfl))) fun a ha => ?_
        obtain ⟨x3, hx1, h⟩ := obind h
        refine op_call ha (by kernel_rfl) (f := 82) (args := #[vS (some ⟨b2, o1, none⟩) p0 c_p0, vS A_p1 p1 c_p1, vI ((gt p0 p2).A)]) (w' := w1) (by kernel_rfl) (ih (p0 := p0) (p1 := p1) (p2 := (gt p0 p2).A) cx.lt h_p0 h_p1 hx1) ?_
        rintro v1 w4 ⟨hb2, hp1⟩ a ha
        obtain ⟨A3, c3, rfl, f4⟩ := hp1
        replace f4 := own_out cx f4
        replace h_p0 := h_p0.keep (Keep.ext S1 hb2)
        replace h_p1 := h_p1.keep (Keep.ext S1 hb2)
        replace f1 := f1.ext hb2
        replace cx := cx.ext hb2
        obtain ⟨hp2, h⟩ := ite_some h
        refine op_append (T := (tInt .i64)) (xs := [(W (2 * p2))]) (ys := x3) (z := vI 0) (bytes := 8) ha cx (by kernel_rfl) rfl rfl rfl Try.underlying25 (by kernel_rfl) (by kernel_rfl) wr_id f1 f4.rdb hp2 ?_
        intro w5 S4 A4 c4 cx kp2 hs2 hn2 hat1 f5 a ha
        replace h_p0 := h_p0.keep kp2
        replace h_p1 := h_p1.keep kp2
        refine sg ha 1 [(0, vS (some ⟨b2, o1, none⟩) p0 c_p0), (1, vS A_p1 p1 c_p1), (2, vI p2), (7, vS A4 ([(W (2 * p2))] ++ x3) c4)] w5 fun a ha => ?_
        refine hK _ _ ?_
        clear hK
        refine reg ?_
        refine sg ha 5 [(2, vI p2), (28, vS A4 ([(W (2 * p2))] ++ x3) c4), (29, vS (some ⟨b2, o1, none⟩) p0 c_p0), (30, vS A_p1 p1 c_p1), (31, vS (some ⟨b2, o1, none⟩) p0 c_p0), (32, vI p2)] w5 fun a ha => ?_
        obtain ⟨hi3, h⟩ := ite_some h
        obtain ⟨cs3, hr3, hc3⟩ := h_p0.rdb.at hi3
        obtain ⟨rfl, hl3⟩ := hr3
        refine ov (vE b2 o1 p2 8) ha (obx w5 rfl rfl rfl Try.underlying22 rfl hi3) fun a ha => ?_
        refine sg ha 1 [(2, vI p2), (28, vS A4 ([(W (2 * p2))] ++ x3) c4), (29, vS (some ⟨b2, o1, none⟩) p0 c_p0), (30, vS A_p1 p1 c_p1), (34, .pointer (some (((⟨b2, o1, none⟩ : Addr).add (p2.toNat * 8)).add 2)))] w5 fun a ha => ?_
        refine ov (vI ((gt p0 p2).B)) ha (ob_load w5 rfl rfl Try.underlying3 rfl ((cell_add2 _ _ _ _ _).trans (hc3 2 _ rfl))) fun a ha => ?_
        obtain ⟨x4, hx2, h⟩ := obind h
        refine op_call ha (by kernel_rfl) (f := 82) (args := #[vS (some ⟨b2, o1, none⟩) p0 c_p0, vS A_p1 p1 c_p1, vI ((gt p0 p2).B)]) (w' := w5) (by kernel_rfl) (ih (p0 := p0) (p1 := p1) (p2 := (gt p0 p2).B) cx.lt h_p0 h_p1 hx2) ?_
        rintro v2 w6 ⟨hb3, hp3⟩ a ha
        obtain ⟨A5, c5, rfl, f6⟩ := hp3
        replace f6 := own_out cx f6
        replace f5 := f5.ext hb3
        replace cx := cx.ext hb3
        obtain ⟨hp4, h⟩ := ite_some h
        refine op_append (T := (tInt .i64)) (xs := ([(W (2 * p2))] ++ x3)) (ys := x4) (z := vI 0) (bytes := 8) ha cx (by kernel_rfl) rfl rfl rfl Try.underlying25 (by kernel_rfl) (by kernel_rfl) wr_id f5 f6.rdb hp4 ?_
        intro w7 S5 A6 c6 cx kp3 hs3 hn3 hat2 f7 a ha
        refine sg ha 1 [(2, vI p2), (7, vS A6 (([(W (2 * p2))] ++ x3) ++ x4) c6)] w7 fun a ha => ?_
        obtain rfl := Option.some.inj h
        exact ⟨_, _, A6, c6, rfl, cx, f7, ha.to (by kernel_rfl)⟩
      · replace h := itF hb h
        refine sq fun K hK => ?_
        refine reg ?_
        refine sg ha 2 [(0, vS (some ⟨b2, o1, none⟩) p0 c_p0), (1, vS A_p1 p1 c_p1), (2, vI p2), (7, .slice (some ⟨b1, 0, none⟩) 1 1), (15, vI ((gt p0 p2).Kind)), (38, vB (((gt p0 p2).Kind) == 4))] w1 fun a ha => ?_
        refine hK _ _ ?_
        clear hK
        refine cond_b ha rfl (fun hb => ?_) (fun hb => ?_)
        · replace h := itT hb h
          refine sq fun K hK => ?_
          refine reg ?_
          refine sg ha 3 [(0, vS (some ⟨b2, o1, none⟩) p0 c_p0), (1, vS A_p1 p1 c_p1), (2, vI p2), (7, .slice (some ⟨b1, 0, none⟩) 1 1), (40, vS A_p1 p1 c_p1), (41, vS (some ⟨b2, o1, none⟩) p0 c_p0), (42, vI p2)] w1 fun a ha => ?_
          obtain ⟨hi4, h⟩ := ite_some h
          obtain ⟨cs4, hr4, hc4⟩ := h_p0.rdb.at hi4
          obtain ⟨rfl, hl4⟩ := hr4
          refine ov (vE b2 o1 p2 8) ha (obx w1 rfl rfl rfl Try.underlying22 rfl hi4) fun a ha => ?_
          refine sg ha 1 [(0, vS (some ⟨b2, o1, none⟩) p0 c_p0), (1, vS A_p1 p1 c_p1), (2, vI p2), (7, .slice (some ⟨b1, 0, none⟩) 1 1), (40, vS A_p1 p1 c_p1), (44, .pointer (some (((⟨b2, o1, none⟩ : Addr).add (p2.toNat * 8)).add 1)))] w1 fun a ha => ?_
          refine ov (vI ((gt p0 p2).A)) ha (ob_load w1 rfl rfl Try.underlying3 rfl ((cell_add2 _ _ _ _ _).trans (hc4 1 _ rfl))) fun a ha => ?_
          obtain ⟨hi5, h⟩ := ite_some h
          obtain ⟨b3, o2, cs5, rfl, hr5, hc5⟩ := h_p1.rdb.get hi5
          obtain rfl := hr5
          refine ov (vE b3 o2 ((gt p0 p2).A) 1) ha (obx w1 rfl rfl rfl Try.underlying84 rfl hi5) fun a ha => ?_
          refine ov (vB (gt p1 ((gt p0 p2).A))) ha (ob_load w1 rfl rfl Try.underlying4 rfl ((cell_add1 _ _ _ _).trans (hc5 0 _ rfl))) fun a ha => ?_
          refine hK _ _ ?_
          clear hK
          refine cond_b ha rfl (fun hb => ?_) (fun hb => ?_)
          · replace h := itT hb h
            refine reg ?_
            refine sg ha 5 [(2, vI p2), (48, .slice (some ⟨b1, 0, none⟩) 1 1), (49, vS (some ⟨b2, o1, none⟩) p0 c_p0), (50, vS (some ⟨b3, o2, none⟩) p1 c_p1), (51, vS (some ⟨b2, o1, none⟩) p0 c_p0), (52, vI p2)] w1 fun a ha => ?_
            obtain ⟨hi6, h⟩ := ite_some h
            obtain ⟨cs6, hr6, hc6⟩ := h_p0.rdb.at hi6
            obtain ⟨rfl, hl5⟩ := hr6
            refine ov (vE b2 o1 p2 8) ha (obx w1 rfl rfl rfl Try.underlying22 rfl hi6) fun a ha => ?_
            refine sg ha 1 [(2, vI p2), (48, .slice (some ⟨b1, 0, none⟩) 1 1), (49, vS (some ⟨b2, o1, none⟩) p0 c_p0), (50, vS (some ⟨b3, o2, none⟩) p1 c_p1), (54, .pointer (some (((⟨b2, o1, none⟩ : Addr).add (p2.toNat * 8)).add 1)))] w1 fun a ha => ?_
            refine ov (vI ((gt p0 p2).A)) ha (ob_load w1 rfl rfl Try.underlying3 rfl ((cell_add2 _ _ _ _ _).trans (hc6 1 _ rfl))) fun a ha => ?_
            obtain ⟨x5, hx3, h⟩ := obind h
            refine op_call ha (by kernel_rfl) (f := 82) (args := #[vS (some ⟨b2, o1, none⟩) p0 c_p0, vS (some ⟨b3, o2, none⟩) p1 c_p1, vI ((gt p0 p2).A)]) (w' := w1) (by kernel_rfl) (ih (p0 := p0) (p1 := p1) (p2 := (gt p0 p2).A) cx.lt h_p0 h_p1 hx3) ?_
            rintro v3 w8 ⟨hb4, hp5⟩ a ha
            obtain ⟨A7, c7, rfl, f8⟩ := hp5
            replace f8 := own_out cx f8
            replace f1 := f1.ext hb4
            replace cx := cx.ext hb4
            obtain ⟨hp6, h⟩ := ite_some h
            refine op_append (T := (tInt .i64)) (xs := [(W (2 * p2))]) (ys := x5) (z := vI 0) (bytes := 8) ha cx (by kernel_rfl) rfl rfl rfl Try.underlying25 (by kernel_rfl) (by kernel_rfl) wr_id f1 f8.rdb hp6 ?_
            intro w9 S6 A8 c8 cx kp4 hs4 hn4 hat3 f9 a ha
            refine sg ha 1 [(2, vI p2), (7, vS A8 ([(W (2 * p2))] ++ x5) c8)] w9 fun a ha => ?_
            obtain rfl := Option.some.inj h
            exact ⟨_, _, A8, c8, rfl, cx, f9, ha.to (by kernel_rfl)⟩
          · replace h := itF hb h
            refine reg ?_
            refine sg ha 5 [(2, vI p2), (58, .slice (some ⟨b1, 0, none⟩) 1 1), (59, vS (some ⟨b2, o1, none⟩) p0 c_p0), (60, vS (some ⟨b3, o2, none⟩) p1 c_p1), (61, vS (some ⟨b2, o1, none⟩) p0 c_p0), (62, vI p2)] w1 fun a ha => ?_
            obtain ⟨hi7, h⟩ := ite_some h
            obtain ⟨cs7, hr7, hc7⟩ := h_p0.rdb.at hi7
            obtain ⟨rfl, hl6⟩ := hr7
            refine ov (vE b2 o1 p2 8) ha (obx w1 rfl rfl rfl Try.underlying22 rfl hi7) fun a ha => ?_
            refine sg ha 1 [(2, vI p2), (58, .slice (some ⟨b1, 0, none⟩) 1 1), (59, vS (some ⟨b2, o1, none⟩) p0 c_p0), (60, vS (some ⟨b3, o2, none⟩) p1 c_p1), (64, .pointer (some (((⟨b2, o1, none⟩ : Addr).add (p2.toNat * 8)).add 2)))] w1 fun a ha => ?_
            refine ov (vI ((gt p0 p2).B)) ha (ob_load w1 rfl rfl Try.underlying3 rfl ((cell_add2 _ _ _ _ _).trans (hc7 2 _ rfl))) fun a ha => ?_
            obtain ⟨x6, hx4, h⟩ := obind h
            refine op_call ha (by kernel_rfl) (f := 82) (args := #[vS (some ⟨b2, o1, none⟩) p0 c_p0, vS (some ⟨b3, o2, none⟩) p1 c_p1, vI ((gt p0 p2).B)]) (w' := w1) (by kernel_rfl) (ih (p0 := p0) (p1 := p1) (p2 := (gt p0 p2).B) cx.lt h_p0 h_p1 hx4) ?_
            rintro v4 w10 ⟨hb5, hp7⟩ a ha
            obtain ⟨A9, c9, rfl, f10⟩ := hp7
            replace f10 := own_out cx f10
            replace f1 := f1.ext hb5
            replace cx := cx.ext hb5
            obtain ⟨hp8, h⟩ := ite_some h
            refine op_append (T := (tInt .i64)) (xs := [(W (2 * p2))]) (ys := x6) (z := vI 0) (bytes := 8) ha cx (by kernel_rfl) rfl rfl rfl Try.underlying25 (by kernel_rfl) (by kernel_rfl) wr_id f1 f10.rdb hp8 ?_
            intro w11 S7 A10 c10 cx kp5 hs5 hn5 hat4 f11 a ha
            refine sg ha 1 [(2, vI p2), (7, vS A10 ([(W (2 * p2))] ++ x6) c10)] w11 fun a ha => ?_
            obtain rfl := Option.some.inj h
            exact ⟨_, _, A10, c10, rfl, cx, f11, ha.to (by kernel_rfl)⟩
        · replace h := itF hb h
          refine sq fun K hK => ?_
          obtain ⟨q3, hj3, h⟩ := obind h
          refine wp_cutV (D := fun a w_ => ∃ x7 : Bool, x7 = q3 ∧ w1 = w_ ∧ Ag 87 [(0, vS (some ⟨b2, o1, none⟩) p0 c_p0), (1, vS A_p1 p1 c_p1), (2, vI p2), (7, .slice (some ⟨b1, 0, none⟩) 1 1), (68, vB x7)] a) ?_ ?_
          · clear h; have h := hj3
            refine sq fun K hK => ?_
            refine reg ?_
            refine sg ha 2 [(0, vS (some ⟨b2, o1, none⟩) p0 c_p0), (1, vS A_p1 p1 c_p1), (2, vI p2), (7, .slice (some ⟨b1, 0, none⟩) 1 1), (15, vI ((gt p0 p2).Kind)), (68, vB (((gt p0 p2).Kind) == 7))] w1 fun a ha => ?_
            refine hK _ _ ?_
            clear hK
            refine cond_b ha rfl (fun hb => ?_) (fun hb => ?_)
            · replace h := itT hb h
              refine wp_skip ?_
              obtain rfl := Option.some.inj h
              exact ⟨_, rfl, rfl, ha.to (by kernel_rfl)⟩
            · replace h := itF hb h
              refine reg ?_
              refine sg ha 2 [(0, vS (some ⟨b2, o1, none⟩) p0 c_p0), (1, vS A_p1 p1 c_p1), (2, vI p2), (7, .slice (some ⟨b1, 0, none⟩) 1 1), (68, vB (((gt p0 p2).Kind) == 8))] w1 fun a ha => ?_
              obtain rfl := Option.some.inj h
              exact ⟨_, rfl, rfl, ha.to (by kernel_rfl)⟩
          rintro a _ ⟨x7, rfl, rfl, ha⟩
          refine hK _ _ ?_
          clear hK
          refine cond_b ha rfl (fun hb => ?_) (fun hb => ?_)
          · replace h := itT hb h
            refine reg ?_
            refine sg ha 5 [(2, vI p2), (71, .slice (some ⟨b1, 0, none⟩) 1 1), (72, vS (some ⟨b2, o1, none⟩) p0 c_p0), (73, vS A_p1 p1 c_p1), (74, vS (some ⟨b2, o1, none⟩) p0 c_p0), (75, vI p2)] w1 fun a ha => ?_
            obtain ⟨hi8, h⟩ := ite_some h
            obtain ⟨cs8, hr8, hc8⟩ := h_p0.rdb.at hi8
            obtain ⟨rfl, hl7⟩ := hr8
            refine ov (vE b2 o1 p2 8) ha (obx w1 rfl rfl rfl Try.underlying22 rfl hi8) fun a ha => ?_
            refine sg ha 1 [(2, vI p2), (71, .slice (some ⟨b1, 0, none⟩) 1 1), (72, vS (some ⟨b2, o1, none⟩) p0 c_p0), (73, vS A_p1 p1 c_p1), (77, .pointer (some (((⟨b2, o1, none⟩ : Addr).add (p2.toNat * 8)).add 1)))] w1 fun a ha => ?_
            refine ov (vI ((gt p0 p2).A)) ha (ob_load w1 rfl rfl Try.underlying3 rfl ((cell_add2 _ _ _ _ _).trans (hc8 1 _ rfl))) fun a ha => ?_
            obtain ⟨x8, hx5, h⟩ := obind h
            refine op_call ha (by kernel_rfl) (f := 82) (args := #[vS (some ⟨b2, o1, none⟩) p0 c_p0, vS A_p1 p1 c_p1, vI ((gt p0 p2).A)]) (w' := w1) (by kernel_rfl) (ih (p0 := p0) (p1 := p1) (p2 := (gt p0 p2).A) cx.lt h_p0 h_p1 hx5) ?_
            rintro v5 w12 ⟨hb6, hp9⟩ a ha
            obtain ⟨A11, c11, rfl, f12⟩ := hp9
            replace f12 := own_out cx f12
            replace f1 := f1.ext hb6
            replace cx := cx.ext hb6
            obtain ⟨hp10, h⟩ := ite_some h
            refine op_append (T := (tInt .i64)) (xs := [(W (2 * p2))]) (ys := x8) (z := vI 0) (bytes := 8) ha cx (by kernel_rfl) rfl rfl rfl Try.underlying25 (by kernel_rfl) (by kernel_rfl) wr_id f1 f12.rdb hp10 ?_
            intro w13 S8 A12 c12 cx kp6 hs6 hn6 hat5 f13 a ha
            refine sg ha 1 [(2, vI p2), (7, vS A12 ([(W (2 * p2))] ++ x8) c12)] w13 fun a ha => ?_
            obtain rfl := Option.some.inj h
            exact ⟨_, _, A12, c12, rfl, cx, f13, ha.to (by kernel_rfl)⟩
          · replace h := itF hb h
            refine wp_skip ?_
            obtain rfl := Option.some.inj h
            exact ⟨_, _, (some ⟨b1, 0, none⟩), 1, rfl, cx, f1, ha.to (by kernel_rfl)⟩
    rintro a w3 ⟨x2, S3, A2, c2, rfl, cx, f3, ha⟩
    obtain rfl := Option.some.inj h
    exact ⟨_, _, A2, c2, rfl, cx, f3, ha.to (by kernel_rfl)⟩
  rintro a w2 ⟨x1, S2, A1, c1, rfl, cx, f2, ha⟩
  refine hK _ _ ?_
  clear hK
  refine sq fun K hK => ?_
  refine reg ?_
  refine sg ha 4 [(81, vS A1 x1 c1), (84, vI (W ((W (2 * p2)) + 1)))] w2 fun a ha => ?_
  refine op_new (V := fun b => .slice (some ⟨b, 0, none⟩) 1 1) (cs := [vI (W ((W (2 * p2)) + 1))]) (T := 3) ha (by kernel_rfl) (by kernel_rfl) ?_
  intro w14 b4 hb7 hk2 he2 _ a ha
  have f14 := lit_ow (T := (tInt .i64)) (xs := [(W ((W (2 * p2)) + 1))]) (m := 1) cx hb7 hk2 he2 rfl (by kernel_rfl) (Els.one (T := (tInt .i64)) (x := (W ((W (2 * p2)) + 1))) rfl)
  replace f14 := own_out cx f14
  replace f2 := f2.ext hb7
  replace cx := cx.ext hb7
  obtain ⟨hp11, h⟩ := ite_some h
  refine op_append (T := (tInt .i64)) (xs := x1) (ys := [(W ((W (2 * p2)) + 1))]) (z := vI 0) (bytes := 8) ha cx (by kernel_rfl) rfl rfl rfl Try.underlying25 (by kernel_rfl) (by kernel_rfl) wr_id f2 f14.rdb hp11 ?_
  intro w15 S9 A13 c13 cx kp7 hs7 hn7 hat6 f15 a ha
  refine sg ha 1 [(6, vS A13 (x1 ++ [(W ((W (2 * p2)) + 1))]) c13)] w15 fun a ha => ?_
  refine hK _ _ ?_
  clear hK
  refine wp_ret ?_
  obtain rfl := Option.some.inj h
  show bodyPost Try.prog Try.f82 (R82 w S _) .ret a w15
  exact ret_1 (r1 := .tmp 6) (v1 := vS A13 (x1 ++ [(W ((W (2 * p2)) + 1))]) c13) ha rfl (.inl rfl) rfl ⟨_, rfl, cx.below, ⟨_, _, rfl, f15.result cx.sub⟩⟩
def post49 (w : World) (S : Off) (r : ((List Int))) (v : Value) (w1 : World) : Prop := ∃ (A : Option Addr) (c : Nat), v = .slice A r.length c ∧ Ow (tInt .i64) 3 (Wr nob w) w1.heap (inV v S) v r
abbrev R49 (w : World) (S : Off) (r : ((List Int))) : Ending → World → Prop := fun e w1 => ∃ v, e = .returned v ∧ Below w.heap.size w w1 ∧ post49 w S r v w1
theorem ok49 (fuel : Nat) {w : World} {S : Off} (hS : ∀ b, S b → b < w.heap.size) {p0 : (List MTerm)} {p1 : Int} {A_p0 : Option Addr} {c_p0 : Nat} (h_p0 : Sl tTerm w.heap S A_p0 c_p0 p0) {r : ((List Int))} (h : m_ref12_Steps fuel p0 p1 = some r) :
 Calls Try.prog 49 #[vS A_p0 p0 c_p0, vI p1] w (R49 w S r) := by
 refine enterL (vs := [vS A_p0 p0 c_p0, vI p1]) Try.func49 rfl rfl ?_
 intro a ha
 have cx := Cx.start (W0 := nob) hS
 refine with_nop (noP_body _ _) (fun hq => ?_)
 unfold m_ref12_Steps at h
 refine sq fun K hK => ?_
 refine reg ?_
 refine sg ha 1 [(0, vS A_p0 p0 c_p0), (1, vI p1)] w fun a ha => ?_
 refine hK _ _ ?_
 clear hK
 refine sq fun K hK => ?_
 refine reg ?_
 refine sg ha 1 [(0, vS A_p0 p0 c_p0), (1, vI p1), (6, vS A_p0 p0 c_p0)] w fun a ha => ?_
 obtain ⟨x1, hx1, h⟩ := obind h
 refine op_call ha (by kernel_rfl) (f := 55) (args := #[vS A_p0 p0 c_p0]) (w' := w) (by kernel_rfl) (ok55 fuel (p0 := p0) cx.lt h_p0 hx1) ?_
 rintro v1 w1 ⟨hb1, hp1⟩ a ha
 obtain ⟨A1, c1, rfl, f1⟩ := hp1
 replace f1 := own_out cx f1
 replace h_p0 := h_p0.keep (Keep.ext S hb1)
 replace cx := cx.ext hb1
 refine sg ha 1 [(0, vS A_p0 p0 c_p0), (1, vI p1), (5, vS A1 x1 c1)] w1 fun a ha => ?_
 refine hK _ _ ?_
 clear hK
 refine sq fun K hK => ?_
 refine sq fun K hK => ?_
 obtain ⟨q1, hj1, h⟩ := obind h
 refine wp_cutV (D := fun a w_ => ∃ x2 : Bool, x2 = q1 ∧ w1 = w_ ∧ Ag 27 [(0, vS A_p0 p0 c_p0), (1, vI p1), (5, vS A1 x1 c1), (22, vB x2)] a) ?_ ?_
 · clear h; have h := hj1
   refine reg ?_
   refine sg ha 3 [(0, vS A_p0 p0 c_p0), (1, vI p1), (5, vS A1 x1 c1), (10, vB (decide (p1 < 0)))] w1 fun a ha => ?_
   refine split_b (t := 10) ha rfl (fun hb ha => ?_) (fun hb ha => ?_)
   · replace h := itT hb h
     refine sg ha 12 [(0, vS A_p0 p0 c_p0), (1, vI p1), (5, vS A1 x1 c1), (22, vB true)] w1 fun a ha => ?_
     obtain rfl := Option.some.inj h
     exact ⟨_, rfl, rfl, ha.to (by kernel_rfl)⟩
   · replace h := itF hb h
     refine sg ha 6 [(0, vS A_p0 p0 c_p0), (1, vI p1), (5, vS A1 x1 c1), (16, vB (decide (p1 ≥ (x1.length : Int))))] w1 fun a ha => ?_
     refine split_b (t := 16) ha rfl (fun hb ha => ?_) (fun hb ha => ?_)
     · replace h := itT hb h
       refine sg ha 6 [(0, vS A_p0 p0 c_p0), (1, vI p1), (5, vS A1 x1 c1), (22, vB true)] w1 fun a ha => ?_
       obtain rfl := Option.some.inj h
       exact ⟨_, rfl, rfl, ha.to (by kernel_rfl)⟩
     · replace h := itF hb h
       refine sg ha 2 [(0, vS A_p0 p0 c_p0), (1, vI p1), (5, vS A1 x1 c1), (16, vB false), (17, vS A1 x1 c1), (18, vI p1)] w1 fun a ha => ?_
       obtain ⟨hi1, h⟩ := ite_some h
       obtain ⟨b1, o1, cs1, rfl, hr1, hc1⟩ := f1.rdb.get hi1
       obtain rfl := hr1
       refine ov (vE b1 o1 p1 1) ha (obx w1 rfl rfl rfl Try.underlying84 rfl hi1) fun a ha => ?_
       refine ov (vB (gt x1 p1)) ha (ob_load w1 rfl rfl Try.underlying4 rfl ((cell_add1 _ _ _ _).trans (hc1 0 _ rfl))) fun a ha => ?_
       refine sg ha 2 [(0, vS A_p0 p0 c_p0), (1, vI p1), (5, vS (some ⟨b1, o1, none⟩) x1 c1), (22, vB (!(gt x1 p1)))] w1 fun a ha => ?_
       obtain rfl := Option.some.inj h
       exact ⟨_, rfl, rfl, ha.to (by kernel_rfl)⟩
 rintro a _ ⟨x2, rfl, rfl, ha⟩
 refine hK _ _ ?_
 clear hK
 refine cond_b ha rfl (fun hb => ?_) (fun hb => ?_)
 · replace h := itT hb h
   refine sq fun K hK => ?_
   refine reg ?_
   refine sg ha 1 [(4, .slice none 0 0)] w1 fun a ha => ?_
   refine hK _ _ ?_
   clear hK
   refine wp_ret ?_
   obtain rfl := Option.some.inj h
   show bodyPost Try.prog Try.f49 (R49 w S _) .ret a w1
   exact ret_1 (r1 := .tmp 4) (v1 := .slice none 0 0) ha rfl (.inl rfl) rfl ⟨_, rfl, cx.below, ⟨_, _, rfl, Ow.nil⟩⟩
 · replace h := itF hb h
   refine wp_skip ?_
   refine hK _ _ ?_
   clear hK
   refine sq fun K hK => ?_
   refine reg ?_
   refine sg ha 3 [(23, vS A_p0 p0 c_p0), (24, vS A1 x1 c1), (25, vI p1)] w1 fun a ha => ?_
   obtain ⟨x3, hx2, h⟩ := obind h
   refine op_call ha (by kernel_rfl) (f := 82) (args := #[vS A_p0 p0 c_p0, vS A1 x1 c1, vI p1]) (w' := w1) (by kernel_rfl) (ok82 fuel fuel (p0 := p0) (p1 := x1) (p2 := p1) cx.lt h_p0 f1 hx2) ?_
   rintro v2 w2 ⟨hb2, hp2⟩ a ha
   obtain ⟨A2, c2, rfl, f2⟩ := hp2
   obtain ⟨S1, cx, kp1, hs1, hn1, f2⟩ := own_in cx hb2 f2
   refine sg ha 1 [(4, vS A2 x3 c2)] w2 fun a ha => ?_
   refine hK _ _ ?_
   clear hK
   refine wp_ret ?_
   obtain rfl := Option.some.inj h
   show bodyPost Try.prog Try.f49 (R49 w S _) .ret a w2
   exact ret_1 (r1 := .tmp 4) (v1 := vS A2 x3 c2) ha rfl (.inl rfl) rfl ⟨_, rfl, cx.below, ⟨_, _, rfl, f2.result cx.sub⟩⟩
def post85 (w : World) (S : Off) (r : ((List Int))) (v : Value) (w1 : World) : Prop := ∃ (A : Option Addr) (c : Nat), v = .slice A r.length c ∧ Ow (tInt .i64) 3 (Wr nob w) w1.heap (inV v S) v r
abbrev R85 (w : World) (S : Off) (r : ((List Int))) : Ending → World → Prop := fun e w1 => ∃ v, e = .returned v ∧ Below w.heap.size w w1 ∧ post85 w S r v w1
theorem ok85 (fuel : Nat) {w : World} {S : Off} (hS : ∀ b, S b → b < w.heap.size) {p0 : (List Int)} {p1 : (List Int)} {A_p0 : Option Addr} {c_p0 : Nat} (h_p0 : Sl (tInt .i64) w.heap S A_p0 c_p0 p0) {A_p1 : Option Addr} {c_p1 : Nat} (h_p1 : Sl (tInt .i64) w.heap S A_p1 c_p1 p1) {r : ((List Int))} (h : m_ref17_put fuel p0 p1 = some r) :
 Calls Try.prog 85 #[vS A_p0 p0 c_p0, vS A_p1 p1 c_p1] w (R85 w S r) := by
 refine enterL (vs := [vS A_p0 p0 c_p0, vS A_p1 p1 c_p1]) Try.func85 rfl rfl ?_
 intro a ha
 have cx := Cx.start (W0 := nob) hS
 refine with_nop (noP_body _ _) (fun hq => ?_)
 unfold m_ref17_put at h
 refine sq fun K hK => ?_
 refine reg ?_
 refine sg ha 1 [(0, vS A_p0 p0 c_p0), (1, vS A_p1 p1 c_p1)] w fun a ha => ?_
 refine hK _ _ ?_
 clear hK
 refine sq fun K hK => ?_
 refine reg ?_
 refine op_new (V := fun b => .slice (some ⟨b, 0, none⟩) 0 0) (cs := []) (T := 3) ha (by kernel_rfl) (by kernel_rfl) ?_
 intro w1 b1 hb1 hk1 he1 _ a ha
 have f1 := lit_ow (T := (tInt .i64)) (xs := ([] : List Int)) (m := 0) cx hb1 hk1 he1 rfl (by kernel_rfl) Els.nil
 obtain ⟨S1, cx, kp1, hs1, hn1, f1⟩ := own_in cx hb1 f1
 replace h_p0 := h_p0.keep kp1
 replace h_p1 := h_p1.keep kp1
 refine sg ha 1 [(1, vS A_p1 p1 c_p1), (5, .slice (some ⟨b1, 0, none⟩) 0 0), (6, vS A_p0 p0 c_p0)] w1 fun a ha => ?_
 obtain ⟨hp1, h⟩ := ite_some h
 refine op_append (T := (tInt .i64)) (xs := ([] : List Int)) (ys := p0) (z := vI 0) (bytes := 8) ha cx (by kernel_rfl) rfl rfl rfl Try.underlying25 (by kernel_rfl) (by kernel_rfl) wr_id f1 h_p0.rdb hp1 ?_
 intro w2 S2 A1 c1 cx kp2 hs2 hn2 hat1 f2 a ha
 replace h_p1 := h_p1.keep kp2
 refine sg ha 1 [(7, vS A1 (([] : List Int) ++ p0) c1), (8, vS A_p1 p1 c_p1)] w2 fun a ha => ?_
 obtain ⟨hp2, h⟩ := ite_some h
 refine op_append (T := (tInt .i64)) (xs := (([] : List Int) ++ p0)) (ys := p1) (z := vI 0) (bytes := 8) ha cx (by kernel_rfl) rfl rfl rfl Try.underlying25 (by kernel_rfl) (by kernel_rfl) wr_id f2 h_p1.rdb hp2 ?_
 intro w3 S3 A2 c2 cx kp3 hs3 hn3 hat2 f3 a ha
 refine sg ha 1 [(4, vS A2 ((([] : List Int) ++ p0) ++ p1) c2)] w3 fun a ha => ?_
 refine hK _ _ ?_
 clear hK
 refine wp_ret ?_
 obtain rfl := Option.some.inj h
 show bodyPost Try.prog Try.f85 (R85 w S _) .ret a w3
 exact ret_1 (r1 := .tmp 4) (v1 := vS A2 ((([] : List Int) ++ p0) ++ p1) c2) ha rfl (.inl rfl) rfl ⟨_, rfl, cx.below, ⟨_, _, rfl, f3.result cx.sub⟩⟩
def post54 (w : World) (S : Off) (r : ((List MHop))) (v : Value) (w1 : World) : Prop := ∃ (A : Option Addr) (c : Nat), v = .slice A r.length c ∧ Ow tHop 27 (Wr nob w) w1.heap (inV v S) v r
abbrev R54 (w : World) (S : Off) (r : ((List MHop))) : Ending → World → Prop := fun e w1 => ∃ v, e = .returned v ∧ Below w.heap.size w w1 ∧ post54 w S r v w1
theorem ok54 (fuel : Nat) : ∀ (k : Nat) {w : World} {S : Off} (hS : ∀ b, S b → b < w.heap.size) {p0 : (List MTerm)} {p1 : (List Int)} {p2 : (List Bool)} {p3 : Int} {p4 : (List Int)} {A_p0 : Option Addr} {c_p0 : Nat} (h_p0 : Sl tTerm w.heap S A_p0 c_p0 p0) {A_p1 : Option Addr} {c_p1 : Nat} (h_p1 : Sl (tInt .i64) w.heap S A_p1 c_p1 p1) {A_p2 : Option Addr} {c_p2 : Nat} (h_p2 : Sl tBool w.heap S A_p2 c_p2 p2) {A_p4 : Option Addr} {c_p4 : Nat} (h_p4 : Sl (tInt .i64) w.heap S A_p4 c_p4 p4) {r : ((List MHop))} (h : m_ref17_into fuel k p0 p1 p2 p3 p4 = some r), Calls Try.prog 54 #[.slice A_p0 p0.length c_p0, .slice A_p1 p1.length c_p1, .slice A_p2 p2.length c_p2, .int .i64 p3, .slice A_p4 p4.length c_p4] w (R54 w S r) := by
 intro k
 induction k with
 | zero => intro w S hS p0 p1 p2 p3 p4 A_p0 c_p0 h_p0 A_p1 c_p1 h_p1 A_p2 c_p2 h_p2 A_p4 c_p4 h_p4 r h; simp [m_ref17_into] at h
 | succ k ih =>
  intro w S hS p0 p1 p2 p3 p4 A_p0 c_p0 h_p0 A_p1 c_p1 h_p1 A_p2 c_p2 h_p2 A_p4 c_p4 h_p4 r h
  refine enterL (vs := [vS A_p0 p0 c_p0, vS A_p1 p1 c_p1, vS A_p2 p2 c_p2, vI p3, vS A_p4 p4 c_p4]) Try.func54 rfl rfl ?_
  intro a ha
  have cx := Cx.start (W0 := nob) hS
  refine with_nop (noP_body _ _) (fun hq => ?_)
  unfold m_ref17_into at h
  refine sq fun K hK => ?_
  refine reg ?_
  refine sg ha 1 [(0, vS A_p0 p0 c_p0), (1, vS A_p1 p1 c_p1), (2, vS A_p2 p2 c_p2), (3, vI p3), (4, vS A_p4 p4 c_p4)] w fun a ha => ?_
  refine hK _ _ ?_
  clear hK
  refine sq fun K hK => ?_
  refine reg ?_
  refine sg ha 2 [(0, vS A_p0 p0 c_p0), (1, vS A_p1 p1 c_p1), (2, vS A_p2 p2 c_p2), (3, vI p3), (4, vS A_p4 p4 c_p4), (14, vS A_p0 p0 c_p0), (15, vI p3)] w fun a ha => ?_
  obtain ⟨hi1, h⟩ := ite_some h
  obtain ⟨b1, o1, cs1, rfl, hr1, hc1⟩ := h_p0.rdb.get hi1
  obtain ⟨rfl, hl1⟩ := hr1
  refine ov (vE b1 o1 p3 8) ha (obx w rfl rfl rfl Try.underlying22 rfl hi1) fun a ha => ?_
  refine ov (.agg #[vI ((gt p0 p3).Kind), vI ((gt p0 p3).A), vI ((gt p0 p3).B), vI ((gt p0 p3).N), .int .u64 (gt ((gt p0 p3).Set) 0), .int .u64 (gt ((gt p0 p3).Set) 1), .int .u64 (gt ((gt p0 p3).Set) 2), .int .u64 (gt ((gt p0 p3).Set) 3)]) ha (ob_loadn (cs := [vI ((gt p0 p3).Kind), vI ((gt p0 p3).A), vI ((gt p0 p3).B), vI ((gt p0 p3).N), .int .u64 (gt ((gt p0 p3).Set) 0), .int .u64 (gt ((gt p0 p3).Set) 1), .int .u64 (gt ((gt p0 p3).Set) 2), .int .u64 (gt ((gt p0 p3).Set) 3)]) w rfl rfl Try.underlying42 rfl (by kernel_rfl) (fun j v hj => (cell_add2 _ _ _ _ _).trans (hc1 j v hj))) fun a ha => ?_
  refine op_var (d := 11) (z := [vI 0, vI 0, vI 0, vI 0, .int .u64 0, .int .u64 0, .int .u64 0, .int .u64 0]) (vs := [vI ((gt p0 p3).Kind), vI ((gt p0 p3).A), vI ((gt p0 p3).B), vI ((gt p0 p3).N), .int .u64 (gt ((gt p0 p3).Set) 0), .int .u64 (gt ((gt p0 p3).Set) 1), .int .u64 (gt ((gt p0 p3).Set) 2), .int .u64 (gt ((gt p0 p3).Set) 3)]) (v := .agg #[vI ((gt p0 p3).Kind), vI ((gt p0 p3).A), vI ((gt p0 p3).B), vI ((gt p0 p3).N), .int .u64 (gt ((gt p0 p3).Set) 0), .int .u64 (gt ((gt p0 p3).Set) 1), .int .u64 (gt ((gt p0 p3).Set) 2), .int .u64 (gt ((gt p0 p3).Set) 3)]) ha cx (by kernel_rfl) rfl (by kernel_rfl) (fun _ => by kernel_rfl) rfl rfl (fun _ => by kernel_rfl) (by kernel_rfl) (by kernel_rfl) (by kernel_rfl) ?_
  intro w1 b2 cx hb1 f1 a ha
  replace h_p0 := h_p0.keep (Keep.ext S hb1)
  replace h_p1 := h_p1.keep (Keep.ext S hb1)
  replace h_p2 := h_p2.keep (Keep.ext S hb1)
  replace h_p4 := h_p4.keep (Keep.ext S hb1)
  refine hK _ _ ?_
  clear hK
  refine sq fun K hK => ?_
  refine reg ?_
  refine sg ha 3 [(0, vS (some ⟨b1, o1, none⟩) p0 c_p0), (1, vS A_p1 p1 c_p1), (2, vS A_p2 p2 c_p2), (3, vI p3), (11, vP b2), (18, vS A_p4 p4 c_p4), (20, vI (W (2 * p3)))] w1 fun a ha => ?_
  refine op_new (V := fun b => .slice (some ⟨b, 0, none⟩) 1 1) (cs := [vI (W (2 * p3))]) (T := 3) ha (by kernel_rfl) (by kernel_rfl) ?_
  intro w2 b3 hb2 hk1 he1 _ a ha
  have f2 := lit_ow (T := (tInt .i64)) (xs := [(W (2 * p3))]) (m := 1) cx hb2 hk1 he1 rfl (by kernel_rfl) (Els.one (T := (tInt .i64)) (x := (W (2 * p3))) rfl)
  replace f2 := own_out cx f2
  replace h_p0 := h_p0.keep (Keep.ext S hb2)
  replace h_p1 := h_p1.keep (Keep.ext S hb2)
  replace h_p2 := h_p2.keep (Keep.ext S hb2)
  replace f1 := f1.keep (Keep.ext S hb2)
  replace h_p4 := h_p4.keep (Keep.ext S hb2)
  replace cx := cx.ext hb2
  obtain ⟨x1, hx1, h⟩ := obind h
  refine op_call ha (by kernel_rfl) (f := 85) (args := #[vS A_p4 p4 c_p4, .slice (some ⟨b3, 0, none⟩) 1 1]) (w' := w2) (by kernel_rfl) (ok85 fuel (p0 := p4) (p1 := [(W (2 * p3))]) cx.lt h_p4 f2 hx1) ?_
  rintro v1 w3 ⟨hb3, hp1⟩ a ha
  obtain ⟨A1, c1, rfl, f3⟩ := hp1
  replace f3 := own_out cx f3
  replace h_p0 := h_p0.keep (Keep.ext S hb3)
  replace h_p1 := h_p1.keep (Keep.ext S hb3)
  replace h_p2 := h_p2.keep (Keep.ext S hb3)
  replace f1 := f1.keep (Keep.ext S hb3)
  replace cx := cx.ext hb3
  refine sg ha 1 [(0, vS (some ⟨b1, o1, none⟩) p0 c_p0), (1, vS A_p1 p1 c_p1), (2, vS A_p2 p2 c_p2), (3, vI p3), (11, vP b2), (12, vS A1 x1 c1)] w3 fun a ha => ?_
  refine hK _ _ ?_
  clear hK
  refine sq fun K hK => ?_
  refine sq fun K hK => ?_
  refine reg ?_
  refine sg ha 1 [(0, vS (some ⟨b1, o1, none⟩) p0 c_p0), (1, vS A_p1 p1 c_p1), (2, vS A_p2 p2 c_p2), (3, vI p3), (11, vP b2), (12, vS A1 x1 c1), (23, vF b2 0)] w3 fun a ha => ?_
  refine ov (.int .i64 ((gt p0 p3).Kind)) ha (ob_load w3 rfl rfl Try.underlying3 rfl ((cell_add1 _ _ _ _).trans (by rw [Nat.zero_add]; exact f1.cell 0 _ rfl))) fun a ha => ?_
  refine hK _ _ ?_
  clear hK
  refine wp_block ?_
  refine sq fun K hK => ?_
  refine reg ?_
  refine sg ha 2 [(0, vS (some ⟨b1, o1, none⟩) p0 c_p0), (1, vS A_p1 p1 c_p1), (2, vS A_p2 p2 c_p2), (3, vI p3), (11, vP b2), (12, vS A1 x1 c1), (24, vI ((gt p0 p3).Kind)), (25, vB (((gt p0 p3).Kind) == 2))] w3 fun a ha => ?_
  refine hK _ _ ?_
  clear hK
  refine cond_b ha rfl (fun hb => ?_) (fun hb => ?_)
  · replace h := itT hb h
    refine sq fun K hK => ?_
    refine reg ?_
    refine sg ha 2 [(12, vS A1 x1 c1), (27, vS A_p1 p1 c_p1), (28, vI p3)] w3 fun a ha => ?_
    obtain ⟨hi2, h⟩ := ite_some h
    obtain ⟨b4, o2, cs2, rfl, hr2, hc2⟩ := h_p1.rdb.get hi2
    obtain rfl := hr2
    refine ov (vE b4 o2 p3 1) ha (obx w3 rfl rfl rfl Try.underlying25 rfl hi2) fun a ha => ?_
    refine ov (vI (gt p1 p3)) ha (ob_load w3 rfl rfl Try.underlying3 rfl ((cell_add1 _ _ _ _).trans (hc2 0 _ rfl))) fun a ha => ?_
    refine sg ha 2 [(32, .agg #[vI (gt p1 p3), vI 0, vS A1 x1 c1])] w3 fun a ha => ?_
    refine op_new (V := fun b => .slice (some ⟨b, 0, none⟩) 1 1) (cs := [vI (gt p1 p3), vI 0, vS A1 x1 c1]) (T := 27) ha (by kernel_rfl) (by kernel_rfl) ?_
    intro w4 b5 hb4 hk2 he2 _ a ha
    have f4 := lit_ow (T := tHop) (xs := [(⟨(gt p1 p3), (0 : Int), x1⟩ : MHop)]) (m := 1) cx hb4 hk2 he2 rfl (by kernel_rfl) (Els.one (T := tHop) (x := (⟨(gt p1 p3), (0 : Int), x1⟩ : MHop)) ⟨_, _, rfl, f3⟩)
    obtain ⟨S1, cx, kp1, hs1, hn1, f4⟩ := own_in cx hb4 f4
    refine sg ha 1 [(10, .slice (some ⟨b5, 0, none⟩) 1 1)] w4 fun a ha => ?_
    refine hK _ _ ?_
    clear hK
    refine wp_ret ?_
    obtain rfl := Option.some.inj h
    show bodyPost Try.prog Try.f54 (R54 w S _) .ret a w4
    exact ret_1 (r1 := .tmp 10) (v1 := .slice (some ⟨b5, 0, none⟩) 1 1) ha rfl (.inl rfl) rfl ⟨_, rfl, cx.below, ⟨_, _, rfl, f4.result cx.sub⟩⟩
  · replace h := itF hb h
    refine sq fun K hK => ?_
    refine reg ?_
    refine sg ha 2 [(0, vS (some ⟨b1, o1, none⟩) p0 c_p0), (1, vS A_p1 p1 c_p1), (2, vS A_p2 p2 c_p2), (11, vP b2), (12, vS A1 x1 c1), (24, vI ((gt p0 p3).Kind)), (34, vB (((gt p0 p3).Kind) == 3))] w3 fun a ha => ?_
    refine hK _ _ ?_
    clear hK
    refine cond_b ha rfl (fun hb => ?_) (fun hb => ?_)
    · replace h := itT hb h
      refine sq fun K hK => ?_
      refine reg ?_
      refine sg ha 4 [(0, vS (some ⟨b1, o1, none⟩) p0 c_p0), (1, vS A_p1 p1 c_p1), (2, vS A_p2 p2 c_p2), (11, vP b2), (12, vS A1 x1 c1), (36, vS (some ⟨b1, o1, none⟩) p0 c_p0), (37, vS A_p1 p1 c_p1), (38, vS A_p2 p2 c_p2), (39, vF b2 1)] w3 fun a ha => ?_
      refine ov (.int .i64 ((gt p0 p3).A)) ha (ob_load w3 rfl rfl Try.underlying3 rfl ((cell_add1 _ _ _ _).trans (by rw [Nat.zero_add]; exact f1.cell 1 _ rfl))) fun a ha => ?_
      refine sg ha 1 [(0, vS (some ⟨b1, o1, none⟩) p0 c_p0), (1, vS A_p1 p1 c_p1), (2, vS A_p2 p2 c_p2), (11, vP b2), (12, vS A1 x1 c1), (36, vS (some ⟨b1, o1, none⟩) p0 c_p0), (37, vS A_p1 p1 c_p1), (38, vS A_p2 p2 c_p2), (40, vI ((gt p0 p3).A)), (41, vS A1 x1 c1)] w3 fun a ha => ?_
      obtain ⟨x2, hx2, h⟩ := obind h
      refine op_call ha (by kernel_rfl) (f := 54) (args := #[vS (some ⟨b1, o1, none⟩) p0 c_p0, vS A_p1 p1 c_p1, vS A_p2 p2 c_p2, vI ((gt p0 p3).A), vS A1 x1 c1]) (w' := w3) (by kernel_rfl) (ih (p0 := p0) (p1 := p1) (p2 := p2) (p3 := (gt p0 p3).A) (p4 := x1) cx.lt h_p0 h_p1 h_p2 f3 hx2) ?_
      rintro v2 w5 ⟨hb5, hp2⟩ a ha
      obtain ⟨A2, c2, rfl, f5⟩ := hp2
      obtain ⟨S2, cx, kp2, hs2, hn2, f5⟩ := own_in cx hb5 f5
      replace h_p0 := h_p0.keep kp2
      replace h_p1 := h_p1.keep kp2
      replace h_p2 := h_p2.keep kp2
      replace f1 := f1.keep kp2
      replace f3 := f3.keep kp2
      refine sg ha 1 [(0, vS (some ⟨b1, o1, none⟩) p0 c_p0), (1, vS A_p1 p1 c_p1), (2, vS A_p2 p2 c_p2), (11, vP b2), (12, vS A1 x1 c1), (13, vS A2 x2 c2)] w5 fun a ha => ?_
      refine hK _ _ ?_
      clear hK
      refine sq fun K hK => ?_
      obtain ⟨q1, hj1, h⟩ := obind h
      refine wp_cutV (D := fun a w6 => ∃ x3 : List MHop, ∃ (S3 : Off), ∃ (A3 : Option Addr) (c3 : Nat), x3 = q1 ∧ Cx w nob S w6 S3 ∧ Ow tHop 27 (Wr nob w) w6.heap S3 (vS A3 x3 c3) x3 ∧ Ag 93 [(13, vS A3 x3 c3)] a) ?_ ?_
      · clear h; have h := hj1
        refine sq fun K hK => ?_
        refine reg ?_
        refine sg ha 2 [(0, vS (some ⟨b1, o1, none⟩) p0 c_p0), (1, vS A_p1 p1 c_p1), (2, vS A_p2 p2 c_p2), (11, vP b2), (12, vS A1 x1 c1), (13, vS A2 x2 c2), (43, vS A_p2 p2 c_p2), (44, vF b2 1)] w5 fun a ha => ?_
        refine ov (.int .i64 ((gt p0 p3).A)) ha (ob_load w5 rfl rfl Try.underlying3 rfl ((cell_add1 _ _ _ _).trans (by rw [Nat.zero_add]; exact f1.cell 1 _ rfl))) fun a ha => ?_
        obtain ⟨hi3, h⟩ := ite_some h
        obtain ⟨b6, o3, cs3, rfl, hr3, hc3⟩ := h_p2.rdb.get hi3
        obtain rfl := hr3
        refine ov (vE b6 o3 ((gt p0 p3).A) 1) ha (obx w5 rfl rfl rfl Try.underlying84 rfl hi3) fun a ha => ?_
        refine ov (vB (gt p2 ((gt p0 p3).A))) ha (ob_load w5 rfl rfl Try.underlying4 rfl ((cell_add1 _ _ _ _).trans (hc3 0 _ rfl))) fun a ha => ?_
        refine hK _ _ ?_
        clear hK
        refine cond_b ha rfl (fun hb => ?_) (fun hb => ?_)
        · replace h := itT hb h
          refine dr_start 14 S2 rfl ?_
          intro w7 e1 hb6
          replace h_p0 := h_p0.keep (Keep.ext S2 hb6)
          replace h_p1 := h_p1.keep (Keep.ext S2 hb6)
          replace h_p2 := h_p2.keep (Keep.ext S2 hb6)
          replace f1 := f1.keep (Keep.ext S2 hb6)
          replace f3 := f3.keep (Keep.ext S2 hb6)
          replace f5 := f5.ext hb6
          replace cx := cx.ext hb6
          have hkk := Keep.refl w7.heap S2
          have hold := Sold.start w7
          have g1 := h_p0
          have g2 := h_p1
          have g3 := h_p2
          have g4 := f1
          have g5 := f3
          have g6 := f5
          refine dk 0 (vS A2 x2 c2) ha hq rfl (Sd.start _ _ _ _) fun hsx a ha => ?_
          refine dk 1 (vS (some ⟨b1, o1, none⟩) p0 c_p0) ha hq rfl hsx fun hsx a ha => ?_
          refine dk 2 (vS A_p1 p1 c_p1) ha hq rfl hsx fun hsx a ha => ?_
          refine dk 3 (vS (some ⟨b6, o3, none⟩) p2 c_p2) ha hq rfl hsx fun hsx a ha => ?_
          refine dk 4 (vF b2 2) ha hq rfl hsx fun hsx a ha => ?_
          refine dv 5 (.int .i64 ((gt p0 p3).B)) ha hq rfl (fun w2 hw2 hw3 => ob_load w2 rfl rfl Try.underlying3 rfl ((cell_add1 _ _ _ _).trans (by rw [Nat.zero_add]; exact Sk.cell g4.2 hw2 (g4.cell 2 _ rfl)))) hsx fun hsx a ha => ?_
          refine dk 6 (vS A1 x1 c1) ha hq rfl hsx fun hsx a ha => ?_
          refine dk 7 (vS (some ⟨b1, o1, none⟩) p0 c_p0) ha hq rfl hsx fun hsx a ha => ?_
          refine dk 8 (vS (some ⟨b6, o3, none⟩) p2 c_p2) ha hq rfl hsx fun hsx a ha => ?_
          refine dk 9 (vF b2 1) ha hq rfl hsx fun hsx a ha => ?_
          refine dv 10 (.int .i64 ((gt p0 p3).A)) ha hq rfl (fun w2 hw2 hw3 => ob_load w2 rfl rfl Try.underlying3 rfl ((cell_add1 _ _ _ _).trans (by rw [Nat.zero_add]; exact Sk.cell g4.2 hw2 (g4.cell 1 _ rfl)))) hsx fun hsx a ha => ?_
          refine dr_one (i := 11) (by kernel_rfl) rfl ?_
          obtain ⟨x4, hx3, h⟩ := obind h
          refine op_call ha (by kernel_rfl) (f := 82) (args := #[vS (some ⟨b1, o1, none⟩) p0 c_p0, vS (some ⟨b6, o3, none⟩) p2 c_p2, vI ((gt p0 p3).A)]) (w' := w7) (by kernel_rfl) (ok82 fuel fuel (p0 := p0) (p1 := p2) (p2 := (gt p0 p3).A) cx.lt h_p0 h_p2 hx3) ?_
          rintro v3 w8 ⟨hb7, hp3⟩ a ha
          obtain ⟨A4, c4, rfl, f7⟩ := hp3
          replace f7 := own_out cx f7
          replace f5 := f5.ext hb7
          replace h_p0 := h_p0.keep (Keep.ext S2 hb7)
          replace h_p1 := h_p1.keep (Keep.ext S2 hb7)
          replace h_p2 := h_p2.keep (Keep.ext S2 hb7)
          replace f3 := f3.keep (Keep.ext S2 hb7)
          replace cx := cx.ext hb7
          replace hold := hold.ext hkk.size hb7
          replace hkk := hkk.trans (Keep.ext S2 hb7)
          refine dr_next (Sd.before hkk hold) ?_
          refine dr_one (i := 12) (by kernel_rfl) rfl ?_
          obtain ⟨x5, hx4, h⟩ := obind h
          refine op_call ha (by kernel_rfl) (f := 85) (args := #[vS A1 x1 c1, vS A4 x4 c4]) (w' := w8) (by kernel_rfl) (ok85 fuel (p0 := x1) (p1 := x4) cx.lt f3 f7 hx4) ?_
          rintro v4 w9 ⟨hb8, hp4⟩ a ha
          obtain ⟨A5, c5, rfl, f8⟩ := hp4
          replace f8 := own_out cx f8
          replace f5 := f5.ext hb8
          replace h_p0 := h_p0.keep (Keep.ext S2 hb8)
          replace h_p1 := h_p1.keep (Keep.ext S2 hb8)
          replace h_p2 := h_p2.keep (Keep.ext S2 hb8)
          replace cx := cx.ext hb8
          replace hold := hold.ext hkk.size hb8
          replace hkk := hkk.trans (Keep.ext S2 hb8)
          refine dr_next (Sd.before hkk hold) ?_
          refine dr_one (i := 13) (by kernel_rfl) rfl ?_
          obtain ⟨x6, hx5, h⟩ := obind h
          refine op_call ha (by kernel_rfl) (f := 54) (args := #[vS (some ⟨b1, o1, none⟩) p0 c_p0, vS A_p1 p1 c_p1, vS (some ⟨b6, o3, none⟩) p2 c_p2, vI ((gt p0 p3).B), vS A5 x5 c5]) (w' := w9) (by kernel_rfl) (ih (p0 := p0) (p1 := p1) (p2 := p2) (p3 := (gt p0 p3).B) (p4 := x5) cx.lt h_p0 h_p1 h_p2 f8 hx5) ?_
          rintro v5 w10 ⟨hb9, hp5⟩ a ha
          obtain ⟨A6, c6, rfl, f9⟩ := hp5
          replace f9 := own_out cx f9
          replace f5 := f5.ext hb9
          replace cx := cx.ext hb9
          replace hold := hold.ext hkk.size hb9
          replace hkk := hkk.trans (Keep.ext S2 hb9)
          refine dr_next (Sd.before hkk hold) ?_
          refine dr_one (i := 14) (by kernel_rfl) rfl ?_
          obtain ⟨hp6, h⟩ := ite_some h
          refine op_append (T := tHop) (xs := x2) (ys := x6) (z := .agg #[vI 0, vI 0, .slice none 0 0]) (bytes := 40) ha cx (by kernel_rfl) rfl rfl rfl Try.underlying31 (by kernel_rfl) (by kernel_rfl) wr_id f5 f9.rdb hp6 ?_
          intro w11 S4 A7 c7 cx kp3 hs3 hn3 hat1 f10 a ha
          replace hkk := hkk.trans kp3
          refine dr_next (Sd.behind hkk (by kernel_rfl)) ?_
          refine dk 15 (vS A7 (x2 ++ x6) c7) ha hq rfl (Sd.behind hkk (by kernel_rfl)) fun hsx a ha => ?_
          refine dr_done (by kernel_rfl) ?_
          replace ha := ha.to (l' := [(13, vS A7 (x2 ++ x6) c7)]) (by kernel_rfl)
          obtain rfl := Option.some.inj h
          exact ⟨_, _, A7, c7, rfl, cx, f10, ha.to (by kernel_rfl)⟩
        · replace h := itF hb h
          refine wp_skip ?_
          obtain rfl := Option.some.inj h
          exact ⟨_, _, A2, c2, rfl, cx, f5, ha.to (by kernel_rfl)⟩
      rintro a w6 ⟨x3, S3, A3, c3, rfl, cx, f6, ha⟩
      refine hK _ _ ?_
      clear hK
      refine sq fun K hK => ?_
      refine reg ?_
      refine sg ha 2 [(10, vS A3 x3 c3)] w6 fun a ha => ?_
      refine hK _ _ ?_
      clear hK
      refine wp_ret ?_
      obtain rfl := Option.some.inj h
      show bodyPost Try.prog Try.f54 (R54 w S _) .ret a w6
      exact ret_1 (r1 := .tmp 10) (v1 := vS A3 x3 c3) ha rfl (.inl rfl) rfl ⟨_, rfl, cx.below, ⟨_, _, rfl, f6.result cx.sub⟩⟩
    · replace h := itF hb h
      refine sq fun K hK => ?_
      refine reg ?_
      refine sg ha 2 [(0, vS (some ⟨b1, o1, none⟩) p0 c_p0), (1, vS A_p1 p1 c_p1), (2, vS A_p2 p2 c_p2), (11, vP b2), (12, vS A1 x1 c1), (24, vI ((gt p0 p3).Kind)), (64, vB (((gt p0 p3).Kind) == 4))] w3 fun a ha => ?_
      refine hK _ _ ?_
      clear hK
      refine cond_b ha rfl (fun hb => ?_) (fun hb => ?_)
      · replace h := itT hb h
        refine sq fun K hK => ?_
        refine dr_start 14 S rfl ?_
        intro w12 e2 hb10
        replace h_p0 := h_p0.keep (Keep.ext S hb10)
        replace h_p1 := h_p1.keep (Keep.ext S hb10)
        replace h_p2 := h_p2.keep (Keep.ext S hb10)
        replace f1 := f1.keep (Keep.ext S hb10)
        replace f3 := f3.keep (Keep.ext S hb10)
        replace cx := cx.ext hb10
        have hkk := Keep.refl w12.heap S
        have hold := Sold.start w12
        have g7 := h_p0
        have g8 := h_p1
        have g9 := h_p2
        have g10 := f1
        have g11 := f3
        refine dk 0 (vS (some ⟨b1, o1, none⟩) p0 c_p0) ha hq rfl (Sd.start _ _ _ _) fun hsx a ha => ?_
        refine dk 1 (vS A_p1 p1 c_p1) ha hq rfl hsx fun hsx a ha => ?_
        refine dk 2 (vS A_p2 p2 c_p2) ha hq rfl hsx fun hsx a ha => ?_
        refine dk 3 (vF b2 1) ha hq rfl hsx fun hsx a ha => ?_
        refine dv 4 (.int .i64 ((gt p0 p3).A)) ha hq rfl (fun w2 hw2 hw3 => ob_load w2 rfl rfl Try.underlying3 rfl ((cell_add1 _ _ _ _).trans (by rw [Nat.zero_add]; exact Sk.cell g10.2 hw2 (g10.cell 1 _ rfl)))) hsx fun hsx a ha => ?_
        refine dk 5 (vS A1 x1 c1) ha hq rfl hsx fun hsx a ha => ?_
        refine dk 7 (vS (some ⟨b1, o1, none⟩) p0 c_p0) ha hq rfl hsx fun hsx a ha => ?_
        refine dk 8 (vS A_p1 p1 c_p1) ha hq rfl hsx fun hsx a ha => ?_
        refine dk 9 (vS A_p2 p2 c_p2) ha hq rfl hsx fun hsx a ha => ?_
        refine dk 10 (vF b2 2) ha hq rfl hsx fun hsx a ha => ?_
        refine dv 11 (.int .i64 ((gt p0 p3).B)) ha hq rfl (fun w2 hw2 hw3 => ob_load w2 rfl rfl Try.underlying3 rfl ((cell_add1 _ _ _ _).trans (by rw [Nat.zero_add]; exact Sk.cell g10.2 hw2 (g10.cell 2 _ rfl)))) hsx fun hsx a ha => ?_
        refine dk 12 (vS A1 x1 c1) ha hq rfl hsx fun hsx a ha => ?_
        refine dr_one (i := 6) (by kernel_rfl) rfl ?_
        obtain ⟨x7, hx6, h⟩ := obind h
        refine op_call ha (by kernel_rfl) (f := 54) (args := #[vS (some ⟨b1, o1, none⟩) p0 c_p0, vS A_p1 p1 c_p1, vS A_p2 p2 c_p2, vI ((gt p0 p3).A), vS A1 x1 c1]) (w' := w12) (by kernel_rfl) (ih (p0 := p0) (p1 := p1) (p2 := p2) (p3 := (gt p0 p3).A) (p4 := x1) cx.lt h_p0 h_p1 h_p2 f3 hx6) ?_
        rintro v6 w13 ⟨hb11, hp7⟩ a ha
        obtain ⟨A8, c8, rfl, f11⟩ := hp7
        obtain ⟨S5, cx, kp4, hs4, hn4, f11⟩ := own_in cx hb11 f11
        replace h_p0 := h_p0.keep kp4
        replace h_p1 := h_p1.keep kp4
        replace h_p2 := h_p2.keep kp4
        replace f3 := f3.keep kp4
        replace hold := hold.ext hkk.size hb11
        replace hkk := hkk.trans kp4
        refine dr_next (Sd.before hkk hold) ?_
        refine dr_one (i := 13) (by kernel_rfl) rfl ?_
        obtain ⟨x8, hx7, h⟩ := obind h
        refine op_call ha (by kernel_rfl) (f := 54) (args := #[vS (some ⟨b1, o1, none⟩) p0 c_p0, vS A_p1 p1 c_p1, vS A_p2 p2 c_p2, vI ((gt p0 p3).B), vS A1 x1 c1]) (w' := w13) (by kernel_rfl) (ih (p0 := p0) (p1 := p1) (p2 := p2) (p3 := (gt p0 p3).B) (p4 := x1) cx.lt h_p0 h_p1 h_p2 f3 hx7) ?_
        rintro v7 w14 ⟨hb12, hp8⟩ a ha
        obtain ⟨A9, c9, rfl, f12⟩ := hp8
        replace f12 := own_out cx f12
        replace f11 := f11.ext hb12
        replace cx := cx.ext hb12
        replace hold := hold.ext hkk.size hb12
        replace hkk := hkk.trans (Keep.ext S5 hb12)
        refine dr_next (Sd.before hkk hold) ?_
        refine dr_one (i := 14) (by kernel_rfl) rfl ?_
        obtain ⟨hp9, h⟩ := ite_some h
        refine op_append (T := tHop) (xs := x7) (ys := x8) (z := .agg #[vI 0, vI 0, .slice none 0 0]) (bytes := 40) ha cx (by kernel_rfl) rfl rfl rfl Try.underlying31 (by kernel_rfl) (by kernel_rfl) wr_id f11 f12.rdb hp9 ?_
        intro w15 S6 A10 c10 cx kp5 hs5 hn5 hat2 f13 a ha
        replace hkk := hkk.trans kp5
        refine dr_next (Sd.behind hkk (by kernel_rfl)) ?_
        refine dk 15 (vS A10 (x7 ++ x8) c10) ha hq rfl (Sd.behind hkk (by kernel_rfl)) fun hsx a ha => ?_
        refine dr_done (by kernel_rfl) ?_
        replace ha := ha.to (l' := [(10, vS A10 (x7 ++ x8) c10)]) (by kernel_rfl)
        refine hK _ _ ?_
        clear hK
        refine wp_ret ?_
        obtain rfl := Option.some.inj h
        show bodyPost Try.prog Try.f54 (R54 w S _) .ret a w15
        exact ret_1 (r1 := .tmp 10) (v1 := vS A10 (x7 ++ x8) c10) ha rfl (.inl rfl) rfl ⟨_, rfl, cx.below, ⟨_, _, rfl, f13.result cx.sub⟩⟩
      · replace h := itF hb h
        refine sq fun K hK => ?_
        obtain ⟨q2, hj2, h⟩ := obind h
        refine wp_cutV (D := fun a w_ => ∃ x9 : Bool, x9 = q2 ∧ w3 = w_ ∧ Ag 93 [(0, vS (some ⟨b1, o1, none⟩) p0 c_p0), (1, vS A_p1 p1 c_p1), (2, vS A_p2 p2 c_p2), (11, vP b2), (12, vS A1 x1 c1), (81, vB x9)] a) ?_ ?_
        · clear h; have h := hj2
          refine sq fun K hK => ?_
          refine reg ?_
          refine sg ha 2 [(0, vS (some ⟨b1, o1, none⟩) p0 c_p0), (1, vS A_p1 p1 c_p1), (2, vS A_p2 p2 c_p2), (11, vP b2), (12, vS A1 x1 c1), (24, vI ((gt p0 p3).Kind)), (81, vB (((gt p0 p3).Kind) == 5))] w3 fun a ha => ?_
          refine hK _ _ ?_
          clear hK
          refine cond_b ha rfl (fun hb => ?_) (fun hb => ?_)
          · replace h := itT hb h
            refine wp_skip ?_
            obtain rfl := Option.some.inj h
            exact ⟨_, rfl, rfl, ha.to (by kernel_rfl)⟩
          · replace h := itF hb h
            refine sq fun K hK => ?_
            refine reg ?_
            refine sg ha 2 [(0, vS (some ⟨b1, o1, none⟩) p0 c_p0), (1, vS A_p1 p1 c_p1), (2, vS A_p2 p2 c_p2), (11, vP b2), (12, vS A1 x1 c1), (24, vI ((gt p0 p3).Kind)), (81, vB (((gt p0 p3).Kind) == 6))] w3 fun a ha => ?_
            refine hK _ _ ?_
            clear hK
            refine cond_b ha rfl (fun hb => ?_) (fun hb => ?_)
            · replace h := itT hb h
              refine wp_skip ?_
              obtain rfl := Option.some.inj h
              exact ⟨_, rfl, rfl, ha.to (by kernel_rfl)⟩
            · replace h := itF hb h
              refine sq fun K hK => ?_
              refine reg ?_
              refine sg ha 2 [(0, vS (some ⟨b1, o1, none⟩) p0 c_p0), (1, vS A_p1 p1 c_p1), (2, vS A_p2 p2 c_p2), (11, vP b2), (12, vS A1 x1 c1), (24, vI ((gt p0 p3).Kind)), (81, vB (((gt p0 p3).Kind) == 7))] w3 fun a ha => ?_
              refine hK _ _ ?_
              clear hK
              refine cond_b ha rfl (fun hb => ?_) (fun hb => ?_)
              · replace h := itT hb h
                refine wp_skip ?_
                obtain rfl := Option.some.inj h
                exact ⟨_, rfl, rfl, ha.to (by kernel_rfl)⟩
              · replace h := itF hb h
                refine reg ?_
                refine sg ha 2 [(0, vS (some ⟨b1, o1, none⟩) p0 c_p0), (1, vS A_p1 p1 c_p1), (2, vS A_p2 p2 c_p2), (11, vP b2), (12, vS A1 x1 c1), (81, vB (((gt p0 p3).Kind) == 8))] w3 fun a ha => ?_
                obtain rfl := Option.some.inj h
                exact ⟨_, rfl, rfl, ha.to (by kernel_rfl)⟩
        rintro a _ ⟨x9, rfl, rfl, ha⟩
        refine hK _ _ ?_
        clear hK
        refine cond_b ha rfl (fun hb => ?_) (fun hb => ?_)
        · replace h := itT hb h
          refine sq fun K hK => ?_
          refine reg ?_
          refine sg ha 4 [(12, vS A1 x1 c1), (86, vS (some ⟨b1, o1, none⟩) p0 c_p0), (87, vS A_p1 p1 c_p1), (88, vS A_p2 p2 c_p2), (89, vF b2 1)] w3 fun a ha => ?_
          refine ov (.int .i64 ((gt p0 p3).A)) ha (ob_load w3 rfl rfl Try.underlying3 rfl ((cell_add1 _ _ _ _).trans (by rw [Nat.zero_add]; exact f1.cell 1 _ rfl))) fun a ha => ?_
          refine sg ha 1 [(86, vS (some ⟨b1, o1, none⟩) p0 c_p0), (87, vS A_p1 p1 c_p1), (88, vS A_p2 p2 c_p2), (90, vI ((gt p0 p3).A)), (91, vS A1 x1 c1)] w3 fun a ha => ?_
          obtain ⟨x10, hx8, h⟩ := obind h
          refine op_call ha (by kernel_rfl) (f := 54) (args := #[vS (some ⟨b1, o1, none⟩) p0 c_p0, vS A_p1 p1 c_p1, vS A_p2 p2 c_p2, vI ((gt p0 p3).A), vS A1 x1 c1]) (w' := w3) (by kernel_rfl) (ih (p0 := p0) (p1 := p1) (p2 := p2) (p3 := (gt p0 p3).A) (p4 := x1) cx.lt h_p0 h_p1 h_p2 f3 hx8) ?_
          rintro v8 w16 ⟨hb13, hp10⟩ a ha
          obtain ⟨A11, c11, rfl, f14⟩ := hp10
          obtain ⟨S7, cx, kp6, hs6, hn6, f14⟩ := own_in cx hb13 f14
          refine sg ha 1 [(10, vS A11 x10 c11)] w16 fun a ha => ?_
          refine hK _ _ ?_
          clear hK
          refine wp_ret ?_
          obtain rfl := Option.some.inj h
          show bodyPost Try.prog Try.f54 (R54 w S _) .ret a w16
          exact ret_1 (r1 := .tmp 10) (v1 := vS A11 x10 c11) ha rfl (.inl rfl) rfl ⟨_, rfl, cx.below, ⟨_, _, rfl, f14.result cx.sub⟩⟩
        · replace h := itF hb h
          refine wp_skip ?_
          refine hK _ _ ?_
          clear hK
          refine sq fun K hK => ?_
          refine reg ?_
          refine sg ha 1 [(10, .slice none 0 0)] w3 fun a ha => ?_
          refine hK _ _ ?_
          clear hK
          refine wp_ret ?_
          obtain rfl := Option.some.inj h
          show bodyPost Try.prog Try.f54 (R54 w S _) .ret a w3
          exact ret_1 (r1 := .tmp 10) (v1 := .slice none 0 0) ha rfl (.inl rfl) rfl ⟨_, rfl, cx.below, ⟨_, _, rfl, Ow.nil⟩⟩
end Go.Proofs.Ytfhehbfifffipaa
