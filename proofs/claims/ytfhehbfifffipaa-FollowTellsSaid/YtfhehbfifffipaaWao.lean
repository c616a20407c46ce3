/- What the functions compute is what the program does. Its conditions: none. -/
import Derived.Test.YtfhehbfifffipaaVShort
import Derived.Test.YtfhehbfifffipaaTy
import Derived.Test.YtfhehbfifffipaaWae
import Derived.Test.YtfhehbfifffipaaWag
import Derived.Test.YtfhehbfifffipaaWah
import Derived.Test.YtfhehbfifffipaaWai
import Derived.Test.YtfhehbfifffipaaWan
set_option maxRecDepth 20000
set_option autoImplicit false
namespace Go.Proofs.Ytfhehbfifffipaa
open Go.V Go.RowKit
set_option linter.unusedVariables false
def post83 (w : World) (S : Off) (r : ((List Int))) (v : Value) (w1 : World) : Prop := ∃ (A : Option Addr) (c : Nat), v = .slice A r.length c ∧ Ow (tInt .i64) 3 (Wr nob w) w1.heap (inV v S) v r
abbrev R83 (w : World) (S : Off) (r : ((List Int))) : Ending → World → Prop := fun e w1 => ∃ v, e = .returned v ∧ Below w.heap.size w w1 ∧ post83 w S r v w1
theorem ok83 (fuel : Nat) {w : World} {S : Off} (hS : ∀ b, S b → b < w.heap.size) {p0 : (List MTerm)} {A_p0 : Option Addr} {c_p0 : Nat} (h_p0 : Sl tTerm w.heap S A_p0 c_p0 p0) {r : ((List Int))} (h : m_ref10_Deep fuel p0 = some r) :
 Calls Try.prog 83 #[vS A_p0 p0 c_p0] w (R83 w S r) := by
 refine enterL (vs := [vS A_p0 p0 c_p0]) Try.func83 rfl rfl ?_
 intro a ha
 have cx := Cx.start (W0 := nob) hS
 refine with_nop (noP_body _ _) (fun hq => ?_)
 unfold m_ref10_Deep at h
 refine sq fun K hK => ?_
 refine reg ?_
 refine sg ha 1 [(0, vS A_p0 p0 c_p0)] w fun a ha => ?_
 refine hK _ _ ?_
 clear hK
 refine sq fun K hK => ?_
 refine reg ?_
 refine sg ha 1 [(6, vS A_p0 p0 c_p0)] w fun a ha => ?_
 obtain ⟨x1, hx1, h⟩ := obind h
 refine op_call ha (by kernel_rfl) (f := 27) (args := #[vS A_p0 p0 c_p0]) (w' := w) (by kernel_rfl) (ok27 fuel (p0 := p0) cx.lt h_p0 hx1) ?_
 rintro v1 w1 ⟨hb1, hp1⟩ a ha
 obtain ⟨A1, c1, rfl, f1⟩ := hp1
 replace f1 := own_out cx f1
 replace cx := cx.ext hb1
 refine sg ha 1 [(3, vS A1 x1 c1)] w1 fun a ha => ?_
 refine hK _ _ ?_
 clear hK
 refine sq fun K hK => ?_
 refine reg ?_
 refine sg ha 2 [(3, vS A1 x1 c1), (9, vI (x1.length : Int))] w1 fun a ha => ?_
 obtain ⟨hp2, h⟩ := ite_some h
 refine op_make (T := (tInt .i64)) (z := vI 0) (zx := (0 : Int)) (bytes := 8) ha cx (by kernel_rfl) rfl rfl rfl Try.underlying25 (by kernel_rfl) (by kernel_rfl) (fun _ _ => rfl) hp2 ?_
 intro w2 S1 A2 c2 cx hb2 kp1 hs1 hn1 f2 a ha
 replace f1 := f1.keep kp1
 refine sg ha 1 [(3, vS A1 x1 c1), (4, vS A2 (List.replicate (Int.toNat (x1.length : Int)) (0 : Int)) c2)] w2 fun a ha => ?_
 refine hK _ _ ?_
 clear hK
 refine sq fun K hK => ?_
 refine sq fun K hK => ?_
 refine reg ?_
 refine sg ha 4 [(3, vS A1 x1 c1), (4, vS A2 (List.replicate (Int.toNat (x1.length : Int)) (0 : Int)) c2), (5, vI (W ((x1.length : Int) - 1)))] w2 fun a ha => ?_
 refine hK _ _ ?_
 clear hK
 refine wp_block ?_
 obtain ⟨t1, ht1, h⟩ := obind h
 refine wp_mono (wp_iter (step := (m_ref10_Deep_l1 fuel x1)) (I := fun (s : List Int × Int) a w3 => match s with | (x2, x3) => ∃ (S2 : Off), ∃ (A3 : Option Addr) (c3 : Nat), Cx w nob S w3 S2 ∧ Sl (tInt .i64) w3.heap S2 A1 c1 x1 ∧ Ow (tInt .i64) 3 (Wr nob w) w3.heap S2 (vS A3 x2 c3) x2 ∧ Ag 38 [(3, vS A1 x1 c1), (4, vS A3 x2 c3), (5, vI x3)] a) (D := fun (t : List Int) e a w4 => match t with | y1 => e = .exit 0 ∧ ∃ (S3 : Off), ∃ (A4 : Option Addr) (c4 : Nat), Cx w nob S w4 S3 ∧ Ow (tInt .i64) 3 (Wr nob w) w4.heap S3 (vS A4 y1 c4) y1 ∧ Ag 38 [(4, vS A4 y1 c4)] a) ?_ fuel _ t1 a _ ht1 ?_) ?_
 · clear h ht1
   rintro ⟨x2, x3⟩ ct a w3 ⟨S2, A3, c3, cx, f1, f3, ha⟩ h
   refine with_nop (NoP.loop (fun t c a w h => by cases t <;> exact absurd h.1 (by simp))) (fun hq => ?_)
   unfold m_ref10_Deep_l1 at h
   refine sq fun K hK => ?_
   refine sq fun K hK => ?_
   refine reg ?_
   refine sg ha 2 [(3, vS A1 x1 c1), (4, vS A3 x2 c3), (5, vI x3), (15, vB (decide (x3 ≥ 0)))] w3 fun a ha => ?_
   refine hK _ _ ?_
   clear hK
   refine cond_b ha rfl (fun hb => ?_) (fun hb => ?_)
   · replace h := itT hb h
     refine wp_skip ?_
     refine hK _ _ ?_
     clear hK
     refine sq fun K hK => ?_
     obtain ⟨q1, hj1, h⟩ := obind h
     refine wp_cutV (D := fun a w5 => ∃ x4 : List Int, ∃ (S4 : Off), ∃ (A5 : Option Addr) (c5 : Nat), x4 = q1 ∧ Cx w nob S w5 S4 ∧ Sl (tInt .i64) w5.heap S4 A1 c1 x1 ∧ Ow (tInt .i64) 3 (Wr nob w) w5.heap S4 (vS A5 x4 c5) x4 ∧ Ag 38 [(3, vS A1 x1 c1), (4, vS A5 x4 c5), (5, vI x3)] a) ?_ ?_
     · clear h; have h := hj1
       refine wp_block ?_
       refine sq fun K hK => ?_
       refine reg ?_
       refine sg ha 2 [(3, vS A1 x1 c1), (4, vS A3 x2 c3), (5, vI x3), (18, vS A3 x2 c3), (19, vI x3)] w3 fun a ha => ?_
       obtain ⟨hi1, h⟩ := ite_some h
       obtain ⟨b1, o1, cs1, rfl, hr1, hc1⟩ := f3.rdb.get hi1
       obtain rfl := hr1
       refine ov (vE b1 o1 x3 1) ha (obx w3 rfl rfl rfl Try.underlying25 rfl hi1) fun a ha => ?_
       refine op_setEl (T := (tInt .i64)) (f := 0) (x' := 1) ha cx (by kernel_rfl) rfl rfl rfl wr_id f3 hi1 (by kernel_rfl) (add1_eq _ _ _) (by kernel_rfl) (by rintro H2 _ _ rfl; rfl) ?_
       intro w6 cx on1 kp2 f6 a ha
       replace f1 := f1.keep kp2
       have hl1 : ((x2.set (Int.toNat x3) 1)).length = x2.length := List.length_set
       replace ha : Ag 38 [(3, .slice A1 x1.length c1), (4, .slice (some ⟨b1, o1, none⟩) (x2.set (Int.toNat x3) 1).length c3), (5, .int .i64 x3)] a := by rw [hl1]; exact ha.to (by kernel_rfl)
       replace f6 : Ow (tInt .i64) 3 (Wr nob w) w6.heap S2 (.slice (some ⟨b1, o1, none⟩) (x2.set (Int.toNat x3) 1).length c3) (x2.set (Int.toNat x3) 1) := by rw [hl1]; exact f6
       refine hK _ _ ?_
       clear hK
       refine sq fun K hK => ?_
       refine reg ?_
       refine sg ha 2 [(3, vS A1 x1 c1), (4, vS (some ⟨b1, o1, none⟩) (x2.set (Int.toNat x3) 1) c3), (5, vI x3), (21, vS A1 x1 c1), (22, vI x3)] w6 fun a ha => ?_
       obtain ⟨hi2, h⟩ := ite_some h
       obtain ⟨b2, o2, cs2, rfl, hr2, hc2⟩ := f1.rdb.get hi2
       obtain rfl := hr2
       refine ov (vE b2 o2 x3 1) ha (obx w6 rfl rfl rfl Try.underlying25 rfl hi2) fun a ha => ?_
       refine ov (vI (gt x1 x3)) ha (ob_load w6 rfl rfl Try.underlying3 rfl ((cell_add1 _ _ _ _).trans (hc2 0 _ rfl))) fun a ha => ?_
       refine sg ha 1 [(3, vS (some ⟨b2, o2, none⟩) x1 c1), (4, vS (some ⟨b1, o1, none⟩) (x2.set (Int.toNat x3) 1) c3), (5, vI x3), (25, vB (decide ((gt x1 x3) ≥ 0)))] w6 fun a ha => ?_
       refine hK _ _ ?_
       clear hK
       refine cond_b ha rfl (fun hb => ?_) (fun hb => ?_)
       · replace h := itT hb h
         refine reg ?_
         refine sg ha 5 [(3, vS (some ⟨b2, o2, none⟩) x1 c1), (4, vS (some ⟨b1, o1, none⟩) (x2.set (Int.toNat x3) 1) c3), (5, vI x3), (26, vS (some ⟨b1, o1, none⟩) (x2.set (Int.toNat x3) 1) c3), (27, vI x3), (28, vS (some ⟨b1, o1, none⟩) (x2.set (Int.toNat x3) 1) c3), (29, vS (some ⟨b2, o2, none⟩) x1 c1), (30, vI x3)] w6 fun a ha => ?_
         obtain ⟨hi3, h⟩ := ite_some h
         obtain ⟨cs3, hr3, hc3⟩ := f1.rdb.at hi3
         obtain rfl := hr3
         refine ov (vE b2 o2 x3 1) ha (obx w6 rfl rfl rfl Try.underlying25 rfl hi3) fun a ha => ?_
         refine ov (vI (gt x1 x3)) ha (ob_load w6 rfl rfl Try.underlying3 rfl ((cell_add1 _ _ _ _).trans (hc3 0 _ rfl))) fun a ha => ?_
         obtain ⟨hi4, h⟩ := ite_some h
         obtain ⟨cs4, hr4, hc4⟩ := f6.rdb.at hi4
         obtain rfl := hr4
         refine ov (vE b1 o1 (gt x1 x3) 1) ha (obx w6 rfl rfl rfl Try.underlying25 rfl hi4) fun a ha => ?_
         refine ov (vI (gt (x2.set (Int.toNat x3) 1) (gt x1 x3))) ha (ob_load w6 rfl rfl Try.underlying3 rfl ((cell_add1 _ _ _ _).trans (hc4 0 _ rfl))) fun a ha => ?_
         refine sg ha 1 [(3, vS (some ⟨b2, o2, none⟩) x1 c1), (4, vS (some ⟨b1, o1, none⟩) (x2.set (Int.toNat x3) 1) c3), (5, vI x3), (26, vS (some ⟨b1, o1, none⟩) (x2.set (Int.toNat x3) 1) c3), (27, vI x3), (35, vI (W ((gt (x2.set (Int.toNat x3) 1) (gt x1 x3)) + 1)))] w6 fun a ha => ?_
         obtain ⟨hi5, h⟩ := ite_some h
         obtain ⟨cs5, hr5, hc5⟩ := f6.rdb.at hi5
         obtain rfl := hr5
         refine ov (vE b1 o1 x3 1) ha (obx w6 rfl rfl rfl Try.underlying25 rfl hi5) fun a ha => ?_
         refine op_setEl (T := (tInt .i64)) (f := 0) (x' := (W ((gt (x2.set (Int.toNat x3) 1) (gt x1 x3)) + 1))) ha cx (by kernel_rfl) rfl rfl rfl wr_id f6 hi5 (by kernel_rfl) (add1_eq _ _ _) (by kernel_rfl) (by rintro H2 _ _ rfl; rfl) ?_
         intro w7 cx on2 kp3 f7 a ha
         replace f1 := f1.keep kp3
         have hl2 : (((x2.set (Int.toNat x3) 1).set (Int.toNat x3) (W ((gt (x2.set (Int.toNat x3) 1) (gt x1 x3)) + 1)))).length = (x2.set (Int.toNat x3) 1).length := List.length_set
         replace ha : Ag 38 [(3, .slice (some ⟨b2, o2, none⟩) x1.length c1), (4, .slice (some ⟨b1, o1, none⟩) ((x2.set (Int.toNat x3) 1).set (Int.toNat x3) (W ((gt (x2.set (Int.toNat x3) 1) (gt x1 x3)) + 1))).length c3), (5, .int .i64 x3)] a := by rw [hl2]; exact ha.to (by kernel_rfl)
         replace f7 : Ow (tInt .i64) 3 (Wr nob w) w7.heap S2 (.slice (some ⟨b1, o1, none⟩) ((x2.set (Int.toNat x3) 1).set (Int.toNat x3) (W ((gt (x2.set (Int.toNat x3) 1) (gt x1 x3)) + 1))).length c3) ((x2.set (Int.toNat x3) 1).set (Int.toNat x3) (W ((gt (x2.set (Int.toNat x3) 1) (gt x1 x3)) + 1))) := by rw [hl2]; exact f7
         obtain rfl := Option.some.inj h
         exact ⟨_, _, (some ⟨b1, o1, none⟩), c3, rfl, cx, f1, f7, ha.to (by kernel_rfl)⟩
       · replace h := itF hb h
         refine wp_skip ?_
         obtain rfl := Option.some.inj h
         exact ⟨_, _, (some ⟨b1, o1, none⟩), c3, rfl, cx, f1, f6, ha.to (by kernel_rfl)⟩
     rintro a w5 ⟨x4, S4, A5, c5, rfl, cx, f1, f5, ha⟩
     refine hK _ _ ?_
     clear hK
     refine reg ?_
     refine sg ha 3 [(3, vS A1 x1 c1), (4, vS A5 x4 c5), (5, vI (W (x3 - 1)))] w5 fun a ha => ?_
     obtain rfl := Option.some.inj h
     exact ⟨_, rfl, S4, A5, c5, cx, f1, f5, ha.to (by kernel_rfl)⟩
   · replace h := itF hb h
     refine wp_exit ?_
     obtain rfl := Option.some.inj h
     exact ⟨_, rfl, rfl, S2, A3, c3, cx, f3, ha.to (by kernel_rfl)⟩
 · exact ⟨S1, A2, c2, cx, f1, f2, ha.to (by kernel_rfl)⟩
 intro e a w4 hd
 generalize t1 = y1 at *
 obtain ⟨rfl, S3, A4, c4, cx, f4, ha⟩ := hd
 refine hK _ _ ?_
 clear hK
 refine sq fun K hK => ?_
 refine reg ?_
 refine sg ha 2 [(2, vS A4 y1 c4)] w4 fun a ha => ?_
 refine hK _ _ ?_
 clear hK
 refine wp_ret ?_
 obtain rfl := Option.some.inj h
 show bodyPost Try.prog Try.f83 (R83 w S _) .ret a w4
 exact ret_1 (r1 := .tmp 2) (v1 := vS A4 y1 c4) ha rfl (.inl rfl) rfl ⟨_, rfl, cx.below, ⟨_, _, rfl, f4.result cx.sub⟩⟩
def post84 (w : World) (S : Off) (r : (Bool)) (v : Value) (w1 : World) : Prop := v = .bool r
abbrev R84 (w : World) (S : Off) (r : (Bool)) : Ending → World → Prop := fun e w1 => ∃ v, e = .returned v ∧ Below w.heap.size w w1 ∧ post84 w S r v w1
theorem ok84 (fuel : Nat) {w : World} {S : Off} (hS : ∀ b, S b → b < w.heap.size) {p0 : (List MHop)} {p1 : Int} {A_p0 : Option Addr} {c_p0 : Nat} (h_p0 : Sl tHop w.heap S A_p0 c_p0 p0) {r : (Bool)} (h : m_ref17_known fuel p0 p1 = some r) :
 Calls Try.prog 84 #[vS A_p0 p0 c_p0, vI p1] w (R84 w S r) := by
 refine enterL (vs := [vS A_p0 p0 c_p0, vI p1]) Try.func84 rfl rfl ?_
 intro a ha
 have cx := Cx.start (W0 := nob) hS
 refine with_nop (noP_body _ _) (fun hq => ?_)
 unfold m_ref17_known at h
 refine sq fun K hK => ?_
 refine reg ?_
 refine sg ha 1 [(0, vS A_p0 p0 c_p0), (1, vI p1)] w fun a ha => ?_
 refine hK _ _ ?_
 clear hK
 refine sq fun K hK => ?_
 refine sq fun K hK => ?_
 refine reg ?_
 refine sg ha 1 [(0, vS A_p0 p0 c_p0), (1, vI p1), (5, vI 0)] w fun a ha => ?_
 refine hK _ _ ?_
 clear hK
 refine wp_block ?_
 obtain ⟨t1, ht1, h⟩ := obind h
 refine wp_mono (wp_iter (step := (m_ref17_known_l1 fuel p0 p1)) (I := fun (s : Int) a w_ => match s with | x1 => w = w_ ∧ Ag 19 [(0, vS A_p0 p0 c_p0), (1, vI p1), (5, vI x1)] a) (D := fun (t : (Unit) ⊕ (Bool)) e a w_ => match t with | .inl () => e = .exit 0 ∧ w = w_ ∧ Ag 19 [] a | .inr r => e = .ret ∧ bodyPost Try.prog Try.f84 (R84 w S r) .ret a w_) ?_ fuel _ t1 a _ ht1 ?_) ?_
 · clear h ht1
   rintro x1 ct a _ ⟨rfl, ha⟩ h
   refine with_nop (NoP.loop (fun t c a w h => by cases t <;> exact absurd h.1 (by simp))) (fun hq => ?_)
   unfold m_ref17_known_l1 at h
   refine sq fun K hK => ?_
   refine sq fun K hK => ?_
   refine reg ?_
   refine sg ha 4 [(0, vS A_p0 p0 c_p0), (1, vI p1), (5, vI x1), (9, vB (decide (x1 < (p0.length : Int))))] w fun a ha => ?_
   refine hK _ _ ?_
   clear hK
   refine cond_b ha rfl (fun hb => ?_) (fun hb => ?_)
   · replace h := itT hb h
     refine wp_skip ?_
     refine hK _ _ ?_
     clear hK
     refine sq fun K hK => ?_
     refine wp_block ?_
     refine sq fun K hK => ?_
     refine reg ?_
     refine sg ha 2 [(0, vS A_p0 p0 c_p0), (1, vI p1), (5, vI x1), (12, vS A_p0 p0 c_p0), (13, vI x1)] w fun a ha => ?_
     obtain ⟨hi1, h⟩ := ite_some h
     obtain ⟨b1, o1, cs1, rfl, hr1, hc1⟩ := h_p0.rdb.get hi1
     obtain ⟨A1, c1, rfl, f1⟩ := hr1
     refine ov (vE b1 o1 x1 3) ha (obx w rfl rfl rfl Try.underlying31 rfl hi1) fun a ha => ?_
     refine sg ha 1 [(0, vS (some ⟨b1, o1, none⟩) p0 c_p0), (1, vI p1), (5, vI x1), (15, .pointer (some (((⟨b1, o1, none⟩ : Addr).add (x1.toNat * 3)).add 0)))] w fun a ha => ?_
     refine ov (vI ((gt p0 x1).To)) ha (ob_load w rfl rfl Try.underlying3 rfl ((cell_add2 _ _ _ _ _).trans (hc1 0 _ rfl))) fun a ha => ?_
     refine sg ha 2 [(0, vS (some ⟨b1, o1, none⟩) p0 c_p0), (1, vI p1), (5, vI x1), (18, vB (((gt p0 x1).To) == p1))] w fun a ha => ?_
     refine hK _ _ ?_
     clear hK
     refine cond_b ha rfl (fun hb => ?_) (fun hb => ?_)
     · replace h := itT hb h
       refine sq fun K hK => ?_
       refine reg ?_
       refine sg ha 1 [(4, vB true)] w fun a ha => ?_
       refine hK _ _ ?_
       clear hK
       refine wp_ret ?_
       obtain rfl := Option.some.inj h
       refine ⟨_, rfl, rfl, ?_⟩
       show bodyPost Try.prog Try.f84 (R84 w S _) .ret a w
       exact ret_1 (r1 := .tmp 4) (v1 := vB true) ha rfl (.inl rfl) rfl ⟨_, rfl, cx.below, rfl⟩
     · replace h := itF hb h
       refine wp_skip ?_
       refine hK _ _ ?_
       clear hK
       refine reg ?_
       refine sg ha 3 [(0, vS (some ⟨b1, o1, none⟩) p0 c_p0), (1, vI p1), (5, vI (W (x1 + 1)))] w fun a ha => ?_
       obtain rfl := Option.some.inj h
       exact ⟨_, rfl, rfl, ha.to (by kernel_rfl)⟩
   · replace h := itF hb h
     refine wp_exit ?_
     obtain rfl := Option.some.inj h
     exact ⟨_, rfl, rfl, rfl, ha.to (by kernel_rfl)⟩
 · exact ⟨rfl, ha.to (by kernel_rfl)⟩
 intro e a w_ hd
 cases t1 with
 | inr r1 =>
  obtain ⟨rfl, hd⟩ := hd
  obtain rfl := Option.some.inj h
  exact hd
 | inl oo1 =>
  obtain ⟨rfl, rfl, ha⟩ := hd
  refine hK _ _ ?_
  clear hK
  refine sq fun K hK => ?_
  refine reg ?_
  refine sg ha 1 [(4, vB false)] w fun a ha => ?_
  refine hK _ _ ?_
  clear hK
  refine wp_ret ?_
  obtain rfl := Option.some.inj h
  show bodyPost Try.prog Try.f84 (R84 w S _) .ret a w
  exact ret_1 (r1 := .tmp 4) (v1 := vB false) ha rfl (.inl rfl) rfl ⟨_, rfl, cx.below, rfl⟩
def post50 (w : World) (S : Off) (r : ((List MHop) × MHop × Bool)) (v : Value) (w1 : World) : Prop := ∃ v0 : Value, ∃ v1 : Value, ∃ v2 : Value, v = .tuple #[v0, v1, v2] ∧ (∃ (A : Option Addr) (c : Nat), v0 = .slice A r.1.length c ∧ Ow tHop 27 (Wr nob w) w1.heap (inV v0 S) v0 r.1) ∧ (∃ (A2 : Option Addr) (c2 : Nat), v1 = .agg #[.int .i64 r.2.1.To, .int .i64 r.2.1.Turn, .slice A2 r.2.1.Steps.length c2] ∧ Sl (tInt .i64) w1.heap S A2 c2 r.2.1.Steps) ∧ (v2 = .bool r.2.2)
abbrev R50 (w : World) (S : Off) (r : ((List MHop) × MHop × Bool)) : Ending → World → Prop := fun e w1 => ∃ v, e = .returned v ∧ Below w.heap.size w w1 ∧ post50 w S r v w1
theorem ok50 (fuel : Nat) {w : World} {S : Off} (hS : ∀ b, S b → b < w.heap.size) {p0 : (List MTerm)} {p1 : Int} {A_p0 : Option Addr} {c_p0 : Nat} (h_p0 : Sl tTerm w.heap S A_p0 c_p0 p0) {r : ((List MHop) × MHop × Bool)} (h : m_ref17_climb fuel p0 p1 = some r) :
 Calls Try.prog 50 #[vS A_p0 p0 c_p0, vI p1] w (R50 w S r) := by
 refine enterL (vs := [vS A_p0 p0 c_p0, vI p1]) Try.func50 rfl rfl ?_
 intro a ha
 have cx := Cx.start (W0 := nob) hS
 refine with_nop (noP_body _ _) (fun hq => ?_)
 unfold m_ref17_climb at h
 refine sq fun K hK => ?_
 refine reg ?_
 refine sg ha 1 [(0, vS A_p0 p0 c_p0), (1, vI p1)] w fun a ha => ?_
 refine op_new (V := fun b => vP b) (cs := [vI 0, vI 0, .slice none 0 0]) (T := 27) ha (by kernel_rfl) (by kernel_rfl) ?_
 intro w1 b1 hb1 hk1 he1 _ a ha
 obtain ⟨S1, cx, kp1, hs1, f1⟩ := box_own cx hb1 hk1 he1
 replace h_p0 := h_p0.keep kp1
 refine sg ha 1 [(0, vS A_p0 p0 c_p0), (1, vI p1), (5, vP b1)] w1 fun a ha => ?_
 refine hK _ _ ?_
 clear hK
 refine sq fun K hK => ?_
 refine reg ?_
 refine sg ha 1 [(0, vS A_p0 p0 c_p0), (1, vI p1), (5, vP b1), (18, vS A_p0 p0 c_p0)] w1 fun a ha => ?_
 obtain ⟨x1, hx1, h⟩ := obind h
 refine op_call ha (by kernel_rfl) (f := 27) (args := #[vS A_p0 p0 c_p0]) (w' := w1) (by kernel_rfl) (ok27 fuel (p0 := p0) cx.lt h_p0 hx1) ?_
 rintro v1 w2 ⟨hb2, hp1⟩ a ha
 obtain ⟨A1, c1, rfl, f2⟩ := hp1
 replace f2 := own_out cx f2
 replace h_p0 := h_p0.keep (Keep.ext S1 hb2)
 replace f1 := f1.ext hb2
 replace cx := cx.ext hb2
 refine sg ha 1 [(0, vS A_p0 p0 c_p0), (1, vI p1), (5, vP b1), (19, vS A1 x1 c1), (20, vS A_p0 p0 c_p0)] w2 fun a ha => ?_
 obtain ⟨x2, hx2, h⟩ := obind h
 refine op_call ha (by kernel_rfl) (f := 83) (args := #[vS A_p0 p0 c_p0]) (w' := w2) (by kernel_rfl) (ok83 fuel (p0 := p0) cx.lt h_p0 hx2) ?_
 rintro v2 w3 ⟨hb3, hp2⟩ a ha
 obtain ⟨A2, c2, rfl, f3⟩ := hp2
 replace f3 := own_out cx f3
 replace h_p0 := h_p0.keep (Keep.ext S1 hb3)
 replace f1 := f1.ext hb3
 replace f2 := f2.keep (Keep.ext S1 hb3)
 replace cx := cx.ext hb3
 refine sg ha 1 [(0, vS A_p0 p0 c_p0), (1, vI p1), (5, vP b1), (19, vS A1 x1 c1), (21, vS A2 x2 c2), (22, vS A_p0 p0 c_p0)] w3 fun a ha => ?_
 obtain ⟨x3, hx3, h⟩ := obind h
 refine op_call ha (by kernel_rfl) (f := 25) (args := #[vS A_p0 p0 c_p0]) (w' := w3) (by kernel_rfl) (ok25 fuel (p0 := p0) cx.lt h_p0 hx3) ?_
 rintro v3 w4 ⟨hb4, hp3⟩ a ha
 obtain ⟨A3, c3, rfl, f4⟩ := hp3
 replace f4 := own_out cx f4
 replace h_p0 := h_p0.keep (Keep.ext S1 hb4)
 replace f1 := f1.ext hb4
 replace f2 := f2.keep (Keep.ext S1 hb4)
 replace f3 := f3.keep (Keep.ext S1 hb4)
 replace cx := cx.ext hb4
 refine sg ha 1 [(0, vS A_p0 p0 c_p0), (1, vI p1), (5, vP b1), (19, vS A1 x1 c1), (21, vS A2 x2 c2), (23, vS A3 x3 c3), (24, vS A_p0 p0 c_p0)] w4 fun a ha => ?_
 obtain ⟨x4, hx4, h⟩ := obind h
 refine op_call ha (by kernel_rfl) (f := 55) (args := #[vS A_p0 p0 c_p0]) (w' := w4) (by kernel_rfl) (ok55 fuel (p0 := p0) cx.lt h_p0 hx4) ?_
 rintro v4 w5 ⟨hb5, hp4⟩ a ha
 obtain ⟨A4, c4, rfl, f5⟩ := hp4
 replace f5 := own_out cx f5
 replace h_p0 := h_p0.keep (Keep.ext S1 hb5)
 replace f1 := f1.ext hb5
 replace f2 := f2.keep (Keep.ext S1 hb5)
 replace f3 := f3.keep (Keep.ext S1 hb5)
 replace f4 := f4.keep (Keep.ext S1 hb5)
 replace cx := cx.ext hb5
 refine sg ha 4 [(0, vS A_p0 p0 c_p0), (1, vI p1), (5, vP b1), (7, vS A1 x1 c1), (8, vS A2 x2 c2), (9, vS A3 x3 c3), (10, vS A4 x4 c4)] w5 fun a ha => ?_
 refine hK _ _ ?_
 clear hK
 refine sq fun K hK => ?_
 refine reg ?_
 refine sg ha 1 [(0, vS A_p0 p0 c_p0), (1, vI p1), (5, vP b1), (7, vS A1 x1 c1), (8, vS A2 x2 c2), (9, vS A3 x3 c3), (10, vS A4 x4 c4), (26, vS A_p0 p0 c_p0)] w5 fun a ha => ?_
 obtain ⟨x5, hx5, h⟩ := obind h
 refine op_call ha (by kernel_rfl) (f := 22) (args := #[vS A_p0 p0 c_p0]) (w' := w5) (by kernel_rfl) (ok22 fuel (p0 := p0) cx.lt h_p0 hx5) ?_
 rintro v5 w6 ⟨hb6, hp5⟩ a ha
 obtain ⟨A5, c5, rfl, f6⟩ := hp5
 replace f6 := own_out cx f6
 replace h_p0 := h_p0.keep (Keep.ext S1 hb6)
 replace f1 := f1.ext hb6
 replace f2 := f2.keep (Keep.ext S1 hb6)
 replace f3 := f3.keep (Keep.ext S1 hb6)
 replace f4 := f4.keep (Keep.ext S1 hb6)
 replace f5 := f5.keep (Keep.ext S1 hb6)
 replace cx := cx.ext hb6
 refine sg ha 1 [(0, vS A_p0 p0 c_p0), (5, vP b1), (7, vS A1 x1 c1), (8, vS A2 x2 c2), (9, vS A3 x3 c3), (10, vS A4 x4 c4), (27, vS A5 x5 c5), (28, vI p1)] w6 fun a ha => ?_
 obtain ⟨hi1, h⟩ := ite_some h
 obtain ⟨b2, o1, cs1, rfl, hr1, hc1⟩ := f6.rdb.get hi1
 obtain rfl := hr1
 refine ov (vE b2 o1 p1 1) ha (obx w6 rfl rfl rfl Try.underlying25 rfl hi1) fun a ha => ?_
 refine ov (vI (gt x5 p1)) ha (ob_load w6 rfl rfl Try.underlying3 rfl ((cell_add1 _ _ _ _).trans (hc1 0 _ rfl))) fun a ha => ?_
 refine sg ha 1 [(0, vS A_p0 p0 c_p0), (5, vP b1), (7, vS A1 x1 c1), (8, vS A2 x2 c2), (9, vS A3 x3 c3), (10, vS A4 x4 c4), (11, vI (gt x5 p1))] w6 fun a ha => ?_
 refine hK _ _ ?_
 clear hK
 refine sq fun K hK => ?_
 refine reg ?_
 refine sg ha 3 [(0, vS A_p0 p0 c_p0), (5, vP b1), (7, vS A1 x1 c1), (8, vS A2 x2 c2), (9, vS A3 x3 c3), (10, vS A4 x4 c4), (11, vI (gt x5 p1)), (33, vI (W ((W (2 * (gt x5 p1))) + 1)))] w6 fun a ha => ?_
 refine op_new (V := fun b => .slice (some ⟨b, 0, none⟩) 1 1) (cs := [vI (W ((W (2 * (gt x5 p1))) + 1))]) (T := 3) ha (by kernel_rfl) (by kernel_rfl) ?_
 intro w7 b3 hb7 hk2 he2 _ a ha
 have f7 := lit_ow (T := (tInt .i64)) (xs := [(W ((W (2 * (gt x5 p1))) + 1))]) (m := 1) cx hb7 hk2 he2 rfl (by kernel_rfl) (Els.one (T := (tInt .i64)) (x := (W ((W (2 * (gt x5 p1))) + 1))) rfl)
 replace f7 := own_out cx f7
 replace h_p0 := h_p0.keep (Keep.ext S1 hb7)
 replace f1 := f1.ext hb7
 replace f2 := f2.keep (Keep.ext S1 hb7)
 replace f3 := f3.keep (Keep.ext S1 hb7)
 replace f4 := f4.keep (Keep.ext S1 hb7)
 replace f5 := f5.keep (Keep.ext S1 hb7)
 replace cx := cx.ext hb7
 refine sg ha 1 [(0, vS A_p0 p0 c_p0), (5, vP b1), (7, vS A1 x1 c1), (8, vS A2 x2 c2), (9, vS A3 x3 c3), (10, vS A4 x4 c4), (11, vI (gt x5 p1)), (12, .slice (some ⟨b3, 0, none⟩) 1 1)] w7 fun a ha => ?_
 refine hK _ _ ?_
 clear hK
 refine sq fun K hK => ?_
 refine reg ?_
 refine sg ha 1 [(0, vS A_p0 p0 c_p0), (5, vP b1), (7, vS A1 x1 c1), (8, vS A2 x2 c2), (9, vS A3 x3 c3), (10, vS A4 x4 c4), (11, vI (gt x5 p1)), (12, .slice (some ⟨b3, 0, none⟩) 1 1), (13, .slice none 0 0)] w7 fun a ha => ?_
 refine hK _ _ ?_
 clear hK
 refine sq fun K hK => ?_
 refine wp_block ?_
 obtain ⟨t1, ht1, h⟩ := obind h
 refine wp_mono (wp_iter (step := (m_ref17_climb_l1 fuel p0 x1 x2 x3 x4 x5 p1)) (I := fun (s : MHop × Int × List Int × List MHop) a w8 => match s with | (x6, x7, x8, x9) => ∃ (S2 : Off), ∃ (A6 : Option Addr) (c6 : Nat), ∃ (A7 : Option Addr) (c7 : Nat), ∃ (A8 : Option Addr) (c8 : Nat), Cx w nob S w8 S2 ∧ Sl tTerm w8.heap S2 A_p0 c_p0 p0 ∧ Mb (Wr nob w) w8.heap S2 b1 27 [vI x6.To, vI x6.Turn, vS A6 x6.Steps c6] ∧ Sl (tInt .i64) w8.heap S2 A6 c6 x6.Steps ∧ Sl (tInt .i64) w8.heap S2 A1 c1 x1 ∧ Sl (tInt .i64) w8.heap S2 A2 c2 x2 ∧ Sl (tInt .i64) w8.heap S2 A3 c3 x3 ∧ Sl tBool w8.heap S2 A4 c4 x4 ∧ Sl (tInt .i64) w8.heap S2 A7 c7 x8 ∧ Ow tHop 27 (Wr nob w) w8.heap S2 (vS A8 x9 c8) x9 ∧ Dis (bv b1) (vS A8 x9 c8) ∧ Ag 150 [(0, vS A_p0 p0 c_p0), (5, vP b1), (7, vS A1 x1 c1), (8, vS A2 x2 c2), (9, vS A3 x3 c3), (10, vS A4 x4 c4), (11, vI x7), (12, vS A7 x8 c7), (13, vS A8 x9 c8)] a) (D := fun (t : (MHop × List Int × List MHop) ⊕ ((List MHop) × MHop × Bool)) e a w9 => match t with | .inl (y1, y2, y3) => e = .exit 0 ∧ ∃ (S3 : Off), ∃ (A9 : Option Addr) (c9 : Nat), ∃ (A10 : Option Addr) (c10 : Nat), ∃ (A11 : Option Addr) (c11 : Nat), Cx w nob S w9 S3 ∧ Mb (Wr nob w) w9.heap S3 b1 27 [vI y1.To, vI y1.Turn, vS A9 y1.Steps c9] ∧ Sl (tInt .i64) w9.heap S3 A9 c9 y1.Steps ∧ Sl (tInt .i64) w9.heap S3 A10 c10 y2 ∧ Ow tHop 27 (Wr nob w) w9.heap S3 (vS A11 y3 c11) y3 ∧ Dis (bv b1) (vS A11 y3 c11) ∧ Ag 150 [(5, vP b1), (12, vS A10 y2 c10), (13, vS A11 y3 c11)] a | .inr r => e = .ret ∧ bodyPost Try.prog Try.f50 (R50 w S r) .ret a w9) ?_ fuel _ t1 a _ ht1 ?_) ?_
 · clear h ht1
   rintro ⟨x6, x7, x8, x9⟩ ct a w8 ⟨S2, A6, c6, A7, c7, A8, c8, cx, h_p0, f9, f8, f2, f3, f4, f5, f10, f11, d1, ha⟩ h
   refine with_nop (NoP.loop (fun t c a w h => by cases t <;> exact absurd h.1 (by simp))) (fun hq => ?_)
   unfold m_ref17_climb_l1 at h
   refine sq fun K hK => ?_
   refine sq fun K hK => ?_
   refine reg ?_
   refine sg ha 2 [(0, vS A_p0 p0 c_p0), (5, vP b1), (7, vS A1 x1 c1), (8, vS A2 x2 c2), (9, vS A3 x3 c3), (10, vS A4 x4 c4), (11, vI x7), (12, vS A7 x8 c7), (13, vS A8 x9 c8), (35, vS A1 x1 c1), (36, vI x7)] w8 fun a ha => ?_
   obtain ⟨hi2, h⟩ := ite_some h
   obtain ⟨b4, o2, cs2, rfl, hr2, hc2⟩ := f2.rdb.get hi2
   obtain rfl := hr2
   refine ov (vE b4 o2 x7 1) ha (obx w8 rfl rfl rfl Try.underlying25 rfl hi2) fun a ha => ?_
   refine ov (vI (gt x1 x7)) ha (ob_load w8 rfl rfl Try.underlying3 rfl ((cell_add1 _ _ _ _).trans (hc2 0 _ rfl))) fun a ha => ?_
   refine sg ha 1 [(0, vS A_p0 p0 c_p0), (5, vP b1), (7, vS (some ⟨b4, o2, none⟩) x1 c1), (8, vS A2 x2 c2), (9, vS A3 x3 c3), (10, vS A4 x4 c4), (11, vI x7), (12, vS A7 x8 c7), (13, vS A8 x9 c8), (39, vB (decide ((gt x1 x7) ≥ 0)))] w8 fun a ha => ?_
   refine hK _ _ ?_
   clear hK
   refine cond_b ha rfl (fun hb => ?_) (fun hb => ?_)
   · replace h := itT hb h
     refine wp_skip ?_
     refine hK _ _ ?_
     clear hK
     refine wp_block ?_
     refine sq fun K hK => ?_
     refine reg ?_
     refine sg ha 2 [(0, vS A_p0 p0 c_p0), (5, vP b1), (7, vS (some ⟨b4, o2, none⟩) x1 c1), (8, vS A2 x2 c2), (9, vS A3 x3 c3), (10, vS A4 x4 c4), (11, vI x7), (12, vS A7 x8 c7), (13, vS A8 x9 c8), (40, vS (some ⟨b4, o2, none⟩) x1 c1), (41, vI x7)] w8 fun a ha => ?_
     obtain ⟨hi3, h⟩ := ite_some h
     obtain ⟨cs3, hr3, hc3⟩ := f2.rdb.at hi3
     obtain rfl := hr3
     refine ov (vE b4 o2 x7 1) ha (obx w8 rfl rfl rfl Try.underlying25 rfl hi3) fun a ha => ?_
     refine ov (vI (gt x1 x7)) ha (ob_load w8 rfl rfl Try.underlying3 rfl ((cell_add1 _ _ _ _).trans (hc3 0 _ rfl))) fun a ha => ?_
     refine sg ha 1 [(0, vS A_p0 p0 c_p0), (5, vP b1), (7, vS (some ⟨b4, o2, none⟩) x1 c1), (8, vS A2 x2 c2), (9, vS A3 x3 c3), (10, vS A4 x4 c4), (11, vI x7), (12, vS A7 x8 c7), (13, vS A8 x9 c8), (14, vI (gt x1 x7))] w8 fun a ha => ?_
     refine hK _ _ ?_
     clear hK
     refine sq fun K hK => ?_
     refine reg ?_
     refine sg ha 1 [(0, vS A_p0 p0 c_p0), (5, vP b1), (7, vS (some ⟨b4, o2, none⟩) x1 c1), (8, vS A2 x2 c2), (9, vS A3 x3 c3), (10, vS A4 x4 c4), (11, vI x7), (12, vS A7 x8 c7), (13, vS A8 x9 c8), (14, vI (gt x1 x7)), (15, vI (-1))] w8 fun a ha => ?_
     refine hK _ _ ?_
     clear hK
     refine sq fun K hK => ?_
     obtain ⟨q1, hj1, h⟩ := obind h
     refine wp_cutV (D := fun a w_ => ∃ x10 : Int, x10 = q1 ∧ w8 = w_ ∧ Ag 150 [(0, vS A_p0 p0 c_p0), (5, vP b1), (7, vS (some ⟨b4, o2, none⟩) x1 c1), (8, vS A2 x2 c2), (9, vS A3 x3 c3), (10, vS A4 x4 c4), (11, vI x7), (12, vS A7 x8 c7), (13, vS A8 x9 c8), (14, vI (gt x1 x7)), (15, vI x10)] a) ?_ ?_
     · clear h; have h := hj1
       refine sq fun K hK => ?_
       obtain ⟨q2, hj2, h⟩ := obind h
       refine wp_cutV (D := fun a w_ => ∃ x11 : Bool, x11 = q2 ∧ w8 = w_ ∧ Ag 150 [(0, vS A_p0 p0 c_p0), (5, vP b1), (7, vS (some ⟨b4, o2, none⟩) x1 c1), (8, vS A2 x2 c2), (9, vS A3 x3 c3), (10, vS A4 x4 c4), (11, vI x7), (12, vS A7 x8 c7), (13, vS A8 x9 c8), (14, vI (gt x1 x7)), (15, vI (-1)), (58, vB x11)] a) ?_ ?_
       · clear h; have h := hj2
         refine reg ?_
         refine sg ha 2 [(0, vS A_p0 p0 c_p0), (5, vP b1), (7, vS (some ⟨b4, o2, none⟩) x1 c1), (8, vS A2 x2 c2), (9, vS A3 x3 c3), (10, vS A4 x4 c4), (11, vI x7), (12, vS A7 x8 c7), (13, vS A8 x9 c8), (14, vI (gt x1 x7)), (15, vI (-1)), (44, vS A_p0 p0 c_p0), (45, vI (gt x1 x7))] w8 fun a ha => ?_
         obtain ⟨hi4, h⟩ := ite_some h
         obtain ⟨b5, o3, cs4, rfl, hr4, hc4⟩ := h_p0.rdb.get hi4
         obtain ⟨rfl, hl1⟩ := hr4
         refine ov (vE b5 o3 (gt x1 x7) 8) ha (obx w8 rfl rfl rfl Try.underlying22 rfl hi4) fun a ha => ?_
         refine sg ha 1 [(0, vS (some ⟨b5, o3, none⟩) p0 c_p0), (5, vP b1), (7, vS (some ⟨b4, o2, none⟩) x1 c1), (8, vS A2 x2 c2), (9, vS A3 x3 c3), (10, vS A4 x4 c4), (11, vI x7), (12, vS A7 x8 c7), (13, vS A8 x9 c8), (14, vI (gt x1 x7)), (15, vI (-1)), (47, .pointer (some (((⟨b5, o3, none⟩ : Addr).add ((gt x1 x7).toNat * 8)).add 0)))] w8 fun a ha => ?_
         refine ov (vI ((gt p0 (gt x1 x7)).Kind)) ha (ob_load w8 rfl rfl Try.underlying3 rfl ((cell_add2 _ _ _ _ _).trans (hc4 0 _ rfl))) fun a ha => ?_
         refine sg ha 2 [(0, vS (some ⟨b5, o3, none⟩) p0 c_p0), (5, vP b1), (7, vS (some ⟨b4, o2, none⟩) x1 c1), (8, vS A2 x2 c2), (9, vS A3 x3 c3), (10, vS A4 x4 c4), (11, vI x7), (12, vS A7 x8 c7), (13, vS A8 x9 c8), (14, vI (gt x1 x7)), (15, vI (-1)), (50, vB (((gt p0 (gt x1 x7)).Kind) == 3))] w8 fun a ha => ?_
         refine split_b (t := 50) ha rfl (fun hb ha => ?_) (fun hb ha => ?_)
         · replace h := itT hb h
           refine sg ha 2 [(0, vS (some ⟨b5, o3, none⟩) p0 c_p0), (5, vP b1), (7, vS (some ⟨b4, o2, none⟩) x1 c1), (8, vS A2 x2 c2), (9, vS A3 x3 c3), (10, vS A4 x4 c4), (11, vI x7), (12, vS A7 x8 c7), (13, vS A8 x9 c8), (14, vI (gt x1 x7)), (15, vI (-1)), (50, vB true), (51, vS (some ⟨b5, o3, none⟩) p0 c_p0), (52, vI (gt x1 x7))] w8 fun a ha => ?_
           obtain ⟨hi5, h⟩ := ite_some h
           obtain ⟨cs5, hr5, hc5⟩ := h_p0.rdb.at hi5
           obtain ⟨rfl, hl2⟩ := hr5
           refine ov (vE b5 o3 (gt x1 x7) 8) ha (obx w8 rfl rfl rfl Try.underlying22 rfl hi5) fun a ha => ?_
           refine sg ha 1 [(0, vS (some ⟨b5, o3, none⟩) p0 c_p0), (5, vP b1), (7, vS (some ⟨b4, o2, none⟩) x1 c1), (8, vS A2 x2 c2), (9, vS A3 x3 c3), (10, vS A4 x4 c4), (11, vI x7), (12, vS A7 x8 c7), (13, vS A8 x9 c8), (14, vI (gt x1 x7)), (15, vI (-1)), (50, vB true), (54, .pointer (some (((⟨b5, o3, none⟩ : Addr).add ((gt x1 x7).toNat * 8)).add 1)))] w8 fun a ha => ?_
           refine ov (vI ((gt p0 (gt x1 x7)).A)) ha (ob_load w8 rfl rfl Try.underlying3 rfl ((cell_add2 _ _ _ _ _).trans (hc5 1 _ rfl))) fun a ha => ?_
           refine sg ha 3 [(0, vS (some ⟨b5, o3, none⟩) p0 c_p0), (5, vP b1), (7, vS (some ⟨b4, o2, none⟩) x1 c1), (8, vS A2 x2 c2), (9, vS A3 x3 c3), (10, vS A4 x4 c4), (11, vI x7), (12, vS A7 x8 c7), (13, vS A8 x9 c8), (14, vI (gt x1 x7)), (15, vI (-1)), (58, vB (((gt p0 (gt x1 x7)).A) == x7))] w8 fun a ha => ?_
           obtain rfl := Option.some.inj h
           exact ⟨_, rfl, rfl, ha.to (by kernel_rfl)⟩
         · replace h := itF hb h
           refine sg ha 8 [(0, vS (some ⟨b5, o3, none⟩) p0 c_p0), (5, vP b1), (7, vS (some ⟨b4, o2, none⟩) x1 c1), (8, vS A2 x2 c2), (9, vS A3 x3 c3), (10, vS A4 x4 c4), (11, vI x7), (12, vS A7 x8 c7), (13, vS A8 x9 c8), (14, vI (gt x1 x7)), (15, vI (-1)), (58, vB false)] w8 fun a ha => ?_
           obtain rfl := Option.some.inj h
           exact ⟨_, rfl, rfl, ha.to (by kernel_rfl)⟩
       rintro a _ ⟨x11, rfl, rfl, ha⟩
       refine hK _ _ ?_
       clear hK
       refine cond_b ha rfl (fun hb => ?_) (fun hb => ?_)
       · replace h := itT hb h
         refine reg ?_
         refine sg ha 2 [(0, vS A_p0 p0 c_p0), (5, vP b1), (7, vS (some ⟨b4, o2, none⟩) x1 c1), (8, vS A2 x2 c2), (9, vS A3 x3 c3), (10, vS A4 x4 c4), (11, vI x7), (12, vS A7 x8 c7), (13, vS A8 x9 c8), (14, vI (gt x1 x7)), (59, vS A_p0 p0 c_p0), (60, vI (gt x1 x7))] w8 fun a ha => ?_
         obtain ⟨hi6, h⟩ := ite_some h
         obtain ⟨b6, o4, cs6, rfl, hr6, hc6⟩ := h_p0.rdb.get hi6
         obtain ⟨rfl, hl3⟩ := hr6
         refine ov (vE b6 o4 (gt x1 x7) 8) ha (obx w8 rfl rfl rfl Try.underlying22 rfl hi6) fun a ha => ?_
         refine sg ha 1 [(0, vS (some ⟨b6, o4, none⟩) p0 c_p0), (5, vP b1), (7, vS (some ⟨b4, o2, none⟩) x1 c1), (8, vS A2 x2 c2), (9, vS A3 x3 c3), (10, vS A4 x4 c4), (11, vI x7), (12, vS A7 x8 c7), (13, vS A8 x9 c8), (14, vI (gt x1 x7)), (62, .pointer (some (((⟨b6, o4, none⟩ : Addr).add ((gt x1 x7).toNat * 8)).add 2)))] w8 fun a ha => ?_
         refine ov (vI ((gt p0 (gt x1 x7)).B)) ha (ob_load w8 rfl rfl Try.underlying3 rfl ((cell_add2 _ _ _ _ _).trans (hc6 2 _ rfl))) fun a ha => ?_
         refine sg ha 1 [(0, vS (some ⟨b6, o4, none⟩) p0 c_p0), (5, vP b1), (7, vS (some ⟨b4, o2, none⟩) x1 c1), (8, vS A2 x2 c2), (9, vS A3 x3 c3), (10, vS A4 x4 c4), (11, vI x7), (12, vS A7 x8 c7), (13, vS A8 x9 c8), (14, vI (gt x1 x7)), (15, vI ((gt p0 (gt x1 x7)).B))] w8 fun a ha => ?_
         obtain rfl := Option.some.inj h
         exact ⟨_, rfl, rfl, ha.to (by kernel_rfl)⟩
       · replace h := itF hb h
         refine wp_skip ?_
         obtain rfl := Option.some.inj h
         exact ⟨_, rfl, rfl, ha.to (by kernel_rfl)⟩
     rintro a _ ⟨x10, rfl, rfl, ha⟩
     refine hK _ _ ?_
     clear hK
     refine sq fun K hK => ?_
     obtain ⟨q3, hj3, h⟩ := obind h
     refine wp_cutV (D := fun a w_ => ∃ x12 : Int, x12 = q3 ∧ w8 = w_ ∧ Ag 150 [(0, vS A_p0 p0 c_p0), (5, vP b1), (7, vS (some ⟨b4, o2, none⟩) x1 c1), (8, vS A2 x2 c2), (9, vS A3 x3 c3), (10, vS A4 x4 c4), (11, vI x7), (12, vS A7 x8 c7), (13, vS A8 x9 c8), (14, vI (gt x1 x7)), (15, vI x12)] a) ?_ ?_
     · clear h; have h := hj3
       refine sq fun K hK => ?_
       refine reg ?_
       refine sg ha 2 [(0, vS A_p0 p0 c_p0), (5, vP b1), (7, vS (some ⟨b4, o2, none⟩) x1 c1), (8, vS A2 x2 c2), (9, vS A3 x3 c3), (10, vS A4 x4 c4), (11, vI x7), (12, vS A7 x8 c7), (13, vS A8 x9 c8), (14, vI (gt x1 x7)), (15, vI x10), (64, vS A_p0 p0 c_p0), (65, vI (gt x1 x7))] w8 fun a ha => ?_
       obtain ⟨hi7, h⟩ := ite_some h
       obtain ⟨b7, o5, cs7, rfl, hr7, hc7⟩ := h_p0.rdb.get hi7
       obtain ⟨rfl, hl4⟩ := hr7
       refine ov (vE b7 o5 (gt x1 x7) 8) ha (obx w8 rfl rfl rfl Try.underlying22 rfl hi7) fun a ha => ?_
       refine sg ha 1 [(0, vS (some ⟨b7, o5, none⟩) p0 c_p0), (5, vP b1), (7, vS (some ⟨b4, o2, none⟩) x1 c1), (8, vS A2 x2 c2), (9, vS A3 x3 c3), (10, vS A4 x4 c4), (11, vI x7), (12, vS A7 x8 c7), (13, vS A8 x9 c8), (14, vI (gt x1 x7)), (15, vI x10), (67, .pointer (some (((⟨b7, o5, none⟩ : Addr).add ((gt x1 x7).toNat * 8)).add 0)))] w8 fun a ha => ?_
       refine ov (vI ((gt p0 (gt x1 x7)).Kind)) ha (ob_load w8 rfl rfl Try.underlying3 rfl ((cell_add2 _ _ _ _ _).trans (hc7 0 _ rfl))) fun a ha => ?_
       refine sg ha 1 [(0, vS (some ⟨b7, o5, none⟩) p0 c_p0), (5, vP b1), (7, vS (some ⟨b4, o2, none⟩) x1 c1), (8, vS A2 x2 c2), (9, vS A3 x3 c3), (10, vS A4 x4 c4), (11, vI x7), (12, vS A7 x8 c7), (13, vS A8 x9 c8), (14, vI (gt x1 x7)), (15, vI x10), (69, vB (((gt p0 (gt x1 x7)).Kind) == 5))] w8 fun a ha => ?_
       refine hK _ _ ?_
       clear hK
       refine cond_b ha rfl (fun hb => ?_) (fun hb => ?_)
       · replace h := itT hb h
         refine reg ?_
         refine sg ha 2 [(0, vS (some ⟨b7, o5, none⟩) p0 c_p0), (5, vP b1), (7, vS (some ⟨b4, o2, none⟩) x1 c1), (8, vS A2 x2 c2), (9, vS A3 x3 c3), (10, vS A4 x4 c4), (11, vI x7), (12, vS A7 x8 c7), (13, vS A8 x9 c8), (14, vI (gt x1 x7)), (70, vS (some ⟨b7, o5, none⟩) p0 c_p0), (71, vI (gt x1 x7))] w8 fun a ha => ?_
         obtain ⟨hi8, h⟩ := ite_some h
         obtain ⟨cs8, hr8, hc8⟩ := h_p0.rdb.at hi8
         obtain ⟨rfl, hl5⟩ := hr8
         refine ov (vE b7 o5 (gt x1 x7) 8) ha (obx w8 rfl rfl rfl Try.underlying22 rfl hi8) fun a ha => ?_
         refine sg ha 1 [(0, vS (some ⟨b7, o5, none⟩) p0 c_p0), (5, vP b1), (7, vS (some ⟨b4, o2, none⟩) x1 c1), (8, vS A2 x2 c2), (9, vS A3 x3 c3), (10, vS A4 x4 c4), (11, vI x7), (12, vS A7 x8 c7), (13, vS A8 x9 c8), (14, vI (gt x1 x7)), (73, .pointer (some (((⟨b7, o5, none⟩ : Addr).add ((gt x1 x7).toNat * 8)).add 1)))] w8 fun a ha => ?_
         refine ov (vI ((gt p0 (gt x1 x7)).A)) ha (ob_load w8 rfl rfl Try.underlying3 rfl ((cell_add2 _ _ _ _ _).trans (hc8 1 _ rfl))) fun a ha => ?_
         refine sg ha 1 [(0, vS (some ⟨b7, o5, none⟩) p0 c_p0), (5, vP b1), (7, vS (some ⟨b4, o2, none⟩) x1 c1), (8, vS A2 x2 c2), (9, vS A3 x3 c3), (10, vS A4 x4 c4), (11, vI x7), (12, vS A7 x8 c7), (13, vS A8 x9 c8), (14, vI (gt x1 x7)), (15, vI ((gt p0 (gt x1 x7)).A))] w8 fun a ha => ?_
         obtain rfl := Option.some.inj h
         exact ⟨_, rfl, rfl, ha.to (by kernel_rfl)⟩
       · replace h := itF hb h
         refine wp_skip ?_
         obtain rfl := Option.some.inj h
         exact ⟨_, rfl, rfl, ha.to (by kernel_rfl)⟩
     rintro a _ ⟨x12, rfl, rfl, ha⟩
     refine hK _ _ ?_
     clear hK
     refine sq fun K hK => ?_
     obtain ⟨q4, hj4, h⟩ := obind h
     refine wp_cutV (D := fun a w10 => ∃ x13 : List MHop, ∃ (S4 : Off), ∃ (A12 : Option Addr) (c12 : Nat), x13 = q4 ∧ Cx w nob S w10 S4 ∧ Sl tTerm w10.heap S4 A_p0 c_p0 p0 ∧ Mb (Wr nob w) w10.heap S4 b1 27 [vI x6.To, vI x6.Turn, vS A6 x6.Steps c6] ∧ Sl (tInt .i64) w10.heap S4 A6 c6 x6.Steps ∧ Sl (tInt .i64) w10.heap S4 (some ⟨b4, o2, none⟩) c1 x1 ∧ Sl (tInt .i64) w10.heap S4 A2 c2 x2 ∧ Sl (tInt .i64) w10.heap S4 A3 c3 x3 ∧ Sl tBool w10.heap S4 A4 c4 x4 ∧ Sl (tInt .i64) w10.heap S4 A7 c7 x8 ∧ Ow tHop 27 (Wr nob w) w10.heap S4 (vS A12 x13 c12) x13 ∧ Dis (bv b1) (vS A12 x13 c12) ∧ Ag 150 [(0, vS A_p0 p0 c_p0), (5, vP b1), (7, vS (some ⟨b4, o2, none⟩) x1 c1), (8, vS A2 x2 c2), (9, vS A3 x3 c3), (10, vS A4 x4 c4), (11, vI x7), (12, vS A7 x8 c7), (13, vS A12 x13 c12), (14, vI (gt x1 x7)), (15, vI x12)] a) ?_ ?_
     · clear h; have h := hj4
       refine sq fun K hK => ?_
       refine reg ?_
       refine sg ha 2 [(0, vS A_p0 p0 c_p0), (5, vP b1), (7, vS (some ⟨b4, o2, none⟩) x1 c1), (8, vS A2 x2 c2), (9, vS A3 x3 c3), (10, vS A4 x4 c4), (11, vI x7), (12, vS A7 x8 c7), (13, vS A8 x9 c8), (14, vI (gt x1 x7)), (15, vI x12), (76, vB (decide (x12 ≥ 0)))] w8 fun a ha => ?_
       refine hK _ _ ?_
       clear hK
       refine cond_b ha rfl (fun hb => ?_) (fun hb => ?_)
       · replace h := itT hb h
         refine sq fun K hK => ?_
         refine reg ?_
         refine sg ha 5 [(0, vS A_p0 p0 c_p0), (5, vP b1), (7, vS (some ⟨b4, o2, none⟩) x1 c1), (8, vS A2 x2 c2), (9, vS A3 x3 c3), (10, vS A4 x4 c4), (11, vI x7), (12, vS A7 x8 c7), (13, vS A8 x9 c8), (14, vI (gt x1 x7)), (15, vI x12), (77, vS A_p0 p0 c_p0), (78, vS A3 x3 c3), (79, vS A4 x4 c4), (80, vI x12), (81, vS A7 x8 c7)] w8 fun a ha => ?_
         obtain ⟨x14, hx6, h⟩ := obind h
         refine op_call ha (by kernel_rfl) (f := 54) (args := #[vS A_p0 p0 c_p0, vS A3 x3 c3, vS A4 x4 c4, vI x12, vS A7 x8 c7]) (w' := w8) (by kernel_rfl) (ok54 fuel fuel (p0 := p0) (p1 := x3) (p2 := x4) (p3 := x12) (p4 := x8) cx.lt h_p0 f4 f5 f10 hx6) ?_
         rintro v6 w11 ⟨hb8, hp6⟩ a ha
         obtain ⟨A13, c13, rfl, f17⟩ := hp6
         obtain ⟨S5, cx, kp2, hs2, hn1, f17⟩ := own_in cx hb8 f17
         have d4 : Dis (bv b1) (vS A13 x14 c13) := Dis.new f9.lt (hn1)
         have d5 : Dis (vS A8 x9 c8) (vS A13 x14 c13) := Dis.new f11.lt (hn1)
         replace h_p0 := h_p0.keep kp2
         replace f9 := f9.extS hb8 hs2
         replace f8 := f8.keep kp2
         replace f2 := f2.keep kp2
         replace f3 := f3.keep kp2
         replace f4 := f4.keep kp2
         replace f5 := f5.keep kp2
         replace f10 := f10.keep kp2
         replace f11 := f11.extS hb8 kp2 hs2
         refine sg ha 1 [(0, vS A_p0 p0 c_p0), (5, vP b1), (7, vS (some ⟨b4, o2, none⟩) x1 c1), (8, vS A2 x2 c2), (9, vS A3 x3 c3), (10, vS A4 x4 c4), (11, vI x7), (12, vS A7 x8 c7), (13, vS A8 x9 c8), (14, vI (gt x1 x7)), (15, vI x12), (16, vS A13 x14 c13)] w11 fun a ha => ?_
         refine hK _ _ ?_
         clear hK
         refine sq fun K hK => ?_
         refine reg ?_
         refine sg ha 1 [(0, vS A_p0 p0 c_p0), (5, vP b1), (7, vS (some ⟨b4, o2, none⟩) x1 c1), (8, vS A2 x2 c2), (9, vS A3 x3 c3), (10, vS A4 x4 c4), (11, vI x7), (12, vS A7 x8 c7), (13, vS A8 x9 c8), (14, vI (gt x1 x7)), (15, vI x12), (16, vS A13 x14 c13), (17, vI 0)] w11 fun a ha => ?_
         refine hK _ _ ?_
         clear hK
         refine wp_block ?_
         obtain ⟨t2, ht2, h⟩ := obind h
         refine wp_mono (wp_iter (step := (m_ref17_climb_l2 fuel p0 x6 x1 x2 x3 x4 x7 x8 x9 x12 x14)) (I := fun (s : List MHop × List MHop × Int) a w12 => match s with | (x15, x16, x17) => ∃ (S6 : Off), ∃ (A14 : Option Addr) (c14 : Nat), ∃ (A15 : Option Addr) (c15 : Nat), Cx w nob S w12 S6 ∧ Sl tTerm w12.heap S6 A_p0 c_p0 p0 ∧ Mb (Wr nob w) w12.heap S6 b1 27 [vI x6.To, vI x6.Turn, vS A6 x6.Steps c6] ∧ Sl (tInt .i64) w12.heap S6 A6 c6 x6.Steps ∧ Sl (tInt .i64) w12.heap S6 (some ⟨b4, o2, none⟩) c1 x1 ∧ Sl (tInt .i64) w12.heap S6 A2 c2 x2 ∧ Sl (tInt .i64) w12.heap S6 A3 c3 x3 ∧ Sl tBool w12.heap S6 A4 c4 x4 ∧ Sl (tInt .i64) w12.heap S6 A7 c7 x8 ∧ Ow tHop 27 (Wr nob w) w12.heap S6 (vS A14 x15 c14) x15 ∧ Ow tHop 27 (Wr nob w) w12.heap S6 (vS A15 x16 c15) x16 ∧ Dis (bv b1) (vS A14 x15 c14) ∧ Dis (bv b1) (vS A15 x16 c15) ∧ Dis (vS A14 x15 c14) (vS A15 x16 c15) ∧ Ag 150 [(0, vS A_p0 p0 c_p0), (5, vP b1), (7, vS (some ⟨b4, o2, none⟩) x1 c1), (8, vS A2 x2 c2), (9, vS A3 x3 c3), (10, vS A4 x4 c4), (11, vI x7), (12, vS A7 x8 c7), (13, vS A14 x15 c14), (14, vI (gt x1 x7)), (15, vI x12), (16, vS A15 x16 c15), (17, vI x17)] a) (D := fun (t : List MHop) e a w13 => match t with | y4 => e = .exit 2 ∧ ∃ (S7 : Off), ∃ (A16 : Option Addr) (c16 : Nat), Cx w nob S w13 S7 ∧ Sl tTerm w13.heap S7 A_p0 c_p0 p0 ∧ Mb (Wr nob w) w13.heap S7 b1 27 [vI x6.To, vI x6.Turn, vS A6 x6.Steps c6] ∧ Sl (tInt .i64) w13.heap S7 A6 c6 x6.Steps ∧ Sl (tInt .i64) w13.heap S7 (some ⟨b4, o2, none⟩) c1 x1 ∧ Sl (tInt .i64) w13.heap S7 A2 c2 x2 ∧ Sl (tInt .i64) w13.heap S7 A3 c3 x3 ∧ Sl tBool w13.heap S7 A4 c4 x4 ∧ Sl (tInt .i64) w13.heap S7 A7 c7 x8 ∧ Ow tHop 27 (Wr nob w) w13.heap S7 (vS A16 y4 c16) y4 ∧ Dis (bv b1) (vS A16 y4 c16) ∧ Ag 150 [(0, vS A_p0 p0 c_p0), (5, vP b1), (7, vS (some ⟨b4, o2, none⟩) x1 c1), (8, vS A2 x2 c2), (9, vS A3 x3 c3), (10, vS A4 x4 c4), (11, vI x7), (12, vS A7 x8 c7), (13, vS A16 y4 c16), (14, vI (gt x1 x7)), (15, vI x12)] a) ?_ fuel _ t2 a _ ht2 ?_) ?_
         · clear h ht2
           rintro ⟨x15, x16, x17⟩ ct a w12 ⟨S6, A14, c14, A15, c15, cx, h_p0, f9, f8, f2, f3, f4, f5, f10, f18, f19, d6, d7, d8, ha⟩ h
           refine with_nop (NoP.loop (fun t c a w h => by cases t <;> exact absurd h.1 (by simp))) (fun hq => ?_)
           unfold m_ref17_climb_l2 at h
           refine sq fun K hK => ?_
           refine sq fun K hK => ?_
           refine reg ?_
           refine sg ha 4 [(0, vS A_p0 p0 c_p0), (5, vP b1), (7, vS (some ⟨b4, o2, none⟩) x1 c1), (8, vS A2 x2 c2), (9, vS A3 x3 c3), (10, vS A4 x4 c4), (11, vI x7), (12, vS A7 x8 c7), (13, vS A14 x15 c14), (14, vI (gt x1 x7)), (15, vI x12), (16, vS A15 x16 c15), (17, vI x17), (86, vB (decide (x17 < (x16.length : Int))))] w12 fun a ha => ?_
           refine hK _ _ ?_
           clear hK
           refine cond_b ha rfl (fun hb => ?_) (fun hb => ?_)
           · replace h := itT hb h
             refine wp_skip ?_
             refine hK _ _ ?_
             clear hK
             refine sq fun K hK => ?_
             obtain ⟨q5, hj5, h⟩ := obind h
             refine wp_cutV (D := fun a w14 => ∃ x18 : List MHop, ∃ x19 : List MHop, ∃ (S8 : Off), ∃ (A17 : Option Addr) (c17 : Nat), ∃ (A18 : Option Addr) (c18 : Nat), (x18, x19) = q5 ∧ Cx w nob S w14 S8 ∧ Sl tTerm w14.heap S8 A_p0 c_p0 p0 ∧ Mb (Wr nob w) w14.heap S8 b1 27 [vI x6.To, vI x6.Turn, vS A6 x6.Steps c6] ∧ Sl (tInt .i64) w14.heap S8 A6 c6 x6.Steps ∧ Sl (tInt .i64) w14.heap S8 (some ⟨b4, o2, none⟩) c1 x1 ∧ Sl (tInt .i64) w14.heap S8 A2 c2 x2 ∧ Sl (tInt .i64) w14.heap S8 A3 c3 x3 ∧ Sl tBool w14.heap S8 A4 c4 x4 ∧ Sl (tInt .i64) w14.heap S8 A7 c7 x8 ∧ Ow tHop 27 (Wr nob w) w14.heap S8 (vS A17 x18 c17) x18 ∧ Ow tHop 27 (Wr nob w) w14.heap S8 (vS A18 x19 c18) x19 ∧ Dis (bv b1) (vS A17 x18 c17) ∧ Dis (bv b1) (vS A18 x19 c18) ∧ Dis (vS A17 x18 c17) (vS A18 x19 c18) ∧ Ag 150 [(0, vS A_p0 p0 c_p0), (5, vP b1), (7, vS (some ⟨b4, o2, none⟩) x1 c1), (8, vS A2 x2 c2), (9, vS A3 x3 c3), (10, vS A4 x4 c4), (11, vI x7), (12, vS A7 x8 c7), (13, vS A17 x18 c17), (14, vI (gt x1 x7)), (15, vI x12), (16, vS A18 x19 c18), (17, vI x17)] a) ?_ ?_
             · clear h; have h := hj5
               refine wp_block ?_
               refine sq fun K hK => ?_
               refine reg ?_
               refine sg ha 3 [(0, vS A_p0 p0 c_p0), (5, vP b1), (7, vS (some ⟨b4, o2, none⟩) x1 c1), (8, vS A2 x2 c2), (9, vS A3 x3 c3), (10, vS A4 x4 c4), (11, vI x7), (12, vS A7 x8 c7), (13, vS A14 x15 c14), (14, vI (gt x1 x7)), (15, vI x12), (16, vS A15 x16 c15), (17, vI x17), (89, vS A14 x15 c14), (90, vS A15 x16 c15), (91, vI x17)] w12 fun a ha => ?_
               obtain ⟨hi9, h⟩ := ite_some h
               obtain ⟨b8, o6, cs9, rfl, hr9, hc9⟩ := f19.rdb.get hi9
               obtain ⟨A19, c19, rfl, f23⟩ := hr9
               refine ov (vE b8 o6 x17 3) ha (obx w12 rfl rfl rfl Try.underlying31 rfl hi9) fun a ha => ?_
               refine sg ha 1 [(0, vS A_p0 p0 c_p0), (5, vP b1), (7, vS (some ⟨b4, o2, none⟩) x1 c1), (8, vS A2 x2 c2), (9, vS A3 x3 c3), (10, vS A4 x4 c4), (11, vI x7), (12, vS A7 x8 c7), (13, vS A14 x15 c14), (14, vI (gt x1 x7)), (15, vI x12), (16, vS (some ⟨b8, o6, none⟩) x16 c15), (17, vI x17), (89, vS A14 x15 c14), (93, .pointer (some (((⟨b8, o6, none⟩ : Addr).add (x17.toNat * 3)).add 0)))] w12 fun a ha => ?_
               refine ov (vI ((gt x16 x17).To)) ha (ob_load w12 rfl rfl Try.underlying3 rfl ((cell_add2 _ _ _ _ _).trans (hc9 0 _ rfl))) fun a ha => ?_
               obtain ⟨x20, hx7, h⟩ := obind h
               refine op_call ha (by kernel_rfl) (f := 84) (args := #[vS A14 x15 c14, vI ((gt x16 x17).To)]) (w' := w12) (by kernel_rfl) (ok84 fuel (p0 := x15) (p1 := (gt x16 x17).To) (lt_minus (v := vS A14 x15 c14) cx.lt) (f18.asSl) hx7) ?_
               rintro v7 w15 ⟨hb9, hp7⟩ a ha
               obtain rfl := hp7
               replace h_p0 := h_p0.keep (Keep.ext S6 hb9)
               replace f9 := f9.ext hb9
               replace f8 := f8.keep (Keep.ext S6 hb9)
               replace f2 := f2.keep (Keep.ext S6 hb9)
               replace f3 := f3.keep (Keep.ext S6 hb9)
               replace f4 := f4.keep (Keep.ext S6 hb9)
               replace f5 := f5.keep (Keep.ext S6 hb9)
               replace f10 := f10.keep (Keep.ext S6 hb9)
               replace f18 := f18.ext hb9
               replace f19 := f19.ext hb9
               replace cx := cx.ext hb9
               refine sg ha 1 [(0, vS A_p0 p0 c_p0), (5, vP b1), (7, vS (some ⟨b4, o2, none⟩) x1 c1), (8, vS A2 x2 c2), (9, vS A3 x3 c3), (10, vS A4 x4 c4), (11, vI x7), (12, vS A7 x8 c7), (13, vS A14 x15 c14), (14, vI (gt x1 x7)), (15, vI x12), (16, vS (some ⟨b8, o6, none⟩) x16 c15), (17, vI x17), (96, vB (!x20))] w15 fun a ha => ?_
               refine hK _ _ ?_
               clear hK
               refine cond_b ha rfl (fun hb => ?_) (fun hb => ?_)
               · replace h := itT hb h
                 refine sq fun K hK => ?_
                 refine reg ?_
                 refine sg ha 4 [(0, vS A_p0 p0 c_p0), (5, vP b1), (7, vS (some ⟨b4, o2, none⟩) x1 c1), (8, vS A2 x2 c2), (9, vS A3 x3 c3), (10, vS A4 x4 c4), (11, vI x7), (12, vS A7 x8 c7), (13, vS A14 x15 c14), (14, vI (gt x1 x7)), (15, vI x12), (16, vS (some ⟨b8, o6, none⟩) x16 c15), (17, vI x17), (97, vS (some ⟨b8, o6, none⟩) x16 c15), (98, vI x17), (99, vS A2 x2 c2), (100, vI (gt x1 x7))] w15 fun a ha => ?_
                 obtain ⟨hi10, h⟩ := ite_some h
                 obtain ⟨b9, o7, cs10, rfl, hr10, hc10⟩ := f3.rdb.get hi10
                 obtain rfl := hr10
                 refine ov (vE b9 o7 (gt x1 x7) 1) ha (obx w15 rfl rfl rfl Try.underlying25 rfl hi10) fun a ha => ?_
                 refine ov (vI (gt x2 (gt x1 x7))) ha (ob_load w15 rfl rfl Try.underlying3 rfl ((cell_add1 _ _ _ _).trans (hc10 0 _ rfl))) fun a ha => ?_
                 obtain ⟨hi11, h⟩ := ite_some h
                 obtain ⟨cs11, hr11, hc11⟩ := f19.rdb.at hi11
                 obtain ⟨A20, c20, rfl, f24⟩ := hr11
                 refine ov (vE b8 o6 x17 3) ha (obx w15 rfl rfl rfl Try.underlying31 rfl hi11) fun a ha => ?_
                 refine sg ha 1 [(0, vS A_p0 p0 c_p0), (5, vP b1), (7, vS (some ⟨b4, o2, none⟩) x1 c1), (8, vS (some ⟨b9, o7, none⟩) x2 c2), (9, vS A3 x3 c3), (10, vS A4 x4 c4), (11, vI x7), (12, vS A7 x8 c7), (13, vS A14 x15 c14), (14, vI (gt x1 x7)), (15, vI x12), (16, vS (some ⟨b8, o6, none⟩) x16 c15), (17, vI x17), (102, vI (gt x2 (gt x1 x7))), (104, .pointer (some (((⟨b8, o6, none⟩ : Addr).add (x17.toNat * 3)).add 1)))] w15 fun a ha => ?_
                 refine op_setEl (T := tHop) (f := 1) (x' := (⟨(gt x16 x17).To, (gt x2 (gt x1 x7)), (gt x16 x17).Steps⟩ : MHop)) ha cx (by kernel_rfl) rfl rfl rfl wr_id f19 hi11 (by kernel_rfl) (add2_eq _ _ _ _) (by kernel_rfl) (fun H2 ecs kk hr => by obtain ⟨_, _, rfl, hh1⟩ := hr; exact ⟨_, _, rfl, hh1.keep kk⟩) ?_
                 intro w16 cx on1 kp3 f25 a ha
                 replace h_p0 := h_p0.keep kp3
                 replace f9 := f9.only on1 (fun e => d7 _ rfl (by rw [e]; rfl))
                 replace f8 := f8.keep kp3
                 replace f2 := f2.keep kp3
                 replace f3 := f3.keep kp3
                 replace f4 := f4.keep kp3
                 replace f5 := f5.keep kp3
                 replace f10 := f10.keep kp3
                 replace f18 := f18.only on1 (f19.1 _ rfl).1 (fun e => d8 _ e rfl)
                 have d13 : Dis (bv b1) (vS (some ⟨b8, o6, none⟩) (x16.set (Int.toNat x17) (⟨(gt x16 x17).To, (gt x2 (gt x1 x7)), (gt x16 x17).Steps⟩ : MHop)) c15) := fun k hk e => d7 k hk e
                 have d14 : Dis (vS A14 x15 c14) (vS (some ⟨b8, o6, none⟩) (x16.set (Int.toNat x17) (⟨(gt x16 x17).To, (gt x2 (gt x1 x7)), (gt x16 x17).Steps⟩ : MHop)) c15) := fun k hk e => d8 k hk e
                 have hl6 : ((x16.set (Int.toNat x17) (⟨(gt x16 x17).To, (gt x2 (gt x1 x7)), (gt x16 x17).Steps⟩ : MHop))).length = x16.length := List.length_set
                 replace ha : Ag 150 [(0, .slice A_p0 p0.length c_p0), (5, .pointer (some ⟨b1, 0, none⟩)), (7, .slice (some ⟨b4, o2, none⟩) x1.length c1), (8, .slice (some ⟨b9, o7, none⟩) x2.length c2), (9, .slice A3 x3.length c3), (10, .slice A4 x4.length c4), (11, .int .i64 x7), (12, .slice A7 x8.length c7), (13, .slice A14 x15.length c14), (14, .int .i64 (gt x1 x7)), (15, .int .i64 x12), (16, .slice (some ⟨b8, o6, none⟩) (x16.set (Int.toNat x17) (⟨(gt x16 x17).To, (gt x2 (gt x1 x7)), (gt x16 x17).Steps⟩ : MHop)).length c15), (17, .int .i64 x17)] a := by rw [hl6]; exact ha.to (by kernel_rfl)
                 replace f25 : Ow tHop 27 (Wr nob w) w16.heap S6 (.slice (some ⟨b8, o6, none⟩) (x16.set (Int.toNat x17) (⟨(gt x16 x17).To, (gt x2 (gt x1 x7)), (gt x16 x17).Steps⟩ : MHop)).length c15) (x16.set (Int.toNat x17) (⟨(gt x16 x17).To, (gt x2 (gt x1 x7)), (gt x16 x17).Steps⟩ : MHop)) := by rw [hl6]; exact f25
                 refine hK _ _ ?_
                 clear hK
                 refine reg ?_
                 refine sg ha 3 [(0, vS A_p0 p0 c_p0), (5, vP b1), (7, vS (some ⟨b4, o2, none⟩) x1 c1), (8, vS (some ⟨b9, o7, none⟩) x2 c2), (9, vS A3 x3 c3), (10, vS A4 x4 c4), (11, vI x7), (12, vS A7 x8 c7), (14, vI (gt x1 x7)), (15, vI x12), (16, vS (some ⟨b8, o6, none⟩) (x16.set (Int.toNat x17) (⟨(gt x16 x17).To, (gt x2 (gt x1 x7)), (gt x16 x17).Steps⟩ : MHop)) c15), (17, vI x17), (105, vS A14 x15 c14), (106, vS (some ⟨b8, o6, none⟩) (x16.set (Int.toNat x17) (⟨(gt x16 x17).To, (gt x2 (gt x1 x7)), (gt x16 x17).Steps⟩ : MHop)) c15), (107, vI x17)] w16 fun a ha => ?_
                 obtain ⟨hi12, h⟩ := ite_some h
                 obtain ⟨cs12, hr12, hc12⟩ := f25.rdb.at hi12
                 obtain ⟨A21, c21, rfl, f26⟩ := hr12
                 refine ov (vE b8 o6 x17 3) ha (obx w16 rfl rfl rfl Try.underlying31 rfl hi12) fun a ha => ?_
                 refine ov (.agg #[vI ((gt (x16.set (Int.toNat x17) (⟨(gt x16 x17).To, (gt x2 (gt x1 x7)), (gt x16 x17).Steps⟩ : MHop)) x17).To), vI ((gt (x16.set (Int.toNat x17) (⟨(gt x16 x17).To, (gt x2 (gt x1 x7)), (gt x16 x17).Steps⟩ : MHop)) x17).Turn), vS A21 ((gt (x16.set (Int.toNat x17) (⟨(gt x16 x17).To, (gt x2 (gt x1 x7)), (gt x16 x17).Steps⟩ : MHop)) x17).Steps) c21]) ha (ob_loadn (cs := [vI ((gt (x16.set (Int.toNat x17) (⟨(gt x16 x17).To, (gt x2 (gt x1 x7)), (gt x16 x17).Steps⟩ : MHop)) x17).To), vI ((gt (x16.set (Int.toNat x17) (⟨(gt x16 x17).To, (gt x2 (gt x1 x7)), (gt x16 x17).Steps⟩ : MHop)) x17).Turn), vS A21 ((gt (x16.set (Int.toNat x17) (⟨(gt x16 x17).To, (gt x2 (gt x1 x7)), (gt x16 x17).Steps⟩ : MHop)) x17).Steps) c21]) w16 rfl rfl Try.underlying27 rfl (by kernel_rfl) (fun j v hj => (cell_add2 _ _ _ _ _).trans (hc12 j v hj))) fun a ha => ?_
                 refine op_new (V := fun b => .slice (some ⟨b, 0, none⟩) 1 1) (cs := [vI ((gt (x16.set (Int.toNat x17) (⟨(gt x16 x17).To, (gt x2 (gt x1 x7)), (gt x16 x17).Steps⟩ : MHop)) x17).To), vI ((gt (x16.set (Int.toNat x17) (⟨(gt x16 x17).To, (gt x2 (gt x1 x7)), (gt x16 x17).Steps⟩ : MHop)) x17).Turn), vS A21 ((gt (x16.set (Int.toNat x17) (⟨(gt x16 x17).To, (gt x2 (gt x1 x7)), (gt x16 x17).Steps⟩ : MHop)) x17).Steps) c21]) (T := 27) ha (by kernel_rfl) (by kernel_rfl) ?_
                 intro w17 b10 hb10 hk3 he3 _ a ha
                 have f27 := lit_ow (T := tHop) (xs := [(gt (x16.set (Int.toNat x17) (⟨(gt x16 x17).To, (gt x2 (gt x1 x7)), (gt x16 x17).Steps⟩ : MHop)) x17)]) (m := 1) cx hb10 hk3 he3 rfl (by kernel_rfl) (Els.one (T := tHop) (x := (gt (x16.set (Int.toNat x17) (⟨(gt x16 x17).To, (gt x2 (gt x1 x7)), (gt x16 x17).Steps⟩ : MHop)) x17)) ⟨_, _, rfl, f26⟩)
                 replace f27 := own_out cx f27
                 replace h_p0 := h_p0.keep (Keep.ext S6 hb10)
                 replace f9 := f9.ext hb10
                 replace f8 := f8.keep (Keep.ext S6 hb10)
                 replace f2 := f2.keep (Keep.ext S6 hb10)
                 replace f3 := f3.keep (Keep.ext S6 hb10)
                 replace f4 := f4.keep (Keep.ext S6 hb10)
                 replace f5 := f5.keep (Keep.ext S6 hb10)
                 replace f10 := f10.keep (Keep.ext S6 hb10)
                 replace f25 := f25.ext hb10
                 replace f18 := f18.ext hb10
                 replace cx := cx.ext hb10
                 obtain ⟨hp8, h⟩ := ite_some h
                 refine op_append (T := tHop) (xs := x15) (ys := [(gt (x16.set (Int.toNat x17) (⟨(gt x16 x17).To, (gt x2 (gt x1 x7)), (gt x16 x17).Steps⟩ : MHop)) x17)]) (z := .agg #[vI 0, vI 0, .slice none 0 0]) (bytes := 40) ha cx (by kernel_rfl) rfl rfl rfl Try.underlying31 (by kernel_rfl) (by kernel_rfl) wr_id f18 f27.rdb hp8 ?_
                 intro w18 S9 A22 c22 cx kp4 hs3 hn2 hat1 f28 a ha
                 replace h_p0 := h_p0.keep kp4
                 have d15 : Dis (bv b1) (vS A22 (x15 ++ [(gt (x16.set (Int.toNat x17) (⟨(gt x16 x17).To, (gt x2 (gt x1 x7)), (gt x16 x17).Steps⟩ : MHop)) x17)]) c22) := Dis.grow d6 f9.lt hat1
                 replace f9 := f9.keep hs3 (hn2 _ f9.blk_lt (d6 _ rfl))
                 replace f8 := f8.keep kp4
                 replace f2 := f2.keep kp4
                 replace f3 := f3.keep kp4
                 replace f4 := f4.keep kp4
                 replace f5 := f5.keep kp4
                 replace f10 := f10.keep kp4
                 have d16 : Dis (vS (some ⟨b8, o6, none⟩) (x16.set (Int.toNat x17) (⟨(gt x16 x17).To, (gt x2 (gt x1 x7)), (gt x16 x17).Steps⟩ : MHop)) c15) (vS A22 (x15 ++ [(gt (x16.set (Int.toNat x17) (⟨(gt x16 x17).To, (gt x2 (gt x1 x7)), (gt x16 x17).Steps⟩ : MHop)) x17)]) c22) := Dis.grow d14.symm f25.lt hat1
                 replace f25 := f25.keep kp4 hs3 (fun b hb => hn2 b (f25.lt b hb) (d14.symm b hb))
                 refine sg ha 1 [(0, vS A_p0 p0 c_p0), (5, vP b1), (7, vS (some ⟨b4, o2, none⟩) x1 c1), (8, vS (some ⟨b9, o7, none⟩) x2 c2), (9, vS A3 x3 c3), (10, vS A4 x4 c4), (11, vI x7), (12, vS A7 x8 c7), (13, vS A22 (x15 ++ [(gt (x16.set (Int.toNat x17) (⟨(gt x16 x17).To, (gt x2 (gt x1 x7)), (gt x16 x17).Steps⟩ : MHop)) x17)]) c22), (14, vI (gt x1 x7)), (15, vI x12), (16, vS (some ⟨b8, o6, none⟩) (x16.set (Int.toNat x17) (⟨(gt x16 x17).To, (gt x2 (gt x1 x7)), (gt x16 x17).Steps⟩ : MHop)) c15), (17, vI x17)] w18 fun a ha => ?_
                 obtain rfl := Option.some.inj h
                 exact ⟨_, _, _, A22, c22, (some ⟨b8, o6, none⟩), c15, rfl, cx, h_p0, f9, f8, f2, f3, f4, f5, f10, f28, f25, d15, d13, d16.symm, ha.to (by kernel_rfl)⟩
               · replace h := itF hb h
                 refine wp_skip ?_
                 obtain rfl := Option.some.inj h
                 exact ⟨_, _, _, A14, c14, (some ⟨b8, o6, none⟩), c15, rfl, cx, h_p0, f9, f8, f2, f3, f4, f5, f10, f18, f19, d6, d7, d8, ha.to (by kernel_rfl)⟩
             rintro a w14 ⟨x18, x19, S8, A17, c17, A18, c18, rfl, cx, h_p0, f9, f8, f2, f3, f4, f5, f10, f21, f22, d10, d11, d12, ha⟩
             refine hK _ _ ?_
             clear hK
             refine reg ?_
             refine sg ha 3 [(0, vS A_p0 p0 c_p0), (5, vP b1), (7, vS (some ⟨b4, o2, none⟩) x1 c1), (8, vS A2 x2 c2), (9, vS A3 x3 c3), (10, vS A4 x4 c4), (11, vI x7), (12, vS A7 x8 c7), (13, vS A17 x18 c17), (14, vI (gt x1 x7)), (15, vI x12), (16, vS A18 x19 c18), (17, vI (W (x17 + 1)))] w14 fun a ha => ?_
             obtain rfl := Option.some.inj h
             exact ⟨_, rfl, S8, A17, c17, A18, c18, cx, h_p0, f9, f8, f2, f3, f4, f5, f10, f21, f22, d10, d11, d12, ha.to (by kernel_rfl)⟩
           · replace h := itF hb h
             refine wp_exit ?_
             obtain rfl := Option.some.inj h
             exact ⟨_, rfl, rfl, S6, A14, c14, cx, h_p0, f9, f8, f2, f3, f4, f5, f10, f18, d6, ha.to (by kernel_rfl)⟩
         · exact ⟨S5, A8, c8, A13, c13, cx, h_p0, f9, f8, f2, f3, f4, f5, f10, f11, f17, d1, d4, d5, ha.to (by kernel_rfl)⟩
         intro e a w13 hd
         generalize t2 = y4 at *
         obtain ⟨rfl, S7, A16, c16, cx, h_p0, f9, f8, f2, f3, f4, f5, f10, f20, d9, ha⟩ := hd
         obtain rfl := Option.some.inj h
         exact ⟨_, _, A16, c16, rfl, cx, h_p0, f9, f8, f2, f3, f4, f5, f10, f20, d9, ha.to (by kernel_rfl)⟩
       · replace h := itF hb h
         refine wp_skip ?_
         obtain rfl := Option.some.inj h
         exact ⟨_, _, A8, c8, rfl, cx, h_p0, f9, f8, f2, f3, f4, f5, f10, f11, d1, ha.to (by kernel_rfl)⟩
     rintro a w10 ⟨x13, S4, A12, c12, rfl, cx, h_p0, f9, f8, f2, f3, f4, f5, f10, f16, d3, ha⟩
     refine hK _ _ ?_
     clear hK
     refine sq fun K hK => ?_
     obtain ⟨q6, hj6, h⟩ := obind h
     refine wp_cutV (D := fun a w19 => ∃ x21 : List Int, ∃ (S10 : Off), ∃ (A23 : Option Addr) (c23 : Nat), .inl x21 = q6 ∧ Cx w nob S w19 S10 ∧ Sl tTerm w19.heap S10 A_p0 c_p0 p0 ∧ Mb (Wr nob w) w19.heap S10 b1 27 [vI x6.To, vI x6.Turn, vS A6 x6.Steps c6] ∧ Sl (tInt .i64) w19.heap S10 A6 c6 x6.Steps ∧ Sl (tInt .i64) w19.heap S10 (some ⟨b4, o2, none⟩) c1 x1 ∧ Sl (tInt .i64) w19.heap S10 A2 c2 x2 ∧ Sl (tInt .i64) w19.heap S10 A3 c3 x3 ∧ Sl tBool w19.heap S10 A4 c4 x4 ∧ Sl (tInt .i64) w19.heap S10 A23 c23 x21 ∧ Ow tHop 27 (Wr nob w) w19.heap S10 (vS A12 x13 c12) x13 ∧ Dis (bv b1) (vS A12 x13 c12) ∧ Ag 150 [(0, vS A_p0 p0 c_p0), (5, vP b1), (7, vS (some ⟨b4, o2, none⟩) x1 c1), (8, vS A2 x2 c2), (9, vS A3 x3 c3), (10, vS A4 x4 c4), (12, vS A23 x21 c23), (13, vS A12 x13 c12), (14, vI (gt x1 x7))] a) ?_ ?_
     · have hq6 := h; clear h; have h := hj6
       refine sq fun K hK => ?_
       obtain ⟨q7, hj7, h⟩ := obind h
       refine wp_cutV (D := fun a w_ => ∃ x22 : Bool, x22 = q7 ∧ w10 = w_ ∧ Ag 150 [(0, vS A_p0 p0 c_p0), (5, vP b1), (7, vS (some ⟨b4, o2, none⟩) x1 c1), (8, vS A2 x2 c2), (9, vS A3 x3 c3), (10, vS A4 x4 c4), (12, vS A7 x8 c7), (13, vS A12 x13 c12), (14, vI (gt x1 x7)), (15, vI x12), (126, vB x22)] a) ?_ ?_
       · clear h; have h := hj7
         refine reg ?_
         refine sg ha 2 [(0, vS A_p0 p0 c_p0), (5, vP b1), (7, vS (some ⟨b4, o2, none⟩) x1 c1), (8, vS A2 x2 c2), (9, vS A3 x3 c3), (10, vS A4 x4 c4), (11, vI x7), (12, vS A7 x8 c7), (13, vS A12 x13 c12), (14, vI (gt x1 x7)), (15, vI x12), (112, vS A_p0 p0 c_p0), (113, vI (gt x1 x7))] w10 fun a ha => ?_
         obtain ⟨hi13, h⟩ := ite_some h
         obtain ⟨b11, o8, cs13, rfl, hr13, hc13⟩ := h_p0.rdb.get hi13
         obtain ⟨rfl, hl7⟩ := hr13
         refine ov (vE b11 o8 (gt x1 x7) 8) ha (obx w10 rfl rfl rfl Try.underlying22 rfl hi13) fun a ha => ?_
         refine sg ha 1 [(0, vS (some ⟨b11, o8, none⟩) p0 c_p0), (5, vP b1), (7, vS (some ⟨b4, o2, none⟩) x1 c1), (8, vS A2 x2 c2), (9, vS A3 x3 c3), (10, vS A4 x4 c4), (11, vI x7), (12, vS A7 x8 c7), (13, vS A12 x13 c12), (14, vI (gt x1 x7)), (15, vI x12), (115, .pointer (some (((⟨b11, o8, none⟩ : Addr).add ((gt x1 x7).toNat * 8)).add 0)))] w10 fun a ha => ?_
         refine ov (vI ((gt p0 (gt x1 x7)).Kind)) ha (ob_load w10 rfl rfl Try.underlying3 rfl ((cell_add2 _ _ _ _ _).trans (hc13 0 _ rfl))) fun a ha => ?_
         refine sg ha 2 [(0, vS (some ⟨b11, o8, none⟩) p0 c_p0), (5, vP b1), (7, vS (some ⟨b4, o2, none⟩) x1 c1), (8, vS A2 x2 c2), (9, vS A3 x3 c3), (10, vS A4 x4 c4), (11, vI x7), (12, vS A7 x8 c7), (13, vS A12 x13 c12), (14, vI (gt x1 x7)), (15, vI x12), (118, vB (((gt p0 (gt x1 x7)).Kind) == 3))] w10 fun a ha => ?_
         refine split_b (t := 118) ha rfl (fun hb ha => ?_) (fun hb ha => ?_)
         · replace h := itT hb h
           refine sg ha 2 [(0, vS (some ⟨b11, o8, none⟩) p0 c_p0), (5, vP b1), (7, vS (some ⟨b4, o2, none⟩) x1 c1), (8, vS A2 x2 c2), (9, vS A3 x3 c3), (10, vS A4 x4 c4), (11, vI x7), (12, vS A7 x8 c7), (13, vS A12 x13 c12), (14, vI (gt x1 x7)), (15, vI x12), (118, vB true), (119, vS (some ⟨b11, o8, none⟩) p0 c_p0), (120, vI (gt x1 x7))] w10 fun a ha => ?_
           obtain ⟨hi14, h⟩ := ite_some h
           obtain ⟨cs14, hr14, hc14⟩ := h_p0.rdb.at hi14
           obtain ⟨rfl, hl8⟩ := hr14
           refine ov (vE b11 o8 (gt x1 x7) 8) ha (obx w10 rfl rfl rfl Try.underlying22 rfl hi14) fun a ha => ?_
           refine sg ha 1 [(0, vS (some ⟨b11, o8, none⟩) p0 c_p0), (5, vP b1), (7, vS (some ⟨b4, o2, none⟩) x1 c1), (8, vS A2 x2 c2), (9, vS A3 x3 c3), (10, vS A4 x4 c4), (11, vI x7), (12, vS A7 x8 c7), (13, vS A12 x13 c12), (14, vI (gt x1 x7)), (15, vI x12), (118, vB true), (122, .pointer (some (((⟨b11, o8, none⟩ : Addr).add ((gt x1 x7).toNat * 8)).add 1)))] w10 fun a ha => ?_
           refine ov (vI ((gt p0 (gt x1 x7)).A)) ha (ob_load w10 rfl rfl Try.underlying3 rfl ((cell_add2 _ _ _ _ _).trans (hc14 1 _ rfl))) fun a ha => ?_
           refine sg ha 3 [(0, vS (some ⟨b11, o8, none⟩) p0 c_p0), (5, vP b1), (7, vS (some ⟨b4, o2, none⟩) x1 c1), (8, vS A2 x2 c2), (9, vS A3 x3 c3), (10, vS A4 x4 c4), (12, vS A7 x8 c7), (13, vS A12 x13 c12), (14, vI (gt x1 x7)), (15, vI x12), (126, vB (((gt p0 (gt x1 x7)).A) == x7))] w10 fun a ha => ?_
           obtain rfl := Option.some.inj h
           exact ⟨_, rfl, rfl, ha.to (by kernel_rfl)⟩
         · replace h := itF hb h
           refine sg ha 8 [(0, vS (some ⟨b11, o8, none⟩) p0 c_p0), (5, vP b1), (7, vS (some ⟨b4, o2, none⟩) x1 c1), (8, vS A2 x2 c2), (9, vS A3 x3 c3), (10, vS A4 x4 c4), (12, vS A7 x8 c7), (13, vS A12 x13 c12), (14, vI (gt x1 x7)), (15, vI x12), (126, vB false)] w10 fun a ha => ?_
           obtain rfl := Option.some.inj h
           exact ⟨_, rfl, rfl, ha.to (by kernel_rfl)⟩
       rintro a _ ⟨x22, rfl, rfl, ha⟩
       refine hK _ _ ?_
       clear hK
       refine cond_b ha rfl (fun hb => ?_) (fun hb => ?_)
       · replace h := itT hb h
         refine sq fun K hK => ?_
         refine sq fun K hK => ?_
         refine reg ?_
         refine sg ha 2 [(0, vS A_p0 p0 c_p0), (5, vP b1), (7, vS (some ⟨b4, o2, none⟩) x1 c1), (8, vS A2 x2 c2), (9, vS A3 x3 c3), (10, vS A4 x4 c4), (12, vS A7 x8 c7), (13, vS A12 x13 c12), (14, vI (gt x1 x7)), (15, vI x12), (127, vS A4 x4 c4), (128, vI x12)] w10 fun a ha => ?_
         obtain ⟨hi15, h⟩ := ite_some h
         obtain ⟨b12, o9, cs15, rfl, hr15, hc15⟩ := f5.rdb.get hi15
         obtain rfl := hr15
         refine ov (vE b12 o9 x12 1) ha (obx w10 rfl rfl rfl Try.underlying84 rfl hi15) fun a ha => ?_
         refine ov (vB (gt x4 x12)) ha (ob_load w10 rfl rfl Try.underlying4 rfl ((cell_add1 _ _ _ _).trans (hc15 0 _ rfl))) fun a ha => ?_
         refine sg ha 1 [(0, vS A_p0 p0 c_p0), (5, vP b1), (7, vS (some ⟨b4, o2, none⟩) x1 c1), (8, vS A2 x2 c2), (9, vS A3 x3 c3), (10, vS (some ⟨b12, o9, none⟩) x4 c4), (12, vS A7 x8 c7), (13, vS A12 x13 c12), (14, vI (gt x1 x7)), (15, vI x12), (131, vB (!(gt x4 x12)))] w10 fun a ha => ?_
         refine hK _ _ ?_
         clear hK
         refine cond_b ha rfl (fun hb => ?_) (fun hb => ?_)
         · replace h := itT hb h
           refine sq fun K hK => ?_
           refine reg ?_
           refine sg ha 3 [(4, vS A12 x13 c12), (5, vP b1), (133, .agg #[vI 0, vI 0, .slice none 0 0])] w10 fun a ha => ?_
           refine op_setAll (vs := [vI 0, vI 0, .slice none 0 0]) (v := .agg #[vI 0, vI 0, .slice none 0 0]) ha (by kernel_rfl) rfl rfl rfl rfl f9.1 (by kernel_rfl) (by kernel_rfl) ?_
           intro w20 on2 _ hk4 a ha
           replace cx := on2.cx cx f9.2.2
           have f30 : Mb (Wr nob w) w20.heap S4 b1 27 [vI 0, vI 0, .slice none 0 0] := ⟨hk4, f9.2⟩
           replace f16 := f16.only on2 f9.2.1 (Dis.ow_mb d3.symm)
           replace f8 := f8.keep (on2.keep f9.2.1)
           refine sg ha 1 [(4, vS A12 x13 c12), (5, vP b1), (6, vB false)] w20 fun a ha => ?_
           refine hK _ _ ?_
           clear hK
           refine wp_ret ?_
           obtain rfl := Option.some.inj h
           replace h := hq6
           obtain rfl := Option.some.inj h
           refine ⟨_, rfl, rfl, ?_⟩
           show bodyPost Try.prog Try.f50 (R50 w S _) .ret a w20
           exact ret_3 (r1 := .tmp 4) (v1 := vS A12 x13 c12) (r2 := .cell 5 27) (v2 := .agg #[vI 0, vI 0, .slice none 0 0]) (r3 := .tmp 6) (v3 := vB false) ha rfl (.inl rfl) rfl (RV.cell (cs := [vI 0, vI 0, .slice none 0 0]) rfl f30.1 Try.underlying27 rfl (by kernel_rfl)) rfl ⟨_, rfl, cx.below, ⟨_, _, _, rfl, ⟨_, _, rfl, f16.result cx.sub⟩, ⟨_, _, rfl, Sl.nil⟩, rfl⟩⟩
         · replace h := itF hb h
           refine wp_skip ?_
           refine hK _ _ ?_
           clear hK
           refine reg ?_
           refine sg ha 4 [(0, vS A_p0 p0 c_p0), (5, vP b1), (7, vS (some ⟨b4, o2, none⟩) x1 c1), (8, vS A2 x2 c2), (9, vS A3 x3 c3), (10, vS (some ⟨b12, o9, none⟩) x4 c4), (13, vS A12 x13 c12), (14, vI (gt x1 x7)), (134, vS A7 x8 c7), (135, vS A_p0 p0 c_p0), (136, vS (some ⟨b12, o9, none⟩) x4 c4), (137, vI x12)] w10 fun a ha => ?_
           obtain ⟨x23, hx8, h⟩ := obind h
           refine op_call ha (by kernel_rfl) (f := 82) (args := #[vS A_p0 p0 c_p0, vS (some ⟨b12, o9, none⟩) x4 c4, vI x12]) (w' := w10) (by kernel_rfl) (ok82 fuel fuel (p0 := p0) (p1 := x4) (p2 := x12) cx.lt h_p0 f5 hx8) ?_
           rintro v8 w21 ⟨hb11, hp9⟩ a ha
           obtain ⟨A24, c24, rfl, f31⟩ := hp9
           replace f31 := own_out cx f31
           replace h_p0 := h_p0.keep (Keep.ext S4 hb11)
           replace f9 := f9.ext hb11
           replace f8 := f8.keep (Keep.ext S4 hb11)
           replace f2 := f2.keep (Keep.ext S4 hb11)
           replace f3 := f3.keep (Keep.ext S4 hb11)
           replace f4 := f4.keep (Keep.ext S4 hb11)
           replace f5 := f5.keep (Keep.ext S4 hb11)
           replace f16 := f16.ext hb11
           replace f10 := f10.keep (Keep.ext S4 hb11)
           replace cx := cx.ext hb11
           obtain ⟨x24, hx9, h⟩ := obind h
           refine op_call ha (by kernel_rfl) (f := 85) (args := #[vS A7 x8 c7, vS A24 x23 c24]) (w' := w21) (by kernel_rfl) (ok85 fuel (p0 := x8) (p1 := x23) cx.lt f10 f31 hx9) ?_
           rintro v9 w22 ⟨hb12, hp10⟩ a ha
           obtain ⟨A25, c25, rfl, f32⟩ := hp10
           replace f32 := own_out cx f32
           replace h_p0 := h_p0.keep (Keep.ext S4 hb12)
           replace f9 := f9.ext hb12
           replace f8 := f8.keep (Keep.ext S4 hb12)
           replace f2 := f2.keep (Keep.ext S4 hb12)
           replace f3 := f3.keep (Keep.ext S4 hb12)
           replace f4 := f4.keep (Keep.ext S4 hb12)
           replace f5 := f5.keep (Keep.ext S4 hb12)
           replace f16 := f16.ext hb12
           replace cx := cx.ext hb12
           refine sg ha 1 [(0, vS A_p0 p0 c_p0), (5, vP b1), (7, vS (some ⟨b4, o2, none⟩) x1 c1), (8, vS A2 x2 c2), (9, vS A3 x3 c3), (10, vS (some ⟨b12, o9, none⟩) x4 c4), (12, vS A25 x24 c25), (13, vS A12 x13 c12), (14, vI (gt x1 x7))] w22 fun a ha => ?_
           obtain rfl := Option.some.inj h
           exact ⟨_, _, A25, c25, rfl, cx, h_p0, f9, f8, f2, f3, f4, f5, f32, f16, d3, ha.to (by kernel_rfl)⟩
       · replace h := itF hb h
         refine wp_skip ?_
         obtain rfl := Option.some.inj h
         exact ⟨_, _, A7, c7, rfl, cx, h_p0, f9, f8, f2, f3, f4, f5, f10, f16, d3, ha.to (by kernel_rfl)⟩
     rintro a w19 ⟨x21, S10, A23, c23, rfl, cx, h_p0, f9, f8, f2, f3, f4, f5, f29, f16, d17, ha⟩
     refine hK _ _ ?_
     clear hK
     refine sq fun K hK => ?_
     refine reg ?_
     refine sg ha 4 [(0, vS A_p0 p0 c_p0), (5, vP b1), (7, vS (some ⟨b4, o2, none⟩) x1 c1), (8, vS A2 x2 c2), (9, vS A3 x3 c3), (10, vS A4 x4 c4), (13, vS A12 x13 c12), (14, vI (gt x1 x7)), (140, vS A23 x21 c23), (143, vI (W ((W (2 * (gt x1 x7))) + 1)))] w19 fun a ha => ?_
     refine op_new (V := fun b => .slice (some ⟨b, 0, none⟩) 1 1) (cs := [vI (W ((W (2 * (gt x1 x7))) + 1))]) (T := 3) ha (by kernel_rfl) (by kernel_rfl) ?_
     intro w23 b13 hb13 hk5 he4 _ a ha
     have f33 := lit_ow (T := (tInt .i64)) (xs := [(W ((W (2 * (gt x1 x7))) + 1))]) (m := 1) cx hb13 hk5 he4 rfl (by kernel_rfl) (Els.one (T := (tInt .i64)) (x := (W ((W (2 * (gt x1 x7))) + 1))) rfl)
     replace f33 := own_out cx f33
     replace h_p0 := h_p0.keep (Keep.ext S10 hb13)
     replace f9 := f9.ext hb13
     replace f8 := f8.keep (Keep.ext S10 hb13)
     replace f2 := f2.keep (Keep.ext S10 hb13)
     replace f3 := f3.keep (Keep.ext S10 hb13)
     replace f4 := f4.keep (Keep.ext S10 hb13)
     replace f5 := f5.keep (Keep.ext S10 hb13)
     replace f16 := f16.ext hb13
     replace f29 := f29.keep (Keep.ext S10 hb13)
     replace cx := cx.ext hb13
     obtain ⟨x25, hx10, h⟩ := obind h
     refine op_call ha (by kernel_rfl) (f := 85) (args := #[vS A23 x21 c23, .slice (some ⟨b13, 0, none⟩) 1 1]) (w' := w23) (by kernel_rfl) (ok85 fuel (p0 := x21) (p1 := [(W ((W (2 * (gt x1 x7))) + 1))]) cx.lt f29 f33 hx10) ?_
     rintro v10 w24 ⟨hb14, hp11⟩ a ha
     obtain ⟨A26, c26, rfl, f34⟩ := hp11
     replace f34 := own_out cx f34
     replace h_p0 := h_p0.keep (Keep.ext S10 hb14)
     replace f9 := f9.ext hb14
     replace f8 := f8.keep (Keep.ext S10 hb14)
     replace f2 := f2.keep (Keep.ext S10 hb14)
     replace f3 := f3.keep (Keep.ext S10 hb14)
     replace f4 := f4.keep (Keep.ext S10 hb14)
     replace f5 := f5.keep (Keep.ext S10 hb14)
     replace f16 := f16.ext hb14
     replace cx := cx.ext hb14
     refine sg ha 1 [(0, vS A_p0 p0 c_p0), (5, vP b1), (7, vS (some ⟨b4, o2, none⟩) x1 c1), (8, vS A2 x2 c2), (9, vS A3 x3 c3), (10, vS A4 x4 c4), (12, vS A26 x25 c26), (13, vS A12 x13 c12), (14, vI (gt x1 x7))] w24 fun a ha => ?_
     refine hK _ _ ?_
     clear hK
     refine reg ?_
     refine sg ha 2 [(0, vS A_p0 p0 c_p0), (5, vP b1), (7, vS (some ⟨b4, o2, none⟩) x1 c1), (8, vS A2 x2 c2), (9, vS A3 x3 c3), (10, vS A4 x4 c4), (11, vI (gt x1 x7)), (12, vS A26 x25 c26), (13, vS A12 x13 c12)] w24 fun a ha => ?_
     obtain rfl := Option.some.inj h
     exact ⟨_, rfl, S10, A6, c6, A26, c26, A12, c12, cx, h_p0, f9, f8, f2, f3, f4, f5, f34, f16, d17, ha.to (by kernel_rfl)⟩
   · replace h := itF hb h
     refine wp_exit ?_
     obtain rfl := Option.some.inj h
     exact ⟨_, rfl, rfl, S2, A6, c6, A7, c7, A8, c8, cx, f9, f8, f10, f11, d1, ha.to (by kernel_rfl)⟩
 · exact ⟨S1, none, 0, (some ⟨b3, 0, none⟩), 1, none, 0, cx, h_p0, f1, Sl.nil, f2, f3, f4, f5, f7, Ow.nil, Dis.nil, ha.to (by kernel_rfl)⟩
 intro e a w9 hd
 cases t1 with
 | inr r1 =>
  obtain ⟨rfl, hd⟩ := hd
  obtain rfl := Option.some.inj h
  exact hd
 | inl oo1 =>
  obtain ⟨y1, y2, y3⟩ := oo1
  obtain ⟨rfl, S3, A9, c9, A10, c10, A11, c11, cx, f13, f12, f14, f15, d2, ha⟩ := hd
  refine hK _ _ ?_
  clear hK
  refine sq fun K hK => ?_
  refine reg ?_
  refine sg ha 4 [(4, vS A11 y3 c11), (5, vP b1), (149, .agg #[vI (-1), vI 0, vS A10 y2 c10])] w9 fun a ha => ?_
  refine op_setAll (vs := [vI (-1), vI 0, vS A10 y2 c10]) (v := .agg #[vI (-1), vI 0, vS A10 y2 c10]) ha (by kernel_rfl) rfl rfl rfl rfl f13.1 (by kernel_rfl) (by kernel_rfl) ?_
  intro w25 on3 _ hk6 a ha
  replace cx := on3.cx cx f13.2.2
  have f35 : Mb (Wr nob w) w25.heap S3 b1 27 [vI (-1), vI 0, vS A10 y2 c10] := ⟨hk6, f13.2⟩
  replace f15 := f15.only on3 f13.2.1 (Dis.ow_mb d2.symm)
  replace f12 := f12.keep (on3.keep f13.2.1)
  replace f14 := f14.keep (on3.keep f13.2.1)
  refine sg ha 1 [(4, vS A11 y3 c11), (5, vP b1), (6, vB true)] w25 fun a ha => ?_
  refine hK _ _ ?_
  clear hK
  refine wp_ret ?_
  obtain rfl := Option.some.inj h
  show bodyPost Try.prog Try.f50 (R50 w S _) .ret a w25
  exact ret_3 (r1 := .tmp 4) (v1 := vS A11 y3 c11) (r2 := .cell 5 27) (v2 := .agg #[vI (-1), vI 0, vS A10 y2 c10]) (r3 := .tmp 6) (v3 := vB true) ha rfl (.inl rfl) rfl (RV.cell (cs := [vI (-1), vI 0, vS A10 y2 c10]) rfl f35.1 Try.underlying27 rfl (by kernel_rfl)) rfl ⟨_, rfl, cx.below, ⟨_, _, _, rfl, ⟨_, _, rfl, f15.result cx.sub⟩, ⟨_, _, rfl, f14.keep (Keep.less cx.sub)⟩, rfl⟩⟩
def post15 (w : World) (S : Off) (r : (MHop × Bool)) (v : Value) (w1 : World) : Prop := ∃ v0 : Value, ∃ v1 : Value, v = .tuple #[v0, v1] ∧ (∃ (A2 : Option Addr) (c2 : Nat), v0 = .agg #[.int .i64 r.1.To, .int .i64 r.1.Turn, .slice A2 r.1.Steps.length c2] ∧ Sl (tInt .i64) w1.heap S A2 c2 r.1.Steps) ∧ (v1 = .bool r.2)
abbrev R15 (w : World) (S : Off) (r : (MHop × Bool)) : Ending → World → Prop := fun e w1 => ∃ v, e = .returned v ∧ Below w.heap.size w w1 ∧ post15 w S r v w1
theorem ok15 (fuel : Nat) {w : World} {S : Off} (hS : ∀ b, S b → b < w.heap.size) {p0 : (List MTerm)} {p1 : Int} {A_p0 : Option Addr} {c_p0 : Nat} (h_p0 : Sl tTerm w.heap S A_p0 c_p0 p0) {r : (MHop × Bool)} (h : m_ref17_End fuel p0 p1 = some r) :
 Calls Try.prog 15 #[vS A_p0 p0 c_p0, vI p1] w (R15 w S r) := by
 refine enterL (vs := [vS A_p0 p0 c_p0, vI p1]) Try.func15 rfl rfl ?_
 intro a ha
 have cx := Cx.start (W0 := nob) hS
 refine with_nop (noP_body _ _) (fun hq => ?_)
 unfold m_ref17_End at h
 refine sq fun K hK => ?_
 refine reg ?_
 refine op_new (V := fun b => vP b) (cs := [vI 0, vI 0, .slice none 0 0]) (T := 27) ha (by kernel_rfl) (by kernel_rfl) ?_
 intro w1 b1 hb1 hk1 he1 _ a ha
 obtain ⟨S1, cx, kp1, hs1, f1⟩ := box_own cx hb1 hk1 he1
 replace h_p0 := h_p0.keep kp1
 refine sg ha 1 [(0, vS A_p0 p0 c_p0), (1, vI p1), (4, vP b1)] w1 fun a ha => ?_
 refine hK _ _ ?_
 clear hK
 refine sq fun K hK => ?_
 refine sq fun K hK => ?_
 obtain ⟨q1, hj1, h⟩ := obind h
 refine wp_cutV (D := fun a w2 => ∃ x1 : Bool, ∃ (S2 : Off), x1 = q1 ∧ Cx w nob S w2 S2 ∧ Sl tTerm w2.heap S2 A_p0 c_p0 p0 ∧ Mb (Wr nob w) w2.heap S2 b1 27 [vI 0, vI 0, .slice none 0 0] ∧ Ag 47 [(0, vS A_p0 p0 c_p0), (1, vI p1), (4, vP b1), (23, vB x1)] a) ?_ ?_
 · clear h; have h := hj1
   refine reg ?_
   refine sg ha 3 [(0, vS A_p0 p0 c_p0), (1, vI p1), (4, vP b1), (12, vB (decide (p1 < (-1))))] w1 fun a ha => ?_
   refine split_b (t := 12) ha rfl (fun hb ha => ?_) (fun hb ha => ?_)
   · replace h := itT hb h
     refine sg ha 11 [(0, vS A_p0 p0 c_p0), (1, vI p1), (4, vP b1), (23, vB true)] w1 fun a ha => ?_
     obtain rfl := Option.some.inj h
     exact ⟨_, _, rfl, cx, h_p0, f1, ha.to (by kernel_rfl)⟩
   · replace h := itF hb h
     refine sg ha 1 [(0, vS A_p0 p0 c_p0), (1, vI p1), (4, vP b1), (12, vB false), (13, vS A_p0 p0 c_p0)] w1 fun a ha => ?_
     obtain ⟨x2, hx1, h⟩ := obind h
     refine op_call ha (by kernel_rfl) (f := 12) (args := #[vS A_p0 p0 c_p0]) (w' := w1) (by kernel_rfl) (ok12 fuel (p0 := p0) cx.lt h_p0 hx1) ?_
     rintro v1 w3 ⟨hb2, hp1⟩ a ha
     obtain rfl := hp1
     replace h_p0 := h_p0.keep (Keep.ext S1 hb2)
     replace f1 := f1.ext hb2
     replace cx := cx.ext hb2
     refine sg ha 3 [(0, vS A_p0 p0 c_p0), (1, vI p1), (4, vP b1), (17, vB (!x2))] w3 fun a ha => ?_
     refine split_b (t := 17) ha rfl (fun hb ha => ?_) (fun hb ha => ?_)
     · replace h := itT hb h
       refine sg ha 6 [(0, vS A_p0 p0 c_p0), (1, vI p1), (4, vP b1), (23, vB true)] w3 fun a ha => ?_
       obtain rfl := Option.some.inj h
       exact ⟨_, _, rfl, cx, h_p0, f1, ha.to (by kernel_rfl)⟩
     · replace h := itF hb h
       refine sg ha 2 [(0, vS A_p0 p0 c_p0), (1, vI p1), (4, vP b1), (17, vB false), (18, vI p1), (19, vS A_p0 p0 c_p0)] w3 fun a ha => ?_
       obtain ⟨x3, hx2, h⟩ := obind h
       refine op_call ha (by kernel_rfl) (f := 22) (args := #[vS A_p0 p0 c_p0]) (w' := w3) (by kernel_rfl) (ok22 fuel (p0 := p0) cx.lt h_p0 hx2) ?_
       rintro v2 w4 ⟨hb3, hp2⟩ a ha
       obtain ⟨A1, c1, rfl, f2⟩ := hp2
       replace f2 := own_out cx f2
       replace h_p0 := h_p0.keep (Keep.ext S1 hb3)
       replace f1 := f1.ext hb3
       replace cx := cx.ext hb3
       refine sg ha 3 [(0, vS A_p0 p0 c_p0), (1, vI p1), (4, vP b1), (23, vB (decide (p1 ≥ (x3.length : Int))))] w4 fun a ha => ?_
       obtain rfl := Option.some.inj h
       exact ⟨_, _, rfl, cx, h_p0, f1, ha.to (by kernel_rfl)⟩
 rintro a w2 ⟨x1, S2, rfl, cx, h_p0, f1, ha⟩
 refine hK _ _ ?_
 clear hK
 refine cond_b ha rfl (fun hb => ?_) (fun hb => ?_)
 · replace h := itT hb h
   refine sq fun K hK => ?_
   refine reg ?_
   refine sg ha 1 [(4, vP b1), (24, .agg #[vI 0, vI 0, .slice none 0 0])] w2 fun a ha => ?_
   refine op_setAll (vs := [vI 0, vI 0, .slice none 0 0]) (v := .agg #[vI 0, vI 0, .slice none 0 0]) ha (by kernel_rfl) rfl rfl rfl rfl f1.1 (by kernel_rfl) (by kernel_rfl) ?_
   intro w5 on1 _ hk2 a ha
   replace cx := on1.cx cx f1.2.2
   have f3 : Mb (Wr nob w) w5.heap S2 b1 27 [vI 0, vI 0, .slice none 0 0] := ⟨hk2, f1.2⟩
   refine sg ha 1 [(4, vP b1), (5, vB false)] w5 fun a ha => ?_
   refine hK _ _ ?_
   clear hK
   refine wp_ret ?_
   obtain rfl := Option.some.inj h
   show bodyPost Try.prog Try.f15 (R15 w S _) .ret a w5
   exact ret_2 (r1 := .cell 4 27) (v1 := .agg #[vI 0, vI 0, .slice none 0 0]) (r2 := .tmp 5) (v2 := vB false) ha rfl (.inl rfl) (RV.cell (cs := [vI 0, vI 0, .slice none 0 0]) rfl f3.1 Try.underlying27 rfl (by kernel_rfl)) rfl ⟨_, rfl, cx.below, ⟨_, _, rfl, ⟨_, _, rfl, Sl.nil⟩, rfl⟩⟩
 · replace h := itF hb h
   refine wp_skip ?_
   refine hK _ _ ?_
   clear hK
   refine sq fun K hK => ?_
   refine sq fun K hK => ?_
   refine reg ?_
   refine sg ha 2 [(0, vS A_p0 p0 c_p0), (1, vI p1), (4, vP b1), (26, vB (p1 == (-1)))] w2 fun a ha => ?_
   refine hK _ _ ?_
   clear hK
   refine cond_b ha rfl (fun hb => ?_) (fun hb => ?_)
   · replace h := itT hb h
     refine sq fun K hK => ?_
     refine reg ?_
     refine sg ha 4 [(4, vP b1), (27, vS A_p0 p0 c_p0), (30, vI (W ((p0.length : Int) - 1)))] w2 fun a ha => ?_
     obtain ⟨x4, hx3, h⟩ := obind h
     refine op_call ha (by kernel_rfl) (f := 49) (args := #[vS A_p0 p0 c_p0, vI (W ((p0.length : Int) - 1))]) (w' := w2) (by kernel_rfl) (ok49 fuel (p0 := p0) (p1 := (W ((p0.length : Int) - 1))) cx.lt h_p0 hx3) ?_
     rintro v3 w6 ⟨hb4, hp3⟩ a ha
     obtain ⟨A2, c2, rfl, f4⟩ := hp3
     replace f4 := own_out cx f4
     replace f1 := f1.ext hb4
     replace cx := cx.ext hb4
     refine sg ha 1 [(4, vP b1), (6, vS A2 x4 c2)] w6 fun a ha => ?_
     refine hK _ _ ?_
     clear hK
     refine sq fun K hK => ?_
     refine sq fun K hK => ?_
     refine reg ?_
     refine sg ha 3 [(4, vP b1), (6, vS A2 x4 c2), (34, vB ((x4.length : Int) == 0))] w6 fun a ha => ?_
     refine hK _ _ ?_
     clear hK
     refine cond_b ha rfl (fun hb => ?_) (fun hb => ?_)
     · replace h := itT hb h
       refine sq fun K hK => ?_
       refine reg ?_
       refine sg ha 1 [(4, vP b1), (35, .agg #[vI 0, vI 0, .slice none 0 0])] w6 fun a ha => ?_
       refine op_setAll (vs := [vI 0, vI 0, .slice none 0 0]) (v := .agg #[vI 0, vI 0, .slice none 0 0]) ha (by kernel_rfl) rfl rfl rfl rfl f1.1 (by kernel_rfl) (by kernel_rfl) ?_
       intro w7 on2 _ hk3 a ha
       replace cx := on2.cx cx f1.2.2
       have f5 : Mb (Wr nob w) w7.heap S2 b1 27 [vI 0, vI 0, .slice none 0 0] := ⟨hk3, f1.2⟩
       refine sg ha 1 [(4, vP b1), (5, vB false)] w7 fun a ha => ?_
       refine hK _ _ ?_
       clear hK
       refine wp_ret ?_
       obtain rfl := Option.some.inj h
       show bodyPost Try.prog Try.f15 (R15 w S _) .ret a w7
       exact ret_2 (r1 := .cell 4 27) (v1 := .agg #[vI 0, vI 0, .slice none 0 0]) (r2 := .tmp 5) (v2 := vB false) ha rfl (.inl rfl) (RV.cell (cs := [vI 0, vI 0, .slice none 0 0]) rfl f5.1 Try.underlying27 rfl (by kernel_rfl)) rfl ⟨_, rfl, cx.below, ⟨_, _, rfl, ⟨_, _, rfl, Sl.nil⟩, rfl⟩⟩
     · replace h := itF hb h
       refine wp_skip ?_
       refine hK _ _ ?_
       clear hK
       refine sq fun K hK => ?_
       refine reg ?_
       refine sg ha 2 [(4, vP b1), (37, .agg #[vI (-1), vI 0, vS A2 x4 c2])] w6 fun a ha => ?_
       refine op_setAll (vs := [vI (-1), vI 0, vS A2 x4 c2]) (v := .agg #[vI (-1), vI 0, vS A2 x4 c2]) ha (by kernel_rfl) rfl rfl rfl rfl f1.1 (by kernel_rfl) (by kernel_rfl) ?_
       intro w8 on3 _ hk4 a ha
       replace cx := on3.cx cx f1.2.2
       have f6 : Mb (Wr nob w) w8.heap S2 b1 27 [vI (-1), vI 0, vS A2 x4 c2] := ⟨hk4, f1.2⟩
       replace f4 := f4.keep (on3.keep f1.2.1)
       refine sg ha 1 [(4, vP b1), (5, vB true)] w8 fun a ha => ?_
       refine hK _ _ ?_
       clear hK
       refine wp_ret ?_
       obtain rfl := Option.some.inj h
       show bodyPost Try.prog Try.f15 (R15 w S _) .ret a w8
       exact ret_2 (r1 := .cell 4 27) (v1 := .agg #[vI (-1), vI 0, vS A2 x4 c2]) (r2 := .tmp 5) (v2 := vB true) ha rfl (.inl rfl) (RV.cell (cs := [vI (-1), vI 0, vS A2 x4 c2]) rfl f6.1 Try.underlying27 rfl (by kernel_rfl)) rfl ⟨_, rfl, cx.below, ⟨_, _, rfl, ⟨_, _, rfl, f4.keep (Keep.less cx.sub)⟩, rfl⟩⟩
   · replace h := itF hb h
     refine wp_skip ?_
     refine hK _ _ ?_
     clear hK
     refine sq fun K hK => ?_
     refine reg ?_
     refine sg ha 2 [(4, vP b1), (39, vS A_p0 p0 c_p0), (40, vI p1)] w2 fun a ha => ?_
     obtain ⟨x5, hx4, h⟩ := obind h
     refine op_call ha (by kernel_rfl) (f := 50) (args := #[vS A_p0 p0 c_p0, vI p1]) (w' := w2) (by kernel_rfl) (ok50 fuel (p0 := p0) (p1 := p1) cx.lt h_p0 hx4) ?_
     rintro v4 w9 ⟨hb5, hp4⟩ a ha
     obtain ⟨_, _, _, rfl, ⟨A3, c3, rfl, f7⟩, ⟨A4, c4, rfl, f8⟩, rfl⟩ := hp4
     replace f7 := own_out cx f7
     replace f1 := f1.ext hb5
     replace cx := cx.ext hb5
     refine sg ha 4 [(4, vP b1), (42, vS A3 x5.1 c3), (43, .agg #[vI x5.2.1.To, vI x5.2.1.Turn, vS A4 x5.2.1.Steps c4]), (44, vB x5.2.2)] w9 fun a ha => ?_
     refine op_new (V := fun b => vP b) (cs := [vI 0, vI 0, .slice none 0 0]) (T := 27) ha (by kernel_rfl) (by kernel_rfl) ?_
     intro w10 b2 hb6 hk5 he2 _ a ha
     refine sg ha 1 [(4, vP b1), (8, vP b2), (43, .agg #[vI x5.2.1.To, vI x5.2.1.Turn, vS A4 x5.2.1.Steps c4]), (44, vB x5.2.2)] w10 fun a ha => ?_
     refine op_setAll (vs := [vI x5.2.1.To, vI x5.2.1.Turn, vS A4 x5.2.1.Steps c4]) (v := .agg #[vI x5.2.1.To, vI x5.2.1.Turn, vS A4 x5.2.1.Steps c4]) ha (by kernel_rfl) rfl rfl rfl rfl hk5 (by kernel_rfl) (by kernel_rfl) ?_
     intro w11 on4 _ hk6 a ha
     have hb7 := var_done hb6 on4 he2
     have f9 := Bx.new cx hk6 he2
     replace f1 := f1.ext hb7
     replace f8 := f8.keep (Keep.ext S2 hb7)
     replace cx := cx.ext hb7
     refine sg ha 1 [(4, vP b1), (8, vP b2), (9, vB x5.2.2)] w11 fun a ha => ?_
     refine hK _ _ ?_
     clear hK
     refine sq fun K hK => ?_
     refine reg ?_
     refine ov (.agg #[.int .i64 x5.2.1.To, .int .i64 x5.2.1.Turn, .slice A4 x5.2.1.Steps.length c4]) ha (ob_loadn (cs := [.int .i64 x5.2.1.To, .int .i64 x5.2.1.Turn, .slice A4 x5.2.1.Steps.length c4]) w11 rfl rfl Try.underlying27 rfl (by kernel_rfl) (fun j v hj => (cell_add1 _ _ _ _).trans (by rw [Nat.zero_add]; exact f9.cell j v hj))) fun a ha => ?_
     refine sg ha 1 [(4, vP b1), (45, .agg #[vI x5.2.1.To, vI x5.2.1.Turn, vS A4 x5.2.1.Steps c4]), (46, vB x5.2.2)] w11 fun a ha => ?_
     refine op_setAll (vs := [vI x5.2.1.To, vI x5.2.1.Turn, vS A4 x5.2.1.Steps c4]) (v := .agg #[vI x5.2.1.To, vI x5.2.1.Turn, vS A4 x5.2.1.Steps c4]) ha (by kernel_rfl) rfl rfl rfl rfl f1.1 (by kernel_rfl) (by kernel_rfl) ?_
     intro w12 on5 _ hk7 a ha
     replace cx := on5.cx cx f1.2.2
     have f10 : Mb (Wr nob w) w12.heap S2 b1 27 [vI x5.2.1.To, vI x5.2.1.Turn, vS A4 x5.2.1.Steps c4] := ⟨hk7, f1.2⟩
     replace f8 := f8.keep (on5.keep f1.2.1)
     refine sg ha 1 [(4, vP b1), (5, vB x5.2.2)] w12 fun a ha => ?_
     refine hK _ _ ?_
     clear hK
     refine wp_ret ?_
     obtain rfl := Option.some.inj h
     show bodyPost Try.prog Try.f15 (R15 w S _) .ret a w12
     exact ret_2 (r1 := .cell 4 27) (v1 := .agg #[vI x5.2.1.To, vI x5.2.1.Turn, vS A4 x5.2.1.Steps c4]) (r2 := .tmp 5) (v2 := vB x5.2.2) ha rfl (.inl rfl) (RV.cell (cs := [vI x5.2.1.To, vI x5.2.1.Turn, vS A4 x5.2.1.Steps c4]) rfl f10.1 Try.underlying27 rfl (by kernel_rfl)) rfl ⟨_, rfl, cx.below, ⟨_, _, rfl, ⟨_, _, rfl, f8.keep (Keep.less cx.sub)⟩, rfl⟩⟩
end Go.Proofs.Ytfhehbfifffipaa
