/- What the functions compute is what the program does. Its conditions: none. -/
import Derived.Test.YtfhehbfifffipaaVShort
import Derived.Test.YtfhehbfifffipaaTy
import Derived.Test.YtfhehbfifffipaaWae
import Derived.Test.YtfhehbfifffipaaWag
import Derived.Test.YtfhehbfifffipaaWah
import Derived.Test.YtfhehbfifffipaaWan
import Derived.Test.YtfhehbfifffipaaWao
set_option maxRecDepth 20000
set_option autoImplicit false
namespace Go.Proofs.Ytfhehbfifffipaa
open Go.V Go.RowKit
set_option linter.unusedVariables false
def post18 (w : World) (S : Off) (r : ((List MHop))) (v : Value) (w1 : World) : Prop := ∃ (A : Option Addr) (c : Nat), v = .slice A r.length c ∧ Ow tHop 27 (Wr nob w) w1.heap (inV v S) v r
abbrev R18 (w : World) (S : Off) (r : ((List MHop))) : Ending → World → Prop := fun e w1 => ∃ v, e = .returned v ∧ Below w.heap.size w w1 ∧ post18 w S r v w1
theorem ok18 (fuel : Nat) {w : World} {S : Off} (hS : ∀ b, S b → b < w.heap.size) {p0 : (List MTerm)} {p1 : Int} {A_p0 : Option Addr} {c_p0 : Nat} (h_p0 : Sl tTerm w.heap S A_p0 c_p0 p0) {r : ((List MHop))} (h : m_ref17_First fuel p0 p1 = some r) :
 Calls Try.prog 18 #[vS A_p0 p0 c_p0, vI p1] w (R18 w S r) := by
 refine enterL (vs := [vS A_p0 p0 c_p0, vI p1]) Try.func18 rfl rfl ?_
 intro a ha
 have cx := Cx.start (W0 := nob) hS
 refine with_nop (noP_body _ _) (fun hq => ?_)
 unfold m_ref17_First at h
 refine sq fun K hK => ?_
 refine reg ?_
 refine sg ha 1 [(0, vS A_p0 p0 c_p0), (1, vI p1)] w fun a ha => ?_
 refine hK _ _ ?_
 clear hK
 refine sq fun K hK => ?_
 refine sq fun K hK => ?_
 obtain ⟨q1, hj1, h⟩ := obind h
 refine wp_cutV (D := fun a w1 => ∃ x1 : Bool, ∃ (S1 : Off), x1 = q1 ∧ Cx w nob S w1 S1 ∧ Sl tTerm w1.heap S1 A_p0 c_p0 p0 ∧ Ag 25 [(0, vS A_p0 p0 c_p0), (1, vI p1), (17, vB x1)] a) ?_ ?_
 · clear h; have h := hj1
   refine reg ?_
   refine sg ha 1 [(0, vS A_p0 p0 c_p0), (1, vI p1), (5, vS A_p0 p0 c_p0)] w fun a ha => ?_
   obtain ⟨x2, hx1, h⟩ := obind h
   refine op_call ha (by kernel_rfl) (f := 12) (args := #[vS A_p0 p0 c_p0]) (w' := w) (by kernel_rfl) (ok12 fuel (p0 := p0) cx.lt h_p0 hx1) ?_
   rintro v1 w2 ⟨hb1, hp1⟩ a ha
   obtain rfl := hp1
   replace h_p0 := h_p0.keep (Keep.ext S hb1)
   replace cx := cx.ext hb1
   refine sg ha 2 [(0, vS A_p0 p0 c_p0), (1, vI p1), (8, vB (!x2))] w2 fun a ha => ?_
   refine split_b (t := 8) ha rfl (fun hb ha => ?_) (fun hb ha => ?_)
   · replace h := itT hb h
     refine sg ha 9 [(0, vS A_p0 p0 c_p0), (1, vI p1), (17, vB true)] w2 fun a ha => ?_
     obtain rfl := Option.some.inj h
     exact ⟨_, _, rfl, cx, h_p0, ha.to (by kernel_rfl)⟩
   · replace h := itF hb h
     refine sg ha 4 [(0, vS A_p0 p0 c_p0), (1, vI p1), (12, vB (decide (p1 < 0)))] w2 fun a ha => ?_
     refine split_b (t := 12) ha rfl (fun hb ha => ?_) (fun hb ha => ?_)
     · replace h := itT hb h
       refine sg ha 5 [(0, vS A_p0 p0 c_p0), (1, vI p1), (17, vB true)] w2 fun a ha => ?_
       obtain rfl := Option.some.inj h
       exact ⟨_, _, rfl, cx, h_p0, ha.to (by kernel_rfl)⟩
     · replace h := itF hb h
       refine sg ha 5 [(0, vS A_p0 p0 c_p0), (1, vI p1), (17, vB (decide (p1 ≥ (p0.length : Int))))] w2 fun a ha => ?_
       obtain rfl := Option.some.inj h
       exact ⟨_, _, rfl, cx, h_p0, ha.to (by kernel_rfl)⟩
 rintro a w1 ⟨x1, S1, rfl, cx, h_p0, ha⟩
 refine hK _ _ ?_
 clear hK
 refine cond_b ha rfl (fun hb => ?_) (fun hb => ?_)
 · replace h := itT hb h
   refine sq fun K hK => ?_
   refine reg ?_
   refine sg ha 1 [(4, .slice none 0 0)] w1 fun a ha => ?_
   refine hK _ _ ?_
   clear hK
   refine wp_ret ?_
   obtain rfl := Option.some.inj h
   show bodyPost Try.prog Try.f18 (R18 w S _) .ret a w1
   exact ret_1 (r1 := .tmp 4) (v1 := .slice none 0 0) ha rfl (.inl rfl) rfl ⟨_, rfl, cx.below, ⟨_, _, rfl, Ow.nil⟩⟩
 · replace h := itF hb h
   refine wp_skip ?_
   refine hK _ _ ?_
   clear hK
   refine sq fun K hK => ?_
   refine reg ?_
   refine sg ha 2 [(0, vS A_p0 p0 c_p0), (1, vI p1), (18, vS A_p0 p0 c_p0), (19, vS A_p0 p0 c_p0)] w1 fun a ha => ?_
   obtain ⟨x3, hx2, h⟩ := obind h
   refine op_call ha (by kernel_rfl) (f := 25) (args := #[vS A_p0 p0 c_p0]) (w' := w1) (by kernel_rfl) (ok25 fuel (p0 := p0) cx.lt h_p0 hx2) ?_
   rintro v2 w3 ⟨hb2, hp2⟩ a ha
   obtain ⟨A1, c1, rfl, f1⟩ := hp2
   replace f1 := own_out cx f1
   replace h_p0 := h_p0.keep (Keep.ext S1 hb2)
   replace cx := cx.ext hb2
   refine sg ha 1 [(1, vI p1), (18, vS A_p0 p0 c_p0), (20, vS A1 x3 c1), (21, vS A_p0 p0 c_p0)] w3 fun a ha => ?_
   obtain ⟨x4, hx3, h⟩ := obind h
   refine op_call ha (by kernel_rfl) (f := 55) (args := #[vS A_p0 p0 c_p0]) (w' := w3) (by kernel_rfl) (ok55 fuel (p0 := p0) cx.lt h_p0 hx3) ?_
   rintro v3 w4 ⟨hb3, hp3⟩ a ha
   obtain ⟨A2, c2, rfl, f2⟩ := hp3
   replace f2 := own_out cx f2
   replace h_p0 := h_p0.keep (Keep.ext S1 hb3)
   replace f1 := f1.keep (Keep.ext S1 hb3)
   replace cx := cx.ext hb3
   refine sg ha 1 [(18, vS A_p0 p0 c_p0), (20, vS A1 x3 c1), (22, vS A2 x4 c2), (23, vI p1)] w4 fun a ha => ?_
   obtain ⟨x5, hx4, h⟩ := obind h
   refine op_call ha (by kernel_rfl) (f := 54) (args := #[vS A_p0 p0 c_p0, vS A1 x3 c1, vS A2 x4 c2, vI p1, .slice none 0 0]) (w' := w4) (by kernel_rfl) (ok54 fuel fuel (p0 := p0) (p1 := x3) (p2 := x4) (p3 := p1) (p4 := ([] : List Int)) cx.lt h_p0 f1 f2 Sl.nil hx4) ?_
   rintro v4 w5 ⟨hb4, hp4⟩ a ha
   obtain ⟨A3, c3, rfl, f3⟩ := hp4
   obtain ⟨S2, cx, kp1, hs1, hn1, f3⟩ := own_in cx hb4 f3
   refine sg ha 1 [(4, vS A3 x5 c3)] w5 fun a ha => ?_
   refine hK _ _ ?_
   clear hK
   refine wp_ret ?_
   obtain rfl := Option.some.inj h
   show bodyPost Try.prog Try.f18 (R18 w S _) .ret a w5
   exact ret_1 (r1 := .tmp 4) (v1 := vS A3 x5 c3) ha rfl (.inl rfl) rfl ⟨_, rfl, cx.below, ⟨_, _, rfl, f3.result cx.sub⟩⟩
def post20 (w : World) (S : Off) (r : ((List MHop))) (v : Value) (w1 : World) : Prop := ∃ (A : Option Addr) (c : Nat), v = .slice A r.length c ∧ Ow tHop 27 (Wr nob w) w1.heap (inV v S) v r
abbrev R20 (w : World) (S : Off) (r : ((List MHop))) : Ending → World → Prop := fun e w1 => ∃ v, e = .returned v ∧ Below w.heap.size w w1 ∧ post20 w S r v w1
theorem ok20 (fuel : Nat) {w : World} {S : Off} (hS : ∀ b, S b → b < w.heap.size) {p0 : (List MTerm)} {p1 : Int} {A_p0 : Option Addr} {c_p0 : Nat} (h_p0 : Sl tTerm w.heap S A_p0 c_p0 p0) {r : ((List MHop))} (h : m_ref17_From fuel p0 p1 = some r) :
 Calls Try.prog 20 #[vS A_p0 p0 c_p0, vI p1] w (R20 w S r) := by
 refine enterL (vs := [vS A_p0 p0 c_p0, vI p1]) Try.func20 rfl rfl ?_
 intro a ha
 have cx := Cx.start (W0 := nob) hS
 refine with_nop (noP_body _ _) (fun hq => ?_)
 unfold m_ref17_From at h
 refine sq fun K hK => ?_
 refine reg ?_
 refine sg ha 1 [(0, vS A_p0 p0 c_p0), (1, vI p1)] w fun a ha => ?_
 refine hK _ _ ?_
 clear hK
 refine sq fun K hK => ?_
 refine sq fun K hK => ?_
 obtain ⟨q1, hj1, h⟩ := obind h
 refine wp_cutV (D := fun a w1 => ∃ x1 : Bool, ∃ (S1 : Off), x1 = q1 ∧ Cx w nob S w1 S1 ∧ Sl tTerm w1.heap S1 A_p0 c_p0 p0 ∧ Ag 55 [(0, vS A_p0 p0 c_p0), (1, vI p1), (19, vB x1)] a) ?_ ?_
 · clear h; have h := hj1
   refine reg ?_
   refine sg ha 3 [(0, vS A_p0 p0 c_p0), (1, vI p1), (13, vB (decide (p1 < 0)))] w fun a ha => ?_
   refine split_b (t := 13) ha rfl (fun hb ha => ?_) (fun hb ha => ?_)
   · replace h := itT hb h
     refine sg ha 6 [(0, vS A_p0 p0 c_p0), (1, vI p1), (19, vB true)] w fun a ha => ?_
     obtain rfl := Option.some.inj h
     exact ⟨_, _, rfl, cx, h_p0, ha.to (by kernel_rfl)⟩
   · replace h := itF hb h
     refine sg ha 2 [(0, vS A_p0 p0 c_p0), (1, vI p1), (13, vB false), (14, vI p1), (15, vS A_p0 p0 c_p0)] w fun a ha => ?_
     obtain ⟨x2, hx1, h⟩ := obind h
     refine op_call ha (by kernel_rfl) (f := 22) (args := #[vS A_p0 p0 c_p0]) (w' := w) (by kernel_rfl) (ok22 fuel (p0 := p0) cx.lt h_p0 hx1) ?_
     rintro v1 w2 ⟨hb1, hp1⟩ a ha
     obtain ⟨A1, c1, rfl, f1⟩ := hp1
     replace f1 := own_out cx f1
     replace h_p0 := h_p0.keep (Keep.ext S hb1)
     replace cx := cx.ext hb1
     refine sg ha 3 [(0, vS A_p0 p0 c_p0), (1, vI p1), (19, vB (decide (p1 ≥ (x2.length : Int))))] w2 fun a ha => ?_
     obtain rfl := Option.some.inj h
     exact ⟨_, _, rfl, cx, h_p0, ha.to (by kernel_rfl)⟩
 rintro a w1 ⟨x1, S1, rfl, cx, h_p0, ha⟩
 refine hK _ _ ?_
 clear hK
 refine cond_b ha rfl (fun hb => ?_) (fun hb => ?_)
 · replace h := itT hb h
   refine sq fun K hK => ?_
   refine reg ?_
   refine sg ha 1 [(4, .slice none 0 0)] w1 fun a ha => ?_
   refine hK _ _ ?_
   clear hK
   refine wp_ret ?_
   obtain rfl := Option.some.inj h
   show bodyPost Try.prog Try.f20 (R20 w S _) .ret a w1
   exact ret_1 (r1 := .tmp 4) (v1 := .slice none 0 0) ha rfl (.inl rfl) rfl ⟨_, rfl, cx.below, ⟨_, _, rfl, Ow.nil⟩⟩
 · replace h := itF hb h
   refine wp_skip ?_
   refine hK _ _ ?_
   clear hK
   refine sq fun K hK => ?_
   refine reg ?_
   refine sg ha 2 [(0, vS A_p0 p0 c_p0), (21, vS A_p0 p0 c_p0), (22, vI p1)] w1 fun a ha => ?_
   obtain ⟨x3, hx2, h⟩ := obind h
   refine op_call ha (by kernel_rfl) (f := 50) (args := #[vS A_p0 p0 c_p0, vI p1]) (w' := w1) (by kernel_rfl) (ok50 fuel (p0 := p0) (p1 := p1) cx.lt h_p0 hx2) ?_
   rintro v2 w3 ⟨hb2, hp2⟩ a ha
   obtain ⟨_, _, _, rfl, ⟨A2, c2, rfl, f2⟩, ⟨A3, c3, rfl, f3⟩, rfl⟩ := hp2
   replace f2 := own_out cx f2
   replace h_p0 := h_p0.keep (Keep.ext S1 hb2)
   replace cx := cx.ext hb2
   refine sg ha 4 [(0, vS A_p0 p0 c_p0), (24, vS A2 x3.1 c2), (25, .agg #[vI x3.2.1.To, vI x3.2.1.Turn, vS A3 x3.2.1.Steps c3]), (26, vB x3.2.2)] w3 fun a ha => ?_
   refine op_new (V := fun b => vP b) (cs := [vI 0, vI 0, .slice none 0 0]) (T := 27) ha (by kernel_rfl) (by kernel_rfl) ?_
   intro w4 b1 hb3 hk1 he1 _ a ha
   refine sg ha 1 [(0, vS A_p0 p0 c_p0), (5, vS A2 x3.1 c2), (6, vP b1), (25, .agg #[vI x3.2.1.To, vI x3.2.1.Turn, vS A3 x3.2.1.Steps c3]), (26, vB x3.2.2)] w4 fun a ha => ?_
   refine op_setAll (vs := [vI x3.2.1.To, vI x3.2.1.Turn, vS A3 x3.2.1.Steps c3]) (v := .agg #[vI x3.2.1.To, vI x3.2.1.Turn, vS A3 x3.2.1.Steps c3]) ha (by kernel_rfl) rfl rfl rfl rfl hk1 (by kernel_rfl) (by kernel_rfl) ?_
   intro w5 on1 _ hk2 a ha
   have hb4 := var_done hb3 on1 he1
   have f4 := Bx.new cx hk2 he1
   replace h_p0 := h_p0.keep (Keep.ext S1 hb4)
   replace f2 := f2.keep (Keep.ext S1 hb4)
   replace f3 := f3.keep (Keep.ext S1 hb4)
   replace cx := cx.ext hb4
   refine sg ha 1 [(0, vS A_p0 p0 c_p0), (5, vS A2 x3.1 c2)] w5 fun a ha => ?_
   refine hK _ _ ?_
   clear hK
   refine sq fun K hK => ?_
   refine reg ?_
   refine sg ha 1 [(0, vS A_p0 p0 c_p0), (5, vS A2 x3.1 c2), (8, .slice none 0 0)] w5 fun a ha => ?_
   refine hK _ _ ?_
   clear hK
   refine sq fun K hK => ?_
   refine sq fun K hK => ?_
   refine reg ?_
   refine sg ha 1 [(0, vS A_p0 p0 c_p0), (5, vS A2 x3.1 c2), (8, .slice none 0 0), (9, vI 0)] w5 fun a ha => ?_
   refine hK _ _ ?_
   clear hK
   refine wp_block ?_
   obtain ⟨t1, ht1, h⟩ := obind h
   refine wp_mono (wp_iter (step := (m_ref17_From_l1 fuel p0 x3)) (I := fun (s : List MHop × Int) a w6 => match s with | (x4, x5) => ∃ (S2 : Off), ∃ (A4 : Option Addr) (c4 : Nat), Cx w nob S w6 S2 ∧ Sl tTerm w6.heap S2 A_p0 c_p0 p0 ∧ Sl tHop w6.heap S2 A2 c2 x3.1 ∧ Ow tHop 27 (Wr nob w) w6.heap S2 (vS A4 x4 c4) x4 ∧ Ag 55 [(0, vS A_p0 p0 c_p0), (5, vS A2 x3.1 c2), (8, vS A4 x4 c4), (9, vI x5)] a) (D := fun (t : List MHop) e a w7 => match t with | y1 => e = .exit 0 ∧ ∃ (S3 : Off), ∃ (A5 : Option Addr) (c5 : Nat), Cx w nob S w7 S3 ∧ Ow tHop 27 (Wr nob w) w7.heap S3 (vS A5 y1 c5) y1 ∧ Ag 55 [(8, vS A5 y1 c5)] a) ?_ fuel _ t1 a _ ht1 ?_) ?_
   · clear h ht1
     rintro ⟨x4, x5⟩ ct a w6 ⟨S2, A4, c4, cx, h_p0, f2, f5, ha⟩ h
     refine with_nop (NoP.loop (fun t c a w h => by cases t <;> exact absurd h.1 (by simp))) (fun hq => ?_)
     unfold m_ref17_From_l1 at h
     refine sq fun K hK => ?_
     refine sq fun K hK => ?_
     refine reg ?_
     refine sg ha 2 [(0, vS A_p0 p0 c_p0), (5, vS A2 x3.1 c2), (8, vS A4 x4 c4), (9, vI x5), (27, vI x5), (28, vS A_p0 p0 c_p0)] w6 fun a ha => ?_
     obtain ⟨x6, hx3, h⟩ := obind h
     refine op_call ha (by kernel_rfl) (f := 22) (args := #[vS A_p0 p0 c_p0]) (w' := w6) (by kernel_rfl) (ok22 fuel (p0 := p0) cx.lt h_p0 hx3) ?_
     rintro v3 w8 ⟨hb5, hp3⟩ a ha
     obtain ⟨A6, c6, rfl, f7⟩ := hp3
     replace f7 := own_out cx f7
     replace h_p0 := h_p0.keep (Keep.ext S2 hb5)
     replace f2 := f2.keep (Keep.ext S2 hb5)
     replace f5 := f5.ext hb5
     replace cx := cx.ext hb5
     refine sg ha 2 [(0, vS A_p0 p0 c_p0), (5, vS A2 x3.1 c2), (8, vS A4 x4 c4), (9, vI x5), (31, vB (decide (x5 < (x6.length : Int))))] w8 fun a ha => ?_
     refine hK _ _ ?_
     clear hK
     refine cond_b ha rfl (fun hb => ?_) (fun hb => ?_)
     · replace h := itT hb h
       refine wp_skip ?_
       refine hK _ _ ?_
       clear hK
       refine sq fun K hK => ?_
       refine wp_block ?_
       refine sq fun K hK => ?_
       refine reg ?_
       refine sg ha 1 [(0, vS A_p0 p0 c_p0), (5, vS A2 x3.1 c2), (8, vS A4 x4 c4), (9, vI x5), (10, vI 0)] w8 fun a ha => ?_
       refine hK _ _ ?_
       clear hK
       refine wp_block ?_
       obtain ⟨t2, ht2, h⟩ := obind h
       refine wp_mono (wp_iter (step := (m_ref17_From_l2 fuel p0 x3 x4 x5)) (I := fun (s : List MHop × Int) a w9 => match s with | (x7, x8) => ∃ (S4 : Off), ∃ (A7 : Option Addr) (c7 : Nat), Cx w nob S w9 S4 ∧ Sl tTerm w9.heap S4 A_p0 c_p0 p0 ∧ Sl tHop w9.heap S4 A2 c2 x3.1 ∧ Ow tHop 27 (Wr nob w) w9.heap S4 (vS A7 x7 c7) x7 ∧ Ag 55 [(0, vS A_p0 p0 c_p0), (5, vS A2 x3.1 c2), (8, vS A7 x7 c7), (9, vI x5), (10, vI x8)] a) (D := fun (t : List MHop) e a w10 => match t with | y2 => e = .exit 2 ∧ ∃ (S5 : Off), ∃ (A8 : Option Addr) (c8 : Nat), Cx w nob S w10 S5 ∧ Sl tTerm w10.heap S5 A_p0 c_p0 p0 ∧ Sl tHop w10.heap S5 A2 c2 x3.1 ∧ Ow tHop 27 (Wr nob w) w10.heap S5 (vS A8 y2 c8) y2 ∧ Ag 55 [(0, vS A_p0 p0 c_p0), (5, vS A2 x3.1 c2), (8, vS A8 y2 c8), (9, vI x5)] a) ?_ fuel _ t2 a _ ht2 ?_) ?_
       · clear h ht2
         rintro ⟨x7, x8⟩ ct a w9 ⟨S4, A7, c7, cx, h_p0, f2, f8, ha⟩ h
         refine with_nop (NoP.loop (fun t c a w h => by cases t <;> exact absurd h.1 (by simp))) (fun hq => ?_)
         unfold m_ref17_From_l2 at h
         refine sq fun K hK => ?_
         refine sq fun K hK => ?_
         refine reg ?_
         refine sg ha 4 [(0, vS A_p0 p0 c_p0), (5, vS A2 x3.1 c2), (8, vS A7 x7 c7), (9, vI x5), (10, vI x8), (37, vB (decide (x8 < (x3.1.length : Int))))] w9 fun a ha => ?_
         refine hK _ _ ?_
         clear hK
         refine cond_b ha rfl (fun hb => ?_) (fun hb => ?_)
         · replace h := itT hb h
           refine wp_skip ?_
           refine hK _ _ ?_
           clear hK
           refine sq fun K hK => ?_
           obtain ⟨q2, hj2, h⟩ := obind h
           refine wp_cutV (D := fun a w11 => ∃ x9 : List MHop, ∃ (S6 : Off), ∃ (A9 : Option Addr) (c9 : Nat), x9 = q2 ∧ Cx w nob S w11 S6 ∧ Sl tTerm w11.heap S6 A_p0 c_p0 p0 ∧ Sl tHop w11.heap S6 A2 c2 x3.1 ∧ Ow tHop 27 (Wr nob w) w11.heap S6 (vS A9 x9 c9) x9 ∧ Ag 55 [(0, vS A_p0 p0 c_p0), (5, vS A2 x3.1 c2), (8, vS A9 x9 c9), (9, vI x5), (10, vI x8)] a) ?_ ?_
           · clear h; have h := hj2
             refine wp_block ?_
             refine sq fun K hK => ?_
             refine reg ?_
             refine sg ha 2 [(0, vS A_p0 p0 c_p0), (5, vS A2 x3.1 c2), (8, vS A7 x7 c7), (9, vI x5), (10, vI x8), (40, vS A2 x3.1 c2), (41, vI x8)] w9 fun a ha => ?_
             obtain ⟨hi1, h⟩ := ite_some h
             obtain ⟨b2, o1, cs1, rfl, hr1, hc1⟩ := f2.rdb.get hi1
             obtain ⟨A10, c10, rfl, f11⟩ := hr1
             refine ov (vE b2 o1 x8 3) ha (obx w9 rfl rfl rfl Try.underlying31 rfl hi1) fun a ha => ?_
             refine sg ha 1 [(0, vS A_p0 p0 c_p0), (5, vS (some ⟨b2, o1, none⟩) x3.1 c2), (8, vS A7 x7 c7), (9, vI x5), (10, vI x8), (43, .pointer (some (((⟨b2, o1, none⟩ : Addr).add (x8.toNat * 3)).add 0)))] w9 fun a ha => ?_
             refine ov (vI ((gt x3.1 x8).To)) ha (ob_load w9 rfl rfl Try.underlying3 rfl ((cell_add2 _ _ _ _ _).trans (hc1 0 _ rfl))) fun a ha => ?_
             refine sg ha 2 [(0, vS A_p0 p0 c_p0), (5, vS (some ⟨b2, o1, none⟩) x3.1 c2), (8, vS A7 x7 c7), (9, vI x5), (10, vI x8), (46, vB (((gt x3.1 x8).To) == x5))] w9 fun a ha => ?_
             refine hK _ _ ?_
             clear hK
             refine cond_b ha rfl (fun hb => ?_) (fun hb => ?_)
             · replace h := itT hb h
               refine reg ?_
               refine sg ha 3 [(0, vS A_p0 p0 c_p0), (5, vS (some ⟨b2, o1, none⟩) x3.1 c2), (9, vI x5), (10, vI x8), (47, vS A7 x7 c7), (48, vS (some ⟨b2, o1, none⟩) x3.1 c2), (49, vI x8)] w9 fun a ha => ?_
               obtain ⟨hi2, h⟩ := ite_some h
               obtain ⟨cs2, hr2, hc2⟩ := f2.rdb.at hi2
               obtain ⟨A11, c11, rfl, f12⟩ := hr2
               refine ov (vE b2 o1 x8 3) ha (obx w9 rfl rfl rfl Try.underlying31 rfl hi2) fun a ha => ?_
               refine ov (.agg #[vI ((gt x3.1 x8).To), vI ((gt x3.1 x8).Turn), vS A11 ((gt x3.1 x8).Steps) c11]) ha (ob_loadn (cs := [vI ((gt x3.1 x8).To), vI ((gt x3.1 x8).Turn), vS A11 ((gt x3.1 x8).Steps) c11]) w9 rfl rfl Try.underlying27 rfl (by kernel_rfl) (fun j v hj => (cell_add2 _ _ _ _ _).trans (hc2 j v hj))) fun a ha => ?_
               refine op_new (V := fun b => .slice (some ⟨b, 0, none⟩) 1 1) (cs := [vI ((gt x3.1 x8).To), vI ((gt x3.1 x8).Turn), vS A11 ((gt x3.1 x8).Steps) c11]) (T := 27) ha (by kernel_rfl) (by kernel_rfl) ?_
               intro w12 b3 hb6 hk3 he2 _ a ha
               have f13 := lit_ow (T := tHop) (xs := [(gt x3.1 x8)]) (m := 1) cx hb6 hk3 he2 rfl (by kernel_rfl) (Els.one (T := tHop) (x := (gt x3.1 x8)) ⟨_, _, rfl, f12⟩)
               replace f13 := own_out cx f13
               replace h_p0 := h_p0.keep (Keep.ext S4 hb6)
               replace f2 := f2.keep (Keep.ext S4 hb6)
               replace f8 := f8.ext hb6
               replace cx := cx.ext hb6
               obtain ⟨hp4, h⟩ := ite_some h
               refine op_append (T := tHop) (xs := x7) (ys := [(gt x3.1 x8)]) (z := .agg #[vI 0, vI 0, .slice none 0 0]) (bytes := 40) ha cx (by kernel_rfl) rfl rfl rfl Try.underlying31 (by kernel_rfl) (by kernel_rfl) wr_id f8 f13.rdb hp4 ?_
               intro w13 S7 A12 c12 cx kp1 hs1 hn1 hat1 f14 a ha
               replace h_p0 := h_p0.keep kp1
               replace f2 := f2.keep kp1
               refine sg ha 1 [(0, vS A_p0 p0 c_p0), (5, vS (some ⟨b2, o1, none⟩) x3.1 c2), (8, vS A12 (x7 ++ [(gt x3.1 x8)]) c12), (9, vI x5), (10, vI x8)] w13 fun a ha => ?_
               obtain rfl := Option.some.inj h
               exact ⟨_, _, A12, c12, rfl, cx, h_p0, f2, f14, ha.to (by kernel_rfl)⟩
             · replace h := itF hb h
               refine wp_skip ?_
               obtain rfl := Option.some.inj h
               exact ⟨_, _, A7, c7, rfl, cx, h_p0, f2, f8, ha.to (by kernel_rfl)⟩
           rintro a w11 ⟨x9, S6, A9, c9, rfl, cx, h_p0, f2, f10, ha⟩
           refine hK _ _ ?_
           clear hK
           refine reg ?_
           refine sg ha 3 [(0, vS A_p0 p0 c_p0), (5, vS A2 x3.1 c2), (8, vS A9 x9 c9), (9, vI x5), (10, vI (W (x8 + 1)))] w11 fun a ha => ?_
           obtain rfl := Option.some.inj h
           exact ⟨_, rfl, S6, A9, c9, cx, h_p0, f2, f10, ha.to (by kernel_rfl)⟩
         · replace h := itF hb h
           refine wp_exit ?_
           obtain rfl := Option.some.inj h
           exact ⟨_, rfl, rfl, S4, A7, c7, cx, h_p0, f2, f8, ha.to (by kernel_rfl)⟩
       · exact ⟨S2, A4, c4, cx, h_p0, f2, f5, ha.to (by kernel_rfl)⟩
       intro e a w10 hd
       generalize t2 = y2 at *
       obtain ⟨rfl, S5, A8, c8, cx, h_p0, f2, f9, ha⟩ := hd
       refine hK _ _ ?_
       clear hK
       refine reg ?_
       refine sg ha 3 [(0, vS A_p0 p0 c_p0), (5, vS A2 x3.1 c2), (8, vS A8 y2 c8), (9, vI (W (x5 + 1)))] w10 fun a ha => ?_
       obtain rfl := Option.some.inj h
       exact ⟨_, rfl, S5, A8, c8, cx, h_p0, f2, f9, ha.to (by kernel_rfl)⟩
     · replace h := itF hb h
       refine wp_exit ?_
       obtain rfl := Option.some.inj h
       exact ⟨_, rfl, rfl, S2, A4, c4, cx, f5, ha.to (by kernel_rfl)⟩
   · exact ⟨S1, none, 0, cx, h_p0, f2, Ow.nil, ha.to (by kernel_rfl)⟩
   intro e a w7 hd
   generalize t1 = y1 at *
   obtain ⟨rfl, S3, A5, c5, cx, f6, ha⟩ := hd
   refine hK _ _ ?_
   clear hK
   refine sq fun K hK => ?_
   refine reg ?_
   refine sg ha 2 [(4, vS A5 y1 c5)] w7 fun a ha => ?_
   refine hK _ _ ?_
   clear hK
   refine wp_ret ?_
   obtain rfl := Option.some.inj h
   show bodyPost Try.prog Try.f20 (R20 w S _) .ret a w7
   exact ret_1 (r1 := .tmp 4) (v1 := vS A5 y1 c5) ha rfl (.inl rfl) rfl ⟨_, rfl, cx.below, ⟨_, _, rfl, f6.result cx.sub⟩⟩
end Go.Proofs.Ytfhehbfifffipaa
