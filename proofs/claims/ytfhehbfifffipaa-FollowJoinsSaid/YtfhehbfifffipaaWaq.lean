/- What the functions compute is what the program does. Its conditions: none. -/
import Derived.Test.YtfhehbfifffipaaVShort
import Derived.Test.YtfhehbfifffipaaTy
set_option maxRecDepth 20000
set_option autoImplicit false
namespace Go.Proofs.Ytfhehbfifffipaa
open Go.V Go.RowKit
set_option linter.unusedVariables false
def post69 (w : World) (S : Off) (r : (Bool)) (v : Value) (w1 : World) : Prop:=v = .bool r
abbrev R69 (w : World) (S : Off) (r : (Bool)) : Ending → World → Prop:=fun e w1=>∃ v,e = .returned v∧Below w.heap.size w w1∧post69 w S r v w1
theorem ok69 (fuel : Nat) {w : World} {S : Off} (hS : ∀ b,S b → b < w.heap.size) {p0 : (List Int)} {p1 : Int} (hl_p0 : p0.length = 4) {r : (Bool)} (h : m_ref01_Has fuel p0 p1 = some r) :
 Calls Try.prog 69 #[.agg #[.int .u64 (gt p0 0),.int .u64 (gt p0 1),.int .u64 (gt p0 2),.int .u64 (gt p0 3)],vI p1] w (R69 w S r):=by
 refine enterL (vs:=[.agg #[.int .u64 (gt p0 0),.int .u64 (gt p0 1),.int .u64 (gt p0 2),.int .u64 (gt p0 3)],vI p1]) Try.func69 rfl rfl ?_;intro a ha;have cx:=Cx.start (W0:=nob) hS;refine with_nop (noP_body _ _) (fun hq=>?_);unfold m_ref01_Has at h;refine sq fun K hK=>reg ?_;refine op_new (V:=fun b=>vP b) (cs:=[.int .u64 (gt p0 0),.int .u64 (gt p0 1),.int .u64 (gt p0 2),.int .u64 (gt p0 3)]) (T:=40) ha (by kernel_rfl) (by kernel_rfl) ?_;intro w1 b1 hb1 hk1 he1 _ a ha;have f1:=Bx.new cx hk1 he1;replace cx:=cx.ext hb1;refine sg ha 1 [(1,vI p1),(2,vP b1)] w1 fun a ha=>?_;refine hK _ _ ?_;clear hK;refine sq fun K hK=>?_;obtain ⟨q1,hj1,h⟩:=obind h;refine wp_cutV (D:=fun a w_=>∃ x1 : Bool,x1 = q1∧w1 = w_∧Ag 22 [(4,vB x1)] a) ?_ ?_
 · clear h;have h:=hj1;refine reg (sg ha 3 [(1,vI p1),(2,vP b1),(7,vB (decide (p1 ≥ 0)))] w1 fun a ha=>?_);refine split_b (t:=7) ha rfl (fun hb ha=>?_) (fun hb ha=>?_)
   · replace h:=itT hb h;refine sg ha 4 [(1,vI p1),(2,vP b1),(11,vB (decide (p1 < 256)))] w1 fun a ha=>?_;refine split_b (t:=11) ha rfl (fun hb ha=>?_) (fun hb ha=>?_)
     · replace h:=itT hb h;refine sg ha 2 [(1,vI p1),(2,vP b1),(11,vB true),(13,vI (W (Int.tdiv p1 64)))] w1 fun a ha=>?_;obtain ⟨hi1,h⟩:=ite_some h;refine ov (vE b1 0 (W (Int.tdiv p1 64)) 1) ha (ob_aidx w1 rfl rfl rfl Try.underlying40 rfl (inbN_iff hi1).1 (inbN_iff hi1).2) fun a ha=>?_;refine ov (.int .u64 (gt p0 (W (Int.tdiv p1 64)))) ha (ob_load w1 rfl rfl Try.underlying38 rfl ((cell_add1 _ _ _ _).trans (by rw [Nat.zero_add];exact f1.cell _ _ (cells4 (f:=fun i=>.int .u64 (gt p0 i)) hi1 rfl rfl rfl rfl rfl)))) fun a ha=>?_;refine sg ha 2 [(11,vB true),(15,.int .u64 (gt p0 (W (Int.tdiv p1 64)))),(17,vI (Int.tmod p1 64))] w1 fun a ha=>?_;obtain ⟨hi2,h⟩:=ite_some h;refine ov (.int .u64 (shr .u64 (gt p0 (W (Int.tdiv p1 64))) (Int.tmod p1 64))) ha (ob_shr w1 rfl rfl rfl hi2) fun a ha=>?_;refine sg ha 4 [(4,vB ((band .u64 (shr .u64 (gt p0 (W (Int.tdiv p1 64))) (Int.tmod p1 64)) 1) == 1))] w1 fun a ha=>?_;obtain rfl:=Option.some.inj h;exact ⟨_,rfl,rfl,ha.to (by kernel_rfl)⟩
     · replace h:=itF hb h;refine sg ha 11 [(4,vB false)] w1 fun a ha=>?_;obtain rfl:=Option.some.inj h;exact ⟨_,rfl,rfl,ha.to (by kernel_rfl)⟩
   · replace h:=itF hb h;refine sg ha 15 [(4,vB false)] w1 fun a ha=>?_;obtain rfl:=Option.some.inj h;exact ⟨_,rfl,rfl,ha.to (by kernel_rfl)⟩
 rintro a _ ⟨x1,rfl,rfl,ha⟩;refine hK _ _ ?_;clear hK;refine wp_ret ?_;obtain rfl:=Option.some.inj h;show bodyPost Try.prog Try.f69 (R69 w S _) .ret a w1;exact ret_1 (r1:=.tmp 4) (v1:=vB x1) ha rfl (.inl rfl) rfl ⟨_,rfl,cx.below,rfl⟩
end Go.Proofs.Ytfhehbfifffipaa
