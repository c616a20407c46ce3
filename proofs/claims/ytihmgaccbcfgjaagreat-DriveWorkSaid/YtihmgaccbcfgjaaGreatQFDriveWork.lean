/- The frame of a law: from what a row reads to its model. Its conditions: none. -/
import Derived.Test.YtihmgaccbcfgjaaGreatRows
import Derived.Test.YtihmgaccbcfgjaaGreatQG31
import Derived.Test.YtihmgaccbcfgjaaGreatQX15
import Derived.Test.YtihmgaccbcfgjaaGreatQDDriveWork
set_option linter.all false
set_option maxRecDepth 100000
namespace Go.Proofs.YtihmgaccbcfgjaaGreat
open Go.V Go.RowKit Go.ChangeShapes Go.WideShapes Go.ChangeAt Go.X
theorem r0k:joinedFacts Tryz.checked.prog 9 Tryz.f9 Rows.driveWorkSpec Rows.driveWorkRow=true:=by kernel_rfl
theorem w0n:Tryz.checked.prog.funcNamed Rows.driveWorkRow.func=some 9:=by kernel_rfl
theorem x00:laidOutB Tryz.checked.prog=true:=by kernel_rfl
theorem q0C:(Tryz.f9.params.toList.all fun t=>Tryz.checked.prog.readableRec t&&decide (t<Tryz.checked.prog.types.size))=true:=by kernel_rfl
theorem t0Z (os:Os) {H:Type} {enc:TypeId×Value->H}:∃ (w:World) (tape:Tape) (i:Input),w.os=os/\(w.forCall tape i).Shaped Tryz.checked.prog/\i.vars=[]/\Input.okWide Tryz.checked.prog (w.forCall tape i) .any w.heap.size 9 i/\
   Rows.driveWorkSpec.pre6 enc Tryz.checked.prog Tryz.f9 [] false (w.forCall tape i).memory i.args/\({ modest:=false }:Assume).holds Tryz.checked.prog (lone (Frame.enter Tryz.checked.prog 9 i.args .normal) [] (w.forCall tape i)):=
 ChangeSpec.witness6 (enc:=enc) (C:=Tryz.checked) false ⟨#[],#[.agg #[.int .i64 0,.slice none 0 0,.slice none 0 0],.slice none 0 0,.slice none 0 0],[]⟩ 8 (by kernel_rfl) (by kernel_rfl) (by kernel_rfl) (by kernel_rfl)
theorem t0V:a0e (fun t u=>f0J u&&U5 en 20 t u) [25,43,43] [.st 2,.list (.int .u8),.list (.int .u8)]=true:=by kernel_rfl
theorem z0I {H:Type} {enc:TypeId×Value->H} {W:World} {held:Bool} {base:Nat} (vs:List Value) (ds:List (DataW H)) (ps:List MemPlace) (hval:∀ (j:Nat) t v,([25,43,43]:List Nat)[j]?=some t->vs[j]?=some v->Value.okWide en.P W .any base t v) (hA:DataW.TrodAll enc en.P W 0 (fun _=>true) held [25,43,43] vs ds ps) (hlt:∀ p∈ps,p.block<W.heap.size)
  (hsz:∀ (j:Nat) t d,([25,43,43]:List Nat)[j]?=some t->ds[j]?=some d->∀ e q c A fuel ps',en.P.underlying t=some (.slice e)->DataW.trod enc en.P W 0 (fun _=>true) held fuel t (Value.slice A q c).cells.toList=some (d,ps')->q*en.P.bytesOf e<=140737488351232):∃ x:HL en.D [.st 2,.list (.int .u8),.list (.int .u8)],c9 W [.st 2,.list (.int .u8),.list (.int .u8)] vs x/\O9 (V4 en 20) [.st 2,.list (.int .u8),.list (.int .u8)] x/\d0j en 140737488351232 [25,43,43] [.st 2,.list (.int .u8),.list (.int .u8)] x:=
 d08 K9 [25,43,43] [.st 2,.list (.int .u8),.list (.int .u8)] vs ds ps t0V hval hA hlt hsz
theorem r0P (hm:o0d):Rows.DriveWorkSaid:=
 OpenClaim.holds_of_wide 9 Tryz.f9 rfl rfl rfl rfl rfl rfl rfl ⟨rfl,rfl,rfl,rfl,rfl⟩ rfl rfl rfl rfl rfl w0n Tryz.func9 r0k
  (of_decide_eq_true (by kernel_rfl)) (by unfold Func.isWrapper;first | (rw [if_pos (by decide+kernel)];kernel_rfl) | (rw [if_neg (by decide+kernel)];exact ⟨rfl,rfl⟩))
  (fun os started H enc _=>by
   refine j0c (s:=Rows.driveWorkSpec) (C:=Tryz.checked) (by kernel_rfl) started (by kernel_rfl) Tryz.func9 x00 rfl Tryz.underlying4 rfl q0C
    (t0Z os) ?_ ?_
   ·intro W args ds p hA;rw [Tryz.params9] at hA;obtain ⟨v0,vs0,d0,ds0,p0,q0,e0,rfl,rfl,h0,r0⟩:=trodAll_cons hA;obtain ⟨v1,vs1,d1,ds1,p1,q1,e1,rfl,rfl,h1,r1⟩:=trodAll_cons r0;obtain ⟨v2,vs2,d2,ds2,p2,q2,e2,rfl,rfl,h2,r2⟩:=trodAll_cons r1;obtain ⟨_,rfl,_⟩:=trodAll_nil r2;exact ⟨rfl,rfl,rfl⟩
   ·intro W base args ds p hval hA hlt hsz;rw [Tryz.params9] at hval hsz hA;obtain ⟨x,h1,h2,h3⟩:=z0I (base:=base) args.toList ds p (fun j t v ht hv=>hval j t v (by simpa using ht) (by simpa using hv)) hA hlt (fun j t d ht hd e q c A fuel ps hT htr=>j0F hT htr hsz ht hd);obtain ⟨F,hF⟩:=hm x.1 x.2.1 x.2.2.1 h2.1 h2.2.1 h2.2.2.1 h3.2.1 h3.2.2.1;have hc:=g0L (E:=en) (us:=[.st 2,.list (.int .u8),.list (.int .u8)]) (q0u F) h1 hF;rw [Array.toArray_toList] at hc;exact hc)
