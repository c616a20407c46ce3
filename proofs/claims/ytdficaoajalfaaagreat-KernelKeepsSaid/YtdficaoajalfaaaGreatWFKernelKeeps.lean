/- The frame of a law: from what a row reads to its model. Its conditions: none. -/
import Derived.Test.YtdficaoajalfaaaGreatRows
import Derived.Test.YtdficaoajalfaaaGreatWCt
import Derived.Test.YtdficaoajalfaaaGreatWX15
import Derived.Test.YtdficaoajalfaaaGreatWDKernelKeeps
set_option linter.all false
set_option maxRecDepth 100000
namespace Go.Proofs.YtdficaoajalfaaaGreat
open Go.V Go.RowKit Go.ChangeShapes Go.WideShapes Go.ChangeAt Go.X
theorem J0d:joinedFacts Tryz.checked.prog 12 Tryz.f12 Rows.kernelKeepsSpec Rows.kernelKeepsRow=true:=by kernel_rfl
theorem J0x:Tryz.checked.prog.funcNamed Rows.kernelKeepsRow.func=some 12:=by kernel_rfl
theorem I09:laidOutB Tryz.checked.prog=true:=by kernel_rfl
theorem I00:(Tryz.f12.params.toList.all fun t=>Tryz.checked.prog.readableRec t&&decide (t<Tryz.checked.prog.types.size))=true:=by kernel_rfl
theorem J0j (os:Os) {H:Type} {enc:TypeId×Value->H}:∃ (w:World) (tape:Tape) (i:Input),w.os=os/\(w.forCall tape i).Shaped Tryz.checked.prog/\i.vars=[]/\Input.okWide Tryz.checked.prog (w.forCall tape i) .any w.heap.size 12 i/\
   Rows.kernelKeepsSpec.pre6 enc Tryz.checked.prog Tryz.f12 [] false (w.forCall tape i).memory i.args/\({ modest:=false }:Assume).holds Tryz.checked.prog (lone (Frame.enter Tryz.checked.prog 12 i.args .normal) [] (w.forCall tape i)):=
 ChangeSpec.witness6 (enc:=enc) (C:=Tryz.checked) false ⟨#[],#[.slice none 0 0,.agg #[.int .i64 0,.slice none 0 0,.slice none 0 0,.slice none 0 0,.slice none 0 0],.agg #[.int .i64 0,.int .u8 0]],[]⟩ 8 (by kernel_rfl) (by kernel_rfl) (by kernel_rfl) (by kernel_rfl)
theorem J0r:c0Z (fun t u=>v0w u&&a0a en 20 t u) [22,81,93] [.list (.st 0),.st 12,.st 13]=true:=by kernel_rfl
theorem I0Z {H:Type} {enc:TypeId×Value->H} {W:World} {held:Bool} {base:Nat} (vs:List Value) (ds:List (DataW H)) (ps:List MemPlace) (hval:∀ (j:Nat) t v,([22,81,93]:List Nat)[j]?=some t->vs[j]?=some v->Value.okWide en.P W .any base t v) (hA:DataW.TrodAll enc en.P W 0 (fun _=>true) held [22,81,93] vs ds ps) (hlt:∀ p∈ps,p.block<W.heap.size)
  (hsz:∀ (j:Nat) t d,([22,81,93]:List Nat)[j]?=some t->ds[j]?=some d->∀ e q c A fuel ps',en.P.underlying t=some (.slice e)->DataW.trod enc en.P W 0 (fun _=>true) held fuel t (Value.slice A q c).cells.toList=some (d,ps')->q*en.P.bytesOf e<=140737488351232):∃ x:HL en.D [.list (.st 0),.st 12,.st 13],e0K W [.list (.st 0),.st 12,.st 13] vs x/\wfF (I1 en 20) [.list (.st 0),.st 12,.st 13] x/\o0m en 140737488351232 [22,81,93] [.list (.st 0),.st 12,.st 13] x:=
 t03 f0q [22,81,93] [.list (.st 0),.st 12,.st 13] vs ds ps J0r hval hA hlt hsz
theorem J0h (hm:y0Q):Rows.KernelKeepsSaid:=
 OpenClaim.holds_of_wide 12 Tryz.f12 rfl rfl rfl rfl rfl rfl rfl ⟨rfl,rfl,rfl,rfl,rfl⟩ rfl rfl rfl rfl rfl J0x Tryz.func12 J0d
  (of_decide_eq_true (by kernel_rfl)) (by unfold Func.isWrapper;first | (rw [if_pos (by decide+kernel)];kernel_rfl) | (rw [if_neg (by decide+kernel)];exact ⟨rfl,rfl⟩))
  (fun os started H enc _=>by
   refine E0M (s:=Rows.kernelKeepsSpec) (C:=Tryz.checked) (by kernel_rfl) started (by kernel_rfl) Tryz.func12 I09 rfl Tryz.underlying4 rfl I00
    (J0j os) ?_ ?_
   ·intro W args ds p hA;rw [Tryz.params12] at hA;obtain ⟨v0,vs0,d0,ds0,p0,q0,e0,rfl,rfl,h0,r0⟩:=trodAll_cons hA;obtain ⟨v1,vs1,d1,ds1,p1,q1,e1,rfl,rfl,h1,r1⟩:=trodAll_cons r0;obtain ⟨v2,vs2,d2,ds2,p2,q2,e2,rfl,rfl,h2,r2⟩:=trodAll_cons r1;obtain ⟨_,rfl,_⟩:=trodAll_nil r2;exact ⟨rfl,rfl,rfl⟩
   ·intro W base args ds p hval hA hlt hsz;rw [Tryz.params12] at hval hsz hA;obtain ⟨x,h1,h2,h3⟩:=I0Z (base:=base) args.toList ds p (fun j t v ht hv=>hval j t v (by simpa using ht) (by simpa using hv)) hA hlt (fun j t d ht hd e q c A fuel ps hT htr=>B03 hT htr hsz ht hd);obtain ⟨F,hF⟩:=hm x.1 x.2.1 x.2.2.1 h2.1 h2.2.1 h2.2.2.1 h3.1;have hc:=A0H (E:=en) (us:=[.list (.st 0),.st 12,.st 13]) (I01 F) h1 hF;rw [Array.toArray_toList] at hc;exact hc)
