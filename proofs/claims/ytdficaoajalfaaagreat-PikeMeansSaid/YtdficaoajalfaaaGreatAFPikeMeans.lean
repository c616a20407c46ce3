/- The frame of a law: from what a row reads to its model. Its conditions: none. -/
import Derived.Test.YtdficaoajalfaaaGreatRows
import Derived.Test.YtdficaoajalfaaaGreatACt
import Derived.Test.YtdficaoajalfaaaGreatAX15
import Derived.Test.YtdficaoajalfaaaGreatADPikeMeans
set_option linter.all false
set_option maxRecDepth 100000
namespace Go.Proofs.YtdficaoajalfaaaGreat
open Go.V Go.RowKit Go.ChangeShapes Go.WideShapes Go.ChangeAt Go.X
theorem u06:joinedFacts Tryz.checked.prog 4 Tryz.f4 Rows.pikeMeansSpec Rows.pikeMeansRow=true:=by kernel_rfl
theorem E0f:Tryz.checked.prog.funcNamed Rows.pikeMeansRow.func=some 4:=by kernel_rfl
theorem D0S:laidOutB Tryz.checked.prog=true:=by kernel_rfl
theorem B0V:(Tryz.f4.params.toList.all fun t=>Tryz.checked.prog.readableRec t&&decide (t<Tryz.checked.prog.types.size))=true:=by kernel_rfl
theorem w0O (os:Os) {H:Type} {enc:TypeId×Value->H}:∃ (w:World) (tape:Tape) (i:Input),w.os=os/\(w.forCall tape i).Shaped Tryz.checked.prog/\i.vars=[]/\Input.okWide Tryz.checked.prog (w.forCall tape i) .any w.heap.size 4 i/\
   Rows.pikeMeansSpec.pre6 enc Tryz.checked.prog Tryz.f4 [] false (w.forCall tape i).memory i.args/\({ modest:=false }:Assume).holds Tryz.checked.prog (lone (Frame.enter Tryz.checked.prog 4 i.args .normal) [] (w.forCall tape i)):=
 ChangeSpec.witness6 (enc:=enc) (C:=Tryz.checked) false ⟨#[],#[.slice none 0 0,.slice none 0 0],[]⟩ 8 (by kernel_rfl) (by kernel_rfl) (by kernel_rfl) (by kernel_rfl)
theorem x0U:f0r (fun t u=>p03 u&&T9 en 20 t u) [22,23] [.list (.st 0),.list (.int .u8)]=true:=by kernel_rfl
theorem z0N {H:Type} {enc:TypeId×Value->H} {W:World} {held:Bool} {base:Nat} (vs:List Value) (ds:List (DataW H)) (ps:List MemPlace) (hval:∀ (j:Nat) t v,([22,23]:List Nat)[j]?=some t->vs[j]?=some v->Value.okWide en.P W .any base t v) (hA:DataW.TrodAll enc en.P W 0 (fun _=>true) held [22,23] vs ds ps) (hlt:∀ p∈ps,p.block<W.heap.size)
  (hsz:∀ (j:Nat) t d,([22,23]:List Nat)[j]?=some t->ds[j]?=some d->∀ e q c A fuel ps',en.P.underlying t=some (.slice e)->DataW.trod enc en.P W 0 (fun _=>true) held fuel t (Value.slice A q c).cells.toList=some (d,ps')->q*en.P.bytesOf e<=140737488351232):∃ x:HL en.D [.list (.st 0),.list (.int .u8)],e0T W [.list (.st 0),.list (.int .u8)] vs x/\wfF (wfD en 20) [.list (.st 0),.list (.int .u8)] x/\l0r en 140737488351232 [22,23] [.list (.st 0),.list (.int .u8)] x:=
 q0Q b0N [22,23] [.list (.st 0),.list (.int .u8)] vs ds ps x0U hval hA hlt hsz
theorem w01 (hm:t0X):Rows.PikeMeansSaid:=
 OpenClaim.holds_of_wide 4 Tryz.f4 rfl rfl rfl rfl rfl rfl rfl ⟨rfl,rfl,rfl,rfl,rfl⟩ rfl rfl rfl rfl rfl E0f Tryz.func4 u06
  (of_decide_eq_true (by kernel_rfl)) (by unfold Func.isWrapper;first | (rw [if_pos (by decide+kernel)];kernel_rfl) | (rw [if_neg (by decide+kernel)];exact ⟨rfl,rfl⟩))
  (fun os started H enc _=>by
   refine C0X (s:=Rows.pikeMeansSpec) (C:=Tryz.checked) (by kernel_rfl) started (by kernel_rfl) Tryz.func4 D0S rfl Tryz.underlying4 rfl B0V
    (w0O os) ?_ ?_
   ·intro W args ds p hA;rw [Tryz.params4] at hA;obtain ⟨v0,vs0,d0,ds0,p0,q0,e0,rfl,rfl,h0,r0⟩:=trodAll_cons hA;obtain ⟨v1,vs1,d1,ds1,p1,q1,e1,rfl,rfl,h1,r1⟩:=trodAll_cons r0;obtain ⟨_,rfl,_⟩:=trodAll_nil r1;exact ⟨rfl,rfl,rfl⟩
   ·intro W base args ds p hval hA hlt hsz;rw [Tryz.params4] at hval hsz hA;obtain ⟨x,h1,h2,h3⟩:=z0N (base:=base) args.toList ds p (fun j t v ht hv=>hval j t v (by simpa using ht) (by simpa using hv)) hA hlt (fun j t d ht hd e q c A fuel ps hT htr=>E0a hT htr hsz ht hd);obtain ⟨F,hF⟩:=hm x.1 x.2.1 h2.1 h2.2.1 h3.1 h3.2.1;have hc:=z08 (E:=en) (us:=[.list (.st 0),.list (.int .u8)]) (x0Q F) h1 hF;rw [Array.toArray_toList] at hc;exact hc)
