/- The frame of a law: from what a row reads to its model. Its conditions: none. -/
import Derived.Test.YtdficaoajalfaaaGreatRows
import Derived.Test.YtdficaoajalfaaaGreatTCt
import Derived.Test.YtdficaoajalfaaaGreatTX15
import Derived.Test.YtdficaoajalfaaaGreatTDHuntOver
set_option linter.all false
set_option maxRecDepth 100000
namespace Go.Proofs.YtdficaoajalfaaaGreat
open Go.V Go.RowKit Go.ChangeShapes Go.WideShapes Go.ChangeAt Go.X
theorem b_vk:joinedFacts Tryz.checked.prog 9 Tryz.f9 Rows.huntOverSpec Rows.huntOverRow=true:=by kernel_rfl
theorem b_vg:Tryz.checked.prog.funcNamed Rows.huntOverRow.func=some 9:=by kernel_rfl
theorem b_un:laidOutB Tryz.checked.prog=true:=by kernel_rfl
theorem b_vn:(Tryz.f9.params.toList.all fun t=>Tryz.checked.prog.readableRec t&&decide (t<Tryz.checked.prog.types.size))=true:=by kernel_rfl
theorem b_uy (os:Os) {H:Type} {enc:TypeId×Value->H}:∃ (w:World) (tape:Tape) (i:Input),w.os=os/\(w.forCall tape i).Shaped Tryz.checked.prog/\i.vars=[]/\Input.okWide Tryz.checked.prog (w.forCall tape i) .any w.heap.size 9 i/\
   Rows.huntOverSpec.pre6 enc Tryz.checked.prog Tryz.f9 [] false (w.forCall tape i).memory i.args/\({ modest:=false }:Assume).holds Tryz.checked.prog (lone (Frame.enter Tryz.checked.prog 9 i.args .normal) [] (w.forCall tape i)):=
 ChangeSpec.witness6 (enc:=enc) (C:=Tryz.checked) false ⟨#[],#[.slice none 0 0,.slice none 0 0,.slice none 0 0],[]⟩ 8 (by kernel_rfl) (by kernel_rfl) (by kernel_rfl) (by kernel_rfl)
theorem b_u0:all2 (fun t u=>topU u&&rdOk en 20 t u) [22,23,23] [.list (.st 0),.list (.int .u8),.list (.int .u8)]=true:=by kernel_rfl
theorem b_u7 {H:Type} {enc:TypeId×Value->H} {W:World} {held:Bool} {base:Nat} (vs:List Value) (ds:List (DataW H)) (ps:List MemPlace) (hval:∀ (j:Nat) t v,([22,23,23]:List Nat)[j]?=some t->vs[j]?=some v->Value.okWide en.P W .any base t v) (hA:DataW.TrodAll enc en.P W 0 (fun _=>true) held [22,23,23] vs ds ps) (hlt:∀ p∈ps,p.block<W.heap.size)
  (hsz:∀ (j:Nat) t d,([22,23,23]:List Nat)[j]?=some t->ds[j]?=some d->∀ e q c A fuel ps',en.P.underlying t=some (.slice e)->DataW.trod enc en.P W 0 (fun _=>true) held fuel t (Value.slice A q c).cells.toList=some (d,ps')->q*en.P.bytesOf e<=140737488351232):∃ x:HL en.D [.list (.st 0),.list (.int .u8),.list (.int .u8)],ArgR W [.list (.st 0),.list (.int .u8),.list (.int .u8)] vs x/\wfF (wfD en 20) [.list (.st 0),.list (.int .u8),.list (.int .u8)] x/\lenF en 140737488351232 [22,23,23] [.list (.st 0),.list (.int .u8),.list (.int .u8)] x:=
 a_wp a_6 [22,23,23] [.list (.st 0),.list (.int .u8),.list (.int .u8)] vs ds ps b_u0 hval hA hlt hsz
theorem b_td (hm:b_qa):Rows.HuntOverSaid:=
 OpenClaim.holds_of_wide 9 Tryz.f9 rfl rfl rfl rfl rfl rfl rfl ⟨rfl,rfl,rfl,rfl,rfl⟩ rfl rfl rfl rfl rfl b_vg Tryz.func9 b_vk
  (of_decide_eq_true (by kernel_rfl)) (by unfold Func.isWrapper;first | (rw [if_pos (by decide+kernel)];kernel_rfl) | (rw [if_neg (by decide+kernel)];exact ⟨rfl,rfl⟩))
  (fun os started H enc _=>by
   refine a_y4 (s:=Rows.huntOverSpec) (C:=Tryz.checked) (by kernel_rfl) started (by kernel_rfl) Tryz.func9 b_un rfl Tryz.underlying4 rfl b_vn
    (b_uy os) ?_ ?_
   ·intro W args ds p hA
    rw [Tryz.params9] at hA
    obtain ⟨v0,vs0,d0,ds0,p0,q0,e0,rfl,rfl,h0,r0⟩:=trodAll_cons hA
    obtain ⟨v1,vs1,d1,ds1,p1,q1,e1,rfl,rfl,h1,r1⟩:=trodAll_cons r0
    obtain ⟨v2,vs2,d2,ds2,p2,q2,e2,rfl,rfl,h2,r2⟩:=trodAll_cons r1
    obtain ⟨_,rfl,_⟩:=trodAll_nil r2
    exact ⟨rfl,rfl,rfl⟩
   ·intro W base args ds p hval hA hlt hsz
    rw [Tryz.params9] at hval hsz hA
    obtain ⟨x,h1,h2,h3⟩:=b_u7 (base:=base) args.toList ds p (fun j t v ht hv=>hval j t v (by simpa using ht) (by simpa using hv)) hA hlt (fun j t d ht hd e q c A fuel ps hT htr=>a_3f hT htr hsz ht hd)
    obtain ⟨F,hF⟩:=hm x.1 x.2.1 x.2.2.1 h2.1 h2.2.1 h2.2.2.1 h3.1 h3.2.1 h3.2.2.1
    have hc:=a_vb (E:=en) (us:=[.list (.st 0),.list (.int .u8),.list (.int .u8)]) (b_qf F) h1 hF
    rw [Array.toArray_toList] at hc
    exact hc)
