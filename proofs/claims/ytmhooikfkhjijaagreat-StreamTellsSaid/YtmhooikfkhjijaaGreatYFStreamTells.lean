/- P. Its conditions: none. -/
import Derived.Test.YtmhooikfkhjijaaGreatRows
import Derived.Test.YtmhooikfkhjijaaGreatYCt
import Derived.Test.YtmhooikfkhjijaaGreatYX15
import Derived.Test.YtmhooikfkhjijaaGreatYDStreamTells
set_option linter.all false
set_option maxRecDepth 100000
namespace Go.Proofs.YtmhooikfkhjijaaGreat
open Go.V Go.RowKit Go.ChangeShapes Go.WideShapes Go.ChangeAt Go.X
def b1J:joinedFacts Tryz.checked.prog 7 Tryz.f7 Rows.streamTellsSpec Rows.streamTellsRow=true:=by kernel_rfl
def b1S:Tryz.checked.prog.funcNamed Rows.streamTellsRow.func=some 7:=by kernel_rfl
def b1a:laidOutB Tryz.checked.prog=true:=by kernel_rfl
def a1K:(Tryz.f7.params.toList.all fun t=>Tryz.checked.prog.readableRec t&&decide (t<Tryz.checked.prog.types.size))=true:=by kernel_rfl
def b1r (os:Os){H:Type}{enc:TypeId×Value->H}:∃(w:World) (tape:Tape) (i:Input),w.os=os/\(w.forCall tape i).Shaped Tryz.checked.prog/\i.vars=[]/\Input.okWide Tryz.checked.prog (w.forCall tape i) .any w.heap.size 7 i/\
   Rows.streamTellsSpec.pre6 enc Tryz.checked.prog Tryz.f7 [] false (w.forCall tape i).memory i.args/\({ modest:=false }:Assume).holds Tryz.checked.prog (lone (Frame.enter Tryz.checked.prog 7 i.args .normal) [] (w.forCall tape i)):=
 ChangeSpec.witness6 (enc:=enc) (C:=Tryz.checked) false ⟨#[],#[.slice none 0 0,.agg #[.int .i64 0,.int .i64 0,.slice none 0 0,.slice none 0 0],.slice none 0 0],[]⟩ 8 (by kernel_rfl) (by kernel_rfl) (by kernel_rfl) (by kernel_rfl)
def b1q:a0e (fun t u=>f0J u&&U5 en 20 t u) [22,26,45] [.list (.st 0),.st 4,.list (.st 6)]=true:=by kernel_rfl
def b11 {H:Type}{enc:TypeId×Value->H}{W:World}{held:Bool}{base:Nat}(vs:List Value)(ds:List (DataW H))(ps:List MemPlace)(hval:∀(j:Nat) t v,([22,26,45]:List Nat)[j]?=some t->vs[j]?=some v->Value.okWide en.P W .any base t v)(hA:DataW.TrodAll enc en.P W 0 (fun _=>true) held [22,26,45] vs ds ps)(hlt:∀p∈ps,p.block<W.heap.size)
  (hsz:∀(j:Nat) t d,([22,26,45]:List Nat)[j]?=some t->ds[j]?=some d->∀e q c A fuel ps',en.P.underlying t=some (.slice e)->DataW.trod enc en.P W 0 (fun _=>true) held fuel t (Value.slice A q c).cells.toList=some (d,ps')->q*en.P.bytesOf e<=140737488351232):∃x:HL en.D [.list (.st 0),.st 4,.list (.st 6)],c9 W [.list (.st 0),.st 4,.list (.st 6)] vs x/\O9 (V4 en 20) [.list (.st 0),.st 4,.list (.st 6)] x/\d0j en 140737488351232 [22,26,45] [.list (.st 0),.st 4,.list (.st 6)] x:=
 d08 K9 [22,26,45] [.list (.st 0),.st 4,.list (.st 6)] vs ds ps b1q hval hA hlt hsz
def a1R (hm:a1w):Rows.StreamTellsSaid:=
 OpenClaim.holds_of_wide 7 Tryz.f7 rfl rfl rfl rfl rfl rfl rfl ⟨rfl,rfl,rfl,rfl,rfl⟩ rfl rfl rfl rfl rfl b1S Tryz.func7 b1J
  (of_decide_eq_true (by kernel_rfl)) (by unfold Func.isWrapper;first|(rw[if_pos (by decide+kernel)];kernel_rfl)|(rw[if_neg (by decide+kernel)];exact⟨rfl,rfl⟩))
  (fun os started H enc _=>by
   refine j0c (s:=Rows.streamTellsSpec) (C:=Tryz.checked) (by kernel_rfl) started (by kernel_rfl) Tryz.func7 b1a rfl Tryz.underlying4 rfl a1K
    (b1r os) ?_ ?_
   ·intro W args ds p hA;rw[Tryz.params7]at hA;obtain⟨v0,vs0,d0,ds0,p0,q0,e0,rfl,rfl,h0,r0⟩:=trodAll_cons hA;obtain⟨v1,vs1,d1,ds1,p1,q1,e1,rfl,rfl,h1,r1⟩:=trodAll_cons r0;obtain⟨v2,vs2,d2,ds2,p2,q2,e2,rfl,rfl,h2,r2⟩:=trodAll_cons r1;obtain⟨_,rfl,_⟩:=trodAll_nil r2;exact⟨rfl,rfl,rfl⟩
   ·intro W base args ds p hval hA hlt hsz;rw[Tryz.params7]at hval hsz hA;obtain⟨x,h1,h2,h3⟩:=b11 (base:=base) args.toList ds p (fun j t v ht hv=>hval j t v (by simpa using ht) (by simpa using hv)) hA hlt (fun j t d ht hd e q c A fuel ps hT htr=>j0F hT htr hsz ht hd);obtain⟨F,hF⟩:=hm x.1 x.2.1 x.2.2.1 h2.1 h2.2.1 h2.2.2.1 h3.1 h3.2.2.1;have hc:=g0L (E:=en) (us:=[.list (.st 0),.st 4,.list (.st 6)]) (b16 F) h1 hF;rw[Array.toArray_toList]at hc;exact hc)
