/- P. Its conditions: none. -/
import Derived.Test.YtihmgaccbcfgjaaGreatRows
import Derived.Test.YtihmgaccbcfgjaaGreatRG30
import Derived.Test.YtihmgaccbcfgjaaGreatRX15
import Derived.Test.YtihmgaccbcfgjaaGreatRDDriveMeans
set_option linter.all false
set_option maxRecDepth 100000
namespace Go.Proofs.YtihmgaccbcfgjaaGreat
open Go.V Go.RowKit Go.ChangeShapes Go.WideShapes Go.ChangeAt Go.X
def W00:joinedFacts Tryz.checked.prog 8 Tryz.f8 Rows.driveMeansSpec Rows.driveMeansRow=true:=X'
def X0g:Tryz.checked.prog.funcNamed Rows.driveMeansRow.func=some 8:=X'
def X0c:laidOutB Tryz.checked.prog=true:=X'
def W0J:(Tryz.f8.params.toList.all fun t=>Tryz.checked.prog.readableRec t&&decide (t<Tryz.checked.prog.types.size))=true:=X'
def V0Y (os:Os){H:Type}{enc:TypeId×Value->H}:∃(w:World) (tape:Tape) (i:Input),w.os=os/\(w.forCall tape i).Shaped Tryz.checked.prog/\i.vars=[]/\Input.okWide Tryz.checked.prog (w.forCall tape i) .any w.heap.size 8 i/\
   Rows.driveMeansSpec.pre6 enc Tryz.checked.prog Tryz.f8 [] false (w.forCall tape i).memory i.args/\({ modest:=false }:Assume).holds Tryz.checked.prog (lone (Frame.enter Tryz.checked.prog 8 i.args .normal) [] (w.forCall tape i)):=
 ChangeSpec.witness6 (enc:=enc) (C:=Tryz.checked) false ⟨#[],#[.slice none 0 0,.slice none 0 0],[]⟩ 8 X' X' X' X'
def V0s:g0l (fun t u=>u0y u&&a0f en 20 t u) [31,43] [.list (.st 3),.list (.int .u8)]=true:=X'
def W0s {H:Type}{enc:TypeId×Value->H}{W:World}{held:Bool}{base:Nat}(vs:List Value)(f:List (DataW H))(ps:List MemPlace)(a:∀(j:Nat) t v,([31,43]:List Nat)[j]?=some t->vs[j]?=some v->Value.okWide en.P W .any base t v)(i:DataW.TrodAll enc en.P W 0 (fun _=>true) held [31,43] vs f ps)(h:∀p∈ps,p.block<W.heap.size)
  (g:∀(j:Nat) t d,([31,43]:List Nat)[j]?=some t->f[j]?=some d->∀e q c A fuel b,en.P.underlying t=some (.slice e)->DataW.trod enc en.P W 0 (fun _=>true) held fuel t (Value.slice A q c).cells.toList=some (d,b)->q*en.P.bytesOf e<=140737488351232):∃x:HL en.D [.list (.st 3),.list (.int .u8)],e03 W [.list (.st 3),.list (.int .u8)] vs x/\wfF (wfD en 20) [.list (.st 3),.list (.int .u8)] x/\n0I en 140737488351232 [31,43] [.list (.st 3),.list (.int .u8)] x:=
 u0t c0m [31,43] [.list (.st 3),.list (.int .u8)] vs f ps V0s a i h g
def W0Z (hm:V0f):Rows.DriveMeansSaid:=
 OpenClaim.holds_of_wide 8 Tryz.f8 rfl rfl rfl rfl rfl rfl rfl ⟨rfl,rfl,rfl,rfl,rfl⟩ rfl rfl rfl rfl rfl X0g Tryz.func8 W00
  (of_decide_eq_true X') (by unfold Func.isWrapper;first|(rw[if_pos (by decide+kernel)];kernel_rfl)|(rw[if_neg (by decide+kernel)];exact⟨rfl,rfl⟩))
  (fun os started H enc _=>by
   refine A0X (s:=Rows.driveMeansSpec) (C:=Tryz.checked) X' started X' Tryz.func8 X0c rfl Tryz.underlying4 rfl W0J
    (V0Y os) ?_ ?_
   ·intro W args m p f;rw[Tryz.params8]at f;obtain⟨v0,o,d0,z,p0,q0,e0,rfl,rfl,R,r0⟩:=trodAll_cons f;obtain⟨v1,u,d1,w,p1,U,J,rfl,rfl,h1,r1⟩:=trodAll_cons r0;obtain⟨_,rfl,_⟩:=trodAll_nil r1;exact⟨rfl,rfl,rfl⟩
   ·intro W base args m p a f i b;rw[Tryz.params8]at a b f;obtain⟨x,h1,l,k⟩:=W0s (base:=base) args.toList m p (fun j t v g r=>a j t v (by simpa using g) (by simpa using r)) f i (fun j t d g hd e q c A fuel ps I h=>B0L I h b g hd);obtain⟨F,y⟩:=hm x.1 x.2.1 l.1 l.2.1 k.1 k.2.1;have n:=F0b (E:=en) (us:=[.list (.st 3),.list (.int .u8)]) (W0U F) h1 y;rw[Array.toArray_toList]at n;exact n)
