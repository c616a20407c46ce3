/- P. Its conditions: none. -/
import Derived.Test.YtihmgaccbcfgjaaGreatRows
import Derived.Test.YtihmgaccbcfgjaaGreatQG31
import Derived.Test.YtihmgaccbcfgjaaGreatQX15
import Derived.Test.YtihmgaccbcfgjaaGreatQDSubsetSteps
set_option linter.all false
set_option maxRecDepth 100000
namespace Go.Proofs.YtihmgaccbcfgjaaGreat
open Go.V Go.RowKit Go.ChangeShapes Go.WideShapes Go.ChangeAt Go.X
def P0G:joinedFacts Tryz.checked.prog 6 Tryz.f6 Rows.subsetStepsSpec Rows.subsetStepsRow=true:=Z'
def P0E:Tryz.checked.prog.funcNamed Rows.subsetStepsRow.func=some 6:=Z'
def O02:laidOutB Tryz.checked.prog=true:=Z'
def P09:(Tryz.f6.params.toList.all fun t=>Tryz.checked.prog.readableRec t&&decide (t<Tryz.checked.prog.types.size))=true:=Z'
def Q0k (os:Os){H:Type}{enc:TypeId×Value->H}:∃(w:World) (tape:Tape) (i:Input),w.os=os/\(w.forCall tape i).Shaped Tryz.checked.prog/\i.vars=[]/\Input.okWide Tryz.checked.prog (w.forCall tape i) .any w.heap.size 6 i/\
   Rows.subsetStepsSpec.pre6 enc Tryz.checked.prog Tryz.f6 [] false (w.forCall tape i).memory i.args/\({ modest:=false }:Assume).holds Tryz.checked.prog (lone (Frame.enter Tryz.checked.prog 6 i.args .normal) [] (w.forCall tape i)):=
 ChangeSpec.witness6 (enc:=enc) (C:=Tryz.checked) false ⟨#[],#[.slice none 0 0,.int .i64 0,.slice none 0 0],[]⟩ 8 Z' Z' Z' Z'
def P0m:g0l (fun t u=>u0y u&&a0f en 20 t u) [31,3,43] [.list (.st 3),.int .i64,.list (.int .u8)]=true:=Z'
def N0g {H:Type}{enc:TypeId×Value->H}{W:World}{held:Bool}{base:Nat}(vs:List Value)(h:List (DataW H))(ps:List MemPlace)(a:∀(j:Nat) t v,([31,3,43]:List Nat)[j]?=some t->vs[j]?=some v->Value.okWide en.P W .any base t v)(i:DataW.TrodAll enc en.P W 0 (fun _=>true) held [31,3,43] vs h ps)(f:∀p∈ps,p.block<W.heap.size)
  (b:∀(j:Nat) t d,([31,3,43]:List Nat)[j]?=some t->h[j]?=some d->∀e q c A fuel g,en.P.underlying t=some (.slice e)->DataW.trod enc en.P W 0 (fun _=>true) held fuel t (Value.slice A q c).cells.toList=some (d,g)->q*en.P.bytesOf e<=140737488351232):∃x:HL en.D [.list (.st 3),.int .i64,.list (.int .u8)],e03 W [.list (.st 3),.int .i64,.list (.int .u8)] vs x/\wfF (wfD en 20) [.list (.st 3),.int .i64,.list (.int .u8)] x/\n0I en 140737488351232 [31,3,43] [.list (.st 3),.int .i64,.list (.int .u8)] x:=
 u0t c0m [31,3,43] [.list (.st 3),.int .i64,.list (.int .u8)] vs h ps P0m a i f b
def O0N (hm:M0J):Rows.SubsetStepsSaid:=
 OpenClaim.holds_of_wide 6 Tryz.f6 rfl rfl rfl rfl rfl rfl rfl ⟨rfl,rfl,rfl,rfl,rfl⟩ rfl rfl rfl rfl rfl P0E Tryz.func6 P0G
  (of_decide_eq_true Z') (by unfold Func.isWrapper;first|(rw[if_pos (by decide+kernel)];kernel_rfl)|(rw[if_neg (by decide+kernel)];exact⟨rfl,rfl⟩))
  (fun os started H enc _=>by
   refine A0X (s:=Rows.subsetStepsSpec) (C:=Tryz.checked) Z' started Z' Tryz.func6 O02 rfl Tryz.underlying4 rfl P09
    (Q0k os) ?_ ?_
   ·intro W args m p f;rw[Tryz.params6]at f;obtain⟨v0,z,d0,J,p0,q0,e0,rfl,rfl,h0,r0⟩:=trodAll_cons f;obtain⟨v1,I,d1,r,p1,q1,e1,rfl,rfl,h1,r1⟩:=trodAll_cons r0;obtain⟨v2,u,d2,w,U,q2,e2,rfl,rfl,g,r2⟩:=trodAll_cons r1;obtain⟨_,rfl,_⟩:=trodAll_nil r2;exact⟨rfl,rfl,rfl⟩
   ·intro W base args m p a f i b;rw[Tryz.params6]at a b f;obtain⟨x,h1,g,n⟩:=N0g (base:=base) args.toList m p (fun j t v h o=>a j t v (by simpa using h) (by simpa using o)) f i (fun j t d h hd e q c A fuel ps y k=>B0L y k b h hd);obtain⟨F,R⟩:=hm x.1 x.2.1 x.2.2.1 g.1 g.2.1 g.2.2.1 n.1 n.2.2.1;have l:=F0b (E:=en) (us:=[.list (.st 3),.int .i64,.list (.int .u8)]) (O0x F) h1 R;rw[Array.toArray_toList]at l;exact l)
