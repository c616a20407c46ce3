/- P. Its conditions: none. -/
import Derived.Test.YtihmgaccbcfgjaaGreatRows
import Derived.Test.YtihmgaccbcfgjaaGreatTCt2
import Derived.Test.YtihmgaccbcfgjaaGreatTX15
import Derived.Test.YtihmgaccbcfgjaaGreatTDSubsetBudget
set_option linter.all false
set_option maxRecDepth 100000
namespace Go.Proofs.YtihmgaccbcfgjaaGreat
open Go.V Go.RowKit Go.ChangeShapes Go.WideShapes Go.ChangeAt Go.X
def A0I:joinedFacts Tryz.checked.prog 5 Tryz.f5 Rows.subsetBudgetSpec Rows.subsetBudgetRow=true:=Y'
def B0x:Tryz.checked.prog.funcNamed Rows.subsetBudgetRow.func=some 5:=Y'
def B0M:laidOutB Tryz.checked.prog=true:=Y'
def H0A:(Tryz.f5.params.toList.all fun t=>Tryz.checked.prog.readableRec t&&decide (t<Tryz.checked.prog.types.size))=true:=Y'
def z0Q (os:Os){H:Type}{enc:TypeId×Value->H}:∃(w:World) (tape:Tape) (i:Input),w.os=os/\(w.forCall tape i).Shaped Tryz.checked.prog/\i.vars=[]/\Input.okWide Tryz.checked.prog (w.forCall tape i) .any w.heap.size 5 i/\
   Rows.subsetBudgetSpec.pre6 enc Tryz.checked.prog Tryz.f5 [] false (w.forCall tape i).memory i.args/\({ modest:=false }:Assume).holds Tryz.checked.prog (lone (Frame.enter Tryz.checked.prog 5 i.args .normal) [] (w.forCall tape i)):=
 ChangeSpec.witness6 (enc:=enc) (C:=Tryz.checked) false ⟨#[],#[.slice none 0 0,.int .i64 0,.agg #[.int .u8 0,.int .u8 0]],[]⟩ 8 Y' Y' Y' Y'
def I02:g0l (fun t u=>u0y u&&a0f en 20 t u) [31,3,40] [.list (.st 3),.int .i64,.arr 2 (.int .u8)]=true:=Y'
def F0J {H:Type}{enc:TypeId×Value->H}{W:World}{held:Bool}{base:Nat}(vs:List Value)(g:List (DataW H))(ps:List MemPlace)(a:∀(j:Nat) t v,([31,3,40]:List Nat)[j]?=some t->vs[j]?=some v->Value.okWide en.P W .any base t v)(i:DataW.TrodAll enc en.P W 0 (fun _=>true) held [31,3,40] vs g ps)(h:∀p∈ps,p.block<W.heap.size)
  (b:∀(j:Nat) t d,([31,3,40]:List Nat)[j]?=some t->g[j]?=some d->∀e q c A fuel f,en.P.underlying t=some (.slice e)->DataW.trod enc en.P W 0 (fun _=>true) held fuel t (Value.slice A q c).cells.toList=some (d,f)->q*en.P.bytesOf e<=140737488351232):∃x:HL en.D [.list (.st 3),.int .i64,.arr 2 (.int .u8)],e03 W [.list (.st 3),.int .i64,.arr 2 (.int .u8)] vs x/\wfF (wfD en 20) [.list (.st 3),.int .i64,.arr 2 (.int .u8)] x/\n0I en 140737488351232 [31,3,40] [.list (.st 3),.int .i64,.arr 2 (.int .u8)] x:=
 u0t c0m [31,3,40] [.list (.st 3),.int .i64,.arr 2 (.int .u8)] vs g ps I02 a i h b
def F03 (hm:v02):Rows.SubsetBudgetSaid:=
 OpenClaim.holds_of_wide 5 Tryz.f5 rfl rfl rfl rfl rfl rfl rfl ⟨rfl,rfl,rfl,rfl,rfl⟩ rfl rfl rfl rfl rfl B0x Tryz.func5 A0I
  (of_decide_eq_true Y') (by unfold Func.isWrapper;first|(rw[if_pos (by decide+kernel)];kernel_rfl)|(rw[if_neg (by decide+kernel)];exact⟨rfl,rfl⟩))
  (fun os started H enc _=>by
   refine A0X (s:=Rows.subsetBudgetSpec) (C:=Tryz.checked) Y' started Y' Tryz.func5 B0M rfl Tryz.underlying4 rfl H0A
    (z0Q os) ?_ ?_
   ·intro W args m p f;rw[Tryz.params5]at f;obtain⟨v0,z,d0,w,p0,q0,e0,rfl,rfl,h0,r0⟩:=trodAll_cons f;obtain⟨v1,o,d1,n,p1,q1,e1,rfl,rfl,h1,r1⟩:=trodAll_cons r0;obtain⟨v2,J,d2,y,p2,U,e2,rfl,rfl,g,r2⟩:=trodAll_cons r1;obtain⟨_,rfl,_⟩:=trodAll_nil r2;exact⟨rfl,rfl,rfl⟩
   ·intro W base args m p a f k b;rw[Tryz.params5]at a b f;obtain⟨x,h1,g,u⟩:=F0J (base:=base) args.toList m p (fun j t v h r=>a j t v (by simpa using h) (by simpa using r)) f k (fun j t d h hd e q c A fuel ps I i=>B0L I i b h hd);obtain⟨F,R⟩:=hm x.1 x.2.1 x.2.2.1 g.1 g.2.1 g.2.2.1 u.1;have l:=F0b (E:=en) (us:=[.list (.st 3),.int .i64,.arr 2 (.int .u8)]) (I0g F) h1 R;rw[Array.toArray_toList]at l;exact l)
