/- P. Its conditions: none. -/
import Derived.Test.YtihmgaccbcfgjaaGreatRows
import Derived.Test.YtihmgaccbcfgjaaGreatQG31
import Derived.Test.YtihmgaccbcfgjaaGreatQX15
import Derived.Test.YtihmgaccbcfgjaaGreatQDSubsetBuilds
set_option linter.all false
set_option maxRecDepth 100000
namespace Go.Proofs.YtihmgaccbcfgjaaGreat
open Go.V Go.RowKit Go.ChangeShapes Go.WideShapes Go.ChangeAt Go.X
def Q0Y:joinedFacts Tryz.checked.prog 4 Tryz.f4 Rows.subsetBuildsSpec Rows.subsetBuildsRow=true:=Z'
def R0H:Tryz.checked.prog.funcNamed Rows.subsetBuildsRow.func=some 4:=Z'
def R0P:laidOutB Tryz.checked.prog=true:=Z'
def R0v:(Tryz.f4.params.toList.all fun t=>Tryz.checked.prog.readableRec t&&decide (t<Tryz.checked.prog.types.size))=true:=Z'
def R0U (os:Os){H:Type}{enc:TypeId×Value->H}:∃(w:World) (tape:Tape) (i:Input),w.os=os/\(w.forCall tape i).Shaped Tryz.checked.prog/\i.vars=[]/\Input.okWide Tryz.checked.prog (w.forCall tape i) .any w.heap.size 4 i/\
   Rows.subsetBuildsSpec.pre6 enc Tryz.checked.prog Tryz.f4 [] false (w.forCall tape i).memory i.args/\({ modest:=false }:Assume).holds Tryz.checked.prog (lone (Frame.enter Tryz.checked.prog 4 i.args .normal) [] (w.forCall tape i)):=
 ChangeSpec.witness6 (enc:=enc) (C:=Tryz.checked) false ⟨#[],#[.slice none 0 0,.agg #[.int .i64 0,.int .i64 0]],[]⟩ 8 Z' Z' Z' Z'
def Q01:g0l (fun t u=>u0y u&&a0f en 20 t u) [31,33] [.list (.st 3),.st 4]=true:=Z'
def R0E {H:Type}{enc:TypeId×Value->H}{W:World}{held:Bool}{base:Nat}(vs:List Value)(h:List (DataW H))(ps:List MemPlace)(a:∀(j:Nat) t v,([31,33]:List Nat)[j]?=some t->vs[j]?=some v->Value.okWide en.P W .any base t v)(i:DataW.TrodAll enc en.P W 0 (fun _=>true) held [31,33] vs h ps)(f:∀p∈ps,p.block<W.heap.size)
  (b:∀(j:Nat) t d,([31,33]:List Nat)[j]?=some t->h[j]?=some d->∀e q c A fuel g,en.P.underlying t=some (.slice e)->DataW.trod enc en.P W 0 (fun _=>true) held fuel t (Value.slice A q c).cells.toList=some (d,g)->q*en.P.bytesOf e<=140737488351232):∃x:HL en.D [.list (.st 3),.st 4],e03 W [.list (.st 3),.st 4] vs x/\wfF (wfD en 20) [.list (.st 3),.st 4] x/\n0I en 140737488351232 [31,33] [.list (.st 3),.st 4] x:=
 u0t c0m [31,33] [.list (.st 3),.st 4] vs h ps Q01 a i f b
def R0b (hm:Q0M):Rows.SubsetBuildsSaid:=
 OpenClaim.holds_of_wide 4 Tryz.f4 rfl rfl rfl rfl rfl rfl rfl ⟨rfl,rfl,rfl,rfl,rfl⟩ rfl rfl rfl rfl rfl R0H Tryz.func4 Q0Y
  (of_decide_eq_true Z') (by unfold Func.isWrapper;first|(rw[if_pos (by decide+kernel)];kernel_rfl)|(rw[if_neg (by decide+kernel)];exact⟨rfl,rfl⟩))
  (fun os started H enc _=>by
   refine A0X (s:=Rows.subsetBuildsSpec) (C:=Tryz.checked) Z' started Z' Tryz.func4 R0P rfl Tryz.underlying4 rfl R0v
    (R0U os) ?_ ?_
   ·intro W args l p f;rw[Tryz.params4]at f;obtain⟨v0,u,d0,y,p0,q0,e0,rfl,rfl,J,r0⟩:=trodAll_cons f;obtain⟨v1,w,d1,o,p1,R,U,rfl,rfl,h1,r1⟩:=trodAll_cons r0;obtain⟨_,rfl,_⟩:=trodAll_nil r1;exact⟨rfl,rfl,rfl⟩
   ·intro W base args l p a f h b;rw[Tryz.params4]at a b f;obtain⟨x,h1,m,I⟩:=R0E (base:=base) args.toList l p (fun j t v g n=>a j t v (by simpa using g) (by simpa using n)) f h (fun j t d g hd e q c A fuel ps r i=>B0L r i b g hd);obtain⟨F,z⟩:=hm x.1 x.2.1 m.1 m.2.1 I.1;have k:=F0b (E:=en) (us:=[.list (.st 3),.st 4]) (R0h F) h1 z;rw[Array.toArray_toList]at k;exact k)
