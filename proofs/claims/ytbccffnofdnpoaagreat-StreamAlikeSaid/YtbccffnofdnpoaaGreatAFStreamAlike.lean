/- P. Its conditions: none. -/
import Derived.Test.YtbccffnofdnpoaaGreatRows
import Derived.Test.YtbccffnofdnpoaaGreatAG33
import Derived.Test.YtbccffnofdnpoaaGreatAX15
import Derived.Test.YtbccffnofdnpoaaGreatADStreamAlike
set_option linter.all false
set_option maxRecDepth 100000
namespace Go.Proofs.YtbccffnofdnpoaaGreat
open Go.V Go.RowKit Go.ChangeShapes Go.WideShapes Go.ChangeAt Go.X
def I03:joinedFacts Tryz.checked.prog 3 Tryz.f3 Rows.streamAlikeSpec Rows.streamAlikeRow=true:=Y'
def G0m:Tryz.checked.prog.funcNamed Rows.streamAlikeRow.func=some 3:=Y'
def C0g:laidOutB Tryz.checked.prog=true:=Y'
def I04:(Tryz.f3.params.toList.all fun t=>Tryz.checked.prog.readableRec t&&decide (t<Tryz.checked.prog.types.size))=true:=Y'
def G0g (os:Os){H:Type}{enc:TypeId×Value->H}:∃(w:World) (tape:Tape) (i:Input),w.os=os/\(w.forCall tape i).Shaped Tryz.checked.prog/\i.vars=[]/\Input.okWide Tryz.checked.prog (w.forCall tape i) .any w.heap.size 3 i/\
   Rows.streamAlikeSpec.pre6 enc Tryz.checked.prog Tryz.f3 [] false (w.forCall tape i).memory i.args/\({ modest:=false }:Assume).holds Tryz.checked.prog (lone (Frame.enter Tryz.checked.prog 3 i.args .normal) [] (w.forCall tape i)):=
 ChangeSpec.witness6 (enc:=enc) (C:=Tryz.checked) false ⟨#[],#[.slice none 0 0,.slice none 0 0],[]⟩ 8 Y' Y' Y' Y'
def I0j:g0T (fun t u=>v0N u&&a0C en 20 t u) [22,23] [.list (.st 0),.list (.st 1)]=true:=Y'
def E0S {H:Type}{enc:TypeId×Value->H}{W:World}{held:Bool}{base:Nat}(vs:List Value)(f:List (DataW H))(ps:List MemPlace)(a:∀(j:Nat) t v,([22,23]:List Nat)[j]?=some t->vs[j]?=some v->Value.okWide en.P W .any base t v)(i:DataW.TrodAll enc en.P W 0 (fun _=>true) held [22,23] vs f ps)(h:∀p∈ps,p.block<W.heap.size)
  (b:∀(j:Nat) t d,([22,23]:List Nat)[j]?=some t->f[j]?=some d->∀e q c A fuel g,en.P.underlying t=some (.slice e)->DataW.trod enc en.P W 0 (fun _=>true) held fuel t (Value.slice A q c).cells.toList=some (d,g)->q*en.P.bytesOf e<=140737488351232):∃x:HL en.D [.list (.st 0),.list (.st 1)],f0k W [.list (.st 0),.list (.st 1)] vs x/\wfF (wfD en 20) [.list (.st 0),.list (.st 1)] x/\s0Y en 140737488351232 [22,23] [.list (.st 0),.list (.st 1)] x:=
 y0D b0j [22,23] [.list (.st 0),.list (.st 1)] vs f ps I0j a i h b
def K0e (hm:u0D):Rows.StreamAlikeSaid:=
 OpenClaim.holds_of_wide 3 Tryz.f3 rfl rfl rfl rfl rfl rfl rfl ⟨rfl,rfl,rfl,rfl,rfl⟩ rfl rfl rfl rfl rfl G0m Tryz.func3 I03
  (of_decide_eq_true Y') (by unfold Func.isWrapper;first|(rw[if_pos (by decide+kernel)];kernel_rfl)|(rw[if_neg (by decide+kernel)];exact⟨rfl,rfl⟩))
  (fun os started H enc _=>by
   refine H0W (s:=Rows.streamAlikeSpec) (C:=Tryz.checked) Y' started Y' Tryz.func3 C0g rfl Tryz.underlying4 rfl I04
    (G0g os) ?_ ?_
   ·intro W args l p f;rw[Tryz.params3]at f;obtain⟨v0,w,d0,z,p0,q0,e0,rfl,rfl,U,r0⟩:=trodAll_cons f;obtain⟨v1,u,d1,o,p1,R,J,rfl,rfl,h1,r1⟩:=trodAll_cons r0;obtain⟨_,rfl,_⟩:=trodAll_nil r1;exact⟨rfl,rfl,rfl⟩
   ·intro W base args l p a f h b;rw[Tryz.params3]at a b f;obtain⟨x,h1,n,k⟩:=E0S (base:=base) args.toList l p (fun j t v i y=>a j t v (by simpa using i) (by simpa using y)) f h (fun j t d i hd e q c A fuel ps r g=>A0R r g b i hd);obtain⟨F,I⟩:=hm x.1 x.2.1 n.1 n.2.1 k.1 k.2.1;have m:=A0A (E:=en) (us:=[.list (.st 0),.list (.st 1)]) (G0A F) h1 I;rw[Array.toArray_toList]at m;exact m)
