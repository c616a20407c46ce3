/- P. Its conditions: none. -/
import Derived.Test.YtmhooikfkhjijaaGreatRows
import Derived.Test.YtmhooikfkhjijaaGreatYCt
import Derived.Test.YtmhooikfkhjijaaGreatYX15
import Derived.Test.YtmhooikfkhjijaaGreatYDStreamPieces
set_option linter.all false
set_option maxRecDepth 100000
namespace Go.Proofs.YtmhooikfkhjijaaGreat
open Go.V Go.RowKit Go.ChangeShapes Go.WideShapes Go.ChangeAt Go.X
def P0F:joinedFacts Tryz.checked.prog 6 Tryz.f6 Rows.streamPiecesSpec Rows.streamPiecesRow=true:=by kernel_rfl
def Q0y:Tryz.checked.prog.funcNamed Rows.streamPiecesRow.func=some 6:=by kernel_rfl
def O0S:laidOutB Tryz.checked.prog=true:=by kernel_rfl
def P07:(Tryz.f6.params.toList.all fun t=>Tryz.checked.prog.readableRec t&&decide (t<Tryz.checked.prog.types.size))=true:=by kernel_rfl
def P08 (os:Os){H:Type}{enc:TypeId×Value->H}:∃(w:World) (tape:Tape) (i:Input),w.os=os/\(w.forCall tape i).Shaped Tryz.checked.prog/\i.vars=[]/\Input.okWide Tryz.checked.prog (w.forCall tape i) .any w.heap.size 6 i/\
   Rows.streamPiecesSpec.pre6 enc Tryz.checked.prog Tryz.f6 [] false (w.forCall tape i).memory i.args/\({ modest:=false }:Assume).holds Tryz.checked.prog (lone (Frame.enter Tryz.checked.prog 6 i.args .normal) [] (w.forCall tape i)):=
 ChangeSpec.witness6 (enc:=enc) (C:=Tryz.checked) false ⟨#[],#[.slice none 0 0,.slice none 0 0],[]⟩ 8 (by kernel_rfl) (by kernel_rfl) (by kernel_rfl) (by kernel_rfl)
def P0O:f0r (fun t u=>p03 u&&T9 en 20 t u) [22,45] [.list (.st 0),.list (.st 6)]=true:=by kernel_rfl
def P0q {H:Type}{enc:TypeId×Value->H}{W:World}{held:Bool}{base:Nat}(vs:List Value)(f:List (DataW H))(ps:List MemPlace)(a:∀(j:Nat) t v,([22,45]:List Nat)[j]?=some t->vs[j]?=some v->Value.okWide en.P W .any base t v)(i:DataW.TrodAll enc en.P W 0 (fun _=>true) held [22,45] vs f ps)(g:∀p∈ps,p.block<W.heap.size)
  (h:∀(j:Nat) t d,([22,45]:List Nat)[j]?=some t->f[j]?=some d->∀e q c A fuel b,en.P.underlying t=some (.slice e)->DataW.trod enc en.P W 0 (fun _=>true) held fuel t (Value.slice A q c).cells.toList=some (d,b)->q*en.P.bytesOf e<=140737488351232):∃x:HL en.D [.list (.st 0),.list (.st 6)],e0T W [.list (.st 0),.list (.st 6)] vs x/\wfF (wfD en 20) [.list (.st 0),.list (.st 6)] x/\l0r en 140737488351232 [22,45] [.list (.st 0),.list (.st 6)] x:=
 q0Q b0N [22,45] [.list (.st 0),.list (.st 6)] vs f ps P0O a i g h
def O0s (hm:N0V):Rows.StreamPiecesSaid:=
 OpenClaim.holds_of_wide 6 Tryz.f6 rfl rfl rfl rfl rfl rfl rfl ⟨rfl,rfl,rfl,rfl,rfl⟩ rfl rfl rfl rfl rfl Q0y Tryz.func6 P0F
  (of_decide_eq_true (by kernel_rfl)) (by unfold Func.isWrapper;first|(rw[if_pos (by decide+kernel)];kernel_rfl)|(rw[if_neg (by decide+kernel)];exact⟨rfl,rfl⟩))
  (fun os started H enc _=>by
   refine C0X (s:=Rows.streamPiecesSpec) (C:=Tryz.checked) (by kernel_rfl) started (by kernel_rfl) Tryz.func6 O0S rfl Tryz.underlying4 rfl P07
    (P08 os) ?_ ?_
   ·intro W args m p b;rw[Tryz.params6]at b;obtain⟨v0,w,d0,y,p0,q0,e0,rfl,rfl,h0,o⟩:=trodAll_cons b;obtain⟨v1,r,d1,J,p1,R,U,rfl,rfl,h1,r1⟩:=trodAll_cons o;obtain⟨_,rfl,_⟩:=trodAll_nil r1;exact⟨rfl,rfl,rfl⟩
   ·intro W base args m p a b h f;rw[Tryz.params6]at a f b;obtain⟨x,h1,l,n⟩:=P0q (base:=base) args.toList m p (fun j t v i z=>a j t v (by simpa using i) (by simpa using z)) b h (fun j t d i hd e q c A fuel ps u g=>E0a u g f i hd);obtain⟨F,I⟩:=hm x.1 x.2.1 l.1 l.2.1 n.1 n.2.1;have k:=z08 (E:=en) (us:=[.list (.st 0),.list (.st 6)]) (O0Q F) h1 I;rw[Array.toArray_toList]at k;exact k)
