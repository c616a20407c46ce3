/- P. Its conditions: none. -/
import Derived.Test.YtdficaoajalfaaaGreatRows
import Derived.Test.YtdficaoajalfaaaGreatCCt
import Derived.Test.YtdficaoajalfaaaGreatCX15
import Derived.Test.YtdficaoajalfaaaGreatCDHuntFinds
set_option linter.all false
set_option maxRecDepth 100000
namespace Go.Proofs.YtdficaoajalfaaaGreat
open Go.V Go.RowKit Go.ChangeShapes Go.WideShapes Go.ChangeAt Go.X
def J0i:joinedFacts Tryz.checked.prog 8 Tryz.f8 Rows.huntFindsSpec Rows.huntFindsRow=true:=X'
def I0B:Tryz.checked.prog.funcNamed Rows.huntFindsRow.func=some 8:=X'
def I0L:laidOutB Tryz.checked.prog=true:=X'
def K0O:(Tryz.f8.params.toList.all fun t=>Tryz.checked.prog.readableRec t&&decide (t<Tryz.checked.prog.types.size))=true:=X'
def L0i (os:Os){H:Type}{enc:TypeId×Value->H}:∃(w:World) (tape:Tape) (i:Input),w.os=os/\(w.forCall tape i).Shaped Tryz.checked.prog/\i.vars=[]/\Input.okWide Tryz.checked.prog (w.forCall tape i) .any w.heap.size 8 i/\
   Rows.huntFindsSpec.pre6 enc Tryz.checked.prog Tryz.f8 [] false (w.forCall tape i).memory i.args/\({ modest:=false }:Assume).holds Tryz.checked.prog (lone (Frame.enter Tryz.checked.prog 8 i.args .normal) [] (w.forCall tape i)):=
 ChangeSpec.witness6 (enc:=enc) (C:=Tryz.checked) false ⟨#[],#[.slice none 0 0,.slice none 0 0],[]⟩ 8 X' X' X' X'
def K0c:f0r (fun t u=>p03 u&&T9 en 20 t u) [22,23] [.list (.st 0),.list (.int .u8)]=true:=X'
def K0n {H:Type}{enc:TypeId×Value->H}{W:World}{held:Bool}{base:Nat}(vs:List Value)(f:List (DataW H))(ps:List MemPlace)(a:∀(j:Nat) t v,([22,23]:List Nat)[j]?=some t->vs[j]?=some v->Value.okWide en.P W .any base t v)(i:DataW.TrodAll enc en.P W 0 (fun _=>true) held [22,23] vs f ps)(g:∀p∈ps,p.block<W.heap.size)
  (b:∀(j:Nat) t d,([22,23]:List Nat)[j]?=some t->f[j]?=some d->∀e q c A fuel h,en.P.underlying t=some (.slice e)->DataW.trod enc en.P W 0 (fun _=>true) held fuel t (Value.slice A q c).cells.toList=some (d,h)->q*en.P.bytesOf e<=140737488351232):∃x:HL en.D [.list (.st 0),.list (.int .u8)],e0T W [.list (.st 0),.list (.int .u8)] vs x/\wfF (wfD en 20) [.list (.st 0),.list (.int .u8)] x/\l0r en 140737488351232 [22,23] [.list (.st 0),.list (.int .u8)] x:=
 q0Q b0N [22,23] [.list (.st 0),.list (.int .u8)] vs f ps K0c a i g b
def I0O (hm:I0A):Rows.HuntFindsSaid:=
 OpenClaim.holds_of_wide 8 Tryz.f8 rfl rfl rfl rfl rfl rfl rfl ⟨rfl,rfl,rfl,rfl,rfl⟩ rfl rfl rfl rfl rfl I0B Tryz.func8 J0i
  (of_decide_eq_true X') (by unfold Func.isWrapper;first|(rw[if_pos (by decide+kernel)];kernel_rfl)|(rw[if_neg (by decide+kernel)];exact⟨rfl,rfl⟩))
  (fun os started H enc _=>by
   refine C0X (s:=Rows.huntFindsSpec) (C:=Tryz.checked) X' started X' Tryz.func8 I0L rfl Tryz.underlying4 rfl K0O
    (L0i os) ?_ ?_
   ·intro W args l p f;rw[Tryz.params8]at f;obtain⟨v0,z,d0,w,p0,q0,e0,rfl,rfl,U,r⟩:=trodAll_cons f;obtain⟨v1,u,d1,y,p1,q1,R,rfl,rfl,h1,r1⟩:=trodAll_cons r;obtain⟨_,rfl,_⟩:=trodAll_nil r1;exact⟨rfl,rfl,rfl⟩
   ·intro W base args l p a f i b;rw[Tryz.params8]at a b f;obtain⟨x,h1,m,n⟩:=K0n (base:=base) args.toList l p (fun j t v h I=>a j t v (by simpa using h) (by simpa using I)) f i (fun j t d h hd e q c A fuel ps o g=>E0a o g b h hd);obtain⟨F,J⟩:=hm x.1 x.2.1 m.1 m.2.1 n.1 n.2.1;have k:=z08 (E:=en) (us:=[.list (.st 0),.list (.int .u8)]) (J06 F) h1 J;rw[Array.toArray_toList]at k;exact k)
