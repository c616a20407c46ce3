/- Each contract holds. From what a row reads to what the walks take: numbers, slices, structs; and back: the frame of a law. Its conditions: none. -/
import Derived.Test.YtihmgaccbcfgjaaGreatRG31
import Derived.Test.YtihmgaccbcfgjaaGreatRG32
import Derived.Test.YtihmgaccbcfgjaaGreatRG02
import Derived.ProofKit
import Derived.SizedLaws
import Derived.Carry
import Derived.OpenShut
open List (forall_mem_cons)
set_option linter.all false
set_option maxRecDepth 100000
namespace Go.Proofs.YtihmgaccbcfgjaaGreat
open Go.V Go.RowKit Go.X
theorem A0O (F:Nat):G0 en (z0W F):=Rc.B0N F
theorem B0j (F:Nat):G0 en (A0f F):=n0t K9 (C:=A0H F) (k08 K9 (forall_mem_cons.2 ⟨A0O F,(forall_mem_cons.2 ⟨v06 F,(forall_mem_cons.2 ⟨A0x F,(forall_mem_cons.2 ⟨s0b F,(forall_mem_cons.2 ⟨A0V F,(fun _ h=>absurd h List.not_mem_nil)⟩)⟩)⟩)⟩)⟩)) fun x y h=>(A0W F x).trans h
theorem B0l (F:Nat):G0 en (A0I F):=n0t K9 (C:=A0B F) (k08 K9 (forall_mem_cons.2 ⟨k0k F,(forall_mem_cons.2 ⟨B0j F,(forall_mem_cons.2 ⟨A0O F,(forall_mem_cons.2 ⟨A0U F,(forall_mem_cons.2 ⟨v06 F,(forall_mem_cons.2 ⟨d0W F,(forall_mem_cons.2 ⟨A0x F,(forall_mem_cons.2 ⟨B0M F,(fun _ h=>absurd h List.not_mem_nil)⟩)⟩)⟩)⟩)⟩)⟩)⟩)⟩)) fun x y h=>(A0X F x).trans h
end Go.Proofs.YtihmgaccbcfgjaaGreat
namespace Go.V
open Go.RowKit Go.ChangeShapes Go.WideShapes Go.ChangeAt
def inK (k:IntKind) (x:Int):Prop:=k.min<=x/\x<=k.max
structure Rd (P:Program) (t:TypeId) {α:Type} (T:Ty α) (wf:α->Prop):Prop where
 get:∀ {H:Type} {enc:TypeId×Value->H} {W:World} {sp:Nat->Bool} {held:Bool} {fuel:Nat} {cs:List Value} {d:DataW H} {ps:List MemPlace},
  DataW.trod enc P W 0 sp held fuel t cs=some (d,ps)->(∀ p∈ps,p.block<W.heap.size)->∃ x,T.R W.heap L3 cs x/\wf x
section
variable {P:Program} {t e:TypeId}
theorem Rd.int {k:IntKind} (ht:P.underlying t=some (.int k)):Rd P t (J1 k) (inK k):=⟨by
 intro H enc W sp held fuel cs d ps h _;cases fuel with
 |zero=>simp [DataW.trod] at h
 |
  succ f=>
  simp only [DataW.trod,ht] at h;split at h<;>simp_all
  obtain ⟨⟨rfl,hw⟩,_⟩:=h;simp only [Lit.wf,Bool.and_eq_true,decide_eq_true_eq] at hw;exact ⟨_,rfl,hw⟩⟩
theorem Rd.bool (ht:P.underlying t=some .bool):Rd P t c0g (fun _=>True):=⟨fun h _=>by
 obtain ⟨b,rfl,_⟩:=DataW.trod_bool ht h;exact ⟨b,rfl,trivial⟩⟩
theorem p0y {α β:Type} {f:α->Option β}:∀ {l:List α} {r:List β},l.mapM f=some r->l.length=r.length/\∀ (i:Nat) (x:α),l[i]?=some x->∃ y,r[i]?=some y/\f x=some y
 |[],r,h=>by simp at h;subst h;simp
 |
  x :: xs,r,h=>by
  rw [List.mapM_cons] at h;cases hx:f x with
  |none=>simp [hx] at h
  |
   some y=>
   cases hxs:xs.mapM f with
   |none=>simp [hx,hxs] at h
   |
    some ys=>
    simp [hx,hxs] at h;subst h;obtain ⟨h1,h2⟩:=p0y hxs;refine ⟨by simp [h1],fun i z hz=>?_⟩;cases i with
    |zero=>simp at hz;subst hz;exact ⟨y,rfl,hx⟩
    |succ i=>simpa using h2 i z (by simpa using hz)
theorem cells?_get {W:World} {base:Nat} {a:Addr} {n:Nat} {cs:List Value} (h:W.cells? base a n=some cs):cs.length=n/\∀ (j:Nat) (v:Value),cs[j]?=some v->W.cell? (a.add j)=some v:=by
 unfold World.cells? at h;split at h
 ·obtain ⟨h1,h2⟩:=p0y h;simp at h1;refine ⟨h1.symm,fun j v hj=>?_⟩;have hl:j<n:=by
   rcases Nat.lt_or_ge j n with h | h
   ·exact h
   ·rw [List.getElem?_eq_none (by omega)] at hj;cases hj
  obtain ⟨y,hy,hc⟩:=h2 j j (by simp [hl]);rw [hy] at hj;cases hj;exact hc
 ·cases h
theorem h0B {α:Type} {Q:Nat->α->Prop}:∀ (n:Nat),(∀ i,i<n->∃ x,Q i x)->∃ xs:List α,xs.length=n/\∀ (i:Nat) (x:α),xs[i]?=some x->Q i x
 |0,_=>⟨[],rfl,fun i x h=>by simp at h⟩
 |
  n+1,h=>by
  obtain ⟨xs,hl,hx⟩:=h0B n (fun i hi=>h i (by omega));obtain ⟨y,hy⟩:=h n (by omega);refine ⟨xs++[y],by simp [hl],fun i x hi=>?_⟩;rcases Nat.lt_or_ge i xs.length with h1 | h1
  ·rw [List.getElem?_append_left h1] at hi;exact hx i x hi
  ·rw [List.getElem?_append_right h1] at hi;have:i-xs.length=0:=by
    rcases Nat.eq_zero_or_pos (i-xs.length) with h | h
    ·exact h
    ·rw [List.getElem?_eq_none (by simp;omega)] at hi;cases hi
   rw [this] at hi;simp at hi;subst hi;have:i=n:=by omega
   subst this;exact hy
theorem Rd.slice {α:Type} {T:Ty α} {wf:α->Prop} (ht:P.underlying t=some (.slice e)) (hE:P.cellsOf e=T.sz) (hsz:0<T.sz) (R:Rd P e T wf):Rd P t (Q2 T) (fun l=>∀ x∈l,wf x):=⟨by
 intro H enc W sp held fuel cs d ps h hp;rcases DataW.trod_slice ht h with ⟨rfl,_⟩ | ⟨a,len,cap,elems,rest,f,rfl,rfl,hx,_,hle,_,hel,hget,_,_⟩
 ·exact ⟨[],⟨none,0,rfl,Sl.nil⟩,by simp⟩
 ·cases hx;have hrow:∀ j,j<len*P.cellsOf e->MemPlace.cell a.block (a.off+j)∈MemPlace.row a ((elems.length+rest.length)*P.cellsOf e):=fun j hj=>MemPlace.mem_row.2 ⟨j,Nat.lt_of_lt_of_le hj (Nat.mul_le_mul_right _ (by omega)),rfl⟩;have key:∀ i,i<len->∃ x,(∃ cs,T.R W.heap L3 cs x/\∀ j v,cs[j]?=some v->W.cell? ((a.add (i*P.cellsOf e)).add j)=some v)/\wf x:=fun i hi=>by
   have hf:=hget i hi;rw [List.getElem?_eq_getElem (by omega)] at hf;simp only [Option.bind_eq_some_iff] at hf;obtain ⟨cs,hcs,htr⟩:=hf;obtain ⟨x,hx,hw⟩:=R.get htr (fun p hp'=>hp p (by
    simp only [List.mem_append,List.mem_flatMap];exact .inr ⟨_,.inl (List.getElem_mem _),hp'⟩))
   exact ⟨x,⟨cs,hx,(cells?_get hcs).2⟩,hw⟩
  obtain ⟨xs,hxl,hxs⟩:=h0B len key;have hspot:xs≠[]->∃ b o,a=⟨b,o,none⟩/\b<W.heap.size:=fun hne=>by
   have h0:0<len:=by
    rcases Nat.eq_zero_or_pos len with h | h
    ·exact absurd (List.eq_nil_of_length_eq_zero (hxl.trans h)) hne
    ·exact h
   obtain ⟨x,⟨⟨cs,hR,hc⟩,_⟩⟩:=key 0 h0;have hcl:=T.len hR;have h1:=hc 0 cs[0] (by simp [hcl,hsz]);obtain ⟨b,o,spot⟩:=a;have:spot=none:=by
    have:=World.cell?_spot h1;simpa [Addr.add] using this
   subst this;refine ⟨b,o,rfl,?_⟩;have:=hp (.cell b (o+0)) (by
    simp only [List.mem_append];exact .inl (hrow 0 (Nat.mul_pos h0 (by omega))))
   exact this
  subst hxl;refine ⟨xs,⟨some a,cap,rfl,hle,fun hne=>?_,fun i x hx=>?_⟩,fun x hx=>?_⟩
  ·obtain ⟨b,o,rfl,hb⟩:=hspot hne;exact ⟨b,o,rfl,hb,fun h=>h⟩
  ·have hne:xs≠[]:=by rintro rfl;simp at hx
   obtain ⟨b,o,rfl,hb⟩:=hspot hne;obtain ⟨⟨cs,hR,hc⟩,_⟩:=hxs i x hx;refine ⟨b,o,cs,rfl,hR,fun j v hj=>?_⟩;have:=hc j v hj;rw [w0b,hE] at this;exact this
  ·obtain ⟨i,hi⟩:=List.getElem?_of_mem hx;exact (hxs i x hi).2⟩
theorem v0M {H:Type} {enc:TypeId×Value->H} {W:World} {sp:Nat->Bool} {held:Bool} {fuel:Nat} {cs:List Value} {d:DataW H} {ps:List MemPlace} {fs:Array Field} (ht:P.underlying t=some (.struct fs))
  (h:DataW.trod enc P W 0 sp held fuel t cs=some (d,ps)) (hp:∀ p∈ps,p.block<W.heap.size) :
  cs.length=P.cellsOf t/\∀ (i:Nat) (f:Field),fs[i]?=some f->∃ n d' ps',DataW.trod enc P W 0 sp held n f.type ((cs.drop f.offset).take (P.cellsOf f.type))=some (d',ps')/\∀ p∈ps',p.block<W.heap.size:=by
 obtain ⟨xs,n,rfl,hx,hl,hxl,hget⟩:=DataW.trod_struct ht h;cases hx;refine ⟨hl,fun i f hf=>?_⟩;have hi:i<fs.size:=by
  rcases Nat.lt_or_ge i fs.size with h | h
  ·exact h
  ·rw [Array.getElem?_eq_none h] at hf;cases hf
 have:=hget i f hf;rw [List.getElem?_eq_getElem (by omega)] at this;exact ⟨n,_,_,this,fun p hp'=>hp p (List.mem_flatMap.2 ⟨_,List.getElem_mem _,hp'⟩)⟩
theorem Rd.field {α:Type} {T:Ty α} {wf:α->Prop} {f:Field} {H:Type} {enc:TypeId×Value->H} {W:World} {sp:Nat->Bool} {held:Bool} {cs:List Value} (R:Rd P f.type T wf)
  (h:∃ n d' ps',DataW.trod enc P W 0 sp held n f.type ((cs.drop f.offset).take (P.cellsOf f.type))=some (d',ps')/\∀ p∈ps',p.block<W.heap.size) :
  ∃ x,T.R W.heap L3 ((cs.drop f.offset).take (P.cellsOf f.type)) x/\wf x:=by
 obtain ⟨n,d',ps',h1,h2⟩:=h;exact R.get h1 h2
theorem l0z {H:Type} {enc:TypeId×Value->H} (hl:laidOutB P=true) {W W':World} (hb:Below W.heap.size W W'):∀ {ts:List TypeId} {vs:List Value} {ds:List (DataW H)} {ps:List MemPlace},
  (ts.all fun t=>P.readableRec t&&decide (t<P.types.size))=true->DataW.TrodAll enc P W 0 (fun _=>true) true ts vs ds ps->(∀ x∈ps,x.block<W.heap.size)->DataW.TrodAll enc P W' 0 (fun b=>decide (b<W.heap.size)) true ts vs ds ps
 |[],[],[],_,_,h,_=>h
 |[],[],_ :: _,_,_,h,_=>h.elim
 |[],_ :: _,_,_,_,h,_=>h.elim
 |_ :: _,[],_,_,_,h,_=>h.elim
 |_ :: _,_ :: _,[],_,_,h,_=>h.elim
 |
  t :: ts,v :: vs,d :: ds,ps,hr,⟨p,q,h1,h2,e⟩,hp=>by
  simp only [List.all_cons,Bool.and_eq_true,decide_eq_true_eq] at hr;subst e;exact ⟨p,q,Below.trod hl hr.1.1 hr.1.2 h1 hb (fun x hx=>hp x (List.mem_append_left _ hx)),l0z hl hb hr.2 h2 (fun x hx=>hp x (List.mem_append_right _ hx)),rfl⟩
theorem j0c {C:Checked} {os:Os} {f:FuncId} {fn:Func} {s:ChangeSpec} {tb:TypeId} {H:Type} {enc:TypeId×Value->H} (own:ownKnob C.prog.godebug=none) (started:os.Started) (noInit:C.prog.inits.idxOf? f=none) (hfn:C.prog.funcs[f]?=some fn) (hl:laidOutB C.prog=true)
  (hres:fn.resultTypes=#[tb]) (htb:C.prog.underlying tb=some .bool) (hsv:s.vars=[]) (hread:(fn.params.toList.all fun t=>C.prog.readableRec t&&decide (t<C.prog.types.size))=true)
  (witness:∃ (w:World) (tape:Tape) (i:Input),w.os=os/\(w.forCall tape i).Shaped C.prog/\i.vars=[]/\Input.okWide C.prog (w.forCall tape i) .any w.heap.size f i/\
   s.pre6 enc C.prog fn [] false (w.forCall tape i).memory i.args/\({}:Assume).holds C.prog (lone (Frame.enter C.prog f i.args .normal) [] (w.forCall tape i)))
  (hspec:∀ (W:World) (args:Array Value) (ds:List (DataW H)) (p:List MemPlace),DataW.TrodAll enc C.prog W 0 (fun _=>true) true fn.params.toList args.toList ds p->(s.fn H (ds++[])).results=[.lit (.bool true)]/\(s.fn H (ds++[])).args=ds/\(s.fn H (ds++[])).vars=[])
  (body:∀ (W:World) (base:Nat) (args:Array Value) (ds:List (DataW H)) (p:List MemPlace),(∀ (j:Nat) t v,fn.params[j]?=some t->args[j]?=some v->Value.okWide C.prog W .any base t v)->
   DataW.TrodAll enc C.prog W 0 (fun _=>true) true fn.params.toList args.toList ds p->(∀ x∈p,x.block<W.heap.size)->(DataW.weightsEach C.prog fn.params.toList ds).all (·<=reachBytes)=true->
   Calls C.prog f args W fun e W'=>e=.returned (.bool true)/\Below W.heap.size W W') :
  ReturnsInHanded {} C os f .any (s.pre6 enc C.prog fn [] false) (s.post enc C.prog fn false true false false):=by
 refine returnsInHanded_of_change_sized own started noInit hfn witness ?_;intro W base args ds gs before hval hW _ hsz _;have hW':=hW;obtain ⟨p,q,hA,hV,rfl,_,_⟩:=hW;rw [hsv] at hV;obtain ⟨rfl,rfl⟩:=trodVars_none hV;have hlt:∀ x∈p,x.block<W.heap.size:=fun x hx=>by simpa using hW'.lt x (List.mem_append_left _ hx)
 have hvt:s.plain.varTypes C.prog=[]:=by unfold ChangeSpec.plain;simp [DataSpec.varTypes,hsv]
 rw [hvt,List.append_nil,List.append_nil] at hsz;refine (body W base args ds p hval hA hlt hsz).mono fun e W' ⟨he,hb⟩=>?_;subst he;obtain ⟨s1,s2,s3⟩:=hspec W args ds p hA;refine ⟨_,rfl,ds,[],p++[],[],p,[],hW',?_,?_,?_,hb.frame _,fun h=>by cases h⟩
 ·rw [s1,hres];exact trodAll_cons_mk (shut_bool htb _) trodAll_mk0
 ·rw [s2];exact l0z hl hb hread hA hlt
 ·rw [s3,hsv];rfl
theorem j0F {H:Type} {enc:TypeId×Value->H} {W:World} {fuel n c:Nat} {A:Option Addr} {d:DataW H} {ps:List MemPlace} {ts:List TypeId} {ds:List (DataW H)} {j:Nat} (ht:P.underlying t=some (.slice e))
  (h:DataW.trod enc P W 0 (fun _=>true) true fuel t (Value.slice A n c).cells.toList=some (d,ps)) (hsz:(DataW.weightsEach P ts ds).all (·<=reachBytes)=true) (hj:ts[j]?=some t) (hd:ds[j]?=some d):n*P.bytesOf e<=140737488351232:=by
 rcases DataW.trod_slice ht h with ⟨he,_⟩ | ⟨a,len,cap,elems,rest,f,rfl,he,hx,_,hle,_,hel,hget,_,_⟩
 ·simp [Value.cells] at he;rw [he.2.1];omega
 ·cases hx;simp [Value.cells] at he;have:=sized_slice hsz hj hd ht;simp only [List.length_map,hel] at this;have h2:n*P.bytesOf e<=(len+rest.length)*P.bytesOf e:=Nat.mul_le_mul_right _ (by omega);have h3:reachBytes=140737488351232:=rfl;omega
end
