/- P. Its conditions: none. -/
import Derived.Test.YtihmgaccbcfgjaaGreatRG00
import Derived.OrdersHeld
import Derived.ArgAppend
import Derived.Laws.CopyRow
import Derived.Laws.IdiomCopy
import Derived.Lib.SlBytesConst
open Nat (lt_or_ge lt_of_lt_of_le le_trans min_eq_left le_total zero_add mul_one)
open List (length_append length_take length_drop take_zero)
set_option linter.all false
namespace Go.V
open Go.RowKit
def NoP (Q:Exit->Act->World->Prop):Prop:=∀c a w,¬Q (.panic c) a w
section
variable {P:Program}{ops:Array Oper}{n:Nat}{Q:Exit->Act->World->Prop}{S:Array Bool->World->Prop}{l:FL}{a:Act}{w:World}{listed:Array Bool}{fuel:Nat}
def wpS (P:Program)(ops:Array Oper)(Q:Exit->Act->World->Prop)(S:Array Bool->World->Prop):Nat->Array Bool->Act->World->Prop
 |0,L,a,w=>Region.ready .any ops L=[]/\Q .normal a w
 |f+1,L,a,w=>(Region.ready .any ops L=[]->Q .normal a w)/\∀i∈Region.ready .any ops L,wpOp P ops Q i (fun c w'=>S (L.setIfInBounds i true) w'/\wpS P ops Q S f (L.setIfInBounds i true) c w') a w
def p0J:∀(f:Nat) (L:Array Bool) (a:Act) (w:World),wpS P ops Q S f L a w->wpAny P .any ops Q f L a w
 |0,_,_,_,h=>h
 |f+1,_,_,_,h=>⟨h.1,fun i hi=>wpOp_mono (fun c w' k=>p0J f _ c w' k.2) (h.2 i hi)⟩
def Cl (ops:Array Oper)(L:Array Bool):Prop:=L.size=ops.size/\∀j o,ops[j]?=some o->L.getD j false=true->∀e∈o.after,Region.binds .any e=true->L.getD e.on false=true
def clb (ops:Array Oper)(L:Array Bool):Bool:=(L.size==ops.size)&&(List.range ops.size).all fun j=>match ops[j]? with
 |some o=>!L.getD j false||o.after.all fun e=>!Region.binds .any e||L.getD e.on false
 |none=>true
theorem n0R {L:Array Bool}(h:clb ops L=true):Cl ops L:=by
 simp only[clb,Bool.and_eq_true,beq_iff_eq,List.all_eq_true]at h;refine⟨h.1,fun j o ho d e he g=>?_⟩;have c:j<ops.size:=(Array.getElem?_eq_some_iff.1 ho).1;have f:=h.2 j (List.mem_range.2 c);simp only[ho,d,Bool.not_true,Bool.false_or,Array.all_eq_true_iff_forall_mem]at f
 grind
theorem Cl.set {L:Array Bool}{j:Nat}(h:Cl ops L)(g:j∈Region.ready .any ops L):Cl ops (L.setIfInBounds j true):=by
 refine⟨by simp[h.1],fun k o ho hk e he f=>?_⟩;obtain⟨_,p,i,c⟩:=mem_ready.1 g
 by_cases d:j=k
 ·grind [getD_set_true]
 ·rw[getD_set_ne false d]at hk;exact getD_set_true (h.2 k o ho hk e he f)
theorem n0o {i:Nat}{t:Oper}{v:Value}{Sx:World->Prop}(hi:ops[i]?=some t)(q:∀(j:Nat) (o:Oper) cs b,ops[j]?=some o->o.op≠.select cs b)
  (hQ:∀c a w,Q (.panic c) (a.put t.dst v) w->Q (.panic c) a w) (a1:∀L w,Cl ops L->L.getD i true=false->S L w->Sx w) (b2:∀L w,S (L.setIfInBounds i true) w->L.getD i true=false->S L w)
  (C:∀L w,S L w->S (L.setIfInBounds i true) w):
  ∀(fuel:Nat) (L:Array Bool) (a:Act) (w:World),Cl ops L->(∀j u,ops[j]?=some u->j≠i->L.getD j true=false->(∀e∈u.after,Region.binds .any e=true->e.on≠i)->t.apart ops u=true)->
   i∈Region.ready .any ops L->YieldsIf P ops Sx t v a->S L w->wpS P ops Q S fuel (L.setIfInBounds i true) (a.put t.dst v) w->wpS P ops Q S (fuel+1) L a w:=by
 intro fuel
 induction fuel with
 |zero=>
  intro L a w g _ hr hy I H;refine⟨fun h=>(by simp_all),fun j y=>?_⟩
  by_cases e:j=i
  ·subst e;exact hy.wpOp hi (a1 L w g (mem_ready.1 hr).1 I) ⟨C L w I,H⟩
  ·have:=ready_mono y e;rw[H.1]at this
   grind
 |succ fuel ih=>
  intro L a w g f hr hy I H;have d:=(mem_ready.1 hr).1;refine⟨fun h=>(by simp_all),fun j y=>?_⟩
  by_cases e:j=i
  ·subst e;exact hy.wpOp hi (a1 L w g d I) ⟨C L w I,H⟩
  ·have h1:=H.2 j (ready_mono y e);obtain⟨s,u,x,U⟩:=mem_ready.1 y;have J:∀e∈u.after,Region.binds .any e=true->e.on≠i:=fun e he hb heq=>by
    have h1:=U e he hb;rw[heq]at h1;rcases lt_or_ge i L.size with h'|h'
    ·simp[h']at d h1;rw[d]at h1;cases h1
    ·simp[Array.getElem?_eq_none h']at h1
   have h2:=wpOp_putIf x (f j u x e s J) (fun cs b=>q i t cs b hi) (fun cs b=>q j u cs b x) hQ hy h1;have p:∀k ok,ops[k]?=some ok->k≠i->(L.setIfInBounds j true).getD k true=false->(∀e∈ok.after,Region.binds .any e=true->e.on≠i)->t.apart ops ok=true:=fun k ok hk b3 d b1=>by
    refine f k ok hk b3 ?_ b1
    by_cases z:j=k
    ·subst z;exact s
    ·rw[getD_set_ne true z]at d;exact d
   refine wpOp_mono (fun a' w' h3=>?_) h2;have h4:=h3.2.1;rw[Array.setIfInBounds_comm _ _ (Ne.symm e)]at h4;have R:=b2 _ w' h4 (by rw[getD_set_ne true e];exact d);refine⟨R,ih (L.setIfInBounds j true) a' w' (g.set y) p (ready_mono hr (Ne.symm e)) h3.1 R ?_⟩;rw[Array.setIfInBounds_comm _ _ e];exact h3.2.2
def marks (ops:Array Oper)(s:List Nat):List Nat->List Nat
 |[]=>s
 |j :: js=>marks ops (if s.contains j then(match ops[j]? with|some o=>(o.after.toList.filter (Region.binds .any)).map (·.on)++s|none=>s)else s) js
def e0a (ops:Array Oper)(m i:Nat):Bool:=decide (ops.size<=m)||(marks ops [m] (List.range ops.size).reverse).contains i
theorem r0t {L:Array Bool}(c:Cl ops L){m:Nat}:∀(js s:List Nat),(∀k∈s,L.getD k false=false->L.getD m false=false)->∀k∈marks ops s js,L.getD k false=false->L.getD m false=false
 |[],s,h=>h
 |j :: js,s,h=>by
  unfold marks;refine r0t c js _ ?_;split
  ·have f:j∈s:=by simp_all
   cases ho:ops[j]? with
   |none=>omega
   |some o=>
    intro k hk d;simp only[List.mem_append,List.mem_map,List.mem_filter]at hk;rcases hk with⟨e,⟨he,i⟩,rfl⟩|hk
    ·refine h j f ?_;cases g:L.getD j false with
     |false=>rfl
     |true=>have:=c.2 j o ho g e (by simp_all) i;simp_all
    grind
  omega
theorem r0h {L:Array Bool}(c:Cl ops L){m i:Nat}(h:e0a ops m i=true)(hi:L.getD i true=false):L.getD m false=false:=by
 simp only[e0a,Bool.or_eq_true,decide_eq_true_eq]at h;rcases h with h|h
 ·rw[<-c.1]at h;simp[h]
 grind [r0t]
def Sk (T:D0)(w w':World):Prop:=∃c,P0 w.heap T w'.heap c
def Sd (m:Nat)(T:D0)(w0:World)(L:Array Bool)(w:World):Prop:=Sk T w0 w/\(L.getD m false=false->∀k,k<w0.heap.size->w.heap[k]?=w0.heap[k]?)
def u7 (w0 w:World):Prop:=∀k,k<w0.heap.size->w.heap[k]?=w0.heap[k]?
def Sd.start (m:Nat)(T:D0)(w0:World)(L:Array Bool):Sd m T w0 L w0:=⟨⟨T,P0.refl _ _⟩,fun _ _ _=>rfl⟩
def Sd.before {m:Nat}{T c:D0}{w0:World}{L:Array Bool}(k:P0 w0.heap T w.heap c)(h:u7 w0 w):Sd m T w0 L w:=⟨⟨c,k⟩,fun _=>h⟩
def Sd.behind {m:Nat}{T c:D0}{w0:World}{L:Array Bool}(k:P0 w0.heap T w.heap c)(h:L.getD m false=true):Sd m T w0 L w:=⟨⟨c,k⟩,fun e=>by simp_all⟩
def u7.start (w:World):u7 w w:=fun _ _=>rfl
def u7.ext {w0 w w1:World}(h:u7 w0 w)(hs:w0.heap.size<=w.heap.size)(c:Below w.heap.size w w1):u7 w0 w1:=fun k hk=>(c.block k (lt_of_lt_of_le hk hs)).trans (h k hk)
def u7.app {w0 w w1:World}{v:Value}(h:u7 w0 w)(hs:w0.heap.size<=w.heap.size)(c:∀k,v.ownBlock=some k->w0.heap.size<=k)(hn:∀k,k<w.heap.size->v.ownBlock≠some k->w1.heap[k]?=w.heap[k]?):u7 w0 w1:=
 fun k hk=>(hn k (lt_of_lt_of_le hk hs) (fun e=>Nat.lt_irrefl _ (lt_of_lt_of_le hk (c k e)))).trans (h k hk)
def u7.cell {w w':World}{b o:Nat}{v:Value}(e:u7 w w')(h:O1 w.heap b o=some v):O1 w'.heap b o=some v:=(f0K (e b (v0a h))).trans h
def Sk.cell {T:D0}{w w':World}{b o:Nat}{v:Value}(hn:¬T b)(e:Sk T w w')(h:O1 w.heap b o=some v):O1 w'.heap b o=some v:=by
 obtain⟨c,k⟩:=e;exact(f0K (k.blk b (v0a h) hn).2).trans h
def may (ops:Array Oper)(listed:Array Bool)(m i:Nat):Bool:=Region.noSelect ops&&Region.free .any ops listed i&&(Region.ready .any ops listed).contains i&&clb ops listed&&(i != m)
def q0h {m i:Nat}{T:D0}{w0:World}(hm:i≠m)(L:Array Bool)(w:World):Sd m T w0 (L.setIfInBounds i true) w↔Sd m T w0 L w:=by
 simp_all[Sd]
def u0u {id:Nat}{xs:List Oper}(m:Nat)(T:D0)(hm:P.follows .mixedOrders=true)
  (h:∀w1,w1.heap=w.heap->Below w.heap.size w w1->wpS P xs.toArray Q (Sd m T w1) xs.toArray.size (Array.replicate xs.toArray.size false) a w1):(Code.region id xs.toArray true).wp P Q a w:=
 wp_region_any hm (p0J _ _ _ _ (h _ rfl ⟨rfl,rfl,rfl,Nat.le_refl _,fun _ _=>rfl⟩))
theorem w0X {m i:Nat}{T:D0}{w0:World}{o:Oper}{v:Value}(ha:Ag n l a)(j:NoP Q)(hi:ops[i]?=some o)(hm:may ops listed m i=true)(d:(gate ops l o==some true&&fit n l o)=true)
  (u:∀w',Sk T w0 w'->(e0a ops m i=true->u7 w0 w')->(execOp (lk l) o).run P w'=.ok (.value v) w') (f:Sd m T w0 listed w)
  (h:Sd m T w0 (listed.setIfInBounds i true) w->∀g,Ag n (N5 l o.dst v) g->wpS P ops Q (Sd m T w0) fuel (listed.setIfInBounds i true) g w):wpS P ops Q (Sd m T w0) (fuel+1) listed a w:=by
 simp only[may,Bool.and_eq_true,bne_iff_ne,ne_eq]at hm;simp only[Bool.and_eq_true,beq_iff_eq]at d;obtain⟨⟨⟨⟨h1,p⟩,t⟩,k⟩,e⟩:=hm;refine n0o (Sx:=fun w'=>Sk T w0 w'/\(e0a ops m i=true->u7 w0 w')) hi (Region.noSelect_spec h1) (fun c a w hp=>absurd hp (j c _ w)) (fun L w' q hu hs=>⟨hs.1,fun hw=>hs.2 (r0h q hw hu)⟩)
  (fun L w' hs _=>(q0h e L w').1 hs) (fun L w' hs=>(q0h e L w').2 hs) fuel listed a w (n0R k) (Region.free_spec hi p) (by simp_all) (.inl ⟨i0E ha d.1,fun w' s=>?_⟩) f (h ((q0h e listed w).2 f) _ (ha.put _ _ (k0x d.2)))
 grind [j0E]
def q0V {i:Nat}{o:Oper}(hi:ops[i]?=some o)
  (h:wpList P ops (Exit.then (fun c w'=>S (listed.setIfInBounds i true) w'/\wpS P ops Q S fuel (listed.setIfInBounds i true) c w') Q) [o] a w):wpOp P ops Q i (fun c w'=>S (listed.setIfInBounds i true) w'/\wpS P ops Q S fuel (listed.setIfInBounds i true) c w') a w:=by
 unfold wpOp;simp only[hi];unfold wpList at h;split
 ·rename_i hw;rw[if_pos hw]at h;rcases h with h|⟨h1,a0,w0,h2⟩
  ·refine .inl ?_;generalize (execOp a.eval o).run P w=r at h ⊢;cases r with
   |ok x w'=>
    cases x<;>first|exact h|exact h.mono (fun e d he=>by cases e<;>first|exact he|(exact⟨a1,w1,h3⟩))
   |halt x w'=>cases x<;>exact h
  ·exact .inr ⟨h1,a0,w0,h2⟩
 ·rename_i hw;rw[if_neg hw]at h;exact h
def w0f {i:Nat}{o:Oper}(d:Region.ready .any ops listed=[i])(hi:ops[i]?=some o)
  (h:wpList P ops (Exit.then (fun c w'=>S (listed.setIfInBounds i true) w'/\wpS P ops Q S fuel (listed.setIfInBounds i true) c w') Q) [o] a w):wpS P ops Q S (fuel+1) listed a w:=by
 refine⟨fun e=>(by simp_all),fun j f=>?_⟩
 simp_all[q0V]
def o03 (c:Region.ready .any ops listed=[])(h:Q .normal a w):wpS P ops Q S fuel listed a w:=by
 cases fuel with
 |zero=>exact⟨c,h⟩
 |succ f=>exact⟨fun _=>h,by simp_all⟩
def s0o {K:Act->World->Prop}(h1:S listed w)(d:K a w):wpList P ops (Exit.then (fun c w'=>S listed w'/\K c w') Q) [] a w:=⟨h1,d⟩
theorem Sl.off {α:Type}{T:Ty α}{H:I0}{O:D0}{b o c:Nat}{xs:List α}{i:Int}(h:Sl T H O (some ⟨b,o,none⟩) c xs)(hi:y0 xs i=true):¬O b:=by
 have d:xs≠[]:=by have:=a0o hi;grind
 obtain⟨b',e,f,_,hn⟩:=h.2.1 d
 simp_all
def l0x {c:Code}(d:NoP Q)(h:NoP Q->c.wp P Q a w):c.wp P Q a w:=h d
def NoP.loop {σ τ:Type}{c:Q0 σ τ}{K:Act->World->Prop}{D:τ->Exit->Act->World->Prop}(h:∀t c a w,¬D t (.panic c) a w):NoP (Exit.then K (fun e d w'=>∃t,c=.done t/\D t e d w')):=by
 rintro f a w ⟨t,_,hd⟩;simp_all
end
section
variable {P:Program}{ops:Array Oper}{n:Nat}{Q:Exit->Act->World->Prop}{l:FL}{a:Act}{w:World}{o:Oper}{rest:List Oper}
def s0B {α:Type}{T:Ty α}{H:I0}{S:D0}{t e:TypeId}{lo hi mx:Option Value}{A:Option Addr}{c:Nat}{xs:List α}{vlo vhi vmx:Int}
  (R:P.underlying t=some (.slice e)) (hE:(P.info? e).map (·.size)=some T.sz) (hs:Sl T H S A c xs)
  (d:(match lo with|none=>vlo=0|some y=>∃k,y=.int k vlo)) (g:(match hi with|none=>vhi=xs.length/\mx=none|some y=>∃k,y=.int k vhi)) (f:(match mx with|none=>vmx=c|some y=>∃k,y=.int k vmx))
  (hk:P3 xs vlo vhi=true) (hm:(mx=none\/(vhi<=vmx/\vmx<=xs.length))):
  ∃C,(∀w,(Instr.sliceAt t (.slice A xs.length c) lo hi mx).run P w=.ok (.slice C (G1 xs vlo vhi).length (vmx-vlo).toNat) w)/\Sl T H S C (vmx-vlo).toNat (G1 xs vlo vhi):=by
 have p:=hk;simp only[P3,Bool.and_eq_true,decide_eq_true_eq]at p;obtain⟨⟨v,h1⟩,h2⟩:=p;have J:=hs.1;obtain⟨inf,j,x⟩:=Option.map_eq_some_iff.1 hE;have a1:vhi<=vmx/\vmx<=c:=by
  cases mx with
  |none=>simp only at f;omega
  |some y=>
   rcases hm with hm|hm
   ·cases hm
   ·omega
 have hlen:=d0b hk;refine⟨if vmx.toNat=vlo.toNat then A else A.map (·.add (vlo.toNat*T.sz)),fun w=>?_,hs.cut (m:=(vmx-vlo).toNat) (c':=(vmx-vlo).toNat) hk O' ?_⟩
 ·have e1:vhi.toNat-vlo.toNat=(vhi-vlo).toNat:=O'
  have e2:vmx.toNat-vlo.toNat=(vmx-vlo).toNat:=O'
  rw[hlen];unfold Instr.sliceAt Instr.slice;simp only[Sem.run_bind,run_underlying R,Result.andThen_ok];have h:(Instr.sliceBounds true xs.length c lo hi mx).run P w=.ok (vlo.toNat,vhi.toNat,vmx.toNat) w:=by
   unfold Instr.sliceBounds;cases mx with
   |none=>
    simp only at f;cases hi with
    |none=>
     simp only at g;cases lo with
     |none=>simp only at d;subst d;simp[g.1,f]
     |some y=>
      obtain⟨k,rfl⟩:=d;have:=run_sliceBound (P:=P) (w:=w) k vlo xs.length .sliceB v O';simp[g.1,f,this]
    |some z=>
     obtain⟨s,rfl⟩:=g;have i:=run_sliceBound (P:=P) (w:=w) s vhi c .sliceAcap O' O';cases lo with
     |none=>simp only at d;subst d;simp[f,i]
     |some y=>
      obtain⟨k,rfl⟩:=d;have u:=run_sliceBound (P:=P) (w:=w) k vlo vhi.toNat .sliceB v O';simp[f,u,i]
   |some q=>
    obtain⟨k3,rfl⟩:=f;have I:=run_sliceBound (P:=P) (w:=w) k3 vmx c .slice3Acap O' O';cases hi with
    |none=>exact absurd g.2 Z'
    |some z=>
     obtain⟨s,rfl⟩:=g;have i:=run_sliceBound (P:=P) (w:=w) s vhi vmx.toNat .slice3B O' O';cases lo with
     |none=>simp only at d;subst d;simp[i,I]
     |some y=>
      obtain⟨k,rfl⟩:=d;have u:=run_sliceBound (P:=P) (w:=w) k vlo vhi.toNat .slice3C v O';simp[u,i,I]
  simp only[h,Result.andThen_ok,sizeOf,typeInfo,Sem.run_bind];simp[j,x,e1,e2]
 ·by_cases U:vmx.toNat=vlo.toNat
  ·right;refine⟨O',List.eq_nil_of_length_eq_zero (by rw[hlen];omega)⟩
  ·left;rw[if_neg U]
def o0L {t:TypeId}{x:Operand}{lo hi mx:Option Operand}{v:Value}(w:World)(ho:o.op=.slice t x lo hi mx)
  (h:(Instr.sliceAt t (lk l x) (lo.map (lk l)) (hi.map (lk l)) (mx.map (lk l))).run P w=.ok v w):(execOp (lk l) o).run P w=.ok (.value v) w:=by
 simp[execOp,ho,h]
def H0Y {α:Type}{T:Ty α}{H:I0}{S M:D0}{t e:TypeId}{hi:Value}{A:Option Addr}{c:Nat}{xs:List α}{k:IntKind}{vhi:Int}(p:P.underlying t=some (.slice e))(s:(P.info? e).map (·.size)=some T.sz)
  (d:Ow T e M H S (.slice A xs.length c) xs) (hk:P3 xs 0 vhi=true) (h:hi=.int k vhi:=by rfl):
  (∀w,(Instr.sliceAt t (.slice A xs.length c) none (some hi) none).run P w=.ok (.slice A (G1 xs 0 vhi).length c) w)/\Ow T e M H S (.slice A (G1 xs 0 vhi).length c) (G1 xs 0 vhi):=by
 subst h;have g:=hk;simp only[P3,Bool.and_eq_true,decide_eq_true_eq]at g;obtain⟨⟨_,h1⟩,u⟩:=g;have j:=d.cap;have hlen:=d0b hk;obtain⟨inf,f,i⟩:=Option.map_eq_some_iff.1 s;refine⟨fun w=>?_,d.take h1 u⟩;have q:=run_sliceBound (P:=P) (w:=w) k vhi c .sliceAcap O' O';simp only[Instr.sliceAt,Instr.slice,Instr.sliceBounds,Sem.run_bind,run_underlying p,Result.andThen_ok];simp[q,sizeOf,typeInfo,f,i,hlen];cases A<;>simp[Addr.add]
def Pt {α:Type}(T:Ty α)(t:TypeId)(H:I0)(S:D0)(r:Option α)(v:Value):Prop:=
 match r with
 |none=>v=.pointer none
 |some x=>∃b cs,v=.pointer (some ⟨b,0,none⟩)/\Bx H S b t cs/\T.R H S cs x
def Pt.L0 {α:Type}{T:Ty α}{t:TypeId}{H H':I0}{S S':D0}{r:Option α}{v:Value}(k:P0 H S H' S')(h:Pt T t H S r v):Pt T t H' S' r v:=by
 cases r with
 |none=>exact h
 |some x=>obtain⟨b,cs,h1,c,d⟩:=h;exact⟨b,cs,h1,c.L0 k,T.L0 k d⟩
def Pt.get {α:Type}{T:Ty α}{t:TypeId}{H:I0}{S:D0}{r:Option α}{x:α}{v:Value}(h:Pt T t H S r v)(c:r=some x):∃b cs,v=.pointer (some ⟨b,0,none⟩)/\Bx H S b t cs/\T.R H S cs x:=by
 subst c;exact h
def Pt.none {α:Type}{T:Ty α}{t:TypeId}{H:I0}{S:D0}:Pt T t H S Option.none (.pointer Option.none):=rfl
def obl (vs:List Value):D0:=fun k=>∃v∈vs,v.ownBlock=some k
def inL (vs:List Value)(S:D0):D0:=fun k=>S k\/obl vs k
def F05 {k:Nat}:¬obl [] k:=fun⟨_,h,_⟩=>by cases h
def all_nil {C:Nat->Prop}:∀k,obl [] k->C k:=fun _ h=>absurd h F05
def all_cons {C:Nat->Prop}{v:Value}{vs:List Value}(h:∀k,v.ownBlock=some k->C k)(t:∀k,obl vs k->C k):∀k,obl (v :: vs) k->C k:=fun k ⟨u,hu,hk⟩=>by
 rcases List.mem_cons.1 hu with rfl|hu
 ·exact h k hk
 ·exact t k ⟨u,hu,hk⟩
def Mb.own {M:D0}{H:I0}{S:D0}{b:Nat}{t:TypeId}{cs:List Value}(h:Mb M H S b t cs):∀k,(bv b).ownBlock=some k->S k/\M k:=fun k hk=>by cases hk;exact h.2
def Mb.b0a {M M':D0}{H:I0}{S:D0}{b:Nat}{t:TypeId}{cs:List Value}(h:Mb M H S b t cs)(hm:∀k,(bv b).ownBlock=some k->M' k):Mb M' H S b t cs:=⟨h.1,h.2.1,hm b rfl⟩
def Ow.out {α:Type}{T:Ty α}{e:TypeId}{M:D0}{H:I0}{S S0:D0}{v:Value}{xs:List α}{vs:List Value}(h:Ow T e M H S v xs)(hs:∀k,inL vs S0 k->S k)(c:∀k,v.ownBlock=some k->obl vs k):Ow T e M H (inL vs S0) v xs:=
 h.o0U hs (fun b d=>.inr (c b d))
def Mb.out {M:D0}{H:I0}{S S0:D0}{b:Nat}{t:TypeId}{cs:List Value}{vs:List Value}(h:Mb M H S b t cs)(c:∀k,(bv b).ownBlock=some k->obl vs k):Mb M H (inL vs S0) b t cs:=⟨h.1,.inr (c b rfl),h.2.2⟩
def D9.refl (W0:D0)(w:World):D9 W0 w w:=⟨rfl,rfl,rfl,Nat.le_refl _,fun _ _ _=>rfl⟩
def back {w0 w w1:World}{W0 S0 S:D0}{us vs:List Value}(cx:Cx w0 W0 S0 w S)(hu:∀k,obl us k->S k/\Wr W0 w0 k)(d:D9 (obl us) w w1)(g:∀k,obl vs k->k<w1.heap.size/\Wr (obl us) w k):
  Cx w0 W0 S0 w1 (inL vs S)/\P0 w.heap S w1.heap (inL vs S)/\(∀b,S b->inL vs S b)/\(∀k,k<w.heap.size->¬obl us k->w1.heap[k]?=w.heap[k]?):=by
 refine⟨⟨⟨d.os.trans cx.bel.os,d.tape.trans cx.bel.tape,d.output.trans cx.bel.output,le_trans cx.bel.size d.size,fun k hk c=>(d.block k (by have:=cx.size;omega) (fun e=>?_)).trans (cx.bel.block k hk c)⟩,fun b h=>.inl (cx.sub b h),fun b h=>h.elim (fun h=>lt_of_lt_of_le (cx.lt b h) d.size) (fun h=>(g b h).1),cx.lt0⟩,
  ⟨d.size,fun b h c=>⟨fun hi=>hi.elim c (fun i=>?_),d.block b h (fun e=>c (hu b e).1)⟩⟩,fun _ h=>.inl h,fun k hk f=>d.block k hk f⟩
 ·rcases(hu k e).2 with h|h
  ·exact c h
  ·omega
 ·rcases(g b i).2 with h3|h3
  ·exact c (hu b h3).1
  ·omega
def j4 {α:Type}(xs ys:List α):List α:=ys.take xs.length++xs.drop ys.length
def b04 {α:Type}(xs ys:List α):(j4 xs ys).length=xs.length:=by simp only[j4,length_append,length_take,length_drop];omega
def R1.cut {α:Type}{T:Ty α}{H:I0}{S:D0}{cs:List Value}{xs:List α}(h:R1 T H S cs xs)(k:Nat):R1 T H S (cs.take (k*T.sz)) (xs.take k):=by
 refine⟨by rw[length_take,length_take,h.1];exact(Nat.mul_min_mul_right k xs.length T.sz),fun i x c=>?_⟩;have hi:i<k:=by
  rcases lt_or_ge i k with h|h
  ·exact h
  ·rw[List.getElem?_take_eq_none O']at c;cases c
 rw[List.getElem?_take_of_lt hi]at c;have d:=h.2 i x c;have hle:i*T.sz+T.sz<=k*T.sz:=by rw[<-Nat.succ_mul];exact Nat.mul_le_mul_right _ hi
 rw[List.drop_take,List.take_take,min_eq_left O'];exact d
def R1.tail {α:Type}{T:Ty α}{H:I0}{S:D0}{cs:List Value}{xs:List α}(h:R1 T H S cs xs)(k:Nat):R1 T H S (cs.drop (k*T.sz)) (xs.drop k):=by
 refine⟨by rw[length_drop,length_drop,h.1,Nat.sub_mul],fun i x c=>?_⟩;rw[List.getElem?_drop]at c;have d:=h.2 _ x c;rw[List.drop_drop,<-Nat.add_mul];exact d
def D0I {α:Type}{T:Ty α}{w0:World}{W0 Wf S0 S:D0}{t e:TypeId}{x y:Operand}{A B:Option Addr}{c d:Nat}{xs ys:List α}(ha:Ag n l a)(cx:Cx w0 W0 S0 w S)(hf:(gate ops l o==some true&&fit n l o)=true)
  (ho:o.op=.call { callee:=.builtin .copy,args:=#[x,y],argTypes:=#[t,t] }) (hx:lk l x=.slice A xs.length c) (hy:lk l y=.slice B ys.length d) (ht:P.underlying t=some (.slice e)) (hE:(P.info? e).map (·.size)=some 1) (J:T.sz=1)
  (hW:∀k,Wr Wf w0 k->Wr W0 w0 k) (p:Ow T e (Wr Wf w0) w.heap S (.slice A xs.length c) xs) (b4:Q4 T w.heap S B ys)
  (h:∀w1,Cx w0 W0 S0 w1 S->(∀k,k<w.heap.size->(Value.slice A xs.length c).ownBlock≠some k->w1.heap[k]?=w.heap[k]?)->P0 w.heap S w1.heap S->Ow T e (Wr Wf w0) w1.heap S (.slice A xs.length c) (j4 xs ys)->
   ∀a',Ag n (N5 l o.dst (.int .i64 (Nat.min ys.length xs.length:Nat))) a'->wpList P ops Q rest a' w1):wpList P ops Q (o :: rest) a w:=by
 have fin:∀(w1:World) (m:Nat),(Builtin.copy_ #[t,t] o.type #[.slice A xs.length c,.slice B ys.length d]).run P w=.ok (goInt m) w1->m=Nat.min ys.length xs.length->
   Cx w0 W0 S0 w1 S->(∀k,k<w.heap.size->(Value.slice A xs.length c).ownBlock≠some k->w1.heap[k]?=w.heap[k]?)->P0 w.heap S w1.heap S->Ow T e (Wr Wf w0) w1.heap S (.slice A xs.length c) (j4 xs ys)->wpList P ops Q (o :: rest) a w:=by
  intro w1 m hr hm h1 I h3 h4;refine b0U ha hf (v:=.int .i64 (Nat.min ys.length xs.length:Nat)) (w':=w1) ?_ fun a' c3=>h w1 h1 I h3 h4 a' c3;subst hm;simp only[execOp,ho,resolve,invoke,builtin,Sem.run_bind,Sem.run_pure,Result.andThen_ok,List.map_toArray,List.map_cons,List.map_nil,hx,hy,hr];rfl
 by_cases C:Nat.min ys.length xs.length=0
 ·refine fin w 0 (run_copy_none w t t o.type e A B xs.length c ys.length d ht hE C) C.symm cx (fun _ _ _=>rfl) (P0.refl _ _) ?_;have:j4 xs ys=xs:=by
   rcases Nat.eq_zero_or_pos xs.length with q|q
   ·have:=List.eq_nil_of_length_eq_zero q;subst this;simp[j4]
   ·have c5:ys.length=0:=by
     rcases le_total ys.length xs.length with hle|hle
     ·rwa [show Nat.min ys.length xs.length=ys.length from min_eq_left hle]at C
     ·rw[show Nat.min ys.length xs.length=xs.length from Nat.min_eq_right hle]at C;omega
    have:=List.eq_nil_of_length_eq_zero c5;subst this;simp[j4]
  rw[this];exact p
 ·have e1:0<xs.length:=by
   rcases Nat.eq_zero_or_pos xs.length with q|q
   ·exact absurd (by rw[q];exact Nat.min_zero _) C
   ·exact q
  have hyp:0<ys.length:=by
   rcases Nat.eq_zero_or_pos ys.length with q|q
   ·exact absurd (by rw[q];exact Nat.zero_min _) C
   ·exact q
  obtain⟨b,off,_,hB,_⟩:=b4 0 ys[0] (by simp[hyp]);subst hB;obtain⟨news,u,s⟩:=Q4.news (w:=w) (xs:=ys) (k:=0) (A:=some ⟨b,off,none⟩) (T:=T) (S:=S) (fun i x hx=>by
   obtain⟨b,o,cs,h1,I,h3⟩:=b4 i x hx;exact⟨b,o,cs,h1,I,fun j v R=>by rw[zero_add];exact h3 j v R⟩)
  have c8:=p.lt;obtain⟨b3,cs,⟨b1,U⟩,b2⟩:=p;rcases U with⟨hv,q⟩|⟨g,cap,cur,hv,hg,hnc,hm,hcs,htake⟩
  ·omega
  ·simp at hv;obtain⟨rfl,rfl⟩:=hv;rw[J,mul_one]at b1 hcs htake;have b5:news.length=ys.length:=by rw[u.1,J,mul_one]
   have f:(news.take xs.length).length=Nat.min ys.length xs.length:=by rw[length_take,b5];exact Nat.min_comm _ _
   have hr:=run_copy_row (P:=P) w t t o.type e g 0 xs.length c ⟨b,off,none⟩ ys.length d cur e (news.take xs.length) ht hE hg f (fun j v R=>by
    rw[k7];have c0:news[j]?=some v:=by
     rcases lt_or_ge j xs.length with h|h
     ·rwa [List.getElem?_take_of_lt h]at R
     ·rw[List.getElem?_take_eq_none h]at R;cases R
    have:=s b off rfl j v c0;simpa using this) (by rw[f,hcs,zero_add];exact le_trans (Nat.min_le_right _ _) hnc) (fun v hv=>u.e0w v (List.mem_of_mem_take hv))
   simp only[take_zero,List.nil_append,zero_add]at hr;have a1:=b3 g (by simp[Value.ownBlock]);have c6:=getElem?_lt hg;have z:j5 g w (w.setRow g (news.take xs.length++cur.toList.drop (news.take xs.length).length).toArray):=⟨rfl,rfl,rfl,by simp[World.setRow],fun k _ hk=>by simp[World.setRow,Array.getElem?_modify,Ne.symm hk]⟩
   have hk:=z.L0 a1.1;refine fin _ _ hr f (z.cx cx (hW _ a1.2)) (fun k hk c4=>z.block k hk (fun e=>c4 (by rw[e];simp[Value.ownBlock]))) hk ⟨b3,news.take xs.length++cs.drop ys.length,⟨?_,.inr ⟨g,c,(news.take xs.length++cur.toList.drop (news.take xs.length).length).toArray,by rw[b04],setRow_heap w g cur _ e _ hg,by rw[b04];exact hnc,hm,?_,?_⟩⟩,?_⟩
   ·rw[b04,J,mul_one,length_append,f,length_drop,b1];rcases le_total ys.length xs.length with hle|hle
    ·rw[show Nat.min ys.length xs.length=ys.length from min_eq_left hle];omega
    ·rw[show Nat.min ys.length xs.length=xs.length from Nat.min_eq_right hle];omega
   ·have h9:(news.take xs.length).length<=c:=by rw[f];exact le_trans (Nat.min_le_right _ _) hnc
    simp only[J,mul_one,List.size_toArray,length_append,length_drop,Array.length_toList,hcs];omega
   ·rw[b04,J,mul_one];show List.take xs.length (news.take xs.length++cur.toList.drop (news.take xs.length).length)=_;rw[List.take_append,List.take_take,Nat.min_self,<-htake];congr 1;rw[List.drop_take];rcases le_total ys.length xs.length with hle|hle
    ·have:(news.take xs.length).length=ys.length:=by rw[f];exact min_eq_left hle
     rw[this]
    ·have:(news.take xs.length).length=xs.length:=by rw[f];exact Nat.min_eq_right hle
     rw[this,Nat.sub_self,take_zero,Nat.sub_eq_zero_of_le hle,take_zero]
   ·have h1:=(u.L0 hk).cut xs.length;have I:=(b2.L0 hk).tail ys.length;rw[J,mul_one]at h1 I;exact h1.append I
end
section
variable {P:Program}{ops:Array Oper}{n:Nat}{Q:Exit->Act->World->Prop}{l:FL}{a:Act}{w:World}{o:Oper}{rest:List Oper}
end
def U7:List (Int×Int)->Int->Int
 |[],_=>0
 |(a,b) :: r,k=>if a==k then b else U7 r k
def J7:List (Int×Int)->Int->Bool
 |[],_=>false
 |(a,_) :: r,k=>a==k||J7 r k
def b0f:List (Int×Int)->Int->Int->List (Int×Int)
 |[],k,v=>[(k,v)]
 |(a,b) :: r,k,v=>if a==k then(k,v) :: r else(a,b) :: b0f r k v
def f08:List (Int×Int)->Int->List (Int×Int)
 |[],_=>[]
 |(a,b) :: r,k=>if a==k then r else(a,b) :: f08 r k
def H8 (es:List MapEntry)(m:List (Int×Int)):Prop:=es.map (fun e=>(e.key,e.val))=m.map (fun p=>(.int .i64 p.1,.int .i64 p.2))
theorem H8.cons_inv {e:MapEntry}{es:List MapEntry}{m:List (Int×Int)}(h:H8 (e :: es) m):∃a b c,m=(a,b) :: c/\e.key=.int .i64 a/\e.val=.int .i64 b/\H8 es c:=by
 cases m with
 |nil=>grind [H8]
 |cons p c=>simp[H8]at h;exact⟨p.1,p.2,c,rfl,h.1.1,h.1.2,h.2⟩
def H8.b0q {m:List (Int×Int)}(h:H8 [] m):m=[]:=by simp_all[H8]
theorem o0a (k:Int):∀(es:List MapEntry) (m:List (Int×Int)),H8 es m->∀i:Nat,
  (Instr.findNow (.int .i64) (.int .i64 k) es i=some none/\J7 m k=false/\U7 m k=0/\∀v,b0f m k v=m++[(k,v)]/\f08 m k=m)\/
  ∃j,Instr.findNow (.int .i64) (.int .i64 k) es i=some (some (i+j,.int .i64 (U7 m k)))/\j<es.length/\J7 m k=true/\m[j]?=some (k,U7 m k)/\(∀v,b0f m k v=m.set j (k,v))/\f08 m k=m.eraseIdx j
 |[],m,h,i=>by obtain rfl:=h.b0q;exact .inl ⟨rfl,rfl,rfl,fun v=>⟨rfl,rfl⟩⟩
 |e :: es,m,h,i=>by
  obtain⟨a,b,f,rfl,h1,g,d⟩:=h.cons_inv
  by_cases hk:a=k
  ·simp_all[J7,U7,b0f,f08,Instr.findNow,Instr.sameNow]
  ·have c:(a==k)=false:=by simp_all
   have hs:Instr.sameNow (.int .i64) (.int .i64 k) e.key=some false:=by
    grind [Instr.sameNow]
   rcases o0a k es f d (i+1)with⟨f1,f2,f3,f4⟩|⟨j,f1,f2,f3,f4,f5,f6⟩
   ·refine .inl ⟨?_,by simp_all[J7],by simp_all[U7],fun v=>⟨by simp_all[b0f],by simp[f08,c,(f4 v).2]⟩⟩
    simp_all[Instr.findNow]
   ·refine .inr ⟨j+1,?_,by grind,by simp_all[J7],by simp_all[U7],fun v=>by simp_all[b0f],by simp_all[f08]⟩
    grind [Instr.findNow,U7]
def Mp (M:D0)(H:I0)(S:D0)(r:Nat)(m:List (Int×Int)):Prop:=(∃es clock,H[r]?=some (.map es clock)/\H8 es.toList m)/\S r/\M r
def Mr (H:I0)(S:D0)(r:Nat)(m:List (Int×Int)):Prop:=(∃es clock,H[r]?=some (.map es clock)/\H8 es.toList m)/\¬S r
section
variable {M M':D0}{H H':I0}{S S' S0:D0}{r b:Nat}{m:List (Int×Int)}{w w1 w0:World}{W0 Wf:D0}
theorem Mp.d0J (h:Mp M H S r m):r<H.size:=by obtain⟨⟨_,_,h1,_⟩,_⟩:=h;grind
theorem Mr.d0J (h:Mr H S r m):r<H.size:=by obtain⟨⟨_,_,h1,_⟩,_⟩:=h;grind
def Mr.L0 (k:P0 H S H' S')(h:Mr H S r m):Mr H' S' r m:=by
 obtain⟨h1,c⟩:=k.blk r h.d0J h.2;obtain⟨⟨es,cl,he,hm⟩,_⟩:=h;exact⟨⟨es,cl,c.trans he,hm⟩,h1⟩
def Mp.L0 (h:Mp M H S r m)(hs:∀b,S b->S' b)(c:H'[r]?=H[r]?):Mp M H' S' r m:=by
 obtain⟨⟨es,cl,he,hm⟩,h1,d⟩:=h;exact⟨⟨es,cl,c.trans he,hm⟩,hs r h1,d⟩
def Mp.ext (h:Mp M w.heap S r m)(c:Below w.heap.size w w1):Mp M w1.heap S r m:=h.L0 (fun _ h=>h) (c.block r h.d0J)
def Mp.lt (h:Mp M H S r m):∀k,(bv r).ownBlock=some k->k<H.size:=fun k hk=>by cases hk;exact h.d0J
def Mp.own (h:Mp M H S r m):∀k,(bv r).ownBlock=some k->S k/\M k:=fun k hk=>by cases hk;exact h.2
def Mp.only (h:Mp M w.heap S r m)(ho:j5 b w w1)(hd:r≠b):Mp M w1.heap S r m:=h.L0 (fun _ h=>h) (ho.block r h.d0J hd)
def Mp.b0a (h:Mp M H S r m)(hm:∀k,(bv r).ownBlock=some k->M' k):Mp M' H S r m:=⟨h.1,h.2.1,hm r rfl⟩
def Mp.out {vs:List Value}(h:Mp M H S r m)(c:∀k,(bv r).ownBlock=some k->obl vs k):Mp M H (inL vs S0) r m:=⟨h.1,.inr (c r rfl),h.2.2⟩
variable {P:Program}{ops:Array Oper}{n:Nat}{Q:Exit->Act->World->Prop}{l:FL}{a:Act}{o:Oper}{rest:List Oper}
def p0L (w:World)(r:Nat)(m:List (Int×Int)):Prop:=∃es clock,w.heap[r]?=some (.map es clock)/\H8 es.toList m
def p0L.old {c:World}(h:p0L w r m)(e:c.heap[r]?=w.heap[r]?):p0L c r m:=by
 obtain⟨es,cl,he,hm⟩:=h;exact⟨es,cl,e.trans he,hm⟩
def j0d {em:Bool}{c:TypeId}{k:Int}(hk:P.underlying c=some (.int .i64))(w:World):(Instr.checkKey em 10000 c (.int .i64 k)).run P w=.ok () w:=by
 show(Instr.checkKey em (9999+1) c (.int .i64 k)).run P w=.ok () w;generalize 9999=q;simp[Instr.checkKey,run_underlying hk]
def e08 {es:Array MapEntry}{cl:Nat}(h:w.heap[r]?=some (.map es cl)):(getObj r).run P w=.ok (.map es cl) w:=by
 simp[getObj,Sem.run,h]
def b0D (w:World)(r:Nat)(c:Obj):World:={ w with heap:=w.heap.setIfInBounds r c }
theorem u0p {d c:Obj}(h:w.heap[r]?=some c):(b0D w r d).heap[r]?=some d:=by
 grind [b0D]
def q0d (w:World)(r:Nat)(c:Obj):j5 r w (b0D w r c):=⟨rfl,rfl,rfl,by simp[b0D],fun k _ hk=>by simp[b0D,Ne.symm hk]⟩
def m0F {c:Obj}{es:Array MapEntry}{cl:Nat}(h:w.heap[r]?=some (.map es cl)):(setObj r c).run P w=.ok () (b0D w r c):=by
 simp[setObj,Sem.run,h,b0D]
def D01 (w:World)(k:Int):(Instr.keyThatStays (.int .i64 k) (.int .i64 k)).run P w=.ok (.int .i64 k) w:=by
 simp[Instr.keyThatStays,Instr.sameBits]
theorem B06 {t h q:TypeId}{es:Array MapEntry}{cl:Nat}{k v:Int}(g:P.underlying t=some (.map h q))(hk:P.underlying h=some (.int .i64))(he:w.heap[r]?=some (.map es cl))(hm:H8 es.toList m):
  ∃c f,(Instr.mapUpdate t (.map (some r)) (.int .i64 k) (.int .i64 v)).run P w=.ok () (b0D w r (.map c f))/\H8 c.toList (b0f m k v):=by
 rcases o0a k es.toList m hm 0 with⟨f1,f2,f3,f4⟩|⟨j,f1,f2,f3,f4,f5,f6⟩
 ·refine⟨es.push ⟨.int .i64 k,.int .i64 v,cl⟩,cl+1,?_,?_⟩
  ·simp[Instr.mapUpdate,run_underlying g,e08 he,j0d hk,Instr.findKey,run_underlying hk,f1,m0F he]
  simp_all[H8]
 ·have s:j<es.size:=O'
  have d:es[j].key=.int .i64 k:=by
   have h1:(es.toList.map (fun e=>(e.key,e.val)))[j]?=(m.map (fun p=>((.int .i64 p.1,.int .i64 p.2):Value×Value)))[j]?:=by rw[hm]
   simp_all
  refine⟨es.modify j fun e=>{ e with key:=.int .i64 k,val:=.int .i64 v },cl,?_,?_⟩
  ·simp[Instr.mapUpdate,run_underlying g,e08 he,j0d hk,Instr.findKey,run_underlying hk,f1,s,d,D01,m0F he]
  ·apply List.ext_getElem?;intro i;have h1:(es.toList.map (fun e=>(e.key,e.val)))[i]?=(m.map (fun p=>((.int .i64 p.1,.int .i64 p.2):Value×Value)))[i]?:=by rw[hm]
   grind
end
