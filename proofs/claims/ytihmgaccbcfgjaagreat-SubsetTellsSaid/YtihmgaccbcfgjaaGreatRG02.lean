/- Regions that draw their order, over frames of known slots: what only reads is taken first; the condition on the world hangs on what has come up. More of what code does with slices and variables: cuts in any order of steps, append onto a slice without room, variables that are filled later, pointers that may be nil. Maps from numbers to numbers, of the call's own; bytes of a constant string; rests. Its conditions: none. -/
import Derived.Test.YtihmgaccbcfgjaaGreatRVOps
import Derived.OrdersHeld
import Derived.ArgAppend
import Derived.Laws.CopyRow
import Derived.Laws.IdiomCopy
import Derived.Lib.SlBytesConst
open Nat (lt_or_ge lt_of_lt_of_le le_trans min_eq_left le_total zero_add mul_one)
open List (length_append length_take length_drop take_zero)
set_option linter.all false
namespace Go.V
open Go.RowKit
def P6 (Q:Exit->Act->World->Prop):Prop:=∀ c a w,¬ Q (.panic c) a w
section
variable {P:Program} {ops:Array Oper} {n:Nat} {Q:Exit->Act->World->Prop} {S:Array Bool->World->Prop} {l:FL} {a:Act} {w:World} {listed:Array Bool} {fuel:Nat}
def wpS (P:Program) (ops:Array Oper) (Q:Exit->Act->World->Prop) (S:Array Bool->World->Prop):Nat->Array Bool->Act->World->Prop
 |0,L,a,w=>Region.ready .any ops L=[]/\Q .normal a w
 |f+1,L,a,w=>(Region.ready .any ops L=[]->Q .normal a w)/\∀ i∈Region.ready .any ops L,wpOp P ops Q i (fun a' w'=>S (L.setIfInBounds i true) w'/\wpS P ops Q S f (L.setIfInBounds i true) a' w') a w
theorem i0W:∀ (f:Nat) (L:Array Bool) (a:Act) (w:World),wpS P ops Q S f L a w->wpAny P .any ops Q f L a w
 |0,_,_,_,h=>h
 |f+1,_,_,_,h=>⟨h.1,fun i hi=>wpOp_mono (fun a' w' k=>i0W f _ a' w' k.2) (h.2 i hi)⟩
def Cl (ops:Array Oper) (L:Array Bool):Prop:=L.size=ops.size/\∀ j o,ops[j]?=some o->L.getD j false=true->∀ e∈o.after,Region.binds .any e=true->L.getD e.on false=true
def clb (ops:Array Oper) (L:Array Bool):Bool:=(L.size==ops.size)&&(List.range ops.size).all fun j=>match ops[j]? with
 |some o=>!L.getD j false||o.after.all fun e=>!Region.binds .any e||L.getD e.on false
 |none=>true
theorem i0A {L:Array Bool} (h:clb ops L=true):Cl ops L:=by
 simp only [clb,Bool.and_eq_true,beq_iff_eq,List.all_eq_true] at h;refine ⟨h.1,fun j o ho hj e he hb=>?_⟩;have hlt:j<ops.size:=(Array.getElem?_eq_some_iff.1 ho).1;have h2:=h.2 j (List.mem_range.2 hlt);simp only [ho,hj,Bool.not_true,Bool.false_or,Array.all_eq_true_iff_forall_mem] at h2;have h3:=h2 e he;simpa [hb] using h3
theorem Cl.set {L:Array Bool} {j:Nat} (h:Cl ops L) (hj:j∈Region.ready .any ops L):Cl ops (L.setIfInBounds j true):=by
 refine ⟨by simp [h.1],fun k o ho hk e he hb=>?_⟩;obtain ⟨_,oj,hoj,hall⟩:=mem_ready.1 hj
 by_cases e2:j=k
 ·subst e2;rw [hoj] at ho;cases ho;exact getD_set_true (hall e he hb)
 ·rw [getD_set_ne false e2] at hk;exact getD_set_true (h.2 k o ho hk e he hb)
theorem g02 {i:Nat} {oi:Oper} {v:Value} {Sx:World->Prop} (hi:ops[i]?=some oi) (hsel:∀ (j:Nat) (o:Oper) cs b,ops[j]?=some o->o.op≠.select cs b)
  (hQ:∀ c a w,Q (.panic c) (a.put oi.dst v) w->Q (.panic c) a w) (hSx:∀ L w,Cl ops L->L.getD i true=false->S L w->Sx w) (hSi:∀ L w,S (L.setIfInBounds i true) w->L.getD i true=false->S L w)
  (hSj:∀ L w,S L w->S (L.setIfInBounds i true) w) :
  ∀ (fuel:Nat) (L:Array Bool) (a:Act) (w:World),Cl ops L->(∀ j oj,ops[j]?=some oj->j≠i->L.getD j true=false->(∀ e∈oj.after,Region.binds .any e=true->e.on≠i)->oi.apart ops oj=true)->
   i∈Region.ready .any ops L->YieldsIf P ops Sx oi v a->S L w->wpS P ops Q S fuel (L.setIfInBounds i true) (a.put oi.dst v) w->wpS P ops Q S (fuel+1) L a w:=by
 intro fuel
 induction fuel with
 |
  zero=>
  intro L a w hcl _ hr hy hS H;refine ⟨fun h=>(by rw [h] at hr;cases hr),fun j hj=>?_⟩
  by_cases e:j=i
  ·subst e;exact hy.wpOp hi (hSx L w hcl (mem_ready.1 hr).1 hS) ⟨hSj L w hS,H⟩
  ·have:=ready_mono hj e;rw [H.1] at this;cases this
 |
  succ fuel ih=>
  intro L a w hcl hfree hr hy hS H;have hun:=(mem_ready.1 hr).1;refine ⟨fun h=>(by rw [h] at hr;cases hr),fun j hj=>?_⟩
  by_cases e:j=i
  ·subst e;exact hy.wpOp hi (hSx L w hcl hun hS) ⟨hSj L w hS,H⟩
  ·have h1:=H.2 j (ready_mono hj e);obtain ⟨hjun,oj,hoj,hall⟩:=mem_ready.1 hj;have hnot:∀ e∈oj.after,Region.binds .any e=true->e.on≠i:=fun e he hb heq=>by
    have h1:=hall e he hb;rw [heq] at h1;rcases lt_or_ge i L.size with h' | h'
    ·simp [h'] at hun h1;rw [hun] at h1;cases h1
    ·simp [Array.getElem?_eq_none h'] at h1
   have h2:=wpOp_putIf hoj (hfree j oj hoj e hjun hnot) (fun cs b=>hsel i oi cs b hi) (fun cs b=>hsel j oj cs b hoj) hQ hy h1;have hfree':∀ k ok,ops[k]?=some ok->k≠i->(L.setIfInBounds j true).getD k true=false->(∀ e∈ok.after,Region.binds .any e=true->e.on≠i)->oi.apart ops ok=true:=fun k ok hk hki hun hno=>by
    refine hfree k ok hk hki ?_ hno
    by_cases hjk:j=k
    ·subst hjk;exact hjun
    ·rw [getD_set_ne true hjk] at hun;exact hun
   refine wpOp_mono (fun a' w' h3=>?_) h2;have h4:=h3.2.1;rw [Array.setIfInBounds_comm _ _ (Ne.symm e)] at h4;have hS':=hSi _ w' h4 (by rw [getD_set_ne true e];exact hun);refine ⟨hS',ih (L.setIfInBounds j true) a' w' (hcl.set hj) hfree' (ready_mono hr (Ne.symm e)) h3.1 hS' ?_⟩;rw [Array.setIfInBounds_comm _ _ e];exact h3.2.2
def marks (ops:Array Oper) (s:List Nat):List Nat->List Nat
 |[]=>s
 |j :: js=>marks ops (if s.contains j then (match ops[j]? with | some o=>(o.after.toList.filter (Region.binds .any)).map (·.on)++s | none=>s) else s) js
def a03 (ops:Array Oper) (m i:Nat):Bool:=decide (ops.size<=m)||(marks ops [m] (List.range ops.size).reverse).contains i
theorem o0a {L:Array Bool} (hc:Cl ops L) {m:Nat}:∀ (js s:List Nat),(∀ k∈s,L.getD k false=false->L.getD m false=false)->∀ k∈marks ops s js,L.getD k false=false->L.getD m false=false
 |[],s,h=>h
 |
  j :: js,s,h=>by
  unfold marks;refine o0a hc js _ ?_;split
  ·rename_i hj;have hj:j∈s:=by simpa using hj
   cases ho:ops[j]? with
   |none=>simpa [ho] using h
   |
    some o=>
    simp only;intro k hk hkL;simp only [List.mem_append,List.mem_map,List.mem_filter] at hk;rcases hk with ⟨e,⟨he,hb⟩,rfl⟩ | hk
    ·refine h j hj ?_;cases hL:L.getD j false with
     |false=>rfl
     |true=>have:=hc.2 j o ho hL e (by simpa using he) hb;rw [this] at hkL;cases hkL
    ·exact h k hk hkL
  ·exact h
theorem m0o {L:Array Bool} (hc:Cl ops L) {m i:Nat} (h:a03 ops m i=true) (hi:L.getD i true=false):L.getD m false=false:=by
 simp only [a03,Bool.or_eq_true,decide_eq_true_eq] at h;rcases h with h | h
 ·rw [<-hc.1] at h;simp [h]
 ·refine o0a hc _ [m] (fun k hk hL=>by simp at hk;subst hk;exact hL) i (by simpa using h) ?_;rcases lt_or_ge i L.size with h' | h'
  ·simpa [h'] using hi
  ·simp [h']
def Sk (T:B0) (w w':World):Prop:=∃ T',J0 w.heap T w'.heap T'
def Sd (m:Nat) (T:B0) (w0:World) (L:Array Bool) (w:World):Prop:=Sk T w0 w/\(L.getD m false=false->∀ k,k<w0.heap.size->w.heap[k]?=w0.heap[k]?)
def D5 (w0 w:World):Prop:=∀ k,k<w0.heap.size->w.heap[k]?=w0.heap[k]?
theorem Sd.start (m:Nat) (T:B0) (w0:World) (L:Array Bool):Sd m T w0 L w0:=⟨⟨T,J0.refl _ _⟩,fun _ _ _=>rfl⟩
theorem Sd.before {m:Nat} {T T':B0} {w0:World} {L:Array Bool} (k:J0 w0.heap T w.heap T') (h:D5 w0 w):Sd m T w0 L w:=⟨⟨T',k⟩,fun _=>h⟩
theorem Sd.behind {m:Nat} {T T':B0} {w0:World} {L:Array Bool} (k:J0 w0.heap T w.heap T') (h:L.getD m false=true):Sd m T w0 L w:=⟨⟨T',k⟩,fun e=>by rw [h] at e;cases e⟩
theorem D5.start (w:World):D5 w w:=fun _ _=>rfl
theorem D5.ext {w0 w w1:World} (h:D5 w0 w) (hs:w0.heap.size<=w.heap.size) (hb:Below w.heap.size w w1):D5 w0 w1:=fun k hk=>(hb.block k (lt_of_lt_of_le hk hs)).trans (h k hk)
theorem D5.app {w0 w w1:World} {v:Value} (h:D5 w0 w) (hs:w0.heap.size<=w.heap.size) (hv:∀ k,v.ownBlock=some k->w0.heap.size<=k) (hn:∀ k,k<w.heap.size->v.ownBlock≠some k->w1.heap[k]?=w.heap[k]?):D5 w0 w1:=
 fun k hk=>(hn k (lt_of_lt_of_le hk hs) (fun e=>Nat.lt_irrefl _ (lt_of_lt_of_le hk (hv k e)))).trans (h k hk)
theorem D5.cell {w w':World} {b o:Nat} {v:Value} (e:D5 w w') (h:Z0 w.heap b o=some v):Z0 w'.heap b o=some v:=(c0f (e b (m0e h))).trans h
theorem Sk.cell {T:B0} {w w':World} {b o:Nat} {v:Value} (hn:¬ T b) (e:Sk T w w') (h:Z0 w.heap b o=some v):Z0 w'.heap b o=some v:=by
 obtain ⟨T',k⟩:=e;exact (c0f (k.blk b (m0e h) hn).2).trans h
def may (ops:Array Oper) (listed:Array Bool) (m i:Nat):Bool:=Region.noSelect ops&&Region.free .any ops listed i&&(Region.ready .any ops listed).contains i&&clb ops listed&&(i != m)
theorem i0B {m i:Nat} {T:B0} {w0:World} (hm:i≠m) (L:Array Bool) (w:World):Sd m T w0 (L.setIfInBounds i true) w↔Sd m T w0 L w:=by
 unfold Sd;rw [getD_set_ne false hm]
theorem v0o {id:Nat} {xs:List Oper} (m:Nat) (T:B0) (hm:P.follows .mixedOrders=true)
  (h:∀ w1,w1.heap=w.heap->Below w.heap.size w w1->wpS P xs.toArray Q (Sd m T w1) xs.toArray.size (Array.replicate xs.toArray.size false) a w1):(Code.region id xs.toArray true).wp P Q a w:=
 wp_region_any hm (i0W _ _ _ _ (h _ rfl ⟨rfl,rfl,rfl,Nat.le_refl _,fun _ _=>rfl⟩))
theorem n04 {m i:Nat} {T:B0} {w0:World} {o:Oper} {v:Value} (ha:Ag n l a) (hq:P6 Q) (hi:ops[i]?=some o) (hm:may ops listed m i=true) (hf:(gate ops l o==some true&&fit n l o)=true)
  (hr:∀ w',Sk T w0 w'->(a03 ops m i=true->D5 w0 w')->(execOp (lk l) o).run P w'=.ok (.value v) w') (hS:Sd m T w0 listed w)
  (h:Sd m T w0 (listed.setIfInBounds i true) w->∀ a',Ag n (F5 l o.dst v) a'->wpS P ops Q (Sd m T w0) fuel (listed.setIfInBounds i true) a' w):wpS P ops Q (Sd m T w0) (fuel+1) listed a w:=by
 simp only [may,Bool.and_eq_true,bne_iff_ne,ne_eq] at hm;simp only [Bool.and_eq_true,beq_iff_eq] at hf;obtain ⟨⟨⟨⟨h1,h2⟩,h3⟩,h4⟩,h5⟩:=hm;refine g02 (Sx:=fun w'=>Sk T w0 w'/\(a03 ops m i=true->D5 w0 w')) hi (Region.noSelect_spec h1) (fun c a w hp=>absurd hp (hq c _ w)) (fun L w' hc hu hs=>⟨hs.1,fun hw=>hs.2 (m0o hc hw hu)⟩)
  (fun L w' hs _=>(i0B h5 L w').1 hs) (fun L w' hs=>(i0B h5 L w').2 hs) fuel listed a w (i0A h4) (Region.free_spec hi h2) (by simpa using h3) (.inl ⟨c0w ha hf.1,fun w' hw'=>?_⟩) hS (h ((i0B h5 listed w).2 hS) _ (ha.put _ _ (f0I hf.2)))
 rw [d02 hf.2 ha];exact hr w' hw'.1 hw'.2
theorem o0B {i:Nat} {o:Oper} (hi:ops[i]?=some o)
  (h:wpList P ops (Exit.then (fun a' w'=>S (listed.setIfInBounds i true) w'/\wpS P ops Q S fuel (listed.setIfInBounds i true) a' w') Q) [o] a w):wpOp P ops Q i (fun a' w'=>S (listed.setIfInBounds i true) w'/\wpS P ops Q S fuel (listed.setIfInBounds i true) a' w') a w:=by
 unfold wpOp;simp only [hi];unfold wpList at h;split
 ·rename_i hw;rw [if_pos hw] at h;rcases h with h | ⟨h1,a0,w0,h2⟩
  ·refine .inl ?_;unfold Oper.wp at h ⊢;generalize (execOp a.eval o).run P w=r at h ⊢;cases r with
   |
    ok x w'=>
    cases x<;>first | exact h | exact h.mono (fun e w'' he=>by cases e<;>first | exact he | (obtain ⟨a1,w1,h3⟩:=he;exact ⟨a1,w1,h3⟩))
   |halt x w'=>cases x<;>exact h
  ·exact .inr ⟨h1,a0,w0,h2⟩
 ·rename_i hw;rw [if_neg hw] at h;exact h
theorem p0a {i:Nat} {o:Oper} (hr:Region.ready .any ops listed=[i]) (hi:ops[i]?=some o)
  (h:wpList P ops (Exit.then (fun a' w'=>S (listed.setIfInBounds i true) w'/\wpS P ops Q S fuel (listed.setIfInBounds i true) a' w') Q) [o] a w):wpS P ops Q S (fuel+1) listed a w:=by
 refine ⟨fun h0=>(by rw [hr] at h0;cases h0),fun j hj=>?_⟩;rw [hr] at hj;simp only [List.mem_singleton] at hj;subst hj;exact o0B hi h
theorem n0Q (hr:Region.ready .any ops listed=[]) (h:Q .normal a w):wpS P ops Q S fuel listed a w:=by
 cases fuel with
 |zero=>exact ⟨hr,h⟩
 |succ f=>exact ⟨fun _=>h,by rw [hr];simp⟩
theorem n0B {K:Act->World->Prop} (h1:S listed w) (h2:K a w):wpList P ops (Exit.then (fun a' w'=>S listed w'/\K a' w') Q) [] a w:=⟨h1,h2⟩
theorem Sl.off {α:Type} {T:Ty α} {H:F0} {O:B0} {b o c:Nat} {xs:List α} {i:Int} (h:Sl T H O (some ⟨b,o,none⟩) c xs) (hi:y0 xs i=true):¬ O b:=by
 have hx:xs≠[]:=by rintro rfl;have:=b8 hi;simp at this;omega
 obtain ⟨b',o',hA,_,hn⟩:=h.2.1 hx;simp at hA;obtain ⟨rfl,_⟩:=hA;exact hn
theorem n0S {c:Code} (hq:P6 Q) (h:P6 Q->c.wp P Q a w):c.wp P Q a w:=h hq
theorem P6.loop {σ τ:Type} {c:T0 σ τ} {K:Act->World->Prop} {D:τ->Exit->Act->World->Prop} (h:∀ t c a w,¬ D t (.panic c) a w):P6 (Exit.then K (fun e a' w'=>∃ t,c=.done t/\D t e a' w')):=by
 rintro ch a w ⟨t,_,hd⟩;exact h t ch a w hd
end
section
variable {P:Program} {ops:Array Oper} {n:Nat} {Q:Exit->Act->World->Prop} {l:FL} {a:Act} {w:World} {o:Oper} {rest:List Oper}
theorem p0h {α:Type} {T:Ty α} {H:F0} {S:B0} {t e:TypeId} {lo hi mx:Option Value} {A:Option Addr} {c:Nat} {xs:List α} {vlo vhi vmx:Int}
  (ht:P.underlying t=some (.slice e)) (hE:(P.info? e).map (·.size)=some T.sz) (hs:Sl T H S A c xs)
  (hlo:(match lo with | none=>vlo=0 | some y=>∃ k,y=.int k vlo)) (hhi:(match hi with | none=>vhi=xs.length/\mx=none | some y=>∃ k,y=.int k vhi)) (hmx:(match mx with | none=>vmx=c | some y=>∃ k,y=.int k vmx))
  (hk:C3 xs vlo vhi=true) (hm:(mx=none\/(vhi<=vmx/\vmx<=xs.length))) :
  ∃ A1,(∀ w,(Instr.sliceAt t (.slice A xs.length c) lo hi mx).run P w=.ok (.slice A1 (L1 xs vlo vhi).length (vmx-vlo).toNat) w)/\Sl T H S A1 (vmx-vlo).toNat (L1 xs vlo vhi):=by
 have hk':=hk;simp only [C3,Bool.and_eq_true,decide_eq_true_eq] at hk';obtain ⟨⟨h0,h1⟩,h2⟩:=hk';have hcap:=hs.1;obtain ⟨inf,hinf,hsz⟩:=Option.map_eq_some_iff.1 hE;have hmc:vhi<=vmx/\vmx<=c:=by
  cases mx with
  |none=>simp only at hmx;omega
  |
   some y=>
   rcases hm with hm | hm
   ·cases hm
   ·omega
 have hlen:=a0X hk;refine ⟨if vmx.toNat=vlo.toNat then A else A.map (·.add (vlo.toNat*T.sz)),fun w=>?_,hs.cut (m:=(vmx-vlo).toNat) (c':=(vmx-vlo).toNat) hk (by omega) ?_⟩
 ·have e1:vhi.toNat-vlo.toNat=(vhi-vlo).toNat:=by omega
  have e2:vmx.toNat-vlo.toNat=(vmx-vlo).toNat:=by omega
  rw [hlen];unfold Instr.sliceAt Instr.slice;simp only [Sem.run_bind,run_underlying ht,Result.andThen_ok];have hbounds:(Instr.sliceBounds true xs.length c lo hi mx).run P w=.ok (vlo.toNat,vhi.toNat,vmx.toNat) w:=by
   unfold Instr.sliceBounds;cases mx with
   |
    none=>
    simp only at hmx;cases hi with
    |
     none=>
     simp only at hhi;cases lo with
     |none=>simp only at hlo;subst hlo;simp [hhi.1,hmx]
     |
      some y=>
      obtain ⟨k,rfl⟩:=hlo;have:=run_sliceBound (P:=P) (w:=w) k vlo xs.length .sliceB h0 (by omega);simp [hhi.1,hmx,this]
    |
     some z=>
     obtain ⟨k2,rfl⟩:=hhi;have b2:=run_sliceBound (P:=P) (w:=w) k2 vhi c .sliceAcap (by omega) (by omega);cases lo with
     |none=>simp only at hlo;subst hlo;simp [hmx,b2]
     |
      some y=>
      obtain ⟨k,rfl⟩:=hlo;have b1:=run_sliceBound (P:=P) (w:=w) k vlo vhi.toNat .sliceB h0 (by omega);simp [hmx,b1,b2]
   |
    some q=>
    obtain ⟨k3,rfl⟩:=hmx;have b3:=run_sliceBound (P:=P) (w:=w) k3 vmx c .slice3Acap (by omega) (by omega);cases hi with
    |none=>exact absurd hhi.2 (by simp)
    |
     some z=>
     obtain ⟨k2,rfl⟩:=hhi;have b2:=run_sliceBound (P:=P) (w:=w) k2 vhi vmx.toNat .slice3B (by omega) (by omega);cases lo with
     |none=>simp only at hlo;subst hlo;simp [b2,b3]
     |
      some y=>
      obtain ⟨k,rfl⟩:=hlo;have b1:=run_sliceBound (P:=P) (w:=w) k vlo vhi.toNat .slice3C h0 (by omega);simp [b1,b2,b3]
  simp only [hbounds,Result.andThen_ok,sizeOf,typeInfo,Sem.run_bind];simp [hinf,hsz,e1,e2]
 ·by_cases hz:vmx.toNat=vlo.toNat
  ·right;refine ⟨by omega,List.eq_nil_of_length_eq_zero (by rw [hlen];omega)⟩
  ·left;rw [if_neg hz]
theorem o0Z {t:TypeId} {x:Operand} {lo hi mx:Option Operand} {v:Value} (w:World) (ho:o.op=.slice t x lo hi mx)
  (h:(Instr.sliceAt t (lk l x) (lo.map (lk l)) (hi.map (lk l)) (mx.map (lk l))).run P w=.ok v w):(execOp (lk l) o).run P w=.ok (.value v) w:=by
 simp [execOp,ho,h]
theorem s0B {α:Type} {T:Ty α} {H:F0} {S M:B0} {t e:TypeId} {hi:Value} {A:Option Addr} {c:Nat} {xs:List α} {k:IntKind} {vhi:Int} (ht:P.underlying t=some (.slice e)) (hE:(P.info? e).map (·.size)=some T.sz)
  (hown:Ow T e M H S (.slice A xs.length c) xs) (hk:C3 xs 0 vhi=true) (hhi:hi=.int k vhi:=by rfl) :
  (∀ w,(Instr.sliceAt t (.slice A xs.length c) none (some hi) none).run P w=.ok (.slice A (L1 xs 0 vhi).length c) w)/\Ow T e M H S (.slice A (L1 xs 0 vhi).length c) (L1 xs 0 vhi):=by
 subst hhi;have hk':=hk;simp only [C3,Bool.and_eq_true,decide_eq_true_eq] at hk';obtain ⟨⟨_,h1⟩,h2⟩:=hk';have hcap:=hown.cap;have hlen:=a0X hk;obtain ⟨inf,hinf,hsz⟩:=Option.map_eq_some_iff.1 hE;refine ⟨fun w=>?_,hown.take h1 h2⟩;have b2:=run_sliceBound (P:=P) (w:=w) k vhi c .sliceAcap (by omega) (by omega);simp only [Instr.sliceAt,Instr.slice,Instr.sliceBounds,Sem.run_bind,run_underlying ht,Result.andThen_ok];simp [b2,sizeOf,typeInfo,hinf,hsz,hlen];cases A<;>simp [Addr.add]
def Pt {α:Type} (T:Ty α) (t:TypeId) (H:F0) (S:B0) (r:Option α) (v:Value):Prop:=
 match r with
 |none=>v=.pointer none
 |some x=>∃ b cs,v=.pointer (some ⟨b,0,none⟩)/\Bx H S b t cs/\T.R H S cs x
theorem Pt.Y0 {α:Type} {T:Ty α} {t:TypeId} {H H':F0} {S S':B0} {r:Option α} {v:Value} (k:J0 H S H' S') (h:Pt T t H S r v):Pt T t H' S' r v:=by
 cases r with
 |none=>exact h
 |some x=>obtain ⟨b,cs,h1,h2,h3⟩:=h;exact ⟨b,cs,h1,h2.Y0 k,T.Y0 k h3⟩
theorem Pt.get {α:Type} {T:Ty α} {t:TypeId} {H:F0} {S:B0} {r:Option α} {x:α} {v:Value} (h:Pt T t H S r v) (hr:r=some x):∃ b cs,v=.pointer (some ⟨b,0,none⟩)/\Bx H S b t cs/\T.R H S cs x:=by
 subst hr;exact h
theorem Pt.none {α:Type} {T:Ty α} {t:TypeId} {H:F0} {S:B0}:Pt T t H S Option.none (.pointer Option.none):=rfl
def Y6 (vs:List Value):B0:=fun k=>∃ v∈vs,v.ownBlock=some k
def inL (vs:List Value) (S:B0):B0:=fun k=>S k\/Y6 vs k
theorem z0q {k:Nat}:¬ Y6 [] k:=fun ⟨_,h,_⟩=>by cases h
theorem all_nil {C:Nat->Prop}:∀ k,Y6 [] k->C k:=fun _ h=>absurd h z0q
theorem all_cons {C:Nat->Prop} {v:Value} {vs:List Value} (h:∀ k,v.ownBlock=some k->C k) (t:∀ k,Y6 vs k->C k):∀ k,Y6 (v :: vs) k->C k:=fun k ⟨u,hu,hk⟩=>by
 rcases List.mem_cons.1 hu with rfl | hu
 ·exact h k hk
 ·exact t k ⟨u,hu,hk⟩
theorem Mb.own {M:B0} {H:F0} {S:B0} {b:Nat} {t:TypeId} {cs:List Value} (h:Mb M H S b t cs):∀ k,(bv b).ownBlock=some k->S k/\M k:=fun k hk=>by cases hk;exact h.2
theorem Mb.l9 {M M':B0} {H:F0} {S:B0} {b:Nat} {t:TypeId} {cs:List Value} (h:Mb M H S b t cs) (hm:∀ k,(bv b).ownBlock=some k->M' k):Mb M' H S b t cs:=⟨h.1,h.2.1,hm b rfl⟩
theorem Ow.out {α:Type} {T:Ty α} {e:TypeId} {M:B0} {H:F0} {S S0:B0} {v:Value} {xs:List α} {vs:List Value} (h:Ow T e M H S v xs) (hs:∀ k,inL vs S0 k->S k) (hv:∀ k,v.ownBlock=some k->Y6 vs k):Ow T e M H (inL vs S0) v xs:=
 h.o0Q hs (fun b hb=>.inr (hv b hb))
theorem Mb.out {M:B0} {H:F0} {S S0:B0} {b:Nat} {t:TypeId} {cs:List Value} {vs:List Value} (h:Mb M H S b t cs) (hv:∀ k,(bv b).ownBlock=some k->Y6 vs k):Mb M H (inL vs S0) b t cs:=⟨h.1,.inr (hv b rfl),h.2.2⟩
theorem b6.refl (W0:B0) (w:World):b6 W0 w w:=⟨rfl,rfl,rfl,Nat.le_refl _,fun _ _ _=>rfl⟩
theorem back {w0 w w1:World} {W0 S0 S:B0} {us vs:List Value} (cx:Cx w0 W0 S0 w S) (hu:∀ k,Y6 us k->S k/\Wr W0 w0 k) (hb:b6 (Y6 us) w w1) (hv:∀ k,Y6 vs k->k<w1.heap.size/\Wr (Y6 us) w k) :
  Cx w0 W0 S0 w1 (inL vs S)/\J0 w.heap S w1.heap (inL vs S)/\(∀ b,S b->inL vs S b)/\(∀ k,k<w.heap.size->¬ Y6 us k->w1.heap[k]?=w.heap[k]?):=by
 refine ⟨⟨⟨hb.os.trans cx.bel.os,hb.tape.trans cx.bel.tape,hb.output.trans cx.bel.output,le_trans cx.bel.size hb.size,fun k hk hnn=>(hb.block k (by have:=cx.size;omega) (fun e=>?_)).trans (cx.bel.block k hk hnn)⟩,fun b h=>.inl (cx.sub b h),fun b h=>h.elim (fun h=>lt_of_lt_of_le (cx.lt b h) hb.size) (fun h=>(hv b h).1),cx.lt0⟩,
  ⟨hb.size,fun b h hnn=>⟨fun hi=>hi.elim hnn (fun h2=>?_),hb.block b h (fun e=>hnn (hu b e).1)⟩⟩,fun _ h=>.inl h,fun k hk hne=>hb.block k hk hne⟩
 ·rcases (hu k e).2 with h | h
  ·exact hnn h
  ·omega
 ·rcases (hv b h2).2 with h3 | h3
  ·exact hnn (hu b h3).1
  ·omega
def P2 {α:Type} (xs ys:List α):List α:=ys.take xs.length++xs.drop ys.length
theorem C8 {α:Type} (xs ys:List α):(P2 xs ys).length=xs.length:=by simp only [P2,length_append,length_take,length_drop];omega
theorem D1.cut {α:Type} {T:Ty α} {H:F0} {S:B0} {cs:List Value} {xs:List α} (h:D1 T H S cs xs) (k:Nat):D1 T H S (cs.take (k*T.sz)) (xs.take k):=by
 refine ⟨by rw [length_take,length_take,h.1];exact (Nat.mul_min_mul_right k xs.length T.sz),fun i x hx=>?_⟩;have hi:i<k:=by
  rcases lt_or_ge i k with h | h
  ·exact h
  ·rw [List.getElem?_take_eq_none (by omega)] at hx;cases hx
 rw [List.getElem?_take_of_lt hi] at hx;have h2:=h.2 i x hx;have hle:i*T.sz+T.sz<=k*T.sz:=by rw [<-Nat.succ_mul];exact Nat.mul_le_mul_right _ hi
 rw [List.drop_take,List.take_take,min_eq_left (by omega)];exact h2
theorem D1.tail {α:Type} {T:Ty α} {H:F0} {S:B0} {cs:List Value} {xs:List α} (h:D1 T H S cs xs) (k:Nat):D1 T H S (cs.drop (k*T.sz)) (xs.drop k):=by
 refine ⟨by rw [length_drop,length_drop,h.1,Nat.sub_mul],fun i x hx=>?_⟩;rw [List.getElem?_drop] at hx;have h2:=h.2 _ x hx;rw [List.drop_drop,<-Nat.add_mul];exact h2
theorem y01 {α:Type} {T:Ty α} {w0:World} {W0 Wf S0 S:B0} {t e:TypeId} {x y:Operand} {A B:Option Addr} {c d:Nat} {xs ys:List α} (ha:Ag n l a) (cx:Cx w0 W0 S0 w S) (hf:(gate ops l o==some true&&fit n l o)=true)
  (ho:o.op=.call { callee:=.builtin .copy,args:=#[x,y],argTypes:=#[t,t] }) (hx:lk l x=.slice A xs.length c) (hy:lk l y=.slice B ys.length d) (ht:P.underlying t=some (.slice e)) (hE:(P.info? e).map (·.size)=some 1) (hT:T.sz=1)
  (hW:∀ k,Wr Wf w0 k->Wr W0 w0 k) (hown:Ow T e (Wr Wf w0) w.heap S (.slice A xs.length c) xs) (hys:M3 T w.heap S B ys)
  (h:∀ w1,Cx w0 W0 S0 w1 S->(∀ k,k<w.heap.size->(Value.slice A xs.length c).ownBlock≠some k->w1.heap[k]?=w.heap[k]?)->J0 w.heap S w1.heap S->Ow T e (Wr Wf w0) w1.heap S (.slice A xs.length c) (P2 xs ys)->
   ∀ a',Ag n (F5 l o.dst (.int .i64 (Nat.min ys.length xs.length:Nat))) a'->wpList P ops Q rest a' w1):wpList P ops Q (o :: rest) a w:=by
 have fin:∀ (w1:World) (m:Nat),(Builtin.copy_ #[t,t] o.type #[.slice A xs.length c,.slice B ys.length d]).run P w=.ok (goInt m) w1->m=Nat.min ys.length xs.length->
   Cx w0 W0 S0 w1 S->(∀ k,k<w.heap.size->(Value.slice A xs.length c).ownBlock≠some k->w1.heap[k]?=w.heap[k]?)->J0 w.heap S w1.heap S->Ow T e (Wr Wf w0) w1.heap S (.slice A xs.length c) (P2 xs ys)->wpList P ops Q (o :: rest) a w:=by
  intro w1 m hr hm h1 h2 h3 h4;refine A9 ha hf (v:=.int .i64 (Nat.min ys.length xs.length:Nat)) (w':=w1) ?_ fun a' ha'=>h w1 h1 h2 h3 h4 a' ha';subst hm;simp only [execOp,ho,resolve,invoke,builtin,Sem.run_bind,Sem.run_pure,Result.andThen_ok,List.map_toArray,List.map_cons,List.map_nil,hx,hy,hr];rfl
 by_cases h0:Nat.min ys.length xs.length=0
 ·refine fin w 0 (run_copy_none w t t o.type e A B xs.length c ys.length d ht hE h0) h0.symm cx (fun _ _ _=>rfl) (J0.refl _ _) ?_;have:P2 xs ys=xs:=by
   rcases Nat.eq_zero_or_pos xs.length with hz | hz
   ·have:=List.eq_nil_of_length_eq_zero hz;subst this;simp [P2]
   ·have hy0:ys.length=0:=by
     rcases le_total ys.length xs.length with hle | hle
     ·rwa [show Nat.min ys.length xs.length=ys.length from min_eq_left hle] at h0
     ·rw [show Nat.min ys.length xs.length=xs.length from Nat.min_eq_right hle] at h0;omega
    have:=List.eq_nil_of_length_eq_zero hy0;subst this;simp [P2]
  rw [this];exact hown
 ·have hxp:0<xs.length:=by
   rcases Nat.eq_zero_or_pos xs.length with hz | hz
   ·exact absurd (by rw [hz];exact Nat.min_zero _) h0
   ·exact hz
  have hyp:0<ys.length:=by
   rcases Nat.eq_zero_or_pos ys.length with hz | hz
   ·exact absurd (by rw [hz];exact Nat.zero_min _) h0
   ·exact hz
  obtain ⟨b,off,_,hB,_⟩:=hys 0 ys[0] (by simp [hyp]);subst hB;obtain ⟨news,hen,hcells⟩:=M3.news (w:=w) (xs:=ys) (k:=0) (A:=some ⟨b,off,none⟩) (T:=T) (S:=S) (fun i x hx=>by
   obtain ⟨b,o,cs,h1,h2,h3⟩:=hys i x hx;exact ⟨b,o,cs,h1,h2,fun j v hj=>by rw [zero_add];exact h3 j v hj⟩)
  have hlt:=hown.lt;obtain ⟨hs0,cs,⟨hcl,hrow⟩,hels⟩:=hown;rcases hrow with ⟨hv,hz⟩ | ⟨g,cap,cur,hv,hg,hnc,hm,hcs,htake⟩
  ·omega
  ·simp at hv;obtain ⟨rfl,rfl⟩:=hv;rw [hT,mul_one] at hcl hcs htake;have hnl:news.length=ys.length:=by rw [hen.1,hT,mul_one]
   have hml:(news.take xs.length).length=Nat.min ys.length xs.length:=by rw [length_take,hnl];exact Nat.min_comm _ _
   have hr:=run_copy_row (P:=P) w t t o.type e g 0 xs.length c ⟨b,off,none⟩ ys.length d cur e (news.take xs.length) ht hE hg hml (fun j v hj=>by
    rw [e8];have hj':news[j]?=some v:=by
     rcases lt_or_ge j xs.length with h | h
     ·rwa [List.getElem?_take_of_lt h] at hj
     ·rw [List.getElem?_take_eq_none h] at hj;cases hj
    have:=hcells b off rfl j v hj';simpa using this) (by rw [hml,hcs,zero_add];exact le_trans (Nat.min_le_right _ _) hnc) (fun v hv=>hen.c0p v (List.mem_of_mem_take hv))
   simp only [take_zero,List.nil_append,zero_add] at hr;have hgS:=hs0 g (by simp [Value.ownBlock]);have hgl:=getElem?_lt hg;have hon:C4 g w (w.setRow g (news.take xs.length++cur.toList.drop (news.take xs.length).length).toArray):=⟨rfl,rfl,rfl,by simp [World.setRow],fun k _ hk=>by simp [World.setRow,Array.getElem?_modify,Ne.symm hk]⟩
   have hk:=hon.Y0 hgS.1;refine fin _ _ hr hml (hon.cx cx (hW _ hgS.2)) (fun k hk hne=>hon.block k hk (fun e=>hne (by rw [e];simp [Value.ownBlock]))) hk ⟨hs0,news.take xs.length++cs.drop ys.length,⟨?_,.inr ⟨g,c,(news.take xs.length++cur.toList.drop (news.take xs.length).length).toArray,by rw [C8],setRow_heap w g cur _ e _ hg,by rw [C8];exact hnc,hm,?_,?_⟩⟩,?_⟩
   ·rw [C8,hT,mul_one,length_append,hml,length_drop,hcl];rcases le_total ys.length xs.length with hle | hle
    ·rw [show Nat.min ys.length xs.length=ys.length from min_eq_left hle];omega
    ·rw [show Nat.min ys.length xs.length=xs.length from Nat.min_eq_right hle];omega
   ·have h9:(news.take xs.length).length<=c:=by rw [hml];exact le_trans (Nat.min_le_right _ _) hnc
    simp only [hT,mul_one,List.size_toArray,length_append,length_drop,Array.length_toList,hcs];omega
   ·rw [C8,hT,mul_one];show List.take xs.length (news.take xs.length++cur.toList.drop (news.take xs.length).length)=_;rw [List.take_append,List.take_take,Nat.min_self,<-htake];congr 1;rw [List.drop_take];rcases le_total ys.length xs.length with hle | hle
    ·have:(news.take xs.length).length=ys.length:=by rw [hml];exact min_eq_left hle
     rw [this]
    ·have:(news.take xs.length).length=xs.length:=by rw [hml];exact Nat.min_eq_right hle
     rw [this,Nat.sub_self,take_zero,Nat.sub_eq_zero_of_le hle,take_zero]
   ·have h1:=(hen.Y0 hk).cut xs.length;have h2:=(hels.Y0 hk).tail ys.length;rw [hT,mul_one] at h1 h2;exact h1.append h2
end
section
variable {P:Program} {ops:Array Oper} {n:Nat} {Q:Exit->Act->World->Prop} {l:FL} {a:Act} {w:World} {o:Oper} {rest:List Oper}
end
def M5:List (Int×Int)->Int->Int
 |[],_=>0
 |(a,b) :: r,k=>if a==k then b else M5 r k
def X6:List (Int×Int)->Int->Bool
 |[],_=>false
 |(a,_) :: r,k=>a==k||X6 r k
def Z8:List (Int×Int)->Int->Int->List (Int×Int)
 |[],k,v=>[(k,v)]
 |(a,b) :: r,k,v=>if a==k then (k,v) :: r else (a,b) :: Z8 r k v
def b0u:List (Int×Int)->Int->List (Int×Int)
 |[],_=>[]
 |(a,b) :: r,k=>if a==k then r else (a,b) :: b0u r k
def O5 (es:List MapEntry) (m:List (Int×Int)):Prop:=es.map (fun e=>(e.key,e.val))=m.map (fun p=>(.int .i64 p.1,.int .i64 p.2))
theorem O5.cons_inv {e:MapEntry} {es:List MapEntry} {m:List (Int×Int)} (h:O5 (e :: es) m):∃ a b m',m=(a,b) :: m'/\e.key=.int .i64 a/\e.val=.int .i64 b/\O5 es m':=by
 cases m with
 |nil=>simp [O5] at h
 |cons p m'=>simp [O5] at h;exact ⟨p.1,p.2,m',rfl,h.1.1,h.1.2,h.2⟩
theorem O5.s7 {m:List (Int×Int)} (h:O5 [] m):m=[]:=by simpa [O5] using h.symm
theorem h0u (k:Int):∀ (es:List MapEntry) (m:List (Int×Int)),O5 es m->∀ i:Nat,
  (Instr.findNow (.int .i64) (.int .i64 k) es i=some none/\X6 m k=false/\M5 m k=0/\∀ v,Z8 m k v=m++[(k,v)]/\b0u m k=m)\/
  ∃ j,Instr.findNow (.int .i64) (.int .i64 k) es i=some (some (i+j,.int .i64 (M5 m k)))/\j<es.length/\X6 m k=true/\m[j]?=some (k,M5 m k)/\(∀ v,Z8 m k v=m.set j (k,v))/\b0u m k=m.eraseIdx j
 |[],m,h,i=>by obtain rfl:=h.s7;exact .inl ⟨rfl,rfl,rfl,fun v=>⟨rfl,rfl⟩⟩
 |
  e :: es,m,h,i=>by
  obtain ⟨a,b,m',rfl,h1,h2,h3⟩:=h.cons_inv
  by_cases hk:a=k
  ·subst hk;refine .inr ⟨0,?_,by simp,by simp [X6],by simp [M5],fun v=>by simp [Z8],by simp [b0u]⟩;simp [Instr.findNow,Instr.sameNow,h1,h2,M5]
  ·have hk':(a==k)=false:=by simpa using hk
   have hs:Instr.sameNow (.int .i64) (.int .i64 k) e.key=some false:=by
    have:¬ k=a:=fun e=>hk e.symm;simp [Instr.sameNow,h1,this]
   rcases h0u k es m' h3 (i+1) with ⟨f1,f2,f3,f4⟩ | ⟨j,f1,f2,f3,f4,f5,f6⟩
   ·refine .inl ⟨?_,by simp [X6,hk',f2],by simp [M5,hk',f3],fun v=>⟨by simp [Z8,hk',(f4 v).1],by simp [b0u,hk',(f4 v).2]⟩⟩;simp [Instr.findNow,hs,f1]
   ·refine .inr ⟨j+1,?_,by simp;omega,by simp [X6,hk',f3],by simp [M5,hk',f4],fun v=>by simp [Z8,hk',f5 v],by simp [b0u,hk',f6]⟩;simp [Instr.findNow,hs,f1,M5,hk',Nat.add_assoc,Nat.add_comm 1 j]
def Mp (M:B0) (H:F0) (S:B0) (r:Nat) (m:List (Int×Int)):Prop:=(∃ es clock,H[r]?=some (.map es clock)/\O5 es.toList m)/\S r/\M r
def Mr (H:F0) (S:B0) (r:Nat) (m:List (Int×Int)):Prop:=(∃ es clock,H[r]?=some (.map es clock)/\O5 es.toList m)/\¬ S r
section
variable {M M':B0} {H H':F0} {S S' S0:B0} {r b:Nat} {m:List (Int×Int)} {w w1 w0:World} {W0 Wf:B0}
theorem Mp.a0y (h:Mp M H S r m):r<H.size:=by obtain ⟨⟨_,_,h1,_⟩,_⟩:=h;exact getElem?_lt h1
theorem Mr.a0y (h:Mr H S r m):r<H.size:=by obtain ⟨⟨_,_,h1,_⟩,_⟩:=h;exact getElem?_lt h1
theorem Mr.Y0 (k:J0 H S H' S') (h:Mr H S r m):Mr H' S' r m:=by
 obtain ⟨h1,h2⟩:=k.blk r h.a0y h.2;obtain ⟨⟨es,cl,he,hm⟩,_⟩:=h;exact ⟨⟨es,cl,h2.trans he,hm⟩,h1⟩
theorem Mr.minus {u:Value} (h:Mr H S r m):Mr H (Go.V.minus S u) r m:=h.Y0 (J0.less (fun _ h=>h.1))
theorem Mp.Y0 (h:Mp M H S r m) (hs:∀ b,S b->S' b) (hb:H'[r]?=H[r]?):Mp M H' S' r m:=by
 obtain ⟨⟨es,cl,he,hm⟩,h1,h2⟩:=h;exact ⟨⟨es,cl,hb.trans he,hm⟩,hs r h1,h2⟩
theorem Mp.ext (h:Mp M w.heap S r m) (hb:Below w.heap.size w w1):Mp M w1.heap S r m:=h.Y0 (fun _ h=>h) (hb.block r h.a0y)
theorem Mp.z01 (h:Mp M w.heap S r m) (hb:Below w.heap.size w w1) (hs:∀ b,S b->S' b):Mp M w1.heap S' r m:=h.Y0 hs (hb.block r h.a0y)
theorem Mp.lt (h:Mp M H S r m):∀ k,(bv r).ownBlock=some k->k<H.size:=fun k hk=>by cases hk;exact h.a0y
theorem Mp.own (h:Mp M H S r m):∀ k,(bv r).ownBlock=some k->S k/\M k:=fun k hk=>by cases hk;exact h.2
theorem Mp.only (h:Mp M w.heap S r m) (ho:C4 b w w1) (hd:r≠b):Mp M w1.heap S r m:=h.Y0 (fun _ h=>h) (ho.block r h.a0y hd)
theorem Mp.minus {u:Value} (h:Mp M H S r m) (d:M8 (bv r) u):Mp M H (Go.V.minus S u) r m:=⟨h.1,⟨h.2.1,fun e=>d r rfl e⟩,h.2.2⟩
theorem Mp.l9 (h:Mp M H S r m) (hm:∀ k,(bv r).ownBlock=some k->M' k):Mp M' H S r m:=⟨h.1,h.2.1,hm r rfl⟩
theorem Mp.out {vs:List Value} (h:Mp M H S r m) (hv:∀ k,(bv r).ownBlock=some k->Y6 vs k):Mp M H (inL vs S0) r m:=⟨h.1,.inr (hv r rfl),h.2.2⟩
variable {P:Program} {ops:Array Oper} {n:Nat} {Q:Exit->Act->World->Prop} {l:FL} {a:Act} {o:Oper} {rest:List Oper}
def h09 (w:World) (r:Nat) (m:List (Int×Int)):Prop:=∃ es clock,w.heap[r]?=some (.map es clock)/\O5 es.toList m
theorem h09.S7 {w2:World} (h:h09 w r m) (e:w2.heap[r]?=w.heap[r]?):h09 w2 r m:=by
 obtain ⟨es,cl,he,hm⟩:=h;exact ⟨es,cl,e.trans he,hm⟩
theorem d07 {em:Bool} {kt:TypeId} {k:Int} (hk:P.underlying kt=some (.int .i64)) (w:World):(Instr.checkKey em 10000 kt (.int .i64 k)).run P w=.ok () w:=by
 show (Instr.checkKey em (9999+1) kt (.int .i64 k)).run P w=.ok () w;generalize 9999=q;simp [Instr.checkKey,run_underlying hk]
theorem a0D {es:Array MapEntry} {cl:Nat} (h:w.heap[r]?=some (.map es cl)):(getObj r).run P w=.ok (.map es cl) w:=by
 simp [getObj,Sem.run,h]
def Y7 (w:World) (r:Nat) (ob:Obj):World:={ w with heap:=w.heap.setIfInBounds r ob }
theorem p0B {ob ob0:Obj} (h:w.heap[r]?=some ob0):(Y7 w r ob).heap[r]?=some ob:=by
 unfold Y7;rw [Array.getElem?_setIfInBounds_self_of_lt (getElem?_lt h)]
theorem h0Q (w:World) (r:Nat) (ob:Obj):C4 r w (Y7 w r ob):=⟨rfl,rfl,rfl,by simp [Y7],fun k _ hk=>by simp [Y7,Ne.symm hk]⟩
theorem g06 {ob:Obj} {es:Array MapEntry} {cl:Nat} (h:w.heap[r]?=some (.map es cl)):(setObj r ob).run P w=.ok () (Y7 w r ob):=by
 simp [setObj,Sem.run,h,Y7]
theorem u0T (w:World) (k:Int):(Instr.keyThatStays (.int .i64 k) (.int .i64 k)).run P w=.ok (.int .i64 k) w:=by
 simp [Instr.keyThatStays,Instr.sameBits]
theorem w0m {t kt et:TypeId} {es:Array MapEntry} {cl:Nat} {k v:Int} (ht:P.underlying t=some (.map kt et)) (hk:P.underlying kt=some (.int .i64)) (he:w.heap[r]?=some (.map es cl)) (hm:O5 es.toList m) :
  ∃ es' cl',(Instr.mapUpdate t (.map (some r)) (.int .i64 k) (.int .i64 v)).run P w=.ok () (Y7 w r (.map es' cl'))/\O5 es'.toList (Z8 m k v):=by
 rcases h0u k es.toList m hm 0 with ⟨f1,f2,f3,f4⟩ | ⟨j,f1,f2,f3,f4,f5,f6⟩
 ·refine ⟨es.push ⟨.int .i64 k,.int .i64 v,cl⟩,cl+1,?_,?_⟩
  ·simp [Instr.mapUpdate,run_underlying ht,a0D he,d07 hk,Instr.findKey,run_underlying hk,f1,g06 he]
  ·rw [(f4 v).1];simp only [O5] at hm ⊢;simp [hm]
 ·have hj:j<es.size:=by simpa using f2
  have hkj:es[j].key=.int .i64 k:=by
   have h1:(es.toList.map (fun e=>(e.key,e.val)))[j]?=(m.map (fun p=>((.int .i64 p.1,.int .i64 p.2):Value×Value)))[j]?:=by rw [hm]
   rw [List.getElem?_map,List.getElem?_map,f4] at h1;simp [hj] at h1;exact h1.1
  refine ⟨es.modify j fun e=>{ e with key:=.int .i64 k,val:=.int .i64 v },cl,?_,?_⟩
  ·simp [Instr.mapUpdate,run_underlying ht,a0D he,d07 hk,Instr.findKey,run_underlying hk,f1,hj,hkj,u0T,g06 he]
  ·rw [f5 v];simp only [O5] at hm ⊢;rw [Array.toList_modify];apply List.ext_getElem?;intro i;have h1:(es.toList.map (fun e=>(e.key,e.val)))[i]?=(m.map (fun p=>((.int .i64 p.1,.int .i64 p.2):Value×Value)))[i]?:=by rw [hm]
   rw [List.getElem?_map,List.getElem?_map] at h1;rw [List.getElem?_map,List.getElem?_map,List.getElem?_modify,List.getElem?_set]
   by_cases e:j=i
   ·subst e;have hl:j<m.length:=by
     rcases lt_or_ge j m.length with h | h
     ·exact h
     ·rw [List.getElem?_eq_none h] at f4;cases f4
    simp [hj,hl]
   ·simp only [e,if_false];rw [<-h1];cases es.toList[i]?<;>rfl
end
