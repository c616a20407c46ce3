/- What is come to. What is come to, by the document; SubsetTells. What can be reckoned, in place of models that cannot. What is sure of law 24. Its conditions: none. -/
import Derived.Test.YtihmgaccbcfgjaaGreatRG37
import Derived.Test.YtihmgaccbcfgjaaGreatRMd
set_option linter.all false
namespace Go.Proofs.YtihmgaccbcfgjaaGreat
open Go.V Go.RowKit Go.X
variable {F:Nat}
def b0p (d:K0) (i j:Nat):Prop:=∃ x∈(gt d.States (i:Int)).Edges,x.To=(j:Int)
inductive a0H (d:K0):Nat->Prop
 |zero:a0H d 0
 |step {i j:Nat}:a0H d i->b0p d i j->a0H d j
def tt (l:List Bool) (i:Nat):Prop:=l[i]?=some true
theorem A0e {l:List Bool} {i:Nat} (h:tt l i):i<l.length:=(List.getElem?_eq_some_iff.1 h).1
theorem a0w {l:List Bool} {i k:Nat} (hi:i<l.length):tt (l.set i true) k↔k=i\/tt l k:=by
 unfold tt;rw [List.getElem?_set]
 by_cases h:i=k
 ·subst h;simp [hi]
 ·simp [h,Ne.symm h]
theorem r0K {l:List Bool} {i:Nat} (hi:i<l.length):gt l (i:Int)=true↔tt l i:=by
 unfold tt;rw [Y5 (x:=l[i]) (by simp [hi])];simp [hi]
theorem A0T {a b:List Bool} (hl:a.length=b.length) (h:∀ k,tt a k↔tt b k):a=b:=by
 apply List.ext_getElem hl;intro i h1 h2;have:=h i;unfold tt at this;rw [List.getElem?_eq_getElem h1,List.getElem?_eq_getElem h2] at this;cases ha:a[i]<;>cases hb:b[i]<;>simp [ha,hb] at this ⊢
def Full (d:K0) (l:List Bool):Prop:=l.length=d.States.length/\∀ k,tt l k↔a0H d k
theorem A0r {d:K0} {l:List Bool} (hl:l.length=d.States.length) (h0:tt l 0) (hs:∀ k,tt l k->a0H d k) (hc:∀ i j,tt l i->b0p d i j->tt l j):Full d l:=by
 refine ⟨hl,fun k=>⟨hs k,fun h=>?_⟩⟩
 induction h with
 |zero=>exact h0
 |step _ hs ih=>exact hc _ _ ih hs
theorem A01 {d:K0} {a b:List Bool} (ha:Full d a) (hb:Full d b):a=b:=
 A0T (ha.1.trans hb.1.symm) fun k=>(ha.2 k).trans (hb.2 k).symm
def D3 (l:List Bool):Nat:=l.count false
theorem e0e {l:List Bool} {i:Nat} (hi:i<l.length) (h:¬ tt l i):D3 (l.set i true)+1=D3 l:=by
 unfold D3 tt at *;have hf:l[i]=false:=by
  rw [List.getElem?_eq_getElem hi] at h;cases e:l[i]
  ·rfl
  ·rw [e] at h;exact absurd rfl h
 have:=List.count_set (a:=true) (b:=false) hi;rw [this,hf];have hp:0<l.count false:=List.count_pos_iff.2 (by rw [<-hf];exact List.getElem_mem hi);simp;omega
structure QI (d:K0) (o:List Bool) (t:List Int):Prop where
 len:o.length=d.States.length
 z:tt o 0
 snd:∀ k,tt o k->a0H d k
 td:∀ x∈t,∃ k:Nat,x=(k:Int)/\tt o k
 ex:∀ i j,tt o i->(i:Int)∉t->b0p d i j->tt o j
 nd:t.length+D3 o<=d.States.length
structure QJ (d:K0) (q:Nat) (r:List Int) (c:Nat) (o:List Bool) (t:List Int):Prop where
 len:o.length=d.States.length
 z:tt o 0
 q_:tt o q
 snd:∀ k,tt o k->a0H d k
 td:∀ x∈t,∃ k:Nat,x=(k:Int)/\tt o k
 hd:∃ s,t=(q:Int) :: s
 ex:∀ i j,tt o i->(i:Int)∉t->b0p d i j->tt o j
 dn:∀ k,k<c->∀ j:Nat,(gt (gt d.States (q:Int)).Edges (k:Int)).To=(j:Int)->tt o j
 nd:t.length+D3 o<=d.States.length
theorem B0T {d:K0} (h:Rd d) {o:List Bool} {q:Nat} {s:List Int} (hI:QI d o ((q:Int) :: s)) (hF:2000<F) :
  ∃ o' s',iter (b0d F d o ((q:Int) :: s)) F (o,(q:Int) :: s,0)=some (o',(q:Int) :: s')/\QI d o' s'/\s'.length+2*D3 o'<((q:Int) :: s).length+2*D3 o:=by
 obtain ⟨k0,hk0,hq⟩:=hI.td _ (List.mem_cons_self ..);obtain rfl:q=k0:=by omega
 have hql:q<d.States.length:=by rw [<-hI.len];exact A0e hq
 have hm:=K4 hql;have hel:=h.sm.ed _ hm;have hst:=h.sm.st;have key:∀ (k i fu:Nat) (o1:List Bool) (t1:List Int),i+k=(gt d.States (q:Int)).Edges.length->k<fu->QJ d q s i o1 t1->t1.length+2*D3 o1<=((q:Int) :: s).length+2*D3 o->
   ∃ o' t',iter (b0d F d o ((q:Int) :: s)) fu (o1,t1,(i:Int))=some (o',t')/\QJ d q s (gt d.States (q:Int)).Edges.length o' t'/\t'.length+2*D3 o'<=((q:Int) :: s).length+2*D3 o:=by
  intro k
  induction k with
  |
   zero=>
   intro i fu o1 t1 hi hfu hJ hn;obtain ⟨fu,rfl⟩:∃ m,fu=m+1:=⟨fu-1,by omega⟩
   obtain rfl:i=(gt d.States (q:Int)).Edges.length:=by omega
   refine ⟨o1,t1,?_,hJ,hn⟩;unfold iter b0d;have hg:gt ((q:Int) :: s) 0=(q:Int):=rfl;simp [hg]
  |
   succ k ih=>
   intro i fu o1 t1 hi hfu hJ hn;obtain ⟨fu,rfl⟩:∃ m,fu=m+1:=⟨fu-1,by omega⟩
   have hil:i<(gt d.States (q:Int)).Edges.length:=by omega
   have hg:gt ((q:Int) :: s) 0=(q:Int):=rfl;have hx:=K4 hil;have hto:=h.to _ hm _ hx;have hstep:∀ (o2:List Bool) (t2:List Int),b0d F d o ((q:Int) :: s) (o1,t1,(i:Int))=some (.next (o2,t2,((i+1:Nat):Int)))->QJ d q s (i+1) o2 t2->t2.length+2*D3 o2<=((q:Int) :: s).length+2*D3 o->
     ∃ o' t',iter (b0d F d o ((q:Int) :: s)) (fu+1) (o1,t1,(i:Int))=some (o',t')/\QJ d q s (gt d.States (q:Int)).Edges.length o' t'/\t'.length+2*D3 o'<=((q:Int) :: s).length+2*D3 o:=by
    intro o2 t2 e hJ2 hn2;unfold iter;rw [e];exact ih (i+1) fu o2 t2 (by omega) (by omega) hJ2 hn2
   have hW:W ((i:Int)+1)=((i+1:Nat):Int):=R2 (by omega);rcases hto with ⟨h0,_⟩ | ⟨h1,h2,_⟩
   ·refine hstep o1 t1 ?_ ⟨hJ.len,hJ.z,hJ.q_,hJ.snd,hJ.td,hJ.hd,hJ.ex,fun k hk j hj=>?_,hJ.nd⟩ hn
    ·unfold b0d;have:decide ((gt (gt d.States (q:Int)).Edges (i:Int)).To>=0)=false:=by simp;omega
     simp only [hg,dec_lt hil,if_true,Y3,hil,decide_true,this,Bool.false_eq_true,if_false,F1,hW]
    ·by_cases hki:k<i
     ·exact hJ.dn k hki j hj
     ·obtain rfl:k=i:=by omega
      omega
   ·obtain ⟨j,hj⟩:∃ j:Nat,(gt (gt d.States (q:Int)).Edges (i:Int)).To=(j:Int):=⟨_,(Int.toNat_of_nonneg h1).symm⟩
    have hjl:j<o1.length:=by rw [hJ.len];omega
    have hstq:b0p d q j:=⟨_,hx,hj⟩
    have e0:decide ((j:Int)>=0)=true:=by simp
    by_cases ht:tt o1 j
    ·refine hstep o1 t1 ?_ ⟨hJ.len,hJ.z,hJ.q_,hJ.snd,hJ.td,hJ.hd,hJ.ex,fun k hk j' hj'=>?_,hJ.nd⟩ hn
     ·have g1:gt o1 (j:Int)=true:=(r0K hjl).2 ht;unfold b0d;simp only [hg,dec_lt hil,if_true,Y3,hil,decide_true,hj,e0,hjl,g1,Bool.not_true,F1,Bool.false_eq_true,if_false,hW]
     ·by_cases hki:k<i
      ·exact hJ.dn k hki j' hj'
      ·obtain rfl:k=i:=by omega
       obtain rfl:j=j':=by omega
       exact ht
    ·have g1:gt o1 (j:Int)=false:=by
      cases e:gt o1 (j:Int)
      ·rfl
      ·exact absurd ((r0K hjl).1 e) ht
     have hcs:=e0e hjl ht;have hap:C1 8 t1 [(j:Int)]=true:=a7 (by have:=hJ.nd;simp;omega);refine hstep (o1.set j true) (t1++[(j:Int)]) ?_ ⟨by rw [List.length_set];exact hJ.len,(a0w hjl).2 (.inr hJ.z),(a0w hjl).2 (.inr hJ.q_),fun k hk=>?_,fun x hx=>?_,?_,fun i' j' hi' hni hs=>?_,fun k hk j' hj'=>?_,?_⟩ ?_
     ·unfold b0d;simp only [hg,dec_lt hil,if_true,Y3,hil,decide_true,hj,e0,hjl,g1,Bool.not_false,F1,hap,Int.toNat_natCast,hW]
     ·rcases (a0w hjl).1 hk with rfl | hk
      ·exact .step (hJ.snd _ hJ.q_) hstq
      ·exact hJ.snd k hk
     ·rcases List.mem_append.1 hx with hx | hx
      ·obtain ⟨k,h3,h4⟩:=hJ.td x hx;exact ⟨k,h3,(a0w hjl).2 (.inr h4)⟩
      ·exact ⟨j,by simpa using hx,(a0w hjl).2 (.inl rfl)⟩
     ·obtain ⟨s1,hs1⟩:=hJ.hd;exact ⟨s1++[(j:Int)],by rw [hs1];rfl⟩
     ·have hni':(i':Int)∉t1:=fun h=>hni (List.mem_append_left _ h);rcases (a0w hjl).1 hi' with rfl | hi'
      ·exact absurd (List.mem_append_right _ (by simp)) hni
      ·exact (a0w hjl).2 (.inr (hJ.ex _ _ hi' hni' hs))
     ·by_cases hki:k<i
      ·exact (a0w hjl).2 (.inr (hJ.dn k hki j' hj'))
      ·obtain rfl:k=i:=by omega
       obtain rfl:j=j':=by omega
       exact (a0w hjl).2 (.inl rfl)
     ·have:=hJ.nd;simp;omega
     ·simp only [List.length_append,List.length_cons,List.length_nil] at hn ⊢;omega
 obtain ⟨o',t',e,hJ,hn⟩:=key (gt d.States (q:Int)).Edges.length 0 F o ((q:Int) :: s) (by omega) (by omega) ⟨hI.len,hI.z,hq,hI.snd,hI.td,⟨s,rfl⟩,hI.ex,fun k hk=>by omega,hI.nd⟩ (Nat.le_refl _);obtain ⟨s',rfl⟩:=hJ.hd;refine ⟨o',s',e,⟨hJ.len,hJ.z,hJ.snd,fun x hx=>hJ.td x (by simp [hx]),fun i j hi hni hs=>?_,by have:=hJ.nd;simp at this;omega⟩,by simp at hn ⊢;omega⟩
 by_cases hiq:i=q
 ·subst hiq;obtain ⟨x,hx,hxj⟩:=hs;obtain ⟨k,hk,rfl⟩:=List.getElem_of_mem hx;exact hJ.dn k hk j (by rw [Y5 (x:=(gt d.States (i:Int)).Edges[k]) (by simp [hk])];exact hxj)
 ·exact hJ.ex i j hi (fun hmem=>by rcases List.mem_cons.1 hmem with h | h;omega;exact hni h) hs
theorem B0E (d:K0) (hd:Sm d) (hF:100000<F):∃ l,b0P F d=some l/\(U4 d=false/\l=[]\/U4 d=true/\Full d l):=by
 unfold b0P;rw [q0R d hd (by omega)];cases hr:U4 d
 ·exact ⟨[],rfl,.inl ⟨rfl,rfl⟩⟩
 have h:=o8 hd hr;have hst:=hd.st;have hp:=h.pos;have hmk:S5 1 (d.States.length:Int)=true:=by unfold S5;simp;omega
 have hin:y0 (List.replicate (Int.toNat (d.States.length:Int)) false) 0=true:=B4 (Int.le_refl _) (by simp;omega);simp only [F1,Bool.not_true,Bool.false_eq_true,if_false,hmk,hin,if_true];have h0l:0<(List.replicate (Int.toNat (d.States.length:Int)) false).length:=by simp;omega
 have hI0:QI d ((List.replicate (Int.toNat (d.States.length:Int)) false).set (Int.toNat 0) true) [0]:=by
  have hns:∀ k,¬ tt (List.replicate (Int.toNat (d.States.length:Int)) false) k:=fun k hk=>by
   unfold tt at hk;rw [List.getElem?_replicate] at hk;split at hk<;>simp at hk
  have hz:Int.toNat 0=0:=rfl;rw [hz];refine ⟨by simp,(a0w h0l).2 (.inl rfl),fun k hk=>?_,fun x hx=>⟨0,by simpa using hx,(a0w h0l).2 (.inl rfl)⟩,fun i j hi hni _=>?_,?_⟩
  ·rcases (a0w h0l).1 hk with rfl | hk
   ·exact .zero
   ·exact absurd hk (hns k)
  ·rcases (a0w h0l).1 hi with rfl | hi
   ·exact absurd (by simp) hni
   ·exact absurd hi (hns i)
  ·have:=e0e h0l (hns 0);have h2:D3 (List.replicate (Int.toNat (d.States.length:Int)) false)=d.States.length:=by unfold D3;simp
   simp only [Int.toNat_natCast,List.length_cons,List.length_nil] at this h2 ⊢;omega
 have key:∀ (n fu:Nat) (o:List Bool) (t:List Int),t.length+2*D3 o<=n->n<fu->QI d o t->∃ l,iter (b0Y F d) fu (o,t)=some l/\Full d l:=by
  intro n
  induction n with
  |
   zero=>
   intro fu o t hn hfu hI;obtain ⟨fu,rfl⟩:∃ m,fu=m+1:=⟨fu-1,by omega⟩
   obtain rfl:t=[]:=List.eq_nil_of_length_eq_zero (by omega);refine ⟨o,by unfold iter b0Y;simp,A0r hI.len hI.z hI.snd fun i j hi hs=>hI.ex i j hi (by simp) hs⟩
  |
   succ n ih=>
   intro fu o t hn hfu hI;obtain ⟨fu,rfl⟩:∃ m,fu=m+1:=⟨fu-1,by omega⟩
   cases t with
   |nil=>exact ⟨o,by unfold iter b0Y;simp,A0r hI.len hI.z hI.snd fun i j hi hs=>hI.ex i j hi (by simp) hs⟩
   |
    cons x s=>
    obtain ⟨q,rfl,hq⟩:=hI.td x (by simp);obtain ⟨o',s',e,hI',hlt⟩:=B0T (F:=F) h hI (by omega);obtain ⟨l,hl,hfull⟩:=ih fu o' s' (by omega) (by omega) hI';refine ⟨l,?_,hfull⟩;have hql:q<d.States.length:=by rw [<-hI.len];exact A0e hq
    have hg:gt ((q:Int) :: s) 0=(q:Int):=rfl;have e1:decide (((((q:Int) :: s).length:Nat):Int)>0)=true:=by simp
    have e2:y0 ((q:Int) :: s) 0=true:=B4 (Int.le_refl _) (by simp);have e3:C3 ((q:Int) :: s') 1 ((((q:Int) :: s').length:Nat):Int)=true:=by unfold C3;simp;omega
    have e4:L1 ((q:Int) :: s') 1 ((((q:Int) :: s').length:Nat):Int)=s':=by unfold L1;simp
    unfold iter;have hb:b0Y F d (o,(q:Int) :: s)=some (.next (o',s')):=by
     unfold b0Y;simp only [e1,e2,hg,Y3,hql,decide_true,if_true,e,F1,e3,e4]
    rw [hb];exact hl
 obtain ⟨l,hl,hfull⟩:=key (2*d.States.length+1) F _ _ (by have:=hI0.nd;simp at this ⊢;omega) (by omega) hI0;exact ⟨l,by rw [hl];rfl,.inr ⟨trivial,hfull⟩⟩
end Go.Proofs.YtihmgaccbcfgjaaGreat
namespace Go.Proofs.YtihmgaccbcfgjaaGreat
open Go.V Go.RowKit Go.X
variable {F:Nat}
theorem A0N:∀ (a b:List Bool),a.length=b.length->(∀ k,tt a k->tt b k)->D3 b<=D3 a/\((∃ k,tt b k/\¬ tt a k)->D3 b<D3 a)
 |[],[],_,_=>⟨Nat.le_refl _,fun ⟨k,h,_⟩=>by simp [tt] at h⟩
 |[],_ :: _,h,_=>by simp at h
 |_ :: _,[],h,_=>by simp at h
 |
  x :: a,y :: b,hl,h=>by
  obtain ⟨h1,h2⟩:=A0N a b (by simpa using hl) (fun k hk=>by have:=h (k+1) (by simpa [tt] using hk);simpa [tt] using this);have h0:x=true->y=true:=fun e=>by have:=h 0 (by simp [tt,e]);simpa [tt] using this
  unfold D3 at *;refine ⟨?_,fun ⟨k,hk,hn⟩=>?_⟩
  ·cases x<;>cases y<;>simp at h0 ⊢<;>omega
  ·cases k with
   |
    zero=>
    have e1:y=true:=by simpa [tt] using hk
    have e2:x=false:=by
     cases x
     ·rfl
     ·exact absurd (by simp [tt]) hn
    subst e1;subst e2;simp;omega
   |
    succ k=>
    have:=h2 ⟨k,by simpa [tt] using hk,by simpa [tt] using hn⟩;cases x<;>cases y<;>simp at h0 ⊢<;>omega
section
variable {d:K0} (h:Rd d)
include h
theorem rin (hF:2000<F) {i:Nat} (hi:i<d.States.length) {y:List Bool} (hl:y.length=d.States.length) :
  ∃ y',iter (b0C F d (i:Int)) F (0,y)=some y'/\y'.length=d.States.length/\∀ k,tt y' k↔tt y k\/(tt y i/\b0p d i k):=by
 have hm:=K4 hi;have hel:=h.sm.ed _ hm
 by_cases hy:tt y i
 rotate_left
 ·have g0:gt y (i:Int)=false:=by
   cases e:gt y (i:Int)
   ·rfl
   ·exact absurd ((r0K (by omega)).1 e) hy
  refine ⟨y,?_,hl,fun k=>⟨.inl,fun h=>h.elim id fun h=>absurd h.1 hy⟩⟩;obtain ⟨F,rfl⟩:∃ m,F=m+1:=⟨F-1,by omega⟩
  unfold iter b0C;simp [Y3,show i<y.length by omega,g0]
 have key:∀ (n c fu:Nat) (z:List Bool),c+n=(gt d.States (i:Int)).Edges.length->n<fu->z.length=d.States.length->(∀ k,tt z k↔tt y k\/∃ q,q<c/\(gt (gt d.States (i:Int)).Edges (q:Int)).To=(k:Int))->
   ∃ y',iter (b0C F d (i:Int)) fu ((c:Int),z)=some y'/\y'.length=d.States.length/\∀ k,tt y' k↔tt y k\/b0p d i k:=by
  intro n
  induction n with
  |
   zero=>
   intro c fu z hc hfu hz hzk;obtain ⟨fu,rfl⟩:∃ m,fu=m+1:=⟨fu-1,by omega⟩
   have hzi:tt z i:=(hzk i).2 (.inl hy);have g1:gt z (i:Int)=true:=(r0K (by omega)).2 hzi;obtain rfl:c=(gt d.States (i:Int)).Edges.length:=by omega
   refine ⟨z,?_,hz,fun k=>(hzk k).trans ⟨fun h=>h.imp id ?_,fun h=>h.imp id ?_⟩⟩
   ·unfold iter b0C;simp [Y3,show i<z.length by omega,hi,g1]
   ·rintro ⟨q,hq,e⟩
    exact ⟨_,K4 hq,e⟩
   ·rintro ⟨x,hx,e⟩
    obtain ⟨q,hq,rfl⟩:=List.getElem_of_mem hx;exact ⟨q,hq,by rw [Y5 (x:=(gt d.States (i:Int)).Edges[q]) (by simp [hq])];exact e⟩
  |
   succ n ih=>
   intro c fu z hc hfu hz hzk;obtain ⟨fu,rfl⟩:∃ m,fu=m+1:=⟨fu-1,by omega⟩
   have hcl:c<(gt d.States (i:Int)).Edges.length:=by omega
   have hzi:tt z i:=(hzk i).2 (.inl hy);have g1:gt z (i:Int)=true:=(r0K (by omega)).2 hzi;have hW:W ((c:Int)+1)=((c+1:Nat):Int):=R2 (by omega);have hto:=h.to _ hm _ (K4 hcl);have hinz:y0 z (i:Int)=true:=B4 (by omega) (by omega);rcases hto with ⟨e0,_⟩ | ⟨e1,e2,_⟩
   ·have hb:b0C F d (i:Int) ((c:Int),z)=some (.next (((c+1:Nat):Int),z)):=by
     have:decide ((gt (gt d.States (i:Int)).Edges (c:Int)).To>=0)=false:=by simp;omega
     unfold b0C;simp only [hinz,if_true,g1,Y3,hi,decide_true,F1,dec_lt hcl,hcl,this,Bool.false_eq_true,if_false,hW]
    unfold iter;rw [hb];refine ih (c+1) fu z (by omega) (by omega) hz (fun k=>(hzk k).trans ⟨fun h=>h.imp id fun ⟨q,h1,h2⟩=>⟨q,by omega,h2⟩,fun h=>h.imp id fun ⟨q,h1,h2⟩=>⟨q,?_,h2⟩⟩)
    by_cases hqc:q=c
    ·subst hqc;omega
    ·omega
   ·obtain ⟨j,hj⟩:∃ j:Nat,(gt (gt d.States (i:Int)).Edges (c:Int)).To=(j:Int):=⟨_,(Int.toNat_of_nonneg e1).symm⟩
    have hjl:j<z.length:=by rw [hz];omega
    have hb:b0C F d (i:Int) ((c:Int),z)=some (.next (((c+1:Nat):Int),z.set j true)):=by
     have:decide ((j:Int)>=0)=true:=by simp
     unfold b0C;simp only [hinz,if_true,g1,Y3,hi,decide_true,F1,dec_lt hcl,hcl,hj,this,hjl,Int.toNat_natCast,hW]
    unfold iter;rw [hb];refine ih (c+1) fu (z.set j true) (by omega) (by omega) (by rw [List.length_set];exact hz) (fun k=>?_);rw [a0w hjl,hzk k];constructor
    ·rintro (rfl | h1 | ⟨q,h1,h2⟩)
     ·exact .inr ⟨c,by omega,hj⟩
     ·exact .inl h1
     ·exact .inr ⟨q,by omega,h2⟩
    ·rintro (h1 | ⟨q,h1,h2⟩)
     ·exact .inr (.inl h1)
     ·by_cases hqc:q=c
      ·subst hqc;exact .inl (by omega)
      ·exact .inr (.inr ⟨q,by omega,h2⟩)
 obtain ⟨y',e,h1,h2⟩:=key (gt d.States (i:Int)).Edges.length 0 F y (by omega) (by omega) hl (fun k=>⟨.inl,fun h=>h.elim id fun ⟨q,hq,_⟩=>by omega⟩);exact ⟨y',e,h1,fun k=>(h2 k).trans ⟨fun h=>h.imp id fun h=>⟨hy,h⟩,fun h=>h.imp id fun h=>h.2⟩⟩
theorem B0w (hF:2000<F) {y:List Bool} (hl:y.length=d.States.length) (hs:∀ k,tt y k->a0H d k) :
  ∃ y',iter (j0g F d) F (0,y)=some y'/\y'.length=d.States.length/\(∀ k,tt y k->tt y' k)/\(∀ k,tt y' k->a0H d k)/\∀ i k,tt y i->b0p d i k->tt y' k:=by
 have hst:=h.sm.st;have key:∀ (n i fu:Nat) (z:List Bool),i+n=d.States.length->n<fu->z.length=d.States.length->(∀ k,tt y k->tt z k)->(∀ k,tt z k->a0H d k)->(∀ i' k,i'<i->tt y i'->b0p d i' k->tt z k)->
   ∃ y',iter (j0g F d) fu ((i:Int),z)=some y'/\y'.length=d.States.length/\(∀ k,tt y k->tt y' k)/\(∀ k,tt y' k->a0H d k)/\∀ i k,i<d.States.length->tt y i->b0p d i k->tt y' k:=by
  intro n
  induction n with
  |
   zero=>
   intro i fu z hi hfu hz h1 h2 h3;obtain ⟨fu,rfl⟩:∃ m,fu=m+1:=⟨fu-1,by omega⟩
   obtain rfl:i=d.States.length:=by omega
   refine ⟨z,?_,hz,h1,h2,h3⟩;unfold iter j0g;simp [hz]
  |
   succ n ih=>
   intro i fu z hi hfu hz h1 h2 h3;obtain ⟨fu,rfl⟩:∃ m,fu=m+1:=⟨fu-1,by omega⟩
   have hil:i<d.States.length:=by omega
   obtain ⟨z',e,hz',hk⟩:=rin (F:=F) h hF hil hz;have hb:j0g F d ((i:Int),z)=some (.next (((i+1:Nat):Int),z')):=by
    unfold j0g;simp only [show decide ((i:Int)<(z.length:Int))=true by rw [hz];exact dec_lt hil,if_true,e,F1,R2 (show i<9223372036854775807 by omega)]
   unfold iter;rw [hb];refine ih (i+1) fu z' (by omega) (by omega) hz' (fun k hk1=>(hk k).2 (.inl (h1 k hk1))) (fun k hk1=>?_) (fun i' k hlt hi' hs'=>?_)
   ·rcases (hk k).1 hk1 with g | ⟨g1,g2⟩
    ·exact h2 k g
    ·exact .step (h2 i g1) g2
   ·by_cases hii:i'<i
    ·exact (hk k).2 (.inl (h3 i' k hii hi' hs'))
    ·obtain rfl:i'=i:=by omega
     exact (hk k).2 (.inr ⟨h1 _ hi',hs'⟩)
 obtain ⟨y',e,h1,h2,h3,h4⟩:=key d.States.length 0 F y (by omega) (by omega) hl (fun k h=>h) hs (fun i' k h=>by omega);exact ⟨y',e,h1,h2,h3,fun i k hi hs=>h4 i k (by rw [<-hl];exact A0e hi) hi hs⟩
theorem B0s (hr:U4 d=true) (hF:100000<F):∃ l,e0q F d=some l/\Full d l:=by
 unfold e0q;rw [e0V d h.sm (by omega),hr];have hst:=h.sm.st;have hp:=h.pos;have hmk:S5 1 (d.States.length:Int)=true:=by unfold S5;simp;omega
 have hin:y0 (List.replicate d.States.length false) 0=true:=B4 (Int.le_refl _) (by simp;omega);simp only [F1,Bool.not_true,Bool.false_eq_true,if_false,hmk,hin,if_true,Int.toNat_natCast];have h0l:0<(List.replicate d.States.length false).length:=by simp;omega
 have hns:∀ k,¬ tt (List.replicate d.States.length false) k:=fun k hk=>by
  unfold tt at hk;rw [List.getElem?_replicate] at hk;split at hk<;>simp at hk
 have hz:(0:Int).toNat=0:=rfl;rw [hz];have key:∀ (n m fu:Nat) (y:List Bool),m+n=d.States.length->n<fu->y.length=d.States.length->tt y 0->(∀ k,tt y k->a0H d k)->(Full d y\/D3 y+m+1<=d.States.length)->
   ∃ l,iter (d0H F d) fu ((m:Int),y)=some l/\Full d l:=by
  intro n
  induction n with
  |
   zero=>
   intro m fu y hm hfu hy h0 hs hor;obtain ⟨fu,rfl⟩:∃ m,fu=m+1:=⟨fu-1,by omega⟩
   obtain rfl:m=d.States.length:=by omega
   refine ⟨y,?_,hor.elim id fun h=>by omega⟩;unfold iter d0H;simp [hy]
  |
   succ n ih=>
   intro m fu y hm hfu hy h0 hs hor;obtain ⟨fu,rfl⟩:∃ m,fu=m+1:=⟨fu-1,by omega⟩
   obtain ⟨y',e,hy',h1,h2,h3⟩:=B0w (F:=F) h (by omega) hy hs;have hb:d0H F d ((m:Int),y)=some (.next (((m+1:Nat):Int),y')):=by
    unfold d0H;simp only [show decide ((m:Int)<(y.length:Int))=true by rw [hy];exact dec_lt (by omega),if_true,e,F1,R2 (show m<9223372036854775807 by omega)]
   unfold iter;rw [hb];refine ih (m+1) fu y' (by omega) (by omega) hy' (h1 0 h0) h2 ?_
   by_cases hc:∀ k,tt y' k->tt y k
   ·exact .inl (A0r hy' (h1 0 h0) h2 fun i j hi hst=>h3 i j (hc i hi) hst)
   ·rcases hor with hf | hor
    ·refine absurd (fun k hk=>(hf.2 k).2 (h2 k hk)) hc
    ·obtain ⟨k,hk⟩:=Classical.not_forall.1 hc;have hk:tt y' k/\¬ tt y k:=Classical.not_imp.1 hk;have:=(A0N y y' (hy.trans hy'.symm) h1).2 ⟨k,hk⟩;exact .inr (by omega)
 have hc0:D3 ((List.replicate d.States.length false).set 0 true)+0+1<=d.States.length:=by
  have:=e0e h0l (hns 0);have h2:D3 (List.replicate d.States.length false)=d.States.length:=by unfold D3;simp
  omega
 obtain ⟨l,hl,hfull⟩:=key d.States.length 0 F ((List.replicate d.States.length false).set 0 true) (by omega) (by omega) (by simp) ((a0w h0l).2 (.inl rfl)) (fun k hk=>by
  rcases (a0w h0l).1 hk with rfl | hk
  ·exact .zero
  ·exact absurd hk (hns k)) (.inr hc0)
 have hl:iter (d0H F d) F (0,(List.replicate d.States.length false).set 0 true)=some l:=hl;exact ⟨l,by rw [hl];rfl,hfull⟩
end
theorem B0q (d:K0) (hd:Sm d) (hF:100000<F):∃ l,b0P F d=some l/\e0q F d=some l/\l.length<=60:=by
 obtain ⟨l,hl,h⟩:=B0E (F:=F) d hd hF;refine ⟨l,hl,?_⟩;rcases h with ⟨hr,rfl⟩ | ⟨hr,hf⟩
 ·refine ⟨?_,by simp⟩;unfold e0q;rw [e0V d hd (by omega),hr];rfl
 ·obtain ⟨l2,h2,hf2⟩:=B0s (F:=F) (o8 hd hr) hr hF;rw [A01 hf hf2];exact ⟨h2,by rw [hf2.1];exact hd.st⟩
end Go.Proofs.YtihmgaccbcfgjaaGreat
set_option maxRecDepth 100000
noncomputable section
namespace Go.Proofs.YtihmgaccbcfgjaaGreat
open Go.V Go.RowKit Go.X
theorem B7 {α β:Type} (x:Option (α×β)):(Option.bind x fun p=>some (p.1,p.2))=x:=by cases x<;>rfl
def i0v (F:Nat):((List U0)×Int×(List Int)×(List I1))->I1->Int->Option (L2×((List U0)×Int×(List Int)×(List I1)))
 |(l,mode,least,states),k,c=>
 if y0 least c then
  Option.bind (α:=(I1×(List Int))) (
   (
   Option.bind (g0p F l mode k (gt least c)) fun (next_,next_2)=>
   some (next_,next_2))) fun (next_5,src)=>
  Option.bind (α:=Bool) (
   if (next_5.Places.length:Int)==0 then
    some (next_5.Flag==0)
   else
    some false) fun x=>
  if x then
   some ((⟨(-1),[]⟩:L2),(l,mode,least,states))
  else
   Option.bind (α:=Int) (
    Option.bind (α:=(Int ⊕ Unit)) (
     iter (o0k F states next_5) F 0) fun z_=>match z_ with
    |
     .inl x3=>
     some x3
    |
     .inr _=>
     some (-1)) fun i=>
   Option.bind (α:=(Int×((List U0)×Int×(List Int)×(List I1)))) (
    if decide (i<0) then
     if C1 104 states [next_5] then
      some ((states.length:Int),(l,mode,least,states++[next_5]))
     else none
    else
     some (i,(l,mode,least,states))) fun (i2,(l2,mode2,least2,states2))=>
   some ((⟨i2,src⟩:L2),(l2,mode2,least2,states2))
 else none
theorem s0j:g0j=i0v:=by
 funext x0;unfold g0j i0v;simp only [s6,B7]<;>rfl
def j0y (F:Nat) (least:(List Int)) (k:I1) (d:(Int×((List U0)×Int×(List Int)×(List I1))×(Int×(List Int)×(List L2)))):Option (T0 (Int×((List U0)×Int×(List Int)×(List I1))×(Int×(List Int)×(List L2))) (((List U0)×Int×(List Int)×(List I1))×(Int×(List Int)×(List L2)))):=
 match d with
 |(x,(l2,mode2,least2,states2),(Regs3,Accept3,Edges))=>
 if decide (x<(least.length:Int)) then
  Option.bind (i0v F (l2,mode2,least2,states2) k x) fun (edge,(l3,mode3,least3,states3))=>
  if C1 32 Edges [edge] then
   some (.next (W (x+1),(l3,mode3,least3,states3),(Regs3,Accept3,Edges++[edge])))
  else none
 else
  some (.done ((l2,mode2,least2,states2),(Regs3,Accept3,Edges)))
theorem s0i:g0S=j0y:=by
 funext x0 x1 x2 x3;unfold g0S j0y;simp only [s6,B7,s0j]<;>rfl
def i0h (F:Nat):((List U0)×Int×(List Int)×(List I1))->I1->Option (Z1×((List U0)×Int×(List Int)×(List I1)))
 |(l,mode,least,states),k=>
 Option.bind (α:=(Int×(List Int))) (
  (
  Option.bind (g0c F k) fun regs=>
  Option.bind (α:=(Int×(List Int))) (
   (
   Option.bind (d0P F l k) fun accept=>
   some (regs,accept))) fun (Regs,Accept)=>
  some (Regs,Accept))) fun (Regs2,Accept2)=>
 Option.bind (α:=(((List U0)×Int×(List Int)×(List I1))×(Int×(List Int)×(List L2)))) (
  iter (j0y F least k) F (0,(l,mode,least,states),(Regs2,Accept2,[]))) fun ((l4,mode4,least4,states4),(Regs4,Accept4,Edges2))=>
 some ((⟨Regs4,Accept4,Edges2⟩:Z1),(l4,mode4,least4,states4))
theorem q0B:d09=i0h:=by
 funext x0;unfold d09 i0h;simp only [s6,B7,s0i]<;>rfl
def h0K (F:Nat) (budget:Int) (d:(Int×((List U0)×Int×(List Int)×(List I1))×(Int×(List Int)×(List Z1)))):Option (T0 (Int×((List U0)×Int×(List Int)×(List I1))×(Int×(List Int)×(List Z1))) ((Int×K0) ⊕ (Int×(List Int)×(List Z1)))):=
 match d with
 |(i2,(l3,mode3,least3,states2),(Tags,Class,States))=>
 if decide (i2<(states2.length:Int)) then
  let x:=decide ((states2.length:Int)>(if 400<budget then 400 else budget))
  if x then
   some (.done (.inl (14,(⟨0,[],[]⟩:K0))))
  else
   if y0 states2 i2 then
    Option.bind (i0h F (l3,mode3,least3,states2) (gt states2 i2)) fun (state,(l4,mode4,least4,states3))=>
    if C1 56 States [state] then
     some (.next (W (i2+1),(l4,mode4,least4,states3),(Tags,Class,States++[state])))
    else none
   else none
 else
  some (.done (.inr (Tags,Class,States)))
theorem x0G:h0T=h0K:=by
 funext x0 x1 x2;unfold h0T h0K;simp only [s6,B7,q0B]<;>rfl
def h0m (F:Nat) (l:(List U0)) (mode:Int) (budget:Int):Option (K0×Int):=
 Option.bind (g0R F l mode) fun (begin,begin2)=>
 if begin2 != 0 then
  some ((⟨0,[],[]⟩:K0),begin2)
 else
  Option.bind (j0A F l) fun (term,term2)=>
  Option.bind (c0m F term) fun least=>
  Option.bind (α:=Unit) (
   iter (p0r F) F ()) fun _=>
  Option.bind (α:=(Int×((List U0)×Int×(List Int)×(List I1)))) (
   if decide ((-1)<0) then
    if C1 104 ([]:List I1) [begin] then
     some (0,(l,mode,least,[]++[begin]))
    else none
   else
    some ((-1),(l,mode,least,[]))) fun (i,(l2,mode2,least2,states))=>
  Option.bind (c08 F l) fun tags=>
  Option.bind (α:=((Int×K0) ⊕ (Int×(List Int)×(List Z1)))) (
   iter (h0K F budget) F (0,(l2,mode2,least2,states),(tags,term,[]))) fun z_=>match z_ with
  |
   .inl (x2,y)=>
   some (y,x2)
  |
   .inr (Tags2,Class2,States2)=>
   some ((⟨Tags2,Class2,States2⟩:K0),0)
theorem y0c:e0Q=h0m:=by
 funext x0 x1 x2 x3;unfold e0Q h0m;simp only [s6,B7,x0G]<;>rfl
def A0F (F:Nat):Option Bool:=
 Option.bind (k0T F) fun star=>
 Option.bind (h0m F star 0 2) fun (build,build2)=>
 Option.bind (k0T F) fun star2=>
 Option.bind (h0m F star2 0 1) fun (build3,build4)=>
 Option.bind (α:=Bool) (
  if build2==0 then
   some (build4==14)
  else
   some false) fun x=>
 Option.bind (α:=Bool) (
  if x then
   Option.bind (d0z F build) fun right=>
   some right
  else
   some false) fun x2=>
 Option.bind (α:=Bool) (
  if x2 then
   Option.bind (e0n F build build) fun same_=>
   some same_
  else
   some false) fun x3=>
 Option.bind (α:=Bool) (
  if x3 then
   some ((build.States.length:Int)==2)
  else
   some false) fun x4=>
 Option.bind (α:=Bool) (
  if x4 then
   some ((build.Class.length:Int)==256)
  else
   some false) fun x5=>
 Option.bind (α:=Bool) (
  if x5 then
   if y0 build.Class 97 then
    some ((gt build.Class 97)==1)
   else none
  else
   some false) fun x6=>
 Option.bind (α:=Bool) (
  if x6 then
   if y0 build.States 1 then
    let x7:=(((gt build.States 1).Edges).length:Int)==2
    some x7
   else none
  else
   some false) fun x8=>
 Option.bind (α:=Bool) (
  if x8 then
   if y0 build.States 1 then
    if y0 ((gt build.States 1).Edges) 1 then
     some (((gt ((gt build.States 1).Edges) 1).To)==1)
    else none
   else none
  else
   some false) fun x9=>
 Option.bind (α:=Bool) (
  if x9 then
   Option.bind (b0P F build) fun reach=>
   some ((reach.length:Int)==2)
  else
   some false) fun x10=>
 some x10
theorem B0y:h0M=A0F:=by
 funext x0;unfold h0M A0F;simp only [s6,B7,y0c]<;>rfl
end Go.Proofs.YtihmgaccbcfgjaaGreat
end
namespace Go.Proofs.YtihmgaccbcfgjaaGreat
open Go.V Go.RowKit Go.X
abbrev Fc:Nat:=10000000000000
theorem A0o:h0M Fc=some true:=by rw [B0y];kernel_rfl
