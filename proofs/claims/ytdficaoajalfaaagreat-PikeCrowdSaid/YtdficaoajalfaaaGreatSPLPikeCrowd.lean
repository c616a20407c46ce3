/- What holds of any crowd: of the models. Its conditions: none. -/
import Derived.Test.YtdficaoajalfaaaGreatSG55
import Derived.Test.YtdficaoajalfaaaGreatSDPikeCrowd
open Bool (false_eq_true)
set_option linter.all false
namespace Go.Proofs.YtdficaoajalfaaaGreat
open Go.V Go.RowKit Old Go.X
theorem b_j7 {α:Type} [Inhabited α] {o:List α} {i j:Nat} {x:α} (h:j≠i):gt (o.set i x) (j:Int)=gt o (j:Int):=by
 unfold gt
 rw [List.getD_eq_getElem?_getD,List.getD_eq_getElem?_getD,Int.toNat_natCast,List.getElem?_set_ne (fun e=>h e.symm)]
theorem a_63 {τ:Type} {step:Int->Option (Ctl Int τ)} {r:τ} {lo n:Nat} (hs:∀ i,lo<=i->i<n->step (i:Int)=some (.next ((i+1:Nat):Int))) (hd:step (n:Int)=some (.done r)) (hlo:lo<=n) {F:Nat} (hf:n<F):iter step F (lo:Int)=some r:=by
 have key:∀ (k i fu:Nat),i+k=n->lo<=i->k<fu->iter step fu (i:Int)=some r:=by
  intro k
  induction k with
  |
   zero=>
   intro i fu hi _ hfu
   obtain ⟨fu,rfl⟩:∃ m,fu=m+1:=⟨fu-1,by omega⟩
   rw [show i=n by omega];exact a_h0 hd
  |
   succ k ih=>
   intro i fu hi hl hfu
   obtain ⟨fu,rfl⟩:∃ m,fu=m+1:=⟨fu-1,by omega⟩
   rw [a_k5 (hs i hl (by omega))]
   exact ih (i+1) fu (by omega) (by omega) (by omega)
 exact key (n-lo) lo F (by omega) (Nat.le_refl _) (by omega)
section
variable {F:Nat} {l:List a_2} {n:Nat} {a:List a_1} {b:Nat->List a_1} {e:Nat->a_1×Bool} {z:a_1×Bool}
theorem b_pz (hf:2000001<F) {vals:List (List Int)} {k i:Nat} (hk:k<vals.length) (hrow:(gt vals (k:Int)).length=(h_2 l).toNat)
  (hr:∀ m:Nat,1<=m->m<(h_2 l).toNat->gt (gt vals (k:Int)) (m:Int)=-1\/(gt (gt vals (k:Int)) 0<=gt (gt vals (k:Int)) (m:Int)/\gt (gt vals (k:Int)) (m:Int)<((i+1:Nat):Int))) :
  iter (a_cc F (i:Int) vals (k:Int)) F 1=some (.inr ()):=by
 have ht:=p_6 l
 have hin:inb vals (k:Int)=true:=a_7 (by omega) (by omega)
 have hi0:inb (gt vals (k:Int)) 0=true:=a_7 (by omega) (by omega)
 refine a_63 (lo:=1) (n:=(gt vals (k:Int)).length) (fun m m1 m2=>?_) ?_ (by omega) (by omega)
 ·unfold a_cc
  have h1:(m:Int)<((gt vals (k:Int)).length:Int):=by omega
  have him:inb (gt vals (k:Int)) (m:Int)=true:=a_7 (by omega) h1
  simp only [hin,h1,decide_true,if_true,him,hi0,c_3 (i:=m) (by omega)]
  rcases hr m m1 (by omega) with h2 | ⟨h2,h3⟩
  ·have h4:(gt (gt vals (k:Int)) (m:Int) != -1)=false:=by rw [h2];rfl
   simp only [h4,false_eq_true,if_false,a_0]
  ·have h4:¬ gt (gt vals (k:Int)) (m:Int)<gt (gt vals (k:Int)) 0:=by omega
   have h5:¬ gt (gt vals (k:Int)) (m:Int)>(i:Int):=by omega
   simp only [h4,h5,decide_false,false_eq_true,if_false,a_0,ite_self]
 ·unfold a_cc
  have h1:¬ ((gt vals (k:Int)).length:Int)<((gt vals (k:Int)).length:Int):=by omega
  simp only [hin,h1,decide_false,if_true,false_eq_true,if_false]
theorem b_pr (hf:2000001<F) {vals:List (List Int)} {fB fD:Nat->Nat->Int} {k p:Nat} (hp:vals.length=p) (hp2:p<=1000) (hk:k<p) (hrow:∀ v∈vals,v.length=(h_2 l).toNat)
  (ha:∀ k m:Nat,k<vals.length->m<vals.length->gt (gt vals (k:Int)) 0≠gt (gt vals (m:Int)) 0->fB k m=0/\(0<fD k m↔gt (gt vals (k:Int)) 0<gt (gt vals (m:Int)) 0)) :
  iter (a_cz F vals (b_6 p fB fD) (k:Int)) F 0=some (.inr ()):=by
 have ht:=p_6 l
 have hin:∀ k,k<p->inb vals (k:Int)=true:=fun k h=>a_7 (by omega) (by omega)
 have hi0:∀ k,k<p->inb (gt vals (k:Int)) 0=true:=fun k h=>a_7 (by omega) (by rw [hrow _ (gtm (by omega))];omega)
 refine a_63 (lo:=0) (n:=k) (fun m m1 m2=>?_) ?_ (by omega) (by omega)
 ·unfold a_cz
  have h1:(m:Int)<(k:Int):=by omega
  have hmp:m<p:=by omega
  simp only [h1,decide_true,if_true,hin k hk,hi0 k hk,hin m hmp,hi0 m hmp,c_3 (i:=m) (by omega)]
  by_cases hne:gt (gt vals (k:Int)) 0=gt (gt vals (m:Int)) 0
  ·have h4:(gt (gt vals (k:Int)) 0 != gt (gt vals (m:Int)) 0)=false:=by rw [hne];simp
   simp only [h4,false_eq_true,if_false,a_0]
  ·have h4:(gt (gt vals (k:Int)) 0 != gt (gt vals (m:Int)) 0)=true:=by simpa using hne
   obtain ⟨q1,q2⟩:=ha k m (by omega) (by omega) hne
   have h6:(decide (fD k m>0)==decide (gt (gt vals (k:Int)) 0<gt (gt vals (m:Int)) 0))=true:=by
    have:(fD k m>0)=(gt (gt vals (k:Int)) 0<gt (gt vals (m:Int)) 0):=propext q2
    simp only [this,beq_self_eq_true]
   simp only [h4,if_true,b_6,i_3 _ hk,j_7 _ hk,h_9 _ hmp,r_2 _ hmp,q1,bne_self_eq_false,false_eq_true,if_false,h6,Bool.not_true,a_0]
 ·unfold a_cz
  have h1:¬ (k:Int)<(k:Int):=by omega
  simp only [h1,decide_false,false_eq_true,if_false]
theorem b_l5 (hf:2000001<F) {deeds:List k_1} {y2:List Bool} {vals:List (List Int)} {fB fD:Nat->Nat->Int} {pl:List Nat} {i:Nat} (C:p_7 l n pl vals fB fD) (hn:n<=1000) (hi:i<y2.length)
  (hv:Inv l (fun j=>(gt deeds (j:Int)).Begin) (i+1) vals fB fD) (hy:∀ j:Nat,j<i->gt y2 (j:Int)=(gt deeds (j:Int)).Begin) :
  iter (a_cu F deeds (i:Int) y2 (b_7 pl) vals (b_6 pl.length fB fD)) F 0=some (.inr ()):=by
 have ht:=p_6 l
 have hm:=C.le
 have hvl:=C.len
 refine a_63 (lo:=0) (n:=pl.length) (fun k _ k2=>?_) ?_ (by omega) (by omega)
 ·have hmem:=gtm (l:=vals) (i:=k) (by omega)
  have hrow:=C.row _ hmem
  have hin:inb vals (k:Int)=true:=a_7 (by omega) (by omega)
  have hi0:inb (gt vals (k:Int)) 0=true:=a_7 (by omega) (by omega)
  obtain ⟨j,j1,j2,j3⟩:=hv.first _ hmem
  have h1:(k:Int)<((b_7 pl).length:Int):=by simp;omega
  have h2:(((gt vals (k:Int)).length:Int)==0)=false:=by rw [beq_eq_false_iff_ne];omega
  have h3:¬ (j:Int)<0:=by omega
  have h4:¬ (j:Int)>(i:Int):=by omega
  have h5:inb (y2.set i (gt deeds (i:Int)).Begin) (j:Int)=true:=a_7 (by omega) (by simp;omega)
  have h6:gt (y2.set i (gt deeds (i:Int)).Begin) (j:Int)=true:=by
   by_cases e:j=i
   ·subst e
    rw [show gt (y2.set j (gt deeds (j:Int)).Begin) (j:Int)=(gt deeds (j:Int)).Begin from d_4 (List.getElem?_set_self hi)]
    exact j3
   ·rw [b_j7 e,hy j (by omega)];exact j3
  have asc:(Option.bind (α:=Bool) (
     if decide ((k:Int)>0) then
      if inb (b_7 pl) (k:Int) then
       if inb (b_7 pl) (W ((k:Int)-1)) then
        let x5:=decide ((gt (b_7 pl) (k:Int))<=(gt (b_7 pl) (W ((k:Int)-1))))
        some x5
       else none
      else none
     else
      some false) fun x6=>
    some x6)=some false:=by
   rw [i_2]
   by_cases c:k=0
   ·subst c;rfl
   ·have c1:(k:Int)>0:=by omega
    have hW:W ((k:Int)-1)=((k-1:Nat):Int):=by rw [f_2 (by omega) (by omega)];omega
    have hp:=List.pairwise_iff_getElem.1 C.asc (k-1) k (by omega) k2 (by omega)
    have c2:¬ ((pl[k]:Nat):Int)<=((pl[k-1]:Nat):Int):=by omega
    simp only [c1,decide_true,if_true,hW,h_4 k2,h_4 (show k-1<pl.length by omega),a_q6 k2,a_q6 (show k-1<pl.length by omega),c2,decide_false]
  have e1:=b_pz (F:=F) (l:=l) (vals:=vals) (k:=k) (i:=i) hf (by omega) hrow (hv.rest _ hmem)
  have e2:=b_pr (F:=F) (l:=l) (vals:=vals) (fB:=fB) (fD:=fD) (k:=k) hf hvl (by omega) k2 C.row hv.ahead
  unfold a_cu
  simp only [h1,decide_true,if_true,hin,h2,false_eq_true,if_false,asc,a_0,hi0,j2,h3,h4,decide_false,Int.toNat_natCast,h5,h6,Bool.not_true,e1,e2,c_3 (i:=k) (by omega)]
 ·unfold a_cu
  have h1:¬ (pl.length:Int)<((b_7 pl).length:Int):=by simp
  simp only [h1,decide_false,false_eq_true,if_false]
theorem b_kw (K:l_1 l n a b e z F) (hw:∀ x∈l,d_6 x) {deeds:List k_1} (hd:∀ d∈deeds,inK .u8 d.B) (h16:deeds.length<=16) :
  ∀ (k i:Nat),i+k=deeds.length->∀ (s:Cs) (y2:List Bool),CsOk l n s i->Inv l (fun j=>(gt deeds (j:Int)).Begin) i s.vals s.fB s.fD->y2.length=deeds.length+1->(∀ j:Nat,j<i->gt y2 (j:Int)=(gt deeds (j:Int)).Begin)->∀ m,k<m->
   iter (a_a4 F deeds) m ((i:Int),s.C l n a b e z,y2)=some (.inr ()):=by
 have f1:=K.f1
 have hn:=K.T.n64
 intro k
 induction k with
 |
  zero=>
  intro i hi s y2 _ _ _ _ m hm
  obtain ⟨m,rfl⟩:∃ q,m=q+1:=⟨m-1,by omega⟩
  refine a_h0 ?_
  unfold a_a4
  have h1:¬ ((i:Int)<(deeds.length:Int)):=by omega
  simp only [h1,decide_false,false_eq_true,if_false]
 |
  succ k ih=>
  intro i hi s y2 hs hv hyl hy m hm
  obtain ⟨m,rfl⟩:∃ q,m=q+1:=⟨m-1,by omega⟩
  have h1:(i:Int)<(deeds.length:Int):=by omega
  have hin:inb deeds (i:Int)=true:=a_7 (by omega) h1
  have hiny:inb y2 (i:Int)=true:=a_7 (by omega) (by omega)
  have hb:=hd _ (gtm (show i<deeds.length by omega))
  obtain ⟨s1,_,s3⟩:=a_17 (e:=e) (z:=z) K hw hs (by omega) hb (gt deeds (i:Int)).Begin
  have v1:=b_qx K hs hv (gt deeds (i:Int)).B (gt deeds (i:Int)).Begin (fun h=>h)
  generalize s.step l n a b (gt deeds (i:Int)).B (gt deeds (i:Int)).Begin=s' at *
  have ok:=s3.ok
  have hm':=ok.le
  have hvl:=ok.len
  have ht:=p_6 l
  have hat:a_i5 F (s.C l n a b e z)=some (i:Int):=by rw [<-hs.a0];rfl
  have hP:a_a2 F (s'.C l n a b e z)=some (b_7 s'.pl):=by
   unfold a_a2 m_8
   have:a_8 8 ([]:List Int) (b_7 s'.pl)=true:=by simp [a_8];omega
   simp only [Cs.C,mkC,this,if_true,a_0]
  have hT:a_cq F (s'.C l n a b e z)=some (s'.vals,s'.C l n a b e z):=by
   unfold a_cq
   rw [show (s'.C l n a b e z).values=s'.vals from rfl,a_vh (by omega) (fun v h=>by have:=ok.row v h;omega) f1]
   rfl
  have hK:a_cf F (s'.C l n a b e z)=some (b_6 s'.pl.length s'.fB s'.fD,s'.C l n a b e z):=by
   unfold a_cf
   have hmat:∀ (f:Nat->Nat->Int),∀ v∈mat s'.pl.length s'.pl.length f,v.length<=1000000:=fun f v h=>by
    obtain ⟨i,_,rfl⟩:=List.mem_map.1 h;simp;omega
   rw [show (s'.C l n a b e z).rank=⟨mat s'.pl.length s'.pl.length s'.fB,mat s'.pl.length s'.pl.length s'.fD⟩ from rfl,a_vh (by simp;omega) (hmat s'.fB) f1,a_0,a_vh (by simp;omega) (hmat s'.fD) f1]
   rfl
  have hlen:((s'.vals.length:Int) != (s'.pl.length:Int))=false:=by rw [hvl];simp
  have hR:=a_fn (F:=F) (show s'.pl.length<=1000 by omega) (show 2000<F by omega) ok.rk
  have h18:=b_l5 (F:=F) (y2:=y2) f1 ok (by omega) (show i<y2.length by omega) v1 hy
  have hnx:=ih (i+1) (by omega) s' (y2.set i (gt deeds (i:Int)).Begin) s3 v1 (by simp [hyl]) (fun j hj=>by
   by_cases e:j=i
   ·subst e;exact d_4 (List.getElem?_set_self (by omega))
   ·rw [<-hy j (by omega)]
    exact b_j7 e) m (by omega)
  rw [<-hnx]
  refine a_k5 ?_
  unfold a_a4
  simp only [h1,decide_true,if_true,hat,a_0,bne_self_eq_false,false_eq_true,if_false,hin,hiny,s1,hP,hT,hK,hlen,a_hm,hR,Bool.not_true,h18,Int.toNat_natCast,c_3 (i:=i) (by omega)]
end
theorem b_ek:a_zo:=by
 intro l deeds hl0 hd0 hl hd
 have hw:=a_14 hl0
 have hdb:∀ d∈deeds,inK .u8 d.B:=fun d hx=>by
  obtain ⟨h1,h2,h3,_⟩:=hd0 d hx
  exact h3
 refine ⟨Fb,?_⟩
 unfold a_ke
 by_cases hb:l.length>40\/deeds.length>16
 ·have:(Option.bind (α:=Bool) (if decide ((l.length:Int)>40) then some true else some (decide ((deeds.length:Int)>16))) fun x=>some x)=some true:=by
   by_cases h1:l.length>40
   ·have:(l.length:Int)>40:=by omega
    simp [this]
   ·have h2:¬ (l.length:Int)>40:=by omega
    have h3:(deeds.length:Int)>16:=by omega
    simp only [h2,h3,decide_false,decide_true,false_eq_true,if_false,a_0]
  rw [i_2] at this
  rw [this]
  simp only [a_0,if_true,a_gz]
 ·have h1:¬ (l.length:Int)>40:=by omega
  have h2:¬ (deeds.length:Int)>16:=by omega
  simp only [h1,h2,decide_false,false_eq_true,if_false,a_0]
  cases hR:c_0 l with
  |
   false=>
   rw [(a_sl hR hl (by omega)).2]
   simp only [a_0,Bool.not_false,if_true,a_gz]
  |
   true=>
   obtain ⟨a,b,e,z,K⟩:=known hw hR hl (by omega)
   rw [K.TF.rR,b_ma hR rfl K.T K.f1 K.TF]
   have hW:W ((deeds.length:Int)+1)=((deeds.length+1:Nat):Int):=c_3 (by omega)
   have hmk:g_3 1 ((deeds.length+1:Nat):Int)=true:=by simp [g_3];omega
   have v0:Inv l (fun j=>(gt deeds (j:Int)).Begin) 0 Cs.zero.vals Cs.zero.fB Cs.zero.fD:=⟨(fun v h=>by cases h),(fun v h=>by cases h),(fun k m h=>by simp [Cs.zero] at h)⟩
   have hlp:=b_kw (e:=e) (z:=z) K hw hdb (by omega) deeds.length 0 (by omega) Cs.zero (List.replicate (deeds.length+1) false) (b_ry l _) v0 (by simp) (fun j hj=>by omega) Fb (by unfold Fb;omega)
   have x1:(⟨m_0 l (a_3 l l.length) a b e z,0,0,[],[],⟨[],[]⟩⟩:b_1)=Cs.zero.C l (a_3 l l.length) a b e z:=rfl
   have x3:iter (a_a4 Fb deeds) Fb (0,Cs.zero.C l (a_3 l l.length) a b e z,List.replicate (deeds.length+1) false)=some (.inr ()):=hlp
   simp only [a_0,Bool.not_true,false_eq_true,if_false,show ((0:Int) != 0)=false from rfl,hW,hmk,if_true,x1,Int.toNat_natCast,x3,a_gz]
