/- When a search is over, nothing goes on: of the models. Its conditions: none. -/
import Derived.Test.YtdficaoajalfaaaGreatTPLHuntTells
import Derived.Test.YtdficaoajalfaaaGreatTDHuntOver
open Bool (false_eq_true)
set_option linter.all false
namespace Go.Proofs.YtdficaoajalfaaaGreat
open Go.V Go.RowKit Old Go.X
theorem b_tv {a c:List h_6} {fuel:Nat} (hl:a.length<=1000) (hf:2000<fuel):∃ v,p_9 fuel a c=some v:=by
 unfold p_9
 by_cases hlen:a.length=c.length
 ·have hne:((a.length:Int) != (c.length:Int))=false:=by rw [hlen];simp
  simp only [hne,false_eq_true,if_false]
  have key:∀ (k i fu:Nat),i+k=a.length->k<fu->∃ r,iter (a_bz fuel a c) fu (i:Int)=some r:=by
   intro k
   induction k with
   |
    zero=>
    intro i fu hi hfu
    obtain ⟨fu,rfl⟩:∃ m,fu=m+1:=⟨fu-1,by omega⟩
    refine ⟨.inr (),a_h0 ?_⟩
    unfold a_bz
    have h1:¬ (i:Int)<(a.length:Int):=by omega
    simp only [h1,decide_false,false_eq_true,if_false]
   |
    succ k ih=>
    intro i fu hi hfu
    obtain ⟨fu,rfl⟩:∃ m,fu=m+1:=⟨fu-1,by omega⟩
    have h1:(i:Int)<(a.length:Int):=by omega
    have hin:inb a (i:Int)=true:=a_7 (by omega) h1
    have hin2:inb c (i:Int)=true:=a_7 (by omega) (by omega)
    cases hx:!((((gt a (i:Int)).From)==((gt c (i:Int)).From))&&(((gt a (i:Int)).To)==((gt c (i:Int)).To))) with
    |
     true=>
     refine ⟨.inl (),a_h0 ?_⟩
     unfold a_bz
     simp only [h1,decide_true,if_true,hin,hin2,hx]
    |
     false=>
     obtain ⟨r,hr⟩:=ih (i+1) fu (by omega) (by omega)
     refine ⟨r,(a_k5 ?_).trans hr⟩
     unfold a_bz
     simp only [h1,decide_true,if_true,hin,hin2,hx,false_eq_true,if_false,c_3 (i:=i) (by omega)]
  obtain ⟨r,hr⟩:=key a.length 0 fuel (by omega) (by omega)
  rw [show iter (a_bz fuel a c) fuel 0=some r from hr]
  rcases r with r | r
  ·exact ⟨false,rfl⟩
  ·exact ⟨true,rfl⟩
 ·have hne:((a.length:Int) != (c.length:Int))=true:=by simp;omega
  simp only [hne,if_true]
  exact ⟨_,rfl⟩
section
variable {F:Nat} {l:List a_2} {n:Nat} {a:List a_1} {b:Nat->List a_1} {e:Nat->a_1×Bool} {z:a_1×Bool}
theorem b_vt (K:l_1 l n a b e z F) (hw:∀ x∈l,d_6 x) {w more:List Int} (hb:∀ x∈([]++w)++more,inK .u8 x) (hl:(([]++w)++more).length<=48) :
  ∀ (k i:Nat),i+k=(([]++w)++more).length->∀ (h:Hs),HsOk l n h i->∀ m,k<m->
   iter (a_hn F w more) m (h.found.1,h.found.2,(i:Int),h.C l n a b e z)=some (.inr ()):=by
 have f1:=K.f1
 have hn:=K.T.n64
 intro k
 induction k with
 |
  zero=>
  intro i hi h ho m hm
  obtain ⟨m,rfl⟩:∃ q,m=q+1:=⟨m-1,by omega⟩
  refine a_h0 ?_
  have h2:¬ (i:Int)<((([]++w)++more).length:Int):=by omega
  unfold Hs.C a_hn
  simp only [h2,decide_false,false_eq_true,if_false]
 |
  succ k ih=>
  intro i hi h ho m hm
  obtain ⟨m,rfl⟩:∃ q,m=q+1:=⟨m-1,by omega⟩
  have h1:(i:Int)<((([]++w)++more).length:Int):=by omega
  have hin:inb (([]++w)++more) (i:Int)=true:=a_7 (by omega) h1
  have hby:=hb _ (gtm (show i<(([]++w)++more).length by omega))
  obtain ⟨s1,_,s3,s4⟩:=b_uu (z:=z) (e:=e) K hw ho (by omega) hby
  have hov:=b_vs (z:=z) (e:=e) K hw ho (by omega) hby
  rw [<-ih (i+1) (by omega) (h.feed l n a b e (gt (([]++w)++more) (i:Int))) s3 m (by omega)]
  generalize h.feed l n a b e (gt (([]++w)++more) (i:Int))=g at *
  have no:=b_lv (F:=F) (a:=a) (b:=b) (e:=e) (z:=z) ho (by omega)
  have ng:=b_lv (F:=F) (a:=a) (b:=b) (e:=e) (z:=z) s3 (by omega)
  have nf:=b_i9 (a:=a) (b:=b) (e:=e) (z:=z) s3 (show 2000<F by omega)
  have hsp:=a_tx (fuel:=F) (b_e1 ho) (show 2000<F by omega)
  have hgis:h.is=true->g.is=true:=fun hh=>by
   rcases s4 with ⟨h4,_⟩ | ⟨_,_,h4,_⟩
   ·rw [h4];exact hh
   ·exact h4
  have f2:∀ q:Hs,q.found.2=q.is:=fun q=>by unfold Hs.found;cases q.is<;>rfl
  have hsl:∀ {q:Hs} {j:Nat},HsOk l n q j->q.is=true->0<q.found.1.length/\gt q.found.1 0=a_ej (gt q.tags 0) q.to:=fun {q j} hq hqi=>by
   obtain ⟨i1,_,_⟩:=hq.is hqi
   have:=b_ca (to:=q.to) i1
   unfold Hs.found
   rw [if_pos hqi]
   exact this
  have x5:(if h.is=true then some (!g.is) else some false)=some false:=by
   cases hi:h.is with
   |false=>rfl
   |true=>rw [hgis hi];rfl
  have x6:(if g.is=true then some ((g.found.1.length:Int)==0) else some false)=some false:=by
   cases hg:g.is with
   |false=>rfl
   |
    true=>
    have:=(hsl s3 hg).1
    have:((g.found.1.length:Int)==0)=false:=by rw [beq_eq_false_iff_ne];omega
    rw [this];rfl
  obtain ⟨v,hv⟩:=b_tv (a:=h.found.1) (c:=g.found.1) (b_e1 ho) (show 2000<F by omega)
  refine a_k5 ?_
  unfold Hs.C at nf s1 ⊢
  unfold Hs.H at no ng
  unfold a_hn
  have x9:(if h.over=true then if (!g.over)=true then some true else some (!v) else some false)=some false:=by
   cases ho':h.over with
   |false=>rfl
   |
    true=>
    obtain ⟨q1,q2⟩:=hov ho'
    rw [q2,hsp] at hv
    cases hv
    rw [q1];rfl
  simp only [f2,h1,decide_true,if_true,no,ng,nf,hin,s1,a_0,x5,x6,false_eq_true,if_false,x9,hv,c_3 (i:=i) (by omega)]
  cases hi:h.is with
  |false=>simp only [false_eq_true,if_false,a_0]
  |
   true=>
   cases v with
   |true=>simp only [Bool.not_true,false_eq_true,if_false,if_true,a_0]
   |
    false=>
    rcases s4 with ⟨h4,_⟩ | ⟨_,t1,t2,t3⟩
    ·exfalso
     have:g.found=h.found:=by rw [h4];rfl
     rw [this,hsp] at hv
     cases hv
    ·obtain ⟨p1,p2⟩:=hsl ho hi
     obtain ⟨p3,p4⟩:=hsl s3 t2
     obtain ⟨_,i2,_⟩:=ho.is hi
     obtain ⟨_,i3,_⟩:=s3.is t2
     have t0:=ho.t0
     have le:=t3 hi
     have in1:inb g.found.1 0=true:=a_7 (by omega) (by omega)
     have in2:inb h.found.1 0=true:=a_7 (by omega) (by omega)
     have e1:gt g.found.1 0=⟨gt g.tags 0,((i+1:Nat):Int)⟩:=by
      rw [p4,t1];unfold a_ej;rw [if_neg (by omega)]
     have e2:gt h.found.1 0=⟨gt h.tags 0,h.to⟩:=by
      rw [p2];unfold a_ej;rw [if_neg (by omega)]
     have e3:¬ gt g.tags 0>gt h.tags 0:=by omega
     simp only [Bool.not_false,if_true,a_0,in1,in2,e1,e2,e3,decide_false,false_eq_true,if_false,bne_self_eq_false]
end
theorem b_ug:b_qa:=by
 intro l w more hl0 hw0 hm0 hl hwl hml
 have hw:=a_14 hl0
 have hb1:=b_co hw0
 have hb2:=b_co hm0
 refine ⟨Fb,?_⟩
 unfold a_ys
 rw [b_wr]
 by_cases hf:(l.length<=40/\w.length<=24)/\more.length<=24
 ·have f3:¬ (more.length:Int)>24:=by omega
  simp only [a_0,hf.1.1,hf.1.2,decide_true,Bool.and_self,Bool.not_true,false_eq_true,if_false,f3,decide_false]
  cases hR:c_0 l with
  |
   false=>
   rw [(a_sl hR hl (by omega)).2]
   simp only [a_0,Bool.not_false,if_true,b_eo]
  |
   true=>
   obtain ⟨a,b,e,z,K⟩:=known hw hR hl (by omega)
   have hb:∀ x∈([]++w)++more,inK .u8 x:=fun x hx=>by
    rcases List.mem_append.1 hx with hx | hx
    ·exact hb1 x (by simpa using hx)
    ·exact hb2 x hx
   have hlen:(([]++w)++more).length<=48:=by simp;omega
   have hlp:=b_vt (e:=e) (z:=z) K hw hb hlen (([]++w)++more).length 0 (by omega) (Hs.zero l z) b_sn Fb (by unfold Fb;omega)
   have nf:=b_i9 (F:=Fb) (a:=a) (b:=b) (e:=e) (z:=z) (b_sn (l:=l) (n:=a_3 l l.length) (z:=z)) (by unfold Fb;omega)
   have ap1:a_8 1 ([]:List Int) w=true:=by simp [a_8];omega
   have ap2:a_8 1 ([]++w) more=true:=by simp [a_8];omega
   rw [b_vq K,K.TF.rR]
   unfold Hs.C at hlp nf ⊢
   rw [show ((0:Nat):Int)=0 from rfl] at hlp
   simp only [a_0,Bool.not_true,false_eq_true,if_false,show ((0:Int) != 0)=false from rfl,nf,ap1,ap2,if_true,hlp,b_eo]
 ·by_cases h1:l.length<=40/\w.length<=24
  ·have h3:(more.length:Int)>24:=by omega
   simp only [a_0,h1.1,h1.2,decide_true,Bool.and_self,Bool.not_true,false_eq_true,if_false,h3,if_true,b_eo]
  ·have:(decide (l.length<=40)&&decide (w.length<=24))=false:=by simp;omega
   simp only [a_0,this,Bool.not_false,if_true,b_eo]
