/- Whatever a crowd goes through, it is the document's: of the models. Its conditions: none. -/
import Derived.Test.YtdficaoajalfaaaGreatSG54
import Derived.Test.YtdficaoajalfaaaGreatSDPikeTells
set_option linter.all false
namespace Go.Proofs.YtdficaoajalfaaaGreat
open Go.V Go.RowKit Old Go.X
section
variable {F:Nat} {l:List a_2} {n:Nat} {a:List a_1} {b:Nat->List a_1} {e:Nat->a_1×Bool} {z:a_1×Bool}
theorem b_fe (K:l_1 l n a b e z F) (hw:∀ x∈l,d_6 x) {deeds:List k_1} (hd:∀ d∈deeds,inK .u8 d.B) (h16:deeds.length<=16) :
  ∀ (k i:Nat),i+k=deeds.length->∀ (at_ work:Int) (pl:List Nat) (vals:List (List Int)) (fB fD:Nat->Nat->Int),p_7 l n pl vals fB fD->0<=at_->at_<=i->0<=work->work<=1000000*i->∀ m,k<m->
   iter (n_5 F deeds) m ((i:Int),mkC l n a b e z at_ work pl vals fB fD,mkX l n a b e at_ work pl vals fB fD)=some (.inr ()):=by
 intro k
 induction k with
 |
  zero=>
  intro i hi at_ work pl vals fB fD C _ _ _ _ m hm
  obtain ⟨m,rfl⟩:∃ q,m=q+1:=⟨m-1,by omega⟩
  refine a_h0 ?_
  unfold n_5
  have h1:¬ ((i:Int)<(deeds.length:Int)):=by omega
  simp only [h1,decide_false,Bool.false_eq_true,if_false]
 |
  succ k ih=>
  intro i hi at_ work pl vals fB fD C ha0 ha1 hw0 hw1 m hm
  obtain ⟨m,rfl⟩:∃ q,m=q+1:=⟨m-1,by omega⟩
  have h1:(i:Int)<(deeds.length:Int):=by omega
  have hin:inb deeds (i:Int)=true:=a_7 (by omega) h1
  have hb:=hd _ (gtm (show i<deeds.length by omega))
  by_cases hk:(gt deeds (i:Int)).Kind=1
  ·have h2:((gt deeds (i:Int)).Kind==1)=true:=by simp [hk]
   have s1:=b_p5 (at_:=at_) (work:=work) K C (gt deeds (i:Int)).N rfl
   have s2:=b_qv (at_:=at_) (work:=work) K C (gt deeds (i:Int)).N rfl
   rw [C.len] at s1
   have C2:=b_o1 C (b_ig vals (gt deeds (i:Int)).N pl.length) (fun i h=>a_7g h)
   have hs:=a_67 (at_:=at_) (work:=work) K C2
   rw [<-ih (i+1) (by omega) at_ work _ _ _ _ C2 ha0 (by omega) hw0 (by omega) m (by omega)]
   refine a_k5 ?_
   unfold n_5
   simp only [h1,decide_true,if_true,hin,h2,s1,s2,a_0,hs,Bool.not_true,Bool.false_eq_true,if_false,c_3 (i:=i) (by omega)]
  ·have h2:((gt deeds (i:Int)).Kind==1)=false:=by simp [hk]
   have s1:=b_hp K C hw hb (gt deeds (i:Int)).Begin ha0 (by omega) hw0 (by omega)
   have s2:=b_hn K C hw hb (gt deeds (i:Int)).Begin ha0 (by omega) hw0 (by omega)
   have hr:=a_wq K C (gt deeds (i:Int)).B (gt deeds (i:Int)).Begin
   have C2:=b_m2 (at_:=at_) K C hw (gt deeds (i:Int)).B (gt deeds (i:Int)).Begin
   have hs:=a_67 (at_:=at_+1) (work:=work+stW l n a b pl (gt deeds (i:Int)).B (gt deeds (i:Int)).Begin) K C2
   rw [<-ih (i+1) (by omega) (at_+1) (work+stW l n a b pl (gt deeds (i:Int)).B (gt deeds (i:Int)).Begin) _ _ _ _ C2 (by omega) (by omega) (by omega) (by omega) m (by omega)]
   refine a_k5 ?_
   unfold n_5
   simp only [h1,decide_true,if_true,hin,h2,Bool.false_eq_true,if_false,s1,s2,a_0,hs,Bool.not_true,c_3 (i:=i) (by omega)]
end
theorem a_5g:a_ud:=by
 intro l deeds hl0 hd0 hl hd
 have hw:=a_14 hl0
 have hdb:∀ d∈deeds,inK .u8 d.B:=fun d hx=>by
  obtain ⟨h1,h2,h3,_⟩:=hd0 d hx
  exact h3
 refine ⟨Fb,?_⟩
 unfold a_gp
 by_cases hb:l.length>40\/deeds.length>16
 ·have:(Option.bind (α:=Bool) (if decide ((l.length:Int)>40) then some true else some (decide ((deeds.length:Int)>16))) fun x=>some x)=some true:=by
   by_cases h1:l.length>40
   ·have:(l.length:Int)>40:=by omega
    simp [this]
   ·have h2:¬ (l.length:Int)>40:=by omega
    have h3:(deeds.length:Int)>16:=by omega
    simp only [h2,h3,decide_false,decide_true,Bool.false_eq_true,if_false,a_0]
  rw [i_2] at this
  rw [this]
  simp only [a_0,if_true,a_gz]
 ·have h1:¬ (l.length:Int)>40:=by omega
  have h2:¬ (deeds.length:Int)>16:=by omega
  simp only [h1,h2,decide_false,Bool.false_eq_true,if_false,a_0]
  cases hR:c_0 l with
  |
   false=>
   rw [b_gy hR hl (by omega),(a_sl hR hl (by omega)).2]
   simp only [a_0,Bool.not_false,if_true,a_gz,show ((11:Int)==11)=true from rfl]
  |
   true=>
   obtain ⟨a,b,e,z,K⟩:=known hw hR hl (by omega)
   rw [b_ma hR rfl K.T K.f1 K.TF,K.TF.rR]
   have C0:=b_mu l (a_3 l l.length)
   have hs:=a_67 (at_:=0) (work:=0) K C0
   have hlp:=b_fe K hw hdb (by omega) deeds.length 0 (by omega) 0 0 [] [] _ _ C0 (by omega) (by omega) (by omega) (by omega) Fb (by unfold Fb;omega)
   have x1:(⟨m_0 l (a_3 l l.length) a b e z,0,0,[],[],⟨[],[]⟩⟩:b_1)=mkC l (a_3 l l.length) a b e z 0 0 [] [] (fun _ _=>0) (fun _ _=>0):=rfl
   have x2:s_9 l (a_3 l l.length) a b e 0 0 [] [] ⟨[],[]⟩=mkX l (a_3 l l.length) a b e 0 0 [] [] (fun _ _=>0) (fun _ _=>0):=rfl
   have x3:(0:Int)=((0:Nat):Int):=rfl
   simp only [a_0,Bool.not_true,Bool.false_eq_true,if_false,b_iy hR rfl K.T K.f1 K.TF,x1,x2,show ((0:Int) != 0)=false from rfl,hs]
   rw [show iter (n_5 Fb deeds) Fb (0,mkC l (a_3 l l.length) a b e z 0 0 [] [] (fun _ _=>0) (fun _ _=>0),mkX l (a_3 l l.length) a b e 0 0 [] [] (fun _ _=>0) (fun _ _=>0))=some (.inr ()) from hlp]
   simp only [a_0,a_gz]
