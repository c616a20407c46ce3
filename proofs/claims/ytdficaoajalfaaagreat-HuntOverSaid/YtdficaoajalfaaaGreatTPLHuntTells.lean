/- A search, by the program and by the document: of the models. Its conditions: none. -/
import Derived.Test.YtdficaoajalfaaaGreatTPHu
import Derived.Test.YtdficaoajalfaaaGreatTDHuntTells
set_option linter.all false
namespace Go.Proofs.YtdficaoajalfaaaGreat
open Go.V Go.RowKit Old Go.X
theorem b_wr (l:List a_2) (w:List Int):a_ug Fb l w=some (decide (l.length<=40)&&decide (w.length<=24)):=by
 unfold a_ug
 by_cases h1:l.length<=40
 ·have h1':(l.length:Int)<=40:=by omega
  by_cases h2:w.length<=24
  ·have h2':(w.length:Int)<=24:=by omega
   simp [h1,h1',h2,h2']
  ·have h2':¬ (w.length:Int)<=24:=by omega
   simp [h1,h1',h2,h2']
 ·have h1':¬ (l.length:Int)<=40:=by omega
  simp [h1,h1']
theorem b_wt {l:List a_2} (hR:c_0 l=false) (hl:l.length*64<=140737488351232) (h40:l.length<=1000):a_gb Fb l=some (.inl (),11):=by
 unfold a_gb
 rw [b_gy hR hl h40]
 rfl
section
variable {F:Nat} {l:List a_2} {n:Nat} {a:List a_1} {b:Nat->List a_1} {e:Nat->a_1×Bool} {z:a_1×Bool}
theorem b_vr (K:l_1 l n a b e z F) (hw:∀ x∈l,d_6 x) {w:List Int} (hb:∀ x∈w,inK .u8 x) (hl:w.length<=24) :
  ∀ (k i:Nat),i+k=w.length->∀ (h:Hs),HsOk l n h i->∀ m,k+1<m->
   iter (a_e4 F w) m ((i:Int),h.C l n a b e z,h.X l n a b e)=some (.inr ()):=by
 have f1:=K.f1
 have hn:=K.T.n64
 intro k
 induction k with
 |
  zero=>
  intro i hi h ho m hm
  obtain ⟨m,rfl⟩:∃ q,m=q+1+1:=⟨m-2,by omega⟩
  have h1:(i:Int)<=(w.length:Int):=by omega
  have h1':¬ (i:Int)<(w.length:Int):=by omega
  have nf:=b_i9 (a:=a) (b:=b) (e:=e) (z:=z) ho (show 2000<F by omega)
  have rf:=b_tl (a:=a) (b:=b) (e:=e) ho (show 2000<F by omega)
  have sp:=a_tx (fuel:=F) (b_e1 ho) (show 2000<F by omega)
  have no:=b_lv (F:=F) (a:=a) (b:=b) (e:=e) (z:=z) ho (by omega)
  have ro:=b_uv (F:=F) (a:=a) (b:=b) (e:=e) (l:=l) (n:=n) (h:=h)
  have nr:=b_s5 (F:=F) (a:=a) (b:=b) (e:=e) (z:=z) ho (by omega)
  have na:a_i5 F (h.c.C l n a b e z)=some (i:Int):=by rw [<-ho.c.a0];rfl
  have nw:a_gn F (h.c.C l n a b e z)=some h.c.work:=rfl
  have xr:(((h.X l n a b e).Crowd.Places.length:Int))=(h.c.pl.length:Int):=by simp [Hs.X,Cs.X,mkX,s_9]
  have xw:(h.X l n a b e).Crowd.Work=h.c.work:=rfl
  rw [show iter (a_e4 F w) (m+1+1) ((i:Int),h.C l n a b e z,h.X l n a b e)=iter (a_e4 F w) (m+1) (((i+1:Nat):Int),h.C l n a b e z,h.X l n a b e) from a_k5 (by
   unfold Hs.C at nf ⊢
   unfold Hs.H at no nr
   unfold a_e4
   simp only [h1,h1',decide_true,decide_false,if_true,nf,rf,sp,no,ro,nr,na,nw,xr,xw,a_0,Bool.not_true,Bool.false_eq_true,if_false,beq_self_eq_true,bne_self_eq_false,c_3 (i:=i) (by omega)])]
  refine a_h0 ?_
  have h2:¬ ((i+1:Nat):Int)<=(w.length:Int):=by omega
  unfold Hs.C a_e4
  simp only [h2,decide_false,Bool.false_eq_true,if_false]
 |
  succ k ih=>
  intro i hi h ho m hm
  obtain ⟨m,rfl⟩:∃ q,m=q+1:=⟨m-1,by omega⟩
  have h1:(i:Int)<=(w.length:Int):=by omega
  have h1':(i:Int)<(w.length:Int):=by omega
  have hin:inb w (i:Int)=true:=a_7 (by omega) h1'
  have hby:=hb _ (gtm (show i<w.length by omega))
  obtain ⟨s1,s2,s3,_⟩:=b_uu (z:=z) (e:=e) K hw ho (by omega) hby
  have nf:=b_i9 (a:=a) (b:=b) (e:=e) (z:=z) ho (show 2000<F by omega)
  have rf:=b_tl (a:=a) (b:=b) (e:=e) ho (show 2000<F by omega)
  have sp:=a_tx (fuel:=F) (b_e1 ho) (show 2000<F by omega)
  have no:=b_lv (F:=F) (a:=a) (b:=b) (e:=e) (z:=z) ho (by omega)
  have ro:=b_uv (F:=F) (a:=a) (b:=b) (e:=e) (l:=l) (n:=n) (h:=h)
  have nr:=b_s5 (F:=F) (a:=a) (b:=b) (e:=e) (z:=z) ho (by omega)
  have na:a_i5 F (h.c.C l n a b e z)=some (i:Int):=by rw [<-ho.c.a0];rfl
  have nw:a_gn F (h.c.C l n a b e z)=some h.c.work:=rfl
  have xr:(((h.X l n a b e).Crowd.Places.length:Int))=(h.c.pl.length:Int):=by simp [Hs.X,Cs.X,mkX,s_9]
  have xw:(h.X l n a b e).Crowd.Work=h.c.work:=rfl
  rw [<-ih (i+1) (by omega) (h.feed l n a b e (gt w (i:Int))) s3 m (by omega)]
  refine a_k5 ?_
  unfold Hs.C at nf s1 ⊢
  unfold Hs.H at no nr
  unfold a_e4
  simp only [h1,h1',decide_true,if_true,nf,rf,sp,no,ro,nr,na,nw,xr,xw,a_0,Bool.not_true,Bool.false_eq_true,if_false,beq_self_eq_true,bne_self_eq_false,c_3 (i:=i) (by omega),hin,s1,s2]
end
theorem b_s9:b_kp:=by
 intro l w hl0 hw0 hl hwl
 have hw:=a_14 hl0
 have hb:=b_co hw0
 refine ⟨Fb,?_⟩
 unfold a_t7
 rw [b_wr]
 by_cases hf:l.length<=40/\w.length<=24
 ·simp only [a_0,hf.1,hf.2,decide_true,Bool.and_self,Bool.not_true,Bool.false_eq_true,if_false]
  cases hR:c_0 l with
  |
   false=>
   rw [b_wt hR hl (by omega),(a_sl hR hl (by omega)).2]
   simp only [a_0,Bool.not_false,if_true,b_eo,show ((11:Int)==11)=true from rfl]
  |
   true=>
   obtain ⟨a,b,e,z,K⟩:=known hw hR hl (by omega)
   have hlp:=b_vr (e:=e) (z:=z) K hw hb hf.2 w.length 0 (by omega) (Hs.zero l z) b_sn Fb (by unfold Fb;omega)
   rw [b_vq K,K.TF.rR,b_wz K]
   unfold Hs.C at hlp ⊢
   rw [show ((0:Nat):Int)=0 from rfl] at hlp
   simp only [a_0,Bool.not_true,Bool.false_eq_true,if_false,show ((0:Int) != 0)=false from rfl,hlp,b_eo]
 ·have:(decide (l.length<=40)&&decide (w.length<=24))=false:=by simp;omega
  simp only [a_0,this,Bool.not_false,if_true,b_eo]
