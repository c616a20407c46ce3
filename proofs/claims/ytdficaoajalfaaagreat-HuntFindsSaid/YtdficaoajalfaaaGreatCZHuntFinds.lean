/- HuntFinds holds. Its conditions: none. -/
import Derived.Test.YtdficaoajalfaaaGreatCG53
import Derived.Test.YtdficaoajalfaaaGreatCDHuntFinds
import Derived.Test.YtdficaoajalfaaaGreatCFHuntFinds
set_option linter.all false
namespace Go.Proofs.YtdficaoajalfaaaGreat
open Go.V Go.RowKit Old Go.X
def J0C (l:List C0)(w:List Int):G0e Fb l w=some (decide (l.length<=40)&&decide (w.length<=24)):=by
 unfold G0e
 by_cases h1:l.length<=40
 ·have c:(l.length:Int)<=40:=O'
  by_cases f:w.length<=24
  ·have d:(w.length:Int)<=24:=O'
   simp[h1,c,f,d]
  ·have d:¬(w.length:Int)<=24:=O'
   simp[h1,c,f,d]
 ·have c:¬(l.length:Int)<=40:=O'
  simp[h1,c]
section
variable {F:Nat}{l:List C0}{n:Nat}{a:List y0}{b:Nat->List y0}{e:Nat->y0×Bool}{z:y0×Bool}{t:Tm}{w:List Int}
def H0r (K:H5 l n a b e z F)(hw:∀x∈l,o3 x)(c:∀x∈w,Z5 .u8 x)(hl:w.length<=1000):∀m,m<=w.length->f05 l n (a0z l n a b e z w m) m
 |0,_=>I0M
 |m+1,h=>(G0U (e:=e) (z:=z) K hw (H0r K hw c hl m O') O' (c _ (gtm O'))).2.2.1
def L0m (K:H5 l n a b e z F)(hw:∀x∈l,o3 x)(j:∀x∈w,Z5 .u8 x)(hl:w.length<=1000):c0H F l w=some (if(a0z l n a b e z w w.length).found.2 then((a0z l n a b e z w w.length).found.1,0)else([],7))/\
  m0k F l w=some (if(a0z l n a b e z w w.length).found.2 then((a0z l n a b e z w w.length).found.1,0)else([],7)):=by
 have f1:=K.f1;have c:=H0r (w:=w) K hw j hl;have n0:=K0m K;have o:=J0h K;have m:=L0I (a:=a) (b:=b) (e:=e) (z:=z) (c w.length (Nat.le_refl _)) (show 2000<F from O');have rf:=L01 (a:=a) (b:=b) (e:=e) (c w.length (Nat.le_refl _)) (show 2000<F from O');constructor
 ·have d:=R4 (step:=f0f F w) (fun k=>((k:Int),(a0z l n a b e z w k).C l n a b e z)) ((a0z l n a b e z w w.length).C l n a b e z) w.length (fun k hk=>.inl ?_) ?_ w.length 0 F O' O'
  ·have h:iter (f0f F w) F (0,(Hs.zero l z).C l n a b e z)=_:=d;unfold c0H;rw[n0];unfold Hs.C at h m ⊢;simp only[q0,bne_self_eq_false,h,m];cases(a0z l n a b e z w w.length).found.2<;>simp
  ·have g:=(G0U (e:=e) (z:=z) K hw (c k O') O' (j _ (gtm hk))).1;have f:(k:Int)<(w.length:Int):=O'
   unfold Hs.C at g ⊢;unfold f0f;simp only[q0,f,R0 (l:=w) (i:=(k:Int)) O' f,g,G3 (i:=k) O'];rfl
  ·unfold Hs.C f0f;simp
 ·have d:=R4 (step:=A0a F w) (fun k=>((k:Int),(a0z l n a b e z w k).X l n a b e)) ((a0z l n a b e z w w.length).X l n a b e) w.length (fun k hk=>.inl ?_) ?_ w.length 0 F O' O'
  ·have h:iter (A0a F w) F (0,(Hs.zero l z).X l n a b e)=_:=d;unfold m0k;simp only[q0,K.TF.rR,o,h,rf];cases(a0z l n a b e z w w.length).found.2<;>simp
  ·have g:=(G0U (e:=e) (z:=z) K hw (c k O') O' (j _ (gtm hk))).2.1;have f:(k:Int)<(w.length:Int):=O'
   unfold A0a;simp only[q0,f,R0 (l:=w) (i:=(k:Int)) O' f,g,G3 (i:=k) O'];rfl
  ·unfold A0a;simp
end
def L0o:I0A:=by
 intro l w h k hl r;have hw:=D0r h;have i:=z0m k;refine⟨Fb,?_⟩;have f1:(2000:Nat)<Fb:=by unfold Fb;omega
 unfold G05;rw[J0C]
 by_cases d:l.length<=40/\w.length<=24
 case neg=>
  have:(decide (l.length<=40)&&decide (w.length<=24))=false:=by simp;omega
  simp only[q0,this,G0g]
 have g:b08 Fb [] []=some true:=h01 Z9 f1;cases hR:K1 l with
 |false=>
  have o:c0H Fb l w=some ([],11):=by
   unfold c0H e0B;rw[w00 hR hl O'];rfl
  have j:d0X Fb l w=some ([],11):=by
   unfold d0X j0e;rw[(q0X hR hl O').2];rfl
  have p:m0k Fb l w=some ([],11):=by
   unfold m0k;rw[(q0X hR hl O').2];rfl
  simp only[q0,d.1,d.2,Bool.and_self,o,j,p,g,beq_self_eq_true,G0g]
 |true=>
  obtain⟨a,b,e,z,K⟩:=known hw hR hl O';obtain⟨t,q⟩:=a04 hw hR;have f:=H0r (w:=w) K hw i O';obtain⟨o,p⟩:=L0m (w:=w) K hw i O';have j:=J0d K hw q hl i O' (H05 K hw q (fun m hm=>(f m hm).c.a0) w.length (Nat.le_refl _));have hlen:=L0F (f w.length (Nat.le_refl _));rw[o,j,p];cases c:(a0z l (L0 l l.length) a b e z w w.length).found.2 with
  |false=>simp only[q0,d.1,d.2,Bool.and_self,g,beq_self_eq_true,G0g]
  |true=>simp only[q0,d.1,d.2,Bool.and_self,h01 hlen f1,beq_self_eq_true,G0g]
theorem huntFinds_holds:Rows.HuntFindsSaid:=I0O L0o
