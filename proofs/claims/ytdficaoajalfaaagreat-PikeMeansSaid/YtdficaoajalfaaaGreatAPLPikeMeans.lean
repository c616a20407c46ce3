/- Runs all at once tell what the document's trees tell: of the models. Its conditions: none. -/
import Derived.Test.YtdficaoajalfaaaGreatAG50
import Derived.Test.YtdficaoajalfaaaGreatADPikeMeans
set_option linter.all false
namespace Go.Proofs.YtdficaoajalfaaaGreat
open Go.V Go.RowKit Old Go.X
theorem x0p (l:List C0) (w:List Int):i0W Fb l w=some (decide (l.length<=40)&&decide (w.length<=24)):=by
 unfold i0W
 by_cases h1:l.length<=40
 ·have h1':(l.length:Int)<=40:=by omega
  by_cases h2:w.length<=24
  ·have h2':(w.length:Int)<=24:=by omega
   simp [h1,h1',h2,h2']
  ·have h2':¬ (w.length:Int)<=24:=by omega
   simp [h1,h1',h2,h2']
 ·have h1':¬ (l.length:Int)<=40:=by omega
  simp [h1,h1']
theorem s0A {l:List C0} (hR:K1 l=false) (hl:l.length*64<=140737488351232) (h40:l.length<=1000) (w:List Int):d0F Fb l w=some ([],11):=by
 unfold d0F g0A j0e;rw [(q0X hR hl h40).2];rfl
theorem x0I {l:List C0} (hR:K1 l=false) (hl:l.length*64<=140737488351232) (h40:l.length<=1000) (w:List Int) (whole:Bool):b0J Fb l w whole=some ([],11):=by
 unfold b0J;rw [w00 hR hl h40];rfl
theorem C01:t0X:=by
 intro l w hl0 hw0 hl hwl;have hw:=D0r hl0;have hb:=z0m hw0;refine ⟨Fb,?_⟩;have f1:(2000:Nat)<Fb:=by unfold Fb;omega
 have f2:(100:Nat)<Fb:=by unfold Fb;omega
 unfold m0e;rw [x0p]
 by_cases hf:l.length<=40/\w.length<=24
 case neg=>
  have:(decide (l.length<=40)&&decide (w.length<=24))=false:=by simp;omega
  simp only [G0,this,Bool.not_false,if_true,f0B]
 unfold f0c f0q;have hsl:∀ k:Nat,k<=w.length->I4 w 0 (k:Int)=true:=fun k hk=>by simp [I4];omega
 have hs0:b08 Fb [] []=some true:=h01 (by simp) f1;cases hR:K1 l with
 |
  false=>
  have hd:((w.length:Int)>=0):=by omega
  have hit:iter (Z9 Fb l w [] 11) Fb (w.length:Int)=some (.inl true):=by
   refine n0U (body:=Z9 Fb l w [] 11) 0 (fun _=>(w.length:Int)) (.inl true) (fun i hi=>by omega) ?_ (by omega);unfold Z9;simp only [hd,decide_true,if_true,hsl _ (Nat.le_refl _),s0A hR hl (by omega),G0,show ((11:Int)==0)=false from rfl,Bool.false_eq_true,if_false,beq_self_eq_true,hs0,f0B]
  simp only [G0,hf.1,hf.2,decide_true,Bool.and_self,Bool.not_true,Bool.false_eq_true,if_false,x0I hR hl (by omega),s0A hR hl (by omega),hs0,bne_self_eq_false,hit]
 |
  true=>
  obtain ⟨a,b,e,z,K⟩:=known hw hR hl (by omega);obtain ⟨t,ht⟩:=a04 hw hR;have hm:=fun m (h:m<=w.length)=>z09 (m:=m) K hw ht hl hb (show w.length<=64 by omega) h;have hlen:∀ {m},m<=w.length->∀ to:Int,(a0x (u5 l (L0 l l.length) a b e z w m).1 to).length<=1000:=fun {m} h to=>by
   refine B0O _ _ ?_;have:=m0n K hw hb true m h (by omega)
   rwa [r0z] at this
  have hme:=hm w.length (Nat.le_refl _);rw [show I1 w 0 (w.length:Int)=w by simp [I1]] at hme;have n1:=t0I K hw hb (show w.length<=100000 by omega) true;have n2:=t0I K hw hb (show w.length<=100000 by omega) false;rw [r0z] at n1;have n1':b0J Fb l w true=some (if (u5 l (L0 l l.length) a b e z w w.length).2 then (a0x (u5 l (L0 l l.length) a b e z w w.length).1 (w.length:Int),0) else ([],7)):=n1;have first:∀ r:List G1×Int,r.1.length<=1000->b08 Fb r.1 r.1=some true:=fun r h=>h01 h f1
  have down:∀ j:Nat,j<=w.length->(∀ i,j<i->i<=w.length->(u5 l (L0 l l.length) a b e z w i).2=false)->∀ fu,j<fu->
    iter (Z9 Fb l w (a0e (I6 l (L0 l l.length) a b e z w false w.length)).1 (a0e (I6 l (L0 l l.length) a b e z w false w.length)).2) fu (j:Int)=some (.inl true)\/
    (iter (Z9 Fb l w (a0e (I6 l (L0 l l.length) a b e z w false w.length)).1 (a0e (I6 l (L0 l l.length) a b e z w false w.length)).2) fu (j:Int)=iter (Z9 Fb l w (a0e (I6 l (L0 l l.length) a b e z w false w.length)).1 (a0e (I6 l (L0 l l.length) a b e z w false w.length)).2) (fu-j-1) (-1)/\∀ i,i<=w.length->(u5 l (L0 l l.length) a b e z w i).2=false):=by
   intro j
   induction j with
   |
    zero=>
    intro hj hno fu hfu;obtain ⟨fu,rfl⟩:∃ m,fu=m+1:=⟨fu-1,by omega⟩
    cases c:(u5 l (L0 l l.length) a b e z w 0).2 with
    |
     true=>
     left;have hla:=n0S c w.length hj (fun i h1 h2=>hno i h1 h2);refine a0o ?_;unfold Z9;have hmj:=hm 0 hj;rw [c] at hmj;rw [hla];simp only [a0e,show ((0:Nat):Int)>=0 from by omega,decide_true,if_true,hsl _ hj,hmj,G0,beq_self_eq_true,h01 (hlen hj _) f1,f0B]
    |
     false=>
     right;refine ⟨?_,fun i hi=>by
      rcases Nat.eq_zero_or_pos i with h | h
      ·rw [h];exact c
      ·exact hno i h hi⟩
     rw [show fu+1-0-1=fu by omega];refine e0m ?_;unfold Z9;have hmj:=hm 0 hj;rw [c] at hmj;simp only [show ((0:Nat):Int)>=0 from by omega,decide_true,if_true,hsl _ hj,hmj,G0,show ((7:Int)==0)=false from rfl,show ((7:Int)==11)=false from rfl,Bool.false_eq_true,if_false];rfl
   |
    succ j ih=>
    intro hj hno fu hfu;obtain ⟨fu,rfl⟩:∃ m,fu=m+1:=⟨fu-1,by omega⟩
    cases c:(u5 l (L0 l l.length) a b e z w (j+1)).2 with
    |
     true=>
     left;have hla:=n0S c w.length hj (fun i h1 h2=>hno i h1 h2);refine a0o ?_;unfold Z9;have hmj:=hm (j+1) hj;rw [c] at hmj;rw [hla];simp only [a0e,show ((j+1:Nat):Int)>=0 from by omega,decide_true,if_true,hsl _ hj,hmj,G0,beq_self_eq_true,h01 (hlen hj _) f1,f0B]
    |
     false=>
     have hno':∀ i,j<i->i<=w.length->(u5 l (L0 l l.length) a b e z w i).2=false:=fun i h1 h2=>by
      by_cases c2:i=j+1
      ·rw [c2];exact c
      ·exact hno i (by omega) h2
     have hstep:Z9 Fb l w (a0e (I6 l (L0 l l.length) a b e z w false w.length)).1 (a0e (I6 l (L0 l l.length) a b e z w false w.length)).2 ((j+1:Nat):Int)=some (.next (j:Int)):=by
      unfold Z9;have hmj:=hm (j+1) hj;rw [c] at hmj;have hW:W (((j+1:Nat):Int)-1)=(j:Int):=by rw [n3 (by omega) (by omega)];omega
      simp only [show ((j+1:Nat):Int)>=0 from by omega,decide_true,if_true,hsl _ hj,hmj,G0,show ((7:Int)==0)=false from rfl,show ((7:Int)==11)=false from rfl,Bool.false_eq_true,if_false,hW]
     rw [e0m hstep];rcases ih (by omega) hno' fu (by omega) with h | ⟨h,h'⟩
     ·exact .inl h
     ·exact .inr ⟨by rw [h,show fu+1-(j+1)-1=fu-j-1 by omega],h'⟩
  have hfin:=down w.length (Nat.le_refl _) (fun i h1 h2=>by omega) Fb (by omega);have hsp:b08 Fb (if (u5 l (L0 l l.length) a b e z w w.length).2 then (a0x (u5 l (L0 l l.length) a b e z w w.length).1 (w.length:Int),(0:Int)) else ([],7)).1 (if (u5 l (L0 l l.length) a b e z w w.length).2 then (a0x (u5 l (L0 l l.length) a b e z w w.length).1 (w.length:Int),(0:Int)) else ([],7)).1=some true:=by
   cases (u5 l (L0 l l.length) a b e z w w.length).2
   ·exact hs0
   ·exact h01 (hlen (Nat.le_refl _) _) f1
  rw [n1',hme,n2];generalize (if (u5 l (L0 l l.length) a b e z w w.length).2 then (a0x (u5 l (L0 l l.length) a b e z w w.length).1 (w.length:Int),(0:Int)) else ([],7))=R at *;obtain ⟨R1,R2⟩:=R;simp only at hsp;simp only [G0,hf.1,hf.2,decide_true,Bool.and_self,Bool.not_true,Bool.false_eq_true,if_false,hsp,bne_self_eq_false];rcases hfin with h | ⟨h,h'⟩
  ·rw [h];rfl
  ·rw [h];have hno:=q0Z (l:=l) (n:=L0 l l.length) (a:=a) (b:=b) (e:=e) (z:=z) w.length h';have hr:a0e (I6 l (L0 l l.length) a b e z w false w.length)=([],7):=by unfold a0e;rw [hno];rfl
   rw [hr];have hend:iter (Z9 Fb l w [] 7) (Fb-w.length-1) (-1)=some (.inr ()):=by
    obtain ⟨fu,hfu⟩:∃ m,Fb-w.length-1=m+1:=⟨Fb-w.length-2,by unfold Fb;omega⟩
    rw [hfu];refine a0o ?_;unfold Z9;rfl
   rw [hend];simp only [G0,beq_self_eq_true,if_true,List.length_nil,f0B];simp [f0B]
