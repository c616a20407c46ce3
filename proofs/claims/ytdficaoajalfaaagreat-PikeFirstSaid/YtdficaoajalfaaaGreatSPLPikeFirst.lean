/- The longest first part that is found is as the term, with the same groups; no longer one is: of the models. Its conditions: none. -/
import Derived.Test.YtdficaoajalfaaaGreatSG55
import Derived.Test.YtdficaoajalfaaaGreatSDPikeFirst
import Derived.Test.YtdficaoajalfaaaGreatSPLPikeMatches
set_option linter.all false
namespace Go.Proofs.YtdficaoajalfaaaGreat
open Go.V Go.RowKit Old Go.X
theorem a_36 {α:Type} {w:List α} {m:Nat} (h:m<=w.length):e_1 w 0 (m:Int)=w.take m/\k_7 w 0 (m:Int)=true:=by
 refine ⟨by simp [e_1],by simp [k_7];omega⟩
theorem a_5u:a_t5:=by
 intro l w k hl0 hw0 hk0 hl hwl
 have hw:=a_14 hl0
 have hb:=b_co hw0
 have hk:0<=k/\k<256:=by
  have:inK .u8 k:=hk0
  exact ⟨this.1,by have:=this.2;rw [show IntKind.u8.max=255 from rfl] at this;omega⟩
 refine ⟨Fb,?_⟩
 unfold a_gi
 rw [b_gz]
 by_cases hf:l.length<=40/\w.length<=24
 rotate_left
 ·have:(decide (l.length<=40)&&decide (w.length<=24))=false:=by simp;omega
  simp only [a_0,this,Bool.not_false,if_true,a_gz]
 obtain ⟨hf1,hf2⟩:=hf
 simp only [a_0,hf1,hf2,decide_true,Bool.and_self,Bool.not_true,Bool.false_eq_true,if_false]
 cases hR:c_0 l with
 |
  false=>
  rw [(a_sl hR hl (by omega)).2]
  simp only [a_0,Bool.not_false,if_true,a_gz]
 |
  true=>
  obtain ⟨a,b,e,z,K⟩:=known hw hR hl (by omega)
  rw [K.TF.rR]
  obtain ⟨kn,rfl⟩:∃ kn:Nat,k=kn:=⟨k.toNat,by omega⟩
  have hW1:W ((w.length:Int)+1)=((w.length+1:Nat):Int):=c_3 (by omega)
  have hWk:W (kn:Int)=kn:=f_2 (by omega) (by omega)
  have hm:Int.tmod (kn:Int) ((w.length+1:Nat):Int)=((kn % (w.length+1):Nat):Int):=rfl
  have hne:¬ ((w.length+1:Nat):Int)=0:=by omega
  have hml:kn % (w.length+1)<=w.length:=by have:=Nat.mod_lt kn (show 0<w.length+1 by omega);omega
  generalize kn % (w.length+1)=m at *
  obtain ⟨c1,c2⟩:=a_36 (w:=w) hml
  have hbt:∀ m,∀ x∈w.take m,inK .u8 x:=fun m x hx=>hb x (List.mem_of_mem_take hx)
  have f1:(2000:Nat)<Fb:=by unfold Fb;omega
  have rL:=b_fp K hw hb (by omega) false
  have rM:∀ m,m<=w.length->s_3 Fb l (w.take m) true=some (runR ((n_1 l (a_3 l l.length) a b e z w m).1,(n_1 l (a_3 l l.length) a b e z w m).2,(m:Int))):=fun m hm=>by
   have hlen:(w.take m).length=m:=by simp;omega
   rw [b_fp K hw (hbt m) (by omega) true,b_f7,hlen,b_ep w m m (Nat.le_refl _)]
  unfold s_4 r_7
  simp only [a_0,Bool.not_true,Bool.false_eq_true,if_false,hW1,hWk,hm,hne,decide_false,Bool.not_false,if_true,c1,c2,rL,rM m hml]
  rcases a_xv (l:=l) (n:=a_3 l l.length) (a:=a) (b:=b) (e:=e) (z:=z) w w.length with ⟨h1,h2⟩ | ⟨t,h1,h2,h3,h4⟩
  ·have hr1:runR (o_7 l (a_3 l l.length) a b e z w false w.length)=([],7):=by unfold runR;rw [h2];rfl
   have hr2:runR ((n_1 l (a_3 l l.length) a b e z w m).1,(n_1 l (a_3 l l.length) a b e z w m).2,(m:Int))=([],7):=by unfold runR;rw [h1 m hml];rfl
   rw [hr1,hr2]
   simp only [show ((7:Int) != 0)=true from rfl,if_true,beq_self_eq_true,a_0,List.length_nil,show (((0:Nat):Int)==0)=true from rfl,a_gz]
  ·obtain ⟨g1,g2⟩:=b_go K hw hb t h1 (by omega) h2
   obtain ⟨s1,s2⟩:=b_ca (to:=(t:Int)) g1
   have hr1:runR (o_7 l (a_3 l l.length) a b e z w false w.length)=(y_6 (n_1 l (a_3 l l.length) a b e z w t).1 (t:Int),0):=by unfold runR;rw [h3];rfl
   have hrt:runR ((n_1 l (a_3 l l.length) a b e z w t).1,(n_1 l (a_3 l l.length) a b e z w t).2,(t:Int))=(y_6 (n_1 l (a_3 l l.length) a b e z w t).1 (t:Int),0):=by unfold runR;rw [h2];rfl
   have hsp:gt (y_6 (n_1 l (a_3 l l.length) a b e z w t).1 (t:Int)) 0=⟨0,(t:Int)⟩:=by rw [s2,g2];unfold a_ej;rw [if_neg (by omega)]
   have hsl:=a_0k (n_1 l (a_3 l l.length) a b e z w t).1 (t:Int) (by have:=p_6 l;rw [g1];omega)
   obtain ⟨d1,d2⟩:=a_36 (w:=w) h1
   rw [hr1]
   have hl0:(((y_6 (n_1 l (a_3 l l.length) a b e z w t).1 (t:Int)).length:Int)==0)=false:=by rw [beq_eq_false_iff_ne];omega
   have hin:inb (y_6 (n_1 l (a_3 l l.length) a b e z w t).1 (t:Int)) 0=true:=a_7 (by omega) (by omega)
   have x1:¬ (t:Int)<0:=by omega
   have x2:¬ (t:Int)>(w.length:Int):=by omega
   simp only [show ((0:Int) != 0)=false from rfl,Bool.false_eq_true,if_false,hl0,hin,if_true,hsp,a_0,x1,x2,decide_false,d1,d2,rM t h1,hrt,beq_self_eq_true,a_tx hsl f1]
   cases hbm:(n_1 l (a_3 l l.length) a b e z w m).2 with
   |
    true=>
    have hmt:m<=t:=by
     rcases Nat.lt_or_ge t m with c | c
     ·have:=h4 m c hml;rw [hbm] at this;cases this
     ·exact c
    have x3:¬ (m:Int)>(t:Int):=by omega
    have hrm:runR ((n_1 l (a_3 l l.length) a b e z w m).1,true,(m:Int))=(y_6 (n_1 l (a_3 l l.length) a b e z w m).1 (m:Int),0):=rfl
    simp only [hrm,beq_self_eq_true,if_true,x3,decide_false,a_0,Bool.false_eq_true,if_false,a_gz]
   |
    false=>
    have hrm:runR ((n_1 l (a_3 l l.length) a b e z w m).1,false,(m:Int))=([],7):=rfl
    simp only [hrm,show ((7:Int)==0)=false from rfl,Bool.false_eq_true,if_false,a_0,beq_self_eq_true,if_true,List.length_nil,show (((0:Nat):Int)==0)=true from rfl,a_gz]
