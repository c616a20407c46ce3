/- An empty piece changes nothing; two pieces are as one. Its conditions: none. -/
import Derived.Test.YtmhooikfkhjijaaGreatWG48
import Derived.Test.YtmhooikfkhjijaaGreatWG49
import Derived.Test.YtmhooikfkhjijaaGreatWDStreamEmpty
set_option linter.all false
namespace Go.Proofs.YtmhooikfkhjijaaGreat
open Go.V Go.RowKit Old Go.X
theorem Y0L:Y0h:=by
 intro l v w hl0 hv0 hw0 hl hvl hwl;have hw:=K04 hl0;have hbv:=f0v hv0;have hbw:=f0v hw0;have hF:2000<Fb:=by unfold Fb;omega
 refine ⟨Fb,?_⟩;unfold Q0N
 by_cases h1:l.length<=40
 ·have e1:decide ((l.length:Int)>40)=false:=by simp;omega
  by_cases h2:v.length<=24
  ·have e2:decide ((v.length:Int)>24)=false:=by simp;omega
   by_cases h3:w.length<=24
   ·have e3:decide ((w.length:Int)>24)=false:=by simp;omega
    cases hR:e0M l with
    |
     false=>
     simp only [e1,e2,e3,Bool.false_eq_true,if_false,F1,(O0C hR hl (by omega)).2,Bool.not_false,if_true,H0L]
    |
     true=>
     obtain ⟨a,b,e,z,K⟩:=known hw hR hl (by omega);have hn:u5 l l.length<=1000:=by have:=D06 l l.length;omega
     have hr:=K.TF.rR;have hbe:∀ x∈([]:List Int),inK .u8 x:=fun x hx=>by cases hx
     have hba:∀ x∈v++w,inK .u8 x:=fun x hx=>by
      rcases List.mem_append.1 hx with h | h
      ·exact hbv x h
      ·exact hbw x h
     obtain ⟨a1,m1,a2,a3⟩:=G0k (c:=0) K hn hw hbv (by omega) V0B (by omega) (by omega) (by omega);obtain ⟨b1,m2,b2,b3⟩:=G0k (c:=0+(v.length:Int)) K hn hw hbe (by simp) a3 (by omega) (by omega) (by omega);have hE:A0n l (u5 l l.length) a b e (A0n l (u5 l l.length) a b e (Hs.zero l z) v) []=A0n l (u5 l l.length) a b e (Hs.zero l z) v:=rfl;rw [hE] at b1 b3;obtain ⟨c1,m3,c2,c3⟩:=G0k (c:=0+(v.length:Int)+(([]:List Int).length:Int)) K hn hw hbw (by omega) b3 (by simp at b2;omega) (by simp<;>omega) (by simp<;>omega);rw [Y0M] at c1 c3;obtain ⟨d1,m4,d2,d3⟩:=G0k (c:=0) K hn hw hba (by simp;omega) V0B (by omega) (by omega) (by omega);obtain ⟨g1,m5,g2,g3⟩:=G0k (c:=0+((v++w).length:Int)) K hn hw hbe (by simp) d3 (by simp at d2;omega) (by simp<;>omega) (by simp<;>omega);have hE2:A0n l (u5 l l.length) a b e (A0n l (u5 l l.length) a b e (Hs.zero l z) (v++w)) []=A0n l (u5 l l.length) a b e (Hs.zero l z) (v++w):=rfl;rw [hE2] at g1;have ap1:C1 1 ([]:List Int) v=true:=a7 (by simp;omega);have ap2:C1 1 ([]++v) w=true:=a7 (by simp;omega);have s1:=Y0j (F:=Fb) (x:=⟨(A0n l (u5 l l.length) a b e (Hs.zero l z) v).found.2,(A0n l (u5 l l.length) a b e (Hs.zero l z) v).over,(A0n l (u5 l l.length) a b e (Hs.zero l z) v).found.1⟩) (t0D a3) hF;have s2:=Y0j (F:=Fb) (x:=⟨(A0n l (u5 l l.length) a b e (Hs.zero l z) (v++w)).found.2,(A0n l (u5 l l.length) a b e (Hs.zero l z) (v++w)).over,(A0n l (u5 l l.length) a b e (Hs.zero l z) (v++w)).found.1⟩) (t0D d3) hF;have hc1:(0+(v.length:Int)+(([]:List Int).length:Int)+(w.length:Int)==0+((v++w).length:Int)+(([]:List Int).length:Int))=true:=by simp
     have hc2:(0+(v.length:Int)+(([]:List Int).length:Int)+(w.length:Int)==W ((v.length:Int)+(w.length:Int)))=true:=by rw [c0R (by omega) (by omega)];simp
     rw [Y08 K];unfold Hs.C at a1 b1 c1 d1 g1 ⊢;simp only [e1,e2,e3,Bool.false_eq_true,if_false,F1,hr,Bool.not_true,show ((0:Int) != 0)=false from rfl,a1,b1,c1,ap1,ap2,if_true,List.nil_append];simp only [List.nil_append] at ap2;simp only [ap2,if_true,d1,g1,F1,s1,s2,hc1,hc2,L0W,K0K,beq_self_eq_true,H0L]
   ·have e3:decide ((w.length:Int)>24)=true:=by simp;omega
    simp only [e1,e2,e3,Bool.false_eq_true,if_false,if_true,F1,H0L]
  ·have e2:decide ((v.length:Int)>24)=true:=by simp;omega
   simp only [e1,e2,Bool.false_eq_true,if_false,if_true,F1,H0L]
 ·have e1:decide ((l.length:Int)>40)=true:=by simp;omega
  simp only [e1,if_true,F1,H0L]
