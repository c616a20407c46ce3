/- What it costs is at most what it may cost: of the models. Its conditions: none. -/
import Derived.Test.YtmhooikfkhjijaaGreatUG51
import Derived.Test.YtmhooikfkhjijaaGreatUDMeterHolds
set_option linter.all false
namespace Go.Proofs.YtmhooikfkhjijaaGreat
open Go.V Go.RowKit Old Go.X
theorem S0K (l:List U0) {k:Nat} (hk:k<=1000):(B0d l (k:Int)).2=(B0d l 0).2/\(B0d l (k:Int)).1.Room=(B0d l 0).1.Room/\((B0d l (k:Int)).1.Most=(B0d l 0).1.Most*((k:Int)+1))/\0<=(B0d l 0).1.Most/\(B0d l 0).1.Most<=600000:=by
 have hbd:(decide ((k:Int)<0)||decide ((k:Int)>1000000))=false:=by simp;omega
 unfold B0d;cases hR:e0M l with
 |false=>simp [E0e]
 |
  true=>
  have ha:=G0d hR;simp only [if_true,hbd,Bool.false_eq_true,if_false,show (decide ((0:Int)<0)||decide ((0:Int)>1000000))=false from rfl];refine ⟨trivial,trivial,?_,by omega,by omega⟩;rw [Int.zero_add,Int.one_mul,Int.mul_comm]
theorem T0l (p:b0D) {k:Nat} (hk:k<=1000):(C0q p (k:Int)).2=(C0q p 0).2/\(C0q p (k:Int)).1.Room=(C0q p 0).1.Room:=by
 have hbd:(decide ((k:Int)<0)||decide ((k:Int)>1000000))=false:=by simp;omega
 unfold C0q;cases hR:Pr.C0Z p with
 |false=>exact ⟨rfl,rfl⟩
 |
  true=>
  simp only [if_true,hbd,Bool.false_eq_true,if_false,show (decide ((0:Int)<0)||decide ((0:Int)>1000000))=false from rfl];exact ⟨trivial,trivial⟩
theorem W0O (p:b0D) (hd:Pr.Sm p) {w:List Int} (hb:∀ x∈w,inK .u8 x) (hw:w.length<=1000) :
  (C0M p w).2=(C0q p 0).2/\0<=(C0M p w).1.Work/\(C0M p w).1.Work<=(C0M p w).1.Most/\(C0M p w).1.Words<=(C0M p w).1.Room/\(C0M p w).1.Room=(C0q p 0).1.Room:=by
 obtain ⟨h1,h2⟩:=T0l p hw;unfold C0M;cases h0:((C0q p (w.length:Int)).2 != 0) with
 |
  true=>
  simp only [if_true];have hB:C0q p (w.length:Int)=(E0e,11):=by
   have hbd:(decide ((w.length:Int)<0)||decide ((w.length:Int)>1000000))=false:=by simp;omega
   unfold C0q at h0 ⊢;cases hR:Pr.C0Z p with
   |false=>rfl
   |true=>rw [hR,hbd] at h0;simp at h0
  rw [<-h1,<-h2,hB];exact ⟨rfl,Int.le_refl _,Int.le_refl _,Int.le_refl _,rfl⟩
 |
  false=>
  obtain ⟨hr,_,_,hB⟩:=K02 h0;have hri:=J0x (Pr.o8 hd hr) hb w.length (Nat.le_refl _);simp only [Bool.false_eq_true,if_false];refine ⟨?_,hri.w0,?_,?_,h2⟩
  ·rw [<-h1,hB]
  ·rw [hB];have h3:=hri.wk;have h4:=(Pr.o8 hd hr).r0;have h5:((w.length:Int)+1)*(1+2*p.Regs)=(w.length:Int)*(1+2*p.Regs)+(1+2*p.Regs):=Pr.mul_succ w.length (1+2*p.Regs);show _<=((w.length:Int)+1)*(1+2*p.Regs);omega
  ·rw [hB];exact Int.le_refl _
theorem T0n:O0a:=by
 intro l p w hl0 hp0 hw0 hl hwl;have hw:=K04 hl0;have hb:=f0v hw0;have hF:2000<Fb:=by unfold Fb;omega
 refine ⟨Fb,?_⟩;unfold K0T;rw [Pr.i0w p hF];simp only [F1,Pr.or_some,L0N];cases hs:Pr.a0M p with
 |false=>simp only [Bool.not_false,Bool.or_true,Bool.true_or,if_true]
 |
  true=>
  by_cases h5:l.length<=40
  ·have e:decide ((l.length:Int)>40)=false:=by simp;omega
   by_cases h6:w.length<=24
   ·have e6:decide ((w.length:Int)>24)=false:=by simp;omega
    have hd:=Pr.i0x hs;obtain ⟨X,c1,_,x1,x2,x3,x4,x5,x6⟩:=O0L hw hl (by omega) hb (show w.length<=1000 by omega);obtain ⟨b1,b2,b3,b4,b5⟩:=S0K l (show w.length<=1000 by omega);obtain ⟨t1,t2,t3,t4,t5⟩:=W0O p hd hb (show w.length<=1000 by omega);have m0:=H05 l 0 hw hl (by omega) (i64_in (by omega) (by omega));have mW:W ((B0d l 0).1.Most*W ((w.length:Int)+1))=X.1.Most:=by
     have hm:=D00 (a:=(B0d l 0).1.Most) (b:=(w.length:Int)+1) (A:=600000) (B:=1001) b4 b5 (by omega) (by omega);rw [c0R (n:=(w.length:Int)+1) (by omega) (by omega),c0R (by omega) (by omega),x2,b3]
    simp only [e,e6,Bool.not_true,Bool.or_false,Bool.false_eq_true,if_false,c1,m0,M0P p hd hb (show w.length<=1000 by omega) hF,L0H p hd 0 hF,F1];have n1:(X.2 != (B0d l 0).2)=false:=by rw [x1,b1];simp
    have n2:((C0M p w).2 != (C0q p 0).2)=false:=by rw [t1];simp
    have n3:decide (X.1.Work<0)=false:=by simp;omega
    have n4:decide (X.1.Work>X.1.Most)=false:=by simp;omega
    have n5:decide (X.1.Words>X.1.Room)=false:=by simp;omega
    have n6:(X.1.Room != (B0d l 0).1.Room)=false:=by rw [x3,b2];simp
    have n7:(X.1.Most != X.1.Most)=false:=by simp
    have n8:decide ((C0M p w).1.Work>=0)=true:=by simpa using t2
    have n9:decide ((C0M p w).1.Work<=(C0M p w).1.Most)=true:=by simpa using t3
    have n10:decide ((C0M p w).1.Words<=(C0M p w).1.Room)=true:=by simpa using t4
    have n11:((C0M p w).1.Room==(C0q p 0).1.Room)=true:=by rw [t5];simp
    simp only [n1,n2,n3,n4,n5,n6,mW,n7,n8,n9,n10,n11,Bool.or_false,Bool.false_eq_true,if_false,if_true,F1]
   ·have e6:decide ((w.length:Int)>24)=true:=by simp;omega
    simp only [e6,Bool.or_true,if_true]
  ·have e:decide ((l.length:Int)>40)=true:=by simp;omega
   simp only [e,Bool.true_or,if_true]
