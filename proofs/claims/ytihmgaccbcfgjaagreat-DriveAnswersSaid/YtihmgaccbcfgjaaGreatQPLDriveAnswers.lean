/- DriveAnswers, of the models. Its conditions: none. -/
import Derived.Test.YtihmgaccbcfgjaaGreatQG41
import Derived.Test.YtihmgaccbcfgjaaGreatQDDriveAnswers
open Bool (false_eq_true)
open Nat (le_refl)
set_option linter.all false
namespace Go.Proofs.YtihmgaccbcfgjaaGreat
open Go.V Go.RowKit Go.X
variable {F:Nat}
theorem k01 {d:K0} (hS:Sm d) {w:List Int} (hw:∀ x∈w,0<=x/\x<256) (h40:w.length<=1000) (hF:2000<F):a0v F d w=some (if U4 d then (.inr (G1 d w w.length),0) else (.inl (),11)):=by
 unfold a0v;rw [j0x hS hF];cases hr:U4 d
 ·rfl
 have h:=o8 hS hr;simp only [if_true,F1,bne_self_eq_false,false_eq_true,if_false];have hl:=i7 (body:=b03 F w) w.length (fun i=>((i:Int),G1 d w i)) (G1 d w w.length) (fun i hi=>by
  have hc:=T6 h hw i (by omega);unfold b03;simp only [dec_lt hi,if_true,Y3,hi,decide_true,f0a (F:=F) h hc (by omega) (hw _ (K4 hi)) hF,F1,R2 (show i<9223372036854775807 by omega),b0L d w hi]) (by
  unfold b03;simp) (fu:=F) (by omega)
 have hl:iter (b03 F w) F (0,J7 d)=some (G1 d w w.length):=hl;rw [hl];rfl
theorem n0I {d:K0} (h:Rd d) {w:List Int} (hw:∀ x∈w,0<=x/\x<256) (h40:w.length<=1000) (hF:2000<F):c0O F d w=some (T3 (G1 d w w.length)):=by
 unfold c0O;rw [n0b h hF];simp only [F1];have hl:=i7 (body:=d0R F w) w.length (fun i=>((i:Int),T3 (G1 d w i))) (T3 (G1 d w w.length)) (fun i hi=>by
  have hc:=T6 h hw i (by omega);unfold d0R;simp only [dec_lt hi,if_true,Y3,hi,decide_true,k0G (F:=F) h hc (by omega) (hw _ (K4 hi)) hF,F1,R2 (show i<9223372036854775807 by omega),b0L d w hi]) (by
  unfold d0R;simp) (fu:=F) (by omega)
 have hl:iter (d0R F w) F (0,T3 (J7 d))=some (T3 (G1 d w w.length)):=hl;rw [hl];rfl
def Q9 (c:X0):List V1×Int:=if c.last.tags.isEmpty then ([],7) else (a0h c.last.tags c.last.to,0)
theorem o0U {c:X0} (h:c.last.tags.length<=40) (hF:2000<F):a07 F c=some (Q9 c):=by
 unfold a07;rw [o0G h hF];unfold w9 Q9;cases c.last.tags.isEmpty<;>rfl
def c0h (d:K0) (w:List Int):List V1×Int:=if U4 d then Q9 (G1 d w w.length) else ([],11)
def c0c (d:K0) (w:List Int):List V1×Int:=if U4 d then (if 0<=(G1 d w w.length).state/\(gt d.States (G1 d w w.length).state).Accept≠[] then Q9 (G1 d w w.length) else ([],7)) else ([],11)
section
variable {d:K0} (hS:Sm d) {w:List Int} (hw:∀ x∈w,0<=x/\x<256) (h40:w.length<=1000) (hF:2000<F)
include hS hw h40 hF
theorem x0j:a06 F d w=some (c0h d w):=by
 unfold a06 c0h;rw [k01 hS hw h40 hF];cases hr:U4 d
 ·rfl
 have h:=o8 hS hr;have hc:=T6 h hw w.length (le_refl _);simp only [if_true,F1,bne_self_eq_false,false_eq_true,if_false,o0U hc.tl hF]
theorem x0J:e0S F d w=some (c0h d w):=by
 unfold e0S c0h;rw [e0V d hS hF];cases hr:U4 d
 ·rfl
 have h:=o8 hS hr;have hc:=T6 h hw w.length (le_refl _);simp only [if_true,F1,Bool.not_true,false_eq_true,if_false,n0I h hw h40 hF,g0V hc.tl hF];unfold w9 Q9;cases (G1 d w w.length).last.tags.isEmpty<;>rfl
theorem r0C:a0Y F d w=some (c0c d w):=by
 unfold a0Y c0c;rw [k01 hS hw h40 hF];cases hr:U4 d
 ·rfl
 have h:=o8 hS hr;have hc:=T6 h hw w.length (le_refl _);simp only [if_true,F1,bne_self_eq_false,false_eq_true,if_false,o0U hc.tl hF];unfold b0z;rw [hc.d_];rcases hc.st with h0 | ⟨h1,h2,h3⟩
 ·have e:decide ((G1 d w w.length).state>=0)=false:=by simp;omega
  have e2:¬ (0<=(G1 d w w.length).state/\(gt d.States (G1 d w w.length).state).Accept≠[]):=by omega
  simp [e,e2]
 ·have e:decide ((G1 d w w.length).state>=0)=true:=by simpa using h1
  simp only [e,if_true,B4 h1 h2,F1]
  by_cases ha:(gt d.States (G1 d w w.length).state).Accept=[]
  ·simp [ha]
  ·have:decide (((gt d.States (G1 d w w.length).state).Accept.length:Int)>0)=true:=by have:=List.length_pos_iff.2 ha;simp;omega
   simp only [this,Bool.not_true,false_eq_true,if_false];rw [if_pos ⟨h1,ha⟩]
theorem w0C {c:X0} (h:0<=(P5 d c).state/\(gt d.States (P5 d c).state).Accept≠[]):(P5 d c).last.tags.isEmpty=false:=by
 by_cases hh:0<=c.state/\(gt d.States c.state).Accept≠[]
 ·unfold P5;rw [if_pos hh];show (N2 _ _ _).isEmpty=false;unfold N2;simp [hh.2]
 ·have e:P5 d c=c:=by unfold P5;rw [if_neg hh]
  rw [e] at h;exact absurd h hh
theorem q0v (i:Nat):∃ c,G1 d w i=P5 d c:=by
 unfold G1;generalize w.take i=l;rcases List.eq_nil_or_concat l with rfl | ⟨a,x,rfl⟩
 ·exact ⟨_,rfl⟩
 ·rw [List.concat_eq_append,List.foldl_append];exact ⟨_,rfl⟩
theorem s0E:e0s F d w=some (c0c d w):=by
 unfold e0s c0c;rw [e0V d hS hF];cases hr:U4 d
 ·rfl
 have h:=o8 hS hr;have hc:=T6 h hw w.length (le_refl _);simp only [if_true,F1,Bool.not_true,false_eq_true,if_false,n0I h hw h40 hF,g0V hc.tl hF];have e0:(T3 (G1 d w w.length)).State=(G1 d w w.length).state:=rfl;rw [e0];rcases hc.st with h0 | ⟨h1,h2,h3⟩
 ·have e:decide ((G1 d w w.length).state<0)=true:=by simp;omega
  have e2:¬ (0<=(G1 d w w.length).state/\(gt d.States (G1 d w w.length).state).Accept≠[]):=by omega
  simp [e,e2]
 ·have e:decide ((G1 d w w.length).state<0)=false:=by simpa using h1
  simp only [e,false_eq_true,if_false,B4 h1 h2,if_true,F1]
  by_cases ha:(gt d.States (G1 d w w.length).state).Accept=[]
  ·simp [ha]
  ·have:(((gt d.States (G1 d w w.length).state).Accept.length:Int)==0)=false:=by simp [ha]
   simp only [this,false_eq_true,if_false];rw [if_pos ⟨h1,ha⟩];obtain ⟨c,hcc⟩:=q0v (F:=F) hS hw h40 hF w.length;have hn:=w0C (F:=F) (c:=c) hS hw h40 hF (by rw [<-hcc];exact ⟨h1,ha⟩);rw [<-hcc] at hn;unfold w9 Q9;simp [hn]
end
theorem p0j {c:X0} (h:c.last.tags.length<=40):(Q9 c).1.length<=1000:=by
 unfold Q9;split
 ·simp
 ·exact l0a _ _ (by omega)
theorem driveAnswers:n0P:=by
 intro d w hd hw _;have hw:=f0v hw;refine ⟨Fb,?_⟩;have hF:2000<Fb:=by unfold Fb;omega
 unfold j02;rw [i0w d hF];cases hs:a0M d
 ·simp [z7]
 have hS:=i0x hs
 by_cases h40:w.length<=40
 rotate_left
 ·have:decide ((w.length:Int)>40)=true:=by simp;omega
  simp [z7,this]
 have e40:decide ((w.length:Int)>40)=false:=by simp;omega
 have l1:(c0h d w).1.length<=1000:=by
  unfold c0h;cases hr:U4 d
  ·simp
  ·exact p0j (T6 (o8 hS hr) hw _ (le_refl _)).tl
 have l2:(c0c d w).1.length<=1000:=by
  unfold c0c;cases hr:U4 d
  ·simp
  ·simp only [if_true];split
   ·exact p0j (T6 (o8 hS hr) hw _ (le_refl _)).tl
   ·simp
 simp only [F1,Bool.not_true,false_eq_true,if_false,e40,x0j hS hw (by omega) hF,x0J hS hw (by omega) hF,r0C hS hw (by omega) hF,s0E hS hw (by omega) hF,i00 l1 hF,i00 l2 hF,if_true,beq_self_eq_true,z7]
