/- DriveWork, of the models. Its conditions: none. -/
import Derived.Test.YtihmgaccbcfgjaaGreatQG41
import Derived.Test.YtihmgaccbcfgjaaGreatQDDriveWork
set_option linter.all false
namespace Go.Proofs.YtihmgaccbcfgjaaGreat
open Go.V Go.RowKit Go.X
def O3 (l:List Z1):Int:=l.foldl (fun m s=>if s.Regs>m then s.Regs else m) 0
theorem f0p:∀ (l:List Z1) (m:Int),m<=l.foldl (fun m s=>if s.Regs>m then s.Regs else m) m/\∀ s∈l,s.Regs<=l.foldl (fun m s=>if s.Regs>m then s.Regs else m) m
 |[],m=>⟨Int.le_refl _,fun s h=>by simp at h⟩
 |
  x :: l,m=>by
  obtain ⟨h1,h2⟩:=f0p l (if x.Regs>m then x.Regs else m);have h3:m<=(if x.Regs>m then x.Regs else m)/\x.Regs<=(if x.Regs>m then x.Regs else m):=by split<;>omega
  refine ⟨Int.le_trans h3.1 h1,fun s hs=>?_⟩;rcases List.mem_cons.1 hs with rfl | hs
  ·exact Int.le_trans h3.2 h1
  ·exact h2 s hs
theorem o0S {b:Int}:∀ (l:List Z1) (m:Int),m<=b->(∀ s∈l,s.Regs<=b)->l.foldl (fun m s=>if s.Regs>m then s.Regs else m) m<=b
 |[],m,h,_=>h
 |x :: l,m,h,hl=>o0S l _ (by show (if x.Regs>m then x.Regs else m)<=b;split;exact hl x (by simp);exact h) (fun s hs=>hl s (by simp [hs]))
theorem w0w {d:K0} {c:X0} {a b:Int} (h:gt d.Class a=gt d.Class b):I6 d c a=I6 d c b:=by
 unfold I6 H6 C2;rw [h]
theorem x0C {d:K0} (h:Rd d) {c:X0} {i:Nat} (hc:CI d c i) {b:Int} (hb:0<=b/\b<256):c.work+1<=(I6 d c b).work/\(I6 d c b).work<=c.work+1+O3 d.States:=by
 have e:(I6 d c b).work=(H6 d c b).work:=by unfold I6 P5;split<;>rfl
 rw [e];have hm0:=(f0p d.States 0).1;unfold H6
 by_cases h1:0<=c.state
 ·obtain ⟨h2,_,_,hm,hx,h3,h4,h5⟩:=e0j h hc hb h1;rw [if_pos h1];show _<=c.work+1+((C2 d c b).Src.length:Int)/\c.work+1+((C2 d c b).Src.length:Int)<=_;have:((C2 d c b).Src.length:Int)<=O3 d.States:=by
   rcases h.to _ hm _ hx with ⟨_,h0⟩ | ⟨g1,g2,g3⟩
   ·have h0:(C2 d c b).Src=[]:=h0;rw [h0];exact hm0
   ·have g3:((C2 d c b).Src.length:Int)=_:=g3;rw [g3];exact (f0p d.States 0).2 _ (c0l g1 g2)
  omega
 ·rw [if_neg h1];show _<=c.work+1/\c.work+1<=_;unfold O3;omega
theorem m0I {d:K0} (h:Rd d) {w:List Int} (hw:∀ x∈w,0<=x/\x<256):∀ i,i<=w.length->(i:Int)<=(G1 d w i).work/\(G1 d w i).work<=(i:Int)*(O3 d.States+1)
 |
  0,_=>by
  have:(G1 d w 0).work=0:=by unfold G1 J7 P5;simp only [List.take_zero,List.foldl_nil];split<;>rfl
  rw [this];simp
 |
  i+1,hi=>by
  obtain ⟨h1,h2⟩:=m0I h hw i (by omega);obtain ⟨h3,h4⟩:=x0C h (T6 h hw i (by omega)) (hw _ (K4 (show i<w.length by omega)));rw [<-b0L d w (by omega)] at h3 h4;refine ⟨by push_cast;omega,?_⟩;have:((i+1:Nat):Int)*(O3 d.States+1)=(i:Int)*(O3 d.States+1)+(O3 d.States+1):=by push_cast;rw [Int.add_mul];omega
  omega
theorem driveWork:o0d:=by
 intro d w v hd hw hv _ _;have hw:=f0v hw;have hv:=f0v hv;refine ⟨Fb,?_⟩;have hF:2000<Fb:=by unfold Fb;omega
 unfold j0I;rw [i0w d hF];cases hs:a0M d
 ·simp [z7]
 have hS:=i0x hs
 by_cases h40:w.length<=40
 rotate_left
 ·have:decide ((w.length:Int)>40)=true:=by simp;omega
  simp [z7,this]
 have e40:decide ((w.length:Int)>40)=false:=by simp;omega
 by_cases hvl:v.length<w.length
 ·simp [z7,hvl,e40]
 have evl:decide ((v.length:Int)<(w.length:Int))=false:=l0E hvl;simp only [F1,Bool.not_true,Bool.false_eq_true,if_false,e40,evl,e0V d hS hF];cases hr:U4 d
 ·simp [z7]
 have h:=o8 hS hr;have hmost:iter (b0Z Fb d) Fb (0,0)=some (O3 d.States):=by
  have hl:=i7 (body:=b0Z Fb d) d.States.length (fun i=>(O3 (d.States.take i),(i:Int))) (O3 d.States) (fun i hi=>by
   have hb:O3 (d.States.take (i+1))=(if (gt d.States (i:Int)).Regs>O3 (d.States.take i) then (gt d.States (i:Int)).Regs else O3 (d.States.take i)):=by
    have:d.States[i]?=some (gt d.States (i:Int)):=by rw [Y5 (x:=d.States[i]) (by simp [hi])];simp [hi]
    unfold O3;rw [List.take_succ,this,List.foldl_append];rfl
   unfold b0Z;simp only [dec_lt hi,if_true,Y3,hi,decide_true,hb];rw [R2 (by have:=hS.st;omega)]
   by_cases g:(gt d.States (i:Int)).Regs>O3 (d.States.take i)
   ·simp [g]
   ·simp [g]) (by unfold b0Z;simp) (fu:=Fb) (by have:=hS.st;unfold Fb;omega)
  have hl:iter (b0Z Fb d) Fb (O3 [],0)=some (O3 d.States):=hl;exact hl
 have hm0:=(f0p d.States 0).1;have hm1:O3 d.States<=400:=o0S d.States 0 (by omega) hS.rg;have hm0:0<=O3 d.States:=hm0;simp only [hmost,j0x hS hF,hr,if_true,F1,Bool.not_true,Bool.false_eq_true,if_false,bne_self_eq_false];have hl:=i7 (body:=c0u Fb d w v (O3 d.States)) w.length (fun i=>((i:Int),G1 d w i,G1 d w i)) (.inr ()) (fun i hi=>by
  have hc:=T6 h hw i (by omega);have hc1:=T6 h hw (i+1) (by omega);have hbw:=hw _ (K4 hi);have hbv:=hv _ (K4 (show i<v.length by omega));have cw:y0 d.Class (gt w (i:Int))=true:=B4 hbw.1 (by rw [h.cl];exact hbw.2);have cv:y0 d.Class (gt v (i:Int))=true:=B4 hbv.1 (by rw [h.cl];exact hbv.2);have hwk:=m0I h hw (i+1) (by omega);have hfd:=f0a (F:=Fb) h hc (by omega) hbw hF;have hRg:a0g Fb (G1 d w (i+1))=some (G1 d w (i+1)).regs:=by unfold a0g;rw [d0c _ (by have:=hc1.rl;omega)];rfl
  have hSt:b0N Fb (G1 d w (i+1))=some (G1 d w (i+1)).state:=rfl;have hWk:I9 Fb (G1 d w (i+1))=some (G1 d w (i+1)).work:=rfl;have hrs:=b0L d w hi;rw [<-hrs] at hfd;have w1:W ((i:Int)+1)=((i+1:Nat):Int):=R2 (by omega);have w2:W (O3 d.States+1)=O3 d.States+1:=Q6 (by omega) (by omega);have hb40:((i+1:Nat):Int)*(O3 d.States+1)<=40*401:=by
   apply Int.mul_le_mul<;>omega
  have w3:W (((i+1:Nat):Int)*(O3 d.States+1))=((i+1:Nat):Int)*(O3 d.States+1):=Q6 (Int.mul_nonneg (by omega) (by omega)) (by omega);have x1:decide ((G1 d w (i+1)).work>((i+1:Nat):Int)*(O3 d.States+1))=false:=by simp;exact hwk.2
  have x2:decide ((G1 d w (i+1)).work<((i+1:Nat):Int))=false:=by simp;exact hwk.1
  have hil:y0 v (i:Int)=true:=B4 (by omega) (by omega);unfold c0u;simp only [dec_lt hi,if_true,Y3,hi,decide_true,cw,cv];have hb:∃ b,(if decide (i<v.length) then (if (gt d.Class (gt v (i:Int))==gt d.Class (gt w (i:Int))) then (if decide (i<v.length) then some (gt v (i:Int)) else none) else some (gt w (i:Int))) else none)=some b/\a0a Fb (G1 d w i) b=some (G1 d w (i+1)):=by
   have hiv:i<v.length:=by omega
   simp only [hiv,decide_true,if_true]
   by_cases hcc:gt d.Class (gt v (i:Int))=gt d.Class (gt w (i:Int))
   ·refine ⟨gt v (i:Int),by simp [hcc],?_⟩;rw [f0a (F:=Fb) h hc (by omega) hbv hF,hrs,w0w hcc]
   ·exact ⟨gt w (i:Int),by simp [hcc],hfd⟩
  obtain ⟨b,hb1,hb2⟩:=hb;simp only [hb1,F1,hfd,hb2,hSt,hRg,hWk,bne_self_eq_false,Bool.false_eq_true,if_false,o0T (F:=Fb) (x:=(G1 d w (i+1)).regs) (by have:=hc1.rl;omega) hF,Bool.not_true,w1,w2,w3,x1,x2]) (by
  unfold c0u;simp) (fu:=Fb) (by unfold Fb;omega)
 have hl:iter (c0u Fb d w v (O3 d.States)) Fb (0,J7 d,J7 d)=some (.inr ()):=hl;simp only [hl,F1,z7]
