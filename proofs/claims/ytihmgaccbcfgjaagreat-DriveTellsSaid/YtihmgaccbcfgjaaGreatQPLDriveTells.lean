/- DriveTells, of the models. Its conditions: none. -/
import Derived.Test.YtihmgaccbcfgjaaGreatQG41
import Derived.Test.YtihmgaccbcfgjaaGreatQDDriveTells
set_option linter.all false
namespace Go.Proofs.YtihmgaccbcfgjaaGreat
open Go.V Go.RowKit Go.X
theorem driveTells:n0f:=by
 intro d w hd hw _;have hw:=f0v hw;refine ⟨Fb,?_⟩;have hF:2000<Fb:=by unfold Fb;omega
 unfold i0N;rw [i0w d hF];cases hs:a0M d
 ·simp [z7]
 have hS:=i0x hs
 by_cases h40:w.length<=40
 rotate_left
 ·have:decide ((w.length:Int)>40)=true:=by simp;omega
  simp [z7,this]
 have e40:decide ((w.length:Int)>40)=false:=by simp;omega
 simp only [F1,Bool.not_true,Bool.false_eq_true,if_false,e40,j0x hS hF,e0V d hS hF];cases hr:U4 d
 ·simp [z7]
 have h:=o8 hS hr;simp only [if_true,F1,n0b h hF,Bool.not_true,Bool.false_eq_true,if_false,bne_self_eq_false];have hl:=i7 (body:=d0n Fb w) (w.length+1) (fun i=>((i:Int),G1 d w i,T3 (G1 d w i))) (.inr ()) (fun i hi=>by
  have hc:=T6 h hw i (by omega);have hle:decide ((i:Int)<=(w.length:Int))=true:=by simp;omega
  unfold d0n;simp only [hle,if_true];rw [o0G hc.tl hF,g0V hc.tl hF];have hat:=hc.at_;have hcl:=hc.rl;have hA:e03 Fb (G1 d w i)=some (i:Int):=by unfold e03;rw [hat]
  have hSt:b0N Fb (G1 d w i)=some (G1 d w i).state:=rfl;have hRg:a0g Fb (G1 d w i)=some (G1 d w i).regs:=by unfold a0g;rw [d0c _ (by omega)];rfl
  have hWk:I9 Fb (G1 d w i)=some (G1 d w i).work:=rfl;have d1:(T3 (G1 d w i)).State=(G1 d w i).state:=rfl;have d2:(T3 (G1 d w i)).Regs=(G1 d w i).regs:=rfl;have d3:(T3 (G1 d w i)).Work=(G1 d w i).work:=rfl;simp only [F1,hA,hSt,hRg,hWk,d1,d2,d3,bne_self_eq_false,Bool.false_eq_true,if_false,o0T (F:=Fb) (x:=(G1 d w i).regs) (by omega) hF,Bool.not_true,i00 (t0D hc.tl) hF,beq_self_eq_true]
  by_cases hlt:i<w.length
  ·have hfd:=f0a (F:=Fb) h hc (by omega) (hw _ (K4 hlt)) hF;have hfr:=k0G (F:=Fb) h hc (by omega) (hw _ (K4 hlt)) hF;simp only [dec_lt hlt,if_true,Y3,hlt,decide_true,hfd,hfr,F1,R2 (show i<9223372036854775807 by omega),b0L d w hlt]
  ·obtain rfl:i=w.length:=by omega
   simp only [l0E hlt,Bool.false_eq_true,if_false,F1,R2 (show w.length<9223372036854775807 by omega),t0A]) (by
  have hle:decide (((w.length+1:Nat):Int)<=(w.length:Int))=false:=by simp;omega
  unfold d0n;simp only [hle,Bool.false_eq_true,if_false]) (fu:=Fb) (by unfold Fb;omega)
 have hl:iter (d0n Fb w) Fb (0,J7 d,T3 (J7 d))=some (.inr ()):=hl;simp only [hl,F1,z7]
