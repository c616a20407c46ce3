/- What it costs, by the program and by the document: of the models. Its conditions: none. -/
import Derived.Test.YtmhooikfkhjijaaGreatTG49
import Derived.Test.YtmhooikfkhjijaaGreatTDMeterTells
set_option linter.all false
namespace Go.Proofs.YtmhooikfkhjijaaGreat
open Go.V Go.RowKit Old Go.X
theorem V0s:N0V:=by
 intro l p w hl0 hp0 hw0 hl hwl;have hw:=K04 hl0;have hb:=f0v hw0;have hF:2000<Fb:=by unfold Fb;omega
 refine ⟨Fb,?_⟩;unfold J0W;rw [Pr.i0w p hF];simp only [F1,Pr.or_some,L0N];cases hs:Pr.a0M p with
 |false=>simp only [Bool.not_false,Bool.or_true,Bool.true_or,if_true]
 |
  true=>
  by_cases h5:l.length<=40
  ·have e:decide ((l.length:Int)>40)=false:=by simp;omega
   by_cases h6:w.length<=24
   ·have e6:decide ((w.length:Int)>24)=false:=by simp;omega
    have hd:=Pr.i0x hs;obtain ⟨X,c1,c2⟩:=Z0m hw hl (by omega) hb (by omega);simp only [e,e6,Bool.not_true,Bool.or_false,Bool.false_eq_true,if_false,c1,c2,M0P p hd hb (by omega) hF,R0G p hd hb (by omega) hF,F1,beq_self_eq_true,Bool.and_self,if_true]
   ·have e6:decide ((w.length:Int)>24)=true:=by simp;omega
    simp only [e6,Bool.or_true,if_true]
  ·have e:decide ((l.length:Int)>40)=true:=by simp;omega
   simp only [e,Bool.true_or,if_true]
