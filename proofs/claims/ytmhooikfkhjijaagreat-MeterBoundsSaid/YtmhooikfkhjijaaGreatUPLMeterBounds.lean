/- What it may cost: of the models. Its conditions: none. -/
import Derived.Test.YtmhooikfkhjijaaGreatUG50
import Derived.Test.YtmhooikfkhjijaaGreatUG51
import Derived.Test.YtmhooikfkhjijaaGreatUDMeterBounds
set_option linter.all false
namespace Go.Proofs.YtmhooikfkhjijaaGreat
open Go.V Go.RowKit Old Go.X
theorem V0H:O0H:=by
 intro l p n hl0 hp0 hn0 hl;have hw:=K04 hl0;have hF:2000<Fb:=by unfold Fb;omega
 refine ⟨Fb,?_⟩;unfold L06;rw [Pr.i0w p hF];simp only [F1,Pr.or_some,L0N];cases hs:Pr.a0M p with
 |false=>simp only [Bool.not_false,Bool.or_true,if_true]
 |
  true=>
  by_cases h5:l.length<=500
  ·have e:decide ((l.length:Int)>500)=false:=by simp;omega
   have hd:=Pr.i0x hs;simp only [e,Bool.not_true,Bool.or_false,Bool.false_eq_true,if_false,H05 l n hw hl (by omega) hn0,K01 l n hw hl (by omega) hn0,L0H p hd n hF,N0l p hd n hF,F1,beq_self_eq_true,Bool.and_self,if_true]
  ·have e:decide ((l.length:Int)>500)=true:=by simp;omega
   simp only [e,Bool.true_or,if_true]
