/- SubsetTells, of the models. Its conditions: none. -/
import Derived.Test.YtihmgaccbcfgjaaGreatRG38
import Derived.Test.YtihmgaccbcfgjaaGreatRDSubsetTells
set_option linter.all false
namespace Go.Proofs.YtihmgaccbcfgjaaGreat
open Go.V Go.RowKit Go.X
theorem subsetTells:A0E:=by
 intro a b _ _;refine ⟨Fc,?_⟩;have hF:2000001<Fc:=by unfold Fc;omega
 unfold A0t;rw [i0w a (by omega),i0w b (by omega)];cases ha:a0M a
 ·simp [A0o]
 cases hb:a0M b
 ·simp [A0o]
 have hA:=i0x ha;obtain ⟨l,h1,h2,h3⟩:=B0q (F:=Fc) a hA (by omega);simp only [F1,Bool.not_true,Bool.false_eq_true,if_false,h1,h2,bne_self_eq_false];have hl:=k0S (body:=z04 Fc l l) l.length (.inr ()) (fun i hi=>by
  unfold z04;simp only [dec_lt hi,Y3,hi,decide_true,if_true,beq_self_eq_true,Bool.not_true,Bool.false_eq_true,if_false];rw [R2 (by omega)]) (by unfold z04;simp) (fu:=Fc) (by omega)
 simp only [hl,F1,q0R a hA (show 2000<Fc by omega),e0V a hA (show 2000<Fc by omega),beq_self_eq_true,if_true,B0D a b hA.bd hF,A04 a b hA.bd hF,A0o]
