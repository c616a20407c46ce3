/- P. Its conditions: none. -/
import Derived.Test.YtihmgaccbcfgjaaGreatTG34
import Derived.Test.YtihmgaccbcfgjaaGreatTG35
open List (forall_mem_cons)
set_option linter.all false
set_option maxRecDepth 100000
namespace Go.Proofs.YtihmgaccbcfgjaaGreat
open Go.V Go.RowKit Go.X
def q02 (F:Nat):U0 en (j0D F):=Rc.E0N F
def F02 (F:Nat):U0 en (p06 F):=k05 c0m (C:=t0u F) (j0h c0m (forall_mem_cons.2 ⟨q02 F,(forall_mem_cons.2 ⟨v0m F,(forall_mem_cons.2 ⟨w06 F,(forall_mem_cons.2 ⟨r0G F,(forall_mem_cons.2 ⟨C0n F,(fun _ h=>absurd h List.not_mem_nil)⟩)⟩)⟩)⟩)⟩)) fun x y h=>(H0o F x).trans h
def I0g (F:Nat):U0 en (t0s F):=k05 c0m (C:=u04 F) (j0h c0m (forall_mem_cons.2 ⟨F02 F,(forall_mem_cons.2 ⟨q02 F,(forall_mem_cons.2 ⟨I0V F,(forall_mem_cons.2 ⟨x0Q F,(forall_mem_cons.2 ⟨r0G F,(forall_mem_cons.2 ⟨A0H F,(fun _ h=>absurd h List.not_mem_nil)⟩)⟩)⟩)⟩)⟩)⟩)) fun x y h=>(F07 F x).trans h
