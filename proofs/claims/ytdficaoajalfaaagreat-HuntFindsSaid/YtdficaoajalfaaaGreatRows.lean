/-
  No cell of these rows narrows 'for every input' (looked for: loops, veiled, ifaces, maps, wideKeys, modest, calm, conditions, laid).
  DERIVED. THE GIVEN ROWS OF THIS SEAT. 10 by the template 'for every input the law returns true; each argument reads behind the call as it read before'; 0 by the template 'total and deterministic' (their statements: YtdficaoajalfaaaGreatTotals.lean).
  GIVEN WITH THE SEED: the statements are not yours to turn. If you find one false, say at which input.
  Laid BY PROGRAM, IN A SANDBOX (cutbox-rows.mjs): the forced cells as the released guide's own fill.sh prints them over the translation dcf50423016aff34… (all of the seat's roots in one cut). By AI agents, Wed Nov 11 2026. No macro, syntax, notation, axiom, sorry.
-/
import Derived.Test.YtdficaoajalfaaaGreatChecked
import GoSem.Claim
import GoSem.ClaimJoined
import GoSem.ClaimMapViews
import Derived.JoinedTies
import Derived.KernelRfl
namespace Go.Proofs.YtdficaoajalfaaaGreat
/- THE CELL 'sum', in the pinned program and in every row, IS THE sha256 OF THE DUMP (.gsa) THAT YtdficaoajalfaaaGreatProg.lean LOADS. Nothing in Lean hashes anything: it is a label: what it is worth is what the hold of that sum in a sandbox is worth. -/
noncomputable def Tryz.pinned : Pinned := { name := "ytdficaoajalfaaagreat", sum := "dcf50423016aff34e24e26080540b10a81917bb239da4b946562b1d5149cff07", checked := Tryz.checked }
namespace Rows
def none {H : Type} : Left H := { results := [], args := [] }

/-- 'gimletlaw21.PikeMatches': WHATEVER THE INPUT: true; the input reads as it did. -/
def pikeMatchesSpec : ChangeSpec := { name := "pikeMatches", fn := fun _ => fun
  | [d1, d2] => { results := [.lit (.bool true)], args := [d1, d2] }
  | _ => none }
def pikeMatchesRow : OpenClaim := { program := "ytdficaoajalfaaagreat", sum := "dcf50423016aff34e24e26080540b10a81917bb239da4b946562b1d5149cff07", func := "gimlet/gimletlaw21.PikeMatches", spec := "pikeMatches", unfollowed := true, recurses := true, apart := false }
def PikeMatchesSaid : Prop := pikeMatchesRow.holds Tryz.pinned (OpenSpec.ofChange pikeMatchesSpec)

/-- ITS FALSE NEIGHBOUR: 'it returns false'. Refute it at one input. -/
def pikeMatchesWrong : ChangeSpec := { name := "pikeMatches", fn := fun _ => fun
  | [d1, d2] => { results := [.lit (.bool false)], args := [d1, d2] }
  | _ => none }
def PikeMatchesWrongFalsely : Prop := pikeMatchesRow.holds Tryz.pinned (OpenSpec.ofChange pikeMatchesWrong)

/-- 'gimletlaw21.PikeMeans': WHATEVER THE INPUT: true; the input reads as it did. -/
def pikeMeansSpec : ChangeSpec := { name := "pikeMeans", fn := fun _ => fun
  | [d1, d2] => { results := [.lit (.bool true)], args := [d1, d2] }
  | _ => none }
def pikeMeansRow : OpenClaim := { program := "ytdficaoajalfaaagreat", sum := "dcf50423016aff34e24e26080540b10a81917bb239da4b946562b1d5149cff07", func := "gimlet/gimletlaw21.PikeMeans", spec := "pikeMeans", unfollowed := true, recurses := true, apart := false }
def PikeMeansSaid : Prop := pikeMeansRow.holds Tryz.pinned (OpenSpec.ofChange pikeMeansSpec)

/-- ITS FALSE NEIGHBOUR: 'it returns false'. Refute it at one input. -/
def pikeMeansWrong : ChangeSpec := { name := "pikeMeans", fn := fun _ => fun
  | [d1, d2] => { results := [.lit (.bool false)], args := [d1, d2] }
  | _ => none }
def PikeMeansWrongFalsely : Prop := pikeMeansRow.holds Tryz.pinned (OpenSpec.ofChange pikeMeansWrong)

/-- 'gimletlaw21.PikeFirst': WHATEVER THE INPUT: true; the input reads as it did. -/
def pikeFirstSpec : ChangeSpec := { name := "pikeFirst", fn := fun _ => fun
  | [d1, d2, d3] => { results := [.lit (.bool true)], args := [d1, d2, d3] }
  | _ => none }
def pikeFirstRow : OpenClaim := { program := "ytdficaoajalfaaagreat", sum := "dcf50423016aff34e24e26080540b10a81917bb239da4b946562b1d5149cff07", func := "gimlet/gimletlaw21.PikeFirst", spec := "pikeFirst", unfollowed := true, recurses := true, apart := false }
def PikeFirstSaid : Prop := pikeFirstRow.holds Tryz.pinned (OpenSpec.ofChange pikeFirstSpec)

/-- ITS FALSE NEIGHBOUR: 'it returns false'. Refute it at one input. -/
def pikeFirstWrong : ChangeSpec := { name := "pikeFirst", fn := fun _ => fun
  | [d1, d2, d3] => { results := [.lit (.bool false)], args := [d1, d2, d3] }
  | _ => none }
def PikeFirstWrongFalsely : Prop := pikeFirstRow.holds Tryz.pinned (OpenSpec.ofChange pikeFirstWrong)

/-- 'gimletlaw21.PikeCrowd': WHATEVER THE INPUT: true; the input reads as it did. -/
def pikeCrowdSpec : ChangeSpec := { name := "pikeCrowd", fn := fun _ => fun
  | [d1, d2] => { results := [.lit (.bool true)], args := [d1, d2] }
  | _ => none }
def pikeCrowdRow : OpenClaim := { program := "ytdficaoajalfaaagreat", sum := "dcf50423016aff34e24e26080540b10a81917bb239da4b946562b1d5149cff07", func := "gimlet/gimletlaw21.PikeCrowd", spec := "pikeCrowd", unfollowed := true, recurses := true, apart := false }
def PikeCrowdSaid : Prop := pikeCrowdRow.holds Tryz.pinned (OpenSpec.ofChange pikeCrowdSpec)

/-- ITS FALSE NEIGHBOUR: 'it returns false'. Refute it at one input. -/
def pikeCrowdWrong : ChangeSpec := { name := "pikeCrowd", fn := fun _ => fun
  | [d1, d2] => { results := [.lit (.bool false)], args := [d1, d2] }
  | _ => none }
def PikeCrowdWrongFalsely : Prop := pikeCrowdRow.holds Tryz.pinned (OpenSpec.ofChange pikeCrowdWrong)

/-- 'gimletlaw21.PikeTells': WHATEVER THE INPUT: true; the input reads as it did. -/
def pikeTellsSpec : ChangeSpec := { name := "pikeTells", fn := fun _ => fun
  | [d1, d2] => { results := [.lit (.bool true)], args := [d1, d2] }
  | _ => none }
def pikeTellsRow : OpenClaim := { program := "ytdficaoajalfaaagreat", sum := "dcf50423016aff34e24e26080540b10a81917bb239da4b946562b1d5149cff07", func := "gimlet/gimletlaw21.PikeTells", spec := "pikeTells", unfollowed := true, recurses := true, apart := false }
def PikeTellsSaid : Prop := pikeTellsRow.holds Tryz.pinned (OpenSpec.ofChange pikeTellsSpec)

/-- ITS FALSE NEIGHBOUR: 'it returns false'. Refute it at one input. -/
def pikeTellsWrong : ChangeSpec := { name := "pikeTells", fn := fun _ => fun
  | [d1, d2] => { results := [.lit (.bool false)], args := [d1, d2] }
  | _ => none }
def PikeTellsWrongFalsely : Prop := pikeTellsRow.holds Tryz.pinned (OpenSpec.ofChange pikeTellsWrong)

/-- 'gimletlaw22.HuntFinds': WHATEVER THE INPUT: true; the input reads as it did. -/
def huntFindsSpec : ChangeSpec := { name := "huntFinds", fn := fun _ => fun
  | [d1, d2] => { results := [.lit (.bool true)], args := [d1, d2] }
  | _ => none }
def huntFindsRow : OpenClaim := { program := "ytdficaoajalfaaagreat", sum := "dcf50423016aff34e24e26080540b10a81917bb239da4b946562b1d5149cff07", func := "gimlet/gimletlaw22.HuntFinds", spec := "huntFinds", unfollowed := true, recurses := true, apart := false }
def HuntFindsSaid : Prop := huntFindsRow.holds Tryz.pinned (OpenSpec.ofChange huntFindsSpec)

/-- ITS FALSE NEIGHBOUR: 'it returns false'. Refute it at one input. -/
def huntFindsWrong : ChangeSpec := { name := "huntFinds", fn := fun _ => fun
  | [d1, d2] => { results := [.lit (.bool false)], args := [d1, d2] }
  | _ => none }
def HuntFindsWrongFalsely : Prop := huntFindsRow.holds Tryz.pinned (OpenSpec.ofChange huntFindsWrong)

/-- 'gimletlaw22.HuntOver': WHATEVER THE INPUT: true; the input reads as it did. -/
def huntOverSpec : ChangeSpec := { name := "huntOver", fn := fun _ => fun
  | [d1, d2, d3] => { results := [.lit (.bool true)], args := [d1, d2, d3] }
  | _ => none }
def huntOverRow : OpenClaim := { program := "ytdficaoajalfaaagreat", sum := "dcf50423016aff34e24e26080540b10a81917bb239da4b946562b1d5149cff07", func := "gimlet/gimletlaw22.HuntOver", spec := "huntOver", unfollowed := true, recurses := true, apart := false }
def HuntOverSaid : Prop := huntOverRow.holds Tryz.pinned (OpenSpec.ofChange huntOverSpec)

/-- ITS FALSE NEIGHBOUR: 'it returns false'. Refute it at one input. -/
def huntOverWrong : ChangeSpec := { name := "huntOver", fn := fun _ => fun
  | [d1, d2, d3] => { results := [.lit (.bool false)], args := [d1, d2, d3] }
  | _ => none }
def HuntOverWrongFalsely : Prop := huntOverRow.holds Tryz.pinned (OpenSpec.ofChange huntOverWrong)

/-- 'gimletlaw22.HuntTells': WHATEVER THE INPUT: true; the input reads as it did. -/
def huntTellsSpec : ChangeSpec := { name := "huntTells", fn := fun _ => fun
  | [d1, d2] => { results := [.lit (.bool true)], args := [d1, d2] }
  | _ => none }
def huntTellsRow : OpenClaim := { program := "ytdficaoajalfaaagreat", sum := "dcf50423016aff34e24e26080540b10a81917bb239da4b946562b1d5149cff07", func := "gimlet/gimletlaw22.HuntTells", spec := "huntTells", unfollowed := true, recurses := true, apart := false }
def HuntTellsSaid : Prop := huntTellsRow.holds Tryz.pinned (OpenSpec.ofChange huntTellsSpec)

/-- ITS FALSE NEIGHBOUR: 'it returns false'. Refute it at one input. -/
def huntTellsWrong : ChangeSpec := { name := "huntTells", fn := fun _ => fun
  | [d1, d2] => { results := [.lit (.bool false)], args := [d1, d2] }
  | _ => none }
def HuntTellsWrongFalsely : Prop := huntTellsRow.holds Tryz.pinned (OpenSpec.ofChange huntTellsWrong)

/-- 'gimletlaw23.KernelHunts': WHATEVER THE INPUT: true; the input reads as it did. -/
def kernelHuntsSpec : ChangeSpec := { name := "kernelHunts", fn := fun _ => fun
  | [d1, d2] => { results := [.lit (.bool true)], args := [d1, d2] }
  | _ => none }
def kernelHuntsRow : OpenClaim := { program := "ytdficaoajalfaaagreat", sum := "dcf50423016aff34e24e26080540b10a81917bb239da4b946562b1d5149cff07", func := "gimlet/gimletlaw23.KernelHunts", spec := "kernelHunts", unfollowed := true, recurses := true, apart := false }
def KernelHuntsSaid : Prop := kernelHuntsRow.holds Tryz.pinned (OpenSpec.ofChange kernelHuntsSpec)

/-- ITS FALSE NEIGHBOUR: 'it returns false'. Refute it at one input. -/
def kernelHuntsWrong : ChangeSpec := { name := "kernelHunts", fn := fun _ => fun
  | [d1, d2] => { results := [.lit (.bool false)], args := [d1, d2] }
  | _ => none }
def KernelHuntsWrongFalsely : Prop := kernelHuntsRow.holds Tryz.pinned (OpenSpec.ofChange kernelHuntsWrong)

/-- 'gimletlaw23.KernelKeeps': WHATEVER THE INPUT: true; the input reads as it did. -/
def kernelKeepsSpec : ChangeSpec := { name := "kernelKeeps", fn := fun _ => fun
  | [d1, d2, d3] => { results := [.lit (.bool true)], args := [d1, d2, d3] }
  | _ => none }
def kernelKeepsRow : OpenClaim := { program := "ytdficaoajalfaaagreat", sum := "dcf50423016aff34e24e26080540b10a81917bb239da4b946562b1d5149cff07", func := "gimlet/gimletlaw23.KernelKeeps", spec := "kernelKeeps", unfollowed := true, recurses := true, apart := false }
def KernelKeepsSaid : Prop := kernelKeepsRow.holds Tryz.pinned (OpenSpec.ofChange kernelKeepsSpec)

/-- ITS FALSE NEIGHBOUR: 'it returns false'. Refute it at one input. -/
def kernelKeepsWrong : ChangeSpec := { name := "kernelKeeps", fn := fun _ => fun
  | [d1, d2, d3] => { results := [.lit (.bool false)], args := [d1, d2, d3] }
  | _ => none }
def KernelKeepsWrongFalsely : Prop := kernelKeepsRow.holds Tryz.pinned (OpenSpec.ofChange kernelKeepsWrong)

/- THE SECOND FORM. 'bulk': how many values and letters a reading holds, each counted each time it is reached (what is shared counts as often as it is met; a slice's spare places count too). A statement '..UptoSaid' is the law's where the arguments, and the package variables that the reading takes, are together of bulk at most 1048576: NARROWER than '..Said'. Prove '..Said' where nothing that the law and all that it calls make is longer than what came in: it says more and counts as full. Else prove '..UptoSaid'. A law counts once. -/
mutual
def uptoBulk {H : Type} : DataW H → Nat
  | .lit (.string bytes) => bytes.length + 1
  | .lit _ => 1
  | .nil => 1
  | .ptr d => uptoBulk d + 1
  | .slice elems spare => uptoBulkAll elems + uptoBulkAll spare + 1
  | .agg parts => uptoBulkAll parts + 1
  | .iface _ d => uptoBulk d + 1
  | .map entries => uptoBulkEntries entries + 1
  | .held _ => 1
def uptoBulkAll {H : Type} : List (DataW H) → Nat
  | [] => 0
  | d :: r => uptoBulk d + uptoBulkAll r
def uptoBulkEntries {H : Type} : List (Lit × DataW H) → Nat
  | [] => 0
  | x :: r => uptoBulkEntry x + uptoBulkEntries r
def uptoBulkEntry {H : Type} : Lit × DataW H → Nat
  | (.string bytes, d) => bytes.length + uptoBulk d + 1
  | (_, d) => uptoBulk d + 1
 end
def uptoSmall : (H : Type) → List (DataW H) → Bool := fun _ ds => decide (uptoBulkAll ds ≤ 1048576)
def OpenSpec.upto (s : _root_.Go.ChangeSpec) : _root_.Go.OpenSpec := { _root_.Go.OpenSpec.ofChange s with cond := some uptoSmall }

/-- 'gimletlaw21.PikeMatches', WHERE WHAT IT READS IS OF BULK AT MOST 1048576: true; the input reads as it did. -/
def pikeMatchesUptoRow : OpenClaim := { program := "ytdficaoajalfaaagreat", sum := "dcf50423016aff34e24e26080540b10a81917bb239da4b946562b1d5149cff07", func := "gimlet/gimletlaw21.PikeMatches", spec := "pikeMatches", unfollowed := true, recurses := true, apart := false, narrowed := true }
def PikeMatchesUptoSaid : Prop := pikeMatchesUptoRow.holds Tryz.pinned (OpenSpec.upto pikeMatchesSpec)

/-- 'gimletlaw21.PikeMeans', WHERE WHAT IT READS IS OF BULK AT MOST 1048576: true; the input reads as it did. -/
def pikeMeansUptoRow : OpenClaim := { program := "ytdficaoajalfaaagreat", sum := "dcf50423016aff34e24e26080540b10a81917bb239da4b946562b1d5149cff07", func := "gimlet/gimletlaw21.PikeMeans", spec := "pikeMeans", unfollowed := true, recurses := true, apart := false, narrowed := true }
def PikeMeansUptoSaid : Prop := pikeMeansUptoRow.holds Tryz.pinned (OpenSpec.upto pikeMeansSpec)

/-- 'gimletlaw21.PikeFirst', WHERE WHAT IT READS IS OF BULK AT MOST 1048576: true; the input reads as it did. -/
def pikeFirstUptoRow : OpenClaim := { program := "ytdficaoajalfaaagreat", sum := "dcf50423016aff34e24e26080540b10a81917bb239da4b946562b1d5149cff07", func := "gimlet/gimletlaw21.PikeFirst", spec := "pikeFirst", unfollowed := true, recurses := true, apart := false, narrowed := true }
def PikeFirstUptoSaid : Prop := pikeFirstUptoRow.holds Tryz.pinned (OpenSpec.upto pikeFirstSpec)

/-- 'gimletlaw21.PikeCrowd', WHERE WHAT IT READS IS OF BULK AT MOST 1048576: true; the input reads as it did. -/
def pikeCrowdUptoRow : OpenClaim := { program := "ytdficaoajalfaaagreat", sum := "dcf50423016aff34e24e26080540b10a81917bb239da4b946562b1d5149cff07", func := "gimlet/gimletlaw21.PikeCrowd", spec := "pikeCrowd", unfollowed := true, recurses := true, apart := false, narrowed := true }
def PikeCrowdUptoSaid : Prop := pikeCrowdUptoRow.holds Tryz.pinned (OpenSpec.upto pikeCrowdSpec)

/-- 'gimletlaw21.PikeTells', WHERE WHAT IT READS IS OF BULK AT MOST 1048576: true; the input reads as it did. -/
def pikeTellsUptoRow : OpenClaim := { program := "ytdficaoajalfaaagreat", sum := "dcf50423016aff34e24e26080540b10a81917bb239da4b946562b1d5149cff07", func := "gimlet/gimletlaw21.PikeTells", spec := "pikeTells", unfollowed := true, recurses := true, apart := false, narrowed := true }
def PikeTellsUptoSaid : Prop := pikeTellsUptoRow.holds Tryz.pinned (OpenSpec.upto pikeTellsSpec)

/-- 'gimletlaw22.HuntFinds', WHERE WHAT IT READS IS OF BULK AT MOST 1048576: true; the input reads as it did. -/
def huntFindsUptoRow : OpenClaim := { program := "ytdficaoajalfaaagreat", sum := "dcf50423016aff34e24e26080540b10a81917bb239da4b946562b1d5149cff07", func := "gimlet/gimletlaw22.HuntFinds", spec := "huntFinds", unfollowed := true, recurses := true, apart := false, narrowed := true }
def HuntFindsUptoSaid : Prop := huntFindsUptoRow.holds Tryz.pinned (OpenSpec.upto huntFindsSpec)

/-- 'gimletlaw22.HuntOver', WHERE WHAT IT READS IS OF BULK AT MOST 1048576: true; the input reads as it did. -/
def huntOverUptoRow : OpenClaim := { program := "ytdficaoajalfaaagreat", sum := "dcf50423016aff34e24e26080540b10a81917bb239da4b946562b1d5149cff07", func := "gimlet/gimletlaw22.HuntOver", spec := "huntOver", unfollowed := true, recurses := true, apart := false, narrowed := true }
def HuntOverUptoSaid : Prop := huntOverUptoRow.holds Tryz.pinned (OpenSpec.upto huntOverSpec)

/-- 'gimletlaw22.HuntTells', WHERE WHAT IT READS IS OF BULK AT MOST 1048576: true; the input reads as it did. -/
def huntTellsUptoRow : OpenClaim := { program := "ytdficaoajalfaaagreat", sum := "dcf50423016aff34e24e26080540b10a81917bb239da4b946562b1d5149cff07", func := "gimlet/gimletlaw22.HuntTells", spec := "huntTells", unfollowed := true, recurses := true, apart := false, narrowed := true }
def HuntTellsUptoSaid : Prop := huntTellsUptoRow.holds Tryz.pinned (OpenSpec.upto huntTellsSpec)

/-- 'gimletlaw23.KernelHunts', WHERE WHAT IT READS IS OF BULK AT MOST 1048576: true; the input reads as it did. -/
def kernelHuntsUptoRow : OpenClaim := { program := "ytdficaoajalfaaagreat", sum := "dcf50423016aff34e24e26080540b10a81917bb239da4b946562b1d5149cff07", func := "gimlet/gimletlaw23.KernelHunts", spec := "kernelHunts", unfollowed := true, recurses := true, apart := false, narrowed := true }
def KernelHuntsUptoSaid : Prop := kernelHuntsUptoRow.holds Tryz.pinned (OpenSpec.upto kernelHuntsSpec)

/-- 'gimletlaw23.KernelKeeps', WHERE WHAT IT READS IS OF BULK AT MOST 1048576: true; the input reads as it did. -/
def kernelKeepsUptoRow : OpenClaim := { program := "ytdficaoajalfaaagreat", sum := "dcf50423016aff34e24e26080540b10a81917bb239da4b946562b1d5149cff07", func := "gimlet/gimletlaw23.KernelKeeps", spec := "kernelKeeps", unfollowed := true, recurses := true, apart := false, narrowed := true }
def KernelKeepsUptoSaid : Prop := kernelKeepsUptoRow.holds Tryz.pinned (OpenSpec.upto kernelKeepsSpec)

end Rows
end Go.Proofs.YtdficaoajalfaaaGreat
