/-
  No cell of these rows narrows 'for every input' (looked for: loops, veiled, ifaces, maps, wideKeys, modest, calm, conditions, laid).
  DERIVED. THE GIVEN ROWS OF THIS SEAT. 8 by the template 'for every input the law returns true; each argument reads behind the call as it read before'; 0 by the template 'total and deterministic' (their statements: YtihmgaccbcfgjaaGreatTotals.lean).
  GIVEN WITH THE SEED: the statements are not yours to turn. If you find one false, say at which input.
  Laid BY PROGRAM, IN A SANDBOX (cutbox-rows.mjs): the forced cells as the released guide's own fill.sh prints them over the translation 075b577d08603527… (all of the seat's roots in one cut). By AI agents, Wed Nov 11 2026. No macro, syntax, notation, axiom, sorry.
-/
import Derived.Test.YtihmgaccbcfgjaaGreatChecked
import GoSem.Claim
import GoSem.ClaimJoined
import GoSem.ClaimMapViews
import Derived.JoinedTies
import Derived.KernelRfl
namespace Go.Proofs.YtihmgaccbcfgjaaGreat
/- THE CELL 'sum', in the pinned program and in every row, IS THE sha256 OF THE DUMP (.gsa) THAT YtihmgaccbcfgjaaGreatProg.lean LOADS. Nothing in Lean hashes anything: it is a label: what it is worth is what the hold of that sum in a sandbox is worth. -/
noncomputable def Tryz.pinned : Pinned := { name := "ytihmgaccbcfgjaagreat", sum := "075b577d0860352747c9941f18617404aa6c97115fc49eea68eb6c4dcd7aafe9", checked := Tryz.checked }
namespace Rows
def none {H : Type} : Left H := { results := [], args := [] }

/-- 'gimletlaw24.SubsetTells': WHATEVER THE INPUT: true; the input reads as it did. -/
def subsetTellsSpec : ChangeSpec := { name := "subsetTells", fn := fun _ => fun
  | [d1, d2] => { results := [.lit (.bool true)], args := [d1, d2] }
  | _ => none }
def subsetTellsRow : OpenClaim := { program := "ytihmgaccbcfgjaagreat", sum := "075b577d0860352747c9941f18617404aa6c97115fc49eea68eb6c4dcd7aafe9", func := "gimlet/gimletlaw24.SubsetTells", spec := "subsetTells", inPlace := ["internal/abi.NoEscape"], unfollowed := true, recurses := true, apart := false }
def SubsetTellsSaid : Prop := subsetTellsRow.holds Tryz.pinned (OpenSpec.ofChange subsetTellsSpec)

/-- ITS FALSE NEIGHBOUR: 'it returns false'. Refute it at one input. -/
def subsetTellsWrong : ChangeSpec := { name := "subsetTells", fn := fun _ => fun
  | [d1, d2] => { results := [.lit (.bool false)], args := [d1, d2] }
  | _ => none }
def SubsetTellsWrongFalsely : Prop := subsetTellsRow.holds Tryz.pinned (OpenSpec.ofChange subsetTellsWrong)

/-- 'gimletlaw24.SubsetBuilds': WHATEVER THE INPUT: true; the input reads as it did. -/
def subsetBuildsSpec : ChangeSpec := { name := "subsetBuilds", fn := fun _ => fun
  | [d1, d2] => { results := [.lit (.bool true)], args := [d1, d2] }
  | _ => none }
def subsetBuildsRow : OpenClaim := { program := "ytihmgaccbcfgjaagreat", sum := "075b577d0860352747c9941f18617404aa6c97115fc49eea68eb6c4dcd7aafe9", func := "gimlet/gimletlaw24.SubsetBuilds", spec := "subsetBuilds", inPlace := ["internal/abi.NoEscape"], unfollowed := true, recurses := true, apart := false }
def SubsetBuildsSaid : Prop := subsetBuildsRow.holds Tryz.pinned (OpenSpec.ofChange subsetBuildsSpec)

/-- ITS FALSE NEIGHBOUR: 'it returns false'. Refute it at one input. -/
def subsetBuildsWrong : ChangeSpec := { name := "subsetBuilds", fn := fun _ => fun
  | [d1, d2] => { results := [.lit (.bool false)], args := [d1, d2] }
  | _ => none }
def SubsetBuildsWrongFalsely : Prop := subsetBuildsRow.holds Tryz.pinned (OpenSpec.ofChange subsetBuildsWrong)

/-- 'gimletlaw24.SubsetBudget': WHATEVER THE INPUT: true; the input reads as it did. -/
def subsetBudgetSpec : ChangeSpec := { name := "subsetBudget", fn := fun _ => fun
  | [d1, d2, d3] => { results := [.lit (.bool true)], args := [d1, d2, d3] }
  | _ => none }
def subsetBudgetRow : OpenClaim := { program := "ytihmgaccbcfgjaagreat", sum := "075b577d0860352747c9941f18617404aa6c97115fc49eea68eb6c4dcd7aafe9", func := "gimlet/gimletlaw24.SubsetBudget", spec := "subsetBudget", inPlace := ["internal/abi.NoEscape"], unfollowed := true, recurses := true, apart := false }
def SubsetBudgetSaid : Prop := subsetBudgetRow.holds Tryz.pinned (OpenSpec.ofChange subsetBudgetSpec)

/-- ITS FALSE NEIGHBOUR: 'it returns false'. Refute it at one input. -/
def subsetBudgetWrong : ChangeSpec := { name := "subsetBudget", fn := fun _ => fun
  | [d1, d2, d3] => { results := [.lit (.bool false)], args := [d1, d2, d3] }
  | _ => none }
def SubsetBudgetWrongFalsely : Prop := subsetBudgetRow.holds Tryz.pinned (OpenSpec.ofChange subsetBudgetWrong)

/-- 'gimletlaw24.SubsetSteps': WHATEVER THE INPUT: true; the input reads as it did. -/
def subsetStepsSpec : ChangeSpec := { name := "subsetSteps", fn := fun _ => fun
  | [d1, d2, d3] => { results := [.lit (.bool true)], args := [d1, d2, d3] }
  | _ => none }
def subsetStepsRow : OpenClaim := { program := "ytihmgaccbcfgjaagreat", sum := "075b577d0860352747c9941f18617404aa6c97115fc49eea68eb6c4dcd7aafe9", func := "gimlet/gimletlaw24.SubsetSteps", spec := "subsetSteps", inPlace := ["internal/abi.NoEscape"], unfollowed := true, recurses := true, apart := false }
def SubsetStepsSaid : Prop := subsetStepsRow.holds Tryz.pinned (OpenSpec.ofChange subsetStepsSpec)

/-- ITS FALSE NEIGHBOUR: 'it returns false'. Refute it at one input. -/
def subsetStepsWrong : ChangeSpec := { name := "subsetSteps", fn := fun _ => fun
  | [d1, d2, d3] => { results := [.lit (.bool false)], args := [d1, d2, d3] }
  | _ => none }
def SubsetStepsWrongFalsely : Prop := subsetStepsRow.holds Tryz.pinned (OpenSpec.ofChange subsetStepsWrong)

/-- 'gimletlaw25.DriveAnswers': WHATEVER THE INPUT: true; the input reads as it did. -/
def driveAnswersSpec : ChangeSpec := { name := "driveAnswers", fn := fun _ => fun
  | [d1, d2] => { results := [.lit (.bool true)], args := [d1, d2] }
  | _ => none }
def driveAnswersRow : OpenClaim := { program := "ytihmgaccbcfgjaagreat", sum := "075b577d0860352747c9941f18617404aa6c97115fc49eea68eb6c4dcd7aafe9", func := "gimlet/gimletlaw25.DriveAnswers", spec := "driveAnswers", inPlace := ["internal/abi.NoEscape"], unfollowed := true, recurses := true, apart := false }
def DriveAnswersSaid : Prop := driveAnswersRow.holds Tryz.pinned (OpenSpec.ofChange driveAnswersSpec)

/-- ITS FALSE NEIGHBOUR: 'it returns false'. Refute it at one input. -/
def driveAnswersWrong : ChangeSpec := { name := "driveAnswers", fn := fun _ => fun
  | [d1, d2] => { results := [.lit (.bool false)], args := [d1, d2] }
  | _ => none }
def DriveAnswersWrongFalsely : Prop := driveAnswersRow.holds Tryz.pinned (OpenSpec.ofChange driveAnswersWrong)

/-- 'gimletlaw25.DriveMeans': WHATEVER THE INPUT: true; the input reads as it did. -/
def driveMeansSpec : ChangeSpec := { name := "driveMeans", fn := fun _ => fun
  | [d1, d2] => { results := [.lit (.bool true)], args := [d1, d2] }
  | _ => none }
def driveMeansRow : OpenClaim := { program := "ytihmgaccbcfgjaagreat", sum := "075b577d0860352747c9941f18617404aa6c97115fc49eea68eb6c4dcd7aafe9", func := "gimlet/gimletlaw25.DriveMeans", spec := "driveMeans", inPlace := ["internal/abi.NoEscape"], unfollowed := true, recurses := true, apart := false }
def DriveMeansSaid : Prop := driveMeansRow.holds Tryz.pinned (OpenSpec.ofChange driveMeansSpec)

/-- ITS FALSE NEIGHBOUR: 'it returns false'. Refute it at one input. -/
def driveMeansWrong : ChangeSpec := { name := "driveMeans", fn := fun _ => fun
  | [d1, d2] => { results := [.lit (.bool false)], args := [d1, d2] }
  | _ => none }
def DriveMeansWrongFalsely : Prop := driveMeansRow.holds Tryz.pinned (OpenSpec.ofChange driveMeansWrong)

/-- 'gimletlaw25.DriveWork': WHATEVER THE INPUT: true; the input reads as it did. -/
def driveWorkSpec : ChangeSpec := { name := "driveWork", fn := fun _ => fun
  | [d1, d2, d3] => { results := [.lit (.bool true)], args := [d1, d2, d3] }
  | _ => none }
def driveWorkRow : OpenClaim := { program := "ytihmgaccbcfgjaagreat", sum := "075b577d0860352747c9941f18617404aa6c97115fc49eea68eb6c4dcd7aafe9", func := "gimlet/gimletlaw25.DriveWork", spec := "driveWork", inPlace := ["internal/abi.NoEscape"], unfollowed := true, recurses := true, apart := false }
def DriveWorkSaid : Prop := driveWorkRow.holds Tryz.pinned (OpenSpec.ofChange driveWorkSpec)

/-- ITS FALSE NEIGHBOUR: 'it returns false'. Refute it at one input. -/
def driveWorkWrong : ChangeSpec := { name := "driveWork", fn := fun _ => fun
  | [d1, d2, d3] => { results := [.lit (.bool false)], args := [d1, d2, d3] }
  | _ => none }
def DriveWorkWrongFalsely : Prop := driveWorkRow.holds Tryz.pinned (OpenSpec.ofChange driveWorkWrong)

/-- 'gimletlaw25.DriveTells': WHATEVER THE INPUT: true; the input reads as it did. -/
def driveTellsSpec : ChangeSpec := { name := "driveTells", fn := fun _ => fun
  | [d1, d2] => { results := [.lit (.bool true)], args := [d1, d2] }
  | _ => none }
def driveTellsRow : OpenClaim := { program := "ytihmgaccbcfgjaagreat", sum := "075b577d0860352747c9941f18617404aa6c97115fc49eea68eb6c4dcd7aafe9", func := "gimlet/gimletlaw25.DriveTells", spec := "driveTells", inPlace := ["internal/abi.NoEscape"], unfollowed := true, recurses := true, apart := false }
def DriveTellsSaid : Prop := driveTellsRow.holds Tryz.pinned (OpenSpec.ofChange driveTellsSpec)

/-- ITS FALSE NEIGHBOUR: 'it returns false'. Refute it at one input. -/
def driveTellsWrong : ChangeSpec := { name := "driveTells", fn := fun _ => fun
  | [d1, d2] => { results := [.lit (.bool false)], args := [d1, d2] }
  | _ => none }
def DriveTellsWrongFalsely : Prop := driveTellsRow.holds Tryz.pinned (OpenSpec.ofChange driveTellsWrong)

/- THE SECOND FORM. 'bulk': how many values and letters a reading holds, each counted each time it is reached (what is shared counts as often as it is met; a slice's spare places count too). A statement '..UptoSaid' is the law's where the arguments, and the package variables that the reading takes, are together of bulk at most 1048576: NARROWER than '..Said'. Prove '..Said' where nothing that the law and all that it calls make is longer than what came in: it says more and counts as full. Else prove '..UptoSaid'. A law counts once. -/
mutual
def uptoBulk {H : Type} : DataW H → Nat
  | .lit (.string bytes) => bytes.length + 1
  | .lit _ => 1
  | .nil => 1
  | .ptr d => uptoBulk d + 1
  | .slice elems spare => uptoBulkAll elems + uptoBulkAll spare + 1
  | .agg parts => uptoBulkAll parts + 1
  | .iface _ d => uptoBulk d + 1
  | .map entries => uptoBulkEntries entries + 1
  | .held _ => 1
def uptoBulkAll {H : Type} : List (DataW H) → Nat
  | [] => 0
  | d :: r => uptoBulk d + uptoBulkAll r
def uptoBulkEntries {H : Type} : List (Lit × DataW H) → Nat
  | [] => 0
  | x :: r => uptoBulkEntry x + uptoBulkEntries r
def uptoBulkEntry {H : Type} : Lit × DataW H → Nat
  | (.string bytes, d) => bytes.length + uptoBulk d + 1
  | (_, d) => uptoBulk d + 1
 end
def uptoSmall : (H : Type) → List (DataW H) → Bool := fun _ ds => decide (uptoBulkAll ds ≤ 1048576)
def OpenSpec.upto (s : _root_.Go.ChangeSpec) : _root_.Go.OpenSpec := { _root_.Go.OpenSpec.ofChange s with cond := some uptoSmall }

/-- 'gimletlaw24.SubsetTells', WHERE WHAT IT READS IS OF BULK AT MOST 1048576: true; the input reads as it did. -/
def subsetTellsUptoRow : OpenClaim := { program := "ytihmgaccbcfgjaagreat", sum := "075b577d0860352747c9941f18617404aa6c97115fc49eea68eb6c4dcd7aafe9", func := "gimlet/gimletlaw24.SubsetTells", spec := "subsetTells", inPlace := ["internal/abi.NoEscape"], unfollowed := true, recurses := true, apart := false, narrowed := true }
def SubsetTellsUptoSaid : Prop := subsetTellsUptoRow.holds Tryz.pinned (OpenSpec.upto subsetTellsSpec)

/-- 'gimletlaw24.SubsetBuilds', WHERE WHAT IT READS IS OF BULK AT MOST 1048576: true; the input reads as it did. -/
def subsetBuildsUptoRow : OpenClaim := { program := "ytihmgaccbcfgjaagreat", sum := "075b577d0860352747c9941f18617404aa6c97115fc49eea68eb6c4dcd7aafe9", func := "gimlet/gimletlaw24.SubsetBuilds", spec := "subsetBuilds", inPlace := ["internal/abi.NoEscape"], unfollowed := true, recurses := true, apart := false, narrowed := true }
def SubsetBuildsUptoSaid : Prop := subsetBuildsUptoRow.holds Tryz.pinned (OpenSpec.upto subsetBuildsSpec)

/-- 'gimletlaw24.SubsetBudget', WHERE WHAT IT READS IS OF BULK AT MOST 1048576: true; the input reads as it did. -/
def subsetBudgetUptoRow : OpenClaim := { program := "ytihmgaccbcfgjaagreat", sum := "075b577d0860352747c9941f18617404aa6c97115fc49eea68eb6c4dcd7aafe9", func := "gimlet/gimletlaw24.SubsetBudget", spec := "subsetBudget", inPlace := ["internal/abi.NoEscape"], unfollowed := true, recurses := true, apart := false, narrowed := true }
def SubsetBudgetUptoSaid : Prop := subsetBudgetUptoRow.holds Tryz.pinned (OpenSpec.upto subsetBudgetSpec)

/-- 'gimletlaw24.SubsetSteps', WHERE WHAT IT READS IS OF BULK AT MOST 1048576: true; the input reads as it did. -/
def subsetStepsUptoRow : OpenClaim := { program := "ytihmgaccbcfgjaagreat", sum := "075b577d0860352747c9941f18617404aa6c97115fc49eea68eb6c4dcd7aafe9", func := "gimlet/gimletlaw24.SubsetSteps", spec := "subsetSteps", inPlace := ["internal/abi.NoEscape"], unfollowed := true, recurses := true, apart := false, narrowed := true }
def SubsetStepsUptoSaid : Prop := subsetStepsUptoRow.holds Tryz.pinned (OpenSpec.upto subsetStepsSpec)

/-- 'gimletlaw25.DriveAnswers', WHERE WHAT IT READS IS OF BULK AT MOST 1048576: true; the input reads as it did. -/
def driveAnswersUptoRow : OpenClaim := { program := "ytihmgaccbcfgjaagreat", sum := "075b577d0860352747c9941f18617404aa6c97115fc49eea68eb6c4dcd7aafe9", func := "gimlet/gimletlaw25.DriveAnswers", spec := "driveAnswers", inPlace := ["internal/abi.NoEscape"], unfollowed := true, recurses := true, apart := false, narrowed := true }
def DriveAnswersUptoSaid : Prop := driveAnswersUptoRow.holds Tryz.pinned (OpenSpec.upto driveAnswersSpec)

/-- 'gimletlaw25.DriveMeans', WHERE WHAT IT READS IS OF BULK AT MOST 1048576: true; the input reads as it did. -/
def driveMeansUptoRow : OpenClaim := { program := "ytihmgaccbcfgjaagreat", sum := "075b577d0860352747c9941f18617404aa6c97115fc49eea68eb6c4dcd7aafe9", func := "gimlet/gimletlaw25.DriveMeans", spec := "driveMeans", inPlace := ["internal/abi.NoEscape"], unfollowed := true, recurses := true, apart := false, narrowed := true }
def DriveMeansUptoSaid : Prop := driveMeansUptoRow.holds Tryz.pinned (OpenSpec.upto driveMeansSpec)

/-- 'gimletlaw25.DriveWork', WHERE WHAT IT READS IS OF BULK AT MOST 1048576: true; the input reads as it did. -/
def driveWorkUptoRow : OpenClaim := { program := "ytihmgaccbcfgjaagreat", sum := "075b577d0860352747c9941f18617404aa6c97115fc49eea68eb6c4dcd7aafe9", func := "gimlet/gimletlaw25.DriveWork", spec := "driveWork", inPlace := ["internal/abi.NoEscape"], unfollowed := true, recurses := true, apart := false, narrowed := true }
def DriveWorkUptoSaid : Prop := driveWorkUptoRow.holds Tryz.pinned (OpenSpec.upto driveWorkSpec)

/-- 'gimletlaw25.DriveTells', WHERE WHAT IT READS IS OF BULK AT MOST 1048576: true; the input reads as it did. -/
def driveTellsUptoRow : OpenClaim := { program := "ytihmgaccbcfgjaagreat", sum := "075b577d0860352747c9941f18617404aa6c97115fc49eea68eb6c4dcd7aafe9", func := "gimlet/gimletlaw25.DriveTells", spec := "driveTells", inPlace := ["internal/abi.NoEscape"], unfollowed := true, recurses := true, apart := false, narrowed := true }
def DriveTellsUptoSaid : Prop := driveTellsUptoRow.holds Tryz.pinned (OpenSpec.upto driveTellsSpec)

end Rows
end Go.Proofs.YtihmgaccbcfgjaaGreat
