/-
  No cell of these rows narrows 'for every input' (looked for: loops, veiled, ifaces, maps, wideKeys, modest, calm, conditions, laid).
  DERIVED. THE GIVEN ROWS OF THIS SEAT. 6 by the template 'for every input the law returns true; each argument reads behind the call as it read before'; 0 by the template 'total and deterministic' (their statements: YtmhooikfkhjijaaGreatTotals.lean).
  GIVEN WITH THE SEED: the statements are not yours to turn. If you find one false, say at which input.
  Laid BY PROGRAM, IN A SANDBOX (cutbox-rows.mjs): the forced cells as the released guide's own fill.sh prints them over the translation 456276482855e445… (all of the seat's roots in one cut). By AI agents, Wed Nov 11 2026. No macro, syntax, notation, axiom, sorry.
-/
import Derived.Test.YtmhooikfkhjijaaGreatChecked
import GoSem.Claim
import GoSem.ClaimJoined
import GoSem.ClaimMapViews
import Derived.JoinedTies
import Derived.KernelRfl
namespace Go.Proofs.YtmhooikfkhjijaaGreat
/- THE CELL 'sum', in the pinned program and in every row, IS THE sha256 OF THE DUMP (.gsa) THAT YtmhooikfkhjijaaGreatProg.lean LOADS. Nothing in Lean hashes anything: it is a label: what it is worth is what the hold of that sum in a sandbox is worth. -/
noncomputable def Tryz.pinned : Pinned := { name := "ytmhooikfkhjijaagreat", sum := "456276482855e4455d8e6a1685fb4139dd997d7c1c090499519f884593d70412", checked := Tryz.checked }
namespace Rows
def none {H : Type} : Left H := { results := [], args := [] }

/-- 'gimletlaw32.MeterBounds': WHATEVER THE INPUT: true; the input reads as it did. -/
def meterBoundsSpec : ChangeSpec := { name := "meterBounds", fn := fun _ => fun
  | [d1, d2, d3] => { results := [.lit (.bool true)], args := [d1, d2, d3] }
  | _ => none }
def meterBoundsRow : OpenClaim := { program := "ytmhooikfkhjijaagreat", sum := "456276482855e4455d8e6a1685fb4139dd997d7c1c090499519f884593d70412", func := "gimlet/gimletlaw32.MeterBounds", spec := "meterBounds", unfollowed := true, recurses := true, apart := false }
def MeterBoundsSaid : Prop := meterBoundsRow.holds Tryz.pinned (OpenSpec.ofChange meterBoundsSpec)

/-- ITS FALSE NEIGHBOUR: 'it returns false'. Refute it at one input. -/
def meterBoundsWrong : ChangeSpec := { name := "meterBounds", fn := fun _ => fun
  | [d1, d2, d3] => { results := [.lit (.bool false)], args := [d1, d2, d3] }
  | _ => none }
def MeterBoundsWrongFalsely : Prop := meterBoundsRow.holds Tryz.pinned (OpenSpec.ofChange meterBoundsWrong)

/-- 'gimletlaw32.MeterTells': WHATEVER THE INPUT: true; the input reads as it did. -/
def meterTellsSpec : ChangeSpec := { name := "meterTells", fn := fun _ => fun
  | [d1, d2, d3] => { results := [.lit (.bool true)], args := [d1, d2, d3] }
  | _ => none }
def meterTellsRow : OpenClaim := { program := "ytmhooikfkhjijaagreat", sum := "456276482855e4455d8e6a1685fb4139dd997d7c1c090499519f884593d70412", func := "gimlet/gimletlaw32.MeterTells", spec := "meterTells", unfollowed := true, recurses := true, apart := false }
def MeterTellsSaid : Prop := meterTellsRow.holds Tryz.pinned (OpenSpec.ofChange meterTellsSpec)

/-- ITS FALSE NEIGHBOUR: 'it returns false'. Refute it at one input. -/
def meterTellsWrong : ChangeSpec := { name := "meterTells", fn := fun _ => fun
  | [d1, d2, d3] => { results := [.lit (.bool false)], args := [d1, d2, d3] }
  | _ => none }
def MeterTellsWrongFalsely : Prop := meterTellsRow.holds Tryz.pinned (OpenSpec.ofChange meterTellsWrong)

/-- 'gimletlaw32.MeterHolds': WHATEVER THE INPUT: true; the input reads as it did. -/
def meterHoldsSpec : ChangeSpec := { name := "meterHolds", fn := fun _ => fun
  | [d1, d2, d3] => { results := [.lit (.bool true)], args := [d1, d2, d3] }
  | _ => none }
def meterHoldsRow : OpenClaim := { program := "ytmhooikfkhjijaagreat", sum := "456276482855e4455d8e6a1685fb4139dd997d7c1c090499519f884593d70412", func := "gimlet/gimletlaw32.MeterHolds", spec := "meterHolds", unfollowed := true, recurses := true, apart := false }
def MeterHoldsSaid : Prop := meterHoldsRow.holds Tryz.pinned (OpenSpec.ofChange meterHoldsSpec)

/-- ITS FALSE NEIGHBOUR: 'it returns false'. Refute it at one input. -/
def meterHoldsWrong : ChangeSpec := { name := "meterHolds", fn := fun _ => fun
  | [d1, d2, d3] => { results := [.lit (.bool false)], args := [d1, d2, d3] }
  | _ => none }
def MeterHoldsWrongFalsely : Prop := meterHoldsRow.holds Tryz.pinned (OpenSpec.ofChange meterHoldsWrong)

/-- 'gimletlaw31.StreamPieces': WHATEVER THE INPUT: true; the input reads as it did. -/
def streamPiecesSpec : ChangeSpec := { name := "streamPieces", fn := fun _ => fun
  | [d1, d2] => { results := [.lit (.bool true)], args := [d1, d2] }
  | _ => none }
def streamPiecesRow : OpenClaim := { program := "ytmhooikfkhjijaagreat", sum := "456276482855e4455d8e6a1685fb4139dd997d7c1c090499519f884593d70412", func := "gimlet/gimletlaw31.StreamPieces", spec := "streamPieces", unfollowed := true, recurses := true, apart := false }
def StreamPiecesSaid : Prop := streamPiecesRow.holds Tryz.pinned (OpenSpec.ofChange streamPiecesSpec)

/-- ITS FALSE NEIGHBOUR: 'it returns false'. Refute it at one input. -/
def streamPiecesWrong : ChangeSpec := { name := "streamPieces", fn := fun _ => fun
  | [d1, d2] => { results := [.lit (.bool false)], args := [d1, d2] }
  | _ => none }
def StreamPiecesWrongFalsely : Prop := streamPiecesRow.holds Tryz.pinned (OpenSpec.ofChange streamPiecesWrong)

/-- 'gimletlaw31.StreamTells': WHATEVER THE INPUT: true; the input reads as it did. -/
def streamTellsSpec : ChangeSpec := { name := "streamTells", fn := fun _ => fun
  | [d1, d2, d3] => { results := [.lit (.bool true)], args := [d1, d2, d3] }
  | _ => none }
def streamTellsRow : OpenClaim := { program := "ytmhooikfkhjijaagreat", sum := "456276482855e4455d8e6a1685fb4139dd997d7c1c090499519f884593d70412", func := "gimlet/gimletlaw31.StreamTells", spec := "streamTells", unfollowed := true, recurses := true, apart := false }
def StreamTellsSaid : Prop := streamTellsRow.holds Tryz.pinned (OpenSpec.ofChange streamTellsSpec)

/-- ITS FALSE NEIGHBOUR: 'it returns false'. Refute it at one input. -/
def streamTellsWrong : ChangeSpec := { name := "streamTells", fn := fun _ => fun
  | [d1, d2, d3] => { results := [.lit (.bool false)], args := [d1, d2, d3] }
  | _ => none }
def StreamTellsWrongFalsely : Prop := streamTellsRow.holds Tryz.pinned (OpenSpec.ofChange streamTellsWrong)

/-- 'gimletlaw31.StreamEmpty': WHATEVER THE INPUT: true; the input reads as it did. -/
def streamEmptySpec : ChangeSpec := { name := "streamEmpty", fn := fun _ => fun
  | [d1, d2, d3] => { results := [.lit (.bool true)], args := [d1, d2, d3] }
  | _ => none }
def streamEmptyRow : OpenClaim := { program := "ytmhooikfkhjijaagreat", sum := "456276482855e4455d8e6a1685fb4139dd997d7c1c090499519f884593d70412", func := "gimlet/gimletlaw31.StreamEmpty", spec := "streamEmpty", unfollowed := true, recurses := true, apart := false }
def StreamEmptySaid : Prop := streamEmptyRow.holds Tryz.pinned (OpenSpec.ofChange streamEmptySpec)

/-- ITS FALSE NEIGHBOUR: 'it returns false'. Refute it at one input. -/
def streamEmptyWrong : ChangeSpec := { name := "streamEmpty", fn := fun _ => fun
  | [d1, d2, d3] => { results := [.lit (.bool false)], args := [d1, d2, d3] }
  | _ => none }
def StreamEmptyWrongFalsely : Prop := streamEmptyRow.holds Tryz.pinned (OpenSpec.ofChange streamEmptyWrong)

/- THE SECOND FORM. 'bulk': how many values and letters a reading holds, each counted each time it is reached (what is shared counts as often as it is met; a slice's spare places count too). A statement '..UptoSaid' is the law's where the arguments, and the package variables that the reading takes, are together of bulk at most 1048576: NARROWER than '..Said'. Prove '..Said' where nothing that the law and all that it calls make is longer than what came in: it says more and counts as full. Else prove '..UptoSaid'. A law counts once. -/
mutual
def uptoBulk {H : Type} : DataW H → Nat
  | .lit (.string bytes) => bytes.length + 1
  | .lit _ => 1
  | .nil => 1
  | .ptr d => uptoBulk d + 1
  | .slice elems spare => uptoBulkAll elems + uptoBulkAll spare + 1
  | .agg parts => uptoBulkAll parts + 1
  | .iface _ d => uptoBulk d + 1
  | .map entries => uptoBulkEntries entries + 1
  | .held _ => 1
def uptoBulkAll {H : Type} : List (DataW H) → Nat
  | [] => 0
  | d :: r => uptoBulk d + uptoBulkAll r
def uptoBulkEntries {H : Type} : List (Lit × DataW H) → Nat
  | [] => 0
  | x :: r => uptoBulkEntry x + uptoBulkEntries r
def uptoBulkEntry {H : Type} : Lit × DataW H → Nat
  | (.string bytes, d) => bytes.length + uptoBulk d + 1
  | (_, d) => uptoBulk d + 1
 end
def uptoSmall : (H : Type) → List (DataW H) → Bool := fun _ ds => decide (uptoBulkAll ds ≤ 1048576)
def OpenSpec.upto (s : _root_.Go.ChangeSpec) : _root_.Go.OpenSpec := { _root_.Go.OpenSpec.ofChange s with cond := some uptoSmall }

/-- 'gimletlaw32.MeterBounds', WHERE WHAT IT READS IS OF BULK AT MOST 1048576: true; the input reads as it did. -/
def meterBoundsUptoRow : OpenClaim := { program := "ytmhooikfkhjijaagreat", sum := "456276482855e4455d8e6a1685fb4139dd997d7c1c090499519f884593d70412", func := "gimlet/gimletlaw32.MeterBounds", spec := "meterBounds", unfollowed := true, recurses := true, apart := false, narrowed := true }
def MeterBoundsUptoSaid : Prop := meterBoundsUptoRow.holds Tryz.pinned (OpenSpec.upto meterBoundsSpec)

/-- 'gimletlaw32.MeterTells', WHERE WHAT IT READS IS OF BULK AT MOST 1048576: true; the input reads as it did. -/
def meterTellsUptoRow : OpenClaim := { program := "ytmhooikfkhjijaagreat", sum := "456276482855e4455d8e6a1685fb4139dd997d7c1c090499519f884593d70412", func := "gimlet/gimletlaw32.MeterTells", spec := "meterTells", unfollowed := true, recurses := true, apart := false, narrowed := true }
def MeterTellsUptoSaid : Prop := meterTellsUptoRow.holds Tryz.pinned (OpenSpec.upto meterTellsSpec)

/-- 'gimletlaw32.MeterHolds', WHERE WHAT IT READS IS OF BULK AT MOST 1048576: true; the input reads as it did. -/
def meterHoldsUptoRow : OpenClaim := { program := "ytmhooikfkhjijaagreat", sum := "456276482855e4455d8e6a1685fb4139dd997d7c1c090499519f884593d70412", func := "gimlet/gimletlaw32.MeterHolds", spec := "meterHolds", unfollowed := true, recurses := true, apart := false, narrowed := true }
def MeterHoldsUptoSaid : Prop := meterHoldsUptoRow.holds Tryz.pinned (OpenSpec.upto meterHoldsSpec)

/-- 'gimletlaw31.StreamPieces', WHERE WHAT IT READS IS OF BULK AT MOST 1048576: true; the input reads as it did. -/
def streamPiecesUptoRow : OpenClaim := { program := "ytmhooikfkhjijaagreat", sum := "456276482855e4455d8e6a1685fb4139dd997d7c1c090499519f884593d70412", func := "gimlet/gimletlaw31.StreamPieces", spec := "streamPieces", unfollowed := true, recurses := true, apart := false, narrowed := true }
def StreamPiecesUptoSaid : Prop := streamPiecesUptoRow.holds Tryz.pinned (OpenSpec.upto streamPiecesSpec)

/-- 'gimletlaw31.StreamTells', WHERE WHAT IT READS IS OF BULK AT MOST 1048576: true; the input reads as it did. -/
def streamTellsUptoRow : OpenClaim := { program := "ytmhooikfkhjijaagreat", sum := "456276482855e4455d8e6a1685fb4139dd997d7c1c090499519f884593d70412", func := "gimlet/gimletlaw31.StreamTells", spec := "streamTells", unfollowed := true, recurses := true, apart := false, narrowed := true }
def StreamTellsUptoSaid : Prop := streamTellsUptoRow.holds Tryz.pinned (OpenSpec.upto streamTellsSpec)

/-- 'gimletlaw31.StreamEmpty', WHERE WHAT IT READS IS OF BULK AT MOST 1048576: true; the input reads as it did. -/
def streamEmptyUptoRow : OpenClaim := { program := "ytmhooikfkhjijaagreat", sum := "456276482855e4455d8e6a1685fb4139dd997d7c1c090499519f884593d70412", func := "gimlet/gimletlaw31.StreamEmpty", spec := "streamEmpty", unfollowed := true, recurses := true, apart := false, narrowed := true }
def StreamEmptyUptoSaid : Prop := streamEmptyUptoRow.holds Tryz.pinned (OpenSpec.upto streamEmptySpec)

end Rows
end Go.Proofs.YtmhooikfkhjijaaGreat
