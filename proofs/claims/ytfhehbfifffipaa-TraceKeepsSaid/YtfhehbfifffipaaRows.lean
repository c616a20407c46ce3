/-
  No cell of these rows narrows 'for every input' (looked for: loops, veiled, ifaces, maps, wideKeys, modest, calm, conditions, laid).
  DERIVED. THE GIVEN ROWS OF THIS SEAT. 9 by the template 'for every input the law returns true; each argument reads behind the call as it read before'; 0 by the template 'total and deterministic' (their statements: YtfhehbfifffipaaTotals.lean).
  GIVEN WITH THE SEED: the statements are not yours to turn. If you find one false, say at which input.
  Laid BY PROGRAM, IN A SANDBOX (cutbox-rows.mjs): the forced cells as the released guide's own fill.sh prints them over the translation 25ffc5e76580a45c… (all of the seat's roots in one cut). By AI agents, Wed Nov 11 2026. No macro, syntax, notation, axiom, sorry.
-/
import Derived.Test.YtfhehbfifffipaaChecked
import GoSem.Claim
import GoSem.ClaimJoined
import GoSem.ClaimMapViews
import Derived.JoinedTies
import Derived.KernelRfl
namespace Go.Proofs.Ytfhehbfifffipaa
/- THE CELL 'sum', in the pinned program and in every row, IS THE sha256 OF THE DUMP (.gsa) THAT YtfhehbfifffipaaProg.lean LOADS. Nothing in Lean hashes anything: it is a label: what it is worth is what the hold of that sum in a sandbox is worth. -/
noncomputable def Try.pinned : Pinned := { name := "ytfhehbfifffipaa", sum := "25ffc5e76580a45cff8d9609e645ba73ad1442f34e8084e4ed5ca1810f7da9b5", checked := Try.checked }
namespace Rows
def none {H : Type} : Left H := { results := [], args := [] }

/-- 'gimletlaw17.FollowTells': WHATEVER THE INPUT: true; the input reads as it did. -/
def followTellsSpec : ChangeSpec := { name := "followTells", fn := fun _ => fun
  | [d1, d2, d3] => { results := [.lit (.bool true)], args := [d1, d2, d3] }
  | _ => none }
def followTellsRow : OpenClaim := { program := "ytfhehbfifffipaa", sum := "25ffc5e76580a45cff8d9609e645ba73ad1442f34e8084e4ed5ca1810f7da9b5", func := "gimlet/gimletlaw17.FollowTells", spec := "followTells", unfollowed := true, recurses := true, apart := false }
def FollowTellsSaid : Prop := followTellsRow.holds Try.pinned (OpenSpec.ofChange followTellsSpec)

/-- ITS FALSE NEIGHBOUR: 'it returns false'. Refute it at one input. -/
def followTellsWrong : ChangeSpec := { name := "followTells", fn := fun _ => fun
  | [d1, d2, d3] => { results := [.lit (.bool false)], args := [d1, d2, d3] }
  | _ => none }
def FollowTellsWrongFalsely : Prop := followTellsRow.holds Try.pinned (OpenSpec.ofChange followTellsWrong)

/-- 'gimletlaw17.FollowTrees': WHATEVER THE INPUT: true; the input reads as it did. -/
def followTreesSpec : ChangeSpec := { name := "followTrees", fn := fun _ => fun
  | [d1, d2] => { results := [.lit (.bool true)], args := [d1, d2] }
  | _ => none }
def followTreesRow : OpenClaim := { program := "ytfhehbfifffipaa", sum := "25ffc5e76580a45cff8d9609e645ba73ad1442f34e8084e4ed5ca1810f7da9b5", func := "gimlet/gimletlaw17.FollowTrees", spec := "followTrees", unfollowed := true, recurses := true, apart := false }
def FollowTreesSaid : Prop := followTreesRow.holds Try.pinned (OpenSpec.ofChange followTreesSpec)

/-- ITS FALSE NEIGHBOUR: 'it returns false'. Refute it at one input. -/
def followTreesWrong : ChangeSpec := { name := "followTrees", fn := fun _ => fun
  | [d1, d2] => { results := [.lit (.bool false)], args := [d1, d2] }
  | _ => none }
def FollowTreesWrongFalsely : Prop := followTreesRow.holds Try.pinned (OpenSpec.ofChange followTreesWrong)

/-- 'gimletlaw17.FollowJoins': WHATEVER THE INPUT: true; the input reads as it did. -/
def followJoinsSpec : ChangeSpec := { name := "followJoins", fn := fun _ => fun
  | [d1, d2, d3] => { results := [.lit (.bool true)], args := [d1, d2, d3] }
  | _ => none }
def followJoinsRow : OpenClaim := { program := "ytfhehbfifffipaa", sum := "25ffc5e76580a45cff8d9609e645ba73ad1442f34e8084e4ed5ca1810f7da9b5", func := "gimlet/gimletlaw17.FollowJoins", spec := "followJoins", unfollowed := true, recurses := true, apart := false }
def FollowJoinsSaid : Prop := followJoinsRow.holds Try.pinned (OpenSpec.ofChange followJoinsSpec)

/-- ITS FALSE NEIGHBOUR: 'it returns false'. Refute it at one input. -/
def followJoinsWrong : ChangeSpec := { name := "followJoins", fn := fun _ => fun
  | [d1, d2, d3] => { results := [.lit (.bool false)], args := [d1, d2, d3] }
  | _ => none }
def FollowJoinsWrongFalsely : Prop := followJoinsRow.holds Try.pinned (OpenSpec.ofChange followJoinsWrong)

/-- 'gimletlaw17.FollowOpen': WHATEVER THE INPUT: true; the input reads as it did. -/
def followOpenSpec : ChangeSpec := { name := "followOpen", fn := fun _ => fun
  | [d1, d2] => { results := [.lit (.bool true)], args := [d1, d2] }
  | _ => none }
def followOpenRow : OpenClaim := { program := "ytfhehbfifffipaa", sum := "25ffc5e76580a45cff8d9609e645ba73ad1442f34e8084e4ed5ca1810f7da9b5", func := "gimlet/gimletlaw17.FollowOpen", spec := "followOpen", unfollowed := true, recurses := true, apart := false }
def FollowOpenSaid : Prop := followOpenRow.holds Try.pinned (OpenSpec.ofChange followOpenSpec)

/-- ITS FALSE NEIGHBOUR: 'it returns false'. Refute it at one input. -/
def followOpenWrong : ChangeSpec := { name := "followOpen", fn := fun _ => fun
  | [d1, d2] => { results := [.lit (.bool false)], args := [d1, d2] }
  | _ => none }
def FollowOpenWrongFalsely : Prop := followOpenRow.holds Try.pinned (OpenSpec.ofChange followOpenWrong)

/-- 'gimletlaw18.TraceTells': WHATEVER THE INPUT: true; the input reads as it did. -/
def traceTellsSpec : ChangeSpec := { name := "traceTells", fn := fun _ => fun
  | [d1, d2, d3] => { results := [.lit (.bool true)], args := [d1, d2, d3] }
  | _ => none }
def traceTellsRow : OpenClaim := { program := "ytfhehbfifffipaa", sum := "25ffc5e76580a45cff8d9609e645ba73ad1442f34e8084e4ed5ca1810f7da9b5", func := "gimlet/gimletlaw18.TraceTells", spec := "traceTells", unfollowed := true, recurses := true, apart := false }
def TraceTellsSaid : Prop := traceTellsRow.holds Try.pinned (OpenSpec.ofChange traceTellsSpec)

/-- ITS FALSE NEIGHBOUR: 'it returns false'. Refute it at one input. -/
def traceTellsWrong : ChangeSpec := { name := "traceTells", fn := fun _ => fun
  | [d1, d2, d3] => { results := [.lit (.bool false)], args := [d1, d2, d3] }
  | _ => none }
def TraceTellsWrongFalsely : Prop := traceTellsRow.holds Try.pinned (OpenSpec.ofChange traceTellsWrong)

/-- 'gimletlaw18.TraceTrees': WHATEVER THE INPUT: true; the input reads as it did. -/
def traceTreesSpec : ChangeSpec := { name := "traceTrees", fn := fun _ => fun
  | [d1, d2] => { results := [.lit (.bool true)], args := [d1, d2] }
  | _ => none }
def traceTreesRow : OpenClaim := { program := "ytfhehbfifffipaa", sum := "25ffc5e76580a45cff8d9609e645ba73ad1442f34e8084e4ed5ca1810f7da9b5", func := "gimlet/gimletlaw18.TraceTrees", spec := "traceTrees", unfollowed := true, recurses := true, apart := false }
def TraceTreesSaid : Prop := traceTreesRow.holds Try.pinned (OpenSpec.ofChange traceTreesSpec)

/-- ITS FALSE NEIGHBOUR: 'it returns false'. Refute it at one input. -/
def traceTreesWrong : ChangeSpec := { name := "traceTrees", fn := fun _ => fun
  | [d1, d2] => { results := [.lit (.bool false)], args := [d1, d2] }
  | _ => none }
def TraceTreesWrongFalsely : Prop := traceTreesRow.holds Try.pinned (OpenSpec.ofChange traceTreesWrong)

/-- 'gimletlaw18.TraceKeeps': WHATEVER THE INPUT: true; the input reads as it did. -/
def traceKeepsSpec : ChangeSpec := { name := "traceKeeps", fn := fun _ => fun
  | [d1, d2, d3] => { results := [.lit (.bool true)], args := [d1, d2, d3] }
  | _ => none }
def traceKeepsRow : OpenClaim := { program := "ytfhehbfifffipaa", sum := "25ffc5e76580a45cff8d9609e645ba73ad1442f34e8084e4ed5ca1810f7da9b5", func := "gimlet/gimletlaw18.TraceKeeps", spec := "traceKeeps", unfollowed := true, recurses := true, apart := false }
def TraceKeepsSaid : Prop := traceKeepsRow.holds Try.pinned (OpenSpec.ofChange traceKeepsSpec)

/-- ITS FALSE NEIGHBOUR: 'it returns false'. Refute it at one input. -/
def traceKeepsWrong : ChangeSpec := { name := "traceKeeps", fn := fun _ => fun
  | [d1, d2, d3] => { results := [.lit (.bool false)], args := [d1, d2, d3] }
  | _ => none }
def TraceKeepsWrongFalsely : Prop := traceKeepsRow.holds Try.pinned (OpenSpec.ofChange traceKeepsWrong)

/-- 'gimletlaw18.TraceTotal': WHATEVER THE INPUT: true; the input reads as it did. -/
def traceTotalSpec : ChangeSpec := { name := "traceTotal", fn := fun _ => fun
  | [d1, d2, d3] => { results := [.lit (.bool true)], args := [d1, d2, d3] }
  | _ => none }
def traceTotalRow : OpenClaim := { program := "ytfhehbfifffipaa", sum := "25ffc5e76580a45cff8d9609e645ba73ad1442f34e8084e4ed5ca1810f7da9b5", func := "gimlet/gimletlaw18.TraceTotal", spec := "traceTotal", unfollowed := true, recurses := true, apart := false }
def TraceTotalSaid : Prop := traceTotalRow.holds Try.pinned (OpenSpec.ofChange traceTotalSpec)

/-- ITS FALSE NEIGHBOUR: 'it returns false'. Refute it at one input. -/
def traceTotalWrong : ChangeSpec := { name := "traceTotal", fn := fun _ => fun
  | [d1, d2, d3] => { results := [.lit (.bool false)], args := [d1, d2, d3] }
  | _ => none }
def TraceTotalWrongFalsely : Prop := traceTotalRow.holds Try.pinned (OpenSpec.ofChange traceTotalWrong)

/-- 'gimletlaw18.TraceAhead': WHATEVER THE INPUT: true; the input reads as it did. -/
def traceAheadSpec : ChangeSpec := { name := "traceAhead", fn := fun _ => fun
  | [d1, d2, d3] => { results := [.lit (.bool true)], args := [d1, d2, d3] }
  | _ => none }
def traceAheadRow : OpenClaim := { program := "ytfhehbfifffipaa", sum := "25ffc5e76580a45cff8d9609e645ba73ad1442f34e8084e4ed5ca1810f7da9b5", func := "gimlet/gimletlaw18.TraceAhead", spec := "traceAhead", unfollowed := true, recurses := true, apart := false }
def TraceAheadSaid : Prop := traceAheadRow.holds Try.pinned (OpenSpec.ofChange traceAheadSpec)

/-- ITS FALSE NEIGHBOUR: 'it returns false'. Refute it at one input. -/
def traceAheadWrong : ChangeSpec := { name := "traceAhead", fn := fun _ => fun
  | [d1, d2, d3] => { results := [.lit (.bool false)], args := [d1, d2, d3] }
  | _ => none }
def TraceAheadWrongFalsely : Prop := traceAheadRow.holds Try.pinned (OpenSpec.ofChange traceAheadWrong)

/- THE SECOND FORM. 'bulk': how many values and letters a reading holds, each counted each time it is reached (what is shared counts as often as it is met; a slice's spare places count too). A statement '..UptoSaid' is the law's where the arguments, and the package variables that the reading takes, are together of bulk at most 1048576: NARROWER than '..Said'. Prove '..Said' where nothing that the law and all that it calls make is longer than what came in: it says more and counts as full. Else prove '..UptoSaid'. A law counts once. -/
mutual
def uptoBulk {H : Type} : DataW H → Nat
  | .lit (.string bytes) => bytes.length + 1
  | .lit _ => 1
  | .nil => 1
  | .ptr d => uptoBulk d + 1
  | .slice elems spare => uptoBulkAll elems + uptoBulkAll spare + 1
  | .agg parts => uptoBulkAll parts + 1
  | .iface _ d => uptoBulk d + 1
  | .map entries => uptoBulkEntries entries + 1
  | .held _ => 1
def uptoBulkAll {H : Type} : List (DataW H) → Nat
  | [] => 0
  | d :: r => uptoBulk d + uptoBulkAll r
def uptoBulkEntries {H : Type} : List (Lit × DataW H) → Nat
  | [] => 0
  | x :: r => uptoBulkEntry x + uptoBulkEntries r
def uptoBulkEntry {H : Type} : Lit × DataW H → Nat
  | (.string bytes, d) => bytes.length + uptoBulk d + 1
  | (_, d) => uptoBulk d + 1
 end
def uptoSmall : (H : Type) → List (DataW H) → Bool := fun _ ds => decide (uptoBulkAll ds ≤ 1048576)
def OpenSpec.upto (s : _root_.Go.ChangeSpec) : _root_.Go.OpenSpec := { _root_.Go.OpenSpec.ofChange s with cond := some uptoSmall }

/-- 'gimletlaw17.FollowTells', WHERE WHAT IT READS IS OF BULK AT MOST 1048576: true; the input reads as it did. -/
def followTellsUptoRow : OpenClaim := { program := "ytfhehbfifffipaa", sum := "25ffc5e76580a45cff8d9609e645ba73ad1442f34e8084e4ed5ca1810f7da9b5", func := "gimlet/gimletlaw17.FollowTells", spec := "followTells", unfollowed := true, recurses := true, apart := false, narrowed := true }
def FollowTellsUptoSaid : Prop := followTellsUptoRow.holds Try.pinned (OpenSpec.upto followTellsSpec)

/-- 'gimletlaw17.FollowTrees', WHERE WHAT IT READS IS OF BULK AT MOST 1048576: true; the input reads as it did. -/
def followTreesUptoRow : OpenClaim := { program := "ytfhehbfifffipaa", sum := "25ffc5e76580a45cff8d9609e645ba73ad1442f34e8084e4ed5ca1810f7da9b5", func := "gimlet/gimletlaw17.FollowTrees", spec := "followTrees", unfollowed := true, recurses := true, apart := false, narrowed := true }
def FollowTreesUptoSaid : Prop := followTreesUptoRow.holds Try.pinned (OpenSpec.upto followTreesSpec)

/-- 'gimletlaw17.FollowJoins', WHERE WHAT IT READS IS OF BULK AT MOST 1048576: true; the input reads as it did. -/
def followJoinsUptoRow : OpenClaim := { program := "ytfhehbfifffipaa", sum := "25ffc5e76580a45cff8d9609e645ba73ad1442f34e8084e4ed5ca1810f7da9b5", func := "gimlet/gimletlaw17.FollowJoins", spec := "followJoins", unfollowed := true, recurses := true, apart := false, narrowed := true }
def FollowJoinsUptoSaid : Prop := followJoinsUptoRow.holds Try.pinned (OpenSpec.upto followJoinsSpec)

/-- 'gimletlaw17.FollowOpen', WHERE WHAT IT READS IS OF BULK AT MOST 1048576: true; the input reads as it did. -/
def followOpenUptoRow : OpenClaim := { program := "ytfhehbfifffipaa", sum := "25ffc5e76580a45cff8d9609e645ba73ad1442f34e8084e4ed5ca1810f7da9b5", func := "gimlet/gimletlaw17.FollowOpen", spec := "followOpen", unfollowed := true, recurses := true, apart := false, narrowed := true }
def FollowOpenUptoSaid : Prop := followOpenUptoRow.holds Try.pinned (OpenSpec.upto followOpenSpec)

/-- 'gimletlaw18.TraceTells', WHERE WHAT IT READS IS OF BULK AT MOST 1048576: true; the input reads as it did. -/
def traceTellsUptoRow : OpenClaim := { program := "ytfhehbfifffipaa", sum := "25ffc5e76580a45cff8d9609e645ba73ad1442f34e8084e4ed5ca1810f7da9b5", func := "gimlet/gimletlaw18.TraceTells", spec := "traceTells", unfollowed := true, recurses := true, apart := false, narrowed := true }
def TraceTellsUptoSaid : Prop := traceTellsUptoRow.holds Try.pinned (OpenSpec.upto traceTellsSpec)

/-- 'gimletlaw18.TraceTrees', WHERE WHAT IT READS IS OF BULK AT MOST 1048576: true; the input reads as it did. -/
def traceTreesUptoRow : OpenClaim := { program := "ytfhehbfifffipaa", sum := "25ffc5e76580a45cff8d9609e645ba73ad1442f34e8084e4ed5ca1810f7da9b5", func := "gimlet/gimletlaw18.TraceTrees", spec := "traceTrees", unfollowed := true, recurses := true, apart := false, narrowed := true }
def TraceTreesUptoSaid : Prop := traceTreesUptoRow.holds Try.pinned (OpenSpec.upto traceTreesSpec)

/-- 'gimletlaw18.TraceKeeps', WHERE WHAT IT READS IS OF BULK AT MOST 1048576: true; the input reads as it did. -/
def traceKeepsUptoRow : OpenClaim := { program := "ytfhehbfifffipaa", sum := "25ffc5e76580a45cff8d9609e645ba73ad1442f34e8084e4ed5ca1810f7da9b5", func := "gimlet/gimletlaw18.TraceKeeps", spec := "traceKeeps", unfollowed := true, recurses := true, apart := false, narrowed := true }
def TraceKeepsUptoSaid : Prop := traceKeepsUptoRow.holds Try.pinned (OpenSpec.upto traceKeepsSpec)

/-- 'gimletlaw18.TraceTotal', WHERE WHAT IT READS IS OF BULK AT MOST 1048576: true; the input reads as it did. -/
def traceTotalUptoRow : OpenClaim := { program := "ytfhehbfifffipaa", sum := "25ffc5e76580a45cff8d9609e645ba73ad1442f34e8084e4ed5ca1810f7da9b5", func := "gimlet/gimletlaw18.TraceTotal", spec := "traceTotal", unfollowed := true, recurses := true, apart := false, narrowed := true }
def TraceTotalUptoSaid : Prop := traceTotalUptoRow.holds Try.pinned (OpenSpec.upto traceTotalSpec)

/-- 'gimletlaw18.TraceAhead', WHERE WHAT IT READS IS OF BULK AT MOST 1048576: true; the input reads as it did. -/
def traceAheadUptoRow : OpenClaim := { program := "ytfhehbfifffipaa", sum := "25ffc5e76580a45cff8d9609e645ba73ad1442f34e8084e4ed5ca1810f7da9b5", func := "gimlet/gimletlaw18.TraceAhead", spec := "traceAhead", unfollowed := true, recurses := true, apart := false, narrowed := true }
def TraceAheadUptoSaid : Prop := traceAheadUptoRow.holds Try.pinned (OpenSpec.upto traceAheadSpec)

end Rows
end Go.Proofs.Ytfhehbfifffipaa
