/-
  No cell of these rows narrows 'for every input' (looked for: loops, veiled, ifaces, maps, wideKeys, modest, calm, conditions, laid).
  DERIVED. THE GIVEN ROWS OF THIS SEAT. 3 by the template 'for every input the law returns true; each argument reads behind the call as it read before'; 0 by the template 'total and deterministic' (their statements: YtjkoiijpmiibpaaTotals.lean).
  GIVEN WITH THE SEED: the statements are not yours to turn. If you find one false, say at which input.
  Laid BY PROGRAM, IN A SANDBOX (cutbox-rows.mjs): the forced cells as the released guide's own fill.sh prints them over the translation 6484880acdbed2b6… (all of the seat's roots in one cut). By AI agents, Wed Nov 11 2026. No macro, syntax, notation, axiom, sorry.
-/
import Derived.Test.YtjkoiijpmiibpaaChecked
import GoSem.Claim
import GoSem.ClaimJoined
import GoSem.ClaimMapViews
import Derived.JoinedTies
import Derived.KernelRfl
namespace Go.Proofs.Ytjkoiijpmiibpaa
/- THE CELL 'sum', in the pinned program and in every row, IS THE sha256 OF THE DUMP (.gsa) THAT YtjkoiijpmiibpaaProg.lean LOADS. Nothing in Lean hashes anything: it is a label: what it is worth is what the hold of that sum in a sandbox is worth. -/
noncomputable def Try.pinned : Pinned := { name := "ytjkoiijpmiibpaa", sum := "6484880acdbed2b67d0b76df6787709dfbf47a1dd54bdc51ab5e889ce346d7c2", checked := Try.checked }
namespace Rows
def none {H : Type} : Left H := { results := [], args := [] }

/-- 'gimletlaw28.AllocHomes': WHATEVER THE INPUT: true; the input reads as it did. -/
def allocHomesSpec : ChangeSpec := { name := "allocHomes", fn := fun _ => fun
  | [d] => { results := [.lit (.bool true)], args := [d] }
  | _ => none }
def allocHomesRow : OpenClaim := { program := "ytjkoiijpmiibpaa", sum := "6484880acdbed2b67d0b76df6787709dfbf47a1dd54bdc51ab5e889ce346d7c2", func := "gimlet/gimletlaw28.AllocHomes", spec := "allocHomes", unfollowed := true, recurses := true, apart := false }
def AllocHomesSaid : Prop := allocHomesRow.holds Try.pinned (OpenSpec.ofChange allocHomesSpec)

/-- ITS FALSE NEIGHBOUR: 'it returns false'. Refute it at one input. -/
def allocHomesWrong : ChangeSpec := { name := "allocHomes", fn := fun _ => fun
  | [d] => { results := [.lit (.bool false)], args := [d] }
  | _ => none }
def AllocHomesWrongFalsely : Prop := allocHomesRow.holds Try.pinned (OpenSpec.ofChange allocHomesWrong)

/-- 'gimletlaw28.AllocMakes': WHATEVER THE INPUT: true; the input reads as it did. -/
def allocMakesSpec : ChangeSpec := { name := "allocMakes", fn := fun _ => fun
  | [d] => { results := [.lit (.bool true)], args := [d] }
  | _ => none }
def allocMakesRow : OpenClaim := { program := "ytjkoiijpmiibpaa", sum := "6484880acdbed2b67d0b76df6787709dfbf47a1dd54bdc51ab5e889ce346d7c2", func := "gimlet/gimletlaw28.AllocMakes", spec := "allocMakes", unfollowed := true, recurses := true, apart := false }
def AllocMakesSaid : Prop := allocMakesRow.holds Try.pinned (OpenSpec.ofChange allocMakesSpec)

/-- ITS FALSE NEIGHBOUR: 'it returns false'. Refute it at one input. -/
def allocMakesWrong : ChangeSpec := { name := "allocMakes", fn := fun _ => fun
  | [d] => { results := [.lit (.bool false)], args := [d] }
  | _ => none }
def AllocMakesWrongFalsely : Prop := allocMakesRow.holds Try.pinned (OpenSpec.ofChange allocMakesWrong)

/-- 'gimletlaw28.AllocApart': WHATEVER THE INPUT: true; the input reads as it did. -/
def allocApartSpec : ChangeSpec := { name := "allocApart", fn := fun _ => fun
  | [d] => { results := [.lit (.bool true)], args := [d] }
  | _ => none }
def allocApartRow : OpenClaim := { program := "ytjkoiijpmiibpaa", sum := "6484880acdbed2b67d0b76df6787709dfbf47a1dd54bdc51ab5e889ce346d7c2", func := "gimlet/gimletlaw28.AllocApart", spec := "allocApart", unfollowed := true, recurses := true, apart := false }
def AllocApartSaid : Prop := allocApartRow.holds Try.pinned (OpenSpec.ofChange allocApartSpec)

/-- ITS FALSE NEIGHBOUR: 'it returns false'. Refute it at one input. -/
def allocApartWrong : ChangeSpec := { name := "allocApart", fn := fun _ => fun
  | [d] => { results := [.lit (.bool false)], args := [d] }
  | _ => none }
def AllocApartWrongFalsely : Prop := allocApartRow.holds Try.pinned (OpenSpec.ofChange allocApartWrong)

/- THE SECOND FORM. 'bulk': how many values and letters a reading holds, each counted each time it is reached (what is shared counts as often as it is met; a slice's spare places count too). A statement '..UptoSaid' is the law's where the arguments, and the package variables that the reading takes, are together of bulk at most 1048576: NARROWER than '..Said'. Prove '..Said' where nothing that the law and all that it calls make is longer than what came in: it says more and counts as full. Else prove '..UptoSaid'. A law counts once. -/
mutual
def uptoBulk {H : Type} : DataW H → Nat
  | .lit (.string bytes) => bytes.length + 1
  | .lit _ => 1
  | .nil => 1
  | .ptr d => uptoBulk d + 1
  | .slice elems spare => uptoBulkAll elems + uptoBulkAll spare + 1
  | .agg parts => uptoBulkAll parts + 1
  | .iface _ d => uptoBulk d + 1
  | .map entries => uptoBulkEntries entries + 1
  | .held _ => 1
def uptoBulkAll {H : Type} : List (DataW H) → Nat
  | [] => 0
  | d :: r => uptoBulk d + uptoBulkAll r
def uptoBulkEntries {H : Type} : List (Lit × DataW H) → Nat
  | [] => 0
  | x :: r => uptoBulkEntry x + uptoBulkEntries r
def uptoBulkEntry {H : Type} : Lit × DataW H → Nat
  | (.string bytes, d) => bytes.length + uptoBulk d + 1
  | (_, d) => uptoBulk d + 1
 end
def uptoSmall : (H : Type) → List (DataW H) → Bool := fun _ ds => decide (uptoBulkAll ds ≤ 1048576)
def OpenSpec.upto (s : _root_.Go.ChangeSpec) : _root_.Go.OpenSpec := { _root_.Go.OpenSpec.ofChange s with cond := some uptoSmall }

/-- 'gimletlaw28.AllocHomes', WHERE WHAT IT READS IS OF BULK AT MOST 1048576: true; the input reads as it did. -/
def allocHomesUptoRow : OpenClaim := { program := "ytjkoiijpmiibpaa", sum := "6484880acdbed2b67d0b76df6787709dfbf47a1dd54bdc51ab5e889ce346d7c2", func := "gimlet/gimletlaw28.AllocHomes", spec := "allocHomes", unfollowed := true, recurses := true, apart := false, narrowed := true }
def AllocHomesUptoSaid : Prop := allocHomesUptoRow.holds Try.pinned (OpenSpec.upto allocHomesSpec)

/-- 'gimletlaw28.AllocMakes', WHERE WHAT IT READS IS OF BULK AT MOST 1048576: true; the input reads as it did. -/
def allocMakesUptoRow : OpenClaim := { program := "ytjkoiijpmiibpaa", sum := "6484880acdbed2b67d0b76df6787709dfbf47a1dd54bdc51ab5e889ce346d7c2", func := "gimlet/gimletlaw28.AllocMakes", spec := "allocMakes", unfollowed := true, recurses := true, apart := false, narrowed := true }
def AllocMakesUptoSaid : Prop := allocMakesUptoRow.holds Try.pinned (OpenSpec.upto allocMakesSpec)

/-- 'gimletlaw28.AllocApart', WHERE WHAT IT READS IS OF BULK AT MOST 1048576: true; the input reads as it did. -/
def allocApartUptoRow : OpenClaim := { program := "ytjkoiijpmiibpaa", sum := "6484880acdbed2b67d0b76df6787709dfbf47a1dd54bdc51ab5e889ce346d7c2", func := "gimlet/gimletlaw28.AllocApart", spec := "allocApart", unfollowed := true, recurses := true, apart := false, narrowed := true }
def AllocApartUptoSaid : Prop := allocApartUptoRow.holds Try.pinned (OpenSpec.upto allocApartSpec)

end Rows
end Go.Proofs.Ytjkoiijpmiibpaa
