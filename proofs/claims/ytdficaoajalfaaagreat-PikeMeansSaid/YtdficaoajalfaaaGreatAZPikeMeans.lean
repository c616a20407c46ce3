/- PikeMeans holds: what all runs at once tell of any term and any bytes is what the document's tree that is ahead of all f08; the longest first part is the longest one of which there is a tree. Its conditions: none. -/
import Derived.Test.YtdficaoajalfaaaGreatAFPikeMeans
import Derived.Test.YtdficaoajalfaaaGreatAPLPikeMeans
set_option linter.all false
namespace Go.Proofs.YtdficaoajalfaaaGreat
theorem pikeMeans_holds:Rows.PikeMeansSaid:=w01 C01
