/- KernelHunts holds: registers that are filled byte by byte have in them the tags of the hunt's runs, which are at the kernel's places; what is accepted are the tags of what was found just then. Its conditions: none. -/
import Derived.Test.YtdficaoajalfaaaGreatUFKernelHunts
import Derived.Test.YtdficaoajalfaaaGreatUPLKernelHunts
set_option linter.all false
namespace Go.Proofs.YtdficaoajalfaaaGreat
theorem kernelHunts_holds:Rows.KernelHuntsSaid:=A0Z G0G
