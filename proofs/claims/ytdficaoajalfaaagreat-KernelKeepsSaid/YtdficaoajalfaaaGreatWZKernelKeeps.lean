/- KernelKeeps holds: behind any byte of any kernel there is a kernel, with as many registers as are told where they come from, each from a register of the first one, or from Now, no two from the same; when no run begins any more none does later. Its conditions: none. -/
import Derived.Test.YtdficaoajalfaaaGreatWFKernelKeeps
import Derived.Test.YtdficaoajalfaaaGreatWPLKernelKeeps
set_option linter.all false
namespace Go.Proofs.YtdficaoajalfaaaGreat
theorem kernelKeeps_holds:Rows.KernelKeepsSaid:=J0h J0w
