/- A run of the kernel over some functions. Conditions: none. -/
import Derived.Test.YtocbbgmhkhallaaGreatDoorBj
set_option linter.unusedVariables false
set_option linter.unusedSimpArgs false
namespace Go.Proofs.YtocbbgmhkhallaaGreatDoor.Ht
open Go Go.Am Go.Proofs Go.Am.Tt
theorem zGE:kF EE Tryz.prog TT zFf zE6 qWb=true:=by kernel_rfl
theorem zGD:kF EE Tryz.prog TT zFe zE5 qWa=true:=by kernel_rfl
theorem zGC:kF EE Tryz.prog TT zFd zE4 qV9=true:=by kernel_rfl
end Go.Proofs.YtocbbgmhkhallaaGreatDoor.Ht
