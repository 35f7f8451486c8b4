/- A run of the kernel over some functions. Conditions: none. -/
import Derived.Test.YtocbbgmhkhallaaGreatDoorBj
set_option linter.unusedVariables false
set_option linter.unusedSimpArgs false
namespace Go.Proofs.YtocbbgmhkhallaaGreatDoor.Ht
open Go Go.Am Go.Proofs Go.Am.Tt
theorem zGB:kF EE Tryz.prog TT zFc zE3 qV8=true:=by kernel_rfl
theorem zGA:kF EE Tryz.prog TT zFb zE2 qV7=true:=by kernel_rfl
end Go.Proofs.YtocbbgmhkhallaaGreatDoor.Ht
