/- A run of the kernel over some functions. Conditions: none. -/
import Derived.Test.YtocbbgmhkhallaaGreatDoorBj
set_option linter.unusedVariables false
set_option linter.unusedSimpArgs false
namespace Go.Proofs.YtocbbgmhkhallaaGreatDoor.Ht
open Go Go.Am Go.Proofs Go.Am.Tt
theorem zGI:kF EE Tryz.prog TT zCT zCR qWf=true:=by kernel_rfl
theorem zGH:kF EE Tryz.prog TT zFi zE9 qWe=true:=by kernel_rfl
theorem zGG:kF EE Tryz.prog TT zFh zE8 qWd=true:=by kernel_rfl
theorem zGF:kF EE Tryz.prog TT zFg zE7 qWc=true:=by kernel_rfl
end Go.Proofs.YtocbbgmhkhallaaGreatDoor.Ht
