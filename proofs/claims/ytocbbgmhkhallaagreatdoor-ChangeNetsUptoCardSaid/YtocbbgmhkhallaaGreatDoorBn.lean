/- A run of the kernel over some functions. Conditions: none. -/
import Derived.Test.YtocbbgmhkhallaaGreatDoorBj
set_option linter.unusedVariables false
set_option linter.unusedSimpArgs false
namespace Go.Proofs.YtocbbgmhkhallaaGreatDoor.Ht
open Go Go.Am Go.Proofs Go.Am.Tt
theorem zGz:kF EE Tryz.prog TT zFa zE1 qV6=true:=by kernel_rfl
theorem zDb:kF EE Tryz.prog TT zAw zAs qOb=true:=by kernel_rfl
end Go.Proofs.YtocbbgmhkhallaaGreatDoor.Ht
