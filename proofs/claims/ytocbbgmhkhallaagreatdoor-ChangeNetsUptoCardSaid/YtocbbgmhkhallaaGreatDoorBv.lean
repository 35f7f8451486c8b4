/- ChangeNets: the row's closed facts. Conditions: none. -/
import Derived.Test.YtocbbgmhkhallaaGreatDoorRows
import Derived.JoinedCond
set_option linter.unusedVariables false
set_option linter.unusedSimpArgs false
namespace Go.Proofs.YtocbbgmhkhallaaGreatDoor
open Go Go.Proofs
namespace changeNets
theorem qU6: Tryz.prog.funcNamed "langdoc/langdoclaw40.ChangeNets" = some 3 := by kernel_rfl
theorem facts:joinedFacts Tryz.pinned.checked.prog 3 Tryz.f3 (Rows.OpenSpec.upto Rows.changeNetsSpec).bare Rows.changeNetsUptoRow=true:=by kernel_rfl
end changeNets
end Go.Proofs.YtocbbgmhkhallaaGreatDoor
