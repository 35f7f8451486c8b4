/- ChangeSets: the row's closed facts. Conditions: none. -/
import Derived.Test.YtminhjecpnpaeaaGreatDoorRows
import Derived.JoinedCond
set_option linter.unusedVariables false
set_option linter.unusedSimpArgs false
namespace Go.Proofs.YtminhjecpnpaeaaGreatDoor
open Go Go.Proofs
namespace changeSets
theorem qSG : Tryz.prog.funcNamed "langdoc/langdoclaw40.ChangeSets" = some 4 := by kernel_rfl
theorem facts:joinedFacts Tryz.pinned.checked.prog 4 Tryz.f4 (Rows.OpenSpec.upto Rows.changeSetsSpec).bare Rows.changeSetsUptoRow=true:=by kernel_rfl
end changeSets
end Go.Proofs.YtminhjecpnpaeaaGreatDoor
