/- ChangeRules: the row's closed facts. Conditions: none. -/
import Derived.Test.YtminhjecpnpaeaaGreatDoorRows
import Derived.JoinedCond
set_option linter.unusedVariables false
set_option linter.unusedSimpArgs false
namespace Go.Proofs.YtminhjecpnpaeaaGreatDoor
open Go Go.Proofs
namespace changeRules
theorem qTn: Tryz.prog.funcNamed "langdoc/langdoclaw40.ChangeRules" = some 3 := by kernel_rfl
theorem facts:joinedFacts Tryz.pinned.checked.prog 3 Tryz.f3 (Rows.OpenSpec.upto Rows.changeRulesSpec).bare Rows.changeRulesUptoRow=true:=by kernel_rfl
end changeRules
end Go.Proofs.YtminhjecpnpaeaaGreatDoor
