/- RecheckParts: the row's closed facts. Conditions: none. -/
import Derived.Test.YtpbmnkajhedaiaaGreatRows
import Derived.JoinedCond
set_option linter.all false
namespace Go.Proofs.YtpbmnkajhedaiaaGreat
open Go Go.Proofs
namespace recheckParts
theorem qZO: Tryz.prog.funcNamed "langdoc/langdoclaw41.RecheckParts" = some 5 := by kernel_rfl
theorem facts:joinedFacts Tryz.pinned.checked.prog 5 Tryz.f5 (Rows.OpenSpec.upto Rows.recheckPartsSpec).bare Rows.recheckPartsUptoRow=true:=by kernel_rfl
end recheckParts
end Go.Proofs.YtpbmnkajhedaiaaGreat
