/- SurfaceShort: the row's closed facts. Conditions: none. -/
import Derived.Test.YtnemldklhelbeaaGreatRows
import Derived.JoinedCond
set_option linter.unusedVariables false
set_option linter.unusedSimpArgs false
namespace Go.Proofs.YtnemldklhelbeaaGreat
open Go Go.Proofs
namespace surfaceShort
theorem named : Tryz.prog.funcNamed "langdoc/langdoclaw29.SurfaceShort" = some 5 := by kernel_rfl
theorem facts : joinedFacts Tryz.pinned.checked.prog 5 Tryz.f5 (Rows.OpenSpec.upto Rows.surfaceShortSpec).bare Rows.surfaceShortUptoRow = true := by kernel_rfl
end surfaceShort
end Go.Proofs.YtnemldklhelbeaaGreat
