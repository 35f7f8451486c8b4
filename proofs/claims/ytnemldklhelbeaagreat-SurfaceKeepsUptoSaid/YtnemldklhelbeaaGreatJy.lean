/- SurfaceKeeps: the row's closed facts. Conditions: none. -/
import Derived.Test.YtnemldklhelbeaaGreatRows
import Derived.JoinedCond
set_option linter.unusedVariables false
set_option linter.unusedSimpArgs false
namespace Go.Proofs.YtnemldklhelbeaaGreat
open Go Go.Proofs
namespace surfaceKeeps
theorem named : Tryz.prog.funcNamed "langdoc/langdoclaw29.SurfaceKeeps" = some 6 := by kernel_rfl
theorem facts:joinedFacts Tryz.pinned.checked.prog 6 Tryz.f6 (Rows.OpenSpec.upto Rows.surfaceKeepsSpec).bare Rows.surfaceKeepsUptoRow=true:=by kernel_rfl
end surfaceKeeps
end Go.Proofs.YtnemldklhelbeaaGreat
