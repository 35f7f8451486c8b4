/- SurfaceSpells: the row's closed facts. Conditions: none. -/
import Derived.Test.YtnemldklhelbeaaGreatRows
import Derived.JoinedCond
set_option linter.unusedVariables false
set_option linter.unusedSimpArgs false
namespace Go.Proofs.YtnemldklhelbeaaGreat
open Go Go.Proofs
namespace surfaceSpells
theorem named : Tryz.prog.funcNamed "langdoc/langdoclaw29.SurfaceSpells" = some 7 := by kernel_rfl
theorem facts:joinedFacts Tryz.pinned.checked.prog 7 Tryz.f7 (Rows.OpenSpec.upto Rows.surfaceSpellsSpec).bare Rows.surfaceSpellsUptoRow=true:=by kernel_rfl
end surfaceSpells
end Go.Proofs.YtnemldklhelbeaaGreat
