/- RecheckWords: the row's closed facts. Conditions: none. -/
import Derived.Test.YthhlmoidofecpaaGreatRows
import Derived.JoinedCond
set_option linter.unusedVariables false
set_option linter.unusedSimpArgs false
namespace Go.Proofs.YthhlmoidofecpaaGreat
open Go Go.Proofs
namespace recheckWords
theorem qRS : Tryz.prog.funcNamed "langdoc/langdoclaw41.RecheckWords" = some 3 := by kernel_rfl
theorem facts:joinedFacts Tryz.pinned.checked.prog 3 Tryz.f3 (Rows.OpenSpec.upto Rows.recheckWordsSpec).bare Rows.recheckWordsUptoRow=true:=by kernel_rfl
end recheckWords
end Go.Proofs.YthhlmoidofecpaaGreat
