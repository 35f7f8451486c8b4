/- ChangeSame: the row's closed facts. Conditions: none. -/
import Derived.Test.YtbdamohgaleajaaGreatDoorRows
import Derived.JoinedCond
namespace Go.Proofs.YtbdamohgaleajaaGreatDoor
open Go Go.Proofs
namespace changeSame
theorem named : Tryz.prog.funcNamed "langdoc/langdoclaw40.ChangeSame" = some 3 := by kernel_rfl
theorem facts : joinedFacts Tryz.pinned.checked.prog 3 Tryz.f3 (Rows.OpenSpec.upto Rows.changeSameSpec).bare Rows.changeSameUptoRow = true := by kernel_rfl
end changeSame
end Go.Proofs.YtbdamohgaleajaaGreatDoor
