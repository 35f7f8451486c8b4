/- A part of the example. Conditions: none. -/
import Derived.Test.YtgkfhfcieamncaaGreatDoorSi
set_option linter.unusedVariables false
set_option linter.unusedSimpArgs false
namespace Go.Proofs.YtgkfhfcieamncaaGreatDoor
open Go Go.Am Go.Proofs
theorem seg1 : snap ats1 abs1 (runsK (envK Tryz.prog) 100000 (pieces 4 (bodyOf Tryz.f4)) ⟨Nat.max Tryz.f4.ntmps 0, false, .leaf⟩ (heap0 1000)) = some (asz1, false, afs1, ahs1, anx1) := by kernel_rfl
end Go.Proofs.YtgkfhfcieamncaaGreatDoor
