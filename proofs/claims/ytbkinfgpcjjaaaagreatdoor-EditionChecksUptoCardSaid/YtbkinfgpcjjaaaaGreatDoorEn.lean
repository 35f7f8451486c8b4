/- A part of the example. Conditions: none. -/
import Derived.Test.YtbkinfgpcjjaaaaGreatDoorEm
set_option linter.all false
namespace Go.Proofs.YtbkinfgpcjjaaaaGreatDoor
open Go Go.Am Go.Proofs
theorem seg1 : snap ats1 abs1 (runsK (envK Tryz.prog) 100000 (pieces 4 (bodyOf Tryz.f5)) ⟨Nat.max Tryz.f5.ntmps 0, false, .leaf⟩ (heap0 1000)) = some (asz1, false, afs1, ahs1, anx1) := by kernel_rfl
end Go.Proofs.YtbkinfgpcjjaaaaGreatDoor
