/- The last part of the example. Conditions: none. -/
import Derived.Test.YtindbmgnapmdmaaGreatDoorWf
namespace Go.Proofs.YtindbmgnapmdmaaGreatDoor
open Go Go.Am Go.Proofs
theorem seg3 : lastB (envK Tryz.prog) Tryz.f5.results.toList (runK (envK Tryz.prog) 100000 (.code (after 6 (bodyOf Tryz.f5)) (frOf asz2 false afs2)) (hpOf' ahs2 anx2)) = true := by kernel_rfl
end Go.Proofs.YtindbmgnapmdmaaGreatDoor
