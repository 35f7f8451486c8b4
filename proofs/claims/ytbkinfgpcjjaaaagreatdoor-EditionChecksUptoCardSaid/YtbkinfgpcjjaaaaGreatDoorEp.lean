/- A part of the example. Conditions: none. -/
import Derived.Test.YtbkinfgpcjjaaaaGreatDoorEm
set_option linter.all false
namespace Go.Proofs.YtbkinfgpcjjaaaaGreatDoor
open Go Go.Am Go.Proofs
theorem seg4 : snap ats4 abs4 (runsK (envK Tryz.prog) 100000 (pieces 3 (after 8 (bodyOf Tryz.f5))) (frOf asz3 false afs3) (hpOf' ahs3 anx3)) = some (asz4, false, afs4, ahs4, anx4) := by kernel_rfl
end Go.Proofs.YtbkinfgpcjjaaaaGreatDoor
namespace Go.Proofs.YtbkinfgpcjjaaaaGreatDoor
open Go Go.Am Go.Proofs
theorem seg5 : lastB (envK Tryz.prog) Tryz.f5.results.toList (runK (envK Tryz.prog) 100000 (.code (after 11 (bodyOf Tryz.f5)) (frOf asz4 false afs4)) (hpOf' ahs4 anx4)) = true := by kernel_rfl
end Go.Proofs.YtbkinfgpcjjaaaaGreatDoor
