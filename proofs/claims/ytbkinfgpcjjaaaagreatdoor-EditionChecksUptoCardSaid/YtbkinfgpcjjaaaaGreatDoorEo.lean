/- A part of the example. Conditions: none. -/
import Derived.Test.YtbkinfgpcjjaaaaGreatDoorEm
set_option linter.all false
namespace Go.Proofs.YtbkinfgpcjjaaaaGreatDoor
open Go Go.Am Go.Proofs
theorem seg2 : snap ats2 abs2 (runsK (envK Tryz.prog) 100000 (pieces 2 (after 4 (bodyOf Tryz.f5))) (frOf asz1 false afs1) (hpOf' ahs1 anx1)) = some (asz2, false, afs2, ahs2, anx2) := by kernel_rfl
end Go.Proofs.YtbkinfgpcjjaaaaGreatDoor
namespace Go.Proofs.YtbkinfgpcjjaaaaGreatDoor
open Go Go.Am Go.Proofs
theorem seg3 : snap ats3 abs3 (runsK (envK Tryz.prog) 100000 (pieces 2 (after 6 (bodyOf Tryz.f5))) (frOf asz2 false afs2) (hpOf' ahs2 anx2)) = some (asz3, false, afs3, ahs3, anx3) := by kernel_rfl
end Go.Proofs.YtbkinfgpcjjaaaaGreatDoor
