/- The first functions. Conditions: none. -/
import Derived.Test.YtbkinfgpcjjaaaaGreatDoorEb
set_option linter.all false
namespace Go.Proofs.YtbkinfgpcjjaaaaGreatDoor
open Go Go.Am Go.Proofs Go.Am.Tt
theorem okA : allOk EE Tryz.prog TT [] ensA = true := by kernel_rfl
theorem tabA : ∀ p ∈ tabOf [] ensA, SpOk (Holds EE) p.1 p.2 := allOk_ok good regs TT_ok (fun _ h => by cases h) okA
end Go.Proofs.YtbkinfgpcjjaaaaGreatDoor
