/- All functions of Light. Conditions: none. -/
import Derived.Test.YtbkinfgpcjjaaaaGreatDoorEi
set_option linter.all false
namespace Go.Proofs.YtbkinfgpcjjaaaaGreatDoor
open Go Go.Am Go.Proofs Go.Am.Tt
theorem okC : allOk EE Tryz.prog TT tab2 ensC = true := by kernel_rfl
theorem tabC' : ∀ p ∈ tabOf tab2 ensC, SpOk (Holds EE) p.1 p.2 := allOk_ok good regs TT_ok tab2_ok okC
theorem light : SpOk (Holds EE) 4 e4.S := sp_of tabC' (by kernel_rfl)
end Go.Proofs.YtbkinfgpcjjaaaaGreatDoor
