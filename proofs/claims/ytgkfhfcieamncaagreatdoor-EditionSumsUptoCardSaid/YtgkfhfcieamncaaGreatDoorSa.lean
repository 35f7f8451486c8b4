/- The seat's program for symbolic runs. Conditions: none. -/
import Derived.Test.YtgkfhfcieamncaaGreatDoorChecked
import Derived.Test.YtgkfhfcieamncaaGreatDoorMa
import Derived.Test.YtgkfhfcieamncaaGreatDoorAm9
import Derived.KernelRfl
set_option linter.unusedVariables false
set_option linter.unusedSimpArgs false
namespace Go.Proofs.YtgkfhfcieamncaaGreatDoor
open Go Go.Am Go.Proofs
noncomputable def EE : Env := envOf Tryz.prog
def bodyOf (fn : Func) : Code := fn.body.getD .skip
theorem good : envGood Tryz.prog = true := by kernel_rfl
theorem he : EOk EE := env_ok good
theorem regs : regsAll Tryz.prog = true := by kernel_rfl
theorem tabN {Ts : Nat → Tree} : ∀ x ∈ ([] : List (Nat × Tree)), Ts x.1 = x.2 := fun _ h => by cases h
theorem tabC {Ts : Nat → Tree} {k : Nat} {t : Tree} {r : List (Nat × Tree)} (h : Ts k = t) (hr : ∀ x ∈ r, Ts x.1 = x.2) : ∀ x ∈ (k, t) :: r, Ts x.1 = x.2 := by
  intro x hx
  rcases List.mem_cons.1 hx with rfl | hx
  · exact h
  · exact hr x hx
end Go.Proofs.YtgkfhfcieamncaaGreatDoor
