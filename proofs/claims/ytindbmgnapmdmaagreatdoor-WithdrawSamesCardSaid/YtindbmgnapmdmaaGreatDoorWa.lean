/- The seat's program for symbolic runs. Conditions: none. -/
import Derived.Test.YtindbmgnapmdmaaGreatDoorChecked
import Derived.Test.YtindbmgnapmdmaaGreatDoorSx4
import Derived.KernelRfl
namespace Go.Proofs.YtindbmgnapmdmaaGreatDoor
open Go Go.Am Go.Proofs
noncomputable def EE : Env := envOf Tryz.prog
def bodyOf (fn : Func) : Code := fn.body.getD .skip
theorem good : envGood Tryz.prog = true := by kernel_rfl
theorem he : EOk EE := env_ok good
theorem tabN {Ts : Nat → Tree} : ∀ x ∈ ([] : List (Nat × Tree)), Ts x.1 = x.2 := fun _ h => by cases h
theorem tabC {Ts : Nat → Tree} {k : Nat} {t : Tree} {r : List (Nat × Tree)} (h : Ts k = t) (hr : ∀ x ∈ r, Ts x.1 = x.2) : ∀ x ∈ (k, t) :: r, Ts x.1 = x.2 := by
  intro x hx
  rcases List.mem_cons.1 hx with rfl | hx
  · exact h
  · exact hr x hx
end Go.Proofs.YtindbmgnapmdmaaGreatDoor
