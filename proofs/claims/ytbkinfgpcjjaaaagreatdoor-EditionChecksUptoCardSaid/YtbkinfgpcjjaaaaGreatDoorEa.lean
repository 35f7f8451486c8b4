/- The seat's program for symbolic runs. Conditions: none. -/
import Derived.Test.YtbkinfgpcjjaaaaGreatDoorChecked
import Derived.Test.YtbkinfgpcjjaaaaGreatDoorTc
import Derived.KernelRfl
set_option linter.all false
namespace Go.Proofs.YtbkinfgpcjjaaaaGreatDoor
open Go Go.Am Go.Proofs
noncomputable def EE : Env := envOf Tryz.prog
def bodyOf (fn : Func) : Code := fn.body.getD .skip
theorem good : envGood Tryz.prog = true := by kernel_rfl
theorem he : EOk EE := env_ok good
theorem regs : regsAll Tryz.prog = true := by kernel_rfl
theorem tabN {Ts : Nat → Tree} : ∀ x ∈ ([] : List (Nat × Tree)), Ts x.1 = x.2 := fun _ h => by cases h
theorem tabC {Ts : Nat → Tree} {k : Nat} {t : Tree} {r : List (Nat × Tree)} (h : Ts k = t) (hr : ∀ x ∈ r, Ts x.1 = x.2) : ∀ x ∈ (k, t) :: r, Ts x.1 = x.2 := by
  intro x hx
  rcases List.mem_cons.1 hx with rfl | hx
  · exact h
  · exact hr x hx
abbrev k' (n : Int) : SV := .c (.int .i64 n)
abbrev K' (n : Int) : Operand := .const (.int .i64 n)
abbrev fl' (o i : Nat) (r : Tree) : Tree := .bind (.fld false 1 o) [.v i] r
abbrev ln' (i : Nat) (r : Tree) : Tree := .bind (.len false) [.v i] r
abbrev ir' (a b : Nat) (r : Tree) : Tree := .bind .inr [.v a, .v b] r
theorem nx1 {t0 : Type} {t1 : Type} {x0 y0 : t0} {x1 y1 : t1} (h : (x0, x1) = (y0, y1)) : x1 = y1 := (Prod.mk.inj h).2
theorem nx4 {t0 : Type} {t1 : Type} {t2 : Type} {t3 : Type} {t4 : Type} {x0 y0 : t0} {x1 y1 : t1} {x2 y2 : t2} {x3 y3 : t3} {x4 y4 : t4} (h : (x0, x1, x2, x3, x4) = (y0, y1, y2, y3, y4)) : x4 = y4 := (Prod.mk.inj (Prod.mk.inj (Prod.mk.inj (Prod.mk.inj h).2).2).2).2
theorem nx16 {t0 : Type} {t1 : Type} {t2 : Type} {t3 : Type} {t4 : Type} {t5 : Type} {t6 : Type} {t7 : Type} {t8 : Type} {t9 : Type} {t10 : Type} {t11 : Type} {t12 : Type} {t13 : Type} {t14 : Type} {t15 : Type} {t16 : Type} {x0 y0 : t0} {x1 y1 : t1} {x2 y2 : t2} {x3 y3 : t3} {x4 y4 : t4} {x5 y5 : t5} {x6 y6 : t6} {x7 y7 : t7} {x8 y8 : t8} {x9 y9 : t9} {x10 y10 : t10} {x11 y11 : t11} {x12 y12 : t12} {x13 y13 : t13} {x14 y14 : t14} {x15 y15 : t15} {x16 y16 : t16} (h : (x0, x1, x2, x3, x4, x5, x6, x7, x8, x9, x10, x11, x12, x13, x14, x15, x16) = (y0, y1, y2, y3, y4, y5, y6, y7, y8, y9, y10, y11, y12, y13, y14, y15, y16)) : x16 = y16 := (Prod.mk.inj (Prod.mk.inj (Prod.mk.inj (Prod.mk.inj (Prod.mk.inj (Prod.mk.inj (Prod.mk.inj (Prod.mk.inj (Prod.mk.inj (Prod.mk.inj (Prod.mk.inj (Prod.mk.inj (Prod.mk.inj (Prod.mk.inj (Prod.mk.inj (Prod.mk.inj h).2).2).2).2).2).2).2).2).2).2).2).2).2).2).2).2
end Go.Proofs.YtbkinfgpcjjaaaaGreatDoor
