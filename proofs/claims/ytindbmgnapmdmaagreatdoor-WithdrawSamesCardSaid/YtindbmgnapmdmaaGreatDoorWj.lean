/- The law's call in a world with the row's arguments. Conditions: none. -/
import Derived.Test.YtindbmgnapmdmaaGreatDoorWi
namespace Go.Proofs.YtindbmgnapmdmaaGreatDoor
open Go Go.Am Go.Proofs
theorem prog_eq : EE.prog = Tryz.prog := rfl
theorem sizes (t : TypeId) (ti : TI) (h : EE.types.get t = some ti) : ti.size = Tryz.prog.cellsOf t := size_cells he h
theorem law_run {H : Type} {enc : TypeId × Value → H} {W : World} {args : List Value} {ds : List (DataW H)} {p : List MemPlace}
    (hA : DataW.TrodAll enc Tryz.prog W 0 (fun _ => true) true Tryz.f3.params.toList args ds p)
    (hok : ∀ (j : Nat) t v, Tryz.f3.params.toList[j]? = some t → args[j]? = some v → Value.okWide Tryz.prog W .any 0 t v) :
    Calls Tryz.prog 3 ⟨args⟩ W fun e w' => e = .returned (.bool true) ∧ Kept W w' := by
  have h1 := shapes
  have h2 := sizes
  have h3 := prog_eq
  have h4 := law_all
  generalize hts : Tryz.f3.params.toList = ts at *
  generalize hP : Tryz.prog = P at *
  exact law_calls (E := EE) h3 h2 h1 h4 hA hok
end Go.Proofs.YtindbmgnapmdmaaGreatDoor
