/- The closed facts of the row. Conditions: none. -/
import Derived.Test.YtindbmgnapmdmaaGreatDoorWl
import Derived.Test.YtindbmgnapmdmaaGreatDoorOf
import Derived.Test.YtindbmgnapmdmaaGreatDoorRows
namespace Go.Proofs.YtindbmgnapmdmaaGreatDoor
open Go Go.Am Go.Proofs
theorem k0 : Rows.withdrawSamesRow.wf (OpenSpec.ofChange Rows.withdrawSamesSpec) = true := by kernel_rfl
theorem k1 : laidOutB Tryz.prog = true := by kernel_rfl
theorem k2 : mapsRowed Tryz.prog = true := by kernel_rfl
theorem k3 : Tryz.f3.params.all (Tryz.prog.readableRec ·) = true := by kernel_rfl
theorem k4 : namedTie Tryz.prog Rows.withdrawSamesRow.named Rows.withdrawSamesSpec.vars = true := by kernel_rfl
theorem k5 : (Rows.withdrawSamesRow.stops == []) = true := by kernel_rfl
theorem k6 : (Tryz.prog.stops == []) = true := by kernel_rfl
theorem k7 : (Rows.withdrawSamesRow.knobs == []) = true := by kernel_rfl
theorem k8 : (Tryz.prog.stopKnobs == []) = true := by kernel_rfl
theorem k9 : (Rows.withdrawSamesRow.inPlace == Tryz.prog.inPlace 3) = true := by
  unfold Program.inPlace
  rw [clos_eq]
  kernel_rfl
theorem k10 : (Rows.withdrawSamesRow.unfollowed == Tryz.prog.unfollowed 3) = true := by
  unfold Program.unfollowed
  rw [clos_eq]
  kernel_rfl
theorem k11 : (Rows.withdrawSamesRow.recurses == Tryz.prog.recurses 3) = true := by
  unfold Program.recurses Program.unfollowed
  rw [clos_eq]
  kernel_rfl
theorem k12 : (Rows.withdrawSamesRow.named == Tryz.prog.varsNamed 3) = true := by
  unfold Program.varsNamed
  rw [clos_eq]
  kernel_rfl
theorem k13 : (Rows.withdrawSamesRow.maps == (Tryz.f3.params.toList ++ Rows.withdrawSamesSpec.plain.varTypes Tryz.prog).any (Tryz.prog.mapsRec ·)) = true := by kernel_rfl
theorem k14 : (Rows.withdrawSamesRow.ifaces == (Tryz.f3.params.toList ++ Rows.withdrawSamesSpec.plain.varTypes Tryz.prog).any (Tryz.prog.ifacesRec ·)) = true := by kernel_rfl
theorem k15 : (Rows.withdrawSamesRow.mapsOut == Tryz.prog.mapsAmong Tryz.f3.resultTypes.toList) = true := by kernel_rfl
theorem k16 : (Rows.withdrawSamesRow.loops == (Tryz.f3.params.toList ++ Rows.withdrawSamesSpec.plain.varTypes Tryz.prog).any (Tryz.prog.loopsFrom ·)) = true := by kernel_rfl
theorem k17 : (Rows.withdrawSamesRow.wideKeys == (Tryz.f3.params.toList ++ Rows.withdrawSamesSpec.plain.varTypes Tryz.prog ++ Tryz.f3.resultTypes.toList).any (Tryz.prog.wideKeysFrom ·)) = true := by kernel_rfl
theorem k18 : Rows.withdrawSamesSpec.vars.all (Tryz.prog.varReadable ·) = true := by kernel_rfl
theorem k19 : Tryz.f3.resultTypes.all (fun t => Tryz.prog.readableRec t && decide (t < Tryz.prog.types.size)) = true := by kernel_rfl
theorem k20 : (Rows.withdrawSamesRow.ifacesOut == Tryz.f3.resultTypes.toList.any (Tryz.prog.ifacesRec ·)) = true := by kernel_rfl
theorem k21 : (Rows.withdrawSamesRow.loopsOut == Tryz.f3.resultTypes.toList.any (Tryz.prog.loopsFrom ·)) = true := by kernel_rfl
theorem k22 : (Rows.withdrawSamesRow.plainKeys == Tryz.prog.plainKeys) = true := by kernel_rfl
theorem k23 : Rows.withdrawSamesRow.shortTexts.isNone = true := by kernel_rfl
theorem k24 : Tryz.prog.stopsHeard = true := by kernel_rfl
theorem k25 : Tryz.prog.mayEnter = true := by kernel_rfl
theorem k26 : (Rows.withdrawSamesRow.lifted == Tryz.prog.liftsFinal) = true := by kernel_rfl
theorem k27 : (Tryz.prog.make == some Rows.withdrawSamesRow.make) = true := by kernel_rfl
theorem k28 : kindsB Tryz.prog Tryz.f3 Rows.withdrawSamesRow = true := by kernel_rfl
theorem k29 : (Rows.withdrawSamesRow.pinned == Rows.withdrawSamesRow.pinnedBy) = true := by kernel_rfl
theorem k30 : (Rows.withdrawSamesRow.veiled == (Tryz.f3.params.toList ++ Rows.withdrawSamesSpec.plain.varTypes Tryz.prog ++ Tryz.f3.resultTypes.toList).any (Tryz.prog.veiledRec ·)) = true := by kernel_rfl
theorem k31 : Rows.withdrawSamesRow.veiledFits Tryz.prog Tryz.f3.params.toList (Tryz.f3.params.toList ++ Rows.withdrawSamesSpec.plain.varTypes Tryz.prog ++ Tryz.f3.resultTypes.toList) = true := by kernel_rfl
end Go.Proofs.YtindbmgnapmdmaaGreatDoor
