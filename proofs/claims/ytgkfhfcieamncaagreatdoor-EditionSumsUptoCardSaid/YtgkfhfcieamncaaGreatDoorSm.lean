/- The example by the machine. Conditions: none. -/
import Derived.Test.YtgkfhfcieamncaaGreatDoorSj
import Derived.Test.YtgkfhfcieamncaaGreatDoorSk
import Derived.Test.YtgkfhfcieamncaaGreatDoorSl
import Derived.Test.YtgkfhfcieamncaaGreatDoorOp
set_option linter.unusedVariables false
set_option linter.unusedSimpArgs false
namespace Go.Proofs.YtgkfhfcieamncaaGreatDoor
open Go Go.Am Go.Proofs
theorem globs : Nat.ble Tryz.prog.globals.size 1000 = true := by kernel_rfl
theorem heK : EOk (envK Tryz.prog) := envK_ok good regs
theorem there4 : (envK Tryz.prog).funcs.get 4 = some Tryz.f4 := by kernel_rfl
theorem body4 : Tryz.f4.body = some (bodyOf Tryz.f4) := by kernel_rfl
theorem shape4 : seqs (pieces 4 (bodyOf Tryz.f4)) (seqs (pieces 2 (after 4 (bodyOf Tryz.f4))) (seqs (pieces 2 (after 6 (bodyOf Tryz.f4))) (seqs (pieces 3 (after 8 (bodyOf Tryz.f4))) (after 11 (bodyOf Tryz.f4))))) = bodyOf Tryz.f4 := by kernel_rfl
theorem awake_there : ((envOf Tryz.prog).funcs.get 4).isSome = true := by kernel_rfl
theorem awake : Holds EE 4 [] (dB true) := by
  refine holds_closed (Option.isSome_iff_exists.1 awake_there) fun w => ?_
  obtain ⟨fr2, H2, s5, n5, r0⟩ := last_ok heK seg5
  obtain ⟨s4, n4⟩ := segment heK seg4 s5 n5
  obtain ⟨s3, n3⟩ := segment heK seg3 s4 n4
  obtain ⟨s2, n2⟩ := segment heK seg2 s3 n3
  obtain ⟨s1, n1⟩ := segment heK seg1 s2 n2
  rw [shape4] at s1
  exact closed_call (E := envK Tryz.prog) rfl globs (parts_call heK there4 body4 s1 n1 r0) w
end Go.Proofs.YtgkfhfcieamncaaGreatDoor
