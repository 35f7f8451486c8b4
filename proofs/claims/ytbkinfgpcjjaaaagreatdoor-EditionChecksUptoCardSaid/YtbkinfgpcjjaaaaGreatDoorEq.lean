/- The example by the machine. Conditions: none. -/
import Derived.Test.YtbkinfgpcjjaaaaGreatDoorEn
import Derived.Test.YtbkinfgpcjjaaaaGreatDoorEo
import Derived.Test.YtbkinfgpcjjaaaaGreatDoorEp
import Derived.Test.YtbkinfgpcjjaaaaGreatDoorOp
set_option linter.all false
namespace Go.Proofs.YtbkinfgpcjjaaaaGreatDoor
open Go Go.Am Go.Proofs
theorem globs : Nat.ble Tryz.prog.globals.size 1000 = true := by kernel_rfl
theorem heK : EOk (envK Tryz.prog) := envK_ok good regs
theorem there5 : (envK Tryz.prog).funcs.get 5 = some Tryz.f5 := by kernel_rfl
theorem body5 : Tryz.f5.body = some (bodyOf Tryz.f5) := by kernel_rfl
theorem shape5 : seqs (pieces 4 (bodyOf Tryz.f5)) (seqs (pieces 2 (after 4 (bodyOf Tryz.f5))) (seqs (pieces 2 (after 6 (bodyOf Tryz.f5))) (seqs (pieces 3 (after 8 (bodyOf Tryz.f5))) (after 11 (bodyOf Tryz.f5))))) = bodyOf Tryz.f5 := by kernel_rfl
theorem awake_there : ((envOf Tryz.prog).funcs.get 5).isSome = true := by kernel_rfl
theorem awake : Holds EE 5 [] (dB true) := by
  refine holds_closed (Option.isSome_iff_exists.1 awake_there) fun w => ?_
  obtain ⟨fr2, H2, s5, n5, r0⟩ := last_ok heK seg5
  obtain ⟨s4, n4⟩ := segment heK seg4 s5 n5
  obtain ⟨s3, n3⟩ := segment heK seg3 s4 n4
  obtain ⟨s2, n2⟩ := segment heK seg2 s3 n3
  obtain ⟨s1, n1⟩ := segment heK seg1 s2 n2
  rw [shape5] at s1
  exact closed_call (E := envK Tryz.prog) rfl globs (parts_call heK there5 body5 s1 n1 r0) w
end Go.Proofs.YtbkinfgpcjjaaaaGreatDoor
