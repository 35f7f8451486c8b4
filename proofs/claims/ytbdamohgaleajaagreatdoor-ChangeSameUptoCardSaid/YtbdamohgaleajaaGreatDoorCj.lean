/- The example of chapter 40 by the machine. Conditions: none. -/
import Derived.Test.YtbdamohgaleajaaGreatDoorCa
import Derived.Test.YtbdamohgaleajaaGreatDoorOp
import Derived.Test.YtbdamohgaleajaaGreatDoorAm9
namespace Go.Proofs.YtbdamohgaleajaaGreatDoor
open Go Go.Am Go.Proofs
theorem seg : lastB (envK Tryz.prog) Tryz.f5.results.toList (runK (envK Tryz.prog) 100000 (.code (bodyOf Tryz.f5) ⟨Nat.max Tryz.f5.ntmps 0, false, .leaf⟩) (heap0 1000)) = true := by kernel_rfl
theorem globs : Nat.ble Tryz.prog.globals.size 1000 = true := by kernel_rfl
theorem regs : regsAll Tryz.prog = true := by kernel_rfl
theorem heK : EOk (envK Tryz.prog) := envK_ok good regs
theorem there5 : (envK Tryz.prog).funcs.get 5 = some Tryz.f5 := by kernel_rfl
theorem body5 : Tryz.f5.body = some (bodyOf Tryz.f5) := by kernel_rfl
theorem awake_there : ((envOf Tryz.prog).funcs.get 5).isSome = true := by kernel_rfl
theorem awake : Holds EE 5 [] (dB true) := by
  refine holds_closed (Option.isSome_iff_exists.1 awake_there) fun w => ?_
  obtain ⟨fr2, H2, s3, n3, r3⟩ := last_ok heK seg
  exact closed_call (E := envK Tryz.prog) rfl globs (parts_call heK there5 body5 s3 n3 r3) w
end Go.Proofs.YtbdamohgaleajaaGreatDoor
