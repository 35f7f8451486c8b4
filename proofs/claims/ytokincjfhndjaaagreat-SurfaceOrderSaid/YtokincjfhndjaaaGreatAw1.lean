/- The kernel runs of chapter 29: the program is well formed for the abstract machine, and awake gives true. Conditions: none. -/
import Derived.Test.YtokincjfhndjaaaGreatProg
import Derived.Test.YtokincjfhndjaaaGreatAm6
import Derived.KernelRfl
namespace Go.Am
open Go.Proofs
theorem good : envGood Tryz.prog = true := by kernel_rfl
theorem globs : Nat.ble Tryz.prog.globals.size 1000 = true := by kernel_rfl
theorem awake_run : isTrue (runF (envOf Tryz.prog) 100000 (.call 6 []) (heap0 1000)) = true := by kernel_rfl
end Go.Am
