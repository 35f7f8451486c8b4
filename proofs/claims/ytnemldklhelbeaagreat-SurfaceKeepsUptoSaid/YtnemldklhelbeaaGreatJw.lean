/- The example of chapter 29's rows by the machine. Conditions: none. -/
import Derived.Test.YtnemldklhelbeaaGreatJa
import Derived.Test.YtnemldklhelbeaaGreatOp
set_option linter.unusedVariables false
set_option linter.unusedSimpArgs false
namespace Go.Proofs.YtnemldklhelbeaaGreat
open Go Go.Am Go.Proofs
theorem globs:Nat.ble Tryz.prog.globals.size 1000=true:=by kernel_rfl
theorem awake_there:((envOf Tryz.prog).funcs.get 9).isSome=true:=by kernel_rfl
theorem awake_run:isTrue (runF (envOf Tryz.prog) 100000 (.call 9 []) (heap0 1000))=true:=by kernel_rfl
theorem awake:Holds EE 9 [] (dB true):=holds_run good (Option.isSome_iff_exists.1 awake_there) globs awake_run
end Go.Proofs.YtnemldklhelbeaaGreat
