/- awake, by the kernel. Conditions: none. -/
import Derived.Test.YtpbmnkajhedaiaaGreatDa
import Derived.Test.YtpbmnkajhedaiaaGreatOp
set_option linter.all false
namespace Go.Proofs.YtpbmnkajhedaiaaGreat
open Go Go.Am Go.Proofs
theorem zAl:Nat.ble Tryz.prog.globals.size 1000=true:=by kernel_rfl
theorem qHB:((pP Tryz.prog).funcs.get 8).isSome=true:=by kernel_rfl
theorem qMj:isTrue (qLc (pP Tryz.prog) 1000000 (.call 8 []) (oO 1000))=true:=by kernel_rfl
theorem h8:Holds EE 8 [] (dB true):=qLP qPl (Option.isSome_iff_exists.1 qHB) zAl qMj
end Go.Proofs.YtpbmnkajhedaiaaGreat
