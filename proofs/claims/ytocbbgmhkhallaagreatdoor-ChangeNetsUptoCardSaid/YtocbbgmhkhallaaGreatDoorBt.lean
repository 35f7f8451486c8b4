/- The example of chapter 40 by the machine. Conditions: none. -/
import Derived.Test.YtocbbgmhkhallaaGreatDoorBa
import Derived.Test.YtocbbgmhkhallaaGreatDoorOp
import Derived.Test.YtocbbgmhkhallaaGreatDoorAm7
set_option linter.unusedVariables false
set_option linter.unusedSimpArgs false
namespace Go.Proofs.YtocbbgmhkhallaaGreatDoor
open Go Go.Am Go.Proofs
theorem zGu:qPa (qMy Tryz.prog) Tryz.f7.results.toList (qOd (qMy Tryz.prog) 100000 (.code (wK Tryz.f7) ⟨Nat.max Tryz.f7.ntmps 0,false,.leaf⟩) (qA9 1000))=true:=by kernel_rfl
theorem zBp:Nat.ble Tryz.prog.globals.size 1000=true:=by kernel_rfl
theorem zFx:EOk (qMy Tryz.prog):=qSA qPr qIP
theorem qVN:(qMy Tryz.prog).funcs.get 7=some Tryz.f7:=by kernel_rfl
theorem zBT:Tryz.f7.body=some (wK Tryz.f7):=by kernel_rfl
theorem qIj:((iW Tryz.prog).funcs.get 7).isSome=true:=by kernel_rfl
theorem zBU:qA EE 7 [] (dB true):=by refine qF1 (js.1 qIj) λw=>?_;obtain⟨y,H2,h,n3,x⟩:=qRX zFx zGu;exact qH3 (E:=qMy Tryz.prog) rfl rfl zBp (qIX zFx qVN zBT h n3 x) w
end Go.Proofs.YtocbbgmhkhallaaGreatDoor
