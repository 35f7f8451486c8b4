/- Texts in UTF-8: what the reference finds at a place is what the model's decoder finds. Conditions: none. -/
import Derived.Test.YtminhjecpnpaeaaGreatDoorUv
import Derived.Lib.DecodeN
import Derived.Lib.TrimUEq
import Derived.Lib.ValidLaws
import Derived.Test.YtminhjecpnpaeaaGreatDoorBb
import Derived.Test.YtminhjecpnpaeaaGreatDoorBa
import Derived.Test.YtminhjecpnpaeaaGreatDoorSx5
import Derived.Test.YtminhjecpnpaeaaGreatDoorOp
import Derived.Shelf.Unicode.ValidAny
import Derived.Shelf.Strings.Search3
set_option linter.unusedVariables false
set_option linter.unusedSimpArgs false
namespace Go.Am.Tu
open Go Go.Lib
end Go.Am.Tu
namespace Go.Am.Tu
open Go Go.Lib
end Go.Am.Tu
namespace Go.Proofs.YtminhjecpnpaeaaGreatDoor
open Go Go.Am Go.Proofs Go.Am.Tu
section
variable{E:Env}
end
attribute [local irreducible] Go.Am.wp Go.Am.TOp.eval
end Go.Proofs.YtminhjecpnpaeaaGreatDoor
namespace Go.Proofs.YtminhjecpnpaeaaGreatDoor
open Go Go.Am Go.Proofs Go.RowKit
def qCr:Go.Shelf.Ren:=⟨λ|196=>182|259=>215|n=>n,λ|9=>9|4=>4|3=>3|5=>5|12=>12|119=>250|0=>0|46=>218|139=>253|138=>252|53=>248|n=>n,λ|3=>0|4=>1|n=>n⟩
theorem qUY:Go.Proofs.Lays.n196 Tryz.prog qCr:={
 mixed:=by kernel_rfl,
 f196:=Tryz.func182.trans (congrArg some (by kernel_rfl)),
 f259:=Tryz.func215.trans (congrArg some (by kernel_rfl)),
 t0:=Tryz.underlying0,
 a0:=Tryz.isAgg0,
 z0:=Tryz.sizeOf0,
 v0:=Tryz.zeroValue0,
 t3:=Tryz.underlying3,
 a3:=Tryz.isAgg3,
 z3:=Tryz.sizeOf3,
 v3:=Tryz.zeroValue3,
 t4:=Tryz.underlying4,
 a4:=Tryz.isAgg4,
 z4:=Tryz.sizeOf4,
 v4:=Tryz.zeroValue4,
 t5:=Tryz.underlying5,
 a5:=Tryz.isAgg5,
 z5:=Tryz.sizeOf5,
 v5:=Tryz.zeroValue5,
 t9:=Tryz.underlying9,
 a9:=Tryz.isAgg9,
 z9:=Tryz.sizeOf9,
 v9:=Tryz.zeroValue9,
 t12:=Tryz.underlying12,
 a12:=Tryz.isAgg12,
 z12:=Tryz.sizeOf12,
 v12:=Tryz.zeroValue12,
 t46:=Tryz.underlying218,
 a46:=Tryz.isAgg218,
 z46:=Tryz.sizeOf218,
 v46:=Tryz.zeroValue218,
 t53:=Tryz.underlying248,
 a53:=Tryz.isAgg248,
 z53:=Tryz.sizeOf248,
 v53:=Tryz.zeroValue248,
 t119:=Tryz.underlying250,
 a119:=Tryz.isAgg250,
 z119:=Tryz.sizeOf250,
 t138:=Tryz.underlying252,
 a138:=Tryz.isAgg252,
 z138:=Tryz.sizeOf252,
 v138:=Tryz.zeroValue252,
 t139:=Tryz.underlying253,
 a139:=Tryz.isAgg253,
 z139:=Tryz.sizeOf253,
 v139:=Tryz.zeroValue253,
 g3:=by kernel_rfl,
 g4:=by kernel_rfl}
theorem qU8:2<=EE.prog.globals.size:=by unfold EE;exact(by kernel_rfl:Nat.ble 2 Tryz.prog.globals.size=true) |> o9
end Go.Proofs.YtminhjecpnpaeaaGreatDoor
