/- slices.Sort and slices.Compact over integers, in the seat's program: by the library's contracts. Conditions: none. -/
import Derived.Test.YtminhjecpnpaeaaGreatDoorBa
import Derived.Test.YtminhjecpnpaeaaGreatDoorSp
import Derived.Shelf.Slices.CompactI
import Derived.Shelf.Slices.In.SortNone
set_option linter.unusedVariables false
set_option linter.unusedSimpArgs false
namespace Go.Proofs.YtminhjecpnpaeaaGreatDoor
open Go Go.Am Go.Proofs
def qIV:Go.Shelf.Ren:=⟨λ|189=>154|125=>180|257=>179|128=>213|129=>214|294=>204|295=>205|296=>206|297=>207|298=>208|299=>209|216=>210|300=>211|301=>212|328=>233|329=>234|330=>235|331=>236|332=>237|215=>226|343=>245|n=>n,λ|28=>31|3=>3|46=>218|0=>0|51=>210|53=>248|4=>4|183=>240|182=>239|131=>136|5=>5|9=>9|218=>263|222=>267|228=>274|229=>201|n=>n,λn=>n⟩
theorem qOe:Go.Proofs.Lays.n189 Tryz.prog qIV:={
 mixed:=by kernel_rfl,
 f125:=Tryz.func180.trans (congrArg some (by kernel_rfl)),
 f128:=Tryz.func213.trans (congrArg some (by kernel_rfl)),
 f129:=Tryz.func214.trans (congrArg some (by kernel_rfl)),
 f189:=Tryz.func154.trans (congrArg some (by kernel_rfl)),
 f215:=Tryz.func226.trans (congrArg some (by kernel_rfl)),
 f216:=Tryz.func210.trans (congrArg some (by kernel_rfl)),
 f257:=Tryz.func179.trans (congrArg some (by kernel_rfl)),
 f294:=Tryz.func204.trans (congrArg some (by kernel_rfl)),
 f295:=Tryz.func205.trans (congrArg some (by kernel_rfl)),
 f296:=Tryz.func206.trans (congrArg some (by kernel_rfl)),
 f297:=Tryz.func207.trans (congrArg some (by kernel_rfl)),
 f298:=Tryz.func208.trans (congrArg some (by kernel_rfl)),
 f299:=Tryz.func209.trans (congrArg some (by kernel_rfl)),
 f300:=Tryz.func211.trans (congrArg some (by kernel_rfl)),
 f301:=Tryz.func212.trans (congrArg some (by kernel_rfl)),
 f328:=Tryz.func233.trans (congrArg some (by kernel_rfl)),
 f329:=Tryz.func234.trans (congrArg some (by kernel_rfl)),
 f330:=Tryz.func235.trans (congrArg some (by kernel_rfl)),
 f331:=Tryz.func236.trans (congrArg some (by kernel_rfl)),
 f332:=Tryz.func237.trans (congrArg some (by kernel_rfl)),
 f343:=Tryz.func245.trans (congrArg some (by kernel_rfl)),
 t0:=Tryz.underlying0,
 a0:=Tryz.isAgg0,
 z0:=Tryz.sizeOf0,
 v0:=Tryz.zeroValue0,
 t3:=Tryz.underlying3,
 a3:=Tryz.isAgg3,
 z3:=Tryz.sizeOf3,
 v3:=Tryz.zeroValue3,
 t4:=Tryz.underlying4,
 a4:=Tryz.isAgg4,
 z4:=Tryz.sizeOf4,
 v4:=Tryz.zeroValue4,
 t5:=Tryz.underlying5,
 a5:=Tryz.isAgg5,
 z5:=Tryz.sizeOf5,
 v5:=Tryz.zeroValue5,
 t9:=Tryz.underlying9,
 a9:=Tryz.isAgg9,
 z9:=Tryz.sizeOf9,
 v9:=Tryz.zeroValue9,
 t28:=Tryz.underlying31,
 a28:=Tryz.isAgg31,
 z28:=Tryz.sizeOf31,
 v28:=Tryz.zeroValue31,
 t46:=Tryz.underlying218,
 a46:=Tryz.isAgg218,
 z46:=Tryz.sizeOf218,
 v46:=Tryz.zeroValue218,
 t51:=Tryz.underlying210,
 a51:=Tryz.isAgg210,
 z51:=Tryz.sizeOf210,
 v51:=Tryz.zeroValue210,
 t53:=Tryz.underlying248,
 a53:=Tryz.isAgg248,
 z53:=Tryz.sizeOf248,
 v53:=Tryz.zeroValue248,
 t131:=Tryz.underlying136,
 a131:=Tryz.isAgg136,
 z131:=Tryz.sizeOf136,
 v131:=Tryz.zeroValue136,
 t182:=Tryz.underlying239,
 a182:=Tryz.isAgg239,
 z182:=Tryz.sizeOf239,
 v182:=Tryz.zeroValue239,
 t183:=Tryz.underlying240,
 a183:=Tryz.isAgg240,
 z183:=Tryz.sizeOf240,
 v183:=Tryz.zeroValue240,
 t218:=Tryz.underlying263,
 a218:=Tryz.isAgg263,
 z218:=Tryz.sizeOf263,
 v218:=Tryz.zeroValue263,
 t222:=Tryz.underlying267,
 a222:=Tryz.isAgg267,
 z222:=Tryz.sizeOf267,
 v222:=Tryz.zeroValue267,
 t228:=Tryz.underlying274,
 a228:=Tryz.isAgg274,
 z228:=Tryz.sizeOf274,
 v228:=Tryz.zeroValue274,
 t229:=Tryz.underlying201,
 a229:=Tryz.isAgg201,
 z229:=Tryz.sizeOf201,
 v229:=Tryz.zeroValue201}
def qIW:Go.Shelf.Ren:=⟨λ|20=>121|n=>n,λ|22=>31|3=>3|4=>4|0=>0|n=>n,λn=>n⟩
theorem qOf:Go.Proofs.Lays2.n20 Tryz.prog qIW:={
 mixed:=by kernel_rfl,
 f20:=Tryz.func121.trans (congrArg some (by kernel_rfl)),
 t0:=Tryz.underlying0,
 a0:=Tryz.isAgg0,
 z0:=Tryz.sizeOf0,
 v0:=Tryz.zeroValue0,
 t3:=Tryz.underlying3,
 a3:=Tryz.isAgg3,
 z3:=Tryz.sizeOf3,
 v3:=Tryz.zeroValue3,
 t4:=Tryz.underlying4,
 a4:=Tryz.isAgg4,
 z4:=Tryz.sizeOf4,
 v4:=Tryz.zeroValue4,
 t22:=Tryz.underlying31,
 a22:=Tryz.isAgg31,
 z22:=Tryz.sizeOf31,
 v22:=Tryz.zeroValue31,
 i3:=by kernel_rfl}
theorem qZl:EE.funcs.get 154=some Tryz.f154:=xD (c:=vB Tryz.f154) Tryz.func154 rfl (by kernel_rfl)
theorem qZp:EE.funcs.get 121=some Tryz.f121:=xD (c:=vB Tryz.f121) Tryz.func121 rfl (by kernel_rfl)
def S3:List D->Option D:=lI 1000000000 3 1 qOn SI
def C3:List D->Option D:=lI 1000000000 3 1 qOn CI
def LL:List Lst:=[⟨154,none,false,S3⟩,⟨121,none,true,C3⟩]
def GG:List Gro:=[]
theorem hL:qY3 EE LL GG:=by
 refine⟨λY h=>?_,λY h=>by cases h⟩;rcases List.mem_cons.1 h with rfl|h
 ·exact⟨_,_,_,_,_,qNc ⟨_,qZl⟩ (λp cap w=>Any.slices_Sort_int_none qOe p cap w) λblk off cap x w b y h3=>Any.slices_Sort_int qOe blk off cap x w b y h3⟩
 rw[List.mem_singleton.1 h];exact⟨_,_,_,_,_,qRT ⟨_,qZp⟩ (λp cap w=>Any.slices_Compact_int_empty qOf p cap w) λblk off cap x w b y h3=>Any.slices_Compact_int qOf blk off cap x w b y h3⟩
theorem qZn:EE.funcs.get 123=some Tryz.f123:=xD (c:=vB Tryz.f123) Tryz.func123 rfl (by kernel_rfl)
theorem qZo:EE.funcs.get 122=some Tryz.f122:=xD (c:=vB Tryz.f122) Tryz.func122 rfl (by kernel_rfl)
theorem qZm:EE.funcs.get 153=some Tryz.f153:=xD (c:=vB Tryz.f153) Tryz.func153 rfl (by kernel_rfl)
noncomputable def II:qDL:=[(123,Tryz.f123,vB Tryz.f123),(122,Tryz.f122,vB Tryz.f122),(153,Tryz.f153,vB Tryz.f153)]
theorem zBI:eO EE II:=.cons qZn rfl <| .cons qZo rfl <| .cons qZm rfl .nil
noncomputable def zAv:qDx:=qUz EE II (qZI EE LL GG) 3
theorem zBH:∀(L:Lim) (H:AH) (g:zB) (Q:Res1->Prop),uP EE L H g (λ_=>Q) zAv:=qKh he zBI (λ_ _ _ _ _ _ _ _ _ _ _ _ _ _ h x=>qUy hL h x) 3
end Go.Proofs.YtminhjecpnpaeaaGreatDoor
