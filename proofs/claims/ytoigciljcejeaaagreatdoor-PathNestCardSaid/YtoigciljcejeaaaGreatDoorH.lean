/- Part of the proof. -/
import Derived.Test.YtoigciljcejeaaaGreatDoorProg
import Derived.KernelRfl
import Derived.Shelf.Slices.In.SortNone
import Derived.Shelf.Slices.CompactI
import Derived.Shelf.Sort.Plain
import Derived.Lib.RowBridge
import Derived.Test.YtoigciljcejeaaaGreatDoorX
set_option linter.all false
namespace Go.Proofs.YtoigciljcejeaaaGreatDoor
open Go Go.Sk
def Tryz.laysSort_ren:Go.Shelf.Ren:=⟨fun|189=>74|125=>98|257=>97|128=>117|129=>118|294=>108|295=>109|296=>110|297=>111|298=>112|299=>113|216=>114|300=>115|301=>116|328=>130|329=>131|330=>132|331=>133|332=>134|215=>135|343=>139|n=>n,fun|28=>37|3=>3|46=>195|0=>0|51=>219|53=>221|4=>4|183=>214|182=>213|131=>91|5=>5|9=>9|218=>232|222=>205|228=>244|229=>245|n=>n,fun|n=>n⟩
theorem dX:Go.Proofs.Lays.n189 Tryz.prog Tryz.laysSort_ren where
 mixed:=by kernel_rfl
 f125:=Tryz.func98.trans (congrArg some kR)
 f128:=Tryz.func117.trans (congrArg some kR)
 f129:=Tryz.func118.trans (congrArg some kR)
 f189:=Tryz.func74.trans (congrArg some kR)
 f215:=Tryz.func135.trans (congrArg some kR)
 f216:=Tryz.func114.trans (congrArg some kR)
 f257:=Tryz.func97.trans (congrArg some kR)
 f294:=Tryz.func108.trans (congrArg some kR)
 f295:=Tryz.func109.trans (congrArg some kR)
 f296:=Tryz.func110.trans (congrArg some kR)
 f297:=Tryz.func111.trans (congrArg some kR)
 f298:=Tryz.func112.trans (congrArg some kR)
 f299:=Tryz.func113.trans (congrArg some kR)
 f300:=Tryz.func115.trans (congrArg some kR)
 f301:=Tryz.func116.trans (congrArg some kR)
 f328:=Tryz.func130.trans (congrArg some kR)
 f329:=Tryz.func131.trans (congrArg some kR)
 f330:=Tryz.func132.trans (congrArg some kR)
 f331:=Tryz.func133.trans (congrArg some kR)
 f332:=Tryz.func134.trans (congrArg some kR)
 f343:=Tryz.func139.trans (congrArg some kR)
 t0:=Tryz.underlying0
 a0:=Tryz.isAgg0
 z0:=Tryz.sizeOf0
 v0:=Tryz.zeroValue0
 t3:=Tryz.underlying3
 a3:=Tryz.isAgg3
 z3:=Tryz.sizeOf3
 v3:=Tryz.zeroValue3
 t4:=Tryz.underlying4
 a4:=Tryz.isAgg4
 z4:=Tryz.sizeOf4
 v4:=Tryz.zeroValue4
 t5:=Tryz.underlying5
 a5:=Tryz.isAgg5
 z5:=Tryz.sizeOf5
 v5:=Tryz.zeroValue5
 t9:=Tryz.underlying9
 a9:=Tryz.isAgg9
 z9:=Tryz.sizeOf9
 v9:=Tryz.zeroValue9
 t28:=Tryz.underlying37
 a28:=Tryz.isAgg37
 z28:=Tryz.sizeOf37
 v28:=Tryz.zeroValue37
 t46:=Tryz.underlying195
 a46:=Tryz.isAgg195
 z46:=Tryz.sizeOf195
 v46:=Tryz.zeroValue195
 t51:=Tryz.underlying219
 a51:=Tryz.isAgg219
 z51:=Tryz.sizeOf219
 v51:=Tryz.zeroValue219
 t53:=Tryz.underlying221
 a53:=Tryz.isAgg221
 z53:=Tryz.sizeOf221
 v53:=Tryz.zeroValue221
 t131:=Tryz.underlying91
 a131:=Tryz.isAgg91
 z131:=Tryz.sizeOf91
 v131:=Tryz.zeroValue91
 t182:=Tryz.underlying213
 a182:=Tryz.isAgg213
 z182:=Tryz.sizeOf213
 v182:=Tryz.zeroValue213
 t183:=Tryz.underlying214
 a183:=Tryz.isAgg214
 z183:=Tryz.sizeOf214
 v183:=Tryz.zeroValue214
 t218:=Tryz.underlying232
 a218:=Tryz.isAgg232
 z218:=Tryz.sizeOf232
 v218:=Tryz.zeroValue232
 t222:=Tryz.underlying205
 a222:=Tryz.isAgg205
 z222:=Tryz.sizeOf205
 v222:=Tryz.zeroValue205
 t228:=Tryz.underlying244
 a228:=Tryz.isAgg244
 z228:=Tryz.sizeOf244
 v228:=Tryz.zeroValue244
 t229:=Tryz.underlying245
 a229:=Tryz.isAgg245
 z229:=Tryz.sizeOf245
 v229:=Tryz.zeroValue245
def Tryz.laysCompact_ren:Go.Shelf.Ren:=⟨fun|20=>75|n=>n,fun|22=>37|3=>3|4=>4|0=>0|n=>n,fun|n=>n⟩
theorem fj:Go.Proofs.Lays2.n20 Tryz.prog Tryz.laysCompact_ren where
 mixed:=by kernel_rfl
 f20:=Tryz.func75.trans (congrArg some kR)
 t0:=Tryz.underlying0
 a0:=Tryz.isAgg0
 z0:=Tryz.sizeOf0
 v0:=Tryz.zeroValue0
 t3:=Tryz.underlying3
 a3:=Tryz.isAgg3
 z3:=Tryz.sizeOf3
 v3:=Tryz.zeroValue3
 t4:=Tryz.underlying4
 a4:=Tryz.isAgg4
 z4:=Tryz.sizeOf4
 v4:=Tryz.zeroValue4
 t22:=Tryz.underlying37
 a22:=Tryz.isAgg37
 z22:=Tryz.sizeOf37
 v22:=Tryz.zeroValue37
 i3:=by kernel_rfl
end Go.Proofs.YtoigciljcejeaaaGreatDoor
