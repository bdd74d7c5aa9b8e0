/- Part of the proof. -/
import Derived.Lib.RowBridge
import Derived.Test.YtpodhdopgcedlaaGreatDoorProg
import Derived.KernelRfl
import Derived.Shelf.Slices.In.SortNone
import Derived.Shelf.Slices.CompactI
import Derived.Shelf.Sort.Plain
import Derived.Test.YtpodhdopgcedlaaGreatDoorO
set_option linter.unusedVariables false
set_option linter.unusedSimpArgs false
set_option linter.unusedSectionVars false
set_option linter.unnecessarySimpa false
set_option maxHeartbeats 4000000
set_option maxRecDepth 100000
namespace Go.Proofs.YtpodhdopgcedlaaGreatDoor
open Go.Proofs.Tryz
open Go Go.Sk
theorem a131:aH prog 131=some false:=by kernel_rfl
theorem vJ:aH prog 134=some true:=by kernel_rfl
theorem a2:aH prog 2=some false:=by kernel_rfl
theorem a204:aH prog 204=some true:=by kernel_rfl
theorem rS:aH prog 215=some true:=by kernel_rfl
theorem a22:aH prog 22=some false:=by kernel_rfl
theorem a28:aH prog 28=some false:=by kernel_rfl
theorem a3:aH prog 3=some false:=by kernel_rfl
theorem a35:aH prog 35=some false:=by kernel_rfl
theorem a4:aH prog 4=some false:=by kernel_rfl
theorem a43:aH prog 43=some false:=by kernel_rfl
theorem a5:aH prog 5=some false:=by kernel_rfl
theorem a9:aH prog 9=some false:=by kernel_rfl
theorem ot:ap prog 127=some (9,true):=by kernel_rfl
theorem e22:ap prog 22=some (7,true):=by kernel_rfl
theorem vu:ap prog 227=some (1,false):=by kernel_rfl
theorem e23:ap prog 23=some (4,true):=by kernel_rfl
theorem e24:ap prog 24=some (3,true):=by kernel_rfl
theorem e25:ap prog 25=some (3,true):=by kernel_rfl
theorem e26:ap prog 26=some (1,false):=by kernel_rfl
theorem e27:ap prog 27=some (5,true):=by kernel_rfl
theorem e28:ap prog 28=some (3,true):=by kernel_rfl
theorem e29:ap prog 29=some (4,true):=by kernel_rfl
theorem e30:ap prog 30=some (2,true):=by kernel_rfl
theorem e31:ap prog 31=some (2,true):=by kernel_rfl
theorem e36:ap prog 36=some (3,true):=by kernel_rfl
theorem e43:ap prog 43=some (1,false):=by kernel_rfl
theorem e48:ap prog 48=some (2,true):=by kernel_rfl
theorem e57:ap prog 57=some (1,false):=by kernel_rfl
theorem e65:ap prog 65=some (2,true):=by kernel_rfl
theorem e91:ap prog 91=some (1,false):=by kernel_rfl
theorem e99:ap prog 99=some (5,true):=by kernel_rfl
theorem f55_2:ch prog 55 2=some (2,1,false):=by kernel_rfl
theorem l227:bX prog 227=some (9,1,16):=by kernel_rfl
theorem l26:bX prog 26=some (43,1,24):=by kernel_rfl
theorem l36:bX prog 36=some (55,3,40):=by kernel_rfl
theorem l43:bX prog 43=some (3,1,8):=by kernel_rfl
theorem l48:bX prog 48=some (50,2,16):=by kernel_rfl
theorem l57:bX prog 57=some (4,1,1):=by kernel_rfl
theorem l91:bX prog 91=some (35,1,8):=by kernel_rfl
theorem p150:cv prog 150=some [(0,1),(1,1)]:=by kernel_rfl
theorem p157:cv prog 157=some [(0,11),(11,1),(12,1)]:=by kernel_rfl
theorem p204:cv prog 204=some [(0,1),(1,1)]:=by kernel_rfl
theorem rE:cv prog 215=some [(0,1),(1,1),(2,1),(3,1)]:=by kernel_rfl
theorem p64:cv prog 64=some [(0,1),(1,1),(2,1),(3,1),(4,1),(5,1),(6,1)]:=by kernel_rfl
theorem p90:cv prog 90=some [(0,11)]:=by kernel_rfl
theorem q50:gc prog 50=some [.int .i64, .int .i64]:=by kernel_rfl
theorem q64:gc prog 64=some [.int .u8, .int .i64, .int .i64, .int .i64, .int .i64, .int .i64, .int .i64]:=by kernel_rfl
theorem ar225:dg prog 225=some (57,2,true):=by kernel_rfl
theorem qV:dg prog 237=some (256,1,false):=by kernel_rfl
theorem oO:dg prog 50=some (2,1,false):=by kernel_rfl
theorem s101:aN prog 101=some 3:=by kernel_rfl
theorem s113:aN prog 113=some 1:=by kernel_rfl
theorem s119:aN prog 119=some 5:=by kernel_rfl
theorem s121:aN prog 121=some 3:=by kernel_rfl
theorem s126:aN prog 126=some 2:=by kernel_rfl
theorem s129:aN prog 129=some 2:=by kernel_rfl
theorem s131:aN prog 131=some 1:=by kernel_rfl
theorem s132:aN prog 132=some 1:=by kernel_rfl
theorem ku:aN prog 134=some 9:=by kernel_rfl
theorem s137:aN prog 137=some 2:=by kernel_rfl
theorem s140:aN prog 140=some 4:=by kernel_rfl
theorem s142:aN prog 142=some 3:=by kernel_rfl
theorem s150:aN prog 150=some 2:=by kernel_rfl
theorem s2:aN prog 2=some 1:=by kernel_rfl
theorem rz:aN prog 204=some 2:=by kernel_rfl
theorem dW:aN prog 215=some 4:=by kernel_rfl
theorem s26:aN prog 26=some 1:=by kernel_rfl
theorem s3:aN prog 3=some 1:=by kernel_rfl
theorem s4:aN prog 4=some 1:=by kernel_rfl
theorem s43:aN prog 43=some 1:=by kernel_rfl
theorem s50:aN prog 50=some 2:=by kernel_rfl
theorem s57:aN prog 57=some 1:=by kernel_rfl
theorem s64:aN prog 64=some 7:=by kernel_rfl
theorem s67:aN prog 67=some 4:=by kernel_rfl
theorem s82:aN prog 82=some 1:=by kernel_rfl
theorem s9:aN prog 9=some 1:=by kernel_rfl
theorem s90:aN prog 90=some 11:=by kernel_rfl
theorem z101:aB prog 101=some [.slice none 0 0, .int .i64 0, .int .i64 0]:=by kernel_rfl
theorem z113:aB prog 113=some [.nilFunc]:=by kernel_rfl
theorem z119:aB prog 119=some [.int .i64 0, .int .i64 0, .int .i64 0, .bool false, .slice none 0 0]:=by kernel_rfl
theorem z121:aB prog 121=some [.int .i64 0, .int .i64 0, .int .i64 0]:=by kernel_rfl
theorem z126:aB prog 126=some [.slice none 0 0, .slice none 0 0]:=by kernel_rfl
theorem z129:aB prog 129=some [.int .i64 0, .slice none 0 0]:=by kernel_rfl
theorem wj:aB prog 134=some [.int .u8 0, .int .u8 0, .int .i64 0, .int .i64 0, .int .i64 0, .int .i64 0, .int .i64 0, .int .i64 0, .slice none 0 0]:=by kernel_rfl
theorem z137:aB prog 137=some [.int .i64 0, .int .u8 0]:=by kernel_rfl
theorem z140:aB prog 140=some [.int .i64 0, .int .i64 0, .int .i64 0, .bool false]:=by kernel_rfl
theorem z142:aB prog 142=some [.int .i64 0, .int .i64 0, .int .i64 0]:=by kernel_rfl
theorem z150:aB prog 150=some [.int .i64 0, .int .i64 0]:=by kernel_rfl
theorem z157:aB prog 157=some [.slice none 0 0, .slice none 0 0, .slice none 0 0, .slice none 0 0, .slice none 0 0, .slice none 0 0, .slice none 0 0, .int .i64 0, .slice none 0 0, .slice none 0 0, .slice none 0 0, .int .i64 0, .int .i64 0]:=by kernel_rfl
theorem uj:aB prog 204=some [.string ByteArray.empty, .string ByteArray.empty]:=by kernel_rfl
theorem fa:aB prog 215=some [.nilFunc, .nilFunc, .int .i64 0, .int .i64 0]:=by kernel_rfl
theorem z26:aB prog 26=some [.slice none 0 0]:=by kernel_rfl
theorem z3:aB prog 3=some [.int .i64 0]:=by kernel_rfl
theorem z35:aB prog 35=some [.nilFunc]:=by kernel_rfl
theorem z4:aB prog 4=some [.bool false]:=by kernel_rfl
theorem z43:aB prog 43=some [.slice none 0 0]:=by kernel_rfl
theorem z50:aB prog 50=some [.int .i64 0, .int .i64 0]:=by kernel_rfl
theorem z55:aB prog 55=some [.int .i64 0, .int .i64 0, .slice none 0 0]:=by kernel_rfl
theorem z57:aB prog 57=some [.slice none 0 0]:=by kernel_rfl
theorem z64:aB prog 64=some [.int .u8 0, .int .i64 0, .int .i64 0, .int .i64 0, .int .i64 0, .int .i64 0, .int .i64 0]:=by kernel_rfl
theorem z67:aB prog 67=some [.int .i64 0, .int .i64 0, .slice none 0 0, .int .i64 0]:=by kernel_rfl
theorem z82:aB prog 82=some [.nilFunc]:=by kernel_rfl
theorem z9:aB prog 9=some [.string ByteArray.empty]:=by kernel_rfl
theorem z90:aB prog 90=some [.slice none 0 0, .slice none 0 0, .slice none 0 0, .slice none 0 0, .slice none 0 0, .slice none 0 0, .slice none 0 0, .int .i64 0, .slice none 0 0, .slice none 0 0, .slice none 0 0]:=by kernel_rfl
instance:Tys prog:=⟨⟨(.nd 90 true (.nd 30 false (.nd 23 false (.nd 5 false (.nd 3 false (.nd 2 false .lf .lf) (.nd 4 false .lf .lf)) (.nd 22 false (.nd 9 false .lf .lf) .lf)) (.nd 27 false (.nd 25 false (.nd 24 false .lf .lf) (.nd 26 false .lf .lf)) (.nd 29 false (.nd 28 false .lf .lf) .lf))) (.nd 55 true (.nd 36 false (.nd 33 true (.nd 31 false .lf .lf) (.nd 35 false .lf .lf)) (.nd 50 true (.nd 43 false .lf .lf) .lf)) (.nd 65 false (.nd 62 false (.nd 57 false .lf .lf) (.nd 64 true .lf .lf)) (.nd 82 false (.nd 67 true .lf .lf) .lf)))) (.nd 135 false (.nd 121 true (.nd 104 true (.nd 101 true (.nd 99 false .lf .lf) (.nd 102 false .lf .lf)) (.nd 119 true (.nd 113 false .lf .lf) .lf)) (.nd 131 false (.nd 127 false (.nd 126 true .lf .lf) (.nd 129 true .lf .lf)) (.nd 134 true (.nd 132 false .lf .lf) .lf))) (.nd 211 false (.nd 150 true (.nd 140 true (.nd 137 true .lf .lf) (.nd 142 true .lf .lf)) (.nd 204 true (.nd 155 false .lf .lf) .lf)) (.nd 215 true (.nd 213 false (.nd 212 false .lf .lf) .lf) (.nd 231 false (.nd 220 false .lf .lf) .lf))))),
 (.nd 104 5 (.nd 50 2 (.nd 9 1 (.nd 3 1 (.nd 2 1 .lf .lf) (.nd 4 1 .lf .lf)) (.nd 33 11 (.nd 26 1 .lf .lf) (.nd 43 1 .lf .lf))) (.nd 67 4 (.nd 57 1 (.nd 55 3 .lf .lf) (.nd 64 7 .lf .lf)) (.nd 90 11 (.nd 82 1 .lf .lf) (.nd 101 3 .lf .lf)))) (.nd 134 9 (.nd 126 2 (.nd 119 5 (.nd 113 1 .lf .lf) (.nd 121 3 .lf .lf)) (.nd 131 1 (.nd 129 2 .lf .lf) (.nd 132 1 .lf .lf))) (.nd 150 2 (.nd 140 4 (.nd 137 2 .lf .lf) (.nd 142 3 .lf .lf)) (.nd 215 4 (.nd 204 2 .lf .lf) .lf)))),
 (.nd 7618 (2,1,false) (.nd 4101 (5,1,false) (.nd 2120 (8,1,false) (.nd 2116 (4,1,false) (.nd 2114 (2,1,false) (.nd 2113 (1,1,false) (.nd 2112 (0,1,false) .lf .lf) .lf) (.nd 2115 (3,1,false) .lf .lf)) (.nd 2118 (6,1,false) (.nd 2117 (5,1,false) .lf .lf) (.nd 2119 (7,1,false) .lf .lf))) (.nd 4097 (1,1,false) (.nd 3522 (2,1,false) (.nd 2122 (10,1,false) (.nd 2121 (9,1,false) .lf .lf) .lf) (.nd 4096 (0,1,false) .lf .lf)) (.nd 4099 (3,1,false) (.nd 4098 (2,1,false) .lf .lf) (.nd 4100 (4,1,false) .lf .lf)))) (.nd 6466 (2,1,false) (.nd 4291 (3,1,false) (.nd 4289 (1,1,false) (.nd 4288 (0,1,false) (.nd 4102 (6,1,false) .lf .lf) .lf) (.nd 4290 (2,1,false) .lf .lf)) (.nd 6464 (0,1,false) (.nd 5760 (0,11,true) .lf .lf) (.nd 6465 (1,1,false) .lf .lf))) (.nd 6659 (3,1,false) (.nd 6657 (1,1,false) (.nd 6656 (0,1,false) .lf .lf) (.nd 6658 (2,1,false) .lf .lf)) (.nd 7616 (0,1,false) (.nd 6660 (4,1,false) .lf .lf) (.nd 7617 (1,1,false) .lf .lf))))) (.nd 8584 (8,1,false) (.nd 8257 (1,1,false) (.nd 7746 (2,1,false) (.nd 7744 (0,1,false) (.nd 7620 (4,1,false) (.nd 7619 (3,1,false) .lf .lf) .lf) (.nd 7745 (1,1,false) .lf .lf)) (.nd 8065 (1,1,false) (.nd 8064 (0,1,false) .lf .lf) (.nd 8256 (0,1,false) .lf .lf))) (.nd 8580 (4,1,false) (.nd 8578 (2,1,false) (.nd 8577 (1,1,false) (.nd 8576 (0,1,false) .lf .lf) .lf) (.nd 8579 (3,1,false) .lf .lf)) (.nd 8582 (6,1,false) (.nd 8581 (5,1,false) .lf .lf) (.nd 8583 (7,1,false) .lf .lf)))) (.nd 10048 (0,11,true) (.nd 8962 (2,1,false) (.nd 8960 (0,1,false) (.nd 8769 (1,1,false) (.nd 8768 (0,1,false) .lf .lf) .lf) (.nd 8961 (1,1,false) .lf .lf)) (.nd 9089 (1,1,false) (.nd 9088 (0,1,false) .lf .lf) (.nd 9090 (2,1,false) .lf .lf))) (.nd 13760 (0,1,false) (.nd 10050 (12,1,false) (.nd 10049 (11,1,false) .lf .lf) (.nd 13057 (1,1,false) .lf .lf)) (.nd 13762 (2,1,false) (.nd 13761 (1,1,false) .lf .lf) (.nd 13763 (3,1,false) .lf .lf)))))),
 (.nd 62 .u8 (.nd 3 .i64 (.nd 2 .i64 .lf .lf) (.nd 5 .u8 .lf .lf)) (.nd 207 .u8 (.nd 97 .u64 .lf .lf) .lf))⟩,by kernel_rfl⟩
open Go
def Tryz.laysSort_ren:Go.Shelf.Ren:=⟨fun|189=>34|125=>69|257=>68|128=>123|129=>124|294=>114|295=>115|296=>116|297=>117|298=>118|299=>119|216=>120|300=>121|301=>122|328=>145|329=>146|330=>147|331=>148|332=>149|215=>150|343=>158|n=>n,fun|28=>43|3=>3|46=>97|0=>0|51=>175|53=>177|4=>4|183=>170|182=>169|131=>106|5=>5|9=>9|218=>216|222=>220|228=>234|229=>235|n=>n,fun|n=>n⟩
theorem gU:Go.Proofs.Lays.n189 prog Tryz.laysSort_ren where
 mixed:=by kernel_rfl
 f125:=func69.trans (congrArg some kR)
 f128:=func123.trans (congrArg some kR)
 f129:=func124.trans (congrArg some kR)
 f189:=func34.trans (congrArg some kR)
 f215:=func150.trans (congrArg some kR)
 f216:=func120.trans (congrArg some kR)
 f257:=func68.trans (congrArg some kR)
 f294:=func114.trans (congrArg some kR)
 f295:=func115.trans (congrArg some kR)
 f296:=func116.trans (congrArg some kR)
 f297:=func117.trans (congrArg some kR)
 f298:=func118.trans (congrArg some kR)
 f299:=func119.trans (congrArg some kR)
 f300:=func121.trans (congrArg some kR)
 f301:=func122.trans (congrArg some kR)
 f328:=func145.trans (congrArg some kR)
 f329:=func146.trans (congrArg some kR)
 f330:=func147.trans (congrArg some kR)
 f331:=func148.trans (congrArg some kR)
 f332:=func149.trans (congrArg some kR)
 f343:=func158.trans (congrArg some kR)
 t0:=underlying0
 a0:=Tryz.isAgg0
 z0:=Tryz.sizeOf0
 v0:=Tryz.zeroValue0
 t3:=underlying3
 a3:=Tryz.isAgg3
 z3:=Tryz.sizeOf3
 v3:=Tryz.zeroValue3
 t4:=underlying4
 a4:=Tryz.isAgg4
 z4:=Tryz.sizeOf4
 v4:=Tryz.zeroValue4
 t5:=underlying5
 a5:=Tryz.isAgg5
 z5:=Tryz.sizeOf5
 v5:=Tryz.zeroValue5
 t9:=underlying9
 a9:=Tryz.isAgg9
 z9:=Tryz.sizeOf9
 v9:=Tryz.zeroValue9
 t28:=underlying43
 a28:=Tryz.isAgg43
 z28:=Tryz.sizeOf43
 v28:=Tryz.zeroValue43
 t46:=underlying97
 a46:=Tryz.isAgg97
 z46:=Tryz.sizeOf97
 v46:=Tryz.zeroValue97
 t51:=underlying175
 a51:=Tryz.isAgg175
 z51:=Tryz.sizeOf175
 v51:=Tryz.zeroValue175
 t53:=underlying177
 a53:=Tryz.isAgg177
 z53:=Tryz.sizeOf177
 v53:=Tryz.zeroValue177
 t131:=underlying106
 a131:=Tryz.isAgg106
 z131:=Tryz.sizeOf106
 v131:=Tryz.zeroValue106
 t182:=underlying169
 a182:=Tryz.isAgg169
 z182:=Tryz.sizeOf169
 v182:=Tryz.zeroValue169
 t183:=underlying170
 a183:=Tryz.isAgg170
 z183:=Tryz.sizeOf170
 v183:=Tryz.zeroValue170
 t218:=underlying216
 a218:=Tryz.isAgg216
 z218:=Tryz.sizeOf216
 v218:=Tryz.zeroValue216
 t222:=underlying220
 a222:=Tryz.isAgg220
 z222:=Tryz.sizeOf220
 v222:=Tryz.zeroValue220
 t228:=underlying234
 a228:=Tryz.isAgg234
 z228:=Tryz.sizeOf234
 v228:=Tryz.zeroValue234
 t229:=underlying235
 a229:=Tryz.isAgg235
 z229:=Tryz.sizeOf235
 v229:=Tryz.zeroValue235
def Tryz.laysCompact_ren:Go.Shelf.Ren:=⟨fun|20=>41|n=>n,fun|22=>43|3=>3|4=>4|0=>0|n=>n,fun|n=>n⟩
theorem eW:Go.Proofs.Lays2.n20 prog Tryz.laysCompact_ren where
 mixed:=by kernel_rfl
 f20:=func41.trans (congrArg some kR)
 t0:=underlying0
 a0:=Tryz.isAgg0
 z0:=Tryz.sizeOf0
 v0:=Tryz.zeroValue0
 t3:=underlying3
 a3:=Tryz.isAgg3
 z3:=Tryz.sizeOf3
 v3:=Tryz.zeroValue3
 t4:=underlying4
 a4:=Tryz.isAgg4
 z4:=Tryz.sizeOf4
 v4:=Tryz.zeroValue4
 t22:=underlying43
 a22:=Tryz.isAgg43
 z22:=Tryz.sizeOf43
 v22:=Tryz.zeroValue43
 i3:=by kernel_rfl
end Go.Proofs.YtpodhdopgcedlaaGreatDoor
