/- Part of the proof. -/
import Derived.Lib.RowBridge
import Derived.Test.YtpodhdopgcedlaaGreatDoorProg
import Derived.KernelRfl
import Derived.Shelf.Slices.In.SortNone
import Derived.Shelf.Slices.CompactI
import Derived.Shelf.Sort.Plain
import Derived.Test.YtpodhdopgcedlaaGreatDoorO
set_option linter.unusedVariables false
set_option linter.unusedSimpArgs false
set_option linter.unusedSectionVars false
set_option linter.unnecessarySimpa false
set_option maxHeartbeats 4000000
set_option maxRecDepth 100000
namespace Go.Proofs.YtpodhdopgcedlaaGreatDoor
open Go.Proofs.Tryz
open Go Go.Sk
theorem a131:aE prog 131=some false:=by kernel_rfl
theorem vg:aE prog 134=some true:=by kernel_rfl
theorem a2:aE prog 2=some false:=by kernel_rfl
theorem a204:aE prog 204=some true:=by kernel_rfl
theorem rn:aE prog 215=some true:=by kernel_rfl
theorem a22:aE prog 22=some false:=by kernel_rfl
theorem a28:aE prog 28=some false:=by kernel_rfl
theorem a3:aE prog 3=some false:=by kernel_rfl
theorem a35:aE prog 35=some false:=by kernel_rfl
theorem a4:aE prog 4=some false:=by kernel_rfl
theorem a43:aE prog 43=some false:=by kernel_rfl
theorem a5:aE prog 5=some false:=by kernel_rfl
theorem a9:aE prog 9=some false:=by kernel_rfl
theorem nR:al prog 127=some (9,true):=by kernel_rfl
theorem e22:al prog 22=some (7,true):=by kernel_rfl
theorem uX:al prog 227=some (1,false):=by kernel_rfl
theorem e23:al prog 23=some (4,true):=by kernel_rfl
theorem e24:al prog 24=some (3,true):=by kernel_rfl
theorem e25:al prog 25=some (3,true):=by kernel_rfl
theorem e26:al prog 26=some (1,false):=by kernel_rfl
theorem e27:al prog 27=some (5,true):=by kernel_rfl
theorem e28:al prog 28=some (3,true):=by kernel_rfl
theorem e29:al prog 29=some (4,true):=by kernel_rfl
theorem e30:al prog 30=some (2,true):=by kernel_rfl
theorem e31:al prog 31=some (2,true):=by kernel_rfl
theorem e36:al prog 36=some (3,true):=by kernel_rfl
theorem e43:al prog 43=some (1,false):=by kernel_rfl
theorem e48:al prog 48=some (2,true):=by kernel_rfl
theorem e57:al prog 57=some (1,false):=by kernel_rfl
theorem e59:al prog 59=some (1,false):=by kernel_rfl
theorem e65:al prog 65=some (2,true):=by kernel_rfl
theorem e91:al prog 91=some (1,false):=by kernel_rfl
theorem e99:al prog 99=some (5,true):=by kernel_rfl
theorem f55_2:bY prog 55 2=some (2,1,false):=by kernel_rfl
theorem l227:bS prog 227=some (9,1,16):=by kernel_rfl
theorem l26:bS prog 26=some (43,1,24):=by kernel_rfl
theorem l36:bS prog 36=some (55,3,40):=by kernel_rfl
theorem l43:bS prog 43=some (3,1,8):=by kernel_rfl
theorem l48:bS prog 48=some (50,2,16):=by kernel_rfl
theorem l57:bS prog 57=some (4,1,1):=by kernel_rfl
theorem l91:bS prog 91=some (35,1,8):=by kernel_rfl
theorem p150:bR prog 150=some [(0,1),(1,1)]:=by kernel_rfl
theorem p157:bR prog 157=some [(0,11),(11,1),(12,1)]:=by kernel_rfl
theorem p204:bR prog 204=some [(0,1),(1,1)]:=by kernel_rfl
theorem qW:bR prog 215=some [(0,1),(1,1),(2,1),(3,1)]:=by kernel_rfl
theorem p55:bR prog 55=some [(0,1),(1,1),(2,1)]:=by kernel_rfl
theorem p64:bR prog 64=some [(0,1),(1,1),(2,1),(3,1),(4,1),(5,1),(6,1)]:=by kernel_rfl
theorem p90:bR prog 90=some [(0,11)]:=by kernel_rfl
theorem q64:gV prog 64=some [.int .u8, .int .i64, .int .i64, .int .i64, .int .i64, .int .i64, .int .i64]:=by kernel_rfl
theorem ar225:cX prog 225=some (57,2,true):=by kernel_rfl
theorem qq:cX prog 237=some (256,1,false):=by kernel_rfl
theorem rk:cX prog 50=some (2,1,false):=by kernel_rfl
theorem s101:aI prog 101=some 3:=by kernel_rfl
theorem s113:aI prog 113=some 1:=by kernel_rfl
theorem s119:aI prog 119=some 5:=by kernel_rfl
theorem s121:aI prog 121=some 3:=by kernel_rfl
theorem s126:aI prog 126=some 2:=by kernel_rfl
theorem s129:aI prog 129=some 2:=by kernel_rfl
theorem s131:aI prog 131=some 1:=by kernel_rfl
theorem s132:aI prog 132=some 1:=by kernel_rfl
theorem j0:aI prog 134=some 9:=by kernel_rfl
theorem s137:aI prog 137=some 2:=by kernel_rfl
theorem s140:aI prog 140=some 4:=by kernel_rfl
theorem s142:aI prog 142=some 3:=by kernel_rfl
theorem s150:aI prog 150=some 2:=by kernel_rfl
theorem s2:aI prog 2=some 1:=by kernel_rfl
theorem qQ:aI prog 204=some 2:=by kernel_rfl
theorem dK:aI prog 215=some 4:=by kernel_rfl
theorem s26:aI prog 26=some 1:=by kernel_rfl
theorem s3:aI prog 3=some 1:=by kernel_rfl
theorem s4:aI prog 4=some 1:=by kernel_rfl
theorem s43:aI prog 43=some 1:=by kernel_rfl
theorem s50:aI prog 50=some 2:=by kernel_rfl
theorem s57:aI prog 57=some 1:=by kernel_rfl
theorem s64:aI prog 64=some 7:=by kernel_rfl
theorem s67:aI prog 67=some 4:=by kernel_rfl
theorem s82:aI prog 82=some 1:=by kernel_rfl
theorem s9:aI prog 9=some 1:=by kernel_rfl
theorem s90:aI prog 90=some 11:=by kernel_rfl
theorem z101:ay prog 101=some [.slice none 0 0, .int .i64 0, .int .i64 0]:=by kernel_rfl
theorem z113:ay prog 113=some [.nilFunc]:=by kernel_rfl
theorem z119:ay prog 119=some [.int .i64 0, .int .i64 0, .int .i64 0, .bool false, .slice none 0 0]:=by kernel_rfl
theorem z121:ay prog 121=some [.int .i64 0, .int .i64 0, .int .i64 0]:=by kernel_rfl
theorem z126:ay prog 126=some [.slice none 0 0, .slice none 0 0]:=by kernel_rfl
theorem z129:ay prog 129=some [.int .i64 0, .slice none 0 0]:=by kernel_rfl
theorem vM:ay prog 134=some [.int .u8 0, .int .u8 0, .int .i64 0, .int .i64 0, .int .i64 0, .int .i64 0, .int .i64 0, .int .i64 0, .slice none 0 0]:=by kernel_rfl
theorem z137:ay prog 137=some [.int .i64 0, .int .u8 0]:=by kernel_rfl
theorem z140:ay prog 140=some [.int .i64 0, .int .i64 0, .int .i64 0, .bool false]:=by kernel_rfl
theorem z142:ay prog 142=some [.int .i64 0, .int .i64 0, .int .i64 0]:=by kernel_rfl
theorem z150:ay prog 150=some [.int .i64 0, .int .i64 0]:=by kernel_rfl
theorem z157:ay prog 157=some [.slice none 0 0, .slice none 0 0, .slice none 0 0, .slice none 0 0, .slice none 0 0, .slice none 0 0, .slice none 0 0, .int .i64 0, .slice none 0 0, .slice none 0 0, .slice none 0 0, .int .i64 0, .int .i64 0]:=by kernel_rfl
theorem tJ:ay prog 204=some [.string ByteArray.empty, .string ByteArray.empty]:=by kernel_rfl
theorem eT:ay prog 215=some [.nilFunc, .nilFunc, .int .i64 0, .int .i64 0]:=by kernel_rfl
theorem z26:ay prog 26=some [.slice none 0 0]:=by kernel_rfl
theorem z3:ay prog 3=some [.int .i64 0]:=by kernel_rfl
theorem z35:ay prog 35=some [.nilFunc]:=by kernel_rfl
theorem z4:ay prog 4=some [.bool false]:=by kernel_rfl
theorem z43:ay prog 43=some [.slice none 0 0]:=by kernel_rfl
theorem z50:ay prog 50=some [.int .i64 0, .int .i64 0]:=by kernel_rfl
theorem z55:ay prog 55=some [.int .i64 0, .int .i64 0, .slice none 0 0]:=by kernel_rfl
theorem z57:ay prog 57=some [.slice none 0 0]:=by kernel_rfl
theorem z64:ay prog 64=some [.int .u8 0, .int .i64 0, .int .i64 0, .int .i64 0, .int .i64 0, .int .i64 0, .int .i64 0]:=by kernel_rfl
theorem z67:ay prog 67=some [.int .i64 0, .int .i64 0, .slice none 0 0, .int .i64 0]:=by kernel_rfl
theorem z82:ay prog 82=some [.nilFunc]:=by kernel_rfl
theorem z9:ay prog 9=some [.string ByteArray.empty]:=by kernel_rfl
theorem z90:ay prog 90=some [.slice none 0 0, .slice none 0 0, .slice none 0 0, .slice none 0 0, .slice none 0 0, .slice none 0 0, .slice none 0 0, .int .i64 0, .slice none 0 0, .slice none 0 0, .slice none 0 0]:=by kernel_rfl
instance:Tys prog:=⟨⟨(.nd 90 true (.nd 30 false (.nd 23 false (.nd 5 false (.nd 3 false (.nd 2 false .lf .lf) (.nd 4 false .lf .lf)) (.nd 22 false (.nd 9 false .lf .lf) .lf)) (.nd 27 false (.nd 25 false (.nd 24 false .lf .lf) (.nd 26 false .lf .lf)) (.nd 29 false (.nd 28 false .lf .lf) .lf))) (.nd 55 true (.nd 36 false (.nd 33 true (.nd 31 false .lf .lf) (.nd 35 false .lf .lf)) (.nd 50 true (.nd 43 false .lf .lf) .lf)) (.nd 65 false (.nd 62 false (.nd 57 false .lf .lf) (.nd 64 true .lf .lf)) (.nd 82 false (.nd 67 true .lf .lf) .lf)))) (.nd 135 false (.nd 121 true (.nd 104 true (.nd 101 true (.nd 99 false .lf .lf) (.nd 102 false .lf .lf)) (.nd 119 true (.nd 113 false .lf .lf) .lf)) (.nd 131 false (.nd 127 false (.nd 126 true .lf .lf) (.nd 129 true .lf .lf)) (.nd 134 true (.nd 132 false .lf .lf) .lf))) (.nd 211 false (.nd 150 true (.nd 140 true (.nd 137 true .lf .lf) (.nd 142 true .lf .lf)) (.nd 204 true (.nd 155 false .lf .lf) .lf)) (.nd 215 true (.nd 213 false (.nd 212 false .lf .lf) .lf) (.nd 231 false (.nd 220 false .lf .lf) .lf))))),
 (.nd 104 5 (.nd 50 2 (.nd 9 1 (.nd 3 1 (.nd 2 1 .lf .lf) (.nd 4 1 .lf .lf)) (.nd 33 11 (.nd 26 1 .lf .lf) (.nd 43 1 .lf .lf))) (.nd 67 4 (.nd 57 1 (.nd 55 3 .lf .lf) (.nd 64 7 .lf .lf)) (.nd 90 11 (.nd 82 1 .lf .lf) (.nd 101 3 .lf .lf)))) (.nd 134 9 (.nd 126 2 (.nd 119 5 (.nd 113 1 .lf .lf) (.nd 121 3 .lf .lf)) (.nd 131 1 (.nd 129 2 .lf .lf) (.nd 132 1 .lf .lf))) (.nd 150 2 (.nd 140 4 (.nd 137 2 .lf .lf) (.nd 142 3 .lf .lf)) (.nd 215 4 (.nd 204 2 .lf .lf) .lf)))),
 (.nd 7618 (2,1,false) (.nd 4101 (5,1,false) (.nd 2120 (8,1,false) (.nd 2116 (4,1,false) (.nd 2114 (2,1,false) (.nd 2113 (1,1,false) (.nd 2112 (0,1,false) .lf .lf) .lf) (.nd 2115 (3,1,false) .lf .lf)) (.nd 2118 (6,1,false) (.nd 2117 (5,1,false) .lf .lf) (.nd 2119 (7,1,false) .lf .lf))) (.nd 4097 (1,1,false) (.nd 3522 (2,1,false) (.nd 2122 (10,1,false) (.nd 2121 (9,1,false) .lf .lf) .lf) (.nd 4096 (0,1,false) .lf .lf)) (.nd 4099 (3,1,false) (.nd 4098 (2,1,false) .lf .lf) (.nd 4100 (4,1,false) .lf .lf)))) (.nd 6466 (2,1,false) (.nd 4291 (3,1,false) (.nd 4289 (1,1,false) (.nd 4288 (0,1,false) (.nd 4102 (6,1,false) .lf .lf) .lf) (.nd 4290 (2,1,false) .lf .lf)) (.nd 6464 (0,1,false) (.nd 5760 (0,11,true) .lf .lf) (.nd 6465 (1,1,false) .lf .lf))) (.nd 6659 (3,1,false) (.nd 6657 (1,1,false) (.nd 6656 (0,1,false) .lf .lf) (.nd 6658 (2,1,false) .lf .lf)) (.nd 7616 (0,1,false) (.nd 6660 (4,1,false) .lf .lf) (.nd 7617 (1,1,false) .lf .lf))))) (.nd 8584 (8,1,false) (.nd 8257 (1,1,false) (.nd 7746 (2,1,false) (.nd 7744 (0,1,false) (.nd 7620 (4,1,false) (.nd 7619 (3,1,false) .lf .lf) .lf) (.nd 7745 (1,1,false) .lf .lf)) (.nd 8065 (1,1,false) (.nd 8064 (0,1,false) .lf .lf) (.nd 8256 (0,1,false) .lf .lf))) (.nd 8580 (4,1,false) (.nd 8578 (2,1,false) (.nd 8577 (1,1,false) (.nd 8576 (0,1,false) .lf .lf) .lf) (.nd 8579 (3,1,false) .lf .lf)) (.nd 8582 (6,1,false) (.nd 8581 (5,1,false) .lf .lf) (.nd 8583 (7,1,false) .lf .lf)))) (.nd 10048 (0,11,true) (.nd 8962 (2,1,false) (.nd 8960 (0,1,false) (.nd 8769 (1,1,false) (.nd 8768 (0,1,false) .lf .lf) .lf) (.nd 8961 (1,1,false) .lf .lf)) (.nd 9089 (1,1,false) (.nd 9088 (0,1,false) .lf .lf) (.nd 9090 (2,1,false) .lf .lf))) (.nd 13760 (0,1,false) (.nd 10050 (12,1,false) (.nd 10049 (11,1,false) .lf .lf) (.nd 13057 (1,1,false) .lf .lf)) (.nd 13762 (2,1,false) (.nd 13761 (1,1,false) .lf .lf) (.nd 13763 (3,1,false) .lf .lf)))))),
 (.nd 62 .u8 (.nd 3 .i64 (.nd 2 .i64 .lf .lf) (.nd 5 .u8 .lf .lf)) (.nd 207 .u8 (.nd 97 .u64 .lf .lf) .lf))⟩,by kernel_rfl⟩
open Go
def Tryz.laysSort_ren:Go.Shelf.Ren:=⟨fun|189=>34|125=>69|257=>68|128=>123|129=>124|294=>114|295=>115|296=>116|297=>117|298=>118|299=>119|216=>120|300=>121|301=>122|328=>145|329=>146|330=>147|331=>148|332=>149|215=>150|343=>158|n=>n,fun|28=>43|3=>3|46=>97|0=>0|51=>175|53=>177|4=>4|183=>170|182=>169|131=>106|5=>5|9=>9|218=>216|222=>220|228=>234|229=>235|n=>n,fun|n=>n⟩
theorem gJ:Go.Proofs.Lays.n189 prog Tryz.laysSort_ren where
 mixed:=by kernel_rfl
 f125:=func69.trans (congrArg some kR)
 f128:=func123.trans (congrArg some kR)
 f129:=func124.trans (congrArg some kR)
 f189:=func34.trans (congrArg some kR)
 f215:=func150.trans (congrArg some kR)
 f216:=func120.trans (congrArg some kR)
 f257:=func68.trans (congrArg some kR)
 f294:=func114.trans (congrArg some kR)
 f295:=func115.trans (congrArg some kR)
 f296:=func116.trans (congrArg some kR)
 f297:=func117.trans (congrArg some kR)
 f298:=func118.trans (congrArg some kR)
 f299:=func119.trans (congrArg some kR)
 f300:=func121.trans (congrArg some kR)
 f301:=func122.trans (congrArg some kR)
 f328:=func145.trans (congrArg some kR)
 f329:=func146.trans (congrArg some kR)
 f330:=func147.trans (congrArg some kR)
 f331:=func148.trans (congrArg some kR)
 f332:=func149.trans (congrArg some kR)
 f343:=func158.trans (congrArg some kR)
 t0:=underlying0
 a0:=Tryz.isAgg0
 z0:=Tryz.sizeOf0
 v0:=Tryz.zeroValue0
 t3:=underlying3
 a3:=Tryz.isAgg3
 z3:=Tryz.sizeOf3
 v3:=Tryz.zeroValue3
 t4:=underlying4
 a4:=Tryz.isAgg4
 z4:=Tryz.sizeOf4
 v4:=Tryz.zeroValue4
 t5:=underlying5
 a5:=Tryz.isAgg5
 z5:=Tryz.sizeOf5
 v5:=Tryz.zeroValue5
 t9:=underlying9
 a9:=Tryz.isAgg9
 z9:=Tryz.sizeOf9
 v9:=Tryz.zeroValue9
 t28:=underlying43
 a28:=Tryz.isAgg43
 z28:=Tryz.sizeOf43
 v28:=Tryz.zeroValue43
 t46:=underlying97
 a46:=Tryz.isAgg97
 z46:=Tryz.sizeOf97
 v46:=Tryz.zeroValue97
 t51:=underlying175
 a51:=Tryz.isAgg175
 z51:=Tryz.sizeOf175
 v51:=Tryz.zeroValue175
 t53:=underlying177
 a53:=Tryz.isAgg177
 z53:=Tryz.sizeOf177
 v53:=Tryz.zeroValue177
 t131:=underlying106
 a131:=Tryz.isAgg106
 z131:=Tryz.sizeOf106
 v131:=Tryz.zeroValue106
 t182:=underlying169
 a182:=Tryz.isAgg169
 z182:=Tryz.sizeOf169
 v182:=Tryz.zeroValue169
 t183:=underlying170
 a183:=Tryz.isAgg170
 z183:=Tryz.sizeOf170
 v183:=Tryz.zeroValue170
 t218:=underlying216
 a218:=Tryz.isAgg216
 z218:=Tryz.sizeOf216
 v218:=Tryz.zeroValue216
 t222:=underlying220
 a222:=Tryz.isAgg220
 z222:=Tryz.sizeOf220
 v222:=Tryz.zeroValue220
 t228:=underlying234
 a228:=Tryz.isAgg234
 z228:=Tryz.sizeOf234
 v228:=Tryz.zeroValue234
 t229:=underlying235
 a229:=Tryz.isAgg235
 z229:=Tryz.sizeOf235
 v229:=Tryz.zeroValue235
def Tryz.laysCompact_ren:Go.Shelf.Ren:=⟨fun|20=>41|n=>n,fun|22=>43|3=>3|4=>4|0=>0|n=>n,fun|n=>n⟩
theorem eN:Go.Proofs.Lays2.n20 prog Tryz.laysCompact_ren where
 mixed:=by kernel_rfl
 f20:=func41.trans (congrArg some kR)
 t0:=underlying0
 a0:=Tryz.isAgg0
 z0:=Tryz.sizeOf0
 v0:=Tryz.zeroValue0
 t3:=underlying3
 a3:=Tryz.isAgg3
 z3:=Tryz.sizeOf3
 v3:=Tryz.zeroValue3
 t4:=underlying4
 a4:=Tryz.isAgg4
 z4:=Tryz.sizeOf4
 v4:=Tryz.zeroValue4
 t22:=underlying43
 a22:=Tryz.isAgg43
 z22:=Tryz.sizeOf43
 v22:=Tryz.zeroValue43
 i3:=by kernel_rfl
end Go.Proofs.YtpodhdopgcedlaaGreatDoor
