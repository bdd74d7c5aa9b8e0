/- Part of the proof. -/
import Derived.Lib.RowBridge
import Derived.Test.YtpodhdopgcedlaaGreatDoorProg
import Derived.KernelRfl
import Derived.Shelf.Slices.In.SortNone
import Derived.Shelf.Slices.CompactI
import Derived.Shelf.Sort.Plain
import Derived.Test.YtpodhdopgcedlaaGreatDoorO
set_option linter.unusedVariables false
set_option linter.unusedSimpArgs false
set_option linter.unusedSectionVars false
set_option linter.unnecessarySimpa false
set_option maxHeartbeats 4000000
set_option maxRecDepth 100000
namespace Go.Proofs.YtpodhdopgcedlaaGreatDoor
open Go.Proofs.Tryz
open Go Go.Sk
theorem a126:ba prog 126=some true:=by kernel_rfl
theorem a131:ba prog 131=some false:=by kernel_rfl
theorem xT:ba prog 134=some true:=by kernel_rfl
theorem a190:ba prog 190=some true:=by kernel_rfl
theorem a2:ba prog 2=some false:=by kernel_rfl
theorem a204:ba prog 204=some true:=by kernel_rfl
theorem tS:ba prog 215=some true:=by kernel_rfl
theorem a22:ba prog 22=some false:=by kernel_rfl
theorem a28:ba prog 28=some false:=by kernel_rfl
theorem a3:ba prog 3=some false:=by kernel_rfl
theorem a35:ba prog 35=some false:=by kernel_rfl
theorem a4:ba prog 4=some false:=by kernel_rfl
theorem a43:ba prog 43=some false:=by kernel_rfl
theorem a5:ba prog 5=some false:=by kernel_rfl
theorem a62:ba prog 62=some false:=by kernel_rfl
theorem a64:ba prog 64=some true:=by kernel_rfl
theorem a71:ba prog 71=some true:=by kernel_rfl
theorem a9:ba prog 9=some false:=by kernel_rfl
theorem iz:aH prog 127=some (9,true):=by kernel_rfl
theorem e178:aH prog 178=some (1,false):=by kernel_rfl
theorem e188:aH prog 188=some (3,true):=by kernel_rfl
theorem e22:aH prog 22=some (7,true):=by kernel_rfl
theorem An:aH prog 222=some (3,true):=by kernel_rfl
theorem xE:aH prog 227=some (1,false):=by kernel_rfl
theorem e23:aH prog 23=some (4,true):=by kernel_rfl
theorem e24:aH prog 24=some (3,true):=by kernel_rfl
theorem e25:aH prog 25=some (3,true):=by kernel_rfl
theorem e26:aH prog 26=some (1,false):=by kernel_rfl
theorem e27:aH prog 27=some (5,true):=by kernel_rfl
theorem e28:aH prog 28=some (3,true):=by kernel_rfl
theorem e29:aH prog 29=some (4,true):=by kernel_rfl
theorem e30:aH prog 30=some (2,true):=by kernel_rfl
theorem e31:aH prog 31=some (2,true):=by kernel_rfl
theorem e36:aH prog 36=some (3,true):=by kernel_rfl
theorem e43:aH prog 43=some (1,false):=by kernel_rfl
theorem e48:aH prog 48=some (2,true):=by kernel_rfl
theorem e57:aH prog 57=some (1,false):=by kernel_rfl
theorem e65:aH prog 65=some (2,true):=by kernel_rfl
theorem e91:aH prog 91=some (1,false):=by kernel_rfl
theorem e99:aH prog 99=some (5,true):=by kernel_rfl
theorem l178:cq prog 178=some (62,1,1):=by kernel_rfl
theorem bL:cq prog 188=some (194,3,24):=by kernel_rfl
theorem l222:cq prog 222=some (190,3,48):=by kernel_rfl
theorem l227:cq prog 227=some (9,1,16):=by kernel_rfl
theorem l26:cq prog 26=some (43,1,24):=by kernel_rfl
theorem l36:cq prog 36=some (55,3,40):=by kernel_rfl
theorem l43:cq prog 43=some (3,1,8):=by kernel_rfl
theorem l48:cq prog 48=some (50,2,16):=by kernel_rfl
theorem l57:cq prog 57=some (4,1,1):=by kernel_rfl
theorem l91:cq prog 91=some (35,1,8):=by kernel_rfl
theorem p126:bM prog 126=some [(0,1),(1,1)]:=by kernel_rfl
theorem p134:bM prog 134=some [(0,1),(1,1),(2,1),(3,1),(4,1),(5,1),(6,1),(7,1),(8,1)]:=by kernel_rfl
theorem p150:bM prog 150=some [(0,1),(1,1)]:=by kernel_rfl
theorem p157:bM prog 157=some [(0,11),(11,1),(12,1)]:=by kernel_rfl
theorem bC:bM prog 190=some [(0,1),(1,1),(2,1)]:=by kernel_rfl
theorem aF:bM prog 194=some [(0,1),(1,1),(2,1)]:=by kernel_rfl
theorem p204:bM prog 204=some [(0,1),(1,1)]:=by kernel_rfl
theorem tt:bM prog 215=some [(0,1),(1,1),(2,1),(3,1)]:=by kernel_rfl
theorem p55:bM prog 55=some [(0,1),(1,1),(2,1)]:=by kernel_rfl
theorem p64:bM prog 64=some [(0,1),(1,1),(2,1),(3,1),(4,1),(5,1),(6,1)]:=by kernel_rfl
theorem p71:bM prog 71=some [(0,1),(1,1),(2,1)]:=by kernel_rfl
theorem p90:bM prog 90=some [(0,11)]:=by kernel_rfl
theorem q64:ji prog 64=some [.int .u8, .int .i64, .int .i64, .int .i64, .int .i64, .int .i64, .int .i64]:=by kernel_rfl
theorem ar225:dW prog 225=some (57,2,true):=by kernel_rfl
theorem sI:dW prog 237=some (256,1,false):=by kernel_rfl
theorem xP:dW prog 50=some (2,1,false):=by kernel_rfl
theorem zf:bi prog 101=some 3:=by kernel_rfl
theorem s104:bi prog 104=some 5:=by kernel_rfl
theorem s113:bi prog 113=some 1:=by kernel_rfl
theorem s119:bi prog 119=some 5:=by kernel_rfl
theorem s121:bi prog 121=some 3:=by kernel_rfl
theorem qI:bi prog 126=some 2:=by kernel_rfl
theorem s129:bi prog 129=some 2:=by kernel_rfl
theorem s131:bi prog 131=some 1:=by kernel_rfl
theorem wy:bi prog 132=some 1:=by kernel_rfl
theorem lg:bi prog 134=some 9:=by kernel_rfl
theorem s137:bi prog 137=some 2:=by kernel_rfl
theorem wx:bi prog 140=some 4:=by kernel_rfl
theorem s142:bi prog 142=some 3:=by kernel_rfl
theorem s150:bi prog 150=some 2:=by kernel_rfl
theorem ut:bi prog 190=some 3:=by kernel_rfl
theorem s194:bi prog 194=some 3:=by kernel_rfl
theorem s2:bi prog 2=some 1:=by kernel_rfl
theorem ti:bi prog 204=some 2:=by kernel_rfl
theorem eU:bi prog 215=some 4:=by kernel_rfl
theorem s26:bi prog 26=some 1:=by kernel_rfl
theorem s3:bi prog 3=some 1:=by kernel_rfl
theorem s4:bi prog 4=some 1:=by kernel_rfl
theorem s43:bi prog 43=some 1:=by kernel_rfl
theorem s50:bi prog 50=some 2:=by kernel_rfl
theorem s55:bi prog 55=some 3:=by kernel_rfl
theorem s57:bi prog 57=some 1:=by kernel_rfl
theorem s62:bi prog 62=some 1:=by kernel_rfl
theorem s64:bi prog 64=some 7:=by kernel_rfl
theorem s67:bi prog 67=some 4:=by kernel_rfl
theorem s71:bi prog 71=some 3:=by kernel_rfl
theorem s82:bi prog 82=some 1:=by kernel_rfl
theorem s9:bi prog 9=some 1:=by kernel_rfl
theorem s90:bi prog 90=some 11:=by kernel_rfl
theorem yN:aM prog 101=some [.slice none 0 0, .int .i64 0, .int .i64 0]:=by kernel_rfl
theorem z104:aM prog 104=some [.int .u8 0, .int .i64 0, .int .i64 0, .int .i64 0, .int .i64 0]:=by kernel_rfl
theorem z113:aM prog 113=some [.nilFunc]:=by kernel_rfl
theorem z119:aM prog 119=some [.int .i64 0, .int .i64 0, .int .i64 0, .bool false, .slice none 0 0]:=by kernel_rfl
theorem z121:aM prog 121=some [.int .i64 0, .int .i64 0, .int .i64 0]:=by kernel_rfl
theorem tX:aM prog 126=some [.slice none 0 0, .slice none 0 0]:=by kernel_rfl
theorem z129:aM prog 129=some [.int .i64 0, .slice none 0 0]:=by kernel_rfl
theorem tW:aM prog 134=some [.int .u8 0, .int .u8 0, .int .i64 0, .int .i64 0, .int .i64 0, .int .i64 0, .int .i64 0, .int .i64 0, .slice none 0 0]:=by kernel_rfl
theorem z137:aM prog 137=some [.int .i64 0, .int .u8 0]:=by kernel_rfl
theorem wi:aM prog 140=some [.int .i64 0, .int .i64 0, .int .i64 0, .bool false]:=by kernel_rfl
theorem z142:aM prog 142=some [.int .i64 0, .int .i64 0, .int .i64 0]:=by kernel_rfl
theorem z150:aM prog 150=some [.int .i64 0, .int .i64 0]:=by kernel_rfl
theorem z157:aM prog 157=some [.slice none 0 0, .slice none 0 0, .slice none 0 0, .slice none 0 0, .slice none 0 0, .slice none 0 0, .slice none 0 0, .int .i64 0, .slice none 0 0, .slice none 0 0, .slice none 0 0, .int .i64 0, .int .i64 0]:=by kernel_rfl
theorem bv:aM prog 190=some [.int .u8 0, .string ByteArray.empty, .slice none 0 0]:=by kernel_rfl
theorem aq:aM prog 194=some [.int .u8 0, .int .i64 0, .int .i64 0]:=by kernel_rfl
theorem wh:aM prog 204=some [.string ByteArray.empty, .string ByteArray.empty]:=by kernel_rfl
theorem f':aM prog 215=some [.nilFunc, .nilFunc, .int .i64 0, .int .i64 0]:=by kernel_rfl
theorem z26:aM prog 26=some [.slice none 0 0]:=by kernel_rfl
theorem z3:aM prog 3=some [.int .i64 0]:=by kernel_rfl
theorem z35:aM prog 35=some [.nilFunc]:=by kernel_rfl
theorem z4:aM prog 4=some [.bool false]:=by kernel_rfl
theorem z43:aM prog 43=some [.slice none 0 0]:=by kernel_rfl
theorem z50:aM prog 50=some [.int .i64 0, .int .i64 0]:=by kernel_rfl
theorem z55:aM prog 55=some [.int .i64 0, .int .i64 0, .slice none 0 0]:=by kernel_rfl
theorem z57:aM prog 57=some [.slice none 0 0]:=by kernel_rfl
theorem z62:aM prog 62=some [.int .u8 0]:=by kernel_rfl
theorem z64:aM prog 64=some [.int .u8 0, .int .i64 0, .int .i64 0, .int .i64 0, .int .i64 0, .int .i64 0, .int .i64 0]:=by kernel_rfl
theorem z67:aM prog 67=some [.int .i64 0, .int .i64 0, .slice none 0 0, .int .i64 0]:=by kernel_rfl
theorem z71:aM prog 71=some [.map none, .map none, .int .i64 0]:=by kernel_rfl
theorem z82:aM prog 82=some [.nilFunc]:=by kernel_rfl
theorem z9:aM prog 9=some [.string ByteArray.empty]:=by kernel_rfl
theorem z90:aM prog 90=some [.slice none 0 0, .slice none 0 0, .slice none 0 0, .slice none 0 0, .slice none 0 0, .slice none 0 0, .slice none 0 0, .int .i64 0, .slice none 0 0, .slice none 0 0, .slice none 0 0]:=by kernel_rfl
instance:Tys prog:=⟨⟨(.nd 90 true (.nd 33 true (.nd 24 false (.nd 5 false (.nd 3 false (.nd 2 false .lf .lf) (.nd 4 false .lf .lf)) (.nd 22 false (.nd 9 false .lf .lf) (.nd 23 false .lf .lf))) (.nd 28 false (.nd 26 false (.nd 25 false .lf .lf) (.nd 27 false .lf .lf)) (.nd 30 false (.nd 29 false .lf .lf) (.nd 31 false .lf .lf)))) (.nd 64 true (.nd 50 true (.nd 36 false (.nd 35 false .lf .lf) (.nd 43 false .lf .lf)) (.nd 57 false (.nd 55 true .lf .lf) (.nd 62 false .lf .lf))) (.nd 69 false (.nd 67 true (.nd 65 false .lf .lf) (.nd 68 false .lf .lf)) (.nd 82 false (.nd 71 true .lf .lf) .lf)))) (.nd 137 true (.nd 126 true (.nd 104 true (.nd 101 true (.nd 99 false .lf .lf) (.nd 102 false .lf .lf)) (.nd 119 true (.nd 113 false .lf .lf) (.nd 121 true .lf .lf))) (.nd 132 false (.nd 129 true (.nd 127 false .lf .lf) (.nd 131 false .lf .lf)) (.nd 135 false (.nd 134 true .lf .lf) .lf))) (.nd 204 true (.nd 155 false (.nd 142 true (.nd 140 true .lf .lf) (.nd 150 true .lf .lf)) (.nd 190 true (.nd 188 false .lf .lf) (.nd 194 true .lf .lf))) (.nd 215 true (.nd 212 false (.nd 211 false .lf .lf) (.nd 213 false .lf .lf)) (.nd 231 false (.nd 220 false .lf .lf) .lf))))),
 (.nd 104 5 (.nd 55 3 (.nd 26 1 (.nd 4 1 (.nd 3 1 (.nd 2 1 .lf .lf) .lf) (.nd 9 1 .lf .lf)) (.nd 43 1 (.nd 33 11 .lf .lf) (.nd 50 2 .lf .lf))) (.nd 71 3 (.nd 64 7 (.nd 62 1 (.nd 57 1 .lf .lf) .lf) (.nd 67 4 .lf .lf)) (.nd 90 11 (.nd 82 1 .lf .lf) (.nd 101 3 .lf .lf)))) (.nd 137 2 (.nd 129 2 (.nd 121 3 (.nd 119 5 (.nd 113 1 .lf .lf) .lf) (.nd 126 2 .lf .lf)) (.nd 132 1 (.nd 131 1 .lf .lf) (.nd 134 9 .lf .lf))) (.nd 190 3 (.nd 142 3 (.nd 140 4 .lf .lf) (.nd 150 2 .lf .lf)) (.nd 204 2 (.nd 194 3 .lf .lf) (.nd 215 4 .lf .lf))))),
 (.nd 7619 (3,1,false) (.nd 4102 (6,1,false) (.nd 2122 (10,1,false) (.nd 2117 (5,1,false) (.nd 2114 (2,1,false) (.nd 2113 (1,1,false) (.nd 2112 (0,1,false) .lf .lf) .lf) (.nd 2116 (4,1,false) (.nd 2115 (3,1,false) .lf .lf) .lf)) (.nd 2120 (8,1,false) (.nd 2119 (7,1,false) (.nd 2118 (6,1,false) .lf .lf) .lf) (.nd 2121 (9,1,false) .lf .lf))) (.nd 4097 (1,1,false) (.nd 3522 (2,1,false) (.nd 3521 (1,1,false) (.nd 3520 (0,1,false) .lf .lf) .lf) (.nd 4096 (0,1,false) .lf .lf)) (.nd 4100 (4,1,false) (.nd 4099 (3,1,false) (.nd 4098 (2,1,false) .lf .lf) .lf) (.nd 4101 (5,1,false) .lf .lf)))) (.nd 6465 (1,1,false) (.nd 4544 (0,1,false) (.nd 4290 (2,1,false) (.nd 4289 (1,1,false) (.nd 4288 (0,1,false) .lf .lf) .lf) (.nd 4291 (3,1,false) .lf .lf)) (.nd 5760 (0,11,true) (.nd 4546 (2,1,false) (.nd 4545 (1,1,false) .lf .lf) .lf) (.nd 6464 (0,1,false) .lf .lf))) (.nd 6659 (3,1,false) (.nd 6657 (1,1,false) (.nd 6656 (0,1,false) (.nd 6466 (2,1,false) .lf .lf) .lf) (.nd 6658 (2,1,false) .lf .lf)) (.nd 7617 (1,1,false) (.nd 7616 (0,1,false) (.nd 6660 (4,1,false) .lf .lf) .lf) (.nd 7618 (2,1,false) .lf .lf))))) (.nd 8960 (0,1,false) (.nd 8577 (1,1,false) (.nd 8064 (0,1,false) (.nd 7745 (1,1,false) (.nd 7744 (0,1,false) (.nd 7620 (4,1,false) .lf .lf) .lf) (.nd 7746 (2,1,false) .lf .lf)) (.nd 8257 (1,1,false) (.nd 8256 (0,1,false) (.nd 8065 (1,1,false) .lf .lf) .lf) (.nd 8576 (0,1,false) .lf .lf))) (.nd 8582 (6,1,false) (.nd 8580 (4,1,false) (.nd 8579 (3,1,false) (.nd 8578 (2,1,false) .lf .lf) .lf) (.nd 8581 (5,1,false) .lf .lf)) (.nd 8768 (0,1,false) (.nd 8584 (8,1,false) (.nd 8583 (7,1,false) .lf .lf) .lf) (.nd 8769 (1,1,false) .lf .lf)))) (.nd 12160 (0,1,false) (.nd 9089 (1,1,false) (.nd 8963 (3,1,false) (.nd 8962 (2,1,false) (.nd 8961 (1,1,false) .lf .lf) .lf) (.nd 9088 (0,1,false) .lf .lf)) (.nd 10049 (11,1,false) (.nd 10048 (0,11,true) (.nd 9090 (2,1,false) .lf .lf) .lf) (.nd 10050 (12,1,false) .lf .lf))) (.nd 13057 (1,1,false) (.nd 12417 (1,1,false) (.nd 12416 (0,1,false) (.nd 12162 (2,1,false) .lf .lf) .lf) (.nd 12418 (2,1,false) .lf .lf)) (.nd 13762 (2,1,false) (.nd 13761 (1,1,false) (.nd 13760 (0,1,false) .lf .lf) .lf) (.nd 13763 (3,1,false) .lf .lf)))))),
 (.nd 62 .u8 (.nd 3 .i64 (.nd 2 .i64 .lf .lf) (.nd 5 .u8 .lf .lf)) (.nd 207 .u8 (.nd 97 .u64 .lf .lf) .lf))⟩,by kernel_rfl⟩
open Go
def Tryz.laysSort_ren:Go.Shelf.Ren:=⟨fun|189=>34|125=>69|257=>68|128=>123|129=>124|294=>114|295=>115|296=>116|297=>117|298=>118|299=>119|216=>120|300=>121|301=>122|328=>145|329=>146|330=>147|331=>148|332=>149|215=>150|343=>158|n=>n,fun|28=>43|3=>3|46=>97|0=>0|51=>175|53=>177|4=>4|183=>170|182=>169|131=>106|5=>5|9=>9|218=>216|222=>220|228=>234|229=>235|n=>n,fun|n=>n⟩
theorem eA:Go.Proofs.Lays.n189 prog Tryz.laysSort_ren where
 mixed:=by kernel_rfl
 f125:=func69.trans (congrArg some kR)
 f128:=func123.trans (congrArg some kR)
 f129:=func124.trans (congrArg some kR)
 f189:=func34.trans (congrArg some kR)
 f215:=func150.trans (congrArg some kR)
 f216:=func120.trans (congrArg some kR)
 f257:=func68.trans (congrArg some kR)
 f294:=func114.trans (congrArg some kR)
 f295:=func115.trans (congrArg some kR)
 f296:=func116.trans (congrArg some kR)
 f297:=func117.trans (congrArg some kR)
 f298:=func118.trans (congrArg some kR)
 f299:=func119.trans (congrArg some kR)
 f300:=func121.trans (congrArg some kR)
 f301:=func122.trans (congrArg some kR)
 f328:=func145.trans (congrArg some kR)
 f329:=func146.trans (congrArg some kR)
 f330:=func147.trans (congrArg some kR)
 f331:=func148.trans (congrArg some kR)
 f332:=func149.trans (congrArg some kR)
 f343:=func158.trans (congrArg some kR)
 t0:=underlying0
 a0:=Tryz.isAgg0
 z0:=Tryz.sizeOf0
 v0:=Tryz.zeroValue0
 t3:=underlying3
 a3:=Tryz.isAgg3
 z3:=Tryz.sizeOf3
 v3:=Tryz.zeroValue3
 t4:=underlying4
 a4:=Tryz.isAgg4
 z4:=Tryz.sizeOf4
 v4:=Tryz.zeroValue4
 t5:=underlying5
 a5:=Tryz.isAgg5
 z5:=Tryz.sizeOf5
 v5:=Tryz.zeroValue5
 t9:=underlying9
 a9:=Tryz.isAgg9
 z9:=Tryz.sizeOf9
 v9:=Tryz.zeroValue9
 t28:=underlying43
 a28:=Tryz.isAgg43
 z28:=Tryz.sizeOf43
 v28:=Tryz.zeroValue43
 t46:=underlying97
 a46:=Tryz.isAgg97
 z46:=Tryz.sizeOf97
 v46:=Tryz.zeroValue97
 t51:=underlying175
 a51:=Tryz.isAgg175
 z51:=Tryz.sizeOf175
 v51:=Tryz.zeroValue175
 t53:=underlying177
 a53:=Tryz.isAgg177
 z53:=Tryz.sizeOf177
 v53:=Tryz.zeroValue177
 t131:=underlying106
 a131:=Tryz.isAgg106
 z131:=Tryz.sizeOf106
 v131:=Tryz.zeroValue106
 t182:=underlying169
 a182:=Tryz.isAgg169
 z182:=Tryz.sizeOf169
 v182:=Tryz.zeroValue169
 t183:=underlying170
 a183:=Tryz.isAgg170
 z183:=Tryz.sizeOf170
 v183:=Tryz.zeroValue170
 t218:=underlying216
 a218:=Tryz.isAgg216
 z218:=Tryz.sizeOf216
 v218:=Tryz.zeroValue216
 t222:=underlying220
 a222:=Tryz.isAgg220
 z222:=Tryz.sizeOf220
 v222:=Tryz.zeroValue220
 t228:=underlying234
 a228:=Tryz.isAgg234
 z228:=Tryz.sizeOf234
 v228:=Tryz.zeroValue234
 t229:=underlying235
 a229:=Tryz.isAgg235
 z229:=Tryz.sizeOf235
 v229:=Tryz.zeroValue235
def Tryz.laysCompact_ren:Go.Shelf.Ren:=⟨fun|20=>41|n=>n,fun|22=>43|3=>3|4=>4|0=>0|n=>n,fun|n=>n⟩
theorem fW:Go.Proofs.Lays2.n20 prog Tryz.laysCompact_ren where
 mixed:=by kernel_rfl
 f20:=func41.trans (congrArg some kR)
 t0:=underlying0
 a0:=Tryz.isAgg0
 z0:=Tryz.sizeOf0
 v0:=Tryz.zeroValue0
 t3:=underlying3
 a3:=Tryz.isAgg3
 z3:=Tryz.sizeOf3
 v3:=Tryz.zeroValue3
 t4:=underlying4
 a4:=Tryz.isAgg4
 z4:=Tryz.sizeOf4
 v4:=Tryz.zeroValue4
 t22:=underlying43
 a22:=Tryz.isAgg43
 z22:=Tryz.sizeOf43
 v22:=Tryz.zeroValue43
 i3:=by kernel_rfl
end Go.Proofs.YtpodhdopgcedlaaGreatDoor
