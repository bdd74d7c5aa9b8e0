/- Part of the proof. -/
import Derived.Lib.RowBridge
import Derived.Test.YtejcfgjpdocaoaaGreatDoorProg
import Derived.KernelRfl
import Derived.Shelf.Slices.In.SortNone
import Derived.Shelf.Slices.CompactI
import Derived.Shelf.Sort.Plain
import Derived.Test.YtejcfgjpdocaoaaGreatDoorO
set_option linter.unusedVariables false
set_option linter.unusedSimpArgs false
set_option linter.unusedSectionVars false
set_option linter.unnecessarySimpa false
set_option maxHeartbeats 4000000
set_option maxRecDepth 100000
namespace Go.Proofs.YtejcfgjpdocaoaaGreatDoor
open Go.Proofs.Tryz
open Go Go.Sk
theorem a2:aV prog 2=some false:=by kernel_rfl
theorem a231:aV prog 231=some true:=by kernel_rfl
theorem sx:aV prog 240=some true:=by kernel_rfl
theorem a243:aV prog 243=some true:=by kernel_rfl
theorem a28:aV prog 28=some false:=by kernel_rfl
theorem a3:aV prog 3=some false:=by kernel_rfl
theorem a33:aV prog 33=some true:=by kernel_rfl
theorem a35:aV prog 35=some false:=by kernel_rfl
theorem a4:aV prog 4=some false:=by kernel_rfl
theorem a5:aV prog 5=some false:=by kernel_rfl
theorem a59:aV prog 59=some true:=by kernel_rfl
theorem a63:aV prog 63=some false:=by kernel_rfl
theorem a72:aV prog 72=some true:=by kernel_rfl
theorem a80:aV prog 80=some true:=by kernel_rfl
theorem a9:aV prog 9=some false:=by kernel_rfl
theorem e22:aO prog 22=some (7,true):=by kernel_rfl
theorem e23:aO prog 23=some (4,true):=by kernel_rfl
theorem e24:aO prog 24=some (3,true):=by kernel_rfl
theorem e241:aO prog 241=some (3,true):=by kernel_rfl
theorem e25:aO prog 25=some (3,true):=by kernel_rfl
theorem e26:aO prog 26=some (1,false):=by kernel_rfl
theorem e27:aO prog 27=some (5,true):=by kernel_rfl
theorem e28:aO prog 28=some (3,true):=by kernel_rfl
theorem wB:aO prog 286=some (1,false):=by kernel_rfl
theorem e29:aO prog 29=some (4,true):=by kernel_rfl
theorem yD:aO prog 292=some (3,true):=by kernel_rfl
theorem e30:aO prog 30=some (2,true):=by kernel_rfl
theorem e31:aO prog 31=some (2,true):=by kernel_rfl
theorem e54:aO prog 54=some (1,false):=by kernel_rfl
theorem e63:aO prog 63=some (5,true):=by kernel_rfl
theorem e68:aO prog 68=some (2,true):=by kernel_rfl
theorem e73:aO prog 73=some (9,true):=by kernel_rfl
theorem e87:aO prog 87=some (1,false):=by kernel_rfl
theorem f128_4:bT prog 128 4=some (4,1,false):=by kernel_rfl
theorem f65_0:bT prog 65 0=some (0,1,false):=by kernel_rfl
theorem f65_2:bT prog 65 2=some (2,1,false):=by kernel_rfl
theorem f70_1:bT prog 70 1=some (1,1,false):=by kernel_rfl
theorem l22:bU prog 22=some (59,7,56):=by kernel_rfl
theorem l23:bU prog 23=some (83,4,32):=by kernel_rfl
theorem l24:bU prog 24=some (118,3,24):=by kernel_rfl
theorem bD:bU prog 241=some (247,3,24):=by kernel_rfl
theorem l25:bU prog 25=some (65,3,40):=by kernel_rfl
theorem l286:bU prog 286=some (9,1,16):=by kernel_rfl
theorem l29:bU prog 29=some (70,4,48):=by kernel_rfl
theorem l292:bU prog 292=some (243,3,48):=by kernel_rfl
theorem l31:bU prog 31=some (121,2,16):=by kernel_rfl
theorem l42:bU prog 42=some (5,1,1):=by kernel_rfl
theorem l54:bU prog 54=some (3,1,8):=by kernel_rfl
theorem l63:bU prog 63=some (128,5,40):=by kernel_rfl
theorem l87:bU prog 87=some (35,1,8):=by kernel_rfl
theorem p118:bm prog 118=some [(0,1),(1,1),(2,1)]:=by kernel_rfl
theorem p121:bm prog 121=some [(0,1),(1,1)]:=by kernel_rfl
theorem p152:bm prog 152=some [(0,1),(1,1)]:=by kernel_rfl
theorem p160:bm prog 160=some [(0,11),(11,1),(12,1)]:=by kernel_rfl
theorem p219:bm prog 219=some [(0,1)]:=by kernel_rfl
theorem p231:bm prog 231=some [(0,1),(1,1)]:=by kernel_rfl
theorem rT:bm prog 240=some [(0,1),(1,1),(2,1),(3,1)]:=by kernel_rfl
theorem br:bm prog 243=some [(0,1),(1,1),(2,1)]:=by kernel_rfl
theorem ay:bm prog 247=some [(0,1),(1,1),(2,1)]:=by kernel_rfl
theorem p33:bm prog 33=some [(0,1),(1,1),(2,1),(3,1),(4,1),(5,1),(6,1),(7,1),(8,1),(9,1),(10,1)]:=by kernel_rfl
theorem p59:bm prog 59=some [(0,1),(1,1),(2,1),(3,1),(4,1),(5,1),(6,1)]:=by kernel_rfl
theorem p72:bm prog 72=some [(0,1),(1,1)]:=by kernel_rfl
theorem p80:bm prog 80=some [(0,1),(1,1),(2,1),(3,1),(4,1),(5,1),(6,1),(7,1),(8,1)]:=by kernel_rfl
theorem p86:bm prog 86=some [(0,11)]:=by kernel_rfl
theorem q59:il prog 59=some [.int .u8, .int .i64, .int .i64, .int .i64, .int .i64, .int .i64, .int .i64]:=by kernel_rfl
theorem ar284:dF prog 284=some (57,2,true):=by kernel_rfl
theorem rk:dF prog 315=some (256,1,false):=by kernel_rfl
theorem xJ:bc prog 118=some 3:=by kernel_rfl
theorem xI:bc prog 121=some 2:=by kernel_rfl
theorem s128:bc prog 128=some 5:=by kernel_rfl
theorem s152:bc prog 152=some 2:=by kernel_rfl
theorem s2:bc prog 2=some 1:=by kernel_rfl
theorem s22:bc prog 22=some 1:=by kernel_rfl
theorem s23:bc prog 23=some 1:=by kernel_rfl
theorem rQ:bc prog 231=some 2:=by kernel_rfl
theorem s24:bc prog 24=some 1:=by kernel_rfl
theorem eb:bc prog 240=some 4:=by kernel_rfl
theorem tk:bc prog 243=some 3:=by kernel_rfl
theorem s247:bc prog 247=some 3:=by kernel_rfl
theorem s25:bc prog 25=some 1:=by kernel_rfl
theorem s29:bc prog 29=some 1:=by kernel_rfl
theorem s3:bc prog 3=some 1:=by kernel_rfl
theorem s31:bc prog 31=some 1:=by kernel_rfl
theorem s33:bc prog 33=some 11:=by kernel_rfl
theorem s4:bc prog 4=some 1:=by kernel_rfl
theorem s42:bc prog 42=some 1:=by kernel_rfl
theorem s54:bc prog 54=some 1:=by kernel_rfl
theorem s57:bc prog 57=some 1:=by kernel_rfl
theorem s59:bc prog 59=some 7:=by kernel_rfl
theorem s63:bc prog 63=some 1:=by kernel_rfl
theorem s65:bc prog 65=some 3:=by kernel_rfl
theorem s67:bc prog 67=some 5:=by kernel_rfl
theorem s70:bc prog 70=some 4:=by kernel_rfl
theorem s72:bc prog 72=some 2:=by kernel_rfl
theorem s75:bc prog 75=some 2:=by kernel_rfl
theorem s77:bc prog 77=some 1:=by kernel_rfl
theorem s78:bc prog 78=some 1:=by kernel_rfl
theorem s80:bc prog 80=some 9:=by kernel_rfl
theorem s83:bc prog 83=some 4:=by kernel_rfl
theorem s86:bc prog 86=some 11:=by kernel_rfl
theorem s9:bc prog 9=some 1:=by kernel_rfl
theorem s93:bc prog 93=some 3:=by kernel_rfl
theorem rD:aL prog 118=some [.int .i64 0, .int .i64 0, .int .i64 0]:=by kernel_rfl
theorem rC:aL prog 121=some [.int .i64 0, .int .u8 0]:=by kernel_rfl
theorem z128:aL prog 128=some [.int .u8 0, .int .i64 0, .int .i64 0, .int .i64 0, .int .i64 0]:=by kernel_rfl
theorem z152:aL prog 152=some [.int .i64 0, .int .i64 0]:=by kernel_rfl
theorem z160:aL prog 160=some [.slice none 0 0, .slice none 0 0, .slice none 0 0, .slice none 0 0, .slice none 0 0, .slice none 0 0, .slice none 0 0, .int .i64 0, .slice none 0 0, .slice none 0 0, .slice none 0 0, .int .i64 0, .int .i64 0]:=by kernel_rfl
theorem z219:aL prog 219=some [.slice none 0 0]:=by kernel_rfl
theorem uZ:aL prog 231=some [.string ByteArray.empty, .string ByteArray.empty]:=by kernel_rfl
theorem fy:aL prog 240=some [.nilFunc, .nilFunc, .int .i64 0, .int .i64 0]:=by kernel_rfl
theorem bl:aL prog 243=some [.int .u8 0, .string ByteArray.empty, .slice none 0 0]:=by kernel_rfl
theorem ao:aL prog 247=some [.int .u8 0, .int .i64 0, .int .i64 0]:=by kernel_rfl
theorem z3:aL prog 3=some [.int .i64 0]:=by kernel_rfl
theorem z33:aL prog 33=some [.slice none 0 0, .slice none 0 0, .slice none 0 0, .slice none 0 0, .slice none 0 0, .slice none 0 0, .slice none 0 0, .int .i64 0, .slice none 0 0, .slice none 0 0, .slice none 0 0]:=by kernel_rfl
theorem z35:aL prog 35=some [.nilFunc]:=by kernel_rfl
theorem z4:aL prog 4=some [.bool false]:=by kernel_rfl
theorem z5:aL prog 5=some [.int .u8 0]:=by kernel_rfl
theorem z54:aL prog 54=some [.slice none 0 0]:=by kernel_rfl
theorem z59:aL prog 59=some [.int .u8 0, .int .i64 0, .int .i64 0, .int .i64 0, .int .i64 0, .int .i64 0, .int .i64 0]:=by kernel_rfl
theorem z65:aL prog 65=some [.slice none 0 0, .int .i64 0, .int .i64 0]:=by kernel_rfl
theorem z67:aL prog 67=some [.int .i64 0, .int .i64 0, .int .i64 0, .bool false, .slice none 0 0]:=by kernel_rfl
theorem z70:aL prog 70=some [.int .i64 0, .int .i64 0, .slice none 0 0, .int .i64 0]:=by kernel_rfl
theorem z72:aL prog 72=some [.slice none 0 0, .slice none 0 0]:=by kernel_rfl
theorem z75:aL prog 75=some [.int .i64 0, .slice none 0 0]:=by kernel_rfl
theorem z80:aL prog 80=some [.int .u8 0, .int .u8 0, .int .i64 0, .int .i64 0, .int .i64 0, .int .i64 0, .int .i64 0, .int .i64 0, .slice none 0 0]:=by kernel_rfl
theorem z83:aL prog 83=some [.int .i64 0, .int .i64 0, .int .i64 0, .bool false]:=by kernel_rfl
theorem z86:aL prog 86=some [.slice none 0 0, .slice none 0 0, .slice none 0 0, .slice none 0 0, .slice none 0 0, .slice none 0 0, .slice none 0 0, .int .i64 0, .slice none 0 0, .slice none 0 0, .slice none 0 0]:=by kernel_rfl
theorem z9:aL prog 9=some [.string ByteArray.empty]:=by kernel_rfl
theorem z93:aL prog 93=some [.int .i64 0, .int .i64 0, .int .i64 0]:=by kernel_rfl
instance:Tys prog:=⟨⟨(.nd 72 true (.nd 30 false (.nd 23 false (.nd 5 false (.nd 3 false (.nd 2 false .lf .lf) (.nd 4 false .lf .lf)) (.nd 22 false (.nd 9 false .lf .lf) .lf)) (.nd 27 false (.nd 25 false (.nd 24 false .lf .lf) (.nd 26 false .lf .lf)) (.nd 29 false (.nd 28 false .lf .lf) .lf))) (.nd 59 true (.nd 42 false (.nd 33 true (.nd 31 false .lf .lf) (.nd 35 false .lf .lf)) (.nd 57 false (.nd 54 false .lf .lf) .lf)) (.nd 67 true (.nd 65 true (.nd 63 false .lf .lf) .lf) (.nd 70 true (.nd 68 false .lf .lf) .lf)))) (.nd 121 true (.nd 86 true (.nd 78 false (.nd 75 true (.nd 73 false .lf .lf) (.nd 77 false .lf .lf)) (.nd 83 true (.nd 80 true .lf .lf) .lf)) (.nd 108 false (.nd 102 false (.nd 93 true .lf .lf) .lf) (.nd 119 false (.nd 118 true .lf .lf) .lf))) (.nd 231 true (.nd 158 false (.nd 128 true (.nd 126 false .lf .lf) (.nd 152 true .lf .lf)) (.nd 220 false (.nd 204 false .lf .lf) .lf)) (.nd 241 false (.nd 240 true (.nd 238 false .lf .lf) .lf) (.nd 247 true (.nd 243 true .lf .lf) .lf))))),
 (.nd 67 5 (.nd 29 1 (.nd 22 1 (.nd 4 1 (.nd 3 1 (.nd 2 1 .lf .lf) .lf) (.nd 9 1 .lf .lf)) (.nd 24 1 (.nd 23 1 .lf .lf) (.nd 25 1 .lf .lf))) (.nd 57 1 (.nd 42 1 (.nd 33 11 (.nd 31 1 .lf .lf) .lf) (.nd 54 1 .lf .lf)) (.nd 63 1 (.nd 59 7 .lf .lf) (.nd 65 3 .lf .lf)))) (.nd 93 3 (.nd 78 1 (.nd 75 2 (.nd 72 2 (.nd 70 4 .lf .lf) .lf) (.nd 77 1 .lf .lf)) (.nd 83 4 (.nd 80 9 .lf .lf) (.nd 86 11 .lf .lf))) (.nd 231 2 (.nd 128 5 (.nd 121 2 (.nd 118 3 .lf .lf) .lf) (.nd 152 2 .lf .lf)) (.nd 243 3 (.nd 240 4 .lf .lf) (.nd 247 3 .lf .lf))))),
 (.nd 5123 (3,1,false) (.nd 4160 (0,1,false) (.nd 2121 (9,1,false) (.nd 2116 (4,1,false) (.nd 2114 (2,1,false) (.nd 2113 (1,1,false) (.nd 2112 (0,1,false) .lf .lf) .lf) (.nd 2115 (3,1,false) .lf .lf)) (.nd 2119 (7,1,false) (.nd 2118 (6,1,false) (.nd 2117 (5,1,false) .lf .lf) .lf) (.nd 2120 (8,1,false) .lf .lf))) (.nd 3779 (3,1,false) (.nd 3777 (1,1,false) (.nd 3776 (0,1,false) (.nd 2122 (10,1,false) .lf .lf) .lf) (.nd 3778 (2,1,false) .lf .lf)) (.nd 3781 (5,1,false) (.nd 3780 (4,1,false) .lf .lf) (.nd 3782 (6,1,false) .lf .lf)))) (.nd 4482 (2,1,false) (.nd 4290 (2,1,false) (.nd 4288 (0,1,false) (.nd 4162 (2,1,false) (.nd 4161 (1,1,false) .lf .lf) .lf) (.nd 4289 (1,1,false) .lf .lf)) (.nd 4480 (0,1,false) (.nd 4292 (4,1,false) (.nd 4291 (3,1,false) .lf .lf) .lf) (.nd 4481 (1,1,false) .lf .lf))) (.nd 4801 (1,1,false) (.nd 4609 (1,1,false) (.nd 4608 (0,1,false) (.nd 4483 (3,1,false) .lf .lf) .lf) (.nd 4800 (0,1,false) .lf .lf)) (.nd 5121 (1,1,false) (.nd 5120 (0,1,false) .lf .lf) (.nd 5122 (2,1,false) .lf .lf))))) (.nd 8192 (0,1,false) (.nd 5504 (0,11,true) (.nd 5128 (8,1,false) (.nd 5126 (6,1,false) (.nd 5125 (5,1,false) (.nd 5124 (4,1,false) .lf .lf) .lf) (.nd 5127 (7,1,false) .lf .lf)) (.nd 5314 (2,1,false) (.nd 5313 (1,1,false) (.nd 5312 (0,1,false) .lf .lf) .lf) (.nd 5315 (3,1,false) .lf .lf))) (.nd 7553 (1,1,false) (.nd 5954 (2,1,false) (.nd 5953 (1,1,false) (.nd 5952 (0,1,false) .lf .lf) .lf) (.nd 7552 (0,1,false) .lf .lf)) (.nd 7744 (0,1,false) (.nd 7554 (2,1,false) .lf .lf) (.nd 7745 (1,1,false) .lf .lf)))) (.nd 15360 (0,1,false) (.nd 10240 (0,11,true) (.nd 8195 (3,1,false) (.nd 8194 (2,1,false) (.nd 8193 (1,1,false) .lf .lf) .lf) (.nd 8196 (4,1,false) .lf .lf)) (.nd 14016 (0,1,false) (.nd 10242 (12,1,false) (.nd 10241 (11,1,false) .lf .lf) .lf) (.nd 14785 (1,1,false) .lf .lf))) (.nd 15554 (2,1,false) (.nd 15363 (3,1,false) (.nd 15362 (2,1,false) (.nd 15361 (1,1,false) .lf .lf) .lf) (.nd 15552 (0,1,false) .lf .lf)) (.nd 15809 (1,1,false) (.nd 15808 (0,1,false) .lf .lf) (.nd 15810 (2,1,false) .lf .lf)))))),
 (.nd 57 .u8 (.nd 5 .u8 (.nd 3 .i64 (.nd 2 .i64 .lf .lf) .lf) (.nd 56 .u64 (.nd 53 .u64 .lf .lf) .lf)) (.nd 119 .u8 (.nd 78 .u8 (.nd 77 .u8 .lf .lf) .lf) (.nd 234 .u8 (.nd 126 .u8 .lf .lf) .lf)))⟩,by kernel_rfl⟩
open Go
def Tryz.laysSort_ren:Go.Shelf.Ren:=⟨fun|189=>147|125=>182|257=>181|128=>202|129=>203|294=>194|295=>195|296=>196|297=>197|298=>198|299=>199|216=>149|300=>200|301=>201|328=>210|329=>211|330=>212|331=>213|332=>214|215=>183|343=>216|n=>n,fun|28=>54|3=>3|46=>56|0=>0|51=>313|53=>53|4=>4|183=>307|182=>306|131=>39|5=>5|9=>9|218=>321|222=>204|228=>331|229=>332|n=>n,fun|n=>n⟩
theorem hG:Go.Proofs.Lays.n189 prog Tryz.laysSort_ren where
 mixed:=by kernel_rfl
 f125:=func182.trans (congrArg some kR)
 f128:=func202.trans (congrArg some kR)
 f129:=func203.trans (congrArg some kR)
 f189:=func147.trans (congrArg some kR)
 f215:=func183.trans (congrArg some kR)
 f216:=func149.trans (congrArg some kR)
 f257:=func181.trans (congrArg some kR)
 f294:=func194.trans (congrArg some kR)
 f295:=func195.trans (congrArg some kR)
 f296:=func196.trans (congrArg some kR)
 f297:=func197.trans (congrArg some kR)
 f298:=func198.trans (congrArg some kR)
 f299:=func199.trans (congrArg some kR)
 f300:=func200.trans (congrArg some kR)
 f301:=func201.trans (congrArg some kR)
 f328:=func210.trans (congrArg some kR)
 f329:=func211.trans (congrArg some kR)
 f330:=func212.trans (congrArg some kR)
 f331:=func213.trans (congrArg some kR)
 f332:=func214.trans (congrArg some kR)
 f343:=func216.trans (congrArg some kR)
 t0:=underlying0
 a0:=Tryz.isAgg0
 z0:=Tryz.sizeOf0
 v0:=Tryz.zeroValue0
 t3:=underlying3
 a3:=Tryz.isAgg3
 z3:=Tryz.sizeOf3
 v3:=Tryz.zeroValue3
 t4:=underlying4
 a4:=Tryz.isAgg4
 z4:=Tryz.sizeOf4
 v4:=Tryz.zeroValue4
 t5:=underlying5
 a5:=Tryz.isAgg5
 z5:=Tryz.sizeOf5
 v5:=Tryz.zeroValue5
 t9:=underlying9
 a9:=Tryz.isAgg9
 z9:=Tryz.sizeOf9
 v9:=Tryz.zeroValue9
 t28:=underlying54
 a28:=Tryz.isAgg54
 z28:=Tryz.sizeOf54
 v28:=Tryz.zeroValue54
 t46:=underlying56
 a46:=Tryz.isAgg56
 z46:=Tryz.sizeOf56
 v46:=Tryz.zeroValue56
 t51:=underlying313
 a51:=Tryz.isAgg313
 z51:=Tryz.sizeOf313
 v51:=Tryz.zeroValue313
 t53:=underlying53
 a53:=Tryz.isAgg53
 z53:=Tryz.sizeOf53
 v53:=Tryz.zeroValue53
 t131:=underlying39
 a131:=Tryz.isAgg39
 z131:=Tryz.sizeOf39
 v131:=Tryz.zeroValue39
 t182:=underlying306
 a182:=Tryz.isAgg306
 z182:=Tryz.sizeOf306
 v182:=Tryz.zeroValue306
 t183:=underlying307
 a183:=Tryz.isAgg307
 z183:=Tryz.sizeOf307
 v183:=Tryz.zeroValue307
 t218:=underlying321
 a218:=Tryz.isAgg321
 z218:=Tryz.sizeOf321
 v218:=Tryz.zeroValue321
 t222:=underlying204
 a222:=Tryz.isAgg204
 z222:=Tryz.sizeOf204
 v222:=Tryz.zeroValue204
 t228:=underlying331
 a228:=Tryz.isAgg331
 z228:=Tryz.sizeOf331
 v228:=Tryz.zeroValue331
 t229:=underlying332
 a229:=Tryz.isAgg332
 z229:=Tryz.sizeOf332
 v229:=Tryz.zeroValue332
end Go.Proofs.YtejcfgjpdocaoaaGreatDoor
