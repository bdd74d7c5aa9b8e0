/- Part of the proof. -/
import Derived.Lib.RowBridge
import Derived.Test.YtejcfgjpdocaoaaGreatDoorProg
import Derived.KernelRfl
import Derived.Test.YtejcfgjpdocaoaaGreatDoorO
set_option linter.all false
set_option maxHeartbeats 4000000
set_option maxRecDepth 100000
namespace Go.Proofs.YtejcfgjpdocaoaaGreatDoor
open Go.Proofs.Tryz
open Go Go.Sk
theorem a119:a8 prog 119=some false:=by kernel_rfl
theorem a126:a8 prog 126=some false:=by kernel_rfl
theorem a2:a8 prog 2=some false:=by kernel_rfl
theorem d6:a8 prog 204=some false:=by kernel_rfl
theorem a231:a8 prog 231=some true:=by kernel_rfl
theorem sh:a8 prog 240=some true:=by kernel_rfl
theorem a252:a8 prog 252=some false:=by kernel_rfl
theorem a276:a8 prog 276=some false:=by kernel_rfl
theorem a297:a8 prog 297=some false:=by kernel_rfl
theorem a3:a8 prog 3=some false:=by kernel_rfl
theorem a301:a8 prog 301=some false:=by kernel_rfl
theorem a303:a8 prog 303=some false:=by kernel_rfl
theorem a33:a8 prog 33=some true:=by kernel_rfl
theorem a35:a8 prog 35=some false:=by kernel_rfl
theorem a4:a8 prog 4=some false:=by kernel_rfl
theorem a5:a8 prog 5=some false:=by kernel_rfl
theorem a54:a8 prog 54=some false:=by kernel_rfl
theorem a57:a8 prog 57=some false:=by kernel_rfl
theorem a63:a8 prog 63=some false:=by kernel_rfl
theorem a68:a8 prog 68=some false:=by kernel_rfl
theorem a73:a8 prog 73=some false:=by kernel_rfl
theorem a77:a8 prog 77=some false:=by kernel_rfl
theorem a78:a8 prog 78=some false:=by kernel_rfl
theorem a80:a8 prog 80=some true:=by kernel_rfl
theorem e22:aZ prog 22=some (7,true):=by kernel_rfl
theorem e23:aZ prog 23=some (4,true):=by kernel_rfl
theorem e24:aZ prog 24=some (3,true):=by kernel_rfl
theorem e25:aZ prog 25=some (3,true):=by kernel_rfl
theorem e26:aZ prog 26=some (1,false):=by kernel_rfl
theorem cD:aZ prog 265=some (1,false):=by kernel_rfl
theorem e27:aZ prog 27=some (5,true):=by kernel_rfl
theorem e28:aZ prog 28=some (3,true):=by kernel_rfl
theorem vX:aZ prog 286=some (1,false):=by kernel_rfl
theorem e29:aZ prog 29=some (4,true):=by kernel_rfl
theorem vW:aZ prog 294=some (1,false):=by kernel_rfl
theorem e30:aZ prog 30=some (2,true):=by kernel_rfl
theorem vV:aZ prog 304=some (1,false):=by kernel_rfl
theorem e31:aZ prog 31=some (2,true):=by kernel_rfl
theorem vU:aZ prog 318=some (1,false):=by kernel_rfl
theorem vT:aZ prog 319=some (1,false):=by kernel_rfl
theorem vS:aZ prog 320=some (1,false):=by kernel_rfl
theorem e42:aZ prog 42=some (1,false):=by kernel_rfl
theorem e54:aZ prog 54=some (1,false):=by kernel_rfl
theorem e63:aZ prog 63=some (5,true):=by kernel_rfl
theorem e68:aZ prog 68=some (2,true):=by kernel_rfl
theorem e73:aZ prog 73=some (9,true):=by kernel_rfl
theorem e87:aZ prog 87=some (1,false):=by kernel_rfl
theorem f118_0:aF prog 118 0=some (0,1,false):=by kernel_rfl
theorem f118_1:aF prog 118 1=some (1,1,false):=by kernel_rfl
theorem f118_2:aF prog 118 2=some (2,1,false):=by kernel_rfl
theorem f121_0:aF prog 121 0=some (0,1,false):=by kernel_rfl
theorem f121_1:aF prog 121 1=some (1,1,false):=by kernel_rfl
theorem f128_0:aF prog 128 0=some (0,1,false):=by kernel_rfl
theorem f128_1:aF prog 128 1=some (1,1,false):=by kernel_rfl
theorem f128_2:aF prog 128 2=some (2,1,false):=by kernel_rfl
theorem f128_3:aF prog 128 3=some (3,1,false):=by kernel_rfl
theorem f128_4:aF prog 128 4=some (4,1,false):=by kernel_rfl
theorem f59_0:aF prog 59 0=some (0,1,false):=by kernel_rfl
theorem f59_1:aF prog 59 1=some (1,1,false):=by kernel_rfl
theorem f59_2:aF prog 59 2=some (2,1,false):=by kernel_rfl
theorem f59_3:aF prog 59 3=some (3,1,false):=by kernel_rfl
theorem f59_4:aF prog 59 4=some (4,1,false):=by kernel_rfl
theorem f59_5:aF prog 59 5=some (5,1,false):=by kernel_rfl
theorem f59_6:aF prog 59 6=some (6,1,false):=by kernel_rfl
theorem f65_0:aF prog 65 0=some (0,1,false):=by kernel_rfl
theorem f65_1:aF prog 65 1=some (1,1,false):=by kernel_rfl
theorem f65_2:aF prog 65 2=some (2,1,false):=by kernel_rfl
theorem f67_0:aF prog 67 0=some (0,1,false):=by kernel_rfl
theorem f67_1:aF prog 67 1=some (1,1,false):=by kernel_rfl
theorem f67_2:aF prog 67 2=some (2,1,false):=by kernel_rfl
theorem f67_3:aF prog 67 3=some (3,1,false):=by kernel_rfl
theorem f67_4:aF prog 67 4=some (4,1,false):=by kernel_rfl
theorem f70_0:aF prog 70 0=some (0,1,false):=by kernel_rfl
theorem f70_1:aF prog 70 1=some (1,1,false):=by kernel_rfl
theorem f70_2:aF prog 70 2=some (2,1,false):=by kernel_rfl
theorem f70_3:aF prog 70 3=some (3,1,false):=by kernel_rfl
theorem f72_0:aF prog 72 0=some (0,1,false):=by kernel_rfl
theorem f72_1:aF prog 72 1=some (1,1,false):=by kernel_rfl
theorem f75_0:aF prog 75 0=some (0,1,false):=by kernel_rfl
theorem f75_1:aF prog 75 1=some (1,1,false):=by kernel_rfl
theorem f80_0:aF prog 80 0=some (0,1,false):=by kernel_rfl
theorem f80_1:aF prog 80 1=some (1,1,false):=by kernel_rfl
theorem f80_2:aF prog 80 2=some (2,1,false):=by kernel_rfl
theorem f80_3:aF prog 80 3=some (3,1,false):=by kernel_rfl
theorem f80_4:aF prog 80 4=some (4,1,false):=by kernel_rfl
theorem f80_5:aF prog 80 5=some (5,1,false):=by kernel_rfl
theorem f80_6:aF prog 80 6=some (6,1,false):=by kernel_rfl
theorem f80_7:aF prog 80 7=some (7,1,false):=by kernel_rfl
theorem f80_8:aF prog 80 8=some (8,1,false):=by kernel_rfl
theorem f83_0:aF prog 83 0=some (0,1,false):=by kernel_rfl
theorem f83_1:aF prog 83 1=some (1,1,false):=by kernel_rfl
theorem f83_2:aF prog 83 2=some (2,1,false):=by kernel_rfl
theorem f83_3:aF prog 83 3=some (3,1,false):=by kernel_rfl
theorem f93_0:aF prog 93 0=some (0,1,false):=by kernel_rfl
theorem f93_1:aF prog 93 1=some (1,1,false):=by kernel_rfl
theorem f93_2:aF prog 93 2=some (2,1,false):=by kernel_rfl
theorem l22:bR prog 22=some (59,7,56):=by kernel_rfl
theorem l23:bR prog 23=some (83,4,32):=by kernel_rfl
theorem l24:bR prog 24=some (118,3,24):=by kernel_rfl
theorem l25:bR prog 25=some (65,3,40):=by kernel_rfl
theorem l26:bR prog 26=some (54,1,24):=by kernel_rfl
theorem dY:bR prog 265=some (204,1,8):=by kernel_rfl
theorem l27:bR prog 27=some (67,5,56):=by kernel_rfl
theorem l28:bR prog 28=some (93,3,24):=by kernel_rfl
theorem l286:bR prog 286=some (9,1,16):=by kernel_rfl
theorem l29:bR prog 29=some (70,4,48):=by kernel_rfl
theorem l294:bR prog 294=some (252,1,8):=by kernel_rfl
theorem l30:bR prog 30=some (75,2,32):=by kernel_rfl
theorem l304:bR prog 304=some (276,1,8):=by kernel_rfl
theorem l31:bR prog 31=some (121,2,16):=by kernel_rfl
theorem l318:bR prog 318=some (297,1,8):=by kernel_rfl
theorem l319:bR prog 319=some (301,1,8):=by kernel_rfl
theorem l320:bR prog 320=some (303,1,8):=by kernel_rfl
theorem l42:bR prog 42=some (5,1,1):=by kernel_rfl
theorem l54:bR prog 54=some (3,1,8):=by kernel_rfl
theorem l63:bR prog 63=some (128,5,40):=by kernel_rfl
theorem l68:bR prog 68=some (72,2,48):=by kernel_rfl
theorem l73:bR prog 73=some (80,9,80):=by kernel_rfl
theorem l87:bR prog 87=some (35,1,8):=by kernel_rfl
theorem p100:cB prog 100=some [(0,1),(1,1),(2,1)]:=by kernel_rfl
theorem p152:cB prog 152=some [(0,1),(1,1)]:=by kernel_rfl
theorem p160:cB prog 160=some [(0,11),(11,1),(12,1)]:=by kernel_rfl
theorem p219:cB prog 219=some [(0,1)]:=by kernel_rfl
theorem p231:cB prog 231=some [(0,1),(1,1)]:=by kernel_rfl
theorem rG:cB prog 240=some [(0,1),(1,1),(2,1),(3,1)]:=by kernel_rfl
theorem p33:cB prog 33=some [(0,1),(1,1),(2,1),(3,1),(4,1),(5,1),(6,1),(7,1),(8,1),(9,1),(10,1)]:=by kernel_rfl
theorem p59:cB prog 59=some [(0,1),(1,1),(2,1),(3,1),(4,1),(5,1),(6,1)]:=by kernel_rfl
theorem p86:cB prog 86=some [(0,11)]:=by kernel_rfl
theorem q59:ii prog 59=some [.int .u8, .int .i64, .int .i64, .int .i64, .int .i64, .int .i64, .int .i64]:=by kernel_rfl
theorem ar284:dZ prog 284=some (57,2,true):=by kernel_rfl
theorem qZ:dZ prog 315=some (256,1,false):=by kernel_rfl
theorem s118:bt prog 118=some 3:=by kernel_rfl
theorem s119:bt prog 119=some 1:=by kernel_rfl
theorem s121:bt prog 121=some 2:=by kernel_rfl
theorem s126:bt prog 126=some 1:=by kernel_rfl
theorem s128:bt prog 128=some 5:=by kernel_rfl
theorem s152:bt prog 152=some 2:=by kernel_rfl
theorem s2:bt prog 2=some 1:=by kernel_rfl
theorem s22:bt prog 22=some 1:=by kernel_rfl
theorem s23:bt prog 23=some 1:=by kernel_rfl
theorem rD:bt prog 231=some 2:=by kernel_rfl
theorem s24:bt prog 24=some 1:=by kernel_rfl
theorem eB:bt prog 240=some 4:=by kernel_rfl
theorem s25:bt prog 25=some 1:=by kernel_rfl
theorem s26:bt prog 26=some 1:=by kernel_rfl
theorem s27:bt prog 27=some 1:=by kernel_rfl
theorem s28:bt prog 28=some 1:=by kernel_rfl
theorem s29:bt prog 29=some 1:=by kernel_rfl
theorem s3:bt prog 3=some 1:=by kernel_rfl
theorem s30:bt prog 30=some 1:=by kernel_rfl
theorem s31:bt prog 31=some 1:=by kernel_rfl
theorem s33:bt prog 33=some 11:=by kernel_rfl
theorem s4:bt prog 4=some 1:=by kernel_rfl
theorem s42:bt prog 42=some 1:=by kernel_rfl
theorem s5:bt prog 5=some 1:=by kernel_rfl
theorem s54:bt prog 54=some 1:=by kernel_rfl
theorem s57:bt prog 57=some 1:=by kernel_rfl
theorem s59:bt prog 59=some 7:=by kernel_rfl
theorem s63:bt prog 63=some 1:=by kernel_rfl
theorem s65:bt prog 65=some 3:=by kernel_rfl
theorem s67:bt prog 67=some 5:=by kernel_rfl
theorem s68:bt prog 68=some 1:=by kernel_rfl
theorem s70:bt prog 70=some 4:=by kernel_rfl
theorem s72:bt prog 72=some 2:=by kernel_rfl
theorem s73:bt prog 73=some 1:=by kernel_rfl
theorem s75:bt prog 75=some 2:=by kernel_rfl
theorem s77:bt prog 77=some 1:=by kernel_rfl
theorem s78:bt prog 78=some 1:=by kernel_rfl
theorem s80:bt prog 80=some 9:=by kernel_rfl
theorem s83:bt prog 83=some 4:=by kernel_rfl
theorem s86:bt prog 86=some 11:=by kernel_rfl
theorem s9:bt prog 9=some 1:=by kernel_rfl
theorem s93:bt prog 93=some 3:=by kernel_rfl
theorem z100:aW prog 100=some [.slice none 0 0, .bool false, .bool false]:=by kernel_rfl
theorem z118:aW prog 118=some [.int .i64 0, .int .i64 0, .int .i64 0]:=by kernel_rfl
theorem z121:aW prog 121=some [.int .i64 0, .int .u8 0]:=by kernel_rfl
theorem z128:aW prog 128=some [.int .u8 0, .int .i64 0, .int .i64 0, .int .i64 0, .int .i64 0]:=by kernel_rfl
theorem z152:aW prog 152=some [.int .i64 0, .int .i64 0]:=by kernel_rfl
theorem z160:aW prog 160=some [.slice none 0 0, .slice none 0 0, .slice none 0 0, .slice none 0 0, .slice none 0 0, .slice none 0 0, .slice none 0 0, .int .i64 0, .slice none 0 0, .slice none 0 0, .slice none 0 0, .int .i64 0, .int .i64 0]:=by kernel_rfl
theorem z2:aW prog 2=some [.int .i64 0]:=by kernel_rfl
theorem dX:aW prog 204=some [.pointer none]:=by kernel_rfl
theorem z219:aW prog 219=some [.slice none 0 0]:=by kernel_rfl
theorem uC:aW prog 231=some [.string ByteArray.empty, .string ByteArray.empty]:=by kernel_rfl
theorem fC:aW prog 240=some [.nilFunc, .nilFunc, .int .i64 0, .int .i64 0]:=by kernel_rfl
theorem z252:aW prog 252=some [.pointer none]:=by kernel_rfl
theorem z276:aW prog 276=some [.pointer none]:=by kernel_rfl
theorem z297:aW prog 297=some [.pointer none]:=by kernel_rfl
theorem z3:aW prog 3=some [.int .i64 0]:=by kernel_rfl
theorem z301:aW prog 301=some [.pointer none]:=by kernel_rfl
theorem z303:aW prog 303=some [.pointer none]:=by kernel_rfl
theorem z33:aW prog 33=some [.slice none 0 0, .slice none 0 0, .slice none 0 0, .slice none 0 0, .slice none 0 0, .slice none 0 0, .slice none 0 0, .int .i64 0, .slice none 0 0, .slice none 0 0, .slice none 0 0]:=by kernel_rfl
theorem z35:aW prog 35=some [.nilFunc]:=by kernel_rfl
theorem z4:aW prog 4=some [.bool false]:=by kernel_rfl
theorem z5:aW prog 5=some [.int .u8 0]:=by kernel_rfl
theorem z54:aW prog 54=some [.slice none 0 0]:=by kernel_rfl
theorem z59:aW prog 59=some [.int .u8 0, .int .i64 0, .int .i64 0, .int .i64 0, .int .i64 0, .int .i64 0, .int .i64 0]:=by kernel_rfl
theorem z65:aW prog 65=some [.slice none 0 0, .int .i64 0, .int .i64 0]:=by kernel_rfl
theorem z67:aW prog 67=some [.int .i64 0, .int .i64 0, .int .i64 0, .bool false, .slice none 0 0]:=by kernel_rfl
theorem z70:aW prog 70=some [.int .i64 0, .int .i64 0, .slice none 0 0, .int .i64 0]:=by kernel_rfl
theorem z72:aW prog 72=some [.slice none 0 0, .slice none 0 0]:=by kernel_rfl
theorem z75:aW prog 75=some [.int .i64 0, .slice none 0 0]:=by kernel_rfl
theorem z80:aW prog 80=some [.int .u8 0, .int .u8 0, .int .i64 0, .int .i64 0, .int .i64 0, .int .i64 0, .int .i64 0, .int .i64 0, .slice none 0 0]:=by kernel_rfl
theorem z83:aW prog 83=some [.int .i64 0, .int .i64 0, .int .i64 0, .bool false]:=by kernel_rfl
theorem z86:aW prog 86=some [.slice none 0 0, .slice none 0 0, .slice none 0 0, .slice none 0 0, .slice none 0 0, .slice none 0 0, .slice none 0 0, .int .i64 0, .slice none 0 0, .slice none 0 0, .slice none 0 0]:=by kernel_rfl
theorem z9:aW prog 9=some [.string ByteArray.empty]:=by kernel_rfl
theorem z93:aW prog 93=some [.int .i64 0, .int .i64 0, .int .i64 0]:=by kernel_rfl
instance:Tys prog:=⟨⟨(.nd 73 false (.nd 30 false (.nd 23 false (.nd 5 false (.nd 3 false (.nd 2 false .lf .lf) (.nd 4 false .lf .lf)) (.nd 22 false (.nd 9 false .lf .lf) .lf)) (.nd 27 false (.nd 25 false (.nd 24 false .lf .lf) (.nd 26 false .lf .lf)) (.nd 29 false (.nd 28 false .lf .lf) .lf))) (.nd 59 true (.nd 42 false (.nd 33 true (.nd 31 false .lf .lf) (.nd 35 false .lf .lf)) (.nd 57 false (.nd 54 false .lf .lf) .lf)) (.nd 68 false (.nd 65 true (.nd 63 false .lf .lf) (.nd 67 true .lf .lf)) (.nd 72 true (.nd 70 true .lf .lf) .lf)))) (.nd 128 true (.nd 93 true (.nd 80 true (.nd 77 false (.nd 75 true .lf .lf) (.nd 78 false .lf .lf)) (.nd 86 true (.nd 83 true .lf .lf) .lf)) (.nd 119 false (.nd 108 false (.nd 102 false .lf .lf) (.nd 118 true .lf .lf)) (.nd 126 false (.nd 121 true .lf .lf) .lf))) (.nd 240 true (.nd 220 false (.nd 158 false (.nd 152 true .lf .lf) (.nd 204 false .lf .lf)) (.nd 238 false (.nd 231 true .lf .lf) .lf)) (.nd 297 false (.nd 276 false (.nd 252 false .lf .lf) .lf) (.nd 303 false (.nd 301 false .lf .lf) .lf))))),
 (.nd 65 3 (.nd 27 1 (.nd 22 1 (.nd 4 1 (.nd 3 1 (.nd 2 1 .lf .lf) .lf) (.nd 9 1 (.nd 5 1 .lf .lf) .lf)) (.nd 25 1 (.nd 24 1 (.nd 23 1 .lf .lf) .lf) (.nd 26 1 .lf .lf))) (.nd 42 1 (.nd 30 1 (.nd 29 1 (.nd 28 1 .lf .lf) .lf) (.nd 33 11 (.nd 31 1 .lf .lf) .lf)) (.nd 59 7 (.nd 57 1 (.nd 54 1 .lf .lf) .lf) (.nd 63 1 .lf .lf)))) (.nd 86 11 (.nd 75 2 (.nd 70 4 (.nd 68 1 (.nd 67 5 .lf .lf) .lf) (.nd 73 1 (.nd 72 2 .lf .lf) .lf)) (.nd 80 9 (.nd 78 1 (.nd 77 1 .lf .lf) .lf) (.nd 83 4 .lf .lf))) (.nd 126 1 (.nd 119 1 (.nd 118 3 (.nd 93 3 .lf .lf) .lf) (.nd 121 2 .lf .lf)) (.nd 231 2 (.nd 152 2 (.nd 128 5 .lf .lf) .lf) (.nd 240 4 .lf .lf))))),
 (.nd 5122 (2,1,false) (.nd 4160 (0,1,false) (.nd 2121 (9,1,false) (.nd 2116 (4,1,false) (.nd 2114 (2,1,false) (.nd 2113 (1,1,false) (.nd 2112 (0,1,false) .lf .lf) .lf) (.nd 2115 (3,1,false) .lf .lf)) (.nd 2119 (7,1,false) (.nd 2118 (6,1,false) (.nd 2117 (5,1,false) .lf .lf) .lf) (.nd 2120 (8,1,false) .lf .lf))) (.nd 3779 (3,1,false) (.nd 3777 (1,1,false) (.nd 3776 (0,1,false) (.nd 2122 (10,1,false) .lf .lf) .lf) (.nd 3778 (2,1,false) .lf .lf)) (.nd 3781 (5,1,false) (.nd 3780 (4,1,false) .lf .lf) (.nd 3782 (6,1,false) .lf .lf)))) (.nd 4481 (1,1,false) (.nd 4290 (2,1,false) (.nd 4288 (0,1,false) (.nd 4162 (2,1,false) (.nd 4161 (1,1,false) .lf .lf) .lf) (.nd 4289 (1,1,false) .lf .lf)) (.nd 4292 (4,1,false) (.nd 4291 (3,1,false) .lf .lf) (.nd 4480 (0,1,false) .lf .lf))) (.nd 4800 (0,1,false) (.nd 4608 (0,1,false) (.nd 4483 (3,1,false) (.nd 4482 (2,1,false) .lf .lf) .lf) (.nd 4609 (1,1,false) .lf .lf)) (.nd 5120 (0,1,false) (.nd 4801 (1,1,false) .lf .lf) (.nd 5121 (1,1,false) .lf .lf))))) (.nd 7553 (1,1,false) (.nd 5315 (3,1,false) (.nd 5127 (7,1,false) (.nd 5125 (5,1,false) (.nd 5124 (4,1,false) (.nd 5123 (3,1,false) .lf .lf) .lf) (.nd 5126 (6,1,false) .lf .lf)) (.nd 5313 (1,1,false) (.nd 5312 (0,1,false) (.nd 5128 (8,1,false) .lf .lf) .lf) (.nd 5314 (2,1,false) .lf .lf))) (.nd 6400 (0,1,false) (.nd 5953 (1,1,false) (.nd 5952 (0,1,false) (.nd 5504 (0,11,true) .lf .lf) .lf) (.nd 5954 (2,1,false) .lf .lf)) (.nd 6402 (2,1,false) (.nd 6401 (1,1,false) .lf .lf) (.nd 7552 (0,1,false) .lf .lf)))) (.nd 10240 (0,11,true) (.nd 8193 (1,1,false) (.nd 7745 (1,1,false) (.nd 7744 (0,1,false) (.nd 7554 (2,1,false) .lf .lf) .lf) (.nd 8192 (0,1,false) .lf .lf)) (.nd 8195 (3,1,false) (.nd 8194 (2,1,false) .lf .lf) (.nd 8196 (4,1,false) .lf .lf))) (.nd 15360 (0,1,false) (.nd 14016 (0,1,false) (.nd 10242 (12,1,false) (.nd 10241 (11,1,false) .lf .lf) .lf) (.nd 14785 (1,1,false) .lf .lf)) (.nd 15362 (2,1,false) (.nd 15361 (1,1,false) .lf .lf) (.nd 15363 (3,1,false) .lf .lf)))))),
 (.nd 77 .u8 (.nd 5 .u8 (.nd 3 .i64 (.nd 2 .i64 .lf .lf) .lf) (.nd 57 .u8 (.nd 53 .u64 .lf .lf) .lf)) (.nd 126 .u8 (.nd 119 .u8 (.nd 78 .u8 .lf .lf) .lf) (.nd 234 .u8 .lf .lf)))⟩,by kernel_rfl⟩
end Go.Proofs.YtejcfgjpdocaoaaGreatDoor
