/- Part of the proof. -/
import Derived.Lib.RowBridge
import Derived.Test.YtejcfgjpdocaoaaGreatDoorProg
import Derived.KernelRfl
import Derived.Test.YtejcfgjpdocaoaaGreatDoorO
set_option linter.all false
set_option maxHeartbeats 4000000
set_option maxRecDepth 100000
namespace Go.Proofs.YtejcfgjpdocaoaaGreatDoor
open Go.Proofs.Tryz
open Go Go.Sk
theorem a119:ba prog 119=some false:=by kernel_rfl
theorem a126:ba prog 126=some false:=by kernel_rfl
theorem a2:ba prog 2=some false:=by kernel_rfl
theorem ek:ba prog 204=some false:=by kernel_rfl
theorem a231:ba prog 231=some true:=by kernel_rfl
theorem so:ba prog 240=some true:=by kernel_rfl
theorem a243:ba prog 243=some true:=by kernel_rfl
theorem a252:ba prog 252=some false:=by kernel_rfl
theorem a276:ba prog 276=some false:=by kernel_rfl
theorem a297:ba prog 297=some false:=by kernel_rfl
theorem a3:ba prog 3=some false:=by kernel_rfl
theorem a301:ba prog 301=some false:=by kernel_rfl
theorem a303:ba prog 303=some false:=by kernel_rfl
theorem a33:ba prog 33=some true:=by kernel_rfl
theorem a35:ba prog 35=some false:=by kernel_rfl
theorem a4:ba prog 4=some false:=by kernel_rfl
theorem a5:ba prog 5=some false:=by kernel_rfl
theorem a54:ba prog 54=some false:=by kernel_rfl
theorem a57:ba prog 57=some false:=by kernel_rfl
theorem a59:ba prog 59=some true:=by kernel_rfl
theorem a63:ba prog 63=some false:=by kernel_rfl
theorem a68:ba prog 68=some false:=by kernel_rfl
theorem a72:ba prog 72=some true:=by kernel_rfl
theorem a73:ba prog 73=some false:=by kernel_rfl
theorem a77:ba prog 77=some false:=by kernel_rfl
theorem a78:ba prog 78=some false:=by kernel_rfl
theorem a80:ba prog 80=some true:=by kernel_rfl
theorem e22:aZ prog 22=some (7,true):=by kernel_rfl
theorem e23:aZ prog 23=some (4,true):=by kernel_rfl
theorem e24:aZ prog 24=some (3,true):=by kernel_rfl
theorem e241:aZ prog 241=some (3,true):=by kernel_rfl
theorem e25:aZ prog 25=some (3,true):=by kernel_rfl
theorem e26:aZ prog 26=some (1,false):=by kernel_rfl
theorem cZ:aZ prog 265=some (1,false):=by kernel_rfl
theorem e27:aZ prog 27=some (5,true):=by kernel_rfl
theorem e28:aZ prog 28=some (3,true):=by kernel_rfl
theorem wa:aZ prog 286=some (1,false):=by kernel_rfl
theorem e29:aZ prog 29=some (4,true):=by kernel_rfl
theorem ym:aZ prog 292=some (3,true):=by kernel_rfl
theorem e294:aZ prog 294=some (1,false):=by kernel_rfl
theorem e30:aZ prog 30=some (2,true):=by kernel_rfl
theorem e304:aZ prog 304=some (1,false):=by kernel_rfl
theorem e31:aZ prog 31=some (2,true):=by kernel_rfl
theorem e318:aZ prog 318=some (1,false):=by kernel_rfl
theorem e319:aZ prog 319=some (1,false):=by kernel_rfl
theorem e320:aZ prog 320=some (1,false):=by kernel_rfl
theorem e42:aZ prog 42=some (1,false):=by kernel_rfl
theorem e54:aZ prog 54=some (1,false):=by kernel_rfl
theorem e63:aZ prog 63=some (5,true):=by kernel_rfl
theorem e68:aZ prog 68=some (2,true):=by kernel_rfl
theorem e73:aZ prog 73=some (9,true):=by kernel_rfl
theorem e87:aZ prog 87=some (1,false):=by kernel_rfl
theorem f118_0:aG prog 118 0=some (0,1,false):=by kernel_rfl
theorem f118_1:aG prog 118 1=some (1,1,false):=by kernel_rfl
theorem f118_2:aG prog 118 2=some (2,1,false):=by kernel_rfl
theorem f121_0:aG prog 121 0=some (0,1,false):=by kernel_rfl
theorem f121_1:aG prog 121 1=some (1,1,false):=by kernel_rfl
theorem f128_0:aG prog 128 0=some (0,1,false):=by kernel_rfl
theorem f128_1:aG prog 128 1=some (1,1,false):=by kernel_rfl
theorem f128_2:aG prog 128 2=some (2,1,false):=by kernel_rfl
theorem f128_3:aG prog 128 3=some (3,1,false):=by kernel_rfl
theorem f128_4:aG prog 128 4=some (4,1,false):=by kernel_rfl
theorem f59_0:aG prog 59 0=some (0,1,false):=by kernel_rfl
theorem f59_1:aG prog 59 1=some (1,1,false):=by kernel_rfl
theorem f59_2:aG prog 59 2=some (2,1,false):=by kernel_rfl
theorem f59_3:aG prog 59 3=some (3,1,false):=by kernel_rfl
theorem f59_4:aG prog 59 4=some (4,1,false):=by kernel_rfl
theorem f59_5:aG prog 59 5=some (5,1,false):=by kernel_rfl
theorem f59_6:aG prog 59 6=some (6,1,false):=by kernel_rfl
theorem f65_0:aG prog 65 0=some (0,1,false):=by kernel_rfl
theorem f65_1:aG prog 65 1=some (1,1,false):=by kernel_rfl
theorem f65_2:aG prog 65 2=some (2,1,false):=by kernel_rfl
theorem f67_0:aG prog 67 0=some (0,1,false):=by kernel_rfl
theorem f67_1:aG prog 67 1=some (1,1,false):=by kernel_rfl
theorem f67_2:aG prog 67 2=some (2,1,false):=by kernel_rfl
theorem f67_3:aG prog 67 3=some (3,1,false):=by kernel_rfl
theorem f67_4:aG prog 67 4=some (4,1,false):=by kernel_rfl
theorem f70_0:aG prog 70 0=some (0,1,false):=by kernel_rfl
theorem f70_1:aG prog 70 1=some (1,1,false):=by kernel_rfl
theorem f70_2:aG prog 70 2=some (2,1,false):=by kernel_rfl
theorem f70_3:aG prog 70 3=some (3,1,false):=by kernel_rfl
theorem f72_0:aG prog 72 0=some (0,1,false):=by kernel_rfl
theorem f72_1:aG prog 72 1=some (1,1,false):=by kernel_rfl
theorem f75_0:aG prog 75 0=some (0,1,false):=by kernel_rfl
theorem f75_1:aG prog 75 1=some (1,1,false):=by kernel_rfl
theorem f80_0:aG prog 80 0=some (0,1,false):=by kernel_rfl
theorem f80_1:aG prog 80 1=some (1,1,false):=by kernel_rfl
theorem f80_2:aG prog 80 2=some (2,1,false):=by kernel_rfl
theorem f80_3:aG prog 80 3=some (3,1,false):=by kernel_rfl
theorem f80_4:aG prog 80 4=some (4,1,false):=by kernel_rfl
theorem f80_5:aG prog 80 5=some (5,1,false):=by kernel_rfl
theorem f80_6:aG prog 80 6=some (6,1,false):=by kernel_rfl
theorem f80_7:aG prog 80 7=some (7,1,false):=by kernel_rfl
theorem f80_8:aG prog 80 8=some (8,1,false):=by kernel_rfl
theorem f83_0:aG prog 83 0=some (0,1,false):=by kernel_rfl
theorem f83_1:aG prog 83 1=some (1,1,false):=by kernel_rfl
theorem f83_2:aG prog 83 2=some (2,1,false):=by kernel_rfl
theorem f83_3:aG prog 83 3=some (3,1,false):=by kernel_rfl
theorem f93_0:aG prog 93 0=some (0,1,false):=by kernel_rfl
theorem f93_1:aG prog 93 1=some (1,1,false):=by kernel_rfl
theorem f93_2:aG prog 93 2=some (2,1,false):=by kernel_rfl
theorem l22:bQ prog 22=some (59,7,56):=by kernel_rfl
theorem l23:bQ prog 23=some (83,4,32):=by kernel_rfl
theorem l24:bQ prog 24=some (118,3,24):=by kernel_rfl
theorem cv:bQ prog 241=some (247,3,24):=by kernel_rfl
theorem l25:bQ prog 25=some (65,3,40):=by kernel_rfl
theorem l26:bQ prog 26=some (54,1,24):=by kernel_rfl
theorem jc:bQ prog 265=some (204,1,8):=by kernel_rfl
theorem l27:bQ prog 27=some (67,5,56):=by kernel_rfl
theorem l28:bQ prog 28=some (93,3,24):=by kernel_rfl
theorem l286:bQ prog 286=some (9,1,16):=by kernel_rfl
theorem l29:bQ prog 29=some (70,4,48):=by kernel_rfl
theorem l292:bQ prog 292=some (243,3,48):=by kernel_rfl
theorem l294:bQ prog 294=some (252,1,8):=by kernel_rfl
theorem l30:bQ prog 30=some (75,2,32):=by kernel_rfl
theorem l304:bQ prog 304=some (276,1,8):=by kernel_rfl
theorem l31:bQ prog 31=some (121,2,16):=by kernel_rfl
theorem l318:bQ prog 318=some (297,1,8):=by kernel_rfl
theorem l319:bQ prog 319=some (301,1,8):=by kernel_rfl
theorem l320:bQ prog 320=some (303,1,8):=by kernel_rfl
theorem l42:bQ prog 42=some (5,1,1):=by kernel_rfl
theorem l54:bQ prog 54=some (3,1,8):=by kernel_rfl
theorem l63:bQ prog 63=some (128,5,40):=by kernel_rfl
theorem l68:bQ prog 68=some (72,2,48):=by kernel_rfl
theorem l73:bQ prog 73=some (80,9,80):=by kernel_rfl
theorem l87:bQ prog 87=some (35,1,8):=by kernel_rfl
theorem p100:bB prog 100=some [(0,1),(1,1),(2,1)]:=by kernel_rfl
theorem p107:bB prog 107=some [(0,1),(1,1)]:=by kernel_rfl
theorem p118:bB prog 118=some [(0,1),(1,1),(2,1)]:=by kernel_rfl
theorem p121:bB prog 121=some [(0,1),(1,1)]:=by kernel_rfl
theorem p128:bB prog 128=some [(0,1),(1,1),(2,1),(3,1),(4,1)]:=by kernel_rfl
theorem p152:bB prog 152=some [(0,1),(1,1)]:=by kernel_rfl
theorem p160:bB prog 160=some [(0,11),(11,1),(12,1)]:=by kernel_rfl
theorem p219:bB prog 219=some [(0,1)]:=by kernel_rfl
theorem p231:bB prog 231=some [(0,1),(1,1)]:=by kernel_rfl
theorem rR:bB prog 240=some [(0,1),(1,1),(2,1),(3,1)]:=by kernel_rfl
theorem ck:bB prog 243=some [(0,1),(1,1),(2,1)]:=by kernel_rfl
theorem aS:bB prog 247=some [(0,1),(1,1),(2,1)]:=by kernel_rfl
theorem p33:bB prog 33=some [(0,1),(1,1),(2,1),(3,1),(4,1),(5,1),(6,1),(7,1),(8,1),(9,1),(10,1)]:=by kernel_rfl
theorem p59:bB prog 59=some [(0,1),(1,1),(2,1),(3,1),(4,1),(5,1),(6,1)]:=by kernel_rfl
theorem p65:bB prog 65=some [(0,1),(1,1),(2,1)]:=by kernel_rfl
theorem p67:bB prog 67=some [(0,1),(1,1),(2,1),(3,1),(4,1)]:=by kernel_rfl
theorem p70:bB prog 70=some [(0,1),(1,1),(2,1),(3,1)]:=by kernel_rfl
theorem p72:bB prog 72=some [(0,1),(1,1)]:=by kernel_rfl
theorem p75:bB prog 75=some [(0,1),(1,1)]:=by kernel_rfl
theorem p80:bB prog 80=some [(0,1),(1,1),(2,1),(3,1),(4,1),(5,1),(6,1),(7,1),(8,1)]:=by kernel_rfl
theorem p83:bB prog 83=some [(0,1),(1,1),(2,1),(3,1)]:=by kernel_rfl
theorem p86:bB prog 86=some [(0,11)]:=by kernel_rfl
theorem p93:bB prog 93=some [(0,1),(1,1),(2,1)]:=by kernel_rfl
theorem q59:iz prog 59=some [.int .u8, .int .i64, .int .i64, .int .i64, .int .i64, .int .i64, .int .i64]:=by kernel_rfl
theorem ar284:ed prog 284=some (57,2,true):=by kernel_rfl
theorem ri:ed prog 315=some (256,1,false):=by kernel_rfl
theorem s118:bH prog 118=some 3:=by kernel_rfl
theorem s119:bH prog 119=some 1:=by kernel_rfl
theorem s121:bH prog 121=some 2:=by kernel_rfl
theorem s126:bH prog 126=some 1:=by kernel_rfl
theorem s128:bH prog 128=some 5:=by kernel_rfl
theorem s152:bH prog 152=some 2:=by kernel_rfl
theorem s2:bH prog 2=some 1:=by kernel_rfl
theorem s22:bH prog 22=some 1:=by kernel_rfl
theorem s23:bH prog 23=some 1:=by kernel_rfl
theorem rM:bH prog 231=some 2:=by kernel_rfl
theorem s24:bH prog 24=some 1:=by kernel_rfl
theorem eT:bH prog 240=some 4:=by kernel_rfl
theorem te:bH prog 243=some 3:=by kernel_rfl
theorem s247:bH prog 247=some 3:=by kernel_rfl
theorem s25:bH prog 25=some 1:=by kernel_rfl
theorem s26:bH prog 26=some 1:=by kernel_rfl
theorem s27:bH prog 27=some 1:=by kernel_rfl
theorem s28:bH prog 28=some 1:=by kernel_rfl
theorem s29:bH prog 29=some 1:=by kernel_rfl
theorem s3:bH prog 3=some 1:=by kernel_rfl
theorem s30:bH prog 30=some 1:=by kernel_rfl
theorem s31:bH prog 31=some 1:=by kernel_rfl
theorem s33:bH prog 33=some 11:=by kernel_rfl
theorem s4:bH prog 4=some 1:=by kernel_rfl
theorem s42:bH prog 42=some 1:=by kernel_rfl
theorem s54:bH prog 54=some 1:=by kernel_rfl
theorem s57:bH prog 57=some 1:=by kernel_rfl
theorem s59:bH prog 59=some 7:=by kernel_rfl
theorem s63:bH prog 63=some 1:=by kernel_rfl
theorem s65:bH prog 65=some 3:=by kernel_rfl
theorem s67:bH prog 67=some 5:=by kernel_rfl
theorem s68:bH prog 68=some 1:=by kernel_rfl
theorem s70:bH prog 70=some 4:=by kernel_rfl
theorem s72:bH prog 72=some 2:=by kernel_rfl
theorem s73:bH prog 73=some 1:=by kernel_rfl
theorem s75:bH prog 75=some 2:=by kernel_rfl
theorem s77:bH prog 77=some 1:=by kernel_rfl
theorem s78:bH prog 78=some 1:=by kernel_rfl
theorem s80:bH prog 80=some 9:=by kernel_rfl
theorem s83:bH prog 83=some 4:=by kernel_rfl
theorem s86:bH prog 86=some 11:=by kernel_rfl
theorem s9:bH prog 9=some 1:=by kernel_rfl
theorem s93:bH prog 93=some 3:=by kernel_rfl
theorem z100:aT prog 100=some [.slice none 0 0, .bool false, .bool false]:=by kernel_rfl
theorem z107:aT prog 107=some [.slice none 0 0, .bool false]:=by kernel_rfl
theorem ry:aT prog 118=some [.int .i64 0, .int .i64 0, .int .i64 0]:=by kernel_rfl
theorem rx:aT prog 121=some [.int .i64 0, .int .u8 0]:=by kernel_rfl
theorem sy:aT prog 128=some [.int .u8 0, .int .i64 0, .int .i64 0, .int .i64 0, .int .i64 0]:=by kernel_rfl
theorem z152:aT prog 152=some [.int .i64 0, .int .i64 0]:=by kernel_rfl
theorem z160:aT prog 160=some [.slice none 0 0, .slice none 0 0, .slice none 0 0, .slice none 0 0, .slice none 0 0, .slice none 0 0, .slice none 0 0, .int .i64 0, .slice none 0 0, .slice none 0 0, .slice none 0 0, .int .i64 0, .int .i64 0]:=by kernel_rfl
theorem z2:aT prog 2=some [.int .i64 0]:=by kernel_rfl
theorem iN:aT prog 204=some [.pointer none]:=by kernel_rfl
theorem z219:aT prog 219=some [.slice none 0 0]:=by kernel_rfl
theorem uJ:aT prog 231=some [.string ByteArray.empty, .string ByteArray.empty]:=by kernel_rfl
theorem fR:aT prog 240=some [.nilFunc, .nilFunc, .int .i64 0, .int .i64 0]:=by kernel_rfl
theorem bZ:aT prog 243=some [.int .u8 0, .string ByteArray.empty, .slice none 0 0]:=by kernel_rfl
theorem aD:aT prog 247=some [.int .u8 0, .int .i64 0, .int .i64 0]:=by kernel_rfl
theorem z252:aT prog 252=some [.pointer none]:=by kernel_rfl
theorem z276:aT prog 276=some [.pointer none]:=by kernel_rfl
theorem z297:aT prog 297=some [.pointer none]:=by kernel_rfl
theorem z3:aT prog 3=some [.int .i64 0]:=by kernel_rfl
theorem z301:aT prog 301=some [.pointer none]:=by kernel_rfl
theorem z303:aT prog 303=some [.pointer none]:=by kernel_rfl
theorem z33:aT prog 33=some [.slice none 0 0, .slice none 0 0, .slice none 0 0, .slice none 0 0, .slice none 0 0, .slice none 0 0, .slice none 0 0, .int .i64 0, .slice none 0 0, .slice none 0 0, .slice none 0 0]:=by kernel_rfl
theorem z35:aT prog 35=some [.nilFunc]:=by kernel_rfl
theorem z4:aT prog 4=some [.bool false]:=by kernel_rfl
theorem z5:aT prog 5=some [.int .u8 0]:=by kernel_rfl
theorem z54:aT prog 54=some [.slice none 0 0]:=by kernel_rfl
theorem z59:aT prog 59=some [.int .u8 0, .int .i64 0, .int .i64 0, .int .i64 0, .int .i64 0, .int .i64 0, .int .i64 0]:=by kernel_rfl
theorem z65:aT prog 65=some [.slice none 0 0, .int .i64 0, .int .i64 0]:=by kernel_rfl
theorem z67:aT prog 67=some [.int .i64 0, .int .i64 0, .int .i64 0, .bool false, .slice none 0 0]:=by kernel_rfl
theorem z70:aT prog 70=some [.int .i64 0, .int .i64 0, .slice none 0 0, .int .i64 0]:=by kernel_rfl
theorem z72:aT prog 72=some [.slice none 0 0, .slice none 0 0]:=by kernel_rfl
theorem z75:aT prog 75=some [.int .i64 0, .slice none 0 0]:=by kernel_rfl
theorem z80:aT prog 80=some [.int .u8 0, .int .u8 0, .int .i64 0, .int .i64 0, .int .i64 0, .int .i64 0, .int .i64 0, .int .i64 0, .slice none 0 0]:=by kernel_rfl
theorem z83:aT prog 83=some [.int .i64 0, .int .i64 0, .int .i64 0, .bool false]:=by kernel_rfl
theorem z86:aT prog 86=some [.slice none 0 0, .slice none 0 0, .slice none 0 0, .slice none 0 0, .slice none 0 0, .slice none 0 0, .slice none 0 0, .int .i64 0, .slice none 0 0, .slice none 0 0, .slice none 0 0]:=by kernel_rfl
theorem z9:aT prog 9=some [.string ByteArray.empty]:=by kernel_rfl
theorem z93:aT prog 93=some [.int .i64 0, .int .i64 0, .int .i64 0]:=by kernel_rfl
instance:Tys prog:=⟨⟨(.nd 75 true (.nd 31 false (.nd 24 false (.nd 5 false (.nd 3 false (.nd 2 false .lf .lf) (.nd 4 false .lf .lf)) (.nd 22 false (.nd 9 false .lf .lf) (.nd 23 false .lf .lf))) (.nd 28 false (.nd 26 false (.nd 25 false .lf .lf) (.nd 27 false .lf .lf)) (.nd 30 false (.nd 29 false .lf .lf) .lf))) (.nd 63 false (.nd 54 false (.nd 35 false (.nd 33 true .lf .lf) (.nd 42 false .lf .lf)) (.nd 59 true (.nd 57 false .lf .lf) .lf)) (.nd 70 true (.nd 67 true (.nd 65 true .lf .lf) (.nd 68 false .lf .lf)) (.nd 73 false (.nd 72 true .lf .lf) .lf)))) (.nd 158 false (.nd 108 false (.nd 83 true (.nd 78 false (.nd 77 false .lf .lf) (.nd 80 true .lf .lf)) (.nd 93 true (.nd 86 true .lf .lf) (.nd 102 false .lf .lf))) (.nd 126 false (.nd 119 false (.nd 118 true .lf .lf) (.nd 121 true .lf .lf)) (.nd 152 true (.nd 128 true .lf .lf) .lf))) (.nd 243 true (.nd 238 false (.nd 220 false (.nd 204 false .lf .lf) (.nd 231 true .lf .lf)) (.nd 241 false (.nd 240 true .lf .lf) .lf)) (.nd 297 false (.nd 252 false (.nd 247 true .lf .lf) (.nd 276 false .lf .lf)) (.nd 303 false (.nd 301 false .lf .lf) .lf))))),
 (.nd 67 5 (.nd 28 1 (.nd 23 1 (.nd 4 1 (.nd 3 1 (.nd 2 1 .lf .lf) .lf) (.nd 22 1 (.nd 9 1 .lf .lf) .lf)) (.nd 26 1 (.nd 25 1 (.nd 24 1 .lf .lf) .lf) (.nd 27 1 .lf .lf))) (.nd 54 1 (.nd 31 1 (.nd 30 1 (.nd 29 1 .lf .lf) .lf) (.nd 42 1 (.nd 33 11 .lf .lf) .lf)) (.nd 63 1 (.nd 59 7 (.nd 57 1 .lf .lf) .lf) (.nd 65 3 .lf .lf)))) (.nd 93 3 (.nd 77 1 (.nd 72 2 (.nd 70 4 (.nd 68 1 .lf .lf) .lf) (.nd 75 2 (.nd 73 1 .lf .lf) .lf)) (.nd 83 4 (.nd 80 9 (.nd 78 1 .lf .lf) .lf) (.nd 86 11 .lf .lf))) (.nd 152 2 (.nd 121 2 (.nd 119 1 (.nd 118 3 .lf .lf) .lf) (.nd 128 5 (.nd 126 1 .lf .lf) .lf)) (.nd 243 3 (.nd 240 4 (.nd 231 2 .lf .lf) .lf) (.nd 247 3 .lf .lf))))),
 (.nd 5126 (6,1,false) (.nd 4162 (2,1,false) (.nd 2122 (10,1,false) (.nd 2117 (5,1,false) (.nd 2114 (2,1,false) (.nd 2113 (1,1,false) (.nd 2112 (0,1,false) .lf .lf) .lf) (.nd 2116 (4,1,false) (.nd 2115 (3,1,false) .lf .lf) .lf)) (.nd 2120 (8,1,false) (.nd 2119 (7,1,false) (.nd 2118 (6,1,false) .lf .lf) .lf) (.nd 2121 (9,1,false) .lf .lf))) (.nd 3780 (4,1,false) (.nd 3778 (2,1,false) (.nd 3777 (1,1,false) (.nd 3776 (0,1,false) .lf .lf) .lf) (.nd 3779 (3,1,false) .lf .lf)) (.nd 4160 (0,1,false) (.nd 3782 (6,1,false) (.nd 3781 (5,1,false) .lf .lf) .lf) (.nd 4161 (1,1,false) .lf .lf)))) (.nd 4608 (0,1,false) (.nd 4292 (4,1,false) (.nd 4290 (2,1,false) (.nd 4289 (1,1,false) (.nd 4288 (0,1,false) .lf .lf) .lf) (.nd 4291 (3,1,false) .lf .lf)) (.nd 4482 (2,1,false) (.nd 4481 (1,1,false) (.nd 4480 (0,1,false) .lf .lf) .lf) (.nd 4483 (3,1,false) .lf .lf))) (.nd 5121 (1,1,false) (.nd 4801 (1,1,false) (.nd 4800 (0,1,false) (.nd 4609 (1,1,false) .lf .lf) .lf) (.nd 5120 (0,1,false) .lf .lf)) (.nd 5124 (4,1,false) (.nd 5123 (3,1,false) (.nd 5122 (2,1,false) .lf .lf) .lf) (.nd 5125 (5,1,false) .lf .lf))))) (.nd 7745 (1,1,false) (.nd 5954 (2,1,false) (.nd 5314 (2,1,false) (.nd 5312 (0,1,false) (.nd 5128 (8,1,false) (.nd 5127 (7,1,false) .lf .lf) .lf) (.nd 5313 (1,1,false) .lf .lf)) (.nd 5952 (0,1,false) (.nd 5504 (0,11,true) (.nd 5315 (3,1,false) .lf .lf) .lf) (.nd 5953 (1,1,false) .lf .lf))) (.nd 6849 (1,1,false) (.nd 6402 (2,1,false) (.nd 6401 (1,1,false) (.nd 6400 (0,1,false) .lf .lf) .lf) (.nd 6848 (0,1,false) .lf .lf)) (.nd 7554 (2,1,false) (.nd 7553 (1,1,false) (.nd 7552 (0,1,false) .lf .lf) .lf) (.nd 7744 (0,1,false) .lf .lf)))) (.nd 14785 (1,1,false) (.nd 8196 (4,1,false) (.nd 8194 (2,1,false) (.nd 8193 (1,1,false) (.nd 8192 (0,1,false) .lf .lf) .lf) (.nd 8195 (3,1,false) .lf .lf)) (.nd 10242 (12,1,false) (.nd 10241 (11,1,false) (.nd 10240 (0,11,true) .lf .lf) .lf) (.nd 14016 (0,1,false) .lf .lf))) (.nd 15552 (0,1,false) (.nd 15362 (2,1,false) (.nd 15361 (1,1,false) (.nd 15360 (0,1,false) .lf .lf) .lf) (.nd 15363 (3,1,false) .lf .lf)) (.nd 15809 (1,1,false) (.nd 15808 (0,1,false) (.nd 15554 (2,1,false) .lf .lf) .lf) (.nd 15810 (2,1,false) .lf .lf)))))),
 (.nd 77 .u8 (.nd 5 .u8 (.nd 3 .i64 (.nd 2 .i64 .lf .lf) .lf) (.nd 57 .u8 (.nd 53 .u64 .lf .lf) .lf)) (.nd 126 .u8 (.nd 119 .u8 (.nd 78 .u8 .lf .lf) .lf) (.nd 234 .u8 .lf .lf)))⟩,by kernel_rfl⟩
end Go.Proofs.YtejcfgjpdocaoaaGreatDoor
