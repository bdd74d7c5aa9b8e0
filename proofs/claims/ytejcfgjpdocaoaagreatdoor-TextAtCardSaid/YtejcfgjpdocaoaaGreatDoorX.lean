/- Part of the proof. -/
import Derived.Lib.RowBridge
import Derived.Test.YtejcfgjpdocaoaaGreatDoorProg
import Derived.KernelRfl
import Derived.Test.YtejcfgjpdocaoaaGreatDoorO
set_option linter.unusedVariables false
set_option linter.unusedSimpArgs false
set_option linter.unusedSectionVars false
set_option linter.unnecessarySimpa false
set_option maxHeartbeats 4000000
set_option maxRecDepth 100000
namespace Go.Proofs.YtejcfgjpdocaoaaGreatDoor
open Tryz
open Go Go.Sk
theorem a2:aR prog 2=some false:=by kernel_rfl
theorem a231:aR prog 231=some true:=by kernel_rfl
theorem oo:aR prog 240=some true:=by kernel_rfl
theorem a243:aR prog 243=some true:=by kernel_rfl
theorem a3:aR prog 3=some false:=by kernel_rfl
theorem a35:aR prog 35=some false:=by kernel_rfl
theorem a4:aR prog 4=some false:=by kernel_rfl
theorem a5:aR prog 5=some false:=by kernel_rfl
theorem a59:aR prog 59=some true:=by kernel_rfl
theorem a72:aR prog 72=some true:=by kernel_rfl
theorem a80:aR prog 80=some true:=by kernel_rfl
theorem e22:aH prog 22=some (7,true):=by kernel_rfl
theorem e23:aH prog 23=some (4,true):=by kernel_rfl
theorem e24:aH prog 24=some (3,true):=by kernel_rfl
theorem e241:aH prog 241=some (3,true):=by kernel_rfl
theorem e25:aH prog 25=some (3,true):=by kernel_rfl
theorem e26:aH prog 26=some (1,false):=by kernel_rfl
theorem e27:aH prog 27=some (5,true):=by kernel_rfl
theorem e28:aH prog 28=some (3,true):=by kernel_rfl
theorem q7:aH prog 286=some (1,false):=by kernel_rfl
theorem e29:aH prog 29=some (4,true):=by kernel_rfl
theorem sP:aH prog 292=some (3,true):=by kernel_rfl
theorem e30:aH prog 30=some (2,true):=by kernel_rfl
theorem e31:aH prog 31=some (2,true):=by kernel_rfl
theorem e54:aH prog 54=some (1,false):=by kernel_rfl
theorem e63:aH prog 63=some (5,true):=by kernel_rfl
theorem e68:aH prog 68=some (2,true):=by kernel_rfl
theorem e73:aH prog 73=some (9,true):=by kernel_rfl
theorem e87:aH prog 87=some (1,false):=by kernel_rfl
theorem bf:cy prog 241=some (247,3,24):=by kernel_rfl
theorem l286:cy prog 286=some (9,1,16):=by kernel_rfl
theorem l292:cy prog 292=some (243,3,48):=by kernel_rfl
theorem l87:cy prog 87=some (35,1,8):=by kernel_rfl
theorem p152:bj prog 152=some [(0,1),(1,1)]:=by kernel_rfl
theorem p160:bj prog 160=some [(0,11),(11,1),(12,1)]:=by kernel_rfl
theorem p231:bj prog 231=some [(0,1),(1,1)]:=by kernel_rfl
theorem nX:bj prog 240=some [(0,1),(1,1),(2,1),(3,1)]:=by kernel_rfl
theorem a9:bj prog 243=some [(0,1),(1,1),(2,1)]:=by kernel_rfl
theorem av:bj prog 247=some [(0,1),(1,1),(2,1)]:=by kernel_rfl
theorem p59:bj prog 59=some [(0,1),(1,1),(2,1),(3,1),(4,1),(5,1),(6,1)]:=by kernel_rfl
theorem p72:bj prog 72=some [(0,1),(1,1)]:=by kernel_rfl
theorem p80:bj prog 80=some [(0,1),(1,1),(2,1),(3,1),(4,1),(5,1),(6,1),(7,1),(8,1)]:=by kernel_rfl
theorem p86:bj prog 86=some [(0,11)]:=by kernel_rfl
theorem q59:fh prog 59=some [.int .u8, .int .i64, .int .i64, .int .i64, .int .i64, .int .i64, .int .i64]:=by kernel_rfl
theorem ar284:gP prog 284=some (57,2,true):=by kernel_rfl
theorem nw:gP prog 315=some (256,1,false):=by kernel_rfl
theorem s118:a8 prog 118=some 3:=by kernel_rfl
theorem s121:a8 prog 121=some 2:=by kernel_rfl
theorem s152:a8 prog 152=some 2:=by kernel_rfl
theorem s2:a8 prog 2=some 1:=by kernel_rfl
theorem nU:a8 prog 231=some 2:=by kernel_rfl
theorem cQ:a8 prog 240=some 4:=by kernel_rfl
theorem oR:a8 prog 243=some 3:=by kernel_rfl
theorem s247:a8 prog 247=some 3:=by kernel_rfl
theorem s3:a8 prog 3=some 1:=by kernel_rfl
theorem s4:a8 prog 4=some 1:=by kernel_rfl
theorem s57:a8 prog 57=some 1:=by kernel_rfl
theorem s59:a8 prog 59=some 7:=by kernel_rfl
theorem s65:a8 prog 65=some 3:=by kernel_rfl
theorem s67:a8 prog 67=some 5:=by kernel_rfl
theorem s70:a8 prog 70=some 4:=by kernel_rfl
theorem s72:a8 prog 72=some 2:=by kernel_rfl
theorem s75:a8 prog 75=some 2:=by kernel_rfl
theorem s77:a8 prog 77=some 1:=by kernel_rfl
theorem s78:a8 prog 78=some 1:=by kernel_rfl
theorem s80:a8 prog 80=some 9:=by kernel_rfl
theorem s83:a8 prog 83=some 4:=by kernel_rfl
theorem s86:a8 prog 86=some 11:=by kernel_rfl
theorem s9:a8 prog 9=some 1:=by kernel_rfl
theorem s93:a8 prog 93=some 3:=by kernel_rfl
theorem z118:aK prog 118=some [.int .i64 0, .int .i64 0, .int .i64 0]:=by kernel_rfl
theorem z121:aK prog 121=some [.int .i64 0, .int .u8 0]:=by kernel_rfl
theorem z152:aK prog 152=some [.int .i64 0, .int .i64 0]:=by kernel_rfl
theorem z160:aK prog 160=some [.slice none 0 0, .slice none 0 0, .slice none 0 0, .slice none 0 0, .slice none 0 0, .slice none 0 0, .slice none 0 0, .int .i64 0, .slice none 0 0, .slice none 0 0, .slice none 0 0, .int .i64 0, .int .i64 0]:=by kernel_rfl
theorem z2:aK prog 2=some [.int .i64 0]:=by kernel_rfl
theorem pV:aK prog 231=some [.string ByteArray.empty, .string ByteArray.empty]:=by kernel_rfl
theorem dH:aK prog 240=some [.nilFunc, .nilFunc, .int .i64 0, .int .i64 0]:=by kernel_rfl
theorem aY:aK prog 243=some [.int .u8 0, .string ByteArray.empty, .slice none 0 0]:=by kernel_rfl
theorem al:aK prog 247=some [.int .u8 0, .int .i64 0, .int .i64 0]:=by kernel_rfl
theorem z35:aK prog 35=some [.nilFunc]:=by kernel_rfl
theorem z4:aK prog 4=some [.bool false]:=by kernel_rfl
theorem z59:aK prog 59=some [.int .u8 0, .int .i64 0, .int .i64 0, .int .i64 0, .int .i64 0, .int .i64 0, .int .i64 0]:=by kernel_rfl
theorem z65:aK prog 65=some [.slice none 0 0, .int .i64 0, .int .i64 0]:=by kernel_rfl
theorem z67:aK prog 67=some [.int .i64 0, .int .i64 0, .int .i64 0, .bool false, .slice none 0 0]:=by kernel_rfl
theorem z70:aK prog 70=some [.int .i64 0, .int .i64 0, .slice none 0 0, .int .i64 0]:=by kernel_rfl
theorem z72:aK prog 72=some [.slice none 0 0, .slice none 0 0]:=by kernel_rfl
theorem z75:aK prog 75=some [.int .i64 0, .slice none 0 0]:=by kernel_rfl
theorem z80:aK prog 80=some [.int .u8 0, .int .u8 0, .int .i64 0, .int .i64 0, .int .i64 0, .int .i64 0, .int .i64 0, .int .i64 0, .slice none 0 0]:=by kernel_rfl
theorem z83:aK prog 83=some [.int .i64 0, .int .i64 0, .int .i64 0, .bool false]:=by kernel_rfl
theorem z86:aK prog 86=some [.slice none 0 0, .slice none 0 0, .slice none 0 0, .slice none 0 0, .slice none 0 0, .slice none 0 0, .slice none 0 0, .int .i64 0, .slice none 0 0, .slice none 0 0, .slice none 0 0]:=by kernel_rfl
theorem z9:aK prog 9=some [.string ByteArray.empty]:=by kernel_rfl
theorem z93:aK prog 93=some [.int .i64 0, .int .i64 0, .int .i64 0]:=by kernel_rfl
instance:Tys prog:=⟨⟨(.nd 73 false (.nd 30 false (.nd 23 false (.nd 5 false (.nd 3 false (.nd 2 false .lf .lf) (.nd 4 false .lf .lf)) (.nd 22 false (.nd 9 false .lf .lf) .lf)) (.nd 27 false (.nd 25 false (.nd 24 false .lf .lf) (.nd 26 false .lf .lf)) (.nd 29 false (.nd 28 false .lf .lf) .lf))) (.nd 63 false (.nd 54 false (.nd 33 true (.nd 31 false .lf .lf) (.nd 35 false .lf .lf)) (.nd 59 true (.nd 57 false .lf .lf) .lf)) (.nd 68 false (.nd 67 true (.nd 65 true .lf .lf) .lf) (.nd 72 true (.nd 70 true .lf .lf) .lf)))) (.nd 121 true (.nd 86 true (.nd 80 true (.nd 77 false (.nd 75 true .lf .lf) (.nd 78 false .lf .lf)) (.nd 84 false (.nd 83 true .lf .lf) .lf)) (.nd 108 false (.nd 102 false (.nd 93 true .lf .lf) .lf) (.nd 119 false (.nd 118 true .lf .lf) .lf))) (.nd 231 true (.nd 158 false (.nd 128 true (.nd 126 false .lf .lf) (.nd 152 true .lf .lf)) (.nd 220 false (.nd 204 false .lf .lf) .lf)) (.nd 241 false (.nd 240 true (.nd 238 false .lf .lf) .lf) (.nd 247 true (.nd 243 true .lf .lf) .lf))))),
 (.nd 78 1 (.nd 59 7 (.nd 9 1 (.nd 3 1 (.nd 2 1 .lf .lf) (.nd 4 1 .lf .lf)) (.nd 57 1 (.nd 33 11 .lf .lf) .lf)) (.nd 72 2 (.nd 67 5 (.nd 65 3 .lf .lf) (.nd 70 4 .lf .lf)) (.nd 77 1 (.nd 75 2 .lf .lf) .lf))) (.nd 121 2 (.nd 86 11 (.nd 83 4 (.nd 80 9 .lf .lf) (.nd 84 1 .lf .lf)) (.nd 118 3 (.nd 93 3 .lf .lf) .lf)) (.nd 240 4 (.nd 152 2 (.nd 128 5 .lf .lf) (.nd 231 2 .lf .lf)) (.nd 247 3 (.nd 243 3 .lf .lf) .lf)))),
 (.nd 5123 (3,1,false) (.nd 4160 (0,1,false) (.nd 2121 (9,1,false) (.nd 2116 (4,1,false) (.nd 2114 (2,1,false) (.nd 2113 (1,1,false) (.nd 2112 (0,1,false) .lf .lf) .lf) (.nd 2115 (3,1,false) .lf .lf)) (.nd 2119 (7,1,false) (.nd 2118 (6,1,false) (.nd 2117 (5,1,false) .lf .lf) .lf) (.nd 2120 (8,1,false) .lf .lf))) (.nd 3779 (3,1,false) (.nd 3777 (1,1,false) (.nd 3776 (0,1,false) (.nd 2122 (10,1,false) .lf .lf) .lf) (.nd 3778 (2,1,false) .lf .lf)) (.nd 3781 (5,1,false) (.nd 3780 (4,1,false) .lf .lf) (.nd 3782 (6,1,false) .lf .lf)))) (.nd 4482 (2,1,false) (.nd 4290 (2,1,false) (.nd 4288 (0,1,false) (.nd 4162 (2,1,false) (.nd 4161 (1,1,false) .lf .lf) .lf) (.nd 4289 (1,1,false) .lf .lf)) (.nd 4480 (0,1,false) (.nd 4292 (4,1,false) (.nd 4291 (3,1,false) .lf .lf) .lf) (.nd 4481 (1,1,false) .lf .lf))) (.nd 4801 (1,1,false) (.nd 4609 (1,1,false) (.nd 4608 (0,1,false) (.nd 4483 (3,1,false) .lf .lf) .lf) (.nd 4800 (0,1,false) .lf .lf)) (.nd 5121 (1,1,false) (.nd 5120 (0,1,false) .lf .lf) (.nd 5122 (2,1,false) .lf .lf))))) (.nd 8192 (0,1,false) (.nd 5504 (0,11,true) (.nd 5128 (8,1,false) (.nd 5126 (6,1,false) (.nd 5125 (5,1,false) (.nd 5124 (4,1,false) .lf .lf) .lf) (.nd 5127 (7,1,false) .lf .lf)) (.nd 5314 (2,1,false) (.nd 5313 (1,1,false) (.nd 5312 (0,1,false) .lf .lf) .lf) (.nd 5315 (3,1,false) .lf .lf))) (.nd 7553 (1,1,false) (.nd 5954 (2,1,false) (.nd 5953 (1,1,false) (.nd 5952 (0,1,false) .lf .lf) .lf) (.nd 7552 (0,1,false) .lf .lf)) (.nd 7744 (0,1,false) (.nd 7554 (2,1,false) .lf .lf) (.nd 7745 (1,1,false) .lf .lf)))) (.nd 15360 (0,1,false) (.nd 10240 (0,11,true) (.nd 8195 (3,1,false) (.nd 8194 (2,1,false) (.nd 8193 (1,1,false) .lf .lf) .lf) (.nd 8196 (4,1,false) .lf .lf)) (.nd 10242 (12,1,false) (.nd 10241 (11,1,false) .lf .lf) (.nd 14785 (1,1,false) .lf .lf))) (.nd 15554 (2,1,false) (.nd 15363 (3,1,false) (.nd 15362 (2,1,false) (.nd 15361 (1,1,false) .lf .lf) .lf) (.nd 15552 (0,1,false) .lf .lf)) (.nd 15809 (1,1,false) (.nd 15808 (0,1,false) .lf .lf) (.nd 15810 (2,1,false) .lf .lf)))))),
 (.nd 5 .u8 (.nd 3 .i64 (.nd 2 .i64 .lf .lf) .lf) (.nd 234 .u8 (.nd 57 .u8 .lf .lf) .lf))⟩,by kernel_rfl⟩
end Go.Proofs.YtejcfgjpdocaoaaGreatDoor
