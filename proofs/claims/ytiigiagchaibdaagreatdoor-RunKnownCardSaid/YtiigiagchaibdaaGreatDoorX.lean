/- Part of the proof. -/
import Derived.Lib.RowBridge
import Derived.Test.YtiigiagchaibdaaGreatDoorProg
import Derived.KernelRfl
import Derived.Test.YtiigiagchaibdaaGreatDoorO
set_option linter.unusedVariables false
set_option linter.unusedSimpArgs false
set_option linter.unusedSectionVars false
set_option linter.unnecessarySimpa false
set_option maxHeartbeats 4000000
set_option maxRecDepth 100000
namespace Go.Proofs.YtiigiagchaibdaaGreatDoor
open Go.Proofs.Tryz
open Go Go.Sk
theorem a2:aq prog 2=some false:=by kernel_rfl
theorem a27:aq prog 27=some true:=by kernel_rfl
theorem a3:aq prog 3=some false:=by kernel_rfl
theorem a331:aq prog 331=some true:=by kernel_rfl
theorem pq:aq prog 340=some true:=by kernel_rfl
theorem a4:aq prog 4=some false:=by kernel_rfl
theorem a5:aq prog 5=some false:=by kernel_rfl
theorem a78:aq prog 78=some false:=by kernel_rfl
theorem kK:ai prog 169=some (1,false):=by kernel_rfl
theorem t3:ai prog 236=some (5,true):=by kernel_rfl
theorem e25:ai prog 25=some (9,true):=by kernel_rfl
theorem e31:ai prog 31=some (1,false):=by kernel_rfl
theorem e38:ai prog 38=some (5,true):=by kernel_rfl
theorem tZ:ai prog 397=some (1,false):=by kernel_rfl
theorem e45:ai prog 45=some (7,true):=by kernel_rfl
theorem e46:ai prog 46=some (4,true):=by kernel_rfl
theorem e47:ai prog 47=some (3,true):=by kernel_rfl
theorem e48:ai prog 48=some (3,true):=by kernel_rfl
theorem e49:ai prog 49=some (1,false):=by kernel_rfl
theorem e50:ai prog 50=some (3,true):=by kernel_rfl
theorem e51:ai prog 51=some (4,true):=by kernel_rfl
theorem e52:ai prog 52=some (2,true):=by kernel_rfl
theorem e53:ai prog 53=some (2,true):=by kernel_rfl
theorem e81:ai prog 81=some (2,true):=by kernel_rfl
theorem l169:bW prog 169=some (78,1,8):=by kernel_rfl
theorem l397:bW prog 397=some (9,1,16):=by kernel_rfl
theorem p154:bw prog 154=some [(0,1),(1,1),(2,1),(3,1),(4,1),(5,1),(6,1)]:=by kernel_rfl
theorem p168:bw prog 168=some [(0,11)]:=by kernel_rfl
theorem p225:bw prog 225=some [(0,1),(1,1)]:=by kernel_rfl
theorem p234:bw prog 234=some [(0,11),(11,1),(12,1)]:=by kernel_rfl
theorem p331:bw prog 331=some [(0,1),(1,1)]:=by kernel_rfl
theorem oY:bw prog 340=some [(0,1),(1,1),(2,1),(3,1)]:=by kernel_rfl
theorem q154:eZ prog 154=some [.int .u8, .int .i64, .int .i64, .int .i64, .int .i64, .int .i64, .int .i64]:=by kernel_rfl
theorem ar395:bL prog 395=some (57,2,true):=by kernel_rfl
theorem ov:bL prog 451=some (256,1,false):=by kernel_rfl
theorem s109:aM prog 109=some 4:=by kernel_rfl
theorem s111:aM prog 111=some 2:=by kernel_rfl
theorem s154:aM prog 154=some 7:=by kernel_rfl
theorem s156:aM prog 156=some 4:=by kernel_rfl
theorem s168:aM prog 168=some 11:=by kernel_rfl
theorem s195:aM prog 195=some 2:=by kernel_rfl
theorem s2:aM prog 2=some 1:=by kernel_rfl
theorem s221:aM prog 221=some 3:=by kernel_rfl
theorem s225:aM prog 225=some 2:=by kernel_rfl
theorem s23:aM prog 23=some 1:=by kernel_rfl
theorem s238:aM prog 238=some 3:=by kernel_rfl
theorem s24:aM prog 24=some 1:=by kernel_rfl
theorem s247:aM prog 247=some 3:=by kernel_rfl
theorem s251:aM prog 251=some 2:=by kernel_rfl
theorem s27:aM prog 27=some 9:=by kernel_rfl
theorem s3:aM prog 3=some 1:=by kernel_rfl
theorem oW:aM prog 331=some 2:=by kernel_rfl
theorem cK:aM prog 340=some 4:=by kernel_rfl
theorem s4:aM prog 4=some 1:=by kernel_rfl
theorem s80:aM prog 80=some 5:=by kernel_rfl
theorem s9:aM prog 9=some 1:=by kernel_rfl
theorem z109:ao prog 109=some [.int .i64 0, .int .i64 0, .slice none 0 0, .int .i64 0]:=by kernel_rfl
theorem z111:ao prog 111=some [.int .i64 0, .slice none 0 0]:=by kernel_rfl
theorem z154:ao prog 154=some [.int .u8 0, .int .i64 0, .int .i64 0, .int .i64 0, .int .i64 0, .int .i64 0, .int .i64 0]:=by kernel_rfl
theorem z156:ao prog 156=some [.int .i64 0, .int .i64 0, .int .i64 0, .bool false]:=by kernel_rfl
theorem z168:ao prog 168=some [.slice none 0 0, .slice none 0 0, .slice none 0 0, .slice none 0 0, .slice none 0 0, .slice none 0 0, .slice none 0 0, .int .i64 0, .slice none 0 0, .slice none 0 0, .slice none 0 0]:=by kernel_rfl
theorem z195:ao prog 195=some [.slice none 0 0, .slice none 0 0]:=by kernel_rfl
theorem z221:ao prog 221=some [.int .i64 0, .int .i64 0, .int .i64 0]:=by kernel_rfl
theorem z225:ao prog 225=some [.int .i64 0, .int .i64 0]:=by kernel_rfl
theorem z234:ao prog 234=some [.slice none 0 0, .slice none 0 0, .slice none 0 0, .slice none 0 0, .slice none 0 0, .slice none 0 0, .slice none 0 0, .int .i64 0, .slice none 0 0, .slice none 0 0, .slice none 0 0, .int .i64 0, .int .i64 0]:=by kernel_rfl
theorem z238:ao prog 238=some [.slice none 0 0, .int .i64 0, .int .i64 0]:=by kernel_rfl
theorem z247:ao prog 247=some [.int .i64 0, .int .i64 0, .int .i64 0]:=by kernel_rfl
theorem z251:ao prog 251=some [.int .i64 0, .int .u8 0]:=by kernel_rfl
theorem z27:ao prog 27=some [.int .u8 0, .int .u8 0, .int .i64 0, .int .i64 0, .int .i64 0, .int .i64 0, .int .i64 0, .int .i64 0, .slice none 0 0]:=by kernel_rfl
theorem rM:ao prog 331=some [.string ByteArray.empty, .string ByteArray.empty]:=by kernel_rfl
theorem dz:ao prog 340=some [.nilFunc, .nilFunc, .int .i64 0, .int .i64 0]:=by kernel_rfl
theorem z4:ao prog 4=some [.bool false]:=by kernel_rfl
theorem z78:ao prog 78=some [.nilFunc]:=by kernel_rfl
theorem z80:ao prog 80=some [.int .i64 0, .int .i64 0, .int .i64 0, .bool false, .slice none 0 0]:=by kernel_rfl
theorem z9:ao prog 9=some [.string ByteArray.empty]:=by kernel_rfl
instance:Tys prog:=⟨⟨(.nd 109 true (.nd 46 false (.nd 24 false (.nd 5 false (.nd 3 false (.nd 2 false .lf .lf) (.nd 4 false .lf .lf)) (.nd 23 false (.nd 9 false .lf .lf) .lf)) (.nd 31 false (.nd 27 true (.nd 25 false .lf .lf) .lf) (.nd 45 false (.nd 38 false .lf .lf) .lf))) (.nd 52 false (.nd 49 false (.nd 48 false (.nd 47 false .lf .lf) .lf) (.nd 51 false (.nd 50 false .lf .lf) .lf)) (.nd 78 false (.nd 55 true (.nd 53 false .lf .lf) .lf) (.nd 81 false (.nd 80 true .lf .lf) .lf)))) (.nd 238 true (.nd 192 false (.nd 154 true (.nd 115 false (.nd 111 true .lf .lf) .lf) (.nd 168 true (.nd 156 true .lf .lf) .lf)) (.nd 225 true (.nd 221 true (.nd 195 true .lf .lf) .lf) (.nd 236 false (.nd 232 false .lf .lf) .lf))) (.nd 275 false (.nd 247 true (.nd 242 true (.nd 240 false .lf .lf) .lf) (.nd 251 true (.nd 249 false .lf .lf) .lf)) (.nd 338 false (.nd 337 false (.nd 331 true .lf .lf) .lf) (.nd 400 false (.nd 340 true .lf .lf) .lf))))),
 (.nd 154 7 (.nd 24 1 (.nd 4 1 (.nd 3 1 (.nd 2 1 .lf .lf) .lf) (.nd 23 1 (.nd 9 1 .lf .lf) .lf)) (.nd 80 5 (.nd 55 11 (.nd 27 9 .lf .lf) .lf) (.nd 111 2 (.nd 109 4 .lf .lf) .lf))) (.nd 238 3 (.nd 195 2 (.nd 168 11 (.nd 156 4 .lf .lf) .lf) (.nd 225 2 (.nd 221 3 .lf .lf) .lf)) (.nd 251 2 (.nd 247 3 (.nd 242 5 .lf .lf) .lf) (.nd 340 4 (.nd 331 2 .lf .lf) .lf)))),
 (.nd 9859 (3,1,false) (.nd 3528 (8,1,false) (.nd 1736 (8,1,false) (.nd 1732 (4,1,false) (.nd 1730 (2,1,false) (.nd 1729 (1,1,false) (.nd 1728 (0,1,false) .lf .lf) .lf) (.nd 1731 (3,1,false) .lf .lf)) (.nd 1734 (6,1,false) (.nd 1733 (5,1,false) .lf .lf) (.nd 1735 (7,1,false) .lf .lf))) (.nd 3524 (4,1,false) (.nd 3522 (2,1,false) (.nd 3521 (1,1,false) (.nd 3520 (0,1,false) .lf .lf) .lf) (.nd 3523 (3,1,false) .lf .lf)) (.nd 3526 (6,1,false) (.nd 3525 (5,1,false) .lf .lf) (.nd 3527 (7,1,false) .lf .lf)))) (.nd 6977 (1,1,false) (.nd 5122 (2,1,false) (.nd 5120 (0,1,false) (.nd 3530 (10,1,false) (.nd 3529 (9,1,false) .lf .lf) .lf) (.nd 5121 (1,1,false) .lf .lf)) (.nd 5124 (4,1,false) (.nd 5123 (3,1,false) .lf .lf) (.nd 6976 (0,1,false) .lf .lf))) (.nd 7105 (1,1,false) (.nd 6979 (3,1,false) (.nd 6978 (2,1,false) .lf .lf) (.nd 7104 (0,1,false) .lf .lf)) (.nd 9857 (1,1,false) (.nd 9856 (0,1,false) .lf .lf) (.nd 9858 (2,1,false) .lf .lf))))) (.nd 15233 (1,1,false) (.nd 12481 (1,1,false) (.nd 9985 (1,1,false) (.nd 9862 (6,1,false) (.nd 9861 (5,1,false) (.nd 9860 (4,1,false) .lf .lf) .lf) (.nd 9984 (0,1,false) .lf .lf)) (.nd 10752 (0,11,true) (.nd 9986 (2,1,false) .lf .lf) (.nd 12480 (0,1,false) .lf .lf))) (.nd 14976 (0,11,true) (.nd 14145 (1,1,false) (.nd 14144 (0,1,false) .lf .lf) (.nd 14146 (2,1,false) .lf .lf)) (.nd 14978 (12,1,false) (.nd 14977 (11,1,false) .lf .lf) (.nd 15232 (0,1,false) .lf .lf)))) (.nd 15810 (2,1,false) (.nd 15491 (3,1,false) (.nd 15489 (1,1,false) (.nd 15488 (0,1,false) (.nd 15234 (2,1,false) .lf .lf) .lf) (.nd 15490 (2,1,false) .lf .lf)) (.nd 15808 (0,1,false) (.nd 15492 (4,1,false) .lf .lf) (.nd 15809 (1,1,false) .lf .lf))) (.nd 21760 (0,1,false) (.nd 16065 (1,1,false) (.nd 16064 (0,1,false) .lf .lf) (.nd 21185 (1,1,false) .lf .lf)) (.nd 21762 (2,1,false) (.nd 21761 (1,1,false) .lf .lf) (.nd 21763 (3,1,false) .lf .lf)))))),
 (.nd 5 .u8 (.nd 3 .i64 (.nd 2 .i64 .lf .lf) .lf) (.nd 115 .u8 (.nd 73 .u8 .lf .lf) .lf))⟩,by kernel_rfl⟩
end Go.Proofs.YtiigiagchaibdaaGreatDoor
