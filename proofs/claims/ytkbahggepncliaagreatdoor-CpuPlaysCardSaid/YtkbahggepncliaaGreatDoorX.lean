/- Part of the proof. -/
import Derived.Lib.RowBridge
import Derived.Test.YtkbahggepncliaaGreatDoorProg
import Derived.KernelRfl
import Derived.Test.YtkbahggepncliaaGreatDoorO
set_option linter.unusedVariables false
set_option linter.unusedSimpArgs false
set_option linter.unusedSectionVars false
set_option linter.unnecessarySimpa false
set_option maxHeartbeats 4000000
set_option maxRecDepth 100000
namespace Go.Proofs.YtkbahggepncliaaGreatDoor
open Tryz
open Go Go.Sk
theorem a101:bf prog 101=some true:=by kernel_rfl
theorem gM:bf prog 123=some true:=by kernel_rfl
theorem a146:bf prog 146=some false:=by kernel_rfl
theorem a173:bf prog 173=some true:=by kernel_rfl
theorem uY:bf prog 179=some true:=by kernel_rfl
theorem a2:bf prog 2=some false:=by kernel_rfl
theorem a224:bf prog 224=some true:=by kernel_rfl
theorem rZ:bf prog 233=some true:=by kernel_rfl
theorem a24:bf prog 24=some false:=by kernel_rfl
theorem a241:bf prog 241=some true:=by kernel_rfl
theorem a3:bf prog 3=some false:=by kernel_rfl
theorem a30:bf prog 30=some false:=by kernel_rfl
theorem a31:bf prog 31=some false:=by kernel_rfl
theorem a38:bf prog 38=some true:=by kernel_rfl
theorem a4:bf prog 4=some false:=by kernel_rfl
theorem a41:bf prog 41=some true:=by kernel_rfl
theorem a42:bf prog 42=some false:=by kernel_rfl
theorem a43:bf prog 43=some false:=by kernel_rfl
theorem a45:bf prog 45=some true:=by kernel_rfl
theorem a47:bf prog 47=some false:=by kernel_rfl
theorem a5:bf prog 5=some false:=by kernel_rfl
theorem a50:bf prog 50=some false:=by kernel_rfl
theorem a64:bf prog 64=some true:=by kernel_rfl
theorem a96:bf prog 96=some false:=by kernel_rfl
theorem n8:aZ prog 136=some (1,false):=by kernel_rfl
theorem pn:aZ prog 153=some (5,true):=by kernel_rfl
theorem iI:aZ prog 162=some (9,true):=by kernel_rfl
theorem e211:aZ prog 211=some (1,false):=by kernel_rfl
theorem e212:aZ prog 212=some (1,false):=by kernel_rfl
theorem e23:aZ prog 23=some (7,true):=by kernel_rfl
theorem e239:aZ prog 239=some (3,true):=by kernel_rfl
theorem e25:aZ prog 25=some (2,true):=by kernel_rfl
theorem uP:aZ prog 261=some (1,false):=by kernel_rfl
theorem wB:aZ prog 270=some (3,true):=by kernel_rfl
theorem e28:aZ prog 28=some (4,true):=by kernel_rfl
theorem e29:aZ prog 29=some (4,true):=by kernel_rfl
theorem e30:aZ prog 30=some (3,true):=by kernel_rfl
theorem e31:aZ prog 31=some (3,true):=by kernel_rfl
theorem e32:aZ prog 32=some (1,false):=by kernel_rfl
theorem e33:aZ prog 33=some (5,true):=by kernel_rfl
theorem e34:aZ prog 34=some (3,true):=by kernel_rfl
theorem e35:aZ prog 35=some (2,true):=by kernel_rfl
theorem e36:aZ prog 36=some (2,true):=by kernel_rfl
theorem e42:aZ prog 42=some (1,false):=by kernel_rfl
theorem e50:aZ prog 50=some (6,true):=by kernel_rfl
theorem e62:aZ prog 62=some (1,false):=by kernel_rfl
theorem e71:aZ prog 71=some (23,true):=by kernel_rfl
theorem e96:aZ prog 96=some (1,false):=by kernel_rfl
theorem f101_4:dR prog 101 4=some (4,1,false):=by kernel_rfl
theorem l136:cN prog 136=some (24,1,8):=by kernel_rfl
theorem l211:cN prog 211=some (43,1,1):=by kernel_rfl
theorem l212:cN prog 212=some (146,1,1):=by kernel_rfl
theorem l23:cN prog 23=some (45,7,56):=by kernel_rfl
theorem cw:cN prog 239=some (245,3,24):=by kernel_rfl
theorem l261:cN prog 261=some (9,1,16):=by kernel_rfl
theorem l270:cN prog 270=some (241,3,48):=by kernel_rfl
theorem l28:cN prog 28=some (27,4,48):=by kernel_rfl
theorem l29:cN prog 29=some (108,4,32):=by kernel_rfl
theorem l33:cN prog 33=some (101,5,56):=by kernel_rfl
theorem l35:cN prog 35=some (164,2,32):=by kernel_rfl
theorem l42:cN prog 42=some (2,1,8):=by kernel_rfl
theorem l50:cN prog 50=some (58,6,48):=by kernel_rfl
theorem l62:cN prog 62=some (42,1,24):=by kernel_rfl
theorem l96:cN prog 96=some (3,1,8):=by kernel_rfl
theorem p101:bu prog 101=some [(0,1),(1,1),(2,1),(3,1),(4,1)]:=by kernel_rfl
theorem p108:bu prog 108=some [(0,1),(1,1),(2,1),(3,1)]:=by kernel_rfl
theorem wg:bu prog 116=some [(0,1),(1,19),(20,1)]:=by kernel_rfl
theorem p118:bu prog 118=some [(0,1)]:=by kernel_rfl
theorem p123:bu prog 123=some [(0,14),(14,19),(33,1),(34,1)]:=by kernel_rfl
theorem p135:bu prog 135=some [(0,11)]:=by kernel_rfl
theorem p164:bu prog 164=some [(0,1),(1,1)]:=by kernel_rfl
theorem p168:bu prog 168=some [(0,1),(1,1)]:=by kernel_rfl
theorem p173:bu prog 173=some [(0,1),(1,1)]:=by kernel_rfl
theorem p179:bu prog 179=some [(0,1),(1,1),(2,1),(3,1),(4,1),(5,1),(6,1),(7,1),(8,1)]:=by kernel_rfl
theorem p182:bu prog 182=some [(0,11),(11,1),(12,1)]:=by kernel_rfl
theorem p224:bu prog 224=some [(0,1),(1,1)]:=by kernel_rfl
theorem rI:bu prog 233=some [(0,1),(1,1),(2,1),(3,1)]:=by kernel_rfl
theorem cg:bu prog 241=some [(0,1),(1,1),(2,1)]:=by kernel_rfl
theorem aN:bu prog 245=some [(0,1),(1,1),(2,1)]:=by kernel_rfl
theorem p27:bu prog 27=some [(0,1),(1,1),(2,1),(3,1)]:=by kernel_rfl
theorem p38:bu prog 38=some [(0,1),(1,1),(2,1),(3,1),(4,1),(5,1),(6,1),(7,1),(8,1),(9,1),(10,1)]:=by kernel_rfl
theorem p41:bu prog 41=some [(0,16),(16,1),(17,1),(18,1)]:=by kernel_rfl
theorem p45:bu prog 45=some [(0,1),(1,1),(2,1),(3,1),(4,1),(5,1),(6,1)]:=by kernel_rfl
theorem p58:bu prog 58=some [(0,1),(1,1),(2,1),(3,1),(4,1),(5,1)]:=by kernel_rfl
theorem p64:bu prog 64=some [(0,11),(11,1),(12,1),(13,1)]:=by kernel_rfl
theorem p90:bu prog 90=some [(0,1),(1,1),(2,1),(3,1),(4,1),(5,1),(6,1)]:=by kernel_rfl
theorem q41:jm prog 41=some [.int .i64, .int .i64, .int .i64, .int .i64, .int .i64, .int .i64, .int .i64, .int .i64, .int .i64, .int .i64, .int .i64, .int .i64, .int .i64, .int .i64, .int .i64, .int .i64, .int .i64, .int .i64, .int .i64]:=by kernel_rfl
theorem q45:jm prog 45=some [.int .u8, .int .i64, .int .i64, .int .i64, .int .i64, .int .i64, .int .i64]:=by kernel_rfl
theorem q58:jm prog 58=some [.int .i64, .int .i64, .int .u8, .int .i64, .int .i64, .int .i64]:=by kernel_rfl
theorem ar259:ip prog 259=some (57,2,true):=by kernel_rfl
theorem qX:ip prog 277=some (256,1,false):=by kernel_rfl
theorem dZ:ip prog 39=some (16,1,false):=by kernel_rfl
theorem oT:bH prog 101=some 5:=by kernel_rfl
theorem qb:bH prog 108=some 4:=by kernel_rfl
theorem s118:bH prog 118=some 1:=by kernel_rfl
theorem cV:bH prog 123=some 35:=by kernel_rfl
theorem s135:bH prog 135=some 11:=by kernel_rfl
theorem vW:bH prog 140=some 3:=by kernel_rfl
theorem ut:bH prog 146=some 1:=by kernel_rfl
theorem s155:bH prog 155=some 3:=by kernel_rfl
theorem s164:bH prog 164=some 2:=by kernel_rfl
theorem s168:bH prog 168=some 2:=by kernel_rfl
theorem qa:bH prog 173=some 2:=by kernel_rfl
theorem s177:bH prog 177=some 1:=by kernel_rfl
theorem la:bH prog 179=some 9:=by kernel_rfl
theorem s189:bH prog 189=some 3:=by kernel_rfl
theorem s192:bH prog 192=some 2:=by kernel_rfl
theorem s2:bH prog 2=some 1:=by kernel_rfl
theorem rD:bH prog 224=some 2:=by kernel_rfl
theorem fh:bH prog 233=some 4:=by kernel_rfl
theorem sW:bH prog 241=some 3:=by kernel_rfl
theorem s245:bH prog 245=some 3:=by kernel_rfl
theorem s27:bH prog 27=some 4:=by kernel_rfl
theorem s3:bH prog 3=some 1:=by kernel_rfl
theorem s38:bH prog 38=some 11:=by kernel_rfl
theorem s4:bH prog 4=some 1:=by kernel_rfl
theorem s41:bH prog 41=some 19:=by kernel_rfl
theorem s42:bH prog 42=some 1:=by kernel_rfl
theorem s43:bH prog 43=some 1:=by kernel_rfl
theorem s45:bH prog 45=some 7:=by kernel_rfl
theorem s47:bH prog 47=some 1:=by kernel_rfl
theorem s50:bH prog 50=some 1:=by kernel_rfl
theorem s58:bH prog 58=some 6:=by kernel_rfl
theorem s62:bH prog 62=some 1:=by kernel_rfl
theorem s64:bH prog 64=some 14:=by kernel_rfl
theorem s73:bH prog 73=some 23:=by kernel_rfl
theorem s9:bH prog 9=some 1:=by kernel_rfl
theorem s96:bH prog 96=some 1:=by kernel_rfl
theorem nJ:aQ prog 101=some [.int .i64 0, .int .i64 0, .int .i64 0, .bool false, .slice none 0 0]:=by kernel_rfl
theorem mW:aQ prog 108=some [.int .i64 0, .int .i64 0, .int .i64 0, .bool false]:=by kernel_rfl
theorem vK:aQ prog 116=some [.pointer none, .int .i64 0, .int .i64 0, .int .i64 0, .int .i64 0, .int .i64 0, .int .i64 0, .int .i64 0, .int .i64 0, .int .i64 0, .int .i64 0, .int .i64 0, .int .i64 0, .int .i64 0, .int .i64 0, .int .i64 0, .int .i64 0, .int .i64 0, .int .i64 0, .int .i64 0, .slice none 0 0]:=by kernel_rfl
theorem vJ:aQ prog 118=some [.int .i64 0]:=by kernel_rfl
theorem nI:aQ prog 123=some [.slice none 0 0, .slice none 0 0, .slice none 0 0, .slice none 0 0, .slice none 0 0, .slice none 0 0, .slice none 0 0, .int .i64 0, .slice none 0 0, .slice none 0 0, .slice none 0 0, .slice none 0 0, .slice none 0 0, .slice none 0 0, .int .i64 0, .int .i64 0, .int .i64 0, .int .i64 0, .int .i64 0, .int .i64 0, .int .i64 0, .int .i64 0, .int .i64 0, .int .i64 0, .int .i64 0, .int .i64 0, .int .i64 0, .int .i64 0, .int .i64 0, .int .i64 0, .int .i64 0, .int .i64 0, .int .i64 0, .slice none 0 0, .int .i64 0]:=by kernel_rfl
theorem z135:aQ prog 135=some [.slice none 0 0, .slice none 0 0, .slice none 0 0, .slice none 0 0, .slice none 0 0, .slice none 0 0, .slice none 0 0, .int .i64 0, .slice none 0 0, .slice none 0 0, .slice none 0 0]:=by kernel_rfl
theorem vI:aQ prog 140=some [.int .i64 0, .int .i64 0, .int .i64 0]:=by kernel_rfl
theorem z146:aQ prog 146=some [.int .u8 0]:=by kernel_rfl
theorem z155:aQ prog 155=some [.slice none 0 0, .int .i64 0, .int .i64 0]:=by kernel_rfl
theorem t9:aQ prog 164=some [.int .i64 0, .slice none 0 0]:=by kernel_rfl
theorem z168:aQ prog 168=some [.int .i64 0, .int .i64 0]:=by kernel_rfl
theorem sj:aQ prog 173=some [.slice none 0 0, .slice none 0 0]:=by kernel_rfl
theorem sg:aQ prog 179=some [.int .u8 0, .int .u8 0, .int .i64 0, .int .i64 0, .int .i64 0, .int .i64 0, .int .i64 0, .int .i64 0, .slice none 0 0]:=by kernel_rfl
theorem z182:aQ prog 182=some [.slice none 0 0, .slice none 0 0, .slice none 0 0, .slice none 0 0, .slice none 0 0, .slice none 0 0, .slice none 0 0, .int .i64 0, .slice none 0 0, .slice none 0 0, .slice none 0 0, .int .i64 0, .int .i64 0]:=by kernel_rfl
theorem z189:aQ prog 189=some [.int .i64 0, .int .i64 0, .int .i64 0]:=by kernel_rfl
theorem z192:aQ prog 192=some [.int .i64 0, .int .u8 0]:=by kernel_rfl
theorem z2:aQ prog 2=some [.int .i64 0]:=by kernel_rfl
theorem t8:aQ prog 224=some [.string ByteArray.empty, .string ByteArray.empty]:=by kernel_rfl
theorem gr:aQ prog 233=some [.nilFunc, .nilFunc, .int .i64 0, .int .i64 0]:=by kernel_rfl
theorem z24:aQ prog 24=some [.nilFunc]:=by kernel_rfl
theorem bV:aQ prog 241=some [.int .u8 0, .string ByteArray.empty, .slice none 0 0]:=by kernel_rfl
theorem aw:aQ prog 245=some [.int .u8 0, .int .i64 0, .int .i64 0]:=by kernel_rfl
theorem z27:aQ prog 27=some [.int .i64 0, .int .i64 0, .slice none 0 0, .int .i64 0]:=by kernel_rfl
theorem z3:aQ prog 3=some [.int .i64 0]:=by kernel_rfl
theorem z38:aQ prog 38=some [.slice none 0 0, .slice none 0 0, .slice none 0 0, .slice none 0 0, .slice none 0 0, .slice none 0 0, .slice none 0 0, .int .i64 0, .slice none 0 0, .slice none 0 0, .slice none 0 0]:=by kernel_rfl
theorem z39:aQ prog 39=some [.int .i64 0, .int .i64 0, .int .i64 0, .int .i64 0, .int .i64 0, .int .i64 0, .int .i64 0, .int .i64 0, .int .i64 0, .int .i64 0, .int .i64 0, .int .i64 0, .int .i64 0, .int .i64 0, .int .i64 0, .int .i64 0]:=by kernel_rfl
theorem z4:aQ prog 4=some [.bool false]:=by kernel_rfl
theorem z41:aQ prog 41=some [.int .i64 0, .int .i64 0, .int .i64 0, .int .i64 0, .int .i64 0, .int .i64 0, .int .i64 0, .int .i64 0, .int .i64 0, .int .i64 0, .int .i64 0, .int .i64 0, .int .i64 0, .int .i64 0, .int .i64 0, .int .i64 0, .int .i64 0, .int .i64 0, .int .i64 0]:=by kernel_rfl
theorem z42:aQ prog 42=some [.slice none 0 0]:=by kernel_rfl
theorem z43:aQ prog 43=some [.int .u8 0]:=by kernel_rfl
theorem z45:aQ prog 45=some [.int .u8 0, .int .i64 0, .int .i64 0, .int .i64 0, .int .i64 0, .int .i64 0, .int .i64 0]:=by kernel_rfl
theorem z46:aQ prog 46=some [.pointer none]:=by kernel_rfl
theorem z47:aQ prog 47=some [.int .i64 0]:=by kernel_rfl
theorem z50:aQ prog 50=some [.slice none 0 0]:=by kernel_rfl
theorem z58:aQ prog 58=some [.int .i64 0, .int .i64 0, .int .u8 0, .int .i64 0, .int .i64 0, .int .i64 0]:=by kernel_rfl
theorem z64:aQ prog 64=some [.slice none 0 0, .slice none 0 0, .slice none 0 0, .slice none 0 0, .slice none 0 0, .slice none 0 0, .slice none 0 0, .int .i64 0, .slice none 0 0, .slice none 0 0, .slice none 0 0, .slice none 0 0, .slice none 0 0, .slice none 0 0]:=by kernel_rfl
theorem z73:aQ prog 73=some [.int .u8 0, .int .i64 0, .int .i64 0, .int .i64 0, .int .i64 0, .int .i64 0, .int .i64 0, .int .i64 0, .int .i64 0, .int .i64 0, .int .i64 0, .int .i64 0, .int .i64 0, .int .i64 0, .int .i64 0, .int .i64 0, .int .i64 0, .int .i64 0, .int .i64 0, .int .i64 0, .int .i64 0, .int .i64 0, .int .i64 0]:=by kernel_rfl
theorem z9:aQ prog 9=some [.string ByteArray.empty]:=by kernel_rfl
theorem z90:aQ prog 90=some [.slice none 0 0, .slice none 0 0, .slice none 0 0, .int .i64 0, .slice none 0 0, .slice none 0 0, .slice none 0 0]:=by kernel_rfl
instance:Tys prog:=⟨⟨(.nd 101 true (.nd 35 false (.nd 27 true (.nd 9 false (.nd 4 false (.nd 3 false (.nd 2 false .lf .lf) .lf) (.nd 5 false .lf .lf)) (.nd 24 false (.nd 23 false .lf .lf) (.nd 25 false .lf .lf))) (.nd 31 false (.nd 29 false (.nd 28 false .lf .lf) (.nd 30 false .lf .lf)) (.nd 33 false (.nd 32 false .lf .lf) (.nd 34 false .lf .lf)))) (.nd 47 false (.nd 42 false (.nd 38 true (.nd 36 false .lf .lf) (.nd 41 true .lf .lf)) (.nd 45 true (.nd 43 false .lf .lf) (.nd 46 false .lf .lf))) (.nd 62 false (.nd 56 false (.nd 50 false .lf .lf) (.nd 58 true .lf .lf)) (.nd 73 true (.nd 64 true .lf .lf) (.nd 96 false .lf .lf))))) (.nd 177 false (.nd 153 false (.nd 128 false (.nd 123 true (.nd 114 false (.nd 108 true .lf .lf) .lf) (.nd 125 false .lf .lf)) (.nd 140 true (.nd 135 true .lf .lf) (.nd 146 false .lf .lf))) (.nd 162 false (.nd 156 false (.nd 155 true .lf .lf) (.nd 158 true .lf .lf)) (.nd 168 true (.nd 164 true .lf .lf) (.nd 173 true .lf .lf)))) (.nd 224 true (.nd 190 false (.nd 180 false (.nd 179 true .lf .lf) (.nd 189 true .lf .lf)) (.nd 195 false (.nd 192 true .lf .lf) (.nd 209 false .lf .lf))) (.nd 239 false (.nd 231 false (.nd 230 false .lf .lf) (.nd 233 true .lf .lf)) (.nd 245 true (.nd 241 true .lf .lf) (.nd 264 false .lf .lf)))))),
 (.nd 108 4 (.nd 43 1 (.nd 23 1 (.nd 4 1 (.nd 3 1 (.nd 2 1 .lf .lf) .lf) (.nd 9 1 .lf .lf)) (.nd 41 19 (.nd 38 11 (.nd 27 4 .lf .lf) .lf) (.nd 42 1 .lf .lf))) (.nd 62 1 (.nd 50 1 (.nd 47 1 (.nd 45 7 .lf .lf) .lf) (.nd 58 6 .lf .lf)) (.nd 96 1 (.nd 73 23 (.nd 64 14 .lf .lf) .lf) (.nd 101 5 .lf .lf)))) (.nd 173 2 (.nd 146 1 (.nd 135 11 (.nd 123 35 (.nd 118 1 .lf .lf) .lf) (.nd 140 3 .lf .lf)) (.nd 164 2 (.nd 158 5 (.nd 155 3 .lf .lf) .lf) (.nd 168 2 .lf .lf))) (.nd 224 2 (.nd 189 3 (.nd 179 9 (.nd 177 1 .lf .lf) .lf) (.nd 192 2 .lf .lf)) (.nd 241 3 (.nd 233 4 .lf .lf) (.nd 245 3 .lf .lf))))),
 (.nd 6915 (3,1,false) (.nd 3714 (2,1,false) (.nd 2441 (9,1,false) (.nd 2434 (2,1,false) (.nd 1731 (3,1,false) (.nd 1729 (1,1,false) (.nd 1728 (0,1,false) .lf .lf) (.nd 1730 (2,1,false) .lf .lf)) (.nd 2433 (1,1,false) (.nd 2432 (0,1,false) .lf .lf) .lf)) (.nd 2438 (6,1,false) (.nd 2436 (4,1,false) (.nd 2435 (3,1,false) .lf .lf) (.nd 2437 (5,1,false) .lf .lf)) (.nd 2440 (8,1,false) (.nd 2439 (7,1,false) .lf .lf) .lf))) (.nd 2881 (1,1,false) (.nd 2626 (17,1,false) (.nd 2624 (0,16,true) (.nd 2442 (10,1,false) .lf .lf) (.nd 2625 (16,1,false) .lf .lf)) (.nd 2880 (0,1,false) (.nd 2627 (18,1,false) .lf .lf) .lf)) (.nd 2884 (4,1,false) (.nd 2883 (3,1,false) (.nd 2882 (2,1,false) .lf .lf) .lf) (.nd 2886 (6,1,false) (.nd 2885 (5,1,false) .lf .lf) .lf)))) (.nd 5762 (2,1,false) (.nd 4673 (1,19,true) (.nd 4098 (12,1,false) (.nd 4096 (0,11,true) (.nd 3715 (3,1,false) .lf .lf) (.nd 4097 (11,1,false) .lf .lf)) (.nd 4672 (0,1,false) (.nd 4099 (13,1,false) .lf .lf) .lf)) (.nd 4676 (22,1,false) (.nd 4675 (21,1,false) (.nd 4674 (20,1,false) .lf .lf) .lf) (.nd 5761 (1,1,false) (.nd 5760 (0,1,false) .lf .lf) .lf))) (.nd 6466 (2,1,false) (.nd 5766 (6,1,false) (.nd 5764 (4,1,false) (.nd 5763 (3,1,false) .lf .lf) (.nd 5765 (5,1,false) .lf .lf)) (.nd 6465 (1,1,false) (.nd 6464 (0,1,false) .lf .lf) .lf)) (.nd 6912 (0,1,false) (.nd 6468 (4,1,false) (.nd 6467 (3,1,false) .lf .lf) .lf) (.nd 6914 (2,1,false) (.nd 6913 (1,1,false) .lf .lf) .lf))))) (.nd 11457 (1,1,false) (.nd 9920 (0,1,false) (.nd 7874 (33,1,false) (.nd 7552 (0,1,false) (.nd 7425 (1,19,true) (.nd 7424 (0,1,false) .lf .lf) (.nd 7426 (20,1,false) .lf .lf)) (.nd 7873 (14,19,true) (.nd 7872 (0,14,true) .lf .lf) .lf)) (.nd 8960 (0,1,false) (.nd 8640 (0,11,true) (.nd 7875 (34,1,false) .lf .lf) .lf) (.nd 8962 (2,1,false) (.nd 8961 (1,1,false) .lf .lf) .lf))) (.nd 10116 (4,1,false) (.nd 10113 (1,1,false) (.nd 9922 (2,1,false) (.nd 9921 (1,1,false) .lf .lf) (.nd 10112 (0,1,false) .lf .lf)) (.nd 10115 (3,1,false) (.nd 10114 (2,1,false) .lf .lf) .lf)) (.nd 11072 (0,1,false) (.nd 10497 (1,1,false) (.nd 10496 (0,1,false) .lf .lf) .lf) (.nd 11456 (0,1,false) (.nd 11073 (1,1,false) .lf .lf) .lf)))) (.nd 12098 (2,1,false) (.nd 11464 (8,1,false) (.nd 11461 (5,1,false) (.nd 11459 (3,1,false) (.nd 11458 (2,1,false) .lf .lf) (.nd 11460 (4,1,false) .lf .lf)) (.nd 11463 (7,1,false) (.nd 11462 (6,1,false) .lf .lf) .lf)) (.nd 11650 (12,1,false) (.nd 11649 (11,1,false) (.nd 11648 (0,11,true) .lf .lf) .lf) (.nd 12097 (1,1,false) (.nd 12096 (0,1,false) .lf .lf) .lf))) (.nd 14915 (3,1,false) (.nd 14912 (0,1,false) (.nd 12289 (1,1,false) (.nd 12288 (0,1,false) .lf .lf) (.nd 14337 (1,1,false) .lf .lf)) (.nd 14914 (2,1,false) (.nd 14913 (1,1,false) .lf .lf) .lf)) (.nd 15680 (0,1,false) (.nd 15426 (2,1,false) (.nd 15424 (0,1,false) .lf .lf) .lf) (.nd 15682 (2,1,false) (.nd 15681 (1,1,false) .lf .lf) .lf)))))),
 (.nd 54 .u16 (.nd 5 .u8 (.nd 3 .i64 (.nd 2 .i64 .lf .lf) .lf) (.nd 43 .u8 .lf .lf)) (.nd 146 .u8 (.nd 56 .u8 .lf .lf) (.nd 199 .u64 .lf .lf)))⟩,by kernel_rfl⟩
end Go.Proofs.YtkbahggepncliaaGreatDoor
