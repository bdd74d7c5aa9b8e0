/- Part of the proof. -/
import Derived.Lib.RowBridge
import Derived.Test.YtlkhnkpflmpjhaaGreatDoorProg
import Derived.KernelRfl
import Derived.Shelf.Slices.In.SortNone
import Derived.Shelf.Slices.CompactI
import Derived.Shelf.Sort.Plain
import Derived.Test.YtlkhnkpflmpjhaaGreatDoorO
set_option linter.all false
set_option maxHeartbeats 4000000
set_option maxRecDepth 100000
namespace Go.Proofs.YtlkhnkpflmpjhaaGreatDoor
open Go.Proofs.Tryz
open Go Go.Sk
theorem bN:aX prog 101=some true:=by kernel_rfl
theorem jN:aX prog 102=some true:=by kernel_rfl
theorem a131:aX prog 131=some true:=by kernel_rfl
theorem nF:aX prog 139=some false:=by kernel_rfl
theorem yR:aX prog 146=some false:=by kernel_rfl
theorem a2:aX prog 2=some false:=by kernel_rfl
theorem a200:aX prog 200=some true:=by kernel_rfl
theorem ul:aX prog 210=some true:=by kernel_rfl
theorem a23:aX prog 23=some false:=by kernel_rfl
theorem a28:aX prog 28=some false:=by kernel_rfl
theorem a3:aX prog 3=some false:=by kernel_rfl
theorem a30:aX prog 30=some false:=by kernel_rfl
theorem a31:aX prog 31=some false:=by kernel_rfl
theorem a34:aX prog 34=some false:=by kernel_rfl
theorem a38:aX prog 38=some true:=by kernel_rfl
theorem a4:aX prog 4=some false:=by kernel_rfl
theorem a45:aX prog 45=some true:=by kernel_rfl
theorem a5:aX prog 5=some false:=by kernel_rfl
theorem a68:aX prog 68=some true:=by kernel_rfl
theorem a76:aX prog 76=some true:=by kernel_rfl
theorem a80:aX prog 80=some false:=by kernel_rfl
theorem a9:aX prog 9=some false:=by kernel_rfl
theorem a96:aX prog 96=some false:=by kernel_rfl
theorem a97:aX prog 97=some false:=by kernel_rfl
theorem pb:bE prog 122=some (1,false):=by kernel_rfl
theorem e129:bE prog 129=some (3,true):=by kernel_rfl
theorem fk:bE prog 139=some (2,true):=by kernel_rfl
theorem ug:bE prog 144=some (1,false):=by kernel_rfl
theorem lc:bE prog 146=some (1,false):=by kernel_rfl
theorem yJ:bE prog 179=some (3,true):=by kernel_rfl
theorem e22:bE prog 22=some (1,false):=by kernel_rfl
theorem xj:bE prog 232=some (1,false):=by kernel_rfl
theorem e27:bE prog 27=some (7,true):=by kernel_rfl
theorem e271:bE prog 271=some (1,false):=by kernel_rfl
theorem e28:bE prog 28=some (4,true):=by kernel_rfl
theorem e29:bE prog 29=some (3,true):=by kernel_rfl
theorem e30:bE prog 30=some (3,true):=by kernel_rfl
theorem e31:bE prog 31=some (1,false):=by kernel_rfl
theorem e32:bE prog 32=some (5,true):=by kernel_rfl
theorem e33:bE prog 33=some (3,true):=by kernel_rfl
theorem e34:bE prog 34=some (4,true):=by kernel_rfl
theorem e35:bE prog 35=some (2,true):=by kernel_rfl
theorem e36:bE prog 36=some (2,true):=by kernel_rfl
theorem e55:bE prog 55=some (2,true):=by kernel_rfl
theorem e69:bE prog 69=some (9,true):=by kernel_rfl
theorem e80:bE prog 80=some (5,true):=by kernel_rfl
theorem e96:bE prog 96=some (33,true):=by kernel_rfl
theorem e97:bE prog 97=some (1,false):=by kernel_rfl
theorem f104_0:cZ prog 104 0=some (0,1,false):=by kernel_rfl
theorem f104_1:cZ prog 104 1=some (1,32,true):=by kernel_rfl
theorem f57_1:cZ prog 57 1=some (1,1,false):=by kernel_rfl
theorem f82_0:cZ prog 82 0=some (0,1,false):=by kernel_rfl
theorem f82_2:cZ prog 82 2=some (2,1,false):=by kernel_rfl
theorem f86_4:cZ prog 86 4=some (4,1,false):=by kernel_rfl
theorem l122:c3 prog 122=some (23,1,8):=by kernel_rfl
theorem cJ:c3 prog 129=some (135,3,24):=by kernel_rfl
theorem kd:c3 prog 139=some (101,2,16):=by kernel_rfl
theorem l144:c3 prog 144=some (146,1,24):=by kernel_rfl
theorem kV:c3 prog 146=some (2,1,8):=by kernel_rfl
theorem l179:c3 prog 179=some (131,3,48):=by kernel_rfl
theorem l22:c3 prog 22=some (3,1,8):=by kernel_rfl
theorem l232:c3 prog 232=some (9,1,16):=by kernel_rfl
theorem l27:c3 prog 27=some (45,7,56):=by kernel_rfl
theorem tW:c3 prog 271=some (4,1,1):=by kernel_rfl
theorem l28:c3 prog 28=some (88,4,32):=by kernel_rfl
theorem l29:c3 prog 29=some (90,3,24):=by kernel_rfl
theorem l30:c3 prog 30=some (82,3,40):=by kernel_rfl
theorem l34:c3 prog 34=some (57,4,48):=by kernel_rfl
theorem l36:c3 prog 36=some (79,2,16):=by kernel_rfl
theorem l58:c3 prog 58=some (5,1,1):=by kernel_rfl
theorem l80:c3 prog 80=some (86,5,40):=by kernel_rfl
theorem l96:c3 prog 96=some (104,33,264):=by kernel_rfl
theorem l97:c3 prog 97=some (139,1,24):=by kernel_rfl
theorem ny:bV prog 101=some [(0,1),(1,1)]:=by kernel_rfl
theorem p104:bV prog 104=some [(0,1),(1,32)]:=by kernel_rfl
theorem p113:bV prog 113=some [(0,11)]:=by kernel_rfl
theorem p126:bV prog 126=some [(0,1)]:=by kernel_rfl
theorem cE:bV prog 131=some [(0,1),(1,1),(2,1)]:=by kernel_rfl
theorem aU:bV prog 135=some [(0,1),(1,1),(2,1)]:=by kernel_rfl
theorem p143:bV prog 143=some [(0,11),(11,1),(12,1),(13,1),(14,1),(15,32),(47,1),(48,1)]:=by kernel_rfl
theorem p157:bV prog 157=some [(0,1),(1,1)]:=by kernel_rfl
theorem p164:bV prog 164=some [(0,11),(11,1),(12,1)]:=by kernel_rfl
theorem p185:bV prog 185=some [(0,1),(1,1)]:=by kernel_rfl
theorem p200:bV prog 200=some [(0,1),(1,1)]:=by kernel_rfl
theorem tO:bV prog 210=some [(0,1),(1,1),(2,1),(3,1)]:=by kernel_rfl
theorem p38:bV prog 38=some [(0,1),(1,1),(2,1),(3,1),(4,1),(5,1),(6,1),(7,1),(8,1),(9,1),(10,1)]:=by kernel_rfl
theorem p45:bV prog 45=some [(0,1),(1,1),(2,1),(3,1),(4,1),(5,1),(6,1)]:=by kernel_rfl
theorem p57:bV prog 57=some [(0,1),(1,1),(2,1),(3,1)]:=by kernel_rfl
theorem p68:bV prog 68=some [(0,1),(1,1)]:=by kernel_rfl
theorem p76:bV prog 76=some [(0,1),(1,1),(2,1),(3,1),(4,1),(5,1),(6,1),(7,1),(8,1)]:=by kernel_rfl
theorem p79:bV prog 79=some [(0,1),(1,1)]:=by kernel_rfl
theorem p90:bV prog 90=some [(0,1),(1,1),(2,1)]:=by kernel_rfl
theorem q101:kU prog 101=some [.int .i64, .int .i64]:=by kernel_rfl
theorem q45:kU prog 45=some [.int .u8, .int .i64, .int .i64, .int .i64, .int .i64, .int .i64, .int .i64]:=by kernel_rfl
theorem bZ:ib prog 102=some (16,2,true):=by kernel_rfl
theorem ar230:ib prog 230=some (57,2,true):=by kernel_rfl
theorem td:ib prog 252=some (256,1,false):=by kernel_rfl
theorem aD:bI prog 101=some 2:=by kernel_rfl
theorem gv:bI prog 102=some 32:=by kernel_rfl
theorem s104:bI prog 104=some 33:=by kernel_rfl
theorem s113:bI prog 113=some 11:=by kernel_rfl
theorem uT:bI prog 131=some 3:=by kernel_rfl
theorem s135:bI prog 135=some 3:=by kernel_rfl
theorem s139:bI prog 139=some 1:=by kernel_rfl
theorem s140:bI prog 140=some 1:=by kernel_rfl
theorem s141:bI prog 141=some 1:=by kernel_rfl
theorem s146:bI prog 146=some 1:=by kernel_rfl
theorem s157:bI prog 157=some 2:=by kernel_rfl
theorem s185:bI prog 185=some 2:=by kernel_rfl
theorem s2:bI prog 2=some 1:=by kernel_rfl
theorem tK:bI prog 200=some 2:=by kernel_rfl
theorem fq:bI prog 210=some 4:=by kernel_rfl
theorem s22:bI prog 22=some 1:=by kernel_rfl
theorem s27:bI prog 27=some 1:=by kernel_rfl
theorem s28:bI prog 28=some 1:=by kernel_rfl
theorem s29:bI prog 29=some 1:=by kernel_rfl
theorem s3:bI prog 3=some 1:=by kernel_rfl
theorem s30:bI prog 30=some 1:=by kernel_rfl
theorem s34:bI prog 34=some 1:=by kernel_rfl
theorem s36:bI prog 36=some 1:=by kernel_rfl
theorem s38:bI prog 38=some 11:=by kernel_rfl
theorem s4:bI prog 4=some 1:=by kernel_rfl
theorem s43:bI prog 43=some 1:=by kernel_rfl
theorem s45:bI prog 45=some 7:=by kernel_rfl
theorem s50:bI prog 50=some 5:=by kernel_rfl
theorem s57:bI prog 57=some 4:=by kernel_rfl
theorem s58:bI prog 58=some 1:=by kernel_rfl
theorem s62:bI prog 62=some 3:=by kernel_rfl
theorem s68:bI prog 68=some 2:=by kernel_rfl
theorem s71:bI prog 71=some 2:=by kernel_rfl
theorem s73:bI prog 73=some 1:=by kernel_rfl
theorem s74:bI prog 74=some 1:=by kernel_rfl
theorem s76:bI prog 76=some 9:=by kernel_rfl
theorem s79:bI prog 79=some 2:=by kernel_rfl
theorem s80:bI prog 80=some 1:=by kernel_rfl
theorem s82:bI prog 82=some 3:=by kernel_rfl
theorem s86:bI prog 86=some 5:=by kernel_rfl
theorem s88:bI prog 88=some 4:=by kernel_rfl
theorem s9:bI prog 9=some 1:=by kernel_rfl
theorem s90:bI prog 90=some 3:=by kernel_rfl
theorem s97:bI prog 97=some 1:=by kernel_rfl
theorem bY:bq prog 101=some [.int .i64 0, .int .i64 0]:=by kernel_rfl
theorem uq:bq prog 102=some [.int .i64 0, .int .i64 0, .int .i64 0, .int .i64 0, .int .i64 0, .int .i64 0, .int .i64 0, .int .i64 0, .int .i64 0, .int .i64 0, .int .i64 0, .int .i64 0, .int .i64 0, .int .i64 0, .int .i64 0, .int .i64 0, .int .i64 0, .int .i64 0, .int .i64 0, .int .i64 0, .int .i64 0, .int .i64 0, .int .i64 0, .int .i64 0, .int .i64 0, .int .i64 0, .int .i64 0, .int .i64 0, .int .i64 0, .int .i64 0, .int .i64 0, .int .i64 0]:=by kernel_rfl
theorem xZ:bq prog 104=some [.bool false, .int .i64 0, .int .i64 0, .int .i64 0, .int .i64 0, .int .i64 0, .int .i64 0, .int .i64 0, .int .i64 0, .int .i64 0, .int .i64 0, .int .i64 0, .int .i64 0, .int .i64 0, .int .i64 0, .int .i64 0, .int .i64 0, .int .i64 0, .int .i64 0, .int .i64 0, .int .i64 0, .int .i64 0, .int .i64 0, .int .i64 0, .int .i64 0, .int .i64 0, .int .i64 0, .int .i64 0, .int .i64 0, .int .i64 0, .int .i64 0, .int .i64 0, .int .i64 0]:=by kernel_rfl
theorem xY:bq prog 113=some [.slice none 0 0, .slice none 0 0, .slice none 0 0, .slice none 0 0, .slice none 0 0, .slice none 0 0, .slice none 0 0, .int .i64 0, .slice none 0 0, .slice none 0 0, .slice none 0 0]:=by kernel_rfl
theorem z126:bq prog 126=some [.slice none 0 0]:=by kernel_rfl
theorem z131:bq prog 131=some [.int .u8 0, .string ByteArray.empty, .slice none 0 0]:=by kernel_rfl
theorem aA:bq prog 135=some [.int .u8 0, .int .i64 0, .int .i64 0]:=by kernel_rfl
theorem z139:bq prog 139=some [.slice none 0 0]:=by kernel_rfl
theorem z143:bq prog 143=some [.slice none 0 0, .slice none 0 0, .slice none 0 0, .slice none 0 0, .slice none 0 0, .slice none 0 0, .slice none 0 0, .int .i64 0, .slice none 0 0, .slice none 0 0, .slice none 0 0, .slice none 0 0, .slice none 0 0, .slice none 0 0, .int .i64 0, .int .i64 0, .int .i64 0, .int .i64 0, .int .i64 0, .int .i64 0, .int .i64 0, .int .i64 0, .int .i64 0, .int .i64 0, .int .i64 0, .int .i64 0, .int .i64 0, .int .i64 0, .int .i64 0, .int .i64 0, .int .i64 0, .int .i64 0, .int .i64 0, .int .i64 0, .int .i64 0, .int .i64 0, .int .i64 0, .int .i64 0, .int .i64 0, .int .i64 0, .int .i64 0, .int .i64 0, .int .i64 0, .int .i64 0, .int .i64 0, .int .i64 0, .int .i64 0, .map none, .map none]:=by kernel_rfl
theorem z146:bq prog 146=some [.slice none 0 0]:=by kernel_rfl
theorem z157:bq prog 157=some [.int .i64 0, .int .i64 0]:=by kernel_rfl
theorem z164:bq prog 164=some [.slice none 0 0, .slice none 0 0, .slice none 0 0, .slice none 0 0, .slice none 0 0, .slice none 0 0, .slice none 0 0, .int .i64 0, .slice none 0 0, .slice none 0 0, .slice none 0 0, .int .i64 0, .int .i64 0]:=by kernel_rfl
theorem xX:bq prog 185=some [.int .i64 0, .int .i64 0]:=by kernel_rfl
theorem z2:bq prog 2=some [.int .i64 0]:=by kernel_rfl
theorem wu:bq prog 200=some [.string ByteArray.empty, .string ByteArray.empty]:=by kernel_rfl
theorem gE:bq prog 210=some [.nilFunc, .nilFunc, .int .i64 0, .int .i64 0]:=by kernel_rfl
theorem z22:bq prog 22=some [.slice none 0 0]:=by kernel_rfl
theorem z23:bq prog 23=some [.nilFunc]:=by kernel_rfl
theorem z3:bq prog 3=some [.int .i64 0]:=by kernel_rfl
theorem z38:bq prog 38=some [.slice none 0 0, .slice none 0 0, .slice none 0 0, .slice none 0 0, .slice none 0 0, .slice none 0 0, .slice none 0 0, .int .i64 0, .slice none 0 0, .slice none 0 0, .slice none 0 0]:=by kernel_rfl
theorem z4:bq prog 4=some [.bool false]:=by kernel_rfl
theorem z45:bq prog 45=some [.int .u8 0, .int .i64 0, .int .i64 0, .int .i64 0, .int .i64 0, .int .i64 0, .int .i64 0]:=by kernel_rfl
theorem z5:bq prog 5=some [.int .u8 0]:=by kernel_rfl
theorem z50:bq prog 50=some [.int .i64 0, .int .i64 0, .int .i64 0, .bool false, .slice none 0 0]:=by kernel_rfl
theorem z57:bq prog 57=some [.int .i64 0, .int .i64 0, .slice none 0 0, .int .i64 0]:=by kernel_rfl
theorem z62:bq prog 62=some [.int .i64 0, .int .i64 0, .int .i64 0]:=by kernel_rfl
theorem z68:bq prog 68=some [.slice none 0 0, .slice none 0 0]:=by kernel_rfl
theorem z71:bq prog 71=some [.int .i64 0, .slice none 0 0]:=by kernel_rfl
theorem z76:bq prog 76=some [.int .u8 0, .int .u8 0, .int .i64 0, .int .i64 0, .int .i64 0, .int .i64 0, .int .i64 0, .int .i64 0, .slice none 0 0]:=by kernel_rfl
theorem z79:bq prog 79=some [.int .i64 0, .int .u8 0]:=by kernel_rfl
theorem z82:bq prog 82=some [.slice none 0 0, .int .i64 0, .int .i64 0]:=by kernel_rfl
theorem z86:bq prog 86=some [.int .u8 0, .int .i64 0, .int .i64 0, .int .i64 0, .int .i64 0]:=by kernel_rfl
theorem z88:bq prog 88=some [.int .i64 0, .int .i64 0, .int .i64 0, .bool false]:=by kernel_rfl
theorem z9:bq prog 9=some [.string ByteArray.empty]:=by kernel_rfl
theorem z90:bq prog 90=some [.int .i64 0, .int .i64 0, .int .i64 0]:=by kernel_rfl
instance:Tys prog:=⟨⟨(.nd 79 true (.nd 36 false (.nd 28 false (.nd 9 false (.nd 4 false (.nd 3 false (.nd 2 false .lf .lf) .lf) (.nd 5 false .lf .lf)) (.nd 23 false (.nd 22 false .lf .lf) (.nd 27 false .lf .lf))) (.nd 32 false (.nd 30 false (.nd 29 false .lf .lf) (.nd 31 false .lf .lf)) (.nd 34 false (.nd 33 false .lf .lf) (.nd 35 false .lf .lf)))) (.nd 62 true (.nd 50 true (.nd 43 false (.nd 38 true .lf .lf) (.nd 45 true .lf .lf)) (.nd 57 true (.nd 55 false .lf .lf) (.nd 58 false .lf .lf))) (.nd 73 false (.nd 69 false (.nd 68 true .lf .lf) (.nd 71 true .lf .lf)) (.nd 76 true (.nd 74 false .lf .lf) (.nd 77 false .lf .lf))))) (.nd 138 false (.nd 101 true (.nd 88 true (.nd 84 false (.nd 82 true (.nd 80 false .lf .lf) .lf) (.nd 86 true .lf .lf)) (.nd 96 false (.nd 90 true .lf .lf) (.nd 97 false .lf .lf))) (.nd 127 false (.nd 104 true (.nd 102 true .lf .lf) (.nd 113 true .lf .lf)) (.nd 131 true (.nd 129 false .lf .lf) (.nd 135 true .lf .lf)))) (.nd 185 true (.nd 146 false (.nd 140 false (.nd 139 false .lf .lf) (.nd 141 false .lf .lf)) (.nd 162 false (.nd 157 true .lf .lf) (.nd 174 false .lf .lf))) (.nd 210 true (.nd 207 false (.nd 200 true .lf .lf) (.nd 208 false .lf .lf)) (.nd 237 false (.nd 235 false .lf .lf) (.nd 292 false .lf .lf)))))),
 (.nd 76 9 (.nd 38 11 (.nd 27 1 (.nd 4 1 (.nd 3 1 (.nd 2 1 .lf .lf) .lf) (.nd 22 1 (.nd 9 1 .lf .lf) .lf)) (.nd 30 1 (.nd 29 1 (.nd 28 1 .lf .lf) .lf) (.nd 36 1 (.nd 34 1 .lf .lf) .lf))) (.nd 62 3 (.nd 50 5 (.nd 45 7 (.nd 43 1 .lf .lf) .lf) (.nd 58 1 (.nd 57 4 .lf .lf) .lf)) (.nd 73 1 (.nd 71 2 (.nd 68 2 .lf .lf) .lf) (.nd 74 1 .lf .lf)))) (.nd 113 11 (.nd 90 3 (.nd 82 3 (.nd 80 1 (.nd 79 2 .lf .lf) .lf) (.nd 88 4 (.nd 86 5 .lf .lf) .lf)) (.nd 102 32 (.nd 101 2 (.nd 97 1 .lf .lf) .lf) (.nd 104 33 .lf .lf))) (.nd 146 1 (.nd 139 1 (.nd 135 3 (.nd 131 3 .lf .lf) .lf) (.nd 141 1 (.nd 140 1 .lf .lf) .lf)) (.nd 200 2 (.nd 185 2 (.nd 157 2 .lf .lf) .lf) (.nd 210 4 .lf .lf))))),
 (.nd 5057 (1,1,false) (.nd 3204 (4,1,false) (.nd 2880 (0,1,false) (.nd 2437 (5,1,false) (.nd 2434 (2,1,false) (.nd 2433 (1,1,false) (.nd 2432 (0,1,false) .lf .lf) .lf) (.nd 2436 (4,1,false) (.nd 2435 (3,1,false) .lf .lf) .lf)) (.nd 2440 (8,1,false) (.nd 2439 (7,1,false) (.nd 2438 (6,1,false) .lf .lf) .lf) (.nd 2442 (10,1,false) (.nd 2441 (9,1,false) .lf .lf) .lf))) (.nd 2886 (6,1,false) (.nd 2883 (3,1,false) (.nd 2882 (2,1,false) (.nd 2881 (1,1,false) .lf .lf) .lf) (.nd 2885 (5,1,false) (.nd 2884 (4,1,false) .lf .lf) .lf)) (.nd 3202 (2,1,false) (.nd 3201 (1,1,false) (.nd 3200 (0,1,false) .lf .lf) .lf) (.nd 3203 (3,1,false) .lf .lf)))) (.nd 4545 (1,1,false) (.nd 3969 (1,1,false) (.nd 3650 (2,1,false) (.nd 3649 (1,1,false) (.nd 3648 (0,1,false) .lf .lf) .lf) (.nd 3968 (0,1,false) (.nd 3651 (3,1,false) .lf .lf) .lf)) (.nd 4353 (1,1,false) (.nd 4352 (0,1,false) (.nd 3970 (2,1,false) .lf .lf) .lf) (.nd 4544 (0,1,false) .lf .lf))) (.nd 4869 (5,1,false) (.nd 4866 (2,1,false) (.nd 4865 (1,1,false) (.nd 4864 (0,1,false) .lf .lf) .lf) (.nd 4868 (4,1,false) (.nd 4867 (3,1,false) .lf .lf) .lf)) (.nd 4872 (8,1,false) (.nd 4871 (7,1,false) (.nd 4870 (6,1,false) .lf .lf) .lf) (.nd 5056 (0,1,false) .lf .lf))))) (.nd 8386 (2,1,false) (.nd 5635 (3,1,false) (.nd 5506 (2,1,false) (.nd 5250 (2,1,false) (.nd 5249 (1,1,false) (.nd 5248 (0,1,false) .lf .lf) .lf) (.nd 5505 (1,1,false) (.nd 5504 (0,1,false) .lf .lf) .lf)) (.nd 5632 (0,1,false) (.nd 5508 (4,1,false) (.nd 5507 (3,1,false) .lf .lf) .lf) (.nd 5634 (2,1,false) (.nd 5633 (1,1,false) .lf .lf) .lf))) (.nd 6656 (0,1,false) (.nd 5762 (2,1,false) (.nd 5761 (1,1,false) (.nd 5760 (0,1,false) .lf .lf) .lf) (.nd 6465 (1,1,false) (.nd 6464 (0,1,false) .lf .lf) .lf)) (.nd 8064 (0,1,false) (.nd 7232 (0,11,true) (.nd 6657 (1,32,true) .lf .lf) .lf) (.nd 8384 (0,1,false) .lf .lf)))) (.nd 9159 (48,1,false) (.nd 9154 (12,1,false) (.nd 8642 (2,1,false) (.nd 8641 (1,1,false) (.nd 8640 (0,1,false) .lf .lf) .lf) (.nd 9153 (11,1,false) (.nd 9152 (0,11,true) .lf .lf) .lf)) (.nd 9157 (15,32,true) (.nd 9156 (14,1,false) (.nd 9155 (13,1,false) .lf .lf) .lf) (.nd 9158 (47,1,false) .lf .lf))) (.nd 12801 (1,1,false) (.nd 10498 (12,1,false) (.nd 10497 (11,1,false) (.nd 10496 (0,11,true) .lf .lf) .lf) (.nd 11841 (1,1,false) (.nd 11840 (0,1,false) .lf .lf) .lf)) (.nd 13442 (2,1,false) (.nd 13441 (1,1,false) (.nd 13440 (0,1,false) .lf .lf) .lf) (.nd 13443 (3,1,false) .lf .lf)))))),
 (.nd 73 .u8 (.nd 5 .u8 (.nd 3 .i64 (.nd 2 .i64 .lf .lf) .lf) (.nd 43 .u8 .lf .lf)) (.nd 203 .u8 (.nd 152 .u64 (.nd 74 .u8 .lf .lf) .lf) (.nd 211 .u64 .lf .lf)))⟩,by kernel_rfl⟩
open Go
def Tryz.laysSort_ren:Go.Shelf.Ren:=⟨fun|189=>73|125=>107|257=>106|128=>142|129=>143|294=>134|295=>135|296=>136|297=>137|298=>138|299=>139|216=>76|300=>140|301=>141|328=>162|329=>163|330=>164|331=>165|332=>166|215=>108|343=>185|n=>n,fun|28=>22|3=>3|46=>152|0=>0|51=>226|53=>211|4=>4|183=>220|182=>219|131=>115|5=>5|9=>9|218=>247|222=>235|228=>260|229=>261|n=>n,fun|n=>n⟩
theorem jp:Go.Proofs.Lays.n189 prog Tryz.laysSort_ren where
 mixed:=by kernel_rfl
 f125:=func107.trans (congrArg some kR)
 f128:=func142.trans (congrArg some kR)
 f129:=func143.trans (congrArg some kR)
 f189:=func73.trans (congrArg some kR)
 f215:=func108.trans (congrArg some kR)
 f216:=func76.trans (congrArg some kR)
 f257:=func106.trans (congrArg some kR)
 f294:=func134.trans (congrArg some kR)
 f295:=func135.trans (congrArg some kR)
 f296:=func136.trans (congrArg some kR)
 f297:=func137.trans (congrArg some kR)
 f298:=func138.trans (congrArg some kR)
 f299:=func139.trans (congrArg some kR)
 f300:=func140.trans (congrArg some kR)
 f301:=func141.trans (congrArg some kR)
 f328:=func162.trans (congrArg some kR)
 f329:=func163.trans (congrArg some kR)
 f330:=func164.trans (congrArg some kR)
 f331:=func165.trans (congrArg some kR)
 f332:=func166.trans (congrArg some kR)
 f343:=func185.trans (congrArg some kR)
 t0:=underlying0
 a0:=Tryz.isAgg0
 z0:=Tryz.sizeOf0
 v0:=Tryz.zeroValue0
 t3:=underlying3
 a3:=Tryz.isAgg3
 z3:=Tryz.sizeOf3
 v3:=Tryz.zeroValue3
 t4:=underlying4
 a4:=Tryz.isAgg4
 z4:=Tryz.sizeOf4
 v4:=Tryz.zeroValue4
 t5:=underlying5
 a5:=Tryz.isAgg5
 z5:=Tryz.sizeOf5
 v5:=Tryz.zeroValue5
 t9:=underlying9
 a9:=Tryz.isAgg9
 z9:=Tryz.sizeOf9
 v9:=Tryz.zeroValue9
 t28:=underlying22
 a28:=Tryz.isAgg22
 z28:=Tryz.sizeOf22
 v28:=Tryz.zeroValue22
 t46:=underlying152
 a46:=Tryz.isAgg152
 z46:=Tryz.sizeOf152
 v46:=Tryz.zeroValue152
 t51:=underlying226
 a51:=Tryz.isAgg226
 z51:=Tryz.sizeOf226
 v51:=Tryz.zeroValue226
 t53:=underlying211
 a53:=Tryz.isAgg211
 z53:=Tryz.sizeOf211
 v53:=Tryz.zeroValue211
 t131:=underlying115
 a131:=Tryz.isAgg115
 z131:=Tryz.sizeOf115
 v131:=Tryz.zeroValue115
 t182:=underlying219
 a182:=Tryz.isAgg219
 z182:=Tryz.sizeOf219
 v182:=Tryz.zeroValue219
 t183:=underlying220
 a183:=Tryz.isAgg220
 z183:=Tryz.sizeOf220
 v183:=Tryz.zeroValue220
 t218:=underlying247
 a218:=Tryz.isAgg247
 z218:=Tryz.sizeOf247
 v218:=Tryz.zeroValue247
 t222:=underlying235
 a222:=Tryz.isAgg235
 z222:=Tryz.sizeOf235
 v222:=Tryz.zeroValue235
 t228:=underlying260
 a228:=Tryz.isAgg260
 z228:=Tryz.sizeOf260
 v228:=Tryz.zeroValue260
 t229:=underlying261
 a229:=Tryz.isAgg261
 z229:=Tryz.sizeOf261
 v229:=Tryz.zeroValue261
end Go.Proofs.YtlkhnkpflmpjhaaGreatDoor
