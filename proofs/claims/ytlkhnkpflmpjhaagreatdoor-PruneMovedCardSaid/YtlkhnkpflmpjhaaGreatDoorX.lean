/- Part of the proof. -/
import Derived.Lib.RowBridge
import Derived.Test.YtlkhnkpflmpjhaaGreatDoorProg
import Derived.KernelRfl
import Derived.Test.YtlkhnkpflmpjhaaGreatDoorO
set_option linter.unusedVariables false
set_option linter.unusedSimpArgs false
set_option linter.unusedSectionVars false
set_option linter.unnecessarySimpa false
set_option maxHeartbeats 4000000
set_option maxRecDepth 100000
namespace Go.Proofs.YtlkhnkpflmpjhaaGreatDoor
open Tryz
open Go Go.Sk
theorem hG:aB prog 101=some true:=by kernel_rfl
theorem a2:aB prog 2=some false:=by kernel_rfl
theorem a200:aB prog 200=some true:=by kernel_rfl
theorem nk:aB prog 210=some true:=by kernel_rfl
theorem a23:aB prog 23=some false:=by kernel_rfl
theorem a3:aB prog 3=some false:=by kernel_rfl
theorem a4:aB prog 4=some false:=by kernel_rfl
theorem a5:aB prog 5=some false:=by kernel_rfl
theorem a76:aB prog 76=some true:=by kernel_rfl
theorem ju:av prog 122=some (1,false):=by kernel_rfl
theorem e146:av prog 146=some (1,false):=by kernel_rfl
theorem e22:av prog 22=some (1,false):=by kernel_rfl
theorem qs:av prog 232=some (1,false):=by kernel_rfl
theorem e27:av prog 27=some (7,true):=by kernel_rfl
theorem e28:av prog 28=some (4,true):=by kernel_rfl
theorem e29:av prog 29=some (3,true):=by kernel_rfl
theorem e30:av prog 30=some (3,true):=by kernel_rfl
theorem e31:av prog 31=some (1,false):=by kernel_rfl
theorem e32:av prog 32=some (5,true):=by kernel_rfl
theorem e33:av prog 33=some (3,true):=by kernel_rfl
theorem e34:av prog 34=some (4,true):=by kernel_rfl
theorem e35:av prog 35=some (2,true):=by kernel_rfl
theorem e36:av prog 36=some (2,true):=by kernel_rfl
theorem e55:av prog 55=some (2,true):=by kernel_rfl
theorem e69:av prog 69=some (9,true):=by kernel_rfl
theorem e80:av prog 80=some (5,true):=by kernel_rfl
theorem l122:bE prog 122=some (23,1,8):=by kernel_rfl
theorem l146:bE prog 146=some (2,1,8):=by kernel_rfl
theorem l22:bE prog 22=some (3,1,8):=by kernel_rfl
theorem l232:bE prog 232=some (9,1,16):=by kernel_rfl
theorem nT:bl prog 101=some [(0,1),(1,1)]:=by kernel_rfl
theorem p113:bl prog 113=some [(0,11)]:=by kernel_rfl
theorem p157:bl prog 157=some [(0,1),(1,1)]:=by kernel_rfl
theorem p164:bl prog 164=some [(0,11),(11,1),(12,1)]:=by kernel_rfl
theorem p200:bl prog 200=some [(0,1),(1,1)]:=by kernel_rfl
theorem mZ:bl prog 210=some [(0,1),(1,1),(2,1),(3,1)]:=by kernel_rfl
theorem p45:bl prog 45=some [(0,1),(1,1),(2,1),(3,1),(4,1),(5,1),(6,1)]:=by kernel_rfl
theorem q45:eG prog 45=some [.int .u8, .int .i64, .int .i64, .int .i64, .int .i64, .int .i64, .int .i64]:=by kernel_rfl
theorem ar230:b9 prog 230=some (57,2,true):=by kernel_rfl
theorem mA:b9 prog 252=some (256,1,false):=by kernel_rfl
theorem cf:aI prog 101=some 2:=by kernel_rfl
theorem s113:aI prog 113=some 11:=by kernel_rfl
theorem s157:aI prog 157=some 2:=by kernel_rfl
theorem s2:aI prog 2=some 1:=by kernel_rfl
theorem mW:aI prog 200=some 2:=by kernel_rfl
theorem ce:aI prog 210=some 4:=by kernel_rfl
theorem s3:aI prog 3=some 1:=by kernel_rfl
theorem s4:aI prog 4=some 1:=by kernel_rfl
theorem s45:aI prog 45=some 7:=by kernel_rfl
theorem s50:aI prog 50=some 5:=by kernel_rfl
theorem s57:aI prog 57=some 4:=by kernel_rfl
theorem s62:aI prog 62=some 3:=by kernel_rfl
theorem s68:aI prog 68=some 2:=by kernel_rfl
theorem s71:aI prog 71=some 2:=by kernel_rfl
theorem s73:aI prog 73=some 1:=by kernel_rfl
theorem s74:aI prog 74=some 1:=by kernel_rfl
theorem s76:aI prog 76=some 9:=by kernel_rfl
theorem s79:aI prog 79=some 2:=by kernel_rfl
theorem s82:aI prog 82=some 3:=by kernel_rfl
theorem s88:aI prog 88=some 4:=by kernel_rfl
theorem s9:aI prog 9=some 1:=by kernel_rfl
theorem s90:aI prog 90=some 3:=by kernel_rfl
theorem eL:ap prog 101=some [.int .i64 0, .int .i64 0]:=by kernel_rfl
theorem z113:ap prog 113=some [.slice none 0 0, .slice none 0 0, .slice none 0 0, .slice none 0 0, .slice none 0 0, .slice none 0 0, .slice none 0 0, .int .i64 0, .slice none 0 0, .slice none 0 0, .slice none 0 0]:=by kernel_rfl
theorem z157:ap prog 157=some [.int .i64 0, .int .i64 0]:=by kernel_rfl
theorem z164:ap prog 164=some [.slice none 0 0, .slice none 0 0, .slice none 0 0, .slice none 0 0, .slice none 0 0, .slice none 0 0, .slice none 0 0, .int .i64 0, .slice none 0 0, .slice none 0 0, .slice none 0 0, .int .i64 0, .int .i64 0]:=by kernel_rfl
theorem z2:ap prog 2=some [.int .i64 0]:=by kernel_rfl
theorem o8:ap prog 200=some [.string ByteArray.empty, .string ByteArray.empty]:=by kernel_rfl
theorem cY:ap prog 210=some [.nilFunc, .nilFunc, .int .i64 0, .int .i64 0]:=by kernel_rfl
theorem z23:ap prog 23=some [.nilFunc]:=by kernel_rfl
theorem z3:ap prog 3=some [.int .i64 0]:=by kernel_rfl
theorem z4:ap prog 4=some [.bool false]:=by kernel_rfl
theorem z45:ap prog 45=some [.int .u8 0, .int .i64 0, .int .i64 0, .int .i64 0, .int .i64 0, .int .i64 0, .int .i64 0]:=by kernel_rfl
theorem z50:ap prog 50=some [.int .i64 0, .int .i64 0, .int .i64 0, .bool false, .slice none 0 0]:=by kernel_rfl
theorem z57:ap prog 57=some [.int .i64 0, .int .i64 0, .slice none 0 0, .int .i64 0]:=by kernel_rfl
theorem z62:ap prog 62=some [.int .i64 0, .int .i64 0, .int .i64 0]:=by kernel_rfl
theorem z68:ap prog 68=some [.slice none 0 0, .slice none 0 0]:=by kernel_rfl
theorem z71:ap prog 71=some [.int .i64 0, .slice none 0 0]:=by kernel_rfl
theorem z76:ap prog 76=some [.int .u8 0, .int .u8 0, .int .i64 0, .int .i64 0, .int .i64 0, .int .i64 0, .int .i64 0, .int .i64 0, .slice none 0 0]:=by kernel_rfl
theorem z79:ap prog 79=some [.int .i64 0, .int .u8 0]:=by kernel_rfl
theorem z82:ap prog 82=some [.slice none 0 0, .int .i64 0, .int .i64 0]:=by kernel_rfl
theorem z88:ap prog 88=some [.int .i64 0, .int .i64 0, .int .i64 0, .bool false]:=by kernel_rfl
theorem z9:ap prog 9=some [.string ByteArray.empty]:=by kernel_rfl
theorem z90:ap prog 90=some [.int .i64 0, .int .i64 0, .int .i64 0]:=by kernel_rfl
instance:Tys prog:=⟨⟨(.nd 68 true (.nd 32 false (.nd 23 false (.nd 5 false (.nd 3 false (.nd 2 false .lf .lf) (.nd 4 false .lf .lf)) (.nd 22 false (.nd 9 false .lf .lf) .lf)) (.nd 29 false (.nd 28 false (.nd 27 false .lf .lf) .lf) (.nd 31 false (.nd 30 false .lf .lf) .lf))) (.nd 43 false (.nd 35 false (.nd 34 false (.nd 33 false .lf .lf) .lf) (.nd 38 true (.nd 36 false .lf .lf) .lf)) (.nd 55 false (.nd 50 true (.nd 45 true .lf .lf) .lf) (.nd 62 true (.nd 57 true .lf .lf) .lf)))) (.nd 90 true (.nd 79 true (.nd 74 false (.nd 71 true (.nd 69 false .lf .lf) (.nd 73 false .lf .lf)) (.nd 77 false (.nd 76 true .lf .lf) .lf)) (.nd 84 false (.nd 82 true (.nd 80 false .lf .lf) .lf) (.nd 88 true (.nd 86 true .lf .lf) .lf))) (.nd 200 true (.nd 127 false (.nd 113 true (.nd 101 true .lf .lf) .lf) (.nd 162 false (.nd 157 true .lf .lf) .lf)) (.nd 210 true (.nd 208 false (.nd 207 false .lf .lf) .lf) (.nd 237 false (.nd 235 false .lf .lf) .lf))))),
 (.nd 74 1 (.nd 50 5 (.nd 9 1 (.nd 3 1 (.nd 2 1 .lf .lf) (.nd 4 1 .lf .lf)) (.nd 45 7 (.nd 38 11 .lf .lf) .lf)) (.nd 68 2 (.nd 62 3 (.nd 57 4 .lf .lf) .lf) (.nd 73 1 (.nd 71 2 .lf .lf) .lf))) (.nd 90 3 (.nd 82 3 (.nd 79 2 (.nd 76 9 .lf .lf) .lf) (.nd 88 4 (.nd 86 5 .lf .lf) .lf)) (.nd 157 2 (.nd 113 11 (.nd 101 2 .lf .lf) .lf) (.nd 210 4 (.nd 200 2 .lf .lf) .lf)))),
 (.nd 4865 (1,1,false) (.nd 2886 (6,1,false) (.nd 2440 (8,1,false) (.nd 2436 (4,1,false) (.nd 2434 (2,1,false) (.nd 2433 (1,1,false) (.nd 2432 (0,1,false) .lf .lf) .lf) (.nd 2435 (3,1,false) .lf .lf)) (.nd 2438 (6,1,false) (.nd 2437 (5,1,false) .lf .lf) (.nd 2439 (7,1,false) .lf .lf))) (.nd 2882 (2,1,false) (.nd 2880 (0,1,false) (.nd 2442 (10,1,false) (.nd 2441 (9,1,false) .lf .lf) .lf) (.nd 2881 (1,1,false) .lf .lf)) (.nd 2884 (4,1,false) (.nd 2883 (3,1,false) .lf .lf) (.nd 2885 (5,1,false) .lf .lf)))) (.nd 3651 (3,1,false) (.nd 3204 (4,1,false) (.nd 3202 (2,1,false) (.nd 3201 (1,1,false) (.nd 3200 (0,1,false) .lf .lf) .lf) (.nd 3203 (3,1,false) .lf .lf)) (.nd 3649 (1,1,false) (.nd 3648 (0,1,false) .lf .lf) (.nd 3650 (2,1,false) .lf .lf))) (.nd 4353 (1,1,false) (.nd 3970 (2,1,false) (.nd 3969 (1,1,false) (.nd 3968 (0,1,false) .lf .lf) .lf) (.nd 4352 (0,1,false) .lf .lf)) (.nd 4545 (1,1,false) (.nd 4544 (0,1,false) .lf .lf) (.nd 4864 (0,1,false) .lf .lf))))) (.nd 5632 (0,1,false) (.nd 5057 (1,1,false) (.nd 4870 (6,1,false) (.nd 4868 (4,1,false) (.nd 4867 (3,1,false) (.nd 4866 (2,1,false) .lf .lf) .lf) (.nd 4869 (5,1,false) .lf .lf)) (.nd 4872 (8,1,false) (.nd 4871 (7,1,false) .lf .lf) (.nd 5056 (0,1,false) .lf .lf))) (.nd 5505 (1,1,false) (.nd 5250 (2,1,false) (.nd 5249 (1,1,false) (.nd 5248 (0,1,false) .lf .lf) .lf) (.nd 5504 (0,1,false) .lf .lf)) (.nd 5507 (3,1,false) (.nd 5506 (2,1,false) .lf .lf) (.nd 5508 (4,1,false) .lf .lf)))) (.nd 10496 (0,11,true) (.nd 5762 (2,1,false) (.nd 5760 (0,1,false) (.nd 5634 (2,1,false) (.nd 5633 (1,1,false) .lf .lf) .lf) (.nd 5761 (1,1,false) .lf .lf)) (.nd 6465 (1,1,false) (.nd 6464 (0,1,false) .lf .lf) (.nd 7232 (0,11,true) .lf .lf))) (.nd 13440 (0,1,false) (.nd 10498 (12,1,false) (.nd 10497 (11,1,false) .lf .lf) (.nd 12801 (1,1,false) .lf .lf)) (.nd 13442 (2,1,false) (.nd 13441 (1,1,false) .lf .lf) (.nd 13443 (3,1,false) .lf .lf)))))),
 (.nd 5 .u8 (.nd 3 .i64 (.nd 2 .i64 .lf .lf) .lf) (.nd 203 .u8 (.nd 43 .u8 .lf .lf) .lf))⟩,by kernel_rfl⟩
end Go.Proofs.YtlkhnkpflmpjhaaGreatDoor
