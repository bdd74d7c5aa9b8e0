/- Part of the proof. -/
import Derived.Lib.RowBridge
import Derived.Test.YtoigciljcejeaaaGreatDoorProg
import Derived.KernelRfl
import Derived.Test.YtoigciljcejeaaaGreatDoorO
set_option linter.all false
set_option maxHeartbeats 4000000
set_option maxRecDepth 100000
namespace Go.Proofs.YtoigciljcejeaaaGreatDoor
open Go.Proofs.Tryz
open Go Go.Sk
theorem a176:aW prog 176=some true:=by kernel_rfl
theorem a183:aW prog 183=some false:=by kernel_rfl
theorem rz:aW prog 187=some true:=by kernel_rfl
theorem a189:aW prog 189=some true:=by kernel_rfl
theorem a2:aW prog 2=some false:=by kernel_rfl
theorem a23:aW prog 23=some false:=by kernel_rfl
theorem a28:aW prog 28=some false:=by kernel_rfl
theorem a3:aW prog 3=some false:=by kernel_rfl
theorem a30:aW prog 30=some false:=by kernel_rfl
theorem a31:aW prog 31=some false:=by kernel_rfl
theorem a35:aW prog 35=some true:=by kernel_rfl
theorem a37:aW prog 37=some false:=by kernel_rfl
theorem a4:aW prog 4=some false:=by kernel_rfl
theorem a49:aW prog 49=some true:=by kernel_rfl
theorem a5:aW prog 5=some false:=by kernel_rfl
theorem a9:aW prog 9=some false:=by kernel_rfl
theorem a95:aW prog 95=some true:=by kernel_rfl
theorem uk:aP prog 103=some (1,false):=by kernel_rfl
theorem e137:aP prog 137=some (5,true):=by kernel_rfl
theorem uj:aP prog 202=some (1,false):=by kernel_rfl
theorem e22:aP prog 22=some (3,true):=by kernel_rfl
theorem e24:aP prog 24=some (7,true):=by kernel_rfl
theorem e25:aP prog 25=some (4,true):=by kernel_rfl
theorem e26:aP prog 26=some (3,true):=by kernel_rfl
theorem e27:aP prog 27=some (3,true):=by kernel_rfl
theorem e28:aP prog 28=some (1,false):=by kernel_rfl
theorem e29:aP prog 29=some (5,true):=by kernel_rfl
theorem e30:aP prog 30=some (3,true):=by kernel_rfl
theorem e31:aP prog 31=some (4,true):=by kernel_rfl
theorem e32:aP prog 32=some (2,true):=by kernel_rfl
theorem e33:aP prog 33=some (2,true):=by kernel_rfl
theorem e37:aP prog 37=some (1,false):=by kernel_rfl
theorem e54:aP prog 54=some (2,true):=by kernel_rfl
theorem e57:aP prog 57=some (9,true):=by kernel_rfl
theorem e66:aP prog 66=some (3,true):=by kernel_rfl
theorem e67:aP prog 67=some (1,false):=by kernel_rfl
theorem e76:aP prog 76=some (2,true):=by kernel_rfl
theorem e81:aP prog 81=some (1,false):=by kernel_rfl
theorem e93:aP prog 93=some (2,true):=by kernel_rfl
theorem f89_2:c7 prog 89 2=some (2,1,false):=by kernel_rfl
theorem l103:cW prog 103=some (4,1,1):=by kernel_rfl
theorem l202:cW prog 202=some (9,1,16):=by kernel_rfl
theorem l24:cW prog 24=some (40,7,56):=by kernel_rfl
theorem l26:cW prog 26=some (44,3,24):=by kernel_rfl
theorem l28:cW prog 28=some (37,1,24):=by kernel_rfl
theorem l31:cW prog 31=some (56,4,48):=by kernel_rfl
theorem l32:cW prog 32=some (59,2,32):=by kernel_rfl
theorem l37:cW prog 37=some (3,1,8):=by kernel_rfl
theorem l66:cW prog 66=some (89,3,40):=by kernel_rfl
theorem l67:cW prog 67=some (2,1,8):=by kernel_rfl
theorem l76:cW prog 76=some (101,2,16):=by kernel_rfl
theorem l81:cW prog 81=some (23,1,8):=by kernel_rfl
theorem l93:cW prog 93=some (95,2,16):=by kernel_rfl
theorem p101:bR prog 101=some [(0,1),(1,1)]:=by kernel_rfl
theorem p176:bR prog 176=some [(0,1),(1,1)]:=by kernel_rfl
theorem rh:bR prog 187=some [(0,1),(1,1),(2,1),(3,1)]:=by kernel_rfl
theorem p189:bR prog 189=some [(0,1),(1,1),(2,1)]:=by kernel_rfl
theorem p35:bR prog 35=some [(0,1),(1,1),(2,1),(3,1),(4,1),(5,1),(6,1),(7,1),(8,1),(9,1),(10,1)]:=by kernel_rfl
theorem p40:bR prog 40=some [(0,1),(1,1),(2,1),(3,1),(4,1),(5,1),(6,1)]:=by kernel_rfl
theorem p44:bR prog 44=some [(0,1),(1,1),(2,1)]:=by kernel_rfl
theorem p56:bR prog 56=some [(0,1),(1,1),(2,1),(3,1)]:=by kernel_rfl
theorem p59:bR prog 59=some [(0,1),(1,1)]:=by kernel_rfl
theorem p72:bR prog 72=some [(0,1),(1,1),(2,1),(3,1),(4,1),(5,1),(6,1)]:=by kernel_rfl
theorem p80:bR prog 80=some [(0,11)]:=by kernel_rfl
theorem p89:bR prog 89=some [(0,1),(1,1),(2,1)]:=by kernel_rfl
theorem q40:pU prog 40=some [.int .u8, .int .i64, .int .i64, .int .i64, .int .i64, .int .i64, .int .i64]:=by kernel_rfl
theorem ar200:eD prog 200=some (57,2,true):=by kernel_rfl
theorem qG:eD prog 226=some (256,1,false):=by kernel_rfl
theorem uy:eD prog 49=some (58,1,false):=by kernel_rfl
theorem ju:eD prog 95=some (2,1,false):=by kernel_rfl
theorem s101:bn prog 101=some 2:=by kernel_rfl
theorem s103:bn prog 103=some 1:=by kernel_rfl
theorem s104:bn prog 104=some 1:=by kernel_rfl
theorem s107:bn prog 107=some 1:=by kernel_rfl
theorem s111:bn prog 111=some 1:=by kernel_rfl
theorem s126:bn prog 126=some 2:=by kernel_rfl
theorem s139:bn prog 139=some 3:=by kernel_rfl
theorem s143:bn prog 143=some 5:=by kernel_rfl
theorem rb:bn prog 176=some 2:=by kernel_rfl
theorem d9:bn prog 187=some 4:=by kernel_rfl
theorem tW:bn prog 189=some 3:=by kernel_rfl
theorem s192:bn prog 192=some 1:=by kernel_rfl
theorem s2:bn prog 2=some 1:=by kernel_rfl
theorem s24:bn prog 24=some 1:=by kernel_rfl
theorem s26:bn prog 26=some 1:=by kernel_rfl
theorem s28:bn prog 28=some 1:=by kernel_rfl
theorem s3:bn prog 3=some 1:=by kernel_rfl
theorem s35:bn prog 35=some 11:=by kernel_rfl
theorem s37:bn prog 37=some 1:=by kernel_rfl
theorem s4:bn prog 4=some 1:=by kernel_rfl
theorem s40:bn prog 40=some 7:=by kernel_rfl
theorem s44:bn prog 44=some 3:=by kernel_rfl
theorem s49:bn prog 49=some 58:=by kernel_rfl
theorem s56:bn prog 56=some 4:=by kernel_rfl
theorem s59:bn prog 59=some 2:=by kernel_rfl
theorem s66:bn prog 66=some 1:=by kernel_rfl
theorem s67:bn prog 67=some 1:=by kernel_rfl
theorem s75:bn prog 75=some 1:=by kernel_rfl
theorem s80:bn prog 80=some 11:=by kernel_rfl
theorem s89:bn prog 89=some 3:=by kernel_rfl
theorem s9:bn prog 9=some 1:=by kernel_rfl
theorem s95:bn prog 95=some 2:=by kernel_rfl
theorem tG:aY prog 101=some [.int .i64 0, .int .i64 0]:=by kernel_rfl
theorem z103:aY prog 103=some [.slice none 0 0]:=by kernel_rfl
theorem z104:aY prog 104=some [.nilFunc]:=by kernel_rfl
theorem z107:aY prog 107=some [.map none]:=by kernel_rfl
theorem z111:aY prog 111=some [.nilFunc]:=by kernel_rfl
theorem z126:aY prog 126=some [.slice none 0 0, .slice none 0 0]:=by kernel_rfl
theorem z139:aY prog 139=some [.slice none 0 0, .int .i64 0, .int .i64 0]:=by kernel_rfl
theorem z143:aY prog 143=some [.int .u8 0, .int .i64 0, .int .i64 0, .int .i64 0, .int .i64 0]:=by kernel_rfl
theorem tF:aY prog 176=some [.string ByteArray.empty, .string ByteArray.empty]:=by kernel_rfl
theorem fq:aY prog 187=some [.nilFunc, .nilFunc, .int .i64 0, .int .i64 0]:=by kernel_rfl
theorem tE:aY prog 189=some [.map none, .map none, .int .i64 0]:=by kernel_rfl
theorem z192:aY prog 192=some [.nilFunc]:=by kernel_rfl
theorem z2:aY prog 2=some [.int .i64 0]:=by kernel_rfl
theorem z23:aY prog 23=some [.nilFunc]:=by kernel_rfl
theorem z28:aY prog 28=some [.slice none 0 0]:=by kernel_rfl
theorem z3:aY prog 3=some [.int .i64 0]:=by kernel_rfl
theorem z35:aY prog 35=some [.slice none 0 0, .slice none 0 0, .slice none 0 0, .slice none 0 0, .slice none 0 0, .slice none 0 0, .slice none 0 0, .int .i64 0, .slice none 0 0, .slice none 0 0, .slice none 0 0]:=by kernel_rfl
theorem z37:aY prog 37=some [.slice none 0 0]:=by kernel_rfl
theorem z4:aY prog 4=some [.bool false]:=by kernel_rfl
theorem z40:aY prog 40=some [.int .u8 0, .int .i64 0, .int .i64 0, .int .i64 0, .int .i64 0, .int .i64 0, .int .i64 0]:=by kernel_rfl
theorem z44:aY prog 44=some [.int .i64 0, .int .i64 0, .int .i64 0]:=by kernel_rfl
theorem z49:aY prog 49=some [.int .i64 0, .int .i64 0, .int .i64 0, .int .i64 0, .int .i64 0, .int .i64 0, .int .i64 0, .int .i64 0, .int .i64 0, .int .i64 0, .int .i64 0, .int .i64 0, .int .i64 0, .int .i64 0, .int .i64 0, .int .i64 0, .int .i64 0, .int .i64 0, .int .i64 0, .int .i64 0, .int .i64 0, .int .i64 0, .int .i64 0, .int .i64 0, .int .i64 0, .int .i64 0, .int .i64 0, .int .i64 0, .int .i64 0, .int .i64 0, .int .i64 0, .int .i64 0, .int .i64 0, .int .i64 0, .int .i64 0, .int .i64 0, .int .i64 0, .int .i64 0, .int .i64 0, .int .i64 0, .int .i64 0, .int .i64 0, .int .i64 0, .int .i64 0, .int .i64 0, .int .i64 0, .int .i64 0, .int .i64 0, .int .i64 0, .int .i64 0, .int .i64 0, .int .i64 0, .int .i64 0, .int .i64 0, .int .i64 0, .int .i64 0, .int .i64 0, .int .i64 0]:=by kernel_rfl
theorem z56:aY prog 56=some [.int .i64 0, .int .i64 0, .slice none 0 0, .int .i64 0]:=by kernel_rfl
theorem z59:aY prog 59=some [.int .i64 0, .slice none 0 0]:=by kernel_rfl
theorem z72:aY prog 72=some [.slice none 0 0, .slice none 0 0, .slice none 0 0, .map none, .map none, .slice none 0 0, .map none]:=by kernel_rfl
theorem z75:aY prog 75=some [.map none]:=by kernel_rfl
theorem z80:aY prog 80=some [.slice none 0 0, .slice none 0 0, .slice none 0 0, .slice none 0 0, .slice none 0 0, .slice none 0 0, .slice none 0 0, .int .i64 0, .slice none 0 0, .slice none 0 0, .slice none 0 0]:=by kernel_rfl
theorem z89:aY prog 89=some [.int .i64 0, .int .i64 0, .slice none 0 0]:=by kernel_rfl
theorem z9:aY prog 9=some [.string ByteArray.empty]:=by kernel_rfl
theorem z95:aY prog 95=some [.int .i64 0, .int .i64 0]:=by kernel_rfl
instance:Tys prog:=⟨⟨(.nd 67 false (.nd 32 false (.nd 25 false (.nd 5 false (.nd 3 false (.nd 2 false .lf .lf) (.nd 4 false .lf .lf)) (.nd 23 false (.nd 9 false .lf .lf) (.nd 24 false .lf .lf))) (.nd 29 false (.nd 27 false (.nd 26 false .lf .lf) (.nd 28 false .lf .lf)) (.nd 31 false (.nd 30 false .lf .lf) .lf))) (.nd 49 true (.nd 38 false (.nd 35 true (.nd 33 false .lf .lf) (.nd 37 false .lf .lf)) (.nd 44 true (.nd 40 true .lf .lf) .lf)) (.nd 59 true (.nd 56 true (.nd 54 false .lf .lf) (.nd 57 false .lf .lf)) (.nd 66 false (.nd 64 false .lf .lf) .lf)))) (.nd 126 true (.nd 89 true (.nd 75 false (.nd 69 false (.nd 68 false .lf .lf) (.nd 70 false .lf .lf)) (.nd 86 false (.nd 80 true .lf .lf) .lf)) (.nd 104 false (.nd 101 true (.nd 95 true .lf .lf) (.nd 103 false .lf .lf)) (.nd 111 false (.nd 107 false .lf .lf) .lf))) (.nd 184 false (.nd 147 true (.nd 139 true (.nd 137 false .lf .lf) (.nd 143 true .lf .lf)) (.nd 183 false (.nd 176 true .lf .lf) .lf)) (.nd 192 false (.nd 187 true (.nd 185 false .lf .lf) (.nd 189 true .lf .lf)) (.nd 207 false (.nd 205 false .lf .lf) .lf))))),
 (.nd 75 1 (.nd 37 1 (.nd 24 1 (.nd 4 1 (.nd 3 1 (.nd 2 1 .lf .lf) .lf) (.nd 9 1 .lf .lf)) (.nd 28 1 (.nd 26 1 .lf .lf) (.nd 35 11 .lf .lf))) (.nd 56 4 (.nd 44 3 (.nd 40 7 .lf .lf) (.nd 49 58 .lf .lf)) (.nd 66 1 (.nd 59 2 .lf .lf) (.nd 67 1 .lf .lf)))) (.nd 126 2 (.nd 103 1 (.nd 95 2 (.nd 89 3 (.nd 80 11 .lf .lf) .lf) (.nd 101 2 .lf .lf)) (.nd 107 1 (.nd 104 1 .lf .lf) (.nd 111 1 .lf .lf))) (.nd 176 2 (.nd 143 5 (.nd 139 3 .lf .lf) (.nd 147 4 .lf .lf)) (.nd 189 3 (.nd 187 4 .lf .lf) (.nd 192 1 .lf .lf))))),
 (.nd 4608 (0,1,false) (.nd 2564 (4,1,false) (.nd 2247 (7,1,false) (.nd 2243 (3,1,false) (.nd 2241 (1,1,false) (.nd 2240 (0,1,false) .lf .lf) (.nd 2242 (2,1,false) .lf .lf)) (.nd 2245 (5,1,false) (.nd 2244 (4,1,false) .lf .lf) (.nd 2246 (6,1,false) .lf .lf))) (.nd 2560 (0,1,false) (.nd 2249 (9,1,false) (.nd 2248 (8,1,false) .lf .lf) (.nd 2250 (10,1,false) .lf .lf)) (.nd 2562 (2,1,false) (.nd 2561 (1,1,false) .lf .lf) (.nd 2563 (3,1,false) .lf .lf)))) (.nd 2818 (2,1,false) (.nd 2689 (1,1,false) (.nd 2566 (6,1,false) (.nd 2565 (5,1,false) .lf .lf) (.nd 2688 (0,1,false) .lf .lf)) (.nd 2816 (0,1,false) (.nd 2690 (2,1,false) .lf .lf) (.nd 2817 (1,1,false) .lf .lf))) (.nd 3587 (3,1,false) (.nd 3585 (1,1,false) (.nd 3584 (0,1,false) .lf .lf) (.nd 3586 (2,1,false) .lf .lf)) (.nd 3777 (1,1,false) (.nd 3776 (0,1,false) .lf .lf) .lf)))) (.nd 8896 (0,1,false) (.nd 5696 (0,1,false) (.nd 4612 (4,1,false) (.nd 4610 (2,1,false) (.nd 4609 (1,1,false) .lf .lf) (.nd 4611 (3,1,false) .lf .lf)) (.nd 4614 (6,1,false) (.nd 4613 (5,1,false) .lf .lf) (.nd 5120 (0,11,true) .lf .lf))) (.nd 6465 (1,1,false) (.nd 5698 (2,1,false) (.nd 5697 (1,1,false) .lf .lf) (.nd 6464 (0,1,false) .lf .lf)) (.nd 8064 (0,1,false) (.nd 7360 (0,1,false) .lf .lf) (.nd 8065 (1,1,false) .lf .lf)))) (.nd 11968 (0,1,false) (.nd 9409 (1,1,false) (.nd 9156 (4,1,false) (.nd 8898 (2,1,false) .lf .lf) (.nd 9408 (0,1,false) .lf .lf)) (.nd 9411 (3,1,false) (.nd 9410 (2,1,false) .lf .lf) (.nd 11265 (1,1,false) .lf .lf))) (.nd 12096 (0,1,false) (.nd 11970 (2,1,false) (.nd 11969 (1,1,false) .lf .lf) (.nd 11971 (3,1,false) .lf .lf)) (.nd 12098 (2,1,false) (.nd 12097 (1,1,false) .lf .lf) .lf))))),
 (.nd 38 .u8 (.nd 3 .i64 (.nd 2 .i64 .lf .lf) (.nd 5 .u8 .lf .lf)) (.nd 195 .u64 (.nd 179 .u8 .lf .lf) .lf))⟩,by kernel_rfl⟩
end Go.Proofs.YtoigciljcejeaaaGreatDoor
