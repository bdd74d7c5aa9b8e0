/- Part of the proof. -/
import Derived.Lib.RowBridge
import Derived.Test.YtejcfgjpdocaoaaGreatDoorProg
import Derived.KernelRfl
import Derived.Test.YtejcfgjpdocaoaaGreatDoorO
set_option linter.unusedVariables false
set_option linter.unusedSimpArgs false
set_option linter.unusedSectionVars false
set_option linter.unnecessarySimpa false
set_option maxHeartbeats 4000000
set_option maxRecDepth 100000
namespace Go.Proofs.YtejcfgjpdocaoaaGreatDoor
open Tryz
open Go Go.Sk
theorem a2:aP prog 2=some false:=by kernel_rfl
theorem a231:aP prog 231=some true:=by kernel_rfl
theorem pE:aP prog 240=some true:=by kernel_rfl
theorem a243:aP prog 243=some true:=by kernel_rfl
theorem a3:aP prog 3=some false:=by kernel_rfl
theorem a30:aP prog 30=some false:=by kernel_rfl
theorem a31:aP prog 31=some false:=by kernel_rfl
theorem a35:aP prog 35=some false:=by kernel_rfl
theorem a4:aP prog 4=some false:=by kernel_rfl
theorem a5:aP prog 5=some false:=by kernel_rfl
theorem a59:aP prog 59=some true:=by kernel_rfl
theorem a72:aP prog 72=some true:=by kernel_rfl
theorem a80:aP prog 80=some true:=by kernel_rfl
theorem a84:aP prog 84=some false:=by kernel_rfl
theorem e22:aB prog 22=some (7,true):=by kernel_rfl
theorem e23:aB prog 23=some (4,true):=by kernel_rfl
theorem e24:aB prog 24=some (3,true):=by kernel_rfl
theorem e241:aB prog 241=some (3,true):=by kernel_rfl
theorem e25:aB prog 25=some (3,true):=by kernel_rfl
theorem e26:aB prog 26=some (1,false):=by kernel_rfl
theorem e27:aB prog 27=some (5,true):=by kernel_rfl
theorem e28:aB prog 28=some (3,true):=by kernel_rfl
theorem sC:aB prog 286=some (1,false):=by kernel_rfl
theorem e29:aB prog 29=some (4,true):=by kernel_rfl
theorem uc:aB prog 292=some (3,true):=by kernel_rfl
theorem e30:aB prog 30=some (2,true):=by kernel_rfl
theorem e31:aB prog 31=some (2,true):=by kernel_rfl
theorem e37:aB prog 37=some (1,false):=by kernel_rfl
theorem e54:aB prog 54=some (1,false):=by kernel_rfl
theorem e63:aB prog 63=some (5,true):=by kernel_rfl
theorem e68:aB prog 68=some (2,true):=by kernel_rfl
theorem e73:aB prog 73=some (9,true):=by kernel_rfl
theorem e84:aB prog 84=some (1,false):=by kernel_rfl
theorem e87:aB prog 87=some (1,false):=by kernel_rfl
theorem bi:cq prog 241=some (247,3,24):=by kernel_rfl
theorem l286:cq prog 286=some (9,1,16):=by kernel_rfl
theorem l292:cq prog 292=some (243,3,48):=by kernel_rfl
theorem l37:cq prog 37=some (84,1,24):=by kernel_rfl
theorem l84:cq prog 84=some (2,1,8):=by kernel_rfl
theorem l87:cq prog 87=some (35,1,8):=by kernel_rfl
theorem p152:bo prog 152=some [(0,1),(1,1)]:=by kernel_rfl
theorem p160:bo prog 160=some [(0,11),(11,1),(12,1)]:=by kernel_rfl
theorem p231:bo prog 231=some [(0,1),(1,1)]:=by kernel_rfl
theorem ph:bo prog 240=some [(0,1),(1,1),(2,1),(3,1)]:=by kernel_rfl
theorem bd:bo prog 243=some [(0,1),(1,1),(2,1)]:=by kernel_rfl
theorem ax:bo prog 247=some [(0,1),(1,1),(2,1)]:=by kernel_rfl
theorem p59:bo prog 59=some [(0,1),(1,1),(2,1),(3,1),(4,1),(5,1),(6,1)]:=by kernel_rfl
theorem p72:bo prog 72=some [(0,1),(1,1)]:=by kernel_rfl
theorem p80:bo prog 80=some [(0,1),(1,1),(2,1),(3,1),(4,1),(5,1),(6,1),(7,1),(8,1)]:=by kernel_rfl
theorem p86:bo prog 86=some [(0,11)]:=by kernel_rfl
theorem q59:fV prog 59=some [.int .u8, .int .i64, .int .i64, .int .i64, .int .i64, .int .i64, .int .i64]:=by kernel_rfl
theorem ar284:iv prog 284=some (57,2,true):=by kernel_rfl
theorem oH:iv prog 315=some (256,1,false):=by kernel_rfl
theorem s118:a9 prog 118=some 3:=by kernel_rfl
theorem s121:a9 prog 121=some 2:=by kernel_rfl
theorem s152:a9 prog 152=some 2:=by kernel_rfl
theorem s2:a9 prog 2=some 1:=by kernel_rfl
theorem pa:a9 prog 231=some 2:=by kernel_rfl
theorem di:a9 prog 240=some 4:=by kernel_rfl
theorem pZ:a9 prog 243=some 3:=by kernel_rfl
theorem s247:a9 prog 247=some 3:=by kernel_rfl
theorem s3:a9 prog 3=some 1:=by kernel_rfl
theorem s4:a9 prog 4=some 1:=by kernel_rfl
theorem s57:a9 prog 57=some 1:=by kernel_rfl
theorem s59:a9 prog 59=some 7:=by kernel_rfl
theorem s65:a9 prog 65=some 3:=by kernel_rfl
theorem s67:a9 prog 67=some 5:=by kernel_rfl
theorem s70:a9 prog 70=some 4:=by kernel_rfl
theorem s72:a9 prog 72=some 2:=by kernel_rfl
theorem s75:a9 prog 75=some 2:=by kernel_rfl
theorem s77:a9 prog 77=some 1:=by kernel_rfl
theorem s78:a9 prog 78=some 1:=by kernel_rfl
theorem s80:a9 prog 80=some 9:=by kernel_rfl
theorem s83:a9 prog 83=some 4:=by kernel_rfl
theorem s84:a9 prog 84=some 1:=by kernel_rfl
theorem s86:a9 prog 86=some 11:=by kernel_rfl
theorem s9:a9 prog 9=some 1:=by kernel_rfl
theorem s93:a9 prog 93=some 3:=by kernel_rfl
theorem z118:aJ prog 118=some [.int .i64 0, .int .i64 0, .int .i64 0]:=by kernel_rfl
theorem z121:aJ prog 121=some [.int .i64 0, .int .u8 0]:=by kernel_rfl
theorem z152:aJ prog 152=some [.int .i64 0, .int .i64 0]:=by kernel_rfl
theorem z160:aJ prog 160=some [.slice none 0 0, .slice none 0 0, .slice none 0 0, .slice none 0 0, .slice none 0 0, .slice none 0 0, .slice none 0 0, .int .i64 0, .slice none 0 0, .slice none 0 0, .slice none 0 0, .int .i64 0, .int .i64 0]:=by kernel_rfl
theorem z2:aJ prog 2=some [.int .i64 0]:=by kernel_rfl
theorem re:aJ prog 231=some [.string ByteArray.empty, .string ByteArray.empty]:=by kernel_rfl
theorem d8:aJ prog 240=some [.nilFunc, .nilFunc, .int .i64 0, .int .i64 0]:=by kernel_rfl
theorem aZ:aJ prog 243=some [.int .u8 0, .string ByteArray.empty, .slice none 0 0]:=by kernel_rfl
theorem am:aJ prog 247=some [.int .u8 0, .int .i64 0, .int .i64 0]:=by kernel_rfl
theorem z35:aJ prog 35=some [.nilFunc]:=by kernel_rfl
theorem z4:aJ prog 4=some [.bool false]:=by kernel_rfl
theorem z59:aJ prog 59=some [.int .u8 0, .int .i64 0, .int .i64 0, .int .i64 0, .int .i64 0, .int .i64 0, .int .i64 0]:=by kernel_rfl
theorem z65:aJ prog 65=some [.slice none 0 0, .int .i64 0, .int .i64 0]:=by kernel_rfl
theorem z67:aJ prog 67=some [.int .i64 0, .int .i64 0, .int .i64 0, .bool false, .slice none 0 0]:=by kernel_rfl
theorem z70:aJ prog 70=some [.int .i64 0, .int .i64 0, .slice none 0 0, .int .i64 0]:=by kernel_rfl
theorem z72:aJ prog 72=some [.slice none 0 0, .slice none 0 0]:=by kernel_rfl
theorem z75:aJ prog 75=some [.int .i64 0, .slice none 0 0]:=by kernel_rfl
theorem z80:aJ prog 80=some [.int .u8 0, .int .u8 0, .int .i64 0, .int .i64 0, .int .i64 0, .int .i64 0, .int .i64 0, .int .i64 0, .slice none 0 0]:=by kernel_rfl
theorem z83:aJ prog 83=some [.int .i64 0, .int .i64 0, .int .i64 0, .bool false]:=by kernel_rfl
theorem z84:aJ prog 84=some [.slice none 0 0]:=by kernel_rfl
theorem z86:aJ prog 86=some [.slice none 0 0, .slice none 0 0, .slice none 0 0, .slice none 0 0, .slice none 0 0, .slice none 0 0, .slice none 0 0, .int .i64 0, .slice none 0 0, .slice none 0 0, .slice none 0 0]:=by kernel_rfl
theorem z9:aJ prog 9=some [.string ByteArray.empty]:=by kernel_rfl
theorem z93:aJ prog 93=some [.int .i64 0, .int .i64 0, .int .i64 0]:=by kernel_rfl
instance:Tys prog:=⟨⟨(.nd 73 false (.nd 30 false (.nd 23 false (.nd 5 false (.nd 3 false (.nd 2 false .lf .lf) (.nd 4 false .lf .lf)) (.nd 22 false (.nd 9 false .lf .lf) .lf)) (.nd 27 false (.nd 25 false (.nd 24 false .lf .lf) (.nd 26 false .lf .lf)) (.nd 29 false (.nd 28 false .lf .lf) .lf))) (.nd 63 false (.nd 54 false (.nd 33 true (.nd 31 false .lf .lf) (.nd 35 false .lf .lf)) (.nd 59 true (.nd 57 false .lf .lf) .lf)) (.nd 68 false (.nd 67 true (.nd 65 true .lf .lf) .lf) (.nd 72 true (.nd 70 true .lf .lf) .lf)))) (.nd 121 true (.nd 86 true (.nd 80 true (.nd 77 false (.nd 75 true .lf .lf) (.nd 78 false .lf .lf)) (.nd 84 false (.nd 83 true .lf .lf) .lf)) (.nd 108 false (.nd 102 false (.nd 93 true .lf .lf) .lf) (.nd 119 false (.nd 118 true .lf .lf) .lf))) (.nd 231 true (.nd 158 false (.nd 128 true (.nd 126 false .lf .lf) (.nd 152 true .lf .lf)) (.nd 220 false (.nd 204 false .lf .lf) .lf)) (.nd 241 false (.nd 240 true (.nd 238 false .lf .lf) .lf) (.nd 247 true (.nd 243 true .lf .lf) .lf))))),
 (.nd 78 1 (.nd 59 7 (.nd 9 1 (.nd 3 1 (.nd 2 1 .lf .lf) (.nd 4 1 .lf .lf)) (.nd 57 1 (.nd 33 11 .lf .lf) .lf)) (.nd 72 2 (.nd 67 5 (.nd 65 3 .lf .lf) (.nd 70 4 .lf .lf)) (.nd 77 1 (.nd 75 2 .lf .lf) .lf))) (.nd 121 2 (.nd 86 11 (.nd 83 4 (.nd 80 9 .lf .lf) (.nd 84 1 .lf .lf)) (.nd 118 3 (.nd 93 3 .lf .lf) .lf)) (.nd 240 4 (.nd 152 2 (.nd 128 5 .lf .lf) (.nd 231 2 .lf .lf)) (.nd 247 3 (.nd 243 3 .lf .lf) .lf)))),
 (.nd 5123 (3,1,false) (.nd 4160 (0,1,false) (.nd 2121 (9,1,false) (.nd 2116 (4,1,false) (.nd 2114 (2,1,false) (.nd 2113 (1,1,false) (.nd 2112 (0,1,false) .lf .lf) .lf) (.nd 2115 (3,1,false) .lf .lf)) (.nd 2119 (7,1,false) (.nd 2118 (6,1,false) (.nd 2117 (5,1,false) .lf .lf) .lf) (.nd 2120 (8,1,false) .lf .lf))) (.nd 3779 (3,1,false) (.nd 3777 (1,1,false) (.nd 3776 (0,1,false) (.nd 2122 (10,1,false) .lf .lf) .lf) (.nd 3778 (2,1,false) .lf .lf)) (.nd 3781 (5,1,false) (.nd 3780 (4,1,false) .lf .lf) (.nd 3782 (6,1,false) .lf .lf)))) (.nd 4482 (2,1,false) (.nd 4290 (2,1,false) (.nd 4288 (0,1,false) (.nd 4162 (2,1,false) (.nd 4161 (1,1,false) .lf .lf) .lf) (.nd 4289 (1,1,false) .lf .lf)) (.nd 4480 (0,1,false) (.nd 4292 (4,1,false) (.nd 4291 (3,1,false) .lf .lf) .lf) (.nd 4481 (1,1,false) .lf .lf))) (.nd 4801 (1,1,false) (.nd 4609 (1,1,false) (.nd 4608 (0,1,false) (.nd 4483 (3,1,false) .lf .lf) .lf) (.nd 4800 (0,1,false) .lf .lf)) (.nd 5121 (1,1,false) (.nd 5120 (0,1,false) .lf .lf) (.nd 5122 (2,1,false) .lf .lf))))) (.nd 8192 (0,1,false) (.nd 5504 (0,11,true) (.nd 5128 (8,1,false) (.nd 5126 (6,1,false) (.nd 5125 (5,1,false) (.nd 5124 (4,1,false) .lf .lf) .lf) (.nd 5127 (7,1,false) .lf .lf)) (.nd 5314 (2,1,false) (.nd 5313 (1,1,false) (.nd 5312 (0,1,false) .lf .lf) .lf) (.nd 5315 (3,1,false) .lf .lf))) (.nd 7553 (1,1,false) (.nd 5954 (2,1,false) (.nd 5953 (1,1,false) (.nd 5952 (0,1,false) .lf .lf) .lf) (.nd 7552 (0,1,false) .lf .lf)) (.nd 7744 (0,1,false) (.nd 7554 (2,1,false) .lf .lf) (.nd 7745 (1,1,false) .lf .lf)))) (.nd 15360 (0,1,false) (.nd 10240 (0,11,true) (.nd 8195 (3,1,false) (.nd 8194 (2,1,false) (.nd 8193 (1,1,false) .lf .lf) .lf) (.nd 8196 (4,1,false) .lf .lf)) (.nd 10242 (12,1,false) (.nd 10241 (11,1,false) .lf .lf) (.nd 14785 (1,1,false) .lf .lf))) (.nd 15554 (2,1,false) (.nd 15363 (3,1,false) (.nd 15362 (2,1,false) (.nd 15361 (1,1,false) .lf .lf) .lf) (.nd 15552 (0,1,false) .lf .lf)) (.nd 15809 (1,1,false) (.nd 15808 (0,1,false) .lf .lf) (.nd 15810 (2,1,false) .lf .lf)))))),
 (.nd 5 .u8 (.nd 3 .i64 (.nd 2 .i64 .lf .lf) .lf) (.nd 234 .u8 (.nd 57 .u8 .lf .lf) .lf))⟩,by kernel_rfl⟩
end Go.Proofs.YtejcfgjpdocaoaaGreatDoor
