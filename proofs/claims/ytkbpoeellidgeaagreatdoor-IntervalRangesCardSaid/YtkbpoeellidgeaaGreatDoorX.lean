/- Part of the proof. -/
import Derived.Lib.RowBridge
import Derived.Test.YtkbpoeellidgeaaGreatDoorProg
import Derived.KernelRfl
import Derived.Test.YtkbpoeellidgeaaGreatDoorO
set_option linter.unusedVariables false
set_option linter.unusedSimpArgs false
set_option linter.unusedSectionVars false
set_option linter.unnecessarySimpa false
set_option maxHeartbeats 4000000
set_option maxRecDepth 100000
namespace Go.Proofs.YtkbpoeellidgeaaGreatDoor
open Go.Proofs.Tryz
open Go Go.Sk
theorem a130:aV prog 130=some true:=by kernel_rfl
theorem a176:aV prog 176=some true:=by kernel_rfl
theorem sq:aV prog 187=some true:=by kernel_rfl
theorem a2:aV prog 2=some false:=by kernel_rfl
theorem a23:aV prog 23=some false:=by kernel_rfl
theorem a25:aV prog 25=some false:=by kernel_rfl
theorem a29:aV prog 29=some false:=by kernel_rfl
theorem a3:aV prog 3=some false:=by kernel_rfl
theorem a30:aV prog 30=some false:=by kernel_rfl
theorem a31:aV prog 31=some false:=by kernel_rfl
theorem a33:aV prog 33=some true:=by kernel_rfl
theorem a35:aV prog 35=some false:=by kernel_rfl
theorem a36:aV prog 36=some false:=by kernel_rfl
theorem a37:aV prog 37=some false:=by kernel_rfl
theorem a4:aV prog 4=some false:=by kernel_rfl
theorem a42:aV prog 42=some true:=by kernel_rfl
theorem a43:aV prog 43=some true:=by kernel_rfl
theorem a5:aV prog 5=some false:=by kernel_rfl
theorem a50:aV prog 50=some false:=by kernel_rfl
theorem a59:aV prog 59=some true:=by kernel_rfl
theorem a71:aV prog 71=some false:=by kernel_rfl
theorem a74:aV prog 74=some true:=by kernel_rfl
theorem a92:aV prog 92=some true:=by kernel_rfl
theorem nA:bp prog 116=some (1,false):=by kernel_rfl
theorem e128:bp prog 128=some (3,true):=by kernel_rfl
theorem wr:bp prog 167=some (3,true):=by kernel_rfl
theorem uT:bp prog 197=some (1,false):=by kernel_rfl
theorem e218:bp prog 218=some (1,false):=by kernel_rfl
theorem e22:bp prog 22=some (7,true):=by kernel_rfl
theorem e23:bp prog 23=some (4,true):=by kernel_rfl
theorem e24:bp prog 24=some (3,true):=by kernel_rfl
theorem e25:bp prog 25=some (3,true):=by kernel_rfl
theorem e26:bp prog 26=some (1,false):=by kernel_rfl
theorem e27:bp prog 27=some (5,true):=by kernel_rfl
theorem e28:bp prog 28=some (3,true):=by kernel_rfl
theorem e29:bp prog 29=some (4,true):=by kernel_rfl
theorem e30:bp prog 30=some (2,true):=by kernel_rfl
theorem e31:bp prog 31=some (2,true):=by kernel_rfl
theorem e36:bp prog 36=some (33,true):=by kernel_rfl
theorem e37:bp prog 37=some (1,false):=by kernel_rfl
theorem e46:bp prog 46=some (2,true):=by kernel_rfl
theorem e50:bp prog 50=some (2,true):=by kernel_rfl
theorem e51:bp prog 51=some (1,false):=by kernel_rfl
theorem e69:bp prog 69=some (1,false):=by kernel_rfl
theorem e71:bp prog 71=some (1,false):=by kernel_rfl
theorem e85:bp prog 85=some (9,true):=by kernel_rfl
theorem e96:bp prog 96=some (5,true):=by kernel_rfl
theorem f45_0:dh prog 45 0=some (0,1,false):=by kernel_rfl
theorem f45_1:dh prog 45 1=some (1,32,true):=by kernel_rfl
theorem l116:da prog 116=some (35,1,8):=by kernel_rfl
theorem cr:da prog 128=some (134,3,24):=by kernel_rfl
theorem l167:da prog 167=some (130,3,48):=by kernel_rfl
theorem l197:da prog 197=some (9,1,16):=by kernel_rfl
theorem rU:da prog 218=some (4,1,1):=by kernel_rfl
theorem l22:da prog 22=some (59,7,56):=by kernel_rfl
theorem l27:da prog 27=some (53,5,56):=by kernel_rfl
theorem l28:da prog 28=some (80,3,24):=by kernel_rfl
theorem l29:da prog 29=some (48,4,48):=by kernel_rfl
theorem l36:da prog 36=some (45,33,264):=by kernel_rfl
theorem l37:da prog 37=some (50,1,24):=by kernel_rfl
theorem l50:da prog 50=some (42,2,16):=by kernel_rfl
theorem l51:da prog 51=some (3,1,8):=by kernel_rfl
theorem l69:da prog 69=some (71,1,24):=by kernel_rfl
theorem l71:da prog 71=some (2,1,8):=by kernel_rfl
theorem p115:bN prog 115=some [(0,11)]:=by kernel_rfl
theorem p123:bN prog 123=some [(0,1),(1,1)]:=by kernel_rfl
theorem ce:bN prog 130=some [(0,1),(1,1),(2,1)]:=by kernel_rfl
theorem aM:bN prog 134=some [(0,1),(1,1),(2,1)]:=by kernel_rfl
theorem p141:bN prog 141=some [(0,1),(1,1)]:=by kernel_rfl
theorem p150:bN prog 150=some [(0,11),(11,1),(12,1)]:=by kernel_rfl
theorem p176:bN prog 176=some [(0,1),(1,1)]:=by kernel_rfl
theorem rS:bN prog 187=some [(0,1),(1,1),(2,1),(3,1)]:=by kernel_rfl
theorem p33:bN prog 33=some [(0,1),(1,1),(2,1),(3,1),(4,1),(5,1),(6,1),(7,1),(8,1),(9,1),(10,1)]:=by kernel_rfl
theorem p42:bN prog 42=some [(0,1),(1,1)]:=by kernel_rfl
theorem p45:bN prog 45=some [(0,1),(1,32)]:=by kernel_rfl
theorem p48:bN prog 48=some [(0,1),(1,1),(2,1),(3,1)]:=by kernel_rfl
theorem p53:bN prog 53=some [(0,1),(1,1),(2,1),(3,1),(4,1)]:=by kernel_rfl
theorem p59:bN prog 59=some [(0,1),(1,1),(2,1),(3,1),(4,1),(5,1),(6,1)]:=by kernel_rfl
theorem p68:bN prog 68=some [(0,11),(11,1),(12,1),(13,1),(14,1),(15,32),(47,1),(48,1)]:=by kernel_rfl
theorem p74:bN prog 74=some [(0,1),(1,1)]:=by kernel_rfl
theorem p80:bN prog 80=some [(0,1),(1,1),(2,1)]:=by kernel_rfl
theorem p92:bN prog 92=some [(0,1),(1,1),(2,1),(3,1),(4,1),(5,1),(6,1),(7,1),(8,1)]:=by kernel_rfl
theorem q42:iV prog 42=some [.int .i64, .int .i64]:=by kernel_rfl
theorem q45:iV prog 45=some ([(.bool:LK)]++List.replicate 32 (.int .i64:LK)):=by kernel_rfl
theorem q59:iV prog 59=some [.int .u8, .int .i64, .int .i64, .int .i64, .int .i64, .int .i64, .int .i64]:=by kernel_rfl
theorem ar195:fS prog 195=some (57,2,true):=by kernel_rfl
theorem ra:fS prog 211=some (256,1,false):=by kernel_rfl
theorem cw:fS prog 43=some (16,2,true):=by kernel_rfl
theorem s102:bF prog 102=some 5:=by kernel_rfl
theorem ul:bF prog 104=some 4:=by kernel_rfl
theorem s106:bF prog 106=some 3:=by kernel_rfl
theorem s115:bF prog 115=some 11:=by kernel_rfl
theorem s123:bF prog 123=some 2:=by kernel_rfl
theorem sY:bF prog 130=some 3:=by kernel_rfl
theorem s134:bF prog 134=some 3:=by kernel_rfl
theorem s141:bF prog 141=some 2:=by kernel_rfl
theorem rK:bF prog 176=some 2:=by kernel_rfl
theorem eJ:bF prog 187=some 4:=by kernel_rfl
theorem s2:bF prog 2=some 1:=by kernel_rfl
theorem s3:bF prog 3=some 1:=by kernel_rfl
theorem s33:bF prog 33=some 11:=by kernel_rfl
theorem s37:bF prog 37=some 1:=by kernel_rfl
theorem s4:bF prog 4=some 1:=by kernel_rfl
theorem s42:bF prog 42=some 2:=by kernel_rfl
theorem s43:bF prog 43=some 32:=by kernel_rfl
theorem s45:bF prog 45=some 33:=by kernel_rfl
theorem s48:bF prog 48=some 4:=by kernel_rfl
theorem s50:bF prog 50=some 1:=by kernel_rfl
theorem s53:bF prog 53=some 5:=by kernel_rfl
theorem s57:bF prog 57=some 1:=by kernel_rfl
theorem s59:bF prog 59=some 7:=by kernel_rfl
theorem s65:bF prog 65=some 1:=by kernel_rfl
theorem s66:bF prog 66=some 1:=by kernel_rfl
theorem s71:bF prog 71=some 1:=by kernel_rfl
theorem s74:bF prog 74=some 2:=by kernel_rfl
theorem s80:bF prog 80=some 3:=by kernel_rfl
theorem s87:bF prog 87=some 2:=by kernel_rfl
theorem s89:bF prog 89=some 1:=by kernel_rfl
theorem s9:bF prog 9=some 1:=by kernel_rfl
theorem s90:bF prog 90=some 1:=by kernel_rfl
theorem s92:bF prog 92=some 9:=by kernel_rfl
theorem s95:bF prog 95=some 2:=by kernel_rfl
theorem s98:bF prog 98=some 3:=by kernel_rfl
theorem z102:bn prog 102=some [.int .u8 0, .int .i64 0, .int .i64 0, .int .i64 0, .int .i64 0]:=by kernel_rfl
theorem ub:bn prog 104=some [.int .i64 0, .int .i64 0, .int .i64 0, .bool false]:=by kernel_rfl
theorem z106:bn prog 106=some [.int .i64 0, .int .i64 0, .int .i64 0]:=by kernel_rfl
theorem z115:bn prog 115=some [.slice none 0 0, .slice none 0 0, .slice none 0 0, .slice none 0 0, .slice none 0 0, .slice none 0 0, .slice none 0 0, .int .i64 0, .slice none 0 0, .slice none 0 0, .slice none 0 0]:=by kernel_rfl
theorem vH:bn prog 123=some [.int .i64 0, .int .i64 0]:=by kernel_rfl
theorem bW:bn prog 130=some [.int .u8 0, .string ByteArray.empty, .slice none 0 0]:=by kernel_rfl
theorem az:bn prog 134=some [.int .u8 0, .int .i64 0, .int .i64 0]:=by kernel_rfl
theorem z141:bn prog 141=some [.int .i64 0, .int .i64 0]:=by kernel_rfl
theorem z150:bn prog 150=some [.slice none 0 0, .slice none 0 0, .slice none 0 0, .slice none 0 0, .slice none 0 0, .slice none 0 0, .slice none 0 0, .int .i64 0, .slice none 0 0, .slice none 0 0, .slice none 0 0, .int .i64 0, .int .i64 0]:=by kernel_rfl
theorem ua:bn prog 176=some [.string ByteArray.empty, .string ByteArray.empty]:=by kernel_rfl
theorem fY:bn prog 187=some [.nilFunc, .nilFunc, .int .i64 0, .int .i64 0]:=by kernel_rfl
theorem z2:bn prog 2=some [.int .i64 0]:=by kernel_rfl
theorem z3:bn prog 3=some [.int .i64 0]:=by kernel_rfl
theorem z33:bn prog 33=some [.slice none 0 0, .slice none 0 0, .slice none 0 0, .slice none 0 0, .slice none 0 0, .slice none 0 0, .slice none 0 0, .int .i64 0, .slice none 0 0, .slice none 0 0, .slice none 0 0]:=by kernel_rfl
theorem z35:bn prog 35=some [.nilFunc]:=by kernel_rfl
theorem z4:bn prog 4=some [.bool false]:=by kernel_rfl
theorem z42:bn prog 42=some [.int .i64 0, .int .i64 0]:=by kernel_rfl
theorem z43:bn prog 43=some [.int .i64 0, .int .i64 0, .int .i64 0, .int .i64 0, .int .i64 0, .int .i64 0, .int .i64 0, .int .i64 0, .int .i64 0, .int .i64 0, .int .i64 0, .int .i64 0, .int .i64 0, .int .i64 0, .int .i64 0, .int .i64 0, .int .i64 0, .int .i64 0, .int .i64 0, .int .i64 0, .int .i64 0, .int .i64 0, .int .i64 0, .int .i64 0, .int .i64 0, .int .i64 0, .int .i64 0, .int .i64 0, .int .i64 0, .int .i64 0, .int .i64 0, .int .i64 0]:=by kernel_rfl
theorem z45:bn prog 45=some [.bool false, .int .i64 0, .int .i64 0, .int .i64 0, .int .i64 0, .int .i64 0, .int .i64 0, .int .i64 0, .int .i64 0, .int .i64 0, .int .i64 0, .int .i64 0, .int .i64 0, .int .i64 0, .int .i64 0, .int .i64 0, .int .i64 0, .int .i64 0, .int .i64 0, .int .i64 0, .int .i64 0, .int .i64 0, .int .i64 0, .int .i64 0, .int .i64 0, .int .i64 0, .int .i64 0, .int .i64 0, .int .i64 0, .int .i64 0, .int .i64 0, .int .i64 0, .int .i64 0]:=by kernel_rfl
theorem z48:bn prog 48=some [.int .i64 0, .int .i64 0, .slice none 0 0, .int .i64 0]:=by kernel_rfl
theorem z50:bn prog 50=some [.slice none 0 0]:=by kernel_rfl
theorem z53:bn prog 53=some [.int .i64 0, .int .i64 0, .int .i64 0, .bool false, .slice none 0 0]:=by kernel_rfl
theorem z59:bn prog 59=some [.int .u8 0, .int .i64 0, .int .i64 0, .int .i64 0, .int .i64 0, .int .i64 0, .int .i64 0]:=by kernel_rfl
theorem z68:bn prog 68=some [.slice none 0 0, .slice none 0 0, .slice none 0 0, .slice none 0 0, .slice none 0 0, .slice none 0 0, .slice none 0 0, .int .i64 0, .slice none 0 0, .slice none 0 0, .slice none 0 0, .slice none 0 0, .slice none 0 0, .slice none 0 0, .int .i64 0, .int .i64 0, .int .i64 0, .int .i64 0, .int .i64 0, .int .i64 0, .int .i64 0, .int .i64 0, .int .i64 0, .int .i64 0, .int .i64 0, .int .i64 0, .int .i64 0, .int .i64 0, .int .i64 0, .int .i64 0, .int .i64 0, .int .i64 0, .int .i64 0, .int .i64 0, .int .i64 0, .int .i64 0, .int .i64 0, .int .i64 0, .int .i64 0, .int .i64 0, .int .i64 0, .int .i64 0, .int .i64 0, .int .i64 0, .int .i64 0, .int .i64 0, .int .i64 0, .map none, .map none]:=by kernel_rfl
theorem z71:bn prog 71=some [.slice none 0 0]:=by kernel_rfl
theorem z74:bn prog 74=some [.slice none 0 0, .slice none 0 0]:=by kernel_rfl
theorem z80:bn prog 80=some [.int .i64 0, .int .i64 0, .int .i64 0]:=by kernel_rfl
theorem z87:bn prog 87=some [.int .i64 0, .slice none 0 0]:=by kernel_rfl
theorem z9:bn prog 9=some [.string ByteArray.empty]:=by kernel_rfl
theorem z92:bn prog 92=some [.int .u8 0, .int .u8 0, .int .i64 0, .int .i64 0, .int .i64 0, .int .i64 0, .int .i64 0, .int .i64 0, .slice none 0 0]:=by kernel_rfl
theorem z95:bn prog 95=some [.int .i64 0, .int .u8 0]:=by kernel_rfl
theorem z98:bn prog 98=some [.slice none 0 0, .int .i64 0, .int .i64 0]:=by kernel_rfl
instance:Tys prog:=⟨⟨(.nd 71 false (.nd 35 false (.nd 25 false (.nd 9 false (.nd 4 false (.nd 3 false (.nd 2 false .lf .lf) .lf) (.nd 5 false .lf .lf)) (.nd 23 false (.nd 22 false .lf .lf) (.nd 24 false .lf .lf))) (.nd 29 false (.nd 27 false (.nd 26 false .lf .lf) (.nd 28 false .lf .lf)) (.nd 31 false (.nd 30 false .lf .lf) (.nd 33 true .lf .lf)))) (.nd 50 false (.nd 43 true (.nd 37 false (.nd 36 false .lf .lf) (.nd 42 true .lf .lf)) (.nd 46 false (.nd 45 true .lf .lf) (.nd 48 true .lf .lf))) (.nd 59 true (.nd 53 true (.nd 51 false .lf .lf) (.nd 57 false .lf .lf)) (.nd 65 false (.nd 64 false .lf .lf) (.nd 66 false .lf .lf))))) (.nd 115 true (.nd 93 false (.nd 87 true (.nd 80 true (.nd 74 true .lf .lf) (.nd 85 false .lf .lf)) (.nd 90 false (.nd 89 false .lf .lf) (.nd 92 true .lf .lf))) (.nd 100 false (.nd 96 false (.nd 95 true .lf .lf) (.nd 98 true .lf .lf)) (.nd 104 true (.nd 102 true .lf .lf) (.nd 106 true .lf .lf)))) (.nd 176 true (.nd 134 true (.nd 128 false (.nd 123 true .lf .lf) (.nd 130 true .lf .lf)) (.nd 148 false (.nd 141 true .lf .lf) (.nd 160 false .lf .lf))) (.nd 187 true (.nd 184 false (.nd 183 false .lf .lf) (.nd 185 false .lf .lf)) (.nd 202 false (.nd 200 false .lf .lf) (.nd 243 false .lf .lf)))))),
 (.nd 74 2 (.nd 45 33 (.nd 33 11 (.nd 4 1 (.nd 3 1 (.nd 2 1 .lf .lf) .lf) (.nd 9 1 .lf .lf)) (.nd 42 2 (.nd 37 1 .lf .lf) (.nd 43 32 .lf .lf))) (.nd 59 7 (.nd 53 5 (.nd 50 1 (.nd 48 4 .lf .lf) .lf) (.nd 57 1 .lf .lf)) (.nd 66 1 (.nd 65 1 .lf .lf) (.nd 71 1 .lf .lf)))) (.nd 104 4 (.nd 92 9 (.nd 89 1 (.nd 87 2 (.nd 80 3 .lf .lf) .lf) (.nd 90 1 .lf .lf)) (.nd 98 3 (.nd 95 2 .lf .lf) (.nd 102 5 .lf .lf))) (.nd 134 3 (.nd 123 2 (.nd 115 11 (.nd 106 3 .lf .lf) .lf) (.nd 130 3 .lf .lf)) (.nd 176 2 (.nd 141 2 .lf .lf) (.nd 187 4 .lf .lf))))),
 (.nd 5568 (0,1,false) (.nd 3395 (3,1,false) (.nd 2688 (0,1,false) (.nd 2117 (5,1,false) (.nd 2114 (2,1,false) (.nd 2113 (1,1,false) (.nd 2112 (0,1,false) .lf .lf) .lf) (.nd 2116 (4,1,false) (.nd 2115 (3,1,false) .lf .lf) .lf)) (.nd 2120 (8,1,false) (.nd 2119 (7,1,false) (.nd 2118 (6,1,false) .lf .lf) .lf) (.nd 2122 (10,1,false) (.nd 2121 (9,1,false) .lf .lf) .lf))) (.nd 3074 (2,1,false) (.nd 2881 (1,32,true) (.nd 2880 (0,1,false) (.nd 2689 (1,1,false) .lf .lf) .lf) (.nd 3073 (1,1,false) (.nd 3072 (0,1,false) .lf .lf) .lf)) (.nd 3393 (1,1,false) (.nd 3392 (0,1,false) (.nd 3075 (3,1,false) .lf .lf) .lf) (.nd 3394 (2,1,false) .lf .lf)))) (.nd 4354 (12,1,false) (.nd 3780 (4,1,false) (.nd 3777 (1,1,false) (.nd 3776 (0,1,false) (.nd 3396 (4,1,false) .lf .lf) .lf) (.nd 3779 (3,1,false) (.nd 3778 (2,1,false) .lf .lf) .lf)) (.nd 4352 (0,11,true) (.nd 3782 (6,1,false) (.nd 3781 (5,1,false) .lf .lf) .lf) (.nd 4353 (11,1,false) .lf .lf))) (.nd 4736 (0,1,false) (.nd 4357 (15,32,true) (.nd 4356 (14,1,false) (.nd 4355 (13,1,false) .lf .lf) .lf) (.nd 4359 (48,1,false) (.nd 4358 (47,1,false) .lf .lf) .lf)) (.nd 5121 (1,1,false) (.nd 5120 (0,1,false) (.nd 4737 (1,1,false) .lf .lf) .lf) (.nd 5122 (2,1,false) .lf .lf))))) (.nd 6657 (1,1,false) (.nd 6080 (0,1,false) (.nd 5892 (4,1,false) (.nd 5889 (1,1,false) (.nd 5888 (0,1,false) (.nd 5569 (1,1,false) .lf .lf) .lf) (.nd 5891 (3,1,false) (.nd 5890 (2,1,false) .lf .lf) .lf)) (.nd 5895 (7,1,false) (.nd 5894 (6,1,false) (.nd 5893 (5,1,false) .lf .lf) .lf) (.nd 5896 (8,1,false) .lf .lf))) (.nd 6529 (1,1,false) (.nd 6273 (1,1,false) (.nd 6272 (0,1,false) (.nd 6081 (1,1,false) .lf .lf) .lf) (.nd 6528 (0,1,false) (.nd 6274 (2,1,false) .lf .lf) .lf)) (.nd 6532 (4,1,false) (.nd 6531 (3,1,false) (.nd 6530 (2,1,false) .lf .lf) .lf) (.nd 6656 (0,1,false) .lf .lf)))) (.nd 8576 (0,1,false) (.nd 7360 (0,11,true) (.nd 6784 (0,1,false) (.nd 6659 (3,1,false) (.nd 6658 (2,1,false) .lf .lf) .lf) (.nd 6786 (2,1,false) (.nd 6785 (1,1,false) .lf .lf) .lf)) (.nd 8320 (0,1,false) (.nd 7873 (1,1,false) (.nd 7872 (0,1,false) .lf .lf) .lf) (.nd 8322 (2,1,false) .lf .lf))) (.nd 11265 (1,1,false) (.nd 9600 (0,11,true) (.nd 8578 (2,1,false) (.nd 8577 (1,1,false) .lf .lf) .lf) (.nd 9602 (12,1,false) (.nd 9601 (11,1,false) .lf .lf) .lf)) (.nd 11970 (2,1,false) (.nd 11969 (1,1,false) (.nd 11968 (0,1,false) .lf .lf) .lf) (.nd 11971 (3,1,false) .lf .lf)))))),
 (.nd 57 .u8 (.nd 3 .i64 (.nd 2 .i64 .lf .lf) (.nd 5 .u8 .lf .lf)) (.nd 179 .u8 (.nd 90 .u8 .lf .lf) (.nd 214 .u64 .lf .lf)))⟩,by kernel_rfl⟩
end Go.Proofs.YtkbpoeellidgeaaGreatDoor
