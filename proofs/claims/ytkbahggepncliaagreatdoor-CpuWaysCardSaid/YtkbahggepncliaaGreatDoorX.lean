/- Part of the proof. -/
import Derived.Lib.RowBridge
import Derived.Test.YtkbahggepncliaaGreatDoorProg
import Derived.KernelRfl
import Derived.Shelf.Slices.In.SortNone
import Derived.Shelf.Slices.CompactI
import Derived.Shelf.Sort.Plain
import Derived.Test.YtkbahggepncliaaGreatDoorO
set_option linter.unusedVariables false
set_option linter.unusedSimpArgs false
set_option linter.unusedSectionVars false
set_option linter.unnecessarySimpa false
set_option maxHeartbeats 4000000
set_option maxRecDepth 100000
namespace Go.Proofs.YtkbahggepncliaaGreatDoor
open Tryz
open Go Go.Sk
theorem a101:aX prog 101=some true:=by kernel_rfl
theorem sZ:aX prog 179=some true:=by kernel_rfl
theorem a2:aX prog 2=some false:=by kernel_rfl
theorem a224:aX prog 224=some true:=by kernel_rfl
theorem qi:aX prog 233=some true:=by kernel_rfl
theorem a24:aX prog 24=some false:=by kernel_rfl
theorem a3:aX prog 3=some false:=by kernel_rfl
theorem a30:aX prog 30=some false:=by kernel_rfl
theorem a31:aX prog 31=some false:=by kernel_rfl
theorem a38:aX prog 38=some true:=by kernel_rfl
theorem a4:aX prog 4=some false:=by kernel_rfl
theorem a41:aX prog 41=some true:=by kernel_rfl
theorem a42:aX prog 42=some false:=by kernel_rfl
theorem a47:aX prog 47=some false:=by kernel_rfl
theorem a5:aX prog 5=some false:=by kernel_rfl
theorem a50:aX prog 50=some false:=by kernel_rfl
theorem a96:aX prog 96=some false:=by kernel_rfl
theorem ml:aL prog 136=some (1,false):=by kernel_rfl
theorem qf:aL prog 153=some (5,true):=by kernel_rfl
theorem nD:aL prog 162=some (9,true):=by kernel_rfl
theorem e23:aL prog 23=some (7,true):=by kernel_rfl
theorem e25:aL prog 25=some (2,true):=by kernel_rfl
theorem sQ:aL prog 261=some (1,false):=by kernel_rfl
theorem e28:aL prog 28=some (4,true):=by kernel_rfl
theorem e29:aL prog 29=some (4,true):=by kernel_rfl
theorem e30:aL prog 30=some (3,true):=by kernel_rfl
theorem e31:aL prog 31=some (3,true):=by kernel_rfl
theorem e32:aL prog 32=some (1,false):=by kernel_rfl
theorem e33:aL prog 33=some (5,true):=by kernel_rfl
theorem e34:aL prog 34=some (3,true):=by kernel_rfl
theorem e35:aL prog 35=some (2,true):=by kernel_rfl
theorem e36:aL prog 36=some (2,true):=by kernel_rfl
theorem e42:aL prog 42=some (1,false):=by kernel_rfl
theorem e50:aL prog 50=some (6,true):=by kernel_rfl
theorem e62:aL prog 62=some (1,false):=by kernel_rfl
theorem e71:aL prog 71=some (23,true):=by kernel_rfl
theorem e96:aL prog 96=some (1,false):=by kernel_rfl
theorem f101_4:cW prog 101 4=some (4,1,false):=by kernel_rfl
theorem l136:cS prog 136=some (24,1,8):=by kernel_rfl
theorem l23:cS prog 23=some (45,7,56):=by kernel_rfl
theorem l261:cS prog 261=some (9,1,16):=by kernel_rfl
theorem l28:cS prog 28=some (27,4,48):=by kernel_rfl
theorem l29:cS prog 29=some (108,4,32):=by kernel_rfl
theorem l33:cS prog 33=some (101,5,56):=by kernel_rfl
theorem l35:cS prog 35=some (164,2,32):=by kernel_rfl
theorem l42:cS prog 42=some (2,1,8):=by kernel_rfl
theorem l50:cS prog 50=some (58,6,48):=by kernel_rfl
theorem l62:cS prog 62=some (42,1,24):=by kernel_rfl
theorem l96:cS prog 96=some (3,1,8):=by kernel_rfl
theorem p101:bD prog 101=some [(0,1),(1,1),(2,1),(3,1),(4,1)]:=by kernel_rfl
theorem p108:bD prog 108=some [(0,1),(1,1),(2,1),(3,1)]:=by kernel_rfl
theorem p116:bD prog 116=some [(0,1),(1,19),(20,1)]:=by kernel_rfl
theorem p118:bD prog 118=some [(0,1)]:=by kernel_rfl
theorem p135:bD prog 135=some [(0,11)]:=by kernel_rfl
theorem p164:bD prog 164=some [(0,1),(1,1)]:=by kernel_rfl
theorem p168:bD prog 168=some [(0,1),(1,1)]:=by kernel_rfl
theorem p182:bD prog 182=some [(0,11),(11,1),(12,1)]:=by kernel_rfl
theorem p224:bD prog 224=some [(0,1),(1,1)]:=by kernel_rfl
theorem p7:bD prog 233=some [(0,1),(1,1),(2,1),(3,1)]:=by kernel_rfl
theorem p27:bD prog 27=some [(0,1),(1,1),(2,1),(3,1)]:=by kernel_rfl
theorem p38:bD prog 38=some [(0,1),(1,1),(2,1),(3,1),(4,1),(5,1),(6,1),(7,1),(8,1),(9,1),(10,1)]:=by kernel_rfl
theorem p41:bD prog 41=some [(0,16),(16,1),(17,1),(18,1)]:=by kernel_rfl
theorem p45:bD prog 45=some [(0,1),(1,1),(2,1),(3,1),(4,1),(5,1),(6,1)]:=by kernel_rfl
theorem p58:bD prog 58=some [(0,1),(1,1),(2,1),(3,1),(4,1),(5,1)]:=by kernel_rfl
theorem p90:bD prog 90=some [(0,1),(1,1),(2,1),(3,1),(4,1),(5,1),(6,1)]:=by kernel_rfl
theorem q41:jY prog 41=some [.int .i64, .int .i64, .int .i64, .int .i64, .int .i64, .int .i64, .int .i64, .int .i64, .int .i64, .int .i64, .int .i64, .int .i64, .int .i64, .int .i64, .int .i64, .int .i64, .int .i64, .int .i64, .int .i64]:=by kernel_rfl
theorem q45:jY prog 45=some [.int .u8, .int .i64, .int .i64, .int .i64, .int .i64, .int .i64, .int .i64]:=by kernel_rfl
theorem q58:jY prog 58=some [.int .i64, .int .i64, .int .u8, .int .i64, .int .i64, .int .i64]:=by kernel_rfl
theorem ar259:gd prog 259=some (57,2,true):=by kernel_rfl
theorem pp:gd prog 277=some (256,1,false):=by kernel_rfl
theorem dG:gd prog 39=some (16,1,false):=by kernel_rfl
theorem mY:bz prog 101=some 5:=by kernel_rfl
theorem t8:bz prog 108=some 4:=by kernel_rfl
theorem s118:bz prog 118=some 1:=by kernel_rfl
theorem s135:bz prog 135=some 11:=by kernel_rfl
theorem s140:bz prog 140=some 3:=by kernel_rfl
theorem s146:bz prog 146=some 1:=by kernel_rfl
theorem s155:bz prog 155=some 3:=by kernel_rfl
theorem s158:bz prog 158=some 5:=by kernel_rfl
theorem s164:bz prog 164=some 2:=by kernel_rfl
theorem s168:bz prog 168=some 2:=by kernel_rfl
theorem s173:bz prog 173=some 2:=by kernel_rfl
theorem s177:bz prog 177=some 1:=by kernel_rfl
theorem jL:bz prog 179=some 9:=by kernel_rfl
theorem s189:bz prog 189=some 3:=by kernel_rfl
theorem s192:bz prog 192=some 2:=by kernel_rfl
theorem s2:bz prog 2=some 1:=by kernel_rfl
theorem pY:bz prog 224=some 2:=by kernel_rfl
theorem d5:bz prog 233=some 4:=by kernel_rfl
theorem s27:bz prog 27=some 4:=by kernel_rfl
theorem s3:bz prog 3=some 1:=by kernel_rfl
theorem s38:bz prog 38=some 11:=by kernel_rfl
theorem s4:bz prog 4=some 1:=by kernel_rfl
theorem s41:bz prog 41=some 19:=by kernel_rfl
theorem s42:bz prog 42=some 1:=by kernel_rfl
theorem s45:bz prog 45=some 7:=by kernel_rfl
theorem s47:bz prog 47=some 1:=by kernel_rfl
theorem s50:bz prog 50=some 1:=by kernel_rfl
theorem s58:bz prog 58=some 6:=by kernel_rfl
theorem s9:bz prog 9=some 1:=by kernel_rfl
theorem s96:bz prog 96=some 1:=by kernel_rfl
theorem lw:aG prog 101=some [.int .i64 0, .int .i64 0, .int .i64 0, .bool false, .slice none 0 0]:=by kernel_rfl
theorem pJ:aG prog 108=some [.int .i64 0, .int .i64 0, .int .i64 0, .bool false]:=by kernel_rfl
theorem z116:aG prog 116=some [.pointer none, .int .i64 0, .int .i64 0, .int .i64 0, .int .i64 0, .int .i64 0, .int .i64 0, .int .i64 0, .int .i64 0, .int .i64 0, .int .i64 0, .int .i64 0, .int .i64 0, .int .i64 0, .int .i64 0, .int .i64 0, .int .i64 0, .int .i64 0, .int .i64 0, .int .i64 0, .slice none 0 0]:=by kernel_rfl
theorem tJ:aG prog 118=some [.int .i64 0]:=by kernel_rfl
theorem z135:aG prog 135=some [.slice none 0 0, .slice none 0 0, .slice none 0 0, .slice none 0 0, .slice none 0 0, .slice none 0 0, .slice none 0 0, .int .i64 0, .slice none 0 0, .slice none 0 0, .slice none 0 0]:=by kernel_rfl
theorem z140:aG prog 140=some [.int .i64 0, .int .i64 0, .int .i64 0]:=by kernel_rfl
theorem z155:aG prog 155=some [.slice none 0 0, .int .i64 0, .int .i64 0]:=by kernel_rfl
theorem z158:aG prog 158=some [.int .u8 0, .int .i64 0, .int .i64 0, .int .i64 0, .int .i64 0]:=by kernel_rfl
theorem tI:aG prog 164=some [.int .i64 0, .slice none 0 0]:=by kernel_rfl
theorem z168:aG prog 168=some [.int .i64 0, .int .i64 0]:=by kernel_rfl
theorem z173:aG prog 173=some [.slice none 0 0, .slice none 0 0]:=by kernel_rfl
theorem tH:aG prog 179=some [.int .u8 0, .int .u8 0, .int .i64 0, .int .i64 0, .int .i64 0, .int .i64 0, .int .i64 0, .int .i64 0, .slice none 0 0]:=by kernel_rfl
theorem z182:aG prog 182=some [.slice none 0 0, .slice none 0 0, .slice none 0 0, .slice none 0 0, .slice none 0 0, .slice none 0 0, .slice none 0 0, .int .i64 0, .slice none 0 0, .slice none 0 0, .slice none 0 0, .int .i64 0, .int .i64 0]:=by kernel_rfl
theorem z189:aG prog 189=some [.int .i64 0, .int .i64 0, .int .i64 0]:=by kernel_rfl
theorem z192:aG prog 192=some [.int .i64 0, .int .u8 0]:=by kernel_rfl
theorem z2:aG prog 2=some [.int .i64 0]:=by kernel_rfl
theorem rW:aG prog 224=some [.string ByteArray.empty, .string ByteArray.empty]:=by kernel_rfl
theorem e9:aG prog 233=some [.nilFunc, .nilFunc, .int .i64 0, .int .i64 0]:=by kernel_rfl
theorem z24:aG prog 24=some [.nilFunc]:=by kernel_rfl
theorem z27:aG prog 27=some [.int .i64 0, .int .i64 0, .slice none 0 0, .int .i64 0]:=by kernel_rfl
theorem z3:aG prog 3=some [.int .i64 0]:=by kernel_rfl
theorem z38:aG prog 38=some [.slice none 0 0, .slice none 0 0, .slice none 0 0, .slice none 0 0, .slice none 0 0, .slice none 0 0, .slice none 0 0, .int .i64 0, .slice none 0 0, .slice none 0 0, .slice none 0 0]:=by kernel_rfl
theorem z39:aG prog 39=some [.int .i64 0, .int .i64 0, .int .i64 0, .int .i64 0, .int .i64 0, .int .i64 0, .int .i64 0, .int .i64 0, .int .i64 0, .int .i64 0, .int .i64 0, .int .i64 0, .int .i64 0, .int .i64 0, .int .i64 0, .int .i64 0]:=by kernel_rfl
theorem z4:aG prog 4=some [.bool false]:=by kernel_rfl
theorem z41:aG prog 41=some [.int .i64 0, .int .i64 0, .int .i64 0, .int .i64 0, .int .i64 0, .int .i64 0, .int .i64 0, .int .i64 0, .int .i64 0, .int .i64 0, .int .i64 0, .int .i64 0, .int .i64 0, .int .i64 0, .int .i64 0, .int .i64 0, .int .i64 0, .int .i64 0, .int .i64 0]:=by kernel_rfl
theorem z42:aG prog 42=some [.slice none 0 0]:=by kernel_rfl
theorem z45:aG prog 45=some [.int .u8 0, .int .i64 0, .int .i64 0, .int .i64 0, .int .i64 0, .int .i64 0, .int .i64 0]:=by kernel_rfl
theorem z46:aG prog 46=some [.pointer none]:=by kernel_rfl
theorem z47:aG prog 47=some [.int .i64 0]:=by kernel_rfl
theorem z50:aG prog 50=some [.slice none 0 0]:=by kernel_rfl
theorem z58:aG prog 58=some [.int .i64 0, .int .i64 0, .int .u8 0, .int .i64 0, .int .i64 0, .int .i64 0]:=by kernel_rfl
theorem z9:aG prog 9=some [.string ByteArray.empty]:=by kernel_rfl
theorem z90:aG prog 90=some [.slice none 0 0, .slice none 0 0, .slice none 0 0, .int .i64 0, .slice none 0 0, .slice none 0 0, .slice none 0 0]:=by kernel_rfl
theorem z96:aG prog 96=some [.slice none 0 0]:=by kernel_rfl
instance:Tys prog:=⟨⟨(.nd 101 true (.nd 35 false (.nd 27 true (.nd 9 false (.nd 4 false (.nd 3 false (.nd 2 false .lf .lf) .lf) (.nd 5 false .lf .lf)) (.nd 24 false (.nd 23 false .lf .lf) (.nd 25 false .lf .lf))) (.nd 31 false (.nd 29 false (.nd 28 false .lf .lf) (.nd 30 false .lf .lf)) (.nd 33 false (.nd 32 false .lf .lf) (.nd 34 false .lf .lf)))) (.nd 47 false (.nd 42 false (.nd 38 true (.nd 36 false .lf .lf) (.nd 41 true .lf .lf)) (.nd 45 true (.nd 43 false .lf .lf) (.nd 46 false .lf .lf))) (.nd 62 false (.nd 56 false (.nd 50 false .lf .lf) (.nd 58 true .lf .lf)) (.nd 73 true (.nd 64 true .lf .lf) (.nd 96 false .lf .lf))))) (.nd 177 false (.nd 153 false (.nd 128 false (.nd 123 true (.nd 114 false (.nd 108 true .lf .lf) .lf) (.nd 125 false .lf .lf)) (.nd 140 true (.nd 135 true .lf .lf) (.nd 146 false .lf .lf))) (.nd 162 false (.nd 156 false (.nd 155 true .lf .lf) (.nd 158 true .lf .lf)) (.nd 168 true (.nd 164 true .lf .lf) (.nd 173 true .lf .lf)))) (.nd 224 true (.nd 190 false (.nd 180 false (.nd 179 true .lf .lf) (.nd 189 true .lf .lf)) (.nd 195 false (.nd 192 true .lf .lf) (.nd 209 false .lf .lf))) (.nd 239 false (.nd 231 false (.nd 230 false .lf .lf) (.nd 233 true .lf .lf)) (.nd 245 true (.nd 241 true .lf .lf) (.nd 264 false .lf .lf)))))),
 (.nd 108 4 (.nd 43 1 (.nd 23 1 (.nd 4 1 (.nd 3 1 (.nd 2 1 .lf .lf) .lf) (.nd 9 1 .lf .lf)) (.nd 41 19 (.nd 38 11 (.nd 27 4 .lf .lf) .lf) (.nd 42 1 .lf .lf))) (.nd 62 1 (.nd 50 1 (.nd 47 1 (.nd 45 7 .lf .lf) .lf) (.nd 58 6 .lf .lf)) (.nd 96 1 (.nd 73 23 (.nd 64 14 .lf .lf) .lf) (.nd 101 5 .lf .lf)))) (.nd 173 2 (.nd 146 1 (.nd 135 11 (.nd 123 35 (.nd 118 1 .lf .lf) .lf) (.nd 140 3 .lf .lf)) (.nd 164 2 (.nd 158 5 (.nd 155 3 .lf .lf) .lf) (.nd 168 2 .lf .lf))) (.nd 224 2 (.nd 189 3 (.nd 179 9 (.nd 177 1 .lf .lf) .lf) (.nd 192 2 .lf .lf)) (.nd 241 3 (.nd 233 4 .lf .lf) (.nd 245 3 .lf .lf))))),
 (.nd 6915 (3,1,false) (.nd 3714 (2,1,false) (.nd 2441 (9,1,false) (.nd 2434 (2,1,false) (.nd 1731 (3,1,false) (.nd 1729 (1,1,false) (.nd 1728 (0,1,false) .lf .lf) (.nd 1730 (2,1,false) .lf .lf)) (.nd 2433 (1,1,false) (.nd 2432 (0,1,false) .lf .lf) .lf)) (.nd 2438 (6,1,false) (.nd 2436 (4,1,false) (.nd 2435 (3,1,false) .lf .lf) (.nd 2437 (5,1,false) .lf .lf)) (.nd 2440 (8,1,false) (.nd 2439 (7,1,false) .lf .lf) .lf))) (.nd 2881 (1,1,false) (.nd 2626 (17,1,false) (.nd 2624 (0,16,true) (.nd 2442 (10,1,false) .lf .lf) (.nd 2625 (16,1,false) .lf .lf)) (.nd 2880 (0,1,false) (.nd 2627 (18,1,false) .lf .lf) .lf)) (.nd 2884 (4,1,false) (.nd 2883 (3,1,false) (.nd 2882 (2,1,false) .lf .lf) .lf) (.nd 2886 (6,1,false) (.nd 2885 (5,1,false) .lf .lf) .lf)))) (.nd 5762 (2,1,false) (.nd 4673 (1,19,true) (.nd 4098 (12,1,false) (.nd 4096 (0,11,true) (.nd 3715 (3,1,false) .lf .lf) (.nd 4097 (11,1,false) .lf .lf)) (.nd 4672 (0,1,false) (.nd 4099 (13,1,false) .lf .lf) .lf)) (.nd 4676 (22,1,false) (.nd 4675 (21,1,false) (.nd 4674 (20,1,false) .lf .lf) .lf) (.nd 5761 (1,1,false) (.nd 5760 (0,1,false) .lf .lf) .lf))) (.nd 6466 (2,1,false) (.nd 5766 (6,1,false) (.nd 5764 (4,1,false) (.nd 5763 (3,1,false) .lf .lf) (.nd 5765 (5,1,false) .lf .lf)) (.nd 6465 (1,1,false) (.nd 6464 (0,1,false) .lf .lf) .lf)) (.nd 6912 (0,1,false) (.nd 6468 (4,1,false) (.nd 6467 (3,1,false) .lf .lf) .lf) (.nd 6914 (2,1,false) (.nd 6913 (1,1,false) .lf .lf) .lf))))) (.nd 11457 (1,1,false) (.nd 9920 (0,1,false) (.nd 7874 (33,1,false) (.nd 7552 (0,1,false) (.nd 7425 (1,19,true) (.nd 7424 (0,1,false) .lf .lf) (.nd 7426 (20,1,false) .lf .lf)) (.nd 7873 (14,19,true) (.nd 7872 (0,14,true) .lf .lf) .lf)) (.nd 8960 (0,1,false) (.nd 8640 (0,11,true) (.nd 7875 (34,1,false) .lf .lf) .lf) (.nd 8962 (2,1,false) (.nd 8961 (1,1,false) .lf .lf) .lf))) (.nd 10116 (4,1,false) (.nd 10113 (1,1,false) (.nd 9922 (2,1,false) (.nd 9921 (1,1,false) .lf .lf) (.nd 10112 (0,1,false) .lf .lf)) (.nd 10115 (3,1,false) (.nd 10114 (2,1,false) .lf .lf) .lf)) (.nd 11072 (0,1,false) (.nd 10497 (1,1,false) (.nd 10496 (0,1,false) .lf .lf) .lf) (.nd 11456 (0,1,false) (.nd 11073 (1,1,false) .lf .lf) .lf)))) (.nd 12098 (2,1,false) (.nd 11464 (8,1,false) (.nd 11461 (5,1,false) (.nd 11459 (3,1,false) (.nd 11458 (2,1,false) .lf .lf) (.nd 11460 (4,1,false) .lf .lf)) (.nd 11463 (7,1,false) (.nd 11462 (6,1,false) .lf .lf) .lf)) (.nd 11650 (12,1,false) (.nd 11649 (11,1,false) (.nd 11648 (0,11,true) .lf .lf) .lf) (.nd 12097 (1,1,false) (.nd 12096 (0,1,false) .lf .lf) .lf))) (.nd 14915 (3,1,false) (.nd 14912 (0,1,false) (.nd 12289 (1,1,false) (.nd 12288 (0,1,false) .lf .lf) (.nd 14337 (1,1,false) .lf .lf)) (.nd 14914 (2,1,false) (.nd 14913 (1,1,false) .lf .lf) .lf)) (.nd 15680 (0,1,false) (.nd 15426 (2,1,false) (.nd 15424 (0,1,false) .lf .lf) .lf) (.nd 15682 (2,1,false) (.nd 15681 (1,1,false) .lf .lf) .lf)))))),
 (.nd 54 .u16 (.nd 5 .u8 (.nd 3 .i64 (.nd 2 .i64 .lf .lf) .lf) (.nd 43 .u8 .lf .lf)) (.nd 146 .u8 (.nd 56 .u8 .lf .lf) (.nd 199 .u64 .lf .lf)))⟩,by kernel_rfl⟩
open Go
def mb:Go.Shelf.Ren:=⟨fun|189=>108|125=>148|257=>147|128=>172|129=>173|294=>163|295=>164|296=>165|297=>166|298=>167|299=>168|216=>169|300=>170|301=>171|328=>202|329=>203|330=>204|331=>205|332=>206|215=>207|343=>218|n=>n,fun|28=>96|3=>3|46=>216|0=>0|51=>256|53=>199|4=>4|183=>250|182=>249|131=>159|5=>5|9=>9|218=>272|222=>264|228=>280|229=>281|n=>n,fun|n=>n⟩
theorem nr:Go.Proofs.Lays.n189 prog mb where
 mixed:=by kernel_rfl
 f125:=func148.trans (congrArg some kR)
 f128:=func172.trans (congrArg some kR)
 f129:=func173.trans (congrArg some kR)
 f189:=func108.trans (congrArg some kR)
 f215:=func207.trans (congrArg some kR)
 f216:=func169.trans (congrArg some kR)
 f257:=func147.trans (congrArg some kR)
 f294:=func163.trans (congrArg some kR)
 f295:=func164.trans (congrArg some kR)
 f296:=func165.trans (congrArg some kR)
 f297:=func166.trans (congrArg some kR)
 f298:=func167.trans (congrArg some kR)
 f299:=func168.trans (congrArg some kR)
 f300:=func170.trans (congrArg some kR)
 f301:=func171.trans (congrArg some kR)
 f328:=func202.trans (congrArg some kR)
 f329:=func203.trans (congrArg some kR)
 f330:=func204.trans (congrArg some kR)
 f331:=func205.trans (congrArg some kR)
 f332:=func206.trans (congrArg some kR)
 f343:=func218.trans (congrArg some kR)
 t0:=underlying0
 a0:=Tryz.isAgg0
 z0:=Tryz.sizeOf0
 v0:=Tryz.zeroValue0
 t3:=underlying3
 a3:=Tryz.isAgg3
 z3:=Tryz.sizeOf3
 v3:=Tryz.zeroValue3
 t4:=underlying4
 a4:=Tryz.isAgg4
 z4:=Tryz.sizeOf4
 v4:=Tryz.zeroValue4
 t5:=underlying5
 a5:=Tryz.isAgg5
 z5:=Tryz.sizeOf5
 v5:=Tryz.zeroValue5
 t9:=underlying9
 a9:=Tryz.isAgg9
 z9:=Tryz.sizeOf9
 v9:=Tryz.zeroValue9
 t28:=underlying96
 a28:=Tryz.isAgg96
 z28:=Tryz.sizeOf96
 v28:=Tryz.zeroValue96
 t46:=underlying216
 a46:=Tryz.isAgg216
 z46:=Tryz.sizeOf216
 v46:=Tryz.zeroValue216
 t51:=underlying256
 a51:=Tryz.isAgg256
 z51:=Tryz.sizeOf256
 v51:=Tryz.zeroValue256
 t53:=underlying199
 a53:=Tryz.isAgg199
 z53:=Tryz.sizeOf199
 v53:=Tryz.zeroValue199
 t131:=underlying159
 a131:=Tryz.isAgg159
 z131:=Tryz.sizeOf159
 v131:=Tryz.zeroValue159
 t182:=underlying249
 a182:=Tryz.isAgg249
 z182:=Tryz.sizeOf249
 v182:=Tryz.zeroValue249
 t183:=underlying250
 a183:=Tryz.isAgg250
 z183:=Tryz.sizeOf250
 v183:=Tryz.zeroValue250
 t218:=underlying272
 a218:=Tryz.isAgg272
 z218:=Tryz.sizeOf272
 v218:=Tryz.zeroValue272
 t222:=underlying264
 a222:=Tryz.isAgg264
 z222:=Tryz.sizeOf264
 v222:=Tryz.zeroValue264
 t228:=underlying280
 a228:=Tryz.isAgg280
 z228:=Tryz.sizeOf280
 v228:=Tryz.zeroValue280
 t229:=underlying281
 a229:=Tryz.isAgg281
 z229:=Tryz.sizeOf281
 v229:=Tryz.zeroValue281
def jp:Go.Shelf.Ren:=⟨fun|20=>109|n=>n,fun|22=>96|3=>3|4=>4|0=>0|n=>n,fun|n=>n⟩
theorem jh:Go.Proofs.Lays2.n20 prog jp where
 mixed:=by kernel_rfl
 f20:=func109.trans (congrArg some kR)
 t0:=underlying0
 a0:=Tryz.isAgg0
 z0:=Tryz.sizeOf0
 v0:=Tryz.zeroValue0
 t3:=underlying3
 a3:=Tryz.isAgg3
 z3:=Tryz.sizeOf3
 v3:=Tryz.zeroValue3
 t4:=underlying4
 a4:=Tryz.isAgg4
 z4:=Tryz.sizeOf4
 v4:=Tryz.zeroValue4
 t22:=underlying96
 a22:=Tryz.isAgg96
 z22:=Tryz.sizeOf96
 v22:=Tryz.zeroValue96
 i3:=by kernel_rfl
end Go.Proofs.YtkbahggepncliaaGreatDoor
