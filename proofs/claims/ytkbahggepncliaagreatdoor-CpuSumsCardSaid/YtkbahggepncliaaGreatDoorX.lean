/- Part of the proof. -/
import Derived.Lib.RowBridge
import Derived.Test.YtkbahggepncliaaGreatDoorProg
import Derived.KernelRfl
import Derived.Test.YtkbahggepncliaaGreatDoorO
set_option linter.unusedVariables false
set_option linter.unusedSimpArgs false
set_option linter.unusedSectionVars false
set_option linter.unnecessarySimpa false
set_option maxHeartbeats 4000000
set_option maxRecDepth 100000
namespace Go.Proofs.YtkbahggepncliaaGreatDoor
open Go Go.Sk
theorem a101 : aggOf Tryz.prog 101 = some true := by kernel_rfl
theorem a108 : aggOf Tryz.prog 108 = some true := by kernel_rfl
theorem a114 : aggOf Tryz.prog 114 = some false := by kernel_rfl
theorem a125 : aggOf Tryz.prog 125 = some false := by kernel_rfl
theorem a128 : aggOf Tryz.prog 128 = some false := by kernel_rfl
theorem a135 : aggOf Tryz.prog 135 = some true := by kernel_rfl
theorem a140 : aggOf Tryz.prog 140 = some true := by kernel_rfl
theorem a146 : aggOf Tryz.prog 146 = some false := by kernel_rfl
theorem a153 : aggOf Tryz.prog 153 = some false := by kernel_rfl
theorem a155 : aggOf Tryz.prog 155 = some true := by kernel_rfl
theorem a156 : aggOf Tryz.prog 156 = some false := by kernel_rfl
theorem a158 : aggOf Tryz.prog 158 = some true := by kernel_rfl
theorem a162 : aggOf Tryz.prog 162 = some false := by kernel_rfl
theorem a164 : aggOf Tryz.prog 164 = some true := by kernel_rfl
theorem a168 : aggOf Tryz.prog 168 = some true := by kernel_rfl
theorem a173 : aggOf Tryz.prog 173 = some true := by kernel_rfl
theorem a177 : aggOf Tryz.prog 177 = some false := by kernel_rfl
theorem a179 : aggOf Tryz.prog 179 = some true := by kernel_rfl
theorem a180 : aggOf Tryz.prog 180 = some false := by kernel_rfl
theorem a189 : aggOf Tryz.prog 189 = some true := by kernel_rfl
theorem a190 : aggOf Tryz.prog 190 = some false := by kernel_rfl
theorem a192 : aggOf Tryz.prog 192 = some true := by kernel_rfl
theorem a195 : aggOf Tryz.prog 195 = some false := by kernel_rfl
theorem a2 : aggOf Tryz.prog 2 = some false := by kernel_rfl
theorem a209 : aggOf Tryz.prog 209 = some false := by kernel_rfl
theorem a224 : aggOf Tryz.prog 224 = some true := by kernel_rfl
theorem a23 : aggOf Tryz.prog 23 = some false := by kernel_rfl
theorem a230 : aggOf Tryz.prog 230 = some false := by kernel_rfl
theorem a231 : aggOf Tryz.prog 231 = some false := by kernel_rfl
theorem a233 : aggOf Tryz.prog 233 = some true := by kernel_rfl
theorem a24 : aggOf Tryz.prog 24 = some false := by kernel_rfl
theorem a25 : aggOf Tryz.prog 25 = some false := by kernel_rfl
theorem a264 : aggOf Tryz.prog 264 = some false := by kernel_rfl
theorem a27 : aggOf Tryz.prog 27 = some true := by kernel_rfl
theorem a28 : aggOf Tryz.prog 28 = some false := by kernel_rfl
theorem a29 : aggOf Tryz.prog 29 = some false := by kernel_rfl
theorem a3 : aggOf Tryz.prog 3 = some false := by kernel_rfl
theorem a30 : aggOf Tryz.prog 30 = some false := by kernel_rfl
theorem a31 : aggOf Tryz.prog 31 = some false := by kernel_rfl
theorem a32 : aggOf Tryz.prog 32 = some false := by kernel_rfl
theorem a33 : aggOf Tryz.prog 33 = some false := by kernel_rfl
theorem a34 : aggOf Tryz.prog 34 = some false := by kernel_rfl
theorem a35 : aggOf Tryz.prog 35 = some false := by kernel_rfl
theorem a36 : aggOf Tryz.prog 36 = some false := by kernel_rfl
theorem a38 : aggOf Tryz.prog 38 = some true := by kernel_rfl
theorem a4 : aggOf Tryz.prog 4 = some false := by kernel_rfl
theorem a41 : aggOf Tryz.prog 41 = some true := by kernel_rfl
theorem a42 : aggOf Tryz.prog 42 = some false := by kernel_rfl
theorem a43 : aggOf Tryz.prog 43 = some false := by kernel_rfl
theorem a45 : aggOf Tryz.prog 45 = some true := by kernel_rfl
theorem a46 : aggOf Tryz.prog 46 = some false := by kernel_rfl
theorem a47 : aggOf Tryz.prog 47 = some false := by kernel_rfl
theorem a5 : aggOf Tryz.prog 5 = some false := by kernel_rfl
theorem a50 : aggOf Tryz.prog 50 = some false := by kernel_rfl
theorem a56 : aggOf Tryz.prog 56 = some false := by kernel_rfl
theorem a58 : aggOf Tryz.prog 58 = some true := by kernel_rfl
theorem a62 : aggOf Tryz.prog 62 = some false := by kernel_rfl
theorem a9 : aggOf Tryz.prog 9 = some false := by kernel_rfl
theorem a96 : aggOf Tryz.prog 96 = some false := by kernel_rfl
theorem e136 : elemOf' Tryz.prog 136 = some (1, false) := by kernel_rfl
theorem e153 : elemOf' Tryz.prog 153 = some (5, true) := by kernel_rfl
theorem e162 : elemOf' Tryz.prog 162 = some (9, true) := by kernel_rfl
theorem e23 : elemOf' Tryz.prog 23 = some (7, true) := by kernel_rfl
theorem e25 : elemOf' Tryz.prog 25 = some (2, true) := by kernel_rfl
theorem e261 : elemOf' Tryz.prog 261 = some (1, false) := by kernel_rfl
theorem e28 : elemOf' Tryz.prog 28 = some (4, true) := by kernel_rfl
theorem e29 : elemOf' Tryz.prog 29 = some (4, true) := by kernel_rfl
theorem e30 : elemOf' Tryz.prog 30 = some (3, true) := by kernel_rfl
theorem e31 : elemOf' Tryz.prog 31 = some (3, true) := by kernel_rfl
theorem e32 : elemOf' Tryz.prog 32 = some (1, false) := by kernel_rfl
theorem e33 : elemOf' Tryz.prog 33 = some (5, true) := by kernel_rfl
theorem e34 : elemOf' Tryz.prog 34 = some (3, true) := by kernel_rfl
theorem e35 : elemOf' Tryz.prog 35 = some (2, true) := by kernel_rfl
theorem e36 : elemOf' Tryz.prog 36 = some (2, true) := by kernel_rfl
theorem e42 : elemOf' Tryz.prog 42 = some (1, false) := by kernel_rfl
theorem e50 : elemOf' Tryz.prog 50 = some (6, true) := by kernel_rfl
theorem e62 : elemOf' Tryz.prog 62 = some (1, false) := by kernel_rfl
theorem e96 : elemOf' Tryz.prog 96 = some (1, false) := by kernel_rfl
theorem f101_0 : fieldOf Tryz.prog 101 0 = some (0, 1, false) := by kernel_rfl
theorem f101_1 : fieldOf Tryz.prog 101 1 = some (1, 1, false) := by kernel_rfl
theorem f101_2 : fieldOf Tryz.prog 101 2 = some (2, 1, false) := by kernel_rfl
theorem f101_3 : fieldOf Tryz.prog 101 3 = some (3, 1, false) := by kernel_rfl
theorem f101_4 : fieldOf Tryz.prog 101 4 = some (4, 1, false) := by kernel_rfl
theorem f108_0 : fieldOf Tryz.prog 108 0 = some (0, 1, false) := by kernel_rfl
theorem f108_1 : fieldOf Tryz.prog 108 1 = some (1, 1, false) := by kernel_rfl
theorem f108_2 : fieldOf Tryz.prog 108 2 = some (2, 1, false) := by kernel_rfl
theorem f108_3 : fieldOf Tryz.prog 108 3 = some (3, 1, false) := by kernel_rfl
theorem f116_0 : fieldOf Tryz.prog 116 0 = some (0, 1, false) := by kernel_rfl
theorem f116_1 : fieldOf Tryz.prog 116 1 = some (1, 19, true) := by kernel_rfl
theorem f116_2 : fieldOf Tryz.prog 116 2 = some (20, 1, false) := by kernel_rfl
theorem f118_0 : fieldOf Tryz.prog 118 0 = some (0, 1, false) := by kernel_rfl
theorem f135_0 : fieldOf Tryz.prog 135 0 = some (0, 11, true) := by kernel_rfl
theorem f140_0 : fieldOf Tryz.prog 140 0 = some (0, 1, false) := by kernel_rfl
theorem f140_1 : fieldOf Tryz.prog 140 1 = some (1, 1, false) := by kernel_rfl
theorem f140_2 : fieldOf Tryz.prog 140 2 = some (2, 1, false) := by kernel_rfl
theorem f155_0 : fieldOf Tryz.prog 155 0 = some (0, 1, false) := by kernel_rfl
theorem f155_1 : fieldOf Tryz.prog 155 1 = some (1, 1, false) := by kernel_rfl
theorem f155_2 : fieldOf Tryz.prog 155 2 = some (2, 1, false) := by kernel_rfl
theorem f158_0 : fieldOf Tryz.prog 158 0 = some (0, 1, false) := by kernel_rfl
theorem f158_1 : fieldOf Tryz.prog 158 1 = some (1, 1, false) := by kernel_rfl
theorem f158_2 : fieldOf Tryz.prog 158 2 = some (2, 1, false) := by kernel_rfl
theorem f158_3 : fieldOf Tryz.prog 158 3 = some (3, 1, false) := by kernel_rfl
theorem f158_4 : fieldOf Tryz.prog 158 4 = some (4, 1, false) := by kernel_rfl
theorem f164_0 : fieldOf Tryz.prog 164 0 = some (0, 1, false) := by kernel_rfl
theorem f164_1 : fieldOf Tryz.prog 164 1 = some (1, 1, false) := by kernel_rfl
theorem f173_0 : fieldOf Tryz.prog 173 0 = some (0, 1, false) := by kernel_rfl
theorem f173_1 : fieldOf Tryz.prog 173 1 = some (1, 1, false) := by kernel_rfl
theorem f179_0 : fieldOf Tryz.prog 179 0 = some (0, 1, false) := by kernel_rfl
theorem f179_1 : fieldOf Tryz.prog 179 1 = some (1, 1, false) := by kernel_rfl
theorem f179_2 : fieldOf Tryz.prog 179 2 = some (2, 1, false) := by kernel_rfl
theorem f179_3 : fieldOf Tryz.prog 179 3 = some (3, 1, false) := by kernel_rfl
theorem f179_4 : fieldOf Tryz.prog 179 4 = some (4, 1, false) := by kernel_rfl
theorem f179_5 : fieldOf Tryz.prog 179 5 = some (5, 1, false) := by kernel_rfl
theorem f179_6 : fieldOf Tryz.prog 179 6 = some (6, 1, false) := by kernel_rfl
theorem f179_7 : fieldOf Tryz.prog 179 7 = some (7, 1, false) := by kernel_rfl
theorem f179_8 : fieldOf Tryz.prog 179 8 = some (8, 1, false) := by kernel_rfl
theorem f182_0 : fieldOf Tryz.prog 182 0 = some (0, 11, true) := by kernel_rfl
theorem f182_1 : fieldOf Tryz.prog 182 1 = some (11, 1, false) := by kernel_rfl
theorem f182_2 : fieldOf Tryz.prog 182 2 = some (12, 1, false) := by kernel_rfl
theorem f189_0 : fieldOf Tryz.prog 189 0 = some (0, 1, false) := by kernel_rfl
theorem f189_1 : fieldOf Tryz.prog 189 1 = some (1, 1, false) := by kernel_rfl
theorem f189_2 : fieldOf Tryz.prog 189 2 = some (2, 1, false) := by kernel_rfl
theorem f192_0 : fieldOf Tryz.prog 192 0 = some (0, 1, false) := by kernel_rfl
theorem f192_1 : fieldOf Tryz.prog 192 1 = some (1, 1, false) := by kernel_rfl
theorem f224_1 : fieldOf Tryz.prog 224 1 = some (1, 1, false) := by kernel_rfl
theorem f233_0 : fieldOf Tryz.prog 233 0 = some (0, 1, false) := by kernel_rfl
theorem f233_1 : fieldOf Tryz.prog 233 1 = some (1, 1, false) := by kernel_rfl
theorem f233_2 : fieldOf Tryz.prog 233 2 = some (2, 1, false) := by kernel_rfl
theorem f233_3 : fieldOf Tryz.prog 233 3 = some (3, 1, false) := by kernel_rfl
theorem f27_0 : fieldOf Tryz.prog 27 0 = some (0, 1, false) := by kernel_rfl
theorem f27_1 : fieldOf Tryz.prog 27 1 = some (1, 1, false) := by kernel_rfl
theorem f27_2 : fieldOf Tryz.prog 27 2 = some (2, 1, false) := by kernel_rfl
theorem f27_3 : fieldOf Tryz.prog 27 3 = some (3, 1, false) := by kernel_rfl
theorem f38_0 : fieldOf Tryz.prog 38 0 = some (0, 1, false) := by kernel_rfl
theorem f38_1 : fieldOf Tryz.prog 38 1 = some (1, 1, false) := by kernel_rfl
theorem f38_10 : fieldOf Tryz.prog 38 10 = some (10, 1, false) := by kernel_rfl
theorem f38_2 : fieldOf Tryz.prog 38 2 = some (2, 1, false) := by kernel_rfl
theorem f38_3 : fieldOf Tryz.prog 38 3 = some (3, 1, false) := by kernel_rfl
theorem f38_4 : fieldOf Tryz.prog 38 4 = some (4, 1, false) := by kernel_rfl
theorem f38_5 : fieldOf Tryz.prog 38 5 = some (5, 1, false) := by kernel_rfl
theorem f38_6 : fieldOf Tryz.prog 38 6 = some (6, 1, false) := by kernel_rfl
theorem f38_7 : fieldOf Tryz.prog 38 7 = some (7, 1, false) := by kernel_rfl
theorem f38_8 : fieldOf Tryz.prog 38 8 = some (8, 1, false) := by kernel_rfl
theorem f38_9 : fieldOf Tryz.prog 38 9 = some (9, 1, false) := by kernel_rfl
theorem f41_0 : fieldOf Tryz.prog 41 0 = some (0, 16, true) := by kernel_rfl
theorem f41_1 : fieldOf Tryz.prog 41 1 = some (16, 1, false) := by kernel_rfl
theorem f41_2 : fieldOf Tryz.prog 41 2 = some (17, 1, false) := by kernel_rfl
theorem f41_3 : fieldOf Tryz.prog 41 3 = some (18, 1, false) := by kernel_rfl
theorem f45_0 : fieldOf Tryz.prog 45 0 = some (0, 1, false) := by kernel_rfl
theorem f45_1 : fieldOf Tryz.prog 45 1 = some (1, 1, false) := by kernel_rfl
theorem f45_2 : fieldOf Tryz.prog 45 2 = some (2, 1, false) := by kernel_rfl
theorem f45_3 : fieldOf Tryz.prog 45 3 = some (3, 1, false) := by kernel_rfl
theorem f45_4 : fieldOf Tryz.prog 45 4 = some (4, 1, false) := by kernel_rfl
theorem f45_5 : fieldOf Tryz.prog 45 5 = some (5, 1, false) := by kernel_rfl
theorem f45_6 : fieldOf Tryz.prog 45 6 = some (6, 1, false) := by kernel_rfl
theorem f58_2 : fieldOf Tryz.prog 58 2 = some (2, 1, false) := by kernel_rfl
theorem f58_3 : fieldOf Tryz.prog 58 3 = some (3, 1, false) := by kernel_rfl
theorem f90_0 : fieldOf Tryz.prog 90 0 = some (0, 1, false) := by kernel_rfl
theorem f90_1 : fieldOf Tryz.prog 90 1 = some (1, 1, false) := by kernel_rfl
theorem f90_2 : fieldOf Tryz.prog 90 2 = some (2, 1, false) := by kernel_rfl
theorem f90_3 : fieldOf Tryz.prog 90 3 = some (3, 1, false) := by kernel_rfl
theorem f90_4 : fieldOf Tryz.prog 90 4 = some (4, 1, false) := by kernel_rfl
theorem f90_5 : fieldOf Tryz.prog 90 5 = some (5, 1, false) := by kernel_rfl
theorem f90_6 : fieldOf Tryz.prog 90 6 = some (6, 1, false) := by kernel_rfl
theorem l136 : eltOf Tryz.prog 136 = some (24, 1, 8) := by kernel_rfl
theorem l23 : eltOf Tryz.prog 23 = some (45, 7, 56) := by kernel_rfl
theorem l261 : eltOf Tryz.prog 261 = some (9, 1, 16) := by kernel_rfl
theorem l28 : eltOf Tryz.prog 28 = some (27, 4, 48) := by kernel_rfl
theorem l29 : eltOf Tryz.prog 29 = some (108, 4, 32) := by kernel_rfl
theorem l33 : eltOf Tryz.prog 33 = some (101, 5, 56) := by kernel_rfl
theorem l35 : eltOf Tryz.prog 35 = some (164, 2, 32) := by kernel_rfl
theorem l42 : eltOf Tryz.prog 42 = some (2, 1, 8) := by kernel_rfl
theorem l50 : eltOf Tryz.prog 50 = some (58, 6, 48) := by kernel_rfl
theorem l62 : eltOf Tryz.prog 62 = some (42, 1, 24) := by kernel_rfl
theorem l96 : eltOf Tryz.prog 96 = some (3, 1, 8) := by kernel_rfl
theorem p101 : placesOf Tryz.prog 101 = some [(0, 1), (1, 1), (2, 1), (3, 1), (4, 1)] := by kernel_rfl
theorem p108 : placesOf Tryz.prog 108 = some [(0, 1), (1, 1), (2, 1), (3, 1)] := by kernel_rfl
theorem p116 : placesOf Tryz.prog 116 = some [(0, 1), (1, 19), (20, 1)] := by kernel_rfl
theorem p118 : placesOf Tryz.prog 118 = some [(0, 1)] := by kernel_rfl
theorem p135 : placesOf Tryz.prog 135 = some [(0, 11)] := by kernel_rfl
theorem p164 : placesOf Tryz.prog 164 = some [(0, 1), (1, 1)] := by kernel_rfl
theorem p168 : placesOf Tryz.prog 168 = some [(0, 1), (1, 1)] := by kernel_rfl
theorem p182 : placesOf Tryz.prog 182 = some [(0, 11), (11, 1), (12, 1)] := by kernel_rfl
theorem p224 : placesOf Tryz.prog 224 = some [(0, 1), (1, 1)] := by kernel_rfl
theorem p233 : placesOf Tryz.prog 233 = some [(0, 1), (1, 1), (2, 1), (3, 1)] := by kernel_rfl
theorem p27 : placesOf Tryz.prog 27 = some [(0, 1), (1, 1), (2, 1), (3, 1)] := by kernel_rfl
theorem p38 : placesOf Tryz.prog 38 = some [(0, 1), (1, 1), (2, 1), (3, 1), (4, 1), (5, 1), (6, 1), (7, 1), (8, 1), (9, 1), (10, 1)] := by kernel_rfl
theorem p41 : placesOf Tryz.prog 41 = some [(0, 16), (16, 1), (17, 1), (18, 1)] := by kernel_rfl
theorem p45 : placesOf Tryz.prog 45 = some [(0, 1), (1, 1), (2, 1), (3, 1), (4, 1), (5, 1), (6, 1)] := by kernel_rfl
theorem p58 : placesOf Tryz.prog 58 = some [(0, 1), (1, 1), (2, 1), (3, 1), (4, 1), (5, 1)] := by kernel_rfl
theorem p90 : placesOf Tryz.prog 90 = some [(0, 1), (1, 1), (2, 1), (3, 1), (4, 1), (5, 1), (6, 1)] := by kernel_rfl
theorem q41 : leafOk Tryz.prog 41 = some [.int .i64, .int .i64, .int .i64, .int .i64, .int .i64, .int .i64, .int .i64, .int .i64, .int .i64, .int .i64, .int .i64, .int .i64, .int .i64, .int .i64, .int .i64, .int .i64, .int .i64, .int .i64, .int .i64] := by kernel_rfl
theorem q45 : leafOk Tryz.prog 45 = some [.int .u8, .int .i64, .int .i64, .int .i64, .int .i64, .int .i64, .int .i64] := by kernel_rfl
theorem q58 : leafOk Tryz.prog 58 = some [.int .i64, .int .i64, .int .u8, .int .i64, .int .i64, .int .i64] := by kernel_rfl
theorem ar22 : arrOf Tryz.prog 22 = some (4, 1, false) := by kernel_rfl
theorem ar259 : arrOf Tryz.prog 259 = some (57, 2, true) := by kernel_rfl
theorem ar277 : arrOf Tryz.prog 277 = some (256, 1, false) := by kernel_rfl
theorem ar39 : arrOf Tryz.prog 39 = some (16, 1, false) := by kernel_rfl
theorem s101 : szOf Tryz.prog 101 = some 5 := by kernel_rfl
theorem s108 : szOf Tryz.prog 108 = some 4 := by kernel_rfl
theorem s118 : szOf Tryz.prog 118 = some 1 := by kernel_rfl
theorem s135 : szOf Tryz.prog 135 = some 11 := by kernel_rfl
theorem s140 : szOf Tryz.prog 140 = some 3 := by kernel_rfl
theorem s146 : szOf Tryz.prog 146 = some 1 := by kernel_rfl
theorem s155 : szOf Tryz.prog 155 = some 3 := by kernel_rfl
theorem s158 : szOf Tryz.prog 158 = some 5 := by kernel_rfl
theorem s164 : szOf Tryz.prog 164 = some 2 := by kernel_rfl
theorem s168 : szOf Tryz.prog 168 = some 2 := by kernel_rfl
theorem s173 : szOf Tryz.prog 173 = some 2 := by kernel_rfl
theorem s177 : szOf Tryz.prog 177 = some 1 := by kernel_rfl
theorem s179 : szOf Tryz.prog 179 = some 9 := by kernel_rfl
theorem s189 : szOf Tryz.prog 189 = some 3 := by kernel_rfl
theorem s192 : szOf Tryz.prog 192 = some 2 := by kernel_rfl
theorem s2 : szOf Tryz.prog 2 = some 1 := by kernel_rfl
theorem s224 : szOf Tryz.prog 224 = some 2 := by kernel_rfl
theorem s23 : szOf Tryz.prog 23 = some 1 := by kernel_rfl
theorem s233 : szOf Tryz.prog 233 = some 4 := by kernel_rfl
theorem s27 : szOf Tryz.prog 27 = some 4 := by kernel_rfl
theorem s3 : szOf Tryz.prog 3 = some 1 := by kernel_rfl
theorem s38 : szOf Tryz.prog 38 = some 11 := by kernel_rfl
theorem s4 : szOf Tryz.prog 4 = some 1 := by kernel_rfl
theorem s41 : szOf Tryz.prog 41 = some 19 := by kernel_rfl
theorem s42 : szOf Tryz.prog 42 = some 1 := by kernel_rfl
theorem s45 : szOf Tryz.prog 45 = some 7 := by kernel_rfl
theorem s47 : szOf Tryz.prog 47 = some 1 := by kernel_rfl
theorem s50 : szOf Tryz.prog 50 = some 1 := by kernel_rfl
theorem s58 : szOf Tryz.prog 58 = some 6 := by kernel_rfl
theorem s9 : szOf Tryz.prog 9 = some 1 := by kernel_rfl
theorem s96 : szOf Tryz.prog 96 = some 1 := by kernel_rfl
theorem z101 : zeroOf Tryz.prog 101 = some [.int .i64 0, .int .i64 0, .int .i64 0, .bool false, .slice none 0 0] := by kernel_rfl
theorem z108 : zeroOf Tryz.prog 108 = some [.int .i64 0, .int .i64 0, .int .i64 0, .bool false] := by kernel_rfl
theorem z116 : zeroOf Tryz.prog 116 = some [.pointer none, .int .i64 0, .int .i64 0, .int .i64 0, .int .i64 0, .int .i64 0, .int .i64 0, .int .i64 0, .int .i64 0, .int .i64 0, .int .i64 0, .int .i64 0, .int .i64 0, .int .i64 0, .int .i64 0, .int .i64 0, .int .i64 0, .int .i64 0, .int .i64 0, .int .i64 0, .slice none 0 0] := by kernel_rfl
theorem z118 : zeroOf Tryz.prog 118 = some [.int .i64 0] := by kernel_rfl
theorem z135 : zeroOf Tryz.prog 135 = some [.slice none 0 0, .slice none 0 0, .slice none 0 0, .slice none 0 0, .slice none 0 0, .slice none 0 0, .slice none 0 0, .int .i64 0, .slice none 0 0, .slice none 0 0, .slice none 0 0] := by kernel_rfl
theorem z140 : zeroOf Tryz.prog 140 = some [.int .i64 0, .int .i64 0, .int .i64 0] := by kernel_rfl
theorem z155 : zeroOf Tryz.prog 155 = some [.slice none 0 0, .int .i64 0, .int .i64 0] := by kernel_rfl
theorem z164 : zeroOf Tryz.prog 164 = some [.int .i64 0, .slice none 0 0] := by kernel_rfl
theorem z168 : zeroOf Tryz.prog 168 = some [.int .i64 0, .int .i64 0] := by kernel_rfl
theorem z173 : zeroOf Tryz.prog 173 = some [.slice none 0 0, .slice none 0 0] := by kernel_rfl
theorem z179 : zeroOf Tryz.prog 179 = some [.int .u8 0, .int .u8 0, .int .i64 0, .int .i64 0, .int .i64 0, .int .i64 0, .int .i64 0, .int .i64 0, .slice none 0 0] := by kernel_rfl
theorem z182 : zeroOf Tryz.prog 182 = some [.slice none 0 0, .slice none 0 0, .slice none 0 0, .slice none 0 0, .slice none 0 0, .slice none 0 0, .slice none 0 0, .int .i64 0, .slice none 0 0, .slice none 0 0, .slice none 0 0, .int .i64 0, .int .i64 0] := by kernel_rfl
theorem z189 : zeroOf Tryz.prog 189 = some [.int .i64 0, .int .i64 0, .int .i64 0] := by kernel_rfl
theorem z192 : zeroOf Tryz.prog 192 = some [.int .i64 0, .int .u8 0] := by kernel_rfl
theorem z2 : zeroOf Tryz.prog 2 = some [.int .i64 0] := by kernel_rfl
theorem z224 : zeroOf Tryz.prog 224 = some [.string ByteArray.empty, .string ByteArray.empty] := by kernel_rfl
theorem z233 : zeroOf Tryz.prog 233 = some [.nilFunc, .nilFunc, .int .i64 0, .int .i64 0] := by kernel_rfl
theorem z24 : zeroOf Tryz.prog 24 = some [.nilFunc] := by kernel_rfl
theorem z27 : zeroOf Tryz.prog 27 = some [.int .i64 0, .int .i64 0, .slice none 0 0, .int .i64 0] := by kernel_rfl
theorem z3 : zeroOf Tryz.prog 3 = some [.int .i64 0] := by kernel_rfl
theorem z38 : zeroOf Tryz.prog 38 = some [.slice none 0 0, .slice none 0 0, .slice none 0 0, .slice none 0 0, .slice none 0 0, .slice none 0 0, .slice none 0 0, .int .i64 0, .slice none 0 0, .slice none 0 0, .slice none 0 0] := by kernel_rfl
theorem z39 : zeroOf Tryz.prog 39 = some [.int .i64 0, .int .i64 0, .int .i64 0, .int .i64 0, .int .i64 0, .int .i64 0, .int .i64 0, .int .i64 0, .int .i64 0, .int .i64 0, .int .i64 0, .int .i64 0, .int .i64 0, .int .i64 0, .int .i64 0, .int .i64 0] := by kernel_rfl
theorem z4 : zeroOf Tryz.prog 4 = some [.bool false] := by kernel_rfl
theorem z41 : zeroOf Tryz.prog 41 = some [.int .i64 0, .int .i64 0, .int .i64 0, .int .i64 0, .int .i64 0, .int .i64 0, .int .i64 0, .int .i64 0, .int .i64 0, .int .i64 0, .int .i64 0, .int .i64 0, .int .i64 0, .int .i64 0, .int .i64 0, .int .i64 0, .int .i64 0, .int .i64 0, .int .i64 0] := by kernel_rfl
theorem z42 : zeroOf Tryz.prog 42 = some [.slice none 0 0] := by kernel_rfl
theorem z45 : zeroOf Tryz.prog 45 = some [.int .u8 0, .int .i64 0, .int .i64 0, .int .i64 0, .int .i64 0, .int .i64 0, .int .i64 0] := by kernel_rfl
theorem z47 : zeroOf Tryz.prog 47 = some [.int .i64 0] := by kernel_rfl
theorem z50 : zeroOf Tryz.prog 50 = some [.slice none 0 0] := by kernel_rfl
theorem z58 : zeroOf Tryz.prog 58 = some [.int .i64 0, .int .i64 0, .int .u8 0, .int .i64 0, .int .i64 0, .int .i64 0] := by kernel_rfl
theorem z9 : zeroOf Tryz.prog 9 = some [.string ByteArray.empty] := by kernel_rfl
theorem z90 : zeroOf Tryz.prog 90 = some [.slice none 0 0, .slice none 0 0, .slice none 0 0, .int .i64 0, .slice none 0 0, .slice none 0 0, .slice none 0 0] := by kernel_rfl
end Go.Proofs.YtkbahggepncliaaGreatDoor
