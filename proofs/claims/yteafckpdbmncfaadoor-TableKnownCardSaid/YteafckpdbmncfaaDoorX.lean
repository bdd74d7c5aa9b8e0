/- Part of the proof. -/
import Derived.Test.YteafckpdbmncfaaDoorProg
import Derived.KernelRfl
import Derived.Test.YteafckpdbmncfaaDoorF
set_option maxHeartbeats 4000000
set_option maxRecDepth 100000
namespace Go.Proofs.YteafckpdbmncfaaDoor
open Go Go.Sk

theorem a2 : aggOf Tryd.prog 2 = some false := by kernel_rfl
theorem a22 : aggOf Tryd.prog 22 = some false := by kernel_rfl
theorem a23 : aggOf Tryd.prog 23 = some false := by kernel_rfl
theorem a28 : aggOf Tryd.prog 28 = some true := by kernel_rfl
theorem a3 : aggOf Tryd.prog 3 = some false := by kernel_rfl
theorem a4 : aggOf Tryd.prog 4 = some false := by kernel_rfl
theorem a40 : aggOf Tryd.prog 40 = some true := by kernel_rfl
theorem a41 : aggOf Tryd.prog 41 = some false := by kernel_rfl
theorem a49 : aggOf Tryd.prog 49 = some false := by kernel_rfl
theorem a5 : aggOf Tryd.prog 5 = some false := by kernel_rfl
theorem a50 : aggOf Tryd.prog 50 = some false := by kernel_rfl
theorem a51 : aggOf Tryd.prog 51 = some false := by kernel_rfl
theorem a52 : aggOf Tryd.prog 52 = some false := by kernel_rfl
theorem a54 : aggOf Tryd.prog 54 = some true := by kernel_rfl
theorem a56 : aggOf Tryd.prog 56 = some true := by kernel_rfl
theorem a61 : aggOf Tryd.prog 61 = some true := by kernel_rfl
theorem a9 : aggOf Tryd.prog 9 = some false := by kernel_rfl
theorem e22 : elemOf' Tryd.prog 22 = some (18, true) := by kernel_rfl
theorem e23 : elemOf' Tryd.prog 23 = some (3, true) := by kernel_rfl
theorem e41 : elemOf' Tryd.prog 41 = some (1, false) := by kernel_rfl
theorem e50 : elemOf' Tryd.prog 50 = some (1, false) := by kernel_rfl
theorem e51 : elemOf' Tryd.prog 51 = some (6, true) := by kernel_rfl
theorem e82 : elemOf' Tryd.prog 82 = some (1, false) := by kernel_rfl
theorem f104_0 : fieldOf Tryd.prog 104 0 = some (0, 5, true) := by kernel_rfl
theorem f104_1 : fieldOf Tryd.prog 104 1 = some (5, 1, false) := by kernel_rfl
theorem f104_2 : fieldOf Tryd.prog 104 2 = some (6, 18, true) := by kernel_rfl
theorem f104_3 : fieldOf Tryd.prog 104 3 = some (24, 3, true) := by kernel_rfl
theorem f28_0 : fieldOf Tryd.prog 28 0 = some (0, 1, false) := by kernel_rfl
theorem f28_1 : fieldOf Tryd.prog 28 1 = some (1, 1, false) := by kernel_rfl
theorem f40_0 : fieldOf Tryd.prog 40 0 = some (0, 1, false) := by kernel_rfl
theorem f40_1 : fieldOf Tryd.prog 40 1 = some (1, 1, false) := by kernel_rfl
theorem f40_2 : fieldOf Tryd.prog 40 2 = some (2, 1, false) := by kernel_rfl
theorem f54_0 : fieldOf Tryd.prog 54 0 = some (0, 1, false) := by kernel_rfl
theorem f54_1 : fieldOf Tryd.prog 54 1 = some (1, 1, false) := by kernel_rfl
theorem f54_10 : fieldOf Tryd.prog 54 10 = some (10, 1, false) := by kernel_rfl
theorem f54_11 : fieldOf Tryd.prog 54 11 = some (11, 1, false) := by kernel_rfl
theorem f54_12 : fieldOf Tryd.prog 54 12 = some (12, 1, false) := by kernel_rfl
theorem f54_13 : fieldOf Tryd.prog 54 13 = some (13, 1, false) := by kernel_rfl
theorem f54_14 : fieldOf Tryd.prog 54 14 = some (14, 1, false) := by kernel_rfl
theorem f54_15 : fieldOf Tryd.prog 54 15 = some (15, 1, false) := by kernel_rfl
theorem f54_16 : fieldOf Tryd.prog 54 16 = some (16, 1, false) := by kernel_rfl
theorem f54_17 : fieldOf Tryd.prog 54 17 = some (17, 1, false) := by kernel_rfl
theorem f54_2 : fieldOf Tryd.prog 54 2 = some (2, 1, false) := by kernel_rfl
theorem f54_3 : fieldOf Tryd.prog 54 3 = some (3, 1, false) := by kernel_rfl
theorem f54_4 : fieldOf Tryd.prog 54 4 = some (4, 1, false) := by kernel_rfl
theorem f54_5 : fieldOf Tryd.prog 54 5 = some (5, 1, false) := by kernel_rfl
theorem f54_6 : fieldOf Tryd.prog 54 6 = some (6, 1, false) := by kernel_rfl
theorem f54_7 : fieldOf Tryd.prog 54 7 = some (7, 1, false) := by kernel_rfl
theorem f54_8 : fieldOf Tryd.prog 54 8 = some (8, 1, false) := by kernel_rfl
theorem f54_9 : fieldOf Tryd.prog 54 9 = some (9, 1, false) := by kernel_rfl
theorem f56_0 : fieldOf Tryd.prog 56 0 = some (0, 1, false) := by kernel_rfl
theorem f56_1 : fieldOf Tryd.prog 56 1 = some (1, 1, false) := by kernel_rfl
theorem f56_2 : fieldOf Tryd.prog 56 2 = some (2, 1, false) := by kernel_rfl
theorem f56_3 : fieldOf Tryd.prog 56 3 = some (3, 1, false) := by kernel_rfl
theorem f56_4 : fieldOf Tryd.prog 56 4 = some (4, 1, false) := by kernel_rfl
theorem f56_5 : fieldOf Tryd.prog 56 5 = some (5, 1, false) := by kernel_rfl
theorem f61_0 : fieldOf Tryd.prog 61 0 = some (0, 5, true) := by kernel_rfl
theorem l22 : eltOf Tryd.prog 22 = some (54, 18, 184) := by kernel_rfl
theorem l23 : eltOf Tryd.prog 23 = some (40, 3, 24) := by kernel_rfl
theorem l41 : eltOf Tryd.prog 41 = some (2, 1, 8) := by kernel_rfl
theorem l50 : eltOf Tryd.prog 50 = some (9, 1, 16) := by kernel_rfl
theorem l51 : eltOf Tryd.prog 51 = some (56, 6, 72) := by kernel_rfl
theorem l82 : eltOf Tryd.prog 82 = some (3, 1, 8) := by kernel_rfl
theorem p104 : placesOf Tryd.prog 104 = some [(0, 5), (5, 1), (6, 18), (24, 3)] := by kernel_rfl
theorem p28 : placesOf Tryd.prog 28 = some [(0, 1), (1, 1), (2, 1), (3, 1), (4, 1)] := by kernel_rfl
theorem p40 : placesOf Tryd.prog 40 = some [(0, 1), (1, 1), (2, 1)] := by kernel_rfl
theorem p54 : placesOf Tryd.prog 54 = some [(0, 1), (1, 1), (2, 1), (3, 1), (4, 1), (5, 1), (6, 1), (7, 1), (8, 1), (9, 1), (10, 1), (11, 1), (12, 1), (13, 1), (14, 1), (15, 1), (16, 1), (17, 1)] := by kernel_rfl
theorem p56 : placesOf Tryd.prog 56 = some [(0, 1), (1, 1), (2, 1), (3, 1), (4, 1), (5, 1)] := by kernel_rfl
theorem p61 : placesOf Tryd.prog 61 = some [(0, 5)] := by kernel_rfl
theorem q40 : leafOk Tryd.prog 40 = some [.int .i64, .int .i64, .int .i64] := by kernel_rfl
theorem r125 : arrOf Tryd.prog 125 = some (256, 1, false) := by kernel_rfl
theorem s2 : szOf Tryd.prog 2 = some 1 := by kernel_rfl
theorem s28 : szOf Tryd.prog 28 = some 5 := by kernel_rfl
theorem s3 : szOf Tryd.prog 3 = some 1 := by kernel_rfl
theorem s4 : szOf Tryd.prog 4 = some 1 := by kernel_rfl
theorem s40 : szOf Tryd.prog 40 = some 3 := by kernel_rfl
theorem s50 : szOf Tryd.prog 50 = some 1 := by kernel_rfl
theorem s51 : szOf Tryd.prog 51 = some 1 := by kernel_rfl
theorem s52 : szOf Tryd.prog 52 = some 1 := by kernel_rfl
theorem s54 : szOf Tryd.prog 54 = some 18 := by kernel_rfl
theorem s56 : szOf Tryd.prog 56 = some 6 := by kernel_rfl
theorem s61 : szOf Tryd.prog 61 = some 5 := by kernel_rfl
theorem s9 : szOf Tryd.prog 9 = some 1 := by kernel_rfl
theorem z104 : zeroOf Tryd.prog 104 = some [.slice none 0 0, .slice none 0 0, .slice none 0 0, .slice none 0 0, .slice none 0 0, .int .i64 0, .int .u8 0, .string ByteArray.empty, .int .i64 0, .int .i64 0, .slice none 0 0, .int .i64 0, .int .i64 0, .int .i64 0, .string ByteArray.empty, .bool false, .int .i64 0, .slice none 0 0, .int .i64 0, .int .u8 0, .bool false, .int .i64 0, .int .i64 0, .int .i64 0, .int .i64 0, .int .i64 0, .int .i64 0] := by kernel_rfl
theorem z2 : zeroOf Tryd.prog 2 = some [.int .i64 0] := by kernel_rfl
theorem z28 : zeroOf Tryd.prog 28 = some [.slice none 0 0, .slice none 0 0, .slice none 0 0, .slice none 0 0, .slice none 0 0] := by kernel_rfl
theorem z3 : zeroOf Tryd.prog 3 = some [.int .i64 0] := by kernel_rfl
theorem z40 : zeroOf Tryd.prog 40 = some [.int .i64 0, .int .i64 0, .int .i64 0] := by kernel_rfl
theorem z54 : zeroOf Tryd.prog 54 = some [.int .u8 0, .string ByteArray.empty, .int .i64 0, .int .i64 0, .slice none 0 0, .int .i64 0, .int .i64 0, .int .i64 0, .string ByteArray.empty, .bool false, .int .i64 0, .slice none 0 0, .int .i64 0, .int .u8 0, .bool false, .int .i64 0, .int .i64 0, .int .i64 0] := by kernel_rfl
theorem z56 : zeroOf Tryd.prog 56 = some [.string ByteArray.empty, .int .i64 0, .bool false, .int .i64 0, .bool false, .slice none 0 0] := by kernel_rfl
theorem z61 : zeroOf Tryd.prog 61 = some [.slice none 0 0, .slice none 0 0, .slice none 0 0, .slice none 0 0, .slice none 0 0] := by kernel_rfl
theorem z9 : zeroOf Tryd.prog 9 = some [.string ByteArray.empty] := by kernel_rfl
end Go.Proofs.YteafckpdbmncfaaDoor
