/- Layer 6: what the walk of TableKnown stands on. -/
import Derived.Test.YteafckpdbmncfaaDoorWb
namespace Go.Sk
theorem WE.st0 {P : Program} {e : En} {x : Exit} {k : Ko} {env : Env} {st st' : List AO} (hs : st = st') (h : WE P e x k env st') : WE P e x k env st := hs ▸ h
end Go.Sk
set_option maxRecDepth 100000
namespace Go.Proofs.YteafckpdbmncfaaDoor
open Go Go.Sk
abbrev kL0 : List AV := [.d (D.i .u8 4), .d (D.s (ByteArray.mk #[82, 111, 119])), .d (D.i .i64 (-1)), .d (D.i .i64 3), .d (D.sl []), .d (D.i .i64 2), .d (D.i .i64 0), .d (D.i .i64 (-1)), .d (D.s (ByteArray.mk #[])), .d (D.b false), .d (D.i .i64 0), .d (D.sl []), .d (D.i .i64 (-1)), .d (D.i .u8 0), .d (D.b false), .d (D.i .i64 (-1)), .d (D.i .i64 0), .d (D.i .i64 0)]
abbrev kL1 : List AV := [.d (D.i .u8 5), .d (D.s (ByteArray.mk #[82, 101, 99])), .d (D.i .i64 (-1)), .d (D.i .i64 4), .d (D.sl []), .d (D.i .i64 (-1)), .d (D.i .i64 (-1)), .d (D.i .i64 1), .d (D.s (ByteArray.mk #[68])), .d (D.b true), .d (D.i .i64 1), .os 4 0, .d (D.i .i64 (-1)), .d (D.i .u8 0), .d (D.b false), .d (D.i .i64 (-1)), .d (D.i .i64 0), .d (D.i .i64 0)]
abbrev kL2 : List AV := [.d (D.i .u8 1), .d (D.s (ByteArray.mk #[])), .d (D.i .i64 (-1)), .d (D.i .i64 (-1)), .d (D.sl []), .d (D.i .i64 (-1)), .d (D.i .i64 (-1)), .d (D.i .i64 (-1)), .d (D.s (ByteArray.mk #[])), .d (D.b false), .d (D.i .i64 0), .d (D.sl []), .d (D.i .i64 (-1)), .d (D.i .u8 0), .d (D.b false), .d (D.i .i64 (-1)), .d (D.i .i64 0), .d (D.i .i64 0)]
abbrev kL3 : List AV := [.d (D.i .u8 2), .d (D.s (ByteArray.mk #[73, 110, 116, 101, 103, 101, 114])), .d (D.i .i64 (-1)), .d (D.i .i64 0), .d (D.sl []), .d (D.i .i64 (-1)), .d (D.i .i64 (-1)), .d (D.i .i64 (-1)), .d (D.s (ByteArray.mk #[])), .d (D.b false), .d (D.i .i64 0), .d (D.sl []), .d (D.i .i64 (-1)), .d (D.i .u8 0), .d (D.b false), .d (D.i .i64 (-1)), .d (D.i .i64 0), .d (D.i .i64 0)]
abbrev kL4 : List AV := [.d (D.i .u8 5), .d (D.s (ByteArray.mk #[82, 101, 99])), .d (D.i .i64 (-1)), .d (D.i .i64 4), .d (D.sl []), .d (D.i .i64 (-1)), .d (D.i .i64 (-1)), .d (D.i .i64 (-1)), .d (D.s (ByteArray.mk #[])), .d (D.b false), .d (D.i .i64 0), .d (D.sl []), .d (D.i .i64 (-1)), .d (D.i .u8 0), .d (D.b false), .d (D.i .i64 (-1)), .d (D.i .i64 0), .d (D.i .i64 0)]
abbrev kL5 : List AV := [.d (D.i .u8 3), .d (D.s (ByteArray.mk #[67, 111, 108, 111, 114])), .d (D.i .i64 (-1)), .d (D.i .i64 1), .d (D.sl []), .d (D.i .i64 (-1)), .d (D.i .i64 (-1)), .d (D.i .i64 (-1)), .d (D.s (ByteArray.mk #[])), .d (D.b false), .d (D.i .i64 0), .d (D.sl []), .d (D.i .i64 (-1)), .d (D.i .u8 0), .d (D.b false), .d (D.i .i64 (-1)), .d (D.i .i64 0), .d (D.i .i64 0)]
abbrev kL6 : List AV := [.d (D.i .u8 2), .d (D.s (ByteArray.mk #[73, 110, 116, 101, 103, 101, 114])), .d (D.i .i64 (-1)), .d (D.i .i64 2), .d (D.sl []), .d (D.i .i64 (-1)), .d (D.i .i64 (-1)), .d (D.i .i64 (-1)), .d (D.s (ByteArray.mk #[])), .d (D.b false), .d (D.i .i64 0), .d (D.sl []), .d (D.i .i64 (-1)), .d (D.i .u8 0), .d (D.b false), .d (D.i .i64 (-1)), .d (D.i .i64 0), .d (D.i .i64 0)]
abbrev kL7 : List AV := [.d (D.i .u8 2), .d (D.s (ByteArray.mk #[73, 110, 116, 101, 103, 101, 114])), .d (D.i .i64 (-1)), .d (D.i .i64 0), .d (D.sl []), .d (D.i .i64 (-1)), .d (D.i .i64 (-1)), .d (D.i .i64 (-1)), .d (D.s (ByteArray.mk #[])), .d (D.b false), .d (D.i .i64 0), .d (D.sl []), .d (D.i .i64 (-1)), .d (D.i .u8 0), .d (D.b true), .d (D.i .i64 (-1)), .d (D.i .i64 0), .d (D.i .i64 0)]
abbrev kL8 : List AV := [.d (D.i .u8 2), .d (D.s (ByteArray.mk #[73, 110, 116, 101, 103, 101, 114])), .d (D.i .i64 (-1)), .d (D.i .i64 0), .d (D.sl []), .d (D.i .i64 (-1)), .d (D.i .i64 0), .d (D.i .i64 (-1)), .d (D.s (ByteArray.mk #[])), .d (D.b false), .d (D.i .i64 0), .d (D.sl []), .d (D.i .i64 (-1)), .d (D.i .u8 0), .d (D.b false), .d (D.i .i64 (-1)), .d (D.i .i64 0), .d (D.i .i64 0)]
abbrev kL9 : List AV := [.d (D.i .u8 2), .d (D.s (ByteArray.mk #[101, 110, 100])), .d (D.i .i64 (-1)), .d (D.i .i64 0), .d (D.sl []), .d (D.i .i64 (-1)), .d (D.i .i64 (-1)), .d (D.i .i64 (-1)), .d (D.s (ByteArray.mk #[])), .d (D.b false), .d (D.i .i64 0), .d (D.sl []), .d (D.i .i64 (-1)), .d (D.i .u8 0), .d (D.b false), .d (D.i .i64 (-1)), .d (D.i .i64 0), .d (D.i .i64 0)]
abbrev kL10 : List AV := [.d (D.i .u8 4), .d (D.s (ByteArray.mk #[82, 111, 119])), .d (D.i .i64 (-1)), .d (D.i .i64 3), .d (D.sl []), .d (D.i .i64 (-1)), .d (D.i .i64 (-1)), .d (D.i .i64 (-1)), .d (D.s (ByteArray.mk #[])), .d (D.b false), .d (D.i .i64 0), .d (D.sl []), .d (D.i .i64 (-1)), .d (D.i .u8 0), .d (D.b false), .d (D.i .i64 (-1)), .d (D.i .i64 0), .d (D.i .i64 0)]
abbrev kL11 : List AV := [.d (D.i .u8 5), .d (D.s (ByteArray.mk #[82, 101, 99])), .d (D.i .i64 (-1)), .d (D.i .i64 4), .d (D.sl []), .d (D.i .i64 (-1)), .d (D.i .i64 (-1)), .d (D.i .i64 (-1)), .d (D.s (ByteArray.mk #[68])), .d (D.b true), .d (D.i .i64 1), .os 4 0, .d (D.i .i64 (-1)), .d (D.i .u8 0), .d (D.b false), .d (D.i .i64 (-1)), .d (D.i .i64 0), .d (D.i .i64 0)]
abbrev kL12 : List AV := [.d (D.i .u8 4), .d (D.s (ByteArray.mk #[82, 111, 119])), .d (D.i .i64 (-1)), .d (D.i .i64 3), .d (D.sl []), .d (D.i .i64 0), .d (D.i .i64 0), .d (D.i .i64 (-1)), .d (D.s (ByteArray.mk #[])), .d (D.b false), .d (D.i .i64 0), .d (D.sl []), .d (D.i .i64 (-1)), .d (D.i .u8 0), .d (D.b false), .d (D.i .i64 (-1)), .d (D.i .i64 0), .d (D.i .i64 0)]
abbrev kL13 : List AV := [.d (D.i .u8 4), .d (D.s (ByteArray.mk #[82, 111, 119])), .d (D.i .i64 (-1)), .d (D.i .i64 3), .d (D.sl []), .d (D.i .i64 2), .d (D.i .i64 4), .d (D.i .i64 (-1)), .d (D.s (ByteArray.mk #[])), .d (D.b false), .d (D.i .i64 0), .d (D.sl []), .d (D.i .i64 (-1)), .d (D.i .u8 0), .d (D.b false), .d (D.i .i64 (-1)), .d (D.i .i64 0), .d (D.i .i64 0)]
abbrev kL14 : List AV := [.d (D.i .u8 4), .d (D.s (ByteArray.mk #[82, 111, 119])), .d (D.i .i64 (-1)), .d (D.i .i64 3), .d (D.sl []), .d (D.i .i64 2), .d (D.i .i64 3), .d (D.i .i64 (-1)), .d (D.s (ByteArray.mk #[])), .d (D.b false), .d (D.i .i64 0), .d (D.sl []), .d (D.i .i64 (-1)), .d (D.i .u8 0), .d (D.b false), .d (D.i .i64 (-1)), .d (D.i .i64 0), .d (D.i .i64 0)]
abbrev kL15 : List AV := [.d (D.i .u8 5), .d (D.s (ByteArray.mk #[82, 101, 99])), .d (D.i .i64 (-1)), .d (D.i .i64 4), .d (D.sl []), .d (D.i .i64 (-1)), .d (D.i .i64 (-1)), .d (D.i .i64 1), .d (D.s (ByteArray.mk #[120])), .d (D.b true), .d (D.i .i64 1), .os 4 0, .d (D.i .i64 (-1)), .d (D.i .u8 0), .d (D.b false), .d (D.i .i64 (-1)), .d (D.i .i64 0), .d (D.i .i64 0)]
abbrev kL16 : List AV := [.d (D.i .u8 5), .d (D.s (ByteArray.mk #[82, 101, 99])), .d (D.i .i64 (-1)), .d (D.i .i64 4), .d (D.sl []), .d (D.i .i64 (-1)), .d (D.i .i64 (-1)), .d (D.i .i64 1), .d (D.s (ByteArray.mk #[68])), .d (D.b true), .d (D.i .i64 2), .os 4 0, .d (D.i .i64 (-1)), .d (D.i .u8 0), .d (D.b false), .d (D.i .i64 (-1)), .d (D.i .i64 0), .d (D.i .i64 0)]
abbrev kL17 : List AV := [.d (D.i .u8 1), .d (D.s (ByteArray.mk #[])), .d (D.i .i64 (-1)), .d (D.i .i64 0), .d (D.sl []), .d (D.i .i64 (-1)), .d (D.i .i64 (-1)), .d (D.i .i64 (-1)), .d (D.s (ByteArray.mk #[])), .d (D.b false), .d (D.i .i64 0), .d (D.sl []), .d (D.i .i64 (-1)), .d (D.i .u8 0), .d (D.b false), .d (D.i .i64 (-1)), .d (D.i .i64 0), .d (D.i .i64 0)]
abbrev kT18 : Ty := Ty.mk 3 (ByteArray.mk #[67, 111, 108, 111, 114]) (-1) 1 [(ByteArray.mk #[82, 101, 100]), (ByteArray.mk #[71, 114, 101, 101, 110])] (-1) (-1) (-1) (ByteArray.mk #[]) false 0 [] (-1) 0 false (-1) 0 0
abbrev kT19 : Ty := Ty.mk 5 (ByteArray.mk #[82, 101, 99]) (-1) 4 [] (-1) (-1) 1 (ByteArray.mk #[68]) true 1 [(CompRow.mk (ByteArray.mk #[120]) 0 false 0 false []), (CompRow.mk (ByteArray.mk #[121]) 2 true 7 true [1])] (-1) 0 false (-1) 0 0
abbrev kT20 : Ty := Ty.mk 2 (ByteArray.mk #[73, 110, 116, 101, 103, 101, 114]) (-1) 0 [] (-1) (-1) (-1) (ByteArray.mk #[]) false 0 [] (-1) 0 false (-1) 0 0
abbrev kT21 : Ty := Ty.mk 1 (ByteArray.mk #[]) (-1) (-1) [] (-1) (-1) (-1) (ByteArray.mk #[]) false 0 [] (-1) 0 false (-1) 0 0
abbrev kT22 : Ty := Ty.mk 4 (ByteArray.mk #[82, 111, 119]) (-1) 3 [] 2 0 (-1) (ByteArray.mk #[]) false 0 [] (-1) 0 false (-1) 0 0
abbrev sN : AV := .d (.v (.slice none 0 0))
theorem ka2 : aggOf Tryd.prog 2 = some false := by kernel_rfl
theorem ka22 : aggOf Tryd.prog 22 = some false := by kernel_rfl
theorem ka23 : aggOf Tryd.prog 23 = some false := by kernel_rfl
theorem ka28 : aggOf Tryd.prog 28 = some true := by kernel_rfl
theorem ka51 : aggOf Tryd.prog 51 = some false := by kernel_rfl
theorem ka54 : aggOf Tryd.prog 54 = some true := by kernel_rfl
theorem ke22 : elemOf' Tryd.prog 22 = some (18, true) := by kernel_rfl
theorem ke23 : elemOf' Tryd.prog 23 = some (3, true) := by kernel_rfl
theorem ke41 : elemOf' Tryd.prog 41 = some (1, false) := by kernel_rfl
theorem ke51 : elemOf' Tryd.prog 51 = some (6, true) := by kernel_rfl
theorem kf28_0 : fieldOf Tryd.prog 28 0 = some (0, 1, false) := by kernel_rfl
theorem kf28_1 : fieldOf Tryd.prog 28 1 = some (1, 1, false) := by kernel_rfl
theorem kf40_0 : fieldOf Tryd.prog 40 0 = some (0, 1, false) := by kernel_rfl
theorem kf40_1 : fieldOf Tryd.prog 40 1 = some (1, 1, false) := by kernel_rfl
theorem kf40_2 : fieldOf Tryd.prog 40 2 = some (2, 1, false) := by kernel_rfl
theorem kf54_1 : fieldOf Tryd.prog 54 1 = some (1, 1, false) := by kernel_rfl
theorem kf54_10 : fieldOf Tryd.prog 54 10 = some (10, 1, false) := by kernel_rfl
theorem kf54_11 : fieldOf Tryd.prog 54 11 = some (11, 1, false) := by kernel_rfl
theorem kf54_14 : fieldOf Tryd.prog 54 14 = some (14, 1, false) := by kernel_rfl
theorem kf54_2 : fieldOf Tryd.prog 54 2 = some (2, 1, false) := by kernel_rfl
theorem kf54_3 : fieldOf Tryd.prog 54 3 = some (3, 1, false) := by kernel_rfl
theorem kf54_4 : fieldOf Tryd.prog 54 4 = some (4, 1, false) := by kernel_rfl
theorem kf54_5 : fieldOf Tryd.prog 54 5 = some (5, 1, false) := by kernel_rfl
theorem kf54_6 : fieldOf Tryd.prog 54 6 = some (6, 1, false) := by kernel_rfl
theorem kf54_7 : fieldOf Tryd.prog 54 7 = some (7, 1, false) := by kernel_rfl
theorem kf54_8 : fieldOf Tryd.prog 54 8 = some (8, 1, false) := by kernel_rfl
theorem kf54_9 : fieldOf Tryd.prog 54 9 = some (9, 1, false) := by kernel_rfl
theorem kf56_3 : fieldOf Tryd.prog 56 3 = some (3, 1, false) := by kernel_rfl
theorem kf56_5 : fieldOf Tryd.prog 56 5 = some (5, 1, false) := by kernel_rfl
theorem kl22 : eltOf Tryd.prog 22 = some (54, 18, 184) := by kernel_rfl
theorem kl23 : eltOf Tryd.prog 23 = some (40, 3, 24) := by kernel_rfl
theorem kl41 : eltOf Tryd.prog 41 = some (2, 1, 8) := by kernel_rfl
theorem kl50 : eltOf Tryd.prog 50 = some (9, 1, 16) := by kernel_rfl
theorem kl51 : eltOf Tryd.prog 51 = some (56, 6, 72) := by kernel_rfl
theorem kp28 : placesOf Tryd.prog 28 = some [(0, 1), (1, 1), (2, 1), (3, 1), (4, 1)] := by kernel_rfl
theorem kp40 : placesOf Tryd.prog 40 = some [(0, 1), (1, 1), (2, 1)] := by kernel_rfl
theorem kp56 : placesOf Tryd.prog 56 = some [(0, 1), (1, 1), (2, 1), (3, 1), (4, 1), (5, 1)] := by kernel_rfl
theorem ks2 : szOf Tryd.prog 2 = some 1 := by kernel_rfl
theorem ks23 : szOf Tryd.prog 23 = some 1 := by kernel_rfl
theorem ks28 : szOf Tryd.prog 28 = some 5 := by kernel_rfl
theorem ks3 : szOf Tryd.prog 3 = some 1 := by kernel_rfl
theorem ks4 : szOf Tryd.prog 4 = some 1 := by kernel_rfl
theorem ks40 : szOf Tryd.prog 40 = some 3 := by kernel_rfl
theorem ks41 : szOf Tryd.prog 41 = some 1 := by kernel_rfl
theorem ks50 : szOf Tryd.prog 50 = some 1 := by kernel_rfl
theorem ks51 : szOf Tryd.prog 51 = some 1 := by kernel_rfl
theorem ks54 : szOf Tryd.prog 54 = some 18 := by kernel_rfl
theorem ks9 : szOf Tryd.prog 9 = some 1 := by kernel_rfl
theorem kz2 : zeroOf Tryd.prog 2 = some [.int .i64 0] := by kernel_rfl
theorem kz28 : zeroOf Tryd.prog 28 = some [.slice none 0 0, .slice none 0 0, .slice none 0 0, .slice none 0 0, .slice none 0 0] := by kernel_rfl
theorem kz40 : zeroOf Tryd.prog 40 = some [.int .i64 0, .int .i64 0, .int .i64 0] := by kernel_rfl
theorem kz54 : zeroOf Tryd.prog 54 = some [.int .u8 0, .string ByteArray.empty, .int .i64 0, .int .i64 0, .slice none 0 0, .int .i64 0, .int .i64 0, .int .i64 0, .string ByteArray.empty, .bool false, .int .i64 0, .slice none 0 0, .int .i64 0, .int .u8 0, .bool false, .int .i64 0, .int .i64 0, .int .i64 0] := by kernel_rfl
theorem kz56 : zeroOf Tryd.prog 56 = some [.string ByteArray.empty, .int .i64 0, .bool false, .int .i64 0, .bool false, .slice none 0 0] := by kernel_rfl
theorem kz9 : zeroOf Tryd.prog 9 = some [.string ByteArray.empty] := by kernel_rfl
theorem kwrap {i : Nat} (h : (i : Int) < 23) : IntKind.i64.wrap ((i : Int) + 1) = ((i + 1 : Nat) : Int) := by rw [IntKind.wrap_i64]; omega
theorem some_own : Ctr Tryd.prog 38 [] [] (fun r st' => r = .ag [.os 5 0, .os 6 0, sN, sN, sN] ∧ st' = [.row 28 [.os 5 0, .os 6 0, sN, sN, sN], .row 54 [.d (D.i .u8 3), .d (D.s (ByteArray.mk #[67, 111, 108, 111, 114])), .d (D.i .i64 (-1)), .d (D.i .i64 1), .d (D.sl [[.s (ByteArray.mk #[82, 101, 100])], [.s (ByteArray.mk #[71, 114, 101, 101, 110])]]), .d (D.i .i64 (-1)), .d (D.i .i64 (-1)), .d (D.i .i64 (-1)), .d (D.s (ByteArray.mk #[])), .d (D.b false), .d (D.i .i64 0), .d (D.sl []), .d (D.i .i64 (-1)), .d (D.i .u8 0), .d (D.b false), .d (D.i .i64 (-1)), .d (D.i .i64 0), .d (D.i .i64 0)], .row 54 kL0, .row 54 kL1, .os 56 6 0 [[.d (D.s (ByteArray.mk #[120])), .d (D.i .i64 0), .d (D.b false), .d (D.i .i64 0), .d (D.b false), .d (D.sl [])], [.d (D.s (ByteArray.mk #[121])), .d (D.i .i64 2), .d (D.b true), .d (D.i .i64 7), .d (D.b true), .d (D.sl [[.i .i64 1]])]], .os 54 18 0 [kL2, kL3, [.d (D.i .u8 3), .d (D.s (ByteArray.mk #[67, 111, 108, 111, 114])), .d (D.i .i64 (-1)), .d (D.i .i64 1), .d (D.sl [[.s (ByteArray.mk #[82, 101, 100])], [.s (ByteArray.mk #[71, 114, 101, 101, 110])]]), .d (D.i .i64 (-1)), .d (D.i .i64 (-1)), .d (D.i .i64 (-1)), .d (D.s (ByteArray.mk #[])), .d (D.b false), .d (D.i .i64 0), .d (D.sl []), .d (D.i .i64 (-1)), .d (D.i .u8 0), .d (D.b false), .d (D.i .i64 (-1)), .d (D.i .i64 0), .d (D.i .i64 0)], kL0, kL1], .os 40 3 0 [[.d (D.i .i64 1), .d (D.i .i64 (-2147483648)), .d (D.i .i64 2147483647)], [.d (D.i .i64 2), .d (D.i .i64 0), .d (D.i .i64 1)], [.d (D.i .i64 1), .d (D.i .i64 5), .d (D.i .i64 9)], [.d (D.i .i64 3), .d (D.i .i64 0), .d (D.i .i64 0)], [.d (D.i .i64 4), .d (D.i .i64 0), .d (D.i .i64 (-1))], [.d (D.i .i64 4), .d (D.i .i64 0), .d (D.i .i64 0)]]]) := by
 refine ctr_intro Tryd.func38 (by kernel_rfl) rfl rfl rfl (fun mm φφ ww hmm => ?_)
 refine wc_sr ?_
 refine WL.s ((b_alloc kz28).does) (Wt.none rfl) rfl rfl ?_
 refine WL.ns ?_
 refine wc_sr ?_
 refine WL.fn rfl rfl rfl rfl (f39_c 3 (ByteArray.mk #[67, 111, 108, 111, 114]) 1) ⟨(Le.refl _), ⟨(Le.refl _), ⟨(Le.refl _), trivial⟩⟩⟩ (Wt.none rfl) rfl rfl ?_
 refine WL.cast 4 rfl (Le.trans (Le.dag _) (Le.of (y := .ag kL5) rfl)) ?_
 refine WL.s ((b_alloc kz54).does) (Wt.none rfl) rfl rfl ?_
 refine WL.s0 (d_storeS rfl rfl rfl rfl rfl rfl ks54 rfl rfl) (Wt.none rfl) rfl ?_
 refine WL.st (st' := [.row 28 [sN, sN, sN, sN, sN], .row 54 kL5]) rfl ?_
 refine WL.ns ?_
 refine wc_sr ?_
 refine WL.s ((NewOs.data (ds := [[.s (ByteArray.mk #[82, 101, 100])], [.s (ByteArray.mk #[71, 114, 101, 101, 110])]]) (n_buildSlice kl50 kz9 rfl (by decide) (by decide) rfl rfl rfl (by decide)) rfl).does) (Wt.none rfl) rfl rfl ?_
 refine WL.qn (y_fieldAddr kf54_4 rfl) rfl ?_
 refine WL.s0 (d_storeS rfl rfl rfl rfl rfl rfl ks50 rfl rfl) (Wt.none rfl) rfl ?_
 refine WL.st (st' := [.row 28 [sN, sN, sN, sN, sN], .row 54 [.d (D.i .u8 3), .d (D.s (ByteArray.mk #[67, 111, 108, 111, 114])), .d (D.i .i64 (-1)), .d (D.i .i64 1), .d (D.sl [[.s (ByteArray.mk #[82, 101, 100])], [.s (ByteArray.mk #[71, 114, 101, 101, 110])]]), .d (D.i .i64 (-1)), .d (D.i .i64 (-1)), .d (D.i .i64 (-1)), .d (D.s (ByteArray.mk #[])), .d (D.b false), .d (D.i .i64 0), .d (D.sl []), .d (D.i .i64 (-1)), .d (D.i .u8 0), .d (D.b false), .d (D.i .i64 (-1)), .d (D.i .i64 0), .d (D.i .i64 0)]]) rfl ?_
 refine WL.ns ?_
 refine wc_sr ?_
 refine WL.fn rfl rfl rfl rfl (f39_c 4 (ByteArray.mk #[82, 111, 119]) 3) ⟨(Le.refl _), ⟨(Le.refl _), ⟨(Le.refl _), trivial⟩⟩⟩ (Wt.none rfl) rfl rfl ?_
 refine WL.cast 7 rfl (Le.trans (Le.dag _) (Le.of (y := .ag kL10) rfl)) ?_
 refine WL.s ((b_alloc kz54).does) (Wt.none rfl) rfl rfl ?_
 refine WL.s0 (d_storeS rfl rfl rfl rfl rfl rfl ks54 rfl rfl) (Wt.none rfl) rfl ?_
 refine WL.st (st' := [.row 28 [sN, sN, sN, sN, sN], .row 54 [.d (D.i .u8 3), .d (D.s (ByteArray.mk #[67, 111, 108, 111, 114])), .d (D.i .i64 (-1)), .d (D.i .i64 1), .d (D.sl [[.s (ByteArray.mk #[82, 101, 100])], [.s (ByteArray.mk #[71, 114, 101, 101, 110])]]), .d (D.i .i64 (-1)), .d (D.i .i64 (-1)), .d (D.i .i64 (-1)), .d (D.s (ByteArray.mk #[])), .d (D.b false), .d (D.i .i64 0), .d (D.sl []), .d (D.i .i64 (-1)), .d (D.i .u8 0), .d (D.b false), .d (D.i .i64 (-1)), .d (D.i .i64 0), .d (D.i .i64 0)], .row 54 kL10]) rfl ?_
 refine WL.ns ?_
 refine wc_sr ?_
 refine WL.qn (y_fieldAddr kf54_5 rfl) rfl ?_
 refine WL.s0 (d_storeS rfl rfl rfl rfl rfl rfl ks3 rfl rfl) (Wt.none rfl) rfl ?_
 refine WL.st (st' := [.row 28 [sN, sN, sN, sN, sN], .row 54 [.d (D.i .u8 3), .d (D.s (ByteArray.mk #[67, 111, 108, 111, 114])), .d (D.i .i64 (-1)), .d (D.i .i64 1), .d (D.sl [[.s (ByteArray.mk #[82, 101, 100])], [.s (ByteArray.mk #[71, 114, 101, 101, 110])]]), .d (D.i .i64 (-1)), .d (D.i .i64 (-1)), .d (D.i .i64 (-1)), .d (D.s (ByteArray.mk #[])), .d (D.b false), .d (D.i .i64 0), .d (D.sl []), .d (D.i .i64 (-1)), .d (D.i .u8 0), .d (D.b false), .d (D.i .i64 (-1)), .d (D.i .i64 0), .d (D.i .i64 0)], .row 54 [.d (D.i .u8 4), .d (D.s (ByteArray.mk #[82, 111, 119])), .d (D.i .i64 (-1)), .d (D.i .i64 3), .d (D.sl []), .d (D.i .i64 2), .d (D.i .i64 (-1)), .d (D.i .i64 (-1)), .d (D.s (ByteArray.mk #[])), .d (D.b false), .d (D.i .i64 0), .d (D.sl []), .d (D.i .i64 (-1)), .d (D.i .u8 0), .d (D.b false), .d (D.i .i64 (-1)), .d (D.i .i64 0), .d (D.i .i64 0)]]) rfl ?_
 refine WL.qn (y_fieldAddr kf54_6 rfl) rfl ?_
 refine WL.s0 (d_storeS rfl rfl rfl rfl rfl rfl ks3 rfl rfl) (Wt.none rfl) rfl ?_
 refine WL.st (st' := [.row 28 [sN, sN, sN, sN, sN], .row 54 [.d (D.i .u8 3), .d (D.s (ByteArray.mk #[67, 111, 108, 111, 114])), .d (D.i .i64 (-1)), .d (D.i .i64 1), .d (D.sl [[.s (ByteArray.mk #[82, 101, 100])], [.s (ByteArray.mk #[71, 114, 101, 101, 110])]]), .d (D.i .i64 (-1)), .d (D.i .i64 (-1)), .d (D.i .i64 (-1)), .d (D.s (ByteArray.mk #[])), .d (D.b false), .d (D.i .i64 0), .d (D.sl []), .d (D.i .i64 (-1)), .d (D.i .u8 0), .d (D.b false), .d (D.i .i64 (-1)), .d (D.i .i64 0), .d (D.i .i64 0)], .row 54 kL0]) rfl ?_
 refine WL.ns ?_
 refine wc_sr ?_
 refine WL.fn rfl rfl rfl rfl (f39_c 5 (ByteArray.mk #[82, 101, 99]) 4) ⟨(Le.refl _), ⟨(Le.refl _), ⟨(Le.refl _), trivial⟩⟩⟩ (Wt.none rfl) rfl rfl ?_
 refine WL.cast 10 rfl (Le.trans (Le.dag _) (Le.of (y := .ag kL4) rfl)) ?_
 refine WL.s ((b_alloc kz54).does) (Wt.none rfl) rfl rfl ?_
 refine WL.s0 (d_storeS rfl rfl rfl rfl rfl rfl ks54 rfl rfl) (Wt.none rfl) rfl ?_
 refine WL.st (st' := [.row 28 [sN, sN, sN, sN, sN], .row 54 [.d (D.i .u8 3), .d (D.s (ByteArray.mk #[67, 111, 108, 111, 114])), .d (D.i .i64 (-1)), .d (D.i .i64 1), .d (D.sl [[.s (ByteArray.mk #[82, 101, 100])], [.s (ByteArray.mk #[71, 114, 101, 101, 110])]]), .d (D.i .i64 (-1)), .d (D.i .i64 (-1)), .d (D.i .i64 (-1)), .d (D.s (ByteArray.mk #[])), .d (D.b false), .d (D.i .i64 0), .d (D.sl []), .d (D.i .i64 (-1)), .d (D.i .u8 0), .d (D.b false), .d (D.i .i64 (-1)), .d (D.i .i64 0), .d (D.i .i64 0)], .row 54 kL0, .row 54 kL4]) rfl ?_
 refine WL.ns ?_
 refine wc_sr ?_
 refine WL.qn (y_fieldAddr kf54_7 rfl) rfl ?_
 refine WL.s0 (d_storeS rfl rfl rfl rfl rfl rfl ks3 rfl rfl) (Wt.none rfl) rfl ?_
 refine WL.st (st' := [.row 28 [sN, sN, sN, sN, sN], .row 54 [.d (D.i .u8 3), .d (D.s (ByteArray.mk #[67, 111, 108, 111, 114])), .d (D.i .i64 (-1)), .d (D.i .i64 1), .d (D.sl [[.s (ByteArray.mk #[82, 101, 100])], [.s (ByteArray.mk #[71, 114, 101, 101, 110])]]), .d (D.i .i64 (-1)), .d (D.i .i64 (-1)), .d (D.i .i64 (-1)), .d (D.s (ByteArray.mk #[])), .d (D.b false), .d (D.i .i64 0), .d (D.sl []), .d (D.i .i64 (-1)), .d (D.i .u8 0), .d (D.b false), .d (D.i .i64 (-1)), .d (D.i .i64 0), .d (D.i .i64 0)], .row 54 kL0, .row 54 [.d (D.i .u8 5), .d (D.s (ByteArray.mk #[82, 101, 99])), .d (D.i .i64 (-1)), .d (D.i .i64 4), .d (D.sl []), .d (D.i .i64 (-1)), .d (D.i .i64 (-1)), .d (D.i .i64 1), .d (D.s (ByteArray.mk #[])), .d (D.b false), .d (D.i .i64 0), .d (D.sl []), .d (D.i .i64 (-1)), .d (D.i .u8 0), .d (D.b false), .d (D.i .i64 (-1)), .d (D.i .i64 0), .d (D.i .i64 0)]]) rfl ?_
 refine WL.qn (y_fieldAddr kf54_8 rfl) rfl ?_
 refine WL.s0 (d_storeS rfl rfl rfl rfl rfl rfl ks9 rfl rfl) (Wt.none rfl) rfl ?_
 refine WL.st (st' := [.row 28 [sN, sN, sN, sN, sN], .row 54 [.d (D.i .u8 3), .d (D.s (ByteArray.mk #[67, 111, 108, 111, 114])), .d (D.i .i64 (-1)), .d (D.i .i64 1), .d (D.sl [[.s (ByteArray.mk #[82, 101, 100])], [.s (ByteArray.mk #[71, 114, 101, 101, 110])]]), .d (D.i .i64 (-1)), .d (D.i .i64 (-1)), .d (D.i .i64 (-1)), .d (D.s (ByteArray.mk #[])), .d (D.b false), .d (D.i .i64 0), .d (D.sl []), .d (D.i .i64 (-1)), .d (D.i .u8 0), .d (D.b false), .d (D.i .i64 (-1)), .d (D.i .i64 0), .d (D.i .i64 0)], .row 54 kL0, .row 54 [.d (D.i .u8 5), .d (D.s (ByteArray.mk #[82, 101, 99])), .d (D.i .i64 (-1)), .d (D.i .i64 4), .d (D.sl []), .d (D.i .i64 (-1)), .d (D.i .i64 (-1)), .d (D.i .i64 1), .d (D.s (ByteArray.mk #[68])), .d (D.b false), .d (D.i .i64 0), .d (D.sl []), .d (D.i .i64 (-1)), .d (D.i .u8 0), .d (D.b false), .d (D.i .i64 (-1)), .d (D.i .i64 0), .d (D.i .i64 0)]]) rfl ?_
 refine WL.qn (y_fieldAddr kf54_9 rfl) rfl ?_
 refine WL.s0 (d_storeS rfl rfl rfl rfl rfl rfl ks4 rfl rfl) (Wt.none rfl) rfl ?_
 refine WL.st (st' := [.row 28 [sN, sN, sN, sN, sN], .row 54 [.d (D.i .u8 3), .d (D.s (ByteArray.mk #[67, 111, 108, 111, 114])), .d (D.i .i64 (-1)), .d (D.i .i64 1), .d (D.sl [[.s (ByteArray.mk #[82, 101, 100])], [.s (ByteArray.mk #[71, 114, 101, 101, 110])]]), .d (D.i .i64 (-1)), .d (D.i .i64 (-1)), .d (D.i .i64 (-1)), .d (D.s (ByteArray.mk #[])), .d (D.b false), .d (D.i .i64 0), .d (D.sl []), .d (D.i .i64 (-1)), .d (D.i .u8 0), .d (D.b false), .d (D.i .i64 (-1)), .d (D.i .i64 0), .d (D.i .i64 0)], .row 54 kL0, .row 54 [.d (D.i .u8 5), .d (D.s (ByteArray.mk #[82, 101, 99])), .d (D.i .i64 (-1)), .d (D.i .i64 4), .d (D.sl []), .d (D.i .i64 (-1)), .d (D.i .i64 (-1)), .d (D.i .i64 1), .d (D.s (ByteArray.mk #[68])), .d (D.b true), .d (D.i .i64 0), .d (D.sl []), .d (D.i .i64 (-1)), .d (D.i .u8 0), .d (D.b false), .d (D.i .i64 (-1)), .d (D.i .i64 0), .d (D.i .i64 0)]]) rfl ?_
 refine WL.qn (y_fieldAddr kf54_10 rfl) rfl ?_
 refine WL.s0 (d_storeS rfl rfl rfl rfl rfl rfl ks2 rfl rfl) (Wt.none rfl) rfl ?_
 refine WL.st (st' := [.row 28 [sN, sN, sN, sN, sN], .row 54 [.d (D.i .u8 3), .d (D.s (ByteArray.mk #[67, 111, 108, 111, 114])), .d (D.i .i64 (-1)), .d (D.i .i64 1), .d (D.sl [[.s (ByteArray.mk #[82, 101, 100])], [.s (ByteArray.mk #[71, 114, 101, 101, 110])]]), .d (D.i .i64 (-1)), .d (D.i .i64 (-1)), .d (D.i .i64 (-1)), .d (D.s (ByteArray.mk #[])), .d (D.b false), .d (D.i .i64 0), .d (D.sl []), .d (D.i .i64 (-1)), .d (D.i .u8 0), .d (D.b false), .d (D.i .i64 (-1)), .d (D.i .i64 0), .d (D.i .i64 0)], .row 54 kL0, .row 54 [.d (D.i .u8 5), .d (D.s (ByteArray.mk #[82, 101, 99])), .d (D.i .i64 (-1)), .d (D.i .i64 4), .d (D.sl []), .d (D.i .i64 (-1)), .d (D.i .i64 (-1)), .d (D.i .i64 1), .d (D.s (ByteArray.mk #[68])), .d (D.b true), .d (D.i .i64 1), .d (D.sl []), .d (D.i .i64 (-1)), .d (D.i .u8 0), .d (D.b false), .d (D.i .i64 (-1)), .d (D.i .i64 0), .d (D.i .i64 0)]]) rfl ?_
 refine WL.ns ?_
 refine wc_sr ?_
 refine WL.qn (y_build kp56 kz56 rfl rfl) rfl ?_
 refine WL.sub (env' := [(0, .pt 0 0), (1, .pt 1 0), (2, .pt 2 0), (3, .pt 3 0), (4, .ag kL5), (5, .d (D.sl [[.s (ByteArray.mk #[82, 101, 100])], [.s (ByteArray.mk #[71, 114, 101, 101, 110])]])), (6, .pt 1 4), (7, .ag kL10), (8, .pt 2 5), (9, .pt 2 6), (10, .ag kL4), (11, .pt 3 7), (12, .pt 3 8), (13, .pt 3 9), (14, .pt 3 10), (15, .ag [.d (D.s (ByteArray.mk #[120])), .d (D.i .i64 0), .d (D.b false), .d (D.i .i64 0), .d (D.b false), .d (D.sl [])])]) (Sub.one rfl (Sub.one rfl (Sub.one rfl (Sub.one rfl (Sub.one rfl (Sub.one rfl (Sub.one rfl (Sub.one rfl (Sub.one rfl (Sub.one rfl (Sub.one rfl (Sub.one rfl (Sub.one rfl (Sub.one rfl (Sub.one rfl (Sub.cons rfl (Le.ag ⟨(Le.refl _), ⟨(Le.refl _), ⟨(Le.refl _), ⟨(Le.refl _), ⟨(Le.refl _), ⟨Le.nil, trivial⟩⟩⟩⟩⟩⟩) (Sub.nil _))))))))))))))))) ?_
 refine WL.s ((NewOs.data (ds := [[.i .i64 1]]) (n_buildSlice kl41 kz2 rfl (by decide) (by decide) rfl rfl rfl (by decide)) rfl).does) (Wt.none rfl) rfl rfl ?_
 refine WL.qn (y_build kp56 kz56 rfl rfl) rfl ?_
 refine WL.s ((NewOs.b (n_buildSlice kl51 kz56 rfl (by decide) (by decide) rfl rfl rfl (by decide))).does) (Wt.none rfl) rfl rfl ?_
 refine WL.st (st' := [.row 28 [sN, sN, sN, sN, sN], .row 54 [.d (D.i .u8 3), .d (D.s (ByteArray.mk #[67, 111, 108, 111, 114])), .d (D.i .i64 (-1)), .d (D.i .i64 1), .d (D.sl [[.s (ByteArray.mk #[82, 101, 100])], [.s (ByteArray.mk #[71, 114, 101, 101, 110])]]), .d (D.i .i64 (-1)), .d (D.i .i64 (-1)), .d (D.i .i64 (-1)), .d (D.s (ByteArray.mk #[])), .d (D.b false), .d (D.i .i64 0), .d (D.sl []), .d (D.i .i64 (-1)), .d (D.i .u8 0), .d (D.b false), .d (D.i .i64 (-1)), .d (D.i .i64 0), .d (D.i .i64 0)], .row 54 kL0, .row 54 [.d (D.i .u8 5), .d (D.s (ByteArray.mk #[82, 101, 99])), .d (D.i .i64 (-1)), .d (D.i .i64 4), .d (D.sl []), .d (D.i .i64 (-1)), .d (D.i .i64 (-1)), .d (D.i .i64 1), .d (D.s (ByteArray.mk #[68])), .d (D.b true), .d (D.i .i64 1), .d (D.sl []), .d (D.i .i64 (-1)), .d (D.i .u8 0), .d (D.b false), .d (D.i .i64 (-1)), .d (D.i .i64 0), .d (D.i .i64 0)], .os 56 6 0 [[.d (D.s (ByteArray.mk #[120])), .d (D.i .i64 0), .d (D.b false), .d (D.i .i64 0), .d (D.b false), .d (D.sl [])], [.d (D.s (ByteArray.mk #[121])), .d (D.i .i64 2), .d (D.b true), .d (D.i .i64 7), .d (D.b true), .d (D.sl [[.i .i64 1]])]]]) rfl ?_
 refine WL.qn (y_fieldAddr kf54_11 rfl) rfl ?_
 refine WL.s0 (d_store1 rfl rfl rfl (one_os rfl) ks51 rfl) (Wt.none rfl) rfl ?_
 refine WL.st (st' := [.row 28 [sN, sN, sN, sN, sN], .row 54 [.d (D.i .u8 3), .d (D.s (ByteArray.mk #[67, 111, 108, 111, 114])), .d (D.i .i64 (-1)), .d (D.i .i64 1), .d (D.sl [[.s (ByteArray.mk #[82, 101, 100])], [.s (ByteArray.mk #[71, 114, 101, 101, 110])]]), .d (D.i .i64 (-1)), .d (D.i .i64 (-1)), .d (D.i .i64 (-1)), .d (D.s (ByteArray.mk #[])), .d (D.b false), .d (D.i .i64 0), .d (D.sl []), .d (D.i .i64 (-1)), .d (D.i .u8 0), .d (D.b false), .d (D.i .i64 (-1)), .d (D.i .i64 0), .d (D.i .i64 0)], .row 54 kL0, .row 54 kL1, .os 56 6 0 [[.d (D.s (ByteArray.mk #[120])), .d (D.i .i64 0), .d (D.b false), .d (D.i .i64 0), .d (D.b false), .d (D.sl [])], [.d (D.s (ByteArray.mk #[121])), .d (D.i .i64 2), .d (D.b true), .d (D.i .i64 7), .d (D.b true), .d (D.sl [[.i .i64 1]])]]]) rfl ?_
 refine WL.ns ?_
 refine wc_seq ?_
 refine Gh.wc gh_rsv ?_
 refine Gh.wc gh_rsv ?_
 apply wc_region_set [.ag kL2, .ag kL3, .ag [.d (D.i .u8 3), .d (D.s (ByteArray.mk #[67, 111, 108, 111, 114])), .d (D.i .i64 (-1)), .d (D.i .i64 1), .d (D.sl [[.s (ByteArray.mk #[82, 101, 100])], [.s (ByteArray.mk #[71, 114, 101, 101, 110])]]), .d (D.i .i64 (-1)), .d (D.i .i64 (-1)), .d (D.i .i64 (-1)), .d (D.s (ByteArray.mk #[])), .d (D.b false), .d (D.i .i64 0), .d (D.sl []), .d (D.i .i64 (-1)), .d (D.i .u8 0), .d (D.b false), .d (D.i .i64 (-1)), .d (D.i .i64 0), .d (D.i .i64 0)], .ag kL0, .ag kL1, .os 5 0, .ag [.d (D.i .i64 1), .d (D.i .i64 (-2147483648)), .d (D.i .i64 2147483647)], .ag [.d (D.i .i64 2), .d (D.i .i64 0), .d (D.i .i64 1)], .ag [.d (D.i .i64 1), .d (D.i .i64 5), .d (D.i .i64 9)], .ag [.d (D.i .i64 3), .d (D.i .i64 0), .d (D.i .i64 0)], .ag [.d (D.i .i64 4), .d (D.i .i64 0), .d (D.i .i64 (-1))], .ag [.d (D.i .i64 4), .d (D.i .i64 0), .d (D.i .i64 0)], .os 6 0, .ag [.os 5 0, .os 6 0, sN, sN, sN], .u] [[], [0], [], [], [], [0, 1, 2, 3, 4], [], [], [], [], [], [], [6, 7, 8, 9, 10, 11], [0, 1, 2, 3, 4, 5, 6, 7, 8, 9, 10, 11, 12], [0, 1, 2, 3, 4, 5, 6, 7, 8, 9, 10, 11, 12, 13]] [5, 12, 14] (tblB [([false, false, false], [.row 28 [sN, sN, sN, sN, sN], .row 54 [.d (D.i .u8 3), .d (D.s (ByteArray.mk #[67, 111, 108, 111, 114])), .d (D.i .i64 (-1)), .d (D.i .i64 1), .d (D.sl [[.s (ByteArray.mk #[82, 101, 100])], [.s (ByteArray.mk #[71, 114, 101, 101, 110])]]), .d (D.i .i64 (-1)), .d (D.i .i64 (-1)), .d (D.i .i64 (-1)), .d (D.s (ByteArray.mk #[])), .d (D.b false), .d (D.i .i64 0), .d (D.sl []), .d (D.i .i64 (-1)), .d (D.i .u8 0), .d (D.b false), .d (D.i .i64 (-1)), .d (D.i .i64 0), .d (D.i .i64 0)], .row 54 kL0, .row 54 kL1, .os 56 6 0 [[.d (D.s (ByteArray.mk #[120])), .d (D.i .i64 0), .d (D.b false), .d (D.i .i64 0), .d (D.b false), .d (D.sl [])], [.d (D.s (ByteArray.mk #[121])), .d (D.i .i64 2), .d (D.b true), .d (D.i .i64 7), .d (D.b true), .d (D.sl [[.i .i64 1]])]], .rsv, .rsv]), ([true, false, false], [.row 28 [sN, sN, sN, sN, sN], .row 54 [.d (D.i .u8 3), .d (D.s (ByteArray.mk #[67, 111, 108, 111, 114])), .d (D.i .i64 (-1)), .d (D.i .i64 1), .d (D.sl [[.s (ByteArray.mk #[82, 101, 100])], [.s (ByteArray.mk #[71, 114, 101, 101, 110])]]), .d (D.i .i64 (-1)), .d (D.i .i64 (-1)), .d (D.i .i64 (-1)), .d (D.s (ByteArray.mk #[])), .d (D.b false), .d (D.i .i64 0), .d (D.sl []), .d (D.i .i64 (-1)), .d (D.i .u8 0), .d (D.b false), .d (D.i .i64 (-1)), .d (D.i .i64 0), .d (D.i .i64 0)], .row 54 kL0, .row 54 kL1, .os 56 6 0 [[.d (D.s (ByteArray.mk #[120])), .d (D.i .i64 0), .d (D.b false), .d (D.i .i64 0), .d (D.b false), .d (D.sl [])], [.d (D.s (ByteArray.mk #[121])), .d (D.i .i64 2), .d (D.b true), .d (D.i .i64 7), .d (D.b true), .d (D.sl [[.i .i64 1]])]], .os 54 18 0 [kL2, kL3, [.d (D.i .u8 3), .d (D.s (ByteArray.mk #[67, 111, 108, 111, 114])), .d (D.i .i64 (-1)), .d (D.i .i64 1), .d (D.sl [[.s (ByteArray.mk #[82, 101, 100])], [.s (ByteArray.mk #[71, 114, 101, 101, 110])]]), .d (D.i .i64 (-1)), .d (D.i .i64 (-1)), .d (D.i .i64 (-1)), .d (D.s (ByteArray.mk #[])), .d (D.b false), .d (D.i .i64 0), .d (D.sl []), .d (D.i .i64 (-1)), .d (D.i .u8 0), .d (D.b false), .d (D.i .i64 (-1)), .d (D.i .i64 0), .d (D.i .i64 0)], kL0, kL1], .rsv]), ([false, true, false], [.row 28 [sN, sN, sN, sN, sN], .row 54 [.d (D.i .u8 3), .d (D.s (ByteArray.mk #[67, 111, 108, 111, 114])), .d (D.i .i64 (-1)), .d (D.i .i64 1), .d (D.sl [[.s (ByteArray.mk #[82, 101, 100])], [.s (ByteArray.mk #[71, 114, 101, 101, 110])]]), .d (D.i .i64 (-1)), .d (D.i .i64 (-1)), .d (D.i .i64 (-1)), .d (D.s (ByteArray.mk #[])), .d (D.b false), .d (D.i .i64 0), .d (D.sl []), .d (D.i .i64 (-1)), .d (D.i .u8 0), .d (D.b false), .d (D.i .i64 (-1)), .d (D.i .i64 0), .d (D.i .i64 0)], .row 54 kL0, .row 54 kL1, .os 56 6 0 [[.d (D.s (ByteArray.mk #[120])), .d (D.i .i64 0), .d (D.b false), .d (D.i .i64 0), .d (D.b false), .d (D.sl [])], [.d (D.s (ByteArray.mk #[121])), .d (D.i .i64 2), .d (D.b true), .d (D.i .i64 7), .d (D.b true), .d (D.sl [[.i .i64 1]])]], .rsv, .os 40 3 0 [[.d (D.i .i64 1), .d (D.i .i64 (-2147483648)), .d (D.i .i64 2147483647)], [.d (D.i .i64 2), .d (D.i .i64 0), .d (D.i .i64 1)], [.d (D.i .i64 1), .d (D.i .i64 5), .d (D.i .i64 9)], [.d (D.i .i64 3), .d (D.i .i64 0), .d (D.i .i64 0)], [.d (D.i .i64 4), .d (D.i .i64 0), .d (D.i .i64 (-1))], [.d (D.i .i64 4), .d (D.i .i64 0), .d (D.i .i64 0)]]]), ([true, true, false], [.row 28 [sN, sN, sN, sN, sN], .row 54 [.d (D.i .u8 3), .d (D.s (ByteArray.mk #[67, 111, 108, 111, 114])), .d (D.i .i64 (-1)), .d (D.i .i64 1), .d (D.sl [[.s (ByteArray.mk #[82, 101, 100])], [.s (ByteArray.mk #[71, 114, 101, 101, 110])]]), .d (D.i .i64 (-1)), .d (D.i .i64 (-1)), .d (D.i .i64 (-1)), .d (D.s (ByteArray.mk #[])), .d (D.b false), .d (D.i .i64 0), .d (D.sl []), .d (D.i .i64 (-1)), .d (D.i .u8 0), .d (D.b false), .d (D.i .i64 (-1)), .d (D.i .i64 0), .d (D.i .i64 0)], .row 54 kL0, .row 54 kL1, .os 56 6 0 [[.d (D.s (ByteArray.mk #[120])), .d (D.i .i64 0), .d (D.b false), .d (D.i .i64 0), .d (D.b false), .d (D.sl [])], [.d (D.s (ByteArray.mk #[121])), .d (D.i .i64 2), .d (D.b true), .d (D.i .i64 7), .d (D.b true), .d (D.sl [[.i .i64 1]])]], .os 54 18 0 [kL2, kL3, [.d (D.i .u8 3), .d (D.s (ByteArray.mk #[67, 111, 108, 111, 114])), .d (D.i .i64 (-1)), .d (D.i .i64 1), .d (D.sl [[.s (ByteArray.mk #[82, 101, 100])], [.s (ByteArray.mk #[71, 114, 101, 101, 110])]]), .d (D.i .i64 (-1)), .d (D.i .i64 (-1)), .d (D.i .i64 (-1)), .d (D.s (ByteArray.mk #[])), .d (D.b false), .d (D.i .i64 0), .d (D.sl []), .d (D.i .i64 (-1)), .d (D.i .u8 0), .d (D.b false), .d (D.i .i64 (-1)), .d (D.i .i64 0), .d (D.i .i64 0)], kL0, kL1], .os 40 3 0 [[.d (D.i .i64 1), .d (D.i .i64 (-2147483648)), .d (D.i .i64 2147483647)], [.d (D.i .i64 2), .d (D.i .i64 0), .d (D.i .i64 1)], [.d (D.i .i64 1), .d (D.i .i64 5), .d (D.i .i64 9)], [.d (D.i .i64 3), .d (D.i .i64 0), .d (D.i .i64 0)], [.d (D.i .i64 4), .d (D.i .i64 0), .d (D.i .i64 (-1))], [.d (D.i .i64 4), .d (D.i .i64 0), .d (D.i .i64 0)]]]), ([true, true, true], [.row 28 [.os 5 0, .os 6 0, sN, sN, sN], .row 54 [.d (D.i .u8 3), .d (D.s (ByteArray.mk #[67, 111, 108, 111, 114])), .d (D.i .i64 (-1)), .d (D.i .i64 1), .d (D.sl [[.s (ByteArray.mk #[82, 101, 100])], [.s (ByteArray.mk #[71, 114, 101, 101, 110])]]), .d (D.i .i64 (-1)), .d (D.i .i64 (-1)), .d (D.i .i64 (-1)), .d (D.s (ByteArray.mk #[])), .d (D.b false), .d (D.i .i64 0), .d (D.sl []), .d (D.i .i64 (-1)), .d (D.i .u8 0), .d (D.b false), .d (D.i .i64 (-1)), .d (D.i .i64 0), .d (D.i .i64 0)], .row 54 kL0, .row 54 kL1, .os 56 6 0 [[.d (D.s (ByteArray.mk #[120])), .d (D.i .i64 0), .d (D.b false), .d (D.i .i64 0), .d (D.b false), .d (D.sl [])], [.d (D.s (ByteArray.mk #[121])), .d (D.i .i64 2), .d (D.b true), .d (D.i .i64 7), .d (D.b true), .d (D.sl [[.i .i64 1]])]], .os 54 18 0 [kL2, kL3, [.d (D.i .u8 3), .d (D.s (ByteArray.mk #[67, 111, 108, 111, 114])), .d (D.i .i64 (-1)), .d (D.i .i64 1), .d (D.sl [[.s (ByteArray.mk #[82, 101, 100])], [.s (ByteArray.mk #[71, 114, 101, 101, 110])]]), .d (D.i .i64 (-1)), .d (D.i .i64 (-1)), .d (D.i .i64 (-1)), .d (D.s (ByteArray.mk #[])), .d (D.b false), .d (D.i .i64 0), .d (D.sl []), .d (D.i .i64 (-1)), .d (D.i .u8 0), .d (D.b false), .d (D.i .i64 (-1)), .d (D.i .i64 0), .d (D.i .i64 0)], kL0, kL1], .os 40 3 0 [[.d (D.i .i64 1), .d (D.i .i64 (-2147483648)), .d (D.i .i64 2147483647)], [.d (D.i .i64 2), .d (D.i .i64 0), .d (D.i .i64 1)], [.d (D.i .i64 1), .d (D.i .i64 5), .d (D.i .i64 9)], [.d (D.i .i64 3), .d (D.i .i64 0), .d (D.i .i64 0)], [.d (D.i .i64 4), .d (D.i .i64 0), .d (D.i .i64 (-1))], [.d (D.i .i64 4), .d (D.i .i64 0), .d (D.i .i64 0)]]])]) [([], [], [[false, false, false], [false, true, false]]), ([], [], [[false, false, false], [false, true, false]]), ([], [1], [[false, false, false], [false, true, false]]), ([], [2], [[false, false, false], [false, true, false]]), ([], [3], [[false, false, false], [false, true, false]]), ([0, 1, 2, 3, 4], [], [[false, false, false], [false, true, false]]), ([], [], [[false, false, false], [true, false, false]]), ([], [], [[false, false, false], [true, false, false]]), ([], [], [[false, false, false], [true, false, false]]), ([], [], [[false, false, false], [true, false, false]]), ([], [], [[false, false, false], [true, false, false]]), ([], [], [[false, false, false], [true, false, false]]), ([6, 7, 8, 9, 10, 11], [], [[false, false, false], [true, false, false]]), ([5, 12], [], [[true, true, false]]), ([13], [0], [[true, true, false]])] (by kernel_rfl) (by kernel_rfl) rfl rfl rfl
 ·refine ⟨?_, ?_, ?_, ?_, ?_, ?_, ?_, ?_, ?_, ?_, ?_, ?_, ?_, ?_, ?_, trivial⟩
  ·refine ⟨fun F => ?_, fun F => ?_, trivial⟩
   ·refine WL.fn rfl rfl rfl rfl (f37_c 1) ⟨(Le.refl _), trivial⟩ (Wt.none rfl) rfl rfl ?_
    refine WL.cast 20 rfl (Le.trans (Le.dag _) (Le.of (y := .ag kL2) rfl)) ?_
    exact WL.done2 rfl rfl rfl
   ·refine WL.fn rfl rfl rfl rfl (f37_c 1) ⟨(Le.refl _), trivial⟩ (Wt.none rfl) rfl rfl ?_
    refine WL.cast 20 rfl (Le.trans (Le.dag _) (Le.of (y := .ag kL2) rfl)) ?_
    exact WL.done2 rfl rfl rfl
  ·refine ⟨fun F => ?_, fun F => ?_, trivial⟩
   ·refine WL.fn rfl rfl rfl rfl (f39_c 2 (ByteArray.mk #[73, 110, 116, 101, 103, 101, 114]) 0) ⟨(Le.refl _), ⟨(Le.refl _), ⟨(Le.refl _), trivial⟩⟩⟩ (Wt.none rfl) rfl rfl ?_
    refine WL.cast 21 rfl (Le.trans (Le.dag _) (Le.of (y := .ag kL3) rfl)) ?_
    exact WL.done2 rfl rfl rfl
   ·refine WL.fn rfl rfl rfl rfl (f39_c 2 (ByteArray.mk #[73, 110, 116, 101, 103, 101, 114]) 0) ⟨(Le.refl _), ⟨(Le.refl _), ⟨(Le.refl _), trivial⟩⟩⟩ (Wt.none rfl) rfl rfl ?_
    refine WL.cast 21 rfl (Le.trans (Le.dag _) (Le.of (y := .ag kL3) rfl)) ?_
    exact WL.done2 rfl rfl rfl
  ·refine ⟨fun F => ?_, fun F => ?_, trivial⟩
   ·refine WL.qn (y_loadN rfl rfl ka54 ks54 rfl) rfl ?_
    exact WL.done1 rfl rfl rfl
   ·refine WL.qn (y_loadN rfl rfl ka54 ks54 rfl) rfl ?_
    exact WL.done1 rfl rfl rfl
  ·refine ⟨fun F => ?_, fun F => ?_, trivial⟩
   ·refine WL.qn (y_loadN rfl rfl ka54 ks54 rfl) rfl ?_
    exact WL.done1 rfl rfl rfl
   ·refine WL.qn (y_loadN rfl rfl ka54 ks54 rfl) rfl ?_
    exact WL.done1 rfl rfl rfl
  ·refine ⟨fun F => ?_, fun F => ?_, trivial⟩
   ·refine WL.qn (y_loadN rfl rfl ka54 ks54 rfl) rfl ?_
    exact WL.done1 rfl rfl rfl
   ·refine WL.qn (y_loadN rfl rfl ka54 ks54 rfl) rfl ?_
    exact WL.done1 rfl rfl rfl
  ·refine ⟨fun F => ?_, fun F => ?_, trivial⟩
   ·refine WL.s ((DoesB.fill (NewOs.b (n_buildSlice kl22 kz54 rfl (by decide) (by decide) rfl rfl rfl (by decide))) 5 rfl (by repeat' (first | exact rfl | exact lt_os _ _ _ _ _ _ | exact lt_mp _ _ _ _ | refine stLt_cons ?_ ?_)) (.inr (.inl ⟨_, rfl, rfl⟩))).does) (Wt.none rfl) rfl rfl ?_
    exact WL.done1 rfl rfl rfl
   ·refine WL.s ((DoesB.fill (NewOs.b (n_buildSlice kl22 kz54 rfl (by decide) (by decide) rfl rfl rfl (by decide))) 5 rfl (by repeat' (first | exact rfl | exact lt_os _ _ _ _ _ _ | exact lt_mp _ _ _ _ | refine stLt_cons ?_ ?_)) (.inr (.inl ⟨_, rfl, rfl⟩))).does) (Wt.none rfl) rfl rfl ?_
    exact WL.done1 rfl rfl rfl
  ·refine ⟨fun F => ?_, fun F => ?_, trivial⟩
   ·refine WL.qn (y_build kp40 kz40 rfl rfl) rfl ?_
    exact WL.done1 rfl rfl rfl
   ·refine WL.qn (y_build kp40 kz40 rfl rfl) rfl ?_
    exact WL.done1 rfl rfl rfl
  ·refine ⟨fun F => ?_, fun F => ?_, trivial⟩
   ·refine WL.qn (y_build kp40 kz40 rfl rfl) rfl ?_
    exact WL.done1 rfl rfl rfl
   ·refine WL.qn (y_build kp40 kz40 rfl rfl) rfl ?_
    exact WL.done1 rfl rfl rfl
  ·refine ⟨fun F => ?_, fun F => ?_, trivial⟩
   ·refine WL.qn (y_build kp40 kz40 rfl rfl) rfl ?_
    exact WL.done1 rfl rfl rfl
   ·refine WL.qn (y_build kp40 kz40 rfl rfl) rfl ?_
    exact WL.done1 rfl rfl rfl
  ·refine ⟨fun F => ?_, fun F => ?_, trivial⟩
   ·refine WL.qn (y_build kp40 kz40 rfl rfl) rfl ?_
    exact WL.done1 rfl rfl rfl
   ·refine WL.qn (y_build kp40 kz40 rfl rfl) rfl ?_
    exact WL.done1 rfl rfl rfl
  ·refine ⟨fun F => ?_, fun F => ?_, trivial⟩
   ·refine WL.qn (y_build kp40 kz40 rfl rfl) rfl ?_
    exact WL.done1 rfl rfl rfl
   ·refine WL.qn (y_build kp40 kz40 rfl rfl) rfl ?_
    exact WL.done1 rfl rfl rfl
  ·refine ⟨fun F => ?_, fun F => ?_, trivial⟩
   ·refine WL.qn (y_build kp40 kz40 rfl rfl) rfl ?_
    exact WL.done1 rfl rfl rfl
   ·refine WL.qn (y_build kp40 kz40 rfl rfl) rfl ?_
    exact WL.done1 rfl rfl rfl
  ·refine ⟨fun F => ?_, fun F => ?_, trivial⟩
   ·refine WL.s ((DoesB.fill (NewOs.b (n_buildSlice kl23 kz40 rfl (by decide) (by decide) rfl rfl rfl (by decide))) 6 rfl (by repeat' (first | exact rfl | exact lt_os _ _ _ _ _ _ | exact lt_mp _ _ _ _ | refine stLt_cons ?_ ?_)) (.inr (.inl ⟨_, rfl, rfl⟩))).does) (Wt.none rfl) rfl rfl ?_
    exact WL.done1 rfl rfl rfl
   ·refine WL.s ((DoesB.fill (NewOs.b (n_buildSlice kl23 kz40 rfl (by decide) (by decide) rfl rfl rfl (by decide))) 6 rfl (by repeat' (first | exact rfl | exact lt_os _ _ _ _ _ _ | exact lt_mp _ _ _ _ | refine stLt_cons ?_ ?_)) (.inr (.inl ⟨_, rfl, rfl⟩))).does) (Wt.none rfl) rfl rfl ?_
    exact WL.done1 rfl rfl rfl
  ·refine ⟨fun F => ?_, trivial⟩
   ·refine WL.qn (y_buildS kp28 kz28 rfl rfl) rfl ?_
    exact WL.done1 rfl rfl rfl
  ·refine ⟨fun F => ?_, trivial⟩
   ·refine WL.s0 (d_storeS rfl rfl rfl rfl rfl rfl ks28 rfl rfl) (Wt.none rfl) rfl ?_
    exact WL.done0 rfl rfl
 ·refine we_seq ?_
  refine wc_ret ?_
  exact we_ret (rs1 rfl (rv_cN rfl rfl ka28 ks28 rfl)) ⟨rfl, rfl⟩
theorem known_pu : Pu Tryd.prog 9 [] (.b true) := by
 refine fn_intro Tryd.func9 (by kernel_rfl) rfl rfl rfl (fun φφ ww => ?_)
 refine wc_seq ?_
 refine wc_region ?_
 refine WL.as rfl rfl ?_
 refine WL.nil ?_
 refine we_seq ?_
 refine wc_seq ?_
 refine wc_seq ?_
 refine wc_region ?_
 refine WL.qn (y_build kp28 kz28 rfl rfl) rfl ?_
 refine WL.cast 12 rfl (y := .ag [.d (D.sl []), .d (D.sl []), sN, sN, sN]) (Le.ag ⟨Le.nil, ⟨Le.nil, ⟨(Le.refl _), ⟨(Le.refl _), ⟨(Le.refl _), trivial⟩⟩⟩⟩⟩) ?_
 refine WL.bor 6 rfl rfl rfl rfl (by kernel_rfl) (f36_c (Table.mk [] [] (SlV.mk none 0 0) (SlV.mk none 0 0) (SlV.mk none 0 0)) (r := false) (by kernel_rfl)) rfl (Wt.none rfl) rfl rfl ?_
 refine WL.mv rfl rfl ?_
 refine WL.fn rfl rfl rfl rfl (f37_c 1) ⟨(Le.refl _), trivial⟩ (Wt.yes rfl rfl rfl) rfl rfl ?_
 refine WL.cast 15 rfl (Le.trans (Le.dag _) (Le.of (y := .ag kL2) rfl)) ?_
 refine WL.s ((NewOs.b (n_buildSlice kl22 kz54 rfl (by decide) (by decide) rfl rfl rfl (by decide))).does) (Wt.yes rfl rfl rfl) rfl rfl ?_
 refine WL.st (st' := [.os 54 18 0 [kL2]]) rfl ?_
 refine WL.qy (y_buildS kp28 kz28 rfl rfl) rfl rfl rfl ?_
 refine WL.cast 17 rfl (y := .ag [.os 0 0, .d (D.sl []), sN, sN, sN]) (Le.ag ⟨(Le.refl _), ⟨Le.nil, ⟨(Le.refl _), ⟨(Le.refl _), ⟨(Le.refl _), trivial⟩⟩⟩⟩⟩) ?_
 refine WL.bor 6 rfl rfl rfl rfl (by kernel_rfl) (f36_c (Table.mk [kT21] [] (SlV.mk none 0 0) (SlV.mk none 0 0) (SlV.mk none 0 0)) (r := true) (by kernel_rfl)) rfl (Wt.yes rfl rfl rfl) rfl rfl ?_
 refine WL.qy (y_not rfl) rfl rfl rfl ?_
 refine WL.qn (y_pick_f rfl rfl) rfl ?_
 refine WL.nil ?_
 refine we_seq ?_
 refine wc_cond (t := false) rfl (fun h => by cases h) (fun _ => ?_)
 refine wc_skip ?_
 refine we_seq ?_
 refine wc_seq ?_
 refine wc_seq ?_
 refine wc_region ?_
 refine WL.as rfl rfl ?_
 refine WL.nil ?_
 refine we_seq ?_
 refine wc_block ?_
 refine WC.drop 0 (env' := [(1, .d (D.i .i64 0))]) (Sub.one rfl (Sub.nil _)) rfl rfl (Nat.le_refl _) ?_
 refine wc_loop (fun (i : Nat) env' st' => i ≤ 23 ∧ Sub [(1, .d (D.i .i64 (i : Int)))] env' ∧ SLe st' []) (fun i => 23 - i) 0 ⟨by decide, (Sub.one rfl (Sub.nil _)), trivial⟩ ?_
 rintro i env1 st1 ⟨hi, hsub, hst⟩
 refine WC.sub hsub (WC.weak hst ?_)
 refine wc_seq ?_
 refine wc_seq ?_
 refine wc_region ?_
 refine WL.mv rfl rfl ?_
 refine WL.qn (y_lss rfl rfl) rfl ?_
 refine WL.nil ?_
 refine we_seq ?_
 refine wc_cond rfl (fun hc0 => ?_) (fun hc0 => ?_)
 ·replace hc0 := of_decide_eq_true hc0
  refine wc_skip ?_
  refine we_seq ?_
  refine wc_seq ?_
  refine wc_block ?_
  refine wc_seq ?_
  refine wc_region ?_
  refine WL.call rfl rfl rfl rfl some_own trivial (Wt.none rfl) rfl rfl ?_
  rintro r st' ⟨rfl, rfl⟩
  refine WL.s ((b_alloc kz28).does) (Wt.none rfl) rfl rfl ?_
  refine WL.s0 (d_storeS rfl rfl rfl rfl rfl rfl ks28 rfl rfl) (Wt.none rfl) rfl ?_
  refine WL.st (st' := [.row 28 [.os 5 0, .os 6 0, sN, sN, sN], .row 54 [.d (D.i .u8 3), .d (D.s (ByteArray.mk #[67, 111, 108, 111, 114])), .d (D.i .i64 (-1)), .d (D.i .i64 1), .d (D.sl [[.s (ByteArray.mk #[82, 101, 100])], [.s (ByteArray.mk #[71, 114, 101, 101, 110])]]), .d (D.i .i64 (-1)), .d (D.i .i64 (-1)), .d (D.i .i64 (-1)), .d (D.s (ByteArray.mk #[])), .d (D.b false), .d (D.i .i64 0), .d (D.sl []), .d (D.i .i64 (-1)), .d (D.i .u8 0), .d (D.b false), .d (D.i .i64 (-1)), .d (D.i .i64 0), .d (D.i .i64 0)], .row 54 kL0, .row 54 kL1, .os 56 6 0 [[.d (D.s (ByteArray.mk #[120])), .d (D.i .i64 0), .d (D.b false), .d (D.i .i64 0), .d (D.b false), .d (D.sl [])], [.d (D.s (ByteArray.mk #[121])), .d (D.i .i64 2), .d (D.b true), .d (D.i .i64 7), .d (D.b true), .d (D.sl [[.i .i64 1]])]], .os 54 18 0 [kL2, kL3, [.d (D.i .u8 3), .d (D.s (ByteArray.mk #[67, 111, 108, 111, 114])), .d (D.i .i64 (-1)), .d (D.i .i64 1), .d (D.sl [[.s (ByteArray.mk #[82, 101, 100])], [.s (ByteArray.mk #[71, 114, 101, 101, 110])]]), .d (D.i .i64 (-1)), .d (D.i .i64 (-1)), .d (D.i .i64 (-1)), .d (D.s (ByteArray.mk #[])), .d (D.b false), .d (D.i .i64 0), .d (D.sl []), .d (D.i .i64 (-1)), .d (D.i .u8 0), .d (D.b false), .d (D.i .i64 (-1)), .d (D.i .i64 0), .d (D.i .i64 0)], kL0, kL1], .os 40 3 0 [[.d (D.i .i64 1), .d (D.i .i64 (-2147483648)), .d (D.i .i64 2147483647)], [.d (D.i .i64 2), .d (D.i .i64 0), .d (D.i .i64 1)], [.d (D.i .i64 1), .d (D.i .i64 5), .d (D.i .i64 9)], [.d (D.i .i64 3), .d (D.i .i64 0), .d (D.i .i64 0)], [.d (D.i .i64 4), .d (D.i .i64 0), .d (D.i .i64 (-1))], [.d (D.i .i64 4), .d (D.i .i64 0), .d (D.i .i64 0)]], .row 28 [.os 5 0, .os 6 0, sN, sN, sN]]) rfl ?_
  refine WL.nil ?_
  refine we_seq ?_
  refine wc_cut (fun env' st' => ∃ (oC oT oS : List (List AV)) (aT aS : AV) (t : Table), f36 t = some false ∧ viewL (view [.row 28 [.os 5 0, .os 6 0, sN, sN, sN], .row 54 [.d (D.i .u8 3), .d (D.s (ByteArray.mk #[67, 111, 108, 111, 114])), .d (D.i .i64 (-1)), .d (D.i .i64 1), .d (D.sl [[.s (ByteArray.mk #[82, 101, 100])], [.s (ByteArray.mk #[71, 114, 101, 101, 110])]]), .d (D.i .i64 (-1)), .d (D.i .i64 (-1)), .d (D.i .i64 (-1)), .d (D.s (ByteArray.mk #[])), .d (D.b false), .d (D.i .i64 0), .d (D.sl []), .d (D.i .i64 (-1)), .d (D.i .u8 0), .d (D.b false), .d (D.i .i64 (-1)), .d (D.i .i64 0), .d (D.i .i64 0)], .row 54 kL0, .row 54 kL1, .os 56 6 0 oC, .os 54 18 0 oT, .os 40 3 0 oS, .row 28 [aT, aS, sN, sN, sN]] 6) [.ag [aT, aS, sN, sN, sN]] = some [.ag (R28 t)] ∧ Sub [(1, .d (D.i .i64 (i : Int))), (2, .pt 7 0)] env' ∧ st' = [.row 28 [.os 5 0, .os 6 0, sN, sN, sN], .row 54 [.d (D.i .u8 3), .d (D.s (ByteArray.mk #[67, 111, 108, 111, 114])), .d (D.i .i64 (-1)), .d (D.i .i64 1), .d (D.sl [[.s (ByteArray.mk #[82, 101, 100])], [.s (ByteArray.mk #[71, 114, 101, 101, 110])]]), .d (D.i .i64 (-1)), .d (D.i .i64 (-1)), .d (D.i .i64 (-1)), .d (D.s (ByteArray.mk #[])), .d (D.b false), .d (D.i .i64 0), .d (D.sl []), .d (D.i .i64 (-1)), .d (D.i .u8 0), .d (D.b false), .d (D.i .i64 (-1)), .d (D.i .i64 0), .d (D.i .i64 0)], .row 54 kL0, .row 54 kL1, .os 56 6 0 oC, .os 54 18 0 oT, .os 40 3 0 oS, .row 28 [aT, aS, sN, sN, sN]]) ?_ ?_
  ·skip
   refine wc_seq ?_
   refine wc_region ?_
   refine WL.mv rfl rfl ?_
   refine WL.nil ?_
   refine we_seq ?_
   refine wc_block ?_
   refine wc_seq ?_
   refine wc_region ?_
   refine WL.qn (y_eql rfl rfl) rfl ?_
   refine WL.as rfl rfl ?_
   refine WL.nil ?_
   refine we_seq ?_
   refine wc_cond rfl (fun hc1 => ?_) (fun hc1 => ?_)
   ·replace hc1 := of_decide_eq_true hc1
    refine wc_region ?_
    refine WL.qn (y_fieldAddr kf28_0 rfl) rfl ?_
    refine WL.qn (y_load rfl rfl ka22 rfl) rfl ?_
    refine WL.qn (y_indexAddr_os ke22 rfl rfl rfl (by decide) (by decide)) rfl ?_
    refine WL.qn (y_fieldAddr_pe kf54_1 rfl rfl) rfl ?_
    refine WL.s0 (d_store_pe (es' := [kL2, kL9, [.d (D.i .u8 3), .d (D.s (ByteArray.mk #[67, 111, 108, 111, 114])), .d (D.i .i64 (-1)), .d (D.i .i64 1), .d (D.sl [[.s (ByteArray.mk #[82, 101, 100])], [.s (ByteArray.mk #[71, 114, 101, 101, 110])]]), .d (D.i .i64 (-1)), .d (D.i .i64 (-1)), .d (D.i .i64 (-1)), .d (D.s (ByteArray.mk #[])), .d (D.b false), .d (D.i .i64 0), .d (D.sl []), .d (D.i .i64 (-1)), .d (D.i .u8 0), .d (D.b false), .d (D.i .i64 (-1)), .d (D.i .i64 0), .d (D.i .i64 0)], kL0, kL1]) (r := .d (D.s (ByteArray.mk #[101, 110, 100]))) rfl rfl rfl (Le.refl _) rfl rfl rfl ks9 rfl (by decide) rfl rfl (by decide)) (Wt.none rfl) rfl ?_
    refine WL.st (st' := [.row 28 [.os 5 0, .os 6 0, sN, sN, sN], .row 54 [.d (D.i .u8 3), .d (D.s (ByteArray.mk #[67, 111, 108, 111, 114])), .d (D.i .i64 (-1)), .d (D.i .i64 1), .d (D.sl [[.s (ByteArray.mk #[82, 101, 100])], [.s (ByteArray.mk #[71, 114, 101, 101, 110])]]), .d (D.i .i64 (-1)), .d (D.i .i64 (-1)), .d (D.i .i64 (-1)), .d (D.s (ByteArray.mk #[])), .d (D.b false), .d (D.i .i64 0), .d (D.sl []), .d (D.i .i64 (-1)), .d (D.i .u8 0), .d (D.b false), .d (D.i .i64 (-1)), .d (D.i .i64 0), .d (D.i .i64 0)], .row 54 kL0, .row 54 kL1, .os 56 6 0 [[.d (D.s (ByteArray.mk #[120])), .d (D.i .i64 0), .d (D.b false), .d (D.i .i64 0), .d (D.b false), .d (D.sl [])], [.d (D.s (ByteArray.mk #[121])), .d (D.i .i64 2), .d (D.b true), .d (D.i .i64 7), .d (D.b true), .d (D.sl [[.i .i64 1]])]], .os 54 18 0 [kL2, kL9, [.d (D.i .u8 3), .d (D.s (ByteArray.mk #[67, 111, 108, 111, 114])), .d (D.i .i64 (-1)), .d (D.i .i64 1), .d (D.sl [[.s (ByteArray.mk #[82, 101, 100])], [.s (ByteArray.mk #[71, 114, 101, 101, 110])]]), .d (D.i .i64 (-1)), .d (D.i .i64 (-1)), .d (D.i .i64 (-1)), .d (D.s (ByteArray.mk #[])), .d (D.b false), .d (D.i .i64 0), .d (D.sl []), .d (D.i .i64 (-1)), .d (D.i .u8 0), .d (D.b false), .d (D.i .i64 (-1)), .d (D.i .i64 0), .d (D.i .i64 0)], kL0, kL1], .os 40 3 0 [[.d (D.i .i64 1), .d (D.i .i64 (-2147483648)), .d (D.i .i64 2147483647)], [.d (D.i .i64 2), .d (D.i .i64 0), .d (D.i .i64 1)], [.d (D.i .i64 1), .d (D.i .i64 5), .d (D.i .i64 9)], [.d (D.i .i64 3), .d (D.i .i64 0), .d (D.i .i64 0)], [.d (D.i .i64 4), .d (D.i .i64 0), .d (D.i .i64 (-1))], [.d (D.i .i64 4), .d (D.i .i64 0), .d (D.i .i64 0)]], .row 28 [.os 5 0, .os 6 0, sN, sN, sN]]) rfl ?_
    refine WL.nil ?_
    refine we_blk ?_
    exact we_lp ⟨[[.d (D.s (ByteArray.mk #[120])), .d (D.i .i64 0), .d (D.b false), .d (D.i .i64 0), .d (D.b false), .d (D.sl [])], [.d (D.s (ByteArray.mk #[121])), .d (D.i .i64 2), .d (D.b true), .d (D.i .i64 7), .d (D.b true), .d (D.sl [[.i .i64 1]])]], [kL2, kL9, [.d (D.i .u8 3), .d (D.s (ByteArray.mk #[67, 111, 108, 111, 114])), .d (D.i .i64 (-1)), .d (D.i .i64 1), .d (D.sl [[.s (ByteArray.mk #[82, 101, 100])], [.s (ByteArray.mk #[71, 114, 101, 101, 110])]]), .d (D.i .i64 (-1)), .d (D.i .i64 (-1)), .d (D.i .i64 (-1)), .d (D.s (ByteArray.mk #[])), .d (D.b false), .d (D.i .i64 0), .d (D.sl []), .d (D.i .i64 (-1)), .d (D.i .u8 0), .d (D.b false), .d (D.i .i64 (-1)), .d (D.i .i64 0), .d (D.i .i64 0)], kL0, kL1], [[.d (D.i .i64 1), .d (D.i .i64 (-2147483648)), .d (D.i .i64 2147483647)], [.d (D.i .i64 2), .d (D.i .i64 0), .d (D.i .i64 1)], [.d (D.i .i64 1), .d (D.i .i64 5), .d (D.i .i64 9)], [.d (D.i .i64 3), .d (D.i .i64 0), .d (D.i .i64 0)], [.d (D.i .i64 4), .d (D.i .i64 0), .d (D.i .i64 (-1))], [.d (D.i .i64 4), .d (D.i .i64 0), .d (D.i .i64 0)]], .os 5 0, .os 6 0, (Table.mk [kT21, (Ty.mk 2 (ByteArray.mk #[101, 110, 100]) (-1) 0 [] (-1) (-1) (-1) (ByteArray.mk #[]) false 0 [] (-1) 0 false (-1) 0 0), kT18, kT22, kT19] [(Subt.mk 1 (-2147483648) 2147483647), (Subt.mk 2 0 1), (Subt.mk 1 5 9), (Subt.mk 3 0 0), (Subt.mk 4 0 (-1)), (Subt.mk 4 0 0)] (SlV.mk none 0 0) (SlV.mk none 0 0) (SlV.mk none 0 0)), by kernel_rfl, by kernel_rfl, (Sub.one rfl (Sub.one rfl (Sub.nil _))), rfl⟩
   ·replace hc1 := of_decide_eq_false hc1
    refine wc_seq ?_
    refine wc_region ?_
    refine WL.qn (y_eql rfl rfl) rfl ?_
    refine WL.as rfl rfl ?_
    refine WL.nil ?_
    refine we_seq ?_
    refine wc_cond rfl (fun hc2 => ?_) (fun hc2 => ?_)
    ·replace hc2 := of_decide_eq_true hc2
     refine wc_seq ?_
     refine wc_region ?_
     refine WL.qn (y_fieldAddr kf28_0 rfl) rfl ?_
     refine WL.qn (y_load rfl rfl ka22 rfl) rfl ?_
     refine WL.qn (y_indexAddr_os ke22 rfl rfl rfl (by decide) (by decide)) rfl ?_
     refine WL.qn (y_fieldAddr_pe kf54_3 rfl rfl) rfl ?_
     refine WL.s0 (d_store_pe (es' := [kL2, kL6, [.d (D.i .u8 3), .d (D.s (ByteArray.mk #[67, 111, 108, 111, 114])), .d (D.i .i64 (-1)), .d (D.i .i64 1), .d (D.sl [[.s (ByteArray.mk #[82, 101, 100])], [.s (ByteArray.mk #[71, 114, 101, 101, 110])]]), .d (D.i .i64 (-1)), .d (D.i .i64 (-1)), .d (D.i .i64 (-1)), .d (D.s (ByteArray.mk #[])), .d (D.b false), .d (D.i .i64 0), .d (D.sl []), .d (D.i .i64 (-1)), .d (D.i .u8 0), .d (D.b false), .d (D.i .i64 (-1)), .d (D.i .i64 0), .d (D.i .i64 0)], kL0, kL1]) (r := .d (D.i .i64 2)) rfl rfl rfl (Le.refl _) rfl rfl rfl ks3 rfl (by decide) rfl rfl (by decide)) (Wt.none rfl) rfl ?_
     refine WL.st (st' := [.row 28 [.os 5 0, .os 6 0, sN, sN, sN], .row 54 [.d (D.i .u8 3), .d (D.s (ByteArray.mk #[67, 111, 108, 111, 114])), .d (D.i .i64 (-1)), .d (D.i .i64 1), .d (D.sl [[.s (ByteArray.mk #[82, 101, 100])], [.s (ByteArray.mk #[71, 114, 101, 101, 110])]]), .d (D.i .i64 (-1)), .d (D.i .i64 (-1)), .d (D.i .i64 (-1)), .d (D.s (ByteArray.mk #[])), .d (D.b false), .d (D.i .i64 0), .d (D.sl []), .d (D.i .i64 (-1)), .d (D.i .u8 0), .d (D.b false), .d (D.i .i64 (-1)), .d (D.i .i64 0), .d (D.i .i64 0)], .row 54 kL0, .row 54 kL1, .os 56 6 0 [[.d (D.s (ByteArray.mk #[120])), .d (D.i .i64 0), .d (D.b false), .d (D.i .i64 0), .d (D.b false), .d (D.sl [])], [.d (D.s (ByteArray.mk #[121])), .d (D.i .i64 2), .d (D.b true), .d (D.i .i64 7), .d (D.b true), .d (D.sl [[.i .i64 1]])]], .os 54 18 0 [kL2, kL6, [.d (D.i .u8 3), .d (D.s (ByteArray.mk #[67, 111, 108, 111, 114])), .d (D.i .i64 (-1)), .d (D.i .i64 1), .d (D.sl [[.s (ByteArray.mk #[82, 101, 100])], [.s (ByteArray.mk #[71, 114, 101, 101, 110])]]), .d (D.i .i64 (-1)), .d (D.i .i64 (-1)), .d (D.i .i64 (-1)), .d (D.s (ByteArray.mk #[])), .d (D.b false), .d (D.i .i64 0), .d (D.sl []), .d (D.i .i64 (-1)), .d (D.i .u8 0), .d (D.b false), .d (D.i .i64 (-1)), .d (D.i .i64 0), .d (D.i .i64 0)], kL0, kL1], .os 40 3 0 [[.d (D.i .i64 1), .d (D.i .i64 (-2147483648)), .d (D.i .i64 2147483647)], [.d (D.i .i64 2), .d (D.i .i64 0), .d (D.i .i64 1)], [.d (D.i .i64 1), .d (D.i .i64 5), .d (D.i .i64 9)], [.d (D.i .i64 3), .d (D.i .i64 0), .d (D.i .i64 0)], [.d (D.i .i64 4), .d (D.i .i64 0), .d (D.i .i64 (-1))], [.d (D.i .i64 4), .d (D.i .i64 0), .d (D.i .i64 0)]], .row 28 [.os 5 0, .os 6 0, sN, sN, sN]]) rfl ?_
     refine WL.nil ?_
     refine we_seq ?_
     refine wc_region ?_
     refine WL.qn (y_fieldAddr kf28_1 rfl) rfl ?_
     refine WL.qn (y_load rfl rfl ka23 rfl) rfl ?_
     refine WL.qn (y_indexAddr_os ke23 rfl rfl rfl (by decide) (by decide)) rfl ?_
     refine WL.qn (y_fieldAddr_pe kf40_0 rfl rfl) rfl ?_
     refine WL.s0 (d_store_pe (es' := [[.d (D.i .i64 1), .d (D.i .i64 (-2147483648)), .d (D.i .i64 2147483647)], [.d (D.i .i64 2), .d (D.i .i64 0), .d (D.i .i64 1)], [.d (D.i .i64 2), .d (D.i .i64 5), .d (D.i .i64 9)], [.d (D.i .i64 3), .d (D.i .i64 0), .d (D.i .i64 0)], [.d (D.i .i64 4), .d (D.i .i64 0), .d (D.i .i64 (-1))], [.d (D.i .i64 4), .d (D.i .i64 0), .d (D.i .i64 0)]]) (r := .d (D.i .i64 2)) rfl rfl rfl (Le.refl _) rfl rfl rfl ks3 rfl (by decide) rfl rfl (by decide)) (Wt.none rfl) rfl ?_
     refine WL.st (st' := [.row 28 [.os 5 0, .os 6 0, sN, sN, sN], .row 54 [.d (D.i .u8 3), .d (D.s (ByteArray.mk #[67, 111, 108, 111, 114])), .d (D.i .i64 (-1)), .d (D.i .i64 1), .d (D.sl [[.s (ByteArray.mk #[82, 101, 100])], [.s (ByteArray.mk #[71, 114, 101, 101, 110])]]), .d (D.i .i64 (-1)), .d (D.i .i64 (-1)), .d (D.i .i64 (-1)), .d (D.s (ByteArray.mk #[])), .d (D.b false), .d (D.i .i64 0), .d (D.sl []), .d (D.i .i64 (-1)), .d (D.i .u8 0), .d (D.b false), .d (D.i .i64 (-1)), .d (D.i .i64 0), .d (D.i .i64 0)], .row 54 kL0, .row 54 kL1, .os 56 6 0 [[.d (D.s (ByteArray.mk #[120])), .d (D.i .i64 0), .d (D.b false), .d (D.i .i64 0), .d (D.b false), .d (D.sl [])], [.d (D.s (ByteArray.mk #[121])), .d (D.i .i64 2), .d (D.b true), .d (D.i .i64 7), .d (D.b true), .d (D.sl [[.i .i64 1]])]], .os 54 18 0 [kL2, kL6, [.d (D.i .u8 3), .d (D.s (ByteArray.mk #[67, 111, 108, 111, 114])), .d (D.i .i64 (-1)), .d (D.i .i64 1), .d (D.sl [[.s (ByteArray.mk #[82, 101, 100])], [.s (ByteArray.mk #[71, 114, 101, 101, 110])]]), .d (D.i .i64 (-1)), .d (D.i .i64 (-1)), .d (D.i .i64 (-1)), .d (D.s (ByteArray.mk #[])), .d (D.b false), .d (D.i .i64 0), .d (D.sl []), .d (D.i .i64 (-1)), .d (D.i .u8 0), .d (D.b false), .d (D.i .i64 (-1)), .d (D.i .i64 0), .d (D.i .i64 0)], kL0, kL1], .os 40 3 0 [[.d (D.i .i64 1), .d (D.i .i64 (-2147483648)), .d (D.i .i64 2147483647)], [.d (D.i .i64 2), .d (D.i .i64 0), .d (D.i .i64 1)], [.d (D.i .i64 2), .d (D.i .i64 5), .d (D.i .i64 9)], [.d (D.i .i64 3), .d (D.i .i64 0), .d (D.i .i64 0)], [.d (D.i .i64 4), .d (D.i .i64 0), .d (D.i .i64 (-1))], [.d (D.i .i64 4), .d (D.i .i64 0), .d (D.i .i64 0)]], .row 28 [.os 5 0, .os 6 0, sN, sN, sN]]) rfl ?_
     refine WL.nil ?_
     refine we_blk ?_
     exact we_lp ⟨[[.d (D.s (ByteArray.mk #[120])), .d (D.i .i64 0), .d (D.b false), .d (D.i .i64 0), .d (D.b false), .d (D.sl [])], [.d (D.s (ByteArray.mk #[121])), .d (D.i .i64 2), .d (D.b true), .d (D.i .i64 7), .d (D.b true), .d (D.sl [[.i .i64 1]])]], [kL2, kL6, [.d (D.i .u8 3), .d (D.s (ByteArray.mk #[67, 111, 108, 111, 114])), .d (D.i .i64 (-1)), .d (D.i .i64 1), .d (D.sl [[.s (ByteArray.mk #[82, 101, 100])], [.s (ByteArray.mk #[71, 114, 101, 101, 110])]]), .d (D.i .i64 (-1)), .d (D.i .i64 (-1)), .d (D.i .i64 (-1)), .d (D.s (ByteArray.mk #[])), .d (D.b false), .d (D.i .i64 0), .d (D.sl []), .d (D.i .i64 (-1)), .d (D.i .u8 0), .d (D.b false), .d (D.i .i64 (-1)), .d (D.i .i64 0), .d (D.i .i64 0)], kL0, kL1], [[.d (D.i .i64 1), .d (D.i .i64 (-2147483648)), .d (D.i .i64 2147483647)], [.d (D.i .i64 2), .d (D.i .i64 0), .d (D.i .i64 1)], [.d (D.i .i64 2), .d (D.i .i64 5), .d (D.i .i64 9)], [.d (D.i .i64 3), .d (D.i .i64 0), .d (D.i .i64 0)], [.d (D.i .i64 4), .d (D.i .i64 0), .d (D.i .i64 (-1))], [.d (D.i .i64 4), .d (D.i .i64 0), .d (D.i .i64 0)]], .os 5 0, .os 6 0, (Table.mk [kT21, (Ty.mk 2 (ByteArray.mk #[73, 110, 116, 101, 103, 101, 114]) (-1) 2 [] (-1) (-1) (-1) (ByteArray.mk #[]) false 0 [] (-1) 0 false (-1) 0 0), kT18, kT22, kT19] [(Subt.mk 1 (-2147483648) 2147483647), (Subt.mk 2 0 1), (Subt.mk 2 5 9), (Subt.mk 3 0 0), (Subt.mk 4 0 (-1)), (Subt.mk 4 0 0)] (SlV.mk none 0 0) (SlV.mk none 0 0) (SlV.mk none 0 0)), by kernel_rfl, by kernel_rfl, (Sub.one rfl (Sub.one rfl (Sub.nil _))), rfl⟩
    ·replace hc2 := of_decide_eq_false hc2
     refine wc_seq ?_
     refine wc_region ?_
     refine WL.qn (y_eql rfl rfl) rfl ?_
     refine WL.as rfl rfl ?_
     refine WL.nil ?_
     refine we_seq ?_
     refine wc_cond rfl (fun hc3 => ?_) (fun hc3 => ?_)
     ·replace hc3 := of_decide_eq_true hc3
      refine wc_region ?_
      refine WL.qn (y_fieldAddr kf28_0 rfl) rfl ?_
      refine WL.qn (y_load rfl rfl ka22 rfl) rfl ?_
      refine WL.s ((NewOs.data (ds := [[.s (ByteArray.mk #[82, 101, 100])], [.s (ByteArray.mk #[82, 101, 100])]]) (n_buildSlice kl50 kz9 rfl (by decide) (by decide) rfl rfl rfl (by decide)) rfl).does) (Wt.none rfl) rfl rfl ?_
      refine WL.qn (y_indexAddr_os ke22 rfl rfl rfl (by decide) (by decide)) rfl ?_
      refine WL.qn (y_fieldAddr_pe kf54_4 rfl rfl) rfl ?_
      refine WL.s0 (d_store_pe (es' := [kL2, kL3, [.d (D.i .u8 3), .d (D.s (ByteArray.mk #[67, 111, 108, 111, 114])), .d (D.i .i64 (-1)), .d (D.i .i64 1), .d (D.sl [[.s (ByteArray.mk #[82, 101, 100])], [.s (ByteArray.mk #[82, 101, 100])]]), .d (D.i .i64 (-1)), .d (D.i .i64 (-1)), .d (D.i .i64 (-1)), .d (D.s (ByteArray.mk #[])), .d (D.b false), .d (D.i .i64 0), .d (D.sl []), .d (D.i .i64 (-1)), .d (D.i .u8 0), .d (D.b false), .d (D.i .i64 (-1)), .d (D.i .i64 0), .d (D.i .i64 0)], kL0, kL1]) (r := .d (D.sl [[.s (ByteArray.mk #[82, 101, 100])], [.s (ByteArray.mk #[82, 101, 100])]])) rfl rfl rfl (Le.refl _) rfl rfl rfl ks50 rfl (by decide) rfl rfl (by decide)) (Wt.none rfl) rfl ?_
      refine WL.st (st' := [.row 28 [.os 5 0, .os 6 0, sN, sN, sN], .row 54 [.d (D.i .u8 3), .d (D.s (ByteArray.mk #[67, 111, 108, 111, 114])), .d (D.i .i64 (-1)), .d (D.i .i64 1), .d (D.sl [[.s (ByteArray.mk #[82, 101, 100])], [.s (ByteArray.mk #[71, 114, 101, 101, 110])]]), .d (D.i .i64 (-1)), .d (D.i .i64 (-1)), .d (D.i .i64 (-1)), .d (D.s (ByteArray.mk #[])), .d (D.b false), .d (D.i .i64 0), .d (D.sl []), .d (D.i .i64 (-1)), .d (D.i .u8 0), .d (D.b false), .d (D.i .i64 (-1)), .d (D.i .i64 0), .d (D.i .i64 0)], .row 54 kL0, .row 54 kL1, .os 56 6 0 [[.d (D.s (ByteArray.mk #[120])), .d (D.i .i64 0), .d (D.b false), .d (D.i .i64 0), .d (D.b false), .d (D.sl [])], [.d (D.s (ByteArray.mk #[121])), .d (D.i .i64 2), .d (D.b true), .d (D.i .i64 7), .d (D.b true), .d (D.sl [[.i .i64 1]])]], .os 54 18 0 [kL2, kL3, [.d (D.i .u8 3), .d (D.s (ByteArray.mk #[67, 111, 108, 111, 114])), .d (D.i .i64 (-1)), .d (D.i .i64 1), .d (D.sl [[.s (ByteArray.mk #[82, 101, 100])], [.s (ByteArray.mk #[82, 101, 100])]]), .d (D.i .i64 (-1)), .d (D.i .i64 (-1)), .d (D.i .i64 (-1)), .d (D.s (ByteArray.mk #[])), .d (D.b false), .d (D.i .i64 0), .d (D.sl []), .d (D.i .i64 (-1)), .d (D.i .u8 0), .d (D.b false), .d (D.i .i64 (-1)), .d (D.i .i64 0), .d (D.i .i64 0)], kL0, kL1], .os 40 3 0 [[.d (D.i .i64 1), .d (D.i .i64 (-2147483648)), .d (D.i .i64 2147483647)], [.d (D.i .i64 2), .d (D.i .i64 0), .d (D.i .i64 1)], [.d (D.i .i64 1), .d (D.i .i64 5), .d (D.i .i64 9)], [.d (D.i .i64 3), .d (D.i .i64 0), .d (D.i .i64 0)], [.d (D.i .i64 4), .d (D.i .i64 0), .d (D.i .i64 (-1))], [.d (D.i .i64 4), .d (D.i .i64 0), .d (D.i .i64 0)]], .row 28 [.os 5 0, .os 6 0, sN, sN, sN]]) rfl ?_
      refine WL.nil ?_
      refine we_blk ?_
      exact we_lp ⟨[[.d (D.s (ByteArray.mk #[120])), .d (D.i .i64 0), .d (D.b false), .d (D.i .i64 0), .d (D.b false), .d (D.sl [])], [.d (D.s (ByteArray.mk #[121])), .d (D.i .i64 2), .d (D.b true), .d (D.i .i64 7), .d (D.b true), .d (D.sl [[.i .i64 1]])]], [kL2, kL3, [.d (D.i .u8 3), .d (D.s (ByteArray.mk #[67, 111, 108, 111, 114])), .d (D.i .i64 (-1)), .d (D.i .i64 1), .d (D.sl [[.s (ByteArray.mk #[82, 101, 100])], [.s (ByteArray.mk #[82, 101, 100])]]), .d (D.i .i64 (-1)), .d (D.i .i64 (-1)), .d (D.i .i64 (-1)), .d (D.s (ByteArray.mk #[])), .d (D.b false), .d (D.i .i64 0), .d (D.sl []), .d (D.i .i64 (-1)), .d (D.i .u8 0), .d (D.b false), .d (D.i .i64 (-1)), .d (D.i .i64 0), .d (D.i .i64 0)], kL0, kL1], [[.d (D.i .i64 1), .d (D.i .i64 (-2147483648)), .d (D.i .i64 2147483647)], [.d (D.i .i64 2), .d (D.i .i64 0), .d (D.i .i64 1)], [.d (D.i .i64 1), .d (D.i .i64 5), .d (D.i .i64 9)], [.d (D.i .i64 3), .d (D.i .i64 0), .d (D.i .i64 0)], [.d (D.i .i64 4), .d (D.i .i64 0), .d (D.i .i64 (-1))], [.d (D.i .i64 4), .d (D.i .i64 0), .d (D.i .i64 0)]], .os 5 0, .os 6 0, (Table.mk [kT21, kT20, (Ty.mk 3 (ByteArray.mk #[67, 111, 108, 111, 114]) (-1) 1 [(ByteArray.mk #[82, 101, 100]), (ByteArray.mk #[82, 101, 100])] (-1) (-1) (-1) (ByteArray.mk #[]) false 0 [] (-1) 0 false (-1) 0 0), kT22, kT19] [(Subt.mk 1 (-2147483648) 2147483647), (Subt.mk 2 0 1), (Subt.mk 1 5 9), (Subt.mk 3 0 0), (Subt.mk 4 0 (-1)), (Subt.mk 4 0 0)] (SlV.mk none 0 0) (SlV.mk none 0 0) (SlV.mk none 0 0)), by kernel_rfl, by kernel_rfl, (Sub.one rfl (Sub.one rfl (Sub.nil _))), rfl⟩
     ·replace hc3 := of_decide_eq_false hc3
      refine wc_seq ?_
      refine wc_region ?_
      refine WL.qn (y_eql rfl rfl) rfl ?_
      refine WL.as rfl rfl ?_
      refine WL.nil ?_
      refine we_seq ?_
      refine wc_cond rfl (fun hc4 => ?_) (fun hc4 => ?_)
      ·replace hc4 := of_decide_eq_true hc4
       refine wc_region ?_
       refine WL.qn (y_fieldAddr kf28_0 rfl) rfl ?_
       refine WL.qn (y_load rfl rfl ka22 rfl) rfl ?_
       refine WL.qn (y_indexAddr_os ke22 rfl rfl rfl (by decide) (by decide)) rfl ?_
       refine WL.qn (y_fieldAddr_pe kf54_4 rfl rfl) rfl ?_
       refine WL.s0 (d_store_pe (es' := [kL2, kL3, kL5, kL0, kL1]) (r := .d (D.sl [])) rfl rfl rfl Le.nil rfl rfl rfl ks50 rfl (by decide) rfl rfl (by decide)) (Wt.none rfl) rfl ?_
       refine WL.st (st' := [.row 28 [.os 5 0, .os 6 0, sN, sN, sN], .row 54 [.d (D.i .u8 3), .d (D.s (ByteArray.mk #[67, 111, 108, 111, 114])), .d (D.i .i64 (-1)), .d (D.i .i64 1), .d (D.sl [[.s (ByteArray.mk #[82, 101, 100])], [.s (ByteArray.mk #[71, 114, 101, 101, 110])]]), .d (D.i .i64 (-1)), .d (D.i .i64 (-1)), .d (D.i .i64 (-1)), .d (D.s (ByteArray.mk #[])), .d (D.b false), .d (D.i .i64 0), .d (D.sl []), .d (D.i .i64 (-1)), .d (D.i .u8 0), .d (D.b false), .d (D.i .i64 (-1)), .d (D.i .i64 0), .d (D.i .i64 0)], .row 54 kL0, .row 54 kL1, .os 56 6 0 [[.d (D.s (ByteArray.mk #[120])), .d (D.i .i64 0), .d (D.b false), .d (D.i .i64 0), .d (D.b false), .d (D.sl [])], [.d (D.s (ByteArray.mk #[121])), .d (D.i .i64 2), .d (D.b true), .d (D.i .i64 7), .d (D.b true), .d (D.sl [[.i .i64 1]])]], .os 54 18 0 [kL2, kL3, kL5, kL0, kL1], .os 40 3 0 [[.d (D.i .i64 1), .d (D.i .i64 (-2147483648)), .d (D.i .i64 2147483647)], [.d (D.i .i64 2), .d (D.i .i64 0), .d (D.i .i64 1)], [.d (D.i .i64 1), .d (D.i .i64 5), .d (D.i .i64 9)], [.d (D.i .i64 3), .d (D.i .i64 0), .d (D.i .i64 0)], [.d (D.i .i64 4), .d (D.i .i64 0), .d (D.i .i64 (-1))], [.d (D.i .i64 4), .d (D.i .i64 0), .d (D.i .i64 0)]], .row 28 [.os 5 0, .os 6 0, sN, sN, sN]]) rfl ?_
       refine WL.nil ?_
       refine we_blk ?_
       exact we_lp ⟨[[.d (D.s (ByteArray.mk #[120])), .d (D.i .i64 0), .d (D.b false), .d (D.i .i64 0), .d (D.b false), .d (D.sl [])], [.d (D.s (ByteArray.mk #[121])), .d (D.i .i64 2), .d (D.b true), .d (D.i .i64 7), .d (D.b true), .d (D.sl [[.i .i64 1]])]], [kL2, kL3, kL5, kL0, kL1], [[.d (D.i .i64 1), .d (D.i .i64 (-2147483648)), .d (D.i .i64 2147483647)], [.d (D.i .i64 2), .d (D.i .i64 0), .d (D.i .i64 1)], [.d (D.i .i64 1), .d (D.i .i64 5), .d (D.i .i64 9)], [.d (D.i .i64 3), .d (D.i .i64 0), .d (D.i .i64 0)], [.d (D.i .i64 4), .d (D.i .i64 0), .d (D.i .i64 (-1))], [.d (D.i .i64 4), .d (D.i .i64 0), .d (D.i .i64 0)]], .os 5 0, .os 6 0, (Table.mk [kT21, kT20, (Ty.mk 3 (ByteArray.mk #[67, 111, 108, 111, 114]) (-1) 1 [] (-1) (-1) (-1) (ByteArray.mk #[]) false 0 [] (-1) 0 false (-1) 0 0), kT22, kT19] [(Subt.mk 1 (-2147483648) 2147483647), (Subt.mk 2 0 1), (Subt.mk 1 5 9), (Subt.mk 3 0 0), (Subt.mk 4 0 (-1)), (Subt.mk 4 0 0)] (SlV.mk none 0 0) (SlV.mk none 0 0) (SlV.mk none 0 0)), by kernel_rfl, by kernel_rfl, (Sub.one rfl (Sub.one rfl (Sub.nil _))), rfl⟩
      ·replace hc4 := of_decide_eq_false hc4
       refine wc_seq ?_
       refine wc_region ?_
       refine WL.qn (y_eql rfl rfl) rfl ?_
       refine WL.as rfl rfl ?_
       refine WL.nil ?_
       refine we_seq ?_
       refine wc_cond rfl (fun hc5 => ?_) (fun hc5 => ?_)
       ·replace hc5 := of_decide_eq_true hc5
        refine wc_region ?_
        refine WL.qn (y_fieldAddr kf28_0 rfl) rfl ?_
        refine WL.qn (y_load rfl rfl ka22 rfl) rfl ?_
        refine WL.qn (y_indexAddr_os ke22 rfl rfl rfl (by decide) (by decide)) rfl ?_
        refine WL.qn (y_fieldAddr_pe kf54_5 rfl rfl) rfl ?_
        refine WL.s0 (d_store_pe (es' := [kL2, kL3, [.d (D.i .u8 3), .d (D.s (ByteArray.mk #[67, 111, 108, 111, 114])), .d (D.i .i64 (-1)), .d (D.i .i64 1), .d (D.sl [[.s (ByteArray.mk #[82, 101, 100])], [.s (ByteArray.mk #[71, 114, 101, 101, 110])]]), .d (D.i .i64 (-1)), .d (D.i .i64 (-1)), .d (D.i .i64 (-1)), .d (D.s (ByteArray.mk #[])), .d (D.b false), .d (D.i .i64 0), .d (D.sl []), .d (D.i .i64 (-1)), .d (D.i .u8 0), .d (D.b false), .d (D.i .i64 (-1)), .d (D.i .i64 0), .d (D.i .i64 0)], kL12, kL1]) (r := .d (D.i .i64 0)) rfl rfl rfl (Le.refl _) rfl rfl rfl ks3 rfl (by decide) rfl rfl (by decide)) (Wt.none rfl) rfl ?_
        refine WL.st (st' := [.row 28 [.os 5 0, .os 6 0, sN, sN, sN], .row 54 [.d (D.i .u8 3), .d (D.s (ByteArray.mk #[67, 111, 108, 111, 114])), .d (D.i .i64 (-1)), .d (D.i .i64 1), .d (D.sl [[.s (ByteArray.mk #[82, 101, 100])], [.s (ByteArray.mk #[71, 114, 101, 101, 110])]]), .d (D.i .i64 (-1)), .d (D.i .i64 (-1)), .d (D.i .i64 (-1)), .d (D.s (ByteArray.mk #[])), .d (D.b false), .d (D.i .i64 0), .d (D.sl []), .d (D.i .i64 (-1)), .d (D.i .u8 0), .d (D.b false), .d (D.i .i64 (-1)), .d (D.i .i64 0), .d (D.i .i64 0)], .row 54 kL0, .row 54 kL1, .os 56 6 0 [[.d (D.s (ByteArray.mk #[120])), .d (D.i .i64 0), .d (D.b false), .d (D.i .i64 0), .d (D.b false), .d (D.sl [])], [.d (D.s (ByteArray.mk #[121])), .d (D.i .i64 2), .d (D.b true), .d (D.i .i64 7), .d (D.b true), .d (D.sl [[.i .i64 1]])]], .os 54 18 0 [kL2, kL3, [.d (D.i .u8 3), .d (D.s (ByteArray.mk #[67, 111, 108, 111, 114])), .d (D.i .i64 (-1)), .d (D.i .i64 1), .d (D.sl [[.s (ByteArray.mk #[82, 101, 100])], [.s (ByteArray.mk #[71, 114, 101, 101, 110])]]), .d (D.i .i64 (-1)), .d (D.i .i64 (-1)), .d (D.i .i64 (-1)), .d (D.s (ByteArray.mk #[])), .d (D.b false), .d (D.i .i64 0), .d (D.sl []), .d (D.i .i64 (-1)), .d (D.i .u8 0), .d (D.b false), .d (D.i .i64 (-1)), .d (D.i .i64 0), .d (D.i .i64 0)], kL12, kL1], .os 40 3 0 [[.d (D.i .i64 1), .d (D.i .i64 (-2147483648)), .d (D.i .i64 2147483647)], [.d (D.i .i64 2), .d (D.i .i64 0), .d (D.i .i64 1)], [.d (D.i .i64 1), .d (D.i .i64 5), .d (D.i .i64 9)], [.d (D.i .i64 3), .d (D.i .i64 0), .d (D.i .i64 0)], [.d (D.i .i64 4), .d (D.i .i64 0), .d (D.i .i64 (-1))], [.d (D.i .i64 4), .d (D.i .i64 0), .d (D.i .i64 0)]], .row 28 [.os 5 0, .os 6 0, sN, sN, sN]]) rfl ?_
        refine WL.nil ?_
        refine we_blk ?_
        exact we_lp ⟨[[.d (D.s (ByteArray.mk #[120])), .d (D.i .i64 0), .d (D.b false), .d (D.i .i64 0), .d (D.b false), .d (D.sl [])], [.d (D.s (ByteArray.mk #[121])), .d (D.i .i64 2), .d (D.b true), .d (D.i .i64 7), .d (D.b true), .d (D.sl [[.i .i64 1]])]], [kL2, kL3, [.d (D.i .u8 3), .d (D.s (ByteArray.mk #[67, 111, 108, 111, 114])), .d (D.i .i64 (-1)), .d (D.i .i64 1), .d (D.sl [[.s (ByteArray.mk #[82, 101, 100])], [.s (ByteArray.mk #[71, 114, 101, 101, 110])]]), .d (D.i .i64 (-1)), .d (D.i .i64 (-1)), .d (D.i .i64 (-1)), .d (D.s (ByteArray.mk #[])), .d (D.b false), .d (D.i .i64 0), .d (D.sl []), .d (D.i .i64 (-1)), .d (D.i .u8 0), .d (D.b false), .d (D.i .i64 (-1)), .d (D.i .i64 0), .d (D.i .i64 0)], kL12, kL1], [[.d (D.i .i64 1), .d (D.i .i64 (-2147483648)), .d (D.i .i64 2147483647)], [.d (D.i .i64 2), .d (D.i .i64 0), .d (D.i .i64 1)], [.d (D.i .i64 1), .d (D.i .i64 5), .d (D.i .i64 9)], [.d (D.i .i64 3), .d (D.i .i64 0), .d (D.i .i64 0)], [.d (D.i .i64 4), .d (D.i .i64 0), .d (D.i .i64 (-1))], [.d (D.i .i64 4), .d (D.i .i64 0), .d (D.i .i64 0)]], .os 5 0, .os 6 0, (Table.mk [kT21, kT20, kT18, (Ty.mk 4 (ByteArray.mk #[82, 111, 119]) (-1) 3 [] 0 0 (-1) (ByteArray.mk #[]) false 0 [] (-1) 0 false (-1) 0 0), kT19] [(Subt.mk 1 (-2147483648) 2147483647), (Subt.mk 2 0 1), (Subt.mk 1 5 9), (Subt.mk 3 0 0), (Subt.mk 4 0 (-1)), (Subt.mk 4 0 0)] (SlV.mk none 0 0) (SlV.mk none 0 0) (SlV.mk none 0 0)), by kernel_rfl, by kernel_rfl, (Sub.one rfl (Sub.one rfl (Sub.nil _))), rfl⟩
       ·replace hc5 := of_decide_eq_false hc5
        refine wc_seq ?_
        refine wc_region ?_
        refine WL.qn (y_eql rfl rfl) rfl ?_
        refine WL.as rfl rfl ?_
        refine WL.nil ?_
        refine we_seq ?_
        refine wc_cond rfl (fun hc6 => ?_) (fun hc6 => ?_)
        ·replace hc6 := of_decide_eq_true hc6
         refine wc_region ?_
         refine WL.qn (y_fieldAddr kf28_0 rfl) rfl ?_
         refine WL.qn (y_load rfl rfl ka22 rfl) rfl ?_
         refine WL.qn (y_indexAddr_os ke22 rfl rfl rfl (by decide) (by decide)) rfl ?_
         refine WL.qn (y_fieldAddr_pe kf54_6 rfl rfl) rfl ?_
         refine WL.s0 (d_store_pe (es' := [kL2, kL3, [.d (D.i .u8 3), .d (D.s (ByteArray.mk #[67, 111, 108, 111, 114])), .d (D.i .i64 (-1)), .d (D.i .i64 1), .d (D.sl [[.s (ByteArray.mk #[82, 101, 100])], [.s (ByteArray.mk #[71, 114, 101, 101, 110])]]), .d (D.i .i64 (-1)), .d (D.i .i64 (-1)), .d (D.i .i64 (-1)), .d (D.s (ByteArray.mk #[])), .d (D.b false), .d (D.i .i64 0), .d (D.sl []), .d (D.i .i64 (-1)), .d (D.i .u8 0), .d (D.b false), .d (D.i .i64 (-1)), .d (D.i .i64 0), .d (D.i .i64 0)], kL13, kL1]) (r := .d (D.i .i64 4)) rfl rfl rfl (Le.refl _) rfl rfl rfl ks3 rfl (by decide) rfl rfl (by decide)) (Wt.none rfl) rfl ?_
         refine WL.st (st' := [.row 28 [.os 5 0, .os 6 0, sN, sN, sN], .row 54 [.d (D.i .u8 3), .d (D.s (ByteArray.mk #[67, 111, 108, 111, 114])), .d (D.i .i64 (-1)), .d (D.i .i64 1), .d (D.sl [[.s (ByteArray.mk #[82, 101, 100])], [.s (ByteArray.mk #[71, 114, 101, 101, 110])]]), .d (D.i .i64 (-1)), .d (D.i .i64 (-1)), .d (D.i .i64 (-1)), .d (D.s (ByteArray.mk #[])), .d (D.b false), .d (D.i .i64 0), .d (D.sl []), .d (D.i .i64 (-1)), .d (D.i .u8 0), .d (D.b false), .d (D.i .i64 (-1)), .d (D.i .i64 0), .d (D.i .i64 0)], .row 54 kL0, .row 54 kL1, .os 56 6 0 [[.d (D.s (ByteArray.mk #[120])), .d (D.i .i64 0), .d (D.b false), .d (D.i .i64 0), .d (D.b false), .d (D.sl [])], [.d (D.s (ByteArray.mk #[121])), .d (D.i .i64 2), .d (D.b true), .d (D.i .i64 7), .d (D.b true), .d (D.sl [[.i .i64 1]])]], .os 54 18 0 [kL2, kL3, [.d (D.i .u8 3), .d (D.s (ByteArray.mk #[67, 111, 108, 111, 114])), .d (D.i .i64 (-1)), .d (D.i .i64 1), .d (D.sl [[.s (ByteArray.mk #[82, 101, 100])], [.s (ByteArray.mk #[71, 114, 101, 101, 110])]]), .d (D.i .i64 (-1)), .d (D.i .i64 (-1)), .d (D.i .i64 (-1)), .d (D.s (ByteArray.mk #[])), .d (D.b false), .d (D.i .i64 0), .d (D.sl []), .d (D.i .i64 (-1)), .d (D.i .u8 0), .d (D.b false), .d (D.i .i64 (-1)), .d (D.i .i64 0), .d (D.i .i64 0)], kL13, kL1], .os 40 3 0 [[.d (D.i .i64 1), .d (D.i .i64 (-2147483648)), .d (D.i .i64 2147483647)], [.d (D.i .i64 2), .d (D.i .i64 0), .d (D.i .i64 1)], [.d (D.i .i64 1), .d (D.i .i64 5), .d (D.i .i64 9)], [.d (D.i .i64 3), .d (D.i .i64 0), .d (D.i .i64 0)], [.d (D.i .i64 4), .d (D.i .i64 0), .d (D.i .i64 (-1))], [.d (D.i .i64 4), .d (D.i .i64 0), .d (D.i .i64 0)]], .row 28 [.os 5 0, .os 6 0, sN, sN, sN]]) rfl ?_
         refine WL.nil ?_
         refine we_blk ?_
         exact we_lp ⟨[[.d (D.s (ByteArray.mk #[120])), .d (D.i .i64 0), .d (D.b false), .d (D.i .i64 0), .d (D.b false), .d (D.sl [])], [.d (D.s (ByteArray.mk #[121])), .d (D.i .i64 2), .d (D.b true), .d (D.i .i64 7), .d (D.b true), .d (D.sl [[.i .i64 1]])]], [kL2, kL3, [.d (D.i .u8 3), .d (D.s (ByteArray.mk #[67, 111, 108, 111, 114])), .d (D.i .i64 (-1)), .d (D.i .i64 1), .d (D.sl [[.s (ByteArray.mk #[82, 101, 100])], [.s (ByteArray.mk #[71, 114, 101, 101, 110])]]), .d (D.i .i64 (-1)), .d (D.i .i64 (-1)), .d (D.i .i64 (-1)), .d (D.s (ByteArray.mk #[])), .d (D.b false), .d (D.i .i64 0), .d (D.sl []), .d (D.i .i64 (-1)), .d (D.i .u8 0), .d (D.b false), .d (D.i .i64 (-1)), .d (D.i .i64 0), .d (D.i .i64 0)], kL13, kL1], [[.d (D.i .i64 1), .d (D.i .i64 (-2147483648)), .d (D.i .i64 2147483647)], [.d (D.i .i64 2), .d (D.i .i64 0), .d (D.i .i64 1)], [.d (D.i .i64 1), .d (D.i .i64 5), .d (D.i .i64 9)], [.d (D.i .i64 3), .d (D.i .i64 0), .d (D.i .i64 0)], [.d (D.i .i64 4), .d (D.i .i64 0), .d (D.i .i64 (-1))], [.d (D.i .i64 4), .d (D.i .i64 0), .d (D.i .i64 0)]], .os 5 0, .os 6 0, (Table.mk [kT21, kT20, kT18, (Ty.mk 4 (ByteArray.mk #[82, 111, 119]) (-1) 3 [] 2 4 (-1) (ByteArray.mk #[]) false 0 [] (-1) 0 false (-1) 0 0), kT19] [(Subt.mk 1 (-2147483648) 2147483647), (Subt.mk 2 0 1), (Subt.mk 1 5 9), (Subt.mk 3 0 0), (Subt.mk 4 0 (-1)), (Subt.mk 4 0 0)] (SlV.mk none 0 0) (SlV.mk none 0 0) (SlV.mk none 0 0)), by kernel_rfl, by kernel_rfl, (Sub.one rfl (Sub.one rfl (Sub.nil _))), rfl⟩
        ·replace hc6 := of_decide_eq_false hc6
         refine wc_seq ?_
         refine wc_region ?_
         refine WL.qn (y_eql rfl rfl) rfl ?_
         refine WL.as rfl rfl ?_
         refine WL.nil ?_
         refine we_seq ?_
         refine wc_cond rfl (fun hc7 => ?_) (fun hc7 => ?_)
         ·replace hc7 := of_decide_eq_true hc7
          refine wc_region ?_
          refine WL.qn (y_fieldAddr kf28_0 rfl) rfl ?_
          refine WL.qn (y_load rfl rfl ka22 rfl) rfl ?_
          refine WL.qn (y_indexAddr_os ke22 rfl rfl rfl (by decide) (by decide)) rfl ?_
          refine WL.qn (y_fieldAddr_pe kf54_6 rfl rfl) rfl ?_
          refine WL.s0 (d_store_pe (es' := [kL2, kL3, [.d (D.i .u8 3), .d (D.s (ByteArray.mk #[67, 111, 108, 111, 114])), .d (D.i .i64 (-1)), .d (D.i .i64 1), .d (D.sl [[.s (ByteArray.mk #[82, 101, 100])], [.s (ByteArray.mk #[71, 114, 101, 101, 110])]]), .d (D.i .i64 (-1)), .d (D.i .i64 (-1)), .d (D.i .i64 (-1)), .d (D.s (ByteArray.mk #[])), .d (D.b false), .d (D.i .i64 0), .d (D.sl []), .d (D.i .i64 (-1)), .d (D.i .u8 0), .d (D.b false), .d (D.i .i64 (-1)), .d (D.i .i64 0), .d (D.i .i64 0)], kL14, kL1]) (r := .d (D.i .i64 3)) rfl rfl rfl (Le.refl _) rfl rfl rfl ks3 rfl (by decide) rfl rfl (by decide)) (Wt.none rfl) rfl ?_
          refine WL.st (st' := [.row 28 [.os 5 0, .os 6 0, sN, sN, sN], .row 54 [.d (D.i .u8 3), .d (D.s (ByteArray.mk #[67, 111, 108, 111, 114])), .d (D.i .i64 (-1)), .d (D.i .i64 1), .d (D.sl [[.s (ByteArray.mk #[82, 101, 100])], [.s (ByteArray.mk #[71, 114, 101, 101, 110])]]), .d (D.i .i64 (-1)), .d (D.i .i64 (-1)), .d (D.i .i64 (-1)), .d (D.s (ByteArray.mk #[])), .d (D.b false), .d (D.i .i64 0), .d (D.sl []), .d (D.i .i64 (-1)), .d (D.i .u8 0), .d (D.b false), .d (D.i .i64 (-1)), .d (D.i .i64 0), .d (D.i .i64 0)], .row 54 kL0, .row 54 kL1, .os 56 6 0 [[.d (D.s (ByteArray.mk #[120])), .d (D.i .i64 0), .d (D.b false), .d (D.i .i64 0), .d (D.b false), .d (D.sl [])], [.d (D.s (ByteArray.mk #[121])), .d (D.i .i64 2), .d (D.b true), .d (D.i .i64 7), .d (D.b true), .d (D.sl [[.i .i64 1]])]], .os 54 18 0 [kL2, kL3, [.d (D.i .u8 3), .d (D.s (ByteArray.mk #[67, 111, 108, 111, 114])), .d (D.i .i64 (-1)), .d (D.i .i64 1), .d (D.sl [[.s (ByteArray.mk #[82, 101, 100])], [.s (ByteArray.mk #[71, 114, 101, 101, 110])]]), .d (D.i .i64 (-1)), .d (D.i .i64 (-1)), .d (D.i .i64 (-1)), .d (D.s (ByteArray.mk #[])), .d (D.b false), .d (D.i .i64 0), .d (D.sl []), .d (D.i .i64 (-1)), .d (D.i .u8 0), .d (D.b false), .d (D.i .i64 (-1)), .d (D.i .i64 0), .d (D.i .i64 0)], kL14, kL1], .os 40 3 0 [[.d (D.i .i64 1), .d (D.i .i64 (-2147483648)), .d (D.i .i64 2147483647)], [.d (D.i .i64 2), .d (D.i .i64 0), .d (D.i .i64 1)], [.d (D.i .i64 1), .d (D.i .i64 5), .d (D.i .i64 9)], [.d (D.i .i64 3), .d (D.i .i64 0), .d (D.i .i64 0)], [.d (D.i .i64 4), .d (D.i .i64 0), .d (D.i .i64 (-1))], [.d (D.i .i64 4), .d (D.i .i64 0), .d (D.i .i64 0)]], .row 28 [.os 5 0, .os 6 0, sN, sN, sN]]) rfl ?_
          refine WL.nil ?_
          refine we_blk ?_
          exact we_lp ⟨[[.d (D.s (ByteArray.mk #[120])), .d (D.i .i64 0), .d (D.b false), .d (D.i .i64 0), .d (D.b false), .d (D.sl [])], [.d (D.s (ByteArray.mk #[121])), .d (D.i .i64 2), .d (D.b true), .d (D.i .i64 7), .d (D.b true), .d (D.sl [[.i .i64 1]])]], [kL2, kL3, [.d (D.i .u8 3), .d (D.s (ByteArray.mk #[67, 111, 108, 111, 114])), .d (D.i .i64 (-1)), .d (D.i .i64 1), .d (D.sl [[.s (ByteArray.mk #[82, 101, 100])], [.s (ByteArray.mk #[71, 114, 101, 101, 110])]]), .d (D.i .i64 (-1)), .d (D.i .i64 (-1)), .d (D.i .i64 (-1)), .d (D.s (ByteArray.mk #[])), .d (D.b false), .d (D.i .i64 0), .d (D.sl []), .d (D.i .i64 (-1)), .d (D.i .u8 0), .d (D.b false), .d (D.i .i64 (-1)), .d (D.i .i64 0), .d (D.i .i64 0)], kL14, kL1], [[.d (D.i .i64 1), .d (D.i .i64 (-2147483648)), .d (D.i .i64 2147483647)], [.d (D.i .i64 2), .d (D.i .i64 0), .d (D.i .i64 1)], [.d (D.i .i64 1), .d (D.i .i64 5), .d (D.i .i64 9)], [.d (D.i .i64 3), .d (D.i .i64 0), .d (D.i .i64 0)], [.d (D.i .i64 4), .d (D.i .i64 0), .d (D.i .i64 (-1))], [.d (D.i .i64 4), .d (D.i .i64 0), .d (D.i .i64 0)]], .os 5 0, .os 6 0, (Table.mk [kT21, kT20, kT18, (Ty.mk 4 (ByteArray.mk #[82, 111, 119]) (-1) 3 [] 2 3 (-1) (ByteArray.mk #[]) false 0 [] (-1) 0 false (-1) 0 0), kT19] [(Subt.mk 1 (-2147483648) 2147483647), (Subt.mk 2 0 1), (Subt.mk 1 5 9), (Subt.mk 3 0 0), (Subt.mk 4 0 (-1)), (Subt.mk 4 0 0)] (SlV.mk none 0 0) (SlV.mk none 0 0) (SlV.mk none 0 0)), by kernel_rfl, by kernel_rfl, (Sub.one rfl (Sub.one rfl (Sub.nil _))), rfl⟩
         ·replace hc7 := of_decide_eq_false hc7
          refine wc_seq ?_
          refine wc_region ?_
          refine WL.qn (y_eql rfl rfl) rfl ?_
          refine WL.as rfl rfl ?_
          refine WL.nil ?_
          refine we_seq ?_
          refine wc_cond rfl (fun hc8 => ?_) (fun hc8 => ?_)
          ·replace hc8 := of_decide_eq_true hc8
           refine wc_region ?_
           refine WL.qn (y_fieldAddr kf28_0 rfl) rfl ?_
           refine WL.qn (y_load rfl rfl ka22 rfl) rfl ?_
           refine WL.qn (y_indexAddr_os ke22 rfl rfl rfl (by decide) (by decide)) rfl ?_
           refine WL.qn (y_fieldAddr_pe kf54_8 rfl rfl) rfl ?_
           refine WL.s0 (d_store_pe (es' := [kL2, kL3, [.d (D.i .u8 3), .d (D.s (ByteArray.mk #[67, 111, 108, 111, 114])), .d (D.i .i64 (-1)), .d (D.i .i64 1), .d (D.sl [[.s (ByteArray.mk #[82, 101, 100])], [.s (ByteArray.mk #[71, 114, 101, 101, 110])]]), .d (D.i .i64 (-1)), .d (D.i .i64 (-1)), .d (D.i .i64 (-1)), .d (D.s (ByteArray.mk #[])), .d (D.b false), .d (D.i .i64 0), .d (D.sl []), .d (D.i .i64 (-1)), .d (D.i .u8 0), .d (D.b false), .d (D.i .i64 (-1)), .d (D.i .i64 0), .d (D.i .i64 0)], kL0, kL15]) (r := .d (D.s (ByteArray.mk #[120]))) rfl rfl rfl (Le.refl _) rfl rfl rfl ks9 rfl (by decide) rfl rfl (by decide)) (Wt.none rfl) rfl ?_
           refine WL.st (st' := [.row 28 [.os 5 0, .os 6 0, sN, sN, sN], .row 54 [.d (D.i .u8 3), .d (D.s (ByteArray.mk #[67, 111, 108, 111, 114])), .d (D.i .i64 (-1)), .d (D.i .i64 1), .d (D.sl [[.s (ByteArray.mk #[82, 101, 100])], [.s (ByteArray.mk #[71, 114, 101, 101, 110])]]), .d (D.i .i64 (-1)), .d (D.i .i64 (-1)), .d (D.i .i64 (-1)), .d (D.s (ByteArray.mk #[])), .d (D.b false), .d (D.i .i64 0), .d (D.sl []), .d (D.i .i64 (-1)), .d (D.i .u8 0), .d (D.b false), .d (D.i .i64 (-1)), .d (D.i .i64 0), .d (D.i .i64 0)], .row 54 kL0, .row 54 kL1, .os 56 6 0 [[.d (D.s (ByteArray.mk #[120])), .d (D.i .i64 0), .d (D.b false), .d (D.i .i64 0), .d (D.b false), .d (D.sl [])], [.d (D.s (ByteArray.mk #[121])), .d (D.i .i64 2), .d (D.b true), .d (D.i .i64 7), .d (D.b true), .d (D.sl [[.i .i64 1]])]], .os 54 18 0 [kL2, kL3, [.d (D.i .u8 3), .d (D.s (ByteArray.mk #[67, 111, 108, 111, 114])), .d (D.i .i64 (-1)), .d (D.i .i64 1), .d (D.sl [[.s (ByteArray.mk #[82, 101, 100])], [.s (ByteArray.mk #[71, 114, 101, 101, 110])]]), .d (D.i .i64 (-1)), .d (D.i .i64 (-1)), .d (D.i .i64 (-1)), .d (D.s (ByteArray.mk #[])), .d (D.b false), .d (D.i .i64 0), .d (D.sl []), .d (D.i .i64 (-1)), .d (D.i .u8 0), .d (D.b false), .d (D.i .i64 (-1)), .d (D.i .i64 0), .d (D.i .i64 0)], kL0, kL15], .os 40 3 0 [[.d (D.i .i64 1), .d (D.i .i64 (-2147483648)), .d (D.i .i64 2147483647)], [.d (D.i .i64 2), .d (D.i .i64 0), .d (D.i .i64 1)], [.d (D.i .i64 1), .d (D.i .i64 5), .d (D.i .i64 9)], [.d (D.i .i64 3), .d (D.i .i64 0), .d (D.i .i64 0)], [.d (D.i .i64 4), .d (D.i .i64 0), .d (D.i .i64 (-1))], [.d (D.i .i64 4), .d (D.i .i64 0), .d (D.i .i64 0)]], .row 28 [.os 5 0, .os 6 0, sN, sN, sN]]) rfl ?_
           refine WL.nil ?_
           refine we_blk ?_
           exact we_lp ⟨[[.d (D.s (ByteArray.mk #[120])), .d (D.i .i64 0), .d (D.b false), .d (D.i .i64 0), .d (D.b false), .d (D.sl [])], [.d (D.s (ByteArray.mk #[121])), .d (D.i .i64 2), .d (D.b true), .d (D.i .i64 7), .d (D.b true), .d (D.sl [[.i .i64 1]])]], [kL2, kL3, [.d (D.i .u8 3), .d (D.s (ByteArray.mk #[67, 111, 108, 111, 114])), .d (D.i .i64 (-1)), .d (D.i .i64 1), .d (D.sl [[.s (ByteArray.mk #[82, 101, 100])], [.s (ByteArray.mk #[71, 114, 101, 101, 110])]]), .d (D.i .i64 (-1)), .d (D.i .i64 (-1)), .d (D.i .i64 (-1)), .d (D.s (ByteArray.mk #[])), .d (D.b false), .d (D.i .i64 0), .d (D.sl []), .d (D.i .i64 (-1)), .d (D.i .u8 0), .d (D.b false), .d (D.i .i64 (-1)), .d (D.i .i64 0), .d (D.i .i64 0)], kL0, kL15], [[.d (D.i .i64 1), .d (D.i .i64 (-2147483648)), .d (D.i .i64 2147483647)], [.d (D.i .i64 2), .d (D.i .i64 0), .d (D.i .i64 1)], [.d (D.i .i64 1), .d (D.i .i64 5), .d (D.i .i64 9)], [.d (D.i .i64 3), .d (D.i .i64 0), .d (D.i .i64 0)], [.d (D.i .i64 4), .d (D.i .i64 0), .d (D.i .i64 (-1))], [.d (D.i .i64 4), .d (D.i .i64 0), .d (D.i .i64 0)]], .os 5 0, .os 6 0, (Table.mk [kT21, kT20, kT18, kT22, (Ty.mk 5 (ByteArray.mk #[82, 101, 99]) (-1) 4 [] (-1) (-1) 1 (ByteArray.mk #[120]) true 1 [(CompRow.mk (ByteArray.mk #[120]) 0 false 0 false []), (CompRow.mk (ByteArray.mk #[121]) 2 true 7 true [1])] (-1) 0 false (-1) 0 0)] [(Subt.mk 1 (-2147483648) 2147483647), (Subt.mk 2 0 1), (Subt.mk 1 5 9), (Subt.mk 3 0 0), (Subt.mk 4 0 (-1)), (Subt.mk 4 0 0)] (SlV.mk none 0 0) (SlV.mk none 0 0) (SlV.mk none 0 0)), by kernel_rfl, by kernel_rfl, (Sub.one rfl (Sub.one rfl (Sub.nil _))), rfl⟩
          ·replace hc8 := of_decide_eq_false hc8
           refine wc_seq ?_
           refine wc_region ?_
           refine WL.qn (y_eql rfl rfl) rfl ?_
           refine WL.as rfl rfl ?_
           refine WL.nil ?_
           refine we_seq ?_
           refine wc_cond rfl (fun hc9 => ?_) (fun hc9 => ?_)
           ·replace hc9 := of_decide_eq_true hc9
            refine wc_region ?_
            refine WL.qn (y_fieldAddr kf28_0 rfl) rfl ?_
            refine WL.qn (y_load rfl rfl ka22 rfl) rfl ?_
            refine WL.qn (y_indexAddr_os ke22 rfl rfl rfl (by decide) (by decide)) rfl ?_
            refine WL.qn (y_fieldAddr_pe kf54_10 rfl rfl) rfl ?_
            refine WL.s0 (d_store_pe (es' := [kL2, kL3, [.d (D.i .u8 3), .d (D.s (ByteArray.mk #[67, 111, 108, 111, 114])), .d (D.i .i64 (-1)), .d (D.i .i64 1), .d (D.sl [[.s (ByteArray.mk #[82, 101, 100])], [.s (ByteArray.mk #[71, 114, 101, 101, 110])]]), .d (D.i .i64 (-1)), .d (D.i .i64 (-1)), .d (D.i .i64 (-1)), .d (D.s (ByteArray.mk #[])), .d (D.b false), .d (D.i .i64 0), .d (D.sl []), .d (D.i .i64 (-1)), .d (D.i .u8 0), .d (D.b false), .d (D.i .i64 (-1)), .d (D.i .i64 0), .d (D.i .i64 0)], kL0, kL16]) (r := .d (D.i .i64 2)) rfl rfl rfl (Le.refl _) rfl rfl rfl ks2 rfl (by decide) rfl rfl (by decide)) (Wt.none rfl) rfl ?_
            refine WL.st (st' := [.row 28 [.os 5 0, .os 6 0, sN, sN, sN], .row 54 [.d (D.i .u8 3), .d (D.s (ByteArray.mk #[67, 111, 108, 111, 114])), .d (D.i .i64 (-1)), .d (D.i .i64 1), .d (D.sl [[.s (ByteArray.mk #[82, 101, 100])], [.s (ByteArray.mk #[71, 114, 101, 101, 110])]]), .d (D.i .i64 (-1)), .d (D.i .i64 (-1)), .d (D.i .i64 (-1)), .d (D.s (ByteArray.mk #[])), .d (D.b false), .d (D.i .i64 0), .d (D.sl []), .d (D.i .i64 (-1)), .d (D.i .u8 0), .d (D.b false), .d (D.i .i64 (-1)), .d (D.i .i64 0), .d (D.i .i64 0)], .row 54 kL0, .row 54 kL1, .os 56 6 0 [[.d (D.s (ByteArray.mk #[120])), .d (D.i .i64 0), .d (D.b false), .d (D.i .i64 0), .d (D.b false), .d (D.sl [])], [.d (D.s (ByteArray.mk #[121])), .d (D.i .i64 2), .d (D.b true), .d (D.i .i64 7), .d (D.b true), .d (D.sl [[.i .i64 1]])]], .os 54 18 0 [kL2, kL3, [.d (D.i .u8 3), .d (D.s (ByteArray.mk #[67, 111, 108, 111, 114])), .d (D.i .i64 (-1)), .d (D.i .i64 1), .d (D.sl [[.s (ByteArray.mk #[82, 101, 100])], [.s (ByteArray.mk #[71, 114, 101, 101, 110])]]), .d (D.i .i64 (-1)), .d (D.i .i64 (-1)), .d (D.i .i64 (-1)), .d (D.s (ByteArray.mk #[])), .d (D.b false), .d (D.i .i64 0), .d (D.sl []), .d (D.i .i64 (-1)), .d (D.i .u8 0), .d (D.b false), .d (D.i .i64 (-1)), .d (D.i .i64 0), .d (D.i .i64 0)], kL0, kL16], .os 40 3 0 [[.d (D.i .i64 1), .d (D.i .i64 (-2147483648)), .d (D.i .i64 2147483647)], [.d (D.i .i64 2), .d (D.i .i64 0), .d (D.i .i64 1)], [.d (D.i .i64 1), .d (D.i .i64 5), .d (D.i .i64 9)], [.d (D.i .i64 3), .d (D.i .i64 0), .d (D.i .i64 0)], [.d (D.i .i64 4), .d (D.i .i64 0), .d (D.i .i64 (-1))], [.d (D.i .i64 4), .d (D.i .i64 0), .d (D.i .i64 0)]], .row 28 [.os 5 0, .os 6 0, sN, sN, sN]]) rfl ?_
            refine WL.nil ?_
            refine we_blk ?_
            exact we_lp ⟨[[.d (D.s (ByteArray.mk #[120])), .d (D.i .i64 0), .d (D.b false), .d (D.i .i64 0), .d (D.b false), .d (D.sl [])], [.d (D.s (ByteArray.mk #[121])), .d (D.i .i64 2), .d (D.b true), .d (D.i .i64 7), .d (D.b true), .d (D.sl [[.i .i64 1]])]], [kL2, kL3, [.d (D.i .u8 3), .d (D.s (ByteArray.mk #[67, 111, 108, 111, 114])), .d (D.i .i64 (-1)), .d (D.i .i64 1), .d (D.sl [[.s (ByteArray.mk #[82, 101, 100])], [.s (ByteArray.mk #[71, 114, 101, 101, 110])]]), .d (D.i .i64 (-1)), .d (D.i .i64 (-1)), .d (D.i .i64 (-1)), .d (D.s (ByteArray.mk #[])), .d (D.b false), .d (D.i .i64 0), .d (D.sl []), .d (D.i .i64 (-1)), .d (D.i .u8 0), .d (D.b false), .d (D.i .i64 (-1)), .d (D.i .i64 0), .d (D.i .i64 0)], kL0, kL16], [[.d (D.i .i64 1), .d (D.i .i64 (-2147483648)), .d (D.i .i64 2147483647)], [.d (D.i .i64 2), .d (D.i .i64 0), .d (D.i .i64 1)], [.d (D.i .i64 1), .d (D.i .i64 5), .d (D.i .i64 9)], [.d (D.i .i64 3), .d (D.i .i64 0), .d (D.i .i64 0)], [.d (D.i .i64 4), .d (D.i .i64 0), .d (D.i .i64 (-1))], [.d (D.i .i64 4), .d (D.i .i64 0), .d (D.i .i64 0)]], .os 5 0, .os 6 0, (Table.mk [kT21, kT20, kT18, kT22, (Ty.mk 5 (ByteArray.mk #[82, 101, 99]) (-1) 4 [] (-1) (-1) 1 (ByteArray.mk #[68]) true 2 [(CompRow.mk (ByteArray.mk #[120]) 0 false 0 false []), (CompRow.mk (ByteArray.mk #[121]) 2 true 7 true [1])] (-1) 0 false (-1) 0 0)] [(Subt.mk 1 (-2147483648) 2147483647), (Subt.mk 2 0 1), (Subt.mk 1 5 9), (Subt.mk 3 0 0), (Subt.mk 4 0 (-1)), (Subt.mk 4 0 0)] (SlV.mk none 0 0) (SlV.mk none 0 0) (SlV.mk none 0 0)), by kernel_rfl, by kernel_rfl, (Sub.one rfl (Sub.one rfl (Sub.nil _))), rfl⟩
           ·replace hc9 := of_decide_eq_false hc9
            refine wc_seq ?_
            refine wc_region ?_
            refine WL.qn (y_eql rfl rfl) rfl ?_
            refine WL.as rfl rfl ?_
            refine WL.nil ?_
            refine we_seq ?_
            refine wc_cond rfl (fun hc10 => ?_) (fun hc10 => ?_)
            ·replace hc10 := of_decide_eq_true hc10
             refine wc_region ?_
             refine WL.qn (y_fieldAddr kf28_0 rfl) rfl ?_
             refine WL.qn (y_load rfl rfl ka22 rfl) rfl ?_
             refine WL.qn (y_indexAddr_os ke22 rfl rfl rfl (by decide) (by decide)) rfl ?_
             refine WL.qn (y_fieldAddr_pe kf54_11 rfl rfl) rfl ?_
             refine WL.qn (y_load_pe rfl rfl ka51 rfl) rfl ?_
             refine WL.s ((NewOs.data (ds := [[.i .i64 2]]) (n_buildSlice kl41 kz2 rfl (by decide) (by decide) rfl rfl rfl (by decide)) rfl).does) (Wt.none rfl) rfl rfl ?_
             refine WL.qn (y_indexAddr_os ke51 rfl rfl rfl (by decide) (by decide)) rfl ?_
             refine WL.qn (y_fieldAddr_pe kf56_5 rfl rfl) rfl ?_
             refine WL.s0 (d_store_pe (es' := [[.d (D.s (ByteArray.mk #[120])), .d (D.i .i64 0), .d (D.b false), .d (D.i .i64 0), .d (D.b false), .d (D.sl [])], [.d (D.s (ByteArray.mk #[121])), .d (D.i .i64 2), .d (D.b true), .d (D.i .i64 7), .d (D.b true), .d (D.sl [[.i .i64 2]])]]) (r := .d (D.sl [[.i .i64 2]])) rfl rfl rfl (Le.refl _) rfl rfl rfl ks41 rfl (by decide) rfl rfl (by decide)) (Wt.none rfl) rfl ?_
             refine WL.st (st' := [.row 28 [.os 5 0, .os 6 0, sN, sN, sN], .row 54 [.d (D.i .u8 3), .d (D.s (ByteArray.mk #[67, 111, 108, 111, 114])), .d (D.i .i64 (-1)), .d (D.i .i64 1), .d (D.sl [[.s (ByteArray.mk #[82, 101, 100])], [.s (ByteArray.mk #[71, 114, 101, 101, 110])]]), .d (D.i .i64 (-1)), .d (D.i .i64 (-1)), .d (D.i .i64 (-1)), .d (D.s (ByteArray.mk #[])), .d (D.b false), .d (D.i .i64 0), .d (D.sl []), .d (D.i .i64 (-1)), .d (D.i .u8 0), .d (D.b false), .d (D.i .i64 (-1)), .d (D.i .i64 0), .d (D.i .i64 0)], .row 54 kL0, .row 54 kL1, .os 56 6 0 [[.d (D.s (ByteArray.mk #[120])), .d (D.i .i64 0), .d (D.b false), .d (D.i .i64 0), .d (D.b false), .d (D.sl [])], [.d (D.s (ByteArray.mk #[121])), .d (D.i .i64 2), .d (D.b true), .d (D.i .i64 7), .d (D.b true), .d (D.sl [[.i .i64 2]])]], .os 54 18 0 [kL2, kL3, [.d (D.i .u8 3), .d (D.s (ByteArray.mk #[67, 111, 108, 111, 114])), .d (D.i .i64 (-1)), .d (D.i .i64 1), .d (D.sl [[.s (ByteArray.mk #[82, 101, 100])], [.s (ByteArray.mk #[71, 114, 101, 101, 110])]]), .d (D.i .i64 (-1)), .d (D.i .i64 (-1)), .d (D.i .i64 (-1)), .d (D.s (ByteArray.mk #[])), .d (D.b false), .d (D.i .i64 0), .d (D.sl []), .d (D.i .i64 (-1)), .d (D.i .u8 0), .d (D.b false), .d (D.i .i64 (-1)), .d (D.i .i64 0), .d (D.i .i64 0)], kL0, kL1], .os 40 3 0 [[.d (D.i .i64 1), .d (D.i .i64 (-2147483648)), .d (D.i .i64 2147483647)], [.d (D.i .i64 2), .d (D.i .i64 0), .d (D.i .i64 1)], [.d (D.i .i64 1), .d (D.i .i64 5), .d (D.i .i64 9)], [.d (D.i .i64 3), .d (D.i .i64 0), .d (D.i .i64 0)], [.d (D.i .i64 4), .d (D.i .i64 0), .d (D.i .i64 (-1))], [.d (D.i .i64 4), .d (D.i .i64 0), .d (D.i .i64 0)]], .row 28 [.os 5 0, .os 6 0, sN, sN, sN]]) rfl ?_
             refine WL.nil ?_
             refine we_blk ?_
             exact we_lp ⟨[[.d (D.s (ByteArray.mk #[120])), .d (D.i .i64 0), .d (D.b false), .d (D.i .i64 0), .d (D.b false), .d (D.sl [])], [.d (D.s (ByteArray.mk #[121])), .d (D.i .i64 2), .d (D.b true), .d (D.i .i64 7), .d (D.b true), .d (D.sl [[.i .i64 2]])]], [kL2, kL3, [.d (D.i .u8 3), .d (D.s (ByteArray.mk #[67, 111, 108, 111, 114])), .d (D.i .i64 (-1)), .d (D.i .i64 1), .d (D.sl [[.s (ByteArray.mk #[82, 101, 100])], [.s (ByteArray.mk #[71, 114, 101, 101, 110])]]), .d (D.i .i64 (-1)), .d (D.i .i64 (-1)), .d (D.i .i64 (-1)), .d (D.s (ByteArray.mk #[])), .d (D.b false), .d (D.i .i64 0), .d (D.sl []), .d (D.i .i64 (-1)), .d (D.i .u8 0), .d (D.b false), .d (D.i .i64 (-1)), .d (D.i .i64 0), .d (D.i .i64 0)], kL0, kL1], [[.d (D.i .i64 1), .d (D.i .i64 (-2147483648)), .d (D.i .i64 2147483647)], [.d (D.i .i64 2), .d (D.i .i64 0), .d (D.i .i64 1)], [.d (D.i .i64 1), .d (D.i .i64 5), .d (D.i .i64 9)], [.d (D.i .i64 3), .d (D.i .i64 0), .d (D.i .i64 0)], [.d (D.i .i64 4), .d (D.i .i64 0), .d (D.i .i64 (-1))], [.d (D.i .i64 4), .d (D.i .i64 0), .d (D.i .i64 0)]], .os 5 0, .os 6 0, (Table.mk [kT21, kT20, kT18, kT22, (Ty.mk 5 (ByteArray.mk #[82, 101, 99]) (-1) 4 [] (-1) (-1) 1 (ByteArray.mk #[68]) true 1 [(CompRow.mk (ByteArray.mk #[120]) 0 false 0 false []), (CompRow.mk (ByteArray.mk #[121]) 2 true 7 true [2])] (-1) 0 false (-1) 0 0)] [(Subt.mk 1 (-2147483648) 2147483647), (Subt.mk 2 0 1), (Subt.mk 1 5 9), (Subt.mk 3 0 0), (Subt.mk 4 0 (-1)), (Subt.mk 4 0 0)] (SlV.mk none 0 0) (SlV.mk none 0 0) (SlV.mk none 0 0)), by kernel_rfl, by kernel_rfl, (Sub.one rfl (Sub.one rfl (Sub.nil _))), rfl⟩
            ·replace hc10 := of_decide_eq_false hc10
             refine wc_seq ?_
             refine wc_region ?_
             refine WL.qn (y_eql rfl rfl) rfl ?_
             refine WL.as rfl rfl ?_
             refine WL.nil ?_
             refine we_seq ?_
             refine wc_cond rfl (fun hc11 => ?_) (fun hc11 => ?_)
             ·replace hc11 := of_decide_eq_true hc11
              refine wc_region ?_
              refine WL.qn (y_fieldAddr kf28_0 rfl) rfl ?_
              refine WL.qn (y_load rfl rfl ka22 rfl) rfl ?_
              refine WL.qn (y_indexAddr_os ke22 rfl rfl rfl (by decide) (by decide)) rfl ?_
              refine WL.qn (y_fieldAddr_pe kf54_11 rfl rfl) rfl ?_
              refine WL.qn (y_load_pe rfl rfl ka51 rfl) rfl ?_
              refine WL.qn (y_indexAddr_os ke51 rfl rfl rfl (by decide) (by decide)) rfl ?_
              refine WL.qn (y_fieldAddr_pe kf56_5 rfl rfl) rfl ?_
              refine WL.s0 (d_store_pe (es' := [[.d (D.s (ByteArray.mk #[120])), .d (D.i .i64 0), .d (D.b false), .d (D.i .i64 0), .d (D.b false), .d (D.sl [])], [.d (D.s (ByteArray.mk #[121])), .d (D.i .i64 2), .d (D.b true), .d (D.i .i64 7), .d (D.b true), .d (D.sl [])]]) (r := .d (D.sl [])) rfl rfl rfl Le.nil rfl rfl rfl ks41 rfl (by decide) rfl rfl (by decide)) (Wt.none rfl) rfl ?_
              refine WL.st (st' := [.row 28 [.os 5 0, .os 6 0, sN, sN, sN], .row 54 [.d (D.i .u8 3), .d (D.s (ByteArray.mk #[67, 111, 108, 111, 114])), .d (D.i .i64 (-1)), .d (D.i .i64 1), .d (D.sl [[.s (ByteArray.mk #[82, 101, 100])], [.s (ByteArray.mk #[71, 114, 101, 101, 110])]]), .d (D.i .i64 (-1)), .d (D.i .i64 (-1)), .d (D.i .i64 (-1)), .d (D.s (ByteArray.mk #[])), .d (D.b false), .d (D.i .i64 0), .d (D.sl []), .d (D.i .i64 (-1)), .d (D.i .u8 0), .d (D.b false), .d (D.i .i64 (-1)), .d (D.i .i64 0), .d (D.i .i64 0)], .row 54 kL0, .row 54 kL1, .os 56 6 0 [[.d (D.s (ByteArray.mk #[120])), .d (D.i .i64 0), .d (D.b false), .d (D.i .i64 0), .d (D.b false), .d (D.sl [])], [.d (D.s (ByteArray.mk #[121])), .d (D.i .i64 2), .d (D.b true), .d (D.i .i64 7), .d (D.b true), .d (D.sl [])]], .os 54 18 0 [kL2, kL3, [.d (D.i .u8 3), .d (D.s (ByteArray.mk #[67, 111, 108, 111, 114])), .d (D.i .i64 (-1)), .d (D.i .i64 1), .d (D.sl [[.s (ByteArray.mk #[82, 101, 100])], [.s (ByteArray.mk #[71, 114, 101, 101, 110])]]), .d (D.i .i64 (-1)), .d (D.i .i64 (-1)), .d (D.i .i64 (-1)), .d (D.s (ByteArray.mk #[])), .d (D.b false), .d (D.i .i64 0), .d (D.sl []), .d (D.i .i64 (-1)), .d (D.i .u8 0), .d (D.b false), .d (D.i .i64 (-1)), .d (D.i .i64 0), .d (D.i .i64 0)], kL0, kL1], .os 40 3 0 [[.d (D.i .i64 1), .d (D.i .i64 (-2147483648)), .d (D.i .i64 2147483647)], [.d (D.i .i64 2), .d (D.i .i64 0), .d (D.i .i64 1)], [.d (D.i .i64 1), .d (D.i .i64 5), .d (D.i .i64 9)], [.d (D.i .i64 3), .d (D.i .i64 0), .d (D.i .i64 0)], [.d (D.i .i64 4), .d (D.i .i64 0), .d (D.i .i64 (-1))], [.d (D.i .i64 4), .d (D.i .i64 0), .d (D.i .i64 0)]], .row 28 [.os 5 0, .os 6 0, sN, sN, sN]]) rfl ?_
              refine WL.nil ?_
              refine we_blk ?_
              exact we_lp ⟨[[.d (D.s (ByteArray.mk #[120])), .d (D.i .i64 0), .d (D.b false), .d (D.i .i64 0), .d (D.b false), .d (D.sl [])], [.d (D.s (ByteArray.mk #[121])), .d (D.i .i64 2), .d (D.b true), .d (D.i .i64 7), .d (D.b true), .d (D.sl [])]], [kL2, kL3, [.d (D.i .u8 3), .d (D.s (ByteArray.mk #[67, 111, 108, 111, 114])), .d (D.i .i64 (-1)), .d (D.i .i64 1), .d (D.sl [[.s (ByteArray.mk #[82, 101, 100])], [.s (ByteArray.mk #[71, 114, 101, 101, 110])]]), .d (D.i .i64 (-1)), .d (D.i .i64 (-1)), .d (D.i .i64 (-1)), .d (D.s (ByteArray.mk #[])), .d (D.b false), .d (D.i .i64 0), .d (D.sl []), .d (D.i .i64 (-1)), .d (D.i .u8 0), .d (D.b false), .d (D.i .i64 (-1)), .d (D.i .i64 0), .d (D.i .i64 0)], kL0, kL1], [[.d (D.i .i64 1), .d (D.i .i64 (-2147483648)), .d (D.i .i64 2147483647)], [.d (D.i .i64 2), .d (D.i .i64 0), .d (D.i .i64 1)], [.d (D.i .i64 1), .d (D.i .i64 5), .d (D.i .i64 9)], [.d (D.i .i64 3), .d (D.i .i64 0), .d (D.i .i64 0)], [.d (D.i .i64 4), .d (D.i .i64 0), .d (D.i .i64 (-1))], [.d (D.i .i64 4), .d (D.i .i64 0), .d (D.i .i64 0)]], .os 5 0, .os 6 0, (Table.mk [kT21, kT20, kT18, kT22, (Ty.mk 5 (ByteArray.mk #[82, 101, 99]) (-1) 4 [] (-1) (-1) 1 (ByteArray.mk #[68]) true 1 [(CompRow.mk (ByteArray.mk #[120]) 0 false 0 false []), (CompRow.mk (ByteArray.mk #[121]) 2 true 7 true [])] (-1) 0 false (-1) 0 0)] [(Subt.mk 1 (-2147483648) 2147483647), (Subt.mk 2 0 1), (Subt.mk 1 5 9), (Subt.mk 3 0 0), (Subt.mk 4 0 (-1)), (Subt.mk 4 0 0)] (SlV.mk none 0 0) (SlV.mk none 0 0) (SlV.mk none 0 0)), by kernel_rfl, by kernel_rfl, (Sub.one rfl (Sub.one rfl (Sub.nil _))), rfl⟩
             ·replace hc11 := of_decide_eq_false hc11
              refine wc_seq ?_
              refine wc_region ?_
              refine WL.qn (y_eql rfl rfl) rfl ?_
              refine WL.as rfl rfl ?_
              refine WL.nil ?_
              refine we_seq ?_
              refine wc_cond rfl (fun hc12 => ?_) (fun hc12 => ?_)
              ·replace hc12 := of_decide_eq_true hc12
               refine wc_region ?_
               refine WL.qn (y_fieldAddr kf28_0 rfl) rfl ?_
               refine WL.qn (y_load rfl rfl ka22 rfl) rfl ?_
               refine WL.qn (y_indexAddr_os ke22 rfl rfl rfl (by decide) (by decide)) rfl ?_
               refine WL.qn (y_fieldAddr_pe kf54_11 rfl rfl) rfl ?_
               refine WL.qn (y_load_pe rfl rfl ka51 rfl) rfl ?_
               refine WL.qn (y_indexAddr_os ke51 rfl rfl rfl (by decide) (by decide)) rfl ?_
               refine WL.qn (y_fieldAddr_pe kf56_3 rfl rfl) rfl ?_
               refine WL.s0 (d_store_pe (es' := [[.d (D.s (ByteArray.mk #[120])), .d (D.i .i64 0), .d (D.b false), .d (D.i .i64 1), .d (D.b false), .d (D.sl [])], [.d (D.s (ByteArray.mk #[121])), .d (D.i .i64 2), .d (D.b true), .d (D.i .i64 7), .d (D.b true), .d (D.sl [[.i .i64 1]])]]) (r := .d (D.i .i64 1)) rfl rfl rfl (Le.refl _) rfl rfl rfl ks2 rfl (by decide) rfl rfl (by decide)) (Wt.none rfl) rfl ?_
               refine WL.st (st' := [.row 28 [.os 5 0, .os 6 0, sN, sN, sN], .row 54 [.d (D.i .u8 3), .d (D.s (ByteArray.mk #[67, 111, 108, 111, 114])), .d (D.i .i64 (-1)), .d (D.i .i64 1), .d (D.sl [[.s (ByteArray.mk #[82, 101, 100])], [.s (ByteArray.mk #[71, 114, 101, 101, 110])]]), .d (D.i .i64 (-1)), .d (D.i .i64 (-1)), .d (D.i .i64 (-1)), .d (D.s (ByteArray.mk #[])), .d (D.b false), .d (D.i .i64 0), .d (D.sl []), .d (D.i .i64 (-1)), .d (D.i .u8 0), .d (D.b false), .d (D.i .i64 (-1)), .d (D.i .i64 0), .d (D.i .i64 0)], .row 54 kL0, .row 54 kL1, .os 56 6 0 [[.d (D.s (ByteArray.mk #[120])), .d (D.i .i64 0), .d (D.b false), .d (D.i .i64 1), .d (D.b false), .d (D.sl [])], [.d (D.s (ByteArray.mk #[121])), .d (D.i .i64 2), .d (D.b true), .d (D.i .i64 7), .d (D.b true), .d (D.sl [[.i .i64 1]])]], .os 54 18 0 [kL2, kL3, [.d (D.i .u8 3), .d (D.s (ByteArray.mk #[67, 111, 108, 111, 114])), .d (D.i .i64 (-1)), .d (D.i .i64 1), .d (D.sl [[.s (ByteArray.mk #[82, 101, 100])], [.s (ByteArray.mk #[71, 114, 101, 101, 110])]]), .d (D.i .i64 (-1)), .d (D.i .i64 (-1)), .d (D.i .i64 (-1)), .d (D.s (ByteArray.mk #[])), .d (D.b false), .d (D.i .i64 0), .d (D.sl []), .d (D.i .i64 (-1)), .d (D.i .u8 0), .d (D.b false), .d (D.i .i64 (-1)), .d (D.i .i64 0), .d (D.i .i64 0)], kL0, kL1], .os 40 3 0 [[.d (D.i .i64 1), .d (D.i .i64 (-2147483648)), .d (D.i .i64 2147483647)], [.d (D.i .i64 2), .d (D.i .i64 0), .d (D.i .i64 1)], [.d (D.i .i64 1), .d (D.i .i64 5), .d (D.i .i64 9)], [.d (D.i .i64 3), .d (D.i .i64 0), .d (D.i .i64 0)], [.d (D.i .i64 4), .d (D.i .i64 0), .d (D.i .i64 (-1))], [.d (D.i .i64 4), .d (D.i .i64 0), .d (D.i .i64 0)]], .row 28 [.os 5 0, .os 6 0, sN, sN, sN]]) rfl ?_
               refine WL.nil ?_
               refine we_blk ?_
               exact we_lp ⟨[[.d (D.s (ByteArray.mk #[120])), .d (D.i .i64 0), .d (D.b false), .d (D.i .i64 1), .d (D.b false), .d (D.sl [])], [.d (D.s (ByteArray.mk #[121])), .d (D.i .i64 2), .d (D.b true), .d (D.i .i64 7), .d (D.b true), .d (D.sl [[.i .i64 1]])]], [kL2, kL3, [.d (D.i .u8 3), .d (D.s (ByteArray.mk #[67, 111, 108, 111, 114])), .d (D.i .i64 (-1)), .d (D.i .i64 1), .d (D.sl [[.s (ByteArray.mk #[82, 101, 100])], [.s (ByteArray.mk #[71, 114, 101, 101, 110])]]), .d (D.i .i64 (-1)), .d (D.i .i64 (-1)), .d (D.i .i64 (-1)), .d (D.s (ByteArray.mk #[])), .d (D.b false), .d (D.i .i64 0), .d (D.sl []), .d (D.i .i64 (-1)), .d (D.i .u8 0), .d (D.b false), .d (D.i .i64 (-1)), .d (D.i .i64 0), .d (D.i .i64 0)], kL0, kL1], [[.d (D.i .i64 1), .d (D.i .i64 (-2147483648)), .d (D.i .i64 2147483647)], [.d (D.i .i64 2), .d (D.i .i64 0), .d (D.i .i64 1)], [.d (D.i .i64 1), .d (D.i .i64 5), .d (D.i .i64 9)], [.d (D.i .i64 3), .d (D.i .i64 0), .d (D.i .i64 0)], [.d (D.i .i64 4), .d (D.i .i64 0), .d (D.i .i64 (-1))], [.d (D.i .i64 4), .d (D.i .i64 0), .d (D.i .i64 0)]], .os 5 0, .os 6 0, (Table.mk [kT21, kT20, kT18, kT22, (Ty.mk 5 (ByteArray.mk #[82, 101, 99]) (-1) 4 [] (-1) (-1) 1 (ByteArray.mk #[68]) true 1 [(CompRow.mk (ByteArray.mk #[120]) 0 false 1 false []), (CompRow.mk (ByteArray.mk #[121]) 2 true 7 true [1])] (-1) 0 false (-1) 0 0)] [(Subt.mk 1 (-2147483648) 2147483647), (Subt.mk 2 0 1), (Subt.mk 1 5 9), (Subt.mk 3 0 0), (Subt.mk 4 0 (-1)), (Subt.mk 4 0 0)] (SlV.mk none 0 0) (SlV.mk none 0 0) (SlV.mk none 0 0)), by kernel_rfl, by kernel_rfl, (Sub.one rfl (Sub.one rfl (Sub.nil _))), rfl⟩
              ·replace hc12 := of_decide_eq_false hc12
               refine wc_seq ?_
               refine wc_region ?_
               refine WL.qn (y_eql rfl rfl) rfl ?_
               refine WL.as rfl rfl ?_
               refine WL.nil ?_
               refine we_seq ?_
               refine wc_cond rfl (fun hc13 => ?_) (fun hc13 => ?_)
               ·replace hc13 := of_decide_eq_true hc13
                refine wc_region ?_
                refine WL.qn (y_fieldAddr kf28_0 rfl) rfl ?_
                refine WL.qn (y_load rfl rfl ka22 rfl) rfl ?_
                refine WL.qn (y_indexAddr_os ke22 rfl rfl rfl (by decide) (by decide)) rfl ?_
                refine WL.qn (y_fieldAddr_pe kf54_7 rfl rfl) rfl ?_
                refine WL.s0 (d_store_pe (es' := [kL2, kL3, [.d (D.i .u8 3), .d (D.s (ByteArray.mk #[67, 111, 108, 111, 114])), .d (D.i .i64 (-1)), .d (D.i .i64 1), .d (D.sl [[.s (ByteArray.mk #[82, 101, 100])], [.s (ByteArray.mk #[71, 114, 101, 101, 110])]]), .d (D.i .i64 (-1)), .d (D.i .i64 (-1)), .d (D.i .i64 (-1)), .d (D.s (ByteArray.mk #[])), .d (D.b false), .d (D.i .i64 0), .d (D.sl []), .d (D.i .i64 (-1)), .d (D.i .u8 0), .d (D.b false), .d (D.i .i64 (-1)), .d (D.i .i64 0), .d (D.i .i64 0)], kL0, kL11]) (r := .d (D.i .i64 (-1))) rfl rfl rfl (Le.refl _) rfl rfl rfl ks3 rfl (by decide) rfl rfl (by decide)) (Wt.none rfl) rfl ?_
                refine WL.st (st' := [.row 28 [.os 5 0, .os 6 0, sN, sN, sN], .row 54 [.d (D.i .u8 3), .d (D.s (ByteArray.mk #[67, 111, 108, 111, 114])), .d (D.i .i64 (-1)), .d (D.i .i64 1), .d (D.sl [[.s (ByteArray.mk #[82, 101, 100])], [.s (ByteArray.mk #[71, 114, 101, 101, 110])]]), .d (D.i .i64 (-1)), .d (D.i .i64 (-1)), .d (D.i .i64 (-1)), .d (D.s (ByteArray.mk #[])), .d (D.b false), .d (D.i .i64 0), .d (D.sl []), .d (D.i .i64 (-1)), .d (D.i .u8 0), .d (D.b false), .d (D.i .i64 (-1)), .d (D.i .i64 0), .d (D.i .i64 0)], .row 54 kL0, .row 54 kL1, .os 56 6 0 [[.d (D.s (ByteArray.mk #[120])), .d (D.i .i64 0), .d (D.b false), .d (D.i .i64 0), .d (D.b false), .d (D.sl [])], [.d (D.s (ByteArray.mk #[121])), .d (D.i .i64 2), .d (D.b true), .d (D.i .i64 7), .d (D.b true), .d (D.sl [[.i .i64 1]])]], .os 54 18 0 [kL2, kL3, [.d (D.i .u8 3), .d (D.s (ByteArray.mk #[67, 111, 108, 111, 114])), .d (D.i .i64 (-1)), .d (D.i .i64 1), .d (D.sl [[.s (ByteArray.mk #[82, 101, 100])], [.s (ByteArray.mk #[71, 114, 101, 101, 110])]]), .d (D.i .i64 (-1)), .d (D.i .i64 (-1)), .d (D.i .i64 (-1)), .d (D.s (ByteArray.mk #[])), .d (D.b false), .d (D.i .i64 0), .d (D.sl []), .d (D.i .i64 (-1)), .d (D.i .u8 0), .d (D.b false), .d (D.i .i64 (-1)), .d (D.i .i64 0), .d (D.i .i64 0)], kL0, kL11], .os 40 3 0 [[.d (D.i .i64 1), .d (D.i .i64 (-2147483648)), .d (D.i .i64 2147483647)], [.d (D.i .i64 2), .d (D.i .i64 0), .d (D.i .i64 1)], [.d (D.i .i64 1), .d (D.i .i64 5), .d (D.i .i64 9)], [.d (D.i .i64 3), .d (D.i .i64 0), .d (D.i .i64 0)], [.d (D.i .i64 4), .d (D.i .i64 0), .d (D.i .i64 (-1))], [.d (D.i .i64 4), .d (D.i .i64 0), .d (D.i .i64 0)]], .row 28 [.os 5 0, .os 6 0, sN, sN, sN]]) rfl ?_
                refine WL.nil ?_
                refine we_blk ?_
                exact we_lp ⟨[[.d (D.s (ByteArray.mk #[120])), .d (D.i .i64 0), .d (D.b false), .d (D.i .i64 0), .d (D.b false), .d (D.sl [])], [.d (D.s (ByteArray.mk #[121])), .d (D.i .i64 2), .d (D.b true), .d (D.i .i64 7), .d (D.b true), .d (D.sl [[.i .i64 1]])]], [kL2, kL3, [.d (D.i .u8 3), .d (D.s (ByteArray.mk #[67, 111, 108, 111, 114])), .d (D.i .i64 (-1)), .d (D.i .i64 1), .d (D.sl [[.s (ByteArray.mk #[82, 101, 100])], [.s (ByteArray.mk #[71, 114, 101, 101, 110])]]), .d (D.i .i64 (-1)), .d (D.i .i64 (-1)), .d (D.i .i64 (-1)), .d (D.s (ByteArray.mk #[])), .d (D.b false), .d (D.i .i64 0), .d (D.sl []), .d (D.i .i64 (-1)), .d (D.i .u8 0), .d (D.b false), .d (D.i .i64 (-1)), .d (D.i .i64 0), .d (D.i .i64 0)], kL0, kL11], [[.d (D.i .i64 1), .d (D.i .i64 (-2147483648)), .d (D.i .i64 2147483647)], [.d (D.i .i64 2), .d (D.i .i64 0), .d (D.i .i64 1)], [.d (D.i .i64 1), .d (D.i .i64 5), .d (D.i .i64 9)], [.d (D.i .i64 3), .d (D.i .i64 0), .d (D.i .i64 0)], [.d (D.i .i64 4), .d (D.i .i64 0), .d (D.i .i64 (-1))], [.d (D.i .i64 4), .d (D.i .i64 0), .d (D.i .i64 0)]], .os 5 0, .os 6 0, (Table.mk [kT21, kT20, kT18, kT22, (Ty.mk 5 (ByteArray.mk #[82, 101, 99]) (-1) 4 [] (-1) (-1) (-1) (ByteArray.mk #[68]) true 1 [(CompRow.mk (ByteArray.mk #[120]) 0 false 0 false []), (CompRow.mk (ByteArray.mk #[121]) 2 true 7 true [1])] (-1) 0 false (-1) 0 0)] [(Subt.mk 1 (-2147483648) 2147483647), (Subt.mk 2 0 1), (Subt.mk 1 5 9), (Subt.mk 3 0 0), (Subt.mk 4 0 (-1)), (Subt.mk 4 0 0)] (SlV.mk none 0 0) (SlV.mk none 0 0) (SlV.mk none 0 0)), by kernel_rfl, by kernel_rfl, (Sub.one rfl (Sub.one rfl (Sub.nil _))), rfl⟩
               ·replace hc13 := of_decide_eq_false hc13
                refine wc_seq ?_
                refine wc_region ?_
                refine WL.qn (y_eql rfl rfl) rfl ?_
                refine WL.as rfl rfl ?_
                refine WL.nil ?_
                refine we_seq ?_
                refine wc_cond rfl (fun hc14 => ?_) (fun hc14 => ?_)
                ·replace hc14 := of_decide_eq_true hc14
                 refine wc_region ?_
                 refine WL.qn (y_fieldAddr kf28_1 rfl) rfl ?_
                 refine WL.qn (y_load rfl rfl ka23 rfl) rfl ?_
                 refine WL.qn (y_indexAddr_os ke23 rfl rfl rfl (by decide) (by decide)) rfl ?_
                 refine WL.qn (y_fieldAddr_pe kf40_1 rfl rfl) rfl ?_
                 refine WL.qn (y_load_pe rfl rfl ka2 rfl) rfl ?_
                 refine WL.qn (y_sub (c := (-2147483649)) rfl rfl (by decide)) rfl ?_
                 refine WL.qn (y_indexAddr_os ke23 rfl rfl rfl (by decide) (by decide)) rfl ?_
                 refine WL.qn (y_fieldAddr_pe kf40_1 rfl rfl) rfl ?_
                 refine WL.s0 (d_store_pe (es' := [[.d (D.i .i64 1), .d (D.i .i64 (-2147483649)), .d (D.i .i64 2147483647)], [.d (D.i .i64 2), .d (D.i .i64 0), .d (D.i .i64 1)], [.d (D.i .i64 1), .d (D.i .i64 5), .d (D.i .i64 9)], [.d (D.i .i64 3), .d (D.i .i64 0), .d (D.i .i64 0)], [.d (D.i .i64 4), .d (D.i .i64 0), .d (D.i .i64 (-1))], [.d (D.i .i64 4), .d (D.i .i64 0), .d (D.i .i64 0)]]) (r := .d (D.i .i64 (-2147483649))) rfl rfl rfl (Le.refl _) rfl rfl rfl ks2 rfl (by decide) rfl rfl (by decide)) (Wt.none rfl) rfl ?_
                 refine WL.st (st' := [.row 28 [.os 5 0, .os 6 0, sN, sN, sN], .row 54 [.d (D.i .u8 3), .d (D.s (ByteArray.mk #[67, 111, 108, 111, 114])), .d (D.i .i64 (-1)), .d (D.i .i64 1), .d (D.sl [[.s (ByteArray.mk #[82, 101, 100])], [.s (ByteArray.mk #[71, 114, 101, 101, 110])]]), .d (D.i .i64 (-1)), .d (D.i .i64 (-1)), .d (D.i .i64 (-1)), .d (D.s (ByteArray.mk #[])), .d (D.b false), .d (D.i .i64 0), .d (D.sl []), .d (D.i .i64 (-1)), .d (D.i .u8 0), .d (D.b false), .d (D.i .i64 (-1)), .d (D.i .i64 0), .d (D.i .i64 0)], .row 54 kL0, .row 54 kL1, .os 56 6 0 [[.d (D.s (ByteArray.mk #[120])), .d (D.i .i64 0), .d (D.b false), .d (D.i .i64 0), .d (D.b false), .d (D.sl [])], [.d (D.s (ByteArray.mk #[121])), .d (D.i .i64 2), .d (D.b true), .d (D.i .i64 7), .d (D.b true), .d (D.sl [[.i .i64 1]])]], .os 54 18 0 [kL2, kL3, [.d (D.i .u8 3), .d (D.s (ByteArray.mk #[67, 111, 108, 111, 114])), .d (D.i .i64 (-1)), .d (D.i .i64 1), .d (D.sl [[.s (ByteArray.mk #[82, 101, 100])], [.s (ByteArray.mk #[71, 114, 101, 101, 110])]]), .d (D.i .i64 (-1)), .d (D.i .i64 (-1)), .d (D.i .i64 (-1)), .d (D.s (ByteArray.mk #[])), .d (D.b false), .d (D.i .i64 0), .d (D.sl []), .d (D.i .i64 (-1)), .d (D.i .u8 0), .d (D.b false), .d (D.i .i64 (-1)), .d (D.i .i64 0), .d (D.i .i64 0)], kL0, kL1], .os 40 3 0 [[.d (D.i .i64 1), .d (D.i .i64 (-2147483649)), .d (D.i .i64 2147483647)], [.d (D.i .i64 2), .d (D.i .i64 0), .d (D.i .i64 1)], [.d (D.i .i64 1), .d (D.i .i64 5), .d (D.i .i64 9)], [.d (D.i .i64 3), .d (D.i .i64 0), .d (D.i .i64 0)], [.d (D.i .i64 4), .d (D.i .i64 0), .d (D.i .i64 (-1))], [.d (D.i .i64 4), .d (D.i .i64 0), .d (D.i .i64 0)]], .row 28 [.os 5 0, .os 6 0, sN, sN, sN]]) rfl ?_
                 refine WL.nil ?_
                 refine we_blk ?_
                 exact we_lp ⟨[[.d (D.s (ByteArray.mk #[120])), .d (D.i .i64 0), .d (D.b false), .d (D.i .i64 0), .d (D.b false), .d (D.sl [])], [.d (D.s (ByteArray.mk #[121])), .d (D.i .i64 2), .d (D.b true), .d (D.i .i64 7), .d (D.b true), .d (D.sl [[.i .i64 1]])]], [kL2, kL3, [.d (D.i .u8 3), .d (D.s (ByteArray.mk #[67, 111, 108, 111, 114])), .d (D.i .i64 (-1)), .d (D.i .i64 1), .d (D.sl [[.s (ByteArray.mk #[82, 101, 100])], [.s (ByteArray.mk #[71, 114, 101, 101, 110])]]), .d (D.i .i64 (-1)), .d (D.i .i64 (-1)), .d (D.i .i64 (-1)), .d (D.s (ByteArray.mk #[])), .d (D.b false), .d (D.i .i64 0), .d (D.sl []), .d (D.i .i64 (-1)), .d (D.i .u8 0), .d (D.b false), .d (D.i .i64 (-1)), .d (D.i .i64 0), .d (D.i .i64 0)], kL0, kL1], [[.d (D.i .i64 1), .d (D.i .i64 (-2147483649)), .d (D.i .i64 2147483647)], [.d (D.i .i64 2), .d (D.i .i64 0), .d (D.i .i64 1)], [.d (D.i .i64 1), .d (D.i .i64 5), .d (D.i .i64 9)], [.d (D.i .i64 3), .d (D.i .i64 0), .d (D.i .i64 0)], [.d (D.i .i64 4), .d (D.i .i64 0), .d (D.i .i64 (-1))], [.d (D.i .i64 4), .d (D.i .i64 0), .d (D.i .i64 0)]], .os 5 0, .os 6 0, (Table.mk [kT21, kT20, kT18, kT22, kT19] [(Subt.mk 1 (-2147483649) 2147483647), (Subt.mk 2 0 1), (Subt.mk 1 5 9), (Subt.mk 3 0 0), (Subt.mk 4 0 (-1)), (Subt.mk 4 0 0)] (SlV.mk none 0 0) (SlV.mk none 0 0) (SlV.mk none 0 0)), by kernel_rfl, by kernel_rfl, (Sub.one rfl (Sub.one rfl (Sub.nil _))), rfl⟩
                ·replace hc14 := of_decide_eq_false hc14
                 refine wc_seq ?_
                 refine wc_region ?_
                 refine WL.qn (y_eql rfl rfl) rfl ?_
                 refine WL.as rfl rfl ?_
                 refine WL.nil ?_
                 refine we_seq ?_
                 refine wc_cond rfl (fun hc15 => ?_) (fun hc15 => ?_)
                 ·replace hc15 := of_decide_eq_true hc15
                  refine wc_region ?_
                  refine WL.qn (y_fieldAddr kf28_1 rfl) rfl ?_
                  refine WL.qn (y_load rfl rfl ka23 rfl) rfl ?_
                  refine WL.qn (y_indexAddr_os ke23 rfl rfl rfl (by decide) (by decide)) rfl ?_
                  refine WL.qn (y_fieldAddr_pe kf40_2 rfl rfl) rfl ?_
                  refine WL.s0 (d_store_pe (es' := [[.d (D.i .i64 1), .d (D.i .i64 (-2147483648)), .d (D.i .i64 2147483647)], [.d (D.i .i64 2), .d (D.i .i64 0), .d (D.i .i64 2)], [.d (D.i .i64 1), .d (D.i .i64 5), .d (D.i .i64 9)], [.d (D.i .i64 3), .d (D.i .i64 0), .d (D.i .i64 0)], [.d (D.i .i64 4), .d (D.i .i64 0), .d (D.i .i64 (-1))], [.d (D.i .i64 4), .d (D.i .i64 0), .d (D.i .i64 0)]]) (r := .d (D.i .i64 2)) rfl rfl rfl (Le.refl _) rfl rfl rfl ks2 rfl (by decide) rfl rfl (by decide)) (Wt.none rfl) rfl ?_
                  refine WL.st (st' := [.row 28 [.os 5 0, .os 6 0, sN, sN, sN], .row 54 [.d (D.i .u8 3), .d (D.s (ByteArray.mk #[67, 111, 108, 111, 114])), .d (D.i .i64 (-1)), .d (D.i .i64 1), .d (D.sl [[.s (ByteArray.mk #[82, 101, 100])], [.s (ByteArray.mk #[71, 114, 101, 101, 110])]]), .d (D.i .i64 (-1)), .d (D.i .i64 (-1)), .d (D.i .i64 (-1)), .d (D.s (ByteArray.mk #[])), .d (D.b false), .d (D.i .i64 0), .d (D.sl []), .d (D.i .i64 (-1)), .d (D.i .u8 0), .d (D.b false), .d (D.i .i64 (-1)), .d (D.i .i64 0), .d (D.i .i64 0)], .row 54 kL0, .row 54 kL1, .os 56 6 0 [[.d (D.s (ByteArray.mk #[120])), .d (D.i .i64 0), .d (D.b false), .d (D.i .i64 0), .d (D.b false), .d (D.sl [])], [.d (D.s (ByteArray.mk #[121])), .d (D.i .i64 2), .d (D.b true), .d (D.i .i64 7), .d (D.b true), .d (D.sl [[.i .i64 1]])]], .os 54 18 0 [kL2, kL3, [.d (D.i .u8 3), .d (D.s (ByteArray.mk #[67, 111, 108, 111, 114])), .d (D.i .i64 (-1)), .d (D.i .i64 1), .d (D.sl [[.s (ByteArray.mk #[82, 101, 100])], [.s (ByteArray.mk #[71, 114, 101, 101, 110])]]), .d (D.i .i64 (-1)), .d (D.i .i64 (-1)), .d (D.i .i64 (-1)), .d (D.s (ByteArray.mk #[])), .d (D.b false), .d (D.i .i64 0), .d (D.sl []), .d (D.i .i64 (-1)), .d (D.i .u8 0), .d (D.b false), .d (D.i .i64 (-1)), .d (D.i .i64 0), .d (D.i .i64 0)], kL0, kL1], .os 40 3 0 [[.d (D.i .i64 1), .d (D.i .i64 (-2147483648)), .d (D.i .i64 2147483647)], [.d (D.i .i64 2), .d (D.i .i64 0), .d (D.i .i64 2)], [.d (D.i .i64 1), .d (D.i .i64 5), .d (D.i .i64 9)], [.d (D.i .i64 3), .d (D.i .i64 0), .d (D.i .i64 0)], [.d (D.i .i64 4), .d (D.i .i64 0), .d (D.i .i64 (-1))], [.d (D.i .i64 4), .d (D.i .i64 0), .d (D.i .i64 0)]], .row 28 [.os 5 0, .os 6 0, sN, sN, sN]]) rfl ?_
                  refine WL.nil ?_
                  refine we_blk ?_
                  exact we_lp ⟨[[.d (D.s (ByteArray.mk #[120])), .d (D.i .i64 0), .d (D.b false), .d (D.i .i64 0), .d (D.b false), .d (D.sl [])], [.d (D.s (ByteArray.mk #[121])), .d (D.i .i64 2), .d (D.b true), .d (D.i .i64 7), .d (D.b true), .d (D.sl [[.i .i64 1]])]], [kL2, kL3, [.d (D.i .u8 3), .d (D.s (ByteArray.mk #[67, 111, 108, 111, 114])), .d (D.i .i64 (-1)), .d (D.i .i64 1), .d (D.sl [[.s (ByteArray.mk #[82, 101, 100])], [.s (ByteArray.mk #[71, 114, 101, 101, 110])]]), .d (D.i .i64 (-1)), .d (D.i .i64 (-1)), .d (D.i .i64 (-1)), .d (D.s (ByteArray.mk #[])), .d (D.b false), .d (D.i .i64 0), .d (D.sl []), .d (D.i .i64 (-1)), .d (D.i .u8 0), .d (D.b false), .d (D.i .i64 (-1)), .d (D.i .i64 0), .d (D.i .i64 0)], kL0, kL1], [[.d (D.i .i64 1), .d (D.i .i64 (-2147483648)), .d (D.i .i64 2147483647)], [.d (D.i .i64 2), .d (D.i .i64 0), .d (D.i .i64 2)], [.d (D.i .i64 1), .d (D.i .i64 5), .d (D.i .i64 9)], [.d (D.i .i64 3), .d (D.i .i64 0), .d (D.i .i64 0)], [.d (D.i .i64 4), .d (D.i .i64 0), .d (D.i .i64 (-1))], [.d (D.i .i64 4), .d (D.i .i64 0), .d (D.i .i64 0)]], .os 5 0, .os 6 0, (Table.mk [kT21, kT20, kT18, kT22, kT19] [(Subt.mk 1 (-2147483648) 2147483647), (Subt.mk 2 0 2), (Subt.mk 1 5 9), (Subt.mk 3 0 0), (Subt.mk 4 0 (-1)), (Subt.mk 4 0 0)] (SlV.mk none 0 0) (SlV.mk none 0 0) (SlV.mk none 0 0)), by kernel_rfl, by kernel_rfl, (Sub.one rfl (Sub.one rfl (Sub.nil _))), rfl⟩
                 ·replace hc15 := of_decide_eq_false hc15
                  refine wc_seq ?_
                  refine wc_region ?_
                  refine WL.qn (y_eql rfl rfl) rfl ?_
                  refine WL.as rfl rfl ?_
                  refine WL.nil ?_
                  refine we_seq ?_
                  refine wc_cond rfl (fun hc16 => ?_) (fun hc16 => ?_)
                  ·replace hc16 := of_decide_eq_true hc16
                   refine wc_region ?_
                   refine WL.qn (y_fieldAddr kf28_1 rfl) rfl ?_
                   refine WL.qn (y_load rfl rfl ka23 rfl) rfl ?_
                   refine WL.qn (y_indexAddr_os ke23 rfl rfl rfl (by decide) (by decide)) rfl ?_
                   refine WL.qn (y_fieldAddr_pe kf40_1 rfl rfl) rfl ?_
                   refine WL.s0 (d_store_pe (es' := [[.d (D.i .i64 1), .d (D.i .i64 (-2147483648)), .d (D.i .i64 2147483647)], [.d (D.i .i64 2), .d (D.i .i64 0), .d (D.i .i64 1)], [.d (D.i .i64 1), .d (D.i .i64 5), .d (D.i .i64 9)], [.d (D.i .i64 3), .d (D.i .i64 0), .d (D.i .i64 0)], [.d (D.i .i64 4), .d (D.i .i64 0), .d (D.i .i64 (-1))], [.d (D.i .i64 4), .d (D.i .i64 1), .d (D.i .i64 0)]]) (r := .d (D.i .i64 1)) rfl rfl rfl (Le.refl _) rfl rfl rfl ks2 rfl (by decide) rfl rfl (by decide)) (Wt.none rfl) rfl ?_
                   refine WL.st (st' := [.row 28 [.os 5 0, .os 6 0, sN, sN, sN], .row 54 [.d (D.i .u8 3), .d (D.s (ByteArray.mk #[67, 111, 108, 111, 114])), .d (D.i .i64 (-1)), .d (D.i .i64 1), .d (D.sl [[.s (ByteArray.mk #[82, 101, 100])], [.s (ByteArray.mk #[71, 114, 101, 101, 110])]]), .d (D.i .i64 (-1)), .d (D.i .i64 (-1)), .d (D.i .i64 (-1)), .d (D.s (ByteArray.mk #[])), .d (D.b false), .d (D.i .i64 0), .d (D.sl []), .d (D.i .i64 (-1)), .d (D.i .u8 0), .d (D.b false), .d (D.i .i64 (-1)), .d (D.i .i64 0), .d (D.i .i64 0)], .row 54 kL0, .row 54 kL1, .os 56 6 0 [[.d (D.s (ByteArray.mk #[120])), .d (D.i .i64 0), .d (D.b false), .d (D.i .i64 0), .d (D.b false), .d (D.sl [])], [.d (D.s (ByteArray.mk #[121])), .d (D.i .i64 2), .d (D.b true), .d (D.i .i64 7), .d (D.b true), .d (D.sl [[.i .i64 1]])]], .os 54 18 0 [kL2, kL3, [.d (D.i .u8 3), .d (D.s (ByteArray.mk #[67, 111, 108, 111, 114])), .d (D.i .i64 (-1)), .d (D.i .i64 1), .d (D.sl [[.s (ByteArray.mk #[82, 101, 100])], [.s (ByteArray.mk #[71, 114, 101, 101, 110])]]), .d (D.i .i64 (-1)), .d (D.i .i64 (-1)), .d (D.i .i64 (-1)), .d (D.s (ByteArray.mk #[])), .d (D.b false), .d (D.i .i64 0), .d (D.sl []), .d (D.i .i64 (-1)), .d (D.i .u8 0), .d (D.b false), .d (D.i .i64 (-1)), .d (D.i .i64 0), .d (D.i .i64 0)], kL0, kL1], .os 40 3 0 [[.d (D.i .i64 1), .d (D.i .i64 (-2147483648)), .d (D.i .i64 2147483647)], [.d (D.i .i64 2), .d (D.i .i64 0), .d (D.i .i64 1)], [.d (D.i .i64 1), .d (D.i .i64 5), .d (D.i .i64 9)], [.d (D.i .i64 3), .d (D.i .i64 0), .d (D.i .i64 0)], [.d (D.i .i64 4), .d (D.i .i64 0), .d (D.i .i64 (-1))], [.d (D.i .i64 4), .d (D.i .i64 1), .d (D.i .i64 0)]], .row 28 [.os 5 0, .os 6 0, sN, sN, sN]]) rfl ?_
                   refine WL.nil ?_
                   refine we_blk ?_
                   exact we_lp ⟨[[.d (D.s (ByteArray.mk #[120])), .d (D.i .i64 0), .d (D.b false), .d (D.i .i64 0), .d (D.b false), .d (D.sl [])], [.d (D.s (ByteArray.mk #[121])), .d (D.i .i64 2), .d (D.b true), .d (D.i .i64 7), .d (D.b true), .d (D.sl [[.i .i64 1]])]], [kL2, kL3, [.d (D.i .u8 3), .d (D.s (ByteArray.mk #[67, 111, 108, 111, 114])), .d (D.i .i64 (-1)), .d (D.i .i64 1), .d (D.sl [[.s (ByteArray.mk #[82, 101, 100])], [.s (ByteArray.mk #[71, 114, 101, 101, 110])]]), .d (D.i .i64 (-1)), .d (D.i .i64 (-1)), .d (D.i .i64 (-1)), .d (D.s (ByteArray.mk #[])), .d (D.b false), .d (D.i .i64 0), .d (D.sl []), .d (D.i .i64 (-1)), .d (D.i .u8 0), .d (D.b false), .d (D.i .i64 (-1)), .d (D.i .i64 0), .d (D.i .i64 0)], kL0, kL1], [[.d (D.i .i64 1), .d (D.i .i64 (-2147483648)), .d (D.i .i64 2147483647)], [.d (D.i .i64 2), .d (D.i .i64 0), .d (D.i .i64 1)], [.d (D.i .i64 1), .d (D.i .i64 5), .d (D.i .i64 9)], [.d (D.i .i64 3), .d (D.i .i64 0), .d (D.i .i64 0)], [.d (D.i .i64 4), .d (D.i .i64 0), .d (D.i .i64 (-1))], [.d (D.i .i64 4), .d (D.i .i64 1), .d (D.i .i64 0)]], .os 5 0, .os 6 0, (Table.mk [kT21, kT20, kT18, kT22, kT19] [(Subt.mk 1 (-2147483648) 2147483647), (Subt.mk 2 0 1), (Subt.mk 1 5 9), (Subt.mk 3 0 0), (Subt.mk 4 0 (-1)), (Subt.mk 4 1 0)] (SlV.mk none 0 0) (SlV.mk none 0 0) (SlV.mk none 0 0)), by kernel_rfl, by kernel_rfl, (Sub.one rfl (Sub.one rfl (Sub.nil _))), rfl⟩
                  ·replace hc16 := of_decide_eq_false hc16
                   refine wc_seq ?_
                   refine wc_region ?_
                   refine WL.qn (y_eql rfl rfl) rfl ?_
                   refine WL.as rfl rfl ?_
                   refine WL.nil ?_
                   refine we_seq ?_
                   refine wc_cond rfl (fun hc17 => ?_) (fun hc17 => ?_)
                   ·replace hc17 := of_decide_eq_true hc17
                    refine wc_region ?_
                    refine WL.qn (y_fieldAddr kf28_1 rfl) rfl ?_
                    refine WL.qn (y_load rfl rfl ka23 rfl) rfl ?_
                    refine WL.qn (y_indexAddr_os ke23 rfl rfl rfl (by decide) (by decide)) rfl ?_
                    refine WL.qn (y_fieldAddr_pe kf40_2 rfl rfl) rfl ?_
                    refine WL.s0 (d_store_pe (es' := [[.d (D.i .i64 1), .d (D.i .i64 (-2147483648)), .d (D.i .i64 2147483647)], [.d (D.i .i64 2), .d (D.i .i64 0), .d (D.i .i64 1)], [.d (D.i .i64 1), .d (D.i .i64 5), .d (D.i .i64 9)], [.d (D.i .i64 3), .d (D.i .i64 0), .d (D.i .i64 1)], [.d (D.i .i64 4), .d (D.i .i64 0), .d (D.i .i64 (-1))], [.d (D.i .i64 4), .d (D.i .i64 0), .d (D.i .i64 0)]]) (r := .d (D.i .i64 1)) rfl rfl rfl (Le.refl _) rfl rfl rfl ks2 rfl (by decide) rfl rfl (by decide)) (Wt.none rfl) rfl ?_
                    refine WL.st (st' := [.row 28 [.os 5 0, .os 6 0, sN, sN, sN], .row 54 [.d (D.i .u8 3), .d (D.s (ByteArray.mk #[67, 111, 108, 111, 114])), .d (D.i .i64 (-1)), .d (D.i .i64 1), .d (D.sl [[.s (ByteArray.mk #[82, 101, 100])], [.s (ByteArray.mk #[71, 114, 101, 101, 110])]]), .d (D.i .i64 (-1)), .d (D.i .i64 (-1)), .d (D.i .i64 (-1)), .d (D.s (ByteArray.mk #[])), .d (D.b false), .d (D.i .i64 0), .d (D.sl []), .d (D.i .i64 (-1)), .d (D.i .u8 0), .d (D.b false), .d (D.i .i64 (-1)), .d (D.i .i64 0), .d (D.i .i64 0)], .row 54 kL0, .row 54 kL1, .os 56 6 0 [[.d (D.s (ByteArray.mk #[120])), .d (D.i .i64 0), .d (D.b false), .d (D.i .i64 0), .d (D.b false), .d (D.sl [])], [.d (D.s (ByteArray.mk #[121])), .d (D.i .i64 2), .d (D.b true), .d (D.i .i64 7), .d (D.b true), .d (D.sl [[.i .i64 1]])]], .os 54 18 0 [kL2, kL3, [.d (D.i .u8 3), .d (D.s (ByteArray.mk #[67, 111, 108, 111, 114])), .d (D.i .i64 (-1)), .d (D.i .i64 1), .d (D.sl [[.s (ByteArray.mk #[82, 101, 100])], [.s (ByteArray.mk #[71, 114, 101, 101, 110])]]), .d (D.i .i64 (-1)), .d (D.i .i64 (-1)), .d (D.i .i64 (-1)), .d (D.s (ByteArray.mk #[])), .d (D.b false), .d (D.i .i64 0), .d (D.sl []), .d (D.i .i64 (-1)), .d (D.i .u8 0), .d (D.b false), .d (D.i .i64 (-1)), .d (D.i .i64 0), .d (D.i .i64 0)], kL0, kL1], .os 40 3 0 [[.d (D.i .i64 1), .d (D.i .i64 (-2147483648)), .d (D.i .i64 2147483647)], [.d (D.i .i64 2), .d (D.i .i64 0), .d (D.i .i64 1)], [.d (D.i .i64 1), .d (D.i .i64 5), .d (D.i .i64 9)], [.d (D.i .i64 3), .d (D.i .i64 0), .d (D.i .i64 1)], [.d (D.i .i64 4), .d (D.i .i64 0), .d (D.i .i64 (-1))], [.d (D.i .i64 4), .d (D.i .i64 0), .d (D.i .i64 0)]], .row 28 [.os 5 0, .os 6 0, sN, sN, sN]]) rfl ?_
                    refine WL.nil ?_
                    refine we_blk ?_
                    exact we_lp ⟨[[.d (D.s (ByteArray.mk #[120])), .d (D.i .i64 0), .d (D.b false), .d (D.i .i64 0), .d (D.b false), .d (D.sl [])], [.d (D.s (ByteArray.mk #[121])), .d (D.i .i64 2), .d (D.b true), .d (D.i .i64 7), .d (D.b true), .d (D.sl [[.i .i64 1]])]], [kL2, kL3, [.d (D.i .u8 3), .d (D.s (ByteArray.mk #[67, 111, 108, 111, 114])), .d (D.i .i64 (-1)), .d (D.i .i64 1), .d (D.sl [[.s (ByteArray.mk #[82, 101, 100])], [.s (ByteArray.mk #[71, 114, 101, 101, 110])]]), .d (D.i .i64 (-1)), .d (D.i .i64 (-1)), .d (D.i .i64 (-1)), .d (D.s (ByteArray.mk #[])), .d (D.b false), .d (D.i .i64 0), .d (D.sl []), .d (D.i .i64 (-1)), .d (D.i .u8 0), .d (D.b false), .d (D.i .i64 (-1)), .d (D.i .i64 0), .d (D.i .i64 0)], kL0, kL1], [[.d (D.i .i64 1), .d (D.i .i64 (-2147483648)), .d (D.i .i64 2147483647)], [.d (D.i .i64 2), .d (D.i .i64 0), .d (D.i .i64 1)], [.d (D.i .i64 1), .d (D.i .i64 5), .d (D.i .i64 9)], [.d (D.i .i64 3), .d (D.i .i64 0), .d (D.i .i64 1)], [.d (D.i .i64 4), .d (D.i .i64 0), .d (D.i .i64 (-1))], [.d (D.i .i64 4), .d (D.i .i64 0), .d (D.i .i64 0)]], .os 5 0, .os 6 0, (Table.mk [kT21, kT20, kT18, kT22, kT19] [(Subt.mk 1 (-2147483648) 2147483647), (Subt.mk 2 0 1), (Subt.mk 1 5 9), (Subt.mk 3 0 1), (Subt.mk 4 0 (-1)), (Subt.mk 4 0 0)] (SlV.mk none 0 0) (SlV.mk none 0 0) (SlV.mk none 0 0)), by kernel_rfl, by kernel_rfl, (Sub.one rfl (Sub.one rfl (Sub.nil _))), rfl⟩
                   ·replace hc17 := of_decide_eq_false hc17
                    refine wc_seq ?_
                    refine wc_region ?_
                    refine WL.qn (y_eql rfl rfl) rfl ?_
                    refine WL.as rfl rfl ?_
                    refine WL.nil ?_
                    refine we_seq ?_
                    refine wc_cond rfl (fun hc18 => ?_) (fun hc18 => ?_)
                    ·replace hc18 := of_decide_eq_true hc18
                     refine wc_region ?_
                     refine WL.qn (y_fieldAddr kf28_1 rfl) rfl ?_
                     refine WL.qn (y_load rfl rfl ka23 rfl) rfl ?_
                     refine WL.qn (y_indexAddr_os ke23 rfl rfl rfl (by decide) (by decide)) rfl ?_
                     refine WL.qn (y_fieldAddr_pe kf40_0 rfl rfl) rfl ?_
                     refine WL.s0 (d_store_pe (es' := [[.d (D.i .i64 1), .d (D.i .i64 (-2147483648)), .d (D.i .i64 2147483647)], [.d (D.i .i64 2), .d (D.i .i64 0), .d (D.i .i64 1)], [.d (D.i .i64 1), .d (D.i .i64 5), .d (D.i .i64 9)], [.d (D.i .i64 3), .d (D.i .i64 0), .d (D.i .i64 0)], [.d (D.i .i64 0), .d (D.i .i64 0), .d (D.i .i64 (-1))], [.d (D.i .i64 4), .d (D.i .i64 0), .d (D.i .i64 0)]]) (r := .d (D.i .i64 0)) rfl rfl rfl (Le.refl _) rfl rfl rfl ks3 rfl (by decide) rfl rfl (by decide)) (Wt.none rfl) rfl ?_
                     refine WL.st (st' := [.row 28 [.os 5 0, .os 6 0, sN, sN, sN], .row 54 [.d (D.i .u8 3), .d (D.s (ByteArray.mk #[67, 111, 108, 111, 114])), .d (D.i .i64 (-1)), .d (D.i .i64 1), .d (D.sl [[.s (ByteArray.mk #[82, 101, 100])], [.s (ByteArray.mk #[71, 114, 101, 101, 110])]]), .d (D.i .i64 (-1)), .d (D.i .i64 (-1)), .d (D.i .i64 (-1)), .d (D.s (ByteArray.mk #[])), .d (D.b false), .d (D.i .i64 0), .d (D.sl []), .d (D.i .i64 (-1)), .d (D.i .u8 0), .d (D.b false), .d (D.i .i64 (-1)), .d (D.i .i64 0), .d (D.i .i64 0)], .row 54 kL0, .row 54 kL1, .os 56 6 0 [[.d (D.s (ByteArray.mk #[120])), .d (D.i .i64 0), .d (D.b false), .d (D.i .i64 0), .d (D.b false), .d (D.sl [])], [.d (D.s (ByteArray.mk #[121])), .d (D.i .i64 2), .d (D.b true), .d (D.i .i64 7), .d (D.b true), .d (D.sl [[.i .i64 1]])]], .os 54 18 0 [kL2, kL3, [.d (D.i .u8 3), .d (D.s (ByteArray.mk #[67, 111, 108, 111, 114])), .d (D.i .i64 (-1)), .d (D.i .i64 1), .d (D.sl [[.s (ByteArray.mk #[82, 101, 100])], [.s (ByteArray.mk #[71, 114, 101, 101, 110])]]), .d (D.i .i64 (-1)), .d (D.i .i64 (-1)), .d (D.i .i64 (-1)), .d (D.s (ByteArray.mk #[])), .d (D.b false), .d (D.i .i64 0), .d (D.sl []), .d (D.i .i64 (-1)), .d (D.i .u8 0), .d (D.b false), .d (D.i .i64 (-1)), .d (D.i .i64 0), .d (D.i .i64 0)], kL0, kL1], .os 40 3 0 [[.d (D.i .i64 1), .d (D.i .i64 (-2147483648)), .d (D.i .i64 2147483647)], [.d (D.i .i64 2), .d (D.i .i64 0), .d (D.i .i64 1)], [.d (D.i .i64 1), .d (D.i .i64 5), .d (D.i .i64 9)], [.d (D.i .i64 3), .d (D.i .i64 0), .d (D.i .i64 0)], [.d (D.i .i64 0), .d (D.i .i64 0), .d (D.i .i64 (-1))], [.d (D.i .i64 4), .d (D.i .i64 0), .d (D.i .i64 0)]], .row 28 [.os 5 0, .os 6 0, sN, sN, sN]]) rfl ?_
                     refine WL.nil ?_
                     refine we_blk ?_
                     exact we_lp ⟨[[.d (D.s (ByteArray.mk #[120])), .d (D.i .i64 0), .d (D.b false), .d (D.i .i64 0), .d (D.b false), .d (D.sl [])], [.d (D.s (ByteArray.mk #[121])), .d (D.i .i64 2), .d (D.b true), .d (D.i .i64 7), .d (D.b true), .d (D.sl [[.i .i64 1]])]], [kL2, kL3, [.d (D.i .u8 3), .d (D.s (ByteArray.mk #[67, 111, 108, 111, 114])), .d (D.i .i64 (-1)), .d (D.i .i64 1), .d (D.sl [[.s (ByteArray.mk #[82, 101, 100])], [.s (ByteArray.mk #[71, 114, 101, 101, 110])]]), .d (D.i .i64 (-1)), .d (D.i .i64 (-1)), .d (D.i .i64 (-1)), .d (D.s (ByteArray.mk #[])), .d (D.b false), .d (D.i .i64 0), .d (D.sl []), .d (D.i .i64 (-1)), .d (D.i .u8 0), .d (D.b false), .d (D.i .i64 (-1)), .d (D.i .i64 0), .d (D.i .i64 0)], kL0, kL1], [[.d (D.i .i64 1), .d (D.i .i64 (-2147483648)), .d (D.i .i64 2147483647)], [.d (D.i .i64 2), .d (D.i .i64 0), .d (D.i .i64 1)], [.d (D.i .i64 1), .d (D.i .i64 5), .d (D.i .i64 9)], [.d (D.i .i64 3), .d (D.i .i64 0), .d (D.i .i64 0)], [.d (D.i .i64 0), .d (D.i .i64 0), .d (D.i .i64 (-1))], [.d (D.i .i64 4), .d (D.i .i64 0), .d (D.i .i64 0)]], .os 5 0, .os 6 0, (Table.mk [kT21, kT20, kT18, kT22, kT19] [(Subt.mk 1 (-2147483648) 2147483647), (Subt.mk 2 0 1), (Subt.mk 1 5 9), (Subt.mk 3 0 0), (Subt.mk 0 0 (-1)), (Subt.mk 4 0 0)] (SlV.mk none 0 0) (SlV.mk none 0 0) (SlV.mk none 0 0)), by kernel_rfl, by kernel_rfl, (Sub.one rfl (Sub.one rfl (Sub.nil _))), rfl⟩
                    ·replace hc18 := of_decide_eq_false hc18
                     refine wc_seq ?_
                     refine wc_region ?_
                     refine WL.qn (y_eql rfl rfl) rfl ?_
                     refine WL.as rfl rfl ?_
                     refine WL.nil ?_
                     refine we_seq ?_
                     refine wc_cond rfl (fun hc19 => ?_) (fun hc19 => ?_)
                     ·replace hc19 := of_decide_eq_true hc19
                      refine wc_region ?_
                      refine WL.qn (y_fieldAddr kf28_0 rfl) rfl ?_
                      refine WL.qn (y_load rfl rfl ka22 rfl) rfl ?_
                      refine WL.qn (y_indexAddr_os ke22 rfl rfl rfl (by decide) (by decide)) rfl ?_
                      refine WL.qn (y_fieldAddr_pe kf54_6 rfl rfl) rfl ?_
                      refine WL.s0 (d_store_pe (es' := [kL2, kL8, [.d (D.i .u8 3), .d (D.s (ByteArray.mk #[67, 111, 108, 111, 114])), .d (D.i .i64 (-1)), .d (D.i .i64 1), .d (D.sl [[.s (ByteArray.mk #[82, 101, 100])], [.s (ByteArray.mk #[71, 114, 101, 101, 110])]]), .d (D.i .i64 (-1)), .d (D.i .i64 (-1)), .d (D.i .i64 (-1)), .d (D.s (ByteArray.mk #[])), .d (D.b false), .d (D.i .i64 0), .d (D.sl []), .d (D.i .i64 (-1)), .d (D.i .u8 0), .d (D.b false), .d (D.i .i64 (-1)), .d (D.i .i64 0), .d (D.i .i64 0)], kL0, kL1]) (r := .d (D.i .i64 0)) rfl rfl rfl (Le.refl _) rfl rfl rfl ks3 rfl (by decide) rfl rfl (by decide)) (Wt.none rfl) rfl ?_
                      refine WL.st (st' := [.row 28 [.os 5 0, .os 6 0, sN, sN, sN], .row 54 [.d (D.i .u8 3), .d (D.s (ByteArray.mk #[67, 111, 108, 111, 114])), .d (D.i .i64 (-1)), .d (D.i .i64 1), .d (D.sl [[.s (ByteArray.mk #[82, 101, 100])], [.s (ByteArray.mk #[71, 114, 101, 101, 110])]]), .d (D.i .i64 (-1)), .d (D.i .i64 (-1)), .d (D.i .i64 (-1)), .d (D.s (ByteArray.mk #[])), .d (D.b false), .d (D.i .i64 0), .d (D.sl []), .d (D.i .i64 (-1)), .d (D.i .u8 0), .d (D.b false), .d (D.i .i64 (-1)), .d (D.i .i64 0), .d (D.i .i64 0)], .row 54 kL0, .row 54 kL1, .os 56 6 0 [[.d (D.s (ByteArray.mk #[120])), .d (D.i .i64 0), .d (D.b false), .d (D.i .i64 0), .d (D.b false), .d (D.sl [])], [.d (D.s (ByteArray.mk #[121])), .d (D.i .i64 2), .d (D.b true), .d (D.i .i64 7), .d (D.b true), .d (D.sl [[.i .i64 1]])]], .os 54 18 0 [kL2, kL8, [.d (D.i .u8 3), .d (D.s (ByteArray.mk #[67, 111, 108, 111, 114])), .d (D.i .i64 (-1)), .d (D.i .i64 1), .d (D.sl [[.s (ByteArray.mk #[82, 101, 100])], [.s (ByteArray.mk #[71, 114, 101, 101, 110])]]), .d (D.i .i64 (-1)), .d (D.i .i64 (-1)), .d (D.i .i64 (-1)), .d (D.s (ByteArray.mk #[])), .d (D.b false), .d (D.i .i64 0), .d (D.sl []), .d (D.i .i64 (-1)), .d (D.i .u8 0), .d (D.b false), .d (D.i .i64 (-1)), .d (D.i .i64 0), .d (D.i .i64 0)], kL0, kL1], .os 40 3 0 [[.d (D.i .i64 1), .d (D.i .i64 (-2147483648)), .d (D.i .i64 2147483647)], [.d (D.i .i64 2), .d (D.i .i64 0), .d (D.i .i64 1)], [.d (D.i .i64 1), .d (D.i .i64 5), .d (D.i .i64 9)], [.d (D.i .i64 3), .d (D.i .i64 0), .d (D.i .i64 0)], [.d (D.i .i64 4), .d (D.i .i64 0), .d (D.i .i64 (-1))], [.d (D.i .i64 4), .d (D.i .i64 0), .d (D.i .i64 0)]], .row 28 [.os 5 0, .os 6 0, sN, sN, sN]]) rfl ?_
                      refine WL.nil ?_
                      refine we_blk ?_
                      exact we_lp ⟨[[.d (D.s (ByteArray.mk #[120])), .d (D.i .i64 0), .d (D.b false), .d (D.i .i64 0), .d (D.b false), .d (D.sl [])], [.d (D.s (ByteArray.mk #[121])), .d (D.i .i64 2), .d (D.b true), .d (D.i .i64 7), .d (D.b true), .d (D.sl [[.i .i64 1]])]], [kL2, kL8, [.d (D.i .u8 3), .d (D.s (ByteArray.mk #[67, 111, 108, 111, 114])), .d (D.i .i64 (-1)), .d (D.i .i64 1), .d (D.sl [[.s (ByteArray.mk #[82, 101, 100])], [.s (ByteArray.mk #[71, 114, 101, 101, 110])]]), .d (D.i .i64 (-1)), .d (D.i .i64 (-1)), .d (D.i .i64 (-1)), .d (D.s (ByteArray.mk #[])), .d (D.b false), .d (D.i .i64 0), .d (D.sl []), .d (D.i .i64 (-1)), .d (D.i .u8 0), .d (D.b false), .d (D.i .i64 (-1)), .d (D.i .i64 0), .d (D.i .i64 0)], kL0, kL1], [[.d (D.i .i64 1), .d (D.i .i64 (-2147483648)), .d (D.i .i64 2147483647)], [.d (D.i .i64 2), .d (D.i .i64 0), .d (D.i .i64 1)], [.d (D.i .i64 1), .d (D.i .i64 5), .d (D.i .i64 9)], [.d (D.i .i64 3), .d (D.i .i64 0), .d (D.i .i64 0)], [.d (D.i .i64 4), .d (D.i .i64 0), .d (D.i .i64 (-1))], [.d (D.i .i64 4), .d (D.i .i64 0), .d (D.i .i64 0)]], .os 5 0, .os 6 0, (Table.mk [kT21, (Ty.mk 2 (ByteArray.mk #[73, 110, 116, 101, 103, 101, 114]) (-1) 0 [] (-1) 0 (-1) (ByteArray.mk #[]) false 0 [] (-1) 0 false (-1) 0 0), kT18, kT22, kT19] [(Subt.mk 1 (-2147483648) 2147483647), (Subt.mk 2 0 1), (Subt.mk 1 5 9), (Subt.mk 3 0 0), (Subt.mk 4 0 (-1)), (Subt.mk 4 0 0)] (SlV.mk none 0 0) (SlV.mk none 0 0) (SlV.mk none 0 0)), by kernel_rfl, by kernel_rfl, (Sub.one rfl (Sub.one rfl (Sub.nil _))), rfl⟩
                     ·replace hc19 := of_decide_eq_false hc19
                      refine wc_seq ?_
                      refine wc_region ?_
                      refine WL.qn (y_eql rfl rfl) rfl ?_
                      refine WL.as rfl rfl ?_
                      refine WL.nil ?_
                      refine we_seq ?_
                      refine wc_cond rfl (fun hc20 => ?_) (fun hc20 => ?_)
                      ·replace hc20 := of_decide_eq_true hc20
                       refine wc_region ?_
                       refine WL.qn (y_fieldAddr kf28_0 rfl) rfl ?_
                       refine WL.qn (y_load rfl rfl ka22 rfl) rfl ?_
                       refine WL.qn (y_indexAddr_os ke22 rfl rfl rfl (by decide) (by decide)) rfl ?_
                       refine WL.qn (y_fieldAddr_pe kf54_14 rfl rfl) rfl ?_
                       refine WL.s0 (d_store_pe (es' := [kL2, kL7, [.d (D.i .u8 3), .d (D.s (ByteArray.mk #[67, 111, 108, 111, 114])), .d (D.i .i64 (-1)), .d (D.i .i64 1), .d (D.sl [[.s (ByteArray.mk #[82, 101, 100])], [.s (ByteArray.mk #[71, 114, 101, 101, 110])]]), .d (D.i .i64 (-1)), .d (D.i .i64 (-1)), .d (D.i .i64 (-1)), .d (D.s (ByteArray.mk #[])), .d (D.b false), .d (D.i .i64 0), .d (D.sl []), .d (D.i .i64 (-1)), .d (D.i .u8 0), .d (D.b false), .d (D.i .i64 (-1)), .d (D.i .i64 0), .d (D.i .i64 0)], kL0, kL1]) (r := .d (D.b true)) rfl rfl rfl (Le.refl _) rfl rfl rfl ks4 rfl (by decide) rfl rfl (by decide)) (Wt.none rfl) rfl ?_
                       refine WL.st (st' := [.row 28 [.os 5 0, .os 6 0, sN, sN, sN], .row 54 [.d (D.i .u8 3), .d (D.s (ByteArray.mk #[67, 111, 108, 111, 114])), .d (D.i .i64 (-1)), .d (D.i .i64 1), .d (D.sl [[.s (ByteArray.mk #[82, 101, 100])], [.s (ByteArray.mk #[71, 114, 101, 101, 110])]]), .d (D.i .i64 (-1)), .d (D.i .i64 (-1)), .d (D.i .i64 (-1)), .d (D.s (ByteArray.mk #[])), .d (D.b false), .d (D.i .i64 0), .d (D.sl []), .d (D.i .i64 (-1)), .d (D.i .u8 0), .d (D.b false), .d (D.i .i64 (-1)), .d (D.i .i64 0), .d (D.i .i64 0)], .row 54 kL0, .row 54 kL1, .os 56 6 0 [[.d (D.s (ByteArray.mk #[120])), .d (D.i .i64 0), .d (D.b false), .d (D.i .i64 0), .d (D.b false), .d (D.sl [])], [.d (D.s (ByteArray.mk #[121])), .d (D.i .i64 2), .d (D.b true), .d (D.i .i64 7), .d (D.b true), .d (D.sl [[.i .i64 1]])]], .os 54 18 0 [kL2, kL7, [.d (D.i .u8 3), .d (D.s (ByteArray.mk #[67, 111, 108, 111, 114])), .d (D.i .i64 (-1)), .d (D.i .i64 1), .d (D.sl [[.s (ByteArray.mk #[82, 101, 100])], [.s (ByteArray.mk #[71, 114, 101, 101, 110])]]), .d (D.i .i64 (-1)), .d (D.i .i64 (-1)), .d (D.i .i64 (-1)), .d (D.s (ByteArray.mk #[])), .d (D.b false), .d (D.i .i64 0), .d (D.sl []), .d (D.i .i64 (-1)), .d (D.i .u8 0), .d (D.b false), .d (D.i .i64 (-1)), .d (D.i .i64 0), .d (D.i .i64 0)], kL0, kL1], .os 40 3 0 [[.d (D.i .i64 1), .d (D.i .i64 (-2147483648)), .d (D.i .i64 2147483647)], [.d (D.i .i64 2), .d (D.i .i64 0), .d (D.i .i64 1)], [.d (D.i .i64 1), .d (D.i .i64 5), .d (D.i .i64 9)], [.d (D.i .i64 3), .d (D.i .i64 0), .d (D.i .i64 0)], [.d (D.i .i64 4), .d (D.i .i64 0), .d (D.i .i64 (-1))], [.d (D.i .i64 4), .d (D.i .i64 0), .d (D.i .i64 0)]], .row 28 [.os 5 0, .os 6 0, sN, sN, sN]]) rfl ?_
                       refine WL.nil ?_
                       refine we_blk ?_
                       exact we_lp ⟨[[.d (D.s (ByteArray.mk #[120])), .d (D.i .i64 0), .d (D.b false), .d (D.i .i64 0), .d (D.b false), .d (D.sl [])], [.d (D.s (ByteArray.mk #[121])), .d (D.i .i64 2), .d (D.b true), .d (D.i .i64 7), .d (D.b true), .d (D.sl [[.i .i64 1]])]], [kL2, kL7, [.d (D.i .u8 3), .d (D.s (ByteArray.mk #[67, 111, 108, 111, 114])), .d (D.i .i64 (-1)), .d (D.i .i64 1), .d (D.sl [[.s (ByteArray.mk #[82, 101, 100])], [.s (ByteArray.mk #[71, 114, 101, 101, 110])]]), .d (D.i .i64 (-1)), .d (D.i .i64 (-1)), .d (D.i .i64 (-1)), .d (D.s (ByteArray.mk #[])), .d (D.b false), .d (D.i .i64 0), .d (D.sl []), .d (D.i .i64 (-1)), .d (D.i .u8 0), .d (D.b false), .d (D.i .i64 (-1)), .d (D.i .i64 0), .d (D.i .i64 0)], kL0, kL1], [[.d (D.i .i64 1), .d (D.i .i64 (-2147483648)), .d (D.i .i64 2147483647)], [.d (D.i .i64 2), .d (D.i .i64 0), .d (D.i .i64 1)], [.d (D.i .i64 1), .d (D.i .i64 5), .d (D.i .i64 9)], [.d (D.i .i64 3), .d (D.i .i64 0), .d (D.i .i64 0)], [.d (D.i .i64 4), .d (D.i .i64 0), .d (D.i .i64 (-1))], [.d (D.i .i64 4), .d (D.i .i64 0), .d (D.i .i64 0)]], .os 5 0, .os 6 0, (Table.mk [kT21, (Ty.mk 2 (ByteArray.mk #[73, 110, 116, 101, 103, 101, 114]) (-1) 0 [] (-1) (-1) (-1) (ByteArray.mk #[]) false 0 [] (-1) 0 true (-1) 0 0), kT18, kT22, kT19] [(Subt.mk 1 (-2147483648) 2147483647), (Subt.mk 2 0 1), (Subt.mk 1 5 9), (Subt.mk 3 0 0), (Subt.mk 4 0 (-1)), (Subt.mk 4 0 0)] (SlV.mk none 0 0) (SlV.mk none 0 0) (SlV.mk none 0 0)), by kernel_rfl, by kernel_rfl, (Sub.one rfl (Sub.one rfl (Sub.nil _))), rfl⟩
                      ·replace hc20 := of_decide_eq_false hc20
                       refine wc_seq ?_
                       refine wc_region ?_
                       refine WL.qn (y_eql rfl rfl) rfl ?_
                       refine WL.as rfl rfl ?_
                       refine WL.nil ?_
                       refine we_seq ?_
                       refine wc_cond rfl (fun hc21 => ?_) (fun hc21 => ?_)
                       ·replace hc21 := of_decide_eq_true hc21
                        refine wc_region ?_
                        refine WL.qn (y_fieldAddr kf28_0 rfl) rfl ?_
                        refine WL.qn (y_load rfl rfl ka22 rfl) rfl ?_
                        refine WL.qn (y_indexAddr_os ke22 rfl rfl rfl (by decide) (by decide)) rfl ?_
                        refine WL.qn (y_fieldAddr_pe kf54_2 rfl rfl) rfl ?_
                        refine WL.s0 (d_store_pe (es' := [kL2, kL3, [.d (D.i .u8 3), .d (D.s (ByteArray.mk #[67, 111, 108, 111, 114])), .d (D.i .i64 1), .d (D.i .i64 1), .d (D.sl [[.s (ByteArray.mk #[82, 101, 100])], [.s (ByteArray.mk #[71, 114, 101, 101, 110])]]), .d (D.i .i64 (-1)), .d (D.i .i64 (-1)), .d (D.i .i64 (-1)), .d (D.s (ByteArray.mk #[])), .d (D.b false), .d (D.i .i64 0), .d (D.sl []), .d (D.i .i64 (-1)), .d (D.i .u8 0), .d (D.b false), .d (D.i .i64 (-1)), .d (D.i .i64 0), .d (D.i .i64 0)], kL0, kL1]) (r := .d (D.i .i64 1)) rfl rfl rfl (Le.refl _) rfl rfl rfl ks3 rfl (by decide) rfl rfl (by decide)) (Wt.none rfl) rfl ?_
                        refine WL.st (st' := [.row 28 [.os 5 0, .os 6 0, sN, sN, sN], .row 54 [.d (D.i .u8 3), .d (D.s (ByteArray.mk #[67, 111, 108, 111, 114])), .d (D.i .i64 (-1)), .d (D.i .i64 1), .d (D.sl [[.s (ByteArray.mk #[82, 101, 100])], [.s (ByteArray.mk #[71, 114, 101, 101, 110])]]), .d (D.i .i64 (-1)), .d (D.i .i64 (-1)), .d (D.i .i64 (-1)), .d (D.s (ByteArray.mk #[])), .d (D.b false), .d (D.i .i64 0), .d (D.sl []), .d (D.i .i64 (-1)), .d (D.i .u8 0), .d (D.b false), .d (D.i .i64 (-1)), .d (D.i .i64 0), .d (D.i .i64 0)], .row 54 kL0, .row 54 kL1, .os 56 6 0 [[.d (D.s (ByteArray.mk #[120])), .d (D.i .i64 0), .d (D.b false), .d (D.i .i64 0), .d (D.b false), .d (D.sl [])], [.d (D.s (ByteArray.mk #[121])), .d (D.i .i64 2), .d (D.b true), .d (D.i .i64 7), .d (D.b true), .d (D.sl [[.i .i64 1]])]], .os 54 18 0 [kL2, kL3, [.d (D.i .u8 3), .d (D.s (ByteArray.mk #[67, 111, 108, 111, 114])), .d (D.i .i64 1), .d (D.i .i64 1), .d (D.sl [[.s (ByteArray.mk #[82, 101, 100])], [.s (ByteArray.mk #[71, 114, 101, 101, 110])]]), .d (D.i .i64 (-1)), .d (D.i .i64 (-1)), .d (D.i .i64 (-1)), .d (D.s (ByteArray.mk #[])), .d (D.b false), .d (D.i .i64 0), .d (D.sl []), .d (D.i .i64 (-1)), .d (D.i .u8 0), .d (D.b false), .d (D.i .i64 (-1)), .d (D.i .i64 0), .d (D.i .i64 0)], kL0, kL1], .os 40 3 0 [[.d (D.i .i64 1), .d (D.i .i64 (-2147483648)), .d (D.i .i64 2147483647)], [.d (D.i .i64 2), .d (D.i .i64 0), .d (D.i .i64 1)], [.d (D.i .i64 1), .d (D.i .i64 5), .d (D.i .i64 9)], [.d (D.i .i64 3), .d (D.i .i64 0), .d (D.i .i64 0)], [.d (D.i .i64 4), .d (D.i .i64 0), .d (D.i .i64 (-1))], [.d (D.i .i64 4), .d (D.i .i64 0), .d (D.i .i64 0)]], .row 28 [.os 5 0, .os 6 0, sN, sN, sN]]) rfl ?_
                        refine WL.nil ?_
                        refine we_blk ?_
                        exact we_lp ⟨[[.d (D.s (ByteArray.mk #[120])), .d (D.i .i64 0), .d (D.b false), .d (D.i .i64 0), .d (D.b false), .d (D.sl [])], [.d (D.s (ByteArray.mk #[121])), .d (D.i .i64 2), .d (D.b true), .d (D.i .i64 7), .d (D.b true), .d (D.sl [[.i .i64 1]])]], [kL2, kL3, [.d (D.i .u8 3), .d (D.s (ByteArray.mk #[67, 111, 108, 111, 114])), .d (D.i .i64 1), .d (D.i .i64 1), .d (D.sl [[.s (ByteArray.mk #[82, 101, 100])], [.s (ByteArray.mk #[71, 114, 101, 101, 110])]]), .d (D.i .i64 (-1)), .d (D.i .i64 (-1)), .d (D.i .i64 (-1)), .d (D.s (ByteArray.mk #[])), .d (D.b false), .d (D.i .i64 0), .d (D.sl []), .d (D.i .i64 (-1)), .d (D.i .u8 0), .d (D.b false), .d (D.i .i64 (-1)), .d (D.i .i64 0), .d (D.i .i64 0)], kL0, kL1], [[.d (D.i .i64 1), .d (D.i .i64 (-2147483648)), .d (D.i .i64 2147483647)], [.d (D.i .i64 2), .d (D.i .i64 0), .d (D.i .i64 1)], [.d (D.i .i64 1), .d (D.i .i64 5), .d (D.i .i64 9)], [.d (D.i .i64 3), .d (D.i .i64 0), .d (D.i .i64 0)], [.d (D.i .i64 4), .d (D.i .i64 0), .d (D.i .i64 (-1))], [.d (D.i .i64 4), .d (D.i .i64 0), .d (D.i .i64 0)]], .os 5 0, .os 6 0, (Table.mk [kT21, kT20, (Ty.mk 3 (ByteArray.mk #[67, 111, 108, 111, 114]) 1 1 [(ByteArray.mk #[82, 101, 100]), (ByteArray.mk #[71, 114, 101, 101, 110])] (-1) (-1) (-1) (ByteArray.mk #[]) false 0 [] (-1) 0 false (-1) 0 0), kT22, kT19] [(Subt.mk 1 (-2147483648) 2147483647), (Subt.mk 2 0 1), (Subt.mk 1 5 9), (Subt.mk 3 0 0), (Subt.mk 4 0 (-1)), (Subt.mk 4 0 0)] (SlV.mk none 0 0) (SlV.mk none 0 0) (SlV.mk none 0 0)), by kernel_rfl, by kernel_rfl, (Sub.one rfl (Sub.one rfl (Sub.nil _))), rfl⟩
                       ·replace hc21 := of_decide_eq_false hc21
                        refine wc_seq ?_
                        refine wc_region ?_
                        refine WL.qn (y_eql rfl rfl) rfl ?_
                        refine WL.as rfl rfl ?_
                        refine WL.nil ?_
                        refine we_seq ?_
                        refine wc_cond rfl (fun hc22 => ?_) (fun hc22 => ?_)
                        ·replace hc22 := of_decide_eq_true hc22
                         refine wc_region ?_
                         refine WL.qn (y_fieldAddr kf28_0 rfl) rfl ?_
                         refine WL.qn (y_load rfl rfl ka22 rfl) rfl ?_
                         refine WL.qn (y_indexAddr_os ke22 rfl rfl rfl (by decide) (by decide)) rfl ?_
                         refine WL.qn (y_fieldAddr_pe kf54_3 rfl rfl) rfl ?_
                         refine WL.s0 (d_store_pe (es' := [kL17, kL3, [.d (D.i .u8 3), .d (D.s (ByteArray.mk #[67, 111, 108, 111, 114])), .d (D.i .i64 (-1)), .d (D.i .i64 1), .d (D.sl [[.s (ByteArray.mk #[82, 101, 100])], [.s (ByteArray.mk #[71, 114, 101, 101, 110])]]), .d (D.i .i64 (-1)), .d (D.i .i64 (-1)), .d (D.i .i64 (-1)), .d (D.s (ByteArray.mk #[])), .d (D.b false), .d (D.i .i64 0), .d (D.sl []), .d (D.i .i64 (-1)), .d (D.i .u8 0), .d (D.b false), .d (D.i .i64 (-1)), .d (D.i .i64 0), .d (D.i .i64 0)], kL0, kL1]) (r := .d (D.i .i64 0)) rfl rfl rfl (Le.refl _) rfl rfl rfl ks3 rfl (by decide) rfl rfl (by decide)) (Wt.none rfl) rfl ?_
                         refine WL.st (st' := [.row 28 [.os 5 0, .os 6 0, sN, sN, sN], .row 54 [.d (D.i .u8 3), .d (D.s (ByteArray.mk #[67, 111, 108, 111, 114])), .d (D.i .i64 (-1)), .d (D.i .i64 1), .d (D.sl [[.s (ByteArray.mk #[82, 101, 100])], [.s (ByteArray.mk #[71, 114, 101, 101, 110])]]), .d (D.i .i64 (-1)), .d (D.i .i64 (-1)), .d (D.i .i64 (-1)), .d (D.s (ByteArray.mk #[])), .d (D.b false), .d (D.i .i64 0), .d (D.sl []), .d (D.i .i64 (-1)), .d (D.i .u8 0), .d (D.b false), .d (D.i .i64 (-1)), .d (D.i .i64 0), .d (D.i .i64 0)], .row 54 kL0, .row 54 kL1, .os 56 6 0 [[.d (D.s (ByteArray.mk #[120])), .d (D.i .i64 0), .d (D.b false), .d (D.i .i64 0), .d (D.b false), .d (D.sl [])], [.d (D.s (ByteArray.mk #[121])), .d (D.i .i64 2), .d (D.b true), .d (D.i .i64 7), .d (D.b true), .d (D.sl [[.i .i64 1]])]], .os 54 18 0 [kL17, kL3, [.d (D.i .u8 3), .d (D.s (ByteArray.mk #[67, 111, 108, 111, 114])), .d (D.i .i64 (-1)), .d (D.i .i64 1), .d (D.sl [[.s (ByteArray.mk #[82, 101, 100])], [.s (ByteArray.mk #[71, 114, 101, 101, 110])]]), .d (D.i .i64 (-1)), .d (D.i .i64 (-1)), .d (D.i .i64 (-1)), .d (D.s (ByteArray.mk #[])), .d (D.b false), .d (D.i .i64 0), .d (D.sl []), .d (D.i .i64 (-1)), .d (D.i .u8 0), .d (D.b false), .d (D.i .i64 (-1)), .d (D.i .i64 0), .d (D.i .i64 0)], kL0, kL1], .os 40 3 0 [[.d (D.i .i64 1), .d (D.i .i64 (-2147483648)), .d (D.i .i64 2147483647)], [.d (D.i .i64 2), .d (D.i .i64 0), .d (D.i .i64 1)], [.d (D.i .i64 1), .d (D.i .i64 5), .d (D.i .i64 9)], [.d (D.i .i64 3), .d (D.i .i64 0), .d (D.i .i64 0)], [.d (D.i .i64 4), .d (D.i .i64 0), .d (D.i .i64 (-1))], [.d (D.i .i64 4), .d (D.i .i64 0), .d (D.i .i64 0)]], .row 28 [.os 5 0, .os 6 0, sN, sN, sN]]) rfl ?_
                         refine WL.nil ?_
                         refine we_blk ?_
                         exact we_lp ⟨[[.d (D.s (ByteArray.mk #[120])), .d (D.i .i64 0), .d (D.b false), .d (D.i .i64 0), .d (D.b false), .d (D.sl [])], [.d (D.s (ByteArray.mk #[121])), .d (D.i .i64 2), .d (D.b true), .d (D.i .i64 7), .d (D.b true), .d (D.sl [[.i .i64 1]])]], [kL17, kL3, [.d (D.i .u8 3), .d (D.s (ByteArray.mk #[67, 111, 108, 111, 114])), .d (D.i .i64 (-1)), .d (D.i .i64 1), .d (D.sl [[.s (ByteArray.mk #[82, 101, 100])], [.s (ByteArray.mk #[71, 114, 101, 101, 110])]]), .d (D.i .i64 (-1)), .d (D.i .i64 (-1)), .d (D.i .i64 (-1)), .d (D.s (ByteArray.mk #[])), .d (D.b false), .d (D.i .i64 0), .d (D.sl []), .d (D.i .i64 (-1)), .d (D.i .u8 0), .d (D.b false), .d (D.i .i64 (-1)), .d (D.i .i64 0), .d (D.i .i64 0)], kL0, kL1], [[.d (D.i .i64 1), .d (D.i .i64 (-2147483648)), .d (D.i .i64 2147483647)], [.d (D.i .i64 2), .d (D.i .i64 0), .d (D.i .i64 1)], [.d (D.i .i64 1), .d (D.i .i64 5), .d (D.i .i64 9)], [.d (D.i .i64 3), .d (D.i .i64 0), .d (D.i .i64 0)], [.d (D.i .i64 4), .d (D.i .i64 0), .d (D.i .i64 (-1))], [.d (D.i .i64 4), .d (D.i .i64 0), .d (D.i .i64 0)]], .os 5 0, .os 6 0, (Table.mk [(Ty.mk 1 (ByteArray.mk #[]) (-1) 0 [] (-1) (-1) (-1) (ByteArray.mk #[]) false 0 [] (-1) 0 false (-1) 0 0), kT20, kT18, kT22, kT19] [(Subt.mk 1 (-2147483648) 2147483647), (Subt.mk 2 0 1), (Subt.mk 1 5 9), (Subt.mk 3 0 0), (Subt.mk 4 0 (-1)), (Subt.mk 4 0 0)] (SlV.mk none 0 0) (SlV.mk none 0 0) (SlV.mk none 0 0)), by kernel_rfl, by kernel_rfl, (Sub.one rfl (Sub.one rfl (Sub.nil _))), rfl⟩
                        ·replace hc22 := of_decide_eq_false hc22
                         refine wc_seq ?_
                         refine wc_region ?_
                         refine WL.qn (y_eql rfl rfl) rfl ?_
                         refine WL.as rfl rfl ?_
                         refine WL.nil ?_
                         refine we_seq ?_
                         refine wc_cond rfl (fun hc23 => ?_) (fun hc23 => ?_)
                         ·replace hc23 := of_decide_eq_true hc23
                          refine wc_seq ?_
                          apply wc_region_all [.pt 7 0, .os 5 0, .ag kL4, .pe 5 0 72, .u] [[], [0], [], [0, 1, 2], [0, 1, 2, 3]] [4] (fun c => List.getD [[.row 28 [.os 5 0, .os 6 0, sN, sN, sN], .row 54 [.d (D.i .u8 3), .d (D.s (ByteArray.mk #[67, 111, 108, 111, 114])), .d (D.i .i64 (-1)), .d (D.i .i64 1), .d (D.sl [[.s (ByteArray.mk #[82, 101, 100])], [.s (ByteArray.mk #[71, 114, 101, 101, 110])]]), .d (D.i .i64 (-1)), .d (D.i .i64 (-1)), .d (D.i .i64 (-1)), .d (D.s (ByteArray.mk #[])), .d (D.b false), .d (D.i .i64 0), .d (D.sl []), .d (D.i .i64 (-1)), .d (D.i .u8 0), .d (D.b false), .d (D.i .i64 (-1)), .d (D.i .i64 0), .d (D.i .i64 0)], .row 54 kL0, .row 54 kL1, .os 56 6 0 [[.d (D.s (ByteArray.mk #[120])), .d (D.i .i64 0), .d (D.b false), .d (D.i .i64 0), .d (D.b false), .d (D.sl [])], [.d (D.s (ByteArray.mk #[121])), .d (D.i .i64 2), .d (D.b true), .d (D.i .i64 7), .d (D.b true), .d (D.sl [[.i .i64 1]])]], .os 54 18 0 [kL2, kL3, [.d (D.i .u8 3), .d (D.s (ByteArray.mk #[67, 111, 108, 111, 114])), .d (D.i .i64 (-1)), .d (D.i .i64 1), .d (D.sl [[.s (ByteArray.mk #[82, 101, 100])], [.s (ByteArray.mk #[71, 114, 101, 101, 110])]]), .d (D.i .i64 (-1)), .d (D.i .i64 (-1)), .d (D.i .i64 (-1)), .d (D.s (ByteArray.mk #[])), .d (D.b false), .d (D.i .i64 0), .d (D.sl []), .d (D.i .i64 (-1)), .d (D.i .u8 0), .d (D.b false), .d (D.i .i64 (-1)), .d (D.i .i64 0), .d (D.i .i64 0)], kL0, kL1], .os 40 3 0 [[.d (D.i .i64 1), .d (D.i .i64 (-2147483648)), .d (D.i .i64 2147483647)], [.d (D.i .i64 2), .d (D.i .i64 0), .d (D.i .i64 1)], [.d (D.i .i64 1), .d (D.i .i64 5), .d (D.i .i64 9)], [.d (D.i .i64 3), .d (D.i .i64 0), .d (D.i .i64 0)], [.d (D.i .i64 4), .d (D.i .i64 0), .d (D.i .i64 (-1))], [.d (D.i .i64 4), .d (D.i .i64 0), .d (D.i .i64 0)]], .row 28 [.os 5 0, .os 6 0, sN, sN, sN]], [.row 28 [.os 5 0, .os 6 0, sN, sN, sN], .row 54 [.d (D.i .u8 3), .d (D.s (ByteArray.mk #[67, 111, 108, 111, 114])), .d (D.i .i64 (-1)), .d (D.i .i64 1), .d (D.sl [[.s (ByteArray.mk #[82, 101, 100])], [.s (ByteArray.mk #[71, 114, 101, 101, 110])]]), .d (D.i .i64 (-1)), .d (D.i .i64 (-1)), .d (D.i .i64 (-1)), .d (D.s (ByteArray.mk #[])), .d (D.b false), .d (D.i .i64 0), .d (D.sl []), .d (D.i .i64 (-1)), .d (D.i .u8 0), .d (D.b false), .d (D.i .i64 (-1)), .d (D.i .i64 0), .d (D.i .i64 0)], .row 54 kL0, .row 54 kL1, .os 56 6 0 [[.d (D.s (ByteArray.mk #[120])), .d (D.i .i64 0), .d (D.b false), .d (D.i .i64 0), .d (D.b false), .d (D.sl [])], [.d (D.s (ByteArray.mk #[121])), .d (D.i .i64 2), .d (D.b true), .d (D.i .i64 7), .d (D.b true), .d (D.sl [[.i .i64 1]])]], .os 54 18 0 [kL2, kL3, [.d (D.i .u8 3), .d (D.s (ByteArray.mk #[67, 111, 108, 111, 114])), .d (D.i .i64 (-1)), .d (D.i .i64 1), .d (D.sl [[.s (ByteArray.mk #[82, 101, 100])], [.s (ByteArray.mk #[71, 114, 101, 101, 110])]]), .d (D.i .i64 (-1)), .d (D.i .i64 (-1)), .d (D.i .i64 (-1)), .d (D.s (ByteArray.mk #[])), .d (D.b false), .d (D.i .i64 0), .d (D.sl []), .d (D.i .i64 (-1)), .d (D.i .u8 0), .d (D.b false), .d (D.i .i64 (-1)), .d (D.i .i64 0), .d (D.i .i64 0)], kL0, kL4], .os 40 3 0 [[.d (D.i .i64 1), .d (D.i .i64 (-2147483648)), .d (D.i .i64 2147483647)], [.d (D.i .i64 2), .d (D.i .i64 0), .d (D.i .i64 1)], [.d (D.i .i64 1), .d (D.i .i64 5), .d (D.i .i64 9)], [.d (D.i .i64 3), .d (D.i .i64 0), .d (D.i .i64 0)], [.d (D.i .i64 4), .d (D.i .i64 0), .d (D.i .i64 (-1))], [.d (D.i .i64 4), .d (D.i .i64 0), .d (D.i .i64 0)]], .row 28 [.os 5 0, .os 6 0, sN, sN, sN]]] c []) [([], [2], [0]), ([0], [], [0]), ([], [], [0]), ([1], [], [0]), ([3, 2], [], [0])] (by kernel_rfl) (by kernel_rfl) rfl rfl rfl
                          ·refine ⟨?_, ?_, ?_, ?_, ?_, trivial⟩
                           ·refine ⟨fun F => ?_, trivial⟩
                            ·refine WL.qn (y_fieldAddr kf28_0 rfl) rfl ?_
                             exact WL.done1 rfl rfl rfl
                           ·refine ⟨fun F => ?_, trivial⟩
                            ·refine WL.qn (y_load rfl rfl ka22 rfl) rfl ?_
                             exact WL.done1 rfl rfl rfl
                           ·refine ⟨fun F => ?_, trivial⟩
                            ·refine WL.fn rfl rfl rfl rfl (f39_c 5 (ByteArray.mk #[82, 101, 99]) 4) ⟨(Le.refl _), ⟨(Le.refl _), ⟨(Le.refl _), trivial⟩⟩⟩ (Wt.none rfl) rfl rfl ?_
                             refine WL.cast 182 rfl (Le.trans (Le.dag _) (Le.of (y := .ag kL4) rfl)) ?_
                             exact WL.done2 rfl rfl rfl
                           ·refine ⟨fun F => ?_, trivial⟩
                            ·refine WL.qn (y_indexAddr_os ke22 rfl rfl rfl (by decide) (by decide)) rfl ?_
                             exact WL.done1 rfl rfl rfl
                           ·refine ⟨fun F => ?_, trivial⟩
                            ·refine WL.s0 (d_store_pe (es' := [kL2, kL3, [.d (D.i .u8 3), .d (D.s (ByteArray.mk #[67, 111, 108, 111, 114])), .d (D.i .i64 (-1)), .d (D.i .i64 1), .d (D.sl [[.s (ByteArray.mk #[82, 101, 100])], [.s (ByteArray.mk #[71, 114, 101, 101, 110])]]), .d (D.i .i64 (-1)), .d (D.i .i64 (-1)), .d (D.i .i64 (-1)), .d (D.s (ByteArray.mk #[])), .d (D.b false), .d (D.i .i64 0), .d (D.sl []), .d (D.i .i64 (-1)), .d (D.i .u8 0), .d (D.b false), .d (D.i .i64 (-1)), .d (D.i .i64 0), .d (D.i .i64 0)], kL0, kL4]) (r := .ag kL4) rfl rfl rfl (Le.refl _) rfl rfl rfl ks54 rfl (by decide) rfl rfl (by decide)) (Wt.none rfl) rfl ?_
                             exact WL.done0 rfl rfl
                          refine WE.st0 (st' := [.row 28 [.os 5 0, .os 6 0, sN, sN, sN], .row 54 [.d (D.i .u8 3), .d (D.s (ByteArray.mk #[67, 111, 108, 111, 114])), .d (D.i .i64 (-1)), .d (D.i .i64 1), .d (D.sl [[.s (ByteArray.mk #[82, 101, 100])], [.s (ByteArray.mk #[71, 114, 101, 101, 110])]]), .d (D.i .i64 (-1)), .d (D.i .i64 (-1)), .d (D.i .i64 (-1)), .d (D.s (ByteArray.mk #[])), .d (D.b false), .d (D.i .i64 0), .d (D.sl []), .d (D.i .i64 (-1)), .d (D.i .u8 0), .d (D.b false), .d (D.i .i64 (-1)), .d (D.i .i64 0), .d (D.i .i64 0)], .row 54 kL0, .row 54 kL1, .os 56 6 0 [[.d (D.s (ByteArray.mk #[120])), .d (D.i .i64 0), .d (D.b false), .d (D.i .i64 0), .d (D.b false), .d (D.sl [])], [.d (D.s (ByteArray.mk #[121])), .d (D.i .i64 2), .d (D.b true), .d (D.i .i64 7), .d (D.b true), .d (D.sl [[.i .i64 1]])]], .os 54 18 0 [kL2, kL3, [.d (D.i .u8 3), .d (D.s (ByteArray.mk #[67, 111, 108, 111, 114])), .d (D.i .i64 (-1)), .d (D.i .i64 1), .d (D.sl [[.s (ByteArray.mk #[82, 101, 100])], [.s (ByteArray.mk #[71, 114, 101, 101, 110])]]), .d (D.i .i64 (-1)), .d (D.i .i64 (-1)), .d (D.i .i64 (-1)), .d (D.s (ByteArray.mk #[])), .d (D.b false), .d (D.i .i64 0), .d (D.sl []), .d (D.i .i64 (-1)), .d (D.i .u8 0), .d (D.b false), .d (D.i .i64 (-1)), .d (D.i .i64 0), .d (D.i .i64 0)], kL0, kL4], .os 40 3 0 [[.d (D.i .i64 1), .d (D.i .i64 (-2147483648)), .d (D.i .i64 2147483647)], [.d (D.i .i64 2), .d (D.i .i64 0), .d (D.i .i64 1)], [.d (D.i .i64 1), .d (D.i .i64 5), .d (D.i .i64 9)], [.d (D.i .i64 3), .d (D.i .i64 0), .d (D.i .i64 0)], [.d (D.i .i64 4), .d (D.i .i64 0), .d (D.i .i64 (-1))], [.d (D.i .i64 4), .d (D.i .i64 0), .d (D.i .i64 0)]], .row 28 [.os 5 0, .os 6 0, sN, sN, sN]]) rfl ?_
                          refine WE.sub (env' := [(1, .d (D.i .i64 (i : Int))), (2, .pt 7 0)]) (Sub.one rfl (Sub.one rfl (Sub.nil _))) ?_
                          refine we_seq ?_
                          refine wc_seq ?_
                          refine wc_region ?_
                          refine WL.qn (y_fieldAddr kf28_1 rfl) rfl ?_
                          refine WL.qn (y_load rfl rfl ka23 rfl) rfl ?_
                          refine WL.qn (y_slice_ow (l := 0) (h := 5) ke23 rfl (Piece.os (len := 6) rfl rfl) rfl rfl ⟨_, rfl⟩ (by decide) (by decide) (by decide) (by decide)) rfl ?_
                          refine WL.qn (y_fieldAddr kf28_1 rfl) rfl ?_
                          refine WL.s0 (d_store1 rfl rfl rfl (one_ow rfl) ks23 rfl) (Wt.none rfl) rfl ?_
                          refine WL.st (st' := [.row 28 [.os 5 0, .os 6 0, sN, sN, sN], .row 54 [.d (D.i .u8 3), .d (D.s (ByteArray.mk #[67, 111, 108, 111, 114])), .d (D.i .i64 (-1)), .d (D.i .i64 1), .d (D.sl [[.s (ByteArray.mk #[82, 101, 100])], [.s (ByteArray.mk #[71, 114, 101, 101, 110])]]), .d (D.i .i64 (-1)), .d (D.i .i64 (-1)), .d (D.i .i64 (-1)), .d (D.s (ByteArray.mk #[])), .d (D.b false), .d (D.i .i64 0), .d (D.sl []), .d (D.i .i64 (-1)), .d (D.i .u8 0), .d (D.b false), .d (D.i .i64 (-1)), .d (D.i .i64 0), .d (D.i .i64 0)], .row 54 kL0, .row 54 kL1, .os 56 6 0 [[.d (D.s (ByteArray.mk #[120])), .d (D.i .i64 0), .d (D.b false), .d (D.i .i64 0), .d (D.b false), .d (D.sl [])], [.d (D.s (ByteArray.mk #[121])), .d (D.i .i64 2), .d (D.b true), .d (D.i .i64 7), .d (D.b true), .d (D.sl [[.i .i64 1]])]], .os 54 18 0 [kL2, kL3, [.d (D.i .u8 3), .d (D.s (ByteArray.mk #[67, 111, 108, 111, 114])), .d (D.i .i64 (-1)), .d (D.i .i64 1), .d (D.sl [[.s (ByteArray.mk #[82, 101, 100])], [.s (ByteArray.mk #[71, 114, 101, 101, 110])]]), .d (D.i .i64 (-1)), .d (D.i .i64 (-1)), .d (D.i .i64 (-1)), .d (D.s (ByteArray.mk #[])), .d (D.b false), .d (D.i .i64 0), .d (D.sl []), .d (D.i .i64 (-1)), .d (D.i .u8 0), .d (D.b false), .d (D.i .i64 (-1)), .d (D.i .i64 0), .d (D.i .i64 0)], kL0, kL4], .os 40 3 0 [[.d (D.i .i64 1), .d (D.i .i64 (-2147483648)), .d (D.i .i64 2147483647)], [.d (D.i .i64 2), .d (D.i .i64 0), .d (D.i .i64 1)], [.d (D.i .i64 1), .d (D.i .i64 5), .d (D.i .i64 9)], [.d (D.i .i64 3), .d (D.i .i64 0), .d (D.i .i64 0)], [.d (D.i .i64 4), .d (D.i .i64 0), .d (D.i .i64 (-1))], [.d (D.i .i64 4), .d (D.i .i64 0), .d (D.i .i64 0)]], .row 28 [.os 5 0, .ow 6 0 0 5 0, sN, sN, sN]]) rfl ?_
                          refine WL.nil ?_
                          refine we_seq ?_
                          refine wc_region ?_
                          refine WL.qn (y_fieldAddr kf28_1 rfl) rfl ?_
                          refine WL.qn (y_load rfl rfl ka23 rfl) rfl ?_
                          refine WL.qn (y_indexAddr_ow ke23 rfl rfl rfl (by decide) (by decide)) rfl ?_
                          refine WL.qn (y_fieldAddr_pe kf40_2 rfl rfl) rfl ?_
                          refine WL.s0 (d_store_pe (es' := [[.d (D.i .i64 1), .d (D.i .i64 (-2147483648)), .d (D.i .i64 2147483647)], [.d (D.i .i64 2), .d (D.i .i64 0), .d (D.i .i64 1)], [.d (D.i .i64 1), .d (D.i .i64 5), .d (D.i .i64 9)], [.d (D.i .i64 3), .d (D.i .i64 0), .d (D.i .i64 0)], [.d (D.i .i64 4), .d (D.i .i64 0), .d (D.i .i64 0)], [.d (D.i .i64 4), .d (D.i .i64 0), .d (D.i .i64 0)]]) (r := .d (D.i .i64 0)) rfl rfl rfl (Le.refl _) rfl rfl rfl ks2 rfl (by decide) rfl rfl (by decide)) (Wt.none rfl) rfl ?_
                          refine WL.st (st' := [.row 28 [.os 5 0, .os 6 0, sN, sN, sN], .row 54 [.d (D.i .u8 3), .d (D.s (ByteArray.mk #[67, 111, 108, 111, 114])), .d (D.i .i64 (-1)), .d (D.i .i64 1), .d (D.sl [[.s (ByteArray.mk #[82, 101, 100])], [.s (ByteArray.mk #[71, 114, 101, 101, 110])]]), .d (D.i .i64 (-1)), .d (D.i .i64 (-1)), .d (D.i .i64 (-1)), .d (D.s (ByteArray.mk #[])), .d (D.b false), .d (D.i .i64 0), .d (D.sl []), .d (D.i .i64 (-1)), .d (D.i .u8 0), .d (D.b false), .d (D.i .i64 (-1)), .d (D.i .i64 0), .d (D.i .i64 0)], .row 54 kL0, .row 54 kL1, .os 56 6 0 [[.d (D.s (ByteArray.mk #[120])), .d (D.i .i64 0), .d (D.b false), .d (D.i .i64 0), .d (D.b false), .d (D.sl [])], [.d (D.s (ByteArray.mk #[121])), .d (D.i .i64 2), .d (D.b true), .d (D.i .i64 7), .d (D.b true), .d (D.sl [[.i .i64 1]])]], .os 54 18 0 [kL2, kL3, [.d (D.i .u8 3), .d (D.s (ByteArray.mk #[67, 111, 108, 111, 114])), .d (D.i .i64 (-1)), .d (D.i .i64 1), .d (D.sl [[.s (ByteArray.mk #[82, 101, 100])], [.s (ByteArray.mk #[71, 114, 101, 101, 110])]]), .d (D.i .i64 (-1)), .d (D.i .i64 (-1)), .d (D.i .i64 (-1)), .d (D.s (ByteArray.mk #[])), .d (D.b false), .d (D.i .i64 0), .d (D.sl []), .d (D.i .i64 (-1)), .d (D.i .u8 0), .d (D.b false), .d (D.i .i64 (-1)), .d (D.i .i64 0), .d (D.i .i64 0)], kL0, kL4], .os 40 3 0 [[.d (D.i .i64 1), .d (D.i .i64 (-2147483648)), .d (D.i .i64 2147483647)], [.d (D.i .i64 2), .d (D.i .i64 0), .d (D.i .i64 1)], [.d (D.i .i64 1), .d (D.i .i64 5), .d (D.i .i64 9)], [.d (D.i .i64 3), .d (D.i .i64 0), .d (D.i .i64 0)], [.d (D.i .i64 4), .d (D.i .i64 0), .d (D.i .i64 0)], [.d (D.i .i64 4), .d (D.i .i64 0), .d (D.i .i64 0)]], .row 28 [.os 5 0, .ow 6 0 0 5 0, sN, sN, sN]]) rfl ?_
                          refine WL.nil ?_
                          refine we_blk ?_
                          exact we_lp ⟨[[.d (D.s (ByteArray.mk #[120])), .d (D.i .i64 0), .d (D.b false), .d (D.i .i64 0), .d (D.b false), .d (D.sl [])], [.d (D.s (ByteArray.mk #[121])), .d (D.i .i64 2), .d (D.b true), .d (D.i .i64 7), .d (D.b true), .d (D.sl [[.i .i64 1]])]], [kL2, kL3, [.d (D.i .u8 3), .d (D.s (ByteArray.mk #[67, 111, 108, 111, 114])), .d (D.i .i64 (-1)), .d (D.i .i64 1), .d (D.sl [[.s (ByteArray.mk #[82, 101, 100])], [.s (ByteArray.mk #[71, 114, 101, 101, 110])]]), .d (D.i .i64 (-1)), .d (D.i .i64 (-1)), .d (D.i .i64 (-1)), .d (D.s (ByteArray.mk #[])), .d (D.b false), .d (D.i .i64 0), .d (D.sl []), .d (D.i .i64 (-1)), .d (D.i .u8 0), .d (D.b false), .d (D.i .i64 (-1)), .d (D.i .i64 0), .d (D.i .i64 0)], kL0, kL4], [[.d (D.i .i64 1), .d (D.i .i64 (-2147483648)), .d (D.i .i64 2147483647)], [.d (D.i .i64 2), .d (D.i .i64 0), .d (D.i .i64 1)], [.d (D.i .i64 1), .d (D.i .i64 5), .d (D.i .i64 9)], [.d (D.i .i64 3), .d (D.i .i64 0), .d (D.i .i64 0)], [.d (D.i .i64 4), .d (D.i .i64 0), .d (D.i .i64 0)], [.d (D.i .i64 4), .d (D.i .i64 0), .d (D.i .i64 0)]], .os 5 0, .ow 6 0 0 5 0, (Table.mk [kT21, kT20, kT18, kT22, (Ty.mk 5 (ByteArray.mk #[82, 101, 99]) (-1) 4 [] (-1) (-1) (-1) (ByteArray.mk #[]) false 0 [] (-1) 0 false (-1) 0 0)] [(Subt.mk 1 (-2147483648) 2147483647), (Subt.mk 2 0 1), (Subt.mk 1 5 9), (Subt.mk 3 0 0), (Subt.mk 4 0 0)] (SlV.mk none 0 0) (SlV.mk none 0 0) (SlV.mk none 0 0)), by kernel_rfl, by kernel_rfl, (Sub.one rfl (Sub.one rfl (Sub.nil _))), rfl⟩
                         ·replace hc23 := of_decide_eq_false hc23
                          exfalso
                          omega
  ·rintro env2 st2 ⟨oC, oT, oS, aT, aS, t, hf, hv, hsub2, rfl⟩
   refine WC.sub hsub2 ?_
   refine wc_seq ?_
   refine wc_region ?_
   refine WL.qn (y_loadN rfl rfl ka28 ks28 rfl) rfl ?_
   refine WL.bor 6 rfl rfl rfl rfl hv (f36_c t hf) rfl (Wt.none rfl) rfl rfl ?_
   refine WL.nil ?_
   refine we_seq ?_
   refine wc_cond (t := false) rfl (fun h => by cases h) (fun _ => ?_)
   refine wc_skip ?_
   refine we_blk ?_
   refine we_seq ?_
   refine wc_region ?_
   refine WL.mv rfl rfl ?_
   refine WL.qn (y_add rfl rfl rfl) rfl ?_
   refine WL.as rfl rfl ?_
   refine WL.nil ?_
   refine WE.drop 0 (env' := [(1, .d (D.i .i64 ((i + 1 : Nat) : Int)))]) (Sub.cons rfl (Le.ofd (by rw [kwrap hc0])) (Sub.nil _)) rfl rfl (Nat.le_refl _) ?_
   exact we_lp ⟨i + 1, ⟨by omega, (Sub.one rfl (Sub.nil _)), trivial⟩, by show 23 - (i + 1) < 23 - i; omega⟩
 ·replace hc0 := of_decide_eq_false hc0
  refine wc_exit ?_
  refine we_seq_exit ?_
  refine we_lp_exit ?_
  refine we_blk_hit ?_
  refine we_seq ?_
  refine wc_seq ?_
  refine wc_region ?_
  refine WL.call rfl rfl rfl rfl some_own trivial (Wt.none rfl) rfl rfl ?_
  rintro r st' ⟨rfl, rfl⟩
  refine WL.s ((b_alloc kz28).does) (Wt.none rfl) rfl rfl ?_
  refine WL.s0 (d_storeS rfl rfl rfl rfl rfl rfl ks28 rfl rfl) (Wt.none rfl) rfl ?_
  refine WL.st (st' := [.row 28 [.os 5 0, .os 6 0, sN, sN, sN], .row 54 [.d (D.i .u8 3), .d (D.s (ByteArray.mk #[67, 111, 108, 111, 114])), .d (D.i .i64 (-1)), .d (D.i .i64 1), .d (D.sl [[.s (ByteArray.mk #[82, 101, 100])], [.s (ByteArray.mk #[71, 114, 101, 101, 110])]]), .d (D.i .i64 (-1)), .d (D.i .i64 (-1)), .d (D.i .i64 (-1)), .d (D.s (ByteArray.mk #[])), .d (D.b false), .d (D.i .i64 0), .d (D.sl []), .d (D.i .i64 (-1)), .d (D.i .u8 0), .d (D.b false), .d (D.i .i64 (-1)), .d (D.i .i64 0), .d (D.i .i64 0)], .row 54 kL0, .row 54 kL1, .os 56 6 0 [[.d (D.s (ByteArray.mk #[120])), .d (D.i .i64 0), .d (D.b false), .d (D.i .i64 0), .d (D.b false), .d (D.sl [])], [.d (D.s (ByteArray.mk #[121])), .d (D.i .i64 2), .d (D.b true), .d (D.i .i64 7), .d (D.b true), .d (D.sl [[.i .i64 1]])]], .os 54 18 0 [kL2, kL3, [.d (D.i .u8 3), .d (D.s (ByteArray.mk #[67, 111, 108, 111, 114])), .d (D.i .i64 (-1)), .d (D.i .i64 1), .d (D.sl [[.s (ByteArray.mk #[82, 101, 100])], [.s (ByteArray.mk #[71, 114, 101, 101, 110])]]), .d (D.i .i64 (-1)), .d (D.i .i64 (-1)), .d (D.i .i64 (-1)), .d (D.s (ByteArray.mk #[])), .d (D.b false), .d (D.i .i64 0), .d (D.sl []), .d (D.i .i64 (-1)), .d (D.i .u8 0), .d (D.b false), .d (D.i .i64 (-1)), .d (D.i .i64 0), .d (D.i .i64 0)], kL0, kL1], .os 40 3 0 [[.d (D.i .i64 1), .d (D.i .i64 (-2147483648)), .d (D.i .i64 2147483647)], [.d (D.i .i64 2), .d (D.i .i64 0), .d (D.i .i64 1)], [.d (D.i .i64 1), .d (D.i .i64 5), .d (D.i .i64 9)], [.d (D.i .i64 3), .d (D.i .i64 0), .d (D.i .i64 0)], [.d (D.i .i64 4), .d (D.i .i64 0), .d (D.i .i64 (-1))], [.d (D.i .i64 4), .d (D.i .i64 0), .d (D.i .i64 0)]], .row 28 [.os 5 0, .os 6 0, sN, sN, sN]]) rfl ?_
  refine WL.nil ?_
  refine we_seq ?_
  refine wc_seq ?_
  refine wc_region ?_
  refine WL.qn (y_loadN rfl rfl ka28 ks28 rfl) rfl ?_
  refine WL.bor 6 rfl rfl rfl rfl (by kernel_rfl) (f27_c (Table.mk [kT21, kT20, kT18, kT22, kT19] [(Subt.mk 1 (-2147483648) 2147483647), (Subt.mk 2 0 1), (Subt.mk 1 5 9), (Subt.mk 3 0 0), (Subt.mk 4 0 (-1)), (Subt.mk 4 0 0)] (SlV.mk none 0 0) (SlV.mk none 0 0) (SlV.mk none 0 0)) 0 1 (r := (0, false)) (by kernel_rfl)) rfl (Wt.none rfl) rfl rfl ?_
  refine WL.mv rfl rfl ?_
  refine WL.qn (y_extractd rfl rfl) rfl ?_
  refine WL.qn (y_extractd rfl rfl) rfl ?_
  refine WL.as rfl rfl ?_
  refine WL.as rfl rfl ?_
  refine WL.nil ?_
  refine we_seq ?_
  refine wc_seq ?_
  refine wc_region ?_
  refine WL.qn (y_loadN rfl rfl ka28 ks28 rfl) rfl ?_
  refine WL.bor 6 rfl rfl rfl rfl (by kernel_rfl) (f13_c (Table.mk [kT21, kT20, kT18, kT22, kT19] [(Subt.mk 1 (-2147483648) 2147483647), (Subt.mk 2 0 1), (Subt.mk 1 5 9), (Subt.mk 3 0 0), (Subt.mk 4 0 (-1)), (Subt.mk 4 0 0)] (SlV.mk none 0 0) (SlV.mk none 0 0) (SlV.mk none 0 0)) 3 (ByteArray.mk #[120]) (r := (0, false)) (by kernel_rfl)) rfl (Wt.none rfl) rfl rfl ?_
  refine WL.mv rfl rfl ?_
  refine WL.qn (y_extractd rfl rfl) rfl ?_
  refine WL.qn (y_extractd rfl rfl) rfl ?_
  refine WL.as rfl rfl ?_
  refine WL.as rfl rfl ?_
  refine WL.nil ?_
  refine we_seq ?_
  refine wc_seq ?_
  refine wc_region ?_
  refine WL.qn (y_loadN rfl rfl ka28 ks28 rfl) rfl ?_
  refine WL.bor 6 rfl rfl rfl rfl (by kernel_rfl) (f25_c (Table.mk [kT21, kT20, kT18, kT22, kT19] [(Subt.mk 1 (-2147483648) 2147483647), (Subt.mk 2 0 1), (Subt.mk 1 5 9), (Subt.mk 3 0 0), (Subt.mk 4 0 (-1)), (Subt.mk 4 0 0)] (SlV.mk none 0 0) (SlV.mk none 0 0) (SlV.mk none 0 0)) 3 (r := (0, 0, false)) (by kernel_rfl)) rfl (Wt.none rfl) rfl rfl ?_
  refine WL.mv rfl rfl ?_
  refine WL.qn (y_extractd rfl rfl) rfl ?_
  refine WL.qn (y_extractd rfl rfl) rfl ?_
  refine WL.qn (y_extractd rfl rfl) rfl ?_
  refine WL.as rfl rfl ?_
  refine WL.as rfl rfl ?_
  refine WL.as rfl rfl ?_
  refine WL.nil ?_
  refine we_seq ?_
  refine wc_seq ?_
  refine wc_region ?_
  refine WL.mv rfl rfl ?_
  refine WL.qn (y_not rfl) rfl ?_
  refine WL.mv rfl rfl ?_
  refine WL.qy (y_move rfl) rfl rfl rfl ?_
  refine WL.qy (y_not rfl) rfl rfl rfl ?_
  refine WL.qn (y_pick_t rfl rfl) rfl ?_
  refine WL.mv rfl rfl ?_
  refine WL.qy (y_move rfl) rfl rfl rfl ?_
  refine WL.qy (y_not rfl) rfl rfl rfl ?_
  refine WL.qn (y_pick_t rfl rfl) rfl ?_
  refine WL.mv rfl rfl ?_
  refine WL.qy (y_loadN rfl rfl ka28 ks28 rfl) rfl rfl rfl ?_
  refine WL.bor 6 rfl rfl rfl rfl (by kernel_rfl) (f29_c (Table.mk [kT21, kT20, kT18, kT22, kT19] [(Subt.mk 1 (-2147483648) 2147483647), (Subt.mk 2 0 1), (Subt.mk 1 5 9), (Subt.mk 3 0 0), (Subt.mk 4 0 (-1)), (Subt.mk 4 0 0)] (SlV.mk none 0 0) (SlV.mk none 0 0) (SlV.mk none 0 0)) (-1) (r := 0) (by kernel_rfl)) rfl (Wt.yes rfl rfl rfl) rfl rfl ?_
  refine WL.qy (y_eql rfl rfl) rfl rfl rfl ?_
  refine WL.qn (y_pick_t rfl rfl) rfl ?_
  refine WL.mv rfl rfl ?_
  refine WL.qy (y_loadN rfl rfl ka28 ks28 rfl) rfl rfl rfl ?_
  refine WL.bor0 6 rfl rfl rfl rfl (by kernel_rfl) (f34_c (Table.mk [kT21, kT20, kT18, kT22, kT19] [(Subt.mk 1 (-2147483648) 2147483647), (Subt.mk 2 0 1), (Subt.mk 1 5 9), (Subt.mk 3 0 0), (Subt.mk 4 0 (-1)), (Subt.mk 4 0 0)] (SlV.mk none 0 0) (SlV.mk none 0 0) (SlV.mk none 0 0)) 99 (r := []) (by kernel_rfl)) (Wt.yes rfl rfl rfl) rfl rfl ?_
  refine WL.qy (y_len_sl ke41 rfl rfl (Le.refl _)) rfl rfl rfl ?_
  refine WL.qy (y_eql rfl rfl) rfl rfl rfl ?_
  refine WL.qn (y_pick_t rfl rfl) rfl ?_
  refine WL.mv rfl rfl ?_
  refine WL.qy (y_loadN rfl rfl ka28 ks28 rfl) rfl rfl rfl ?_
  refine WL.bor 6 rfl rfl rfl rfl (by kernel_rfl) (f22_c (Table.mk [kT21, kT20, kT18, kT22, kT19] [(Subt.mk 1 (-2147483648) 2147483647), (Subt.mk 2 0 1), (Subt.mk 1 5 9), (Subt.mk 3 0 0), (Subt.mk 4 0 (-1)), (Subt.mk 4 0 0)] (SlV.mk none 0 0) (SlV.mk none 0 0) (SlV.mk none 0 0)) 5 (r := (-1)) (by kernel_rfl)) rfl (Wt.yes rfl rfl rfl) rfl rfl ?_
  refine WL.qy (y_eql rfl rfl) rfl rfl rfl ?_
  refine WL.qn (y_pick_t rfl rfl) rfl ?_
  refine WL.mv rfl rfl ?_
  refine WL.qy (y_loadN rfl rfl ka28 ks28 rfl) rfl rfl rfl ?_
  refine WL.bor 6 rfl rfl rfl rfl (by kernel_rfl) (f22_c (Table.mk [kT21, kT20, kT18, kT22, kT19] [(Subt.mk 1 (-2147483648) 2147483647), (Subt.mk 2 0 1), (Subt.mk 1 5 9), (Subt.mk 3 0 0), (Subt.mk 4 0 (-1)), (Subt.mk 4 0 0)] (SlV.mk none 0 0) (SlV.mk none 0 0) (SlV.mk none 0 0)) 4 (r := 4) (by kernel_rfl)) rfl (Wt.yes rfl rfl rfl) rfl rfl ?_
  refine WL.qy (y_eql rfl rfl) rfl rfl rfl ?_
  refine WL.qn (y_pick_t rfl rfl) rfl ?_
  refine WL.mv rfl rfl ?_
  refine WL.qy (y_loadN rfl rfl ka28 ks28 rfl) rfl rfl rfl ?_
  refine WL.bor 6 rfl rfl rfl rfl (by kernel_rfl) (f20_c (Table.mk [kT21, kT20, kT18, kT22, kT19] [(Subt.mk 1 (-2147483648) 2147483647), (Subt.mk 2 0 1), (Subt.mk 1 5 9), (Subt.mk 3 0 0), (Subt.mk 4 0 (-1)), (Subt.mk 4 0 0)] (SlV.mk none 0 0) (SlV.mk none 0 0) (SlV.mk none 0 0)) 6 6 (r := false) (by kernel_rfl)) rfl (Wt.yes rfl rfl rfl) rfl rfl ?_
  refine WL.qy (y_not rfl) rfl rfl rfl ?_
  refine WL.qn (y_pick_t rfl rfl) rfl ?_
  refine WL.mv rfl rfl ?_
  refine WL.qy (y_loadN rfl rfl ka28 ks28 rfl) rfl rfl rfl ?_
  refine WL.bor 6 rfl rfl rfl rfl (by kernel_rfl) (f18_c (Table.mk [kT21, kT20, kT18, kT22, kT19] [(Subt.mk 1 (-2147483648) 2147483647), (Subt.mk 2 0 1), (Subt.mk 1 5 9), (Subt.mk 3 0 0), (Subt.mk 4 0 (-1)), (Subt.mk 4 0 0)] (SlV.mk none 0 0) (SlV.mk none 0 0) (SlV.mk none 0 0)) 5 5 (r := false) (by kernel_rfl)) rfl (Wt.yes rfl rfl rfl) rfl rfl ?_
  refine WL.qy (y_not rfl) rfl rfl rfl ?_
  refine WL.qn (y_pick_t rfl rfl) rfl ?_
  refine WL.mv rfl rfl ?_
  refine WL.qy (y_loadN rfl rfl ka28 ks28 rfl) rfl rfl rfl ?_
  refine WL.borL 6 rfl rfl rfl rfl (as2 := [.ag [.os 5 0, .os 6 0, sN, sN, sN], .d (D.i .i64 2), .d (D.sl [])]) (by exact ⟨(Le.refl _), ⟨(Le.refl _), ⟨Le.nil, trivial⟩⟩⟩) (by kernel_rfl) (f31_c (Table.mk [kT21, kT20, kT18, kT22, kT19] [(Subt.mk 1 (-2147483648) 2147483647), (Subt.mk 2 0 1), (Subt.mk 1 5 9), (Subt.mk 3 0 0), (Subt.mk 4 0 (-1)), (Subt.mk 4 0 0)] (SlV.mk none 0 0) (SlV.mk none 0 0) (SlV.mk none 0 0)) 2 [] (r := false) (by kernel_rfl)) rfl (Wt.yes rfl rfl rfl) rfl rfl ?_
  refine WL.qy (y_not rfl) rfl rfl rfl ?_
  refine WL.qn (y_pick_t rfl rfl) rfl ?_
  refine WL.as rfl rfl ?_
  refine WL.nil ?_
  refine we_seq ?_
  refine wc_seq ?_
  refine wc_region ?_
  refine WL.qn (y_fieldAddr kf28_1 rfl) rfl ?_
  refine WL.qn (y_load rfl rfl ka23 rfl) rfl ?_
  refine WL.qn (y_build kp40 kz40 rfl rfl) rfl ?_
  refine WL.qn (y_indexAddr_os ke23 rfl rfl rfl (by decide) (by decide)) rfl ?_
  refine WL.s0 (d_store_pe (es' := [[.d (D.i .i64 1), .d (D.i .i64 (-2147483648)), .d (D.i .i64 2147483647)], [.d (D.i .i64 2), .d (D.i .i64 0), .d (D.i .i64 1)], [.d (D.i .i64 1), .d (D.i .i64 4), .d (D.i .i64 3)], [.d (D.i .i64 3), .d (D.i .i64 0), .d (D.i .i64 0)], [.d (D.i .i64 4), .d (D.i .i64 0), .d (D.i .i64 (-1))], [.d (D.i .i64 4), .d (D.i .i64 0), .d (D.i .i64 0)]]) (r := .ag [.d (D.i .i64 1), .d (D.i .i64 4), .d (D.i .i64 3)]) rfl rfl rfl (Le.refl _) rfl rfl rfl ks40 rfl (by decide) rfl rfl (by decide)) (Wt.none rfl) rfl ?_
  refine WL.st (st' := [.row 28 [.os 5 0, .os 6 0, sN, sN, sN], .row 54 [.d (D.i .u8 3), .d (D.s (ByteArray.mk #[67, 111, 108, 111, 114])), .d (D.i .i64 (-1)), .d (D.i .i64 1), .d (D.sl [[.s (ByteArray.mk #[82, 101, 100])], [.s (ByteArray.mk #[71, 114, 101, 101, 110])]]), .d (D.i .i64 (-1)), .d (D.i .i64 (-1)), .d (D.i .i64 (-1)), .d (D.s (ByteArray.mk #[])), .d (D.b false), .d (D.i .i64 0), .d (D.sl []), .d (D.i .i64 (-1)), .d (D.i .u8 0), .d (D.b false), .d (D.i .i64 (-1)), .d (D.i .i64 0), .d (D.i .i64 0)], .row 54 kL0, .row 54 kL1, .os 56 6 0 [[.d (D.s (ByteArray.mk #[120])), .d (D.i .i64 0), .d (D.b false), .d (D.i .i64 0), .d (D.b false), .d (D.sl [])], [.d (D.s (ByteArray.mk #[121])), .d (D.i .i64 2), .d (D.b true), .d (D.i .i64 7), .d (D.b true), .d (D.sl [[.i .i64 1]])]], .os 54 18 0 [kL2, kL3, [.d (D.i .u8 3), .d (D.s (ByteArray.mk #[67, 111, 108, 111, 114])), .d (D.i .i64 (-1)), .d (D.i .i64 1), .d (D.sl [[.s (ByteArray.mk #[82, 101, 100])], [.s (ByteArray.mk #[71, 114, 101, 101, 110])]]), .d (D.i .i64 (-1)), .d (D.i .i64 (-1)), .d (D.i .i64 (-1)), .d (D.s (ByteArray.mk #[])), .d (D.b false), .d (D.i .i64 0), .d (D.sl []), .d (D.i .i64 (-1)), .d (D.i .u8 0), .d (D.b false), .d (D.i .i64 (-1)), .d (D.i .i64 0), .d (D.i .i64 0)], kL0, kL1], .os 40 3 0 [[.d (D.i .i64 1), .d (D.i .i64 (-2147483648)), .d (D.i .i64 2147483647)], [.d (D.i .i64 2), .d (D.i .i64 0), .d (D.i .i64 1)], [.d (D.i .i64 1), .d (D.i .i64 4), .d (D.i .i64 3)], [.d (D.i .i64 3), .d (D.i .i64 0), .d (D.i .i64 0)], [.d (D.i .i64 4), .d (D.i .i64 0), .d (D.i .i64 (-1))], [.d (D.i .i64 4), .d (D.i .i64 0), .d (D.i .i64 0)]], .row 28 [.os 5 0, .os 6 0, sN, sN, sN]]) rfl ?_
  refine WL.nil ?_
  refine we_seq ?_
  refine wc_seq ?_
  refine wc_region ?_
  refine WL.mv rfl rfl ?_
  refine WL.mv rfl rfl ?_
  refine WL.qy (y_loadN rfl rfl ka28 ks28 rfl) rfl rfl rfl ?_
  refine WL.bor 6 rfl rfl rfl rfl (by kernel_rfl) (f29_c (Table.mk [kT21, kT20, kT18, kT22, kT19] [(Subt.mk 1 (-2147483648) 2147483647), (Subt.mk 2 0 1), (Subt.mk 1 4 3), (Subt.mk 3 0 0), (Subt.mk 4 0 (-1)), (Subt.mk 4 0 0)] (SlV.mk none 0 0) (SlV.mk none 0 0) (SlV.mk none 0 0)) 3 (r := 0) (by kernel_rfl)) rfl (Wt.yes rfl rfl rfl) rfl rfl ?_
  refine WL.qy (y_eql rfl rfl) rfl rfl rfl ?_
  refine WL.qn (y_pick_t rfl rfl) rfl ?_
  refine WL.mv rfl rfl ?_
  refine WL.qy (y_loadN rfl rfl ka28 ks28 rfl) rfl rfl rfl ?_
  refine WL.bor 6 rfl rfl rfl rfl (by kernel_rfl) (f29_c (Table.mk [kT21, kT20, kT18, kT22, kT19] [(Subt.mk 1 (-2147483648) 2147483647), (Subt.mk 2 0 1), (Subt.mk 1 4 3), (Subt.mk 3 0 0), (Subt.mk 4 0 (-1)), (Subt.mk 4 0 0)] (SlV.mk none 0 0) (SlV.mk none 0 0) (SlV.mk none 0 0)) 2 (r := 1) (by kernel_rfl)) rfl (Wt.yes rfl rfl rfl) rfl rfl ?_
  refine WL.qy (y_eql rfl rfl) rfl rfl rfl ?_
  refine WL.qn (y_pick_t rfl rfl) rfl ?_
  refine WL.mv rfl rfl ?_
  refine WL.qy (y_loadN rfl rfl ka28 ks28 rfl) rfl rfl rfl ?_
  refine WL.bor0 6 rfl rfl rfl rfl (by kernel_rfl) (f34_c (Table.mk [kT21, kT20, kT18, kT22, kT19] [(Subt.mk 1 (-2147483648) 2147483647), (Subt.mk 2 0 1), (Subt.mk 1 4 3), (Subt.mk 3 0 0), (Subt.mk 4 0 (-1)), (Subt.mk 4 0 0)] (SlV.mk none 0 0) (SlV.mk none 0 0) (SlV.mk none 0 0)) 2 (r := []) (by kernel_rfl)) (Wt.yes rfl rfl rfl) rfl rfl ?_
  refine WL.qy (y_len_sl ke41 rfl rfl (Le.refl _)) rfl rfl rfl ?_
  refine WL.qy (y_eql rfl rfl) rfl rfl rfl ?_
  refine WL.qn (y_pick_t rfl rfl) rfl ?_
  refine WL.mv rfl rfl ?_
  refine WL.qy (y_loadN rfl rfl ka28 ks28 rfl) rfl rfl rfl ?_
  refine WL.bor 6 rfl rfl rfl rfl (by kernel_rfl) (f36_c (Table.mk [kT21, kT20, kT18, kT22, kT19] [(Subt.mk 1 (-2147483648) 2147483647), (Subt.mk 2 0 1), (Subt.mk 1 4 3), (Subt.mk 3 0 0), (Subt.mk 4 0 (-1)), (Subt.mk 4 0 0)] (SlV.mk none 0 0) (SlV.mk none 0 0) (SlV.mk none 0 0)) (r := false) (by kernel_rfl)) rfl (Wt.yes rfl rfl rfl) rfl rfl ?_
  refine WL.qy (y_not rfl) rfl rfl rfl ?_
  refine WL.qn (y_pick_t rfl rfl) rfl ?_
  refine WL.mv rfl rfl ?_
  refine WL.fn rfl rfl rfl rfl (f17_c (r := true) (by kernel_rfl)) trivial (Wt.yes rfl rfl rfl) rfl rfl ?_
  refine WL.qn (y_pick_t rfl rfl) rfl ?_
  refine WL.as rfl rfl ?_
  refine WL.nil ?_
  refine we_seq ?_
  refine wc_ret ?_
  exact we_ret_fn (rs1 rfl (rv_t rfl)) (Le.refl _)
end Go.Proofs.YteafckpdbmncfaaDoor
