/- The walks of functions. -/
import Derived.Test.YtjjgmpmhfodmeaaProg
import Derived.KernelRfl
import Derived.Test.YtjjgmpmhfodmeaaF
set_option maxHeartbeats 4000000
namespace Go.Proofs.Ytjjgmpmhfodmeaa
open Go Go.Sk
theorem meth_slot : Meth Try.prog 78 "ceiling/eval.slot" 125 := fun v w => by kernel_rfl
theorem meth_count : Meth Try.prog 78 "ceiling/eval.count" 124 := fun v w => by kernel_rfl

theorem a100 : aggOf Try.prog 100 = some false := by kernel_rfl
theorem a2 : aggOf Try.prog 2 = some false := by kernel_rfl
theorem a22 : aggOf Try.prog 22 = some false := by kernel_rfl
theorem a23 : aggOf Try.prog 23 = some false := by kernel_rfl
theorem a24 : aggOf Try.prog 24 = some false := by kernel_rfl
theorem a26 : aggOf Try.prog 26 = some true := by kernel_rfl
theorem a27 : aggOf Try.prog 27 = some false := by kernel_rfl
theorem a29 : aggOf Try.prog 29 = some true := by kernel_rfl
theorem a3 : aggOf Try.prog 3 = some false := by kernel_rfl
theorem a33 : aggOf Try.prog 33 = some false := by kernel_rfl
theorem a37 : aggOf Try.prog 37 = some false := by kernel_rfl
theorem a4 : aggOf Try.prog 4 = some false := by kernel_rfl
theorem a52 : aggOf Try.prog 52 = some true := by kernel_rfl
theorem a56 : aggOf Try.prog 56 = some false := by kernel_rfl
theorem a68 : aggOf Try.prog 68 = some false := by kernel_rfl
theorem a74 : aggOf Try.prog 74 = some false := by kernel_rfl
theorem a80 : aggOf Try.prog 80 = some false := by kernel_rfl
theorem a82 : aggOf Try.prog 82 = some true := by kernel_rfl
theorem a86 : aggOf Try.prog 86 = some true := by kernel_rfl
theorem e24 : elemOf' Try.prog 24 = some (9, true) := by kernel_rfl
theorem e33 : elemOf' Try.prog 33 = some (1, false) := by kernel_rfl
theorem e37 : elemOf' Try.prog 37 = some (1, false) := by kernel_rfl
theorem e56 : elemOf' Try.prog 56 = some (1, false) := by kernel_rfl
theorem e94 : elemOf' Try.prog 94 = some (1, false) := by kernel_rfl
theorem f26_0 : fieldOf Try.prog 26 0 = some (0, 1, false) := by kernel_rfl
theorem f26_1 : fieldOf Try.prog 26 1 = some (1, 1, false) := by kernel_rfl
theorem f26_2 : fieldOf Try.prog 26 2 = some (2, 1, false) := by kernel_rfl
theorem f26_3 : fieldOf Try.prog 26 3 = some (3, 1, false) := by kernel_rfl
theorem f26_4 : fieldOf Try.prog 26 4 = some (4, 1, false) := by kernel_rfl
theorem f26_5 : fieldOf Try.prog 26 5 = some (5, 1, false) := by kernel_rfl
theorem f26_6 : fieldOf Try.prog 26 6 = some (6, 1, false) := by kernel_rfl
theorem f26_7 : fieldOf Try.prog 26 7 = some (7, 1, false) := by kernel_rfl
theorem f26_8 : fieldOf Try.prog 26 8 = some (8, 1, false) := by kernel_rfl
theorem f29_0 : fieldOf Try.prog 29 0 = some (0, 1, false) := by kernel_rfl
theorem f29_1 : fieldOf Try.prog 29 1 = some (1, 1, false) := by kernel_rfl
theorem f29_2 : fieldOf Try.prog 29 2 = some (2, 1, false) := by kernel_rfl
theorem f29_3 : fieldOf Try.prog 29 3 = some (3, 1, false) := by kernel_rfl
theorem f29_4 : fieldOf Try.prog 29 4 = some (4, 1, false) := by kernel_rfl
theorem f52_0 : fieldOf Try.prog 52 0 = some (0, 1, false) := by kernel_rfl
theorem f52_1 : fieldOf Try.prog 52 1 = some (1, 1, false) := by kernel_rfl
theorem f78_0 : fieldOf Try.prog 78 0 = some (0, 1, false) := by kernel_rfl
theorem f78_1 : fieldOf Try.prog 78 1 = some (1, 1, false) := by kernel_rfl
theorem f82_0 : fieldOf Try.prog 82 0 = some (0, 1, false) := by kernel_rfl
theorem f82_1 : fieldOf Try.prog 82 1 = some (1, 1, false) := by kernel_rfl
theorem f86_0 : fieldOf Try.prog 86 0 = some (0, 1, false) := by kernel_rfl
theorem f86_1 : fieldOf Try.prog 86 1 = some (1, 1, false) := by kernel_rfl
theorem f86_2 : fieldOf Try.prog 86 2 = some (2, 1, false) := by kernel_rfl
theorem l24 : eltOf Try.prog 24 = some (26, 9, 80) := by kernel_rfl
theorem l33 : eltOf Try.prog 33 = some (3, 1, 8) := by kernel_rfl
theorem l37 : eltOf Try.prog 37 = some (56, 1, 24) := by kernel_rfl
theorem l49 : eltOf Try.prog 49 = some (48, 18, 160) := by kernel_rfl
theorem l56 : eltOf Try.prog 56 = some (2, 1, 8) := by kernel_rfl
theorem l94 : eltOf Try.prog 94 = some (23, 1, 1) := by kernel_rfl
theorem p26 : placesOf Try.prog 26 = some [(0, 1), (1, 1), (2, 1), (3, 1), (4, 1), (5, 1), (6, 1), (7, 1), (8, 1)] := by kernel_rfl
theorem p29 : placesOf Try.prog 29 = some [(0, 1), (1, 1), (2, 1), (3, 1), (4, 1)] := by kernel_rfl
theorem p52 : placesOf Try.prog 52 = some [(0, 1), (1, 1)] := by kernel_rfl
theorem p78 : placesOf Try.prog 78 = some [(0, 1), (1, 1)] := by kernel_rfl
theorem p82 : placesOf Try.prog 82 = some [(0, 1), (1, 1)] := by kernel_rfl
theorem p86 : placesOf Try.prog 86 = some [(0, 1), (1, 1), (2, 1)] := by kernel_rfl
theorem q52 : leafOk Try.prog 52 = some [.int .i64, .int .i64] := by kernel_rfl
theorem r101 : arrOf Try.prog 101 = some (15, 1, false) := by kernel_rfl
theorem r108 : arrOf Try.prog 108 = some (15, 1, false) := by kernel_rfl
theorem r123 : arrOf Try.prog 123 = some (6, 1, false) := by kernel_rfl
theorem r48 : arrOf Try.prog 48 = some (2, 9, true) := by kernel_rfl
theorem s101 : szOf Try.prog 101 = some 15 := by kernel_rfl
theorem s108 : szOf Try.prog 108 = some 15 := by kernel_rfl
theorem s123 : szOf Try.prog 123 = some 6 := by kernel_rfl
theorem s2 : szOf Try.prog 2 = some 1 := by kernel_rfl
theorem s23 : szOf Try.prog 23 = some 1 := by kernel_rfl
theorem s26 : szOf Try.prog 26 = some 9 := by kernel_rfl
theorem s29 : szOf Try.prog 29 = some 5 := by kernel_rfl
theorem s3 : szOf Try.prog 3 = some 1 := by kernel_rfl
theorem s33 : szOf Try.prog 33 = some 1 := by kernel_rfl
theorem s52 : szOf Try.prog 52 = some 2 := by kernel_rfl
theorem s56 : szOf Try.prog 56 = some 1 := by kernel_rfl
theorem s68 : szOf Try.prog 68 = some 1 := by kernel_rfl
theorem s74 : szOf Try.prog 74 = some 1 := by kernel_rfl
theorem s82 : szOf Try.prog 82 = some 2 := by kernel_rfl
theorem s86 : szOf Try.prog 86 = some 3 := by kernel_rfl
theorem z101 : zeroOf Try.prog 101 = some [.nilFunc, .nilFunc, .nilFunc, .nilFunc, .nilFunc, .nilFunc, .nilFunc, .nilFunc, .nilFunc, .nilFunc, .nilFunc, .nilFunc, .nilFunc, .nilFunc, .nilFunc] := by kernel_rfl
theorem z108 : zeroOf Try.prog 108 = some [.int .i64 0, .int .i64 0, .int .i64 0, .int .i64 0, .int .i64 0, .int .i64 0, .int .i64 0, .int .i64 0, .int .i64 0, .int .i64 0, .int .i64 0, .int .i64 0, .int .i64 0, .int .i64 0, .int .i64 0] := by kernel_rfl
theorem z123 : zeroOf Try.prog 123 = some [.bool false, .bool false, .bool false, .bool false, .bool false, .bool false] := by kernel_rfl
theorem z2 : zeroOf Try.prog 2 = some [.int .i64 0] := by kernel_rfl
theorem z23 : zeroOf Try.prog 23 = some [.int .u8 0] := by kernel_rfl
theorem z26 : zeroOf Try.prog 26 = some [.int .u8 0, .int .u8 0, .int .i64 0, .int .i64 0, .int .i64 0, .int .i64 0, .int .i64 0, .int .i64 0, .slice none 0 0] := by kernel_rfl
theorem z29 : zeroOf Try.prog 29 = some [.int .u8 0, .int .i64 0, .int .i64 0, .int .i64 0, .slice none 0 0] := by kernel_rfl
theorem z3 : zeroOf Try.prog 3 = some [.int .i64 0] := by kernel_rfl
theorem z33 : zeroOf Try.prog 33 = some [.slice none 0 0] := by kernel_rfl
theorem z52 : zeroOf Try.prog 52 = some [.int .i64 0, .int .i64 0] := by kernel_rfl
theorem z56 : zeroOf Try.prog 56 = some [.slice none 0 0] := by kernel_rfl
theorem z68 : zeroOf Try.prog 68 = some [.nilFunc] := by kernel_rfl
theorem z74 : zeroOf Try.prog 74 = some [.nilFunc] := by kernel_rfl
theorem z78 : zeroOf Try.prog 78 = some [.slice none 0 0, .slice none 0 0] := by kernel_rfl
theorem z82 : zeroOf Try.prog 82 = some [.nilIface, .slice none 0 0] := by kernel_rfl
theorem z86 : zeroOf Try.prog 86 = some [.slice none 0 0, .slice none 0 0, .slice none 0 0] := by kernel_rfl

theorem f63_c (v0 : Int) (lo1 : Int) (hi2 : Int) : Pu Try.prog 63 [.i .i64 v0, .i .i64 lo1, .i .i64 hi2] (.b (f63 v0 lo1 hi2)) := by
  generalize h : f63 v0 lo1 hi2 = r
  unfold f63 at h
  refine fn_intro Try.func63 (by kernel_rfl) rfl rfl rfl (fun φφ ww => ?_)
  refine wc_seq ?_
  refine wc_region ?_
  refine WL.q (y_assign rfl) (Wt.none rfl) rfl rfl ?_
  refine WL.nil ?_
  refine we_seq ?_
  refine wc_seq ?_
  refine wc_region ?_
  refine WL.q (y_move rfl) (Wt.none rfl) rfl rfl ?_
  refine WL.q (y_move rfl) (Wt.none rfl) rfl rfl ?_
  refine WL.q (y_geq rfl rfl) (Wt.none rfl) rfl rfl ?_
  refine WL.q (y_move rfl) (Wt.none rfl) rfl rfl ?_
  apply WL.and 4 (t := 10) (d := 14)
  · exact rfl
  · intro hg10
    refine WL.q (y_move rfl) (Wt.yes rfl rfl rfl) rfl rfl ?_
    refine WL.q (y_move rfl) (Wt.yes rfl rfl rfl) rfl rfl ?_
    refine WL.q (y_leq rfl rfl) (Wt.yes rfl rfl rfl) rfl rfl ?_
    refine WL.q (y_pick_t rfl rfl) (Wt.none rfl) rfl rfl ?_
    exact WL.nil ⟨rfl, [_, _, _, _], rfl, rfl, rfl⟩
  · refine WL.skips 3 rfl ?_
    refine WL.q (y_pick_f rfl rfl) (Wt.none rfl) rfl rfl ?_
    exact WL.nil ⟨rfl, [_, _, _, _], rfl, rfl, rfl⟩
  refine WL.q (y_assign rfl) (Wt.none rfl) rfl rfl ?_
  refine WL.nil ?_
  refine we_seq ?_
  refine wc_ret ?_
  subst h
  exact we_ret_fn (rs1 rfl (rv_t rfl)) (Le.refl _)

theorem f83_c (v0 : Int) (lo1 : Int) (hi2 : Int) : Pu Try.prog 83 [.i .i64 v0, .i .i64 lo1, .i .i64 hi2] (.b (f83 v0 lo1 hi2)) := by
  generalize h : f83 v0 lo1 hi2 = r
  unfold f83 at h
  refine fn_intro Try.func83 (by kernel_rfl) rfl rfl rfl (fun φφ ww => ?_)
  refine wc_seq ?_
  refine wc_region ?_
  refine WL.q (y_assign rfl) (Wt.none rfl) rfl rfl ?_
  refine WL.nil ?_
  refine we_seq ?_
  refine wc_seq ?_
  refine wc_region ?_
  refine WL.q (y_move rfl) (Wt.none rfl) rfl rfl ?_
  refine WL.q (y_move rfl) (Wt.none rfl) rfl rfl ?_
  refine WL.q (y_geq rfl rfl) (Wt.none rfl) rfl rfl ?_
  refine WL.q (y_move rfl) (Wt.none rfl) rfl rfl ?_
  apply WL.and 4 (t := 10) (d := 14)
  · exact rfl
  · intro hg10
    refine WL.q (y_move rfl) (Wt.yes rfl rfl rfl) rfl rfl ?_
    refine WL.q (y_move rfl) (Wt.yes rfl rfl rfl) rfl rfl ?_
    refine WL.q (y_leq rfl rfl) (Wt.yes rfl rfl rfl) rfl rfl ?_
    refine WL.q (y_pick_t rfl rfl) (Wt.none rfl) rfl rfl ?_
    exact WL.nil ⟨rfl, [_, _, _, _], rfl, rfl, rfl⟩
  · refine WL.skips 3 rfl ?_
    refine WL.q (y_pick_f rfl rfl) (Wt.none rfl) rfl rfl ?_
    exact WL.nil ⟨rfl, [_, _, _, _], rfl, rfl, rfl⟩
  refine WL.q (y_assign rfl) (Wt.none rfl) rfl rfl ?_
  refine WL.nil ?_
  refine we_seq ?_
  refine wc_ret ?_
  subst h
  exact we_ret_fn (rs1 rfl (rv_t rfl)) (Le.refl _)

theorem f61_c (v0 : Int) : Pu Try.prog 61 [.i .i64 v0] (.b (f61 v0)) := by
  generalize h : f61 v0 = r
  unfold f61 at h
  refine fn_intro Try.func61 (by kernel_rfl) rfl rfl rfl (fun φφ ww => ?_)
  refine wc_seq ?_
  refine wc_region ?_
  refine WL.q (y_assign rfl) (Wt.none rfl) rfl rfl ?_
  refine WL.nil ?_
  refine we_seq ?_
  refine wc_seq ?_
  refine wc_region ?_
  refine WL.q (y_move rfl) (Wt.none rfl) rfl rfl ?_
  refine WL.fn rfl rfl rfl rfl (f63_c _ _ _) ⟨(Le.refl _), (Le.refl _), (Le.refl _), trivial⟩ (Wt.none rfl) rfl rfl ?_
  refine WL.q (y_assign rfl) (Wt.none rfl) rfl rfl ?_
  refine WL.nil ?_
  refine we_seq ?_
  refine wc_ret ?_
  subst h
  exact we_ret_fn (rs1 rfl (rv_t rfl)) (Le.refl _)

theorem f81_c (v0 : Int) : Pu Try.prog 81 [.i .i64 v0] (.b (f81 v0)) := by
  generalize h : f81 v0 = r
  unfold f81 at h
  refine fn_intro Try.func81 (by kernel_rfl) rfl rfl rfl (fun φφ ww => ?_)
  refine wc_seq ?_
  refine wc_region ?_
  refine WL.q (y_assign rfl) (Wt.none rfl) rfl rfl ?_
  refine WL.nil ?_
  refine we_seq ?_
  refine wc_seq ?_
  refine wc_region ?_
  refine WL.q (y_move rfl) (Wt.none rfl) rfl rfl ?_
  refine WL.fn rfl rfl rfl rfl (f83_c _ _ _) ⟨(Le.refl _), (Le.refl _), (Le.refl _), trivial⟩ (Wt.none rfl) rfl rfl ?_
  refine WL.q (y_assign rfl) (Wt.none rfl) rfl rfl ?_
  refine WL.nil ?_
  refine we_seq ?_
  refine wc_ret ?_
  subst h
  exact we_ret_fn (rs1 rfl (rv_t rfl)) (Le.refl _)

theorem f43_c (o0 : Int) : Pu Try.prog 43 [.i .i64 o0] (.b (f43 o0)) := by
  generalize h : f43 o0 = r
  unfold f43 at h
  refine fn_intro Try.func43 (by kernel_rfl) rfl rfl rfl (fun φφ ww => ?_)
  refine wc_seq ?_
  refine wc_region ?_
  refine WL.q (y_assign rfl) (Wt.none rfl) rfl rfl ?_
  refine WL.nil ?_
  refine we_seq ?_
  refine wc_seq ?_
  refine wc_region ?_
  refine WL.q (y_move rfl) (Wt.none rfl) rfl rfl ?_
  refine WL.q (y_geq rfl rfl) (Wt.none rfl) rfl rfl ?_
  refine WL.q (y_move rfl) (Wt.none rfl) rfl rfl ?_
  apply WL.and 3 (t := 5) (d := 8)
  · exact rfl
  · intro hg5
    refine WL.q (y_move rfl) (Wt.yes rfl rfl rfl) rfl rfl ?_
    refine WL.q (y_lss rfl rfl) (Wt.yes rfl rfl rfl) rfl rfl ?_
    refine WL.q (y_pick_t rfl rfl) (Wt.none rfl) rfl rfl ?_
    exact WL.nil ⟨rfl, [_, _, _], rfl, rfl, rfl⟩
  · refine WL.skips 2 rfl ?_
    refine WL.q (y_pick_f rfl rfl) (Wt.none rfl) rfl rfl ?_
    exact WL.nil ⟨rfl, [_, _, _], rfl, rfl, rfl⟩
  refine WL.q (y_assign rfl) (Wt.none rfl) rfl rfl ?_
  refine WL.nil ?_
  refine we_seq ?_
  refine wc_ret ?_
  subst h
  exact we_ret_fn (rs1 rfl (rv_t rfl)) (Le.refl _)

theorem f45_c (o0 : Int) : Pu Try.prog 45 [.i .i64 o0] (.b (f45 o0)) := by
  generalize h : f45 o0 = r
  unfold f45 at h
  refine fn_intro Try.func45 (by kernel_rfl) rfl rfl rfl (fun φφ ww => ?_)
  refine wc_seq ?_
  refine wc_region ?_
  refine WL.q (y_assign rfl) (Wt.none rfl) rfl rfl ?_
  refine WL.nil ?_
  refine we_seq ?_
  refine wc_seq ?_
  refine wc_region ?_
  refine WL.q (y_move rfl) (Wt.none rfl) rfl rfl ?_
  refine WL.q (y_geq rfl rfl) (Wt.none rfl) rfl rfl ?_
  refine WL.q (y_move rfl) (Wt.none rfl) rfl rfl ?_
  apply WL.and 3 (t := 5) (d := 8)
  · exact rfl
  · intro hg5
    refine WL.q (y_move rfl) (Wt.yes rfl rfl rfl) rfl rfl ?_
    refine WL.q (y_lss rfl rfl) (Wt.yes rfl rfl rfl) rfl rfl ?_
    refine WL.q (y_pick_t rfl rfl) (Wt.none rfl) rfl rfl ?_
    exact WL.nil ⟨rfl, [_, _, _], rfl, rfl, rfl⟩
  · refine WL.skips 2 rfl ?_
    refine WL.q (y_pick_f rfl rfl) (Wt.none rfl) rfl rfl ?_
    exact WL.nil ⟨rfl, [_, _, _], rfl, rfl, rfl⟩
  refine WL.q (y_assign rfl) (Wt.none rfl) rfl rfl ?_
  refine WL.nil ?_
  refine we_seq ?_
  refine wc_ret ?_
  subst h
  exact we_ret_fn (rs1 rfl (rv_t rfl)) (Le.refl _)

theorem f44_c (off0 : Int) (long1 : Int) : Pu Try.prog 44 [.i .i64 off0, .i .i64 long1] (.b (f44 off0 long1)) := by
  generalize h : f44 off0 long1 = r
  unfold f44 at h
  refine fn_intro Try.func44 (by kernel_rfl) rfl rfl rfl (fun φφ ww => ?_)
  refine wc_seq ?_
  refine wc_region ?_
  refine WL.q (y_assign rfl) (Wt.none rfl) rfl rfl ?_
  refine WL.nil ?_
  refine we_seq ?_
  refine wc_seq ?_
  refine wc_region ?_
  refine WL.q (y_move rfl) (Wt.none rfl) rfl rfl ?_
  refine WL.q (y_geq rfl rfl) (Wt.none rfl) rfl rfl ?_
  refine WL.q (y_move rfl) (Wt.none rfl) rfl rfl ?_
  apply WL.and 3 (t := 7) (d := 10)
  · exact rfl
  · intro hg7
    refine WL.q (y_move rfl) (Wt.yes rfl rfl rfl) rfl rfl ?_
    refine WL.q (y_geq rfl rfl) (Wt.yes rfl rfl rfl) rfl rfl ?_
    refine WL.q (y_pick_t rfl rfl) (Wt.none rfl) rfl rfl ?_
    exact WL.nil ⟨rfl, [_, _, _], rfl, rfl, rfl⟩
  · refine WL.skips 2 rfl ?_
    refine WL.q (y_pick_f rfl rfl) (Wt.none rfl) rfl rfl ?_
    exact WL.nil ⟨rfl, [_, _, _], rfl, rfl, rfl⟩
  refine WL.q (y_move rfl) (Wt.none rfl) rfl rfl ?_
  apply WL.and 3 (t := 11) (d := 14)
  · exact rfl
  · intro hg11
    refine WL.q (y_move rfl) (Wt.yes rfl rfl rfl) rfl rfl ?_
    refine WL.q (y_lss rfl rfl) (Wt.yes rfl rfl rfl) rfl rfl ?_
    refine WL.q (y_pick_t rfl rfl) (Wt.none rfl) rfl rfl ?_
    exact WL.nil ⟨rfl, [_, _, _], rfl, rfl, rfl⟩
  · refine WL.skips 2 rfl ?_
    refine WL.q (y_pick_f rfl rfl) (Wt.none rfl) rfl rfl ?_
    exact WL.nil ⟨rfl, [_, _, _], rfl, rfl, rfl⟩
  refine WL.q (y_move rfl) (Wt.none rfl) rfl rfl ?_
  apply WL.and 5 (t := 15) (d := 20)
  · exact rfl
  · intro hg15
    refine WL.q (y_move rfl) (Wt.yes rfl rfl rfl) rfl rfl ?_
    refine WL.q (y_move rfl) (Wt.yes rfl rfl rfl) rfl rfl ?_
    refine WL.q (y_sub rfl rfl rfl) (Wt.yes rfl rfl rfl) rfl rfl ?_
    refine WL.q (y_leq rfl rfl) (Wt.yes rfl rfl rfl) rfl rfl ?_
    refine WL.q (y_pick_t rfl rfl) (Wt.none rfl) rfl rfl ?_
    exact WL.nil ⟨rfl, [_, _, _, _, _], rfl, rfl, rfl⟩
  · refine WL.skips 4 rfl ?_
    refine WL.q (y_pick_f rfl rfl) (Wt.none rfl) rfl rfl ?_
    exact WL.nil ⟨rfl, [_, _, _, _, _], rfl, rfl, rfl⟩
  refine WL.q (y_assign rfl) (Wt.none rfl) rfl rfl ?_
  refine WL.nil ?_
  refine we_seq ?_
  refine wc_ret ?_
  subst h
  exact we_ret_fn (rs1 rfl (rv_t rfl)) (Le.refl _)

theorem f46_c (off0 : Int) (long1 : Int) : Pu Try.prog 46 [.i .i64 off0, .i .i64 long1] (.b (f46 off0 long1)) := by
  generalize h : f46 off0 long1 = r
  unfold f46 at h
  refine fn_intro Try.func46 (by kernel_rfl) rfl rfl rfl (fun φφ ww => ?_)
  refine wc_seq ?_
  refine wc_region ?_
  refine WL.q (y_assign rfl) (Wt.none rfl) rfl rfl ?_
  refine WL.nil ?_
  refine we_seq ?_
  refine wc_seq ?_
  refine wc_region ?_
  refine WL.q (y_move rfl) (Wt.none rfl) rfl rfl ?_
  refine WL.q (y_geq rfl rfl) (Wt.none rfl) rfl rfl ?_
  refine WL.q (y_move rfl) (Wt.none rfl) rfl rfl ?_
  apply WL.and 3 (t := 7) (d := 10)
  · exact rfl
  · intro hg7
    refine WL.q (y_move rfl) (Wt.yes rfl rfl rfl) rfl rfl ?_
    refine WL.q (y_lss rfl rfl) (Wt.yes rfl rfl rfl) rfl rfl ?_
    refine WL.q (y_pick_t rfl rfl) (Wt.none rfl) rfl rfl ?_
    exact WL.nil ⟨rfl, [_, _, _], rfl, rfl, rfl⟩
  · refine WL.skips 2 rfl ?_
    refine WL.q (y_pick_f rfl rfl) (Wt.none rfl) rfl rfl ?_
    exact WL.nil ⟨rfl, [_, _, _], rfl, rfl, rfl⟩
  refine WL.q (y_move rfl) (Wt.none rfl) rfl rfl ?_
  apply WL.and 3 (t := 11) (d := 14)
  · exact rfl
  · intro hg11
    refine WL.q (y_move rfl) (Wt.yes rfl rfl rfl) rfl rfl ?_
    refine WL.q (y_geq rfl rfl) (Wt.yes rfl rfl rfl) rfl rfl ?_
    refine WL.q (y_pick_t rfl rfl) (Wt.none rfl) rfl rfl ?_
    exact WL.nil ⟨rfl, [_, _, _], rfl, rfl, rfl⟩
  · refine WL.skips 2 rfl ?_
    refine WL.q (y_pick_f rfl rfl) (Wt.none rfl) rfl rfl ?_
    exact WL.nil ⟨rfl, [_, _, _], rfl, rfl, rfl⟩
  refine WL.q (y_move rfl) (Wt.none rfl) rfl rfl ?_
  apply WL.and 3 (t := 15) (d := 18)
  · exact rfl
  · intro hg15
    refine WL.q (y_move rfl) (Wt.yes rfl rfl rfl) rfl rfl ?_
    refine WL.q (y_leq rfl rfl) (Wt.yes rfl rfl rfl) rfl rfl ?_
    refine WL.q (y_pick_t rfl rfl) (Wt.none rfl) rfl rfl ?_
    exact WL.nil ⟨rfl, [_, _, _], rfl, rfl, rfl⟩
  · refine WL.skips 2 rfl ?_
    refine WL.q (y_pick_f rfl rfl) (Wt.none rfl) rfl rfl ?_
    exact WL.nil ⟨rfl, [_, _, _], rfl, rfl, rfl⟩
  refine WL.q (y_move rfl) (Wt.none rfl) rfl rfl ?_
  apply WL.and 5 (t := 19) (d := 24)
  · exact rfl
  · intro hg19
    refine WL.q (y_move rfl) (Wt.yes rfl rfl rfl) rfl rfl ?_
    refine WL.q (y_move rfl) (Wt.yes rfl rfl rfl) rfl rfl ?_
    refine WL.q (y_add rfl rfl rfl) (Wt.yes rfl rfl rfl) rfl rfl ?_
    refine WL.q (y_leq rfl rfl) (Wt.yes rfl rfl rfl) rfl rfl ?_
    refine WL.q (y_pick_t rfl rfl) (Wt.none rfl) rfl rfl ?_
    exact WL.nil ⟨rfl, [_, _, _, _, _], rfl, rfl, rfl⟩
  · refine WL.skips 4 rfl ?_
    refine WL.q (y_pick_f rfl rfl) (Wt.none rfl) rfl rfl ?_
    exact WL.nil ⟨rfl, [_, _, _, _, _], rfl, rfl, rfl⟩
  refine WL.q (y_assign rfl) (Wt.none rfl) rfl rfl ?_
  refine WL.nil ?_
  refine we_seq ?_
  refine wc_ret ?_
  subst h
  exact we_ret_fn (rs1 rfl (rv_t rfl)) (Le.refl _)

theorem f100_c (is0 : Bool) : Pu Try.prog 100 [.b is0] (.i .i64 (f100 is0)) := by
  generalize h : f100 is0 = r
  unfold f100 at h
  refine fn_intro Try.func100 (by kernel_rfl) rfl rfl rfl (fun φφ ww => ?_)
  refine wc_seq ?_
  refine wc_region ?_
  refine WL.q (y_assign rfl) (Wt.none rfl) rfl rfl ?_
  refine WL.nil ?_
  refine we_seq ?_
  refine wc_seq ?_
  refine wc_seq ?_
  refine wc_region ?_
  refine WL.q (y_move rfl) (Wt.none rfl) rfl rfl ?_
  refine WL.nil ?_
  refine we_seq ?_
  refine wc_cond rfl (fun hc1 => ?_) (fun hc1 => ?_)
  · replace h := condT h hc1
    refine wc_seq ?_
    refine wc_region ?_
    refine WL.q (y_assign rfl) (Wt.none rfl) rfl rfl ?_
    refine WL.nil ?_
    refine we_seq ?_
    refine wc_ret ?_
    refine we_seq_ret ?_
    subst h
    exact we_ret_fn (rs1 rfl (rv_t rfl)) (Le.refl _)
  · replace h := condF h hc1
    refine wc_skip ?_
    refine we_seq ?_
    refine wc_seq ?_
    refine wc_region ?_
    refine WL.q (y_assign rfl) (Wt.none rfl) rfl rfl ?_
    refine WL.nil ?_
    refine we_seq ?_
    refine wc_ret ?_
    subst h
    exact we_ret_fn (rs1 rfl (rv_t rfl)) (Le.refl _)

theorem f101_c (b0 : Bool) : Pu Try.prog 101 [.b b0] (.i .i64 (f101 b0)) := by
  generalize h : f101 b0 = r
  unfold f101 at h
  refine fn_intro Try.func101 (by kernel_rfl) rfl rfl rfl (fun φφ ww => ?_)
  refine wc_seq ?_
  refine wc_region ?_
  refine WL.q (y_assign rfl) (Wt.none rfl) rfl rfl ?_
  refine WL.nil ?_
  refine we_seq ?_
  refine wc_seq ?_
  refine wc_seq ?_
  refine wc_region ?_
  refine WL.q (y_move rfl) (Wt.none rfl) rfl rfl ?_
  refine WL.nil ?_
  refine we_seq ?_
  refine wc_cond rfl (fun hc1 => ?_) (fun hc1 => ?_)
  · replace h := condT h hc1
    refine wc_seq ?_
    refine wc_region ?_
    refine WL.q (y_assign rfl) (Wt.none rfl) rfl rfl ?_
    refine WL.nil ?_
    refine we_seq ?_
    refine wc_ret ?_
    refine we_seq_ret ?_
    subst h
    exact we_ret_fn (rs1 rfl (rv_t rfl)) (Le.refl _)
  · replace h := condF h hc1
    refine wc_skip ?_
    refine we_seq ?_
    refine wc_seq ?_
    refine wc_region ?_
    refine WL.q (y_assign rfl) (Wt.none rfl) rfl rfl ?_
    refine WL.nil ?_
    refine we_seq ?_
    refine wc_ret ?_
    subst h
    exact we_ret_fn (rs1 rfl (rv_t rfl)) (Le.refl _)

theorem f64_c (k0 : Int) {r : Int} (h : f64 k0 = some r) : Pu Try.prog 64 [.i .u8 k0] (.i .i64 r) := by
  unfold f64 at h
  refine fn_intro Try.func64 (by kernel_rfl) rfl rfl rfl (fun φφ ww => ?_)
  refine wc_seq ?_
  refine wc_region ?_
  refine WL.q (y_assign rfl) (Wt.none rfl) rfl rfl ?_
  refine WL.nil ?_
  refine we_seq ?_
  refine wc_seq ?_
  refine wc_region ?_
  refine WL.q (y_buildA r108 z108 rfl rfl) (Wt.none rfl) rfl rfl ?_
  refine WL.s ((b_alloc z108).does) (Wt.none rfl) rfl rfl ?_
  refine WL.s0 (d_store rfl rfl rfl rfl rfl rfl s108 rfl rfl) (Wt.none rfl) rfl ?_
  refine WL.st (st' := [.row 108 [.d (D.i .i64 (-1)), .d (D.i .i64 0), .d (D.i .i64 0), .d (D.i .i64 1), .d (D.i .i64 1), .d (D.i .i64 2), .d (D.i .i64 2), .d (D.i .i64 2), .d (D.i .i64 3), .d (D.i .i64 1), .d (D.i .i64 2), .d (D.i .i64 0), .d (D.i .i64 0), .d (D.i .i64 1), .d (D.i .i64 0)]]) rfl ?_
  refine WL.nil ?_
  refine we_seq ?_
  refine wc_seq ?_
  refine wc_seq ?_
  refine wc_region ?_
  refine WL.q (y_move rfl) (Wt.none rfl) rfl rfl ?_
  refine WL.q (y_conv Try.underlying22 Try.underlying3 rfl rfl) (Wt.none rfl) rfl rfl ?_
  refine WL.q (y_geq rfl rfl) (Wt.none rfl) rfl rfl ?_
  refine WL.nil ?_
  refine we_seq ?_
  refine wc_cond rfl (fun hc1 => ?_) (fun hc1 => ?_)
  · replace h := condT h hc1
    refine wc_seq ?_
    refine wc_region ?_
    refine WL.q (y_assign rfl) (Wt.none rfl) rfl rfl ?_
    refine WL.nil ?_
    refine we_seq ?_
    refine wc_ret ?_
    refine we_seq_ret ?_
    obtain rfl := Option.some.inj h
    exact we_ret_fn (rs1 rfl (rv_t rfl)) (Le.refl _)
  · replace h := condF h hc1
    refine wc_skip ?_
    refine we_seq ?_
    refine wc_seq ?_
    refine wc_region ?_
    refine WL.q (y_move rfl) (Wt.none rfl) rfl rfl ?_
    replace h := bindS h
    obtain ⟨x13, hx13, h⟩ := h
    refine WL.q (y_indexAddra r108 rfl rfl (idx_nonneg hx13) (idx_lt hx13)) (Wt.none rfl) rfl rfl ?_
    refine WL.q (y_load rfl rfl a3 (arr_get (f := fun x => .d (D.i .i64 x)) hx13)) (Wt.none rfl) rfl rfl ?_
    refine WL.q (y_assign rfl) (Wt.none rfl) rfl rfl ?_
    refine WL.nil ?_
    refine we_seq ?_
    refine wc_ret ?_
    obtain rfl := Option.some.inj h
    exact we_ret_fn (rs1 rfl (rv_t rfl)) (Le.refl _)

theorem f87_c (s0 : List Int) (v1 : Int) {r : Int} (h : f87 s0 v1 = some r) : Pu Try.prog 87 [.sl (List.map E23 s0), .i .u8 v1] (.i .i64 r) := by
  unfold f87 at h
  refine fn_intro Try.func87 (by kernel_rfl) rfl rfl rfl (fun φφ ww => ?_)
  refine wc_seq ?_
  refine wc_region ?_
  refine WL.q (y_assign rfl) (Wt.none rfl) rfl rfl ?_
  refine WL.nil ?_
  refine we_seq ?_
  replace h := letkS h
  obtain ⟨k22, hk22, h⟩ := h
  refine wc_cut (fun env' st' => k22 () = some r ∧ Sub [] env' ∧ SLe st' []) ?_ ?_
  · refine wc_seq ?_
    refine wc_region ?_
    refine WL.q (y_move rfl) (Wt.none rfl) rfl rfl ?_
    refine WL.q (y_len_map E23 s0 e94 rfl rfl (Le.refl _)) (Wt.none rfl) rfl rfl ?_
    refine WL.q (y_move rfl) (Wt.none rfl) rfl rfl ?_
    refine WL.nil ?_
    refine we_seq ?_
    refine wc_block ?_
    refine wc_loop (fun n env' st' => ∃ (t24 : Int), f87_l1 s0 v1 k22 n t24 = some r ∧ Sub [(0, .d (.sl (List.map E23 s0))), (1, .d (D.i .u8 v1)), (7, .d (D.i .i64 (List.length s0 : Int))), (8, .d (D.i .i64 t24))] env' ∧ SLe st' []) (fun n => n) (Int.toNat ((List.length s0 : Int) - 0) + 1) ⟨0, h, (Sub.cons rfl (Le.refl _) (Sub.cons rfl (Le.refl _) (Sub.cons rfl (Le.refl _) (Sub.cons rfl (Le.refl _) (Sub.nil _))))), trivial⟩ ?_
    rintro n env1 st1 ⟨t24, h, hsub, hst⟩
    cases n with
    | zero => rw [f87_l1] at h; cases h
    | succ n =>
    rw [f87_l1] at h
    refine WC.sub hsub (WC.weak hst ?_)
    refine wc_seq ?_
    refine wc_region ?_
    refine WL.q (y_lss rfl rfl) (Wt.none rfl) rfl rfl ?_
    refine WL.nil ?_
    refine we_seq ?_
    refine wc_seq ?_
    refine wc_cond rfl (fun hc1 => ?_) (fun hc1 => ?_)
    · replace h := condT h hc1
      refine wc_skip ?_
      refine we_seq ?_
      refine wc_seq ?_
      refine wc_block ?_
      refine wc_seq ?_
      refine wc_region ?_
      refine WL.q (y_move rfl) (Wt.none rfl) rfl rfl ?_
      refine WL.q (y_assign rfl) (Wt.none rfl) rfl rfl ?_
      refine WL.nil ?_
      refine we_seq ?_
      refine wc_seq ?_
      refine wc_region ?_
      refine WL.q (y_move rfl) (Wt.none rfl) rfl rfl ?_
      refine WL.q (y_move rfl) (Wt.none rfl) rfl rfl ?_
      refine WL.q (y_move rfl) (Wt.none rfl) rfl rfl ?_
      replace h := bindS h
      obtain ⟨x26, hx26, h⟩ := h
      refine WL.q (y_indexAddr e94 rfl (Le.refl _) rfl (idx_nonneg hx26) (idx_row E23_eq hx26) rfl) (Wt.none rfl) rfl rfl ?_
      refine WL.q (y_loadc rfl a23 rfl) (Wt.none rfl) rfl rfl ?_
      refine WL.q (y_eql rfl rfl) (Wt.none rfl) rfl rfl ?_
      refine WL.nil ?_
      refine we_seq ?_
      refine wc_cond rfl (fun hc2 => ?_) (fun hc2 => ?_)
      · replace h := condT h hc2
        refine wc_seq ?_
        refine wc_region ?_
        refine WL.q (y_move rfl) (Wt.none rfl) rfl rfl ?_
        refine WL.q (y_assign rfl) (Wt.none rfl) rfl rfl ?_
        refine WL.nil ?_
        refine we_seq ?_
        refine wc_ret ?_
        refine we_blk_ret ?_
        refine we_seq_ret ?_
        refine we_lp_ret ?_
        refine we_blk_ret ?_
        refine we_lp_ret ?_
        obtain rfl := Option.some.inj h
        exact we_ret_fn (rs1 rfl (rv_t rfl)) (Le.refl _)
      · replace h := condF h hc2
        refine wc_skip ?_
        refine we_blk ?_
        refine we_seq ?_
        refine wc_region ?_
        refine WL.q (y_add rfl rfl rfl) (Wt.none rfl) rfl rfl ?_
        refine WL.q (y_move rfl) (Wt.none rfl) rfl rfl ?_
        refine WL.nil ?_
        exact we_lp ⟨n, ⟨(IntKind.i64.wrap (t24 + 1)), h, (Sub.cons rfl (Le.refl _) (Sub.cons rfl (Le.refl _) (Sub.cons rfl (Le.refl _) (Sub.cons rfl (Le.refl _) (Sub.nil _))))), trivial⟩, Nat.lt_succ_self n⟩
    · replace h := condF h hc1
      refine wc_exit ?_
      refine we_seq_exit ?_
      refine we_lp_exit ?_
      refine we_blk_hit ?_
      exact we_lp ⟨h, (Sub.nil _), trivial⟩
  · rintro env1 st1 ⟨h, hsub, hst⟩
    subst hk22
    dsimp only at h
    refine WC.sub hsub (WC.weak hst ?_)
    refine wc_seq ?_
    refine wc_region ?_
    refine WL.q (y_assign rfl) (Wt.none rfl) rfl rfl ?_
    refine WL.nil ?_
    refine we_seq ?_
    refine wc_ret ?_
    obtain rfl := Option.some.inj h
    exact we_ret_fn (rs1 rfl (rv_t rfl)) (Le.refl _)

theorem f62_c (s0 : List Int) (v1 : Int) {r : Bool} (h : f62 s0 v1 = some r) : Pu Try.prog 62 [.sl (List.map E23 s0), .i .u8 v1] (.b r) := by
  unfold f62 at h
  refine fn_intro Try.func62 (by kernel_rfl) rfl rfl rfl (fun φφ ww => ?_)
  refine wc_seq ?_
  refine wc_region ?_
  refine WL.q (y_assign rfl) (Wt.none rfl) rfl rfl ?_
  refine WL.nil ?_
  refine we_seq ?_
  refine wc_seq ?_
  refine wc_region ?_
  refine WL.q (y_move rfl) (Wt.none rfl) rfl rfl ?_
  refine WL.q (y_move rfl) (Wt.none rfl) rfl rfl ?_
  replace h := bindS h
  obtain ⟨r12, hr12, h⟩ := h
  refine WL.fn rfl rfl rfl rfl (f87_c _ _ hr12) ⟨(Le.refl _), (Le.refl _), trivial⟩ (Wt.none rfl) rfl rfl ?_
  refine WL.q (y_geq rfl rfl) (Wt.none rfl) rfl rfl ?_
  refine WL.q (y_assign rfl) (Wt.none rfl) rfl rfl ?_
  refine WL.nil ?_
  refine we_seq ?_
  refine wc_ret ?_
  obtain rfl := Option.some.inj h
  exact we_ret_fn (rs1 rfl (rv_t rfl)) (Le.refl _)

theorem f55_c (s0 : List (List Int)) (o1 : Int) (slot2 : Int) {r : Bool} (h : f55 s0 o1 slot2 = some r) : Pu Try.prog 55 [.sl (List.map E56 s0), .i .i64 o1, .i .i64 slot2] (.b r) := by
  unfold f55 at h
  refine fn_intro Try.func55 (by kernel_rfl) rfl rfl rfl (fun φφ ww => ?_)
  refine wc_seq ?_
  refine wc_region ?_
  refine WL.q (y_assign rfl) (Wt.none rfl) rfl rfl ?_
  refine WL.nil ?_
  refine we_seq ?_
  refine wc_seq ?_
  refine wc_region ?_
  refine WL.q (y_move rfl) (Wt.none rfl) rfl rfl ?_
  refine WL.q (y_geq rfl rfl) (Wt.none rfl) rfl rfl ?_
  refine WL.q (y_move rfl) (Wt.none rfl) rfl rfl ?_
  apply WL.and 5 (t := 9) (d := 14)
  · exact rfl
  · intro hg9
    refine WL.q (y_move rfl) (Wt.yes rfl rfl rfl) rfl rfl ?_
    refine WL.q (y_move rfl) (Wt.yes rfl rfl rfl) rfl rfl ?_
    refine WL.q (y_len_map E56 s0 e37 rfl rfl (Le.refl _)) (Wt.yes rfl rfl rfl) rfl rfl ?_
    refine WL.q (y_lss rfl rfl) (Wt.yes rfl rfl rfl) rfl rfl ?_
    refine WL.q (y_pick_t rfl rfl) (Wt.none rfl) rfl rfl ?_
    exact WL.nil ⟨rfl, [_, _, _, _, _], rfl, rfl, rfl⟩
  · refine WL.skips 4 rfl ?_
    refine WL.q (y_pick_f rfl rfl) (Wt.none rfl) rfl rfl ?_
    exact WL.nil ⟨rfl, [_, _, _, _, _], rfl, rfl, rfl⟩
  refine WL.q (y_move rfl) (Wt.none rfl) rfl rfl ?_
  apply WL.and 3 (t := 15) (d := 18)
  · exact rfl
  · intro hg15
    refine WL.q (y_move rfl) (Wt.yes rfl rfl rfl) rfl rfl ?_
    refine WL.q (y_geq rfl rfl) (Wt.yes rfl rfl rfl) rfl rfl ?_
    refine WL.q (y_pick_t rfl rfl) (Wt.none rfl) rfl rfl ?_
    exact WL.nil ⟨rfl, [_, _, _], rfl, rfl, rfl⟩
  · refine WL.skips 2 rfl ?_
    refine WL.q (y_pick_f rfl rfl) (Wt.none rfl) rfl rfl ?_
    exact WL.nil ⟨rfl, [_, _, _], rfl, rfl, rfl⟩
  refine WL.q (y_move rfl) (Wt.none rfl) rfl rfl ?_
  replace h := bindS h
  obtain ⟨b32, hb32, h⟩ := h
  apply WL.grp 8 (t := 19) (d := 27) (z := b32)
  · exact rfl
  · intro hg19
    have h := condT hb32 hg19
    refine WL.q (y_move rfl) (Wt.yes rfl rfl rfl) rfl rfl ?_
    refine WL.q (y_move rfl) (Wt.yes rfl rfl rfl) rfl rfl ?_
    refine WL.q (y_move rfl) (Wt.yes rfl rfl rfl) rfl rfl ?_
    replace h := bindS h
    obtain ⟨x33, hx33, h⟩ := h
    refine WL.q (y_indexAddr e37 rfl (Le.refl _) rfl (idx_nonneg hx33) (idx_row E56_eq hx33) rfl) (Wt.yes rfl rfl rfl) rfl rfl ?_
    refine WL.q (y_loadc rfl a56 rfl) (Wt.yes rfl rfl rfl) rfl rfl ?_
    refine WL.q (y_len_map E2 x33 e56 rfl rfl (Le.refl _)) (Wt.yes rfl rfl rfl) rfl rfl ?_
    refine WL.q (y_lss rfl rfl) (Wt.yes rfl rfl rfl) rfl rfl ?_
    refine WL.q (y_pick_t rfl rfl) (Wt.none rfl) rfl rfl ?_
    obtain rfl := Option.some.inj h
    exact WL.nil ⟨rfl, [_, _, _, _, _, _, _, _], rfl, rfl, rfl⟩
  · intro hg19
    have h := condF hb32 hg19
    refine WL.skips 7 rfl ?_
    refine WL.q (y_pick_f rfl rfl) (Wt.none rfl) rfl rfl ?_
    obtain rfl := Option.some.inj h
    exact WL.nil ⟨rfl, [_, _, _, _, _, _, _, _], rfl, rfl, rfl⟩
  refine WL.q (y_assign rfl) (Wt.none rfl) rfl rfl ?_
  refine WL.nil ?_
  refine we_seq ?_
  refine wc_ret ?_
  obtain rfl := Option.some.inj h
  exact we_ret_fn (rs1 rfl (rv_t rfl)) (Le.refl _)

theorem f30_c (s0 : List (List Int)) (o1 : Int) (slot2 : Int) {r : Bool} (h : f30 s0 o1 slot2 = some r) : Pu Try.prog 30 [.sl (List.map E56 s0), .i .i64 o1, .i .i64 slot2] (.b r) := by
  unfold f30 at h
  refine fn_intro Try.func30 (by kernel_rfl) rfl rfl rfl (fun φφ ww => ?_)
  refine wc_seq ?_
  refine wc_region ?_
  refine WL.q (y_assign rfl) (Wt.none rfl) rfl rfl ?_
  refine WL.nil ?_
  refine we_seq ?_
  refine wc_seq ?_
  refine wc_region ?_
  refine WL.q (y_move rfl) (Wt.none rfl) rfl rfl ?_
  refine WL.q (y_geq rfl rfl) (Wt.none rfl) rfl rfl ?_
  refine WL.q (y_move rfl) (Wt.none rfl) rfl rfl ?_
  apply WL.and 5 (t := 9) (d := 14)
  · exact rfl
  · intro hg9
    refine WL.q (y_move rfl) (Wt.yes rfl rfl rfl) rfl rfl ?_
    refine WL.q (y_move rfl) (Wt.yes rfl rfl rfl) rfl rfl ?_
    refine WL.q (y_len_map E56 s0 e37 rfl rfl (Le.refl _)) (Wt.yes rfl rfl rfl) rfl rfl ?_
    refine WL.q (y_lss rfl rfl) (Wt.yes rfl rfl rfl) rfl rfl ?_
    refine WL.q (y_pick_t rfl rfl) (Wt.none rfl) rfl rfl ?_
    exact WL.nil ⟨rfl, [_, _, _, _, _], rfl, rfl, rfl⟩
  · refine WL.skips 4 rfl ?_
    refine WL.q (y_pick_f rfl rfl) (Wt.none rfl) rfl rfl ?_
    exact WL.nil ⟨rfl, [_, _, _, _, _], rfl, rfl, rfl⟩
  refine WL.q (y_move rfl) (Wt.none rfl) rfl rfl ?_
  apply WL.and 3 (t := 15) (d := 18)
  · exact rfl
  · intro hg15
    refine WL.q (y_move rfl) (Wt.yes rfl rfl rfl) rfl rfl ?_
    refine WL.q (y_geq rfl rfl) (Wt.yes rfl rfl rfl) rfl rfl ?_
    refine WL.q (y_pick_t rfl rfl) (Wt.none rfl) rfl rfl ?_
    exact WL.nil ⟨rfl, [_, _, _], rfl, rfl, rfl⟩
  · refine WL.skips 2 rfl ?_
    refine WL.q (y_pick_f rfl rfl) (Wt.none rfl) rfl rfl ?_
    exact WL.nil ⟨rfl, [_, _, _], rfl, rfl, rfl⟩
  refine WL.q (y_move rfl) (Wt.none rfl) rfl rfl ?_
  replace h := bindS h
  obtain ⟨b32, hb32, h⟩ := h
  apply WL.grp 8 (t := 19) (d := 27) (z := b32)
  · exact rfl
  · intro hg19
    have h := condT hb32 hg19
    refine WL.q (y_move rfl) (Wt.yes rfl rfl rfl) rfl rfl ?_
    refine WL.q (y_move rfl) (Wt.yes rfl rfl rfl) rfl rfl ?_
    refine WL.q (y_move rfl) (Wt.yes rfl rfl rfl) rfl rfl ?_
    replace h := bindS h
    obtain ⟨x33, hx33, h⟩ := h
    refine WL.q (y_indexAddr e37 rfl (Le.refl _) rfl (idx_nonneg hx33) (idx_row E56_eq hx33) rfl) (Wt.yes rfl rfl rfl) rfl rfl ?_
    refine WL.q (y_loadc rfl a56 rfl) (Wt.yes rfl rfl rfl) rfl rfl ?_
    refine WL.q (y_len_map E2 x33 e56 rfl rfl (Le.refl _)) (Wt.yes rfl rfl rfl) rfl rfl ?_
    refine WL.q (y_lss rfl rfl) (Wt.yes rfl rfl rfl) rfl rfl ?_
    refine WL.q (y_pick_t rfl rfl) (Wt.none rfl) rfl rfl ?_
    obtain rfl := Option.some.inj h
    exact WL.nil ⟨rfl, [_, _, _, _, _, _, _, _], rfl, rfl, rfl⟩
  · intro hg19
    have h := condF hb32 hg19
    refine WL.skips 7 rfl ?_
    refine WL.q (y_pick_f rfl rfl) (Wt.none rfl) rfl rfl ?_
    obtain rfl := Option.some.inj h
    exact WL.nil ⟨rfl, [_, _, _, _, _, _, _, _], rfl, rfl, rfl⟩
  refine WL.q (y_assign rfl) (Wt.none rfl) rfl rfl ?_
  refine WL.nil ?_
  refine we_seq ?_
  refine wc_ret ?_
  obtain rfl := Option.some.inj h
  exact we_ret_fn (rs1 rfl (rv_t rfl)) (Le.refl _)

theorem f41_c (e0 : CE) (lets1 : Int) {r : Bool} (h : f41 e0 lets1 = some r) : Pu Try.prog 41 [.ag (R26 e0), .i .u64 lets1] (.b r) := by
  unfold f41 at h
  refine fn_intro Try.func41 (by kernel_rfl) rfl rfl rfl (fun φφ ww => ?_)
  refine wc_seq ?_
  refine wc_region ?_
  refine WL.s ((b_boxd rfl rfl (Les.refl _)).does) (Wt.none rfl) rfl rfl ?_
  refine WL.q (y_assign rfl) (Wt.none rfl) rfl rfl ?_
  refine WL.nil ?_
  refine we_seq ?_
  refine wc_seq ?_
  refine wc_region ?_
  refine WL.q (y_loadcN rfl a26 s26 rfl) (Wt.none rfl) rfl rfl ?_
  refine WL.s ((b_alloc z26).does) (Wt.none rfl) rfl rfl ?_
  refine WL.s0 (d_store rfl rfl rfl rfl rfl rfl s26 rfl rfl) (Wt.none rfl) rfl ?_
  refine WL.q (y_assign rfl) (Wt.none rfl) rfl rfl ?_
  refine WL.nil ?_
  refine we_seq ?_
  replace h := letkS h
  obtain ⟨k161, hk161, h⟩ := h
  refine wc_cut (fun env' st' => ∃ (ok153 : Bool), ∃ (c01154 : Int), ∃ (c02155 : Int), ∃ (c03156 : Int), ∃ (c04157 : Int), ∃ (c05158 : Int), ∃ (c06159 : Int), ∃ (c07160 : Int), k161 ok153 c01154 c02155 c03156 c04157 c05158 c06159 c07160 = some r ∧ Sub [(2, .d (.pc (R26 e0))), (5, .pt 0 0), (6, .d (D.b ok153))] env' ∧ SLe st' [.row 26 [.d (D.i .u8 e0.kind), .d (D.i .u8 c01154), .d (D.i .i64 c02155), .d (D.i .i64 c03156), .d (D.i .i64 c04157), .d (D.i .i64 c05158), .d (D.i .i64 c06159), .d (D.i .i64 c07160), .d (.sl (List.map E26 e0.l))]]) ?_ ?_
  · refine wc_seq ?_
    refine wc_region ?_
    refine WL.q (y_fieldAddrc f26_0 rfl) (Wt.none rfl) rfl rfl ?_
    refine WL.q (y_loadc rfl a22 rfl) (Wt.none rfl) rfl rfl ?_
    refine WL.nil ?_
    refine we_seq ?_
    refine wc_block ?_
    refine wc_seq ?_
    refine wc_region ?_
    refine WL.q (y_eql rfl rfl) (Wt.none rfl) rfl rfl ?_
    refine WL.q (y_assign rfl) (Wt.none rfl) rfl rfl ?_
    refine WL.nil ?_
    refine we_seq ?_
    refine wc_cond rfl (fun hc1 => ?_) (fun hc1 => ?_)
    · replace h := condT h hc1
      refine wc_region ?_
      refine WL.q (y_fieldAddrc f26_2 rfl) (Wt.none rfl) rfl rfl ?_
      refine WL.q (y_loadc rfl a2 rfl) (Wt.none rfl) rfl rfl ?_
      refine WL.fn rfl rfl rfl rfl (f61_c _) ⟨(Le.refl _), trivial⟩ (Wt.none rfl) rfl rfl ?_
      refine WL.q (y_assign rfl) (Wt.none rfl) rfl rfl ?_
      refine WL.q (y_fieldAddr f26_2 rfl) (Wt.none rfl) rfl rfl ?_
      refine WL.s0 (d_store rfl rfl rfl rfl rfl rfl s2 rfl rfl) (Wt.none rfl) rfl ?_
      refine WL.nil ?_
      refine we_blk ?_
      exact we_lp ⟨(f61 e0.n), e0.op, 0, e0.o, e0.off, e0.len, e0.lo, e0.hi, h, (Sub.cons rfl (Le.refl _) (Sub.cons rfl (Le.refl _) (Sub.cons rfl (Le.refl _) (Sub.nil _)))), ⟨⟨rfl, ⟨(Le.refl _), (Le.refl _), (Le.refl _), (Le.refl _), (Le.refl _), (Le.refl _), (Le.refl _), (Le.refl _), (Le.refl _), trivial⟩⟩, trivial⟩⟩
    · replace h := condF h hc1
      refine wc_seq ?_
      refine wc_region ?_
      refine WL.q (y_eql rfl rfl) (Wt.none rfl) rfl rfl ?_
      refine WL.q (y_assign rfl) (Wt.none rfl) rfl rfl ?_
      refine WL.nil ?_
      refine we_seq ?_
      refine wc_cond rfl (fun hc2 => ?_) (fun hc2 => ?_)
      · replace h := condT h hc2
        refine wc_region ?_
        refine WL.q (y_fieldAddrc f26_3 rfl) (Wt.none rfl) rfl rfl ?_
        refine WL.q (y_loadc rfl a3 rfl) (Wt.none rfl) rfl rfl ?_
        refine WL.fn rfl rfl rfl rfl (f43_c _) ⟨(Le.refl _), trivial⟩ (Wt.none rfl) rfl rfl ?_
        refine WL.q (y_move rfl) (Wt.none rfl) rfl rfl ?_
        apply WL.and 4 (t := 21) (d := 25)
        · exact rfl
        · intro hg21
          refine WL.q (y_fieldAddrc f26_4 rfl) (Wt.yes rfl rfl rfl) rfl rfl ?_
          refine WL.q (y_loadc rfl a3 rfl) (Wt.yes rfl rfl rfl) rfl rfl ?_
          refine WL.fn rfl rfl rfl rfl (f44_c _ _) ⟨(Le.refl _), (Le.refl _), trivial⟩ (Wt.yes rfl rfl rfl) rfl rfl ?_
          refine WL.q (y_pick_t rfl rfl) (Wt.none rfl) rfl rfl ?_
          exact WL.nil ⟨rfl, [_, _, _, _], rfl, rfl, rfl⟩
        · refine WL.skips 3 rfl ?_
          refine WL.q (y_pick_f rfl rfl) (Wt.none rfl) rfl rfl ?_
          exact WL.nil ⟨rfl, [_, _, _, _], rfl, rfl, rfl⟩
        refine WL.q (y_assign rfl) (Wt.none rfl) rfl rfl ?_
        refine WL.q (y_fieldAddr f26_3 rfl) (Wt.none rfl) rfl rfl ?_
        refine WL.s0 (d_store rfl rfl rfl rfl rfl rfl s3 rfl rfl) (Wt.none rfl) rfl ?_
        refine WL.q (y_fieldAddr f26_4 rfl) (Wt.none rfl) rfl rfl ?_
        refine WL.s0 (d_store rfl rfl rfl rfl rfl rfl s3 rfl rfl) (Wt.none rfl) rfl ?_
        refine WL.nil ?_
        refine we_blk ?_
        exact we_lp ⟨((f43 e0.o) && (f44 e0.off 1)), e0.op, e0.n, 0, 0, e0.len, e0.lo, e0.hi, h, (Sub.cons rfl (Le.refl _) (Sub.cons rfl (Le.refl _) (Sub.cons rfl (Le.refl _) (Sub.nil _)))), ⟨⟨rfl, ⟨(Le.refl _), (Le.refl _), (Le.refl _), (Le.refl _), (Le.refl _), (Le.refl _), (Le.refl _), (Le.refl _), (Le.refl _), trivial⟩⟩, trivial⟩⟩
      · replace h := condF h hc2
        refine wc_seq ?_
        refine wc_region ?_
        refine WL.q (y_eql rfl rfl) (Wt.none rfl) rfl rfl ?_
        refine WL.q (y_assign rfl) (Wt.none rfl) rfl rfl ?_
        refine WL.nil ?_
        refine we_seq ?_
        refine wc_cond rfl (fun hc3 => ?_) (fun hc3 => ?_)
        · replace h := condT h hc3
          refine wc_region ?_
          refine WL.q (y_fieldAddrc f26_3 rfl) (Wt.none rfl) rfl rfl ?_
          refine WL.q (y_loadc rfl a3 rfl) (Wt.none rfl) rfl rfl ?_
          refine WL.fn rfl rfl rfl rfl (f43_c _) ⟨(Le.refl _), trivial⟩ (Wt.none rfl) rfl rfl ?_
          refine WL.q (y_move rfl) (Wt.none rfl) rfl rfl ?_
          apply WL.and 6 (t := 33) (d := 39)
          · exact rfl
          · intro hg33
            refine WL.q (y_fieldAddrc f26_4 rfl) (Wt.yes rfl rfl rfl) rfl rfl ?_
            refine WL.q (y_loadc rfl a3 rfl) (Wt.yes rfl rfl rfl) rfl rfl ?_
            refine WL.q (y_fieldAddrc f26_5 rfl) (Wt.yes rfl rfl rfl) rfl rfl ?_
            refine WL.q (y_loadc rfl a3 rfl) (Wt.yes rfl rfl rfl) rfl rfl ?_
            refine WL.fn rfl rfl rfl rfl (f44_c _ _) ⟨(Le.refl _), (Le.refl _), trivial⟩ (Wt.yes rfl rfl rfl) rfl rfl ?_
            refine WL.q (y_pick_t rfl rfl) (Wt.none rfl) rfl rfl ?_
            exact WL.nil ⟨rfl, [_, _, _, _, _, _], rfl, rfl, rfl⟩
          · refine WL.skips 5 rfl ?_
            refine WL.q (y_pick_f rfl rfl) (Wt.none rfl) rfl rfl ?_
            exact WL.nil ⟨rfl, [_, _, _, _, _, _], rfl, rfl, rfl⟩
          refine WL.q (y_assign rfl) (Wt.none rfl) rfl rfl ?_
          refine WL.q (y_fieldAddr f26_3 rfl) (Wt.none rfl) rfl rfl ?_
          refine WL.s0 (d_store rfl rfl rfl rfl rfl rfl s3 rfl rfl) (Wt.none rfl) rfl ?_
          refine WL.q (y_fieldAddr f26_4 rfl) (Wt.none rfl) rfl rfl ?_
          refine WL.s0 (d_store rfl rfl rfl rfl rfl rfl s3 rfl rfl) (Wt.none rfl) rfl ?_
          refine WL.q (y_fieldAddr f26_5 rfl) (Wt.none rfl) rfl rfl ?_
          refine WL.s0 (d_store rfl rfl rfl rfl rfl rfl s3 rfl rfl) (Wt.none rfl) rfl ?_
          refine WL.nil ?_
          refine we_blk ?_
          exact we_lp ⟨((f43 e0.o) && (f44 e0.off e0.len)), e0.op, e0.n, 0, 0, 0, e0.lo, e0.hi, h, (Sub.cons rfl (Le.refl _) (Sub.cons rfl (Le.refl _) (Sub.cons rfl (Le.refl _) (Sub.nil _)))), ⟨⟨rfl, ⟨(Le.refl _), (Le.refl _), (Le.refl _), (Le.refl _), (Le.refl _), (Le.refl _), (Le.refl _), (Le.refl _), (Le.refl _), trivial⟩⟩, trivial⟩⟩
        · replace h := condF h hc3
          refine wc_seq ?_
          refine wc_region ?_
          refine WL.q (y_eql rfl rfl) (Wt.none rfl) rfl rfl ?_
          refine WL.q (y_assign rfl) (Wt.none rfl) rfl rfl ?_
          refine WL.nil ?_
          refine we_seq ?_
          refine wc_cond rfl (fun hc4 => ?_) (fun hc4 => ?_)
          · replace h := condT h hc4
            refine wc_region ?_
            refine WL.s ((NewOs.b (n_buildSlice l94 z23 rfl (by decide) (by decide) rfl rfl rfl (by decide))).does) (Wt.none rfl) rfl rfl ?_
            refine WL.q (y_fieldAddrc f26_1 rfl) (Wt.none rfl) rfl rfl ?_
            refine WL.q (y_loadc rfl a23 rfl) (Wt.none rfl) rfl rfl ?_
            refine WL.freezeX [45] [] 1 (List.map E23 [16, 17, 18]) rfl (encA_map E23_eq [16, 17, 18]) ⟨rfl, trivial⟩ trivial ?_
            replace h := bindS h
            obtain ⟨r162, hr162, h⟩ := h
            refine WL.fn rfl rfl rfl rfl (f62_c _ _ hr162) ⟨(Le.refl _), (Le.refl _), trivial⟩ (Wt.none rfl) rfl rfl ?_
            refine WL.q (y_assign rfl) (Wt.none rfl) rfl rfl ?_
            refine WL.q (y_fieldAddr f26_1 rfl) (Wt.none rfl) rfl rfl ?_
            refine WL.s0 (d_store rfl rfl rfl rfl rfl rfl s23 rfl rfl) (Wt.none rfl) rfl ?_
            refine WL.nil ?_
            refine we_blk ?_
            refine WE.drop 1 (env' := [(2, .d (.pc (R26 e0))), (5, .pt 0 0), (6, .d (D.b r162))]) (Sub.one rfl (Sub.one rfl (Sub.one rfl (Sub.nil _)))) rfl rfl (Nat.zero_le _) ?_
            exact we_lp ⟨r162, 0, e0.n, e0.o, e0.off, e0.len, e0.lo, e0.hi, h, (Sub.cons rfl (Le.refl _) (Sub.cons rfl (Le.refl _) (Sub.cons rfl (Le.refl _) (Sub.nil _)))), ⟨⟨rfl, ⟨(Le.refl _), (Le.refl _), (Le.refl _), (Le.refl _), (Le.refl _), (Le.refl _), (Le.refl _), (Le.refl _), (Le.refl _), trivial⟩⟩, trivial⟩⟩
          · replace h := condF h hc4
            refine wc_seq ?_
            refine wc_region ?_
            refine WL.q (y_eql rfl rfl) (Wt.none rfl) rfl rfl ?_
            refine WL.q (y_assign rfl) (Wt.none rfl) rfl rfl ?_
            refine WL.nil ?_
            refine we_seq ?_
            refine wc_cond rfl (fun hc5 => ?_) (fun hc5 => ?_)
            · replace h := condT h hc5
              refine wc_region ?_
              refine WL.q (y_fieldAddrc f26_1 rfl) (Wt.none rfl) rfl rfl ?_
              refine WL.q (y_loadc rfl a23 rfl) (Wt.none rfl) rfl rfl ?_
              refine WL.q (y_geq rfl rfl) (Wt.none rfl) rfl rfl ?_
              refine WL.q (y_move rfl) (Wt.none rfl) rfl rfl ?_
              apply WL.and 4 (t := 55) (d := 59)
              · exact rfl
              · intro hg55
                refine WL.q (y_fieldAddrc f26_1 rfl) (Wt.yes rfl rfl rfl) rfl rfl ?_
                refine WL.q (y_loadc rfl a23 rfl) (Wt.yes rfl rfl rfl) rfl rfl ?_
                refine WL.q (y_leq rfl rfl) (Wt.yes rfl rfl rfl) rfl rfl ?_
                refine WL.q (y_pick_t rfl rfl) (Wt.none rfl) rfl rfl ?_
                exact WL.nil ⟨rfl, [_, _, _, _], rfl, rfl, rfl⟩
              · refine WL.skips 3 rfl ?_
                refine WL.q (y_pick_f rfl rfl) (Wt.none rfl) rfl rfl ?_
                exact WL.nil ⟨rfl, [_, _, _, _], rfl, rfl, rfl⟩
              refine WL.q (y_assign rfl) (Wt.none rfl) rfl rfl ?_
              refine WL.q (y_fieldAddr f26_1 rfl) (Wt.none rfl) rfl rfl ?_
              refine WL.s0 (d_store rfl rfl rfl rfl rfl rfl s23 rfl rfl) (Wt.none rfl) rfl ?_
              refine WL.nil ?_
              refine we_blk ?_
              exact we_lp ⟨((decide (e0.op ≥ 1)) && (decide (e0.op ≤ 15))), 0, e0.n, e0.o, e0.off, e0.len, e0.lo, e0.hi, h, (Sub.cons rfl (Le.refl _) (Sub.cons rfl (Le.refl _) (Sub.cons rfl (Le.refl _) (Sub.nil _)))), ⟨⟨rfl, ⟨(Le.refl _), (Le.refl _), (Le.refl _), (Le.refl _), (Le.refl _), (Le.refl _), (Le.refl _), (Le.refl _), (Le.refl _), trivial⟩⟩, trivial⟩⟩
            · replace h := condF h hc5
              refine wc_seq ?_
              refine wc_region ?_
              refine WL.q (y_eql rfl rfl) (Wt.none rfl) rfl rfl ?_
              refine WL.q (y_assign rfl) (Wt.none rfl) rfl rfl ?_
              refine WL.nil ?_
              refine we_seq ?_
              refine wc_cond rfl (fun hc6 => ?_) (fun hc6 => ?_)
              · replace h := condT h hc6
                refine wc_region ?_
                refine WL.q (y_fieldAddrc f26_6 rfl) (Wt.none rfl) rfl rfl ?_
                refine WL.q (y_loadc rfl a2 rfl) (Wt.none rfl) rfl rfl ?_
                refine WL.fn rfl rfl rfl rfl (f61_c _) ⟨(Le.refl _), trivial⟩ (Wt.none rfl) rfl rfl ?_
                refine WL.q (y_move rfl) (Wt.none rfl) rfl rfl ?_
                apply WL.and 4 (t := 66) (d := 70)
                · exact rfl
                · intro hg66
                  refine WL.q (y_fieldAddrc f26_7 rfl) (Wt.yes rfl rfl rfl) rfl rfl ?_
                  refine WL.q (y_loadc rfl a2 rfl) (Wt.yes rfl rfl rfl) rfl rfl ?_
                  refine WL.fn rfl rfl rfl rfl (f61_c _) ⟨(Le.refl _), trivial⟩ (Wt.yes rfl rfl rfl) rfl rfl ?_
                  refine WL.q (y_pick_t rfl rfl) (Wt.none rfl) rfl rfl ?_
                  exact WL.nil ⟨rfl, [_, _, _, _], rfl, rfl, rfl⟩
                · refine WL.skips 3 rfl ?_
                  refine WL.q (y_pick_f rfl rfl) (Wt.none rfl) rfl rfl ?_
                  exact WL.nil ⟨rfl, [_, _, _, _], rfl, rfl, rfl⟩
                refine WL.q (y_move rfl) (Wt.none rfl) rfl rfl ?_
                apply WL.and 6 (t := 71) (d := 77)
                · exact rfl
                · intro hg71
                  refine WL.q (y_fieldAddrc f26_6 rfl) (Wt.yes rfl rfl rfl) rfl rfl ?_
                  refine WL.q (y_loadc rfl a2 rfl) (Wt.yes rfl rfl rfl) rfl rfl ?_
                  refine WL.q (y_fieldAddrc f26_7 rfl) (Wt.yes rfl rfl rfl) rfl rfl ?_
                  refine WL.q (y_loadc rfl a2 rfl) (Wt.yes rfl rfl rfl) rfl rfl ?_
                  refine WL.q (y_leq rfl rfl) (Wt.yes rfl rfl rfl) rfl rfl ?_
                  refine WL.q (y_pick_t rfl rfl) (Wt.none rfl) rfl rfl ?_
                  exact WL.nil ⟨rfl, [_, _, _, _, _, _], rfl, rfl, rfl⟩
                · refine WL.skips 5 rfl ?_
                  refine WL.q (y_pick_f rfl rfl) (Wt.none rfl) rfl rfl ?_
                  exact WL.nil ⟨rfl, [_, _, _, _, _, _], rfl, rfl, rfl⟩
                refine WL.q (y_assign rfl) (Wt.none rfl) rfl rfl ?_
                refine WL.q (y_fieldAddr f26_6 rfl) (Wt.none rfl) rfl rfl ?_
                refine WL.s0 (d_store rfl rfl rfl rfl rfl rfl s2 rfl rfl) (Wt.none rfl) rfl ?_
                refine WL.q (y_fieldAddr f26_7 rfl) (Wt.none rfl) rfl rfl ?_
                refine WL.s0 (d_store rfl rfl rfl rfl rfl rfl s2 rfl rfl) (Wt.none rfl) rfl ?_
                refine WL.nil ?_
                refine we_blk ?_
                exact we_lp ⟨(((f61 e0.lo) && (f61 e0.hi)) && (decide (e0.lo ≤ e0.hi))), e0.op, e0.n, e0.o, e0.off, e0.len, 0, 0, h, (Sub.cons rfl (Le.refl _) (Sub.cons rfl (Le.refl _) (Sub.cons rfl (Le.refl _) (Sub.nil _)))), ⟨⟨rfl, ⟨(Le.refl _), (Le.refl _), (Le.refl _), (Le.refl _), (Le.refl _), (Le.refl _), (Le.refl _), (Le.refl _), (Le.refl _), trivial⟩⟩, trivial⟩⟩
              · replace h := condF h hc6
                refine wc_seq ?_
                refine wc_region ?_
                refine WL.q (y_eql rfl rfl) (Wt.none rfl) rfl rfl ?_
                refine WL.q (y_assign rfl) (Wt.none rfl) rfl rfl ?_
                refine WL.nil ?_
                refine we_seq ?_
                refine wc_cond rfl (fun hc7 => ?_) (fun hc7 => ?_)
                · replace h := condT h hc7
                  refine wc_region ?_
                  refine WL.q (y_fieldAddrc f26_2 rfl) (Wt.none rfl) rfl rfl ?_
                  refine WL.q (y_loadc rfl a2 rfl) (Wt.none rfl) rfl rfl ?_
                  refine WL.q (y_geq rfl rfl) (Wt.none rfl) rfl rfl ?_
                  refine WL.q (y_move rfl) (Wt.none rfl) rfl rfl ?_
                  apply WL.and 6 (t := 85) (d := 91)
                  · exact rfl
                  · intro hg85
                    refine WL.q (y_fieldAddrc f26_2 rfl) (Wt.yes rfl rfl rfl) rfl rfl ?_
                    refine WL.q (y_loadc rfl a2 rfl) (Wt.yes rfl rfl rfl) rfl rfl ?_
                    refine WL.q (y_conv Try.underlying2 Try.underlying69 rfl rfl) (Wt.yes rfl rfl rfl) rfl rfl ?_
                    refine WL.q (y_move rfl) (Wt.yes rfl rfl rfl) rfl rfl ?_
                    refine WL.q (y_lss rfl rfl) (Wt.yes rfl rfl rfl) rfl rfl ?_
                    refine WL.q (y_pick_t rfl rfl) (Wt.none rfl) rfl rfl ?_
                    exact WL.nil ⟨rfl, [_, _, _, _, _, _], rfl, rfl, rfl⟩
                  · refine WL.skips 5 rfl ?_
                    refine WL.q (y_pick_f rfl rfl) (Wt.none rfl) rfl rfl ?_
                    exact WL.nil ⟨rfl, [_, _, _, _, _, _], rfl, rfl, rfl⟩
                  refine WL.q (y_assign rfl) (Wt.none rfl) rfl rfl ?_
                  refine WL.q (y_fieldAddr f26_2 rfl) (Wt.none rfl) rfl rfl ?_
                  refine WL.s0 (d_store rfl rfl rfl rfl rfl rfl s2 rfl rfl) (Wt.none rfl) rfl ?_
                  refine WL.nil ?_
                  refine we_blk ?_
                  exact we_lp ⟨((decide (e0.n ≥ 0)) && (decide ((IntKind.u64.wrap e0.n) < lets1))), e0.op, 0, e0.o, e0.off, e0.len, e0.lo, e0.hi, h, (Sub.cons rfl (Le.refl _) (Sub.cons rfl (Le.refl _) (Sub.cons rfl (Le.refl _) (Sub.nil _)))), ⟨⟨rfl, ⟨(Le.refl _), (Le.refl _), (Le.refl _), (Le.refl _), (Le.refl _), (Le.refl _), (Le.refl _), (Le.refl _), (Le.refl _), trivial⟩⟩, trivial⟩⟩
                · replace h := condF h hc7
                  refine wc_seq ?_
                  refine wc_region ?_
                  refine WL.q (y_eql rfl rfl) (Wt.none rfl) rfl rfl ?_
                  refine WL.q (y_assign rfl) (Wt.none rfl) rfl rfl ?_
                  refine WL.nil ?_
                  refine we_seq ?_
                  refine wc_cond rfl (fun hc8 => ?_) (fun hc8 => ?_)
                  · replace h := condT h hc8
                    refine wc_region ?_
                    refine WL.q (y_fieldAddrc f26_3 rfl) (Wt.none rfl) rfl rfl ?_
                    refine WL.q (y_loadc rfl a3 rfl) (Wt.none rfl) rfl rfl ?_
                    refine WL.fn rfl rfl rfl rfl (f43_c _) ⟨(Le.refl _), trivial⟩ (Wt.none rfl) rfl rfl ?_
                    refine WL.q (y_assign rfl) (Wt.none rfl) rfl rfl ?_
                    refine WL.q (y_fieldAddr f26_3 rfl) (Wt.none rfl) rfl rfl ?_
                    refine WL.s0 (d_store rfl rfl rfl rfl rfl rfl s3 rfl rfl) (Wt.none rfl) rfl ?_
                    refine WL.nil ?_
                    refine we_blk ?_
                    exact we_lp ⟨(f43 e0.o), e0.op, e0.n, 0, e0.off, e0.len, e0.lo, e0.hi, h, (Sub.cons rfl (Le.refl _) (Sub.cons rfl (Le.refl _) (Sub.cons rfl (Le.refl _) (Sub.nil _)))), ⟨⟨rfl, ⟨(Le.refl _), (Le.refl _), (Le.refl _), (Le.refl _), (Le.refl _), (Le.refl _), (Le.refl _), (Le.refl _), (Le.refl _), trivial⟩⟩, trivial⟩⟩
                  · replace h := condF h hc8
                    refine wc_seq ?_
                    refine wc_region ?_
                    refine WL.q (y_eql rfl rfl) (Wt.none rfl) rfl rfl ?_
                    refine WL.q (y_assign rfl) (Wt.none rfl) rfl rfl ?_
                    refine WL.nil ?_
                    refine we_seq ?_
                    refine wc_cond rfl (fun hc9 => ?_) (fun hc9 => ?_)
                    · replace h := condT h hc9
                      refine wc_region ?_
                      refine WL.q (y_fieldAddrc f26_2 rfl) (Wt.none rfl) rfl rfl ?_
                      refine WL.q (y_loadc rfl a2 rfl) (Wt.none rfl) rfl rfl ?_
                      refine WL.fn rfl rfl rfl rfl (f63_c _ _ _) ⟨(Le.refl _), (Le.refl _), (Le.refl _), trivial⟩ (Wt.none rfl) rfl rfl ?_
                      refine WL.q (y_assign rfl) (Wt.none rfl) rfl rfl ?_
                      refine WL.q (y_fieldAddr f26_2 rfl) (Wt.none rfl) rfl rfl ?_
                      refine WL.s0 (d_store rfl rfl rfl rfl rfl rfl s2 rfl rfl) (Wt.none rfl) rfl ?_
                      refine WL.nil ?_
                      refine we_blk ?_
                      exact we_lp ⟨(f63 e0.n 0 7), e0.op, 0, e0.o, e0.off, e0.len, e0.lo, e0.hi, h, (Sub.cons rfl (Le.refl _) (Sub.cons rfl (Le.refl _) (Sub.cons rfl (Le.refl _) (Sub.nil _)))), ⟨⟨rfl, ⟨(Le.refl _), (Le.refl _), (Le.refl _), (Le.refl _), (Le.refl _), (Le.refl _), (Le.refl _), (Le.refl _), (Le.refl _), trivial⟩⟩, trivial⟩⟩
                    · replace h := condF h hc9
                      refine wc_skip ?_
                      refine we_blk ?_
                      exact we_lp ⟨true, e0.op, e0.n, e0.o, e0.off, e0.len, e0.lo, e0.hi, h, (Sub.cons rfl (Le.refl _) (Sub.cons rfl (Le.refl _) (Sub.cons rfl (Le.refl _) (Sub.nil _)))), ⟨⟨rfl, ⟨(Le.refl _), (Le.refl _), (Le.refl _), (Le.refl _), (Le.refl _), (Le.refl _), (Le.refl _), (Le.refl _), (Le.refl _), trivial⟩⟩, trivial⟩⟩
  · rintro env1 st1 ⟨ok153, c01154, c02155, c03156, c04157, c05158, c06159, c07160, h, hsub, hst⟩
    subst hk161
    dsimp only at h
    refine WC.sub hsub (WC.weak hst ?_)
    refine wc_seq ?_
    refine wc_region_draw (by kernel_rfl) (by kernel_rfl) ?_
    refine WQ.q (Yields.quiet (y_move rfl)) (Wt.none rfl) rfl rfl ?_
    refine WQ.q (Yields.quiet (y_move rfl)) (Wt.none rfl) rfl rfl ?_
    replace h := bindS h
    obtain ⟨b163, hb163, h⟩ := h
    apply WQ.grp 8 (t := 106) (d := 114) (z := b163)
    · exact rfl
    · intro hg106
      have h := condT hb163 hg106
      refine WQ.q (Yields.quiet (y_fieldAddrc f26_8 rfl)) (Wt.yes rfl rfl rfl) rfl rfl ?_
      refine WQ.q (Yields.quiet (y_loadc rfl a24 rfl)) (Wt.yes rfl rfl rfl) rfl rfl ?_
      refine WQ.q (Yields.quiet (y_len_map E26 e0.l e24 rfl rfl (Le.refl _))) (Wt.yes rfl rfl rfl) rfl rfl ?_
      refine WQ.q (Yields.quiet (y_fieldAddrc f26_0 rfl)) (Wt.yes rfl rfl rfl) rfl rfl ?_
      refine WQ.q (Yields.quiet (y_loadc rfl a22 rfl)) (Wt.yes rfl rfl rfl) rfl rfl ?_
      replace h := bindS h
      obtain ⟨r164, hr164, h⟩ := h
      refine WQ.q (YieldsQ.fn rfl rfl rfl rfl rfl (f64_c _ hr164) ⟨(Le.refl _), trivial⟩) (Wt.yes rfl rfl rfl) rfl rfl ?_
      refine WQ.q (Yields.quiet (y_eql rfl rfl)) (Wt.yes rfl rfl rfl) rfl rfl ?_
      refine WQ.q (Yields.quiet (y_pick_t rfl rfl)) (Wt.none rfl) rfl rfl ?_
      obtain rfl := Option.some.inj h
      exact WQ.nil ⟨[_, _, _, _, _, _, _, _], rfl, rfl, rfl⟩
    · intro hg106
      have h := condF hb163 hg106
      refine WQ.skips 7 rfl ?_
      refine WQ.q (Yields.quiet (y_pick_f rfl rfl)) (Wt.none rfl) rfl rfl ?_
      obtain rfl := Option.some.inj h
      exact WQ.nil ⟨[_, _, _, _, _, _, _, _], rfl, rfl, rfl⟩
    refine WQ.q (Yields.quiet (y_move rfl)) (Wt.none rfl) rfl rfl ?_
    apply WQ.and 4 (t := 115) (d := 119)
    · exact rfl
    · intro hg115
      refine WQ.q (Yields.quiet (y_fieldAddr f26_1 rfl)) (Wt.yes rfl rfl rfl) rfl rfl ?_
      refine WQ.q (Yields.quiet (y_load rfl rfl a23 rfl)) (Wt.yes rfl rfl rfl) rfl rfl ?_
      refine WQ.q (Yields.quiet (y_eql rfl rfl)) (Wt.yes rfl rfl rfl) rfl rfl ?_
      refine WQ.q (Yields.quiet (y_pick_t rfl rfl)) (Wt.none rfl) rfl rfl ?_
      exact WQ.nil ⟨[_, _, _, _], rfl, rfl, rfl⟩
    · refine WQ.skips 3 rfl ?_
      refine WQ.q (Yields.quiet (y_pick_f rfl rfl)) (Wt.none rfl) rfl rfl ?_
      exact WQ.nil ⟨[_, _, _, _], rfl, rfl, rfl⟩
    refine WQ.q (Yields.quiet (y_move rfl)) (Wt.none rfl) rfl rfl ?_
    apply WQ.and 4 (t := 120) (d := 124)
    · exact rfl
    · intro hg120
      refine WQ.q (Yields.quiet (y_fieldAddr f26_2 rfl)) (Wt.yes rfl rfl rfl) rfl rfl ?_
      refine WQ.q (Yields.quiet (y_load rfl rfl a2 rfl)) (Wt.yes rfl rfl rfl) rfl rfl ?_
      refine WQ.q (Yields.quiet (y_eql rfl rfl)) (Wt.yes rfl rfl rfl) rfl rfl ?_
      refine WQ.q (Yields.quiet (y_pick_t rfl rfl)) (Wt.none rfl) rfl rfl ?_
      exact WQ.nil ⟨[_, _, _, _], rfl, rfl, rfl⟩
    · refine WQ.skips 3 rfl ?_
      refine WQ.q (Yields.quiet (y_pick_f rfl rfl)) (Wt.none rfl) rfl rfl ?_
      exact WQ.nil ⟨[_, _, _, _], rfl, rfl, rfl⟩
    refine WQ.q (Yields.quiet (y_move rfl)) (Wt.none rfl) rfl rfl ?_
    apply WQ.and 4 (t := 125) (d := 129)
    · exact rfl
    · intro hg125
      refine WQ.q (Yields.quiet (y_fieldAddr f26_3 rfl)) (Wt.yes rfl rfl rfl) rfl rfl ?_
      refine WQ.q (Yields.quiet (y_load rfl rfl a3 rfl)) (Wt.yes rfl rfl rfl) rfl rfl ?_
      refine WQ.q (Yields.quiet (y_eql rfl rfl)) (Wt.yes rfl rfl rfl) rfl rfl ?_
      refine WQ.q (Yields.quiet (y_pick_t rfl rfl)) (Wt.none rfl) rfl rfl ?_
      exact WQ.nil ⟨[_, _, _, _], rfl, rfl, rfl⟩
    · refine WQ.skips 3 rfl ?_
      refine WQ.q (Yields.quiet (y_pick_f rfl rfl)) (Wt.none rfl) rfl rfl ?_
      exact WQ.nil ⟨[_, _, _, _], rfl, rfl, rfl⟩
    refine WQ.q (Yields.quiet (y_move rfl)) (Wt.none rfl) rfl rfl ?_
    apply WQ.and 4 (t := 130) (d := 134)
    · exact rfl
    · intro hg130
      refine WQ.q (Yields.quiet (y_fieldAddr f26_4 rfl)) (Wt.yes rfl rfl rfl) rfl rfl ?_
      refine WQ.q (Yields.quiet (y_load rfl rfl a3 rfl)) (Wt.yes rfl rfl rfl) rfl rfl ?_
      refine WQ.q (Yields.quiet (y_eql rfl rfl)) (Wt.yes rfl rfl rfl) rfl rfl ?_
      refine WQ.q (Yields.quiet (y_pick_t rfl rfl)) (Wt.none rfl) rfl rfl ?_
      exact WQ.nil ⟨[_, _, _, _], rfl, rfl, rfl⟩
    · refine WQ.skips 3 rfl ?_
      refine WQ.q (Yields.quiet (y_pick_f rfl rfl)) (Wt.none rfl) rfl rfl ?_
      exact WQ.nil ⟨[_, _, _, _], rfl, rfl, rfl⟩
    refine WQ.q (Yields.quiet (y_move rfl)) (Wt.none rfl) rfl rfl ?_
    apply WQ.and 4 (t := 135) (d := 139)
    · exact rfl
    · intro hg135
      refine WQ.q (Yields.quiet (y_fieldAddr f26_5 rfl)) (Wt.yes rfl rfl rfl) rfl rfl ?_
      refine WQ.q (Yields.quiet (y_load rfl rfl a3 rfl)) (Wt.yes rfl rfl rfl) rfl rfl ?_
      refine WQ.q (Yields.quiet (y_eql rfl rfl)) (Wt.yes rfl rfl rfl) rfl rfl ?_
      refine WQ.q (Yields.quiet (y_pick_t rfl rfl)) (Wt.none rfl) rfl rfl ?_
      exact WQ.nil ⟨[_, _, _, _], rfl, rfl, rfl⟩
    · refine WQ.skips 3 rfl ?_
      refine WQ.q (Yields.quiet (y_pick_f rfl rfl)) (Wt.none rfl) rfl rfl ?_
      exact WQ.nil ⟨[_, _, _, _], rfl, rfl, rfl⟩
    refine WQ.q (Yields.quiet (y_move rfl)) (Wt.none rfl) rfl rfl ?_
    apply WQ.and 4 (t := 140) (d := 144)
    · exact rfl
    · intro hg140
      refine WQ.q (Yields.quiet (y_fieldAddr f26_6 rfl)) (Wt.yes rfl rfl rfl) rfl rfl ?_
      refine WQ.q (Yields.quiet (y_load rfl rfl a2 rfl)) (Wt.yes rfl rfl rfl) rfl rfl ?_
      refine WQ.q (Yields.quiet (y_eql rfl rfl)) (Wt.yes rfl rfl rfl) rfl rfl ?_
      refine WQ.q (Yields.quiet (y_pick_t rfl rfl)) (Wt.none rfl) rfl rfl ?_
      exact WQ.nil ⟨[_, _, _, _], rfl, rfl, rfl⟩
    · refine WQ.skips 3 rfl ?_
      refine WQ.q (Yields.quiet (y_pick_f rfl rfl)) (Wt.none rfl) rfl rfl ?_
      exact WQ.nil ⟨[_, _, _, _], rfl, rfl, rfl⟩
    refine WQ.q (Yields.quiet (y_move rfl)) (Wt.none rfl) rfl rfl ?_
    apply WQ.and 4 (t := 145) (d := 149)
    · exact rfl
    · intro hg145
      refine WQ.q (Yields.quiet (y_fieldAddr f26_7 rfl)) (Wt.yes rfl rfl rfl) rfl rfl ?_
      refine WQ.q (Yields.quiet (y_load rfl rfl a2 rfl)) (Wt.yes rfl rfl rfl) rfl rfl ?_
      refine WQ.q (Yields.quiet (y_eql rfl rfl)) (Wt.yes rfl rfl rfl) rfl rfl ?_
      refine WQ.q (Yields.quiet (y_pick_t rfl rfl)) (Wt.none rfl) rfl rfl ?_
      exact WQ.nil ⟨[_, _, _, _], rfl, rfl, rfl⟩
    · refine WQ.skips 3 rfl ?_
      refine WQ.q (Yields.quiet (y_pick_f rfl rfl)) (Wt.none rfl) rfl rfl ?_
      exact WQ.nil ⟨[_, _, _, _], rfl, rfl, rfl⟩
    refine WQ.q (Yields.quiet (y_assign rfl)) (Wt.none rfl) rfl rfl ?_
    refine WQ.nil ?_
    refine we_seq ?_
    refine wc_ret ?_
    obtain rfl := Option.some.inj h
    exact we_ret_fn (rs1 rfl (rv_t rfl)) (Le.refl _)

theorem f88_c (e0 : CE) (op1 : Bool) (n2 : Bool) (o3 : Bool) (off4 : Bool) (long5 : Bool) (bounds6 : Bool) : Pu Try.prog 88 [.ag (R26 e0), .b op1, .b n2, .b o3, .b off4, .b long5, .b bounds6] (.b (f88 e0 op1 n2 o3 off4 long5 bounds6)) := by
  generalize h : f88 e0 op1 n2 o3 off4 long5 bounds6 = r
  unfold f88 at h
  refine fn_intro Try.func88 (by kernel_rfl) rfl rfl rfl (fun φφ ww => ?_)
  refine wc_seq ?_
  refine wc_region ?_
  refine WL.s ((b_boxd rfl rfl (Les.refl _)).does) (Wt.none rfl) rfl rfl ?_
  refine WL.q (y_assign rfl) (Wt.none rfl) rfl rfl ?_
  refine WL.nil ?_
  refine we_seq ?_
  refine wc_seq ?_
  refine wc_region ?_
  refine WL.q (y_move rfl) (Wt.none rfl) rfl rfl ?_
  refine WL.q (y_move rfl) (Wt.none rfl) rfl rfl ?_
  apply WL.or 4 (t := 17) (d := 21)
  · exact rfl
  · intro hg17
    refine WL.q (y_fieldAddrc f26_1 rfl) (Wt.yes rfl rfl rfl) rfl rfl ?_
    refine WL.q (y_loadc rfl a23 rfl) (Wt.yes rfl rfl rfl) rfl rfl ?_
    refine WL.q (y_eql rfl rfl) (Wt.yes rfl rfl rfl) rfl rfl ?_
    refine WL.q (y_pick_f rfl rfl) (Wt.none rfl) rfl rfl ?_
    exact WL.nil ⟨rfl, [_, _, _, _], rfl, rfl, rfl⟩
  · refine WL.skips 3 rfl ?_
    refine WL.q (y_pick_t rfl rfl) (Wt.none rfl) rfl rfl ?_
    exact WL.nil ⟨rfl, [_, _, _, _], rfl, rfl, rfl⟩
  refine WL.q (y_move rfl) (Wt.none rfl) rfl rfl ?_
  apply WL.and 7 (t := 22) (d := 29)
  · exact rfl
  · intro hg22
    refine WL.q (y_move rfl) (Wt.yes rfl rfl rfl) rfl rfl ?_
    refine WL.q (y_move rfl) (Wt.yes rfl rfl rfl) rfl rfl ?_
    apply WL.or 4 (t := 24) (d := 28)
    · exact rfl
    · intro hg24
      refine WL.q (y_fieldAddrc f26_2 rfl) (Wt.yes rfl rfl rfl) rfl rfl ?_
      refine WL.q (y_loadc rfl a2 rfl) (Wt.yes rfl rfl rfl) rfl rfl ?_
      refine WL.q (y_eql rfl rfl) (Wt.yes rfl rfl rfl) rfl rfl ?_
      refine WL.q (y_pick_f rfl rfl) (Wt.yes rfl rfl rfl) rfl rfl ?_
      exact WL.nil ⟨rfl, [_, _, _, _], rfl, rfl, rfl⟩
    · refine WL.skips 3 rfl ?_
      refine WL.q (y_pick_t rfl rfl) (Wt.yes rfl rfl rfl) rfl rfl ?_
      exact WL.nil ⟨rfl, [_, _, _, _], rfl, rfl, rfl⟩
    refine WL.q (y_pick_t rfl rfl) (Wt.none rfl) rfl rfl ?_
    exact WL.nil ⟨rfl, [_, _, _, _], rfl, rfl, rfl⟩
  · refine WL.skips 6 rfl ?_
    refine WL.q (y_pick_f rfl rfl) (Wt.none rfl) rfl rfl ?_
    exact WL.nil ⟨rfl, [_, _, _, _, _, _, _], rfl, rfl, rfl⟩
  refine WL.q (y_move rfl) (Wt.none rfl) rfl rfl ?_
  apply WL.and 7 (t := 30) (d := 37)
  · exact rfl
  · intro hg30
    refine WL.q (y_move rfl) (Wt.yes rfl rfl rfl) rfl rfl ?_
    refine WL.q (y_move rfl) (Wt.yes rfl rfl rfl) rfl rfl ?_
    apply WL.or 4 (t := 32) (d := 36)
    · exact rfl
    · intro hg32
      refine WL.q (y_fieldAddrc f26_3 rfl) (Wt.yes rfl rfl rfl) rfl rfl ?_
      refine WL.q (y_loadc rfl a3 rfl) (Wt.yes rfl rfl rfl) rfl rfl ?_
      refine WL.q (y_eql rfl rfl) (Wt.yes rfl rfl rfl) rfl rfl ?_
      refine WL.q (y_pick_f rfl rfl) (Wt.yes rfl rfl rfl) rfl rfl ?_
      exact WL.nil ⟨rfl, [_, _, _, _], rfl, rfl, rfl⟩
    · refine WL.skips 3 rfl ?_
      refine WL.q (y_pick_t rfl rfl) (Wt.yes rfl rfl rfl) rfl rfl ?_
      exact WL.nil ⟨rfl, [_, _, _, _], rfl, rfl, rfl⟩
    refine WL.q (y_pick_t rfl rfl) (Wt.none rfl) rfl rfl ?_
    exact WL.nil ⟨rfl, [_, _, _, _], rfl, rfl, rfl⟩
  · refine WL.skips 6 rfl ?_
    refine WL.q (y_pick_f rfl rfl) (Wt.none rfl) rfl rfl ?_
    exact WL.nil ⟨rfl, [_, _, _, _, _, _, _], rfl, rfl, rfl⟩
  refine WL.q (y_move rfl) (Wt.none rfl) rfl rfl ?_
  apply WL.and 7 (t := 38) (d := 45)
  · exact rfl
  · intro hg38
    refine WL.q (y_move rfl) (Wt.yes rfl rfl rfl) rfl rfl ?_
    refine WL.q (y_move rfl) (Wt.yes rfl rfl rfl) rfl rfl ?_
    apply WL.or 4 (t := 40) (d := 44)
    · exact rfl
    · intro hg40
      refine WL.q (y_fieldAddrc f26_4 rfl) (Wt.yes rfl rfl rfl) rfl rfl ?_
      refine WL.q (y_loadc rfl a3 rfl) (Wt.yes rfl rfl rfl) rfl rfl ?_
      refine WL.q (y_eql rfl rfl) (Wt.yes rfl rfl rfl) rfl rfl ?_
      refine WL.q (y_pick_f rfl rfl) (Wt.yes rfl rfl rfl) rfl rfl ?_
      exact WL.nil ⟨rfl, [_, _, _, _], rfl, rfl, rfl⟩
    · refine WL.skips 3 rfl ?_
      refine WL.q (y_pick_t rfl rfl) (Wt.yes rfl rfl rfl) rfl rfl ?_
      exact WL.nil ⟨rfl, [_, _, _, _], rfl, rfl, rfl⟩
    refine WL.q (y_pick_t rfl rfl) (Wt.none rfl) rfl rfl ?_
    exact WL.nil ⟨rfl, [_, _, _, _], rfl, rfl, rfl⟩
  · refine WL.skips 6 rfl ?_
    refine WL.q (y_pick_f rfl rfl) (Wt.none rfl) rfl rfl ?_
    exact WL.nil ⟨rfl, [_, _, _, _, _, _, _], rfl, rfl, rfl⟩
  refine WL.q (y_assign rfl) (Wt.none rfl) rfl rfl ?_
  refine WL.nil ?_
  refine we_seq ?_
  refine wc_seq ?_
  refine wc_region ?_
  refine WL.q (y_move rfl) (Wt.none rfl) rfl rfl ?_
  refine WL.q (y_move rfl) (Wt.none rfl) rfl rfl ?_
  apply WL.and 7 (t := 47) (d := 54)
  · exact rfl
  · intro hg47
    refine WL.q (y_move rfl) (Wt.yes rfl rfl rfl) rfl rfl ?_
    refine WL.q (y_move rfl) (Wt.yes rfl rfl rfl) rfl rfl ?_
    apply WL.or 4 (t := 49) (d := 53)
    · exact rfl
    · intro hg49
      refine WL.q (y_fieldAddrc f26_5 rfl) (Wt.yes rfl rfl rfl) rfl rfl ?_
      refine WL.q (y_loadc rfl a3 rfl) (Wt.yes rfl rfl rfl) rfl rfl ?_
      refine WL.q (y_eql rfl rfl) (Wt.yes rfl rfl rfl) rfl rfl ?_
      refine WL.q (y_pick_f rfl rfl) (Wt.yes rfl rfl rfl) rfl rfl ?_
      exact WL.nil ⟨rfl, [_, _, _, _], rfl, rfl, rfl⟩
    · refine WL.skips 3 rfl ?_
      refine WL.q (y_pick_t rfl rfl) (Wt.yes rfl rfl rfl) rfl rfl ?_
      exact WL.nil ⟨rfl, [_, _, _, _], rfl, rfl, rfl⟩
    refine WL.q (y_pick_t rfl rfl) (Wt.none rfl) rfl rfl ?_
    exact WL.nil ⟨rfl, [_, _, _, _], rfl, rfl, rfl⟩
  · refine WL.skips 6 rfl ?_
    refine WL.q (y_pick_f rfl rfl) (Wt.none rfl) rfl rfl ?_
    exact WL.nil ⟨rfl, [_, _, _, _, _, _, _], rfl, rfl, rfl⟩
  refine WL.q (y_move rfl) (Wt.none rfl) rfl rfl ?_
  apply WL.and 12 (t := 55) (d := 67)
  · exact rfl
  · intro hg55
    refine WL.q (y_move rfl) (Wt.yes rfl rfl rfl) rfl rfl ?_
    refine WL.q (y_move rfl) (Wt.yes rfl rfl rfl) rfl rfl ?_
    apply WL.or 9 (t := 57) (d := 66)
    · exact rfl
    · intro hg57
      refine WL.q (y_fieldAddrc f26_6 rfl) (Wt.yes rfl rfl rfl) rfl rfl ?_
      refine WL.q (y_loadc rfl a2 rfl) (Wt.yes rfl rfl rfl) rfl rfl ?_
      refine WL.q (y_eql rfl rfl) (Wt.yes rfl rfl rfl) rfl rfl ?_
      refine WL.q (y_move rfl) (Wt.yes rfl rfl rfl) rfl rfl ?_
      apply WL.and 4 (t := 61) (d := 65)
      · exact rfl
      · intro hg61
        refine WL.q (y_fieldAddrc f26_7 rfl) (Wt.yes rfl rfl rfl) rfl rfl ?_
        refine WL.q (y_loadc rfl a2 rfl) (Wt.yes rfl rfl rfl) rfl rfl ?_
        refine WL.q (y_eql rfl rfl) (Wt.yes rfl rfl rfl) rfl rfl ?_
        refine WL.q (y_pick_t rfl rfl) (Wt.yes rfl rfl rfl) rfl rfl ?_
        exact WL.nil ⟨rfl, [_, _, _, _], rfl, rfl, rfl⟩
      · refine WL.skips 3 rfl ?_
        refine WL.q (y_pick_f rfl rfl) (Wt.yes rfl rfl rfl) rfl rfl ?_
        exact WL.nil ⟨rfl, [_, _, _, _], rfl, rfl, rfl⟩
      refine WL.q (y_pick_f rfl rfl) (Wt.yes rfl rfl rfl) rfl rfl ?_
      exact WL.nil ⟨rfl, [_, _, _, _, _, _], rfl, rfl, rfl⟩
    · refine WL.skips 8 rfl ?_
      refine WL.q (y_pick_t rfl rfl) (Wt.yes rfl rfl rfl) rfl rfl ?_
      exact WL.nil ⟨rfl, [_, _, _, _, _, _, _, _, _], rfl, rfl, rfl⟩
    refine WL.q (y_pick_t rfl rfl) (Wt.none rfl) rfl rfl ?_
    exact WL.nil ⟨rfl, [_, _, _, _], rfl, rfl, rfl⟩
  · refine WL.skips 11 rfl ?_
    refine WL.q (y_pick_f rfl rfl) (Wt.none rfl) rfl rfl ?_
    exact WL.nil ⟨rfl, [_, _, _, _, _, _, _, _, _, _, _, _], rfl, rfl, rfl⟩
  refine WL.q (y_assign rfl) (Wt.none rfl) rfl rfl ?_
  refine WL.nil ?_
  refine we_seq ?_
  refine wc_ret ?_
  subst h
  exact we_ret_fn (rs1 rfl (rv_t rfl)) (Le.refl _)

theorem f65_c (e0 : CE) (lets1 : Int) : Pu Try.prog 65 [.ag (R26 e0), .i .u64 lets1] (.b (f65 e0 lets1)) := by
  generalize h : f65 e0 lets1 = r
  unfold f65 at h
  refine fn_intro Try.func65 (by kernel_rfl) rfl rfl rfl (fun φφ ww => ?_)
  refine wc_seq ?_
  refine wc_region ?_
  refine WL.s ((b_boxd rfl rfl (Les.refl _)).does) (Wt.none rfl) rfl rfl ?_
  refine WL.q (y_assign rfl) (Wt.none rfl) rfl rfl ?_
  refine WL.nil ?_
  refine we_seq ?_
  refine wc_seq ?_
  refine wc_region ?_
  refine WL.q (y_fieldAddrc f26_8 rfl) (Wt.none rfl) rfl rfl ?_
  refine WL.q (y_loadc rfl a24 rfl) (Wt.none rfl) rfl rfl ?_
  refine WL.q (y_len_map E26 e0.l e24 rfl rfl (Le.refl _)) (Wt.none rfl) rfl rfl ?_
  refine WL.q (y_assign rfl) (Wt.none rfl) rfl rfl ?_
  refine WL.nil ?_
  refine we_seq ?_
  refine wc_seq ?_
  refine wc_seq ?_
  refine wc_region ?_
  refine WL.q (y_fieldAddrc f26_0 rfl) (Wt.none rfl) rfl rfl ?_
  refine WL.q (y_loadc rfl a22 rfl) (Wt.none rfl) rfl rfl ?_
  refine WL.nil ?_
  refine we_seq ?_
  refine wc_block ?_
  refine wc_seq ?_
  refine wc_region ?_
  refine WL.q (y_eql rfl rfl) (Wt.none rfl) rfl rfl ?_
  refine WL.q (y_assign rfl) (Wt.none rfl) rfl rfl ?_
  refine WL.nil ?_
  refine we_seq ?_
  refine wc_cond rfl (fun hc1 => ?_) (fun hc1 => ?_)
  · replace h := condT h hc1
    refine wc_seq ?_
    refine wc_region ?_
    refine WL.q (y_loadcN rfl a26 s26 rfl) (Wt.none rfl) rfl rfl ?_
    refine WL.fn rfl rfl rfl rfl (f88_c _ _ _ _ _ _ _) ⟨(Le.refl _), (Le.refl _), (Le.refl _), (Le.refl _), (Le.refl _), (Le.refl _), (Le.refl _), trivial⟩ (Wt.none rfl) rfl rfl ?_
    refine WL.q (y_move rfl) (Wt.none rfl) rfl rfl ?_
    apply WL.and 3 (t := 15) (d := 18)
    · exact rfl
    · intro hg15
      refine WL.q (y_move rfl) (Wt.yes rfl rfl rfl) rfl rfl ?_
      refine WL.q (y_eql rfl rfl) (Wt.yes rfl rfl rfl) rfl rfl ?_
      refine WL.q (y_pick_t rfl rfl) (Wt.none rfl) rfl rfl ?_
      exact WL.nil ⟨rfl, [_, _, _], rfl, rfl, rfl⟩
    · refine WL.skips 2 rfl ?_
      refine WL.q (y_pick_f rfl rfl) (Wt.none rfl) rfl rfl ?_
      exact WL.nil ⟨rfl, [_, _, _], rfl, rfl, rfl⟩
    refine WL.q (y_move rfl) (Wt.none rfl) rfl rfl ?_
    apply WL.and 4 (t := 19) (d := 23)
    · exact rfl
    · intro hg19
      refine WL.q (y_fieldAddrc f26_2 rfl) (Wt.yes rfl rfl rfl) rfl rfl ?_
      refine WL.q (y_loadc rfl a2 rfl) (Wt.yes rfl rfl rfl) rfl rfl ?_
      refine WL.fn rfl rfl rfl rfl (f81_c _) ⟨(Le.refl _), trivial⟩ (Wt.yes rfl rfl rfl) rfl rfl ?_
      refine WL.q (y_pick_t rfl rfl) (Wt.none rfl) rfl rfl ?_
      exact WL.nil ⟨rfl, [_, _, _, _], rfl, rfl, rfl⟩
    · refine WL.skips 3 rfl ?_
      refine WL.q (y_pick_f rfl rfl) (Wt.none rfl) rfl rfl ?_
      exact WL.nil ⟨rfl, [_, _, _, _], rfl, rfl, rfl⟩
    refine WL.q (y_assign rfl) (Wt.none rfl) rfl rfl ?_
    refine WL.nil ?_
    refine we_seq ?_
    refine wc_ret ?_
    refine we_blk_ret ?_
    refine we_seq_ret ?_
    subst h
    exact we_ret_fn (rs1 rfl (rv_t rfl)) (Le.refl _)
  · replace h := condF h hc1
    refine wc_seq ?_
    refine wc_region ?_
    refine WL.q (y_eql rfl rfl) (Wt.none rfl) rfl rfl ?_
    refine WL.q (y_assign rfl) (Wt.none rfl) rfl rfl ?_
    refine WL.nil ?_
    refine we_seq ?_
    refine wc_cond rfl (fun hc2 => ?_) (fun hc2 => ?_)
    · replace h := condT h hc2
      refine wc_seq ?_
      refine wc_region ?_
      refine WL.q (y_loadcN rfl a26 s26 rfl) (Wt.none rfl) rfl rfl ?_
      refine WL.fn rfl rfl rfl rfl (f88_c _ _ _ _ _ _ _) ⟨(Le.refl _), (Le.refl _), (Le.refl _), (Le.refl _), (Le.refl _), (Le.refl _), (Le.refl _), trivial⟩ (Wt.none rfl) rfl rfl ?_
      refine WL.q (y_move rfl) (Wt.none rfl) rfl rfl ?_
      apply WL.and 3 (t := 28) (d := 31)
      · exact rfl
      · intro hg28
        refine WL.q (y_move rfl) (Wt.yes rfl rfl rfl) rfl rfl ?_
        refine WL.q (y_eql rfl rfl) (Wt.yes rfl rfl rfl) rfl rfl ?_
        refine WL.q (y_pick_t rfl rfl) (Wt.none rfl) rfl rfl ?_
        exact WL.nil ⟨rfl, [_, _, _], rfl, rfl, rfl⟩
      · refine WL.skips 2 rfl ?_
        refine WL.q (y_pick_f rfl rfl) (Wt.none rfl) rfl rfl ?_
        exact WL.nil ⟨rfl, [_, _, _], rfl, rfl, rfl⟩
      refine WL.q (y_move rfl) (Wt.none rfl) rfl rfl ?_
      apply WL.and 4 (t := 32) (d := 36)
      · exact rfl
      · intro hg32
        refine WL.q (y_fieldAddrc f26_3 rfl) (Wt.yes rfl rfl rfl) rfl rfl ?_
        refine WL.q (y_loadc rfl a3 rfl) (Wt.yes rfl rfl rfl) rfl rfl ?_
        refine WL.fn rfl rfl rfl rfl (f45_c _) ⟨(Le.refl _), trivial⟩ (Wt.yes rfl rfl rfl) rfl rfl ?_
        refine WL.q (y_pick_t rfl rfl) (Wt.none rfl) rfl rfl ?_
        exact WL.nil ⟨rfl, [_, _, _, _], rfl, rfl, rfl⟩
      · refine WL.skips 3 rfl ?_
        refine WL.q (y_pick_f rfl rfl) (Wt.none rfl) rfl rfl ?_
        exact WL.nil ⟨rfl, [_, _, _, _], rfl, rfl, rfl⟩
      refine WL.q (y_move rfl) (Wt.none rfl) rfl rfl ?_
      apply WL.and 4 (t := 37) (d := 41)
      · exact rfl
      · intro hg37
        refine WL.q (y_fieldAddrc f26_4 rfl) (Wt.yes rfl rfl rfl) rfl rfl ?_
        refine WL.q (y_loadc rfl a3 rfl) (Wt.yes rfl rfl rfl) rfl rfl ?_
        refine WL.fn rfl rfl rfl rfl (f46_c _ _) ⟨(Le.refl _), (Le.refl _), trivial⟩ (Wt.yes rfl rfl rfl) rfl rfl ?_
        refine WL.q (y_pick_t rfl rfl) (Wt.none rfl) rfl rfl ?_
        exact WL.nil ⟨rfl, [_, _, _, _], rfl, rfl, rfl⟩
      · refine WL.skips 3 rfl ?_
        refine WL.q (y_pick_f rfl rfl) (Wt.none rfl) rfl rfl ?_
        exact WL.nil ⟨rfl, [_, _, _, _], rfl, rfl, rfl⟩
      refine WL.q (y_assign rfl) (Wt.none rfl) rfl rfl ?_
      refine WL.nil ?_
      refine we_seq ?_
      refine wc_ret ?_
      refine we_blk_ret ?_
      refine we_seq_ret ?_
      subst h
      exact we_ret_fn (rs1 rfl (rv_t rfl)) (Le.refl _)
    · replace h := condF h hc2
      refine wc_seq ?_
      refine wc_region ?_
      refine WL.q (y_eql rfl rfl) (Wt.none rfl) rfl rfl ?_
      refine WL.q (y_assign rfl) (Wt.none rfl) rfl rfl ?_
      refine WL.nil ?_
      refine we_seq ?_
      refine wc_cond rfl (fun hc3 => ?_) (fun hc3 => ?_)
      · replace h := condT h hc3
        refine wc_seq ?_
        refine wc_region ?_
        refine WL.q (y_loadcN rfl a26 s26 rfl) (Wt.none rfl) rfl rfl ?_
        refine WL.fn rfl rfl rfl rfl (f88_c _ _ _ _ _ _ _) ⟨(Le.refl _), (Le.refl _), (Le.refl _), (Le.refl _), (Le.refl _), (Le.refl _), (Le.refl _), trivial⟩ (Wt.none rfl) rfl rfl ?_
        refine WL.q (y_move rfl) (Wt.none rfl) rfl rfl ?_
        apply WL.and 3 (t := 46) (d := 49)
        · exact rfl
        · intro hg46
          refine WL.q (y_move rfl) (Wt.yes rfl rfl rfl) rfl rfl ?_
          refine WL.q (y_eql rfl rfl) (Wt.yes rfl rfl rfl) rfl rfl ?_
          refine WL.q (y_pick_t rfl rfl) (Wt.none rfl) rfl rfl ?_
          exact WL.nil ⟨rfl, [_, _, _], rfl, rfl, rfl⟩
        · refine WL.skips 2 rfl ?_
          refine WL.q (y_pick_f rfl rfl) (Wt.none rfl) rfl rfl ?_
          exact WL.nil ⟨rfl, [_, _, _], rfl, rfl, rfl⟩
        refine WL.q (y_move rfl) (Wt.none rfl) rfl rfl ?_
        apply WL.and 4 (t := 50) (d := 54)
        · exact rfl
        · intro hg50
          refine WL.q (y_fieldAddrc f26_3 rfl) (Wt.yes rfl rfl rfl) rfl rfl ?_
          refine WL.q (y_loadc rfl a3 rfl) (Wt.yes rfl rfl rfl) rfl rfl ?_
          refine WL.fn rfl rfl rfl rfl (f45_c _) ⟨(Le.refl _), trivial⟩ (Wt.yes rfl rfl rfl) rfl rfl ?_
          refine WL.q (y_pick_t rfl rfl) (Wt.none rfl) rfl rfl ?_
          exact WL.nil ⟨rfl, [_, _, _, _], rfl, rfl, rfl⟩
        · refine WL.skips 3 rfl ?_
          refine WL.q (y_pick_f rfl rfl) (Wt.none rfl) rfl rfl ?_
          exact WL.nil ⟨rfl, [_, _, _, _], rfl, rfl, rfl⟩
        refine WL.q (y_move rfl) (Wt.none rfl) rfl rfl ?_
        apply WL.and 6 (t := 55) (d := 61)
        · exact rfl
        · intro hg55
          refine WL.q (y_fieldAddrc f26_4 rfl) (Wt.yes rfl rfl rfl) rfl rfl ?_
          refine WL.q (y_loadc rfl a3 rfl) (Wt.yes rfl rfl rfl) rfl rfl ?_
          refine WL.q (y_fieldAddrc f26_5 rfl) (Wt.yes rfl rfl rfl) rfl rfl ?_
          refine WL.q (y_loadc rfl a3 rfl) (Wt.yes rfl rfl rfl) rfl rfl ?_
          refine WL.fn rfl rfl rfl rfl (f46_c _ _) ⟨(Le.refl _), (Le.refl _), trivial⟩ (Wt.yes rfl rfl rfl) rfl rfl ?_
          refine WL.q (y_pick_t rfl rfl) (Wt.none rfl) rfl rfl ?_
          exact WL.nil ⟨rfl, [_, _, _, _, _, _], rfl, rfl, rfl⟩
        · refine WL.skips 5 rfl ?_
          refine WL.q (y_pick_f rfl rfl) (Wt.none rfl) rfl rfl ?_
          exact WL.nil ⟨rfl, [_, _, _, _, _, _], rfl, rfl, rfl⟩
        refine WL.q (y_assign rfl) (Wt.none rfl) rfl rfl ?_
        refine WL.nil ?_
        refine we_seq ?_
        refine wc_ret ?_
        refine we_blk_ret ?_
        refine we_seq_ret ?_
        subst h
        exact we_ret_fn (rs1 rfl (rv_t rfl)) (Le.refl _)
      · replace h := condF h hc3
        refine wc_seq ?_
        refine wc_region ?_
        refine WL.q (y_eql rfl rfl) (Wt.none rfl) rfl rfl ?_
        refine WL.q (y_assign rfl) (Wt.none rfl) rfl rfl ?_
        refine WL.nil ?_
        refine we_seq ?_
        refine wc_cond rfl (fun hc4 => ?_) (fun hc4 => ?_)
        · replace h := condT h hc4
          refine wc_seq ?_
          refine wc_region ?_
          refine WL.q (y_loadcN rfl a26 s26 rfl) (Wt.none rfl) rfl rfl ?_
          refine WL.fn rfl rfl rfl rfl (f88_c _ _ _ _ _ _ _) ⟨(Le.refl _), (Le.refl _), (Le.refl _), (Le.refl _), (Le.refl _), (Le.refl _), (Le.refl _), trivial⟩ (Wt.none rfl) rfl rfl ?_
          refine WL.q (y_move rfl) (Wt.none rfl) rfl rfl ?_
          apply WL.and 3 (t := 66) (d := 69)
          · exact rfl
          · intro hg66
            refine WL.q (y_move rfl) (Wt.yes rfl rfl rfl) rfl rfl ?_
            refine WL.q (y_eql rfl rfl) (Wt.yes rfl rfl rfl) rfl rfl ?_
            refine WL.q (y_pick_t rfl rfl) (Wt.none rfl) rfl rfl ?_
            exact WL.nil ⟨rfl, [_, _, _], rfl, rfl, rfl⟩
          · refine WL.skips 2 rfl ?_
            refine WL.q (y_pick_f rfl rfl) (Wt.none rfl) rfl rfl ?_
            exact WL.nil ⟨rfl, [_, _, _], rfl, rfl, rfl⟩
          refine WL.q (y_move rfl) (Wt.none rfl) rfl rfl ?_
          apply WL.and 14 (t := 70) (d := 84)
          · exact rfl
          · intro hg70
            refine WL.q (y_fieldAddrc f26_1 rfl) (Wt.yes rfl rfl rfl) rfl rfl ?_
            refine WL.q (y_loadc rfl a23 rfl) (Wt.yes rfl rfl rfl) rfl rfl ?_
            refine WL.q (y_eql rfl rfl) (Wt.yes rfl rfl rfl) rfl rfl ?_
            refine WL.q (y_move rfl) (Wt.yes rfl rfl rfl) rfl rfl ?_
            apply WL.or 4 (t := 74) (d := 78)
            · exact rfl
            · intro hg74
              refine WL.q (y_fieldAddrc f26_1 rfl) (Wt.yes rfl rfl rfl) rfl rfl ?_
              refine WL.q (y_loadc rfl a23 rfl) (Wt.yes rfl rfl rfl) rfl rfl ?_
              refine WL.q (y_eql rfl rfl) (Wt.yes rfl rfl rfl) rfl rfl ?_
              refine WL.q (y_pick_f rfl rfl) (Wt.yes rfl rfl rfl) rfl rfl ?_
              exact WL.nil ⟨rfl, [_, _, _, _], rfl, rfl, rfl⟩
            · refine WL.skips 3 rfl ?_
              refine WL.q (y_pick_t rfl rfl) (Wt.yes rfl rfl rfl) rfl rfl ?_
              exact WL.nil ⟨rfl, [_, _, _, _], rfl, rfl, rfl⟩
            refine WL.q (y_move rfl) (Wt.yes rfl rfl rfl) rfl rfl ?_
            apply WL.or 4 (t := 79) (d := 83)
            · exact rfl
            · intro hg79
              refine WL.q (y_fieldAddrc f26_1 rfl) (Wt.yes rfl rfl rfl) rfl rfl ?_
              refine WL.q (y_loadc rfl a23 rfl) (Wt.yes rfl rfl rfl) rfl rfl ?_
              refine WL.q (y_eql rfl rfl) (Wt.yes rfl rfl rfl) rfl rfl ?_
              refine WL.q (y_pick_f rfl rfl) (Wt.yes rfl rfl rfl) rfl rfl ?_
              exact WL.nil ⟨rfl, [_, _, _, _], rfl, rfl, rfl⟩
            · refine WL.skips 3 rfl ?_
              refine WL.q (y_pick_t rfl rfl) (Wt.yes rfl rfl rfl) rfl rfl ?_
              exact WL.nil ⟨rfl, [_, _, _, _], rfl, rfl, rfl⟩
            refine WL.q (y_pick_t rfl rfl) (Wt.none rfl) rfl rfl ?_
            exact WL.nil ⟨rfl, [_, _, _, _, _, _, _, _], rfl, rfl, rfl⟩
          · refine WL.skips 13 rfl ?_
            refine WL.q (y_pick_f rfl rfl) (Wt.none rfl) rfl rfl ?_
            exact WL.nil ⟨rfl, [_, _, _, _, _, _, _, _, _, _, _, _, _, _], rfl, rfl, rfl⟩
          refine WL.q (y_assign rfl) (Wt.none rfl) rfl rfl ?_
          refine WL.nil ?_
          refine we_seq ?_
          refine wc_ret ?_
          refine we_blk_ret ?_
          refine we_seq_ret ?_
          subst h
          exact we_ret_fn (rs1 rfl (rv_t rfl)) (Le.refl _)
        · replace h := condF h hc4
          refine wc_seq ?_
          refine wc_region ?_
          refine WL.q (y_eql rfl rfl) (Wt.none rfl) rfl rfl ?_
          refine WL.q (y_assign rfl) (Wt.none rfl) rfl rfl ?_
          refine WL.nil ?_
          refine we_seq ?_
          refine wc_cond rfl (fun hc5 => ?_) (fun hc5 => ?_)
          · replace h := condT h hc5
            refine wc_seq ?_
            refine wc_region ?_
            refine WL.q (y_loadcN rfl a26 s26 rfl) (Wt.none rfl) rfl rfl ?_
            refine WL.fn rfl rfl rfl rfl (f88_c _ _ _ _ _ _ _) ⟨(Le.refl _), (Le.refl _), (Le.refl _), (Le.refl _), (Le.refl _), (Le.refl _), (Le.refl _), trivial⟩ (Wt.none rfl) rfl rfl ?_
            refine WL.q (y_move rfl) (Wt.none rfl) rfl rfl ?_
            apply WL.and 3 (t := 89) (d := 92)
            · exact rfl
            · intro hg89
              refine WL.q (y_move rfl) (Wt.yes rfl rfl rfl) rfl rfl ?_
              refine WL.q (y_eql rfl rfl) (Wt.yes rfl rfl rfl) rfl rfl ?_
              refine WL.q (y_pick_t rfl rfl) (Wt.none rfl) rfl rfl ?_
              exact WL.nil ⟨rfl, [_, _, _], rfl, rfl, rfl⟩
            · refine WL.skips 2 rfl ?_
              refine WL.q (y_pick_f rfl rfl) (Wt.none rfl) rfl rfl ?_
              exact WL.nil ⟨rfl, [_, _, _], rfl, rfl, rfl⟩
            refine WL.q (y_move rfl) (Wt.none rfl) rfl rfl ?_
            apply WL.and 4 (t := 93) (d := 97)
            · exact rfl
            · intro hg93
              refine WL.q (y_fieldAddrc f26_1 rfl) (Wt.yes rfl rfl rfl) rfl rfl ?_
              refine WL.q (y_loadc rfl a23 rfl) (Wt.yes rfl rfl rfl) rfl rfl ?_
              refine WL.q (y_geq rfl rfl) (Wt.yes rfl rfl rfl) rfl rfl ?_
              refine WL.q (y_pick_t rfl rfl) (Wt.none rfl) rfl rfl ?_
              exact WL.nil ⟨rfl, [_, _, _, _], rfl, rfl, rfl⟩
            · refine WL.skips 3 rfl ?_
              refine WL.q (y_pick_f rfl rfl) (Wt.none rfl) rfl rfl ?_
              exact WL.nil ⟨rfl, [_, _, _, _], rfl, rfl, rfl⟩
            refine WL.q (y_move rfl) (Wt.none rfl) rfl rfl ?_
            apply WL.and 4 (t := 98) (d := 102)
            · exact rfl
            · intro hg98
              refine WL.q (y_fieldAddrc f26_1 rfl) (Wt.yes rfl rfl rfl) rfl rfl ?_
              refine WL.q (y_loadc rfl a23 rfl) (Wt.yes rfl rfl rfl) rfl rfl ?_
              refine WL.q (y_leq rfl rfl) (Wt.yes rfl rfl rfl) rfl rfl ?_
              refine WL.q (y_pick_t rfl rfl) (Wt.none rfl) rfl rfl ?_
              exact WL.nil ⟨rfl, [_, _, _, _], rfl, rfl, rfl⟩
            · refine WL.skips 3 rfl ?_
              refine WL.q (y_pick_f rfl rfl) (Wt.none rfl) rfl rfl ?_
              exact WL.nil ⟨rfl, [_, _, _, _], rfl, rfl, rfl⟩
            refine WL.q (y_assign rfl) (Wt.none rfl) rfl rfl ?_
            refine WL.nil ?_
            refine we_seq ?_
            refine wc_ret ?_
            refine we_blk_ret ?_
            refine we_seq_ret ?_
            subst h
            exact we_ret_fn (rs1 rfl (rv_t rfl)) (Le.refl _)
          · replace h := condF h hc5
            replace h := letkS h
            obtain ⟨k209, hk209, h⟩ := h
            refine wc_cut (fun env' st' => ∃ (t208 : Bool), k209 t208 = r ∧ Sub [(1, .d (D.i .u64 lets1)), (2, .d (.pc (R26 e0))), (5, .d (D.i .i64 (List.length e0.l : Int))), (10, .d (D.i .u8 e0.kind)), (103, .d (D.b t208))] env' ∧ SLe st' []) ?_ ?_
            · refine wc_seq ?_
              refine wc_region ?_
              refine WL.q (y_eql rfl rfl) (Wt.none rfl) rfl rfl ?_
              refine WL.q (y_assign rfl) (Wt.none rfl) rfl rfl ?_
              refine WL.nil ?_
              refine we_seq ?_
              refine wc_cond rfl (fun hc6 => ?_) (fun hc6 => ?_)
              · replace h := condT h hc6
                refine wc_skip ?_
                exact we_lp ⟨(decide (e0.kind = 6)), h, (Sub.cons rfl (Le.refl _) (Sub.cons rfl (Le.refl _) (Sub.cons rfl (Le.refl _) (Sub.cons rfl (Le.refl _) (Sub.cons rfl (Le.refl _) (Sub.nil _)))))), trivial⟩
              · replace h := condF h hc6
                refine wc_seq ?_
                refine wc_region ?_
                refine WL.q (y_eql rfl rfl) (Wt.none rfl) rfl rfl ?_
                refine WL.q (y_assign rfl) (Wt.none rfl) rfl rfl ?_
                refine WL.nil ?_
                refine we_seq ?_
                refine wc_cond rfl (fun hc7 => ?_) (fun hc7 => ?_)
                · replace h := condT h hc7
                  refine wc_skip ?_
                  exact we_lp ⟨(decide (e0.kind = 7)), h, (Sub.cons rfl (Le.refl _) (Sub.cons rfl (Le.refl _) (Sub.cons rfl (Le.refl _) (Sub.cons rfl (Le.refl _) (Sub.cons rfl (Le.refl _) (Sub.nil _)))))), trivial⟩
                · replace h := condF h hc7
                  refine wc_region ?_
                  refine WL.q (y_eql rfl rfl) (Wt.none rfl) rfl rfl ?_
                  refine WL.q (y_assign rfl) (Wt.none rfl) rfl rfl ?_
                  refine WL.nil ?_
                  exact we_lp ⟨(decide (e0.kind = 10)), h, (Sub.cons rfl (Le.refl _) (Sub.cons rfl (Le.refl _) (Sub.cons rfl (Le.refl _) (Sub.cons rfl (Le.refl _) (Sub.cons rfl (Le.refl _) (Sub.nil _)))))), trivial⟩
            · rintro env1 st1 ⟨t208, h, hsub, hst⟩
              subst hk209
              dsimp only at h
              refine WC.sub hsub (WC.weak hst ?_)
              refine wc_cond rfl (fun hc8 => ?_) (fun hc8 => ?_)
              · replace h := condT h hc8
                refine wc_seq ?_
                refine wc_region ?_
                refine WL.q (y_loadcN rfl a26 s26 rfl) (Wt.none rfl) rfl rfl ?_
                refine WL.fn rfl rfl rfl rfl (f88_c _ _ _ _ _ _ _) ⟨(Le.refl _), (Le.refl _), (Le.refl _), (Le.refl _), (Le.refl _), (Le.refl _), (Le.refl _), trivial⟩ (Wt.none rfl) rfl rfl ?_
                refine WL.q (y_move rfl) (Wt.none rfl) rfl rfl ?_
                apply WL.and 3 (t := 109) (d := 112)
                · exact rfl
                · intro hg109
                  refine WL.q (y_move rfl) (Wt.yes rfl rfl rfl) rfl rfl ?_
                  refine WL.q (y_eql rfl rfl) (Wt.yes rfl rfl rfl) rfl rfl ?_
                  refine WL.q (y_pick_t rfl rfl) (Wt.none rfl) rfl rfl ?_
                  exact WL.nil ⟨rfl, [_, _, _], rfl, rfl, rfl⟩
                · refine WL.skips 2 rfl ?_
                  refine WL.q (y_pick_f rfl rfl) (Wt.none rfl) rfl rfl ?_
                  exact WL.nil ⟨rfl, [_, _, _], rfl, rfl, rfl⟩
                refine WL.q (y_assign rfl) (Wt.none rfl) rfl rfl ?_
                refine WL.nil ?_
                refine we_seq ?_
                refine wc_ret ?_
                refine we_blk_ret ?_
                refine we_seq_ret ?_
                subst h
                exact we_ret_fn (rs1 rfl (rv_t rfl)) (Le.refl _)
              · replace h := condF h hc8
                refine wc_seq ?_
                refine wc_region ?_
                refine WL.q (y_eql rfl rfl) (Wt.none rfl) rfl rfl ?_
                refine WL.q (y_assign rfl) (Wt.none rfl) rfl rfl ?_
                refine WL.nil ?_
                refine we_seq ?_
                refine wc_cond rfl (fun hc9 => ?_) (fun hc9 => ?_)
                · replace h := condT h hc9
                  refine wc_seq ?_
                  refine wc_region ?_
                  refine WL.q (y_loadcN rfl a26 s26 rfl) (Wt.none rfl) rfl rfl ?_
                  refine WL.fn rfl rfl rfl rfl (f88_c _ _ _ _ _ _ _) ⟨(Le.refl _), (Le.refl _), (Le.refl _), (Le.refl _), (Le.refl _), (Le.refl _), (Le.refl _), trivial⟩ (Wt.none rfl) rfl rfl ?_
                  refine WL.q (y_move rfl) (Wt.none rfl) rfl rfl ?_
                  apply WL.and 3 (t := 117) (d := 120)
                  · exact rfl
                  · intro hg117
                    refine WL.q (y_move rfl) (Wt.yes rfl rfl rfl) rfl rfl ?_
                    refine WL.q (y_eql rfl rfl) (Wt.yes rfl rfl rfl) rfl rfl ?_
                    refine WL.q (y_pick_t rfl rfl) (Wt.none rfl) rfl rfl ?_
                    exact WL.nil ⟨rfl, [_, _, _], rfl, rfl, rfl⟩
                  · refine WL.skips 2 rfl ?_
                    refine WL.q (y_pick_f rfl rfl) (Wt.none rfl) rfl rfl ?_
                    exact WL.nil ⟨rfl, [_, _, _], rfl, rfl, rfl⟩
                  refine WL.q (y_assign rfl) (Wt.none rfl) rfl rfl ?_
                  refine WL.nil ?_
                  refine we_seq ?_
                  refine wc_ret ?_
                  refine we_blk_ret ?_
                  refine we_seq_ret ?_
                  subst h
                  exact we_ret_fn (rs1 rfl (rv_t rfl)) (Le.refl _)
                · replace h := condF h hc9
                  refine wc_seq ?_
                  refine wc_region ?_
                  refine WL.q (y_eql rfl rfl) (Wt.none rfl) rfl rfl ?_
                  refine WL.q (y_assign rfl) (Wt.none rfl) rfl rfl ?_
                  refine WL.nil ?_
                  refine we_seq ?_
                  refine wc_cond rfl (fun hc10 => ?_) (fun hc10 => ?_)
                  · replace h := condT h hc10
                    refine wc_seq ?_
                    refine wc_region ?_
                    refine WL.q (y_loadcN rfl a26 s26 rfl) (Wt.none rfl) rfl rfl ?_
                    refine WL.fn rfl rfl rfl rfl (f88_c _ _ _ _ _ _ _) ⟨(Le.refl _), (Le.refl _), (Le.refl _), (Le.refl _), (Le.refl _), (Le.refl _), (Le.refl _), trivial⟩ (Wt.none rfl) rfl rfl ?_
                    refine WL.q (y_move rfl) (Wt.none rfl) rfl rfl ?_
                    apply WL.and 3 (t := 125) (d := 128)
                    · exact rfl
                    · intro hg125
                      refine WL.q (y_move rfl) (Wt.yes rfl rfl rfl) rfl rfl ?_
                      refine WL.q (y_eql rfl rfl) (Wt.yes rfl rfl rfl) rfl rfl ?_
                      refine WL.q (y_pick_t rfl rfl) (Wt.none rfl) rfl rfl ?_
                      exact WL.nil ⟨rfl, [_, _, _], rfl, rfl, rfl⟩
                    · refine WL.skips 2 rfl ?_
                      refine WL.q (y_pick_f rfl rfl) (Wt.none rfl) rfl rfl ?_
                      exact WL.nil ⟨rfl, [_, _, _], rfl, rfl, rfl⟩
                    refine WL.q (y_move rfl) (Wt.none rfl) rfl rfl ?_
                    apply WL.and 4 (t := 129) (d := 133)
                    · exact rfl
                    · intro hg129
                      refine WL.q (y_fieldAddrc f26_6 rfl) (Wt.yes rfl rfl rfl) rfl rfl ?_
                      refine WL.q (y_loadc rfl a2 rfl) (Wt.yes rfl rfl rfl) rfl rfl ?_
                      refine WL.fn rfl rfl rfl rfl (f81_c _) ⟨(Le.refl _), trivial⟩ (Wt.yes rfl rfl rfl) rfl rfl ?_
                      refine WL.q (y_pick_t rfl rfl) (Wt.none rfl) rfl rfl ?_
                      exact WL.nil ⟨rfl, [_, _, _, _], rfl, rfl, rfl⟩
                    · refine WL.skips 3 rfl ?_
                      refine WL.q (y_pick_f rfl rfl) (Wt.none rfl) rfl rfl ?_
                      exact WL.nil ⟨rfl, [_, _, _, _], rfl, rfl, rfl⟩
                    refine WL.q (y_move rfl) (Wt.none rfl) rfl rfl ?_
                    apply WL.and 4 (t := 134) (d := 138)
                    · exact rfl
                    · intro hg134
                      refine WL.q (y_fieldAddrc f26_7 rfl) (Wt.yes rfl rfl rfl) rfl rfl ?_
                      refine WL.q (y_loadc rfl a2 rfl) (Wt.yes rfl rfl rfl) rfl rfl ?_
                      refine WL.fn rfl rfl rfl rfl (f81_c _) ⟨(Le.refl _), trivial⟩ (Wt.yes rfl rfl rfl) rfl rfl ?_
                      refine WL.q (y_pick_t rfl rfl) (Wt.none rfl) rfl rfl ?_
                      exact WL.nil ⟨rfl, [_, _, _, _], rfl, rfl, rfl⟩
                    · refine WL.skips 3 rfl ?_
                      refine WL.q (y_pick_f rfl rfl) (Wt.none rfl) rfl rfl ?_
                      exact WL.nil ⟨rfl, [_, _, _, _], rfl, rfl, rfl⟩
                    refine WL.q (y_move rfl) (Wt.none rfl) rfl rfl ?_
                    apply WL.and 6 (t := 139) (d := 145)
                    · exact rfl
                    · intro hg139
                      refine WL.q (y_fieldAddrc f26_6 rfl) (Wt.yes rfl rfl rfl) rfl rfl ?_
                      refine WL.q (y_loadc rfl a2 rfl) (Wt.yes rfl rfl rfl) rfl rfl ?_
                      refine WL.q (y_fieldAddrc f26_7 rfl) (Wt.yes rfl rfl rfl) rfl rfl ?_
                      refine WL.q (y_loadc rfl a2 rfl) (Wt.yes rfl rfl rfl) rfl rfl ?_
                      refine WL.q (y_leq rfl rfl) (Wt.yes rfl rfl rfl) rfl rfl ?_
                      refine WL.q (y_pick_t rfl rfl) (Wt.none rfl) rfl rfl ?_
                      exact WL.nil ⟨rfl, [_, _, _, _, _, _], rfl, rfl, rfl⟩
                    · refine WL.skips 5 rfl ?_
                      refine WL.q (y_pick_f rfl rfl) (Wt.none rfl) rfl rfl ?_
                      exact WL.nil ⟨rfl, [_, _, _, _, _, _], rfl, rfl, rfl⟩
                    refine WL.q (y_assign rfl) (Wt.none rfl) rfl rfl ?_
                    refine WL.nil ?_
                    refine we_seq ?_
                    refine wc_ret ?_
                    refine we_blk_ret ?_
                    refine we_seq_ret ?_
                    subst h
                    exact we_ret_fn (rs1 rfl (rv_t rfl)) (Le.refl _)
                  · replace h := condF h hc10
                    refine wc_seq ?_
                    refine wc_region ?_
                    refine WL.q (y_eql rfl rfl) (Wt.none rfl) rfl rfl ?_
                    refine WL.q (y_assign rfl) (Wt.none rfl) rfl rfl ?_
                    refine WL.nil ?_
                    refine we_seq ?_
                    refine wc_cond rfl (fun hc11 => ?_) (fun hc11 => ?_)
                    · replace h := condT h hc11
                      refine wc_seq ?_
                      refine wc_region ?_
                      refine WL.q (y_loadcN rfl a26 s26 rfl) (Wt.none rfl) rfl rfl ?_
                      refine WL.fn rfl rfl rfl rfl (f88_c _ _ _ _ _ _ _) ⟨(Le.refl _), (Le.refl _), (Le.refl _), (Le.refl _), (Le.refl _), (Le.refl _), (Le.refl _), trivial⟩ (Wt.none rfl) rfl rfl ?_
                      refine WL.q (y_move rfl) (Wt.none rfl) rfl rfl ?_
                      apply WL.and 3 (t := 150) (d := 153)
                      · exact rfl
                      · intro hg150
                        refine WL.q (y_move rfl) (Wt.yes rfl rfl rfl) rfl rfl ?_
                        refine WL.q (y_eql rfl rfl) (Wt.yes rfl rfl rfl) rfl rfl ?_
                        refine WL.q (y_pick_t rfl rfl) (Wt.none rfl) rfl rfl ?_
                        exact WL.nil ⟨rfl, [_, _, _], rfl, rfl, rfl⟩
                      · refine WL.skips 2 rfl ?_
                        refine WL.q (y_pick_f rfl rfl) (Wt.none rfl) rfl rfl ?_
                        exact WL.nil ⟨rfl, [_, _, _], rfl, rfl, rfl⟩
                      refine WL.q (y_move rfl) (Wt.none rfl) rfl rfl ?_
                      apply WL.and 4 (t := 154) (d := 158)
                      · exact rfl
                      · intro hg154
                        refine WL.q (y_fieldAddrc f26_2 rfl) (Wt.yes rfl rfl rfl) rfl rfl ?_
                        refine WL.q (y_loadc rfl a2 rfl) (Wt.yes rfl rfl rfl) rfl rfl ?_
                        refine WL.q (y_geq rfl rfl) (Wt.yes rfl rfl rfl) rfl rfl ?_
                        refine WL.q (y_pick_t rfl rfl) (Wt.none rfl) rfl rfl ?_
                        exact WL.nil ⟨rfl, [_, _, _, _], rfl, rfl, rfl⟩
                      · refine WL.skips 3 rfl ?_
                        refine WL.q (y_pick_f rfl rfl) (Wt.none rfl) rfl rfl ?_
                        exact WL.nil ⟨rfl, [_, _, _, _], rfl, rfl, rfl⟩
                      refine WL.q (y_move rfl) (Wt.none rfl) rfl rfl ?_
                      apply WL.and 6 (t := 159) (d := 165)
                      · exact rfl
                      · intro hg159
                        refine WL.q (y_fieldAddrc f26_2 rfl) (Wt.yes rfl rfl rfl) rfl rfl ?_
                        refine WL.q (y_loadc rfl a2 rfl) (Wt.yes rfl rfl rfl) rfl rfl ?_
                        refine WL.q (y_conv Try.underlying2 Try.underlying69 rfl rfl) (Wt.yes rfl rfl rfl) rfl rfl ?_
                        refine WL.q (y_move rfl) (Wt.yes rfl rfl rfl) rfl rfl ?_
                        refine WL.q (y_lss rfl rfl) (Wt.yes rfl rfl rfl) rfl rfl ?_
                        refine WL.q (y_pick_t rfl rfl) (Wt.none rfl) rfl rfl ?_
                        exact WL.nil ⟨rfl, [_, _, _, _, _, _], rfl, rfl, rfl⟩
                      · refine WL.skips 5 rfl ?_
                        refine WL.q (y_pick_f rfl rfl) (Wt.none rfl) rfl rfl ?_
                        exact WL.nil ⟨rfl, [_, _, _, _, _, _], rfl, rfl, rfl⟩
                      refine WL.q (y_assign rfl) (Wt.none rfl) rfl rfl ?_
                      refine WL.nil ?_
                      refine we_seq ?_
                      refine wc_ret ?_
                      refine we_blk_ret ?_
                      refine we_seq_ret ?_
                      subst h
                      exact we_ret_fn (rs1 rfl (rv_t rfl)) (Le.refl _)
                    · replace h := condF h hc11
                      refine wc_seq ?_
                      refine wc_region ?_
                      refine WL.q (y_eql rfl rfl) (Wt.none rfl) rfl rfl ?_
                      refine WL.q (y_assign rfl) (Wt.none rfl) rfl rfl ?_
                      refine WL.nil ?_
                      refine we_seq ?_
                      refine wc_cond rfl (fun hc12 => ?_) (fun hc12 => ?_)
                      · replace h := condT h hc12
                        refine wc_seq ?_
                        refine wc_region ?_
                        refine WL.q (y_loadcN rfl a26 s26 rfl) (Wt.none rfl) rfl rfl ?_
                        refine WL.fn rfl rfl rfl rfl (f88_c _ _ _ _ _ _ _) ⟨(Le.refl _), (Le.refl _), (Le.refl _), (Le.refl _), (Le.refl _), (Le.refl _), (Le.refl _), trivial⟩ (Wt.none rfl) rfl rfl ?_
                        refine WL.q (y_move rfl) (Wt.none rfl) rfl rfl ?_
                        apply WL.and 3 (t := 170) (d := 173)
                        · exact rfl
                        · intro hg170
                          refine WL.q (y_move rfl) (Wt.yes rfl rfl rfl) rfl rfl ?_
                          refine WL.q (y_eql rfl rfl) (Wt.yes rfl rfl rfl) rfl rfl ?_
                          refine WL.q (y_pick_t rfl rfl) (Wt.none rfl) rfl rfl ?_
                          exact WL.nil ⟨rfl, [_, _, _], rfl, rfl, rfl⟩
                        · refine WL.skips 2 rfl ?_
                          refine WL.q (y_pick_f rfl rfl) (Wt.none rfl) rfl rfl ?_
                          exact WL.nil ⟨rfl, [_, _, _], rfl, rfl, rfl⟩
                        refine WL.q (y_move rfl) (Wt.none rfl) rfl rfl ?_
                        apply WL.and 4 (t := 174) (d := 178)
                        · exact rfl
                        · intro hg174
                          refine WL.q (y_fieldAddrc f26_3 rfl) (Wt.yes rfl rfl rfl) rfl rfl ?_
                          refine WL.q (y_loadc rfl a3 rfl) (Wt.yes rfl rfl rfl) rfl rfl ?_
                          refine WL.fn rfl rfl rfl rfl (f45_c _) ⟨(Le.refl _), trivial⟩ (Wt.yes rfl rfl rfl) rfl rfl ?_
                          refine WL.q (y_pick_t rfl rfl) (Wt.none rfl) rfl rfl ?_
                          exact WL.nil ⟨rfl, [_, _, _, _], rfl, rfl, rfl⟩
                        · refine WL.skips 3 rfl ?_
                          refine WL.q (y_pick_f rfl rfl) (Wt.none rfl) rfl rfl ?_
                          exact WL.nil ⟨rfl, [_, _, _, _], rfl, rfl, rfl⟩
                        refine WL.q (y_assign rfl) (Wt.none rfl) rfl rfl ?_
                        refine WL.nil ?_
                        refine we_seq ?_
                        refine wc_ret ?_
                        refine we_blk_ret ?_
                        refine we_seq_ret ?_
                        subst h
                        exact we_ret_fn (rs1 rfl (rv_t rfl)) (Le.refl _)
                      · replace h := condF h hc12
                        refine wc_seq ?_
                        refine wc_region ?_
                        refine WL.q (y_eql rfl rfl) (Wt.none rfl) rfl rfl ?_
                        refine WL.q (y_assign rfl) (Wt.none rfl) rfl rfl ?_
                        refine WL.nil ?_
                        refine we_seq ?_
                        refine wc_cond rfl (fun hc13 => ?_) (fun hc13 => ?_)
                        · replace h := condT h hc13
                          refine wc_seq ?_
                          refine wc_region ?_
                          refine WL.q (y_loadcN rfl a26 s26 rfl) (Wt.none rfl) rfl rfl ?_
                          refine WL.fn rfl rfl rfl rfl (f88_c _ _ _ _ _ _ _) ⟨(Le.refl _), (Le.refl _), (Le.refl _), (Le.refl _), (Le.refl _), (Le.refl _), (Le.refl _), trivial⟩ (Wt.none rfl) rfl rfl ?_
                          refine WL.q (y_move rfl) (Wt.none rfl) rfl rfl ?_
                          apply WL.and 3 (t := 183) (d := 186)
                          · exact rfl
                          · intro hg183
                            refine WL.q (y_move rfl) (Wt.yes rfl rfl rfl) rfl rfl ?_
                            refine WL.q (y_eql rfl rfl) (Wt.yes rfl rfl rfl) rfl rfl ?_
                            refine WL.q (y_pick_t rfl rfl) (Wt.none rfl) rfl rfl ?_
                            exact WL.nil ⟨rfl, [_, _, _], rfl, rfl, rfl⟩
                          · refine WL.skips 2 rfl ?_
                            refine WL.q (y_pick_f rfl rfl) (Wt.none rfl) rfl rfl ?_
                            exact WL.nil ⟨rfl, [_, _, _], rfl, rfl, rfl⟩
                          refine WL.q (y_assign rfl) (Wt.none rfl) rfl rfl ?_
                          refine WL.nil ?_
                          refine we_seq ?_
                          refine wc_ret ?_
                          refine we_blk_ret ?_
                          refine we_seq_ret ?_
                          subst h
                          exact we_ret_fn (rs1 rfl (rv_t rfl)) (Le.refl _)
                        · replace h := condF h hc13
                          refine wc_seq ?_
                          refine wc_region ?_
                          refine WL.q (y_eql rfl rfl) (Wt.none rfl) rfl rfl ?_
                          refine WL.q (y_assign rfl) (Wt.none rfl) rfl rfl ?_
                          refine WL.nil ?_
                          refine we_seq ?_
                          refine wc_cond rfl (fun hc14 => ?_) (fun hc14 => ?_)
                          · replace h := condT h hc14
                            refine wc_seq ?_
                            refine wc_region ?_
                            refine WL.q (y_loadcN rfl a26 s26 rfl) (Wt.none rfl) rfl rfl ?_
                            refine WL.fn rfl rfl rfl rfl (f88_c _ _ _ _ _ _ _) ⟨(Le.refl _), (Le.refl _), (Le.refl _), (Le.refl _), (Le.refl _), (Le.refl _), (Le.refl _), trivial⟩ (Wt.none rfl) rfl rfl ?_
                            refine WL.q (y_move rfl) (Wt.none rfl) rfl rfl ?_
                            apply WL.and 3 (t := 191) (d := 194)
                            · exact rfl
                            · intro hg191
                              refine WL.q (y_move rfl) (Wt.yes rfl rfl rfl) rfl rfl ?_
                              refine WL.q (y_eql rfl rfl) (Wt.yes rfl rfl rfl) rfl rfl ?_
                              refine WL.q (y_pick_t rfl rfl) (Wt.none rfl) rfl rfl ?_
                              exact WL.nil ⟨rfl, [_, _, _], rfl, rfl, rfl⟩
                            · refine WL.skips 2 rfl ?_
                              refine WL.q (y_pick_f rfl rfl) (Wt.none rfl) rfl rfl ?_
                              exact WL.nil ⟨rfl, [_, _, _], rfl, rfl, rfl⟩
                            refine WL.q (y_move rfl) (Wt.none rfl) rfl rfl ?_
                            apply WL.and 4 (t := 195) (d := 199)
                            · exact rfl
                            · intro hg195
                              refine WL.q (y_fieldAddrc f26_2 rfl) (Wt.yes rfl rfl rfl) rfl rfl ?_
                              refine WL.q (y_loadc rfl a2 rfl) (Wt.yes rfl rfl rfl) rfl rfl ?_
                              refine WL.q (y_geq rfl rfl) (Wt.yes rfl rfl rfl) rfl rfl ?_
                              refine WL.q (y_pick_t rfl rfl) (Wt.none rfl) rfl rfl ?_
                              exact WL.nil ⟨rfl, [_, _, _, _], rfl, rfl, rfl⟩
                            · refine WL.skips 3 rfl ?_
                              refine WL.q (y_pick_f rfl rfl) (Wt.none rfl) rfl rfl ?_
                              exact WL.nil ⟨rfl, [_, _, _, _], rfl, rfl, rfl⟩
                            refine WL.q (y_move rfl) (Wt.none rfl) rfl rfl ?_
                            apply WL.and 4 (t := 200) (d := 204)
                            · exact rfl
                            · intro hg200
                              refine WL.q (y_fieldAddrc f26_2 rfl) (Wt.yes rfl rfl rfl) rfl rfl ?_
                              refine WL.q (y_loadc rfl a2 rfl) (Wt.yes rfl rfl rfl) rfl rfl ?_
                              refine WL.q (y_lss rfl rfl) (Wt.yes rfl rfl rfl) rfl rfl ?_
                              refine WL.q (y_pick_t rfl rfl) (Wt.none rfl) rfl rfl ?_
                              exact WL.nil ⟨rfl, [_, _, _, _], rfl, rfl, rfl⟩
                            · refine WL.skips 3 rfl ?_
                              refine WL.q (y_pick_f rfl rfl) (Wt.none rfl) rfl rfl ?_
                              exact WL.nil ⟨rfl, [_, _, _, _], rfl, rfl, rfl⟩
                            refine WL.q (y_assign rfl) (Wt.none rfl) rfl rfl ?_
                            refine WL.nil ?_
                            refine we_seq ?_
                            refine wc_ret ?_
                            refine we_blk_ret ?_
                            refine we_seq_ret ?_
                            subst h
                            exact we_ret_fn (rs1 rfl (rv_t rfl)) (Le.refl _)
                          · replace h := condF h hc14
                            refine wc_skip ?_
                            refine we_blk ?_
                            refine we_seq ?_
                            refine wc_seq ?_
                            refine wc_region ?_
                            refine WL.q (y_assign rfl) (Wt.none rfl) rfl rfl ?_
                            refine WL.nil ?_
                            refine we_seq ?_
                            refine wc_ret ?_
                            subst h
                            exact we_ret_fn (rs1 rfl (rv_t rfl)) (Le.refl _)

theorem f124_c (w0 : St) (n1 : Int) {r : Int × Bool} (h : f124 w0 n1 = some r) : Pu Try.prog 124 [.ag (R78 w0), .i .i64 n1] (.tu [.i .i64 r.1, .b r.2]) := by
  unfold f124 at h
  refine fn_intro Try.func124 (by kernel_rfl) rfl rfl rfl (fun φφ ww => ?_)
  refine wc_seq ?_
  refine wc_region ?_
  refine WL.s ((b_boxd rfl rfl (Les.refl _)).does) (Wt.none rfl) rfl rfl ?_
  refine WL.q (y_assign rfl) (Wt.none rfl) rfl rfl ?_
  refine WL.q (y_assign rfl) (Wt.none rfl) rfl rfl ?_
  refine WL.nil ?_
  refine we_seq ?_
  refine wc_seq ?_
  refine wc_seq ?_
  refine wc_region ?_
  refine WL.q (y_move rfl) (Wt.none rfl) rfl rfl ?_
  refine WL.q (y_fieldAddrc f78_1 rfl) (Wt.none rfl) rfl rfl ?_
  refine WL.q (y_loadc rfl a33 rfl) (Wt.none rfl) rfl rfl ?_
  refine WL.q (y_len_map E3 w0.counts e33 rfl rfl (Le.refl _)) (Wt.none rfl) rfl rfl ?_
  refine WL.q (y_geq rfl rfl) (Wt.none rfl) rfl rfl ?_
  refine WL.nil ?_
  refine we_seq ?_
  refine wc_cond rfl (fun hc1 => ?_) (fun hc1 => ?_)
  · replace h := condT h hc1
    refine wc_seq ?_
    refine wc_region ?_
    refine WL.q (y_assign rfl) (Wt.none rfl) rfl rfl ?_
    refine WL.q (y_assign rfl) (Wt.none rfl) rfl rfl ?_
    refine WL.nil ?_
    refine we_seq ?_
    refine wc_ret ?_
    refine we_seq_ret ?_
    obtain rfl := Option.some.inj h
    exact we_ret_fn (rs2 rfl (rv_t rfl) (rv_t rfl)) (Le.tud ⟨(Le.refl _), (Le.refl _), trivial⟩)
  · replace h := condF h hc1
    refine wc_skip ?_
    refine we_seq ?_
    refine wc_seq ?_
    refine wc_region ?_
    refine WL.q (y_fieldAddrc f78_1 rfl) (Wt.none rfl) rfl rfl ?_
    refine WL.q (y_loadc rfl a33 rfl) (Wt.none rfl) rfl rfl ?_
    refine WL.q (y_move rfl) (Wt.none rfl) rfl rfl ?_
    replace h := bindS h
    obtain ⟨x23, hx23, h⟩ := h
    refine WL.q (y_indexAddr e33 rfl (Le.refl _) rfl (idx_nonneg hx23) (idx_row E3_eq hx23) rfl) (Wt.none rfl) rfl rfl ?_
    refine WL.q (y_loadc rfl a3 rfl) (Wt.none rfl) rfl rfl ?_
    refine WL.q (y_assign rfl) (Wt.none rfl) rfl rfl ?_
    refine WL.nil ?_
    refine we_seq ?_
    refine wc_seq ?_
    refine wc_region ?_
    refine WL.q (y_move rfl) (Wt.none rfl) rfl rfl ?_
    refine WL.q (y_move rfl) (Wt.none rfl) rfl rfl ?_
    refine WL.fn rfl rfl rfl rfl (f61_c _) ⟨(Le.refl _), trivial⟩ (Wt.none rfl) rfl rfl ?_
    refine WL.q (y_assign rfl) (Wt.none rfl) rfl rfl ?_
    refine WL.q (y_assign rfl) (Wt.none rfl) rfl rfl ?_
    refine WL.nil ?_
    refine we_seq ?_
    refine wc_ret ?_
    obtain rfl := Option.some.inj h
    exact we_ret_fn (rs2 rfl (rv_t rfl) (rv_t rfl)) (Le.tud ⟨(Le.refl _), (Le.refl _), trivial⟩)

theorem f125_c (w0 : St) (o1 : Int) (slot2 : Int) {r : Int × Bool} (h : f125 w0 o1 slot2 = some r) : Pu Try.prog 125 [.ag (R78 w0), .i .i64 o1, .i .i64 slot2] (.tu [.i .i64 r.1, .b r.2]) := by
  unfold f125 at h
  refine fn_intro Try.func125 (by kernel_rfl) rfl rfl rfl (fun φφ ww => ?_)
  refine wc_seq ?_
  refine wc_region ?_
  refine WL.s ((b_boxd rfl rfl (Les.refl _)).does) (Wt.none rfl) rfl rfl ?_
  refine WL.q (y_assign rfl) (Wt.none rfl) rfl rfl ?_
  refine WL.q (y_assign rfl) (Wt.none rfl) rfl rfl ?_
  refine WL.nil ?_
  refine we_seq ?_
  refine wc_seq ?_
  refine wc_seq ?_
  refine wc_region ?_
  refine WL.q (y_fieldAddrc f78_0 rfl) (Wt.none rfl) rfl rfl ?_
  refine WL.q (y_loadc rfl a37 rfl) (Wt.none rfl) rfl rfl ?_
  refine WL.q (y_move rfl) (Wt.none rfl) rfl rfl ?_
  refine WL.q (y_move rfl) (Wt.none rfl) rfl rfl ?_
  replace h := bindS h
  obtain ⟨r30, hr30, h⟩ := h
  refine WL.fn rfl rfl rfl rfl (f55_c _ _ _ hr30) ⟨(Le.refl _), (Le.refl _), (Le.refl _), trivial⟩ (Wt.none rfl) rfl rfl ?_
  refine WL.q (y_not rfl) (Wt.none rfl) rfl rfl ?_
  refine WL.nil ?_
  refine we_seq ?_
  refine wc_cond rfl (fun hc1 => ?_) (fun hc1 => ?_)
  · replace h := condT h hc1
    refine wc_seq ?_
    refine wc_region ?_
    refine WL.q (y_assign rfl) (Wt.none rfl) rfl rfl ?_
    refine WL.q (y_assign rfl) (Wt.none rfl) rfl rfl ?_
    refine WL.nil ?_
    refine we_seq ?_
    refine wc_ret ?_
    refine we_seq_ret ?_
    obtain rfl := Option.some.inj h
    exact we_ret_fn (rs2 rfl (rv_t rfl) (rv_t rfl)) (Le.tud ⟨(Le.refl _), (Le.refl _), trivial⟩)
  · replace h := condF h hc1
    refine wc_skip ?_
    refine we_seq ?_
    refine wc_seq ?_
    refine wc_region ?_
    refine WL.q (y_fieldAddrc f78_0 rfl) (Wt.none rfl) rfl rfl ?_
    refine WL.q (y_loadc rfl a37 rfl) (Wt.none rfl) rfl rfl ?_
    refine WL.q (y_move rfl) (Wt.none rfl) rfl rfl ?_
    replace h := bindS h
    obtain ⟨x31, hx31, h⟩ := h
    refine WL.q (y_indexAddr e37 rfl (Le.refl _) rfl (idx_nonneg hx31) (idx_row E56_eq hx31) rfl) (Wt.none rfl) rfl rfl ?_
    refine WL.q (y_loadc rfl a56 rfl) (Wt.none rfl) rfl rfl ?_
    refine WL.q (y_move rfl) (Wt.none rfl) rfl rfl ?_
    replace h := bindS h
    obtain ⟨x32, hx32, h⟩ := h
    refine WL.q (y_indexAddr e56 rfl (Le.refl _) rfl (idx_nonneg hx32) (idx_row E2_eq hx32) rfl) (Wt.none rfl) rfl rfl ?_
    refine WL.q (y_loadc rfl a2 rfl) (Wt.none rfl) rfl rfl ?_
    refine WL.q (y_assign rfl) (Wt.none rfl) rfl rfl ?_
    refine WL.nil ?_
    refine we_seq ?_
    refine wc_seq ?_
    refine wc_region ?_
    refine WL.q (y_move rfl) (Wt.none rfl) rfl rfl ?_
    refine WL.q (y_move rfl) (Wt.none rfl) rfl rfl ?_
    refine WL.fn rfl rfl rfl rfl (f61_c _) ⟨(Le.refl _), trivial⟩ (Wt.none rfl) rfl rfl ?_
    refine WL.q (y_assign rfl) (Wt.none rfl) rfl rfl ?_
    refine WL.q (y_assign rfl) (Wt.none rfl) rfl rfl ?_
    refine WL.nil ?_
    refine we_seq ?_
    refine wc_ret ?_
    obtain rfl := Option.some.inj h
    exact we_ret_fn (rs2 rfl (rv_t rfl) (rv_t rfl)) (Le.tud ⟨(Le.refl _), (Le.refl _), trivial⟩)

theorem f68_c (w0 : Wk) (e1 : CE) : Pu Try.prog 68 [.ag (R82 w0), .ag (R26 e1)] (.tu [.i .i64 (f68 w0 e1).1, .b (f68 w0 e1).2]) := by
  generalize h : f68 w0 e1 = r
  unfold f68 at h
  refine fn_intro Try.func68 (by kernel_rfl) rfl rfl rfl (fun φφ ww => ?_)
  refine wc_seq ?_
  refine wc_region ?_
  refine WL.s ((b_boxd rfl rfl (Les.refl _)).does) (Wt.none rfl) rfl rfl ?_
  refine WL.s ((b_boxd rfl rfl (Les.refl _)).does) (Wt.none rfl) rfl rfl ?_
  refine WL.q (y_assign rfl) (Wt.none rfl) rfl rfl ?_
  refine WL.q (y_assign rfl) (Wt.none rfl) rfl rfl ?_
  refine WL.nil ?_
  refine we_seq ?_
  refine wc_seq ?_
  refine wc_seq ?_
  refine wc_region ?_
  refine WL.q (y_fieldAddrc f26_0 rfl) (Wt.none rfl) rfl rfl ?_
  refine WL.q (y_loadc rfl a22 rfl) (Wt.none rfl) rfl rfl ?_
  refine WL.q (y_eql rfl rfl) (Wt.none rfl) rfl rfl ?_
  refine WL.nil ?_
  refine we_seq ?_
  refine wc_cond rfl (fun hc1 => ?_) (fun hc1 => ?_)
  · replace h := condT h hc1
    refine wc_seq ?_
    refine wc_region ?_
    refine WL.q (y_fieldAddrc f26_3 rfl) (Wt.none rfl) rfl rfl ?_
    refine WL.q (y_loadc rfl a3 rfl) (Wt.none rfl) rfl rfl ?_
    refine WL.q (y_add rfl rfl rfl) (Wt.none rfl) rfl rfl ?_
    refine WL.q (y_assign rfl) (Wt.none rfl) rfl rfl ?_
    refine WL.q (y_assign rfl) (Wt.none rfl) rfl rfl ?_
    refine WL.nil ?_
    refine we_seq ?_
    refine wc_ret ?_
    refine we_seq_ret ?_
    subst h
    exact we_ret_fn (rs2 rfl (rv_t rfl) (rv_t rfl)) (Le.tud ⟨(Le.refl _), (Le.refl _), trivial⟩)
  · replace h := condF h hc1
    refine wc_skip ?_
    refine we_seq ?_
    refine wc_seq ?_
    refine wc_region ?_
    refine WL.q (y_fieldAddrc f26_2 rfl) (Wt.none rfl) rfl rfl ?_
    refine WL.q (y_loadc rfl a2 rfl) (Wt.none rfl) rfl rfl ?_
    refine WL.q (y_assign rfl) (Wt.none rfl) rfl rfl ?_
    refine WL.q (y_assign rfl) (Wt.none rfl) rfl rfl ?_
    refine WL.nil ?_
    refine we_seq ?_
    refine wc_ret ?_
    subst h
    exact we_ret_fn (rs2 rfl (rv_t rfl) (rv_t rfl)) (Le.tud ⟨(Le.refl _), (Le.refl _), trivial⟩)

theorem f69_c (w0 : Wk) (e1 : CE) {r : Int × Bool} (h : f69 w0 e1 = some r) : Pu Try.prog 69 [.ag (R82 w0), .ag (R26 e1)] (.tu [.i .i64 r.1, .b r.2]) := by
  unfold f69 at h
  refine fn_intro Try.func69 (by kernel_rfl) rfl rfl rfl (fun φφ ww => ?_)
  refine wc_seq ?_
  refine wc_region ?_
  refine WL.s ((b_boxd rfl rfl (Les.refl _)).does) (Wt.none rfl) rfl rfl ?_
  refine WL.s ((b_boxd rfl rfl (Les.refl _)).does) (Wt.none rfl) rfl rfl ?_
  refine WL.q (y_assign rfl) (Wt.none rfl) rfl rfl ?_
  refine WL.q (y_assign rfl) (Wt.none rfl) rfl rfl ?_
  refine WL.nil ?_
  refine we_seq ?_
  refine wc_seq ?_
  refine wc_region ?_
  refine WL.q (y_fieldAddrc f82_0 rfl) (Wt.none rfl) rfl rfl ?_
  refine WL.q (y_loadc rfl a80 rfl) (Wt.none rfl) rfl rfl ?_
  refine WL.q (y_fieldAddrc f26_3 rfl) (Wt.none rfl) rfl rfl ?_
  refine WL.q (y_loadc rfl a3 rfl) (Wt.none rfl) rfl rfl ?_
  refine WL.q (y_fieldAddrc f26_4 rfl) (Wt.none rfl) rfl rfl ?_
  refine WL.q (y_loadc rfl a3 rfl) (Wt.none rfl) rfl rfl ?_
  replace h := bindS h
  obtain ⟨r18, hr18, h⟩ := h
  refine WL.inv rfl rfl rfl rfl meth_slot (f125_c _ _ _ hr18) ⟨Le.refl _, (Le.refl _), (Le.refl _), trivial⟩ (Wt.none rfl) rfl rfl ?_
  refine WL.q (y_extractd rfl rfl) (Wt.none rfl) rfl rfl ?_
  refine WL.q (y_extractd rfl rfl) (Wt.none rfl) rfl rfl ?_
  refine WL.q (y_assign rfl) (Wt.none rfl) rfl rfl ?_
  refine WL.q (y_assign rfl) (Wt.none rfl) rfl rfl ?_
  refine WL.nil ?_
  refine we_seq ?_
  refine wc_ret ?_
  obtain rfl := Option.some.inj h
  exact we_ret_fn (rs2 rfl (rv_t rfl) (rv_t rfl)) (Le.tud ⟨(Le.refl _), (Le.refl _), trivial⟩)

theorem f77_c (w0 : Wk) (e1 : CE) {r : Int × Bool} (h : f77 w0 e1 = some r) : Pu Try.prog 77 [.ag (R82 w0), .ag (R26 e1)] (.tu [.i .i64 r.1, .b r.2]) := by
  unfold f77 at h
  refine fn_intro Try.func77 (by kernel_rfl) rfl rfl rfl (fun φφ ww => ?_)
  refine wc_seq ?_
  refine wc_region ?_
  refine WL.s ((b_boxd rfl rfl (Les.refl _)).does) (Wt.none rfl) rfl rfl ?_
  refine WL.s ((b_boxd rfl rfl (Les.refl _)).does) (Wt.none rfl) rfl rfl ?_
  refine WL.q (y_assign rfl) (Wt.none rfl) rfl rfl ?_
  refine WL.q (y_assign rfl) (Wt.none rfl) rfl rfl ?_
  refine WL.nil ?_
  refine we_seq ?_
  refine wc_seq ?_
  refine wc_region ?_
  refine WL.q (y_fieldAddrc f82_1 rfl) (Wt.none rfl) rfl rfl ?_
  refine WL.q (y_loadc rfl a56 rfl) (Wt.none rfl) rfl rfl ?_
  refine WL.q (y_fieldAddrc f82_1 rfl) (Wt.none rfl) rfl rfl ?_
  refine WL.q (y_loadc rfl a56 rfl) (Wt.none rfl) rfl rfl ?_
  refine WL.q (y_len_map E2 w0.lets e56 rfl rfl (Le.refl _)) (Wt.none rfl) rfl rfl ?_
  refine WL.q (y_sub rfl rfl rfl) (Wt.none rfl) rfl rfl ?_
  refine WL.q (y_fieldAddrc f26_2 rfl) (Wt.none rfl) rfl rfl ?_
  refine WL.q (y_loadc rfl a2 rfl) (Wt.none rfl) rfl rfl ?_
  refine WL.q (y_sub rfl rfl rfl) (Wt.none rfl) rfl rfl ?_
  replace h := bindS h
  obtain ⟨x20, hx20, h⟩ := h
  refine WL.q (y_indexAddr e56 rfl (Le.refl _) rfl (idx_nonneg hx20) (idx_row E2_eq hx20) rfl) (Wt.none rfl) rfl rfl ?_
  refine WL.q (y_loadc rfl a2 rfl) (Wt.none rfl) rfl rfl ?_
  refine WL.q (y_assign rfl) (Wt.none rfl) rfl rfl ?_
  refine WL.q (y_assign rfl) (Wt.none rfl) rfl rfl ?_
  refine WL.nil ?_
  refine we_seq ?_
  refine wc_ret ?_
  obtain rfl := Option.some.inj h
  exact we_ret_fn (rs2 rfl (rv_t rfl) (rv_t rfl)) (Le.tud ⟨(Le.refl _), (Le.refl _), trivial⟩)

theorem f79_c (w0 : Wk) (e1 : CE) {r : Int × Bool} (h : f79 w0 e1 = some r) : Pu Try.prog 79 [.ag (R82 w0), .ag (R26 e1)] (.tu [.i .i64 r.1, .b r.2]) := by
  unfold f79 at h
  refine fn_intro Try.func79 (by kernel_rfl) rfl rfl rfl (fun φφ ww => ?_)
  refine wc_seq ?_
  refine wc_region ?_
  refine WL.s ((b_boxd rfl rfl (Les.refl _)).does) (Wt.none rfl) rfl rfl ?_
  refine WL.s ((b_boxd rfl rfl (Les.refl _)).does) (Wt.none rfl) rfl rfl ?_
  refine WL.q (y_assign rfl) (Wt.none rfl) rfl rfl ?_
  refine WL.q (y_assign rfl) (Wt.none rfl) rfl rfl ?_
  refine WL.nil ?_
  refine we_seq ?_
  refine wc_seq ?_
  refine wc_region ?_
  refine WL.q (y_fieldAddrc f82_0 rfl) (Wt.none rfl) rfl rfl ?_
  refine WL.q (y_loadc rfl a80 rfl) (Wt.none rfl) rfl rfl ?_
  refine WL.q (y_fieldAddrc f26_2 rfl) (Wt.none rfl) rfl rfl ?_
  refine WL.q (y_loadc rfl a2 rfl) (Wt.none rfl) rfl rfl ?_
  replace h := bindS h
  obtain ⟨r16, hr16, h⟩ := h
  refine WL.inv rfl rfl rfl rfl meth_count (f124_c _ _ hr16) ⟨Le.refl _, (Le.refl _), trivial⟩ (Wt.none rfl) rfl rfl ?_
  refine WL.q (y_extractd rfl rfl) (Wt.none rfl) rfl rfl ?_
  refine WL.q (y_extractd rfl rfl) (Wt.none rfl) rfl rfl ?_
  refine WL.q (y_assign rfl) (Wt.none rfl) rfl rfl ?_
  refine WL.q (y_assign rfl) (Wt.none rfl) rfl rfl ?_
  refine WL.nil ?_
  refine we_seq ?_
  refine wc_ret ?_
  obtain rfl := Option.some.inj h
  exact we_ret_fn (rs2 rfl (rv_t rfl) (rv_t rfl)) (Le.tud ⟨(Le.refl _), (Le.refl _), trivial⟩)

theorem f70_c (val : Wk → CE → Option (Int × Bool)) (w0 : Wk) (e1 : CE) (hval : ∀ (x0 : Wk) (x1 : CE) (r : Int × Bool), val x0 x1 = some r → Pu Try.prog 53 [.ag (R82 x0), .ag (R26 x1)] (.tu [.i .i64 r.1, .b r.2])) {r : Int × Bool} (h : f70 val w0 e1 = some r) : Pu Try.prog 70 [.ag (R82 w0), .ag (R26 e1)] (.tu [.i .i64 r.1, .b r.2]) := by
  unfold f70 at h
  refine fn_intro Try.func70 (by kernel_rfl) rfl rfl rfl (fun φφ ww => ?_)
  refine wc_seq ?_
  refine wc_region ?_
  refine WL.s ((b_boxd rfl rfl (Les.refl _)).does) (Wt.none rfl) rfl rfl ?_
  refine WL.s ((b_boxd rfl rfl (Les.refl _)).does) (Wt.none rfl) rfl rfl ?_
  refine WL.q (y_assign rfl) (Wt.none rfl) rfl rfl ?_
  refine WL.q (y_assign rfl) (Wt.none rfl) rfl rfl ?_
  refine WL.nil ?_
  refine we_seq ?_
  refine wc_seq ?_
  refine wc_region_draw (by kernel_rfl) (by kernel_rfl) ?_
  refine WQ.q (Yields.quiet (y_loadcN rfl a82 s82 rfl)) (Wt.none rfl) rfl rfl ?_
  refine WQ.q (Yields.quiet (y_fieldAddrc f26_8 rfl)) (Wt.none rfl) rfl rfl ?_
  refine WQ.q (Yields.quiet (y_loadc rfl a24 rfl)) (Wt.none rfl) rfl rfl ?_
  replace h := bindS h
  obtain ⟨x43, hx43, h⟩ := h
  refine WQ.q (Yields.quiet (y_indexAddr e24 rfl (Le.refl _) rfl (idx_nonneg hx43) (idx_row E26_eq hx43) rfl)) (Wt.none rfl) rfl rfl ?_
  refine WQ.q (Yields.quiet (y_loadcN rfl a26 s26 rfl)) (Wt.none rfl) rfl rfl ?_
  replace h := bindS h
  obtain ⟨r44, hr44, h⟩ := h
  refine WQ.q (YieldsQ.fn rfl rfl rfl rfl rfl (hval _ _ _ hr44) ⟨(Le.refl _), (Le.refl _), trivial⟩) (Wt.none rfl) rfl rfl ?_
  refine WQ.q (Yields.quiet (y_move rfl)) (Wt.none rfl) rfl rfl ?_
  refine WQ.q (Yields.quiet (y_extractd rfl rfl)) (Wt.none rfl) rfl rfl ?_
  refine WQ.q (Yields.quiet (y_extractd rfl rfl)) (Wt.none rfl) rfl rfl ?_
  refine WQ.q (Yields.quiet (y_assign rfl)) (Wt.none rfl) rfl rfl ?_
  refine WQ.q (Yields.quiet (y_assign rfl)) (Wt.none rfl) rfl rfl ?_
  refine WQ.nil ?_
  refine we_seq ?_
  refine wc_seq ?_
  refine wc_seq ?_
  refine wc_region ?_
  refine WL.q (y_move rfl) (Wt.none rfl) rfl rfl ?_
  refine WL.q (y_not rfl) (Wt.none rfl) rfl rfl ?_
  refine WL.q (y_move rfl) (Wt.none rfl) rfl rfl ?_
  apply WL.or 3 (t := 19) (d := 22)
  · exact rfl
  · intro hg19
    refine WL.q (y_move rfl) (Wt.yes rfl rfl rfl) rfl rfl ?_
    refine WL.q (y_lss rfl rfl) (Wt.yes rfl rfl rfl) rfl rfl ?_
    refine WL.q (y_pick_f rfl rfl) (Wt.none rfl) rfl rfl ?_
    exact WL.nil ⟨rfl, [_, _, _], rfl, rfl, rfl⟩
  · refine WL.skips 2 rfl ?_
    refine WL.q (y_pick_t rfl rfl) (Wt.none rfl) rfl rfl ?_
    exact WL.nil ⟨rfl, [_, _, _], rfl, rfl, rfl⟩
  refine WL.q (y_move rfl) (Wt.none rfl) rfl rfl ?_
  apply WL.or 5 (t := 23) (d := 28)
  · exact rfl
  · intro hg23
    refine WL.q (y_move rfl) (Wt.yes rfl rfl rfl) rfl rfl ?_
    refine WL.q (y_fieldAddrc f26_5 rfl) (Wt.yes rfl rfl rfl) rfl rfl ?_
    refine WL.q (y_loadc rfl a3 rfl) (Wt.yes rfl rfl rfl) rfl rfl ?_
    refine WL.q (y_geq rfl rfl) (Wt.yes rfl rfl rfl) rfl rfl ?_
    refine WL.q (y_pick_f rfl rfl) (Wt.none rfl) rfl rfl ?_
    exact WL.nil ⟨rfl, [_, _, _, _, _], rfl, rfl, rfl⟩
  · refine WL.skips 4 rfl ?_
    refine WL.q (y_pick_t rfl rfl) (Wt.none rfl) rfl rfl ?_
    exact WL.nil ⟨rfl, [_, _, _, _, _], rfl, rfl, rfl⟩
  refine WL.nil ?_
  refine we_seq ?_
  refine wc_cond rfl (fun hc1 => ?_) (fun hc1 => ?_)
  · replace h := condT h hc1
    refine wc_seq ?_
    refine wc_region ?_
    refine WL.q (y_assign rfl) (Wt.none rfl) rfl rfl ?_
    refine WL.q (y_assign rfl) (Wt.none rfl) rfl rfl ?_
    refine WL.nil ?_
    refine we_seq ?_
    refine wc_ret ?_
    refine we_seq_ret ?_
    obtain rfl := Option.some.inj h
    exact we_ret_fn (rs2 rfl (rv_t rfl) (rv_t rfl)) (Le.tud ⟨(Le.refl _), (Le.refl _), trivial⟩)
  · replace h := condF h hc1
    refine wc_skip ?_
    refine we_seq ?_
    refine wc_seq ?_
    refine wc_region ?_
    refine WL.q (y_fieldAddrc f82_0 rfl) (Wt.none rfl) rfl rfl ?_
    refine WL.q (y_loadc rfl a80 rfl) (Wt.none rfl) rfl rfl ?_
    refine WL.q (y_fieldAddrc f26_3 rfl) (Wt.none rfl) rfl rfl ?_
    refine WL.q (y_loadc rfl a3 rfl) (Wt.none rfl) rfl rfl ?_
    refine WL.q (y_fieldAddrc f26_4 rfl) (Wt.none rfl) rfl rfl ?_
    refine WL.q (y_loadc rfl a3 rfl) (Wt.none rfl) rfl rfl ?_
    refine WL.q (y_move rfl) (Wt.none rfl) rfl rfl ?_
    refine WL.q (y_add rfl rfl rfl) (Wt.none rfl) rfl rfl ?_
    replace h := bindS h
    obtain ⟨r45, hr45, h⟩ := h
    refine WL.inv rfl rfl rfl rfl meth_slot (f125_c _ _ _ hr45) ⟨Le.refl _, (Le.refl _), (Le.refl _), trivial⟩ (Wt.none rfl) rfl rfl ?_
    refine WL.q (y_extractd rfl rfl) (Wt.none rfl) rfl rfl ?_
    refine WL.q (y_extractd rfl rfl) (Wt.none rfl) rfl rfl ?_
    refine WL.q (y_assign rfl) (Wt.none rfl) rfl rfl ?_
    refine WL.q (y_assign rfl) (Wt.none rfl) rfl rfl ?_
    refine WL.nil ?_
    refine we_seq ?_
    refine wc_ret ?_
    obtain rfl := Option.some.inj h
    exact we_ret_fn (rs2 rfl (rv_t rfl) (rv_t rfl)) (Le.tud ⟨(Le.refl _), (Le.refl _), trivial⟩)

theorem f71_c (val : Wk → CE → Option (Int × Bool)) (w0 : Wk) (e1 : CE) (hval : ∀ (x0 : Wk) (x1 : CE) (r : Int × Bool), val x0 x1 = some r → Pu Try.prog 53 [.ag (R82 x0), .ag (R26 x1)] (.tu [.i .i64 r.1, .b r.2])) {r : Int × Bool} (h : f71 val w0 e1 = some r) : Pu Try.prog 71 [.ag (R82 w0), .ag (R26 e1)] (.tu [.i .i64 r.1, .b r.2]) := by
  unfold f71 at h
  refine fn_intro Try.func71 (by kernel_rfl) rfl rfl rfl (fun φφ ww => ?_)
  refine wc_seq ?_
  refine wc_region ?_
  refine WL.s ((b_boxd rfl rfl (Les.refl _)).does) (Wt.none rfl) rfl rfl ?_
  refine WL.s ((b_boxd rfl rfl (Les.refl _)).does) (Wt.none rfl) rfl rfl ?_
  refine WL.q (y_assign rfl) (Wt.none rfl) rfl rfl ?_
  refine WL.q (y_assign rfl) (Wt.none rfl) rfl rfl ?_
  refine WL.nil ?_
  refine we_seq ?_
  refine wc_seq ?_
  refine wc_region_draw (by kernel_rfl) (by kernel_rfl) ?_
  refine WQ.q (Yields.quiet (y_loadcN rfl a82 s82 rfl)) (Wt.none rfl) rfl rfl ?_
  refine WQ.q (Yields.quiet (y_fieldAddrc f26_8 rfl)) (Wt.none rfl) rfl rfl ?_
  refine WQ.q (Yields.quiet (y_loadc rfl a24 rfl)) (Wt.none rfl) rfl rfl ?_
  replace h := bindS h
  obtain ⟨x45, hx45, h⟩ := h
  refine WQ.q (Yields.quiet (y_indexAddr e24 rfl (Le.refl _) rfl (idx_nonneg hx45) (idx_row E26_eq hx45) rfl)) (Wt.none rfl) rfl rfl ?_
  refine WQ.q (Yields.quiet (y_loadcN rfl a26 s26 rfl)) (Wt.none rfl) rfl rfl ?_
  replace h := bindS h
  obtain ⟨r46, hr46, h⟩ := h
  refine WQ.q (YieldsQ.fn rfl rfl rfl rfl rfl (hval _ _ _ hr46) ⟨(Le.refl _), (Le.refl _), trivial⟩) (Wt.none rfl) rfl rfl ?_
  refine WQ.q (Yields.quiet (y_move rfl)) (Wt.none rfl) rfl rfl ?_
  refine WQ.q (Yields.quiet (y_extractd rfl rfl)) (Wt.none rfl) rfl rfl ?_
  refine WQ.q (Yields.quiet (y_extractd rfl rfl)) (Wt.none rfl) rfl rfl ?_
  refine WQ.q (Yields.quiet (y_assign rfl)) (Wt.none rfl) rfl rfl ?_
  refine WQ.q (Yields.quiet (y_assign rfl)) (Wt.none rfl) rfl rfl ?_
  refine WQ.nil ?_
  refine we_seq ?_
  replace h := letkS h
  obtain ⟨k48, hk48, h⟩ := h
  refine wc_cut (fun env' st' => ∃ (v47 : Int), k48 v47 = some r ∧ Sub [(6, .d (D.i .i64 v47)), (7, .d (D.b r46.2))] env' ∧ SLe st' []) ?_ ?_
  · refine wc_seq ?_
    refine wc_region ?_
    refine WL.q (y_fieldAddrc f26_1 rfl) (Wt.none rfl) rfl rfl ?_
    refine WL.q (y_loadc rfl a23 rfl) (Wt.none rfl) rfl rfl ?_
    refine WL.nil ?_
    refine we_seq ?_
    refine wc_block ?_
    refine wc_seq ?_
    refine wc_region ?_
    refine WL.q (y_eql rfl rfl) (Wt.none rfl) rfl rfl ?_
    refine WL.q (y_assign rfl) (Wt.none rfl) rfl rfl ?_
    refine WL.nil ?_
    refine we_seq ?_
    refine wc_cond rfl (fun hc1 => ?_) (fun hc1 => ?_)
    · replace h := condT h hc1
      refine wc_seq ?_
      refine wc_region ?_
      refine WL.q (y_move rfl) (Wt.none rfl) rfl rfl ?_
      refine WL.q (y_sub rfl rfl rfl) (Wt.none rfl) rfl rfl ?_
      refine WL.q (y_move rfl) (Wt.none rfl) rfl rfl ?_
      refine WL.q (y_move rfl) (Wt.none rfl) rfl rfl ?_
      apply WL.and 3 (t := 26) (d := 29)
      · exact rfl
      · intro hg26
        refine WL.q (y_move rfl) (Wt.yes rfl rfl rfl) rfl rfl ?_
        refine WL.fn rfl rfl rfl rfl (f63_c _ _ _) ⟨(Le.refl _), (Le.refl _), (Le.refl _), trivial⟩ (Wt.yes rfl rfl rfl) rfl rfl ?_
        refine WL.q (y_pick_t rfl rfl) (Wt.none rfl) rfl rfl ?_
        exact WL.nil ⟨rfl, [_, _, _], rfl, rfl, rfl⟩
      · refine WL.skips 2 rfl ?_
        refine WL.q (y_pick_f rfl rfl) (Wt.none rfl) rfl rfl ?_
        exact WL.nil ⟨rfl, [_, _, _], rfl, rfl, rfl⟩
      refine WL.q (y_assign rfl) (Wt.none rfl) rfl rfl ?_
      refine WL.q (y_assign rfl) (Wt.none rfl) rfl rfl ?_
      refine WL.nil ?_
      refine we_seq ?_
      refine wc_ret ?_
      refine we_blk_ret ?_
      refine we_lp_ret ?_
      obtain rfl := Option.some.inj h
      exact we_ret_fn (rs2 rfl (rv_t rfl) (rv_t rfl)) (Le.tud ⟨(Le.refl _), (Le.refl _), trivial⟩)
    · replace h := condF h hc1
      refine wc_seq ?_
      refine wc_region ?_
      refine WL.q (y_eql rfl rfl) (Wt.none rfl) rfl rfl ?_
      refine WL.q (y_assign rfl) (Wt.none rfl) rfl rfl ?_
      refine WL.nil ?_
      refine we_seq ?_
      refine wc_cond rfl (fun hc2 => ?_) (fun hc2 => ?_)
      · replace h := condT h hc2
        refine wc_region ?_
        refine WL.q (y_move rfl) (Wt.none rfl) rfl rfl ?_
        refine WL.q (y_move rfl) (Wt.none rfl) rfl rfl ?_
        refine WL.q (y_neg rfl rfl) (Wt.none rfl) rfl rfl ?_
        refine WL.q (y_max rfl rfl rfl) (Wt.none rfl) rfl rfl ?_
        refine WL.q (y_assign rfl) (Wt.none rfl) rfl rfl ?_
        refine WL.nil ?_
        refine we_blk ?_
        exact we_lp ⟨(if (IntKind.i64.wrap (0 - r46.1)) > r46.1 then (IntKind.i64.wrap (0 - r46.1)) else r46.1), h, (Sub.cons rfl (Le.refl _) (Sub.cons rfl (Le.refl _) (Sub.nil _))), trivial⟩
      · replace h := condF h hc2
        refine wc_region ?_
        refine WL.q (y_move rfl) (Wt.none rfl) rfl rfl ?_
        refine WL.q (y_neg rfl rfl) (Wt.none rfl) rfl rfl ?_
        refine WL.q (y_assign rfl) (Wt.none rfl) rfl rfl ?_
        refine WL.nil ?_
        refine we_blk ?_
        exact we_lp ⟨(IntKind.i64.wrap (0 - r46.1)), h, (Sub.cons rfl (Le.refl _) (Sub.cons rfl (Le.refl _) (Sub.nil _))), trivial⟩
  · rintro env1 st1 ⟨v47, h, hsub, hst⟩
    subst hk48
    dsimp only at h
    refine WC.sub hsub (WC.weak hst ?_)
    refine wc_seq ?_
    refine wc_region ?_
    refine WL.q (y_move rfl) (Wt.none rfl) rfl rfl ?_
    refine WL.q (y_move rfl) (Wt.none rfl) rfl rfl ?_
    refine WL.q (y_move rfl) (Wt.none rfl) rfl rfl ?_
    apply WL.and 3 (t := 38) (d := 41)
    · exact rfl
    · intro hg38
      refine WL.q (y_move rfl) (Wt.yes rfl rfl rfl) rfl rfl ?_
      refine WL.fn rfl rfl rfl rfl (f61_c _) ⟨(Le.refl _), trivial⟩ (Wt.yes rfl rfl rfl) rfl rfl ?_
      refine WL.q (y_pick_t rfl rfl) (Wt.none rfl) rfl rfl ?_
      exact WL.nil ⟨rfl, [_, _, _], rfl, rfl, rfl⟩
    · refine WL.skips 2 rfl ?_
      refine WL.q (y_pick_f rfl rfl) (Wt.none rfl) rfl rfl ?_
      exact WL.nil ⟨rfl, [_, _, _], rfl, rfl, rfl⟩
    refine WL.q (y_assign rfl) (Wt.none rfl) rfl rfl ?_
    refine WL.q (y_assign rfl) (Wt.none rfl) rfl rfl ?_
    refine WL.nil ?_
    refine we_seq ?_
    refine wc_ret ?_
    obtain rfl := Option.some.inj h
    exact we_ret_fn (rs2 rfl (rv_t rfl) (rv_t rfl)) (Le.tud ⟨(Le.refl _), (Le.refl _), trivial⟩)

theorem f73_c (val : Wk → CE → Option (Int × Bool)) (w0 : Wk) (e1 : CE) (hval : ∀ (x0 : Wk) (x1 : CE) (r : Int × Bool), val x0 x1 = some r → Pu Try.prog 53 [.ag (R82 x0), .ag (R26 x1)] (.tu [.i .i64 r.1, .b r.2])) {r : Int × Bool} (h : f73 val w0 e1 = some r) : Pu Try.prog 73 [.ag (R82 w0), .ag (R26 e1)] (.tu [.i .i64 r.1, .b r.2]) := by
  unfold f73 at h
  refine fn_intro Try.func73 (by kernel_rfl) rfl rfl rfl (fun φφ ww => ?_)
  refine wc_seq ?_
  refine wc_region ?_
  refine WL.s ((b_boxd rfl rfl (Les.refl _)).does) (Wt.none rfl) rfl rfl ?_
  refine WL.s ((b_boxd rfl rfl (Les.refl _)).does) (Wt.none rfl) rfl rfl ?_
  refine WL.q (y_assign rfl) (Wt.none rfl) rfl rfl ?_
  refine WL.q (y_assign rfl) (Wt.none rfl) rfl rfl ?_
  refine WL.nil ?_
  refine we_seq ?_
  refine wc_seq ?_
  refine wc_region_draw (by kernel_rfl) (by kernel_rfl) ?_
  refine WQ.q (Yields.quiet (y_loadcN rfl a82 s82 rfl)) (Wt.none rfl) rfl rfl ?_
  refine WQ.q (Yields.quiet (y_fieldAddrc f26_8 rfl)) (Wt.none rfl) rfl rfl ?_
  refine WQ.q (Yields.quiet (y_loadc rfl a24 rfl)) (Wt.none rfl) rfl rfl ?_
  replace h := bindS h
  obtain ⟨x57, hx57, h⟩ := h
  refine WQ.q (Yields.quiet (y_indexAddr e24 rfl (Le.refl _) rfl (idx_nonneg hx57) (idx_row E26_eq hx57) rfl)) (Wt.none rfl) rfl rfl ?_
  refine WQ.q (Yields.quiet (y_loadcN rfl a26 s26 rfl)) (Wt.none rfl) rfl rfl ?_
  replace h := bindS h
  obtain ⟨r58, hr58, h⟩ := h
  refine WQ.q (YieldsQ.fn rfl rfl rfl rfl rfl (hval _ _ _ hr58) ⟨(Le.refl _), (Le.refl _), trivial⟩) (Wt.none rfl) rfl rfl ?_
  refine WQ.q (Yields.quiet (y_move rfl)) (Wt.none rfl) rfl rfl ?_
  refine WQ.q (Yields.quiet (y_extractd rfl rfl)) (Wt.none rfl) rfl rfl ?_
  refine WQ.q (Yields.quiet (y_extractd rfl rfl)) (Wt.none rfl) rfl rfl ?_
  refine WQ.q (Yields.quiet (y_assign rfl)) (Wt.none rfl) rfl rfl ?_
  refine WQ.q (Yields.quiet (y_assign rfl)) (Wt.none rfl) rfl rfl ?_
  refine WQ.nil ?_
  refine we_seq ?_
  refine wc_seq ?_
  refine wc_seq ?_
  refine wc_region ?_
  refine WL.q (y_move rfl) (Wt.none rfl) rfl rfl ?_
  refine WL.q (y_not rfl) (Wt.none rfl) rfl rfl ?_
  refine WL.q (y_move rfl) (Wt.none rfl) rfl rfl ?_
  apply WL.or 4 (t := 20) (d := 24)
  · exact rfl
  · intro hg20
    refine WL.q (y_move rfl) (Wt.yes rfl rfl rfl) rfl rfl ?_
    refine WL.fn rfl rfl rfl rfl (f63_c _ _ _) ⟨(Le.refl _), (Le.refl _), (Le.refl _), trivial⟩ (Wt.yes rfl rfl rfl) rfl rfl ?_
    refine WL.q (y_not rfl) (Wt.yes rfl rfl rfl) rfl rfl ?_
    refine WL.q (y_pick_f rfl rfl) (Wt.none rfl) rfl rfl ?_
    exact WL.nil ⟨rfl, [_, _, _, _], rfl, rfl, rfl⟩
  · refine WL.skips 3 rfl ?_
    refine WL.q (y_pick_t rfl rfl) (Wt.none rfl) rfl rfl ?_
    exact WL.nil ⟨rfl, [_, _, _, _], rfl, rfl, rfl⟩
  refine WL.q (y_move rfl) (Wt.none rfl) rfl rfl ?_
  apply WL.or 7 (t := 25) (d := 32)
  · exact rfl
  · intro hg25
    refine WL.q (y_move rfl) (Wt.yes rfl rfl rfl) rfl rfl ?_
    refine WL.q (y_fieldAddrc f26_0 rfl) (Wt.yes rfl rfl rfl) rfl rfl ?_
    refine WL.q (y_loadc rfl a22 rfl) (Wt.yes rfl rfl rfl) rfl rfl ?_
    refine WL.q (y_eql rfl rfl) (Wt.yes rfl rfl rfl) rfl rfl ?_
    refine WL.fn rfl rfl rfl rfl (f100_c _) ⟨(Le.refl _), trivial⟩ (Wt.yes rfl rfl rfl) rfl rfl ?_
    refine WL.q (y_eql rfl rfl) (Wt.yes rfl rfl rfl) rfl rfl ?_
    refine WL.q (y_pick_f rfl rfl) (Wt.none rfl) rfl rfl ?_
    exact WL.nil ⟨rfl, [_, _, _, _, _, _, _], rfl, rfl, rfl⟩
  · refine WL.skips 6 rfl ?_
    refine WL.q (y_pick_t rfl rfl) (Wt.none rfl) rfl rfl ?_
    exact WL.nil ⟨rfl, [_, _, _, _, _, _, _], rfl, rfl, rfl⟩
  refine WL.nil ?_
  refine we_seq ?_
  refine wc_cond rfl (fun hc1 => ?_) (fun hc1 => ?_)
  · replace h := condT h hc1
    refine wc_seq ?_
    refine wc_region ?_
    refine WL.q (y_move rfl) (Wt.none rfl) rfl rfl ?_
    refine WL.q (y_move rfl) (Wt.none rfl) rfl rfl ?_
    refine WL.q (y_move rfl) (Wt.none rfl) rfl rfl ?_
    apply WL.and 3 (t := 35) (d := 38)
    · exact rfl
    · intro hg35
      refine WL.q (y_move rfl) (Wt.yes rfl rfl rfl) rfl rfl ?_
      refine WL.fn rfl rfl rfl rfl (f63_c _ _ _) ⟨(Le.refl _), (Le.refl _), (Le.refl _), trivial⟩ (Wt.yes rfl rfl rfl) rfl rfl ?_
      refine WL.q (y_pick_t rfl rfl) (Wt.none rfl) rfl rfl ?_
      exact WL.nil ⟨rfl, [_, _, _], rfl, rfl, rfl⟩
    · refine WL.skips 2 rfl ?_
      refine WL.q (y_pick_f rfl rfl) (Wt.none rfl) rfl rfl ?_
      exact WL.nil ⟨rfl, [_, _, _], rfl, rfl, rfl⟩
    refine WL.q (y_assign rfl) (Wt.none rfl) rfl rfl ?_
    refine WL.q (y_assign rfl) (Wt.none rfl) rfl rfl ?_
    refine WL.nil ?_
    refine we_seq ?_
    refine wc_ret ?_
    refine we_seq_ret ?_
    obtain rfl := Option.some.inj h
    exact we_ret_fn (rs2 rfl (rv_t rfl) (rv_t rfl)) (Le.tud ⟨(Le.refl _), (Le.refl _), trivial⟩)
  · replace h := condF h hc1
    refine wc_skip ?_
    refine we_seq ?_
    refine wc_seq ?_
    refine wc_region_draw (by kernel_rfl) (by kernel_rfl) ?_
    refine WQ.q (Yields.quiet (y_loadcN rfl a82 s82 rfl)) (Wt.none rfl) rfl rfl ?_
    refine WQ.q (Yields.quiet (y_fieldAddrc f26_8 rfl)) (Wt.none rfl) rfl rfl ?_
    refine WQ.q (Yields.quiet (y_loadc rfl a24 rfl)) (Wt.none rfl) rfl rfl ?_
    replace h := bindS h
    obtain ⟨x59, hx59, h⟩ := h
    refine WQ.q (Yields.quiet (y_indexAddr e24 rfl (Le.refl _) rfl (idx_nonneg hx59) (idx_row E26_eq hx59) rfl)) (Wt.none rfl) rfl rfl ?_
    refine WQ.q (Yields.quiet (y_loadcN rfl a26 s26 rfl)) (Wt.none rfl) rfl rfl ?_
    replace h := bindS h
    obtain ⟨r60, hr60, h⟩ := h
    refine WQ.q (YieldsQ.fn rfl rfl rfl rfl rfl (hval _ _ _ hr60) ⟨(Le.refl _), (Le.refl _), trivial⟩) (Wt.none rfl) rfl rfl ?_
    refine WQ.q (Yields.quiet (y_move rfl)) (Wt.none rfl) rfl rfl ?_
    refine WQ.q (Yields.quiet (y_extractd rfl rfl)) (Wt.none rfl) rfl rfl ?_
    refine WQ.q (Yields.quiet (y_extractd rfl rfl)) (Wt.none rfl) rfl rfl ?_
    refine WQ.q (Yields.quiet (y_assign rfl)) (Wt.none rfl) rfl rfl ?_
    refine WQ.q (Yields.quiet (y_assign rfl)) (Wt.none rfl) rfl rfl ?_
    refine WQ.nil ?_
    refine we_seq ?_
    refine wc_seq ?_
    refine wc_region ?_
    refine WL.q (y_move rfl) (Wt.none rfl) rfl rfl ?_
    refine WL.q (y_move rfl) (Wt.none rfl) rfl rfl ?_
    refine WL.q (y_move rfl) (Wt.none rfl) rfl rfl ?_
    apply WL.and 3 (t := 50) (d := 53)
    · exact rfl
    · intro hg50
      refine WL.q (y_move rfl) (Wt.yes rfl rfl rfl) rfl rfl ?_
      refine WL.fn rfl rfl rfl rfl (f63_c _ _ _) ⟨(Le.refl _), (Le.refl _), (Le.refl _), trivial⟩ (Wt.yes rfl rfl rfl) rfl rfl ?_
      refine WL.q (y_pick_t rfl rfl) (Wt.none rfl) rfl rfl ?_
      exact WL.nil ⟨rfl, [_, _, _], rfl, rfl, rfl⟩
    · refine WL.skips 2 rfl ?_
      refine WL.q (y_pick_f rfl rfl) (Wt.none rfl) rfl rfl ?_
      exact WL.nil ⟨rfl, [_, _, _], rfl, rfl, rfl⟩
    refine WL.q (y_assign rfl) (Wt.none rfl) rfl rfl ?_
    refine WL.q (y_assign rfl) (Wt.none rfl) rfl rfl ?_
    refine WL.nil ?_
    refine we_seq ?_
    refine wc_ret ?_
    obtain rfl := Option.some.inj h
    exact we_ret_fn (rs2 rfl (rv_t rfl) (rv_t rfl)) (Le.tud ⟨(Le.refl _), (Le.refl _), trivial⟩)

theorem f74_c (val : Wk → CE → Option (Int × Bool)) (w0 : Wk) (e1 : CE) (hval : ∀ (x0 : Wk) (x1 : CE) (r : Int × Bool), val x0 x1 = some r → Pu Try.prog 53 [.ag (R82 x0), .ag (R26 x1)] (.tu [.i .i64 r.1, .b r.2])) {r : Int × Bool} (h : f74 val w0 e1 = some r) : Pu Try.prog 74 [.ag (R82 w0), .ag (R26 e1)] (.tu [.i .i64 r.1, .b r.2]) := by
  unfold f74 at h
  refine fn_intro Try.func74 (by kernel_rfl) rfl rfl rfl (fun φφ ww => ?_)
  refine wc_seq ?_
  refine wc_region ?_
  refine WL.s ((b_boxd rfl rfl (Les.refl _)).does) (Wt.none rfl) rfl rfl ?_
  refine WL.s ((b_boxd rfl rfl (Les.refl _)).does) (Wt.none rfl) rfl rfl ?_
  refine WL.q (y_assign rfl) (Wt.none rfl) rfl rfl ?_
  refine WL.q (y_assign rfl) (Wt.none rfl) rfl rfl ?_
  refine WL.nil ?_
  refine we_seq ?_
  refine wc_seq ?_
  refine wc_region_draw (by kernel_rfl) (by kernel_rfl) ?_
  refine WQ.q (Yields.quiet (y_loadcN rfl a82 s82 rfl)) (Wt.none rfl) rfl rfl ?_
  refine WQ.q (Yields.quiet (y_fieldAddrc f26_8 rfl)) (Wt.none rfl) rfl rfl ?_
  refine WQ.q (Yields.quiet (y_loadc rfl a24 rfl)) (Wt.none rfl) rfl rfl ?_
  replace h := bindS h
  obtain ⟨x37, hx37, h⟩ := h
  refine WQ.q (Yields.quiet (y_indexAddr e24 rfl (Le.refl _) rfl (idx_nonneg hx37) (idx_row E26_eq hx37) rfl)) (Wt.none rfl) rfl rfl ?_
  refine WQ.q (Yields.quiet (y_loadcN rfl a26 s26 rfl)) (Wt.none rfl) rfl rfl ?_
  replace h := bindS h
  obtain ⟨r38, hr38, h⟩ := h
  refine WQ.q (YieldsQ.fn rfl rfl rfl rfl rfl (hval _ _ _ hr38) ⟨(Le.refl _), (Le.refl _), trivial⟩) (Wt.none rfl) rfl rfl ?_
  refine WQ.q (Yields.quiet (y_move rfl)) (Wt.none rfl) rfl rfl ?_
  refine WQ.q (Yields.quiet (y_extractd rfl rfl)) (Wt.none rfl) rfl rfl ?_
  refine WQ.q (Yields.quiet (y_extractd rfl rfl)) (Wt.none rfl) rfl rfl ?_
  refine WQ.q (Yields.quiet (y_assign rfl)) (Wt.none rfl) rfl rfl ?_
  refine WQ.q (Yields.quiet (y_assign rfl)) (Wt.none rfl) rfl rfl ?_
  refine WQ.nil ?_
  refine we_seq ?_
  refine wc_seq ?_
  refine wc_seq ?_
  refine wc_region ?_
  refine WL.q (y_move rfl) (Wt.none rfl) rfl rfl ?_
  refine WL.q (y_not rfl) (Wt.none rfl) rfl rfl ?_
  refine WL.q (y_move rfl) (Wt.none rfl) rfl rfl ?_
  apply WL.or 4 (t := 19) (d := 23)
  · exact rfl
  · intro hg19
    refine WL.q (y_move rfl) (Wt.yes rfl rfl rfl) rfl rfl ?_
    refine WL.fn rfl rfl rfl rfl (f63_c _ _ _) ⟨(Le.refl _), (Le.refl _), (Le.refl _), trivial⟩ (Wt.yes rfl rfl rfl) rfl rfl ?_
    refine WL.q (y_not rfl) (Wt.yes rfl rfl rfl) rfl rfl ?_
    refine WL.q (y_pick_f rfl rfl) (Wt.none rfl) rfl rfl ?_
    exact WL.nil ⟨rfl, [_, _, _, _], rfl, rfl, rfl⟩
  · refine WL.skips 3 rfl ?_
    refine WL.q (y_pick_t rfl rfl) (Wt.none rfl) rfl rfl ?_
    exact WL.nil ⟨rfl, [_, _, _, _], rfl, rfl, rfl⟩
  refine WL.nil ?_
  refine we_seq ?_
  refine wc_cond rfl (fun hc1 => ?_) (fun hc1 => ?_)
  · replace h := condT h hc1
    refine wc_seq ?_
    refine wc_region ?_
    refine WL.q (y_assign rfl) (Wt.none rfl) rfl rfl ?_
    refine WL.q (y_assign rfl) (Wt.none rfl) rfl rfl ?_
    refine WL.nil ?_
    refine we_seq ?_
    refine wc_ret ?_
    refine we_seq_ret ?_
    obtain rfl := Option.some.inj h
    exact we_ret_fn (rs2 rfl (rv_t rfl) (rv_t rfl)) (Le.tud ⟨(Le.refl _), (Le.refl _), trivial⟩)
  · replace h := condF h hc1
    refine wc_skip ?_
    refine we_seq ?_
    refine wc_seq ?_
    refine wc_region_draw (by kernel_rfl) (by kernel_rfl) ?_
    refine WQ.q (Yields.quiet (y_loadcN rfl a82 s82 rfl)) (Wt.none rfl) rfl rfl ?_
    refine WQ.q (Yields.quiet (y_fieldAddrc f26_8 rfl)) (Wt.none rfl) rfl rfl ?_
    refine WQ.q (Yields.quiet (y_loadc rfl a24 rfl)) (Wt.none rfl) rfl rfl ?_
    refine WQ.q (Yields.quiet (y_move rfl)) (Wt.none rfl) rfl rfl ?_
    refine WQ.q (Yields.quiet (y_sub rfl rfl rfl)) (Wt.none rfl) rfl rfl ?_
    replace h := bindS h
    obtain ⟨x39, hx39, h⟩ := h
    refine WQ.q (Yields.quiet (y_indexAddr e24 rfl (Le.refl _) rfl (idx_nonneg hx39) (idx_row E26_eq hx39) rfl)) (Wt.none rfl) rfl rfl ?_
    refine WQ.q (Yields.quiet (y_loadcN rfl a26 s26 rfl)) (Wt.none rfl) rfl rfl ?_
    replace h := bindS h
    obtain ⟨r40, hr40, h⟩ := h
    refine WQ.q (YieldsQ.fn rfl rfl rfl rfl rfl (hval _ _ _ hr40) ⟨(Le.refl _), (Le.refl _), trivial⟩) (Wt.none rfl) rfl rfl ?_
    refine WQ.q (Yields.quiet (y_extractd rfl rfl)) (Wt.none rfl) rfl rfl ?_
    refine WQ.q (Yields.quiet (y_extractd rfl rfl)) (Wt.none rfl) rfl rfl ?_
    refine WQ.q (Yields.quiet (y_assign rfl)) (Wt.none rfl) rfl rfl ?_
    refine WQ.q (Yields.quiet (y_assign rfl)) (Wt.none rfl) rfl rfl ?_
    refine WQ.nil ?_
    refine we_seq ?_
    refine wc_ret ?_
    obtain rfl := Option.some.inj h
    exact we_ret_fn (rs2 rfl (rv_t rfl) (rv_t rfl)) (Le.tud ⟨(Le.refl _), (Le.refl _), trivial⟩)

theorem f75_c (val : Wk → CE → Option (Int × Bool)) (w0 : Wk) (e1 : CE) (hval : ∀ (x0 : Wk) (x1 : CE) (r : Int × Bool), val x0 x1 = some r → Pu Try.prog 53 [.ag (R82 x0), .ag (R26 x1)] (.tu [.i .i64 r.1, .b r.2])) {r : Int × Bool} (h : f75 val w0 e1 = some r) : Pu Try.prog 75 [.ag (R82 w0), .ag (R26 e1)] (.tu [.i .i64 r.1, .b r.2]) := by
  unfold f75 at h
  refine fn_intro Try.func75 (by kernel_rfl) rfl rfl rfl (fun φφ ww => ?_)
  refine wc_seq ?_
  refine wc_region ?_
  refine WL.s ((b_boxd rfl rfl (Les.refl _)).does) (Wt.none rfl) rfl rfl ?_
  refine WL.s ((b_boxd rfl rfl (Les.refl _)).does) (Wt.none rfl) rfl rfl ?_
  refine WL.q (y_assign rfl) (Wt.none rfl) rfl rfl ?_
  refine WL.q (y_assign rfl) (Wt.none rfl) rfl rfl ?_
  refine WL.nil ?_
  refine we_seq ?_
  refine wc_seq ?_
  refine wc_region_draw (by kernel_rfl) (by kernel_rfl) ?_
  refine WQ.q (Yields.quiet (y_loadcN rfl a82 s82 rfl)) (Wt.none rfl) rfl rfl ?_
  refine WQ.q (Yields.quiet (y_fieldAddrc f26_8 rfl)) (Wt.none rfl) rfl rfl ?_
  refine WQ.q (Yields.quiet (y_loadc rfl a24 rfl)) (Wt.none rfl) rfl rfl ?_
  replace h := bindS h
  obtain ⟨x30, hx30, h⟩ := h
  refine WQ.q (Yields.quiet (y_indexAddr e24 rfl (Le.refl _) rfl (idx_nonneg hx30) (idx_row E26_eq hx30) rfl)) (Wt.none rfl) rfl rfl ?_
  refine WQ.q (Yields.quiet (y_loadcN rfl a26 s26 rfl)) (Wt.none rfl) rfl rfl ?_
  replace h := bindS h
  obtain ⟨r31, hr31, h⟩ := h
  refine WQ.q (YieldsQ.fn rfl rfl rfl rfl rfl (hval _ _ _ hr31) ⟨(Le.refl _), (Le.refl _), trivial⟩) (Wt.none rfl) rfl rfl ?_
  refine WQ.q (Yields.quiet (y_move rfl)) (Wt.none rfl) rfl rfl ?_
  refine WQ.q (Yields.quiet (y_extractd rfl rfl)) (Wt.none rfl) rfl rfl ?_
  refine WQ.q (Yields.quiet (y_extractd rfl rfl)) (Wt.none rfl) rfl rfl ?_
  refine WQ.q (Yields.quiet (y_assign rfl)) (Wt.none rfl) rfl rfl ?_
  refine WQ.q (Yields.quiet (y_assign rfl)) (Wt.none rfl) rfl rfl ?_
  refine WQ.nil ?_
  refine we_seq ?_
  refine wc_seq ?_
  refine wc_region ?_
  refine WL.q (y_move rfl) (Wt.none rfl) rfl rfl ?_
  refine WL.q (y_move rfl) (Wt.none rfl) rfl rfl ?_
  refine WL.q (y_move rfl) (Wt.none rfl) rfl rfl ?_
  apply WL.and 7 (t := 19) (d := 26)
  · exact rfl
  · intro hg19
    refine WL.q (y_move rfl) (Wt.yes rfl rfl rfl) rfl rfl ?_
    refine WL.q (y_fieldAddrc f26_6 rfl) (Wt.yes rfl rfl rfl) rfl rfl ?_
    refine WL.q (y_loadc rfl a2 rfl) (Wt.yes rfl rfl rfl) rfl rfl ?_
    refine WL.q (y_fieldAddrc f26_7 rfl) (Wt.yes rfl rfl rfl) rfl rfl ?_
    refine WL.q (y_loadc rfl a2 rfl) (Wt.yes rfl rfl rfl) rfl rfl ?_
    refine WL.fn rfl rfl rfl rfl (f63_c _ _ _) ⟨(Le.refl _), (Le.refl _), (Le.refl _), trivial⟩ (Wt.yes rfl rfl rfl) rfl rfl ?_
    refine WL.q (y_pick_t rfl rfl) (Wt.none rfl) rfl rfl ?_
    exact WL.nil ⟨rfl, [_, _, _, _, _, _, _], rfl, rfl, rfl⟩
  · refine WL.skips 6 rfl ?_
    refine WL.q (y_pick_f rfl rfl) (Wt.none rfl) rfl rfl ?_
    exact WL.nil ⟨rfl, [_, _, _, _, _, _, _], rfl, rfl, rfl⟩
  refine WL.q (y_assign rfl) (Wt.none rfl) rfl rfl ?_
  refine WL.q (y_assign rfl) (Wt.none rfl) rfl rfl ?_
  refine WL.nil ?_
  refine we_seq ?_
  refine wc_ret ?_
  obtain rfl := Option.some.inj h
  exact we_ret_fn (rs2 rfl (rv_t rfl) (rv_t rfl)) (Le.tud ⟨(Le.refl _), (Le.refl _), trivial⟩)

theorem f76_c (val : Wk → CE → Option (Int × Bool)) (w0 : Wk) (e1 : CE) (hval : ∀ (x0 : Wk) (x1 : CE) (r : Int × Bool), val x0 x1 = some r → Pu Try.prog 53 [.ag (R82 x0), .ag (R26 x1)] (.tu [.i .i64 r.1, .b r.2])) {r : Int × Bool} (h : f76 val w0 e1 = some r) : Pu Try.prog 76 [.ag (R82 w0), .ag (R26 e1)] (.tu [.i .i64 r.1, .b r.2]) := by
  unfold f76 at h
  refine fn_intro Try.func76 (by kernel_rfl) rfl rfl rfl (fun φφ ww => ?_)
  refine wc_seq ?_
  refine wc_region ?_
  refine WL.s ((b_boxd rfl rfl (Les.refl _)).does) (Wt.none rfl) rfl rfl ?_
  refine WL.s ((b_boxd rfl rfl (Les.refl _)).does) (Wt.none rfl) rfl rfl ?_
  refine WL.q (y_assign rfl) (Wt.none rfl) rfl rfl ?_
  refine WL.q (y_assign rfl) (Wt.none rfl) rfl rfl ?_
  refine WL.nil ?_
  refine we_seq ?_
  refine wc_seq ?_
  refine wc_region_draw (by kernel_rfl) (by kernel_rfl) ?_
  refine WQ.q (Yields.quiet (y_loadcN rfl a82 s82 rfl)) (Wt.none rfl) rfl rfl ?_
  refine WQ.q (Yields.quiet (y_fieldAddrc f26_8 rfl)) (Wt.none rfl) rfl rfl ?_
  refine WQ.q (Yields.quiet (y_loadc rfl a24 rfl)) (Wt.none rfl) rfl rfl ?_
  replace h := bindS h
  obtain ⟨x44, hx44, h⟩ := h
  refine WQ.q (Yields.quiet (y_indexAddr e24 rfl (Le.refl _) rfl (idx_nonneg hx44) (idx_row E26_eq hx44) rfl)) (Wt.none rfl) rfl rfl ?_
  refine WQ.q (Yields.quiet (y_loadcN rfl a26 s26 rfl)) (Wt.none rfl) rfl rfl ?_
  replace h := bindS h
  obtain ⟨r45, hr45, h⟩ := h
  refine WQ.q (YieldsQ.fn rfl rfl rfl rfl rfl (hval _ _ _ hr45) ⟨(Le.refl _), (Le.refl _), trivial⟩) (Wt.none rfl) rfl rfl ?_
  refine WQ.q (Yields.quiet (y_move rfl)) (Wt.none rfl) rfl rfl ?_
  refine WQ.q (Yields.quiet (y_extractd rfl rfl)) (Wt.none rfl) rfl rfl ?_
  refine WQ.q (Yields.quiet (y_extractd rfl rfl)) (Wt.none rfl) rfl rfl ?_
  refine WQ.q (Yields.quiet (y_assign rfl)) (Wt.none rfl) rfl rfl ?_
  refine WQ.q (Yields.quiet (y_assign rfl)) (Wt.none rfl) rfl rfl ?_
  refine WQ.nil ?_
  refine we_seq ?_
  refine wc_seq ?_
  refine wc_seq ?_
  refine wc_region ?_
  refine WL.q (y_move rfl) (Wt.none rfl) rfl rfl ?_
  refine WL.q (y_not rfl) (Wt.none rfl) rfl rfl ?_
  refine WL.nil ?_
  refine we_seq ?_
  refine wc_cond rfl (fun hc1 => ?_) (fun hc1 => ?_)
  · replace h := condT h hc1
    refine wc_seq ?_
    refine wc_region ?_
    refine WL.q (y_assign rfl) (Wt.none rfl) rfl rfl ?_
    refine WL.q (y_assign rfl) (Wt.none rfl) rfl rfl ?_
    refine WL.nil ?_
    refine we_seq ?_
    refine wc_ret ?_
    refine we_seq_ret ?_
    obtain rfl := Option.some.inj h
    exact we_ret_fn (rs2 rfl (rv_t rfl) (rv_t rfl)) (Le.tud ⟨(Le.refl _), (Le.refl _), trivial⟩)
  · replace h := condF h hc1
    refine wc_skip ?_
    refine we_seq ?_
    refine wc_seq ?_
    replace h := guardBS h
    obtain ⟨hgg46, h⟩ := h
    replace h := guardBS h
    obtain ⟨hgg47, h⟩ := h
    replace h := bindS h
    obtain ⟨x48, hx48, h⟩ := h
    replace h := bindS h
    obtain ⟨r49, hr49, h⟩ := h
    apply wc_region_all [_, _, _, _, _, _, _, _, _, _, _, _, _, _, _, _, _, _, _, _, _, _, _, _] [[], [0], [], [2], [], [4], [4, 5], [], [7], [7, 8], [2, 3, 4, 5, 6, 7, 8, 9], [], [11], [2, 3, 4, 5, 6, 7, 8, 9, 10, 11, 12], [0, 1, 2, 3, 4, 5, 6, 7, 8, 9, 10, 11, 12, 13], [], [15], [15, 16], [15, 16, 17], [0, 1, 2, 3, 4, 5, 6, 7, 8, 9, 10, 11, 12, 13, 14, 15, 16, 17, 18], [0, 1, 2, 3, 4, 5, 6, 7, 8, 9, 10, 11, 12, 13, 14, 15, 16, 17, 18, 19], [0, 1, 2, 3, 4, 5, 6, 7, 8, 9, 10, 11, 12, 13, 14, 15, 16, 17, 18, 19], [0, 1, 2, 3, 4, 5, 6, 7, 8, 9, 10, 11, 12, 13, 14, 15, 16, 17, 18, 19, 20, 21], [0, 1, 2, 3, 4, 5, 6, 7, 8, 9, 10, 11, 12, 13, 14, 15, 16, 17, 18, 19, 20, 21, 22]] [] (fun c => List.getD [[]] c []) [([], [2], [0]), ([0], [], [0]), ([], [2], [0]), ([2], [], [0]), ([], [2], [0]), ([4], [], [0]), ([5], [], [0]), ([], [2], [0]), ([7], [], [0]), ([8], [], [0]), ([3, 6, 9], [], [0]), ([], [6], [0]), ([11], [], [0]), ([10, 12], [], [0]), ([1, 13], [], [0]), ([], [3], [0]), ([15], [], [0]), ([16], [], [0]), ([17], [], [0]), ([14, 18], [], [0]), ([19], [], [0]), ([19], [], [0]), ([20], [], [0]), ([21], [], [0])] (by kernel_rfl) (by kernel_rfl) rfl rfl rfl
    · refine ⟨?_, ?_, ?_, ?_, ?_, ?_, ?_, ?_, ?_, ?_, ?_, ?_, ?_, ?_, ?_, ?_, ?_, ?_, ?_, ?_, ?_, ?_, ?_, ?_, trivial⟩
      · refine ⟨fun F => ?_, trivial⟩
        refine WL.q (y_fieldAddrc f82_0 rfl) (Wt.none rfl) rfl rfl ?_
        exact WL.done1 rfl rfl rfl
      · refine ⟨fun F => ?_, trivial⟩
        refine WL.q (y_loadc rfl a80 rfl) (Wt.none rfl) rfl rfl ?_
        exact WL.done1 rfl rfl rfl
      · refine ⟨fun F => ?_, trivial⟩
        refine WL.q (y_fieldAddrc f82_1 rfl) (Wt.none rfl) rfl rfl ?_
        exact WL.done1 rfl rfl rfl
      · refine ⟨fun F => ?_, trivial⟩
        refine WL.q (y_loadc rfl a56 rfl) (Wt.none rfl) rfl rfl ?_
        exact WL.done1 rfl rfl rfl
      · refine ⟨fun F => ?_, trivial⟩
        refine WL.q (y_fieldAddrc f82_1 rfl) (Wt.none rfl) rfl rfl ?_
        exact WL.done1 rfl rfl rfl
      · refine ⟨fun F => ?_, trivial⟩
        refine WL.q (y_loadc rfl a56 rfl) (Wt.none rfl) rfl rfl ?_
        exact WL.done1 rfl rfl rfl
      · refine ⟨fun F => ?_, trivial⟩
        refine WL.q (y_len_map E2 w0.lets e56 rfl rfl (Le.refl _)) (Wt.none rfl) rfl rfl ?_
        exact WL.done1 rfl rfl rfl
      · refine ⟨fun F => ?_, trivial⟩
        refine WL.q (y_fieldAddrc f82_1 rfl) (Wt.none rfl) rfl rfl ?_
        exact WL.done1 rfl rfl rfl
      · refine ⟨fun F => ?_, trivial⟩
        refine WL.q (y_loadc rfl a56 rfl) (Wt.none rfl) rfl rfl ?_
        exact WL.done1 rfl rfl rfl
      · refine ⟨fun F => ?_, trivial⟩
        refine WL.q (y_len_map E2 w0.lets e56 rfl rfl (Le.refl _)) (Wt.none rfl) rfl rfl ?_
        exact WL.done1 rfl rfl rfl
      · refine ⟨fun F => ?_, trivial⟩
        refine WL.q (y_sliceLfull E2 w0.lets (l := 0) (h := (List.length w0.lets : Int)) e56 rfl (Le.refl _) rfl ⟨_, rfl⟩ ⟨_, rfl⟩ hgg46 (fun _ => rfl)) (Wt.none rfl) rfl rfl ?_
        exact WL.done1 rfl rfl rfl
      · refine ⟨fun F => ?_, trivial⟩
        refine WL.q (y_move rfl) (Wt.none rfl) rfl rfl ?_
        exact WL.done1 rfl rfl rfl
      · refine ⟨fun F => ?_, trivial⟩
        refine WL.s ((NewOs.data (n_buildSlice l56 z2 rfl (by decide) (by decide) rfl rfl rfl (by decide)) (by exact encA_map E2_eq [r45.1])).does) (Wt.none rfl) rfl rfl ?_
        exact WL.done1 rfl rfl rfl
      · refine ⟨fun F => ?_, trivial⟩
        refine WL.s ((b_appendFd (sliceF w0.lets 0 (List.length w0.lets : Int)) [r45.1] E2_eq l56 z2 rfl (by decide) rfl rfl rfl (Src.dataL (Le.refl _) E2_eq (fun _ => rfl)) (fun _ => rfl) hgg47).does) (Wt.none rfl) rfl rfl ?_
        exact WL.done1 rfl rfl rfl
      · refine ⟨fun F => ?_, trivial⟩
        refine WL.q (y_build p82 z82 rfl rfl) (Wt.none rfl) rfl rfl ?_
        exact WL.done1 rfl rfl rfl
      · refine ⟨fun F => ?_, trivial⟩
        refine WL.q (y_fieldAddrc f26_8 rfl) (Wt.none rfl) rfl rfl ?_
        exact WL.done1 rfl rfl rfl
      · refine ⟨fun F => ?_, trivial⟩
        refine WL.q (y_loadc rfl a24 rfl) (Wt.none rfl) rfl rfl ?_
        exact WL.done1 rfl rfl rfl
      · refine ⟨fun F => ?_, trivial⟩
        refine WL.q (y_indexAddr e24 rfl (Le.refl _) rfl (idx_nonneg hx48) (idx_row E26_eq hx48) rfl) (Wt.none rfl) rfl rfl ?_
        exact WL.done1 rfl rfl rfl
      · refine ⟨fun F => ?_, trivial⟩
        refine WL.q (y_loadcN rfl a26 s26 rfl) (Wt.none rfl) rfl rfl ?_
        exact WL.done1 rfl rfl rfl
      · refine ⟨fun F => ?_, trivial⟩
        refine WL.fn rfl rfl rfl rfl (hval _ _ _ hr49) ⟨(Le.agd ⟨(Le.refl _), (Le.refl _), trivial⟩), (Le.refl _), trivial⟩ (Wt.none rfl) rfl rfl ?_
        exact WL.done1 rfl rfl rfl
      · refine ⟨fun F => ?_, trivial⟩
        refine WL.q (y_extractd rfl rfl) (Wt.none rfl) rfl rfl ?_
        exact WL.done1 rfl rfl rfl
      · refine ⟨fun F => ?_, trivial⟩
        refine WL.q (y_extractd rfl rfl) (Wt.none rfl) rfl rfl ?_
        exact WL.done1 rfl rfl rfl
      · refine ⟨fun F => ?_, trivial⟩
        refine WL.q (y_assign rfl) (Wt.none rfl) rfl rfl ?_
        exact WL.done1 rfl rfl rfl
      · refine ⟨fun F => ?_, trivial⟩
        refine WL.q (y_assign rfl) (Wt.none rfl) rfl rfl ?_
        exact WL.done1 rfl rfl rfl
    · refine we_seq ?_
      refine wc_ret ?_
      obtain rfl := Option.some.inj h
      exact we_ret_fn (rs2 rfl (rv_t rfl) (rv_t rfl)) (Le.tud ⟨(Le.refl _), (Le.refl _), trivial⟩)

theorem f78_c (val : Wk → CE → Option (Int × Bool)) (w0 : Wk) (e1 : CE) (hval : ∀ (x0 : Wk) (x1 : CE) (r : Int × Bool), val x0 x1 = some r → Pu Try.prog 53 [.ag (R82 x0), .ag (R26 x1)] (.tu [.i .i64 r.1, .b r.2])) {r : Int × Bool} (h : f78 val w0 e1 = some r) : Pu Try.prog 78 [.ag (R82 w0), .ag (R26 e1)] (.tu [.i .i64 r.1, .b r.2]) := by
  unfold f78 at h
  refine fn_intro Try.func78 (by kernel_rfl) rfl rfl rfl (fun φφ ww => ?_)
  refine wc_seq ?_
  refine wc_region ?_
  refine WL.s ((b_boxd rfl rfl (Les.refl _)).does) (Wt.none rfl) rfl rfl ?_
  refine WL.s ((b_boxd rfl rfl (Les.refl _)).does) (Wt.none rfl) rfl rfl ?_
  refine WL.q (y_assign rfl) (Wt.none rfl) rfl rfl ?_
  refine WL.q (y_assign rfl) (Wt.none rfl) rfl rfl ?_
  refine WL.nil ?_
  refine we_seq ?_
  refine wc_seq ?_
  refine wc_region_draw (by kernel_rfl) (by kernel_rfl) ?_
  refine WQ.q (Yields.quiet (y_loadcN rfl a82 s82 rfl)) (Wt.none rfl) rfl rfl ?_
  refine WQ.q (Yields.quiet (y_fieldAddrc f26_8 rfl)) (Wt.none rfl) rfl rfl ?_
  refine WQ.q (Yields.quiet (y_loadc rfl a24 rfl)) (Wt.none rfl) rfl rfl ?_
  replace h := bindS h
  obtain ⟨x33, hx33, h⟩ := h
  refine WQ.q (Yields.quiet (y_indexAddr e24 rfl (Le.refl _) rfl (idx_nonneg hx33) (idx_row E26_eq hx33) rfl)) (Wt.none rfl) rfl rfl ?_
  refine WQ.q (Yields.quiet (y_loadcN rfl a26 s26 rfl)) (Wt.none rfl) rfl rfl ?_
  replace h := bindS h
  obtain ⟨r34, hr34, h⟩ := h
  refine WQ.q (YieldsQ.fn rfl rfl rfl rfl rfl (hval _ _ _ hr34) ⟨(Le.refl _), (Le.refl _), trivial⟩) (Wt.none rfl) rfl rfl ?_
  refine WQ.q (Yields.quiet (y_move rfl)) (Wt.none rfl) rfl rfl ?_
  refine WQ.q (Yields.quiet (y_extractd rfl rfl)) (Wt.none rfl) rfl rfl ?_
  refine WQ.q (Yields.quiet (y_extractd rfl rfl)) (Wt.none rfl) rfl rfl ?_
  refine WQ.q (Yields.quiet (y_assign rfl)) (Wt.none rfl) rfl rfl ?_
  refine WQ.q (Yields.quiet (y_assign rfl)) (Wt.none rfl) rfl rfl ?_
  refine WQ.nil ?_
  refine we_seq ?_
  refine wc_seq ?_
  refine wc_seq ?_
  refine wc_region ?_
  refine WL.q (y_move rfl) (Wt.none rfl) rfl rfl ?_
  refine WL.q (y_not rfl) (Wt.none rfl) rfl rfl ?_
  refine WL.q (y_move rfl) (Wt.none rfl) rfl rfl ?_
  apply WL.or 3 (t := 19) (d := 22)
  · exact rfl
  · intro hg19
    refine WL.q (y_move rfl) (Wt.yes rfl rfl rfl) rfl rfl ?_
    refine WL.q (y_lss rfl rfl) (Wt.yes rfl rfl rfl) rfl rfl ?_
    refine WL.q (y_pick_f rfl rfl) (Wt.none rfl) rfl rfl ?_
    exact WL.nil ⟨rfl, [_, _, _], rfl, rfl, rfl⟩
  · refine WL.skips 2 rfl ?_
    refine WL.q (y_pick_t rfl rfl) (Wt.none rfl) rfl rfl ?_
    exact WL.nil ⟨rfl, [_, _, _], rfl, rfl, rfl⟩
  refine WL.nil ?_
  refine we_seq ?_
  refine wc_cond rfl (fun hc1 => ?_) (fun hc1 => ?_)
  · replace h := condT h hc1
    refine wc_seq ?_
    refine wc_region ?_
    refine WL.q (y_assign rfl) (Wt.none rfl) rfl rfl ?_
    refine WL.q (y_assign rfl) (Wt.none rfl) rfl rfl ?_
    refine WL.nil ?_
    refine we_seq ?_
    refine wc_ret ?_
    refine we_seq_ret ?_
    obtain rfl := Option.some.inj h
    exact we_ret_fn (rs2 rfl (rv_t rfl) (rv_t rfl)) (Le.tud ⟨(Le.refl _), (Le.refl _), trivial⟩)
  · replace h := condF h hc1
    refine wc_skip ?_
    refine we_seq ?_
    refine wc_seq ?_
    refine wc_region ?_
    refine WL.q (y_fieldAddrc f82_0 rfl) (Wt.none rfl) rfl rfl ?_
    refine WL.q (y_loadc rfl a80 rfl) (Wt.none rfl) rfl rfl ?_
    refine WL.q (y_move rfl) (Wt.none rfl) rfl rfl ?_
    refine WL.q (y_sub rfl rfl rfl) (Wt.none rfl) rfl rfl ?_
    replace h := bindS h
    obtain ⟨r35, hr35, h⟩ := h
    refine WL.inv rfl rfl rfl rfl meth_slot (f125_c _ _ _ hr35) ⟨Le.refl _, (Le.refl _), (Le.refl _), trivial⟩ (Wt.none rfl) rfl rfl ?_
    refine WL.q (y_extractd rfl rfl) (Wt.none rfl) rfl rfl ?_
    refine WL.q (y_extractd rfl rfl) (Wt.none rfl) rfl rfl ?_
    refine WL.q (y_assign rfl) (Wt.none rfl) rfl rfl ?_
    refine WL.q (y_assign rfl) (Wt.none rfl) rfl rfl ?_
    refine WL.nil ?_
    refine we_seq ?_
    refine wc_ret ?_
    obtain rfl := Option.some.inj h
    exact we_ret_fn (rs2 rfl (rv_t rfl) (rv_t rfl)) (Le.tud ⟨(Le.refl _), (Le.refl _), trivial⟩)

theorem f72_c (val : Wk → CE → Option (Int × Bool)) (w0 : Wk) (e1 : CE) (hval : ∀ (x0 : Wk) (x1 : CE) (r : Int × Bool), val x0 x1 = some r → Pu Try.prog 53 [.ag (R82 x0), .ag (R26 x1)] (.tu [.i .i64 r.1, .b r.2])) {r : Int × Bool} (h : f72 val w0 e1 = some r) : Pu Try.prog 72 [.ag (R82 w0), .ag (R26 e1)] (.tu [.i .i64 r.1, .b r.2]) := by
  unfold f72 at h
  refine fn_intro Try.func72 (by kernel_rfl) rfl rfl rfl (fun φφ ww => ?_)
  refine wc_seq ?_
  refine wc_region ?_
  refine WL.s ((b_boxd rfl rfl (Les.refl _)).does) (Wt.none rfl) rfl rfl ?_
  refine WL.s ((b_boxd rfl rfl (Les.refl _)).does) (Wt.none rfl) rfl rfl ?_
  refine WL.q (y_assign rfl) (Wt.none rfl) rfl rfl ?_
  refine WL.q (y_assign rfl) (Wt.none rfl) rfl rfl ?_
  refine WL.nil ?_
  refine we_seq ?_
  refine wc_seq ?_
  refine wc_region_draw (by kernel_rfl) (by kernel_rfl) ?_
  refine WQ.q (Yields.quiet (y_loadcN rfl a82 s82 rfl)) (Wt.none rfl) rfl rfl ?_
  refine WQ.q (Yields.quiet (y_fieldAddrc f26_8 rfl)) (Wt.none rfl) rfl rfl ?_
  refine WQ.q (Yields.quiet (y_loadc rfl a24 rfl)) (Wt.none rfl) rfl rfl ?_
  replace h := bindS h
  obtain ⟨x149, hx149, h⟩ := h
  refine WQ.q (Yields.quiet (y_indexAddr e24 rfl (Le.refl _) rfl (idx_nonneg hx149) (idx_row E26_eq hx149) rfl)) (Wt.none rfl) rfl rfl ?_
  refine WQ.q (Yields.quiet (y_loadcN rfl a26 s26 rfl)) (Wt.none rfl) rfl rfl ?_
  replace h := bindS h
  obtain ⟨r150, hr150, h⟩ := h
  refine WQ.q (YieldsQ.fn rfl rfl rfl rfl rfl (hval _ _ _ hr150) ⟨(Le.refl _), (Le.refl _), trivial⟩) (Wt.none rfl) rfl rfl ?_
  refine WQ.q (Yields.quiet (y_move rfl)) (Wt.none rfl) rfl rfl ?_
  refine WQ.q (Yields.quiet (y_extractd rfl rfl)) (Wt.none rfl) rfl rfl ?_
  refine WQ.q (Yields.quiet (y_extractd rfl rfl)) (Wt.none rfl) rfl rfl ?_
  refine WQ.q (Yields.quiet (y_assign rfl)) (Wt.none rfl) rfl rfl ?_
  refine WQ.q (Yields.quiet (y_assign rfl)) (Wt.none rfl) rfl rfl ?_
  refine WQ.nil ?_
  refine we_seq ?_
  refine wc_seq ?_
  refine wc_seq ?_
  refine wc_region ?_
  refine WL.q (y_move rfl) (Wt.none rfl) rfl rfl ?_
  refine WL.q (y_not rfl) (Wt.none rfl) rfl rfl ?_
  refine WL.nil ?_
  refine we_seq ?_
  refine wc_cond rfl (fun hc1 => ?_) (fun hc1 => ?_)
  · replace h := condT h hc1
    refine wc_seq ?_
    refine wc_region ?_
    refine WL.q (y_assign rfl) (Wt.none rfl) rfl rfl ?_
    refine WL.q (y_assign rfl) (Wt.none rfl) rfl rfl ?_
    refine WL.nil ?_
    refine we_seq ?_
    refine wc_ret ?_
    refine we_seq_ret ?_
    obtain rfl := Option.some.inj h
    exact we_ret_fn (rs2 rfl (rv_t rfl) (rv_t rfl)) (Le.tud ⟨(Le.refl _), (Le.refl _), trivial⟩)
  · replace h := condF h hc1
    refine wc_skip ?_
    refine we_seq ?_
    refine wc_seq ?_
    refine wc_region_draw (by kernel_rfl) (by kernel_rfl) ?_
    refine WQ.q (Yields.quiet (y_loadcN rfl a82 s82 rfl)) (Wt.none rfl) rfl rfl ?_
    refine WQ.q (Yields.quiet (y_fieldAddrc f26_8 rfl)) (Wt.none rfl) rfl rfl ?_
    refine WQ.q (Yields.quiet (y_loadc rfl a24 rfl)) (Wt.none rfl) rfl rfl ?_
    replace h := bindS h
    obtain ⟨x151, hx151, h⟩ := h
    refine WQ.q (Yields.quiet (y_indexAddr e24 rfl (Le.refl _) rfl (idx_nonneg hx151) (idx_row E26_eq hx151) rfl)) (Wt.none rfl) rfl rfl ?_
    refine WQ.q (Yields.quiet (y_loadcN rfl a26 s26 rfl)) (Wt.none rfl) rfl rfl ?_
    replace h := bindS h
    obtain ⟨r152, hr152, h⟩ := h
    refine WQ.q (YieldsQ.fn rfl rfl rfl rfl rfl (hval _ _ _ hr152) ⟨(Le.refl _), (Le.refl _), trivial⟩) (Wt.none rfl) rfl rfl ?_
    refine WQ.q (Yields.quiet (y_move rfl)) (Wt.none rfl) rfl rfl ?_
    refine WQ.q (Yields.quiet (y_extractd rfl rfl)) (Wt.none rfl) rfl rfl ?_
    refine WQ.q (Yields.quiet (y_extractd rfl rfl)) (Wt.none rfl) rfl rfl ?_
    refine WQ.q (Yields.quiet (y_assign rfl)) (Wt.none rfl) rfl rfl ?_
    refine WQ.q (Yields.quiet (y_assign rfl)) (Wt.none rfl) rfl rfl ?_
    refine WQ.nil ?_
    refine we_seq ?_
    refine wc_seq ?_
    refine wc_seq ?_
    refine wc_region ?_
    refine WL.q (y_move rfl) (Wt.none rfl) rfl rfl ?_
    refine WL.q (y_not rfl) (Wt.none rfl) rfl rfl ?_
    refine WL.q (y_move rfl) (Wt.none rfl) rfl rfl ?_
    apply WL.or 13 (t := 35) (d := 48)
    · exact rfl
    · intro hg35
      refine WL.q (y_move rfl) (Wt.yes rfl rfl rfl) rfl rfl ?_
      refine WL.q (y_eql rfl rfl) (Wt.yes rfl rfl rfl) rfl rfl ?_
      refine WL.q (y_move rfl) (Wt.yes rfl rfl rfl) rfl rfl ?_
      apply WL.and 4 (t := 38) (d := 42)
      · exact rfl
      · intro hg38
        refine WL.q (y_fieldAddrc f26_1 rfl) (Wt.yes rfl rfl rfl) rfl rfl ?_
        refine WL.q (y_loadc rfl a23 rfl) (Wt.yes rfl rfl rfl) rfl rfl ?_
        refine WL.q (y_geq rfl rfl) (Wt.yes rfl rfl rfl) rfl rfl ?_
        refine WL.q (y_pick_t rfl rfl) (Wt.yes rfl rfl rfl) rfl rfl ?_
        exact WL.nil ⟨rfl, [_, _, _, _], rfl, rfl, rfl⟩
      · refine WL.skips 3 rfl ?_
        refine WL.q (y_pick_f rfl rfl) (Wt.yes rfl rfl rfl) rfl rfl ?_
        exact WL.nil ⟨rfl, [_, _, _, _], rfl, rfl, rfl⟩
      refine WL.q (y_move rfl) (Wt.yes rfl rfl rfl) rfl rfl ?_
      apply WL.and 4 (t := 43) (d := 47)
      · exact rfl
      · intro hg43
        refine WL.q (y_fieldAddrc f26_1 rfl) (Wt.yes rfl rfl rfl) rfl rfl ?_
        refine WL.q (y_loadc rfl a23 rfl) (Wt.yes rfl rfl rfl) rfl rfl ?_
        refine WL.q (y_leq rfl rfl) (Wt.yes rfl rfl rfl) rfl rfl ?_
        refine WL.q (y_pick_t rfl rfl) (Wt.yes rfl rfl rfl) rfl rfl ?_
        exact WL.nil ⟨rfl, [_, _, _, _], rfl, rfl, rfl⟩
      · refine WL.skips 3 rfl ?_
        refine WL.q (y_pick_f rfl rfl) (Wt.yes rfl rfl rfl) rfl rfl ?_
        exact WL.nil ⟨rfl, [_, _, _, _], rfl, rfl, rfl⟩
      refine WL.q (y_pick_f rfl rfl) (Wt.none rfl) rfl rfl ?_
      exact WL.nil ⟨rfl, [_, _, _, _, _, _, _], rfl, rfl, rfl⟩
    · refine WL.skips 12 rfl ?_
      refine WL.q (y_pick_t rfl rfl) (Wt.none rfl) rfl rfl ?_
      exact WL.nil ⟨rfl, [_, _, _, _, _, _, _, _, _, _, _, _, _], rfl, rfl, rfl⟩
    refine WL.nil ?_
    refine we_seq ?_
    refine wc_cond rfl (fun hc2 => ?_) (fun hc2 => ?_)
    · replace h := condT h hc2
      refine wc_seq ?_
      refine wc_region ?_
      refine WL.q (y_assign rfl) (Wt.none rfl) rfl rfl ?_
      refine WL.q (y_assign rfl) (Wt.none rfl) rfl rfl ?_
      refine WL.nil ?_
      refine we_seq ?_
      refine wc_ret ?_
      refine we_seq_ret ?_
      obtain rfl := Option.some.inj h
      exact we_ret_fn (rs2 rfl (rv_t rfl) (rv_t rfl)) (Le.tud ⟨(Le.refl _), (Le.refl _), trivial⟩)
    · replace h := condF h hc2
      refine wc_skip ?_
      refine we_seq ?_
      refine wc_seq ?_
      refine wc_region ?_
      refine WL.q (y_assign rfl) (Wt.none rfl) rfl rfl ?_
      refine WL.nil ?_
      refine we_seq ?_
      replace h := letkS h
      obtain ⟨k154, hk154, h⟩ := h
      refine wc_cut (fun env' st' => ∃ (v153 : Int), k154 v153 = some r ∧ Sub [(10, .d (D.i .i64 v153))] env' ∧ SLe st' []) ?_ ?_
      · refine wc_seq ?_
        refine wc_region ?_
        refine WL.q (y_fieldAddrc f26_1 rfl) (Wt.none rfl) rfl rfl ?_
        refine WL.q (y_loadc rfl a23 rfl) (Wt.none rfl) rfl rfl ?_
        refine WL.nil ?_
        refine we_seq ?_
        refine wc_block ?_
        refine wc_seq ?_
        refine wc_region ?_
        refine WL.q (y_eql rfl rfl) (Wt.none rfl) rfl rfl ?_
        refine WL.q (y_assign rfl) (Wt.none rfl) rfl rfl ?_
        refine WL.nil ?_
        refine we_seq ?_
        refine wc_cond rfl (fun hc3 => ?_) (fun hc3 => ?_)
        · replace h := condT h hc3
          refine wc_region ?_
          refine WL.q (y_move rfl) (Wt.none rfl) rfl rfl ?_
          refine WL.q (y_move rfl) (Wt.none rfl) rfl rfl ?_
          refine WL.q (y_add rfl rfl rfl) (Wt.none rfl) rfl rfl ?_
          refine WL.q (y_assign rfl) (Wt.none rfl) rfl rfl ?_
          refine WL.nil ?_
          refine we_blk ?_
          exact we_lp ⟨(IntKind.i64.wrap (r150.1 + r152.1)), h, (Sub.cons rfl (Le.refl _) (Sub.nil _)), trivial⟩
        · replace h := condF h hc3
          refine wc_seq ?_
          refine wc_region ?_
          refine WL.q (y_eql rfl rfl) (Wt.none rfl) rfl rfl ?_
          refine WL.q (y_assign rfl) (Wt.none rfl) rfl rfl ?_
          refine WL.nil ?_
          refine we_seq ?_
          refine wc_cond rfl (fun hc4 => ?_) (fun hc4 => ?_)
          · replace h := condT h hc4
            refine wc_region ?_
            refine WL.q (y_move rfl) (Wt.none rfl) rfl rfl ?_
            refine WL.q (y_move rfl) (Wt.none rfl) rfl rfl ?_
            refine WL.q (y_sub rfl rfl rfl) (Wt.none rfl) rfl rfl ?_
            refine WL.q (y_assign rfl) (Wt.none rfl) rfl rfl ?_
            refine WL.nil ?_
            refine we_blk ?_
            exact we_lp ⟨(IntKind.i64.wrap (r150.1 - r152.1)), h, (Sub.cons rfl (Le.refl _) (Sub.nil _)), trivial⟩
          · replace h := condF h hc4
            refine wc_seq ?_
            refine wc_region ?_
            refine WL.q (y_eql rfl rfl) (Wt.none rfl) rfl rfl ?_
            refine WL.q (y_assign rfl) (Wt.none rfl) rfl rfl ?_
            refine WL.nil ?_
            refine we_seq ?_
            refine wc_cond rfl (fun hc5 => ?_) (fun hc5 => ?_)
            · replace h := condT h hc5
              refine wc_region ?_
              refine WL.q (y_move rfl) (Wt.none rfl) rfl rfl ?_
              refine WL.q (y_move rfl) (Wt.none rfl) rfl rfl ?_
              refine WL.q (y_mul rfl rfl rfl) (Wt.none rfl) rfl rfl ?_
              refine WL.q (y_assign rfl) (Wt.none rfl) rfl rfl ?_
              refine WL.nil ?_
              refine we_blk ?_
              exact we_lp ⟨(IntKind.i64.wrap (r150.1 * r152.1)), h, (Sub.cons rfl (Le.refl _) (Sub.nil _)), trivial⟩
            · replace h := condF h hc5
              refine wc_seq ?_
              refine wc_region ?_
              refine WL.q (y_eql rfl rfl) (Wt.none rfl) rfl rfl ?_
              refine WL.q (y_assign rfl) (Wt.none rfl) rfl rfl ?_
              refine WL.nil ?_
              refine we_seq ?_
              refine wc_cond rfl (fun hc6 => ?_) (fun hc6 => ?_)
              · replace h := condT h hc6
                refine wc_region ?_
                refine WL.q (y_move rfl) (Wt.none rfl) rfl rfl ?_
                refine WL.q (y_move rfl) (Wt.none rfl) rfl rfl ?_
                replace h := guardBS h
                obtain ⟨hgg155, h⟩ := h
                refine WL.q (y_quo rfl rfl (nz_ne hgg155) rfl) (Wt.none rfl) rfl rfl ?_
                refine WL.q (y_assign rfl) (Wt.none rfl) rfl rfl ?_
                refine WL.nil ?_
                refine we_blk ?_
                exact we_lp ⟨(IntKind.i64.wrap (Int.tdiv r150.1 r152.1)), h, (Sub.cons rfl (Le.refl _) (Sub.nil _)), trivial⟩
              · replace h := condF h hc6
                refine wc_seq ?_
                refine wc_region ?_
                refine WL.q (y_eql rfl rfl) (Wt.none rfl) rfl rfl ?_
                refine WL.q (y_assign rfl) (Wt.none rfl) rfl rfl ?_
                refine WL.nil ?_
                refine we_seq ?_
                refine wc_cond rfl (fun hc7 => ?_) (fun hc7 => ?_)
                · replace h := condT h hc7
                  refine wc_region ?_
                  refine WL.q (y_move rfl) (Wt.none rfl) rfl rfl ?_
                  refine WL.q (y_move rfl) (Wt.none rfl) rfl rfl ?_
                  replace h := guardBS h
                  obtain ⟨hgg156, h⟩ := h
                  refine WL.q (y_rem rfl rfl (nz_ne hgg156)) (Wt.none rfl) rfl rfl ?_
                  refine WL.q (y_assign rfl) (Wt.none rfl) rfl rfl ?_
                  refine WL.nil ?_
                  refine we_blk ?_
                  exact we_lp ⟨(Int.tmod r150.1 r152.1), h, (Sub.cons rfl (Le.refl _) (Sub.nil _)), trivial⟩
                · replace h := condF h hc7
                  refine wc_seq ?_
                  refine wc_region ?_
                  refine WL.q (y_eql rfl rfl) (Wt.none rfl) rfl rfl ?_
                  refine WL.q (y_assign rfl) (Wt.none rfl) rfl rfl ?_
                  refine WL.nil ?_
                  refine we_seq ?_
                  refine wc_cond rfl (fun hc8 => ?_) (fun hc8 => ?_)
                  · replace h := condT h hc8
                    refine wc_seq ?_
                    refine wc_region ?_
                    refine WL.q (y_move rfl) (Wt.none rfl) rfl rfl ?_
                    refine WL.q (y_move rfl) (Wt.none rfl) rfl rfl ?_
                    replace h := guardBS h
                    obtain ⟨hgg157, h⟩ := h
                    refine WL.q (y_rem rfl rfl (nz_ne hgg157)) (Wt.none rfl) rfl rfl ?_
                    refine WL.q (y_assign rfl) (Wt.none rfl) rfl rfl ?_
                    refine WL.nil ?_
                    refine we_seq ?_
                    refine wc_seq ?_
                    refine wc_region ?_
                    refine WL.q (y_move rfl) (Wt.none rfl) rfl rfl ?_
                    refine WL.q (y_neq rfl rfl) (Wt.none rfl) rfl rfl ?_
                    refine WL.q (y_move rfl) (Wt.none rfl) rfl rfl ?_
                    apply WL.and 6 (t := 108) (d := 114)
                    · exact rfl
                    · intro hg108
                      refine WL.q (y_move rfl) (Wt.yes rfl rfl rfl) rfl rfl ?_
                      refine WL.q (y_lss rfl rfl) (Wt.yes rfl rfl rfl) rfl rfl ?_
                      refine WL.q (y_move rfl) (Wt.yes rfl rfl rfl) rfl rfl ?_
                      refine WL.q (y_lss rfl rfl) (Wt.yes rfl rfl rfl) rfl rfl ?_
                      refine WL.q (y_neb Try.underlying4 rfl rfl) (Wt.yes rfl rfl rfl) rfl rfl ?_
                      refine WL.q (y_pick_t rfl rfl) (Wt.none rfl) rfl rfl ?_
                      exact WL.nil ⟨rfl, [_, _, _, _, _, _], rfl, rfl, rfl⟩
                    · refine WL.skips 5 rfl ?_
                      refine WL.q (y_pick_f rfl rfl) (Wt.none rfl) rfl rfl ?_
                      exact WL.nil ⟨rfl, [_, _, _, _, _, _], rfl, rfl, rfl⟩
                    refine WL.nil ?_
                    refine we_seq ?_
                    refine wc_cond rfl (fun hc9 => ?_) (fun hc9 => ?_)
                    · replace h := condT h hc9
                      refine wc_region ?_
                      refine WL.q (y_move rfl) (Wt.none rfl) rfl rfl ?_
                      refine WL.q (y_move rfl) (Wt.none rfl) rfl rfl ?_
                      refine WL.q (y_add rfl rfl rfl) (Wt.none rfl) rfl rfl ?_
                      refine WL.q (y_assign rfl) (Wt.none rfl) rfl rfl ?_
                      refine WL.nil ?_
                      refine we_blk ?_
                      exact we_lp ⟨(IntKind.i64.wrap ((Int.tmod r150.1 r152.1) + r152.1)), h, (Sub.cons rfl (Le.refl _) (Sub.nil _)), trivial⟩
                    · replace h := condF h hc9
                      refine wc_skip ?_
                      refine we_blk ?_
                      exact we_lp ⟨(Int.tmod r150.1 r152.1), h, (Sub.cons rfl (Le.refl _) (Sub.nil _)), trivial⟩
                  · replace h := condF h hc8
                    replace h := letkS h
                    obtain ⟨k159, hk159, h⟩ := h
                    refine wc_cut (fun env' st' => ∃ (t158 : Bool), k159 t158 = some r ∧ Sub [(3, .d (.pc (R26 e1))), (6, .d (D.i .i64 r150.1)), (8, .d (D.i .i64 r152.1)), (118, .d (D.b t158))] env' ∧ SLe st' []) ?_ ?_
                    · refine wc_seq ?_
                      refine wc_region ?_
                      refine WL.q (y_eql rfl rfl) (Wt.none rfl) rfl rfl ?_
                      refine WL.q (y_assign rfl) (Wt.none rfl) rfl rfl ?_
                      refine WL.nil ?_
                      refine we_seq ?_
                      refine wc_cond rfl (fun hc10 => ?_) (fun hc10 => ?_)
                      · replace h := condT h hc10
                        refine wc_skip ?_
                        exact we_lp ⟨(decide (e1.op = 13)), h, (Sub.cons rfl (Le.refl _) (Sub.cons rfl (Le.refl _) (Sub.cons rfl (Le.refl _) (Sub.cons rfl (Le.refl _) (Sub.nil _))))), trivial⟩
                      · replace h := condF h hc10
                        refine wc_seq ?_
                        refine wc_region ?_
                        refine WL.q (y_eql rfl rfl) (Wt.none rfl) rfl rfl ?_
                        refine WL.q (y_assign rfl) (Wt.none rfl) rfl rfl ?_
                        refine WL.nil ?_
                        refine we_seq ?_
                        refine wc_cond rfl (fun hc11 => ?_) (fun hc11 => ?_)
                        · replace h := condT h hc11
                          refine wc_skip ?_
                          exact we_lp ⟨(decide (e1.op = 14)), h, (Sub.cons rfl (Le.refl _) (Sub.cons rfl (Le.refl _) (Sub.cons rfl (Le.refl _) (Sub.cons rfl (Le.refl _) (Sub.nil _))))), trivial⟩
                        · replace h := condF h hc11
                          refine wc_region ?_
                          refine WL.q (y_eql rfl rfl) (Wt.none rfl) rfl rfl ?_
                          refine WL.q (y_assign rfl) (Wt.none rfl) rfl rfl ?_
                          refine WL.nil ?_
                          exact we_lp ⟨(decide (e1.op = 15)), h, (Sub.cons rfl (Le.refl _) (Sub.cons rfl (Le.refl _) (Sub.cons rfl (Le.refl _) (Sub.cons rfl (Le.refl _) (Sub.nil _))))), trivial⟩
                    · rintro env1 st1 ⟨t158, h, hsub, hst⟩
                      subst hk159
                      dsimp only at h
                      refine WC.sub hsub (WC.weak hst ?_)
                      refine wc_cond rfl (fun hc12 => ?_) (fun hc12 => ?_)
                      · replace h := condT h hc12
                        refine wc_seq ?_
                        refine wc_region ?_
                        refine WL.s ((b_makeMap (α := Int) (fun x : Int => Value.int .u8 x) (fun x : Int => AV.d (D.i .i64 x))).does) (Wt.none rfl) rfl rfl ?_
                        refine WL.q (y_move rfl) (Wt.none rfl) rfl rfl ?_
                        refine WL.q (y_move rfl) (Wt.none rfl) rfl rfl ?_
                        refine WL.q (y_and rfl rfl rfl) (Wt.none rfl) rfl rfl ?_
                        refine WL.s0 (d_mapUpdate (fun x : Int => Value.int .u8 x) (fun x : Int => AV.d (D.i .i64 x)) ([] : List (Int × Int)) (.inl rfl) Try.underlying122 Try.underlying23 (KeyF.int .u8) rfl rfl rfl rfl) (Wt.none rfl) rfl ?_
                        refine WL.q (y_move rfl) (Wt.none rfl) rfl rfl ?_
                        refine WL.q (y_move rfl) (Wt.none rfl) rfl rfl ?_
                        refine WL.q (y_or rfl rfl rfl) (Wt.none rfl) rfl rfl ?_
                        refine WL.s0 (d_mapUpdate (fun x : Int => Value.int .u8 x) (fun x : Int => AV.d (D.i .i64 x)) (mpPut ([] : List (Int × Int)) 13 (IntKind.i64.wrap (BitVec.ofInt IntKind.i64.bits r150.1 &&& BitVec.ofInt IntKind.i64.bits r152.1).toNat)) (.inl rfl) Try.underlying122 Try.underlying23 (KeyF.int .u8) rfl rfl rfl rfl) (Wt.none rfl) rfl ?_
                        refine WL.q (y_move rfl) (Wt.none rfl) rfl rfl ?_
                        refine WL.q (y_move rfl) (Wt.none rfl) rfl rfl ?_
                        refine WL.q (y_xor rfl rfl rfl) (Wt.none rfl) rfl rfl ?_
                        refine WL.s0 (d_mapUpdate (fun x : Int => Value.int .u8 x) (fun x : Int => AV.d (D.i .i64 x)) (mpPut (mpPut ([] : List (Int × Int)) 13 (IntKind.i64.wrap (BitVec.ofInt IntKind.i64.bits r150.1 &&& BitVec.ofInt IntKind.i64.bits r152.1).toNat)) 14 (IntKind.i64.wrap (BitVec.ofInt IntKind.i64.bits r150.1 ||| BitVec.ofInt IntKind.i64.bits r152.1).toNat)) (.inl rfl) Try.underlying122 Try.underlying23 (KeyF.int .u8) rfl rfl rfl rfl) (Wt.none rfl) rfl ?_
                        refine WL.q (y_move rfl) (Wt.none rfl) rfl rfl ?_
                        refine WL.q (y_assign rfl) (Wt.none rfl) rfl rfl ?_
                        refine WL.nil ?_
                        refine we_seq ?_
                        refine wc_seq ?_
                        refine wc_region_draw (by kernel_rfl) (by kernel_rfl) ?_
                        refine WQ.q (Yields.quiet (y_move rfl)) (Wt.none rfl) rfl rfl ?_
                        refine WQ.q (Yields.quiet (y_fieldAddrc f26_1 rfl)) (Wt.none rfl) rfl rfl ?_
                        refine WQ.q (Yields.quiet (y_loadc rfl a23 rfl)) (Wt.none rfl) rfl rfl ?_
                        refine WQ.q (Yields.quiet (y_lookup (fun x : Int => Value.int .u8 x) (fun x : Int => AV.d (D.i .i64 x)) (mpPut (mpPut (mpPut ([] : List (Int × Int)) 13 (IntKind.i64.wrap (BitVec.ofInt IntKind.i64.bits r150.1 &&& BitVec.ofInt IntKind.i64.bits r152.1).toNat)) 14 (IntKind.i64.wrap (BitVec.ofInt IntKind.i64.bits r150.1 ||| BitVec.ofInt IntKind.i64.bits r152.1).toNat)) 15 (IntKind.i64.wrap (BitVec.ofInt IntKind.i64.bits r150.1 ^^^ BitVec.ofInt IntKind.i64.bits r152.1).toNat)) (z := 0) Try.underlying122 Try.underlying23 (KeyF.int .u8) rfl rfl rfl (by kernel_rfl) rfl)) (Wt.none rfl) rfl rfl ?_
                        refine WQ.q (Yields.quiet (y_move rfl)) (Wt.none rfl) rfl rfl ?_
                        refine WQ.q (YieldsQ.fn rfl rfl rfl rfl rfl (f63_c _ _ _) ⟨(Le.refl _), (Le.refl _), (Le.refl _), trivial⟩) (Wt.none rfl) rfl rfl ?_
                        refine WQ.q (Yields.quiet (y_move rfl)) (Wt.none rfl) rfl rfl ?_
                        apply WQ.and 3 (t := 139) (d := 142)
                        · exact rfl
                        · intro hg139
                          refine WQ.q (Yields.quiet (y_move rfl)) (Wt.yes rfl rfl rfl) rfl rfl ?_
                          refine WQ.q (YieldsQ.fn rfl rfl rfl rfl rfl (f63_c _ _ _) ⟨(Le.refl _), (Le.refl _), (Le.refl _), trivial⟩) (Wt.yes rfl rfl rfl) rfl rfl ?_
                          refine WQ.q (Yields.quiet (y_pick_t rfl rfl)) (Wt.none rfl) rfl rfl ?_
                          exact WQ.nil ⟨[_, _, _], rfl, rfl, rfl⟩
                        · refine WQ.skips 2 rfl ?_
                          refine WQ.q (Yields.quiet (y_pick_f rfl rfl)) (Wt.none rfl) rfl rfl ?_
                          exact WQ.nil ⟨[_, _, _], rfl, rfl, rfl⟩
                        refine WQ.q (Yields.quiet (y_assign rfl)) (Wt.none rfl) rfl rfl ?_
                        refine WQ.q (Yields.quiet (y_assign rfl)) (Wt.none rfl) rfl rfl ?_
                        refine WQ.nil ?_
                        refine we_seq ?_
                        refine wc_ret ?_
                        refine we_blk_ret ?_
                        refine we_lp_ret ?_
                        obtain rfl := Option.some.inj h
                        exact we_ret_fn (rs2 rfl (rv_t rfl) (rv_t rfl)) (Le.tud ⟨(Le.refl _), (Le.refl _), trivial⟩)
                      · replace h := condF h hc12
                        refine wc_seq ?_
                        refine wc_region ?_
                        refine WL.q (y_move rfl) (Wt.none rfl) rfl rfl ?_
                        refine WL.q (y_move rfl) (Wt.none rfl) rfl rfl ?_
                        refine WL.q (y_eql rfl rfl) (Wt.none rfl) rfl rfl ?_
                        refine WL.q (y_move rfl) (Wt.none rfl) rfl rfl ?_
                        refine WL.q (y_move rfl) (Wt.none rfl) rfl rfl ?_
                        refine WL.q (y_neq rfl rfl) (Wt.none rfl) rfl rfl ?_
                        refine WL.q (y_move rfl) (Wt.none rfl) rfl rfl ?_
                        refine WL.q (y_move rfl) (Wt.none rfl) rfl rfl ?_
                        refine WL.q (y_lss rfl rfl) (Wt.none rfl) rfl rfl ?_
                        refine WL.q (y_move rfl) (Wt.none rfl) rfl rfl ?_
                        refine WL.q (y_move rfl) (Wt.none rfl) rfl rfl ?_
                        refine WL.q (y_leq rfl rfl) (Wt.none rfl) rfl rfl ?_
                        refine WL.q (y_move rfl) (Wt.none rfl) rfl rfl ?_
                        refine WL.q (y_move rfl) (Wt.none rfl) rfl rfl ?_
                        refine WL.q (y_gtr rfl rfl) (Wt.none rfl) rfl rfl ?_
                        refine WL.q (y_move rfl) (Wt.none rfl) rfl rfl ?_
                        refine WL.q (y_move rfl) (Wt.none rfl) rfl rfl ?_
                        refine WL.q (y_geq rfl rfl) (Wt.none rfl) rfl rfl ?_
                        refine WL.q (y_buildA r123 z123 rfl rfl) (Wt.none rfl) rfl rfl ?_
                        refine WL.s ((b_alloc z123).does) (Wt.none rfl) rfl rfl ?_
                        refine WL.s0 (d_store rfl rfl rfl rfl rfl rfl s123 rfl rfl) (Wt.none rfl) rfl ?_
                        refine WL.nil ?_
                        refine we_seq ?_
                        refine wc_region ?_
                        refine WL.q (y_fieldAddrc f26_1 rfl) (Wt.none rfl) rfl rfl ?_
                        refine WL.q (y_loadc rfl a23 rfl) (Wt.none rfl) rfl rfl ?_
                        refine WL.q (y_sub rfl rfl rfl) (Wt.none rfl) rfl rfl ?_
                        replace h := bindS h
                        obtain ⟨x160, hx160, h⟩ := h
                        refine WL.q (y_indexAddra r123 rfl rfl (idx_nonneg hx160) (idx_lt hx160)) (Wt.none rfl) rfl rfl ?_
                        refine WL.q (y_load rfl rfl a4 (arr_get (f := fun x => .d (D.b x)) hx160)) (Wt.none rfl) rfl rfl ?_
                        refine WL.fn rfl rfl rfl rfl (f100_c _) ⟨(Le.refl _), trivial⟩ (Wt.none rfl) rfl rfl ?_
                        refine WL.q (y_assign rfl) (Wt.none rfl) rfl rfl ?_
                        refine WL.nil ?_
                        refine we_blk ?_
                        refine WE.drop 0 (env' := [(10, .d (D.i .i64 (f100 x160)))]) (Sub.one rfl (Sub.nil _)) rfl rfl (Nat.zero_le _) ?_
                        exact we_lp ⟨(f100 x160), h, (Sub.cons rfl (Le.refl _) (Sub.nil _)), trivial⟩
      · rintro env1 st1 ⟨v153, h, hsub, hst⟩
        subst hk154
        dsimp only at h
        refine WC.sub hsub (WC.weak hst ?_)
        refine wc_seq ?_
        refine wc_region ?_
        refine WL.q (y_move rfl) (Wt.none rfl) rfl rfl ?_
        refine WL.q (y_move rfl) (Wt.none rfl) rfl rfl ?_
        refine WL.fn rfl rfl rfl rfl (f61_c _) ⟨(Le.refl _), trivial⟩ (Wt.none rfl) rfl rfl ?_
        refine WL.q (y_assign rfl) (Wt.none rfl) rfl rfl ?_
        refine WL.q (y_assign rfl) (Wt.none rfl) rfl rfl ?_
        refine WL.nil ?_
        refine we_seq ?_
        refine wc_ret ?_
        obtain rfl := Option.some.inj h
        exact we_ret_fn (rs2 rfl (rv_t rfl) (rv_t rfl)) (Le.tud ⟨(Le.refl _), (Le.refl _), trivial⟩)

theorem f53s_c (val : Wk → CE → Option (Int × Bool)) (w0 : Wk) (e1 : CE) (hval : ∀ (x0 : Wk) (x1 : CE) (r : Int × Bool), val x0 x1 = some r → Pu Try.prog 53 [.ag (R82 x0), .ag (R26 x1)] (.tu [.i .i64 r.1, .b r.2])) {r : Int × Bool} (h : f53s val w0 e1 = some r) : Pu Try.prog 53 [.ag (R82 w0), .ag (R26 e1)] (.tu [.i .i64 r.1, .b r.2]) := by
  unfold f53s at h
  refine fn_intro Try.func53 (by kernel_rfl) rfl rfl rfl (fun φφ ww => ?_)
  refine wc_seq ?_
  refine wc_region ?_
  refine WL.s ((b_boxd rfl rfl (Les.refl _)).does) (Wt.none rfl) rfl rfl ?_
  refine WL.s ((b_boxd rfl rfl (Les.refl _)).does) (Wt.none rfl) rfl rfl ?_
  refine WL.q (y_assign rfl) (Wt.none rfl) rfl rfl ?_
  refine WL.q (y_assign rfl) (Wt.none rfl) rfl rfl ?_
  refine WL.nil ?_
  refine we_seq ?_
  refine wc_seq ?_
  refine wc_region ?_
  refine WL.q (y_buildA r101 z101 rfl rfl) (Wt.none rfl) rfl rfl ?_
  refine WL.s ((b_alloc z101).does) (Wt.none rfl) rfl rfl ?_
  refine WL.s0 (d_store rfl rfl rfl rfl rfl rfl s101 rfl rfl) (Wt.none rfl) rfl ?_
  refine WL.st (st' := [.row 101 [.d (.v .nilFunc), .fn (.func 68) [] [], .fn (.func 69) [] [], .fn (.func 70) [] [], .fn (.func 71) [] [], .fn (.func 72) [] [], .fn (.func 73) [] [], .fn (.func 73) [] [], .fn (.func 74) [] [], .fn (.func 75) [] [], .fn (.func 76) [] [], .fn (.func 77) [] [], .fn (.func 68) [] [], .fn (.func 78) [] [], .fn (.func 79) [] []]]) rfl ?_
  refine WL.nil ?_
  refine we_seq ?_
  refine wc_seq ?_
  rcases condCases h with ⟨hk20, h⟩ | ⟨_, h⟩
  · refine wc_region_draw (by kernel_rfl) (by kernel_rfl) ?_
    refine WQ.q (Yields.quiet (y_fieldAddrc f26_0 rfl)) (Wt.none rfl) rfl rfl ?_
    refine WQ.q (Yields.quiet (y_loadc rfl a22 rfl)) (Wt.none rfl) rfl rfl ?_
    refine WQ.q (Yields.quiet (y_indexAddra r101 rfl rfl (by rw [hk20]; decide) (by rw [hk20]; decide))) (Wt.none rfl) rfl rfl ?_
    refine WQ.q (Yields.quiet (y_load rfl rfl a100 (by rw [hk20]; rfl))) (Wt.none rfl) rfl rfl ?_
    refine WQ.q (Yields.quiet (y_loadcN rfl a82 s82 rfl)) (Wt.none rfl) rfl rfl ?_
    refine WQ.q (Yields.quiet (y_loadcN rfl a26 s26 rfl)) (Wt.none rfl) rfl rfl ?_
    refine WQ.q (YieldsQ.fn rfl rfl rfl rfl rfl (f68_c _ _) ⟨(Le.refl _), (Le.refl _), trivial⟩) (Wt.none rfl) rfl rfl ?_
    refine WQ.q (Yields.quiet (y_extractd rfl rfl)) (Wt.none rfl) rfl rfl ?_
    refine WQ.q (Yields.quiet (y_extractd rfl rfl)) (Wt.none rfl) rfl rfl ?_
    refine WQ.q (Yields.quiet (y_assign rfl)) (Wt.none rfl) rfl rfl ?_
    refine WQ.q (Yields.quiet (y_assign rfl)) (Wt.none rfl) rfl rfl ?_
    refine WQ.nil ?_
    refine we_seq ?_
    refine wc_ret ?_
    obtain rfl := Option.some.inj h
    exact we_ret_fn (rs2 rfl (rv_t rfl) (rv_t rfl)) (Le.tud ⟨(Le.refl _), (Le.refl _), trivial⟩)
  rcases condCases h with ⟨hk21, h⟩ | ⟨_, h⟩
  · refine wc_region_draw (by kernel_rfl) (by kernel_rfl) ?_
    refine WQ.q (Yields.quiet (y_fieldAddrc f26_0 rfl)) (Wt.none rfl) rfl rfl ?_
    refine WQ.q (Yields.quiet (y_loadc rfl a22 rfl)) (Wt.none rfl) rfl rfl ?_
    refine WQ.q (Yields.quiet (y_indexAddra r101 rfl rfl (by rw [hk21]; decide) (by rw [hk21]; decide))) (Wt.none rfl) rfl rfl ?_
    refine WQ.q (Yields.quiet (y_load rfl rfl a100 (by rw [hk21]; rfl))) (Wt.none rfl) rfl rfl ?_
    refine WQ.q (Yields.quiet (y_loadcN rfl a82 s82 rfl)) (Wt.none rfl) rfl rfl ?_
    refine WQ.q (Yields.quiet (y_loadcN rfl a26 s26 rfl)) (Wt.none rfl) rfl rfl ?_
    replace h := bindS h
    obtain ⟨r22, hr22, h⟩ := h
    refine WQ.q (YieldsQ.fn rfl rfl rfl rfl rfl (f69_c _ _ hr22) ⟨(Le.refl _), (Le.refl _), trivial⟩) (Wt.none rfl) rfl rfl ?_
    refine WQ.q (Yields.quiet (y_extractd rfl rfl)) (Wt.none rfl) rfl rfl ?_
    refine WQ.q (Yields.quiet (y_extractd rfl rfl)) (Wt.none rfl) rfl rfl ?_
    refine WQ.q (Yields.quiet (y_assign rfl)) (Wt.none rfl) rfl rfl ?_
    refine WQ.q (Yields.quiet (y_assign rfl)) (Wt.none rfl) rfl rfl ?_
    refine WQ.nil ?_
    refine we_seq ?_
    refine wc_ret ?_
    obtain rfl := Option.some.inj h
    exact we_ret_fn (rs2 rfl (rv_t rfl) (rv_t rfl)) (Le.tud ⟨(Le.refl _), (Le.refl _), trivial⟩)
  rcases condCases h with ⟨hk23, h⟩ | ⟨_, h⟩
  · refine wc_region_draw (by kernel_rfl) (by kernel_rfl) ?_
    refine WQ.q (Yields.quiet (y_fieldAddrc f26_0 rfl)) (Wt.none rfl) rfl rfl ?_
    refine WQ.q (Yields.quiet (y_loadc rfl a22 rfl)) (Wt.none rfl) rfl rfl ?_
    refine WQ.q (Yields.quiet (y_indexAddra r101 rfl rfl (by rw [hk23]; decide) (by rw [hk23]; decide))) (Wt.none rfl) rfl rfl ?_
    refine WQ.q (Yields.quiet (y_load rfl rfl a100 (by rw [hk23]; rfl))) (Wt.none rfl) rfl rfl ?_
    refine WQ.q (Yields.quiet (y_loadcN rfl a82 s82 rfl)) (Wt.none rfl) rfl rfl ?_
    refine WQ.q (Yields.quiet (y_loadcN rfl a26 s26 rfl)) (Wt.none rfl) rfl rfl ?_
    replace h := bindS h
    obtain ⟨r24, hr24, h⟩ := h
    refine WQ.q (YieldsQ.fn rfl rfl rfl rfl rfl (f70_c _ _ _ hval hr24) ⟨(Le.refl _), (Le.refl _), trivial⟩) (Wt.none rfl) rfl rfl ?_
    refine WQ.q (Yields.quiet (y_extractd rfl rfl)) (Wt.none rfl) rfl rfl ?_
    refine WQ.q (Yields.quiet (y_extractd rfl rfl)) (Wt.none rfl) rfl rfl ?_
    refine WQ.q (Yields.quiet (y_assign rfl)) (Wt.none rfl) rfl rfl ?_
    refine WQ.q (Yields.quiet (y_assign rfl)) (Wt.none rfl) rfl rfl ?_
    refine WQ.nil ?_
    refine we_seq ?_
    refine wc_ret ?_
    obtain rfl := Option.some.inj h
    exact we_ret_fn (rs2 rfl (rv_t rfl) (rv_t rfl)) (Le.tud ⟨(Le.refl _), (Le.refl _), trivial⟩)
  rcases condCases h with ⟨hk25, h⟩ | ⟨_, h⟩
  · refine wc_region_draw (by kernel_rfl) (by kernel_rfl) ?_
    refine WQ.q (Yields.quiet (y_fieldAddrc f26_0 rfl)) (Wt.none rfl) rfl rfl ?_
    refine WQ.q (Yields.quiet (y_loadc rfl a22 rfl)) (Wt.none rfl) rfl rfl ?_
    refine WQ.q (Yields.quiet (y_indexAddra r101 rfl rfl (by rw [hk25]; decide) (by rw [hk25]; decide))) (Wt.none rfl) rfl rfl ?_
    refine WQ.q (Yields.quiet (y_load rfl rfl a100 (by rw [hk25]; rfl))) (Wt.none rfl) rfl rfl ?_
    refine WQ.q (Yields.quiet (y_loadcN rfl a82 s82 rfl)) (Wt.none rfl) rfl rfl ?_
    refine WQ.q (Yields.quiet (y_loadcN rfl a26 s26 rfl)) (Wt.none rfl) rfl rfl ?_
    replace h := bindS h
    obtain ⟨r26, hr26, h⟩ := h
    refine WQ.q (YieldsQ.fn rfl rfl rfl rfl rfl (f71_c _ _ _ hval hr26) ⟨(Le.refl _), (Le.refl _), trivial⟩) (Wt.none rfl) rfl rfl ?_
    refine WQ.q (Yields.quiet (y_extractd rfl rfl)) (Wt.none rfl) rfl rfl ?_
    refine WQ.q (Yields.quiet (y_extractd rfl rfl)) (Wt.none rfl) rfl rfl ?_
    refine WQ.q (Yields.quiet (y_assign rfl)) (Wt.none rfl) rfl rfl ?_
    refine WQ.q (Yields.quiet (y_assign rfl)) (Wt.none rfl) rfl rfl ?_
    refine WQ.nil ?_
    refine we_seq ?_
    refine wc_ret ?_
    obtain rfl := Option.some.inj h
    exact we_ret_fn (rs2 rfl (rv_t rfl) (rv_t rfl)) (Le.tud ⟨(Le.refl _), (Le.refl _), trivial⟩)
  rcases condCases h with ⟨hk27, h⟩ | ⟨_, h⟩
  · refine wc_region_draw (by kernel_rfl) (by kernel_rfl) ?_
    refine WQ.q (Yields.quiet (y_fieldAddrc f26_0 rfl)) (Wt.none rfl) rfl rfl ?_
    refine WQ.q (Yields.quiet (y_loadc rfl a22 rfl)) (Wt.none rfl) rfl rfl ?_
    refine WQ.q (Yields.quiet (y_indexAddra r101 rfl rfl (by rw [hk27]; decide) (by rw [hk27]; decide))) (Wt.none rfl) rfl rfl ?_
    refine WQ.q (Yields.quiet (y_load rfl rfl a100 (by rw [hk27]; rfl))) (Wt.none rfl) rfl rfl ?_
    refine WQ.q (Yields.quiet (y_loadcN rfl a82 s82 rfl)) (Wt.none rfl) rfl rfl ?_
    refine WQ.q (Yields.quiet (y_loadcN rfl a26 s26 rfl)) (Wt.none rfl) rfl rfl ?_
    replace h := bindS h
    obtain ⟨r28, hr28, h⟩ := h
    refine WQ.q (YieldsQ.fn rfl rfl rfl rfl rfl (f72_c _ _ _ hval hr28) ⟨(Le.refl _), (Le.refl _), trivial⟩) (Wt.none rfl) rfl rfl ?_
    refine WQ.q (Yields.quiet (y_extractd rfl rfl)) (Wt.none rfl) rfl rfl ?_
    refine WQ.q (Yields.quiet (y_extractd rfl rfl)) (Wt.none rfl) rfl rfl ?_
    refine WQ.q (Yields.quiet (y_assign rfl)) (Wt.none rfl) rfl rfl ?_
    refine WQ.q (Yields.quiet (y_assign rfl)) (Wt.none rfl) rfl rfl ?_
    refine WQ.nil ?_
    refine we_seq ?_
    refine wc_ret ?_
    obtain rfl := Option.some.inj h
    exact we_ret_fn (rs2 rfl (rv_t rfl) (rv_t rfl)) (Le.tud ⟨(Le.refl _), (Le.refl _), trivial⟩)
  rcases condCases h with ⟨hk29, h⟩ | ⟨_, h⟩
  · refine wc_region_draw (by kernel_rfl) (by kernel_rfl) ?_
    refine WQ.q (Yields.quiet (y_fieldAddrc f26_0 rfl)) (Wt.none rfl) rfl rfl ?_
    refine WQ.q (Yields.quiet (y_loadc rfl a22 rfl)) (Wt.none rfl) rfl rfl ?_
    refine WQ.q (Yields.quiet (y_indexAddra r101 rfl rfl (by rw [hk29]; decide) (by rw [hk29]; decide))) (Wt.none rfl) rfl rfl ?_
    refine WQ.q (Yields.quiet (y_load rfl rfl a100 (by rw [hk29]; rfl))) (Wt.none rfl) rfl rfl ?_
    refine WQ.q (Yields.quiet (y_loadcN rfl a82 s82 rfl)) (Wt.none rfl) rfl rfl ?_
    refine WQ.q (Yields.quiet (y_loadcN rfl a26 s26 rfl)) (Wt.none rfl) rfl rfl ?_
    replace h := bindS h
    obtain ⟨r30, hr30, h⟩ := h
    refine WQ.q (YieldsQ.fn rfl rfl rfl rfl rfl (f73_c _ _ _ hval hr30) ⟨(Le.refl _), (Le.refl _), trivial⟩) (Wt.none rfl) rfl rfl ?_
    refine WQ.q (Yields.quiet (y_extractd rfl rfl)) (Wt.none rfl) rfl rfl ?_
    refine WQ.q (Yields.quiet (y_extractd rfl rfl)) (Wt.none rfl) rfl rfl ?_
    refine WQ.q (Yields.quiet (y_assign rfl)) (Wt.none rfl) rfl rfl ?_
    refine WQ.q (Yields.quiet (y_assign rfl)) (Wt.none rfl) rfl rfl ?_
    refine WQ.nil ?_
    refine we_seq ?_
    refine wc_ret ?_
    obtain rfl := Option.some.inj h
    exact we_ret_fn (rs2 rfl (rv_t rfl) (rv_t rfl)) (Le.tud ⟨(Le.refl _), (Le.refl _), trivial⟩)
  rcases condCases h with ⟨hk31, h⟩ | ⟨_, h⟩
  · refine wc_region_draw (by kernel_rfl) (by kernel_rfl) ?_
    refine WQ.q (Yields.quiet (y_fieldAddrc f26_0 rfl)) (Wt.none rfl) rfl rfl ?_
    refine WQ.q (Yields.quiet (y_loadc rfl a22 rfl)) (Wt.none rfl) rfl rfl ?_
    refine WQ.q (Yields.quiet (y_indexAddra r101 rfl rfl (by rw [hk31]; decide) (by rw [hk31]; decide))) (Wt.none rfl) rfl rfl ?_
    refine WQ.q (Yields.quiet (y_load rfl rfl a100 (by rw [hk31]; rfl))) (Wt.none rfl) rfl rfl ?_
    refine WQ.q (Yields.quiet (y_loadcN rfl a82 s82 rfl)) (Wt.none rfl) rfl rfl ?_
    refine WQ.q (Yields.quiet (y_loadcN rfl a26 s26 rfl)) (Wt.none rfl) rfl rfl ?_
    replace h := bindS h
    obtain ⟨r32, hr32, h⟩ := h
    refine WQ.q (YieldsQ.fn rfl rfl rfl rfl rfl (f73_c _ _ _ hval hr32) ⟨(Le.refl _), (Le.refl _), trivial⟩) (Wt.none rfl) rfl rfl ?_
    refine WQ.q (Yields.quiet (y_extractd rfl rfl)) (Wt.none rfl) rfl rfl ?_
    refine WQ.q (Yields.quiet (y_extractd rfl rfl)) (Wt.none rfl) rfl rfl ?_
    refine WQ.q (Yields.quiet (y_assign rfl)) (Wt.none rfl) rfl rfl ?_
    refine WQ.q (Yields.quiet (y_assign rfl)) (Wt.none rfl) rfl rfl ?_
    refine WQ.nil ?_
    refine we_seq ?_
    refine wc_ret ?_
    obtain rfl := Option.some.inj h
    exact we_ret_fn (rs2 rfl (rv_t rfl) (rv_t rfl)) (Le.tud ⟨(Le.refl _), (Le.refl _), trivial⟩)
  rcases condCases h with ⟨hk33, h⟩ | ⟨_, h⟩
  · refine wc_region_draw (by kernel_rfl) (by kernel_rfl) ?_
    refine WQ.q (Yields.quiet (y_fieldAddrc f26_0 rfl)) (Wt.none rfl) rfl rfl ?_
    refine WQ.q (Yields.quiet (y_loadc rfl a22 rfl)) (Wt.none rfl) rfl rfl ?_
    refine WQ.q (Yields.quiet (y_indexAddra r101 rfl rfl (by rw [hk33]; decide) (by rw [hk33]; decide))) (Wt.none rfl) rfl rfl ?_
    refine WQ.q (Yields.quiet (y_load rfl rfl a100 (by rw [hk33]; rfl))) (Wt.none rfl) rfl rfl ?_
    refine WQ.q (Yields.quiet (y_loadcN rfl a82 s82 rfl)) (Wt.none rfl) rfl rfl ?_
    refine WQ.q (Yields.quiet (y_loadcN rfl a26 s26 rfl)) (Wt.none rfl) rfl rfl ?_
    replace h := bindS h
    obtain ⟨r34, hr34, h⟩ := h
    refine WQ.q (YieldsQ.fn rfl rfl rfl rfl rfl (f74_c _ _ _ hval hr34) ⟨(Le.refl _), (Le.refl _), trivial⟩) (Wt.none rfl) rfl rfl ?_
    refine WQ.q (Yields.quiet (y_extractd rfl rfl)) (Wt.none rfl) rfl rfl ?_
    refine WQ.q (Yields.quiet (y_extractd rfl rfl)) (Wt.none rfl) rfl rfl ?_
    refine WQ.q (Yields.quiet (y_assign rfl)) (Wt.none rfl) rfl rfl ?_
    refine WQ.q (Yields.quiet (y_assign rfl)) (Wt.none rfl) rfl rfl ?_
    refine WQ.nil ?_
    refine we_seq ?_
    refine wc_ret ?_
    obtain rfl := Option.some.inj h
    exact we_ret_fn (rs2 rfl (rv_t rfl) (rv_t rfl)) (Le.tud ⟨(Le.refl _), (Le.refl _), trivial⟩)
  rcases condCases h with ⟨hk35, h⟩ | ⟨_, h⟩
  · refine wc_region_draw (by kernel_rfl) (by kernel_rfl) ?_
    refine WQ.q (Yields.quiet (y_fieldAddrc f26_0 rfl)) (Wt.none rfl) rfl rfl ?_
    refine WQ.q (Yields.quiet (y_loadc rfl a22 rfl)) (Wt.none rfl) rfl rfl ?_
    refine WQ.q (Yields.quiet (y_indexAddra r101 rfl rfl (by rw [hk35]; decide) (by rw [hk35]; decide))) (Wt.none rfl) rfl rfl ?_
    refine WQ.q (Yields.quiet (y_load rfl rfl a100 (by rw [hk35]; rfl))) (Wt.none rfl) rfl rfl ?_
    refine WQ.q (Yields.quiet (y_loadcN rfl a82 s82 rfl)) (Wt.none rfl) rfl rfl ?_
    refine WQ.q (Yields.quiet (y_loadcN rfl a26 s26 rfl)) (Wt.none rfl) rfl rfl ?_
    replace h := bindS h
    obtain ⟨r36, hr36, h⟩ := h
    refine WQ.q (YieldsQ.fn rfl rfl rfl rfl rfl (f75_c _ _ _ hval hr36) ⟨(Le.refl _), (Le.refl _), trivial⟩) (Wt.none rfl) rfl rfl ?_
    refine WQ.q (Yields.quiet (y_extractd rfl rfl)) (Wt.none rfl) rfl rfl ?_
    refine WQ.q (Yields.quiet (y_extractd rfl rfl)) (Wt.none rfl) rfl rfl ?_
    refine WQ.q (Yields.quiet (y_assign rfl)) (Wt.none rfl) rfl rfl ?_
    refine WQ.q (Yields.quiet (y_assign rfl)) (Wt.none rfl) rfl rfl ?_
    refine WQ.nil ?_
    refine we_seq ?_
    refine wc_ret ?_
    obtain rfl := Option.some.inj h
    exact we_ret_fn (rs2 rfl (rv_t rfl) (rv_t rfl)) (Le.tud ⟨(Le.refl _), (Le.refl _), trivial⟩)
  rcases condCases h with ⟨hk37, h⟩ | ⟨_, h⟩
  · refine wc_region_draw (by kernel_rfl) (by kernel_rfl) ?_
    refine WQ.q (Yields.quiet (y_fieldAddrc f26_0 rfl)) (Wt.none rfl) rfl rfl ?_
    refine WQ.q (Yields.quiet (y_loadc rfl a22 rfl)) (Wt.none rfl) rfl rfl ?_
    refine WQ.q (Yields.quiet (y_indexAddra r101 rfl rfl (by rw [hk37]; decide) (by rw [hk37]; decide))) (Wt.none rfl) rfl rfl ?_
    refine WQ.q (Yields.quiet (y_load rfl rfl a100 (by rw [hk37]; rfl))) (Wt.none rfl) rfl rfl ?_
    refine WQ.q (Yields.quiet (y_loadcN rfl a82 s82 rfl)) (Wt.none rfl) rfl rfl ?_
    refine WQ.q (Yields.quiet (y_loadcN rfl a26 s26 rfl)) (Wt.none rfl) rfl rfl ?_
    replace h := bindS h
    obtain ⟨r38, hr38, h⟩ := h
    refine WQ.q (YieldsQ.fn rfl rfl rfl rfl rfl (f76_c _ _ _ hval hr38) ⟨(Le.refl _), (Le.refl _), trivial⟩) (Wt.none rfl) rfl rfl ?_
    refine WQ.q (Yields.quiet (y_extractd rfl rfl)) (Wt.none rfl) rfl rfl ?_
    refine WQ.q (Yields.quiet (y_extractd rfl rfl)) (Wt.none rfl) rfl rfl ?_
    refine WQ.q (Yields.quiet (y_assign rfl)) (Wt.none rfl) rfl rfl ?_
    refine WQ.q (Yields.quiet (y_assign rfl)) (Wt.none rfl) rfl rfl ?_
    refine WQ.nil ?_
    refine we_seq ?_
    refine wc_ret ?_
    obtain rfl := Option.some.inj h
    exact we_ret_fn (rs2 rfl (rv_t rfl) (rv_t rfl)) (Le.tud ⟨(Le.refl _), (Le.refl _), trivial⟩)
  rcases condCases h with ⟨hk39, h⟩ | ⟨_, h⟩
  · refine wc_region_draw (by kernel_rfl) (by kernel_rfl) ?_
    refine WQ.q (Yields.quiet (y_fieldAddrc f26_0 rfl)) (Wt.none rfl) rfl rfl ?_
    refine WQ.q (Yields.quiet (y_loadc rfl a22 rfl)) (Wt.none rfl) rfl rfl ?_
    refine WQ.q (Yields.quiet (y_indexAddra r101 rfl rfl (by rw [hk39]; decide) (by rw [hk39]; decide))) (Wt.none rfl) rfl rfl ?_
    refine WQ.q (Yields.quiet (y_load rfl rfl a100 (by rw [hk39]; rfl))) (Wt.none rfl) rfl rfl ?_
    refine WQ.q (Yields.quiet (y_loadcN rfl a82 s82 rfl)) (Wt.none rfl) rfl rfl ?_
    refine WQ.q (Yields.quiet (y_loadcN rfl a26 s26 rfl)) (Wt.none rfl) rfl rfl ?_
    replace h := bindS h
    obtain ⟨r40, hr40, h⟩ := h
    refine WQ.q (YieldsQ.fn rfl rfl rfl rfl rfl (f77_c _ _ hr40) ⟨(Le.refl _), (Le.refl _), trivial⟩) (Wt.none rfl) rfl rfl ?_
    refine WQ.q (Yields.quiet (y_extractd rfl rfl)) (Wt.none rfl) rfl rfl ?_
    refine WQ.q (Yields.quiet (y_extractd rfl rfl)) (Wt.none rfl) rfl rfl ?_
    refine WQ.q (Yields.quiet (y_assign rfl)) (Wt.none rfl) rfl rfl ?_
    refine WQ.q (Yields.quiet (y_assign rfl)) (Wt.none rfl) rfl rfl ?_
    refine WQ.nil ?_
    refine we_seq ?_
    refine wc_ret ?_
    obtain rfl := Option.some.inj h
    exact we_ret_fn (rs2 rfl (rv_t rfl) (rv_t rfl)) (Le.tud ⟨(Le.refl _), (Le.refl _), trivial⟩)
  rcases condCases h with ⟨hk41, h⟩ | ⟨_, h⟩
  · refine wc_region_draw (by kernel_rfl) (by kernel_rfl) ?_
    refine WQ.q (Yields.quiet (y_fieldAddrc f26_0 rfl)) (Wt.none rfl) rfl rfl ?_
    refine WQ.q (Yields.quiet (y_loadc rfl a22 rfl)) (Wt.none rfl) rfl rfl ?_
    refine WQ.q (Yields.quiet (y_indexAddra r101 rfl rfl (by rw [hk41]; decide) (by rw [hk41]; decide))) (Wt.none rfl) rfl rfl ?_
    refine WQ.q (Yields.quiet (y_load rfl rfl a100 (by rw [hk41]; rfl))) (Wt.none rfl) rfl rfl ?_
    refine WQ.q (Yields.quiet (y_loadcN rfl a82 s82 rfl)) (Wt.none rfl) rfl rfl ?_
    refine WQ.q (Yields.quiet (y_loadcN rfl a26 s26 rfl)) (Wt.none rfl) rfl rfl ?_
    refine WQ.q (YieldsQ.fn rfl rfl rfl rfl rfl (f68_c _ _) ⟨(Le.refl _), (Le.refl _), trivial⟩) (Wt.none rfl) rfl rfl ?_
    refine WQ.q (Yields.quiet (y_extractd rfl rfl)) (Wt.none rfl) rfl rfl ?_
    refine WQ.q (Yields.quiet (y_extractd rfl rfl)) (Wt.none rfl) rfl rfl ?_
    refine WQ.q (Yields.quiet (y_assign rfl)) (Wt.none rfl) rfl rfl ?_
    refine WQ.q (Yields.quiet (y_assign rfl)) (Wt.none rfl) rfl rfl ?_
    refine WQ.nil ?_
    refine we_seq ?_
    refine wc_ret ?_
    obtain rfl := Option.some.inj h
    exact we_ret_fn (rs2 rfl (rv_t rfl) (rv_t rfl)) (Le.tud ⟨(Le.refl _), (Le.refl _), trivial⟩)
  rcases condCases h with ⟨hk42, h⟩ | ⟨_, h⟩
  · refine wc_region_draw (by kernel_rfl) (by kernel_rfl) ?_
    refine WQ.q (Yields.quiet (y_fieldAddrc f26_0 rfl)) (Wt.none rfl) rfl rfl ?_
    refine WQ.q (Yields.quiet (y_loadc rfl a22 rfl)) (Wt.none rfl) rfl rfl ?_
    refine WQ.q (Yields.quiet (y_indexAddra r101 rfl rfl (by rw [hk42]; decide) (by rw [hk42]; decide))) (Wt.none rfl) rfl rfl ?_
    refine WQ.q (Yields.quiet (y_load rfl rfl a100 (by rw [hk42]; rfl))) (Wt.none rfl) rfl rfl ?_
    refine WQ.q (Yields.quiet (y_loadcN rfl a82 s82 rfl)) (Wt.none rfl) rfl rfl ?_
    refine WQ.q (Yields.quiet (y_loadcN rfl a26 s26 rfl)) (Wt.none rfl) rfl rfl ?_
    replace h := bindS h
    obtain ⟨r43, hr43, h⟩ := h
    refine WQ.q (YieldsQ.fn rfl rfl rfl rfl rfl (f78_c _ _ _ hval hr43) ⟨(Le.refl _), (Le.refl _), trivial⟩) (Wt.none rfl) rfl rfl ?_
    refine WQ.q (Yields.quiet (y_extractd rfl rfl)) (Wt.none rfl) rfl rfl ?_
    refine WQ.q (Yields.quiet (y_extractd rfl rfl)) (Wt.none rfl) rfl rfl ?_
    refine WQ.q (Yields.quiet (y_assign rfl)) (Wt.none rfl) rfl rfl ?_
    refine WQ.q (Yields.quiet (y_assign rfl)) (Wt.none rfl) rfl rfl ?_
    refine WQ.nil ?_
    refine we_seq ?_
    refine wc_ret ?_
    obtain rfl := Option.some.inj h
    exact we_ret_fn (rs2 rfl (rv_t rfl) (rv_t rfl)) (Le.tud ⟨(Le.refl _), (Le.refl _), trivial⟩)
  rcases condCases h with ⟨hk44, h⟩ | ⟨_, h⟩
  · refine wc_region_draw (by kernel_rfl) (by kernel_rfl) ?_
    refine WQ.q (Yields.quiet (y_fieldAddrc f26_0 rfl)) (Wt.none rfl) rfl rfl ?_
    refine WQ.q (Yields.quiet (y_loadc rfl a22 rfl)) (Wt.none rfl) rfl rfl ?_
    refine WQ.q (Yields.quiet (y_indexAddra r101 rfl rfl (by rw [hk44]; decide) (by rw [hk44]; decide))) (Wt.none rfl) rfl rfl ?_
    refine WQ.q (Yields.quiet (y_load rfl rfl a100 (by rw [hk44]; rfl))) (Wt.none rfl) rfl rfl ?_
    refine WQ.q (Yields.quiet (y_loadcN rfl a82 s82 rfl)) (Wt.none rfl) rfl rfl ?_
    refine WQ.q (Yields.quiet (y_loadcN rfl a26 s26 rfl)) (Wt.none rfl) rfl rfl ?_
    replace h := bindS h
    obtain ⟨r45, hr45, h⟩ := h
    refine WQ.q (YieldsQ.fn rfl rfl rfl rfl rfl (f79_c _ _ hr45) ⟨(Le.refl _), (Le.refl _), trivial⟩) (Wt.none rfl) rfl rfl ?_
    refine WQ.q (Yields.quiet (y_extractd rfl rfl)) (Wt.none rfl) rfl rfl ?_
    refine WQ.q (Yields.quiet (y_extractd rfl rfl)) (Wt.none rfl) rfl rfl ?_
    refine WQ.q (Yields.quiet (y_assign rfl)) (Wt.none rfl) rfl rfl ?_
    refine WQ.q (Yields.quiet (y_assign rfl)) (Wt.none rfl) rfl rfl ?_
    refine WQ.nil ?_
    refine we_seq ?_
    refine wc_ret ?_
    obtain rfl := Option.some.inj h
    exact we_ret_fn (rs2 rfl (rv_t rfl) (rv_t rfl)) (Le.tud ⟨(Le.refl _), (Le.refl _), trivial⟩)
  cases h

theorem f53_c : ∀ (n : Nat) (x0 : Wk) (x1 : CE) {r : Int × Bool}, f53 n x0 x1 = some r → Pu Try.prog 53 [.ag (R82 x0), .ag (R26 x1)] (.tu [.i .i64 r.1, .b r.2])
  | 0, _, _, _, h => by cases h
  | n + 1, x0, x1, _, h => f53s_c (f53 n) x0 x1 (fun x0 x1 _ h => f53_c n x0 x1 h) h

theorem f40s_c (may : Int → CE → Int → Int → Option (Bool × Int)) (left : Int) (e0 : CE) (lets1 : Int) (depth2 : Int) (hmay : ∀ (left : Int) (e : CE) (lets depth : Int) (r : Bool × Int), may left e lets depth = some r → Ctr Try.prog 40 [.d (.ag (R26 e)), .d (D.i .u64 lets), .d (D.i .i64 depth), .pt 0 0, .pt 1 0] [.row 3 [.d (D.i .i64 left)], .row 68 [.fn (.func 40) [] [.pt 0 0, .pt 1 0]]] (WinX 2 (.b r.1) (fun iv => [.row 3 [.d (D.i .i64 r.2)], .row 68 [.fn (.func 40) [] [.pt 0 0, .pt 1 0]]]))) {r : Bool × Int} (h : f40s may left e0 lets1 depth2 = some r) : Ctr Try.prog 40 [.d (.ag (R26 e0)), .d (D.i .u64 lets1), .d (D.i .i64 depth2), .pt 0 0, .pt 1 0] [.row 3 [.d (D.i .i64 left)], .row 68 [.fn (.func 40) [] [.pt 0 0, .pt 1 0]]] (WinX 2 (.b r.1) (fun iv => [.row 3 [.d (D.i .i64 r.2)], .row 68 [.fn (.func 40) [] [.pt 0 0, .pt 1 0]]])) := by
  unfold f40s at h
  refine ctr_intro Try.func40 (by kernel_rfl) rfl rfl rfl (fun mm φφ ww hmm => ?_)
  refine wc_seq ?_
  refine wc_region ?_
  refine WL.s ((b_boxd rfl rfl (Les.refl _)).does) (Wt.none rfl) rfl rfl ?_
  refine WL.q (y_assign rfl) (Wt.none rfl) rfl rfl ?_
  refine WL.nil ?_
  refine we_seq ?_
  refine wc_seq ?_
  refine wc_region ?_
  refine WL.q (y_load rfl rfl a3 rfl) (Wt.none rfl) rfl rfl ?_
  refine WL.q (y_sub rfl rfl rfl) (Wt.none rfl) rfl rfl ?_
  refine WL.s0 (d_store rfl rfl rfl rfl rfl rfl s3 rfl rfl) (Wt.none rfl) rfl ?_
  refine WL.nil ?_
  refine we_seq ?_
  refine wc_seq ?_
  refine wc_seq ?_
  refine wc_region ?_
  refine WL.q (y_load rfl rfl a3 rfl) (Wt.none rfl) rfl rfl ?_
  refine WL.q (y_lss rfl rfl) (Wt.none rfl) rfl rfl ?_
  refine WL.q (y_move rfl) (Wt.none rfl) rfl rfl ?_
  apply WL.or 3 (t := 16) (d := 19)
  · exact rfl
  · intro hg16
    refine WL.q (y_move rfl) (Wt.yes rfl rfl rfl) rfl rfl ?_
    refine WL.q (y_gtr rfl rfl) (Wt.yes rfl rfl rfl) rfl rfl ?_
    refine WL.q (y_pick_f rfl rfl) (Wt.none rfl) rfl rfl ?_
    exact WL.nil ⟨rfl, [_, _, _], rfl, rfl, rfl⟩
  · refine WL.skips 2 rfl ?_
    refine WL.q (y_pick_t rfl rfl) (Wt.none rfl) rfl rfl ?_
    exact WL.nil ⟨rfl, [_, _, _], rfl, rfl, rfl⟩
  refine WL.q (y_move rfl) (Wt.none rfl) rfl rfl ?_
  replace h := bindS h
  obtain ⟨b56, hb56, h⟩ := h
  apply WL.grp 5 (t := 20) (d := 25) (z := b56)
  · exact rfl
  · intro hg20
    have h := condT hb56 hg20
    refine WL.skips 4 rfl ?_
    refine WL.q (y_pick_t rfl rfl) (Wt.none rfl) rfl rfl ?_
    obtain rfl := Option.some.inj h
    exact WL.nil ⟨rfl, [_, _, _, _, _], rfl, rfl, rfl⟩
  · intro hg20
    have h := condF hb56 hg20
    refine WL.q (y_loadcN rfl a26 s26 rfl) (Wt.yes rfl rfl rfl) rfl rfl ?_
    refine WL.q (y_move rfl) (Wt.yes rfl rfl rfl) rfl rfl ?_
    replace h := bindS h
    obtain ⟨r57, hr57, h⟩ := h
    refine WL.fn rfl rfl rfl rfl (f41_c _ _ hr57) ⟨(Le.refl _), (Le.refl _), trivial⟩ (Wt.yes rfl rfl rfl) rfl rfl ?_
    refine WL.q (y_not rfl) (Wt.yes rfl rfl rfl) rfl rfl ?_
    refine WL.q (y_pick_f rfl rfl) (Wt.none rfl) rfl rfl ?_
    obtain rfl := Option.some.inj h
    exact WL.nil ⟨rfl, [_, _, _, _, _], rfl, rfl, rfl⟩
  refine WL.nil ?_
  refine we_seq ?_
  refine wc_cond rfl (fun hc1 => ?_) (fun hc1 => ?_)
  · replace h := condT h hc1
    refine wc_seq ?_
    refine wc_region ?_
    refine WL.q (y_assign rfl) (Wt.none rfl) rfl rfl ?_
    refine WL.nil ?_
    refine we_seq ?_
    refine wc_ret ?_
    refine we_seq_ret ?_
    obtain rfl := Option.some.inj h
    exact we_ret_winx 0 (rs1 rfl (rv_t rfl)) (Le.refl _) rfl ⟨⟨rfl, ⟨(Le.refl _), trivial⟩⟩, ⟨rfl, ⟨(Le.refl _), trivial⟩⟩, trivial⟩
  · replace h := condF h hc1
    refine wc_skip ?_
    refine we_seq ?_
    replace h := letkS h
    obtain ⟨k59, hk59, h⟩ := h
    refine wc_cut (fun env' st' => ∃ (c0058 : Int), k59 c0058 = some r ∧ Sub [] env' ∧ SLe st' [.row 3 [.d (D.i .i64 c0058)], .row 68 [.fn (.func 40) [] [.pt 0 0, .pt 1 0]]]) ?_ ?_
    · refine wc_seq ?_
      refine wc_region ?_
      refine WL.q (y_fieldAddrc f26_8 rfl) (Wt.none rfl) rfl rfl ?_
      refine WL.q (y_loadc rfl a24 rfl) (Wt.none rfl) rfl rfl ?_
      refine WL.q (y_len_map E26 e0.l e24 rfl rfl (Le.refl _)) (Wt.none rfl) rfl rfl ?_
      refine WL.q (y_move rfl) (Wt.none rfl) rfl rfl ?_
      refine WL.nil ?_
      refine we_seq ?_
      refine wc_block ?_
      refine wc_loop (fun n env' st' => ∃ (t62 : Int), ∃ (c0063 : Int), f40s_l1 may e0 lets1 depth2 k59 n t62 c0063 = some r ∧ Sub [(1, .d (D.i .u64 lets1)), (2, .d (D.i .i64 depth2)), (4, .pt 1 0), (5, .d (.pc (R26 e0))), (27, .d (.sl (List.map E26 e0.l))), (28, .d (D.i .i64 (List.length e0.l : Int))), (29, .d (D.i .i64 t62))] env' ∧ SLe st' [.row 3 [.d (D.i .i64 c0063)], .row 68 [.fn (.func 40) [] [.pt 0 0, .pt 1 0]]]) (fun n => n) (Int.toNat ((List.length e0.l : Int) - 0) + 1) ⟨0, (IntKind.i64.wrap (left - 1)), h, (Sub.cons rfl (Le.refl _) (Sub.cons rfl (Le.refl _) (Sub.cons rfl (Le.refl _) (Sub.cons rfl (Le.refl _) (Sub.cons rfl (Le.refl _) (Sub.cons rfl (Le.refl _) (Sub.cons rfl (Le.refl _) (Sub.nil _)))))))), ⟨⟨rfl, ⟨(Le.refl _), trivial⟩⟩, ⟨rfl, ⟨(Le.refl _), trivial⟩⟩, trivial⟩⟩ ?_
      rintro n env1 st1 ⟨t62, c0063, h, hsub, hst⟩
      cases n with
      | zero => rw [f40s_l1] at h; cases h
      | succ n =>
      rw [f40s_l1] at h
      refine WC.sub hsub (WC.weak hst ?_)
      refine wc_seq ?_
      refine wc_region ?_
      refine WL.q (y_lss rfl rfl) (Wt.none rfl) rfl rfl ?_
      refine WL.nil ?_
      refine we_seq ?_
      refine wc_seq ?_
      refine wc_cond rfl (fun hc2 => ?_) (fun hc2 => ?_)
      · replace h := condT h hc2
        refine wc_skip ?_
        refine we_seq ?_
        refine wc_seq ?_
        refine wc_block ?_
        refine wc_seq ?_
        refine wc_region ?_
        refine WL.q (y_move rfl) (Wt.none rfl) rfl rfl ?_
        replace h := bindS h
        obtain ⟨x66, hx66, h⟩ := h
        refine WL.q (y_indexAddr e24 rfl (Le.refl _) rfl (idx_nonneg hx66) (idx_row E26_eq hx66) rfl) (Wt.none rfl) rfl rfl ?_
        refine WL.q (y_loadcN rfl a26 s26 rfl) (Wt.none rfl) rfl rfl ?_
        refine WL.s ((b_alloc z26).does) (Wt.none rfl) rfl rfl ?_
        refine WL.q (y_assign rfl) (Wt.none rfl) rfl rfl ?_
        refine WL.s0 (d_store rfl rfl rfl rfl rfl rfl s26 rfl rfl) (Wt.none rfl) rfl ?_
        refine WL.nil ?_
        refine we_seq ?_
        refine wc_seq ?_
        refine wc_region ?_
        refine WL.q (y_move rfl) (Wt.none rfl) rfl rfl ?_
        refine WL.q (y_assign rfl) (Wt.none rfl) rfl rfl ?_
        refine WL.nil ?_
        refine we_seq ?_
        replace h := letkS h
        obtain ⟨k68, hk68, h⟩ := h
        refine wc_cut (fun env' st' => ∃ (in67 : Int), k68 in67 = some r ∧ Sub [(1, .d (D.i .u64 lets1)), (2, .d (D.i .i64 depth2)), (4, .pt 1 0), (5, .d (.pc (R26 e0))), (10, .pt 2 0), (11, .d (D.i .u64 in67)), (27, .d (.sl (List.map E26 e0.l))), (28, .d (D.i .i64 (List.length e0.l : Int))), (29, .d (D.i .i64 t62))] env' ∧ SLe st' [.row 3 [.d (D.i .i64 c0063)], .row 68 [.fn (.func 40) [] [.pt 0 0, .pt 1 0]], .row 26 [.d (D.i .u8 x66.kind), .d (D.i .u8 x66.op), .d (D.i .i64 x66.n), .d (D.i .i64 x66.o), .d (D.i .i64 x66.off), .d (D.i .i64 x66.len), .d (D.i .i64 x66.lo), .d (D.i .i64 x66.hi), .d (.sl (List.map E26 x66.l))]]) ?_ ?_
        · refine wc_seq ?_
          refine wc_region ?_
          refine WL.q (y_fieldAddrc f26_0 rfl) (Wt.none rfl) rfl rfl ?_
          refine WL.q (y_loadc rfl a22 rfl) (Wt.none rfl) rfl rfl ?_
          refine WL.q (y_eql rfl rfl) (Wt.none rfl) rfl rfl ?_
          refine WL.q (y_move rfl) (Wt.none rfl) rfl rfl ?_
          apply WL.and 3 (t := 38) (d := 41)
          · exact rfl
          · intro hg38
            refine WL.q (y_move rfl) (Wt.yes rfl rfl rfl) rfl rfl ?_
            refine WL.q (y_eql rfl rfl) (Wt.yes rfl rfl rfl) rfl rfl ?_
            refine WL.q (y_pick_t rfl rfl) (Wt.none rfl) rfl rfl ?_
            exact WL.nil ⟨rfl, [_, _, _], rfl, rfl, rfl⟩
          · refine WL.skips 2 rfl ?_
            refine WL.q (y_pick_f rfl rfl) (Wt.none rfl) rfl rfl ?_
            exact WL.nil ⟨rfl, [_, _, _], rfl, rfl, rfl⟩
          refine WL.nil ?_
          refine we_seq ?_
          refine wc_cond rfl (fun hc3 => ?_) (fun hc3 => ?_)
          · replace h := condT h hc3
            refine wc_region ?_
            refine WL.q (y_move rfl) (Wt.none rfl) rfl rfl ?_
            refine WL.q (y_add rfl rfl rfl) (Wt.none rfl) rfl rfl ?_
            refine WL.q (y_assign rfl) (Wt.none rfl) rfl rfl ?_
            refine WL.nil ?_
            exact we_lp ⟨(IntKind.u64.wrap (lets1 + 1)), h, (Sub.cons rfl (Le.refl _) (Sub.cons rfl (Le.refl _) (Sub.cons rfl (Le.refl _) (Sub.cons rfl (Le.refl _) (Sub.cons rfl (Le.refl _) (Sub.cons rfl (Le.refl _) (Sub.cons rfl (Le.refl _) (Sub.cons rfl (Le.refl _) (Sub.cons rfl (Le.refl _) (Sub.nil _)))))))))), ⟨⟨rfl, ⟨(Le.refl _), trivial⟩⟩, ⟨rfl, ⟨(Le.refl _), trivial⟩⟩, ⟨rfl, ⟨(Le.refl _), (Le.refl _), (Le.refl _), (Le.refl _), (Le.refl _), (Le.refl _), (Le.refl _), (Le.refl _), (Le.refl _), trivial⟩⟩, trivial⟩⟩
          · replace h := condF h hc3
            refine wc_skip ?_
            exact we_lp ⟨lets1, h, (Sub.cons rfl (Le.refl _) (Sub.cons rfl (Le.refl _) (Sub.cons rfl (Le.refl _) (Sub.cons rfl (Le.refl _) (Sub.cons rfl (Le.refl _) (Sub.cons rfl (Le.refl _) (Sub.cons rfl (Le.refl _) (Sub.cons rfl (Le.refl _) (Sub.cons rfl (Le.refl _) (Sub.nil _)))))))))), ⟨⟨rfl, ⟨(Le.refl _), trivial⟩⟩, ⟨rfl, ⟨(Le.refl _), trivial⟩⟩, ⟨rfl, ⟨(Le.refl _), (Le.refl _), (Le.refl _), (Le.refl _), (Le.refl _), (Le.refl _), (Le.refl _), (Le.refl _), (Le.refl _), trivial⟩⟩, trivial⟩⟩
        · rintro env1 st1 ⟨in67, h, hsub, hst⟩
          subst hk68
          dsimp only at h
          refine WC.sub hsub (WC.weak hst ?_)
          refine wc_seq ?_
          refine wc_region ?_
          refine WL.q (y_load rfl rfl a68 rfl) (Wt.none rfl) rfl rfl ?_
          refine WL.q (y_loadN rfl rfl a26 s26 rfl) (Wt.none rfl) rfl rfl ?_
          refine WL.q (y_move rfl) (Wt.none rfl) rfl rfl ?_
          refine WL.q (y_move rfl) (Wt.none rfl) rfl rfl ?_
          refine WL.q (y_add rfl rfl rfl) (Wt.none rfl) rfl rfl ?_
          replace h := bindS h
          obtain ⟨r69, hr69, h⟩ := h
          refine WL.winy [0, 1] rfl rfl rfl rfl (hmay _ _ _ _ _ hr69) ⟨(Le.agd ⟨(Le.refl _), (Le.refl _), (Le.refl _), (Le.refl _), (Le.refl _), (Le.refl _), (Le.refl _), (Le.refl _), (Le.refl _), trivial⟩), (Le.refl _), (Le.refl _), Le.refl _, Le.refl _, trivial⟩ rfl (by decide) (cons_eq rfl (cons_eq rfl rfl)) ⟨rfl, rfl, trivial⟩ rfl rfl (fun _ => rfl) (fun _ => (cons_eq rfl (cons_eq rfl rfl))) (Wt.none rfl) rfl rfl (fun ver69 => ?_)
          refine WL.q (y_not rfl) (Wt.none rfl) rfl rfl ?_
          refine WL.nil ?_
          refine we_seq ?_
          refine wc_cond rfl (fun hc4 => ?_) (fun hc4 => ?_)
          · replace h := condT h hc4
            refine wc_seq ?_
            refine wc_region ?_
            refine WL.q (y_assign rfl) (Wt.none rfl) rfl rfl ?_
            refine WL.nil ?_
            refine we_seq ?_
            refine wc_ret ?_
            refine we_blk_ret ?_
            refine we_seq_ret ?_
            refine we_lp_ret ?_
            refine we_blk_ret ?_
            refine we_lp_ret ?_
            obtain rfl := Option.some.inj h
            exact we_ret_winx 0 (rs1 rfl (rv_t rfl)) (Le.refl _) rfl ⟨⟨rfl, ⟨(Le.refl _), trivial⟩⟩, ⟨rfl, ⟨(Le.refl _), trivial⟩⟩, trivial⟩
          · replace h := condF h hc4
            refine wc_skip ?_
            refine we_blk ?_
            refine we_seq ?_
            refine wc_region ?_
            refine WL.q (y_add rfl rfl rfl) (Wt.none rfl) rfl rfl ?_
            refine WL.q (y_move rfl) (Wt.none rfl) rfl rfl ?_
            refine WL.nil ?_
            refine WE.drop 2 (env' := [(1, .d (D.i .u64 lets1)), (2, .d (D.i .i64 depth2)), (4, .pt 1 0), (5, .d (.pc (R26 e0))), (27, .d (.sl (List.map E26 e0.l))), (28, .d (D.i .i64 (List.length e0.l : Int))), (29, .d (D.i .i64 (IntKind.i64.wrap (t62 + 1))))]) (Sub.one rfl (Sub.one rfl (Sub.one rfl (Sub.one rfl (Sub.one rfl (Sub.one rfl (Sub.one rfl (Sub.nil _)))))))) rfl rfl (Nat.le_trans (Nat.le_of_eq hmm) (Nat.le_of_ble_eq_true rfl)) ?_
            exact we_lp ⟨n, ⟨(IntKind.i64.wrap (t62 + 1)), r69.2, h, (Sub.cons rfl (Le.refl _) (Sub.cons rfl (Le.refl _) (Sub.cons rfl (Le.refl _) (Sub.cons rfl (Le.refl _) (Sub.cons rfl (Le.refl _) (Sub.cons rfl (Le.refl _) (Sub.cons rfl (Le.refl _) (Sub.nil _)))))))), ⟨⟨rfl, ⟨(Le.refl _), trivial⟩⟩, ⟨rfl, ⟨(Le.refl _), trivial⟩⟩, trivial⟩⟩, Nat.lt_succ_self n⟩
      · replace h := condF h hc2
        refine wc_exit ?_
        refine we_seq_exit ?_
        refine we_lp_exit ?_
        refine we_blk_hit ?_
        exact we_lp ⟨c0063, h, (Sub.nil _), ⟨⟨rfl, ⟨(Le.refl _), trivial⟩⟩, ⟨rfl, ⟨(Le.refl _), trivial⟩⟩, trivial⟩⟩
    · rintro env1 st1 ⟨c0058, h, hsub, hst⟩
      subst hk59
      dsimp only at h
      refine WC.sub hsub (WC.weak hst ?_)
      refine wc_seq ?_
      refine wc_region ?_
      refine WL.q (y_assign rfl) (Wt.none rfl) rfl rfl ?_
      refine WL.nil ?_
      refine we_seq ?_
      refine wc_ret ?_
      obtain rfl := Option.some.inj h
      exact we_ret_winx 0 (rs1 rfl (rv_t rfl)) (Le.refl _) rfl ⟨⟨rfl, ⟨(Le.refl _), trivial⟩⟩, ⟨rfl, ⟨(Le.refl _), trivial⟩⟩, trivial⟩

theorem f40_c : ∀ (n : Nat) (left : Int) (e : CE) (lets depth : Int) {r : Bool × Int}, f40 n left e lets depth = some r → Ctr Try.prog 40 [.d (.ag (R26 e)), .d (D.i .u64 lets), .d (D.i .i64 depth), .pt 0 0, .pt 1 0] [.row 3 [.d (D.i .i64 left)], .row 68 [.fn (.func 40) [] [.pt 0 0, .pt 1 0]]] (WinX 2 (.b r.1) (fun iv => [.row 3 [.d (D.i .i64 r.2)], .row 68 [.fn (.func 40) [] [.pt 0 0, .pt 1 0]]]))
  | 0, _, _, _, _, _, h => by cases h
  | n + 1, left, e, lets, depth, _, h => f40s_c (f40 n) left e lets depth (fun left e lets depth _ h => f40_c n left e lets depth h) h

theorem f13_c (e0 : CE) (lets1 : Int) {r : Bool} (h : f13 e0 lets1 = some r) : Pu Try.prog 13 [.ag (R26 e0), .i .i64 lets1] (.b r) := by
  unfold f13 at h
  refine fn_intro Try.func13 (by kernel_rfl) rfl rfl rfl (fun φφ ww => ?_)
  refine wc_seq ?_
  refine wc_region ?_
  refine WL.s ((b_boxd rfl rfl (Les.refl _)).does) (Wt.none rfl) rfl rfl ?_
  refine WL.q (y_assign rfl) (Wt.none rfl) rfl rfl ?_
  refine WL.nil ?_
  refine we_seq ?_
  refine wc_seq ?_
  refine wc_region ?_
  refine WL.s ((b_alloc z3).does) (Wt.none rfl) rfl rfl ?_
  refine WL.s0 (d_store rfl rfl rfl rfl rfl rfl s3 rfl rfl) (Wt.none rfl) rfl ?_
  refine WL.nil ?_
  refine we_seq ?_
  refine wc_seq ?_
  refine wc_region ?_
  refine WL.s ((b_alloc z68).does) (Wt.none rfl) rfl rfl ?_
  refine WL.nil ?_
  refine we_seq ?_
  refine wc_seq ?_
  refine wc_region ?_
  refine WL.q (y_makeFunc rfl rfl) (Wt.none rfl) rfl rfl ?_
  refine WL.s0 (d_store rfl rfl rfl rfl rfl rfl s68 rfl rfl) (Wt.none rfl) rfl ?_
  refine WL.nil ?_
  refine we_seq ?_
  refine wc_seq ?_
  refine wc_region ?_
  refine WL.q (y_move rfl) (Wt.none rfl) rfl rfl ?_
  refine WL.q (y_geq rfl rfl) (Wt.none rfl) rfl rfl ?_
  refine WL.q (y_move rfl) (Wt.none rfl) rfl rfl ?_
  replace h := bindS h
  obtain ⟨b20, hb20, h⟩ := h
  apply WL.grpS 6 [.dead, .row 68 [.fn (.func 40) [] [.pt 0 0, .pt 1 0]]] (t := 10) (d := 16) (z := b20)
  · exact rfl
  · intro hg10
    have h := condT hb20 hg10
    refine WL.q (y_load rfl rfl a68 rfl) (Wt.yes rfl rfl rfl) rfl rfl ?_
    refine WL.q (y_loadcN rfl a26 s26 rfl) (Wt.yes rfl rfl rfl) rfl rfl ?_
    refine WL.q (y_move rfl) (Wt.yes rfl rfl rfl) rfl rfl ?_
    refine WL.q (y_conv Try.underlying3 Try.underlying69 rfl rfl) (Wt.yes rfl rfl rfl) rfl rfl ?_
    replace h := bindS h
    obtain ⟨r21, hr21, h⟩ := h
    refine WL.winy [0, 1] rfl rfl rfl rfl (f40_c 100 _ _ _ _ hr21) ⟨(Le.refl _), (Le.refl _), (Le.refl _), Le.refl _, Le.refl _, trivial⟩ rfl (by decide) (cons_eq rfl (cons_eq rfl rfl)) ⟨rfl, rfl, trivial⟩ rfl rfl (fun _ => rfl) (fun _ => (cons_eq rfl (cons_eq rfl rfl))) (Wt.yes rfl rfl rfl) rfl rfl (fun ver21 => ?_)
    refine WL.q (y_pick_t rfl rfl) (Wt.none rfl) rfl rfl ?_
    obtain rfl := Option.some.inj h
    exact WL.nil ⟨⟨trivial, OLe.refl _, trivial⟩, [_, _, _, _, _, _], rfl, rfl, rfl⟩
  · intro hg10
    have h := condF hb20 hg10
    refine WL.skips 5 rfl ?_
    refine WL.q (y_pick_f rfl rfl) (Wt.none rfl) rfl rfl ?_
    obtain rfl := Option.some.inj h
    exact WL.nil ⟨⟨trivial, OLe.refl _, trivial⟩, [_, _, _, _, _, _], rfl, rfl, rfl⟩
  refine WL.q (y_assign rfl) (Wt.none rfl) rfl rfl ?_
  refine WL.nil ?_
  refine we_seq ?_
  refine wc_ret ?_
  obtain rfl := Option.some.inj h
  exact we_ret_fn (rs1 rfl (rv_t rfl)) (Le.refl _)

theorem f21_c (s0 : List (List Int)) (counts1 : List Int) (e2 : CE) {r : Int × Bool} (h : f21 s0 counts1 e2 = some r) : Pu Try.prog 21 [.sl (List.map E56 s0), .sl (List.map E3 counts1), .ag (R26 e2)] (.tu [.i .i64 r.1, .b r.2]) := by
  unfold f21 at h
  refine fn_intro Try.func21 (by kernel_rfl) rfl rfl rfl (fun φφ ww => ?_)
  refine wc_seq ?_
  refine wc_region ?_
  refine WL.s ((b_boxd rfl rfl (Les.refl _)).does) (Wt.none rfl) rfl rfl ?_
  refine WL.q (y_assign rfl) (Wt.none rfl) rfl rfl ?_
  refine WL.q (y_assign rfl) (Wt.none rfl) rfl rfl ?_
  refine WL.nil ?_
  refine we_seq ?_
  refine wc_seq ?_
  refine wc_seq ?_
  refine wc_region ?_
  refine WL.q (y_loadcN rfl a26 s26 rfl) (Wt.none rfl) rfl rfl ?_
  replace h := bindS h
  obtain ⟨r30, hr30, h⟩ := h
  refine WL.fn rfl rfl rfl rfl (f13_c _ _ hr30) ⟨(Le.refl _), (Le.refl _), trivial⟩ (Wt.none rfl) rfl rfl ?_
  refine WL.q (y_not rfl) (Wt.none rfl) rfl rfl ?_
  refine WL.nil ?_
  refine we_seq ?_
  refine wc_cond rfl (fun hc1 => ?_) (fun hc1 => ?_)
  · replace h := condT h hc1
    refine wc_seq ?_
    refine wc_region ?_
    refine WL.q (y_assign rfl) (Wt.none rfl) rfl rfl ?_
    refine WL.q (y_assign rfl) (Wt.none rfl) rfl rfl ?_
    refine WL.nil ?_
    refine we_seq ?_
    refine wc_ret ?_
    refine we_seq_ret ?_
    obtain rfl := Option.some.inj h
    exact we_ret_fn (rs2 rfl (rv_t rfl) (rv_t rfl)) (Le.tud ⟨(Le.refl _), (Le.refl _), trivial⟩)
  · replace h := condF h hc1
    refine wc_skip ?_
    refine we_seq ?_
    refine wc_seq ?_
    refine wc_region ?_
    refine WL.q (y_move rfl) (Wt.none rfl) rfl rfl ?_
    refine WL.q (y_move rfl) (Wt.none rfl) rfl rfl ?_
    refine WL.q (y_build p78 z78 rfl rfl) (Wt.none rfl) rfl rfl ?_
    refine WL.q (y_makeInterface (p := .ag (R78 (St.mk s0 counts1))) (by kernel_rfl) rfl (Le.agd ⟨(Le.refl _), (Le.refl _), trivial⟩)) (Wt.none rfl) rfl rfl ?_
    refine WL.q (y_build p82 z82 rfl rfl) (Wt.none rfl) rfl rfl ?_
    refine WL.q (y_loadcN rfl a26 s26 rfl) (Wt.none rfl) rfl rfl ?_
    replace h := bindS h
    obtain ⟨r31, hr31, h⟩ := h
    refine WL.fn rfl rfl rfl rfl (f53_c 100 _ _ hr31) ⟨(Le.agd ⟨(Le.refl _), Le.nil, trivial⟩), (Le.refl _), trivial⟩ (Wt.none rfl) rfl rfl ?_
    refine WL.q (y_move rfl) (Wt.none rfl) rfl rfl ?_
    refine WL.q (y_extractd rfl rfl) (Wt.none rfl) rfl rfl ?_
    refine WL.q (y_extractd rfl rfl) (Wt.none rfl) rfl rfl ?_
    refine WL.q (y_assign rfl) (Wt.none rfl) rfl rfl ?_
    refine WL.q (y_assign rfl) (Wt.none rfl) rfl rfl ?_
    refine WL.nil ?_
    refine we_seq ?_
    refine wc_seq ?_
    refine wc_seq ?_
    refine wc_region ?_
    refine WL.q (y_move rfl) (Wt.none rfl) rfl rfl ?_
    refine WL.q (y_not rfl) (Wt.none rfl) rfl rfl ?_
    refine WL.nil ?_
    refine we_seq ?_
    refine wc_cond rfl (fun hc2 => ?_) (fun hc2 => ?_)
    · replace h := condT h hc2
      refine wc_seq ?_
      refine wc_region ?_
      refine WL.q (y_assign rfl) (Wt.none rfl) rfl rfl ?_
      refine WL.q (y_assign rfl) (Wt.none rfl) rfl rfl ?_
      refine WL.nil ?_
      refine we_seq ?_
      refine wc_ret ?_
      refine we_seq_ret ?_
      obtain rfl := Option.some.inj h
      exact we_ret_fn (rs2 rfl (rv_t rfl) (rv_t rfl)) (Le.tud ⟨(Le.refl _), (Le.refl _), trivial⟩)
    · replace h := condF h hc2
      refine wc_skip ?_
      refine we_seq ?_
      refine wc_seq ?_
      refine wc_region ?_
      refine WL.q (y_move rfl) (Wt.none rfl) rfl rfl ?_
      refine WL.q (y_assign rfl) (Wt.none rfl) rfl rfl ?_
      refine WL.q (y_assign rfl) (Wt.none rfl) rfl rfl ?_
      refine WL.nil ?_
      refine we_seq ?_
      refine wc_ret ?_
      obtain rfl := Option.some.inj h
      exact we_ret_fn (rs2 rfl (rv_t rfl) (rv_t rfl)) (Le.tud ⟨(Le.refl _), (Le.refl _), trivial⟩)

theorem f15_c (p0 : Place) {r : Bool} (h : f15 p0 = some r) : Pu Try.prog 15 [.ag (R29 p0)] (.b r) := by
  unfold f15 at h
  refine fn_intro Try.func15 (by kernel_rfl) rfl rfl rfl (fun φφ ww => ?_)
  refine wc_seq ?_
  refine wc_region ?_
  refine WL.s ((b_boxd rfl rfl (Les.refl _)).does) (Wt.none rfl) rfl rfl ?_
  refine WL.q (y_assign rfl) (Wt.none rfl) rfl rfl ?_
  refine WL.nil ?_
  refine we_seq ?_
  refine wc_seq ?_
  refine wc_region ?_
  refine WL.q (y_fieldAddrc f29_4 rfl) (Wt.none rfl) rfl rfl ?_
  refine WL.q (y_loadc rfl a24 rfl) (Wt.none rfl) rfl rfl ?_
  refine WL.q (y_len_map E26 p0.e e24 rfl rfl (Le.refl _)) (Wt.none rfl) rfl rfl ?_
  refine WL.q (y_eql rfl rfl) (Wt.none rfl) rfl rfl ?_
  refine WL.q (y_move rfl) (Wt.none rfl) rfl rfl ?_
  replace h := bindS h
  obtain ⟨b76, hb76, h⟩ := h
  apply WL.grp 6 (t := 8) (d := 14) (z := b76)
  · exact rfl
  · intro hg8
    have h := condT hb76 hg8
    refine WL.q (y_fieldAddrc f29_4 rfl) (Wt.yes rfl rfl rfl) rfl rfl ?_
    refine WL.q (y_loadc rfl a24 rfl) (Wt.yes rfl rfl rfl) rfl rfl ?_
    replace h := bindS h
    obtain ⟨x77, hx77, h⟩ := h
    refine WL.q (y_indexAddr e24 rfl (Le.refl _) rfl (idx_nonneg hx77) (idx_row E26_eq hx77) rfl) (Wt.yes rfl rfl rfl) rfl rfl ?_
    refine WL.q (y_loadcN rfl a26 s26 rfl) (Wt.yes rfl rfl rfl) rfl rfl ?_
    replace h := bindS h
    obtain ⟨r78, hr78, h⟩ := h
    refine WL.fn rfl rfl rfl rfl (f13_c _ _ hr78) ⟨(Le.refl _), (Le.refl _), trivial⟩ (Wt.yes rfl rfl rfl) rfl rfl ?_
    refine WL.q (y_pick_t rfl rfl) (Wt.none rfl) rfl rfl ?_
    obtain rfl := Option.some.inj h
    exact WL.nil ⟨rfl, [_, _, _, _, _, _], rfl, rfl, rfl⟩
  · intro hg8
    have h := condF hb76 hg8
    refine WL.skips 5 rfl ?_
    refine WL.q (y_pick_f rfl rfl) (Wt.none rfl) rfl rfl ?_
    obtain rfl := Option.some.inj h
    exact WL.nil ⟨rfl, [_, _, _, _, _, _], rfl, rfl, rfl⟩
  refine WL.q (y_assign rfl) (Wt.none rfl) rfl rfl ?_
  refine WL.nil ?_
  refine we_seq ?_
  refine wc_seq ?_
  refine wc_seq ?_
  refine wc_region ?_
  refine WL.q (y_fieldAddrc f29_0 rfl) (Wt.none rfl) rfl rfl ?_
  refine WL.q (y_loadc rfl a27 rfl) (Wt.none rfl) rfl rfl ?_
  refine WL.nil ?_
  refine we_seq ?_
  refine wc_block ?_
  refine wc_seq ?_
  refine wc_region ?_
  refine WL.q (y_eql rfl rfl) (Wt.none rfl) rfl rfl ?_
  refine WL.q (y_assign rfl) (Wt.none rfl) rfl rfl ?_
  refine WL.nil ?_
  refine we_seq ?_
  refine wc_cond rfl (fun hc1 => ?_) (fun hc1 => ?_)
  · replace h := condT h hc1
    refine wc_seq ?_
    refine wc_region ?_
    refine WL.q (y_fieldAddrc f29_1 rfl) (Wt.none rfl) rfl rfl ?_
    refine WL.q (y_loadc rfl a3 rfl) (Wt.none rfl) rfl rfl ?_
    refine WL.fn rfl rfl rfl rfl (f43_c _) ⟨(Le.refl _), trivial⟩ (Wt.none rfl) rfl rfl ?_
    refine WL.q (y_move rfl) (Wt.none rfl) rfl rfl ?_
    apply WL.and 4 (t := 22) (d := 26)
    · exact rfl
    · intro hg22
      refine WL.q (y_fieldAddrc f29_2 rfl) (Wt.yes rfl rfl rfl) rfl rfl ?_
      refine WL.q (y_loadc rfl a3 rfl) (Wt.yes rfl rfl rfl) rfl rfl ?_
      refine WL.fn rfl rfl rfl rfl (f44_c _ _) ⟨(Le.refl _), (Le.refl _), trivial⟩ (Wt.yes rfl rfl rfl) rfl rfl ?_
      refine WL.q (y_pick_t rfl rfl) (Wt.none rfl) rfl rfl ?_
      exact WL.nil ⟨rfl, [_, _, _, _], rfl, rfl, rfl⟩
    · refine WL.skips 3 rfl ?_
      refine WL.q (y_pick_f rfl rfl) (Wt.none rfl) rfl rfl ?_
      exact WL.nil ⟨rfl, [_, _, _, _], rfl, rfl, rfl⟩
    refine WL.q (y_move rfl) (Wt.none rfl) rfl rfl ?_
    apply WL.and 4 (t := 27) (d := 31)
    · exact rfl
    · intro hg27
      refine WL.q (y_fieldAddrc f29_3 rfl) (Wt.yes rfl rfl rfl) rfl rfl ?_
      refine WL.q (y_loadc rfl a3 rfl) (Wt.yes rfl rfl rfl) rfl rfl ?_
      refine WL.q (y_eql rfl rfl) (Wt.yes rfl rfl rfl) rfl rfl ?_
      refine WL.q (y_pick_t rfl rfl) (Wt.none rfl) rfl rfl ?_
      exact WL.nil ⟨rfl, [_, _, _, _], rfl, rfl, rfl⟩
    · refine WL.skips 3 rfl ?_
      refine WL.q (y_pick_f rfl rfl) (Wt.none rfl) rfl rfl ?_
      exact WL.nil ⟨rfl, [_, _, _, _], rfl, rfl, rfl⟩
    refine WL.q (y_move rfl) (Wt.none rfl) rfl rfl ?_
    apply WL.and 5 (t := 32) (d := 37)
    · exact rfl
    · intro hg32
      refine WL.q (y_fieldAddrc f29_4 rfl) (Wt.yes rfl rfl rfl) rfl rfl ?_
      refine WL.q (y_loadc rfl a24 rfl) (Wt.yes rfl rfl rfl) rfl rfl ?_
      refine WL.q (y_len_map E26 p0.e e24 rfl rfl (Le.refl _)) (Wt.yes rfl rfl rfl) rfl rfl ?_
      refine WL.q (y_eql rfl rfl) (Wt.yes rfl rfl rfl) rfl rfl ?_
      refine WL.q (y_pick_t rfl rfl) (Wt.none rfl) rfl rfl ?_
      exact WL.nil ⟨rfl, [_, _, _, _, _], rfl, rfl, rfl⟩
    · refine WL.skips 4 rfl ?_
      refine WL.q (y_pick_f rfl rfl) (Wt.none rfl) rfl rfl ?_
      exact WL.nil ⟨rfl, [_, _, _, _, _], rfl, rfl, rfl⟩
    refine WL.q (y_assign rfl) (Wt.none rfl) rfl rfl ?_
    refine WL.nil ?_
    refine we_seq ?_
    refine wc_ret ?_
    refine we_blk_ret ?_
    refine we_seq_ret ?_
    obtain rfl := Option.some.inj h
    exact we_ret_fn (rs1 rfl (rv_t rfl)) (Le.refl _)
  · replace h := condF h hc1
    refine wc_seq ?_
    refine wc_region ?_
    refine WL.q (y_eql rfl rfl) (Wt.none rfl) rfl rfl ?_
    refine WL.q (y_assign rfl) (Wt.none rfl) rfl rfl ?_
    refine WL.nil ?_
    refine we_seq ?_
    refine wc_cond rfl (fun hc2 => ?_) (fun hc2 => ?_)
    · replace h := condT h hc2
      refine wc_seq ?_
      refine wc_region ?_
      refine WL.q (y_fieldAddrc f29_1 rfl) (Wt.none rfl) rfl rfl ?_
      refine WL.q (y_loadc rfl a3 rfl) (Wt.none rfl) rfl rfl ?_
      refine WL.fn rfl rfl rfl rfl (f43_c _) ⟨(Le.refl _), trivial⟩ (Wt.none rfl) rfl rfl ?_
      refine WL.q (y_move rfl) (Wt.none rfl) rfl rfl ?_
      apply WL.and 6 (t := 43) (d := 49)
      · exact rfl
      · intro hg43
        refine WL.q (y_fieldAddrc f29_2 rfl) (Wt.yes rfl rfl rfl) rfl rfl ?_
        refine WL.q (y_loadc rfl a3 rfl) (Wt.yes rfl rfl rfl) rfl rfl ?_
        refine WL.q (y_fieldAddrc f29_3 rfl) (Wt.yes rfl rfl rfl) rfl rfl ?_
        refine WL.q (y_loadc rfl a3 rfl) (Wt.yes rfl rfl rfl) rfl rfl ?_
        refine WL.fn rfl rfl rfl rfl (f44_c _ _) ⟨(Le.refl _), (Le.refl _), trivial⟩ (Wt.yes rfl rfl rfl) rfl rfl ?_
        refine WL.q (y_pick_t rfl rfl) (Wt.none rfl) rfl rfl ?_
        exact WL.nil ⟨rfl, [_, _, _, _, _, _], rfl, rfl, rfl⟩
      · refine WL.skips 5 rfl ?_
        refine WL.q (y_pick_f rfl rfl) (Wt.none rfl) rfl rfl ?_
        exact WL.nil ⟨rfl, [_, _, _, _, _, _], rfl, rfl, rfl⟩
      refine WL.q (y_move rfl) (Wt.none rfl) rfl rfl ?_
      apply WL.and 2 (t := 50) (d := 52)
      · exact rfl
      · intro hg50
        refine WL.q (y_move rfl) (Wt.yes rfl rfl rfl) rfl rfl ?_
        refine WL.q (y_pick_t rfl rfl) (Wt.none rfl) rfl rfl ?_
        exact WL.nil ⟨rfl, [_, _], rfl, rfl, rfl⟩
      · refine WL.skips 1 rfl ?_
        refine WL.q (y_pick_f rfl rfl) (Wt.none rfl) rfl rfl ?_
        exact WL.nil ⟨rfl, [_, _], rfl, rfl, rfl⟩
      refine WL.q (y_assign rfl) (Wt.none rfl) rfl rfl ?_
      refine WL.nil ?_
      refine we_seq ?_
      refine wc_ret ?_
      refine we_blk_ret ?_
      refine we_seq_ret ?_
      obtain rfl := Option.some.inj h
      exact we_ret_fn (rs1 rfl (rv_t rfl)) (Le.refl _)
    · replace h := condF h hc2
      refine wc_skip ?_
      refine we_blk ?_
      refine we_seq ?_
      refine wc_seq ?_
      refine wc_region ?_
      refine WL.q (y_fieldAddrc f29_0 rfl) (Wt.none rfl) rfl rfl ?_
      refine WL.q (y_loadc rfl a27 rfl) (Wt.none rfl) rfl rfl ?_
      refine WL.q (y_eql rfl rfl) (Wt.none rfl) rfl rfl ?_
      refine WL.q (y_move rfl) (Wt.none rfl) rfl rfl ?_
      apply WL.and 4 (t := 56) (d := 60)
      · exact rfl
      · intro hg56
        refine WL.q (y_fieldAddrc f29_1 rfl) (Wt.yes rfl rfl rfl) rfl rfl ?_
        refine WL.q (y_loadc rfl a3 rfl) (Wt.yes rfl rfl rfl) rfl rfl ?_
        refine WL.q (y_eql rfl rfl) (Wt.yes rfl rfl rfl) rfl rfl ?_
        refine WL.q (y_pick_t rfl rfl) (Wt.none rfl) rfl rfl ?_
        exact WL.nil ⟨rfl, [_, _, _, _], rfl, rfl, rfl⟩
      · refine WL.skips 3 rfl ?_
        refine WL.q (y_pick_f rfl rfl) (Wt.none rfl) rfl rfl ?_
        exact WL.nil ⟨rfl, [_, _, _, _], rfl, rfl, rfl⟩
      refine WL.q (y_move rfl) (Wt.none rfl) rfl rfl ?_
      apply WL.and 4 (t := 61) (d := 65)
      · exact rfl
      · intro hg61
        refine WL.q (y_fieldAddrc f29_2 rfl) (Wt.yes rfl rfl rfl) rfl rfl ?_
        refine WL.q (y_loadc rfl a3 rfl) (Wt.yes rfl rfl rfl) rfl rfl ?_
        refine WL.q (y_eql rfl rfl) (Wt.yes rfl rfl rfl) rfl rfl ?_
        refine WL.q (y_pick_t rfl rfl) (Wt.none rfl) rfl rfl ?_
        exact WL.nil ⟨rfl, [_, _, _, _], rfl, rfl, rfl⟩
      · refine WL.skips 3 rfl ?_
        refine WL.q (y_pick_f rfl rfl) (Wt.none rfl) rfl rfl ?_
        exact WL.nil ⟨rfl, [_, _, _, _], rfl, rfl, rfl⟩
      refine WL.q (y_move rfl) (Wt.none rfl) rfl rfl ?_
      apply WL.and 4 (t := 66) (d := 70)
      · exact rfl
      · intro hg66
        refine WL.q (y_fieldAddrc f29_3 rfl) (Wt.yes rfl rfl rfl) rfl rfl ?_
        refine WL.q (y_loadc rfl a3 rfl) (Wt.yes rfl rfl rfl) rfl rfl ?_
        refine WL.q (y_eql rfl rfl) (Wt.yes rfl rfl rfl) rfl rfl ?_
        refine WL.q (y_pick_t rfl rfl) (Wt.none rfl) rfl rfl ?_
        exact WL.nil ⟨rfl, [_, _, _, _], rfl, rfl, rfl⟩
      · refine WL.skips 3 rfl ?_
        refine WL.q (y_pick_f rfl rfl) (Wt.none rfl) rfl rfl ?_
        exact WL.nil ⟨rfl, [_, _, _, _], rfl, rfl, rfl⟩
      refine WL.q (y_move rfl) (Wt.none rfl) rfl rfl ?_
      apply WL.and 2 (t := 71) (d := 73)
      · exact rfl
      · intro hg71
        refine WL.q (y_move rfl) (Wt.yes rfl rfl rfl) rfl rfl ?_
        refine WL.q (y_pick_t rfl rfl) (Wt.none rfl) rfl rfl ?_
        exact WL.nil ⟨rfl, [_, _], rfl, rfl, rfl⟩
      · refine WL.skips 1 rfl ?_
        refine WL.q (y_pick_f rfl rfl) (Wt.none rfl) rfl rfl ?_
        exact WL.nil ⟨rfl, [_, _], rfl, rfl, rfl⟩
      refine WL.q (y_assign rfl) (Wt.none rfl) rfl rfl ?_
      refine WL.nil ?_
      refine we_seq ?_
      refine wc_ret ?_
      obtain rfl := Option.some.inj h
      exact we_ret_fn (rs1 rfl (rv_t rfl)) (Le.refl _)

end Go.Proofs.Ytjjgmpmhfodmeaa
