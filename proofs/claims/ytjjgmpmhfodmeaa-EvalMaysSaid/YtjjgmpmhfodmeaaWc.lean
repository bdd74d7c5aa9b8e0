/- Part of the proof. -/
import Derived.Test.YtjjgmpmhfodmeaaProg
import Derived.KernelRfl
import Derived.Test.YtjjgmpmhfodmeaaWb
set_option maxHeartbeats 4000000
namespace Go.Proofs.Ytjjgmpmhfodmeaa
open Go Go.Sk
theorem f20_c  {r : Bool} (h : f20  = some r) : Pu Try.prog 20 [] (.b r) := by
  unfold f20 at h
  refine fn_intro Try.func20 (by kernel_rfl) rfl rfl rfl (fun φφ ww => ?_)
  refine wc_seq ?_
  refine wc_region ?_
  refine WL.q (y_assign rfl) (Wt.none rfl) rfl rfl ?_
  refine WL.nil ?_
  refine we_seq ?_
  refine wc_seq ?_
  refine wc_region ?_
  refine WL.s (((NewOs.b (n_buildSlice l56 z2 rfl (by decide) (by decide) rfl rfl rfl (by decide))).does)) (Wt.none rfl) rfl rfl ?_
  refine WL.s (((NewOs.b (n_buildSlice l56 z2 rfl (by decide) (by decide) rfl rfl rfl (by decide))).does)) (Wt.none rfl) rfl rfl ?_
  refine WL.s ((b_buildNone l56).does) (Wt.none rfl) rfl rfl ?_
  refine WL.freezeX [11] [] 0 (List.map E2 [7]) rfl (encA_map E2_eq [7]) ⟨rfl, trivial⟩ trivial ?_
  refine WL.freezeX [12] [] 1 (List.map E2 [1, 2, 3]) rfl (encA_map E2_eq [1, 2, 3]) ⟨rfl, trivial⟩ trivial ?_
  refine WL.s (((NewOs.b (NewOs.weak (es' := List.map (encA E56) [[7], [1, 2, 3], ([] : List Int)]) (n_buildSlice l37 z56 rfl (by decide) (by decide) rfl rfl rfl (by decide)) (by exact ⟨⟨(Le.refl _), trivial⟩, ⟨(Le.refl _), trivial⟩, ⟨(Le.fs _), trivial⟩, trivial⟩))).does)) (Wt.none rfl) rfl rfl ?_
  refine WL.s (((NewOs.b (n_buildSlice l33 z3 rfl (by decide) (by decide) rfl rfl rfl (by decide))).does)) (Wt.none rfl) rfl rfl ?_
  refine WL.q (y_assign rfl) (Wt.none rfl) rfl rfl ?_
  refine WL.q (y_assign rfl) (Wt.none rfl) rfl rfl ?_
  refine WL.nil ?_
  refine we_seq ?_
  refine wc_seq ?_
  refine wc_region ?_
  refine WL.q (y_assign rfl) (Wt.none rfl) rfl rfl ?_
  refine WL.nil ?_
  refine we_seq ?_
  refine wc_seq ?_
  refine wc_region ?_
  refine WL.q (y_move rfl) (Wt.none rfl) rfl rfl ?_
  refine WL.q (y_move rfl) (Wt.none rfl) rfl rfl ?_
  refine WL.fn rfl rfl rfl rfl (f39_c _ _) ⟨(Le.refl _), (Le.refl _), trivial⟩ (Wt.none rfl) rfl rfl ?_
  refine WL.freezeX [14, 1, 16] [] 2 (List.map E56 [[7], [1, 2, 3], ([] : List Int)]) rfl (encA_map E56_eq [[7], [1, 2, 3], ([] : List Int)]) ⟨rfl, rfl, rfl, trivial⟩ trivial ?_
  refine WL.freezeX [15, 2, 17] [] 3 (List.map E3 [4]) rfl (encA_map E3_eq [4]) ⟨rfl, rfl, rfl, trivial⟩ trivial ?_
  replace h := bindS h
  obtain ⟨r185, hr185, h⟩ := h
  refine WL.fn rfl rfl rfl rfl (f38_c _ _ _ _ hr185) ⟨(Le.refl _), (Le.refl _), (Le.refl _), (Le.refl _), trivial⟩ (Wt.none rfl) rfl rfl ?_
  refine WL.q (y_move rfl) (Wt.none rfl) rfl rfl ?_
  replace h := bindS h
  obtain ⟨b186, hb186, h⟩ := h
  apply WL.grp 5 (t := 20) (d := 25) (z := b186)
  · exact rfl
  · intro hg20
    have h := condT hb186 hg20
    refine WL.q (y_move rfl) (Wt.yes rfl rfl rfl) rfl rfl ?_
    refine WL.q (y_move rfl) (Wt.yes rfl rfl rfl) rfl rfl ?_
    refine WL.fn rfl rfl rfl rfl (f39_c _ _) ⟨(Le.refl _), (Le.refl _), trivial⟩ (Wt.yes rfl rfl rfl) rfl rfl ?_
    replace h := bindS h
    obtain ⟨r187, hr187, h⟩ := h
    refine WL.fn rfl rfl rfl rfl (f24_c _ _ _ hr187) ⟨(Le.refl _), (Le.refl _), (Le.refl _), trivial⟩ (Wt.yes rfl rfl rfl) rfl rfl ?_
    refine WL.q (y_pick_t rfl rfl) (Wt.none rfl) rfl rfl ?_
    obtain rfl := Option.some.inj h
    exact WL.nil ⟨rfl, [_, _, _, _, _], rfl, rfl, rfl⟩
  · intro hg20
    have h := condF hb186 hg20
    refine WL.skips 4 rfl ?_
    refine WL.q (y_pick_f rfl rfl) (Wt.none rfl) rfl rfl ?_
    obtain rfl := Option.some.inj h
    exact WL.nil ⟨rfl, [_, _, _, _, _], rfl, rfl, rfl⟩
  refine WL.q (y_move rfl) (Wt.none rfl) rfl rfl ?_
  replace h := bindS h
  obtain ⟨b188, hb188, h⟩ := h
  apply WL.grp 6 (t := 26) (d := 32) (z := b188)
  · exact rfl
  · intro hg26
    have h := condT hb188 hg26
    refine WL.q (y_move rfl) (Wt.yes rfl rfl rfl) rfl rfl ?_
    refine WL.q (y_move rfl) (Wt.yes rfl rfl rfl) rfl rfl ?_
    refine WL.q (y_move rfl) (Wt.yes rfl rfl rfl) rfl rfl ?_
    refine WL.fn rfl rfl rfl rfl (f51_c _) ⟨(Le.refl _), trivial⟩ (Wt.yes rfl rfl rfl) rfl rfl ?_
    replace h := bindS h
    obtain ⟨r189, hr189, h⟩ := h
    refine WL.fn rfl rfl rfl rfl (f38_c _ _ _ _ hr189) ⟨(Le.refl _), (Le.refl _), (Le.refl _), (Le.refl _), trivial⟩ (Wt.yes rfl rfl rfl) rfl rfl ?_
    refine WL.q (y_pick_t rfl rfl) (Wt.none rfl) rfl rfl ?_
    obtain rfl := Option.some.inj h
    exact WL.nil ⟨rfl, [_, _, _, _, _, _], rfl, rfl, rfl⟩
  · intro hg26
    have h := condF hb188 hg26
    refine WL.skips 5 rfl ?_
    refine WL.q (y_pick_f rfl rfl) (Wt.none rfl) rfl rfl ?_
    obtain rfl := Option.some.inj h
    exact WL.nil ⟨rfl, [_, _, _, _, _, _], rfl, rfl, rfl⟩
  refine WL.q (y_move rfl) (Wt.none rfl) rfl rfl ?_
  replace h := bindS h
  obtain ⟨b190, hb190, h⟩ := h
  apply WL.grp 6 (t := 33) (d := 39) (z := b190)
  · exact rfl
  · intro hg33
    have h := condT hb190 hg33
    refine WL.q (y_move rfl) (Wt.yes rfl rfl rfl) rfl rfl ?_
    refine WL.q (y_move rfl) (Wt.yes rfl rfl rfl) rfl rfl ?_
    refine WL.q (y_move rfl) (Wt.yes rfl rfl rfl) rfl rfl ?_
    refine WL.fn rfl rfl rfl rfl (f51_c _) ⟨(Le.refl _), trivial⟩ (Wt.yes rfl rfl rfl) rfl rfl ?_
    replace h := bindS h
    obtain ⟨r191, hr191, h⟩ := h
    refine WL.fn rfl rfl rfl rfl (f24_c _ _ _ hr191) ⟨(Le.refl _), (Le.refl _), (Le.refl _), trivial⟩ (Wt.yes rfl rfl rfl) rfl rfl ?_
    refine WL.q (y_pick_t rfl rfl) (Wt.none rfl) rfl rfl ?_
    obtain rfl := Option.some.inj h
    exact WL.nil ⟨rfl, [_, _, _, _, _, _], rfl, rfl, rfl⟩
  · intro hg33
    have h := condF hb190 hg33
    refine WL.skips 5 rfl ?_
    refine WL.q (y_pick_f rfl rfl) (Wt.none rfl) rfl rfl ?_
    obtain rfl := Option.some.inj h
    exact WL.nil ⟨rfl, [_, _, _, _, _, _], rfl, rfl, rfl⟩
  refine WL.q (y_move rfl) (Wt.none rfl) rfl rfl ?_
  replace h := bindS h
  obtain ⟨b192, hb192, h⟩ := h
  apply WL.grp 7 (t := 40) (d := 47) (z := b192)
  · exact rfl
  · intro hg40
    have h := condT hb192 hg40
    refine WL.q (y_move rfl) (Wt.yes rfl rfl rfl) rfl rfl ?_
    refine WL.q (y_move rfl) (Wt.yes rfl rfl rfl) rfl rfl ?_
    refine WL.fn rfl rfl rfl rfl (f26_c _) ⟨(Le.refl _), trivial⟩ (Wt.yes rfl rfl rfl) rfl rfl ?_
    refine WL.fn rfl rfl rfl rfl (f26_c _) ⟨(Le.refl _), trivial⟩ (Wt.yes rfl rfl rfl) rfl rfl ?_
    refine WL.fn rfl rfl rfl rfl (f27_c _ _ _) ⟨(Le.refl _), (Le.refl _), (Le.refl _), trivial⟩ (Wt.yes rfl rfl rfl) rfl rfl ?_
    replace h := bindS h
    obtain ⟨r193, hr193, h⟩ := h
    refine WL.fn rfl rfl rfl rfl (f38_c _ _ _ _ hr193) ⟨(Le.refl _), (Le.refl _), (Le.refl _), (Le.refl _), trivial⟩ (Wt.yes rfl rfl rfl) rfl rfl ?_
    refine WL.q (y_pick_t rfl rfl) (Wt.none rfl) rfl rfl ?_
    obtain rfl := Option.some.inj h
    exact WL.nil ⟨rfl, [_, _, _, _, _, _, _], rfl, rfl, rfl⟩
  · intro hg40
    have h := condF hb192 hg40
    refine WL.skips 6 rfl ?_
    refine WL.q (y_pick_f rfl rfl) (Wt.none rfl) rfl rfl ?_
    obtain rfl := Option.some.inj h
    exact WL.nil ⟨rfl, [_, _, _, _, _, _, _], rfl, rfl, rfl⟩
  refine WL.q (y_move rfl) (Wt.none rfl) rfl rfl ?_
  replace h := bindS h
  obtain ⟨b194, hb194, h⟩ := h
  apply WL.grp 7 (t := 48) (d := 55) (z := b194)
  · exact rfl
  · intro hg48
    have h := condT hb194 hg48
    refine WL.q (y_move rfl) (Wt.yes rfl rfl rfl) rfl rfl ?_
    refine WL.q (y_move rfl) (Wt.yes rfl rfl rfl) rfl rfl ?_
    refine WL.fn rfl rfl rfl rfl (f26_c _) ⟨(Le.refl _), trivial⟩ (Wt.yes rfl rfl rfl) rfl rfl ?_
    refine WL.fn rfl rfl rfl rfl (f26_c _) ⟨(Le.refl _), trivial⟩ (Wt.yes rfl rfl rfl) rfl rfl ?_
    refine WL.fn rfl rfl rfl rfl (f27_c _ _ _) ⟨(Le.refl _), (Le.refl _), (Le.refl _), trivial⟩ (Wt.yes rfl rfl rfl) rfl rfl ?_
    replace h := bindS h
    obtain ⟨r195, hr195, h⟩ := h
    refine WL.fn rfl rfl rfl rfl (f38_c _ _ _ _ hr195) ⟨(Le.refl _), (Le.refl _), (Le.refl _), (Le.refl _), trivial⟩ (Wt.yes rfl rfl rfl) rfl rfl ?_
    refine WL.q (y_pick_t rfl rfl) (Wt.none rfl) rfl rfl ?_
    obtain rfl := Option.some.inj h
    exact WL.nil ⟨rfl, [_, _, _, _, _, _, _], rfl, rfl, rfl⟩
  · intro hg48
    have h := condF hb194 hg48
    refine WL.skips 6 rfl ?_
    refine WL.q (y_pick_f rfl rfl) (Wt.none rfl) rfl rfl ?_
    obtain rfl := Option.some.inj h
    exact WL.nil ⟨rfl, [_, _, _, _, _, _, _], rfl, rfl, rfl⟩
  refine WL.q (y_assign rfl) (Wt.none rfl) rfl rfl ?_
  refine WL.nil ?_
  refine we_seq ?_
  refine wc_seq ?_
  refine wc_region ?_
  refine WL.q (y_move rfl) (Wt.none rfl) rfl rfl ?_
  refine WL.q (y_move rfl) (Wt.none rfl) rfl rfl ?_
  refine WL.fn rfl rfl rfl rfl (f26_c _) ⟨(Le.refl _), trivial⟩ (Wt.none rfl) rfl rfl ?_
  refine WL.fn rfl rfl rfl rfl (f52_c _) ⟨(Le.refl _), trivial⟩ (Wt.none rfl) rfl rfl ?_
  refine WL.fn rfl rfl rfl rfl (f39_c _ _) ⟨(Le.refl _), (Le.refl _), trivial⟩ (Wt.none rfl) rfl rfl ?_
  refine WL.fn rfl rfl rfl rfl (f27_c _ _ _) ⟨(Le.refl _), (Le.refl _), (Le.refl _), trivial⟩ (Wt.none rfl) rfl rfl ?_
  refine WL.s (((NewOs.b (n_buildSlice l24 z26 rfl (by decide) (by decide) rfl rfl rfl (by decide))).does)) (Wt.none rfl) rfl rfl ?_
  refine WL.freezeX [62] [] 4 (List.map E26 [(f26 5), (f27 3 (f52 0) (f39 0 0))]) rfl (encA_map E26_eq [(f26 5), (f27 3 (f52 0) (f39 0 0))]) ⟨rfl, trivial⟩ trivial ?_
  refine WL.fn rfl rfl rfl rfl (f23_c _ _) ⟨(Le.refl _), (Le.refl _), trivial⟩ (Wt.none rfl) rfl rfl ?_
  replace h := bindS h
  obtain ⟨r196, hr196, h⟩ := h
  refine WL.fn rfl rfl rfl rfl (f38_c _ _ _ _ hr196) ⟨(Le.refl _), (Le.refl _), (Le.refl _), (Le.refl _), trivial⟩ (Wt.none rfl) rfl rfl ?_
  refine WL.q (y_move rfl) (Wt.none rfl) rfl rfl ?_
  replace h := bindS h
  obtain ⟨b197, hb197, h⟩ := h
  apply WL.grp 13 (t := 65) (d := 78) (z := b197)
  · exact rfl
  · intro hg65
    have h := condT hb197 hg65
    refine WL.q (y_move rfl) (Wt.yes rfl rfl rfl) rfl rfl ?_
    refine WL.q (y_move rfl) (Wt.yes rfl rfl rfl) rfl rfl ?_
    refine WL.fn rfl rfl rfl rfl (f26_c _) ⟨(Le.refl _), trivial⟩ (Wt.yes rfl rfl rfl) rfl rfl ?_
    refine WL.fn rfl rfl rfl rfl (f26_c _) ⟨(Le.refl _), trivial⟩ (Wt.yes rfl rfl rfl) rfl rfl ?_
    refine WL.fn rfl rfl rfl rfl (f52_c _) ⟨(Le.refl _), trivial⟩ (Wt.yes rfl rfl rfl) rfl rfl ?_
    refine WL.fn rfl rfl rfl rfl (f52_c _) ⟨(Le.refl _), trivial⟩ (Wt.yes rfl rfl rfl) rfl rfl ?_
    refine WL.fn rfl rfl rfl rfl (f27_c _ _ _) ⟨(Le.refl _), (Le.refl _), (Le.refl _), trivial⟩ (Wt.yes rfl rfl rfl) rfl rfl ?_
    refine WL.s ((NewOs.data (n_buildSlice l24 z26 rfl (by decide) (by decide) rfl rfl rfl (by decide)) (by exact encA_map E26_eq [(f26 2), (f27 2 (f52 1) (f52 0))])).does) (Wt.yes rfl rfl rfl) rfl rfl ?_
    refine WL.fn rfl rfl rfl rfl (f23_c _ _) ⟨(Le.refl _), (Le.refl _), trivial⟩ (Wt.yes rfl rfl rfl) rfl rfl ?_
    refine WL.s ((NewOs.data (n_buildSlice l24 z26 rfl (by decide) (by decide) rfl rfl rfl (by decide)) (by exact encA_map E26_eq [(f26 1), (f23 10 [(f26 2), (f27 2 (f52 1) (f52 0))])])).does) (Wt.yes rfl rfl rfl) rfl rfl ?_
    refine WL.fn rfl rfl rfl rfl (f23_c _ _) ⟨(Le.refl _), (Le.refl _), trivial⟩ (Wt.yes rfl rfl rfl) rfl rfl ?_
    replace h := bindS h
    obtain ⟨r198, hr198, h⟩ := h
    refine WL.fn rfl rfl rfl rfl (f38_c _ _ _ _ hr198) ⟨(Le.refl _), (Le.refl _), (Le.refl _), (Le.refl _), trivial⟩ (Wt.yes rfl rfl rfl) rfl rfl ?_
    refine WL.q (y_pick_t rfl rfl) (Wt.none rfl) rfl rfl ?_
    obtain rfl := Option.some.inj h
    exact WL.nil ⟨rfl, [_, _, _, _, _, _, _, _, _, _, _, _, _], rfl, rfl, rfl⟩
  · intro hg65
    have h := condF hb197 hg65
    refine WL.skips 12 rfl ?_
    refine WL.q (y_pick_f rfl rfl) (Wt.none rfl) rfl rfl ?_
    obtain rfl := Option.some.inj h
    exact WL.nil ⟨rfl, [_, _, _, _, _, _, _, _, _, _, _, _, _], rfl, rfl, rfl⟩
  refine WL.q (y_assign rfl) (Wt.none rfl) rfl rfl ?_
  refine WL.nil ?_
  refine we_seq ?_
  refine wc_seq ?_
  refine wc_region ?_
  refine WL.q (y_move rfl) (Wt.none rfl) rfl rfl ?_
  refine WL.q (y_move rfl) (Wt.none rfl) rfl rfl ?_
  refine WL.q (y_build p26 z26 rfl rfl) (Wt.none rfl) rfl rfl ?_
  refine WL.s (((NewOs.b (NewOs.weak (es' := List.map (encA R26) [(CE.mk 12 0 0 0 0 0 0 0 [])]) (n_buildSlice l24 z26 rfl (by decide) (by decide) rfl rfl rfl (by decide)) (by exact ⟨⟨(Le.refl _), (Le.refl _), (Le.refl _), (Le.refl _), (Le.refl _), (Le.refl _), (Le.refl _), (Le.refl _), Le.nil, trivial⟩, trivial⟩))).does)) (Wt.none rfl) rfl rfl ?_
  refine WL.freezeX [82] [] 5 (List.map E26 [(CE.mk 12 0 0 0 0 0 0 0 [])]) rfl (encA_map E26_eq [(CE.mk 12 0 0 0 0 0 0 0 [])]) ⟨rfl, trivial⟩ trivial ?_
  refine WL.fn rfl rfl rfl rfl (f23_c _ _) ⟨(Le.refl _), (Le.refl _), trivial⟩ (Wt.none rfl) rfl rfl ?_
  replace h := bindS h
  obtain ⟨r199, hr199, h⟩ := h
  refine WL.fn rfl rfl rfl rfl (f38_c _ _ _ _ hr199) ⟨(Le.refl _), (Le.refl _), (Le.refl _), (Le.refl _), trivial⟩ (Wt.none rfl) rfl rfl ?_
  refine WL.q (y_move rfl) (Wt.none rfl) rfl rfl ?_
  replace h := bindS h
  obtain ⟨b200, hb200, h⟩ := h
  apply WL.grp 7 (t := 85) (d := 92) (z := b200)
  · exact rfl
  · intro hg85
    have h := condT hb200 hg85
    refine WL.q (y_move rfl) (Wt.yes rfl rfl rfl) rfl rfl ?_
    refine WL.q (y_move rfl) (Wt.yes rfl rfl rfl) rfl rfl ?_
    refine WL.fn rfl rfl rfl rfl (f26_c _) ⟨(Le.refl _), trivial⟩ (Wt.yes rfl rfl rfl) rfl rfl ?_
    refine WL.s ((NewOs.data (n_buildSlice l24 z26 rfl (by decide) (by decide) rfl rfl rfl (by decide)) (by exact encA_map E26_eq [(f26 0)])).does) (Wt.yes rfl rfl rfl) rfl rfl ?_
    refine WL.fn rfl rfl rfl rfl (f23_c _ _) ⟨(Le.refl _), (Le.refl _), trivial⟩ (Wt.yes rfl rfl rfl) rfl rfl ?_
    replace h := bindS h
    obtain ⟨r201, hr201, h⟩ := h
    refine WL.fn rfl rfl rfl rfl (f24_c _ _ _ hr201) ⟨(Le.refl _), (Le.refl _), (Le.refl _), trivial⟩ (Wt.yes rfl rfl rfl) rfl rfl ?_
    refine WL.q (y_pick_t rfl rfl) (Wt.none rfl) rfl rfl ?_
    obtain rfl := Option.some.inj h
    exact WL.nil ⟨rfl, [_, _, _, _, _, _, _], rfl, rfl, rfl⟩
  · intro hg85
    have h := condF hb200 hg85
    refine WL.skips 6 rfl ?_
    refine WL.q (y_pick_f rfl rfl) (Wt.none rfl) rfl rfl ?_
    obtain rfl := Option.some.inj h
    exact WL.nil ⟨rfl, [_, _, _, _, _, _, _], rfl, rfl, rfl⟩
  refine WL.q (y_move rfl) (Wt.none rfl) rfl rfl ?_
  replace h := bindS h
  obtain ⟨b202, hb202, h⟩ := h
  apply WL.grp 5 (t := 93) (d := 98) (z := b202)
  · exact rfl
  · intro hg93
    have h := condT hb202 hg93
    refine WL.q (y_move rfl) (Wt.yes rfl rfl rfl) rfl rfl ?_
    refine WL.q (y_move rfl) (Wt.yes rfl rfl rfl) rfl rfl ?_
    refine WL.q (y_build p26 z26 rfl rfl) (Wt.yes rfl rfl rfl) rfl rfl ?_
    replace h := bindS h
    obtain ⟨r203, hr203, h⟩ := h
    refine WL.fn rfl rfl rfl rfl (f38_c _ _ _ _ hr203) ⟨(Le.refl _), (Le.refl _), (Le.agd ⟨(Le.refl _), (Le.refl _), (Le.refl _), (Le.refl _), (Le.refl _), (Le.refl _), (Le.refl _), (Le.refl _), Le.nil, trivial⟩), (Le.refl _), trivial⟩ (Wt.yes rfl rfl rfl) rfl rfl ?_
    refine WL.q (y_pick_t rfl rfl) (Wt.none rfl) rfl rfl ?_
    obtain rfl := Option.some.inj h
    exact WL.nil ⟨rfl, [_, _, _, _, _], rfl, rfl, rfl⟩
  · intro hg93
    have h := condF hb202 hg93
    refine WL.skips 4 rfl ?_
    refine WL.q (y_pick_f rfl rfl) (Wt.none rfl) rfl rfl ?_
    obtain rfl := Option.some.inj h
    exact WL.nil ⟨rfl, [_, _, _, _, _], rfl, rfl, rfl⟩
  refine WL.q (y_move rfl) (Wt.none rfl) rfl rfl ?_
  replace h := bindS h
  obtain ⟨b204, hb204, h⟩ := h
  apply WL.grp 5 (t := 99) (d := 104) (z := b204)
  · exact rfl
  · intro hg99
    have h := condT hb204 hg99
    refine WL.q (y_move rfl) (Wt.yes rfl rfl rfl) rfl rfl ?_
    refine WL.q (y_move rfl) (Wt.yes rfl rfl rfl) rfl rfl ?_
    refine WL.q (y_build p26 z26 rfl rfl) (Wt.yes rfl rfl rfl) rfl rfl ?_
    replace h := bindS h
    obtain ⟨r205, hr205, h⟩ := h
    refine WL.fn rfl rfl rfl rfl (f24_c _ _ _ hr205) ⟨(Le.refl _), (Le.refl _), (Le.agd ⟨(Le.refl _), (Le.refl _), (Le.refl _), (Le.refl _), (Le.refl _), (Le.refl _), (Le.refl _), (Le.refl _), Le.nil, trivial⟩), trivial⟩ (Wt.yes rfl rfl rfl) rfl rfl ?_
    refine WL.q (y_pick_t rfl rfl) (Wt.none rfl) rfl rfl ?_
    obtain rfl := Option.some.inj h
    exact WL.nil ⟨rfl, [_, _, _, _, _], rfl, rfl, rfl⟩
  · intro hg99
    have h := condF hb204 hg99
    refine WL.skips 4 rfl ?_
    refine WL.q (y_pick_f rfl rfl) (Wt.none rfl) rfl rfl ?_
    obtain rfl := Option.some.inj h
    exact WL.nil ⟨rfl, [_, _, _, _, _], rfl, rfl, rfl⟩
  refine WL.q (y_assign rfl) (Wt.none rfl) rfl rfl ?_
  refine WL.nil ?_
  refine we_seq ?_
  refine wc_seq ?_
  refine wc_region ?_
  refine WL.fn rfl rfl rfl rfl (f26_c _) ⟨(Le.refl _), trivial⟩ (Wt.none rfl) rfl rfl ?_
  refine WL.fn rfl rfl rfl rfl (f26_c _) ⟨(Le.refl _), trivial⟩ (Wt.none rfl) rfl rfl ?_
  refine WL.fn rfl rfl rfl rfl (f27_c _ _ _) ⟨(Le.refl _), (Le.refl _), (Le.refl _), trivial⟩ (Wt.none rfl) rfl rfl ?_
  refine WL.fn rfl rfl rfl rfl (f26_c _) ⟨(Le.refl _), trivial⟩ (Wt.none rfl) rfl rfl ?_
  refine WL.fn rfl rfl rfl rfl (f27_c _ _ _) ⟨(Le.refl _), (Le.refl _), (Le.refl _), trivial⟩ (Wt.none rfl) rfl rfl ?_
  refine WL.s ((b_alloc z26).does) (Wt.none rfl) rfl rfl ?_
  refine WL.s0 (d_store rfl rfl rfl rfl rfl rfl s26 rfl rfl) (Wt.none rfl) rfl ?_
  refine WL.nil ?_
  refine we_seq ?_
  replace h := letkS h
  obtain ⟨k207, hk207, h⟩ := h
  refine wc_cut (fun env' st' => ∃ (four206 : Bool), k207 four206 = some r ∧ Sub [(4, .d (D.b b194)), (5, .d (D.b b197)), (6, .d (D.b b204)), (8, .d (D.b four206))] env' ∧ SLe st' [.dead, .dead, .dead, .dead, .dead, .dead, .row 26 [.d (D.i .u8 ((f27 7 (f27 4 (f26 1) (f26 0)) (f26 1)).kind)), .d (D.i .u8 ((f27 7 (f27 4 (f26 1) (f26 0)) (f26 1)).op)), .d (D.i .i64 ((f27 7 (f27 4 (f26 1) (f26 0)) (f26 1)).n)), .d (D.i .i64 ((f27 7 (f27 4 (f26 1) (f26 0)) (f26 1)).o)), .d (D.i .i64 ((f27 7 (f27 4 (f26 1) (f26 0)) (f26 1)).off)), .d (D.i .i64 ((f27 7 (f27 4 (f26 1) (f26 0)) (f26 1)).len)), .d (D.i .i64 ((f27 7 (f27 4 (f26 1) (f26 0)) (f26 1)).lo)), .d (D.i .i64 ((f27 7 (f27 4 (f26 1) (f26 0)) (f26 1)).hi)), .d (.sl (List.map E26 ((f27 7 (f27 4 (f26 1) (f26 0)) (f26 1)).l)))]]) ?_ ?_
  · replace h := bindS h
    obtain ⟨r208, hr208, h⟩ := h
    rcases boolCases r208 with hb4 | hb4
    · replace h := condT h hb4
      replace h := bindS h
      obtain ⟨r209, hr209, h⟩ := h
      rcases boolCases r209 with hb5 | hb5
      · replace h := condT h hb5
        replace h := bindS h
        obtain ⟨r210, hr210, h⟩ := h
        rcases boolCases r210 with hb6 | hb6
        · replace h := condT h hb6
          replace h := bindS h
          obtain ⟨r211, hr211, h⟩ := h
          apply wc_region_all [_, _, _, _, _, _, _, _, _, _, _, _, _, _, _, _, _, _, _, _, _, _, _, _, _, _, _, _, _, _, _, _, _] [[], [], [], [], [2, 3], [2, 3, 4], [0, 1, 2, 3, 4, 5], [0, 1, 2, 3, 4, 5, 6], [0, 1, 2, 3, 4, 5, 6, 7], [0, 1, 2, 3, 4, 5, 6, 7], [0, 1, 2, 3, 4, 5, 6, 7], [0, 1, 2, 3, 4, 5, 6, 7], [0, 1, 2, 3, 4, 5, 6, 7, 10, 11], [0, 1, 2, 3, 4, 5, 6, 7, 10, 11, 12], [0, 1, 2, 3, 4, 5, 6, 7, 8, 9, 10, 11, 12, 13], [0, 1, 2, 3, 4, 5, 6, 7, 8, 9, 10, 11, 12, 13, 14], [0, 1, 2, 3, 4, 5, 6, 7, 8, 9, 10, 11, 12, 13, 14, 15], [0, 1, 2, 3, 4, 5, 6, 7, 8, 9, 10, 11, 12, 13, 14, 15, 16], [0, 1, 2, 3, 4, 5, 6, 7, 8, 9, 10, 11, 12, 13, 14, 15, 16], [0, 1, 2, 3, 4, 5, 6, 7, 8, 9, 10, 11, 12, 13, 14, 15, 16], [0, 1, 2, 3, 4, 5, 6, 7, 8, 9, 10, 11, 12, 13, 14, 15, 16, 19], [0, 1, 2, 3, 4, 5, 6, 7, 8, 9, 10, 11, 12, 13, 14, 15, 16, 19, 20], [0, 1, 2, 3, 4, 5, 6, 7, 8, 9, 10, 11, 12, 13, 14, 15, 16, 17, 18, 19, 20, 21], [0, 1, 2, 3, 4, 5, 6, 7, 8, 9, 10, 11, 12, 13, 14, 15, 16, 17, 18, 19, 20, 21, 22], [0, 1, 2, 3, 4, 5, 6, 7, 8, 9, 10, 11, 12, 13, 14, 15, 16, 17, 18, 19, 20, 21, 22, 23], [0, 1, 2, 3, 4, 5, 6, 7, 8, 9, 10, 11, 12, 13, 14, 15, 16, 17, 18, 19, 20, 21, 22, 23, 24], [0, 1, 2, 3, 4, 5, 6, 7, 8, 9, 10, 11, 12, 13, 14, 15, 16, 17, 18, 19, 20, 21, 22, 23, 24], [0, 1, 2, 3, 4, 5, 6, 7, 8, 9, 10, 11, 12, 13, 14, 15, 16, 17, 18, 19, 20, 21, 22, 23, 24], [0, 1, 2, 3, 4, 5, 6, 7, 8, 9, 10, 11, 12, 13, 14, 15, 16, 17, 18, 19, 20, 21, 22, 23, 24, 27], [0, 1, 2, 3, 4, 5, 6, 7, 8, 9, 10, 11, 12, 13, 14, 15, 16, 17, 18, 19, 20, 21, 22, 23, 24, 27, 28], [0, 1, 2, 3, 4, 5, 6, 7, 8, 9, 10, 11, 12, 13, 14, 15, 16, 17, 18, 19, 20, 21, 22, 23, 24, 25, 26, 27, 28, 29], [0, 1, 2, 3, 4, 5, 6, 7, 8, 9, 10, 11, 12, 13, 14, 15, 16, 17, 18, 19, 20, 21, 22, 23, 24, 25, 26, 27, 28, 29, 30], [0, 1, 2, 3, 4, 5, 6, 7, 8, 9, 10, 11, 12, 13, 14, 15, 16, 17, 18, 19, 20, 21, 22, 23, 24, 25, 26, 27, 28, 29, 30, 31]] [] (fun c => List.getD [[.dead, .dead, .dead, .dead, .dead, .dead, .row 26 [.d (D.i .u8 ((f27 7 (f27 4 (f26 1) (f26 0)) (f26 1)).kind)), .d (D.i .u8 ((f27 7 (f27 4 (f26 1) (f26 0)) (f26 1)).op)), .d (D.i .i64 ((f27 7 (f27 4 (f26 1) (f26 0)) (f26 1)).n)), .d (D.i .i64 ((f27 7 (f27 4 (f26 1) (f26 0)) (f26 1)).o)), .d (D.i .i64 ((f27 7 (f27 4 (f26 1) (f26 0)) (f26 1)).off)), .d (D.i .i64 ((f27 7 (f27 4 (f26 1) (f26 0)) (f26 1)).len)), .d (D.i .i64 ((f27 7 (f27 4 (f26 1) (f26 0)) (f26 1)).lo)), .d (D.i .i64 ((f27 7 (f27 4 (f26 1) (f26 0)) (f26 1)).hi)), .d (.sl (List.map E26 ((f27 7 (f27 4 (f26 1) (f26 0)) (f26 1)).l)))]]] c []) [([], [1], [0]), ([], [2], [0]), ([], [], [0]), ([], [7], [0]), ([2, 3], [], [0]), ([4], [], [0]), ([0, 1, 5], [], [0]), ([6], [], [0]), ([7], [1], [0]), ([7], [2], [0]), ([7], [], [0]), ([7], [7], [0]), ([10, 11, 7], [], [0]), ([12, 7], [], [0]), ([8, 9, 13, 7], [], [0]), ([7, 14], [], [0]), ([15], [], [0]), ([16], [1], [0]), ([16], [2], [0]), ([16], [], [0]), ([19, 16], [], [0]), ([20, 16], [], [0]), ([17, 18, 21, 16], [], [0]), ([16, 22], [], [0]), ([23], [], [0]), ([24], [1], [0]), ([24], [2], [0]), ([24], [], [0]), ([24], [], [0]), ([27, 28, 24], [], [0]), ([25, 26, 29, 24], [], [0]), ([24, 30], [], [0]), ([31], [], [0])] (by kernel_rfl) (by kernel_rfl) rfl rfl rfl
          · refine ⟨?_, ?_, ?_, ?_, ?_, ?_, ?_, ?_, ?_, ?_, ?_, ?_, ?_, ?_, ?_, ?_, ?_, ?_, ?_, ?_, ?_, ?_, ?_, ?_, ?_, ?_, ?_, ?_, ?_, ?_, ?_, ?_, ?_, trivial⟩
            · refine ⟨fun F => ?_, trivial⟩
              refine WL.q (y_move rfl) (Wt.none rfl) rfl rfl ?_
              exact WL.done1 rfl rfl rfl
            · refine ⟨fun F => ?_, trivial⟩
              refine WL.q (y_move rfl) (Wt.none rfl) rfl rfl ?_
              exact WL.done1 rfl rfl rfl
            · refine ⟨fun F => ?_, trivial⟩
              refine WL.fn rfl rfl rfl rfl (f26_c _) ⟨(Le.refl _), trivial⟩ (Wt.none rfl) rfl rfl ?_
              exact WL.done1 rfl rfl rfl
            · refine ⟨fun F => ?_, trivial⟩
              refine WL.q (y_loadN rfl rfl a26 s26 rfl) (Wt.none rfl) rfl rfl ?_
              exact WL.done1 rfl rfl rfl
            · refine ⟨fun F => ?_, trivial⟩
              refine WL.s ((NewOs.data (n_buildSlice l24 z26 rfl (by decide) (by decide) rfl rfl rfl (by decide)) (by exact encA_map E26_eq [(f26 0), (f27 7 (f27 4 (f26 1) (f26 0)) (f26 1))])).does) (Wt.none rfl) rfl rfl ?_
              exact WL.done1 rfl rfl rfl
            · refine ⟨fun F => ?_, trivial⟩
              refine WL.fn rfl rfl rfl rfl (f23_c _ _) ⟨(Le.refl _), (Le.refl _), trivial⟩ (Wt.none rfl) rfl rfl ?_
              exact WL.done1 rfl rfl rfl
            · refine ⟨fun F => ?_, trivial⟩
              refine WL.fn rfl rfl rfl rfl (f38_c _ _ _ _ hr208) ⟨(Le.refl _), (Le.refl _), (Le.refl _), (Le.refl _), trivial⟩ (Wt.none rfl) rfl rfl ?_
              exact WL.done1 rfl rfl rfl
            · refine ⟨fun F => ?_, trivial⟩
              refine WL.q (y_move rfl) (Wt.none rfl) rfl rfl ?_
              refine WL.cast 117 rfl (Le.ofd (by rw [hb4])) ?_
              exact WL.done2 rfl rfl rfl
            · refine ⟨fun F => ?_, trivial⟩
              refine WL.q (y_move rfl) (Wt.yes rfl rfl rfl) rfl rfl ?_
              exact WL.done1 rfl rfl rfl
            · refine ⟨fun F => ?_, trivial⟩
              refine WL.q (y_move rfl) (Wt.yes rfl rfl rfl) rfl rfl ?_
              exact WL.done1 rfl rfl rfl
            · refine ⟨fun F => ?_, trivial⟩
              refine WL.fn rfl rfl rfl rfl (f26_c _) ⟨(Le.refl _), trivial⟩ (Wt.yes rfl rfl rfl) rfl rfl ?_
              exact WL.done1 rfl rfl rfl
            · refine ⟨fun F => ?_, trivial⟩
              refine WL.q (y_loadN rfl rfl a26 s26 rfl) (Wt.yes rfl rfl rfl) rfl rfl ?_
              exact WL.done1 rfl rfl rfl
            · refine ⟨fun F => ?_, trivial⟩
              refine WL.s ((NewOs.data (n_buildSlice l24 z26 rfl (by decide) (by decide) rfl rfl rfl (by decide)) (by exact encA_map E26_eq [(f26 1), (f27 7 (f27 4 (f26 1) (f26 0)) (f26 1))])).does) (Wt.yes rfl rfl rfl) rfl rfl ?_
              exact WL.done1 rfl rfl rfl
            · refine ⟨fun F => ?_, trivial⟩
              refine WL.fn rfl rfl rfl rfl (f23_c _ _) ⟨(Le.refl _), (Le.refl _), trivial⟩ (Wt.yes rfl rfl rfl) rfl rfl ?_
              exact WL.done1 rfl rfl rfl
            · refine ⟨fun F => ?_, trivial⟩
              refine WL.fn rfl rfl rfl rfl (f24_c _ _ _ hr209) ⟨(Le.refl _), (Le.refl _), (Le.refl _), trivial⟩ (Wt.yes rfl rfl rfl) rfl rfl ?_
              exact WL.done1 rfl rfl rfl
            · refine ⟨fun F => ?_, trivial⟩
              refine WL.q (y_pick_t rfl rfl) (Wt.none rfl) rfl rfl ?_
              exact WL.done1 rfl rfl rfl
            · refine ⟨fun F => ?_, trivial⟩
              refine WL.q (y_move rfl) (Wt.none rfl) rfl rfl ?_
              refine WL.cast 126 rfl (Le.ofd (by rw [hb5])) ?_
              exact WL.done2 rfl rfl rfl
            · refine ⟨fun F => ?_, trivial⟩
              refine WL.q (y_move rfl) (Wt.yes rfl rfl rfl) rfl rfl ?_
              exact WL.done1 rfl rfl rfl
            · refine ⟨fun F => ?_, trivial⟩
              refine WL.q (y_move rfl) (Wt.yes rfl rfl rfl) rfl rfl ?_
              exact WL.done1 rfl rfl rfl
            · refine ⟨fun F => ?_, trivial⟩
              refine WL.fn rfl rfl rfl rfl (f39_c _ _) ⟨(Le.refl _), (Le.refl _), trivial⟩ (Wt.yes rfl rfl rfl) rfl rfl ?_
              exact WL.done1 rfl rfl rfl
            · refine ⟨fun F => ?_, trivial⟩
              refine WL.s ((NewOs.data (n_buildSlice l24 z26 rfl (by decide) (by decide) rfl rfl rfl (by decide)) (by exact encA_map E26_eq [(f39 0 0)])).does) (Wt.yes rfl rfl rfl) rfl rfl ?_
              exact WL.done1 rfl rfl rfl
            · refine ⟨fun F => ?_, trivial⟩
              refine WL.q (y_build p26 z26 rfl rfl) (Wt.yes rfl rfl rfl) rfl rfl ?_
              exact WL.done1 rfl rfl rfl
            · refine ⟨fun F => ?_, trivial⟩
              refine WL.fn rfl rfl rfl rfl (f24_c _ _ _ hr210) ⟨(Le.refl _), (Le.refl _), (Le.agd ⟨(Le.refl _), (Le.refl _), (Le.refl _), (Le.refl _), (Le.refl _), (Le.refl _), (Le.refl _), (Le.refl _), (Le.refl _), trivial⟩), trivial⟩ (Wt.yes rfl rfl rfl) rfl rfl ?_
              exact WL.done1 rfl rfl rfl
            · refine ⟨fun F => ?_, trivial⟩
              refine WL.q (y_pick_t rfl rfl) (Wt.none rfl) rfl rfl ?_
              exact WL.done1 rfl rfl rfl
            · refine ⟨fun F => ?_, trivial⟩
              refine WL.q (y_move rfl) (Wt.none rfl) rfl rfl ?_
              refine WL.cast 134 rfl (Le.ofd (by rw [hb6])) ?_
              exact WL.done2 rfl rfl rfl
            · refine ⟨fun F => ?_, trivial⟩
              refine WL.q (y_move rfl) (Wt.yes rfl rfl rfl) rfl rfl ?_
              exact WL.done1 rfl rfl rfl
            · refine ⟨fun F => ?_, trivial⟩
              refine WL.q (y_move rfl) (Wt.yes rfl rfl rfl) rfl rfl ?_
              exact WL.done1 rfl rfl rfl
            · refine ⟨fun F => ?_, trivial⟩
              refine WL.fn rfl rfl rfl rfl (f26_c _) ⟨(Le.refl _), trivial⟩ (Wt.yes rfl rfl rfl) rfl rfl ?_
              exact WL.done1 rfl rfl rfl
            · refine ⟨fun F => ?_, trivial⟩
              refine WL.fn rfl rfl rfl rfl (f26_c _) ⟨(Le.refl _), trivial⟩ (Wt.yes rfl rfl rfl) rfl rfl ?_
              exact WL.done1 rfl rfl rfl
            · refine ⟨fun F => ?_, trivial⟩
              refine WL.fn rfl rfl rfl rfl (f27_c _ _ _) ⟨(Le.refl _), (Le.refl _), (Le.refl _), trivial⟩ (Wt.yes rfl rfl rfl) rfl rfl ?_
              exact WL.done1 rfl rfl rfl
            · refine ⟨fun F => ?_, trivial⟩
              refine WL.fn rfl rfl rfl rfl (f24_c _ _ _ hr211) ⟨(Le.refl _), (Le.refl _), (Le.refl _), trivial⟩ (Wt.yes rfl rfl rfl) rfl rfl ?_
              exact WL.done1 rfl rfl rfl
            · refine ⟨fun F => ?_, trivial⟩
              refine WL.q (y_pick_t rfl rfl) (Wt.none rfl) rfl rfl ?_
              exact WL.done1 rfl rfl rfl
            · refine ⟨fun F => ?_, trivial⟩
              refine WL.q (y_assign rfl) (Wt.none rfl) rfl rfl ?_
              exact WL.done1 rfl rfl rfl
          · exact we_lp ⟨r211, h, (Sub.cons rfl (Le.refl _) (Sub.cons rfl (Le.refl _) (Sub.cons rfl (Le.refl _) (Sub.cons rfl (Le.refl _) (Sub.nil _))))), ⟨trivial, trivial, trivial, trivial, trivial, trivial, ⟨rfl, ⟨(Le.refl _), (Le.refl _), (Le.refl _), (Le.refl _), (Le.refl _), (Le.refl _), (Le.refl _), (Le.refl _), (Le.refl _), trivial⟩⟩, trivial⟩⟩
        · replace h := condF h hb6
          apply wc_region_all [_, _, _, _, _, _, _, _, _, _, _, _, _, _, _, _, _, _, _, _, _, _, _, _, _, _, _, _, _, _, _, _, _] [[], [], [], [], [2, 3], [2, 3, 4], [0, 1, 2, 3, 4, 5], [0, 1, 2, 3, 4, 5, 6], [0, 1, 2, 3, 4, 5, 6, 7], [0, 1, 2, 3, 4, 5, 6, 7], [0, 1, 2, 3, 4, 5, 6, 7], [0, 1, 2, 3, 4, 5, 6, 7], [0, 1, 2, 3, 4, 5, 6, 7, 10, 11], [0, 1, 2, 3, 4, 5, 6, 7, 10, 11, 12], [0, 1, 2, 3, 4, 5, 6, 7, 8, 9, 10, 11, 12, 13], [0, 1, 2, 3, 4, 5, 6, 7, 8, 9, 10, 11, 12, 13, 14], [0, 1, 2, 3, 4, 5, 6, 7, 8, 9, 10, 11, 12, 13, 14, 15], [0, 1, 2, 3, 4, 5, 6, 7, 8, 9, 10, 11, 12, 13, 14, 15, 16], [0, 1, 2, 3, 4, 5, 6, 7, 8, 9, 10, 11, 12, 13, 14, 15, 16], [0, 1, 2, 3, 4, 5, 6, 7, 8, 9, 10, 11, 12, 13, 14, 15, 16], [0, 1, 2, 3, 4, 5, 6, 7, 8, 9, 10, 11, 12, 13, 14, 15, 16, 19], [0, 1, 2, 3, 4, 5, 6, 7, 8, 9, 10, 11, 12, 13, 14, 15, 16, 19, 20], [0, 1, 2, 3, 4, 5, 6, 7, 8, 9, 10, 11, 12, 13, 14, 15, 16, 17, 18, 19, 20, 21], [0, 1, 2, 3, 4, 5, 6, 7, 8, 9, 10, 11, 12, 13, 14, 15, 16, 17, 18, 19, 20, 21, 22], [0, 1, 2, 3, 4, 5, 6, 7, 8, 9, 10, 11, 12, 13, 14, 15, 16, 17, 18, 19, 20, 21, 22, 23], [0, 1, 2, 3, 4, 5, 6, 7, 8, 9, 10, 11, 12, 13, 14, 15, 16, 17, 18, 19, 20, 21, 22, 23, 24], [0, 1, 2, 3, 4, 5, 6, 7, 8, 9, 10, 11, 12, 13, 14, 15, 16, 17, 18, 19, 20, 21, 22, 23, 24], [0, 1, 2, 3, 4, 5, 6, 7, 8, 9, 10, 11, 12, 13, 14, 15, 16, 17, 18, 19, 20, 21, 22, 23, 24], [0, 1, 2, 3, 4, 5, 6, 7, 8, 9, 10, 11, 12, 13, 14, 15, 16, 17, 18, 19, 20, 21, 22, 23, 24, 27], [0, 1, 2, 3, 4, 5, 6, 7, 8, 9, 10, 11, 12, 13, 14, 15, 16, 17, 18, 19, 20, 21, 22, 23, 24, 27, 28], [0, 1, 2, 3, 4, 5, 6, 7, 8, 9, 10, 11, 12, 13, 14, 15, 16, 17, 18, 19, 20, 21, 22, 23, 24, 25, 26, 27, 28, 29], [0, 1, 2, 3, 4, 5, 6, 7, 8, 9, 10, 11, 12, 13, 14, 15, 16, 17, 18, 19, 20, 21, 22, 23, 24, 25, 26, 27, 28, 29, 30], [0, 1, 2, 3, 4, 5, 6, 7, 8, 9, 10, 11, 12, 13, 14, 15, 16, 17, 18, 19, 20, 21, 22, 23, 24, 25, 26, 27, 28, 29, 30, 31]] [] (fun c => List.getD [[.dead, .dead, .dead, .dead, .dead, .dead, .row 26 [.d (D.i .u8 ((f27 7 (f27 4 (f26 1) (f26 0)) (f26 1)).kind)), .d (D.i .u8 ((f27 7 (f27 4 (f26 1) (f26 0)) (f26 1)).op)), .d (D.i .i64 ((f27 7 (f27 4 (f26 1) (f26 0)) (f26 1)).n)), .d (D.i .i64 ((f27 7 (f27 4 (f26 1) (f26 0)) (f26 1)).o)), .d (D.i .i64 ((f27 7 (f27 4 (f26 1) (f26 0)) (f26 1)).off)), .d (D.i .i64 ((f27 7 (f27 4 (f26 1) (f26 0)) (f26 1)).len)), .d (D.i .i64 ((f27 7 (f27 4 (f26 1) (f26 0)) (f26 1)).lo)), .d (D.i .i64 ((f27 7 (f27 4 (f26 1) (f26 0)) (f26 1)).hi)), .d (.sl (List.map E26 ((f27 7 (f27 4 (f26 1) (f26 0)) (f26 1)).l)))]]] c []) [([], [1], [0]), ([], [2], [0]), ([], [], [0]), ([], [7], [0]), ([2, 3], [], [0]), ([4], [], [0]), ([0, 1, 5], [], [0]), ([6], [], [0]), ([7], [1], [0]), ([7], [2], [0]), ([7], [], [0]), ([7], [7], [0]), ([10, 11, 7], [], [0]), ([12, 7], [], [0]), ([8, 9, 13, 7], [], [0]), ([7, 14], [], [0]), ([15], [], [0]), ([16], [1], [0]), ([16], [2], [0]), ([16], [], [0]), ([19, 16], [], [0]), ([20, 16], [], [0]), ([17, 18, 21, 16], [], [0]), ([16, 22], [], [0]), ([23], [], [0]), ([24], [], [0]), ([24], [], [0]), ([24], [], [0]), ([24], [], [0]), ([24], [], [0]), ([24], [], [0]), ([24, 30], [], [0]), ([31], [], [0])] (by kernel_rfl) (by kernel_rfl) rfl rfl rfl
          · refine ⟨?_, ?_, ?_, ?_, ?_, ?_, ?_, ?_, ?_, ?_, ?_, ?_, ?_, ?_, ?_, ?_, ?_, ?_, ?_, ?_, ?_, ?_, ?_, ?_, ?_, ?_, ?_, ?_, ?_, ?_, ?_, ?_, ?_, trivial⟩
            · refine ⟨fun F => ?_, trivial⟩
              refine WL.q (y_move rfl) (Wt.none rfl) rfl rfl ?_
              exact WL.done1 rfl rfl rfl
            · refine ⟨fun F => ?_, trivial⟩
              refine WL.q (y_move rfl) (Wt.none rfl) rfl rfl ?_
              exact WL.done1 rfl rfl rfl
            · refine ⟨fun F => ?_, trivial⟩
              refine WL.fn rfl rfl rfl rfl (f26_c _) ⟨(Le.refl _), trivial⟩ (Wt.none rfl) rfl rfl ?_
              exact WL.done1 rfl rfl rfl
            · refine ⟨fun F => ?_, trivial⟩
              refine WL.q (y_loadN rfl rfl a26 s26 rfl) (Wt.none rfl) rfl rfl ?_
              exact WL.done1 rfl rfl rfl
            · refine ⟨fun F => ?_, trivial⟩
              refine WL.s ((NewOs.data (n_buildSlice l24 z26 rfl (by decide) (by decide) rfl rfl rfl (by decide)) (by exact encA_map E26_eq [(f26 0), (f27 7 (f27 4 (f26 1) (f26 0)) (f26 1))])).does) (Wt.none rfl) rfl rfl ?_
              exact WL.done1 rfl rfl rfl
            · refine ⟨fun F => ?_, trivial⟩
              refine WL.fn rfl rfl rfl rfl (f23_c _ _) ⟨(Le.refl _), (Le.refl _), trivial⟩ (Wt.none rfl) rfl rfl ?_
              exact WL.done1 rfl rfl rfl
            · refine ⟨fun F => ?_, trivial⟩
              refine WL.fn rfl rfl rfl rfl (f38_c _ _ _ _ hr208) ⟨(Le.refl _), (Le.refl _), (Le.refl _), (Le.refl _), trivial⟩ (Wt.none rfl) rfl rfl ?_
              exact WL.done1 rfl rfl rfl
            · refine ⟨fun F => ?_, trivial⟩
              refine WL.q (y_move rfl) (Wt.none rfl) rfl rfl ?_
              refine WL.cast 117 rfl (Le.ofd (by rw [hb4])) ?_
              exact WL.done2 rfl rfl rfl
            · refine ⟨fun F => ?_, trivial⟩
              refine WL.q (y_move rfl) (Wt.yes rfl rfl rfl) rfl rfl ?_
              exact WL.done1 rfl rfl rfl
            · refine ⟨fun F => ?_, trivial⟩
              refine WL.q (y_move rfl) (Wt.yes rfl rfl rfl) rfl rfl ?_
              exact WL.done1 rfl rfl rfl
            · refine ⟨fun F => ?_, trivial⟩
              refine WL.fn rfl rfl rfl rfl (f26_c _) ⟨(Le.refl _), trivial⟩ (Wt.yes rfl rfl rfl) rfl rfl ?_
              exact WL.done1 rfl rfl rfl
            · refine ⟨fun F => ?_, trivial⟩
              refine WL.q (y_loadN rfl rfl a26 s26 rfl) (Wt.yes rfl rfl rfl) rfl rfl ?_
              exact WL.done1 rfl rfl rfl
            · refine ⟨fun F => ?_, trivial⟩
              refine WL.s ((NewOs.data (n_buildSlice l24 z26 rfl (by decide) (by decide) rfl rfl rfl (by decide)) (by exact encA_map E26_eq [(f26 1), (f27 7 (f27 4 (f26 1) (f26 0)) (f26 1))])).does) (Wt.yes rfl rfl rfl) rfl rfl ?_
              exact WL.done1 rfl rfl rfl
            · refine ⟨fun F => ?_, trivial⟩
              refine WL.fn rfl rfl rfl rfl (f23_c _ _) ⟨(Le.refl _), (Le.refl _), trivial⟩ (Wt.yes rfl rfl rfl) rfl rfl ?_
              exact WL.done1 rfl rfl rfl
            · refine ⟨fun F => ?_, trivial⟩
              refine WL.fn rfl rfl rfl rfl (f24_c _ _ _ hr209) ⟨(Le.refl _), (Le.refl _), (Le.refl _), trivial⟩ (Wt.yes rfl rfl rfl) rfl rfl ?_
              exact WL.done1 rfl rfl rfl
            · refine ⟨fun F => ?_, trivial⟩
              refine WL.q (y_pick_t rfl rfl) (Wt.none rfl) rfl rfl ?_
              exact WL.done1 rfl rfl rfl
            · refine ⟨fun F => ?_, trivial⟩
              refine WL.q (y_move rfl) (Wt.none rfl) rfl rfl ?_
              refine WL.cast 126 rfl (Le.ofd (by rw [hb5])) ?_
              exact WL.done2 rfl rfl rfl
            · refine ⟨fun F => ?_, trivial⟩
              refine WL.q (y_move rfl) (Wt.yes rfl rfl rfl) rfl rfl ?_
              exact WL.done1 rfl rfl rfl
            · refine ⟨fun F => ?_, trivial⟩
              refine WL.q (y_move rfl) (Wt.yes rfl rfl rfl) rfl rfl ?_
              exact WL.done1 rfl rfl rfl
            · refine ⟨fun F => ?_, trivial⟩
              refine WL.fn rfl rfl rfl rfl (f39_c _ _) ⟨(Le.refl _), (Le.refl _), trivial⟩ (Wt.yes rfl rfl rfl) rfl rfl ?_
              exact WL.done1 rfl rfl rfl
            · refine ⟨fun F => ?_, trivial⟩
              refine WL.s ((NewOs.data (n_buildSlice l24 z26 rfl (by decide) (by decide) rfl rfl rfl (by decide)) (by exact encA_map E26_eq [(f39 0 0)])).does) (Wt.yes rfl rfl rfl) rfl rfl ?_
              exact WL.done1 rfl rfl rfl
            · refine ⟨fun F => ?_, trivial⟩
              refine WL.q (y_build p26 z26 rfl rfl) (Wt.yes rfl rfl rfl) rfl rfl ?_
              exact WL.done1 rfl rfl rfl
            · refine ⟨fun F => ?_, trivial⟩
              refine WL.fn rfl rfl rfl rfl (f24_c _ _ _ hr210) ⟨(Le.refl _), (Le.refl _), (Le.agd ⟨(Le.refl _), (Le.refl _), (Le.refl _), (Le.refl _), (Le.refl _), (Le.refl _), (Le.refl _), (Le.refl _), (Le.refl _), trivial⟩), trivial⟩ (Wt.yes rfl rfl rfl) rfl rfl ?_
              exact WL.done1 rfl rfl rfl
            · refine ⟨fun F => ?_, trivial⟩
              refine WL.q (y_pick_t rfl rfl) (Wt.none rfl) rfl rfl ?_
              exact WL.done1 rfl rfl rfl
            · refine ⟨fun F => ?_, trivial⟩
              refine WL.q (y_move rfl) (Wt.none rfl) rfl rfl ?_
              refine WL.cast 134 rfl (Le.ofd (by rw [hb6])) ?_
              exact WL.done2 rfl rfl rfl
            · refine ⟨fun F => ?_, trivial⟩
              refine WL.skips 1 rfl ?_
              exact WL.done1 rfl rfl rfl
            · refine ⟨fun F => ?_, trivial⟩
              refine WL.skips 1 rfl ?_
              exact WL.done1 rfl rfl rfl
            · refine ⟨fun F => ?_, trivial⟩
              refine WL.skips 1 rfl ?_
              exact WL.done1 rfl rfl rfl
            · refine ⟨fun F => ?_, trivial⟩
              refine WL.skips 1 rfl ?_
              exact WL.done1 rfl rfl rfl
            · refine ⟨fun F => ?_, trivial⟩
              refine WL.skips 1 rfl ?_
              exact WL.done1 rfl rfl rfl
            · refine ⟨fun F => ?_, trivial⟩
              refine WL.skips 1 rfl ?_
              exact WL.done1 rfl rfl rfl
            · refine ⟨fun F => ?_, trivial⟩
              refine WL.q (y_pick_f rfl rfl) (Wt.none rfl) rfl rfl ?_
              exact WL.done1 rfl rfl rfl
            · refine ⟨fun F => ?_, trivial⟩
              refine WL.q (y_assign rfl) (Wt.none rfl) rfl rfl ?_
              exact WL.done1 rfl rfl rfl
          · exact we_lp ⟨false, h, (Sub.cons rfl (Le.refl _) (Sub.cons rfl (Le.refl _) (Sub.cons rfl (Le.refl _) (Sub.cons rfl (Le.refl _) (Sub.nil _))))), ⟨trivial, trivial, trivial, trivial, trivial, trivial, ⟨rfl, ⟨(Le.refl _), (Le.refl _), (Le.refl _), (Le.refl _), (Le.refl _), (Le.refl _), (Le.refl _), (Le.refl _), (Le.refl _), trivial⟩⟩, trivial⟩⟩
      · replace h := condF h hb5
        apply wc_region_all [_, _, _, _, _, _, _, _, _, _, _, _, _, _, _, _, _, _, _, _, _, _, _, _, _, _, _, _, _, _, _, _, _] [[], [], [], [], [2, 3], [2, 3, 4], [0, 1, 2, 3, 4, 5], [0, 1, 2, 3, 4, 5, 6], [0, 1, 2, 3, 4, 5, 6, 7], [0, 1, 2, 3, 4, 5, 6, 7], [0, 1, 2, 3, 4, 5, 6, 7], [0, 1, 2, 3, 4, 5, 6, 7], [0, 1, 2, 3, 4, 5, 6, 7, 10, 11], [0, 1, 2, 3, 4, 5, 6, 7, 10, 11, 12], [0, 1, 2, 3, 4, 5, 6, 7, 8, 9, 10, 11, 12, 13], [0, 1, 2, 3, 4, 5, 6, 7, 8, 9, 10, 11, 12, 13, 14], [0, 1, 2, 3, 4, 5, 6, 7, 8, 9, 10, 11, 12, 13, 14, 15], [0, 1, 2, 3, 4, 5, 6, 7, 8, 9, 10, 11, 12, 13, 14, 15, 16], [0, 1, 2, 3, 4, 5, 6, 7, 8, 9, 10, 11, 12, 13, 14, 15, 16], [0, 1, 2, 3, 4, 5, 6, 7, 8, 9, 10, 11, 12, 13, 14, 15, 16], [0, 1, 2, 3, 4, 5, 6, 7, 8, 9, 10, 11, 12, 13, 14, 15, 16, 19], [0, 1, 2, 3, 4, 5, 6, 7, 8, 9, 10, 11, 12, 13, 14, 15, 16, 19, 20], [0, 1, 2, 3, 4, 5, 6, 7, 8, 9, 10, 11, 12, 13, 14, 15, 16, 17, 18, 19, 20, 21], [0, 1, 2, 3, 4, 5, 6, 7, 8, 9, 10, 11, 12, 13, 14, 15, 16, 17, 18, 19, 20, 21, 22], [0, 1, 2, 3, 4, 5, 6, 7, 8, 9, 10, 11, 12, 13, 14, 15, 16, 17, 18, 19, 20, 21, 22, 23], [0, 1, 2, 3, 4, 5, 6, 7, 8, 9, 10, 11, 12, 13, 14, 15, 16, 17, 18, 19, 20, 21, 22, 23, 24], [0, 1, 2, 3, 4, 5, 6, 7, 8, 9, 10, 11, 12, 13, 14, 15, 16, 17, 18, 19, 20, 21, 22, 23, 24], [0, 1, 2, 3, 4, 5, 6, 7, 8, 9, 10, 11, 12, 13, 14, 15, 16, 17, 18, 19, 20, 21, 22, 23, 24], [0, 1, 2, 3, 4, 5, 6, 7, 8, 9, 10, 11, 12, 13, 14, 15, 16, 17, 18, 19, 20, 21, 22, 23, 24, 27], [0, 1, 2, 3, 4, 5, 6, 7, 8, 9, 10, 11, 12, 13, 14, 15, 16, 17, 18, 19, 20, 21, 22, 23, 24, 27, 28], [0, 1, 2, 3, 4, 5, 6, 7, 8, 9, 10, 11, 12, 13, 14, 15, 16, 17, 18, 19, 20, 21, 22, 23, 24, 25, 26, 27, 28, 29], [0, 1, 2, 3, 4, 5, 6, 7, 8, 9, 10, 11, 12, 13, 14, 15, 16, 17, 18, 19, 20, 21, 22, 23, 24, 25, 26, 27, 28, 29, 30], [0, 1, 2, 3, 4, 5, 6, 7, 8, 9, 10, 11, 12, 13, 14, 15, 16, 17, 18, 19, 20, 21, 22, 23, 24, 25, 26, 27, 28, 29, 30, 31]] [] (fun c => List.getD [[.dead, .dead, .dead, .dead, .dead, .dead, .row 26 [.d (D.i .u8 ((f27 7 (f27 4 (f26 1) (f26 0)) (f26 1)).kind)), .d (D.i .u8 ((f27 7 (f27 4 (f26 1) (f26 0)) (f26 1)).op)), .d (D.i .i64 ((f27 7 (f27 4 (f26 1) (f26 0)) (f26 1)).n)), .d (D.i .i64 ((f27 7 (f27 4 (f26 1) (f26 0)) (f26 1)).o)), .d (D.i .i64 ((f27 7 (f27 4 (f26 1) (f26 0)) (f26 1)).off)), .d (D.i .i64 ((f27 7 (f27 4 (f26 1) (f26 0)) (f26 1)).len)), .d (D.i .i64 ((f27 7 (f27 4 (f26 1) (f26 0)) (f26 1)).lo)), .d (D.i .i64 ((f27 7 (f27 4 (f26 1) (f26 0)) (f26 1)).hi)), .d (.sl (List.map E26 ((f27 7 (f27 4 (f26 1) (f26 0)) (f26 1)).l)))]]] c []) [([], [1], [0]), ([], [2], [0]), ([], [], [0]), ([], [7], [0]), ([2, 3], [], [0]), ([4], [], [0]), ([0, 1, 5], [], [0]), ([6], [], [0]), ([7], [1], [0]), ([7], [2], [0]), ([7], [], [0]), ([7], [7], [0]), ([10, 11, 7], [], [0]), ([12, 7], [], [0]), ([8, 9, 13, 7], [], [0]), ([7, 14], [], [0]), ([15], [], [0]), ([16], [], [0]), ([16], [], [0]), ([16], [], [0]), ([16], [], [0]), ([16], [], [0]), ([16], [], [0]), ([16, 22], [], [0]), ([23], [], [0]), ([24], [], [0]), ([24], [], [0]), ([24], [], [0]), ([24], [], [0]), ([24], [], [0]), ([24], [], [0]), ([24, 30], [], [0]), ([31], [], [0])] (by kernel_rfl) (by kernel_rfl) rfl rfl rfl
        · refine ⟨?_, ?_, ?_, ?_, ?_, ?_, ?_, ?_, ?_, ?_, ?_, ?_, ?_, ?_, ?_, ?_, ?_, ?_, ?_, ?_, ?_, ?_, ?_, ?_, ?_, ?_, ?_, ?_, ?_, ?_, ?_, ?_, ?_, trivial⟩
          · refine ⟨fun F => ?_, trivial⟩
            refine WL.q (y_move rfl) (Wt.none rfl) rfl rfl ?_
            exact WL.done1 rfl rfl rfl
          · refine ⟨fun F => ?_, trivial⟩
            refine WL.q (y_move rfl) (Wt.none rfl) rfl rfl ?_
            exact WL.done1 rfl rfl rfl
          · refine ⟨fun F => ?_, trivial⟩
            refine WL.fn rfl rfl rfl rfl (f26_c _) ⟨(Le.refl _), trivial⟩ (Wt.none rfl) rfl rfl ?_
            exact WL.done1 rfl rfl rfl
          · refine ⟨fun F => ?_, trivial⟩
            refine WL.q (y_loadN rfl rfl a26 s26 rfl) (Wt.none rfl) rfl rfl ?_
            exact WL.done1 rfl rfl rfl
          · refine ⟨fun F => ?_, trivial⟩
            refine WL.s ((NewOs.data (n_buildSlice l24 z26 rfl (by decide) (by decide) rfl rfl rfl (by decide)) (by exact encA_map E26_eq [(f26 0), (f27 7 (f27 4 (f26 1) (f26 0)) (f26 1))])).does) (Wt.none rfl) rfl rfl ?_
            exact WL.done1 rfl rfl rfl
          · refine ⟨fun F => ?_, trivial⟩
            refine WL.fn rfl rfl rfl rfl (f23_c _ _) ⟨(Le.refl _), (Le.refl _), trivial⟩ (Wt.none rfl) rfl rfl ?_
            exact WL.done1 rfl rfl rfl
          · refine ⟨fun F => ?_, trivial⟩
            refine WL.fn rfl rfl rfl rfl (f38_c _ _ _ _ hr208) ⟨(Le.refl _), (Le.refl _), (Le.refl _), (Le.refl _), trivial⟩ (Wt.none rfl) rfl rfl ?_
            exact WL.done1 rfl rfl rfl
          · refine ⟨fun F => ?_, trivial⟩
            refine WL.q (y_move rfl) (Wt.none rfl) rfl rfl ?_
            refine WL.cast 117 rfl (Le.ofd (by rw [hb4])) ?_
            exact WL.done2 rfl rfl rfl
          · refine ⟨fun F => ?_, trivial⟩
            refine WL.q (y_move rfl) (Wt.yes rfl rfl rfl) rfl rfl ?_
            exact WL.done1 rfl rfl rfl
          · refine ⟨fun F => ?_, trivial⟩
            refine WL.q (y_move rfl) (Wt.yes rfl rfl rfl) rfl rfl ?_
            exact WL.done1 rfl rfl rfl
          · refine ⟨fun F => ?_, trivial⟩
            refine WL.fn rfl rfl rfl rfl (f26_c _) ⟨(Le.refl _), trivial⟩ (Wt.yes rfl rfl rfl) rfl rfl ?_
            exact WL.done1 rfl rfl rfl
          · refine ⟨fun F => ?_, trivial⟩
            refine WL.q (y_loadN rfl rfl a26 s26 rfl) (Wt.yes rfl rfl rfl) rfl rfl ?_
            exact WL.done1 rfl rfl rfl
          · refine ⟨fun F => ?_, trivial⟩
            refine WL.s ((NewOs.data (n_buildSlice l24 z26 rfl (by decide) (by decide) rfl rfl rfl (by decide)) (by exact encA_map E26_eq [(f26 1), (f27 7 (f27 4 (f26 1) (f26 0)) (f26 1))])).does) (Wt.yes rfl rfl rfl) rfl rfl ?_
            exact WL.done1 rfl rfl rfl
          · refine ⟨fun F => ?_, trivial⟩
            refine WL.fn rfl rfl rfl rfl (f23_c _ _) ⟨(Le.refl _), (Le.refl _), trivial⟩ (Wt.yes rfl rfl rfl) rfl rfl ?_
            exact WL.done1 rfl rfl rfl
          · refine ⟨fun F => ?_, trivial⟩
            refine WL.fn rfl rfl rfl rfl (f24_c _ _ _ hr209) ⟨(Le.refl _), (Le.refl _), (Le.refl _), trivial⟩ (Wt.yes rfl rfl rfl) rfl rfl ?_
            exact WL.done1 rfl rfl rfl
          · refine ⟨fun F => ?_, trivial⟩
            refine WL.q (y_pick_t rfl rfl) (Wt.none rfl) rfl rfl ?_
            exact WL.done1 rfl rfl rfl
          · refine ⟨fun F => ?_, trivial⟩
            refine WL.q (y_move rfl) (Wt.none rfl) rfl rfl ?_
            refine WL.cast 126 rfl (Le.ofd (by rw [hb5])) ?_
            exact WL.done2 rfl rfl rfl
          · refine ⟨fun F => ?_, trivial⟩
            refine WL.skips 1 rfl ?_
            exact WL.done1 rfl rfl rfl
          · refine ⟨fun F => ?_, trivial⟩
            refine WL.skips 1 rfl ?_
            exact WL.done1 rfl rfl rfl
          · refine ⟨fun F => ?_, trivial⟩
            refine WL.skips 1 rfl ?_
            exact WL.done1 rfl rfl rfl
          · refine ⟨fun F => ?_, trivial⟩
            refine WL.skips 1 rfl ?_
            exact WL.done1 rfl rfl rfl
          · refine ⟨fun F => ?_, trivial⟩
            refine WL.skips 1 rfl ?_
            exact WL.done1 rfl rfl rfl
          · refine ⟨fun F => ?_, trivial⟩
            refine WL.skips 1 rfl ?_
            exact WL.done1 rfl rfl rfl
          · refine ⟨fun F => ?_, trivial⟩
            refine WL.q (y_pick_f rfl rfl) (Wt.none rfl) rfl rfl ?_
            exact WL.done1 rfl rfl rfl
          · refine ⟨fun F => ?_, trivial⟩
            refine WL.q (y_move rfl) (Wt.none rfl) rfl rfl ?_
            exact WL.done1 rfl rfl rfl
          · refine ⟨fun F => ?_, trivial⟩
            refine WL.skips 1 rfl ?_
            exact WL.done1 rfl rfl rfl
          · refine ⟨fun F => ?_, trivial⟩
            refine WL.skips 1 rfl ?_
            exact WL.done1 rfl rfl rfl
          · refine ⟨fun F => ?_, trivial⟩
            refine WL.skips 1 rfl ?_
            exact WL.done1 rfl rfl rfl
          · refine ⟨fun F => ?_, trivial⟩
            refine WL.skips 1 rfl ?_
            exact WL.done1 rfl rfl rfl
          · refine ⟨fun F => ?_, trivial⟩
            refine WL.skips 1 rfl ?_
            exact WL.done1 rfl rfl rfl
          · refine ⟨fun F => ?_, trivial⟩
            refine WL.skips 1 rfl ?_
            exact WL.done1 rfl rfl rfl
          · refine ⟨fun F => ?_, trivial⟩
            refine WL.q (y_pick_f rfl rfl) (Wt.none rfl) rfl rfl ?_
            exact WL.done1 rfl rfl rfl
          · refine ⟨fun F => ?_, trivial⟩
            refine WL.q (y_assign rfl) (Wt.none rfl) rfl rfl ?_
            exact WL.done1 rfl rfl rfl
        · exact we_lp ⟨false, h, (Sub.cons rfl (Le.refl _) (Sub.cons rfl (Le.refl _) (Sub.cons rfl (Le.refl _) (Sub.cons rfl (Le.refl _) (Sub.nil _))))), ⟨trivial, trivial, trivial, trivial, trivial, trivial, ⟨rfl, ⟨(Le.refl _), (Le.refl _), (Le.refl _), (Le.refl _), (Le.refl _), (Le.refl _), (Le.refl _), (Le.refl _), (Le.refl _), trivial⟩⟩, trivial⟩⟩
    · replace h := condF h hb4
      apply wc_region_all [_, _, _, _, _, _, _, _, _, _, _, _, _, _, _, _, _, _, _, _, _, _, _, _, _, _, _, _, _, _, _, _, _] [[], [], [], [], [2, 3], [2, 3, 4], [0, 1, 2, 3, 4, 5], [0, 1, 2, 3, 4, 5, 6], [0, 1, 2, 3, 4, 5, 6, 7], [0, 1, 2, 3, 4, 5, 6, 7], [0, 1, 2, 3, 4, 5, 6, 7], [0, 1, 2, 3, 4, 5, 6, 7], [0, 1, 2, 3, 4, 5, 6, 7, 10, 11], [0, 1, 2, 3, 4, 5, 6, 7, 10, 11, 12], [0, 1, 2, 3, 4, 5, 6, 7, 8, 9, 10, 11, 12, 13], [0, 1, 2, 3, 4, 5, 6, 7, 8, 9, 10, 11, 12, 13, 14], [0, 1, 2, 3, 4, 5, 6, 7, 8, 9, 10, 11, 12, 13, 14, 15], [0, 1, 2, 3, 4, 5, 6, 7, 8, 9, 10, 11, 12, 13, 14, 15, 16], [0, 1, 2, 3, 4, 5, 6, 7, 8, 9, 10, 11, 12, 13, 14, 15, 16], [0, 1, 2, 3, 4, 5, 6, 7, 8, 9, 10, 11, 12, 13, 14, 15, 16], [0, 1, 2, 3, 4, 5, 6, 7, 8, 9, 10, 11, 12, 13, 14, 15, 16, 19], [0, 1, 2, 3, 4, 5, 6, 7, 8, 9, 10, 11, 12, 13, 14, 15, 16, 19, 20], [0, 1, 2, 3, 4, 5, 6, 7, 8, 9, 10, 11, 12, 13, 14, 15, 16, 17, 18, 19, 20, 21], [0, 1, 2, 3, 4, 5, 6, 7, 8, 9, 10, 11, 12, 13, 14, 15, 16, 17, 18, 19, 20, 21, 22], [0, 1, 2, 3, 4, 5, 6, 7, 8, 9, 10, 11, 12, 13, 14, 15, 16, 17, 18, 19, 20, 21, 22, 23], [0, 1, 2, 3, 4, 5, 6, 7, 8, 9, 10, 11, 12, 13, 14, 15, 16, 17, 18, 19, 20, 21, 22, 23, 24], [0, 1, 2, 3, 4, 5, 6, 7, 8, 9, 10, 11, 12, 13, 14, 15, 16, 17, 18, 19, 20, 21, 22, 23, 24], [0, 1, 2, 3, 4, 5, 6, 7, 8, 9, 10, 11, 12, 13, 14, 15, 16, 17, 18, 19, 20, 21, 22, 23, 24], [0, 1, 2, 3, 4, 5, 6, 7, 8, 9, 10, 11, 12, 13, 14, 15, 16, 17, 18, 19, 20, 21, 22, 23, 24, 27], [0, 1, 2, 3, 4, 5, 6, 7, 8, 9, 10, 11, 12, 13, 14, 15, 16, 17, 18, 19, 20, 21, 22, 23, 24, 27, 28], [0, 1, 2, 3, 4, 5, 6, 7, 8, 9, 10, 11, 12, 13, 14, 15, 16, 17, 18, 19, 20, 21, 22, 23, 24, 25, 26, 27, 28, 29], [0, 1, 2, 3, 4, 5, 6, 7, 8, 9, 10, 11, 12, 13, 14, 15, 16, 17, 18, 19, 20, 21, 22, 23, 24, 25, 26, 27, 28, 29, 30], [0, 1, 2, 3, 4, 5, 6, 7, 8, 9, 10, 11, 12, 13, 14, 15, 16, 17, 18, 19, 20, 21, 22, 23, 24, 25, 26, 27, 28, 29, 30, 31]] [] (fun c => List.getD [[.dead, .dead, .dead, .dead, .dead, .dead, .row 26 [.d (D.i .u8 ((f27 7 (f27 4 (f26 1) (f26 0)) (f26 1)).kind)), .d (D.i .u8 ((f27 7 (f27 4 (f26 1) (f26 0)) (f26 1)).op)), .d (D.i .i64 ((f27 7 (f27 4 (f26 1) (f26 0)) (f26 1)).n)), .d (D.i .i64 ((f27 7 (f27 4 (f26 1) (f26 0)) (f26 1)).o)), .d (D.i .i64 ((f27 7 (f27 4 (f26 1) (f26 0)) (f26 1)).off)), .d (D.i .i64 ((f27 7 (f27 4 (f26 1) (f26 0)) (f26 1)).len)), .d (D.i .i64 ((f27 7 (f27 4 (f26 1) (f26 0)) (f26 1)).lo)), .d (D.i .i64 ((f27 7 (f27 4 (f26 1) (f26 0)) (f26 1)).hi)), .d (.sl (List.map E26 ((f27 7 (f27 4 (f26 1) (f26 0)) (f26 1)).l)))]]] c []) [([], [1], [0]), ([], [2], [0]), ([], [], [0]), ([], [7], [0]), ([2, 3], [], [0]), ([4], [], [0]), ([0, 1, 5], [], [0]), ([6], [], [0]), ([7], [], [0]), ([7], [], [0]), ([7], [], [0]), ([7], [], [0]), ([7], [], [0]), ([7], [], [0]), ([7], [], [0]), ([7, 14], [], [0]), ([15], [], [0]), ([16], [], [0]), ([16], [], [0]), ([16], [], [0]), ([16], [], [0]), ([16], [], [0]), ([16], [], [0]), ([16, 22], [], [0]), ([23], [], [0]), ([24], [], [0]), ([24], [], [0]), ([24], [], [0]), ([24], [], [0]), ([24], [], [0]), ([24], [], [0]), ([24, 30], [], [0]), ([31], [], [0])] (by kernel_rfl) (by kernel_rfl) rfl rfl rfl
      · refine ⟨?_, ?_, ?_, ?_, ?_, ?_, ?_, ?_, ?_, ?_, ?_, ?_, ?_, ?_, ?_, ?_, ?_, ?_, ?_, ?_, ?_, ?_, ?_, ?_, ?_, ?_, ?_, ?_, ?_, ?_, ?_, ?_, ?_, trivial⟩
        · refine ⟨fun F => ?_, trivial⟩
          refine WL.q (y_move rfl) (Wt.none rfl) rfl rfl ?_
          exact WL.done1 rfl rfl rfl
        · refine ⟨fun F => ?_, trivial⟩
          refine WL.q (y_move rfl) (Wt.none rfl) rfl rfl ?_
          exact WL.done1 rfl rfl rfl
        · refine ⟨fun F => ?_, trivial⟩
          refine WL.fn rfl rfl rfl rfl (f26_c _) ⟨(Le.refl _), trivial⟩ (Wt.none rfl) rfl rfl ?_
          exact WL.done1 rfl rfl rfl
        · refine ⟨fun F => ?_, trivial⟩
          refine WL.q (y_loadN rfl rfl a26 s26 rfl) (Wt.none rfl) rfl rfl ?_
          exact WL.done1 rfl rfl rfl
        · refine ⟨fun F => ?_, trivial⟩
          refine WL.s ((NewOs.data (n_buildSlice l24 z26 rfl (by decide) (by decide) rfl rfl rfl (by decide)) (by exact encA_map E26_eq [(f26 0), (f27 7 (f27 4 (f26 1) (f26 0)) (f26 1))])).does) (Wt.none rfl) rfl rfl ?_
          exact WL.done1 rfl rfl rfl
        · refine ⟨fun F => ?_, trivial⟩
          refine WL.fn rfl rfl rfl rfl (f23_c _ _) ⟨(Le.refl _), (Le.refl _), trivial⟩ (Wt.none rfl) rfl rfl ?_
          exact WL.done1 rfl rfl rfl
        · refine ⟨fun F => ?_, trivial⟩
          refine WL.fn rfl rfl rfl rfl (f38_c _ _ _ _ hr208) ⟨(Le.refl _), (Le.refl _), (Le.refl _), (Le.refl _), trivial⟩ (Wt.none rfl) rfl rfl ?_
          exact WL.done1 rfl rfl rfl
        · refine ⟨fun F => ?_, trivial⟩
          refine WL.q (y_move rfl) (Wt.none rfl) rfl rfl ?_
          refine WL.cast 117 rfl (Le.ofd (by rw [hb4])) ?_
          exact WL.done2 rfl rfl rfl
        · refine ⟨fun F => ?_, trivial⟩
          refine WL.skips 1 rfl ?_
          exact WL.done1 rfl rfl rfl
        · refine ⟨fun F => ?_, trivial⟩
          refine WL.skips 1 rfl ?_
          exact WL.done1 rfl rfl rfl
        · refine ⟨fun F => ?_, trivial⟩
          refine WL.skips 1 rfl ?_
          exact WL.done1 rfl rfl rfl
        · refine ⟨fun F => ?_, trivial⟩
          refine WL.skips 1 rfl ?_
          exact WL.done1 rfl rfl rfl
        · refine ⟨fun F => ?_, trivial⟩
          refine WL.skips 1 rfl ?_
          exact WL.done1 rfl rfl rfl
        · refine ⟨fun F => ?_, trivial⟩
          refine WL.skips 1 rfl ?_
          exact WL.done1 rfl rfl rfl
        · refine ⟨fun F => ?_, trivial⟩
          refine WL.skips 1 rfl ?_
          exact WL.done1 rfl rfl rfl
        · refine ⟨fun F => ?_, trivial⟩
          refine WL.q (y_pick_f rfl rfl) (Wt.none rfl) rfl rfl ?_
          exact WL.done1 rfl rfl rfl
        · refine ⟨fun F => ?_, trivial⟩
          refine WL.q (y_move rfl) (Wt.none rfl) rfl rfl ?_
          exact WL.done1 rfl rfl rfl
        · refine ⟨fun F => ?_, trivial⟩
          refine WL.skips 1 rfl ?_
          exact WL.done1 rfl rfl rfl
        · refine ⟨fun F => ?_, trivial⟩
          refine WL.skips 1 rfl ?_
          exact WL.done1 rfl rfl rfl
        · refine ⟨fun F => ?_, trivial⟩
          refine WL.skips 1 rfl ?_
          exact WL.done1 rfl rfl rfl
        · refine ⟨fun F => ?_, trivial⟩
          refine WL.skips 1 rfl ?_
          exact WL.done1 rfl rfl rfl
        · refine ⟨fun F => ?_, trivial⟩
          refine WL.skips 1 rfl ?_
          exact WL.done1 rfl rfl rfl
        · refine ⟨fun F => ?_, trivial⟩
          refine WL.skips 1 rfl ?_
          exact WL.done1 rfl rfl rfl
        · refine ⟨fun F => ?_, trivial⟩
          refine WL.q (y_pick_f rfl rfl) (Wt.none rfl) rfl rfl ?_
          exact WL.done1 rfl rfl rfl
        · refine ⟨fun F => ?_, trivial⟩
          refine WL.q (y_move rfl) (Wt.none rfl) rfl rfl ?_
          exact WL.done1 rfl rfl rfl
        · refine ⟨fun F => ?_, trivial⟩
          refine WL.skips 1 rfl ?_
          exact WL.done1 rfl rfl rfl
        · refine ⟨fun F => ?_, trivial⟩
          refine WL.skips 1 rfl ?_
          exact WL.done1 rfl rfl rfl
        · refine ⟨fun F => ?_, trivial⟩
          refine WL.skips 1 rfl ?_
          exact WL.done1 rfl rfl rfl
        · refine ⟨fun F => ?_, trivial⟩
          refine WL.skips 1 rfl ?_
          exact WL.done1 rfl rfl rfl
        · refine ⟨fun F => ?_, trivial⟩
          refine WL.skips 1 rfl ?_
          exact WL.done1 rfl rfl rfl
        · refine ⟨fun F => ?_, trivial⟩
          refine WL.skips 1 rfl ?_
          exact WL.done1 rfl rfl rfl
        · refine ⟨fun F => ?_, trivial⟩
          refine WL.q (y_pick_f rfl rfl) (Wt.none rfl) rfl rfl ?_
          exact WL.done1 rfl rfl rfl
        · refine ⟨fun F => ?_, trivial⟩
          refine WL.q (y_assign rfl) (Wt.none rfl) rfl rfl ?_
          exact WL.done1 rfl rfl rfl
      · exact we_lp ⟨false, h, (Sub.cons rfl (Le.refl _) (Sub.cons rfl (Le.refl _) (Sub.cons rfl (Le.refl _) (Sub.cons rfl (Le.refl _) (Sub.nil _))))), ⟨trivial, trivial, trivial, trivial, trivial, trivial, ⟨rfl, ⟨(Le.refl _), (Le.refl _), (Le.refl _), (Le.refl _), (Le.refl _), (Le.refl _), (Le.refl _), (Le.refl _), (Le.refl _), trivial⟩⟩, trivial⟩⟩
  · rintro env1 st1 ⟨four206, h, hsub, hst⟩
    subst hk207
    dsimp only at h
    refine WC.sub hsub (WC.weak hst ?_)
    refine wc_seq ?_
    refine wc_region ?_
    refine WL.s (((NewOs.b (n_buildSlice l56 z2 rfl (by decide) (by decide) rfl rfl rfl (by decide))).does)) (Wt.none rfl) rfl rfl ?_
    refine WL.freezeX [143] [] 7 (List.map E2 [5, 6]) rfl (encA_map E2_eq [5, 6]) ⟨rfl, trivial⟩ trivial ?_
    refine WL.s (((NewOs.b (n_buildSlice l37 z56 rfl (by decide) (by decide) rfl rfl rfl (by decide))).does)) (Wt.none rfl) rfl rfl ?_
    refine WL.q (y_build p29 z29 rfl rfl) (Wt.none rfl) rfl rfl ?_
    refine WL.freezeX [144] [] 8 (List.map E56 [[5, 6]]) rfl (encA_map E56_eq [[5, 6]]) ⟨rfl, trivial⟩ trivial ?_
    replace h := bindS h
    obtain ⟨r212, hr212, h⟩ := h
    refine WL.fn rfl rfl rfl rfl (f29_c _ _ hr212) ⟨(Le.refl _), (Le.agd ⟨(Le.refl _), (Le.refl _), (Le.refl _), (Le.refl _), Le.nil, trivial⟩), trivial⟩ (Wt.none rfl) rfl rfl ?_
    refine WL.q (y_move rfl) (Wt.none rfl) rfl rfl ?_
    refine WL.q (y_extractd rfl rfl) (Wt.none rfl) rfl rfl ?_
    refine WL.q (y_extractd rfl rfl) (Wt.none rfl) rfl rfl ?_
    refine WL.s ((b_alloc z52).does) (Wt.none rfl) rfl rfl ?_
    refine WL.s0 (d_store rfl rfl rfl rfl rfl rfl s52 rfl rfl) (Wt.none rfl) rfl ?_
    refine WL.q (y_assign rfl) (Wt.none rfl) rfl rfl ?_
    refine WL.nil ?_
    refine we_seq ?_
    refine wc_seq ?_
    refine wc_region ?_
    refine WL.q (y_move rfl) (Wt.none rfl) rfl rfl ?_
    refine WL.q (y_move rfl) (Wt.none rfl) rfl rfl ?_
    apply WL.and 2 (t := 150) (d := 152)
    · exact rfl
    · intro hg150
      refine WL.q (y_move rfl) (Wt.yes rfl rfl rfl) rfl rfl ?_
      refine WL.q (y_pick_t rfl rfl) (Wt.none rfl) rfl rfl ?_
      exact WL.nil ⟨rfl, [_, _], rfl, rfl, rfl⟩
    · refine WL.skips 1 rfl ?_
      refine WL.q (y_pick_f rfl rfl) (Wt.none rfl) rfl rfl ?_
      exact WL.nil ⟨rfl, [_, _], rfl, rfl, rfl⟩
    refine WL.q (y_move rfl) (Wt.none rfl) rfl rfl ?_
    apply WL.and 2 (t := 153) (d := 155)
    · exact rfl
    · intro hg153
      refine WL.q (y_move rfl) (Wt.yes rfl rfl rfl) rfl rfl ?_
      refine WL.q (y_pick_t rfl rfl) (Wt.none rfl) rfl rfl ?_
      exact WL.nil ⟨rfl, [_, _], rfl, rfl, rfl⟩
    · refine WL.skips 1 rfl ?_
      refine WL.q (y_pick_f rfl rfl) (Wt.none rfl) rfl rfl ?_
      exact WL.nil ⟨rfl, [_, _], rfl, rfl, rfl⟩
    refine WL.q (y_move rfl) (Wt.none rfl) rfl rfl ?_
    apply WL.and 2 (t := 156) (d := 158)
    · exact rfl
    · intro hg156
      refine WL.q (y_move rfl) (Wt.yes rfl rfl rfl) rfl rfl ?_
      refine WL.q (y_pick_t rfl rfl) (Wt.none rfl) rfl rfl ?_
      exact WL.nil ⟨rfl, [_, _], rfl, rfl, rfl⟩
    · refine WL.skips 1 rfl ?_
      refine WL.q (y_pick_f rfl rfl) (Wt.none rfl) rfl rfl ?_
      exact WL.nil ⟨rfl, [_, _], rfl, rfl, rfl⟩
    refine WL.q (y_move rfl) (Wt.none rfl) rfl rfl ?_
    apply WL.and 2 (t := 159) (d := 161)
    · exact rfl
    · intro hg159
      refine WL.q (y_move rfl) (Wt.yes rfl rfl rfl) rfl rfl ?_
      refine WL.q (y_pick_t rfl rfl) (Wt.none rfl) rfl rfl ?_
      exact WL.nil ⟨rfl, [_, _], rfl, rfl, rfl⟩
    · refine WL.skips 1 rfl ?_
      refine WL.q (y_pick_f rfl rfl) (Wt.none rfl) rfl rfl ?_
      exact WL.nil ⟨rfl, [_, _], rfl, rfl, rfl⟩
    refine WL.q (y_move rfl) (Wt.none rfl) rfl rfl ?_
    apply WL.and 4 (t := 162) (d := 166)
    · exact rfl
    · intro hg162
      refine WL.q (y_loadN rfl rfl a52 s52 rfl) (Wt.yes rfl rfl rfl) rfl rfl ?_
      refine WL.q (y_build p52 z52 rfl rfl) (Wt.yes rfl rfl rfl) rfl rfl ?_
      refine WL.q (y_eqst (xs := [.int .i64 r212.1.o, .int .i64 r212.1.slot]) (ys := [.int .i64 0, .int .i64 1]) (b := ((decide (r212.1.o = 0)) && ((decide (r212.1.slot = 1)) && true))) q52 rfl (Le.agd ⟨(Le.refl _), (Le.refl _), trivial⟩) rfl (Le.agd ⟨(Le.refl _), (Le.refl _), trivial⟩) rfl rfl rfl) (Wt.yes rfl rfl rfl) rfl rfl ?_
      refine WL.q (y_pick_t rfl rfl) (Wt.none rfl) rfl rfl ?_
      exact WL.nil ⟨rfl, [_, _, _, _], rfl, rfl, rfl⟩
    · refine WL.skips 3 rfl ?_
      refine WL.q (y_pick_f rfl rfl) (Wt.none rfl) rfl rfl ?_
      exact WL.nil ⟨rfl, [_, _, _, _], rfl, rfl, rfl⟩
    refine WL.q (y_move rfl) (Wt.none rfl) rfl rfl ?_
    replace h := bindS h
    obtain ⟨b213, hb213, h⟩ := h
    apply WL.grp 4 (t := 167) (d := 171) (z := b213)
    · exact rfl
    · intro hg167
      have h := condT hb213 hg167
      refine WL.fn rfl rfl rfl rfl (f52_c _) ⟨(Le.refl _), trivial⟩ (Wt.yes rfl rfl rfl) rfl rfl ?_
      replace h := bindS h
      obtain ⟨r214, hr214, h⟩ := h
      refine WL.fn rfl rfl rfl rfl (f13_c _ _ hr214) ⟨(Le.refl _), (Le.refl _), trivial⟩ (Wt.yes rfl rfl rfl) rfl rfl ?_
      refine WL.q (y_not rfl) (Wt.yes rfl rfl rfl) rfl rfl ?_
      refine WL.q (y_pick_t rfl rfl) (Wt.none rfl) rfl rfl ?_
      obtain rfl := Option.some.inj h
      exact WL.nil ⟨rfl, [_, _, _, _], rfl, rfl, rfl⟩
    · intro hg167
      have h := condF hb213 hg167
      refine WL.skips 3 rfl ?_
      refine WL.q (y_pick_f rfl rfl) (Wt.none rfl) rfl rfl ?_
      obtain rfl := Option.some.inj h
      exact WL.nil ⟨rfl, [_, _, _, _], rfl, rfl, rfl⟩
    refine WL.q (y_move rfl) (Wt.none rfl) rfl rfl ?_
    replace h := bindS h
    obtain ⟨b215, hb215, h⟩ := h
    apply WL.grp 3 (t := 172) (d := 175) (z := b215)
    · exact rfl
    · intro hg172
      have h := condT hb215 hg172
      refine WL.fn rfl rfl rfl rfl (f52_c _) ⟨(Le.refl _), trivial⟩ (Wt.yes rfl rfl rfl) rfl rfl ?_
      replace h := bindS h
      obtain ⟨r216, hr216, h⟩ := h
      refine WL.fn rfl rfl rfl rfl (f13_c _ _ hr216) ⟨(Le.refl _), (Le.refl _), trivial⟩ (Wt.yes rfl rfl rfl) rfl rfl ?_
      refine WL.q (y_pick_t rfl rfl) (Wt.none rfl) rfl rfl ?_
      obtain rfl := Option.some.inj h
      exact WL.nil ⟨rfl, [_, _, _], rfl, rfl, rfl⟩
    · intro hg172
      have h := condF hb215 hg172
      refine WL.skips 2 rfl ?_
      refine WL.q (y_pick_f rfl rfl) (Wt.none rfl) rfl rfl ?_
      obtain rfl := Option.some.inj h
      exact WL.nil ⟨rfl, [_, _, _], rfl, rfl, rfl⟩
    refine WL.q (y_move rfl) (Wt.none rfl) rfl rfl ?_
    replace h := bindS h
    obtain ⟨b217, hb217, h⟩ := h
    apply WL.grp 7 (t := 176) (d := 183) (z := b217)
    · exact rfl
    · intro hg176
      have h := condT hb217 hg176
      refine WL.fn rfl rfl rfl rfl (f39_c _ _) ⟨(Le.refl _), (Le.refl _), trivial⟩ (Wt.yes rfl rfl rfl) rfl rfl ?_
      refine WL.fn rfl rfl rfl rfl (f39_c _ _) ⟨(Le.refl _), (Le.refl _), trivial⟩ (Wt.yes rfl rfl rfl) rfl rfl ?_
      refine WL.fn rfl rfl rfl rfl (f27_c _ _ _) ⟨(Le.refl _), (Le.refl _), (Le.refl _), trivial⟩ (Wt.yes rfl rfl rfl) rfl rfl ?_
      replace h := bindS h
      obtain ⟨r218, hr218, h⟩ := h
      refine WL.fn rfl rfl rfl rfl (f18_c _ hr218) ⟨(Le.refl _), trivial⟩ (Wt.yes rfl rfl rfl) rfl rfl ?_
      refine WL.s ((NewOs.data (n_buildSlice l33 z3 rfl (by decide) (by decide) rfl rfl rfl (by decide)) (by exact encA_map E3_eq [1, 3])).does) (Wt.yes rfl rfl rfl) rfl rfl ?_
      replace h := bindS h
      obtain ⟨r219, hr219, h⟩ := h
      refine WL.fn rfl rfl rfl rfl (f17_c _ _ hr219) ⟨(Le.refl _), (Le.refl _), trivial⟩ (Wt.yes rfl rfl rfl) rfl rfl ?_
      refine WL.q (y_pick_t rfl rfl) (Wt.none rfl) rfl rfl ?_
      obtain rfl := Option.some.inj h
      exact WL.nil ⟨rfl, [_, _, _, _, _, _, _], rfl, rfl, rfl⟩
    · intro hg176
      have h := condF hb217 hg176
      refine WL.skips 6 rfl ?_
      refine WL.q (y_pick_f rfl rfl) (Wt.none rfl) rfl rfl ?_
      obtain rfl := Option.some.inj h
      exact WL.nil ⟨rfl, [_, _, _, _, _, _, _], rfl, rfl, rfl⟩
    refine WL.q (y_assign rfl) (Wt.none rfl) rfl rfl ?_
    refine WL.nil ?_
    refine we_seq ?_
    refine wc_ret ?_
    obtain rfl := Option.some.inj h
    exact we_ret_fn (rs1 rfl (rv_t rfl)) (Le.refl _)

theorem f4_c (s0 : List (List Int)) (counts1 : List Int) (e2 : CE) {r : Bool} (h : f4 s0 counts1 e2 = some r) : Pu Try.prog 4 [.sl (List.map E56 s0), .sl (List.map E3 counts1), .ag (R26 e2)] (.b r) := by
  unfold f4 at h
  refine fn_intro Try.func4 (by kernel_rfl) rfl rfl rfl (fun φφ ww => ?_)
  refine wc_seq ?_
  refine wc_region ?_
  refine WL.s ((b_box rfl rfl).does) (Wt.none rfl) rfl rfl ?_
  refine WL.q (y_assign rfl) (Wt.none rfl) rfl rfl ?_
  refine WL.nil ?_
  refine we_seq ?_
  refine wc_seq ?_
  refine wc_region ?_
  refine WL.q (y_move rfl) (Wt.none rfl) rfl rfl ?_
  refine WL.q (y_move rfl) (Wt.none rfl) rfl rfl ?_
  refine WL.q (y_loadN rfl rfl a26 s26 rfl) (Wt.none rfl) rfl rfl ?_
  replace h := bindS h
  obtain ⟨r40, hr40, h⟩ := h
  refine WL.fn rfl rfl rfl rfl (f21_c _ _ _ hr40) ⟨(Le.refl _), (Le.refl _), (Le.agd ⟨(Le.refl _), (Le.refl _), (Le.refl _), (Le.refl _), (Le.refl _), (Le.refl _), (Le.refl _), (Le.refl _), (Le.refl _), trivial⟩), trivial⟩ (Wt.none rfl) rfl rfl ?_
  refine WL.q (y_move rfl) (Wt.none rfl) rfl rfl ?_
  refine WL.q (y_extractd rfl rfl) (Wt.none rfl) rfl rfl ?_
  refine WL.q (y_extractd rfl rfl) (Wt.none rfl) rfl rfl ?_
  refine WL.q (y_assign rfl) (Wt.none rfl) rfl rfl ?_
  refine WL.q (y_assign rfl) (Wt.none rfl) rfl rfl ?_
  refine WL.nil ?_
  refine we_seq ?_
  refine wc_seq ?_
  refine wc_region ?_
  refine WL.q (y_move rfl) (Wt.none rfl) rfl rfl ?_
  refine WL.q (y_move rfl) (Wt.none rfl) rfl rfl ?_
  refine WL.q (y_loadN rfl rfl a26 s26 rfl) (Wt.none rfl) rfl rfl ?_
  replace h := bindS h
  obtain ⟨r41, hr41, h⟩ := h
  refine WL.fn rfl rfl rfl rfl (f22_c _ _ _ hr41) ⟨(Le.refl _), (Le.refl _), (Le.agd ⟨(Le.refl _), (Le.refl _), (Le.refl _), (Le.refl _), (Le.refl _), (Le.refl _), (Le.refl _), (Le.refl _), (Le.refl _), trivial⟩), trivial⟩ (Wt.none rfl) rfl rfl ?_
  refine WL.q (y_move rfl) (Wt.none rfl) rfl rfl ?_
  refine WL.q (y_extractd rfl rfl) (Wt.none rfl) rfl rfl ?_
  refine WL.q (y_extractd rfl rfl) (Wt.none rfl) rfl rfl ?_
  refine WL.q (y_assign rfl) (Wt.none rfl) rfl rfl ?_
  refine WL.q (y_assign rfl) (Wt.none rfl) rfl rfl ?_
  refine WL.nil ?_
  refine we_seq ?_
  refine wc_seq ?_
  refine wc_region ?_
  refine WL.q (y_move rfl) (Wt.none rfl) rfl rfl ?_
  refine WL.q (y_move rfl) (Wt.none rfl) rfl rfl ?_
  refine WL.q (y_eql rfl rfl) (Wt.none rfl) rfl rfl ?_
  refine WL.q (y_move rfl) (Wt.none rfl) rfl rfl ?_
  apply WL.and 4 (t := 28) (d := 32)
  · exact rfl
  · intro hg28
    refine WL.q (y_move rfl) (Wt.yes rfl rfl rfl) rfl rfl ?_
    refine WL.q (y_move rfl) (Wt.yes rfl rfl rfl) rfl rfl ?_
    refine WL.q (y_eqb Try.underlying4 rfl rfl) (Wt.yes rfl rfl rfl) rfl rfl ?_
    refine WL.q (y_pick_t rfl rfl) (Wt.none rfl) rfl rfl ?_
    exact WL.nil ⟨rfl, [_, _, _, _], rfl, rfl, rfl⟩
  · refine WL.skips 3 rfl ?_
    refine WL.q (y_pick_f rfl rfl) (Wt.none rfl) rfl rfl ?_
    exact WL.nil ⟨rfl, [_, _, _, _], rfl, rfl, rfl⟩
  refine WL.q (y_move rfl) (Wt.none rfl) rfl rfl ?_
  replace h := bindS h
  obtain ⟨b42, hb42, h⟩ := h
  apply WL.grp 2 (t := 33) (d := 35) (z := b42)
  · exact rfl
  · intro hg33
    have h := condT hb42 hg33
    replace h := bindS h
    obtain ⟨r43, hr43, h⟩ := h
    refine WL.fn rfl rfl rfl rfl (f20_c hr43) trivial (Wt.yes rfl rfl rfl) rfl rfl ?_
    refine WL.q (y_pick_t rfl rfl) (Wt.none rfl) rfl rfl ?_
    obtain rfl := Option.some.inj h
    exact WL.nil ⟨rfl, [_, _], rfl, rfl, rfl⟩
  · intro hg33
    have h := condF hb42 hg33
    refine WL.skips 1 rfl ?_
    refine WL.q (y_pick_f rfl rfl) (Wt.none rfl) rfl rfl ?_
    obtain rfl := Option.some.inj h
    exact WL.nil ⟨rfl, [_, _], rfl, rfl, rfl⟩
  refine WL.q (y_assign rfl) (Wt.none rfl) rfl rfl ?_
  refine WL.nil ?_
  refine we_seq ?_
  refine wc_ret ?_
  obtain rfl := Option.some.inj h
  exact we_ret_fn (rs1 rfl (rv_t rfl)) (Le.refl _)

theorem f5_c (s0 : List (List Int)) (counts1 : List Int) (e2 : CE) {r : Bool} (h : f5 s0 counts1 e2 = some r) : Pu Try.prog 5 [.sl (List.map E56 s0), .sl (List.map E3 counts1), .ag (R26 e2)] (.b r) := by
  unfold f5 at h
  refine fn_intro Try.func5 (by kernel_rfl) rfl rfl rfl (fun φφ ww => ?_)
  refine wc_seq ?_
  refine wc_region ?_
  refine WL.s ((b_box rfl rfl).does) (Wt.none rfl) rfl rfl ?_
  refine WL.q (y_assign rfl) (Wt.none rfl) rfl rfl ?_
  refine WL.nil ?_
  refine we_seq ?_
  refine wc_seq ?_
  refine wc_region ?_
  refine WL.q (y_move rfl) (Wt.none rfl) rfl rfl ?_
  refine WL.q (y_move rfl) (Wt.none rfl) rfl rfl ?_
  refine WL.q (y_loadN rfl rfl a26 s26 rfl) (Wt.none rfl) rfl rfl ?_
  replace h := bindS h
  obtain ⟨r44, hr44, h⟩ := h
  refine WL.fn rfl rfl rfl rfl (f21_c _ _ _ hr44) ⟨(Le.refl _), (Le.refl _), (Le.agd ⟨(Le.refl _), (Le.refl _), (Le.refl _), (Le.refl _), (Le.refl _), (Le.refl _), (Le.refl _), (Le.refl _), (Le.refl _), trivial⟩), trivial⟩ (Wt.none rfl) rfl rfl ?_
  refine WL.q (y_move rfl) (Wt.none rfl) rfl rfl ?_
  refine WL.q (y_extractd rfl rfl) (Wt.none rfl) rfl rfl ?_
  refine WL.q (y_extractd rfl rfl) (Wt.none rfl) rfl rfl ?_
  refine WL.q (y_assign rfl) (Wt.none rfl) rfl rfl ?_
  refine WL.q (y_assign rfl) (Wt.none rfl) rfl rfl ?_
  refine WL.nil ?_
  refine we_seq ?_
  refine wc_seq ?_
  refine wc_region ?_
  refine WL.q (y_move rfl) (Wt.none rfl) rfl rfl ?_
  refine WL.q (y_move rfl) (Wt.none rfl) rfl rfl ?_
  apply WL.and 3 (t := 17) (d := 20)
  · exact rfl
  · intro hg17
    refine WL.q (y_move rfl) (Wt.yes rfl rfl rfl) rfl rfl ?_
    refine WL.q (y_geq rfl rfl) (Wt.yes rfl rfl rfl) rfl rfl ?_
    refine WL.q (y_pick_t rfl rfl) (Wt.none rfl) rfl rfl ?_
    exact WL.nil ⟨rfl, [_, _, _], rfl, rfl, rfl⟩
  · refine WL.skips 2 rfl ?_
    refine WL.q (y_pick_f rfl rfl) (Wt.none rfl) rfl rfl ?_
    exact WL.nil ⟨rfl, [_, _, _], rfl, rfl, rfl⟩
  refine WL.q (y_move rfl) (Wt.none rfl) rfl rfl ?_
  apply WL.and 3 (t := 21) (d := 24)
  · exact rfl
  · intro hg21
    refine WL.q (y_move rfl) (Wt.yes rfl rfl rfl) rfl rfl ?_
    refine WL.q (y_leq rfl rfl) (Wt.yes rfl rfl rfl) rfl rfl ?_
    refine WL.q (y_pick_t rfl rfl) (Wt.none rfl) rfl rfl ?_
    exact WL.nil ⟨rfl, [_, _, _], rfl, rfl, rfl⟩
  · refine WL.skips 2 rfl ?_
    refine WL.q (y_pick_f rfl rfl) (Wt.none rfl) rfl rfl ?_
    exact WL.nil ⟨rfl, [_, _, _], rfl, rfl, rfl⟩
  refine WL.q (y_move rfl) (Wt.none rfl) rfl rfl ?_
  replace h := bindS h
  obtain ⟨b45, hb45, h⟩ := h
  apply WL.grp 3 (t := 25) (d := 28) (z := b45)
  · exact rfl
  · intro hg25
    have h := condT hb45 hg25
    refine WL.q (y_loadN rfl rfl a26 s26 rfl) (Wt.yes rfl rfl rfl) rfl rfl ?_
    replace h := bindS h
    obtain ⟨r46, hr46, h⟩ := h
    refine WL.fn rfl rfl rfl rfl (f14_c _ _ hr46) ⟨(Le.agd ⟨(Le.refl _), (Le.refl _), (Le.refl _), (Le.refl _), (Le.refl _), (Le.refl _), (Le.refl _), (Le.refl _), (Le.refl _), trivial⟩), (Le.refl _), trivial⟩ (Wt.yes rfl rfl rfl) rfl rfl ?_
    refine WL.q (y_pick_t rfl rfl) (Wt.none rfl) rfl rfl ?_
    obtain rfl := Option.some.inj h
    exact WL.nil ⟨rfl, [_, _, _], rfl, rfl, rfl⟩
  · intro hg25
    have h := condF hb45 hg25
    refine WL.skips 2 rfl ?_
    refine WL.q (y_pick_f rfl rfl) (Wt.none rfl) rfl rfl ?_
    obtain rfl := Option.some.inj h
    exact WL.nil ⟨rfl, [_, _, _], rfl, rfl, rfl⟩
  refine WL.q (y_move rfl) (Wt.none rfl) rfl rfl ?_
  apply WL.or 7 (t := 29) (d := 36)
  · exact rfl
  · intro hg29
    refine WL.q (y_move rfl) (Wt.yes rfl rfl rfl) rfl rfl ?_
    refine WL.q (y_not rfl) (Wt.yes rfl rfl rfl) rfl rfl ?_
    refine WL.q (y_move rfl) (Wt.yes rfl rfl rfl) rfl rfl ?_
    apply WL.and 3 (t := 32) (d := 35)
    · exact rfl
    · intro hg32
      refine WL.q (y_move rfl) (Wt.yes rfl rfl rfl) rfl rfl ?_
      refine WL.q (y_eql rfl rfl) (Wt.yes rfl rfl rfl) rfl rfl ?_
      refine WL.q (y_pick_t rfl rfl) (Wt.yes rfl rfl rfl) rfl rfl ?_
      exact WL.nil ⟨rfl, [_, _, _], rfl, rfl, rfl⟩
    · refine WL.skips 2 rfl ?_
      refine WL.q (y_pick_f rfl rfl) (Wt.yes rfl rfl rfl) rfl rfl ?_
      exact WL.nil ⟨rfl, [_, _, _], rfl, rfl, rfl⟩
    refine WL.q (y_pick_f rfl rfl) (Wt.none rfl) rfl rfl ?_
    exact WL.nil ⟨rfl, [_, _, _, _, _], rfl, rfl, rfl⟩
  · refine WL.skips 6 rfl ?_
    refine WL.q (y_pick_t rfl rfl) (Wt.none rfl) rfl rfl ?_
    exact WL.nil ⟨rfl, [_, _, _, _, _, _, _], rfl, rfl, rfl⟩
  refine WL.q (y_move rfl) (Wt.none rfl) rfl rfl ?_
  replace h := bindS h
  obtain ⟨b47, hb47, h⟩ := h
  apply WL.grp 2 (t := 37) (d := 39) (z := b47)
  · exact rfl
  · intro hg37
    have h := condT hb47 hg37
    replace h := bindS h
    obtain ⟨r48, hr48, h⟩ := h
    refine WL.fn rfl rfl rfl rfl (f20_c hr48) trivial (Wt.yes rfl rfl rfl) rfl rfl ?_
    refine WL.q (y_pick_t rfl rfl) (Wt.none rfl) rfl rfl ?_
    obtain rfl := Option.some.inj h
    exact WL.nil ⟨rfl, [_, _], rfl, rfl, rfl⟩
  · intro hg37
    have h := condF hb47 hg37
    refine WL.skips 1 rfl ?_
    refine WL.q (y_pick_f rfl rfl) (Wt.none rfl) rfl rfl ?_
    obtain rfl := Option.some.inj h
    exact WL.nil ⟨rfl, [_, _], rfl, rfl, rfl⟩
  refine WL.q (y_assign rfl) (Wt.none rfl) rfl rfl ?_
  refine WL.nil ?_
  refine we_seq ?_
  refine wc_ret ?_
  obtain rfl := Option.some.inj h
  exact we_ret_fn (rs1 rfl (rv_t rfl)) (Le.refl _)

theorem f6_c (s0 : List (List Int)) (counts1 : List Int) (a2 : CE) (b3 : CE) {r : Bool} (h : f6 s0 counts1 a2 b3 = some r) : Pu Try.prog 6 [.sl (List.map E56 s0), .sl (List.map E3 counts1), .ag (R26 a2), .ag (R26 b3)] (.b r) := by
  unfold f6 at h
  refine fn_intro Try.func6 (by kernel_rfl) rfl rfl rfl (fun φφ ww => ?_)
  refine wc_seq ?_
  refine wc_region ?_
  refine WL.s ((b_box rfl rfl).does) (Wt.none rfl) rfl rfl ?_
  refine WL.s ((b_box rfl rfl).does) (Wt.none rfl) rfl rfl ?_
  refine WL.q (y_assign rfl) (Wt.none rfl) rfl rfl ?_
  refine WL.nil ?_
  refine we_seq ?_
  refine wc_seq ?_
  refine wc_region ?_
  refine WL.q (y_loadN rfl rfl a26 s26 rfl) (Wt.none rfl) rfl rfl ?_
  refine WL.q (y_loadN rfl rfl a26 s26 rfl) (Wt.none rfl) rfl rfl ?_
  refine WL.s (((NewOs.b (n_buildSlice l24 z26 rfl (by decide) (by decide) rfl rfl rfl (by decide))).does)) (Wt.none rfl) rfl rfl ?_
  refine WL.freezeX [18] [] 2 (List.map E26 [a2, b3]) rfl (encA_map E26_eq [a2, b3]) ⟨rfl, trivial⟩ trivial ?_
  refine WL.fn rfl rfl rfl rfl (f23_c _ _) ⟨(Le.refl _), (Le.refl _), trivial⟩ (Wt.none rfl) rfl rfl ?_
  refine WL.s ((b_alloc z26).does) (Wt.none rfl) rfl rfl ?_
  refine WL.s0 (d_store rfl rfl rfl rfl rfl rfl s26 rfl rfl) (Wt.none rfl) rfl ?_
  refine WL.nil ?_
  refine we_seq ?_
  refine wc_seq ?_
  refine wc_seq ?_
  refine wc_region ?_
  refine WL.q (y_loadN rfl rfl a26 s26 rfl) (Wt.none rfl) rfl rfl ?_
  replace h := bindS h
  obtain ⟨r85, hr85, h⟩ := h
  refine WL.fn rfl rfl rfl rfl (f14_c _ _ hr85) ⟨(Le.agd ⟨(Le.refl _), (Le.refl _), (Le.refl _), (Le.refl _), (Le.refl _), (Le.refl _), (Le.refl _), (Le.refl _), (Le.refl _), trivial⟩), (Le.refl _), trivial⟩ (Wt.none rfl) rfl rfl ?_
  refine WL.q (y_not rfl) (Wt.none rfl) rfl rfl ?_
  refine WL.nil ?_
  refine we_seq ?_
  refine wc_cond rfl (fun hc1 => ?_) (fun hc1 => ?_)
  · replace h := condT h hc1
    refine wc_seq ?_
    refine wc_region ?_
    refine WL.q (y_loadN rfl rfl a26 s26 rfl) (Wt.none rfl) rfl rfl ?_
    replace h := bindS h
    obtain ⟨r86, hr86, h⟩ := h
    refine WL.fn rfl rfl rfl rfl (f13_c _ _ hr86) ⟨(Le.agd ⟨(Le.refl _), (Le.refl _), (Le.refl _), (Le.refl _), (Le.refl _), (Le.refl _), (Le.refl _), (Le.refl _), (Le.refl _), trivial⟩), (Le.refl _), trivial⟩ (Wt.none rfl) rfl rfl ?_
    refine WL.q (y_not rfl) (Wt.none rfl) rfl rfl ?_
    refine WL.q (y_move rfl) (Wt.none rfl) rfl rfl ?_
    replace h := bindS h
    obtain ⟨b87, hb87, h⟩ := h
    apply WL.grp 5 (t := 26) (d := 31) (z := b87)
    · exact rfl
    · intro hg26
      have h := condT hb87 hg26
      refine WL.q (y_move rfl) (Wt.yes rfl rfl rfl) rfl rfl ?_
      refine WL.q (y_move rfl) (Wt.yes rfl rfl rfl) rfl rfl ?_
      refine WL.q (y_loadN rfl rfl a26 s26 rfl) (Wt.yes rfl rfl rfl) rfl rfl ?_
      replace h := bindS h
      obtain ⟨r88, hr88, h⟩ := h
      refine WL.fn rfl rfl rfl rfl (f24_c _ _ _ hr88) ⟨(Le.refl _), (Le.refl _), (Le.agd ⟨(Le.refl _), (Le.refl _), (Le.refl _), (Le.refl _), (Le.refl _), (Le.refl _), (Le.refl _), (Le.refl _), (Le.refl _), trivial⟩), trivial⟩ (Wt.yes rfl rfl rfl) rfl rfl ?_
      refine WL.q (y_pick_t rfl rfl) (Wt.none rfl) rfl rfl ?_
      obtain rfl := Option.some.inj h
      exact WL.nil ⟨rfl, [_, _, _, _, _], rfl, rfl, rfl⟩
    · intro hg26
      have h := condF hb87 hg26
      refine WL.skips 4 rfl ?_
      refine WL.q (y_pick_f rfl rfl) (Wt.none rfl) rfl rfl ?_
      obtain rfl := Option.some.inj h
      exact WL.nil ⟨rfl, [_, _, _, _, _], rfl, rfl, rfl⟩
    refine WL.q (y_move rfl) (Wt.none rfl) rfl rfl ?_
    replace h := bindS h
    obtain ⟨b89, hb89, h⟩ := h
    apply WL.grp 2 (t := 32) (d := 34) (z := b89)
    · exact rfl
    · intro hg32
      have h := condT hb89 hg32
      replace h := bindS h
      obtain ⟨r90, hr90, h⟩ := h
      refine WL.fn rfl rfl rfl rfl (f20_c hr90) trivial (Wt.yes rfl rfl rfl) rfl rfl ?_
      refine WL.q (y_pick_t rfl rfl) (Wt.none rfl) rfl rfl ?_
      obtain rfl := Option.some.inj h
      exact WL.nil ⟨rfl, [_, _], rfl, rfl, rfl⟩
    · intro hg32
      have h := condF hb89 hg32
      refine WL.skips 1 rfl ?_
      refine WL.q (y_pick_f rfl rfl) (Wt.none rfl) rfl rfl ?_
      obtain rfl := Option.some.inj h
      exact WL.nil ⟨rfl, [_, _], rfl, rfl, rfl⟩
    refine WL.q (y_assign rfl) (Wt.none rfl) rfl rfl ?_
    refine WL.nil ?_
    refine we_seq ?_
    refine wc_ret ?_
    refine we_seq_ret ?_
    obtain rfl := Option.some.inj h
    exact we_ret_fn (rs1 rfl (rv_t rfl)) (Le.refl _)
  · replace h := condF h hc1
    refine wc_skip ?_
    refine we_seq ?_
    refine wc_seq ?_
    refine wc_region ?_
    refine WL.q (y_move rfl) (Wt.none rfl) rfl rfl ?_
    refine WL.q (y_move rfl) (Wt.none rfl) rfl rfl ?_
    refine WL.q (y_loadN rfl rfl a26 s26 rfl) (Wt.none rfl) rfl rfl ?_
    replace h := bindS h
    obtain ⟨r91, hr91, h⟩ := h
    refine WL.fn rfl rfl rfl rfl (f21_c _ _ _ hr91) ⟨(Le.refl _), (Le.refl _), (Le.agd ⟨(Le.refl _), (Le.refl _), (Le.refl _), (Le.refl _), (Le.refl _), (Le.refl _), (Le.refl _), (Le.refl _), (Le.refl _), trivial⟩), trivial⟩ (Wt.none rfl) rfl rfl ?_
    refine WL.q (y_move rfl) (Wt.none rfl) rfl rfl ?_
    refine WL.q (y_extractd rfl rfl) (Wt.none rfl) rfl rfl ?_
    refine WL.q (y_extractd rfl rfl) (Wt.none rfl) rfl rfl ?_
    refine WL.q (y_assign rfl) (Wt.none rfl) rfl rfl ?_
    refine WL.q (y_assign rfl) (Wt.none rfl) rfl rfl ?_
    refine WL.nil ?_
    refine we_seq ?_
    refine wc_seq ?_
    refine wc_region ?_
    refine WL.q (y_move rfl) (Wt.none rfl) rfl rfl ?_
    refine WL.q (y_move rfl) (Wt.none rfl) rfl rfl ?_
    refine WL.q (y_loadN rfl rfl a26 s26 rfl) (Wt.none rfl) rfl rfl ?_
    replace h := bindS h
    obtain ⟨r92, hr92, h⟩ := h
    refine WL.fn rfl rfl rfl rfl (f21_c _ _ _ hr92) ⟨(Le.refl _), (Le.refl _), (Le.agd ⟨(Le.refl _), (Le.refl _), (Le.refl _), (Le.refl _), (Le.refl _), (Le.refl _), (Le.refl _), (Le.refl _), (Le.refl _), trivial⟩), trivial⟩ (Wt.none rfl) rfl rfl ?_
    refine WL.q (y_move rfl) (Wt.none rfl) rfl rfl ?_
    refine WL.q (y_extractd rfl rfl) (Wt.none rfl) rfl rfl ?_
    refine WL.q (y_extractd rfl rfl) (Wt.none rfl) rfl rfl ?_
    refine WL.q (y_assign rfl) (Wt.none rfl) rfl rfl ?_
    refine WL.q (y_assign rfl) (Wt.none rfl) rfl rfl ?_
    refine WL.nil ?_
    refine we_seq ?_
    refine wc_seq ?_
    refine wc_seq ?_
    refine wc_region ?_
    refine WL.q (y_move rfl) (Wt.none rfl) rfl rfl ?_
    refine WL.q (y_not rfl) (Wt.none rfl) rfl rfl ?_
    refine WL.nil ?_
    refine we_seq ?_
    refine wc_cond rfl (fun hc2 => ?_) (fun hc2 => ?_)
    · replace h := condT h hc2
      refine wc_seq ?_
      refine wc_region ?_
      refine WL.q (y_move rfl) (Wt.none rfl) rfl rfl ?_
      refine WL.q (y_not rfl) (Wt.none rfl) rfl rfl ?_
      refine WL.q (y_move rfl) (Wt.none rfl) rfl rfl ?_
      apply WL.and 3 (t := 53) (d := 56)
      · exact rfl
      · intro hg53
        refine WL.q (y_move rfl) (Wt.yes rfl rfl rfl) rfl rfl ?_
        refine WL.q (y_eql rfl rfl) (Wt.yes rfl rfl rfl) rfl rfl ?_
        refine WL.q (y_pick_t rfl rfl) (Wt.none rfl) rfl rfl ?_
        exact WL.nil ⟨rfl, [_, _, _], rfl, rfl, rfl⟩
      · refine WL.skips 2 rfl ?_
        refine WL.q (y_pick_f rfl rfl) (Wt.none rfl) rfl rfl ?_
        exact WL.nil ⟨rfl, [_, _, _], rfl, rfl, rfl⟩
      refine WL.q (y_move rfl) (Wt.none rfl) rfl rfl ?_
      replace h := bindS h
      obtain ⟨b93, hb93, h⟩ := h
      apply WL.grp 2 (t := 57) (d := 59) (z := b93)
      · exact rfl
      · intro hg57
        have h := condT hb93 hg57
        replace h := bindS h
        obtain ⟨r94, hr94, h⟩ := h
        refine WL.fn rfl rfl rfl rfl (f20_c hr94) trivial (Wt.yes rfl rfl rfl) rfl rfl ?_
        refine WL.q (y_pick_t rfl rfl) (Wt.none rfl) rfl rfl ?_
        obtain rfl := Option.some.inj h
        exact WL.nil ⟨rfl, [_, _], rfl, rfl, rfl⟩
      · intro hg57
        have h := condF hb93 hg57
        refine WL.skips 1 rfl ?_
        refine WL.q (y_pick_f rfl rfl) (Wt.none rfl) rfl rfl ?_
        obtain rfl := Option.some.inj h
        exact WL.nil ⟨rfl, [_, _], rfl, rfl, rfl⟩
      refine WL.q (y_assign rfl) (Wt.none rfl) rfl rfl ?_
      refine WL.nil ?_
      refine we_seq ?_
      refine wc_ret ?_
      refine we_seq_ret ?_
      obtain rfl := Option.some.inj h
      exact we_ret_fn (rs1 rfl (rv_t rfl)) (Le.refl _)
    · replace h := condF h hc2
      refine wc_skip ?_
      refine we_seq ?_
      refine wc_seq ?_
      refine wc_region ?_
      refine WL.q (y_move rfl) (Wt.none rfl) rfl rfl ?_
      refine WL.q (y_move rfl) (Wt.none rfl) rfl rfl ?_
      refine WL.q (y_loadN rfl rfl a26 s26 rfl) (Wt.none rfl) rfl rfl ?_
      refine WL.q (y_move rfl) (Wt.none rfl) rfl rfl ?_
      replace h := bindS h
      obtain ⟨r95, hr95, h⟩ := h
      refine WL.fn rfl rfl rfl rfl (f25_c 100 _ _ _ hr95) ⟨(Le.agd ⟨(Le.refl _), (Le.refl _), (Le.refl _), (Le.refl _), (Le.refl _), (Le.refl _), (Le.refl _), (Le.refl _), (Le.refl _), trivial⟩), (Le.refl _), (Le.refl _), trivial⟩ (Wt.none rfl) rfl rfl ?_
      replace h := bindS h
      obtain ⟨r96, hr96, h⟩ := h
      refine WL.fn rfl rfl rfl rfl (f21_c _ _ _ hr96) ⟨(Le.refl _), (Le.refl _), (Le.refl _), trivial⟩ (Wt.none rfl) rfl rfl ?_
      refine WL.q (y_move rfl) (Wt.none rfl) rfl rfl ?_
      refine WL.q (y_extractd rfl rfl) (Wt.none rfl) rfl rfl ?_
      refine WL.q (y_extractd rfl rfl) (Wt.none rfl) rfl rfl ?_
      refine WL.q (y_assign rfl) (Wt.none rfl) rfl rfl ?_
      refine WL.q (y_assign rfl) (Wt.none rfl) rfl rfl ?_
      refine WL.nil ?_
      refine we_seq ?_
      refine wc_seq ?_
      refine wc_region ?_
      refine WL.q (y_move rfl) (Wt.none rfl) rfl rfl ?_
      refine WL.q (y_move rfl) (Wt.none rfl) rfl rfl ?_
      refine WL.q (y_eql rfl rfl) (Wt.none rfl) rfl rfl ?_
      refine WL.q (y_move rfl) (Wt.none rfl) rfl rfl ?_
      apply WL.and 4 (t := 72) (d := 76)
      · exact rfl
      · intro hg72
        refine WL.q (y_move rfl) (Wt.yes rfl rfl rfl) rfl rfl ?_
        refine WL.q (y_move rfl) (Wt.yes rfl rfl rfl) rfl rfl ?_
        refine WL.q (y_eqb Try.underlying4 rfl rfl) (Wt.yes rfl rfl rfl) rfl rfl ?_
        refine WL.q (y_pick_t rfl rfl) (Wt.none rfl) rfl rfl ?_
        exact WL.nil ⟨rfl, [_, _, _, _], rfl, rfl, rfl⟩
      · refine WL.skips 3 rfl ?_
        refine WL.q (y_pick_f rfl rfl) (Wt.none rfl) rfl rfl ?_
        exact WL.nil ⟨rfl, [_, _, _, _], rfl, rfl, rfl⟩
      refine WL.q (y_move rfl) (Wt.none rfl) rfl rfl ?_
      replace h := bindS h
      obtain ⟨b97, hb97, h⟩ := h
      apply WL.grp 2 (t := 77) (d := 79) (z := b97)
      · exact rfl
      · intro hg77
        have h := condT hb97 hg77
        replace h := bindS h
        obtain ⟨r98, hr98, h⟩ := h
        refine WL.fn rfl rfl rfl rfl (f20_c hr98) trivial (Wt.yes rfl rfl rfl) rfl rfl ?_
        refine WL.q (y_pick_t rfl rfl) (Wt.none rfl) rfl rfl ?_
        obtain rfl := Option.some.inj h
        exact WL.nil ⟨rfl, [_, _], rfl, rfl, rfl⟩
      · intro hg77
        have h := condF hb97 hg77
        refine WL.skips 1 rfl ?_
        refine WL.q (y_pick_f rfl rfl) (Wt.none rfl) rfl rfl ?_
        obtain rfl := Option.some.inj h
        exact WL.nil ⟨rfl, [_, _], rfl, rfl, rfl⟩
      refine WL.q (y_assign rfl) (Wt.none rfl) rfl rfl ?_
      refine WL.nil ?_
      refine we_seq ?_
      refine wc_ret ?_
      obtain rfl := Option.some.inj h
      exact we_ret_fn (rs1 rfl (rv_t rfl)) (Le.refl _)

theorem f7_c (a0 : Int) (b1 : Int) {r : Bool} (h : f7 a0 b1 = some r) : Pu Try.prog 7 [.i .i32 a0, .i .i32 b1] (.b r) := by
  unfold f7 at h
  refine fn_intro Try.func7 (by kernel_rfl) rfl rfl rfl (fun φφ ww => ?_)
  refine wc_seq ?_
  refine wc_region ?_
  refine WL.q (y_assign rfl) (Wt.none rfl) rfl rfl ?_
  refine WL.nil ?_
  refine we_seq ?_
  refine wc_seq ?_
  refine wc_region ?_
  refine WL.q (y_move rfl) (Wt.none rfl) rfl rfl ?_
  refine WL.q (y_conv Try.underlying21 Try.underlying2 rfl rfl) (Wt.none rfl) rfl rfl ?_
  refine WL.fn rfl rfl rfl rfl (f26_c _) ⟨(Le.refl _), trivial⟩ (Wt.none rfl) rfl rfl ?_
  refine WL.q (y_move rfl) (Wt.none rfl) rfl rfl ?_
  refine WL.q (y_conv Try.underlying21 Try.underlying2 rfl rfl) (Wt.none rfl) rfl rfl ?_
  refine WL.fn rfl rfl rfl rfl (f26_c _) ⟨(Le.refl _), trivial⟩ (Wt.none rfl) rfl rfl ?_
  refine WL.s ((b_alloc z26).does) (Wt.none rfl) rfl rfl ?_
  refine WL.s ((b_alloc z26).does) (Wt.none rfl) rfl rfl ?_
  refine WL.s0 (d_store rfl rfl rfl rfl rfl rfl s26 rfl rfl) (Wt.none rfl) rfl ?_
  refine WL.s0 (d_store rfl rfl rfl rfl rfl rfl s26 rfl rfl) (Wt.none rfl) rfl ?_
  refine WL.nil ?_
  refine we_seq ?_
  refine wc_seq ?_
  refine wc_region ?_
  refine WL.q (y_loadN rfl rfl a26 s26 rfl) (Wt.none rfl) rfl rfl ?_
  refine WL.q (y_loadN rfl rfl a26 s26 rfl) (Wt.none rfl) rfl rfl ?_
  refine WL.fn rfl rfl rfl rfl (f27_c _ _ _) ⟨(Le.refl _), (Le.agd ⟨(Le.refl _), (Le.refl _), (Le.refl _), (Le.refl _), (Le.refl _), (Le.refl _), (Le.refl _), (Le.refl _), (Le.refl _), trivial⟩), (Le.agd ⟨(Le.refl _), (Le.refl _), (Le.refl _), (Le.refl _), (Le.refl _), (Le.refl _), (Le.refl _), (Le.refl _), (Le.refl _), trivial⟩), trivial⟩ (Wt.none rfl) rfl rfl ?_
  replace h := bindS h
  obtain ⟨r173, hr173, h⟩ := h
  refine WL.fn rfl rfl rfl rfl (f21_c _ _ _ hr173) ⟨Le.nil, Le.nil, (Le.refl _), trivial⟩ (Wt.none rfl) rfl rfl ?_
  refine WL.q (y_move rfl) (Wt.none rfl) rfl rfl ?_
  refine WL.q (y_extractd rfl rfl) (Wt.none rfl) rfl rfl ?_
  refine WL.q (y_extractd rfl rfl) (Wt.none rfl) rfl rfl ?_
  refine WL.q (y_assign rfl) (Wt.none rfl) rfl rfl ?_
  refine WL.q (y_assign rfl) (Wt.none rfl) rfl rfl ?_
  refine WL.nil ?_
  refine we_seq ?_
  refine wc_seq ?_
  refine wc_region ?_
  refine WL.q (y_loadN rfl rfl a26 s26 rfl) (Wt.none rfl) rfl rfl ?_
  refine WL.q (y_loadN rfl rfl a26 s26 rfl) (Wt.none rfl) rfl rfl ?_
  refine WL.fn rfl rfl rfl rfl (f27_c _ _ _) ⟨(Le.refl _), (Le.agd ⟨(Le.refl _), (Le.refl _), (Le.refl _), (Le.refl _), (Le.refl _), (Le.refl _), (Le.refl _), (Le.refl _), (Le.refl _), trivial⟩), (Le.agd ⟨(Le.refl _), (Le.refl _), (Le.refl _), (Le.refl _), (Le.refl _), (Le.refl _), (Le.refl _), (Le.refl _), (Le.refl _), trivial⟩), trivial⟩ (Wt.none rfl) rfl rfl ?_
  replace h := bindS h
  obtain ⟨r174, hr174, h⟩ := h
  refine WL.fn rfl rfl rfl rfl (f21_c _ _ _ hr174) ⟨Le.nil, Le.nil, (Le.refl _), trivial⟩ (Wt.none rfl) rfl rfl ?_
  refine WL.q (y_move rfl) (Wt.none rfl) rfl rfl ?_
  refine WL.q (y_extractd rfl rfl) (Wt.none rfl) rfl rfl ?_
  refine WL.q (y_extractd rfl rfl) (Wt.none rfl) rfl rfl ?_
  refine WL.q (y_assign rfl) (Wt.none rfl) rfl rfl ?_
  refine WL.q (y_assign rfl) (Wt.none rfl) rfl rfl ?_
  refine WL.nil ?_
  refine we_seq ?_
  refine wc_seq ?_
  refine wc_region ?_
  refine WL.q (y_loadN rfl rfl a26 s26 rfl) (Wt.none rfl) rfl rfl ?_
  refine WL.q (y_loadN rfl rfl a26 s26 rfl) (Wt.none rfl) rfl rfl ?_
  refine WL.fn rfl rfl rfl rfl (f27_c _ _ _) ⟨(Le.refl _), (Le.agd ⟨(Le.refl _), (Le.refl _), (Le.refl _), (Le.refl _), (Le.refl _), (Le.refl _), (Le.refl _), (Le.refl _), (Le.refl _), trivial⟩), (Le.agd ⟨(Le.refl _), (Le.refl _), (Le.refl _), (Le.refl _), (Le.refl _), (Le.refl _), (Le.refl _), (Le.refl _), (Le.refl _), trivial⟩), trivial⟩ (Wt.none rfl) rfl rfl ?_
  replace h := bindS h
  obtain ⟨r175, hr175, h⟩ := h
  refine WL.fn rfl rfl rfl rfl (f21_c _ _ _ hr175) ⟨Le.nil, Le.nil, (Le.refl _), trivial⟩ (Wt.none rfl) rfl rfl ?_
  refine WL.q (y_move rfl) (Wt.none rfl) rfl rfl ?_
  refine WL.q (y_extractd rfl rfl) (Wt.none rfl) rfl rfl ?_
  refine WL.q (y_extractd rfl rfl) (Wt.none rfl) rfl rfl ?_
  refine WL.q (y_assign rfl) (Wt.none rfl) rfl rfl ?_
  refine WL.q (y_assign rfl) (Wt.none rfl) rfl rfl ?_
  refine WL.nil ?_
  refine we_seq ?_
  refine wc_seq ?_
  refine wc_region ?_
  refine WL.q (y_move rfl) (Wt.none rfl) rfl rfl ?_
  refine WL.q (y_conv Try.underlying21 Try.underlying2 rfl rfl) (Wt.none rfl) rfl rfl ?_
  refine WL.q (y_move rfl) (Wt.none rfl) rfl rfl ?_
  refine WL.q (y_conv Try.underlying21 Try.underlying2 rfl rfl) (Wt.none rfl) rfl rfl ?_
  refine WL.q (y_assign rfl) (Wt.none rfl) rfl rfl ?_
  refine WL.q (y_assign rfl) (Wt.none rfl) rfl rfl ?_
  refine WL.nil ?_
  refine we_seq ?_
  refine wc_seq ?_
  refine wc_seq ?_
  refine wc_region ?_
  refine WL.q (y_move rfl) (Wt.none rfl) rfl rfl ?_
  refine WL.q (y_eql rfl rfl) (Wt.none rfl) rfl rfl ?_
  refine WL.nil ?_
  refine we_seq ?_
  refine wc_cond rfl (fun hc1 => ?_) (fun hc1 => ?_)
  · replace h := condT h hc1
    refine wc_seq ?_
    refine wc_region ?_
    refine WL.q (y_move rfl) (Wt.none rfl) rfl rfl ?_
    refine WL.q (y_not rfl) (Wt.none rfl) rfl rfl ?_
    refine WL.q (y_move rfl) (Wt.none rfl) rfl rfl ?_
    apply WL.and 3 (t := 52) (d := 55)
    · exact rfl
    · intro hg52
      refine WL.q (y_move rfl) (Wt.yes rfl rfl rfl) rfl rfl ?_
      refine WL.q (y_not rfl) (Wt.yes rfl rfl rfl) rfl rfl ?_
      refine WL.q (y_pick_t rfl rfl) (Wt.none rfl) rfl rfl ?_
      exact WL.nil ⟨rfl, [_, _, _], rfl, rfl, rfl⟩
    · refine WL.skips 2 rfl ?_
      refine WL.q (y_pick_f rfl rfl) (Wt.none rfl) rfl rfl ?_
      exact WL.nil ⟨rfl, [_, _, _], rfl, rfl, rfl⟩
    refine WL.q (y_move rfl) (Wt.none rfl) rfl rfl ?_
    apply WL.and 3 (t := 56) (d := 59)
    · exact rfl
    · intro hg56
      refine WL.q (y_move rfl) (Wt.yes rfl rfl rfl) rfl rfl ?_
      refine WL.q (y_not rfl) (Wt.yes rfl rfl rfl) rfl rfl ?_
      refine WL.q (y_pick_t rfl rfl) (Wt.none rfl) rfl rfl ?_
      exact WL.nil ⟨rfl, [_, _, _], rfl, rfl, rfl⟩
    · refine WL.skips 2 rfl ?_
      refine WL.q (y_pick_f rfl rfl) (Wt.none rfl) rfl rfl ?_
      exact WL.nil ⟨rfl, [_, _, _], rfl, rfl, rfl⟩
    refine WL.q (y_move rfl) (Wt.none rfl) rfl rfl ?_
    apply WL.and 3 (t := 60) (d := 63)
    · exact rfl
    · intro hg60
      refine WL.q (y_move rfl) (Wt.yes rfl rfl rfl) rfl rfl ?_
      refine WL.q (y_eql rfl rfl) (Wt.yes rfl rfl rfl) rfl rfl ?_
      refine WL.q (y_pick_t rfl rfl) (Wt.none rfl) rfl rfl ?_
      exact WL.nil ⟨rfl, [_, _, _], rfl, rfl, rfl⟩
    · refine WL.skips 2 rfl ?_
      refine WL.q (y_pick_f rfl rfl) (Wt.none rfl) rfl rfl ?_
      exact WL.nil ⟨rfl, [_, _, _], rfl, rfl, rfl⟩
    refine WL.q (y_move rfl) (Wt.none rfl) rfl rfl ?_
    apply WL.and 3 (t := 64) (d := 67)
    · exact rfl
    · intro hg64
      refine WL.q (y_move rfl) (Wt.yes rfl rfl rfl) rfl rfl ?_
      refine WL.q (y_eql rfl rfl) (Wt.yes rfl rfl rfl) rfl rfl ?_
      refine WL.q (y_pick_t rfl rfl) (Wt.none rfl) rfl rfl ?_
      exact WL.nil ⟨rfl, [_, _, _], rfl, rfl, rfl⟩
    · refine WL.skips 2 rfl ?_
      refine WL.q (y_pick_f rfl rfl) (Wt.none rfl) rfl rfl ?_
      exact WL.nil ⟨rfl, [_, _, _], rfl, rfl, rfl⟩
    refine WL.q (y_move rfl) (Wt.none rfl) rfl rfl ?_
    apply WL.and 3 (t := 68) (d := 71)
    · exact rfl
    · intro hg68
      refine WL.q (y_move rfl) (Wt.yes rfl rfl rfl) rfl rfl ?_
      refine WL.q (y_eql rfl rfl) (Wt.yes rfl rfl rfl) rfl rfl ?_
      refine WL.q (y_pick_t rfl rfl) (Wt.none rfl) rfl rfl ?_
      exact WL.nil ⟨rfl, [_, _, _], rfl, rfl, rfl⟩
    · refine WL.skips 2 rfl ?_
      refine WL.q (y_pick_f rfl rfl) (Wt.none rfl) rfl rfl ?_
      exact WL.nil ⟨rfl, [_, _, _], rfl, rfl, rfl⟩
    refine WL.q (y_move rfl) (Wt.none rfl) rfl rfl ?_
    replace h := bindS h
    obtain ⟨b176, hb176, h⟩ := h
    apply WL.grp 2 (t := 72) (d := 74) (z := b176)
    · exact rfl
    · intro hg72
      have h := condT hb176 hg72
      replace h := bindS h
      obtain ⟨r177, hr177, h⟩ := h
      refine WL.fn rfl rfl rfl rfl (f20_c hr177) trivial (Wt.yes rfl rfl rfl) rfl rfl ?_
      refine WL.q (y_pick_t rfl rfl) (Wt.none rfl) rfl rfl ?_
      obtain rfl := Option.some.inj h
      exact WL.nil ⟨rfl, [_, _], rfl, rfl, rfl⟩
    · intro hg72
      have h := condF hb176 hg72
      refine WL.skips 1 rfl ?_
      refine WL.q (y_pick_f rfl rfl) (Wt.none rfl) rfl rfl ?_
      obtain rfl := Option.some.inj h
      exact WL.nil ⟨rfl, [_, _], rfl, rfl, rfl⟩
    refine WL.q (y_assign rfl) (Wt.none rfl) rfl rfl ?_
    refine WL.nil ?_
    refine we_seq ?_
    refine wc_ret ?_
    refine we_seq_ret ?_
    obtain rfl := Option.some.inj h
    exact we_ret_fn (rs1 rfl (rv_t rfl)) (Le.refl _)
  · replace h := condF h hc1
    refine wc_skip ?_
    refine we_seq ?_
    refine wc_seq ?_
    refine wc_seq ?_
    refine wc_region ?_
    refine WL.q (y_move rfl) (Wt.none rfl) rfl rfl ?_
    refine WL.q (y_eql rfl rfl) (Wt.none rfl) rfl rfl ?_
    refine WL.q (y_move rfl) (Wt.none rfl) rfl rfl ?_
    apply WL.and 3 (t := 77) (d := 80)
    · exact rfl
    · intro hg77
      refine WL.q (y_move rfl) (Wt.yes rfl rfl rfl) rfl rfl ?_
      refine WL.q (y_eql rfl rfl) (Wt.yes rfl rfl rfl) rfl rfl ?_
      refine WL.q (y_pick_t rfl rfl) (Wt.none rfl) rfl rfl ?_
      exact WL.nil ⟨rfl, [_, _, _], rfl, rfl, rfl⟩
    · refine WL.skips 2 rfl ?_
      refine WL.q (y_pick_f rfl rfl) (Wt.none rfl) rfl rfl ?_
      exact WL.nil ⟨rfl, [_, _, _], rfl, rfl, rfl⟩
    refine WL.nil ?_
    refine we_seq ?_
    refine wc_cond rfl (fun hc2 => ?_) (fun hc2 => ?_)
    · replace h := condT h hc2
      refine wc_seq ?_
      refine wc_region ?_
      refine WL.q (y_move rfl) (Wt.none rfl) rfl rfl ?_
      refine WL.q (y_not rfl) (Wt.none rfl) rfl rfl ?_
      refine WL.q (y_move rfl) (Wt.none rfl) rfl rfl ?_
      apply WL.and 3 (t := 83) (d := 86)
      · exact rfl
      · intro hg83
        refine WL.q (y_move rfl) (Wt.yes rfl rfl rfl) rfl rfl ?_
        refine WL.q (y_eql rfl rfl) (Wt.yes rfl rfl rfl) rfl rfl ?_
        refine WL.q (y_pick_t rfl rfl) (Wt.none rfl) rfl rfl ?_
        exact WL.nil ⟨rfl, [_, _, _], rfl, rfl, rfl⟩
      · refine WL.skips 2 rfl ?_
        refine WL.q (y_pick_f rfl rfl) (Wt.none rfl) rfl rfl ?_
        exact WL.nil ⟨rfl, [_, _, _], rfl, rfl, rfl⟩
      refine WL.q (y_move rfl) (Wt.none rfl) rfl rfl ?_
      apply WL.and 2 (t := 87) (d := 89)
      · exact rfl
      · intro hg87
        refine WL.q (y_move rfl) (Wt.yes rfl rfl rfl) rfl rfl ?_
        refine WL.q (y_pick_t rfl rfl) (Wt.none rfl) rfl rfl ?_
        exact WL.nil ⟨rfl, [_, _], rfl, rfl, rfl⟩
      · refine WL.skips 1 rfl ?_
        refine WL.q (y_pick_f rfl rfl) (Wt.none rfl) rfl rfl ?_
        exact WL.nil ⟨rfl, [_, _], rfl, rfl, rfl⟩
      refine WL.q (y_move rfl) (Wt.none rfl) rfl rfl ?_
      apply WL.and 3 (t := 90) (d := 93)
      · exact rfl
      · intro hg90
        refine WL.q (y_move rfl) (Wt.yes rfl rfl rfl) rfl rfl ?_
        refine WL.q (y_eql rfl rfl) (Wt.yes rfl rfl rfl) rfl rfl ?_
        refine WL.q (y_pick_t rfl rfl) (Wt.none rfl) rfl rfl ?_
        exact WL.nil ⟨rfl, [_, _, _], rfl, rfl, rfl⟩
      · refine WL.skips 2 rfl ?_
        refine WL.q (y_pick_f rfl rfl) (Wt.none rfl) rfl rfl ?_
        exact WL.nil ⟨rfl, [_, _, _], rfl, rfl, rfl⟩
      refine WL.q (y_move rfl) (Wt.none rfl) rfl rfl ?_
      apply WL.and 2 (t := 94) (d := 96)
      · exact rfl
      · intro hg94
        refine WL.q (y_move rfl) (Wt.yes rfl rfl rfl) rfl rfl ?_
        refine WL.q (y_pick_t rfl rfl) (Wt.none rfl) rfl rfl ?_
        exact WL.nil ⟨rfl, [_, _], rfl, rfl, rfl⟩
      · refine WL.skips 1 rfl ?_
        refine WL.q (y_pick_f rfl rfl) (Wt.none rfl) rfl rfl ?_
        exact WL.nil ⟨rfl, [_, _], rfl, rfl, rfl⟩
      refine WL.q (y_move rfl) (Wt.none rfl) rfl rfl ?_
      apply WL.and 3 (t := 97) (d := 100)
      · exact rfl
      · intro hg97
        refine WL.q (y_move rfl) (Wt.yes rfl rfl rfl) rfl rfl ?_
        refine WL.q (y_eql rfl rfl) (Wt.yes rfl rfl rfl) rfl rfl ?_
        refine WL.q (y_pick_t rfl rfl) (Wt.none rfl) rfl rfl ?_
        exact WL.nil ⟨rfl, [_, _, _], rfl, rfl, rfl⟩
      · refine WL.skips 2 rfl ?_
        refine WL.q (y_pick_f rfl rfl) (Wt.none rfl) rfl rfl ?_
        exact WL.nil ⟨rfl, [_, _, _], rfl, rfl, rfl⟩
      refine WL.q (y_move rfl) (Wt.none rfl) rfl rfl ?_
      replace h := bindS h
      obtain ⟨b178, hb178, h⟩ := h
      apply WL.grp 2 (t := 101) (d := 103) (z := b178)
      · exact rfl
      · intro hg101
        have h := condT hb178 hg101
        replace h := bindS h
        obtain ⟨r179, hr179, h⟩ := h
        refine WL.fn rfl rfl rfl rfl (f20_c hr179) trivial (Wt.yes rfl rfl rfl) rfl rfl ?_
        refine WL.q (y_pick_t rfl rfl) (Wt.none rfl) rfl rfl ?_
        obtain rfl := Option.some.inj h
        exact WL.nil ⟨rfl, [_, _], rfl, rfl, rfl⟩
      · intro hg101
        have h := condF hb178 hg101
        refine WL.skips 1 rfl ?_
        refine WL.q (y_pick_f rfl rfl) (Wt.none rfl) rfl rfl ?_
        obtain rfl := Option.some.inj h
        exact WL.nil ⟨rfl, [_, _], rfl, rfl, rfl⟩
      refine WL.q (y_assign rfl) (Wt.none rfl) rfl rfl ?_
      refine WL.nil ?_
      refine we_seq ?_
      refine wc_ret ?_
      refine we_seq_ret ?_
      obtain rfl := Option.some.inj h
      exact we_ret_fn (rs1 rfl (rv_t rfl)) (Le.refl _)
    · replace h := condF h hc2
      refine wc_skip ?_
      refine we_seq ?_
      refine wc_seq ?_
      refine wc_region ?_
      refine WL.q (y_move rfl) (Wt.none rfl) rfl rfl ?_
      refine WL.q (y_move rfl) (Wt.none rfl) rfl rfl ?_
      refine WL.q (y_neg rfl rfl) (Wt.none rfl) rfl rfl ?_
      refine WL.q (y_max rfl rfl rfl) (Wt.none rfl) rfl rfl ?_
      refine WL.q (y_assign rfl) (Wt.none rfl) rfl rfl ?_
      refine WL.nil ?_
      refine we_seq ?_
      refine wc_seq ?_
      refine wc_region ?_
      refine WL.q (y_move rfl) (Wt.none rfl) rfl rfl ?_
      refine WL.q (y_neg rfl rfl) (Wt.none rfl) rfl rfl ?_
      refine WL.q (y_move rfl) (Wt.none rfl) rfl rfl ?_
      refine WL.q (y_lss rfl rfl) (Wt.none rfl) rfl rfl ?_
      refine WL.q (y_move rfl) (Wt.none rfl) rfl rfl ?_
      apply WL.and 4 (t := 112) (d := 116)
      · exact rfl
      · intro hg112
        refine WL.q (y_move rfl) (Wt.yes rfl rfl rfl) rfl rfl ?_
        refine WL.q (y_move rfl) (Wt.yes rfl rfl rfl) rfl rfl ?_
        refine WL.q (y_lss rfl rfl) (Wt.yes rfl rfl rfl) rfl rfl ?_
        refine WL.q (y_pick_t rfl rfl) (Wt.none rfl) rfl rfl ?_
        exact WL.nil ⟨rfl, [_, _, _, _], rfl, rfl, rfl⟩
      · refine WL.skips 3 rfl ?_
        refine WL.q (y_pick_f rfl rfl) (Wt.none rfl) rfl rfl ?_
        exact WL.nil ⟨rfl, [_, _, _, _], rfl, rfl, rfl⟩
      refine WL.q (y_move rfl) (Wt.none rfl) rfl rfl ?_
      apply WL.and 5 (t := 117) (d := 122)
      · exact rfl
      · intro hg117
        refine WL.q (y_move rfl) (Wt.yes rfl rfl rfl) rfl rfl ?_
        refine WL.q (y_neg rfl rfl) (Wt.yes rfl rfl rfl) rfl rfl ?_
        refine WL.q (y_move rfl) (Wt.yes rfl rfl rfl) rfl rfl ?_
        refine WL.q (y_lss rfl rfl) (Wt.yes rfl rfl rfl) rfl rfl ?_
        refine WL.q (y_pick_t rfl rfl) (Wt.none rfl) rfl rfl ?_
        exact WL.nil ⟨rfl, [_, _, _, _, _], rfl, rfl, rfl⟩
      · refine WL.skips 4 rfl ?_
        refine WL.q (y_pick_f rfl rfl) (Wt.none rfl) rfl rfl ?_
        exact WL.nil ⟨rfl, [_, _, _, _, _], rfl, rfl, rfl⟩
      refine WL.q (y_move rfl) (Wt.none rfl) rfl rfl ?_
      apply WL.and 4 (t := 123) (d := 127)
      · exact rfl
      · intro hg123
        refine WL.q (y_move rfl) (Wt.yes rfl rfl rfl) rfl rfl ?_
        refine WL.q (y_move rfl) (Wt.yes rfl rfl rfl) rfl rfl ?_
        refine WL.q (y_lss rfl rfl) (Wt.yes rfl rfl rfl) rfl rfl ?_
        refine WL.q (y_pick_t rfl rfl) (Wt.none rfl) rfl rfl ?_
        exact WL.nil ⟨rfl, [_, _, _, _], rfl, rfl, rfl⟩
      · refine WL.skips 3 rfl ?_
        refine WL.q (y_pick_f rfl rfl) (Wt.none rfl) rfl rfl ?_
        exact WL.nil ⟨rfl, [_, _, _, _], rfl, rfl, rfl⟩
      refine WL.q (y_assign rfl) (Wt.none rfl) rfl rfl ?_
      refine WL.nil ?_
      refine we_seq ?_
      refine wc_seq ?_
      refine wc_region ?_
      refine WL.q (y_move rfl) (Wt.none rfl) rfl rfl ?_
      refine WL.q (y_move rfl) (Wt.none rfl) rfl rfl ?_
      apply WL.and 2 (t := 129) (d := 131)
      · exact rfl
      · intro hg129
        refine WL.q (y_move rfl) (Wt.yes rfl rfl rfl) rfl rfl ?_
        refine WL.q (y_pick_t rfl rfl) (Wt.none rfl) rfl rfl ?_
        exact WL.nil ⟨rfl, [_, _], rfl, rfl, rfl⟩
      · refine WL.skips 1 rfl ?_
        refine WL.q (y_pick_f rfl rfl) (Wt.none rfl) rfl rfl ?_
        exact WL.nil ⟨rfl, [_, _], rfl, rfl, rfl⟩
      refine WL.q (y_move rfl) (Wt.none rfl) rfl rfl ?_
      apply WL.and 2 (t := 132) (d := 134)
      · exact rfl
      · intro hg132
        refine WL.q (y_move rfl) (Wt.yes rfl rfl rfl) rfl rfl ?_
        refine WL.q (y_pick_t rfl rfl) (Wt.none rfl) rfl rfl ?_
        exact WL.nil ⟨rfl, [_, _], rfl, rfl, rfl⟩
      · refine WL.skips 1 rfl ?_
        refine WL.q (y_pick_f rfl rfl) (Wt.none rfl) rfl rfl ?_
        exact WL.nil ⟨rfl, [_, _], rfl, rfl, rfl⟩
      refine WL.q (y_move rfl) (Wt.none rfl) rfl rfl ?_
      apply WL.and 8 (t := 135) (d := 143)
      · exact rfl
      · intro hg135
        refine WL.q (y_move rfl) (Wt.yes rfl rfl rfl) rfl rfl ?_
        refine WL.q (y_move rfl) (Wt.yes rfl rfl rfl) rfl rfl ?_
        refine WL.q (y_mul rfl rfl rfl) (Wt.yes rfl rfl rfl) rfl rfl ?_
        refine WL.q (y_move rfl) (Wt.yes rfl rfl rfl) rfl rfl ?_
        refine WL.q (y_add rfl rfl rfl) (Wt.yes rfl rfl rfl) rfl rfl ?_
        refine WL.q (y_move rfl) (Wt.yes rfl rfl rfl) rfl rfl ?_
        refine WL.q (y_eql rfl rfl) (Wt.yes rfl rfl rfl) rfl rfl ?_
        refine WL.q (y_pick_t rfl rfl) (Wt.none rfl) rfl rfl ?_
        exact WL.nil ⟨rfl, [_, _, _, _, _, _, _, _], rfl, rfl, rfl⟩
      · refine WL.skips 7 rfl ?_
        refine WL.q (y_pick_f rfl rfl) (Wt.none rfl) rfl rfl ?_
        exact WL.nil ⟨rfl, [_, _, _, _, _, _, _, _], rfl, rfl, rfl⟩
      refine WL.q (y_move rfl) (Wt.none rfl) rfl rfl ?_
      apply WL.and 2 (t := 144) (d := 146)
      · exact rfl
      · intro hg144
        refine WL.q (y_move rfl) (Wt.yes rfl rfl rfl) rfl rfl ?_
        refine WL.q (y_pick_t rfl rfl) (Wt.none rfl) rfl rfl ?_
        exact WL.nil ⟨rfl, [_, _], rfl, rfl, rfl⟩
      · refine WL.skips 1 rfl ?_
        refine WL.q (y_pick_f rfl rfl) (Wt.none rfl) rfl rfl ?_
        exact WL.nil ⟨rfl, [_, _], rfl, rfl, rfl⟩
      refine WL.q (y_move rfl) (Wt.none rfl) rfl rfl ?_
      apply WL.and 5 (t := 147) (d := 152)
      · exact rfl
      · intro hg147
        refine WL.q (y_move rfl) (Wt.yes rfl rfl rfl) rfl rfl ?_
        refine WL.q (y_move rfl) (Wt.yes rfl rfl rfl) rfl rfl ?_
        refine WL.q (y_mul rfl rfl rfl) (Wt.yes rfl rfl rfl) rfl rfl ?_
        refine WL.q (y_geq rfl rfl) (Wt.yes rfl rfl rfl) rfl rfl ?_
        refine WL.q (y_pick_t rfl rfl) (Wt.none rfl) rfl rfl ?_
        exact WL.nil ⟨rfl, [_, _, _, _, _], rfl, rfl, rfl⟩
      · refine WL.skips 4 rfl ?_
        refine WL.q (y_pick_f rfl rfl) (Wt.none rfl) rfl rfl ?_
        exact WL.nil ⟨rfl, [_, _, _, _, _], rfl, rfl, rfl⟩
      refine WL.q (y_move rfl) (Wt.none rfl) rfl rfl ?_
      apply WL.and 5 (t := 153) (d := 158)
      · exact rfl
      · intro hg153
        refine WL.q (y_move rfl) (Wt.yes rfl rfl rfl) rfl rfl ?_
        refine WL.q (y_move rfl) (Wt.yes rfl rfl rfl) rfl rfl ?_
        refine WL.q (y_mul rfl rfl rfl) (Wt.yes rfl rfl rfl) rfl rfl ?_
        refine WL.q (y_geq rfl rfl) (Wt.yes rfl rfl rfl) rfl rfl ?_
        refine WL.q (y_pick_t rfl rfl) (Wt.none rfl) rfl rfl ?_
        exact WL.nil ⟨rfl, [_, _, _, _, _], rfl, rfl, rfl⟩
      · refine WL.skips 4 rfl ?_
        refine WL.q (y_pick_f rfl rfl) (Wt.none rfl) rfl rfl ?_
        exact WL.nil ⟨rfl, [_, _, _, _, _], rfl, rfl, rfl⟩
      refine WL.q (y_move rfl) (Wt.none rfl) rfl rfl ?_
      replace h := bindS h
      obtain ⟨b180, hb180, h⟩ := h
      apply WL.grp 7 (t := 159) (d := 166) (z := b180)
      · exact rfl
      · intro hg159
        have h := condT hb180 hg159
        refine WL.q (y_move rfl) (Wt.yes rfl rfl rfl) rfl rfl ?_
        refine WL.q (y_move rfl) (Wt.yes rfl rfl rfl) rfl rfl ?_
        refine WL.q (y_sub rfl rfl rfl) (Wt.yes rfl rfl rfl) rfl rfl ?_
        refine WL.q (y_move rfl) (Wt.yes rfl rfl rfl) rfl rfl ?_
        replace h := guardBS h
        obtain ⟨hgg181, h⟩ := h
        refine WL.q (y_rem rfl rfl (nz_ne hgg181)) (Wt.yes rfl rfl rfl) rfl rfl ?_
        refine WL.q (y_eql rfl rfl) (Wt.yes rfl rfl rfl) rfl rfl ?_
        refine WL.q (y_pick_t rfl rfl) (Wt.none rfl) rfl rfl ?_
        obtain rfl := Option.some.inj h
        exact WL.nil ⟨rfl, [_, _, _, _, _, _, _], rfl, rfl, rfl⟩
      · intro hg159
        have h := condF hb180 hg159
        refine WL.skips 6 rfl ?_
        refine WL.q (y_pick_f rfl rfl) (Wt.none rfl) rfl rfl ?_
        obtain rfl := Option.some.inj h
        exact WL.nil ⟨rfl, [_, _, _, _, _, _, _], rfl, rfl, rfl⟩
      refine WL.q (y_move rfl) (Wt.none rfl) rfl rfl ?_
      replace h := bindS h
      obtain ⟨b182, hb182, h⟩ := h
      apply WL.grp 2 (t := 167) (d := 169) (z := b182)
      · exact rfl
      · intro hg167
        have h := condT hb182 hg167
        replace h := bindS h
        obtain ⟨r183, hr183, h⟩ := h
        refine WL.fn rfl rfl rfl rfl (f20_c hr183) trivial (Wt.yes rfl rfl rfl) rfl rfl ?_
        refine WL.q (y_pick_t rfl rfl) (Wt.none rfl) rfl rfl ?_
        obtain rfl := Option.some.inj h
        exact WL.nil ⟨rfl, [_, _], rfl, rfl, rfl⟩
      · intro hg167
        have h := condF hb182 hg167
        refine WL.skips 1 rfl ?_
        refine WL.q (y_pick_f rfl rfl) (Wt.none rfl) rfl rfl ?_
        obtain rfl := Option.some.inj h
        exact WL.nil ⟨rfl, [_, _], rfl, rfl, rfl⟩
      refine WL.q (y_assign rfl) (Wt.none rfl) rfl rfl ?_
      refine WL.nil ?_
      refine we_seq ?_
      refine wc_ret ?_
      obtain rfl := Option.some.inj h
      exact we_ret_fn (rs1 rfl (rv_t rfl)) (Le.refl _)

theorem f8_c (s0 : List (List Int)) (counts1 : List Int) (a2 : CE) (b3 : CE) (c4 : CE) {r : Bool} (h : f8 s0 counts1 a2 b3 c4 = some r) : Pu Try.prog 8 [.sl (List.map E56 s0), .sl (List.map E3 counts1), .ag (R26 a2), .ag (R26 b3), .ag (R26 c4)] (.b r) := by
  unfold f8 at h
  refine fn_intro Try.func8 (by kernel_rfl) rfl rfl rfl (fun φφ ww => ?_)
  refine wc_seq ?_
  refine wc_region ?_
  refine WL.s ((b_box rfl rfl).does) (Wt.none rfl) rfl rfl ?_
  refine WL.s ((b_box rfl rfl).does) (Wt.none rfl) rfl rfl ?_
  refine WL.s ((b_box rfl rfl).does) (Wt.none rfl) rfl rfl ?_
  refine WL.q (y_assign rfl) (Wt.none rfl) rfl rfl ?_
  refine WL.nil ?_
  refine we_seq ?_
  refine wc_seq ?_
  refine wc_region ?_
  refine WL.q (y_assign rfl) (Wt.none rfl) rfl rfl ?_
  refine WL.nil ?_
  refine we_seq ?_
  replace h := letkS h
  obtain ⟨k113, hk113, h⟩ := h
  refine wc_cut (fun env' st' => k113 () = some r ∧ Sub [] env' ∧ SLe st' [.row 26 [.d (D.i .u8 a2.kind), .d (D.i .u8 a2.op), .d (D.i .i64 a2.n), .d (D.i .i64 a2.o), .d (D.i .i64 a2.off), .d (D.i .i64 a2.len), .d (D.i .i64 a2.lo), .d (D.i .i64 a2.hi), .d (.sl (List.map E26 a2.l))], .row 26 [.d (D.i .u8 b3.kind), .d (D.i .u8 b3.op), .d (D.i .i64 b3.n), .d (D.i .i64 b3.o), .d (D.i .i64 b3.off), .d (D.i .i64 b3.len), .d (D.i .i64 b3.lo), .d (D.i .i64 b3.hi), .d (.sl (List.map E26 b3.l))], .row 26 [.d (D.i .u8 c4.kind), .d (D.i .u8 c4.op), .d (D.i .i64 c4.n), .d (D.i .i64 c4.o), .d (D.i .i64 c4.off), .d (D.i .i64 c4.len), .d (D.i .i64 c4.lo), .d (D.i .i64 c4.hi), .d (.sl (List.map E26 c4.l))]]) ?_ ?_
  · refine wc_seq ?_
    apply wc_region_all [_, _, _, _, _, _, _, _, _, _, _, _, _, _, _, _, _, _, _, _, _, _, _, _, _, _, _, _, _, _, _, _, _, _, _, _, _, _, _, _, _, _, _, _, _, _, _, _, _, _] [[], [], [], [1, 2], [1, 2, 3], [0, 1, 2, 3, 4], [], [], [0, 1, 2, 3, 4, 5, 6, 7], [], [], [0, 1, 2, 3, 4, 5, 6, 7, 8, 9, 10], [0, 1, 2, 3, 4, 5, 6, 7, 8, 9, 10, 11], [0, 1, 2, 3, 4, 5, 6, 7, 8, 9, 10, 11, 12], [0, 1, 2, 3, 4, 5, 6, 7, 8, 9, 10, 11, 12, 13], [], [], [], [16, 17], [0, 1, 2, 3, 4, 5, 6, 7, 8, 9, 10, 11, 12, 13, 16, 17, 18], [0, 1, 2, 3, 4, 5, 6, 7, 8, 9, 10, 11, 12, 13, 15, 16, 17, 18, 19], [], [], [0, 1, 2, 3, 4, 5, 6, 7, 8, 9, 10, 11, 12, 13, 15, 16, 17, 18, 19, 20, 21, 22], [], [], [0, 1, 2, 3, 4, 5, 6, 7, 8, 9, 10, 11, 12, 13, 15, 16, 17, 18, 19, 20, 21, 22, 23, 24, 25], [0, 1, 2, 3, 4, 5, 6, 7, 8, 9, 10, 11, 12, 13, 15, 16, 17, 18, 19, 20, 21, 22, 23, 24, 25, 26], [0, 1, 2, 3, 4, 5, 6, 7, 8, 9, 10, 11, 12, 13, 15, 16, 17, 18, 19, 20, 21, 22, 23, 24, 25, 26, 27], [0, 1, 2, 3, 4, 5, 6, 7, 8, 9, 10, 11, 12, 13, 15, 16, 17, 18, 19, 20, 21, 22, 23, 24, 25, 26, 27, 28], [], [], [], [], [31, 32, 33], [0, 1, 2, 3, 4, 5, 6, 7, 8, 9, 10, 11, 12, 13, 15, 16, 17, 18, 19, 20, 21, 22, 23, 24, 25, 26, 27, 28, 31, 32, 33, 34], [0, 1, 2, 3, 4, 5, 6, 7, 8, 9, 10, 11, 12, 13, 15, 16, 17, 18, 19, 20, 21, 22, 23, 24, 25, 26, 27, 28, 30, 31, 32, 33, 34, 35], [], [], [], [0, 1, 2, 3, 4, 5, 6, 7, 8, 9, 10, 11, 12, 13, 15, 16, 17, 18, 19, 20, 21, 22, 23, 24, 25, 26, 27, 28, 30, 31, 32, 33, 34, 35, 36, 38, 39], [], [], [0, 1, 2, 3, 4, 5, 6, 7, 8, 9, 10, 11, 12, 13, 15, 16, 17, 18, 19, 20, 21, 22, 23, 24, 25, 26, 27, 28, 30, 31, 32, 33, 34, 35, 36, 38, 39, 40, 41, 42], [0, 1, 2, 3, 4, 5, 6, 7, 8, 9, 10, 11, 12, 13, 15, 16, 17, 18, 19, 20, 21, 22, 23, 24, 25, 26, 27, 28, 30, 31, 32, 33, 34, 35, 36, 37, 38, 39, 40, 41, 42, 43], [0, 1, 2, 3, 4, 5, 6, 7, 8, 9, 10, 11, 12, 13, 15, 16, 17, 18, 19, 20, 21, 22, 23, 24, 25, 26, 27, 28, 30, 31, 32, 33, 34, 35, 36, 37, 38, 39, 40, 41, 42, 43, 44], [0, 1, 2, 3, 4, 5, 6, 7, 8, 9, 10, 11, 12, 13, 15, 16, 17, 18, 19, 20, 21, 22, 23, 24, 25, 26, 27, 28, 30, 31, 32, 33, 34, 35, 36, 37, 38, 39, 40, 41, 42, 43, 44, 45], [0, 1, 2, 3, 4, 5, 6, 7, 8, 9, 10, 11, 12, 13, 14, 15, 16, 17, 18, 19, 20, 21, 22, 23, 24, 25, 26, 27, 28, 29, 30, 31, 32, 33, 34, 35, 36, 37, 38, 39, 40, 41, 42, 43, 44, 45, 46], [0, 1, 2, 3, 4, 5, 6, 7, 8, 9, 10, 11, 12, 13, 14, 15, 16, 17, 18, 19, 20, 21, 22, 23, 24, 25, 26, 27, 28, 29, 30, 31, 32, 33, 34, 35, 36, 37, 38, 39, 40, 41, 42, 43, 44, 45, 46, 47], []] [] (fun c => List.getD [[.row 26 [.d (D.i .u8 a2.kind), .d (D.i .u8 a2.op), .d (D.i .i64 a2.n), .d (D.i .i64 a2.o), .d (D.i .i64 a2.off), .d (D.i .i64 a2.len), .d (D.i .i64 a2.lo), .d (D.i .i64 a2.hi), .d (.sl (List.map E26 a2.l))], .row 26 [.d (D.i .u8 b3.kind), .d (D.i .u8 b3.op), .d (D.i .i64 b3.n), .d (D.i .i64 b3.o), .d (D.i .i64 b3.off), .d (D.i .i64 b3.len), .d (D.i .i64 b3.lo), .d (D.i .i64 b3.hi), .d (.sl (List.map E26 b3.l))], .row 26 [.d (D.i .u8 c4.kind), .d (D.i .u8 c4.op), .d (D.i .i64 c4.n), .d (D.i .i64 c4.o), .d (D.i .i64 c4.off), .d (D.i .i64 c4.len), .d (D.i .i64 c4.lo), .d (D.i .i64 c4.hi), .d (.sl (List.map E26 c4.l))]]] c []) [([], [11], [0]), ([], [7], [0]), ([], [8], [0]), ([1, 2], [], [0]), ([3], [], [0]), ([0, 4], [], [0]), ([], [11], [0]), ([], [7], [0]), ([6, 7], [], [0]), ([], [11], [0]), ([], [8], [0]), ([9, 10], [], [0]), ([8, 11], [], [0]), ([12], [], [0]), ([5, 13], [], [0]), ([], [11], [0]), ([], [7], [0]), ([], [8], [0]), ([16, 17], [], [0]), ([18], [], [0]), ([15, 19], [], [0]), ([], [11], [0]), ([], [7], [0]), ([21, 22], [], [0]), ([], [11], [0]), ([], [8], [0]), ([24, 25], [], [0]), ([23, 26], [], [0]), ([27], [], [0]), ([20, 28], [], [0]), ([], [11], [0]), ([], [7], [0]), ([], [8], [0]), ([], [9], [0]), ([31, 32, 33], [], [0]), ([34], [], [0]), ([30, 35], [], [0]), ([], [7], [0]), ([], [11], [0]), ([], [8], [0]), ([38, 39], [], [0]), ([], [11], [0]), ([], [9], [0]), ([41, 42], [], [0]), ([37, 40, 43], [], [0]), ([44], [], [0]), ([36, 45], [], [0]), ([14, 29, 46], [], [0]), ([47], [], [0]), ([], [], [0])] (by kernel_rfl) (by kernel_rfl) rfl rfl rfl
    · refine ⟨?_, ?_, ?_, ?_, ?_, ?_, ?_, ?_, ?_, ?_, ?_, ?_, ?_, ?_, ?_, ?_, ?_, ?_, ?_, ?_, ?_, ?_, ?_, ?_, ?_, ?_, ?_, ?_, ?_, ?_, ?_, ?_, ?_, ?_, ?_, ?_, ?_, ?_, ?_, ?_, ?_, ?_, ?_, ?_, ?_, ?_, ?_, ?_, ?_, ?_, trivial⟩
      · refine ⟨fun F => ?_, trivial⟩
        refine WL.q (y_move rfl) (Wt.none rfl) rfl rfl ?_
        exact WL.done1 rfl rfl rfl
      · refine ⟨fun F => ?_, trivial⟩
        refine WL.q (y_loadN rfl rfl a26 s26 rfl) (Wt.none rfl) rfl rfl ?_
        exact WL.done1 rfl rfl rfl
      · refine ⟨fun F => ?_, trivial⟩
        refine WL.q (y_loadN rfl rfl a26 s26 rfl) (Wt.none rfl) rfl rfl ?_
        exact WL.done1 rfl rfl rfl
      · refine ⟨fun F => ?_, trivial⟩
        refine WL.s ((NewOs.data (n_buildSlice l24 z26 rfl (by decide) (by decide) rfl rfl rfl (by decide)) (by exact encA_map E26_eq [a2, b3])).does) (Wt.none rfl) rfl rfl ?_
        exact WL.done1 rfl rfl rfl
      · refine ⟨fun F => ?_, trivial⟩
        refine WL.fn rfl rfl rfl rfl (f23_c _ _) ⟨(Le.refl _), (Le.refl _), trivial⟩ (Wt.none rfl) rfl rfl ?_
        exact WL.done1 rfl rfl rfl
      · refine ⟨fun F => ?_, trivial⟩
        refine WL.fn rfl rfl rfl rfl (f28_c _) ⟨(Le.refl _), trivial⟩ (Wt.none rfl) rfl rfl ?_
        exact WL.done1 rfl rfl rfl
      · refine ⟨fun F => ?_, trivial⟩
        refine WL.q (y_move rfl) (Wt.none rfl) rfl rfl ?_
        exact WL.done1 rfl rfl rfl
      · refine ⟨fun F => ?_, trivial⟩
        refine WL.q (y_loadN rfl rfl a26 s26 rfl) (Wt.none rfl) rfl rfl ?_
        exact WL.done1 rfl rfl rfl
      · refine ⟨fun F => ?_, trivial⟩
        refine WL.fn rfl rfl rfl rfl (f28_c _) ⟨(Le.agd ⟨(Le.refl _), (Le.refl _), (Le.refl _), (Le.refl _), (Le.refl _), (Le.refl _), (Le.refl _), (Le.refl _), (Le.refl _), trivial⟩), trivial⟩ (Wt.none rfl) rfl rfl ?_
        exact WL.done1 rfl rfl rfl
      · refine ⟨fun F => ?_, trivial⟩
        refine WL.q (y_move rfl) (Wt.none rfl) rfl rfl ?_
        exact WL.done1 rfl rfl rfl
      · refine ⟨fun F => ?_, trivial⟩
        refine WL.q (y_loadN rfl rfl a26 s26 rfl) (Wt.none rfl) rfl rfl ?_
        exact WL.done1 rfl rfl rfl
      · refine ⟨fun F => ?_, trivial⟩
        refine WL.fn rfl rfl rfl rfl (f28_c _) ⟨(Le.agd ⟨(Le.refl _), (Le.refl _), (Le.refl _), (Le.refl _), (Le.refl _), (Le.refl _), (Le.refl _), (Le.refl _), (Le.refl _), trivial⟩), trivial⟩ (Wt.none rfl) rfl rfl ?_
        exact WL.done1 rfl rfl rfl
      · refine ⟨fun F => ?_, trivial⟩
        refine WL.s ((NewOs.data (n_buildSlice l24 z26 rfl (by decide) (by decide) rfl rfl rfl (by decide)) (by exact encA_map E26_eq [(f28 a2), (f28 b3)])).does) (Wt.none rfl) rfl rfl ?_
        exact WL.done1 rfl rfl rfl
      · refine ⟨fun F => ?_, trivial⟩
        refine WL.fn rfl rfl rfl rfl (f23_c _ _) ⟨(Le.refl _), (Le.refl _), trivial⟩ (Wt.none rfl) rfl rfl ?_
        exact WL.done1 rfl rfl rfl
      · refine ⟨fun F => ?_, trivial⟩
        refine WL.q (y_buildA r48 z48 rfl rfl) (Wt.none rfl) rfl rfl ?_
        exact WL.done1 rfl rfl rfl
      · refine ⟨fun F => ?_, trivial⟩
        refine WL.q (y_move rfl) (Wt.none rfl) rfl rfl ?_
        exact WL.done1 rfl rfl rfl
      · refine ⟨fun F => ?_, trivial⟩
        refine WL.q (y_loadN rfl rfl a26 s26 rfl) (Wt.none rfl) rfl rfl ?_
        exact WL.done1 rfl rfl rfl
      · refine ⟨fun F => ?_, trivial⟩
        refine WL.q (y_loadN rfl rfl a26 s26 rfl) (Wt.none rfl) rfl rfl ?_
        exact WL.done1 rfl rfl rfl
      · refine ⟨fun F => ?_, trivial⟩
        refine WL.s ((NewOs.data (n_buildSlice l24 z26 rfl (by decide) (by decide) rfl rfl rfl (by decide)) (by exact encA_map E26_eq [a2, b3])).does) (Wt.none rfl) rfl rfl ?_
        exact WL.done1 rfl rfl rfl
      · refine ⟨fun F => ?_, trivial⟩
        refine WL.fn rfl rfl rfl rfl (f23_c _ _) ⟨(Le.refl _), (Le.refl _), trivial⟩ (Wt.none rfl) rfl rfl ?_
        exact WL.done1 rfl rfl rfl
      · refine ⟨fun F => ?_, trivial⟩
        refine WL.fn rfl rfl rfl rfl (f28_c _) ⟨(Le.refl _), trivial⟩ (Wt.none rfl) rfl rfl ?_
        exact WL.done1 rfl rfl rfl
      · refine ⟨fun F => ?_, trivial⟩
        refine WL.q (y_move rfl) (Wt.none rfl) rfl rfl ?_
        exact WL.done1 rfl rfl rfl
      · refine ⟨fun F => ?_, trivial⟩
        refine WL.q (y_loadN rfl rfl a26 s26 rfl) (Wt.none rfl) rfl rfl ?_
        exact WL.done1 rfl rfl rfl
      · refine ⟨fun F => ?_, trivial⟩
        refine WL.fn rfl rfl rfl rfl (f28_c _) ⟨(Le.agd ⟨(Le.refl _), (Le.refl _), (Le.refl _), (Le.refl _), (Le.refl _), (Le.refl _), (Le.refl _), (Le.refl _), (Le.refl _), trivial⟩), trivial⟩ (Wt.none rfl) rfl rfl ?_
        exact WL.done1 rfl rfl rfl
      · refine ⟨fun F => ?_, trivial⟩
        refine WL.q (y_move rfl) (Wt.none rfl) rfl rfl ?_
        exact WL.done1 rfl rfl rfl
      · refine ⟨fun F => ?_, trivial⟩
        refine WL.q (y_loadN rfl rfl a26 s26 rfl) (Wt.none rfl) rfl rfl ?_
        exact WL.done1 rfl rfl rfl
      · refine ⟨fun F => ?_, trivial⟩
        refine WL.fn rfl rfl rfl rfl (f28_c _) ⟨(Le.agd ⟨(Le.refl _), (Le.refl _), (Le.refl _), (Le.refl _), (Le.refl _), (Le.refl _), (Le.refl _), (Le.refl _), (Le.refl _), trivial⟩), trivial⟩ (Wt.none rfl) rfl rfl ?_
        exact WL.done1 rfl rfl rfl
      · refine ⟨fun F => ?_, trivial⟩
        refine WL.s ((NewOs.data (n_buildSlice l24 z26 rfl (by decide) (by decide) rfl rfl rfl (by decide)) (by exact encA_map E26_eq [(f28 a2), (f28 b3)])).does) (Wt.none rfl) rfl rfl ?_
        exact WL.done1 rfl rfl rfl
      · refine ⟨fun F => ?_, trivial⟩
        refine WL.fn rfl rfl rfl rfl (f23_c _ _) ⟨(Le.refl _), (Le.refl _), trivial⟩ (Wt.none rfl) rfl rfl ?_
        exact WL.done1 rfl rfl rfl
      · refine ⟨fun F => ?_, trivial⟩
        refine WL.q (y_buildA r48 z48 rfl rfl) (Wt.none rfl) rfl rfl ?_
        exact WL.done1 rfl rfl rfl
      · refine ⟨fun F => ?_, trivial⟩
        refine WL.q (y_move rfl) (Wt.none rfl) rfl rfl ?_
        exact WL.done1 rfl rfl rfl
      · refine ⟨fun F => ?_, trivial⟩
        refine WL.q (y_loadN rfl rfl a26 s26 rfl) (Wt.none rfl) rfl rfl ?_
        exact WL.done1 rfl rfl rfl
      · refine ⟨fun F => ?_, trivial⟩
        refine WL.q (y_loadN rfl rfl a26 s26 rfl) (Wt.none rfl) rfl rfl ?_
        exact WL.done1 rfl rfl rfl
      · refine ⟨fun F => ?_, trivial⟩
        refine WL.q (y_loadN rfl rfl a26 s26 rfl) (Wt.none rfl) rfl rfl ?_
        exact WL.done1 rfl rfl rfl
      · refine ⟨fun F => ?_, trivial⟩
        refine WL.s ((NewOs.data (n_buildSlice l24 z26 rfl (by decide) (by decide) rfl rfl rfl (by decide)) (by exact encA_map E26_eq [a2, b3, c4])).does) (Wt.none rfl) rfl rfl ?_
        exact WL.done1 rfl rfl rfl
      · refine ⟨fun F => ?_, trivial⟩
        refine WL.fn rfl rfl rfl rfl (f23_c _ _) ⟨(Le.refl _), (Le.refl _), trivial⟩ (Wt.none rfl) rfl rfl ?_
        exact WL.done1 rfl rfl rfl
      · refine ⟨fun F => ?_, trivial⟩
        refine WL.fn rfl rfl rfl rfl (f28_c _) ⟨(Le.refl _), trivial⟩ (Wt.none rfl) rfl rfl ?_
        exact WL.done1 rfl rfl rfl
      · refine ⟨fun F => ?_, trivial⟩
        refine WL.q (y_loadN rfl rfl a26 s26 rfl) (Wt.none rfl) rfl rfl ?_
        exact WL.done1 rfl rfl rfl
      · refine ⟨fun F => ?_, trivial⟩
        refine WL.q (y_move rfl) (Wt.none rfl) rfl rfl ?_
        exact WL.done1 rfl rfl rfl
      · refine ⟨fun F => ?_, trivial⟩
        refine WL.q (y_loadN rfl rfl a26 s26 rfl) (Wt.none rfl) rfl rfl ?_
        exact WL.done1 rfl rfl rfl
      · refine ⟨fun F => ?_, trivial⟩
        refine WL.fn rfl rfl rfl rfl (f28_c _) ⟨(Le.agd ⟨(Le.refl _), (Le.refl _), (Le.refl _), (Le.refl _), (Le.refl _), (Le.refl _), (Le.refl _), (Le.refl _), (Le.refl _), trivial⟩), trivial⟩ (Wt.none rfl) rfl rfl ?_
        exact WL.done1 rfl rfl rfl
      · refine ⟨fun F => ?_, trivial⟩
        refine WL.q (y_move rfl) (Wt.none rfl) rfl rfl ?_
        exact WL.done1 rfl rfl rfl
      · refine ⟨fun F => ?_, trivial⟩
        refine WL.q (y_loadN rfl rfl a26 s26 rfl) (Wt.none rfl) rfl rfl ?_
        exact WL.done1 rfl rfl rfl
      · refine ⟨fun F => ?_, trivial⟩
        refine WL.fn rfl rfl rfl rfl (f28_c _) ⟨(Le.agd ⟨(Le.refl _), (Le.refl _), (Le.refl _), (Le.refl _), (Le.refl _), (Le.refl _), (Le.refl _), (Le.refl _), (Le.refl _), trivial⟩), trivial⟩ (Wt.none rfl) rfl rfl ?_
        exact WL.done1 rfl rfl rfl
      · refine ⟨fun F => ?_, trivial⟩
        refine WL.s ((NewOs.data (n_buildSlice l24 z26 rfl (by decide) (by decide) rfl rfl rfl (by decide)) (by exact encA_map E26_eq [a2, (f28 b3), (f28 c4)])).does) (Wt.none rfl) rfl rfl ?_
        exact WL.done1 rfl rfl rfl
      · refine ⟨fun F => ?_, trivial⟩
        refine WL.fn rfl rfl rfl rfl (f23_c _ _) ⟨(Le.refl _), (Le.refl _), trivial⟩ (Wt.none rfl) rfl rfl ?_
        exact WL.done1 rfl rfl rfl
      · refine ⟨fun F => ?_, trivial⟩
        refine WL.q (y_buildA r48 z48 rfl rfl) (Wt.none rfl) rfl rfl ?_
        exact WL.done1 rfl rfl rfl
      · refine ⟨fun F => ?_, trivial⟩
        refine WL.s ((NewOs.data (n_buildSlice l49 z48 rfl (by decide) (by decide) rfl rfl rfl (by decide)) (by exact encA_map E48_eq [(P2.mk (f28 (f23 6 [a2, b3])) (f23 7 [(f28 a2), (f28 b3)])), (P2.mk (f28 (f23 7 [a2, b3])) (f23 6 [(f28 a2), (f28 b3)])), (P2.mk (f28 (f23 8 [a2, b3, c4])) (f23 8 [a2, (f28 b3), (f28 c4)]))])).does) (Wt.none rfl) rfl rfl ?_
        exact WL.done1 rfl rfl rfl
      · refine ⟨fun F => ?_, trivial⟩
        refine WL.q (y_len_map E48 [(P2.mk (f28 (f23 6 [a2, b3])) (f23 7 [(f28 a2), (f28 b3)])), (P2.mk (f28 (f23 7 [a2, b3])) (f23 6 [(f28 a2), (f28 b3)])), (P2.mk (f28 (f23 8 [a2, b3, c4])) (f23 8 [a2, (f28 b3), (f28 c4)]))] e49 rfl rfl (Le.refl _)) (Wt.none rfl) rfl rfl ?_
        exact WL.done1 rfl rfl rfl
      · refine ⟨fun F => ?_, trivial⟩
        refine WL.q (y_move rfl) (Wt.none rfl) rfl rfl ?_
        exact WL.done1 rfl rfl rfl
    · refine we_seq ?_
      refine wc_block ?_
      refine wc_loop (fun n env' st' => ∃ (t115 : Int), f8_l1 s0 counts1 a2 b3 c4 k113 n t115 = some r ∧ Sub [(0, .d (.sl (List.map E56 s0))), (1, .d (.sl (List.map E3 counts1))), (65, .d (.sl (List.map E48 [(P2.mk (f28 (f23 6 [a2, b3])) (f23 7 [(f28 a2), (f28 b3)])), (P2.mk (f28 (f23 7 [a2, b3])) (f23 6 [(f28 a2), (f28 b3)])), (P2.mk (f28 (f23 8 [a2, b3, c4])) (f23 8 [a2, (f28 b3), (f28 c4)]))]))), (66, .d (D.i .i64 (List.length [(P2.mk (f28 (f23 6 [a2, b3])) (f23 7 [(f28 a2), (f28 b3)])), (P2.mk (f28 (f23 7 [a2, b3])) (f23 6 [(f28 a2), (f28 b3)])), (P2.mk (f28 (f23 8 [a2, b3, c4])) (f23 8 [a2, (f28 b3), (f28 c4)]))] : Int))), (67, .d (D.i .i64 t115))] env' ∧ SLe st' [.row 26 [.d (D.i .u8 a2.kind), .d (D.i .u8 a2.op), .d (D.i .i64 a2.n), .d (D.i .i64 a2.o), .d (D.i .i64 a2.off), .d (D.i .i64 a2.len), .d (D.i .i64 a2.lo), .d (D.i .i64 a2.hi), .d (.sl (List.map E26 a2.l))], .row 26 [.d (D.i .u8 b3.kind), .d (D.i .u8 b3.op), .d (D.i .i64 b3.n), .d (D.i .i64 b3.o), .d (D.i .i64 b3.off), .d (D.i .i64 b3.len), .d (D.i .i64 b3.lo), .d (D.i .i64 b3.hi), .d (.sl (List.map E26 b3.l))], .row 26 [.d (D.i .u8 c4.kind), .d (D.i .u8 c4.op), .d (D.i .i64 c4.n), .d (D.i .i64 c4.o), .d (D.i .i64 c4.off), .d (D.i .i64 c4.len), .d (D.i .i64 c4.lo), .d (D.i .i64 c4.hi), .d (.sl (List.map E26 c4.l))]]) (fun n => n) (Int.toNat ((List.length [(P2.mk (f28 (f23 6 [a2, b3])) (f23 7 [(f28 a2), (f28 b3)])), (P2.mk (f28 (f23 7 [a2, b3])) (f23 6 [(f28 a2), (f28 b3)])), (P2.mk (f28 (f23 8 [a2, b3, c4])) (f23 8 [a2, (f28 b3), (f28 c4)]))] : Int) - 0) + 1) ⟨0, h, (Sub.cons rfl (Le.refl _) (Sub.cons rfl (Le.refl _) (Sub.cons rfl (Le.refl _) (Sub.cons rfl (Le.refl _) (Sub.cons rfl (Le.refl _) (Sub.nil _)))))), ⟨⟨rfl, ⟨(Le.refl _), (Le.refl _), (Le.refl _), (Le.refl _), (Le.refl _), (Le.refl _), (Le.refl _), (Le.refl _), (Le.refl _), trivial⟩⟩, ⟨rfl, ⟨(Le.refl _), (Le.refl _), (Le.refl _), (Le.refl _), (Le.refl _), (Le.refl _), (Le.refl _), (Le.refl _), (Le.refl _), trivial⟩⟩, ⟨rfl, ⟨(Le.refl _), (Le.refl _), (Le.refl _), (Le.refl _), (Le.refl _), (Le.refl _), (Le.refl _), (Le.refl _), (Le.refl _), trivial⟩⟩, trivial⟩⟩ ?_
      rintro n env1 st1 ⟨t115, h, hsub, hst⟩
      cases n with
      | zero => rw [f8_l1] at h; cases h
      | succ n =>
      rw [f8_l1] at h
      refine WC.sub hsub (WC.weak hst ?_)
      refine wc_seq ?_
      refine wc_region ?_
      refine WL.q (y_lss rfl rfl) (Wt.none rfl) rfl rfl ?_
      refine WL.nil ?_
      refine we_seq ?_
      refine wc_seq ?_
      refine wc_cond rfl (fun hc1 => ?_) (fun hc1 => ?_)
      · replace h := condT h hc1
        refine wc_skip ?_
        refine we_seq ?_
        replace h := letkS h
        obtain ⟨k135, hk135, h⟩ := h
        refine wc_cut (fun env' st' => ∃ (c30117 : Int), ∃ (c31118 : Int), ∃ (c32119 : Int), ∃ (c33120 : Int), ∃ (c34121 : Int), ∃ (c35122 : Int), ∃ (c36123 : Int), ∃ (c37124 : Int), ∃ (c38125 : List CE), ∃ (c39126 : Int), ∃ (c310127 : Int), ∃ (c311128 : Int), ∃ (c312129 : Int), ∃ (c313130 : Int), ∃ (c314131 : Int), ∃ (c315132 : Int), ∃ (c316133 : Int), ∃ (c317134 : List CE), k135 c30117 c31118 c32119 c33120 c34121 c35122 c36123 c37124 c38125 c39126 c310127 c311128 c312129 c313130 c314131 c315132 c316133 c317134 = some r ∧ Sub [(0, .d (.sl (List.map E56 s0))), (1, .d (.sl (List.map E3 counts1))), (65, .d (.sl (List.map E48 [(P2.mk (f28 (f23 6 [a2, b3])) (f23 7 [(f28 a2), (f28 b3)])), (P2.mk (f28 (f23 7 [a2, b3])) (f23 6 [(f28 a2), (f28 b3)])), (P2.mk (f28 (f23 8 [a2, b3, c4])) (f23 8 [a2, (f28 b3), (f28 c4)]))]))), (66, .d (D.i .i64 (List.length [(P2.mk (f28 (f23 6 [a2, b3])) (f23 7 [(f28 a2), (f28 b3)])), (P2.mk (f28 (f23 7 [a2, b3])) (f23 6 [(f28 a2), (f28 b3)])), (P2.mk (f28 (f23 8 [a2, b3, c4])) (f23 8 [a2, (f28 b3), (f28 c4)]))] : Int))), (67, .d (D.i .i64 t115))] env' ∧ SLe st' [.row 26 [.d (D.i .u8 a2.kind), .d (D.i .u8 a2.op), .d (D.i .i64 a2.n), .d (D.i .i64 a2.o), .d (D.i .i64 a2.off), .d (D.i .i64 a2.len), .d (D.i .i64 a2.lo), .d (D.i .i64 a2.hi), .d (.sl (List.map E26 a2.l))], .row 26 [.d (D.i .u8 b3.kind), .d (D.i .u8 b3.op), .d (D.i .i64 b3.n), .d (D.i .i64 b3.o), .d (D.i .i64 b3.off), .d (D.i .i64 b3.len), .d (D.i .i64 b3.lo), .d (D.i .i64 b3.hi), .d (.sl (List.map E26 b3.l))], .row 26 [.d (D.i .u8 c4.kind), .d (D.i .u8 c4.op), .d (D.i .i64 c4.n), .d (D.i .i64 c4.o), .d (D.i .i64 c4.off), .d (D.i .i64 c4.len), .d (D.i .i64 c4.lo), .d (D.i .i64 c4.hi), .d (.sl (List.map E26 c4.l))], .row 48 [.d (D.i .u8 c30117), .d (D.i .u8 c31118), .d (D.i .i64 c32119), .d (D.i .i64 c33120), .d (D.i .i64 c34121), .d (D.i .i64 c35122), .d (D.i .i64 c36123), .d (D.i .i64 c37124), .d (.sl (List.map E26 c38125)), .d (D.i .u8 c39126), .d (D.i .u8 c310127), .d (D.i .i64 c311128), .d (D.i .i64 c312129), .d (D.i .i64 c313130), .d (D.i .i64 c314131), .d (D.i .i64 c315132), .d (D.i .i64 c316133), .d (.sl (List.map E26 c317134))]]) ?_ ?_
        · refine wc_block ?_
          refine wc_seq ?_
          refine wc_region ?_
          replace h := bindS h
          obtain ⟨x136, hx136, h⟩ := h
          refine WL.q (y_indexAddr e49 rfl (Le.refl _) rfl (idx_nonneg hx136) (idx_row E48_eq hx136) rfl) (Wt.none rfl) rfl rfl ?_
          refine WL.q (y_loadcN rfl a48 s48 rfl) (Wt.none rfl) rfl rfl ?_
          refine WL.s ((b_alloc z48).does) (Wt.none rfl) rfl rfl ?_
          refine WL.s0 (d_store rfl rfl rfl rfl rfl rfl s48 rfl rfl) (Wt.none rfl) rfl ?_
          refine WL.nil ?_
          refine we_seq ?_
          refine wc_seq ?_
          refine wc_seq ?_
          refine wc_region ?_
          refine WL.q (y_indexAddra r48 rfl rfl (by decide) (by decide)) (Wt.none rfl) rfl rfl ?_
          refine WL.q (y_loadN rfl rfl a26 s26 rfl) (Wt.none rfl) rfl rfl ?_
          replace h := bindS h
          obtain ⟨r137, hr137, h⟩ := h
          refine WL.fn rfl rfl rfl rfl (f14_c _ _ hr137) ⟨(Le.agd ⟨(Le.refl _), (Le.refl _), (Le.refl _), (Le.refl _), (Le.refl _), (Le.refl _), (Le.refl _), (Le.refl _), (Le.refl _), trivial⟩), (Le.refl _), trivial⟩ (Wt.none rfl) rfl rfl ?_
          refine WL.q (y_not rfl) (Wt.none rfl) rfl rfl ?_
          refine WL.q (y_move rfl) (Wt.none rfl) rfl rfl ?_
          replace h := bindS h
          obtain ⟨b138, hb138, h⟩ := h
          apply WL.grp 5 (t := 75) (d := 80) (z := b138)
          · exact rfl
          · intro hg75
            have h := condT hb138 hg75
            refine WL.skips 4 rfl ?_
            refine WL.q (y_pick_t rfl rfl) (Wt.none rfl) rfl rfl ?_
            obtain rfl := Option.some.inj h
            exact WL.nil ⟨rfl, [_, _, _, _, _], rfl, rfl, rfl⟩
          · intro hg75
            have h := condF hb138 hg75
            refine WL.q (y_indexAddra r48 rfl rfl (by decide) (by decide)) (Wt.yes rfl rfl rfl) rfl rfl ?_
            refine WL.q (y_loadN rfl rfl a26 s26 rfl) (Wt.yes rfl rfl rfl) rfl rfl ?_
            replace h := bindS h
            obtain ⟨r139, hr139, h⟩ := h
            refine WL.fn rfl rfl rfl rfl (f14_c _ _ hr139) ⟨(Le.agd ⟨(Le.refl _), (Le.refl _), (Le.refl _), (Le.refl _), (Le.refl _), (Le.refl _), (Le.refl _), (Le.refl _), (Le.refl _), trivial⟩), (Le.refl _), trivial⟩ (Wt.yes rfl rfl rfl) rfl rfl ?_
            refine WL.q (y_not rfl) (Wt.yes rfl rfl rfl) rfl rfl ?_
            refine WL.q (y_pick_f rfl rfl) (Wt.none rfl) rfl rfl ?_
            obtain rfl := Option.some.inj h
            exact WL.nil ⟨rfl, [_, _, _, _, _], rfl, rfl, rfl⟩
          refine WL.nil ?_
          refine we_seq ?_
          refine wc_cond rfl (fun hc2 => ?_) (fun hc2 => ?_)
          · replace h := condT h hc2
            refine wc_exit ?_
            refine we_seq_exit ?_
            refine we_blk_hit ?_
            exact we_lp ⟨x136.e0.kind, x136.e0.op, x136.e0.n, x136.e0.o, x136.e0.off, x136.e0.len, x136.e0.lo, x136.e0.hi, x136.e0.l, x136.e1.kind, x136.e1.op, x136.e1.n, x136.e1.o, x136.e1.off, x136.e1.len, x136.e1.lo, x136.e1.hi, x136.e1.l, h, (Sub.cons rfl (Le.refl _) (Sub.cons rfl (Le.refl _) (Sub.cons rfl (Le.refl _) (Sub.cons rfl (Le.refl _) (Sub.cons rfl (Le.refl _) (Sub.nil _)))))), ⟨⟨rfl, ⟨(Le.refl _), (Le.refl _), (Le.refl _), (Le.refl _), (Le.refl _), (Le.refl _), (Le.refl _), (Le.refl _), (Le.refl _), trivial⟩⟩, ⟨rfl, ⟨(Le.refl _), (Le.refl _), (Le.refl _), (Le.refl _), (Le.refl _), (Le.refl _), (Le.refl _), (Le.refl _), (Le.refl _), trivial⟩⟩, ⟨rfl, ⟨(Le.refl _), (Le.refl _), (Le.refl _), (Le.refl _), (Le.refl _), (Le.refl _), (Le.refl _), (Le.refl _), (Le.refl _), trivial⟩⟩, ⟨rfl, ⟨(Le.refl _), (Le.refl _), (Le.refl _), (Le.refl _), (Le.refl _), (Le.refl _), (Le.refl _), (Le.refl _), (Le.refl _), (Le.refl _), (Le.refl _), (Le.refl _), (Le.refl _), (Le.refl _), (Le.refl _), (Le.refl _), (Le.refl _), (Le.refl _), trivial⟩⟩, trivial⟩⟩
          · replace h := condF h hc2
            refine wc_skip ?_
            refine we_seq ?_
            refine wc_seq ?_
            refine wc_region ?_
            refine WL.q (y_move rfl) (Wt.none rfl) rfl rfl ?_
            refine WL.q (y_move rfl) (Wt.none rfl) rfl rfl ?_
            refine WL.q (y_indexAddra r48 rfl rfl (by decide) (by decide)) (Wt.none rfl) rfl rfl ?_
            refine WL.q (y_loadN rfl rfl a26 s26 rfl) (Wt.none rfl) rfl rfl ?_
            replace h := bindS h
            obtain ⟨r140, hr140, h⟩ := h
            refine WL.fn rfl rfl rfl rfl (f21_c _ _ _ hr140) ⟨(Le.refl _), (Le.refl _), (Le.agd ⟨(Le.refl _), (Le.refl _), (Le.refl _), (Le.refl _), (Le.refl _), (Le.refl _), (Le.refl _), (Le.refl _), (Le.refl _), trivial⟩), trivial⟩ (Wt.none rfl) rfl rfl ?_
            refine WL.q (y_move rfl) (Wt.none rfl) rfl rfl ?_
            refine WL.q (y_extractd rfl rfl) (Wt.none rfl) rfl rfl ?_
            refine WL.q (y_extractd rfl rfl) (Wt.none rfl) rfl rfl ?_
            refine WL.q (y_assign rfl) (Wt.none rfl) rfl rfl ?_
            refine WL.q (y_assign rfl) (Wt.none rfl) rfl rfl ?_
            refine WL.nil ?_
            refine we_seq ?_
            refine wc_seq ?_
            refine wc_region ?_
            refine WL.q (y_move rfl) (Wt.none rfl) rfl rfl ?_
            refine WL.q (y_move rfl) (Wt.none rfl) rfl rfl ?_
            refine WL.q (y_indexAddra r48 rfl rfl (by decide) (by decide)) (Wt.none rfl) rfl rfl ?_
            refine WL.q (y_loadN rfl rfl a26 s26 rfl) (Wt.none rfl) rfl rfl ?_
            replace h := bindS h
            obtain ⟨r141, hr141, h⟩ := h
            refine WL.fn rfl rfl rfl rfl (f21_c _ _ _ hr141) ⟨(Le.refl _), (Le.refl _), (Le.agd ⟨(Le.refl _), (Le.refl _), (Le.refl _), (Le.refl _), (Le.refl _), (Le.refl _), (Le.refl _), (Le.refl _), (Le.refl _), trivial⟩), trivial⟩ (Wt.none rfl) rfl rfl ?_
            refine WL.q (y_move rfl) (Wt.none rfl) rfl rfl ?_
            refine WL.q (y_extractd rfl rfl) (Wt.none rfl) rfl rfl ?_
            refine WL.q (y_extractd rfl rfl) (Wt.none rfl) rfl rfl ?_
            refine WL.q (y_assign rfl) (Wt.none rfl) rfl rfl ?_
            refine WL.q (y_assign rfl) (Wt.none rfl) rfl rfl ?_
            refine WL.nil ?_
            refine we_seq ?_
            refine wc_seq ?_
            refine wc_region ?_
            refine WL.q (y_move rfl) (Wt.none rfl) rfl rfl ?_
            refine WL.q (y_move rfl) (Wt.none rfl) rfl rfl ?_
            refine WL.q (y_neq rfl rfl) (Wt.none rfl) rfl rfl ?_
            refine WL.q (y_move rfl) (Wt.none rfl) rfl rfl ?_
            apply WL.or 4 (t := 100) (d := 104)
            · exact rfl
            · intro hg100
              refine WL.q (y_move rfl) (Wt.yes rfl rfl rfl) rfl rfl ?_
              refine WL.q (y_move rfl) (Wt.yes rfl rfl rfl) rfl rfl ?_
              refine WL.q (y_neb Try.underlying4 rfl rfl) (Wt.yes rfl rfl rfl) rfl rfl ?_
              refine WL.q (y_pick_f rfl rfl) (Wt.none rfl) rfl rfl ?_
              exact WL.nil ⟨rfl, [_, _, _, _], rfl, rfl, rfl⟩
            · refine WL.skips 3 rfl ?_
              refine WL.q (y_pick_t rfl rfl) (Wt.none rfl) rfl rfl ?_
              exact WL.nil ⟨rfl, [_, _, _, _], rfl, rfl, rfl⟩
            refine WL.nil ?_
            refine we_seq ?_
            refine wc_cond rfl (fun hc3 => ?_) (fun hc3 => ?_)
            · replace h := condT h hc3
              refine wc_seq ?_
              refine wc_region ?_
              refine WL.q (y_assign rfl) (Wt.none rfl) rfl rfl ?_
              refine WL.nil ?_
              refine we_seq ?_
              refine wc_ret ?_
              refine we_blk_ret ?_
              refine we_lp_ret ?_
              refine we_lp_ret ?_
              refine we_blk_ret ?_
              refine we_lp_ret ?_
              obtain rfl := Option.some.inj h
              exact we_ret_fn (rs1 rfl (rv_t rfl)) (Le.refl _)
            · replace h := condF h hc3
              refine wc_skip ?_
              refine we_blk ?_
              exact we_lp ⟨x136.e0.kind, x136.e0.op, x136.e0.n, x136.e0.o, x136.e0.off, x136.e0.len, x136.e0.lo, x136.e0.hi, x136.e0.l, x136.e1.kind, x136.e1.op, x136.e1.n, x136.e1.o, x136.e1.off, x136.e1.len, x136.e1.lo, x136.e1.hi, x136.e1.l, h, (Sub.cons rfl (Le.refl _) (Sub.cons rfl (Le.refl _) (Sub.cons rfl (Le.refl _) (Sub.cons rfl (Le.refl _) (Sub.cons rfl (Le.refl _) (Sub.nil _)))))), ⟨⟨rfl, ⟨(Le.refl _), (Le.refl _), (Le.refl _), (Le.refl _), (Le.refl _), (Le.refl _), (Le.refl _), (Le.refl _), (Le.refl _), trivial⟩⟩, ⟨rfl, ⟨(Le.refl _), (Le.refl _), (Le.refl _), (Le.refl _), (Le.refl _), (Le.refl _), (Le.refl _), (Le.refl _), (Le.refl _), trivial⟩⟩, ⟨rfl, ⟨(Le.refl _), (Le.refl _), (Le.refl _), (Le.refl _), (Le.refl _), (Le.refl _), (Le.refl _), (Le.refl _), (Le.refl _), trivial⟩⟩, ⟨rfl, ⟨(Le.refl _), (Le.refl _), (Le.refl _), (Le.refl _), (Le.refl _), (Le.refl _), (Le.refl _), (Le.refl _), (Le.refl _), (Le.refl _), (Le.refl _), (Le.refl _), (Le.refl _), (Le.refl _), (Le.refl _), (Le.refl _), (Le.refl _), (Le.refl _), trivial⟩⟩, trivial⟩⟩
        · rintro env1 st1 ⟨c30117, c31118, c32119, c33120, c34121, c35122, c36123, c37124, c38125, c39126, c310127, c311128, c312129, c313130, c314131, c315132, c316133, c317134, h, hsub, hst⟩
          subst hk135
          dsimp only at h
          refine WC.sub hsub (WC.weak hst ?_)
          refine wc_region ?_
          refine WL.q (y_add rfl rfl rfl) (Wt.none rfl) rfl rfl ?_
          refine WL.q (y_move rfl) (Wt.none rfl) rfl rfl ?_
          refine WL.nil ?_
          refine WE.drop 3 (env' := [(0, .d (.sl (List.map E56 s0))), (1, .d (.sl (List.map E3 counts1))), (65, .d (.sl (List.map E48 [(P2.mk (f28 (f23 6 [a2, b3])) (f23 7 [(f28 a2), (f28 b3)])), (P2.mk (f28 (f23 7 [a2, b3])) (f23 6 [(f28 a2), (f28 b3)])), (P2.mk (f28 (f23 8 [a2, b3, c4])) (f23 8 [a2, (f28 b3), (f28 c4)]))]))), (66, .d (D.i .i64 (List.length [(P2.mk (f28 (f23 6 [a2, b3])) (f23 7 [(f28 a2), (f28 b3)])), (P2.mk (f28 (f23 7 [a2, b3])) (f23 6 [(f28 a2), (f28 b3)])), (P2.mk (f28 (f23 8 [a2, b3, c4])) (f23 8 [a2, (f28 b3), (f28 c4)]))] : Int))), (67, .d (D.i .i64 (IntKind.i64.wrap (t115 + 1))))]) (Sub.one rfl (Sub.one rfl (Sub.one rfl (Sub.one rfl (Sub.one rfl (Sub.nil _)))))) rfl rfl (Nat.zero_le _) ?_
          exact we_lp ⟨n, ⟨(IntKind.i64.wrap (t115 + 1)), h, (Sub.cons rfl (Le.refl _) (Sub.cons rfl (Le.refl _) (Sub.cons rfl (Le.refl _) (Sub.cons rfl (Le.refl _) (Sub.cons rfl (Le.refl _) (Sub.nil _)))))), ⟨⟨rfl, ⟨(Le.refl _), (Le.refl _), (Le.refl _), (Le.refl _), (Le.refl _), (Le.refl _), (Le.refl _), (Le.refl _), (Le.refl _), trivial⟩⟩, ⟨rfl, ⟨(Le.refl _), (Le.refl _), (Le.refl _), (Le.refl _), (Le.refl _), (Le.refl _), (Le.refl _), (Le.refl _), (Le.refl _), trivial⟩⟩, ⟨rfl, ⟨(Le.refl _), (Le.refl _), (Le.refl _), (Le.refl _), (Le.refl _), (Le.refl _), (Le.refl _), (Le.refl _), (Le.refl _), trivial⟩⟩, trivial⟩⟩, Nat.lt_succ_self n⟩
      · replace h := condF h hc1
        refine wc_exit ?_
        refine we_seq_exit ?_
        refine we_lp_exit ?_
        refine we_blk_hit ?_
        exact we_lp ⟨h, (Sub.nil _), ⟨⟨rfl, ⟨(Le.refl _), (Le.refl _), (Le.refl _), (Le.refl _), (Le.refl _), (Le.refl _), (Le.refl _), (Le.refl _), (Le.refl _), trivial⟩⟩, ⟨rfl, ⟨(Le.refl _), (Le.refl _), (Le.refl _), (Le.refl _), (Le.refl _), (Le.refl _), (Le.refl _), (Le.refl _), (Le.refl _), trivial⟩⟩, ⟨rfl, ⟨(Le.refl _), (Le.refl _), (Le.refl _), (Le.refl _), (Le.refl _), (Le.refl _), (Le.refl _), (Le.refl _), (Le.refl _), trivial⟩⟩, trivial⟩⟩
  · rintro env1 st1 ⟨h, hsub, hst⟩
    subst hk113
    dsimp only at h
    refine WC.sub hsub (WC.weak hst ?_)
    refine wc_seq ?_
    refine wc_region ?_
    replace h := bindS h
    obtain ⟨r142, hr142, h⟩ := h
    refine WL.fn rfl rfl rfl rfl (f20_c hr142) trivial (Wt.none rfl) rfl rfl ?_
    refine WL.q (y_assign rfl) (Wt.none rfl) rfl rfl ?_
    refine WL.nil ?_
    refine we_seq ?_
    refine wc_ret ?_
    obtain rfl := Option.some.inj h
    exact we_ret_fn (rs1 rfl (rv_t rfl)) (Le.refl _)

theorem f9_c (s0 : List (List Int)) (o1 : Int) (off2 : Int) (long3 : Int) (index4 : CE) {r : Bool} (h : f9 s0 o1 off2 long3 index4 = some r) : Pu Try.prog 9 [.sl (List.map E56 s0), .i .i64 o1, .i .i64 off2, .i .i64 long3, .ag (R26 index4)] (.b r) := by
  unfold f9 at h
  refine fn_intro Try.func9 (by kernel_rfl) rfl rfl rfl (fun φφ ww => ?_)
  refine wc_seq ?_
  refine wc_region ?_
  refine WL.s ((b_box rfl rfl).does) (Wt.none rfl) rfl rfl ?_
  refine WL.q (y_assign rfl) (Wt.none rfl) rfl rfl ?_
  refine WL.nil ?_
  refine we_seq ?_
  refine wc_seq ?_
  refine wc_region ?_
  refine WL.q (y_move rfl) (Wt.none rfl) rfl rfl ?_
  refine WL.q (y_move rfl) (Wt.none rfl) rfl rfl ?_
  refine WL.q (y_move rfl) (Wt.none rfl) rfl rfl ?_
  refine WL.q (y_loadN rfl rfl a26 s26 rfl) (Wt.none rfl) rfl rfl ?_
  refine WL.s (((NewOs.b (n_buildSlice l24 z26 rfl (by decide) (by decide) rfl rfl rfl (by decide))).does)) (Wt.none rfl) rfl rfl ?_
  refine WL.freezeX [22] [] 1 (List.map E26 [index4]) rfl (encA_map E26_eq [index4]) ⟨rfl, trivial⟩ trivial ?_
  refine WL.q (y_build p29 z29 rfl rfl) (Wt.none rfl) rfl rfl ?_
  refine WL.s ((b_alloc z29).does) (Wt.none rfl) rfl rfl ?_
  refine WL.s0 (d_store rfl rfl rfl rfl rfl rfl s29 rfl rfl) (Wt.none rfl) rfl ?_
  refine WL.nil ?_
  refine we_seq ?_
  refine wc_seq ?_
  refine wc_region ?_
  refine WL.q (y_move rfl) (Wt.none rfl) rfl rfl ?_
  refine WL.q (y_move rfl) (Wt.none rfl) rfl rfl ?_
  refine WL.q (y_move rfl) (Wt.none rfl) rfl rfl ?_
  refine WL.q (y_loadN rfl rfl a26 s26 rfl) (Wt.none rfl) rfl rfl ?_
  refine WL.s (((NewOs.b (n_buildSlice l24 z26 rfl (by decide) (by decide) rfl rfl rfl (by decide))).does)) (Wt.none rfl) rfl rfl ?_
  refine WL.freezeX [28] [] 3 (List.map E26 [index4]) rfl (encA_map E26_eq [index4]) ⟨rfl, trivial⟩ trivial ?_
  refine WL.q (y_build p26 z26 rfl rfl) (Wt.none rfl) rfl rfl ?_
  refine WL.s ((b_alloc z26).does) (Wt.none rfl) rfl rfl ?_
  refine WL.s0 (d_store rfl rfl rfl rfl rfl rfl s26 rfl rfl) (Wt.none rfl) rfl ?_
  refine WL.nil ?_
  refine we_seq ?_
  refine wc_seq ?_
  refine wc_seq ?_
  refine wc_region ?_
  refine WL.q (y_loadN rfl rfl a29 s29 rfl) (Wt.none rfl) rfl rfl ?_
  replace h := bindS h
  obtain ⟨r108, hr108, h⟩ := h
  refine WL.fn rfl rfl rfl rfl (f16_c _ hr108) ⟨(Le.agd ⟨(Le.refl _), (Le.refl _), (Le.refl _), (Le.refl _), (Le.refl _), trivial⟩), trivial⟩ (Wt.none rfl) rfl rfl ?_
  refine WL.q (y_not rfl) (Wt.none rfl) rfl rfl ?_
  refine WL.q (y_move rfl) (Wt.none rfl) rfl rfl ?_
  replace h := bindS h
  obtain ⟨b109, hb109, h⟩ := h
  apply WL.grp 4 (t := 33) (d := 37) (z := b109)
  · exact rfl
  · intro hg33
    have h := condT hb109 hg33
    refine WL.skips 3 rfl ?_
    refine WL.q (y_pick_t rfl rfl) (Wt.none rfl) rfl rfl ?_
    obtain rfl := Option.some.inj h
    exact WL.nil ⟨rfl, [_, _, _, _], rfl, rfl, rfl⟩
  · intro hg33
    have h := condF hb109 hg33
    refine WL.q (y_loadN rfl rfl a26 s26 rfl) (Wt.yes rfl rfl rfl) rfl rfl ?_
    replace h := bindS h
    obtain ⟨r110, hr110, h⟩ := h
    refine WL.fn rfl rfl rfl rfl (f14_c _ _ hr110) ⟨(Le.agd ⟨(Le.refl _), (Le.refl _), (Le.refl _), (Le.refl _), (Le.refl _), (Le.refl _), (Le.refl _), (Le.refl _), (Le.refl _), trivial⟩), (Le.refl _), trivial⟩ (Wt.yes rfl rfl rfl) rfl rfl ?_
    refine WL.q (y_not rfl) (Wt.yes rfl rfl rfl) rfl rfl ?_
    refine WL.q (y_pick_f rfl rfl) (Wt.none rfl) rfl rfl ?_
    obtain rfl := Option.some.inj h
    exact WL.nil ⟨rfl, [_, _, _, _], rfl, rfl, rfl⟩
  refine WL.nil ?_
  refine we_seq ?_
  refine wc_cond rfl (fun hc1 => ?_) (fun hc1 => ?_)
  · replace h := condT h hc1
    refine wc_seq ?_
    refine wc_region ?_
    replace h := bindS h
    obtain ⟨r111, hr111, h⟩ := h
    refine WL.fn rfl rfl rfl rfl (f20_c hr111) trivial (Wt.none rfl) rfl rfl ?_
    refine WL.q (y_assign rfl) (Wt.none rfl) rfl rfl ?_
    refine WL.nil ?_
    refine we_seq ?_
    refine wc_ret ?_
    refine we_seq_ret ?_
    obtain rfl := Option.some.inj h
    exact we_ret_fn (rs1 rfl (rv_t rfl)) (Le.refl _)
  · replace h := condF h hc1
    refine wc_skip ?_
    refine we_seq ?_
    refine wc_seq ?_
    refine wc_region ?_
    refine WL.q (y_move rfl) (Wt.none rfl) rfl rfl ?_
    refine WL.q (y_loadN rfl rfl a29 s29 rfl) (Wt.none rfl) rfl rfl ?_
    replace h := bindS h
    obtain ⟨r112, hr112, h⟩ := h
    refine WL.fn rfl rfl rfl rfl (f29_c _ _ hr112) ⟨(Le.refl _), (Le.agd ⟨(Le.refl _), (Le.refl _), (Le.refl _), (Le.refl _), (Le.refl _), trivial⟩), trivial⟩ (Wt.none rfl) rfl rfl ?_
    refine WL.q (y_move rfl) (Wt.none rfl) rfl rfl ?_
    refine WL.q (y_extractd rfl rfl) (Wt.none rfl) rfl rfl ?_
    refine WL.q (y_extractd rfl rfl) (Wt.none rfl) rfl rfl ?_
    refine WL.s ((b_alloc z52).does) (Wt.none rfl) rfl rfl ?_
    refine WL.s0 (d_store rfl rfl rfl rfl rfl rfl s52 rfl rfl) (Wt.none rfl) rfl ?_
    refine WL.q (y_assign rfl) (Wt.none rfl) rfl rfl ?_
    refine WL.nil ?_
    refine we_seq ?_
    refine wc_seq ?_
    refine wc_region ?_
    refine WL.q (y_move rfl) (Wt.none rfl) rfl rfl ?_
    refine WL.q (y_loadN rfl rfl a26 s26 rfl) (Wt.none rfl) rfl rfl ?_
    replace h := bindS h
    obtain ⟨r113, hr113, h⟩ := h
    refine WL.fn rfl rfl rfl rfl (f21_c _ _ _ hr113) ⟨(Le.refl _), Le.nil, (Le.agd ⟨(Le.refl _), (Le.refl _), (Le.refl _), (Le.refl _), (Le.refl _), (Le.refl _), (Le.refl _), (Le.refl _), (Le.refl _), trivial⟩), trivial⟩ (Wt.none rfl) rfl rfl ?_
    refine WL.q (y_move rfl) (Wt.none rfl) rfl rfl ?_
    refine WL.q (y_extractd rfl rfl) (Wt.none rfl) rfl rfl ?_
    refine WL.q (y_extractd rfl rfl) (Wt.none rfl) rfl rfl ?_
    refine WL.q (y_assign rfl) (Wt.none rfl) rfl rfl ?_
    refine WL.q (y_assign rfl) (Wt.none rfl) rfl rfl ?_
    refine WL.nil ?_
    refine we_seq ?_
    refine wc_seq ?_
    refine wc_seq ?_
    refine wc_region ?_
    refine WL.q (y_move rfl) (Wt.none rfl) rfl rfl ?_
    refine WL.q (y_not rfl) (Wt.none rfl) rfl rfl ?_
    refine WL.nil ?_
    refine we_seq ?_
    refine wc_cond rfl (fun hc2 => ?_) (fun hc2 => ?_)
    · replace h := condT h hc2
      refine wc_seq ?_
      refine wc_region ?_
      refine WL.q (y_move rfl) (Wt.none rfl) rfl rfl ?_
      refine WL.q (y_not rfl) (Wt.none rfl) rfl rfl ?_
      refine WL.q (y_move rfl) (Wt.none rfl) rfl rfl ?_
      apply WL.and 3 (t := 55) (d := 58)
      · exact rfl
      · intro hg55
        refine WL.q (y_move rfl) (Wt.yes rfl rfl rfl) rfl rfl ?_
        refine WL.q (y_eql rfl rfl) (Wt.yes rfl rfl rfl) rfl rfl ?_
        refine WL.q (y_pick_t rfl rfl) (Wt.none rfl) rfl rfl ?_
        exact WL.nil ⟨rfl, [_, _, _], rfl, rfl, rfl⟩
      · refine WL.skips 2 rfl ?_
        refine WL.q (y_pick_f rfl rfl) (Wt.none rfl) rfl rfl ?_
        exact WL.nil ⟨rfl, [_, _, _], rfl, rfl, rfl⟩
      refine WL.q (y_move rfl) (Wt.none rfl) rfl rfl ?_
      replace h := bindS h
      obtain ⟨b114, hb114, h⟩ := h
      apply WL.grp 2 (t := 59) (d := 61) (z := b114)
      · exact rfl
      · intro hg59
        have h := condT hb114 hg59
        replace h := bindS h
        obtain ⟨r115, hr115, h⟩ := h
        refine WL.fn rfl rfl rfl rfl (f20_c hr115) trivial (Wt.yes rfl rfl rfl) rfl rfl ?_
        refine WL.q (y_pick_t rfl rfl) (Wt.none rfl) rfl rfl ?_
        obtain rfl := Option.some.inj h
        exact WL.nil ⟨rfl, [_, _], rfl, rfl, rfl⟩
      · intro hg59
        have h := condF hb114 hg59
        refine WL.skips 1 rfl ?_
        refine WL.q (y_pick_f rfl rfl) (Wt.none rfl) rfl rfl ?_
        obtain rfl := Option.some.inj h
        exact WL.nil ⟨rfl, [_, _], rfl, rfl, rfl⟩
      refine WL.q (y_assign rfl) (Wt.none rfl) rfl rfl ?_
      refine WL.nil ?_
      refine we_seq ?_
      refine wc_ret ?_
      refine we_seq_ret ?_
      obtain rfl := Option.some.inj h
      exact we_ret_fn (rs1 rfl (rv_t rfl)) (Le.refl _)
    · replace h := condF h hc2
      refine wc_skip ?_
      refine we_seq ?_
      refine wc_seq ?_
      refine wc_seq ?_
      refine wc_region ?_
      refine WL.q (y_move rfl) (Wt.none rfl) rfl rfl ?_
      refine WL.q (y_fieldAddr f52_0 rfl) (Wt.none rfl) rfl rfl ?_
      refine WL.q (y_load rfl rfl a3 rfl) (Wt.none rfl) rfl rfl ?_
      refine WL.q (y_fieldAddr f52_1 rfl) (Wt.none rfl) rfl rfl ?_
      refine WL.q (y_load rfl rfl a3 rfl) (Wt.none rfl) rfl rfl ?_
      replace h := bindS h
      obtain ⟨r116, hr116, h⟩ := h
      refine WL.fn rfl rfl rfl rfl (f30_c _ _ _ hr116) ⟨(Le.refl _), (Le.refl _), (Le.refl _), trivial⟩ (Wt.none rfl) rfl rfl ?_
      refine WL.q (y_not rfl) (Wt.none rfl) rfl rfl ?_
      refine WL.nil ?_
      refine we_seq ?_
      refine wc_cond rfl (fun hc3 => ?_) (fun hc3 => ?_)
      · replace h := condT h hc3
        refine wc_seq ?_
        refine wc_region ?_
        refine WL.q (y_assign rfl) (Wt.none rfl) rfl rfl ?_
        refine WL.nil ?_
        refine we_seq ?_
        refine wc_ret ?_
        refine we_seq_ret ?_
        obtain rfl := Option.some.inj h
        exact we_ret_fn (rs1 rfl (rv_t rfl)) (Le.refl _)
      · replace h := condF h hc3
        refine wc_skip ?_
        refine we_seq ?_
        refine wc_seq ?_
        refine wc_region_draw (by kernel_rfl) (by kernel_rfl) ?_
        refine WQ.q (Yields.quiet (y_move rfl)) (Wt.none rfl) rfl rfl ?_
        refine WQ.q (Yields.quiet (y_fieldAddr f52_0 rfl)) (Wt.none rfl) rfl rfl ?_
        refine WQ.q (Yields.quiet (y_load rfl rfl a3 rfl)) (Wt.none rfl) rfl rfl ?_
        replace h := bindS h
        obtain ⟨x117, hx117, h⟩ := h
        refine WQ.q (Yields.quiet (y_indexAddr e37 rfl (Le.refl _) rfl (idx_nonneg hx117) (idx_row E56_eq hx117) rfl)) (Wt.none rfl) rfl rfl ?_
        refine WQ.q (Yields.quiet (y_loadc rfl a56 rfl)) (Wt.none rfl) rfl rfl ?_
        refine WQ.q (Yields.quiet (y_fieldAddr f52_1 rfl)) (Wt.none rfl) rfl rfl ?_
        refine WQ.q (Yields.quiet (y_load rfl rfl a3 rfl)) (Wt.none rfl) rfl rfl ?_
        replace h := bindS h
        obtain ⟨x118, hx118, h⟩ := h
        refine WQ.q (Yields.quiet (y_indexAddr e56 rfl (Le.refl _) rfl (idx_nonneg hx118) (idx_row E2_eq hx118) rfl)) (Wt.none rfl) rfl rfl ?_
        refine WQ.q (Yields.quiet (y_loadc rfl a2 rfl)) (Wt.none rfl) rfl rfl ?_
        refine WQ.q (Yields.quiet (y_assign rfl)) (Wt.none rfl) rfl rfl ?_
        refine WQ.nil ?_
        refine we_seq ?_
        refine wc_seq ?_
        refine wc_seq ?_
        refine wc_region ?_
        refine WL.q (y_move rfl) (Wt.none rfl) rfl rfl ?_
        refine WL.q (y_lss rfl rfl) (Wt.none rfl) rfl rfl ?_
        refine WL.q (y_move rfl) (Wt.none rfl) rfl rfl ?_
        apply WL.or 3 (t := 80) (d := 83)
        · exact rfl
        · intro hg80
          refine WL.q (y_move rfl) (Wt.yes rfl rfl rfl) rfl rfl ?_
          refine WL.q (y_gtr rfl rfl) (Wt.yes rfl rfl rfl) rfl rfl ?_
          refine WL.q (y_pick_f rfl rfl) (Wt.none rfl) rfl rfl ?_
          exact WL.nil ⟨rfl, [_, _, _], rfl, rfl, rfl⟩
        · refine WL.skips 2 rfl ?_
          refine WL.q (y_pick_t rfl rfl) (Wt.none rfl) rfl rfl ?_
          exact WL.nil ⟨rfl, [_, _, _], rfl, rfl, rfl⟩
        refine WL.nil ?_
        refine we_seq ?_
        refine wc_cond rfl (fun hc4 => ?_) (fun hc4 => ?_)
        · replace h := condT h hc4
          refine wc_seq ?_
          refine wc_region ?_
          refine WL.q (y_move rfl) (Wt.none rfl) rfl rfl ?_
          refine WL.q (y_not rfl) (Wt.none rfl) rfl rfl ?_
          refine WL.q (y_move rfl) (Wt.none rfl) rfl rfl ?_
          apply WL.and 3 (t := 86) (d := 89)
          · exact rfl
          · intro hg86
            refine WL.q (y_move rfl) (Wt.yes rfl rfl rfl) rfl rfl ?_
            refine WL.q (y_eql rfl rfl) (Wt.yes rfl rfl rfl) rfl rfl ?_
            refine WL.q (y_pick_t rfl rfl) (Wt.none rfl) rfl rfl ?_
            exact WL.nil ⟨rfl, [_, _, _], rfl, rfl, rfl⟩
          · refine WL.skips 2 rfl ?_
            refine WL.q (y_pick_f rfl rfl) (Wt.none rfl) rfl rfl ?_
            exact WL.nil ⟨rfl, [_, _, _], rfl, rfl, rfl⟩
          refine WL.q (y_move rfl) (Wt.none rfl) rfl rfl ?_
          replace h := bindS h
          obtain ⟨b119, hb119, h⟩ := h
          apply WL.grp 2 (t := 90) (d := 92) (z := b119)
          · exact rfl
          · intro hg90
            have h := condT hb119 hg90
            replace h := bindS h
            obtain ⟨r120, hr120, h⟩ := h
            refine WL.fn rfl rfl rfl rfl (f20_c hr120) trivial (Wt.yes rfl rfl rfl) rfl rfl ?_
            refine WL.q (y_pick_t rfl rfl) (Wt.none rfl) rfl rfl ?_
            obtain rfl := Option.some.inj h
            exact WL.nil ⟨rfl, [_, _], rfl, rfl, rfl⟩
          · intro hg90
            have h := condF hb119 hg90
            refine WL.skips 1 rfl ?_
            refine WL.q (y_pick_f rfl rfl) (Wt.none rfl) rfl rfl ?_
            obtain rfl := Option.some.inj h
            exact WL.nil ⟨rfl, [_, _], rfl, rfl, rfl⟩
          refine WL.q (y_assign rfl) (Wt.none rfl) rfl rfl ?_
          refine WL.nil ?_
          refine we_seq ?_
          refine wc_ret ?_
          refine we_seq_ret ?_
          obtain rfl := Option.some.inj h
          exact we_ret_fn (rs1 rfl (rv_t rfl)) (Le.refl _)
        · replace h := condF h hc4
          refine wc_skip ?_
          refine we_seq ?_
          refine wc_seq ?_
          refine wc_region ?_
          refine WL.q (y_move rfl) (Wt.none rfl) rfl rfl ?_
          refine WL.q (y_move rfl) (Wt.none rfl) rfl rfl ?_
          apply WL.and 4 (t := 94) (d := 98)
          · exact rfl
          · intro hg94
            refine WL.q (y_move rfl) (Wt.yes rfl rfl rfl) rfl rfl ?_
            refine WL.q (y_move rfl) (Wt.yes rfl rfl rfl) rfl rfl ?_
            refine WL.q (y_eql rfl rfl) (Wt.yes rfl rfl rfl) rfl rfl ?_
            refine WL.q (y_pick_t rfl rfl) (Wt.none rfl) rfl rfl ?_
            exact WL.nil ⟨rfl, [_, _, _, _], rfl, rfl, rfl⟩
          · refine WL.skips 3 rfl ?_
            refine WL.q (y_pick_f rfl rfl) (Wt.none rfl) rfl rfl ?_
            exact WL.nil ⟨rfl, [_, _, _, _], rfl, rfl, rfl⟩
          refine WL.q (y_move rfl) (Wt.none rfl) rfl rfl ?_
          replace h := bindS h
          obtain ⟨b121, hb121, h⟩ := h
          apply WL.grp 2 (t := 99) (d := 101) (z := b121)
          · exact rfl
          · intro hg99
            have h := condT hb121 hg99
            replace h := bindS h
            obtain ⟨r122, hr122, h⟩ := h
            refine WL.fn rfl rfl rfl rfl (f20_c hr122) trivial (Wt.yes rfl rfl rfl) rfl rfl ?_
            refine WL.q (y_pick_t rfl rfl) (Wt.none rfl) rfl rfl ?_
            obtain rfl := Option.some.inj h
            exact WL.nil ⟨rfl, [_, _], rfl, rfl, rfl⟩
          · intro hg99
            have h := condF hb121 hg99
            refine WL.skips 1 rfl ?_
            refine WL.q (y_pick_f rfl rfl) (Wt.none rfl) rfl rfl ?_
            obtain rfl := Option.some.inj h
            exact WL.nil ⟨rfl, [_, _], rfl, rfl, rfl⟩
          refine WL.q (y_assign rfl) (Wt.none rfl) rfl rfl ?_
          refine WL.nil ?_
          refine we_seq ?_
          refine wc_ret ?_
          obtain rfl := Option.some.inj h
          exact we_ret_fn (rs1 rfl (rv_t rfl)) (Le.refl _)
theorem f3_c (e0 : CE) (p1 : Place) (lets2 : Int) {r : Bool} (h : f3 e0 p1 lets2 = some r) : Pu Try.prog 3 [.ag (R26 e0), .ag (R29 p1), .i .i64 lets2] (.b r) := by
  unfold f3 at h
  refine fn_intro Try.func3 (by kernel_rfl) rfl rfl rfl (fun φφ ww => ?_)
  refine wc_seq ?_
  refine wc_region ?_
  refine WL.s ((b_box rfl rfl).does) (Wt.none rfl) rfl rfl ?_
  refine WL.s ((b_box rfl rfl).does) (Wt.none rfl) rfl rfl ?_
  refine WL.q (y_assign rfl) (Wt.none rfl) rfl rfl ?_
  refine WL.nil ?_
  refine we_seq ?_
  replace h := letkS h
  obtain ⟨k36, hk36, h⟩ := h
  refine wc_cut (fun env' st' => ∃ (t35 : Bool), k36 t35 = some r ∧ Sub [(6, .d (D.b t35))] env' ∧ SLe st' [.row 26 [.d (D.i .u8 e0.kind), .d (D.i .u8 e0.op), .d (D.i .i64 e0.n), .d (D.i .i64 e0.o), .d (D.i .i64 e0.off), .d (D.i .i64 e0.len), .d (D.i .i64 e0.lo), .d (D.i .i64 e0.hi), .d (.sl (List.map E26 e0.l))], .row 29 [.d (D.i .u8 p1.kind), .d (D.i .i64 p1.o), .d (D.i .i64 p1.off), .d (D.i .i64 p1.len), .d (.sl (List.map E26 p1.e))]]) ?_ ?_
  · replace h := bindS h
    obtain ⟨r37, hr37, h⟩ := h
    replace h := bindS h
    obtain ⟨r38, hr38, h⟩ := h
    rcases boolCases ((r37 == r38)) with hb4 | hb4
    · replace h := condT h hb4
      replace h := bindS h
      obtain ⟨r39, hr39, h⟩ := h
      replace h := bindS h
      obtain ⟨r40, hr40, h⟩ := h
      rcases boolCases ((r39 == r40)) with hb5 | hb5
      · replace h := condT h hb5
        replace h := bindS h
        obtain ⟨r41, hr41, h⟩ := h
        replace h := bindS h
        obtain ⟨r42, hr42, h⟩ := h
        replace h := bindS h
        obtain ⟨r43, hr43, h⟩ := h
        rcases boolCases r43 with hb6 | hb6
        · replace h := condT h hb6
          replace h := bindS h
          obtain ⟨r44, hr44, h⟩ := h
          apply wc_region_all [_, _, _, _, _, _, _, _, _, _, _, _, _, _, _, _, _, _, _, _, _, _, _, _, _] [[], [], [0, 1], [], [], [0, 1, 2, 3, 4], [0, 1, 2, 3, 4, 5], [0, 1, 2, 3, 4, 5, 6], [0, 1, 2, 3, 4, 5, 6, 7], [0, 1, 2, 3, 4, 5, 6, 7, 8], [0, 1, 2, 3, 4, 5, 6, 7], [0, 1, 2, 3, 4, 5, 6, 7, 8, 9, 10], [0, 1, 2, 3, 4, 5, 6, 7, 8, 9, 10, 11], [0, 1, 2, 3, 4, 5, 6, 7, 8, 9, 10, 11, 12], [0, 1, 2, 3, 4, 5, 6, 7, 8, 9, 10, 11, 12, 13], [0, 1, 2, 3, 4, 5, 6, 7, 8, 9, 10, 11, 12, 13, 14], [0, 1, 2, 3, 4, 5, 6, 7, 8, 9, 10, 11, 12, 13, 14, 15], [0, 1, 2, 3, 4, 5, 6, 7, 8, 9, 10, 11, 12, 13, 14], [0, 1, 2, 3, 4, 5, 6, 7, 8, 9, 10, 11, 12, 13, 14, 15, 16, 17], [0, 1, 2, 3, 4, 5, 6, 7, 8, 9, 10, 11, 12, 13, 14, 15, 16, 17, 18], [0, 1, 2, 3, 4, 5, 6, 7, 8, 9, 10, 11, 12, 13, 14, 15, 16, 17, 18, 19], [0, 1, 2, 3, 4, 5, 6, 7, 8, 9, 10, 11, 12, 13, 14, 15, 16, 17, 18, 19, 20], [0, 1, 2, 3, 4, 5, 6, 7, 8, 9, 10, 11, 12, 13, 14, 15, 16, 17, 18, 19, 20, 21], [0, 1, 2, 3, 4, 5, 6, 7, 8, 9, 10, 11, 12, 13, 14, 15, 16, 17, 18, 19, 20, 21, 22], [0, 1, 2, 3, 4, 5, 6, 7, 8, 9, 10, 11, 12, 13, 14, 15, 16, 17, 18, 19, 20, 21, 22, 23]] [] (fun c => List.getD [[.row 26 [.d (D.i .u8 e0.kind), .d (D.i .u8 e0.op), .d (D.i .i64 e0.n), .d (D.i .i64 e0.o), .d (D.i .i64 e0.off), .d (D.i .i64 e0.len), .d (D.i .i64 e0.lo), .d (D.i .i64 e0.hi), .d (.sl (List.map E26 e0.l))], .row 29 [.d (D.i .u8 p1.kind), .d (D.i .i64 p1.o), .d (D.i .i64 p1.off), .d (D.i .i64 p1.len), .d (.sl (List.map E26 p1.e))]]] c []) [([], [3], [0]), ([], [2], [0]), ([0, 1], [], [0]), ([], [3], [0]), ([], [2], [0]), ([3, 4], [], [0]), ([2, 5], [], [0]), ([6], [], [0]), ([7], [4], [0]), ([8, 7], [], [0]), ([7], [4], [0]), ([10, 7], [], [0]), ([9, 11, 7], [], [0]), ([7, 12], [], [0]), ([13], [], [0]), ([14], [3], [0]), ([15, 14], [], [0]), ([14], [3], [0]), ([17, 14], [], [0]), ([16, 18, 14], [], [0]), ([14, 19], [], [0]), ([20], [], [0]), ([21], [], [0]), ([21, 22], [], [0]), ([23], [], [0])] (by kernel_rfl) (by kernel_rfl) rfl rfl rfl
          · refine ⟨?_, ?_, ?_, ?_, ?_, ?_, ?_, ?_, ?_, ?_, ?_, ?_, ?_, ?_, ?_, ?_, ?_, ?_, ?_, ?_, ?_, ?_, ?_, ?_, ?_, trivial⟩
            · refine ⟨fun F => ?_, trivial⟩
              refine WL.q (y_loadN rfl rfl a26 s26 rfl) (Wt.none rfl) rfl rfl ?_
              exact WL.done1 rfl rfl rfl
            · refine ⟨fun F => ?_, trivial⟩
              refine WL.q (y_move rfl) (Wt.none rfl) rfl rfl ?_
              exact WL.done1 rfl rfl rfl
            · refine ⟨fun F => ?_, trivial⟩
              refine WL.fn rfl rfl rfl rfl (f13_c _ _ hr37) ⟨(Le.agd ⟨(Le.refl _), (Le.refl _), (Le.refl _), (Le.refl _), (Le.refl _), (Le.refl _), (Le.refl _), (Le.refl _), (Le.refl _), trivial⟩), (Le.refl _), trivial⟩ (Wt.none rfl) rfl rfl ?_
              exact WL.done1 rfl rfl rfl
            · refine ⟨fun F => ?_, trivial⟩
              refine WL.q (y_loadN rfl rfl a26 s26 rfl) (Wt.none rfl) rfl rfl ?_
              exact WL.done1 rfl rfl rfl
            · refine ⟨fun F => ?_, trivial⟩
              refine WL.q (y_move rfl) (Wt.none rfl) rfl rfl ?_
              exact WL.done1 rfl rfl rfl
            · refine ⟨fun F => ?_, trivial⟩
              refine WL.fn rfl rfl rfl rfl (f14_c _ _ hr38) ⟨(Le.agd ⟨(Le.refl _), (Le.refl _), (Le.refl _), (Le.refl _), (Le.refl _), (Le.refl _), (Le.refl _), (Le.refl _), (Le.refl _), trivial⟩), (Le.refl _), trivial⟩ (Wt.none rfl) rfl rfl ?_
              exact WL.done1 rfl rfl rfl
            · refine ⟨fun F => ?_, trivial⟩
              refine WL.q (y_eqb Try.underlying4 rfl rfl) (Wt.none rfl) rfl rfl ?_
              exact WL.done1 rfl rfl rfl
            · refine ⟨fun F => ?_, trivial⟩
              refine WL.q (y_move rfl) (Wt.none rfl) rfl rfl ?_
              refine WL.cast 14 rfl (Le.ofd (by rw [hb4])) ?_
              exact WL.done2 rfl rfl rfl
            · refine ⟨fun F => ?_, trivial⟩
              refine WL.q (y_loadN rfl rfl a29 s29 rfl) (Wt.yes rfl rfl rfl) rfl rfl ?_
              exact WL.done1 rfl rfl rfl
            · refine ⟨fun F => ?_, trivial⟩
              refine WL.fn rfl rfl rfl rfl (f15_c _ hr39) ⟨(Le.agd ⟨(Le.refl _), (Le.refl _), (Le.refl _), (Le.refl _), (Le.refl _), trivial⟩), trivial⟩ (Wt.yes rfl rfl rfl) rfl rfl ?_
              exact WL.done1 rfl rfl rfl
            · refine ⟨fun F => ?_, trivial⟩
              refine WL.q (y_loadN rfl rfl a29 s29 rfl) (Wt.yes rfl rfl rfl) rfl rfl ?_
              exact WL.done1 rfl rfl rfl
            · refine ⟨fun F => ?_, trivial⟩
              refine WL.fn rfl rfl rfl rfl (f16_c _ hr40) ⟨(Le.agd ⟨(Le.refl _), (Le.refl _), (Le.refl _), (Le.refl _), (Le.refl _), trivial⟩), trivial⟩ (Wt.yes rfl rfl rfl) rfl rfl ?_
              exact WL.done1 rfl rfl rfl
            · refine ⟨fun F => ?_, trivial⟩
              refine WL.q (y_eqb Try.underlying4 rfl rfl) (Wt.yes rfl rfl rfl) rfl rfl ?_
              exact WL.done1 rfl rfl rfl
            · refine ⟨fun F => ?_, trivial⟩
              refine WL.q (y_pick_t rfl rfl) (Wt.none rfl) rfl rfl ?_
              exact WL.done1 rfl rfl rfl
            · refine ⟨fun F => ?_, trivial⟩
              refine WL.q (y_move rfl) (Wt.none rfl) rfl rfl ?_
              refine WL.cast 21 rfl (Le.ofd (by rw [hb5])) ?_
              exact WL.done2 rfl rfl rfl
            · refine ⟨fun F => ?_, trivial⟩
              refine WL.q (y_loadN rfl rfl a26 s26 rfl) (Wt.yes rfl rfl rfl) rfl rfl ?_
              exact WL.done1 rfl rfl rfl
            · refine ⟨fun F => ?_, trivial⟩
              refine WL.fn rfl rfl rfl rfl (f18_c _ hr41) ⟨(Le.agd ⟨(Le.refl _), (Le.refl _), (Le.refl _), (Le.refl _), (Le.refl _), (Le.refl _), (Le.refl _), (Le.refl _), (Le.refl _), trivial⟩), trivial⟩ (Wt.yes rfl rfl rfl) rfl rfl ?_
              exact WL.done1 rfl rfl rfl
            · refine ⟨fun F => ?_, trivial⟩
              refine WL.q (y_loadN rfl rfl a26 s26 rfl) (Wt.yes rfl rfl rfl) rfl rfl ?_
              exact WL.done1 rfl rfl rfl
            · refine ⟨fun F => ?_, trivial⟩
              refine WL.fn rfl rfl rfl rfl (f19_c _ hr42) ⟨(Le.agd ⟨(Le.refl _), (Le.refl _), (Le.refl _), (Le.refl _), (Le.refl _), (Le.refl _), (Le.refl _), (Le.refl _), (Le.refl _), trivial⟩), trivial⟩ (Wt.yes rfl rfl rfl) rfl rfl ?_
              exact WL.done1 rfl rfl rfl
            · refine ⟨fun F => ?_, trivial⟩
              refine WL.fn rfl rfl rfl rfl (f17_c _ _ hr43) ⟨(Le.refl _), (Le.refl _), trivial⟩ (Wt.yes rfl rfl rfl) rfl rfl ?_
              exact WL.done1 rfl rfl rfl
            · refine ⟨fun F => ?_, trivial⟩
              refine WL.q (y_pick_t rfl rfl) (Wt.none rfl) rfl rfl ?_
              exact WL.done1 rfl rfl rfl
            · refine ⟨fun F => ?_, trivial⟩
              refine WL.q (y_move rfl) (Wt.none rfl) rfl rfl ?_
              refine WL.cast 28 rfl (Le.ofd (by rw [hb6])) ?_
              exact WL.done2 rfl rfl rfl
            · refine ⟨fun F => ?_, trivial⟩
              refine WL.fn rfl rfl rfl rfl (f20_c hr44) trivial (Wt.yes rfl rfl rfl) rfl rfl ?_
              exact WL.done1 rfl rfl rfl
            · refine ⟨fun F => ?_, trivial⟩
              refine WL.q (y_pick_t rfl rfl) (Wt.none rfl) rfl rfl ?_
              exact WL.done1 rfl rfl rfl
            · refine ⟨fun F => ?_, trivial⟩
              refine WL.q (y_assign rfl) (Wt.none rfl) rfl rfl ?_
              exact WL.done1 rfl rfl rfl
          · exact we_lp ⟨r44, h, (Sub.cons rfl (Le.refl _) (Sub.nil _)), ⟨⟨rfl, ⟨(Le.refl _), (Le.refl _), (Le.refl _), (Le.refl _), (Le.refl _), (Le.refl _), (Le.refl _), (Le.refl _), (Le.refl _), trivial⟩⟩, ⟨rfl, ⟨(Le.refl _), (Le.refl _), (Le.refl _), (Le.refl _), (Le.refl _), trivial⟩⟩, trivial⟩⟩
        · replace h := condF h hb6
          apply wc_region_all [_, _, _, _, _, _, _, _, _, _, _, _, _, _, _, _, _, _, _, _, _, _, _, _, _] [[], [], [0, 1], [], [], [0, 1, 2, 3, 4], [0, 1, 2, 3, 4, 5], [0, 1, 2, 3, 4, 5, 6], [0, 1, 2, 3, 4, 5, 6, 7], [0, 1, 2, 3, 4, 5, 6, 7, 8], [0, 1, 2, 3, 4, 5, 6, 7], [0, 1, 2, 3, 4, 5, 6, 7, 8, 9, 10], [0, 1, 2, 3, 4, 5, 6, 7, 8, 9, 10, 11], [0, 1, 2, 3, 4, 5, 6, 7, 8, 9, 10, 11, 12], [0, 1, 2, 3, 4, 5, 6, 7, 8, 9, 10, 11, 12, 13], [0, 1, 2, 3, 4, 5, 6, 7, 8, 9, 10, 11, 12, 13, 14], [0, 1, 2, 3, 4, 5, 6, 7, 8, 9, 10, 11, 12, 13, 14, 15], [0, 1, 2, 3, 4, 5, 6, 7, 8, 9, 10, 11, 12, 13, 14], [0, 1, 2, 3, 4, 5, 6, 7, 8, 9, 10, 11, 12, 13, 14, 15, 16, 17], [0, 1, 2, 3, 4, 5, 6, 7, 8, 9, 10, 11, 12, 13, 14, 15, 16, 17, 18], [0, 1, 2, 3, 4, 5, 6, 7, 8, 9, 10, 11, 12, 13, 14, 15, 16, 17, 18, 19], [0, 1, 2, 3, 4, 5, 6, 7, 8, 9, 10, 11, 12, 13, 14, 15, 16, 17, 18, 19, 20], [0, 1, 2, 3, 4, 5, 6, 7, 8, 9, 10, 11, 12, 13, 14, 15, 16, 17, 18, 19, 20, 21], [0, 1, 2, 3, 4, 5, 6, 7, 8, 9, 10, 11, 12, 13, 14, 15, 16, 17, 18, 19, 20, 21, 22], [0, 1, 2, 3, 4, 5, 6, 7, 8, 9, 10, 11, 12, 13, 14, 15, 16, 17, 18, 19, 20, 21, 22, 23]] [] (fun c => List.getD [[.row 26 [.d (D.i .u8 e0.kind), .d (D.i .u8 e0.op), .d (D.i .i64 e0.n), .d (D.i .i64 e0.o), .d (D.i .i64 e0.off), .d (D.i .i64 e0.len), .d (D.i .i64 e0.lo), .d (D.i .i64 e0.hi), .d (.sl (List.map E26 e0.l))], .row 29 [.d (D.i .u8 p1.kind), .d (D.i .i64 p1.o), .d (D.i .i64 p1.off), .d (D.i .i64 p1.len), .d (.sl (List.map E26 p1.e))]]] c []) [([], [3], [0]), ([], [2], [0]), ([0, 1], [], [0]), ([], [3], [0]), ([], [2], [0]), ([3, 4], [], [0]), ([2, 5], [], [0]), ([6], [], [0]), ([7], [4], [0]), ([8, 7], [], [0]), ([7], [4], [0]), ([10, 7], [], [0]), ([9, 11, 7], [], [0]), ([7, 12], [], [0]), ([13], [], [0]), ([14], [3], [0]), ([15, 14], [], [0]), ([14], [3], [0]), ([17, 14], [], [0]), ([16, 18, 14], [], [0]), ([14, 19], [], [0]), ([20], [], [0]), ([21], [], [0]), ([21, 22], [], [0]), ([23], [], [0])] (by kernel_rfl) (by kernel_rfl) rfl rfl rfl
          · refine ⟨?_, ?_, ?_, ?_, ?_, ?_, ?_, ?_, ?_, ?_, ?_, ?_, ?_, ?_, ?_, ?_, ?_, ?_, ?_, ?_, ?_, ?_, ?_, ?_, ?_, trivial⟩
            · refine ⟨fun F => ?_, trivial⟩
              refine WL.q (y_loadN rfl rfl a26 s26 rfl) (Wt.none rfl) rfl rfl ?_
              exact WL.done1 rfl rfl rfl
            · refine ⟨fun F => ?_, trivial⟩
              refine WL.q (y_move rfl) (Wt.none rfl) rfl rfl ?_
              exact WL.done1 rfl rfl rfl
            · refine ⟨fun F => ?_, trivial⟩
              refine WL.fn rfl rfl rfl rfl (f13_c _ _ hr37) ⟨(Le.agd ⟨(Le.refl _), (Le.refl _), (Le.refl _), (Le.refl _), (Le.refl _), (Le.refl _), (Le.refl _), (Le.refl _), (Le.refl _), trivial⟩), (Le.refl _), trivial⟩ (Wt.none rfl) rfl rfl ?_
              exact WL.done1 rfl rfl rfl
            · refine ⟨fun F => ?_, trivial⟩
              refine WL.q (y_loadN rfl rfl a26 s26 rfl) (Wt.none rfl) rfl rfl ?_
              exact WL.done1 rfl rfl rfl
            · refine ⟨fun F => ?_, trivial⟩
              refine WL.q (y_move rfl) (Wt.none rfl) rfl rfl ?_
              exact WL.done1 rfl rfl rfl
            · refine ⟨fun F => ?_, trivial⟩
              refine WL.fn rfl rfl rfl rfl (f14_c _ _ hr38) ⟨(Le.agd ⟨(Le.refl _), (Le.refl _), (Le.refl _), (Le.refl _), (Le.refl _), (Le.refl _), (Le.refl _), (Le.refl _), (Le.refl _), trivial⟩), (Le.refl _), trivial⟩ (Wt.none rfl) rfl rfl ?_
              exact WL.done1 rfl rfl rfl
            · refine ⟨fun F => ?_, trivial⟩
              refine WL.q (y_eqb Try.underlying4 rfl rfl) (Wt.none rfl) rfl rfl ?_
              exact WL.done1 rfl rfl rfl
            · refine ⟨fun F => ?_, trivial⟩
              refine WL.q (y_move rfl) (Wt.none rfl) rfl rfl ?_
              refine WL.cast 14 rfl (Le.ofd (by rw [hb4])) ?_
              exact WL.done2 rfl rfl rfl
            · refine ⟨fun F => ?_, trivial⟩
              refine WL.q (y_loadN rfl rfl a29 s29 rfl) (Wt.yes rfl rfl rfl) rfl rfl ?_
              exact WL.done1 rfl rfl rfl
            · refine ⟨fun F => ?_, trivial⟩
              refine WL.fn rfl rfl rfl rfl (f15_c _ hr39) ⟨(Le.agd ⟨(Le.refl _), (Le.refl _), (Le.refl _), (Le.refl _), (Le.refl _), trivial⟩), trivial⟩ (Wt.yes rfl rfl rfl) rfl rfl ?_
              exact WL.done1 rfl rfl rfl
            · refine ⟨fun F => ?_, trivial⟩
              refine WL.q (y_loadN rfl rfl a29 s29 rfl) (Wt.yes rfl rfl rfl) rfl rfl ?_
              exact WL.done1 rfl rfl rfl
            · refine ⟨fun F => ?_, trivial⟩
              refine WL.fn rfl rfl rfl rfl (f16_c _ hr40) ⟨(Le.agd ⟨(Le.refl _), (Le.refl _), (Le.refl _), (Le.refl _), (Le.refl _), trivial⟩), trivial⟩ (Wt.yes rfl rfl rfl) rfl rfl ?_
              exact WL.done1 rfl rfl rfl
            · refine ⟨fun F => ?_, trivial⟩
              refine WL.q (y_eqb Try.underlying4 rfl rfl) (Wt.yes rfl rfl rfl) rfl rfl ?_
              exact WL.done1 rfl rfl rfl
            · refine ⟨fun F => ?_, trivial⟩
              refine WL.q (y_pick_t rfl rfl) (Wt.none rfl) rfl rfl ?_
              exact WL.done1 rfl rfl rfl
            · refine ⟨fun F => ?_, trivial⟩
              refine WL.q (y_move rfl) (Wt.none rfl) rfl rfl ?_
              refine WL.cast 21 rfl (Le.ofd (by rw [hb5])) ?_
              exact WL.done2 rfl rfl rfl
            · refine ⟨fun F => ?_, trivial⟩
              refine WL.q (y_loadN rfl rfl a26 s26 rfl) (Wt.yes rfl rfl rfl) rfl rfl ?_
              exact WL.done1 rfl rfl rfl
            · refine ⟨fun F => ?_, trivial⟩
              refine WL.fn rfl rfl rfl rfl (f18_c _ hr41) ⟨(Le.agd ⟨(Le.refl _), (Le.refl _), (Le.refl _), (Le.refl _), (Le.refl _), (Le.refl _), (Le.refl _), (Le.refl _), (Le.refl _), trivial⟩), trivial⟩ (Wt.yes rfl rfl rfl) rfl rfl ?_
              exact WL.done1 rfl rfl rfl
            · refine ⟨fun F => ?_, trivial⟩
              refine WL.q (y_loadN rfl rfl a26 s26 rfl) (Wt.yes rfl rfl rfl) rfl rfl ?_
              exact WL.done1 rfl rfl rfl
            · refine ⟨fun F => ?_, trivial⟩
              refine WL.fn rfl rfl rfl rfl (f19_c _ hr42) ⟨(Le.agd ⟨(Le.refl _), (Le.refl _), (Le.refl _), (Le.refl _), (Le.refl _), (Le.refl _), (Le.refl _), (Le.refl _), (Le.refl _), trivial⟩), trivial⟩ (Wt.yes rfl rfl rfl) rfl rfl ?_
              exact WL.done1 rfl rfl rfl
            · refine ⟨fun F => ?_, trivial⟩
              refine WL.fn rfl rfl rfl rfl (f17_c _ _ hr43) ⟨(Le.refl _), (Le.refl _), trivial⟩ (Wt.yes rfl rfl rfl) rfl rfl ?_
              exact WL.done1 rfl rfl rfl
            · refine ⟨fun F => ?_, trivial⟩
              refine WL.q (y_pick_t rfl rfl) (Wt.none rfl) rfl rfl ?_
              exact WL.done1 rfl rfl rfl
            · refine ⟨fun F => ?_, trivial⟩
              refine WL.q (y_move rfl) (Wt.none rfl) rfl rfl ?_
              refine WL.cast 28 rfl (Le.ofd (by rw [hb6])) ?_
              exact WL.done2 rfl rfl rfl
            · refine ⟨fun F => ?_, trivial⟩
              refine WL.skips 1 rfl ?_
              exact WL.done1 rfl rfl rfl
            · refine ⟨fun F => ?_, trivial⟩
              refine WL.q (y_pick_f rfl rfl) (Wt.none rfl) rfl rfl ?_
              exact WL.done1 rfl rfl rfl
            · refine ⟨fun F => ?_, trivial⟩
              refine WL.q (y_assign rfl) (Wt.none rfl) rfl rfl ?_
              exact WL.done1 rfl rfl rfl
          · exact we_lp ⟨false, h, (Sub.cons rfl (Le.refl _) (Sub.nil _)), ⟨⟨rfl, ⟨(Le.refl _), (Le.refl _), (Le.refl _), (Le.refl _), (Le.refl _), (Le.refl _), (Le.refl _), (Le.refl _), (Le.refl _), trivial⟩⟩, ⟨rfl, ⟨(Le.refl _), (Le.refl _), (Le.refl _), (Le.refl _), (Le.refl _), trivial⟩⟩, trivial⟩⟩
      · replace h := condF h hb5
        apply wc_region_all [_, _, _, _, _, _, _, _, _, _, _, _, _, _, _, _, _, _, _, _, _, _, _, _, _] [[], [], [0, 1], [], [], [0, 1, 2, 3, 4], [0, 1, 2, 3, 4, 5], [0, 1, 2, 3, 4, 5, 6], [0, 1, 2, 3, 4, 5, 6, 7], [0, 1, 2, 3, 4, 5, 6, 7, 8], [0, 1, 2, 3, 4, 5, 6, 7], [0, 1, 2, 3, 4, 5, 6, 7, 8, 9, 10], [0, 1, 2, 3, 4, 5, 6, 7, 8, 9, 10, 11], [0, 1, 2, 3, 4, 5, 6, 7, 8, 9, 10, 11, 12], [0, 1, 2, 3, 4, 5, 6, 7, 8, 9, 10, 11, 12, 13], [0, 1, 2, 3, 4, 5, 6, 7, 8, 9, 10, 11, 12, 13, 14], [0, 1, 2, 3, 4, 5, 6, 7, 8, 9, 10, 11, 12, 13, 14, 15], [0, 1, 2, 3, 4, 5, 6, 7, 8, 9, 10, 11, 12, 13, 14], [0, 1, 2, 3, 4, 5, 6, 7, 8, 9, 10, 11, 12, 13, 14, 15, 16, 17], [0, 1, 2, 3, 4, 5, 6, 7, 8, 9, 10, 11, 12, 13, 14, 15, 16, 17, 18], [0, 1, 2, 3, 4, 5, 6, 7, 8, 9, 10, 11, 12, 13, 14, 15, 16, 17, 18, 19], [0, 1, 2, 3, 4, 5, 6, 7, 8, 9, 10, 11, 12, 13, 14, 15, 16, 17, 18, 19, 20], [0, 1, 2, 3, 4, 5, 6, 7, 8, 9, 10, 11, 12, 13, 14, 15, 16, 17, 18, 19, 20, 21], [0, 1, 2, 3, 4, 5, 6, 7, 8, 9, 10, 11, 12, 13, 14, 15, 16, 17, 18, 19, 20, 21, 22], [0, 1, 2, 3, 4, 5, 6, 7, 8, 9, 10, 11, 12, 13, 14, 15, 16, 17, 18, 19, 20, 21, 22, 23]] [] (fun c => List.getD [[.row 26 [.d (D.i .u8 e0.kind), .d (D.i .u8 e0.op), .d (D.i .i64 e0.n), .d (D.i .i64 e0.o), .d (D.i .i64 e0.off), .d (D.i .i64 e0.len), .d (D.i .i64 e0.lo), .d (D.i .i64 e0.hi), .d (.sl (List.map E26 e0.l))], .row 29 [.d (D.i .u8 p1.kind), .d (D.i .i64 p1.o), .d (D.i .i64 p1.off), .d (D.i .i64 p1.len), .d (.sl (List.map E26 p1.e))]]] c []) [([], [3], [0]), ([], [2], [0]), ([0, 1], [], [0]), ([], [3], [0]), ([], [2], [0]), ([3, 4], [], [0]), ([2, 5], [], [0]), ([6], [], [0]), ([7], [4], [0]), ([8, 7], [], [0]), ([7], [4], [0]), ([10, 7], [], [0]), ([9, 11, 7], [], [0]), ([7, 12], [], [0]), ([13], [], [0]), ([14], [], [0]), ([14], [], [0]), ([14], [], [0]), ([14], [], [0]), ([14], [], [0]), ([14, 19], [], [0]), ([20], [], [0]), ([21], [], [0]), ([21, 22], [], [0]), ([23], [], [0])] (by kernel_rfl) (by kernel_rfl) rfl rfl rfl
        · refine ⟨?_, ?_, ?_, ?_, ?_, ?_, ?_, ?_, ?_, ?_, ?_, ?_, ?_, ?_, ?_, ?_, ?_, ?_, ?_, ?_, ?_, ?_, ?_, ?_, ?_, trivial⟩
          · refine ⟨fun F => ?_, trivial⟩
            refine WL.q (y_loadN rfl rfl a26 s26 rfl) (Wt.none rfl) rfl rfl ?_
            exact WL.done1 rfl rfl rfl
          · refine ⟨fun F => ?_, trivial⟩
            refine WL.q (y_move rfl) (Wt.none rfl) rfl rfl ?_
            exact WL.done1 rfl rfl rfl
          · refine ⟨fun F => ?_, trivial⟩
            refine WL.fn rfl rfl rfl rfl (f13_c _ _ hr37) ⟨(Le.agd ⟨(Le.refl _), (Le.refl _), (Le.refl _), (Le.refl _), (Le.refl _), (Le.refl _), (Le.refl _), (Le.refl _), (Le.refl _), trivial⟩), (Le.refl _), trivial⟩ (Wt.none rfl) rfl rfl ?_
            exact WL.done1 rfl rfl rfl
          · refine ⟨fun F => ?_, trivial⟩
            refine WL.q (y_loadN rfl rfl a26 s26 rfl) (Wt.none rfl) rfl rfl ?_
            exact WL.done1 rfl rfl rfl
          · refine ⟨fun F => ?_, trivial⟩
            refine WL.q (y_move rfl) (Wt.none rfl) rfl rfl ?_
            exact WL.done1 rfl rfl rfl
          · refine ⟨fun F => ?_, trivial⟩
            refine WL.fn rfl rfl rfl rfl (f14_c _ _ hr38) ⟨(Le.agd ⟨(Le.refl _), (Le.refl _), (Le.refl _), (Le.refl _), (Le.refl _), (Le.refl _), (Le.refl _), (Le.refl _), (Le.refl _), trivial⟩), (Le.refl _), trivial⟩ (Wt.none rfl) rfl rfl ?_
            exact WL.done1 rfl rfl rfl
          · refine ⟨fun F => ?_, trivial⟩
            refine WL.q (y_eqb Try.underlying4 rfl rfl) (Wt.none rfl) rfl rfl ?_
            exact WL.done1 rfl rfl rfl
          · refine ⟨fun F => ?_, trivial⟩
            refine WL.q (y_move rfl) (Wt.none rfl) rfl rfl ?_
            refine WL.cast 14 rfl (Le.ofd (by rw [hb4])) ?_
            exact WL.done2 rfl rfl rfl
          · refine ⟨fun F => ?_, trivial⟩
            refine WL.q (y_loadN rfl rfl a29 s29 rfl) (Wt.yes rfl rfl rfl) rfl rfl ?_
            exact WL.done1 rfl rfl rfl
          · refine ⟨fun F => ?_, trivial⟩
            refine WL.fn rfl rfl rfl rfl (f15_c _ hr39) ⟨(Le.agd ⟨(Le.refl _), (Le.refl _), (Le.refl _), (Le.refl _), (Le.refl _), trivial⟩), trivial⟩ (Wt.yes rfl rfl rfl) rfl rfl ?_
            exact WL.done1 rfl rfl rfl
          · refine ⟨fun F => ?_, trivial⟩
            refine WL.q (y_loadN rfl rfl a29 s29 rfl) (Wt.yes rfl rfl rfl) rfl rfl ?_
            exact WL.done1 rfl rfl rfl
          · refine ⟨fun F => ?_, trivial⟩
            refine WL.fn rfl rfl rfl rfl (f16_c _ hr40) ⟨(Le.agd ⟨(Le.refl _), (Le.refl _), (Le.refl _), (Le.refl _), (Le.refl _), trivial⟩), trivial⟩ (Wt.yes rfl rfl rfl) rfl rfl ?_
            exact WL.done1 rfl rfl rfl
          · refine ⟨fun F => ?_, trivial⟩
            refine WL.q (y_eqb Try.underlying4 rfl rfl) (Wt.yes rfl rfl rfl) rfl rfl ?_
            exact WL.done1 rfl rfl rfl
          · refine ⟨fun F => ?_, trivial⟩
            refine WL.q (y_pick_t rfl rfl) (Wt.none rfl) rfl rfl ?_
            exact WL.done1 rfl rfl rfl
          · refine ⟨fun F => ?_, trivial⟩
            refine WL.q (y_move rfl) (Wt.none rfl) rfl rfl ?_
            refine WL.cast 21 rfl (Le.ofd (by rw [hb5])) ?_
            exact WL.done2 rfl rfl rfl
          · refine ⟨fun F => ?_, trivial⟩
            refine WL.skips 1 rfl ?_
            exact WL.done1 rfl rfl rfl
          · refine ⟨fun F => ?_, trivial⟩
            refine WL.skips 1 rfl ?_
            exact WL.done1 rfl rfl rfl
          · refine ⟨fun F => ?_, trivial⟩
            refine WL.skips 1 rfl ?_
            exact WL.done1 rfl rfl rfl
          · refine ⟨fun F => ?_, trivial⟩
            refine WL.skips 1 rfl ?_
            exact WL.done1 rfl rfl rfl
          · refine ⟨fun F => ?_, trivial⟩
            refine WL.skips 1 rfl ?_
            exact WL.done1 rfl rfl rfl
          · refine ⟨fun F => ?_, trivial⟩
            refine WL.q (y_pick_f rfl rfl) (Wt.none rfl) rfl rfl ?_
            exact WL.done1 rfl rfl rfl
          · refine ⟨fun F => ?_, trivial⟩
            refine WL.q (y_move rfl) (Wt.none rfl) rfl rfl ?_
            exact WL.done1 rfl rfl rfl
          · refine ⟨fun F => ?_, trivial⟩
            refine WL.skips 1 rfl ?_
            exact WL.done1 rfl rfl rfl
          · refine ⟨fun F => ?_, trivial⟩
            refine WL.q (y_pick_f rfl rfl) (Wt.none rfl) rfl rfl ?_
            exact WL.done1 rfl rfl rfl
          · refine ⟨fun F => ?_, trivial⟩
            refine WL.q (y_assign rfl) (Wt.none rfl) rfl rfl ?_
            exact WL.done1 rfl rfl rfl
        · exact we_lp ⟨false, h, (Sub.cons rfl (Le.refl _) (Sub.nil _)), ⟨⟨rfl, ⟨(Le.refl _), (Le.refl _), (Le.refl _), (Le.refl _), (Le.refl _), (Le.refl _), (Le.refl _), (Le.refl _), (Le.refl _), trivial⟩⟩, ⟨rfl, ⟨(Le.refl _), (Le.refl _), (Le.refl _), (Le.refl _), (Le.refl _), trivial⟩⟩, trivial⟩⟩
    · replace h := condF h hb4
      apply wc_region_all [_, _, _, _, _, _, _, _, _, _, _, _, _, _, _, _, _, _, _, _, _, _, _, _, _] [[], [], [0, 1], [], [], [0, 1, 2, 3, 4], [0, 1, 2, 3, 4, 5], [0, 1, 2, 3, 4, 5, 6], [0, 1, 2, 3, 4, 5, 6, 7], [0, 1, 2, 3, 4, 5, 6, 7, 8], [0, 1, 2, 3, 4, 5, 6, 7], [0, 1, 2, 3, 4, 5, 6, 7, 8, 9, 10], [0, 1, 2, 3, 4, 5, 6, 7, 8, 9, 10, 11], [0, 1, 2, 3, 4, 5, 6, 7, 8, 9, 10, 11, 12], [0, 1, 2, 3, 4, 5, 6, 7, 8, 9, 10, 11, 12, 13], [0, 1, 2, 3, 4, 5, 6, 7, 8, 9, 10, 11, 12, 13, 14], [0, 1, 2, 3, 4, 5, 6, 7, 8, 9, 10, 11, 12, 13, 14, 15], [0, 1, 2, 3, 4, 5, 6, 7, 8, 9, 10, 11, 12, 13, 14], [0, 1, 2, 3, 4, 5, 6, 7, 8, 9, 10, 11, 12, 13, 14, 15, 16, 17], [0, 1, 2, 3, 4, 5, 6, 7, 8, 9, 10, 11, 12, 13, 14, 15, 16, 17, 18], [0, 1, 2, 3, 4, 5, 6, 7, 8, 9, 10, 11, 12, 13, 14, 15, 16, 17, 18, 19], [0, 1, 2, 3, 4, 5, 6, 7, 8, 9, 10, 11, 12, 13, 14, 15, 16, 17, 18, 19, 20], [0, 1, 2, 3, 4, 5, 6, 7, 8, 9, 10, 11, 12, 13, 14, 15, 16, 17, 18, 19, 20, 21], [0, 1, 2, 3, 4, 5, 6, 7, 8, 9, 10, 11, 12, 13, 14, 15, 16, 17, 18, 19, 20, 21, 22], [0, 1, 2, 3, 4, 5, 6, 7, 8, 9, 10, 11, 12, 13, 14, 15, 16, 17, 18, 19, 20, 21, 22, 23]] [] (fun c => List.getD [[.row 26 [.d (D.i .u8 e0.kind), .d (D.i .u8 e0.op), .d (D.i .i64 e0.n), .d (D.i .i64 e0.o), .d (D.i .i64 e0.off), .d (D.i .i64 e0.len), .d (D.i .i64 e0.lo), .d (D.i .i64 e0.hi), .d (.sl (List.map E26 e0.l))], .row 29 [.d (D.i .u8 p1.kind), .d (D.i .i64 p1.o), .d (D.i .i64 p1.off), .d (D.i .i64 p1.len), .d (.sl (List.map E26 p1.e))]]] c []) [([], [3], [0]), ([], [2], [0]), ([0, 1], [], [0]), ([], [3], [0]), ([], [2], [0]), ([3, 4], [], [0]), ([2, 5], [], [0]), ([6], [], [0]), ([7], [], [0]), ([7], [], [0]), ([7], [], [0]), ([7], [], [0]), ([7], [], [0]), ([7, 12], [], [0]), ([13], [], [0]), ([14], [], [0]), ([14], [], [0]), ([14], [], [0]), ([14], [], [0]), ([14], [], [0]), ([14, 19], [], [0]), ([20], [], [0]), ([21], [], [0]), ([21, 22], [], [0]), ([23], [], [0])] (by kernel_rfl) (by kernel_rfl) rfl rfl rfl
      · refine ⟨?_, ?_, ?_, ?_, ?_, ?_, ?_, ?_, ?_, ?_, ?_, ?_, ?_, ?_, ?_, ?_, ?_, ?_, ?_, ?_, ?_, ?_, ?_, ?_, ?_, trivial⟩
        · refine ⟨fun F => ?_, trivial⟩
          refine WL.q (y_loadN rfl rfl a26 s26 rfl) (Wt.none rfl) rfl rfl ?_
          exact WL.done1 rfl rfl rfl
        · refine ⟨fun F => ?_, trivial⟩
          refine WL.q (y_move rfl) (Wt.none rfl) rfl rfl ?_
          exact WL.done1 rfl rfl rfl
        · refine ⟨fun F => ?_, trivial⟩
          refine WL.fn rfl rfl rfl rfl (f13_c _ _ hr37) ⟨(Le.agd ⟨(Le.refl _), (Le.refl _), (Le.refl _), (Le.refl _), (Le.refl _), (Le.refl _), (Le.refl _), (Le.refl _), (Le.refl _), trivial⟩), (Le.refl _), trivial⟩ (Wt.none rfl) rfl rfl ?_
          exact WL.done1 rfl rfl rfl
        · refine ⟨fun F => ?_, trivial⟩
          refine WL.q (y_loadN rfl rfl a26 s26 rfl) (Wt.none rfl) rfl rfl ?_
          exact WL.done1 rfl rfl rfl
        · refine ⟨fun F => ?_, trivial⟩
          refine WL.q (y_move rfl) (Wt.none rfl) rfl rfl ?_
          exact WL.done1 rfl rfl rfl
        · refine ⟨fun F => ?_, trivial⟩
          refine WL.fn rfl rfl rfl rfl (f14_c _ _ hr38) ⟨(Le.agd ⟨(Le.refl _), (Le.refl _), (Le.refl _), (Le.refl _), (Le.refl _), (Le.refl _), (Le.refl _), (Le.refl _), (Le.refl _), trivial⟩), (Le.refl _), trivial⟩ (Wt.none rfl) rfl rfl ?_
          exact WL.done1 rfl rfl rfl
        · refine ⟨fun F => ?_, trivial⟩
          refine WL.q (y_eqb Try.underlying4 rfl rfl) (Wt.none rfl) rfl rfl ?_
          exact WL.done1 rfl rfl rfl
        · refine ⟨fun F => ?_, trivial⟩
          refine WL.q (y_move rfl) (Wt.none rfl) rfl rfl ?_
          refine WL.cast 14 rfl (Le.ofd (by rw [hb4])) ?_
          exact WL.done2 rfl rfl rfl
        · refine ⟨fun F => ?_, trivial⟩
          refine WL.skips 1 rfl ?_
          exact WL.done1 rfl rfl rfl
        · refine ⟨fun F => ?_, trivial⟩
          refine WL.skips 1 rfl ?_
          exact WL.done1 rfl rfl rfl
        · refine ⟨fun F => ?_, trivial⟩
          refine WL.skips 1 rfl ?_
          exact WL.done1 rfl rfl rfl
        · refine ⟨fun F => ?_, trivial⟩
          refine WL.skips 1 rfl ?_
          exact WL.done1 rfl rfl rfl
        · refine ⟨fun F => ?_, trivial⟩
          refine WL.skips 1 rfl ?_
          exact WL.done1 rfl rfl rfl
        · refine ⟨fun F => ?_, trivial⟩
          refine WL.q (y_pick_f rfl rfl) (Wt.none rfl) rfl rfl ?_
          exact WL.done1 rfl rfl rfl
        · refine ⟨fun F => ?_, trivial⟩
          refine WL.q (y_move rfl) (Wt.none rfl) rfl rfl ?_
          exact WL.done1 rfl rfl rfl
        · refine ⟨fun F => ?_, trivial⟩
          refine WL.skips 1 rfl ?_
          exact WL.done1 rfl rfl rfl
        · refine ⟨fun F => ?_, trivial⟩
          refine WL.skips 1 rfl ?_
          exact WL.done1 rfl rfl rfl
        · refine ⟨fun F => ?_, trivial⟩
          refine WL.skips 1 rfl ?_
          exact WL.done1 rfl rfl rfl
        · refine ⟨fun F => ?_, trivial⟩
          refine WL.skips 1 rfl ?_
          exact WL.done1 rfl rfl rfl
        · refine ⟨fun F => ?_, trivial⟩
          refine WL.skips 1 rfl ?_
          exact WL.done1 rfl rfl rfl
        · refine ⟨fun F => ?_, trivial⟩
          refine WL.q (y_pick_f rfl rfl) (Wt.none rfl) rfl rfl ?_
          exact WL.done1 rfl rfl rfl
        · refine ⟨fun F => ?_, trivial⟩
          refine WL.q (y_move rfl) (Wt.none rfl) rfl rfl ?_
          exact WL.done1 rfl rfl rfl
        · refine ⟨fun F => ?_, trivial⟩
          refine WL.skips 1 rfl ?_
          exact WL.done1 rfl rfl rfl
        · refine ⟨fun F => ?_, trivial⟩
          refine WL.q (y_pick_f rfl rfl) (Wt.none rfl) rfl rfl ?_
          exact WL.done1 rfl rfl rfl
        · refine ⟨fun F => ?_, trivial⟩
          refine WL.q (y_assign rfl) (Wt.none rfl) rfl rfl ?_
          exact WL.done1 rfl rfl rfl
      · exact we_lp ⟨false, h, (Sub.cons rfl (Le.refl _) (Sub.nil _)), ⟨⟨rfl, ⟨(Le.refl _), (Le.refl _), (Le.refl _), (Le.refl _), (Le.refl _), (Le.refl _), (Le.refl _), (Le.refl _), (Le.refl _), trivial⟩⟩, ⟨rfl, ⟨(Le.refl _), (Le.refl _), (Le.refl _), (Le.refl _), (Le.refl _), trivial⟩⟩, trivial⟩⟩
  · rintro env1 st1 ⟨t35, h, hsub, hst⟩
    subst hk36
    dsimp only at h
    refine WC.sub hsub (WC.weak hst ?_)
    refine wc_ret ?_
    obtain rfl := Option.some.inj h
    exact we_ret_fn (rs1 rfl (rv_t rfl)) (Le.refl _)
end Go.Proofs.Ytjjgmpmhfodmeaa
