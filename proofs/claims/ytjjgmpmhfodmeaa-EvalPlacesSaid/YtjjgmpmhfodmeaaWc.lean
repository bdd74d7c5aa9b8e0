/- The walks of functions. -/
import Derived.Test.YtjjgmpmhfodmeaaProg
import Derived.KernelRfl
import Derived.Test.YtjjgmpmhfodmeaaF
import Derived.Test.YtjjgmpmhfodmeaaWb
set_option maxHeartbeats 4000000
namespace Go.Proofs.Ytjjgmpmhfodmeaa
open Go Go.Sk
theorem f20_c  {r : Bool} (h : f20  = some r) : Pu Try.prog 20 [] (.b r) := by
  unfold f20 at h
  refine fn_intro Try.func20 (by kernel_rfl) rfl rfl rfl (fun φφ ww => ?_)
  refine wc_seq ?_
  refine wc_region ?_
  refine WL.q (y_assign rfl) (Wt.none rfl) rfl rfl ?_
  refine WL.nil ?_
  refine we_seq ?_
  refine wc_seq ?_
  refine wc_region ?_
  refine WL.s ((NewOs.b (n_buildSlice l56 z2 rfl (by decide) (by decide) rfl rfl rfl (by decide))).does) (Wt.none rfl) rfl rfl ?_
  refine WL.s ((NewOs.b (n_buildSlice l56 z2 rfl (by decide) (by decide) rfl rfl rfl (by decide))).does) (Wt.none rfl) rfl rfl ?_
  refine WL.s ((b_buildNone l56).does) (Wt.none rfl) rfl rfl ?_
  refine WL.freezeX [11] [] 0 (List.map E2 [7]) rfl (encA_map E2_eq [7]) ⟨rfl, trivial⟩ trivial ?_
  refine WL.freezeX [12] [] 1 (List.map E2 [1, 2, 3]) rfl (encA_map E2_eq [1, 2, 3]) ⟨rfl, trivial⟩ trivial ?_
  refine WL.s ((NewOs.b (NewOs.weak (es' := List.map (encA E56) [[7], [1, 2, 3], ([] : List Int)]) (n_buildSlice l37 z56 rfl (by decide) (by decide) rfl rfl rfl (by decide)) (by exact ⟨⟨(Le.refl _), trivial⟩, ⟨(Le.refl _), trivial⟩, ⟨(Le.fs _), trivial⟩, trivial⟩))).does) (Wt.none rfl) rfl rfl ?_
  refine WL.s ((NewOs.b (n_buildSlice l33 z3 rfl (by decide) (by decide) rfl rfl rfl (by decide))).does) (Wt.none rfl) rfl rfl ?_
  refine WL.q (y_assign rfl) (Wt.none rfl) rfl rfl ?_
  refine WL.q (y_assign rfl) (Wt.none rfl) rfl rfl ?_
  refine WL.nil ?_
  refine we_seq ?_
  refine wc_seq ?_
  refine wc_region ?_
  refine WL.q (y_assign rfl) (Wt.none rfl) rfl rfl ?_
  refine WL.nil ?_
  refine we_seq ?_
  refine wc_seq ?_
  refine wc_region ?_
  refine WL.q (y_move rfl) (Wt.none rfl) rfl rfl ?_
  refine WL.q (y_move rfl) (Wt.none rfl) rfl rfl ?_
  refine WL.fn rfl rfl rfl rfl (f39_c _ _) ⟨(Le.refl _), (Le.refl _), trivial⟩ (Wt.none rfl) rfl rfl ?_
  refine WL.freezeX [14, 1, 16] [] 2 (List.map E56 [[7], [1, 2, 3], ([] : List Int)]) rfl (encA_map E56_eq [[7], [1, 2, 3], ([] : List Int)]) ⟨rfl, rfl, rfl, trivial⟩ trivial ?_
  refine WL.freezeX [15, 2, 17] [] 3 (List.map E3 [4]) rfl (encA_map E3_eq [4]) ⟨rfl, rfl, rfl, trivial⟩ trivial ?_
  replace h := bindS h
  obtain ⟨r185, hr185, h⟩ := h
  refine WL.fn rfl rfl rfl rfl (f38_c _ _ _ _ hr185) ⟨(Le.refl _), (Le.refl _), (Le.refl _), (Le.refl _), trivial⟩ (Wt.none rfl) rfl rfl ?_
  refine WL.q (y_move rfl) (Wt.none rfl) rfl rfl ?_
  replace h := bindS h
  obtain ⟨b186, hb186, h⟩ := h
  apply WL.grp 5 (t := 20) (d := 25) (z := b186)
  · exact rfl
  · intro hg20
    have h := condT hb186 hg20
    refine WL.q (y_move rfl) (Wt.yes rfl rfl rfl) rfl rfl ?_
    refine WL.q (y_move rfl) (Wt.yes rfl rfl rfl) rfl rfl ?_
    refine WL.fn rfl rfl rfl rfl (f39_c _ _) ⟨(Le.refl _), (Le.refl _), trivial⟩ (Wt.yes rfl rfl rfl) rfl rfl ?_
    replace h := bindS h
    obtain ⟨r187, hr187, h⟩ := h
    refine WL.fn rfl rfl rfl rfl (f24_c _ _ _ hr187) ⟨(Le.refl _), (Le.refl _), (Le.refl _), trivial⟩ (Wt.yes rfl rfl rfl) rfl rfl ?_
    refine WL.q (y_pick_t rfl rfl) (Wt.none rfl) rfl rfl ?_
    obtain rfl := Option.some.inj h
    exact WL.nil ⟨rfl, [_, _, _, _, _], rfl, rfl, rfl⟩
  · intro hg20
    have h := condF hb186 hg20
    refine WL.skips 4 rfl ?_
    refine WL.q (y_pick_f rfl rfl) (Wt.none rfl) rfl rfl ?_
    obtain rfl := Option.some.inj h
    exact WL.nil ⟨rfl, [_, _, _, _, _], rfl, rfl, rfl⟩
  refine WL.q (y_move rfl) (Wt.none rfl) rfl rfl ?_
  replace h := bindS h
  obtain ⟨b188, hb188, h⟩ := h
  apply WL.grp 6 (t := 26) (d := 32) (z := b188)
  · exact rfl
  · intro hg26
    have h := condT hb188 hg26
    refine WL.q (y_move rfl) (Wt.yes rfl rfl rfl) rfl rfl ?_
    refine WL.q (y_move rfl) (Wt.yes rfl rfl rfl) rfl rfl ?_
    refine WL.q (y_move rfl) (Wt.yes rfl rfl rfl) rfl rfl ?_
    refine WL.fn rfl rfl rfl rfl (f51_c _) ⟨(Le.refl _), trivial⟩ (Wt.yes rfl rfl rfl) rfl rfl ?_
    replace h := bindS h
    obtain ⟨r189, hr189, h⟩ := h
    refine WL.fn rfl rfl rfl rfl (f38_c _ _ _ _ hr189) ⟨(Le.refl _), (Le.refl _), (Le.refl _), (Le.refl _), trivial⟩ (Wt.yes rfl rfl rfl) rfl rfl ?_
    refine WL.q (y_pick_t rfl rfl) (Wt.none rfl) rfl rfl ?_
    obtain rfl := Option.some.inj h
    exact WL.nil ⟨rfl, [_, _, _, _, _, _], rfl, rfl, rfl⟩
  · intro hg26
    have h := condF hb188 hg26
    refine WL.skips 5 rfl ?_
    refine WL.q (y_pick_f rfl rfl) (Wt.none rfl) rfl rfl ?_
    obtain rfl := Option.some.inj h
    exact WL.nil ⟨rfl, [_, _, _, _, _, _], rfl, rfl, rfl⟩
  refine WL.q (y_move rfl) (Wt.none rfl) rfl rfl ?_
  replace h := bindS h
  obtain ⟨b190, hb190, h⟩ := h
  apply WL.grp 6 (t := 33) (d := 39) (z := b190)
  · exact rfl
  · intro hg33
    have h := condT hb190 hg33
    refine WL.q (y_move rfl) (Wt.yes rfl rfl rfl) rfl rfl ?_
    refine WL.q (y_move rfl) (Wt.yes rfl rfl rfl) rfl rfl ?_
    refine WL.q (y_move rfl) (Wt.yes rfl rfl rfl) rfl rfl ?_
    refine WL.fn rfl rfl rfl rfl (f51_c _) ⟨(Le.refl _), trivial⟩ (Wt.yes rfl rfl rfl) rfl rfl ?_
    replace h := bindS h
    obtain ⟨r191, hr191, h⟩ := h
    refine WL.fn rfl rfl rfl rfl (f24_c _ _ _ hr191) ⟨(Le.refl _), (Le.refl _), (Le.refl _), trivial⟩ (Wt.yes rfl rfl rfl) rfl rfl ?_
    refine WL.q (y_pick_t rfl rfl) (Wt.none rfl) rfl rfl ?_
    obtain rfl := Option.some.inj h
    exact WL.nil ⟨rfl, [_, _, _, _, _, _], rfl, rfl, rfl⟩
  · intro hg33
    have h := condF hb190 hg33
    refine WL.skips 5 rfl ?_
    refine WL.q (y_pick_f rfl rfl) (Wt.none rfl) rfl rfl ?_
    obtain rfl := Option.some.inj h
    exact WL.nil ⟨rfl, [_, _, _, _, _, _], rfl, rfl, rfl⟩
  refine WL.q (y_move rfl) (Wt.none rfl) rfl rfl ?_
  replace h := bindS h
  obtain ⟨b192, hb192, h⟩ := h
  apply WL.grp 7 (t := 40) (d := 47) (z := b192)
  · exact rfl
  · intro hg40
    have h := condT hb192 hg40
    refine WL.q (y_move rfl) (Wt.yes rfl rfl rfl) rfl rfl ?_
    refine WL.q (y_move rfl) (Wt.yes rfl rfl rfl) rfl rfl ?_
    refine WL.fn rfl rfl rfl rfl (f26_c _) ⟨(Le.refl _), trivial⟩ (Wt.yes rfl rfl rfl) rfl rfl ?_
    refine WL.fn rfl rfl rfl rfl (f26_c _) ⟨(Le.refl _), trivial⟩ (Wt.yes rfl rfl rfl) rfl rfl ?_
    refine WL.fn rfl rfl rfl rfl (f27_c _ _ _) ⟨(Le.refl _), (Le.refl _), (Le.refl _), trivial⟩ (Wt.yes rfl rfl rfl) rfl rfl ?_
    replace h := bindS h
    obtain ⟨r193, hr193, h⟩ := h
    refine WL.fn rfl rfl rfl rfl (f38_c _ _ _ _ hr193) ⟨(Le.refl _), (Le.refl _), (Le.refl _), (Le.refl _), trivial⟩ (Wt.yes rfl rfl rfl) rfl rfl ?_
    refine WL.q (y_pick_t rfl rfl) (Wt.none rfl) rfl rfl ?_
    obtain rfl := Option.some.inj h
    exact WL.nil ⟨rfl, [_, _, _, _, _, _, _], rfl, rfl, rfl⟩
  · intro hg40
    have h := condF hb192 hg40
    refine WL.skips 6 rfl ?_
    refine WL.q (y_pick_f rfl rfl) (Wt.none rfl) rfl rfl ?_
    obtain rfl := Option.some.inj h
    exact WL.nil ⟨rfl, [_, _, _, _, _, _, _], rfl, rfl, rfl⟩
  refine WL.q (y_move rfl) (Wt.none rfl) rfl rfl ?_
  replace h := bindS h
  obtain ⟨b194, hb194, h⟩ := h
  apply WL.grp 7 (t := 48) (d := 55) (z := b194)
  · exact rfl
  · intro hg48
    have h := condT hb194 hg48
    refine WL.q (y_move rfl) (Wt.yes rfl rfl rfl) rfl rfl ?_
    refine WL.q (y_move rfl) (Wt.yes rfl rfl rfl) rfl rfl ?_
    refine WL.fn rfl rfl rfl rfl (f26_c _) ⟨(Le.refl _), trivial⟩ (Wt.yes rfl rfl rfl) rfl rfl ?_
    refine WL.fn rfl rfl rfl rfl (f26_c _) ⟨(Le.refl _), trivial⟩ (Wt.yes rfl rfl rfl) rfl rfl ?_
    refine WL.fn rfl rfl rfl rfl (f27_c _ _ _) ⟨(Le.refl _), (Le.refl _), (Le.refl _), trivial⟩ (Wt.yes rfl rfl rfl) rfl rfl ?_
    replace h := bindS h
    obtain ⟨r195, hr195, h⟩ := h
    refine WL.fn rfl rfl rfl rfl (f38_c _ _ _ _ hr195) ⟨(Le.refl _), (Le.refl _), (Le.refl _), (Le.refl _), trivial⟩ (Wt.yes rfl rfl rfl) rfl rfl ?_
    refine WL.q (y_pick_t rfl rfl) (Wt.none rfl) rfl rfl ?_
    obtain rfl := Option.some.inj h
    exact WL.nil ⟨rfl, [_, _, _, _, _, _, _], rfl, rfl, rfl⟩
  · intro hg48
    have h := condF hb194 hg48
    refine WL.skips 6 rfl ?_
    refine WL.q (y_pick_f rfl rfl) (Wt.none rfl) rfl rfl ?_
    obtain rfl := Option.some.inj h
    exact WL.nil ⟨rfl, [_, _, _, _, _, _, _], rfl, rfl, rfl⟩
  refine WL.q (y_assign rfl) (Wt.none rfl) rfl rfl ?_
  refine WL.nil ?_
  refine we_seq ?_
  refine wc_seq ?_
  refine wc_region ?_
  refine WL.q (y_move rfl) (Wt.none rfl) rfl rfl ?_
  refine WL.q (y_move rfl) (Wt.none rfl) rfl rfl ?_
  refine WL.fn rfl rfl rfl rfl (f26_c _) ⟨(Le.refl _), trivial⟩ (Wt.none rfl) rfl rfl ?_
  refine WL.fn rfl rfl rfl rfl (f52_c _) ⟨(Le.refl _), trivial⟩ (Wt.none rfl) rfl rfl ?_
  refine WL.fn rfl rfl rfl rfl (f39_c _ _) ⟨(Le.refl _), (Le.refl _), trivial⟩ (Wt.none rfl) rfl rfl ?_
  refine WL.fn rfl rfl rfl rfl (f27_c _ _ _) ⟨(Le.refl _), (Le.refl _), (Le.refl _), trivial⟩ (Wt.none rfl) rfl rfl ?_
  refine WL.s ((NewOs.b (n_buildSlice l24 z26 rfl (by decide) (by decide) rfl rfl rfl (by decide))).does) (Wt.none rfl) rfl rfl ?_
  refine WL.freezeX [62] [] 4 (List.map E26 [(f26 5), (f27 3 (f52 0) (f39 0 0))]) rfl (encA_map E26_eq [(f26 5), (f27 3 (f52 0) (f39 0 0))]) ⟨rfl, trivial⟩ trivial ?_
  refine WL.fn rfl rfl rfl rfl (f23_c _ _) ⟨(Le.refl _), (Le.refl _), trivial⟩ (Wt.none rfl) rfl rfl ?_
  replace h := bindS h
  obtain ⟨r196, hr196, h⟩ := h
  refine WL.fn rfl rfl rfl rfl (f38_c _ _ _ _ hr196) ⟨(Le.refl _), (Le.refl _), (Le.refl _), (Le.refl _), trivial⟩ (Wt.none rfl) rfl rfl ?_
  refine WL.q (y_move rfl) (Wt.none rfl) rfl rfl ?_
  replace h := bindS h
  obtain ⟨b197, hb197, h⟩ := h
  apply WL.grp 13 (t := 65) (d := 78) (z := b197)
  · exact rfl
  · intro hg65
    have h := condT hb197 hg65
    refine WL.q (y_move rfl) (Wt.yes rfl rfl rfl) rfl rfl ?_
    refine WL.q (y_move rfl) (Wt.yes rfl rfl rfl) rfl rfl ?_
    refine WL.fn rfl rfl rfl rfl (f26_c _) ⟨(Le.refl _), trivial⟩ (Wt.yes rfl rfl rfl) rfl rfl ?_
    refine WL.fn rfl rfl rfl rfl (f26_c _) ⟨(Le.refl _), trivial⟩ (Wt.yes rfl rfl rfl) rfl rfl ?_
    refine WL.fn rfl rfl rfl rfl (f52_c _) ⟨(Le.refl _), trivial⟩ (Wt.yes rfl rfl rfl) rfl rfl ?_
    refine WL.fn rfl rfl rfl rfl (f52_c _) ⟨(Le.refl _), trivial⟩ (Wt.yes rfl rfl rfl) rfl rfl ?_
    refine WL.fn rfl rfl rfl rfl (f27_c _ _ _) ⟨(Le.refl _), (Le.refl _), (Le.refl _), trivial⟩ (Wt.yes rfl rfl rfl) rfl rfl ?_
    refine WL.s ((NewOs.data (n_buildSlice l24 z26 rfl (by decide) (by decide) rfl rfl rfl (by decide)) (by exact encA_map E26_eq [(f26 2), (f27 2 (f52 1) (f52 0))])).does) (Wt.yes rfl rfl rfl) rfl rfl ?_
    refine WL.fn rfl rfl rfl rfl (f23_c _ _) ⟨(Le.refl _), (Le.refl _), trivial⟩ (Wt.yes rfl rfl rfl) rfl rfl ?_
    refine WL.s ((NewOs.data (n_buildSlice l24 z26 rfl (by decide) (by decide) rfl rfl rfl (by decide)) (by exact encA_map E26_eq [(f26 1), (f23 10 [(f26 2), (f27 2 (f52 1) (f52 0))])])).does) (Wt.yes rfl rfl rfl) rfl rfl ?_
    refine WL.fn rfl rfl rfl rfl (f23_c _ _) ⟨(Le.refl _), (Le.refl _), trivial⟩ (Wt.yes rfl rfl rfl) rfl rfl ?_
    replace h := bindS h
    obtain ⟨r198, hr198, h⟩ := h
    refine WL.fn rfl rfl rfl rfl (f38_c _ _ _ _ hr198) ⟨(Le.refl _), (Le.refl _), (Le.refl _), (Le.refl _), trivial⟩ (Wt.yes rfl rfl rfl) rfl rfl ?_
    refine WL.q (y_pick_t rfl rfl) (Wt.none rfl) rfl rfl ?_
    obtain rfl := Option.some.inj h
    exact WL.nil ⟨rfl, [_, _, _, _, _, _, _, _, _, _, _, _, _], rfl, rfl, rfl⟩
  · intro hg65
    have h := condF hb197 hg65
    refine WL.skips 12 rfl ?_
    refine WL.q (y_pick_f rfl rfl) (Wt.none rfl) rfl rfl ?_
    obtain rfl := Option.some.inj h
    exact WL.nil ⟨rfl, [_, _, _, _, _, _, _, _, _, _, _, _, _], rfl, rfl, rfl⟩
  refine WL.q (y_assign rfl) (Wt.none rfl) rfl rfl ?_
  refine WL.nil ?_
  refine we_seq ?_
  refine wc_seq ?_
  refine wc_region ?_
  refine WL.q (y_move rfl) (Wt.none rfl) rfl rfl ?_
  refine WL.q (y_move rfl) (Wt.none rfl) rfl rfl ?_
  refine WL.q (y_build p26 z26 rfl rfl) (Wt.none rfl) rfl rfl ?_
  refine WL.s ((NewOs.b (NewOs.weak (es' := List.map (encA R26) [(CE.mk 12 0 0 0 0 0 0 0 [])]) (n_buildSlice l24 z26 rfl (by decide) (by decide) rfl rfl rfl (by decide)) (by exact ⟨⟨(Le.refl _), (Le.refl _), (Le.refl _), (Le.refl _), (Le.refl _), (Le.refl _), (Le.refl _), (Le.refl _), Le.nil, trivial⟩, trivial⟩))).does) (Wt.none rfl) rfl rfl ?_
  refine WL.freezeX [82] [] 5 (List.map E26 [(CE.mk 12 0 0 0 0 0 0 0 [])]) rfl (encA_map E26_eq [(CE.mk 12 0 0 0 0 0 0 0 [])]) ⟨rfl, trivial⟩ trivial ?_
  refine WL.fn rfl rfl rfl rfl (f23_c _ _) ⟨(Le.refl _), (Le.refl _), trivial⟩ (Wt.none rfl) rfl rfl ?_
  replace h := bindS h
  obtain ⟨r199, hr199, h⟩ := h
  refine WL.fn rfl rfl rfl rfl (f38_c _ _ _ _ hr199) ⟨(Le.refl _), (Le.refl _), (Le.refl _), (Le.refl _), trivial⟩ (Wt.none rfl) rfl rfl ?_
  refine WL.q (y_move rfl) (Wt.none rfl) rfl rfl ?_
  replace h := bindS h
  obtain ⟨b200, hb200, h⟩ := h
  apply WL.grp 7 (t := 85) (d := 92) (z := b200)
  · exact rfl
  · intro hg85
    have h := condT hb200 hg85
    refine WL.q (y_move rfl) (Wt.yes rfl rfl rfl) rfl rfl ?_
    refine WL.q (y_move rfl) (Wt.yes rfl rfl rfl) rfl rfl ?_
    refine WL.fn rfl rfl rfl rfl (f26_c _) ⟨(Le.refl _), trivial⟩ (Wt.yes rfl rfl rfl) rfl rfl ?_
    refine WL.s ((NewOs.data (n_buildSlice l24 z26 rfl (by decide) (by decide) rfl rfl rfl (by decide)) (by exact encA_map E26_eq [(f26 0)])).does) (Wt.yes rfl rfl rfl) rfl rfl ?_
    refine WL.fn rfl rfl rfl rfl (f23_c _ _) ⟨(Le.refl _), (Le.refl _), trivial⟩ (Wt.yes rfl rfl rfl) rfl rfl ?_
    replace h := bindS h
    obtain ⟨r201, hr201, h⟩ := h
    refine WL.fn rfl rfl rfl rfl (f24_c _ _ _ hr201) ⟨(Le.refl _), (Le.refl _), (Le.refl _), trivial⟩ (Wt.yes rfl rfl rfl) rfl rfl ?_
    refine WL.q (y_pick_t rfl rfl) (Wt.none rfl) rfl rfl ?_
    obtain rfl := Option.some.inj h
    exact WL.nil ⟨rfl, [_, _, _, _, _, _, _], rfl, rfl, rfl⟩
  · intro hg85
    have h := condF hb200 hg85
    refine WL.skips 6 rfl ?_
    refine WL.q (y_pick_f rfl rfl) (Wt.none rfl) rfl rfl ?_
    obtain rfl := Option.some.inj h
    exact WL.nil ⟨rfl, [_, _, _, _, _, _, _], rfl, rfl, rfl⟩
  refine WL.q (y_move rfl) (Wt.none rfl) rfl rfl ?_
  replace h := bindS h
  obtain ⟨b202, hb202, h⟩ := h
  apply WL.grp 5 (t := 93) (d := 98) (z := b202)
  · exact rfl
  · intro hg93
    have h := condT hb202 hg93
    refine WL.q (y_move rfl) (Wt.yes rfl rfl rfl) rfl rfl ?_
    refine WL.q (y_move rfl) (Wt.yes rfl rfl rfl) rfl rfl ?_
    refine WL.q (y_build p26 z26 rfl rfl) (Wt.yes rfl rfl rfl) rfl rfl ?_
    replace h := bindS h
    obtain ⟨r203, hr203, h⟩ := h
    refine WL.fn rfl rfl rfl rfl (f38_c _ _ _ _ hr203) ⟨(Le.refl _), (Le.refl _), (Le.agd ⟨(Le.refl _), (Le.refl _), (Le.refl _), (Le.refl _), (Le.refl _), (Le.refl _), (Le.refl _), (Le.refl _), Le.nil, trivial⟩), (Le.refl _), trivial⟩ (Wt.yes rfl rfl rfl) rfl rfl ?_
    refine WL.q (y_pick_t rfl rfl) (Wt.none rfl) rfl rfl ?_
    obtain rfl := Option.some.inj h
    exact WL.nil ⟨rfl, [_, _, _, _, _], rfl, rfl, rfl⟩
  · intro hg93
    have h := condF hb202 hg93
    refine WL.skips 4 rfl ?_
    refine WL.q (y_pick_f rfl rfl) (Wt.none rfl) rfl rfl ?_
    obtain rfl := Option.some.inj h
    exact WL.nil ⟨rfl, [_, _, _, _, _], rfl, rfl, rfl⟩
  refine WL.q (y_move rfl) (Wt.none rfl) rfl rfl ?_
  replace h := bindS h
  obtain ⟨b204, hb204, h⟩ := h
  apply WL.grp 5 (t := 99) (d := 104) (z := b204)
  · exact rfl
  · intro hg99
    have h := condT hb204 hg99
    refine WL.q (y_move rfl) (Wt.yes rfl rfl rfl) rfl rfl ?_
    refine WL.q (y_move rfl) (Wt.yes rfl rfl rfl) rfl rfl ?_
    refine WL.q (y_build p26 z26 rfl rfl) (Wt.yes rfl rfl rfl) rfl rfl ?_
    replace h := bindS h
    obtain ⟨r205, hr205, h⟩ := h
    refine WL.fn rfl rfl rfl rfl (f24_c _ _ _ hr205) ⟨(Le.refl _), (Le.refl _), (Le.agd ⟨(Le.refl _), (Le.refl _), (Le.refl _), (Le.refl _), (Le.refl _), (Le.refl _), (Le.refl _), (Le.refl _), Le.nil, trivial⟩), trivial⟩ (Wt.yes rfl rfl rfl) rfl rfl ?_
    refine WL.q (y_pick_t rfl rfl) (Wt.none rfl) rfl rfl ?_
    obtain rfl := Option.some.inj h
    exact WL.nil ⟨rfl, [_, _, _, _, _], rfl, rfl, rfl⟩
  · intro hg99
    have h := condF hb204 hg99
    refine WL.skips 4 rfl ?_
    refine WL.q (y_pick_f rfl rfl) (Wt.none rfl) rfl rfl ?_
    obtain rfl := Option.some.inj h
    exact WL.nil ⟨rfl, [_, _, _, _, _], rfl, rfl, rfl⟩
  refine WL.q (y_assign rfl) (Wt.none rfl) rfl rfl ?_
  refine WL.nil ?_
  refine we_seq ?_
  refine wc_seq ?_
  refine wc_region ?_
  refine WL.fn rfl rfl rfl rfl (f26_c _) ⟨(Le.refl _), trivial⟩ (Wt.none rfl) rfl rfl ?_
  refine WL.fn rfl rfl rfl rfl (f26_c _) ⟨(Le.refl _), trivial⟩ (Wt.none rfl) rfl rfl ?_
  refine WL.fn rfl rfl rfl rfl (f27_c _ _ _) ⟨(Le.refl _), (Le.refl _), (Le.refl _), trivial⟩ (Wt.none rfl) rfl rfl ?_
  refine WL.fn rfl rfl rfl rfl (f26_c _) ⟨(Le.refl _), trivial⟩ (Wt.none rfl) rfl rfl ?_
  refine WL.fn rfl rfl rfl rfl (f27_c _ _ _) ⟨(Le.refl _), (Le.refl _), (Le.refl _), trivial⟩ (Wt.none rfl) rfl rfl ?_
  refine WL.s ((b_alloc z26).does) (Wt.none rfl) rfl rfl ?_
  refine WL.s0 (d_store rfl rfl rfl rfl rfl rfl s26 rfl rfl) (Wt.none rfl) rfl ?_
  refine WL.nil ?_
  refine we_seq ?_
  replace h := letkS h
  obtain ⟨k207, hk207, h⟩ := h
  refine wc_cut (fun env' st' => ∃ (four206 : Bool), k207 four206 = some r ∧ Sub [(4, .d (D.b b194)), (5, .d (D.b b197)), (6, .d (D.b b204)), (8, .d (D.b four206))] env' ∧ SLe st' [.dead, .dead, .dead, .dead, .dead, .dead, .row 26 [.d (D.i .u8 ((f27 7 (f27 4 (f26 1) (f26 0)) (f26 1)).kind)), .d (D.i .u8 ((f27 7 (f27 4 (f26 1) (f26 0)) (f26 1)).op)), .d (D.i .i64 ((f27 7 (f27 4 (f26 1) (f26 0)) (f26 1)).n)), .d (D.i .i64 ((f27 7 (f27 4 (f26 1) (f26 0)) (f26 1)).o)), .d (D.i .i64 ((f27 7 (f27 4 (f26 1) (f26 0)) (f26 1)).off)), .d (D.i .i64 ((f27 7 (f27 4 (f26 1) (f26 0)) (f26 1)).len)), .d (D.i .i64 ((f27 7 (f27 4 (f26 1) (f26 0)) (f26 1)).lo)), .d (D.i .i64 ((f27 7 (f27 4 (f26 1) (f26 0)) (f26 1)).hi)), .d (.sl (List.map E26 ((f27 7 (f27 4 (f26 1) (f26 0)) (f26 1)).l)))]]) ?_ ?_
  · replace h := bindS h
    obtain ⟨r208, hr208, h⟩ := h
    rcases boolCases r208 with hb4 | hb4
    · replace h := condT h hb4
      replace h := bindS h
      obtain ⟨r209, hr209, h⟩ := h
      rcases boolCases r209 with hb5 | hb5
      · replace h := condT h hb5
        replace h := bindS h
        obtain ⟨r210, hr210, h⟩ := h
        rcases boolCases r210 with hb6 | hb6
        · replace h := condT h hb6
          replace h := bindS h
          obtain ⟨r211, hr211, h⟩ := h
          apply wc_region_all [_, _, _, _, _, _, _, _, _, _, _, _, _, _, _, _, _, _, _, _, _, _, _, _, _, _, _, _, _, _, _, _, _] [[], [], [], [], [2, 3], [2, 3, 4], [0, 1, 2, 3, 4, 5], [0, 1, 2, 3, 4, 5, 6], [0, 1, 2, 3, 4, 5, 6, 7], [0, 1, 2, 3, 4, 5, 6, 7], [0, 1, 2, 3, 4, 5, 6, 7], [0, 1, 2, 3, 4, 5, 6, 7], [0, 1, 2, 3, 4, 5, 6, 7, 10, 11], [0, 1, 2, 3, 4, 5, 6, 7, 10, 11, 12], [0, 1, 2, 3, 4, 5, 6, 7, 8, 9, 10, 11, 12, 13], [0, 1, 2, 3, 4, 5, 6, 7, 8, 9, 10, 11, 12, 13, 14], [0, 1, 2, 3, 4, 5, 6, 7, 8, 9, 10, 11, 12, 13, 14, 15], [0, 1, 2, 3, 4, 5, 6, 7, 8, 9, 10, 11, 12, 13, 14, 15, 16], [0, 1, 2, 3, 4, 5, 6, 7, 8, 9, 10, 11, 12, 13, 14, 15, 16], [0, 1, 2, 3, 4, 5, 6, 7, 8, 9, 10, 11, 12, 13, 14, 15, 16], [0, 1, 2, 3, 4, 5, 6, 7, 8, 9, 10, 11, 12, 13, 14, 15, 16, 19], [0, 1, 2, 3, 4, 5, 6, 7, 8, 9, 10, 11, 12, 13, 14, 15, 16, 19, 20], [0, 1, 2, 3, 4, 5, 6, 7, 8, 9, 10, 11, 12, 13, 14, 15, 16, 17, 18, 19, 20, 21], [0, 1, 2, 3, 4, 5, 6, 7, 8, 9, 10, 11, 12, 13, 14, 15, 16, 17, 18, 19, 20, 21, 22], [0, 1, 2, 3, 4, 5, 6, 7, 8, 9, 10, 11, 12, 13, 14, 15, 16, 17, 18, 19, 20, 21, 22, 23], [0, 1, 2, 3, 4, 5, 6, 7, 8, 9, 10, 11, 12, 13, 14, 15, 16, 17, 18, 19, 20, 21, 22, 23, 24], [0, 1, 2, 3, 4, 5, 6, 7, 8, 9, 10, 11, 12, 13, 14, 15, 16, 17, 18, 19, 20, 21, 22, 23, 24], [0, 1, 2, 3, 4, 5, 6, 7, 8, 9, 10, 11, 12, 13, 14, 15, 16, 17, 18, 19, 20, 21, 22, 23, 24], [0, 1, 2, 3, 4, 5, 6, 7, 8, 9, 10, 11, 12, 13, 14, 15, 16, 17, 18, 19, 20, 21, 22, 23, 24, 27], [0, 1, 2, 3, 4, 5, 6, 7, 8, 9, 10, 11, 12, 13, 14, 15, 16, 17, 18, 19, 20, 21, 22, 23, 24, 27, 28], [0, 1, 2, 3, 4, 5, 6, 7, 8, 9, 10, 11, 12, 13, 14, 15, 16, 17, 18, 19, 20, 21, 22, 23, 24, 25, 26, 27, 28, 29], [0, 1, 2, 3, 4, 5, 6, 7, 8, 9, 10, 11, 12, 13, 14, 15, 16, 17, 18, 19, 20, 21, 22, 23, 24, 25, 26, 27, 28, 29, 30], [0, 1, 2, 3, 4, 5, 6, 7, 8, 9, 10, 11, 12, 13, 14, 15, 16, 17, 18, 19, 20, 21, 22, 23, 24, 25, 26, 27, 28, 29, 30, 31]] [] (fun c => List.getD [[.dead, .dead, .dead, .dead, .dead, .dead, .row 26 [.d (D.i .u8 ((f27 7 (f27 4 (f26 1) (f26 0)) (f26 1)).kind)), .d (D.i .u8 ((f27 7 (f27 4 (f26 1) (f26 0)) (f26 1)).op)), .d (D.i .i64 ((f27 7 (f27 4 (f26 1) (f26 0)) (f26 1)).n)), .d (D.i .i64 ((f27 7 (f27 4 (f26 1) (f26 0)) (f26 1)).o)), .d (D.i .i64 ((f27 7 (f27 4 (f26 1) (f26 0)) (f26 1)).off)), .d (D.i .i64 ((f27 7 (f27 4 (f26 1) (f26 0)) (f26 1)).len)), .d (D.i .i64 ((f27 7 (f27 4 (f26 1) (f26 0)) (f26 1)).lo)), .d (D.i .i64 ((f27 7 (f27 4 (f26 1) (f26 0)) (f26 1)).hi)), .d (.sl (List.map E26 ((f27 7 (f27 4 (f26 1) (f26 0)) (f26 1)).l)))]]] c []) [([], [1], [0]), ([], [2], [0]), ([], [], [0]), ([], [7], [0]), ([2, 3], [], [0]), ([4], [], [0]), ([0, 1, 5], [], [0]), ([6], [], [0]), ([7], [1], [0]), ([7], [2], [0]), ([7], [], [0]), ([7], [7], [0]), ([10, 11, 7], [], [0]), ([12, 7], [], [0]), ([8, 9, 13, 7], [], [0]), ([7, 14], [], [0]), ([15], [], [0]), ([16], [1], [0]), ([16], [2], [0]), ([16], [], [0]), ([19, 16], [], [0]), ([20, 16], [], [0]), ([17, 18, 21, 16], [], [0]), ([16, 22], [], [0]), ([23], [], [0]), ([24], [1], [0]), ([24], [2], [0]), ([24], [], [0]), ([24], [], [0]), ([27, 28, 24], [], [0]), ([25, 26, 29, 24], [], [0]), ([24, 30], [], [0]), ([31], [], [0])] (by kernel_rfl) (by kernel_rfl) rfl rfl rfl
          · refine ⟨?_, ?_, ?_, ?_, ?_, ?_, ?_, ?_, ?_, ?_, ?_, ?_, ?_, ?_, ?_, ?_, ?_, ?_, ?_, ?_, ?_, ?_, ?_, ?_, ?_, ?_, ?_, ?_, ?_, ?_, ?_, ?_, ?_, trivial⟩
            · refine ⟨fun F => ?_, trivial⟩
              refine WL.q (y_move rfl) (Wt.none rfl) rfl rfl ?_
              exact WL.done1 rfl rfl rfl
            · refine ⟨fun F => ?_, trivial⟩
              refine WL.q (y_move rfl) (Wt.none rfl) rfl rfl ?_
              exact WL.done1 rfl rfl rfl
            · refine ⟨fun F => ?_, trivial⟩
              refine WL.fn rfl rfl rfl rfl (f26_c _) ⟨(Le.refl _), trivial⟩ (Wt.none rfl) rfl rfl ?_
              exact WL.done1 rfl rfl rfl
            · refine ⟨fun F => ?_, trivial⟩
              refine WL.q (y_loadN rfl rfl a26 s26 rfl) (Wt.none rfl) rfl rfl ?_
              exact WL.done1 rfl rfl rfl
            · refine ⟨fun F => ?_, trivial⟩
              refine WL.s ((NewOs.data (n_buildSlice l24 z26 rfl (by decide) (by decide) rfl rfl rfl (by decide)) (by exact encA_map E26_eq [(f26 0), (f27 7 (f27 4 (f26 1) (f26 0)) (f26 1))])).does) (Wt.none rfl) rfl rfl ?_
              exact WL.done1 rfl rfl rfl
            · refine ⟨fun F => ?_, trivial⟩
              refine WL.fn rfl rfl rfl rfl (f23_c _ _) ⟨(Le.refl _), (Le.refl _), trivial⟩ (Wt.none rfl) rfl rfl ?_
              exact WL.done1 rfl rfl rfl
            · refine ⟨fun F => ?_, trivial⟩
              refine WL.fn rfl rfl rfl rfl (f38_c _ _ _ _ hr208) ⟨(Le.refl _), (Le.refl _), (Le.refl _), (Le.refl _), trivial⟩ (Wt.none rfl) rfl rfl ?_
              exact WL.done1 rfl rfl rfl
            · refine ⟨fun F => ?_, trivial⟩
              refine WL.q (y_move rfl) (Wt.none rfl) rfl rfl ?_
              refine WL.cast 117 rfl (Le.ofd (by rw [hb4])) ?_
              exact WL.done2 rfl rfl rfl
            · refine ⟨fun F => ?_, trivial⟩
              refine WL.q (y_move rfl) (Wt.yes rfl rfl rfl) rfl rfl ?_
              exact WL.done1 rfl rfl rfl
            · refine ⟨fun F => ?_, trivial⟩
              refine WL.q (y_move rfl) (Wt.yes rfl rfl rfl) rfl rfl ?_
              exact WL.done1 rfl rfl rfl
            · refine ⟨fun F => ?_, trivial⟩
              refine WL.fn rfl rfl rfl rfl (f26_c _) ⟨(Le.refl _), trivial⟩ (Wt.yes rfl rfl rfl) rfl rfl ?_
              exact WL.done1 rfl rfl rfl
            · refine ⟨fun F => ?_, trivial⟩
              refine WL.q (y_loadN rfl rfl a26 s26 rfl) (Wt.yes rfl rfl rfl) rfl rfl ?_
              exact WL.done1 rfl rfl rfl
            · refine ⟨fun F => ?_, trivial⟩
              refine WL.s ((NewOs.data (n_buildSlice l24 z26 rfl (by decide) (by decide) rfl rfl rfl (by decide)) (by exact encA_map E26_eq [(f26 1), (f27 7 (f27 4 (f26 1) (f26 0)) (f26 1))])).does) (Wt.yes rfl rfl rfl) rfl rfl ?_
              exact WL.done1 rfl rfl rfl
            · refine ⟨fun F => ?_, trivial⟩
              refine WL.fn rfl rfl rfl rfl (f23_c _ _) ⟨(Le.refl _), (Le.refl _), trivial⟩ (Wt.yes rfl rfl rfl) rfl rfl ?_
              exact WL.done1 rfl rfl rfl
            · refine ⟨fun F => ?_, trivial⟩
              refine WL.fn rfl rfl rfl rfl (f24_c _ _ _ hr209) ⟨(Le.refl _), (Le.refl _), (Le.refl _), trivial⟩ (Wt.yes rfl rfl rfl) rfl rfl ?_
              exact WL.done1 rfl rfl rfl
            · refine ⟨fun F => ?_, trivial⟩
              refine WL.q (y_pick_t rfl rfl) (Wt.none rfl) rfl rfl ?_
              exact WL.done1 rfl rfl rfl
            · refine ⟨fun F => ?_, trivial⟩
              refine WL.q (y_move rfl) (Wt.none rfl) rfl rfl ?_
              refine WL.cast 126 rfl (Le.ofd (by rw [hb5])) ?_
              exact WL.done2 rfl rfl rfl
            · refine ⟨fun F => ?_, trivial⟩
              refine WL.q (y_move rfl) (Wt.yes rfl rfl rfl) rfl rfl ?_
              exact WL.done1 rfl rfl rfl
            · refine ⟨fun F => ?_, trivial⟩
              refine WL.q (y_move rfl) (Wt.yes rfl rfl rfl) rfl rfl ?_
              exact WL.done1 rfl rfl rfl
            · refine ⟨fun F => ?_, trivial⟩
              refine WL.fn rfl rfl rfl rfl (f39_c _ _) ⟨(Le.refl _), (Le.refl _), trivial⟩ (Wt.yes rfl rfl rfl) rfl rfl ?_
              exact WL.done1 rfl rfl rfl
            · refine ⟨fun F => ?_, trivial⟩
              refine WL.s ((NewOs.data (n_buildSlice l24 z26 rfl (by decide) (by decide) rfl rfl rfl (by decide)) (by exact encA_map E26_eq [(f39 0 0)])).does) (Wt.yes rfl rfl rfl) rfl rfl ?_
              exact WL.done1 rfl rfl rfl
            · refine ⟨fun F => ?_, trivial⟩
              refine WL.q (y_build p26 z26 rfl rfl) (Wt.yes rfl rfl rfl) rfl rfl ?_
              exact WL.done1 rfl rfl rfl
            · refine ⟨fun F => ?_, trivial⟩
              refine WL.fn rfl rfl rfl rfl (f24_c _ _ _ hr210) ⟨(Le.refl _), (Le.refl _), (Le.agd ⟨(Le.refl _), (Le.refl _), (Le.refl _), (Le.refl _), (Le.refl _), (Le.refl _), (Le.refl _), (Le.refl _), (Le.refl _), trivial⟩), trivial⟩ (Wt.yes rfl rfl rfl) rfl rfl ?_
              exact WL.done1 rfl rfl rfl
            · refine ⟨fun F => ?_, trivial⟩
              refine WL.q (y_pick_t rfl rfl) (Wt.none rfl) rfl rfl ?_
              exact WL.done1 rfl rfl rfl
            · refine ⟨fun F => ?_, trivial⟩
              refine WL.q (y_move rfl) (Wt.none rfl) rfl rfl ?_
              refine WL.cast 134 rfl (Le.ofd (by rw [hb6])) ?_
              exact WL.done2 rfl rfl rfl
            · refine ⟨fun F => ?_, trivial⟩
              refine WL.q (y_move rfl) (Wt.yes rfl rfl rfl) rfl rfl ?_
              exact WL.done1 rfl rfl rfl
            · refine ⟨fun F => ?_, trivial⟩
              refine WL.q (y_move rfl) (Wt.yes rfl rfl rfl) rfl rfl ?_
              exact WL.done1 rfl rfl rfl
            · refine ⟨fun F => ?_, trivial⟩
              refine WL.fn rfl rfl rfl rfl (f26_c _) ⟨(Le.refl _), trivial⟩ (Wt.yes rfl rfl rfl) rfl rfl ?_
              exact WL.done1 rfl rfl rfl
            · refine ⟨fun F => ?_, trivial⟩
              refine WL.fn rfl rfl rfl rfl (f26_c _) ⟨(Le.refl _), trivial⟩ (Wt.yes rfl rfl rfl) rfl rfl ?_
              exact WL.done1 rfl rfl rfl
            · refine ⟨fun F => ?_, trivial⟩
              refine WL.fn rfl rfl rfl rfl (f27_c _ _ _) ⟨(Le.refl _), (Le.refl _), (Le.refl _), trivial⟩ (Wt.yes rfl rfl rfl) rfl rfl ?_
              exact WL.done1 rfl rfl rfl
            · refine ⟨fun F => ?_, trivial⟩
              refine WL.fn rfl rfl rfl rfl (f24_c _ _ _ hr211) ⟨(Le.refl _), (Le.refl _), (Le.refl _), trivial⟩ (Wt.yes rfl rfl rfl) rfl rfl ?_
              exact WL.done1 rfl rfl rfl
            · refine ⟨fun F => ?_, trivial⟩
              refine WL.q (y_pick_t rfl rfl) (Wt.none rfl) rfl rfl ?_
              exact WL.done1 rfl rfl rfl
            · refine ⟨fun F => ?_, trivial⟩
              refine WL.q (y_assign rfl) (Wt.none rfl) rfl rfl ?_
              exact WL.done1 rfl rfl rfl
          · exact we_lp ⟨r211, h, (Sub.cons rfl (Le.refl _) (Sub.cons rfl (Le.refl _) (Sub.cons rfl (Le.refl _) (Sub.cons rfl (Le.refl _) (Sub.nil _))))), ⟨trivial, trivial, trivial, trivial, trivial, trivial, ⟨rfl, ⟨(Le.refl _), (Le.refl _), (Le.refl _), (Le.refl _), (Le.refl _), (Le.refl _), (Le.refl _), (Le.refl _), (Le.refl _), trivial⟩⟩, trivial⟩⟩
        · replace h := condF h hb6
          apply wc_region_all [_, _, _, _, _, _, _, _, _, _, _, _, _, _, _, _, _, _, _, _, _, _, _, _, _, _, _, _, _, _, _, _, _] [[], [], [], [], [2, 3], [2, 3, 4], [0, 1, 2, 3, 4, 5], [0, 1, 2, 3, 4, 5, 6], [0, 1, 2, 3, 4, 5, 6, 7], [0, 1, 2, 3, 4, 5, 6, 7], [0, 1, 2, 3, 4, 5, 6, 7], [0, 1, 2, 3, 4, 5, 6, 7], [0, 1, 2, 3, 4, 5, 6, 7, 10, 11], [0, 1, 2, 3, 4, 5, 6, 7, 10, 11, 12], [0, 1, 2, 3, 4, 5, 6, 7, 8, 9, 10, 11, 12, 13], [0, 1, 2, 3, 4, 5, 6, 7, 8, 9, 10, 11, 12, 13, 14], [0, 1, 2, 3, 4, 5, 6, 7, 8, 9, 10, 11, 12, 13, 14, 15], [0, 1, 2, 3, 4, 5, 6, 7, 8, 9, 10, 11, 12, 13, 14, 15, 16], [0, 1, 2, 3, 4, 5, 6, 7, 8, 9, 10, 11, 12, 13, 14, 15, 16], [0, 1, 2, 3, 4, 5, 6, 7, 8, 9, 10, 11, 12, 13, 14, 15, 16], [0, 1, 2, 3, 4, 5, 6, 7, 8, 9, 10, 11, 12, 13, 14, 15, 16, 19], [0, 1, 2, 3, 4, 5, 6, 7, 8, 9, 10, 11, 12, 13, 14, 15, 16, 19, 20], [0, 1, 2, 3, 4, 5, 6, 7, 8, 9, 10, 11, 12, 13, 14, 15, 16, 17, 18, 19, 20, 21], [0, 1, 2, 3, 4, 5, 6, 7, 8, 9, 10, 11, 12, 13, 14, 15, 16, 17, 18, 19, 20, 21, 22], [0, 1, 2, 3, 4, 5, 6, 7, 8, 9, 10, 11, 12, 13, 14, 15, 16, 17, 18, 19, 20, 21, 22, 23], [0, 1, 2, 3, 4, 5, 6, 7, 8, 9, 10, 11, 12, 13, 14, 15, 16, 17, 18, 19, 20, 21, 22, 23, 24], [0, 1, 2, 3, 4, 5, 6, 7, 8, 9, 10, 11, 12, 13, 14, 15, 16, 17, 18, 19, 20, 21, 22, 23, 24], [0, 1, 2, 3, 4, 5, 6, 7, 8, 9, 10, 11, 12, 13, 14, 15, 16, 17, 18, 19, 20, 21, 22, 23, 24], [0, 1, 2, 3, 4, 5, 6, 7, 8, 9, 10, 11, 12, 13, 14, 15, 16, 17, 18, 19, 20, 21, 22, 23, 24, 27], [0, 1, 2, 3, 4, 5, 6, 7, 8, 9, 10, 11, 12, 13, 14, 15, 16, 17, 18, 19, 20, 21, 22, 23, 24, 27, 28], [0, 1, 2, 3, 4, 5, 6, 7, 8, 9, 10, 11, 12, 13, 14, 15, 16, 17, 18, 19, 20, 21, 22, 23, 24, 25, 26, 27, 28, 29], [0, 1, 2, 3, 4, 5, 6, 7, 8, 9, 10, 11, 12, 13, 14, 15, 16, 17, 18, 19, 20, 21, 22, 23, 24, 25, 26, 27, 28, 29, 30], [0, 1, 2, 3, 4, 5, 6, 7, 8, 9, 10, 11, 12, 13, 14, 15, 16, 17, 18, 19, 20, 21, 22, 23, 24, 25, 26, 27, 28, 29, 30, 31]] [] (fun c => List.getD [[.dead, .dead, .dead, .dead, .dead, .dead, .row 26 [.d (D.i .u8 ((f27 7 (f27 4 (f26 1) (f26 0)) (f26 1)).kind)), .d (D.i .u8 ((f27 7 (f27 4 (f26 1) (f26 0)) (f26 1)).op)), .d (D.i .i64 ((f27 7 (f27 4 (f26 1) (f26 0)) (f26 1)).n)), .d (D.i .i64 ((f27 7 (f27 4 (f26 1) (f26 0)) (f26 1)).o)), .d (D.i .i64 ((f27 7 (f27 4 (f26 1) (f26 0)) (f26 1)).off)), .d (D.i .i64 ((f27 7 (f27 4 (f26 1) (f26 0)) (f26 1)).len)), .d (D.i .i64 ((f27 7 (f27 4 (f26 1) (f26 0)) (f26 1)).lo)), .d (D.i .i64 ((f27 7 (f27 4 (f26 1) (f26 0)) (f26 1)).hi)), .d (.sl (List.map E26 ((f27 7 (f27 4 (f26 1) (f26 0)) (f26 1)).l)))]]] c []) [([], [1], [0]), ([], [2], [0]), ([], [], [0]), ([], [7], [0]), ([2, 3], [], [0]), ([4], [], [0]), ([0, 1, 5], [], [0]), ([6], [], [0]), ([7], [1], [0]), ([7], [2], [0]), ([7], [], [0]), ([7], [7], [0]), ([10, 11, 7], [], [0]), ([12, 7], [], [0]), ([8, 9, 13, 7], [], [0]), ([7, 14], [], [0]), ([15], [], [0]), ([16], [1], [0]), ([16], [2], [0]), ([16], [], [0]), ([19, 16], [], [0]), ([20, 16], [], [0]), ([17, 18, 21, 16], [], [0]), ([16, 22], [], [0]), ([23], [], [0]), ([24], [], [0]), ([24], [], [0]), ([24], [], [0]), ([24], [], [0]), ([24], [], [0]), ([24], [], [0]), ([24, 30], [], [0]), ([31], [], [0])] (by kernel_rfl) (by kernel_rfl) rfl rfl rfl
          · refine ⟨?_, ?_, ?_, ?_, ?_, ?_, ?_, ?_, ?_, ?_, ?_, ?_, ?_, ?_, ?_, ?_, ?_, ?_, ?_, ?_, ?_, ?_, ?_, ?_, ?_, ?_, ?_, ?_, ?_, ?_, ?_, ?_, ?_, trivial⟩
            · refine ⟨fun F => ?_, trivial⟩
              refine WL.q (y_move rfl) (Wt.none rfl) rfl rfl ?_
              exact WL.done1 rfl rfl rfl
            · refine ⟨fun F => ?_, trivial⟩
              refine WL.q (y_move rfl) (Wt.none rfl) rfl rfl ?_
              exact WL.done1 rfl rfl rfl
            · refine ⟨fun F => ?_, trivial⟩
              refine WL.fn rfl rfl rfl rfl (f26_c _) ⟨(Le.refl _), trivial⟩ (Wt.none rfl) rfl rfl ?_
              exact WL.done1 rfl rfl rfl
            · refine ⟨fun F => ?_, trivial⟩
              refine WL.q (y_loadN rfl rfl a26 s26 rfl) (Wt.none rfl) rfl rfl ?_
              exact WL.done1 rfl rfl rfl
            · refine ⟨fun F => ?_, trivial⟩
              refine WL.s ((NewOs.data (n_buildSlice l24 z26 rfl (by decide) (by decide) rfl rfl rfl (by decide)) (by exact encA_map E26_eq [(f26 0), (f27 7 (f27 4 (f26 1) (f26 0)) (f26 1))])).does) (Wt.none rfl) rfl rfl ?_
              exact WL.done1 rfl rfl rfl
            · refine ⟨fun F => ?_, trivial⟩
              refine WL.fn rfl rfl rfl rfl (f23_c _ _) ⟨(Le.refl _), (Le.refl _), trivial⟩ (Wt.none rfl) rfl rfl ?_
              exact WL.done1 rfl rfl rfl
            · refine ⟨fun F => ?_, trivial⟩
              refine WL.fn rfl rfl rfl rfl (f38_c _ _ _ _ hr208) ⟨(Le.refl _), (Le.refl _), (Le.refl _), (Le.refl _), trivial⟩ (Wt.none rfl) rfl rfl ?_
              exact WL.done1 rfl rfl rfl
            · refine ⟨fun F => ?_, trivial⟩
              refine WL.q (y_move rfl) (Wt.none rfl) rfl rfl ?_
              refine WL.cast 117 rfl (Le.ofd (by rw [hb4])) ?_
              exact WL.done2 rfl rfl rfl
            · refine ⟨fun F => ?_, trivial⟩
              refine WL.q (y_move rfl) (Wt.yes rfl rfl rfl) rfl rfl ?_
              exact WL.done1 rfl rfl rfl
            · refine ⟨fun F => ?_, trivial⟩
              refine WL.q (y_move rfl) (Wt.yes rfl rfl rfl) rfl rfl ?_
              exact WL.done1 rfl rfl rfl
            · refine ⟨fun F => ?_, trivial⟩
              refine WL.fn rfl rfl rfl rfl (f26_c _) ⟨(Le.refl _), trivial⟩ (Wt.yes rfl rfl rfl) rfl rfl ?_
              exact WL.done1 rfl rfl rfl
            · refine ⟨fun F => ?_, trivial⟩
              refine WL.q (y_loadN rfl rfl a26 s26 rfl) (Wt.yes rfl rfl rfl) rfl rfl ?_
              exact WL.done1 rfl rfl rfl
            · refine ⟨fun F => ?_, trivial⟩
              refine WL.s ((NewOs.data (n_buildSlice l24 z26 rfl (by decide) (by decide) rfl rfl rfl (by decide)) (by exact encA_map E26_eq [(f26 1), (f27 7 (f27 4 (f26 1) (f26 0)) (f26 1))])).does) (Wt.yes rfl rfl rfl) rfl rfl ?_
              exact WL.done1 rfl rfl rfl
            · refine ⟨fun F => ?_, trivial⟩
              refine WL.fn rfl rfl rfl rfl (f23_c _ _) ⟨(Le.refl _), (Le.refl _), trivial⟩ (Wt.yes rfl rfl rfl) rfl rfl ?_
              exact WL.done1 rfl rfl rfl
            · refine ⟨fun F => ?_, trivial⟩
              refine WL.fn rfl rfl rfl rfl (f24_c _ _ _ hr209) ⟨(Le.refl _), (Le.refl _), (Le.refl _), trivial⟩ (Wt.yes rfl rfl rfl) rfl rfl ?_
              exact WL.done1 rfl rfl rfl
            · refine ⟨fun F => ?_, trivial⟩
              refine WL.q (y_pick_t rfl rfl) (Wt.none rfl) rfl rfl ?_
              exact WL.done1 rfl rfl rfl
            · refine ⟨fun F => ?_, trivial⟩
              refine WL.q (y_move rfl) (Wt.none rfl) rfl rfl ?_
              refine WL.cast 126 rfl (Le.ofd (by rw [hb5])) ?_
              exact WL.done2 rfl rfl rfl
            · refine ⟨fun F => ?_, trivial⟩
              refine WL.q (y_move rfl) (Wt.yes rfl rfl rfl) rfl rfl ?_
              exact WL.done1 rfl rfl rfl
            · refine ⟨fun F => ?_, trivial⟩
              refine WL.q (y_move rfl) (Wt.yes rfl rfl rfl) rfl rfl ?_
              exact WL.done1 rfl rfl rfl
            · refine ⟨fun F => ?_, trivial⟩
              refine WL.fn rfl rfl rfl rfl (f39_c _ _) ⟨(Le.refl _), (Le.refl _), trivial⟩ (Wt.yes rfl rfl rfl) rfl rfl ?_
              exact WL.done1 rfl rfl rfl
            · refine ⟨fun F => ?_, trivial⟩
              refine WL.s ((NewOs.data (n_buildSlice l24 z26 rfl (by decide) (by decide) rfl rfl rfl (by decide)) (by exact encA_map E26_eq [(f39 0 0)])).does) (Wt.yes rfl rfl rfl) rfl rfl ?_
              exact WL.done1 rfl rfl rfl
            · refine ⟨fun F => ?_, trivial⟩
              refine WL.q (y_build p26 z26 rfl rfl) (Wt.yes rfl rfl rfl) rfl rfl ?_
              exact WL.done1 rfl rfl rfl
            · refine ⟨fun F => ?_, trivial⟩
              refine WL.fn rfl rfl rfl rfl (f24_c _ _ _ hr210) ⟨(Le.refl _), (Le.refl _), (Le.agd ⟨(Le.refl _), (Le.refl _), (Le.refl _), (Le.refl _), (Le.refl _), (Le.refl _), (Le.refl _), (Le.refl _), (Le.refl _), trivial⟩), trivial⟩ (Wt.yes rfl rfl rfl) rfl rfl ?_
              exact WL.done1 rfl rfl rfl
            · refine ⟨fun F => ?_, trivial⟩
              refine WL.q (y_pick_t rfl rfl) (Wt.none rfl) rfl rfl ?_
              exact WL.done1 rfl rfl rfl
            · refine ⟨fun F => ?_, trivial⟩
              refine WL.q (y_move rfl) (Wt.none rfl) rfl rfl ?_
              refine WL.cast 134 rfl (Le.ofd (by rw [hb6])) ?_
              exact WL.done2 rfl rfl rfl
            · refine ⟨fun F => ?_, trivial⟩
              refine WL.skips 1 rfl ?_
              exact WL.done1 rfl rfl rfl
            · refine ⟨fun F => ?_, trivial⟩
              refine WL.skips 1 rfl ?_
              exact WL.done1 rfl rfl rfl
            · refine ⟨fun F => ?_, trivial⟩
              refine WL.skips 1 rfl ?_
              exact WL.done1 rfl rfl rfl
            · refine ⟨fun F => ?_, trivial⟩
              refine WL.skips 1 rfl ?_
              exact WL.done1 rfl rfl rfl
            · refine ⟨fun F => ?_, trivial⟩
              refine WL.skips 1 rfl ?_
              exact WL.done1 rfl rfl rfl
            · refine ⟨fun F => ?_, trivial⟩
              refine WL.skips 1 rfl ?_
              exact WL.done1 rfl rfl rfl
            · refine ⟨fun F => ?_, trivial⟩
              refine WL.q (y_pick_f rfl rfl) (Wt.none rfl) rfl rfl ?_
              exact WL.done1 rfl rfl rfl
            · refine ⟨fun F => ?_, trivial⟩
              refine WL.q (y_assign rfl) (Wt.none rfl) rfl rfl ?_
              exact WL.done1 rfl rfl rfl
          · exact we_lp ⟨false, h, (Sub.cons rfl (Le.refl _) (Sub.cons rfl (Le.refl _) (Sub.cons rfl (Le.refl _) (Sub.cons rfl (Le.refl _) (Sub.nil _))))), ⟨trivial, trivial, trivial, trivial, trivial, trivial, ⟨rfl, ⟨(Le.refl _), (Le.refl _), (Le.refl _), (Le.refl _), (Le.refl _), (Le.refl _), (Le.refl _), (Le.refl _), (Le.refl _), trivial⟩⟩, trivial⟩⟩
      · replace h := condF h hb5
        apply wc_region_all [_, _, _, _, _, _, _, _, _, _, _, _, _, _, _, _, _, _, _, _, _, _, _, _, _, _, _, _, _, _, _, _, _] [[], [], [], [], [2, 3], [2, 3, 4], [0, 1, 2, 3, 4, 5], [0, 1, 2, 3, 4, 5, 6], [0, 1, 2, 3, 4, 5, 6, 7], [0, 1, 2, 3, 4, 5, 6, 7], [0, 1, 2, 3, 4, 5, 6, 7], [0, 1, 2, 3, 4, 5, 6, 7], [0, 1, 2, 3, 4, 5, 6, 7, 10, 11], [0, 1, 2, 3, 4, 5, 6, 7, 10, 11, 12], [0, 1, 2, 3, 4, 5, 6, 7, 8, 9, 10, 11, 12, 13], [0, 1, 2, 3, 4, 5, 6, 7, 8, 9, 10, 11, 12, 13, 14], [0, 1, 2, 3, 4, 5, 6, 7, 8, 9, 10, 11, 12, 13, 14, 15], [0, 1, 2, 3, 4, 5, 6, 7, 8, 9, 10, 11, 12, 13, 14, 15, 16], [0, 1, 2, 3, 4, 5, 6, 7, 8, 9, 10, 11, 12, 13, 14, 15, 16], [0, 1, 2, 3, 4, 5, 6, 7, 8, 9, 10, 11, 12, 13, 14, 15, 16], [0, 1, 2, 3, 4, 5, 6, 7, 8, 9, 10, 11, 12, 13, 14, 15, 16, 19], [0, 1, 2, 3, 4, 5, 6, 7, 8, 9, 10, 11, 12, 13, 14, 15, 16, 19, 20], [0, 1, 2, 3, 4, 5, 6, 7, 8, 9, 10, 11, 12, 13, 14, 15, 16, 17, 18, 19, 20, 21], [0, 1, 2, 3, 4, 5, 6, 7, 8, 9, 10, 11, 12, 13, 14, 15, 16, 17, 18, 19, 20, 21, 22], [0, 1, 2, 3, 4, 5, 6, 7, 8, 9, 10, 11, 12, 13, 14, 15, 16, 17, 18, 19, 20, 21, 22, 23], [0, 1, 2, 3, 4, 5, 6, 7, 8, 9, 10, 11, 12, 13, 14, 15, 16, 17, 18, 19, 20, 21, 22, 23, 24], [0, 1, 2, 3, 4, 5, 6, 7, 8, 9, 10, 11, 12, 13, 14, 15, 16, 17, 18, 19, 20, 21, 22, 23, 24], [0, 1, 2, 3, 4, 5, 6, 7, 8, 9, 10, 11, 12, 13, 14, 15, 16, 17, 18, 19, 20, 21, 22, 23, 24], [0, 1, 2, 3, 4, 5, 6, 7, 8, 9, 10, 11, 12, 13, 14, 15, 16, 17, 18, 19, 20, 21, 22, 23, 24, 27], [0, 1, 2, 3, 4, 5, 6, 7, 8, 9, 10, 11, 12, 13, 14, 15, 16, 17, 18, 19, 20, 21, 22, 23, 24, 27, 28], [0, 1, 2, 3, 4, 5, 6, 7, 8, 9, 10, 11, 12, 13, 14, 15, 16, 17, 18, 19, 20, 21, 22, 23, 24, 25, 26, 27, 28, 29], [0, 1, 2, 3, 4, 5, 6, 7, 8, 9, 10, 11, 12, 13, 14, 15, 16, 17, 18, 19, 20, 21, 22, 23, 24, 25, 26, 27, 28, 29, 30], [0, 1, 2, 3, 4, 5, 6, 7, 8, 9, 10, 11, 12, 13, 14, 15, 16, 17, 18, 19, 20, 21, 22, 23, 24, 25, 26, 27, 28, 29, 30, 31]] [] (fun c => List.getD [[.dead, .dead, .dead, .dead, .dead, .dead, .row 26 [.d (D.i .u8 ((f27 7 (f27 4 (f26 1) (f26 0)) (f26 1)).kind)), .d (D.i .u8 ((f27 7 (f27 4 (f26 1) (f26 0)) (f26 1)).op)), .d (D.i .i64 ((f27 7 (f27 4 (f26 1) (f26 0)) (f26 1)).n)), .d (D.i .i64 ((f27 7 (f27 4 (f26 1) (f26 0)) (f26 1)).o)), .d (D.i .i64 ((f27 7 (f27 4 (f26 1) (f26 0)) (f26 1)).off)), .d (D.i .i64 ((f27 7 (f27 4 (f26 1) (f26 0)) (f26 1)).len)), .d (D.i .i64 ((f27 7 (f27 4 (f26 1) (f26 0)) (f26 1)).lo)), .d (D.i .i64 ((f27 7 (f27 4 (f26 1) (f26 0)) (f26 1)).hi)), .d (.sl (List.map E26 ((f27 7 (f27 4 (f26 1) (f26 0)) (f26 1)).l)))]]] c []) [([], [1], [0]), ([], [2], [0]), ([], [], [0]), ([], [7], [0]), ([2, 3], [], [0]), ([4], [], [0]), ([0, 1, 5], [], [0]), ([6], [], [0]), ([7], [1], [0]), ([7], [2], [0]), ([7], [], [0]), ([7], [7], [0]), ([10, 11, 7], [], [0]), ([12, 7], [], [0]), ([8, 9, 13, 7], [], [0]), ([7, 14], [], [0]), ([15], [], [0]), ([16], [], [0]), ([16], [], [0]), ([16], [], [0]), ([16], [], [0]), ([16], [], [0]), ([16], [], [0]), ([16, 22], [], [0]), ([23], [], [0]), ([24], [], [0]), ([24], [], [0]), ([24], [], [0]), ([24], [], [0]), ([24], [], [0]), ([24], [], [0]), ([24, 30], [], [0]), ([31], [], [0])] (by kernel_rfl) (by kernel_rfl) rfl rfl rfl
        · refine ⟨?_, ?_, ?_, ?_, ?_, ?_, ?_, ?_, ?_, ?_, ?_, ?_, ?_, ?_, ?_, ?_, ?_, ?_, ?_, ?_, ?_, ?_, ?_, ?_, ?_, ?_, ?_, ?_, ?_, ?_, ?_, ?_, ?_, trivial⟩
          · refine ⟨fun F => ?_, trivial⟩
            refine WL.q (y_move rfl) (Wt.none rfl) rfl rfl ?_
            exact WL.done1 rfl rfl rfl
          · refine ⟨fun F => ?_, trivial⟩
            refine WL.q (y_move rfl) (Wt.none rfl) rfl rfl ?_
            exact WL.done1 rfl rfl rfl
          · refine ⟨fun F => ?_, trivial⟩
            refine WL.fn rfl rfl rfl rfl (f26_c _) ⟨(Le.refl _), trivial⟩ (Wt.none rfl) rfl rfl ?_
            exact WL.done1 rfl rfl rfl
          · refine ⟨fun F => ?_, trivial⟩
            refine WL.q (y_loadN rfl rfl a26 s26 rfl) (Wt.none rfl) rfl rfl ?_
            exact WL.done1 rfl rfl rfl
          · refine ⟨fun F => ?_, trivial⟩
            refine WL.s ((NewOs.data (n_buildSlice l24 z26 rfl (by decide) (by decide) rfl rfl rfl (by decide)) (by exact encA_map E26_eq [(f26 0), (f27 7 (f27 4 (f26 1) (f26 0)) (f26 1))])).does) (Wt.none rfl) rfl rfl ?_
            exact WL.done1 rfl rfl rfl
          · refine ⟨fun F => ?_, trivial⟩
            refine WL.fn rfl rfl rfl rfl (f23_c _ _) ⟨(Le.refl _), (Le.refl _), trivial⟩ (Wt.none rfl) rfl rfl ?_
            exact WL.done1 rfl rfl rfl
          · refine ⟨fun F => ?_, trivial⟩
            refine WL.fn rfl rfl rfl rfl (f38_c _ _ _ _ hr208) ⟨(Le.refl _), (Le.refl _), (Le.refl _), (Le.refl _), trivial⟩ (Wt.none rfl) rfl rfl ?_
            exact WL.done1 rfl rfl rfl
          · refine ⟨fun F => ?_, trivial⟩
            refine WL.q (y_move rfl) (Wt.none rfl) rfl rfl ?_
            refine WL.cast 117 rfl (Le.ofd (by rw [hb4])) ?_
            exact WL.done2 rfl rfl rfl
          · refine ⟨fun F => ?_, trivial⟩
            refine WL.q (y_move rfl) (Wt.yes rfl rfl rfl) rfl rfl ?_
            exact WL.done1 rfl rfl rfl
          · refine ⟨fun F => ?_, trivial⟩
            refine WL.q (y_move rfl) (Wt.yes rfl rfl rfl) rfl rfl ?_
            exact WL.done1 rfl rfl rfl
          · refine ⟨fun F => ?_, trivial⟩
            refine WL.fn rfl rfl rfl rfl (f26_c _) ⟨(Le.refl _), trivial⟩ (Wt.yes rfl rfl rfl) rfl rfl ?_
            exact WL.done1 rfl rfl rfl
          · refine ⟨fun F => ?_, trivial⟩
            refine WL.q (y_loadN rfl rfl a26 s26 rfl) (Wt.yes rfl rfl rfl) rfl rfl ?_
            exact WL.done1 rfl rfl rfl
          · refine ⟨fun F => ?_, trivial⟩
            refine WL.s ((NewOs.data (n_buildSlice l24 z26 rfl (by decide) (by decide) rfl rfl rfl (by decide)) (by exact encA_map E26_eq [(f26 1), (f27 7 (f27 4 (f26 1) (f26 0)) (f26 1))])).does) (Wt.yes rfl rfl rfl) rfl rfl ?_
            exact WL.done1 rfl rfl rfl
          · refine ⟨fun F => ?_, trivial⟩
            refine WL.fn rfl rfl rfl rfl (f23_c _ _) ⟨(Le.refl _), (Le.refl _), trivial⟩ (Wt.yes rfl rfl rfl) rfl rfl ?_
            exact WL.done1 rfl rfl rfl
          · refine ⟨fun F => ?_, trivial⟩
            refine WL.fn rfl rfl rfl rfl (f24_c _ _ _ hr209) ⟨(Le.refl _), (Le.refl _), (Le.refl _), trivial⟩ (Wt.yes rfl rfl rfl) rfl rfl ?_
            exact WL.done1 rfl rfl rfl
          · refine ⟨fun F => ?_, trivial⟩
            refine WL.q (y_pick_t rfl rfl) (Wt.none rfl) rfl rfl ?_
            exact WL.done1 rfl rfl rfl
          · refine ⟨fun F => ?_, trivial⟩
            refine WL.q (y_move rfl) (Wt.none rfl) rfl rfl ?_
            refine WL.cast 126 rfl (Le.ofd (by rw [hb5])) ?_
            exact WL.done2 rfl rfl rfl
          · refine ⟨fun F => ?_, trivial⟩
            refine WL.skips 1 rfl ?_
            exact WL.done1 rfl rfl rfl
          · refine ⟨fun F => ?_, trivial⟩
            refine WL.skips 1 rfl ?_
            exact WL.done1 rfl rfl rfl
          · refine ⟨fun F => ?_, trivial⟩
            refine WL.skips 1 rfl ?_
            exact WL.done1 rfl rfl rfl
          · refine ⟨fun F => ?_, trivial⟩
            refine WL.skips 1 rfl ?_
            exact WL.done1 rfl rfl rfl
          · refine ⟨fun F => ?_, trivial⟩
            refine WL.skips 1 rfl ?_
            exact WL.done1 rfl rfl rfl
          · refine ⟨fun F => ?_, trivial⟩
            refine WL.skips 1 rfl ?_
            exact WL.done1 rfl rfl rfl
          · refine ⟨fun F => ?_, trivial⟩
            refine WL.q (y_pick_f rfl rfl) (Wt.none rfl) rfl rfl ?_
            exact WL.done1 rfl rfl rfl
          · refine ⟨fun F => ?_, trivial⟩
            refine WL.q (y_move rfl) (Wt.none rfl) rfl rfl ?_
            exact WL.done1 rfl rfl rfl
          · refine ⟨fun F => ?_, trivial⟩
            refine WL.skips 1 rfl ?_
            exact WL.done1 rfl rfl rfl
          · refine ⟨fun F => ?_, trivial⟩
            refine WL.skips 1 rfl ?_
            exact WL.done1 rfl rfl rfl
          · refine ⟨fun F => ?_, trivial⟩
            refine WL.skips 1 rfl ?_
            exact WL.done1 rfl rfl rfl
          · refine ⟨fun F => ?_, trivial⟩
            refine WL.skips 1 rfl ?_
            exact WL.done1 rfl rfl rfl
          · refine ⟨fun F => ?_, trivial⟩
            refine WL.skips 1 rfl ?_
            exact WL.done1 rfl rfl rfl
          · refine ⟨fun F => ?_, trivial⟩
            refine WL.skips 1 rfl ?_
            exact WL.done1 rfl rfl rfl
          · refine ⟨fun F => ?_, trivial⟩
            refine WL.q (y_pick_f rfl rfl) (Wt.none rfl) rfl rfl ?_
            exact WL.done1 rfl rfl rfl
          · refine ⟨fun F => ?_, trivial⟩
            refine WL.q (y_assign rfl) (Wt.none rfl) rfl rfl ?_
            exact WL.done1 rfl rfl rfl
        · exact we_lp ⟨false, h, (Sub.cons rfl (Le.refl _) (Sub.cons rfl (Le.refl _) (Sub.cons rfl (Le.refl _) (Sub.cons rfl (Le.refl _) (Sub.nil _))))), ⟨trivial, trivial, trivial, trivial, trivial, trivial, ⟨rfl, ⟨(Le.refl _), (Le.refl _), (Le.refl _), (Le.refl _), (Le.refl _), (Le.refl _), (Le.refl _), (Le.refl _), (Le.refl _), trivial⟩⟩, trivial⟩⟩
    · replace h := condF h hb4
      apply wc_region_all [_, _, _, _, _, _, _, _, _, _, _, _, _, _, _, _, _, _, _, _, _, _, _, _, _, _, _, _, _, _, _, _, _] [[], [], [], [], [2, 3], [2, 3, 4], [0, 1, 2, 3, 4, 5], [0, 1, 2, 3, 4, 5, 6], [0, 1, 2, 3, 4, 5, 6, 7], [0, 1, 2, 3, 4, 5, 6, 7], [0, 1, 2, 3, 4, 5, 6, 7], [0, 1, 2, 3, 4, 5, 6, 7], [0, 1, 2, 3, 4, 5, 6, 7, 10, 11], [0, 1, 2, 3, 4, 5, 6, 7, 10, 11, 12], [0, 1, 2, 3, 4, 5, 6, 7, 8, 9, 10, 11, 12, 13], [0, 1, 2, 3, 4, 5, 6, 7, 8, 9, 10, 11, 12, 13, 14], [0, 1, 2, 3, 4, 5, 6, 7, 8, 9, 10, 11, 12, 13, 14, 15], [0, 1, 2, 3, 4, 5, 6, 7, 8, 9, 10, 11, 12, 13, 14, 15, 16], [0, 1, 2, 3, 4, 5, 6, 7, 8, 9, 10, 11, 12, 13, 14, 15, 16], [0, 1, 2, 3, 4, 5, 6, 7, 8, 9, 10, 11, 12, 13, 14, 15, 16], [0, 1, 2, 3, 4, 5, 6, 7, 8, 9, 10, 11, 12, 13, 14, 15, 16, 19], [0, 1, 2, 3, 4, 5, 6, 7, 8, 9, 10, 11, 12, 13, 14, 15, 16, 19, 20], [0, 1, 2, 3, 4, 5, 6, 7, 8, 9, 10, 11, 12, 13, 14, 15, 16, 17, 18, 19, 20, 21], [0, 1, 2, 3, 4, 5, 6, 7, 8, 9, 10, 11, 12, 13, 14, 15, 16, 17, 18, 19, 20, 21, 22], [0, 1, 2, 3, 4, 5, 6, 7, 8, 9, 10, 11, 12, 13, 14, 15, 16, 17, 18, 19, 20, 21, 22, 23], [0, 1, 2, 3, 4, 5, 6, 7, 8, 9, 10, 11, 12, 13, 14, 15, 16, 17, 18, 19, 20, 21, 22, 23, 24], [0, 1, 2, 3, 4, 5, 6, 7, 8, 9, 10, 11, 12, 13, 14, 15, 16, 17, 18, 19, 20, 21, 22, 23, 24], [0, 1, 2, 3, 4, 5, 6, 7, 8, 9, 10, 11, 12, 13, 14, 15, 16, 17, 18, 19, 20, 21, 22, 23, 24], [0, 1, 2, 3, 4, 5, 6, 7, 8, 9, 10, 11, 12, 13, 14, 15, 16, 17, 18, 19, 20, 21, 22, 23, 24, 27], [0, 1, 2, 3, 4, 5, 6, 7, 8, 9, 10, 11, 12, 13, 14, 15, 16, 17, 18, 19, 20, 21, 22, 23, 24, 27, 28], [0, 1, 2, 3, 4, 5, 6, 7, 8, 9, 10, 11, 12, 13, 14, 15, 16, 17, 18, 19, 20, 21, 22, 23, 24, 25, 26, 27, 28, 29], [0, 1, 2, 3, 4, 5, 6, 7, 8, 9, 10, 11, 12, 13, 14, 15, 16, 17, 18, 19, 20, 21, 22, 23, 24, 25, 26, 27, 28, 29, 30], [0, 1, 2, 3, 4, 5, 6, 7, 8, 9, 10, 11, 12, 13, 14, 15, 16, 17, 18, 19, 20, 21, 22, 23, 24, 25, 26, 27, 28, 29, 30, 31]] [] (fun c => List.getD [[.dead, .dead, .dead, .dead, .dead, .dead, .row 26 [.d (D.i .u8 ((f27 7 (f27 4 (f26 1) (f26 0)) (f26 1)).kind)), .d (D.i .u8 ((f27 7 (f27 4 (f26 1) (f26 0)) (f26 1)).op)), .d (D.i .i64 ((f27 7 (f27 4 (f26 1) (f26 0)) (f26 1)).n)), .d (D.i .i64 ((f27 7 (f27 4 (f26 1) (f26 0)) (f26 1)).o)), .d (D.i .i64 ((f27 7 (f27 4 (f26 1) (f26 0)) (f26 1)).off)), .d (D.i .i64 ((f27 7 (f27 4 (f26 1) (f26 0)) (f26 1)).len)), .d (D.i .i64 ((f27 7 (f27 4 (f26 1) (f26 0)) (f26 1)).lo)), .d (D.i .i64 ((f27 7 (f27 4 (f26 1) (f26 0)) (f26 1)).hi)), .d (.sl (List.map E26 ((f27 7 (f27 4 (f26 1) (f26 0)) (f26 1)).l)))]]] c []) [([], [1], [0]), ([], [2], [0]), ([], [], [0]), ([], [7], [0]), ([2, 3], [], [0]), ([4], [], [0]), ([0, 1, 5], [], [0]), ([6], [], [0]), ([7], [], [0]), ([7], [], [0]), ([7], [], [0]), ([7], [], [0]), ([7], [], [0]), ([7], [], [0]), ([7], [], [0]), ([7, 14], [], [0]), ([15], [], [0]), ([16], [], [0]), ([16], [], [0]), ([16], [], [0]), ([16], [], [0]), ([16], [], [0]), ([16], [], [0]), ([16, 22], [], [0]), ([23], [], [0]), ([24], [], [0]), ([24], [], [0]), ([24], [], [0]), ([24], [], [0]), ([24], [], [0]), ([24], [], [0]), ([24, 30], [], [0]), ([31], [], [0])] (by kernel_rfl) (by kernel_rfl) rfl rfl rfl
      · refine ⟨?_, ?_, ?_, ?_, ?_, ?_, ?_, ?_, ?_, ?_, ?_, ?_, ?_, ?_, ?_, ?_, ?_, ?_, ?_, ?_, ?_, ?_, ?_, ?_, ?_, ?_, ?_, ?_, ?_, ?_, ?_, ?_, ?_, trivial⟩
        · refine ⟨fun F => ?_, trivial⟩
          refine WL.q (y_move rfl) (Wt.none rfl) rfl rfl ?_
          exact WL.done1 rfl rfl rfl
        · refine ⟨fun F => ?_, trivial⟩
          refine WL.q (y_move rfl) (Wt.none rfl) rfl rfl ?_
          exact WL.done1 rfl rfl rfl
        · refine ⟨fun F => ?_, trivial⟩
          refine WL.fn rfl rfl rfl rfl (f26_c _) ⟨(Le.refl _), trivial⟩ (Wt.none rfl) rfl rfl ?_
          exact WL.done1 rfl rfl rfl
        · refine ⟨fun F => ?_, trivial⟩
          refine WL.q (y_loadN rfl rfl a26 s26 rfl) (Wt.none rfl) rfl rfl ?_
          exact WL.done1 rfl rfl rfl
        · refine ⟨fun F => ?_, trivial⟩
          refine WL.s ((NewOs.data (n_buildSlice l24 z26 rfl (by decide) (by decide) rfl rfl rfl (by decide)) (by exact encA_map E26_eq [(f26 0), (f27 7 (f27 4 (f26 1) (f26 0)) (f26 1))])).does) (Wt.none rfl) rfl rfl ?_
          exact WL.done1 rfl rfl rfl
        · refine ⟨fun F => ?_, trivial⟩
          refine WL.fn rfl rfl rfl rfl (f23_c _ _) ⟨(Le.refl _), (Le.refl _), trivial⟩ (Wt.none rfl) rfl rfl ?_
          exact WL.done1 rfl rfl rfl
        · refine ⟨fun F => ?_, trivial⟩
          refine WL.fn rfl rfl rfl rfl (f38_c _ _ _ _ hr208) ⟨(Le.refl _), (Le.refl _), (Le.refl _), (Le.refl _), trivial⟩ (Wt.none rfl) rfl rfl ?_
          exact WL.done1 rfl rfl rfl
        · refine ⟨fun F => ?_, trivial⟩
          refine WL.q (y_move rfl) (Wt.none rfl) rfl rfl ?_
          refine WL.cast 117 rfl (Le.ofd (by rw [hb4])) ?_
          exact WL.done2 rfl rfl rfl
        · refine ⟨fun F => ?_, trivial⟩
          refine WL.skips 1 rfl ?_
          exact WL.done1 rfl rfl rfl
        · refine ⟨fun F => ?_, trivial⟩
          refine WL.skips 1 rfl ?_
          exact WL.done1 rfl rfl rfl
        · refine ⟨fun F => ?_, trivial⟩
          refine WL.skips 1 rfl ?_
          exact WL.done1 rfl rfl rfl
        · refine ⟨fun F => ?_, trivial⟩
          refine WL.skips 1 rfl ?_
          exact WL.done1 rfl rfl rfl
        · refine ⟨fun F => ?_, trivial⟩
          refine WL.skips 1 rfl ?_
          exact WL.done1 rfl rfl rfl
        · refine ⟨fun F => ?_, trivial⟩
          refine WL.skips 1 rfl ?_
          exact WL.done1 rfl rfl rfl
        · refine ⟨fun F => ?_, trivial⟩
          refine WL.skips 1 rfl ?_
          exact WL.done1 rfl rfl rfl
        · refine ⟨fun F => ?_, trivial⟩
          refine WL.q (y_pick_f rfl rfl) (Wt.none rfl) rfl rfl ?_
          exact WL.done1 rfl rfl rfl
        · refine ⟨fun F => ?_, trivial⟩
          refine WL.q (y_move rfl) (Wt.none rfl) rfl rfl ?_
          exact WL.done1 rfl rfl rfl
        · refine ⟨fun F => ?_, trivial⟩
          refine WL.skips 1 rfl ?_
          exact WL.done1 rfl rfl rfl
        · refine ⟨fun F => ?_, trivial⟩
          refine WL.skips 1 rfl ?_
          exact WL.done1 rfl rfl rfl
        · refine ⟨fun F => ?_, trivial⟩
          refine WL.skips 1 rfl ?_
          exact WL.done1 rfl rfl rfl
        · refine ⟨fun F => ?_, trivial⟩
          refine WL.skips 1 rfl ?_
          exact WL.done1 rfl rfl rfl
        · refine ⟨fun F => ?_, trivial⟩
          refine WL.skips 1 rfl ?_
          exact WL.done1 rfl rfl rfl
        · refine ⟨fun F => ?_, trivial⟩
          refine WL.skips 1 rfl ?_
          exact WL.done1 rfl rfl rfl
        · refine ⟨fun F => ?_, trivial⟩
          refine WL.q (y_pick_f rfl rfl) (Wt.none rfl) rfl rfl ?_
          exact WL.done1 rfl rfl rfl
        · refine ⟨fun F => ?_, trivial⟩
          refine WL.q (y_move rfl) (Wt.none rfl) rfl rfl ?_
          exact WL.done1 rfl rfl rfl
        · refine ⟨fun F => ?_, trivial⟩
          refine WL.skips 1 rfl ?_
          exact WL.done1 rfl rfl rfl
        · refine ⟨fun F => ?_, trivial⟩
          refine WL.skips 1 rfl ?_
          exact WL.done1 rfl rfl rfl
        · refine ⟨fun F => ?_, trivial⟩
          refine WL.skips 1 rfl ?_
          exact WL.done1 rfl rfl rfl
        · refine ⟨fun F => ?_, trivial⟩
          refine WL.skips 1 rfl ?_
          exact WL.done1 rfl rfl rfl
        · refine ⟨fun F => ?_, trivial⟩
          refine WL.skips 1 rfl ?_
          exact WL.done1 rfl rfl rfl
        · refine ⟨fun F => ?_, trivial⟩
          refine WL.skips 1 rfl ?_
          exact WL.done1 rfl rfl rfl
        · refine ⟨fun F => ?_, trivial⟩
          refine WL.q (y_pick_f rfl rfl) (Wt.none rfl) rfl rfl ?_
          exact WL.done1 rfl rfl rfl
        · refine ⟨fun F => ?_, trivial⟩
          refine WL.q (y_assign rfl) (Wt.none rfl) rfl rfl ?_
          exact WL.done1 rfl rfl rfl
      · exact we_lp ⟨false, h, (Sub.cons rfl (Le.refl _) (Sub.cons rfl (Le.refl _) (Sub.cons rfl (Le.refl _) (Sub.cons rfl (Le.refl _) (Sub.nil _))))), ⟨trivial, trivial, trivial, trivial, trivial, trivial, ⟨rfl, ⟨(Le.refl _), (Le.refl _), (Le.refl _), (Le.refl _), (Le.refl _), (Le.refl _), (Le.refl _), (Le.refl _), (Le.refl _), trivial⟩⟩, trivial⟩⟩
  · rintro env1 st1 ⟨four206, h, hsub, hst⟩
    subst hk207
    dsimp only at h
    refine WC.sub hsub (WC.weak hst ?_)
    refine wc_seq ?_
    refine wc_region ?_
    refine WL.s ((NewOs.b (n_buildSlice l56 z2 rfl (by decide) (by decide) rfl rfl rfl (by decide))).does) (Wt.none rfl) rfl rfl ?_
    refine WL.freezeX [143] [] 7 (List.map E2 [5, 6]) rfl (encA_map E2_eq [5, 6]) ⟨rfl, trivial⟩ trivial ?_
    refine WL.s ((NewOs.b (n_buildSlice l37 z56 rfl (by decide) (by decide) rfl rfl rfl (by decide))).does) (Wt.none rfl) rfl rfl ?_
    refine WL.q (y_build p29 z29 rfl rfl) (Wt.none rfl) rfl rfl ?_
    refine WL.freezeX [144] [] 8 (List.map E56 [[5, 6]]) rfl (encA_map E56_eq [[5, 6]]) ⟨rfl, trivial⟩ trivial ?_
    replace h := bindS h
    obtain ⟨r212, hr212, h⟩ := h
    refine WL.fn rfl rfl rfl rfl (f29_c _ _ hr212) ⟨(Le.refl _), (Le.agd ⟨(Le.refl _), (Le.refl _), (Le.refl _), (Le.refl _), Le.nil, trivial⟩), trivial⟩ (Wt.none rfl) rfl rfl ?_
    refine WL.q (y_move rfl) (Wt.none rfl) rfl rfl ?_
    refine WL.q (y_extractd rfl rfl) (Wt.none rfl) rfl rfl ?_
    refine WL.q (y_extractd rfl rfl) (Wt.none rfl) rfl rfl ?_
    refine WL.s ((b_alloc z52).does) (Wt.none rfl) rfl rfl ?_
    refine WL.s0 (d_store rfl rfl rfl rfl rfl rfl s52 rfl rfl) (Wt.none rfl) rfl ?_
    refine WL.q (y_assign rfl) (Wt.none rfl) rfl rfl ?_
    refine WL.nil ?_
    refine we_seq ?_
    refine wc_seq ?_
    refine wc_region ?_
    refine WL.q (y_move rfl) (Wt.none rfl) rfl rfl ?_
    refine WL.q (y_move rfl) (Wt.none rfl) rfl rfl ?_
    apply WL.and 2 (t := 150) (d := 152)
    · exact rfl
    · intro hg150
      refine WL.q (y_move rfl) (Wt.yes rfl rfl rfl) rfl rfl ?_
      refine WL.q (y_pick_t rfl rfl) (Wt.none rfl) rfl rfl ?_
      exact WL.nil ⟨rfl, [_, _], rfl, rfl, rfl⟩
    · refine WL.skips 1 rfl ?_
      refine WL.q (y_pick_f rfl rfl) (Wt.none rfl) rfl rfl ?_
      exact WL.nil ⟨rfl, [_, _], rfl, rfl, rfl⟩
    refine WL.q (y_move rfl) (Wt.none rfl) rfl rfl ?_
    apply WL.and 2 (t := 153) (d := 155)
    · exact rfl
    · intro hg153
      refine WL.q (y_move rfl) (Wt.yes rfl rfl rfl) rfl rfl ?_
      refine WL.q (y_pick_t rfl rfl) (Wt.none rfl) rfl rfl ?_
      exact WL.nil ⟨rfl, [_, _], rfl, rfl, rfl⟩
    · refine WL.skips 1 rfl ?_
      refine WL.q (y_pick_f rfl rfl) (Wt.none rfl) rfl rfl ?_
      exact WL.nil ⟨rfl, [_, _], rfl, rfl, rfl⟩
    refine WL.q (y_move rfl) (Wt.none rfl) rfl rfl ?_
    apply WL.and 2 (t := 156) (d := 158)
    · exact rfl
    · intro hg156
      refine WL.q (y_move rfl) (Wt.yes rfl rfl rfl) rfl rfl ?_
      refine WL.q (y_pick_t rfl rfl) (Wt.none rfl) rfl rfl ?_
      exact WL.nil ⟨rfl, [_, _], rfl, rfl, rfl⟩
    · refine WL.skips 1 rfl ?_
      refine WL.q (y_pick_f rfl rfl) (Wt.none rfl) rfl rfl ?_
      exact WL.nil ⟨rfl, [_, _], rfl, rfl, rfl⟩
    refine WL.q (y_move rfl) (Wt.none rfl) rfl rfl ?_
    apply WL.and 2 (t := 159) (d := 161)
    · exact rfl
    · intro hg159
      refine WL.q (y_move rfl) (Wt.yes rfl rfl rfl) rfl rfl ?_
      refine WL.q (y_pick_t rfl rfl) (Wt.none rfl) rfl rfl ?_
      exact WL.nil ⟨rfl, [_, _], rfl, rfl, rfl⟩
    · refine WL.skips 1 rfl ?_
      refine WL.q (y_pick_f rfl rfl) (Wt.none rfl) rfl rfl ?_
      exact WL.nil ⟨rfl, [_, _], rfl, rfl, rfl⟩
    refine WL.q (y_move rfl) (Wt.none rfl) rfl rfl ?_
    apply WL.and 4 (t := 162) (d := 166)
    · exact rfl
    · intro hg162
      refine WL.q (y_loadN rfl rfl a52 s52 rfl) (Wt.yes rfl rfl rfl) rfl rfl ?_
      refine WL.q (y_build p52 z52 rfl rfl) (Wt.yes rfl rfl rfl) rfl rfl ?_
      refine WL.q (y_eqst (xs := [.int .i64 r212.1.o, .int .i64 r212.1.slot]) (ys := [.int .i64 0, .int .i64 1]) (b := ((decide (r212.1.o = 0)) && ((decide (r212.1.slot = 1)) && true))) q52 rfl (Le.agd ⟨(Le.refl _), (Le.refl _), trivial⟩) rfl (Le.agd ⟨(Le.refl _), (Le.refl _), trivial⟩) rfl rfl rfl) (Wt.yes rfl rfl rfl) rfl rfl ?_
      refine WL.q (y_pick_t rfl rfl) (Wt.none rfl) rfl rfl ?_
      exact WL.nil ⟨rfl, [_, _, _, _], rfl, rfl, rfl⟩
    · refine WL.skips 3 rfl ?_
      refine WL.q (y_pick_f rfl rfl) (Wt.none rfl) rfl rfl ?_
      exact WL.nil ⟨rfl, [_, _, _, _], rfl, rfl, rfl⟩
    refine WL.q (y_move rfl) (Wt.none rfl) rfl rfl ?_
    replace h := bindS h
    obtain ⟨b213, hb213, h⟩ := h
    apply WL.grp 4 (t := 167) (d := 171) (z := b213)
    · exact rfl
    · intro hg167
      have h := condT hb213 hg167
      refine WL.fn rfl rfl rfl rfl (f52_c _) ⟨(Le.refl _), trivial⟩ (Wt.yes rfl rfl rfl) rfl rfl ?_
      replace h := bindS h
      obtain ⟨r214, hr214, h⟩ := h
      refine WL.fn rfl rfl rfl rfl (f13_c _ _ hr214) ⟨(Le.refl _), (Le.refl _), trivial⟩ (Wt.yes rfl rfl rfl) rfl rfl ?_
      refine WL.q (y_not rfl) (Wt.yes rfl rfl rfl) rfl rfl ?_
      refine WL.q (y_pick_t rfl rfl) (Wt.none rfl) rfl rfl ?_
      obtain rfl := Option.some.inj h
      exact WL.nil ⟨rfl, [_, _, _, _], rfl, rfl, rfl⟩
    · intro hg167
      have h := condF hb213 hg167
      refine WL.skips 3 rfl ?_
      refine WL.q (y_pick_f rfl rfl) (Wt.none rfl) rfl rfl ?_
      obtain rfl := Option.some.inj h
      exact WL.nil ⟨rfl, [_, _, _, _], rfl, rfl, rfl⟩
    refine WL.q (y_move rfl) (Wt.none rfl) rfl rfl ?_
    replace h := bindS h
    obtain ⟨b215, hb215, h⟩ := h
    apply WL.grp 3 (t := 172) (d := 175) (z := b215)
    · exact rfl
    · intro hg172
      have h := condT hb215 hg172
      refine WL.fn rfl rfl rfl rfl (f52_c _) ⟨(Le.refl _), trivial⟩ (Wt.yes rfl rfl rfl) rfl rfl ?_
      replace h := bindS h
      obtain ⟨r216, hr216, h⟩ := h
      refine WL.fn rfl rfl rfl rfl (f13_c _ _ hr216) ⟨(Le.refl _), (Le.refl _), trivial⟩ (Wt.yes rfl rfl rfl) rfl rfl ?_
      refine WL.q (y_pick_t rfl rfl) (Wt.none rfl) rfl rfl ?_
      obtain rfl := Option.some.inj h
      exact WL.nil ⟨rfl, [_, _, _], rfl, rfl, rfl⟩
    · intro hg172
      have h := condF hb215 hg172
      refine WL.skips 2 rfl ?_
      refine WL.q (y_pick_f rfl rfl) (Wt.none rfl) rfl rfl ?_
      obtain rfl := Option.some.inj h
      exact WL.nil ⟨rfl, [_, _, _], rfl, rfl, rfl⟩
    refine WL.q (y_move rfl) (Wt.none rfl) rfl rfl ?_
    replace h := bindS h
    obtain ⟨b217, hb217, h⟩ := h
    apply WL.grp 7 (t := 176) (d := 183) (z := b217)
    · exact rfl
    · intro hg176
      have h := condT hb217 hg176
      refine WL.fn rfl rfl rfl rfl (f39_c _ _) ⟨(Le.refl _), (Le.refl _), trivial⟩ (Wt.yes rfl rfl rfl) rfl rfl ?_
      refine WL.fn rfl rfl rfl rfl (f39_c _ _) ⟨(Le.refl _), (Le.refl _), trivial⟩ (Wt.yes rfl rfl rfl) rfl rfl ?_
      refine WL.fn rfl rfl rfl rfl (f27_c _ _ _) ⟨(Le.refl _), (Le.refl _), (Le.refl _), trivial⟩ (Wt.yes rfl rfl rfl) rfl rfl ?_
      replace h := bindS h
      obtain ⟨r218, hr218, h⟩ := h
      refine WL.fn rfl rfl rfl rfl (f18_c _ hr218) ⟨(Le.refl _), trivial⟩ (Wt.yes rfl rfl rfl) rfl rfl ?_
      refine WL.s ((NewOs.data (n_buildSlice l33 z3 rfl (by decide) (by decide) rfl rfl rfl (by decide)) (by exact encA_map E3_eq [1, 3])).does) (Wt.yes rfl rfl rfl) rfl rfl ?_
      replace h := bindS h
      obtain ⟨r219, hr219, h⟩ := h
      refine WL.fn rfl rfl rfl rfl (f17_c _ _ hr219) ⟨(Le.refl _), (Le.refl _), trivial⟩ (Wt.yes rfl rfl rfl) rfl rfl ?_
      refine WL.q (y_pick_t rfl rfl) (Wt.none rfl) rfl rfl ?_
      obtain rfl := Option.some.inj h
      exact WL.nil ⟨rfl, [_, _, _, _, _, _, _], rfl, rfl, rfl⟩
    · intro hg176
      have h := condF hb217 hg176
      refine WL.skips 6 rfl ?_
      refine WL.q (y_pick_f rfl rfl) (Wt.none rfl) rfl rfl ?_
      obtain rfl := Option.some.inj h
      exact WL.nil ⟨rfl, [_, _, _, _, _, _, _], rfl, rfl, rfl⟩
    refine WL.q (y_assign rfl) (Wt.none rfl) rfl rfl ?_
    refine WL.nil ?_
    refine we_seq ?_
    refine wc_ret ?_
    obtain rfl := Option.some.inj h
    exact we_ret_fn (rs1 rfl (rv_t rfl)) (Le.refl _)

theorem f60o_c (s0 : List Int) {vo0 : Nat} {r : List Int} (h : f60o s0 = some r) : Ctr Try.prog 60 [.d (.sl (List.map E2 s0))] [.os 2 1 vo0 (List.map (encA E2) ([] : List Int))] (WinA 1 (fun iv => .os 0 iv) (fun iv => [.os 2 1 iv (List.map (encA E2) r)])) := by
  unfold f60o at h
  replace h := guardBS h
  obtain ⟨hg, h⟩ := h
  obtain rfl := Option.some.inj h
  refine ctr_intro Try.func60 (by kernel_rfl) rfl rfl rfl (fun mm φφ ww hmm => ?_)
  refine wc_seq ?_
  refine wc_region ?_
  refine WL.q (y_assign rfl) (Wt.none rfl) rfl rfl ?_
  refine WL.nil ?_
  refine we_seq ?_
  refine wc_seq ?_
  refine wc_seq ?_
  refine wc_region ?_
  refine WL.q (y_move rfl) (Wt.none rfl) rfl rfl ?_
  refine WL.isnil false rfl Try.underlying56 rfl (Le.refl _) (Wt.none rfl) rfl (fun b hb => ?_)
  refine WL.nil ?_
  refine we_seq ?_
  refine wc_cond rfl (fun hc => ?_) (fun hc => ?_)
  · have hb2 := hb (by cases b <;> first | rfl | cases hc)
    have hb3 : s0 = [] := by cases s0 <;> first | rfl | cases hb2
    subst hb3
    refine wc_seq ?_
    refine wc_region ?_
    refine WL.q (y_assign rfl) (Wt.none rfl) rfl rfl ?_
    refine WL.nil ?_
    refine we_seq ?_
    refine wc_ret ?_
    refine we_seq_ret ?_
    refine Gh.we (gh_nil_os 2 2 1 rfl) ?_
    refine Gh.we (gh_give [2] [] 1 0 rfl rfl rfl ⟨rfl, trivial⟩ trivial) ?_
    exact we_ret_wina (vo0 + 0 + 1) (rs1 rfl (rv_t rfl)) (Le.refl _) rfl ⟨⟨rfl, rfl, rfl, rfl⟩, trivial⟩
  · refine wc_skip ?_
    refine we_seq ?_
    refine wc_seq ?_
    refine wc_region ?_
    refine WL.s (((n_buildNone l56).b).does) (Wt.none rfl) rfl rfl ?_
    refine WL.q (y_move rfl) (Wt.none rfl) rfl rfl ?_
    refine WL.s (d_appendL E2 ([] : List Int) s0 l56 z2 rfl (by decide) rfl rfl rfl rfl (Src.dataL (Le.refl _) E2_eq (fun _ => rfl)) (fun _ => rfl) (fun _ => rfl) hg) (Wt.none rfl) rfl rfl ?_
    refine WL.q (y_assign rfl) (Wt.none rfl) rfl rfl ?_
    refine WL.nil ?_
    refine we_seq ?_
    refine wc_ret ?_
    refine Gh.we (gh_give [2] [] 1 0 rfl rfl rfl ⟨rfl, trivial⟩ trivial) ?_
    exact we_ret_wina (vo0 + (0 + 1) + 1) (rs1 rfl (rv_t rfl)) (Le.refl _) rfl ⟨⟨rfl, rfl, rfl, rfl⟩, trivial⟩

theorem f36_c (s0 : List (List Int)) (at1 : Spot) (v2 : Int) {r : List (List Int)} (h : f36 s0 at1 v2 = some r) : Pu Try.prog 36 [.sl (List.map E56 s0), .ag (R52 at1), .i .i64 v2] (.sl (List.map E56 r)) := by
  unfold f36 at h
  refine fn_intro Try.func36 (by kernel_rfl) rfl rfl rfl (fun φφ ww => ?_)
  refine wc_seq ?_
  refine wc_region ?_
  refine WL.s ((b_boxd rfl rfl (Les.refl _)).does) (Wt.none rfl) rfl rfl ?_
  refine WL.q (y_assign rfl) (Wt.none rfl) rfl rfl ?_
  refine WL.nil ?_
  refine we_seq ?_
  refine wc_seq ?_
  refine wc_region ?_
  refine WL.q (y_move rfl) (Wt.none rfl) rfl rfl ?_
  refine WL.q (y_len_map E56 s0 e37 rfl rfl (Le.refl _)) (Wt.none rfl) rfl rfl ?_
  replace h := guardBS h
  obtain ⟨hgg46, h⟩ := h
  refine WL.s ((NewOs.b (n_makeSlice l37 z56 rfl (Nat.succ_pos _) rfl rfl hgg46)).does) (Wt.none rfl) rfl rfl ?_
  refine Gh.wl (gh_fam_new E2 0 2 1 rfl) ?_
  refine WL.q (y_assign rfl) (Wt.none rfl) rfl rfl ?_
  refine WL.nil ?_
  refine we_seq ?_
  replace h := letkS h
  obtain ⟨k49, hk49, h⟩ := h
  refine wc_cut (fun env' st' => ∃ (l47 : List (List Int)), ∃ (ver48 : Nat), k49 l47 = some r ∧ Sub [(0, .d (.sl (List.map E56 s0))), (2, .d (D.i .i64 v2)), (4, .d (.pc (R52 at1))), (7, .os 0 0)] env' ∧ SLe st' [.os 56 1 0 (famE 1 ver48 (List.length l47)), .fam 2 1 ver48 (famM E2 l47)]) ?_ ?_
  · refine wc_seq ?_
    refine wc_region ?_
    refine WL.q (y_move rfl) (Wt.none rfl) rfl rfl ?_
    refine WL.q (y_len_map E56 s0 e37 rfl rfl (Le.refl _)) (Wt.none rfl) rfl rfl ?_
    refine WL.q (y_move rfl) (Wt.none rfl) rfl rfl ?_
    refine WL.nil ?_
    refine we_seq ?_
    refine wc_block ?_
    refine wc_loop (fun n env' st' => ∃ (t53 : Int), ∃ (l54 : List (List Int)), ∃ (ver55 : Nat), f36_l1 s0 k49 n t53 l54 = some r ∧ Sub [(0, .d (.sl (List.map E56 s0))), (2, .d (D.i .i64 v2)), (4, .d (.pc (R52 at1))), (7, .os 0 0), (13, .d (.sl (List.map E56 s0))), (14, .d (D.i .i64 (List.length s0 : Int))), (15, .d (D.i .i64 t53))] env' ∧ SLe st' [.os 56 1 0 (famE 1 ver55 (List.length l54)), .fam 2 1 ver55 (famM E2 l54)]) (fun n => n) (Int.toNat ((List.length s0 : Int) - 0) + 1) ⟨0, (List.replicate (Int.toNat (List.length s0 : Int)) ([] : List Int)), _, h, (Sub.cons rfl (Le.refl _) (Sub.cons rfl (Le.refl _) (Sub.cons rfl (Le.refl _) (Sub.cons rfl (Le.refl _) (Sub.cons rfl (Le.refl _) (Sub.cons rfl (Le.refl _) (Sub.cons rfl (Le.refl _) (Sub.nil _)))))))), ⟨⟨rfl, rfl, rfl, rfl⟩, ⟨rfl, rfl, rfl, rfl⟩, trivial⟩⟩ ?_
    rintro n env1 st1 ⟨t53, l54, ver55, h, hsub, hst⟩
    cases n with
    | zero => rw [f36_l1] at h; cases h
    | succ n =>
    rw [f36_l1] at h
    refine WC.sub hsub (WC.weak hst ?_)
    refine wc_seq ?_
    refine wc_region ?_
    refine WL.q (y_lss rfl rfl) (Wt.none rfl) rfl rfl ?_
    refine WL.nil ?_
    refine we_seq ?_
    refine wc_seq ?_
    refine wc_cond rfl (fun hc1 => ?_) (fun hc1 => ?_)
    · replace h := condT h hc1
      refine wc_skip ?_
      refine we_seq ?_
      refine wc_seq ?_
      refine wc_block ?_
      refine wc_seq ?_
      refine wc_region ?_
      refine WL.q (y_move rfl) (Wt.none rfl) rfl rfl ?_
      replace h := bindS h
      obtain ⟨x59, hx59, h⟩ := h
      refine WL.q (y_indexAddr e37 rfl (Le.refl _) rfl (idx_nonneg hx59) (idx_row E56_eq hx59) rfl) (Wt.none rfl) rfl rfl ?_
      refine WL.q (y_loadc rfl a56 rfl) (Wt.none rfl) rfl rfl ?_
      refine WL.q (y_assign rfl) (Wt.none rfl) rfl rfl ?_
      refine WL.q (y_assign rfl) (Wt.none rfl) rfl rfl ?_
      refine WL.nil ?_
      refine we_seq ?_
      refine wc_region ?_
      refine WL.q (y_move rfl) (Wt.none rfl) rfl rfl ?_
      refine WL.q (y_move rfl) (Wt.none rfl) rfl rfl ?_
      refine WL.q (y_move rfl) (Wt.none rfl) rfl rfl ?_
      replace h := bindS h
      obtain ⟨r60, hr60, h⟩ := h
      refine Gh.wl (gh_push_os 2 1) ?_
      refine WL.wina [2] rfl rfl rfl rfl (f60o_c _ hr60) ⟨(Le.refl _), trivial⟩ rfl (by decide) rfl ⟨rfl, trivial⟩ rfl rfl (fun _ => (stLt_cons (lt_os _ _ _ _ _ _) rfl)) (fun _ => (cons_eq (ren_os _ _ _ _ _ _) rfl)) (fun _ => rfl) (fun _ => rfl) (Wt.none rfl) rfl rfl (fun ver61 => ?_)
      replace h := bindS h
      obtain ⟨x62, hx62, h⟩ := h
      refine WL.q (y_pe_fam e37 rfl rfl rfl (idx_nonneg hx62) (idx_lt hx62)) (Wt.none rfl) rfl rfl ?_
      refine WL.s0 (d_store_fam (i := t53) (n := List.length l54) rfl rfl rfl rfl s56 (idx_toNat hx62)) (Wt.none rfl) rfl ?_
      refine Gh.wl (gh_fam_put (L := l54) (x := []) (x' := r60) (j := Int.toNat t53) 0 1 2 (List.set l54 (Int.toNat t53) r60) rfl rfl rfl rfl rfl (idx_toNat hx62) rfl) ?_
      refine WL.nil ?_
      refine we_blk ?_
      refine we_seq ?_
      refine wc_region ?_
      refine WL.q (y_add rfl rfl rfl) (Wt.none rfl) rfl rfl ?_
      refine WL.q (y_move rfl) (Wt.none rfl) rfl rfl ?_
      refine WL.nil ?_
      refine WE.drop 2 (env' := [(0, .d (.sl (List.map E56 s0))), (2, .d (D.i .i64 v2)), (4, .d (.pc (R52 at1))), (7, .os 0 0), (13, .d (.sl (List.map E56 s0))), (14, .d (D.i .i64 (List.length s0 : Int))), (15, .d (D.i .i64 (IntKind.i64.wrap (t53 + 1))))]) (Sub.one rfl (Sub.one rfl (Sub.one rfl (Sub.one rfl (Sub.one rfl (Sub.one rfl (Sub.one rfl (Sub.nil _)))))))) rfl (stLt_cons (lt_osf _ _ _ _ _ _ _ rfl) (stLt_cons (lt_fam _ _ _ _ _ _) rfl)) (Nat.zero_le _) ?_
      exact we_lp ⟨n, ⟨(IntKind.i64.wrap (t53 + 1)), (List.set l54 (Int.toNat t53) r60), _, h, (Sub.cons rfl (Le.refl _) (Sub.cons rfl (Le.refl _) (Sub.cons rfl (Le.refl _) (Sub.cons rfl (Le.refl _) (Sub.cons rfl (Le.refl _) (Sub.cons rfl (Le.refl _) (Sub.cons rfl (Le.refl _) (Sub.nil _)))))))), ⟨⟨rfl, rfl, rfl, rfl⟩, ⟨rfl, rfl, rfl, rfl⟩, trivial⟩⟩, Nat.lt_succ_self n⟩
    · replace h := condF h hc1
      refine wc_exit ?_
      refine we_seq_exit ?_
      refine we_lp_exit ?_
      refine we_blk_hit ?_
      exact we_lp ⟨l54, _, h, (Sub.cons rfl (Le.refl _) (Sub.cons rfl (Le.refl _) (Sub.cons rfl (Le.refl _) (Sub.cons rfl (Le.refl _) (Sub.nil _))))), ⟨⟨rfl, rfl, rfl, rfl⟩, ⟨rfl, rfl, rfl, rfl⟩, trivial⟩⟩
  · rintro env1 st1 ⟨l47, ver48, h, hsub, hst⟩
    subst hk49
    dsimp only at h
    refine WC.sub hsub (WC.weak hst ?_)
    replace h := letkS h
    obtain ⟨k65, hk65, h⟩ := h
    refine wc_cut (fun env' st' => ∃ (l63 : List (List Int)), ∃ (ver64 : Nat), k65 l63 = some r ∧ Sub [(7, .os 0 0)] env' ∧ SLe st' [.os 56 1 0 (famE 1 ver64 (List.length l63)), .fam 2 1 ver64 (famM E2 l63)]) ?_ ?_
    · refine wc_seq ?_
      refine wc_region ?_
      refine WL.q (y_move rfl) (Wt.none rfl) rfl rfl ?_
      refine WL.q (y_fieldAddrc f52_0 rfl) (Wt.none rfl) rfl rfl ?_
      refine WL.q (y_loadc rfl a3 rfl) (Wt.none rfl) rfl rfl ?_
      refine WL.q (y_fieldAddrc f52_1 rfl) (Wt.none rfl) rfl rfl ?_
      refine WL.q (y_loadc rfl a3 rfl) (Wt.none rfl) rfl rfl ?_
      replace h := bindS h
      obtain ⟨r66, hr66, h⟩ := h
      refine WL.fn rfl rfl rfl rfl (f55_c _ _ _ hr66) ⟨(Le.refl _), (Le.refl _), (Le.refl _), trivial⟩ (Wt.none rfl) rfl rfl ?_
      refine WL.nil ?_
      refine we_seq ?_
      refine wc_cond rfl (fun hc2 => ?_) (fun hc2 => ?_)
      · replace h := condT h hc2
        replace h := bindS h
        obtain ⟨x67, hx67, h⟩ := h
        replace h := bindS h
        obtain ⟨x68, hx68, h⟩ := h
        apply wc_region_all [_, _, _, _, _, _, _, _, _, .u] [[], [], [1], [0, 1, 2], [0, 1, 2, 3], [], [5], [], [0, 1, 2, 3, 4, 5, 6, 7], [0, 1, 2, 3, 4, 5, 6, 7, 8]] [4, 9] (fun c => List.getD [[.os 56 1 0 (famE 1 ver48 (List.length l47)), .fam 2 1 ver48 (famM E2 l47)], [.os 56 1 0 (List.set (famE 1 (ver48 + 1) (List.length l47)) (Int.toNat at1.o) [.os 2 0]), .fam 2 1 (ver48 + 1) (famM E2 (List.set l47 (Int.toNat at1.o) [])), .os 2 1 0 (List.map (encA E2) x67)], [.os 56 1 0 (List.set (famE 1 (ver48 + 1) (List.length l47)) (Int.toNat at1.o) [.os 2 0]), .fam 2 1 (ver48 + 1) (famM E2 (List.set l47 (Int.toNat at1.o) [])), .os 2 1 0 (List.map (encA E2) (List.set x67 (Int.toNat at1.slot) v2))]] c []) [([], [7], [0]), ([], [4], [0]), ([1], [], [0]), ([0, 2], [], [0]), ([3], [], [0]), ([], [4], [0, 1]), ([5], [], [0, 1]), ([], [2], [0, 1]), ([4, 6], [], [1]), ([8, 7], [], [1])] (by kernel_rfl) (by kernel_rfl) rfl rfl rfl
        · refine ⟨?_, ?_, ?_, ?_, ?_, ?_, ?_, ?_, ?_, ?_, trivial⟩
          · refine ⟨fun F => ?_, trivial⟩
            refine WL.q (y_move rfl) (Wt.none rfl) rfl rfl ?_
            exact WL.done1 rfl rfl rfl
          · refine ⟨fun F => ?_, trivial⟩
            refine WL.q (y_fieldAddrc f52_0 rfl) (Wt.none rfl) rfl rfl ?_
            exact WL.done1 rfl rfl rfl
          · refine ⟨fun F => ?_, trivial⟩
            refine WL.q (y_loadc rfl a3 rfl) (Wt.none rfl) rfl rfl ?_
            exact WL.done1 rfl rfl rfl
          · refine ⟨fun F => ?_, trivial⟩
            refine WL.q (y_pe_fam e37 rfl rfl rfl (idx_nonneg hx67) (idx_lt hx67)) (Wt.none rfl) rfl rfl ?_
            exact WL.done1 rfl rfl rfl
          · refine ⟨fun F => ?_, trivial⟩
            refine Gh.wl (gh_fam_take (L := l47) (x := x67) (i := at1.o) 0 1 rfl rfl rfl hx67) ?_
            refine WL.q (y_load_fam (i := at1.o) rfl rfl a56 (idx_toNat hx67)) (Wt.none rfl) rfl rfl ?_
            exact WL.done1 rfl rfl rfl
          · refine ⟨fun F => ?_, fun F => ?_, trivial⟩
            · refine WL.q (y_fieldAddrc f52_1 rfl) (Wt.none rfl) rfl rfl ?_
              exact WL.done1 rfl rfl rfl
            · refine WL.q (y_fieldAddrc f52_1 rfl) (Wt.none rfl) rfl rfl ?_
              exact WL.done1 rfl rfl rfl
          · refine ⟨fun F => ?_, fun F => ?_, trivial⟩
            · refine WL.q (y_loadc rfl a3 rfl) (Wt.none rfl) rfl rfl ?_
              exact WL.done1 rfl rfl rfl
            · refine WL.q (y_loadc rfl a3 rfl) (Wt.none rfl) rfl rfl ?_
              exact WL.done1 rfl rfl rfl
          · refine ⟨fun F => ?_, fun F => ?_, trivial⟩
            · refine WL.q (y_move rfl) (Wt.none rfl) rfl rfl ?_
              exact WL.done1 rfl rfl rfl
            · refine WL.q (y_move rfl) (Wt.none rfl) rfl rfl ?_
              exact WL.done1 rfl rfl rfl
          · refine ⟨fun F => ?_, trivial⟩
            refine WL.q (y_pe e56 rfl rfl rfl hx68) (Wt.none rfl) rfl rfl ?_
            exact WL.done1 rfl rfl rfl
          · refine ⟨fun F => ?_, trivial⟩
            refine WL.s0 (d_store_peL (R := E2) (k := 1) (i := at1.slot) (fo := 0) v2 rfl rfl rfl rfl (Le.refl _) rfl rfl rfl s2 rfl (fun _ => rfl) hx68 rfl rfl) (Wt.none rfl) rfl ?_
            exact WL.done0 rfl rfl
        · refine Gh.we (gh_fam_back (L0 := l47) (x' := (List.set x67 (Int.toNat at1.slot) v2)) 0 1 2 rfl rfl rfl rfl rfl (idx_toNat hx67)) ?_
          refine WE.drop 2 (env' := [(7, .os 0 0)]) (Sub.one rfl (Sub.nil _)) rfl (stLt_cons (lt_osf _ _ _ _ _ _ _ rfl) (stLt_cons (lt_fam _ _ _ _ _ _) rfl)) (Nat.zero_le _) ?_
          exact we_lp ⟨(List.set l47 (Int.toNat at1.o) (List.set x67 (Int.toNat at1.slot) v2)), _, h, (Sub.cons rfl (Le.refl _) (Sub.nil _)), ⟨⟨rfl, rfl, rfl, rfl⟩, ⟨rfl, rfl, rfl, rfl⟩, trivial⟩⟩
      · replace h := condF h hc2
        refine wc_skip ?_
        exact we_lp ⟨l47, _, h, (Sub.cons rfl (Le.refl _) (Sub.nil _)), ⟨⟨rfl, rfl, rfl, rfl⟩, ⟨rfl, rfl, rfl, rfl⟩, trivial⟩⟩
    · rintro env1 st1 ⟨l63, ver64, h, hsub, hst⟩
      subst hk65
      dsimp only at h
      refine WC.sub hsub (WC.weak hst ?_)
      refine wc_seq ?_
      refine wc_region ?_
      refine WL.q (y_move rfl) (Wt.none rfl) rfl rfl ?_
      refine WL.q (y_assign rfl) (Wt.none rfl) rfl rfl ?_
      refine WL.nil ?_
      refine we_seq ?_
      refine wc_ret ?_
      refine Gh.we (gh_fam_frz (E := E2) (R' := E2) (L := l63) 0 1 E2_eq rfl rfl rfl) ?_
      refine WE.freezeX [7, 41, 6] [] 0 (List.map E56 l63) rfl (encA_map E56_eq l63) ⟨rfl, rfl, rfl, trivial⟩ trivial ?_
      obtain rfl := Option.some.inj h
      exact we_ret_fn (rs1 rfl (rv_t rfl)) (Le.refl _)

theorem f34o_c (s0 : List (List Int)) (at1 : Spot) (v2 : Int) {vo0 : Nat} {r : List (List Int)} (h : f34o s0 at1 v2 = some r) : Ctr Try.prog 34 [.d (.sl (List.map E56 s0)), .d (.ag (R52 at1)), .d (.i .i64 v2)] [.os 56 1 vo0 (List.map (encA E56) ([] : List (List Int)))] (WinA 1 (fun iv => .os 0 iv) (fun iv => [.os 56 1 iv (List.map (encA E56) r)])) := by
  unfold f34o at h
  refine ctr_intro Try.func34 (by kernel_rfl) rfl rfl rfl (fun mm φφ ww hmm => ?_)
  refine wc_seq ?_
  refine wc_region ?_
  refine WL.s ((b_boxd rfl rfl (Les.refl _)).does) (Wt.none rfl) rfl rfl ?_
  refine WL.q (y_assign rfl) (Wt.none rfl) rfl rfl ?_
  refine WL.nil ?_
  refine we_seq ?_
  refine wc_seq ?_
  refine wc_region ?_
  refine WL.q (y_assign rfl) (Wt.none rfl) rfl rfl ?_
  refine WL.nil_os 7 56 1 rfl ?_
  refine WL.nil ?_
  refine we_seq ?_
  replace h := letkS h
  obtain ⟨k61, hk61, h⟩ := h
  refine wc_cut (fun env' st' => ∃ (l59 : List (List Int)), ∃ (ver60 : Nat), k61 l59 = some r ∧ Sub [(7, .os 1 ver60)] env' ∧ SLe st' [.os 56 1 vo0 (List.map (encA E56) ([] : List (List Int))), .os 56 1 ver60 (List.map (encA E56) l59)]) ?_ ?_
  · refine wc_seq ?_
    refine wc_region ?_
    refine WL.q (y_assign rfl) (Wt.none rfl) rfl rfl ?_
    refine WL.nil ?_
    refine we_seq ?_
    refine wc_block ?_
    refine wc_loop (fun n env' st' => ∃ (iq65 : Int), ∃ (l66 : List (List Int)), ∃ (ver67 : Nat), f34o_l1 s0 at1 v2 k61 n iq65 l66 = some r ∧ Sub [(0, .d (.sl (List.map E56 s0))), (2, .d (D.i .i64 v2)), (4, .d (.pc (R52 at1))), (7, .os 1 ver67), (8, .d (D.i .i64 iq65))] env' ∧ SLe st' [.os 56 1 vo0 (List.map (encA E56) ([] : List (List Int))), .os 56 1 ver67 (List.map (encA E56) l66)]) (fun n => n) 9223372036854775808 ⟨0, [], _, h, (Sub.cons rfl (Le.refl _) (Sub.cons rfl (Le.refl _) (Sub.cons rfl (Le.refl _) (Sub.cons rfl (Le.refl _) (Sub.cons rfl (Le.refl _) (Sub.nil _)))))), ⟨⟨rfl, rfl, rfl, rfl⟩, ⟨rfl, rfl, rfl, rfl⟩, trivial⟩⟩ ?_
    rintro n env1 st1 ⟨iq65, l66, ver67, h, hsub, hst⟩
    cases n with
    | zero => rw [f34o_l1] at h; cases h
    | succ n =>
    rw [f34o_l1] at h
    refine WC.sub hsub (WC.weak hst ?_)
    refine wc_seq ?_
    refine wc_seq ?_
    refine wc_region ?_
    refine WL.q (y_move rfl) (Wt.none rfl) rfl rfl ?_
    refine WL.q (y_move rfl) (Wt.none rfl) rfl rfl ?_
    refine WL.q (y_len_map E56 s0 e37 rfl rfl (Le.refl _)) (Wt.none rfl) rfl rfl ?_
    refine WL.q (y_lss rfl rfl) (Wt.none rfl) rfl rfl ?_
    refine WL.nil ?_
    refine we_seq ?_
    refine wc_cond rfl (fun hc1 => ?_) (fun hc1 => ?_)
    · replace h := condT h hc1
      refine wc_skip ?_
      refine we_seq ?_
      replace h := letkS h
      obtain ⟨k75, hk75, h⟩ := h
      refine wc_cut (fun env' st' => ∃ (l71 : List (List Int)), ∃ (ver72 : Nat), ∃ (l73 : List (List Int)), ∃ (ver74 : Nat), k75 l71 l73 = some r ∧ Sub [(0, .d (.sl (List.map E56 s0))), (2, .d (D.i .i64 v2)), (4, .d (.pc (R52 at1))), (7, .os 1 ver72), (8, .d (D.i .i64 iq65))] env' ∧ SLe st' [.os 56 1 vo0 (List.map (encA E56) ([] : List (List Int))), .os 56 1 ver72 (List.map (encA E56) l71), .dead, .os 56 1 ver74 (List.map (encA E56) l73)]) ?_ ?_
      · refine wc_block ?_
        refine wc_seq ?_
        refine wc_region ?_
        refine WL.q (y_assign rfl) (Wt.none rfl) rfl rfl ?_
        refine WL.nil_os 9 2 1 rfl ?_
        refine WL.nil ?_
        refine we_seq ?_
        replace h := letkS h
        obtain ⟨k78, hk78, h⟩ := h
        refine wc_cut (fun env' st' => ∃ (l76 : List Int), ∃ (ver77 : Nat), k78 l76 = some r ∧ Sub [(0, .d (.sl (List.map E56 s0))), (2, .d (D.i .i64 v2)), (4, .d (.pc (R52 at1))), (7, .os 1 ver67), (8, .d (D.i .i64 iq65)), (9, .os 2 ver77)] env' ∧ SLe st' [.os 56 1 vo0 (List.map (encA E56) ([] : List (List Int))), .os 56 1 ver67 (List.map (encA E56) l66), .os 2 1 ver77 (List.map (encA E2) l76)]) ?_ ?_
        · refine wc_seq ?_
          refine wc_region ?_
          refine WL.q (y_assign rfl) (Wt.none rfl) rfl rfl ?_
          refine WL.nil ?_
          refine we_seq ?_
          refine wc_block ?_
          refine wc_loop (fun na env' st' => ∃ (k82 : Int), ∃ (l83 : List Int), ∃ (ver84 : Nat), f34o_l2 s0 at1 v2 iq65 k78 na k82 l83 = some r ∧ Sub [(0, .d (.sl (List.map E56 s0))), (2, .d (D.i .i64 v2)), (4, .d (.pc (R52 at1))), (7, .os 1 ver67), (8, .d (D.i .i64 iq65)), (9, .os 2 ver84), (10, .d (D.i .i64 k82))] env' ∧ SLe st' [.os 56 1 vo0 (List.map (encA E56) ([] : List (List Int))), .os 56 1 ver67 (List.map (encA E56) l66), .os 2 1 ver84 (List.map (encA E2) l83)]) (fun n => n) 9223372036854775808 ⟨0, [], _, h, (Sub.cons rfl (Le.refl _) (Sub.cons rfl (Le.refl _) (Sub.cons rfl (Le.refl _) (Sub.cons rfl (Le.refl _) (Sub.cons rfl (Le.refl _) (Sub.cons rfl (Le.refl _) (Sub.cons rfl (Le.refl _) (Sub.nil _)))))))), ⟨⟨rfl, rfl, rfl, rfl⟩, ⟨rfl, rfl, rfl, rfl⟩, ⟨rfl, rfl, rfl, rfl⟩, trivial⟩⟩ ?_
          rintro na env1 st1 ⟨k82, l83, ver84, h, hsub, hst⟩
          cases na with
          | zero => rw [f34o_l2] at h; cases h
          | succ na =>
          rw [f34o_l2] at h
          refine WC.sub hsub (WC.weak hst ?_)
          refine wc_seq ?_
          refine wc_seq ?_
          refine wc_region ?_
          refine WL.q (y_move rfl) (Wt.none rfl) rfl rfl ?_
          refine WL.q (y_move rfl) (Wt.none rfl) rfl rfl ?_
          refine WL.q (y_move rfl) (Wt.none rfl) rfl rfl ?_
          replace h := bindS h
          obtain ⟨x88, hx88, h⟩ := h
          refine WL.q (y_indexAddr e37 rfl (Le.refl _) rfl (idx_nonneg hx88) (idx_row E56_eq hx88) rfl) (Wt.none rfl) rfl rfl ?_
          refine WL.q (y_loadc rfl a56 rfl) (Wt.none rfl) rfl rfl ?_
          refine WL.q (y_len_map E2 x88 e56 rfl rfl (Le.refl _)) (Wt.none rfl) rfl rfl ?_
          refine WL.q (y_lss rfl rfl) (Wt.none rfl) rfl rfl ?_
          refine WL.nil ?_
          refine we_seq ?_
          refine wc_cond rfl (fun hc2 => ?_) (fun hc2 => ?_)
          · replace h := condT h hc2
            refine wc_skip ?_
            refine we_seq ?_
            replace h := letkS h
            obtain ⟨k93, hk93, h⟩ := h
            refine wc_cut (fun env' st' => ∃ (l89 : List Int), ∃ (ver90 : Nat), ∃ (l91 : List Int), ∃ (ver92 : Nat), k93 l89 l91 = some r ∧ Sub [(0, .d (.sl (List.map E56 s0))), (2, .d (D.i .i64 v2)), (4, .d (.pc (R52 at1))), (7, .os 1 ver67), (8, .d (D.i .i64 iq65)), (9, .os 2 ver90), (10, .d (D.i .i64 k82))] env' ∧ SLe st' [.os 56 1 vo0 (List.map (encA E56) ([] : List (List Int))), .os 56 1 ver67 (List.map (encA E56) l66), .os 2 1 ver90 (List.map (encA E2) l89), .os 2 1 ver92 (List.map (encA E2) l91)]) ?_ ?_
            · refine wc_block ?_
              refine wc_seq ?_
              refine wc_region ?_
              refine WL.q (y_move rfl) (Wt.none rfl) rfl rfl ?_
              refine WL.q (y_fieldAddrc f52_0 rfl) (Wt.none rfl) rfl rfl ?_
              refine WL.q (y_loadc rfl a3 rfl) (Wt.none rfl) rfl rfl ?_
              refine WL.q (y_eql rfl rfl) (Wt.none rfl) rfl rfl ?_
              refine WL.q (y_move rfl) (Wt.none rfl) rfl rfl ?_
              apply WL.and 5 (t := 30) (d := 35)
              · exact rfl
              · intro hg30
                refine WL.q (y_move rfl) (Wt.yes rfl rfl rfl) rfl rfl ?_
                refine WL.q (y_fieldAddrc f52_1 rfl) (Wt.yes rfl rfl rfl) rfl rfl ?_
                refine WL.q (y_loadc rfl a3 rfl) (Wt.yes rfl rfl rfl) rfl rfl ?_
                refine WL.q (y_eql rfl rfl) (Wt.yes rfl rfl rfl) rfl rfl ?_
                refine WL.q (y_pick_t rfl rfl) (Wt.none rfl) rfl rfl ?_
                exact WL.nil ⟨rfl, [_, _, _, _, _], rfl, rfl, rfl⟩
              · refine WL.skips 4 rfl ?_
                refine WL.q (y_pick_f rfl rfl) (Wt.none rfl) rfl rfl ?_
                exact WL.nil ⟨rfl, [_, _, _, _, _], rfl, rfl, rfl⟩
              refine WL.nil ?_
              refine we_seq ?_
              refine wc_cond rfl (fun hc3 => ?_) (fun hc3 => ?_)
              · replace h := condT h hc3
                refine wc_region ?_
                refine WL.q (y_move rfl) (Wt.none rfl) rfl rfl ?_
                refine WL.q (y_move rfl) (Wt.none rfl) rfl rfl ?_
                refine WL.s ((NewOs.b (n_buildSlice l56 z2 rfl (by decide) (by decide) rfl rfl rfl (by decide))).does) (Wt.none rfl) rfl rfl ?_
                replace h := guardBS h
                obtain ⟨hgg94, h⟩ := h
                refine WL.s (d_appendL E2 l83 [v2] l56 z2 rfl (by decide) rfl rfl rfl rfl (Src.own rfl) (fun _ => rfl) (fun _ => rfl) hgg94) (Wt.none rfl) rfl rfl ?_
                refine WL.q (y_assign rfl) (Wt.none rfl) rfl rfl ?_
                refine WL.nil ?_
                refine we_blk ?_
                exact we_lp ⟨(l83 ++ [v2]), _, [v2], _, h, (Sub.cons rfl (Le.refl _) (Sub.cons rfl (Le.refl _) (Sub.cons rfl (Le.refl _) (Sub.cons rfl (Le.refl _) (Sub.cons rfl (Le.refl _) (Sub.cons rfl (Le.refl _) (Sub.cons rfl (Le.refl _) (Sub.nil _)))))))), ⟨⟨rfl, rfl, rfl, rfl⟩, ⟨rfl, rfl, rfl, rfl⟩, ⟨rfl, rfl, rfl, rfl⟩, ⟨rfl, rfl, rfl, rfl⟩, trivial⟩⟩
              · replace h := condF h hc3
                refine wc_region ?_
                refine WL.q (y_move rfl) (Wt.none rfl) rfl rfl ?_
                refine WL.q (y_move rfl) (Wt.none rfl) rfl rfl ?_
                refine WL.q (y_move rfl) (Wt.none rfl) rfl rfl ?_
                replace h := bindS h
                obtain ⟨x95, hx95, h⟩ := h
                refine WL.q (y_indexAddr e37 rfl (Le.refl _) rfl (idx_nonneg hx95) (idx_row E56_eq hx95) rfl) (Wt.none rfl) rfl rfl ?_
                refine WL.q (y_loadc rfl a56 rfl) (Wt.none rfl) rfl rfl ?_
                refine WL.q (y_move rfl) (Wt.none rfl) rfl rfl ?_
                replace h := bindS h
                obtain ⟨x96, hx96, h⟩ := h
                refine WL.q (y_indexAddr e56 rfl (Le.refl _) rfl (idx_nonneg hx96) (idx_row E2_eq hx96) rfl) (Wt.none rfl) rfl rfl ?_
                refine WL.q (y_loadc rfl a2 rfl) (Wt.none rfl) rfl rfl ?_
                refine WL.s ((NewOs.b (n_buildSlice l56 z2 rfl (by decide) (by decide) rfl rfl rfl (by decide))).does) (Wt.none rfl) rfl rfl ?_
                replace h := guardBS h
                obtain ⟨hgg97, h⟩ := h
                refine WL.s (d_appendL E2 l83 [x96] l56 z2 rfl (by decide) rfl rfl rfl rfl (Src.own rfl) (fun _ => rfl) (fun _ => rfl) hgg97) (Wt.none rfl) rfl rfl ?_
                refine WL.q (y_assign rfl) (Wt.none rfl) rfl rfl ?_
                refine WL.nil ?_
                refine we_blk ?_
                exact we_lp ⟨(l83 ++ [x96]), _, [x96], _, h, (Sub.cons rfl (Le.refl _) (Sub.cons rfl (Le.refl _) (Sub.cons rfl (Le.refl _) (Sub.cons rfl (Le.refl _) (Sub.cons rfl (Le.refl _) (Sub.cons rfl (Le.refl _) (Sub.cons rfl (Le.refl _) (Sub.nil _)))))))), ⟨⟨rfl, rfl, rfl, rfl⟩, ⟨rfl, rfl, rfl, rfl⟩, ⟨rfl, rfl, rfl, rfl⟩, ⟨rfl, rfl, rfl, rfl⟩, trivial⟩⟩
            · rintro env1 st1 ⟨l89, ver90, l91, ver92, h, hsub, hst⟩
              subst hk93
              dsimp only at h
              refine WC.sub hsub (WC.weak hst ?_)
              refine wc_region ?_
              refine WL.q (y_move rfl) (Wt.none rfl) rfl rfl ?_
              refine WL.q (y_add rfl rfl rfl) (Wt.none rfl) rfl rfl ?_
              refine WL.q (y_assign rfl) (Wt.none rfl) rfl rfl ?_
              refine WL.nil ?_
              refine WE.drop 3 (env' := [(0, .d (.sl (List.map E56 s0))), (2, .d (D.i .i64 v2)), (4, .d (.pc (R52 at1))), (7, .os 1 ver67), (8, .d (D.i .i64 iq65)), (9, .os 2 ver90), (10, .d (D.i .i64 (IntKind.i64.wrap (k82 + 1))))]) (Sub.one rfl (Sub.one rfl (Sub.one rfl (Sub.one rfl (Sub.one rfl (Sub.one rfl (Sub.one rfl (Sub.nil _)))))))) rfl (stLt_cons (lt_os _ _ _ _ _ _) (stLt_cons (lt_os _ _ _ _ _ _) (stLt_cons (lt_os _ _ _ _ _ _) rfl))) (Nat.le_trans (Nat.le_of_eq hmm) (Nat.le_of_ble_eq_true rfl)) ?_
              exact we_lp ⟨na, ⟨(IntKind.i64.wrap (k82 + 1)), l89, _, h, (Sub.cons rfl (Le.refl _) (Sub.cons rfl (Le.refl _) (Sub.cons rfl (Le.refl _) (Sub.cons rfl (Le.refl _) (Sub.cons rfl (Le.refl _) (Sub.cons rfl (Le.refl _) (Sub.cons rfl (Le.refl _) (Sub.nil _)))))))), ⟨⟨rfl, rfl, rfl, rfl⟩, ⟨rfl, rfl, rfl, rfl⟩, ⟨rfl, rfl, rfl, rfl⟩, trivial⟩⟩, Nat.lt_succ_self na⟩
          · replace h := condF h hc2
            refine wc_exit ?_
            refine we_seq_exit ?_
            refine we_lp_exit ?_
            refine we_blk_hit ?_
            exact we_lp ⟨l83, _, h, (Sub.cons rfl (Le.refl _) (Sub.cons rfl (Le.refl _) (Sub.cons rfl (Le.refl _) (Sub.cons rfl (Le.refl _) (Sub.cons rfl (Le.refl _) (Sub.cons rfl (Le.refl _) (Sub.nil _))))))), ⟨⟨rfl, rfl, rfl, rfl⟩, ⟨rfl, rfl, rfl, rfl⟩, ⟨rfl, rfl, rfl, rfl⟩, trivial⟩⟩
        · rintro env1 st1 ⟨l76, ver77, h, hsub, hst⟩
          subst hk78
          dsimp only at h
          refine WC.sub hsub (WC.weak hst ?_)
          refine wc_region ?_
          refine WL.q (y_move rfl) (Wt.none rfl) rfl rfl ?_
          refine WL.q (y_move rfl) (Wt.none rfl) rfl rfl ?_
          refine WL.freezeX [9, 51] [] 2 (List.map E2 l76) rfl (encA_map E2_eq l76) ⟨rfl, rfl, trivial⟩ trivial ?_
          refine WL.s ((NewOs.b (n_buildSlice l37 z56 rfl (by decide) (by decide) rfl rfl rfl (by decide))).does) (Wt.none rfl) rfl rfl ?_
          replace h := guardBS h
          obtain ⟨hgg98, h⟩ := h
          refine WL.s (d_appendL E56 l66 [l76] l37 z56 rfl (by decide) rfl rfl rfl rfl (Src.own rfl) (fun _ => rfl) (fun _ => rfl) hgg98) (Wt.none rfl) rfl rfl ?_
          refine WL.q (y_assign rfl) (Wt.none rfl) rfl rfl ?_
          refine WL.nil ?_
          refine we_blk ?_
          exact we_lp ⟨(l66 ++ [l76]), _, [l76], _, h, (Sub.cons rfl (Le.refl _) (Sub.cons rfl (Le.refl _) (Sub.cons rfl (Le.refl _) (Sub.cons rfl (Le.refl _) (Sub.cons rfl (Le.refl _) (Sub.nil _)))))), ⟨⟨rfl, rfl, rfl, rfl⟩, ⟨rfl, rfl, rfl, rfl⟩, trivial, ⟨rfl, rfl, rfl, rfl⟩, trivial⟩⟩
      · rintro env1 st1 ⟨l71, ver72, l73, ver74, h, hsub, hst⟩
        subst hk75
        dsimp only at h
        refine WC.sub hsub (WC.weak hst ?_)
        refine wc_region ?_
        refine WL.q (y_move rfl) (Wt.none rfl) rfl rfl ?_
        refine WL.q (y_add rfl rfl rfl) (Wt.none rfl) rfl rfl ?_
        refine WL.q (y_assign rfl) (Wt.none rfl) rfl rfl ?_
        refine WL.nil ?_
        refine WE.drop 2 (env' := [(0, .d (.sl (List.map E56 s0))), (2, .d (D.i .i64 v2)), (4, .d (.pc (R52 at1))), (7, .os 1 ver72), (8, .d (D.i .i64 (IntKind.i64.wrap (iq65 + 1))))]) (Sub.one rfl (Sub.one rfl (Sub.one rfl (Sub.one rfl (Sub.one rfl (Sub.nil _)))))) rfl (stLt_cons (lt_os _ _ _ _ _ _) (stLt_cons (lt_os _ _ _ _ _ _) rfl)) (Nat.le_trans (Nat.le_of_eq hmm) (Nat.le_of_ble_eq_true rfl)) ?_
        exact we_lp ⟨n, ⟨(IntKind.i64.wrap (iq65 + 1)), l71, _, h, (Sub.cons rfl (Le.refl _) (Sub.cons rfl (Le.refl _) (Sub.cons rfl (Le.refl _) (Sub.cons rfl (Le.refl _) (Sub.cons rfl (Le.refl _) (Sub.nil _)))))), ⟨⟨rfl, rfl, rfl, rfl⟩, ⟨rfl, rfl, rfl, rfl⟩, trivial⟩⟩, Nat.lt_succ_self n⟩
    · replace h := condF h hc1
      refine wc_exit ?_
      refine we_seq_exit ?_
      refine we_lp_exit ?_
      refine we_blk_hit ?_
      exact we_lp ⟨l66, _, h, (Sub.cons rfl (Le.refl _) (Sub.nil _)), ⟨⟨rfl, rfl, rfl, rfl⟩, ⟨rfl, rfl, rfl, rfl⟩, trivial⟩⟩
  · rintro env1 st1 ⟨l59, ver60, h, hsub, hst⟩
    subst hk61
    dsimp only at h
    refine WC.sub hsub (WC.weak hst ?_)
    refine wc_seq ?_
    refine wc_region ?_
    refine WL.q (y_move rfl) (Wt.none rfl) rfl rfl ?_
    refine WL.q (y_assign rfl) (Wt.none rfl) rfl rfl ?_
    refine WL.nil ?_
    refine we_seq ?_
    refine wc_ret ?_
    refine Gh.we (gh_give [6] [] 1 0 rfl rfl rfl ⟨rfl, trivial⟩ trivial) ?_
    obtain rfl := Option.some.inj h
    exact we_ret_wina (vo0 + ver60 + 1) (rs1 rfl (rv_t rfl)) (Le.refl _) rfl ⟨⟨rfl, rfl, rfl, rfl⟩, trivial⟩

theorem f11_c (s0 : List (List Int)) (p1 : Place) (at2 : Spot) (v3 : Int) {r : Bool} (h : f11 s0 p1 at2 v3 = some r) : Pu Try.prog 11 [.sl (List.map E56 s0), .ag (R29 p1), .ag (R52 at2), .i .i64 v3] (.b r) := by
  unfold f11 at h
  refine fn_intro Try.func11 (by kernel_rfl) rfl rfl rfl (fun φφ ww => ?_)
  refine wc_seq ?_
  refine wc_region ?_
  refine WL.s ((b_boxd rfl rfl (Les.refl _)).does) (Wt.none rfl) rfl rfl ?_
  refine WL.s ((b_boxd rfl rfl (Les.refl _)).does) (Wt.none rfl) rfl rfl ?_
  refine WL.q (y_assign rfl) (Wt.none rfl) rfl rfl ?_
  refine WL.nil ?_
  refine we_seq ?_
  refine wc_seq ?_
  refine wc_seq ?_
  refine wc_region ?_
  refine WL.q (y_move rfl) (Wt.none rfl) rfl rfl ?_
  replace h := bindS h
  obtain ⟨r68, hr68, h⟩ := h
  refine WL.fn rfl rfl rfl rfl (f31_c _ hr68) ⟨(Le.refl _), trivial⟩ (Wt.none rfl) rfl rfl ?_
  refine WL.nil ?_
  refine we_seq ?_
  refine wc_cond rfl (fun hc1 => ?_) (fun hc1 => ?_)
  · replace h := condT h hc1
    refine wc_seq ?_
    refine wc_region ?_
    replace h := bindS h
    obtain ⟨r69, hr69, h⟩ := h
    refine WL.fn rfl rfl rfl rfl (f20_c hr69) trivial (Wt.none rfl) rfl rfl ?_
    refine WL.q (y_assign rfl) (Wt.none rfl) rfl rfl ?_
    refine WL.nil ?_
    refine we_seq ?_
    refine wc_ret ?_
    refine we_seq_ret ?_
    obtain rfl := Option.some.inj h
    exact we_ret_fn (rs1 rfl (rv_t rfl)) (Le.refl _)
  · replace h := condF h hc1
    refine wc_skip ?_
    refine we_seq ?_
    refine wc_seq ?_
    refine wc_region ?_
    refine WL.q (y_move rfl) (Wt.none rfl) rfl rfl ?_
    refine WL.q (y_build p52 z52 rfl rfl) (Wt.none rfl) rfl rfl ?_
    replace h := bindS h
    obtain ⟨r70, hr70, h⟩ := h
    refine WL.fn rfl rfl rfl rfl (f34_c _ _ _ hr70) ⟨(Le.refl _), (Le.agd ⟨(Le.refl _), (Le.refl _), trivial⟩), (Le.refl _), trivial⟩ (Wt.none rfl) rfl rfl ?_
    refine WL.q (y_assign rfl) (Wt.none rfl) rfl rfl ?_
    refine WL.nil ?_
    refine we_seq ?_
    refine wc_seq ?_
    refine wc_region ?_
    refine WL.q (y_move rfl) (Wt.none rfl) rfl rfl ?_
    refine WL.q (y_loadcN rfl a29 s29 rfl) (Wt.none rfl) rfl rfl ?_
    replace h := bindS h
    obtain ⟨r71, hr71, h⟩ := h
    refine WL.fn rfl rfl rfl rfl (f29_c _ _ hr71) ⟨(Le.refl _), (Le.refl _), trivial⟩ (Wt.none rfl) rfl rfl ?_
    refine WL.q (y_move rfl) (Wt.none rfl) rfl rfl ?_
    refine WL.q (y_extractd rfl rfl) (Wt.none rfl) rfl rfl ?_
    refine WL.q (y_extractd rfl rfl) (Wt.none rfl) rfl rfl ?_
    refine WL.s ((b_alloc z52).does) (Wt.none rfl) rfl rfl ?_
    refine WL.s0 (d_store rfl rfl rfl rfl rfl rfl s52 rfl rfl) (Wt.none rfl) rfl ?_
    refine WL.q (y_assign rfl) (Wt.none rfl) rfl rfl ?_
    refine WL.nil ?_
    refine we_seq ?_
    refine wc_seq ?_
    refine wc_region ?_
    refine WL.q (y_move rfl) (Wt.none rfl) rfl rfl ?_
    refine WL.q (y_loadcN rfl a29 s29 rfl) (Wt.none rfl) rfl rfl ?_
    replace h := bindS h
    obtain ⟨r72, hr72, h⟩ := h
    refine WL.fn rfl rfl rfl rfl (f35_c _ _ hr72) ⟨(Le.refl _), (Le.refl _), trivial⟩ (Wt.none rfl) rfl rfl ?_
    refine WL.q (y_move rfl) (Wt.none rfl) rfl rfl ?_
    refine WL.q (y_extractd rfl rfl) (Wt.none rfl) rfl rfl ?_
    refine WL.q (y_extractd rfl rfl) (Wt.none rfl) rfl rfl ?_
    refine WL.s ((b_alloc z52).does) (Wt.none rfl) rfl rfl ?_
    refine WL.s0 (d_store rfl rfl rfl rfl rfl rfl s52 rfl rfl) (Wt.none rfl) rfl ?_
    refine WL.q (y_assign rfl) (Wt.none rfl) rfl rfl ?_
    refine WL.nil ?_
    refine we_seq ?_
    refine wc_seq ?_
    refine wc_region ?_
    refine WL.q (y_move rfl) (Wt.none rfl) rfl rfl ?_
    refine WL.q (y_loadcN rfl a52 s52 rfl) (Wt.none rfl) rfl rfl ?_
    refine WL.q (y_move rfl) (Wt.none rfl) rfl rfl ?_
    replace h := bindS h
    obtain ⟨r73, hr73, h⟩ := h
    refine WL.fn rfl rfl rfl rfl (f36_c _ _ _ hr73) ⟨(Le.refl _), (Le.refl _), (Le.refl _), trivial⟩ (Wt.none rfl) rfl rfl ?_
    refine WL.q (y_assign rfl) (Wt.none rfl) rfl rfl ?_
    refine WL.nil ?_
    refine we_seq ?_
    refine wc_seq ?_
    refine wc_region ?_
    refine WL.q (y_move rfl) (Wt.none rfl) rfl rfl ?_
    refine WL.q (y_loadcN rfl a52 s52 rfl) (Wt.none rfl) rfl rfl ?_
    refine WL.q (y_move rfl) (Wt.none rfl) rfl rfl ?_
    replace h := bindS h
    obtain ⟨r74, hr74, h⟩ := h
    refine WL.fn rfl rfl rfl rfl (f34_c _ _ _ hr74) ⟨(Le.refl _), (Le.refl _), (Le.refl _), trivial⟩ (Wt.none rfl) rfl rfl ?_
    refine WL.q (y_assign rfl) (Wt.none rfl) rfl rfl ?_
    refine WL.nil ?_
    refine we_seq ?_
    refine wc_seq ?_
    refine wc_region ?_
    refine WL.q (y_loadN rfl rfl a52 s52 rfl) (Wt.none rfl) rfl rfl ?_
    refine WL.q (y_loadN rfl rfl a52 s52 rfl) (Wt.none rfl) rfl rfl ?_
    refine WL.q (y_eqst (xs := [.int .i64 r71.1.o, .int .i64 r71.1.slot]) (ys := [.int .i64 r72.1.o, .int .i64 r72.1.slot]) (b := ((decide (r71.1.o = r72.1.o)) && ((decide (r71.1.slot = r72.1.slot)) && true))) q52 rfl (Le.agd ⟨(Le.refl _), (Le.refl _), trivial⟩) rfl (Le.agd ⟨(Le.refl _), (Le.refl _), trivial⟩) rfl rfl rfl) (Wt.none rfl) rfl rfl ?_
    refine WL.q (y_move rfl) (Wt.none rfl) rfl rfl ?_
    apply WL.and 4 (t := 45) (d := 49)
    · exact rfl
    · intro hg45
      refine WL.q (y_move rfl) (Wt.yes rfl rfl rfl) rfl rfl ?_
      refine WL.q (y_move rfl) (Wt.yes rfl rfl rfl) rfl rfl ?_
      refine WL.q (y_eqb Try.underlying4 rfl rfl) (Wt.yes rfl rfl rfl) rfl rfl ?_
      refine WL.q (y_pick_t rfl rfl) (Wt.none rfl) rfl rfl ?_
      exact WL.nil ⟨rfl, [_, _, _, _], rfl, rfl, rfl⟩
    · refine WL.skips 3 rfl ?_
      refine WL.q (y_pick_f rfl rfl) (Wt.none rfl) rfl rfl ?_
      exact WL.nil ⟨rfl, [_, _, _, _], rfl, rfl, rfl⟩
    refine WL.q (y_move rfl) (Wt.none rfl) rfl rfl ?_
    replace h := bindS h
    obtain ⟨b75, hb75, h⟩ := h
    apply WL.grp 4 (t := 50) (d := 54) (z := b75)
    · exact rfl
    · intro hg50
      have h := condT hb75 hg50
      refine WL.q (y_move rfl) (Wt.yes rfl rfl rfl) rfl rfl ?_
      refine WL.q (y_move rfl) (Wt.yes rfl rfl rfl) rfl rfl ?_
      replace h := bindS h
      obtain ⟨r76, hr76, h⟩ := h
      refine WL.fn rfl rfl rfl rfl (f37_c _ _ hr76) ⟨(Le.refl _), (Le.refl _), trivial⟩ (Wt.yes rfl rfl rfl) rfl rfl ?_
      refine WL.q (y_pick_t rfl rfl) (Wt.none rfl) rfl rfl ?_
      obtain rfl := Option.some.inj h
      exact WL.nil ⟨rfl, [_, _, _, _], rfl, rfl, rfl⟩
    · intro hg50
      have h := condF hb75 hg50
      refine WL.skips 3 rfl ?_
      refine WL.q (y_pick_f rfl rfl) (Wt.none rfl) rfl rfl ?_
      obtain rfl := Option.some.inj h
      exact WL.nil ⟨rfl, [_, _, _, _], rfl, rfl, rfl⟩
    refine WL.q (y_move rfl) (Wt.none rfl) rfl rfl ?_
    replace h := bindS h
    obtain ⟨b77, hb77, h⟩ := h
    apply WL.grp 4 (t := 55) (d := 59) (z := b77)
    · exact rfl
    · intro hg55
      have h := condT hb77 hg55
      refine WL.q (y_move rfl) (Wt.yes rfl rfl rfl) rfl rfl ?_
      refine WL.q (y_move rfl) (Wt.yes rfl rfl rfl) rfl rfl ?_
      replace h := bindS h
      obtain ⟨r78, hr78, h⟩ := h
      refine WL.fn rfl rfl rfl rfl (f37_c _ _ hr78) ⟨(Le.refl _), (Le.refl _), trivial⟩ (Wt.yes rfl rfl rfl) rfl rfl ?_
      refine WL.q (y_pick_t rfl rfl) (Wt.none rfl) rfl rfl ?_
      obtain rfl := Option.some.inj h
      exact WL.nil ⟨rfl, [_, _, _, _], rfl, rfl, rfl⟩
    · intro hg55
      have h := condF hb77 hg55
      refine WL.skips 3 rfl ?_
      refine WL.q (y_pick_f rfl rfl) (Wt.none rfl) rfl rfl ?_
      obtain rfl := Option.some.inj h
      exact WL.nil ⟨rfl, [_, _, _, _], rfl, rfl, rfl⟩
    refine WL.q (y_move rfl) (Wt.none rfl) rfl rfl ?_
    replace h := bindS h
    obtain ⟨b79, hb79, h⟩ := h
    apply WL.grp 2 (t := 60) (d := 62) (z := b79)
    · exact rfl
    · intro hg60
      have h := condT hb79 hg60
      replace h := bindS h
      obtain ⟨r80, hr80, h⟩ := h
      refine WL.fn rfl rfl rfl rfl (f20_c hr80) trivial (Wt.yes rfl rfl rfl) rfl rfl ?_
      refine WL.q (y_pick_t rfl rfl) (Wt.none rfl) rfl rfl ?_
      obtain rfl := Option.some.inj h
      exact WL.nil ⟨rfl, [_, _], rfl, rfl, rfl⟩
    · intro hg60
      have h := condF hb79 hg60
      refine WL.skips 1 rfl ?_
      refine WL.q (y_pick_f rfl rfl) (Wt.none rfl) rfl rfl ?_
      obtain rfl := Option.some.inj h
      exact WL.nil ⟨rfl, [_, _], rfl, rfl, rfl⟩
    refine WL.q (y_assign rfl) (Wt.none rfl) rfl rfl ?_
    refine WL.nil ?_
    refine we_seq ?_
    refine wc_ret ?_
    obtain rfl := Option.some.inj h
    exact we_ret_fn (rs1 rfl (rv_t rfl)) (Le.refl _)

theorem f12_c (s0 : List (List Int)) (p1 : Place) (n2 : Int) {r : Bool} (h : f12 s0 p1 n2 = some r) : Pu Try.prog 12 [.sl (List.map E56 s0), .ag (R29 p1), .i .i32 n2] (.b r) := by
  unfold f12 at h
  refine fn_intro Try.func12 (by kernel_rfl) rfl rfl rfl (fun φφ ww => ?_)
  refine wc_seq ?_
  refine wc_region ?_
  refine WL.s ((b_boxd rfl rfl (Les.refl _)).does) (Wt.none rfl) rfl rfl ?_
  refine WL.q (y_assign rfl) (Wt.none rfl) rfl rfl ?_
  refine WL.nil ?_
  refine we_seq ?_
  refine wc_seq ?_
  refine wc_seq ?_
  refine wc_region ?_
  refine WL.q (y_move rfl) (Wt.none rfl) rfl rfl ?_
  replace h := bindS h
  obtain ⟨r103, hr103, h⟩ := h
  refine WL.fn rfl rfl rfl rfl (f31_c _ hr103) ⟨(Le.refl _), trivial⟩ (Wt.none rfl) rfl rfl ?_
  refine WL.q (y_move rfl) (Wt.none rfl) rfl rfl ?_
  replace h := bindS h
  obtain ⟨b104, hb104, h⟩ := h
  apply WL.grp 4 (t := 14) (d := 18) (z := b104)
  · exact rfl
  · intro hg14
    have h := condT hb104 hg14
    refine WL.skips 3 rfl ?_
    refine WL.q (y_pick_t rfl rfl) (Wt.none rfl) rfl rfl ?_
    obtain rfl := Option.some.inj h
    exact WL.nil ⟨rfl, [_, _, _, _], rfl, rfl, rfl⟩
  · intro hg14
    have h := condF hb104 hg14
    refine WL.q (y_loadcN rfl a29 s29 rfl) (Wt.yes rfl rfl rfl) rfl rfl ?_
    replace h := bindS h
    obtain ⟨r105, hr105, h⟩ := h
    refine WL.fn rfl rfl rfl rfl (f16_c _ hr105) ⟨(Le.refl _), trivial⟩ (Wt.yes rfl rfl rfl) rfl rfl ?_
    refine WL.q (y_not rfl) (Wt.yes rfl rfl rfl) rfl rfl ?_
    refine WL.q (y_pick_f rfl rfl) (Wt.none rfl) rfl rfl ?_
    obtain rfl := Option.some.inj h
    exact WL.nil ⟨rfl, [_, _, _, _], rfl, rfl, rfl⟩
  refine WL.nil ?_
  refine we_seq ?_
  refine wc_cond rfl (fun hc1 => ?_) (fun hc1 => ?_)
  · replace h := condT h hc1
    refine wc_seq ?_
    refine wc_region ?_
    replace h := bindS h
    obtain ⟨r106, hr106, h⟩ := h
    refine WL.fn rfl rfl rfl rfl (f20_c hr106) trivial (Wt.none rfl) rfl rfl ?_
    refine WL.q (y_assign rfl) (Wt.none rfl) rfl rfl ?_
    refine WL.nil ?_
    refine we_seq ?_
    refine wc_ret ?_
    refine we_seq_ret ?_
    obtain rfl := Option.some.inj h
    exact we_ret_fn (rs1 rfl (rv_t rfl)) (Le.refl _)
  · replace h := condF h hc1
    refine wc_skip ?_
    refine we_seq ?_
    refine wc_seq ?_
    refine wc_region ?_
    refine WL.q (y_move rfl) (Wt.none rfl) rfl rfl ?_
    refine WL.q (y_loadcN rfl a29 s29 rfl) (Wt.none rfl) rfl rfl ?_
    replace h := bindS h
    obtain ⟨r107, hr107, h⟩ := h
    refine WL.fn rfl rfl rfl rfl (f29_c _ _ hr107) ⟨(Le.refl _), (Le.refl _), trivial⟩ (Wt.none rfl) rfl rfl ?_
    refine WL.q (y_move rfl) (Wt.none rfl) rfl rfl ?_
    refine WL.q (y_extractd rfl rfl) (Wt.none rfl) rfl rfl ?_
    refine WL.q (y_extractd rfl rfl) (Wt.none rfl) rfl rfl ?_
    refine WL.s ((b_alloc z52).does) (Wt.none rfl) rfl rfl ?_
    refine WL.s0 (d_store rfl rfl rfl rfl rfl rfl s52 rfl rfl) (Wt.none rfl) rfl ?_
    refine WL.q (y_assign rfl) (Wt.none rfl) rfl rfl ?_
    refine WL.nil ?_
    refine we_seq ?_
    refine wc_seq ?_
    refine wc_seq ?_
    refine wc_region ?_
    refine WL.q (y_move rfl) (Wt.none rfl) rfl rfl ?_
    refine WL.q (y_not rfl) (Wt.none rfl) rfl rfl ?_
    refine WL.nil ?_
    refine we_seq ?_
    refine wc_cond rfl (fun hc2 => ?_) (fun hc2 => ?_)
    · replace h := condT h hc2
      refine wc_seq ?_
      refine wc_region ?_
      refine WL.q (y_loadN rfl rfl a52 s52 rfl) (Wt.none rfl) rfl rfl ?_
      refine WL.q (y_build p52 z52 rfl rfl) (Wt.none rfl) rfl rfl ?_
      refine WL.q (y_eqst (xs := [.int .i64 r107.1.o, .int .i64 r107.1.slot]) (ys := [.int .i64 0, .int .i64 0]) (b := ((decide (r107.1.o = 0)) && ((decide (r107.1.slot = 0)) && true))) q52 rfl (Le.agd ⟨(Le.refl _), (Le.refl _), trivial⟩) rfl (Le.agd ⟨(Le.refl _), (Le.refl _), trivial⟩) rfl rfl rfl) (Wt.none rfl) rfl rfl ?_
      refine WL.q (y_move rfl) (Wt.none rfl) rfl rfl ?_
      replace h := bindS h
      obtain ⟨b108, hb108, h⟩ := h
      apply WL.grp 2 (t := 31) (d := 33) (z := b108)
      · exact rfl
      · intro hg31
        have h := condT hb108 hg31
        replace h := bindS h
        obtain ⟨r109, hr109, h⟩ := h
        refine WL.fn rfl rfl rfl rfl (f20_c hr109) trivial (Wt.yes rfl rfl rfl) rfl rfl ?_
        refine WL.q (y_pick_t rfl rfl) (Wt.none rfl) rfl rfl ?_
        obtain rfl := Option.some.inj h
        exact WL.nil ⟨rfl, [_, _], rfl, rfl, rfl⟩
      · intro hg31
        have h := condF hb108 hg31
        refine WL.skips 1 rfl ?_
        refine WL.q (y_pick_f rfl rfl) (Wt.none rfl) rfl rfl ?_
        obtain rfl := Option.some.inj h
        exact WL.nil ⟨rfl, [_, _], rfl, rfl, rfl⟩
      refine WL.q (y_assign rfl) (Wt.none rfl) rfl rfl ?_
      refine WL.nil ?_
      refine we_seq ?_
      refine wc_ret ?_
      refine we_seq_ret ?_
      obtain rfl := Option.some.inj h
      exact we_ret_fn (rs1 rfl (rv_t rfl)) (Le.refl _)
    · replace h := condF h hc2
      refine wc_skip ?_
      refine we_seq ?_
      refine wc_seq ?_
      refine wc_seq ?_
      refine wc_region ?_
      refine WL.q (y_move rfl) (Wt.none rfl) rfl rfl ?_
      refine WL.q (y_fieldAddr f52_0 rfl) (Wt.none rfl) rfl rfl ?_
      refine WL.q (y_load rfl rfl a3 rfl) (Wt.none rfl) rfl rfl ?_
      refine WL.q (y_fieldAddr f52_1 rfl) (Wt.none rfl) rfl rfl ?_
      refine WL.q (y_load rfl rfl a3 rfl) (Wt.none rfl) rfl rfl ?_
      replace h := bindS h
      obtain ⟨r110, hr110, h⟩ := h
      refine WL.fn rfl rfl rfl rfl (f30_c _ _ _ hr110) ⟨(Le.refl _), (Le.refl _), (Le.refl _), trivial⟩ (Wt.none rfl) rfl rfl ?_
      refine WL.q (y_not rfl) (Wt.none rfl) rfl rfl ?_
      refine WL.nil ?_
      refine we_seq ?_
      refine wc_cond rfl (fun hc3 => ?_) (fun hc3 => ?_)
      · replace h := condT h hc3
        refine wc_seq ?_
        refine wc_region ?_
        refine WL.q (y_assign rfl) (Wt.none rfl) rfl rfl ?_
        refine WL.nil ?_
        refine we_seq ?_
        refine wc_ret ?_
        refine we_seq_ret ?_
        obtain rfl := Option.some.inj h
        exact we_ret_fn (rs1 rfl (rv_t rfl)) (Le.refl _)
      · replace h := condF h hc3
        refine wc_skip ?_
        refine we_seq ?_
        refine wc_seq ?_
        refine wc_region ?_
        refine WL.q (y_move rfl) (Wt.none rfl) rfl rfl ?_
        refine WL.q (y_conv Try.underlying21 Try.underlying2 rfl rfl) (Wt.none rfl) rfl rfl ?_
        refine WL.q (y_assign rfl) (Wt.none rfl) rfl rfl ?_
        refine WL.nil ?_
        refine we_seq ?_
        refine wc_seq ?_
        refine wc_region ?_
        refine WL.q (y_move rfl) (Wt.none rfl) rfl rfl ?_
        refine WL.q (y_loadN rfl rfl a52 s52 rfl) (Wt.none rfl) rfl rfl ?_
        refine WL.q (y_move rfl) (Wt.none rfl) rfl rfl ?_
        replace h := bindS h
        obtain ⟨r111, hr111, h⟩ := h
        refine WL.fn rfl rfl rfl rfl (f36_c _ _ _ hr111) ⟨(Le.refl _), (Le.agd ⟨(Le.refl _), (Le.refl _), trivial⟩), (Le.refl _), trivial⟩ (Wt.none rfl) rfl rfl ?_
        refine WL.q (y_assign rfl) (Wt.none rfl) rfl rfl ?_
        refine WL.nil ?_
        refine we_seq ?_
        refine wc_seq ?_
        replace h := letkS h
        obtain ⟨k113, hk113, h⟩ := h
        refine wc_cut (fun env' st' => ∃ (t112 : Bool), k113 t112 = some r ∧ Sub [(7, .pt 0 0), (9, .d (D.i .i64 (IntKind.i64.wrap n2))), (10, .d (.sl (List.map E56 r111))), (81, .d (D.b t112))] env' ∧ SLe st' [.row 52 [.d (D.i .i64 r107.1.o), .d (D.i .i64 r107.1.slot)]]) ?_ ?_
        · replace h := bindS h
          obtain ⟨r114, hr114, h⟩ := h
          rcases boolCases (!r114) with hb3 | hb3
          · replace h := condT h hb3
            apply wc_region_all [_, _, _, _, _, _, _, _, _, _, _, _, _, _, _, _, _, _, _, _, _, _, _, _, _, _, _, _, _, _, _, _, _, _, _] [[], [], [1], [], [3], [0, 1, 2, 3, 4], [0, 1, 2, 3, 4, 5], [0, 1, 2, 3, 4, 5, 6], [0, 1, 2, 3, 4, 5, 6, 7], [0, 1, 2, 3, 4, 5, 6, 7], [0, 1, 2, 3, 4, 5, 6, 7], [0, 1, 2, 3, 4, 5, 6, 7], [0, 1, 2, 3, 4, 5, 6, 7, 11], [0, 1, 2, 3, 4, 5, 6, 7, 10, 11, 12], [0, 1, 2, 3, 4, 5, 6, 7, 10, 11, 12, 13], [0, 1, 2, 3, 4, 5, 6, 7], [0, 1, 2, 3, 4, 5, 6, 7, 15], [0, 1, 2, 3, 4, 5, 6, 7, 10, 11, 12, 13, 14, 15, 16], [0, 1, 2, 3, 4, 5, 6, 7, 10, 11, 12, 13, 14, 15, 16, 17], [0, 1, 2, 3, 4, 5, 6, 7, 8, 9, 10, 11, 12, 13, 14, 15, 16, 17, 18], [0, 1, 2, 3, 4, 5, 6, 7], [0, 1, 2, 3, 4, 5, 6, 7, 8, 9, 10, 11, 12, 13, 14, 15, 16, 17, 18, 19, 20], [0, 1, 2, 3, 4, 5, 6, 7, 8, 9, 10, 11, 12, 13, 14, 15, 16, 17, 18, 19, 20, 21], [0, 1, 2, 3, 4, 5, 6, 7, 8, 9, 10, 11, 12, 13, 14, 15, 16, 17, 18, 19, 20, 21, 22], [0, 1, 2, 3, 4, 5, 6, 7, 8, 9, 10, 11, 12, 13, 14, 15, 16, 17, 18, 19, 20, 21, 22, 23], [0, 1, 2, 3, 4, 5, 6, 7, 8, 9, 10, 11, 12, 13, 14, 15, 16, 17, 18, 19, 20, 21, 22, 23, 24], [0, 1, 2, 3, 4, 5, 6, 7, 8, 9, 10, 11, 12, 13, 14, 15, 16, 17, 18, 19, 20, 21, 22, 23, 24], [0, 1, 2, 3, 4, 5, 6, 7, 8, 9, 10, 11, 12, 13, 14, 15, 16, 17, 18, 19, 20, 21, 22, 23, 24, 26], [0, 1, 2, 3, 4, 5, 6, 7, 8, 9, 10, 11, 12, 13, 14, 15, 16, 17, 18, 19, 20, 21, 22, 23, 24], [0, 1, 2, 3, 4, 5, 6, 7, 8, 9, 10, 11, 12, 13, 14, 15, 16, 17, 18, 19, 20, 21, 22, 23, 24, 28], [0, 1, 2, 3, 4, 5, 6, 7, 8, 9, 10, 11, 12, 13, 14, 15, 16, 17, 18, 19, 20, 21, 22, 23, 24, 26, 27, 28, 29], [0, 1, 2, 3, 4, 5, 6, 7, 8, 9, 10, 11, 12, 13, 14, 15, 16, 17, 18, 19, 20, 21, 22, 23, 24], [0, 1, 2, 3, 4, 5, 6, 7, 8, 9, 10, 11, 12, 13, 14, 15, 16, 17, 18, 19, 20, 21, 22, 23, 24, 25, 26, 27, 28, 29, 30, 31], [0, 1, 2, 3, 4, 5, 6, 7, 8, 9, 10, 11, 12, 13, 14, 15, 16, 17, 18, 19, 20, 21, 22, 23, 24, 25, 26, 27, 28, 29, 30, 31, 32], [0, 1, 2, 3, 4, 5, 6, 7, 8, 9, 10, 11, 12, 13, 14, 15, 16, 17, 18, 19, 20, 21, 22, 23, 24, 25, 26, 27, 28, 29, 30, 31, 32, 33]] [] (fun c => List.getD [[.row 52 [.d (D.i .i64 r107.1.o), .d (D.i .i64 r107.1.slot)]]] c []) [([], [10], [0]), ([], [7], [0]), ([1], [], [0]), ([], [7], [0]), ([3], [], [0]), ([0, 2, 4], [], [0]), ([5], [], [0]), ([6], [], [0]), ([7], [], [0]), ([7], [], [0]), ([7], [], [0]), ([7], [], [0]), ([7], [], [0]), ([7], [], [0]), ([7], [], [0]), ([7], [], [0]), ([7], [], [0]), ([7], [], [0]), ([7], [], [0]), ([7], [], [0]), ([7], [], [0]), ([7], [], [0]), ([7], [], [0]), ([7, 22], [], [0]), ([23], [], [0]), ([24], [], [0]), ([24], [], [0]), ([24], [], [0]), ([24], [], [0]), ([24], [], [0]), ([24], [], [0]), ([24], [], [0]), ([24], [], [0]), ([24], [], [0]), ([24, 33], [], [0])] (by kernel_rfl) (by kernel_rfl) rfl rfl rfl
            · refine ⟨?_, ?_, ?_, ?_, ?_, ?_, ?_, ?_, ?_, ?_, ?_, ?_, ?_, ?_, ?_, ?_, ?_, ?_, ?_, ?_, ?_, ?_, ?_, ?_, ?_, ?_, ?_, ?_, ?_, ?_, ?_, ?_, ?_, ?_, ?_, trivial⟩
              · refine ⟨fun F => ?_, trivial⟩
                refine WL.q (y_move rfl) (Wt.none rfl) rfl rfl ?_
                exact WL.done1 rfl rfl rfl
              · refine ⟨fun F => ?_, trivial⟩
                refine WL.q (y_fieldAddr f52_0 rfl) (Wt.none rfl) rfl rfl ?_
                exact WL.done1 rfl rfl rfl
              · refine ⟨fun F => ?_, trivial⟩
                refine WL.q (y_load rfl rfl a3 rfl) (Wt.none rfl) rfl rfl ?_
                exact WL.done1 rfl rfl rfl
              · refine ⟨fun F => ?_, trivial⟩
                refine WL.q (y_fieldAddr f52_1 rfl) (Wt.none rfl) rfl rfl ?_
                exact WL.done1 rfl rfl rfl
              · refine ⟨fun F => ?_, trivial⟩
                refine WL.q (y_load rfl rfl a3 rfl) (Wt.none rfl) rfl rfl ?_
                exact WL.done1 rfl rfl rfl
              · refine ⟨fun F => ?_, trivial⟩
                refine WL.fn rfl rfl rfl rfl (f30_c _ _ _ hr114) ⟨(Le.refl _), (Le.refl _), (Le.refl _), trivial⟩ (Wt.none rfl) rfl rfl ?_
                exact WL.done1 rfl rfl rfl
              · refine ⟨fun F => ?_, trivial⟩
                refine WL.q (y_not rfl) (Wt.none rfl) rfl rfl ?_
                exact WL.done1 rfl rfl rfl
              · refine ⟨fun F => ?_, trivial⟩
                refine WL.q (y_move rfl) (Wt.none rfl) rfl rfl ?_
                refine WL.cast 54 rfl (Le.ofd (by rw [hb3])) ?_
                exact WL.done2 rfl rfl rfl
              · refine ⟨fun F => ?_, trivial⟩
                refine WL.skips 1 rfl ?_
                exact WL.done1 rfl rfl rfl
              · refine ⟨fun F => ?_, trivial⟩
                refine WL.skips 1 rfl ?_
                exact WL.done1 rfl rfl rfl
              · refine ⟨fun F => ?_, trivial⟩
                refine WL.skips 1 rfl ?_
                exact WL.done1 rfl rfl rfl
              · refine ⟨fun F => ?_, trivial⟩
                refine WL.skips 1 rfl ?_
                exact WL.done1 rfl rfl rfl
              · refine ⟨fun F => ?_, trivial⟩
                refine WL.skips 1 rfl ?_
                exact WL.done1 rfl rfl rfl
              · refine ⟨fun F => ?_, trivial⟩
                refine WL.skips 1 rfl ?_
                exact WL.done1 rfl rfl rfl
              · refine ⟨fun F => ?_, trivial⟩
                refine WL.skips 1 rfl ?_
                exact WL.done1 rfl rfl rfl
              · refine ⟨fun F => ?_, trivial⟩
                refine WL.skips 1 rfl ?_
                exact WL.done1 rfl rfl rfl
              · refine ⟨fun F => ?_, trivial⟩
                refine WL.skips 1 rfl ?_
                exact WL.done1 rfl rfl rfl
              · refine ⟨fun F => ?_, trivial⟩
                refine WL.skips 1 rfl ?_
                exact WL.done1 rfl rfl rfl
              · refine ⟨fun F => ?_, trivial⟩
                refine WL.skips 1 rfl ?_
                exact WL.done1 rfl rfl rfl
              · refine ⟨fun F => ?_, trivial⟩
                refine WL.skips 1 rfl ?_
                exact WL.done1 rfl rfl rfl
              · refine ⟨fun F => ?_, trivial⟩
                refine WL.skips 1 rfl ?_
                exact WL.done1 rfl rfl rfl
              · refine ⟨fun F => ?_, trivial⟩
                refine WL.skips 1 rfl ?_
                exact WL.done1 rfl rfl rfl
              · refine ⟨fun F => ?_, trivial⟩
                refine WL.skips 1 rfl ?_
                exact WL.done1 rfl rfl rfl
              · refine ⟨fun F => ?_, trivial⟩
                refine WL.q (y_pick_t rfl rfl) (Wt.none rfl) rfl rfl ?_
                exact WL.done1 rfl rfl rfl
              · refine ⟨fun F => ?_, trivial⟩
                refine WL.q (y_move rfl) (Wt.none rfl) rfl rfl ?_
                exact WL.done1 rfl rfl rfl
              · refine ⟨fun F => ?_, trivial⟩
                refine WL.skips 1 rfl ?_
                exact WL.done1 rfl rfl rfl
              · refine ⟨fun F => ?_, trivial⟩
                refine WL.skips 1 rfl ?_
                exact WL.done1 rfl rfl rfl
              · refine ⟨fun F => ?_, trivial⟩
                refine WL.skips 1 rfl ?_
                exact WL.done1 rfl rfl rfl
              · refine ⟨fun F => ?_, trivial⟩
                refine WL.skips 1 rfl ?_
                exact WL.done1 rfl rfl rfl
              · refine ⟨fun F => ?_, trivial⟩
                refine WL.skips 1 rfl ?_
                exact WL.done1 rfl rfl rfl
              · refine ⟨fun F => ?_, trivial⟩
                refine WL.skips 1 rfl ?_
                exact WL.done1 rfl rfl rfl
              · refine ⟨fun F => ?_, trivial⟩
                refine WL.skips 1 rfl ?_
                exact WL.done1 rfl rfl rfl
              · refine ⟨fun F => ?_, trivial⟩
                refine WL.skips 1 rfl ?_
                exact WL.done1 rfl rfl rfl
              · refine ⟨fun F => ?_, trivial⟩
                refine WL.skips 1 rfl ?_
                exact WL.done1 rfl rfl rfl
              · refine ⟨fun F => ?_, trivial⟩
                refine WL.q (y_pick_t rfl rfl) (Wt.none rfl) rfl rfl ?_
                exact WL.done1 rfl rfl rfl
            · exact we_lp ⟨true, h, (Sub.cons rfl (Le.refl _) (Sub.cons rfl (Le.refl _) (Sub.cons rfl (Le.refl _) (Sub.cons rfl (Le.refl _) (Sub.nil _))))), ⟨⟨rfl, ⟨(Le.refl _), (Le.refl _), trivial⟩⟩, trivial⟩⟩
          · replace h := condF h hb3
            replace h := bindS h
            obtain ⟨x115, hx115, h⟩ := h
            replace h := bindS h
            obtain ⟨x116, hx116, h⟩ := h
            replace h := bindS h
            obtain ⟨r117, hr117, h⟩ := h
            replace h := bindS h
            obtain ⟨r118, hr118, h⟩ := h
            rcases boolCases (!r118) with hb4 | hb4
            · replace h := condT h hb4
              apply wc_region_all [_, _, _, _, _, _, _, _, _, _, _, _, _, _, _, _, _, _, _, _, _, _, _, _, _, _, _, _, _, _, _, _, _, _, _] [[], [], [1], [], [3], [0, 1, 2, 3, 4], [0, 1, 2, 3, 4, 5], [0, 1, 2, 3, 4, 5, 6], [0, 1, 2, 3, 4, 5, 6, 7], [0, 1, 2, 3, 4, 5, 6, 7], [0, 1, 2, 3, 4, 5, 6, 7], [0, 1, 2, 3, 4, 5, 6, 7], [0, 1, 2, 3, 4, 5, 6, 7, 11], [0, 1, 2, 3, 4, 5, 6, 7, 10, 11, 12], [0, 1, 2, 3, 4, 5, 6, 7, 10, 11, 12, 13], [0, 1, 2, 3, 4, 5, 6, 7], [0, 1, 2, 3, 4, 5, 6, 7, 15], [0, 1, 2, 3, 4, 5, 6, 7, 10, 11, 12, 13, 14, 15, 16], [0, 1, 2, 3, 4, 5, 6, 7, 10, 11, 12, 13, 14, 15, 16, 17], [0, 1, 2, 3, 4, 5, 6, 7, 8, 9, 10, 11, 12, 13, 14, 15, 16, 17, 18], [0, 1, 2, 3, 4, 5, 6, 7], [0, 1, 2, 3, 4, 5, 6, 7, 8, 9, 10, 11, 12, 13, 14, 15, 16, 17, 18, 19, 20], [0, 1, 2, 3, 4, 5, 6, 7, 8, 9, 10, 11, 12, 13, 14, 15, 16, 17, 18, 19, 20, 21], [0, 1, 2, 3, 4, 5, 6, 7, 8, 9, 10, 11, 12, 13, 14, 15, 16, 17, 18, 19, 20, 21, 22], [0, 1, 2, 3, 4, 5, 6, 7, 8, 9, 10, 11, 12, 13, 14, 15, 16, 17, 18, 19, 20, 21, 22, 23], [0, 1, 2, 3, 4, 5, 6, 7, 8, 9, 10, 11, 12, 13, 14, 15, 16, 17, 18, 19, 20, 21, 22, 23, 24], [0, 1, 2, 3, 4, 5, 6, 7, 8, 9, 10, 11, 12, 13, 14, 15, 16, 17, 18, 19, 20, 21, 22, 23, 24], [0, 1, 2, 3, 4, 5, 6, 7, 8, 9, 10, 11, 12, 13, 14, 15, 16, 17, 18, 19, 20, 21, 22, 23, 24, 26], [0, 1, 2, 3, 4, 5, 6, 7, 8, 9, 10, 11, 12, 13, 14, 15, 16, 17, 18, 19, 20, 21, 22, 23, 24], [0, 1, 2, 3, 4, 5, 6, 7, 8, 9, 10, 11, 12, 13, 14, 15, 16, 17, 18, 19, 20, 21, 22, 23, 24, 28], [0, 1, 2, 3, 4, 5, 6, 7, 8, 9, 10, 11, 12, 13, 14, 15, 16, 17, 18, 19, 20, 21, 22, 23, 24, 26, 27, 28, 29], [0, 1, 2, 3, 4, 5, 6, 7, 8, 9, 10, 11, 12, 13, 14, 15, 16, 17, 18, 19, 20, 21, 22, 23, 24], [0, 1, 2, 3, 4, 5, 6, 7, 8, 9, 10, 11, 12, 13, 14, 15, 16, 17, 18, 19, 20, 21, 22, 23, 24, 25, 26, 27, 28, 29, 30, 31], [0, 1, 2, 3, 4, 5, 6, 7, 8, 9, 10, 11, 12, 13, 14, 15, 16, 17, 18, 19, 20, 21, 22, 23, 24, 25, 26, 27, 28, 29, 30, 31, 32], [0, 1, 2, 3, 4, 5, 6, 7, 8, 9, 10, 11, 12, 13, 14, 15, 16, 17, 18, 19, 20, 21, 22, 23, 24, 25, 26, 27, 28, 29, 30, 31, 32, 33]] [] (fun c => List.getD [[.row 52 [.d (D.i .i64 r107.1.o), .d (D.i .i64 r107.1.slot)]]] c []) [([], [10], [0]), ([], [7], [0]), ([1], [], [0]), ([], [7], [0]), ([3], [], [0]), ([0, 2, 4], [], [0]), ([5], [], [0]), ([6], [], [0]), ([7], [10], [0]), ([7], [7], [0]), ([7], [0], [0]), ([7], [7], [0]), ([11, 7], [], [0]), ([10, 12, 7], [], [0]), ([13, 7], [], [0]), ([7], [7], [0]), ([15, 7], [], [0]), ([14, 16, 7], [], [0]), ([17, 7], [], [0]), ([8, 9, 18, 7], [], [0]), ([7], [0], [0]), ([19, 20, 7], [], [0]), ([21, 7], [], [0]), ([7, 22], [], [0]), ([23], [], [0]), ([24], [], [0]), ([24], [], [0]), ([24], [], [0]), ([24], [], [0]), ([24], [], [0]), ([24], [], [0]), ([24], [], [0]), ([24], [], [0]), ([24], [], [0]), ([24, 33], [], [0])] (by kernel_rfl) (by kernel_rfl) rfl rfl rfl
              · refine ⟨?_, ?_, ?_, ?_, ?_, ?_, ?_, ?_, ?_, ?_, ?_, ?_, ?_, ?_, ?_, ?_, ?_, ?_, ?_, ?_, ?_, ?_, ?_, ?_, ?_, ?_, ?_, ?_, ?_, ?_, ?_, ?_, ?_, ?_, ?_, trivial⟩
                · refine ⟨fun F => ?_, trivial⟩
                  refine WL.q (y_move rfl) (Wt.none rfl) rfl rfl ?_
                  exact WL.done1 rfl rfl rfl
                · refine ⟨fun F => ?_, trivial⟩
                  refine WL.q (y_fieldAddr f52_0 rfl) (Wt.none rfl) rfl rfl ?_
                  exact WL.done1 rfl rfl rfl
                · refine ⟨fun F => ?_, trivial⟩
                  refine WL.q (y_load rfl rfl a3 rfl) (Wt.none rfl) rfl rfl ?_
                  exact WL.done1 rfl rfl rfl
                · refine ⟨fun F => ?_, trivial⟩
                  refine WL.q (y_fieldAddr f52_1 rfl) (Wt.none rfl) rfl rfl ?_
                  exact WL.done1 rfl rfl rfl
                · refine ⟨fun F => ?_, trivial⟩
                  refine WL.q (y_load rfl rfl a3 rfl) (Wt.none rfl) rfl rfl ?_
                  exact WL.done1 rfl rfl rfl
                · refine ⟨fun F => ?_, trivial⟩
                  refine WL.fn rfl rfl rfl rfl (f30_c _ _ _ hr114) ⟨(Le.refl _), (Le.refl _), (Le.refl _), trivial⟩ (Wt.none rfl) rfl rfl ?_
                  exact WL.done1 rfl rfl rfl
                · refine ⟨fun F => ?_, trivial⟩
                  refine WL.q (y_not rfl) (Wt.none rfl) rfl rfl ?_
                  exact WL.done1 rfl rfl rfl
                · refine ⟨fun F => ?_, trivial⟩
                  refine WL.q (y_move rfl) (Wt.none rfl) rfl rfl ?_
                  refine WL.cast 54 rfl (Le.ofd (by rw [hb3])) ?_
                  exact WL.done2 rfl rfl rfl
                · refine ⟨fun F => ?_, trivial⟩
                  refine WL.q (y_move rfl) (Wt.yes rfl rfl rfl) rfl rfl ?_
                  exact WL.done1 rfl rfl rfl
                · refine ⟨fun F => ?_, trivial⟩
                  refine WL.q (y_loadN rfl rfl a52 s52 rfl) (Wt.yes rfl rfl rfl) rfl rfl ?_
                  exact WL.done1 rfl rfl rfl
                · refine ⟨fun F => ?_, trivial⟩
                  refine WL.q (y_move rfl) (Wt.yes rfl rfl rfl) rfl rfl ?_
                  exact WL.done1 rfl rfl rfl
                · refine ⟨fun F => ?_, trivial⟩
                  refine WL.q (y_fieldAddr f52_0 rfl) (Wt.yes rfl rfl rfl) rfl rfl ?_
                  exact WL.done1 rfl rfl rfl
                · refine ⟨fun F => ?_, trivial⟩
                  refine WL.q (y_load rfl rfl a3 rfl) (Wt.yes rfl rfl rfl) rfl rfl ?_
                  exact WL.done1 rfl rfl rfl
                · refine ⟨fun F => ?_, trivial⟩
                  refine WL.q (y_indexAddr e37 rfl (Le.refl _) rfl (idx_nonneg hx115) (idx_row E56_eq hx115) rfl) (Wt.yes rfl rfl rfl) rfl rfl ?_
                  exact WL.done1 rfl rfl rfl
                · refine ⟨fun F => ?_, trivial⟩
                  refine WL.q (y_loadc rfl a56 rfl) (Wt.yes rfl rfl rfl) rfl rfl ?_
                  exact WL.done1 rfl rfl rfl
                · refine ⟨fun F => ?_, trivial⟩
                  refine WL.q (y_fieldAddr f52_1 rfl) (Wt.yes rfl rfl rfl) rfl rfl ?_
                  exact WL.done1 rfl rfl rfl
                · refine ⟨fun F => ?_, trivial⟩
                  refine WL.q (y_load rfl rfl a3 rfl) (Wt.yes rfl rfl rfl) rfl rfl ?_
                  exact WL.done1 rfl rfl rfl
                · refine ⟨fun F => ?_, trivial⟩
                  refine WL.q (y_indexAddr e56 rfl (Le.refl _) rfl (idx_nonneg hx116) (idx_row E2_eq hx116) rfl) (Wt.yes rfl rfl rfl) rfl rfl ?_
                  exact WL.done1 rfl rfl rfl
                · refine ⟨fun F => ?_, trivial⟩
                  refine WL.q (y_loadc rfl a2 rfl) (Wt.yes rfl rfl rfl) rfl rfl ?_
                  exact WL.done1 rfl rfl rfl
                · refine ⟨fun F => ?_, trivial⟩
                  refine WL.fn rfl rfl rfl rfl (f36_c _ _ _ hr117) ⟨(Le.refl _), (Le.agd ⟨(Le.refl _), (Le.refl _), trivial⟩), (Le.refl _), trivial⟩ (Wt.yes rfl rfl rfl) rfl rfl ?_
                  exact WL.done1 rfl rfl rfl
                · refine ⟨fun F => ?_, trivial⟩
                  refine WL.q (y_move rfl) (Wt.yes rfl rfl rfl) rfl rfl ?_
                  exact WL.done1 rfl rfl rfl
                · refine ⟨fun F => ?_, trivial⟩
                  refine WL.fn rfl rfl rfl rfl (f37_c _ _ hr118) ⟨(Le.refl _), (Le.refl _), trivial⟩ (Wt.yes rfl rfl rfl) rfl rfl ?_
                  exact WL.done1 rfl rfl rfl
                · refine ⟨fun F => ?_, trivial⟩
                  refine WL.q (y_not rfl) (Wt.yes rfl rfl rfl) rfl rfl ?_
                  exact WL.done1 rfl rfl rfl
                · refine ⟨fun F => ?_, trivial⟩
                  refine WL.q (y_pick_f rfl rfl) (Wt.none rfl) rfl rfl ?_
                  exact WL.done1 rfl rfl rfl
                · refine ⟨fun F => ?_, trivial⟩
                  refine WL.q (y_move rfl) (Wt.none rfl) rfl rfl ?_
                  refine WL.cast 71 rfl (Le.ofd (by rw [hb4])) ?_
                  exact WL.done2 rfl rfl rfl
                · refine ⟨fun F => ?_, trivial⟩
                  refine WL.skips 1 rfl ?_
                  exact WL.done1 rfl rfl rfl
                · refine ⟨fun F => ?_, trivial⟩
                  refine WL.skips 1 rfl ?_
                  exact WL.done1 rfl rfl rfl
                · refine ⟨fun F => ?_, trivial⟩
                  refine WL.skips 1 rfl ?_
                  exact WL.done1 rfl rfl rfl
                · refine ⟨fun F => ?_, trivial⟩
                  refine WL.skips 1 rfl ?_
                  exact WL.done1 rfl rfl rfl
                · refine ⟨fun F => ?_, trivial⟩
                  refine WL.skips 1 rfl ?_
                  exact WL.done1 rfl rfl rfl
                · refine ⟨fun F => ?_, trivial⟩
                  refine WL.skips 1 rfl ?_
                  exact WL.done1 rfl rfl rfl
                · refine ⟨fun F => ?_, trivial⟩
                  refine WL.skips 1 rfl ?_
                  exact WL.done1 rfl rfl rfl
                · refine ⟨fun F => ?_, trivial⟩
                  refine WL.skips 1 rfl ?_
                  exact WL.done1 rfl rfl rfl
                · refine ⟨fun F => ?_, trivial⟩
                  refine WL.skips 1 rfl ?_
                  exact WL.done1 rfl rfl rfl
                · refine ⟨fun F => ?_, trivial⟩
                  refine WL.q (y_pick_t rfl rfl) (Wt.none rfl) rfl rfl ?_
                  exact WL.done1 rfl rfl rfl
              · exact we_lp ⟨true, h, (Sub.cons rfl (Le.refl _) (Sub.cons rfl (Le.refl _) (Sub.cons rfl (Le.refl _) (Sub.cons rfl (Le.refl _) (Sub.nil _))))), ⟨⟨rfl, ⟨(Le.refl _), (Le.refl _), trivial⟩⟩, trivial⟩⟩
            · replace h := condF h hb4
              replace h := bindS h
              obtain ⟨r119, hr119, h⟩ := h
              apply wc_region_all [_, _, _, _, _, _, _, _, _, _, _, _, _, _, _, _, _, _, _, _, _, _, _, _, _, _, _, _, _, _, _, _, _, _, _] [[], [], [1], [], [3], [0, 1, 2, 3, 4], [0, 1, 2, 3, 4, 5], [0, 1, 2, 3, 4, 5, 6], [0, 1, 2, 3, 4, 5, 6, 7], [0, 1, 2, 3, 4, 5, 6, 7], [0, 1, 2, 3, 4, 5, 6, 7], [0, 1, 2, 3, 4, 5, 6, 7], [0, 1, 2, 3, 4, 5, 6, 7, 11], [0, 1, 2, 3, 4, 5, 6, 7, 10, 11, 12], [0, 1, 2, 3, 4, 5, 6, 7, 10, 11, 12, 13], [0, 1, 2, 3, 4, 5, 6, 7], [0, 1, 2, 3, 4, 5, 6, 7, 15], [0, 1, 2, 3, 4, 5, 6, 7, 10, 11, 12, 13, 14, 15, 16], [0, 1, 2, 3, 4, 5, 6, 7, 10, 11, 12, 13, 14, 15, 16, 17], [0, 1, 2, 3, 4, 5, 6, 7, 8, 9, 10, 11, 12, 13, 14, 15, 16, 17, 18], [0, 1, 2, 3, 4, 5, 6, 7], [0, 1, 2, 3, 4, 5, 6, 7, 8, 9, 10, 11, 12, 13, 14, 15, 16, 17, 18, 19, 20], [0, 1, 2, 3, 4, 5, 6, 7, 8, 9, 10, 11, 12, 13, 14, 15, 16, 17, 18, 19, 20, 21], [0, 1, 2, 3, 4, 5, 6, 7, 8, 9, 10, 11, 12, 13, 14, 15, 16, 17, 18, 19, 20, 21, 22], [0, 1, 2, 3, 4, 5, 6, 7, 8, 9, 10, 11, 12, 13, 14, 15, 16, 17, 18, 19, 20, 21, 22, 23], [0, 1, 2, 3, 4, 5, 6, 7, 8, 9, 10, 11, 12, 13, 14, 15, 16, 17, 18, 19, 20, 21, 22, 23, 24], [0, 1, 2, 3, 4, 5, 6, 7, 8, 9, 10, 11, 12, 13, 14, 15, 16, 17, 18, 19, 20, 21, 22, 23, 24], [0, 1, 2, 3, 4, 5, 6, 7, 8, 9, 10, 11, 12, 13, 14, 15, 16, 17, 18, 19, 20, 21, 22, 23, 24, 26], [0, 1, 2, 3, 4, 5, 6, 7, 8, 9, 10, 11, 12, 13, 14, 15, 16, 17, 18, 19, 20, 21, 22, 23, 24], [0, 1, 2, 3, 4, 5, 6, 7, 8, 9, 10, 11, 12, 13, 14, 15, 16, 17, 18, 19, 20, 21, 22, 23, 24, 28], [0, 1, 2, 3, 4, 5, 6, 7, 8, 9, 10, 11, 12, 13, 14, 15, 16, 17, 18, 19, 20, 21, 22, 23, 24, 26, 27, 28, 29], [0, 1, 2, 3, 4, 5, 6, 7, 8, 9, 10, 11, 12, 13, 14, 15, 16, 17, 18, 19, 20, 21, 22, 23, 24], [0, 1, 2, 3, 4, 5, 6, 7, 8, 9, 10, 11, 12, 13, 14, 15, 16, 17, 18, 19, 20, 21, 22, 23, 24, 25, 26, 27, 28, 29, 30, 31], [0, 1, 2, 3, 4, 5, 6, 7, 8, 9, 10, 11, 12, 13, 14, 15, 16, 17, 18, 19, 20, 21, 22, 23, 24, 25, 26, 27, 28, 29, 30, 31, 32], [0, 1, 2, 3, 4, 5, 6, 7, 8, 9, 10, 11, 12, 13, 14, 15, 16, 17, 18, 19, 20, 21, 22, 23, 24, 25, 26, 27, 28, 29, 30, 31, 32, 33]] [] (fun c => List.getD [[.row 52 [.d (D.i .i64 r107.1.o), .d (D.i .i64 r107.1.slot)]]] c []) [([], [10], [0]), ([], [7], [0]), ([1], [], [0]), ([], [7], [0]), ([3], [], [0]), ([0, 2, 4], [], [0]), ([5], [], [0]), ([6], [], [0]), ([7], [10], [0]), ([7], [7], [0]), ([7], [0], [0]), ([7], [7], [0]), ([11, 7], [], [0]), ([10, 12, 7], [], [0]), ([13, 7], [], [0]), ([7], [7], [0]), ([15, 7], [], [0]), ([14, 16, 7], [], [0]), ([17, 7], [], [0]), ([8, 9, 18, 7], [], [0]), ([7], [0], [0]), ([19, 20, 7], [], [0]), ([21, 7], [], [0]), ([7, 22], [], [0]), ([23], [], [0]), ([24], [10], [0]), ([24], [7], [0]), ([26, 24], [], [0]), ([24], [7], [0]), ([28, 24], [], [0]), ([27, 29, 24], [], [0]), ([24], [9], [0]), ([25, 30, 31, 24], [], [0]), ([32, 24], [], [0]), ([24, 33], [], [0])] (by kernel_rfl) (by kernel_rfl) rfl rfl rfl
              · refine ⟨?_, ?_, ?_, ?_, ?_, ?_, ?_, ?_, ?_, ?_, ?_, ?_, ?_, ?_, ?_, ?_, ?_, ?_, ?_, ?_, ?_, ?_, ?_, ?_, ?_, ?_, ?_, ?_, ?_, ?_, ?_, ?_, ?_, ?_, ?_, trivial⟩
                · refine ⟨fun F => ?_, trivial⟩
                  refine WL.q (y_move rfl) (Wt.none rfl) rfl rfl ?_
                  exact WL.done1 rfl rfl rfl
                · refine ⟨fun F => ?_, trivial⟩
                  refine WL.q (y_fieldAddr f52_0 rfl) (Wt.none rfl) rfl rfl ?_
                  exact WL.done1 rfl rfl rfl
                · refine ⟨fun F => ?_, trivial⟩
                  refine WL.q (y_load rfl rfl a3 rfl) (Wt.none rfl) rfl rfl ?_
                  exact WL.done1 rfl rfl rfl
                · refine ⟨fun F => ?_, trivial⟩
                  refine WL.q (y_fieldAddr f52_1 rfl) (Wt.none rfl) rfl rfl ?_
                  exact WL.done1 rfl rfl rfl
                · refine ⟨fun F => ?_, trivial⟩
                  refine WL.q (y_load rfl rfl a3 rfl) (Wt.none rfl) rfl rfl ?_
                  exact WL.done1 rfl rfl rfl
                · refine ⟨fun F => ?_, trivial⟩
                  refine WL.fn rfl rfl rfl rfl (f30_c _ _ _ hr114) ⟨(Le.refl _), (Le.refl _), (Le.refl _), trivial⟩ (Wt.none rfl) rfl rfl ?_
                  exact WL.done1 rfl rfl rfl
                · refine ⟨fun F => ?_, trivial⟩
                  refine WL.q (y_not rfl) (Wt.none rfl) rfl rfl ?_
                  exact WL.done1 rfl rfl rfl
                · refine ⟨fun F => ?_, trivial⟩
                  refine WL.q (y_move rfl) (Wt.none rfl) rfl rfl ?_
                  refine WL.cast 54 rfl (Le.ofd (by rw [hb3])) ?_
                  exact WL.done2 rfl rfl rfl
                · refine ⟨fun F => ?_, trivial⟩
                  refine WL.q (y_move rfl) (Wt.yes rfl rfl rfl) rfl rfl ?_
                  exact WL.done1 rfl rfl rfl
                · refine ⟨fun F => ?_, trivial⟩
                  refine WL.q (y_loadN rfl rfl a52 s52 rfl) (Wt.yes rfl rfl rfl) rfl rfl ?_
                  exact WL.done1 rfl rfl rfl
                · refine ⟨fun F => ?_, trivial⟩
                  refine WL.q (y_move rfl) (Wt.yes rfl rfl rfl) rfl rfl ?_
                  exact WL.done1 rfl rfl rfl
                · refine ⟨fun F => ?_, trivial⟩
                  refine WL.q (y_fieldAddr f52_0 rfl) (Wt.yes rfl rfl rfl) rfl rfl ?_
                  exact WL.done1 rfl rfl rfl
                · refine ⟨fun F => ?_, trivial⟩
                  refine WL.q (y_load rfl rfl a3 rfl) (Wt.yes rfl rfl rfl) rfl rfl ?_
                  exact WL.done1 rfl rfl rfl
                · refine ⟨fun F => ?_, trivial⟩
                  refine WL.q (y_indexAddr e37 rfl (Le.refl _) rfl (idx_nonneg hx115) (idx_row E56_eq hx115) rfl) (Wt.yes rfl rfl rfl) rfl rfl ?_
                  exact WL.done1 rfl rfl rfl
                · refine ⟨fun F => ?_, trivial⟩
                  refine WL.q (y_loadc rfl a56 rfl) (Wt.yes rfl rfl rfl) rfl rfl ?_
                  exact WL.done1 rfl rfl rfl
                · refine ⟨fun F => ?_, trivial⟩
                  refine WL.q (y_fieldAddr f52_1 rfl) (Wt.yes rfl rfl rfl) rfl rfl ?_
                  exact WL.done1 rfl rfl rfl
                · refine ⟨fun F => ?_, trivial⟩
                  refine WL.q (y_load rfl rfl a3 rfl) (Wt.yes rfl rfl rfl) rfl rfl ?_
                  exact WL.done1 rfl rfl rfl
                · refine ⟨fun F => ?_, trivial⟩
                  refine WL.q (y_indexAddr e56 rfl (Le.refl _) rfl (idx_nonneg hx116) (idx_row E2_eq hx116) rfl) (Wt.yes rfl rfl rfl) rfl rfl ?_
                  exact WL.done1 rfl rfl rfl
                · refine ⟨fun F => ?_, trivial⟩
                  refine WL.q (y_loadc rfl a2 rfl) (Wt.yes rfl rfl rfl) rfl rfl ?_
                  exact WL.done1 rfl rfl rfl
                · refine ⟨fun F => ?_, trivial⟩
                  refine WL.fn rfl rfl rfl rfl (f36_c _ _ _ hr117) ⟨(Le.refl _), (Le.agd ⟨(Le.refl _), (Le.refl _), trivial⟩), (Le.refl _), trivial⟩ (Wt.yes rfl rfl rfl) rfl rfl ?_
                  exact WL.done1 rfl rfl rfl
                · refine ⟨fun F => ?_, trivial⟩
                  refine WL.q (y_move rfl) (Wt.yes rfl rfl rfl) rfl rfl ?_
                  exact WL.done1 rfl rfl rfl
                · refine ⟨fun F => ?_, trivial⟩
                  refine WL.fn rfl rfl rfl rfl (f37_c _ _ hr118) ⟨(Le.refl _), (Le.refl _), trivial⟩ (Wt.yes rfl rfl rfl) rfl rfl ?_
                  exact WL.done1 rfl rfl rfl
                · refine ⟨fun F => ?_, trivial⟩
                  refine WL.q (y_not rfl) (Wt.yes rfl rfl rfl) rfl rfl ?_
                  exact WL.done1 rfl rfl rfl
                · refine ⟨fun F => ?_, trivial⟩
                  refine WL.q (y_pick_f rfl rfl) (Wt.none rfl) rfl rfl ?_
                  exact WL.done1 rfl rfl rfl
                · refine ⟨fun F => ?_, trivial⟩
                  refine WL.q (y_move rfl) (Wt.none rfl) rfl rfl ?_
                  refine WL.cast 71 rfl (Le.ofd (by rw [hb4])) ?_
                  exact WL.done2 rfl rfl rfl
                · refine ⟨fun F => ?_, trivial⟩
                  refine WL.q (y_move rfl) (Wt.yes rfl rfl rfl) rfl rfl ?_
                  exact WL.done1 rfl rfl rfl
                · refine ⟨fun F => ?_, trivial⟩
                  refine WL.q (y_fieldAddr f52_0 rfl) (Wt.yes rfl rfl rfl) rfl rfl ?_
                  exact WL.done1 rfl rfl rfl
                · refine ⟨fun F => ?_, trivial⟩
                  refine WL.q (y_load rfl rfl a3 rfl) (Wt.yes rfl rfl rfl) rfl rfl ?_
                  exact WL.done1 rfl rfl rfl
                · refine ⟨fun F => ?_, trivial⟩
                  refine WL.q (y_fieldAddr f52_1 rfl) (Wt.yes rfl rfl rfl) rfl rfl ?_
                  exact WL.done1 rfl rfl rfl
                · refine ⟨fun F => ?_, trivial⟩
                  refine WL.q (y_load rfl rfl a3 rfl) (Wt.yes rfl rfl rfl) rfl rfl ?_
                  exact WL.done1 rfl rfl rfl
                · refine ⟨fun F => ?_, trivial⟩
                  refine WL.fn rfl rfl rfl rfl (f39_c _ _) ⟨(Le.refl _), (Le.refl _), trivial⟩ (Wt.yes rfl rfl rfl) rfl rfl ?_
                  exact WL.done1 rfl rfl rfl
                · refine ⟨fun F => ?_, trivial⟩
                  refine WL.q (y_move rfl) (Wt.yes rfl rfl rfl) rfl rfl ?_
                  exact WL.done1 rfl rfl rfl
                · refine ⟨fun F => ?_, trivial⟩
                  refine WL.fn rfl rfl rfl rfl (f38_c _ _ _ _ hr119) ⟨(Le.refl _), Le.nil, (Le.refl _), (Le.refl _), trivial⟩ (Wt.yes rfl rfl rfl) rfl rfl ?_
                  exact WL.done1 rfl rfl rfl
                · refine ⟨fun F => ?_, trivial⟩
                  refine WL.q (y_not rfl) (Wt.yes rfl rfl rfl) rfl rfl ?_
                  exact WL.done1 rfl rfl rfl
                · refine ⟨fun F => ?_, trivial⟩
                  refine WL.q (y_pick_f rfl rfl) (Wt.none rfl) rfl rfl ?_
                  exact WL.done1 rfl rfl rfl
              · exact we_lp ⟨(!r119), h, (Sub.cons rfl (Le.refl _) (Sub.cons rfl (Le.refl _) (Sub.cons rfl (Le.refl _) (Sub.cons rfl (Le.refl _) (Sub.nil _))))), ⟨⟨rfl, ⟨(Le.refl _), (Le.refl _), trivial⟩⟩, trivial⟩⟩
        · rintro env1 st1 ⟨t112, h, hsub, hst⟩
          subst hk113
          dsimp only at h
          refine WC.sub hsub (WC.weak hst ?_)
          refine wc_cond rfl (fun hc4 => ?_) (fun hc4 => ?_)
          · replace h := condT h hc4
            refine wc_seq ?_
            refine wc_region ?_
            refine WL.q (y_assign rfl) (Wt.none rfl) rfl rfl ?_
            refine WL.nil ?_
            refine we_seq ?_
            refine wc_ret ?_
            refine we_seq_ret ?_
            obtain rfl := Option.some.inj h
            exact we_ret_fn (rs1 rfl (rv_t rfl)) (Le.refl _)
          · replace h := condF h hc4
            refine wc_skip ?_
            refine we_seq ?_
            refine wc_seq ?_
            refine wc_region ?_
            refine WL.q (y_fieldAddr f52_0 rfl) (Wt.none rfl) rfl rfl ?_
            refine WL.q (y_load rfl rfl a3 rfl) (Wt.none rfl) rfl rfl ?_
            refine WL.q (y_build p26 z26 rfl rfl) (Wt.none rfl) rfl rfl ?_
            refine WL.s ((NewOs.b (NewOs.weak (es' := List.map (encA R26) [(CE.mk 12 0 0 r107.1.o 0 0 0 0 [])]) (n_buildSlice l24 z26 rfl (by decide) (by decide) rfl rfl rfl (by decide)) (by exact ⟨⟨(Le.refl _), (Le.refl _), (Le.refl _), (Le.refl _), (Le.refl _), (Le.refl _), (Le.refl _), (Le.refl _), Le.nil, trivial⟩, trivial⟩))).does) (Wt.none rfl) rfl rfl ?_
            refine WL.freezeX [85] [] 1 (List.map E26 [(CE.mk 12 0 0 r107.1.o 0 0 0 0 [])]) rfl (encA_map E26_eq [(CE.mk 12 0 0 r107.1.o 0 0 0 0 [])]) ⟨rfl, trivial⟩ trivial ?_
            refine WL.fn rfl rfl rfl rfl (f23_c _ _) ⟨(Le.refl _), (Le.refl _), trivial⟩ (Wt.none rfl) rfl rfl ?_
            refine WL.s ((b_alloc z26).does) (Wt.none rfl) rfl rfl ?_
            refine WL.s0 (d_store rfl rfl rfl rfl rfl rfl s26 rfl rfl) (Wt.none rfl) rfl ?_
            refine WL.nil ?_
            refine we_seq ?_
            refine wc_seq ?_
            refine wc_region ?_
            refine WL.q (y_fieldAddr f52_1 rfl) (Wt.none rfl) rfl rfl ?_
            refine WL.q (y_load rfl rfl a3 rfl) (Wt.none rfl) rfl rfl ?_
            refine WL.q (y_neq rfl rfl) (Wt.none rfl) rfl rfl ?_
            refine WL.q (y_move rfl) (Wt.none rfl) rfl rfl ?_
            replace h := bindS h
            obtain ⟨b120, hb120, h⟩ := h
            apply WL.grp 5 (t := 90) (d := 95) (z := b120)
            · exact rfl
            · intro hg90
              have h := condT hb120 hg90
              refine WL.skips 4 rfl ?_
              refine WL.q (y_pick_t rfl rfl) (Wt.none rfl) rfl rfl ?_
              obtain rfl := Option.some.inj h
              exact WL.nil ⟨rfl, [_, _, _, _, _], rfl, rfl, rfl⟩
            · intro hg90
              have h := condF hb120 hg90
              refine WL.q (y_move rfl) (Wt.yes rfl rfl rfl) rfl rfl ?_
              refine WL.q (y_loadN rfl rfl a26 s26 rfl) (Wt.yes rfl rfl rfl) rfl rfl ?_
              refine WL.q (y_move rfl) (Wt.yes rfl rfl rfl) rfl rfl ?_
              replace h := bindS h
              obtain ⟨r121, hr121, h⟩ := h
              refine WL.fn rfl rfl rfl rfl (f38_c _ _ _ _ hr121) ⟨(Le.refl _), Le.nil, (Le.agd ⟨(Le.refl _), (Le.refl _), (Le.refl _), (Le.refl _), (Le.refl _), (Le.refl _), (Le.refl _), (Le.refl _), (Le.refl _), trivial⟩), (Le.refl _), trivial⟩ (Wt.yes rfl rfl rfl) rfl rfl ?_
              refine WL.q (y_pick_f rfl rfl) (Wt.none rfl) rfl rfl ?_
              obtain rfl := Option.some.inj h
              exact WL.nil ⟨rfl, [_, _, _, _, _], rfl, rfl, rfl⟩
            refine WL.q (y_move rfl) (Wt.none rfl) rfl rfl ?_
            replace h := bindS h
            obtain ⟨b122, hb122, h⟩ := h
            apply WL.grp 2 (t := 96) (d := 98) (z := b122)
            · exact rfl
            · intro hg96
              have h := condT hb122 hg96
              replace h := bindS h
              obtain ⟨r123, hr123, h⟩ := h
              refine WL.fn rfl rfl rfl rfl (f20_c hr123) trivial (Wt.yes rfl rfl rfl) rfl rfl ?_
              refine WL.q (y_pick_t rfl rfl) (Wt.none rfl) rfl rfl ?_
              obtain rfl := Option.some.inj h
              exact WL.nil ⟨rfl, [_, _], rfl, rfl, rfl⟩
            · intro hg96
              have h := condF hb122 hg96
              refine WL.skips 1 rfl ?_
              refine WL.q (y_pick_f rfl rfl) (Wt.none rfl) rfl rfl ?_
              obtain rfl := Option.some.inj h
              exact WL.nil ⟨rfl, [_, _], rfl, rfl, rfl⟩
            refine WL.q (y_assign rfl) (Wt.none rfl) rfl rfl ?_
            refine WL.nil ?_
            refine we_seq ?_
            refine wc_ret ?_
            obtain rfl := Option.some.inj h
            exact we_ret_fn (rs1 rfl (rv_t rfl)) (Le.refl _)

theorem f10_c (s0 : List (List Int)) (counts1 : List Int) (e2 : CE) (o3 : Int) (l4 : List Int) {r : Bool} (h : f10 s0 counts1 e2 o3 l4 = some r) : Pu Try.prog 10 [.sl (List.map E56 s0), .sl (List.map E3 counts1), .ag (R26 e2), .i .u8 o3, .sl (List.map E2 l4)] (.b r) := by
  unfold f10 at h
  refine fn_intro Try.func10 (by kernel_rfl) rfl rfl rfl (fun φφ ww => ?_)
  refine wc_seq ?_
  refine wc_region ?_
  refine WL.s ((b_boxd rfl rfl (Les.refl _)).does) (Wt.none rfl) rfl rfl ?_
  refine WL.q (y_assign rfl) (Wt.none rfl) rfl rfl ?_
  refine WL.nil ?_
  refine we_seq ?_
  refine wc_seq ?_
  refine wc_seq ?_
  refine wc_region ?_
  refine WL.q (y_move rfl) (Wt.none rfl) rfl rfl ?_
  replace h := bindS h
  obtain ⟨r88, hr88, h⟩ := h
  refine WL.fn rfl rfl rfl rfl (f31_c _ hr88) ⟨(Le.refl _), trivial⟩ (Wt.none rfl) rfl rfl ?_
  refine WL.q (y_move rfl) (Wt.none rfl) rfl rfl ?_
  apply WL.or 4 (t := 19) (d := 23)
  · exact rfl
  · intro hg19
    refine WL.q (y_move rfl) (Wt.yes rfl rfl rfl) rfl rfl ?_
    refine WL.q (y_len_map E56 s0 e37 rfl rfl (Le.refl _)) (Wt.yes rfl rfl rfl) rfl rfl ?_
    refine WL.q (y_eql rfl rfl) (Wt.yes rfl rfl rfl) rfl rfl ?_
    refine WL.q (y_pick_f rfl rfl) (Wt.none rfl) rfl rfl ?_
    exact WL.nil ⟨rfl, [_, _, _, _], rfl, rfl, rfl⟩
  · refine WL.skips 3 rfl ?_
    refine WL.q (y_pick_t rfl rfl) (Wt.none rfl) rfl rfl ?_
    exact WL.nil ⟨rfl, [_, _, _, _], rfl, rfl, rfl⟩
  refine WL.q (y_move rfl) (Wt.none rfl) rfl rfl ?_
  replace h := bindS h
  obtain ⟨b89, hb89, h⟩ := h
  apply WL.grp 4 (t := 24) (d := 28) (z := b89)
  · exact rfl
  · intro hg24
    have h := condT hb89 hg24
    refine WL.skips 3 rfl ?_
    refine WL.q (y_pick_t rfl rfl) (Wt.none rfl) rfl rfl ?_
    obtain rfl := Option.some.inj h
    exact WL.nil ⟨rfl, [_, _, _, _], rfl, rfl, rfl⟩
  · intro hg24
    have h := condF hb89 hg24
    refine WL.q (y_loadcN rfl a26 s26 rfl) (Wt.yes rfl rfl rfl) rfl rfl ?_
    replace h := bindS h
    obtain ⟨r90, hr90, h⟩ := h
    refine WL.fn rfl rfl rfl rfl (f14_c _ _ hr90) ⟨(Le.refl _), (Le.refl _), trivial⟩ (Wt.yes rfl rfl rfl) rfl rfl ?_
    refine WL.q (y_not rfl) (Wt.yes rfl rfl rfl) rfl rfl ?_
    refine WL.q (y_pick_f rfl rfl) (Wt.none rfl) rfl rfl ?_
    obtain rfl := Option.some.inj h
    exact WL.nil ⟨rfl, [_, _, _, _], rfl, rfl, rfl⟩
  refine WL.q (y_move rfl) (Wt.none rfl) rfl rfl ?_
  replace h := bindS h
  obtain ⟨b91, hb91, h⟩ := h
  apply WL.grp 3 (t := 29) (d := 32) (z := b91)
  · exact rfl
  · intro hg29
    have h := condT hb91 hg29
    refine WL.skips 2 rfl ?_
    refine WL.q (y_pick_t rfl rfl) (Wt.none rfl) rfl rfl ?_
    obtain rfl := Option.some.inj h
    exact WL.nil ⟨rfl, [_, _, _], rfl, rfl, rfl⟩
  · intro hg29
    have h := condF hb91 hg29
    refine WL.q (y_loadcN rfl a26 s26 rfl) (Wt.yes rfl rfl rfl) rfl rfl ?_
    replace h := bindS h
    obtain ⟨r92, hr92, h⟩ := h
    refine WL.fn rfl rfl rfl rfl (f32_c 100 _ hr92) ⟨(Le.refl _), trivial⟩ (Wt.yes rfl rfl rfl) rfl rfl ?_
    refine WL.q (y_pick_f rfl rfl) (Wt.none rfl) rfl rfl ?_
    obtain rfl := Option.some.inj h
    exact WL.nil ⟨rfl, [_, _, _], rfl, rfl, rfl⟩
  refine WL.nil ?_
  refine we_seq ?_
  refine wc_cond rfl (fun hc1 => ?_) (fun hc1 => ?_)
  · replace h := condT h hc1
    refine wc_seq ?_
    refine wc_region ?_
    replace h := bindS h
    obtain ⟨r93, hr93, h⟩ := h
    refine WL.fn rfl rfl rfl rfl (f20_c hr93) trivial (Wt.none rfl) rfl rfl ?_
    refine WL.q (y_assign rfl) (Wt.none rfl) rfl rfl ?_
    refine WL.nil ?_
    refine we_seq ?_
    refine wc_ret ?_
    refine we_seq_ret ?_
    obtain rfl := Option.some.inj h
    exact we_ret_fn (rs1 rfl (rv_t rfl)) (Le.refl _)
  · replace h := condF h hc1
    refine wc_skip ?_
    refine we_seq ?_
    refine wc_seq ?_
    refine wc_region ?_
    refine WL.q (y_move rfl) (Wt.none rfl) rfl rfl ?_
    refine WL.q (y_conv Try.underlying5 Try.underlying3 rfl rfl) (Wt.none rfl) rfl rfl ?_
    refine WL.q (y_move rfl) (Wt.none rfl) rfl rfl ?_
    refine WL.q (y_len_map E56 s0 e37 rfl rfl (Le.refl _)) (Wt.none rfl) rfl rfl ?_
    replace h := guardBS h
    obtain ⟨hgg94, h⟩ := h
    refine WL.q (y_rem rfl rfl (nz_ne hgg94)) (Wt.none rfl) rfl rfl ?_
    refine WL.q (y_assign rfl) (Wt.none rfl) rfl rfl ?_
    refine WL.nil ?_
    refine we_seq ?_
    refine wc_seq ?_
    refine wc_seq ?_
    refine wc_region ?_
    refine WL.q (y_loadcN rfl a26 s26 rfl) (Wt.none rfl) rfl rfl ?_
    replace h := bindS h
    obtain ⟨r95, hr95, h⟩ := h
    refine WL.fn rfl rfl rfl rfl (f18_c _ hr95) ⟨(Le.refl _), trivial⟩ (Wt.none rfl) rfl rfl ?_
    refine WL.q (y_move rfl) (Wt.none rfl) rfl rfl ?_
    replace h := bindS h
    obtain ⟨r96, hr96, h⟩ := h
    refine WL.fn rfl rfl rfl rfl (f33_c _ _ hr96) ⟨(Le.refl _), (Le.refl _), trivial⟩ (Wt.none rfl) rfl rfl ?_
    refine WL.nil ?_
    refine we_seq ?_
    refine wc_cond rfl (fun hc2 => ?_) (fun hc2 => ?_)
    · replace h := condT h hc2
      refine wc_seq ?_
      refine wc_region ?_
      refine WL.q (y_loadcN rfl a26 s26 rfl) (Wt.none rfl) rfl rfl ?_
      replace h := bindS h
      obtain ⟨r97, hr97, h⟩ := h
      refine WL.fn rfl rfl rfl rfl (f19_c _ hr97) ⟨(Le.refl _), trivial⟩ (Wt.none rfl) rfl rfl ?_
      refine WL.q (y_move rfl) (Wt.none rfl) rfl rfl ?_
      replace h := bindS h
      obtain ⟨r98, hr98, h⟩ := h
      refine WL.fn rfl rfl rfl rfl (f33_c _ _ hr98) ⟨(Le.refl _), (Le.refl _), trivial⟩ (Wt.none rfl) rfl rfl ?_
      refine WL.q (y_move rfl) (Wt.none rfl) rfl rfl ?_
      replace h := bindS h
      obtain ⟨b99, hb99, h⟩ := h
      apply WL.grp 2 (t := 47) (d := 49) (z := b99)
      · exact rfl
      · intro hg47
        have h := condT hb99 hg47
        replace h := bindS h
        obtain ⟨r100, hr100, h⟩ := h
        refine WL.fn rfl rfl rfl rfl (f20_c hr100) trivial (Wt.yes rfl rfl rfl) rfl rfl ?_
        refine WL.q (y_pick_t rfl rfl) (Wt.none rfl) rfl rfl ?_
        obtain rfl := Option.some.inj h
        exact WL.nil ⟨rfl, [_, _], rfl, rfl, rfl⟩
      · intro hg47
        have h := condF hb99 hg47
        refine WL.skips 1 rfl ?_
        refine WL.q (y_pick_f rfl rfl) (Wt.none rfl) rfl rfl ?_
        obtain rfl := Option.some.inj h
        exact WL.nil ⟨rfl, [_, _], rfl, rfl, rfl⟩
      refine WL.q (y_assign rfl) (Wt.none rfl) rfl rfl ?_
      refine WL.nil ?_
      refine we_seq ?_
      refine wc_ret ?_
      refine we_seq_ret ?_
      obtain rfl := Option.some.inj h
      exact we_ret_fn (rs1 rfl (rv_t rfl)) (Le.refl _)
    · replace h := condF h hc2
      refine wc_skip ?_
      refine we_seq ?_
      refine wc_seq ?_
      refine wc_region ?_
      refine WL.q (y_move rfl) (Wt.none rfl) rfl rfl ?_
      refine WL.q (y_build p52 z52 rfl rfl) (Wt.none rfl) rfl rfl ?_
      replace h := bindS h
      obtain ⟨r101, hr101, h⟩ := h
      refine Gh.wl (gh_push_os 56 1) ?_
      refine WL.wina [0] rfl rfl rfl rfl (f34o_c _ _ _ hr101) ⟨(Le.refl _), (Le.agd ⟨(Le.refl _), (Le.refl _), trivial⟩), (Le.refl _), trivial⟩ rfl (by decide) rfl ⟨rfl, trivial⟩ rfl rfl (fun _ => (stLt_cons (lt_os _ _ _ _ _ _) rfl)) (fun _ => (cons_eq (ren_os _ _ _ _ _ _) rfl)) (fun _ => rfl) (fun _ => rfl) (Wt.none rfl) rfl rfl (fun ver102 => ?_)
      refine WL.q (y_assign rfl) (Wt.none rfl) rfl rfl ?_
      refine WL.nil ?_
      refine we_seq ?_
      refine wc_seq ?_
      refine wc_region ?_
      refine WL.q (y_move rfl) (Wt.none rfl) rfl rfl ?_
      refine WL.q (y_move rfl) (Wt.none rfl) rfl rfl ?_
      refine WL.q (y_move rfl) (Wt.none rfl) rfl rfl ?_
      replace h := bindS h
      obtain ⟨x103, hx103, h⟩ := h
      refine WL.q (y_pe e37 rfl rfl rfl hx103) (Wt.none rfl) rfl rfl ?_
      refine WL.s0 (d_store_peL (R := E56) (k := 1) (i := (Int.tmod (IntKind.i64.wrap o3) (List.length s0 : Int))) (fo := 0) l4 rfl rfl rfl rfl (Le.refl _) rfl rfl rfl s56 rfl (fun _ => rfl) hx103 rfl rfl) (Wt.none rfl) rfl ?_
      refine WL.nil ?_
      refine we_seq ?_
      refine wc_seq ?_
      refine wc_region ?_
      refine WL.q (y_move rfl) (Wt.none rfl) rfl rfl ?_
      refine WL.q (y_move rfl) (Wt.none rfl) rfl rfl ?_
      refine WL.q (y_loadcN rfl a26 s26 rfl) (Wt.none rfl) rfl rfl ?_
      replace h := bindS h
      obtain ⟨r104, hr104, h⟩ := h
      refine WL.fn rfl rfl rfl rfl (f21_c _ _ _ hr104) ⟨(Le.refl _), (Le.refl _), (Le.refl _), trivial⟩ (Wt.none rfl) rfl rfl ?_
      refine WL.q (y_move rfl) (Wt.none rfl) rfl rfl ?_
      refine WL.q (y_extractd rfl rfl) (Wt.none rfl) rfl rfl ?_
      refine WL.q (y_extractd rfl rfl) (Wt.none rfl) rfl rfl ?_
      refine WL.q (y_assign rfl) (Wt.none rfl) rfl rfl ?_
      refine WL.q (y_assign rfl) (Wt.none rfl) rfl rfl ?_
      refine WL.nil ?_
      refine we_seq ?_
      refine wc_seq ?_
      refine wc_region ?_
      refine WL.q (y_move rfl) (Wt.none rfl) rfl rfl ?_
      refine WL.q (y_move rfl) (Wt.none rfl) rfl rfl ?_
      refine WL.q (y_loadcN rfl a26 s26 rfl) (Wt.none rfl) rfl rfl ?_
      refine WL.freezeX [52, 12, 53, 65] [] 0 (List.map E56 (List.set r101 (Int.toNat (Int.tmod (IntKind.i64.wrap o3) (List.length s0 : Int))) l4)) rfl (encA_map E56_eq (List.set r101 (Int.toNat (Int.tmod (IntKind.i64.wrap o3) (List.length s0 : Int))) l4)) ⟨rfl, rfl, rfl, rfl, trivial⟩ trivial ?_
      replace h := bindS h
      obtain ⟨r105, hr105, h⟩ := h
      refine WL.fn rfl rfl rfl rfl (f21_c _ _ _ hr105) ⟨(Le.refl _), (Le.refl _), (Le.refl _), trivial⟩ (Wt.none rfl) rfl rfl ?_
      refine WL.q (y_move rfl) (Wt.none rfl) rfl rfl ?_
      refine WL.q (y_extractd rfl rfl) (Wt.none rfl) rfl rfl ?_
      refine WL.q (y_extractd rfl rfl) (Wt.none rfl) rfl rfl ?_
      refine WL.q (y_assign rfl) (Wt.none rfl) rfl rfl ?_
      refine WL.q (y_assign rfl) (Wt.none rfl) rfl rfl ?_
      refine WL.nil ?_
      refine we_seq ?_
      refine wc_seq ?_
      refine wc_region ?_
      refine WL.q (y_move rfl) (Wt.none rfl) rfl rfl ?_
      refine WL.q (y_move rfl) (Wt.none rfl) rfl rfl ?_
      refine WL.q (y_eql rfl rfl) (Wt.none rfl) rfl rfl ?_
      refine WL.q (y_move rfl) (Wt.none rfl) rfl rfl ?_
      apply WL.and 4 (t := 74) (d := 78)
      · exact rfl
      · intro hg74
        refine WL.q (y_move rfl) (Wt.yes rfl rfl rfl) rfl rfl ?_
        refine WL.q (y_move rfl) (Wt.yes rfl rfl rfl) rfl rfl ?_
        refine WL.q (y_eqb Try.underlying4 rfl rfl) (Wt.yes rfl rfl rfl) rfl rfl ?_
        refine WL.q (y_pick_t rfl rfl) (Wt.none rfl) rfl rfl ?_
        exact WL.nil ⟨rfl, [_, _, _, _], rfl, rfl, rfl⟩
      · refine WL.skips 3 rfl ?_
        refine WL.q (y_pick_f rfl rfl) (Wt.none rfl) rfl rfl ?_
        exact WL.nil ⟨rfl, [_, _, _, _], rfl, rfl, rfl⟩
      refine WL.q (y_move rfl) (Wt.none rfl) rfl rfl ?_
      replace h := bindS h
      obtain ⟨b106, hb106, h⟩ := h
      apply WL.grp 2 (t := 79) (d := 81) (z := b106)
      · exact rfl
      · intro hg79
        have h := condT hb106 hg79
        replace h := bindS h
        obtain ⟨r107, hr107, h⟩ := h
        refine WL.fn rfl rfl rfl rfl (f20_c hr107) trivial (Wt.yes rfl rfl rfl) rfl rfl ?_
        refine WL.q (y_pick_t rfl rfl) (Wt.none rfl) rfl rfl ?_
        obtain rfl := Option.some.inj h
        exact WL.nil ⟨rfl, [_, _], rfl, rfl, rfl⟩
      · intro hg79
        have h := condF hb106 hg79
        refine WL.skips 1 rfl ?_
        refine WL.q (y_pick_f rfl rfl) (Wt.none rfl) rfl rfl ?_
        obtain rfl := Option.some.inj h
        exact WL.nil ⟨rfl, [_, _], rfl, rfl, rfl⟩
      refine WL.q (y_assign rfl) (Wt.none rfl) rfl rfl ?_
      refine WL.nil ?_
      refine we_seq ?_
      refine wc_ret ?_
      obtain rfl := Option.some.inj h
      exact we_ret_fn (rs1 rfl (rv_t rfl)) (Le.refl _)
end Go.Proofs.Ytjjgmpmhfodmeaa
