/- The walks of functions that this law reaches. -/
import Derived.Test.YteafckpdbmncfaaDoorWpb
import Derived.Test.YteafckpdbmncfaaDoorWr
set_option maxHeartbeats 4000000
set_option maxRecDepth 100000
namespace Go.Proofs.YteafckpdbmncfaaDoor
open Go Go.Sk

theorem f10_c (t0 : Table) {r : Table} (h : f10 t0 = some r) : Pu Tryd.prog 10 [.ag (R28 t0)] (.ag (R28 r)) := by
 unfold f10 at h
 refine fn_intro Tryd.func10 (by kernel_rfl) rfl rfl rfl (fun φφ ww => ?_)
 refine wc_sr ?_
 refine WL.s ((b_boxd rfl rfl (Les.refl _)).does) (Wt.none rfl) rfl rfl ?_
 refine WL.s ((b_alloc z28).does) (Wt.none rfl) rfl rfl ?_
 refine WL.ns ?_
 refine wc_seq ?_
 refine Gh.wc gh_rsv ?_
 refine Gh.wc gh_rsv ?_
 replace h := guardBS h
 obtain ⟨hgg72, h⟩ := h
 replace h := guardBS h
 obtain ⟨hgg73, h⟩ := h
 replace h := guardBS h
 obtain ⟨hgg74, h⟩ := h
 apply wc_region_set [_, _, _, _, _, _, _, _, _, _, _, _, _, _, _, _, _, _, .u] [[], [], [1], [], [3], [3, 4], [3, 4, 5], [1, 2, 3, 4, 5, 6], [0, 1, 2, 3, 4, 5, 6, 7], [], [9], [], [11], [11, 12], [11, 12, 13], [9, 10, 11, 12, 13, 14], [0, 1, 2, 3, 4, 5, 6, 7, 8, 9, 10, 11, 12, 13, 14, 15], [], [0, 1, 2, 3, 4, 5, 6, 7, 8, 9, 10, 11, 12, 13, 14, 15, 16, 17]] [0, 8, 17, 18] (tblB [([false, false, false, false], [.row 28 [.d (.v (.slice none 0 0)), .d (.v (.slice none 0 0)), .d (.v (SlV.v (SlV.mk none 0 0))), .d (.v (SlV.v (SlV.mk none 0 0))), .d (.v (SlV.v (SlV.mk none 0 0)))], .rsv, .rsv]), ([false, false, true, false], [.row 28 [.d (.v (.slice none 0 0)), .d (.v (.slice none 0 0)), .d (.v (SlV.v (SlV.mk none 0 0))), .d (.v (SlV.v (SlV.mk none 0 0))), .d (.v (SlV.v (SlV.mk none 0 0)))], .rsv, .row 28 [.d (.v (.slice none 0 0)), .d (.v (.slice none 0 0)), .d (.v (SlV.v (SlV.mk none 0 0))), .d (.v (SlV.v (SlV.mk none 0 0))), .d (.v (SlV.v (SlV.mk none 0 0)))]]), ([true, false, false, false], [.row 28 [.d (.v (.slice none 0 0)), .d (.v (.slice none 0 0)), .d (.v (SlV.v (SlV.mk none 0 0))), .d (.v (SlV.v (SlV.mk none 0 0))), .d (.v (SlV.v (SlV.mk none 0 0)))], .os 54 18 0 (List.map (encA R54) ([] : List Ty)), .rsv]), ([true, false, true, false], [.row 28 [.d (.v (.slice none 0 0)), .d (.v (.slice none 0 0)), .d (.v (SlV.v (SlV.mk none 0 0))), .d (.v (SlV.v (SlV.mk none 0 0))), .d (.v (SlV.v (SlV.mk none 0 0)))], .os 54 18 0 (List.map (encA R54) ([] : List Ty)), .row 28 [.d (.v (.slice none 0 0)), .d (.v (.slice none 0 0)), .d (.v (SlV.v (SlV.mk none 0 0))), .d (.v (SlV.v (SlV.mk none 0 0))), .d (.v (SlV.v (SlV.mk none 0 0)))]]), ([true, true, false, false], [.row 28 [.d (.v (.slice none 0 0)), .d (.v (.slice none 0 0)), .d (.v (SlV.v (SlV.mk none 0 0))), .d (.v (SlV.v (SlV.mk none 0 0))), .d (.v (SlV.v (SlV.mk none 0 0)))], .os 54 18 1 (List.map (encA R54) (([] : List Ty) ++ (sliceF t0.types 0 (if 40 < (List.length t0.types : Int) then 40 else (List.length t0.types : Int))))), .rsv]), ([true, true, true, false], [.row 28 [.d (.v (.slice none 0 0)), .d (.v (.slice none 0 0)), .d (.v (SlV.v (SlV.mk none 0 0))), .d (.v (SlV.v (SlV.mk none 0 0))), .d (.v (SlV.v (SlV.mk none 0 0)))], .os 54 18 1 (List.map (encA R54) (([] : List Ty) ++ (sliceF t0.types 0 (if 40 < (List.length t0.types : Int) then 40 else (List.length t0.types : Int))))), .row 28 [.d (.v (.slice none 0 0)), .d (.v (.slice none 0 0)), .d (.v (SlV.v (SlV.mk none 0 0))), .d (.v (SlV.v (SlV.mk none 0 0))), .d (.v (SlV.v (SlV.mk none 0 0)))]]), ([true, true, true, true], [.row 28 [.d (.v (.slice none 0 0)), .d (.v (.slice none 0 0)), .d (.v (SlV.v (SlV.mk none 0 0))), .d (.v (SlV.v (SlV.mk none 0 0))), .d (.v (SlV.v (SlV.mk none 0 0)))], .os 54 18 1 (List.map (encA R54) (([] : List Ty) ++ (sliceF t0.types 0 (if 40 < (List.length t0.types : Int) then 40 else (List.length t0.types : Int))))), .row 28 [.os 1 1, .d (.sl (List.map E40 (sliceF t0.subs 0 (if 60 < (List.length t0.subs : Int) then 60 else (List.length t0.subs : Int))))), .d (.v (SlV.v (SlV.mk none 0 0))), .d (.v (SlV.v (SlV.mk none 0 0))), .d (.v (SlV.v (SlV.mk none 0 0)))]])]) [([], [], [[false, false, false, false], [false, false, true, false]]), ([], [1], [[false, false, false, false], [false, false, true, false], [true, false, false, false], [true, false, true, false]]), ([1], [], [[false, false, false, false], [false, false, true, false], [true, false, false, false], [true, false, true, false]]), ([], [1], [[false, false, false, false], [false, false, true, false], [true, false, false, false], [true, false, true, false]]), ([3], [], [[false, false, false, false], [false, false, true, false], [true, false, false, false], [true, false, true, false]]), ([4], [], [[false, false, false, false], [false, false, true, false], [true, false, false, false], [true, false, true, false]]), ([5], [], [[false, false, false, false], [false, false, true, false], [true, false, false, false], [true, false, true, false]]), ([2, 6], [], [[false, false, false, false], [false, false, true, false], [true, false, false, false], [true, false, true, false]]), ([0, 7], [], [[true, false, false, false], [true, false, true, false]]), ([], [1], [[false, false, false, false], [false, false, true, false], [true, false, false, false], [true, false, true, false], [true, true, false, false], [true, true, true, false]]), ([9], [], [[false, false, false, false], [false, false, true, false], [true, false, false, false], [true, false, true, false], [true, true, false, false], [true, true, true, false]]), ([], [1], [[false, false, false, false], [false, false, true, false], [true, false, false, false], [true, false, true, false], [true, true, false, false], [true, true, true, false]]), ([11], [], [[false, false, false, false], [false, false, true, false], [true, false, false, false], [true, false, true, false], [true, true, false, false], [true, true, true, false]]), ([12], [], [[false, false, false, false], [false, false, true, false], [true, false, false, false], [true, false, true, false], [true, true, false, false], [true, true, true, false]]), ([13], [], [[false, false, false, false], [false, false, true, false], [true, false, false, false], [true, false, true, false], [true, true, false, false], [true, true, true, false]]), ([10, 14], [], [[false, false, false, false], [false, false, true, false], [true, false, false, false], [true, false, true, false], [true, true, false, false], [true, true, true, false]]), ([8, 15], [], [[true, true, false, false], [true, true, true, false]]), ([], [], [[false, false, false, false], [true, false, false, false], [true, true, false, false]]), ([17, 16], [], [[true, true, true, false]])] (by kernel_rfl) (by kernel_rfl) rfl rfl rfl
 ·refine ⟨?_, ?_, ?_, ?_, ?_, ?_, ?_, ?_, ?_, ?_, ?_, ?_, ?_, ?_, ?_, ?_, ?_, ?_, ?_, trivial⟩
  ·refine ⟨fun F => ?_, fun F => ?_, trivial⟩
   ·refine WL.s ((((n_buildNone l22).b).fill 1 rfl (by repeat' (first | exact rfl | exact lt_os _ _ _ _ _ _ | exact lt_mp _ _ _ _ | refine stLt_cons ?_ ?_)) (.inr (.inl ⟨_, rfl, rfl⟩))).does) (Wt.none rfl) rfl rfl ?_
    exact WL.done1 rfl rfl rfl
   ·refine WL.s ((((n_buildNone l22).b).fill 1 rfl (by repeat' (first | exact rfl | exact lt_os _ _ _ _ _ _ | exact lt_mp _ _ _ _ | refine stLt_cons ?_ ?_)) (.inr (.inl ⟨_, rfl, rfl⟩))).does) (Wt.none rfl) rfl rfl ?_
    exact WL.done1 rfl rfl rfl
  ·refine ⟨fun F => ?_, fun F => ?_, fun F => ?_, fun F => ?_, trivial⟩
   ·refine WL.qn (y_fieldAddrc f28_0 rfl) rfl ?_
    exact WL.done1 rfl rfl rfl
   ·refine WL.qn (y_fieldAddrc f28_0 rfl) rfl ?_
    exact WL.done1 rfl rfl rfl
   ·refine WL.qn (y_fieldAddrc f28_0 rfl) rfl ?_
    exact WL.done1 rfl rfl rfl
   ·refine WL.qn (y_fieldAddrc f28_0 rfl) rfl ?_
    exact WL.done1 rfl rfl rfl
  ·refine ⟨fun F => ?_, fun F => ?_, fun F => ?_, fun F => ?_, trivial⟩
   ·refine WL.qn (y_loadc rfl a22 rfl) rfl ?_
    exact WL.done1 rfl rfl rfl
   ·refine WL.qn (y_loadc rfl a22 rfl) rfl ?_
    exact WL.done1 rfl rfl rfl
   ·refine WL.qn (y_loadc rfl a22 rfl) rfl ?_
    exact WL.done1 rfl rfl rfl
   ·refine WL.qn (y_loadc rfl a22 rfl) rfl ?_
    exact WL.done1 rfl rfl rfl
  ·refine ⟨fun F => ?_, fun F => ?_, fun F => ?_, fun F => ?_, trivial⟩
   ·refine WL.qn (y_fieldAddrc f28_0 rfl) rfl ?_
    exact WL.done1 rfl rfl rfl
   ·refine WL.qn (y_fieldAddrc f28_0 rfl) rfl ?_
    exact WL.done1 rfl rfl rfl
   ·refine WL.qn (y_fieldAddrc f28_0 rfl) rfl ?_
    exact WL.done1 rfl rfl rfl
   ·refine WL.qn (y_fieldAddrc f28_0 rfl) rfl ?_
    exact WL.done1 rfl rfl rfl
  ·refine ⟨fun F => ?_, fun F => ?_, fun F => ?_, fun F => ?_, trivial⟩
   ·refine WL.qn (y_loadc rfl a22 rfl) rfl ?_
    exact WL.done1 rfl rfl rfl
   ·refine WL.qn (y_loadc rfl a22 rfl) rfl ?_
    exact WL.done1 rfl rfl rfl
   ·refine WL.qn (y_loadc rfl a22 rfl) rfl ?_
    exact WL.done1 rfl rfl rfl
   ·refine WL.qn (y_loadc rfl a22 rfl) rfl ?_
    exact WL.done1 rfl rfl rfl
  ·refine ⟨fun F => ?_, fun F => ?_, fun F => ?_, fun F => ?_, trivial⟩
   ·refine WL.qn (y_len_map E54 t0.types e22 rfl rfl (Le.refl _)) rfl ?_
    exact WL.done1 rfl rfl rfl
   ·refine WL.qn (y_len_map E54 t0.types e22 rfl rfl (Le.refl _)) rfl ?_
    exact WL.done1 rfl rfl rfl
   ·refine WL.qn (y_len_map E54 t0.types e22 rfl rfl (Le.refl _)) rfl ?_
    exact WL.done1 rfl rfl rfl
   ·refine WL.qn (y_len_map E54 t0.types e22 rfl rfl (Le.refl _)) rfl ?_
    exact WL.done1 rfl rfl rfl
  ·refine ⟨fun F => ?_, fun F => ?_, fun F => ?_, fun F => ?_, trivial⟩
   ·refine WL.qn (y_min rfl rfl rfl) rfl ?_
    exact WL.done1 rfl rfl rfl
   ·refine WL.qn (y_min rfl rfl rfl) rfl ?_
    exact WL.done1 rfl rfl rfl
   ·refine WL.qn (y_min rfl rfl rfl) rfl ?_
    exact WL.done1 rfl rfl rfl
   ·refine WL.qn (y_min rfl rfl rfl) rfl ?_
    exact WL.done1 rfl rfl rfl
  ·refine ⟨fun F => ?_, fun F => ?_, fun F => ?_, fun F => ?_, trivial⟩
   ·refine WL.qn (y_sliceL E54 t0.types (l := 0) (h := (if 40 < (List.length t0.types : Int) then 40 else (List.length t0.types : Int))) e22 rfl (Le.refl _) rfl ⟨_, rfl⟩ hgg72 (fun _ => rfl)) rfl ?_
    exact WL.done1 rfl rfl rfl
   ·refine WL.qn (y_sliceL E54 t0.types (l := 0) (h := (if 40 < (List.length t0.types : Int) then 40 else (List.length t0.types : Int))) e22 rfl (Le.refl _) rfl ⟨_, rfl⟩ hgg72 (fun _ => rfl)) rfl ?_
    exact WL.done1 rfl rfl rfl
   ·refine WL.qn (y_sliceL E54 t0.types (l := 0) (h := (if 40 < (List.length t0.types : Int) then 40 else (List.length t0.types : Int))) e22 rfl (Le.refl _) rfl ⟨_, rfl⟩ hgg72 (fun _ => rfl)) rfl ?_
    exact WL.done1 rfl rfl rfl
   ·refine WL.qn (y_sliceL E54 t0.types (l := 0) (h := (if 40 < (List.length t0.types : Int) then 40 else (List.length t0.types : Int))) e22 rfl (Le.refl _) rfl ⟨_, rfl⟩ hgg72 (fun _ => rfl)) rfl ?_
    exact WL.done1 rfl rfl rfl
  ·refine ⟨fun F => ?_, fun F => ?_, trivial⟩
   ·refine WL.s (d_appendL R54 ([] : List Ty) (sliceF t0.types 0 (if 40 < (List.length t0.types : Int) then 40 else (List.length t0.types : Int))) l22 z54 rfl (by decide) rfl rfl rfl rfl (Src.dataL (Le.refl _) E54_eq (fun _ => rfl)) (fun _ => rfl) (fun _ => rfl) hgg73) (Wt.none rfl) rfl rfl ?_
    exact WL.done1 rfl rfl rfl
   ·refine WL.s (d_appendL R54 ([] : List Ty) (sliceF t0.types 0 (if 40 < (List.length t0.types : Int) then 40 else (List.length t0.types : Int))) l22 z54 rfl (by decide) rfl rfl rfl rfl (Src.dataL (Le.refl _) E54_eq (fun _ => rfl)) (fun _ => rfl) (fun _ => rfl) hgg73) (Wt.none rfl) rfl rfl ?_
    exact WL.done1 rfl rfl rfl
  ·refine ⟨fun F => ?_, fun F => ?_, fun F => ?_, fun F => ?_, fun F => ?_, fun F => ?_, trivial⟩
   ·refine WL.qn (y_fieldAddrc f28_1 rfl) rfl ?_
    exact WL.done1 rfl rfl rfl
   ·refine WL.qn (y_fieldAddrc f28_1 rfl) rfl ?_
    exact WL.done1 rfl rfl rfl
   ·refine WL.qn (y_fieldAddrc f28_1 rfl) rfl ?_
    exact WL.done1 rfl rfl rfl
   ·refine WL.qn (y_fieldAddrc f28_1 rfl) rfl ?_
    exact WL.done1 rfl rfl rfl
   ·refine WL.qn (y_fieldAddrc f28_1 rfl) rfl ?_
    exact WL.done1 rfl rfl rfl
   ·refine WL.qn (y_fieldAddrc f28_1 rfl) rfl ?_
    exact WL.done1 rfl rfl rfl
  ·refine ⟨fun F => ?_, fun F => ?_, fun F => ?_, fun F => ?_, fun F => ?_, fun F => ?_, trivial⟩
   ·refine WL.qn (y_loadc rfl a23 rfl) rfl ?_
    exact WL.done1 rfl rfl rfl
   ·refine WL.qn (y_loadc rfl a23 rfl) rfl ?_
    exact WL.done1 rfl rfl rfl
   ·refine WL.qn (y_loadc rfl a23 rfl) rfl ?_
    exact WL.done1 rfl rfl rfl
   ·refine WL.qn (y_loadc rfl a23 rfl) rfl ?_
    exact WL.done1 rfl rfl rfl
   ·refine WL.qn (y_loadc rfl a23 rfl) rfl ?_
    exact WL.done1 rfl rfl rfl
   ·refine WL.qn (y_loadc rfl a23 rfl) rfl ?_
    exact WL.done1 rfl rfl rfl
  ·refine ⟨fun F => ?_, fun F => ?_, fun F => ?_, fun F => ?_, fun F => ?_, fun F => ?_, trivial⟩
   ·refine WL.qn (y_fieldAddrc f28_1 rfl) rfl ?_
    exact WL.done1 rfl rfl rfl
   ·refine WL.qn (y_fieldAddrc f28_1 rfl) rfl ?_
    exact WL.done1 rfl rfl rfl
   ·refine WL.qn (y_fieldAddrc f28_1 rfl) rfl ?_
    exact WL.done1 rfl rfl rfl
   ·refine WL.qn (y_fieldAddrc f28_1 rfl) rfl ?_
    exact WL.done1 rfl rfl rfl
   ·refine WL.qn (y_fieldAddrc f28_1 rfl) rfl ?_
    exact WL.done1 rfl rfl rfl
   ·refine WL.qn (y_fieldAddrc f28_1 rfl) rfl ?_
    exact WL.done1 rfl rfl rfl
  ·refine ⟨fun F => ?_, fun F => ?_, fun F => ?_, fun F => ?_, fun F => ?_, fun F => ?_, trivial⟩
   ·refine WL.qn (y_loadc rfl a23 rfl) rfl ?_
    exact WL.done1 rfl rfl rfl
   ·refine WL.qn (y_loadc rfl a23 rfl) rfl ?_
    exact WL.done1 rfl rfl rfl
   ·refine WL.qn (y_loadc rfl a23 rfl) rfl ?_
    exact WL.done1 rfl rfl rfl
   ·refine WL.qn (y_loadc rfl a23 rfl) rfl ?_
    exact WL.done1 rfl rfl rfl
   ·refine WL.qn (y_loadc rfl a23 rfl) rfl ?_
    exact WL.done1 rfl rfl rfl
   ·refine WL.qn (y_loadc rfl a23 rfl) rfl ?_
    exact WL.done1 rfl rfl rfl
  ·refine ⟨fun F => ?_, fun F => ?_, fun F => ?_, fun F => ?_, fun F => ?_, fun F => ?_, trivial⟩
   ·refine WL.qn (y_len_map E40 t0.subs e23 rfl rfl (Le.refl _)) rfl ?_
    exact WL.done1 rfl rfl rfl
   ·refine WL.qn (y_len_map E40 t0.subs e23 rfl rfl (Le.refl _)) rfl ?_
    exact WL.done1 rfl rfl rfl
   ·refine WL.qn (y_len_map E40 t0.subs e23 rfl rfl (Le.refl _)) rfl ?_
    exact WL.done1 rfl rfl rfl
   ·refine WL.qn (y_len_map E40 t0.subs e23 rfl rfl (Le.refl _)) rfl ?_
    exact WL.done1 rfl rfl rfl
   ·refine WL.qn (y_len_map E40 t0.subs e23 rfl rfl (Le.refl _)) rfl ?_
    exact WL.done1 rfl rfl rfl
   ·refine WL.qn (y_len_map E40 t0.subs e23 rfl rfl (Le.refl _)) rfl ?_
    exact WL.done1 rfl rfl rfl
  ·refine ⟨fun F => ?_, fun F => ?_, fun F => ?_, fun F => ?_, fun F => ?_, fun F => ?_, trivial⟩
   ·refine WL.qn (y_min rfl rfl rfl) rfl ?_
    exact WL.done1 rfl rfl rfl
   ·refine WL.qn (y_min rfl rfl rfl) rfl ?_
    exact WL.done1 rfl rfl rfl
   ·refine WL.qn (y_min rfl rfl rfl) rfl ?_
    exact WL.done1 rfl rfl rfl
   ·refine WL.qn (y_min rfl rfl rfl) rfl ?_
    exact WL.done1 rfl rfl rfl
   ·refine WL.qn (y_min rfl rfl rfl) rfl ?_
    exact WL.done1 rfl rfl rfl
   ·refine WL.qn (y_min rfl rfl rfl) rfl ?_
    exact WL.done1 rfl rfl rfl
  ·refine ⟨fun F => ?_, fun F => ?_, fun F => ?_, fun F => ?_, fun F => ?_, fun F => ?_, trivial⟩
   ·refine WL.qn (y_sliceL E40 t0.subs (l := 0) (h := (if 60 < (List.length t0.subs : Int) then 60 else (List.length t0.subs : Int))) e23 rfl (Le.refl _) rfl ⟨_, rfl⟩ hgg74 (fun _ => rfl)) rfl ?_
    exact WL.done1 rfl rfl rfl
   ·refine WL.qn (y_sliceL E40 t0.subs (l := 0) (h := (if 60 < (List.length t0.subs : Int) then 60 else (List.length t0.subs : Int))) e23 rfl (Le.refl _) rfl ⟨_, rfl⟩ hgg74 (fun _ => rfl)) rfl ?_
    exact WL.done1 rfl rfl rfl
   ·refine WL.qn (y_sliceL E40 t0.subs (l := 0) (h := (if 60 < (List.length t0.subs : Int) then 60 else (List.length t0.subs : Int))) e23 rfl (Le.refl _) rfl ⟨_, rfl⟩ hgg74 (fun _ => rfl)) rfl ?_
    exact WL.done1 rfl rfl rfl
   ·refine WL.qn (y_sliceL E40 t0.subs (l := 0) (h := (if 60 < (List.length t0.subs : Int) then 60 else (List.length t0.subs : Int))) e23 rfl (Le.refl _) rfl ⟨_, rfl⟩ hgg74 (fun _ => rfl)) rfl ?_
    exact WL.done1 rfl rfl rfl
   ·refine WL.qn (y_sliceL E40 t0.subs (l := 0) (h := (if 60 < (List.length t0.subs : Int) then 60 else (List.length t0.subs : Int))) e23 rfl (Le.refl _) rfl ⟨_, rfl⟩ hgg74 (fun _ => rfl)) rfl ?_
    exact WL.done1 rfl rfl rfl
   ·refine WL.qn (y_sliceL E40 t0.subs (l := 0) (h := (if 60 < (List.length t0.subs : Int) then 60 else (List.length t0.subs : Int))) e23 rfl (Le.refl _) rfl ⟨_, rfl⟩ hgg74 (fun _ => rfl)) rfl ?_
    exact WL.done1 rfl rfl rfl
  ·refine ⟨fun F => ?_, fun F => ?_, trivial⟩
   ·refine WL.qn (y_buildS p28 z28 rfl rfl) rfl ?_
    exact WL.done1 rfl rfl rfl
   ·refine WL.qn (y_buildS p28 z28 rfl rfl) rfl ?_
    exact WL.done1 rfl rfl rfl
  ·refine ⟨fun F => ?_, fun F => ?_, fun F => ?_, trivial⟩
   ·refine WL.s (((b_alloc z28).fill 2 rfl (by repeat' (first | exact rfl | exact lt_os _ _ _ _ _ _ | exact lt_mp _ _ _ _ | refine stLt_cons ?_ ?_)) (.inl ⟨_, rfl, rfl⟩)).does) (Wt.none rfl) rfl rfl ?_
    exact WL.done1 rfl rfl rfl
   ·refine WL.s (((b_alloc z28).fill 2 rfl (by repeat' (first | exact rfl | exact lt_os _ _ _ _ _ _ | exact lt_mp _ _ _ _ | refine stLt_cons ?_ ?_)) (.inl ⟨_, rfl, rfl⟩)).does) (Wt.none rfl) rfl rfl ?_
    exact WL.done1 rfl rfl rfl
   ·refine WL.s (((b_alloc z28).fill 2 rfl (by repeat' (first | exact rfl | exact lt_os _ _ _ _ _ _ | exact lt_mp _ _ _ _ | refine stLt_cons ?_ ?_)) (.inl ⟨_, rfl, rfl⟩)).does) (Wt.none rfl) rfl rfl ?_
    exact WL.done1 rfl rfl rfl
  ·refine ⟨fun F => ?_, trivial⟩
   refine WL.s0 (d_storeS rfl rfl rfl rfl rfl rfl s28 rfl rfl) (Wt.none rfl) rfl ?_
   exact WL.done0 rfl rfl
 ·refine we_seq ?_
  replace h := letkS h
  obtain ⟨k77, hk77, h⟩ := h
  refine wc_cut (fun env' st' => ∃ (l75 : List Ty), ∃ (ver76 : Nat), k77 l75 = some r ∧ Sub [(2, .pt 0 0), (3, .pt 2 0)] env' ∧ SLe st' [.row 28 [.d (.v (.slice none 0 0)), .d (.v (.slice none 0 0)), .d (.v (SlV.v (SlV.mk none 0 0))), .d (.v (SlV.v (SlV.mk none 0 0))), .d (.v (SlV.v (SlV.mk none 0 0)))], .os 54 18 ver76 (List.map (encA R54) l75), .row 28 [.os 1 ver76, .d (.sl (List.map E40 (sliceF t0.subs 0 (if 60 < (List.length t0.subs : Int) then 60 else (List.length t0.subs : Int))))), .d (.v (SlV.v (SlV.mk none 0 0))), .d (.v (SlV.v (SlV.mk none 0 0))), .d (.v (SlV.v (SlV.mk none 0 0)))]]) ?_ ?_
  ·refine wc_sr ?_
   refine WL.qn (y_fieldAddr f28_0 rfl) rfl ?_
   refine WL.qn (y_load rfl rfl a22 rfl) rfl ?_
   refine WL.qn (y_len_osmap (encA R54) (([] : List Ty) ++ (sliceF t0.types 0 (if 40 < (List.length t0.types : Int) then 40 else (List.length t0.types : Int)))) e22 rfl rfl rfl) rfl ?_
   refine WL.mv rfl rfl ?_
   refine WL.ns ?_
   refine wc_block ?_
   refine wc_loop (fun n env' st' => ∃ (t81 : Int), ∃ (l82 : List Ty), ∃ (ver83 : Nat), f10_l1 t0 k77 n t81 l82 = some r ∧ Sub [(2, .pt 0 0), (3, .pt 2 0), (24, .d (D.i .i64 (List.length (([] : List Ty) ++ (sliceF t0.types 0 (if 40 < (List.length t0.types : Int) then 40 else (List.length t0.types : Int)))) : Int))), (25, .d (D.i .i64 t81))] env' ∧ SLe st' [.row 28 [.d (.v (.slice none 0 0)), .d (.v (.slice none 0 0)), .d (.v (SlV.v (SlV.mk none 0 0))), .d (.v (SlV.v (SlV.mk none 0 0))), .d (.v (SlV.v (SlV.mk none 0 0)))], .os 54 18 ver83 (List.map (encA R54) l82), .row 28 [.os 1 ver83, .d (.sl (List.map E40 (sliceF t0.subs 0 (if 60 < (List.length t0.subs : Int) then 60 else (List.length t0.subs : Int))))), .d (.v (SlV.v (SlV.mk none 0 0))), .d (.v (SlV.v (SlV.mk none 0 0))), .d (.v (SlV.v (SlV.mk none 0 0)))]]) (fun n => n) (Int.toNat ((List.length (([] : List Ty) ++ (sliceF t0.types 0 (if 40 < (List.length t0.types : Int) then 40 else (List.length t0.types : Int)))) : Int) - 0) + 1) ⟨0, (([] : List Ty) ++ (sliceF t0.types 0 (if 40 < (List.length t0.types : Int) then 40 else (List.length t0.types : Int)))), _, h, (Sub.cons rfl (Le.refl _) (Sub.cons rfl (Le.refl _) (Sub.cons rfl (Le.refl _) (Sub.cons rfl (Le.refl _) (Sub.nil _))))), ⟨⟨rfl, ⟨(Le.refl _), (Le.refl _), (Le.refl _), (Le.refl _), (Le.refl _), trivial⟩⟩, ⟨rfl, rfl, rfl, rfl⟩, ⟨rfl, ⟨(Le.refl _), (Le.refl _), (Le.refl _), (Le.refl _), (Le.refl _), trivial⟩⟩, trivial⟩⟩ ?_
   rintro n env1 st1 ⟨t81, l82, ver83, h, hsub, hst⟩
   cases n with
   | zero => rw [f10_l1] at h; cases h
   | succ n =>
   rw [f10_l1] at h
   refine WC.sub hsub (WC.weak hst ?_)
   refine wc_sr ?_
   refine WL.qn (y_lss rfl rfl) rfl ?_
   refine WL.ns ?_
   refine wc_seq ?_
   refine wc_cond rfl (fun hc1 => ?_) (fun hc1 => ?_)
   ·replace h := condT h hc1
    refine wc_skip ?_
    refine we_seq ?_
    refine wc_seq ?_
    refine wc_block ?_
    refine wc_sr ?_
    refine WL.mv rfl rfl ?_
    refine WL.as rfl rfl ?_
    refine WL.ns ?_
    refine wc_seq ?_
    obtain ⟨x87, hx87, h⟩ := bindS h
    obtain ⟨x88, hx88, h⟩ := bindS h
    replace h := guardBS h
    obtain ⟨hgg89, h⟩ := h
    obtain ⟨x90, hx90, h⟩ := bindS h
    apply wc_region_all [_, _, _, _, _, _, _, _, _, _, _, _, _, _, _, _, _, _, _, _, .u] [[], [0], [], [], [3], [], [3, 4, 5], [3, 4, 5, 6], [3, 4, 5, 6, 7], [], [9], [], [9, 10, 11], [9, 10, 11, 12], [9, 10, 11, 12, 13], [9, 10, 11, 12, 13, 14], [9, 10, 11, 12, 13, 14, 15], [3, 4, 5, 6, 7, 8, 9, 10, 11, 12, 13, 14, 15, 16], [0, 1, 2, 3, 4, 5, 6, 7, 8, 9, 10, 11, 12, 13, 14, 15, 16, 17], [0, 1, 2, 3, 4, 5, 6, 7, 8, 9, 10, 11, 12, 13, 14, 15, 16, 17, 18], [0, 1, 2, 3, 4, 5, 6, 7, 8, 9, 10, 11, 12, 13, 14, 15, 16, 17, 18, 19]] [20] (fun c => List.getD [[.row 28 [.d (.v (.slice none 0 0)), .d (.v (.slice none 0 0)), .d (.v (SlV.v (SlV.mk none 0 0))), .d (.v (SlV.v (SlV.mk none 0 0))), .d (.v (SlV.v (SlV.mk none 0 0)))], .os 54 18 ver83 (List.map (encA R54) l82), .row 28 [.os 1 ver83, .d (.sl (List.map E40 (sliceF t0.subs 0 (if 60 < (List.length t0.subs : Int) then 60 else (List.length t0.subs : Int))))), .d (.v (SlV.v (SlV.mk none 0 0))), .d (.v (SlV.v (SlV.mk none 0 0))), .d (.v (SlV.v (SlV.mk none 0 0)))]], [.row 28 [.d (.v (.slice none 0 0)), .d (.v (.slice none 0 0)), .d (.v (SlV.v (SlV.mk none 0 0))), .d (.v (SlV.v (SlV.mk none 0 0))), .d (.v (SlV.v (SlV.mk none 0 0)))], .os 54 18 ver83 (List.map (encA R54) (List.set l82 (Int.toNat t81) (Ty.mk x90.kind x90.name x90.parent x90.first (sliceF x87.lits 0 (if 70 < (List.length x88.lits : Int) then 70 else (List.length x88.lits : Int))) x90.index x90.elem x90.disc x90.discName x90.has x90.default_ x90.comps x90.target x90.formal x90.limited x90.priv x90.full x90.level))), .row 28 [.os 1 ver83, .d (.sl (List.map E40 (sliceF t0.subs 0 (if 60 < (List.length t0.subs : Int) then 60 else (List.length t0.subs : Int))))), .d (.v (SlV.v (SlV.mk none 0 0))), .d (.v (SlV.v (SlV.mk none 0 0))), .d (.v (SlV.v (SlV.mk none 0 0)))]]] c []) [([], [3], [0]), ([0], [], [0]), ([], [4], [0]), ([], [3], [0]), ([3], [], [0]), ([], [4], [0]), ([4, 5], [], [0]), ([6], [], [0]), ([7], [], [0]), ([], [3], [0]), ([9], [], [0]), ([], [4], [0]), ([10, 11], [], [0]), ([12], [], [0]), ([13], [], [0]), ([14], [], [0]), ([15], [], [0]), ([8, 16], [], [0]), ([1, 2], [], [0]), ([18], [], [0]), ([19, 17], [], [0])] (by kernel_rfl) (by kernel_rfl) rfl rfl rfl
    ·refine ⟨?_, ?_, ?_, ?_, ?_, ?_, ?_, ?_, ?_, ?_, ?_, ?_, ?_, ?_, ?_, ?_, ?_, ?_, ?_, ?_, ?_, trivial⟩
     ·refine ⟨fun F => ?_, trivial⟩
      refine WL.qn (y_fieldAddr f28_0 rfl) rfl ?_
      exact WL.done1 rfl rfl rfl
     ·refine ⟨fun F => ?_, trivial⟩
      refine WL.qn (y_load rfl rfl a22 rfl) rfl ?_
      exact WL.done1 rfl rfl rfl
     ·refine ⟨fun F => ?_, trivial⟩
      refine WL.mv rfl rfl ?_
      exact WL.done1 rfl rfl rfl
     ·refine ⟨fun F => ?_, trivial⟩
      refine WL.qn (y_fieldAddr f28_0 rfl) rfl ?_
      exact WL.done1 rfl rfl rfl
     ·refine ⟨fun F => ?_, trivial⟩
      refine WL.qn (y_load rfl rfl a22 rfl) rfl ?_
      exact WL.done1 rfl rfl rfl
     ·refine ⟨fun F => ?_, trivial⟩
      refine WL.mv rfl rfl ?_
      exact WL.done1 rfl rfl rfl
     ·refine ⟨fun F => ?_, trivial⟩
      refine WL.qn (y_pe e22 rfl rfl rfl hx87) rfl ?_
      exact WL.done1 rfl rfl rfl
     ·refine ⟨fun F => ?_, trivial⟩
      refine WL.qn (y_fieldAddr_pe f54_4 rfl rfl) rfl ?_
      exact WL.done1 rfl rfl rfl
     ·refine ⟨fun F => ?_, trivial⟩
      refine WL.qn (y_load_peL (fo := 4) rfl rfl rfl a50 (fun _ => rfl) hx87 rfl) rfl ?_
      exact WL.done1 rfl rfl rfl
     ·refine ⟨fun F => ?_, trivial⟩
      refine WL.qn (y_fieldAddr f28_0 rfl) rfl ?_
      exact WL.done1 rfl rfl rfl
     ·refine ⟨fun F => ?_, trivial⟩
      refine WL.qn (y_load rfl rfl a22 rfl) rfl ?_
      exact WL.done1 rfl rfl rfl
     ·refine ⟨fun F => ?_, trivial⟩
      refine WL.mv rfl rfl ?_
      exact WL.done1 rfl rfl rfl
     ·refine ⟨fun F => ?_, trivial⟩
      refine WL.qn (y_pe e22 rfl rfl rfl hx88) rfl ?_
      exact WL.done1 rfl rfl rfl
     ·refine ⟨fun F => ?_, trivial⟩
      refine WL.qn (y_fieldAddr_pe f54_4 rfl rfl) rfl ?_
      exact WL.done1 rfl rfl rfl
     ·refine ⟨fun F => ?_, trivial⟩
      refine WL.qn (y_load_peL (fo := 4) rfl rfl rfl a50 (fun _ => rfl) hx88 rfl) rfl ?_
      exact WL.done1 rfl rfl rfl
     ·refine ⟨fun F => ?_, trivial⟩
      refine WL.qn (y_len_map E9 x88.lits e50 rfl rfl (Le.refl _)) rfl ?_
      exact WL.done1 rfl rfl rfl
     ·refine ⟨fun F => ?_, trivial⟩
      refine WL.qn (y_min rfl rfl rfl) rfl ?_
      exact WL.done1 rfl rfl rfl
     ·refine ⟨fun F => ?_, trivial⟩
      refine WL.qn (y_sliceL E9 x87.lits (l := 0) (h := (if 70 < (List.length x88.lits : Int) then 70 else (List.length x88.lits : Int))) e50 rfl (Le.refl _) rfl ⟨_, rfl⟩ hgg89 (fun _ => rfl)) rfl ?_
      exact WL.done1 rfl rfl rfl
     ·refine ⟨fun F => ?_, trivial⟩
      refine WL.qn (y_pe e22 rfl rfl rfl hx90) rfl ?_
      exact WL.done1 rfl rfl rfl
     ·refine ⟨fun F => ?_, trivial⟩
      refine WL.qn (y_fieldAddr_pe f54_4 rfl rfl) rfl ?_
      exact WL.done1 rfl rfl rfl
     ·refine ⟨fun F => ?_, trivial⟩
      refine WL.s0 (d_store_peL (R := R54) (k := 18) (i := t81) (fo := 4) (Ty.mk x90.kind x90.name x90.parent x90.first (sliceF x87.lits 0 (if 70 < (List.length x88.lits : Int) then 70 else (List.length x88.lits : Int))) x90.index x90.elem x90.disc x90.discName x90.has x90.default_ x90.comps x90.target x90.formal x90.limited x90.priv x90.full x90.level) rfl rfl rfl rfl (Le.refl _) rfl rfl rfl s50 rfl (fun _ => rfl) hx90 rfl rfl) (Wt.none rfl) rfl ?_
      exact WL.done0 rfl rfl
    ·refine we_seq ?_
     obtain ⟨x91, hx91, h⟩ := bindS h
     obtain ⟨x92, hx92, h⟩ := bindS h
     replace h := guardBS h
     obtain ⟨hgg93, h⟩ := h
     obtain ⟨x94, hx94, h⟩ := bindS h
     apply wc_region_all [_, _, _, _, _, _, _, _, _, _, _, _, _, _, _, _, _, _, _, _, .u] [[], [0], [], [], [3], [], [3, 4, 5], [3, 4, 5, 6], [3, 4, 5, 6, 7], [], [9], [], [9, 10, 11], [9, 10, 11, 12], [9, 10, 11, 12, 13], [9, 10, 11, 12, 13, 14], [9, 10, 11, 12, 13, 14, 15], [3, 4, 5, 6, 7, 8, 9, 10, 11, 12, 13, 14, 15, 16], [0, 1, 2, 3, 4, 5, 6, 7, 8, 9, 10, 11, 12, 13, 14, 15, 16, 17], [0, 1, 2, 3, 4, 5, 6, 7, 8, 9, 10, 11, 12, 13, 14, 15, 16, 17, 18], [0, 1, 2, 3, 4, 5, 6, 7, 8, 9, 10, 11, 12, 13, 14, 15, 16, 17, 18, 19]] [20] (fun c => List.getD [[.row 28 [.d (.v (.slice none 0 0)), .d (.v (.slice none 0 0)), .d (.v (SlV.v (SlV.mk none 0 0))), .d (.v (SlV.v (SlV.mk none 0 0))), .d (.v (SlV.v (SlV.mk none 0 0)))], .os 54 18 ver83 (List.map (encA R54) (List.set l82 (Int.toNat t81) (Ty.mk x90.kind x90.name x90.parent x90.first (sliceF x87.lits 0 (if 70 < (List.length x88.lits : Int) then 70 else (List.length x88.lits : Int))) x90.index x90.elem x90.disc x90.discName x90.has x90.default_ x90.comps x90.target x90.formal x90.limited x90.priv x90.full x90.level))), .row 28 [.os 1 ver83, .d (.sl (List.map E40 (sliceF t0.subs 0 (if 60 < (List.length t0.subs : Int) then 60 else (List.length t0.subs : Int))))), .d (.v (SlV.v (SlV.mk none 0 0))), .d (.v (SlV.v (SlV.mk none 0 0))), .d (.v (SlV.v (SlV.mk none 0 0)))]], [.row 28 [.d (.v (.slice none 0 0)), .d (.v (.slice none 0 0)), .d (.v (SlV.v (SlV.mk none 0 0))), .d (.v (SlV.v (SlV.mk none 0 0))), .d (.v (SlV.v (SlV.mk none 0 0)))], .os 54 18 ver83 (List.map (encA R54) (List.set (List.set l82 (Int.toNat t81) (Ty.mk x90.kind x90.name x90.parent x90.first (sliceF x87.lits 0 (if 70 < (List.length x88.lits : Int) then 70 else (List.length x88.lits : Int))) x90.index x90.elem x90.disc x90.discName x90.has x90.default_ x90.comps x90.target x90.formal x90.limited x90.priv x90.full x90.level)) (Int.toNat t81) (Ty.mk x94.kind x94.name x94.parent x94.first x94.lits x94.index x94.elem x94.disc x94.discName x94.has x94.default_ (sliceF x91.comps 0 (if 20 < (List.length x92.comps : Int) then 20 else (List.length x92.comps : Int))) x94.target x94.formal x94.limited x94.priv x94.full x94.level))), .row 28 [.os 1 ver83, .d (.sl (List.map E40 (sliceF t0.subs 0 (if 60 < (List.length t0.subs : Int) then 60 else (List.length t0.subs : Int))))), .d (.v (SlV.v (SlV.mk none 0 0))), .d (.v (SlV.v (SlV.mk none 0 0))), .d (.v (SlV.v (SlV.mk none 0 0)))]]] c []) [([], [3], [0]), ([0], [], [0]), ([], [4], [0]), ([], [3], [0]), ([3], [], [0]), ([], [4], [0]), ([4, 5], [], [0]), ([6], [], [0]), ([7], [], [0]), ([], [3], [0]), ([9], [], [0]), ([], [4], [0]), ([10, 11], [], [0]), ([12], [], [0]), ([13], [], [0]), ([14], [], [0]), ([15], [], [0]), ([8, 16], [], [0]), ([1, 2], [], [0]), ([18], [], [0]), ([19, 17], [], [0])] (by kernel_rfl) (by kernel_rfl) rfl rfl rfl
     ·refine ⟨?_, ?_, ?_, ?_, ?_, ?_, ?_, ?_, ?_, ?_, ?_, ?_, ?_, ?_, ?_, ?_, ?_, ?_, ?_, ?_, ?_, trivial⟩
      ·refine ⟨fun F => ?_, trivial⟩
       refine WL.qn (y_fieldAddr f28_0 rfl) rfl ?_
       exact WL.done1 rfl rfl rfl
      ·refine ⟨fun F => ?_, trivial⟩
       refine WL.qn (y_load rfl rfl a22 rfl) rfl ?_
       exact WL.done1 rfl rfl rfl
      ·refine ⟨fun F => ?_, trivial⟩
       refine WL.mv rfl rfl ?_
       exact WL.done1 rfl rfl rfl
      ·refine ⟨fun F => ?_, trivial⟩
       refine WL.qn (y_fieldAddr f28_0 rfl) rfl ?_
       exact WL.done1 rfl rfl rfl
      ·refine ⟨fun F => ?_, trivial⟩
       refine WL.qn (y_load rfl rfl a22 rfl) rfl ?_
       exact WL.done1 rfl rfl rfl
      ·refine ⟨fun F => ?_, trivial⟩
       refine WL.mv rfl rfl ?_
       exact WL.done1 rfl rfl rfl
      ·refine ⟨fun F => ?_, trivial⟩
       refine WL.qn (y_pe e22 rfl rfl rfl hx91) rfl ?_
       exact WL.done1 rfl rfl rfl
      ·refine ⟨fun F => ?_, trivial⟩
       refine WL.qn (y_fieldAddr_pe f54_11 rfl rfl) rfl ?_
       exact WL.done1 rfl rfl rfl
      ·refine ⟨fun F => ?_, trivial⟩
       refine WL.qn (y_load_peL (fo := 11) rfl rfl rfl a51 (fun _ => rfl) hx91 rfl) rfl ?_
       exact WL.done1 rfl rfl rfl
      ·refine ⟨fun F => ?_, trivial⟩
       refine WL.qn (y_fieldAddr f28_0 rfl) rfl ?_
       exact WL.done1 rfl rfl rfl
      ·refine ⟨fun F => ?_, trivial⟩
       refine WL.qn (y_load rfl rfl a22 rfl) rfl ?_
       exact WL.done1 rfl rfl rfl
      ·refine ⟨fun F => ?_, trivial⟩
       refine WL.mv rfl rfl ?_
       exact WL.done1 rfl rfl rfl
      ·refine ⟨fun F => ?_, trivial⟩
       refine WL.qn (y_pe e22 rfl rfl rfl hx92) rfl ?_
       exact WL.done1 rfl rfl rfl
      ·refine ⟨fun F => ?_, trivial⟩
       refine WL.qn (y_fieldAddr_pe f54_11 rfl rfl) rfl ?_
       exact WL.done1 rfl rfl rfl
      ·refine ⟨fun F => ?_, trivial⟩
       refine WL.qn (y_load_peL (fo := 11) rfl rfl rfl a51 (fun _ => rfl) hx92 rfl) rfl ?_
       exact WL.done1 rfl rfl rfl
      ·refine ⟨fun F => ?_, trivial⟩
       refine WL.qn (y_len_map E56 x92.comps e51 rfl rfl (Le.refl _)) rfl ?_
       exact WL.done1 rfl rfl rfl
      ·refine ⟨fun F => ?_, trivial⟩
       refine WL.qn (y_min rfl rfl rfl) rfl ?_
       exact WL.done1 rfl rfl rfl
      ·refine ⟨fun F => ?_, trivial⟩
       refine WL.qn (y_sliceL E56 x91.comps (l := 0) (h := (if 20 < (List.length x92.comps : Int) then 20 else (List.length x92.comps : Int))) e51 rfl (Le.refl _) rfl ⟨_, rfl⟩ hgg93 (fun _ => rfl)) rfl ?_
       exact WL.done1 rfl rfl rfl
      ·refine ⟨fun F => ?_, trivial⟩
       refine WL.qn (y_pe e22 rfl rfl rfl hx94) rfl ?_
       exact WL.done1 rfl rfl rfl
      ·refine ⟨fun F => ?_, trivial⟩
       refine WL.qn (y_fieldAddr_pe f54_11 rfl rfl) rfl ?_
       exact WL.done1 rfl rfl rfl
      ·refine ⟨fun F => ?_, trivial⟩
       refine WL.s0 (d_store_peL (R := R54) (k := 18) (i := t81) (fo := 11) (Ty.mk x94.kind x94.name x94.parent x94.first x94.lits x94.index x94.elem x94.disc x94.discName x94.has x94.default_ (sliceF x91.comps 0 (if 20 < (List.length x92.comps : Int) then 20 else (List.length x92.comps : Int))) x94.target x94.formal x94.limited x94.priv x94.full x94.level) rfl rfl rfl rfl (Le.refl _) rfl rfl rfl s51 rfl (fun _ => rfl) hx94 rfl rfl) (Wt.none rfl) rfl ?_
       exact WL.done0 rfl rfl
     ·refine we_blk ?_
      refine we_seq ?_
      refine wc_region ?_
      refine WL.qn (y_add rfl rfl rfl) rfl ?_
      refine WL.mv rfl rfl ?_
      refine WL.nil ?_
      exact we_lp ⟨n, ⟨(IntKind.i64.wrap (t81 + 1)), (List.set (List.set l82 (Int.toNat t81) (Ty.mk x90.kind x90.name x90.parent x90.first (sliceF x87.lits 0 (if 70 < (List.length x88.lits : Int) then 70 else (List.length x88.lits : Int))) x90.index x90.elem x90.disc x90.discName x90.has x90.default_ x90.comps x90.target x90.formal x90.limited x90.priv x90.full x90.level)) (Int.toNat t81) (Ty.mk x94.kind x94.name x94.parent x94.first x94.lits x94.index x94.elem x94.disc x94.discName x94.has x94.default_ (sliceF x91.comps 0 (if 20 < (List.length x92.comps : Int) then 20 else (List.length x92.comps : Int))) x94.target x94.formal x94.limited x94.priv x94.full x94.level)), _, h, (Sub.cons rfl (Le.refl _) (Sub.cons rfl (Le.refl _) (Sub.cons rfl (Le.refl _) (Sub.cons rfl (Le.refl _) (Sub.nil _))))), ⟨⟨rfl, ⟨(Le.refl _), (Le.refl _), (Le.refl _), (Le.refl _), (Le.refl _), trivial⟩⟩, ⟨rfl, rfl, rfl, rfl⟩, ⟨rfl, ⟨(Le.refl _), (Le.refl _), (Le.refl _), (Le.refl _), (Le.refl _), trivial⟩⟩, trivial⟩⟩, Nat.lt_succ_self n⟩
   ·replace h := condF h hc1
    refine wc_exit ?_
    refine we_seq_exit ?_
    refine we_lp_exit ?_
    refine we_blk_hit ?_
    exact we_lp ⟨l82, _, h, (Sub.cons rfl (Le.refl _) (Sub.cons rfl (Le.refl _) (Sub.nil _))), ⟨⟨rfl, ⟨(Le.refl _), (Le.refl _), (Le.refl _), (Le.refl _), (Le.refl _), trivial⟩⟩, ⟨rfl, rfl, rfl, rfl⟩, ⟨rfl, ⟨(Le.refl _), (Le.refl _), (Le.refl _), (Le.refl _), (Le.refl _), trivial⟩⟩, trivial⟩⟩
  ·rintro env1 st1 ⟨l75, ver76, h, hsub, hst⟩
   subst hk77
   dsimp only at h
   refine WC.sub hsub (WC.weak hst ?_)
   refine wc_sr ?_
   refine WL.freezeX [] [(2, 0)] 1 (List.map E54 l75) rfl (encA_map E54_eq l75) trivial ⟨_, _, rfl, rfl, trivial⟩ ?_
   refine WL.qn (y_loadN rfl rfl a28 s28 rfl) rfl ?_
   refine WL.s0 (d_store rfl rfl rfl rfl rfl rfl s28 rfl rfl) (Wt.none rfl) rfl ?_
   refine WL.ns ?_
   refine wc_ret ?_
   obtain rfl := Option.some.inj h
   exact we_ret_fn (rs1 rfl (rv_cN rfl rfl a28 s28 rfl)) (Le.agd ⟨(Le.refl _), (Le.refl _), (Le.refl _), (Le.refl _), (Le.refl _), trivial⟩)

theorem f39_c (kind0 : Int) (name1 : ByteArray) (first2 : Int) : Pu Tryd.prog 39 [.i .u8 kind0, .s name1, .i .i64 first2] (.ag (R54 (f39 kind0 name1 first2))) := by
 generalize h : f39 kind0 name1 first2 = r
 unfold f39 at h
 refine fn_intro Tryd.func39 (by kernel_rfl) rfl rfl rfl (fun φφ ww => ?_)
 refine wc_sr ?_
 refine WL.s ((b_alloc z54).does) (Wt.none rfl) rfl rfl ?_
 refine WL.ns ?_
 refine wc_sr ?_
 refine WL.mv rfl rfl ?_
 refine WL.fn rfl rfl rfl rfl (f37_c _) ⟨(Le.refl _), trivial⟩ (Wt.none rfl) rfl rfl ?_
 refine WL.s ((b_alloc z54).does) (Wt.none rfl) rfl rfl ?_
 refine WL.s0 (d_store rfl rfl rfl rfl rfl rfl s54 rfl rfl) (Wt.none rfl) rfl ?_
 refine WL.st (st' := [.row 54 [.d (D.i .u8 0), .d (D.s ByteArray.empty), .d (D.i .i64 0), .d (D.i .i64 0), .d (.v (.slice none 0 0)), .d (D.i .i64 0), .d (D.i .i64 0), .d (D.i .i64 0), .d (D.s ByteArray.empty), .d (D.b false), .d (D.i .i64 0), .d (.v (.slice none 0 0)), .d (D.i .i64 0), .d (D.i .u8 0), .d (D.b false), .d (D.i .i64 0), .d (D.i .i64 0), .d (D.i .i64 0)], .row 54 [.d (D.i .u8 ((f37 kind0).kind)), .d (D.s ((f37 kind0).name)), .d (D.i .i64 ((f37 kind0).parent)), .d (D.i .i64 ((f37 kind0).first)), .d (.sl (List.map E9 ((f37 kind0).lits))), .d (D.i .i64 ((f37 kind0).index)), .d (D.i .i64 ((f37 kind0).elem)), .d (D.i .i64 ((f37 kind0).disc)), .d (D.s ((f37 kind0).discName)), .d (D.b ((f37 kind0).has)), .d (D.i .i64 ((f37 kind0).default_)), .d (.sl (List.map E56 ((f37 kind0).comps))), .d (D.i .i64 ((f37 kind0).target)), .d (D.i .u8 ((f37 kind0).formal)), .d (D.b ((f37 kind0).limited)), .d (D.i .i64 ((f37 kind0).priv)), .d (D.i .i64 ((f37 kind0).full)), .d (D.i .i64 ((f37 kind0).level))]]) rfl ?_
 refine WL.ns ?_
 refine wc_sr ?_
 refine WL.mv rfl rfl ?_
 refine WL.mv rfl rfl ?_
 refine WL.qn (y_fieldAddr f54_1 rfl) rfl ?_
 refine WL.s0 (d_store rfl rfl rfl rfl rfl rfl s9 rfl rfl) (Wt.none rfl) rfl ?_
 refine WL.st (st' := [.row 54 [.d (D.i .u8 0), .d (D.s ByteArray.empty), .d (D.i .i64 0), .d (D.i .i64 0), .d (.v (.slice none 0 0)), .d (D.i .i64 0), .d (D.i .i64 0), .d (D.i .i64 0), .d (D.s ByteArray.empty), .d (D.b false), .d (D.i .i64 0), .d (.v (.slice none 0 0)), .d (D.i .i64 0), .d (D.i .u8 0), .d (D.b false), .d (D.i .i64 0), .d (D.i .i64 0), .d (D.i .i64 0)], .row 54 [.d (D.i .u8 ((f37 kind0).kind)), .d (D.s name1), .d (D.i .i64 ((f37 kind0).parent)), .d (D.i .i64 ((f37 kind0).first)), .d (.sl (List.map E9 ((f37 kind0).lits))), .d (D.i .i64 ((f37 kind0).index)), .d (D.i .i64 ((f37 kind0).elem)), .d (D.i .i64 ((f37 kind0).disc)), .d (D.s ((f37 kind0).discName)), .d (D.b ((f37 kind0).has)), .d (D.i .i64 ((f37 kind0).default_)), .d (.sl (List.map E56 ((f37 kind0).comps))), .d (D.i .i64 ((f37 kind0).target)), .d (D.i .u8 ((f37 kind0).formal)), .d (D.b ((f37 kind0).limited)), .d (D.i .i64 ((f37 kind0).priv)), .d (D.i .i64 ((f37 kind0).full)), .d (D.i .i64 ((f37 kind0).level))]]) rfl ?_
 refine WL.qn (y_fieldAddr f54_3 rfl) rfl ?_
 refine WL.s0 (d_store rfl rfl rfl rfl rfl rfl s3 rfl rfl) (Wt.none rfl) rfl ?_
 refine WL.st (st' := [.row 54 [.d (D.i .u8 0), .d (D.s ByteArray.empty), .d (D.i .i64 0), .d (D.i .i64 0), .d (.v (.slice none 0 0)), .d (D.i .i64 0), .d (D.i .i64 0), .d (D.i .i64 0), .d (D.s ByteArray.empty), .d (D.b false), .d (D.i .i64 0), .d (.v (.slice none 0 0)), .d (D.i .i64 0), .d (D.i .u8 0), .d (D.b false), .d (D.i .i64 0), .d (D.i .i64 0), .d (D.i .i64 0)], .row 54 [.d (D.i .u8 ((f37 kind0).kind)), .d (D.s name1), .d (D.i .i64 ((f37 kind0).parent)), .d (D.i .i64 first2), .d (.sl (List.map E9 ((f37 kind0).lits))), .d (D.i .i64 ((f37 kind0).index)), .d (D.i .i64 ((f37 kind0).elem)), .d (D.i .i64 ((f37 kind0).disc)), .d (D.s ((f37 kind0).discName)), .d (D.b ((f37 kind0).has)), .d (D.i .i64 ((f37 kind0).default_)), .d (.sl (List.map E56 ((f37 kind0).comps))), .d (D.i .i64 ((f37 kind0).target)), .d (D.i .u8 ((f37 kind0).formal)), .d (D.b ((f37 kind0).limited)), .d (D.i .i64 ((f37 kind0).priv)), .d (D.i .i64 ((f37 kind0).full)), .d (D.i .i64 ((f37 kind0).level))]]) rfl ?_
 refine WL.ns ?_
 refine wc_sr ?_
 refine WL.qn (y_loadN rfl rfl a54 s54 rfl) rfl ?_
 refine WL.s0 (d_store rfl rfl rfl rfl rfl rfl s54 rfl rfl) (Wt.none rfl) rfl ?_
 refine WL.st (st' := [.row 54 [.d (D.i .u8 ((f37 kind0).kind)), .d (D.s name1), .d (D.i .i64 ((f37 kind0).parent)), .d (D.i .i64 first2), .d (.sl (List.map E9 ((f37 kind0).lits))), .d (D.i .i64 ((f37 kind0).index)), .d (D.i .i64 ((f37 kind0).elem)), .d (D.i .i64 ((f37 kind0).disc)), .d (D.s ((f37 kind0).discName)), .d (D.b ((f37 kind0).has)), .d (D.i .i64 ((f37 kind0).default_)), .d (.sl (List.map E56 ((f37 kind0).comps))), .d (D.i .i64 ((f37 kind0).target)), .d (D.i .u8 ((f37 kind0).formal)), .d (D.b ((f37 kind0).limited)), .d (D.i .i64 ((f37 kind0).priv)), .d (D.i .i64 ((f37 kind0).full)), .d (D.i .i64 ((f37 kind0).level))], .row 54 [.d (D.i .u8 ((f37 kind0).kind)), .d (D.s name1), .d (D.i .i64 ((f37 kind0).parent)), .d (D.i .i64 first2), .d (.sl (List.map E9 ((f37 kind0).lits))), .d (D.i .i64 ((f37 kind0).index)), .d (D.i .i64 ((f37 kind0).elem)), .d (D.i .i64 ((f37 kind0).disc)), .d (D.s ((f37 kind0).discName)), .d (D.b ((f37 kind0).has)), .d (D.i .i64 ((f37 kind0).default_)), .d (.sl (List.map E56 ((f37 kind0).comps))), .d (D.i .i64 ((f37 kind0).target)), .d (D.i .u8 ((f37 kind0).formal)), .d (D.b ((f37 kind0).limited)), .d (D.i .i64 ((f37 kind0).priv)), .d (D.i .i64 ((f37 kind0).full)), .d (D.i .i64 ((f37 kind0).level))]]) rfl ?_
 refine WL.ns ?_
 refine wc_ret ?_
 subst h
 exact we_ret_fn (rs1 rfl (rv_cN rfl rfl a54 s54 rfl)) (Le.agd ⟨(Le.refl _), (Le.refl _), (Le.refl _), (Le.refl _), (Le.refl _), (Le.refl _), (Le.refl _), (Le.refl _), (Le.refl _), (Le.refl _), (Le.refl _), (Le.refl _), (Le.refl _), (Le.refl _), (Le.refl _), (Le.refl _), (Le.refl _), (Le.refl _), trivial⟩)

theorem f38_c  : Pu Tryd.prog 38 [] (.ag (R28 (f38 ))) := by
 generalize h : f38  = r
 unfold f38 at h
 refine fn_intro Tryd.func38 (by kernel_rfl) rfl rfl rfl (fun φφ ww => ?_)
 refine wc_sr ?_
 refine WL.s ((b_alloc z28).does) (Wt.none rfl) rfl rfl ?_
 refine WL.ns ?_
 refine wc_sr ?_
 refine WL.fn rfl rfl rfl rfl (f39_c _ _ _) ⟨(Le.refl _), (Le.refl _), (Le.refl _), trivial⟩ (Wt.none rfl) rfl rfl ?_
 refine WL.s ((b_alloc z54).does) (Wt.none rfl) rfl rfl ?_
 refine WL.s0 (d_store rfl rfl rfl rfl rfl rfl s54 rfl rfl) (Wt.none rfl) rfl ?_
 refine WL.st (st' := [.row 28 [.d (.v (.slice none 0 0)), .d (.v (.slice none 0 0)), .d (.v (SlV.v (SlV.mk none 0 0))), .d (.v (SlV.v (SlV.mk none 0 0))), .d (.v (SlV.v (SlV.mk none 0 0)))], .row 54 [.d (D.i .u8 ((f39 3 (ByteArray.mk #[67, 111, 108, 111, 114]) 1).kind)), .d (D.s ((f39 3 (ByteArray.mk #[67, 111, 108, 111, 114]) 1).name)), .d (D.i .i64 ((f39 3 (ByteArray.mk #[67, 111, 108, 111, 114]) 1).parent)), .d (D.i .i64 ((f39 3 (ByteArray.mk #[67, 111, 108, 111, 114]) 1).first)), .d (.sl (List.map E9 ((f39 3 (ByteArray.mk #[67, 111, 108, 111, 114]) 1).lits))), .d (D.i .i64 ((f39 3 (ByteArray.mk #[67, 111, 108, 111, 114]) 1).index)), .d (D.i .i64 ((f39 3 (ByteArray.mk #[67, 111, 108, 111, 114]) 1).elem)), .d (D.i .i64 ((f39 3 (ByteArray.mk #[67, 111, 108, 111, 114]) 1).disc)), .d (D.s ((f39 3 (ByteArray.mk #[67, 111, 108, 111, 114]) 1).discName)), .d (D.b ((f39 3 (ByteArray.mk #[67, 111, 108, 111, 114]) 1).has)), .d (D.i .i64 ((f39 3 (ByteArray.mk #[67, 111, 108, 111, 114]) 1).default_)), .d (.sl (List.map E56 ((f39 3 (ByteArray.mk #[67, 111, 108, 111, 114]) 1).comps))), .d (D.i .i64 ((f39 3 (ByteArray.mk #[67, 111, 108, 111, 114]) 1).target)), .d (D.i .u8 ((f39 3 (ByteArray.mk #[67, 111, 108, 111, 114]) 1).formal)), .d (D.b ((f39 3 (ByteArray.mk #[67, 111, 108, 111, 114]) 1).limited)), .d (D.i .i64 ((f39 3 (ByteArray.mk #[67, 111, 108, 111, 114]) 1).priv)), .d (D.i .i64 ((f39 3 (ByteArray.mk #[67, 111, 108, 111, 114]) 1).full)), .d (D.i .i64 ((f39 3 (ByteArray.mk #[67, 111, 108, 111, 114]) 1).level))]]) rfl ?_
 refine WL.ns ?_
 refine wc_sr ?_
 refine WL.s ((NewOs.b (n_buildSlice l50 z9 rfl (by decide) (by decide) rfl rfl rfl (by decide))).does) (Wt.none rfl) rfl rfl ?_
 refine WL.qn (y_fieldAddr f54_4 rfl) rfl ?_
 refine WL.s0 (d_store1 rfl rfl rfl (one_os rfl) s50 rfl) (Wt.none rfl) rfl ?_
 refine WL.st (st' := [.row 28 [.d (.v (.slice none 0 0)), .d (.v (.slice none 0 0)), .d (.v (SlV.v (SlV.mk none 0 0))), .d (.v (SlV.v (SlV.mk none 0 0))), .d (.v (SlV.v (SlV.mk none 0 0)))], .row 54 [.d (D.i .u8 ((f39 3 (ByteArray.mk #[67, 111, 108, 111, 114]) 1).kind)), .d (D.s ((f39 3 (ByteArray.mk #[67, 111, 108, 111, 114]) 1).name)), .d (D.i .i64 ((f39 3 (ByteArray.mk #[67, 111, 108, 111, 114]) 1).parent)), .d (D.i .i64 ((f39 3 (ByteArray.mk #[67, 111, 108, 111, 114]) 1).first)), .os 2 0, .d (D.i .i64 ((f39 3 (ByteArray.mk #[67, 111, 108, 111, 114]) 1).index)), .d (D.i .i64 ((f39 3 (ByteArray.mk #[67, 111, 108, 111, 114]) 1).elem)), .d (D.i .i64 ((f39 3 (ByteArray.mk #[67, 111, 108, 111, 114]) 1).disc)), .d (D.s ((f39 3 (ByteArray.mk #[67, 111, 108, 111, 114]) 1).discName)), .d (D.b ((f39 3 (ByteArray.mk #[67, 111, 108, 111, 114]) 1).has)), .d (D.i .i64 ((f39 3 (ByteArray.mk #[67, 111, 108, 111, 114]) 1).default_)), .d (.sl (List.map E56 ((f39 3 (ByteArray.mk #[67, 111, 108, 111, 114]) 1).comps))), .d (D.i .i64 ((f39 3 (ByteArray.mk #[67, 111, 108, 111, 114]) 1).target)), .d (D.i .u8 ((f39 3 (ByteArray.mk #[67, 111, 108, 111, 114]) 1).formal)), .d (D.b ((f39 3 (ByteArray.mk #[67, 111, 108, 111, 114]) 1).limited)), .d (D.i .i64 ((f39 3 (ByteArray.mk #[67, 111, 108, 111, 114]) 1).priv)), .d (D.i .i64 ((f39 3 (ByteArray.mk #[67, 111, 108, 111, 114]) 1).full)), .d (D.i .i64 ((f39 3 (ByteArray.mk #[67, 111, 108, 111, 114]) 1).level))], .os 9 1 0 (List.map (encA E9) [(ByteArray.mk #[82, 101, 100]), (ByteArray.mk #[71, 114, 101, 101, 110])])]) rfl ?_
 refine WL.ns ?_
 refine wc_sr ?_
 refine WL.fn rfl rfl rfl rfl (f39_c _ _ _) ⟨(Le.refl _), (Le.refl _), (Le.refl _), trivial⟩ (Wt.none rfl) rfl rfl ?_
 refine WL.s ((b_alloc z54).does) (Wt.none rfl) rfl rfl ?_
 refine WL.s0 (d_store rfl rfl rfl rfl rfl rfl s54 rfl rfl) (Wt.none rfl) rfl ?_
 refine WL.st (st' := [.row 28 [.d (.v (.slice none 0 0)), .d (.v (.slice none 0 0)), .d (.v (SlV.v (SlV.mk none 0 0))), .d (.v (SlV.v (SlV.mk none 0 0))), .d (.v (SlV.v (SlV.mk none 0 0)))], .row 54 [.d (D.i .u8 ((f39 3 (ByteArray.mk #[67, 111, 108, 111, 114]) 1).kind)), .d (D.s ((f39 3 (ByteArray.mk #[67, 111, 108, 111, 114]) 1).name)), .d (D.i .i64 ((f39 3 (ByteArray.mk #[67, 111, 108, 111, 114]) 1).parent)), .d (D.i .i64 ((f39 3 (ByteArray.mk #[67, 111, 108, 111, 114]) 1).first)), .os 2 0, .d (D.i .i64 ((f39 3 (ByteArray.mk #[67, 111, 108, 111, 114]) 1).index)), .d (D.i .i64 ((f39 3 (ByteArray.mk #[67, 111, 108, 111, 114]) 1).elem)), .d (D.i .i64 ((f39 3 (ByteArray.mk #[67, 111, 108, 111, 114]) 1).disc)), .d (D.s ((f39 3 (ByteArray.mk #[67, 111, 108, 111, 114]) 1).discName)), .d (D.b ((f39 3 (ByteArray.mk #[67, 111, 108, 111, 114]) 1).has)), .d (D.i .i64 ((f39 3 (ByteArray.mk #[67, 111, 108, 111, 114]) 1).default_)), .d (.sl (List.map E56 ((f39 3 (ByteArray.mk #[67, 111, 108, 111, 114]) 1).comps))), .d (D.i .i64 ((f39 3 (ByteArray.mk #[67, 111, 108, 111, 114]) 1).target)), .d (D.i .u8 ((f39 3 (ByteArray.mk #[67, 111, 108, 111, 114]) 1).formal)), .d (D.b ((f39 3 (ByteArray.mk #[67, 111, 108, 111, 114]) 1).limited)), .d (D.i .i64 ((f39 3 (ByteArray.mk #[67, 111, 108, 111, 114]) 1).priv)), .d (D.i .i64 ((f39 3 (ByteArray.mk #[67, 111, 108, 111, 114]) 1).full)), .d (D.i .i64 ((f39 3 (ByteArray.mk #[67, 111, 108, 111, 114]) 1).level))], .os 9 1 0 (List.map (encA E9) [(ByteArray.mk #[82, 101, 100]), (ByteArray.mk #[71, 114, 101, 101, 110])]), .row 54 [.d (D.i .u8 ((f39 4 (ByteArray.mk #[82, 111, 119]) 3).kind)), .d (D.s ((f39 4 (ByteArray.mk #[82, 111, 119]) 3).name)), .d (D.i .i64 ((f39 4 (ByteArray.mk #[82, 111, 119]) 3).parent)), .d (D.i .i64 ((f39 4 (ByteArray.mk #[82, 111, 119]) 3).first)), .d (.sl (List.map E9 ((f39 4 (ByteArray.mk #[82, 111, 119]) 3).lits))), .d (D.i .i64 ((f39 4 (ByteArray.mk #[82, 111, 119]) 3).index)), .d (D.i .i64 ((f39 4 (ByteArray.mk #[82, 111, 119]) 3).elem)), .d (D.i .i64 ((f39 4 (ByteArray.mk #[82, 111, 119]) 3).disc)), .d (D.s ((f39 4 (ByteArray.mk #[82, 111, 119]) 3).discName)), .d (D.b ((f39 4 (ByteArray.mk #[82, 111, 119]) 3).has)), .d (D.i .i64 ((f39 4 (ByteArray.mk #[82, 111, 119]) 3).default_)), .d (.sl (List.map E56 ((f39 4 (ByteArray.mk #[82, 111, 119]) 3).comps))), .d (D.i .i64 ((f39 4 (ByteArray.mk #[82, 111, 119]) 3).target)), .d (D.i .u8 ((f39 4 (ByteArray.mk #[82, 111, 119]) 3).formal)), .d (D.b ((f39 4 (ByteArray.mk #[82, 111, 119]) 3).limited)), .d (D.i .i64 ((f39 4 (ByteArray.mk #[82, 111, 119]) 3).priv)), .d (D.i .i64 ((f39 4 (ByteArray.mk #[82, 111, 119]) 3).full)), .d (D.i .i64 ((f39 4 (ByteArray.mk #[82, 111, 119]) 3).level))]]) rfl ?_
 refine WL.ns ?_
 refine wc_sr ?_
 refine WL.qn (y_fieldAddr f54_5 rfl) rfl ?_
 refine WL.s0 (d_store rfl rfl rfl rfl rfl rfl s3 rfl rfl) (Wt.none rfl) rfl ?_
 refine WL.st (st' := [.row 28 [.d (.v (.slice none 0 0)), .d (.v (.slice none 0 0)), .d (.v (SlV.v (SlV.mk none 0 0))), .d (.v (SlV.v (SlV.mk none 0 0))), .d (.v (SlV.v (SlV.mk none 0 0)))], .row 54 [.d (D.i .u8 ((f39 3 (ByteArray.mk #[67, 111, 108, 111, 114]) 1).kind)), .d (D.s ((f39 3 (ByteArray.mk #[67, 111, 108, 111, 114]) 1).name)), .d (D.i .i64 ((f39 3 (ByteArray.mk #[67, 111, 108, 111, 114]) 1).parent)), .d (D.i .i64 ((f39 3 (ByteArray.mk #[67, 111, 108, 111, 114]) 1).first)), .os 2 0, .d (D.i .i64 ((f39 3 (ByteArray.mk #[67, 111, 108, 111, 114]) 1).index)), .d (D.i .i64 ((f39 3 (ByteArray.mk #[67, 111, 108, 111, 114]) 1).elem)), .d (D.i .i64 ((f39 3 (ByteArray.mk #[67, 111, 108, 111, 114]) 1).disc)), .d (D.s ((f39 3 (ByteArray.mk #[67, 111, 108, 111, 114]) 1).discName)), .d (D.b ((f39 3 (ByteArray.mk #[67, 111, 108, 111, 114]) 1).has)), .d (D.i .i64 ((f39 3 (ByteArray.mk #[67, 111, 108, 111, 114]) 1).default_)), .d (.sl (List.map E56 ((f39 3 (ByteArray.mk #[67, 111, 108, 111, 114]) 1).comps))), .d (D.i .i64 ((f39 3 (ByteArray.mk #[67, 111, 108, 111, 114]) 1).target)), .d (D.i .u8 ((f39 3 (ByteArray.mk #[67, 111, 108, 111, 114]) 1).formal)), .d (D.b ((f39 3 (ByteArray.mk #[67, 111, 108, 111, 114]) 1).limited)), .d (D.i .i64 ((f39 3 (ByteArray.mk #[67, 111, 108, 111, 114]) 1).priv)), .d (D.i .i64 ((f39 3 (ByteArray.mk #[67, 111, 108, 111, 114]) 1).full)), .d (D.i .i64 ((f39 3 (ByteArray.mk #[67, 111, 108, 111, 114]) 1).level))], .os 9 1 0 (List.map (encA E9) [(ByteArray.mk #[82, 101, 100]), (ByteArray.mk #[71, 114, 101, 101, 110])]), .row 54 [.d (D.i .u8 ((f39 4 (ByteArray.mk #[82, 111, 119]) 3).kind)), .d (D.s ((f39 4 (ByteArray.mk #[82, 111, 119]) 3).name)), .d (D.i .i64 ((f39 4 (ByteArray.mk #[82, 111, 119]) 3).parent)), .d (D.i .i64 ((f39 4 (ByteArray.mk #[82, 111, 119]) 3).first)), .d (.sl (List.map E9 ((f39 4 (ByteArray.mk #[82, 111, 119]) 3).lits))), .d (D.i .i64 2), .d (D.i .i64 ((f39 4 (ByteArray.mk #[82, 111, 119]) 3).elem)), .d (D.i .i64 ((f39 4 (ByteArray.mk #[82, 111, 119]) 3).disc)), .d (D.s ((f39 4 (ByteArray.mk #[82, 111, 119]) 3).discName)), .d (D.b ((f39 4 (ByteArray.mk #[82, 111, 119]) 3).has)), .d (D.i .i64 ((f39 4 (ByteArray.mk #[82, 111, 119]) 3).default_)), .d (.sl (List.map E56 ((f39 4 (ByteArray.mk #[82, 111, 119]) 3).comps))), .d (D.i .i64 ((f39 4 (ByteArray.mk #[82, 111, 119]) 3).target)), .d (D.i .u8 ((f39 4 (ByteArray.mk #[82, 111, 119]) 3).formal)), .d (D.b ((f39 4 (ByteArray.mk #[82, 111, 119]) 3).limited)), .d (D.i .i64 ((f39 4 (ByteArray.mk #[82, 111, 119]) 3).priv)), .d (D.i .i64 ((f39 4 (ByteArray.mk #[82, 111, 119]) 3).full)), .d (D.i .i64 ((f39 4 (ByteArray.mk #[82, 111, 119]) 3).level))]]) rfl ?_
 refine WL.qn (y_fieldAddr f54_6 rfl) rfl ?_
 refine WL.s0 (d_store rfl rfl rfl rfl rfl rfl s3 rfl rfl) (Wt.none rfl) rfl ?_
 refine WL.st (st' := [.row 28 [.d (.v (.slice none 0 0)), .d (.v (.slice none 0 0)), .d (.v (SlV.v (SlV.mk none 0 0))), .d (.v (SlV.v (SlV.mk none 0 0))), .d (.v (SlV.v (SlV.mk none 0 0)))], .row 54 [.d (D.i .u8 ((f39 3 (ByteArray.mk #[67, 111, 108, 111, 114]) 1).kind)), .d (D.s ((f39 3 (ByteArray.mk #[67, 111, 108, 111, 114]) 1).name)), .d (D.i .i64 ((f39 3 (ByteArray.mk #[67, 111, 108, 111, 114]) 1).parent)), .d (D.i .i64 ((f39 3 (ByteArray.mk #[67, 111, 108, 111, 114]) 1).first)), .os 2 0, .d (D.i .i64 ((f39 3 (ByteArray.mk #[67, 111, 108, 111, 114]) 1).index)), .d (D.i .i64 ((f39 3 (ByteArray.mk #[67, 111, 108, 111, 114]) 1).elem)), .d (D.i .i64 ((f39 3 (ByteArray.mk #[67, 111, 108, 111, 114]) 1).disc)), .d (D.s ((f39 3 (ByteArray.mk #[67, 111, 108, 111, 114]) 1).discName)), .d (D.b ((f39 3 (ByteArray.mk #[67, 111, 108, 111, 114]) 1).has)), .d (D.i .i64 ((f39 3 (ByteArray.mk #[67, 111, 108, 111, 114]) 1).default_)), .d (.sl (List.map E56 ((f39 3 (ByteArray.mk #[67, 111, 108, 111, 114]) 1).comps))), .d (D.i .i64 ((f39 3 (ByteArray.mk #[67, 111, 108, 111, 114]) 1).target)), .d (D.i .u8 ((f39 3 (ByteArray.mk #[67, 111, 108, 111, 114]) 1).formal)), .d (D.b ((f39 3 (ByteArray.mk #[67, 111, 108, 111, 114]) 1).limited)), .d (D.i .i64 ((f39 3 (ByteArray.mk #[67, 111, 108, 111, 114]) 1).priv)), .d (D.i .i64 ((f39 3 (ByteArray.mk #[67, 111, 108, 111, 114]) 1).full)), .d (D.i .i64 ((f39 3 (ByteArray.mk #[67, 111, 108, 111, 114]) 1).level))], .os 9 1 0 (List.map (encA E9) [(ByteArray.mk #[82, 101, 100]), (ByteArray.mk #[71, 114, 101, 101, 110])]), .row 54 [.d (D.i .u8 ((f39 4 (ByteArray.mk #[82, 111, 119]) 3).kind)), .d (D.s ((f39 4 (ByteArray.mk #[82, 111, 119]) 3).name)), .d (D.i .i64 ((f39 4 (ByteArray.mk #[82, 111, 119]) 3).parent)), .d (D.i .i64 ((f39 4 (ByteArray.mk #[82, 111, 119]) 3).first)), .d (.sl (List.map E9 ((f39 4 (ByteArray.mk #[82, 111, 119]) 3).lits))), .d (D.i .i64 2), .d (D.i .i64 0), .d (D.i .i64 ((f39 4 (ByteArray.mk #[82, 111, 119]) 3).disc)), .d (D.s ((f39 4 (ByteArray.mk #[82, 111, 119]) 3).discName)), .d (D.b ((f39 4 (ByteArray.mk #[82, 111, 119]) 3).has)), .d (D.i .i64 ((f39 4 (ByteArray.mk #[82, 111, 119]) 3).default_)), .d (.sl (List.map E56 ((f39 4 (ByteArray.mk #[82, 111, 119]) 3).comps))), .d (D.i .i64 ((f39 4 (ByteArray.mk #[82, 111, 119]) 3).target)), .d (D.i .u8 ((f39 4 (ByteArray.mk #[82, 111, 119]) 3).formal)), .d (D.b ((f39 4 (ByteArray.mk #[82, 111, 119]) 3).limited)), .d (D.i .i64 ((f39 4 (ByteArray.mk #[82, 111, 119]) 3).priv)), .d (D.i .i64 ((f39 4 (ByteArray.mk #[82, 111, 119]) 3).full)), .d (D.i .i64 ((f39 4 (ByteArray.mk #[82, 111, 119]) 3).level))]]) rfl ?_
 refine WL.ns ?_
 refine wc_sr ?_
 refine WL.fn rfl rfl rfl rfl (f39_c _ _ _) ⟨(Le.refl _), (Le.refl _), (Le.refl _), trivial⟩ (Wt.none rfl) rfl rfl ?_
 refine WL.s ((b_alloc z54).does) (Wt.none rfl) rfl rfl ?_
 refine WL.s0 (d_store rfl rfl rfl rfl rfl rfl s54 rfl rfl) (Wt.none rfl) rfl ?_
 refine WL.st (st' := [.row 28 [.d (.v (.slice none 0 0)), .d (.v (.slice none 0 0)), .d (.v (SlV.v (SlV.mk none 0 0))), .d (.v (SlV.v (SlV.mk none 0 0))), .d (.v (SlV.v (SlV.mk none 0 0)))], .row 54 [.d (D.i .u8 ((f39 3 (ByteArray.mk #[67, 111, 108, 111, 114]) 1).kind)), .d (D.s ((f39 3 (ByteArray.mk #[67, 111, 108, 111, 114]) 1).name)), .d (D.i .i64 ((f39 3 (ByteArray.mk #[67, 111, 108, 111, 114]) 1).parent)), .d (D.i .i64 ((f39 3 (ByteArray.mk #[67, 111, 108, 111, 114]) 1).first)), .os 2 0, .d (D.i .i64 ((f39 3 (ByteArray.mk #[67, 111, 108, 111, 114]) 1).index)), .d (D.i .i64 ((f39 3 (ByteArray.mk #[67, 111, 108, 111, 114]) 1).elem)), .d (D.i .i64 ((f39 3 (ByteArray.mk #[67, 111, 108, 111, 114]) 1).disc)), .d (D.s ((f39 3 (ByteArray.mk #[67, 111, 108, 111, 114]) 1).discName)), .d (D.b ((f39 3 (ByteArray.mk #[67, 111, 108, 111, 114]) 1).has)), .d (D.i .i64 ((f39 3 (ByteArray.mk #[67, 111, 108, 111, 114]) 1).default_)), .d (.sl (List.map E56 ((f39 3 (ByteArray.mk #[67, 111, 108, 111, 114]) 1).comps))), .d (D.i .i64 ((f39 3 (ByteArray.mk #[67, 111, 108, 111, 114]) 1).target)), .d (D.i .u8 ((f39 3 (ByteArray.mk #[67, 111, 108, 111, 114]) 1).formal)), .d (D.b ((f39 3 (ByteArray.mk #[67, 111, 108, 111, 114]) 1).limited)), .d (D.i .i64 ((f39 3 (ByteArray.mk #[67, 111, 108, 111, 114]) 1).priv)), .d (D.i .i64 ((f39 3 (ByteArray.mk #[67, 111, 108, 111, 114]) 1).full)), .d (D.i .i64 ((f39 3 (ByteArray.mk #[67, 111, 108, 111, 114]) 1).level))], .os 9 1 0 (List.map (encA E9) [(ByteArray.mk #[82, 101, 100]), (ByteArray.mk #[71, 114, 101, 101, 110])]), .row 54 [.d (D.i .u8 ((f39 4 (ByteArray.mk #[82, 111, 119]) 3).kind)), .d (D.s ((f39 4 (ByteArray.mk #[82, 111, 119]) 3).name)), .d (D.i .i64 ((f39 4 (ByteArray.mk #[82, 111, 119]) 3).parent)), .d (D.i .i64 ((f39 4 (ByteArray.mk #[82, 111, 119]) 3).first)), .d (.sl (List.map E9 ((f39 4 (ByteArray.mk #[82, 111, 119]) 3).lits))), .d (D.i .i64 2), .d (D.i .i64 0), .d (D.i .i64 ((f39 4 (ByteArray.mk #[82, 111, 119]) 3).disc)), .d (D.s ((f39 4 (ByteArray.mk #[82, 111, 119]) 3).discName)), .d (D.b ((f39 4 (ByteArray.mk #[82, 111, 119]) 3).has)), .d (D.i .i64 ((f39 4 (ByteArray.mk #[82, 111, 119]) 3).default_)), .d (.sl (List.map E56 ((f39 4 (ByteArray.mk #[82, 111, 119]) 3).comps))), .d (D.i .i64 ((f39 4 (ByteArray.mk #[82, 111, 119]) 3).target)), .d (D.i .u8 ((f39 4 (ByteArray.mk #[82, 111, 119]) 3).formal)), .d (D.b ((f39 4 (ByteArray.mk #[82, 111, 119]) 3).limited)), .d (D.i .i64 ((f39 4 (ByteArray.mk #[82, 111, 119]) 3).priv)), .d (D.i .i64 ((f39 4 (ByteArray.mk #[82, 111, 119]) 3).full)), .d (D.i .i64 ((f39 4 (ByteArray.mk #[82, 111, 119]) 3).level))], .row 54 [.d (D.i .u8 ((f39 5 (ByteArray.mk #[82, 101, 99]) 4).kind)), .d (D.s ((f39 5 (ByteArray.mk #[82, 101, 99]) 4).name)), .d (D.i .i64 ((f39 5 (ByteArray.mk #[82, 101, 99]) 4).parent)), .d (D.i .i64 ((f39 5 (ByteArray.mk #[82, 101, 99]) 4).first)), .d (.sl (List.map E9 ((f39 5 (ByteArray.mk #[82, 101, 99]) 4).lits))), .d (D.i .i64 ((f39 5 (ByteArray.mk #[82, 101, 99]) 4).index)), .d (D.i .i64 ((f39 5 (ByteArray.mk #[82, 101, 99]) 4).elem)), .d (D.i .i64 ((f39 5 (ByteArray.mk #[82, 101, 99]) 4).disc)), .d (D.s ((f39 5 (ByteArray.mk #[82, 101, 99]) 4).discName)), .d (D.b ((f39 5 (ByteArray.mk #[82, 101, 99]) 4).has)), .d (D.i .i64 ((f39 5 (ByteArray.mk #[82, 101, 99]) 4).default_)), .d (.sl (List.map E56 ((f39 5 (ByteArray.mk #[82, 101, 99]) 4).comps))), .d (D.i .i64 ((f39 5 (ByteArray.mk #[82, 101, 99]) 4).target)), .d (D.i .u8 ((f39 5 (ByteArray.mk #[82, 101, 99]) 4).formal)), .d (D.b ((f39 5 (ByteArray.mk #[82, 101, 99]) 4).limited)), .d (D.i .i64 ((f39 5 (ByteArray.mk #[82, 101, 99]) 4).priv)), .d (D.i .i64 ((f39 5 (ByteArray.mk #[82, 101, 99]) 4).full)), .d (D.i .i64 ((f39 5 (ByteArray.mk #[82, 101, 99]) 4).level))]]) rfl ?_
 refine WL.ns ?_
 refine wc_sr ?_
 refine WL.qn (y_fieldAddr f54_7 rfl) rfl ?_
 refine WL.s0 (d_store rfl rfl rfl rfl rfl rfl s3 rfl rfl) (Wt.none rfl) rfl ?_
 refine WL.st (st' := [.row 28 [.d (.v (.slice none 0 0)), .d (.v (.slice none 0 0)), .d (.v (SlV.v (SlV.mk none 0 0))), .d (.v (SlV.v (SlV.mk none 0 0))), .d (.v (SlV.v (SlV.mk none 0 0)))], .row 54 [.d (D.i .u8 ((f39 3 (ByteArray.mk #[67, 111, 108, 111, 114]) 1).kind)), .d (D.s ((f39 3 (ByteArray.mk #[67, 111, 108, 111, 114]) 1).name)), .d (D.i .i64 ((f39 3 (ByteArray.mk #[67, 111, 108, 111, 114]) 1).parent)), .d (D.i .i64 ((f39 3 (ByteArray.mk #[67, 111, 108, 111, 114]) 1).first)), .os 2 0, .d (D.i .i64 ((f39 3 (ByteArray.mk #[67, 111, 108, 111, 114]) 1).index)), .d (D.i .i64 ((f39 3 (ByteArray.mk #[67, 111, 108, 111, 114]) 1).elem)), .d (D.i .i64 ((f39 3 (ByteArray.mk #[67, 111, 108, 111, 114]) 1).disc)), .d (D.s ((f39 3 (ByteArray.mk #[67, 111, 108, 111, 114]) 1).discName)), .d (D.b ((f39 3 (ByteArray.mk #[67, 111, 108, 111, 114]) 1).has)), .d (D.i .i64 ((f39 3 (ByteArray.mk #[67, 111, 108, 111, 114]) 1).default_)), .d (.sl (List.map E56 ((f39 3 (ByteArray.mk #[67, 111, 108, 111, 114]) 1).comps))), .d (D.i .i64 ((f39 3 (ByteArray.mk #[67, 111, 108, 111, 114]) 1).target)), .d (D.i .u8 ((f39 3 (ByteArray.mk #[67, 111, 108, 111, 114]) 1).formal)), .d (D.b ((f39 3 (ByteArray.mk #[67, 111, 108, 111, 114]) 1).limited)), .d (D.i .i64 ((f39 3 (ByteArray.mk #[67, 111, 108, 111, 114]) 1).priv)), .d (D.i .i64 ((f39 3 (ByteArray.mk #[67, 111, 108, 111, 114]) 1).full)), .d (D.i .i64 ((f39 3 (ByteArray.mk #[67, 111, 108, 111, 114]) 1).level))], .os 9 1 0 (List.map (encA E9) [(ByteArray.mk #[82, 101, 100]), (ByteArray.mk #[71, 114, 101, 101, 110])]), .row 54 [.d (D.i .u8 ((f39 4 (ByteArray.mk #[82, 111, 119]) 3).kind)), .d (D.s ((f39 4 (ByteArray.mk #[82, 111, 119]) 3).name)), .d (D.i .i64 ((f39 4 (ByteArray.mk #[82, 111, 119]) 3).parent)), .d (D.i .i64 ((f39 4 (ByteArray.mk #[82, 111, 119]) 3).first)), .d (.sl (List.map E9 ((f39 4 (ByteArray.mk #[82, 111, 119]) 3).lits))), .d (D.i .i64 2), .d (D.i .i64 0), .d (D.i .i64 ((f39 4 (ByteArray.mk #[82, 111, 119]) 3).disc)), .d (D.s ((f39 4 (ByteArray.mk #[82, 111, 119]) 3).discName)), .d (D.b ((f39 4 (ByteArray.mk #[82, 111, 119]) 3).has)), .d (D.i .i64 ((f39 4 (ByteArray.mk #[82, 111, 119]) 3).default_)), .d (.sl (List.map E56 ((f39 4 (ByteArray.mk #[82, 111, 119]) 3).comps))), .d (D.i .i64 ((f39 4 (ByteArray.mk #[82, 111, 119]) 3).target)), .d (D.i .u8 ((f39 4 (ByteArray.mk #[82, 111, 119]) 3).formal)), .d (D.b ((f39 4 (ByteArray.mk #[82, 111, 119]) 3).limited)), .d (D.i .i64 ((f39 4 (ByteArray.mk #[82, 111, 119]) 3).priv)), .d (D.i .i64 ((f39 4 (ByteArray.mk #[82, 111, 119]) 3).full)), .d (D.i .i64 ((f39 4 (ByteArray.mk #[82, 111, 119]) 3).level))], .row 54 [.d (D.i .u8 ((f39 5 (ByteArray.mk #[82, 101, 99]) 4).kind)), .d (D.s ((f39 5 (ByteArray.mk #[82, 101, 99]) 4).name)), .d (D.i .i64 ((f39 5 (ByteArray.mk #[82, 101, 99]) 4).parent)), .d (D.i .i64 ((f39 5 (ByteArray.mk #[82, 101, 99]) 4).first)), .d (.sl (List.map E9 ((f39 5 (ByteArray.mk #[82, 101, 99]) 4).lits))), .d (D.i .i64 ((f39 5 (ByteArray.mk #[82, 101, 99]) 4).index)), .d (D.i .i64 ((f39 5 (ByteArray.mk #[82, 101, 99]) 4).elem)), .d (D.i .i64 1), .d (D.s ((f39 5 (ByteArray.mk #[82, 101, 99]) 4).discName)), .d (D.b ((f39 5 (ByteArray.mk #[82, 101, 99]) 4).has)), .d (D.i .i64 ((f39 5 (ByteArray.mk #[82, 101, 99]) 4).default_)), .d (.sl (List.map E56 ((f39 5 (ByteArray.mk #[82, 101, 99]) 4).comps))), .d (D.i .i64 ((f39 5 (ByteArray.mk #[82, 101, 99]) 4).target)), .d (D.i .u8 ((f39 5 (ByteArray.mk #[82, 101, 99]) 4).formal)), .d (D.b ((f39 5 (ByteArray.mk #[82, 101, 99]) 4).limited)), .d (D.i .i64 ((f39 5 (ByteArray.mk #[82, 101, 99]) 4).priv)), .d (D.i .i64 ((f39 5 (ByteArray.mk #[82, 101, 99]) 4).full)), .d (D.i .i64 ((f39 5 (ByteArray.mk #[82, 101, 99]) 4).level))]]) rfl ?_
 refine WL.qn (y_fieldAddr f54_8 rfl) rfl ?_
 refine WL.s0 (d_store rfl rfl rfl rfl rfl rfl s9 rfl rfl) (Wt.none rfl) rfl ?_
 refine WL.st (st' := [.row 28 [.d (.v (.slice none 0 0)), .d (.v (.slice none 0 0)), .d (.v (SlV.v (SlV.mk none 0 0))), .d (.v (SlV.v (SlV.mk none 0 0))), .d (.v (SlV.v (SlV.mk none 0 0)))], .row 54 [.d (D.i .u8 ((f39 3 (ByteArray.mk #[67, 111, 108, 111, 114]) 1).kind)), .d (D.s ((f39 3 (ByteArray.mk #[67, 111, 108, 111, 114]) 1).name)), .d (D.i .i64 ((f39 3 (ByteArray.mk #[67, 111, 108, 111, 114]) 1).parent)), .d (D.i .i64 ((f39 3 (ByteArray.mk #[67, 111, 108, 111, 114]) 1).first)), .os 2 0, .d (D.i .i64 ((f39 3 (ByteArray.mk #[67, 111, 108, 111, 114]) 1).index)), .d (D.i .i64 ((f39 3 (ByteArray.mk #[67, 111, 108, 111, 114]) 1).elem)), .d (D.i .i64 ((f39 3 (ByteArray.mk #[67, 111, 108, 111, 114]) 1).disc)), .d (D.s ((f39 3 (ByteArray.mk #[67, 111, 108, 111, 114]) 1).discName)), .d (D.b ((f39 3 (ByteArray.mk #[67, 111, 108, 111, 114]) 1).has)), .d (D.i .i64 ((f39 3 (ByteArray.mk #[67, 111, 108, 111, 114]) 1).default_)), .d (.sl (List.map E56 ((f39 3 (ByteArray.mk #[67, 111, 108, 111, 114]) 1).comps))), .d (D.i .i64 ((f39 3 (ByteArray.mk #[67, 111, 108, 111, 114]) 1).target)), .d (D.i .u8 ((f39 3 (ByteArray.mk #[67, 111, 108, 111, 114]) 1).formal)), .d (D.b ((f39 3 (ByteArray.mk #[67, 111, 108, 111, 114]) 1).limited)), .d (D.i .i64 ((f39 3 (ByteArray.mk #[67, 111, 108, 111, 114]) 1).priv)), .d (D.i .i64 ((f39 3 (ByteArray.mk #[67, 111, 108, 111, 114]) 1).full)), .d (D.i .i64 ((f39 3 (ByteArray.mk #[67, 111, 108, 111, 114]) 1).level))], .os 9 1 0 (List.map (encA E9) [(ByteArray.mk #[82, 101, 100]), (ByteArray.mk #[71, 114, 101, 101, 110])]), .row 54 [.d (D.i .u8 ((f39 4 (ByteArray.mk #[82, 111, 119]) 3).kind)), .d (D.s ((f39 4 (ByteArray.mk #[82, 111, 119]) 3).name)), .d (D.i .i64 ((f39 4 (ByteArray.mk #[82, 111, 119]) 3).parent)), .d (D.i .i64 ((f39 4 (ByteArray.mk #[82, 111, 119]) 3).first)), .d (.sl (List.map E9 ((f39 4 (ByteArray.mk #[82, 111, 119]) 3).lits))), .d (D.i .i64 2), .d (D.i .i64 0), .d (D.i .i64 ((f39 4 (ByteArray.mk #[82, 111, 119]) 3).disc)), .d (D.s ((f39 4 (ByteArray.mk #[82, 111, 119]) 3).discName)), .d (D.b ((f39 4 (ByteArray.mk #[82, 111, 119]) 3).has)), .d (D.i .i64 ((f39 4 (ByteArray.mk #[82, 111, 119]) 3).default_)), .d (.sl (List.map E56 ((f39 4 (ByteArray.mk #[82, 111, 119]) 3).comps))), .d (D.i .i64 ((f39 4 (ByteArray.mk #[82, 111, 119]) 3).target)), .d (D.i .u8 ((f39 4 (ByteArray.mk #[82, 111, 119]) 3).formal)), .d (D.b ((f39 4 (ByteArray.mk #[82, 111, 119]) 3).limited)), .d (D.i .i64 ((f39 4 (ByteArray.mk #[82, 111, 119]) 3).priv)), .d (D.i .i64 ((f39 4 (ByteArray.mk #[82, 111, 119]) 3).full)), .d (D.i .i64 ((f39 4 (ByteArray.mk #[82, 111, 119]) 3).level))], .row 54 [.d (D.i .u8 ((f39 5 (ByteArray.mk #[82, 101, 99]) 4).kind)), .d (D.s ((f39 5 (ByteArray.mk #[82, 101, 99]) 4).name)), .d (D.i .i64 ((f39 5 (ByteArray.mk #[82, 101, 99]) 4).parent)), .d (D.i .i64 ((f39 5 (ByteArray.mk #[82, 101, 99]) 4).first)), .d (.sl (List.map E9 ((f39 5 (ByteArray.mk #[82, 101, 99]) 4).lits))), .d (D.i .i64 ((f39 5 (ByteArray.mk #[82, 101, 99]) 4).index)), .d (D.i .i64 ((f39 5 (ByteArray.mk #[82, 101, 99]) 4).elem)), .d (D.i .i64 1), .d (D.s (ByteArray.mk #[68])), .d (D.b ((f39 5 (ByteArray.mk #[82, 101, 99]) 4).has)), .d (D.i .i64 ((f39 5 (ByteArray.mk #[82, 101, 99]) 4).default_)), .d (.sl (List.map E56 ((f39 5 (ByteArray.mk #[82, 101, 99]) 4).comps))), .d (D.i .i64 ((f39 5 (ByteArray.mk #[82, 101, 99]) 4).target)), .d (D.i .u8 ((f39 5 (ByteArray.mk #[82, 101, 99]) 4).formal)), .d (D.b ((f39 5 (ByteArray.mk #[82, 101, 99]) 4).limited)), .d (D.i .i64 ((f39 5 (ByteArray.mk #[82, 101, 99]) 4).priv)), .d (D.i .i64 ((f39 5 (ByteArray.mk #[82, 101, 99]) 4).full)), .d (D.i .i64 ((f39 5 (ByteArray.mk #[82, 101, 99]) 4).level))]]) rfl ?_
 refine WL.qn (y_fieldAddr f54_9 rfl) rfl ?_
 refine WL.s0 (d_store rfl rfl rfl rfl rfl rfl s4 rfl rfl) (Wt.none rfl) rfl ?_
 refine WL.st (st' := [.row 28 [.d (.v (.slice none 0 0)), .d (.v (.slice none 0 0)), .d (.v (SlV.v (SlV.mk none 0 0))), .d (.v (SlV.v (SlV.mk none 0 0))), .d (.v (SlV.v (SlV.mk none 0 0)))], .row 54 [.d (D.i .u8 ((f39 3 (ByteArray.mk #[67, 111, 108, 111, 114]) 1).kind)), .d (D.s ((f39 3 (ByteArray.mk #[67, 111, 108, 111, 114]) 1).name)), .d (D.i .i64 ((f39 3 (ByteArray.mk #[67, 111, 108, 111, 114]) 1).parent)), .d (D.i .i64 ((f39 3 (ByteArray.mk #[67, 111, 108, 111, 114]) 1).first)), .os 2 0, .d (D.i .i64 ((f39 3 (ByteArray.mk #[67, 111, 108, 111, 114]) 1).index)), .d (D.i .i64 ((f39 3 (ByteArray.mk #[67, 111, 108, 111, 114]) 1).elem)), .d (D.i .i64 ((f39 3 (ByteArray.mk #[67, 111, 108, 111, 114]) 1).disc)), .d (D.s ((f39 3 (ByteArray.mk #[67, 111, 108, 111, 114]) 1).discName)), .d (D.b ((f39 3 (ByteArray.mk #[67, 111, 108, 111, 114]) 1).has)), .d (D.i .i64 ((f39 3 (ByteArray.mk #[67, 111, 108, 111, 114]) 1).default_)), .d (.sl (List.map E56 ((f39 3 (ByteArray.mk #[67, 111, 108, 111, 114]) 1).comps))), .d (D.i .i64 ((f39 3 (ByteArray.mk #[67, 111, 108, 111, 114]) 1).target)), .d (D.i .u8 ((f39 3 (ByteArray.mk #[67, 111, 108, 111, 114]) 1).formal)), .d (D.b ((f39 3 (ByteArray.mk #[67, 111, 108, 111, 114]) 1).limited)), .d (D.i .i64 ((f39 3 (ByteArray.mk #[67, 111, 108, 111, 114]) 1).priv)), .d (D.i .i64 ((f39 3 (ByteArray.mk #[67, 111, 108, 111, 114]) 1).full)), .d (D.i .i64 ((f39 3 (ByteArray.mk #[67, 111, 108, 111, 114]) 1).level))], .os 9 1 0 (List.map (encA E9) [(ByteArray.mk #[82, 101, 100]), (ByteArray.mk #[71, 114, 101, 101, 110])]), .row 54 [.d (D.i .u8 ((f39 4 (ByteArray.mk #[82, 111, 119]) 3).kind)), .d (D.s ((f39 4 (ByteArray.mk #[82, 111, 119]) 3).name)), .d (D.i .i64 ((f39 4 (ByteArray.mk #[82, 111, 119]) 3).parent)), .d (D.i .i64 ((f39 4 (ByteArray.mk #[82, 111, 119]) 3).first)), .d (.sl (List.map E9 ((f39 4 (ByteArray.mk #[82, 111, 119]) 3).lits))), .d (D.i .i64 2), .d (D.i .i64 0), .d (D.i .i64 ((f39 4 (ByteArray.mk #[82, 111, 119]) 3).disc)), .d (D.s ((f39 4 (ByteArray.mk #[82, 111, 119]) 3).discName)), .d (D.b ((f39 4 (ByteArray.mk #[82, 111, 119]) 3).has)), .d (D.i .i64 ((f39 4 (ByteArray.mk #[82, 111, 119]) 3).default_)), .d (.sl (List.map E56 ((f39 4 (ByteArray.mk #[82, 111, 119]) 3).comps))), .d (D.i .i64 ((f39 4 (ByteArray.mk #[82, 111, 119]) 3).target)), .d (D.i .u8 ((f39 4 (ByteArray.mk #[82, 111, 119]) 3).formal)), .d (D.b ((f39 4 (ByteArray.mk #[82, 111, 119]) 3).limited)), .d (D.i .i64 ((f39 4 (ByteArray.mk #[82, 111, 119]) 3).priv)), .d (D.i .i64 ((f39 4 (ByteArray.mk #[82, 111, 119]) 3).full)), .d (D.i .i64 ((f39 4 (ByteArray.mk #[82, 111, 119]) 3).level))], .row 54 [.d (D.i .u8 ((f39 5 (ByteArray.mk #[82, 101, 99]) 4).kind)), .d (D.s ((f39 5 (ByteArray.mk #[82, 101, 99]) 4).name)), .d (D.i .i64 ((f39 5 (ByteArray.mk #[82, 101, 99]) 4).parent)), .d (D.i .i64 ((f39 5 (ByteArray.mk #[82, 101, 99]) 4).first)), .d (.sl (List.map E9 ((f39 5 (ByteArray.mk #[82, 101, 99]) 4).lits))), .d (D.i .i64 ((f39 5 (ByteArray.mk #[82, 101, 99]) 4).index)), .d (D.i .i64 ((f39 5 (ByteArray.mk #[82, 101, 99]) 4).elem)), .d (D.i .i64 1), .d (D.s (ByteArray.mk #[68])), .d (D.b true), .d (D.i .i64 ((f39 5 (ByteArray.mk #[82, 101, 99]) 4).default_)), .d (.sl (List.map E56 ((f39 5 (ByteArray.mk #[82, 101, 99]) 4).comps))), .d (D.i .i64 ((f39 5 (ByteArray.mk #[82, 101, 99]) 4).target)), .d (D.i .u8 ((f39 5 (ByteArray.mk #[82, 101, 99]) 4).formal)), .d (D.b ((f39 5 (ByteArray.mk #[82, 101, 99]) 4).limited)), .d (D.i .i64 ((f39 5 (ByteArray.mk #[82, 101, 99]) 4).priv)), .d (D.i .i64 ((f39 5 (ByteArray.mk #[82, 101, 99]) 4).full)), .d (D.i .i64 ((f39 5 (ByteArray.mk #[82, 101, 99]) 4).level))]]) rfl ?_
 refine WL.qn (y_fieldAddr f54_10 rfl) rfl ?_
 refine WL.s0 (d_store rfl rfl rfl rfl rfl rfl s2 rfl rfl) (Wt.none rfl) rfl ?_
 refine WL.st (st' := [.row 28 [.d (.v (.slice none 0 0)), .d (.v (.slice none 0 0)), .d (.v (SlV.v (SlV.mk none 0 0))), .d (.v (SlV.v (SlV.mk none 0 0))), .d (.v (SlV.v (SlV.mk none 0 0)))], .row 54 [.d (D.i .u8 ((f39 3 (ByteArray.mk #[67, 111, 108, 111, 114]) 1).kind)), .d (D.s ((f39 3 (ByteArray.mk #[67, 111, 108, 111, 114]) 1).name)), .d (D.i .i64 ((f39 3 (ByteArray.mk #[67, 111, 108, 111, 114]) 1).parent)), .d (D.i .i64 ((f39 3 (ByteArray.mk #[67, 111, 108, 111, 114]) 1).first)), .os 2 0, .d (D.i .i64 ((f39 3 (ByteArray.mk #[67, 111, 108, 111, 114]) 1).index)), .d (D.i .i64 ((f39 3 (ByteArray.mk #[67, 111, 108, 111, 114]) 1).elem)), .d (D.i .i64 ((f39 3 (ByteArray.mk #[67, 111, 108, 111, 114]) 1).disc)), .d (D.s ((f39 3 (ByteArray.mk #[67, 111, 108, 111, 114]) 1).discName)), .d (D.b ((f39 3 (ByteArray.mk #[67, 111, 108, 111, 114]) 1).has)), .d (D.i .i64 ((f39 3 (ByteArray.mk #[67, 111, 108, 111, 114]) 1).default_)), .d (.sl (List.map E56 ((f39 3 (ByteArray.mk #[67, 111, 108, 111, 114]) 1).comps))), .d (D.i .i64 ((f39 3 (ByteArray.mk #[67, 111, 108, 111, 114]) 1).target)), .d (D.i .u8 ((f39 3 (ByteArray.mk #[67, 111, 108, 111, 114]) 1).formal)), .d (D.b ((f39 3 (ByteArray.mk #[67, 111, 108, 111, 114]) 1).limited)), .d (D.i .i64 ((f39 3 (ByteArray.mk #[67, 111, 108, 111, 114]) 1).priv)), .d (D.i .i64 ((f39 3 (ByteArray.mk #[67, 111, 108, 111, 114]) 1).full)), .d (D.i .i64 ((f39 3 (ByteArray.mk #[67, 111, 108, 111, 114]) 1).level))], .os 9 1 0 (List.map (encA E9) [(ByteArray.mk #[82, 101, 100]), (ByteArray.mk #[71, 114, 101, 101, 110])]), .row 54 [.d (D.i .u8 ((f39 4 (ByteArray.mk #[82, 111, 119]) 3).kind)), .d (D.s ((f39 4 (ByteArray.mk #[82, 111, 119]) 3).name)), .d (D.i .i64 ((f39 4 (ByteArray.mk #[82, 111, 119]) 3).parent)), .d (D.i .i64 ((f39 4 (ByteArray.mk #[82, 111, 119]) 3).first)), .d (.sl (List.map E9 ((f39 4 (ByteArray.mk #[82, 111, 119]) 3).lits))), .d (D.i .i64 2), .d (D.i .i64 0), .d (D.i .i64 ((f39 4 (ByteArray.mk #[82, 111, 119]) 3).disc)), .d (D.s ((f39 4 (ByteArray.mk #[82, 111, 119]) 3).discName)), .d (D.b ((f39 4 (ByteArray.mk #[82, 111, 119]) 3).has)), .d (D.i .i64 ((f39 4 (ByteArray.mk #[82, 111, 119]) 3).default_)), .d (.sl (List.map E56 ((f39 4 (ByteArray.mk #[82, 111, 119]) 3).comps))), .d (D.i .i64 ((f39 4 (ByteArray.mk #[82, 111, 119]) 3).target)), .d (D.i .u8 ((f39 4 (ByteArray.mk #[82, 111, 119]) 3).formal)), .d (D.b ((f39 4 (ByteArray.mk #[82, 111, 119]) 3).limited)), .d (D.i .i64 ((f39 4 (ByteArray.mk #[82, 111, 119]) 3).priv)), .d (D.i .i64 ((f39 4 (ByteArray.mk #[82, 111, 119]) 3).full)), .d (D.i .i64 ((f39 4 (ByteArray.mk #[82, 111, 119]) 3).level))], .row 54 [.d (D.i .u8 ((f39 5 (ByteArray.mk #[82, 101, 99]) 4).kind)), .d (D.s ((f39 5 (ByteArray.mk #[82, 101, 99]) 4).name)), .d (D.i .i64 ((f39 5 (ByteArray.mk #[82, 101, 99]) 4).parent)), .d (D.i .i64 ((f39 5 (ByteArray.mk #[82, 101, 99]) 4).first)), .d (.sl (List.map E9 ((f39 5 (ByteArray.mk #[82, 101, 99]) 4).lits))), .d (D.i .i64 ((f39 5 (ByteArray.mk #[82, 101, 99]) 4).index)), .d (D.i .i64 ((f39 5 (ByteArray.mk #[82, 101, 99]) 4).elem)), .d (D.i .i64 1), .d (D.s (ByteArray.mk #[68])), .d (D.b true), .d (D.i .i64 1), .d (.sl (List.map E56 ((f39 5 (ByteArray.mk #[82, 101, 99]) 4).comps))), .d (D.i .i64 ((f39 5 (ByteArray.mk #[82, 101, 99]) 4).target)), .d (D.i .u8 ((f39 5 (ByteArray.mk #[82, 101, 99]) 4).formal)), .d (D.b ((f39 5 (ByteArray.mk #[82, 101, 99]) 4).limited)), .d (D.i .i64 ((f39 5 (ByteArray.mk #[82, 101, 99]) 4).priv)), .d (D.i .i64 ((f39 5 (ByteArray.mk #[82, 101, 99]) 4).full)), .d (D.i .i64 ((f39 5 (ByteArray.mk #[82, 101, 99]) 4).level))]]) rfl ?_
 refine WL.ns ?_
 refine wc_sr ?_
 refine WL.qn (y_build p56 z56 rfl rfl) rfl ?_
 refine WL.s ((NewOs.b (n_buildSlice l41 z2 rfl (by decide) (by decide) rfl rfl rfl (by decide))).does) (Wt.none rfl) rfl rfl ?_
 refine WL.freezeX [16] [] 5 (List.map E2 [1]) rfl (encA_map E2_eq [1]) ⟨rfl, trivial⟩ trivial ?_
 refine WL.qn (y_build p56 z56 rfl rfl) rfl ?_
 refine WL.s ((NewOs.b (NewOs.weak (es' := List.map (encA R56) [(CompRow.mk (ByteArray.mk #[120]) 0 false 0 false []), (CompRow.mk (ByteArray.mk #[121]) 2 true 7 true [1])]) (n_buildSlice l51 z56 rfl (by decide) (by decide) rfl rfl rfl (by decide)) (by exact ⟨⟨(Le.refl _), (Le.refl _), (Le.refl _), (Le.refl _), (Le.refl _), Le.nil, trivial⟩, ⟨(Le.refl _), (Le.refl _), (Le.refl _), (Le.refl _), (Le.refl _), (Le.refl _), trivial⟩, trivial⟩))).does) (Wt.none rfl) rfl rfl ?_
 refine WL.qn (y_fieldAddr f54_11 rfl) rfl ?_
 refine WL.s0 (d_store1 rfl rfl rfl (one_os rfl) s51 rfl) (Wt.none rfl) rfl ?_
 refine WL.st (st' := [.row 28 [.d (.v (.slice none 0 0)), .d (.v (.slice none 0 0)), .d (.v (SlV.v (SlV.mk none 0 0))), .d (.v (SlV.v (SlV.mk none 0 0))), .d (.v (SlV.v (SlV.mk none 0 0)))], .row 54 [.d (D.i .u8 ((f39 3 (ByteArray.mk #[67, 111, 108, 111, 114]) 1).kind)), .d (D.s ((f39 3 (ByteArray.mk #[67, 111, 108, 111, 114]) 1).name)), .d (D.i .i64 ((f39 3 (ByteArray.mk #[67, 111, 108, 111, 114]) 1).parent)), .d (D.i .i64 ((f39 3 (ByteArray.mk #[67, 111, 108, 111, 114]) 1).first)), .os 2 0, .d (D.i .i64 ((f39 3 (ByteArray.mk #[67, 111, 108, 111, 114]) 1).index)), .d (D.i .i64 ((f39 3 (ByteArray.mk #[67, 111, 108, 111, 114]) 1).elem)), .d (D.i .i64 ((f39 3 (ByteArray.mk #[67, 111, 108, 111, 114]) 1).disc)), .d (D.s ((f39 3 (ByteArray.mk #[67, 111, 108, 111, 114]) 1).discName)), .d (D.b ((f39 3 (ByteArray.mk #[67, 111, 108, 111, 114]) 1).has)), .d (D.i .i64 ((f39 3 (ByteArray.mk #[67, 111, 108, 111, 114]) 1).default_)), .d (.sl (List.map E56 ((f39 3 (ByteArray.mk #[67, 111, 108, 111, 114]) 1).comps))), .d (D.i .i64 ((f39 3 (ByteArray.mk #[67, 111, 108, 111, 114]) 1).target)), .d (D.i .u8 ((f39 3 (ByteArray.mk #[67, 111, 108, 111, 114]) 1).formal)), .d (D.b ((f39 3 (ByteArray.mk #[67, 111, 108, 111, 114]) 1).limited)), .d (D.i .i64 ((f39 3 (ByteArray.mk #[67, 111, 108, 111, 114]) 1).priv)), .d (D.i .i64 ((f39 3 (ByteArray.mk #[67, 111, 108, 111, 114]) 1).full)), .d (D.i .i64 ((f39 3 (ByteArray.mk #[67, 111, 108, 111, 114]) 1).level))], .os 9 1 0 (List.map (encA E9) [(ByteArray.mk #[82, 101, 100]), (ByteArray.mk #[71, 114, 101, 101, 110])]), .row 54 [.d (D.i .u8 ((f39 4 (ByteArray.mk #[82, 111, 119]) 3).kind)), .d (D.s ((f39 4 (ByteArray.mk #[82, 111, 119]) 3).name)), .d (D.i .i64 ((f39 4 (ByteArray.mk #[82, 111, 119]) 3).parent)), .d (D.i .i64 ((f39 4 (ByteArray.mk #[82, 111, 119]) 3).first)), .d (.sl (List.map E9 ((f39 4 (ByteArray.mk #[82, 111, 119]) 3).lits))), .d (D.i .i64 2), .d (D.i .i64 0), .d (D.i .i64 ((f39 4 (ByteArray.mk #[82, 111, 119]) 3).disc)), .d (D.s ((f39 4 (ByteArray.mk #[82, 111, 119]) 3).discName)), .d (D.b ((f39 4 (ByteArray.mk #[82, 111, 119]) 3).has)), .d (D.i .i64 ((f39 4 (ByteArray.mk #[82, 111, 119]) 3).default_)), .d (.sl (List.map E56 ((f39 4 (ByteArray.mk #[82, 111, 119]) 3).comps))), .d (D.i .i64 ((f39 4 (ByteArray.mk #[82, 111, 119]) 3).target)), .d (D.i .u8 ((f39 4 (ByteArray.mk #[82, 111, 119]) 3).formal)), .d (D.b ((f39 4 (ByteArray.mk #[82, 111, 119]) 3).limited)), .d (D.i .i64 ((f39 4 (ByteArray.mk #[82, 111, 119]) 3).priv)), .d (D.i .i64 ((f39 4 (ByteArray.mk #[82, 111, 119]) 3).full)), .d (D.i .i64 ((f39 4 (ByteArray.mk #[82, 111, 119]) 3).level))], .row 54 [.d (D.i .u8 ((f39 5 (ByteArray.mk #[82, 101, 99]) 4).kind)), .d (D.s ((f39 5 (ByteArray.mk #[82, 101, 99]) 4).name)), .d (D.i .i64 ((f39 5 (ByteArray.mk #[82, 101, 99]) 4).parent)), .d (D.i .i64 ((f39 5 (ByteArray.mk #[82, 101, 99]) 4).first)), .d (.sl (List.map E9 ((f39 5 (ByteArray.mk #[82, 101, 99]) 4).lits))), .d (D.i .i64 ((f39 5 (ByteArray.mk #[82, 101, 99]) 4).index)), .d (D.i .i64 ((f39 5 (ByteArray.mk #[82, 101, 99]) 4).elem)), .d (D.i .i64 1), .d (D.s (ByteArray.mk #[68])), .d (D.b true), .d (D.i .i64 1), .os 6 0, .d (D.i .i64 ((f39 5 (ByteArray.mk #[82, 101, 99]) 4).target)), .d (D.i .u8 ((f39 5 (ByteArray.mk #[82, 101, 99]) 4).formal)), .d (D.b ((f39 5 (ByteArray.mk #[82, 101, 99]) 4).limited)), .d (D.i .i64 ((f39 5 (ByteArray.mk #[82, 101, 99]) 4).priv)), .d (D.i .i64 ((f39 5 (ByteArray.mk #[82, 101, 99]) 4).full)), .d (D.i .i64 ((f39 5 (ByteArray.mk #[82, 101, 99]) 4).level))], .dead, .os 56 6 0 (List.map (encA R56) [(CompRow.mk (ByteArray.mk #[120]) 0 false 0 false []), (CompRow.mk (ByteArray.mk #[121]) 2 true 7 true [1])])]) rfl ?_
 refine WL.ns ?_
 refine wc_seq ?_
 refine WC.freezeX [5] [(1, 4)] 2 (List.map E9 [(ByteArray.mk #[82, 101, 100]), (ByteArray.mk #[71, 114, 101, 101, 110])]) rfl (encA_map E9_eq [(ByteArray.mk #[82, 101, 100]), (ByteArray.mk #[71, 114, 101, 101, 110])]) ⟨rfl, trivial⟩ ⟨_, _, rfl, rfl, trivial⟩ ?_
 refine WC.freezeX [18] [(4, 11)] 6 (List.map E56 [(CompRow.mk (ByteArray.mk #[120]) 0 false 0 false []), (CompRow.mk (ByteArray.mk #[121]) 2 true 7 true [1])]) rfl (encA_map E56_eq [(CompRow.mk (ByteArray.mk #[120]) 0 false 0 false []), (CompRow.mk (ByteArray.mk #[121]) 2 true 7 true [1])]) ⟨rfl, trivial⟩ ⟨_, _, rfl, rfl, trivial⟩ ?_
 apply wc_region_all [_, _, _, _, _, _, _, _, _, _, _, _, _, _, .u] [[], [0], [], [], [], [0, 1, 2, 3, 4], [], [], [], [], [], [], [6, 7, 8, 9, 10, 11], [0, 1, 2, 3, 4, 5, 6, 7, 8, 9, 10, 11, 12], [0, 1, 2, 3, 4, 5, 6, 7, 8, 9, 10, 11, 12, 13]] [14] (fun c => List.getD [[.row 28 [.d (.v (.slice none 0 0)), .d (.v (.slice none 0 0)), .d (.v (SlV.v (SlV.mk none 0 0))), .d (.v (SlV.v (SlV.mk none 0 0))), .d (.v (SlV.v (SlV.mk none 0 0)))], .row 54 [.d (D.i .u8 ((f39 3 (ByteArray.mk #[67, 111, 108, 111, 114]) 1).kind)), .d (D.s ((f39 3 (ByteArray.mk #[67, 111, 108, 111, 114]) 1).name)), .d (D.i .i64 ((f39 3 (ByteArray.mk #[67, 111, 108, 111, 114]) 1).parent)), .d (D.i .i64 ((f39 3 (ByteArray.mk #[67, 111, 108, 111, 114]) 1).first)), .d (.sl (List.map E9 [(ByteArray.mk #[82, 101, 100]), (ByteArray.mk #[71, 114, 101, 101, 110])])), .d (D.i .i64 ((f39 3 (ByteArray.mk #[67, 111, 108, 111, 114]) 1).index)), .d (D.i .i64 ((f39 3 (ByteArray.mk #[67, 111, 108, 111, 114]) 1).elem)), .d (D.i .i64 ((f39 3 (ByteArray.mk #[67, 111, 108, 111, 114]) 1).disc)), .d (D.s ((f39 3 (ByteArray.mk #[67, 111, 108, 111, 114]) 1).discName)), .d (D.b ((f39 3 (ByteArray.mk #[67, 111, 108, 111, 114]) 1).has)), .d (D.i .i64 ((f39 3 (ByteArray.mk #[67, 111, 108, 111, 114]) 1).default_)), .d (.sl (List.map E56 ((f39 3 (ByteArray.mk #[67, 111, 108, 111, 114]) 1).comps))), .d (D.i .i64 ((f39 3 (ByteArray.mk #[67, 111, 108, 111, 114]) 1).target)), .d (D.i .u8 ((f39 3 (ByteArray.mk #[67, 111, 108, 111, 114]) 1).formal)), .d (D.b ((f39 3 (ByteArray.mk #[67, 111, 108, 111, 114]) 1).limited)), .d (D.i .i64 ((f39 3 (ByteArray.mk #[67, 111, 108, 111, 114]) 1).priv)), .d (D.i .i64 ((f39 3 (ByteArray.mk #[67, 111, 108, 111, 114]) 1).full)), .d (D.i .i64 ((f39 3 (ByteArray.mk #[67, 111, 108, 111, 114]) 1).level))], .dead, .row 54 [.d (D.i .u8 ((f39 4 (ByteArray.mk #[82, 111, 119]) 3).kind)), .d (D.s ((f39 4 (ByteArray.mk #[82, 111, 119]) 3).name)), .d (D.i .i64 ((f39 4 (ByteArray.mk #[82, 111, 119]) 3).parent)), .d (D.i .i64 ((f39 4 (ByteArray.mk #[82, 111, 119]) 3).first)), .d (.sl (List.map E9 ((f39 4 (ByteArray.mk #[82, 111, 119]) 3).lits))), .d (D.i .i64 2), .d (D.i .i64 0), .d (D.i .i64 ((f39 4 (ByteArray.mk #[82, 111, 119]) 3).disc)), .d (D.s ((f39 4 (ByteArray.mk #[82, 111, 119]) 3).discName)), .d (D.b ((f39 4 (ByteArray.mk #[82, 111, 119]) 3).has)), .d (D.i .i64 ((f39 4 (ByteArray.mk #[82, 111, 119]) 3).default_)), .d (.sl (List.map E56 ((f39 4 (ByteArray.mk #[82, 111, 119]) 3).comps))), .d (D.i .i64 ((f39 4 (ByteArray.mk #[82, 111, 119]) 3).target)), .d (D.i .u8 ((f39 4 (ByteArray.mk #[82, 111, 119]) 3).formal)), .d (D.b ((f39 4 (ByteArray.mk #[82, 111, 119]) 3).limited)), .d (D.i .i64 ((f39 4 (ByteArray.mk #[82, 111, 119]) 3).priv)), .d (D.i .i64 ((f39 4 (ByteArray.mk #[82, 111, 119]) 3).full)), .d (D.i .i64 ((f39 4 (ByteArray.mk #[82, 111, 119]) 3).level))], .row 54 [.d (D.i .u8 ((f39 5 (ByteArray.mk #[82, 101, 99]) 4).kind)), .d (D.s ((f39 5 (ByteArray.mk #[82, 101, 99]) 4).name)), .d (D.i .i64 ((f39 5 (ByteArray.mk #[82, 101, 99]) 4).parent)), .d (D.i .i64 ((f39 5 (ByteArray.mk #[82, 101, 99]) 4).first)), .d (.sl (List.map E9 ((f39 5 (ByteArray.mk #[82, 101, 99]) 4).lits))), .d (D.i .i64 ((f39 5 (ByteArray.mk #[82, 101, 99]) 4).index)), .d (D.i .i64 ((f39 5 (ByteArray.mk #[82, 101, 99]) 4).elem)), .d (D.i .i64 1), .d (D.s (ByteArray.mk #[68])), .d (D.b true), .d (D.i .i64 1), .d (.sl (List.map E56 [(CompRow.mk (ByteArray.mk #[120]) 0 false 0 false []), (CompRow.mk (ByteArray.mk #[121]) 2 true 7 true [1])])), .d (D.i .i64 ((f39 5 (ByteArray.mk #[82, 101, 99]) 4).target)), .d (D.i .u8 ((f39 5 (ByteArray.mk #[82, 101, 99]) 4).formal)), .d (D.b ((f39 5 (ByteArray.mk #[82, 101, 99]) 4).limited)), .d (D.i .i64 ((f39 5 (ByteArray.mk #[82, 101, 99]) 4).priv)), .d (D.i .i64 ((f39 5 (ByteArray.mk #[82, 101, 99]) 4).full)), .d (D.i .i64 ((f39 5 (ByteArray.mk #[82, 101, 99]) 4).level))], .dead, .dead], [.row 28 [.d (.sl (List.map E54 [(f37 1), (f39 2 (ByteArray.mk #[73, 110, 116, 101, 103, 101, 114]) 0), (Ty.mk ((f39 3 (ByteArray.mk #[67, 111, 108, 111, 114]) 1).kind) ((f39 3 (ByteArray.mk #[67, 111, 108, 111, 114]) 1).name) ((f39 3 (ByteArray.mk #[67, 111, 108, 111, 114]) 1).parent) ((f39 3 (ByteArray.mk #[67, 111, 108, 111, 114]) 1).first) [(ByteArray.mk #[82, 101, 100]), (ByteArray.mk #[71, 114, 101, 101, 110])] ((f39 3 (ByteArray.mk #[67, 111, 108, 111, 114]) 1).index) ((f39 3 (ByteArray.mk #[67, 111, 108, 111, 114]) 1).elem) ((f39 3 (ByteArray.mk #[67, 111, 108, 111, 114]) 1).disc) ((f39 3 (ByteArray.mk #[67, 111, 108, 111, 114]) 1).discName) ((f39 3 (ByteArray.mk #[67, 111, 108, 111, 114]) 1).has) ((f39 3 (ByteArray.mk #[67, 111, 108, 111, 114]) 1).default_) ((f39 3 (ByteArray.mk #[67, 111, 108, 111, 114]) 1).comps) ((f39 3 (ByteArray.mk #[67, 111, 108, 111, 114]) 1).target) ((f39 3 (ByteArray.mk #[67, 111, 108, 111, 114]) 1).formal) ((f39 3 (ByteArray.mk #[67, 111, 108, 111, 114]) 1).limited) ((f39 3 (ByteArray.mk #[67, 111, 108, 111, 114]) 1).priv) ((f39 3 (ByteArray.mk #[67, 111, 108, 111, 114]) 1).full) ((f39 3 (ByteArray.mk #[67, 111, 108, 111, 114]) 1).level)), (Ty.mk ((f39 4 (ByteArray.mk #[82, 111, 119]) 3).kind) ((f39 4 (ByteArray.mk #[82, 111, 119]) 3).name) ((f39 4 (ByteArray.mk #[82, 111, 119]) 3).parent) ((f39 4 (ByteArray.mk #[82, 111, 119]) 3).first) ((f39 4 (ByteArray.mk #[82, 111, 119]) 3).lits) 2 0 ((f39 4 (ByteArray.mk #[82, 111, 119]) 3).disc) ((f39 4 (ByteArray.mk #[82, 111, 119]) 3).discName) ((f39 4 (ByteArray.mk #[82, 111, 119]) 3).has) ((f39 4 (ByteArray.mk #[82, 111, 119]) 3).default_) ((f39 4 (ByteArray.mk #[82, 111, 119]) 3).comps) ((f39 4 (ByteArray.mk #[82, 111, 119]) 3).target) ((f39 4 (ByteArray.mk #[82, 111, 119]) 3).formal) ((f39 4 (ByteArray.mk #[82, 111, 119]) 3).limited) ((f39 4 (ByteArray.mk #[82, 111, 119]) 3).priv) ((f39 4 (ByteArray.mk #[82, 111, 119]) 3).full) ((f39 4 (ByteArray.mk #[82, 111, 119]) 3).level)), (Ty.mk ((f39 5 (ByteArray.mk #[82, 101, 99]) 4).kind) ((f39 5 (ByteArray.mk #[82, 101, 99]) 4).name) ((f39 5 (ByteArray.mk #[82, 101, 99]) 4).parent) ((f39 5 (ByteArray.mk #[82, 101, 99]) 4).first) ((f39 5 (ByteArray.mk #[82, 101, 99]) 4).lits) ((f39 5 (ByteArray.mk #[82, 101, 99]) 4).index) ((f39 5 (ByteArray.mk #[82, 101, 99]) 4).elem) 1 (ByteArray.mk #[68]) true 1 [(CompRow.mk (ByteArray.mk #[120]) 0 false 0 false []), (CompRow.mk (ByteArray.mk #[121]) 2 true 7 true [1])] ((f39 5 (ByteArray.mk #[82, 101, 99]) 4).target) ((f39 5 (ByteArray.mk #[82, 101, 99]) 4).formal) ((f39 5 (ByteArray.mk #[82, 101, 99]) 4).limited) ((f39 5 (ByteArray.mk #[82, 101, 99]) 4).priv) ((f39 5 (ByteArray.mk #[82, 101, 99]) 4).full) ((f39 5 (ByteArray.mk #[82, 101, 99]) 4).level))])), .d (.sl (List.map E40 [(Subt.mk 1 (-2147483648) 2147483647), (Subt.mk 2 0 1), (Subt.mk 1 5 9), (Subt.mk 3 0 0), (Subt.mk 4 0 (-1)), (Subt.mk 4 0 0)])), .d (.v (SlV.v (SlV.mk none 0 0))), .d (.v (SlV.v (SlV.mk none 0 0))), .d (.v (SlV.v (SlV.mk none 0 0)))], .row 54 [.d (D.i .u8 ((f39 3 (ByteArray.mk #[67, 111, 108, 111, 114]) 1).kind)), .d (D.s ((f39 3 (ByteArray.mk #[67, 111, 108, 111, 114]) 1).name)), .d (D.i .i64 ((f39 3 (ByteArray.mk #[67, 111, 108, 111, 114]) 1).parent)), .d (D.i .i64 ((f39 3 (ByteArray.mk #[67, 111, 108, 111, 114]) 1).first)), .d (.sl (List.map E9 [(ByteArray.mk #[82, 101, 100]), (ByteArray.mk #[71, 114, 101, 101, 110])])), .d (D.i .i64 ((f39 3 (ByteArray.mk #[67, 111, 108, 111, 114]) 1).index)), .d (D.i .i64 ((f39 3 (ByteArray.mk #[67, 111, 108, 111, 114]) 1).elem)), .d (D.i .i64 ((f39 3 (ByteArray.mk #[67, 111, 108, 111, 114]) 1).disc)), .d (D.s ((f39 3 (ByteArray.mk #[67, 111, 108, 111, 114]) 1).discName)), .d (D.b ((f39 3 (ByteArray.mk #[67, 111, 108, 111, 114]) 1).has)), .d (D.i .i64 ((f39 3 (ByteArray.mk #[67, 111, 108, 111, 114]) 1).default_)), .d (.sl (List.map E56 ((f39 3 (ByteArray.mk #[67, 111, 108, 111, 114]) 1).comps))), .d (D.i .i64 ((f39 3 (ByteArray.mk #[67, 111, 108, 111, 114]) 1).target)), .d (D.i .u8 ((f39 3 (ByteArray.mk #[67, 111, 108, 111, 114]) 1).formal)), .d (D.b ((f39 3 (ByteArray.mk #[67, 111, 108, 111, 114]) 1).limited)), .d (D.i .i64 ((f39 3 (ByteArray.mk #[67, 111, 108, 111, 114]) 1).priv)), .d (D.i .i64 ((f39 3 (ByteArray.mk #[67, 111, 108, 111, 114]) 1).full)), .d (D.i .i64 ((f39 3 (ByteArray.mk #[67, 111, 108, 111, 114]) 1).level))], .dead, .row 54 [.d (D.i .u8 ((f39 4 (ByteArray.mk #[82, 111, 119]) 3).kind)), .d (D.s ((f39 4 (ByteArray.mk #[82, 111, 119]) 3).name)), .d (D.i .i64 ((f39 4 (ByteArray.mk #[82, 111, 119]) 3).parent)), .d (D.i .i64 ((f39 4 (ByteArray.mk #[82, 111, 119]) 3).first)), .d (.sl (List.map E9 ((f39 4 (ByteArray.mk #[82, 111, 119]) 3).lits))), .d (D.i .i64 2), .d (D.i .i64 0), .d (D.i .i64 ((f39 4 (ByteArray.mk #[82, 111, 119]) 3).disc)), .d (D.s ((f39 4 (ByteArray.mk #[82, 111, 119]) 3).discName)), .d (D.b ((f39 4 (ByteArray.mk #[82, 111, 119]) 3).has)), .d (D.i .i64 ((f39 4 (ByteArray.mk #[82, 111, 119]) 3).default_)), .d (.sl (List.map E56 ((f39 4 (ByteArray.mk #[82, 111, 119]) 3).comps))), .d (D.i .i64 ((f39 4 (ByteArray.mk #[82, 111, 119]) 3).target)), .d (D.i .u8 ((f39 4 (ByteArray.mk #[82, 111, 119]) 3).formal)), .d (D.b ((f39 4 (ByteArray.mk #[82, 111, 119]) 3).limited)), .d (D.i .i64 ((f39 4 (ByteArray.mk #[82, 111, 119]) 3).priv)), .d (D.i .i64 ((f39 4 (ByteArray.mk #[82, 111, 119]) 3).full)), .d (D.i .i64 ((f39 4 (ByteArray.mk #[82, 111, 119]) 3).level))], .row 54 [.d (D.i .u8 ((f39 5 (ByteArray.mk #[82, 101, 99]) 4).kind)), .d (D.s ((f39 5 (ByteArray.mk #[82, 101, 99]) 4).name)), .d (D.i .i64 ((f39 5 (ByteArray.mk #[82, 101, 99]) 4).parent)), .d (D.i .i64 ((f39 5 (ByteArray.mk #[82, 101, 99]) 4).first)), .d (.sl (List.map E9 ((f39 5 (ByteArray.mk #[82, 101, 99]) 4).lits))), .d (D.i .i64 ((f39 5 (ByteArray.mk #[82, 101, 99]) 4).index)), .d (D.i .i64 ((f39 5 (ByteArray.mk #[82, 101, 99]) 4).elem)), .d (D.i .i64 1), .d (D.s (ByteArray.mk #[68])), .d (D.b true), .d (D.i .i64 1), .d (.sl (List.map E56 [(CompRow.mk (ByteArray.mk #[120]) 0 false 0 false []), (CompRow.mk (ByteArray.mk #[121]) 2 true 7 true [1])])), .d (D.i .i64 ((f39 5 (ByteArray.mk #[82, 101, 99]) 4).target)), .d (D.i .u8 ((f39 5 (ByteArray.mk #[82, 101, 99]) 4).formal)), .d (D.b ((f39 5 (ByteArray.mk #[82, 101, 99]) 4).limited)), .d (D.i .i64 ((f39 5 (ByteArray.mk #[82, 101, 99]) 4).priv)), .d (D.i .i64 ((f39 5 (ByteArray.mk #[82, 101, 99]) 4).full)), .d (D.i .i64 ((f39 5 (ByteArray.mk #[82, 101, 99]) 4).level))], .dead, .dead]] c []) [([], [], [0]), ([], [], [0]), ([], [1], [0]), ([], [2], [0]), ([], [3], [0]), ([0, 1, 2, 3, 4], [], [0]), ([], [], [0]), ([], [], [0]), ([], [], [0]), ([], [], [0]), ([], [], [0]), ([], [], [0]), ([6, 7, 8, 9, 10, 11], [], [0]), ([5, 12], [], [0]), ([13], [0], [0])] (by kernel_rfl) (by kernel_rfl) rfl rfl rfl
 ·refine ⟨?_, ?_, ?_, ?_, ?_, ?_, ?_, ?_, ?_, ?_, ?_, ?_, ?_, ?_, ?_, trivial⟩
  ·refine ⟨fun F => ?_, trivial⟩
   refine WL.fn rfl rfl rfl rfl (f37_c _) ⟨(Le.refl _), trivial⟩ (Wt.none rfl) rfl rfl ?_
   exact WL.done1 rfl rfl rfl
  ·refine ⟨fun F => ?_, trivial⟩
   refine WL.fn rfl rfl rfl rfl (f39_c _ _ _) ⟨(Le.refl _), (Le.refl _), (Le.refl _), trivial⟩ (Wt.none rfl) rfl rfl ?_
   exact WL.done1 rfl rfl rfl
  ·refine ⟨fun F => ?_, trivial⟩
   refine WL.qn (y_loadN rfl rfl a54 s54 rfl) rfl ?_
   exact WL.done1 rfl rfl rfl
  ·refine ⟨fun F => ?_, trivial⟩
   refine WL.qn (y_loadN rfl rfl a54 s54 rfl) rfl ?_
   exact WL.done1 rfl rfl rfl
  ·refine ⟨fun F => ?_, trivial⟩
   refine WL.qn (y_loadN rfl rfl a54 s54 rfl) rfl ?_
   exact WL.done1 rfl rfl rfl
  ·refine ⟨fun F => ?_, trivial⟩
   refine WL.s ((NewOs.data (n_buildSlice l22 z54 rfl (by decide) (by decide) rfl rfl rfl (by decide)) (by exact encA_map E54_eq [(f37 1), (f39 2 (ByteArray.mk #[73, 110, 116, 101, 103, 101, 114]) 0), (Ty.mk ((f39 3 (ByteArray.mk #[67, 111, 108, 111, 114]) 1).kind) ((f39 3 (ByteArray.mk #[67, 111, 108, 111, 114]) 1).name) ((f39 3 (ByteArray.mk #[67, 111, 108, 111, 114]) 1).parent) ((f39 3 (ByteArray.mk #[67, 111, 108, 111, 114]) 1).first) [(ByteArray.mk #[82, 101, 100]), (ByteArray.mk #[71, 114, 101, 101, 110])] ((f39 3 (ByteArray.mk #[67, 111, 108, 111, 114]) 1).index) ((f39 3 (ByteArray.mk #[67, 111, 108, 111, 114]) 1).elem) ((f39 3 (ByteArray.mk #[67, 111, 108, 111, 114]) 1).disc) ((f39 3 (ByteArray.mk #[67, 111, 108, 111, 114]) 1).discName) ((f39 3 (ByteArray.mk #[67, 111, 108, 111, 114]) 1).has) ((f39 3 (ByteArray.mk #[67, 111, 108, 111, 114]) 1).default_) ((f39 3 (ByteArray.mk #[67, 111, 108, 111, 114]) 1).comps) ((f39 3 (ByteArray.mk #[67, 111, 108, 111, 114]) 1).target) ((f39 3 (ByteArray.mk #[67, 111, 108, 111, 114]) 1).formal) ((f39 3 (ByteArray.mk #[67, 111, 108, 111, 114]) 1).limited) ((f39 3 (ByteArray.mk #[67, 111, 108, 111, 114]) 1).priv) ((f39 3 (ByteArray.mk #[67, 111, 108, 111, 114]) 1).full) ((f39 3 (ByteArray.mk #[67, 111, 108, 111, 114]) 1).level)), (Ty.mk ((f39 4 (ByteArray.mk #[82, 111, 119]) 3).kind) ((f39 4 (ByteArray.mk #[82, 111, 119]) 3).name) ((f39 4 (ByteArray.mk #[82, 111, 119]) 3).parent) ((f39 4 (ByteArray.mk #[82, 111, 119]) 3).first) ((f39 4 (ByteArray.mk #[82, 111, 119]) 3).lits) 2 0 ((f39 4 (ByteArray.mk #[82, 111, 119]) 3).disc) ((f39 4 (ByteArray.mk #[82, 111, 119]) 3).discName) ((f39 4 (ByteArray.mk #[82, 111, 119]) 3).has) ((f39 4 (ByteArray.mk #[82, 111, 119]) 3).default_) ((f39 4 (ByteArray.mk #[82, 111, 119]) 3).comps) ((f39 4 (ByteArray.mk #[82, 111, 119]) 3).target) ((f39 4 (ByteArray.mk #[82, 111, 119]) 3).formal) ((f39 4 (ByteArray.mk #[82, 111, 119]) 3).limited) ((f39 4 (ByteArray.mk #[82, 111, 119]) 3).priv) ((f39 4 (ByteArray.mk #[82, 111, 119]) 3).full) ((f39 4 (ByteArray.mk #[82, 111, 119]) 3).level)), (Ty.mk ((f39 5 (ByteArray.mk #[82, 101, 99]) 4).kind) ((f39 5 (ByteArray.mk #[82, 101, 99]) 4).name) ((f39 5 (ByteArray.mk #[82, 101, 99]) 4).parent) ((f39 5 (ByteArray.mk #[82, 101, 99]) 4).first) ((f39 5 (ByteArray.mk #[82, 101, 99]) 4).lits) ((f39 5 (ByteArray.mk #[82, 101, 99]) 4).index) ((f39 5 (ByteArray.mk #[82, 101, 99]) 4).elem) 1 (ByteArray.mk #[68]) true 1 [(CompRow.mk (ByteArray.mk #[120]) 0 false 0 false []), (CompRow.mk (ByteArray.mk #[121]) 2 true 7 true [1])] ((f39 5 (ByteArray.mk #[82, 101, 99]) 4).target) ((f39 5 (ByteArray.mk #[82, 101, 99]) 4).formal) ((f39 5 (ByteArray.mk #[82, 101, 99]) 4).limited) ((f39 5 (ByteArray.mk #[82, 101, 99]) 4).priv) ((f39 5 (ByteArray.mk #[82, 101, 99]) 4).full) ((f39 5 (ByteArray.mk #[82, 101, 99]) 4).level))])).does) (Wt.none rfl) rfl rfl ?_
   exact WL.done1 rfl rfl rfl
  ·refine ⟨fun F => ?_, trivial⟩
   refine WL.qn (y_build p40 z40 rfl rfl) rfl ?_
   exact WL.done1 rfl rfl rfl
  ·refine ⟨fun F => ?_, trivial⟩
   refine WL.qn (y_build p40 z40 rfl rfl) rfl ?_
   exact WL.done1 rfl rfl rfl
  ·refine ⟨fun F => ?_, trivial⟩
   refine WL.qn (y_build p40 z40 rfl rfl) rfl ?_
   exact WL.done1 rfl rfl rfl
  ·refine ⟨fun F => ?_, trivial⟩
   refine WL.qn (y_build p40 z40 rfl rfl) rfl ?_
   exact WL.done1 rfl rfl rfl
  ·refine ⟨fun F => ?_, trivial⟩
   refine WL.qn (y_build p40 z40 rfl rfl) rfl ?_
   exact WL.done1 rfl rfl rfl
  ·refine ⟨fun F => ?_, trivial⟩
   refine WL.qn (y_build p40 z40 rfl rfl) rfl ?_
   exact WL.done1 rfl rfl rfl
  ·refine ⟨fun F => ?_, trivial⟩
   refine WL.s ((NewOs.data (n_buildSlice l23 z40 rfl (by decide) (by decide) rfl rfl rfl (by decide)) (by exact encA_map E40_eq [(Subt.mk 1 (-2147483648) 2147483647), (Subt.mk 2 0 1), (Subt.mk 1 5 9), (Subt.mk 3 0 0), (Subt.mk 4 0 (-1)), (Subt.mk 4 0 0)])).does) (Wt.none rfl) rfl rfl ?_
   exact WL.done1 rfl rfl rfl
  ·refine ⟨fun F => ?_, trivial⟩
   refine WL.qn (y_build p28 z28 rfl rfl) rfl ?_
   exact WL.done1 rfl rfl rfl
  ·refine ⟨fun F => ?_, trivial⟩
   refine WL.s0 (d_store rfl rfl rfl rfl rfl rfl s28 rfl rfl) (Wt.none rfl) rfl ?_
   exact WL.done0 rfl rfl
 ·refine we_seq ?_
  refine wc_ret ?_
  subst h
  exact we_ret_fn (rs1 rfl (rv_cN rfl rfl a28 s28 rfl)) (Le.agd ⟨(Le.refl _), (Le.refl _), (Le.refl _), (Le.refl _), (Le.refl _), trivial⟩)

theorem f17_c  {r : Bool} (h : f17  = some r) : Pu Tryd.prog 17 [] (.b r) := by
 unfold f17 at h
 refine fn_intro Tryd.func17 (by kernel_rfl) rfl rfl rfl (fun φφ ww => ?_)
 refine wc_sr ?_
 refine WL.as rfl rfl ?_
 refine WL.ns ?_
 refine wc_sr ?_
 refine WL.fn rfl rfl rfl rfl (f38_c) trivial (Wt.none rfl) rfl rfl ?_
 refine WL.s ((b_alloc z28).does) (Wt.none rfl) rfl rfl ?_
 refine WL.s0 (d_store rfl rfl rfl rfl rfl rfl s28 rfl rfl) (Wt.none rfl) rfl ?_
 refine WL.ns ?_
 refine wc_sr ?_
 refine WL.qn (y_loadN rfl rfl a28 s28 rfl) rfl ?_
 obtain ⟨r124, hr124, h⟩ := bindS h
 refine WL.fn rfl rfl rfl rfl (f11_c _ _ _ hr124) ⟨(Le.agd ⟨(Le.refl _), (Le.refl _), (Le.refl _), (Le.refl _), (Le.refl _), trivial⟩), (Le.refl _), (Le.refl _), trivial⟩ (Wt.none rfl) rfl rfl ?_
 refine WL.mv rfl rfl ?_
 refine WL.qn (y_extractd rfl rfl) rfl ?_
 refine WL.qn (y_extractd rfl rfl) rfl ?_
 refine WL.as rfl rfl ?_
 refine WL.as rfl rfl ?_
 refine WL.ns ?_
 refine wc_sr ?_
 refine WL.qn (y_loadN rfl rfl a28 s28 rfl) rfl ?_
 obtain ⟨r125, hr125, h⟩ := bindS h
 refine WL.fn rfl rfl rfl rfl (f11_c _ _ _ hr125) ⟨(Le.agd ⟨(Le.refl _), (Le.refl _), (Le.refl _), (Le.refl _), (Le.refl _), trivial⟩), (Le.refl _), (Le.refl _), trivial⟩ (Wt.none rfl) rfl rfl ?_
 refine WL.mv rfl rfl ?_
 refine WL.qn (y_extractd rfl rfl) rfl ?_
 refine WL.qn (y_extractd rfl rfl) rfl ?_
 refine WL.as rfl rfl ?_
 refine WL.as rfl rfl ?_
 refine WL.ns ?_
 refine wc_sr ?_
 refine WL.qn (y_loadN rfl rfl a28 s28 rfl) rfl ?_
 obtain ⟨r126, hr126, h⟩ := bindS h
 refine WL.fn rfl rfl rfl rfl (f13_c _ _ _ hr126) ⟨(Le.agd ⟨(Le.refl _), (Le.refl _), (Le.refl _), (Le.refl _), (Le.refl _), trivial⟩), (Le.refl _), (Le.refl _), trivial⟩ (Wt.none rfl) rfl rfl ?_
 refine WL.mv rfl rfl ?_
 refine WL.qn (y_extractd rfl rfl) rfl ?_
 refine WL.qn (y_extractd rfl rfl) rfl ?_
 refine WL.as rfl rfl ?_
 refine WL.as rfl rfl ?_
 refine WL.ns ?_
 refine wc_sr ?_
 refine WL.qn (y_loadN rfl rfl a28 s28 rfl) rfl ?_
 obtain ⟨r127, hr127, h⟩ := bindS h
 refine WL.fn rfl rfl rfl rfl (f29_c _ _ hr127) ⟨(Le.agd ⟨(Le.refl _), (Le.refl _), (Le.refl _), (Le.refl _), (Le.refl _), trivial⟩), (Le.refl _), trivial⟩ (Wt.none rfl) rfl rfl ?_
 refine WL.qn (y_eql rfl rfl) rfl ?_
 refine WL.mv rfl rfl ?_
 obtain ⟨b128, hb128, h⟩ := bindS h
 apply WL.grp 4 (t := 30) (d := 34) (z := b128)
 ·exact rfl
 ·intro hg30
  have h := condT hb128 hg30
  refine WL.qy (y_loadN rfl rfl a28 s28 rfl) rfl rfl rfl ?_
  obtain ⟨r129, hr129, h⟩ := bindS h
  refine WL.fn rfl rfl rfl rfl (f29_c _ _ hr129) ⟨(Le.agd ⟨(Le.refl _), (Le.refl _), (Le.refl _), (Le.refl _), (Le.refl _), trivial⟩), (Le.refl _), trivial⟩ (Wt.yes rfl rfl rfl) rfl rfl ?_
  refine WL.qy (y_eql rfl rfl) rfl rfl rfl ?_
  refine WL.qn (y_pick_t rfl rfl) rfl ?_
  obtain rfl := Option.some.inj h
  exact WL.nil ⟨rfl, [_, _, _, _], rfl, rfl, rfl⟩
 ·intro hg30
  have h := condF hb128 hg30
  refine WL.skips 3 rfl ?_
  refine WL.qn (y_pick_f rfl rfl) rfl ?_
  obtain rfl := Option.some.inj h
  exact WL.nil ⟨rfl, [_, _, _, _], rfl, rfl, rfl⟩
 refine WL.mv rfl rfl ?_
 obtain ⟨b130, hb130, h⟩ := bindS h
 apply WL.grp 4 (t := 35) (d := 39) (z := b130)
 ·exact rfl
 ·intro hg35
  have h := condT hb130 hg35
  refine WL.qy (y_loadN rfl rfl a28 s28 rfl) rfl rfl rfl ?_
  obtain ⟨r131, hr131, h⟩ := bindS h
  refine WL.fn rfl rfl rfl rfl (f29_c _ _ hr131) ⟨(Le.agd ⟨(Le.refl _), (Le.refl _), (Le.refl _), (Le.refl _), (Le.refl _), trivial⟩), (Le.refl _), trivial⟩ (Wt.yes rfl rfl rfl) rfl rfl ?_
  refine WL.qy (y_eql rfl rfl) rfl rfl rfl ?_
  refine WL.qn (y_pick_t rfl rfl) rfl ?_
  obtain rfl := Option.some.inj h
  exact WL.nil ⟨rfl, [_, _, _, _], rfl, rfl, rfl⟩
 ·intro hg35
  have h := condF hb130 hg35
  refine WL.skips 3 rfl ?_
  refine WL.qn (y_pick_f rfl rfl) rfl ?_
  obtain rfl := Option.some.inj h
  exact WL.nil ⟨rfl, [_, _, _, _], rfl, rfl, rfl⟩
 refine WL.mv rfl rfl ?_
 obtain ⟨b132, hb132, h⟩ := bindS h
 apply WL.grp 4 (t := 40) (d := 44) (z := b132)
 ·exact rfl
 ·intro hg40
  have h := condT hb132 hg40
  refine WL.qy (y_loadN rfl rfl a28 s28 rfl) rfl rfl rfl ?_
  obtain ⟨r133, hr133, h⟩ := bindS h
  refine WL.fn rfl rfl rfl rfl (f29_c _ _ hr133) ⟨(Le.agd ⟨(Le.refl _), (Le.refl _), (Le.refl _), (Le.refl _), (Le.refl _), trivial⟩), (Le.refl _), trivial⟩ (Wt.yes rfl rfl rfl) rfl rfl ?_
  refine WL.qy (y_eql rfl rfl) rfl rfl rfl ?_
  refine WL.qn (y_pick_t rfl rfl) rfl ?_
  obtain rfl := Option.some.inj h
  exact WL.nil ⟨rfl, [_, _, _, _], rfl, rfl, rfl⟩
 ·intro hg40
  have h := condF hb132 hg40
  refine WL.skips 3 rfl ?_
  refine WL.qn (y_pick_f rfl rfl) rfl ?_
  obtain rfl := Option.some.inj h
  exact WL.nil ⟨rfl, [_, _, _, _], rfl, rfl, rfl⟩
 refine WL.as rfl rfl ?_
 refine WL.ns ?_
 refine wc_sr ?_
 refine WL.qn (y_loadN rfl rfl a28 s28 rfl) rfl ?_
 obtain ⟨r134, hr134, h⟩ := bindS h
 refine WL.fn rfl rfl rfl rfl (f34_c _ _ hr134) ⟨(Le.agd ⟨(Le.refl _), (Le.refl _), (Le.refl _), (Le.refl _), (Le.refl _), trivial⟩), (Le.refl _), trivial⟩ (Wt.none rfl) rfl rfl ?_
 refine WL.s ((NewOs.b (n_buildSlice l41 z2 rfl (by decide) (by decide) rfl rfl rfl (by decide))).does) (Wt.none rfl) rfl rfl ?_
 refine WL.freezeX [47] [] 1 (List.map E2 [5]) rfl (encA_map E2_eq [5]) ⟨rfl, trivial⟩ trivial ?_
 obtain ⟨r135, hr135, h⟩ := bindS h
 refine WL.fn rfl rfl rfl rfl (f33_c _ _ hr135) ⟨(Le.refl _), (Le.refl _), trivial⟩ (Wt.none rfl) rfl rfl ?_
 refine WL.mv rfl rfl ?_
 obtain ⟨b136, hb136, h⟩ := bindS h
 apply WL.grp 5 (t := 49) (d := 54) (z := b136)
 ·exact rfl
 ·intro hg49
  have h := condT hb136 hg49
  refine WL.qy (y_loadN rfl rfl a28 s28 rfl) rfl rfl rfl ?_
  obtain ⟨r137, hr137, h⟩ := bindS h
  refine WL.fn rfl rfl rfl rfl (f34_c _ _ hr137) ⟨(Le.agd ⟨(Le.refl _), (Le.refl _), (Le.refl _), (Le.refl _), (Le.refl _), trivial⟩), (Le.refl _), trivial⟩ (Wt.yes rfl rfl rfl) rfl rfl ?_
  refine WL.s ((NewOs.data (n_buildSlice l41 z2 rfl (by decide) (by decide) rfl rfl rfl (by decide)) (by exact encA_map E2_eq [1, 0, 7])).does) (Wt.yes rfl rfl rfl) rfl rfl ?_
  obtain ⟨r138, hr138, h⟩ := bindS h
  refine WL.fn rfl rfl rfl rfl (f33_c _ _ hr138) ⟨(Le.refl _), (Le.refl _), trivial⟩ (Wt.yes rfl rfl rfl) rfl rfl ?_
  refine WL.qn (y_pick_t rfl rfl) rfl ?_
  obtain rfl := Option.some.inj h
  exact WL.nil ⟨rfl, [_, _, _, _, _], rfl, rfl, rfl⟩
 ·intro hg49
  have h := condF hb136 hg49
  refine WL.skips 4 rfl ?_
  refine WL.qn (y_pick_f rfl rfl) rfl ?_
  obtain rfl := Option.some.inj h
  exact WL.nil ⟨rfl, [_, _, _, _, _], rfl, rfl, rfl⟩
 refine WL.mv rfl rfl ?_
 obtain ⟨b139, hb139, h⟩ := bindS h
 apply WL.grp 5 (t := 55) (d := 60) (z := b139)
 ·exact rfl
 ·intro hg55
  have h := condT hb139 hg55
  refine WL.qy (y_loadN rfl rfl a28 s28 rfl) rfl rfl rfl ?_
  obtain ⟨r140, hr140, h⟩ := bindS h
  refine WL.fn rfl rfl rfl rfl (f34_c _ _ hr140) ⟨(Le.agd ⟨(Le.refl _), (Le.refl _), (Le.refl _), (Le.refl _), (Le.refl _), trivial⟩), (Le.refl _), trivial⟩ (Wt.yes rfl rfl rfl) rfl rfl ?_
  refine WL.s ((NewOs.data (n_buildSlice l41 z2 rfl (by decide) (by decide) rfl rfl rfl (by decide)) (by exact encA_map E2_eq [0, 0, 7])).does) (Wt.yes rfl rfl rfl) rfl rfl ?_
  obtain ⟨r141, hr141, h⟩ := bindS h
  refine WL.fn rfl rfl rfl rfl (f33_c _ _ hr141) ⟨(Le.refl _), (Le.refl _), trivial⟩ (Wt.yes rfl rfl rfl) rfl rfl ?_
  refine WL.qn (y_pick_t rfl rfl) rfl ?_
  obtain rfl := Option.some.inj h
  exact WL.nil ⟨rfl, [_, _, _, _, _], rfl, rfl, rfl⟩
 ·intro hg55
  have h := condF hb139 hg55
  refine WL.skips 4 rfl ?_
  refine WL.qn (y_pick_f rfl rfl) rfl ?_
  obtain rfl := Option.some.inj h
  exact WL.nil ⟨rfl, [_, _, _, _, _], rfl, rfl, rfl⟩
 refine WL.as rfl rfl ?_
 refine WL.ns ?_
 refine wc_sr ?_
 refine WL.qn (y_loadN rfl rfl a28 s28 rfl) rfl ?_
 refine WL.s ((NewOs.b (n_buildSlice l41 z2 rfl (by decide) (by decide) rfl rfl rfl (by decide))).does) (Wt.none rfl) rfl rfl ?_
 refine WL.freezeX [62] [] 2 (List.map E2 [1, 0, 7]) rfl (encA_map E2_eq [1, 0, 7]) ⟨rfl, trivial⟩ trivial ?_
 obtain ⟨r142, hr142, h⟩ := bindS h
 refine WL.fn rfl rfl rfl rfl (f31_c _ _ _ hr142) ⟨(Le.agd ⟨(Le.refl _), (Le.refl _), (Le.refl _), (Le.refl _), (Le.refl _), trivial⟩), (Le.refl _), (Le.refl _), trivial⟩ (Wt.none rfl) rfl rfl ?_
 refine WL.qn (y_not rfl) rfl ?_
 refine WL.mv rfl rfl ?_
 obtain ⟨b143, hb143, h⟩ := bindS h
 apply WL.grp 5 (t := 65) (d := 70) (z := b143)
 ·exact rfl
 ·intro hg65
  have h := condT hb143 hg65
  refine WL.qy (y_loadN rfl rfl a28 s28 rfl) rfl rfl rfl ?_
  refine WL.s ((NewOs.data (n_buildSlice l41 z2 rfl (by decide) (by decide) rfl rfl rfl (by decide)) (by exact encA_map E2_eq [1, 0, 4])).does) (Wt.yes rfl rfl rfl) rfl rfl ?_
  obtain ⟨r144, hr144, h⟩ := bindS h
  refine WL.fn rfl rfl rfl rfl (f31_c _ _ _ hr144) ⟨(Le.agd ⟨(Le.refl _), (Le.refl _), (Le.refl _), (Le.refl _), (Le.refl _), trivial⟩), (Le.refl _), (Le.refl _), trivial⟩ (Wt.yes rfl rfl rfl) rfl rfl ?_
  refine WL.qy (y_not rfl) rfl rfl rfl ?_
  refine WL.qn (y_pick_t rfl rfl) rfl ?_
  obtain rfl := Option.some.inj h
  exact WL.nil ⟨rfl, [_, _, _, _, _], rfl, rfl, rfl⟩
 ·intro hg65
  have h := condF hb143 hg65
  refine WL.skips 4 rfl ?_
  refine WL.qn (y_pick_f rfl rfl) rfl ?_
  obtain rfl := Option.some.inj h
  exact WL.nil ⟨rfl, [_, _, _, _, _], rfl, rfl, rfl⟩
 refine WL.mv rfl rfl ?_
 obtain ⟨b145, hb145, h⟩ := bindS h
 apply WL.grp 4 (t := 71) (d := 75) (z := b145)
 ·exact rfl
 ·intro hg71
  have h := condT hb145 hg71
  refine WL.qy (y_loadN rfl rfl a28 s28 rfl) rfl rfl rfl ?_
  refine WL.s ((NewOs.data (n_buildSlice l41 z2 rfl (by decide) (by decide) rfl rfl rfl (by decide)) (by exact encA_map E2_eq [0, 3, 9])).does) (Wt.yes rfl rfl rfl) rfl rfl ?_
  obtain ⟨r146, hr146, h⟩ := bindS h
  refine WL.fn rfl rfl rfl rfl (f31_c _ _ _ hr146) ⟨(Le.agd ⟨(Le.refl _), (Le.refl _), (Le.refl _), (Le.refl _), (Le.refl _), trivial⟩), (Le.refl _), (Le.refl _), trivial⟩ (Wt.yes rfl rfl rfl) rfl rfl ?_
  refine WL.qn (y_pick_t rfl rfl) rfl ?_
  obtain rfl := Option.some.inj h
  exact WL.nil ⟨rfl, [_, _, _, _], rfl, rfl, rfl⟩
 ·intro hg71
  have h := condF hb145 hg71
  refine WL.skips 3 rfl ?_
  refine WL.qn (y_pick_f rfl rfl) rfl ?_
  obtain rfl := Option.some.inj h
  exact WL.nil ⟨rfl, [_, _, _, _], rfl, rfl, rfl⟩
 refine WL.as rfl rfl ?_
 refine WL.ns ?_
 refine wc_sr ?_
 refine WL.qn (y_loadN rfl rfl a28 s28 rfl) rfl ?_
 obtain ⟨r147, hr147, h⟩ := bindS h
 refine WL.fn rfl rfl rfl rfl (f36_c _ hr147) ⟨(Le.agd ⟨(Le.refl _), (Le.refl _), (Le.refl _), (Le.refl _), (Le.refl _), trivial⟩), trivial⟩ (Wt.none rfl) rfl rfl ?_
 refine WL.mv rfl rfl ?_
 apply WL.and 2 (t := 78) (d := 80)
 ·exact rfl
 ·intro hg78
  refine WL.qy (y_move rfl) rfl rfl rfl ?_
  refine WL.qn (y_pick_t rfl rfl) rfl ?_
  exact WL.nil ⟨rfl, [_, _], rfl, rfl, rfl⟩
 ·refine WL.skips 1 rfl ?_
  refine WL.qn (y_pick_f rfl rfl) rfl ?_
  exact WL.nil ⟨rfl, [_, _], rfl, rfl, rfl⟩
 refine WL.mv rfl rfl ?_
 apply WL.and 2 (t := 81) (d := 83)
 ·exact rfl
 ·intro hg81
  refine WL.qy (y_move rfl) rfl rfl rfl ?_
  refine WL.qn (y_pick_t rfl rfl) rfl ?_
  exact WL.nil ⟨rfl, [_, _], rfl, rfl, rfl⟩
 ·refine WL.skips 1 rfl ?_
  refine WL.qn (y_pick_f rfl rfl) rfl ?_
  exact WL.nil ⟨rfl, [_, _], rfl, rfl, rfl⟩
 refine WL.mv rfl rfl ?_
 apply WL.and 2 (t := 84) (d := 86)
 ·exact rfl
 ·intro hg84
  refine WL.qy (y_move rfl) rfl rfl rfl ?_
  refine WL.qn (y_pick_t rfl rfl) rfl ?_
  exact WL.nil ⟨rfl, [_, _], rfl, rfl, rfl⟩
 ·refine WL.skips 1 rfl ?_
  refine WL.qn (y_pick_f rfl rfl) rfl ?_
  exact WL.nil ⟨rfl, [_, _], rfl, rfl, rfl⟩
 refine WL.mv rfl rfl ?_
 apply WL.and 3 (t := 87) (d := 90)
 ·exact rfl
 ·intro hg87
  refine WL.qy (y_move rfl) rfl rfl rfl ?_
  refine WL.qy (y_eql rfl rfl) rfl rfl rfl ?_
  refine WL.qn (y_pick_t rfl rfl) rfl ?_
  exact WL.nil ⟨rfl, [_, _, _], rfl, rfl, rfl⟩
 ·refine WL.skips 2 rfl ?_
  refine WL.qn (y_pick_f rfl rfl) rfl ?_
  exact WL.nil ⟨rfl, [_, _, _], rfl, rfl, rfl⟩
 refine WL.mv rfl rfl ?_
 apply WL.and 2 (t := 91) (d := 93)
 ·exact rfl
 ·intro hg91
  refine WL.qy (y_move rfl) rfl rfl rfl ?_
  refine WL.qn (y_pick_t rfl rfl) rfl ?_
  exact WL.nil ⟨rfl, [_, _], rfl, rfl, rfl⟩
 ·refine WL.skips 1 rfl ?_
  refine WL.qn (y_pick_f rfl rfl) rfl ?_
  exact WL.nil ⟨rfl, [_, _], rfl, rfl, rfl⟩
 refine WL.mv rfl rfl ?_
 apply WL.and 3 (t := 94) (d := 97)
 ·exact rfl
 ·intro hg94
  refine WL.qy (y_move rfl) rfl rfl rfl ?_
  refine WL.qy (y_not rfl) rfl rfl rfl ?_
  refine WL.qn (y_pick_t rfl rfl) rfl ?_
  exact WL.nil ⟨rfl, [_, _, _], rfl, rfl, rfl⟩
 ·refine WL.skips 2 rfl ?_
  refine WL.qn (y_pick_f rfl rfl) rfl ?_
  exact WL.nil ⟨rfl, [_, _, _], rfl, rfl, rfl⟩
 refine WL.mv rfl rfl ?_
 apply WL.and 3 (t := 98) (d := 101)
 ·exact rfl
 ·intro hg98
  refine WL.qy (y_move rfl) rfl rfl rfl ?_
  refine WL.qy (y_eql rfl rfl) rfl rfl rfl ?_
  refine WL.qn (y_pick_t rfl rfl) rfl ?_
  exact WL.nil ⟨rfl, [_, _, _], rfl, rfl, rfl⟩
 ·refine WL.skips 2 rfl ?_
  refine WL.qn (y_pick_f rfl rfl) rfl ?_
  exact WL.nil ⟨rfl, [_, _, _], rfl, rfl, rfl⟩
 refine WL.mv rfl rfl ?_
 apply WL.and 2 (t := 102) (d := 104)
 ·exact rfl
 ·intro hg102
  refine WL.qy (y_move rfl) rfl rfl rfl ?_
  refine WL.qn (y_pick_t rfl rfl) rfl ?_
  exact WL.nil ⟨rfl, [_, _], rfl, rfl, rfl⟩
 ·refine WL.skips 1 rfl ?_
  refine WL.qn (y_pick_f rfl rfl) rfl ?_
  exact WL.nil ⟨rfl, [_, _], rfl, rfl, rfl⟩
 refine WL.mv rfl rfl ?_
 obtain ⟨b148, hb148, h⟩ := bindS h
 apply WL.grp 4 (t := 105) (d := 109) (z := b148)
 ·exact rfl
 ·intro hg105
  have h := condT hb148 hg105
  refine WL.qy (y_loadN rfl rfl a28 s28 rfl) rfl rfl rfl ?_
  obtain ⟨r149, hr149, h⟩ := bindS h
  refine WL.fn rfl rfl rfl rfl (f15_c _ _ _ _ hr149) ⟨(Le.agd ⟨(Le.refl _), (Le.refl _), (Le.refl _), (Le.refl _), (Le.refl _), trivial⟩), (Le.refl _), (Le.refl _), (Le.refl _), trivial⟩ (Wt.yes rfl rfl rfl) rfl rfl ?_
  refine WL.qy (y_not rfl) rfl rfl rfl ?_
  refine WL.qn (y_pick_t rfl rfl) rfl ?_
  obtain rfl := Option.some.inj h
  exact WL.nil ⟨rfl, [_, _, _, _], rfl, rfl, rfl⟩
 ·intro hg105
  have h := condF hb148 hg105
  refine WL.skips 3 rfl ?_
  refine WL.qn (y_pick_f rfl rfl) rfl ?_
  obtain rfl := Option.some.inj h
  exact WL.nil ⟨rfl, [_, _, _, _], rfl, rfl, rfl⟩
 refine WL.mv rfl rfl ?_
 obtain ⟨b150, hb150, h⟩ := bindS h
 apply WL.grp 3 (t := 110) (d := 113) (z := b150)
 ·exact rfl
 ·intro hg110
  have h := condT hb150 hg110
  refine WL.qy (y_loadN rfl rfl a28 s28 rfl) rfl rfl rfl ?_
  obtain ⟨r151, hr151, h⟩ := bindS h
  refine WL.fn rfl rfl rfl rfl (f15_c _ _ _ _ hr151) ⟨(Le.agd ⟨(Le.refl _), (Le.refl _), (Le.refl _), (Le.refl _), (Le.refl _), trivial⟩), (Le.refl _), (Le.refl _), (Le.refl _), trivial⟩ (Wt.yes rfl rfl rfl) rfl rfl ?_
  refine WL.qn (y_pick_t rfl rfl) rfl ?_
  obtain rfl := Option.some.inj h
  exact WL.nil ⟨rfl, [_, _, _], rfl, rfl, rfl⟩
 ·intro hg110
  have h := condF hb150 hg110
  refine WL.skips 2 rfl ?_
  refine WL.qn (y_pick_f rfl rfl) rfl ?_
  obtain rfl := Option.some.inj h
  exact WL.nil ⟨rfl, [_, _, _], rfl, rfl, rfl⟩
 refine WL.mv rfl rfl ?_
 obtain ⟨b152, hb152, h⟩ := bindS h
 apply WL.grp 3 (t := 114) (d := 117) (z := b152)
 ·exact rfl
 ·intro hg114
  have h := condT hb152 hg114
  refine WL.qy (y_loadN rfl rfl a28 s28 rfl) rfl rfl rfl ?_
  obtain ⟨r153, hr153, h⟩ := bindS h
  refine WL.fn rfl rfl rfl rfl (f18_c _ _ _ hr153) ⟨(Le.agd ⟨(Le.refl _), (Le.refl _), (Le.refl _), (Le.refl _), (Le.refl _), trivial⟩), (Le.refl _), (Le.refl _), trivial⟩ (Wt.yes rfl rfl rfl) rfl rfl ?_
  refine WL.qn (y_pick_t rfl rfl) rfl ?_
  obtain rfl := Option.some.inj h
  exact WL.nil ⟨rfl, [_, _, _], rfl, rfl, rfl⟩
 ·intro hg114
  have h := condF hb152 hg114
  refine WL.skips 2 rfl ?_
  refine WL.qn (y_pick_f rfl rfl) rfl ?_
  obtain rfl := Option.some.inj h
  exact WL.nil ⟨rfl, [_, _, _], rfl, rfl, rfl⟩
 refine WL.mv rfl rfl ?_
 obtain ⟨b154, hb154, h⟩ := bindS h
 apply WL.grp 4 (t := 118) (d := 122) (z := b154)
 ·exact rfl
 ·intro hg118
  have h := condT hb154 hg118
  refine WL.qy (y_loadN rfl rfl a28 s28 rfl) rfl rfl rfl ?_
  obtain ⟨r155, hr155, h⟩ := bindS h
  refine WL.fn rfl rfl rfl rfl (f18_c _ _ _ hr155) ⟨(Le.agd ⟨(Le.refl _), (Le.refl _), (Le.refl _), (Le.refl _), (Le.refl _), trivial⟩), (Le.refl _), (Le.refl _), trivial⟩ (Wt.yes rfl rfl rfl) rfl rfl ?_
  refine WL.qy (y_not rfl) rfl rfl rfl ?_
  refine WL.qn (y_pick_t rfl rfl) rfl ?_
  obtain rfl := Option.some.inj h
  exact WL.nil ⟨rfl, [_, _, _, _], rfl, rfl, rfl⟩
 ·intro hg118
  have h := condF hb154 hg118
  refine WL.skips 3 rfl ?_
  refine WL.qn (y_pick_f rfl rfl) rfl ?_
  obtain rfl := Option.some.inj h
  exact WL.nil ⟨rfl, [_, _, _, _], rfl, rfl, rfl⟩
 refine WL.as rfl rfl ?_
 refine WL.ns ?_
 refine wc_ret ?_
 obtain rfl := Option.some.inj h
 exact we_ret_fn (rs1 rfl (rv_t rfl)) (Le.refl _)

end Go.Proofs.YteafckpdbmncfaaDoor
