/- The walks of functions that this law reaches. -/
import Derived.Test.YteafckpdbmncfaaDoorWd
set_option maxHeartbeats 4000000
set_option maxRecDepth 100000
namespace Go.Proofs.YteafckpdbmncfaaDoor
open Go Go.Sk

theorem f44_c (t0 : Table) (sub1 : Int) {r : Int} (h : f44 t0 sub1 = some r) : Pu Tryd.prog 44 [.ag (R28 t0), .i .i64 sub1] (.i .u8 r) := by
 unfold f44 at h
 refine fn_intro Tryd.func44 (by kernel_rfl) rfl rfl rfl (fun φφ ww => ?_)
 refine wc_sr ?_
 refine WL.s ((b_boxd rfl rfl (Les.refl _)).does) (Wt.none rfl) rfl rfl ?_
 refine WL.as rfl rfl ?_
 refine WL.ns ?_
 refine wc_seq ?_
 refine wc_seq ?_
 refine wc_region_draw (by kernel_rfl) (by kernel_rfl) ?_
 refine WQ.qn (y_move rfl) rfl ?_
 refine WQ.qn (y_fieldAddrc f28_1 rfl) rfl ?_
 refine WQ.qn (y_loadc rfl a23 rfl) rfl ?_
 refine WQ.qn (y_len_map E40 t0.subs e23 rfl rfl (Le.refl _)) rfl ?_
 refine WQ.q (YieldsQ.fn rfl rfl rfl rfl rfl (f51_c _ _) ⟨(Le.refl _), (Le.refl _), trivial⟩) (Wt.none rfl) rfl rfl ?_
 refine WQ.qn (y_not rfl) rfl ?_
 refine WQ.qn (y_move rfl) rfl ?_
 obtain ⟨b38, hb38, h⟩ := bindS h
 apply WQ.grp 12 (t := 11) (d := 23) (z := b38)
 ·exact rfl
 ·intro hg11
  have h := condT hb38 hg11
  refine WQ.skips 11 rfl ?_
  refine WQ.qn (y_pick_t rfl rfl) rfl ?_
  obtain rfl := Option.some.inj h
  exact WQ.nil ⟨[_, _, _, _, _, _, _, _, _, _, _, _], rfl, rfl, rfl⟩
 ·intro hg11
  have h := condF hb38 hg11
  refine WQ.qy (y_fieldAddrc f28_1 rfl) rfl rfl rfl ?_
  refine WQ.qy (y_loadc rfl a23 rfl) rfl rfl rfl ?_
  refine WQ.qy (y_move rfl) rfl rfl rfl ?_
  obtain ⟨x39, hx39, h⟩ := bindS h
  refine WQ.qy (y_indexAddr e23 rfl (Le.refl _) rfl (idx_nonneg hx39) (idx_row E40_eq hx39) rfl) rfl rfl rfl ?_
  refine WQ.qy (y_fieldAddrc f40_0 rfl) rfl rfl rfl ?_
  refine WQ.qy (y_loadc rfl a3 rfl) rfl rfl rfl ?_
  refine WQ.qy (y_fieldAddrc f28_0 rfl) rfl rfl rfl ?_
  refine WQ.qy (y_loadc rfl a22 rfl) rfl rfl rfl ?_
  refine WQ.qy (y_len_map E54 t0.types e22 rfl rfl (Le.refl _)) rfl rfl rfl ?_
  refine WQ.q (YieldsQ.fn rfl rfl rfl rfl rfl (f51_c _ _) ⟨(Le.refl _), (Le.refl _), trivial⟩) (Wt.yes rfl rfl rfl) rfl rfl ?_
  refine WQ.qy (y_not rfl) rfl rfl rfl ?_
  refine WQ.qn (y_pick_f rfl rfl) rfl ?_
  obtain rfl := Option.some.inj h
  exact WQ.nil ⟨[_, _, _, _, _, _, _, _, _, _, _, _], rfl, rfl, rfl⟩
 refine WQ.nil ?_
 refine we_seq ?_
 refine wc_cond rfl (fun hc1 => ?_) (fun hc1 => ?_)
 ·replace h := condT h hc1
  refine wc_sr ?_
  refine WL.as rfl rfl ?_
  refine WL.ns ?_
  refine wc_ret ?_
  refine we_seq_ret ?_
  obtain rfl := Option.some.inj h
  exact we_ret_fn (rs1 rfl (rv_t rfl)) (Le.refl _)
 ·replace h := condF h hc1
  refine wc_skip ?_
  refine we_seq ?_
  refine wc_seq ?_
  refine wc_region_draw (by kernel_rfl) (by kernel_rfl) ?_
  refine WQ.qn (y_fieldAddrc f28_0 rfl) rfl ?_
  refine WQ.qn (y_loadc rfl a22 rfl) rfl ?_
  refine WQ.qn (y_fieldAddrc f28_1 rfl) rfl ?_
  refine WQ.qn (y_loadc rfl a23 rfl) rfl ?_
  refine WQ.qn (y_move rfl) rfl ?_
  obtain ⟨x40, hx40, h⟩ := bindS h
  refine WQ.qn (y_indexAddr e23 rfl (Le.refl _) rfl (idx_nonneg hx40) (idx_row E40_eq hx40) rfl) rfl ?_
  refine WQ.qn (y_fieldAddrc f40_0 rfl) rfl ?_
  refine WQ.qn (y_loadc rfl a3 rfl) rfl ?_
  obtain ⟨x41, hx41, h⟩ := bindS h
  refine WQ.qn (y_indexAddr e22 rfl (Le.refl _) rfl (idx_nonneg hx41) (idx_row E54_eq hx41) rfl) rfl ?_
  refine WQ.qn (y_fieldAddrc f54_0 rfl) rfl ?_
  refine WQ.qn (y_loadc rfl a49 rfl) rfl ?_
  refine WQ.qn (y_assign rfl) rfl ?_
  refine WQ.nil ?_
  refine we_seq ?_
  refine wc_ret ?_
  obtain rfl := Option.some.inj h
  exact we_ret_fn (rs1 rfl (rv_t rfl)) (Le.refl _)

theorem f56_c (t0 : Table) (sub1 : Int) {r : Bool} (h : f56 t0 sub1 = some r) : Pu Tryd.prog 56 [.ag (R28 t0), .i .i64 sub1] (.b r) := by
 unfold f56 at h
 refine fn_intro Tryd.func56 (by kernel_rfl) rfl rfl rfl (fun φφ ww => ?_)
 refine wc_sr ?_
 refine WL.s ((b_boxd rfl rfl (Les.refl _)).does) (Wt.none rfl) rfl rfl ?_
 refine WL.as rfl rfl ?_
 refine WL.ns ?_
 refine wc_sr ?_
 refine WL.qn (y_loadcN rfl a28 s28 rfl) rfl ?_
 refine WL.mv rfl rfl ?_
 obtain ⟨r18, hr18, h⟩ := bindS h
 refine WL.fn rfl rfl rfl rfl (f44_c _ _ hr18) ⟨(Le.refl _), (Le.refl _), trivial⟩ (Wt.none rfl) rfl rfl ?_
 refine WL.qn (y_eql rfl rfl) rfl ?_
 refine WL.mv rfl rfl ?_
 obtain ⟨b19, hb19, h⟩ := bindS h
 apply WL.grp 5 (t := 9) (d := 14) (z := b19)
 ·exact rfl
 ·intro hg9
  have h := condT hb19 hg9
  refine WL.skips 4 rfl ?_
  refine WL.qn (y_pick_t rfl rfl) rfl ?_
  obtain rfl := Option.some.inj h
  exact WL.nil ⟨rfl, [_, _, _, _, _], rfl, rfl, rfl⟩
 ·intro hg9
  have h := condF hb19 hg9
  refine WL.qy (y_loadcN rfl a28 s28 rfl) rfl rfl rfl ?_
  refine WL.qy (y_move rfl) rfl rfl rfl ?_
  obtain ⟨r20, hr20, h⟩ := bindS h
  refine WL.fn rfl rfl rfl rfl (f44_c _ _ hr20) ⟨(Le.refl _), (Le.refl _), trivial⟩ (Wt.yes rfl rfl rfl) rfl rfl ?_
  refine WL.qy (y_eql rfl rfl) rfl rfl rfl ?_
  refine WL.qn (y_pick_f rfl rfl) rfl ?_
  obtain rfl := Option.some.inj h
  exact WL.nil ⟨rfl, [_, _, _, _, _], rfl, rfl, rfl⟩
 refine WL.as rfl rfl ?_
 refine WL.ns ?_
 refine wc_ret ?_
 obtain rfl := Option.some.inj h
 exact we_ret_fn (rs1 rfl (rv_t rfl)) (Le.refl _)

theorem f26_c (t0 : Table) (sub1 : Int) {r : Int × Int × Bool} (h : f26 t0 sub1 = some r) : Pu Tryd.prog 26 [.ag (R28 t0), .i .i64 sub1] (.tu [.i .i64 r.1, .i .i64 r.2.1, .b r.2.2]) := by
 unfold f26 at h
 refine fn_intro Tryd.func26 (by kernel_rfl) rfl rfl rfl (fun φφ ww => ?_)
 refine wc_sr ?_
 refine WL.s ((b_boxd rfl rfl (Les.refl _)).does) (Wt.none rfl) rfl rfl ?_
 refine WL.as rfl rfl ?_
 refine WL.as rfl rfl ?_
 refine WL.as rfl rfl ?_
 refine WL.ns ?_
 refine wc_seq ?_
 refine wc_sr ?_
 refine WL.qn (y_loadcN rfl a28 s28 rfl) rfl ?_
 refine WL.mv rfl rfl ?_
 obtain ⟨r26, hr26, h⟩ := bindS h
 refine WL.fn rfl rfl rfl rfl (f56_c _ _ hr26) ⟨(Le.refl _), (Le.refl _), trivial⟩ (Wt.none rfl) rfl rfl ?_
 refine WL.qn (y_not rfl) rfl ?_
 refine WL.ns ?_
 refine wc_cond rfl (fun hc1 => ?_) (fun hc1 => ?_)
 ·replace h := condT h hc1
  refine wc_sr ?_
  refine WL.as rfl rfl ?_
  refine WL.as rfl rfl ?_
  refine WL.as rfl rfl ?_
  refine WL.ns ?_
  refine wc_ret ?_
  refine we_seq_ret ?_
  obtain rfl := Option.some.inj h
  exact we_ret_fn (rs3 rfl (rv_t rfl) (rv_t rfl) (rv_t rfl)) (Le.tud ⟨(Le.refl _), (Le.refl _), (Le.refl _), trivial⟩)
 ·replace h := condF h hc1
  refine wc_skip ?_
  refine we_seq ?_
  refine wc_seq ?_
  refine wc_region_draw (by kernel_rfl) (by kernel_rfl) ?_
  refine WQ.qn (y_fieldAddrc f28_1 rfl) rfl ?_
  refine WQ.qn (y_loadc rfl a23 rfl) rfl ?_
  refine WQ.qn (y_move rfl) rfl ?_
  obtain ⟨x27, hx27, h⟩ := bindS h
  refine WQ.qn (y_indexAddr e23 rfl (Le.refl _) rfl (idx_nonneg hx27) (idx_row E40_eq hx27) rfl) rfl ?_
  refine WQ.qn (y_fieldAddrc f40_1 rfl) rfl ?_
  refine WQ.qn (y_loadc rfl a2 rfl) rfl ?_
  refine WQ.qn (y_fieldAddrc f28_1 rfl) rfl ?_
  refine WQ.qn (y_loadc rfl a23 rfl) rfl ?_
  refine WQ.qn (y_move rfl) rfl ?_
  obtain ⟨x28, hx28, h⟩ := bindS h
  refine WQ.qn (y_indexAddr e23 rfl (Le.refl _) rfl (idx_nonneg hx28) (idx_row E40_eq hx28) rfl) rfl ?_
  refine WQ.qn (y_fieldAddrc f40_2 rfl) rfl ?_
  refine WQ.qn (y_loadc rfl a2 rfl) rfl ?_
  refine WQ.qn (y_assign rfl) rfl ?_
  refine WQ.qn (y_assign rfl) rfl ?_
  refine WQ.qn (y_assign rfl) rfl ?_
  refine WQ.nil ?_
  refine we_seq ?_
  refine wc_ret ?_
  obtain rfl := Option.some.inj h
  exact we_ret_fn (rs3 rfl (rv_t rfl) (rv_t rfl) (rv_t rfl)) (Le.tud ⟨(Le.refl _), (Le.refl _), (Le.refl _), trivial⟩)

theorem f78_c (t0 : Table) (sub1 : Int) (most2 : Int) {r : Bool} (h : f78 t0 sub1 most2 = some r) : Pu Tryd.prog 78 [.ag (R28 t0), .i .i64 sub1, .i .i64 most2] (.b r) := by
 unfold f78 at h
 refine fn_intro Tryd.func78 (by kernel_rfl) rfl rfl rfl (fun φφ ww => ?_)
 refine wc_sr ?_
 refine WL.s ((b_boxd rfl rfl (Les.refl _)).does) (Wt.none rfl) rfl rfl ?_
 refine WL.as rfl rfl ?_
 refine WL.ns ?_
 refine wc_sr ?_
 refine WL.qn (y_loadcN rfl a28 s28 rfl) rfl ?_
 refine WL.mv rfl rfl ?_
 obtain ⟨r37, hr37, h⟩ := bindS h
 refine WL.fn rfl rfl rfl rfl (f26_c _ _ hr37) ⟨(Le.refl _), (Le.refl _), trivial⟩ (Wt.none rfl) rfl rfl ?_
 refine WL.mv rfl rfl ?_
 refine WL.qn (y_extractd rfl rfl) rfl ?_
 refine WL.qn (y_extractd rfl rfl) rfl ?_
 refine WL.qn (y_extractd rfl rfl) rfl ?_
 refine WL.as rfl rfl ?_
 refine WL.as rfl rfl ?_
 refine WL.as rfl rfl ?_
 refine WL.ns ?_
 refine wc_sr ?_
 refine WL.mv rfl rfl ?_
 refine WL.mv rfl rfl ?_
 apply WL.and 4 (t := 18) (d := 22)
 ·exact rfl
 ·intro hg18
  refine WL.qy (y_move rfl) rfl rfl rfl ?_
  refine WL.qy (y_move rfl) rfl rfl rfl ?_
  refine WL.qy (y_leq rfl rfl) rfl rfl rfl ?_
  refine WL.qn (y_pick_t rfl rfl) rfl ?_
  exact WL.nil ⟨rfl, [_, _, _, _], rfl, rfl, rfl⟩
 ·refine WL.skips 3 rfl ?_
  refine WL.qn (y_pick_f rfl rfl) rfl ?_
  exact WL.nil ⟨rfl, [_, _, _, _], rfl, rfl, rfl⟩
 refine WL.mv rfl rfl ?_
 apply WL.and 9 (t := 23) (d := 32)
 ·exact rfl
 ·intro hg23
  refine WL.qy (y_move rfl) rfl rfl rfl ?_
  refine WL.qy (y_conv Tryd.underlying2 Tryd.underlying92 rfl rfl) rfl rfl rfl ?_
  refine WL.qy (y_move rfl) rfl rfl rfl ?_
  refine WL.qy (y_conv Tryd.underlying2 Tryd.underlying92 rfl rfl) rfl rfl rfl ?_
  refine WL.qy (y_sub rfl rfl rfl) rfl rfl rfl ?_
  refine WL.qy (y_move rfl) rfl rfl rfl ?_
  refine WL.qy (y_conv Tryd.underlying2 Tryd.underlying92 rfl rfl) rfl rfl rfl ?_
  refine WL.qy (y_lss rfl rfl) rfl rfl rfl ?_
  refine WL.qn (y_pick_t rfl rfl) rfl ?_
  exact WL.nil ⟨rfl, [_, _, _, _, _, _, _, _, _], rfl, rfl, rfl⟩
 ·refine WL.skips 8 rfl ?_
  refine WL.qn (y_pick_f rfl rfl) rfl ?_
  exact WL.nil ⟨rfl, [_, _, _, _, _, _, _, _, _], rfl, rfl, rfl⟩
 refine WL.as rfl rfl ?_
 refine WL.ns ?_
 refine wc_ret ?_
 obtain rfl := Option.some.inj h
 exact we_ret_fn (rs1 rfl (rv_t rfl)) (Le.refl _)

theorem f59_c (t0 : Table) (sub1 : Int) {r : List Int} (h : f59 t0 sub1 = some r) : Pu Tryd.prog 59 [.ag (R28 t0), .i .i64 sub1] (.sl (List.map E3 r)) := by
 unfold f59 at h
 refine fn_intro Tryd.func59 (by kernel_rfl) rfl rfl rfl (fun φφ ww => ?_)
 refine wc_sr ?_
 refine WL.s ((b_boxd rfl rfl (Les.refl _)).does) (Wt.none rfl) rfl rfl ?_
 refine WL.as rfl rfl ?_
 refine WL.ns ?_
 refine wc_sr ?_
 refine WL.qn (y_loadcN rfl a28 s28 rfl) rfl ?_
 refine WL.mv rfl rfl ?_
 obtain ⟨r112, hr112, h⟩ := bindS h
 refine WL.fn rfl rfl rfl rfl (f44_c _ _ hr112) ⟨(Le.refl _), (Le.refl _), trivial⟩ (Wt.none rfl) rfl rfl ?_
 refine WL.as rfl rfl ?_
 refine WL.ns ?_
 refine wc_seq ?_
 refine wc_sr ?_
 refine WL.mv rfl rfl ?_
 refine WL.qn (y_eql rfl rfl) rfl ?_
 refine WL.mv rfl rfl ?_
 apply WL.or 3 (t := 19) (d := 22)
 ·exact rfl
 ·intro hg19
  refine WL.qy (y_move rfl) rfl rfl rfl ?_
  refine WL.qy (y_eql rfl rfl) rfl rfl rfl ?_
  refine WL.qn (y_pick_f rfl rfl) rfl ?_
  exact WL.nil ⟨rfl, [_, _, _], rfl, rfl, rfl⟩
 ·refine WL.skips 2 rfl ?_
  refine WL.qn (y_pick_t rfl rfl) rfl ?_
  exact WL.nil ⟨rfl, [_, _, _], rfl, rfl, rfl⟩
 refine WL.mv rfl rfl ?_
 apply WL.or 3 (t := 23) (d := 26)
 ·exact rfl
 ·intro hg23
  refine WL.qy (y_move rfl) rfl rfl rfl ?_
  refine WL.qy (y_eql rfl rfl) rfl rfl rfl ?_
  refine WL.qn (y_pick_f rfl rfl) rfl ?_
  exact WL.nil ⟨rfl, [_, _, _], rfl, rfl, rfl⟩
 ·refine WL.skips 2 rfl ?_
  refine WL.qn (y_pick_t rfl rfl) rfl ?_
  exact WL.nil ⟨rfl, [_, _, _], rfl, rfl, rfl⟩
 refine WL.mv rfl rfl ?_
 apply WL.or 3 (t := 27) (d := 30)
 ·exact rfl
 ·intro hg27
  refine WL.qy (y_move rfl) rfl rfl rfl ?_
  refine WL.qy (y_eql rfl rfl) rfl rfl rfl ?_
  refine WL.qn (y_pick_f rfl rfl) rfl ?_
  exact WL.nil ⟨rfl, [_, _, _], rfl, rfl, rfl⟩
 ·refine WL.skips 2 rfl ?_
  refine WL.qn (y_pick_t rfl rfl) rfl ?_
  exact WL.nil ⟨rfl, [_, _, _], rfl, rfl, rfl⟩
 refine WL.ns ?_
 refine wc_cond rfl (fun hc1 => ?_) (fun hc1 => ?_)
 ·replace h := condT h hc1
  refine wc_sr ?_
  refine WL.mv rfl rfl ?_
  refine WL.s ((NewOs.b (n_buildSlice l82 z3 rfl (by decide) (by decide) rfl rfl rfl (by decide))).does) (Wt.none rfl) rfl rfl ?_
  refine WL.as rfl rfl ?_
  refine WL.ns ?_
  refine wc_ret ?_
  refine we_seq_ret ?_
  refine WE.freezeX [4, 32] [] 0 (List.map E3 [sub1]) rfl (encA_map E3_eq [sub1]) ⟨rfl, rfl, trivial⟩ trivial ?_
  obtain rfl := Option.some.inj h
  exact we_ret_fn (rs1 rfl (rv_t rfl)) (Le.refl _)
 ·replace h := condF h hc1
  refine wc_skip ?_
  refine we_seq ?_
  refine wc_sr ?_
  refine WL.as rfl rfl ?_
  refine WL.nil_os 6 3 1 rfl ?_
  refine WL.ns ?_
  replace h := letkS h
  obtain ⟨k115, hk115, h⟩ := h
  refine wc_cut (fun env' st' => ∃ (l113 : List Int), ∃ (ver114 : Nat), k115 l113 = some r ∧ Sub [(1, .d (D.i .i64 sub1)), (2, .d (.pc (R28 t0))), (5, .d (D.i .u8 r112)), (6, .os 0 ver114)] env' ∧ SLe st' [.os 3 1 ver114 (List.map (encA E3) l113)]) ?_ ?_
  ·refine wc_sr ?_
   refine WL.mv rfl rfl ?_
   refine WL.qn (y_eql rfl rfl) rfl ?_
   refine WL.ns ?_
   refine wc_cond rfl (fun hc2 => ?_) (fun hc2 => ?_)
   ·replace h := condT h hc2
    refine wc_seq ?_
    obtain ⟨x116, hx116, h⟩ := bindS h
    obtain ⟨x117, hx117, h⟩ := bindS h
    apply wc_region_all [_, _, _, _, _, _, _, _, _, _, _, .u] [[], [0], [], [2], [], [2, 3, 4], [2, 3, 4, 5], [2, 3, 4, 5, 6], [0, 1, 2, 3, 4, 5, 6, 7], [0, 1, 2, 3, 4, 5, 6, 7, 8], [], [0, 1, 2, 3, 4, 5, 6, 7, 8, 9, 10]] [10, 11] (fun c => List.getD [[.os 3 1 0 (List.map (encA E3) [])], [.os 3 1 0 (List.map (encA E3) []), .row 54 [.d (D.i .u8 0), .d (D.s ByteArray.empty), .d (D.i .i64 0), .d (D.i .i64 0), .d (.v (.slice none 0 0)), .d (D.i .i64 0), .d (D.i .i64 0), .d (D.i .i64 0), .d (D.s ByteArray.empty), .d (D.b false), .d (D.i .i64 0), .d (.v (.slice none 0 0)), .d (D.i .i64 0), .d (D.i .u8 0), .d (D.b false), .d (D.i .i64 0), .d (D.i .i64 0), .d (D.i .i64 0)]], [.os 3 1 0 (List.map (encA E3) []), .row 54 [.d (D.i .u8 x117.kind), .d (D.s x117.name), .d (D.i .i64 x117.parent), .d (D.i .i64 x117.first), .d (.sl (List.map E9 x117.lits)), .d (D.i .i64 x117.index), .d (D.i .i64 x117.elem), .d (D.i .i64 x117.disc), .d (D.s x117.discName), .d (D.b x117.has), .d (D.i .i64 x117.default_), .d (.sl (List.map E56 x117.comps)), .d (D.i .i64 x117.target), .d (D.i .u8 x117.formal), .d (D.b x117.limited), .d (D.i .i64 x117.priv), .d (D.i .i64 x117.full), .d (D.i .i64 x117.level)]]] c []) [([], [2], [0, 1]), ([0], [], [0, 1]), ([], [2], [0, 1]), ([2], [], [0, 1]), ([], [1], [0, 1]), ([3, 4], [], [0, 1]), ([5], [], [0, 1]), ([6], [], [0, 1]), ([1, 7], [], [0, 1]), ([8], [], [0, 1]), ([], [], [0]), ([10, 9], [], [1])] (by kernel_rfl) (by kernel_rfl) rfl rfl rfl
    ·refine ⟨?_, ?_, ?_, ?_, ?_, ?_, ?_, ?_, ?_, ?_, ?_, ?_, trivial⟩
     ·refine ⟨fun F => ?_, fun F => ?_, trivial⟩
      ·refine WL.qn (y_fieldAddrc f28_0 rfl) rfl ?_
       exact WL.done1 rfl rfl rfl
      ·refine WL.qn (y_fieldAddrc f28_0 rfl) rfl ?_
       exact WL.done1 rfl rfl rfl
     ·refine ⟨fun F => ?_, fun F => ?_, trivial⟩
      ·refine WL.qn (y_loadc rfl a22 rfl) rfl ?_
       exact WL.done1 rfl rfl rfl
      ·refine WL.qn (y_loadc rfl a22 rfl) rfl ?_
       exact WL.done1 rfl rfl rfl
     ·refine ⟨fun F => ?_, fun F => ?_, trivial⟩
      ·refine WL.qn (y_fieldAddrc f28_1 rfl) rfl ?_
       exact WL.done1 rfl rfl rfl
      ·refine WL.qn (y_fieldAddrc f28_1 rfl) rfl ?_
       exact WL.done1 rfl rfl rfl
     ·refine ⟨fun F => ?_, fun F => ?_, trivial⟩
      ·refine WL.qn (y_loadc rfl a23 rfl) rfl ?_
       exact WL.done1 rfl rfl rfl
      ·refine WL.qn (y_loadc rfl a23 rfl) rfl ?_
       exact WL.done1 rfl rfl rfl
     ·refine ⟨fun F => ?_, fun F => ?_, trivial⟩
      ·refine WL.mv rfl rfl ?_
       exact WL.done1 rfl rfl rfl
      ·refine WL.mv rfl rfl ?_
       exact WL.done1 rfl rfl rfl
     ·refine ⟨fun F => ?_, fun F => ?_, trivial⟩
      ·refine WL.qn (y_indexAddr e23 rfl (Le.refl _) rfl (idx_nonneg hx116) (idx_row E40_eq hx116) rfl) rfl ?_
       exact WL.done1 rfl rfl rfl
      ·refine WL.qn (y_indexAddr e23 rfl (Le.refl _) rfl (idx_nonneg hx116) (idx_row E40_eq hx116) rfl) rfl ?_
       exact WL.done1 rfl rfl rfl
     ·refine ⟨fun F => ?_, fun F => ?_, trivial⟩
      ·refine WL.qn (y_fieldAddrc f40_0 rfl) rfl ?_
       exact WL.done1 rfl rfl rfl
      ·refine WL.qn (y_fieldAddrc f40_0 rfl) rfl ?_
       exact WL.done1 rfl rfl rfl
     ·refine ⟨fun F => ?_, fun F => ?_, trivial⟩
      ·refine WL.qn (y_loadc rfl a3 rfl) rfl ?_
       exact WL.done1 rfl rfl rfl
      ·refine WL.qn (y_loadc rfl a3 rfl) rfl ?_
       exact WL.done1 rfl rfl rfl
     ·refine ⟨fun F => ?_, fun F => ?_, trivial⟩
      ·refine WL.qn (y_indexAddr e22 rfl (Le.refl _) rfl (idx_nonneg hx117) (idx_row E54_eq hx117) rfl) rfl ?_
       exact WL.done1 rfl rfl rfl
      ·refine WL.qn (y_indexAddr e22 rfl (Le.refl _) rfl (idx_nonneg hx117) (idx_row E54_eq hx117) rfl) rfl ?_
       exact WL.done1 rfl rfl rfl
     ·refine ⟨fun F => ?_, fun F => ?_, trivial⟩
      ·refine WL.qn (y_loadcN rfl a54 s54 rfl) rfl ?_
       exact WL.done1 rfl rfl rfl
      ·refine WL.qn (y_loadcN rfl a54 s54 rfl) rfl ?_
       exact WL.done1 rfl rfl rfl
     ·refine ⟨fun F => ?_, trivial⟩
      refine WL.s ((b_alloc z54).does) (Wt.none rfl) rfl rfl ?_
      exact WL.done1 rfl rfl rfl
     ·refine ⟨fun F => ?_, trivial⟩
      refine WL.s0 (d_store rfl rfl rfl rfl rfl rfl s54 rfl rfl) (Wt.none rfl) rfl ?_
      exact WL.done0 rfl rfl
    ·refine we_seq ?_
     refine wc_seq ?_
     refine wc_sr ?_
     refine WL.qn (y_loadcN rfl a28 s28 rfl) rfl ?_
     refine WL.qn (y_fieldAddr f54_5 rfl) rfl ?_
     refine WL.qn (y_load rfl rfl a3 rfl) rfl ?_
     obtain ⟨r118, hr118, h⟩ := bindS h
     refine WL.fn rfl rfl rfl rfl (f78_c _ _ _ hr118) ⟨(Le.refl _), (Le.refl _), (Le.refl _), trivial⟩ (Wt.none rfl) rfl rfl ?_
     refine WL.qn (y_not rfl) rfl ?_
     refine WL.ns ?_
     refine wc_cond rfl (fun hc3 => ?_) (fun hc3 => ?_)
     ·replace h := condT h hc3
      refine wc_sr ?_
      refine WL.as rfl rfl ?_
      refine WL.ns ?_
      refine wc_ret ?_
      refine we_seq_ret ?_
      refine we_lp_ret ?_
      obtain rfl := Option.some.inj h
      exact we_ret_fn (rs1 rfl (rv_t rfl)) Le.nil
     ·replace h := condF h hc3
      refine wc_skip ?_
      refine we_seq ?_
      refine wc_sr ?_
      refine WL.qn (y_loadcN rfl a28 s28 rfl) rfl ?_
      refine WL.qn (y_fieldAddr f54_5 rfl) rfl ?_
      refine WL.qn (y_load rfl rfl a3 rfl) rfl ?_
      obtain ⟨r119, hr119, h⟩ := bindS h
      refine WL.fn rfl rfl rfl rfl (f26_c _ _ hr119) ⟨(Le.refl _), (Le.refl _), trivial⟩ (Wt.none rfl) rfl rfl ?_
      refine WL.mv rfl rfl ?_
      refine WL.qn (y_extractd rfl rfl) rfl ?_
      refine WL.qn (y_extractd rfl rfl) rfl ?_
      refine WL.qn (y_extractd rfl rfl) rfl ?_
      refine WL.as rfl rfl ?_
      refine WL.as rfl rfl ?_
      refine WL.as rfl rfl ?_
      refine WL.ns ?_
      refine wc_sr ?_
      refine WL.as rfl rfl ?_
      refine WL.ns ?_
      refine wc_block ?_
      refine wc_loop (fun n env' st' => ∃ (iq123 : Int), ∃ (l124 : List Int), ∃ (ver125 : Nat), f59_l1 k115 x117 r119 n iq123 l124 = some r ∧ Sub [(1, .d (D.i .i64 sub1)), (2, .d (.pc (R28 t0))), (5, .d (D.i .u8 r112)), (6, .os 0 ver125), (7, .pt 1 0), (8, .d (D.i .i64 r119.1)), (9, .d (D.i .i64 r119.2.1)), (11, .d (D.i .u64 iq123))] env' ∧ SLe st' [.os 3 1 ver125 (List.map (encA E3) l124), .row 54 [.d (D.i .u8 x117.kind), .d (D.s x117.name), .d (D.i .i64 x117.parent), .d (D.i .i64 x117.first), .d (.sl (List.map E9 x117.lits)), .d (D.i .i64 x117.index), .d (D.i .i64 x117.elem), .d (D.i .i64 x117.disc), .d (D.s x117.discName), .d (D.b x117.has), .d (D.i .i64 x117.default_), .d (.sl (List.map E56 x117.comps)), .d (D.i .i64 x117.target), .d (D.i .u8 x117.formal), .d (D.b x117.limited), .d (D.i .i64 x117.priv), .d (D.i .i64 x117.full), .d (D.i .i64 x117.level)]]) (fun n => n) 9223372036854775808 ⟨0, [], _, h, (Sub.cons rfl (Le.refl _) (Sub.cons rfl (Le.refl _) (Sub.cons rfl (Le.refl _) (Sub.cons rfl (Le.refl _) (Sub.cons rfl (Le.refl _) (Sub.cons rfl (Le.refl _) (Sub.cons rfl (Le.refl _) (Sub.cons rfl (Le.refl _) (Sub.nil _))))))))), ⟨⟨rfl, rfl, rfl, rfl⟩, ⟨rfl, ⟨(Le.refl _), (Le.refl _), (Le.refl _), (Le.refl _), (Le.refl _), (Le.refl _), (Le.refl _), (Le.refl _), (Le.refl _), (Le.refl _), (Le.refl _), (Le.refl _), (Le.refl _), (Le.refl _), (Le.refl _), (Le.refl _), (Le.refl _), (Le.refl _), trivial⟩⟩, trivial⟩⟩ ?_
      rintro n env1 st1 ⟨iq123, l124, ver125, h, hsub, hst⟩
      cases n with
      | zero => rw [f59_l1] at h; cases h
      | succ n =>
      rw [f59_l1] at h
      refine WC.sub hsub (WC.weak hst ?_)
      refine wc_seq ?_
      refine wc_sr ?_
      refine WL.mv rfl rfl ?_
      refine WL.mv rfl rfl ?_
      refine WL.qn (y_conv Tryd.underlying2 Tryd.underlying92 rfl rfl) rfl ?_
      refine WL.mv rfl rfl ?_
      refine WL.qn (y_conv Tryd.underlying2 Tryd.underlying92 rfl rfl) rfl ?_
      refine WL.qn (y_sub rfl rfl rfl) rfl ?_
      refine WL.qn (y_leq rfl rfl) rfl ?_
      refine WL.ns ?_
      refine wc_cond rfl (fun hc4 => ?_) (fun hc4 => ?_)
      ·replace h := condT h hc4
       refine wc_skip ?_
       refine we_seq ?_
       refine wc_seq ?_
       refine wc_block ?_
       refine wc_region ?_
       refine WL.mv rfl rfl ?_
       refine WL.qn (y_fieldAddr f54_6 rfl) rfl ?_
       refine WL.qn (y_load rfl rfl a3 rfl) rfl ?_
       refine WL.s ((NewOs.b (n_buildSlice l82 z3 rfl (by decide) (by decide) rfl rfl rfl (by decide))).does) (Wt.none rfl) rfl rfl ?_
       replace h := guardBS h
       obtain ⟨hgg129, h⟩ := h
       refine WL.s (d_appendL E3 l124 [x117.elem] l82 z3 rfl (by decide) rfl rfl rfl rfl (Src.own rfl) (fun _ => rfl) (fun _ => rfl) hgg129) (Wt.none rfl) rfl rfl ?_
       refine WL.as rfl rfl ?_
       refine WL.nil ?_
       refine we_blk ?_
       refine we_seq ?_
       refine wc_region ?_
       refine WL.mv rfl rfl ?_
       refine WL.qn (y_add rfl rfl rfl) rfl ?_
       refine WL.as rfl rfl ?_
       refine WL.nil ?_
       refine WE.drop 2 (env' := [(1, .d (D.i .i64 sub1)), (2, .d (.pc (R28 t0))), (5, .d (D.i .u8 r112)), (6, .os 0 (ver125 + 1)), (7, .pt 1 0), (8, .d (D.i .i64 r119.1)), (9, .d (D.i .i64 r119.2.1)), (11, .d (D.i .u64 (IntKind.u64.wrap (iq123 + 1))))]) (Sub.one rfl (Sub.one rfl (Sub.one rfl (Sub.one rfl (Sub.one rfl (Sub.one rfl (Sub.one rfl (Sub.one rfl (Sub.nil _))))))))) rfl (stLt_cons (lt_os _ _ _ _ _ _) (stLt_cons rfl rfl)) (Nat.zero_le _) ?_
       exact we_lp ⟨n, ⟨(IntKind.u64.wrap (iq123 + 1)), (l124 ++ [x117.elem]), _, h, (Sub.cons rfl (Le.refl _) (Sub.cons rfl (Le.refl _) (Sub.cons rfl (Le.refl _) (Sub.cons rfl (Le.refl _) (Sub.cons rfl (Le.refl _) (Sub.cons rfl (Le.refl _) (Sub.cons rfl (Le.refl _) (Sub.cons rfl (Le.refl _) (Sub.nil _))))))))), ⟨⟨rfl, rfl, rfl, rfl⟩, ⟨rfl, ⟨(Le.refl _), (Le.refl _), (Le.refl _), (Le.refl _), (Le.refl _), (Le.refl _), (Le.refl _), (Le.refl _), (Le.refl _), (Le.refl _), (Le.refl _), (Le.refl _), (Le.refl _), (Le.refl _), (Le.refl _), (Le.refl _), (Le.refl _), (Le.refl _), trivial⟩⟩, trivial⟩⟩, Nat.lt_succ_self n⟩
      ·replace h := condF h hc4
       refine wc_exit ?_
       refine we_seq_exit ?_
       refine we_lp_exit ?_
       refine we_blk_hit ?_
       refine WE.drop 1 (env' := [(1, .d (D.i .i64 sub1)), (2, .d (.pc (R28 t0))), (5, .d (D.i .u8 r112)), (6, .os 0 ver125)]) (Sub.one rfl (Sub.one rfl (Sub.one rfl (Sub.one rfl (Sub.nil _))))) rfl (stLt_cons (lt_os _ _ _ _ _ _) rfl) (Nat.zero_le _) ?_
       exact we_lp ⟨l124, _, h, (Sub.cons rfl (Le.refl _) (Sub.cons rfl (Le.refl _) (Sub.cons rfl (Le.refl _) (Sub.cons rfl (Le.refl _) (Sub.nil _))))), ⟨⟨rfl, rfl, rfl, rfl⟩, trivial⟩⟩
   ·replace h := condF h hc2
    refine wc_skip ?_
    exact we_lp ⟨[], _, h, (Sub.cons rfl (Le.refl _) (Sub.cons rfl (Le.refl _) (Sub.cons rfl (Le.refl _) (Sub.cons rfl (Le.refl _) (Sub.nil _))))), ⟨⟨rfl, rfl, rfl, rfl⟩, trivial⟩⟩
  ·rintro env1 st1 ⟨l113, ver114, h, hsub, hst⟩
   subst hk115
   dsimp only at h
   refine WC.sub hsub (WC.weak hst ?_)
   replace h := letkS h
   obtain ⟨k132, hk132, h⟩ := h
   refine wc_cut (fun env' st' => ∃ (l130 : List Int), ∃ (ver131 : Nat), k132 l130 = some r ∧ Sub [(6, .os 0 ver131)] env' ∧ SLe st' [.os 3 1 ver131 (List.map (encA E3) l130)]) ?_ ?_
   ·refine wc_sr ?_
    refine WL.mv rfl rfl ?_
    refine WL.qn (y_eql rfl rfl) rfl ?_
    refine WL.ns ?_
    refine wc_cond rfl (fun hc5 => ?_) (fun hc5 => ?_)
    ·replace h := condT h hc5
     refine wc_seq ?_
     obtain ⟨x133, hx133, h⟩ := bindS h
     obtain ⟨x134, hx134, h⟩ := bindS h
     apply wc_region_all [_, _, _, _, _, _, _, _, _, _, _, .u] [[], [0], [], [2], [], [2, 3, 4], [2, 3, 4, 5], [2, 3, 4, 5, 6], [0, 1, 2, 3, 4, 5, 6, 7], [0, 1, 2, 3, 4, 5, 6, 7, 8], [], [0, 1, 2, 3, 4, 5, 6, 7, 8, 9, 10]] [10, 11] (fun c => List.getD [[.os 3 1 ver114 (List.map (encA E3) l113)], [.os 3 1 ver114 (List.map (encA E3) l113), .row 54 [.d (D.i .u8 0), .d (D.s ByteArray.empty), .d (D.i .i64 0), .d (D.i .i64 0), .d (.v (.slice none 0 0)), .d (D.i .i64 0), .d (D.i .i64 0), .d (D.i .i64 0), .d (D.s ByteArray.empty), .d (D.b false), .d (D.i .i64 0), .d (.v (.slice none 0 0)), .d (D.i .i64 0), .d (D.i .u8 0), .d (D.b false), .d (D.i .i64 0), .d (D.i .i64 0), .d (D.i .i64 0)]], [.os 3 1 ver114 (List.map (encA E3) l113), .row 54 [.d (D.i .u8 x134.kind), .d (D.s x134.name), .d (D.i .i64 x134.parent), .d (D.i .i64 x134.first), .d (.sl (List.map E9 x134.lits)), .d (D.i .i64 x134.index), .d (D.i .i64 x134.elem), .d (D.i .i64 x134.disc), .d (D.s x134.discName), .d (D.b x134.has), .d (D.i .i64 x134.default_), .d (.sl (List.map E56 x134.comps)), .d (D.i .i64 x134.target), .d (D.i .u8 x134.formal), .d (D.b x134.limited), .d (D.i .i64 x134.priv), .d (D.i .i64 x134.full), .d (D.i .i64 x134.level)]]] c []) [([], [2], [0, 1]), ([0], [], [0, 1]), ([], [2], [0, 1]), ([2], [], [0, 1]), ([], [1], [0, 1]), ([3, 4], [], [0, 1]), ([5], [], [0, 1]), ([6], [], [0, 1]), ([1, 7], [], [0, 1]), ([8], [], [0, 1]), ([], [], [0]), ([10, 9], [], [1])] (by kernel_rfl) (by kernel_rfl) rfl rfl rfl
     ·refine ⟨?_, ?_, ?_, ?_, ?_, ?_, ?_, ?_, ?_, ?_, ?_, ?_, trivial⟩
      ·refine ⟨fun F => ?_, fun F => ?_, trivial⟩
       ·refine WL.qn (y_fieldAddrc f28_0 rfl) rfl ?_
        exact WL.done1 rfl rfl rfl
       ·refine WL.qn (y_fieldAddrc f28_0 rfl) rfl ?_
        exact WL.done1 rfl rfl rfl
      ·refine ⟨fun F => ?_, fun F => ?_, trivial⟩
       ·refine WL.qn (y_loadc rfl a22 rfl) rfl ?_
        exact WL.done1 rfl rfl rfl
       ·refine WL.qn (y_loadc rfl a22 rfl) rfl ?_
        exact WL.done1 rfl rfl rfl
      ·refine ⟨fun F => ?_, fun F => ?_, trivial⟩
       ·refine WL.qn (y_fieldAddrc f28_1 rfl) rfl ?_
        exact WL.done1 rfl rfl rfl
       ·refine WL.qn (y_fieldAddrc f28_1 rfl) rfl ?_
        exact WL.done1 rfl rfl rfl
      ·refine ⟨fun F => ?_, fun F => ?_, trivial⟩
       ·refine WL.qn (y_loadc rfl a23 rfl) rfl ?_
        exact WL.done1 rfl rfl rfl
       ·refine WL.qn (y_loadc rfl a23 rfl) rfl ?_
        exact WL.done1 rfl rfl rfl
      ·refine ⟨fun F => ?_, fun F => ?_, trivial⟩
       ·refine WL.mv rfl rfl ?_
        exact WL.done1 rfl rfl rfl
       ·refine WL.mv rfl rfl ?_
        exact WL.done1 rfl rfl rfl
      ·refine ⟨fun F => ?_, fun F => ?_, trivial⟩
       ·refine WL.qn (y_indexAddr e23 rfl (Le.refl _) rfl (idx_nonneg hx133) (idx_row E40_eq hx133) rfl) rfl ?_
        exact WL.done1 rfl rfl rfl
       ·refine WL.qn (y_indexAddr e23 rfl (Le.refl _) rfl (idx_nonneg hx133) (idx_row E40_eq hx133) rfl) rfl ?_
        exact WL.done1 rfl rfl rfl
      ·refine ⟨fun F => ?_, fun F => ?_, trivial⟩
       ·refine WL.qn (y_fieldAddrc f40_0 rfl) rfl ?_
        exact WL.done1 rfl rfl rfl
       ·refine WL.qn (y_fieldAddrc f40_0 rfl) rfl ?_
        exact WL.done1 rfl rfl rfl
      ·refine ⟨fun F => ?_, fun F => ?_, trivial⟩
       ·refine WL.qn (y_loadc rfl a3 rfl) rfl ?_
        exact WL.done1 rfl rfl rfl
       ·refine WL.qn (y_loadc rfl a3 rfl) rfl ?_
        exact WL.done1 rfl rfl rfl
      ·refine ⟨fun F => ?_, fun F => ?_, trivial⟩
       ·refine WL.qn (y_indexAddr e22 rfl (Le.refl _) rfl (idx_nonneg hx134) (idx_row E54_eq hx134) rfl) rfl ?_
        exact WL.done1 rfl rfl rfl
       ·refine WL.qn (y_indexAddr e22 rfl (Le.refl _) rfl (idx_nonneg hx134) (idx_row E54_eq hx134) rfl) rfl ?_
        exact WL.done1 rfl rfl rfl
      ·refine ⟨fun F => ?_, fun F => ?_, trivial⟩
       ·refine WL.qn (y_loadcN rfl a54 s54 rfl) rfl ?_
        exact WL.done1 rfl rfl rfl
       ·refine WL.qn (y_loadcN rfl a54 s54 rfl) rfl ?_
        exact WL.done1 rfl rfl rfl
      ·refine ⟨fun F => ?_, trivial⟩
       refine WL.s ((b_alloc z54).does) (Wt.none rfl) rfl rfl ?_
       exact WL.done1 rfl rfl rfl
      ·refine ⟨fun F => ?_, trivial⟩
       refine WL.s0 (d_store rfl rfl rfl rfl rfl rfl s54 rfl rfl) (Wt.none rfl) rfl ?_
       exact WL.done0 rfl rfl
     ·refine we_seq ?_
      replace h := letkS h
      obtain ⟨k137, hk137, h⟩ := h
      refine wc_cut (fun env' st' => ∃ (l135 : List Int), ∃ (ver136 : Nat), k137 l135 = some r ∧ Sub [(6, .os 0 ver136), (12, .pt 1 0)] env' ∧ SLe st' [.os 3 1 ver136 (List.map (encA E3) l135), .row 54 [.d (D.i .u8 x134.kind), .d (D.s x134.name), .d (D.i .i64 x134.parent), .d (D.i .i64 x134.first), .d (.sl (List.map E9 x134.lits)), .d (D.i .i64 x134.index), .d (D.i .i64 x134.elem), .d (D.i .i64 x134.disc), .d (D.s x134.discName), .d (D.b x134.has), .d (D.i .i64 x134.default_), .d (.sl (List.map E56 x134.comps)), .d (D.i .i64 x134.target), .d (D.i .u8 x134.formal), .d (D.b x134.limited), .d (D.i .i64 x134.priv), .d (D.i .i64 x134.full), .d (D.i .i64 x134.level)]]) ?_ ?_
      ·refine wc_sr ?_
       refine WL.qn (y_fieldAddr f54_7 rfl) rfl ?_
       refine WL.qn (y_load rfl rfl a3 rfl) rfl ?_
       refine WL.qn (y_neq rfl rfl) rfl ?_
       refine WL.ns ?_
       refine wc_cond rfl (fun hc6 => ?_) (fun hc6 => ?_)
       ·replace h := condT h hc6
        refine wc_region ?_
        refine WL.mv rfl rfl ?_
        refine WL.qn (y_fieldAddr f54_7 rfl) rfl ?_
        refine WL.qn (y_load rfl rfl a3 rfl) rfl ?_
        refine WL.s ((NewOs.b (n_buildSlice l82 z3 rfl (by decide) (by decide) rfl rfl rfl (by decide))).does) (Wt.none rfl) rfl rfl ?_
        replace h := guardBS h
        obtain ⟨hgg138, h⟩ := h
        refine WL.s (d_appendL E3 l113 [x134.disc] l82 z3 rfl (by decide) rfl rfl rfl rfl (Src.own rfl) (fun _ => rfl) (fun _ => rfl) hgg138) (Wt.none rfl) rfl rfl ?_
        refine WL.as rfl rfl ?_
        refine WL.nil ?_
        refine WE.drop 2 (env' := [(6, .os 0 (ver114 + 1)), (12, .pt 1 0)]) (Sub.one rfl (Sub.one rfl (Sub.nil _))) rfl (stLt_cons (lt_os _ _ _ _ _ _) (stLt_cons rfl rfl)) (Nat.zero_le _) ?_
        exact we_lp ⟨(l113 ++ [x134.disc]), _, h, (Sub.cons rfl (Le.refl _) (Sub.cons rfl (Le.refl _) (Sub.nil _))), ⟨⟨rfl, rfl, rfl, rfl⟩, ⟨rfl, ⟨(Le.refl _), (Le.refl _), (Le.refl _), (Le.refl _), (Le.refl _), (Le.refl _), (Le.refl _), (Le.refl _), (Le.refl _), (Le.refl _), (Le.refl _), (Le.refl _), (Le.refl _), (Le.refl _), (Le.refl _), (Le.refl _), (Le.refl _), (Le.refl _), trivial⟩⟩, trivial⟩⟩
       ·replace h := condF h hc6
        refine wc_skip ?_
        exact we_lp ⟨l113, _, h, (Sub.cons rfl (Le.refl _) (Sub.cons rfl (Le.refl _) (Sub.nil _))), ⟨⟨rfl, rfl, rfl, rfl⟩, ⟨rfl, ⟨(Le.refl _), (Le.refl _), (Le.refl _), (Le.refl _), (Le.refl _), (Le.refl _), (Le.refl _), (Le.refl _), (Le.refl _), (Le.refl _), (Le.refl _), (Le.refl _), (Le.refl _), (Le.refl _), (Le.refl _), (Le.refl _), (Le.refl _), (Le.refl _), trivial⟩⟩, trivial⟩⟩
      ·rintro env1 st1 ⟨l135, ver136, h, hsub, hst⟩
       subst hk137
       dsimp only at h
       refine WC.sub hsub (WC.weak hst ?_)
       refine wc_sr ?_
       refine WL.as rfl rfl ?_
       refine WL.ns ?_
       refine wc_block ?_
       refine wc_loop (fun n env' st' => ∃ (iq142 : Int), ∃ (l143 : List Int), ∃ (ver144 : Nat), f59_l2 k132 x134 n iq142 l143 = some r ∧ Sub [(6, .os 0 ver144), (12, .pt 1 0), (13, .d (D.i .i64 iq142))] env' ∧ SLe st' [.os 3 1 ver144 (List.map (encA E3) l143), .row 54 [.d (D.i .u8 x134.kind), .d (D.s x134.name), .d (D.i .i64 x134.parent), .d (D.i .i64 x134.first), .d (.sl (List.map E9 x134.lits)), .d (D.i .i64 x134.index), .d (D.i .i64 x134.elem), .d (D.i .i64 x134.disc), .d (D.s x134.discName), .d (D.b x134.has), .d (D.i .i64 x134.default_), .d (.sl (List.map E56 x134.comps)), .d (D.i .i64 x134.target), .d (D.i .u8 x134.formal), .d (D.b x134.limited), .d (D.i .i64 x134.priv), .d (D.i .i64 x134.full), .d (D.i .i64 x134.level)]]) (fun n => n) 9223372036854775808 ⟨0, l135, _, h, (Sub.cons rfl (Le.refl _) (Sub.cons rfl (Le.refl _) (Sub.cons rfl (Le.refl _) (Sub.nil _)))), ⟨⟨rfl, rfl, rfl, rfl⟩, ⟨rfl, ⟨(Le.refl _), (Le.refl _), (Le.refl _), (Le.refl _), (Le.refl _), (Le.refl _), (Le.refl _), (Le.refl _), (Le.refl _), (Le.refl _), (Le.refl _), (Le.refl _), (Le.refl _), (Le.refl _), (Le.refl _), (Le.refl _), (Le.refl _), (Le.refl _), trivial⟩⟩, trivial⟩⟩ ?_
       rintro n env1 st1 ⟨iq142, l143, ver144, h, hsub, hst⟩
       cases n with
       | zero => rw [f59_l2] at h; cases h
       | succ n =>
       rw [f59_l2] at h
       refine WC.sub hsub (WC.weak hst ?_)
       refine wc_seq ?_
       refine wc_sr ?_
       refine WL.mv rfl rfl ?_
       refine WL.qn (y_fieldAddr f54_11 rfl) rfl ?_
       refine WL.qn (y_load rfl rfl a51 rfl) rfl ?_
       refine WL.qn (y_len_map E56 x134.comps e51 rfl rfl (Le.refl _)) rfl ?_
       refine WL.qn (y_lss rfl rfl) rfl ?_
       refine WL.ns ?_
       refine wc_cond rfl (fun hc7 => ?_) (fun hc7 => ?_)
       ·replace h := condT h hc7
        refine wc_skip ?_
        refine we_seq ?_
        refine wc_seq ?_
        refine wc_block ?_
        refine wc_region ?_
        refine WL.mv rfl rfl ?_
        refine WL.qn (y_fieldAddr f54_11 rfl) rfl ?_
        refine WL.qn (y_load rfl rfl a51 rfl) rfl ?_
        refine WL.mv rfl rfl ?_
        obtain ⟨x148, hx148, h⟩ := bindS h
        refine WL.qn (y_indexAddr e51 rfl (Le.refl _) rfl (idx_nonneg hx148) (idx_row E56_eq hx148) rfl) rfl ?_
        refine WL.qn (y_fieldAddrc f56_1 rfl) rfl ?_
        refine WL.qn (y_loadc rfl a3 rfl) rfl ?_
        refine WL.s ((NewOs.b (n_buildSlice l82 z3 rfl (by decide) (by decide) rfl rfl rfl (by decide))).does) (Wt.none rfl) rfl rfl ?_
        replace h := guardBS h
        obtain ⟨hgg149, h⟩ := h
        refine WL.s (d_appendL E3 l143 [x148.sub] l82 z3 rfl (by decide) rfl rfl rfl rfl (Src.own rfl) (fun _ => rfl) (fun _ => rfl) hgg149) (Wt.none rfl) rfl rfl ?_
        refine WL.as rfl rfl ?_
        refine WL.nil ?_
        refine we_blk ?_
        refine we_seq ?_
        refine wc_region ?_
        refine WL.mv rfl rfl ?_
        refine WL.qn (y_add rfl rfl rfl) rfl ?_
        refine WL.as rfl rfl ?_
        refine WL.nil ?_
        refine WE.drop 2 (env' := [(6, .os 0 (ver144 + 1)), (12, .pt 1 0), (13, .d (D.i .i64 (IntKind.i64.wrap (iq142 + 1))))]) (Sub.one rfl (Sub.one rfl (Sub.one rfl (Sub.nil _)))) rfl (stLt_cons (lt_os _ _ _ _ _ _) (stLt_cons rfl rfl)) (Nat.zero_le _) ?_
        exact we_lp ⟨n, ⟨(IntKind.i64.wrap (iq142 + 1)), (l143 ++ [x148.sub]), _, h, (Sub.cons rfl (Le.refl _) (Sub.cons rfl (Le.refl _) (Sub.cons rfl (Le.refl _) (Sub.nil _)))), ⟨⟨rfl, rfl, rfl, rfl⟩, ⟨rfl, ⟨(Le.refl _), (Le.refl _), (Le.refl _), (Le.refl _), (Le.refl _), (Le.refl _), (Le.refl _), (Le.refl _), (Le.refl _), (Le.refl _), (Le.refl _), (Le.refl _), (Le.refl _), (Le.refl _), (Le.refl _), (Le.refl _), (Le.refl _), (Le.refl _), trivial⟩⟩, trivial⟩⟩, Nat.lt_succ_self n⟩
       ·replace h := condF h hc7
        refine wc_exit ?_
        refine we_seq_exit ?_
        refine we_lp_exit ?_
        refine we_blk_hit ?_
        refine WE.drop 1 (env' := [(6, .os 0 ver144)]) (Sub.one rfl (Sub.nil _)) rfl (stLt_cons (lt_os _ _ _ _ _ _) rfl) (Nat.zero_le _) ?_
        exact we_lp ⟨l143, _, h, (Sub.cons rfl (Le.refl _) (Sub.nil _)), ⟨⟨rfl, rfl, rfl, rfl⟩, trivial⟩⟩
    ·replace h := condF h hc5
     refine wc_skip ?_
     exact we_lp ⟨l113, _, h, (Sub.cons rfl (Le.refl _) (Sub.nil _)), ⟨⟨rfl, rfl, rfl, rfl⟩, trivial⟩⟩
   ·rintro env1 st1 ⟨l130, ver131, h, hsub, hst⟩
    subst hk132
    dsimp only at h
    refine WC.sub hsub (WC.weak hst ?_)
    refine wc_sr ?_
    refine WL.mv rfl rfl ?_
    refine WL.as rfl rfl ?_
    refine WL.ns ?_
    refine wc_ret ?_
    refine WE.freezeX [6, 108, 4] [] 0 (List.map E3 l130) rfl (encA_map E3_eq l130) ⟨rfl, rfl, rfl, trivial⟩ trivial ?_
    obtain rfl := Option.some.inj h
    exact we_ret_fn (rs1 rfl (rv_t rfl)) (Le.refl _)

theorem f30_c (t0 : Table) (sub1 : Int) {r : Int} (h : f30 t0 sub1 = some r) : Pu Tryd.prog 30 [.ag (R28 t0), .i .i64 sub1] (.i .i64 r) := by
 unfold f30 at h
 refine fn_intro Tryd.func30 (by kernel_rfl) rfl rfl rfl (fun φφ ww => ?_)
 refine wc_sr ?_
 refine WL.s ((b_boxd rfl rfl (Les.refl _)).does) (Wt.none rfl) rfl rfl ?_
 refine WL.as rfl rfl ?_
 refine WL.ns ?_
 refine wc_sr ?_
 refine WL.qn (y_loadcN rfl a28 s28 rfl) rfl ?_
 refine WL.mv rfl rfl ?_
 obtain ⟨r12, hr12, h⟩ := bindS h
 refine WL.fn rfl rfl rfl rfl (f59_c _ _ hr12) ⟨(Le.refl _), (Le.refl _), trivial⟩ (Wt.none rfl) rfl rfl ?_
 refine WL.qn (y_len_map E3 r12 e82 rfl rfl (Le.refl _)) rfl ?_
 refine WL.as rfl rfl ?_
 refine WL.ns ?_
 refine wc_ret ?_
 obtain rfl := Option.some.inj h
 exact we_ret_fn (rs1 rfl (rv_t rfl)) (Le.refl _)

theorem f45_c (t0 : Table) (sub1 : Int) (v2 : Int) {r : Bool} (h : f45 t0 sub1 v2 = some r) : Pu Tryd.prog 45 [.ag (R28 t0), .i .i64 sub1, .i .i64 v2] (.b r) := by
 unfold f45 at h
 refine fn_intro Tryd.func45 (by kernel_rfl) rfl rfl rfl (fun φφ ww => ?_)
 refine wc_sr ?_
 refine WL.s ((b_boxd rfl rfl (Les.refl _)).does) (Wt.none rfl) rfl rfl ?_
 refine WL.as rfl rfl ?_
 refine WL.ns ?_
 refine wc_sr ?_
 refine WL.qn (y_loadcN rfl a28 s28 rfl) rfl ?_
 refine WL.mv rfl rfl ?_
 obtain ⟨r32, hr32, h⟩ := bindS h
 refine WL.fn rfl rfl rfl rfl (f26_c _ _ hr32) ⟨(Le.refl _), (Le.refl _), trivial⟩ (Wt.none rfl) rfl rfl ?_
 refine WL.mv rfl rfl ?_
 refine WL.qn (y_extractd rfl rfl) rfl ?_
 refine WL.qn (y_extractd rfl rfl) rfl ?_
 refine WL.qn (y_extractd rfl rfl) rfl ?_
 refine WL.as rfl rfl ?_
 refine WL.as rfl rfl ?_
 refine WL.as rfl rfl ?_
 refine WL.ns ?_
 refine wc_sr ?_
 refine WL.mv rfl rfl ?_
 refine WL.mv rfl rfl ?_
 apply WL.and 4 (t := 18) (d := 22)
 ·exact rfl
 ·intro hg18
  refine WL.qy (y_move rfl) rfl rfl rfl ?_
  refine WL.qy (y_move rfl) rfl rfl rfl ?_
  refine WL.qy (y_geq rfl rfl) rfl rfl rfl ?_
  refine WL.qn (y_pick_t rfl rfl) rfl ?_
  exact WL.nil ⟨rfl, [_, _, _, _], rfl, rfl, rfl⟩
 ·refine WL.skips 3 rfl ?_
  refine WL.qn (y_pick_f rfl rfl) rfl ?_
  exact WL.nil ⟨rfl, [_, _, _, _], rfl, rfl, rfl⟩
 refine WL.mv rfl rfl ?_
 apply WL.and 4 (t := 23) (d := 27)
 ·exact rfl
 ·intro hg23
  refine WL.qy (y_move rfl) rfl rfl rfl ?_
  refine WL.qy (y_move rfl) rfl rfl rfl ?_
  refine WL.qy (y_leq rfl rfl) rfl rfl rfl ?_
  refine WL.qn (y_pick_t rfl rfl) rfl ?_
  exact WL.nil ⟨rfl, [_, _, _, _], rfl, rfl, rfl⟩
 ·refine WL.skips 3 rfl ?_
  refine WL.qn (y_pick_f rfl rfl) rfl ?_
  exact WL.nil ⟨rfl, [_, _, _, _], rfl, rfl, rfl⟩
 refine WL.as rfl rfl ?_
 refine WL.ns ?_
 refine wc_ret ?_
 obtain rfl := Option.some.inj h
 exact we_ret_fn (rs1 rfl (rv_t rfl)) (Le.refl _)

theorem f12_c (t0 : Table) (sub1 : Int) (index2 : Int) {r : Int × Bool} (h : f12 t0 sub1 index2 = some r) : Pu Tryd.prog 12 [.ag (R28 t0), .i .i64 sub1, .i .i64 index2] (.tu [.i .i64 r.1, .b r.2]) := by
 unfold f12 at h
 refine fn_intro Tryd.func12 (by kernel_rfl) rfl rfl rfl (fun φφ ww => ?_)
 refine wc_sr ?_
 refine WL.s ((b_boxd rfl rfl (Les.refl _)).does) (Wt.none rfl) rfl rfl ?_
 refine WL.as rfl rfl ?_
 refine WL.as rfl rfl ?_
 refine WL.ns ?_
 refine wc_seq ?_
 refine wc_seq ?_
 refine wc_region_draw (by kernel_rfl) (by kernel_rfl) ?_
 refine WQ.qn (y_loadcN rfl a28 s28 rfl) rfl ?_
 refine WQ.qn (y_move rfl) rfl ?_
 obtain ⟨r62, hr62, h⟩ := bindS h
 refine WQ.q (YieldsQ.fn rfl rfl rfl rfl rfl (f44_c _ _ hr62) ⟨(Le.refl _), (Le.refl _), trivial⟩) (Wt.none rfl) rfl rfl ?_
 refine WQ.qn (y_neq rfl rfl) rfl ?_
 refine WQ.qn (y_move rfl) rfl ?_
 obtain ⟨b63, hb63, h⟩ := bindS h
 apply WQ.grp 5 (t := 15) (d := 20) (z := b63)
 ·exact rfl
 ·intro hg15
  have h := condT hb63 hg15
  refine WQ.skips 4 rfl ?_
  refine WQ.qn (y_pick_t rfl rfl) rfl ?_
  obtain rfl := Option.some.inj h
  exact WQ.nil ⟨[_, _, _, _, _], rfl, rfl, rfl⟩
 ·intro hg15
  have h := condF hb63 hg15
  refine WQ.qy (y_loadcN rfl a28 s28 rfl) rfl rfl rfl ?_
  refine WQ.qy (y_move rfl) rfl rfl rfl ?_
  obtain ⟨r64, hr64, h⟩ := bindS h
  refine WQ.q (YieldsQ.fn rfl rfl rfl rfl rfl (f30_c _ _ hr64) ⟨(Le.refl _), (Le.refl _), trivial⟩) (Wt.yes rfl rfl rfl) rfl rfl ?_
  refine WQ.qy (y_eql rfl rfl) rfl rfl rfl ?_
  refine WQ.qn (y_pick_f rfl rfl) rfl ?_
  obtain rfl := Option.some.inj h
  exact WQ.nil ⟨[_, _, _, _, _], rfl, rfl, rfl⟩
 refine WQ.qn (y_move rfl) rfl ?_
 obtain ⟨b65, hb65, h⟩ := bindS h
 apply WQ.grp 16 (t := 21) (d := 37) (z := b65)
 ·exact rfl
 ·intro hg21
  have h := condT hb65 hg21
  refine WQ.skips 15 rfl ?_
  refine WQ.qn (y_pick_t rfl rfl) rfl ?_
  obtain rfl := Option.some.inj h
  exact WQ.nil ⟨[_, _, _, _, _, _, _, _, _, _, _, _, _, _, _, _], rfl, rfl, rfl⟩
 ·intro hg21
  have h := condF hb65 hg21
  refine WQ.qy (y_loadcN rfl a28 s28 rfl) rfl rfl rfl ?_
  refine WQ.qy (y_fieldAddrc f28_0 rfl) rfl rfl rfl ?_
  refine WQ.qy (y_loadc rfl a22 rfl) rfl rfl rfl ?_
  refine WQ.qy (y_fieldAddrc f28_1 rfl) rfl rfl rfl ?_
  refine WQ.qy (y_loadc rfl a23 rfl) rfl rfl rfl ?_
  refine WQ.qy (y_move rfl) rfl rfl rfl ?_
  obtain ⟨x66, hx66, h⟩ := bindS h
  refine WQ.qy (y_indexAddr e23 rfl (Le.refl _) rfl (idx_nonneg hx66) (idx_row E40_eq hx66) rfl) rfl rfl rfl ?_
  refine WQ.qy (y_fieldAddrc f40_0 rfl) rfl rfl rfl ?_
  refine WQ.qy (y_loadc rfl a3 rfl) rfl rfl rfl ?_
  obtain ⟨x67, hx67, h⟩ := bindS h
  refine WQ.qy (y_indexAddr e22 rfl (Le.refl _) rfl (idx_nonneg hx67) (idx_row E54_eq hx67) rfl) rfl rfl rfl ?_
  refine WQ.qy (y_fieldAddrc f54_5 rfl) rfl rfl rfl ?_
  refine WQ.qy (y_loadc rfl a3 rfl) rfl rfl rfl ?_
  refine WQ.qy (y_move rfl) rfl rfl rfl ?_
  obtain ⟨r68, hr68, h⟩ := bindS h
  refine WQ.q (YieldsQ.fn rfl rfl rfl rfl rfl (f45_c _ _ _ hr68) ⟨(Le.refl _), (Le.refl _), (Le.refl _), trivial⟩) (Wt.yes rfl rfl rfl) rfl rfl ?_
  refine WQ.qy (y_not rfl) rfl rfl rfl ?_
  refine WQ.qn (y_pick_f rfl rfl) rfl ?_
  obtain rfl := Option.some.inj h
  exact WQ.nil ⟨[_, _, _, _, _, _, _, _, _, _, _, _, _, _, _, _], rfl, rfl, rfl⟩
 refine WQ.nil ?_
 refine we_seq ?_
 refine wc_cond rfl (fun hc1 => ?_) (fun hc1 => ?_)
 ·replace h := condT h hc1
  refine wc_sr ?_
  refine WL.as rfl rfl ?_
  refine WL.as rfl rfl ?_
  refine WL.ns ?_
  refine wc_ret ?_
  refine we_seq_ret ?_
  obtain rfl := Option.some.inj h
  exact we_ret_fn (rs2 rfl (rv_t rfl) (rv_t rfl)) (Le.tud ⟨(Le.refl _), (Le.refl _), trivial⟩)
 ·replace h := condF h hc1
  refine wc_skip ?_
  refine we_seq ?_
  refine wc_seq ?_
  refine wc_region_draw (by kernel_rfl) (by kernel_rfl) ?_
  refine WQ.qn (y_loadcN rfl a28 s28 rfl) rfl ?_
  refine WQ.qn (y_fieldAddrc f28_0 rfl) rfl ?_
  refine WQ.qn (y_loadc rfl a22 rfl) rfl ?_
  refine WQ.qn (y_fieldAddrc f28_1 rfl) rfl ?_
  refine WQ.qn (y_loadc rfl a23 rfl) rfl ?_
  refine WQ.qn (y_move rfl) rfl ?_
  obtain ⟨x69, hx69, h⟩ := bindS h
  refine WQ.qn (y_indexAddr e23 rfl (Le.refl _) rfl (idx_nonneg hx69) (idx_row E40_eq hx69) rfl) rfl ?_
  refine WQ.qn (y_fieldAddrc f40_0 rfl) rfl ?_
  refine WQ.qn (y_loadc rfl a3 rfl) rfl ?_
  obtain ⟨x70, hx70, h⟩ := bindS h
  refine WQ.qn (y_indexAddr e22 rfl (Le.refl _) rfl (idx_nonneg hx70) (idx_row E54_eq hx70) rfl) rfl ?_
  refine WQ.qn (y_fieldAddrc f54_5 rfl) rfl ?_
  refine WQ.qn (y_loadc rfl a3 rfl) rfl ?_
  obtain ⟨r71, hr71, h⟩ := bindS h
  refine WQ.q (YieldsQ.fn rfl rfl rfl rfl rfl (f26_c _ _ hr71) ⟨(Le.refl _), (Le.refl _), trivial⟩) (Wt.none rfl) rfl rfl ?_
  refine WQ.qn (y_move rfl) rfl ?_
  refine WQ.qn (y_extractd rfl rfl) rfl ?_
  refine WQ.qn (y_extractd rfl rfl) rfl ?_
  refine WQ.qn (y_extractd rfl rfl) rfl ?_
  refine WQ.qn (y_assign rfl) rfl ?_
  refine WQ.qn (y_assign rfl) rfl ?_
  refine WQ.qn (y_assign rfl) rfl ?_
  refine WQ.nil ?_
  refine we_seq ?_
  refine wc_sr ?_
  refine WL.mv rfl rfl ?_
  refine WL.mv rfl rfl ?_
  refine WL.qn (y_sub rfl rfl rfl) rfl ?_
  refine WL.as rfl rfl ?_
  refine WL.as rfl rfl ?_
  refine WL.ns ?_
  refine wc_ret ?_
  obtain rfl := Option.some.inj h
  exact we_ret_fn (rs2 rfl (rv_t rfl) (rv_t rfl)) (Le.tud ⟨(Le.refl _), (Le.refl _), trivial⟩)

theorem f14_c (t0 : Table) (sub1 : Int) (name2 : ByteArray) {r : Int × Bool} (h : f14 t0 sub1 name2 = some r) : Pu Tryd.prog 14 [.ag (R28 t0), .i .i64 sub1, .s name2] (.tu [.i .i64 r.1, .b r.2]) := by
 unfold f14 at h
 refine fn_intro Tryd.func14 (by kernel_rfl) rfl rfl rfl (fun φφ ww => ?_)
 refine wc_sr ?_
 refine WL.s ((b_boxd rfl rfl (Les.refl _)).does) (Wt.none rfl) rfl rfl ?_
 refine WL.as rfl rfl ?_
 refine WL.as rfl rfl ?_
 refine WL.ns ?_
 refine wc_seq ?_
 refine wc_sr ?_
 refine WL.qn (y_loadcN rfl a28 s28 rfl) rfl ?_
 refine WL.mv rfl rfl ?_
 obtain ⟨r54, hr54, h⟩ := bindS h
 refine WL.fn rfl rfl rfl rfl (f44_c _ _ hr54) ⟨(Le.refl _), (Le.refl _), trivial⟩ (Wt.none rfl) rfl rfl ?_
 refine WL.qn (y_neq rfl rfl) rfl ?_
 refine WL.ns ?_
 refine wc_cond rfl (fun hc1 => ?_) (fun hc1 => ?_)
 ·replace h := condT h hc1
  refine wc_sr ?_
  refine WL.as rfl rfl ?_
  refine WL.as rfl rfl ?_
  refine WL.ns ?_
  refine wc_ret ?_
  refine we_seq_ret ?_
  obtain rfl := Option.some.inj h
  exact we_ret_fn (rs2 rfl (rv_t rfl) (rv_t rfl)) (Le.tud ⟨(Le.refl _), (Le.refl _), trivial⟩)
 ·replace h := condF h hc1
  refine wc_skip ?_
  refine we_seq ?_
  refine wc_seq ?_
  obtain ⟨x55, hx55, h⟩ := bindS h
  obtain ⟨x56, hx56, h⟩ := bindS h
  apply wc_region_all [_, _, _, _, _, _, _, _, _, _, _, .u] [[], [0], [], [2], [], [2, 3, 4], [2, 3, 4, 5], [2, 3, 4, 5, 6], [0, 1, 2, 3, 4, 5, 6, 7], [0, 1, 2, 3, 4, 5, 6, 7, 8], [], [0, 1, 2, 3, 4, 5, 6, 7, 8, 9, 10]] [10, 11] (fun c => List.getD [[], [.row 54 [.d (D.i .u8 0), .d (D.s ByteArray.empty), .d (D.i .i64 0), .d (D.i .i64 0), .d (.v (.slice none 0 0)), .d (D.i .i64 0), .d (D.i .i64 0), .d (D.i .i64 0), .d (D.s ByteArray.empty), .d (D.b false), .d (D.i .i64 0), .d (.v (.slice none 0 0)), .d (D.i .i64 0), .d (D.i .u8 0), .d (D.b false), .d (D.i .i64 0), .d (D.i .i64 0), .d (D.i .i64 0)]], [.row 54 [.d (D.i .u8 x56.kind), .d (D.s x56.name), .d (D.i .i64 x56.parent), .d (D.i .i64 x56.first), .d (.sl (List.map E9 x56.lits)), .d (D.i .i64 x56.index), .d (D.i .i64 x56.elem), .d (D.i .i64 x56.disc), .d (D.s x56.discName), .d (D.b x56.has), .d (D.i .i64 x56.default_), .d (.sl (List.map E56 x56.comps)), .d (D.i .i64 x56.target), .d (D.i .u8 x56.formal), .d (D.b x56.limited), .d (D.i .i64 x56.priv), .d (D.i .i64 x56.full), .d (D.i .i64 x56.level)]]] c []) [([], [3], [0, 1]), ([0], [], [0, 1]), ([], [3], [0, 1]), ([2], [], [0, 1]), ([], [1], [0, 1]), ([3, 4], [], [0, 1]), ([5], [], [0, 1]), ([6], [], [0, 1]), ([1, 7], [], [0, 1]), ([8], [], [0, 1]), ([], [], [0]), ([10, 9], [], [1])] (by kernel_rfl) (by kernel_rfl) rfl rfl rfl
  ·refine ⟨?_, ?_, ?_, ?_, ?_, ?_, ?_, ?_, ?_, ?_, ?_, ?_, trivial⟩
   ·refine ⟨fun F => ?_, fun F => ?_, trivial⟩
    ·refine WL.qn (y_fieldAddrc f28_0 rfl) rfl ?_
     exact WL.done1 rfl rfl rfl
    ·refine WL.qn (y_fieldAddrc f28_0 rfl) rfl ?_
     exact WL.done1 rfl rfl rfl
   ·refine ⟨fun F => ?_, fun F => ?_, trivial⟩
    ·refine WL.qn (y_loadc rfl a22 rfl) rfl ?_
     exact WL.done1 rfl rfl rfl
    ·refine WL.qn (y_loadc rfl a22 rfl) rfl ?_
     exact WL.done1 rfl rfl rfl
   ·refine ⟨fun F => ?_, fun F => ?_, trivial⟩
    ·refine WL.qn (y_fieldAddrc f28_1 rfl) rfl ?_
     exact WL.done1 rfl rfl rfl
    ·refine WL.qn (y_fieldAddrc f28_1 rfl) rfl ?_
     exact WL.done1 rfl rfl rfl
   ·refine ⟨fun F => ?_, fun F => ?_, trivial⟩
    ·refine WL.qn (y_loadc rfl a23 rfl) rfl ?_
     exact WL.done1 rfl rfl rfl
    ·refine WL.qn (y_loadc rfl a23 rfl) rfl ?_
     exact WL.done1 rfl rfl rfl
   ·refine ⟨fun F => ?_, fun F => ?_, trivial⟩
    ·refine WL.mv rfl rfl ?_
     exact WL.done1 rfl rfl rfl
    ·refine WL.mv rfl rfl ?_
     exact WL.done1 rfl rfl rfl
   ·refine ⟨fun F => ?_, fun F => ?_, trivial⟩
    ·refine WL.qn (y_indexAddr e23 rfl (Le.refl _) rfl (idx_nonneg hx55) (idx_row E40_eq hx55) rfl) rfl ?_
     exact WL.done1 rfl rfl rfl
    ·refine WL.qn (y_indexAddr e23 rfl (Le.refl _) rfl (idx_nonneg hx55) (idx_row E40_eq hx55) rfl) rfl ?_
     exact WL.done1 rfl rfl rfl
   ·refine ⟨fun F => ?_, fun F => ?_, trivial⟩
    ·refine WL.qn (y_fieldAddrc f40_0 rfl) rfl ?_
     exact WL.done1 rfl rfl rfl
    ·refine WL.qn (y_fieldAddrc f40_0 rfl) rfl ?_
     exact WL.done1 rfl rfl rfl
   ·refine ⟨fun F => ?_, fun F => ?_, trivial⟩
    ·refine WL.qn (y_loadc rfl a3 rfl) rfl ?_
     exact WL.done1 rfl rfl rfl
    ·refine WL.qn (y_loadc rfl a3 rfl) rfl ?_
     exact WL.done1 rfl rfl rfl
   ·refine ⟨fun F => ?_, fun F => ?_, trivial⟩
    ·refine WL.qn (y_indexAddr e22 rfl (Le.refl _) rfl (idx_nonneg hx56) (idx_row E54_eq hx56) rfl) rfl ?_
     exact WL.done1 rfl rfl rfl
    ·refine WL.qn (y_indexAddr e22 rfl (Le.refl _) rfl (idx_nonneg hx56) (idx_row E54_eq hx56) rfl) rfl ?_
     exact WL.done1 rfl rfl rfl
   ·refine ⟨fun F => ?_, fun F => ?_, trivial⟩
    ·refine WL.qn (y_loadcN rfl a54 s54 rfl) rfl ?_
     exact WL.done1 rfl rfl rfl
    ·refine WL.qn (y_loadcN rfl a54 s54 rfl) rfl ?_
     exact WL.done1 rfl rfl rfl
   ·refine ⟨fun F => ?_, trivial⟩
    refine WL.s ((b_alloc z54).does) (Wt.none rfl) rfl rfl ?_
    exact WL.done1 rfl rfl rfl
   ·refine ⟨fun F => ?_, trivial⟩
    refine WL.s0 (d_store rfl rfl rfl rfl rfl rfl s54 rfl rfl) (Wt.none rfl) rfl ?_
    exact WL.done0 rfl rfl
  ·refine we_seq ?_
   refine wc_sr ?_
   refine WL.as rfl rfl ?_
   refine WL.ns ?_
   replace h := letkS h
   obtain ⟨k58, hk58, h⟩ := h
   refine wc_cut (fun env' st' => ∃ (first57 : Int), k58 first57 = some r ∧ Sub [(2, .d (D.s name2)), (8, .pt 0 0), (9, .d (D.i .i64 first57))] env' ∧ SLe st' [.row 54 [.d (D.i .u8 x56.kind), .d (D.s x56.name), .d (D.i .i64 x56.parent), .d (D.i .i64 x56.first), .d (.sl (List.map E9 x56.lits)), .d (D.i .i64 x56.index), .d (D.i .i64 x56.elem), .d (D.i .i64 x56.disc), .d (D.s x56.discName), .d (D.b x56.has), .d (D.i .i64 x56.default_), .d (.sl (List.map E56 x56.comps)), .d (D.i .i64 x56.target), .d (D.i .u8 x56.formal), .d (D.b x56.limited), .d (D.i .i64 x56.priv), .d (D.i .i64 x56.full), .d (D.i .i64 x56.level)]]) ?_ ?_
   ·refine wc_sr ?_
    refine WL.qn (y_fieldAddr f54_7 rfl) rfl ?_
    refine WL.qn (y_load rfl rfl a3 rfl) rfl ?_
    refine WL.qn (y_neq rfl rfl) rfl ?_
    refine WL.ns ?_
    refine wc_cond rfl (fun hc2 => ?_) (fun hc2 => ?_)
    ·replace h := condT h hc2
     refine wc_seq ?_
     refine wc_sr ?_
     refine WL.qn (y_fieldAddr f54_8 rfl) rfl ?_
     refine WL.qn (y_load rfl rfl a9 rfl) rfl ?_
     refine WL.mv rfl rfl ?_
     refine WL.qn (y_eqs rfl rfl) rfl ?_
     refine WL.ns ?_
     refine wc_cond rfl (fun hc3 => ?_) (fun hc3 => ?_)
     ·replace h := condT h hc3
      refine wc_sr ?_
      refine WL.as rfl rfl ?_
      refine WL.as rfl rfl ?_
      refine WL.ns ?_
      refine wc_ret ?_
      refine we_seq_ret ?_
      refine we_lp_ret ?_
      obtain rfl := Option.some.inj h
      exact we_ret_fn (rs2 rfl (rv_t rfl) (rv_t rfl)) (Le.tud ⟨(Le.refl _), (Le.refl _), trivial⟩)
     ·replace h := condF h hc3
      refine wc_skip ?_
      refine we_seq ?_
      refine wc_region ?_
      refine WL.as rfl rfl ?_
      refine WL.nil ?_
      exact we_lp ⟨1, h, (Sub.cons rfl (Le.refl _) (Sub.cons rfl (Le.refl _) (Sub.cons rfl (Le.refl _) (Sub.nil _)))), ⟨⟨rfl, ⟨(Le.refl _), (Le.refl _), (Le.refl _), (Le.refl _), (Le.refl _), (Le.refl _), (Le.refl _), (Le.refl _), (Le.refl _), (Le.refl _), (Le.refl _), (Le.refl _), (Le.refl _), (Le.refl _), (Le.refl _), (Le.refl _), (Le.refl _), (Le.refl _), trivial⟩⟩, trivial⟩⟩
    ·replace h := condF h hc2
     refine wc_skip ?_
     exact we_lp ⟨0, h, (Sub.cons rfl (Le.refl _) (Sub.cons rfl (Le.refl _) (Sub.cons rfl (Le.refl _) (Sub.nil _)))), ⟨⟨rfl, ⟨(Le.refl _), (Le.refl _), (Le.refl _), (Le.refl _), (Le.refl _), (Le.refl _), (Le.refl _), (Le.refl _), (Le.refl _), (Le.refl _), (Le.refl _), (Le.refl _), (Le.refl _), (Le.refl _), (Le.refl _), (Le.refl _), (Le.refl _), (Le.refl _), trivial⟩⟩, trivial⟩⟩
   ·rintro env1 st1 ⟨first57, h, hsub, hst⟩
    subst hk58
    dsimp only at h
    refine WC.sub hsub (WC.weak hst ?_)
    replace h := letkS h
    obtain ⟨k59, hk59, h⟩ := h
    refine wc_cut (fun env' st' => k59 () = some r ∧ Sub [] env' ∧ SLe st' [.row 54 [.d (D.i .u8 x56.kind), .d (D.s x56.name), .d (D.i .i64 x56.parent), .d (D.i .i64 x56.first), .d (.sl (List.map E9 x56.lits)), .d (D.i .i64 x56.index), .d (D.i .i64 x56.elem), .d (D.i .i64 x56.disc), .d (D.s x56.discName), .d (D.b x56.has), .d (D.i .i64 x56.default_), .d (.sl (List.map E56 x56.comps)), .d (D.i .i64 x56.target), .d (D.i .u8 x56.formal), .d (D.b x56.limited), .d (D.i .i64 x56.priv), .d (D.i .i64 x56.full), .d (D.i .i64 x56.level)]]) ?_ ?_
    ·refine wc_sr ?_
     refine WL.as rfl rfl ?_
     refine WL.ns ?_
     refine wc_block ?_
     refine wc_loop (fun n env' st' => ∃ (iq61 : Int), f14_l1 name2 x56 first57 k59 n iq61 = some r ∧ Sub [(2, .d (D.s name2)), (8, .pt 0 0), (9, .d (D.i .i64 first57)), (10, .d (D.i .i64 iq61))] env' ∧ SLe st' [.row 54 [.d (D.i .u8 x56.kind), .d (D.s x56.name), .d (D.i .i64 x56.parent), .d (D.i .i64 x56.first), .d (.sl (List.map E9 x56.lits)), .d (D.i .i64 x56.index), .d (D.i .i64 x56.elem), .d (D.i .i64 x56.disc), .d (D.s x56.discName), .d (D.b x56.has), .d (D.i .i64 x56.default_), .d (.sl (List.map E56 x56.comps)), .d (D.i .i64 x56.target), .d (D.i .u8 x56.formal), .d (D.b x56.limited), .d (D.i .i64 x56.priv), .d (D.i .i64 x56.full), .d (D.i .i64 x56.level)]]) (fun n => n) 9223372036854775808 ⟨0, h, (Sub.cons rfl (Le.refl _) (Sub.cons rfl (Le.refl _) (Sub.cons rfl (Le.refl _) (Sub.cons rfl (Le.refl _) (Sub.nil _))))), ⟨⟨rfl, ⟨(Le.refl _), (Le.refl _), (Le.refl _), (Le.refl _), (Le.refl _), (Le.refl _), (Le.refl _), (Le.refl _), (Le.refl _), (Le.refl _), (Le.refl _), (Le.refl _), (Le.refl _), (Le.refl _), (Le.refl _), (Le.refl _), (Le.refl _), (Le.refl _), trivial⟩⟩, trivial⟩⟩ ?_
     rintro n env1 st1 ⟨iq61, h, hsub, hst⟩
     cases n with
     | zero => rw [f14_l1] at h; cases h
     | succ n =>
     rw [f14_l1] at h
     refine WC.sub hsub (WC.weak hst ?_)
     refine wc_seq ?_
     refine wc_sr ?_
     refine WL.mv rfl rfl ?_
     refine WL.qn (y_fieldAddr f54_11 rfl) rfl ?_
     refine WL.qn (y_load rfl rfl a51 rfl) rfl ?_
     refine WL.qn (y_len_map E56 x56.comps e51 rfl rfl (Le.refl _)) rfl ?_
     refine WL.qn (y_lss rfl rfl) rfl ?_
     refine WL.ns ?_
     refine wc_cond rfl (fun hc4 => ?_) (fun hc4 => ?_)
     ·replace h := condT h hc4
      refine wc_skip ?_
      refine we_seq ?_
      refine wc_seq ?_
      refine wc_block ?_
      refine wc_sr ?_
      refine WL.qn (y_fieldAddr f54_11 rfl) rfl ?_
      refine WL.qn (y_load rfl rfl a51 rfl) rfl ?_
      refine WL.mv rfl rfl ?_
      obtain ⟨x63, hx63, h⟩ := bindS h
      refine WL.qn (y_indexAddr e51 rfl (Le.refl _) rfl (idx_nonneg hx63) (idx_row E56_eq hx63) rfl) rfl ?_
      refine WL.qn (y_fieldAddrc f56_0 rfl) rfl ?_
      refine WL.qn (y_loadc rfl a9 rfl) rfl ?_
      refine WL.mv rfl rfl ?_
      refine WL.qn (y_eqs rfl rfl) rfl ?_
      refine WL.ns ?_
      refine wc_cond rfl (fun hc5 => ?_) (fun hc5 => ?_)
      ·replace h := condT h hc5
       refine wc_sr ?_
       refine WL.mv rfl rfl ?_
       refine WL.mv rfl rfl ?_
       refine WL.qn (y_add rfl rfl rfl) rfl ?_
       refine WL.as rfl rfl ?_
       refine WL.as rfl rfl ?_
       refine WL.ns ?_
       refine wc_ret ?_
       refine we_blk_ret ?_
       refine we_seq_ret ?_
       refine we_lp_ret ?_
       refine we_blk_ret ?_
       refine we_lp_ret ?_
       obtain rfl := Option.some.inj h
       exact we_ret_fn (rs2 rfl (rv_t rfl) (rv_t rfl)) (Le.tud ⟨(Le.refl _), (Le.refl _), trivial⟩)
      ·replace h := condF h hc5
       refine wc_skip ?_
       refine we_blk ?_
       refine we_seq ?_
       refine wc_region ?_
       refine WL.mv rfl rfl ?_
       refine WL.qn (y_add rfl rfl rfl) rfl ?_
       refine WL.as rfl rfl ?_
       refine WL.nil ?_
       exact we_lp ⟨n, ⟨(IntKind.i64.wrap (iq61 + 1)), h, (Sub.cons rfl (Le.refl _) (Sub.cons rfl (Le.refl _) (Sub.cons rfl (Le.refl _) (Sub.cons rfl (Le.refl _) (Sub.nil _))))), ⟨⟨rfl, ⟨(Le.refl _), (Le.refl _), (Le.refl _), (Le.refl _), (Le.refl _), (Le.refl _), (Le.refl _), (Le.refl _), (Le.refl _), (Le.refl _), (Le.refl _), (Le.refl _), (Le.refl _), (Le.refl _), (Le.refl _), (Le.refl _), (Le.refl _), (Le.refl _), trivial⟩⟩, trivial⟩⟩, Nat.lt_succ_self n⟩
     ·replace h := condF h hc4
      refine wc_exit ?_
      refine we_seq_exit ?_
      refine we_lp_exit ?_
      refine we_blk_hit ?_
      exact we_lp ⟨h, (Sub.nil _), ⟨⟨rfl, ⟨(Le.refl _), (Le.refl _), (Le.refl _), (Le.refl _), (Le.refl _), (Le.refl _), (Le.refl _), (Le.refl _), (Le.refl _), (Le.refl _), (Le.refl _), (Le.refl _), (Le.refl _), (Le.refl _), (Le.refl _), (Le.refl _), (Le.refl _), (Le.refl _), trivial⟩⟩, trivial⟩⟩
    ·rintro env1 st1 ⟨h, hsub, hst⟩
     subst hk59
     dsimp only at h
     refine WC.sub hsub (WC.weak hst ?_)
     refine wc_sr ?_
     refine WL.as rfl rfl ?_
     refine WL.as rfl rfl ?_
     refine WL.ns ?_
     refine wc_ret ?_
     obtain rfl := Option.some.inj h
     exact we_ret_fn (rs2 rfl (rv_t rfl) (rv_t rfl)) (Le.tud ⟨(Le.refl _), (Le.refl _), trivial⟩)

theorem f48_c (l0 : List Int) (v1 : Int) {r : Bool} (h : f48 l0 v1 = some r) : Pu Tryd.prog 48 [.sl (List.map E2 l0), .i .i64 v1] (.b r) := by
 unfold f48 at h
 refine fn_intro Tryd.func48 (by kernel_rfl) rfl rfl rfl (fun φφ ww => ?_)
 refine wc_sr ?_
 refine WL.as rfl rfl ?_
 refine WL.ns ?_
 replace h := letkS h
 obtain ⟨k21, hk21, h⟩ := h
 refine wc_cut (fun env' st' => k21 () = some r ∧ Sub [] env' ∧ SLe st' []) ?_ ?_
 ·refine wc_sr ?_
  refine WL.as rfl rfl ?_
  refine WL.ns ?_
  refine wc_block ?_
  refine wc_loop (fun n env' st' => ∃ (iq23 : Int), f48_l1 l0 v1 k21 n iq23 = some r ∧ Sub [(0, .d (.sl (List.map E2 l0))), (1, .d (D.i .i64 v1)), (5, .d (D.i .i64 iq23))] env' ∧ SLe st' []) (fun n => n) 9223372036854775808 ⟨0, h, (Sub.cons rfl (Le.refl _) (Sub.cons rfl (Le.refl _) (Sub.cons rfl (Le.refl _) (Sub.nil _)))), trivial⟩ ?_
  rintro n env1 st1 ⟨iq23, h, hsub, hst⟩
  cases n with
  | zero => rw [f48_l1] at h; cases h
  | succ n =>
  rw [f48_l1] at h
  refine WC.sub hsub (WC.weak hst ?_)
  refine wc_seq ?_
  refine wc_sr ?_
  refine WL.mv rfl rfl ?_
  refine WL.mv rfl rfl ?_
  refine WL.qn (y_len_map E2 l0 e41 rfl rfl (Le.refl _)) rfl ?_
  refine WL.qn (y_lss rfl rfl) rfl ?_
  refine WL.ns ?_
  refine wc_cond rfl (fun hc1 => ?_) (fun hc1 => ?_)
  ·replace h := condT h hc1
   refine wc_skip ?_
   refine we_seq ?_
   refine wc_seq ?_
   refine wc_block ?_
   refine wc_sr ?_
   refine WL.mv rfl rfl ?_
   refine WL.mv rfl rfl ?_
   obtain ⟨x25, hx25, h⟩ := bindS h
   refine WL.qn (y_indexAddr e41 rfl (Le.refl _) rfl (idx_nonneg hx25) (idx_row E2_eq hx25) rfl) rfl ?_
   refine WL.qn (y_loadc rfl a2 rfl) rfl ?_
   refine WL.mv rfl rfl ?_
   refine WL.qn (y_eql rfl rfl) rfl ?_
   refine WL.ns ?_
   refine wc_cond rfl (fun hc2 => ?_) (fun hc2 => ?_)
   ·replace h := condT h hc2
    refine wc_sr ?_
    refine WL.as rfl rfl ?_
    refine WL.ns ?_
    refine wc_ret ?_
    refine we_blk_ret ?_
    refine we_seq_ret ?_
    refine we_lp_ret ?_
    refine we_blk_ret ?_
    refine we_lp_ret ?_
    obtain rfl := Option.some.inj h
    exact we_ret_fn (rs1 rfl (rv_t rfl)) (Le.refl _)
   ·replace h := condF h hc2
    refine wc_skip ?_
    refine we_blk ?_
    refine we_seq ?_
    refine wc_region ?_
    refine WL.mv rfl rfl ?_
    refine WL.qn (y_add rfl rfl rfl) rfl ?_
    refine WL.as rfl rfl ?_
    refine WL.nil ?_
    exact we_lp ⟨n, ⟨(IntKind.i64.wrap (iq23 + 1)), h, (Sub.cons rfl (Le.refl _) (Sub.cons rfl (Le.refl _) (Sub.cons rfl (Le.refl _) (Sub.nil _)))), trivial⟩, Nat.lt_succ_self n⟩
  ·replace h := condF h hc1
   refine wc_exit ?_
   refine we_seq_exit ?_
   refine we_lp_exit ?_
   refine we_blk_hit ?_
   exact we_lp ⟨h, (Sub.nil _), trivial⟩
 ·rintro env1 st1 ⟨h, hsub, hst⟩
  subst hk21
  dsimp only at h
  refine WC.sub hsub (WC.weak hst ?_)
  refine wc_sr ?_
  refine WL.as rfl rfl ?_
  refine WL.ns ?_
  refine wc_ret ?_
  obtain rfl := Option.some.inj h
  exact we_ret_fn (rs1 rfl (rv_t rfl)) (Le.refl _)

theorem f16_c (t0 : Table) (sub1 : Int) (name2 : ByteArray) (disc3 : Int) {r : Bool} (h : f16 t0 sub1 name2 disc3 = some r) : Pu Tryd.prog 16 [.ag (R28 t0), .i .i64 sub1, .s name2, .i .i64 disc3] (.b r) := by
 unfold f16 at h
 refine fn_intro Tryd.func16 (by kernel_rfl) rfl rfl rfl (fun φφ ww => ?_)
 refine wc_sr ?_
 refine WL.s ((b_boxd rfl rfl (Les.refl _)).does) (Wt.none rfl) rfl rfl ?_
 refine WL.as rfl rfl ?_
 refine WL.ns ?_
 refine wc_sr ?_
 refine WL.qn (y_loadcN rfl a28 s28 rfl) rfl ?_
 refine WL.mv rfl rfl ?_
 refine WL.mv rfl rfl ?_
 obtain ⟨r60, hr60, h⟩ := bindS h
 refine WL.fn rfl rfl rfl rfl (f14_c _ _ _ hr60) ⟨(Le.refl _), (Le.refl _), (Le.refl _), trivial⟩ (Wt.none rfl) rfl rfl ?_
 refine WL.mv rfl rfl ?_
 refine WL.qn (y_extractd rfl rfl) rfl ?_
 refine WL.qn (y_extractd rfl rfl) rfl ?_
 refine WL.as rfl rfl ?_
 refine WL.as rfl rfl ?_
 refine WL.ns ?_
 refine wc_seq ?_
 refine wc_sr ?_
 refine WL.mv rfl rfl ?_
 refine WL.qn (y_not rfl) rfl ?_
 refine WL.ns ?_
 refine wc_cond rfl (fun hc1 => ?_) (fun hc1 => ?_)
 ·replace h := condT h hc1
  refine wc_sr ?_
  refine WL.as rfl rfl ?_
  refine WL.ns ?_
  refine wc_ret ?_
  refine we_seq_ret ?_
  obtain rfl := Option.some.inj h
  exact we_ret_fn (rs1 rfl (rv_t rfl)) (Le.refl _)
 ·replace h := condF h hc1
  refine wc_skip ?_
  refine we_seq ?_
  refine wc_seq ?_
  obtain ⟨x61, hx61, h⟩ := bindS h
  obtain ⟨x62, hx62, h⟩ := bindS h
  apply wc_region_all [_, _, _, _, _, _, _, _, _, _, _, .u] [[], [0], [], [2], [], [2, 3, 4], [2, 3, 4, 5], [2, 3, 4, 5, 6], [0, 1, 2, 3, 4, 5, 6, 7], [0, 1, 2, 3, 4, 5, 6, 7, 8], [], [0, 1, 2, 3, 4, 5, 6, 7, 8, 9, 10]] [10, 11] (fun c => List.getD [[], [.row 54 [.d (D.i .u8 0), .d (D.s ByteArray.empty), .d (D.i .i64 0), .d (D.i .i64 0), .d (.v (.slice none 0 0)), .d (D.i .i64 0), .d (D.i .i64 0), .d (D.i .i64 0), .d (D.s ByteArray.empty), .d (D.b false), .d (D.i .i64 0), .d (.v (.slice none 0 0)), .d (D.i .i64 0), .d (D.i .u8 0), .d (D.b false), .d (D.i .i64 0), .d (D.i .i64 0), .d (D.i .i64 0)]], [.row 54 [.d (D.i .u8 x62.kind), .d (D.s x62.name), .d (D.i .i64 x62.parent), .d (D.i .i64 x62.first), .d (.sl (List.map E9 x62.lits)), .d (D.i .i64 x62.index), .d (D.i .i64 x62.elem), .d (D.i .i64 x62.disc), .d (D.s x62.discName), .d (D.b x62.has), .d (D.i .i64 x62.default_), .d (.sl (List.map E56 x62.comps)), .d (D.i .i64 x62.target), .d (D.i .u8 x62.formal), .d (D.b x62.limited), .d (D.i .i64 x62.priv), .d (D.i .i64 x62.full), .d (D.i .i64 x62.level)]]] c []) [([], [4], [0, 1]), ([0], [], [0, 1]), ([], [4], [0, 1]), ([2], [], [0, 1]), ([], [1], [0, 1]), ([3, 4], [], [0, 1]), ([5], [], [0, 1]), ([6], [], [0, 1]), ([1, 7], [], [0, 1]), ([8], [], [0, 1]), ([], [], [0]), ([10, 9], [], [1])] (by kernel_rfl) (by kernel_rfl) rfl rfl rfl
  ·refine ⟨?_, ?_, ?_, ?_, ?_, ?_, ?_, ?_, ?_, ?_, ?_, ?_, trivial⟩
   ·refine ⟨fun F => ?_, fun F => ?_, trivial⟩
    ·refine WL.qn (y_fieldAddrc f28_0 rfl) rfl ?_
     exact WL.done1 rfl rfl rfl
    ·refine WL.qn (y_fieldAddrc f28_0 rfl) rfl ?_
     exact WL.done1 rfl rfl rfl
   ·refine ⟨fun F => ?_, fun F => ?_, trivial⟩
    ·refine WL.qn (y_loadc rfl a22 rfl) rfl ?_
     exact WL.done1 rfl rfl rfl
    ·refine WL.qn (y_loadc rfl a22 rfl) rfl ?_
     exact WL.done1 rfl rfl rfl
   ·refine ⟨fun F => ?_, fun F => ?_, trivial⟩
    ·refine WL.qn (y_fieldAddrc f28_1 rfl) rfl ?_
     exact WL.done1 rfl rfl rfl
    ·refine WL.qn (y_fieldAddrc f28_1 rfl) rfl ?_
     exact WL.done1 rfl rfl rfl
   ·refine ⟨fun F => ?_, fun F => ?_, trivial⟩
    ·refine WL.qn (y_loadc rfl a23 rfl) rfl ?_
     exact WL.done1 rfl rfl rfl
    ·refine WL.qn (y_loadc rfl a23 rfl) rfl ?_
     exact WL.done1 rfl rfl rfl
   ·refine ⟨fun F => ?_, fun F => ?_, trivial⟩
    ·refine WL.mv rfl rfl ?_
     exact WL.done1 rfl rfl rfl
    ·refine WL.mv rfl rfl ?_
     exact WL.done1 rfl rfl rfl
   ·refine ⟨fun F => ?_, fun F => ?_, trivial⟩
    ·refine WL.qn (y_indexAddr e23 rfl (Le.refl _) rfl (idx_nonneg hx61) (idx_row E40_eq hx61) rfl) rfl ?_
     exact WL.done1 rfl rfl rfl
    ·refine WL.qn (y_indexAddr e23 rfl (Le.refl _) rfl (idx_nonneg hx61) (idx_row E40_eq hx61) rfl) rfl ?_
     exact WL.done1 rfl rfl rfl
   ·refine ⟨fun F => ?_, fun F => ?_, trivial⟩
    ·refine WL.qn (y_fieldAddrc f40_0 rfl) rfl ?_
     exact WL.done1 rfl rfl rfl
    ·refine WL.qn (y_fieldAddrc f40_0 rfl) rfl ?_
     exact WL.done1 rfl rfl rfl
   ·refine ⟨fun F => ?_, fun F => ?_, trivial⟩
    ·refine WL.qn (y_loadc rfl a3 rfl) rfl ?_
     exact WL.done1 rfl rfl rfl
    ·refine WL.qn (y_loadc rfl a3 rfl) rfl ?_
     exact WL.done1 rfl rfl rfl
   ·refine ⟨fun F => ?_, fun F => ?_, trivial⟩
    ·refine WL.qn (y_indexAddr e22 rfl (Le.refl _) rfl (idx_nonneg hx62) (idx_row E54_eq hx62) rfl) rfl ?_
     exact WL.done1 rfl rfl rfl
    ·refine WL.qn (y_indexAddr e22 rfl (Le.refl _) rfl (idx_nonneg hx62) (idx_row E54_eq hx62) rfl) rfl ?_
     exact WL.done1 rfl rfl rfl
   ·refine ⟨fun F => ?_, fun F => ?_, trivial⟩
    ·refine WL.qn (y_loadcN rfl a54 s54 rfl) rfl ?_
     exact WL.done1 rfl rfl rfl
    ·refine WL.qn (y_loadcN rfl a54 s54 rfl) rfl ?_
     exact WL.done1 rfl rfl rfl
   ·refine ⟨fun F => ?_, trivial⟩
    refine WL.s ((b_alloc z54).does) (Wt.none rfl) rfl rfl ?_
    exact WL.done1 rfl rfl rfl
   ·refine ⟨fun F => ?_, trivial⟩
    refine WL.s0 (d_store rfl rfl rfl rfl rfl rfl s54 rfl rfl) (Wt.none rfl) rfl ?_
    exact WL.done0 rfl rfl
  ·refine we_seq ?_
   replace h := letkS h
   obtain ⟨k64, hk64, h⟩ := h
   refine wc_cut (fun env' st' => ∃ (iq63 : Int), k64 iq63 = some r ∧ Sub [(3, .d (D.i .i64 disc3)), (9, .d (D.i .i64 iq63)), (11, .pt 0 0)] env' ∧ SLe st' [.row 54 [.d (D.i .u8 x62.kind), .d (D.s x62.name), .d (D.i .i64 x62.parent), .d (D.i .i64 x62.first), .d (.sl (List.map E9 x62.lits)), .d (D.i .i64 x62.index), .d (D.i .i64 x62.elem), .d (D.i .i64 x62.disc), .d (D.s x62.discName), .d (D.b x62.has), .d (D.i .i64 x62.default_), .d (.sl (List.map E56 x62.comps)), .d (D.i .i64 x62.target), .d (D.i .u8 x62.formal), .d (D.b x62.limited), .d (D.i .i64 x62.priv), .d (D.i .i64 x62.full), .d (D.i .i64 x62.level)]]) ?_ ?_
   ·refine wc_sr ?_
    refine WL.qn (y_fieldAddr f54_7 rfl) rfl ?_
    refine WL.qn (y_load rfl rfl a3 rfl) rfl ?_
    refine WL.qn (y_neq rfl rfl) rfl ?_
    refine WL.ns ?_
    refine wc_cond rfl (fun hc2 => ?_) (fun hc2 => ?_)
    ·replace h := condT h hc2
     refine wc_seq ?_
     refine wc_sr ?_
     refine WL.mv rfl rfl ?_
     refine WL.qn (y_eql rfl rfl) rfl ?_
     refine WL.ns ?_
     refine wc_cond rfl (fun hc3 => ?_) (fun hc3 => ?_)
     ·replace h := condT h hc3
      refine wc_sr ?_
      refine WL.as rfl rfl ?_
      refine WL.ns ?_
      refine wc_ret ?_
      refine we_seq_ret ?_
      refine we_lp_ret ?_
      obtain rfl := Option.some.inj h
      exact we_ret_fn (rs1 rfl (rv_t rfl)) (Le.refl _)
     ·replace h := condF h hc3
      refine wc_skip ?_
      refine we_seq ?_
      refine wc_region ?_
      refine WL.mv rfl rfl ?_
      refine WL.qn (y_sub rfl rfl rfl) rfl ?_
      refine WL.as rfl rfl ?_
      refine WL.nil ?_
      exact we_lp ⟨(IntKind.i64.wrap (r60.1 - 1)), h, (Sub.cons rfl (Le.refl _) (Sub.cons rfl (Le.refl _) (Sub.cons rfl (Le.refl _) (Sub.nil _)))), ⟨⟨rfl, ⟨(Le.refl _), (Le.refl _), (Le.refl _), (Le.refl _), (Le.refl _), (Le.refl _), (Le.refl _), (Le.refl _), (Le.refl _), (Le.refl _), (Le.refl _), (Le.refl _), (Le.refl _), (Le.refl _), (Le.refl _), (Le.refl _), (Le.refl _), (Le.refl _), trivial⟩⟩, trivial⟩⟩
    ·replace h := condF h hc2
     refine wc_skip ?_
     exact we_lp ⟨r60.1, h, (Sub.cons rfl (Le.refl _) (Sub.cons rfl (Le.refl _) (Sub.cons rfl (Le.refl _) (Sub.nil _)))), ⟨⟨rfl, ⟨(Le.refl _), (Le.refl _), (Le.refl _), (Le.refl _), (Le.refl _), (Le.refl _), (Le.refl _), (Le.refl _), (Le.refl _), (Le.refl _), (Le.refl _), (Le.refl _), (Le.refl _), (Le.refl _), (Le.refl _), (Le.refl _), (Le.refl _), (Le.refl _), trivial⟩⟩, trivial⟩⟩
   ·rintro env1 st1 ⟨iq63, h, hsub, hst⟩
    subst hk64
    dsimp only at h
    refine WC.sub hsub (WC.weak hst ?_)
    refine wc_sr ?_
    refine WL.qn (y_fieldAddr f54_11 rfl) rfl ?_
    refine WL.qn (y_load rfl rfl a51 rfl) rfl ?_
    refine WL.mv rfl rfl ?_
    obtain ⟨x65, hx65, h⟩ := bindS h
    refine WL.qn (y_indexAddr e51 rfl (Le.refl _) rfl (idx_nonneg hx65) (idx_row E56_eq hx65) rfl) rfl ?_
    refine WL.qn (y_fieldAddrc f56_4 rfl) rfl ?_
    refine WL.qn (y_loadc rfl a4 rfl) rfl ?_
    refine WL.qn (y_not rfl) rfl ?_
    refine WL.mv rfl rfl ?_
    obtain ⟨b66, hb66, h⟩ := bindS h
    apply WL.grp 9 (t := 45) (d := 54) (z := b66)
    ·exact rfl
    ·intro hg45
     have h := condT hb66 hg45
     refine WL.skips 8 rfl ?_
     refine WL.qn (y_pick_t rfl rfl) rfl ?_
     obtain rfl := Option.some.inj h
     exact WL.nil ⟨rfl, [_, _, _, _, _, _, _, _, _], rfl, rfl, rfl⟩
    ·intro hg45
     have h := condF hb66 hg45
     refine WL.qy (y_fieldAddr f54_11 rfl) rfl rfl rfl ?_
     refine WL.qy (y_load rfl rfl a51 rfl) rfl rfl rfl ?_
     refine WL.qy (y_move rfl) rfl rfl rfl ?_
     obtain ⟨x67, hx67, h⟩ := bindS h
     refine WL.qy (y_indexAddr e51 rfl (Le.refl _) rfl (idx_nonneg hx67) (idx_row E56_eq hx67) rfl) rfl rfl rfl ?_
     refine WL.qy (y_fieldAddrc f56_5 rfl) rfl rfl rfl ?_
     refine WL.qy (y_loadc rfl a41 rfl) rfl rfl rfl ?_
     refine WL.qy (y_move rfl) rfl rfl rfl ?_
     obtain ⟨r68, hr68, h⟩ := bindS h
     refine WL.fn rfl rfl rfl rfl (f48_c _ _ hr68) ⟨(Le.refl _), (Le.refl _), trivial⟩ (Wt.yes rfl rfl rfl) rfl rfl ?_
     refine WL.qn (y_pick_f rfl rfl) rfl ?_
     obtain rfl := Option.some.inj h
     exact WL.nil ⟨rfl, [_, _, _, _, _, _, _, _, _], rfl, rfl, rfl⟩
    refine WL.as rfl rfl ?_
    refine WL.ns ?_
    refine wc_ret ?_
    obtain rfl := Option.some.inj h
    exact we_ret_fn (rs1 rfl (rv_t rfl)) (Le.refl _)

theorem f3_c (t0 : Table) (sub1 : Int) (index2 : Int) (name3 : ByteArray) (disc4 : Int) {r : Bool} (h : f3 t0 sub1 index2 name3 disc4 = some r) : Pu Tryd.prog 3 [.ag (R28 t0), .i .i64 sub1, .i .i64 index2, .s name3, .i .i64 disc4] (.b r) := by
 unfold f3 at h
 refine fn_intro Tryd.func3 (by kernel_rfl) rfl rfl rfl (fun φφ ww => ?_)
 refine wc_sr ?_
 refine WL.s ((b_box rfl rfl).does) (Wt.none rfl) rfl rfl ?_
 refine WL.as rfl rfl ?_
 refine WL.ns ?_
 refine wc_sr ?_
 refine WL.qn (y_loadN rfl rfl a28 s28 rfl) rfl ?_
 obtain ⟨r100, hr100, h⟩ := bindS h
 refine WL.fn rfl rfl rfl rfl (f10_c _ hr100) ⟨(Le.agd ⟨(Le.refl _), (Le.refl _), (Le.refl _), (Le.refl _), (Le.refl _), trivial⟩), trivial⟩ (Wt.none rfl) rfl rfl ?_
 refine WL.s0 (d_store rfl rfl rfl rfl rfl rfl s28 rfl rfl) (Wt.none rfl) rfl ?_
 refine WL.ns ?_
 replace h := letkS h
 obtain ⟨k101, hk101, h⟩ := h
 refine wc_cut (fun env' st' => k101 () = some r ∧ Sub [] env' ∧ SLe st' [.row 28 [.d (.sl (List.map E54 r100.types)), .d (.sl (List.map E40 r100.subs)), .d (.v (SlV.v r100.ents)), .d (.v (SlV.v r100.gens)), .d (.v (SlV.v r100.insts))]]) ?_ ?_
 ·refine wc_sr ?_
  refine WL.as rfl rfl ?_
  refine WL.ns ?_
  refine wc_block ?_
  refine wc_loop (fun n env' st' => ∃ (iq103 : Int), f3_l1 sub1 index2 name3 disc4 r100 k101 n iq103 = some r ∧ Sub [(1, .d (D.i .i64 sub1)), (2, .d (D.i .i64 index2)), (3, .d (D.s name3)), (4, .d (D.i .i64 disc4)), (5, .pt 0 0), (11, .d (D.i .i64 iq103))] env' ∧ SLe st' [.row 28 [.d (.sl (List.map E54 r100.types)), .d (.sl (List.map E40 r100.subs)), .d (.v (SlV.v r100.ents)), .d (.v (SlV.v r100.gens)), .d (.v (SlV.v r100.insts))]]) (fun n => n) 9223372036854775808 ⟨(-1), h, (Sub.cons rfl (Le.refl _) (Sub.cons rfl (Le.refl _) (Sub.cons rfl (Le.refl _) (Sub.cons rfl (Le.refl _) (Sub.cons rfl (Le.refl _) (Sub.cons rfl (Le.refl _) (Sub.nil _))))))), ⟨⟨rfl, ⟨(Le.refl _), (Le.refl _), (Le.refl _), (Le.refl _), (Le.refl _), trivial⟩⟩, trivial⟩⟩ ?_
  rintro n env1 st1 ⟨iq103, h, hsub, hst⟩
  cases n with
  | zero => rw [f3_l1] at h; cases h
  | succ n =>
  rw [f3_l1] at h
  refine WC.sub hsub (WC.weak hst ?_)
  refine wc_seq ?_
  refine wc_sr ?_
  refine WL.mv rfl rfl ?_
  refine WL.qn (y_fieldAddr f28_1 rfl) rfl ?_
  refine WL.qn (y_load rfl rfl a23 rfl) rfl ?_
  refine WL.qn (y_len_map E40 r100.subs e23 rfl rfl (Le.refl _)) rfl ?_
  refine WL.qn (y_leq rfl rfl) rfl ?_
  refine WL.ns ?_
  refine wc_cond rfl (fun hc1 => ?_) (fun hc1 => ?_)
  ·replace h := condT h hc1
   refine wc_skip ?_
   refine we_seq ?_
   refine wc_seq ?_
   refine wc_block ?_
   refine wc_sr ?_
   refine WL.mv rfl rfl ?_
   refine WL.as rfl rfl ?_
   refine WL.ns ?_
   replace h := letkS h
   obtain ⟨k106, hk106, h⟩ := h
   refine wc_cut (fun env' st' => ∃ (s105 : Int), k106 s105 = some r ∧ Sub [(1, .d (D.i .i64 sub1)), (2, .d (D.i .i64 index2)), (3, .d (D.s name3)), (4, .d (D.i .i64 disc4)), (5, .pt 0 0), (11, .d (D.i .i64 iq103)), (12, .d (D.i .i64 s105))] env' ∧ SLe st' [.row 28 [.d (.sl (List.map E54 r100.types)), .d (.sl (List.map E40 r100.subs)), .d (.v (SlV.v r100.ents)), .d (.v (SlV.v r100.gens)), .d (.v (SlV.v r100.insts))]]) ?_ ?_
   ·refine wc_sr ?_
    refine WL.mv rfl rfl ?_
    refine WL.qn (y_lss rfl rfl) rfl ?_
    refine WL.ns ?_
    refine wc_cond rfl (fun hc2 => ?_) (fun hc2 => ?_)
    ·replace h := condT h hc2
     refine wc_region ?_
     refine WL.mv rfl rfl ?_
     refine WL.as rfl rfl ?_
     refine WL.nil ?_
     exact we_lp ⟨sub1, h, (Sub.cons rfl (Le.refl _) (Sub.cons rfl (Le.refl _) (Sub.cons rfl (Le.refl _) (Sub.cons rfl (Le.refl _) (Sub.cons rfl (Le.refl _) (Sub.cons rfl (Le.refl _) (Sub.cons rfl (Le.refl _) (Sub.nil _)))))))), ⟨⟨rfl, ⟨(Le.refl _), (Le.refl _), (Le.refl _), (Le.refl _), (Le.refl _), trivial⟩⟩, trivial⟩⟩
    ·replace h := condF h hc2
     refine wc_skip ?_
     exact we_lp ⟨iq103, h, (Sub.cons rfl (Le.refl _) (Sub.cons rfl (Le.refl _) (Sub.cons rfl (Le.refl _) (Sub.cons rfl (Le.refl _) (Sub.cons rfl (Le.refl _) (Sub.cons rfl (Le.refl _) (Sub.cons rfl (Le.refl _) (Sub.nil _)))))))), ⟨⟨rfl, ⟨(Le.refl _), (Le.refl _), (Le.refl _), (Le.refl _), (Le.refl _), trivial⟩⟩, trivial⟩⟩
   ·rintro env1 st1 ⟨s105, h, hsub, hst⟩
    subst hk106
    dsimp only at h
    refine WC.sub hsub (WC.weak hst ?_)
    refine wc_sr ?_
    refine WL.qn (y_loadN rfl rfl a28 s28 rfl) rfl ?_
    refine WL.mv rfl rfl ?_
    refine WL.mv rfl rfl ?_
    obtain ⟨r107, hr107, h⟩ := bindS h
    refine WL.fn rfl rfl rfl rfl (f11_c _ _ _ hr107) ⟨(Le.agd ⟨(Le.refl _), (Le.refl _), (Le.refl _), (Le.refl _), (Le.refl _), trivial⟩), (Le.refl _), (Le.refl _), trivial⟩ (Wt.none rfl) rfl rfl ?_
    refine WL.mv rfl rfl ?_
    refine WL.qn (y_extractd rfl rfl) rfl ?_
    refine WL.qn (y_extractd rfl rfl) rfl ?_
    refine WL.as rfl rfl ?_
    refine WL.as rfl rfl ?_
    refine WL.ns ?_
    refine wc_sr ?_
    refine WL.qn (y_loadN rfl rfl a28 s28 rfl) rfl ?_
    refine WL.mv rfl rfl ?_
    refine WL.mv rfl rfl ?_
    obtain ⟨r108, hr108, h⟩ := bindS h
    refine WL.fn rfl rfl rfl rfl (f12_c _ _ _ hr108) ⟨(Le.agd ⟨(Le.refl _), (Le.refl _), (Le.refl _), (Le.refl _), (Le.refl _), trivial⟩), (Le.refl _), (Le.refl _), trivial⟩ (Wt.none rfl) rfl rfl ?_
    refine WL.mv rfl rfl ?_
    refine WL.qn (y_extractd rfl rfl) rfl ?_
    refine WL.qn (y_extractd rfl rfl) rfl ?_
    refine WL.as rfl rfl ?_
    refine WL.as rfl rfl ?_
    refine WL.ns ?_
    refine wc_sr ?_
    refine WL.qn (y_loadN rfl rfl a28 s28 rfl) rfl ?_
    refine WL.mv rfl rfl ?_
    refine WL.mv rfl rfl ?_
    obtain ⟨r109, hr109, h⟩ := bindS h
    refine WL.fn rfl rfl rfl rfl (f13_c _ _ _ hr109) ⟨(Le.agd ⟨(Le.refl _), (Le.refl _), (Le.refl _), (Le.refl _), (Le.refl _), trivial⟩), (Le.refl _), (Le.refl _), trivial⟩ (Wt.none rfl) rfl rfl ?_
    refine WL.mv rfl rfl ?_
    refine WL.qn (y_extractd rfl rfl) rfl ?_
    refine WL.qn (y_extractd rfl rfl) rfl ?_
    refine WL.as rfl rfl ?_
    refine WL.as rfl rfl ?_
    refine WL.ns ?_
    refine wc_sr ?_
    refine WL.qn (y_loadN rfl rfl a28 s28 rfl) rfl ?_
    refine WL.mv rfl rfl ?_
    refine WL.mv rfl rfl ?_
    obtain ⟨r110, hr110, h⟩ := bindS h
    refine WL.fn rfl rfl rfl rfl (f14_c _ _ _ hr110) ⟨(Le.agd ⟨(Le.refl _), (Le.refl _), (Le.refl _), (Le.refl _), (Le.refl _), trivial⟩), (Le.refl _), (Le.refl _), trivial⟩ (Wt.none rfl) rfl rfl ?_
    refine WL.mv rfl rfl ?_
    refine WL.qn (y_extractd rfl rfl) rfl ?_
    refine WL.qn (y_extractd rfl rfl) rfl ?_
    refine WL.as rfl rfl ?_
    refine WL.as rfl rfl ?_
    refine WL.ns ?_
    refine wc_seq ?_
    refine wc_region_draw (by kernel_rfl) (by kernel_rfl) ?_
    refine WQ.qn (y_move rfl) rfl ?_
    refine WQ.qn (y_move rfl) rfl ?_
    refine WQ.qn (y_neq rfl rfl) rfl ?_
    refine WQ.qn (y_move rfl) rfl ?_
    apply WQ.or 4 (t := 65) (d := 69)
    ·exact rfl
    ·intro hg65
     refine WQ.qy (y_move rfl) rfl rfl rfl ?_
     refine WQ.qy (y_move rfl) rfl rfl rfl ?_
     refine WQ.qy (y_neb Tryd.underlying4 rfl rfl) rfl rfl rfl ?_
     refine WQ.qn (y_pick_f rfl rfl) rfl ?_
     exact WQ.nil ⟨[_, _, _, _], rfl, rfl, rfl⟩
    ·refine WQ.skips 3 rfl ?_
     refine WQ.qn (y_pick_t rfl rfl) rfl ?_
     exact WQ.nil ⟨[_, _, _, _], rfl, rfl, rfl⟩
    refine WQ.qn (y_move rfl) rfl ?_
    apply WQ.or 4 (t := 70) (d := 74)
    ·exact rfl
    ·intro hg70
     refine WQ.qy (y_move rfl) rfl rfl rfl ?_
     refine WQ.qy (y_move rfl) rfl rfl rfl ?_
     refine WQ.qy (y_neq rfl rfl) rfl rfl rfl ?_
     refine WQ.qn (y_pick_f rfl rfl) rfl ?_
     exact WQ.nil ⟨[_, _, _, _], rfl, rfl, rfl⟩
    ·refine WQ.skips 3 rfl ?_
     refine WQ.qn (y_pick_t rfl rfl) rfl ?_
     exact WQ.nil ⟨[_, _, _, _], rfl, rfl, rfl⟩
    refine WQ.qn (y_move rfl) rfl ?_
    apply WQ.or 4 (t := 75) (d := 79)
    ·exact rfl
    ·intro hg75
     refine WQ.qy (y_move rfl) rfl rfl rfl ?_
     refine WQ.qy (y_move rfl) rfl rfl rfl ?_
     refine WQ.qy (y_neb Tryd.underlying4 rfl rfl) rfl rfl rfl ?_
     refine WQ.qn (y_pick_f rfl rfl) rfl ?_
     exact WQ.nil ⟨[_, _, _, _], rfl, rfl, rfl⟩
    ·refine WQ.skips 3 rfl ?_
     refine WQ.qn (y_pick_t rfl rfl) rfl ?_
     exact WQ.nil ⟨[_, _, _, _], rfl, rfl, rfl⟩
    refine WQ.qn (y_move rfl) rfl ?_
    obtain ⟨b111, hb111, h⟩ := bindS h
    apply WQ.grp 12 (t := 80) (d := 92) (z := b111)
    ·exact rfl
    ·intro hg80
     have h := condT hb111 hg80
     refine WQ.skips 11 rfl ?_
     refine WQ.qn (y_pick_t rfl rfl) rfl ?_
     obtain rfl := Option.some.inj h
     exact WQ.nil ⟨[_, _, _, _, _, _, _, _, _, _, _, _], rfl, rfl, rfl⟩
    ·intro hg80
     have h := condF hb111 hg80
     refine WQ.qy (y_loadN rfl rfl a28 s28 rfl) rfl rfl rfl ?_
     refine WQ.qy (y_move rfl) rfl rfl rfl ?_
     refine WQ.qy (y_move rfl) rfl rfl rfl ?_
     refine WQ.qy (y_move rfl) rfl rfl rfl ?_
     obtain ⟨r112, hr112, h⟩ := bindS h
     refine WQ.q (YieldsQ.fn rfl rfl rfl rfl rfl (f15_c _ _ _ _ hr112) ⟨(Le.agd ⟨(Le.refl _), (Le.refl _), (Le.refl _), (Le.refl _), (Le.refl _), trivial⟩), (Le.refl _), (Le.refl _), (Le.refl _), trivial⟩) (Wt.yes rfl rfl rfl) rfl rfl ?_
     refine WQ.qy (y_loadN rfl rfl a28 s28 rfl) rfl rfl rfl ?_
     refine WQ.qy (y_move rfl) rfl rfl rfl ?_
     refine WQ.qy (y_move rfl) rfl rfl rfl ?_
     refine WQ.qy (y_move rfl) rfl rfl rfl ?_
     obtain ⟨r113, hr113, h⟩ := bindS h
     refine WQ.q (YieldsQ.fn rfl rfl rfl rfl rfl (f16_c _ _ _ _ hr113) ⟨(Le.agd ⟨(Le.refl _), (Le.refl _), (Le.refl _), (Le.refl _), (Le.refl _), trivial⟩), (Le.refl _), (Le.refl _), (Le.refl _), trivial⟩) (Wt.yes rfl rfl rfl) rfl rfl ?_
     refine WQ.qy (y_neb Tryd.underlying4 rfl rfl) rfl rfl rfl ?_
     refine WQ.qn (y_pick_f rfl rfl) rfl ?_
     obtain rfl := Option.some.inj h
     exact WQ.nil ⟨[_, _, _, _, _, _, _, _, _, _, _, _], rfl, rfl, rfl⟩
    refine WQ.nil ?_
    refine we_seq ?_
    refine wc_cond rfl (fun hc3 => ?_) (fun hc3 => ?_)
    ·replace h := condT h hc3
     refine wc_sr ?_
     refine WL.as rfl rfl ?_
     refine WL.ns ?_
     refine wc_ret ?_
     refine we_blk_ret ?_
     refine we_seq_ret ?_
     refine we_lp_ret ?_
     refine we_blk_ret ?_
     refine we_lp_ret ?_
     obtain rfl := Option.some.inj h
     exact we_ret_fn (rs1 rfl (rv_t rfl)) (Le.refl _)
    ·replace h := condF h hc3
     refine wc_skip ?_
     refine we_blk ?_
     refine we_seq ?_
     refine wc_region ?_
     refine WL.mv rfl rfl ?_
     refine WL.qn (y_add rfl rfl rfl) rfl ?_
     refine WL.as rfl rfl ?_
     refine WL.nil ?_
     exact we_lp ⟨n, ⟨(IntKind.i64.wrap (iq103 + 1)), h, (Sub.cons rfl (Le.refl _) (Sub.cons rfl (Le.refl _) (Sub.cons rfl (Le.refl _) (Sub.cons rfl (Le.refl _) (Sub.cons rfl (Le.refl _) (Sub.cons rfl (Le.refl _) (Sub.nil _))))))), ⟨⟨rfl, ⟨(Le.refl _), (Le.refl _), (Le.refl _), (Le.refl _), (Le.refl _), trivial⟩⟩, trivial⟩⟩, Nat.lt_succ_self n⟩
  ·replace h := condF h hc1
   refine wc_exit ?_
   refine we_seq_exit ?_
   refine we_lp_exit ?_
   refine we_blk_hit ?_
   exact we_lp ⟨h, (Sub.nil _), ⟨⟨rfl, ⟨(Le.refl _), (Le.refl _), (Le.refl _), (Le.refl _), (Le.refl _), trivial⟩⟩, trivial⟩⟩
 ·rintro env1 st1 ⟨h, hsub, hst⟩
  subst hk101
  dsimp only at h
  refine WC.sub hsub (WC.weak hst ?_)
  refine wc_sr ?_
  obtain ⟨r114, hr114, h⟩ := bindS h
  refine WL.fn rfl rfl rfl rfl (f17_c hr114) trivial (Wt.none rfl) rfl rfl ?_
  refine WL.as rfl rfl ?_
  refine WL.ns ?_
  refine wc_ret ?_
  obtain rfl := Option.some.inj h
  exact we_ret_fn (rs1 rfl (rv_t rfl)) (Le.refl _)

end Go.Proofs.YteafckpdbmncfaaDoor
