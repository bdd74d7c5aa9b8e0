/- The walks of functions that this law reaches. -/
import Derived.Test.YteafckpdbmncfaaDoorWd
set_option maxHeartbeats 4000000
set_option maxRecDepth 100000
namespace Go.Proofs.YteafckpdbmncfaaDoor
open Go Go.Sk

theorem f44_c (t0 : Table) (sub1 : Int) {r : Int} (h : f44 t0 sub1 = some r) : Pu Tryd.prog 44 [.ag (R28 t0), .i .i64 sub1] (.i .u8 r) := by
 unfold f44 at h
 refine fn_intro Tryd.func44 (by kernel_rfl) rfl rfl rfl (fun φφ ww => ?_)
 refine wc_sr ?_
 refine WL.s ((b_boxd rfl rfl (Les.refl _)).does) (Wt.none rfl) rfl rfl ?_
 refine WL.as rfl rfl ?_
 refine WL.ns ?_
 refine wc_seq ?_
 refine wc_seq ?_
 refine wc_region_draw (by kernel_rfl) (by kernel_rfl) ?_
 refine WQ.qn (y_move rfl) rfl ?_
 refine WQ.qn (y_fieldAddrc f28_1 rfl) rfl ?_
 refine WQ.qn (y_loadc rfl a23 rfl) rfl ?_
 refine WQ.qn (y_len_map E40 t0.subs e23 rfl rfl (Le.refl _)) rfl ?_
 refine WQ.q (YieldsQ.fn rfl rfl rfl rfl rfl (f51_c _ _) ⟨(Le.refl _), (Le.refl _), trivial⟩) (Wt.none rfl) rfl rfl ?_
 refine WQ.qn (y_not rfl) rfl ?_
 refine WQ.qn (y_move rfl) rfl ?_
 obtain ⟨b38, hb38, h⟩ := bindS h
 apply WQ.grp 12 (t := 11) (d := 23) (z := b38)
 ·exact rfl
 ·intro hg11
  have h := condT hb38 hg11
  refine WQ.skips 11 rfl ?_
  refine WQ.qn (y_pick_t rfl rfl) rfl ?_
  obtain rfl := Option.some.inj h
  exact WQ.nil ⟨[_, _, _, _, _, _, _, _, _, _, _, _], rfl, rfl, rfl⟩
 ·intro hg11
  have h := condF hb38 hg11
  refine WQ.qy (y_fieldAddrc f28_1 rfl) rfl rfl rfl ?_
  refine WQ.qy (y_loadc rfl a23 rfl) rfl rfl rfl ?_
  refine WQ.qy (y_move rfl) rfl rfl rfl ?_
  obtain ⟨x39, hx39, h⟩ := bindS h
  refine WQ.qy (y_indexAddr e23 rfl (Le.refl _) rfl (idx_nonneg hx39) (idx_row E40_eq hx39) rfl) rfl rfl rfl ?_
  refine WQ.qy (y_fieldAddrc f40_0 rfl) rfl rfl rfl ?_
  refine WQ.qy (y_loadc rfl a3 rfl) rfl rfl rfl ?_
  refine WQ.qy (y_fieldAddrc f28_0 rfl) rfl rfl rfl ?_
  refine WQ.qy (y_loadc rfl a22 rfl) rfl rfl rfl ?_
  refine WQ.qy (y_len_map E54 t0.types e22 rfl rfl (Le.refl _)) rfl rfl rfl ?_
  refine WQ.q (YieldsQ.fn rfl rfl rfl rfl rfl (f51_c _ _) ⟨(Le.refl _), (Le.refl _), trivial⟩) (Wt.yes rfl rfl rfl) rfl rfl ?_
  refine WQ.qy (y_not rfl) rfl rfl rfl ?_
  refine WQ.qn (y_pick_f rfl rfl) rfl ?_
  obtain rfl := Option.some.inj h
  exact WQ.nil ⟨[_, _, _, _, _, _, _, _, _, _, _, _], rfl, rfl, rfl⟩
 refine WQ.nil ?_
 refine we_seq ?_
 refine wc_cond rfl (fun hc1 => ?_) (fun hc1 => ?_)
 ·replace h := condT h hc1
  refine wc_sr ?_
  refine WL.as rfl rfl ?_
  refine WL.ns ?_
  refine wc_ret ?_
  refine we_seq_ret ?_
  obtain rfl := Option.some.inj h
  exact we_ret_fn (rs1 rfl (rv_t rfl)) (Le.refl _)
 ·replace h := condF h hc1
  refine wc_skip ?_
  refine we_seq ?_
  refine wc_seq ?_
  refine wc_region_draw (by kernel_rfl) (by kernel_rfl) ?_
  refine WQ.qn (y_fieldAddrc f28_0 rfl) rfl ?_
  refine WQ.qn (y_loadc rfl a22 rfl) rfl ?_
  refine WQ.qn (y_fieldAddrc f28_1 rfl) rfl ?_
  refine WQ.qn (y_loadc rfl a23 rfl) rfl ?_
  refine WQ.qn (y_move rfl) rfl ?_
  obtain ⟨x40, hx40, h⟩ := bindS h
  refine WQ.qn (y_indexAddr e23 rfl (Le.refl _) rfl (idx_nonneg hx40) (idx_row E40_eq hx40) rfl) rfl ?_
  refine WQ.qn (y_fieldAddrc f40_0 rfl) rfl ?_
  refine WQ.qn (y_loadc rfl a3 rfl) rfl ?_
  obtain ⟨x41, hx41, h⟩ := bindS h
  refine WQ.qn (y_indexAddr e22 rfl (Le.refl _) rfl (idx_nonneg hx41) (idx_row E54_eq hx41) rfl) rfl ?_
  refine WQ.qn (y_fieldAddrc f54_0 rfl) rfl ?_
  refine WQ.qn (y_loadc rfl a49 rfl) rfl ?_
  refine WQ.qn (y_assign rfl) rfl ?_
  refine WQ.nil ?_
  refine we_seq ?_
  refine wc_ret ?_
  obtain rfl := Option.some.inj h
  exact we_ret_fn (rs1 rfl (rv_t rfl)) (Le.refl _)

theorem f56_c (t0 : Table) (sub1 : Int) {r : Bool} (h : f56 t0 sub1 = some r) : Pu Tryd.prog 56 [.ag (R28 t0), .i .i64 sub1] (.b r) := by
 unfold f56 at h
 refine fn_intro Tryd.func56 (by kernel_rfl) rfl rfl rfl (fun φφ ww => ?_)
 refine wc_sr ?_
 refine WL.s ((b_boxd rfl rfl (Les.refl _)).does) (Wt.none rfl) rfl rfl ?_
 refine WL.as rfl rfl ?_
 refine WL.ns ?_
 refine wc_sr ?_
 refine WL.qn (y_loadcN rfl a28 s28 rfl) rfl ?_
 refine WL.mv rfl rfl ?_
 obtain ⟨r18, hr18, h⟩ := bindS h
 refine WL.fn rfl rfl rfl rfl (f44_c _ _ hr18) ⟨(Le.refl _), (Le.refl _), trivial⟩ (Wt.none rfl) rfl rfl ?_
 refine WL.qn (y_eql rfl rfl) rfl ?_
 refine WL.mv rfl rfl ?_
 obtain ⟨b19, hb19, h⟩ := bindS h
 apply WL.grp 5 (t := 9) (d := 14) (z := b19)
 ·exact rfl
 ·intro hg9
  have h := condT hb19 hg9
  refine WL.skips 4 rfl ?_
  refine WL.qn (y_pick_t rfl rfl) rfl ?_
  obtain rfl := Option.some.inj h
  exact WL.nil ⟨rfl, [_, _, _, _, _], rfl, rfl, rfl⟩
 ·intro hg9
  have h := condF hb19 hg9
  refine WL.qy (y_loadcN rfl a28 s28 rfl) rfl rfl rfl ?_
  refine WL.qy (y_move rfl) rfl rfl rfl ?_
  obtain ⟨r20, hr20, h⟩ := bindS h
  refine WL.fn rfl rfl rfl rfl (f44_c _ _ hr20) ⟨(Le.refl _), (Le.refl _), trivial⟩ (Wt.yes rfl rfl rfl) rfl rfl ?_
  refine WL.qy (y_eql rfl rfl) rfl rfl rfl ?_
  refine WL.qn (y_pick_f rfl rfl) rfl ?_
  obtain rfl := Option.some.inj h
  exact WL.nil ⟨rfl, [_, _, _, _, _], rfl, rfl, rfl⟩
 refine WL.as rfl rfl ?_
 refine WL.ns ?_
 refine wc_ret ?_
 obtain rfl := Option.some.inj h
 exact we_ret_fn (rs1 rfl (rv_t rfl)) (Le.refl _)

theorem f26_c (t0 : Table) (sub1 : Int) {r : Int × Int × Bool} (h : f26 t0 sub1 = some r) : Pu Tryd.prog 26 [.ag (R28 t0), .i .i64 sub1] (.tu [.i .i64 r.1, .i .i64 r.2.1, .b r.2.2]) := by
 unfold f26 at h
 refine fn_intro Tryd.func26 (by kernel_rfl) rfl rfl rfl (fun φφ ww => ?_)
 refine wc_sr ?_
 refine WL.s ((b_boxd rfl rfl (Les.refl _)).does) (Wt.none rfl) rfl rfl ?_
 refine WL.as rfl rfl ?_
 refine WL.as rfl rfl ?_
 refine WL.as rfl rfl ?_
 refine WL.ns ?_
 refine wc_seq ?_
 refine wc_sr ?_
 refine WL.qn (y_loadcN rfl a28 s28 rfl) rfl ?_
 refine WL.mv rfl rfl ?_
 obtain ⟨r26, hr26, h⟩ := bindS h
 refine WL.fn rfl rfl rfl rfl (f56_c _ _ hr26) ⟨(Le.refl _), (Le.refl _), trivial⟩ (Wt.none rfl) rfl rfl ?_
 refine WL.qn (y_not rfl) rfl ?_
 refine WL.ns ?_
 refine wc_cond rfl (fun hc1 => ?_) (fun hc1 => ?_)
 ·replace h := condT h hc1
  refine wc_sr ?_
  refine WL.as rfl rfl ?_
  refine WL.as rfl rfl ?_
  refine WL.as rfl rfl ?_
  refine WL.ns ?_
  refine wc_ret ?_
  refine we_seq_ret ?_
  obtain rfl := Option.some.inj h
  exact we_ret_fn (rs3 rfl (rv_t rfl) (rv_t rfl) (rv_t rfl)) (Le.tud ⟨(Le.refl _), (Le.refl _), (Le.refl _), trivial⟩)
 ·replace h := condF h hc1
  refine wc_skip ?_
  refine we_seq ?_
  refine wc_seq ?_
  refine wc_region_draw (by kernel_rfl) (by kernel_rfl) ?_
  refine WQ.qn (y_fieldAddrc f28_1 rfl) rfl ?_
  refine WQ.qn (y_loadc rfl a23 rfl) rfl ?_
  refine WQ.qn (y_move rfl) rfl ?_
  obtain ⟨x27, hx27, h⟩ := bindS h
  refine WQ.qn (y_indexAddr e23 rfl (Le.refl _) rfl (idx_nonneg hx27) (idx_row E40_eq hx27) rfl) rfl ?_
  refine WQ.qn (y_fieldAddrc f40_1 rfl) rfl ?_
  refine WQ.qn (y_loadc rfl a2 rfl) rfl ?_
  refine WQ.qn (y_fieldAddrc f28_1 rfl) rfl ?_
  refine WQ.qn (y_loadc rfl a23 rfl) rfl ?_
  refine WQ.qn (y_move rfl) rfl ?_
  obtain ⟨x28, hx28, h⟩ := bindS h
  refine WQ.qn (y_indexAddr e23 rfl (Le.refl _) rfl (idx_nonneg hx28) (idx_row E40_eq hx28) rfl) rfl ?_
  refine WQ.qn (y_fieldAddrc f40_2 rfl) rfl ?_
  refine WQ.qn (y_loadc rfl a2 rfl) rfl ?_
  refine WQ.qn (y_assign rfl) rfl ?_
  refine WQ.qn (y_assign rfl) rfl ?_
  refine WQ.qn (y_assign rfl) rfl ?_
  refine WQ.nil ?_
  refine we_seq ?_
  refine wc_ret ?_
  obtain rfl := Option.some.inj h
  exact we_ret_fn (rs3 rfl (rv_t rfl) (rv_t rfl) (rv_t rfl)) (Le.tud ⟨(Le.refl _), (Le.refl _), (Le.refl _), trivial⟩)

theorem f78_c (t0 : Table) (sub1 : Int) (most2 : Int) {r : Bool} (h : f78 t0 sub1 most2 = some r) : Pu Tryd.prog 78 [.ag (R28 t0), .i .i64 sub1, .i .i64 most2] (.b r) := by
 unfold f78 at h
 refine fn_intro Tryd.func78 (by kernel_rfl) rfl rfl rfl (fun φφ ww => ?_)
 refine wc_sr ?_
 refine WL.s ((b_boxd rfl rfl (Les.refl _)).does) (Wt.none rfl) rfl rfl ?_
 refine WL.as rfl rfl ?_
 refine WL.ns ?_
 refine wc_sr ?_
 refine WL.qn (y_loadcN rfl a28 s28 rfl) rfl ?_
 refine WL.mv rfl rfl ?_
 obtain ⟨r37, hr37, h⟩ := bindS h
 refine WL.fn rfl rfl rfl rfl (f26_c _ _ hr37) ⟨(Le.refl _), (Le.refl _), trivial⟩ (Wt.none rfl) rfl rfl ?_
 refine WL.mv rfl rfl ?_
 refine WL.qn (y_extractd rfl rfl) rfl ?_
 refine WL.qn (y_extractd rfl rfl) rfl ?_
 refine WL.qn (y_extractd rfl rfl) rfl ?_
 refine WL.as rfl rfl ?_
 refine WL.as rfl rfl ?_
 refine WL.as rfl rfl ?_
 refine WL.ns ?_
 refine wc_sr ?_
 refine WL.mv rfl rfl ?_
 refine WL.mv rfl rfl ?_
 apply WL.and 4 (t := 18) (d := 22)
 ·exact rfl
 ·intro hg18
  refine WL.qy (y_move rfl) rfl rfl rfl ?_
  refine WL.qy (y_move rfl) rfl rfl rfl ?_
  refine WL.qy (y_leq rfl rfl) rfl rfl rfl ?_
  refine WL.qn (y_pick_t rfl rfl) rfl ?_
  exact WL.nil ⟨rfl, [_, _, _, _], rfl, rfl, rfl⟩
 ·refine WL.skips 3 rfl ?_
  refine WL.qn (y_pick_f rfl rfl) rfl ?_
  exact WL.nil ⟨rfl, [_, _, _, _], rfl, rfl, rfl⟩
 refine WL.mv rfl rfl ?_
 apply WL.and 9 (t := 23) (d := 32)
 ·exact rfl
 ·intro hg23
  refine WL.qy (y_move rfl) rfl rfl rfl ?_
  refine WL.qy (y_conv Tryd.underlying2 Tryd.underlying92 rfl rfl) rfl rfl rfl ?_
  refine WL.qy (y_move rfl) rfl rfl rfl ?_
  refine WL.qy (y_conv Tryd.underlying2 Tryd.underlying92 rfl rfl) rfl rfl rfl ?_
  refine WL.qy (y_sub rfl rfl rfl) rfl rfl rfl ?_
  refine WL.qy (y_move rfl) rfl rfl rfl ?_
  refine WL.qy (y_conv Tryd.underlying2 Tryd.underlying92 rfl rfl) rfl rfl rfl ?_
  refine WL.qy (y_lss rfl rfl) rfl rfl rfl ?_
  refine WL.qn (y_pick_t rfl rfl) rfl ?_
  exact WL.nil ⟨rfl, [_, _, _, _, _, _, _, _, _], rfl, rfl, rfl⟩
 ·refine WL.skips 8 rfl ?_
  refine WL.qn (y_pick_f rfl rfl) rfl ?_
  exact WL.nil ⟨rfl, [_, _, _, _, _, _, _, _, _], rfl, rfl, rfl⟩
 refine WL.as rfl rfl ?_
 refine WL.ns ?_
 refine wc_ret ?_
 obtain rfl := Option.some.inj h
 exact we_ret_fn (rs1 rfl (rv_t rfl)) (Le.refl _)

theorem f59_c (t0 : Table) (sub1 : Int) {r : List Int} (h : f59 t0 sub1 = some r) : Pu Tryd.prog 59 [.ag (R28 t0), .i .i64 sub1] (.sl (List.map E3 r)) := by
 unfold f59 at h
 refine fn_intro Tryd.func59 (by kernel_rfl) rfl rfl rfl (fun φφ ww => ?_)
 refine wc_sr ?_
 refine WL.s ((b_boxd rfl rfl (Les.refl _)).does) (Wt.none rfl) rfl rfl ?_
 refine WL.as rfl rfl ?_
 refine WL.ns ?_
 refine wc_sr ?_
 refine WL.qn (y_loadcN rfl a28 s28 rfl) rfl ?_
 refine WL.mv rfl rfl ?_
 obtain ⟨r112, hr112, h⟩ := bindS h
 refine WL.fn rfl rfl rfl rfl (f44_c _ _ hr112) ⟨(Le.refl _), (Le.refl _), trivial⟩ (Wt.none rfl) rfl rfl ?_
 refine WL.as rfl rfl ?_
 refine WL.ns ?_
 refine wc_seq ?_
 refine wc_sr ?_
 refine WL.mv rfl rfl ?_
 refine WL.qn (y_eql rfl rfl) rfl ?_
 refine WL.mv rfl rfl ?_
 apply WL.or 3 (t := 19) (d := 22)
 ·exact rfl
 ·intro hg19
  refine WL.qy (y_move rfl) rfl rfl rfl ?_
  refine WL.qy (y_eql rfl rfl) rfl rfl rfl ?_
  refine WL.qn (y_pick_f rfl rfl) rfl ?_
  exact WL.nil ⟨rfl, [_, _, _], rfl, rfl, rfl⟩
 ·refine WL.skips 2 rfl ?_
  refine WL.qn (y_pick_t rfl rfl) rfl ?_
  exact WL.nil ⟨rfl, [_, _, _], rfl, rfl, rfl⟩
 refine WL.mv rfl rfl ?_
 apply WL.or 3 (t := 23) (d := 26)
 ·exact rfl
 ·intro hg23
  refine WL.qy (y_move rfl) rfl rfl rfl ?_
  refine WL.qy (y_eql rfl rfl) rfl rfl rfl ?_
  refine WL.qn (y_pick_f rfl rfl) rfl ?_
  exact WL.nil ⟨rfl, [_, _, _], rfl, rfl, rfl⟩
 ·refine WL.skips 2 rfl ?_
  refine WL.qn (y_pick_t rfl rfl) rfl ?_
  exact WL.nil ⟨rfl, [_, _, _], rfl, rfl, rfl⟩
 refine WL.mv rfl rfl ?_
 apply WL.or 3 (t := 27) (d := 30)
 ·exact rfl
 ·intro hg27
  refine WL.qy (y_move rfl) rfl rfl rfl ?_
  refine WL.qy (y_eql rfl rfl) rfl rfl rfl ?_
  refine WL.qn (y_pick_f rfl rfl) rfl ?_
  exact WL.nil ⟨rfl, [_, _, _], rfl, rfl, rfl⟩
 ·refine WL.skips 2 rfl ?_
  refine WL.qn (y_pick_t rfl rfl) rfl ?_
  exact WL.nil ⟨rfl, [_, _, _], rfl, rfl, rfl⟩
 refine WL.ns ?_
 refine wc_cond rfl (fun hc1 => ?_) (fun hc1 => ?_)
 ·replace h := condT h hc1
  refine wc_sr ?_
  refine WL.mv rfl rfl ?_
  refine WL.s ((NewOs.b (n_buildSlice l82 z3 rfl (by decide) (by decide) rfl rfl rfl (by decide))).does) (Wt.none rfl) rfl rfl ?_
  refine WL.as rfl rfl ?_
  refine WL.ns ?_
  refine wc_ret ?_
  refine we_seq_ret ?_
  refine WE.freezeX [4, 32] [] 0 (List.map E3 [sub1]) rfl (encA_map E3_eq [sub1]) ⟨rfl, rfl, trivial⟩ trivial ?_
  obtain rfl := Option.some.inj h
  exact we_ret_fn (rs1 rfl (rv_t rfl)) (Le.refl _)
 ·replace h := condF h hc1
  refine wc_skip ?_
  refine we_seq ?_
  refine wc_sr ?_
  refine WL.as rfl rfl ?_
  refine WL.nil_os 6 3 1 rfl ?_
  refine WL.ns ?_
  replace h := letkS h
  obtain ⟨k115, hk115, h⟩ := h
  refine wc_cut (fun env' st' => ∃ (l113 : List Int), ∃ (ver114 : Nat), k115 l113 = some r ∧ Sub [(1, .d (D.i .i64 sub1)), (2, .d (.pc (R28 t0))), (5, .d (D.i .u8 r112)), (6, .os 0 ver114)] env' ∧ SLe st' [.os 3 1 ver114 (List.map (encA E3) l113)]) ?_ ?_
  ·refine wc_sr ?_
   refine WL.mv rfl rfl ?_
   refine WL.qn (y_eql rfl rfl) rfl ?_
   refine WL.ns ?_
   refine wc_cond rfl (fun hc2 => ?_) (fun hc2 => ?_)
   ·replace h := condT h hc2
    refine wc_seq ?_
    obtain ⟨x116, hx116, h⟩ := bindS h
    obtain ⟨x117, hx117, h⟩ := bindS h
    apply wc_region_all [_, _, _, _, _, _, _, _, _, _, _, .u] [[], [0], [], [2], [], [2, 3, 4], [2, 3, 4, 5], [2, 3, 4, 5, 6], [0, 1, 2, 3, 4, 5, 6, 7], [0, 1, 2, 3, 4, 5, 6, 7, 8], [], [0, 1, 2, 3, 4, 5, 6, 7, 8, 9, 10]] [10, 11] (fun c => List.getD [[.os 3 1 0 (List.map (encA E3) [])], [.os 3 1 0 (List.map (encA E3) []), .row 54 [.d (D.i .u8 0), .d (D.s ByteArray.empty), .d (D.i .i64 0), .d (D.i .i64 0), .d (.v (.slice none 0 0)), .d (D.i .i64 0), .d (D.i .i64 0), .d (D.i .i64 0), .d (D.s ByteArray.empty), .d (D.b false), .d (D.i .i64 0), .d (.v (.slice none 0 0)), .d (D.i .i64 0), .d (D.i .u8 0), .d (D.b false), .d (D.i .i64 0), .d (D.i .i64 0), .d (D.i .i64 0)]], [.os 3 1 0 (List.map (encA E3) []), .row 54 [.d (D.i .u8 x117.kind), .d (D.s x117.name), .d (D.i .i64 x117.parent), .d (D.i .i64 x117.first), .d (.sl (List.map E9 x117.lits)), .d (D.i .i64 x117.index), .d (D.i .i64 x117.elem), .d (D.i .i64 x117.disc), .d (D.s x117.discName), .d (D.b x117.has), .d (D.i .i64 x117.default_), .d (.sl (List.map E56 x117.comps)), .d (D.i .i64 x117.target), .d (D.i .u8 x117.formal), .d (D.b x117.limited), .d (D.i .i64 x117.priv), .d (D.i .i64 x117.full), .d (D.i .i64 x117.level)]]] c []) [([], [2], [0, 1]), ([0], [], [0, 1]), ([], [2], [0, 1]), ([2], [], [0, 1]), ([], [1], [0, 1]), ([3, 4], [], [0, 1]), ([5], [], [0, 1]), ([6], [], [0, 1]), ([1, 7], [], [0, 1]), ([8], [], [0, 1]), ([], [], [0]), ([10, 9], [], [1])] (by kernel_rfl) (by kernel_rfl) rfl rfl rfl
    ·refine ⟨?_, ?_, ?_, ?_, ?_, ?_, ?_, ?_, ?_, ?_, ?_, ?_, trivial⟩
     ·refine ⟨fun F => ?_, fun F => ?_, trivial⟩
      ·refine WL.qn (y_fieldAddrc f28_0 rfl) rfl ?_
       exact WL.done1 rfl rfl rfl
      ·refine WL.qn (y_fieldAddrc f28_0 rfl) rfl ?_
       exact WL.done1 rfl rfl rfl
     ·refine ⟨fun F => ?_, fun F => ?_, trivial⟩
      ·refine WL.qn (y_loadc rfl a22 rfl) rfl ?_
       exact WL.done1 rfl rfl rfl
      ·refine WL.qn (y_loadc rfl a22 rfl) rfl ?_
       exact WL.done1 rfl rfl rfl
     ·refine ⟨fun F => ?_, fun F => ?_, trivial⟩
      ·refine WL.qn (y_fieldAddrc f28_1 rfl) rfl ?_
       exact WL.done1 rfl rfl rfl
      ·refine WL.qn (y_fieldAddrc f28_1 rfl) rfl ?_
       exact WL.done1 rfl rfl rfl
     ·refine ⟨fun F => ?_, fun F => ?_, trivial⟩
      ·refine WL.qn (y_loadc rfl a23 rfl) rfl ?_
       exact WL.done1 rfl rfl rfl
      ·refine WL.qn (y_loadc rfl a23 rfl) rfl ?_
       exact WL.done1 rfl rfl rfl
     ·refine ⟨fun F => ?_, fun F => ?_, trivial⟩
      ·refine WL.mv rfl rfl ?_
       exact WL.done1 rfl rfl rfl
      ·refine WL.mv rfl rfl ?_
       exact WL.done1 rfl rfl rfl
     ·refine ⟨fun F => ?_, fun F => ?_, trivial⟩
      ·refine WL.qn (y_indexAddr e23 rfl (Le.refl _) rfl (idx_nonneg hx116) (idx_row E40_eq hx116) rfl) rfl ?_
       exact WL.done1 rfl rfl rfl
      ·refine WL.qn (y_indexAddr e23 rfl (Le.refl _) rfl (idx_nonneg hx116) (idx_row E40_eq hx116) rfl) rfl ?_
       exact WL.done1 rfl rfl rfl
     ·refine ⟨fun F => ?_, fun F => ?_, trivial⟩
      ·refine WL.qn (y_fieldAddrc f40_0 rfl) rfl ?_
       exact WL.done1 rfl rfl rfl
      ·refine WL.qn (y_fieldAddrc f40_0 rfl) rfl ?_
       exact WL.done1 rfl rfl rfl
     ·refine ⟨fun F => ?_, fun F => ?_, trivial⟩
      ·refine WL.qn (y_loadc rfl a3 rfl) rfl ?_
       exact WL.done1 rfl rfl rfl
      ·refine WL.qn (y_loadc rfl a3 rfl) rfl ?_
       exact WL.done1 rfl rfl rfl
     ·refine ⟨fun F => ?_, fun F => ?_, trivial⟩
      ·refine WL.qn (y_indexAddr e22 rfl (Le.refl _) rfl (idx_nonneg hx117) (idx_row E54_eq hx117) rfl) rfl ?_
       exact WL.done1 rfl rfl rfl
      ·refine WL.qn (y_indexAddr e22 rfl (Le.refl _) rfl (idx_nonneg hx117) (idx_row E54_eq hx117) rfl) rfl ?_
       exact WL.done1 rfl rfl rfl
     ·refine ⟨fun F => ?_, fun F => ?_, trivial⟩
      ·refine WL.qn (y_loadcN rfl a54 s54 rfl) rfl ?_
       exact WL.done1 rfl rfl rfl
      ·refine WL.qn (y_loadcN rfl a54 s54 rfl) rfl ?_
       exact WL.done1 rfl rfl rfl
     ·refine ⟨fun F => ?_, trivial⟩
      refine WL.s ((b_alloc z54).does) (Wt.none rfl) rfl rfl ?_
      exact WL.done1 rfl rfl rfl
     ·refine ⟨fun F => ?_, trivial⟩
      refine WL.s0 (d_store rfl rfl rfl rfl rfl rfl s54 rfl rfl) (Wt.none rfl) rfl ?_
      exact WL.done0 rfl rfl
    ·refine we_seq ?_
     refine wc_seq ?_
     refine wc_sr ?_
     refine WL.qn (y_loadcN rfl a28 s28 rfl) rfl ?_
     refine WL.qn (y_fieldAddr f54_5 rfl) rfl ?_
     refine WL.qn (y_load rfl rfl a3 rfl) rfl ?_
     obtain ⟨r118, hr118, h⟩ := bindS h
     refine WL.fn rfl rfl rfl rfl (f78_c _ _ _ hr118) ⟨(Le.refl _), (Le.refl _), (Le.refl _), trivial⟩ (Wt.none rfl) rfl rfl ?_
     refine WL.qn (y_not rfl) rfl ?_
     refine WL.ns ?_
     refine wc_cond rfl (fun hc3 => ?_) (fun hc3 => ?_)
     ·replace h := condT h hc3
      refine wc_sr ?_
      refine WL.as rfl rfl ?_
      refine WL.ns ?_
      refine wc_ret ?_
      refine we_seq_ret ?_
      refine we_lp_ret ?_
      obtain rfl := Option.some.inj h
      exact we_ret_fn (rs1 rfl (rv_t rfl)) Le.nil
     ·replace h := condF h hc3
      refine wc_skip ?_
      refine we_seq ?_
      refine wc_sr ?_
      refine WL.qn (y_loadcN rfl a28 s28 rfl) rfl ?_
      refine WL.qn (y_fieldAddr f54_5 rfl) rfl ?_
      refine WL.qn (y_load rfl rfl a3 rfl) rfl ?_
      obtain ⟨r119, hr119, h⟩ := bindS h
      refine WL.fn rfl rfl rfl rfl (f26_c _ _ hr119) ⟨(Le.refl _), (Le.refl _), trivial⟩ (Wt.none rfl) rfl rfl ?_
      refine WL.mv rfl rfl ?_
      refine WL.qn (y_extractd rfl rfl) rfl ?_
      refine WL.qn (y_extractd rfl rfl) rfl ?_
      refine WL.qn (y_extractd rfl rfl) rfl ?_
      refine WL.as rfl rfl ?_
      refine WL.as rfl rfl ?_
      refine WL.as rfl rfl ?_
      refine WL.ns ?_
      refine wc_sr ?_
      refine WL.as rfl rfl ?_
      refine WL.ns ?_
      refine wc_block ?_
      refine wc_loop (fun n env' st' => ∃ (iq123 : Int), ∃ (l124 : List Int), ∃ (ver125 : Nat), f59_l1 k115 x117 r119 n iq123 l124 = some r ∧ Sub [(1, .d (D.i .i64 sub1)), (2, .d (.pc (R28 t0))), (5, .d (D.i .u8 r112)), (6, .os 0 ver125), (7, .pt 1 0), (8, .d (D.i .i64 r119.1)), (9, .d (D.i .i64 r119.2.1)), (11, .d (D.i .u64 iq123))] env' ∧ SLe st' [.os 3 1 ver125 (List.map (encA E3) l124), .row 54 [.d (D.i .u8 x117.kind), .d (D.s x117.name), .d (D.i .i64 x117.parent), .d (D.i .i64 x117.first), .d (.sl (List.map E9 x117.lits)), .d (D.i .i64 x117.index), .d (D.i .i64 x117.elem), .d (D.i .i64 x117.disc), .d (D.s x117.discName), .d (D.b x117.has), .d (D.i .i64 x117.default_), .d (.sl (List.map E56 x117.comps)), .d (D.i .i64 x117.target), .d (D.i .u8 x117.formal), .d (D.b x117.limited), .d (D.i .i64 x117.priv), .d (D.i .i64 x117.full), .d (D.i .i64 x117.level)]]) (fun n => n) 9223372036854775808 ⟨0, [], _, h, (Sub.cons rfl (Le.refl _) (Sub.cons rfl (Le.refl _) (Sub.cons rfl (Le.refl _) (Sub.cons rfl (Le.refl _) (Sub.cons rfl (Le.refl _) (Sub.cons rfl (Le.refl _) (Sub.cons rfl (Le.refl _) (Sub.cons rfl (Le.refl _) (Sub.nil _))))))))), ⟨⟨rfl, rfl, rfl, rfl⟩, ⟨rfl, ⟨(Le.refl _), (Le.refl _), (Le.refl _), (Le.refl _), (Le.refl _), (Le.refl _), (Le.refl _), (Le.refl _), (Le.refl _), (Le.refl _), (Le.refl _), (Le.refl _), (Le.refl _), (Le.refl _), (Le.refl _), (Le.refl _), (Le.refl _), (Le.refl _), trivial⟩⟩, trivial⟩⟩ ?_
      rintro n env1 st1 ⟨iq123, l124, ver125, h, hsub, hst⟩
      cases n with
      | zero => rw [f59_l1] at h; cases h
      | succ n =>
      rw [f59_l1] at h
      refine WC.sub hsub (WC.weak hst ?_)
      refine wc_seq ?_
      refine wc_sr ?_
      refine WL.mv rfl rfl ?_
      refine WL.mv rfl rfl ?_
      refine WL.qn (y_conv Tryd.underlying2 Tryd.underlying92 rfl rfl) rfl ?_
      refine WL.mv rfl rfl ?_
      refine WL.qn (y_conv Tryd.underlying2 Tryd.underlying92 rfl rfl) rfl ?_
      refine WL.qn (y_sub rfl rfl rfl) rfl ?_
      refine WL.qn (y_leq rfl rfl) rfl ?_
      refine WL.ns ?_
      refine wc_cond rfl (fun hc4 => ?_) (fun hc4 => ?_)
      ·replace h := condT h hc4
       refine wc_skip ?_
       refine we_seq ?_
       refine wc_seq ?_
       refine wc_block ?_
       refine wc_region ?_
       refine WL.mv rfl rfl ?_
       refine WL.qn (y_fieldAddr f54_6 rfl) rfl ?_
       refine WL.qn (y_load rfl rfl a3 rfl) rfl ?_
       refine WL.s ((NewOs.b (n_buildSlice l82 z3 rfl (by decide) (by decide) rfl rfl rfl (by decide))).does) (Wt.none rfl) rfl rfl ?_
       replace h := guardBS h
       obtain ⟨hgg129, h⟩ := h
       refine WL.s (d_appendL E3 l124 [x117.elem] l82 z3 rfl (by decide) rfl rfl rfl rfl (Src.own rfl) (fun _ => rfl) (fun _ => rfl) hgg129) (Wt.none rfl) rfl rfl ?_
       refine WL.as rfl rfl ?_
       refine WL.nil ?_
       refine we_blk ?_
       refine we_seq ?_
       refine wc_region ?_
       refine WL.mv rfl rfl ?_
       refine WL.qn (y_add rfl rfl rfl) rfl ?_
       refine WL.as rfl rfl ?_
       refine WL.nil ?_
       refine WE.drop 2 (env' := [(1, .d (D.i .i64 sub1)), (2, .d (.pc (R28 t0))), (5, .d (D.i .u8 r112)), (6, .os 0 (ver125 + 1)), (7, .pt 1 0), (8, .d (D.i .i64 r119.1)), (9, .d (D.i .i64 r119.2.1)), (11, .d (D.i .u64 (IntKind.u64.wrap (iq123 + 1))))]) (Sub.one rfl (Sub.one rfl (Sub.one rfl (Sub.one rfl (Sub.one rfl (Sub.one rfl (Sub.one rfl (Sub.one rfl (Sub.nil _))))))))) rfl (stLt_cons (lt_os _ _ _ _ _ _) (stLt_cons rfl rfl)) (Nat.zero_le _) ?_
       exact we_lp ⟨n, ⟨(IntKind.u64.wrap (iq123 + 1)), (l124 ++ [x117.elem]), _, h, (Sub.cons rfl (Le.refl _) (Sub.cons rfl (Le.refl _) (Sub.cons rfl (Le.refl _) (Sub.cons rfl (Le.refl _) (Sub.cons rfl (Le.refl _) (Sub.cons rfl (Le.refl _) (Sub.cons rfl (Le.refl _) (Sub.cons rfl (Le.refl _) (Sub.nil _))))))))), ⟨⟨rfl, rfl, rfl, rfl⟩, ⟨rfl, ⟨(Le.refl _), (Le.refl _), (Le.refl _), (Le.refl _), (Le.refl _), (Le.refl _), (Le.refl _), (Le.refl _), (Le.refl _), (Le.refl _), (Le.refl _), (Le.refl _), (Le.refl _), (Le.refl _), (Le.refl _), (Le.refl _), (Le.refl _), (Le.refl _), trivial⟩⟩, trivial⟩⟩, Nat.lt_succ_self n⟩
      ·replace h := condF h hc4
       refine wc_exit ?_
       refine we_seq_exit ?_
       refine we_lp_exit ?_
       refine we_blk_hit ?_
       refine WE.drop 1 (env' := [(1, .d (D.i .i64 sub1)), (2, .d (.pc (R28 t0))), (5, .d (D.i .u8 r112)), (6, .os 0 ver125)]) (Sub.one rfl (Sub.one rfl (Sub.one rfl (Sub.one rfl (Sub.nil _))))) rfl (stLt_cons (lt_os _ _ _ _ _ _) rfl) (Nat.zero_le _) ?_
       exact we_lp ⟨l124, _, h, (Sub.cons rfl (Le.refl _) (Sub.cons rfl (Le.refl _) (Sub.cons rfl (Le.refl _) (Sub.cons rfl (Le.refl _) (Sub.nil _))))), ⟨⟨rfl, rfl, rfl, rfl⟩, trivial⟩⟩
   ·replace h := condF h hc2
    refine wc_skip ?_
    exact we_lp ⟨[], _, h, (Sub.cons rfl (Le.refl _) (Sub.cons rfl (Le.refl _) (Sub.cons rfl (Le.refl _) (Sub.cons rfl (Le.refl _) (Sub.nil _))))), ⟨⟨rfl, rfl, rfl, rfl⟩, trivial⟩⟩
  ·rintro env1 st1 ⟨l113, ver114, h, hsub, hst⟩
   subst hk115
   dsimp only at h
   refine WC.sub hsub (WC.weak hst ?_)
   replace h := letkS h
   obtain ⟨k132, hk132, h⟩ := h
   refine wc_cut (fun env' st' => ∃ (l130 : List Int), ∃ (ver131 : Nat), k132 l130 = some r ∧ Sub [(6, .os 0 ver131)] env' ∧ SLe st' [.os 3 1 ver131 (List.map (encA E3) l130)]) ?_ ?_
   ·refine wc_sr ?_
    refine WL.mv rfl rfl ?_
    refine WL.qn (y_eql rfl rfl) rfl ?_
    refine WL.ns ?_
    refine wc_cond rfl (fun hc5 => ?_) (fun hc5 => ?_)
    ·replace h := condT h hc5
     refine wc_seq ?_
     obtain ⟨x133, hx133, h⟩ := bindS h
     obtain ⟨x134, hx134, h⟩ := bindS h
     apply wc_region_all [_, _, _, _, _, _, _, _, _, _, _, .u] [[], [0], [], [2], [], [2, 3, 4], [2, 3, 4, 5], [2, 3, 4, 5, 6], [0, 1, 2, 3, 4, 5, 6, 7], [0, 1, 2, 3, 4, 5, 6, 7, 8], [], [0, 1, 2, 3, 4, 5, 6, 7, 8, 9, 10]] [10, 11] (fun c => List.getD [[.os 3 1 ver114 (List.map (encA E3) l113)], [.os 3 1 ver114 (List.map (encA E3) l113), .row 54 [.d (D.i .u8 0), .d (D.s ByteArray.empty), .d (D.i .i64 0), .d (D.i .i64 0), .d (.v (.slice none 0 0)), .d (D.i .i64 0), .d (D.i .i64 0), .d (D.i .i64 0), .d (D.s ByteArray.empty), .d (D.b false), .d (D.i .i64 0), .d (.v (.slice none 0 0)), .d (D.i .i64 0), .d (D.i .u8 0), .d (D.b false), .d (D.i .i64 0), .d (D.i .i64 0), .d (D.i .i64 0)]], [.os 3 1 ver114 (List.map (encA E3) l113), .row 54 [.d (D.i .u8 x134.kind), .d (D.s x134.name), .d (D.i .i64 x134.parent), .d (D.i .i64 x134.first), .d (.sl (List.map E9 x134.lits)), .d (D.i .i64 x134.index), .d (D.i .i64 x134.elem), .d (D.i .i64 x134.disc), .d (D.s x134.discName), .d (D.b x134.has), .d (D.i .i64 x134.default_), .d (.sl (List.map E56 x134.comps)), .d (D.i .i64 x134.target), .d (D.i .u8 x134.formal), .d (D.b x134.limited), .d (D.i .i64 x134.priv), .d (D.i .i64 x134.full), .d (D.i .i64 x134.level)]]] c []) [([], [2], [0, 1]), ([0], [], [0, 1]), ([], [2], [0, 1]), ([2], [], [0, 1]), ([], [1], [0, 1]), ([3, 4], [], [0, 1]), ([5], [], [0, 1]), ([6], [], [0, 1]), ([1, 7], [], [0, 1]), ([8], [], [0, 1]), ([], [], [0]), ([10, 9], [], [1])] (by kernel_rfl) (by kernel_rfl) rfl rfl rfl
     ·refine ⟨?_, ?_, ?_, ?_, ?_, ?_, ?_, ?_, ?_, ?_, ?_, ?_, trivial⟩
      ·refine ⟨fun F => ?_, fun F => ?_, trivial⟩
       ·refine WL.qn (y_fieldAddrc f28_0 rfl) rfl ?_
        exact WL.done1 rfl rfl rfl
       ·refine WL.qn (y_fieldAddrc f28_0 rfl) rfl ?_
        exact WL.done1 rfl rfl rfl
      ·refine ⟨fun F => ?_, fun F => ?_, trivial⟩
       ·refine WL.qn (y_loadc rfl a22 rfl) rfl ?_
        exact WL.done1 rfl rfl rfl
       ·refine WL.qn (y_loadc rfl a22 rfl) rfl ?_
        exact WL.done1 rfl rfl rfl
      ·refine ⟨fun F => ?_, fun F => ?_, trivial⟩
       ·refine WL.qn (y_fieldAddrc f28_1 rfl) rfl ?_
        exact WL.done1 rfl rfl rfl
       ·refine WL.qn (y_fieldAddrc f28_1 rfl) rfl ?_
        exact WL.done1 rfl rfl rfl
      ·refine ⟨fun F => ?_, fun F => ?_, trivial⟩
       ·refine WL.qn (y_loadc rfl a23 rfl) rfl ?_
        exact WL.done1 rfl rfl rfl
       ·refine WL.qn (y_loadc rfl a23 rfl) rfl ?_
        exact WL.done1 rfl rfl rfl
      ·refine ⟨fun F => ?_, fun F => ?_, trivial⟩
       ·refine WL.mv rfl rfl ?_
        exact WL.done1 rfl rfl rfl
       ·refine WL.mv rfl rfl ?_
        exact WL.done1 rfl rfl rfl
      ·refine ⟨fun F => ?_, fun F => ?_, trivial⟩
       ·refine WL.qn (y_indexAddr e23 rfl (Le.refl _) rfl (idx_nonneg hx133) (idx_row E40_eq hx133) rfl) rfl ?_
        exact WL.done1 rfl rfl rfl
       ·refine WL.qn (y_indexAddr e23 rfl (Le.refl _) rfl (idx_nonneg hx133) (idx_row E40_eq hx133) rfl) rfl ?_
        exact WL.done1 rfl rfl rfl
      ·refine ⟨fun F => ?_, fun F => ?_, trivial⟩
       ·refine WL.qn (y_fieldAddrc f40_0 rfl) rfl ?_
        exact WL.done1 rfl rfl rfl
       ·refine WL.qn (y_fieldAddrc f40_0 rfl) rfl ?_
        exact WL.done1 rfl rfl rfl
      ·refine ⟨fun F => ?_, fun F => ?_, trivial⟩
       ·refine WL.qn (y_loadc rfl a3 rfl) rfl ?_
        exact WL.done1 rfl rfl rfl
       ·refine WL.qn (y_loadc rfl a3 rfl) rfl ?_
        exact WL.done1 rfl rfl rfl
      ·refine ⟨fun F => ?_, fun F => ?_, trivial⟩
       ·refine WL.qn (y_indexAddr e22 rfl (Le.refl _) rfl (idx_nonneg hx134) (idx_row E54_eq hx134) rfl) rfl ?_
        exact WL.done1 rfl rfl rfl
       ·refine WL.qn (y_indexAddr e22 rfl (Le.refl _) rfl (idx_nonneg hx134) (idx_row E54_eq hx134) rfl) rfl ?_
        exact WL.done1 rfl rfl rfl
      ·refine ⟨fun F => ?_, fun F => ?_, trivial⟩
       ·refine WL.qn (y_loadcN rfl a54 s54 rfl) rfl ?_
        exact WL.done1 rfl rfl rfl
       ·refine WL.qn (y_loadcN rfl a54 s54 rfl) rfl ?_
        exact WL.done1 rfl rfl rfl
      ·refine ⟨fun F => ?_, trivial⟩
       refine WL.s ((b_alloc z54).does) (Wt.none rfl) rfl rfl ?_
       exact WL.done1 rfl rfl rfl
      ·refine ⟨fun F => ?_, trivial⟩
       refine WL.s0 (d_store rfl rfl rfl rfl rfl rfl s54 rfl rfl) (Wt.none rfl) rfl ?_
       exact WL.done0 rfl rfl
     ·refine we_seq ?_
      replace h := letkS h
      obtain ⟨k137, hk137, h⟩ := h
      refine wc_cut (fun env' st' => ∃ (l135 : List Int), ∃ (ver136 : Nat), k137 l135 = some r ∧ Sub [(6, .os 0 ver136), (12, .pt 1 0)] env' ∧ SLe st' [.os 3 1 ver136 (List.map (encA E3) l135), .row 54 [.d (D.i .u8 x134.kind), .d (D.s x134.name), .d (D.i .i64 x134.parent), .d (D.i .i64 x134.first), .d (.sl (List.map E9 x134.lits)), .d (D.i .i64 x134.index), .d (D.i .i64 x134.elem), .d (D.i .i64 x134.disc), .d (D.s x134.discName), .d (D.b x134.has), .d (D.i .i64 x134.default_), .d (.sl (List.map E56 x134.comps)), .d (D.i .i64 x134.target), .d (D.i .u8 x134.formal), .d (D.b x134.limited), .d (D.i .i64 x134.priv), .d (D.i .i64 x134.full), .d (D.i .i64 x134.level)]]) ?_ ?_
      ·refine wc_sr ?_
       refine WL.qn (y_fieldAddr f54_7 rfl) rfl ?_
       refine WL.qn (y_load rfl rfl a3 rfl) rfl ?_
       refine WL.qn (y_neq rfl rfl) rfl ?_
       refine WL.ns ?_
       refine wc_cond rfl (fun hc6 => ?_) (fun hc6 => ?_)
       ·replace h := condT h hc6
        refine wc_region ?_
        refine WL.mv rfl rfl ?_
        refine WL.qn (y_fieldAddr f54_7 rfl) rfl ?_
        refine WL.qn (y_load rfl rfl a3 rfl) rfl ?_
        refine WL.s ((NewOs.b (n_buildSlice l82 z3 rfl (by decide) (by decide) rfl rfl rfl (by decide))).does) (Wt.none rfl) rfl rfl ?_
        replace h := guardBS h
        obtain ⟨hgg138, h⟩ := h
        refine WL.s (d_appendL E3 l113 [x134.disc] l82 z3 rfl (by decide) rfl rfl rfl rfl (Src.own rfl) (fun _ => rfl) (fun _ => rfl) hgg138) (Wt.none rfl) rfl rfl ?_
        refine WL.as rfl rfl ?_
        refine WL.nil ?_
        refine WE.drop 2 (env' := [(6, .os 0 (ver114 + 1)), (12, .pt 1 0)]) (Sub.one rfl (Sub.one rfl (Sub.nil _))) rfl (stLt_cons (lt_os _ _ _ _ _ _) (stLt_cons rfl rfl)) (Nat.zero_le _) ?_
        exact we_lp ⟨(l113 ++ [x134.disc]), _, h, (Sub.cons rfl (Le.refl _) (Sub.cons rfl (Le.refl _) (Sub.nil _))), ⟨⟨rfl, rfl, rfl, rfl⟩, ⟨rfl, ⟨(Le.refl _), (Le.refl _), (Le.refl _), (Le.refl _), (Le.refl _), (Le.refl _), (Le.refl _), (Le.refl _), (Le.refl _), (Le.refl _), (Le.refl _), (Le.refl _), (Le.refl _), (Le.refl _), (Le.refl _), (Le.refl _), (Le.refl _), (Le.refl _), trivial⟩⟩, trivial⟩⟩
       ·replace h := condF h hc6
        refine wc_skip ?_
        exact we_lp ⟨l113, _, h, (Sub.cons rfl (Le.refl _) (Sub.cons rfl (Le.refl _) (Sub.nil _))), ⟨⟨rfl, rfl, rfl, rfl⟩, ⟨rfl, ⟨(Le.refl _), (Le.refl _), (Le.refl _), (Le.refl _), (Le.refl _), (Le.refl _), (Le.refl _), (Le.refl _), (Le.refl _), (Le.refl _), (Le.refl _), (Le.refl _), (Le.refl _), (Le.refl _), (Le.refl _), (Le.refl _), (Le.refl _), (Le.refl _), trivial⟩⟩, trivial⟩⟩
      ·rintro env1 st1 ⟨l135, ver136, h, hsub, hst⟩
       subst hk137
       dsimp only at h
       refine WC.sub hsub (WC.weak hst ?_)
       refine wc_sr ?_
       refine WL.as rfl rfl ?_
       refine WL.ns ?_
       refine wc_block ?_
       refine wc_loop (fun n env' st' => ∃ (iq142 : Int), ∃ (l143 : List Int), ∃ (ver144 : Nat), f59_l2 k132 x134 n iq142 l143 = some r ∧ Sub [(6, .os 0 ver144), (12, .pt 1 0), (13, .d (D.i .i64 iq142))] env' ∧ SLe st' [.os 3 1 ver144 (List.map (encA E3) l143), .row 54 [.d (D.i .u8 x134.kind), .d (D.s x134.name), .d (D.i .i64 x134.parent), .d (D.i .i64 x134.first), .d (.sl (List.map E9 x134.lits)), .d (D.i .i64 x134.index), .d (D.i .i64 x134.elem), .d (D.i .i64 x134.disc), .d (D.s x134.discName), .d (D.b x134.has), .d (D.i .i64 x134.default_), .d (.sl (List.map E56 x134.comps)), .d (D.i .i64 x134.target), .d (D.i .u8 x134.formal), .d (D.b x134.limited), .d (D.i .i64 x134.priv), .d (D.i .i64 x134.full), .d (D.i .i64 x134.level)]]) (fun n => n) 9223372036854775808 ⟨0, l135, _, h, (Sub.cons rfl (Le.refl _) (Sub.cons rfl (Le.refl _) (Sub.cons rfl (Le.refl _) (Sub.nil _)))), ⟨⟨rfl, rfl, rfl, rfl⟩, ⟨rfl, ⟨(Le.refl _), (Le.refl _), (Le.refl _), (Le.refl _), (Le.refl _), (Le.refl _), (Le.refl _), (Le.refl _), (Le.refl _), (Le.refl _), (Le.refl _), (Le.refl _), (Le.refl _), (Le.refl _), (Le.refl _), (Le.refl _), (Le.refl _), (Le.refl _), trivial⟩⟩, trivial⟩⟩ ?_
       rintro n env1 st1 ⟨iq142, l143, ver144, h, hsub, hst⟩
       cases n with
       | zero => rw [f59_l2] at h; cases h
       | succ n =>
       rw [f59_l2] at h
       refine WC.sub hsub (WC.weak hst ?_)
       refine wc_seq ?_
       refine wc_sr ?_
       refine WL.mv rfl rfl ?_
       refine WL.qn (y_fieldAddr f54_11 rfl) rfl ?_
       refine WL.qn (y_load rfl rfl a51 rfl) rfl ?_
       refine WL.qn (y_len_map E56 x134.comps e51 rfl rfl (Le.refl _)) rfl ?_
       refine WL.qn (y_lss rfl rfl) rfl ?_
       refine WL.ns ?_
       refine wc_cond rfl (fun hc7 => ?_) (fun hc7 => ?_)
       ·replace h := condT h hc7
        refine wc_skip ?_
        refine we_seq ?_
        refine wc_seq ?_
        refine wc_block ?_
        refine wc_region ?_
        refine WL.mv rfl rfl ?_
        refine WL.qn (y_fieldAddr f54_11 rfl) rfl ?_
        refine WL.qn (y_load rfl rfl a51 rfl) rfl ?_
        refine WL.mv rfl rfl ?_
        obtain ⟨x148, hx148, h⟩ := bindS h
        refine WL.qn (y_indexAddr e51 rfl (Le.refl _) rfl (idx_nonneg hx148) (idx_row E56_eq hx148) rfl) rfl ?_
        refine WL.qn (y_fieldAddrc f56_1 rfl) rfl ?_
        refine WL.qn (y_loadc rfl a3 rfl) rfl ?_
        refine WL.s ((NewOs.b (n_buildSlice l82 z3 rfl (by decide) (by decide) rfl rfl rfl (by decide))).does) (Wt.none rfl) rfl rfl ?_
        replace h := guardBS h
        obtain ⟨hgg149, h⟩ := h
        refine WL.s (d_appendL E3 l143 [x148.sub] l82 z3 rfl (by decide) rfl rfl rfl rfl (Src.own rfl) (fun _ => rfl) (fun _ => rfl) hgg149) (Wt.none rfl) rfl rfl ?_
        refine WL.as rfl rfl ?_
        refine WL.nil ?_
        refine we_blk ?_
        refine we_seq ?_
        refine wc_region ?_
        refine WL.mv rfl rfl ?_
        refine WL.qn (y_add rfl rfl rfl) rfl ?_
        refine WL.as rfl rfl ?_
        refine WL.nil ?_
        refine WE.drop 2 (env' := [(6, .os 0 (ver144 + 1)), (12, .pt 1 0), (13, .d (D.i .i64 (IntKind.i64.wrap (iq142 + 1))))]) (Sub.one rfl (Sub.one rfl (Sub.one rfl (Sub.nil _)))) rfl (stLt_cons (lt_os _ _ _ _ _ _) (stLt_cons rfl rfl)) (Nat.zero_le _) ?_
        exact we_lp ⟨n, ⟨(IntKind.i64.wrap (iq142 + 1)), (l143 ++ [x148.sub]), _, h, (Sub.cons rfl (Le.refl _) (Sub.cons rfl (Le.refl _) (Sub.cons rfl (Le.refl _) (Sub.nil _)))), ⟨⟨rfl, rfl, rfl, rfl⟩, ⟨rfl, ⟨(Le.refl _), (Le.refl _), (Le.refl _), (Le.refl _), (Le.refl _), (Le.refl _), (Le.refl _), (Le.refl _), (Le.refl _), (Le.refl _), (Le.refl _), (Le.refl _), (Le.refl _), (Le.refl _), (Le.refl _), (Le.refl _), (Le.refl _), (Le.refl _), trivial⟩⟩, trivial⟩⟩, Nat.lt_succ_self n⟩
       ·replace h := condF h hc7
        refine wc_exit ?_
        refine we_seq_exit ?_
        refine we_lp_exit ?_
        refine we_blk_hit ?_
        refine WE.drop 1 (env' := [(6, .os 0 ver144)]) (Sub.one rfl (Sub.nil _)) rfl (stLt_cons (lt_os _ _ _ _ _ _) rfl) (Nat.zero_le _) ?_
        exact we_lp ⟨l143, _, h, (Sub.cons rfl (Le.refl _) (Sub.nil _)), ⟨⟨rfl, rfl, rfl, rfl⟩, trivial⟩⟩
    ·replace h := condF h hc5
     refine wc_skip ?_
     exact we_lp ⟨l113, _, h, (Sub.cons rfl (Le.refl _) (Sub.nil _)), ⟨⟨rfl, rfl, rfl, rfl⟩, trivial⟩⟩
   ·rintro env1 st1 ⟨l130, ver131, h, hsub, hst⟩
    subst hk132
    dsimp only at h
    refine WC.sub hsub (WC.weak hst ?_)
    refine wc_sr ?_
    refine WL.mv rfl rfl ?_
    refine WL.as rfl rfl ?_
    refine WL.ns ?_
    refine wc_ret ?_
    refine WE.freezeX [6, 108, 4] [] 0 (List.map E3 l130) rfl (encA_map E3_eq l130) ⟨rfl, rfl, rfl, trivial⟩ trivial ?_
    obtain rfl := Option.some.inj h
    exact we_ret_fn (rs1 rfl (rv_t rfl)) (Le.refl _)

theorem f30_c (t0 : Table) (sub1 : Int) {r : Int} (h : f30 t0 sub1 = some r) : Pu Tryd.prog 30 [.ag (R28 t0), .i .i64 sub1] (.i .i64 r) := by
 unfold f30 at h
 refine fn_intro Tryd.func30 (by kernel_rfl) rfl rfl rfl (fun φφ ww => ?_)
 refine wc_sr ?_
 refine WL.s ((b_boxd rfl rfl (Les.refl _)).does) (Wt.none rfl) rfl rfl ?_
 refine WL.as rfl rfl ?_
 refine WL.ns ?_
 refine wc_sr ?_
 refine WL.qn (y_loadcN rfl a28 s28 rfl) rfl ?_
 refine WL.mv rfl rfl ?_
 obtain ⟨r12, hr12, h⟩ := bindS h
 refine WL.fn rfl rfl rfl rfl (f59_c _ _ hr12) ⟨(Le.refl _), (Le.refl _), trivial⟩ (Wt.none rfl) rfl rfl ?_
 refine WL.qn (y_len_map E3 r12 e82 rfl rfl (Le.refl _)) rfl ?_
 refine WL.as rfl rfl ?_
 refine WL.ns ?_
 refine wc_ret ?_
 obtain rfl := Option.some.inj h
 exact we_ret_fn (rs1 rfl (rv_t rfl)) (Le.refl _)

theorem f45_c (t0 : Table) (sub1 : Int) (v2 : Int) {r : Bool} (h : f45 t0 sub1 v2 = some r) : Pu Tryd.prog 45 [.ag (R28 t0), .i .i64 sub1, .i .i64 v2] (.b r) := by
 unfold f45 at h
 refine fn_intro Tryd.func45 (by kernel_rfl) rfl rfl rfl (fun φφ ww => ?_)
 refine wc_sr ?_
 refine WL.s ((b_boxd rfl rfl (Les.refl _)).does) (Wt.none rfl) rfl rfl ?_
 refine WL.as rfl rfl ?_
 refine WL.ns ?_
 refine wc_sr ?_
 refine WL.qn (y_loadcN rfl a28 s28 rfl) rfl ?_
 refine WL.mv rfl rfl ?_
 obtain ⟨r32, hr32, h⟩ := bindS h
 refine WL.fn rfl rfl rfl rfl (f26_c _ _ hr32) ⟨(Le.refl _), (Le.refl _), trivial⟩ (Wt.none rfl) rfl rfl ?_
 refine WL.mv rfl rfl ?_
 refine WL.qn (y_extractd rfl rfl) rfl ?_
 refine WL.qn (y_extractd rfl rfl) rfl ?_
 refine WL.qn (y_extractd rfl rfl) rfl ?_
 refine WL.as rfl rfl ?_
 refine WL.as rfl rfl ?_
 refine WL.as rfl rfl ?_
 refine WL.ns ?_
 refine wc_sr ?_
 refine WL.mv rfl rfl ?_
 refine WL.mv rfl rfl ?_
 apply WL.and 4 (t := 18) (d := 22)
 ·exact rfl
 ·intro hg18
  refine WL.qy (y_move rfl) rfl rfl rfl ?_
  refine WL.qy (y_move rfl) rfl rfl rfl ?_
  refine WL.qy (y_geq rfl rfl) rfl rfl rfl ?_
  refine WL.qn (y_pick_t rfl rfl) rfl ?_
  exact WL.nil ⟨rfl, [_, _, _, _], rfl, rfl, rfl⟩
 ·refine WL.skips 3 rfl ?_
  refine WL.qn (y_pick_f rfl rfl) rfl ?_
  exact WL.nil ⟨rfl, [_, _, _, _], rfl, rfl, rfl⟩
 refine WL.mv rfl rfl ?_
 apply WL.and 4 (t := 23) (d := 27)
 ·exact rfl
 ·intro hg23
  refine WL.qy (y_move rfl) rfl rfl rfl ?_
  refine WL.qy (y_move rfl) rfl rfl rfl ?_
  refine WL.qy (y_leq rfl rfl) rfl rfl rfl ?_
  refine WL.qn (y_pick_t rfl rfl) rfl ?_
  exact WL.nil ⟨rfl, [_, _, _, _], rfl, rfl, rfl⟩
 ·refine WL.skips 3 rfl ?_
  refine WL.qn (y_pick_f rfl rfl) rfl ?_
  exact WL.nil ⟨rfl, [_, _, _, _], rfl, rfl, rfl⟩
 refine WL.as rfl rfl ?_
 refine WL.ns ?_
 refine wc_ret ?_
 obtain rfl := Option.some.inj h
 exact we_ret_fn (rs1 rfl (rv_t rfl)) (Le.refl _)

theorem f28_c (t0 : Table) (sub1 : Int) (slot2 : Int) {r : Int × Bool} (h : f28 t0 sub1 slot2 = some r) : Pu Tryd.prog 28 [.ag (R28 t0), .i .i64 sub1, .i .i64 slot2] (.tu [.i .i64 r.1, .b r.2]) := by
 unfold f28 at h
 refine fn_intro Tryd.func28 (by kernel_rfl) rfl rfl rfl (fun φφ ww => ?_)
 refine wc_sr ?_
 refine WL.s ((b_boxd rfl rfl (Les.refl _)).does) (Wt.none rfl) rfl rfl ?_
 refine WL.as rfl rfl ?_
 refine WL.as rfl rfl ?_
 refine WL.ns ?_
 refine wc_sr ?_
 refine WL.qn (y_loadcN rfl a28 s28 rfl) rfl ?_
 refine WL.mv rfl rfl ?_
 obtain ⟨r25, hr25, h⟩ := bindS h
 refine WL.fn rfl rfl rfl rfl (f59_c _ _ hr25) ⟨(Le.refl _), (Le.refl _), trivial⟩ (Wt.none rfl) rfl rfl ?_
 refine WL.as rfl rfl ?_
 refine WL.ns ?_
 refine wc_seq ?_
 refine wc_sr ?_
 refine WL.mv rfl rfl ?_
 refine WL.mv rfl rfl ?_
 refine WL.qn (y_len_map E3 r25 e82 rfl rfl (Le.refl _)) rfl ?_
 refine WL.fn rfl rfl rfl rfl (f51_c _ _) ⟨(Le.refl _), (Le.refl _), trivial⟩ (Wt.none rfl) rfl rfl ?_
 refine WL.qn (y_not rfl) rfl ?_
 refine WL.ns ?_
 refine wc_cond rfl (fun hc1 => ?_) (fun hc1 => ?_)
 ·replace h := condT h hc1
  refine wc_sr ?_
  refine WL.as rfl rfl ?_
  refine WL.as rfl rfl ?_
  refine WL.ns ?_
  refine wc_ret ?_
  refine we_seq_ret ?_
  obtain rfl := Option.some.inj h
  exact we_ret_fn (rs2 rfl (rv_t rfl) (rv_t rfl)) (Le.tud ⟨(Le.refl _), (Le.refl _), trivial⟩)
 ·replace h := condF h hc1
  refine wc_skip ?_
  refine we_seq ?_
  refine wc_sr ?_
  refine WL.mv rfl rfl ?_
  refine WL.mv rfl rfl ?_
  obtain ⟨x26, hx26, h⟩ := bindS h
  refine WL.qn (y_indexAddr e82 rfl (Le.refl _) rfl (idx_nonneg hx26) (idx_row E3_eq hx26) rfl) rfl ?_
  refine WL.qn (y_loadc rfl a3 rfl) rfl ?_
  refine WL.as rfl rfl ?_
  refine WL.as rfl rfl ?_
  refine WL.ns ?_
  refine wc_ret ?_
  obtain rfl := Option.some.inj h
  exact we_ret_fn (rs2 rfl (rv_t rfl) (rv_t rfl)) (Le.tud ⟨(Le.refl _), (Le.refl _), trivial⟩)

theorem f62_c (t0 : Table) (sub1 : Int) (v2 : Int) {r : Bool} (h : f62 t0 sub1 v2 = some r) : Pu Tryd.prog 62 [.ag (R28 t0), .i .i64 sub1, .i .i64 v2] (.b r) := by
 unfold f62 at h
 refine fn_intro Tryd.func62 (by kernel_rfl) rfl rfl rfl (fun φφ ww => ?_)
 refine wc_sr ?_
 refine WL.s ((b_boxd rfl rfl (Les.refl _)).does) (Wt.none rfl) rfl rfl ?_
 refine WL.as rfl rfl ?_
 refine WL.ns ?_
 refine wc_seq ?_
 refine wc_sr ?_
 refine WL.qn (y_loadcN rfl a28 s28 rfl) rfl ?_
 refine WL.mv rfl rfl ?_
 obtain ⟨r31, hr31, h⟩ := bindS h
 refine WL.fn rfl rfl rfl rfl (f44_c _ _ hr31) ⟨(Le.refl _), (Le.refl _), trivial⟩ (Wt.none rfl) rfl rfl ?_
 refine WL.ns ?_
 refine wc_block ?_
 replace h := letkS h
 obtain ⟨k33, hk33, h⟩ := h
 refine wc_cut (fun env' st' => ∃ (t32 : Bool), k33 t32 = some r ∧ Sub [(1, .d (D.i .i64 sub1)), (2, .d (D.i .i64 v2)), (3, .d (.pc (R28 t0))), (9, .d (D.i .u8 r31)), (10, .d (D.b t32))] env' ∧ SLe st' []) ?_ ?_
 ·refine wc_sr ?_
  refine WL.qn (y_eql rfl rfl) rfl ?_
  refine WL.as rfl rfl ?_
  refine WL.ns ?_
  refine wc_cond rfl (fun hc1 => ?_) (fun hc1 => ?_)
  ·replace h := condT h hc1
   refine wc_skip ?_
   exact we_lp ⟨(decide (r31 = 2)), h, (Sub.cons rfl (Le.refl _) (Sub.cons rfl (Le.refl _) (Sub.cons rfl (Le.refl _) (Sub.cons rfl (Le.refl _) (Sub.cons rfl (Le.refl _) (Sub.nil _)))))), trivial⟩
  ·replace h := condF h hc1
   refine wc_region ?_
   refine WL.qn (y_eql rfl rfl) rfl ?_
   refine WL.as rfl rfl ?_
   refine WL.nil ?_
   exact we_lp ⟨(decide (r31 = 3)), h, (Sub.cons rfl (Le.refl _) (Sub.cons rfl (Le.refl _) (Sub.cons rfl (Le.refl _) (Sub.cons rfl (Le.refl _) (Sub.cons rfl (Le.refl _) (Sub.nil _)))))), trivial⟩
 ·rintro env1 st1 ⟨t32, h, hsub, hst⟩
  subst hk33
  dsimp only at h
  refine WC.sub hsub (WC.weak hst ?_)
  refine wc_cond rfl (fun hc2 => ?_) (fun hc2 => ?_)
  ·replace h := condT h hc2
   refine wc_sr ?_
   refine WL.qn (y_loadcN rfl a28 s28 rfl) rfl ?_
   refine WL.mv rfl rfl ?_
   refine WL.mv rfl rfl ?_
   obtain ⟨r34, hr34, h⟩ := bindS h
   refine WL.fn rfl rfl rfl rfl (f45_c _ _ _ hr34) ⟨(Le.refl _), (Le.refl _), (Le.refl _), trivial⟩ (Wt.none rfl) rfl rfl ?_
   refine WL.as rfl rfl ?_
   refine WL.ns ?_
   refine wc_ret ?_
   refine we_blk_ret ?_
   refine we_seq_ret ?_
   obtain rfl := Option.some.inj h
   exact we_ret_fn (rs1 rfl (rv_t rfl)) (Le.refl _)
  ·replace h := condF h hc2
   refine wc_sr ?_
   refine WL.qn (y_eql rfl rfl) rfl ?_
   refine WL.as rfl rfl ?_
   refine WL.ns ?_
   refine wc_cond rfl (fun hc3 => ?_) (fun hc3 => ?_)
   ·replace h := condT h hc3
    refine wc_sr ?_
    refine WL.mv rfl rfl ?_
    refine WL.qn (y_geq rfl rfl) rfl ?_
    refine WL.mv rfl rfl ?_
    apply WL.and 3 (t := 21) (d := 24)
    ·exact rfl
    ·intro hg21
     refine WL.qy (y_move rfl) rfl rfl rfl ?_
     refine WL.qy (y_leq rfl rfl) rfl rfl rfl ?_
     refine WL.qn (y_pick_t rfl rfl) rfl ?_
     exact WL.nil ⟨rfl, [_, _, _], rfl, rfl, rfl⟩
    ·refine WL.skips 2 rfl ?_
     refine WL.qn (y_pick_f rfl rfl) rfl ?_
     exact WL.nil ⟨rfl, [_, _, _], rfl, rfl, rfl⟩
    refine WL.as rfl rfl ?_
    refine WL.ns ?_
    refine wc_ret ?_
    refine we_blk_ret ?_
    refine we_seq_ret ?_
    obtain rfl := Option.some.inj h
    exact we_ret_fn (rs1 rfl (rv_t rfl)) (Le.refl _)
   ·replace h := condF h hc3
    refine wc_sr ?_
    refine WL.qn (y_eql rfl rfl) rfl ?_
    refine WL.as rfl rfl ?_
    refine WL.ns ?_
    refine wc_cond rfl (fun hc4 => ?_) (fun hc4 => ?_)
    ·replace h := condT h hc4
     refine wc_sr ?_
     refine WL.as rfl rfl ?_
     refine WL.ns ?_
     refine wc_ret ?_
     refine we_blk_ret ?_
     refine we_seq_ret ?_
     obtain rfl := Option.some.inj h
     exact we_ret_fn (rs1 rfl (rv_t rfl)) (Le.refl _)
    ·replace h := condF h hc4
     refine wc_skip ?_
     refine we_blk ?_
     refine we_seq ?_
     refine wc_sr ?_
     refine WL.as rfl rfl ?_
     refine WL.ns ?_
     refine wc_ret ?_
     obtain rfl := Option.some.inj h
     exact we_ret_fn (rs1 rfl (rv_t rfl)) (Le.refl _)

theorem f63_c (t0 : Table) (sub1 : Int) {r : Bool} (h : f63 t0 sub1 = some r) : Pu Tryd.prog 63 [.ag (R28 t0), .i .i64 sub1] (.b r) := by
 unfold f63 at h
 refine fn_intro Tryd.func63 (by kernel_rfl) rfl rfl rfl (fun φφ ww => ?_)
 refine wc_sr ?_
 refine WL.s ((b_boxd rfl rfl (Les.refl _)).does) (Wt.none rfl) rfl rfl ?_
 refine WL.as rfl rfl ?_
 refine WL.ns ?_
 refine wc_seq ?_
 refine wc_region_draw (by kernel_rfl) (by kernel_rfl) ?_
 refine WQ.qn (y_loadcN rfl a28 s28 rfl) rfl ?_
 refine WQ.qn (y_move rfl) rfl ?_
 obtain ⟨r41, hr41, h⟩ := bindS h
 refine WQ.q (YieldsQ.fn rfl rfl rfl rfl rfl (f44_c _ _ hr41) ⟨(Le.refl _), (Le.refl _), trivial⟩) (Wt.none rfl) rfl rfl ?_
 refine WQ.qn (y_eql rfl rfl) rfl ?_
 refine WQ.qn (y_move rfl) rfl ?_
 obtain ⟨b42, hb42, h⟩ := bindS h
 apply WQ.grp 13 (t := 9) (d := 22) (z := b42)
 ·exact rfl
 ·intro hg9
  have h := condT hb42 hg9
  refine WQ.qy (y_fieldAddrc f28_0 rfl) rfl rfl rfl ?_
  refine WQ.qy (y_loadc rfl a22 rfl) rfl rfl rfl ?_
  refine WQ.qy (y_fieldAddrc f28_1 rfl) rfl rfl rfl ?_
  refine WQ.qy (y_loadc rfl a23 rfl) rfl rfl rfl ?_
  refine WQ.qy (y_move rfl) rfl rfl rfl ?_
  obtain ⟨x43, hx43, h⟩ := bindS h
  refine WQ.qy (y_indexAddr e23 rfl (Le.refl _) rfl (idx_nonneg hx43) (idx_row E40_eq hx43) rfl) rfl rfl rfl ?_
  refine WQ.qy (y_fieldAddrc f40_0 rfl) rfl rfl rfl ?_
  refine WQ.qy (y_loadc rfl a3 rfl) rfl rfl rfl ?_
  obtain ⟨x44, hx44, h⟩ := bindS h
  refine WQ.qy (y_indexAddr e22 rfl (Le.refl _) rfl (idx_nonneg hx44) (idx_row E54_eq hx44) rfl) rfl rfl rfl ?_
  refine WQ.qy (y_fieldAddrc f54_7 rfl) rfl rfl rfl ?_
  refine WQ.qy (y_loadc rfl a3 rfl) rfl rfl rfl ?_
  refine WQ.qy (y_neq rfl rfl) rfl rfl rfl ?_
  refine WQ.qn (y_pick_t rfl rfl) rfl ?_
  obtain rfl := Option.some.inj h
  exact WQ.nil ⟨[_, _, _, _, _, _, _, _, _, _, _, _, _], rfl, rfl, rfl⟩
 ·intro hg9
  have h := condF hb42 hg9
  refine WQ.skips 12 rfl ?_
  refine WQ.qn (y_pick_f rfl rfl) rfl ?_
  obtain rfl := Option.some.inj h
  exact WQ.nil ⟨[_, _, _, _, _, _, _, _, _, _, _, _, _], rfl, rfl, rfl⟩
 refine WQ.qn (y_move rfl) rfl ?_
 obtain ⟨b45, hb45, h⟩ := bindS h
 apply WQ.grp 14 (t := 23) (d := 37) (z := b45)
 ·exact rfl
 ·intro hg23
  have h := condT hb45 hg23
  refine WQ.qy (y_fieldAddrc f28_1 rfl) rfl rfl rfl ?_
  refine WQ.qy (y_loadc rfl a23 rfl) rfl rfl rfl ?_
  refine WQ.qy (y_move rfl) rfl rfl rfl ?_
  obtain ⟨x46, hx46, h⟩ := bindS h
  refine WQ.qy (y_indexAddr e23 rfl (Le.refl _) rfl (idx_nonneg hx46) (idx_row E40_eq hx46) rfl) rfl rfl rfl ?_
  refine WQ.qy (y_fieldAddrc f40_1 rfl) rfl rfl rfl ?_
  refine WQ.qy (y_loadc rfl a2 rfl) rfl rfl rfl ?_
  refine WQ.qy (y_fieldAddrc f28_1 rfl) rfl rfl rfl ?_
  refine WQ.qy (y_loadc rfl a23 rfl) rfl rfl rfl ?_
  refine WQ.qy (y_move rfl) rfl rfl rfl ?_
  obtain ⟨x47, hx47, h⟩ := bindS h
  refine WQ.qy (y_indexAddr e23 rfl (Le.refl _) rfl (idx_nonneg hx47) (idx_row E40_eq hx47) rfl) rfl rfl rfl ?_
  refine WQ.qy (y_fieldAddrc f40_2 rfl) rfl rfl rfl ?_
  refine WQ.qy (y_loadc rfl a2 rfl) rfl rfl rfl ?_
  refine WQ.qy (y_eql rfl rfl) rfl rfl rfl ?_
  refine WQ.qn (y_pick_t rfl rfl) rfl ?_
  obtain rfl := Option.some.inj h
  exact WQ.nil ⟨[_, _, _, _, _, _, _, _, _, _, _, _, _, _], rfl, rfl, rfl⟩
 ·intro hg23
  have h := condF hb45 hg23
  refine WQ.skips 13 rfl ?_
  refine WQ.qn (y_pick_f rfl rfl) rfl ?_
  obtain rfl := Option.some.inj h
  exact WQ.nil ⟨[_, _, _, _, _, _, _, _, _, _, _, _, _, _], rfl, rfl, rfl⟩
 refine WQ.qn (y_assign rfl) rfl ?_
 refine WQ.nil ?_
 refine we_seq ?_
 refine wc_ret ?_
 obtain rfl := Option.some.inj h
 exact we_ret_fn (rs1 rfl (rv_t rfl)) (Le.refl _)

theorem f32_c (t0 : Table) (sub1 : Int) (v2 : List Int) {r : Bool} (h : f32 t0 sub1 v2 = some r) : Pu Tryd.prog 32 [.ag (R28 t0), .i .i64 sub1, .sl (List.map E2 v2)] (.b r) := by
 unfold f32 at h
 refine fn_intro Tryd.func32 (by kernel_rfl) rfl rfl rfl (fun φφ ww => ?_)
 refine wc_sr ?_
 refine WL.s ((b_boxd rfl rfl (Les.refl _)).does) (Wt.none rfl) rfl rfl ?_
 refine WL.as rfl rfl ?_
 refine WL.ns ?_
 refine wc_sr ?_
 refine WL.qn (y_loadcN rfl a28 s28 rfl) rfl ?_
 refine WL.mv rfl rfl ?_
 obtain ⟨r59, hr59, h⟩ := bindS h
 refine WL.fn rfl rfl rfl rfl (f59_c _ _ hr59) ⟨(Le.refl _), (Le.refl _), trivial⟩ (Wt.none rfl) rfl rfl ?_
 refine WL.as rfl rfl ?_
 refine WL.ns ?_
 refine wc_seq ?_
 refine wc_sr ?_
 refine WL.mv rfl rfl ?_
 refine WL.qn (y_len_map E3 r59 e82 rfl rfl (Le.refl _)) rfl ?_
 refine WL.mv rfl rfl ?_
 refine WL.qn (y_len_map E2 v2 e41 rfl rfl (Le.refl _)) rfl ?_
 refine WL.qn (y_neq rfl rfl) rfl ?_
 refine WL.mv rfl rfl ?_
 apply WL.or 4 (t := 17) (d := 21)
 ·exact rfl
 ·intro hg17
  refine WL.qy (y_move rfl) rfl rfl rfl ?_
  refine WL.qy (y_len_map E3 r59 e82 rfl rfl (Le.refl _)) rfl rfl rfl ?_
  refine WL.qy (y_eql rfl rfl) rfl rfl rfl ?_
  refine WL.qn (y_pick_f rfl rfl) rfl ?_
  exact WL.nil ⟨rfl, [_, _, _, _], rfl, rfl, rfl⟩
 ·refine WL.skips 3 rfl ?_
  refine WL.qn (y_pick_t rfl rfl) rfl ?_
  exact WL.nil ⟨rfl, [_, _, _, _], rfl, rfl, rfl⟩
 refine WL.ns ?_
 refine wc_cond rfl (fun hc1 => ?_) (fun hc1 => ?_)
 ·replace h := condT h hc1
  refine wc_sr ?_
  refine WL.as rfl rfl ?_
  refine WL.ns ?_
  refine wc_ret ?_
  refine we_seq_ret ?_
  obtain rfl := Option.some.inj h
  exact we_ret_fn (rs1 rfl (rv_t rfl)) (Le.refl _)
 ·replace h := condF h hc1
  refine wc_skip ?_
  refine we_seq ?_
  replace h := letkS h
  obtain ⟨k60, hk60, h⟩ := h
  refine wc_cut (fun env' st' => k60 () = some r ∧ Sub [(1, .d (D.i .i64 sub1)), (2, .d (.sl (List.map E2 v2))), (3, .d (.pc (R28 t0)))] env' ∧ SLe st' []) ?_ ?_
  ·refine wc_sr ?_
   refine WL.as rfl rfl ?_
   refine WL.ns ?_
   refine wc_block ?_
   refine wc_loop (fun n env' st' => ∃ (iq62 : Int), f32_l1 t0 v2 r59 k60 n iq62 = some r ∧ Sub [(1, .d (D.i .i64 sub1)), (2, .d (.sl (List.map E2 v2))), (3, .d (.pc (R28 t0))), (7, .d (.sl (List.map E3 r59))), (8, .d (D.i .i64 iq62))] env' ∧ SLe st' []) (fun n => n) 9223372036854775808 ⟨0, h, (Sub.cons rfl (Le.refl _) (Sub.cons rfl (Le.refl _) (Sub.cons rfl (Le.refl _) (Sub.cons rfl (Le.refl _) (Sub.cons rfl (Le.refl _) (Sub.nil _)))))), trivial⟩ ?_
   rintro n env1 st1 ⟨iq62, h, hsub, hst⟩
   cases n with
   | zero => rw [f32_l1] at h; cases h
   | succ n =>
   rw [f32_l1] at h
   refine WC.sub hsub (WC.weak hst ?_)
   refine wc_seq ?_
   refine wc_sr ?_
   refine WL.mv rfl rfl ?_
   refine WL.mv rfl rfl ?_
   refine WL.qn (y_len_map E3 r59 e82 rfl rfl (Le.refl _)) rfl ?_
   refine WL.qn (y_lss rfl rfl) rfl ?_
   refine WL.ns ?_
   refine wc_cond rfl (fun hc2 => ?_) (fun hc2 => ?_)
   ·replace h := condT h hc2
    refine wc_skip ?_
    refine we_seq ?_
    refine wc_seq ?_
    refine wc_block ?_
    refine wc_seq ?_
    refine wc_region_draw (by kernel_rfl) (by kernel_rfl) ?_
    refine WQ.qn (y_loadcN rfl a28 s28 rfl) rfl ?_
    refine WQ.qn (y_move rfl) rfl ?_
    refine WQ.qn (y_move rfl) rfl ?_
    obtain ⟨x64, hx64, h⟩ := bindS h
    refine WQ.qn (y_indexAddr e82 rfl (Le.refl _) rfl (idx_nonneg hx64) (idx_row E3_eq hx64) rfl) rfl ?_
    refine WQ.qn (y_loadc rfl a3 rfl) rfl ?_
    refine WQ.qn (y_move rfl) rfl ?_
    refine WQ.qn (y_move rfl) rfl ?_
    obtain ⟨x65, hx65, h⟩ := bindS h
    refine WQ.qn (y_indexAddr e41 rfl (Le.refl _) rfl (idx_nonneg hx65) (idx_row E2_eq hx65) rfl) rfl ?_
    refine WQ.qn (y_loadc rfl a2 rfl) rfl ?_
    obtain ⟨r66, hr66, h⟩ := bindS h
    refine WQ.q (YieldsQ.fn rfl rfl rfl rfl rfl (f62_c _ _ _ hr66) ⟨(Le.refl _), (Le.refl _), (Le.refl _), trivial⟩) (Wt.none rfl) rfl rfl ?_
    refine WQ.qn (y_not rfl) rfl ?_
    refine WQ.nil ?_
    refine we_seq ?_
    refine wc_cond rfl (fun hc3 => ?_) (fun hc3 => ?_)
    ·replace h := condT h hc3
     refine wc_sr ?_
     refine WL.as rfl rfl ?_
     refine WL.ns ?_
     refine wc_ret ?_
     refine we_blk_ret ?_
     refine we_seq_ret ?_
     refine we_lp_ret ?_
     refine we_blk_ret ?_
     refine we_lp_ret ?_
     obtain rfl := Option.some.inj h
     exact we_ret_fn (rs1 rfl (rv_t rfl)) (Le.refl _)
    ·replace h := condF h hc3
     refine wc_skip ?_
     refine we_blk ?_
     refine we_seq ?_
     refine wc_region ?_
     refine WL.mv rfl rfl ?_
     refine WL.qn (y_add rfl rfl rfl) rfl ?_
     refine WL.as rfl rfl ?_
     refine WL.nil ?_
     exact we_lp ⟨n, ⟨(IntKind.i64.wrap (iq62 + 1)), h, (Sub.cons rfl (Le.refl _) (Sub.cons rfl (Le.refl _) (Sub.cons rfl (Le.refl _) (Sub.cons rfl (Le.refl _) (Sub.cons rfl (Le.refl _) (Sub.nil _)))))), trivial⟩, Nat.lt_succ_self n⟩
   ·replace h := condF h hc2
    refine wc_exit ?_
    refine we_seq_exit ?_
    refine we_lp_exit ?_
    refine we_blk_hit ?_
    exact we_lp ⟨h, (Sub.cons rfl (Le.refl _) (Sub.cons rfl (Le.refl _) (Sub.cons rfl (Le.refl _) (Sub.nil _)))), trivial⟩
  ·rintro env1 st1 ⟨h, hsub, hst⟩
   subst hk60
   dsimp only at h
   refine WC.sub hsub (WC.weak hst ?_)
   refine wc_seq ?_
   refine wc_region_draw (by kernel_rfl) (by kernel_rfl) ?_
   refine WQ.qn (y_loadcN rfl a28 s28 rfl) rfl ?_
   refine WQ.qn (y_move rfl) rfl ?_
   obtain ⟨r67, hr67, h⟩ := bindS h
   refine WQ.q (YieldsQ.fn rfl rfl rfl rfl rfl (f63_c _ _ hr67) ⟨(Le.refl _), (Le.refl _), trivial⟩) (Wt.none rfl) rfl rfl ?_
   refine WQ.qn (y_not rfl) rfl ?_
   refine WQ.qn (y_move rfl) rfl ?_
   obtain ⟨b68, hb68, h⟩ := bindS h
   apply WQ.grp 11 (t := 43) (d := 54) (z := b68)
   ·exact rfl
   ·intro hg43
    have h := condT hb68 hg43
    refine WQ.skips 10 rfl ?_
    refine WQ.qn (y_pick_t rfl rfl) rfl ?_
    obtain rfl := Option.some.inj h
    exact WQ.nil ⟨[_, _, _, _, _, _, _, _, _, _, _], rfl, rfl, rfl⟩
   ·intro hg43
    have h := condF hb68 hg43
    refine WQ.qy (y_move rfl) rfl rfl rfl ?_
    obtain ⟨x69, hx69, h⟩ := bindS h
    refine WQ.qy (y_indexAddr e41 rfl (Le.refl _) rfl (idx_nonneg hx69) (idx_row E2_eq hx69) rfl) rfl rfl rfl ?_
    refine WQ.qy (y_loadc rfl a2 rfl) rfl rfl rfl ?_
    refine WQ.qy (y_fieldAddrc f28_1 rfl) rfl rfl rfl ?_
    refine WQ.qy (y_loadc rfl a23 rfl) rfl rfl rfl ?_
    refine WQ.qy (y_move rfl) rfl rfl rfl ?_
    obtain ⟨x70, hx70, h⟩ := bindS h
    refine WQ.qy (y_indexAddr e23 rfl (Le.refl _) rfl (idx_nonneg hx70) (idx_row E40_eq hx70) rfl) rfl rfl rfl ?_
    refine WQ.qy (y_fieldAddrc f40_1 rfl) rfl rfl rfl ?_
    refine WQ.qy (y_loadc rfl a2 rfl) rfl rfl rfl ?_
    refine WQ.qy (y_eql rfl rfl) rfl rfl rfl ?_
    refine WQ.qn (y_pick_f rfl rfl) rfl ?_
    obtain rfl := Option.some.inj h
    exact WQ.nil ⟨[_, _, _, _, _, _, _, _, _, _, _], rfl, rfl, rfl⟩
   refine WQ.qn (y_assign rfl) rfl ?_
   refine WQ.nil ?_
   refine we_seq ?_
   refine wc_ret ?_
   obtain rfl := Option.some.inj h
   exact we_ret_fn (rs1 rfl (rv_t rfl)) (Le.refl _)

theorem f65_c (t0 : Table) (sub1 : Int) {r : Int × Bool} (h : f65 t0 sub1 = some r) : Pu Tryd.prog 65 [.ag (R28 t0), .i .i64 sub1] (.tu [.i .i64 r.1, .b r.2]) := by
 unfold f65 at h
 refine fn_intro Tryd.func65 (by kernel_rfl) rfl rfl rfl (fun φφ ww => ?_)
 refine wc_sr ?_
 refine WL.s ((b_boxd rfl rfl (Les.refl _)).does) (Wt.none rfl) rfl rfl ?_
 refine WL.as rfl rfl ?_
 refine WL.as rfl rfl ?_
 refine WL.ns ?_
 refine wc_sr ?_
 refine WL.qn (y_loadcN rfl a28 s28 rfl) rfl ?_
 refine WL.mv rfl rfl ?_
 obtain ⟨r41, hr41, h⟩ := bindS h
 refine WL.fn rfl rfl rfl rfl (f26_c _ _ hr41) ⟨(Le.refl _), (Le.refl _), trivial⟩ (Wt.none rfl) rfl rfl ?_
 refine WL.mv rfl rfl ?_
 refine WL.qn (y_extractd rfl rfl) rfl ?_
 refine WL.qn (y_extractd rfl rfl) rfl ?_
 refine WL.qn (y_extractd rfl rfl) rfl ?_
 refine WL.as rfl rfl ?_
 refine WL.as rfl rfl ?_
 refine WL.as rfl rfl ?_
 refine WL.ns ?_
 refine wc_seq ?_
 refine wc_sr ?_
 refine WL.mv rfl rfl ?_
 refine WL.qn (y_not rfl) rfl ?_
 refine WL.ns ?_
 refine wc_cond rfl (fun hc1 => ?_) (fun hc1 => ?_)
 ·replace h := condT h hc1
  refine wc_sr ?_
  refine WL.qn (y_loadcN rfl a28 s28 rfl) rfl ?_
  refine WL.mv rfl rfl ?_
  obtain ⟨r42, hr42, h⟩ := bindS h
  refine WL.fn rfl rfl rfl rfl (f44_c _ _ hr42) ⟨(Le.refl _), (Le.refl _), trivial⟩ (Wt.none rfl) rfl rfl ?_
  refine WL.qn (y_eql rfl rfl) rfl ?_
  refine WL.mv rfl rfl ?_
  obtain ⟨b43, hb43, h⟩ := bindS h
  apply WL.grp 5 (t := 22) (d := 27) (z := b43)
  ·exact rfl
  ·intro hg22
   have h := condT hb43 hg22
   refine WL.skips 4 rfl ?_
   refine WL.qn (y_pick_t rfl rfl) rfl ?_
   obtain rfl := Option.some.inj h
   exact WL.nil ⟨rfl, [_, _, _, _, _], rfl, rfl, rfl⟩
  ·intro hg22
   have h := condF hb43 hg22
   refine WL.qy (y_loadcN rfl a28 s28 rfl) rfl rfl rfl ?_
   refine WL.qy (y_move rfl) rfl rfl rfl ?_
   obtain ⟨r44, hr44, h⟩ := bindS h
   refine WL.fn rfl rfl rfl rfl (f44_c _ _ hr44) ⟨(Le.refl _), (Le.refl _), trivial⟩ (Wt.yes rfl rfl rfl) rfl rfl ?_
   refine WL.qy (y_eql rfl rfl) rfl rfl rfl ?_
   refine WL.qn (y_pick_f rfl rfl) rfl ?_
   obtain rfl := Option.some.inj h
   exact WL.nil ⟨rfl, [_, _, _, _, _], rfl, rfl, rfl⟩
  refine WL.as rfl rfl ?_
  refine WL.as rfl rfl ?_
  refine WL.ns ?_
  refine wc_ret ?_
  refine we_seq_ret ?_
  obtain rfl := Option.some.inj h
  exact we_ret_fn (rs2 rfl (rv_t rfl) (rv_t rfl)) (Le.tud ⟨(Le.refl _), (Le.refl _), trivial⟩)
 ·replace h := condF h hc1
  refine wc_skip ?_
  refine we_seq ?_
  refine wc_seq ?_
  refine wc_sr ?_
  refine WL.mv rfl rfl ?_
  refine WL.mv rfl rfl ?_
  refine WL.qn (y_gtr rfl rfl) rfl ?_
  refine WL.ns ?_
  refine wc_cond rfl (fun hc2 => ?_) (fun hc2 => ?_)
  ·replace h := condT h hc2
   refine wc_sr ?_
   refine WL.as rfl rfl ?_
   refine WL.as rfl rfl ?_
   refine WL.ns ?_
   refine wc_ret ?_
   refine we_seq_ret ?_
   obtain rfl := Option.some.inj h
   exact we_ret_fn (rs2 rfl (rv_t rfl) (rv_t rfl)) (Le.tud ⟨(Le.refl _), (Le.refl _), trivial⟩)
  ·replace h := condF h hc2
   refine wc_skip ?_
   refine we_seq ?_
   refine wc_seq ?_
   refine wc_sr ?_
   refine WL.mv rfl rfl ?_
   refine WL.qn (y_leq rfl rfl) rfl ?_
   refine WL.mv rfl rfl ?_
   apply WL.and 3 (t := 33) (d := 36)
   ·exact rfl
   ·intro hg33
    refine WL.qy (y_move rfl) rfl rfl rfl ?_
    refine WL.qy (y_geq rfl rfl) rfl rfl rfl ?_
    refine WL.qn (y_pick_t rfl rfl) rfl ?_
    exact WL.nil ⟨rfl, [_, _, _], rfl, rfl, rfl⟩
   ·refine WL.skips 2 rfl ?_
    refine WL.qn (y_pick_f rfl rfl) rfl ?_
    exact WL.nil ⟨rfl, [_, _, _], rfl, rfl, rfl⟩
   refine WL.ns ?_
   refine wc_cond rfl (fun hc3 => ?_) (fun hc3 => ?_)
   ·replace h := condT h hc3
    refine wc_sr ?_
    refine WL.as rfl rfl ?_
    refine WL.as rfl rfl ?_
    refine WL.ns ?_
    refine wc_ret ?_
    refine we_seq_ret ?_
    obtain rfl := Option.some.inj h
    exact we_ret_fn (rs2 rfl (rv_t rfl) (rv_t rfl)) (Le.tud ⟨(Le.refl _), (Le.refl _), trivial⟩)
   ·replace h := condF h hc3
    refine wc_skip ?_
    refine we_seq ?_
    refine wc_sr ?_
    refine WL.mv rfl rfl ?_
    refine WL.as rfl rfl ?_
    refine WL.as rfl rfl ?_
    refine WL.ns ?_
    refine wc_ret ?_
    obtain rfl := Option.some.inj h
    exact we_ret_fn (rs2 rfl (rv_t rfl) (rv_t rfl)) (Le.tud ⟨(Le.refl _), (Le.refl _), trivial⟩)

theorem f35_c (t0 : Table) (sub1 : Int) {r : List Int} (h : f35 t0 sub1 = some r) : Pu Tryd.prog 35 [.ag (R28 t0), .i .i64 sub1] (.sl (List.map E2 r)) := by
 unfold f35 at h
 refine fn_intro Tryd.func35 (by kernel_rfl) rfl rfl rfl (fun φφ ww => ?_)
 refine wc_sr ?_
 refine WL.s ((b_boxd rfl rfl (Les.refl _)).does) (Wt.none rfl) rfl rfl ?_
 refine WL.as rfl rfl ?_
 refine WL.ns ?_
 refine wc_sr ?_
 refine WL.qn (y_loadcN rfl a28 s28 rfl) rfl ?_
 refine WL.mv rfl rfl ?_
 obtain ⟨r100, hr100, h⟩ := bindS h
 refine WL.fn rfl rfl rfl rfl (f59_c _ _ hr100) ⟨(Le.refl _), (Le.refl _), trivial⟩ (Wt.none rfl) rfl rfl ?_
 refine WL.as rfl rfl ?_
 refine WL.ns ?_
 refine wc_sr ?_
 refine WL.as rfl rfl ?_
 refine WL.nil_os 6 2 1 rfl ?_
 refine WL.ns ?_
 replace h := letkS h
 obtain ⟨k103, hk103, h⟩ := h
 refine wc_cut (fun env' st' => ∃ (l101 : List Int), ∃ (ver102 : Nat), k103 l101 = some r ∧ Sub [(1, .d (D.i .i64 sub1)), (2, .d (.pc (R28 t0))), (6, .os 0 ver102)] env' ∧ SLe st' [.os 2 1 ver102 (List.map (encA E2) l101)]) ?_ ?_
 ·refine wc_sr ?_
  refine WL.as rfl rfl ?_
  refine WL.ns ?_
  refine wc_block ?_
  refine wc_loop (fun n env' st' => ∃ (iq107 : Int), ∃ (l108 : List Int), ∃ (ver109 : Nat), f35_l1 t0 r100 k103 n iq107 l108 = some r ∧ Sub [(1, .d (D.i .i64 sub1)), (2, .d (.pc (R28 t0))), (5, .d (.sl (List.map E3 r100))), (6, .os 0 ver109), (7, .d (D.i .i64 iq107))] env' ∧ SLe st' [.os 2 1 ver109 (List.map (encA E2) l108)]) (fun n => n) 9223372036854775808 ⟨0, [], _, h, (Sub.cons rfl (Le.refl _) (Sub.cons rfl (Le.refl _) (Sub.cons rfl (Le.refl _) (Sub.cons rfl (Le.refl _) (Sub.cons rfl (Le.refl _) (Sub.nil _)))))), ⟨⟨rfl, rfl, rfl, rfl⟩, trivial⟩⟩ ?_
  rintro n env1 st1 ⟨iq107, l108, ver109, h, hsub, hst⟩
  cases n with
  | zero => rw [f35_l1] at h; cases h
  | succ n =>
  rw [f35_l1] at h
  refine WC.sub hsub (WC.weak hst ?_)
  refine wc_seq ?_
  refine wc_sr ?_
  refine WL.mv rfl rfl ?_
  refine WL.mv rfl rfl ?_
  refine WL.qn (y_len_map E3 r100 e82 rfl rfl (Le.refl _)) rfl ?_
  refine WL.qn (y_lss rfl rfl) rfl ?_
  refine WL.ns ?_
  refine wc_cond rfl (fun hc1 => ?_) (fun hc1 => ?_)
  ·replace h := condT h hc1
   refine wc_skip ?_
   refine we_seq ?_
   refine wc_seq ?_
   refine wc_block ?_
   refine wc_seq ?_
   refine wc_region_draw (by kernel_rfl) (by kernel_rfl) ?_
   refine WQ.qn (y_loadcN rfl a28 s28 rfl) rfl ?_
   refine WQ.qn (y_move rfl) rfl ?_
   refine WQ.qn (y_move rfl) rfl ?_
   obtain ⟨x113, hx113, h⟩ := bindS h
   refine WQ.qn (y_indexAddr e82 rfl (Le.refl _) rfl (idx_nonneg hx113) (idx_row E3_eq hx113) rfl) rfl ?_
   refine WQ.qn (y_loadc rfl a3 rfl) rfl ?_
   obtain ⟨r114, hr114, h⟩ := bindS h
   refine WQ.q (YieldsQ.fn rfl rfl rfl rfl rfl (f65_c _ _ hr114) ⟨(Le.refl _), (Le.refl _), trivial⟩) (Wt.none rfl) rfl rfl ?_
   refine WQ.qn (y_move rfl) rfl ?_
   refine WQ.qn (y_extractd rfl rfl) rfl ?_
   refine WQ.qn (y_extractd rfl rfl) rfl ?_
   refine WQ.qn (y_assign rfl) rfl ?_
   refine WQ.qn (y_assign rfl) rfl ?_
   refine WQ.nil ?_
   refine we_seq ?_
   refine wc_seq ?_
   refine wc_sr ?_
   refine WL.mv rfl rfl ?_
   refine WL.qn (y_not rfl) rfl ?_
   refine WL.ns ?_
   refine wc_cond rfl (fun hc2 => ?_) (fun hc2 => ?_)
   ·replace h := condT h hc2
    refine wc_sr ?_
    refine WL.as rfl rfl ?_
    refine WL.ns ?_
    refine wc_ret ?_
    refine we_seq_ret ?_
    refine we_blk_ret ?_
    refine we_seq_ret ?_
    refine we_lp_ret ?_
    refine we_blk_ret ?_
    refine we_lp_ret ?_
    obtain rfl := Option.some.inj h
    exact we_ret_fn (rs1 rfl (rv_t rfl)) Le.nil
   ·replace h := condF h hc2
    refine wc_skip ?_
    refine we_seq ?_
    refine wc_region ?_
    refine WL.mv rfl rfl ?_
    refine WL.mv rfl rfl ?_
    refine WL.s ((NewOs.b (n_buildSlice l41 z2 rfl (by decide) (by decide) rfl rfl rfl (by decide))).does) (Wt.none rfl) rfl rfl ?_
    replace h := guardBS h
    obtain ⟨hgg115, h⟩ := h
    refine WL.s (d_appendL E2 l108 [r114.1] l41 z2 rfl (by decide) rfl rfl rfl rfl (Src.own rfl) (fun _ => rfl) (fun _ => rfl) hgg115) (Wt.none rfl) rfl rfl ?_
    refine WL.as rfl rfl ?_
    refine WL.nil ?_
    refine we_blk ?_
    refine we_seq ?_
    refine wc_region ?_
    refine WL.mv rfl rfl ?_
    refine WL.qn (y_add rfl rfl rfl) rfl ?_
    refine WL.as rfl rfl ?_
    refine WL.nil ?_
    refine WE.drop 1 (env' := [(1, .d (D.i .i64 sub1)), (2, .d (.pc (R28 t0))), (5, .d (.sl (List.map E3 r100))), (6, .os 0 (ver109 + 1)), (7, .d (D.i .i64 (IntKind.i64.wrap (iq107 + 1))))]) (Sub.one rfl (Sub.one rfl (Sub.one rfl (Sub.one rfl (Sub.one rfl (Sub.nil _)))))) rfl (stLt_cons (lt_os _ _ _ _ _ _) rfl) (Nat.zero_le _) ?_
    exact we_lp ⟨n, ⟨(IntKind.i64.wrap (iq107 + 1)), (l108 ++ [r114.1]), _, h, (Sub.cons rfl (Le.refl _) (Sub.cons rfl (Le.refl _) (Sub.cons rfl (Le.refl _) (Sub.cons rfl (Le.refl _) (Sub.cons rfl (Le.refl _) (Sub.nil _)))))), ⟨⟨rfl, rfl, rfl, rfl⟩, trivial⟩⟩, Nat.lt_succ_self n⟩
  ·replace h := condF h hc1
   refine wc_exit ?_
   refine we_seq_exit ?_
   refine we_lp_exit ?_
   refine we_blk_hit ?_
   exact we_lp ⟨l108, _, h, (Sub.cons rfl (Le.refl _) (Sub.cons rfl (Le.refl _) (Sub.cons rfl (Le.refl _) (Sub.nil _)))), ⟨⟨rfl, rfl, rfl, rfl⟩, trivial⟩⟩
 ·rintro env1 st1 ⟨l101, ver102, h, hsub, hst⟩
  subst hk103
  dsimp only at h
  refine WC.sub hsub (WC.weak hst ?_)
  refine wc_seq ?_
  refine wc_sr ?_
  refine WL.qn (y_loadcN rfl a28 s28 rfl) rfl ?_
  refine WL.mv rfl rfl ?_
  obtain ⟨r116, hr116, h⟩ := bindS h
  refine WL.fn rfl rfl rfl rfl (f44_c _ _ hr116) ⟨(Le.refl _), (Le.refl _), trivial⟩ (Wt.none rfl) rfl rfl ?_
  refine WL.qn (y_neq rfl rfl) rfl ?_
  refine WL.ns ?_
  refine wc_cond rfl (fun hc3 => ?_) (fun hc3 => ?_)
  ·replace h := condT h hc3
   refine wc_sr ?_
   refine WL.mv rfl rfl ?_
   refine WL.as rfl rfl ?_
   refine WL.ns ?_
   refine wc_ret ?_
   refine we_seq_ret ?_
   refine WE.freezeX [6, 41, 4] [] 0 (List.map E2 l101) rfl (encA_map E2_eq l101) ⟨rfl, rfl, rfl, trivial⟩ trivial ?_
   obtain rfl := Option.some.inj h
   exact we_ret_fn (rs1 rfl (rv_t rfl)) (Le.refl _)
  ·replace h := condF h hc3
   refine wc_skip ?_
   refine we_seq ?_
   refine wc_seq ?_
   obtain ⟨x117, hx117, h⟩ := bindS h
   obtain ⟨x118, hx118, h⟩ := bindS h
   apply wc_region_all [_, _, _, _, _, _, _, _, _, _, _, .u] [[], [0], [], [2], [], [2, 3, 4], [2, 3, 4, 5], [2, 3, 4, 5, 6], [0, 1, 2, 3, 4, 5, 6, 7], [0, 1, 2, 3, 4, 5, 6, 7, 8], [], [0, 1, 2, 3, 4, 5, 6, 7, 8, 9, 10]] [10, 11] (fun c => List.getD [[.os 2 1 ver102 (List.map (encA E2) l101)], [.os 2 1 ver102 (List.map (encA E2) l101), .row 54 [.d (D.i .u8 0), .d (D.s ByteArray.empty), .d (D.i .i64 0), .d (D.i .i64 0), .d (.v (.slice none 0 0)), .d (D.i .i64 0), .d (D.i .i64 0), .d (D.i .i64 0), .d (D.s ByteArray.empty), .d (D.b false), .d (D.i .i64 0), .d (.v (.slice none 0 0)), .d (D.i .i64 0), .d (D.i .u8 0), .d (D.b false), .d (D.i .i64 0), .d (D.i .i64 0), .d (D.i .i64 0)]], [.os 2 1 ver102 (List.map (encA E2) l101), .row 54 [.d (D.i .u8 x118.kind), .d (D.s x118.name), .d (D.i .i64 x118.parent), .d (D.i .i64 x118.first), .d (.sl (List.map E9 x118.lits)), .d (D.i .i64 x118.index), .d (D.i .i64 x118.elem), .d (D.i .i64 x118.disc), .d (D.s x118.discName), .d (D.b x118.has), .d (D.i .i64 x118.default_), .d (.sl (List.map E56 x118.comps)), .d (D.i .i64 x118.target), .d (D.i .u8 x118.formal), .d (D.b x118.limited), .d (D.i .i64 x118.priv), .d (D.i .i64 x118.full), .d (D.i .i64 x118.level)]]] c []) [([], [2], [0, 1]), ([0], [], [0, 1]), ([], [2], [0, 1]), ([2], [], [0, 1]), ([], [1], [0, 1]), ([3, 4], [], [0, 1]), ([5], [], [0, 1]), ([6], [], [0, 1]), ([1, 7], [], [0, 1]), ([8], [], [0, 1]), ([], [], [0]), ([10, 9], [], [1])] (by kernel_rfl) (by kernel_rfl) rfl rfl rfl
   ·refine ⟨?_, ?_, ?_, ?_, ?_, ?_, ?_, ?_, ?_, ?_, ?_, ?_, trivial⟩
    ·refine ⟨fun F => ?_, fun F => ?_, trivial⟩
     ·refine WL.qn (y_fieldAddrc f28_0 rfl) rfl ?_
      exact WL.done1 rfl rfl rfl
     ·refine WL.qn (y_fieldAddrc f28_0 rfl) rfl ?_
      exact WL.done1 rfl rfl rfl
    ·refine ⟨fun F => ?_, fun F => ?_, trivial⟩
     ·refine WL.qn (y_loadc rfl a22 rfl) rfl ?_
      exact WL.done1 rfl rfl rfl
     ·refine WL.qn (y_loadc rfl a22 rfl) rfl ?_
      exact WL.done1 rfl rfl rfl
    ·refine ⟨fun F => ?_, fun F => ?_, trivial⟩
     ·refine WL.qn (y_fieldAddrc f28_1 rfl) rfl ?_
      exact WL.done1 rfl rfl rfl
     ·refine WL.qn (y_fieldAddrc f28_1 rfl) rfl ?_
      exact WL.done1 rfl rfl rfl
    ·refine ⟨fun F => ?_, fun F => ?_, trivial⟩
     ·refine WL.qn (y_loadc rfl a23 rfl) rfl ?_
      exact WL.done1 rfl rfl rfl
     ·refine WL.qn (y_loadc rfl a23 rfl) rfl ?_
      exact WL.done1 rfl rfl rfl
    ·refine ⟨fun F => ?_, fun F => ?_, trivial⟩
     ·refine WL.mv rfl rfl ?_
      exact WL.done1 rfl rfl rfl
     ·refine WL.mv rfl rfl ?_
      exact WL.done1 rfl rfl rfl
    ·refine ⟨fun F => ?_, fun F => ?_, trivial⟩
     ·refine WL.qn (y_indexAddr e23 rfl (Le.refl _) rfl (idx_nonneg hx117) (idx_row E40_eq hx117) rfl) rfl ?_
      exact WL.done1 rfl rfl rfl
     ·refine WL.qn (y_indexAddr e23 rfl (Le.refl _) rfl (idx_nonneg hx117) (idx_row E40_eq hx117) rfl) rfl ?_
      exact WL.done1 rfl rfl rfl
    ·refine ⟨fun F => ?_, fun F => ?_, trivial⟩
     ·refine WL.qn (y_fieldAddrc f40_0 rfl) rfl ?_
      exact WL.done1 rfl rfl rfl
     ·refine WL.qn (y_fieldAddrc f40_0 rfl) rfl ?_
      exact WL.done1 rfl rfl rfl
    ·refine ⟨fun F => ?_, fun F => ?_, trivial⟩
     ·refine WL.qn (y_loadc rfl a3 rfl) rfl ?_
      exact WL.done1 rfl rfl rfl
     ·refine WL.qn (y_loadc rfl a3 rfl) rfl ?_
      exact WL.done1 rfl rfl rfl
    ·refine ⟨fun F => ?_, fun F => ?_, trivial⟩
     ·refine WL.qn (y_indexAddr e22 rfl (Le.refl _) rfl (idx_nonneg hx118) (idx_row E54_eq hx118) rfl) rfl ?_
      exact WL.done1 rfl rfl rfl
     ·refine WL.qn (y_indexAddr e22 rfl (Le.refl _) rfl (idx_nonneg hx118) (idx_row E54_eq hx118) rfl) rfl ?_
      exact WL.done1 rfl rfl rfl
    ·refine ⟨fun F => ?_, fun F => ?_, trivial⟩
     ·refine WL.qn (y_loadcN rfl a54 s54 rfl) rfl ?_
      exact WL.done1 rfl rfl rfl
     ·refine WL.qn (y_loadcN rfl a54 s54 rfl) rfl ?_
      exact WL.done1 rfl rfl rfl
    ·refine ⟨fun F => ?_, trivial⟩
     refine WL.s ((b_alloc z54).does) (Wt.none rfl) rfl rfl ?_
     exact WL.done1 rfl rfl rfl
    ·refine ⟨fun F => ?_, trivial⟩
     refine WL.s0 (d_store rfl rfl rfl rfl rfl rfl s54 rfl rfl) (Wt.none rfl) rfl ?_
     exact WL.done0 rfl rfl
   ·refine we_seq ?_
    refine wc_sr ?_
    refine WL.as rfl rfl ?_
    refine WL.ns ?_
    replace h := letkS h
    obtain ⟨k122, hk122, h⟩ := h
    refine wc_cut (fun env' st' => ∃ (first119 : Int), ∃ (l120 : List Int), ∃ (ver121 : Nat), k122 first119 l120 = some r ∧ Sub [(6, .os 0 ver121), (10, .pt 1 0), (11, .d (D.i .i64 first119))] env' ∧ SLe st' [.os 2 1 ver121 (List.map (encA E2) l120), .row 54 [.d (D.i .u8 x118.kind), .d (D.s x118.name), .d (D.i .i64 x118.parent), .d (D.i .i64 x118.first), .d (.sl (List.map E9 x118.lits)), .d (D.i .i64 x118.index), .d (D.i .i64 x118.elem), .d (D.i .i64 x118.disc), .d (D.s x118.discName), .d (D.b x118.has), .d (D.i .i64 x118.default_), .d (.sl (List.map E56 x118.comps)), .d (D.i .i64 x118.target), .d (D.i .u8 x118.formal), .d (D.b x118.limited), .d (D.i .i64 x118.priv), .d (D.i .i64 x118.full), .d (D.i .i64 x118.level)]]) ?_ ?_
    ·refine wc_sr ?_
     refine WL.qn (y_fieldAddr f54_7 rfl) rfl ?_
     refine WL.qn (y_load rfl rfl a3 rfl) rfl ?_
     refine WL.qn (y_neq rfl rfl) rfl ?_
     refine WL.ns ?_
     refine wc_cond rfl (fun hc4 => ?_) (fun hc4 => ?_)
     ·replace h := condT h hc4
      refine wc_sr ?_
      refine WL.as rfl rfl ?_
      refine WL.ns ?_
      refine wc_sr ?_
      refine WL.qn (y_loadcN rfl a28 s28 rfl) rfl ?_
      refine WL.mv rfl rfl ?_
      obtain ⟨r123, hr123, h⟩ := bindS h
      refine WL.fn rfl rfl rfl rfl (f63_c _ _ hr123) ⟨(Le.refl _), (Le.refl _), trivial⟩ (Wt.none rfl) rfl rfl ?_
      refine WL.ns ?_
      refine wc_cond rfl (fun hc5 => ?_) (fun hc5 => ?_)
      ·replace h := condT h hc5
       refine wc_region ?_
       refine WL.mv rfl rfl ?_
       refine WL.qn (y_fieldAddrc f28_1 rfl) rfl ?_
       refine WL.qn (y_loadc rfl a23 rfl) rfl ?_
       refine WL.mv rfl rfl ?_
       obtain ⟨x124, hx124, h⟩ := bindS h
       refine WL.qn (y_indexAddr e23 rfl (Le.refl _) rfl (idx_nonneg hx124) (idx_row E40_eq hx124) rfl) rfl ?_
       refine WL.qn (y_fieldAddrc f40_1 rfl) rfl ?_
       refine WL.qn (y_loadc rfl a2 rfl) rfl ?_
       obtain ⟨x125, hx125, h⟩ := bindS h
       refine WL.qn (y_pe e41 rfl rfl rfl hx125) rfl ?_
       refine WL.s0 (d_store_peL (R := E2) (k := 1) (i := 0) (fo := 0) x124.lo rfl rfl rfl rfl (Le.refl _) rfl rfl rfl s2 rfl (fun _ => rfl) hx125 rfl rfl) (Wt.none rfl) rfl ?_
       refine WL.st (st' := [.os 2 1 ver102 (List.map (encA E2) (List.set l101 (Int.toNat 0) x124.lo)), .row 54 [.d (D.i .u8 x118.kind), .d (D.s x118.name), .d (D.i .i64 x118.parent), .d (D.i .i64 x118.first), .d (.sl (List.map E9 x118.lits)), .d (D.i .i64 x118.index), .d (D.i .i64 x118.elem), .d (D.i .i64 x118.disc), .d (D.s x118.discName), .d (D.b x118.has), .d (D.i .i64 x118.default_), .d (.sl (List.map E56 x118.comps)), .d (D.i .i64 x118.target), .d (D.i .u8 x118.formal), .d (D.b x118.limited), .d (D.i .i64 x118.priv), .d (D.i .i64 x118.full), .d (D.i .i64 x118.level)]]) rfl ?_
       refine WL.nil ?_
       exact we_lp ⟨1, (List.set l101 (Int.toNat 0) x124.lo), _, h, (Sub.cons rfl (Le.refl _) (Sub.cons rfl (Le.refl _) (Sub.cons rfl (Le.refl _) (Sub.nil _)))), ⟨⟨rfl, rfl, rfl, rfl⟩, ⟨rfl, ⟨(Le.refl _), (Le.refl _), (Le.refl _), (Le.refl _), (Le.refl _), (Le.refl _), (Le.refl _), (Le.refl _), (Le.refl _), (Le.refl _), (Le.refl _), (Le.refl _), (Le.refl _), (Le.refl _), (Le.refl _), (Le.refl _), (Le.refl _), (Le.refl _), trivial⟩⟩, trivial⟩⟩
      ·replace h := condF h hc5
       refine wc_sr ?_
       refine WL.qn (y_fieldAddr f54_9 rfl) rfl ?_
       refine WL.qn (y_load rfl rfl a4 rfl) rfl ?_
       refine WL.ns ?_
       refine wc_cond rfl (fun hc6 => ?_) (fun hc6 => ?_)
       ·replace h := condT h hc6
        refine wc_region ?_
        refine WL.mv rfl rfl ?_
        refine WL.qn (y_fieldAddr f54_10 rfl) rfl ?_
        refine WL.qn (y_load rfl rfl a2 rfl) rfl ?_
        obtain ⟨x126, hx126, h⟩ := bindS h
        refine WL.qn (y_pe e41 rfl rfl rfl hx126) rfl ?_
        refine WL.s0 (d_store_peL (R := E2) (k := 1) (i := 0) (fo := 0) x118.default_ rfl rfl rfl rfl (Le.refl _) rfl rfl rfl s2 rfl (fun _ => rfl) hx126 rfl rfl) (Wt.none rfl) rfl ?_
        refine WL.st (st' := [.os 2 1 ver102 (List.map (encA E2) (List.set l101 (Int.toNat 0) x118.default_)), .row 54 [.d (D.i .u8 x118.kind), .d (D.s x118.name), .d (D.i .i64 x118.parent), .d (D.i .i64 x118.first), .d (.sl (List.map E9 x118.lits)), .d (D.i .i64 x118.index), .d (D.i .i64 x118.elem), .d (D.i .i64 x118.disc), .d (D.s x118.discName), .d (D.b x118.has), .d (D.i .i64 x118.default_), .d (.sl (List.map E56 x118.comps)), .d (D.i .i64 x118.target), .d (D.i .u8 x118.formal), .d (D.b x118.limited), .d (D.i .i64 x118.priv), .d (D.i .i64 x118.full), .d (D.i .i64 x118.level)]]) rfl ?_
        refine WL.nil ?_
        exact we_lp ⟨1, (List.set l101 (Int.toNat 0) x118.default_), _, h, (Sub.cons rfl (Le.refl _) (Sub.cons rfl (Le.refl _) (Sub.cons rfl (Le.refl _) (Sub.nil _)))), ⟨⟨rfl, rfl, rfl, rfl⟩, ⟨rfl, ⟨(Le.refl _), (Le.refl _), (Le.refl _), (Le.refl _), (Le.refl _), (Le.refl _), (Le.refl _), (Le.refl _), (Le.refl _), (Le.refl _), (Le.refl _), (Le.refl _), (Le.refl _), (Le.refl _), (Le.refl _), (Le.refl _), (Le.refl _), (Le.refl _), trivial⟩⟩, trivial⟩⟩
       ·replace h := condF h hc6
        refine wc_skip ?_
        exact we_lp ⟨1, l101, _, h, (Sub.cons rfl (Le.refl _) (Sub.cons rfl (Le.refl _) (Sub.cons rfl (Le.refl _) (Sub.nil _)))), ⟨⟨rfl, rfl, rfl, rfl⟩, ⟨rfl, ⟨(Le.refl _), (Le.refl _), (Le.refl _), (Le.refl _), (Le.refl _), (Le.refl _), (Le.refl _), (Le.refl _), (Le.refl _), (Le.refl _), (Le.refl _), (Le.refl _), (Le.refl _), (Le.refl _), (Le.refl _), (Le.refl _), (Le.refl _), (Le.refl _), trivial⟩⟩, trivial⟩⟩
     ·replace h := condF h hc4
      refine wc_skip ?_
      exact we_lp ⟨0, l101, _, h, (Sub.cons rfl (Le.refl _) (Sub.cons rfl (Le.refl _) (Sub.cons rfl (Le.refl _) (Sub.nil _)))), ⟨⟨rfl, rfl, rfl, rfl⟩, ⟨rfl, ⟨(Le.refl _), (Le.refl _), (Le.refl _), (Le.refl _), (Le.refl _), (Le.refl _), (Le.refl _), (Le.refl _), (Le.refl _), (Le.refl _), (Le.refl _), (Le.refl _), (Le.refl _), (Le.refl _), (Le.refl _), (Le.refl _), (Le.refl _), (Le.refl _), trivial⟩⟩, trivial⟩⟩
    ·rintro env1 st1 ⟨first119, l120, ver121, h, hsub, hst⟩
     subst hk122
     dsimp only at h
     refine WC.sub hsub (WC.weak hst ?_)
     replace h := letkS h
     obtain ⟨k129, hk129, h⟩ := h
     refine wc_cut (fun env' st' => ∃ (l127 : List Int), ∃ (ver128 : Nat), k129 l127 = some r ∧ Sub [(6, .os 0 ver128)] env' ∧ SLe st' [.os 2 1 ver128 (List.map (encA E2) l127), .row 54 [.d (D.i .u8 x118.kind), .d (D.s x118.name), .d (D.i .i64 x118.parent), .d (D.i .i64 x118.first), .d (.sl (List.map E9 x118.lits)), .d (D.i .i64 x118.index), .d (D.i .i64 x118.elem), .d (D.i .i64 x118.disc), .d (D.s x118.discName), .d (D.b x118.has), .d (D.i .i64 x118.default_), .d (.sl (List.map E56 x118.comps)), .d (D.i .i64 x118.target), .d (D.i .u8 x118.formal), .d (D.b x118.limited), .d (D.i .i64 x118.priv), .d (D.i .i64 x118.full), .d (D.i .i64 x118.level)]]) ?_ ?_
     ·refine wc_sr ?_
      refine WL.as rfl rfl ?_
      refine WL.ns ?_
      refine wc_block ?_
      refine wc_loop (fun n env' st' => ∃ (iq133 : Int), ∃ (l134 : List Int), ∃ (ver135 : Nat), f35_l2 x118 first119 k129 n iq133 l134 = some r ∧ Sub [(6, .os 0 ver135), (10, .pt 1 0), (11, .d (D.i .i64 first119)), (12, .d (D.i .i64 iq133))] env' ∧ SLe st' [.os 2 1 ver135 (List.map (encA E2) l134), .row 54 [.d (D.i .u8 x118.kind), .d (D.s x118.name), .d (D.i .i64 x118.parent), .d (D.i .i64 x118.first), .d (.sl (List.map E9 x118.lits)), .d (D.i .i64 x118.index), .d (D.i .i64 x118.elem), .d (D.i .i64 x118.disc), .d (D.s x118.discName), .d (D.b x118.has), .d (D.i .i64 x118.default_), .d (.sl (List.map E56 x118.comps)), .d (D.i .i64 x118.target), .d (D.i .u8 x118.formal), .d (D.b x118.limited), .d (D.i .i64 x118.priv), .d (D.i .i64 x118.full), .d (D.i .i64 x118.level)]]) (fun n => n) 9223372036854775808 ⟨0, l120, _, h, (Sub.cons rfl (Le.refl _) (Sub.cons rfl (Le.refl _) (Sub.cons rfl (Le.refl _) (Sub.cons rfl (Le.refl _) (Sub.nil _))))), ⟨⟨rfl, rfl, rfl, rfl⟩, ⟨rfl, ⟨(Le.refl _), (Le.refl _), (Le.refl _), (Le.refl _), (Le.refl _), (Le.refl _), (Le.refl _), (Le.refl _), (Le.refl _), (Le.refl _), (Le.refl _), (Le.refl _), (Le.refl _), (Le.refl _), (Le.refl _), (Le.refl _), (Le.refl _), (Le.refl _), trivial⟩⟩, trivial⟩⟩ ?_
      rintro n env1 st1 ⟨iq133, l134, ver135, h, hsub, hst⟩
      cases n with
      | zero => rw [f35_l2] at h; cases h
      | succ n =>
      rw [f35_l2] at h
      refine WC.sub hsub (WC.weak hst ?_)
      refine wc_seq ?_
      refine wc_sr ?_
      refine WL.mv rfl rfl ?_
      refine WL.qn (y_fieldAddr f54_11 rfl) rfl ?_
      refine WL.qn (y_load rfl rfl a51 rfl) rfl ?_
      refine WL.qn (y_len_map E56 x118.comps e51 rfl rfl (Le.refl _)) rfl ?_
      refine WL.qn (y_lss rfl rfl) rfl ?_
      refine WL.ns ?_
      refine wc_cond rfl (fun hc7 => ?_) (fun hc7 => ?_)
      ·replace h := condT h hc7
       refine wc_skip ?_
       refine we_seq ?_
       replace h := letkS h
       obtain ⟨k141, hk141, h⟩ := h
       refine wc_cut (fun env' st' => ∃ (l139 : List Int), ∃ (ver140 : Nat), k141 l139 = some r ∧ Sub [(6, .os 0 ver140), (10, .pt 1 0), (11, .d (D.i .i64 first119)), (12, .d (D.i .i64 iq133))] env' ∧ SLe st' [.os 2 1 ver140 (List.map (encA E2) l139), .row 54 [.d (D.i .u8 x118.kind), .d (D.s x118.name), .d (D.i .i64 x118.parent), .d (D.i .i64 x118.first), .d (.sl (List.map E9 x118.lits)), .d (D.i .i64 x118.index), .d (D.i .i64 x118.elem), .d (D.i .i64 x118.disc), .d (D.s x118.discName), .d (D.b x118.has), .d (D.i .i64 x118.default_), .d (.sl (List.map E56 x118.comps)), .d (D.i .i64 x118.target), .d (D.i .u8 x118.formal), .d (D.b x118.limited), .d (D.i .i64 x118.priv), .d (D.i .i64 x118.full), .d (D.i .i64 x118.level)]]) ?_ ?_
       ·refine wc_block ?_
        refine wc_sr ?_
        refine WL.qn (y_fieldAddr f54_11 rfl) rfl ?_
        refine WL.qn (y_load rfl rfl a51 rfl) rfl ?_
        refine WL.mv rfl rfl ?_
        obtain ⟨x142, hx142, h⟩ := bindS h
        refine WL.qn (y_indexAddr e51 rfl (Le.refl _) rfl (idx_nonneg hx142) (idx_row E56_eq hx142) rfl) rfl ?_
        refine WL.qn (y_fieldAddrc f56_2 rfl) rfl ?_
        refine WL.qn (y_loadc rfl a4 rfl) rfl ?_
        refine WL.ns ?_
        refine wc_cond rfl (fun hc8 => ?_) (fun hc8 => ?_)
        ·replace h := condT h hc8
         refine wc_region ?_
         refine WL.mv rfl rfl ?_
         refine WL.mv rfl rfl ?_
         refine WL.mv rfl rfl ?_
         refine WL.qn (y_add rfl rfl rfl) rfl ?_
         refine WL.qn (y_fieldAddr f54_11 rfl) rfl ?_
         refine WL.qn (y_load rfl rfl a51 rfl) rfl ?_
         refine WL.mv rfl rfl ?_
         obtain ⟨x143, hx143, h⟩ := bindS h
         refine WL.qn (y_indexAddr e51 rfl (Le.refl _) rfl (idx_nonneg hx143) (idx_row E56_eq hx143) rfl) rfl ?_
         refine WL.qn (y_fieldAddrc f56_3 rfl) rfl ?_
         refine WL.qn (y_loadc rfl a2 rfl) rfl ?_
         obtain ⟨x144, hx144, h⟩ := bindS h
         refine WL.qn (y_pe e41 rfl rfl rfl hx144) rfl ?_
         refine WL.s0 (d_store_peL (R := E2) (k := 1) (i := (IntKind.i64.wrap (first119 + iq133))) (fo := 0) x143.default_ rfl rfl rfl rfl (Le.refl _) rfl rfl rfl s2 rfl (fun _ => rfl) hx144 rfl rfl) (Wt.none rfl) rfl ?_
         refine WL.st (st' := [.os 2 1 ver135 (List.map (encA E2) (List.set l134 (Int.toNat (IntKind.i64.wrap (first119 + iq133))) x143.default_)), .row 54 [.d (D.i .u8 x118.kind), .d (D.s x118.name), .d (D.i .i64 x118.parent), .d (D.i .i64 x118.first), .d (.sl (List.map E9 x118.lits)), .d (D.i .i64 x118.index), .d (D.i .i64 x118.elem), .d (D.i .i64 x118.disc), .d (D.s x118.discName), .d (D.b x118.has), .d (D.i .i64 x118.default_), .d (.sl (List.map E56 x118.comps)), .d (D.i .i64 x118.target), .d (D.i .u8 x118.formal), .d (D.b x118.limited), .d (D.i .i64 x118.priv), .d (D.i .i64 x118.full), .d (D.i .i64 x118.level)]]) rfl ?_
         refine WL.nil ?_
         refine we_blk ?_
         exact we_lp ⟨(List.set l134 (Int.toNat (IntKind.i64.wrap (first119 + iq133))) x143.default_), _, h, (Sub.cons rfl (Le.refl _) (Sub.cons rfl (Le.refl _) (Sub.cons rfl (Le.refl _) (Sub.cons rfl (Le.refl _) (Sub.nil _))))), ⟨⟨rfl, rfl, rfl, rfl⟩, ⟨rfl, ⟨(Le.refl _), (Le.refl _), (Le.refl _), (Le.refl _), (Le.refl _), (Le.refl _), (Le.refl _), (Le.refl _), (Le.refl _), (Le.refl _), (Le.refl _), (Le.refl _), (Le.refl _), (Le.refl _), (Le.refl _), (Le.refl _), (Le.refl _), (Le.refl _), trivial⟩⟩, trivial⟩⟩
        ·replace h := condF h hc8
         refine wc_skip ?_
         refine we_blk ?_
         exact we_lp ⟨l134, _, h, (Sub.cons rfl (Le.refl _) (Sub.cons rfl (Le.refl _) (Sub.cons rfl (Le.refl _) (Sub.cons rfl (Le.refl _) (Sub.nil _))))), ⟨⟨rfl, rfl, rfl, rfl⟩, ⟨rfl, ⟨(Le.refl _), (Le.refl _), (Le.refl _), (Le.refl _), (Le.refl _), (Le.refl _), (Le.refl _), (Le.refl _), (Le.refl _), (Le.refl _), (Le.refl _), (Le.refl _), (Le.refl _), (Le.refl _), (Le.refl _), (Le.refl _), (Le.refl _), (Le.refl _), trivial⟩⟩, trivial⟩⟩
       ·rintro env1 st1 ⟨l139, ver140, h, hsub, hst⟩
        subst hk141
        dsimp only at h
        refine WC.sub hsub (WC.weak hst ?_)
        refine wc_region ?_
        refine WL.mv rfl rfl ?_
        refine WL.qn (y_add rfl rfl rfl) rfl ?_
        refine WL.as rfl rfl ?_
        refine WL.nil ?_
        exact we_lp ⟨n, ⟨(IntKind.i64.wrap (iq133 + 1)), l139, _, h, (Sub.cons rfl (Le.refl _) (Sub.cons rfl (Le.refl _) (Sub.cons rfl (Le.refl _) (Sub.cons rfl (Le.refl _) (Sub.nil _))))), ⟨⟨rfl, rfl, rfl, rfl⟩, ⟨rfl, ⟨(Le.refl _), (Le.refl _), (Le.refl _), (Le.refl _), (Le.refl _), (Le.refl _), (Le.refl _), (Le.refl _), (Le.refl _), (Le.refl _), (Le.refl _), (Le.refl _), (Le.refl _), (Le.refl _), (Le.refl _), (Le.refl _), (Le.refl _), (Le.refl _), trivial⟩⟩, trivial⟩⟩, Nat.lt_succ_self n⟩
      ·replace h := condF h hc7
       refine wc_exit ?_
       refine we_seq_exit ?_
       refine we_lp_exit ?_
       refine we_blk_hit ?_
       exact we_lp ⟨l134, _, h, (Sub.cons rfl (Le.refl _) (Sub.nil _)), ⟨⟨rfl, rfl, rfl, rfl⟩, ⟨rfl, ⟨(Le.refl _), (Le.refl _), (Le.refl _), (Le.refl _), (Le.refl _), (Le.refl _), (Le.refl _), (Le.refl _), (Le.refl _), (Le.refl _), (Le.refl _), (Le.refl _), (Le.refl _), (Le.refl _), (Le.refl _), (Le.refl _), (Le.refl _), (Le.refl _), trivial⟩⟩, trivial⟩⟩
     ·rintro env1 st1 ⟨l127, ver128, h, hsub, hst⟩
      subst hk129
      dsimp only at h
      refine WC.sub hsub (WC.weak hst ?_)
      refine wc_sr ?_
      refine WL.mv rfl rfl ?_
      refine WL.as rfl rfl ?_
      refine WL.ns ?_
      refine wc_ret ?_
      refine WE.freezeX [6, 96, 4] [] 0 (List.map E2 l127) rfl (encA_map E2_eq l127) ⟨rfl, rfl, rfl, trivial⟩ trivial ?_
      obtain rfl := Option.some.inj h
      exact we_ret_fn (rs1 rfl (rv_t rfl)) (Le.refl _)
theorem f25_c (t0 : Table) (sub1 : Int) {r : Int × Int × Bool} (h : f25 t0 sub1 = some r) : Pu Tryd.prog 25 [.ag (R28 t0), .i .i64 sub1] (.tu [.i .i64 r.1, .i .i64 r.2.1, .b r.2.2]) := by
 unfold f25 at h
 refine fn_intro Tryd.func25 (by kernel_rfl) rfl rfl rfl (fun φφ ww => ?_)
 refine wc_sr ?_
 refine WL.s ((b_boxd rfl rfl (Les.refl _)).does) (Wt.none rfl) rfl rfl ?_
 refine WL.as rfl rfl ?_
 refine WL.as rfl rfl ?_
 refine WL.as rfl rfl ?_
 refine WL.ns ?_
 refine wc_sr ?_
 refine WL.qn (y_loadcN rfl a28 s28 rfl) rfl ?_
 refine WL.qn (y_build p61 z61 rfl rfl) rfl ?_
 refine WL.mv rfl rfl ?_
 obtain ⟨r17, hr17, h⟩ := bindS h
 refine WL.fn rfl rfl rfl rfl (f43_c _ _ hr17) ⟨(Le.agd ⟨(Le.refl _), (Le.refl _), (Le.refl _), (Le.refl _), (Le.refl _), trivial⟩), (Le.refl _), trivial⟩ (Wt.none rfl) rfl rfl ?_
 refine WL.qn (y_extractd rfl rfl) rfl ?_
 refine WL.qn (y_extractd rfl rfl) rfl ?_
 refine WL.qn (y_extractd rfl rfl) rfl ?_
 refine WL.as rfl rfl ?_
 refine WL.as rfl rfl ?_
 refine WL.as rfl rfl ?_
 refine WL.ns ?_
 refine wc_ret ?_
 obtain rfl := Option.some.inj h
 exact we_ret_fn (rs3 rfl (rv_t rfl) (rv_t rfl) (rv_t rfl)) (Le.tud ⟨(Le.refl _), (Le.refl _), (Le.refl _), trivial⟩)

theorem f57_c (l0 : List Int) (i1 : Int) {r : Int × Bool} (h : f57 l0 i1 = some r) : Pu Tryd.prog 57 [.sl (List.map E3 l0), .i .i64 i1] (.tu [.i .i64 r.1, .b r.2]) := by
 unfold f57 at h
 refine fn_intro Tryd.func57 (by kernel_rfl) rfl rfl rfl (fun φφ ww => ?_)
 refine wc_sr ?_
 refine WL.as rfl rfl ?_
 refine WL.as rfl rfl ?_
 refine WL.ns ?_
 refine wc_seq ?_
 refine wc_sr ?_
 refine WL.mv rfl rfl ?_
 refine WL.qn (y_lss rfl rfl) rfl ?_
 refine WL.mv rfl rfl ?_
 apply WL.or 5 (t := 8) (d := 13)
 ·exact rfl
 ·intro hg8
  refine WL.qy (y_move rfl) rfl rfl rfl ?_
  refine WL.qy (y_move rfl) rfl rfl rfl ?_
  refine WL.qy (y_len_map E3 l0 e82 rfl rfl (Le.refl _)) rfl rfl rfl ?_
  refine WL.qy (y_geq rfl rfl) rfl rfl rfl ?_
  refine WL.qn (y_pick_f rfl rfl) rfl ?_
  exact WL.nil ⟨rfl, [_, _, _, _, _], rfl, rfl, rfl⟩
 ·refine WL.skips 4 rfl ?_
  refine WL.qn (y_pick_t rfl rfl) rfl ?_
  exact WL.nil ⟨rfl, [_, _, _, _, _], rfl, rfl, rfl⟩
 refine WL.ns ?_
 refine wc_cond rfl (fun hc1 => ?_) (fun hc1 => ?_)
 ·replace h := condT h hc1
  refine wc_sr ?_
  refine WL.mv rfl rfl ?_
  refine WL.as rfl rfl ?_
  refine WL.as rfl rfl ?_
  refine WL.ns ?_
  refine wc_ret ?_
  refine we_seq_ret ?_
  obtain rfl := Option.some.inj h
  exact we_ret_fn (rs2 rfl (rv_t rfl) (rv_t rfl)) (Le.tud ⟨(Le.refl _), (Le.refl _), trivial⟩)
 ·replace h := condF h hc1
  refine wc_skip ?_
  refine we_seq ?_
  refine wc_sr ?_
  refine WL.mv rfl rfl ?_
  refine WL.mv rfl rfl ?_
  obtain ⟨x22, hx22, h⟩ := bindS h
  refine WL.qn (y_indexAddr e82 rfl (Le.refl _) rfl (idx_nonneg hx22) (idx_row E3_eq hx22) rfl) rfl ?_
  refine WL.qn (y_loadc rfl a3 rfl) rfl ?_
  refine WL.as rfl rfl ?_
  refine WL.as rfl rfl ?_
  refine WL.ns ?_
  refine wc_ret ?_
  obtain rfl := Option.some.inj h
  exact we_ret_fn (rs2 rfl (rv_t rfl) (rv_t rfl)) (Le.tud ⟨(Le.refl _), (Le.refl _), trivial⟩)

theorem f27_c (t0 : Table) (sub1 : Int) (slot2 : Int) {r : Int × Bool} (h : f27 t0 sub1 slot2 = some r) : Pu Tryd.prog 27 [.ag (R28 t0), .i .i64 sub1, .i .i64 slot2] (.tu [.i .i64 r.1, .b r.2]) := by
 unfold f27 at h
 refine fn_intro Tryd.func27 (by kernel_rfl) rfl rfl rfl (fun φφ ww => ?_)
 refine wc_sr ?_
 refine WL.s ((b_boxd rfl rfl (Les.refl _)).does) (Wt.none rfl) rfl rfl ?_
 refine WL.as rfl rfl ?_
 refine WL.as rfl rfl ?_
 refine WL.ns ?_
 refine wc_sr ?_
 refine WL.qn (y_loadcN rfl a28 s28 rfl) rfl ?_
 refine WL.qn (y_build p61 z61 rfl rfl) rfl ?_
 refine WL.mv rfl rfl ?_
 obtain ⟨r20, hr20, h⟩ := bindS h
 refine WL.fn rfl rfl rfl rfl (f58_c _ _ hr20) ⟨(Le.agd ⟨(Le.refl _), (Le.refl _), (Le.refl _), (Le.refl _), (Le.refl _), trivial⟩), (Le.refl _), trivial⟩ (Wt.none rfl) rfl rfl ?_
 refine WL.mv rfl rfl ?_
 obtain ⟨r21, hr21, h⟩ := bindS h
 refine WL.fn rfl rfl rfl rfl (f57_c _ _ hr21) ⟨(Le.refl _), (Le.refl _), trivial⟩ (Wt.none rfl) rfl rfl ?_
 refine WL.qn (y_extractd rfl rfl) rfl ?_
 refine WL.qn (y_extractd rfl rfl) rfl ?_
 refine WL.as rfl rfl ?_
 refine WL.as rfl rfl ?_
 refine WL.ns ?_
 refine wc_ret ?_
 obtain rfl := Option.some.inj h
 exact we_ret_fn (rs2 rfl (rv_t rfl) (rv_t rfl)) (Le.tud ⟨(Le.refl _), (Le.refl _), trivial⟩)
theorem f6_c (t0 : Table) (sub1 : Int) (slot2 : Int) (v3 : List Int) {r : Bool} (h : f6 t0 sub1 slot2 v3 = some r) : Pu Tryd.prog 6 [.ag (R28 t0), .i .i64 sub1, .i .i64 slot2, .sl (List.map E2 v3)] (.b r) := by
 unfold f6 at h
 refine fn_intro Tryd.func6 (by kernel_rfl) rfl rfl rfl (fun φφ ww => ?_)
 refine wc_sr ?_
 refine WL.s ((b_box rfl rfl).does) (Wt.none rfl) rfl rfl ?_
 refine WL.as rfl rfl ?_
 refine WL.ns ?_
 refine wc_sr ?_
 refine WL.qn (y_loadN rfl rfl a28 s28 rfl) rfl ?_
 obtain ⟨r119, hr119, h⟩ := bindS h
 refine WL.fn rfl rfl rfl rfl (f10_c _ hr119) ⟨(Le.agd ⟨(Le.refl _), (Le.refl _), (Le.refl _), (Le.refl _), (Le.refl _), trivial⟩), trivial⟩ (Wt.none rfl) rfl rfl ?_
 refine WL.s0 (d_store rfl rfl rfl rfl rfl rfl s28 rfl rfl) (Wt.none rfl) rfl ?_
 refine WL.ns ?_
 replace h := letkS h
 obtain ⟨k120, hk120, h⟩ := h
 refine wc_cut (fun env' st' => k120 () = some r ∧ Sub [] env' ∧ SLe st' [.row 28 [.d (.sl (List.map E54 r119.types)), .d (.sl (List.map E40 r119.subs)), .d (.v (SlV.v r119.ents)), .d (.v (SlV.v r119.gens)), .d (.v (SlV.v r119.insts))]]) ?_ ?_
 ·refine wc_sr ?_
  refine WL.as rfl rfl ?_
  refine WL.ns ?_
  refine wc_block ?_
  refine wc_loop (fun n env' st' => ∃ (iq122 : Int), f6_l1 sub1 slot2 v3 r119 k120 n iq122 = some r ∧ Sub [(1, .d (D.i .i64 sub1)), (2, .d (D.i .i64 slot2)), (3, .d (.sl (List.map E2 v3))), (4, .pt 0 0), (9, .d (D.i .i64 iq122))] env' ∧ SLe st' [.row 28 [.d (.sl (List.map E54 r119.types)), .d (.sl (List.map E40 r119.subs)), .d (.v (SlV.v r119.ents)), .d (.v (SlV.v r119.gens)), .d (.v (SlV.v r119.insts))]]) (fun n => n) 9223372036854775808 ⟨(-1), h, (Sub.cons rfl (Le.refl _) (Sub.cons rfl (Le.refl _) (Sub.cons rfl (Le.refl _) (Sub.cons rfl (Le.refl _) (Sub.cons rfl (Le.refl _) (Sub.nil _)))))), ⟨⟨rfl, ⟨(Le.refl _), (Le.refl _), (Le.refl _), (Le.refl _), (Le.refl _), trivial⟩⟩, trivial⟩⟩ ?_
  rintro n env1 st1 ⟨iq122, h, hsub, hst⟩
  cases n with
  | zero => rw [f6_l1] at h; cases h
  | succ n =>
  rw [f6_l1] at h
  refine WC.sub hsub (WC.weak hst ?_)
  refine wc_seq ?_
  refine wc_sr ?_
  refine WL.mv rfl rfl ?_
  refine WL.qn (y_fieldAddr f28_1 rfl) rfl ?_
  refine WL.qn (y_load rfl rfl a23 rfl) rfl ?_
  refine WL.qn (y_len_map E40 r119.subs e23 rfl rfl (Le.refl _)) rfl ?_
  refine WL.qn (y_leq rfl rfl) rfl ?_
  refine WL.ns ?_
  refine wc_cond rfl (fun hc1 => ?_) (fun hc1 => ?_)
  ·replace h := condT h hc1
   refine wc_skip ?_
   refine we_seq ?_
   refine wc_seq ?_
   refine wc_block ?_
   refine wc_sr ?_
   refine WL.mv rfl rfl ?_
   refine WL.as rfl rfl ?_
   refine WL.ns ?_
   replace h := letkS h
   obtain ⟨k125, hk125, h⟩ := h
   refine wc_cut (fun env' st' => ∃ (s124 : Int), k125 s124 = some r ∧ Sub [(1, .d (D.i .i64 sub1)), (2, .d (D.i .i64 slot2)), (3, .d (.sl (List.map E2 v3))), (4, .pt 0 0), (9, .d (D.i .i64 iq122)), (10, .d (D.i .i64 s124))] env' ∧ SLe st' [.row 28 [.d (.sl (List.map E54 r119.types)), .d (.sl (List.map E40 r119.subs)), .d (.v (SlV.v r119.ents)), .d (.v (SlV.v r119.gens)), .d (.v (SlV.v r119.insts))]]) ?_ ?_
   ·refine wc_sr ?_
    refine WL.mv rfl rfl ?_
    refine WL.qn (y_lss rfl rfl) rfl ?_
    refine WL.ns ?_
    refine wc_cond rfl (fun hc2 => ?_) (fun hc2 => ?_)
    ·replace h := condT h hc2
     refine wc_region ?_
     refine WL.mv rfl rfl ?_
     refine WL.as rfl rfl ?_
     refine WL.nil ?_
     exact we_lp ⟨sub1, h, (Sub.cons rfl (Le.refl _) (Sub.cons rfl (Le.refl _) (Sub.cons rfl (Le.refl _) (Sub.cons rfl (Le.refl _) (Sub.cons rfl (Le.refl _) (Sub.cons rfl (Le.refl _) (Sub.nil _))))))), ⟨⟨rfl, ⟨(Le.refl _), (Le.refl _), (Le.refl _), (Le.refl _), (Le.refl _), trivial⟩⟩, trivial⟩⟩
    ·replace h := condF h hc2
     refine wc_skip ?_
     exact we_lp ⟨iq122, h, (Sub.cons rfl (Le.refl _) (Sub.cons rfl (Le.refl _) (Sub.cons rfl (Le.refl _) (Sub.cons rfl (Le.refl _) (Sub.cons rfl (Le.refl _) (Sub.cons rfl (Le.refl _) (Sub.nil _))))))), ⟨⟨rfl, ⟨(Le.refl _), (Le.refl _), (Le.refl _), (Le.refl _), (Le.refl _), trivial⟩⟩, trivial⟩⟩
   ·rintro env1 st1 ⟨s124, h, hsub, hst⟩
    subst hk125
    dsimp only at h
    refine WC.sub hsub (WC.weak hst ?_)
    refine wc_sr ?_
    refine WL.qn (y_loadN rfl rfl a28 s28 rfl) rfl ?_
    refine WL.mv rfl rfl ?_
    obtain ⟨r126, hr126, h⟩ := bindS h
    refine WL.fn rfl rfl rfl rfl (f25_c _ _ hr126) ⟨(Le.agd ⟨(Le.refl _), (Le.refl _), (Le.refl _), (Le.refl _), (Le.refl _), trivial⟩), (Le.refl _), trivial⟩ (Wt.none rfl) rfl rfl ?_
    refine WL.mv rfl rfl ?_
    refine WL.qn (y_extractd rfl rfl) rfl ?_
    refine WL.qn (y_extractd rfl rfl) rfl ?_
    refine WL.qn (y_extractd rfl rfl) rfl ?_
    refine WL.as rfl rfl ?_
    refine WL.as rfl rfl ?_
    refine WL.as rfl rfl ?_
    refine WL.ns ?_
    refine wc_sr ?_
    refine WL.qn (y_loadN rfl rfl a28 s28 rfl) rfl ?_
    refine WL.mv rfl rfl ?_
    obtain ⟨r127, hr127, h⟩ := bindS h
    refine WL.fn rfl rfl rfl rfl (f26_c _ _ hr127) ⟨(Le.agd ⟨(Le.refl _), (Le.refl _), (Le.refl _), (Le.refl _), (Le.refl _), trivial⟩), (Le.refl _), trivial⟩ (Wt.none rfl) rfl rfl ?_
    refine WL.mv rfl rfl ?_
    refine WL.qn (y_extractd rfl rfl) rfl ?_
    refine WL.qn (y_extractd rfl rfl) rfl ?_
    refine WL.qn (y_extractd rfl rfl) rfl ?_
    refine WL.as rfl rfl ?_
    refine WL.as rfl rfl ?_
    refine WL.as rfl rfl ?_
    refine WL.ns ?_
    refine wc_sr ?_
    refine WL.qn (y_loadN rfl rfl a28 s28 rfl) rfl ?_
    refine WL.mv rfl rfl ?_
    refine WL.mv rfl rfl ?_
    obtain ⟨r128, hr128, h⟩ := bindS h
    refine WL.fn rfl rfl rfl rfl (f27_c _ _ _ hr128) ⟨(Le.agd ⟨(Le.refl _), (Le.refl _), (Le.refl _), (Le.refl _), (Le.refl _), trivial⟩), (Le.refl _), (Le.refl _), trivial⟩ (Wt.none rfl) rfl rfl ?_
    refine WL.mv rfl rfl ?_
    refine WL.qn (y_extractd rfl rfl) rfl ?_
    refine WL.qn (y_extractd rfl rfl) rfl ?_
    refine WL.as rfl rfl ?_
    refine WL.as rfl rfl ?_
    refine WL.ns ?_
    refine wc_sr ?_
    refine WL.qn (y_loadN rfl rfl a28 s28 rfl) rfl ?_
    refine WL.mv rfl rfl ?_
    refine WL.mv rfl rfl ?_
    obtain ⟨r129, hr129, h⟩ := bindS h
    refine WL.fn rfl rfl rfl rfl (f28_c _ _ _ hr129) ⟨(Le.agd ⟨(Le.refl _), (Le.refl _), (Le.refl _), (Le.refl _), (Le.refl _), trivial⟩), (Le.refl _), (Le.refl _), trivial⟩ (Wt.none rfl) rfl rfl ?_
    refine WL.mv rfl rfl ?_
    refine WL.qn (y_extractd rfl rfl) rfl ?_
    refine WL.qn (y_extractd rfl rfl) rfl ?_
    refine WL.as rfl rfl ?_
    refine WL.as rfl rfl ?_
    refine WL.ns ?_
    refine wc_seq ?_
    refine wc_seq ?_
    refine wc_region_draw (by kernel_rfl) (by kernel_rfl) ?_
    refine WQ.qn (y_move rfl) rfl ?_
    refine WQ.qn (y_move rfl) rfl ?_
    refine WQ.qn (y_neq rfl rfl) rfl ?_
    refine WQ.qn (y_move rfl) rfl ?_
    apply WQ.or 4 (t := 65) (d := 69)
    ·exact rfl
    ·intro hg65
     refine WQ.qy (y_move rfl) rfl rfl rfl ?_
     refine WQ.qy (y_move rfl) rfl rfl rfl ?_
     refine WQ.qy (y_neq rfl rfl) rfl rfl rfl ?_
     refine WQ.qn (y_pick_f rfl rfl) rfl ?_
     exact WQ.nil ⟨[_, _, _, _], rfl, rfl, rfl⟩
    ·refine WQ.skips 3 rfl ?_
     refine WQ.qn (y_pick_t rfl rfl) rfl ?_
     exact WQ.nil ⟨[_, _, _, _], rfl, rfl, rfl⟩
    refine WQ.qn (y_move rfl) rfl ?_
    apply WQ.or 4 (t := 70) (d := 74)
    ·exact rfl
    ·intro hg70
     refine WQ.qy (y_move rfl) rfl rfl rfl ?_
     refine WQ.qy (y_move rfl) rfl rfl rfl ?_
     refine WQ.qy (y_neb Tryd.underlying4 rfl rfl) rfl rfl rfl ?_
     refine WQ.qn (y_pick_f rfl rfl) rfl ?_
     exact WQ.nil ⟨[_, _, _, _], rfl, rfl, rfl⟩
    ·refine WQ.skips 3 rfl ?_
     refine WQ.qn (y_pick_t rfl rfl) rfl ?_
     exact WQ.nil ⟨[_, _, _, _], rfl, rfl, rfl⟩
    refine WQ.qn (y_move rfl) rfl ?_
    apply WQ.or 4 (t := 75) (d := 79)
    ·exact rfl
    ·intro hg75
     refine WQ.qy (y_move rfl) rfl rfl rfl ?_
     refine WQ.qy (y_move rfl) rfl rfl rfl ?_
     refine WQ.qy (y_neq rfl rfl) rfl rfl rfl ?_
     refine WQ.qn (y_pick_f rfl rfl) rfl ?_
     exact WQ.nil ⟨[_, _, _, _], rfl, rfl, rfl⟩
    ·refine WQ.skips 3 rfl ?_
     refine WQ.qn (y_pick_t rfl rfl) rfl ?_
     exact WQ.nil ⟨[_, _, _, _], rfl, rfl, rfl⟩
    refine WQ.qn (y_move rfl) rfl ?_
    apply WQ.or 4 (t := 80) (d := 84)
    ·exact rfl
    ·intro hg80
     refine WQ.qy (y_move rfl) rfl rfl rfl ?_
     refine WQ.qy (y_move rfl) rfl rfl rfl ?_
     refine WQ.qy (y_neb Tryd.underlying4 rfl rfl) rfl rfl rfl ?_
     refine WQ.qn (y_pick_f rfl rfl) rfl ?_
     exact WQ.nil ⟨[_, _, _, _], rfl, rfl, rfl⟩
    ·refine WQ.skips 3 rfl ?_
     refine WQ.qn (y_pick_t rfl rfl) rfl ?_
     exact WQ.nil ⟨[_, _, _, _], rfl, rfl, rfl⟩
    refine WQ.qn (y_move rfl) rfl ?_
    obtain ⟨b130, hb130, h⟩ := bindS h
    apply WQ.grp 8 (t := 85) (d := 93) (z := b130)
    ·exact rfl
    ·intro hg85
     have h := condT hb130 hg85
     refine WQ.skips 7 rfl ?_
     refine WQ.qn (y_pick_t rfl rfl) rfl ?_
     obtain rfl := Option.some.inj h
     exact WQ.nil ⟨[_, _, _, _, _, _, _, _], rfl, rfl, rfl⟩
    ·intro hg85
     have h := condF hb130 hg85
     refine WQ.qy (y_loadN rfl rfl a28 s28 rfl) rfl rfl rfl ?_
     refine WQ.qy (y_move rfl) rfl rfl rfl ?_
     obtain ⟨r131, hr131, h⟩ := bindS h
     refine WQ.q (YieldsQ.fn rfl rfl rfl rfl rfl (f29_c _ _ hr131) ⟨(Le.agd ⟨(Le.refl _), (Le.refl _), (Le.refl _), (Le.refl _), (Le.refl _), trivial⟩), (Le.refl _), trivial⟩) (Wt.yes rfl rfl rfl) rfl rfl ?_
     refine WQ.qy (y_loadN rfl rfl a28 s28 rfl) rfl rfl rfl ?_
     refine WQ.qy (y_move rfl) rfl rfl rfl ?_
     obtain ⟨r132, hr132, h⟩ := bindS h
     refine WQ.q (YieldsQ.fn rfl rfl rfl rfl rfl (f30_c _ _ hr132) ⟨(Le.agd ⟨(Le.refl _), (Le.refl _), (Le.refl _), (Le.refl _), (Le.refl _), trivial⟩), (Le.refl _), trivial⟩) (Wt.yes rfl rfl rfl) rfl rfl ?_
     refine WQ.qy (y_neq rfl rfl) rfl rfl rfl ?_
     refine WQ.qn (y_pick_f rfl rfl) rfl ?_
     obtain rfl := Option.some.inj h
     exact WQ.nil ⟨[_, _, _, _, _, _, _, _], rfl, rfl, rfl⟩
    refine WQ.nil ?_
    refine we_seq ?_
    refine wc_cond rfl (fun hc3 => ?_) (fun hc3 => ?_)
    ·replace h := condT h hc3
     refine wc_sr ?_
     refine WL.as rfl rfl ?_
     refine WL.ns ?_
     refine wc_ret ?_
     refine we_seq_ret ?_
     refine we_blk_ret ?_
     refine we_seq_ret ?_
     refine we_lp_ret ?_
     refine we_blk_ret ?_
     refine we_lp_ret ?_
     obtain rfl := Option.some.inj h
     exact we_ret_fn (rs1 rfl (rv_t rfl)) (Le.refl _)
    ·replace h := condF h hc3
     refine wc_skip ?_
     refine we_seq ?_
     replace h := letkS h
     obtain ⟨k134, hk134, h⟩ := h
     refine wc_cut (fun env' st' => ∃ (t133 : Bool), k134 t133 = some r ∧ Sub [(1, .d (D.i .i64 sub1)), (2, .d (D.i .i64 slot2)), (3, .d (.sl (List.map E2 v3))), (4, .pt 0 0), (9, .d (D.i .i64 iq122)), (112, .d (D.b t133))] env' ∧ SLe st' [.row 28 [.d (.sl (List.map E54 r119.types)), .d (.sl (List.map E40 r119.subs)), .d (.v (SlV.v r119.ents)), .d (.v (SlV.v r119.gens)), .d (.v (SlV.v r119.insts))]]) ?_ ?_
     ·obtain ⟨r135, hr135, h⟩ := bindS h
      obtain ⟨r136, hr136, h⟩ := bindS h
      rcases boolCases (!(r135 == r136)) with hb2 | hb2
      ·replace h := condT h hb2
       apply wc_region_all [_, _, _, _, _, _, _, _, _, _, _, _, _, _, _, _, _, _, _] [[], [], [], [0, 1, 2], [], [], [], [0, 1, 2, 3, 4, 5, 6], [0, 1, 2, 3, 4, 5, 6, 7], [0, 1, 2, 3, 4, 5, 6, 7, 8], [0, 1, 2, 3, 4, 5, 6, 7, 8, 9], [0, 1, 2, 3, 4, 5, 6, 7, 8, 9], [0, 1, 2, 3, 4, 5, 6, 7, 8, 9, 10, 11], [0, 1, 2, 3, 4, 5, 6, 7, 8, 9], [0, 1, 2, 3, 4, 5, 6, 7, 8, 9], [0, 1, 2, 3, 4, 5, 6, 7, 8, 9, 10, 11, 12, 13, 14], [0, 1, 2, 3, 4, 5, 6, 7, 8, 9, 10, 11, 12, 13, 14, 15], [0, 1, 2, 3, 4, 5, 6, 7, 8, 9, 10, 11, 12, 13, 14, 15, 16], [0, 1, 2, 3, 4, 5, 6, 7, 8, 9, 10, 11, 12, 13, 14, 15, 16, 17]] [] (fun c => List.getD [[.row 28 [.d (.sl (List.map E54 r119.types)), .d (.sl (List.map E40 r119.subs)), .d (.v (SlV.v r119.ents)), .d (.v (SlV.v r119.gens)), .d (.v (SlV.v r119.insts))]]] c []) [([], [4], [0]), ([], [10], [0]), ([], [3], [0]), ([0, 1, 2], [], [0]), ([], [4], [0]), ([], [10], [0]), ([], [3], [0]), ([4, 5, 6], [], [0]), ([3, 7], [], [0]), ([8], [], [0]), ([9], [], [0]), ([9], [], [0]), ([9], [], [0]), ([9], [], [0]), ([9], [], [0]), ([9], [], [0]), ([9], [], [0]), ([9], [], [0]), ([9, 17], [], [0])] (by kernel_rfl) (by kernel_rfl) rfl rfl rfl
       ·refine ⟨?_, ?_, ?_, ?_, ?_, ?_, ?_, ?_, ?_, ?_, ?_, ?_, ?_, ?_, ?_, ?_, ?_, ?_, ?_, trivial⟩
        ·refine ⟨fun F => ?_, trivial⟩
         refine WL.qn (y_loadN rfl rfl a28 s28 rfl) rfl ?_
         exact WL.done1 rfl rfl rfl
        ·refine ⟨fun F => ?_, trivial⟩
         refine WL.mv rfl rfl ?_
         exact WL.done1 rfl rfl rfl
        ·refine ⟨fun F => ?_, trivial⟩
         refine WL.mv rfl rfl ?_
         exact WL.done1 rfl rfl rfl
        ·refine ⟨fun F => ?_, trivial⟩
         refine WL.fn rfl rfl rfl rfl (f31_c _ _ _ hr135) ⟨(Le.agd ⟨(Le.refl _), (Le.refl _), (Le.refl _), (Le.refl _), (Le.refl _), trivial⟩), (Le.refl _), (Le.refl _), trivial⟩ (Wt.none rfl) rfl rfl ?_
         exact WL.done1 rfl rfl rfl
        ·refine ⟨fun F => ?_, trivial⟩
         refine WL.qn (y_loadN rfl rfl a28 s28 rfl) rfl ?_
         exact WL.done1 rfl rfl rfl
        ·refine ⟨fun F => ?_, trivial⟩
         refine WL.mv rfl rfl ?_
         exact WL.done1 rfl rfl rfl
        ·refine ⟨fun F => ?_, trivial⟩
         refine WL.mv rfl rfl ?_
         exact WL.done1 rfl rfl rfl
        ·refine ⟨fun F => ?_, trivial⟩
         refine WL.fn rfl rfl rfl rfl (f32_c _ _ _ hr136) ⟨(Le.agd ⟨(Le.refl _), (Le.refl _), (Le.refl _), (Le.refl _), (Le.refl _), trivial⟩), (Le.refl _), (Le.refl _), trivial⟩ (Wt.none rfl) rfl rfl ?_
         exact WL.done1 rfl rfl rfl
        ·refine ⟨fun F => ?_, trivial⟩
         refine WL.qn (y_neb Tryd.underlying4 rfl rfl) rfl ?_
         exact WL.done1 rfl rfl rfl
        ·refine ⟨fun F => ?_, trivial⟩
         refine WL.mv rfl rfl ?_
         refine WL.cast 103 rfl (Le.ofd (by rw [hb2])) ?_
         exact WL.done2 rfl rfl rfl
        ·refine ⟨fun F => ?_, trivial⟩
         refine WL.skips 1 rfl ?_
         exact WL.done1 rfl rfl rfl
        ·refine ⟨fun F => ?_, trivial⟩
         refine WL.skips 1 rfl ?_
         exact WL.done1 rfl rfl rfl
        ·refine ⟨fun F => ?_, trivial⟩
         refine WL.skips 1 rfl ?_
         exact WL.done1 rfl rfl rfl
        ·refine ⟨fun F => ?_, trivial⟩
         refine WL.skips 1 rfl ?_
         exact WL.done1 rfl rfl rfl
        ·refine ⟨fun F => ?_, trivial⟩
         refine WL.skips 1 rfl ?_
         exact WL.done1 rfl rfl rfl
        ·refine ⟨fun F => ?_, trivial⟩
         refine WL.skips 1 rfl ?_
         exact WL.done1 rfl rfl rfl
        ·refine ⟨fun F => ?_, trivial⟩
         refine WL.skips 1 rfl ?_
         exact WL.done1 rfl rfl rfl
        ·refine ⟨fun F => ?_, trivial⟩
         refine WL.skips 1 rfl ?_
         exact WL.done1 rfl rfl rfl
        ·refine ⟨fun F => ?_, trivial⟩
         refine WL.qn (y_pick_t rfl rfl) rfl ?_
         exact WL.done1 rfl rfl rfl
       ·exact we_lp ⟨true, h, (Sub.cons rfl (Le.refl _) (Sub.cons rfl (Le.refl _) (Sub.cons rfl (Le.refl _) (Sub.cons rfl (Le.refl _) (Sub.cons rfl (Le.refl _) (Sub.cons rfl (Le.refl _) (Sub.nil _))))))), ⟨⟨rfl, ⟨(Le.refl _), (Le.refl _), (Le.refl _), (Le.refl _), (Le.refl _), trivial⟩⟩, trivial⟩⟩
      ·replace h := condF h hb2
       obtain ⟨r137, hr137, h⟩ := bindS h
       obtain ⟨r138, hr138, h⟩ := bindS h
       obtain ⟨r139, hr139, h⟩ := bindS h
       apply wc_region_all [_, _, _, _, _, _, _, _, _, _, _, _, _, _, _, _, _, _, _] [[], [], [], [0, 1, 2], [], [], [], [0, 1, 2, 3, 4, 5, 6], [0, 1, 2, 3, 4, 5, 6, 7], [0, 1, 2, 3, 4, 5, 6, 7, 8], [0, 1, 2, 3, 4, 5, 6, 7, 8, 9], [0, 1, 2, 3, 4, 5, 6, 7, 8, 9], [0, 1, 2, 3, 4, 5, 6, 7, 8, 9, 10, 11], [0, 1, 2, 3, 4, 5, 6, 7, 8, 9], [0, 1, 2, 3, 4, 5, 6, 7, 8, 9], [0, 1, 2, 3, 4, 5, 6, 7, 8, 9, 10, 11, 12, 13, 14], [0, 1, 2, 3, 4, 5, 6, 7, 8, 9, 10, 11, 12, 13, 14, 15], [0, 1, 2, 3, 4, 5, 6, 7, 8, 9, 10, 11, 12, 13, 14, 15, 16], [0, 1, 2, 3, 4, 5, 6, 7, 8, 9, 10, 11, 12, 13, 14, 15, 16, 17]] [] (fun c => List.getD [[.row 28 [.d (.sl (List.map E54 r119.types)), .d (.sl (List.map E40 r119.subs)), .d (.v (SlV.v r119.ents)), .d (.v (SlV.v r119.gens)), .d (.v (SlV.v r119.insts))]]] c []) [([], [4], [0]), ([], [10], [0]), ([], [3], [0]), ([0, 1, 2], [], [0]), ([], [4], [0]), ([], [10], [0]), ([], [3], [0]), ([4, 5, 6], [], [0]), ([3, 7], [], [0]), ([8], [], [0]), ([9], [4], [0]), ([9], [10], [0]), ([10, 11, 9], [], [0]), ([9], [4], [0]), ([9], [10], [0]), ([13, 14, 9], [], [0]), ([12, 15, 9], [], [0]), ([16, 9], [], [0]), ([9, 17], [], [0])] (by kernel_rfl) (by kernel_rfl) rfl rfl rfl
       ·refine ⟨?_, ?_, ?_, ?_, ?_, ?_, ?_, ?_, ?_, ?_, ?_, ?_, ?_, ?_, ?_, ?_, ?_, ?_, ?_, trivial⟩
        ·refine ⟨fun F => ?_, trivial⟩
         refine WL.qn (y_loadN rfl rfl a28 s28 rfl) rfl ?_
         exact WL.done1 rfl rfl rfl
        ·refine ⟨fun F => ?_, trivial⟩
         refine WL.mv rfl rfl ?_
         exact WL.done1 rfl rfl rfl
        ·refine ⟨fun F => ?_, trivial⟩
         refine WL.mv rfl rfl ?_
         exact WL.done1 rfl rfl rfl
        ·refine ⟨fun F => ?_, trivial⟩
         refine WL.fn rfl rfl rfl rfl (f31_c _ _ _ hr135) ⟨(Le.agd ⟨(Le.refl _), (Le.refl _), (Le.refl _), (Le.refl _), (Le.refl _), trivial⟩), (Le.refl _), (Le.refl _), trivial⟩ (Wt.none rfl) rfl rfl ?_
         exact WL.done1 rfl rfl rfl
        ·refine ⟨fun F => ?_, trivial⟩
         refine WL.qn (y_loadN rfl rfl a28 s28 rfl) rfl ?_
         exact WL.done1 rfl rfl rfl
        ·refine ⟨fun F => ?_, trivial⟩
         refine WL.mv rfl rfl ?_
         exact WL.done1 rfl rfl rfl
        ·refine ⟨fun F => ?_, trivial⟩
         refine WL.mv rfl rfl ?_
         exact WL.done1 rfl rfl rfl
        ·refine ⟨fun F => ?_, trivial⟩
         refine WL.fn rfl rfl rfl rfl (f32_c _ _ _ hr136) ⟨(Le.agd ⟨(Le.refl _), (Le.refl _), (Le.refl _), (Le.refl _), (Le.refl _), trivial⟩), (Le.refl _), (Le.refl _), trivial⟩ (Wt.none rfl) rfl rfl ?_
         exact WL.done1 rfl rfl rfl
        ·refine ⟨fun F => ?_, trivial⟩
         refine WL.qn (y_neb Tryd.underlying4 rfl rfl) rfl ?_
         exact WL.done1 rfl rfl rfl
        ·refine ⟨fun F => ?_, trivial⟩
         refine WL.mv rfl rfl ?_
         refine WL.cast 103 rfl (Le.ofd (by rw [hb2])) ?_
         exact WL.done2 rfl rfl rfl
        ·refine ⟨fun F => ?_, trivial⟩
         refine WL.qy (y_loadN rfl rfl a28 s28 rfl) rfl rfl rfl ?_
         exact WL.done1 rfl rfl rfl
        ·refine ⟨fun F => ?_, trivial⟩
         refine WL.qy (y_move rfl) rfl rfl rfl ?_
         exact WL.done1 rfl rfl rfl
        ·refine ⟨fun F => ?_, trivial⟩
         refine WL.fn rfl rfl rfl rfl (f34_c _ _ hr137) ⟨(Le.agd ⟨(Le.refl _), (Le.refl _), (Le.refl _), (Le.refl _), (Le.refl _), trivial⟩), (Le.refl _), trivial⟩ (Wt.yes rfl rfl rfl) rfl rfl ?_
         exact WL.done1 rfl rfl rfl
        ·refine ⟨fun F => ?_, trivial⟩
         refine WL.qy (y_loadN rfl rfl a28 s28 rfl) rfl rfl rfl ?_
         exact WL.done1 rfl rfl rfl
        ·refine ⟨fun F => ?_, trivial⟩
         refine WL.qy (y_move rfl) rfl rfl rfl ?_
         exact WL.done1 rfl rfl rfl
        ·refine ⟨fun F => ?_, trivial⟩
         refine WL.fn rfl rfl rfl rfl (f35_c _ _ hr138) ⟨(Le.agd ⟨(Le.refl _), (Le.refl _), (Le.refl _), (Le.refl _), (Le.refl _), trivial⟩), (Le.refl _), trivial⟩ (Wt.yes rfl rfl rfl) rfl rfl ?_
         exact WL.done1 rfl rfl rfl
        ·refine ⟨fun F => ?_, trivial⟩
         refine WL.fn rfl rfl rfl rfl (f33_c _ _ hr139) ⟨(Le.refl _), (Le.refl _), trivial⟩ (Wt.yes rfl rfl rfl) rfl rfl ?_
         exact WL.done1 rfl rfl rfl
        ·refine ⟨fun F => ?_, trivial⟩
         refine WL.qy (y_not rfl) rfl rfl rfl ?_
         exact WL.done1 rfl rfl rfl
        ·refine ⟨fun F => ?_, trivial⟩
         refine WL.qn (y_pick_f rfl rfl) rfl ?_
         exact WL.done1 rfl rfl rfl
       ·exact we_lp ⟨(!r139), h, (Sub.cons rfl (Le.refl _) (Sub.cons rfl (Le.refl _) (Sub.cons rfl (Le.refl _) (Sub.cons rfl (Le.refl _) (Sub.cons rfl (Le.refl _) (Sub.cons rfl (Le.refl _) (Sub.nil _))))))), ⟨⟨rfl, ⟨(Le.refl _), (Le.refl _), (Le.refl _), (Le.refl _), (Le.refl _), trivial⟩⟩, trivial⟩⟩
     ·rintro env1 st1 ⟨t133, h, hsub, hst⟩
      subst hk134
      dsimp only at h
      refine WC.sub hsub (WC.weak hst ?_)
      refine wc_cond rfl (fun hc4 => ?_) (fun hc4 => ?_)
      ·replace h := condT h hc4
       refine wc_sr ?_
       refine WL.as rfl rfl ?_
       refine WL.ns ?_
       refine wc_ret ?_
       refine we_blk_ret ?_
       refine we_seq_ret ?_
       refine we_lp_ret ?_
       refine we_blk_ret ?_
       refine we_lp_ret ?_
       obtain rfl := Option.some.inj h
       exact we_ret_fn (rs1 rfl (rv_t rfl)) (Le.refl _)
      ·replace h := condF h hc4
       refine wc_skip ?_
       refine we_blk ?_
       refine we_seq ?_
       refine wc_region ?_
       refine WL.mv rfl rfl ?_
       refine WL.qn (y_add rfl rfl rfl) rfl ?_
       refine WL.as rfl rfl ?_
       refine WL.nil ?_
       exact we_lp ⟨n, ⟨(IntKind.i64.wrap (iq122 + 1)), h, (Sub.cons rfl (Le.refl _) (Sub.cons rfl (Le.refl _) (Sub.cons rfl (Le.refl _) (Sub.cons rfl (Le.refl _) (Sub.cons rfl (Le.refl _) (Sub.nil _)))))), ⟨⟨rfl, ⟨(Le.refl _), (Le.refl _), (Le.refl _), (Le.refl _), (Le.refl _), trivial⟩⟩, trivial⟩⟩, Nat.lt_succ_self n⟩
  ·replace h := condF h hc1
   refine wc_exit ?_
   refine we_seq_exit ?_
   refine we_lp_exit ?_
   refine we_blk_hit ?_
   exact we_lp ⟨h, (Sub.nil _), ⟨⟨rfl, ⟨(Le.refl _), (Le.refl _), (Le.refl _), (Le.refl _), (Le.refl _), trivial⟩⟩, trivial⟩⟩
 ·rintro env1 st1 ⟨h, hsub, hst⟩
  subst hk120
  dsimp only at h
  refine WC.sub hsub (WC.weak hst ?_)
  refine wc_sr ?_
  obtain ⟨r140, hr140, h⟩ := bindS h
  refine WL.fn rfl rfl rfl rfl (f17_c hr140) trivial (Wt.none rfl) rfl rfl ?_
  refine WL.as rfl rfl ?_
  refine WL.ns ?_
  refine wc_ret ?_
  obtain rfl := Option.some.inj h
  exact we_ret_fn (rs1 rfl (rv_t rfl)) (Le.refl _)

end Go.Proofs.YteafckpdbmncfaaDoor
