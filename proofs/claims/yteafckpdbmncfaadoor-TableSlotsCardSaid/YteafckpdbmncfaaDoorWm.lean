/- The walks of functions that this law reaches. -/
import Derived.Test.YteafckpdbmncfaaDoorWr
set_option maxHeartbeats 4000000
set_option maxRecDepth 100000
namespace Go.Proofs.YteafckpdbmncfaaDoor
open Go Go.Sk

theorem f44_c (t0 : Table) (sub1 : Int) {r : Int} (h : f44 t0 sub1 = some r) : Pu Tryd.prog 44 [.ag (R28 t0), .i .i64 sub1] (.i .u8 r) := by
 unfold f44 at h
 refine fn_intro Tryd.func44 (by kernel_rfl) rfl rfl rfl (fun φφ ww => ?_)
 refine wc_sr ?_
 refine WL.s ((b_boxd rfl rfl (Les.refl _)).does) (Wt.none rfl) rfl rfl ?_
 refine WL.as rfl rfl ?_
 refine WL.ns ?_
 refine wc_seq ?_
 refine wc_seq ?_
 refine wc_region_draw (by kernel_rfl) (by kernel_rfl) ?_
 refine WQ.qn (y_move rfl) rfl ?_
 refine WQ.qn (y_fieldAddrc f28_1 rfl) rfl ?_
 refine WQ.qn (y_loadc rfl a23 rfl) rfl ?_
 refine WQ.qn (y_len_map E40 t0.subs e23 rfl rfl (Le.refl _)) rfl ?_
 refine WQ.q (YieldsQ.fn rfl rfl rfl rfl rfl (f51_c _ _) ⟨(Le.refl _), (Le.refl _), trivial⟩) (Wt.none rfl) rfl rfl ?_
 refine WQ.qn (y_not rfl) rfl ?_
 refine WQ.qn (y_move rfl) rfl ?_
 obtain ⟨b38, hb38, h⟩ := bindS h
 apply WQ.grp 12 (t := 11) (d := 23) (z := b38)
 ·exact rfl
 ·intro hg11
  have h := condT hb38 hg11
  refine WQ.skips 11 rfl ?_
  refine WQ.qn (y_pick_t rfl rfl) rfl ?_
  obtain rfl := Option.some.inj h
  exact WQ.nil ⟨[_, _, _, _, _, _, _, _, _, _, _, _], rfl, rfl, rfl⟩
 ·intro hg11
  have h := condF hb38 hg11
  refine WQ.qy (y_fieldAddrc f28_1 rfl) rfl rfl rfl ?_
  refine WQ.qy (y_loadc rfl a23 rfl) rfl rfl rfl ?_
  refine WQ.qy (y_move rfl) rfl rfl rfl ?_
  obtain ⟨x39, hx39, h⟩ := bindS h
  refine WQ.qy (y_indexAddr e23 rfl (Le.refl _) rfl (idx_nonneg hx39) (idx_row E40_eq hx39) rfl) rfl rfl rfl ?_
  refine WQ.qy (y_fieldAddrc f40_0 rfl) rfl rfl rfl ?_
  refine WQ.qy (y_loadc rfl a3 rfl) rfl rfl rfl ?_
  refine WQ.qy (y_fieldAddrc f28_0 rfl) rfl rfl rfl ?_
  refine WQ.qy (y_loadc rfl a22 rfl) rfl rfl rfl ?_
  refine WQ.qy (y_len_map E54 t0.types e22 rfl rfl (Le.refl _)) rfl rfl rfl ?_
  refine WQ.q (YieldsQ.fn rfl rfl rfl rfl rfl (f51_c _ _) ⟨(Le.refl _), (Le.refl _), trivial⟩) (Wt.yes rfl rfl rfl) rfl rfl ?_
  refine WQ.qy (y_not rfl) rfl rfl rfl ?_
  refine WQ.qn (y_pick_f rfl rfl) rfl ?_
  obtain rfl := Option.some.inj h
  exact WQ.nil ⟨[_, _, _, _, _, _, _, _, _, _, _, _], rfl, rfl, rfl⟩
 refine WQ.nil ?_
 refine we_seq ?_
 refine wc_cond rfl (fun hc1 => ?_) (fun hc1 => ?_)
 ·replace h := condT h hc1
  refine wc_sr ?_
  refine WL.as rfl rfl ?_
  refine WL.ns ?_
  refine wc_ret ?_
  refine we_seq_ret ?_
  obtain rfl := Option.some.inj h
  exact we_ret_fn (rs1 rfl (rv_t rfl)) (Le.refl _)
 ·replace h := condF h hc1
  refine wc_skip ?_
  refine we_seq ?_
  refine wc_seq ?_
  refine wc_region_draw (by kernel_rfl) (by kernel_rfl) ?_
  refine WQ.qn (y_fieldAddrc f28_0 rfl) rfl ?_
  refine WQ.qn (y_loadc rfl a22 rfl) rfl ?_
  refine WQ.qn (y_fieldAddrc f28_1 rfl) rfl ?_
  refine WQ.qn (y_loadc rfl a23 rfl) rfl ?_
  refine WQ.qn (y_move rfl) rfl ?_
  obtain ⟨x40, hx40, h⟩ := bindS h
  refine WQ.qn (y_indexAddr e23 rfl (Le.refl _) rfl (idx_nonneg hx40) (idx_row E40_eq hx40) rfl) rfl ?_
  refine WQ.qn (y_fieldAddrc f40_0 rfl) rfl ?_
  refine WQ.qn (y_loadc rfl a3 rfl) rfl ?_
  obtain ⟨x41, hx41, h⟩ := bindS h
  refine WQ.qn (y_indexAddr e22 rfl (Le.refl _) rfl (idx_nonneg hx41) (idx_row E54_eq hx41) rfl) rfl ?_
  refine WQ.qn (y_fieldAddrc f54_0 rfl) rfl ?_
  refine WQ.qn (y_loadc rfl a49 rfl) rfl ?_
  refine WQ.qn (y_assign rfl) rfl ?_
  refine WQ.nil ?_
  refine we_seq ?_
  refine wc_ret ?_
  obtain rfl := Option.some.inj h
  exact we_ret_fn (rs1 rfl (rv_t rfl)) (Le.refl _)

theorem f56_c (t0 : Table) (sub1 : Int) {r : Bool} (h : f56 t0 sub1 = some r) : Pu Tryd.prog 56 [.ag (R28 t0), .i .i64 sub1] (.b r) := by
 unfold f56 at h
 refine fn_intro Tryd.func56 (by kernel_rfl) rfl rfl rfl (fun φφ ww => ?_)
 refine wc_sr ?_
 refine WL.s ((b_boxd rfl rfl (Les.refl _)).does) (Wt.none rfl) rfl rfl ?_
 refine WL.as rfl rfl ?_
 refine WL.ns ?_
 refine wc_sr ?_
 refine WL.qn (y_loadcN rfl a28 s28 rfl) rfl ?_
 refine WL.mv rfl rfl ?_
 obtain ⟨r18, hr18, h⟩ := bindS h
 refine WL.fn rfl rfl rfl rfl (f44_c _ _ hr18) ⟨(Le.refl _), (Le.refl _), trivial⟩ (Wt.none rfl) rfl rfl ?_
 refine WL.qn (y_eql rfl rfl) rfl ?_
 refine WL.mv rfl rfl ?_
 obtain ⟨b19, hb19, h⟩ := bindS h
 apply WL.grp 5 (t := 9) (d := 14) (z := b19)
 ·exact rfl
 ·intro hg9
  have h := condT hb19 hg9
  refine WL.skips 4 rfl ?_
  refine WL.qn (y_pick_t rfl rfl) rfl ?_
  obtain rfl := Option.some.inj h
  exact WL.nil ⟨rfl, [_, _, _, _, _], rfl, rfl, rfl⟩
 ·intro hg9
  have h := condF hb19 hg9
  refine WL.qy (y_loadcN rfl a28 s28 rfl) rfl rfl rfl ?_
  refine WL.qy (y_move rfl) rfl rfl rfl ?_
  obtain ⟨r20, hr20, h⟩ := bindS h
  refine WL.fn rfl rfl rfl rfl (f44_c _ _ hr20) ⟨(Le.refl _), (Le.refl _), trivial⟩ (Wt.yes rfl rfl rfl) rfl rfl ?_
  refine WL.qy (y_eql rfl rfl) rfl rfl rfl ?_
  refine WL.qn (y_pick_f rfl rfl) rfl ?_
  obtain rfl := Option.some.inj h
  exact WL.nil ⟨rfl, [_, _, _, _, _], rfl, rfl, rfl⟩
 refine WL.as rfl rfl ?_
 refine WL.ns ?_
 refine wc_ret ?_
 obtain rfl := Option.some.inj h
 exact we_ret_fn (rs1 rfl (rv_t rfl)) (Le.refl _)

theorem f26_c (t0 : Table) (sub1 : Int) {r : Int × Int × Bool} (h : f26 t0 sub1 = some r) : Pu Tryd.prog 26 [.ag (R28 t0), .i .i64 sub1] (.tu [.i .i64 r.1, .i .i64 r.2.1, .b r.2.2]) := by
 unfold f26 at h
 refine fn_intro Tryd.func26 (by kernel_rfl) rfl rfl rfl (fun φφ ww => ?_)
 refine wc_sr ?_
 refine WL.s ((b_boxd rfl rfl (Les.refl _)).does) (Wt.none rfl) rfl rfl ?_
 refine WL.as rfl rfl ?_
 refine WL.as rfl rfl ?_
 refine WL.as rfl rfl ?_
 refine WL.ns ?_
 refine wc_seq ?_
 refine wc_sr ?_
 refine WL.qn (y_loadcN rfl a28 s28 rfl) rfl ?_
 refine WL.mv rfl rfl ?_
 obtain ⟨r26, hr26, h⟩ := bindS h
 refine WL.fn rfl rfl rfl rfl (f56_c _ _ hr26) ⟨(Le.refl _), (Le.refl _), trivial⟩ (Wt.none rfl) rfl rfl ?_
 refine WL.qn (y_not rfl) rfl ?_
 refine WL.ns ?_
 refine wc_cond rfl (fun hc1 => ?_) (fun hc1 => ?_)
 ·replace h := condT h hc1
  refine wc_sr ?_
  refine WL.as rfl rfl ?_
  refine WL.as rfl rfl ?_
  refine WL.as rfl rfl ?_
  refine WL.ns ?_
  refine wc_ret ?_
  refine we_seq_ret ?_
  obtain rfl := Option.some.inj h
  exact we_ret_fn (rs3 rfl (rv_t rfl) (rv_t rfl) (rv_t rfl)) (Le.tud ⟨(Le.refl _), (Le.refl _), (Le.refl _), trivial⟩)
 ·replace h := condF h hc1
  refine wc_skip ?_
  refine we_seq ?_
  refine wc_seq ?_
  refine wc_region_draw (by kernel_rfl) (by kernel_rfl) ?_
  refine WQ.qn (y_fieldAddrc f28_1 rfl) rfl ?_
  refine WQ.qn (y_loadc rfl a23 rfl) rfl ?_
  refine WQ.qn (y_move rfl) rfl ?_
  obtain ⟨x27, hx27, h⟩ := bindS h
  refine WQ.qn (y_indexAddr e23 rfl (Le.refl _) rfl (idx_nonneg hx27) (idx_row E40_eq hx27) rfl) rfl ?_
  refine WQ.qn (y_fieldAddrc f40_1 rfl) rfl ?_
  refine WQ.qn (y_loadc rfl a2 rfl) rfl ?_
  refine WQ.qn (y_fieldAddrc f28_1 rfl) rfl ?_
  refine WQ.qn (y_loadc rfl a23 rfl) rfl ?_
  refine WQ.qn (y_move rfl) rfl ?_
  obtain ⟨x28, hx28, h⟩ := bindS h
  refine WQ.qn (y_indexAddr e23 rfl (Le.refl _) rfl (idx_nonneg hx28) (idx_row E40_eq hx28) rfl) rfl ?_
  refine WQ.qn (y_fieldAddrc f40_2 rfl) rfl ?_
  refine WQ.qn (y_loadc rfl a2 rfl) rfl ?_
  refine WQ.qn (y_assign rfl) rfl ?_
  refine WQ.qn (y_assign rfl) rfl ?_
  refine WQ.qn (y_assign rfl) rfl ?_
  refine WQ.nil ?_
  refine we_seq ?_
  refine wc_ret ?_
  obtain rfl := Option.some.inj h
  exact we_ret_fn (rs3 rfl (rv_t rfl) (rv_t rfl) (rv_t rfl)) (Le.tud ⟨(Le.refl _), (Le.refl _), (Le.refl _), trivial⟩)

theorem f78_c (t0 : Table) (sub1 : Int) (most2 : Int) {r : Bool} (h : f78 t0 sub1 most2 = some r) : Pu Tryd.prog 78 [.ag (R28 t0), .i .i64 sub1, .i .i64 most2] (.b r) := by
 unfold f78 at h
 refine fn_intro Tryd.func78 (by kernel_rfl) rfl rfl rfl (fun φφ ww => ?_)
 refine wc_sr ?_
 refine WL.s ((b_boxd rfl rfl (Les.refl _)).does) (Wt.none rfl) rfl rfl ?_
 refine WL.as rfl rfl ?_
 refine WL.ns ?_
 refine wc_sr ?_
 refine WL.qn (y_loadcN rfl a28 s28 rfl) rfl ?_
 refine WL.mv rfl rfl ?_
 obtain ⟨r37, hr37, h⟩ := bindS h
 refine WL.fn rfl rfl rfl rfl (f26_c _ _ hr37) ⟨(Le.refl _), (Le.refl _), trivial⟩ (Wt.none rfl) rfl rfl ?_
 refine WL.mv rfl rfl ?_
 refine WL.qn (y_extractd rfl rfl) rfl ?_
 refine WL.qn (y_extractd rfl rfl) rfl ?_
 refine WL.qn (y_extractd rfl rfl) rfl ?_
 refine WL.as rfl rfl ?_
 refine WL.as rfl rfl ?_
 refine WL.as rfl rfl ?_
 refine WL.ns ?_
 refine wc_sr ?_
 refine WL.mv rfl rfl ?_
 refine WL.mv rfl rfl ?_
 apply WL.and 4 (t := 18) (d := 22)
 ·exact rfl
 ·intro hg18
  refine WL.qy (y_move rfl) rfl rfl rfl ?_
  refine WL.qy (y_move rfl) rfl rfl rfl ?_
  refine WL.qy (y_leq rfl rfl) rfl rfl rfl ?_
  refine WL.qn (y_pick_t rfl rfl) rfl ?_
  exact WL.nil ⟨rfl, [_, _, _, _], rfl, rfl, rfl⟩
 ·refine WL.skips 3 rfl ?_
  refine WL.qn (y_pick_f rfl rfl) rfl ?_
  exact WL.nil ⟨rfl, [_, _, _, _], rfl, rfl, rfl⟩
 refine WL.mv rfl rfl ?_
 apply WL.and 9 (t := 23) (d := 32)
 ·exact rfl
 ·intro hg23
  refine WL.qy (y_move rfl) rfl rfl rfl ?_
  refine WL.qy (y_conv Tryd.underlying2 Tryd.underlying92 rfl rfl) rfl rfl rfl ?_
  refine WL.qy (y_move rfl) rfl rfl rfl ?_
  refine WL.qy (y_conv Tryd.underlying2 Tryd.underlying92 rfl rfl) rfl rfl rfl ?_
  refine WL.qy (y_sub rfl rfl rfl) rfl rfl rfl ?_
  refine WL.qy (y_move rfl) rfl rfl rfl ?_
  refine WL.qy (y_conv Tryd.underlying2 Tryd.underlying92 rfl rfl) rfl rfl rfl ?_
  refine WL.qy (y_lss rfl rfl) rfl rfl rfl ?_
  refine WL.qn (y_pick_t rfl rfl) rfl ?_
  exact WL.nil ⟨rfl, [_, _, _, _, _, _, _, _, _], rfl, rfl, rfl⟩
 ·refine WL.skips 8 rfl ?_
  refine WL.qn (y_pick_f rfl rfl) rfl ?_
  exact WL.nil ⟨rfl, [_, _, _, _, _, _, _, _, _], rfl, rfl, rfl⟩
 refine WL.as rfl rfl ?_
 refine WL.ns ?_
 refine wc_ret ?_
 obtain rfl := Option.some.inj h
 exact we_ret_fn (rs1 rfl (rv_t rfl)) (Le.refl _)

theorem f45_c (t0 : Table) (sub1 : Int) (v2 : Int) {r : Bool} (h : f45 t0 sub1 v2 = some r) : Pu Tryd.prog 45 [.ag (R28 t0), .i .i64 sub1, .i .i64 v2] (.b r) := by
 unfold f45 at h
 refine fn_intro Tryd.func45 (by kernel_rfl) rfl rfl rfl (fun φφ ww => ?_)
 refine wc_sr ?_
 refine WL.s ((b_boxd rfl rfl (Les.refl _)).does) (Wt.none rfl) rfl rfl ?_
 refine WL.as rfl rfl ?_
 refine WL.ns ?_
 refine wc_sr ?_
 refine WL.qn (y_loadcN rfl a28 s28 rfl) rfl ?_
 refine WL.mv rfl rfl ?_
 obtain ⟨r32, hr32, h⟩ := bindS h
 refine WL.fn rfl rfl rfl rfl (f26_c _ _ hr32) ⟨(Le.refl _), (Le.refl _), trivial⟩ (Wt.none rfl) rfl rfl ?_
 refine WL.mv rfl rfl ?_
 refine WL.qn (y_extractd rfl rfl) rfl ?_
 refine WL.qn (y_extractd rfl rfl) rfl ?_
 refine WL.qn (y_extractd rfl rfl) rfl ?_
 refine WL.as rfl rfl ?_
 refine WL.as rfl rfl ?_
 refine WL.as rfl rfl ?_
 refine WL.ns ?_
 refine wc_sr ?_
 refine WL.mv rfl rfl ?_
 refine WL.mv rfl rfl ?_
 apply WL.and 4 (t := 18) (d := 22)
 ·exact rfl
 ·intro hg18
  refine WL.qy (y_move rfl) rfl rfl rfl ?_
  refine WL.qy (y_move rfl) rfl rfl rfl ?_
  refine WL.qy (y_geq rfl rfl) rfl rfl rfl ?_
  refine WL.qn (y_pick_t rfl rfl) rfl ?_
  exact WL.nil ⟨rfl, [_, _, _, _], rfl, rfl, rfl⟩
 ·refine WL.skips 3 rfl ?_
  refine WL.qn (y_pick_f rfl rfl) rfl ?_
  exact WL.nil ⟨rfl, [_, _, _, _], rfl, rfl, rfl⟩
 refine WL.mv rfl rfl ?_
 apply WL.and 4 (t := 23) (d := 27)
 ·exact rfl
 ·intro hg23
  refine WL.qy (y_move rfl) rfl rfl rfl ?_
  refine WL.qy (y_move rfl) rfl rfl rfl ?_
  refine WL.qy (y_leq rfl rfl) rfl rfl rfl ?_
  refine WL.qn (y_pick_t rfl rfl) rfl ?_
  exact WL.nil ⟨rfl, [_, _, _, _], rfl, rfl, rfl⟩
 ·refine WL.skips 3 rfl ?_
  refine WL.qn (y_pick_f rfl rfl) rfl ?_
  exact WL.nil ⟨rfl, [_, _, _, _], rfl, rfl, rfl⟩
 refine WL.as rfl rfl ?_
 refine WL.ns ?_
 refine wc_ret ?_
 obtain rfl := Option.some.inj h
 exact we_ret_fn (rs1 rfl (rv_t rfl)) (Le.refl _)

theorem f72_c (a0 : List ByteArray) (b1 : List ByteArray) {r : Bool} (h : f72 a0 b1 = some r) : Pu Tryd.prog 72 [.sl (List.map E9 a0), .sl (List.map E9 b1)] (.b r) := by
 unfold f72 at h
 refine fn_intro Tryd.func72 (by kernel_rfl) rfl rfl rfl (fun φφ ww => ?_)
 refine wc_sr ?_
 refine WL.as rfl rfl ?_
 refine WL.ns ?_
 refine wc_seq ?_
 refine wc_sr ?_
 refine WL.mv rfl rfl ?_
 refine WL.qn (y_len_map E9 a0 e50 rfl rfl (Le.refl _)) rfl ?_
 refine WL.mv rfl rfl ?_
 refine WL.qn (y_len_map E9 b1 e50 rfl rfl (Le.refl _)) rfl ?_
 refine WL.qn (y_neq rfl rfl) rfl ?_
 refine WL.ns ?_
 refine wc_cond rfl (fun hc1 => ?_) (fun hc1 => ?_)
 ·replace h := condT h hc1
  refine wc_sr ?_
  refine WL.as rfl rfl ?_
  refine WL.ns ?_
  refine wc_ret ?_
  refine we_seq_ret ?_
  obtain rfl := Option.some.inj h
  exact we_ret_fn (rs1 rfl (rv_t rfl)) (Le.refl _)
 ·replace h := condF h hc1
  refine wc_skip ?_
  refine we_seq ?_
  replace h := letkS h
  obtain ⟨k29, hk29, h⟩ := h
  refine wc_cut (fun env' st' => k29 () = some r ∧ Sub [] env' ∧ SLe st' []) ?_ ?_
  ·refine wc_sr ?_
   refine WL.as rfl rfl ?_
   refine WL.ns ?_
   refine wc_block ?_
   refine wc_loop (fun n env' st' => ∃ (iq31 : Int), f72_l1 a0 b1 k29 n iq31 = some r ∧ Sub [(0, .d (.sl (List.map E9 a0))), (1, .d (.sl (List.map E9 b1))), (5, .d (D.i .i64 iq31))] env' ∧ SLe st' []) (fun n => n) 9223372036854775808 ⟨0, h, (Sub.cons rfl (Le.refl _) (Sub.cons rfl (Le.refl _) (Sub.cons rfl (Le.refl _) (Sub.nil _)))), trivial⟩ ?_
   rintro n env1 st1 ⟨iq31, h, hsub, hst⟩
   cases n with
   | zero => rw [f72_l1] at h; cases h
   | succ n =>
   rw [f72_l1] at h
   refine WC.sub hsub (WC.weak hst ?_)
   refine wc_seq ?_
   refine wc_sr ?_
   refine WL.mv rfl rfl ?_
   refine WL.mv rfl rfl ?_
   refine WL.qn (y_len_map E9 a0 e50 rfl rfl (Le.refl _)) rfl ?_
   refine WL.qn (y_lss rfl rfl) rfl ?_
   refine WL.ns ?_
   refine wc_cond rfl (fun hc2 => ?_) (fun hc2 => ?_)
   ·replace h := condT h hc2
    refine wc_skip ?_
    refine we_seq ?_
    refine wc_seq ?_
    refine wc_block ?_
    refine wc_seq ?_
    refine wc_region_draw (by kernel_rfl) (by kernel_rfl) ?_
    refine WQ.qn (y_move rfl) rfl ?_
    refine WQ.qn (y_move rfl) rfl ?_
    obtain ⟨x33, hx33, h⟩ := bindS h
    refine WQ.qn (y_indexAddr e50 rfl (Le.refl _) rfl (idx_nonneg hx33) (idx_row E9_eq hx33) rfl) rfl ?_
    refine WQ.qn (y_loadc rfl a9 rfl) rfl ?_
    refine WQ.qn (y_move rfl) rfl ?_
    refine WQ.qn (y_move rfl) rfl ?_
    obtain ⟨x34, hx34, h⟩ := bindS h
    refine WQ.qn (y_indexAddr e50 rfl (Le.refl _) rfl (idx_nonneg hx34) (idx_row E9_eq hx34) rfl) rfl ?_
    refine WQ.qn (y_loadc rfl a9 rfl) rfl ?_
    refine WQ.qn (y_nes rfl rfl) rfl ?_
    refine WQ.nil ?_
    refine we_seq ?_
    refine wc_cond rfl (fun hc3 => ?_) (fun hc3 => ?_)
    ·replace h := condT h hc3
     refine wc_sr ?_
     refine WL.as rfl rfl ?_
     refine WL.ns ?_
     refine wc_ret ?_
     refine we_blk_ret ?_
     refine we_seq_ret ?_
     refine we_lp_ret ?_
     refine we_blk_ret ?_
     refine we_lp_ret ?_
     obtain rfl := Option.some.inj h
     exact we_ret_fn (rs1 rfl (rv_t rfl)) (Le.refl _)
    ·replace h := condF h hc3
     refine wc_skip ?_
     refine we_blk ?_
     refine we_seq ?_
     refine wc_region ?_
     refine WL.mv rfl rfl ?_
     refine WL.qn (y_add rfl rfl rfl) rfl ?_
     refine WL.as rfl rfl ?_
     refine WL.nil ?_
     exact we_lp ⟨n, ⟨(IntKind.i64.wrap (iq31 + 1)), h, (Sub.cons rfl (Le.refl _) (Sub.cons rfl (Le.refl _) (Sub.cons rfl (Le.refl _) (Sub.nil _)))), trivial⟩, Nat.lt_succ_self n⟩
   ·replace h := condF h hc2
    refine wc_exit ?_
    refine we_seq_exit ?_
    refine we_lp_exit ?_
    refine we_blk_hit ?_
    exact we_lp ⟨h, (Sub.nil _), trivial⟩
  ·rintro env1 st1 ⟨h, hsub, hst⟩
   subst hk29
   dsimp only at h
   refine WC.sub hsub (WC.weak hst ?_)
   refine wc_sr ?_
   refine WL.as rfl rfl ?_
   refine WL.ns ?_
   refine wc_ret ?_
   obtain rfl := Option.some.inj h
   exact we_ret_fn (rs1 rfl (rv_t rfl)) (Le.refl _)

theorem f73_c (a0 : List CompRow) (b1 : List CompRow) {r : Bool} (h : f73 a0 b1 = some r) : Pu Tryd.prog 73 [.sl (List.map E56 a0), .sl (List.map E56 b1)] (.b r) := by
 unfold f73 at h
 refine fn_intro Tryd.func73 (by kernel_rfl) rfl rfl rfl (fun φφ ww => ?_)
 refine wc_sr ?_
 refine WL.as rfl rfl ?_
 refine WL.ns ?_
 refine wc_seq ?_
 refine wc_sr ?_
 refine WL.mv rfl rfl ?_
 refine WL.qn (y_len_map E56 a0 e51 rfl rfl (Le.refl _)) rfl ?_
 refine WL.mv rfl rfl ?_
 refine WL.qn (y_len_map E56 b1 e51 rfl rfl (Le.refl _)) rfl ?_
 refine WL.qn (y_neq rfl rfl) rfl ?_
 refine WL.ns ?_
 refine wc_cond rfl (fun hc1 => ?_) (fun hc1 => ?_)
 ·replace h := condT h hc1
  refine wc_sr ?_
  refine WL.as rfl rfl ?_
  refine WL.ns ?_
  refine wc_ret ?_
  refine we_seq_ret ?_
  obtain rfl := Option.some.inj h
  exact we_ret_fn (rs1 rfl (rv_t rfl)) (Le.refl _)
 ·replace h := condF h hc1
  refine wc_skip ?_
  refine we_seq ?_
  replace h := letkS h
  obtain ⟨k71, hk71, h⟩ := h
  refine wc_cut (fun env' st' => k71 () = some r ∧ Sub [] env' ∧ SLe st' []) ?_ ?_
  ·refine wc_sr ?_
   refine WL.as rfl rfl ?_
   refine WL.ns ?_
   refine wc_block ?_
   refine wc_loop (fun n env' st' => ∃ (iq73 : Int), f73_l1 a0 b1 k71 n iq73 = some r ∧ Sub [(0, .d (.sl (List.map E56 a0))), (1, .d (.sl (List.map E56 b1))), (5, .d (D.i .i64 iq73))] env' ∧ SLe st' []) (fun n => n) 9223372036854775808 ⟨0, h, (Sub.cons rfl (Le.refl _) (Sub.cons rfl (Le.refl _) (Sub.cons rfl (Le.refl _) (Sub.nil _)))), trivial⟩ ?_
   rintro n env1 st1 ⟨iq73, h, hsub, hst⟩
   cases n with
   | zero => rw [f73_l1] at h; cases h
   | succ n =>
   rw [f73_l1] at h
   refine WC.sub hsub (WC.weak hst ?_)
   refine wc_seq ?_
   refine wc_sr ?_
   refine WL.mv rfl rfl ?_
   refine WL.mv rfl rfl ?_
   refine WL.qn (y_len_map E56 a0 e51 rfl rfl (Le.refl _)) rfl ?_
   refine WL.qn (y_lss rfl rfl) rfl ?_
   refine WL.ns ?_
   refine wc_cond rfl (fun hc2 => ?_) (fun hc2 => ?_)
   ·replace h := condT h hc2
    refine wc_skip ?_
    refine we_seq ?_
    refine wc_seq ?_
    refine wc_block ?_
    refine wc_sr ?_
    refine WL.mv rfl rfl ?_
    refine WL.mv rfl rfl ?_
    obtain ⟨x75, hx75, h⟩ := bindS h
    refine WL.qn (y_indexAddr e51 rfl (Le.refl _) rfl (idx_nonneg hx75) (idx_row E56_eq hx75) rfl) rfl ?_
    refine WL.qn (y_loadcN rfl a56 s56 rfl) rfl ?_
    refine WL.s ((b_alloc z56).does) (Wt.none rfl) rfl rfl ?_
    refine WL.s0 (d_store rfl rfl rfl rfl rfl rfl s56 rfl rfl) (Wt.none rfl) rfl ?_
    refine WL.ns ?_
    refine wc_sr ?_
    refine WL.mv rfl rfl ?_
    refine WL.mv rfl rfl ?_
    obtain ⟨x76, hx76, h⟩ := bindS h
    refine WL.qn (y_indexAddr e51 rfl (Le.refl _) rfl (idx_nonneg hx76) (idx_row E56_eq hx76) rfl) rfl ?_
    refine WL.qn (y_loadcN rfl a56 s56 rfl) rfl ?_
    refine WL.s ((b_alloc z56).does) (Wt.none rfl) rfl rfl ?_
    refine WL.s0 (d_store rfl rfl rfl rfl rfl rfl s56 rfl rfl) (Wt.none rfl) rfl ?_
    refine WL.ns ?_
    refine wc_sr ?_
    refine WL.qn (y_fieldAddr f56_0 rfl) rfl ?_
    refine WL.qn (y_load rfl rfl a9 rfl) rfl ?_
    refine WL.qn (y_fieldAddr f56_0 rfl) rfl ?_
    refine WL.qn (y_load rfl rfl a9 rfl) rfl ?_
    refine WL.qn (y_nes rfl rfl) rfl ?_
    refine WL.mv rfl rfl ?_
    apply WL.or 6 (t := 32) (d := 38)
    ·exact rfl
    ·intro hg32
     refine WL.qy (y_fieldAddr f56_1 rfl) rfl rfl rfl ?_
     refine WL.qy (y_load rfl rfl a3 rfl) rfl rfl rfl ?_
     refine WL.qy (y_fieldAddr f56_1 rfl) rfl rfl rfl ?_
     refine WL.qy (y_load rfl rfl a3 rfl) rfl rfl rfl ?_
     refine WL.qy (y_neq rfl rfl) rfl rfl rfl ?_
     refine WL.qn (y_pick_f rfl rfl) rfl ?_
     exact WL.nil ⟨rfl, [_, _, _, _, _, _], rfl, rfl, rfl⟩
    ·refine WL.skips 5 rfl ?_
     refine WL.qn (y_pick_t rfl rfl) rfl ?_
     exact WL.nil ⟨rfl, [_, _, _, _, _, _], rfl, rfl, rfl⟩
    refine WL.mv rfl rfl ?_
    apply WL.or 6 (t := 39) (d := 45)
    ·exact rfl
    ·intro hg39
     refine WL.qy (y_fieldAddr f56_2 rfl) rfl rfl rfl ?_
     refine WL.qy (y_load rfl rfl a4 rfl) rfl rfl rfl ?_
     refine WL.qy (y_fieldAddr f56_2 rfl) rfl rfl rfl ?_
     refine WL.qy (y_load rfl rfl a4 rfl) rfl rfl rfl ?_
     refine WL.qy (y_neb Tryd.underlying4 rfl rfl) rfl rfl rfl ?_
     refine WL.qn (y_pick_f rfl rfl) rfl ?_
     exact WL.nil ⟨rfl, [_, _, _, _, _, _], rfl, rfl, rfl⟩
    ·refine WL.skips 5 rfl ?_
     refine WL.qn (y_pick_t rfl rfl) rfl ?_
     exact WL.nil ⟨rfl, [_, _, _, _, _, _], rfl, rfl, rfl⟩
    refine WL.mv rfl rfl ?_
    apply WL.or 6 (t := 46) (d := 52)
    ·exact rfl
    ·intro hg46
     refine WL.qy (y_fieldAddr f56_3 rfl) rfl rfl rfl ?_
     refine WL.qy (y_load rfl rfl a2 rfl) rfl rfl rfl ?_
     refine WL.qy (y_fieldAddr f56_3 rfl) rfl rfl rfl ?_
     refine WL.qy (y_load rfl rfl a2 rfl) rfl rfl rfl ?_
     refine WL.qy (y_neq rfl rfl) rfl rfl rfl ?_
     refine WL.qn (y_pick_f rfl rfl) rfl ?_
     exact WL.nil ⟨rfl, [_, _, _, _, _, _], rfl, rfl, rfl⟩
    ·refine WL.skips 5 rfl ?_
     refine WL.qn (y_pick_t rfl rfl) rfl ?_
     exact WL.nil ⟨rfl, [_, _, _, _, _, _], rfl, rfl, rfl⟩
    refine WL.mv rfl rfl ?_
    apply WL.or 6 (t := 53) (d := 59)
    ·exact rfl
    ·intro hg53
     refine WL.qy (y_fieldAddr f56_4 rfl) rfl rfl rfl ?_
     refine WL.qy (y_load rfl rfl a4 rfl) rfl rfl rfl ?_
     refine WL.qy (y_fieldAddr f56_4 rfl) rfl rfl rfl ?_
     refine WL.qy (y_load rfl rfl a4 rfl) rfl rfl rfl ?_
     refine WL.qy (y_neb Tryd.underlying4 rfl rfl) rfl rfl rfl ?_
     refine WL.qn (y_pick_f rfl rfl) rfl ?_
     exact WL.nil ⟨rfl, [_, _, _, _, _, _], rfl, rfl, rfl⟩
    ·refine WL.skips 5 rfl ?_
     refine WL.qn (y_pick_t rfl rfl) rfl ?_
     exact WL.nil ⟨rfl, [_, _, _, _, _, _], rfl, rfl, rfl⟩
    refine WL.mv rfl rfl ?_
    obtain ⟨b77, hb77, h⟩ := bindS h
    apply WL.grp 7 (t := 60) (d := 67) (z := b77)
    ·exact rfl
    ·intro hg60
     have h := condT hb77 hg60
     refine WL.skips 6 rfl ?_
     refine WL.qn (y_pick_t rfl rfl) rfl ?_
     obtain rfl := Option.some.inj h
     exact WL.nil ⟨rfl, [_, _, _, _, _, _, _], rfl, rfl, rfl⟩
    ·intro hg60
     have h := condF hb77 hg60
     refine WL.qy (y_fieldAddr f56_5 rfl) rfl rfl rfl ?_
     refine WL.qy (y_load rfl rfl a41 rfl) rfl rfl rfl ?_
     refine WL.qy (y_fieldAddr f56_5 rfl) rfl rfl rfl ?_
     refine WL.qy (y_load rfl rfl a41 rfl) rfl rfl rfl ?_
     obtain ⟨r78, hr78, h⟩ := bindS h
     refine WL.fn rfl rfl rfl rfl (f33_c _ _ hr78) ⟨(Le.refl _), (Le.refl _), trivial⟩ (Wt.yes rfl rfl rfl) rfl rfl ?_
     refine WL.qy (y_not rfl) rfl rfl rfl ?_
     refine WL.qn (y_pick_f rfl rfl) rfl ?_
     obtain rfl := Option.some.inj h
     exact WL.nil ⟨rfl, [_, _, _, _, _, _, _], rfl, rfl, rfl⟩
    refine WL.ns ?_
    refine wc_cond rfl (fun hc3 => ?_) (fun hc3 => ?_)
    ·replace h := condT h hc3
     refine wc_sr ?_
     refine WL.as rfl rfl ?_
     refine WL.ns ?_
     refine wc_ret ?_
     refine we_blk_ret ?_
     refine we_seq_ret ?_
     refine we_lp_ret ?_
     refine we_blk_ret ?_
     refine we_lp_ret ?_
     obtain rfl := Option.some.inj h
     exact we_ret_fn (rs1 rfl (rv_t rfl)) (Le.refl _)
    ·replace h := condF h hc3
     refine wc_skip ?_
     refine we_blk ?_
     refine we_seq ?_
     refine wc_region ?_
     refine WL.mv rfl rfl ?_
     refine WL.qn (y_add rfl rfl rfl) rfl ?_
     refine WL.as rfl rfl ?_
     refine WL.nil ?_
     refine WE.drop 0 (env' := [(0, .d (.sl (List.map E56 a0))), (1, .d (.sl (List.map E56 b1))), (5, .d (D.i .i64 (IntKind.i64.wrap (iq73 + 1))))]) (Sub.one rfl (Sub.one rfl (Sub.one rfl (Sub.nil _)))) rfl rfl (Nat.zero_le _) ?_
     exact we_lp ⟨n, ⟨(IntKind.i64.wrap (iq73 + 1)), h, (Sub.cons rfl (Le.refl _) (Sub.cons rfl (Le.refl _) (Sub.cons rfl (Le.refl _) (Sub.nil _)))), trivial⟩, Nat.lt_succ_self n⟩
   ·replace h := condF h hc2
    refine wc_exit ?_
    refine we_seq_exit ?_
    refine we_lp_exit ?_
    refine we_blk_hit ?_
    exact we_lp ⟨h, (Sub.nil _), trivial⟩
  ·rintro env1 st1 ⟨h, hsub, hst⟩
   subst hk71
   dsimp only at h
   refine WC.sub hsub (WC.weak hst ?_)
   refine wc_sr ?_
   refine WL.as rfl rfl ?_
   refine WL.ns ?_
   refine wc_ret ?_
   obtain rfl := Option.some.inj h
   exact we_ret_fn (rs1 rfl (rv_t rfl)) (Le.refl _)

theorem f53_c (a0 : Ty) (b1 : Ty) {r : Bool} (h : f53 a0 b1 = some r) : Pu Tryd.prog 53 [.ag (R54 a0), .ag (R54 b1)] (.b r) := by
 unfold f53 at h
 refine fn_intro Tryd.func53 (by kernel_rfl) rfl rfl rfl (fun φφ ww => ?_)
 refine wc_sr ?_
 refine WL.s ((b_boxd rfl rfl (Les.refl _)).does) (Wt.none rfl) rfl rfl ?_
 refine WL.s ((b_boxd rfl rfl (Les.refl _)).does) (Wt.none rfl) rfl rfl ?_
 refine WL.as rfl rfl ?_
 refine WL.ns ?_
 refine wc_sr ?_
 refine WL.qn (y_fieldAddrc f54_0 rfl) rfl ?_
 refine WL.qn (y_loadc rfl a49 rfl) rfl ?_
 refine WL.qn (y_fieldAddrc f54_0 rfl) rfl ?_
 refine WL.qn (y_loadc rfl a49 rfl) rfl ?_
 refine WL.qn (y_eql rfl rfl) rfl ?_
 refine WL.mv rfl rfl ?_
 apply WL.and 6 (t := 12) (d := 18)
 ·exact rfl
 ·intro hg12
  refine WL.qy (y_fieldAddrc f54_1 rfl) rfl rfl rfl ?_
  refine WL.qy (y_loadc rfl a9 rfl) rfl rfl rfl ?_
  refine WL.qy (y_fieldAddrc f54_1 rfl) rfl rfl rfl ?_
  refine WL.qy (y_loadc rfl a9 rfl) rfl rfl rfl ?_
  refine WL.qy (y_eqs rfl rfl) rfl rfl rfl ?_
  refine WL.qn (y_pick_t rfl rfl) rfl ?_
  exact WL.nil ⟨rfl, [_, _, _, _, _, _], rfl, rfl, rfl⟩
 ·refine WL.skips 5 rfl ?_
  refine WL.qn (y_pick_f rfl rfl) rfl ?_
  exact WL.nil ⟨rfl, [_, _, _, _, _, _], rfl, rfl, rfl⟩
 refine WL.mv rfl rfl ?_
 apply WL.and 6 (t := 19) (d := 25)
 ·exact rfl
 ·intro hg19
  refine WL.qy (y_fieldAddrc f54_2 rfl) rfl rfl rfl ?_
  refine WL.qy (y_loadc rfl a3 rfl) rfl rfl rfl ?_
  refine WL.qy (y_fieldAddrc f54_2 rfl) rfl rfl rfl ?_
  refine WL.qy (y_loadc rfl a3 rfl) rfl rfl rfl ?_
  refine WL.qy (y_eql rfl rfl) rfl rfl rfl ?_
  refine WL.qn (y_pick_t rfl rfl) rfl ?_
  exact WL.nil ⟨rfl, [_, _, _, _, _, _], rfl, rfl, rfl⟩
 ·refine WL.skips 5 rfl ?_
  refine WL.qn (y_pick_f rfl rfl) rfl ?_
  exact WL.nil ⟨rfl, [_, _, _, _, _, _], rfl, rfl, rfl⟩
 refine WL.mv rfl rfl ?_
 apply WL.and 6 (t := 26) (d := 32)
 ·exact rfl
 ·intro hg26
  refine WL.qy (y_fieldAddrc f54_3 rfl) rfl rfl rfl ?_
  refine WL.qy (y_loadc rfl a3 rfl) rfl rfl rfl ?_
  refine WL.qy (y_fieldAddrc f54_3 rfl) rfl rfl rfl ?_
  refine WL.qy (y_loadc rfl a3 rfl) rfl rfl rfl ?_
  refine WL.qy (y_eql rfl rfl) rfl rfl rfl ?_
  refine WL.qn (y_pick_t rfl rfl) rfl ?_
  exact WL.nil ⟨rfl, [_, _, _, _, _, _], rfl, rfl, rfl⟩
 ·refine WL.skips 5 rfl ?_
  refine WL.qn (y_pick_f rfl rfl) rfl ?_
  exact WL.nil ⟨rfl, [_, _, _, _, _, _], rfl, rfl, rfl⟩
 refine WL.mv rfl rfl ?_
 obtain ⟨b136, hb136, h⟩ := bindS h
 apply WL.grp 6 (t := 33) (d := 39) (z := b136)
 ·exact rfl
 ·intro hg33
  have h := condT hb136 hg33
  refine WL.qy (y_fieldAddrc f54_4 rfl) rfl rfl rfl ?_
  refine WL.qy (y_loadc rfl a50 rfl) rfl rfl rfl ?_
  refine WL.qy (y_fieldAddrc f54_4 rfl) rfl rfl rfl ?_
  refine WL.qy (y_loadc rfl a50 rfl) rfl rfl rfl ?_
  obtain ⟨r137, hr137, h⟩ := bindS h
  refine WL.fn rfl rfl rfl rfl (f72_c _ _ hr137) ⟨(Le.refl _), (Le.refl _), trivial⟩ (Wt.yes rfl rfl rfl) rfl rfl ?_
  refine WL.qn (y_pick_t rfl rfl) rfl ?_
  obtain rfl := Option.some.inj h
  exact WL.nil ⟨rfl, [_, _, _, _, _, _], rfl, rfl, rfl⟩
 ·intro hg33
  have h := condF hb136 hg33
  refine WL.skips 5 rfl ?_
  refine WL.qn (y_pick_f rfl rfl) rfl ?_
  obtain rfl := Option.some.inj h
  exact WL.nil ⟨rfl, [_, _, _, _, _, _], rfl, rfl, rfl⟩
 refine WL.mv rfl rfl ?_
 apply WL.and 6 (t := 40) (d := 46)
 ·exact rfl
 ·intro hg40
  refine WL.qy (y_fieldAddrc f54_5 rfl) rfl rfl rfl ?_
  refine WL.qy (y_loadc rfl a3 rfl) rfl rfl rfl ?_
  refine WL.qy (y_fieldAddrc f54_5 rfl) rfl rfl rfl ?_
  refine WL.qy (y_loadc rfl a3 rfl) rfl rfl rfl ?_
  refine WL.qy (y_eql rfl rfl) rfl rfl rfl ?_
  refine WL.qn (y_pick_t rfl rfl) rfl ?_
  exact WL.nil ⟨rfl, [_, _, _, _, _, _], rfl, rfl, rfl⟩
 ·refine WL.skips 5 rfl ?_
  refine WL.qn (y_pick_f rfl rfl) rfl ?_
  exact WL.nil ⟨rfl, [_, _, _, _, _, _], rfl, rfl, rfl⟩
 refine WL.mv rfl rfl ?_
 apply WL.and 6 (t := 47) (d := 53)
 ·exact rfl
 ·intro hg47
  refine WL.qy (y_fieldAddrc f54_6 rfl) rfl rfl rfl ?_
  refine WL.qy (y_loadc rfl a3 rfl) rfl rfl rfl ?_
  refine WL.qy (y_fieldAddrc f54_6 rfl) rfl rfl rfl ?_
  refine WL.qy (y_loadc rfl a3 rfl) rfl rfl rfl ?_
  refine WL.qy (y_eql rfl rfl) rfl rfl rfl ?_
  refine WL.qn (y_pick_t rfl rfl) rfl ?_
  exact WL.nil ⟨rfl, [_, _, _, _, _, _], rfl, rfl, rfl⟩
 ·refine WL.skips 5 rfl ?_
  refine WL.qn (y_pick_f rfl rfl) rfl ?_
  exact WL.nil ⟨rfl, [_, _, _, _, _, _], rfl, rfl, rfl⟩
 refine WL.as rfl rfl ?_
 refine WL.ns ?_
 refine wc_sr ?_
 refine WL.qn (y_fieldAddrc f54_7 rfl) rfl ?_
 refine WL.qn (y_loadc rfl a3 rfl) rfl ?_
 refine WL.qn (y_fieldAddrc f54_7 rfl) rfl ?_
 refine WL.qn (y_loadc rfl a3 rfl) rfl ?_
 refine WL.qn (y_eql rfl rfl) rfl ?_
 refine WL.mv rfl rfl ?_
 apply WL.and 6 (t := 59) (d := 65)
 ·exact rfl
 ·intro hg59
  refine WL.qy (y_fieldAddrc f54_8 rfl) rfl rfl rfl ?_
  refine WL.qy (y_loadc rfl a9 rfl) rfl rfl rfl ?_
  refine WL.qy (y_fieldAddrc f54_8 rfl) rfl rfl rfl ?_
  refine WL.qy (y_loadc rfl a9 rfl) rfl rfl rfl ?_
  refine WL.qy (y_eqs rfl rfl) rfl rfl rfl ?_
  refine WL.qn (y_pick_t rfl rfl) rfl ?_
  exact WL.nil ⟨rfl, [_, _, _, _, _, _], rfl, rfl, rfl⟩
 ·refine WL.skips 5 rfl ?_
  refine WL.qn (y_pick_f rfl rfl) rfl ?_
  exact WL.nil ⟨rfl, [_, _, _, _, _, _], rfl, rfl, rfl⟩
 refine WL.mv rfl rfl ?_
 apply WL.and 6 (t := 66) (d := 72)
 ·exact rfl
 ·intro hg66
  refine WL.qy (y_fieldAddrc f54_9 rfl) rfl rfl rfl ?_
  refine WL.qy (y_loadc rfl a4 rfl) rfl rfl rfl ?_
  refine WL.qy (y_fieldAddrc f54_9 rfl) rfl rfl rfl ?_
  refine WL.qy (y_loadc rfl a4 rfl) rfl rfl rfl ?_
  refine WL.qy (y_eqb Tryd.underlying4 rfl rfl) rfl rfl rfl ?_
  refine WL.qn (y_pick_t rfl rfl) rfl ?_
  exact WL.nil ⟨rfl, [_, _, _, _, _, _], rfl, rfl, rfl⟩
 ·refine WL.skips 5 rfl ?_
  refine WL.qn (y_pick_f rfl rfl) rfl ?_
  exact WL.nil ⟨rfl, [_, _, _, _, _, _], rfl, rfl, rfl⟩
 refine WL.mv rfl rfl ?_
 apply WL.and 6 (t := 73) (d := 79)
 ·exact rfl
 ·intro hg73
  refine WL.qy (y_fieldAddrc f54_10 rfl) rfl rfl rfl ?_
  refine WL.qy (y_loadc rfl a2 rfl) rfl rfl rfl ?_
  refine WL.qy (y_fieldAddrc f54_10 rfl) rfl rfl rfl ?_
  refine WL.qy (y_loadc rfl a2 rfl) rfl rfl rfl ?_
  refine WL.qy (y_eql rfl rfl) rfl rfl rfl ?_
  refine WL.qn (y_pick_t rfl rfl) rfl ?_
  exact WL.nil ⟨rfl, [_, _, _, _, _, _], rfl, rfl, rfl⟩
 ·refine WL.skips 5 rfl ?_
  refine WL.qn (y_pick_f rfl rfl) rfl ?_
  exact WL.nil ⟨rfl, [_, _, _, _, _, _], rfl, rfl, rfl⟩
 refine WL.mv rfl rfl ?_
 obtain ⟨b138, hb138, h⟩ := bindS h
 apply WL.grp 6 (t := 80) (d := 86) (z := b138)
 ·exact rfl
 ·intro hg80
  have h := condT hb138 hg80
  refine WL.qy (y_fieldAddrc f54_11 rfl) rfl rfl rfl ?_
  refine WL.qy (y_loadc rfl a51 rfl) rfl rfl rfl ?_
  refine WL.qy (y_fieldAddrc f54_11 rfl) rfl rfl rfl ?_
  refine WL.qy (y_loadc rfl a51 rfl) rfl rfl rfl ?_
  obtain ⟨r139, hr139, h⟩ := bindS h
  refine WL.fn rfl rfl rfl rfl (f73_c _ _ hr139) ⟨(Le.refl _), (Le.refl _), trivial⟩ (Wt.yes rfl rfl rfl) rfl rfl ?_
  refine WL.qn (y_pick_t rfl rfl) rfl ?_
  obtain rfl := Option.some.inj h
  exact WL.nil ⟨rfl, [_, _, _, _, _, _], rfl, rfl, rfl⟩
 ·intro hg80
  have h := condF hb138 hg80
  refine WL.skips 5 rfl ?_
  refine WL.qn (y_pick_f rfl rfl) rfl ?_
  obtain rfl := Option.some.inj h
  exact WL.nil ⟨rfl, [_, _, _, _, _, _], rfl, rfl, rfl⟩
 refine WL.mv rfl rfl ?_
 apply WL.and 6 (t := 87) (d := 93)
 ·exact rfl
 ·intro hg87
  refine WL.qy (y_fieldAddrc f54_12 rfl) rfl rfl rfl ?_
  refine WL.qy (y_loadc rfl a3 rfl) rfl rfl rfl ?_
  refine WL.qy (y_fieldAddrc f54_12 rfl) rfl rfl rfl ?_
  refine WL.qy (y_loadc rfl a3 rfl) rfl rfl rfl ?_
  refine WL.qy (y_eql rfl rfl) rfl rfl rfl ?_
  refine WL.qn (y_pick_t rfl rfl) rfl ?_
  exact WL.nil ⟨rfl, [_, _, _, _, _, _], rfl, rfl, rfl⟩
 ·refine WL.skips 5 rfl ?_
  refine WL.qn (y_pick_f rfl rfl) rfl ?_
  exact WL.nil ⟨rfl, [_, _, _, _, _, _], rfl, rfl, rfl⟩
 refine WL.as rfl rfl ?_
 refine WL.ns ?_
 refine wc_sr ?_
 refine WL.mv rfl rfl ?_
 refine WL.mv rfl rfl ?_
 apply WL.and 2 (t := 95) (d := 97)
 ·exact rfl
 ·intro hg95
  refine WL.qy (y_move rfl) rfl rfl rfl ?_
  refine WL.qn (y_pick_t rfl rfl) rfl ?_
  exact WL.nil ⟨rfl, [_, _], rfl, rfl, rfl⟩
 ·refine WL.skips 1 rfl ?_
  refine WL.qn (y_pick_f rfl rfl) rfl ?_
  exact WL.nil ⟨rfl, [_, _], rfl, rfl, rfl⟩
 refine WL.mv rfl rfl ?_
 apply WL.and 6 (t := 98) (d := 104)
 ·exact rfl
 ·intro hg98
  refine WL.qy (y_fieldAddrc f54_13 rfl) rfl rfl rfl ?_
  refine WL.qy (y_loadc rfl a52 rfl) rfl rfl rfl ?_
  refine WL.qy (y_fieldAddrc f54_13 rfl) rfl rfl rfl ?_
  refine WL.qy (y_loadc rfl a52 rfl) rfl rfl rfl ?_
  refine WL.qy (y_eql rfl rfl) rfl rfl rfl ?_
  refine WL.qn (y_pick_t rfl rfl) rfl ?_
  exact WL.nil ⟨rfl, [_, _, _, _, _, _], rfl, rfl, rfl⟩
 ·refine WL.skips 5 rfl ?_
  refine WL.qn (y_pick_f rfl rfl) rfl ?_
  exact WL.nil ⟨rfl, [_, _, _, _, _, _], rfl, rfl, rfl⟩
 refine WL.mv rfl rfl ?_
 apply WL.and 6 (t := 105) (d := 111)
 ·exact rfl
 ·intro hg105
  refine WL.qy (y_fieldAddrc f54_14 rfl) rfl rfl rfl ?_
  refine WL.qy (y_loadc rfl a4 rfl) rfl rfl rfl ?_
  refine WL.qy (y_fieldAddrc f54_14 rfl) rfl rfl rfl ?_
  refine WL.qy (y_loadc rfl a4 rfl) rfl rfl rfl ?_
  refine WL.qy (y_eqb Tryd.underlying4 rfl rfl) rfl rfl rfl ?_
  refine WL.qn (y_pick_t rfl rfl) rfl ?_
  exact WL.nil ⟨rfl, [_, _, _, _, _, _], rfl, rfl, rfl⟩
 ·refine WL.skips 5 rfl ?_
  refine WL.qn (y_pick_f rfl rfl) rfl ?_
  exact WL.nil ⟨rfl, [_, _, _, _, _, _], rfl, rfl, rfl⟩
 refine WL.mv rfl rfl ?_
 apply WL.and 6 (t := 112) (d := 118)
 ·exact rfl
 ·intro hg112
  refine WL.qy (y_fieldAddrc f54_15 rfl) rfl rfl rfl ?_
  refine WL.qy (y_loadc rfl a3 rfl) rfl rfl rfl ?_
  refine WL.qy (y_fieldAddrc f54_15 rfl) rfl rfl rfl ?_
  refine WL.qy (y_loadc rfl a3 rfl) rfl rfl rfl ?_
  refine WL.qy (y_eql rfl rfl) rfl rfl rfl ?_
  refine WL.qn (y_pick_t rfl rfl) rfl ?_
  exact WL.nil ⟨rfl, [_, _, _, _, _, _], rfl, rfl, rfl⟩
 ·refine WL.skips 5 rfl ?_
  refine WL.qn (y_pick_f rfl rfl) rfl ?_
  exact WL.nil ⟨rfl, [_, _, _, _, _, _], rfl, rfl, rfl⟩
 refine WL.mv rfl rfl ?_
 apply WL.and 6 (t := 119) (d := 125)
 ·exact rfl
 ·intro hg119
  refine WL.qy (y_fieldAddrc f54_16 rfl) rfl rfl rfl ?_
  refine WL.qy (y_loadc rfl a3 rfl) rfl rfl rfl ?_
  refine WL.qy (y_fieldAddrc f54_16 rfl) rfl rfl rfl ?_
  refine WL.qy (y_loadc rfl a3 rfl) rfl rfl rfl ?_
  refine WL.qy (y_eql rfl rfl) rfl rfl rfl ?_
  refine WL.qn (y_pick_t rfl rfl) rfl ?_
  exact WL.nil ⟨rfl, [_, _, _, _, _, _], rfl, rfl, rfl⟩
 ·refine WL.skips 5 rfl ?_
  refine WL.qn (y_pick_f rfl rfl) rfl ?_
  exact WL.nil ⟨rfl, [_, _, _, _, _, _], rfl, rfl, rfl⟩
 refine WL.mv rfl rfl ?_
 apply WL.and 6 (t := 126) (d := 132)
 ·exact rfl
 ·intro hg126
  refine WL.qy (y_fieldAddrc f54_17 rfl) rfl rfl rfl ?_
  refine WL.qy (y_loadc rfl a3 rfl) rfl rfl rfl ?_
  refine WL.qy (y_fieldAddrc f54_17 rfl) rfl rfl rfl ?_
  refine WL.qy (y_loadc rfl a3 rfl) rfl rfl rfl ?_
  refine WL.qy (y_eql rfl rfl) rfl rfl rfl ?_
  refine WL.qn (y_pick_t rfl rfl) rfl ?_
  exact WL.nil ⟨rfl, [_, _, _, _, _, _], rfl, rfl, rfl⟩
 ·refine WL.skips 5 rfl ?_
  refine WL.qn (y_pick_f rfl rfl) rfl ?_
  exact WL.nil ⟨rfl, [_, _, _, _, _, _], rfl, rfl, rfl⟩
 refine WL.as rfl rfl ?_
 refine WL.ns ?_
 refine wc_ret ?_
 obtain rfl := Option.some.inj h
 exact we_ret_fn (rs1 rfl (rv_t rfl)) (Le.refl _)

theorem f54_c (t0 : Table) (sub1 : Int) {r : Bool} (h : f54 t0 sub1 = some r) : Pu Tryd.prog 54 [.ag (R28 t0), .i .i64 sub1] (.b r) := by
 unfold f54 at h
 refine fn_intro Tryd.func54 (by kernel_rfl) rfl rfl rfl (fun φφ ww => ?_)
 refine wc_sr ?_
 refine WL.s ((b_boxd rfl rfl (Les.refl _)).does) (Wt.none rfl) rfl rfl ?_
 refine WL.as rfl rfl ?_
 refine WL.ns ?_
 refine wc_sr ?_
 refine WL.qn (y_fieldAddrc f28_1 rfl) rfl ?_
 refine WL.qn (y_loadc rfl a23 rfl) rfl ?_
 refine WL.mv rfl rfl ?_
 obtain ⟨x138, hx138, h⟩ := bindS h
 refine WL.qn (y_indexAddr e23 rfl (Le.refl _) rfl (idx_nonneg hx138) (idx_row E40_eq hx138) rfl) rfl ?_
 refine WL.qn (y_loadcN rfl a40 s40 rfl) rfl ?_
 refine WL.s ((b_alloc z40).does) (Wt.none rfl) rfl rfl ?_
 refine WL.s0 (d_store rfl rfl rfl rfl rfl rfl s40 rfl rfl) (Wt.none rfl) rfl ?_
 refine WL.ns ?_
 refine wc_seq ?_
 refine wc_sr ?_
 refine WL.qn (y_fieldAddr f40_0 rfl) rfl ?_
 refine WL.qn (y_load rfl rfl a3 rfl) rfl ?_
 refine WL.qn (y_fieldAddrc f28_0 rfl) rfl ?_
 refine WL.qn (y_loadc rfl a22 rfl) rfl ?_
 refine WL.qn (y_len_map E54 t0.types e22 rfl rfl (Le.refl _)) rfl ?_
 refine WL.fn rfl rfl rfl rfl (f51_c _ _) ⟨(Le.refl _), (Le.refl _), trivial⟩ (Wt.none rfl) rfl rfl ?_
 refine WL.qn (y_not rfl) rfl ?_
 refine WL.mv rfl rfl ?_
 apply WL.or 4 (t := 20) (d := 24)
 ·exact rfl
 ·intro hg20
  refine WL.qy (y_fieldAddr f40_0 rfl) rfl rfl rfl ?_
  refine WL.qy (y_load rfl rfl a3 rfl) rfl rfl rfl ?_
  refine WL.qy (y_eql rfl rfl) rfl rfl rfl ?_
  refine WL.qn (y_pick_f rfl rfl) rfl ?_
  exact WL.nil ⟨rfl, [_, _, _, _], rfl, rfl, rfl⟩
 ·refine WL.skips 3 rfl ?_
  refine WL.qn (y_pick_t rfl rfl) rfl ?_
  exact WL.nil ⟨rfl, [_, _, _, _], rfl, rfl, rfl⟩
 refine WL.ns ?_
 refine wc_cond rfl (fun hc1 => ?_) (fun hc1 => ?_)
 ·replace h := condT h hc1
  refine wc_sr ?_
  refine WL.as rfl rfl ?_
  refine WL.ns ?_
  refine wc_ret ?_
  refine we_seq_ret ?_
  obtain rfl := Option.some.inj h
  exact we_ret_fn (rs1 rfl (rv_t rfl)) (Le.refl _)
 ·replace h := condF h hc1
  refine wc_skip ?_
  refine we_seq ?_
  refine wc_sr ?_
  refine WL.qn (y_fieldAddrc f28_0 rfl) rfl ?_
  refine WL.qn (y_loadc rfl a22 rfl) rfl ?_
  refine WL.qn (y_fieldAddr f40_0 rfl) rfl ?_
  refine WL.qn (y_load rfl rfl a3 rfl) rfl ?_
  obtain ⟨x139, hx139, h⟩ := bindS h
  refine WL.qn (y_indexAddr e22 rfl (Le.refl _) rfl (idx_nonneg hx139) (idx_row E54_eq hx139) rfl) rfl ?_
  refine WL.qn (y_loadcN rfl a54 s54 rfl) rfl ?_
  refine WL.s ((b_alloc z54).does) (Wt.none rfl) rfl rfl ?_
  refine WL.s0 (d_store rfl rfl rfl rfl rfl rfl s54 rfl rfl) (Wt.none rfl) rfl ?_
  refine WL.st (st' := [.row 40 [.d (D.i .i64 x138.t), .d (D.i .i64 x138.lo), .d (D.i .i64 x138.hi)], .row 54 [.d (D.i .u8 x139.kind), .d (D.s x139.name), .d (D.i .i64 x139.parent), .d (D.i .i64 x139.first), .d (.sl (List.map E9 x139.lits)), .d (D.i .i64 x139.index), .d (D.i .i64 x139.elem), .d (D.i .i64 x139.disc), .d (D.s x139.discName), .d (D.b x139.has), .d (D.i .i64 x139.default_), .d (.sl (List.map E56 x139.comps)), .d (D.i .i64 x139.target), .d (D.i .u8 x139.formal), .d (D.b x139.limited), .d (D.i .i64 x139.priv), .d (D.i .i64 x139.full), .d (D.i .i64 x139.level)]]) rfl ?_
  refine WL.ns ?_
  replace h := letkS h
  obtain ⟨k140, hk140, h⟩ := h
  refine wc_cut (fun env' st' => k140 () = some r ∧ Sub [(5, .pt 0 0)] env' ∧ SLe st' [.row 40 [.d (D.i .i64 x138.t), .d (D.i .i64 x138.lo), .d (D.i .i64 x138.hi)], .row 54 [.d (D.i .u8 x139.kind), .d (D.s x139.name), .d (D.i .i64 x139.parent), .d (D.i .i64 x139.first), .d (.sl (List.map E9 x139.lits)), .d (D.i .i64 x139.index), .d (D.i .i64 x139.elem), .d (D.i .i64 x139.disc), .d (D.s x139.discName), .d (D.b x139.has), .d (D.i .i64 x139.default_), .d (.sl (List.map E56 x139.comps)), .d (D.i .i64 x139.target), .d (D.i .u8 x139.formal), .d (D.b x139.limited), .d (D.i .i64 x139.priv), .d (D.i .i64 x139.full), .d (D.i .i64 x139.level)]]) ?_ ?_
  ·refine wc_sr ?_
   refine WL.qn (y_fieldAddr f54_0 rfl) rfl ?_
   refine WL.qn (y_load rfl rfl a49 rfl) rfl ?_
   refine WL.ns ?_
   refine wc_block ?_
   refine wc_sr ?_
   refine WL.qn (y_eql rfl rfl) rfl ?_
   refine WL.as rfl rfl ?_
   refine WL.ns ?_
   refine wc_cond rfl (fun hc2 => ?_) (fun hc2 => ?_)
   ·replace h := condT h hc2
    refine wc_sr ?_
    refine WL.qn (y_fieldAddr f40_1 rfl) rfl ?_
    refine WL.qn (y_load rfl rfl a2 rfl) rfl ?_
    refine WL.qn (y_geq rfl rfl) rfl ?_
    refine WL.mv rfl rfl ?_
    apply WL.and 4 (t := 38) (d := 42)
    ·exact rfl
    ·intro hg38
     refine WL.qy (y_fieldAddr f40_1 rfl) rfl rfl rfl ?_
     refine WL.qy (y_load rfl rfl a2 rfl) rfl rfl rfl ?_
     refine WL.qy (y_leq rfl rfl) rfl rfl rfl ?_
     refine WL.qn (y_pick_t rfl rfl) rfl ?_
     exact WL.nil ⟨rfl, [_, _, _, _], rfl, rfl, rfl⟩
    ·refine WL.skips 3 rfl ?_
     refine WL.qn (y_pick_f rfl rfl) rfl ?_
     exact WL.nil ⟨rfl, [_, _, _, _], rfl, rfl, rfl⟩
    refine WL.mv rfl rfl ?_
    apply WL.and 4 (t := 43) (d := 47)
    ·exact rfl
    ·intro hg43
     refine WL.qy (y_fieldAddr f40_2 rfl) rfl rfl rfl ?_
     refine WL.qy (y_load rfl rfl a2 rfl) rfl rfl rfl ?_
     refine WL.qy (y_geq rfl rfl) rfl rfl rfl ?_
     refine WL.qn (y_pick_t rfl rfl) rfl ?_
     exact WL.nil ⟨rfl, [_, _, _, _], rfl, rfl, rfl⟩
    ·refine WL.skips 3 rfl ?_
     refine WL.qn (y_pick_f rfl rfl) rfl ?_
     exact WL.nil ⟨rfl, [_, _, _, _], rfl, rfl, rfl⟩
    refine WL.mv rfl rfl ?_
    apply WL.and 4 (t := 48) (d := 52)
    ·exact rfl
    ·intro hg48
     refine WL.qy (y_fieldAddr f40_2 rfl) rfl rfl rfl ?_
     refine WL.qy (y_load rfl rfl a2 rfl) rfl rfl rfl ?_
     refine WL.qy (y_leq rfl rfl) rfl rfl rfl ?_
     refine WL.qn (y_pick_t rfl rfl) rfl ?_
     exact WL.nil ⟨rfl, [_, _, _, _], rfl, rfl, rfl⟩
    ·refine WL.skips 3 rfl ?_
     refine WL.qn (y_pick_f rfl rfl) rfl ?_
     exact WL.nil ⟨rfl, [_, _, _, _], rfl, rfl, rfl⟩
    refine WL.as rfl rfl ?_
    refine WL.ns ?_
    refine wc_ret ?_
    refine we_blk_ret ?_
    refine we_lp_ret ?_
    obtain rfl := Option.some.inj h
    exact we_ret_fn (rs1 rfl (rv_t rfl)) (Le.refl _)
   ·replace h := condF h hc2
    refine wc_sr ?_
    refine WL.qn (y_eql rfl rfl) rfl ?_
    refine WL.as rfl rfl ?_
    refine WL.ns ?_
    refine wc_cond rfl (fun hc3 => ?_) (fun hc3 => ?_)
    ·replace h := condT h hc3
     refine wc_sr ?_
     refine WL.qn (y_fieldAddr f54_4 rfl) rfl ?_
     refine WL.qn (y_load rfl rfl a50 rfl) rfl ?_
     refine WL.qn (y_len_map E9 x139.lits e50 rfl rfl (Le.refl _)) rfl ?_
     refine WL.as rfl rfl ?_
     refine WL.ns ?_
     replace h := letkS h
     obtain ⟨k142, hk142, h⟩ := h
     refine wc_cut (fun env' st' => ∃ (n141 : Int), k142 n141 = some r ∧ Sub [(5, .pt 0 0), (7, .d (D.i .i64 n141))] env' ∧ SLe st' [.row 40 [.d (D.i .i64 x138.t), .d (D.i .i64 x138.lo), .d (D.i .i64 x138.hi)], .row 54 [.d (D.i .u8 x139.kind), .d (D.s x139.name), .d (D.i .i64 x139.parent), .d (D.i .i64 x139.first), .d (.sl (List.map E9 x139.lits)), .d (D.i .i64 x139.index), .d (D.i .i64 x139.elem), .d (D.i .i64 x139.disc), .d (D.s x139.discName), .d (D.b x139.has), .d (D.i .i64 x139.default_), .d (.sl (List.map E56 x139.comps)), .d (D.i .i64 x139.target), .d (D.i .u8 x139.formal), .d (D.b x139.limited), .d (D.i .i64 x139.priv), .d (D.i .i64 x139.full), .d (D.i .i64 x139.level)]]) ?_ ?_
     ·refine wc_sr ?_
      refine WL.qn (y_fieldAddr f54_13 rfl) rfl ?_
      refine WL.qn (y_load rfl rfl a52 rfl) rfl ?_
      refine WL.qn (y_eql rfl rfl) rfl ?_
      refine WL.ns ?_
      refine wc_cond rfl (fun hc4 => ?_) (fun hc4 => ?_)
      ·replace h := condT h hc4
       refine wc_region ?_
       refine WL.as rfl rfl ?_
       refine WL.nil ?_
       exact we_lp ⟨1, h, (Sub.cons rfl (Le.refl _) (Sub.cons rfl (Le.refl _) (Sub.nil _))), ⟨⟨rfl, ⟨(Le.refl _), (Le.refl _), (Le.refl _), trivial⟩⟩, ⟨rfl, ⟨(Le.refl _), (Le.refl _), (Le.refl _), (Le.refl _), (Le.refl _), (Le.refl _), (Le.refl _), (Le.refl _), (Le.refl _), (Le.refl _), (Le.refl _), (Le.refl _), (Le.refl _), (Le.refl _), (Le.refl _), (Le.refl _), (Le.refl _), (Le.refl _), trivial⟩⟩, trivial⟩⟩
      ·replace h := condF h hc4
       refine wc_skip ?_
       exact we_lp ⟨(List.length x139.lits : Int), h, (Sub.cons rfl (Le.refl _) (Sub.cons rfl (Le.refl _) (Sub.nil _))), ⟨⟨rfl, ⟨(Le.refl _), (Le.refl _), (Le.refl _), trivial⟩⟩, ⟨rfl, ⟨(Le.refl _), (Le.refl _), (Le.refl _), (Le.refl _), (Le.refl _), (Le.refl _), (Le.refl _), (Le.refl _), (Le.refl _), (Le.refl _), (Le.refl _), (Le.refl _), (Le.refl _), (Le.refl _), (Le.refl _), (Le.refl _), (Le.refl _), (Le.refl _), trivial⟩⟩, trivial⟩⟩
     ·rintro env1 st1 ⟨n141, h, hsub, hst⟩
      subst hk142
      dsimp only at h
      refine WC.sub hsub (WC.weak hst ?_)
      refine wc_sr ?_
      refine WL.qn (y_fieldAddr f40_1 rfl) rfl ?_
      refine WL.qn (y_load rfl rfl a2 rfl) rfl ?_
      refine WL.qn (y_geq rfl rfl) rfl ?_
      refine WL.mv rfl rfl ?_
      apply WL.and 5 (t := 64) (d := 69)
      ·exact rfl
      ·intro hg64
       refine WL.qy (y_fieldAddr f40_1 rfl) rfl rfl rfl ?_
       refine WL.qy (y_load rfl rfl a2 rfl) rfl rfl rfl ?_
       refine WL.qy (y_move rfl) rfl rfl rfl ?_
       refine WL.qy (y_leq rfl rfl) rfl rfl rfl ?_
       refine WL.qn (y_pick_t rfl rfl) rfl ?_
       exact WL.nil ⟨rfl, [_, _, _, _, _], rfl, rfl, rfl⟩
      ·refine WL.skips 4 rfl ?_
       refine WL.qn (y_pick_f rfl rfl) rfl ?_
       exact WL.nil ⟨rfl, [_, _, _, _, _], rfl, rfl, rfl⟩
      refine WL.mv rfl rfl ?_
      apply WL.and 4 (t := 70) (d := 74)
      ·exact rfl
      ·intro hg70
       refine WL.qy (y_fieldAddr f40_2 rfl) rfl rfl rfl ?_
       refine WL.qy (y_load rfl rfl a2 rfl) rfl rfl rfl ?_
       refine WL.qy (y_geq rfl rfl) rfl rfl rfl ?_
       refine WL.qn (y_pick_t rfl rfl) rfl ?_
       exact WL.nil ⟨rfl, [_, _, _, _], rfl, rfl, rfl⟩
      ·refine WL.skips 3 rfl ?_
       refine WL.qn (y_pick_f rfl rfl) rfl ?_
       exact WL.nil ⟨rfl, [_, _, _, _], rfl, rfl, rfl⟩
      refine WL.mv rfl rfl ?_
      apply WL.and 5 (t := 75) (d := 80)
      ·exact rfl
      ·intro hg75
       refine WL.qy (y_fieldAddr f40_2 rfl) rfl rfl rfl ?_
       refine WL.qy (y_load rfl rfl a2 rfl) rfl rfl rfl ?_
       refine WL.qy (y_move rfl) rfl rfl rfl ?_
       refine WL.qy (y_leq rfl rfl) rfl rfl rfl ?_
       refine WL.qn (y_pick_t rfl rfl) rfl ?_
       exact WL.nil ⟨rfl, [_, _, _, _, _], rfl, rfl, rfl⟩
      ·refine WL.skips 4 rfl ?_
       refine WL.qn (y_pick_f rfl rfl) rfl ?_
       exact WL.nil ⟨rfl, [_, _, _, _, _], rfl, rfl, rfl⟩
      refine WL.mv rfl rfl ?_
      apply WL.and 17 (t := 81) (d := 98)
      ·exact rfl
      ·intro hg81
       refine WL.qy (y_fieldAddr f40_1 rfl) rfl rfl rfl ?_
       refine WL.qy (y_load rfl rfl a2 rfl) rfl rfl rfl ?_
       refine WL.qy (y_fieldAddr f40_2 rfl) rfl rfl rfl ?_
       refine WL.qy (y_load rfl rfl a2 rfl) rfl rfl rfl ?_
       refine WL.qy (y_gtr rfl rfl) rfl rfl rfl ?_
       refine WL.qy (y_move rfl) rfl rfl rfl ?_
       apply WL.or 10 (t := 87) (d := 97)
       ·exact rfl
       ·intro hg87
        refine WL.qy (y_fieldAddr f40_1 rfl) rfl rfl rfl ?_
        refine WL.qy (y_load rfl rfl a2 rfl) rfl rfl rfl ?_
        refine WL.qy (y_geq rfl rfl) rfl rfl rfl ?_
        refine WL.qy (y_move rfl) rfl rfl rfl ?_
        apply WL.and 5 (t := 91) (d := 96)
        ·exact rfl
        ·intro hg91
         refine WL.qy (y_fieldAddr f40_2 rfl) rfl rfl rfl ?_
         refine WL.qy (y_load rfl rfl a2 rfl) rfl rfl rfl ?_
         refine WL.qy (y_move rfl) rfl rfl rfl ?_
         refine WL.qy (y_lss rfl rfl) rfl rfl rfl ?_
         refine WL.qy (y_pick_t rfl rfl) rfl rfl rfl ?_
         exact WL.nil ⟨rfl, [_, _, _, _, _], rfl, rfl, rfl⟩
        ·refine WL.skips 4 rfl ?_
         refine WL.qy (y_pick_f rfl rfl) rfl rfl rfl ?_
         exact WL.nil ⟨rfl, [_, _, _, _, _], rfl, rfl, rfl⟩
        refine WL.qy (y_pick_f rfl rfl) rfl rfl rfl ?_
        exact WL.nil ⟨rfl, [_, _, _, _, _, _], rfl, rfl, rfl⟩
       ·refine WL.skips 9 rfl ?_
        refine WL.qy (y_pick_t rfl rfl) rfl rfl rfl ?_
        exact WL.nil ⟨rfl, [_, _, _, _, _, _, _, _, _, _], rfl, rfl, rfl⟩
       refine WL.qn (y_pick_t rfl rfl) rfl ?_
       exact WL.nil ⟨rfl, [_, _, _, _, _, _, _, _], rfl, rfl, rfl⟩
      ·refine WL.skips 16 rfl ?_
       refine WL.qn (y_pick_f rfl rfl) rfl ?_
       exact WL.nil ⟨rfl, [_, _, _, _, _, _, _, _, _, _, _, _, _, _, _, _, _], rfl, rfl, rfl⟩
      refine WL.as rfl rfl ?_
      refine WL.ns ?_
      refine wc_ret ?_
      refine we_blk_ret ?_
      refine we_lp_ret ?_
      obtain rfl := Option.some.inj h
      exact we_ret_fn (rs1 rfl (rv_t rfl)) (Le.refl _)
    ·replace h := condF h hc3
     refine wc_sr ?_
     refine WL.qn (y_eql rfl rfl) rfl ?_
     refine WL.as rfl rfl ?_
     refine WL.ns ?_
     refine wc_cond rfl (fun hc5 => ?_) (fun hc5 => ?_)
     ·replace h := condT h hc5
      refine wc_sr ?_
      refine WL.qn (y_fieldAddr f54_7 rfl) rfl ?_
      refine WL.qn (y_load rfl rfl a3 rfl) rfl ?_
      refine WL.qn (y_neq rfl rfl) rfl ?_
      refine WL.ns ?_
      refine wc_cond rfl (fun hc6 => ?_) (fun hc6 => ?_)
      ·replace h := condT h hc6
       refine wc_sr ?_
       refine WL.qn (y_fieldAddr f40_1 rfl) rfl ?_
       refine WL.qn (y_load rfl rfl a2 rfl) rfl ?_
       refine WL.qn (y_eql rfl rfl) rfl ?_
       refine WL.mv rfl rfl ?_
       apply WL.and 4 (t := 107) (d := 111)
       ·exact rfl
       ·intro hg107
        refine WL.qy (y_fieldAddr f40_2 rfl) rfl rfl rfl ?_
        refine WL.qy (y_load rfl rfl a2 rfl) rfl rfl rfl ?_
        refine WL.qy (y_eql rfl rfl) rfl rfl rfl ?_
        refine WL.qn (y_pick_t rfl rfl) rfl ?_
        exact WL.nil ⟨rfl, [_, _, _, _], rfl, rfl, rfl⟩
       ·refine WL.skips 3 rfl ?_
        refine WL.qn (y_pick_f rfl rfl) rfl ?_
        exact WL.nil ⟨rfl, [_, _, _, _], rfl, rfl, rfl⟩
       refine WL.mv rfl rfl ?_
       obtain ⟨b143, hb143, h⟩ := bindS h
       apply WL.grp 14 (t := 112) (d := 126) (z := b143)
       ·exact rfl
       ·intro hg112
        have h := condT hb143 hg112
        refine WL.skips 13 rfl ?_
        refine WL.qn (y_pick_t rfl rfl) rfl ?_
        obtain rfl := Option.some.inj h
        exact WL.nil ⟨rfl, [_, _, _, _, _, _, _, _, _, _, _, _, _, _], rfl, rfl, rfl⟩
       ·intro hg112
        have h := condF hb143 hg112
        refine WL.qy (y_fieldAddr f40_1 rfl) rfl rfl rfl ?_
        refine WL.qy (y_load rfl rfl a2 rfl) rfl rfl rfl ?_
        refine WL.qy (y_fieldAddr f40_2 rfl) rfl rfl rfl ?_
        refine WL.qy (y_load rfl rfl a2 rfl) rfl rfl rfl ?_
        refine WL.qy (y_eql rfl rfl) rfl rfl rfl ?_
        refine WL.qy (y_move rfl) rfl rfl rfl ?_
        obtain ⟨b144, hb144, h⟩ := bindS h
        apply WL.grp 7 (t := 118) (d := 125) (z := b144)
        ·exact rfl
        ·intro hg118
         have h := condT hb144 hg118
         refine WL.qy (y_loadcN rfl a28 s28 rfl) rfl rfl rfl ?_
         refine WL.qy (y_fieldAddr f54_7 rfl) rfl rfl rfl ?_
         refine WL.qy (y_load rfl rfl a3 rfl) rfl rfl rfl ?_
         refine WL.qy (y_fieldAddr f40_1 rfl) rfl rfl rfl ?_
         refine WL.qy (y_load rfl rfl a2 rfl) rfl rfl rfl ?_
         obtain ⟨r145, hr145, h⟩ := bindS h
         refine WL.fn rfl rfl rfl rfl (f45_c _ _ _ hr145) ⟨(Le.refl _), (Le.refl _), (Le.refl _), trivial⟩ (Wt.yes rfl rfl rfl) rfl rfl ?_
         refine WL.qy (y_pick_t rfl rfl) rfl rfl rfl ?_
         obtain rfl := Option.some.inj h
         exact WL.nil ⟨rfl, [_, _, _, _, _, _, _], rfl, rfl, rfl⟩
        ·intro hg118
         have h := condF hb144 hg118
         refine WL.skips 6 rfl ?_
         refine WL.qy (y_pick_f rfl rfl) rfl rfl rfl ?_
         obtain rfl := Option.some.inj h
         exact WL.nil ⟨rfl, [_, _, _, _, _, _, _], rfl, rfl, rfl⟩
        refine WL.qn (y_pick_f rfl rfl) rfl ?_
        obtain rfl := Option.some.inj h
        exact WL.nil ⟨rfl, [_, _, _, _, _, _, _, _], rfl, rfl, rfl⟩
       refine WL.as rfl rfl ?_
       refine WL.ns ?_
       refine wc_ret ?_
       refine we_blk_ret ?_
       refine we_lp_ret ?_
       obtain rfl := Option.some.inj h
       exact we_ret_fn (rs1 rfl (rv_t rfl)) (Le.refl _)
      ·replace h := condF h hc6
       refine wc_skip ?_
       refine we_blk ?_
       exact we_lp ⟨h, (Sub.cons rfl (Le.refl _) (Sub.nil _)), ⟨⟨rfl, ⟨(Le.refl _), (Le.refl _), (Le.refl _), trivial⟩⟩, ⟨rfl, ⟨(Le.refl _), (Le.refl _), (Le.refl _), (Le.refl _), (Le.refl _), (Le.refl _), (Le.refl _), (Le.refl _), (Le.refl _), (Le.refl _), (Le.refl _), (Le.refl _), (Le.refl _), (Le.refl _), (Le.refl _), (Le.refl _), (Le.refl _), (Le.refl _), trivial⟩⟩, trivial⟩⟩
     ·replace h := condF h hc5
      refine wc_skip ?_
      refine we_blk ?_
      exact we_lp ⟨h, (Sub.cons rfl (Le.refl _) (Sub.nil _)), ⟨⟨rfl, ⟨(Le.refl _), (Le.refl _), (Le.refl _), trivial⟩⟩, ⟨rfl, ⟨(Le.refl _), (Le.refl _), (Le.refl _), (Le.refl _), (Le.refl _), (Le.refl _), (Le.refl _), (Le.refl _), (Le.refl _), (Le.refl _), (Le.refl _), (Le.refl _), (Le.refl _), (Le.refl _), (Le.refl _), (Le.refl _), (Le.refl _), (Le.refl _), trivial⟩⟩, trivial⟩⟩
  ·rintro env1 st1 ⟨h, hsub, hst⟩
   subst hk140
   dsimp only at h
   refine WC.sub hsub (WC.weak hst ?_)
   refine wc_sr ?_
   refine WL.qn (y_fieldAddr f40_1 rfl) rfl ?_
   refine WL.qn (y_load rfl rfl a2 rfl) rfl ?_
   refine WL.qn (y_eql rfl rfl) rfl ?_
   refine WL.mv rfl rfl ?_
   apply WL.and 4 (t := 130) (d := 134)
   ·exact rfl
   ·intro hg130
    refine WL.qy (y_fieldAddr f40_2 rfl) rfl rfl rfl ?_
    refine WL.qy (y_load rfl rfl a2 rfl) rfl rfl rfl ?_
    refine WL.qy (y_eql rfl rfl) rfl rfl rfl ?_
    refine WL.qn (y_pick_t rfl rfl) rfl ?_
    exact WL.nil ⟨rfl, [_, _, _, _], rfl, rfl, rfl⟩
   ·refine WL.skips 3 rfl ?_
    refine WL.qn (y_pick_f rfl rfl) rfl ?_
    exact WL.nil ⟨rfl, [_, _, _, _], rfl, rfl, rfl⟩
   refine WL.as rfl rfl ?_
   refine WL.ns ?_
   refine wc_ret ?_
   obtain rfl := Option.some.inj h
   exact we_ret_fn (rs1 rfl (rv_t rfl)) (Le.refl _)

theorem f74_c (y0 : Ty) : Pu Tryd.prog 74 [.ag (R54 y0)] (.ag (R54 (f74 y0))) := by
 generalize h : f74 y0 = r
 unfold f74 at h
 refine fn_intro Tryd.func74 (by kernel_rfl) rfl rfl rfl (fun φφ ww => ?_)
 refine wc_sr ?_
 refine WL.s ((b_boxd rfl rfl (Les.refl _)).does) (Wt.none rfl) rfl rfl ?_
 refine WL.s ((b_alloc z54).does) (Wt.none rfl) rfl rfl ?_
 refine WL.ns ?_
 refine wc_sr ?_
 refine WL.qn (y_fieldAddrc f54_0 rfl) rfl ?_
 refine WL.qn (y_loadc rfl a49 rfl) rfl ?_
 refine WL.fn rfl rfl rfl rfl (f37_c _) ⟨(Le.refl _), trivial⟩ (Wt.none rfl) rfl rfl ?_
 refine WL.s ((b_alloc z54).does) (Wt.none rfl) rfl rfl ?_
 refine WL.s0 (d_store rfl rfl rfl rfl rfl rfl s54 rfl rfl) (Wt.none rfl) rfl ?_
 refine WL.st (st' := [.row 54 [.d (D.i .u8 0), .d (D.s ByteArray.empty), .d (D.i .i64 0), .d (D.i .i64 0), .d (.v (.slice none 0 0)), .d (D.i .i64 0), .d (D.i .i64 0), .d (D.i .i64 0), .d (D.s ByteArray.empty), .d (D.b false), .d (D.i .i64 0), .d (.v (.slice none 0 0)), .d (D.i .i64 0), .d (D.i .u8 0), .d (D.b false), .d (D.i .i64 0), .d (D.i .i64 0), .d (D.i .i64 0)], .row 54 [.d (D.i .u8 ((f37 y0.kind).kind)), .d (D.s ((f37 y0.kind).name)), .d (D.i .i64 ((f37 y0.kind).parent)), .d (D.i .i64 ((f37 y0.kind).first)), .d (.sl (List.map E9 ((f37 y0.kind).lits))), .d (D.i .i64 ((f37 y0.kind).index)), .d (D.i .i64 ((f37 y0.kind).elem)), .d (D.i .i64 ((f37 y0.kind).disc)), .d (D.s ((f37 y0.kind).discName)), .d (D.b ((f37 y0.kind).has)), .d (D.i .i64 ((f37 y0.kind).default_)), .d (.sl (List.map E56 ((f37 y0.kind).comps))), .d (D.i .i64 ((f37 y0.kind).target)), .d (D.i .u8 ((f37 y0.kind).formal)), .d (D.b ((f37 y0.kind).limited)), .d (D.i .i64 ((f37 y0.kind).priv)), .d (D.i .i64 ((f37 y0.kind).full)), .d (D.i .i64 ((f37 y0.kind).level))]]) rfl ?_
 refine WL.ns ?_
 refine wc_sr ?_
 refine WL.qn (y_fieldAddrc f54_1 rfl) rfl ?_
 refine WL.qn (y_loadc rfl a9 rfl) rfl ?_
 refine WL.qn (y_fieldAddr f54_1 rfl) rfl ?_
 refine WL.s0 (d_store rfl rfl rfl rfl rfl rfl s9 rfl rfl) (Wt.none rfl) rfl ?_
 refine WL.st (st' := [.row 54 [.d (D.i .u8 0), .d (D.s ByteArray.empty), .d (D.i .i64 0), .d (D.i .i64 0), .d (.v (.slice none 0 0)), .d (D.i .i64 0), .d (D.i .i64 0), .d (D.i .i64 0), .d (D.s ByteArray.empty), .d (D.b false), .d (D.i .i64 0), .d (.v (.slice none 0 0)), .d (D.i .i64 0), .d (D.i .u8 0), .d (D.b false), .d (D.i .i64 0), .d (D.i .i64 0), .d (D.i .i64 0)], .row 54 [.d (D.i .u8 ((f37 y0.kind).kind)), .d (D.s y0.name), .d (D.i .i64 ((f37 y0.kind).parent)), .d (D.i .i64 ((f37 y0.kind).first)), .d (.sl (List.map E9 ((f37 y0.kind).lits))), .d (D.i .i64 ((f37 y0.kind).index)), .d (D.i .i64 ((f37 y0.kind).elem)), .d (D.i .i64 ((f37 y0.kind).disc)), .d (D.s ((f37 y0.kind).discName)), .d (D.b ((f37 y0.kind).has)), .d (D.i .i64 ((f37 y0.kind).default_)), .d (.sl (List.map E56 ((f37 y0.kind).comps))), .d (D.i .i64 ((f37 y0.kind).target)), .d (D.i .u8 ((f37 y0.kind).formal)), .d (D.b ((f37 y0.kind).limited)), .d (D.i .i64 ((f37 y0.kind).priv)), .d (D.i .i64 ((f37 y0.kind).full)), .d (D.i .i64 ((f37 y0.kind).level))]]) rfl ?_
 refine WL.ns ?_
 refine wc_sr ?_
 refine WL.qn (y_fieldAddrc f54_3 rfl) rfl ?_
 refine WL.qn (y_loadc rfl a3 rfl) rfl ?_
 refine WL.qn (y_fieldAddr f54_3 rfl) rfl ?_
 refine WL.s0 (d_store rfl rfl rfl rfl rfl rfl s3 rfl rfl) (Wt.none rfl) rfl ?_
 refine WL.st (st' := [.row 54 [.d (D.i .u8 0), .d (D.s ByteArray.empty), .d (D.i .i64 0), .d (D.i .i64 0), .d (.v (.slice none 0 0)), .d (D.i .i64 0), .d (D.i .i64 0), .d (D.i .i64 0), .d (D.s ByteArray.empty), .d (D.b false), .d (D.i .i64 0), .d (.v (.slice none 0 0)), .d (D.i .i64 0), .d (D.i .u8 0), .d (D.b false), .d (D.i .i64 0), .d (D.i .i64 0), .d (D.i .i64 0)], .row 54 [.d (D.i .u8 ((f37 y0.kind).kind)), .d (D.s y0.name), .d (D.i .i64 ((f37 y0.kind).parent)), .d (D.i .i64 y0.first), .d (.sl (List.map E9 ((f37 y0.kind).lits))), .d (D.i .i64 ((f37 y0.kind).index)), .d (D.i .i64 ((f37 y0.kind).elem)), .d (D.i .i64 ((f37 y0.kind).disc)), .d (D.s ((f37 y0.kind).discName)), .d (D.b ((f37 y0.kind).has)), .d (D.i .i64 ((f37 y0.kind).default_)), .d (.sl (List.map E56 ((f37 y0.kind).comps))), .d (D.i .i64 ((f37 y0.kind).target)), .d (D.i .u8 ((f37 y0.kind).formal)), .d (D.b ((f37 y0.kind).limited)), .d (D.i .i64 ((f37 y0.kind).priv)), .d (D.i .i64 ((f37 y0.kind).full)), .d (D.i .i64 ((f37 y0.kind).level))]]) rfl ?_
 refine WL.ns ?_
 refine wc_sr ?_
 refine WL.qn (y_fieldAddrc f54_17 rfl) rfl ?_
 refine WL.qn (y_loadc rfl a3 rfl) rfl ?_
 refine WL.qn (y_fieldAddr f54_17 rfl) rfl ?_
 refine WL.s0 (d_store rfl rfl rfl rfl rfl rfl s3 rfl rfl) (Wt.none rfl) rfl ?_
 refine WL.st (st' := [.row 54 [.d (D.i .u8 0), .d (D.s ByteArray.empty), .d (D.i .i64 0), .d (D.i .i64 0), .d (.v (.slice none 0 0)), .d (D.i .i64 0), .d (D.i .i64 0), .d (D.i .i64 0), .d (D.s ByteArray.empty), .d (D.b false), .d (D.i .i64 0), .d (.v (.slice none 0 0)), .d (D.i .i64 0), .d (D.i .u8 0), .d (D.b false), .d (D.i .i64 0), .d (D.i .i64 0), .d (D.i .i64 0)], .row 54 [.d (D.i .u8 ((f37 y0.kind).kind)), .d (D.s y0.name), .d (D.i .i64 ((f37 y0.kind).parent)), .d (D.i .i64 y0.first), .d (.sl (List.map E9 ((f37 y0.kind).lits))), .d (D.i .i64 ((f37 y0.kind).index)), .d (D.i .i64 ((f37 y0.kind).elem)), .d (D.i .i64 ((f37 y0.kind).disc)), .d (D.s ((f37 y0.kind).discName)), .d (D.b ((f37 y0.kind).has)), .d (D.i .i64 ((f37 y0.kind).default_)), .d (.sl (List.map E56 ((f37 y0.kind).comps))), .d (D.i .i64 ((f37 y0.kind).target)), .d (D.i .u8 ((f37 y0.kind).formal)), .d (D.b ((f37 y0.kind).limited)), .d (D.i .i64 ((f37 y0.kind).priv)), .d (D.i .i64 ((f37 y0.kind).full)), .d (D.i .i64 y0.level)]]) rfl ?_
 refine WL.ns ?_
 refine wc_sr ?_
 refine WL.qn (y_fieldAddrc f54_15 rfl) rfl ?_
 refine WL.qn (y_loadc rfl a3 rfl) rfl ?_
 refine WL.qn (y_fieldAddr f54_15 rfl) rfl ?_
 refine WL.s0 (d_store rfl rfl rfl rfl rfl rfl s3 rfl rfl) (Wt.none rfl) rfl ?_
 refine WL.st (st' := [.row 54 [.d (D.i .u8 0), .d (D.s ByteArray.empty), .d (D.i .i64 0), .d (D.i .i64 0), .d (.v (.slice none 0 0)), .d (D.i .i64 0), .d (D.i .i64 0), .d (D.i .i64 0), .d (D.s ByteArray.empty), .d (D.b false), .d (D.i .i64 0), .d (.v (.slice none 0 0)), .d (D.i .i64 0), .d (D.i .u8 0), .d (D.b false), .d (D.i .i64 0), .d (D.i .i64 0), .d (D.i .i64 0)], .row 54 [.d (D.i .u8 ((f37 y0.kind).kind)), .d (D.s y0.name), .d (D.i .i64 ((f37 y0.kind).parent)), .d (D.i .i64 y0.first), .d (.sl (List.map E9 ((f37 y0.kind).lits))), .d (D.i .i64 ((f37 y0.kind).index)), .d (D.i .i64 ((f37 y0.kind).elem)), .d (D.i .i64 ((f37 y0.kind).disc)), .d (D.s ((f37 y0.kind).discName)), .d (D.b ((f37 y0.kind).has)), .d (D.i .i64 ((f37 y0.kind).default_)), .d (.sl (List.map E56 ((f37 y0.kind).comps))), .d (D.i .i64 ((f37 y0.kind).target)), .d (D.i .u8 ((f37 y0.kind).formal)), .d (D.b ((f37 y0.kind).limited)), .d (D.i .i64 y0.priv), .d (D.i .i64 ((f37 y0.kind).full)), .d (D.i .i64 y0.level)]]) rfl ?_
 refine WL.ns ?_
 refine wc_sr ?_
 refine WL.qn (y_fieldAddrc f54_16 rfl) rfl ?_
 refine WL.qn (y_loadc rfl a3 rfl) rfl ?_
 refine WL.qn (y_fieldAddr f54_16 rfl) rfl ?_
 refine WL.s0 (d_store rfl rfl rfl rfl rfl rfl s3 rfl rfl) (Wt.none rfl) rfl ?_
 refine WL.st (st' := [.row 54 [.d (D.i .u8 0), .d (D.s ByteArray.empty), .d (D.i .i64 0), .d (D.i .i64 0), .d (.v (.slice none 0 0)), .d (D.i .i64 0), .d (D.i .i64 0), .d (D.i .i64 0), .d (D.s ByteArray.empty), .d (D.b false), .d (D.i .i64 0), .d (.v (.slice none 0 0)), .d (D.i .i64 0), .d (D.i .u8 0), .d (D.b false), .d (D.i .i64 0), .d (D.i .i64 0), .d (D.i .i64 0)], .row 54 [.d (D.i .u8 ((f37 y0.kind).kind)), .d (D.s y0.name), .d (D.i .i64 ((f37 y0.kind).parent)), .d (D.i .i64 y0.first), .d (.sl (List.map E9 ((f37 y0.kind).lits))), .d (D.i .i64 ((f37 y0.kind).index)), .d (D.i .i64 ((f37 y0.kind).elem)), .d (D.i .i64 ((f37 y0.kind).disc)), .d (D.s ((f37 y0.kind).discName)), .d (D.b ((f37 y0.kind).has)), .d (D.i .i64 ((f37 y0.kind).default_)), .d (.sl (List.map E56 ((f37 y0.kind).comps))), .d (D.i .i64 ((f37 y0.kind).target)), .d (D.i .u8 ((f37 y0.kind).formal)), .d (D.b ((f37 y0.kind).limited)), .d (D.i .i64 y0.priv), .d (D.i .i64 y0.full), .d (D.i .i64 y0.level)]]) rfl ?_
 refine WL.ns ?_
 refine wc_sr ?_
 refine WL.qn (y_fieldAddrc f54_14 rfl) rfl ?_
 refine WL.qn (y_loadc rfl a4 rfl) rfl ?_
 refine WL.qn (y_fieldAddr f54_14 rfl) rfl ?_
 refine WL.s0 (d_store rfl rfl rfl rfl rfl rfl s4 rfl rfl) (Wt.none rfl) rfl ?_
 refine WL.st (st' := [.row 54 [.d (D.i .u8 0), .d (D.s ByteArray.empty), .d (D.i .i64 0), .d (D.i .i64 0), .d (.v (.slice none 0 0)), .d (D.i .i64 0), .d (D.i .i64 0), .d (D.i .i64 0), .d (D.s ByteArray.empty), .d (D.b false), .d (D.i .i64 0), .d (.v (.slice none 0 0)), .d (D.i .i64 0), .d (D.i .u8 0), .d (D.b false), .d (D.i .i64 0), .d (D.i .i64 0), .d (D.i .i64 0)], .row 54 [.d (D.i .u8 ((f37 y0.kind).kind)), .d (D.s y0.name), .d (D.i .i64 ((f37 y0.kind).parent)), .d (D.i .i64 y0.first), .d (.sl (List.map E9 ((f37 y0.kind).lits))), .d (D.i .i64 ((f37 y0.kind).index)), .d (D.i .i64 ((f37 y0.kind).elem)), .d (D.i .i64 ((f37 y0.kind).disc)), .d (D.s ((f37 y0.kind).discName)), .d (D.b ((f37 y0.kind).has)), .d (D.i .i64 ((f37 y0.kind).default_)), .d (.sl (List.map E56 ((f37 y0.kind).comps))), .d (D.i .i64 ((f37 y0.kind).target)), .d (D.i .u8 ((f37 y0.kind).formal)), .d (D.b y0.limited), .d (D.i .i64 y0.priv), .d (D.i .i64 y0.full), .d (D.i .i64 y0.level)]]) rfl ?_
 refine WL.ns ?_
 replace h := letkS h
 obtain ⟨k95, hk95, h⟩ := h
 refine wc_cut (fun env' st' => ∃ (c1284 : Int), ∃ (c1485 : List ByteArray), ∃ (c1586 : Int), ∃ (c1687 : Int), ∃ (c1788 : Int), ∃ (c1889 : ByteArray), ∃ (c1990 : Bool), ∃ (c11091 : Int), ∃ (c11192 : List CompRow), ∃ (c11293 : Int), ∃ (c11394 : Int), k95 c1284 c1485 c1586 c1687 c1788 c1889 c1990 c11091 c11192 c11293 c11394 = r ∧ Sub [(2, .pt 0 0), (3, .pt 1 0)] env' ∧ SLe st' [.row 54 [.d (D.i .u8 0), .d (D.s ByteArray.empty), .d (D.i .i64 0), .d (D.i .i64 0), .d (.v (.slice none 0 0)), .d (D.i .i64 0), .d (D.i .i64 0), .d (D.i .i64 0), .d (D.s ByteArray.empty), .d (D.b false), .d (D.i .i64 0), .d (.v (.slice none 0 0)), .d (D.i .i64 0), .d (D.i .u8 0), .d (D.b false), .d (D.i .i64 0), .d (D.i .i64 0), .d (D.i .i64 0)], .row 54 [.d (D.i .u8 ((f37 y0.kind).kind)), .d (D.s y0.name), .d (D.i .i64 c1284), .d (D.i .i64 y0.first), .d (.sl (List.map E9 c1485)), .d (D.i .i64 c1586), .d (D.i .i64 c1687), .d (D.i .i64 c1788), .d (D.s c1889), .d (D.b c1990), .d (D.i .i64 c11091), .d (.sl (List.map E56 c11192)), .d (D.i .i64 c11293), .d (D.i .u8 c11394), .d (D.b y0.limited), .d (D.i .i64 y0.priv), .d (D.i .i64 y0.full), .d (D.i .i64 y0.level)]]) ?_ ?_
 ·refine wc_sr ?_
  refine WL.qn (y_fieldAddrc f54_0 rfl) rfl ?_
  refine WL.qn (y_loadc rfl a49 rfl) rfl ?_
  refine WL.ns ?_
  refine wc_block ?_
  refine wc_sr ?_
  refine WL.qn (y_eql rfl rfl) rfl ?_
  refine WL.as rfl rfl ?_
  refine WL.ns ?_
  refine wc_cond rfl (fun hc1 => ?_) (fun hc1 => ?_)
  ·replace h := condT h hc1
   refine wc_sr ?_
   refine WL.qn (y_fieldAddrc f54_2 rfl) rfl ?_
   refine WL.qn (y_loadc rfl a3 rfl) rfl ?_
   refine WL.qn (y_fieldAddr f54_2 rfl) rfl ?_
   refine WL.s0 (d_store rfl rfl rfl rfl rfl rfl s3 rfl rfl) (Wt.none rfl) rfl ?_
   refine WL.st (st' := [.row 54 [.d (D.i .u8 0), .d (D.s ByteArray.empty), .d (D.i .i64 0), .d (D.i .i64 0), .d (.v (.slice none 0 0)), .d (D.i .i64 0), .d (D.i .i64 0), .d (D.i .i64 0), .d (D.s ByteArray.empty), .d (D.b false), .d (D.i .i64 0), .d (.v (.slice none 0 0)), .d (D.i .i64 0), .d (D.i .u8 0), .d (D.b false), .d (D.i .i64 0), .d (D.i .i64 0), .d (D.i .i64 0)], .row 54 [.d (D.i .u8 ((f37 y0.kind).kind)), .d (D.s y0.name), .d (D.i .i64 y0.parent), .d (D.i .i64 y0.first), .d (.sl (List.map E9 ((f37 y0.kind).lits))), .d (D.i .i64 ((f37 y0.kind).index)), .d (D.i .i64 ((f37 y0.kind).elem)), .d (D.i .i64 ((f37 y0.kind).disc)), .d (D.s ((f37 y0.kind).discName)), .d (D.b ((f37 y0.kind).has)), .d (D.i .i64 ((f37 y0.kind).default_)), .d (.sl (List.map E56 ((f37 y0.kind).comps))), .d (D.i .i64 ((f37 y0.kind).target)), .d (D.i .u8 ((f37 y0.kind).formal)), .d (D.b y0.limited), .d (D.i .i64 y0.priv), .d (D.i .i64 y0.full), .d (D.i .i64 y0.level)]]) rfl ?_
   refine WL.ns ?_
   refine wc_region ?_
   refine WL.qn (y_fieldAddrc f54_13 rfl) rfl ?_
   refine WL.qn (y_loadc rfl a52 rfl) rfl ?_
   refine WL.qn (y_fieldAddr f54_13 rfl) rfl ?_
   refine WL.s0 (d_store rfl rfl rfl rfl rfl rfl s52 rfl rfl) (Wt.none rfl) rfl ?_
   refine WL.st (st' := [.row 54 [.d (D.i .u8 0), .d (D.s ByteArray.empty), .d (D.i .i64 0), .d (D.i .i64 0), .d (.v (.slice none 0 0)), .d (D.i .i64 0), .d (D.i .i64 0), .d (D.i .i64 0), .d (D.s ByteArray.empty), .d (D.b false), .d (D.i .i64 0), .d (.v (.slice none 0 0)), .d (D.i .i64 0), .d (D.i .u8 0), .d (D.b false), .d (D.i .i64 0), .d (D.i .i64 0), .d (D.i .i64 0)], .row 54 [.d (D.i .u8 ((f37 y0.kind).kind)), .d (D.s y0.name), .d (D.i .i64 y0.parent), .d (D.i .i64 y0.first), .d (.sl (List.map E9 ((f37 y0.kind).lits))), .d (D.i .i64 ((f37 y0.kind).index)), .d (D.i .i64 ((f37 y0.kind).elem)), .d (D.i .i64 ((f37 y0.kind).disc)), .d (D.s ((f37 y0.kind).discName)), .d (D.b ((f37 y0.kind).has)), .d (D.i .i64 ((f37 y0.kind).default_)), .d (.sl (List.map E56 ((f37 y0.kind).comps))), .d (D.i .i64 ((f37 y0.kind).target)), .d (D.i .u8 y0.formal), .d (D.b y0.limited), .d (D.i .i64 y0.priv), .d (D.i .i64 y0.full), .d (D.i .i64 y0.level)]]) rfl ?_
   refine WL.nil ?_
   refine we_blk ?_
   exact we_lp ⟨y0.parent, ((f37 y0.kind).lits), ((f37 y0.kind).index), ((f37 y0.kind).elem), ((f37 y0.kind).disc), ((f37 y0.kind).discName), ((f37 y0.kind).has), ((f37 y0.kind).default_), ((f37 y0.kind).comps), ((f37 y0.kind).target), y0.formal, h, (Sub.cons rfl (Le.refl _) (Sub.cons rfl (Le.refl _) (Sub.nil _))), ⟨⟨rfl, ⟨(Le.refl _), (Le.refl _), (Le.refl _), (Le.refl _), (Le.refl _), (Le.refl _), (Le.refl _), (Le.refl _), (Le.refl _), (Le.refl _), (Le.refl _), (Le.refl _), (Le.refl _), (Le.refl _), (Le.refl _), (Le.refl _), (Le.refl _), (Le.refl _), trivial⟩⟩, ⟨rfl, ⟨(Le.refl _), (Le.refl _), (Le.refl _), (Le.refl _), (Le.refl _), (Le.refl _), (Le.refl _), (Le.refl _), (Le.refl _), (Le.refl _), (Le.refl _), (Le.refl _), (Le.refl _), (Le.refl _), (Le.refl _), (Le.refl _), (Le.refl _), (Le.refl _), trivial⟩⟩, trivial⟩⟩
  ·replace h := condF h hc1
   refine wc_sr ?_
   refine WL.qn (y_eql rfl rfl) rfl ?_
   refine WL.as rfl rfl ?_
   refine WL.ns ?_
   refine wc_cond rfl (fun hc2 => ?_) (fun hc2 => ?_)
   ·replace h := condT h hc2
    refine wc_sr ?_
    refine WL.qn (y_fieldAddrc f54_2 rfl) rfl ?_
    refine WL.qn (y_loadc rfl a3 rfl) rfl ?_
    refine WL.qn (y_fieldAddr f54_2 rfl) rfl ?_
    refine WL.s0 (d_store rfl rfl rfl rfl rfl rfl s3 rfl rfl) (Wt.none rfl) rfl ?_
    refine WL.st (st' := [.row 54 [.d (D.i .u8 0), .d (D.s ByteArray.empty), .d (D.i .i64 0), .d (D.i .i64 0), .d (.v (.slice none 0 0)), .d (D.i .i64 0), .d (D.i .i64 0), .d (D.i .i64 0), .d (D.s ByteArray.empty), .d (D.b false), .d (D.i .i64 0), .d (.v (.slice none 0 0)), .d (D.i .i64 0), .d (D.i .u8 0), .d (D.b false), .d (D.i .i64 0), .d (D.i .i64 0), .d (D.i .i64 0)], .row 54 [.d (D.i .u8 ((f37 y0.kind).kind)), .d (D.s y0.name), .d (D.i .i64 y0.parent), .d (D.i .i64 y0.first), .d (.sl (List.map E9 ((f37 y0.kind).lits))), .d (D.i .i64 ((f37 y0.kind).index)), .d (D.i .i64 ((f37 y0.kind).elem)), .d (D.i .i64 ((f37 y0.kind).disc)), .d (D.s ((f37 y0.kind).discName)), .d (D.b ((f37 y0.kind).has)), .d (D.i .i64 ((f37 y0.kind).default_)), .d (.sl (List.map E56 ((f37 y0.kind).comps))), .d (D.i .i64 ((f37 y0.kind).target)), .d (D.i .u8 ((f37 y0.kind).formal)), .d (D.b y0.limited), .d (D.i .i64 y0.priv), .d (D.i .i64 y0.full), .d (D.i .i64 y0.level)]]) rfl ?_
    refine WL.ns ?_
    refine wc_sr ?_
    refine WL.qn (y_fieldAddrc f54_13 rfl) rfl ?_
    refine WL.qn (y_loadc rfl a52 rfl) rfl ?_
    refine WL.qn (y_fieldAddr f54_13 rfl) rfl ?_
    refine WL.s0 (d_store rfl rfl rfl rfl rfl rfl s52 rfl rfl) (Wt.none rfl) rfl ?_
    refine WL.st (st' := [.row 54 [.d (D.i .u8 0), .d (D.s ByteArray.empty), .d (D.i .i64 0), .d (D.i .i64 0), .d (.v (.slice none 0 0)), .d (D.i .i64 0), .d (D.i .i64 0), .d (D.i .i64 0), .d (D.s ByteArray.empty), .d (D.b false), .d (D.i .i64 0), .d (.v (.slice none 0 0)), .d (D.i .i64 0), .d (D.i .u8 0), .d (D.b false), .d (D.i .i64 0), .d (D.i .i64 0), .d (D.i .i64 0)], .row 54 [.d (D.i .u8 ((f37 y0.kind).kind)), .d (D.s y0.name), .d (D.i .i64 y0.parent), .d (D.i .i64 y0.first), .d (.sl (List.map E9 ((f37 y0.kind).lits))), .d (D.i .i64 ((f37 y0.kind).index)), .d (D.i .i64 ((f37 y0.kind).elem)), .d (D.i .i64 ((f37 y0.kind).disc)), .d (D.s ((f37 y0.kind).discName)), .d (D.b ((f37 y0.kind).has)), .d (D.i .i64 ((f37 y0.kind).default_)), .d (.sl (List.map E56 ((f37 y0.kind).comps))), .d (D.i .i64 ((f37 y0.kind).target)), .d (D.i .u8 y0.formal), .d (D.b y0.limited), .d (D.i .i64 y0.priv), .d (D.i .i64 y0.full), .d (D.i .i64 y0.level)]]) rfl ?_
    refine WL.ns ?_
    refine wc_region ?_
    refine WL.qn (y_fieldAddrc f54_4 rfl) rfl ?_
    refine WL.qn (y_loadc rfl a50 rfl) rfl ?_
    refine WL.qn (y_fieldAddr f54_4 rfl) rfl ?_
    refine WL.s0 (d_store rfl rfl rfl rfl rfl rfl s50 rfl rfl) (Wt.none rfl) rfl ?_
    refine WL.st (st' := [.row 54 [.d (D.i .u8 0), .d (D.s ByteArray.empty), .d (D.i .i64 0), .d (D.i .i64 0), .d (.v (.slice none 0 0)), .d (D.i .i64 0), .d (D.i .i64 0), .d (D.i .i64 0), .d (D.s ByteArray.empty), .d (D.b false), .d (D.i .i64 0), .d (.v (.slice none 0 0)), .d (D.i .i64 0), .d (D.i .u8 0), .d (D.b false), .d (D.i .i64 0), .d (D.i .i64 0), .d (D.i .i64 0)], .row 54 [.d (D.i .u8 ((f37 y0.kind).kind)), .d (D.s y0.name), .d (D.i .i64 y0.parent), .d (D.i .i64 y0.first), .d (.sl (List.map E9 y0.lits)), .d (D.i .i64 ((f37 y0.kind).index)), .d (D.i .i64 ((f37 y0.kind).elem)), .d (D.i .i64 ((f37 y0.kind).disc)), .d (D.s ((f37 y0.kind).discName)), .d (D.b ((f37 y0.kind).has)), .d (D.i .i64 ((f37 y0.kind).default_)), .d (.sl (List.map E56 ((f37 y0.kind).comps))), .d (D.i .i64 ((f37 y0.kind).target)), .d (D.i .u8 y0.formal), .d (D.b y0.limited), .d (D.i .i64 y0.priv), .d (D.i .i64 y0.full), .d (D.i .i64 y0.level)]]) rfl ?_
    refine WL.nil ?_
    refine we_blk ?_
    exact we_lp ⟨y0.parent, y0.lits, ((f37 y0.kind).index), ((f37 y0.kind).elem), ((f37 y0.kind).disc), ((f37 y0.kind).discName), ((f37 y0.kind).has), ((f37 y0.kind).default_), ((f37 y0.kind).comps), ((f37 y0.kind).target), y0.formal, h, (Sub.cons rfl (Le.refl _) (Sub.cons rfl (Le.refl _) (Sub.nil _))), ⟨⟨rfl, ⟨(Le.refl _), (Le.refl _), (Le.refl _), (Le.refl _), (Le.refl _), (Le.refl _), (Le.refl _), (Le.refl _), (Le.refl _), (Le.refl _), (Le.refl _), (Le.refl _), (Le.refl _), (Le.refl _), (Le.refl _), (Le.refl _), (Le.refl _), (Le.refl _), trivial⟩⟩, ⟨rfl, ⟨(Le.refl _), (Le.refl _), (Le.refl _), (Le.refl _), (Le.refl _), (Le.refl _), (Le.refl _), (Le.refl _), (Le.refl _), (Le.refl _), (Le.refl _), (Le.refl _), (Le.refl _), (Le.refl _), (Le.refl _), (Le.refl _), (Le.refl _), (Le.refl _), trivial⟩⟩, trivial⟩⟩
   ·replace h := condF h hc2
    refine wc_sr ?_
    refine WL.qn (y_eql rfl rfl) rfl ?_
    refine WL.as rfl rfl ?_
    refine WL.ns ?_
    refine wc_cond rfl (fun hc3 => ?_) (fun hc3 => ?_)
    ·replace h := condT h hc3
     refine wc_sr ?_
     refine WL.qn (y_fieldAddrc f54_5 rfl) rfl ?_
     refine WL.qn (y_loadc rfl a3 rfl) rfl ?_
     refine WL.qn (y_fieldAddr f54_5 rfl) rfl ?_
     refine WL.s0 (d_store rfl rfl rfl rfl rfl rfl s3 rfl rfl) (Wt.none rfl) rfl ?_
     refine WL.st (st' := [.row 54 [.d (D.i .u8 0), .d (D.s ByteArray.empty), .d (D.i .i64 0), .d (D.i .i64 0), .d (.v (.slice none 0 0)), .d (D.i .i64 0), .d (D.i .i64 0), .d (D.i .i64 0), .d (D.s ByteArray.empty), .d (D.b false), .d (D.i .i64 0), .d (.v (.slice none 0 0)), .d (D.i .i64 0), .d (D.i .u8 0), .d (D.b false), .d (D.i .i64 0), .d (D.i .i64 0), .d (D.i .i64 0)], .row 54 [.d (D.i .u8 ((f37 y0.kind).kind)), .d (D.s y0.name), .d (D.i .i64 ((f37 y0.kind).parent)), .d (D.i .i64 y0.first), .d (.sl (List.map E9 ((f37 y0.kind).lits))), .d (D.i .i64 y0.index), .d (D.i .i64 ((f37 y0.kind).elem)), .d (D.i .i64 ((f37 y0.kind).disc)), .d (D.s ((f37 y0.kind).discName)), .d (D.b ((f37 y0.kind).has)), .d (D.i .i64 ((f37 y0.kind).default_)), .d (.sl (List.map E56 ((f37 y0.kind).comps))), .d (D.i .i64 ((f37 y0.kind).target)), .d (D.i .u8 ((f37 y0.kind).formal)), .d (D.b y0.limited), .d (D.i .i64 y0.priv), .d (D.i .i64 y0.full), .d (D.i .i64 y0.level)]]) rfl ?_
     refine WL.ns ?_
     refine wc_region ?_
     refine WL.qn (y_fieldAddrc f54_6 rfl) rfl ?_
     refine WL.qn (y_loadc rfl a3 rfl) rfl ?_
     refine WL.qn (y_fieldAddr f54_6 rfl) rfl ?_
     refine WL.s0 (d_store rfl rfl rfl rfl rfl rfl s3 rfl rfl) (Wt.none rfl) rfl ?_
     refine WL.st (st' := [.row 54 [.d (D.i .u8 0), .d (D.s ByteArray.empty), .d (D.i .i64 0), .d (D.i .i64 0), .d (.v (.slice none 0 0)), .d (D.i .i64 0), .d (D.i .i64 0), .d (D.i .i64 0), .d (D.s ByteArray.empty), .d (D.b false), .d (D.i .i64 0), .d (.v (.slice none 0 0)), .d (D.i .i64 0), .d (D.i .u8 0), .d (D.b false), .d (D.i .i64 0), .d (D.i .i64 0), .d (D.i .i64 0)], .row 54 [.d (D.i .u8 ((f37 y0.kind).kind)), .d (D.s y0.name), .d (D.i .i64 ((f37 y0.kind).parent)), .d (D.i .i64 y0.first), .d (.sl (List.map E9 ((f37 y0.kind).lits))), .d (D.i .i64 y0.index), .d (D.i .i64 y0.elem), .d (D.i .i64 ((f37 y0.kind).disc)), .d (D.s ((f37 y0.kind).discName)), .d (D.b ((f37 y0.kind).has)), .d (D.i .i64 ((f37 y0.kind).default_)), .d (.sl (List.map E56 ((f37 y0.kind).comps))), .d (D.i .i64 ((f37 y0.kind).target)), .d (D.i .u8 ((f37 y0.kind).formal)), .d (D.b y0.limited), .d (D.i .i64 y0.priv), .d (D.i .i64 y0.full), .d (D.i .i64 y0.level)]]) rfl ?_
     refine WL.nil ?_
     refine we_blk ?_
     exact we_lp ⟨((f37 y0.kind).parent), ((f37 y0.kind).lits), y0.index, y0.elem, ((f37 y0.kind).disc), ((f37 y0.kind).discName), ((f37 y0.kind).has), ((f37 y0.kind).default_), ((f37 y0.kind).comps), ((f37 y0.kind).target), ((f37 y0.kind).formal), h, (Sub.cons rfl (Le.refl _) (Sub.cons rfl (Le.refl _) (Sub.nil _))), ⟨⟨rfl, ⟨(Le.refl _), (Le.refl _), (Le.refl _), (Le.refl _), (Le.refl _), (Le.refl _), (Le.refl _), (Le.refl _), (Le.refl _), (Le.refl _), (Le.refl _), (Le.refl _), (Le.refl _), (Le.refl _), (Le.refl _), (Le.refl _), (Le.refl _), (Le.refl _), trivial⟩⟩, ⟨rfl, ⟨(Le.refl _), (Le.refl _), (Le.refl _), (Le.refl _), (Le.refl _), (Le.refl _), (Le.refl _), (Le.refl _), (Le.refl _), (Le.refl _), (Le.refl _), (Le.refl _), (Le.refl _), (Le.refl _), (Le.refl _), (Le.refl _), (Le.refl _), (Le.refl _), trivial⟩⟩, trivial⟩⟩
    ·replace h := condF h hc3
     refine wc_sr ?_
     refine WL.qn (y_eql rfl rfl) rfl ?_
     refine WL.as rfl rfl ?_
     refine WL.ns ?_
     refine wc_cond rfl (fun hc4 => ?_) (fun hc4 => ?_)
     ·replace h := condT h hc4
      refine wc_sr ?_
      refine WL.qn (y_fieldAddrc f54_7 rfl) rfl ?_
      refine WL.qn (y_loadc rfl a3 rfl) rfl ?_
      refine WL.qn (y_fieldAddr f54_7 rfl) rfl ?_
      refine WL.s0 (d_store rfl rfl rfl rfl rfl rfl s3 rfl rfl) (Wt.none rfl) rfl ?_
      refine WL.st (st' := [.row 54 [.d (D.i .u8 0), .d (D.s ByteArray.empty), .d (D.i .i64 0), .d (D.i .i64 0), .d (.v (.slice none 0 0)), .d (D.i .i64 0), .d (D.i .i64 0), .d (D.i .i64 0), .d (D.s ByteArray.empty), .d (D.b false), .d (D.i .i64 0), .d (.v (.slice none 0 0)), .d (D.i .i64 0), .d (D.i .u8 0), .d (D.b false), .d (D.i .i64 0), .d (D.i .i64 0), .d (D.i .i64 0)], .row 54 [.d (D.i .u8 ((f37 y0.kind).kind)), .d (D.s y0.name), .d (D.i .i64 ((f37 y0.kind).parent)), .d (D.i .i64 y0.first), .d (.sl (List.map E9 ((f37 y0.kind).lits))), .d (D.i .i64 ((f37 y0.kind).index)), .d (D.i .i64 ((f37 y0.kind).elem)), .d (D.i .i64 y0.disc), .d (D.s ((f37 y0.kind).discName)), .d (D.b ((f37 y0.kind).has)), .d (D.i .i64 ((f37 y0.kind).default_)), .d (.sl (List.map E56 ((f37 y0.kind).comps))), .d (D.i .i64 ((f37 y0.kind).target)), .d (D.i .u8 ((f37 y0.kind).formal)), .d (D.b y0.limited), .d (D.i .i64 y0.priv), .d (D.i .i64 y0.full), .d (D.i .i64 y0.level)]]) rfl ?_
      refine WL.ns ?_
      refine wc_sr ?_
      refine WL.qn (y_fieldAddrc f54_8 rfl) rfl ?_
      refine WL.qn (y_loadc rfl a9 rfl) rfl ?_
      refine WL.qn (y_fieldAddr f54_8 rfl) rfl ?_
      refine WL.s0 (d_store rfl rfl rfl rfl rfl rfl s9 rfl rfl) (Wt.none rfl) rfl ?_
      refine WL.st (st' := [.row 54 [.d (D.i .u8 0), .d (D.s ByteArray.empty), .d (D.i .i64 0), .d (D.i .i64 0), .d (.v (.slice none 0 0)), .d (D.i .i64 0), .d (D.i .i64 0), .d (D.i .i64 0), .d (D.s ByteArray.empty), .d (D.b false), .d (D.i .i64 0), .d (.v (.slice none 0 0)), .d (D.i .i64 0), .d (D.i .u8 0), .d (D.b false), .d (D.i .i64 0), .d (D.i .i64 0), .d (D.i .i64 0)], .row 54 [.d (D.i .u8 ((f37 y0.kind).kind)), .d (D.s y0.name), .d (D.i .i64 ((f37 y0.kind).parent)), .d (D.i .i64 y0.first), .d (.sl (List.map E9 ((f37 y0.kind).lits))), .d (D.i .i64 ((f37 y0.kind).index)), .d (D.i .i64 ((f37 y0.kind).elem)), .d (D.i .i64 y0.disc), .d (D.s y0.discName), .d (D.b ((f37 y0.kind).has)), .d (D.i .i64 ((f37 y0.kind).default_)), .d (.sl (List.map E56 ((f37 y0.kind).comps))), .d (D.i .i64 ((f37 y0.kind).target)), .d (D.i .u8 ((f37 y0.kind).formal)), .d (D.b y0.limited), .d (D.i .i64 y0.priv), .d (D.i .i64 y0.full), .d (D.i .i64 y0.level)]]) rfl ?_
      refine WL.ns ?_
      refine wc_sr ?_
      refine WL.qn (y_fieldAddrc f54_9 rfl) rfl ?_
      refine WL.qn (y_loadc rfl a4 rfl) rfl ?_
      refine WL.qn (y_fieldAddr f54_9 rfl) rfl ?_
      refine WL.s0 (d_store rfl rfl rfl rfl rfl rfl s4 rfl rfl) (Wt.none rfl) rfl ?_
      refine WL.st (st' := [.row 54 [.d (D.i .u8 0), .d (D.s ByteArray.empty), .d (D.i .i64 0), .d (D.i .i64 0), .d (.v (.slice none 0 0)), .d (D.i .i64 0), .d (D.i .i64 0), .d (D.i .i64 0), .d (D.s ByteArray.empty), .d (D.b false), .d (D.i .i64 0), .d (.v (.slice none 0 0)), .d (D.i .i64 0), .d (D.i .u8 0), .d (D.b false), .d (D.i .i64 0), .d (D.i .i64 0), .d (D.i .i64 0)], .row 54 [.d (D.i .u8 ((f37 y0.kind).kind)), .d (D.s y0.name), .d (D.i .i64 ((f37 y0.kind).parent)), .d (D.i .i64 y0.first), .d (.sl (List.map E9 ((f37 y0.kind).lits))), .d (D.i .i64 ((f37 y0.kind).index)), .d (D.i .i64 ((f37 y0.kind).elem)), .d (D.i .i64 y0.disc), .d (D.s y0.discName), .d (D.b y0.has), .d (D.i .i64 ((f37 y0.kind).default_)), .d (.sl (List.map E56 ((f37 y0.kind).comps))), .d (D.i .i64 ((f37 y0.kind).target)), .d (D.i .u8 ((f37 y0.kind).formal)), .d (D.b y0.limited), .d (D.i .i64 y0.priv), .d (D.i .i64 y0.full), .d (D.i .i64 y0.level)]]) rfl ?_
      refine WL.ns ?_
      refine wc_sr ?_
      refine WL.qn (y_fieldAddrc f54_10 rfl) rfl ?_
      refine WL.qn (y_loadc rfl a2 rfl) rfl ?_
      refine WL.qn (y_fieldAddr f54_10 rfl) rfl ?_
      refine WL.s0 (d_store rfl rfl rfl rfl rfl rfl s2 rfl rfl) (Wt.none rfl) rfl ?_
      refine WL.st (st' := [.row 54 [.d (D.i .u8 0), .d (D.s ByteArray.empty), .d (D.i .i64 0), .d (D.i .i64 0), .d (.v (.slice none 0 0)), .d (D.i .i64 0), .d (D.i .i64 0), .d (D.i .i64 0), .d (D.s ByteArray.empty), .d (D.b false), .d (D.i .i64 0), .d (.v (.slice none 0 0)), .d (D.i .i64 0), .d (D.i .u8 0), .d (D.b false), .d (D.i .i64 0), .d (D.i .i64 0), .d (D.i .i64 0)], .row 54 [.d (D.i .u8 ((f37 y0.kind).kind)), .d (D.s y0.name), .d (D.i .i64 ((f37 y0.kind).parent)), .d (D.i .i64 y0.first), .d (.sl (List.map E9 ((f37 y0.kind).lits))), .d (D.i .i64 ((f37 y0.kind).index)), .d (D.i .i64 ((f37 y0.kind).elem)), .d (D.i .i64 y0.disc), .d (D.s y0.discName), .d (D.b y0.has), .d (D.i .i64 y0.default_), .d (.sl (List.map E56 ((f37 y0.kind).comps))), .d (D.i .i64 ((f37 y0.kind).target)), .d (D.i .u8 ((f37 y0.kind).formal)), .d (D.b y0.limited), .d (D.i .i64 y0.priv), .d (D.i .i64 y0.full), .d (D.i .i64 y0.level)]]) rfl ?_
      refine WL.ns ?_
      refine wc_region ?_
      refine WL.qn (y_fieldAddrc f54_11 rfl) rfl ?_
      refine WL.qn (y_loadc rfl a51 rfl) rfl ?_
      refine WL.qn (y_fieldAddr f54_11 rfl) rfl ?_
      refine WL.s0 (d_store rfl rfl rfl rfl rfl rfl s51 rfl rfl) (Wt.none rfl) rfl ?_
      refine WL.st (st' := [.row 54 [.d (D.i .u8 0), .d (D.s ByteArray.empty), .d (D.i .i64 0), .d (D.i .i64 0), .d (.v (.slice none 0 0)), .d (D.i .i64 0), .d (D.i .i64 0), .d (D.i .i64 0), .d (D.s ByteArray.empty), .d (D.b false), .d (D.i .i64 0), .d (.v (.slice none 0 0)), .d (D.i .i64 0), .d (D.i .u8 0), .d (D.b false), .d (D.i .i64 0), .d (D.i .i64 0), .d (D.i .i64 0)], .row 54 [.d (D.i .u8 ((f37 y0.kind).kind)), .d (D.s y0.name), .d (D.i .i64 ((f37 y0.kind).parent)), .d (D.i .i64 y0.first), .d (.sl (List.map E9 ((f37 y0.kind).lits))), .d (D.i .i64 ((f37 y0.kind).index)), .d (D.i .i64 ((f37 y0.kind).elem)), .d (D.i .i64 y0.disc), .d (D.s y0.discName), .d (D.b y0.has), .d (D.i .i64 y0.default_), .d (.sl (List.map E56 y0.comps)), .d (D.i .i64 ((f37 y0.kind).target)), .d (D.i .u8 ((f37 y0.kind).formal)), .d (D.b y0.limited), .d (D.i .i64 y0.priv), .d (D.i .i64 y0.full), .d (D.i .i64 y0.level)]]) rfl ?_
      refine WL.nil ?_
      refine we_blk ?_
      exact we_lp ⟨((f37 y0.kind).parent), ((f37 y0.kind).lits), ((f37 y0.kind).index), ((f37 y0.kind).elem), y0.disc, y0.discName, y0.has, y0.default_, y0.comps, ((f37 y0.kind).target), ((f37 y0.kind).formal), h, (Sub.cons rfl (Le.refl _) (Sub.cons rfl (Le.refl _) (Sub.nil _))), ⟨⟨rfl, ⟨(Le.refl _), (Le.refl _), (Le.refl _), (Le.refl _), (Le.refl _), (Le.refl _), (Le.refl _), (Le.refl _), (Le.refl _), (Le.refl _), (Le.refl _), (Le.refl _), (Le.refl _), (Le.refl _), (Le.refl _), (Le.refl _), (Le.refl _), (Le.refl _), trivial⟩⟩, ⟨rfl, ⟨(Le.refl _), (Le.refl _), (Le.refl _), (Le.refl _), (Le.refl _), (Le.refl _), (Le.refl _), (Le.refl _), (Le.refl _), (Le.refl _), (Le.refl _), (Le.refl _), (Le.refl _), (Le.refl _), (Le.refl _), (Le.refl _), (Le.refl _), (Le.refl _), trivial⟩⟩, trivial⟩⟩
     ·replace h := condF h hc4
      refine wc_sr ?_
      refine WL.qn (y_eql rfl rfl) rfl ?_
      refine WL.as rfl rfl ?_
      refine WL.ns ?_
      refine wc_cond rfl (fun hc5 => ?_) (fun hc5 => ?_)
      ·replace h := condT h hc5
       refine wc_region ?_
       refine WL.qn (y_fieldAddrc f54_12 rfl) rfl ?_
       refine WL.qn (y_loadc rfl a3 rfl) rfl ?_
       refine WL.qn (y_fieldAddr f54_12 rfl) rfl ?_
       refine WL.s0 (d_store rfl rfl rfl rfl rfl rfl s3 rfl rfl) (Wt.none rfl) rfl ?_
       refine WL.st (st' := [.row 54 [.d (D.i .u8 0), .d (D.s ByteArray.empty), .d (D.i .i64 0), .d (D.i .i64 0), .d (.v (.slice none 0 0)), .d (D.i .i64 0), .d (D.i .i64 0), .d (D.i .i64 0), .d (D.s ByteArray.empty), .d (D.b false), .d (D.i .i64 0), .d (.v (.slice none 0 0)), .d (D.i .i64 0), .d (D.i .u8 0), .d (D.b false), .d (D.i .i64 0), .d (D.i .i64 0), .d (D.i .i64 0)], .row 54 [.d (D.i .u8 ((f37 y0.kind).kind)), .d (D.s y0.name), .d (D.i .i64 ((f37 y0.kind).parent)), .d (D.i .i64 y0.first), .d (.sl (List.map E9 ((f37 y0.kind).lits))), .d (D.i .i64 ((f37 y0.kind).index)), .d (D.i .i64 ((f37 y0.kind).elem)), .d (D.i .i64 ((f37 y0.kind).disc)), .d (D.s ((f37 y0.kind).discName)), .d (D.b ((f37 y0.kind).has)), .d (D.i .i64 ((f37 y0.kind).default_)), .d (.sl (List.map E56 ((f37 y0.kind).comps))), .d (D.i .i64 y0.target), .d (D.i .u8 ((f37 y0.kind).formal)), .d (D.b y0.limited), .d (D.i .i64 y0.priv), .d (D.i .i64 y0.full), .d (D.i .i64 y0.level)]]) rfl ?_
       refine WL.nil ?_
       refine we_blk ?_
       exact we_lp ⟨((f37 y0.kind).parent), ((f37 y0.kind).lits), ((f37 y0.kind).index), ((f37 y0.kind).elem), ((f37 y0.kind).disc), ((f37 y0.kind).discName), ((f37 y0.kind).has), ((f37 y0.kind).default_), ((f37 y0.kind).comps), y0.target, ((f37 y0.kind).formal), h, (Sub.cons rfl (Le.refl _) (Sub.cons rfl (Le.refl _) (Sub.nil _))), ⟨⟨rfl, ⟨(Le.refl _), (Le.refl _), (Le.refl _), (Le.refl _), (Le.refl _), (Le.refl _), (Le.refl _), (Le.refl _), (Le.refl _), (Le.refl _), (Le.refl _), (Le.refl _), (Le.refl _), (Le.refl _), (Le.refl _), (Le.refl _), (Le.refl _), (Le.refl _), trivial⟩⟩, ⟨rfl, ⟨(Le.refl _), (Le.refl _), (Le.refl _), (Le.refl _), (Le.refl _), (Le.refl _), (Le.refl _), (Le.refl _), (Le.refl _), (Le.refl _), (Le.refl _), (Le.refl _), (Le.refl _), (Le.refl _), (Le.refl _), (Le.refl _), (Le.refl _), (Le.refl _), trivial⟩⟩, trivial⟩⟩
      ·replace h := condF h hc5
       refine wc_sr ?_
       refine WL.qn (y_eql rfl rfl) rfl ?_
       refine WL.as rfl rfl ?_
       refine WL.ns ?_
       refine wc_cond rfl (fun hc6 => ?_) (fun hc6 => ?_)
       ·replace h := condT h hc6
        refine wc_region ?_
        refine WL.qn (y_fieldAddrc f54_13 rfl) rfl ?_
        refine WL.qn (y_loadc rfl a52 rfl) rfl ?_
        refine WL.qn (y_fieldAddr f54_13 rfl) rfl ?_
        refine WL.s0 (d_store rfl rfl rfl rfl rfl rfl s52 rfl rfl) (Wt.none rfl) rfl ?_
        refine WL.st (st' := [.row 54 [.d (D.i .u8 0), .d (D.s ByteArray.empty), .d (D.i .i64 0), .d (D.i .i64 0), .d (.v (.slice none 0 0)), .d (D.i .i64 0), .d (D.i .i64 0), .d (D.i .i64 0), .d (D.s ByteArray.empty), .d (D.b false), .d (D.i .i64 0), .d (.v (.slice none 0 0)), .d (D.i .i64 0), .d (D.i .u8 0), .d (D.b false), .d (D.i .i64 0), .d (D.i .i64 0), .d (D.i .i64 0)], .row 54 [.d (D.i .u8 ((f37 y0.kind).kind)), .d (D.s y0.name), .d (D.i .i64 ((f37 y0.kind).parent)), .d (D.i .i64 y0.first), .d (.sl (List.map E9 ((f37 y0.kind).lits))), .d (D.i .i64 ((f37 y0.kind).index)), .d (D.i .i64 ((f37 y0.kind).elem)), .d (D.i .i64 ((f37 y0.kind).disc)), .d (D.s ((f37 y0.kind).discName)), .d (D.b ((f37 y0.kind).has)), .d (D.i .i64 ((f37 y0.kind).default_)), .d (.sl (List.map E56 ((f37 y0.kind).comps))), .d (D.i .i64 ((f37 y0.kind).target)), .d (D.i .u8 y0.formal), .d (D.b y0.limited), .d (D.i .i64 y0.priv), .d (D.i .i64 y0.full), .d (D.i .i64 y0.level)]]) rfl ?_
        refine WL.nil ?_
        refine we_blk ?_
        exact we_lp ⟨((f37 y0.kind).parent), ((f37 y0.kind).lits), ((f37 y0.kind).index), ((f37 y0.kind).elem), ((f37 y0.kind).disc), ((f37 y0.kind).discName), ((f37 y0.kind).has), ((f37 y0.kind).default_), ((f37 y0.kind).comps), ((f37 y0.kind).target), y0.formal, h, (Sub.cons rfl (Le.refl _) (Sub.cons rfl (Le.refl _) (Sub.nil _))), ⟨⟨rfl, ⟨(Le.refl _), (Le.refl _), (Le.refl _), (Le.refl _), (Le.refl _), (Le.refl _), (Le.refl _), (Le.refl _), (Le.refl _), (Le.refl _), (Le.refl _), (Le.refl _), (Le.refl _), (Le.refl _), (Le.refl _), (Le.refl _), (Le.refl _), (Le.refl _), trivial⟩⟩, ⟨rfl, ⟨(Le.refl _), (Le.refl _), (Le.refl _), (Le.refl _), (Le.refl _), (Le.refl _), (Le.refl _), (Le.refl _), (Le.refl _), (Le.refl _), (Le.refl _), (Le.refl _), (Le.refl _), (Le.refl _), (Le.refl _), (Le.refl _), (Le.refl _), (Le.refl _), trivial⟩⟩, trivial⟩⟩
       ·replace h := condF h hc6
        refine wc_skip ?_
        refine we_blk ?_
        exact we_lp ⟨((f37 y0.kind).parent), ((f37 y0.kind).lits), ((f37 y0.kind).index), ((f37 y0.kind).elem), ((f37 y0.kind).disc), ((f37 y0.kind).discName), ((f37 y0.kind).has), ((f37 y0.kind).default_), ((f37 y0.kind).comps), ((f37 y0.kind).target), ((f37 y0.kind).formal), h, (Sub.cons rfl (Le.refl _) (Sub.cons rfl (Le.refl _) (Sub.nil _))), ⟨⟨rfl, ⟨(Le.refl _), (Le.refl _), (Le.refl _), (Le.refl _), (Le.refl _), (Le.refl _), (Le.refl _), (Le.refl _), (Le.refl _), (Le.refl _), (Le.refl _), (Le.refl _), (Le.refl _), (Le.refl _), (Le.refl _), (Le.refl _), (Le.refl _), (Le.refl _), trivial⟩⟩, ⟨rfl, ⟨(Le.refl _), (Le.refl _), (Le.refl _), (Le.refl _), (Le.refl _), (Le.refl _), (Le.refl _), (Le.refl _), (Le.refl _), (Le.refl _), (Le.refl _), (Le.refl _), (Le.refl _), (Le.refl _), (Le.refl _), (Le.refl _), (Le.refl _), (Le.refl _), trivial⟩⟩, trivial⟩⟩
 ·rintro env1 st1 ⟨c1284, c1485, c1586, c1687, c1788, c1889, c1990, c11091, c11192, c11293, c11394, h, hsub, hst⟩
  subst hk95
  dsimp only at h
  refine WC.sub hsub (WC.weak hst ?_)
  refine wc_sr ?_
  refine WL.qn (y_loadN rfl rfl a54 s54 rfl) rfl ?_
  refine WL.s0 (d_store rfl rfl rfl rfl rfl rfl s54 rfl rfl) (Wt.none rfl) rfl ?_
  refine WL.st (st' := [.row 54 [.d (D.i .u8 ((f37 y0.kind).kind)), .d (D.s y0.name), .d (D.i .i64 c1284), .d (D.i .i64 y0.first), .d (.sl (List.map E9 c1485)), .d (D.i .i64 c1586), .d (D.i .i64 c1687), .d (D.i .i64 c1788), .d (D.s c1889), .d (D.b c1990), .d (D.i .i64 c11091), .d (.sl (List.map E56 c11192)), .d (D.i .i64 c11293), .d (D.i .u8 c11394), .d (D.b y0.limited), .d (D.i .i64 y0.priv), .d (D.i .i64 y0.full), .d (D.i .i64 y0.level)], .row 54 [.d (D.i .u8 ((f37 y0.kind).kind)), .d (D.s y0.name), .d (D.i .i64 c1284), .d (D.i .i64 y0.first), .d (.sl (List.map E9 c1485)), .d (D.i .i64 c1586), .d (D.i .i64 c1687), .d (D.i .i64 c1788), .d (D.s c1889), .d (D.b c1990), .d (D.i .i64 c11091), .d (.sl (List.map E56 c11192)), .d (D.i .i64 c11293), .d (D.i .u8 c11394), .d (D.b y0.limited), .d (D.i .i64 y0.priv), .d (D.i .i64 y0.full), .d (D.i .i64 y0.level)]]) rfl ?_
  refine WL.ns ?_
  refine wc_ret ?_
  subst h
  exact we_ret_fn (rs1 rfl (rv_cN rfl rfl a54 s54 rfl)) (Le.agd ⟨(Le.refl _), (Le.refl _), (Le.refl _), (Le.refl _), (Le.refl _), (Le.refl _), (Le.refl _), (Le.refl _), (Le.refl _), (Le.refl _), (Le.refl _), (Le.refl _), (Le.refl _), (Le.refl _), (Le.refl _), (Le.refl _), (Le.refl _), (Le.refl _), trivial⟩)

theorem f88_c (c0 : Int) : Pu Tryd.prog 88 [.i .u8 c0] (.b (f88 c0)) := by
 generalize h : f88 c0 = r
 unfold f88 at h
 refine fn_intro Tryd.func88 (by kernel_rfl) rfl rfl rfl (fun φφ ww => ?_)
 refine wc_sr ?_
 refine WL.as rfl rfl ?_
 refine WL.ns ?_
 refine wc_sr ?_
 refine WL.mv rfl rfl ?_
 refine WL.qn (y_geq rfl rfl) rfl ?_
 refine WL.mv rfl rfl ?_
 apply WL.and 3 (t := 5) (d := 8)
 ·exact rfl
 ·intro hg5
  refine WL.qy (y_move rfl) rfl rfl rfl ?_
  refine WL.qy (y_leq rfl rfl) rfl rfl rfl ?_
  refine WL.qn (y_pick_t rfl rfl) rfl ?_
  exact WL.nil ⟨rfl, [_, _, _], rfl, rfl, rfl⟩
 ·refine WL.skips 2 rfl ?_
  refine WL.qn (y_pick_f rfl rfl) rfl ?_
  exact WL.nil ⟨rfl, [_, _, _], rfl, rfl, rfl⟩
 refine WL.mv rfl rfl ?_
 apply WL.or 7 (t := 9) (d := 16)
 ·exact rfl
 ·intro hg9
  refine WL.qy (y_move rfl) rfl rfl rfl ?_
  refine WL.qy (y_geq rfl rfl) rfl rfl rfl ?_
  refine WL.qy (y_move rfl) rfl rfl rfl ?_
  apply WL.and 3 (t := 12) (d := 15)
  ·exact rfl
  ·intro hg12
   refine WL.qy (y_move rfl) rfl rfl rfl ?_
   refine WL.qy (y_leq rfl rfl) rfl rfl rfl ?_
   refine WL.qy (y_pick_t rfl rfl) rfl rfl rfl ?_
   exact WL.nil ⟨rfl, [_, _, _], rfl, rfl, rfl⟩
  ·refine WL.skips 2 rfl ?_
   refine WL.qy (y_pick_f rfl rfl) rfl rfl rfl ?_
   exact WL.nil ⟨rfl, [_, _, _], rfl, rfl, rfl⟩
  refine WL.qn (y_pick_f rfl rfl) rfl ?_
  exact WL.nil ⟨rfl, [_, _, _, _, _], rfl, rfl, rfl⟩
 ·refine WL.skips 6 rfl ?_
  refine WL.qn (y_pick_t rfl rfl) rfl ?_
  exact WL.nil ⟨rfl, [_, _, _, _, _, _, _], rfl, rfl, rfl⟩
 refine WL.as rfl rfl ?_
 refine WL.ns ?_
 refine wc_ret ?_
 subst h
 exact we_ret_fn (rs1 rfl (rv_t rfl)) (Le.refl _)

theorem f103_c (l0 : List ByteArray) (s1 : ByteArray) {r : Bool} (h : f103 l0 s1 = some r) : Pu Tryd.prog 103 [.sl (List.map E9 l0), .s s1] (.b r) := by
 unfold f103 at h
 refine fn_intro Tryd.func103 (by kernel_rfl) rfl rfl rfl (fun φφ ww => ?_)
 refine wc_sr ?_
 refine WL.as rfl rfl ?_
 refine WL.ns ?_
 replace h := letkS h
 obtain ⟨k21, hk21, h⟩ := h
 refine wc_cut (fun env' st' => k21 () = some r ∧ Sub [] env' ∧ SLe st' []) ?_ ?_
 ·refine wc_sr ?_
  refine WL.as rfl rfl ?_
  refine WL.ns ?_
  refine wc_block ?_
  refine wc_loop (fun n env' st' => ∃ (iq23 : Int), f103_l1 l0 s1 k21 n iq23 = some r ∧ Sub [(0, .d (.sl (List.map E9 l0))), (1, .d (D.s s1)), (5, .d (D.i .i64 iq23))] env' ∧ SLe st' []) (fun n => n) 9223372036854775808 ⟨0, h, (Sub.cons rfl (Le.refl _) (Sub.cons rfl (Le.refl _) (Sub.cons rfl (Le.refl _) (Sub.nil _)))), trivial⟩ ?_
  rintro n env1 st1 ⟨iq23, h, hsub, hst⟩
  cases n with
  | zero => rw [f103_l1] at h; cases h
  | succ n =>
  rw [f103_l1] at h
  refine WC.sub hsub (WC.weak hst ?_)
  refine wc_seq ?_
  refine wc_sr ?_
  refine WL.mv rfl rfl ?_
  refine WL.mv rfl rfl ?_
  refine WL.qn (y_len_map E9 l0 e50 rfl rfl (Le.refl _)) rfl ?_
  refine WL.qn (y_lss rfl rfl) rfl ?_
  refine WL.ns ?_
  refine wc_cond rfl (fun hc1 => ?_) (fun hc1 => ?_)
  ·replace h := condT h hc1
   refine wc_skip ?_
   refine we_seq ?_
   refine wc_seq ?_
   refine wc_block ?_
   refine wc_sr ?_
   refine WL.mv rfl rfl ?_
   refine WL.mv rfl rfl ?_
   obtain ⟨x25, hx25, h⟩ := bindS h
   refine WL.qn (y_indexAddr e50 rfl (Le.refl _) rfl (idx_nonneg hx25) (idx_row E9_eq hx25) rfl) rfl ?_
   refine WL.qn (y_loadc rfl a9 rfl) rfl ?_
   refine WL.mv rfl rfl ?_
   refine WL.qn (y_eqs rfl rfl) rfl ?_
   refine WL.ns ?_
   refine wc_cond rfl (fun hc2 => ?_) (fun hc2 => ?_)
   ·replace h := condT h hc2
    refine wc_sr ?_
    refine WL.as rfl rfl ?_
    refine WL.ns ?_
    refine wc_ret ?_
    refine we_blk_ret ?_
    refine we_seq_ret ?_
    refine we_lp_ret ?_
    refine we_blk_ret ?_
    refine we_lp_ret ?_
    obtain rfl := Option.some.inj h
    exact we_ret_fn (rs1 rfl (rv_t rfl)) (Le.refl _)
   ·replace h := condF h hc2
    refine wc_skip ?_
    refine we_blk ?_
    refine we_seq ?_
    refine wc_region ?_
    refine WL.mv rfl rfl ?_
    refine WL.qn (y_add rfl rfl rfl) rfl ?_
    refine WL.as rfl rfl ?_
    refine WL.nil ?_
    exact we_lp ⟨n, ⟨(IntKind.i64.wrap (iq23 + 1)), h, (Sub.cons rfl (Le.refl _) (Sub.cons rfl (Le.refl _) (Sub.cons rfl (Le.refl _) (Sub.nil _)))), trivial⟩, Nat.lt_succ_self n⟩
  ·replace h := condF h hc1
   refine wc_exit ?_
   refine we_seq_exit ?_
   refine we_lp_exit ?_
   refine we_blk_hit ?_
   exact we_lp ⟨h, (Sub.nil _), trivial⟩
 ·rintro env1 st1 ⟨h, hsub, hst⟩
  subst hk21
  dsimp only at h
  refine WC.sub hsub (WC.weak hst ?_)
  refine wc_sr ?_
  refine WL.as rfl rfl ?_
  refine WL.ns ?_
  refine wc_ret ?_
  obtain rfl := Option.some.inj h
  exact we_ret_fn (rs1 rfl (rv_t rfl)) (Le.refl _)

theorem f104_c  : Pu Tryd.prog 104 [] (.sl (List.map E9 (f104 ))) := by
 generalize h : f104  = r
 unfold f104 at h
 refine fn_intro Tryd.func104 (by kernel_rfl) rfl rfl rfl (fun φφ ww => ?_)
 refine wc_sr ?_
 refine WL.as rfl rfl ?_
 refine WL.ns ?_
 refine wc_sr ?_
 refine WL.s ((NewOs.b (n_buildSlice l50 z9 rfl (by decide) (by decide) rfl rfl rfl (by decide))).does) (Wt.none rfl) rfl rfl ?_
 refine WL.as rfl rfl ?_
 refine WL.ns ?_
 refine wc_ret ?_
 refine WE.freezeX [0, 1] [] 0 (List.map E9 [(ByteArray.mk #[97, 98, 111, 114, 116]), (ByteArray.mk #[97, 98, 115]), (ByteArray.mk #[97, 99, 99, 101, 112, 116]), (ByteArray.mk #[97, 99, 99, 101, 115, 115]), (ByteArray.mk #[97, 108, 105, 97, 115, 101, 100]), (ByteArray.mk #[97, 108, 108]), (ByteArray.mk #[97, 110, 100]), (ByteArray.mk #[97, 114, 114, 97, 121]), (ByteArray.mk #[98, 101, 103, 105, 110]), (ByteArray.mk #[98, 111, 100, 121]), (ByteArray.mk #[99, 97, 115, 101]), (ByteArray.mk #[99, 111, 110, 115, 116, 97, 110, 116]), (ByteArray.mk #[100, 101, 99, 108, 97, 114, 101]), (ByteArray.mk #[100, 101, 108, 97, 121]), (ByteArray.mk #[100, 111]), (ByteArray.mk #[101, 108, 115, 101]), (ByteArray.mk #[101, 108, 115, 105, 102]), (ByteArray.mk #[101, 110, 100]), (ByteArray.mk #[101, 110, 116, 114, 121]), (ByteArray.mk #[101, 120, 99, 101, 112, 116, 105, 111, 110]), (ByteArray.mk #[101, 120, 105, 116]), (ByteArray.mk #[102, 111, 114]), (ByteArray.mk #[102, 117, 110, 99, 116, 105, 111, 110]), (ByteArray.mk #[103, 101, 110, 101, 114, 105, 99]), (ByteArray.mk #[105, 102]), (ByteArray.mk #[105, 110]), (ByteArray.mk #[105, 115]), (ByteArray.mk #[108, 105, 109, 105, 116, 101, 100]), (ByteArray.mk #[108, 111, 111, 112]), (ByteArray.mk #[109, 111, 100]), (ByteArray.mk #[110, 101, 119]), (ByteArray.mk #[110, 111, 116]), (ByteArray.mk #[110, 117, 108, 108]), (ByteArray.mk #[111, 102]), (ByteArray.mk #[111, 114]), (ByteArray.mk #[111, 116, 104, 101, 114, 115]), (ByteArray.mk #[111, 117, 116]), (ByteArray.mk #[112, 97, 99, 107, 97, 103, 101]), (ByteArray.mk #[112, 114, 97, 103, 109, 97]), (ByteArray.mk #[112, 114, 105, 118, 97, 116, 101]), (ByteArray.mk #[112, 114, 111, 99, 101, 100, 117, 114, 101]), (ByteArray.mk #[112, 114, 111, 116, 101, 99, 116, 101, 100]), (ByteArray.mk #[114, 97, 105, 115, 101]), (ByteArray.mk #[114, 97, 110, 103, 101]), (ByteArray.mk #[114, 101, 99, 111, 114, 100]), (ByteArray.mk #[114, 101, 109]), (ByteArray.mk #[114, 101, 110, 97, 109, 101, 115]), (ByteArray.mk #[114, 101, 113, 117, 101, 117, 101]), (ByteArray.mk #[114, 101, 116, 117, 114, 110]), (ByteArray.mk #[114, 101, 118, 101, 114, 115, 101]), (ByteArray.mk #[115, 101, 108, 101, 99, 116]), (ByteArray.mk #[115, 101, 112, 97, 114, 97, 116, 101]), (ByteArray.mk #[115, 117, 98, 116, 121, 112, 101]), (ByteArray.mk #[116, 97, 115, 107]), (ByteArray.mk #[116, 101, 114, 109, 105, 110, 97, 116, 101]), (ByteArray.mk #[116, 104, 101, 110]), (ByteArray.mk #[116, 121, 112, 101]), (ByteArray.mk #[117, 110, 116, 105, 108]), (ByteArray.mk #[117, 115, 101]), (ByteArray.mk #[119, 104, 101, 110]), (ByteArray.mk #[119, 104, 105, 108, 101]), (ByteArray.mk #[119, 105, 116, 104]), (ByteArray.mk #[120, 111, 114])]) rfl (encA_map E9_eq [(ByteArray.mk #[97, 98, 111, 114, 116]), (ByteArray.mk #[97, 98, 115]), (ByteArray.mk #[97, 99, 99, 101, 112, 116]), (ByteArray.mk #[97, 99, 99, 101, 115, 115]), (ByteArray.mk #[97, 108, 105, 97, 115, 101, 100]), (ByteArray.mk #[97, 108, 108]), (ByteArray.mk #[97, 110, 100]), (ByteArray.mk #[97, 114, 114, 97, 121]), (ByteArray.mk #[98, 101, 103, 105, 110]), (ByteArray.mk #[98, 111, 100, 121]), (ByteArray.mk #[99, 97, 115, 101]), (ByteArray.mk #[99, 111, 110, 115, 116, 97, 110, 116]), (ByteArray.mk #[100, 101, 99, 108, 97, 114, 101]), (ByteArray.mk #[100, 101, 108, 97, 121]), (ByteArray.mk #[100, 111]), (ByteArray.mk #[101, 108, 115, 101]), (ByteArray.mk #[101, 108, 115, 105, 102]), (ByteArray.mk #[101, 110, 100]), (ByteArray.mk #[101, 110, 116, 114, 121]), (ByteArray.mk #[101, 120, 99, 101, 112, 116, 105, 111, 110]), (ByteArray.mk #[101, 120, 105, 116]), (ByteArray.mk #[102, 111, 114]), (ByteArray.mk #[102, 117, 110, 99, 116, 105, 111, 110]), (ByteArray.mk #[103, 101, 110, 101, 114, 105, 99]), (ByteArray.mk #[105, 102]), (ByteArray.mk #[105, 110]), (ByteArray.mk #[105, 115]), (ByteArray.mk #[108, 105, 109, 105, 116, 101, 100]), (ByteArray.mk #[108, 111, 111, 112]), (ByteArray.mk #[109, 111, 100]), (ByteArray.mk #[110, 101, 119]), (ByteArray.mk #[110, 111, 116]), (ByteArray.mk #[110, 117, 108, 108]), (ByteArray.mk #[111, 102]), (ByteArray.mk #[111, 114]), (ByteArray.mk #[111, 116, 104, 101, 114, 115]), (ByteArray.mk #[111, 117, 116]), (ByteArray.mk #[112, 97, 99, 107, 97, 103, 101]), (ByteArray.mk #[112, 114, 97, 103, 109, 97]), (ByteArray.mk #[112, 114, 105, 118, 97, 116, 101]), (ByteArray.mk #[112, 114, 111, 99, 101, 100, 117, 114, 101]), (ByteArray.mk #[112, 114, 111, 116, 101, 99, 116, 101, 100]), (ByteArray.mk #[114, 97, 105, 115, 101]), (ByteArray.mk #[114, 97, 110, 103, 101]), (ByteArray.mk #[114, 101, 99, 111, 114, 100]), (ByteArray.mk #[114, 101, 109]), (ByteArray.mk #[114, 101, 110, 97, 109, 101, 115]), (ByteArray.mk #[114, 101, 113, 117, 101, 117, 101]), (ByteArray.mk #[114, 101, 116, 117, 114, 110]), (ByteArray.mk #[114, 101, 118, 101, 114, 115, 101]), (ByteArray.mk #[115, 101, 108, 101, 99, 116]), (ByteArray.mk #[115, 101, 112, 97, 114, 97, 116, 101]), (ByteArray.mk #[115, 117, 98, 116, 121, 112, 101]), (ByteArray.mk #[116, 97, 115, 107]), (ByteArray.mk #[116, 101, 114, 109, 105, 110, 97, 116, 101]), (ByteArray.mk #[116, 104, 101, 110]), (ByteArray.mk #[116, 121, 112, 101]), (ByteArray.mk #[117, 110, 116, 105, 108]), (ByteArray.mk #[117, 115, 101]), (ByteArray.mk #[119, 104, 101, 110]), (ByteArray.mk #[119, 104, 105, 108, 101]), (ByteArray.mk #[119, 105, 116, 104]), (ByteArray.mk #[120, 111, 114])]) ⟨rfl, rfl, trivial⟩ trivial ?_
 subst h
 exact we_ret_fn (rs1 rfl (rv_t rfl)) (Le.refl _)

theorem f89_c (s0 : ByteArray) {r : Bool} (h : f89 s0 = some r) : Pu Tryd.prog 89 [.s s0] (.b r) := by
 unfold f89 at h
 refine fn_intro Tryd.func89 (by kernel_rfl) rfl rfl rfl (fun φφ ww => ?_)
 refine wc_sr ?_
 refine WL.as rfl rfl ?_
 refine WL.ns ?_
 refine wc_sr ?_
 refine WL.fn rfl rfl rfl rfl (f104_c) trivial (Wt.none rfl) rfl rfl ?_
 refine WL.mv rfl rfl ?_
 obtain ⟨r8, hr8, h⟩ := bindS h
 refine WL.fn rfl rfl rfl rfl (f103_c _ _ hr8) ⟨(Le.refl _), (Le.refl _), trivial⟩ (Wt.none rfl) rfl rfl ?_
 refine WL.as rfl rfl ?_
 refine WL.ns ?_
 refine wc_ret ?_
 obtain rfl := Option.some.inj h
 exact we_ret_fn (rs1 rfl (rv_t rfl)) (Le.refl _)

theorem f105_c (c0 : Int) : Pu Tryd.prog 105 [.i .u8 c0] (.b (f105 c0)) := by
 generalize h : f105 c0 = r
 unfold f105 at h
 refine fn_intro Tryd.func105 (by kernel_rfl) rfl rfl rfl (fun φφ ww => ?_)
 refine wc_sr ?_
 refine WL.as rfl rfl ?_
 refine WL.ns ?_
 refine wc_sr ?_
 refine WL.mv rfl rfl ?_
 refine WL.qn (y_geq rfl rfl) rfl ?_
 refine WL.mv rfl rfl ?_
 apply WL.and 3 (t := 5) (d := 8)
 ·exact rfl
 ·intro hg5
  refine WL.qy (y_move rfl) rfl rfl rfl ?_
  refine WL.qy (y_leq rfl rfl) rfl rfl rfl ?_
  refine WL.qn (y_pick_t rfl rfl) rfl ?_
  exact WL.nil ⟨rfl, [_, _, _], rfl, rfl, rfl⟩
 ·refine WL.skips 2 rfl ?_
  refine WL.qn (y_pick_f rfl rfl) rfl ?_
  exact WL.nil ⟨rfl, [_, _, _], rfl, rfl, rfl⟩
 refine WL.as rfl rfl ?_
 refine WL.ns ?_
 refine wc_ret ?_
 subst h
 exact we_ret_fn (rs1 rfl (rv_t rfl)) (Le.refl _)

theorem f90_c (c0 : Int) : Pu Tryd.prog 90 [.i .u8 c0] (.b (f90 c0)) := by
 generalize h : f90 c0 = r
 unfold f90 at h
 refine fn_intro Tryd.func90 (by kernel_rfl) rfl rfl rfl (fun φφ ww => ?_)
 refine wc_sr ?_
 refine WL.as rfl rfl ?_
 refine WL.ns ?_
 refine wc_sr ?_
 refine WL.mv rfl rfl ?_
 refine WL.fn rfl rfl rfl rfl (f88_c _) ⟨(Le.refl _), trivial⟩ (Wt.none rfl) rfl rfl ?_
 refine WL.mv rfl rfl ?_
 apply WL.or 3 (t := 5) (d := 8)
 ·exact rfl
 ·intro hg5
  refine WL.qy (y_move rfl) rfl rfl rfl ?_
  refine WL.fn rfl rfl rfl rfl (f105_c _) ⟨(Le.refl _), trivial⟩ (Wt.yes rfl rfl rfl) rfl rfl ?_
  refine WL.qn (y_pick_f rfl rfl) rfl ?_
  exact WL.nil ⟨rfl, [_, _, _], rfl, rfl, rfl⟩
 ·refine WL.skips 2 rfl ?_
  refine WL.qn (y_pick_t rfl rfl) rfl ?_
  exact WL.nil ⟨rfl, [_, _, _], rfl, rfl, rfl⟩
 refine WL.mv rfl rfl ?_
 apply WL.or 3 (t := 9) (d := 12)
 ·exact rfl
 ·intro hg9
  refine WL.qy (y_move rfl) rfl rfl rfl ?_
  refine WL.qy (y_eql rfl rfl) rfl rfl rfl ?_
  refine WL.qn (y_pick_f rfl rfl) rfl ?_
  exact WL.nil ⟨rfl, [_, _, _], rfl, rfl, rfl⟩
 ·refine WL.skips 2 rfl ?_
  refine WL.qn (y_pick_t rfl rfl) rfl ?_
  exact WL.nil ⟨rfl, [_, _, _], rfl, rfl, rfl⟩
 refine WL.as rfl rfl ?_
 refine WL.ns ?_
 refine wc_ret ?_
 subst h
 exact we_ret_fn (rs1 rfl (rv_t rfl)) (Le.refl _)

theorem f75_c (s0 : ByteArray) {r : Bool} (h : f75 s0 = some r) : Pu Tryd.prog 75 [.s s0] (.b r) := by
 unfold f75 at h
 refine fn_intro Tryd.func75 (by kernel_rfl) rfl rfl rfl (fun φφ ww => ?_)
 refine wc_sr ?_
 refine WL.as rfl rfl ?_
 refine WL.ns ?_
 refine wc_seq ?_
 refine wc_sr ?_
 refine WL.mv rfl rfl ?_
 refine WL.qn (y_len_str Tryd.underlying9 rfl rfl) rfl ?_
 refine WL.qn (y_lss rfl rfl) rfl ?_
 refine WL.mv rfl rfl ?_
 apply WL.or 4 (t := 7) (d := 11)
 ·exact rfl
 ·intro hg7
  refine WL.qy (y_move rfl) rfl rfl rfl ?_
  refine WL.qy (y_len_str Tryd.underlying9 rfl rfl) rfl rfl rfl ?_
  refine WL.qy (y_gtr rfl rfl) rfl rfl rfl ?_
  refine WL.qn (y_pick_f rfl rfl) rfl ?_
  exact WL.nil ⟨rfl, [_, _, _, _], rfl, rfl, rfl⟩
 ·refine WL.skips 3 rfl ?_
  refine WL.qn (y_pick_t rfl rfl) rfl ?_
  exact WL.nil ⟨rfl, [_, _, _, _], rfl, rfl, rfl⟩
 refine WL.mv rfl rfl ?_
 obtain ⟨b35, hb35, h⟩ := bindS h
 apply WL.grp 5 (t := 12) (d := 17) (z := b35)
 ·exact rfl
 ·intro hg12
  have h := condT hb35 hg12
  refine WL.skips 4 rfl ?_
  refine WL.qn (y_pick_t rfl rfl) rfl ?_
  obtain rfl := Option.some.inj h
  exact WL.nil ⟨rfl, [_, _, _, _, _], rfl, rfl, rfl⟩
 ·intro hg12
  have h := condF hb35 hg12
  refine WL.qy (y_move rfl) rfl rfl rfl ?_
  obtain ⟨x36, hx36, h⟩ := bindS h
  refine WL.qy (y_sindex Tryd.underlying9 rfl rfl hx36) rfl rfl rfl ?_
  refine WL.fn rfl rfl rfl rfl (f88_c _) ⟨(Le.refl _), trivial⟩ (Wt.yes rfl rfl rfl) rfl rfl ?_
  refine WL.qy (y_not rfl) rfl rfl rfl ?_
  refine WL.qn (y_pick_f rfl rfl) rfl ?_
  obtain rfl := Option.some.inj h
  exact WL.nil ⟨rfl, [_, _, _, _, _], rfl, rfl, rfl⟩
 refine WL.mv rfl rfl ?_
 obtain ⟨b37, hb37, h⟩ := bindS h
 apply WL.grp 3 (t := 18) (d := 21) (z := b37)
 ·exact rfl
 ·intro hg18
  have h := condT hb37 hg18
  refine WL.skips 2 rfl ?_
  refine WL.qn (y_pick_t rfl rfl) rfl ?_
  obtain rfl := Option.some.inj h
  exact WL.nil ⟨rfl, [_, _, _], rfl, rfl, rfl⟩
 ·intro hg18
  have h := condF hb37 hg18
  refine WL.qy (y_move rfl) rfl rfl rfl ?_
  obtain ⟨r38, hr38, h⟩ := bindS h
  refine WL.fn rfl rfl rfl rfl (f89_c _ hr38) ⟨(Le.refl _), trivial⟩ (Wt.yes rfl rfl rfl) rfl rfl ?_
  refine WL.qn (y_pick_f rfl rfl) rfl ?_
  obtain rfl := Option.some.inj h
  exact WL.nil ⟨rfl, [_, _, _], rfl, rfl, rfl⟩
 refine WL.ns ?_
 refine wc_cond rfl (fun hc1 => ?_) (fun hc1 => ?_)
 ·replace h := condT h hc1
  refine wc_sr ?_
  refine WL.as rfl rfl ?_
  refine WL.ns ?_
  refine wc_ret ?_
  refine we_seq_ret ?_
  obtain rfl := Option.some.inj h
  exact we_ret_fn (rs1 rfl (rv_t rfl)) (Le.refl _)
 ·replace h := condF h hc1
  refine wc_skip ?_
  refine we_seq ?_
  replace h := letkS h
  obtain ⟨k39, hk39, h⟩ := h
  refine wc_cut (fun env' st' => k39 () = some r ∧ Sub [] env' ∧ SLe st' []) ?_ ?_
  ·refine wc_sr ?_
   refine WL.as rfl rfl ?_
   refine WL.ns ?_
   refine wc_block ?_
   refine wc_loop (fun n env' st' => ∃ (iq41 : Int), f75_l1 s0 k39 n iq41 = some r ∧ Sub [(0, .d (D.s s0)), (3, .d (D.i .i64 iq41))] env' ∧ SLe st' []) (fun n => n) 9223372036854775808 ⟨0, h, (Sub.cons rfl (Le.refl _) (Sub.cons rfl (Le.refl _) (Sub.nil _))), trivial⟩ ?_
   rintro n env1 st1 ⟨iq41, h, hsub, hst⟩
   cases n with
   | zero => rw [f75_l1] at h; cases h
   | succ n =>
   rw [f75_l1] at h
   refine WC.sub hsub (WC.weak hst ?_)
   refine wc_seq ?_
   refine wc_sr ?_
   refine WL.mv rfl rfl ?_
   refine WL.mv rfl rfl ?_
   refine WL.qn (y_len_str Tryd.underlying9 rfl rfl) rfl ?_
   refine WL.qn (y_lss rfl rfl) rfl ?_
   refine WL.ns ?_
   refine wc_cond rfl (fun hc2 => ?_) (fun hc2 => ?_)
   ·replace h := condT h hc2
    refine wc_skip ?_
    refine we_seq ?_
    refine wc_seq ?_
    refine wc_block ?_
    refine wc_sr ?_
    refine WL.mv rfl rfl ?_
    refine WL.mv rfl rfl ?_
    obtain ⟨x43, hx43, h⟩ := bindS h
    refine WL.qn (y_sindex Tryd.underlying9 rfl rfl hx43) rfl ?_
    refine WL.fn rfl rfl rfl rfl (f90_c _) ⟨(Le.refl _), trivial⟩ (Wt.none rfl) rfl rfl ?_
    refine WL.qn (y_not rfl) rfl ?_
    refine WL.ns ?_
    refine wc_cond rfl (fun hc3 => ?_) (fun hc3 => ?_)
    ·replace h := condT h hc3
     refine wc_sr ?_
     refine WL.as rfl rfl ?_
     refine WL.ns ?_
     refine wc_ret ?_
     refine we_blk_ret ?_
     refine we_seq_ret ?_
     refine we_lp_ret ?_
     refine we_blk_ret ?_
     refine we_lp_ret ?_
     obtain rfl := Option.some.inj h
     exact we_ret_fn (rs1 rfl (rv_t rfl)) (Le.refl _)
    ·replace h := condF h hc3
     refine wc_skip ?_
     refine we_blk ?_
     refine we_seq ?_
     refine wc_region ?_
     refine WL.mv rfl rfl ?_
     refine WL.qn (y_add rfl rfl rfl) rfl ?_
     refine WL.as rfl rfl ?_
     refine WL.nil ?_
     exact we_lp ⟨n, ⟨(IntKind.i64.wrap (iq41 + 1)), h, (Sub.cons rfl (Le.refl _) (Sub.cons rfl (Le.refl _) (Sub.nil _))), trivial⟩, Nat.lt_succ_self n⟩
   ·replace h := condF h hc2
    refine wc_exit ?_
    refine we_seq_exit ?_
    refine we_lp_exit ?_
    refine we_blk_hit ?_
    exact we_lp ⟨h, (Sub.nil _), trivial⟩
  ·rintro env1 st1 ⟨h, hsub, hst⟩
   subst hk39
   dsimp only at h
   refine WC.sub hsub (WC.weak hst ?_)
   refine wc_sr ?_
   refine WL.as rfl rfl ?_
   refine WL.ns ?_
   refine wc_ret ?_
   obtain rfl := Option.some.inj h
   exact we_ret_fn (rs1 rfl (rv_t rfl)) (Le.refl _)

theorem f91_c (t0 : Table) (ty1 : Int) {r : Bool} (h : f91 t0 ty1 = some r) : Pu Tryd.prog 91 [.ag (R28 t0), .i .i64 ty1] (.b r) := by
 unfold f91 at h
 refine fn_intro Tryd.func91 (by kernel_rfl) rfl rfl rfl (fun φφ ww => ?_)
 refine wc_sr ?_
 refine WL.s ((b_boxd rfl rfl (Les.refl _)).does) (Wt.none rfl) rfl rfl ?_
 refine WL.as rfl rfl ?_
 refine WL.ns ?_
 refine wc_sr ?_
 refine WL.qn (y_fieldAddrc f28_0 rfl) rfl ?_
 refine WL.qn (y_loadc rfl a22 rfl) rfl ?_
 refine WL.mv rfl rfl ?_
 obtain ⟨x51, hx51, h⟩ := bindS h
 refine WL.qn (y_indexAddr e22 rfl (Le.refl _) rfl (idx_nonneg hx51) (idx_row E54_eq hx51) rfl) rfl ?_
 refine WL.qn (y_loadcN rfl a54 s54 rfl) rfl ?_
 refine WL.s ((b_alloc z54).does) (Wt.none rfl) rfl rfl ?_
 refine WL.s0 (d_store rfl rfl rfl rfl rfl rfl s54 rfl rfl) (Wt.none rfl) rfl ?_
 refine WL.st (st' := [.row 54 [.d (D.i .u8 x51.kind), .d (D.s x51.name), .d (D.i .i64 x51.parent), .d (D.i .i64 x51.first), .d (.sl (List.map E9 x51.lits)), .d (D.i .i64 x51.index), .d (D.i .i64 x51.elem), .d (D.i .i64 x51.disc), .d (D.s x51.discName), .d (D.b x51.has), .d (D.i .i64 x51.default_), .d (.sl (List.map E56 x51.comps)), .d (D.i .i64 x51.target), .d (D.i .u8 x51.formal), .d (D.b x51.limited), .d (D.i .i64 x51.priv), .d (D.i .i64 x51.full), .d (D.i .i64 x51.level)]]) rfl ?_
 refine WL.ns ?_
 refine wc_seq ?_
 refine wc_sr ?_
 refine WL.qn (y_fieldAddr f54_2 rfl) rfl ?_
 refine WL.qn (y_load rfl rfl a3 rfl) rfl ?_
 refine WL.qn (y_eql rfl rfl) rfl ?_
 refine WL.ns ?_
 refine wc_cond rfl (fun hc1 => ?_) (fun hc1 => ?_)
 ·replace h := condT h hc1
  refine wc_sr ?_
  refine WL.as rfl rfl ?_
  refine WL.ns ?_
  refine wc_ret ?_
  refine we_seq_ret ?_
  obtain rfl := Option.some.inj h
  exact we_ret_fn (rs1 rfl (rv_t rfl)) (Le.refl _)
 ·replace h := condF h hc1
  refine wc_skip ?_
  refine we_seq ?_
  refine wc_seq ?_
  refine wc_sr ?_
  refine WL.qn (y_fieldAddr f54_2 rfl) rfl ?_
  refine WL.qn (y_load rfl rfl a3 rfl) rfl ?_
  refine WL.mv rfl rfl ?_
  refine WL.fn rfl rfl rfl rfl (f51_c _ _) ⟨(Le.refl _), (Le.refl _), trivial⟩ (Wt.none rfl) rfl rfl ?_
  refine WL.qn (y_not rfl) rfl ?_
  refine WL.ns ?_
  refine wc_cond rfl (fun hc2 => ?_) (fun hc2 => ?_)
  ·replace h := condT h hc2
   refine wc_sr ?_
   refine WL.as rfl rfl ?_
   refine WL.ns ?_
   refine wc_ret ?_
   refine we_seq_ret ?_
   obtain rfl := Option.some.inj h
   exact we_ret_fn (rs1 rfl (rv_t rfl)) (Le.refl _)
  ·replace h := condF h hc2
   refine wc_skip ?_
   refine we_seq ?_
   refine wc_sr ?_
   refine WL.qn (y_fieldAddrc f28_0 rfl) rfl ?_
   refine WL.qn (y_loadc rfl a22 rfl) rfl ?_
   refine WL.qn (y_fieldAddr f54_2 rfl) rfl ?_
   refine WL.qn (y_load rfl rfl a3 rfl) rfl ?_
   obtain ⟨x52, hx52, h⟩ := bindS h
   refine WL.qn (y_indexAddr e22 rfl (Le.refl _) rfl (idx_nonneg hx52) (idx_row E54_eq hx52) rfl) rfl ?_
   refine WL.qn (y_loadcN rfl a54 s54 rfl) rfl ?_
   refine WL.s ((b_alloc z54).does) (Wt.none rfl) rfl rfl ?_
   refine WL.s0 (d_store rfl rfl rfl rfl rfl rfl s54 rfl rfl) (Wt.none rfl) rfl ?_
   refine WL.st (st' := [.row 54 [.d (D.i .u8 x51.kind), .d (D.s x51.name), .d (D.i .i64 x51.parent), .d (D.i .i64 x51.first), .d (.sl (List.map E9 x51.lits)), .d (D.i .i64 x51.index), .d (D.i .i64 x51.elem), .d (D.i .i64 x51.disc), .d (D.s x51.discName), .d (D.b x51.has), .d (D.i .i64 x51.default_), .d (.sl (List.map E56 x51.comps)), .d (D.i .i64 x51.target), .d (D.i .u8 x51.formal), .d (D.b x51.limited), .d (D.i .i64 x51.priv), .d (D.i .i64 x51.full), .d (D.i .i64 x51.level)], .row 54 [.d (D.i .u8 x52.kind), .d (D.s x52.name), .d (D.i .i64 x52.parent), .d (D.i .i64 x52.first), .d (.sl (List.map E9 x52.lits)), .d (D.i .i64 x52.index), .d (D.i .i64 x52.elem), .d (D.i .i64 x52.disc), .d (D.s x52.discName), .d (D.b x52.has), .d (D.i .i64 x52.default_), .d (.sl (List.map E56 x52.comps)), .d (D.i .i64 x52.target), .d (D.i .u8 x52.formal), .d (D.b x52.limited), .d (D.i .i64 x52.priv), .d (D.i .i64 x52.full), .d (D.i .i64 x52.level)]]) rfl ?_
   refine WL.ns ?_
   refine wc_sr ?_
   refine WL.qn (y_fieldAddr f54_0 rfl) rfl ?_
   refine WL.qn (y_load rfl rfl a49 rfl) rfl ?_
   refine WL.qn (y_fieldAddr f54_0 rfl) rfl ?_
   refine WL.qn (y_load rfl rfl a49 rfl) rfl ?_
   refine WL.qn (y_eql rfl rfl) rfl ?_
   refine WL.mv rfl rfl ?_
   apply WL.and 4 (t := 31) (d := 35)
   ·exact rfl
   ·intro hg31
    refine WL.qy (y_fieldAddr f54_13 rfl) rfl rfl rfl ?_
    refine WL.qy (y_load rfl rfl a52 rfl) rfl rfl rfl ?_
    refine WL.qy (y_eql rfl rfl) rfl rfl rfl ?_
    refine WL.qn (y_pick_t rfl rfl) rfl ?_
    exact WL.nil ⟨rfl, [_, _, _, _], rfl, rfl, rfl⟩
   ·refine WL.skips 3 rfl ?_
    refine WL.qn (y_pick_f rfl rfl) rfl ?_
    exact WL.nil ⟨rfl, [_, _, _, _], rfl, rfl, rfl⟩
   refine WL.mv rfl rfl ?_
   apply WL.and 4 (t := 36) (d := 40)
   ·exact rfl
   ·intro hg36
    refine WL.qy (y_fieldAddr f54_13 rfl) rfl rfl rfl ?_
    refine WL.qy (y_load rfl rfl a52 rfl) rfl rfl rfl ?_
    refine WL.qy (y_eql rfl rfl) rfl rfl rfl ?_
    refine WL.qn (y_pick_t rfl rfl) rfl ?_
    exact WL.nil ⟨rfl, [_, _, _, _], rfl, rfl, rfl⟩
   ·refine WL.skips 3 rfl ?_
    refine WL.qn (y_pick_f rfl rfl) rfl ?_
    exact WL.nil ⟨rfl, [_, _, _, _], rfl, rfl, rfl⟩
   refine WL.mv rfl rfl ?_
   obtain ⟨b53, hb53, h⟩ := bindS h
   apply WL.grp 6 (t := 41) (d := 47) (z := b53)
   ·exact rfl
   ·intro hg41
    have h := condT hb53 hg41
    refine WL.qy (y_fieldAddr f54_4 rfl) rfl rfl rfl ?_
    refine WL.qy (y_load rfl rfl a50 rfl) rfl rfl rfl ?_
    refine WL.qy (y_fieldAddr f54_4 rfl) rfl rfl rfl ?_
    refine WL.qy (y_load rfl rfl a50 rfl) rfl rfl rfl ?_
    obtain ⟨r54, hr54, h⟩ := bindS h
    refine WL.fn rfl rfl rfl rfl (f72_c _ _ hr54) ⟨(Le.refl _), (Le.refl _), trivial⟩ (Wt.yes rfl rfl rfl) rfl rfl ?_
    refine WL.qn (y_pick_t rfl rfl) rfl ?_
    obtain rfl := Option.some.inj h
    exact WL.nil ⟨rfl, [_, _, _, _, _, _], rfl, rfl, rfl⟩
   ·intro hg41
    have h := condF hb53 hg41
    refine WL.skips 5 rfl ?_
    refine WL.qn (y_pick_f rfl rfl) rfl ?_
    obtain rfl := Option.some.inj h
    exact WL.nil ⟨rfl, [_, _, _, _, _, _], rfl, rfl, rfl⟩
   refine WL.as rfl rfl ?_
   refine WL.ns ?_
   refine wc_ret ?_
   obtain rfl := Option.some.inj h
   exact we_ret_fn (rs1 rfl (rv_t rfl)) (Le.refl _)

theorem f92_c (l0 : List ByteArray) {r : Bool} (h : f92 l0 = some r) : Pu Tryd.prog 92 [.sl (List.map E9 l0)] (.b r) := by
 unfold f92 at h
 refine fn_intro Tryd.func92 (by kernel_rfl) rfl rfl rfl (fun φφ ww => ?_)
 refine wc_sr ?_
 refine WL.as rfl rfl ?_
 refine WL.ns ?_
 replace h := letkS h
 obtain ⟨k33, hk33, h⟩ := h
 refine wc_cut (fun env' st' => k33 () = some r ∧ Sub [] env' ∧ SLe st' []) ?_ ?_
 ·refine wc_sr ?_
  refine WL.as rfl rfl ?_
  refine WL.ns ?_
  refine wc_block ?_
  refine wc_loop (fun n env' st' => ∃ (iq35 : Int), f92_l1 l0 k33 n iq35 = some r ∧ Sub [(0, .d (.sl (List.map E9 l0))), (3, .d (D.i .i64 iq35))] env' ∧ SLe st' []) (fun n => n) 9223372036854775808 ⟨0, h, (Sub.cons rfl (Le.refl _) (Sub.cons rfl (Le.refl _) (Sub.nil _))), trivial⟩ ?_
  rintro n env1 st1 ⟨iq35, h, hsub, hst⟩
  cases n with
  | zero => rw [f92_l1] at h; cases h
  | succ n =>
  rw [f92_l1] at h
  refine WC.sub hsub (WC.weak hst ?_)
  refine wc_seq ?_
  refine wc_sr ?_
  refine WL.mv rfl rfl ?_
  refine WL.mv rfl rfl ?_
  refine WL.qn (y_len_map E9 l0 e50 rfl rfl (Le.refl _)) rfl ?_
  refine WL.qn (y_lss rfl rfl) rfl ?_
  refine WL.ns ?_
  refine wc_cond rfl (fun hc1 => ?_) (fun hc1 => ?_)
  ·replace h := condT h hc1
   refine wc_skip ?_
   refine we_seq ?_
   replace h := letkS h
   obtain ⟨k37, hk37, h⟩ := h
   refine wc_cut (fun env' st' => k37 () = some r ∧ Sub [(0, .d (.sl (List.map E9 l0))), (3, .d (D.i .i64 iq35))] env' ∧ SLe st' []) ?_ ?_
   ·refine wc_block ?_
    refine wc_seq ?_
    refine wc_sr ?_
    refine WL.mv rfl rfl ?_
    refine WL.mv rfl rfl ?_
    obtain ⟨x38, hx38, h⟩ := bindS h
    refine WL.qn (y_indexAddr e50 rfl (Le.refl _) rfl (idx_nonneg hx38) (idx_row E9_eq hx38) rfl) rfl ?_
    refine WL.qn (y_loadc rfl a9 rfl) rfl ?_
    obtain ⟨r39, hr39, h⟩ := bindS h
    refine WL.fn rfl rfl rfl rfl (f75_c _ hr39) ⟨(Le.refl _), trivial⟩ (Wt.none rfl) rfl rfl ?_
    refine WL.qn (y_not rfl) rfl ?_
    refine WL.ns ?_
    refine wc_cond rfl (fun hc2 => ?_) (fun hc2 => ?_)
    ·replace h := condT h hc2
     refine wc_sr ?_
     refine WL.as rfl rfl ?_
     refine WL.ns ?_
     refine wc_ret ?_
     refine we_seq_ret ?_
     refine we_blk_ret ?_
     refine we_lp_ret ?_
     refine we_lp_ret ?_
     refine we_blk_ret ?_
     refine we_lp_ret ?_
     obtain rfl := Option.some.inj h
     exact we_ret_fn (rs1 rfl (rv_t rfl)) (Le.refl _)
    ·replace h := condF h hc2
     refine wc_skip ?_
     refine we_seq ?_
     refine wc_sr ?_
     refine WL.as rfl rfl ?_
     refine WL.ns ?_
     refine wc_block ?_
     refine wc_loop (fun na env' st' => ∃ (k41 : Int), f92_l2 l0 iq35 k37 na k41 = some r ∧ Sub [(0, .d (.sl (List.map E9 l0))), (3, .d (D.i .i64 iq35)), (4, .d (D.i .i64 k41))] env' ∧ SLe st' []) (fun n => n) 9223372036854775808 ⟨0, h, (Sub.cons rfl (Le.refl _) (Sub.cons rfl (Le.refl _) (Sub.cons rfl (Le.refl _) (Sub.nil _)))), trivial⟩ ?_
     rintro na env1 st1 ⟨k41, h, hsub, hst⟩
     cases na with
     | zero => rw [f92_l2] at h; cases h
     | succ na =>
     rw [f92_l2] at h
     refine WC.sub hsub (WC.weak hst ?_)
     refine wc_seq ?_
     refine wc_sr ?_
     refine WL.mv rfl rfl ?_
     refine WL.mv rfl rfl ?_
     refine WL.qn (y_lss rfl rfl) rfl ?_
     refine WL.ns ?_
     refine wc_cond rfl (fun hc3 => ?_) (fun hc3 => ?_)
     ·replace h := condT h hc3
      refine wc_skip ?_
      refine we_seq ?_
      refine wc_seq ?_
      refine wc_block ?_
      refine wc_seq ?_
      refine wc_region_draw (by kernel_rfl) (by kernel_rfl) ?_
      refine WQ.qn (y_move rfl) rfl ?_
      refine WQ.qn (y_move rfl) rfl ?_
      obtain ⟨x43, hx43, h⟩ := bindS h
      refine WQ.qn (y_indexAddr e50 rfl (Le.refl _) rfl (idx_nonneg hx43) (idx_row E9_eq hx43) rfl) rfl ?_
      refine WQ.qn (y_loadc rfl a9 rfl) rfl ?_
      refine WQ.qn (y_move rfl) rfl ?_
      refine WQ.qn (y_move rfl) rfl ?_
      obtain ⟨x44, hx44, h⟩ := bindS h
      refine WQ.qn (y_indexAddr e50 rfl (Le.refl _) rfl (idx_nonneg hx44) (idx_row E9_eq hx44) rfl) rfl ?_
      refine WQ.qn (y_loadc rfl a9 rfl) rfl ?_
      refine WQ.qn (y_eqs rfl rfl) rfl ?_
      refine WQ.nil ?_
      refine we_seq ?_
      refine wc_cond rfl (fun hc4 => ?_) (fun hc4 => ?_)
      ·replace h := condT h hc4
       refine wc_sr ?_
       refine WL.as rfl rfl ?_
       refine WL.ns ?_
       refine wc_ret ?_
       refine we_blk_ret ?_
       refine we_seq_ret ?_
       refine we_lp_ret ?_
       refine we_blk_ret ?_
       refine we_blk_ret ?_
       refine we_lp_ret ?_
       refine we_lp_ret ?_
       refine we_blk_ret ?_
       refine we_lp_ret ?_
       obtain rfl := Option.some.inj h
       exact we_ret_fn (rs1 rfl (rv_t rfl)) (Le.refl _)
      ·replace h := condF h hc4
       refine wc_skip ?_
       refine we_blk ?_
       refine we_seq ?_
       refine wc_region ?_
       refine WL.mv rfl rfl ?_
       refine WL.qn (y_add rfl rfl rfl) rfl ?_
       refine WL.as rfl rfl ?_
       refine WL.nil ?_
       exact we_lp ⟨na, ⟨(IntKind.i64.wrap (k41 + 1)), h, (Sub.cons rfl (Le.refl _) (Sub.cons rfl (Le.refl _) (Sub.cons rfl (Le.refl _) (Sub.nil _)))), trivial⟩, Nat.lt_succ_self na⟩
     ·replace h := condF h hc3
      refine wc_exit ?_
      refine we_seq_exit ?_
      refine we_lp_exit ?_
      refine we_blk_hit ?_
      refine we_blk ?_
      exact we_lp ⟨h, (Sub.cons rfl (Le.refl _) (Sub.cons rfl (Le.refl _) (Sub.nil _))), trivial⟩
   ·rintro env1 st1 ⟨h, hsub, hst⟩
    subst hk37
    dsimp only at h
    refine WC.sub hsub (WC.weak hst ?_)
    refine wc_region ?_
    refine WL.mv rfl rfl ?_
    refine WL.qn (y_add rfl rfl rfl) rfl ?_
    refine WL.as rfl rfl ?_
    refine WL.nil ?_
    exact we_lp ⟨n, ⟨(IntKind.i64.wrap (iq35 + 1)), h, (Sub.cons rfl (Le.refl _) (Sub.cons rfl (Le.refl _) (Sub.nil _))), trivial⟩, Nat.lt_succ_self n⟩
  ·replace h := condF h hc1
   refine wc_exit ?_
   refine we_seq_exit ?_
   refine we_lp_exit ?_
   refine we_blk_hit ?_
   exact we_lp ⟨h, (Sub.nil _), trivial⟩
 ·rintro env1 st1 ⟨h, hsub, hst⟩
  subst hk33
  dsimp only at h
  refine WC.sub hsub (WC.weak hst ?_)
  refine wc_sr ?_
  refine WL.as rfl rfl ?_
  refine WL.ns ?_
  refine wc_ret ?_
  obtain rfl := Option.some.inj h
  exact we_ret_fn (rs1 rfl (rv_t rfl)) (Le.refl _)

theorem f93_c (t0 : Table) (sub1 : Int) {r : Bool} (h : f93 t0 sub1 = some r) : Pu Tryd.prog 93 [.ag (R28 t0), .i .i64 sub1] (.b r) := by
 unfold f93 at h
 refine fn_intro Tryd.func93 (by kernel_rfl) rfl rfl rfl (fun φφ ww => ?_)
 refine wc_sr ?_
 refine WL.s ((b_boxd rfl rfl (Les.refl _)).does) (Wt.none rfl) rfl rfl ?_
 refine WL.as rfl rfl ?_
 refine WL.ns ?_
 refine wc_sr ?_
 refine WL.qn (y_loadcN rfl a28 s28 rfl) rfl ?_
 refine WL.mv rfl rfl ?_
 obtain ⟨r30, hr30, h⟩ := bindS h
 refine WL.fn rfl rfl rfl rfl (f26_c _ _ hr30) ⟨(Le.refl _), (Le.refl _), trivial⟩ (Wt.none rfl) rfl rfl ?_
 refine WL.mv rfl rfl ?_
 refine WL.qn (y_extractd rfl rfl) rfl ?_
 refine WL.qn (y_extractd rfl rfl) rfl ?_
 refine WL.qn (y_extractd rfl rfl) rfl ?_
 refine WL.as rfl rfl ?_
 refine WL.as rfl rfl ?_
 refine WL.as rfl rfl ?_
 refine WL.ns ?_
 refine wc_sr ?_
 refine WL.mv rfl rfl ?_
 refine WL.mv rfl rfl ?_
 apply WL.and 4 (t := 16) (d := 20)
 ·exact rfl
 ·intro hg16
  refine WL.qy (y_move rfl) rfl rfl rfl ?_
  refine WL.qy (y_move rfl) rfl rfl rfl ?_
  refine WL.qy (y_leq rfl rfl) rfl rfl rfl ?_
  refine WL.qn (y_pick_t rfl rfl) rfl ?_
  exact WL.nil ⟨rfl, [_, _, _, _], rfl, rfl, rfl⟩
 ·refine WL.skips 3 rfl ?_
  refine WL.qn (y_pick_f rfl rfl) rfl ?_
  exact WL.nil ⟨rfl, [_, _, _, _], rfl, rfl, rfl⟩
 refine WL.mv rfl rfl ?_
 obtain ⟨b31, hb31, h⟩ := bindS h
 apply WL.grp 5 (t := 21) (d := 26) (z := b31)
 ·exact rfl
 ·intro hg21
  have h := condT hb31 hg21
  refine WL.skips 4 rfl ?_
  refine WL.qn (y_pick_t rfl rfl) rfl ?_
  obtain rfl := Option.some.inj h
  exact WL.nil ⟨rfl, [_, _, _, _, _], rfl, rfl, rfl⟩
 ·intro hg21
  have h := condF hb31 hg21
  refine WL.qy (y_loadcN rfl a28 s28 rfl) rfl rfl rfl ?_
  refine WL.qy (y_move rfl) rfl rfl rfl ?_
  obtain ⟨r32, hr32, h⟩ := bindS h
  refine WL.fn rfl rfl rfl rfl (f44_c _ _ hr32) ⟨(Le.refl _), (Le.refl _), trivial⟩ (Wt.yes rfl rfl rfl) rfl rfl ?_
  refine WL.qy (y_eql rfl rfl) rfl rfl rfl ?_
  refine WL.qn (y_pick_f rfl rfl) rfl ?_
  obtain rfl := Option.some.inj h
  exact WL.nil ⟨rfl, [_, _, _, _, _], rfl, rfl, rfl⟩
 refine WL.as rfl rfl ?_
 refine WL.ns ?_
 refine wc_ret ?_
 obtain rfl := Option.some.inj h
 exact we_ret_fn (rs1 rfl (rv_t rfl)) (Le.refl _)

theorem f106_c (t0 : Table) (ty1 : Int) (c2 : CompRow) {r : Bool} (h : f106 t0 ty1 c2 = some r) : Pu Tryd.prog 106 [.ag (R28 t0), .i .i64 ty1, .ag (R56 c2)] (.b r) := by
 unfold f106 at h
 refine fn_intro Tryd.func106 (by kernel_rfl) rfl rfl rfl (fun φφ ww => ?_)
 refine wc_sr ?_
 refine WL.s ((b_boxd rfl rfl (Les.refl _)).does) (Wt.none rfl) rfl rfl ?_
 refine WL.s ((b_boxd rfl rfl (Les.refl _)).does) (Wt.none rfl) rfl rfl ?_
 refine WL.as rfl rfl ?_
 refine WL.ns ?_
 refine wc_seq ?_
 refine wc_sr ?_
 refine WL.qn (y_loadcN rfl a28 s28 rfl) rfl ?_
 refine WL.qn (y_fieldAddrc f56_1 rfl) rfl ?_
 refine WL.qn (y_loadc rfl a3 rfl) rfl ?_
 obtain ⟨r96, hr96, h⟩ := bindS h
 refine WL.fn rfl rfl rfl rfl (f93_c _ _ hr96) ⟨(Le.refl _), (Le.refl _), trivial⟩ (Wt.none rfl) rfl rfl ?_
 refine WL.qn (y_not rfl) rfl ?_
 refine WL.mv rfl rfl ?_
 obtain ⟨b97, hb97, h⟩ := bindS h
 apply WL.grp 12 (t := 14) (d := 26) (z := b97)
 ·exact rfl
 ·intro hg14
  have h := condT hb97 hg14
  refine WL.skips 11 rfl ?_
  refine WL.qn (y_pick_t rfl rfl) rfl ?_
  obtain rfl := Option.some.inj h
  exact WL.nil ⟨rfl, [_, _, _, _, _, _, _, _, _, _, _, _], rfl, rfl, rfl⟩
 ·intro hg14
  have h := condF hb97 hg14
  refine WL.qy (y_fieldAddrc f56_2 rfl) rfl rfl rfl ?_
  refine WL.qy (y_loadc rfl a4 rfl) rfl rfl rfl ?_
  refine WL.qy (y_move rfl) rfl rfl rfl ?_
  obtain ⟨b98, hb98, h⟩ := bindS h
  apply WL.grp 8 (t := 17) (d := 25) (z := b98)
  ·exact rfl
  ·intro hg17
   have h := condT hb98 hg17
   refine WL.qy (y_loadcN rfl a28 s28 rfl) rfl rfl rfl ?_
   refine WL.qy (y_fieldAddrc f56_1 rfl) rfl rfl rfl ?_
   refine WL.qy (y_loadc rfl a3 rfl) rfl rfl rfl ?_
   refine WL.qy (y_fieldAddrc f56_3 rfl) rfl rfl rfl ?_
   refine WL.qy (y_loadc rfl a2 rfl) rfl rfl rfl ?_
   obtain ⟨r99, hr99, h⟩ := bindS h
   refine WL.fn rfl rfl rfl rfl (f45_c _ _ _ hr99) ⟨(Le.refl _), (Le.refl _), (Le.refl _), trivial⟩ (Wt.yes rfl rfl rfl) rfl rfl ?_
   refine WL.qy (y_not rfl) rfl rfl rfl ?_
   refine WL.qy (y_pick_t rfl rfl) rfl rfl rfl ?_
   obtain rfl := Option.some.inj h
   exact WL.nil ⟨rfl, [_, _, _, _, _, _, _, _], rfl, rfl, rfl⟩
  ·intro hg17
   have h := condF hb98 hg17
   refine WL.skips 7 rfl ?_
   refine WL.qy (y_pick_f rfl rfl) rfl rfl rfl ?_
   obtain rfl := Option.some.inj h
   exact WL.nil ⟨rfl, [_, _, _, _, _, _, _, _], rfl, rfl, rfl⟩
  refine WL.qn (y_pick_f rfl rfl) rfl ?_
  obtain rfl := Option.some.inj h
  exact WL.nil ⟨rfl, [_, _, _, _, _], rfl, rfl, rfl⟩
 refine WL.mv rfl rfl ?_
 apply WL.or 9 (t := 27) (d := 36)
 ·exact rfl
 ·intro hg27
  refine WL.qy (y_fieldAddrc f56_2 rfl) rfl rfl rfl ?_
  refine WL.qy (y_loadc rfl a4 rfl) rfl rfl rfl ?_
  refine WL.qy (y_not rfl) rfl rfl rfl ?_
  refine WL.qy (y_move rfl) rfl rfl rfl ?_
  apply WL.and 4 (t := 31) (d := 35)
  ·exact rfl
  ·intro hg31
   refine WL.qy (y_fieldAddrc f56_3 rfl) rfl rfl rfl ?_
   refine WL.qy (y_loadc rfl a2 rfl) rfl rfl rfl ?_
   refine WL.qy (y_neq rfl rfl) rfl rfl rfl ?_
   refine WL.qy (y_pick_t rfl rfl) rfl rfl rfl ?_
   exact WL.nil ⟨rfl, [_, _, _, _], rfl, rfl, rfl⟩
  ·refine WL.skips 3 rfl ?_
   refine WL.qy (y_pick_f rfl rfl) rfl rfl rfl ?_
   exact WL.nil ⟨rfl, [_, _, _, _], rfl, rfl, rfl⟩
  refine WL.qn (y_pick_f rfl rfl) rfl ?_
  exact WL.nil ⟨rfl, [_, _, _, _, _, _], rfl, rfl, rfl⟩
 ·refine WL.skips 8 rfl ?_
  refine WL.qn (y_pick_t rfl rfl) rfl ?_
  exact WL.nil ⟨rfl, [_, _, _, _, _, _, _, _, _], rfl, rfl, rfl⟩
 refine WL.ns ?_
 refine wc_cond rfl (fun hc1 => ?_) (fun hc1 => ?_)
 ·replace h := condT h hc1
  refine wc_sr ?_
  refine WL.as rfl rfl ?_
  refine WL.ns ?_
  refine wc_ret ?_
  refine we_seq_ret ?_
  obtain rfl := Option.some.inj h
  exact we_ret_fn (rs1 rfl (rv_t rfl)) (Le.refl _)
 ·replace h := condF h hc1
  refine wc_skip ?_
  refine we_seq ?_
  refine wc_seq ?_
  refine wc_sr ?_
  refine WL.qn (y_fieldAddrc f56_4 rfl) rfl ?_
  refine WL.qn (y_loadc rfl a4 rfl) rfl ?_
  refine WL.qn (y_not rfl) rfl ?_
  refine WL.ns ?_
  refine wc_cond rfl (fun hc2 => ?_) (fun hc2 => ?_)
  ·replace h := condT h hc2
   refine wc_sr ?_
   refine WL.qn (y_fieldAddrc f56_5 rfl) rfl ?_
   refine WL.qn (y_loadc rfl a41 rfl) rfl ?_
   refine WL.qn (y_len_map E2 c2.when e41 rfl rfl (Le.refl _)) rfl ?_
   refine WL.qn (y_eql rfl rfl) rfl ?_
   refine WL.as rfl rfl ?_
   refine WL.ns ?_
   refine wc_ret ?_
   refine we_seq_ret ?_
   obtain rfl := Option.some.inj h
   exact we_ret_fn (rs1 rfl (rv_t rfl)) (Le.refl _)
  ·replace h := condF h hc2
   refine wc_skip ?_
   refine we_seq ?_
   refine wc_sr ?_
   refine WL.qn (y_fieldAddrc f28_0 rfl) rfl ?_
   refine WL.qn (y_loadc rfl a22 rfl) rfl ?_
   refine WL.mv rfl rfl ?_
   obtain ⟨x100, hx100, h⟩ := bindS h
   refine WL.qn (y_indexAddr e22 rfl (Le.refl _) rfl (idx_nonneg hx100) (idx_row E54_eq hx100) rfl) rfl ?_
   refine WL.qn (y_fieldAddrc f54_7 rfl) rfl ?_
   refine WL.qn (y_loadc rfl a3 rfl) rfl ?_
   refine WL.as rfl rfl ?_
   refine WL.ns ?_
   replace h := letkS h
   obtain ⟨k101, hk101, h⟩ := h
   refine wc_cut (fun env' st' => k101 () = some r ∧ Sub [(5, .d (.pc (R56 c2))), (7, .d (D.i .i64 x100.disc))] env' ∧ SLe st' []) ?_ ?_
   ·refine wc_sr ?_
    refine WL.as rfl rfl ?_
    refine WL.ns ?_
    refine wc_block ?_
    refine wc_loop (fun n env' st' => ∃ (iq103 : Int), f106_l1 t0 c2 x100 k101 n iq103 = some r ∧ Sub [(3, .d (.pc (R28 t0))), (5, .d (.pc (R56 c2))), (7, .d (D.i .i64 x100.disc)), (8, .d (D.i .i64 iq103))] env' ∧ SLe st' []) (fun n => n) 9223372036854775808 ⟨0, h, (Sub.cons rfl (Le.refl _) (Sub.cons rfl (Le.refl _) (Sub.cons rfl (Le.refl _) (Sub.cons rfl (Le.refl _) (Sub.nil _))))), trivial⟩ ?_
    rintro n env1 st1 ⟨iq103, h, hsub, hst⟩
    cases n with
    | zero => rw [f106_l1] at h; cases h
    | succ n =>
    rw [f106_l1] at h
    refine WC.sub hsub (WC.weak hst ?_)
    refine wc_seq ?_
    refine wc_sr ?_
    refine WL.mv rfl rfl ?_
    refine WL.qn (y_fieldAddrc f56_5 rfl) rfl ?_
    refine WL.qn (y_loadc rfl a41 rfl) rfl ?_
    refine WL.qn (y_len_map E2 c2.when e41 rfl rfl (Le.refl _)) rfl ?_
    refine WL.qn (y_lss rfl rfl) rfl ?_
    refine WL.ns ?_
    refine wc_cond rfl (fun hc3 => ?_) (fun hc3 => ?_)
    ·replace h := condT h hc3
     refine wc_skip ?_
     refine we_seq ?_
     refine wc_seq ?_
     refine wc_block ?_
     refine wc_seq ?_
     refine wc_region_draw (by kernel_rfl) (by kernel_rfl) ?_
     refine WQ.qn (y_loadcN rfl a28 s28 rfl) rfl ?_
     refine WQ.qn (y_move rfl) rfl ?_
     refine WQ.qn (y_fieldAddrc f56_5 rfl) rfl ?_
     refine WQ.qn (y_loadc rfl a41 rfl) rfl ?_
     refine WQ.qn (y_move rfl) rfl ?_
     obtain ⟨x105, hx105, h⟩ := bindS h
     refine WQ.qn (y_indexAddr e41 rfl (Le.refl _) rfl (idx_nonneg hx105) (idx_row E2_eq hx105) rfl) rfl ?_
     refine WQ.qn (y_loadc rfl a2 rfl) rfl ?_
     obtain ⟨r106, hr106, h⟩ := bindS h
     refine WQ.q (YieldsQ.fn rfl rfl rfl rfl rfl (f45_c _ _ _ hr106) ⟨(Le.refl _), (Le.refl _), (Le.refl _), trivial⟩) (Wt.none rfl) rfl rfl ?_
     refine WQ.qn (y_not rfl) rfl ?_
     refine WQ.qn (y_move rfl) rfl ?_
     obtain ⟨b107, hb107, h⟩ := bindS h
     apply WQ.grp 17 (t := 66) (d := 83) (z := b107)
     ·exact rfl
     ·intro hg66
      have h := condT hb107 hg66
      refine WQ.skips 16 rfl ?_
      refine WQ.qn (y_pick_t rfl rfl) rfl ?_
      obtain rfl := Option.some.inj h
      exact WQ.nil ⟨[_, _, _, _, _, _, _, _, _, _, _, _, _, _, _, _, _], rfl, rfl, rfl⟩
     ·intro hg66
      have h := condF hb107 hg66
      refine WQ.qy (y_move rfl) rfl rfl rfl ?_
      refine WQ.qy (y_gtr rfl rfl) rfl rfl rfl ?_
      refine WQ.qy (y_move rfl) rfl rfl rfl ?_
      obtain ⟨b108, hb108, h⟩ := bindS h
      apply WQ.grp 13 (t := 69) (d := 82) (z := b108)
      ·exact rfl
      ·intro hg69
       have h := condT hb108 hg69
       refine WQ.qy (y_fieldAddrc f56_5 rfl) rfl rfl rfl ?_
       refine WQ.qy (y_loadc rfl a41 rfl) rfl rfl rfl ?_
       refine WQ.qy (y_move rfl) rfl rfl rfl ?_
       obtain ⟨x109, hx109, h⟩ := bindS h
       refine WQ.qy (y_indexAddr e41 rfl (Le.refl _) rfl (idx_nonneg hx109) (idx_row E2_eq hx109) rfl) rfl rfl rfl ?_
       refine WQ.qy (y_loadc rfl a2 rfl) rfl rfl rfl ?_
       refine WQ.qy (y_fieldAddrc f56_5 rfl) rfl rfl rfl ?_
       refine WQ.qy (y_loadc rfl a41 rfl) rfl rfl rfl ?_
       refine WQ.qy (y_move rfl) rfl rfl rfl ?_
       refine WQ.qy (y_sub rfl rfl rfl) rfl rfl rfl ?_
       obtain ⟨x110, hx110, h⟩ := bindS h
       refine WQ.qy (y_indexAddr e41 rfl (Le.refl _) rfl (idx_nonneg hx110) (idx_row E2_eq hx110) rfl) rfl rfl rfl ?_
       refine WQ.qy (y_loadc rfl a2 rfl) rfl rfl rfl ?_
       refine WQ.qy (y_leq rfl rfl) rfl rfl rfl ?_
       refine WQ.qy (y_pick_t rfl rfl) rfl rfl rfl ?_
       obtain rfl := Option.some.inj h
       exact WQ.nil ⟨[_, _, _, _, _, _, _, _, _, _, _, _, _], rfl, rfl, rfl⟩
      ·intro hg69
       have h := condF hb108 hg69
       refine WQ.skips 12 rfl ?_
       refine WQ.qy (y_pick_f rfl rfl) rfl rfl rfl ?_
       obtain rfl := Option.some.inj h
       exact WQ.nil ⟨[_, _, _, _, _, _, _, _, _, _, _, _, _], rfl, rfl, rfl⟩
      refine WQ.qn (y_pick_f rfl rfl) rfl ?_
      obtain rfl := Option.some.inj h
      exact WQ.nil ⟨[_, _, _, _, _], rfl, rfl, rfl⟩
     refine WQ.nil ?_
     refine we_seq ?_
     refine wc_cond rfl (fun hc4 => ?_) (fun hc4 => ?_)
     ·replace h := condT h hc4
      refine wc_sr ?_
      refine WL.as rfl rfl ?_
      refine WL.ns ?_
      refine wc_ret ?_
      refine we_blk_ret ?_
      refine we_seq_ret ?_
      refine we_lp_ret ?_
      refine we_blk_ret ?_
      refine we_lp_ret ?_
      obtain rfl := Option.some.inj h
      exact we_ret_fn (rs1 rfl (rv_t rfl)) (Le.refl _)
     ·replace h := condF h hc4
      refine wc_skip ?_
      refine we_blk ?_
      refine we_seq ?_
      refine wc_region ?_
      refine WL.mv rfl rfl ?_
      refine WL.qn (y_add rfl rfl rfl) rfl ?_
      refine WL.as rfl rfl ?_
      refine WL.nil ?_
      exact we_lp ⟨n, ⟨(IntKind.i64.wrap (iq103 + 1)), h, (Sub.cons rfl (Le.refl _) (Sub.cons rfl (Le.refl _) (Sub.cons rfl (Le.refl _) (Sub.cons rfl (Le.refl _) (Sub.nil _))))), trivial⟩, Nat.lt_succ_self n⟩
    ·replace h := condF h hc3
     refine wc_exit ?_
     refine we_seq_exit ?_
     refine we_lp_exit ?_
     refine we_blk_hit ?_
     exact we_lp ⟨h, (Sub.cons rfl (Le.refl _) (Sub.cons rfl (Le.refl _) (Sub.nil _))), trivial⟩
   ·rintro env1 st1 ⟨h, hsub, hst⟩
    subst hk101
    dsimp only at h
    refine WC.sub hsub (WC.weak hst ?_)
    refine wc_sr ?_
    refine WL.mv rfl rfl ?_
    refine WL.qn (y_neq rfl rfl) rfl ?_
    refine WL.mv rfl rfl ?_
    apply WL.and 5 (t := 86) (d := 91)
    ·exact rfl
    ·intro hg86
     refine WL.qy (y_fieldAddrc f56_5 rfl) rfl rfl rfl ?_
     refine WL.qy (y_loadc rfl a41 rfl) rfl rfl rfl ?_
     refine WL.qy (y_len_map E2 c2.when e41 rfl rfl (Le.refl _)) rfl rfl rfl ?_
     refine WL.qy (y_gtr rfl rfl) rfl rfl rfl ?_
     refine WL.qn (y_pick_t rfl rfl) rfl ?_
     exact WL.nil ⟨rfl, [_, _, _, _, _], rfl, rfl, rfl⟩
    ·refine WL.skips 4 rfl ?_
     refine WL.qn (y_pick_f rfl rfl) rfl ?_
     exact WL.nil ⟨rfl, [_, _, _, _, _], rfl, rfl, rfl⟩
    refine WL.as rfl rfl ?_
    refine WL.ns ?_
    refine wc_ret ?_
    obtain rfl := Option.some.inj h
    exact we_ret_fn (rs1 rfl (rv_t rfl)) (Le.refl _)

theorem f94_c (t0 : Table) (ty1 : Int) {r : Bool} (h : f94 t0 ty1 = some r) : Pu Tryd.prog 94 [.ag (R28 t0), .i .i64 ty1] (.b r) := by
 unfold f94 at h
 refine fn_intro Tryd.func94 (by kernel_rfl) rfl rfl rfl (fun φφ ww => ?_)
 refine wc_sr ?_
 refine WL.s ((b_boxd rfl rfl (Les.refl _)).does) (Wt.none rfl) rfl rfl ?_
 refine WL.as rfl rfl ?_
 refine WL.ns ?_
 refine wc_sr ?_
 refine WL.qn (y_fieldAddrc f28_0 rfl) rfl ?_
 refine WL.qn (y_loadc rfl a22 rfl) rfl ?_
 refine WL.mv rfl rfl ?_
 obtain ⟨x96, hx96, h⟩ := bindS h
 refine WL.qn (y_indexAddr e22 rfl (Le.refl _) rfl (idx_nonneg hx96) (idx_row E54_eq hx96) rfl) rfl ?_
 refine WL.qn (y_loadcN rfl a54 s54 rfl) rfl ?_
 refine WL.s ((b_alloc z54).does) (Wt.none rfl) rfl rfl ?_
 refine WL.s0 (d_store rfl rfl rfl rfl rfl rfl s54 rfl rfl) (Wt.none rfl) rfl ?_
 refine WL.st (st' := [.row 54 [.d (D.i .u8 x96.kind), .d (D.s x96.name), .d (D.i .i64 x96.parent), .d (D.i .i64 x96.first), .d (.sl (List.map E9 x96.lits)), .d (D.i .i64 x96.index), .d (D.i .i64 x96.elem), .d (D.i .i64 x96.disc), .d (D.s x96.discName), .d (D.b x96.has), .d (D.i .i64 x96.default_), .d (.sl (List.map E56 x96.comps)), .d (D.i .i64 x96.target), .d (D.i .u8 x96.formal), .d (D.b x96.limited), .d (D.i .i64 x96.priv), .d (D.i .i64 x96.full), .d (D.i .i64 x96.level)]]) rfl ?_
 refine WL.ns ?_
 refine wc_sr ?_
 refine WL.as rfl rfl ?_
 refine WL.nil_os 6 9 1 rfl ?_
 refine WL.ns ?_
 replace h := letkS h
 obtain ⟨k99, hk99, h⟩ := h
 refine wc_cut (fun env' st' => ∃ (l97 : List ByteArray), ∃ (ver98 : Nat), k99 l97 = some r ∧ Sub [(1, .d (D.i .i64 ty1)), (2, .d (.pc (R28 t0))), (5, .pt 0 0), (6, .os 1 ver98)] env' ∧ SLe st' [.row 54 [.d (D.i .u8 x96.kind), .d (D.s x96.name), .d (D.i .i64 x96.parent), .d (D.i .i64 x96.first), .d (.sl (List.map E9 x96.lits)), .d (D.i .i64 x96.index), .d (D.i .i64 x96.elem), .d (D.i .i64 x96.disc), .d (D.s x96.discName), .d (D.b x96.has), .d (D.i .i64 x96.default_), .d (.sl (List.map E56 x96.comps)), .d (D.i .i64 x96.target), .d (D.i .u8 x96.formal), .d (D.b x96.limited), .d (D.i .i64 x96.priv), .d (D.i .i64 x96.full), .d (D.i .i64 x96.level)], .os 9 1 ver98 (List.map (encA E9) l97)]) ?_ ?_
 ·refine wc_sr ?_
  refine WL.qn (y_fieldAddr f54_7 rfl) rfl ?_
  refine WL.qn (y_load rfl rfl a3 rfl) rfl ?_
  refine WL.qn (y_neq rfl rfl) rfl ?_
  refine WL.ns ?_
  refine wc_cond rfl (fun hc1 => ?_) (fun hc1 => ?_)
  ·replace h := condT h hc1
   refine wc_seq ?_
   refine wc_sr ?_
   refine WL.qn (y_loadcN rfl a28 s28 rfl) rfl ?_
   refine WL.qn (y_fieldAddr f54_7 rfl) rfl ?_
   refine WL.qn (y_load rfl rfl a3 rfl) rfl ?_
   obtain ⟨r100, hr100, h⟩ := bindS h
   refine WL.fn rfl rfl rfl rfl (f78_c _ _ _ hr100) ⟨(Le.refl _), (Le.refl _), (Le.refl _), trivial⟩ (Wt.none rfl) rfl rfl ?_
   refine WL.qn (y_not rfl) rfl ?_
   refine WL.mv rfl rfl ?_
   obtain ⟨b101, hb101, h⟩ := bindS h
   apply WL.grp 12 (t := 21) (d := 33) (z := b101)
   ·exact rfl
   ·intro hg21
    have h := condT hb101 hg21
    refine WL.skips 11 rfl ?_
    refine WL.qn (y_pick_t rfl rfl) rfl ?_
    obtain rfl := Option.some.inj h
    exact WL.nil ⟨rfl, [_, _, _, _, _, _, _, _, _, _, _, _], rfl, rfl, rfl⟩
   ·intro hg21
    have h := condF hb101 hg21
    refine WL.qy (y_fieldAddr f54_9 rfl) rfl rfl rfl ?_
    refine WL.qy (y_load rfl rfl a4 rfl) rfl rfl rfl ?_
    refine WL.qy (y_move rfl) rfl rfl rfl ?_
    obtain ⟨b102, hb102, h⟩ := bindS h
    apply WL.grp 8 (t := 24) (d := 32) (z := b102)
    ·exact rfl
    ·intro hg24
     have h := condT hb102 hg24
     refine WL.qy (y_loadcN rfl a28 s28 rfl) rfl rfl rfl ?_
     refine WL.qy (y_fieldAddr f54_7 rfl) rfl rfl rfl ?_
     refine WL.qy (y_load rfl rfl a3 rfl) rfl rfl rfl ?_
     refine WL.qy (y_fieldAddr f54_10 rfl) rfl rfl rfl ?_
     refine WL.qy (y_load rfl rfl a2 rfl) rfl rfl rfl ?_
     obtain ⟨r103, hr103, h⟩ := bindS h
     refine WL.fn rfl rfl rfl rfl (f45_c _ _ _ hr103) ⟨(Le.refl _), (Le.refl _), (Le.refl _), trivial⟩ (Wt.yes rfl rfl rfl) rfl rfl ?_
     refine WL.qy (y_not rfl) rfl rfl rfl ?_
     refine WL.qy (y_pick_t rfl rfl) rfl rfl rfl ?_
     obtain rfl := Option.some.inj h
     exact WL.nil ⟨rfl, [_, _, _, _, _, _, _, _], rfl, rfl, rfl⟩
    ·intro hg24
     have h := condF hb102 hg24
     refine WL.skips 7 rfl ?_
     refine WL.qy (y_pick_f rfl rfl) rfl rfl rfl ?_
     obtain rfl := Option.some.inj h
     exact WL.nil ⟨rfl, [_, _, _, _, _, _, _, _], rfl, rfl, rfl⟩
    refine WL.qn (y_pick_f rfl rfl) rfl ?_
    obtain rfl := Option.some.inj h
    exact WL.nil ⟨rfl, [_, _, _, _, _], rfl, rfl, rfl⟩
   refine WL.ns ?_
   refine wc_cond rfl (fun hc2 => ?_) (fun hc2 => ?_)
   ·replace h := condT h hc2
    refine wc_sr ?_
    refine WL.as rfl rfl ?_
    refine WL.ns ?_
    refine wc_ret ?_
    refine we_seq_ret ?_
    refine we_lp_ret ?_
    obtain rfl := Option.some.inj h
    exact we_ret_fn (rs1 rfl (rv_t rfl)) (Le.refl _)
   ·replace h := condF h hc2
    refine wc_skip ?_
    refine we_seq ?_
    refine wc_region ?_
    refine WL.mv rfl rfl ?_
    refine WL.qn (y_fieldAddr f54_8 rfl) rfl ?_
    refine WL.qn (y_load rfl rfl a9 rfl) rfl ?_
    refine WL.s ((NewOs.b (n_buildSlice l50 z9 rfl (by decide) (by decide) rfl rfl rfl (by decide))).does) (Wt.none rfl) rfl rfl ?_
    replace h := guardBS h
    obtain ⟨hgg104, h⟩ := h
    refine WL.s (d_appendL E9 [] [x96.discName] l50 z9 rfl (by decide) rfl rfl rfl rfl (Src.own rfl) (fun _ => rfl) (fun _ => rfl) hgg104) (Wt.none rfl) rfl rfl ?_
    refine WL.as rfl rfl ?_
    refine WL.nil ?_
    refine WE.drop 2 (env' := [(1, .d (D.i .i64 ty1)), (2, .d (.pc (R28 t0))), (5, .pt 0 0), (6, .os 1 1)]) (Sub.one rfl (Sub.one rfl (Sub.one rfl (Sub.one rfl (Sub.nil _))))) rfl (stLt_cons rfl (stLt_cons (lt_os _ _ _ _ _ _) rfl)) (Nat.zero_le _) ?_
    exact we_lp ⟨([] ++ [x96.discName]), _, h, (Sub.cons rfl (Le.refl _) (Sub.cons rfl (Le.refl _) (Sub.cons rfl (Le.refl _) (Sub.cons rfl (Le.refl _) (Sub.nil _))))), ⟨⟨rfl, ⟨(Le.refl _), (Le.refl _), (Le.refl _), (Le.refl _), (Le.refl _), (Le.refl _), (Le.refl _), (Le.refl _), (Le.refl _), (Le.refl _), (Le.refl _), (Le.refl _), (Le.refl _), (Le.refl _), (Le.refl _), (Le.refl _), (Le.refl _), (Le.refl _), trivial⟩⟩, ⟨rfl, rfl, rfl, rfl⟩, trivial⟩⟩
  ·replace h := condF h hc1
   refine wc_sr ?_
   refine WL.qn (y_fieldAddr f54_8 rfl) rfl ?_
   refine WL.qn (y_load rfl rfl a9 rfl) rfl ?_
   refine WL.qn (y_nes rfl rfl) rfl ?_
   refine WL.mv rfl rfl ?_
   apply WL.or 3 (t := 42) (d := 45)
   ·exact rfl
   ·intro hg42
    refine WL.qy (y_fieldAddr f54_9 rfl) rfl rfl rfl ?_
    refine WL.qy (y_load rfl rfl a4 rfl) rfl rfl rfl ?_
    refine WL.qn (y_pick_f rfl rfl) rfl ?_
    exact WL.nil ⟨rfl, [_, _, _], rfl, rfl, rfl⟩
   ·refine WL.skips 2 rfl ?_
    refine WL.qn (y_pick_t rfl rfl) rfl ?_
    exact WL.nil ⟨rfl, [_, _, _], rfl, rfl, rfl⟩
   refine WL.ns ?_
   refine wc_cond rfl (fun hc3 => ?_) (fun hc3 => ?_)
   ·replace h := condT h hc3
    refine wc_sr ?_
    refine WL.as rfl rfl ?_
    refine WL.ns ?_
    refine wc_ret ?_
    refine we_lp_ret ?_
    obtain rfl := Option.some.inj h
    exact we_ret_fn (rs1 rfl (rv_t rfl)) (Le.refl _)
   ·replace h := condF h hc3
    refine wc_skip ?_
    exact we_lp ⟨[], _, h, (Sub.cons rfl (Le.refl _) (Sub.cons rfl (Le.refl _) (Sub.cons rfl (Le.refl _) (Sub.cons rfl (Le.refl _) (Sub.nil _))))), ⟨⟨rfl, ⟨(Le.refl _), (Le.refl _), (Le.refl _), (Le.refl _), (Le.refl _), (Le.refl _), (Le.refl _), (Le.refl _), (Le.refl _), (Le.refl _), (Le.refl _), (Le.refl _), (Le.refl _), (Le.refl _), (Le.refl _), (Le.refl _), (Le.refl _), (Le.refl _), trivial⟩⟩, ⟨rfl, rfl, rfl, rfl⟩, trivial⟩⟩
 ·rintro env1 st1 ⟨l97, ver98, h, hsub, hst⟩
  subst hk99
  dsimp only at h
  refine WC.sub hsub (WC.weak hst ?_)
  replace h := letkS h
  obtain ⟨k107, hk107, h⟩ := h
  refine wc_cut (fun env' st' => ∃ (l105 : List ByteArray), ∃ (ver106 : Nat), k107 l105 = some r ∧ Sub [(5, .pt 0 0), (6, .os 1 ver106)] env' ∧ SLe st' [.row 54 [.d (D.i .u8 x96.kind), .d (D.s x96.name), .d (D.i .i64 x96.parent), .d (D.i .i64 x96.first), .d (.sl (List.map E9 x96.lits)), .d (D.i .i64 x96.index), .d (D.i .i64 x96.elem), .d (D.i .i64 x96.disc), .d (D.s x96.discName), .d (D.b x96.has), .d (D.i .i64 x96.default_), .d (.sl (List.map E56 x96.comps)), .d (D.i .i64 x96.target), .d (D.i .u8 x96.formal), .d (D.b x96.limited), .d (D.i .i64 x96.priv), .d (D.i .i64 x96.full), .d (D.i .i64 x96.level)], .os 9 1 ver106 (List.map (encA E9) l105)]) ?_ ?_
  ·refine wc_sr ?_
   refine WL.as rfl rfl ?_
   refine WL.ns ?_
   refine wc_block ?_
   refine wc_loop (fun n env' st' => ∃ (iq111 : Int), ∃ (l112 : List ByteArray), ∃ (ver113 : Nat), f94_l1 t0 ty1 x96 k107 n iq111 l112 = some r ∧ Sub [(1, .d (D.i .i64 ty1)), (2, .d (.pc (R28 t0))), (5, .pt 0 0), (6, .os 1 ver113), (7, .d (D.i .i64 iq111))] env' ∧ SLe st' [.row 54 [.d (D.i .u8 x96.kind), .d (D.s x96.name), .d (D.i .i64 x96.parent), .d (D.i .i64 x96.first), .d (.sl (List.map E9 x96.lits)), .d (D.i .i64 x96.index), .d (D.i .i64 x96.elem), .d (D.i .i64 x96.disc), .d (D.s x96.discName), .d (D.b x96.has), .d (D.i .i64 x96.default_), .d (.sl (List.map E56 x96.comps)), .d (D.i .i64 x96.target), .d (D.i .u8 x96.formal), .d (D.b x96.limited), .d (D.i .i64 x96.priv), .d (D.i .i64 x96.full), .d (D.i .i64 x96.level)], .os 9 1 ver113 (List.map (encA E9) l112)]) (fun n => n) 9223372036854775808 ⟨0, l97, _, h, (Sub.cons rfl (Le.refl _) (Sub.cons rfl (Le.refl _) (Sub.cons rfl (Le.refl _) (Sub.cons rfl (Le.refl _) (Sub.cons rfl (Le.refl _) (Sub.nil _)))))), ⟨⟨rfl, ⟨(Le.refl _), (Le.refl _), (Le.refl _), (Le.refl _), (Le.refl _), (Le.refl _), (Le.refl _), (Le.refl _), (Le.refl _), (Le.refl _), (Le.refl _), (Le.refl _), (Le.refl _), (Le.refl _), (Le.refl _), (Le.refl _), (Le.refl _), (Le.refl _), trivial⟩⟩, ⟨rfl, rfl, rfl, rfl⟩, trivial⟩⟩ ?_
   rintro n env1 st1 ⟨iq111, l112, ver113, h, hsub, hst⟩
   cases n with
   | zero => rw [f94_l1] at h; cases h
   | succ n =>
   rw [f94_l1] at h
   refine WC.sub hsub (WC.weak hst ?_)
   refine wc_seq ?_
   refine wc_sr ?_
   refine WL.mv rfl rfl ?_
   refine WL.qn (y_fieldAddr f54_11 rfl) rfl ?_
   refine WL.qn (y_load rfl rfl a51 rfl) rfl ?_
   refine WL.qn (y_len_map E56 x96.comps e51 rfl rfl (Le.refl _)) rfl ?_
   refine WL.qn (y_lss rfl rfl) rfl ?_
   refine WL.ns ?_
   refine wc_cond rfl (fun hc4 => ?_) (fun hc4 => ?_)
   ·replace h := condT h hc4
    refine wc_skip ?_
    refine we_seq ?_
    refine wc_seq ?_
    refine wc_block ?_
    refine wc_seq ?_
    refine wc_seq ?_
    refine wc_region_draw (by kernel_rfl) (by kernel_rfl) ?_
    refine WQ.qn (y_loadcN rfl a28 s28 rfl) rfl ?_
    refine WQ.qn (y_move rfl) rfl ?_
    refine WQ.qn (y_fieldAddr f54_11 rfl) rfl ?_
    refine WQ.qn (y_load rfl rfl a51 rfl) rfl ?_
    refine WQ.qn (y_move rfl) rfl ?_
    obtain ⟨x117, hx117, h⟩ := bindS h
    refine WQ.qn (y_indexAddr e51 rfl (Le.refl _) rfl (idx_nonneg hx117) (idx_row E56_eq hx117) rfl) rfl ?_
    refine WQ.qn (y_loadcN rfl a56 s56 rfl) rfl ?_
    obtain ⟨r118, hr118, h⟩ := bindS h
    refine WQ.q (YieldsQ.fn rfl rfl rfl rfl rfl (f106_c _ _ _ hr118) ⟨(Le.refl _), (Le.refl _), (Le.refl _), trivial⟩) (Wt.none rfl) rfl rfl ?_
    refine WQ.qn (y_not rfl) rfl ?_
    refine WQ.nil ?_
    refine we_seq ?_
    refine wc_cond rfl (fun hc5 => ?_) (fun hc5 => ?_)
    ·replace h := condT h hc5
     refine wc_sr ?_
     refine WL.as rfl rfl ?_
     refine WL.ns ?_
     refine wc_ret ?_
     refine we_seq_ret ?_
     refine we_blk_ret ?_
     refine we_seq_ret ?_
     refine we_lp_ret ?_
     refine we_blk_ret ?_
     refine we_lp_ret ?_
     obtain rfl := Option.some.inj h
     exact we_ret_fn (rs1 rfl (rv_t rfl)) (Le.refl _)
    ·replace h := condF h hc5
     refine wc_skip ?_
     refine we_seq ?_
     refine wc_region ?_
     refine WL.mv rfl rfl ?_
     refine WL.qn (y_fieldAddr f54_11 rfl) rfl ?_
     refine WL.qn (y_load rfl rfl a51 rfl) rfl ?_
     refine WL.mv rfl rfl ?_
     obtain ⟨x119, hx119, h⟩ := bindS h
     refine WL.qn (y_indexAddr e51 rfl (Le.refl _) rfl (idx_nonneg hx119) (idx_row E56_eq hx119) rfl) rfl ?_
     refine WL.qn (y_fieldAddrc f56_0 rfl) rfl ?_
     refine WL.qn (y_loadc rfl a9 rfl) rfl ?_
     refine WL.s ((NewOs.b (n_buildSlice l50 z9 rfl (by decide) (by decide) rfl rfl rfl (by decide))).does) (Wt.none rfl) rfl rfl ?_
     replace h := guardBS h
     obtain ⟨hgg120, h⟩ := h
     refine WL.s (d_appendL E9 l112 [x119.name] l50 z9 rfl (by decide) rfl rfl rfl rfl (Src.own rfl) (fun _ => rfl) (fun _ => rfl) hgg120) (Wt.none rfl) rfl rfl ?_
     refine WL.as rfl rfl ?_
     refine WL.nil ?_
     refine we_blk ?_
     refine we_seq ?_
     refine wc_region ?_
     refine WL.mv rfl rfl ?_
     refine WL.qn (y_add rfl rfl rfl) rfl ?_
     refine WL.as rfl rfl ?_
     refine WL.nil ?_
     refine WE.drop 2 (env' := [(1, .d (D.i .i64 ty1)), (2, .d (.pc (R28 t0))), (5, .pt 0 0), (6, .os 1 (ver113 + 1)), (7, .d (D.i .i64 (IntKind.i64.wrap (iq111 + 1))))]) (Sub.one rfl (Sub.one rfl (Sub.one rfl (Sub.one rfl (Sub.one rfl (Sub.nil _)))))) rfl (stLt_cons rfl (stLt_cons (lt_os _ _ _ _ _ _) rfl)) (Nat.zero_le _) ?_
     exact we_lp ⟨n, ⟨(IntKind.i64.wrap (iq111 + 1)), (l112 ++ [x119.name]), _, h, (Sub.cons rfl (Le.refl _) (Sub.cons rfl (Le.refl _) (Sub.cons rfl (Le.refl _) (Sub.cons rfl (Le.refl _) (Sub.cons rfl (Le.refl _) (Sub.nil _)))))), ⟨⟨rfl, ⟨(Le.refl _), (Le.refl _), (Le.refl _), (Le.refl _), (Le.refl _), (Le.refl _), (Le.refl _), (Le.refl _), (Le.refl _), (Le.refl _), (Le.refl _), (Le.refl _), (Le.refl _), (Le.refl _), (Le.refl _), (Le.refl _), (Le.refl _), (Le.refl _), trivial⟩⟩, ⟨rfl, rfl, rfl, rfl⟩, trivial⟩⟩, Nat.lt_succ_self n⟩
   ·replace h := condF h hc4
    refine wc_exit ?_
    refine we_seq_exit ?_
    refine we_lp_exit ?_
    refine we_blk_hit ?_
    exact we_lp ⟨l112, _, h, (Sub.cons rfl (Le.refl _) (Sub.cons rfl (Le.refl _) (Sub.nil _))), ⟨⟨rfl, ⟨(Le.refl _), (Le.refl _), (Le.refl _), (Le.refl _), (Le.refl _), (Le.refl _), (Le.refl _), (Le.refl _), (Le.refl _), (Le.refl _), (Le.refl _), (Le.refl _), (Le.refl _), (Le.refl _), (Le.refl _), (Le.refl _), (Le.refl _), (Le.refl _), trivial⟩⟩, ⟨rfl, rfl, rfl, rfl⟩, trivial⟩⟩
  ·rintro env1 st1 ⟨l105, ver106, h, hsub, hst⟩
   subst hk107
   dsimp only at h
   refine WC.sub hsub (WC.weak hst ?_)
   refine wc_sr ?_
   refine WL.mv rfl rfl ?_
   refine WL.qn (y_len_osmap (encA E9) l105 e50 rfl rfl rfl) rfl ?_
   refine WL.qn (y_geq rfl rfl) rfl ?_
   refine WL.mv rfl rfl ?_
   apply WL.and 5 (t := 74) (d := 79)
   ·exact rfl
   ·intro hg74
    refine WL.qy (y_fieldAddr f54_11 rfl) rfl rfl rfl ?_
    refine WL.qy (y_load rfl rfl a51 rfl) rfl rfl rfl ?_
    refine WL.qy (y_len_map E56 x96.comps e51 rfl rfl (Le.refl _)) rfl rfl rfl ?_
    refine WL.qy (y_leq rfl rfl) rfl rfl rfl ?_
    refine WL.qn (y_pick_t rfl rfl) rfl ?_
    exact WL.nil ⟨rfl, [_, _, _, _, _], rfl, rfl, rfl⟩
   ·refine WL.skips 4 rfl ?_
    refine WL.qn (y_pick_f rfl rfl) rfl ?_
    exact WL.nil ⟨rfl, [_, _, _, _, _], rfl, rfl, rfl⟩
   refine WL.mv rfl rfl ?_
   refine WL.freezeX [6, 71] [] 1 (List.map E9 l105) rfl (encA_map E9_eq l105) ⟨rfl, rfl, trivial⟩ trivial ?_
   obtain ⟨b121, hb121, h⟩ := bindS h
   apply WL.grp 3 (t := 80) (d := 83) (z := b121)
   ·exact rfl
   ·intro hg80
    have h := condT hb121 hg80
    refine WL.qy (y_move rfl) rfl rfl rfl ?_
    obtain ⟨r122, hr122, h⟩ := bindS h
    refine WL.fn rfl rfl rfl rfl (f92_c _ hr122) ⟨(Le.refl _), trivial⟩ (Wt.yes rfl rfl rfl) rfl rfl ?_
    refine WL.qn (y_pick_t rfl rfl) rfl ?_
    obtain rfl := Option.some.inj h
    exact WL.nil ⟨rfl, [_, _, _], rfl, rfl, rfl⟩
   ·intro hg80
    have h := condF hb121 hg80
    refine WL.skips 2 rfl ?_
    refine WL.qn (y_pick_f rfl rfl) rfl ?_
    obtain rfl := Option.some.inj h
    exact WL.nil ⟨rfl, [_, _, _], rfl, rfl, rfl⟩
   refine WL.mv rfl rfl ?_
   apply WL.and 8 (t := 84) (d := 92)
   ·exact rfl
   ·intro hg84
    refine WL.qy (y_fieldAddr f54_9 rfl) rfl rfl rfl ?_
    refine WL.qy (y_load rfl rfl a4 rfl) rfl rfl rfl ?_
    refine WL.qy (y_move rfl) rfl rfl rfl ?_
    apply WL.or 4 (t := 87) (d := 91)
    ·exact rfl
    ·intro hg87
     refine WL.qy (y_fieldAddr f54_10 rfl) rfl rfl rfl ?_
     refine WL.qy (y_load rfl rfl a2 rfl) rfl rfl rfl ?_
     refine WL.qy (y_eql rfl rfl) rfl rfl rfl ?_
     refine WL.qy (y_pick_f rfl rfl) rfl rfl rfl ?_
     exact WL.nil ⟨rfl, [_, _, _, _], rfl, rfl, rfl⟩
    ·refine WL.skips 3 rfl ?_
     refine WL.qy (y_pick_t rfl rfl) rfl rfl rfl ?_
     exact WL.nil ⟨rfl, [_, _, _, _], rfl, rfl, rfl⟩
    refine WL.qn (y_pick_t rfl rfl) rfl ?_
    exact WL.nil ⟨rfl, [_, _, _, _, _], rfl, rfl, rfl⟩
   ·refine WL.skips 7 rfl ?_
    refine WL.qn (y_pick_f rfl rfl) rfl ?_
    exact WL.nil ⟨rfl, [_, _, _, _, _, _, _, _], rfl, rfl, rfl⟩
   refine WL.as rfl rfl ?_
   refine WL.ns ?_
   refine wc_ret ?_
   obtain rfl := Option.some.inj h
   exact we_ret_fn (rs1 rfl (rv_t rfl)) (Le.refl _)

theorem f76_c (t0 : Table) (ty1 : Int) {r : Bool} (h : f76 t0 ty1 = some r) : Pu Tryd.prog 76 [.ag (R28 t0), .i .i64 ty1] (.b r) := by
 unfold f76 at h
 refine fn_intro Tryd.func76 (by kernel_rfl) rfl rfl rfl (fun φφ ww => ?_)
 refine wc_sr ?_
 refine WL.s ((b_boxd rfl rfl (Les.refl _)).does) (Wt.none rfl) rfl rfl ?_
 refine WL.as rfl rfl ?_
 refine WL.ns ?_
 refine wc_sr ?_
 refine WL.qn (y_fieldAddrc f28_0 rfl) rfl ?_
 refine WL.qn (y_loadc rfl a22 rfl) rfl ?_
 refine WL.mv rfl rfl ?_
 obtain ⟨x172, hx172, h⟩ := bindS h
 refine WL.qn (y_indexAddr e22 rfl (Le.refl _) rfl (idx_nonneg hx172) (idx_row E54_eq hx172) rfl) rfl ?_
 refine WL.qn (y_loadcN rfl a54 s54 rfl) rfl ?_
 refine WL.s ((b_alloc z54).does) (Wt.none rfl) rfl rfl ?_
 refine WL.s0 (d_store rfl rfl rfl rfl rfl rfl s54 rfl rfl) (Wt.none rfl) rfl ?_
 refine WL.st (st' := [.row 54 [.d (D.i .u8 x172.kind), .d (D.s x172.name), .d (D.i .i64 x172.parent), .d (D.i .i64 x172.first), .d (.sl (List.map E9 x172.lits)), .d (D.i .i64 x172.index), .d (D.i .i64 x172.elem), .d (D.i .i64 x172.disc), .d (D.s x172.discName), .d (D.b x172.has), .d (D.i .i64 x172.default_), .d (.sl (List.map E56 x172.comps)), .d (D.i .i64 x172.target), .d (D.i .u8 x172.formal), .d (D.b x172.limited), .d (D.i .i64 x172.priv), .d (D.i .i64 x172.full), .d (D.i .i64 x172.level)]]) rfl ?_
 refine WL.ns ?_
 refine wc_sr ?_
 refine WL.qn (y_fieldAddrc f28_1 rfl) rfl ?_
 refine WL.qn (y_loadc rfl a23 rfl) rfl ?_
 refine WL.qn (y_fieldAddr f54_3 rfl) rfl ?_
 refine WL.qn (y_load rfl rfl a3 rfl) rfl ?_
 obtain ⟨x173, hx173, h⟩ := bindS h
 refine WL.qn (y_indexAddr e23 rfl (Le.refl _) rfl (idx_nonneg hx173) (idx_row E40_eq hx173) rfl) rfl ?_
 refine WL.qn (y_loadcN rfl a40 s40 rfl) rfl ?_
 refine WL.s ((b_alloc z40).does) (Wt.none rfl) rfl rfl ?_
 refine WL.s0 (d_store rfl rfl rfl rfl rfl rfl s40 rfl rfl) (Wt.none rfl) rfl ?_
 refine WL.ns ?_
 refine wc_sr ?_
 refine WL.qn (y_fieldAddr f40_1 rfl) rfl ?_
 refine WL.qn (y_load rfl rfl a2 rfl) rfl ?_
 refine WL.qn (y_eql rfl rfl) rfl ?_
 refine WL.mv rfl rfl ?_
 apply WL.and 4 (t := 23) (d := 27)
 ·exact rfl
 ·intro hg23
  refine WL.qy (y_fieldAddr f40_2 rfl) rfl rfl rfl ?_
  refine WL.qy (y_load rfl rfl a2 rfl) rfl rfl rfl ?_
  refine WL.qy (y_eql rfl rfl) rfl rfl rfl ?_
  refine WL.qn (y_pick_t rfl rfl) rfl ?_
  exact WL.nil ⟨rfl, [_, _, _, _], rfl, rfl, rfl⟩
 ·refine WL.skips 3 rfl ?_
  refine WL.qn (y_pick_f rfl rfl) rfl ?_
  exact WL.nil ⟨rfl, [_, _, _, _], rfl, rfl, rfl⟩
 refine WL.as rfl rfl ?_
 refine WL.ns ?_
 refine wc_seq ?_
 refine wc_sr ?_
 refine WL.qn (y_fieldAddr f54_0 rfl) rfl ?_
 refine WL.qn (y_load rfl rfl a49 rfl) rfl ?_
 refine WL.ns ?_
 refine wc_block ?_
 refine wc_sr ?_
 refine WL.qn (y_eql rfl rfl) rfl ?_
 refine WL.as rfl rfl ?_
 refine WL.ns ?_
 refine wc_cond rfl (fun hc1 => ?_) (fun hc1 => ?_)
 ·replace h := condT h hc1
  refine wc_sr ?_
  refine WL.qn (y_loadcN rfl a28 s28 rfl) rfl ?_
  refine WL.mv rfl rfl ?_
  obtain ⟨r174, hr174, h⟩ := bindS h
  refine WL.fn rfl rfl rfl rfl (f91_c _ _ hr174) ⟨(Le.refl _), (Le.refl _), trivial⟩ (Wt.none rfl) rfl rfl ?_
  refine WL.mv rfl rfl ?_
  apply WL.and 6 (t := 35) (d := 41)
  ·exact rfl
  ·intro hg35
   refine WL.qy (y_fieldAddr f40_1 rfl) rfl rfl rfl ?_
   refine WL.qy (y_load rfl rfl a2 rfl) rfl rfl rfl ?_
   refine WL.qy (y_fieldAddr f40_2 rfl) rfl rfl rfl ?_
   refine WL.qy (y_load rfl rfl a2 rfl) rfl rfl rfl ?_
   refine WL.qy (y_leq rfl rfl) rfl rfl rfl ?_
   refine WL.qn (y_pick_t rfl rfl) rfl ?_
   exact WL.nil ⟨rfl, [_, _, _, _, _, _], rfl, rfl, rfl⟩
  ·refine WL.skips 5 rfl ?_
   refine WL.qn (y_pick_f rfl rfl) rfl ?_
   exact WL.nil ⟨rfl, [_, _, _, _, _, _], rfl, rfl, rfl⟩
  refine WL.mv rfl rfl ?_
  apply WL.and 12 (t := 42) (d := 54)
  ·exact rfl
  ·intro hg42
   refine WL.qy (y_fieldAddr f54_13 rfl) rfl rfl rfl ?_
   refine WL.qy (y_load rfl rfl a52 rfl) rfl rfl rfl ?_
   refine WL.qy (y_eql rfl rfl) rfl rfl rfl ?_
   refine WL.qy (y_move rfl) rfl rfl rfl ?_
   apply WL.or 7 (t := 46) (d := 53)
   ·exact rfl
   ·intro hg46
    refine WL.qy (y_fieldAddr f54_13 rfl) rfl rfl rfl ?_
    refine WL.qy (y_load rfl rfl a52 rfl) rfl rfl rfl ?_
    refine WL.qy (y_eql rfl rfl) rfl rfl rfl ?_
    refine WL.qy (y_move rfl) rfl rfl rfl ?_
    apply WL.and 2 (t := 50) (d := 52)
    ·exact rfl
    ·intro hg50
     refine WL.qy (y_move rfl) rfl rfl rfl ?_
     refine WL.qy (y_pick_t rfl rfl) rfl rfl rfl ?_
     exact WL.nil ⟨rfl, [_, _], rfl, rfl, rfl⟩
    ·refine WL.skips 1 rfl ?_
     refine WL.qy (y_pick_f rfl rfl) rfl rfl rfl ?_
     exact WL.nil ⟨rfl, [_, _], rfl, rfl, rfl⟩
    refine WL.qy (y_pick_f rfl rfl) rfl rfl rfl ?_
    exact WL.nil ⟨rfl, [_, _, _, _, _, _], rfl, rfl, rfl⟩
   ·refine WL.skips 6 rfl ?_
    refine WL.qy (y_pick_t rfl rfl) rfl rfl rfl ?_
    exact WL.nil ⟨rfl, [_, _, _, _, _, _, _], rfl, rfl, rfl⟩
   refine WL.qn (y_pick_t rfl rfl) rfl ?_
   exact WL.nil ⟨rfl, [_, _, _, _, _, _], rfl, rfl, rfl⟩
  ·refine WL.skips 11 rfl ?_
   refine WL.qn (y_pick_f rfl rfl) rfl ?_
   exact WL.nil ⟨rfl, [_, _, _, _, _, _, _, _, _, _, _, _], rfl, rfl, rfl⟩
  refine WL.as rfl rfl ?_
  refine WL.ns ?_
  refine wc_ret ?_
  refine we_blk_ret ?_
  refine we_seq_ret ?_
  obtain rfl := Option.some.inj h
  exact we_ret_fn (rs1 rfl (rv_t rfl)) (Le.refl _)
 ·replace h := condF h hc1
  refine wc_sr ?_
  refine WL.qn (y_eql rfl rfl) rfl ?_
  refine WL.as rfl rfl ?_
  refine WL.ns ?_
  refine wc_cond rfl (fun hc2 => ?_) (fun hc2 => ?_)
  ·replace h := condT h hc2
   refine wc_seq ?_
   refine wc_sr ?_
   refine WL.qn (y_fieldAddr f54_13 rfl) rfl ?_
   refine WL.qn (y_load rfl rfl a52 rfl) rfl ?_
   refine WL.qn (y_eql rfl rfl) rfl ?_
   refine WL.ns ?_
   refine wc_cond rfl (fun hc3 => ?_) (fun hc3 => ?_)
   ·replace h := condT h hc3
    refine wc_sr ?_
    refine WL.qn (y_loadcN rfl a28 s28 rfl) rfl ?_
    refine WL.mv rfl rfl ?_
    obtain ⟨r175, hr175, h⟩ := bindS h
    refine WL.fn rfl rfl rfl rfl (f91_c _ _ hr175) ⟨(Le.refl _), (Le.refl _), trivial⟩ (Wt.none rfl) rfl rfl ?_
    refine WL.mv rfl rfl ?_
    apply WL.and 5 (t := 63) (d := 68)
    ·exact rfl
    ·intro hg63
     refine WL.qy (y_fieldAddr f54_4 rfl) rfl rfl rfl ?_
     refine WL.qy (y_load rfl rfl a50 rfl) rfl rfl rfl ?_
     refine WL.qy (y_len_map E9 x172.lits e50 rfl rfl (Le.refl _)) rfl rfl rfl ?_
     refine WL.qy (y_eql rfl rfl) rfl rfl rfl ?_
     refine WL.qn (y_pick_t rfl rfl) rfl ?_
     exact WL.nil ⟨rfl, [_, _, _, _, _], rfl, rfl, rfl⟩
    ·refine WL.skips 4 rfl ?_
     refine WL.qn (y_pick_f rfl rfl) rfl ?_
     exact WL.nil ⟨rfl, [_, _, _, _, _], rfl, rfl, rfl⟩
    refine WL.mv rfl rfl ?_
    apply WL.and 2 (t := 69) (d := 71)
    ·exact rfl
    ·intro hg69
     refine WL.qy (y_move rfl) rfl rfl rfl ?_
     refine WL.qn (y_pick_t rfl rfl) rfl ?_
     exact WL.nil ⟨rfl, [_, _], rfl, rfl, rfl⟩
    ·refine WL.skips 1 rfl ?_
     refine WL.qn (y_pick_f rfl rfl) rfl ?_
     exact WL.nil ⟨rfl, [_, _], rfl, rfl, rfl⟩
    refine WL.as rfl rfl ?_
    refine WL.ns ?_
    refine wc_ret ?_
    refine we_seq_ret ?_
    refine we_blk_ret ?_
    refine we_seq_ret ?_
    obtain rfl := Option.some.inj h
    exact we_ret_fn (rs1 rfl (rv_t rfl)) (Le.refl _)
   ·replace h := condF h hc3
    refine wc_skip ?_
    refine we_seq ?_
    refine wc_sr ?_
    refine WL.qn (y_fieldAddr f54_4 rfl) rfl ?_
    refine WL.qn (y_load rfl rfl a50 rfl) rfl ?_
    refine WL.qn (y_len_map E9 x172.lits e50 rfl rfl (Le.refl _)) rfl ?_
    refine WL.as rfl rfl ?_
    refine WL.ns ?_
    refine wc_sr ?_
    refine WL.qn (y_loadcN rfl a28 s28 rfl) rfl ?_
    refine WL.mv rfl rfl ?_
    obtain ⟨r176, hr176, h⟩ := bindS h
    refine WL.fn rfl rfl rfl rfl (f91_c _ _ hr176) ⟨(Le.refl _), (Le.refl _), trivial⟩ (Wt.none rfl) rfl rfl ?_
    refine WL.mv rfl rfl ?_
    apply WL.and 4 (t := 78) (d := 82)
    ·exact rfl
    ·intro hg78
     refine WL.qy (y_fieldAddr f54_13 rfl) rfl rfl rfl ?_
     refine WL.qy (y_load rfl rfl a52 rfl) rfl rfl rfl ?_
     refine WL.qy (y_eql rfl rfl) rfl rfl rfl ?_
     refine WL.qn (y_pick_t rfl rfl) rfl ?_
     exact WL.nil ⟨rfl, [_, _, _, _], rfl, rfl, rfl⟩
    ·refine WL.skips 3 rfl ?_
     refine WL.qn (y_pick_f rfl rfl) rfl ?_
     exact WL.nil ⟨rfl, [_, _, _, _], rfl, rfl, rfl⟩
    refine WL.mv rfl rfl ?_
    apply WL.and 3 (t := 83) (d := 86)
    ·exact rfl
    ·intro hg83
     refine WL.qy (y_move rfl) rfl rfl rfl ?_
     refine WL.qy (y_geq rfl rfl) rfl rfl rfl ?_
     refine WL.qn (y_pick_t rfl rfl) rfl ?_
     exact WL.nil ⟨rfl, [_, _, _], rfl, rfl, rfl⟩
    ·refine WL.skips 2 rfl ?_
     refine WL.qn (y_pick_f rfl rfl) rfl ?_
     exact WL.nil ⟨rfl, [_, _, _], rfl, rfl, rfl⟩
    refine WL.mv rfl rfl ?_
    apply WL.and 3 (t := 87) (d := 90)
    ·exact rfl
    ·intro hg87
     refine WL.qy (y_move rfl) rfl rfl rfl ?_
     refine WL.qy (y_leq rfl rfl) rfl rfl rfl ?_
     refine WL.qn (y_pick_t rfl rfl) rfl ?_
     exact WL.nil ⟨rfl, [_, _, _], rfl, rfl, rfl⟩
    ·refine WL.skips 2 rfl ?_
     refine WL.qn (y_pick_f rfl rfl) rfl ?_
     exact WL.nil ⟨rfl, [_, _, _], rfl, rfl, rfl⟩
    refine WL.mv rfl rfl ?_
    obtain ⟨b177, hb177, h⟩ := bindS h
    apply WL.grp 4 (t := 91) (d := 95) (z := b177)
    ·exact rfl
    ·intro hg91
     have h := condT hb177 hg91
     refine WL.qy (y_fieldAddr f54_4 rfl) rfl rfl rfl ?_
     refine WL.qy (y_load rfl rfl a50 rfl) rfl rfl rfl ?_
     obtain ⟨r178, hr178, h⟩ := bindS h
     refine WL.fn rfl rfl rfl rfl (f92_c _ hr178) ⟨(Le.refl _), trivial⟩ (Wt.yes rfl rfl rfl) rfl rfl ?_
     refine WL.qn (y_pick_t rfl rfl) rfl ?_
     obtain rfl := Option.some.inj h
     exact WL.nil ⟨rfl, [_, _, _, _], rfl, rfl, rfl⟩
    ·intro hg91
     have h := condF hb177 hg91
     refine WL.skips 3 rfl ?_
     refine WL.qn (y_pick_f rfl rfl) rfl ?_
     obtain rfl := Option.some.inj h
     exact WL.nil ⟨rfl, [_, _, _, _], rfl, rfl, rfl⟩
    refine WL.mv rfl rfl ?_
    apply WL.and 6 (t := 96) (d := 102)
    ·exact rfl
    ·intro hg96
     refine WL.qy (y_fieldAddr f40_1 rfl) rfl rfl rfl ?_
     refine WL.qy (y_load rfl rfl a2 rfl) rfl rfl rfl ?_
     refine WL.qy (y_fieldAddr f40_2 rfl) rfl rfl rfl ?_
     refine WL.qy (y_load rfl rfl a2 rfl) rfl rfl rfl ?_
     refine WL.qy (y_leq rfl rfl) rfl rfl rfl ?_
     refine WL.qn (y_pick_t rfl rfl) rfl ?_
     exact WL.nil ⟨rfl, [_, _, _, _, _, _], rfl, rfl, rfl⟩
    ·refine WL.skips 5 rfl ?_
     refine WL.qn (y_pick_f rfl rfl) rfl ?_
     exact WL.nil ⟨rfl, [_, _, _, _, _, _], rfl, rfl, rfl⟩
    refine WL.mv rfl rfl ?_
    apply WL.and 16 (t := 103) (d := 119)
    ·exact rfl
    ·intro hg103
     refine WL.qy (y_fieldAddr f54_2 rfl) rfl rfl rfl ?_
     refine WL.qy (y_load rfl rfl a3 rfl) rfl rfl rfl ?_
     refine WL.qy (y_neq rfl rfl) rfl rfl rfl ?_
     refine WL.qy (y_move rfl) rfl rfl rfl ?_
     apply WL.or 11 (t := 107) (d := 118)
     ·exact rfl
     ·intro hg107
      refine WL.qy (y_fieldAddr f40_1 rfl) rfl rfl rfl ?_
      refine WL.qy (y_load rfl rfl a2 rfl) rfl rfl rfl ?_
      refine WL.qy (y_eql rfl rfl) rfl rfl rfl ?_
      refine WL.qy (y_move rfl) rfl rfl rfl ?_
      apply WL.and 6 (t := 111) (d := 117)
      ·exact rfl
      ·intro hg111
       refine WL.qy (y_fieldAddr f40_2 rfl) rfl rfl rfl ?_
       refine WL.qy (y_load rfl rfl a2 rfl) rfl rfl rfl ?_
       refine WL.qy (y_move rfl) rfl rfl rfl ?_
       refine WL.qy (y_sub rfl rfl rfl) rfl rfl rfl ?_
       refine WL.qy (y_eql rfl rfl) rfl rfl rfl ?_
       refine WL.qy (y_pick_t rfl rfl) rfl rfl rfl ?_
       exact WL.nil ⟨rfl, [_, _, _, _, _, _], rfl, rfl, rfl⟩
      ·refine WL.skips 5 rfl ?_
       refine WL.qy (y_pick_f rfl rfl) rfl rfl rfl ?_
       exact WL.nil ⟨rfl, [_, _, _, _, _, _], rfl, rfl, rfl⟩
      refine WL.qy (y_pick_f rfl rfl) rfl rfl rfl ?_
      exact WL.nil ⟨rfl, [_, _, _, _, _, _], rfl, rfl, rfl⟩
     ·refine WL.skips 10 rfl ?_
      refine WL.qy (y_pick_t rfl rfl) rfl rfl rfl ?_
      exact WL.nil ⟨rfl, [_, _, _, _, _, _, _, _, _, _, _], rfl, rfl, rfl⟩
     refine WL.qn (y_pick_t rfl rfl) rfl ?_
     exact WL.nil ⟨rfl, [_, _, _, _, _, _], rfl, rfl, rfl⟩
    ·refine WL.skips 15 rfl ?_
     refine WL.qn (y_pick_f rfl rfl) rfl ?_
     exact WL.nil ⟨rfl, [_, _, _, _, _, _, _, _, _, _, _, _, _, _, _, _], rfl, rfl, rfl⟩
    refine WL.as rfl rfl ?_
    refine WL.ns ?_
    refine wc_ret ?_
    refine we_blk_ret ?_
    refine we_seq_ret ?_
    obtain rfl := Option.some.inj h
    exact we_ret_fn (rs1 rfl (rv_t rfl)) (Le.refl _)
  ·replace h := condF h hc2
   refine wc_sr ?_
   refine WL.qn (y_eql rfl rfl) rfl ?_
   refine WL.as rfl rfl ?_
   refine WL.ns ?_
   refine wc_cond rfl (fun hc4 => ?_) (fun hc4 => ?_)
   ·replace h := condT h hc4
    refine wc_sr ?_
    refine WL.qn (y_loadcN rfl a28 s28 rfl) rfl ?_
    refine WL.qn (y_fieldAddr f54_5 rfl) rfl ?_
    refine WL.qn (y_load rfl rfl a3 rfl) rfl ?_
    obtain ⟨r179, hr179, h⟩ := bindS h
    refine WL.fn rfl rfl rfl rfl (f78_c _ _ _ hr179) ⟨(Le.refl _), (Le.refl _), (Le.refl _), trivial⟩ (Wt.none rfl) rfl rfl ?_
    refine WL.mv rfl rfl ?_
    obtain ⟨b180, hb180, h⟩ := bindS h
    apply WL.grp 5 (t := 126) (d := 131) (z := b180)
    ·exact rfl
    ·intro hg126
     have h := condT hb180 hg126
     refine WL.qy (y_loadcN rfl a28 s28 rfl) rfl rfl rfl ?_
     refine WL.qy (y_fieldAddr f54_6 rfl) rfl rfl rfl ?_
     refine WL.qy (y_load rfl rfl a3 rfl) rfl rfl rfl ?_
     obtain ⟨r181, hr181, h⟩ := bindS h
     refine WL.fn rfl rfl rfl rfl (f93_c _ _ hr181) ⟨(Le.refl _), (Le.refl _), trivial⟩ (Wt.yes rfl rfl rfl) rfl rfl ?_
     refine WL.qn (y_pick_t rfl rfl) rfl ?_
     obtain rfl := Option.some.inj h
     exact WL.nil ⟨rfl, [_, _, _, _, _], rfl, rfl, rfl⟩
    ·intro hg126
     have h := condF hb180 hg126
     refine WL.skips 4 rfl ?_
     refine WL.qn (y_pick_f rfl rfl) rfl ?_
     obtain rfl := Option.some.inj h
     exact WL.nil ⟨rfl, [_, _, _, _, _], rfl, rfl, rfl⟩
    refine WL.as rfl rfl ?_
    refine WL.ns ?_
    refine wc_ret ?_
    refine we_blk_ret ?_
    refine we_seq_ret ?_
    obtain rfl := Option.some.inj h
    exact we_ret_fn (rs1 rfl (rv_t rfl)) (Le.refl _)
   ·replace h := condF h hc4
    refine wc_sr ?_
    refine WL.qn (y_eql rfl rfl) rfl ?_
    refine WL.as rfl rfl ?_
    refine WL.ns ?_
    refine wc_cond rfl (fun hc5 => ?_) (fun hc5 => ?_)
    ·replace h := condT h hc5
     refine wc_sr ?_
     refine WL.qn (y_loadcN rfl a28 s28 rfl) rfl ?_
     refine WL.mv rfl rfl ?_
     obtain ⟨r182, hr182, h⟩ := bindS h
     refine WL.fn rfl rfl rfl rfl (f94_c _ _ hr182) ⟨(Le.refl _), (Le.refl _), trivial⟩ (Wt.none rfl) rfl rfl ?_
     refine WL.mv rfl rfl ?_
     apply WL.and 14 (t := 137) (d := 151)
     ·exact rfl
     ·intro hg137
      refine WL.qy (y_fieldAddr f54_7 rfl) rfl rfl rfl ?_
      refine WL.qy (y_load rfl rfl a3 rfl) rfl rfl rfl ?_
      refine WL.qy (y_eql rfl rfl) rfl rfl rfl ?_
      refine WL.qy (y_move rfl) rfl rfl rfl ?_
      apply WL.or 9 (t := 141) (d := 150)
      ·exact rfl
      ·intro hg141
       refine WL.qy (y_fieldAddr f40_1 rfl) rfl rfl rfl ?_
       refine WL.qy (y_load rfl rfl a2 rfl) rfl rfl rfl ?_
       refine WL.qy (y_eql rfl rfl) rfl rfl rfl ?_
       refine WL.qy (y_move rfl) rfl rfl rfl ?_
       apply WL.and 4 (t := 145) (d := 149)
       ·exact rfl
       ·intro hg145
        refine WL.qy (y_fieldAddr f40_2 rfl) rfl rfl rfl ?_
        refine WL.qy (y_load rfl rfl a2 rfl) rfl rfl rfl ?_
        refine WL.qy (y_eql rfl rfl) rfl rfl rfl ?_
        refine WL.qy (y_pick_t rfl rfl) rfl rfl rfl ?_
        exact WL.nil ⟨rfl, [_, _, _, _], rfl, rfl, rfl⟩
       ·refine WL.skips 3 rfl ?_
        refine WL.qy (y_pick_f rfl rfl) rfl rfl rfl ?_
        exact WL.nil ⟨rfl, [_, _, _, _], rfl, rfl, rfl⟩
       refine WL.qy (y_pick_f rfl rfl) rfl rfl rfl ?_
       exact WL.nil ⟨rfl, [_, _, _, _, _, _], rfl, rfl, rfl⟩
      ·refine WL.skips 8 rfl ?_
       refine WL.qy (y_pick_t rfl rfl) rfl rfl rfl ?_
       exact WL.nil ⟨rfl, [_, _, _, _, _, _, _, _, _], rfl, rfl, rfl⟩
      refine WL.qn (y_pick_t rfl rfl) rfl ?_
      exact WL.nil ⟨rfl, [_, _, _, _, _, _], rfl, rfl, rfl⟩
     ·refine WL.skips 13 rfl ?_
      refine WL.qn (y_pick_f rfl rfl) rfl ?_
      exact WL.nil ⟨rfl, [_, _, _, _, _, _, _, _, _, _, _, _, _, _], rfl, rfl, rfl⟩
     refine WL.as rfl rfl ?_
     refine WL.ns ?_
     refine wc_ret ?_
     refine we_blk_ret ?_
     refine we_seq_ret ?_
     obtain rfl := Option.some.inj h
     exact we_ret_fn (rs1 rfl (rv_t rfl)) (Le.refl _)
    ·replace h := condF h hc5
     refine wc_sr ?_
     refine WL.qn (y_eql rfl rfl) rfl ?_
     refine WL.as rfl rfl ?_
     refine WL.ns ?_
     refine wc_cond rfl (fun hc6 => ?_) (fun hc6 => ?_)
     ·replace h := condT h hc6
      refine wc_sr ?_
      refine WL.qn (y_loadcN rfl a28 s28 rfl) rfl ?_
      refine WL.qn (y_fieldAddr f54_12 rfl) rfl ?_
      refine WL.qn (y_load rfl rfl a3 rfl) rfl ?_
      obtain ⟨r183, hr183, h⟩ := bindS h
      refine WL.fn rfl rfl rfl rfl (f93_c _ _ hr183) ⟨(Le.refl _), (Le.refl _), trivial⟩ (Wt.none rfl) rfl rfl ?_
      refine WL.mv rfl rfl ?_
      obtain ⟨b184, hb184, h⟩ := bindS h
      apply WL.grp 5 (t := 158) (d := 163) (z := b184)
      ·exact rfl
      ·intro hg158
       have h := condT hb184 hg158
       refine WL.qy (y_loadcN rfl a28 s28 rfl) rfl rfl rfl ?_
       refine WL.qy (y_fieldAddr f54_12 rfl) rfl rfl rfl ?_
       refine WL.qy (y_load rfl rfl a3 rfl) rfl rfl rfl ?_
       obtain ⟨r185, hr185, h⟩ := bindS h
       refine WL.fn rfl rfl rfl rfl (f56_c _ _ hr185) ⟨(Le.refl _), (Le.refl _), trivial⟩ (Wt.yes rfl rfl rfl) rfl rfl ?_
       refine WL.qn (y_pick_t rfl rfl) rfl ?_
       obtain rfl := Option.some.inj h
       exact WL.nil ⟨rfl, [_, _, _, _, _], rfl, rfl, rfl⟩
      ·intro hg158
       have h := condF hb184 hg158
       refine WL.skips 4 rfl ?_
       refine WL.qn (y_pick_f rfl rfl) rfl ?_
       obtain rfl := Option.some.inj h
       exact WL.nil ⟨rfl, [_, _, _, _, _], rfl, rfl, rfl⟩
      refine WL.as rfl rfl ?_
      refine WL.ns ?_
      refine wc_ret ?_
      refine we_blk_ret ?_
      refine we_seq_ret ?_
      obtain rfl := Option.some.inj h
      exact we_ret_fn (rs1 rfl (rv_t rfl)) (Le.refl _)
     ·replace h := condF h hc6
      refine wc_sr ?_
      refine WL.qn (y_eql rfl rfl) rfl ?_
      refine WL.as rfl rfl ?_
      refine WL.ns ?_
      refine wc_cond rfl (fun hc7 => ?_) (fun hc7 => ?_)
      ·replace h := condT h hc7
       refine wc_sr ?_
       refine WL.qn (y_fieldAddr f54_13 rfl) rfl ?_
       refine WL.qn (y_load rfl rfl a52 rfl) rfl ?_
       refine WL.qn (y_eql rfl rfl) rfl ?_
       refine WL.as rfl rfl ?_
       refine WL.ns ?_
       refine wc_ret ?_
       refine we_blk_ret ?_
       refine we_seq_ret ?_
       obtain rfl := Option.some.inj h
       exact we_ret_fn (rs1 rfl (rv_t rfl)) (Le.refl _)
      ·replace h := condF h hc7
       refine wc_skip ?_
       refine we_blk ?_
       refine we_seq ?_
       refine wc_sr ?_
       refine WL.as rfl rfl ?_
       refine WL.ns ?_
       refine wc_ret ?_
       obtain rfl := Option.some.inj h
       exact we_ret_fn (rs1 rfl (rv_t rfl)) (Le.refl _)

theorem f55_c (t0 : Table) (ty1 : Int) {r : Bool} (h : f55 t0 ty1 = some r) : Pu Tryd.prog 55 [.ag (R28 t0), .i .i64 ty1] (.b r) := by
 unfold f55 at h
 refine fn_intro Tryd.func55 (by kernel_rfl) rfl rfl rfl (fun φφ ww => ?_)
 refine wc_sr ?_
 refine WL.s ((b_boxd rfl rfl (Les.refl _)).does) (Wt.none rfl) rfl rfl ?_
 refine WL.as rfl rfl ?_
 refine WL.ns ?_
 refine wc_sr ?_
 refine WL.qn (y_fieldAddrc f28_0 rfl) rfl ?_
 refine WL.qn (y_loadc rfl a22 rfl) rfl ?_
 refine WL.mv rfl rfl ?_
 obtain ⟨x84, hx84, h⟩ := bindS h
 refine WL.qn (y_indexAddr e22 rfl (Le.refl _) rfl (idx_nonneg hx84) (idx_row E54_eq hx84) rfl) rfl ?_
 refine WL.qn (y_loadcN rfl a54 s54 rfl) rfl ?_
 refine WL.s ((b_alloc z54).does) (Wt.none rfl) rfl rfl ?_
 refine WL.s0 (d_store rfl rfl rfl rfl rfl rfl s54 rfl rfl) (Wt.none rfl) rfl ?_
 refine WL.st (st' := [.row 54 [.d (D.i .u8 x84.kind), .d (D.s x84.name), .d (D.i .i64 x84.parent), .d (D.i .i64 x84.first), .d (.sl (List.map E9 x84.lits)), .d (D.i .i64 x84.index), .d (D.i .i64 x84.elem), .d (D.i .i64 x84.disc), .d (D.s x84.discName), .d (D.b x84.has), .d (D.i .i64 x84.default_), .d (.sl (List.map E56 x84.comps)), .d (D.i .i64 x84.target), .d (D.i .u8 x84.formal), .d (D.b x84.limited), .d (D.i .i64 x84.priv), .d (D.i .i64 x84.full), .d (D.i .i64 x84.level)]]) rfl ?_
 refine WL.ns ?_
 refine wc_seq ?_
 replace h := letkS h
 obtain ⟨k86, hk86, h⟩ := h
 refine wc_cut (fun env' st' => ∃ (t85 : Bool), k86 t85 = some r ∧ Sub [(1, .d (D.i .i64 ty1)), (2, .d (.pc (R28 t0))), (5, .pt 0 0), (41, .d (D.b t85))] env' ∧ SLe st' [.row 54 [.d (D.i .u8 x84.kind), .d (D.s x84.name), .d (D.i .i64 x84.parent), .d (D.i .i64 x84.first), .d (.sl (List.map E9 x84.lits)), .d (D.i .i64 x84.index), .d (D.i .i64 x84.elem), .d (D.i .i64 x84.disc), .d (D.s x84.discName), .d (D.b x84.has), .d (D.i .i64 x84.default_), .d (.sl (List.map E56 x84.comps)), .d (D.i .i64 x84.target), .d (D.i .u8 x84.formal), .d (D.b x84.limited), .d (D.i .i64 x84.priv), .d (D.i .i64 x84.full), .d (D.i .i64 x84.level)]]) ?_ ?_
 ·rcases boolCases (decide (x84.kind = 1)) with hb6 | hb6
  ·replace h := condT h hb6
   apply wc_region_all [_, _, _, _, _, _, _, _, _, _, _, _, _, _, _, _, _, _, _, _, _, _, _, _, _, _, _, _, _, _, _] [[], [0], [0, 1], [0, 1, 2], [0, 1, 2, 3], [0, 1, 2, 3], [0, 1, 2, 3, 5], [0, 1, 2, 3, 4, 5, 6], [0, 1, 2, 3, 4, 5, 6, 7], [0, 1, 2, 3, 4, 5, 6, 7, 8], [0, 1, 2, 3, 4, 5, 6, 7, 8, 9], [0, 1, 2, 3, 4, 5, 6, 7, 8, 9, 10], [0, 1, 2, 3, 4, 5, 6, 7, 8, 9, 10, 11], [0, 1, 2, 3, 4, 5, 6, 7, 8, 9, 10, 11, 12], [0, 1, 2, 3, 4, 5, 6, 7, 8, 9, 10, 11, 12, 13], [0, 1, 2, 3, 4, 5, 6, 7, 8, 9, 10, 11, 12, 13, 14], [0, 1, 2, 3, 4, 5, 6, 7, 8, 9, 10, 11, 12, 13, 14, 15], [0, 1, 2, 3, 4, 5, 6, 7, 8, 9, 10, 11, 12, 13, 14, 15, 16], [0, 1, 2, 3, 4, 5, 6, 7, 8, 9, 10, 11, 12, 13, 14, 15, 16, 17], [0, 1, 2, 3, 4, 5, 6, 7, 8, 9, 10, 11, 12, 13, 14, 15, 16, 17, 18], [0, 1, 2, 3, 4, 5, 6, 7, 8, 9, 10, 11, 12, 13, 14, 15, 16, 17, 18, 19], [0, 1, 2, 3, 4, 5, 6, 7, 8, 9, 10, 11, 12, 13, 14, 15, 16, 17, 18, 19, 20], [0, 1, 2, 3, 4, 5, 6, 7, 8, 9, 10, 11, 12, 13, 14, 15, 16, 17, 18, 19, 20, 21], [0, 1, 2, 3, 4, 5, 6, 7, 8, 9, 10, 11, 12, 13, 14, 15, 16, 17, 18, 19, 20, 21, 22], [0, 1, 2, 3, 4, 5, 6, 7, 8, 9, 10, 11, 12, 13, 14, 15, 16, 17, 18, 19, 20, 21, 22, 23], [0, 1, 2, 3, 4, 5, 6, 7, 8, 9, 10, 11, 12, 13, 14, 15, 16, 17, 18, 19, 20, 21, 22, 23, 24], [0, 1, 2, 3, 4, 5, 6, 7, 8, 9, 10, 11, 12, 13, 14, 15, 16, 17, 18, 19, 20, 21, 22, 23, 24, 25], [0, 1, 2, 3, 4, 5, 6, 7, 8, 9, 10, 11, 12, 13, 14, 15, 16, 17, 18, 19, 20, 21, 22, 23, 24, 25, 26], [0, 1, 2, 3, 4, 5, 6, 7, 8, 9, 10, 11, 12, 13, 14, 15, 16, 17, 18, 19, 20, 21, 22, 23, 24, 25, 26, 27], [0, 1, 2, 3, 4, 5, 6, 7, 8, 9, 10, 11, 12, 13, 14, 15, 16, 17, 18, 19, 20, 21, 22, 23, 24, 25, 26, 27, 28], [0, 1, 2, 3, 4, 5, 6, 7, 8, 9, 10, 11, 12, 13, 14, 15, 16, 17, 18, 19, 20, 21, 22, 23, 24, 25, 26, 27, 28, 29]] [] (fun c => List.getD [[.row 54 [.d (D.i .u8 x84.kind), .d (D.s x84.name), .d (D.i .i64 x84.parent), .d (D.i .i64 x84.first), .d (.sl (List.map E9 x84.lits)), .d (D.i .i64 x84.index), .d (D.i .i64 x84.elem), .d (D.i .i64 x84.disc), .d (D.s x84.discName), .d (D.b x84.has), .d (D.i .i64 x84.default_), .d (.sl (List.map E56 x84.comps)), .d (D.i .i64 x84.target), .d (D.i .u8 x84.formal), .d (D.b x84.limited), .d (D.i .i64 x84.priv), .d (D.i .i64 x84.full), .d (D.i .i64 x84.level)]]] c []) [([], [5], [0]), ([0], [], [0]), ([1], [], [0]), ([2], [], [0]), ([3], [], [0]), ([3], [], [0]), ([3], [], [0]), ([3], [], [0]), ([3], [], [0]), ([3, 8], [], [0]), ([9], [], [0]), ([10], [], [0]), ([10], [], [0]), ([10], [], [0]), ([10], [], [0]), ([10, 14], [], [0]), ([15], [], [0]), ([16], [], [0]), ([16], [], [0]), ([16], [], [0]), ([16, 19], [], [0]), ([20], [], [0]), ([21], [], [0]), ([21], [], [0]), ([21], [], [0]), ([21, 24], [], [0]), ([25], [], [0]), ([26], [], [0]), ([26], [], [0]), ([26], [], [0]), ([26, 29], [], [0])] (by kernel_rfl) (by kernel_rfl) rfl rfl rfl
   ·refine ⟨?_, ?_, ?_, ?_, ?_, ?_, ?_, ?_, ?_, ?_, ?_, ?_, ?_, ?_, ?_, ?_, ?_, ?_, ?_, ?_, ?_, ?_, ?_, ?_, ?_, ?_, ?_, ?_, ?_, ?_, ?_, trivial⟩
    ·refine ⟨fun F => ?_, trivial⟩
     refine WL.qn (y_fieldAddr f54_0 rfl) rfl ?_
     exact WL.done1 rfl rfl rfl
    ·refine ⟨fun F => ?_, trivial⟩
     refine WL.qn (y_load rfl rfl a49 rfl) rfl ?_
     exact WL.done1 rfl rfl rfl
    ·refine ⟨fun F => ?_, trivial⟩
     refine WL.qn (y_eql rfl rfl) rfl ?_
     exact WL.done1 rfl rfl rfl
    ·refine ⟨fun F => ?_, trivial⟩
     refine WL.mv rfl rfl ?_
     refine WL.cast 14 rfl (Le.ofd (by rw [hb6])) ?_
     exact WL.done2 rfl rfl rfl
    ·refine ⟨fun F => ?_, trivial⟩
     refine WL.skips 1 rfl ?_
     exact WL.done1 rfl rfl rfl
    ·refine ⟨fun F => ?_, trivial⟩
     refine WL.skips 1 rfl ?_
     exact WL.done1 rfl rfl rfl
    ·refine ⟨fun F => ?_, trivial⟩
     refine WL.skips 1 rfl ?_
     exact WL.done1 rfl rfl rfl
    ·refine ⟨fun F => ?_, trivial⟩
     refine WL.skips 1 rfl ?_
     exact WL.done1 rfl rfl rfl
    ·refine ⟨fun F => ?_, trivial⟩
     refine WL.skips 1 rfl ?_
     exact WL.done1 rfl rfl rfl
    ·refine ⟨fun F => ?_, trivial⟩
     refine WL.qn (y_pick_t rfl rfl) rfl ?_
     exact WL.done1 rfl rfl rfl
    ·refine ⟨fun F => ?_, trivial⟩
     refine WL.mv rfl rfl ?_
     exact WL.done1 rfl rfl rfl
    ·refine ⟨fun F => ?_, trivial⟩
     refine WL.skips 1 rfl ?_
     exact WL.done1 rfl rfl rfl
    ·refine ⟨fun F => ?_, trivial⟩
     refine WL.skips 1 rfl ?_
     exact WL.done1 rfl rfl rfl
    ·refine ⟨fun F => ?_, trivial⟩
     refine WL.skips 1 rfl ?_
     exact WL.done1 rfl rfl rfl
    ·refine ⟨fun F => ?_, trivial⟩
     refine WL.skips 1 rfl ?_
     exact WL.done1 rfl rfl rfl
    ·refine ⟨fun F => ?_, trivial⟩
     refine WL.qn (y_pick_t rfl rfl) rfl ?_
     exact WL.done1 rfl rfl rfl
    ·refine ⟨fun F => ?_, trivial⟩
     refine WL.mv rfl rfl ?_
     exact WL.done1 rfl rfl rfl
    ·refine ⟨fun F => ?_, trivial⟩
     refine WL.skips 1 rfl ?_
     exact WL.done1 rfl rfl rfl
    ·refine ⟨fun F => ?_, trivial⟩
     refine WL.skips 1 rfl ?_
     exact WL.done1 rfl rfl rfl
    ·refine ⟨fun F => ?_, trivial⟩
     refine WL.skips 1 rfl ?_
     exact WL.done1 rfl rfl rfl
    ·refine ⟨fun F => ?_, trivial⟩
     refine WL.qn (y_pick_t rfl rfl) rfl ?_
     exact WL.done1 rfl rfl rfl
    ·refine ⟨fun F => ?_, trivial⟩
     refine WL.mv rfl rfl ?_
     exact WL.done1 rfl rfl rfl
    ·refine ⟨fun F => ?_, trivial⟩
     refine WL.skips 1 rfl ?_
     exact WL.done1 rfl rfl rfl
    ·refine ⟨fun F => ?_, trivial⟩
     refine WL.skips 1 rfl ?_
     exact WL.done1 rfl rfl rfl
    ·refine ⟨fun F => ?_, trivial⟩
     refine WL.skips 1 rfl ?_
     exact WL.done1 rfl rfl rfl
    ·refine ⟨fun F => ?_, trivial⟩
     refine WL.qn (y_pick_t rfl rfl) rfl ?_
     exact WL.done1 rfl rfl rfl
    ·refine ⟨fun F => ?_, trivial⟩
     refine WL.mv rfl rfl ?_
     exact WL.done1 rfl rfl rfl
    ·refine ⟨fun F => ?_, trivial⟩
     refine WL.skips 1 rfl ?_
     exact WL.done1 rfl rfl rfl
    ·refine ⟨fun F => ?_, trivial⟩
     refine WL.skips 1 rfl ?_
     exact WL.done1 rfl rfl rfl
    ·refine ⟨fun F => ?_, trivial⟩
     refine WL.skips 1 rfl ?_
     exact WL.done1 rfl rfl rfl
    ·refine ⟨fun F => ?_, trivial⟩
     refine WL.qn (y_pick_t rfl rfl) rfl ?_
     exact WL.done1 rfl rfl rfl
   ·exact we_lp ⟨true, h, (Sub.cons rfl (Le.refl _) (Sub.cons rfl (Le.refl _) (Sub.cons rfl (Le.refl _) (Sub.cons rfl (Le.refl _) (Sub.nil _))))), ⟨⟨rfl, ⟨(Le.refl _), (Le.refl _), (Le.refl _), (Le.refl _), (Le.refl _), (Le.refl _), (Le.refl _), (Le.refl _), (Le.refl _), (Le.refl _), (Le.refl _), (Le.refl _), (Le.refl _), (Le.refl _), (Le.refl _), (Le.refl _), (Le.refl _), (Le.refl _), trivial⟩⟩, trivial⟩⟩
  ·replace h := condF h hb6
   obtain ⟨r87, hr87, h⟩ := bindS h
   rcases boolCases (!r87) with hb7 | hb7
   ·replace h := condT h hb7
    apply wc_region_all [_, _, _, _, _, _, _, _, _, _, _, _, _, _, _, _, _, _, _, _, _, _, _, _, _, _, _, _, _, _, _] [[], [0], [0, 1], [0, 1, 2], [0, 1, 2, 3], [0, 1, 2, 3], [0, 1, 2, 3, 5], [0, 1, 2, 3, 4, 5, 6], [0, 1, 2, 3, 4, 5, 6, 7], [0, 1, 2, 3, 4, 5, 6, 7, 8], [0, 1, 2, 3, 4, 5, 6, 7, 8, 9], [0, 1, 2, 3, 4, 5, 6, 7, 8, 9, 10], [0, 1, 2, 3, 4, 5, 6, 7, 8, 9, 10, 11], [0, 1, 2, 3, 4, 5, 6, 7, 8, 9, 10, 11, 12], [0, 1, 2, 3, 4, 5, 6, 7, 8, 9, 10, 11, 12, 13], [0, 1, 2, 3, 4, 5, 6, 7, 8, 9, 10, 11, 12, 13, 14], [0, 1, 2, 3, 4, 5, 6, 7, 8, 9, 10, 11, 12, 13, 14, 15], [0, 1, 2, 3, 4, 5, 6, 7, 8, 9, 10, 11, 12, 13, 14, 15, 16], [0, 1, 2, 3, 4, 5, 6, 7, 8, 9, 10, 11, 12, 13, 14, 15, 16, 17], [0, 1, 2, 3, 4, 5, 6, 7, 8, 9, 10, 11, 12, 13, 14, 15, 16, 17, 18], [0, 1, 2, 3, 4, 5, 6, 7, 8, 9, 10, 11, 12, 13, 14, 15, 16, 17, 18, 19], [0, 1, 2, 3, 4, 5, 6, 7, 8, 9, 10, 11, 12, 13, 14, 15, 16, 17, 18, 19, 20], [0, 1, 2, 3, 4, 5, 6, 7, 8, 9, 10, 11, 12, 13, 14, 15, 16, 17, 18, 19, 20, 21], [0, 1, 2, 3, 4, 5, 6, 7, 8, 9, 10, 11, 12, 13, 14, 15, 16, 17, 18, 19, 20, 21, 22], [0, 1, 2, 3, 4, 5, 6, 7, 8, 9, 10, 11, 12, 13, 14, 15, 16, 17, 18, 19, 20, 21, 22, 23], [0, 1, 2, 3, 4, 5, 6, 7, 8, 9, 10, 11, 12, 13, 14, 15, 16, 17, 18, 19, 20, 21, 22, 23, 24], [0, 1, 2, 3, 4, 5, 6, 7, 8, 9, 10, 11, 12, 13, 14, 15, 16, 17, 18, 19, 20, 21, 22, 23, 24, 25], [0, 1, 2, 3, 4, 5, 6, 7, 8, 9, 10, 11, 12, 13, 14, 15, 16, 17, 18, 19, 20, 21, 22, 23, 24, 25, 26], [0, 1, 2, 3, 4, 5, 6, 7, 8, 9, 10, 11, 12, 13, 14, 15, 16, 17, 18, 19, 20, 21, 22, 23, 24, 25, 26, 27], [0, 1, 2, 3, 4, 5, 6, 7, 8, 9, 10, 11, 12, 13, 14, 15, 16, 17, 18, 19, 20, 21, 22, 23, 24, 25, 26, 27, 28], [0, 1, 2, 3, 4, 5, 6, 7, 8, 9, 10, 11, 12, 13, 14, 15, 16, 17, 18, 19, 20, 21, 22, 23, 24, 25, 26, 27, 28, 29]] [] (fun c => List.getD [[.row 54 [.d (D.i .u8 x84.kind), .d (D.s x84.name), .d (D.i .i64 x84.parent), .d (D.i .i64 x84.first), .d (.sl (List.map E9 x84.lits)), .d (D.i .i64 x84.index), .d (D.i .i64 x84.elem), .d (D.i .i64 x84.disc), .d (D.s x84.discName), .d (D.b x84.has), .d (D.i .i64 x84.default_), .d (.sl (List.map E56 x84.comps)), .d (D.i .i64 x84.target), .d (D.i .u8 x84.formal), .d (D.b x84.limited), .d (D.i .i64 x84.priv), .d (D.i .i64 x84.full), .d (D.i .i64 x84.level)]]] c []) [([], [5], [0]), ([0], [], [0]), ([1], [], [0]), ([2], [], [0]), ([3], [5], [0]), ([3], [5], [0]), ([5, 3], [], [0]), ([4, 6, 3], [], [0]), ([7, 3], [], [0]), ([3, 8], [], [0]), ([9], [], [0]), ([10], [], [0]), ([10], [], [0]), ([10], [], [0]), ([10], [], [0]), ([10, 14], [], [0]), ([15], [], [0]), ([16], [], [0]), ([16], [], [0]), ([16], [], [0]), ([16, 19], [], [0]), ([20], [], [0]), ([21], [], [0]), ([21], [], [0]), ([21], [], [0]), ([21, 24], [], [0]), ([25], [], [0]), ([26], [], [0]), ([26], [], [0]), ([26], [], [0]), ([26, 29], [], [0])] (by kernel_rfl) (by kernel_rfl) rfl rfl rfl
    ·refine ⟨?_, ?_, ?_, ?_, ?_, ?_, ?_, ?_, ?_, ?_, ?_, ?_, ?_, ?_, ?_, ?_, ?_, ?_, ?_, ?_, ?_, ?_, ?_, ?_, ?_, ?_, ?_, ?_, ?_, ?_, ?_, trivial⟩
     ·refine ⟨fun F => ?_, trivial⟩
      refine WL.qn (y_fieldAddr f54_0 rfl) rfl ?_
      exact WL.done1 rfl rfl rfl
     ·refine ⟨fun F => ?_, trivial⟩
      refine WL.qn (y_load rfl rfl a49 rfl) rfl ?_
      exact WL.done1 rfl rfl rfl
     ·refine ⟨fun F => ?_, trivial⟩
      refine WL.qn (y_eql rfl rfl) rfl ?_
      exact WL.done1 rfl rfl rfl
     ·refine ⟨fun F => ?_, trivial⟩
      refine WL.mv rfl rfl ?_
      refine WL.cast 14 rfl (Le.ofd (by rw [hb6])) ?_
      exact WL.done2 rfl rfl rfl
     ·refine ⟨fun F => ?_, trivial⟩
      refine WL.qy (y_loadN rfl rfl a54 s54 rfl) rfl rfl rfl ?_
      exact WL.done1 rfl rfl rfl
     ·refine ⟨fun F => ?_, trivial⟩
      refine WL.qy (y_loadN rfl rfl a54 s54 rfl) rfl rfl rfl ?_
      exact WL.done1 rfl rfl rfl
     ·refine ⟨fun F => ?_, trivial⟩
      refine WL.fn rfl rfl rfl rfl (f74_c _) ⟨(Le.agd ⟨(Le.refl _), (Le.refl _), (Le.refl _), (Le.refl _), (Le.refl _), (Le.refl _), (Le.refl _), (Le.refl _), (Le.refl _), (Le.refl _), (Le.refl _), (Le.refl _), (Le.refl _), (Le.refl _), (Le.refl _), (Le.refl _), (Le.refl _), (Le.refl _), trivial⟩), trivial⟩ (Wt.yes rfl rfl rfl) rfl rfl ?_
      exact WL.done1 rfl rfl rfl
     ·refine ⟨fun F => ?_, trivial⟩
      refine WL.fn rfl rfl rfl rfl (f53_c _ _ hr87) ⟨(Le.agd ⟨(Le.refl _), (Le.refl _), (Le.refl _), (Le.refl _), (Le.refl _), (Le.refl _), (Le.refl _), (Le.refl _), (Le.refl _), (Le.refl _), (Le.refl _), (Le.refl _), (Le.refl _), (Le.refl _), (Le.refl _), (Le.refl _), (Le.refl _), (Le.refl _), trivial⟩), (Le.refl _), trivial⟩ (Wt.yes rfl rfl rfl) rfl rfl ?_
      exact WL.done1 rfl rfl rfl
     ·refine ⟨fun F => ?_, trivial⟩
      refine WL.qy (y_not rfl) rfl rfl rfl ?_
      exact WL.done1 rfl rfl rfl
     ·refine ⟨fun F => ?_, trivial⟩
      refine WL.qn (y_pick_f rfl rfl) rfl ?_
      exact WL.done1 rfl rfl rfl
     ·refine ⟨fun F => ?_, trivial⟩
      refine WL.mv rfl rfl ?_
      refine WL.cast 21 rfl (Le.ofd (by rw [hb7])) ?_
      exact WL.done2 rfl rfl rfl
     ·refine ⟨fun F => ?_, trivial⟩
      refine WL.skips 1 rfl ?_
      exact WL.done1 rfl rfl rfl
     ·refine ⟨fun F => ?_, trivial⟩
      refine WL.skips 1 rfl ?_
      exact WL.done1 rfl rfl rfl
     ·refine ⟨fun F => ?_, trivial⟩
      refine WL.skips 1 rfl ?_
      exact WL.done1 rfl rfl rfl
     ·refine ⟨fun F => ?_, trivial⟩
      refine WL.skips 1 rfl ?_
      exact WL.done1 rfl rfl rfl
     ·refine ⟨fun F => ?_, trivial⟩
      refine WL.qn (y_pick_t rfl rfl) rfl ?_
      exact WL.done1 rfl rfl rfl
     ·refine ⟨fun F => ?_, trivial⟩
      refine WL.mv rfl rfl ?_
      exact WL.done1 rfl rfl rfl
     ·refine ⟨fun F => ?_, trivial⟩
      refine WL.skips 1 rfl ?_
      exact WL.done1 rfl rfl rfl
     ·refine ⟨fun F => ?_, trivial⟩
      refine WL.skips 1 rfl ?_
      exact WL.done1 rfl rfl rfl
     ·refine ⟨fun F => ?_, trivial⟩
      refine WL.skips 1 rfl ?_
      exact WL.done1 rfl rfl rfl
     ·refine ⟨fun F => ?_, trivial⟩
      refine WL.qn (y_pick_t rfl rfl) rfl ?_
      exact WL.done1 rfl rfl rfl
     ·refine ⟨fun F => ?_, trivial⟩
      refine WL.mv rfl rfl ?_
      exact WL.done1 rfl rfl rfl
     ·refine ⟨fun F => ?_, trivial⟩
      refine WL.skips 1 rfl ?_
      exact WL.done1 rfl rfl rfl
     ·refine ⟨fun F => ?_, trivial⟩
      refine WL.skips 1 rfl ?_
      exact WL.done1 rfl rfl rfl
     ·refine ⟨fun F => ?_, trivial⟩
      refine WL.skips 1 rfl ?_
      exact WL.done1 rfl rfl rfl
     ·refine ⟨fun F => ?_, trivial⟩
      refine WL.qn (y_pick_t rfl rfl) rfl ?_
      exact WL.done1 rfl rfl rfl
     ·refine ⟨fun F => ?_, trivial⟩
      refine WL.mv rfl rfl ?_
      exact WL.done1 rfl rfl rfl
     ·refine ⟨fun F => ?_, trivial⟩
      refine WL.skips 1 rfl ?_
      exact WL.done1 rfl rfl rfl
     ·refine ⟨fun F => ?_, trivial⟩
      refine WL.skips 1 rfl ?_
      exact WL.done1 rfl rfl rfl
     ·refine ⟨fun F => ?_, trivial⟩
      refine WL.skips 1 rfl ?_
      exact WL.done1 rfl rfl rfl
     ·refine ⟨fun F => ?_, trivial⟩
      refine WL.qn (y_pick_t rfl rfl) rfl ?_
      exact WL.done1 rfl rfl rfl
    ·exact we_lp ⟨true, h, (Sub.cons rfl (Le.refl _) (Sub.cons rfl (Le.refl _) (Sub.cons rfl (Le.refl _) (Sub.cons rfl (Le.refl _) (Sub.nil _))))), ⟨⟨rfl, ⟨(Le.refl _), (Le.refl _), (Le.refl _), (Le.refl _), (Le.refl _), (Le.refl _), (Le.refl _), (Le.refl _), (Le.refl _), (Le.refl _), (Le.refl _), (Le.refl _), (Le.refl _), (Le.refl _), (Le.refl _), (Le.refl _), (Le.refl _), (Le.refl _), trivial⟩⟩, trivial⟩⟩
   ·replace h := condF h hb7
    obtain ⟨r88, hr88, h⟩ := bindS h
    rcases boolCases (!r88) with hb8 | hb8
    ·replace h := condT h hb8
     apply wc_region_all [_, _, _, _, _, _, _, _, _, _, _, _, _, _, _, _, _, _, _, _, _, _, _, _, _, _, _, _, _, _, _] [[], [0], [0, 1], [0, 1, 2], [0, 1, 2, 3], [0, 1, 2, 3], [0, 1, 2, 3, 5], [0, 1, 2, 3, 4, 5, 6], [0, 1, 2, 3, 4, 5, 6, 7], [0, 1, 2, 3, 4, 5, 6, 7, 8], [0, 1, 2, 3, 4, 5, 6, 7, 8, 9], [0, 1, 2, 3, 4, 5, 6, 7, 8, 9, 10], [0, 1, 2, 3, 4, 5, 6, 7, 8, 9, 10, 11], [0, 1, 2, 3, 4, 5, 6, 7, 8, 9, 10, 11, 12], [0, 1, 2, 3, 4, 5, 6, 7, 8, 9, 10, 11, 12, 13], [0, 1, 2, 3, 4, 5, 6, 7, 8, 9, 10, 11, 12, 13, 14], [0, 1, 2, 3, 4, 5, 6, 7, 8, 9, 10, 11, 12, 13, 14, 15], [0, 1, 2, 3, 4, 5, 6, 7, 8, 9, 10, 11, 12, 13, 14, 15, 16], [0, 1, 2, 3, 4, 5, 6, 7, 8, 9, 10, 11, 12, 13, 14, 15, 16, 17], [0, 1, 2, 3, 4, 5, 6, 7, 8, 9, 10, 11, 12, 13, 14, 15, 16, 17, 18], [0, 1, 2, 3, 4, 5, 6, 7, 8, 9, 10, 11, 12, 13, 14, 15, 16, 17, 18, 19], [0, 1, 2, 3, 4, 5, 6, 7, 8, 9, 10, 11, 12, 13, 14, 15, 16, 17, 18, 19, 20], [0, 1, 2, 3, 4, 5, 6, 7, 8, 9, 10, 11, 12, 13, 14, 15, 16, 17, 18, 19, 20, 21], [0, 1, 2, 3, 4, 5, 6, 7, 8, 9, 10, 11, 12, 13, 14, 15, 16, 17, 18, 19, 20, 21, 22], [0, 1, 2, 3, 4, 5, 6, 7, 8, 9, 10, 11, 12, 13, 14, 15, 16, 17, 18, 19, 20, 21, 22, 23], [0, 1, 2, 3, 4, 5, 6, 7, 8, 9, 10, 11, 12, 13, 14, 15, 16, 17, 18, 19, 20, 21, 22, 23, 24], [0, 1, 2, 3, 4, 5, 6, 7, 8, 9, 10, 11, 12, 13, 14, 15, 16, 17, 18, 19, 20, 21, 22, 23, 24, 25], [0, 1, 2, 3, 4, 5, 6, 7, 8, 9, 10, 11, 12, 13, 14, 15, 16, 17, 18, 19, 20, 21, 22, 23, 24, 25, 26], [0, 1, 2, 3, 4, 5, 6, 7, 8, 9, 10, 11, 12, 13, 14, 15, 16, 17, 18, 19, 20, 21, 22, 23, 24, 25, 26, 27], [0, 1, 2, 3, 4, 5, 6, 7, 8, 9, 10, 11, 12, 13, 14, 15, 16, 17, 18, 19, 20, 21, 22, 23, 24, 25, 26, 27, 28], [0, 1, 2, 3, 4, 5, 6, 7, 8, 9, 10, 11, 12, 13, 14, 15, 16, 17, 18, 19, 20, 21, 22, 23, 24, 25, 26, 27, 28, 29]] [] (fun c => List.getD [[.row 54 [.d (D.i .u8 x84.kind), .d (D.s x84.name), .d (D.i .i64 x84.parent), .d (D.i .i64 x84.first), .d (.sl (List.map E9 x84.lits)), .d (D.i .i64 x84.index), .d (D.i .i64 x84.elem), .d (D.i .i64 x84.disc), .d (D.s x84.discName), .d (D.b x84.has), .d (D.i .i64 x84.default_), .d (.sl (List.map E56 x84.comps)), .d (D.i .i64 x84.target), .d (D.i .u8 x84.formal), .d (D.b x84.limited), .d (D.i .i64 x84.priv), .d (D.i .i64 x84.full), .d (D.i .i64 x84.level)]]] c []) [([], [5], [0]), ([0], [], [0]), ([1], [], [0]), ([2], [], [0]), ([3], [5], [0]), ([3], [5], [0]), ([5, 3], [], [0]), ([4, 6, 3], [], [0]), ([7, 3], [], [0]), ([3, 8], [], [0]), ([9], [], [0]), ([10], [5], [0]), ([11, 10], [], [0]), ([12, 10], [], [0]), ([13, 10], [], [0]), ([10, 14], [], [0]), ([15], [], [0]), ([16], [], [0]), ([16], [], [0]), ([16], [], [0]), ([16, 19], [], [0]), ([20], [], [0]), ([21], [], [0]), ([21], [], [0]), ([21], [], [0]), ([21, 24], [], [0]), ([25], [], [0]), ([26], [], [0]), ([26], [], [0]), ([26], [], [0]), ([26, 29], [], [0])] (by kernel_rfl) (by kernel_rfl) rfl rfl rfl
     ·refine ⟨?_, ?_, ?_, ?_, ?_, ?_, ?_, ?_, ?_, ?_, ?_, ?_, ?_, ?_, ?_, ?_, ?_, ?_, ?_, ?_, ?_, ?_, ?_, ?_, ?_, ?_, ?_, ?_, ?_, ?_, ?_, trivial⟩
      ·refine ⟨fun F => ?_, trivial⟩
       refine WL.qn (y_fieldAddr f54_0 rfl) rfl ?_
       exact WL.done1 rfl rfl rfl
      ·refine ⟨fun F => ?_, trivial⟩
       refine WL.qn (y_load rfl rfl a49 rfl) rfl ?_
       exact WL.done1 rfl rfl rfl
      ·refine ⟨fun F => ?_, trivial⟩
       refine WL.qn (y_eql rfl rfl) rfl ?_
       exact WL.done1 rfl rfl rfl
      ·refine ⟨fun F => ?_, trivial⟩
       refine WL.mv rfl rfl ?_
       refine WL.cast 14 rfl (Le.ofd (by rw [hb6])) ?_
       exact WL.done2 rfl rfl rfl
      ·refine ⟨fun F => ?_, trivial⟩
       refine WL.qy (y_loadN rfl rfl a54 s54 rfl) rfl rfl rfl ?_
       exact WL.done1 rfl rfl rfl
      ·refine ⟨fun F => ?_, trivial⟩
       refine WL.qy (y_loadN rfl rfl a54 s54 rfl) rfl rfl rfl ?_
       exact WL.done1 rfl rfl rfl
      ·refine ⟨fun F => ?_, trivial⟩
       refine WL.fn rfl rfl rfl rfl (f74_c _) ⟨(Le.agd ⟨(Le.refl _), (Le.refl _), (Le.refl _), (Le.refl _), (Le.refl _), (Le.refl _), (Le.refl _), (Le.refl _), (Le.refl _), (Le.refl _), (Le.refl _), (Le.refl _), (Le.refl _), (Le.refl _), (Le.refl _), (Le.refl _), (Le.refl _), (Le.refl _), trivial⟩), trivial⟩ (Wt.yes rfl rfl rfl) rfl rfl ?_
       exact WL.done1 rfl rfl rfl
      ·refine ⟨fun F => ?_, trivial⟩
       refine WL.fn rfl rfl rfl rfl (f53_c _ _ hr87) ⟨(Le.agd ⟨(Le.refl _), (Le.refl _), (Le.refl _), (Le.refl _), (Le.refl _), (Le.refl _), (Le.refl _), (Le.refl _), (Le.refl _), (Le.refl _), (Le.refl _), (Le.refl _), (Le.refl _), (Le.refl _), (Le.refl _), (Le.refl _), (Le.refl _), (Le.refl _), trivial⟩), (Le.refl _), trivial⟩ (Wt.yes rfl rfl rfl) rfl rfl ?_
       exact WL.done1 rfl rfl rfl
      ·refine ⟨fun F => ?_, trivial⟩
       refine WL.qy (y_not rfl) rfl rfl rfl ?_
       exact WL.done1 rfl rfl rfl
      ·refine ⟨fun F => ?_, trivial⟩
       refine WL.qn (y_pick_f rfl rfl) rfl ?_
       exact WL.done1 rfl rfl rfl
      ·refine ⟨fun F => ?_, trivial⟩
       refine WL.mv rfl rfl ?_
       refine WL.cast 21 rfl (Le.ofd (by rw [hb7])) ?_
       exact WL.done2 rfl rfl rfl
      ·refine ⟨fun F => ?_, trivial⟩
       refine WL.qy (y_fieldAddr f54_1 rfl) rfl rfl rfl ?_
       exact WL.done1 rfl rfl rfl
      ·refine ⟨fun F => ?_, trivial⟩
       refine WL.qy (y_load rfl rfl a9 rfl) rfl rfl rfl ?_
       exact WL.done1 rfl rfl rfl
      ·refine ⟨fun F => ?_, trivial⟩
       refine WL.fn rfl rfl rfl rfl (f75_c _ hr88) ⟨(Le.refl _), trivial⟩ (Wt.yes rfl rfl rfl) rfl rfl ?_
       exact WL.done1 rfl rfl rfl
      ·refine ⟨fun F => ?_, trivial⟩
       refine WL.qy (y_not rfl) rfl rfl rfl ?_
       exact WL.done1 rfl rfl rfl
      ·refine ⟨fun F => ?_, trivial⟩
       refine WL.qn (y_pick_f rfl rfl) rfl ?_
       exact WL.done1 rfl rfl rfl
      ·refine ⟨fun F => ?_, trivial⟩
       refine WL.mv rfl rfl ?_
       refine WL.cast 27 rfl (Le.ofd (by rw [hb8])) ?_
       exact WL.done2 rfl rfl rfl
      ·refine ⟨fun F => ?_, trivial⟩
       refine WL.skips 1 rfl ?_
       exact WL.done1 rfl rfl rfl
      ·refine ⟨fun F => ?_, trivial⟩
       refine WL.skips 1 rfl ?_
       exact WL.done1 rfl rfl rfl
      ·refine ⟨fun F => ?_, trivial⟩
       refine WL.skips 1 rfl ?_
       exact WL.done1 rfl rfl rfl
      ·refine ⟨fun F => ?_, trivial⟩
       refine WL.qn (y_pick_t rfl rfl) rfl ?_
       exact WL.done1 rfl rfl rfl
      ·refine ⟨fun F => ?_, trivial⟩
       refine WL.mv rfl rfl ?_
       exact WL.done1 rfl rfl rfl
      ·refine ⟨fun F => ?_, trivial⟩
       refine WL.skips 1 rfl ?_
       exact WL.done1 rfl rfl rfl
      ·refine ⟨fun F => ?_, trivial⟩
       refine WL.skips 1 rfl ?_
       exact WL.done1 rfl rfl rfl
      ·refine ⟨fun F => ?_, trivial⟩
       refine WL.skips 1 rfl ?_
       exact WL.done1 rfl rfl rfl
      ·refine ⟨fun F => ?_, trivial⟩
       refine WL.qn (y_pick_t rfl rfl) rfl ?_
       exact WL.done1 rfl rfl rfl
      ·refine ⟨fun F => ?_, trivial⟩
       refine WL.mv rfl rfl ?_
       exact WL.done1 rfl rfl rfl
      ·refine ⟨fun F => ?_, trivial⟩
       refine WL.skips 1 rfl ?_
       exact WL.done1 rfl rfl rfl
      ·refine ⟨fun F => ?_, trivial⟩
       refine WL.skips 1 rfl ?_
       exact WL.done1 rfl rfl rfl
      ·refine ⟨fun F => ?_, trivial⟩
       refine WL.skips 1 rfl ?_
       exact WL.done1 rfl rfl rfl
      ·refine ⟨fun F => ?_, trivial⟩
       refine WL.qn (y_pick_t rfl rfl) rfl ?_
       exact WL.done1 rfl rfl rfl
     ·exact we_lp ⟨true, h, (Sub.cons rfl (Le.refl _) (Sub.cons rfl (Le.refl _) (Sub.cons rfl (Le.refl _) (Sub.cons rfl (Le.refl _) (Sub.nil _))))), ⟨⟨rfl, ⟨(Le.refl _), (Le.refl _), (Le.refl _), (Le.refl _), (Le.refl _), (Le.refl _), (Le.refl _), (Le.refl _), (Le.refl _), (Le.refl _), (Le.refl _), (Le.refl _), (Le.refl _), (Le.refl _), (Le.refl _), (Le.refl _), (Le.refl _), (Le.refl _), trivial⟩⟩, trivial⟩⟩
    ·replace h := condF h hb8
     rcases boolCases (decide (x84.level < 0)) with hb9 | hb9
     ·replace h := condT h hb9
      apply wc_region_all [_, _, _, _, _, _, _, _, _, _, _, _, _, _, _, _, _, _, _, _, _, _, _, _, _, _, _, _, _, _, _] [[], [0], [0, 1], [0, 1, 2], [0, 1, 2, 3], [0, 1, 2, 3], [0, 1, 2, 3, 5], [0, 1, 2, 3, 4, 5, 6], [0, 1, 2, 3, 4, 5, 6, 7], [0, 1, 2, 3, 4, 5, 6, 7, 8], [0, 1, 2, 3, 4, 5, 6, 7, 8, 9], [0, 1, 2, 3, 4, 5, 6, 7, 8, 9, 10], [0, 1, 2, 3, 4, 5, 6, 7, 8, 9, 10, 11], [0, 1, 2, 3, 4, 5, 6, 7, 8, 9, 10, 11, 12], [0, 1, 2, 3, 4, 5, 6, 7, 8, 9, 10, 11, 12, 13], [0, 1, 2, 3, 4, 5, 6, 7, 8, 9, 10, 11, 12, 13, 14], [0, 1, 2, 3, 4, 5, 6, 7, 8, 9, 10, 11, 12, 13, 14, 15], [0, 1, 2, 3, 4, 5, 6, 7, 8, 9, 10, 11, 12, 13, 14, 15, 16], [0, 1, 2, 3, 4, 5, 6, 7, 8, 9, 10, 11, 12, 13, 14, 15, 16, 17], [0, 1, 2, 3, 4, 5, 6, 7, 8, 9, 10, 11, 12, 13, 14, 15, 16, 17, 18], [0, 1, 2, 3, 4, 5, 6, 7, 8, 9, 10, 11, 12, 13, 14, 15, 16, 17, 18, 19], [0, 1, 2, 3, 4, 5, 6, 7, 8, 9, 10, 11, 12, 13, 14, 15, 16, 17, 18, 19, 20], [0, 1, 2, 3, 4, 5, 6, 7, 8, 9, 10, 11, 12, 13, 14, 15, 16, 17, 18, 19, 20, 21], [0, 1, 2, 3, 4, 5, 6, 7, 8, 9, 10, 11, 12, 13, 14, 15, 16, 17, 18, 19, 20, 21, 22], [0, 1, 2, 3, 4, 5, 6, 7, 8, 9, 10, 11, 12, 13, 14, 15, 16, 17, 18, 19, 20, 21, 22, 23], [0, 1, 2, 3, 4, 5, 6, 7, 8, 9, 10, 11, 12, 13, 14, 15, 16, 17, 18, 19, 20, 21, 22, 23, 24], [0, 1, 2, 3, 4, 5, 6, 7, 8, 9, 10, 11, 12, 13, 14, 15, 16, 17, 18, 19, 20, 21, 22, 23, 24, 25], [0, 1, 2, 3, 4, 5, 6, 7, 8, 9, 10, 11, 12, 13, 14, 15, 16, 17, 18, 19, 20, 21, 22, 23, 24, 25, 26], [0, 1, 2, 3, 4, 5, 6, 7, 8, 9, 10, 11, 12, 13, 14, 15, 16, 17, 18, 19, 20, 21, 22, 23, 24, 25, 26, 27], [0, 1, 2, 3, 4, 5, 6, 7, 8, 9, 10, 11, 12, 13, 14, 15, 16, 17, 18, 19, 20, 21, 22, 23, 24, 25, 26, 27, 28], [0, 1, 2, 3, 4, 5, 6, 7, 8, 9, 10, 11, 12, 13, 14, 15, 16, 17, 18, 19, 20, 21, 22, 23, 24, 25, 26, 27, 28, 29]] [] (fun c => List.getD [[.row 54 [.d (D.i .u8 x84.kind), .d (D.s x84.name), .d (D.i .i64 x84.parent), .d (D.i .i64 x84.first), .d (.sl (List.map E9 x84.lits)), .d (D.i .i64 x84.index), .d (D.i .i64 x84.elem), .d (D.i .i64 x84.disc), .d (D.s x84.discName), .d (D.b x84.has), .d (D.i .i64 x84.default_), .d (.sl (List.map E56 x84.comps)), .d (D.i .i64 x84.target), .d (D.i .u8 x84.formal), .d (D.b x84.limited), .d (D.i .i64 x84.priv), .d (D.i .i64 x84.full), .d (D.i .i64 x84.level)]]] c []) [([], [5], [0]), ([0], [], [0]), ([1], [], [0]), ([2], [], [0]), ([3], [5], [0]), ([3], [5], [0]), ([5, 3], [], [0]), ([4, 6, 3], [], [0]), ([7, 3], [], [0]), ([3, 8], [], [0]), ([9], [], [0]), ([10], [5], [0]), ([11, 10], [], [0]), ([12, 10], [], [0]), ([13, 10], [], [0]), ([10, 14], [], [0]), ([15], [], [0]), ([16], [5], [0]), ([17, 16], [], [0]), ([18, 16], [], [0]), ([16, 19], [], [0]), ([20], [], [0]), ([21], [], [0]), ([21], [], [0]), ([21], [], [0]), ([21, 24], [], [0]), ([25], [], [0]), ([26], [], [0]), ([26], [], [0]), ([26], [], [0]), ([26, 29], [], [0])] (by kernel_rfl) (by kernel_rfl) rfl rfl rfl
      ·refine ⟨?_, ?_, ?_, ?_, ?_, ?_, ?_, ?_, ?_, ?_, ?_, ?_, ?_, ?_, ?_, ?_, ?_, ?_, ?_, ?_, ?_, ?_, ?_, ?_, ?_, ?_, ?_, ?_, ?_, ?_, ?_, trivial⟩
       ·refine ⟨fun F => ?_, trivial⟩
        refine WL.qn (y_fieldAddr f54_0 rfl) rfl ?_
        exact WL.done1 rfl rfl rfl
       ·refine ⟨fun F => ?_, trivial⟩
        refine WL.qn (y_load rfl rfl a49 rfl) rfl ?_
        exact WL.done1 rfl rfl rfl
       ·refine ⟨fun F => ?_, trivial⟩
        refine WL.qn (y_eql rfl rfl) rfl ?_
        exact WL.done1 rfl rfl rfl
       ·refine ⟨fun F => ?_, trivial⟩
        refine WL.mv rfl rfl ?_
        refine WL.cast 14 rfl (Le.ofd (by rw [hb6])) ?_
        exact WL.done2 rfl rfl rfl
       ·refine ⟨fun F => ?_, trivial⟩
        refine WL.qy (y_loadN rfl rfl a54 s54 rfl) rfl rfl rfl ?_
        exact WL.done1 rfl rfl rfl
       ·refine ⟨fun F => ?_, trivial⟩
        refine WL.qy (y_loadN rfl rfl a54 s54 rfl) rfl rfl rfl ?_
        exact WL.done1 rfl rfl rfl
       ·refine ⟨fun F => ?_, trivial⟩
        refine WL.fn rfl rfl rfl rfl (f74_c _) ⟨(Le.agd ⟨(Le.refl _), (Le.refl _), (Le.refl _), (Le.refl _), (Le.refl _), (Le.refl _), (Le.refl _), (Le.refl _), (Le.refl _), (Le.refl _), (Le.refl _), (Le.refl _), (Le.refl _), (Le.refl _), (Le.refl _), (Le.refl _), (Le.refl _), (Le.refl _), trivial⟩), trivial⟩ (Wt.yes rfl rfl rfl) rfl rfl ?_
        exact WL.done1 rfl rfl rfl
       ·refine ⟨fun F => ?_, trivial⟩
        refine WL.fn rfl rfl rfl rfl (f53_c _ _ hr87) ⟨(Le.agd ⟨(Le.refl _), (Le.refl _), (Le.refl _), (Le.refl _), (Le.refl _), (Le.refl _), (Le.refl _), (Le.refl _), (Le.refl _), (Le.refl _), (Le.refl _), (Le.refl _), (Le.refl _), (Le.refl _), (Le.refl _), (Le.refl _), (Le.refl _), (Le.refl _), trivial⟩), (Le.refl _), trivial⟩ (Wt.yes rfl rfl rfl) rfl rfl ?_
        exact WL.done1 rfl rfl rfl
       ·refine ⟨fun F => ?_, trivial⟩
        refine WL.qy (y_not rfl) rfl rfl rfl ?_
        exact WL.done1 rfl rfl rfl
       ·refine ⟨fun F => ?_, trivial⟩
        refine WL.qn (y_pick_f rfl rfl) rfl ?_
        exact WL.done1 rfl rfl rfl
       ·refine ⟨fun F => ?_, trivial⟩
        refine WL.mv rfl rfl ?_
        refine WL.cast 21 rfl (Le.ofd (by rw [hb7])) ?_
        exact WL.done2 rfl rfl rfl
       ·refine ⟨fun F => ?_, trivial⟩
        refine WL.qy (y_fieldAddr f54_1 rfl) rfl rfl rfl ?_
        exact WL.done1 rfl rfl rfl
       ·refine ⟨fun F => ?_, trivial⟩
        refine WL.qy (y_load rfl rfl a9 rfl) rfl rfl rfl ?_
        exact WL.done1 rfl rfl rfl
       ·refine ⟨fun F => ?_, trivial⟩
        refine WL.fn rfl rfl rfl rfl (f75_c _ hr88) ⟨(Le.refl _), trivial⟩ (Wt.yes rfl rfl rfl) rfl rfl ?_
        exact WL.done1 rfl rfl rfl
       ·refine ⟨fun F => ?_, trivial⟩
        refine WL.qy (y_not rfl) rfl rfl rfl ?_
        exact WL.done1 rfl rfl rfl
       ·refine ⟨fun F => ?_, trivial⟩
        refine WL.qn (y_pick_f rfl rfl) rfl ?_
        exact WL.done1 rfl rfl rfl
       ·refine ⟨fun F => ?_, trivial⟩
        refine WL.mv rfl rfl ?_
        refine WL.cast 27 rfl (Le.ofd (by rw [hb8])) ?_
        exact WL.done2 rfl rfl rfl
       ·refine ⟨fun F => ?_, trivial⟩
        refine WL.qy (y_fieldAddr f54_17 rfl) rfl rfl rfl ?_
        exact WL.done1 rfl rfl rfl
       ·refine ⟨fun F => ?_, trivial⟩
        refine WL.qy (y_load rfl rfl a3 rfl) rfl rfl rfl ?_
        exact WL.done1 rfl rfl rfl
       ·refine ⟨fun F => ?_, trivial⟩
        refine WL.qy (y_lss rfl rfl) rfl rfl rfl ?_
        exact WL.done1 rfl rfl rfl
       ·refine ⟨fun F => ?_, trivial⟩
        refine WL.qn (y_pick_f rfl rfl) rfl ?_
        exact WL.done1 rfl rfl rfl
       ·refine ⟨fun F => ?_, trivial⟩
        refine WL.mv rfl rfl ?_
        refine WL.cast 32 rfl (Le.ofd (by rw [hb9])) ?_
        exact WL.done2 rfl rfl rfl
       ·refine ⟨fun F => ?_, trivial⟩
        refine WL.skips 1 rfl ?_
        exact WL.done1 rfl rfl rfl
       ·refine ⟨fun F => ?_, trivial⟩
        refine WL.skips 1 rfl ?_
        exact WL.done1 rfl rfl rfl
       ·refine ⟨fun F => ?_, trivial⟩
        refine WL.skips 1 rfl ?_
        exact WL.done1 rfl rfl rfl
       ·refine ⟨fun F => ?_, trivial⟩
        refine WL.qn (y_pick_t rfl rfl) rfl ?_
        exact WL.done1 rfl rfl rfl
       ·refine ⟨fun F => ?_, trivial⟩
        refine WL.mv rfl rfl ?_
        exact WL.done1 rfl rfl rfl
       ·refine ⟨fun F => ?_, trivial⟩
        refine WL.skips 1 rfl ?_
        exact WL.done1 rfl rfl rfl
       ·refine ⟨fun F => ?_, trivial⟩
        refine WL.skips 1 rfl ?_
        exact WL.done1 rfl rfl rfl
       ·refine ⟨fun F => ?_, trivial⟩
        refine WL.skips 1 rfl ?_
        exact WL.done1 rfl rfl rfl
       ·refine ⟨fun F => ?_, trivial⟩
        refine WL.qn (y_pick_t rfl rfl) rfl ?_
        exact WL.done1 rfl rfl rfl
      ·exact we_lp ⟨true, h, (Sub.cons rfl (Le.refl _) (Sub.cons rfl (Le.refl _) (Sub.cons rfl (Le.refl _) (Sub.cons rfl (Le.refl _) (Sub.nil _))))), ⟨⟨rfl, ⟨(Le.refl _), (Le.refl _), (Le.refl _), (Le.refl _), (Le.refl _), (Le.refl _), (Le.refl _), (Le.refl _), (Le.refl _), (Le.refl _), (Le.refl _), (Le.refl _), (Le.refl _), (Le.refl _), (Le.refl _), (Le.refl _), (Le.refl _), (Le.refl _), trivial⟩⟩, trivial⟩⟩
     ·replace h := condF h hb9
      rcases boolCases (decide (x84.priv < (-1))) with hb10 | hb10
      ·replace h := condT h hb10
       apply wc_region_all [_, _, _, _, _, _, _, _, _, _, _, _, _, _, _, _, _, _, _, _, _, _, _, _, _, _, _, _, _, _, _] [[], [0], [0, 1], [0, 1, 2], [0, 1, 2, 3], [0, 1, 2, 3], [0, 1, 2, 3, 5], [0, 1, 2, 3, 4, 5, 6], [0, 1, 2, 3, 4, 5, 6, 7], [0, 1, 2, 3, 4, 5, 6, 7, 8], [0, 1, 2, 3, 4, 5, 6, 7, 8, 9], [0, 1, 2, 3, 4, 5, 6, 7, 8, 9, 10], [0, 1, 2, 3, 4, 5, 6, 7, 8, 9, 10, 11], [0, 1, 2, 3, 4, 5, 6, 7, 8, 9, 10, 11, 12], [0, 1, 2, 3, 4, 5, 6, 7, 8, 9, 10, 11, 12, 13], [0, 1, 2, 3, 4, 5, 6, 7, 8, 9, 10, 11, 12, 13, 14], [0, 1, 2, 3, 4, 5, 6, 7, 8, 9, 10, 11, 12, 13, 14, 15], [0, 1, 2, 3, 4, 5, 6, 7, 8, 9, 10, 11, 12, 13, 14, 15, 16], [0, 1, 2, 3, 4, 5, 6, 7, 8, 9, 10, 11, 12, 13, 14, 15, 16, 17], [0, 1, 2, 3, 4, 5, 6, 7, 8, 9, 10, 11, 12, 13, 14, 15, 16, 17, 18], [0, 1, 2, 3, 4, 5, 6, 7, 8, 9, 10, 11, 12, 13, 14, 15, 16, 17, 18, 19], [0, 1, 2, 3, 4, 5, 6, 7, 8, 9, 10, 11, 12, 13, 14, 15, 16, 17, 18, 19, 20], [0, 1, 2, 3, 4, 5, 6, 7, 8, 9, 10, 11, 12, 13, 14, 15, 16, 17, 18, 19, 20, 21], [0, 1, 2, 3, 4, 5, 6, 7, 8, 9, 10, 11, 12, 13, 14, 15, 16, 17, 18, 19, 20, 21, 22], [0, 1, 2, 3, 4, 5, 6, 7, 8, 9, 10, 11, 12, 13, 14, 15, 16, 17, 18, 19, 20, 21, 22, 23], [0, 1, 2, 3, 4, 5, 6, 7, 8, 9, 10, 11, 12, 13, 14, 15, 16, 17, 18, 19, 20, 21, 22, 23, 24], [0, 1, 2, 3, 4, 5, 6, 7, 8, 9, 10, 11, 12, 13, 14, 15, 16, 17, 18, 19, 20, 21, 22, 23, 24, 25], [0, 1, 2, 3, 4, 5, 6, 7, 8, 9, 10, 11, 12, 13, 14, 15, 16, 17, 18, 19, 20, 21, 22, 23, 24, 25, 26], [0, 1, 2, 3, 4, 5, 6, 7, 8, 9, 10, 11, 12, 13, 14, 15, 16, 17, 18, 19, 20, 21, 22, 23, 24, 25, 26, 27], [0, 1, 2, 3, 4, 5, 6, 7, 8, 9, 10, 11, 12, 13, 14, 15, 16, 17, 18, 19, 20, 21, 22, 23, 24, 25, 26, 27, 28], [0, 1, 2, 3, 4, 5, 6, 7, 8, 9, 10, 11, 12, 13, 14, 15, 16, 17, 18, 19, 20, 21, 22, 23, 24, 25, 26, 27, 28, 29]] [] (fun c => List.getD [[.row 54 [.d (D.i .u8 x84.kind), .d (D.s x84.name), .d (D.i .i64 x84.parent), .d (D.i .i64 x84.first), .d (.sl (List.map E9 x84.lits)), .d (D.i .i64 x84.index), .d (D.i .i64 x84.elem), .d (D.i .i64 x84.disc), .d (D.s x84.discName), .d (D.b x84.has), .d (D.i .i64 x84.default_), .d (.sl (List.map E56 x84.comps)), .d (D.i .i64 x84.target), .d (D.i .u8 x84.formal), .d (D.b x84.limited), .d (D.i .i64 x84.priv), .d (D.i .i64 x84.full), .d (D.i .i64 x84.level)]]] c []) [([], [5], [0]), ([0], [], [0]), ([1], [], [0]), ([2], [], [0]), ([3], [5], [0]), ([3], [5], [0]), ([5, 3], [], [0]), ([4, 6, 3], [], [0]), ([7, 3], [], [0]), ([3, 8], [], [0]), ([9], [], [0]), ([10], [5], [0]), ([11, 10], [], [0]), ([12, 10], [], [0]), ([13, 10], [], [0]), ([10, 14], [], [0]), ([15], [], [0]), ([16], [5], [0]), ([17, 16], [], [0]), ([18, 16], [], [0]), ([16, 19], [], [0]), ([20], [], [0]), ([21], [5], [0]), ([22, 21], [], [0]), ([23, 21], [], [0]), ([21, 24], [], [0]), ([25], [], [0]), ([26], [], [0]), ([26], [], [0]), ([26], [], [0]), ([26, 29], [], [0])] (by kernel_rfl) (by kernel_rfl) rfl rfl rfl
       ·refine ⟨?_, ?_, ?_, ?_, ?_, ?_, ?_, ?_, ?_, ?_, ?_, ?_, ?_, ?_, ?_, ?_, ?_, ?_, ?_, ?_, ?_, ?_, ?_, ?_, ?_, ?_, ?_, ?_, ?_, ?_, ?_, trivial⟩
        ·refine ⟨fun F => ?_, trivial⟩
         refine WL.qn (y_fieldAddr f54_0 rfl) rfl ?_
         exact WL.done1 rfl rfl rfl
        ·refine ⟨fun F => ?_, trivial⟩
         refine WL.qn (y_load rfl rfl a49 rfl) rfl ?_
         exact WL.done1 rfl rfl rfl
        ·refine ⟨fun F => ?_, trivial⟩
         refine WL.qn (y_eql rfl rfl) rfl ?_
         exact WL.done1 rfl rfl rfl
        ·refine ⟨fun F => ?_, trivial⟩
         refine WL.mv rfl rfl ?_
         refine WL.cast 14 rfl (Le.ofd (by rw [hb6])) ?_
         exact WL.done2 rfl rfl rfl
        ·refine ⟨fun F => ?_, trivial⟩
         refine WL.qy (y_loadN rfl rfl a54 s54 rfl) rfl rfl rfl ?_
         exact WL.done1 rfl rfl rfl
        ·refine ⟨fun F => ?_, trivial⟩
         refine WL.qy (y_loadN rfl rfl a54 s54 rfl) rfl rfl rfl ?_
         exact WL.done1 rfl rfl rfl
        ·refine ⟨fun F => ?_, trivial⟩
         refine WL.fn rfl rfl rfl rfl (f74_c _) ⟨(Le.agd ⟨(Le.refl _), (Le.refl _), (Le.refl _), (Le.refl _), (Le.refl _), (Le.refl _), (Le.refl _), (Le.refl _), (Le.refl _), (Le.refl _), (Le.refl _), (Le.refl _), (Le.refl _), (Le.refl _), (Le.refl _), (Le.refl _), (Le.refl _), (Le.refl _), trivial⟩), trivial⟩ (Wt.yes rfl rfl rfl) rfl rfl ?_
         exact WL.done1 rfl rfl rfl
        ·refine ⟨fun F => ?_, trivial⟩
         refine WL.fn rfl rfl rfl rfl (f53_c _ _ hr87) ⟨(Le.agd ⟨(Le.refl _), (Le.refl _), (Le.refl _), (Le.refl _), (Le.refl _), (Le.refl _), (Le.refl _), (Le.refl _), (Le.refl _), (Le.refl _), (Le.refl _), (Le.refl _), (Le.refl _), (Le.refl _), (Le.refl _), (Le.refl _), (Le.refl _), (Le.refl _), trivial⟩), (Le.refl _), trivial⟩ (Wt.yes rfl rfl rfl) rfl rfl ?_
         exact WL.done1 rfl rfl rfl
        ·refine ⟨fun F => ?_, trivial⟩
         refine WL.qy (y_not rfl) rfl rfl rfl ?_
         exact WL.done1 rfl rfl rfl
        ·refine ⟨fun F => ?_, trivial⟩
         refine WL.qn (y_pick_f rfl rfl) rfl ?_
         exact WL.done1 rfl rfl rfl
        ·refine ⟨fun F => ?_, trivial⟩
         refine WL.mv rfl rfl ?_
         refine WL.cast 21 rfl (Le.ofd (by rw [hb7])) ?_
         exact WL.done2 rfl rfl rfl
        ·refine ⟨fun F => ?_, trivial⟩
         refine WL.qy (y_fieldAddr f54_1 rfl) rfl rfl rfl ?_
         exact WL.done1 rfl rfl rfl
        ·refine ⟨fun F => ?_, trivial⟩
         refine WL.qy (y_load rfl rfl a9 rfl) rfl rfl rfl ?_
         exact WL.done1 rfl rfl rfl
        ·refine ⟨fun F => ?_, trivial⟩
         refine WL.fn rfl rfl rfl rfl (f75_c _ hr88) ⟨(Le.refl _), trivial⟩ (Wt.yes rfl rfl rfl) rfl rfl ?_
         exact WL.done1 rfl rfl rfl
        ·refine ⟨fun F => ?_, trivial⟩
         refine WL.qy (y_not rfl) rfl rfl rfl ?_
         exact WL.done1 rfl rfl rfl
        ·refine ⟨fun F => ?_, trivial⟩
         refine WL.qn (y_pick_f rfl rfl) rfl ?_
         exact WL.done1 rfl rfl rfl
        ·refine ⟨fun F => ?_, trivial⟩
         refine WL.mv rfl rfl ?_
         refine WL.cast 27 rfl (Le.ofd (by rw [hb8])) ?_
         exact WL.done2 rfl rfl rfl
        ·refine ⟨fun F => ?_, trivial⟩
         refine WL.qy (y_fieldAddr f54_17 rfl) rfl rfl rfl ?_
         exact WL.done1 rfl rfl rfl
        ·refine ⟨fun F => ?_, trivial⟩
         refine WL.qy (y_load rfl rfl a3 rfl) rfl rfl rfl ?_
         exact WL.done1 rfl rfl rfl
        ·refine ⟨fun F => ?_, trivial⟩
         refine WL.qy (y_lss rfl rfl) rfl rfl rfl ?_
         exact WL.done1 rfl rfl rfl
        ·refine ⟨fun F => ?_, trivial⟩
         refine WL.qn (y_pick_f rfl rfl) rfl ?_
         exact WL.done1 rfl rfl rfl
        ·refine ⟨fun F => ?_, trivial⟩
         refine WL.mv rfl rfl ?_
         refine WL.cast 32 rfl (Le.ofd (by rw [hb9])) ?_
         exact WL.done2 rfl rfl rfl
        ·refine ⟨fun F => ?_, trivial⟩
         refine WL.qy (y_fieldAddr f54_15 rfl) rfl rfl rfl ?_
         exact WL.done1 rfl rfl rfl
        ·refine ⟨fun F => ?_, trivial⟩
         refine WL.qy (y_load rfl rfl a3 rfl) rfl rfl rfl ?_
         exact WL.done1 rfl rfl rfl
        ·refine ⟨fun F => ?_, trivial⟩
         refine WL.qy (y_lss rfl rfl) rfl rfl rfl ?_
         exact WL.done1 rfl rfl rfl
        ·refine ⟨fun F => ?_, trivial⟩
         refine WL.qn (y_pick_f rfl rfl) rfl ?_
         exact WL.done1 rfl rfl rfl
        ·refine ⟨fun F => ?_, trivial⟩
         refine WL.mv rfl rfl ?_
         refine WL.cast 37 rfl (Le.ofd (by rw [hb10])) ?_
         exact WL.done2 rfl rfl rfl
        ·refine ⟨fun F => ?_, trivial⟩
         refine WL.skips 1 rfl ?_
         exact WL.done1 rfl rfl rfl
        ·refine ⟨fun F => ?_, trivial⟩
         refine WL.skips 1 rfl ?_
         exact WL.done1 rfl rfl rfl
        ·refine ⟨fun F => ?_, trivial⟩
         refine WL.skips 1 rfl ?_
         exact WL.done1 rfl rfl rfl
        ·refine ⟨fun F => ?_, trivial⟩
         refine WL.qn (y_pick_t rfl rfl) rfl ?_
         exact WL.done1 rfl rfl rfl
       ·exact we_lp ⟨true, h, (Sub.cons rfl (Le.refl _) (Sub.cons rfl (Le.refl _) (Sub.cons rfl (Le.refl _) (Sub.cons rfl (Le.refl _) (Sub.nil _))))), ⟨⟨rfl, ⟨(Le.refl _), (Le.refl _), (Le.refl _), (Le.refl _), (Le.refl _), (Le.refl _), (Le.refl _), (Le.refl _), (Le.refl _), (Le.refl _), (Le.refl _), (Le.refl _), (Le.refl _), (Le.refl _), (Le.refl _), (Le.refl _), (Le.refl _), (Le.refl _), trivial⟩⟩, trivial⟩⟩
      ·replace h := condF h hb10
       apply wc_region_all [_, _, _, _, _, _, _, _, _, _, _, _, _, _, _, _, _, _, _, _, _, _, _, _, _, _, _, _, _, _, _] [[], [0], [0, 1], [0, 1, 2], [0, 1, 2, 3], [0, 1, 2, 3], [0, 1, 2, 3, 5], [0, 1, 2, 3, 4, 5, 6], [0, 1, 2, 3, 4, 5, 6, 7], [0, 1, 2, 3, 4, 5, 6, 7, 8], [0, 1, 2, 3, 4, 5, 6, 7, 8, 9], [0, 1, 2, 3, 4, 5, 6, 7, 8, 9, 10], [0, 1, 2, 3, 4, 5, 6, 7, 8, 9, 10, 11], [0, 1, 2, 3, 4, 5, 6, 7, 8, 9, 10, 11, 12], [0, 1, 2, 3, 4, 5, 6, 7, 8, 9, 10, 11, 12, 13], [0, 1, 2, 3, 4, 5, 6, 7, 8, 9, 10, 11, 12, 13, 14], [0, 1, 2, 3, 4, 5, 6, 7, 8, 9, 10, 11, 12, 13, 14, 15], [0, 1, 2, 3, 4, 5, 6, 7, 8, 9, 10, 11, 12, 13, 14, 15, 16], [0, 1, 2, 3, 4, 5, 6, 7, 8, 9, 10, 11, 12, 13, 14, 15, 16, 17], [0, 1, 2, 3, 4, 5, 6, 7, 8, 9, 10, 11, 12, 13, 14, 15, 16, 17, 18], [0, 1, 2, 3, 4, 5, 6, 7, 8, 9, 10, 11, 12, 13, 14, 15, 16, 17, 18, 19], [0, 1, 2, 3, 4, 5, 6, 7, 8, 9, 10, 11, 12, 13, 14, 15, 16, 17, 18, 19, 20], [0, 1, 2, 3, 4, 5, 6, 7, 8, 9, 10, 11, 12, 13, 14, 15, 16, 17, 18, 19, 20, 21], [0, 1, 2, 3, 4, 5, 6, 7, 8, 9, 10, 11, 12, 13, 14, 15, 16, 17, 18, 19, 20, 21, 22], [0, 1, 2, 3, 4, 5, 6, 7, 8, 9, 10, 11, 12, 13, 14, 15, 16, 17, 18, 19, 20, 21, 22, 23], [0, 1, 2, 3, 4, 5, 6, 7, 8, 9, 10, 11, 12, 13, 14, 15, 16, 17, 18, 19, 20, 21, 22, 23, 24], [0, 1, 2, 3, 4, 5, 6, 7, 8, 9, 10, 11, 12, 13, 14, 15, 16, 17, 18, 19, 20, 21, 22, 23, 24, 25], [0, 1, 2, 3, 4, 5, 6, 7, 8, 9, 10, 11, 12, 13, 14, 15, 16, 17, 18, 19, 20, 21, 22, 23, 24, 25, 26], [0, 1, 2, 3, 4, 5, 6, 7, 8, 9, 10, 11, 12, 13, 14, 15, 16, 17, 18, 19, 20, 21, 22, 23, 24, 25, 26, 27], [0, 1, 2, 3, 4, 5, 6, 7, 8, 9, 10, 11, 12, 13, 14, 15, 16, 17, 18, 19, 20, 21, 22, 23, 24, 25, 26, 27, 28], [0, 1, 2, 3, 4, 5, 6, 7, 8, 9, 10, 11, 12, 13, 14, 15, 16, 17, 18, 19, 20, 21, 22, 23, 24, 25, 26, 27, 28, 29]] [] (fun c => List.getD [[.row 54 [.d (D.i .u8 x84.kind), .d (D.s x84.name), .d (D.i .i64 x84.parent), .d (D.i .i64 x84.first), .d (.sl (List.map E9 x84.lits)), .d (D.i .i64 x84.index), .d (D.i .i64 x84.elem), .d (D.i .i64 x84.disc), .d (D.s x84.discName), .d (D.b x84.has), .d (D.i .i64 x84.default_), .d (.sl (List.map E56 x84.comps)), .d (D.i .i64 x84.target), .d (D.i .u8 x84.formal), .d (D.b x84.limited), .d (D.i .i64 x84.priv), .d (D.i .i64 x84.full), .d (D.i .i64 x84.level)]]] c []) [([], [5], [0]), ([0], [], [0]), ([1], [], [0]), ([2], [], [0]), ([3], [5], [0]), ([3], [5], [0]), ([5, 3], [], [0]), ([4, 6, 3], [], [0]), ([7, 3], [], [0]), ([3, 8], [], [0]), ([9], [], [0]), ([10], [5], [0]), ([11, 10], [], [0]), ([12, 10], [], [0]), ([13, 10], [], [0]), ([10, 14], [], [0]), ([15], [], [0]), ([16], [5], [0]), ([17, 16], [], [0]), ([18, 16], [], [0]), ([16, 19], [], [0]), ([20], [], [0]), ([21], [5], [0]), ([22, 21], [], [0]), ([23, 21], [], [0]), ([21, 24], [], [0]), ([25], [], [0]), ([26], [5], [0]), ([27, 26], [], [0]), ([28, 26], [], [0]), ([26, 29], [], [0])] (by kernel_rfl) (by kernel_rfl) rfl rfl rfl
       ·refine ⟨?_, ?_, ?_, ?_, ?_, ?_, ?_, ?_, ?_, ?_, ?_, ?_, ?_, ?_, ?_, ?_, ?_, ?_, ?_, ?_, ?_, ?_, ?_, ?_, ?_, ?_, ?_, ?_, ?_, ?_, ?_, trivial⟩
        ·refine ⟨fun F => ?_, trivial⟩
         refine WL.qn (y_fieldAddr f54_0 rfl) rfl ?_
         exact WL.done1 rfl rfl rfl
        ·refine ⟨fun F => ?_, trivial⟩
         refine WL.qn (y_load rfl rfl a49 rfl) rfl ?_
         exact WL.done1 rfl rfl rfl
        ·refine ⟨fun F => ?_, trivial⟩
         refine WL.qn (y_eql rfl rfl) rfl ?_
         exact WL.done1 rfl rfl rfl
        ·refine ⟨fun F => ?_, trivial⟩
         refine WL.mv rfl rfl ?_
         refine WL.cast 14 rfl (Le.ofd (by rw [hb6])) ?_
         exact WL.done2 rfl rfl rfl
        ·refine ⟨fun F => ?_, trivial⟩
         refine WL.qy (y_loadN rfl rfl a54 s54 rfl) rfl rfl rfl ?_
         exact WL.done1 rfl rfl rfl
        ·refine ⟨fun F => ?_, trivial⟩
         refine WL.qy (y_loadN rfl rfl a54 s54 rfl) rfl rfl rfl ?_
         exact WL.done1 rfl rfl rfl
        ·refine ⟨fun F => ?_, trivial⟩
         refine WL.fn rfl rfl rfl rfl (f74_c _) ⟨(Le.agd ⟨(Le.refl _), (Le.refl _), (Le.refl _), (Le.refl _), (Le.refl _), (Le.refl _), (Le.refl _), (Le.refl _), (Le.refl _), (Le.refl _), (Le.refl _), (Le.refl _), (Le.refl _), (Le.refl _), (Le.refl _), (Le.refl _), (Le.refl _), (Le.refl _), trivial⟩), trivial⟩ (Wt.yes rfl rfl rfl) rfl rfl ?_
         exact WL.done1 rfl rfl rfl
        ·refine ⟨fun F => ?_, trivial⟩
         refine WL.fn rfl rfl rfl rfl (f53_c _ _ hr87) ⟨(Le.agd ⟨(Le.refl _), (Le.refl _), (Le.refl _), (Le.refl _), (Le.refl _), (Le.refl _), (Le.refl _), (Le.refl _), (Le.refl _), (Le.refl _), (Le.refl _), (Le.refl _), (Le.refl _), (Le.refl _), (Le.refl _), (Le.refl _), (Le.refl _), (Le.refl _), trivial⟩), (Le.refl _), trivial⟩ (Wt.yes rfl rfl rfl) rfl rfl ?_
         exact WL.done1 rfl rfl rfl
        ·refine ⟨fun F => ?_, trivial⟩
         refine WL.qy (y_not rfl) rfl rfl rfl ?_
         exact WL.done1 rfl rfl rfl
        ·refine ⟨fun F => ?_, trivial⟩
         refine WL.qn (y_pick_f rfl rfl) rfl ?_
         exact WL.done1 rfl rfl rfl
        ·refine ⟨fun F => ?_, trivial⟩
         refine WL.mv rfl rfl ?_
         refine WL.cast 21 rfl (Le.ofd (by rw [hb7])) ?_
         exact WL.done2 rfl rfl rfl
        ·refine ⟨fun F => ?_, trivial⟩
         refine WL.qy (y_fieldAddr f54_1 rfl) rfl rfl rfl ?_
         exact WL.done1 rfl rfl rfl
        ·refine ⟨fun F => ?_, trivial⟩
         refine WL.qy (y_load rfl rfl a9 rfl) rfl rfl rfl ?_
         exact WL.done1 rfl rfl rfl
        ·refine ⟨fun F => ?_, trivial⟩
         refine WL.fn rfl rfl rfl rfl (f75_c _ hr88) ⟨(Le.refl _), trivial⟩ (Wt.yes rfl rfl rfl) rfl rfl ?_
         exact WL.done1 rfl rfl rfl
        ·refine ⟨fun F => ?_, trivial⟩
         refine WL.qy (y_not rfl) rfl rfl rfl ?_
         exact WL.done1 rfl rfl rfl
        ·refine ⟨fun F => ?_, trivial⟩
         refine WL.qn (y_pick_f rfl rfl) rfl ?_
         exact WL.done1 rfl rfl rfl
        ·refine ⟨fun F => ?_, trivial⟩
         refine WL.mv rfl rfl ?_
         refine WL.cast 27 rfl (Le.ofd (by rw [hb8])) ?_
         exact WL.done2 rfl rfl rfl
        ·refine ⟨fun F => ?_, trivial⟩
         refine WL.qy (y_fieldAddr f54_17 rfl) rfl rfl rfl ?_
         exact WL.done1 rfl rfl rfl
        ·refine ⟨fun F => ?_, trivial⟩
         refine WL.qy (y_load rfl rfl a3 rfl) rfl rfl rfl ?_
         exact WL.done1 rfl rfl rfl
        ·refine ⟨fun F => ?_, trivial⟩
         refine WL.qy (y_lss rfl rfl) rfl rfl rfl ?_
         exact WL.done1 rfl rfl rfl
        ·refine ⟨fun F => ?_, trivial⟩
         refine WL.qn (y_pick_f rfl rfl) rfl ?_
         exact WL.done1 rfl rfl rfl
        ·refine ⟨fun F => ?_, trivial⟩
         refine WL.mv rfl rfl ?_
         refine WL.cast 32 rfl (Le.ofd (by rw [hb9])) ?_
         exact WL.done2 rfl rfl rfl
        ·refine ⟨fun F => ?_, trivial⟩
         refine WL.qy (y_fieldAddr f54_15 rfl) rfl rfl rfl ?_
         exact WL.done1 rfl rfl rfl
        ·refine ⟨fun F => ?_, trivial⟩
         refine WL.qy (y_load rfl rfl a3 rfl) rfl rfl rfl ?_
         exact WL.done1 rfl rfl rfl
        ·refine ⟨fun F => ?_, trivial⟩
         refine WL.qy (y_lss rfl rfl) rfl rfl rfl ?_
         exact WL.done1 rfl rfl rfl
        ·refine ⟨fun F => ?_, trivial⟩
         refine WL.qn (y_pick_f rfl rfl) rfl ?_
         exact WL.done1 rfl rfl rfl
        ·refine ⟨fun F => ?_, trivial⟩
         refine WL.mv rfl rfl ?_
         refine WL.cast 37 rfl (Le.ofd (by rw [hb10])) ?_
         exact WL.done2 rfl rfl rfl
        ·refine ⟨fun F => ?_, trivial⟩
         refine WL.qy (y_fieldAddr f54_16 rfl) rfl rfl rfl ?_
         exact WL.done1 rfl rfl rfl
        ·refine ⟨fun F => ?_, trivial⟩
         refine WL.qy (y_load rfl rfl a3 rfl) rfl rfl rfl ?_
         exact WL.done1 rfl rfl rfl
        ·refine ⟨fun F => ?_, trivial⟩
         refine WL.qy (y_lss rfl rfl) rfl rfl rfl ?_
         exact WL.done1 rfl rfl rfl
        ·refine ⟨fun F => ?_, trivial⟩
         refine WL.qn (y_pick_f rfl rfl) rfl ?_
         exact WL.done1 rfl rfl rfl
       ·exact we_lp ⟨(decide (x84.full < 0)), h, (Sub.cons rfl (Le.refl _) (Sub.cons rfl (Le.refl _) (Sub.cons rfl (Le.refl _) (Sub.cons rfl (Le.refl _) (Sub.nil _))))), ⟨⟨rfl, ⟨(Le.refl _), (Le.refl _), (Le.refl _), (Le.refl _), (Le.refl _), (Le.refl _), (Le.refl _), (Le.refl _), (Le.refl _), (Le.refl _), (Le.refl _), (Le.refl _), (Le.refl _), (Le.refl _), (Le.refl _), (Le.refl _), (Le.refl _), (Le.refl _), trivial⟩⟩, trivial⟩⟩
 ·rintro env1 st1 ⟨t85, h, hsub, hst⟩
  subst hk86
  dsimp only at h
  refine WC.sub hsub (WC.weak hst ?_)
  refine wc_cond rfl (fun hc1 => ?_) (fun hc1 => ?_)
  ·replace h := condT h hc1
   refine wc_sr ?_
   refine WL.as rfl rfl ?_
   refine WL.ns ?_
   refine wc_ret ?_
   refine we_seq_ret ?_
   obtain rfl := Option.some.inj h
   exact we_ret_fn (rs1 rfl (rv_t rfl)) (Le.refl _)
  ·replace h := condF h hc1
   refine wc_skip ?_
   refine we_seq ?_
   refine wc_seq ?_
   refine wc_sr ?_
   refine WL.qn (y_fieldAddr f54_15 rfl) rfl ?_
   refine WL.qn (y_load rfl rfl a3 rfl) rfl ?_
   refine WL.qn (y_eql rfl rfl) rfl ?_
   refine WL.mv rfl rfl ?_
   apply WL.and 13 (t := 45) (d := 58)
   ·exact rfl
   ·intro hg45
    refine WL.qy (y_fieldAddr f54_16 rfl) rfl rfl rfl ?_
    refine WL.qy (y_load rfl rfl a3 rfl) rfl rfl rfl ?_
    refine WL.qy (y_neq rfl rfl) rfl rfl rfl ?_
    refine WL.qy (y_move rfl) rfl rfl rfl ?_
    apply WL.or 8 (t := 49) (d := 57)
    ·exact rfl
    ·intro hg49
     refine WL.qy (y_fieldAddr f54_14 rfl) rfl rfl rfl ?_
     refine WL.qy (y_load rfl rfl a4 rfl) rfl rfl rfl ?_
     refine WL.qy (y_move rfl) rfl rfl rfl ?_
     apply WL.and 4 (t := 52) (d := 56)
     ·exact rfl
     ·intro hg52
      refine WL.qy (y_fieldAddr f54_0 rfl) rfl rfl rfl ?_
      refine WL.qy (y_load rfl rfl a49 rfl) rfl rfl rfl ?_
      refine WL.qy (y_neq rfl rfl) rfl rfl rfl ?_
      refine WL.qy (y_pick_t rfl rfl) rfl rfl rfl ?_
      exact WL.nil ⟨rfl, [_, _, _, _], rfl, rfl, rfl⟩
     ·refine WL.skips 3 rfl ?_
      refine WL.qy (y_pick_f rfl rfl) rfl rfl rfl ?_
      exact WL.nil ⟨rfl, [_, _, _, _], rfl, rfl, rfl⟩
     refine WL.qy (y_pick_f rfl rfl) rfl rfl rfl ?_
     exact WL.nil ⟨rfl, [_, _, _, _, _], rfl, rfl, rfl⟩
    ·refine WL.skips 7 rfl ?_
     refine WL.qy (y_pick_t rfl rfl) rfl rfl rfl ?_
     exact WL.nil ⟨rfl, [_, _, _, _, _, _, _, _], rfl, rfl, rfl⟩
    refine WL.qn (y_pick_t rfl rfl) rfl ?_
    exact WL.nil ⟨rfl, [_, _, _, _, _, _], rfl, rfl, rfl⟩
   ·refine WL.skips 12 rfl ?_
    refine WL.qn (y_pick_f rfl rfl) rfl ?_
    exact WL.nil ⟨rfl, [_, _, _, _, _, _, _, _, _, _, _, _, _], rfl, rfl, rfl⟩
   refine WL.ns ?_
   refine wc_cond rfl (fun hc2 => ?_) (fun hc2 => ?_)
   ·replace h := condT h hc2
    refine wc_sr ?_
    refine WL.as rfl rfl ?_
    refine WL.ns ?_
    refine wc_ret ?_
    refine we_seq_ret ?_
    obtain rfl := Option.some.inj h
    exact we_ret_fn (rs1 rfl (rv_t rfl)) (Le.refl _)
   ·replace h := condF h hc2
    refine wc_skip ?_
    refine we_seq ?_
    refine wc_sr ?_
    refine WL.qn (y_fieldAddr f54_3 rfl) rfl ?_
    refine WL.qn (y_load rfl rfl a3 rfl) rfl ?_
    refine WL.qn (y_fieldAddrc f28_1 rfl) rfl ?_
    refine WL.qn (y_loadc rfl a23 rfl) rfl ?_
    refine WL.qn (y_len_map E40 t0.subs e23 rfl rfl (Le.refl _)) rfl ?_
    refine WL.fn rfl rfl rfl rfl (f51_c _ _) ⟨(Le.refl _), (Le.refl _), trivial⟩ (Wt.none rfl) rfl rfl ?_
    refine WL.mv rfl rfl ?_
    obtain ⟨b89, hb89, h⟩ := bindS h
    apply WL.grp 10 (t := 65) (d := 75) (z := b89)
    ·exact rfl
    ·intro hg65
     have h := condT hb89 hg65
     refine WL.qy (y_fieldAddrc f28_1 rfl) rfl rfl rfl ?_
     refine WL.qy (y_loadc rfl a23 rfl) rfl rfl rfl ?_
     refine WL.qy (y_fieldAddr f54_3 rfl) rfl rfl rfl ?_
     refine WL.qy (y_load rfl rfl a3 rfl) rfl rfl rfl ?_
     obtain ⟨x90, hx90, h⟩ := bindS h
     refine WL.qy (y_indexAddr e23 rfl (Le.refl _) rfl (idx_nonneg hx90) (idx_row E40_eq hx90) rfl) rfl rfl rfl ?_
     refine WL.qy (y_fieldAddrc f40_0 rfl) rfl rfl rfl ?_
     refine WL.qy (y_loadc rfl a3 rfl) rfl rfl rfl ?_
     refine WL.qy (y_move rfl) rfl rfl rfl ?_
     refine WL.qy (y_eql rfl rfl) rfl rfl rfl ?_
     refine WL.qn (y_pick_t rfl rfl) rfl ?_
     obtain rfl := Option.some.inj h
     exact WL.nil ⟨rfl, [_, _, _, _, _, _, _, _, _, _], rfl, rfl, rfl⟩
    ·intro hg65
     have h := condF hb89 hg65
     refine WL.skips 9 rfl ?_
     refine WL.qn (y_pick_f rfl rfl) rfl ?_
     obtain rfl := Option.some.inj h
     exact WL.nil ⟨rfl, [_, _, _, _, _, _, _, _, _, _], rfl, rfl, rfl⟩
    refine WL.mv rfl rfl ?_
    obtain ⟨b91, hb91, h⟩ := bindS h
    apply WL.grp 4 (t := 76) (d := 80) (z := b91)
    ·exact rfl
    ·intro hg76
     have h := condT hb91 hg76
     refine WL.qy (y_loadcN rfl a28 s28 rfl) rfl rfl rfl ?_
     refine WL.qy (y_move rfl) rfl rfl rfl ?_
     obtain ⟨r92, hr92, h⟩ := bindS h
     refine WL.fn rfl rfl rfl rfl (f76_c _ _ hr92) ⟨(Le.refl _), (Le.refl _), trivial⟩ (Wt.yes rfl rfl rfl) rfl rfl ?_
     refine WL.qn (y_pick_t rfl rfl) rfl ?_
     obtain rfl := Option.some.inj h
     exact WL.nil ⟨rfl, [_, _, _, _], rfl, rfl, rfl⟩
    ·intro hg76
     have h := condF hb91 hg76
     refine WL.skips 3 rfl ?_
     refine WL.qn (y_pick_f rfl rfl) rfl ?_
     obtain rfl := Option.some.inj h
     exact WL.nil ⟨rfl, [_, _, _, _], rfl, rfl, rfl⟩
    refine WL.as rfl rfl ?_
    refine WL.ns ?_
    refine wc_ret ?_
    obtain rfl := Option.some.inj h
    exact we_ret_fn (rs1 rfl (rv_t rfl)) (Le.refl _)

theorem f24_c (t0 : Table) {r : Bool} (h : f24 t0 = some r) : Pu Tryd.prog 24 [.ag (R28 t0)] (.b r) := by
 unfold f24 at h
 refine fn_intro Tryd.func24 (by kernel_rfl) rfl rfl rfl (fun φφ ww => ?_)
 refine wc_sr ?_
 refine WL.s ((b_boxd rfl rfl (Les.refl _)).does) (Wt.none rfl) rfl rfl ?_
 refine WL.as rfl rfl ?_
 refine WL.ns ?_
 refine wc_seq ?_
 replace h := letkS h
 obtain ⟨k55, hk55, h⟩ := h
 refine wc_cut (fun env' st' => ∃ (t54 : Bool), k55 t54 = some r ∧ Sub [(1, .d (.pc (R28 t0))), (29, .d (D.b t54))] env' ∧ SLe st' []) ?_ ?_
 ·rcases boolCases (decide ((List.length t0.types : Int) < 1)) with hb4 | hb4
  ·replace h := condT h hb4
   apply wc_region_all [_, _, _, _, _, _, _, _, _, _, _, _, _, _, _, _, _, _, _, _, _, _, _, _, _] [[], [0], [0, 1], [0, 1, 2], [0, 1, 2, 3], [0, 1, 2, 3, 4], [0, 1, 2, 3, 4, 5], [0, 1, 2, 3, 4, 5, 6], [0, 1, 2, 3, 4, 5, 6, 7], [0, 1, 2, 3, 4, 5, 6, 7, 8], [0, 1, 2, 3, 4, 5, 6, 7, 8, 9], [0, 1, 2, 3, 4, 5, 6, 7, 8, 9, 10], [0, 1, 2, 3, 4, 5, 6, 7, 8, 9, 10, 11], [0, 1, 2, 3, 4, 5, 6, 7, 8, 9, 10, 11, 12], [0, 1, 2, 3, 4, 5, 6, 7, 8, 9, 10, 11, 12, 13], [0, 1, 2, 3, 4, 5, 6, 7, 8, 9, 10, 11, 12, 13, 14], [0, 1, 2, 3, 4, 5, 6, 7, 8, 9, 10, 11, 12, 13, 14, 15], [0, 1, 2, 3, 4, 5, 6, 7, 8, 9, 10, 11, 12, 13, 14, 15, 16], [0, 1, 2, 3, 4, 5, 6, 7, 8, 9, 10, 11, 12, 13, 14, 15, 16, 17], [0, 1, 2, 3, 4, 5, 6, 7, 8, 9, 10, 11, 12, 13, 14, 15, 16, 17, 18], [0, 1, 2, 3, 4, 5, 6, 7, 8, 9, 10, 11, 12, 13, 14, 15, 16, 17, 18, 19], [0, 1, 2, 3, 4, 5, 6, 7, 8, 9, 10, 11, 12, 13, 14, 15, 16], [0, 1, 2, 3, 4, 5, 6, 7, 8, 9, 10, 11, 12, 13, 14, 15, 16, 17, 18, 19, 20, 21], [0, 1, 2, 3, 4, 5, 6, 7, 8, 9, 10, 11, 12, 13, 14, 15, 16, 17, 18, 19, 20, 21, 22], [0, 1, 2, 3, 4, 5, 6, 7, 8, 9, 10, 11, 12, 13, 14, 15, 16, 17, 18, 19, 20, 21, 22, 23]] [] (fun c => List.getD [[]] c []) [([], [1], [0]), ([0], [], [0]), ([1], [], [0]), ([2], [], [0]), ([3], [], [0]), ([4], [], [0]), ([4], [], [0]), ([4], [], [0]), ([4], [], [0]), ([4, 8], [], [0]), ([9], [], [0]), ([10], [], [0]), ([10], [], [0]), ([10], [], [0]), ([10], [], [0]), ([10, 14], [], [0]), ([15], [], [0]), ([16], [], [0]), ([16], [], [0]), ([16], [], [0]), ([16], [], [0]), ([16], [], [0]), ([16], [], [0]), ([16], [], [0]), ([16, 23], [], [0])] (by kernel_rfl) (by kernel_rfl) rfl rfl rfl
   ·refine ⟨?_, ?_, ?_, ?_, ?_, ?_, ?_, ?_, ?_, ?_, ?_, ?_, ?_, ?_, ?_, ?_, ?_, ?_, ?_, ?_, ?_, ?_, ?_, ?_, ?_, trivial⟩
    ·refine ⟨fun F => ?_, trivial⟩
     refine WL.qn (y_fieldAddrc f28_0 rfl) rfl ?_
     exact WL.done1 rfl rfl rfl
    ·refine ⟨fun F => ?_, trivial⟩
     refine WL.qn (y_loadc rfl a22 rfl) rfl ?_
     exact WL.done1 rfl rfl rfl
    ·refine ⟨fun F => ?_, trivial⟩
     refine WL.qn (y_len_map E54 t0.types e22 rfl rfl (Le.refl _)) rfl ?_
     exact WL.done1 rfl rfl rfl
    ·refine ⟨fun F => ?_, trivial⟩
     refine WL.qn (y_lss rfl rfl) rfl ?_
     exact WL.done1 rfl rfl rfl
    ·refine ⟨fun F => ?_, trivial⟩
     refine WL.mv rfl rfl ?_
     refine WL.cast 9 rfl (Le.ofd (by rw [hb4])) ?_
     exact WL.done2 rfl rfl rfl
    ·refine ⟨fun F => ?_, trivial⟩
     refine WL.skips 1 rfl ?_
     exact WL.done1 rfl rfl rfl
    ·refine ⟨fun F => ?_, trivial⟩
     refine WL.skips 1 rfl ?_
     exact WL.done1 rfl rfl rfl
    ·refine ⟨fun F => ?_, trivial⟩
     refine WL.skips 1 rfl ?_
     exact WL.done1 rfl rfl rfl
    ·refine ⟨fun F => ?_, trivial⟩
     refine WL.skips 1 rfl ?_
     exact WL.done1 rfl rfl rfl
    ·refine ⟨fun F => ?_, trivial⟩
     refine WL.qn (y_pick_t rfl rfl) rfl ?_
     exact WL.done1 rfl rfl rfl
    ·refine ⟨fun F => ?_, trivial⟩
     refine WL.mv rfl rfl ?_
     exact WL.done1 rfl rfl rfl
    ·refine ⟨fun F => ?_, trivial⟩
     refine WL.skips 1 rfl ?_
     exact WL.done1 rfl rfl rfl
    ·refine ⟨fun F => ?_, trivial⟩
     refine WL.skips 1 rfl ?_
     exact WL.done1 rfl rfl rfl
    ·refine ⟨fun F => ?_, trivial⟩
     refine WL.skips 1 rfl ?_
     exact WL.done1 rfl rfl rfl
    ·refine ⟨fun F => ?_, trivial⟩
     refine WL.skips 1 rfl ?_
     exact WL.done1 rfl rfl rfl
    ·refine ⟨fun F => ?_, trivial⟩
     refine WL.qn (y_pick_t rfl rfl) rfl ?_
     exact WL.done1 rfl rfl rfl
    ·refine ⟨fun F => ?_, trivial⟩
     refine WL.mv rfl rfl ?_
     exact WL.done1 rfl rfl rfl
    ·refine ⟨fun F => ?_, trivial⟩
     refine WL.skips 1 rfl ?_
     exact WL.done1 rfl rfl rfl
    ·refine ⟨fun F => ?_, trivial⟩
     refine WL.skips 1 rfl ?_
     exact WL.done1 rfl rfl rfl
    ·refine ⟨fun F => ?_, trivial⟩
     refine WL.skips 1 rfl ?_
     exact WL.done1 rfl rfl rfl
    ·refine ⟨fun F => ?_, trivial⟩
     refine WL.skips 1 rfl ?_
     exact WL.done1 rfl rfl rfl
    ·refine ⟨fun F => ?_, trivial⟩
     refine WL.skips 1 rfl ?_
     exact WL.done1 rfl rfl rfl
    ·refine ⟨fun F => ?_, trivial⟩
     refine WL.skips 1 rfl ?_
     exact WL.done1 rfl rfl rfl
    ·refine ⟨fun F => ?_, trivial⟩
     refine WL.skips 1 rfl ?_
     exact WL.done1 rfl rfl rfl
    ·refine ⟨fun F => ?_, trivial⟩
     refine WL.qn (y_pick_t rfl rfl) rfl ?_
     exact WL.done1 rfl rfl rfl
   ·exact we_lp ⟨true, h, (Sub.cons rfl (Le.refl _) (Sub.cons rfl (Le.refl _) (Sub.nil _))), trivial⟩
  ·replace h := condF h hb4
   rcases boolCases (decide ((List.length t0.types : Int) > 256)) with hb5 | hb5
   ·replace h := condT h hb5
    apply wc_region_all [_, _, _, _, _, _, _, _, _, _, _, _, _, _, _, _, _, _, _, _, _, _, _, _, _] [[], [0], [0, 1], [0, 1, 2], [0, 1, 2, 3], [0, 1, 2, 3, 4], [0, 1, 2, 3, 4, 5], [0, 1, 2, 3, 4, 5, 6], [0, 1, 2, 3, 4, 5, 6, 7], [0, 1, 2, 3, 4, 5, 6, 7, 8], [0, 1, 2, 3, 4, 5, 6, 7, 8, 9], [0, 1, 2, 3, 4, 5, 6, 7, 8, 9, 10], [0, 1, 2, 3, 4, 5, 6, 7, 8, 9, 10, 11], [0, 1, 2, 3, 4, 5, 6, 7, 8, 9, 10, 11, 12], [0, 1, 2, 3, 4, 5, 6, 7, 8, 9, 10, 11, 12, 13], [0, 1, 2, 3, 4, 5, 6, 7, 8, 9, 10, 11, 12, 13, 14], [0, 1, 2, 3, 4, 5, 6, 7, 8, 9, 10, 11, 12, 13, 14, 15], [0, 1, 2, 3, 4, 5, 6, 7, 8, 9, 10, 11, 12, 13, 14, 15, 16], [0, 1, 2, 3, 4, 5, 6, 7, 8, 9, 10, 11, 12, 13, 14, 15, 16, 17], [0, 1, 2, 3, 4, 5, 6, 7, 8, 9, 10, 11, 12, 13, 14, 15, 16, 17, 18], [0, 1, 2, 3, 4, 5, 6, 7, 8, 9, 10, 11, 12, 13, 14, 15, 16, 17, 18, 19], [0, 1, 2, 3, 4, 5, 6, 7, 8, 9, 10, 11, 12, 13, 14, 15, 16], [0, 1, 2, 3, 4, 5, 6, 7, 8, 9, 10, 11, 12, 13, 14, 15, 16, 17, 18, 19, 20, 21], [0, 1, 2, 3, 4, 5, 6, 7, 8, 9, 10, 11, 12, 13, 14, 15, 16, 17, 18, 19, 20, 21, 22], [0, 1, 2, 3, 4, 5, 6, 7, 8, 9, 10, 11, 12, 13, 14, 15, 16, 17, 18, 19, 20, 21, 22, 23]] [] (fun c => List.getD [[]] c []) [([], [1], [0]), ([0], [], [0]), ([1], [], [0]), ([2], [], [0]), ([3], [], [0]), ([4], [1], [0]), ([5, 4], [], [0]), ([6, 4], [], [0]), ([7, 4], [], [0]), ([4, 8], [], [0]), ([9], [], [0]), ([10], [], [0]), ([10], [], [0]), ([10], [], [0]), ([10], [], [0]), ([10, 14], [], [0]), ([15], [], [0]), ([16], [], [0]), ([16], [], [0]), ([16], [], [0]), ([16], [], [0]), ([16], [], [0]), ([16], [], [0]), ([16], [], [0]), ([16, 23], [], [0])] (by kernel_rfl) (by kernel_rfl) rfl rfl rfl
    ·refine ⟨?_, ?_, ?_, ?_, ?_, ?_, ?_, ?_, ?_, ?_, ?_, ?_, ?_, ?_, ?_, ?_, ?_, ?_, ?_, ?_, ?_, ?_, ?_, ?_, ?_, trivial⟩
     ·refine ⟨fun F => ?_, trivial⟩
      refine WL.qn (y_fieldAddrc f28_0 rfl) rfl ?_
      exact WL.done1 rfl rfl rfl
     ·refine ⟨fun F => ?_, trivial⟩
      refine WL.qn (y_loadc rfl a22 rfl) rfl ?_
      exact WL.done1 rfl rfl rfl
     ·refine ⟨fun F => ?_, trivial⟩
      refine WL.qn (y_len_map E54 t0.types e22 rfl rfl (Le.refl _)) rfl ?_
      exact WL.done1 rfl rfl rfl
     ·refine ⟨fun F => ?_, trivial⟩
      refine WL.qn (y_lss rfl rfl) rfl ?_
      exact WL.done1 rfl rfl rfl
     ·refine ⟨fun F => ?_, trivial⟩
      refine WL.mv rfl rfl ?_
      refine WL.cast 9 rfl (Le.ofd (by rw [hb4])) ?_
      exact WL.done2 rfl rfl rfl
     ·refine ⟨fun F => ?_, trivial⟩
      refine WL.qy (y_fieldAddrc f28_0 rfl) rfl rfl rfl ?_
      exact WL.done1 rfl rfl rfl
     ·refine ⟨fun F => ?_, trivial⟩
      refine WL.qy (y_loadc rfl a22 rfl) rfl rfl rfl ?_
      exact WL.done1 rfl rfl rfl
     ·refine ⟨fun F => ?_, trivial⟩
      refine WL.qy (y_len_map E54 t0.types e22 rfl rfl (Le.refl _)) rfl rfl rfl ?_
      exact WL.done1 rfl rfl rfl
     ·refine ⟨fun F => ?_, trivial⟩
      refine WL.qy (y_gtr rfl rfl) rfl rfl rfl ?_
      exact WL.done1 rfl rfl rfl
     ·refine ⟨fun F => ?_, trivial⟩
      refine WL.qn (y_pick_f rfl rfl) rfl ?_
      exact WL.done1 rfl rfl rfl
     ·refine ⟨fun F => ?_, trivial⟩
      refine WL.mv rfl rfl ?_
      refine WL.cast 15 rfl (Le.ofd (by rw [hb5])) ?_
      exact WL.done2 rfl rfl rfl
     ·refine ⟨fun F => ?_, trivial⟩
      refine WL.skips 1 rfl ?_
      exact WL.done1 rfl rfl rfl
     ·refine ⟨fun F => ?_, trivial⟩
      refine WL.skips 1 rfl ?_
      exact WL.done1 rfl rfl rfl
     ·refine ⟨fun F => ?_, trivial⟩
      refine WL.skips 1 rfl ?_
      exact WL.done1 rfl rfl rfl
     ·refine ⟨fun F => ?_, trivial⟩
      refine WL.skips 1 rfl ?_
      exact WL.done1 rfl rfl rfl
     ·refine ⟨fun F => ?_, trivial⟩
      refine WL.qn (y_pick_t rfl rfl) rfl ?_
      exact WL.done1 rfl rfl rfl
     ·refine ⟨fun F => ?_, trivial⟩
      refine WL.mv rfl rfl ?_
      exact WL.done1 rfl rfl rfl
     ·refine ⟨fun F => ?_, trivial⟩
      refine WL.skips 1 rfl ?_
      exact WL.done1 rfl rfl rfl
     ·refine ⟨fun F => ?_, trivial⟩
      refine WL.skips 1 rfl ?_
      exact WL.done1 rfl rfl rfl
     ·refine ⟨fun F => ?_, trivial⟩
      refine WL.skips 1 rfl ?_
      exact WL.done1 rfl rfl rfl
     ·refine ⟨fun F => ?_, trivial⟩
      refine WL.skips 1 rfl ?_
      exact WL.done1 rfl rfl rfl
     ·refine ⟨fun F => ?_, trivial⟩
      refine WL.skips 1 rfl ?_
      exact WL.done1 rfl rfl rfl
     ·refine ⟨fun F => ?_, trivial⟩
      refine WL.skips 1 rfl ?_
      exact WL.done1 rfl rfl rfl
     ·refine ⟨fun F => ?_, trivial⟩
      refine WL.skips 1 rfl ?_
      exact WL.done1 rfl rfl rfl
     ·refine ⟨fun F => ?_, trivial⟩
      refine WL.qn (y_pick_t rfl rfl) rfl ?_
      exact WL.done1 rfl rfl rfl
    ·exact we_lp ⟨true, h, (Sub.cons rfl (Le.refl _) (Sub.cons rfl (Le.refl _) (Sub.nil _))), trivial⟩
   ·replace h := condF h hb5
    rcases boolCases (decide ((List.length t0.subs : Int) > 512)) with hb6 | hb6
    ·replace h := condT h hb6
     apply wc_region_all [_, _, _, _, _, _, _, _, _, _, _, _, _, _, _, _, _, _, _, _, _, _, _, _, _] [[], [0], [0, 1], [0, 1, 2], [0, 1, 2, 3], [0, 1, 2, 3, 4], [0, 1, 2, 3, 4, 5], [0, 1, 2, 3, 4, 5, 6], [0, 1, 2, 3, 4, 5, 6, 7], [0, 1, 2, 3, 4, 5, 6, 7, 8], [0, 1, 2, 3, 4, 5, 6, 7, 8, 9], [0, 1, 2, 3, 4, 5, 6, 7, 8, 9, 10], [0, 1, 2, 3, 4, 5, 6, 7, 8, 9, 10, 11], [0, 1, 2, 3, 4, 5, 6, 7, 8, 9, 10, 11, 12], [0, 1, 2, 3, 4, 5, 6, 7, 8, 9, 10, 11, 12, 13], [0, 1, 2, 3, 4, 5, 6, 7, 8, 9, 10, 11, 12, 13, 14], [0, 1, 2, 3, 4, 5, 6, 7, 8, 9, 10, 11, 12, 13, 14, 15], [0, 1, 2, 3, 4, 5, 6, 7, 8, 9, 10, 11, 12, 13, 14, 15, 16], [0, 1, 2, 3, 4, 5, 6, 7, 8, 9, 10, 11, 12, 13, 14, 15, 16, 17], [0, 1, 2, 3, 4, 5, 6, 7, 8, 9, 10, 11, 12, 13, 14, 15, 16, 17, 18], [0, 1, 2, 3, 4, 5, 6, 7, 8, 9, 10, 11, 12, 13, 14, 15, 16, 17, 18, 19], [0, 1, 2, 3, 4, 5, 6, 7, 8, 9, 10, 11, 12, 13, 14, 15, 16], [0, 1, 2, 3, 4, 5, 6, 7, 8, 9, 10, 11, 12, 13, 14, 15, 16, 17, 18, 19, 20, 21], [0, 1, 2, 3, 4, 5, 6, 7, 8, 9, 10, 11, 12, 13, 14, 15, 16, 17, 18, 19, 20, 21, 22], [0, 1, 2, 3, 4, 5, 6, 7, 8, 9, 10, 11, 12, 13, 14, 15, 16, 17, 18, 19, 20, 21, 22, 23]] [] (fun c => List.getD [[]] c []) [([], [1], [0]), ([0], [], [0]), ([1], [], [0]), ([2], [], [0]), ([3], [], [0]), ([4], [1], [0]), ([5, 4], [], [0]), ([6, 4], [], [0]), ([7, 4], [], [0]), ([4, 8], [], [0]), ([9], [], [0]), ([10], [1], [0]), ([11, 10], [], [0]), ([12, 10], [], [0]), ([13, 10], [], [0]), ([10, 14], [], [0]), ([15], [], [0]), ([16], [], [0]), ([16], [], [0]), ([16], [], [0]), ([16], [], [0]), ([16], [], [0]), ([16], [], [0]), ([16], [], [0]), ([16, 23], [], [0])] (by kernel_rfl) (by kernel_rfl) rfl rfl rfl
     ·refine ⟨?_, ?_, ?_, ?_, ?_, ?_, ?_, ?_, ?_, ?_, ?_, ?_, ?_, ?_, ?_, ?_, ?_, ?_, ?_, ?_, ?_, ?_, ?_, ?_, ?_, trivial⟩
      ·refine ⟨fun F => ?_, trivial⟩
       refine WL.qn (y_fieldAddrc f28_0 rfl) rfl ?_
       exact WL.done1 rfl rfl rfl
      ·refine ⟨fun F => ?_, trivial⟩
       refine WL.qn (y_loadc rfl a22 rfl) rfl ?_
       exact WL.done1 rfl rfl rfl
      ·refine ⟨fun F => ?_, trivial⟩
       refine WL.qn (y_len_map E54 t0.types e22 rfl rfl (Le.refl _)) rfl ?_
       exact WL.done1 rfl rfl rfl
      ·refine ⟨fun F => ?_, trivial⟩
       refine WL.qn (y_lss rfl rfl) rfl ?_
       exact WL.done1 rfl rfl rfl
      ·refine ⟨fun F => ?_, trivial⟩
       refine WL.mv rfl rfl ?_
       refine WL.cast 9 rfl (Le.ofd (by rw [hb4])) ?_
       exact WL.done2 rfl rfl rfl
      ·refine ⟨fun F => ?_, trivial⟩
       refine WL.qy (y_fieldAddrc f28_0 rfl) rfl rfl rfl ?_
       exact WL.done1 rfl rfl rfl
      ·refine ⟨fun F => ?_, trivial⟩
       refine WL.qy (y_loadc rfl a22 rfl) rfl rfl rfl ?_
       exact WL.done1 rfl rfl rfl
      ·refine ⟨fun F => ?_, trivial⟩
       refine WL.qy (y_len_map E54 t0.types e22 rfl rfl (Le.refl _)) rfl rfl rfl ?_
       exact WL.done1 rfl rfl rfl
      ·refine ⟨fun F => ?_, trivial⟩
       refine WL.qy (y_gtr rfl rfl) rfl rfl rfl ?_
       exact WL.done1 rfl rfl rfl
      ·refine ⟨fun F => ?_, trivial⟩
       refine WL.qn (y_pick_f rfl rfl) rfl ?_
       exact WL.done1 rfl rfl rfl
      ·refine ⟨fun F => ?_, trivial⟩
       refine WL.mv rfl rfl ?_
       refine WL.cast 15 rfl (Le.ofd (by rw [hb5])) ?_
       exact WL.done2 rfl rfl rfl
      ·refine ⟨fun F => ?_, trivial⟩
       refine WL.qy (y_fieldAddrc f28_1 rfl) rfl rfl rfl ?_
       exact WL.done1 rfl rfl rfl
      ·refine ⟨fun F => ?_, trivial⟩
       refine WL.qy (y_loadc rfl a23 rfl) rfl rfl rfl ?_
       exact WL.done1 rfl rfl rfl
      ·refine ⟨fun F => ?_, trivial⟩
       refine WL.qy (y_len_map E40 t0.subs e23 rfl rfl (Le.refl _)) rfl rfl rfl ?_
       exact WL.done1 rfl rfl rfl
      ·refine ⟨fun F => ?_, trivial⟩
       refine WL.qy (y_gtr rfl rfl) rfl rfl rfl ?_
       exact WL.done1 rfl rfl rfl
      ·refine ⟨fun F => ?_, trivial⟩
       refine WL.qn (y_pick_f rfl rfl) rfl ?_
       exact WL.done1 rfl rfl rfl
      ·refine ⟨fun F => ?_, trivial⟩
       refine WL.mv rfl rfl ?_
       refine WL.cast 21 rfl (Le.ofd (by rw [hb6])) ?_
       exact WL.done2 rfl rfl rfl
      ·refine ⟨fun F => ?_, trivial⟩
       refine WL.skips 1 rfl ?_
       exact WL.done1 rfl rfl rfl
      ·refine ⟨fun F => ?_, trivial⟩
       refine WL.skips 1 rfl ?_
       exact WL.done1 rfl rfl rfl
      ·refine ⟨fun F => ?_, trivial⟩
       refine WL.skips 1 rfl ?_
       exact WL.done1 rfl rfl rfl
      ·refine ⟨fun F => ?_, trivial⟩
       refine WL.skips 1 rfl ?_
       exact WL.done1 rfl rfl rfl
      ·refine ⟨fun F => ?_, trivial⟩
       refine WL.skips 1 rfl ?_
       exact WL.done1 rfl rfl rfl
      ·refine ⟨fun F => ?_, trivial⟩
       refine WL.skips 1 rfl ?_
       exact WL.done1 rfl rfl rfl
      ·refine ⟨fun F => ?_, trivial⟩
       refine WL.skips 1 rfl ?_
       exact WL.done1 rfl rfl rfl
      ·refine ⟨fun F => ?_, trivial⟩
       refine WL.qn (y_pick_t rfl rfl) rfl ?_
       exact WL.done1 rfl rfl rfl
     ·exact we_lp ⟨true, h, (Sub.cons rfl (Le.refl _) (Sub.cons rfl (Le.refl _) (Sub.nil _))), trivial⟩
    ·replace h := condF h hb6
     obtain ⟨x56, hx56, h⟩ := bindS h
     obtain ⟨r57, hr57, h⟩ := bindS h
     apply wc_region_all [_, _, _, _, _, _, _, _, _, _, _, _, _, _, _, _, _, _, _, _, _, _, _, _, _] [[], [0], [0, 1], [0, 1, 2], [0, 1, 2, 3], [0, 1, 2, 3, 4], [0, 1, 2, 3, 4, 5], [0, 1, 2, 3, 4, 5, 6], [0, 1, 2, 3, 4, 5, 6, 7], [0, 1, 2, 3, 4, 5, 6, 7, 8], [0, 1, 2, 3, 4, 5, 6, 7, 8, 9], [0, 1, 2, 3, 4, 5, 6, 7, 8, 9, 10], [0, 1, 2, 3, 4, 5, 6, 7, 8, 9, 10, 11], [0, 1, 2, 3, 4, 5, 6, 7, 8, 9, 10, 11, 12], [0, 1, 2, 3, 4, 5, 6, 7, 8, 9, 10, 11, 12, 13], [0, 1, 2, 3, 4, 5, 6, 7, 8, 9, 10, 11, 12, 13, 14], [0, 1, 2, 3, 4, 5, 6, 7, 8, 9, 10, 11, 12, 13, 14, 15], [0, 1, 2, 3, 4, 5, 6, 7, 8, 9, 10, 11, 12, 13, 14, 15, 16], [0, 1, 2, 3, 4, 5, 6, 7, 8, 9, 10, 11, 12, 13, 14, 15, 16, 17], [0, 1, 2, 3, 4, 5, 6, 7, 8, 9, 10, 11, 12, 13, 14, 15, 16, 17, 18], [0, 1, 2, 3, 4, 5, 6, 7, 8, 9, 10, 11, 12, 13, 14, 15, 16, 17, 18, 19], [0, 1, 2, 3, 4, 5, 6, 7, 8, 9, 10, 11, 12, 13, 14, 15, 16], [0, 1, 2, 3, 4, 5, 6, 7, 8, 9, 10, 11, 12, 13, 14, 15, 16, 17, 18, 19, 20, 21], [0, 1, 2, 3, 4, 5, 6, 7, 8, 9, 10, 11, 12, 13, 14, 15, 16, 17, 18, 19, 20, 21, 22], [0, 1, 2, 3, 4, 5, 6, 7, 8, 9, 10, 11, 12, 13, 14, 15, 16, 17, 18, 19, 20, 21, 22, 23]] [] (fun c => List.getD [[]] c []) [([], [1], [0]), ([0], [], [0]), ([1], [], [0]), ([2], [], [0]), ([3], [], [0]), ([4], [1], [0]), ([5, 4], [], [0]), ([6, 4], [], [0]), ([7, 4], [], [0]), ([4, 8], [], [0]), ([9], [], [0]), ([10], [1], [0]), ([11, 10], [], [0]), ([12, 10], [], [0]), ([13, 10], [], [0]), ([10, 14], [], [0]), ([15], [], [0]), ([16], [1], [0]), ([17, 16], [], [0]), ([18, 16], [], [0]), ([19, 16], [], [0]), ([16], [], [0]), ([20, 21, 16], [], [0]), ([22, 16], [], [0]), ([16, 23], [], [0])] (by kernel_rfl) (by kernel_rfl) rfl rfl rfl
     ·refine ⟨?_, ?_, ?_, ?_, ?_, ?_, ?_, ?_, ?_, ?_, ?_, ?_, ?_, ?_, ?_, ?_, ?_, ?_, ?_, ?_, ?_, ?_, ?_, ?_, ?_, trivial⟩
      ·refine ⟨fun F => ?_, trivial⟩
       refine WL.qn (y_fieldAddrc f28_0 rfl) rfl ?_
       exact WL.done1 rfl rfl rfl
      ·refine ⟨fun F => ?_, trivial⟩
       refine WL.qn (y_loadc rfl a22 rfl) rfl ?_
       exact WL.done1 rfl rfl rfl
      ·refine ⟨fun F => ?_, trivial⟩
       refine WL.qn (y_len_map E54 t0.types e22 rfl rfl (Le.refl _)) rfl ?_
       exact WL.done1 rfl rfl rfl
      ·refine ⟨fun F => ?_, trivial⟩
       refine WL.qn (y_lss rfl rfl) rfl ?_
       exact WL.done1 rfl rfl rfl
      ·refine ⟨fun F => ?_, trivial⟩
       refine WL.mv rfl rfl ?_
       refine WL.cast 9 rfl (Le.ofd (by rw [hb4])) ?_
       exact WL.done2 rfl rfl rfl
      ·refine ⟨fun F => ?_, trivial⟩
       refine WL.qy (y_fieldAddrc f28_0 rfl) rfl rfl rfl ?_
       exact WL.done1 rfl rfl rfl
      ·refine ⟨fun F => ?_, trivial⟩
       refine WL.qy (y_loadc rfl a22 rfl) rfl rfl rfl ?_
       exact WL.done1 rfl rfl rfl
      ·refine ⟨fun F => ?_, trivial⟩
       refine WL.qy (y_len_map E54 t0.types e22 rfl rfl (Le.refl _)) rfl rfl rfl ?_
       exact WL.done1 rfl rfl rfl
      ·refine ⟨fun F => ?_, trivial⟩
       refine WL.qy (y_gtr rfl rfl) rfl rfl rfl ?_
       exact WL.done1 rfl rfl rfl
      ·refine ⟨fun F => ?_, trivial⟩
       refine WL.qn (y_pick_f rfl rfl) rfl ?_
       exact WL.done1 rfl rfl rfl
      ·refine ⟨fun F => ?_, trivial⟩
       refine WL.mv rfl rfl ?_
       refine WL.cast 15 rfl (Le.ofd (by rw [hb5])) ?_
       exact WL.done2 rfl rfl rfl
      ·refine ⟨fun F => ?_, trivial⟩
       refine WL.qy (y_fieldAddrc f28_1 rfl) rfl rfl rfl ?_
       exact WL.done1 rfl rfl rfl
      ·refine ⟨fun F => ?_, trivial⟩
       refine WL.qy (y_loadc rfl a23 rfl) rfl rfl rfl ?_
       exact WL.done1 rfl rfl rfl
      ·refine ⟨fun F => ?_, trivial⟩
       refine WL.qy (y_len_map E40 t0.subs e23 rfl rfl (Le.refl _)) rfl rfl rfl ?_
       exact WL.done1 rfl rfl rfl
      ·refine ⟨fun F => ?_, trivial⟩
       refine WL.qy (y_gtr rfl rfl) rfl rfl rfl ?_
       exact WL.done1 rfl rfl rfl
      ·refine ⟨fun F => ?_, trivial⟩
       refine WL.qn (y_pick_f rfl rfl) rfl ?_
       exact WL.done1 rfl rfl rfl
      ·refine ⟨fun F => ?_, trivial⟩
       refine WL.mv rfl rfl ?_
       refine WL.cast 21 rfl (Le.ofd (by rw [hb6])) ?_
       exact WL.done2 rfl rfl rfl
      ·refine ⟨fun F => ?_, trivial⟩
       refine WL.qy (y_fieldAddrc f28_0 rfl) rfl rfl rfl ?_
       exact WL.done1 rfl rfl rfl
      ·refine ⟨fun F => ?_, trivial⟩
       refine WL.qy (y_loadc rfl a22 rfl) rfl rfl rfl ?_
       exact WL.done1 rfl rfl rfl
      ·refine ⟨fun F => ?_, trivial⟩
       refine WL.qy (y_indexAddr e22 rfl (Le.refl _) rfl (idx_nonneg hx56) (idx_row E54_eq hx56) rfl) rfl rfl rfl ?_
       exact WL.done1 rfl rfl rfl
      ·refine ⟨fun F => ?_, trivial⟩
       refine WL.qy (y_loadcN rfl a54 s54 rfl) rfl rfl rfl ?_
       exact WL.done1 rfl rfl rfl
      ·refine ⟨fun F => ?_, trivial⟩
       refine WL.fn rfl rfl rfl rfl (f37_c _) ⟨(Le.refl _), trivial⟩ (Wt.yes rfl rfl rfl) rfl rfl ?_
       exact WL.done1 rfl rfl rfl
      ·refine ⟨fun F => ?_, trivial⟩
       refine WL.fn rfl rfl rfl rfl (f53_c _ _ hr57) ⟨(Le.refl _), (Le.refl _), trivial⟩ (Wt.yes rfl rfl rfl) rfl rfl ?_
       exact WL.done1 rfl rfl rfl
      ·refine ⟨fun F => ?_, trivial⟩
       refine WL.qy (y_not rfl) rfl rfl rfl ?_
       exact WL.done1 rfl rfl rfl
      ·refine ⟨fun F => ?_, trivial⟩
       refine WL.qn (y_pick_f rfl rfl) rfl ?_
       exact WL.done1 rfl rfl rfl
     ·exact we_lp ⟨(!r57), h, (Sub.cons rfl (Le.refl _) (Sub.cons rfl (Le.refl _) (Sub.nil _))), trivial⟩
 ·rintro env1 st1 ⟨t54, h, hsub, hst⟩
  subst hk55
  dsimp only at h
  refine WC.sub hsub (WC.weak hst ?_)
  refine wc_cond rfl (fun hc1 => ?_) (fun hc1 => ?_)
  ·replace h := condT h hc1
   refine wc_sr ?_
   refine WL.as rfl rfl ?_
   refine WL.ns ?_
   refine wc_ret ?_
   refine we_seq_ret ?_
   obtain rfl := Option.some.inj h
   exact we_ret_fn (rs1 rfl (rv_t rfl)) (Le.refl _)
  ·replace h := condF h hc1
   refine wc_skip ?_
   refine we_seq ?_
   replace h := letkS h
   obtain ⟨k58, hk58, h⟩ := h
   refine wc_cut (fun env' st' => k58 () = some r ∧ Sub [(1, .d (.pc (R28 t0)))] env' ∧ SLe st' []) ?_ ?_
   ·refine wc_sr ?_
    refine WL.as rfl rfl ?_
    refine WL.ns ?_
    refine wc_block ?_
    refine wc_loop (fun n env' st' => ∃ (iq60 : Int), f24_l1 t0 k58 n iq60 = some r ∧ Sub [(1, .d (.pc (R28 t0))), (3, .d (D.i .i64 iq60))] env' ∧ SLe st' []) (fun n => n) 9223372036854775808 ⟨0, h, (Sub.cons rfl (Le.refl _) (Sub.cons rfl (Le.refl _) (Sub.nil _))), trivial⟩ ?_
    rintro n env1 st1 ⟨iq60, h, hsub, hst⟩
    cases n with
    | zero => rw [f24_l1] at h; cases h
    | succ n =>
    rw [f24_l1] at h
    refine WC.sub hsub (WC.weak hst ?_)
    refine wc_seq ?_
    refine wc_sr ?_
    refine WL.mv rfl rfl ?_
    refine WL.qn (y_fieldAddrc f28_1 rfl) rfl ?_
    refine WL.qn (y_loadc rfl a23 rfl) rfl ?_
    refine WL.qn (y_len_map E40 t0.subs e23 rfl rfl (Le.refl _)) rfl ?_
    refine WL.qn (y_lss rfl rfl) rfl ?_
    refine WL.ns ?_
    refine wc_cond rfl (fun hc2 => ?_) (fun hc2 => ?_)
    ·replace h := condT h hc2
     refine wc_skip ?_
     refine we_seq ?_
     refine wc_seq ?_
     refine wc_block ?_
     refine wc_sr ?_
     refine WL.qn (y_loadcN rfl a28 s28 rfl) rfl ?_
     refine WL.mv rfl rfl ?_
     obtain ⟨r62, hr62, h⟩ := bindS h
     refine WL.fn rfl rfl rfl rfl (f54_c _ _ hr62) ⟨(Le.refl _), (Le.refl _), trivial⟩ (Wt.none rfl) rfl rfl ?_
     refine WL.qn (y_not rfl) rfl ?_
     refine WL.ns ?_
     refine wc_cond rfl (fun hc3 => ?_) (fun hc3 => ?_)
     ·replace h := condT h hc3
      refine wc_sr ?_
      refine WL.as rfl rfl ?_
      refine WL.ns ?_
      refine wc_ret ?_
      refine we_blk_ret ?_
      refine we_seq_ret ?_
      refine we_lp_ret ?_
      refine we_blk_ret ?_
      refine we_lp_ret ?_
      obtain rfl := Option.some.inj h
      exact we_ret_fn (rs1 rfl (rv_t rfl)) (Le.refl _)
     ·replace h := condF h hc3
      refine wc_skip ?_
      refine we_blk ?_
      refine we_seq ?_
      refine wc_region ?_
      refine WL.mv rfl rfl ?_
      refine WL.qn (y_add rfl rfl rfl) rfl ?_
      refine WL.as rfl rfl ?_
      refine WL.nil ?_
      exact we_lp ⟨n, ⟨(IntKind.i64.wrap (iq60 + 1)), h, (Sub.cons rfl (Le.refl _) (Sub.cons rfl (Le.refl _) (Sub.nil _))), trivial⟩, Nat.lt_succ_self n⟩
    ·replace h := condF h hc2
     refine wc_exit ?_
     refine we_seq_exit ?_
     refine we_lp_exit ?_
     refine we_blk_hit ?_
     exact we_lp ⟨h, (Sub.cons rfl (Le.refl _) (Sub.nil _)), trivial⟩
   ·rintro env1 st1 ⟨h, hsub, hst⟩
    subst hk58
    dsimp only at h
    refine WC.sub hsub (WC.weak hst ?_)
    replace h := letkS h
    obtain ⟨k63, hk63, h⟩ := h
    refine wc_cut (fun env' st' => k63 () = some r ∧ Sub [] env' ∧ SLe st' []) ?_ ?_
    ·refine wc_sr ?_
     refine WL.as rfl rfl ?_
     refine WL.ns ?_
     refine wc_block ?_
     refine wc_loop (fun n env' st' => ∃ (iq65 : Int), f24_l2 t0 k63 n iq65 = some r ∧ Sub [(1, .d (.pc (R28 t0))), (4, .d (D.i .i64 iq65))] env' ∧ SLe st' []) (fun n => n) 9223372036854775808 ⟨1, h, (Sub.cons rfl (Le.refl _) (Sub.cons rfl (Le.refl _) (Sub.nil _))), trivial⟩ ?_
     rintro n env1 st1 ⟨iq65, h, hsub, hst⟩
     cases n with
     | zero => rw [f24_l2] at h; cases h
     | succ n =>
     rw [f24_l2] at h
     refine WC.sub hsub (WC.weak hst ?_)
     refine wc_seq ?_
     refine wc_sr ?_
     refine WL.mv rfl rfl ?_
     refine WL.qn (y_fieldAddrc f28_0 rfl) rfl ?_
     refine WL.qn (y_loadc rfl a22 rfl) rfl ?_
     refine WL.qn (y_len_map E54 t0.types e22 rfl rfl (Le.refl _)) rfl ?_
     refine WL.qn (y_lss rfl rfl) rfl ?_
     refine WL.ns ?_
     refine wc_cond rfl (fun hc4 => ?_) (fun hc4 => ?_)
     ·replace h := condT h hc4
      refine wc_skip ?_
      refine we_seq ?_
      refine wc_seq ?_
      refine wc_block ?_
      refine wc_sr ?_
      refine WL.qn (y_loadcN rfl a28 s28 rfl) rfl ?_
      refine WL.mv rfl rfl ?_
      obtain ⟨r67, hr67, h⟩ := bindS h
      refine WL.fn rfl rfl rfl rfl (f55_c _ _ hr67) ⟨(Le.refl _), (Le.refl _), trivial⟩ (Wt.none rfl) rfl rfl ?_
      refine WL.qn (y_not rfl) rfl ?_
      refine WL.ns ?_
      refine wc_cond rfl (fun hc5 => ?_) (fun hc5 => ?_)
      ·replace h := condT h hc5
       refine wc_sr ?_
       refine WL.as rfl rfl ?_
       refine WL.ns ?_
       refine wc_ret ?_
       refine we_blk_ret ?_
       refine we_seq_ret ?_
       refine we_lp_ret ?_
       refine we_blk_ret ?_
       refine we_lp_ret ?_
       obtain rfl := Option.some.inj h
       exact we_ret_fn (rs1 rfl (rv_t rfl)) (Le.refl _)
      ·replace h := condF h hc5
       refine wc_skip ?_
       refine we_blk ?_
       refine we_seq ?_
       refine wc_region ?_
       refine WL.mv rfl rfl ?_
       refine WL.qn (y_add rfl rfl rfl) rfl ?_
       refine WL.as rfl rfl ?_
       refine WL.nil ?_
       exact we_lp ⟨n, ⟨(IntKind.i64.wrap (iq65 + 1)), h, (Sub.cons rfl (Le.refl _) (Sub.cons rfl (Le.refl _) (Sub.nil _))), trivial⟩, Nat.lt_succ_self n⟩
     ·replace h := condF h hc4
      refine wc_exit ?_
      refine we_seq_exit ?_
      refine we_lp_exit ?_
      refine we_blk_hit ?_
      exact we_lp ⟨h, (Sub.nil _), trivial⟩
    ·rintro env1 st1 ⟨h, hsub, hst⟩
     subst hk63
     dsimp only at h
     refine WC.sub hsub (WC.weak hst ?_)
     refine wc_sr ?_
     refine WL.as rfl rfl ?_
     refine WL.ns ?_
     refine wc_ret ?_
     obtain rfl := Option.some.inj h
     exact we_ret_fn (rs1 rfl (rv_t rfl)) (Le.refl _)

end Go.Proofs.YteafckpdbmncfaaDoor
