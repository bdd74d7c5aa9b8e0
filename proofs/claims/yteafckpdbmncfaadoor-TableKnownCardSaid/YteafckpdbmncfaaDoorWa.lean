/- The walks of functions that this law reaches. -/
import Derived.Test.YteafckpdbmncfaaDoorX
set_option maxHeartbeats 4000000
set_option maxRecDepth 100000
namespace Go.Proofs.YteafckpdbmncfaaDoor
open Go Go.Sk

theorem f69_c (s0 : List CompRow) (cb1 : CompRow → Option (Bool)) (g1 : FuncId) (fi1 ca1 : List D) (hcb1 : ∀ (y0 : CompRow) (r : Bool), cb1 y0 = some r → Pu Tryd.prog g1 (fi1 ++ [.ag (R56 y0)] ++ ca1) (.b r)) {r : Int} (h : f69 s0 cb1 = some r) : Pu Tryd.prog 69 [.sl (List.map E56 s0), .fnc (.func g1) fi1 ca1] (.i .i64 r) := by
 unfold f69 at h
 refine fn_intro Tryd.func69 (by kernel_rfl) rfl rfl rfl (fun φφ ww => ?_)
 refine WC.cast 1 rfl (Le.fncd _ _ _) ?_
 refine wc_sr ?_
 refine WL.as rfl rfl ?_
 refine WL.ns ?_
 replace h := letkS h
 obtain ⟨k22, hk22, h⟩ := h
 refine wc_cut (fun env' st' => k22 () = some r ∧ Sub [] env' ∧ SLe st' []) ?_ ?_
 ·refine wc_sr ?_
  refine WL.mv rfl rfl ?_
  refine WL.qn (y_len_map E56 s0 e51 rfl rfl (Le.refl _)) rfl ?_
  refine WL.mv rfl rfl ?_
  refine WL.ns ?_
  refine wc_block ?_
  refine wc_loop (fun n env' st' => ∃ (t24 : Int), f69_l1 s0 cb1 k22 n t24 = some r ∧ Sub [(0, .d (.sl (List.map E56 s0))), (1, .fn (.func g1) (List.map AV.d fi1) (List.map AV.d ca1)), (7, .d (D.i .i64 (List.length s0 : Int))), (8, .d (D.i .i64 t24))] env' ∧ SLe st' []) (fun n => n) (Int.toNat ((List.length s0 : Int) - 0) + 1) ⟨0, h, (Sub.cons rfl (Le.refl _) (Sub.cons rfl (Le.refl _) (Sub.cons rfl (Le.refl _) (Sub.cons rfl (Le.refl _) (Sub.nil _))))), trivial⟩ ?_
  rintro n env1 st1 ⟨t24, h, hsub, hst⟩
  cases n with
  | zero => rw [f69_l1] at h; cases h
  | succ n =>
  rw [f69_l1] at h
  refine WC.sub hsub (WC.weak hst ?_)
  refine wc_sr ?_
  refine WL.qn (y_lss rfl rfl) rfl ?_
  refine WL.ns ?_
  refine wc_seq ?_
  refine wc_cond rfl (fun hc1 => ?_) (fun hc1 => ?_)
  ·replace h := condT h hc1
   refine wc_skip ?_
   refine we_seq ?_
   refine wc_seq ?_
   refine wc_block ?_
   refine wc_sr ?_
   refine WL.mv rfl rfl ?_
   refine WL.as rfl rfl ?_
   refine WL.ns ?_
   refine wc_sr ?_
   refine WL.mv rfl rfl ?_
   refine WL.mv rfl rfl ?_
   refine WL.mv rfl rfl ?_
   obtain ⟨x26, hx26, h⟩ := bindS h
   refine WL.qn (y_indexAddr e51 rfl (Le.refl _) rfl (idx_nonneg hx26) (idx_row E56_eq hx26) rfl) rfl ?_
   refine WL.qn (y_loadcN rfl a56 s56 rfl) rfl ?_
   obtain ⟨r27, hr27, h⟩ := bindS h
   refine WL.fn rfl rfl rfl rfl (hcb1 _ _ hr27) (Les.mid ⟨(Le.refl _), trivial⟩) (Wt.none rfl) rfl rfl ?_
   refine WL.ns ?_
   refine wc_cond rfl (fun hc2 => ?_) (fun hc2 => ?_)
   ·replace h := condT h hc2
    refine wc_sr ?_
    refine WL.mv rfl rfl ?_
    refine WL.as rfl rfl ?_
    refine WL.ns ?_
    refine wc_ret ?_
    refine we_blk_ret ?_
    refine we_seq_ret ?_
    refine we_lp_ret ?_
    refine we_blk_ret ?_
    refine we_lp_ret ?_
    obtain rfl := Option.some.inj h
    exact we_ret_fn (rs1 rfl (rv_t rfl)) (Le.refl _)
   ·replace h := condF h hc2
    refine wc_skip ?_
    refine we_blk ?_
    refine we_seq ?_
    refine wc_region ?_
    refine WL.qn (y_add rfl rfl rfl) rfl ?_
    refine WL.mv rfl rfl ?_
    refine WL.nil ?_
    exact we_lp ⟨n, ⟨(IntKind.i64.wrap (t24 + 1)), h, (Sub.cons rfl (Le.refl _) (Sub.cons rfl (Le.refl _) (Sub.cons rfl (Le.refl _) (Sub.cons rfl (Le.refl _) (Sub.nil _))))), trivial⟩, Nat.lt_succ_self n⟩
  ·replace h := condF h hc1
   refine wc_exit ?_
   refine we_seq_exit ?_
   refine we_lp_exit ?_
   refine we_blk_hit ?_
   exact we_lp ⟨h, (Sub.nil _), trivial⟩
 ·rintro env1 st1 ⟨h, hsub, hst⟩
  subst hk22
  dsimp only at h
  refine WC.sub hsub (WC.weak hst ?_)
  refine wc_sr ?_
  refine WL.as rfl rfl ?_
  refine WL.ns ?_
  refine wc_ret ?_
  obtain rfl := Option.some.inj h
  exact we_ret_fn (rs1 rfl (rv_t rfl)) (Le.refl _)

theorem f71_c (s0 : List Int) (v1 : Int) {r : Int} (h : f71 s0 v1 = some r) : Pu Tryd.prog 71 [.sl (List.map E2 s0), .i .i64 v1] (.i .i64 r) := by
 unfold f71 at h
 refine fn_intro Tryd.func71 (by kernel_rfl) rfl rfl rfl (fun φφ ww => ?_)
 refine wc_sr ?_
 refine WL.as rfl rfl ?_
 refine WL.ns ?_
 replace h := letkS h
 obtain ⟨k22, hk22, h⟩ := h
 refine wc_cut (fun env' st' => k22 () = some r ∧ Sub [] env' ∧ SLe st' []) ?_ ?_
 ·refine wc_sr ?_
  refine WL.mv rfl rfl ?_
  refine WL.qn (y_len_map E2 s0 e41 rfl rfl (Le.refl _)) rfl ?_
  refine WL.mv rfl rfl ?_
  refine WL.ns ?_
  refine wc_block ?_
  refine wc_loop (fun n env' st' => ∃ (t24 : Int), f71_l1 s0 v1 k22 n t24 = some r ∧ Sub [(0, .d (.sl (List.map E2 s0))), (1, .d (D.i .i64 v1)), (7, .d (D.i .i64 (List.length s0 : Int))), (8, .d (D.i .i64 t24))] env' ∧ SLe st' []) (fun n => n) (Int.toNat ((List.length s0 : Int) - 0) + 1) ⟨0, h, (Sub.cons rfl (Le.refl _) (Sub.cons rfl (Le.refl _) (Sub.cons rfl (Le.refl _) (Sub.cons rfl (Le.refl _) (Sub.nil _))))), trivial⟩ ?_
  rintro n env1 st1 ⟨t24, h, hsub, hst⟩
  cases n with
  | zero => rw [f71_l1] at h; cases h
  | succ n =>
  rw [f71_l1] at h
  refine WC.sub hsub (WC.weak hst ?_)
  refine wc_sr ?_
  refine WL.qn (y_lss rfl rfl) rfl ?_
  refine WL.ns ?_
  refine wc_seq ?_
  refine wc_cond rfl (fun hc1 => ?_) (fun hc1 => ?_)
  ·replace h := condT h hc1
   refine wc_skip ?_
   refine we_seq ?_
   refine wc_seq ?_
   refine wc_block ?_
   refine wc_sr ?_
   refine WL.mv rfl rfl ?_
   refine WL.as rfl rfl ?_
   refine WL.ns ?_
   refine wc_sr ?_
   refine WL.mv rfl rfl ?_
   refine WL.mv rfl rfl ?_
   refine WL.mv rfl rfl ?_
   obtain ⟨x26, hx26, h⟩ := bindS h
   refine WL.qn (y_indexAddr e41 rfl (Le.refl _) rfl (idx_nonneg hx26) (idx_row E2_eq hx26) rfl) rfl ?_
   refine WL.qn (y_loadc rfl a2 rfl) rfl ?_
   refine WL.qn (y_eql rfl rfl) rfl ?_
   refine WL.ns ?_
   refine wc_cond rfl (fun hc2 => ?_) (fun hc2 => ?_)
   ·replace h := condT h hc2
    refine wc_sr ?_
    refine WL.mv rfl rfl ?_
    refine WL.as rfl rfl ?_
    refine WL.ns ?_
    refine wc_ret ?_
    refine we_blk_ret ?_
    refine we_seq_ret ?_
    refine we_lp_ret ?_
    refine we_blk_ret ?_
    refine we_lp_ret ?_
    obtain rfl := Option.some.inj h
    exact we_ret_fn (rs1 rfl (rv_t rfl)) (Le.refl _)
   ·replace h := condF h hc2
    refine wc_skip ?_
    refine we_blk ?_
    refine we_seq ?_
    refine wc_region ?_
    refine WL.qn (y_add rfl rfl rfl) rfl ?_
    refine WL.mv rfl rfl ?_
    refine WL.nil ?_
    exact we_lp ⟨n, ⟨(IntKind.i64.wrap (t24 + 1)), h, (Sub.cons rfl (Le.refl _) (Sub.cons rfl (Le.refl _) (Sub.cons rfl (Le.refl _) (Sub.cons rfl (Le.refl _) (Sub.nil _))))), trivial⟩, Nat.lt_succ_self n⟩
  ·replace h := condF h hc1
   refine wc_exit ?_
   refine we_seq_exit ?_
   refine we_lp_exit ?_
   refine we_blk_hit ?_
   exact we_lp ⟨h, (Sub.nil _), trivial⟩
 ·rintro env1 st1 ⟨h, hsub, hst⟩
  subst hk22
  dsimp only at h
  refine WC.sub hsub (WC.weak hst ?_)
  refine wc_sr ?_
  refine WL.as rfl rfl ?_
  refine WL.ns ?_
  refine wc_ret ?_
  obtain rfl := Option.some.inj h
  exact we_ret_fn (rs1 rfl (rv_t rfl)) (Le.refl _)

theorem f47_c (s0 : List Int) (v1 : Int) {r : Bool} (h : f47 s0 v1 = some r) : Pu Tryd.prog 47 [.sl (List.map E2 s0), .i .i64 v1] (.b r) := by
 unfold f47 at h
 refine fn_intro Tryd.func47 (by kernel_rfl) rfl rfl rfl (fun φφ ww => ?_)
 refine wc_sr ?_
 refine WL.as rfl rfl ?_
 refine WL.ns ?_
 refine wc_sr ?_
 refine WL.mv rfl rfl ?_
 refine WL.mv rfl rfl ?_
 obtain ⟨r12, hr12, h⟩ := bindS h
 refine WL.fn rfl rfl rfl rfl (f71_c _ _ hr12) ⟨(Le.refl _), (Le.refl _), trivial⟩ (Wt.none rfl) rfl rfl ?_
 refine WL.qn (y_geq rfl rfl) rfl ?_
 refine WL.as rfl rfl ?_
 refine WL.ns ?_
 refine wc_ret ?_
 obtain rfl := Option.some.inj h
 exact we_ret_fn (rs1 rfl (rv_t rfl)) (Le.refl _)

theorem f107_c (x0 : Int) (y1 : Int) : Pu Tryd.prog 107 [.i .u32 x0, .i .u32 y1] (.tu [.i .u32 (f107 x0 y1).1, .i .u32 (f107 x0 y1).2]) := by
 generalize h : f107 x0 y1 = r
 unfold f107 at h
 refine fn_intro Tryd.func107 (by kernel_rfl) rfl rfl rfl (fun φφ ww => ?_)
 refine wc_sr ?_
 refine WL.as rfl rfl ?_
 refine WL.as rfl rfl ?_
 refine WL.ns ?_
 refine wc_sr ?_
 refine WL.mv rfl rfl ?_
 refine WL.qn (y_conv Tryd.underlying116 Tryd.underlying92 rfl rfl) rfl ?_
 refine WL.mv rfl rfl ?_
 refine WL.qn (y_conv Tryd.underlying116 Tryd.underlying92 rfl rfl) rfl ?_
 refine WL.qn (y_mul rfl rfl rfl) rfl ?_
 refine WL.as rfl rfl ?_
 refine WL.ns ?_
 refine wc_sr ?_
 refine WL.mv rfl rfl ?_
 refine WL.qn (y_shr rfl rfl (by decide)) rfl ?_
 refine WL.qn (y_conv Tryd.underlying92 Tryd.underlying116 rfl rfl) rfl ?_
 refine WL.mv rfl rfl ?_
 refine WL.qn (y_conv Tryd.underlying92 Tryd.underlying116 rfl rfl) rfl ?_
 refine WL.as rfl rfl ?_
 refine WL.as rfl rfl ?_
 refine WL.ns ?_
 refine wc_ret ?_
 subst h
 exact we_ret_fn (rs2 rfl (rv_t rfl) (rv_t rfl)) (Le.tud ⟨(Le.refl _), (Le.refl _), trivial⟩)

theorem f108_c (x0 : Int) (y1 : Int) : Pu Tryd.prog 108 [.i .u64 x0, .i .u64 y1] (.tu [.i .u64 (f108 x0 y1).1, .i .u64 (f108 x0 y1).2]) := by
 generalize h : f108 x0 y1 = r
 unfold f108 at h
 refine fn_intro Tryd.func108 (by kernel_rfl) rfl rfl rfl (fun φφ ww => ?_)
 refine wc_sr ?_
 refine WL.as rfl rfl ?_
 refine WL.as rfl rfl ?_
 refine WL.ns ?_
 refine wc_sr ?_
 refine WL.mv rfl rfl ?_
 refine WL.qn (y_and rfl rfl rfl) rfl ?_
 refine WL.as rfl rfl ?_
 refine WL.ns ?_
 refine wc_sr ?_
 refine WL.mv rfl rfl ?_
 refine WL.qn (y_shr rfl rfl (by decide)) rfl ?_
 refine WL.as rfl rfl ?_
 refine WL.ns ?_
 refine wc_sr ?_
 refine WL.mv rfl rfl ?_
 refine WL.qn (y_and rfl rfl rfl) rfl ?_
 refine WL.as rfl rfl ?_
 refine WL.ns ?_
 refine wc_sr ?_
 refine WL.mv rfl rfl ?_
 refine WL.qn (y_shr rfl rfl (by decide)) rfl ?_
 refine WL.as rfl rfl ?_
 refine WL.ns ?_
 refine wc_sr ?_
 refine WL.mv rfl rfl ?_
 refine WL.mv rfl rfl ?_
 refine WL.qn (y_mul rfl rfl rfl) rfl ?_
 refine WL.as rfl rfl ?_
 refine WL.ns ?_
 refine wc_sr ?_
 refine WL.mv rfl rfl ?_
 refine WL.mv rfl rfl ?_
 refine WL.qn (y_mul rfl rfl rfl) rfl ?_
 refine WL.mv rfl rfl ?_
 refine WL.qn (y_shr rfl rfl (by decide)) rfl ?_
 refine WL.qn (y_add rfl rfl rfl) rfl ?_
 refine WL.as rfl rfl ?_
 refine WL.ns ?_
 refine wc_sr ?_
 refine WL.mv rfl rfl ?_
 refine WL.qn (y_and rfl rfl rfl) rfl ?_
 refine WL.as rfl rfl ?_
 refine WL.ns ?_
 refine wc_sr ?_
 refine WL.mv rfl rfl ?_
 refine WL.qn (y_shr rfl rfl (by decide)) rfl ?_
 refine WL.as rfl rfl ?_
 refine WL.ns ?_
 refine wc_sr ?_
 refine WL.mv rfl rfl ?_
 refine WL.mv rfl rfl ?_
 refine WL.mv rfl rfl ?_
 refine WL.qn (y_mul rfl rfl rfl) rfl ?_
 refine WL.qn (y_add rfl rfl rfl) rfl ?_
 refine WL.as rfl rfl ?_
 refine WL.ns ?_
 refine wc_sr ?_
 refine WL.mv rfl rfl ?_
 refine WL.mv rfl rfl ?_
 refine WL.qn (y_mul rfl rfl rfl) rfl ?_
 refine WL.mv rfl rfl ?_
 refine WL.qn (y_add rfl rfl rfl) rfl ?_
 refine WL.mv rfl rfl ?_
 refine WL.qn (y_shr rfl rfl (by decide)) rfl ?_
 refine WL.qn (y_add rfl rfl rfl) rfl ?_
 refine WL.as rfl rfl ?_
 refine WL.ns ?_
 refine wc_sr ?_
 refine WL.mv rfl rfl ?_
 refine WL.mv rfl rfl ?_
 refine WL.qn (y_mul rfl rfl rfl) rfl ?_
 refine WL.as rfl rfl ?_
 refine WL.ns ?_
 refine wc_ret ?_
 subst h
 exact we_ret_fn (rs2 rfl (rv_t rfl) (rv_t rfl)) (Le.tud ⟨(Le.refl _), (Le.refl _), trivial⟩)

theorem f95_c (x0 : Int) (y1 : Int) : Pu Tryd.prog 95 [.i .u64 x0, .i .u64 y1] (.tu [.i .u64 (f95 x0 y1).1, .i .u64 (f95 x0 y1).2]) := by
 generalize h : f95 x0 y1 = r
 unfold f95 at h
 refine fn_intro Tryd.func95 (by kernel_rfl) rfl rfl rfl (fun φφ ww => ?_)
 refine wc_sr ?_
 refine WL.as rfl rfl ?_
 refine WL.as rfl rfl ?_
 refine WL.ns ?_
 refine wc_seq ?_
 refine wc_false rfl ?_
 refine wc_skip ?_
 refine we_seq ?_
 refine wc_sr ?_
 refine WL.mv rfl rfl ?_
 refine WL.mv rfl rfl ?_
 refine WL.fn rfl rfl rfl rfl (f108_c _ _) ⟨(Le.refl _), (Le.refl _), trivial⟩ (Wt.none rfl) rfl rfl ?_
 refine WL.mv rfl rfl ?_
 refine WL.qn (y_extractd rfl rfl) rfl ?_
 refine WL.qn (y_extractd rfl rfl) rfl ?_
 refine WL.as rfl rfl ?_
 refine WL.as rfl rfl ?_
 refine WL.ns ?_
 refine wc_sr ?_
 refine WL.mv rfl rfl ?_
 refine WL.mv rfl rfl ?_
 refine WL.as rfl rfl ?_
 refine WL.as rfl rfl ?_
 refine WL.ns ?_
 refine wc_ret ?_
 subst h
 exact we_ret_fn (rs2 rfl (rv_t rfl) (rv_t rfl)) (Le.tud ⟨(Le.refl _), (Le.refl _), trivial⟩)

theorem f77_c (x0 : List Int) (count1 : Int) {r : List Int} (h : f77 x0 count1 = some r) : Pu Tryd.prog 77 [.sl (List.map E3 x0), .i .i64 count1] (.sl (List.map E3 r)) := by
 unfold f77 at h
 refine fn_intro Tryd.func77 (by kernel_rfl) rfl rfl rfl (fun φφ ww => ?_)
 refine wc_sr ?_
 refine WL.as rfl rfl ?_
 refine WL.ns ?_
 refine wc_seq ?_
 refine wc_sr ?_
 refine WL.mv rfl rfl ?_
 refine WL.qn (y_lss rfl rfl) rfl ?_
 refine WL.ns ?_
 refine wc_cond rfl (fun hc1 => ?_) (fun hc1 => ?_)
 ·replace h := condT h hc1
  cases h
 ·replace h := condF h hc1
  refine wc_skip ?_
  refine we_seq ?_
  refine wc_sr ?_
  refine WL.mv rfl rfl ?_
  refine WL.qn (y_len_map E3 x0 e82 rfl rfl (Le.refl _)) rfl ?_
  refine WL.qn (y_conv Tryd.underlying3 Tryd.underlying109 rfl rfl) rfl ?_
  refine WL.mv rfl rfl ?_
  refine WL.qn (y_conv Tryd.underlying3 Tryd.underlying109 rfl rfl) rfl ?_
  refine WL.fn rfl rfl rfl rfl (f95_c _ _) ⟨(Le.refl _), (Le.refl _), trivial⟩ (Wt.none rfl) rfl rfl ?_
  refine WL.mv rfl rfl ?_
  refine WL.qn (y_extractd rfl rfl) rfl ?_
  refine WL.qn (y_extractd rfl rfl) rfl ?_
  refine WL.as rfl rfl ?_
  refine WL.as rfl rfl ?_
  refine WL.ns ?_
  refine wc_seq ?_
  refine wc_sr ?_
  refine WL.mv rfl rfl ?_
  refine WL.qn (y_gtr rfl rfl) rfl ?_
  refine WL.mv rfl rfl ?_
  apply WL.or 3 (t := 23) (d := 26)
  ·exact rfl
  ·intro hg23
   refine WL.qy (y_move rfl) rfl rfl rfl ?_
   refine WL.qy (y_gtr rfl rfl) rfl rfl rfl ?_
   refine WL.qn (y_pick_f rfl rfl) rfl ?_
   exact WL.nil ⟨rfl, [_, _, _], rfl, rfl, rfl⟩
  ·refine WL.skips 2 rfl ?_
   refine WL.qn (y_pick_t rfl rfl) rfl ?_
   exact WL.nil ⟨rfl, [_, _, _], rfl, rfl, rfl⟩
  refine WL.ns ?_
  refine wc_cond rfl (fun hc2 => ?_) (fun hc2 => ?_)
  ·replace h := condT h hc2
   cases h
  ·replace h := condF h hc2
   refine wc_skip ?_
   refine we_seq ?_
   refine wc_sr ?_
   refine WL.mv rfl rfl ?_
   refine WL.qn (y_conv Tryd.underlying109 Tryd.underlying3 rfl rfl) rfl ?_
   replace h := guardBS h
   obtain ⟨hgg51, h⟩ := h
   refine WL.s ((NewOs.b (NewOs.cast (n_makeSlice l82 z3 rfl (Nat.succ_pos _) rfl rfl hgg51) (by exact replicate_encA (R := E3) (z := (0 : Int)) rfl))).does) (Wt.none rfl) rfl rfl ?_
   refine WL.as rfl rfl ?_
   refine WL.ns ?_
   refine wc_sr ?_
   refine WL.mv rfl rfl ?_
   refine WL.mv rfl rfl ?_
   refine WL.s (d_copyL (R := E3) (List.replicate (Int.toNat (IntKind.i64.wrap ((f95 (IntKind.u64.wrap (List.length x0 : Int)) (IntKind.u64.wrap count1)).2))) (0 : Int)) x0 l82 (by decide) rfl rfl (Piece.os rfl (List.length_map _)) (Nat.zero_mul _).symm rfl rfl (Src.dataL (Le.refl _) E3_eq (fun _ => rfl)) (fun _ => rfl) (fun _ => rfl) (pieceOk_all _)) (Wt.none rfl) rfl rfl ?_
   refine WL.as rfl rfl ?_
   refine WL.ns ?_
   replace h := letkS h
   obtain ⟨k54, hk54, h⟩ := h
   refine wc_cut (fun env' st' => ∃ (l52 : List Int), ∃ (ver53 : Nat), k54 l52 = some r ∧ Sub [(7, .os 0 ver53)] env' ∧ SLe st' [.os 3 1 ver53 (List.map (encA E3) l52)]) ?_ ?_
   ·refine wc_block ?_
    refine wc_loop (fun n env' st' => ∃ (n58 : Int), ∃ (l59 : List Int), ∃ (ver60 : Nat), f77_l1 k54 n n58 l59 = some r ∧ Sub [(7, .os 0 ver60), (8, .d (D.i .i64 n58))] env' ∧ SLe st' [.os 3 1 ver60 (List.map (encA E3) l59)]) (fun n => n) 9223372036854775808 ⟨((Nat.min (List.length x0) (List.length (List.replicate (Int.toNat (IntKind.i64.wrap ((f95 (IntKind.u64.wrap (List.length x0 : Int)) (IntKind.u64.wrap count1)).2))) (0 : Int))) : Nat) : Int), (copyF (List.replicate (Int.toNat (IntKind.i64.wrap ((f95 (IntKind.u64.wrap (List.length x0 : Int)) (IntKind.u64.wrap count1)).2))) (0 : Int)) 0 (List.length (List.replicate (Int.toNat (IntKind.i64.wrap ((f95 (IntKind.u64.wrap (List.length x0 : Int)) (IntKind.u64.wrap count1)).2))) (0 : Int))) x0), _, h, (Sub.cons rfl (Le.refl _) (Sub.cons rfl (Le.refl _) (Sub.nil _))), ⟨⟨rfl, rfl, rfl, rfl⟩, trivial⟩⟩ ?_
    rintro n env1 st1 ⟨n58, l59, ver60, h, hsub, hst⟩
    cases n with
    | zero => rw [f77_l1] at h; cases h
    | succ n =>
    rw [f77_l1] at h
    refine WC.sub hsub (WC.weak hst ?_)
    refine wc_seq ?_
    refine wc_sr ?_
    refine WL.mv rfl rfl ?_
    refine WL.mv rfl rfl ?_
    refine WL.qn (y_len_osmap (encA E3) l59 e82 rfl rfl rfl) rfl ?_
    refine WL.qn (y_lss rfl rfl) rfl ?_
    refine WL.ns ?_
    refine wc_cond rfl (fun hc3 => ?_) (fun hc3 => ?_)
    ·replace h := condT h hc3
     refine wc_skip ?_
     refine we_seq ?_
     refine wc_block ?_
     replace h := guardBS h
     obtain ⟨hgg64, h⟩ := h
     replace h := guardBS h
     obtain ⟨hgg65, h⟩ := h
     replace h := guardBS h
     obtain ⟨hgg66, h⟩ := h
     replace h := guardBS h
     obtain ⟨hgg67, h⟩ := h
     apply wc_region_all [_, _, _, _, _, _, _, _, _, _] [[], [], [], [1, 2], [], [], [4, 5], [1, 2, 3, 4, 5, 6], [0, 1, 2, 3, 4, 5, 6, 7], [0, 1, 2, 3, 4, 5, 6, 7, 8]] [7] (fun c => List.getD [[.os 3 1 ver60 (List.map (encA E3) l59)], [.os 3 1 ver60 (List.map (encA E3) (copyF l59 (Int.toNat n58) (Int.toNat (List.length l59 : Int) - Int.toNat n58) (List.take (Int.toNat n58 - Int.toNat 0) (List.drop (Int.toNat 0) l59))))]] c []) [([], [8], [0, 1]), ([], [7], [0]), ([], [8], [0]), ([1, 2], [], [0]), ([], [7], [0]), ([], [8], [0]), ([4, 5], [], [0]), ([3, 6], [], [0]), ([0, 7], [], [1]), ([8], [], [1])] (by kernel_rfl) (by kernel_rfl) rfl rfl rfl
     ·refine ⟨?_, ?_, ?_, ?_, ?_, ?_, ?_, ?_, ?_, ?_, trivial⟩
      ·refine ⟨fun F => ?_, fun F => ?_, trivial⟩
       ·refine WL.mv rfl rfl ?_
        exact WL.done1 rfl rfl rfl
       ·refine WL.mv rfl rfl ?_
        exact WL.done1 rfl rfl rfl
      ·refine ⟨fun F => ?_, trivial⟩
       refine WL.mv rfl rfl ?_
       exact WL.done1 rfl rfl rfl
      ·refine ⟨fun F => ?_, trivial⟩
       refine WL.mv rfl rfl ?_
       exact WL.done1 rfl rfl rfl
      ·refine ⟨fun F => ?_, trivial⟩
       refine WL.qn (y_sliceO l59 (l := n58) (h := (List.length l59 : Int)) e82 rfl rfl ⟨_, rfl⟩ rfl hgg64) rfl ?_
       exact WL.done1 rfl rfl rfl
      ·refine ⟨fun F => ?_, trivial⟩
       refine WL.mv rfl rfl ?_
       exact WL.done1 rfl rfl rfl
      ·refine ⟨fun F => ?_, trivial⟩
       refine WL.mv rfl rfl ?_
       exact WL.done1 rfl rfl rfl
      ·refine ⟨fun F => ?_, trivial⟩
       refine WL.qn (y_sliceO l59 (l := 0) (h := n58) e82 rfl rfl rfl ⟨_, rfl⟩ hgg65) rfl ?_
       exact WL.done1 rfl rfl rfl
      ·refine ⟨fun F => ?_, trivial⟩
       refine WL.s (d_copyL (R := E3) l59 (List.take (Int.toNat n58 - Int.toNat 0) (List.drop (Int.toNat 0) l59)) l82 (by decide) rfl rfl Piece.ow rfl rfl rfl (Src.owL rfl rfl hgg66) (fun _ => rfl) (fun _ => rfl) hgg67) (Wt.none rfl) rfl rfl ?_
       exact WL.done1 rfl rfl rfl
      ·refine ⟨fun F => ?_, trivial⟩
       refine WL.qn (y_add rfl rfl rfl) rfl ?_
       exact WL.done1 rfl rfl rfl
      ·refine ⟨fun F => ?_, trivial⟩
       refine WL.as rfl rfl ?_
       exact WL.done1 rfl rfl rfl
     ·refine we_blk ?_
      exact we_lp ⟨n, ⟨(IntKind.i64.wrap (n58 + ((Nat.min (List.length (List.take (Int.toNat n58 - Int.toNat 0) (List.drop (Int.toNat 0) l59))) (Int.toNat (List.length l59 : Int) - Int.toNat n58) : Nat) : Int))), (copyF l59 (Int.toNat n58) (Int.toNat (List.length l59 : Int) - Int.toNat n58) (List.take (Int.toNat n58 - Int.toNat 0) (List.drop (Int.toNat 0) l59))), _, h, (Sub.cons rfl (Le.refl _) (Sub.cons rfl (Le.refl _) (Sub.nil _))), ⟨⟨rfl, rfl, rfl, rfl⟩, trivial⟩⟩, Nat.lt_succ_self n⟩
    ·replace h := condF h hc3
     refine wc_exit ?_
     refine we_seq_exit ?_
     refine we_lp_exit ?_
     refine we_blk_hit ?_
     exact we_lp ⟨l59, _, h, (Sub.cons rfl (Le.refl _) (Sub.nil _)), ⟨⟨rfl, rfl, rfl, rfl⟩, trivial⟩⟩
   ·rintro env1 st1 ⟨l52, ver53, h, hsub, hst⟩
    subst hk54
    dsimp only at h
    refine WC.sub hsub (WC.weak hst ?_)
    refine wc_sr ?_
    refine WL.mv rfl rfl ?_
    refine WL.as rfl rfl ?_
    refine WL.ns ?_
    refine wc_ret ?_
    refine WE.freezeX [7, 47, 4] [] 0 (List.map E3 l52) rfl (encA_map E3_eq l52) ⟨rfl, rfl, rfl, trivial⟩ trivial ?_
    obtain rfl := Option.some.inj h
    exact we_ret_fn (rs1 rfl (rv_t rfl)) (Le.refl _)

theorem f118_c (x0 : ByteArray) : Pu Tryd.prog 118 [.s x0] (.b (f118 x0)) := by
 generalize h : f118 x0 = r
 unfold f118 at h
 refine fn_intro Tryd.func118 (by kernel_rfl) rfl rfl rfl (fun φφ ww => ?_)
 refine wc_sr ?_
 refine WL.as rfl rfl ?_
 refine WL.ns ?_
 refine wc_sr ?_
 refine WL.mv rfl rfl ?_
 refine WL.mv rfl rfl ?_
 refine WL.qn (y_nes rfl rfl) rfl ?_
 refine WL.as rfl rfl ?_
 refine WL.ns ?_
 refine wc_ret ?_
 subst h
 exact we_ret_fn (rs1 rfl (rv_t rfl)) (Le.refl _)

theorem f114_c (x0 : ByteArray) (y1 : ByteArray) : Pu Tryd.prog 114 [.s x0, .s y1] (.b (f114 x0 y1)) := by
 generalize h : f114 x0 y1 = r
 unfold f114 at h
 refine fn_intro Tryd.func114 (by kernel_rfl) rfl rfl rfl (fun φφ ww => ?_)
 refine wc_sr ?_
 refine WL.as rfl rfl ?_
 refine WL.ns ?_
 refine wc_sr ?_
 refine WL.mv rfl rfl ?_
 refine WL.fn rfl rfl rfl rfl (f118_c _) ⟨(Le.refl _), trivial⟩ (Wt.none rfl) rfl rfl ?_
 refine WL.mv rfl rfl ?_
 apply WL.and 4 (t := 7) (d := 11)
 ·exact rfl
 ·intro hg7
  refine WL.qy (y_move rfl) rfl rfl rfl ?_
  refine WL.fn rfl rfl rfl rfl (f118_c _) ⟨(Le.refl _), trivial⟩ (Wt.yes rfl rfl rfl) rfl rfl ?_
  refine WL.qy (y_not rfl) rfl rfl rfl ?_
  refine WL.qn (y_pick_t rfl rfl) rfl ?_
  exact WL.nil ⟨rfl, [_, _, _, _], rfl, rfl, rfl⟩
 ·refine WL.skips 3 rfl ?_
  refine WL.qn (y_pick_f rfl rfl) rfl ?_
  exact WL.nil ⟨rfl, [_, _, _, _], rfl, rfl, rfl⟩
 refine WL.mv rfl rfl ?_
 apply WL.or 4 (t := 12) (d := 16)
 ·exact rfl
 ·intro hg12
  refine WL.qy (y_move rfl) rfl rfl rfl ?_
  refine WL.qy (y_move rfl) rfl rfl rfl ?_
  refine WL.qy (y_slt rfl rfl) rfl rfl rfl ?_
  refine WL.qn (y_pick_f rfl rfl) rfl ?_
  exact WL.nil ⟨rfl, [_, _, _, _], rfl, rfl, rfl⟩
 ·refine WL.skips 3 rfl ?_
  refine WL.qn (y_pick_t rfl rfl) rfl ?_
  exact WL.nil ⟨rfl, [_, _, _, _], rfl, rfl, rfl⟩
 refine WL.as rfl rfl ?_
 refine WL.ns ?_
 refine wc_ret ?_
 subst h
 exact we_ret_fn (rs1 rfl (rv_t rfl)) (Le.refl _)

theorem f115_c (x0 : ByteArray) : Pu Tryd.prog 115 [.s x0] (.b (f115 x0)) := by
 generalize h : f115 x0 = r
 unfold f115 at h
 refine fn_intro Tryd.func115 (by kernel_rfl) rfl rfl rfl (fun φφ ww => ?_)
 refine wc_sr ?_
 refine WL.as rfl rfl ?_
 refine WL.ns ?_
 refine wc_sr ?_
 refine WL.mv rfl rfl ?_
 refine WL.mv rfl rfl ?_
 refine WL.qn (y_nes rfl rfl) rfl ?_
 refine WL.as rfl rfl ?_
 refine WL.ns ?_
 refine wc_ret ?_
 subst h
 exact we_ret_fn (rs1 rfl (rv_t rfl)) (Le.refl _)

theorem f110_c (x0 : List ByteArray) (target1 : ByteArray) {r : Int × Bool} (h : f110 x0 target1 = some r) : Pu Tryd.prog 110 [.sl (List.map E9 x0), .s target1] (.tu [.i .i64 r.1, .b r.2]) := by
 unfold f110 at h
 refine fn_intro Tryd.func110 (by kernel_rfl) rfl rfl rfl (fun φφ ww => ?_)
 refine wc_sr ?_
 refine WL.as rfl rfl ?_
 refine WL.as rfl rfl ?_
 refine WL.ns ?_
 refine wc_sr ?_
 refine WL.mv rfl rfl ?_
 refine WL.qn (y_len_map E9 x0 e50 rfl rfl (Le.refl _)) rfl ?_
 refine WL.as rfl rfl ?_
 refine WL.ns ?_
 refine wc_sr ?_
 refine WL.mv rfl rfl ?_
 refine WL.as rfl rfl ?_
 refine WL.as rfl rfl ?_
 refine WL.ns ?_
 replace h := letkS h
 obtain ⟨k58, hk58, h⟩ := h
 refine wc_cut (fun env' st' => ∃ (iq57 : Int), k58 iq57 = some r ∧ Sub [(0, .d (.sl (List.map E9 x0))), (1, .d (D.s target1)), (6, .d (D.i .i64 (List.length x0 : Int))), (7, .d (D.i .i64 iq57))] env' ∧ SLe st' []) ?_ ?_
 ·refine wc_block ?_
  refine wc_loop (fun n env' st' => ∃ (iq61 : Int), ∃ (j62 : Int), f110_l1 x0 target1 k58 n iq61 j62 = some r ∧ Sub [(0, .d (.sl (List.map E9 x0))), (1, .d (D.s target1)), (6, .d (D.i .i64 (List.length x0 : Int))), (7, .d (D.i .i64 iq61)), (8, .d (D.i .i64 j62))] env' ∧ SLe st' []) (fun n => n) 9223372036854775808 ⟨0, (List.length x0 : Int), h, (Sub.cons rfl (Le.refl _) (Sub.cons rfl (Le.refl _) (Sub.cons rfl (Le.refl _) (Sub.cons rfl (Le.refl _) (Sub.cons rfl (Le.refl _) (Sub.nil _)))))), trivial⟩ ?_
  rintro n env1 st1 ⟨iq61, j62, h, hsub, hst⟩
  cases n with
  | zero => rw [f110_l1] at h; cases h
  | succ n =>
  rw [f110_l1] at h
  refine WC.sub hsub (WC.weak hst ?_)
  refine wc_seq ?_
  refine wc_sr ?_
  refine WL.mv rfl rfl ?_
  refine WL.mv rfl rfl ?_
  refine WL.qn (y_lss rfl rfl) rfl ?_
  refine WL.ns ?_
  refine wc_cond rfl (fun hc1 => ?_) (fun hc1 => ?_)
  ·replace h := condT h hc1
   refine wc_skip ?_
   refine we_seq ?_
   refine wc_block ?_
   refine wc_sr ?_
   refine WL.mv rfl rfl ?_
   refine WL.mv rfl rfl ?_
   refine WL.qn (y_add rfl rfl rfl) rfl ?_
   refine WL.qn (y_conv Tryd.underlying3 Tryd.underlying109 rfl rfl) rfl ?_
   refine WL.qn (y_shr rfl rfl (by decide)) rfl ?_
   refine WL.qn (y_conv Tryd.underlying109 Tryd.underlying3 rfl rfl) rfl ?_
   refine WL.as rfl rfl ?_
   refine WL.ns ?_
   refine wc_sr ?_
   refine WL.mv rfl rfl ?_
   refine WL.mv rfl rfl ?_
   obtain ⟨x65, hx65, h⟩ := bindS h
   refine WL.qn (y_indexAddr e50 rfl (Le.refl _) rfl (idx_nonneg hx65) (idx_row E9_eq hx65) rfl) rfl ?_
   refine WL.qn (y_loadc rfl a9 rfl) rfl ?_
   refine WL.mv rfl rfl ?_
   refine WL.fn rfl rfl rfl rfl (f114_c _ _) ⟨(Le.refl _), (Le.refl _), trivial⟩ (Wt.none rfl) rfl rfl ?_
   refine WL.ns ?_
   refine wc_cond rfl (fun hc2 => ?_) (fun hc2 => ?_)
   ·replace h := condT h hc2
    refine wc_region ?_
    refine WL.mv rfl rfl ?_
    refine WL.qn (y_add rfl rfl rfl) rfl ?_
    refine WL.as rfl rfl ?_
    refine WL.nil ?_
    refine we_blk ?_
    exact we_lp ⟨n, ⟨(IntKind.i64.wrap ((IntKind.i64.wrap (Int.fdiv (IntKind.u64.wrap (IntKind.i64.wrap (iq61 + j62))) (2 ^ min (Int.toNat 1) IntKind.u64.bits))) + 1)), j62, h, (Sub.cons rfl (Le.refl _) (Sub.cons rfl (Le.refl _) (Sub.cons rfl (Le.refl _) (Sub.cons rfl (Le.refl _) (Sub.cons rfl (Le.refl _) (Sub.nil _)))))), trivial⟩, Nat.lt_succ_self n⟩
   ·replace h := condF h hc2
    refine wc_region ?_
    refine WL.mv rfl rfl ?_
    refine WL.as rfl rfl ?_
    refine WL.nil ?_
    refine we_blk ?_
    exact we_lp ⟨n, ⟨iq61, (IntKind.i64.wrap (Int.fdiv (IntKind.u64.wrap (IntKind.i64.wrap (iq61 + j62))) (2 ^ min (Int.toNat 1) IntKind.u64.bits))), h, (Sub.cons rfl (Le.refl _) (Sub.cons rfl (Le.refl _) (Sub.cons rfl (Le.refl _) (Sub.cons rfl (Le.refl _) (Sub.cons rfl (Le.refl _) (Sub.nil _)))))), trivial⟩, Nat.lt_succ_self n⟩
  ·replace h := condF h hc1
   refine wc_exit ?_
   refine we_seq_exit ?_
   refine we_lp_exit ?_
   refine we_blk_hit ?_
   exact we_lp ⟨iq61, h, (Sub.cons rfl (Le.refl _) (Sub.cons rfl (Le.refl _) (Sub.cons rfl (Le.refl _) (Sub.cons rfl (Le.refl _) (Sub.nil _))))), trivial⟩
 ·rintro env1 st1 ⟨iq57, h, hsub, hst⟩
  subst hk58
  dsimp only at h
  refine WC.sub hsub (WC.weak hst ?_)
  refine wc_sr ?_
  refine WL.mv rfl rfl ?_
  refine WL.mv rfl rfl ?_
  refine WL.mv rfl rfl ?_
  refine WL.qn (y_lss rfl rfl) rfl ?_
  refine WL.mv rfl rfl ?_
  obtain ⟨b66, hb66, h⟩ := bindS h
  apply WL.grp 18 (t := 35) (d := 53) (z := b66)
  ·exact rfl
  ·intro hg35
   have h := condT hb66 hg35
   refine WL.qy (y_move rfl) rfl rfl rfl ?_
   refine WL.qy (y_move rfl) rfl rfl rfl ?_
   obtain ⟨x67, hx67, h⟩ := bindS h
   refine WL.qy (y_indexAddr e50 rfl (Le.refl _) rfl (idx_nonneg hx67) (idx_row E9_eq hx67) rfl) rfl rfl rfl ?_
   refine WL.qy (y_loadc rfl a9 rfl) rfl rfl rfl ?_
   refine WL.qy (y_move rfl) rfl rfl rfl ?_
   refine WL.qy (y_eqs rfl rfl) rfl rfl rfl ?_
   refine WL.qy (y_move rfl) rfl rfl rfl ?_
   obtain ⟨b68, hb68, h⟩ := bindS h
   apply WL.grp 10 (t := 42) (d := 52) (z := b68)
   ·exact rfl
   ·intro hg42
    have h := condT hb68 hg42
    refine WL.skips 9 rfl ?_
    refine WL.qy (y_pick_t rfl rfl) rfl rfl rfl ?_
    obtain rfl := Option.some.inj h
    exact WL.nil ⟨rfl, [_, _, _, _, _, _, _, _, _, _], rfl, rfl, rfl⟩
   ·intro hg42
    have h := condF hb68 hg42
    refine WL.qy (y_move rfl) rfl rfl rfl ?_
    refine WL.qy (y_move rfl) rfl rfl rfl ?_
    obtain ⟨x69, hx69, h⟩ := bindS h
    refine WL.qy (y_indexAddr e50 rfl (Le.refl _) rfl (idx_nonneg hx69) (idx_row E9_eq hx69) rfl) rfl rfl rfl ?_
    refine WL.qy (y_loadc rfl a9 rfl) rfl rfl rfl ?_
    refine WL.fn rfl rfl rfl rfl (f115_c _) ⟨(Le.refl _), trivial⟩ (Wt.yes rfl rfl rfl) rfl rfl ?_
    refine WL.qy (y_move rfl) rfl rfl rfl ?_
    apply WL.and 3 (t := 48) (d := 51)
    ·exact rfl
    ·intro hg48
     refine WL.qy (y_move rfl) rfl rfl rfl ?_
     refine WL.fn rfl rfl rfl rfl (f115_c _) ⟨(Le.refl _), trivial⟩ (Wt.yes rfl rfl rfl) rfl rfl ?_
     refine WL.qy (y_pick_t rfl rfl) rfl rfl rfl ?_
     exact WL.nil ⟨rfl, [_, _, _], rfl, rfl, rfl⟩
    ·refine WL.skips 2 rfl ?_
     refine WL.qy (y_pick_f rfl rfl) rfl rfl rfl ?_
     exact WL.nil ⟨rfl, [_, _, _], rfl, rfl, rfl⟩
    refine WL.qy (y_pick_f rfl rfl) rfl rfl rfl ?_
    obtain rfl := Option.some.inj h
    exact WL.nil ⟨rfl, [_, _, _, _, _, _, _, _], rfl, rfl, rfl⟩
   refine WL.qn (y_pick_t rfl rfl) rfl ?_
   obtain rfl := Option.some.inj h
   exact WL.nil ⟨rfl, [_, _, _, _, _, _, _, _, _], rfl, rfl, rfl⟩
  ·intro hg35
   have h := condF hb66 hg35
   refine WL.skips 17 rfl ?_
   refine WL.qn (y_pick_f rfl rfl) rfl ?_
   obtain rfl := Option.some.inj h
   exact WL.nil ⟨rfl, [_, _, _, _, _, _, _, _, _, _, _, _, _, _, _, _, _, _], rfl, rfl, rfl⟩
  refine WL.as rfl rfl ?_
  refine WL.as rfl rfl ?_
  refine WL.ns ?_
  refine wc_ret ?_
  obtain rfl := Option.some.inj h
  exact we_ret_fn (rs2 rfl (rv_t rfl) (rv_t rfl)) (Le.tud ⟨(Le.refl _), (Le.refl _), trivial⟩)

theorem f116_c (s0 : ByteArray) {r : List ByteArray} (h : f116 s0 = some r) : Pu Tryd.prog 116 [.s s0] (.sl (List.map E9 r)) := by
 unfold f116 at h
 refine fn_intro Tryd.func116 (by kernel_rfl) rfl rfl rfl (fun φφ ww => ?_)
 refine wc_sr ?_
 refine WL.as rfl rfl ?_
 refine WL.ns ?_
 refine wc_sr ?_
 refine WL.as rfl rfl ?_
 refine WL.ns ?_
 refine wc_sr ?_
 refine WL.as rfl rfl ?_
 refine WL.ns ?_
 refine wc_sr ?_
 refine WL.as rfl rfl ?_
 refine WL.ns ?_
 replace h := letkS h
 obtain ⟨k110, hk110, h⟩ := h
 refine wc_cut (fun env' st' => ∃ (n108 : Int), ∃ (setBits109 : Int), k110 n108 setBits109 = some r ∧ Sub [(0, .d (D.s s0)), (3, .d (D.i .i64 n108)), (5, .d (D.i .u8 setBits109))] env' ∧ SLe st' []) ?_ ?_
 ·refine wc_sr ?_
  refine WL.as rfl rfl ?_
  refine WL.ns ?_
  refine wc_block ?_
  refine wc_loop (fun n env' st' => ∃ (n115 : Int), ∃ (wasSpace116 : Int), ∃ (setBits117 : Int), ∃ (iq118 : Int), f116_l1 s0 k110 n n115 wasSpace116 setBits117 iq118 = some r ∧ Sub [(0, .d (D.s s0)), (3, .d (D.i .i64 n115)), (4, .d (D.i .i64 wasSpace116)), (5, .d (D.i .u8 setBits117)), (6, .d (D.i .i64 iq118))] env' ∧ SLe st' []) (fun n => n) 9223372036854775808 ⟨0, 1, 0, 0, h, (Sub.cons rfl (Le.refl _) (Sub.cons rfl (Le.refl _) (Sub.cons rfl (Le.refl _) (Sub.cons rfl (Le.refl _) (Sub.cons rfl (Le.refl _) (Sub.nil _)))))), trivial⟩ ?_
  rintro n env1 st1 ⟨n115, wasSpace116, setBits117, iq118, h, hsub, hst⟩
  cases n with
  | zero => rw [f116_l1] at h; cases h
  | succ n =>
  rw [f116_l1] at h
  refine WC.sub hsub (WC.weak hst ?_)
  refine wc_seq ?_
  refine wc_sr ?_
  refine WL.mv rfl rfl ?_
  refine WL.mv rfl rfl ?_
  refine WL.qn (y_len_str Tryd.underlying9 rfl rfl) rfl ?_
  refine WL.qn (y_lss rfl rfl) rfl ?_
  refine WL.ns ?_
  refine wc_cond rfl (fun hc1 => ?_) (fun hc1 => ?_)
  ·replace h := condT h hc1
   refine wc_skip ?_
   refine we_seq ?_
   refine wc_seq ?_
   refine wc_block ?_
   refine wc_sr ?_
   refine WL.mv rfl rfl ?_
   refine WL.mv rfl rfl ?_
   obtain ⟨x123, hx123, h⟩ := bindS h
   refine WL.qn (y_sindex Tryd.underlying9 rfl rfl hx123) rfl ?_
   refine WL.as rfl rfl ?_
   refine WL.ns ?_
   refine wc_sr ?_
   refine WL.mv rfl rfl ?_
   refine WL.mv rfl rfl ?_
   refine WL.qn (y_or rfl rfl rfl) rfl ?_
   refine WL.as rfl rfl ?_
   refine WL.ns ?_
   refine wc_sr ?_
   refine WL.mv rfl rfl ?_
   obtain ⟨x124, hx124, h⟩ := bindS h
   refine WL.qn (y_tab (E := D.i .u8) asciiTab r125 rfl rfl rfl hx124) rfl ?_
   refine WL.qn (y_loadc rfl a5 rfl) rfl ?_
   refine WL.qn (y_conv Tryd.underlying5 Tryd.underlying3 rfl rfl) rfl ?_
   refine WL.as rfl rfl ?_
   refine WL.ns ?_
   refine wc_sr ?_
   refine WL.mv rfl rfl ?_
   refine WL.mv rfl rfl ?_
   refine WL.mv rfl rfl ?_
   refine WL.qn (y_com rfl rfl) rfl ?_
   refine WL.qn (y_and rfl rfl rfl) rfl ?_
   refine WL.qn (y_add rfl rfl rfl) rfl ?_
   refine WL.as rfl rfl ?_
   refine WL.ns ?_
   refine wc_region ?_
   refine WL.mv rfl rfl ?_
   refine WL.as rfl rfl ?_
   refine WL.nil ?_
   refine we_blk ?_
   refine we_seq ?_
   refine wc_region ?_
   refine WL.mv rfl rfl ?_
   refine WL.qn (y_add rfl rfl rfl) rfl ?_
   refine WL.as rfl rfl ?_
   refine WL.nil ?_
   exact we_lp ⟨n, ⟨(IntKind.i64.wrap (n115 + (IntKind.i64.wrap (BitVec.ofInt IntKind.i64.bits wasSpace116 &&& BitVec.ofInt IntKind.i64.bits (IntKind.i64.wrap (BitVec.ofInt IntKind.i64.bits (-1) ^^^ BitVec.ofInt IntKind.i64.bits (IntKind.i64.wrap x124)).toNat)).toNat))), (IntKind.i64.wrap x124), (IntKind.u8.wrap (BitVec.ofInt IntKind.u8.bits setBits117 ||| BitVec.ofInt IntKind.u8.bits x123).toNat), (IntKind.i64.wrap (iq118 + 1)), h, (Sub.cons rfl (Le.refl _) (Sub.cons rfl (Le.refl _) (Sub.cons rfl (Le.refl _) (Sub.cons rfl (Le.refl _) (Sub.cons rfl (Le.refl _) (Sub.nil _)))))), trivial⟩, Nat.lt_succ_self n⟩
  ·replace h := condF h hc1
   refine wc_exit ?_
   refine we_seq_exit ?_
   refine we_lp_exit ?_
   refine we_blk_hit ?_
   exact we_lp ⟨n115, setBits117, h, (Sub.cons rfl (Le.refl _) (Sub.cons rfl (Le.refl _) (Sub.cons rfl (Le.refl _) (Sub.nil _)))), trivial⟩
 ·rintro env1 st1 ⟨n108, setBits109, h, hsub, hst⟩
  subst hk110
  dsimp only at h
  refine WC.sub hsub (WC.weak hst ?_)
  refine wc_seq ?_
  refine wc_sr ?_
  refine WL.mv rfl rfl ?_
  refine WL.qn (y_geq rfl rfl) rfl ?_
  refine WL.ns ?_
  refine wc_cond rfl (fun hc2 => ?_) (fun hc2 => ?_)
  ·replace h := condT h hc2
   refine wc_seq ?_
   cases h
  ·replace h := condF h hc2
   refine wc_skip ?_
   refine we_seq ?_
   refine wc_sr ?_
   refine WL.mv rfl rfl ?_
   replace h := guardBS h
   obtain ⟨hgg125, h⟩ := h
   refine WL.s ((NewOs.b (NewOs.cast (n_makeSlice l50 z9 rfl (Nat.succ_pos _) rfl rfl hgg125) (by exact replicate_encA (R := E9) (z := (ByteArray.empty : ByteArray)) rfl))).does) (Wt.none rfl) rfl rfl ?_
   refine WL.as rfl rfl ?_
   refine WL.ns ?_
   refine wc_sr ?_
   refine WL.as rfl rfl ?_
   refine WL.ns ?_
   refine wc_sr ?_
   refine WL.as rfl rfl ?_
   refine WL.ns ?_
   refine wc_sr ?_
   refine WL.as rfl rfl ?_
   refine WL.ns ?_
   replace h := letkS h
   obtain ⟨k127, hk127, h⟩ := h
   refine wc_cut (fun env' st' => ∃ (iq126 : Int), k127 iq126 = some r ∧ Sub [(0, .d (D.s s0)), (9, .os 0 0), (10, .d (D.i .i64 0)), (12, .d (D.i .i64 iq126))] env' ∧ SLe st' [.os 9 1 0 (List.map (encA E9) (List.replicate (Int.toNat n108) (ByteArray.empty : ByteArray)))]) ?_ ?_
   ·refine wc_block ?_
    refine wc_loop (fun n env' st' => ∃ (iq129 : Int), f116_l2 s0 k127 n iq129 = some r ∧ Sub [(0, .d (D.s s0)), (9, .os 0 0), (10, .d (D.i .i64 0)), (12, .d (D.i .i64 iq129))] env' ∧ SLe st' [.os 9 1 0 (List.map (encA E9) (List.replicate (Int.toNat n108) (ByteArray.empty : ByteArray)))]) (fun n => n) 9223372036854775808 ⟨0, h, (Sub.cons rfl (Le.refl _) (Sub.cons rfl (Le.refl _) (Sub.cons rfl (Le.refl _) (Sub.cons rfl (Le.refl _) (Sub.nil _))))), ⟨⟨rfl, rfl, rfl, rfl⟩, trivial⟩⟩ ?_
    rintro n env1 st1 ⟨iq129, h, hsub, hst⟩
    cases n with
    | zero => rw [f116_l2] at h; cases h
    | succ n =>
    rw [f116_l2] at h
    refine WC.sub hsub (WC.weak hst ?_)
    refine wc_seq ?_
    refine wc_sr ?_
    refine WL.mv rfl rfl ?_
    refine WL.mv rfl rfl ?_
    refine WL.qn (y_len_str Tryd.underlying9 rfl rfl) rfl ?_
    refine WL.qn (y_lss rfl rfl) rfl ?_
    refine WL.mv rfl rfl ?_
    obtain ⟨b131, hb131, h⟩ := bindS h
    apply WL.grp 7 (t := 46) (d := 53) (z := b131)
    ·exact rfl
    ·intro hg46
     have h := condT hb131 hg46
     refine WL.qy (y_move rfl) rfl rfl rfl ?_
     refine WL.qy (y_move rfl) rfl rfl rfl ?_
     obtain ⟨x132, hx132, h⟩ := bindS h
     refine WL.qy (y_sindex Tryd.underlying9 rfl rfl hx132) rfl rfl rfl ?_
     obtain ⟨x133, hx133, h⟩ := bindS h
     refine WL.qy (y_tab (E := D.i .u8) asciiTab r125 rfl rfl rfl hx133) rfl rfl rfl ?_
     refine WL.qy (y_loadc rfl a5 rfl) rfl rfl rfl ?_
     refine WL.qy (y_neq rfl rfl) rfl rfl rfl ?_
     refine WL.qn (y_pick_t rfl rfl) rfl ?_
     obtain rfl := Option.some.inj h
     exact WL.nil ⟨rfl, [_, _, _, _, _, _, _], rfl, rfl, rfl⟩
    ·intro hg46
     have h := condF hb131 hg46
     refine WL.skips 6 rfl ?_
     refine WL.qn (y_pick_f rfl rfl) rfl ?_
     obtain rfl := Option.some.inj h
     exact WL.nil ⟨rfl, [_, _, _, _, _, _, _], rfl, rfl, rfl⟩
    refine WL.ns ?_
    refine wc_cond rfl (fun hc3 => ?_) (fun hc3 => ?_)
    ·replace h := condT h hc3
     refine wc_skip ?_
     refine we_seq ?_
     refine wc_block ?_
     refine wc_region ?_
     refine WL.mv rfl rfl ?_
     refine WL.qn (y_add rfl rfl rfl) rfl ?_
     refine WL.as rfl rfl ?_
     refine WL.nil ?_
     refine we_blk ?_
     exact we_lp ⟨n, ⟨(IntKind.i64.wrap (iq129 + 1)), h, (Sub.cons rfl (Le.refl _) (Sub.cons rfl (Le.refl _) (Sub.cons rfl (Le.refl _) (Sub.cons rfl (Le.refl _) (Sub.nil _))))), ⟨⟨rfl, rfl, rfl, rfl⟩, trivial⟩⟩, Nat.lt_succ_self n⟩
    ·replace h := condF h hc3
     refine wc_exit ?_
     refine we_seq_exit ?_
     refine we_lp_exit ?_
     refine we_blk_hit ?_
     exact we_lp ⟨iq129, h, (Sub.cons rfl (Le.refl _) (Sub.cons rfl (Le.refl _) (Sub.cons rfl (Le.refl _) (Sub.cons rfl (Le.refl _) (Sub.nil _))))), ⟨⟨rfl, rfl, rfl, rfl⟩, trivial⟩⟩
   ·rintro env1 st1 ⟨iq126, h, hsub, hst⟩
    subst hk127
    dsimp only at h
    refine WC.sub hsub (WC.weak hst ?_)
    refine wc_sr ?_
    refine WL.mv rfl rfl ?_
    refine WL.as rfl rfl ?_
    refine WL.ns ?_
    replace h := letkS h
    obtain ⟨k138, hk138, h⟩ := h
    refine wc_cut (fun env' st' => ∃ (na134 : Int), ∃ (fieldStart135 : Int), ∃ (l136 : List ByteArray), ∃ (ver137 : Nat), k138 na134 fieldStart135 l136 = some r ∧ Sub [(0, .d (D.s s0)), (9, .os 0 ver137), (10, .d (D.i .i64 na134)), (11, .d (D.i .i64 fieldStart135))] env' ∧ SLe st' [.os 9 1 ver137 (List.map (encA E9) l136)]) ?_ ?_
    ·refine wc_block ?_
     refine wc_loop (fun n env' st' => ∃ (na144 : Int), ∃ (fieldStart145 : Int), ∃ (iq146 : Int), ∃ (l147 : List ByteArray), ∃ (ver148 : Nat), f116_l3 s0 k138 n na144 fieldStart145 iq146 l147 = some r ∧ Sub [(0, .d (D.s s0)), (9, .os 0 ver148), (10, .d (D.i .i64 na144)), (11, .d (D.i .i64 fieldStart145)), (12, .d (D.i .i64 iq146))] env' ∧ SLe st' [.os 9 1 ver148 (List.map (encA E9) l147)]) (fun n => n) 9223372036854775808 ⟨0, iq126, iq126, (List.replicate (Int.toNat n108) (ByteArray.empty : ByteArray)), _, h, (Sub.cons rfl (Le.refl _) (Sub.cons rfl (Le.refl _) (Sub.cons rfl (Le.refl _) (Sub.cons rfl (Le.refl _) (Sub.cons rfl (Le.refl _) (Sub.nil _)))))), ⟨⟨rfl, rfl, rfl, rfl⟩, trivial⟩⟩ ?_
     rintro n env1 st1 ⟨na144, fieldStart145, iq146, l147, ver148, h, hsub, hst⟩
     cases n with
     | zero => rw [f116_l3] at h; cases h
     | succ n =>
     rw [f116_l3] at h
     refine WC.sub hsub (WC.weak hst ?_)
     refine wc_seq ?_
     refine wc_sr ?_
     refine WL.mv rfl rfl ?_
     refine WL.mv rfl rfl ?_
     refine WL.qn (y_len_str Tryd.underlying9 rfl rfl) rfl ?_
     refine WL.qn (y_lss rfl rfl) rfl ?_
     refine WL.ns ?_
     refine wc_cond rfl (fun hc4 => ?_) (fun hc4 => ?_)
     ·replace h := condT h hc4
      refine wc_skip ?_
      refine we_seq ?_
      refine wc_block ?_
      refine wc_seq ?_
      refine wc_sr ?_
      refine WL.mv rfl rfl ?_
      refine WL.mv rfl rfl ?_
      obtain ⟨x154, hx154, h⟩ := bindS h
      refine WL.qn (y_sindex Tryd.underlying9 rfl rfl hx154) rfl ?_
      obtain ⟨x155, hx155, h⟩ := bindS h
      refine WL.qn (y_tab (E := D.i .u8) asciiTab r125 rfl rfl rfl hx155) rfl ?_
      refine WL.qn (y_loadc rfl a5 rfl) rfl ?_
      refine WL.qn (y_eql rfl rfl) rfl ?_
      refine WL.ns ?_
      refine wc_cond rfl (fun hc5 => ?_) (fun hc5 => ?_)
      ·replace h := condT h hc5
       refine wc_sr ?_
       refine WL.mv rfl rfl ?_
       refine WL.qn (y_add rfl rfl rfl) rfl ?_
       refine WL.as rfl rfl ?_
       refine WL.ns ?_
       refine wc_exit ?_
       refine we_seq_exit ?_
       refine we_blk_hit ?_
       exact we_lp ⟨n, ⟨na144, fieldStart145, (IntKind.i64.wrap (iq146 + 1)), l147, _, h, (Sub.cons rfl (Le.refl _) (Sub.cons rfl (Le.refl _) (Sub.cons rfl (Le.refl _) (Sub.cons rfl (Le.refl _) (Sub.cons rfl (Le.refl _) (Sub.nil _)))))), ⟨⟨rfl, rfl, rfl, rfl⟩, trivial⟩⟩, Nat.lt_succ_self n⟩
      ·replace h := condF h hc5
       refine wc_skip ?_
       refine we_seq ?_
       refine wc_sr ?_
       refine WL.mv rfl rfl ?_
       refine WL.mv rfl rfl ?_
       refine WL.mv rfl rfl ?_
       refine WL.mv rfl rfl ?_
       refine WL.mv rfl rfl ?_
       obtain ⟨s156, hs156, h⟩ := bindS h
       refine WL.qn (y_scut Tryd.underlying9 rfl rfl rfl hs156) rfl ?_
       obtain ⟨x157, hx157, h⟩ := bindS h
       refine WL.qn (y_pe e50 rfl rfl rfl hx157) rfl ?_
       refine WL.s0 (d_store_peL (R := E9) (k := 1) (i := na144) (fo := 0) s156 rfl rfl rfl rfl (Le.refl _) rfl rfl rfl s9 rfl (fun _ => rfl) hx157 rfl rfl) (Wt.none rfl) rfl ?_
       refine WL.ns ?_
       refine wc_sr ?_
       refine WL.mv rfl rfl ?_
       refine WL.qn (y_add rfl rfl rfl) rfl ?_
       refine WL.as rfl rfl ?_
       refine WL.ns ?_
       refine wc_sr ?_
       refine WL.mv rfl rfl ?_
       refine WL.qn (y_add rfl rfl rfl) rfl ?_
       refine WL.as rfl rfl ?_
       refine WL.ns ?_
       replace h := letkS h
       obtain ⟨k159, hk159, h⟩ := h
       refine wc_cut (fun env' st' => ∃ (iq158 : Int), k159 iq158 = some r ∧ Sub [(0, .d (D.s s0)), (9, .os 0 ver148), (10, .d (D.i .i64 (IntKind.i64.wrap (na144 + 1)))), (12, .d (D.i .i64 iq158))] env' ∧ SLe st' [.os 9 1 ver148 (List.map (encA E9) (List.set l147 (Int.toNat na144) s156))]) ?_ ?_
       ·refine wc_block ?_
        refine wc_loop (fun na env' st' => ∃ (iq161 : Int), f116_l4 s0 k159 na iq161 = some r ∧ Sub [(0, .d (D.s s0)), (9, .os 0 ver148), (10, .d (D.i .i64 (IntKind.i64.wrap (na144 + 1)))), (12, .d (D.i .i64 iq161))] env' ∧ SLe st' [.os 9 1 ver148 (List.map (encA E9) (List.set l147 (Int.toNat na144) s156))]) (fun n => n) 9223372036854775808 ⟨(IntKind.i64.wrap (iq146 + 1)), h, (Sub.cons rfl (Le.refl _) (Sub.cons rfl (Le.refl _) (Sub.cons rfl (Le.refl _) (Sub.cons rfl (Le.refl _) (Sub.nil _))))), ⟨⟨rfl, rfl, rfl, rfl⟩, trivial⟩⟩ ?_
        rintro na env1 st1 ⟨iq161, h, hsub, hst⟩
        cases na with
        | zero => rw [f116_l4] at h; cases h
        | succ na =>
        rw [f116_l4] at h
        refine WC.sub hsub (WC.weak hst ?_)
        refine wc_seq ?_
        refine wc_sr ?_
        refine WL.mv rfl rfl ?_
        refine WL.mv rfl rfl ?_
        refine WL.qn (y_len_str Tryd.underlying9 rfl rfl) rfl ?_
        refine WL.qn (y_lss rfl rfl) rfl ?_
        refine WL.mv rfl rfl ?_
        obtain ⟨b163, hb163, h⟩ := bindS h
        apply WL.grp 7 (t := 84) (d := 91) (z := b163)
        ·exact rfl
        ·intro hg84
         have h := condT hb163 hg84
         refine WL.qy (y_move rfl) rfl rfl rfl ?_
         refine WL.qy (y_move rfl) rfl rfl rfl ?_
         obtain ⟨x164, hx164, h⟩ := bindS h
         refine WL.qy (y_sindex Tryd.underlying9 rfl rfl hx164) rfl rfl rfl ?_
         obtain ⟨x165, hx165, h⟩ := bindS h
         refine WL.qy (y_tab (E := D.i .u8) asciiTab r125 rfl rfl rfl hx165) rfl rfl rfl ?_
         refine WL.qy (y_loadc rfl a5 rfl) rfl rfl rfl ?_
         refine WL.qy (y_neq rfl rfl) rfl rfl rfl ?_
         refine WL.qn (y_pick_t rfl rfl) rfl ?_
         obtain rfl := Option.some.inj h
         exact WL.nil ⟨rfl, [_, _, _, _, _, _, _], rfl, rfl, rfl⟩
        ·intro hg84
         have h := condF hb163 hg84
         refine WL.skips 6 rfl ?_
         refine WL.qn (y_pick_f rfl rfl) rfl ?_
         obtain rfl := Option.some.inj h
         exact WL.nil ⟨rfl, [_, _, _, _, _, _, _], rfl, rfl, rfl⟩
        refine WL.ns ?_
        refine wc_cond rfl (fun hc6 => ?_) (fun hc6 => ?_)
        ·replace h := condT h hc6
         refine wc_skip ?_
         refine we_seq ?_
         refine wc_block ?_
         refine wc_region ?_
         refine WL.mv rfl rfl ?_
         refine WL.qn (y_add rfl rfl rfl) rfl ?_
         refine WL.as rfl rfl ?_
         refine WL.nil ?_
         refine we_blk ?_
         exact we_lp ⟨na, ⟨(IntKind.i64.wrap (iq161 + 1)), h, (Sub.cons rfl (Le.refl _) (Sub.cons rfl (Le.refl _) (Sub.cons rfl (Le.refl _) (Sub.cons rfl (Le.refl _) (Sub.nil _))))), ⟨⟨rfl, rfl, rfl, rfl⟩, trivial⟩⟩, Nat.lt_succ_self na⟩
        ·replace h := condF h hc6
         refine wc_exit ?_
         refine we_seq_exit ?_
         refine we_lp_exit ?_
         refine we_blk_hit ?_
         exact we_lp ⟨iq161, h, (Sub.cons rfl (Le.refl _) (Sub.cons rfl (Le.refl _) (Sub.cons rfl (Le.refl _) (Sub.cons rfl (Le.refl _) (Sub.nil _))))), ⟨⟨rfl, rfl, rfl, rfl⟩, trivial⟩⟩
       ·rintro env1 st1 ⟨iq158, h, hsub, hst⟩
        subst hk159
        dsimp only at h
        refine WC.sub hsub (WC.weak hst ?_)
        refine wc_region ?_
        refine WL.mv rfl rfl ?_
        refine WL.as rfl rfl ?_
        refine WL.nil ?_
        refine we_blk ?_
        exact we_lp ⟨n, ⟨(IntKind.i64.wrap (na144 + 1)), iq158, iq158, (List.set l147 (Int.toNat na144) s156), _, h, (Sub.cons rfl (Le.refl _) (Sub.cons rfl (Le.refl _) (Sub.cons rfl (Le.refl _) (Sub.cons rfl (Le.refl _) (Sub.cons rfl (Le.refl _) (Sub.nil _)))))), ⟨⟨rfl, rfl, rfl, rfl⟩, trivial⟩⟩, Nat.lt_succ_self n⟩
     ·replace h := condF h hc4
      refine wc_exit ?_
      refine we_seq_exit ?_
      refine we_lp_exit ?_
      refine we_blk_hit ?_
      exact we_lp ⟨na144, fieldStart145, l147, _, h, (Sub.cons rfl (Le.refl _) (Sub.cons rfl (Le.refl _) (Sub.cons rfl (Le.refl _) (Sub.cons rfl (Le.refl _) (Sub.nil _))))), ⟨⟨rfl, rfl, rfl, rfl⟩, trivial⟩⟩
    ·rintro env1 st1 ⟨na134, fieldStart135, l136, ver137, h, hsub, hst⟩
     subst hk138
     dsimp only at h
     refine WC.sub hsub (WC.weak hst ?_)
     replace h := letkS h
     obtain ⟨k168, hk168, h⟩ := h
     refine wc_cut (fun env' st' => ∃ (l166 : List ByteArray), ∃ (ver167 : Nat), k168 l166 = some r ∧ Sub [(9, .os 0 ver167)] env' ∧ SLe st' [.os 9 1 ver167 (List.map (encA E9) l166)]) ?_ ?_
     ·refine wc_sr ?_
      refine WL.mv rfl rfl ?_
      refine WL.mv rfl rfl ?_
      refine WL.qn (y_len_str Tryd.underlying9 rfl rfl) rfl ?_
      refine WL.qn (y_lss rfl rfl) rfl ?_
      refine WL.ns ?_
      refine wc_cond rfl (fun hc7 => ?_) (fun hc7 => ?_)
      ·replace h := condT h hc7
       refine wc_region ?_
       refine WL.mv rfl rfl ?_
       refine WL.mv rfl rfl ?_
       refine WL.mv rfl rfl ?_
       refine WL.mv rfl rfl ?_
       obtain ⟨s169, hs169, h⟩ := bindS h
       refine WL.qn (y_scutl Tryd.underlying9 rfl rfl hs169) rfl ?_
       obtain ⟨x170, hx170, h⟩ := bindS h
       refine WL.qn (y_pe e50 rfl rfl rfl hx170) rfl ?_
       refine WL.s0 (d_store_peL (R := E9) (k := 1) (i := na134) (fo := 0) s169 rfl rfl rfl rfl (Le.refl _) rfl rfl rfl s9 rfl (fun _ => rfl) hx170 rfl rfl) (Wt.none rfl) rfl ?_
       refine WL.nil ?_
       exact we_lp ⟨(List.set l136 (Int.toNat na134) s169), _, h, (Sub.cons rfl (Le.refl _) (Sub.nil _)), ⟨⟨rfl, rfl, rfl, rfl⟩, trivial⟩⟩
      ·replace h := condF h hc7
       refine wc_skip ?_
       exact we_lp ⟨l136, _, h, (Sub.cons rfl (Le.refl _) (Sub.nil _)), ⟨⟨rfl, rfl, rfl, rfl⟩, trivial⟩⟩
     ·rintro env1 st1 ⟨l166, ver167, h, hsub, hst⟩
      subst hk168
      dsimp only at h
      refine WC.sub hsub (WC.weak hst ?_)
      refine wc_sr ?_
      refine WL.mv rfl rfl ?_
      refine WL.as rfl rfl ?_
      refine WL.ns ?_
      refine wc_ret ?_
      refine WE.freezeX [9, 105, 2] [] 0 (List.map E9 l166) rfl (encA_map E9_eq l166) ⟨rfl, rfl, rfl, trivial⟩ trivial ?_
      obtain rfl := Option.some.inj h
      exact we_ret_fn (rs1 rfl (rv_t rfl)) (Le.refl _)

theorem f112_c (s10 : List ByteArray) (s21 : List ByteArray) {r : Bool} (h : f112 s10 s21 = some r) : Pu Tryd.prog 112 [.sl (List.map E9 s10), .sl (List.map E9 s21)] (.b r) := by
 unfold f112 at h
 refine fn_intro Tryd.func112 (by kernel_rfl) rfl rfl rfl (fun φφ ww => ?_)
 refine wc_sr ?_
 refine WL.as rfl rfl ?_
 refine WL.ns ?_
 refine wc_seq ?_
 refine wc_sr ?_
 refine WL.mv rfl rfl ?_
 refine WL.qn (y_len_map E9 s10 e50 rfl rfl (Le.refl _)) rfl ?_
 refine WL.mv rfl rfl ?_
 refine WL.qn (y_len_map E9 s21 e50 rfl rfl (Le.refl _)) rfl ?_
 refine WL.qn (y_neq rfl rfl) rfl ?_
 refine WL.ns ?_
 refine wc_cond rfl (fun hc1 => ?_) (fun hc1 => ?_)
 ·replace h := condT h hc1
  refine wc_sr ?_
  refine WL.as rfl rfl ?_
  refine WL.ns ?_
  refine wc_ret ?_
  refine we_seq_ret ?_
  obtain rfl := Option.some.inj h
  exact we_ret_fn (rs1 rfl (rv_t rfl)) (Le.refl _)
 ·replace h := condF h hc1
  refine wc_skip ?_
  refine we_seq ?_
  replace h := letkS h
  obtain ⟨k29, hk29, h⟩ := h
  refine wc_cut (fun env' st' => k29 () = some r ∧ Sub [] env' ∧ SLe st' []) ?_ ?_
  ·refine wc_sr ?_
   refine WL.mv rfl rfl ?_
   refine WL.qn (y_len_map E9 s10 e50 rfl rfl (Le.refl _)) rfl ?_
   refine WL.mv rfl rfl ?_
   refine WL.ns ?_
   refine wc_block ?_
   refine wc_loop (fun n env' st' => ∃ (t31 : Int), f112_l1 s10 s21 k29 n t31 = some r ∧ Sub [(0, .d (.sl (List.map E9 s10))), (1, .d (.sl (List.map E9 s21))), (12, .d (D.i .i64 (List.length s10 : Int))), (13, .d (D.i .i64 t31))] env' ∧ SLe st' []) (fun n => n) (Int.toNat ((List.length s10 : Int) - 0) + 1) ⟨0, h, (Sub.cons rfl (Le.refl _) (Sub.cons rfl (Le.refl _) (Sub.cons rfl (Le.refl _) (Sub.cons rfl (Le.refl _) (Sub.nil _))))), trivial⟩ ?_
   rintro n env1 st1 ⟨t31, h, hsub, hst⟩
   cases n with
   | zero => rw [f112_l1] at h; cases h
   | succ n =>
   rw [f112_l1] at h
   refine WC.sub hsub (WC.weak hst ?_)
   refine wc_sr ?_
   refine WL.qn (y_lss rfl rfl) rfl ?_
   refine WL.ns ?_
   refine wc_seq ?_
   refine wc_cond rfl (fun hc2 => ?_) (fun hc2 => ?_)
   ·replace h := condT h hc2
    refine wc_skip ?_
    refine we_seq ?_
    refine wc_seq ?_
    refine wc_block ?_
    refine wc_sr ?_
    refine WL.mv rfl rfl ?_
    refine WL.as rfl rfl ?_
    refine WL.ns ?_
    refine wc_seq ?_
    refine wc_region_draw (by kernel_rfl) (by kernel_rfl) ?_
    refine WQ.qn (y_move rfl) rfl ?_
    refine WQ.qn (y_move rfl) rfl ?_
    obtain ⟨x33, hx33, h⟩ := bindS h
    refine WQ.qn (y_indexAddr e50 rfl (Le.refl _) rfl (idx_nonneg hx33) (idx_row E9_eq hx33) rfl) rfl ?_
    refine WQ.qn (y_loadc rfl a9 rfl) rfl ?_
    refine WQ.qn (y_move rfl) rfl ?_
    refine WQ.qn (y_move rfl) rfl ?_
    obtain ⟨x34, hx34, h⟩ := bindS h
    refine WQ.qn (y_indexAddr e50 rfl (Le.refl _) rfl (idx_nonneg hx34) (idx_row E9_eq hx34) rfl) rfl ?_
    refine WQ.qn (y_loadc rfl a9 rfl) rfl ?_
    refine WQ.qn (y_nes rfl rfl) rfl ?_
    refine WQ.nil ?_
    refine we_seq ?_
    refine wc_cond rfl (fun hc3 => ?_) (fun hc3 => ?_)
    ·replace h := condT h hc3
     refine wc_sr ?_
     refine WL.as rfl rfl ?_
     refine WL.ns ?_
     refine wc_ret ?_
     refine we_blk_ret ?_
     refine we_seq_ret ?_
     refine we_lp_ret ?_
     refine we_blk_ret ?_
     refine we_lp_ret ?_
     obtain rfl := Option.some.inj h
     exact we_ret_fn (rs1 rfl (rv_t rfl)) (Le.refl _)
    ·replace h := condF h hc3
     refine wc_skip ?_
     refine we_blk ?_
     refine we_seq ?_
     refine wc_region ?_
     refine WL.qn (y_add rfl rfl rfl) rfl ?_
     refine WL.mv rfl rfl ?_
     refine WL.nil ?_
     exact we_lp ⟨n, ⟨(IntKind.i64.wrap (t31 + 1)), h, (Sub.cons rfl (Le.refl _) (Sub.cons rfl (Le.refl _) (Sub.cons rfl (Le.refl _) (Sub.cons rfl (Le.refl _) (Sub.nil _))))), trivial⟩, Nat.lt_succ_self n⟩
   ·replace h := condF h hc2
    refine wc_exit ?_
    refine we_seq_exit ?_
    refine we_lp_exit ?_
    refine we_blk_hit ?_
    exact we_lp ⟨h, (Sub.nil _), trivial⟩
  ·rintro env1 st1 ⟨h, hsub, hst⟩
   subst hk29
   dsimp only at h
   refine WC.sub hsub (WC.weak hst ?_)
   refine wc_sr ?_
   refine WL.as rfl rfl ?_
   refine WL.ns ?_
   refine wc_ret ?_
   obtain rfl := Option.some.inj h
   exact we_ret_fn (rs1 rfl (rv_t rfl)) (Le.refl _)

theorem f117_c (s0 : List ByteArray) (v1 : ByteArray) {r : Int} (h : f117 s0 v1 = some r) : Pu Tryd.prog 117 [.sl (List.map E9 s0), .s v1] (.i .i64 r) := by
 unfold f117 at h
 refine fn_intro Tryd.func117 (by kernel_rfl) rfl rfl rfl (fun φφ ww => ?_)
 refine wc_sr ?_
 refine WL.as rfl rfl ?_
 refine WL.ns ?_
 replace h := letkS h
 obtain ⟨k22, hk22, h⟩ := h
 refine wc_cut (fun env' st' => k22 () = some r ∧ Sub [] env' ∧ SLe st' []) ?_ ?_
 ·refine wc_sr ?_
  refine WL.mv rfl rfl ?_
  refine WL.qn (y_len_map E9 s0 e50 rfl rfl (Le.refl _)) rfl ?_
  refine WL.mv rfl rfl ?_
  refine WL.ns ?_
  refine wc_block ?_
  refine wc_loop (fun n env' st' => ∃ (t24 : Int), f117_l1 s0 v1 k22 n t24 = some r ∧ Sub [(0, .d (.sl (List.map E9 s0))), (1, .d (D.s v1)), (7, .d (D.i .i64 (List.length s0 : Int))), (8, .d (D.i .i64 t24))] env' ∧ SLe st' []) (fun n => n) (Int.toNat ((List.length s0 : Int) - 0) + 1) ⟨0, h, (Sub.cons rfl (Le.refl _) (Sub.cons rfl (Le.refl _) (Sub.cons rfl (Le.refl _) (Sub.cons rfl (Le.refl _) (Sub.nil _))))), trivial⟩ ?_
  rintro n env1 st1 ⟨t24, h, hsub, hst⟩
  cases n with
  | zero => rw [f117_l1] at h; cases h
  | succ n =>
  rw [f117_l1] at h
  refine WC.sub hsub (WC.weak hst ?_)
  refine wc_sr ?_
  refine WL.qn (y_lss rfl rfl) rfl ?_
  refine WL.ns ?_
  refine wc_seq ?_
  refine wc_cond rfl (fun hc1 => ?_) (fun hc1 => ?_)
  ·replace h := condT h hc1
   refine wc_skip ?_
   refine we_seq ?_
   refine wc_seq ?_
   refine wc_block ?_
   refine wc_sr ?_
   refine WL.mv rfl rfl ?_
   refine WL.as rfl rfl ?_
   refine WL.ns ?_
   refine wc_sr ?_
   refine WL.mv rfl rfl ?_
   refine WL.mv rfl rfl ?_
   refine WL.mv rfl rfl ?_
   obtain ⟨x26, hx26, h⟩ := bindS h
   refine WL.qn (y_indexAddr e50 rfl (Le.refl _) rfl (idx_nonneg hx26) (idx_row E9_eq hx26) rfl) rfl ?_
   refine WL.qn (y_loadc rfl a9 rfl) rfl ?_
   refine WL.qn (y_eqs rfl rfl) rfl ?_
   refine WL.ns ?_
   refine wc_cond rfl (fun hc2 => ?_) (fun hc2 => ?_)
   ·replace h := condT h hc2
    refine wc_sr ?_
    refine WL.mv rfl rfl ?_
    refine WL.as rfl rfl ?_
    refine WL.ns ?_
    refine wc_ret ?_
    refine we_blk_ret ?_
    refine we_seq_ret ?_
    refine we_lp_ret ?_
    refine we_blk_ret ?_
    refine we_lp_ret ?_
    obtain rfl := Option.some.inj h
    exact we_ret_fn (rs1 rfl (rv_t rfl)) (Le.refl _)
   ·replace h := condF h hc2
    refine wc_skip ?_
    refine we_blk ?_
    refine we_seq ?_
    refine wc_region ?_
    refine WL.qn (y_add rfl rfl rfl) rfl ?_
    refine WL.mv rfl rfl ?_
    refine WL.nil ?_
    exact we_lp ⟨n, ⟨(IntKind.i64.wrap (t24 + 1)), h, (Sub.cons rfl (Le.refl _) (Sub.cons rfl (Le.refl _) (Sub.cons rfl (Le.refl _) (Sub.cons rfl (Le.refl _) (Sub.nil _))))), trivial⟩, Nat.lt_succ_self n⟩
  ·replace h := condF h hc1
   refine wc_exit ?_
   refine we_seq_exit ?_
   refine we_lp_exit ?_
   refine we_blk_hit ?_
   exact we_lp ⟨h, (Sub.nil _), trivial⟩
 ·rintro env1 st1 ⟨h, hsub, hst⟩
  subst hk22
  dsimp only at h
  refine WC.sub hsub (WC.weak hst ?_)
  refine wc_sr ?_
  refine WL.as rfl rfl ?_
  refine WL.ns ?_
  refine wc_ret ?_
  obtain rfl := Option.some.inj h
  exact we_ret_fn (rs1 rfl (rv_t rfl)) (Le.refl _)

theorem f113_c (s0 : List ByteArray) (v1 : ByteArray) {r : Bool} (h : f113 s0 v1 = some r) : Pu Tryd.prog 113 [.sl (List.map E9 s0), .s v1] (.b r) := by
 unfold f113 at h
 refine fn_intro Tryd.func113 (by kernel_rfl) rfl rfl rfl (fun φφ ww => ?_)
 refine wc_sr ?_
 refine WL.as rfl rfl ?_
 refine WL.ns ?_
 refine wc_sr ?_
 refine WL.mv rfl rfl ?_
 refine WL.mv rfl rfl ?_
 obtain ⟨r12, hr12, h⟩ := bindS h
 refine WL.fn rfl rfl rfl rfl (f117_c _ _ hr12) ⟨(Le.refl _), (Le.refl _), trivial⟩ (Wt.none rfl) rfl rfl ?_
 refine WL.qn (y_geq rfl rfl) rfl ?_
 refine WL.as rfl rfl ?_
 refine WL.ns ?_
 refine wc_ret ?_
 obtain rfl := Option.some.inj h
 exact we_ret_fn (rs1 rfl (rv_t rfl)) (Le.refl _)
theorem f33_c (a0 : List Int) (b1 : List Int) {r : Bool} (h : f33 a0 b1 = some r) : Pu Tryd.prog 33 [.sl (List.map E2 a0), .sl (List.map E2 b1)] (.b r) := by
 unfold f33 at h
 refine fn_intro Tryd.func33 (by kernel_rfl) rfl rfl rfl (fun φφ ww => ?_)
 refine wc_sr ?_
 refine WL.as rfl rfl ?_
 refine WL.ns ?_
 refine wc_seq ?_
 refine wc_sr ?_
 refine WL.mv rfl rfl ?_
 refine WL.qn (y_len_map E2 a0 e41 rfl rfl (Le.refl _)) rfl ?_
 refine WL.mv rfl rfl ?_
 refine WL.qn (y_len_map E2 b1 e41 rfl rfl (Le.refl _)) rfl ?_
 refine WL.qn (y_neq rfl rfl) rfl ?_
 refine WL.ns ?_
 refine wc_cond rfl (fun hc1 => ?_) (fun hc1 => ?_)
 ·replace h := condT h hc1
  refine wc_sr ?_
  refine WL.as rfl rfl ?_
  refine WL.ns ?_
  refine wc_ret ?_
  refine we_seq_ret ?_
  obtain rfl := Option.some.inj h
  exact we_ret_fn (rs1 rfl (rv_t rfl)) (Le.refl _)
 ·replace h := condF h hc1
  refine wc_skip ?_
  refine we_seq ?_
  replace h := letkS h
  obtain ⟨k29, hk29, h⟩ := h
  refine wc_cut (fun env' st' => k29 () = some r ∧ Sub [] env' ∧ SLe st' []) ?_ ?_
  ·refine wc_sr ?_
   refine WL.as rfl rfl ?_
   refine WL.ns ?_
   refine wc_block ?_
   refine wc_loop (fun n env' st' => ∃ (iq31 : Int), f33_l1 a0 b1 k29 n iq31 = some r ∧ Sub [(0, .d (.sl (List.map E2 a0))), (1, .d (.sl (List.map E2 b1))), (5, .d (D.i .i64 iq31))] env' ∧ SLe st' []) (fun n => n) 9223372036854775808 ⟨0, h, (Sub.cons rfl (Le.refl _) (Sub.cons rfl (Le.refl _) (Sub.cons rfl (Le.refl _) (Sub.nil _)))), trivial⟩ ?_
   rintro n env1 st1 ⟨iq31, h, hsub, hst⟩
   cases n with
   | zero => rw [f33_l1] at h; cases h
   | succ n =>
   rw [f33_l1] at h
   refine WC.sub hsub (WC.weak hst ?_)
   refine wc_seq ?_
   refine wc_sr ?_
   refine WL.mv rfl rfl ?_
   refine WL.mv rfl rfl ?_
   refine WL.qn (y_len_map E2 a0 e41 rfl rfl (Le.refl _)) rfl ?_
   refine WL.qn (y_lss rfl rfl) rfl ?_
   refine WL.ns ?_
   refine wc_cond rfl (fun hc2 => ?_) (fun hc2 => ?_)
   ·replace h := condT h hc2
    refine wc_skip ?_
    refine we_seq ?_
    refine wc_seq ?_
    refine wc_block ?_
    refine wc_seq ?_
    refine wc_region_draw (by kernel_rfl) (by kernel_rfl) ?_
    refine WQ.qn (y_move rfl) rfl ?_
    refine WQ.qn (y_move rfl) rfl ?_
    obtain ⟨x33, hx33, h⟩ := bindS h
    refine WQ.qn (y_indexAddr e41 rfl (Le.refl _) rfl (idx_nonneg hx33) (idx_row E2_eq hx33) rfl) rfl ?_
    refine WQ.qn (y_loadc rfl a2 rfl) rfl ?_
    refine WQ.qn (y_move rfl) rfl ?_
    refine WQ.qn (y_move rfl) rfl ?_
    obtain ⟨x34, hx34, h⟩ := bindS h
    refine WQ.qn (y_indexAddr e41 rfl (Le.refl _) rfl (idx_nonneg hx34) (idx_row E2_eq hx34) rfl) rfl ?_
    refine WQ.qn (y_loadc rfl a2 rfl) rfl ?_
    refine WQ.qn (y_neq rfl rfl) rfl ?_
    refine WQ.nil ?_
    refine we_seq ?_
    refine wc_cond rfl (fun hc3 => ?_) (fun hc3 => ?_)
    ·replace h := condT h hc3
     refine wc_sr ?_
     refine WL.as rfl rfl ?_
     refine WL.ns ?_
     refine wc_ret ?_
     refine we_blk_ret ?_
     refine we_seq_ret ?_
     refine we_lp_ret ?_
     refine we_blk_ret ?_
     refine we_lp_ret ?_
     obtain rfl := Option.some.inj h
     exact we_ret_fn (rs1 rfl (rv_t rfl)) (Le.refl _)
    ·replace h := condF h hc3
     refine wc_skip ?_
     refine we_blk ?_
     refine we_seq ?_
     refine wc_region ?_
     refine WL.mv rfl rfl ?_
     refine WL.qn (y_add rfl rfl rfl) rfl ?_
     refine WL.as rfl rfl ?_
     refine WL.nil ?_
     exact we_lp ⟨n, ⟨(IntKind.i64.wrap (iq31 + 1)), h, (Sub.cons rfl (Le.refl _) (Sub.cons rfl (Le.refl _) (Sub.cons rfl (Le.refl _) (Sub.nil _)))), trivial⟩, Nat.lt_succ_self n⟩
   ·replace h := condF h hc2
    refine wc_exit ?_
    refine we_seq_exit ?_
    refine we_lp_exit ?_
    refine we_blk_hit ?_
    exact we_lp ⟨h, (Sub.nil _), trivial⟩
  ·rintro env1 st1 ⟨h, hsub, hst⟩
   subst hk29
   dsimp only at h
   refine WC.sub hsub (WC.weak hst ?_)
   refine wc_sr ?_
   refine WL.as rfl rfl ?_
   refine WL.ns ?_
   refine wc_ret ?_
   obtain rfl := Option.some.inj h
   exact we_ret_fn (rs1 rfl (rv_t rfl)) (Le.refl _)

theorem f37_c (kind0 : Int) : Pu Tryd.prog 37 [.i .u8 kind0] (.ag (R54 (f37 kind0))) := by
 generalize h : f37 kind0 = r
 unfold f37 at h
 refine fn_intro Tryd.func37 (by kernel_rfl) rfl rfl rfl (fun φφ ww => ?_)
 refine wc_sr ?_
 refine WL.s ((b_alloc z54).does) (Wt.none rfl) rfl rfl ?_
 refine WL.ns ?_
 refine wc_sr ?_
 refine WL.mv rfl rfl ?_
 refine WL.qn (y_build p54 z54 rfl rfl) rfl ?_
 refine WL.s0 (d_store rfl rfl rfl rfl rfl rfl s54 rfl rfl) (Wt.none rfl) rfl ?_
 refine WL.st (st' := [.row 54 [.d (D.i .u8 kind0), .d (D.s ByteArray.empty), .d (D.i .i64 (-1)), .d (D.i .i64 (-1)), .d (.v (.slice none 0 0)), .d (D.i .i64 (-1)), .d (D.i .i64 (-1)), .d (D.i .i64 (-1)), .d (D.s ByteArray.empty), .d (D.b false), .d (D.i .i64 0), .d (.v (.slice none 0 0)), .d (D.i .i64 (-1)), .d (D.i .u8 0), .d (D.b false), .d (D.i .i64 (-1)), .d (D.i .i64 0), .d (D.i .i64 0)]]) rfl ?_
 refine WL.ns ?_
 refine wc_ret ?_
 subst h
 exact we_ret_fn (rs1 rfl (rv_cN rfl rfl a54 s54 rfl)) (Le.agd ⟨(Le.refl _), (Le.refl _), (Le.refl _), (Le.refl _), Le.nil, (Le.refl _), (Le.refl _), (Le.refl _), (Le.refl _), (Le.refl _), (Le.refl _), Le.nil, (Le.refl _), (Le.refl _), (Le.refl _), (Le.refl _), (Le.refl _), (Le.refl _), trivial⟩)

theorem f49_c (l0 : List Ty) (i1 : Int) {r : Ty × Bool} (h : f49 l0 i1 = some r) : Pu Tryd.prog 49 [.sl (List.map E54 l0), .i .i64 i1] (.tu [.ag (R54 r.1), .b r.2]) := by
 unfold f49 at h
 refine fn_intro Tryd.func49 (by kernel_rfl) rfl rfl rfl (fun φφ ww => ?_)
 refine wc_sr ?_
 refine WL.s ((b_alloc z54).does) (Wt.none rfl) rfl rfl ?_
 refine WL.as rfl rfl ?_
 refine WL.ns ?_
 refine wc_seq ?_
 refine wc_sr ?_
 refine WL.mv rfl rfl ?_
 refine WL.qn (y_lss rfl rfl) rfl ?_
 refine WL.mv rfl rfl ?_
 apply WL.or 5 (t := 8) (d := 13)
 ·exact rfl
 ·intro hg8
  refine WL.qy (y_move rfl) rfl rfl rfl ?_
  refine WL.qy (y_move rfl) rfl rfl rfl ?_
  refine WL.qy (y_len_map E54 l0 e22 rfl rfl (Le.refl _)) rfl rfl rfl ?_
  refine WL.qy (y_geq rfl rfl) rfl rfl rfl ?_
  refine WL.qn (y_pick_f rfl rfl) rfl ?_
  exact WL.nil ⟨rfl, [_, _, _, _, _], rfl, rfl, rfl⟩
 ·refine WL.skips 4 rfl ?_
  refine WL.qn (y_pick_t rfl rfl) rfl ?_
  exact WL.nil ⟨rfl, [_, _, _, _, _], rfl, rfl, rfl⟩
 refine WL.ns ?_
 refine wc_cond rfl (fun hc1 => ?_) (fun hc1 => ?_)
 ·replace h := condT h hc1
  refine wc_sr ?_
  refine WL.qn (y_loadN rfl rfl a54 s54 rfl) rfl ?_
  refine WL.s0 (d_store rfl rfl rfl rfl rfl rfl s54 rfl rfl) (Wt.none rfl) rfl ?_
  refine WL.st (st' := [.row 54 [.d (D.i .u8 0), .d (D.s ByteArray.empty), .d (D.i .i64 0), .d (D.i .i64 0), .d (.v (.slice none 0 0)), .d (D.i .i64 0), .d (D.i .i64 0), .d (D.i .i64 0), .d (D.s ByteArray.empty), .d (D.b false), .d (D.i .i64 0), .d (.v (.slice none 0 0)), .d (D.i .i64 0), .d (D.i .u8 0), .d (D.b false), .d (D.i .i64 0), .d (D.i .i64 0), .d (D.i .i64 0)]]) rfl ?_
  refine WL.as rfl rfl ?_
  refine WL.ns ?_
  refine wc_ret ?_
  refine we_seq_ret ?_
  obtain rfl := Option.some.inj h
  exact we_ret_fn (rs2 rfl (rv_cN rfl rfl a54 s54 rfl) (rv_t rfl)) (Le.tud ⟨(Le.agd ⟨(Le.refl _), (Le.refl _), (Le.refl _), (Le.refl _), Le.nil, (Le.refl _), (Le.refl _), (Le.refl _), (Le.refl _), (Le.refl _), (Le.refl _), Le.nil, (Le.refl _), (Le.refl _), (Le.refl _), (Le.refl _), (Le.refl _), (Le.refl _), trivial⟩), (Le.refl _), trivial⟩)
 ·replace h := condF h hc1
  refine wc_skip ?_
  refine we_seq ?_
  refine wc_sr ?_
  refine WL.mv rfl rfl ?_
  refine WL.mv rfl rfl ?_
  obtain ⟨x22, hx22, h⟩ := bindS h
  refine WL.qn (y_indexAddr e22 rfl (Le.refl _) rfl (idx_nonneg hx22) (idx_row E54_eq hx22) rfl) rfl ?_
  refine WL.qn (y_loadcN rfl a54 s54 rfl) rfl ?_
  refine WL.s0 (d_store rfl rfl rfl rfl rfl rfl s54 rfl rfl) (Wt.none rfl) rfl ?_
  refine WL.st (st' := [.row 54 [.d (D.i .u8 x22.kind), .d (D.s x22.name), .d (D.i .i64 x22.parent), .d (D.i .i64 x22.first), .d (.sl (List.map E9 x22.lits)), .d (D.i .i64 x22.index), .d (D.i .i64 x22.elem), .d (D.i .i64 x22.disc), .d (D.s x22.discName), .d (D.b x22.has), .d (D.i .i64 x22.default_), .d (.sl (List.map E56 x22.comps)), .d (D.i .i64 x22.target), .d (D.i .u8 x22.formal), .d (D.b x22.limited), .d (D.i .i64 x22.priv), .d (D.i .i64 x22.full), .d (D.i .i64 x22.level)]]) rfl ?_
  refine WL.as rfl rfl ?_
  refine WL.ns ?_
  refine wc_ret ?_
  obtain rfl := Option.some.inj h
  exact we_ret_fn (rs2 rfl (rv_cN rfl rfl a54 s54 rfl) (rv_t rfl)) (Le.tud ⟨(Le.agd ⟨(Le.refl _), (Le.refl _), (Le.refl _), (Le.refl _), (Le.refl _), (Le.refl _), (Le.refl _), (Le.refl _), (Le.refl _), (Le.refl _), (Le.refl _), (Le.refl _), (Le.refl _), (Le.refl _), (Le.refl _), (Le.refl _), (Le.refl _), (Le.refl _), trivial⟩), (Le.refl _), trivial⟩)

theorem f52_c (l0 : List Subt) (i1 : Int) {r : Subt × Bool} (h : f52 l0 i1 = some r) : Pu Tryd.prog 52 [.sl (List.map E40 l0), .i .i64 i1] (.tu [.ag (R40 r.1), .b r.2]) := by
 unfold f52 at h
 refine fn_intro Tryd.func52 (by kernel_rfl) rfl rfl rfl (fun φφ ww => ?_)
 refine wc_sr ?_
 refine WL.s ((b_alloc z40).does) (Wt.none rfl) rfl rfl ?_
 refine WL.as rfl rfl ?_
 refine WL.ns ?_
 refine wc_seq ?_
 refine wc_sr ?_
 refine WL.mv rfl rfl ?_
 refine WL.qn (y_lss rfl rfl) rfl ?_
 refine WL.mv rfl rfl ?_
 apply WL.or 5 (t := 8) (d := 13)
 ·exact rfl
 ·intro hg8
  refine WL.qy (y_move rfl) rfl rfl rfl ?_
  refine WL.qy (y_move rfl) rfl rfl rfl ?_
  refine WL.qy (y_len_map E40 l0 e23 rfl rfl (Le.refl _)) rfl rfl rfl ?_
  refine WL.qy (y_geq rfl rfl) rfl rfl rfl ?_
  refine WL.qn (y_pick_f rfl rfl) rfl ?_
  exact WL.nil ⟨rfl, [_, _, _, _, _], rfl, rfl, rfl⟩
 ·refine WL.skips 4 rfl ?_
  refine WL.qn (y_pick_t rfl rfl) rfl ?_
  exact WL.nil ⟨rfl, [_, _, _, _, _], rfl, rfl, rfl⟩
 refine WL.ns ?_
 refine wc_cond rfl (fun hc1 => ?_) (fun hc1 => ?_)
 ·replace h := condT h hc1
  refine wc_sr ?_
  refine WL.qn (y_loadN rfl rfl a40 s40 rfl) rfl ?_
  refine WL.s0 (d_store rfl rfl rfl rfl rfl rfl s40 rfl rfl) (Wt.none rfl) rfl ?_
  refine WL.as rfl rfl ?_
  refine WL.ns ?_
  refine wc_ret ?_
  refine we_seq_ret ?_
  obtain rfl := Option.some.inj h
  exact we_ret_fn (rs2 rfl (rv_cN rfl rfl a40 s40 rfl) (rv_t rfl)) (Le.tud ⟨(Le.agd ⟨(Le.refl _), (Le.refl _), (Le.refl _), trivial⟩), (Le.refl _), trivial⟩)
 ·replace h := condF h hc1
  refine wc_skip ?_
  refine we_seq ?_
  refine wc_sr ?_
  refine WL.mv rfl rfl ?_
  refine WL.mv rfl rfl ?_
  obtain ⟨x22, hx22, h⟩ := bindS h
  refine WL.qn (y_indexAddr e23 rfl (Le.refl _) rfl (idx_nonneg hx22) (idx_row E40_eq hx22) rfl) rfl ?_
  refine WL.qn (y_loadcN rfl a40 s40 rfl) rfl ?_
  refine WL.s0 (d_store rfl rfl rfl rfl rfl rfl s40 rfl rfl) (Wt.none rfl) rfl ?_
  refine WL.as rfl rfl ?_
  refine WL.ns ?_
  refine wc_ret ?_
  obtain rfl := Option.some.inj h
  exact we_ret_fn (rs2 rfl (rv_cN rfl rfl a40 s40 rfl) (rv_t rfl)) (Le.tud ⟨(Le.agd ⟨(Le.refl _), (Le.refl _), (Le.refl _), trivial⟩), (Le.refl _), trivial⟩)

theorem f40_c (t0 : View) (sub1 : Int) {r : Ty × Subt × Bool} (h : f40 t0 sub1 = some r) : Pu Tryd.prog 40 [.ag (R61 t0), .i .i64 sub1] (.tu [.ag (R54 r.1), .ag (R40 r.2.1), .b r.2.2]) := by
 unfold f40 at h
 refine fn_intro Tryd.func40 (by kernel_rfl) rfl rfl rfl (fun φφ ww => ?_)
 refine wc_sr ?_
 refine WL.s ((b_boxd rfl rfl (Les.refl _)).does) (Wt.none rfl) rfl rfl ?_
 refine WL.s ((b_alloc z54).does) (Wt.none rfl) rfl rfl ?_
 refine WL.s ((b_alloc z40).does) (Wt.none rfl) rfl rfl ?_
 refine WL.as rfl rfl ?_
 refine WL.ns ?_
 refine wc_sr ?_
 refine WL.qn (y_fieldAddrc f61_0 rfl) rfl ?_
 refine WL.qn (y_fieldAddrc f28_1 rfl) rfl ?_
 refine WL.qn (y_loadc rfl a23 rfl) rfl ?_
 refine WL.mv rfl rfl ?_
 obtain ⟨r37, hr37, h⟩ := bindS h
 refine WL.fn rfl rfl rfl rfl (f52_c _ _ hr37) ⟨(Le.refl _), (Le.refl _), trivial⟩ (Wt.none rfl) rfl rfl ?_
 refine WL.mv rfl rfl ?_
 refine WL.qn (y_extractd rfl rfl) rfl ?_
 refine WL.qn (y_extractd rfl rfl) rfl ?_
 refine WL.s ((b_alloc z40).does) (Wt.none rfl) rfl rfl ?_
 refine WL.s0 (d_store rfl rfl rfl rfl rfl rfl s40 rfl rfl) (Wt.none rfl) rfl ?_
 refine WL.as rfl rfl ?_
 refine WL.ns ?_
 refine wc_seq ?_
 refine wc_sr ?_
 refine WL.mv rfl rfl ?_
 refine WL.qn (y_not rfl) rfl ?_
 refine WL.ns ?_
 refine wc_cond rfl (fun hc1 => ?_) (fun hc1 => ?_)
 ·replace h := condT h hc1
  refine wc_seq ?_
  apply wc_region_all [_, _, .u, .u, _] [[], [], [0], [0, 1, 2], [0, 1, 2, 3]] [3] (fun c => List.getD [[.row 54 [.d (D.i .u8 0), .d (D.s ByteArray.empty), .d (D.i .i64 0), .d (D.i .i64 0), .d (.v (.slice none 0 0)), .d (D.i .i64 0), .d (D.i .i64 0), .d (D.i .i64 0), .d (D.s ByteArray.empty), .d (D.b false), .d (D.i .i64 0), .d (.v (.slice none 0 0)), .d (D.i .i64 0), .d (D.i .u8 0), .d (D.b false), .d (D.i .i64 0), .d (D.i .i64 0), .d (D.i .i64 0)], .row 40 [.d (D.i .i64 0), .d (D.i .i64 0), .d (D.i .i64 0)], .row 40 [.d (D.i .i64 r37.1.t), .d (D.i .i64 r37.1.lo), .d (D.i .i64 r37.1.hi)]], [.row 54 [.d (D.i .u8 0), .d (D.s ByteArray.empty), .d (D.i .i64 0), .d (D.i .i64 0), .d (.v (.slice none 0 0)), .d (D.i .i64 0), .d (D.i .i64 0), .d (D.i .i64 0), .d (D.s ByteArray.empty), .d (D.b false), .d (D.i .i64 0), .d (.v (.slice none 0 0)), .d (D.i .i64 0), .d (D.i .u8 0), .d (D.b false), .d (D.i .i64 0), .d (D.i .i64 0), .d (D.i .i64 0)], .row 40 [.d (D.i .i64 r37.1.t), .d (D.i .i64 r37.1.lo), .d (D.i .i64 r37.1.hi)], .row 40 [.d (D.i .i64 r37.1.t), .d (D.i .i64 r37.1.lo), .d (D.i .i64 r37.1.hi)]]] c []) [([], [], [0]), ([], [7], [0]), ([0], [4], [0]), ([1], [5], [0]), ([], [], [1])] (by kernel_rfl) (by kernel_rfl) rfl rfl rfl
  ·refine ⟨?_, ?_, ?_, ?_, ?_, trivial⟩
   ·refine ⟨fun F => ?_, trivial⟩
    refine WL.qn (y_build p54 z54 rfl rfl) rfl ?_
    exact WL.done1 rfl rfl rfl
   ·refine ⟨fun F => ?_, trivial⟩
    refine WL.qn (y_loadN rfl rfl a40 s40 rfl) rfl ?_
    exact WL.done1 rfl rfl rfl
   ·refine ⟨fun F => ?_, trivial⟩
    refine WL.s0 (d_store rfl rfl rfl rfl rfl rfl s54 rfl rfl) (Wt.none rfl) rfl ?_
    exact WL.done0 rfl rfl
   ·refine ⟨fun F => ?_, trivial⟩
    refine WL.s0 (d_store rfl rfl rfl rfl rfl rfl s40 rfl rfl) (Wt.none rfl) rfl ?_
    exact WL.done0 rfl rfl
   ·refine ⟨fun F => ?_, trivial⟩
    refine WL.as rfl rfl ?_
    exact WL.done1 rfl rfl rfl
  ·refine we_seq ?_
   refine wc_ret ?_
   refine we_seq_ret ?_
   obtain rfl := Option.some.inj h
   exact we_ret_fn (rs3 rfl (rv_cN rfl rfl a54 s54 rfl) (rv_cN rfl rfl a40 s40 rfl) (rv_t rfl)) (Le.tud ⟨(Le.agd ⟨(Le.refl _), (Le.refl _), (Le.refl _), (Le.refl _), Le.nil, (Le.refl _), (Le.refl _), (Le.refl _), (Le.refl _), (Le.refl _), (Le.refl _), Le.nil, (Le.refl _), (Le.refl _), (Le.refl _), (Le.refl _), (Le.refl _), (Le.refl _), trivial⟩), (Le.agd ⟨(Le.refl _), (Le.refl _), (Le.refl _), trivial⟩), (Le.refl _), trivial⟩)
 ·replace h := condF h hc1
  refine wc_skip ?_
  refine we_seq ?_
  refine wc_sr ?_
  refine WL.qn (y_fieldAddrc f61_0 rfl) rfl ?_
  refine WL.qn (y_fieldAddrc f28_0 rfl) rfl ?_
  refine WL.qn (y_loadc rfl a22 rfl) rfl ?_
  refine WL.qn (y_fieldAddr f40_0 rfl) rfl ?_
  refine WL.qn (y_load rfl rfl a3 rfl) rfl ?_
  obtain ⟨r38, hr38, h⟩ := bindS h
  refine WL.fn rfl rfl rfl rfl (f49_c _ _ hr38) ⟨(Le.refl _), (Le.refl _), trivial⟩ (Wt.none rfl) rfl rfl ?_
  refine WL.mv rfl rfl ?_
  refine WL.qn (y_extractd rfl rfl) rfl ?_
  refine WL.qn (y_extractd rfl rfl) rfl ?_
  refine WL.s ((b_alloc z54).does) (Wt.none rfl) rfl rfl ?_
  refine WL.s0 (d_store rfl rfl rfl rfl rfl rfl s54 rfl rfl) (Wt.none rfl) rfl ?_
  refine WL.st (st' := [.row 54 [.d (D.i .u8 0), .d (D.s ByteArray.empty), .d (D.i .i64 0), .d (D.i .i64 0), .d (.v (.slice none 0 0)), .d (D.i .i64 0), .d (D.i .i64 0), .d (D.i .i64 0), .d (D.s ByteArray.empty), .d (D.b false), .d (D.i .i64 0), .d (.v (.slice none 0 0)), .d (D.i .i64 0), .d (D.i .u8 0), .d (D.b false), .d (D.i .i64 0), .d (D.i .i64 0), .d (D.i .i64 0)], .row 40 [.d (D.i .i64 0), .d (D.i .i64 0), .d (D.i .i64 0)], .row 40 [.d (D.i .i64 r37.1.t), .d (D.i .i64 r37.1.lo), .d (D.i .i64 r37.1.hi)], .row 54 [.d (D.i .u8 r38.1.kind), .d (D.s r38.1.name), .d (D.i .i64 r38.1.parent), .d (D.i .i64 r38.1.first), .d (.sl (List.map E9 r38.1.lits)), .d (D.i .i64 r38.1.index), .d (D.i .i64 r38.1.elem), .d (D.i .i64 r38.1.disc), .d (D.s r38.1.discName), .d (D.b r38.1.has), .d (D.i .i64 r38.1.default_), .d (.sl (List.map E56 r38.1.comps)), .d (D.i .i64 r38.1.target), .d (D.i .u8 r38.1.formal), .d (D.b r38.1.limited), .d (D.i .i64 r38.1.priv), .d (D.i .i64 r38.1.full), .d (D.i .i64 r38.1.level)]]) rfl ?_
  refine WL.as rfl rfl ?_
  refine WL.ns ?_
  refine wc_seq ?_
  apply wc_region_all [_, _, _, .u, .u, _] [[], [], [], [0], [0, 1, 3], [0, 1, 2, 3, 4]] [3, 4] (fun c => List.getD [[.row 54 [.d (D.i .u8 0), .d (D.s ByteArray.empty), .d (D.i .i64 0), .d (D.i .i64 0), .d (.v (.slice none 0 0)), .d (D.i .i64 0), .d (D.i .i64 0), .d (D.i .i64 0), .d (D.s ByteArray.empty), .d (D.b false), .d (D.i .i64 0), .d (.v (.slice none 0 0)), .d (D.i .i64 0), .d (D.i .u8 0), .d (D.b false), .d (D.i .i64 0), .d (D.i .i64 0), .d (D.i .i64 0)], .row 40 [.d (D.i .i64 0), .d (D.i .i64 0), .d (D.i .i64 0)], .row 40 [.d (D.i .i64 r37.1.t), .d (D.i .i64 r37.1.lo), .d (D.i .i64 r37.1.hi)], .row 54 [.d (D.i .u8 r38.1.kind), .d (D.s r38.1.name), .d (D.i .i64 r38.1.parent), .d (D.i .i64 r38.1.first), .d (.sl (List.map E9 r38.1.lits)), .d (D.i .i64 r38.1.index), .d (D.i .i64 r38.1.elem), .d (D.i .i64 r38.1.disc), .d (D.s r38.1.discName), .d (D.b r38.1.has), .d (D.i .i64 r38.1.default_), .d (.sl (List.map E56 r38.1.comps)), .d (D.i .i64 r38.1.target), .d (D.i .u8 r38.1.formal), .d (D.b r38.1.limited), .d (D.i .i64 r38.1.priv), .d (D.i .i64 r38.1.full), .d (D.i .i64 r38.1.level)]], [.row 54 [.d (D.i .u8 r38.1.kind), .d (D.s r38.1.name), .d (D.i .i64 r38.1.parent), .d (D.i .i64 r38.1.first), .d (.sl (List.map E9 r38.1.lits)), .d (D.i .i64 r38.1.index), .d (D.i .i64 r38.1.elem), .d (D.i .i64 r38.1.disc), .d (D.s r38.1.discName), .d (D.b r38.1.has), .d (D.i .i64 r38.1.default_), .d (.sl (List.map E56 r38.1.comps)), .d (D.i .i64 r38.1.target), .d (D.i .u8 r38.1.formal), .d (D.b r38.1.limited), .d (D.i .i64 r38.1.priv), .d (D.i .i64 r38.1.full), .d (D.i .i64 r38.1.level)], .row 40 [.d (D.i .i64 0), .d (D.i .i64 0), .d (D.i .i64 0)], .row 40 [.d (D.i .i64 r37.1.t), .d (D.i .i64 r37.1.lo), .d (D.i .i64 r37.1.hi)], .row 54 [.d (D.i .u8 r38.1.kind), .d (D.s r38.1.name), .d (D.i .i64 r38.1.parent), .d (D.i .i64 r38.1.first), .d (.sl (List.map E9 r38.1.lits)), .d (D.i .i64 r38.1.index), .d (D.i .i64 r38.1.elem), .d (D.i .i64 r38.1.disc), .d (D.s r38.1.discName), .d (D.b r38.1.has), .d (D.i .i64 r38.1.default_), .d (.sl (List.map E56 r38.1.comps)), .d (D.i .i64 r38.1.target), .d (D.i .u8 r38.1.formal), .d (D.b r38.1.limited), .d (D.i .i64 r38.1.priv), .d (D.i .i64 r38.1.full), .d (D.i .i64 r38.1.level)]], [.row 54 [.d (D.i .u8 r38.1.kind), .d (D.s r38.1.name), .d (D.i .i64 r38.1.parent), .d (D.i .i64 r38.1.first), .d (.sl (List.map E9 r38.1.lits)), .d (D.i .i64 r38.1.index), .d (D.i .i64 r38.1.elem), .d (D.i .i64 r38.1.disc), .d (D.s r38.1.discName), .d (D.b r38.1.has), .d (D.i .i64 r38.1.default_), .d (.sl (List.map E56 r38.1.comps)), .d (D.i .i64 r38.1.target), .d (D.i .u8 r38.1.formal), .d (D.b r38.1.limited), .d (D.i .i64 r38.1.priv), .d (D.i .i64 r38.1.full), .d (D.i .i64 r38.1.level)], .row 40 [.d (D.i .i64 r37.1.t), .d (D.i .i64 r37.1.lo), .d (D.i .i64 r37.1.hi)], .row 40 [.d (D.i .i64 r37.1.t), .d (D.i .i64 r37.1.lo), .d (D.i .i64 r37.1.hi)], .row 54 [.d (D.i .u8 r38.1.kind), .d (D.s r38.1.name), .d (D.i .i64 r38.1.parent), .d (D.i .i64 r38.1.first), .d (.sl (List.map E9 r38.1.lits)), .d (D.i .i64 r38.1.index), .d (D.i .i64 r38.1.elem), .d (D.i .i64 r38.1.disc), .d (D.s r38.1.discName), .d (D.b r38.1.has), .d (D.i .i64 r38.1.default_), .d (.sl (List.map E56 r38.1.comps)), .d (D.i .i64 r38.1.target), .d (D.i .u8 r38.1.formal), .d (D.b r38.1.limited), .d (D.i .i64 r38.1.priv), .d (D.i .i64 r38.1.full), .d (D.i .i64 r38.1.level)]]] c []) [([], [9], [0]), ([], [7], [0, 1]), ([], [8], [0, 1, 2]), ([0], [4], [0]), ([1], [5], [1]), ([2], [], [2])] (by kernel_rfl) (by kernel_rfl) rfl rfl rfl
  ·refine ⟨?_, ?_, ?_, ?_, ?_, ?_, trivial⟩
   ·refine ⟨fun F => ?_, trivial⟩
    refine WL.qn (y_loadN rfl rfl a54 s54 rfl) rfl ?_
    exact WL.done1 rfl rfl rfl
   ·refine ⟨fun F => ?_, fun F => ?_, trivial⟩
    ·refine WL.qn (y_loadN rfl rfl a40 s40 rfl) rfl ?_
     exact WL.done1 rfl rfl rfl
    ·refine WL.qn (y_loadN rfl rfl a40 s40 rfl) rfl ?_
     exact WL.done1 rfl rfl rfl
   ·refine ⟨fun F => ?_, fun F => ?_, fun F => ?_, trivial⟩
    ·refine WL.mv rfl rfl ?_
     exact WL.done1 rfl rfl rfl
    ·refine WL.mv rfl rfl ?_
     exact WL.done1 rfl rfl rfl
    ·refine WL.mv rfl rfl ?_
     exact WL.done1 rfl rfl rfl
   ·refine ⟨fun F => ?_, trivial⟩
    refine WL.s0 (d_store rfl rfl rfl rfl rfl rfl s54 rfl rfl) (Wt.none rfl) rfl ?_
    exact WL.done0 rfl rfl
   ·refine ⟨fun F => ?_, trivial⟩
    refine WL.s0 (d_store rfl rfl rfl rfl rfl rfl s40 rfl rfl) (Wt.none rfl) rfl ?_
    exact WL.done0 rfl rfl
   ·refine ⟨fun F => ?_, trivial⟩
    refine WL.as rfl rfl ?_
    exact WL.done1 rfl rfl rfl
  ·refine we_seq ?_
   refine wc_ret ?_
   obtain rfl := Option.some.inj h
   exact we_ret_fn (rs3 rfl (rv_cN rfl rfl a54 s54 rfl) (rv_cN rfl rfl a40 s40 rfl) (rv_t rfl)) (Le.tud ⟨(Le.agd ⟨(Le.refl _), (Le.refl _), (Le.refl _), (Le.refl _), (Le.refl _), (Le.refl _), (Le.refl _), (Le.refl _), (Le.refl _), (Le.refl _), (Le.refl _), (Le.refl _), (Le.refl _), (Le.refl _), (Le.refl _), (Le.refl _), (Le.refl _), (Le.refl _), trivial⟩), (Le.agd ⟨(Le.refl _), (Le.refl _), (Le.refl _), trivial⟩), (Le.refl _), trivial⟩)

theorem f43_c (t0 : View) (sub1 : Int) {r : Int × Int × Bool} (h : f43 t0 sub1 = some r) : Pu Tryd.prog 43 [.ag (R61 t0), .i .i64 sub1] (.tu [.i .i64 r.1, .i .i64 r.2.1, .b r.2.2]) := by
 unfold f43 at h
 refine fn_intro Tryd.func43 (by kernel_rfl) rfl rfl rfl (fun φφ ww => ?_)
 refine wc_sr ?_
 refine WL.s ((b_boxd rfl rfl (Les.refl _)).does) (Wt.none rfl) rfl rfl ?_
 refine WL.as rfl rfl ?_
 refine WL.as rfl rfl ?_
 refine WL.as rfl rfl ?_
 refine WL.ns ?_
 refine wc_sr ?_
 refine WL.qn (y_loadcN rfl a61 s61 rfl) rfl ?_
 refine WL.mv rfl rfl ?_
 obtain ⟨r32, hr32, h⟩ := bindS h
 refine WL.fn rfl rfl rfl rfl (f40_c _ _ hr32) ⟨(Le.refl _), (Le.refl _), trivial⟩ (Wt.none rfl) rfl rfl ?_
 refine WL.mv rfl rfl ?_
 refine WL.qn (y_extractd rfl rfl) rfl ?_
 refine WL.qn (y_extractd rfl rfl) rfl ?_
 refine WL.qn (y_extractd rfl rfl) rfl ?_
 refine WL.s ((b_alloc z54).does) (Wt.none rfl) rfl rfl ?_
 refine WL.s ((b_alloc z40).does) (Wt.none rfl) rfl rfl ?_
 refine WL.s0 (d_store rfl rfl rfl rfl rfl rfl s54 rfl rfl) (Wt.none rfl) rfl ?_
 refine WL.st (st' := [.row 54 [.d (D.i .u8 r32.1.kind), .d (D.s r32.1.name), .d (D.i .i64 r32.1.parent), .d (D.i .i64 r32.1.first), .d (.sl (List.map E9 r32.1.lits)), .d (D.i .i64 r32.1.index), .d (D.i .i64 r32.1.elem), .d (D.i .i64 r32.1.disc), .d (D.s r32.1.discName), .d (D.b r32.1.has), .d (D.i .i64 r32.1.default_), .d (.sl (List.map E56 r32.1.comps)), .d (D.i .i64 r32.1.target), .d (D.i .u8 r32.1.formal), .d (D.b r32.1.limited), .d (D.i .i64 r32.1.priv), .d (D.i .i64 r32.1.full), .d (D.i .i64 r32.1.level)], .row 40 [.d (D.i .i64 0), .d (D.i .i64 0), .d (D.i .i64 0)]]) rfl ?_
 refine WL.s0 (d_store rfl rfl rfl rfl rfl rfl s40 rfl rfl) (Wt.none rfl) rfl ?_
 refine WL.as rfl rfl ?_
 refine WL.ns ?_
 refine wc_seq ?_
 refine wc_sr ?_
 refine WL.qn (y_fieldAddr f54_0 rfl) rfl ?_
 refine WL.qn (y_load rfl rfl a49 rfl) rfl ?_
 refine WL.qn (y_neq rfl rfl) rfl ?_
 refine WL.mv rfl rfl ?_
 apply WL.and 4 (t := 20) (d := 24)
 ·exact rfl
 ·intro hg20
  refine WL.qy (y_fieldAddr f54_0 rfl) rfl rfl rfl ?_
  refine WL.qy (y_load rfl rfl a49 rfl) rfl rfl rfl ?_
  refine WL.qy (y_neq rfl rfl) rfl rfl rfl ?_
  refine WL.qn (y_pick_t rfl rfl) rfl ?_
  exact WL.nil ⟨rfl, [_, _, _, _], rfl, rfl, rfl⟩
 ·refine WL.skips 3 rfl ?_
  refine WL.qn (y_pick_f rfl rfl) rfl ?_
  exact WL.nil ⟨rfl, [_, _, _, _], rfl, rfl, rfl⟩
 refine WL.ns ?_
 refine wc_cond rfl (fun hc1 => ?_) (fun hc1 => ?_)
 ·replace h := condT h hc1
  refine wc_sr ?_
  refine WL.as rfl rfl ?_
  refine WL.as rfl rfl ?_
  refine WL.as rfl rfl ?_
  refine WL.ns ?_
  refine wc_ret ?_
  refine we_seq_ret ?_
  obtain rfl := Option.some.inj h
  exact we_ret_fn (rs3 rfl (rv_t rfl) (rv_t rfl) (rv_t rfl)) (Le.tud ⟨(Le.refl _), (Le.refl _), (Le.refl _), trivial⟩)
 ·replace h := condF h hc1
  refine wc_skip ?_
  refine we_seq ?_
  refine wc_seq ?_
  refine wc_region_draw (by kernel_rfl) (by kernel_rfl) ?_
  refine WQ.qn (y_fieldAddr f40_1 rfl) rfl ?_
  refine WQ.qn (y_load rfl rfl a2 rfl) rfl ?_
  refine WQ.qn (y_fieldAddr f40_2 rfl) rfl ?_
  refine WQ.qn (y_load rfl rfl a2 rfl) rfl ?_
  refine WQ.qn (y_assign rfl) rfl ?_
  refine WQ.qn (y_assign rfl) rfl ?_
  refine WQ.qn (y_assign rfl) rfl ?_
  refine WQ.nil ?_
  refine we_seq ?_
  refine wc_ret ?_
  obtain rfl := Option.some.inj h
  exact we_ret_fn (rs3 rfl (rv_t rfl) (rv_t rfl) (rv_t rfl)) (Le.tud ⟨(Le.refl _), (Le.refl _), (Le.refl _), trivial⟩)

theorem f41_c (t0 : View) (sub1 : Int) (most2 : Int) {r : Int} (h : f41 t0 sub1 most2 = some r) : Pu Tryd.prog 41 [.ag (R61 t0), .i .i64 sub1, .i .i64 most2] (.i .i64 r) := by
 unfold f41 at h
 refine fn_intro Tryd.func41 (by kernel_rfl) rfl rfl rfl (fun φφ ww => ?_)
 refine wc_sr ?_
 refine WL.s ((b_boxd rfl rfl (Les.refl _)).does) (Wt.none rfl) rfl rfl ?_
 refine WL.as rfl rfl ?_
 refine WL.ns ?_
 refine wc_sr ?_
 refine WL.qn (y_loadcN rfl a61 s61 rfl) rfl ?_
 refine WL.mv rfl rfl ?_
 obtain ⟨r42, hr42, h⟩ := bindS h
 refine WL.fn rfl rfl rfl rfl (f43_c _ _ hr42) ⟨(Le.refl _), (Le.refl _), trivial⟩ (Wt.none rfl) rfl rfl ?_
 refine WL.mv rfl rfl ?_
 refine WL.qn (y_extractd rfl rfl) rfl ?_
 refine WL.qn (y_extractd rfl rfl) rfl ?_
 refine WL.qn (y_extractd rfl rfl) rfl ?_
 refine WL.as rfl rfl ?_
 refine WL.as rfl rfl ?_
 refine WL.as rfl rfl ?_
 refine WL.ns ?_
 refine wc_seq ?_
 refine wc_sr ?_
 refine WL.mv rfl rfl ?_
 refine WL.qn (y_not rfl) rfl ?_
 refine WL.mv rfl rfl ?_
 apply WL.or 4 (t := 19) (d := 23)
 ·exact rfl
 ·intro hg19
  refine WL.qy (y_move rfl) rfl rfl rfl ?_
  refine WL.qy (y_move rfl) rfl rfl rfl ?_
  refine WL.qy (y_gtr rfl rfl) rfl rfl rfl ?_
  refine WL.qn (y_pick_f rfl rfl) rfl ?_
  exact WL.nil ⟨rfl, [_, _, _, _], rfl, rfl, rfl⟩
 ·refine WL.skips 3 rfl ?_
  refine WL.qn (y_pick_t rfl rfl) rfl ?_
  exact WL.nil ⟨rfl, [_, _, _, _], rfl, rfl, rfl⟩
 refine WL.mv rfl rfl ?_
 apply WL.or 9 (t := 24) (d := 33)
 ·exact rfl
 ·intro hg24
  refine WL.qy (y_move rfl) rfl rfl rfl ?_
  refine WL.qy (y_conv Tryd.underlying2 Tryd.underlying92 rfl rfl) rfl rfl rfl ?_
  refine WL.qy (y_move rfl) rfl rfl rfl ?_
  refine WL.qy (y_conv Tryd.underlying2 Tryd.underlying92 rfl rfl) rfl rfl rfl ?_
  refine WL.qy (y_sub rfl rfl rfl) rfl rfl rfl ?_
  refine WL.qy (y_move rfl) rfl rfl rfl ?_
  refine WL.qy (y_conv Tryd.underlying3 Tryd.underlying92 rfl rfl) rfl rfl rfl ?_
  refine WL.qy (y_geq rfl rfl) rfl rfl rfl ?_
  refine WL.qn (y_pick_f rfl rfl) rfl ?_
  exact WL.nil ⟨rfl, [_, _, _, _, _, _, _, _, _], rfl, rfl, rfl⟩
 ·refine WL.skips 8 rfl ?_
  refine WL.qn (y_pick_t rfl rfl) rfl ?_
  exact WL.nil ⟨rfl, [_, _, _, _, _, _, _, _, _], rfl, rfl, rfl⟩
 refine WL.ns ?_
 refine wc_cond rfl (fun hc1 => ?_) (fun hc1 => ?_)
 ·replace h := condT h hc1
  refine wc_sr ?_
  refine WL.as rfl rfl ?_
  refine WL.ns ?_
  refine wc_ret ?_
  refine we_seq_ret ?_
  obtain rfl := Option.some.inj h
  exact we_ret_fn (rs1 rfl (rv_t rfl)) (Le.refl _)
 ·replace h := condF h hc1
  refine wc_skip ?_
  refine we_seq ?_
  refine wc_sr ?_
  refine WL.mv rfl rfl ?_
  refine WL.mv rfl rfl ?_
  refine WL.qn (y_sub rfl rfl rfl) rfl ?_
  refine WL.qn (y_add rfl rfl rfl) rfl ?_
  refine WL.as rfl rfl ?_
  refine WL.ns ?_
  refine wc_ret ?_
  obtain rfl := Option.some.inj h
  exact we_ret_fn (rs1 rfl (rv_t rfl)) (Le.refl _)

theorem f42_c (t0 : View) (sub1 : Int) (v2 : Int) {r : Bool} (h : f42 t0 sub1 v2 = some r) : Pu Tryd.prog 42 [.ag (R61 t0), .i .i64 sub1, .i .i64 v2] (.b r) := by
 unfold f42 at h
 refine fn_intro Tryd.func42 (by kernel_rfl) rfl rfl rfl (fun φφ ww => ?_)
 refine wc_sr ?_
 refine WL.s ((b_boxd rfl rfl (Les.refl _)).does) (Wt.none rfl) rfl rfl ?_
 refine WL.as rfl rfl ?_
 refine WL.ns ?_
 refine wc_sr ?_
 refine WL.qn (y_loadcN rfl a61 s61 rfl) rfl ?_
 refine WL.mv rfl rfl ?_
 obtain ⟨r32, hr32, h⟩ := bindS h
 refine WL.fn rfl rfl rfl rfl (f43_c _ _ hr32) ⟨(Le.refl _), (Le.refl _), trivial⟩ (Wt.none rfl) rfl rfl ?_
 refine WL.mv rfl rfl ?_
 refine WL.qn (y_extractd rfl rfl) rfl ?_
 refine WL.qn (y_extractd rfl rfl) rfl ?_
 refine WL.qn (y_extractd rfl rfl) rfl ?_
 refine WL.as rfl rfl ?_
 refine WL.as rfl rfl ?_
 refine WL.as rfl rfl ?_
 refine WL.ns ?_
 refine wc_sr ?_
 refine WL.mv rfl rfl ?_
 refine WL.mv rfl rfl ?_
 apply WL.and 4 (t := 18) (d := 22)
 ·exact rfl
 ·intro hg18
  refine WL.qy (y_move rfl) rfl rfl rfl ?_
  refine WL.qy (y_move rfl) rfl rfl rfl ?_
  refine WL.qy (y_geq rfl rfl) rfl rfl rfl ?_
  refine WL.qn (y_pick_t rfl rfl) rfl ?_
  exact WL.nil ⟨rfl, [_, _, _, _], rfl, rfl, rfl⟩
 ·refine WL.skips 3 rfl ?_
  refine WL.qn (y_pick_f rfl rfl) rfl ?_
  exact WL.nil ⟨rfl, [_, _, _, _], rfl, rfl, rfl⟩
 refine WL.mv rfl rfl ?_
 apply WL.and 4 (t := 23) (d := 27)
 ·exact rfl
 ·intro hg23
  refine WL.qy (y_move rfl) rfl rfl rfl ?_
  refine WL.qy (y_move rfl) rfl rfl rfl ?_
  refine WL.qy (y_leq rfl rfl) rfl rfl rfl ?_
  refine WL.qn (y_pick_t rfl rfl) rfl ?_
  exact WL.nil ⟨rfl, [_, _, _, _], rfl, rfl, rfl⟩
 ·refine WL.skips 3 rfl ?_
  refine WL.qn (y_pick_f rfl rfl) rfl ?_
  exact WL.nil ⟨rfl, [_, _, _, _], rfl, rfl, rfl⟩
 refine WL.as rfl rfl ?_
 refine WL.ns ?_
 refine wc_ret ?_
 obtain rfl := Option.some.inj h
 exact we_ret_fn (rs1 rfl (rv_t rfl)) (Le.refl _)

theorem f11_c (t0 : Table) (sub1 : Int) (index2 : Int) {r : Int × Bool} (h : f11 t0 sub1 index2 = some r) : Pu Tryd.prog 11 [.ag (R28 t0), .i .i64 sub1, .i .i64 index2] (.tu [.i .i64 r.1, .b r.2]) := by
 unfold f11 at h
 refine fn_intro Tryd.func11 (by kernel_rfl) rfl rfl rfl (fun φφ ww => ?_)
 refine wc_sr ?_
 refine WL.s ((b_boxd rfl rfl (Les.refl _)).does) (Wt.none rfl) rfl rfl ?_
 refine WL.as rfl rfl ?_
 refine WL.as rfl rfl ?_
 refine WL.ns ?_
 refine wc_sr ?_
 refine WL.qn (y_loadcN rfl a28 s28 rfl) rfl ?_
 refine WL.qn (y_build p61 z61 rfl rfl) rfl ?_
 refine WL.s ((b_alloc z61).does) (Wt.none rfl) rfl rfl ?_
 refine WL.s0 (d_store rfl rfl rfl rfl rfl rfl s61 rfl rfl) (Wt.none rfl) rfl ?_
 refine WL.ns ?_
 refine wc_sr ?_
 refine WL.qn (y_loadN rfl rfl a61 s61 rfl) rfl ?_
 refine WL.mv rfl rfl ?_
 obtain ⟨r57, hr57, h⟩ := bindS h
 refine WL.fn rfl rfl rfl rfl (f40_c _ _ hr57) ⟨(Le.agd ⟨(Le.refl _), (Le.refl _), (Le.refl _), (Le.refl _), (Le.refl _), trivial⟩), (Le.refl _), trivial⟩ (Wt.none rfl) rfl rfl ?_
 refine WL.mv rfl rfl ?_
 refine WL.qn (y_extractd rfl rfl) rfl ?_
 refine WL.qn (y_extractd rfl rfl) rfl ?_
 refine WL.qn (y_extractd rfl rfl) rfl ?_
 refine WL.s ((b_alloc z54).does) (Wt.none rfl) rfl rfl ?_
 refine WL.s ((b_alloc z40).does) (Wt.none rfl) rfl rfl ?_
 refine WL.s0 (d_store rfl rfl rfl rfl rfl rfl s54 rfl rfl) (Wt.none rfl) rfl ?_
 refine WL.st (st' := [.row 61 [.d (.sl (List.map E54 t0.types)), .d (.sl (List.map E40 t0.subs)), .d (.v (SlV.v t0.ents)), .d (.v (SlV.v t0.gens)), .d (.v (SlV.v t0.insts))], .row 54 [.d (D.i .u8 r57.1.kind), .d (D.s r57.1.name), .d (D.i .i64 r57.1.parent), .d (D.i .i64 r57.1.first), .d (.sl (List.map E9 r57.1.lits)), .d (D.i .i64 r57.1.index), .d (D.i .i64 r57.1.elem), .d (D.i .i64 r57.1.disc), .d (D.s r57.1.discName), .d (D.b r57.1.has), .d (D.i .i64 r57.1.default_), .d (.sl (List.map E56 r57.1.comps)), .d (D.i .i64 r57.1.target), .d (D.i .u8 r57.1.formal), .d (D.b r57.1.limited), .d (D.i .i64 r57.1.priv), .d (D.i .i64 r57.1.full), .d (D.i .i64 r57.1.level)], .row 40 [.d (D.i .i64 0), .d (D.i .i64 0), .d (D.i .i64 0)]]) rfl ?_
 refine WL.s0 (d_store rfl rfl rfl rfl rfl rfl s40 rfl rfl) (Wt.none rfl) rfl ?_
 refine WL.as rfl rfl ?_
 refine WL.ns ?_
 refine wc_seq ?_
 refine wc_sr ?_
 refine WL.qn (y_fieldAddr f54_0 rfl) rfl ?_
 refine WL.qn (y_load rfl rfl a49 rfl) rfl ?_
 refine WL.qn (y_neq rfl rfl) rfl ?_
 refine WL.mv rfl rfl ?_
 obtain ⟨b58, hb58, h⟩ := bindS h
 apply WL.grp 6 (t := 27) (d := 33) (z := b58)
 ·exact rfl
 ·intro hg27
  have h := condT hb58 hg27
  refine WL.skips 5 rfl ?_
  refine WL.qn (y_pick_t rfl rfl) rfl ?_
  obtain rfl := Option.some.inj h
  exact WL.nil ⟨rfl, [_, _, _, _, _, _], rfl, rfl, rfl⟩
 ·intro hg27
  have h := condF hb58 hg27
  refine WL.qy (y_loadN rfl rfl a61 s61 rfl) rfl rfl rfl ?_
  refine WL.qy (y_fieldAddr f54_5 rfl) rfl rfl rfl ?_
  refine WL.qy (y_load rfl rfl a3 rfl) rfl rfl rfl ?_
  obtain ⟨r59, hr59, h⟩ := bindS h
  refine WL.fn rfl rfl rfl rfl (f41_c _ _ _ hr59) ⟨(Le.agd ⟨(Le.refl _), (Le.refl _), (Le.refl _), (Le.refl _), (Le.refl _), trivial⟩), (Le.refl _), (Le.refl _), trivial⟩ (Wt.yes rfl rfl rfl) rfl rfl ?_
  refine WL.qy (y_eql rfl rfl) rfl rfl rfl ?_
  refine WL.qn (y_pick_f rfl rfl) rfl ?_
  obtain rfl := Option.some.inj h
  exact WL.nil ⟨rfl, [_, _, _, _, _, _], rfl, rfl, rfl⟩
 refine WL.mv rfl rfl ?_
 obtain ⟨b60, hb60, h⟩ := bindS h
 apply WL.grp 7 (t := 34) (d := 41) (z := b60)
 ·exact rfl
 ·intro hg34
  have h := condT hb60 hg34
  refine WL.skips 6 rfl ?_
  refine WL.qn (y_pick_t rfl rfl) rfl ?_
  obtain rfl := Option.some.inj h
  exact WL.nil ⟨rfl, [_, _, _, _, _, _, _], rfl, rfl, rfl⟩
 ·intro hg34
  have h := condF hb60 hg34
  refine WL.qy (y_loadN rfl rfl a61 s61 rfl) rfl rfl rfl ?_
  refine WL.qy (y_fieldAddr f54_5 rfl) rfl rfl rfl ?_
  refine WL.qy (y_load rfl rfl a3 rfl) rfl rfl rfl ?_
  refine WL.qy (y_move rfl) rfl rfl rfl ?_
  obtain ⟨r61, hr61, h⟩ := bindS h
  refine WL.fn rfl rfl rfl rfl (f42_c _ _ _ hr61) ⟨(Le.agd ⟨(Le.refl _), (Le.refl _), (Le.refl _), (Le.refl _), (Le.refl _), trivial⟩), (Le.refl _), (Le.refl _), trivial⟩ (Wt.yes rfl rfl rfl) rfl rfl ?_
  refine WL.qy (y_not rfl) rfl rfl rfl ?_
  refine WL.qn (y_pick_f rfl rfl) rfl ?_
  obtain rfl := Option.some.inj h
  exact WL.nil ⟨rfl, [_, _, _, _, _, _, _], rfl, rfl, rfl⟩
 refine WL.ns ?_
 refine wc_cond rfl (fun hc1 => ?_) (fun hc1 => ?_)
 ·replace h := condT h hc1
  refine wc_sr ?_
  refine WL.as rfl rfl ?_
  refine WL.as rfl rfl ?_
  refine WL.ns ?_
  refine wc_ret ?_
  refine we_seq_ret ?_
  obtain rfl := Option.some.inj h
  exact we_ret_fn (rs2 rfl (rv_t rfl) (rv_t rfl)) (Le.tud ⟨(Le.refl _), (Le.refl _), trivial⟩)
 ·replace h := condF h hc1
  refine wc_skip ?_
  refine we_seq ?_
  refine wc_sr ?_
  refine WL.qn (y_loadN rfl rfl a61 s61 rfl) rfl ?_
  refine WL.qn (y_fieldAddr f54_5 rfl) rfl ?_
  refine WL.qn (y_load rfl rfl a3 rfl) rfl ?_
  obtain ⟨r62, hr62, h⟩ := bindS h
  refine WL.fn rfl rfl rfl rfl (f43_c _ _ hr62) ⟨(Le.agd ⟨(Le.refl _), (Le.refl _), (Le.refl _), (Le.refl _), (Le.refl _), trivial⟩), (Le.refl _), trivial⟩ (Wt.none rfl) rfl rfl ?_
  refine WL.mv rfl rfl ?_
  refine WL.qn (y_extractd rfl rfl) rfl ?_
  refine WL.qn (y_extractd rfl rfl) rfl ?_
  refine WL.qn (y_extractd rfl rfl) rfl ?_
  refine WL.as rfl rfl ?_
  refine WL.as rfl rfl ?_
  refine WL.as rfl rfl ?_
  refine WL.ns ?_
  refine wc_sr ?_
  refine WL.mv rfl rfl ?_
  refine WL.mv rfl rfl ?_
  refine WL.qn (y_sub rfl rfl rfl) rfl ?_
  refine WL.as rfl rfl ?_
  refine WL.as rfl rfl ?_
  refine WL.ns ?_
  refine wc_ret ?_
  obtain rfl := Option.some.inj h
  exact we_ret_fn (rs2 rfl (rv_t rfl) (rv_t rfl)) (Le.tud ⟨(Le.refl _), (Le.refl _), trivial⟩)

theorem f70_c (c0 : CompRow) (cap1 : ByteArray) : Pu Tryd.prog 70 [.ag (R56 c0), .pc (E9 cap1)] (.b (f70 c0 cap1)) := by
 generalize h : f70 c0 cap1 = r
 unfold f70 at h
 refine fn_intro Tryd.func70 (by kernel_rfl) rfl rfl rfl (fun φφ ww => ?_)
 refine wc_sr ?_
 refine WL.s ((b_boxd rfl rfl (Les.refl _)).does) (Wt.none rfl) rfl rfl ?_
 refine WL.as rfl rfl ?_
 refine WL.ns ?_
 refine wc_sr ?_
 refine WL.qn (y_fieldAddrc f56_0 rfl) rfl ?_
 refine WL.qn (y_loadc rfl a9 rfl) rfl ?_
 refine WL.qn (y_loadc rfl a9 rfl) rfl ?_
 refine WL.qn (y_eqs rfl rfl) rfl ?_
 refine WL.as rfl rfl ?_
 refine WL.ns ?_
 refine wc_ret ?_
 subst h
 exact we_ret_fn (rs1 rfl (rv_t rfl)) (Le.refl _)

theorem f46_c (t0 : View) (sub1 : Int) (name2 : ByteArray) {r : Int × (Option CompRow) × Bool} (h : f46 t0 sub1 name2 = some r) : Pu Tryd.prog 46 [.ag (R61 t0), .i .i64 sub1, .s name2] (.tu [.i .i64 r.1, ptrD R56 r.2.1, .b r.2.2]) := by
 unfold f46 at h
 refine fn_intro Tryd.func46 (by kernel_rfl) rfl rfl rfl (fun φφ ww => ?_)
 refine wc_sr ?_
 refine WL.s ((b_boxd rfl rfl (Les.refl _)).does) (Wt.none rfl) rfl rfl ?_
 refine WL.s ((b_boxd rfl rfl (by exact (show Les [.d (D.s name2)] (List.map AV.d [.s name2]) from ⟨(Le.refl _), trivial⟩))).does) (Wt.none rfl) rfl rfl ?_
 refine WL.as rfl rfl ?_
 refine WL.as rfl rfl ?_
 refine WL.as rfl rfl ?_
 refine WL.ns ?_
 refine wc_sr ?_
 refine WL.qn (y_loadcN rfl a61 s61 rfl) rfl ?_
 refine WL.mv rfl rfl ?_
 obtain ⟨r47, hr47, h⟩ := bindS h
 refine WL.fn rfl rfl rfl rfl (f40_c _ _ hr47) ⟨(Le.refl _), (Le.refl _), trivial⟩ (Wt.none rfl) rfl rfl ?_
 refine WL.mv rfl rfl ?_
 refine WL.qn (y_extractd rfl rfl) rfl ?_
 refine WL.qn (y_extractd rfl rfl) rfl ?_
 refine WL.qn (y_extractd rfl rfl) rfl ?_
 refine WL.s ((b_alloc z54).does) (Wt.none rfl) rfl rfl ?_
 refine WL.s ((b_alloc z40).does) (Wt.none rfl) rfl rfl ?_
 refine WL.s0 (d_store rfl rfl rfl rfl rfl rfl s54 rfl rfl) (Wt.none rfl) rfl ?_
 refine WL.st (st' := [.row 54 [.d (D.i .u8 r47.1.kind), .d (D.s r47.1.name), .d (D.i .i64 r47.1.parent), .d (D.i .i64 r47.1.first), .d (.sl (List.map E9 r47.1.lits)), .d (D.i .i64 r47.1.index), .d (D.i .i64 r47.1.elem), .d (D.i .i64 r47.1.disc), .d (D.s r47.1.discName), .d (D.b r47.1.has), .d (D.i .i64 r47.1.default_), .d (.sl (List.map E56 r47.1.comps)), .d (D.i .i64 r47.1.target), .d (D.i .u8 r47.1.formal), .d (D.b r47.1.limited), .d (D.i .i64 r47.1.priv), .d (D.i .i64 r47.1.full), .d (D.i .i64 r47.1.level)], .row 40 [.d (D.i .i64 0), .d (D.i .i64 0), .d (D.i .i64 0)]]) rfl ?_
 refine WL.s0 (d_store rfl rfl rfl rfl rfl rfl s40 rfl rfl) (Wt.none rfl) rfl ?_
 refine WL.as rfl rfl ?_
 refine WL.ns ?_
 refine wc_seq ?_
 refine wc_sr ?_
 refine WL.qn (y_fieldAddr f54_0 rfl) rfl ?_
 refine WL.qn (y_load rfl rfl a49 rfl) rfl ?_
 refine WL.qn (y_neq rfl rfl) rfl ?_
 refine WL.ns ?_
 refine wc_cond rfl (fun hc1 => ?_) (fun hc1 => ?_)
 ·replace h := condT h hc1
  refine wc_sr ?_
  refine WL.as rfl rfl ?_
  refine WL.as rfl rfl ?_
  refine WL.as rfl rfl ?_
  refine WL.ns ?_
  refine wc_ret ?_
  refine we_seq_ret ?_
  obtain rfl := Option.some.inj h
  exact we_ret_fn (rs3 rfl (rv_t rfl) (rv_t rfl) (rv_t rfl)) (Le.tud ⟨(Le.refl _), (Le.refl _), (Le.refl _), trivial⟩)
 ·replace h := condF h hc1
  refine wc_skip ?_
  refine we_seq ?_
  replace h := letkS h
  obtain ⟨k49, hk49, h⟩ := h
  refine wc_cut (fun env' st' => ∃ (slot48 : Int), k49 slot48 = some r ∧ Sub [(5, .d (.pc (E9 name2))), (6, .d (D.i .i64 slot48)), (9, .pt 0 0)] env' ∧ SLe st' [.row 54 [.d (D.i .u8 r47.1.kind), .d (D.s r47.1.name), .d (D.i .i64 r47.1.parent), .d (D.i .i64 r47.1.first), .d (.sl (List.map E9 r47.1.lits)), .d (D.i .i64 r47.1.index), .d (D.i .i64 r47.1.elem), .d (D.i .i64 r47.1.disc), .d (D.s r47.1.discName), .d (D.b r47.1.has), .d (D.i .i64 r47.1.default_), .d (.sl (List.map E56 r47.1.comps)), .d (D.i .i64 r47.1.target), .d (D.i .u8 r47.1.formal), .d (D.b r47.1.limited), .d (D.i .i64 r47.1.priv), .d (D.i .i64 r47.1.full), .d (D.i .i64 r47.1.level)], .row 40 [.d (D.i .i64 r47.2.1.t), .d (D.i .i64 r47.2.1.lo), .d (D.i .i64 r47.2.1.hi)]]) ?_ ?_
  ·refine wc_sr ?_
   refine WL.qn (y_fieldAddr f54_7 rfl) rfl ?_
   refine WL.qn (y_load rfl rfl a3 rfl) rfl ?_
   refine WL.qn (y_neq rfl rfl) rfl ?_
   refine WL.ns ?_
   refine wc_cond rfl (fun hc2 => ?_) (fun hc2 => ?_)
   ·replace h := condT h hc2
    refine wc_seq ?_
    refine wc_sr ?_
    refine WL.qn (y_fieldAddr f54_8 rfl) rfl ?_
    refine WL.qn (y_load rfl rfl a9 rfl) rfl ?_
    refine WL.qn (y_loadc rfl a9 rfl) rfl ?_
    refine WL.qn (y_eqs rfl rfl) rfl ?_
    refine WL.ns ?_
    refine wc_cond rfl (fun hc3 => ?_) (fun hc3 => ?_)
    ·replace h := condT h hc3
     refine wc_sr ?_
     refine WL.as rfl rfl ?_
     refine WL.as rfl rfl ?_
     refine WL.as rfl rfl ?_
     refine WL.ns ?_
     refine wc_ret ?_
     refine we_seq_ret ?_
     refine we_lp_ret ?_
     obtain rfl := Option.some.inj h
     exact we_ret_fn (rs3 rfl (rv_t rfl) (rv_t rfl) (rv_t rfl)) (Le.tud ⟨(Le.refl _), (Le.refl _), (Le.refl _), trivial⟩)
    ·replace h := condF h hc3
     refine wc_skip ?_
     refine we_seq ?_
     refine wc_region ?_
     refine WL.as rfl rfl ?_
     refine WL.nil ?_
     exact we_lp ⟨1, h, (Sub.cons rfl (Le.refl _) (Sub.cons rfl (Le.refl _) (Sub.cons rfl (Le.refl _) (Sub.nil _)))), ⟨⟨rfl, ⟨(Le.refl _), (Le.refl _), (Le.refl _), (Le.refl _), (Le.refl _), (Le.refl _), (Le.refl _), (Le.refl _), (Le.refl _), (Le.refl _), (Le.refl _), (Le.refl _), (Le.refl _), (Le.refl _), (Le.refl _), (Le.refl _), (Le.refl _), (Le.refl _), trivial⟩⟩, ⟨rfl, ⟨(Le.refl _), (Le.refl _), (Le.refl _), trivial⟩⟩, trivial⟩⟩
   ·replace h := condF h hc2
    refine wc_skip ?_
    exact we_lp ⟨0, h, (Sub.cons rfl (Le.refl _) (Sub.cons rfl (Le.refl _) (Sub.cons rfl (Le.refl _) (Sub.nil _)))), ⟨⟨rfl, ⟨(Le.refl _), (Le.refl _), (Le.refl _), (Le.refl _), (Le.refl _), (Le.refl _), (Le.refl _), (Le.refl _), (Le.refl _), (Le.refl _), (Le.refl _), (Le.refl _), (Le.refl _), (Le.refl _), (Le.refl _), (Le.refl _), (Le.refl _), (Le.refl _), trivial⟩⟩, ⟨rfl, ⟨(Le.refl _), (Le.refl _), (Le.refl _), trivial⟩⟩, trivial⟩⟩
  ·rintro env1 st1 ⟨slot48, h, hsub, hst⟩
   subst hk49
   dsimp only at h
   refine WC.sub hsub (WC.weak hst ?_)
   refine wc_sr ?_
   refine WL.qn (y_fieldAddr f54_11 rfl) rfl ?_
   refine WL.qn (y_load rfl rfl a51 rfl) rfl ?_
   refine WL.qn (y_makeFunc rfl rfl) rfl ?_
   obtain ⟨r50, hr50, h⟩ := bindS h
   refine WL.fn rfl rfl rfl rfl (f69_c _ _ 70 [] [(.pc (E9 name2))] (fun z0 _ h => by obtain rfl := Option.some.inj h; exact f70_c z0 name2) hr50) ⟨(Le.refl _), (Le.fnc trivial ⟨(Le.refl _), trivial⟩), trivial⟩ (Wt.none rfl) rfl rfl ?_
   refine WL.as rfl rfl ?_
   refine WL.ns ?_
   refine wc_seq ?_
   refine wc_sr ?_
   refine WL.mv rfl rfl ?_
   refine WL.qn (y_lss rfl rfl) rfl ?_
   refine WL.ns ?_
   refine wc_cond rfl (fun hc4 => ?_) (fun hc4 => ?_)
   ·replace h := condT h hc4
    refine wc_sr ?_
    refine WL.as rfl rfl ?_
    refine WL.as rfl rfl ?_
    refine WL.as rfl rfl ?_
    refine WL.ns ?_
    refine wc_ret ?_
    refine we_seq_ret ?_
    obtain rfl := Option.some.inj h
    exact we_ret_fn (rs3 rfl (rv_t rfl) (rv_t rfl) (rv_t rfl)) (Le.tud ⟨(Le.refl _), (Le.refl _), (Le.refl _), trivial⟩)
   ·replace h := condF h hc4
    refine wc_skip ?_
    refine we_seq ?_
    refine wc_seq ?_
    refine wc_region_draw (by kernel_rfl) (by kernel_rfl) ?_
    refine WQ.qn (y_move rfl) rfl ?_
    refine WQ.qn (y_move rfl) rfl ?_
    refine WQ.qn (y_add rfl rfl rfl) rfl ?_
    refine WQ.qn (y_fieldAddr f54_11 rfl) rfl ?_
    refine WQ.qn (y_load rfl rfl a51 rfl) rfl ?_
    refine WQ.qn (y_move rfl) rfl ?_
    obtain ⟨x51, hx51, h⟩ := bindS h
    refine WQ.qn (y_indexAddr e51 rfl (Le.refl _) rfl (idx_nonneg hx51) (idx_row E56_eq hx51) rfl) rfl ?_
    refine WQ.qn (y_assign rfl) rfl ?_
    refine WQ.qn (y_assign rfl) rfl ?_
    refine WQ.qn (y_assign rfl) rfl ?_
    refine WQ.nil ?_
    refine we_seq ?_
    refine wc_ret ?_
    obtain rfl := Option.some.inj h
    exact we_ret_fn (rs3 rfl (rv_t rfl) (rv_t rfl) (rv_t rfl)) (Le.tud ⟨(Le.refl _), (Le.refl _), (Le.refl _), trivial⟩)

theorem f13_c (t0 : Table) (sub1 : Int) (name2 : ByteArray) {r : Int × Bool} (h : f13 t0 sub1 name2 = some r) : Pu Tryd.prog 13 [.ag (R28 t0), .i .i64 sub1, .s name2] (.tu [.i .i64 r.1, .b r.2]) := by
 unfold f13 at h
 refine fn_intro Tryd.func13 (by kernel_rfl) rfl rfl rfl (fun φφ ww => ?_)
 refine wc_sr ?_
 refine WL.s ((b_boxd rfl rfl (Les.refl _)).does) (Wt.none rfl) rfl rfl ?_
 refine WL.as rfl rfl ?_
 refine WL.as rfl rfl ?_
 refine WL.ns ?_
 refine wc_sr ?_
 refine WL.qn (y_loadcN rfl a28 s28 rfl) rfl ?_
 refine WL.qn (y_build p61 z61 rfl rfl) rfl ?_
 refine WL.mv rfl rfl ?_
 refine WL.mv rfl rfl ?_
 obtain ⟨r26, hr26, h⟩ := bindS h
 refine WL.fn rfl rfl rfl rfl (f46_c _ _ _ hr26) ⟨(Le.agd ⟨(Le.refl _), (Le.refl _), (Le.refl _), (Le.refl _), (Le.refl _), trivial⟩), (Le.refl _), (Le.refl _), trivial⟩ (Wt.none rfl) rfl rfl ?_
 refine WL.mv rfl rfl ?_
 refine WL.qn (y_extractd rfl rfl) rfl ?_
 refine WL.qn (y_extractd rfl rfl) rfl ?_
 refine WL.qn (y_extractd rfl rfl) rfl ?_
 refine WL.as rfl rfl ?_
 refine WL.as rfl rfl ?_
 refine WL.as rfl rfl ?_
 refine WL.ns ?_
 refine wc_sr ?_
 refine WL.mv rfl rfl ?_
 refine WL.mv rfl rfl ?_
 refine WL.as rfl rfl ?_
 refine WL.as rfl rfl ?_
 refine WL.ns ?_
 refine wc_ret ?_
 obtain rfl := Option.some.inj h
 exact we_ret_fn (rs2 rfl (rv_t rfl) (rv_t rfl)) (Le.tud ⟨(Le.refl _), (Le.refl _), trivial⟩)

theorem f15_c (t0 : Table) (sub1 : Int) (name2 : ByteArray) (disc3 : Int) {r : Bool} (h : f15 t0 sub1 name2 disc3 = some r) : Pu Tryd.prog 15 [.ag (R28 t0), .i .i64 sub1, .s name2, .i .i64 disc3] (.b r) := by
 unfold f15 at h
 refine fn_intro Tryd.func15 (by kernel_rfl) rfl rfl rfl (fun φφ ww => ?_)
 refine wc_sr ?_
 refine WL.s ((b_boxd rfl rfl (Les.refl _)).does) (Wt.none rfl) rfl rfl ?_
 refine WL.as rfl rfl ?_
 refine WL.ns ?_
 refine wc_sr ?_
 refine WL.qn (y_loadcN rfl a28 s28 rfl) rfl ?_
 refine WL.qn (y_build p61 z61 rfl rfl) rfl ?_
 refine WL.mv rfl rfl ?_
 refine WL.mv rfl rfl ?_
 obtain ⟨r46, hr46, h⟩ := bindS h
 refine WL.fn rfl rfl rfl rfl (f46_c _ _ _ hr46) ⟨(Le.agd ⟨(Le.refl _), (Le.refl _), (Le.refl _), (Le.refl _), (Le.refl _), trivial⟩), (Le.refl _), (Le.refl _), trivial⟩ (Wt.none rfl) rfl rfl ?_
 refine WL.mv rfl rfl ?_
 refine WL.qn (y_extractd rfl rfl) rfl ?_
 refine WL.qn (y_extractd rfl rfl) rfl ?_
 refine WL.qn (y_extractd rfl rfl) rfl ?_
 refine WL.as rfl rfl ?_
 refine WL.as rfl rfl ?_
 refine WL.as rfl rfl ?_
 refine WL.ns ?_
 refine wc_sr ?_
 refine WL.mv rfl rfl ?_
 refine WL.mv rfl rfl ?_
 obtain ⟨b47, hb47, h⟩ := bindS h
 apply WL.grp 18 (t := 22) (d := 40) (z := b47)
 ·exact rfl
 ·intro hg22
  have h := condT hb47 hg22
  refine WL.qy (y_move rfl) rfl rfl rfl ?_
  refine WL.qy (y_eqnp (R := R56) (o := r46.2.1) Tryd.underlying69 rfl (Le.refl _)) rfl rfl rfl ?_
  refine WL.qy (y_move rfl) rfl rfl rfl ?_
  obtain ⟨b48, hb48, h⟩ := bindS h
  apply WL.grp 6 (t := 25) (d := 31) (z := b48)
  ·exact rfl
  ·intro hg25
   have h := condT hb48 hg25
   refine WL.skips 5 rfl ?_
   refine WL.qy (y_pick_t rfl rfl) rfl rfl rfl ?_
   obtain rfl := Option.some.inj h
   exact WL.nil ⟨rfl, [_, _, _, _, _, _], rfl, rfl, rfl⟩
  ·intro hg25
   have h := condF hb48 hg25
   refine WL.qy (y_move rfl) rfl rfl rfl ?_
   obtain ⟨p49, hp49, h⟩ := bindS h
   refine WL.cast 26 rfl (y := .d (.pc (R56 p49))) (by rw [hp49]; exact Le.refl _) ?_
   refine WL.qy (y_nilCheckc rfl) rfl rfl rfl ?_
   refine WL.qy (y_fieldAddrc f56_4 rfl) rfl rfl rfl ?_
   refine WL.qy (y_loadc rfl a4 rfl) rfl rfl rfl ?_
   refine WL.qy (y_not rfl) rfl rfl rfl ?_
   refine WL.qy (y_pick_f rfl rfl) rfl rfl rfl ?_
   obtain rfl := Option.some.inj h
   exact WL.nil ⟨rfl, [_, _, _, _, _, _, _], rfl, rfl, rfl⟩
  refine WL.qy (y_move rfl) rfl rfl rfl ?_
  obtain ⟨b50, hb50, h⟩ := bindS h
  apply WL.grp 7 (t := 32) (d := 39) (z := b50)
  ·exact rfl
  ·intro hg32
   have h := condT hb50 hg32
   refine WL.skips 6 rfl ?_
   refine WL.qy (y_pick_t rfl rfl) rfl rfl rfl ?_
   obtain rfl := Option.some.inj h
   exact WL.nil ⟨rfl, [_, _, _, _, _, _, _], rfl, rfl, rfl⟩
  ·intro hg32
   have h := condF hb50 hg32
   refine WL.qy (y_move rfl) rfl rfl rfl ?_
   obtain ⟨p51, hp51, h⟩ := bindS h
   refine WL.cast 33 rfl (y := .d (.pc (R56 p51))) (by rw [hp51]; exact Le.refl _) ?_
   refine WL.qy (y_nilCheckc rfl) rfl rfl rfl ?_
   refine WL.qy (y_fieldAddrc f56_5 rfl) rfl rfl rfl ?_
   refine WL.qy (y_loadc rfl a41 rfl) rfl rfl rfl ?_
   refine WL.qy (y_move rfl) rfl rfl rfl ?_
   obtain ⟨r52, hr52, h⟩ := bindS h
   refine WL.fn rfl rfl rfl rfl (f47_c _ _ hr52) ⟨(Le.refl _), (Le.refl _), trivial⟩ (Wt.yes rfl rfl rfl) rfl rfl ?_
   refine WL.qy (y_pick_f rfl rfl) rfl rfl rfl ?_
   obtain rfl := Option.some.inj h
   exact WL.nil ⟨rfl, [_, _, _, _, _, _, _, _], rfl, rfl, rfl⟩
  refine WL.qn (y_pick_t rfl rfl) rfl ?_
  obtain rfl := Option.some.inj h
  exact WL.nil ⟨rfl, [_, _, _, _, _, _, _], rfl, rfl, rfl⟩
 ·intro hg22
  have h := condF hb47 hg22
  refine WL.skips 17 rfl ?_
  refine WL.qn (y_pick_f rfl rfl) rfl ?_
  obtain rfl := Option.some.inj h
  exact WL.nil ⟨rfl, [_, _, _, _, _, _, _, _, _, _, _, _, _, _, _, _, _, _], rfl, rfl, rfl⟩
 refine WL.as rfl rfl ?_
 refine WL.ns ?_
 refine wc_ret ?_
 obtain rfl := Option.some.inj h
 exact we_ret_fn (rs1 rfl (rv_t rfl)) (Le.refl _)

theorem f20_c (t0 : Table) (a1 : Int) (b2 : Int) {r : Bool} (h : f20 t0 a1 b2 = some r) : Pu Tryd.prog 20 [.ag (R28 t0), .i .i64 a1, .i .i64 b2] (.b r) := by
 unfold f20 at h
 refine fn_intro Tryd.func20 (by kernel_rfl) rfl rfl rfl (fun φφ ww => ?_)
 refine wc_sr ?_
 refine WL.s ((b_boxd rfl rfl (Les.refl _)).does) (Wt.none rfl) rfl rfl ?_
 refine WL.as rfl rfl ?_
 refine WL.ns ?_
 refine wc_sr ?_
 refine WL.qn (y_fieldAddrc f28_1 rfl) rfl ?_
 refine WL.qn (y_loadc rfl a23 rfl) rfl ?_
 refine WL.mv rfl rfl ?_
 obtain ⟨r38, hr38, h⟩ := bindS h
 refine WL.fn rfl rfl rfl rfl (f52_c _ _ hr38) ⟨(Le.refl _), (Le.refl _), trivial⟩ (Wt.none rfl) rfl rfl ?_
 refine WL.mv rfl rfl ?_
 refine WL.qn (y_extractd rfl rfl) rfl ?_
 refine WL.qn (y_extractd rfl rfl) rfl ?_
 refine WL.s ((b_alloc z40).does) (Wt.none rfl) rfl rfl ?_
 refine WL.s0 (d_store rfl rfl rfl rfl rfl rfl s40 rfl rfl) (Wt.none rfl) rfl ?_
 refine WL.as rfl rfl ?_
 refine WL.ns ?_
 refine wc_sr ?_
 refine WL.qn (y_fieldAddrc f28_1 rfl) rfl ?_
 refine WL.qn (y_loadc rfl a23 rfl) rfl ?_
 refine WL.mv rfl rfl ?_
 obtain ⟨r39, hr39, h⟩ := bindS h
 refine WL.fn rfl rfl rfl rfl (f52_c _ _ hr39) ⟨(Le.refl _), (Le.refl _), trivial⟩ (Wt.none rfl) rfl rfl ?_
 refine WL.mv rfl rfl ?_
 refine WL.qn (y_extractd rfl rfl) rfl ?_
 refine WL.qn (y_extractd rfl rfl) rfl ?_
 refine WL.s ((b_alloc z40).does) (Wt.none rfl) rfl rfl ?_
 refine WL.s0 (d_store rfl rfl rfl rfl rfl rfl s40 rfl rfl) (Wt.none rfl) rfl ?_
 refine WL.as rfl rfl ?_
 refine WL.ns ?_
 refine wc_sr ?_
 refine WL.mv rfl rfl ?_
 refine WL.mv rfl rfl ?_
 apply WL.and 2 (t := 26) (d := 28)
 ·exact rfl
 ·intro hg26
  refine WL.qy (y_move rfl) rfl rfl rfl ?_
  refine WL.qn (y_pick_t rfl rfl) rfl ?_
  exact WL.nil ⟨rfl, [_, _], rfl, rfl, rfl⟩
 ·refine WL.skips 1 rfl ?_
  refine WL.qn (y_pick_f rfl rfl) rfl ?_
  exact WL.nil ⟨rfl, [_, _], rfl, rfl, rfl⟩
 refine WL.mv rfl rfl ?_
 apply WL.and 4 (t := 29) (d := 33)
 ·exact rfl
 ·intro hg29
  refine WL.qy (y_loadN rfl rfl a40 s40 rfl) rfl rfl rfl ?_
  refine WL.qy (y_loadN rfl rfl a40 s40 rfl) rfl rfl rfl ?_
  refine WL.qy (y_eqst (xs := [.int .i64 r38.1.t, .int .i64 r38.1.lo, .int .i64 r38.1.hi]) (ys := [.int .i64 r39.1.t, .int .i64 r39.1.lo, .int .i64 r39.1.hi]) (b := ((decide (r38.1.t = r39.1.t)) && ((decide (r38.1.lo = r39.1.lo)) && ((decide (r38.1.hi = r39.1.hi)) && true)))) q40 rfl (Le.agd ⟨(Le.refl _), (Le.refl _), (Le.refl _), trivial⟩) rfl (Le.agd ⟨(Le.refl _), (Le.refl _), (Le.refl _), trivial⟩) rfl rfl rfl) rfl rfl rfl ?_
  refine WL.qn (y_pick_t rfl rfl) rfl ?_
  exact WL.nil ⟨rfl, [_, _, _, _], rfl, rfl, rfl⟩
 ·refine WL.skips 3 rfl ?_
  refine WL.qn (y_pick_f rfl rfl) rfl ?_
  exact WL.nil ⟨rfl, [_, _, _, _], rfl, rfl, rfl⟩
 refine WL.as rfl rfl ?_
 refine WL.ns ?_
 refine wc_ret ?_
 obtain rfl := Option.some.inj h
 exact we_ret_fn (rs1 rfl (rv_t rfl)) (Le.refl _)

theorem f22_c (t0 : Table) (ty1 : Int) {r : Int} (h : f22 t0 ty1 = some r) : Pu Tryd.prog 22 [.ag (R28 t0), .i .i64 ty1] (.i .i64 r) := by
 unfold f22 at h
 refine fn_intro Tryd.func22 (by kernel_rfl) rfl rfl rfl (fun φφ ww => ?_)
 refine wc_sr ?_
 refine WL.s ((b_boxd rfl rfl (Les.refl _)).does) (Wt.none rfl) rfl rfl ?_
 refine WL.as rfl rfl ?_
 refine WL.ns ?_
 refine wc_seq ?_
 refine wc_sr ?_
 refine WL.qn (y_fieldAddrc f28_0 rfl) rfl ?_
 refine WL.qn (y_loadc rfl a22 rfl) rfl ?_
 refine WL.mv rfl rfl ?_
 obtain ⟨r41, hr41, h⟩ := bindS h
 refine WL.fn rfl rfl rfl rfl (f49_c _ _ hr41) ⟨(Le.refl _), (Le.refl _), trivial⟩ (Wt.none rfl) rfl rfl ?_
 refine WL.mv rfl rfl ?_
 refine WL.qn (y_extractd rfl rfl) rfl ?_
 refine WL.qn (y_extractd rfl rfl) rfl ?_
 refine WL.s ((b_alloc z54).does) (Wt.none rfl) rfl rfl ?_
 refine WL.s0 (d_store rfl rfl rfl rfl rfl rfl s54 rfl rfl) (Wt.none rfl) rfl ?_
 refine WL.st (st' := [.row 54 [.d (D.i .u8 r41.1.kind), .d (D.s r41.1.name), .d (D.i .i64 r41.1.parent), .d (D.i .i64 r41.1.first), .d (.sl (List.map E9 r41.1.lits)), .d (D.i .i64 r41.1.index), .d (D.i .i64 r41.1.elem), .d (D.i .i64 r41.1.disc), .d (D.s r41.1.discName), .d (D.b r41.1.has), .d (D.i .i64 r41.1.default_), .d (.sl (List.map E56 r41.1.comps)), .d (D.i .i64 r41.1.target), .d (D.i .u8 r41.1.formal), .d (D.b r41.1.limited), .d (D.i .i64 r41.1.priv), .d (D.i .i64 r41.1.full), .d (D.i .i64 r41.1.level)]]) rfl ?_
 refine WL.as rfl rfl ?_
 refine WL.ns ?_
 refine wc_sr ?_
 refine WL.mv rfl rfl ?_
 refine WL.qn (y_not rfl) rfl ?_
 refine WL.ns ?_
 refine wc_cond rfl (fun hc1 => ?_) (fun hc1 => ?_)
 ·replace h := condT h hc1
  refine wc_sr ?_
  refine WL.as rfl rfl ?_
  refine WL.ns ?_
  refine wc_ret ?_
  refine we_seq_ret ?_
  obtain rfl := Option.some.inj h
  exact we_ret_fn (rs1 rfl (rv_t rfl)) (Le.refl _)
 ·replace h := condF h hc1
  refine wc_skip ?_
  refine we_seq ?_
  replace h := letkS h
  obtain ⟨k43, hk43, h⟩ := h
  refine wc_cut (fun env' st' => ∃ (ty42 : Int), k43 ty42 = some r ∧ Sub [(1, .d (D.i .i64 ty42))] env' ∧ SLe st' [.row 54 [.d (D.i .u8 r41.1.kind), .d (D.s r41.1.name), .d (D.i .i64 r41.1.parent), .d (D.i .i64 r41.1.first), .d (.sl (List.map E9 r41.1.lits)), .d (D.i .i64 r41.1.index), .d (D.i .i64 r41.1.elem), .d (D.i .i64 r41.1.disc), .d (D.s r41.1.discName), .d (D.b r41.1.has), .d (D.i .i64 r41.1.default_), .d (.sl (List.map E56 r41.1.comps)), .d (D.i .i64 r41.1.target), .d (D.i .u8 r41.1.formal), .d (D.b r41.1.limited), .d (D.i .i64 r41.1.priv), .d (D.i .i64 r41.1.full), .d (D.i .i64 r41.1.level)]]) ?_ ?_
  ·refine wc_sr ?_
   refine WL.qn (y_fieldAddrc f28_0 rfl) rfl ?_
   refine WL.qn (y_loadc rfl a22 rfl) rfl ?_
   refine WL.mv rfl rfl ?_
   obtain ⟨x44, hx44, h⟩ := bindS h
   refine WL.qn (y_indexAddr e22 rfl (Le.refl _) rfl (idx_nonneg hx44) (idx_row E54_eq hx44) rfl) rfl ?_
   refine WL.qn (y_fieldAddrc f54_2 rfl) rfl ?_
   refine WL.qn (y_loadc rfl a3 rfl) rfl ?_
   refine WL.as rfl rfl ?_
   refine WL.ns ?_
   refine wc_block ?_
   refine wc_loop (fun n env' st' => ∃ (ty47 : Int), ∃ (p48 : Int), f22_l1 t0 k43 n ty47 p48 = some r ∧ Sub [(1, .d (D.i .i64 ty47)), (2, .d (.pc (R28 t0))), (7, .d (D.i .i64 p48))] env' ∧ SLe st' [.row 54 [.d (D.i .u8 r41.1.kind), .d (D.s r41.1.name), .d (D.i .i64 r41.1.parent), .d (D.i .i64 r41.1.first), .d (.sl (List.map E9 r41.1.lits)), .d (D.i .i64 r41.1.index), .d (D.i .i64 r41.1.elem), .d (D.i .i64 r41.1.disc), .d (D.s r41.1.discName), .d (D.b r41.1.has), .d (D.i .i64 r41.1.default_), .d (.sl (List.map E56 r41.1.comps)), .d (D.i .i64 r41.1.target), .d (D.i .u8 r41.1.formal), .d (D.b r41.1.limited), .d (D.i .i64 r41.1.priv), .d (D.i .i64 r41.1.full), .d (D.i .i64 r41.1.level)]]) (fun n => n) 9223372036854775808 ⟨ty1, x44.parent, h, (Sub.cons rfl (Le.refl _) (Sub.cons rfl (Le.refl _) (Sub.cons rfl (Le.refl _) (Sub.nil _)))), ⟨⟨rfl, ⟨(Le.refl _), (Le.refl _), (Le.refl _), (Le.refl _), (Le.refl _), (Le.refl _), (Le.refl _), (Le.refl _), (Le.refl _), (Le.refl _), (Le.refl _), (Le.refl _), (Le.refl _), (Le.refl _), (Le.refl _), (Le.refl _), (Le.refl _), (Le.refl _), trivial⟩⟩, trivial⟩⟩ ?_
   rintro n env1 st1 ⟨ty47, p48, h, hsub, hst⟩
   cases n with
   | zero => rw [f22_l1] at h; cases h
   | succ n =>
   rw [f22_l1] at h
   refine WC.sub hsub (WC.weak hst ?_)
   refine wc_seq ?_
   refine wc_sr ?_
   refine WL.mv rfl rfl ?_
   refine WL.qn (y_geq rfl rfl) rfl ?_
   refine WL.mv rfl rfl ?_
   apply WL.and 4 (t := 25) (d := 29)
   ·exact rfl
   ·intro hg25
    refine WL.qy (y_move rfl) rfl rfl rfl ?_
    refine WL.qy (y_move rfl) rfl rfl rfl ?_
    refine WL.qy (y_lss rfl rfl) rfl rfl rfl ?_
    refine WL.qn (y_pick_t rfl rfl) rfl ?_
    exact WL.nil ⟨rfl, [_, _, _, _], rfl, rfl, rfl⟩
   ·refine WL.skips 3 rfl ?_
    refine WL.qn (y_pick_f rfl rfl) rfl ?_
    exact WL.nil ⟨rfl, [_, _, _, _], rfl, rfl, rfl⟩
   refine WL.ns ?_
   refine wc_cond rfl (fun hc2 => ?_) (fun hc2 => ?_)
   ·replace h := condT h hc2
    refine wc_skip ?_
    refine we_seq ?_
    refine wc_seq ?_
    refine wc_block ?_
    refine wc_region ?_
    refine WL.mv rfl rfl ?_
    refine WL.as rfl rfl ?_
    refine WL.nil ?_
    refine we_blk ?_
    refine we_seq ?_
    refine wc_region ?_
    refine WL.qn (y_fieldAddrc f28_0 rfl) rfl ?_
    refine WL.qn (y_loadc rfl a22 rfl) rfl ?_
    refine WL.mv rfl rfl ?_
    obtain ⟨x51, hx51, h⟩ := bindS h
    refine WL.qn (y_indexAddr e22 rfl (Le.refl _) rfl (idx_nonneg hx51) (idx_row E54_eq hx51) rfl) rfl ?_
    refine WL.qn (y_fieldAddrc f54_2 rfl) rfl ?_
    refine WL.qn (y_loadc rfl a3 rfl) rfl ?_
    refine WL.as rfl rfl ?_
    refine WL.nil ?_
    exact we_lp ⟨n, ⟨p48, x51.parent, h, (Sub.cons rfl (Le.refl _) (Sub.cons rfl (Le.refl _) (Sub.cons rfl (Le.refl _) (Sub.nil _)))), ⟨⟨rfl, ⟨(Le.refl _), (Le.refl _), (Le.refl _), (Le.refl _), (Le.refl _), (Le.refl _), (Le.refl _), (Le.refl _), (Le.refl _), (Le.refl _), (Le.refl _), (Le.refl _), (Le.refl _), (Le.refl _), (Le.refl _), (Le.refl _), (Le.refl _), (Le.refl _), trivial⟩⟩, trivial⟩⟩, Nat.lt_succ_self n⟩
   ·replace h := condF h hc2
    refine wc_exit ?_
    refine we_seq_exit ?_
    refine we_lp_exit ?_
    refine we_blk_hit ?_
    exact we_lp ⟨ty47, h, (Sub.cons rfl (Le.refl _) (Sub.nil _)), ⟨⟨rfl, ⟨(Le.refl _), (Le.refl _), (Le.refl _), (Le.refl _), (Le.refl _), (Le.refl _), (Le.refl _), (Le.refl _), (Le.refl _), (Le.refl _), (Le.refl _), (Le.refl _), (Le.refl _), (Le.refl _), (Le.refl _), (Le.refl _), (Le.refl _), (Le.refl _), trivial⟩⟩, trivial⟩⟩
  ·rintro env1 st1 ⟨ty42, h, hsub, hst⟩
   subst hk43
   dsimp only at h
   refine WC.sub hsub (WC.weak hst ?_)
   refine wc_sr ?_
   refine WL.mv rfl rfl ?_
   refine WL.as rfl rfl ?_
   refine WL.ns ?_
   refine wc_ret ?_
   obtain rfl := Option.some.inj h
   exact we_ret_fn (rs1 rfl (rv_t rfl)) (Le.refl _)

theorem f50_c (k0 : Int) : Pu Tryd.prog 50 [.i .u8 k0] (.b (f50 k0)) := by
 generalize h : f50 k0 = r
 unfold f50 at h
 refine fn_intro Tryd.func50 (by kernel_rfl) rfl rfl rfl (fun φφ ww => ?_)
 refine wc_sr ?_
 refine WL.as rfl rfl ?_
 refine WL.ns ?_
 refine wc_sr ?_
 refine WL.mv rfl rfl ?_
 refine WL.qn (y_eql rfl rfl) rfl ?_
 refine WL.mv rfl rfl ?_
 apply WL.or 3 (t := 5) (d := 8)
 ·exact rfl
 ·intro hg5
  refine WL.qy (y_move rfl) rfl rfl rfl ?_
  refine WL.qy (y_eql rfl rfl) rfl rfl rfl ?_
  refine WL.qn (y_pick_f rfl rfl) rfl ?_
  exact WL.nil ⟨rfl, [_, _, _], rfl, rfl, rfl⟩
 ·refine WL.skips 2 rfl ?_
  refine WL.qn (y_pick_t rfl rfl) rfl ?_
  exact WL.nil ⟨rfl, [_, _, _], rfl, rfl, rfl⟩
 refine WL.as rfl rfl ?_
 refine WL.ns ?_
 refine wc_ret ?_
 subst h
 exact we_ret_fn (rs1 rfl (rv_t rfl)) (Le.refl _)

theorem f18_c (t0 : Table) (from1 : Int) (to2 : Int) {r : Bool} (h : f18 t0 from1 to2 = some r) : Pu Tryd.prog 18 [.ag (R28 t0), .i .i64 from1, .i .i64 to2] (.b r) := by
 unfold f18 at h
 refine fn_intro Tryd.func18 (by kernel_rfl) rfl rfl rfl (fun φφ ww => ?_)
 refine wc_sr ?_
 refine WL.s ((b_boxd rfl rfl (Les.refl _)).does) (Wt.none rfl) rfl rfl ?_
 refine WL.as rfl rfl ?_
 refine WL.ns ?_
 refine wc_sr ?_
 refine WL.qn (y_fieldAddrc f28_0 rfl) rfl ?_
 refine WL.qn (y_loadc rfl a22 rfl) rfl ?_
 refine WL.mv rfl rfl ?_
 obtain ⟨r82, hr82, h⟩ := bindS h
 refine WL.fn rfl rfl rfl rfl (f49_c _ _ hr82) ⟨(Le.refl _), (Le.refl _), trivial⟩ (Wt.none rfl) rfl rfl ?_
 refine WL.mv rfl rfl ?_
 refine WL.qn (y_extractd rfl rfl) rfl ?_
 refine WL.qn (y_extractd rfl rfl) rfl ?_
 refine WL.s ((b_alloc z54).does) (Wt.none rfl) rfl rfl ?_
 refine WL.s0 (d_store rfl rfl rfl rfl rfl rfl s54 rfl rfl) (Wt.none rfl) rfl ?_
 refine WL.st (st' := [.row 54 [.d (D.i .u8 r82.1.kind), .d (D.s r82.1.name), .d (D.i .i64 r82.1.parent), .d (D.i .i64 r82.1.first), .d (.sl (List.map E9 r82.1.lits)), .d (D.i .i64 r82.1.index), .d (D.i .i64 r82.1.elem), .d (D.i .i64 r82.1.disc), .d (D.s r82.1.discName), .d (D.b r82.1.has), .d (D.i .i64 r82.1.default_), .d (.sl (List.map E56 r82.1.comps)), .d (D.i .i64 r82.1.target), .d (D.i .u8 r82.1.formal), .d (D.b r82.1.limited), .d (D.i .i64 r82.1.priv), .d (D.i .i64 r82.1.full), .d (D.i .i64 r82.1.level)]]) rfl ?_
 refine WL.as rfl rfl ?_
 refine WL.ns ?_
 refine wc_sr ?_
 refine WL.qn (y_fieldAddrc f28_0 rfl) rfl ?_
 refine WL.qn (y_loadc rfl a22 rfl) rfl ?_
 refine WL.mv rfl rfl ?_
 obtain ⟨r83, hr83, h⟩ := bindS h
 refine WL.fn rfl rfl rfl rfl (f49_c _ _ hr83) ⟨(Le.refl _), (Le.refl _), trivial⟩ (Wt.none rfl) rfl rfl ?_
 refine WL.mv rfl rfl ?_
 refine WL.qn (y_extractd rfl rfl) rfl ?_
 refine WL.qn (y_extractd rfl rfl) rfl ?_
 refine WL.s ((b_alloc z54).does) (Wt.none rfl) rfl rfl ?_
 refine WL.s0 (d_store rfl rfl rfl rfl rfl rfl s54 rfl rfl) (Wt.none rfl) rfl ?_
 refine WL.st (st' := [.row 54 [.d (D.i .u8 r82.1.kind), .d (D.s r82.1.name), .d (D.i .i64 r82.1.parent), .d (D.i .i64 r82.1.first), .d (.sl (List.map E9 r82.1.lits)), .d (D.i .i64 r82.1.index), .d (D.i .i64 r82.1.elem), .d (D.i .i64 r82.1.disc), .d (D.s r82.1.discName), .d (D.b r82.1.has), .d (D.i .i64 r82.1.default_), .d (.sl (List.map E56 r82.1.comps)), .d (D.i .i64 r82.1.target), .d (D.i .u8 r82.1.formal), .d (D.b r82.1.limited), .d (D.i .i64 r82.1.priv), .d (D.i .i64 r82.1.full), .d (D.i .i64 r82.1.level)], .row 54 [.d (D.i .u8 r83.1.kind), .d (D.s r83.1.name), .d (D.i .i64 r83.1.parent), .d (D.i .i64 r83.1.first), .d (.sl (List.map E9 r83.1.lits)), .d (D.i .i64 r83.1.index), .d (D.i .i64 r83.1.elem), .d (D.i .i64 r83.1.disc), .d (D.s r83.1.discName), .d (D.b r83.1.has), .d (D.i .i64 r83.1.default_), .d (.sl (List.map E56 r83.1.comps)), .d (D.i .i64 r83.1.target), .d (D.i .u8 r83.1.formal), .d (D.b r83.1.limited), .d (D.i .i64 r83.1.priv), .d (D.i .i64 r83.1.full), .d (D.i .i64 r83.1.level)]]) rfl ?_
 refine WL.as rfl rfl ?_
 refine WL.ns ?_
 refine wc_seq ?_
 refine wc_block ?_
 refine wc_sr ?_
 refine WL.mv rfl rfl ?_
 refine WL.qn (y_not rfl) rfl ?_
 refine WL.mv rfl rfl ?_
 apply WL.or 3 (t := 29) (d := 32)
 ·exact rfl
 ·intro hg29
  refine WL.qy (y_move rfl) rfl rfl rfl ?_
  refine WL.qy (y_not rfl) rfl rfl rfl ?_
  refine WL.qn (y_pick_f rfl rfl) rfl ?_
  exact WL.nil ⟨rfl, [_, _, _], rfl, rfl, rfl⟩
 ·refine WL.skips 2 rfl ?_
  refine WL.qn (y_pick_t rfl rfl) rfl ?_
  exact WL.nil ⟨rfl, [_, _, _], rfl, rfl, rfl⟩
 refine WL.as rfl rfl ?_
 refine WL.ns ?_
 refine wc_cond rfl (fun hc1 => ?_) (fun hc1 => ?_)
 ·replace h := condT h hc1
  refine wc_sr ?_
  refine WL.as rfl rfl ?_
  refine WL.ns ?_
  refine wc_ret ?_
  refine we_blk_ret ?_
  refine we_seq_ret ?_
  obtain rfl := Option.some.inj h
  exact we_ret_fn (rs1 rfl (rv_t rfl)) (Le.refl _)
 ·replace h := condF h hc1
  refine wc_sr ?_
  refine WL.mv rfl rfl ?_
  refine WL.mv rfl rfl ?_
  refine WL.qn (y_eql rfl rfl) rfl ?_
  refine WL.as rfl rfl ?_
  refine WL.ns ?_
  refine wc_cond rfl (fun hc2 => ?_) (fun hc2 => ?_)
  ·replace h := condT h hc2
   refine wc_sr ?_
   refine WL.as rfl rfl ?_
   refine WL.ns ?_
   refine wc_ret ?_
   refine we_blk_ret ?_
   refine we_seq_ret ?_
   obtain rfl := Option.some.inj h
   exact we_ret_fn (rs1 rfl (rv_t rfl)) (Le.refl _)
  ·replace h := condF h hc2
   refine wc_sr ?_
   refine WL.qn (y_fieldAddr f54_0 rfl) rfl ?_
   refine WL.qn (y_load rfl rfl a49 rfl) rfl ?_
   refine WL.qn (y_eql rfl rfl) rfl ?_
   refine WL.mv rfl rfl ?_
   apply WL.and 4 (t := 41) (d := 45)
   ·exact rfl
   ·intro hg41
    refine WL.qy (y_fieldAddr f54_0 rfl) rfl rfl rfl ?_
    refine WL.qy (y_load rfl rfl a49 rfl) rfl rfl rfl ?_
    refine WL.qy (y_eql rfl rfl) rfl rfl rfl ?_
    refine WL.qn (y_pick_t rfl rfl) rfl ?_
    exact WL.nil ⟨rfl, [_, _, _, _], rfl, rfl, rfl⟩
   ·refine WL.skips 3 rfl ?_
    refine WL.qn (y_pick_f rfl rfl) rfl ?_
    exact WL.nil ⟨rfl, [_, _, _, _], rfl, rfl, rfl⟩
   refine WL.as rfl rfl ?_
   refine WL.ns ?_
   refine wc_cond rfl (fun hc3 => ?_) (fun hc3 => ?_)
   ·replace h := condT h hc3
    refine wc_seq ?_
    refine wc_region_draw (by kernel_rfl) (by kernel_rfl) ?_
    refine WQ.qn (y_loadcN rfl a28 s28 rfl) rfl ?_
    refine WQ.qn (y_move rfl) rfl ?_
    obtain ⟨r84, hr84, h⟩ := bindS h
    refine WQ.q (YieldsQ.fn rfl rfl rfl rfl rfl (f22_c _ _ hr84) ⟨(Le.refl _), (Le.refl _), trivial⟩) (Wt.none rfl) rfl rfl ?_
    refine WQ.qn (y_loadcN rfl a28 s28 rfl) rfl ?_
    refine WQ.qn (y_move rfl) rfl ?_
    obtain ⟨r85, hr85, h⟩ := bindS h
    refine WQ.q (YieldsQ.fn rfl rfl rfl rfl rfl (f22_c _ _ hr85) ⟨(Le.refl _), (Le.refl _), trivial⟩) (Wt.none rfl) rfl rfl ?_
    refine WQ.qn (y_eql rfl rfl) rfl ?_
    refine WQ.qn (y_assign rfl) rfl ?_
    refine WQ.nil ?_
    refine we_seq ?_
    refine wc_ret ?_
    refine we_blk_ret ?_
    refine we_seq_ret ?_
    obtain rfl := Option.some.inj h
    exact we_ret_fn (rs1 rfl (rv_t rfl)) (Le.refl _)
   ·replace h := condF h hc3
    refine wc_sr ?_
    refine WL.qn (y_fieldAddr f54_0 rfl) rfl ?_
    refine WL.qn (y_load rfl rfl a49 rfl) rfl ?_
    refine WL.qn (y_eql rfl rfl) rfl ?_
    refine WL.mv rfl rfl ?_
    apply WL.and 4 (t := 57) (d := 61)
    ·exact rfl
    ·intro hg57
     refine WL.qy (y_fieldAddr f54_0 rfl) rfl rfl rfl ?_
     refine WL.qy (y_load rfl rfl a49 rfl) rfl rfl rfl ?_
     refine WL.qy (y_eql rfl rfl) rfl rfl rfl ?_
     refine WL.qn (y_pick_t rfl rfl) rfl ?_
     exact WL.nil ⟨rfl, [_, _, _, _], rfl, rfl, rfl⟩
    ·refine WL.skips 3 rfl ?_
     refine WL.qn (y_pick_f rfl rfl) rfl ?_
     exact WL.nil ⟨rfl, [_, _, _, _], rfl, rfl, rfl⟩
    refine WL.as rfl rfl ?_
    refine WL.ns ?_
    refine wc_cond rfl (fun hc4 => ?_) (fun hc4 => ?_)
    ·replace h := condT h hc4
     refine wc_sr ?_
     refine WL.qn (y_loadcN rfl a28 s28 rfl) rfl ?_
     refine WL.qn (y_fieldAddr f54_12 rfl) rfl ?_
     refine WL.qn (y_load rfl rfl a3 rfl) rfl ?_
     refine WL.qn (y_fieldAddr f54_12 rfl) rfl ?_
     refine WL.qn (y_load rfl rfl a3 rfl) rfl ?_
     obtain ⟨r86, hr86, h⟩ := bindS h
     refine WL.fn rfl rfl rfl rfl (f20_c _ _ _ hr86) ⟨(Le.refl _), (Le.refl _), (Le.refl _), trivial⟩ (Wt.none rfl) rfl rfl ?_
     refine WL.as rfl rfl ?_
     refine WL.ns ?_
     refine wc_ret ?_
     refine we_blk_ret ?_
     refine we_seq_ret ?_
     obtain rfl := Option.some.inj h
     exact we_ret_fn (rs1 rfl (rv_t rfl)) (Le.refl _)
    ·replace h := condF h hc4
     refine wc_skip ?_
     refine we_blk ?_
     refine we_seq ?_
     refine wc_sr ?_
     refine WL.as rfl rfl ?_
     refine WL.ns ?_
     refine wc_sr ?_
     refine WL.mv rfl rfl ?_
     refine WL.qn (y_fieldAddr f54_0 rfl) rfl ?_
     refine WL.qn (y_load rfl rfl a49 rfl) rfl ?_
     refine WL.fn rfl rfl rfl rfl (f50_c _) ⟨(Le.refl _), trivial⟩ (Wt.none rfl) rfl rfl ?_
     refine WL.mv rfl rfl ?_
     apply WL.and 5 (t := 72) (d := 77)
     ·exact rfl
     ·intro hg72
      refine WL.qy (y_move rfl) rfl rfl rfl ?_
      refine WL.qy (y_fieldAddr f54_0 rfl) rfl rfl rfl ?_
      refine WL.qy (y_load rfl rfl a49 rfl) rfl rfl rfl ?_
      refine WL.fn rfl rfl rfl rfl (f50_c _) ⟨(Le.refl _), trivial⟩ (Wt.yes rfl rfl rfl) rfl rfl ?_
      refine WL.qn (y_pick_t rfl rfl) rfl ?_
      exact WL.nil ⟨rfl, [_, _, _, _, _], rfl, rfl, rfl⟩
     ·refine WL.skips 4 rfl ?_
      refine WL.qn (y_pick_f rfl rfl) rfl ?_
      exact WL.nil ⟨rfl, [_, _, _, _, _], rfl, rfl, rfl⟩
     refine WL.as rfl rfl ?_
     refine WL.ns ?_
     refine wc_ret ?_
     obtain rfl := Option.some.inj h
     exact we_ret_fn (rs1 rfl (rv_t rfl)) (Le.refl _)

theorem f58_c (t0 : View) (sub1 : Int) {r : List Int} (h : f58 t0 sub1 = some r) : Pu Tryd.prog 58 [.ag (R61 t0), .i .i64 sub1] (.sl (List.map E3 r)) := by
 unfold f58 at h
 refine fn_intro Tryd.func58 (by kernel_rfl) rfl rfl rfl (fun φφ ww => ?_)
 refine wc_sr ?_
 refine WL.s ((b_boxd rfl rfl (Les.refl _)).does) (Wt.none rfl) rfl rfl ?_
 refine WL.as rfl rfl ?_
 refine WL.ns ?_
 refine wc_sr ?_
 refine WL.qn (y_loadcN rfl a61 s61 rfl) rfl ?_
 refine WL.mv rfl rfl ?_
 obtain ⟨r64, hr64, h⟩ := bindS h
 refine WL.fn rfl rfl rfl rfl (f40_c _ _ hr64) ⟨(Le.refl _), (Le.refl _), trivial⟩ (Wt.none rfl) rfl rfl ?_
 refine WL.mv rfl rfl ?_
 refine WL.qn (y_extractd rfl rfl) rfl ?_
 refine WL.qn (y_extractd rfl rfl) rfl ?_
 refine WL.qn (y_extractd rfl rfl) rfl ?_
 refine WL.s ((b_alloc z54).does) (Wt.none rfl) rfl rfl ?_
 refine WL.s ((b_alloc z40).does) (Wt.none rfl) rfl rfl ?_
 refine WL.s0 (d_store rfl rfl rfl rfl rfl rfl s54 rfl rfl) (Wt.none rfl) rfl ?_
 refine WL.st (st' := [.row 54 [.d (D.i .u8 r64.1.kind), .d (D.s r64.1.name), .d (D.i .i64 r64.1.parent), .d (D.i .i64 r64.1.first), .d (.sl (List.map E9 r64.1.lits)), .d (D.i .i64 r64.1.index), .d (D.i .i64 r64.1.elem), .d (D.i .i64 r64.1.disc), .d (D.s r64.1.discName), .d (D.b r64.1.has), .d (D.i .i64 r64.1.default_), .d (.sl (List.map E56 r64.1.comps)), .d (D.i .i64 r64.1.target), .d (D.i .u8 r64.1.formal), .d (D.b r64.1.limited), .d (D.i .i64 r64.1.priv), .d (D.i .i64 r64.1.full), .d (D.i .i64 r64.1.level)], .row 40 [.d (D.i .i64 0), .d (D.i .i64 0), .d (D.i .i64 0)]]) rfl ?_
 refine WL.s0 (d_store rfl rfl rfl rfl rfl rfl s40 rfl rfl) (Wt.none rfl) rfl ?_
 refine WL.as rfl rfl ?_
 refine WL.ns ?_
 replace h := letkS h
 obtain ⟨k65, hk65, h⟩ := h
 refine wc_cut (fun env' st' => k65 () = some r ∧ Sub [] env' ∧ SLe st' [.row 54 [.d (D.i .u8 r64.1.kind), .d (D.s r64.1.name), .d (D.i .i64 r64.1.parent), .d (D.i .i64 r64.1.first), .d (.sl (List.map E9 r64.1.lits)), .d (D.i .i64 r64.1.index), .d (D.i .i64 r64.1.elem), .d (D.i .i64 r64.1.disc), .d (D.s r64.1.discName), .d (D.b r64.1.has), .d (D.i .i64 r64.1.default_), .d (.sl (List.map E56 r64.1.comps)), .d (D.i .i64 r64.1.target), .d (D.i .u8 r64.1.formal), .d (D.b r64.1.limited), .d (D.i .i64 r64.1.priv), .d (D.i .i64 r64.1.full), .d (D.i .i64 r64.1.level)], .row 40 [.d (D.i .i64 r64.2.1.t), .d (D.i .i64 r64.2.1.lo), .d (D.i .i64 r64.2.1.hi)]]) ?_ ?_
 ·refine wc_sr ?_
  refine WL.qn (y_fieldAddr f54_0 rfl) rfl ?_
  refine WL.qn (y_load rfl rfl a49 rfl) rfl ?_
  refine WL.ns ?_
  refine wc_block ?_
  replace h := letkS h
  obtain ⟨k67, hk67, h⟩ := h
  refine wc_cut (fun env' st' => ∃ (t66 : Bool), k67 t66 = some r ∧ Sub [(1, .d (D.i .i64 sub1)), (2, .d (.pc (R61 t0))), (5, .pt 0 0), (19, .d (D.i .u8 r64.1.kind)), (20, .d (D.b t66))] env' ∧ SLe st' [.row 54 [.d (D.i .u8 r64.1.kind), .d (D.s r64.1.name), .d (D.i .i64 r64.1.parent), .d (D.i .i64 r64.1.first), .d (.sl (List.map E9 r64.1.lits)), .d (D.i .i64 r64.1.index), .d (D.i .i64 r64.1.elem), .d (D.i .i64 r64.1.disc), .d (D.s r64.1.discName), .d (D.b r64.1.has), .d (D.i .i64 r64.1.default_), .d (.sl (List.map E56 r64.1.comps)), .d (D.i .i64 r64.1.target), .d (D.i .u8 r64.1.formal), .d (D.b r64.1.limited), .d (D.i .i64 r64.1.priv), .d (D.i .i64 r64.1.full), .d (D.i .i64 r64.1.level)], .row 40 [.d (D.i .i64 r64.2.1.t), .d (D.i .i64 r64.2.1.lo), .d (D.i .i64 r64.2.1.hi)]]) ?_ ?_
  ·refine wc_sr ?_
   refine WL.qn (y_eql rfl rfl) rfl ?_
   refine WL.as rfl rfl ?_
   refine WL.ns ?_
   refine wc_cond rfl (fun hc1 => ?_) (fun hc1 => ?_)
   ·replace h := condT h hc1
    refine wc_skip ?_
    exact we_lp ⟨(decide (r64.1.kind = 2)), h, (Sub.cons rfl (Le.refl _) (Sub.cons rfl (Le.refl _) (Sub.cons rfl (Le.refl _) (Sub.cons rfl (Le.refl _) (Sub.cons rfl (Le.refl _) (Sub.nil _)))))), ⟨⟨rfl, ⟨(Le.refl _), (Le.refl _), (Le.refl _), (Le.refl _), (Le.refl _), (Le.refl _), (Le.refl _), (Le.refl _), (Le.refl _), (Le.refl _), (Le.refl _), (Le.refl _), (Le.refl _), (Le.refl _), (Le.refl _), (Le.refl _), (Le.refl _), (Le.refl _), trivial⟩⟩, ⟨rfl, ⟨(Le.refl _), (Le.refl _), (Le.refl _), trivial⟩⟩, trivial⟩⟩
   ·replace h := condF h hc1
    refine wc_sr ?_
    refine WL.qn (y_eql rfl rfl) rfl ?_
    refine WL.as rfl rfl ?_
    refine WL.ns ?_
    refine wc_cond rfl (fun hc2 => ?_) (fun hc2 => ?_)
    ·replace h := condT h hc2
     refine wc_skip ?_
     exact we_lp ⟨(decide (r64.1.kind = 3)), h, (Sub.cons rfl (Le.refl _) (Sub.cons rfl (Le.refl _) (Sub.cons rfl (Le.refl _) (Sub.cons rfl (Le.refl _) (Sub.cons rfl (Le.refl _) (Sub.nil _)))))), ⟨⟨rfl, ⟨(Le.refl _), (Le.refl _), (Le.refl _), (Le.refl _), (Le.refl _), (Le.refl _), (Le.refl _), (Le.refl _), (Le.refl _), (Le.refl _), (Le.refl _), (Le.refl _), (Le.refl _), (Le.refl _), (Le.refl _), (Le.refl _), (Le.refl _), (Le.refl _), trivial⟩⟩, ⟨rfl, ⟨(Le.refl _), (Le.refl _), (Le.refl _), trivial⟩⟩, trivial⟩⟩
    ·replace h := condF h hc2
     refine wc_sr ?_
     refine WL.qn (y_eql rfl rfl) rfl ?_
     refine WL.as rfl rfl ?_
     refine WL.ns ?_
     refine wc_cond rfl (fun hc3 => ?_) (fun hc3 => ?_)
     ·replace h := condT h hc3
      refine wc_skip ?_
      exact we_lp ⟨(decide (r64.1.kind = 6)), h, (Sub.cons rfl (Le.refl _) (Sub.cons rfl (Le.refl _) (Sub.cons rfl (Le.refl _) (Sub.cons rfl (Le.refl _) (Sub.cons rfl (Le.refl _) (Sub.nil _)))))), ⟨⟨rfl, ⟨(Le.refl _), (Le.refl _), (Le.refl _), (Le.refl _), (Le.refl _), (Le.refl _), (Le.refl _), (Le.refl _), (Le.refl _), (Le.refl _), (Le.refl _), (Le.refl _), (Le.refl _), (Le.refl _), (Le.refl _), (Le.refl _), (Le.refl _), (Le.refl _), trivial⟩⟩, ⟨rfl, ⟨(Le.refl _), (Le.refl _), (Le.refl _), trivial⟩⟩, trivial⟩⟩
     ·replace h := condF h hc3
      refine wc_region ?_
      refine WL.qn (y_eql rfl rfl) rfl ?_
      refine WL.as rfl rfl ?_
      refine WL.nil ?_
      exact we_lp ⟨(decide (r64.1.kind = 7)), h, (Sub.cons rfl (Le.refl _) (Sub.cons rfl (Le.refl _) (Sub.cons rfl (Le.refl _) (Sub.cons rfl (Le.refl _) (Sub.cons rfl (Le.refl _) (Sub.nil _)))))), ⟨⟨rfl, ⟨(Le.refl _), (Le.refl _), (Le.refl _), (Le.refl _), (Le.refl _), (Le.refl _), (Le.refl _), (Le.refl _), (Le.refl _), (Le.refl _), (Le.refl _), (Le.refl _), (Le.refl _), (Le.refl _), (Le.refl _), (Le.refl _), (Le.refl _), (Le.refl _), trivial⟩⟩, ⟨rfl, ⟨(Le.refl _), (Le.refl _), (Le.refl _), trivial⟩⟩, trivial⟩⟩
  ·rintro env1 st1 ⟨t66, h, hsub, hst⟩
   subst hk67
   dsimp only at h
   refine WC.sub hsub (WC.weak hst ?_)
   refine wc_cond rfl (fun hc4 => ?_) (fun hc4 => ?_)
   ·replace h := condT h hc4
    refine wc_sr ?_
    refine WL.mv rfl rfl ?_
    refine WL.s ((NewOs.b (n_buildSlice l82 z3 rfl (by decide) (by decide) rfl rfl rfl (by decide))).does) (Wt.none rfl) rfl rfl ?_
    refine WL.as rfl rfl ?_
    refine WL.ns ?_
    refine wc_ret ?_
    refine we_blk_ret ?_
    refine we_lp_ret ?_
    refine WE.freezeX [26, 4] [] 2 (List.map E3 [sub1]) rfl (encA_map E3_eq [sub1]) ⟨rfl, rfl, trivial⟩ trivial ?_
    obtain rfl := Option.some.inj h
    exact we_ret_fn (rs1 rfl (rv_t rfl)) (Le.refl _)
   ·replace h := condF h hc4
    refine wc_sr ?_
    refine WL.qn (y_eql rfl rfl) rfl ?_
    refine WL.as rfl rfl ?_
    refine WL.ns ?_
    refine wc_cond rfl (fun hc5 => ?_) (fun hc5 => ?_)
    ·replace h := condT h hc5
     refine wc_seq ?_
     obtain ⟨r68, hr68, h⟩ := bindS h
     obtain ⟨r69, hr69, h⟩ := bindS h
     apply wc_region_all [_, _, _, _, _, _, _, _, _] [[], [0], [0, 1], [], [], [4], [3, 4, 5], [0, 1, 2, 3, 4, 5, 6], [0, 1, 2, 3, 4, 5, 6, 7]] [] (fun c => List.getD [[.row 54 [.d (D.i .u8 r64.1.kind), .d (D.s r64.1.name), .d (D.i .i64 r64.1.parent), .d (D.i .i64 r64.1.first), .d (.sl (List.map E9 r64.1.lits)), .d (D.i .i64 r64.1.index), .d (D.i .i64 r64.1.elem), .d (D.i .i64 r64.1.disc), .d (D.s r64.1.discName), .d (D.b r64.1.has), .d (D.i .i64 r64.1.default_), .d (.sl (List.map E56 r64.1.comps)), .d (D.i .i64 r64.1.target), .d (D.i .u8 r64.1.formal), .d (D.b r64.1.limited), .d (D.i .i64 r64.1.priv), .d (D.i .i64 r64.1.full), .d (D.i .i64 r64.1.level)], .row 40 [.d (D.i .i64 r64.2.1.t), .d (D.i .i64 r64.2.1.lo), .d (D.i .i64 r64.2.1.hi)]]] c []) [([], [5], [0]), ([0], [], [0]), ([1], [], [0]), ([], [2], [0]), ([], [5], [0]), ([4], [], [0]), ([3, 5], [], [0]), ([2, 6], [], [0]), ([7], [], [0])] (by kernel_rfl) (by kernel_rfl) rfl rfl rfl
     ·refine ⟨?_, ?_, ?_, ?_, ?_, ?_, ?_, ?_, ?_, trivial⟩
      ·refine ⟨fun F => ?_, trivial⟩
       refine WL.qn (y_fieldAddr f54_6 rfl) rfl ?_
       exact WL.done1 rfl rfl rfl
      ·refine ⟨fun F => ?_, trivial⟩
       refine WL.qn (y_load rfl rfl a3 rfl) rfl ?_
       exact WL.done1 rfl rfl rfl
      ·refine ⟨fun F => ?_, trivial⟩
       refine WL.s ((NewOs.data (n_buildSlice l82 z3 rfl (by decide) (by decide) rfl rfl rfl (by decide)) (by exact encA_map E3_eq [r64.1.elem])).does) (Wt.none rfl) rfl rfl ?_
       exact WL.done1 rfl rfl rfl
      ·refine ⟨fun F => ?_, trivial⟩
       refine WL.qn (y_loadcN rfl a61 s61 rfl) rfl ?_
       exact WL.done1 rfl rfl rfl
      ·refine ⟨fun F => ?_, trivial⟩
       refine WL.qn (y_fieldAddr f54_5 rfl) rfl ?_
       exact WL.done1 rfl rfl rfl
      ·refine ⟨fun F => ?_, trivial⟩
       refine WL.qn (y_load rfl rfl a3 rfl) rfl ?_
       exact WL.done1 rfl rfl rfl
      ·refine ⟨fun F => ?_, trivial⟩
       refine WL.fn rfl rfl rfl rfl (f41_c _ _ _ hr68) ⟨(Le.refl _), (Le.refl _), (Le.refl _), trivial⟩ (Wt.none rfl) rfl rfl ?_
       exact WL.done1 rfl rfl rfl
      ·refine ⟨fun F => ?_, trivial⟩
       refine WL.fn rfl rfl rfl rfl (f77_c _ _ hr69) ⟨(Le.refl _), (Le.refl _), trivial⟩ (Wt.none rfl) rfl rfl ?_
       exact WL.done1 rfl rfl rfl
      ·refine ⟨fun F => ?_, trivial⟩
       refine WL.as rfl rfl ?_
       exact WL.done1 rfl rfl rfl
     ·refine we_seq ?_
      refine wc_ret ?_
      refine we_blk_ret ?_
      refine we_lp_ret ?_
      obtain rfl := Option.some.inj h
      exact we_ret_fn (rs1 rfl (rv_t rfl)) (Le.refl _)
    ·replace h := condF h hc5
     refine wc_sr ?_
     refine WL.qn (y_eql rfl rfl) rfl ?_
     refine WL.as rfl rfl ?_
     refine WL.ns ?_
     refine wc_cond rfl (fun hc6 => ?_) (fun hc6 => ?_)
     ·replace h := condT h hc6
      refine wc_sr ?_
      refine WL.as rfl rfl ?_
      refine WL.nil_os 8 3 1 rfl ?_
      refine WL.ns ?_
      replace h := letkS h
      obtain ⟨k72, hk72, h⟩ := h
      refine wc_cut (fun env' st' => ∃ (l70 : List Int), ∃ (ver71 : Nat), k72 l70 = some r ∧ Sub [(5, .pt 0 0), (8, .os 2 ver71)] env' ∧ SLe st' [.row 54 [.d (D.i .u8 r64.1.kind), .d (D.s r64.1.name), .d (D.i .i64 r64.1.parent), .d (D.i .i64 r64.1.first), .d (.sl (List.map E9 r64.1.lits)), .d (D.i .i64 r64.1.index), .d (D.i .i64 r64.1.elem), .d (D.i .i64 r64.1.disc), .d (D.s r64.1.discName), .d (D.b r64.1.has), .d (D.i .i64 r64.1.default_), .d (.sl (List.map E56 r64.1.comps)), .d (D.i .i64 r64.1.target), .d (D.i .u8 r64.1.formal), .d (D.b r64.1.limited), .d (D.i .i64 r64.1.priv), .d (D.i .i64 r64.1.full), .d (D.i .i64 r64.1.level)], .row 40 [.d (D.i .i64 r64.2.1.t), .d (D.i .i64 r64.2.1.lo), .d (D.i .i64 r64.2.1.hi)], .os 3 1 ver71 (List.map (encA E3) l70)]) ?_ ?_
      ·refine wc_sr ?_
       refine WL.qn (y_fieldAddr f54_7 rfl) rfl ?_
       refine WL.qn (y_load rfl rfl a3 rfl) rfl ?_
       refine WL.qn (y_neq rfl rfl) rfl ?_
       refine WL.ns ?_
       refine wc_cond rfl (fun hc7 => ?_) (fun hc7 => ?_)
       ·replace h := condT h hc7
        refine wc_region ?_
        refine WL.mv rfl rfl ?_
        refine WL.qn (y_fieldAddr f54_7 rfl) rfl ?_
        refine WL.qn (y_load rfl rfl a3 rfl) rfl ?_
        refine WL.s ((NewOs.b (n_buildSlice l82 z3 rfl (by decide) (by decide) rfl rfl rfl (by decide))).does) (Wt.none rfl) rfl rfl ?_
        replace h := guardBS h
        obtain ⟨hgg73, h⟩ := h
        refine WL.s (d_appendL E3 [] [r64.1.disc] l82 z3 rfl (by decide) rfl rfl rfl rfl (Src.own rfl) (fun _ => rfl) (fun _ => rfl) hgg73) (Wt.none rfl) rfl rfl ?_
        refine WL.as rfl rfl ?_
        refine WL.nil ?_
        refine WE.drop 3 (env' := [(5, .pt 0 0), (8, .os 2 1)]) (Sub.one rfl (Sub.one rfl (Sub.nil _))) rfl (stLt_cons rfl (stLt_cons rfl (stLt_cons (lt_os _ _ _ _ _ _) rfl))) (Nat.zero_le _) ?_
        exact we_lp ⟨([] ++ [r64.1.disc]), _, h, (Sub.cons rfl (Le.refl _) (Sub.cons rfl (Le.refl _) (Sub.nil _))), ⟨⟨rfl, ⟨(Le.refl _), (Le.refl _), (Le.refl _), (Le.refl _), (Le.refl _), (Le.refl _), (Le.refl _), (Le.refl _), (Le.refl _), (Le.refl _), (Le.refl _), (Le.refl _), (Le.refl _), (Le.refl _), (Le.refl _), (Le.refl _), (Le.refl _), (Le.refl _), trivial⟩⟩, ⟨rfl, ⟨(Le.refl _), (Le.refl _), (Le.refl _), trivial⟩⟩, ⟨rfl, rfl, rfl, rfl⟩, trivial⟩⟩
       ·replace h := condF h hc7
        refine wc_skip ?_
        exact we_lp ⟨[], _, h, (Sub.cons rfl (Le.refl _) (Sub.cons rfl (Le.refl _) (Sub.nil _))), ⟨⟨rfl, ⟨(Le.refl _), (Le.refl _), (Le.refl _), (Le.refl _), (Le.refl _), (Le.refl _), (Le.refl _), (Le.refl _), (Le.refl _), (Le.refl _), (Le.refl _), (Le.refl _), (Le.refl _), (Le.refl _), (Le.refl _), (Le.refl _), (Le.refl _), (Le.refl _), trivial⟩⟩, ⟨rfl, ⟨(Le.refl _), (Le.refl _), (Le.refl _), trivial⟩⟩, ⟨rfl, rfl, rfl, rfl⟩, trivial⟩⟩
      ·rintro env1 st1 ⟨l70, ver71, h, hsub, hst⟩
       subst hk72
       dsimp only at h
       refine WC.sub hsub (WC.weak hst ?_)
       replace h := letkS h
       obtain ⟨k76, hk76, h⟩ := h
       refine wc_cut (fun env' st' => ∃ (l74 : List Int), ∃ (ver75 : Nat), k76 l74 = some r ∧ Sub [(8, .os 2 ver75)] env' ∧ SLe st' [.row 54 [.d (D.i .u8 r64.1.kind), .d (D.s r64.1.name), .d (D.i .i64 r64.1.parent), .d (D.i .i64 r64.1.first), .d (.sl (List.map E9 r64.1.lits)), .d (D.i .i64 r64.1.index), .d (D.i .i64 r64.1.elem), .d (D.i .i64 r64.1.disc), .d (D.s r64.1.discName), .d (D.b r64.1.has), .d (D.i .i64 r64.1.default_), .d (.sl (List.map E56 r64.1.comps)), .d (D.i .i64 r64.1.target), .d (D.i .u8 r64.1.formal), .d (D.b r64.1.limited), .d (D.i .i64 r64.1.priv), .d (D.i .i64 r64.1.full), .d (D.i .i64 r64.1.level)], .row 40 [.d (D.i .i64 r64.2.1.t), .d (D.i .i64 r64.2.1.lo), .d (D.i .i64 r64.2.1.hi)], .os 3 1 ver75 (List.map (encA E3) l74)]) ?_ ?_
       ·refine wc_sr ?_
        refine WL.qn (y_fieldAddr f54_11 rfl) rfl ?_
        refine WL.qn (y_load rfl rfl a51 rfl) rfl ?_
        refine WL.qn (y_len_map E56 r64.1.comps e51 rfl rfl (Le.refl _)) rfl ?_
        refine WL.mv rfl rfl ?_
        refine WL.ns ?_
        refine wc_block ?_
        refine wc_loop (fun n env' st' => ∃ (t80 : Int), ∃ (l81 : List Int), ∃ (ver82 : Nat), f58_l1 r64 k76 n t80 l81 = some r ∧ Sub [(8, .os 2 ver82), (48, .d (.sl (List.map E56 r64.1.comps))), (49, .d (D.i .i64 (List.length r64.1.comps : Int))), (50, .d (D.i .i64 t80))] env' ∧ SLe st' [.row 54 [.d (D.i .u8 r64.1.kind), .d (D.s r64.1.name), .d (D.i .i64 r64.1.parent), .d (D.i .i64 r64.1.first), .d (.sl (List.map E9 r64.1.lits)), .d (D.i .i64 r64.1.index), .d (D.i .i64 r64.1.elem), .d (D.i .i64 r64.1.disc), .d (D.s r64.1.discName), .d (D.b r64.1.has), .d (D.i .i64 r64.1.default_), .d (.sl (List.map E56 r64.1.comps)), .d (D.i .i64 r64.1.target), .d (D.i .u8 r64.1.formal), .d (D.b r64.1.limited), .d (D.i .i64 r64.1.priv), .d (D.i .i64 r64.1.full), .d (D.i .i64 r64.1.level)], .row 40 [.d (D.i .i64 r64.2.1.t), .d (D.i .i64 r64.2.1.lo), .d (D.i .i64 r64.2.1.hi)], .os 3 1 ver82 (List.map (encA E3) l81)]) (fun n => n) (Int.toNat ((List.length r64.1.comps : Int) - 0) + 1) ⟨0, l70, _, h, (Sub.cons rfl (Le.refl _) (Sub.cons rfl (Le.refl _) (Sub.cons rfl (Le.refl _) (Sub.cons rfl (Le.refl _) (Sub.nil _))))), ⟨⟨rfl, ⟨(Le.refl _), (Le.refl _), (Le.refl _), (Le.refl _), (Le.refl _), (Le.refl _), (Le.refl _), (Le.refl _), (Le.refl _), (Le.refl _), (Le.refl _), (Le.refl _), (Le.refl _), (Le.refl _), (Le.refl _), (Le.refl _), (Le.refl _), (Le.refl _), trivial⟩⟩, ⟨rfl, ⟨(Le.refl _), (Le.refl _), (Le.refl _), trivial⟩⟩, ⟨rfl, rfl, rfl, rfl⟩, trivial⟩⟩ ?_
        rintro n env1 st1 ⟨t80, l81, ver82, h, hsub, hst⟩
        cases n with
        | zero => rw [f58_l1] at h; cases h
        | succ n =>
        rw [f58_l1] at h
        refine WC.sub hsub (WC.weak hst ?_)
        refine wc_sr ?_
        refine WL.qn (y_lss rfl rfl) rfl ?_
        refine WL.ns ?_
        refine wc_seq ?_
        refine wc_cond rfl (fun hc8 => ?_) (fun hc8 => ?_)
        ·replace h := condT h hc8
         refine wc_skip ?_
         refine we_seq ?_
         refine wc_seq ?_
         refine wc_block ?_
         refine wc_sr ?_
         obtain ⟨x86, hx86, h⟩ := bindS h
         refine WL.qn (y_indexAddr e51 rfl (Le.refl _) rfl (idx_nonneg hx86) (idx_row E56_eq hx86) rfl) rfl ?_
         refine WL.qn (y_loadcN rfl a56 s56 rfl) rfl ?_
         refine WL.s ((b_alloc z56).does) (Wt.none rfl) rfl rfl ?_
         refine WL.s0 (d_store rfl rfl rfl rfl rfl rfl s56 rfl rfl) (Wt.none rfl) rfl ?_
         refine WL.st (st' := [.row 54 [.d (D.i .u8 r64.1.kind), .d (D.s r64.1.name), .d (D.i .i64 r64.1.parent), .d (D.i .i64 r64.1.first), .d (.sl (List.map E9 r64.1.lits)), .d (D.i .i64 r64.1.index), .d (D.i .i64 r64.1.elem), .d (D.i .i64 r64.1.disc), .d (D.s r64.1.discName), .d (D.b r64.1.has), .d (D.i .i64 r64.1.default_), .d (.sl (List.map E56 r64.1.comps)), .d (D.i .i64 r64.1.target), .d (D.i .u8 r64.1.formal), .d (D.b r64.1.limited), .d (D.i .i64 r64.1.priv), .d (D.i .i64 r64.1.full), .d (D.i .i64 r64.1.level)], .row 40 [.d (D.i .i64 r64.2.1.t), .d (D.i .i64 r64.2.1.lo), .d (D.i .i64 r64.2.1.hi)], .os 3 1 ver82 (List.map (encA E3) l81), .row 56 [.d (D.s x86.name), .d (D.i .i64 x86.sub), .d (D.b x86.has), .d (D.i .i64 x86.default_), .d (D.b x86.variant), .d (.sl (List.map E2 x86.when))]]) rfl ?_
         refine WL.ns ?_
         refine wc_region ?_
         refine WL.mv rfl rfl ?_
         refine WL.qn (y_fieldAddr f56_1 rfl) rfl ?_
         refine WL.qn (y_load rfl rfl a3 rfl) rfl ?_
         refine WL.s ((NewOs.b (n_buildSlice l82 z3 rfl (by decide) (by decide) rfl rfl rfl (by decide))).does) (Wt.none rfl) rfl rfl ?_
         replace h := guardBS h
         obtain ⟨hgg87, h⟩ := h
         refine WL.s (d_appendL E3 l81 [x86.sub] l82 z3 rfl (by decide) rfl rfl rfl rfl (Src.own rfl) (fun _ => rfl) (fun _ => rfl) hgg87) (Wt.none rfl) rfl rfl ?_
         refine WL.as rfl rfl ?_
         refine WL.nil ?_
         refine we_blk ?_
         refine we_seq ?_
         refine wc_region ?_
         refine WL.qn (y_add rfl rfl rfl) rfl ?_
         refine WL.mv rfl rfl ?_
         refine WL.nil ?_
         refine WE.drop 3 (env' := [(8, .os 2 (ver82 + 1)), (48, .d (.sl (List.map E56 r64.1.comps))), (49, .d (D.i .i64 (List.length r64.1.comps : Int))), (50, .d (D.i .i64 (IntKind.i64.wrap (t80 + 1))))]) (Sub.one rfl (Sub.one rfl (Sub.one rfl (Sub.one rfl (Sub.nil _))))) rfl (stLt_cons rfl (stLt_cons rfl (stLt_cons (lt_os _ _ _ _ _ _) rfl))) (Nat.zero_le _) ?_
         exact we_lp ⟨n, ⟨(IntKind.i64.wrap (t80 + 1)), (l81 ++ [x86.sub]), _, h, (Sub.cons rfl (Le.refl _) (Sub.cons rfl (Le.refl _) (Sub.cons rfl (Le.refl _) (Sub.cons rfl (Le.refl _) (Sub.nil _))))), ⟨⟨rfl, ⟨(Le.refl _), (Le.refl _), (Le.refl _), (Le.refl _), (Le.refl _), (Le.refl _), (Le.refl _), (Le.refl _), (Le.refl _), (Le.refl _), (Le.refl _), (Le.refl _), (Le.refl _), (Le.refl _), (Le.refl _), (Le.refl _), (Le.refl _), (Le.refl _), trivial⟩⟩, ⟨rfl, ⟨(Le.refl _), (Le.refl _), (Le.refl _), trivial⟩⟩, ⟨rfl, rfl, rfl, rfl⟩, trivial⟩⟩, Nat.lt_succ_self n⟩
        ·replace h := condF h hc8
         refine wc_exit ?_
         refine we_seq_exit ?_
         refine we_lp_exit ?_
         refine we_blk_hit ?_
         exact we_lp ⟨l81, _, h, (Sub.cons rfl (Le.refl _) (Sub.nil _)), ⟨⟨rfl, ⟨(Le.refl _), (Le.refl _), (Le.refl _), (Le.refl _), (Le.refl _), (Le.refl _), (Le.refl _), (Le.refl _), (Le.refl _), (Le.refl _), (Le.refl _), (Le.refl _), (Le.refl _), (Le.refl _), (Le.refl _), (Le.refl _), (Le.refl _), (Le.refl _), trivial⟩⟩, ⟨rfl, ⟨(Le.refl _), (Le.refl _), (Le.refl _), trivial⟩⟩, ⟨rfl, rfl, rfl, rfl⟩, trivial⟩⟩
       ·rintro env1 st1 ⟨l74, ver75, h, hsub, hst⟩
        subst hk76
        dsimp only at h
        refine WC.sub hsub (WC.weak hst ?_)
        refine wc_sr ?_
        refine WL.mv rfl rfl ?_
        refine WL.as rfl rfl ?_
        refine WL.ns ?_
        refine wc_ret ?_
        refine we_blk_ret ?_
        refine we_lp_ret ?_
        refine WE.freezeX [8, 60, 4] [] 2 (List.map E3 l74) rfl (encA_map E3_eq l74) ⟨rfl, rfl, rfl, trivial⟩ trivial ?_
        obtain rfl := Option.some.inj h
        exact we_ret_fn (rs1 rfl (rv_t rfl)) (Le.refl _)
     ·replace h := condF h hc6
      refine wc_skip ?_
      refine we_blk ?_
      exact we_lp ⟨h, (Sub.nil _), ⟨⟨rfl, ⟨(Le.refl _), (Le.refl _), (Le.refl _), (Le.refl _), (Le.refl _), (Le.refl _), (Le.refl _), (Le.refl _), (Le.refl _), (Le.refl _), (Le.refl _), (Le.refl _), (Le.refl _), (Le.refl _), (Le.refl _), (Le.refl _), (Le.refl _), (Le.refl _), trivial⟩⟩, ⟨rfl, ⟨(Le.refl _), (Le.refl _), (Le.refl _), trivial⟩⟩, trivial⟩⟩
 ·rintro env1 st1 ⟨h, hsub, hst⟩
  subst hk65
  dsimp only at h
  refine WC.sub hsub (WC.weak hst ?_)
  refine wc_sr ?_
  refine WL.as rfl rfl ?_
  refine WL.ns ?_
  refine wc_ret ?_
  obtain rfl := Option.some.inj h
  exact we_ret_fn (rs1 rfl (rv_t rfl)) Le.nil

theorem f29_c (t0 : Table) (sub1 : Int) {r : Int} (h : f29 t0 sub1 = some r) : Pu Tryd.prog 29 [.ag (R28 t0), .i .i64 sub1] (.i .i64 r) := by
 unfold f29 at h
 refine fn_intro Tryd.func29 (by kernel_rfl) rfl rfl rfl (fun φφ ww => ?_)
 refine wc_sr ?_
 refine WL.s ((b_boxd rfl rfl (Les.refl _)).does) (Wt.none rfl) rfl rfl ?_
 refine WL.as rfl rfl ?_
 refine WL.ns ?_
 refine wc_sr ?_
 refine WL.qn (y_loadcN rfl a28 s28 rfl) rfl ?_
 refine WL.qn (y_build p61 z61 rfl rfl) rfl ?_
 refine WL.mv rfl rfl ?_
 obtain ⟨r13, hr13, h⟩ := bindS h
 refine WL.fn rfl rfl rfl rfl (f58_c _ _ hr13) ⟨(Le.agd ⟨(Le.refl _), (Le.refl _), (Le.refl _), (Le.refl _), (Le.refl _), trivial⟩), (Le.refl _), trivial⟩ (Wt.none rfl) rfl rfl ?_
 refine WL.qn (y_len_map E3 r13 e82 rfl rfl (Le.refl _)) rfl ?_
 refine WL.as rfl rfl ?_
 refine WL.ns ?_
 refine wc_ret ?_
 obtain rfl := Option.some.inj h
 exact we_ret_fn (rs1 rfl (rv_t rfl)) (Le.refl _)

theorem f64_c (t0 : View) (sub1 : Int) {r : Int} (h : f64 t0 sub1 = some r) : Pu Tryd.prog 64 [.ag (R61 t0), .i .i64 sub1] (.i .u8 r) := by
 unfold f64 at h
 refine fn_intro Tryd.func64 (by kernel_rfl) rfl rfl rfl (fun φφ ww => ?_)
 refine wc_sr ?_
 refine WL.s ((b_boxd rfl rfl (Les.refl _)).does) (Wt.none rfl) rfl rfl ?_
 refine WL.as rfl rfl ?_
 refine WL.ns ?_
 refine wc_sr ?_
 refine WL.qn (y_loadcN rfl a61 s61 rfl) rfl ?_
 refine WL.mv rfl rfl ?_
 obtain ⟨r20, hr20, h⟩ := bindS h
 refine WL.fn rfl rfl rfl rfl (f40_c _ _ hr20) ⟨(Le.refl _), (Le.refl _), trivial⟩ (Wt.none rfl) rfl rfl ?_
 refine WL.mv rfl rfl ?_
 refine WL.qn (y_extractd rfl rfl) rfl ?_
 refine WL.qn (y_extractd rfl rfl) rfl ?_
 refine WL.qn (y_extractd rfl rfl) rfl ?_
 refine WL.s ((b_alloc z54).does) (Wt.none rfl) rfl rfl ?_
 refine WL.s ((b_alloc z40).does) (Wt.none rfl) rfl rfl ?_
 refine WL.s0 (d_store rfl rfl rfl rfl rfl rfl s54 rfl rfl) (Wt.none rfl) rfl ?_
 refine WL.st (st' := [.row 54 [.d (D.i .u8 r20.1.kind), .d (D.s r20.1.name), .d (D.i .i64 r20.1.parent), .d (D.i .i64 r20.1.first), .d (.sl (List.map E9 r20.1.lits)), .d (D.i .i64 r20.1.index), .d (D.i .i64 r20.1.elem), .d (D.i .i64 r20.1.disc), .d (D.s r20.1.discName), .d (D.b r20.1.has), .d (D.i .i64 r20.1.default_), .d (.sl (List.map E56 r20.1.comps)), .d (D.i .i64 r20.1.target), .d (D.i .u8 r20.1.formal), .d (D.b r20.1.limited), .d (D.i .i64 r20.1.priv), .d (D.i .i64 r20.1.full), .d (D.i .i64 r20.1.level)], .row 40 [.d (D.i .i64 0), .d (D.i .i64 0), .d (D.i .i64 0)]]) rfl ?_
 refine WL.s0 (d_store rfl rfl rfl rfl rfl rfl s40 rfl rfl) (Wt.none rfl) rfl ?_
 refine WL.as rfl rfl ?_
 refine WL.ns ?_
 refine wc_sr ?_
 refine WL.qn (y_fieldAddr f54_0 rfl) rfl ?_
 refine WL.qn (y_load rfl rfl a49 rfl) rfl ?_
 refine WL.as rfl rfl ?_
 refine WL.ns ?_
 refine wc_ret ?_
 obtain rfl := Option.some.inj h
 exact we_ret_fn (rs1 rfl (rv_t rfl)) (Le.refl _)

theorem f60_c (t0 : View) (sub1 : Int) (v2 : Int) {r : Bool} (h : f60 t0 sub1 v2 = some r) : Pu Tryd.prog 60 [.ag (R61 t0), .i .i64 sub1, .i .i64 v2] (.b r) := by
 unfold f60 at h
 refine fn_intro Tryd.func60 (by kernel_rfl) rfl rfl rfl (fun φφ ww => ?_)
 refine wc_sr ?_
 refine WL.s ((b_boxd rfl rfl (Les.refl _)).does) (Wt.none rfl) rfl rfl ?_
 refine WL.as rfl rfl ?_
 refine WL.ns ?_
 refine wc_seq ?_
 refine wc_sr ?_
 refine WL.qn (y_loadcN rfl a61 s61 rfl) rfl ?_
 refine WL.mv rfl rfl ?_
 obtain ⟨r31, hr31, h⟩ := bindS h
 refine WL.fn rfl rfl rfl rfl (f64_c _ _ hr31) ⟨(Le.refl _), (Le.refl _), trivial⟩ (Wt.none rfl) rfl rfl ?_
 refine WL.ns ?_
 refine wc_block ?_
 replace h := letkS h
 obtain ⟨k33, hk33, h⟩ := h
 refine wc_cut (fun env' st' => ∃ (t32 : Bool), k33 t32 = some r ∧ Sub [(1, .d (D.i .i64 sub1)), (2, .d (D.i .i64 v2)), (3, .d (.pc (R61 t0))), (9, .d (D.i .u8 r31)), (10, .d (D.b t32))] env' ∧ SLe st' []) ?_ ?_
 ·refine wc_sr ?_
  refine WL.qn (y_eql rfl rfl) rfl ?_
  refine WL.as rfl rfl ?_
  refine WL.ns ?_
  refine wc_cond rfl (fun hc1 => ?_) (fun hc1 => ?_)
  ·replace h := condT h hc1
   refine wc_skip ?_
   exact we_lp ⟨(decide (r31 = 2)), h, (Sub.cons rfl (Le.refl _) (Sub.cons rfl (Le.refl _) (Sub.cons rfl (Le.refl _) (Sub.cons rfl (Le.refl _) (Sub.cons rfl (Le.refl _) (Sub.nil _)))))), trivial⟩
  ·replace h := condF h hc1
   refine wc_region ?_
   refine WL.qn (y_eql rfl rfl) rfl ?_
   refine WL.as rfl rfl ?_
   refine WL.nil ?_
   exact we_lp ⟨(decide (r31 = 3)), h, (Sub.cons rfl (Le.refl _) (Sub.cons rfl (Le.refl _) (Sub.cons rfl (Le.refl _) (Sub.cons rfl (Le.refl _) (Sub.cons rfl (Le.refl _) (Sub.nil _)))))), trivial⟩
 ·rintro env1 st1 ⟨t32, h, hsub, hst⟩
  subst hk33
  dsimp only at h
  refine WC.sub hsub (WC.weak hst ?_)
  refine wc_cond rfl (fun hc2 => ?_) (fun hc2 => ?_)
  ·replace h := condT h hc2
   refine wc_sr ?_
   refine WL.qn (y_loadcN rfl a61 s61 rfl) rfl ?_
   refine WL.mv rfl rfl ?_
   refine WL.mv rfl rfl ?_
   obtain ⟨r34, hr34, h⟩ := bindS h
   refine WL.fn rfl rfl rfl rfl (f42_c _ _ _ hr34) ⟨(Le.refl _), (Le.refl _), (Le.refl _), trivial⟩ (Wt.none rfl) rfl rfl ?_
   refine WL.as rfl rfl ?_
   refine WL.ns ?_
   refine wc_ret ?_
   refine we_blk_ret ?_
   refine we_seq_ret ?_
   obtain rfl := Option.some.inj h
   exact we_ret_fn (rs1 rfl (rv_t rfl)) (Le.refl _)
  ·replace h := condF h hc2
   refine wc_sr ?_
   refine WL.qn (y_eql rfl rfl) rfl ?_
   refine WL.as rfl rfl ?_
   refine WL.ns ?_
   refine wc_cond rfl (fun hc3 => ?_) (fun hc3 => ?_)
   ·replace h := condT h hc3
    refine wc_sr ?_
    refine WL.mv rfl rfl ?_
    refine WL.qn (y_geq rfl rfl) rfl ?_
    refine WL.mv rfl rfl ?_
    apply WL.and 3 (t := 21) (d := 24)
    ·exact rfl
    ·intro hg21
     refine WL.qy (y_move rfl) rfl rfl rfl ?_
     refine WL.qy (y_leq rfl rfl) rfl rfl rfl ?_
     refine WL.qn (y_pick_t rfl rfl) rfl ?_
     exact WL.nil ⟨rfl, [_, _, _], rfl, rfl, rfl⟩
    ·refine WL.skips 2 rfl ?_
     refine WL.qn (y_pick_f rfl rfl) rfl ?_
     exact WL.nil ⟨rfl, [_, _, _], rfl, rfl, rfl⟩
    refine WL.as rfl rfl ?_
    refine WL.ns ?_
    refine wc_ret ?_
    refine we_blk_ret ?_
    refine we_seq_ret ?_
    obtain rfl := Option.some.inj h
    exact we_ret_fn (rs1 rfl (rv_t rfl)) (Le.refl _)
   ·replace h := condF h hc3
    refine wc_sr ?_
    refine WL.qn (y_eql rfl rfl) rfl ?_
    refine WL.as rfl rfl ?_
    refine WL.ns ?_
    refine wc_cond rfl (fun hc4 => ?_) (fun hc4 => ?_)
    ·replace h := condT h hc4
     refine wc_sr ?_
     refine WL.as rfl rfl ?_
     refine WL.ns ?_
     refine wc_ret ?_
     refine we_blk_ret ?_
     refine we_seq_ret ?_
     obtain rfl := Option.some.inj h
     exact we_ret_fn (rs1 rfl (rv_t rfl)) (Le.refl _)
    ·replace h := condF h hc4
     refine wc_skip ?_
     refine we_blk ?_
     refine we_seq ?_
     refine wc_sr ?_
     refine WL.as rfl rfl ?_
     refine WL.ns ?_
     refine wc_ret ?_
     obtain rfl := Option.some.inj h
     exact we_ret_fn (rs1 rfl (rv_t rfl)) (Le.refl _)

theorem f61_c (t0 : View) (sub1 : Int) {r : Int × Bool} (h : f61 t0 sub1 = some r) : Pu Tryd.prog 61 [.ag (R61 t0), .i .i64 sub1] (.tu [.i .i64 r.1, .b r.2]) := by
 unfold f61 at h
 refine fn_intro Tryd.func61 (by kernel_rfl) rfl rfl rfl (fun φφ ww => ?_)
 refine wc_sr ?_
 refine WL.s ((b_boxd rfl rfl (Les.refl _)).does) (Wt.none rfl) rfl rfl ?_
 refine WL.as rfl rfl ?_
 refine WL.as rfl rfl ?_
 refine WL.ns ?_
 refine wc_sr ?_
 refine WL.qn (y_loadcN rfl a61 s61 rfl) rfl ?_
 refine WL.mv rfl rfl ?_
 obtain ⟨r36, hr36, h⟩ := bindS h
 refine WL.fn rfl rfl rfl rfl (f40_c _ _ hr36) ⟨(Le.refl _), (Le.refl _), trivial⟩ (Wt.none rfl) rfl rfl ?_
 refine WL.mv rfl rfl ?_
 refine WL.qn (y_extractd rfl rfl) rfl ?_
 refine WL.qn (y_extractd rfl rfl) rfl ?_
 refine WL.qn (y_extractd rfl rfl) rfl ?_
 refine WL.s ((b_alloc z54).does) (Wt.none rfl) rfl rfl ?_
 refine WL.s ((b_alloc z40).does) (Wt.none rfl) rfl rfl ?_
 refine WL.s0 (d_store rfl rfl rfl rfl rfl rfl s54 rfl rfl) (Wt.none rfl) rfl ?_
 refine WL.st (st' := [.row 54 [.d (D.i .u8 r36.1.kind), .d (D.s r36.1.name), .d (D.i .i64 r36.1.parent), .d (D.i .i64 r36.1.first), .d (.sl (List.map E9 r36.1.lits)), .d (D.i .i64 r36.1.index), .d (D.i .i64 r36.1.elem), .d (D.i .i64 r36.1.disc), .d (D.s r36.1.discName), .d (D.b r36.1.has), .d (D.i .i64 r36.1.default_), .d (.sl (List.map E56 r36.1.comps)), .d (D.i .i64 r36.1.target), .d (D.i .u8 r36.1.formal), .d (D.b r36.1.limited), .d (D.i .i64 r36.1.priv), .d (D.i .i64 r36.1.full), .d (D.i .i64 r36.1.level)], .row 40 [.d (D.i .i64 0), .d (D.i .i64 0), .d (D.i .i64 0)]]) rfl ?_
 refine WL.s0 (d_store rfl rfl rfl rfl rfl rfl s40 rfl rfl) (Wt.none rfl) rfl ?_
 refine WL.as rfl rfl ?_
 refine WL.ns ?_
 refine wc_seq ?_
 refine wc_region_draw (by kernel_rfl) (by kernel_rfl) ?_
 refine WQ.qn (y_fieldAddr f40_1 rfl) rfl ?_
 refine WQ.qn (y_load rfl rfl a2 rfl) rfl ?_
 refine WQ.qn (y_fieldAddr f54_0 rfl) rfl ?_
 refine WQ.qn (y_load rfl rfl a49 rfl) rfl ?_
 refine WQ.qn (y_eql rfl rfl) rfl ?_
 refine WQ.qn (y_move rfl) rfl ?_
 apply WQ.and 4 (t := 21) (d := 25)
 ·exact rfl
 ·intro hg21
  refine WQ.qy (y_fieldAddr f54_7 rfl) rfl rfl rfl ?_
  refine WQ.qy (y_load rfl rfl a3 rfl) rfl rfl rfl ?_
  refine WQ.qy (y_neq rfl rfl) rfl rfl rfl ?_
  refine WQ.qn (y_pick_t rfl rfl) rfl ?_
  exact WQ.nil ⟨[_, _, _, _], rfl, rfl, rfl⟩
 ·refine WQ.skips 3 rfl ?_
  refine WQ.qn (y_pick_f rfl rfl) rfl ?_
  exact WQ.nil ⟨[_, _, _, _], rfl, rfl, rfl⟩
 refine WQ.qn (y_move rfl) rfl ?_
 apply WQ.and 6 (t := 26) (d := 32)
 ·exact rfl
 ·intro hg26
  refine WQ.qy (y_fieldAddr f40_1 rfl) rfl rfl rfl ?_
  refine WQ.qy (y_load rfl rfl a2 rfl) rfl rfl rfl ?_
  refine WQ.qy (y_fieldAddr f40_2 rfl) rfl rfl rfl ?_
  refine WQ.qy (y_load rfl rfl a2 rfl) rfl rfl rfl ?_
  refine WQ.qy (y_eql rfl rfl) rfl rfl rfl ?_
  refine WQ.qn (y_pick_t rfl rfl) rfl ?_
  exact WQ.nil ⟨[_, _, _, _, _, _], rfl, rfl, rfl⟩
 ·refine WQ.skips 5 rfl ?_
  refine WQ.qn (y_pick_f rfl rfl) rfl ?_
  exact WQ.nil ⟨[_, _, _, _, _, _], rfl, rfl, rfl⟩
 refine WQ.qn (y_assign rfl) rfl ?_
 refine WQ.qn (y_assign rfl) rfl ?_
 refine WQ.nil ?_
 refine we_seq ?_
 refine wc_ret ?_
 obtain rfl := Option.some.inj h
 exact we_ret_fn (rs2 rfl (rv_t rfl) (rv_t rfl)) (Le.tud ⟨(Le.refl _), (Le.refl _), trivial⟩)

theorem f31_c (t0 : Table) (sub1 : Int) (v2 : List Int) {r : Bool} (h : f31 t0 sub1 v2 = some r) : Pu Tryd.prog 31 [.ag (R28 t0), .i .i64 sub1, .sl (List.map E2 v2)] (.b r) := by
 unfold f31 at h
 refine fn_intro Tryd.func31 (by kernel_rfl) rfl rfl rfl (fun φφ ww => ?_)
 refine wc_sr ?_
 refine WL.s ((b_boxd rfl rfl (Les.refl _)).does) (Wt.none rfl) rfl rfl ?_
 refine WL.as rfl rfl ?_
 refine WL.ns ?_
 refine wc_sr ?_
 refine WL.qn (y_loadcN rfl a28 s28 rfl) rfl ?_
 refine WL.qn (y_build p61 z61 rfl rfl) rfl ?_
 refine WL.s ((b_alloc z61).does) (Wt.none rfl) rfl rfl ?_
 refine WL.s0 (d_store rfl rfl rfl rfl rfl rfl s61 rfl rfl) (Wt.none rfl) rfl ?_
 refine WL.ns ?_
 refine wc_sr ?_
 refine WL.qn (y_loadN rfl rfl a61 s61 rfl) rfl ?_
 refine WL.mv rfl rfl ?_
 obtain ⟨r63, hr63, h⟩ := bindS h
 refine WL.fn rfl rfl rfl rfl (f58_c _ _ hr63) ⟨(Le.agd ⟨(Le.refl _), (Le.refl _), (Le.refl _), (Le.refl _), (Le.refl _), trivial⟩), (Le.refl _), trivial⟩ (Wt.none rfl) rfl rfl ?_
 refine WL.as rfl rfl ?_
 refine WL.ns ?_
 refine wc_seq ?_
 refine wc_sr ?_
 refine WL.mv rfl rfl ?_
 refine WL.qn (y_len_map E3 r63 e82 rfl rfl (Le.refl _)) rfl ?_
 refine WL.qn (y_eql rfl rfl) rfl ?_
 refine WL.mv rfl rfl ?_
 apply WL.or 6 (t := 21) (d := 27)
 ·exact rfl
 ·intro hg21
  refine WL.qy (y_move rfl) rfl rfl rfl ?_
  refine WL.qy (y_len_map E3 r63 e82 rfl rfl (Le.refl _)) rfl rfl rfl ?_
  refine WL.qy (y_move rfl) rfl rfl rfl ?_
  refine WL.qy (y_len_map E2 v2 e41 rfl rfl (Le.refl _)) rfl rfl rfl ?_
  refine WL.qy (y_neq rfl rfl) rfl rfl rfl ?_
  refine WL.qn (y_pick_f rfl rfl) rfl ?_
  exact WL.nil ⟨rfl, [_, _, _, _, _, _], rfl, rfl, rfl⟩
 ·refine WL.skips 5 rfl ?_
  refine WL.qn (y_pick_t rfl rfl) rfl ?_
  exact WL.nil ⟨rfl, [_, _, _, _, _, _], rfl, rfl, rfl⟩
 refine WL.ns ?_
 refine wc_cond rfl (fun hc1 => ?_) (fun hc1 => ?_)
 ·replace h := condT h hc1
  refine wc_sr ?_
  refine WL.as rfl rfl ?_
  refine WL.ns ?_
  refine wc_ret ?_
  refine we_seq_ret ?_
  obtain rfl := Option.some.inj h
  exact we_ret_fn (rs1 rfl (rv_t rfl)) (Le.refl _)
 ·replace h := condF h hc1
  refine wc_skip ?_
  refine we_seq ?_
  replace h := letkS h
  obtain ⟨k64, hk64, h⟩ := h
  refine wc_cut (fun env' st' => k64 () = some r ∧ Sub [(1, .d (D.i .i64 sub1)), (2, .d (.sl (List.map E2 v2))), (7, .pt 0 0)] env' ∧ SLe st' [.row 61 [.d (.sl (List.map E54 t0.types)), .d (.sl (List.map E40 t0.subs)), .d (.v (SlV.v t0.ents)), .d (.v (SlV.v t0.gens)), .d (.v (SlV.v t0.insts))]]) ?_ ?_
  ·refine wc_sr ?_
   refine WL.mv rfl rfl ?_
   refine WL.qn (y_len_map E3 r63 e82 rfl rfl (Le.refl _)) rfl ?_
   refine WL.mv rfl rfl ?_
   refine WL.ns ?_
   refine wc_block ?_
   refine wc_loop (fun n env' st' => ∃ (t66 : Int), f31_l1 t0 v2 r63 k64 n t66 = some r ∧ Sub [(1, .d (D.i .i64 sub1)), (2, .d (.sl (List.map E2 v2))), (7, .pt 0 0), (28, .d (.sl (List.map E3 r63))), (29, .d (D.i .i64 (List.length r63 : Int))), (30, .d (D.i .i64 t66))] env' ∧ SLe st' [.row 61 [.d (.sl (List.map E54 t0.types)), .d (.sl (List.map E40 t0.subs)), .d (.v (SlV.v t0.ents)), .d (.v (SlV.v t0.gens)), .d (.v (SlV.v t0.insts))]]) (fun n => n) (Int.toNat ((List.length r63 : Int) - 0) + 1) ⟨0, h, (Sub.cons rfl (Le.refl _) (Sub.cons rfl (Le.refl _) (Sub.cons rfl (Le.refl _) (Sub.cons rfl (Le.refl _) (Sub.cons rfl (Le.refl _) (Sub.cons rfl (Le.refl _) (Sub.nil _))))))), ⟨⟨rfl, ⟨(Le.refl _), (Le.refl _), (Le.refl _), (Le.refl _), (Le.refl _), trivial⟩⟩, trivial⟩⟩ ?_
   rintro n env1 st1 ⟨t66, h, hsub, hst⟩
   cases n with
   | zero => rw [f31_l1] at h; cases h
   | succ n =>
   rw [f31_l1] at h
   refine WC.sub hsub (WC.weak hst ?_)
   refine wc_sr ?_
   refine WL.qn (y_lss rfl rfl) rfl ?_
   refine WL.ns ?_
   refine wc_seq ?_
   refine wc_cond rfl (fun hc2 => ?_) (fun hc2 => ?_)
   ·replace h := condT h hc2
    refine wc_skip ?_
    refine we_seq ?_
    refine wc_seq ?_
    refine wc_block ?_
    refine wc_sr ?_
    refine WL.mv rfl rfl ?_
    obtain ⟨x68, hx68, h⟩ := bindS h
    refine WL.qn (y_indexAddr e82 rfl (Le.refl _) rfl (idx_nonneg hx68) (idx_row E3_eq hx68) rfl) rfl ?_
    refine WL.qn (y_loadc rfl a3 rfl) rfl ?_
    refine WL.as rfl rfl ?_
    refine WL.as rfl rfl ?_
    refine WL.ns ?_
    refine wc_seq ?_
    refine wc_region_draw (by kernel_rfl) (by kernel_rfl) ?_
    refine WQ.qn (y_loadN rfl rfl a61 s61 rfl) rfl ?_
    refine WQ.qn (y_move rfl) rfl ?_
    refine WQ.qn (y_move rfl) rfl ?_
    refine WQ.qn (y_move rfl) rfl ?_
    obtain ⟨x69, hx69, h⟩ := bindS h
    refine WQ.qn (y_indexAddr e41 rfl (Le.refl _) rfl (idx_nonneg hx69) (idx_row E2_eq hx69) rfl) rfl ?_
    refine WQ.qn (y_loadc rfl a2 rfl) rfl ?_
    obtain ⟨r70, hr70, h⟩ := bindS h
    refine WQ.q (YieldsQ.fn rfl rfl rfl rfl rfl (f60_c _ _ _ hr70) ⟨(Le.agd ⟨(Le.refl _), (Le.refl _), (Le.refl _), (Le.refl _), (Le.refl _), trivial⟩), (Le.refl _), (Le.refl _), trivial⟩) (Wt.none rfl) rfl rfl ?_
    refine WQ.qn (y_not rfl) rfl ?_
    refine WQ.nil ?_
    refine we_seq ?_
    refine wc_cond rfl (fun hc3 => ?_) (fun hc3 => ?_)
    ·replace h := condT h hc3
     refine wc_sr ?_
     refine WL.as rfl rfl ?_
     refine WL.ns ?_
     refine wc_ret ?_
     refine we_blk_ret ?_
     refine we_seq_ret ?_
     refine we_lp_ret ?_
     refine we_blk_ret ?_
     refine we_lp_ret ?_
     obtain rfl := Option.some.inj h
     exact we_ret_fn (rs1 rfl (rv_t rfl)) (Le.refl _)
    ·replace h := condF h hc3
     refine wc_skip ?_
     refine we_blk ?_
     refine we_seq ?_
     refine wc_region ?_
     refine WL.qn (y_add rfl rfl rfl) rfl ?_
     refine WL.mv rfl rfl ?_
     refine WL.nil ?_
     exact we_lp ⟨n, ⟨(IntKind.i64.wrap (t66 + 1)), h, (Sub.cons rfl (Le.refl _) (Sub.cons rfl (Le.refl _) (Sub.cons rfl (Le.refl _) (Sub.cons rfl (Le.refl _) (Sub.cons rfl (Le.refl _) (Sub.cons rfl (Le.refl _) (Sub.nil _))))))), ⟨⟨rfl, ⟨(Le.refl _), (Le.refl _), (Le.refl _), (Le.refl _), (Le.refl _), trivial⟩⟩, trivial⟩⟩, Nat.lt_succ_self n⟩
   ·replace h := condF h hc2
    refine wc_exit ?_
    refine we_seq_exit ?_
    refine we_lp_exit ?_
    refine we_blk_hit ?_
    exact we_lp ⟨h, (Sub.cons rfl (Le.refl _) (Sub.cons rfl (Le.refl _) (Sub.cons rfl (Le.refl _) (Sub.nil _)))), ⟨⟨rfl, ⟨(Le.refl _), (Le.refl _), (Le.refl _), (Le.refl _), (Le.refl _), trivial⟩⟩, trivial⟩⟩
  ·rintro env1 st1 ⟨h, hsub, hst⟩
   subst hk64
   dsimp only at h
   refine WC.sub hsub (WC.weak hst ?_)
   refine wc_sr ?_
   refine WL.qn (y_loadN rfl rfl a61 s61 rfl) rfl ?_
   refine WL.mv rfl rfl ?_
   obtain ⟨r71, hr71, h⟩ := bindS h
   refine WL.fn rfl rfl rfl rfl (f61_c _ _ hr71) ⟨(Le.agd ⟨(Le.refl _), (Le.refl _), (Le.refl _), (Le.refl _), (Le.refl _), trivial⟩), (Le.refl _), trivial⟩ (Wt.none rfl) rfl rfl ?_
   refine WL.mv rfl rfl ?_
   refine WL.qn (y_extractd rfl rfl) rfl ?_
   refine WL.qn (y_extractd rfl rfl) rfl ?_
   refine WL.as rfl rfl ?_
   refine WL.as rfl rfl ?_
   refine WL.ns ?_
   refine wc_sr ?_
   refine WL.mv rfl rfl ?_
   refine WL.qn (y_not rfl) rfl ?_
   refine WL.mv rfl rfl ?_
   obtain ⟨b72, hb72, h⟩ := bindS h
   apply WL.grp 6 (t := 52) (d := 58) (z := b72)
   ·exact rfl
   ·intro hg52
    have h := condT hb72 hg52
    refine WL.skips 5 rfl ?_
    refine WL.qn (y_pick_t rfl rfl) rfl ?_
    obtain rfl := Option.some.inj h
    exact WL.nil ⟨rfl, [_, _, _, _, _, _], rfl, rfl, rfl⟩
   ·intro hg52
    have h := condF hb72 hg52
    refine WL.qy (y_move rfl) rfl rfl rfl ?_
    obtain ⟨x73, hx73, h⟩ := bindS h
    refine WL.qy (y_indexAddr e41 rfl (Le.refl _) rfl (idx_nonneg hx73) (idx_row E2_eq hx73) rfl) rfl rfl rfl ?_
    refine WL.qy (y_loadc rfl a2 rfl) rfl rfl rfl ?_
    refine WL.qy (y_move rfl) rfl rfl rfl ?_
    refine WL.qy (y_eql rfl rfl) rfl rfl rfl ?_
    refine WL.qn (y_pick_f rfl rfl) rfl ?_
    obtain rfl := Option.some.inj h
    exact WL.nil ⟨rfl, [_, _, _, _, _, _], rfl, rfl, rfl⟩
   refine WL.as rfl rfl ?_
   refine WL.ns ?_
   refine wc_ret ?_
   obtain rfl := Option.some.inj h
   exact we_ret_fn (rs1 rfl (rv_t rfl)) (Le.refl _)

theorem f34_c (t0 : Table) (sub1 : Int) {r : List Int} (h : f34 t0 sub1 = some r) : Pu Tryd.prog 34 [.ag (R28 t0), .i .i64 sub1] (.sl (List.map E2 r)) := by
 unfold f34 at h
 refine fn_intro Tryd.func34 (by kernel_rfl) rfl rfl rfl (fun φφ ww => ?_)
 refine wc_sr ?_
 refine WL.s ((b_boxd rfl rfl (Les.refl _)).does) (Wt.none rfl) rfl rfl ?_
 refine WL.as rfl rfl ?_
 refine WL.ns ?_
 refine wc_sr ?_
 refine WL.qn (y_loadcN rfl a28 s28 rfl) rfl ?_
 refine WL.qn (y_build p61 z61 rfl rfl) rfl ?_
 refine WL.s ((b_alloc z61).does) (Wt.none rfl) rfl rfl ?_
 refine WL.s0 (d_store rfl rfl rfl rfl rfl rfl s61 rfl rfl) (Wt.none rfl) rfl ?_
 refine WL.ns ?_
 refine wc_sr ?_
 refine WL.qn (y_loadN rfl rfl a61 s61 rfl) rfl ?_
 refine WL.mv rfl rfl ?_
 obtain ⟨r137, hr137, h⟩ := bindS h
 refine WL.fn rfl rfl rfl rfl (f58_c _ _ hr137) ⟨(Le.agd ⟨(Le.refl _), (Le.refl _), (Le.refl _), (Le.refl _), (Le.refl _), trivial⟩), (Le.refl _), trivial⟩ (Wt.none rfl) rfl rfl ?_
 refine WL.as rfl rfl ?_
 refine WL.ns ?_
 refine wc_sr ?_
 refine WL.mv rfl rfl ?_
 refine WL.qn (y_len_map E3 r137 e82 rfl rfl (Le.refl _)) rfl ?_
 replace h := guardBS h
 obtain ⟨hgg138, h⟩ := h
 refine WL.s ((NewOs.b (NewOs.cast (n_makeSlice l41 z2 rfl (Nat.succ_pos _) rfl rfl hgg138) (by exact replicate_encA (R := E2) (z := (0 : Int)) rfl))).does) (Wt.none rfl) rfl rfl ?_
 refine WL.as rfl rfl ?_
 refine WL.ns ?_
 replace h := letkS h
 obtain ⟨k141, hk141, h⟩ := h
 refine wc_cut (fun env' st' => ∃ (l139 : List Int), ∃ (ver140 : Nat), k141 l139 = some r ∧ Sub [(1, .d (D.i .i64 sub1)), (5, .pt 0 0), (7, .os 1 ver140)] env' ∧ SLe st' [.row 61 [.d (.sl (List.map E54 t0.types)), .d (.sl (List.map E40 t0.subs)), .d (.v (SlV.v t0.ents)), .d (.v (SlV.v t0.gens)), .d (.v (SlV.v t0.insts))], .os 2 1 ver140 (List.map (encA E2) l139)]) ?_ ?_
 ·refine wc_sr ?_
  refine WL.mv rfl rfl ?_
  refine WL.qn (y_len_map E3 r137 e82 rfl rfl (Le.refl _)) rfl ?_
  refine WL.mv rfl rfl ?_
  refine WL.ns ?_
  refine wc_block ?_
  refine wc_loop (fun n env' st' => ∃ (t145 : Int), ∃ (l146 : List Int), ∃ (ver147 : Nat), f34_l1 t0 r137 k141 n t145 l146 = some r ∧ Sub [(1, .d (D.i .i64 sub1)), (5, .pt 0 0), (7, .os 1 ver147), (29, .d (.sl (List.map E3 r137))), (30, .d (D.i .i64 (List.length r137 : Int))), (31, .d (D.i .i64 t145))] env' ∧ SLe st' [.row 61 [.d (.sl (List.map E54 t0.types)), .d (.sl (List.map E40 t0.subs)), .d (.v (SlV.v t0.ents)), .d (.v (SlV.v t0.gens)), .d (.v (SlV.v t0.insts))], .os 2 1 ver147 (List.map (encA E2) l146)]) (fun n => n) (Int.toNat ((List.length r137 : Int) - 0) + 1) ⟨0, (List.replicate (Int.toNat (List.length r137 : Int)) (0 : Int)), _, h, (Sub.cons rfl (Le.refl _) (Sub.cons rfl (Le.refl _) (Sub.cons rfl (Le.refl _) (Sub.cons rfl (Le.refl _) (Sub.cons rfl (Le.refl _) (Sub.cons rfl (Le.refl _) (Sub.nil _))))))), ⟨⟨rfl, ⟨(Le.refl _), (Le.refl _), (Le.refl _), (Le.refl _), (Le.refl _), trivial⟩⟩, ⟨rfl, rfl, rfl, rfl⟩, trivial⟩⟩ ?_
  rintro n env1 st1 ⟨t145, l146, ver147, h, hsub, hst⟩
  cases n with
  | zero => rw [f34_l1] at h; cases h
  | succ n =>
  rw [f34_l1] at h
  refine WC.sub hsub (WC.weak hst ?_)
  refine wc_sr ?_
  refine WL.qn (y_lss rfl rfl) rfl ?_
  refine WL.ns ?_
  refine wc_seq ?_
  refine wc_cond rfl (fun hc1 => ?_) (fun hc1 => ?_)
  ·replace h := condT h hc1
   refine wc_skip ?_
   refine we_seq ?_
   replace h := letkS h
   obtain ⟨k153, hk153, h⟩ := h
   refine wc_cut (fun env' st' => ∃ (l151 : List Int), ∃ (ver152 : Nat), k153 l151 = some r ∧ Sub [(1, .d (D.i .i64 sub1)), (5, .pt 0 0), (7, .os 1 ver152), (29, .d (.sl (List.map E3 r137))), (30, .d (D.i .i64 (List.length r137 : Int))), (31, .d (D.i .i64 t145))] env' ∧ SLe st' [.row 61 [.d (.sl (List.map E54 t0.types)), .d (.sl (List.map E40 t0.subs)), .d (.v (SlV.v t0.ents)), .d (.v (SlV.v t0.gens)), .d (.v (SlV.v t0.insts))], .os 2 1 ver152 (List.map (encA E2) l151)]) ?_ ?_
   ·refine wc_block ?_
    refine wc_sr ?_
    refine WL.mv rfl rfl ?_
    obtain ⟨x154, hx154, h⟩ := bindS h
    refine WL.qn (y_indexAddr e82 rfl (Le.refl _) rfl (idx_nonneg hx154) (idx_row E3_eq hx154) rfl) rfl ?_
    refine WL.qn (y_loadc rfl a3 rfl) rfl ?_
    refine WL.as rfl rfl ?_
    refine WL.as rfl rfl ?_
    refine WL.ns ?_
    refine wc_sr ?_
    refine WL.qn (y_loadN rfl rfl a61 s61 rfl) rfl ?_
    refine WL.mv rfl rfl ?_
    obtain ⟨r155, hr155, h⟩ := bindS h
    refine WL.fn rfl rfl rfl rfl (f43_c _ _ hr155) ⟨(Le.agd ⟨(Le.refl _), (Le.refl _), (Le.refl _), (Le.refl _), (Le.refl _), trivial⟩), (Le.refl _), trivial⟩ (Wt.none rfl) rfl rfl ?_
    refine WL.mv rfl rfl ?_
    refine WL.qn (y_extractd rfl rfl) rfl ?_
    refine WL.qn (y_extractd rfl rfl) rfl ?_
    refine WL.qn (y_extractd rfl rfl) rfl ?_
    refine WL.as rfl rfl ?_
    refine WL.as rfl rfl ?_
    refine WL.as rfl rfl ?_
    refine WL.ns ?_
    refine wc_sr ?_
    refine WL.qn (y_loadN rfl rfl a61 s61 rfl) rfl ?_
    refine WL.mv rfl rfl ?_
    obtain ⟨r156, hr156, h⟩ := bindS h
    refine WL.fn rfl rfl rfl rfl (f64_c _ _ hr156) ⟨(Le.agd ⟨(Le.refl _), (Le.refl _), (Le.refl _), (Le.refl _), (Le.refl _), trivial⟩), (Le.refl _), trivial⟩ (Wt.none rfl) rfl rfl ?_
    refine WL.as rfl rfl ?_
    refine WL.ns ?_
    refine wc_block ?_
    replace h := letkS h
    obtain ⟨k158, hk158, h⟩ := h
    refine wc_cut (fun env' st' => ∃ (t157 : Bool), k158 t157 = some r ∧ Sub [(1, .d (D.i .i64 sub1)), (5, .pt 0 0), (7, .os 1 ver147), (8, .d (D.i .i64 t145)), (10, .d (D.i .i64 r155.1)), (11, .d (D.i .i64 r155.2.1)), (12, .d (D.b r155.2.2)), (29, .d (.sl (List.map E3 r137))), (30, .d (D.i .i64 (List.length r137 : Int))), (31, .d (D.i .i64 t145)), (46, .d (D.b t157))] env' ∧ SLe st' [.row 61 [.d (.sl (List.map E54 t0.types)), .d (.sl (List.map E40 t0.subs)), .d (.v (SlV.v t0.ents)), .d (.v (SlV.v t0.gens)), .d (.v (SlV.v t0.insts))], .os 2 1 ver147 (List.map (encA E2) l146)]) ?_ ?_
    ·refine wc_sr ?_
     refine WL.mv rfl rfl ?_
     refine WL.mv rfl rfl ?_
     apply WL.and 4 (t := 48) (d := 52)
     ·exact rfl
     ·intro hg48
      refine WL.qy (y_move rfl) rfl rfl rfl ?_
      refine WL.qy (y_move rfl) rfl rfl rfl ?_
      refine WL.qy (y_gtr rfl rfl) rfl rfl rfl ?_
      refine WL.qn (y_pick_t rfl rfl) rfl ?_
      exact WL.nil ⟨rfl, [_, _, _, _], rfl, rfl, rfl⟩
     ·refine WL.skips 3 rfl ?_
      refine WL.qn (y_pick_f rfl rfl) rfl ?_
      exact WL.nil ⟨rfl, [_, _, _, _], rfl, rfl, rfl⟩
     refine WL.as rfl rfl ?_
     refine WL.ns ?_
     refine wc_cond rfl (fun hc2 => ?_) (fun hc2 => ?_)
     ·replace h := condT h hc2
      refine wc_skip ?_
      exact we_lp ⟨(r155.2.2 && (decide (r155.1 > r155.2.1))), h, (Sub.cons rfl (Le.refl _) (Sub.cons rfl (Le.refl _) (Sub.cons rfl (Le.refl _) (Sub.cons rfl (Le.refl _) (Sub.cons rfl (Le.refl _) (Sub.cons rfl (Le.refl _) (Sub.cons rfl (Le.refl _) (Sub.cons rfl (Le.refl _) (Sub.cons rfl (Le.refl _) (Sub.cons rfl (Le.refl _) (Sub.cons rfl (Le.refl _) (Sub.nil _)))))))))))), ⟨⟨rfl, ⟨(Le.refl _), (Le.refl _), (Le.refl _), (Le.refl _), (Le.refl _), trivial⟩⟩, ⟨rfl, rfl, rfl, rfl⟩, trivial⟩⟩
     ·replace h := condF h hc2
      refine wc_region ?_
      refine WL.mv rfl rfl ?_
      refine WL.qn (y_not rfl) rfl ?_
      refine WL.mv rfl rfl ?_
      apply WL.and 3 (t := 55) (d := 58)
      ·exact rfl
      ·intro hg55
       refine WL.qy (y_move rfl) rfl rfl rfl ?_
       refine WL.qy (y_neq rfl rfl) rfl rfl rfl ?_
       refine WL.qn (y_pick_t rfl rfl) rfl ?_
       exact WL.nil ⟨rfl, [_, _, _], rfl, rfl, rfl⟩
      ·refine WL.skips 2 rfl ?_
       refine WL.qn (y_pick_f rfl rfl) rfl ?_
       exact WL.nil ⟨rfl, [_, _, _], rfl, rfl, rfl⟩
      refine WL.mv rfl rfl ?_
      apply WL.and 3 (t := 59) (d := 62)
      ·exact rfl
      ·intro hg59
       refine WL.qy (y_move rfl) rfl rfl rfl ?_
       refine WL.qy (y_neq rfl rfl) rfl rfl rfl ?_
       refine WL.qn (y_pick_t rfl rfl) rfl ?_
       exact WL.nil ⟨rfl, [_, _, _], rfl, rfl, rfl⟩
      ·refine WL.skips 2 rfl ?_
       refine WL.qn (y_pick_f rfl rfl) rfl ?_
       exact WL.nil ⟨rfl, [_, _, _], rfl, rfl, rfl⟩
      refine WL.as rfl rfl ?_
      refine WL.nil ?_
      exact we_lp ⟨(((!r155.2.2) && (!decide (r156 = 6))) && (!decide (r156 = 7))), h, (Sub.cons rfl (Le.refl _) (Sub.cons rfl (Le.refl _) (Sub.cons rfl (Le.refl _) (Sub.cons rfl (Le.refl _) (Sub.cons rfl (Le.refl _) (Sub.cons rfl (Le.refl _) (Sub.cons rfl (Le.refl _) (Sub.cons rfl (Le.refl _) (Sub.cons rfl (Le.refl _) (Sub.cons rfl (Le.refl _) (Sub.cons rfl (Le.refl _) (Sub.nil _)))))))))))), ⟨⟨rfl, ⟨(Le.refl _), (Le.refl _), (Le.refl _), (Le.refl _), (Le.refl _), trivial⟩⟩, ⟨rfl, rfl, rfl, rfl⟩, trivial⟩⟩
    ·rintro env1 st1 ⟨t157, h, hsub, hst⟩
     subst hk158
     dsimp only at h
     refine WC.sub hsub (WC.weak hst ?_)
     refine wc_cond rfl (fun hc3 => ?_) (fun hc3 => ?_)
     ·replace h := condT h hc3
      refine wc_sr ?_
      refine WL.as rfl rfl ?_
      refine WL.ns ?_
      refine wc_ret ?_
      refine we_blk_ret ?_
      refine we_blk_ret ?_
      refine we_lp_ret ?_
      refine we_lp_ret ?_
      refine we_blk_ret ?_
      refine we_lp_ret ?_
      obtain rfl := Option.some.inj h
      exact we_ret_fn (rs1 rfl (rv_t rfl)) Le.nil
     ·replace h := condF h hc3
      refine wc_sr ?_
      refine WL.mv rfl rfl ?_
      refine WL.mv rfl rfl ?_
      apply WL.and 7 (t := 65) (d := 72)
      ·exact rfl
      ·intro hg65
       refine WL.qy (y_move rfl) rfl rfl rfl ?_
       refine WL.qy (y_gtr rfl rfl) rfl rfl rfl ?_
       refine WL.qy (y_move rfl) rfl rfl rfl ?_
       apply WL.or 3 (t := 68) (d := 71)
       ·exact rfl
       ·intro hg68
        refine WL.qy (y_move rfl) rfl rfl rfl ?_
        refine WL.qy (y_lss rfl rfl) rfl rfl rfl ?_
        refine WL.qy (y_pick_f rfl rfl) rfl rfl rfl ?_
        exact WL.nil ⟨rfl, [_, _, _], rfl, rfl, rfl⟩
       ·refine WL.skips 2 rfl ?_
        refine WL.qy (y_pick_t rfl rfl) rfl rfl rfl ?_
        exact WL.nil ⟨rfl, [_, _, _], rfl, rfl, rfl⟩
       refine WL.qn (y_pick_t rfl rfl) rfl ?_
       exact WL.nil ⟨rfl, [_, _, _, _, _], rfl, rfl, rfl⟩
      ·refine WL.skips 6 rfl ?_
       refine WL.qn (y_pick_f rfl rfl) rfl ?_
       exact WL.nil ⟨rfl, [_, _, _, _, _, _, _], rfl, rfl, rfl⟩
      refine WL.as rfl rfl ?_
      refine WL.ns ?_
      refine wc_cond rfl (fun hc4 => ?_) (fun hc4 => ?_)
      ·replace h := condT h hc4
       refine wc_region ?_
       refine WL.mv rfl rfl ?_
       refine WL.mv rfl rfl ?_
       refine WL.mv rfl rfl ?_
       obtain ⟨x159, hx159, h⟩ := bindS h
       refine WL.qn (y_pe e41 rfl rfl rfl hx159) rfl ?_
       refine WL.s0 (d_store_peL (R := E2) (k := 1) (i := t145) (fo := 0) r155.1 rfl rfl rfl rfl (Le.refl _) rfl rfl rfl s2 rfl (fun _ => rfl) hx159 rfl rfl) (Wt.none rfl) rfl ?_
       refine WL.nil ?_
       refine we_blk ?_
       refine we_blk ?_
       exact we_lp ⟨(List.set l146 (Int.toNat t145) r155.1), _, h, (Sub.cons rfl (Le.refl _) (Sub.cons rfl (Le.refl _) (Sub.cons rfl (Le.refl _) (Sub.cons rfl (Le.refl _) (Sub.cons rfl (Le.refl _) (Sub.cons rfl (Le.refl _) (Sub.nil _))))))), ⟨⟨rfl, ⟨(Le.refl _), (Le.refl _), (Le.refl _), (Le.refl _), (Le.refl _), trivial⟩⟩, ⟨rfl, rfl, rfl, rfl⟩, trivial⟩⟩
      ·replace h := condF h hc4
       refine wc_skip ?_
       refine we_blk ?_
       refine we_blk ?_
       exact we_lp ⟨l146, _, h, (Sub.cons rfl (Le.refl _) (Sub.cons rfl (Le.refl _) (Sub.cons rfl (Le.refl _) (Sub.cons rfl (Le.refl _) (Sub.cons rfl (Le.refl _) (Sub.cons rfl (Le.refl _) (Sub.nil _))))))), ⟨⟨rfl, ⟨(Le.refl _), (Le.refl _), (Le.refl _), (Le.refl _), (Le.refl _), trivial⟩⟩, ⟨rfl, rfl, rfl, rfl⟩, trivial⟩⟩
   ·rintro env1 st1 ⟨l151, ver152, h, hsub, hst⟩
    subst hk153
    dsimp only at h
    refine WC.sub hsub (WC.weak hst ?_)
    refine wc_region ?_
    refine WL.qn (y_add rfl rfl rfl) rfl ?_
    refine WL.mv rfl rfl ?_
    refine WL.nil ?_
    exact we_lp ⟨n, ⟨(IntKind.i64.wrap (t145 + 1)), l151, _, h, (Sub.cons rfl (Le.refl _) (Sub.cons rfl (Le.refl _) (Sub.cons rfl (Le.refl _) (Sub.cons rfl (Le.refl _) (Sub.cons rfl (Le.refl _) (Sub.cons rfl (Le.refl _) (Sub.nil _))))))), ⟨⟨rfl, ⟨(Le.refl _), (Le.refl _), (Le.refl _), (Le.refl _), (Le.refl _), trivial⟩⟩, ⟨rfl, rfl, rfl, rfl⟩, trivial⟩⟩, Nat.lt_succ_self n⟩
  ·replace h := condF h hc1
   refine wc_exit ?_
   refine we_seq_exit ?_
   refine we_lp_exit ?_
   refine we_blk_hit ?_
   exact we_lp ⟨l146, _, h, (Sub.cons rfl (Le.refl _) (Sub.cons rfl (Le.refl _) (Sub.cons rfl (Le.refl _) (Sub.nil _)))), ⟨⟨rfl, ⟨(Le.refl _), (Le.refl _), (Le.refl _), (Le.refl _), (Le.refl _), trivial⟩⟩, ⟨rfl, rfl, rfl, rfl⟩, trivial⟩⟩
 ·rintro env1 st1 ⟨l139, ver140, h, hsub, hst⟩
  subst hk141
  dsimp only at h
  refine WC.sub hsub (WC.weak hst ?_)
  refine wc_sr ?_
  refine WL.qn (y_loadN rfl rfl a61 s61 rfl) rfl ?_
  refine WL.mv rfl rfl ?_
  obtain ⟨r160, hr160, h⟩ := bindS h
  refine WL.fn rfl rfl rfl rfl (f40_c _ _ hr160) ⟨(Le.agd ⟨(Le.refl _), (Le.refl _), (Le.refl _), (Le.refl _), (Le.refl _), trivial⟩), (Le.refl _), trivial⟩ (Wt.none rfl) rfl rfl ?_
  refine WL.mv rfl rfl ?_
  refine WL.qn (y_extractd rfl rfl) rfl ?_
  refine WL.qn (y_extractd rfl rfl) rfl ?_
  refine WL.qn (y_extractd rfl rfl) rfl ?_
  refine WL.s ((b_alloc z54).does) (Wt.none rfl) rfl rfl ?_
  refine WL.s ((b_alloc z40).does) (Wt.none rfl) rfl rfl ?_
  refine WL.s0 (d_store rfl rfl rfl rfl rfl rfl s54 rfl rfl) (Wt.none rfl) rfl ?_
  refine WL.st (st' := [.row 61 [.d (.sl (List.map E54 t0.types)), .d (.sl (List.map E40 t0.subs)), .d (.v (SlV.v t0.ents)), .d (.v (SlV.v t0.gens)), .d (.v (SlV.v t0.insts))], .os 2 1 ver140 (List.map (encA E2) l139), .row 54 [.d (D.i .u8 r160.1.kind), .d (D.s r160.1.name), .d (D.i .i64 r160.1.parent), .d (D.i .i64 r160.1.first), .d (.sl (List.map E9 r160.1.lits)), .d (D.i .i64 r160.1.index), .d (D.i .i64 r160.1.elem), .d (D.i .i64 r160.1.disc), .d (D.s r160.1.discName), .d (D.b r160.1.has), .d (D.i .i64 r160.1.default_), .d (.sl (List.map E56 r160.1.comps)), .d (D.i .i64 r160.1.target), .d (D.i .u8 r160.1.formal), .d (D.b r160.1.limited), .d (D.i .i64 r160.1.priv), .d (D.i .i64 r160.1.full), .d (D.i .i64 r160.1.level)], .row 40 [.d (D.i .i64 0), .d (D.i .i64 0), .d (D.i .i64 0)]]) rfl ?_
  refine WL.s0 (d_store rfl rfl rfl rfl rfl rfl s40 rfl rfl) (Wt.none rfl) rfl ?_
  refine WL.as rfl rfl ?_
  refine WL.ns ?_
  refine wc_seq ?_
  refine wc_sr ?_
  refine WL.qn (y_fieldAddr f54_0 rfl) rfl ?_
  refine WL.qn (y_load rfl rfl a49 rfl) rfl ?_
  refine WL.qn (y_neq rfl rfl) rfl ?_
  refine WL.ns ?_
  refine wc_cond rfl (fun hc5 => ?_) (fun hc5 => ?_)
  ·replace h := condT h hc5
   refine wc_sr ?_
   refine WL.mv rfl rfl ?_
   refine WL.as rfl rfl ?_
   refine WL.ns ?_
   refine wc_ret ?_
   refine we_seq_ret ?_
   refine WE.freezeX [7, 88, 4] [] 1 (List.map E2 l139) rfl (encA_map E2_eq l139) ⟨rfl, rfl, rfl, trivial⟩ trivial ?_
   obtain rfl := Option.some.inj h
   exact we_ret_fn (rs1 rfl (rv_t rfl)) (Le.refl _)
  ·replace h := condF h hc5
   refine wc_skip ?_
   refine we_seq ?_
   replace h := letkS h
   obtain ⟨k163, hk163, h⟩ := h
   refine wc_cut (fun env' st' => ∃ (l161 : List Int), ∃ (ver162 : Nat), k163 l161 = some r ∧ Sub [(7, .os 1 ver162), (14, .pt 2 0)] env' ∧ SLe st' [.row 61 [.d (.sl (List.map E54 t0.types)), .d (.sl (List.map E40 t0.subs)), .d (.v (SlV.v t0.ents)), .d (.v (SlV.v t0.gens)), .d (.v (SlV.v t0.insts))], .os 2 1 ver162 (List.map (encA E2) l161), .row 54 [.d (D.i .u8 r160.1.kind), .d (D.s r160.1.name), .d (D.i .i64 r160.1.parent), .d (D.i .i64 r160.1.first), .d (.sl (List.map E9 r160.1.lits)), .d (D.i .i64 r160.1.index), .d (D.i .i64 r160.1.elem), .d (D.i .i64 r160.1.disc), .d (D.s r160.1.discName), .d (D.b r160.1.has), .d (D.i .i64 r160.1.default_), .d (.sl (List.map E56 r160.1.comps)), .d (D.i .i64 r160.1.target), .d (D.i .u8 r160.1.formal), .d (D.b r160.1.limited), .d (D.i .i64 r160.1.priv), .d (D.i .i64 r160.1.full), .d (D.i .i64 r160.1.level)], .row 40 [.d (D.i .i64 r160.2.1.t), .d (D.i .i64 r160.2.1.lo), .d (D.i .i64 r160.2.1.hi)]]) ?_ ?_
   ·refine wc_sr ?_
    refine WL.qn (y_loadN rfl rfl a61 s61 rfl) rfl ?_
    refine WL.mv rfl rfl ?_
    obtain ⟨r164, hr164, h⟩ := bindS h
    refine WL.fn rfl rfl rfl rfl (f61_c _ _ hr164) ⟨(Le.agd ⟨(Le.refl _), (Le.refl _), (Le.refl _), (Le.refl _), (Le.refl _), trivial⟩), (Le.refl _), trivial⟩ (Wt.none rfl) rfl rfl ?_
    refine WL.mv rfl rfl ?_
    refine WL.qn (y_extractd rfl rfl) rfl ?_
    refine WL.qn (y_extractd rfl rfl) rfl ?_
    refine WL.as rfl rfl ?_
    refine WL.as rfl rfl ?_
    refine WL.ns ?_
    refine wc_sr ?_
    refine WL.mv rfl rfl ?_
    refine WL.ns ?_
    refine wc_cond rfl (fun hc6 => ?_) (fun hc6 => ?_)
    ·replace h := condT h hc6
     refine wc_region ?_
     refine WL.mv rfl rfl ?_
     refine WL.mv rfl rfl ?_
     obtain ⟨x165, hx165, h⟩ := bindS h
     refine WL.qn (y_pe e41 rfl rfl rfl hx165) rfl ?_
     refine WL.s0 (d_store_peL (R := E2) (k := 1) (i := 0) (fo := 0) r164.1 rfl rfl rfl rfl (Le.refl _) rfl rfl rfl s2 rfl (fun _ => rfl) hx165 rfl rfl) (Wt.none rfl) rfl ?_
     refine WL.st (st' := [.row 61 [.d (.sl (List.map E54 t0.types)), .d (.sl (List.map E40 t0.subs)), .d (.v (SlV.v t0.ents)), .d (.v (SlV.v t0.gens)), .d (.v (SlV.v t0.insts))], .os 2 1 ver140 (List.map (encA E2) (List.set l139 (Int.toNat 0) r164.1)), .row 54 [.d (D.i .u8 r160.1.kind), .d (D.s r160.1.name), .d (D.i .i64 r160.1.parent), .d (D.i .i64 r160.1.first), .d (.sl (List.map E9 r160.1.lits)), .d (D.i .i64 r160.1.index), .d (D.i .i64 r160.1.elem), .d (D.i .i64 r160.1.disc), .d (D.s r160.1.discName), .d (D.b r160.1.has), .d (D.i .i64 r160.1.default_), .d (.sl (List.map E56 r160.1.comps)), .d (D.i .i64 r160.1.target), .d (D.i .u8 r160.1.formal), .d (D.b r160.1.limited), .d (D.i .i64 r160.1.priv), .d (D.i .i64 r160.1.full), .d (D.i .i64 r160.1.level)], .row 40 [.d (D.i .i64 r160.2.1.t), .d (D.i .i64 r160.2.1.lo), .d (D.i .i64 r160.2.1.hi)]]) rfl ?_
     refine WL.nil ?_
     exact we_lp ⟨(List.set l139 (Int.toNat 0) r164.1), _, h, (Sub.cons rfl (Le.refl _) (Sub.cons rfl (Le.refl _) (Sub.nil _))), ⟨⟨rfl, ⟨(Le.refl _), (Le.refl _), (Le.refl _), (Le.refl _), (Le.refl _), trivial⟩⟩, ⟨rfl, rfl, rfl, rfl⟩, ⟨rfl, ⟨(Le.refl _), (Le.refl _), (Le.refl _), (Le.refl _), (Le.refl _), (Le.refl _), (Le.refl _), (Le.refl _), (Le.refl _), (Le.refl _), (Le.refl _), (Le.refl _), (Le.refl _), (Le.refl _), (Le.refl _), (Le.refl _), (Le.refl _), (Le.refl _), trivial⟩⟩, ⟨rfl, ⟨(Le.refl _), (Le.refl _), (Le.refl _), trivial⟩⟩, trivial⟩⟩
    ·replace h := condF h hc6
     refine wc_sr ?_
     refine WL.qn (y_fieldAddr f54_7 rfl) rfl ?_
     refine WL.qn (y_load rfl rfl a3 rfl) rfl ?_
     refine WL.qn (y_neq rfl rfl) rfl ?_
     refine WL.mv rfl rfl ?_
     apply WL.and 3 (t := 102) (d := 105)
     ·exact rfl
     ·intro hg102
      refine WL.qy (y_fieldAddr f54_9 rfl) rfl rfl rfl ?_
      refine WL.qy (y_load rfl rfl a4 rfl) rfl rfl rfl ?_
      refine WL.qn (y_pick_t rfl rfl) rfl ?_
      exact WL.nil ⟨rfl, [_, _, _], rfl, rfl, rfl⟩
     ·refine WL.skips 2 rfl ?_
      refine WL.qn (y_pick_f rfl rfl) rfl ?_
      exact WL.nil ⟨rfl, [_, _, _], rfl, rfl, rfl⟩
     refine WL.ns ?_
     refine wc_cond rfl (fun hc7 => ?_) (fun hc7 => ?_)
     ·replace h := condT h hc7
      refine wc_region ?_
      refine WL.mv rfl rfl ?_
      refine WL.qn (y_fieldAddr f54_10 rfl) rfl ?_
      refine WL.qn (y_load rfl rfl a2 rfl) rfl ?_
      obtain ⟨x166, hx166, h⟩ := bindS h
      refine WL.qn (y_pe e41 rfl rfl rfl hx166) rfl ?_
      refine WL.s0 (d_store_peL (R := E2) (k := 1) (i := 0) (fo := 0) r160.1.default_ rfl rfl rfl rfl (Le.refl _) rfl rfl rfl s2 rfl (fun _ => rfl) hx166 rfl rfl) (Wt.none rfl) rfl ?_
      refine WL.st (st' := [.row 61 [.d (.sl (List.map E54 t0.types)), .d (.sl (List.map E40 t0.subs)), .d (.v (SlV.v t0.ents)), .d (.v (SlV.v t0.gens)), .d (.v (SlV.v t0.insts))], .os 2 1 ver140 (List.map (encA E2) (List.set l139 (Int.toNat 0) r160.1.default_)), .row 54 [.d (D.i .u8 r160.1.kind), .d (D.s r160.1.name), .d (D.i .i64 r160.1.parent), .d (D.i .i64 r160.1.first), .d (.sl (List.map E9 r160.1.lits)), .d (D.i .i64 r160.1.index), .d (D.i .i64 r160.1.elem), .d (D.i .i64 r160.1.disc), .d (D.s r160.1.discName), .d (D.b r160.1.has), .d (D.i .i64 r160.1.default_), .d (.sl (List.map E56 r160.1.comps)), .d (D.i .i64 r160.1.target), .d (D.i .u8 r160.1.formal), .d (D.b r160.1.limited), .d (D.i .i64 r160.1.priv), .d (D.i .i64 r160.1.full), .d (D.i .i64 r160.1.level)], .row 40 [.d (D.i .i64 r160.2.1.t), .d (D.i .i64 r160.2.1.lo), .d (D.i .i64 r160.2.1.hi)]]) rfl ?_
      refine WL.nil ?_
      exact we_lp ⟨(List.set l139 (Int.toNat 0) r160.1.default_), _, h, (Sub.cons rfl (Le.refl _) (Sub.cons rfl (Le.refl _) (Sub.nil _))), ⟨⟨rfl, ⟨(Le.refl _), (Le.refl _), (Le.refl _), (Le.refl _), (Le.refl _), trivial⟩⟩, ⟨rfl, rfl, rfl, rfl⟩, ⟨rfl, ⟨(Le.refl _), (Le.refl _), (Le.refl _), (Le.refl _), (Le.refl _), (Le.refl _), (Le.refl _), (Le.refl _), (Le.refl _), (Le.refl _), (Le.refl _), (Le.refl _), (Le.refl _), (Le.refl _), (Le.refl _), (Le.refl _), (Le.refl _), (Le.refl _), trivial⟩⟩, ⟨rfl, ⟨(Le.refl _), (Le.refl _), (Le.refl _), trivial⟩⟩, trivial⟩⟩
     ·replace h := condF h hc7
      refine wc_skip ?_
      exact we_lp ⟨l139, _, h, (Sub.cons rfl (Le.refl _) (Sub.cons rfl (Le.refl _) (Sub.nil _))), ⟨⟨rfl, ⟨(Le.refl _), (Le.refl _), (Le.refl _), (Le.refl _), (Le.refl _), trivial⟩⟩, ⟨rfl, rfl, rfl, rfl⟩, ⟨rfl, ⟨(Le.refl _), (Le.refl _), (Le.refl _), (Le.refl _), (Le.refl _), (Le.refl _), (Le.refl _), (Le.refl _), (Le.refl _), (Le.refl _), (Le.refl _), (Le.refl _), (Le.refl _), (Le.refl _), (Le.refl _), (Le.refl _), (Le.refl _), (Le.refl _), trivial⟩⟩, ⟨rfl, ⟨(Le.refl _), (Le.refl _), (Le.refl _), trivial⟩⟩, trivial⟩⟩
   ·rintro env1 st1 ⟨l161, ver162, h, hsub, hst⟩
    subst hk163
    dsimp only at h
    refine WC.sub hsub (WC.weak hst ?_)
    replace h := letkS h
    obtain ⟨k169, hk169, h⟩ := h
    refine wc_cut (fun env' st' => ∃ (l167 : List Int), ∃ (ver168 : Nat), k169 l167 = some r ∧ Sub [(7, .os 1 ver168)] env' ∧ SLe st' [.row 61 [.d (.sl (List.map E54 t0.types)), .d (.sl (List.map E40 t0.subs)), .d (.v (SlV.v t0.ents)), .d (.v (SlV.v t0.gens)), .d (.v (SlV.v t0.insts))], .os 2 1 ver168 (List.map (encA E2) l167), .row 54 [.d (D.i .u8 r160.1.kind), .d (D.s r160.1.name), .d (D.i .i64 r160.1.parent), .d (D.i .i64 r160.1.first), .d (.sl (List.map E9 r160.1.lits)), .d (D.i .i64 r160.1.index), .d (D.i .i64 r160.1.elem), .d (D.i .i64 r160.1.disc), .d (D.s r160.1.discName), .d (D.b r160.1.has), .d (D.i .i64 r160.1.default_), .d (.sl (List.map E56 r160.1.comps)), .d (D.i .i64 r160.1.target), .d (D.i .u8 r160.1.formal), .d (D.b r160.1.limited), .d (D.i .i64 r160.1.priv), .d (D.i .i64 r160.1.full), .d (D.i .i64 r160.1.level)], .row 40 [.d (D.i .i64 r160.2.1.t), .d (D.i .i64 r160.2.1.lo), .d (D.i .i64 r160.2.1.hi)]]) ?_ ?_
    ·refine wc_sr ?_
     refine WL.qn (y_fieldAddr f54_11 rfl) rfl ?_
     refine WL.qn (y_load rfl rfl a51 rfl) rfl ?_
     refine WL.qn (y_len_map E56 r160.1.comps e51 rfl rfl (Le.refl _)) rfl ?_
     refine WL.mv rfl rfl ?_
     refine WL.ns ?_
     refine wc_block ?_
     refine wc_loop (fun n env' st' => ∃ (t173 : Int), ∃ (l174 : List Int), ∃ (ver175 : Nat), f34_l2 r160 k169 n t173 l174 = some r ∧ Sub [(7, .os 1 ver175), (14, .pt 2 0), (111, .d (.sl (List.map E56 r160.1.comps))), (112, .d (D.i .i64 (List.length r160.1.comps : Int))), (113, .d (D.i .i64 t173))] env' ∧ SLe st' [.row 61 [.d (.sl (List.map E54 t0.types)), .d (.sl (List.map E40 t0.subs)), .d (.v (SlV.v t0.ents)), .d (.v (SlV.v t0.gens)), .d (.v (SlV.v t0.insts))], .os 2 1 ver175 (List.map (encA E2) l174), .row 54 [.d (D.i .u8 r160.1.kind), .d (D.s r160.1.name), .d (D.i .i64 r160.1.parent), .d (D.i .i64 r160.1.first), .d (.sl (List.map E9 r160.1.lits)), .d (D.i .i64 r160.1.index), .d (D.i .i64 r160.1.elem), .d (D.i .i64 r160.1.disc), .d (D.s r160.1.discName), .d (D.b r160.1.has), .d (D.i .i64 r160.1.default_), .d (.sl (List.map E56 r160.1.comps)), .d (D.i .i64 r160.1.target), .d (D.i .u8 r160.1.formal), .d (D.b r160.1.limited), .d (D.i .i64 r160.1.priv), .d (D.i .i64 r160.1.full), .d (D.i .i64 r160.1.level)], .row 40 [.d (D.i .i64 r160.2.1.t), .d (D.i .i64 r160.2.1.lo), .d (D.i .i64 r160.2.1.hi)]]) (fun n => n) (Int.toNat ((List.length r160.1.comps : Int) - 0) + 1) ⟨0, l161, _, h, (Sub.cons rfl (Le.refl _) (Sub.cons rfl (Le.refl _) (Sub.cons rfl (Le.refl _) (Sub.cons rfl (Le.refl _) (Sub.cons rfl (Le.refl _) (Sub.nil _)))))), ⟨⟨rfl, ⟨(Le.refl _), (Le.refl _), (Le.refl _), (Le.refl _), (Le.refl _), trivial⟩⟩, ⟨rfl, rfl, rfl, rfl⟩, ⟨rfl, ⟨(Le.refl _), (Le.refl _), (Le.refl _), (Le.refl _), (Le.refl _), (Le.refl _), (Le.refl _), (Le.refl _), (Le.refl _), (Le.refl _), (Le.refl _), (Le.refl _), (Le.refl _), (Le.refl _), (Le.refl _), (Le.refl _), (Le.refl _), (Le.refl _), trivial⟩⟩, ⟨rfl, ⟨(Le.refl _), (Le.refl _), (Le.refl _), trivial⟩⟩, trivial⟩⟩ ?_
     rintro n env1 st1 ⟨t173, l174, ver175, h, hsub, hst⟩
     cases n with
     | zero => rw [f34_l2] at h; cases h
     | succ n =>
     rw [f34_l2] at h
     refine WC.sub hsub (WC.weak hst ?_)
     refine wc_sr ?_
     refine WL.qn (y_lss rfl rfl) rfl ?_
     refine WL.ns ?_
     refine wc_seq ?_
     refine wc_cond rfl (fun hc8 => ?_) (fun hc8 => ?_)
     ·replace h := condT h hc8
      refine wc_skip ?_
      refine we_seq ?_
      replace h := letkS h
      obtain ⟨k187, hk187, h⟩ := h
      refine wc_cut (fun env' st' => ∃ (l179 : List Int), ∃ (ver180 : Nat), ∃ (c40181 : ByteArray), ∃ (c41182 : Int), ∃ (c42183 : Bool), ∃ (c43184 : Int), ∃ (c44185 : Bool), ∃ (c45186 : List Int), k187 l179 c40181 c41182 c42183 c43184 c44185 c45186 = some r ∧ Sub [(7, .os 1 ver180), (14, .pt 2 0), (111, .d (.sl (List.map E56 r160.1.comps))), (112, .d (D.i .i64 (List.length r160.1.comps : Int))), (113, .d (D.i .i64 t173))] env' ∧ SLe st' [.row 61 [.d (.sl (List.map E54 t0.types)), .d (.sl (List.map E40 t0.subs)), .d (.v (SlV.v t0.ents)), .d (.v (SlV.v t0.gens)), .d (.v (SlV.v t0.insts))], .os 2 1 ver180 (List.map (encA E2) l179), .row 54 [.d (D.i .u8 r160.1.kind), .d (D.s r160.1.name), .d (D.i .i64 r160.1.parent), .d (D.i .i64 r160.1.first), .d (.sl (List.map E9 r160.1.lits)), .d (D.i .i64 r160.1.index), .d (D.i .i64 r160.1.elem), .d (D.i .i64 r160.1.disc), .d (D.s r160.1.discName), .d (D.b r160.1.has), .d (D.i .i64 r160.1.default_), .d (.sl (List.map E56 r160.1.comps)), .d (D.i .i64 r160.1.target), .d (D.i .u8 r160.1.formal), .d (D.b r160.1.limited), .d (D.i .i64 r160.1.priv), .d (D.i .i64 r160.1.full), .d (D.i .i64 r160.1.level)], .row 40 [.d (D.i .i64 r160.2.1.t), .d (D.i .i64 r160.2.1.lo), .d (D.i .i64 r160.2.1.hi)], .row 56 [.d (D.s c40181), .d (D.i .i64 c41182), .d (D.b c42183), .d (D.i .i64 c43184), .d (D.b c44185), .d (.sl (List.map E2 c45186))]]) ?_ ?_
      ·refine wc_block ?_
       refine wc_sr ?_
       refine WL.mv rfl rfl ?_
       obtain ⟨x188, hx188, h⟩ := bindS h
       refine WL.qn (y_indexAddr e51 rfl (Le.refl _) rfl (idx_nonneg hx188) (idx_row E56_eq hx188) rfl) rfl ?_
       refine WL.qn (y_loadcN rfl a56 s56 rfl) rfl ?_
       refine WL.s ((b_alloc z56).does) (Wt.none rfl) rfl rfl ?_
       refine WL.as rfl rfl ?_
       refine WL.s0 (d_store rfl rfl rfl rfl rfl rfl s56 rfl rfl) (Wt.none rfl) rfl ?_
       refine WL.st (st' := [.row 61 [.d (.sl (List.map E54 t0.types)), .d (.sl (List.map E40 t0.subs)), .d (.v (SlV.v t0.ents)), .d (.v (SlV.v t0.gens)), .d (.v (SlV.v t0.insts))], .os 2 1 ver175 (List.map (encA E2) l174), .row 54 [.d (D.i .u8 r160.1.kind), .d (D.s r160.1.name), .d (D.i .i64 r160.1.parent), .d (D.i .i64 r160.1.first), .d (.sl (List.map E9 r160.1.lits)), .d (D.i .i64 r160.1.index), .d (D.i .i64 r160.1.elem), .d (D.i .i64 r160.1.disc), .d (D.s r160.1.discName), .d (D.b r160.1.has), .d (D.i .i64 r160.1.default_), .d (.sl (List.map E56 r160.1.comps)), .d (D.i .i64 r160.1.target), .d (D.i .u8 r160.1.formal), .d (D.b r160.1.limited), .d (D.i .i64 r160.1.priv), .d (D.i .i64 r160.1.full), .d (D.i .i64 r160.1.level)], .row 40 [.d (D.i .i64 r160.2.1.t), .d (D.i .i64 r160.2.1.lo), .d (D.i .i64 r160.2.1.hi)], .row 56 [.d (D.s x188.name), .d (D.i .i64 x188.sub), .d (D.b x188.has), .d (D.i .i64 x188.default_), .d (D.b x188.variant), .d (.sl (List.map E2 x188.when))]]) rfl ?_
       refine WL.ns ?_
       refine wc_sr ?_
       refine WL.qn (y_fieldAddr f56_2 rfl) rfl ?_
       refine WL.qn (y_load rfl rfl a4 rfl) rfl ?_
       refine WL.ns ?_
       refine wc_cond rfl (fun hc9 => ?_) (fun hc9 => ?_)
       ·replace h := condT h hc9
        refine wc_region ?_
        refine WL.mv rfl rfl ?_
        refine WL.mv rfl rfl ?_
        refine WL.qn (y_len_osmap (encA E2) l174 e41 rfl rfl rfl) rfl ?_
        refine WL.qn (y_fieldAddr f54_11 rfl) rfl ?_
        refine WL.qn (y_load rfl rfl a51 rfl) rfl ?_
        refine WL.qn (y_len_map E56 r160.1.comps e51 rfl rfl (Le.refl _)) rfl ?_
        refine WL.qn (y_sub rfl rfl rfl) rfl ?_
        refine WL.mv rfl rfl ?_
        refine WL.qn (y_add rfl rfl rfl) rfl ?_
        refine WL.qn (y_fieldAddr f56_3 rfl) rfl ?_
        refine WL.qn (y_load rfl rfl a2 rfl) rfl ?_
        obtain ⟨x189, hx189, h⟩ := bindS h
        refine WL.qn (y_pe e41 rfl rfl rfl hx189) rfl ?_
        refine WL.s0 (d_store_peL (R := E2) (k := 1) (i := (IntKind.i64.wrap ((IntKind.i64.wrap ((List.length l174 : Int) - (List.length r160.1.comps : Int))) + t173))) (fo := 0) x188.default_ rfl rfl rfl rfl (Le.refl _) rfl rfl rfl s2 rfl (fun _ => rfl) hx189 rfl rfl) (Wt.none rfl) rfl ?_
        refine WL.st (st' := [.row 61 [.d (.sl (List.map E54 t0.types)), .d (.sl (List.map E40 t0.subs)), .d (.v (SlV.v t0.ents)), .d (.v (SlV.v t0.gens)), .d (.v (SlV.v t0.insts))], .os 2 1 ver175 (List.map (encA E2) (List.set l174 (Int.toNat (IntKind.i64.wrap ((IntKind.i64.wrap ((List.length l174 : Int) - (List.length r160.1.comps : Int))) + t173))) x188.default_)), .row 54 [.d (D.i .u8 r160.1.kind), .d (D.s r160.1.name), .d (D.i .i64 r160.1.parent), .d (D.i .i64 r160.1.first), .d (.sl (List.map E9 r160.1.lits)), .d (D.i .i64 r160.1.index), .d (D.i .i64 r160.1.elem), .d (D.i .i64 r160.1.disc), .d (D.s r160.1.discName), .d (D.b r160.1.has), .d (D.i .i64 r160.1.default_), .d (.sl (List.map E56 r160.1.comps)), .d (D.i .i64 r160.1.target), .d (D.i .u8 r160.1.formal), .d (D.b r160.1.limited), .d (D.i .i64 r160.1.priv), .d (D.i .i64 r160.1.full), .d (D.i .i64 r160.1.level)], .row 40 [.d (D.i .i64 r160.2.1.t), .d (D.i .i64 r160.2.1.lo), .d (D.i .i64 r160.2.1.hi)], .row 56 [.d (D.s x188.name), .d (D.i .i64 x188.sub), .d (D.b x188.has), .d (D.i .i64 x188.default_), .d (D.b x188.variant), .d (.sl (List.map E2 x188.when))]]) rfl ?_
        refine WL.nil ?_
        refine we_blk ?_
        exact we_lp ⟨(List.set l174 (Int.toNat (IntKind.i64.wrap ((IntKind.i64.wrap ((List.length l174 : Int) - (List.length r160.1.comps : Int))) + t173))) x188.default_), _, x188.name, x188.sub, x188.has, x188.default_, x188.variant, x188.when, h, (Sub.cons rfl (Le.refl _) (Sub.cons rfl (Le.refl _) (Sub.cons rfl (Le.refl _) (Sub.cons rfl (Le.refl _) (Sub.cons rfl (Le.refl _) (Sub.nil _)))))), ⟨⟨rfl, ⟨(Le.refl _), (Le.refl _), (Le.refl _), (Le.refl _), (Le.refl _), trivial⟩⟩, ⟨rfl, rfl, rfl, rfl⟩, ⟨rfl, ⟨(Le.refl _), (Le.refl _), (Le.refl _), (Le.refl _), (Le.refl _), (Le.refl _), (Le.refl _), (Le.refl _), (Le.refl _), (Le.refl _), (Le.refl _), (Le.refl _), (Le.refl _), (Le.refl _), (Le.refl _), (Le.refl _), (Le.refl _), (Le.refl _), trivial⟩⟩, ⟨rfl, ⟨(Le.refl _), (Le.refl _), (Le.refl _), trivial⟩⟩, ⟨rfl, ⟨(Le.refl _), (Le.refl _), (Le.refl _), (Le.refl _), (Le.refl _), (Le.refl _), trivial⟩⟩, trivial⟩⟩
       ·replace h := condF h hc9
        refine wc_skip ?_
        refine we_blk ?_
        exact we_lp ⟨l174, _, x188.name, x188.sub, x188.has, x188.default_, x188.variant, x188.when, h, (Sub.cons rfl (Le.refl _) (Sub.cons rfl (Le.refl _) (Sub.cons rfl (Le.refl _) (Sub.cons rfl (Le.refl _) (Sub.cons rfl (Le.refl _) (Sub.nil _)))))), ⟨⟨rfl, ⟨(Le.refl _), (Le.refl _), (Le.refl _), (Le.refl _), (Le.refl _), trivial⟩⟩, ⟨rfl, rfl, rfl, rfl⟩, ⟨rfl, ⟨(Le.refl _), (Le.refl _), (Le.refl _), (Le.refl _), (Le.refl _), (Le.refl _), (Le.refl _), (Le.refl _), (Le.refl _), (Le.refl _), (Le.refl _), (Le.refl _), (Le.refl _), (Le.refl _), (Le.refl _), (Le.refl _), (Le.refl _), (Le.refl _), trivial⟩⟩, ⟨rfl, ⟨(Le.refl _), (Le.refl _), (Le.refl _), trivial⟩⟩, ⟨rfl, ⟨(Le.refl _), (Le.refl _), (Le.refl _), (Le.refl _), (Le.refl _), (Le.refl _), trivial⟩⟩, trivial⟩⟩
      ·rintro env1 st1 ⟨l179, ver180, c40181, c41182, c42183, c43184, c44185, c45186, h, hsub, hst⟩
       subst hk187
       dsimp only at h
       refine WC.sub hsub (WC.weak hst ?_)
       refine wc_region ?_
       refine WL.qn (y_add rfl rfl rfl) rfl ?_
       refine WL.mv rfl rfl ?_
       refine WL.nil ?_
       refine WE.drop 4 (env' := [(7, .os 1 ver180), (14, .pt 2 0), (111, .d (.sl (List.map E56 r160.1.comps))), (112, .d (D.i .i64 (List.length r160.1.comps : Int))), (113, .d (D.i .i64 (IntKind.i64.wrap (t173 + 1))))]) (Sub.one rfl (Sub.one rfl (Sub.one rfl (Sub.one rfl (Sub.one rfl (Sub.nil _)))))) rfl (stLt_cons rfl (stLt_cons (lt_os _ _ _ _ _ _) (stLt_cons rfl (stLt_cons rfl rfl)))) (Nat.zero_le _) ?_
       exact we_lp ⟨n, ⟨(IntKind.i64.wrap (t173 + 1)), l179, _, h, (Sub.cons rfl (Le.refl _) (Sub.cons rfl (Le.refl _) (Sub.cons rfl (Le.refl _) (Sub.cons rfl (Le.refl _) (Sub.cons rfl (Le.refl _) (Sub.nil _)))))), ⟨⟨rfl, ⟨(Le.refl _), (Le.refl _), (Le.refl _), (Le.refl _), (Le.refl _), trivial⟩⟩, ⟨rfl, rfl, rfl, rfl⟩, ⟨rfl, ⟨(Le.refl _), (Le.refl _), (Le.refl _), (Le.refl _), (Le.refl _), (Le.refl _), (Le.refl _), (Le.refl _), (Le.refl _), (Le.refl _), (Le.refl _), (Le.refl _), (Le.refl _), (Le.refl _), (Le.refl _), (Le.refl _), (Le.refl _), (Le.refl _), trivial⟩⟩, ⟨rfl, ⟨(Le.refl _), (Le.refl _), (Le.refl _), trivial⟩⟩, trivial⟩⟩, Nat.lt_succ_self n⟩
     ·replace h := condF h hc8
      refine wc_exit ?_
      refine we_seq_exit ?_
      refine we_lp_exit ?_
      refine we_blk_hit ?_
      exact we_lp ⟨l174, _, h, (Sub.cons rfl (Le.refl _) (Sub.nil _)), ⟨⟨rfl, ⟨(Le.refl _), (Le.refl _), (Le.refl _), (Le.refl _), (Le.refl _), trivial⟩⟩, ⟨rfl, rfl, rfl, rfl⟩, ⟨rfl, ⟨(Le.refl _), (Le.refl _), (Le.refl _), (Le.refl _), (Le.refl _), (Le.refl _), (Le.refl _), (Le.refl _), (Le.refl _), (Le.refl _), (Le.refl _), (Le.refl _), (Le.refl _), (Le.refl _), (Le.refl _), (Le.refl _), (Le.refl _), (Le.refl _), trivial⟩⟩, ⟨rfl, ⟨(Le.refl _), (Le.refl _), (Le.refl _), trivial⟩⟩, trivial⟩⟩
    ·rintro env1 st1 ⟨l167, ver168, h, hsub, hst⟩
     subst hk169
     dsimp only at h
     refine WC.sub hsub (WC.weak hst ?_)
     refine wc_sr ?_
     refine WL.mv rfl rfl ?_
     refine WL.as rfl rfl ?_
     refine WL.ns ?_
     refine wc_ret ?_
     refine WE.freezeX [7, 133, 4] [] 1 (List.map E2 l167) rfl (encA_map E2_eq l167) ⟨rfl, rfl, rfl, trivial⟩ trivial ?_
     obtain rfl := Option.some.inj h
     exact we_ret_fn (rs1 rfl (rv_t rfl)) (Le.refl _)

theorem f79_c (y0 : Ty) : Pu Tryd.prog 79 [.ag (R54 y0)] (.ag (R54 (f79 y0))) := by
 generalize h : f79 y0 = r
 unfold f79 at h
 refine fn_intro Tryd.func79 (by kernel_rfl) rfl rfl rfl (fun φφ ww => ?_)
 refine wc_sr ?_
 refine WL.s ((b_boxd rfl rfl (Les.refl _)).does) (Wt.none rfl) rfl rfl ?_
 refine WL.s ((b_alloc z54).does) (Wt.none rfl) rfl rfl ?_
 refine WL.ns ?_
 refine wc_sr ?_
 refine WL.qn (y_fieldAddrc f54_0 rfl) rfl ?_
 refine WL.qn (y_loadc rfl a49 rfl) rfl ?_
 refine WL.qn (y_fieldAddrc f54_1 rfl) rfl ?_
 refine WL.qn (y_loadc rfl a9 rfl) rfl ?_
 refine WL.qn (y_fieldAddrc f54_3 rfl) rfl ?_
 refine WL.qn (y_loadc rfl a3 rfl) rfl ?_
 refine WL.qn (y_fieldAddrc f54_14 rfl) rfl ?_
 refine WL.qn (y_loadc rfl a4 rfl) rfl ?_
 refine WL.qn (y_fieldAddrc f54_15 rfl) rfl ?_
 refine WL.qn (y_loadc rfl a3 rfl) rfl ?_
 refine WL.qn (y_fieldAddrc f54_16 rfl) rfl ?_
 refine WL.qn (y_loadc rfl a3 rfl) rfl ?_
 refine WL.qn (y_fieldAddrc f54_17 rfl) rfl ?_
 refine WL.qn (y_loadc rfl a3 rfl) rfl ?_
 refine WL.qn (y_build p54 z54 rfl rfl) rfl ?_
 refine WL.s0 (d_store rfl rfl rfl rfl rfl rfl s54 rfl rfl) (Wt.none rfl) rfl ?_
 refine WL.st (st' := [.row 54 [.d (D.i .u8 y0.kind), .d (D.s y0.name), .d (D.i .i64 (-1)), .d (D.i .i64 y0.first), .d (.v (.slice none 0 0)), .d (D.i .i64 (-1)), .d (D.i .i64 (-1)), .d (D.i .i64 (-1)), .d (D.s ByteArray.empty), .d (D.b false), .d (D.i .i64 0), .d (.v (.slice none 0 0)), .d (D.i .i64 (-1)), .d (D.i .u8 0), .d (D.b y0.limited), .d (D.i .i64 y0.priv), .d (D.i .i64 y0.full), .d (D.i .i64 y0.level)]]) rfl ?_
 refine WL.ns ?_
 refine wc_ret ?_
 subst h
 exact we_ret_fn (rs1 rfl (rv_cN rfl rfl a54 s54 rfl)) (Le.agd ⟨(Le.refl _), (Le.refl _), (Le.refl _), (Le.refl _), Le.nil, (Le.refl _), (Le.refl _), (Le.refl _), (Le.refl _), (Le.refl _), (Le.refl _), Le.nil, (Le.refl _), (Le.refl _), (Le.refl _), (Le.refl _), (Le.refl _), (Le.refl _), trivial⟩)

theorem f80_c (lo0 : Int) (hi1 : Int) (cap2 : Subt) : Pu Tryd.prog 80 [.i .i64 lo0, .i .i64 hi1, .pc (R40 cap2)] (.b (f80 lo0 hi1 cap2)) := by
 generalize h : f80 lo0 hi1 cap2 = r
 unfold f80 at h
 refine fn_intro Tryd.func80 (by kernel_rfl) rfl rfl rfl (fun φφ ww => ?_)
 refine wc_sr ?_
 refine WL.as rfl rfl ?_
 refine WL.ns ?_
 refine wc_sr ?_
 refine WL.qn (y_fieldAddrc f40_1 rfl) rfl ?_
 refine WL.qn (y_loadc rfl a2 rfl) rfl ?_
 refine WL.mv rfl rfl ?_
 refine WL.qn (y_geq rfl rfl) rfl ?_
 refine WL.mv rfl rfl ?_
 apply WL.and 5 (t := 10) (d := 15)
 ·exact rfl
 ·intro hg10
  refine WL.qy (y_fieldAddrc f40_1 rfl) rfl rfl rfl ?_
  refine WL.qy (y_loadc rfl a2 rfl) rfl rfl rfl ?_
  refine WL.qy (y_move rfl) rfl rfl rfl ?_
  refine WL.qy (y_leq rfl rfl) rfl rfl rfl ?_
  refine WL.qn (y_pick_t rfl rfl) rfl ?_
  exact WL.nil ⟨rfl, [_, _, _, _, _], rfl, rfl, rfl⟩
 ·refine WL.skips 4 rfl ?_
  refine WL.qn (y_pick_f rfl rfl) rfl ?_
  exact WL.nil ⟨rfl, [_, _, _, _, _], rfl, rfl, rfl⟩
 refine WL.mv rfl rfl ?_
 apply WL.and 5 (t := 16) (d := 21)
 ·exact rfl
 ·intro hg16
  refine WL.qy (y_fieldAddrc f40_2 rfl) rfl rfl rfl ?_
  refine WL.qy (y_loadc rfl a2 rfl) rfl rfl rfl ?_
  refine WL.qy (y_move rfl) rfl rfl rfl ?_
  refine WL.qy (y_geq rfl rfl) rfl rfl rfl ?_
  refine WL.qn (y_pick_t rfl rfl) rfl ?_
  exact WL.nil ⟨rfl, [_, _, _, _, _], rfl, rfl, rfl⟩
 ·refine WL.skips 4 rfl ?_
  refine WL.qn (y_pick_f rfl rfl) rfl ?_
  exact WL.nil ⟨rfl, [_, _, _, _, _], rfl, rfl, rfl⟩
 refine WL.mv rfl rfl ?_
 apply WL.and 5 (t := 22) (d := 27)
 ·exact rfl
 ·intro hg22
  refine WL.qy (y_fieldAddrc f40_2 rfl) rfl rfl rfl ?_
  refine WL.qy (y_loadc rfl a2 rfl) rfl rfl rfl ?_
  refine WL.qy (y_move rfl) rfl rfl rfl ?_
  refine WL.qy (y_leq rfl rfl) rfl rfl rfl ?_
  refine WL.qn (y_pick_t rfl rfl) rfl ?_
  exact WL.nil ⟨rfl, [_, _, _, _, _], rfl, rfl, rfl⟩
 ·refine WL.skips 4 rfl ?_
  refine WL.qn (y_pick_f rfl rfl) rfl ?_
  exact WL.nil ⟨rfl, [_, _, _, _, _], rfl, rfl, rfl⟩
 refine WL.as rfl rfl ?_
 refine WL.ns ?_
 refine wc_ret ?_
 subst h
 exact we_ret_fn (rs1 rfl (rv_t rfl)) (Le.refl _)

theorem f96_c (c0 : Int) : Pu Tryd.prog 96 [.i .u8 c0] (.b (f96 c0)) := by
 generalize h : f96 c0 = r
 unfold f96 at h
 refine fn_intro Tryd.func96 (by kernel_rfl) rfl rfl rfl (fun φφ ww => ?_)
 refine wc_sr ?_
 refine WL.as rfl rfl ?_
 refine WL.ns ?_
 refine wc_sr ?_
 refine WL.mv rfl rfl ?_
 refine WL.qn (y_or rfl rfl rfl) rfl ?_
 refine WL.qn (y_geq rfl rfl) rfl ?_
 refine WL.mv rfl rfl ?_
 apply WL.and 4 (t := 6) (d := 10)
 ·exact rfl
 ·intro hg6
  refine WL.qy (y_move rfl) rfl rfl rfl ?_
  refine WL.qy (y_or rfl rfl rfl) rfl rfl rfl ?_
  refine WL.qy (y_leq rfl rfl) rfl rfl rfl ?_
  refine WL.qn (y_pick_t rfl rfl) rfl ?_
  exact WL.nil ⟨rfl, [_, _, _, _], rfl, rfl, rfl⟩
 ·refine WL.skips 3 rfl ?_
  refine WL.qn (y_pick_f rfl rfl) rfl ?_
  exact WL.nil ⟨rfl, [_, _, _, _], rfl, rfl, rfl⟩
 refine WL.as rfl rfl ?_
 refine WL.ns ?_
 refine wc_ret ?_
 subst h
 exact we_ret_fn (rs1 rfl (rv_t rfl)) (Le.refl _)

theorem f109_c (c0 : Int) : Pu Tryd.prog 109 [.i .u8 c0] (.b (f109 c0)) := by
 generalize h : f109 c0 = r
 unfold f109 at h
 refine fn_intro Tryd.func109 (by kernel_rfl) rfl rfl rfl (fun φφ ww => ?_)
 refine wc_sr ?_
 refine WL.as rfl rfl ?_
 refine WL.ns ?_
 refine wc_sr ?_
 refine WL.mv rfl rfl ?_
 refine WL.qn (y_geq rfl rfl) rfl ?_
 refine WL.mv rfl rfl ?_
 apply WL.and 3 (t := 5) (d := 8)
 ·exact rfl
 ·intro hg5
  refine WL.qy (y_move rfl) rfl rfl rfl ?_
  refine WL.qy (y_leq rfl rfl) rfl rfl rfl ?_
  refine WL.qn (y_pick_t rfl rfl) rfl ?_
  exact WL.nil ⟨rfl, [_, _, _], rfl, rfl, rfl⟩
 ·refine WL.skips 2 rfl ?_
  refine WL.qn (y_pick_f rfl rfl) rfl ?_
  exact WL.nil ⟨rfl, [_, _, _], rfl, rfl, rfl⟩
 refine WL.as rfl rfl ?_
 refine WL.ns ?_
 refine wc_ret ?_
 subst h
 exact we_ret_fn (rs1 rfl (rv_t rfl)) (Le.refl _)

theorem f111_c  {r : List ByteArray} (h : f111  = some r) : Pu Tryd.prog 111 [] (.sl (List.map E9 r)) := by
 unfold f111 at h
 refine fn_intro Tryd.func111 (by kernel_rfl) rfl rfl rfl (fun φφ ww => ?_)
 refine wc_sr ?_
 refine WL.as rfl rfl ?_
 refine WL.ns ?_
 refine wc_sr ?_
 obtain ⟨r3, hr3, h⟩ := bindS h
 refine WL.fn rfl rfl rfl rfl (f116_c _ hr3) ⟨(Le.refl _), trivial⟩ (Wt.none rfl) rfl rfl ?_
 refine WL.as rfl rfl ?_
 refine WL.ns ?_
 refine wc_ret ?_
 obtain rfl := Option.some.inj h
 exact we_ret_fn (rs1 rfl (rv_t rfl)) (Le.refl _)

theorem f101_c (t0 : View) (sub1 : Int) {r : Bool} (h : f101 t0 sub1 = some r) : Pu Tryd.prog 101 [.ag (R61 t0), .i .i64 sub1] (.b r) := by
 unfold f101 at h
 refine fn_intro Tryd.func101 (by kernel_rfl) rfl rfl rfl (fun φφ ww => ?_)
 refine wc_sr ?_
 refine WL.s ((b_boxd rfl rfl (Les.refl _)).does) (Wt.none rfl) rfl rfl ?_
 refine WL.as rfl rfl ?_
 refine WL.ns ?_
 refine wc_sr ?_
 refine WL.qn (y_loadcN rfl a61 s61 rfl) rfl ?_
 refine WL.mv rfl rfl ?_
 obtain ⟨r30, hr30, h⟩ := bindS h
 refine WL.fn rfl rfl rfl rfl (f43_c _ _ hr30) ⟨(Le.refl _), (Le.refl _), trivial⟩ (Wt.none rfl) rfl rfl ?_
 refine WL.mv rfl rfl ?_
 refine WL.qn (y_extractd rfl rfl) rfl ?_
 refine WL.qn (y_extractd rfl rfl) rfl ?_
 refine WL.qn (y_extractd rfl rfl) rfl ?_
 refine WL.as rfl rfl ?_
 refine WL.as rfl rfl ?_
 refine WL.as rfl rfl ?_
 refine WL.ns ?_
 refine wc_sr ?_
 refine WL.mv rfl rfl ?_
 refine WL.mv rfl rfl ?_
 apply WL.and 4 (t := 16) (d := 20)
 ·exact rfl
 ·intro hg16
  refine WL.qy (y_move rfl) rfl rfl rfl ?_
  refine WL.qy (y_move rfl) rfl rfl rfl ?_
  refine WL.qy (y_leq rfl rfl) rfl rfl rfl ?_
  refine WL.qn (y_pick_t rfl rfl) rfl ?_
  exact WL.nil ⟨rfl, [_, _, _, _], rfl, rfl, rfl⟩
 ·refine WL.skips 3 rfl ?_
  refine WL.qn (y_pick_f rfl rfl) rfl ?_
  exact WL.nil ⟨rfl, [_, _, _, _], rfl, rfl, rfl⟩
 refine WL.mv rfl rfl ?_
 obtain ⟨b31, hb31, h⟩ := bindS h
 apply WL.grp 5 (t := 21) (d := 26) (z := b31)
 ·exact rfl
 ·intro hg21
  have h := condT hb31 hg21
  refine WL.skips 4 rfl ?_
  refine WL.qn (y_pick_t rfl rfl) rfl ?_
  obtain rfl := Option.some.inj h
  exact WL.nil ⟨rfl, [_, _, _, _, _], rfl, rfl, rfl⟩
 ·intro hg21
  have h := condF hb31 hg21
  refine WL.qy (y_loadcN rfl a61 s61 rfl) rfl rfl rfl ?_
  refine WL.qy (y_move rfl) rfl rfl rfl ?_
  obtain ⟨r32, hr32, h⟩ := bindS h
  refine WL.fn rfl rfl rfl rfl (f64_c _ _ hr32) ⟨(Le.refl _), (Le.refl _), trivial⟩ (Wt.yes rfl rfl rfl) rfl rfl ?_
  refine WL.qy (y_eql rfl rfl) rfl rfl rfl ?_
  refine WL.qn (y_pick_f rfl rfl) rfl ?_
  obtain rfl := Option.some.inj h
  exact WL.nil ⟨rfl, [_, _, _, _, _], rfl, rfl, rfl⟩
 refine WL.as rfl rfl ?_
 refine WL.ns ?_
 refine wc_ret ?_
 obtain rfl := Option.some.inj h
 exact we_ret_fn (rs1 rfl (rv_t rfl)) (Le.refl _)

theorem f25_c (t0 : Table) (sub1 : Int) {r : Int × Int × Bool} (h : f25 t0 sub1 = some r) : Pu Tryd.prog 25 [.ag (R28 t0), .i .i64 sub1] (.tu [.i .i64 r.1, .i .i64 r.2.1, .b r.2.2]) := by
 unfold f25 at h
 refine fn_intro Tryd.func25 (by kernel_rfl) rfl rfl rfl (fun φφ ww => ?_)
 refine wc_sr ?_
 refine WL.s ((b_boxd rfl rfl (Les.refl _)).does) (Wt.none rfl) rfl rfl ?_
 refine WL.as rfl rfl ?_
 refine WL.as rfl rfl ?_
 refine WL.as rfl rfl ?_
 refine WL.ns ?_
 refine wc_sr ?_
 refine WL.qn (y_loadcN rfl a28 s28 rfl) rfl ?_
 refine WL.qn (y_build p61 z61 rfl rfl) rfl ?_
 refine WL.mv rfl rfl ?_
 obtain ⟨r17, hr17, h⟩ := bindS h
 refine WL.fn rfl rfl rfl rfl (f43_c _ _ hr17) ⟨(Le.agd ⟨(Le.refl _), (Le.refl _), (Le.refl _), (Le.refl _), (Le.refl _), trivial⟩), (Le.refl _), trivial⟩ (Wt.none rfl) rfl rfl ?_
 refine WL.qn (y_extractd rfl rfl) rfl ?_
 refine WL.qn (y_extractd rfl rfl) rfl ?_
 refine WL.qn (y_extractd rfl rfl) rfl ?_
 refine WL.as rfl rfl ?_
 refine WL.as rfl rfl ?_
 refine WL.as rfl rfl ?_
 refine WL.ns ?_
 refine wc_ret ?_
 obtain rfl := Option.some.inj h
 exact we_ret_fn (rs3 rfl (rv_t rfl) (rv_t rfl) (rv_t rfl)) (Le.tud ⟨(Le.refl _), (Le.refl _), (Le.refl _), trivial⟩)

theorem f57_c (l0 : List Int) (i1 : Int) {r : Int × Bool} (h : f57 l0 i1 = some r) : Pu Tryd.prog 57 [.sl (List.map E3 l0), .i .i64 i1] (.tu [.i .i64 r.1, .b r.2]) := by
 unfold f57 at h
 refine fn_intro Tryd.func57 (by kernel_rfl) rfl rfl rfl (fun φφ ww => ?_)
 refine wc_sr ?_
 refine WL.as rfl rfl ?_
 refine WL.as rfl rfl ?_
 refine WL.ns ?_
 refine wc_seq ?_
 refine wc_sr ?_
 refine WL.mv rfl rfl ?_
 refine WL.qn (y_lss rfl rfl) rfl ?_
 refine WL.mv rfl rfl ?_
 apply WL.or 5 (t := 8) (d := 13)
 ·exact rfl
 ·intro hg8
  refine WL.qy (y_move rfl) rfl rfl rfl ?_
  refine WL.qy (y_move rfl) rfl rfl rfl ?_
  refine WL.qy (y_len_map E3 l0 e82 rfl rfl (Le.refl _)) rfl rfl rfl ?_
  refine WL.qy (y_geq rfl rfl) rfl rfl rfl ?_
  refine WL.qn (y_pick_f rfl rfl) rfl ?_
  exact WL.nil ⟨rfl, [_, _, _, _, _], rfl, rfl, rfl⟩
 ·refine WL.skips 4 rfl ?_
  refine WL.qn (y_pick_t rfl rfl) rfl ?_
  exact WL.nil ⟨rfl, [_, _, _, _, _], rfl, rfl, rfl⟩
 refine WL.ns ?_
 refine wc_cond rfl (fun hc1 => ?_) (fun hc1 => ?_)
 ·replace h := condT h hc1
  refine wc_sr ?_
  refine WL.mv rfl rfl ?_
  refine WL.as rfl rfl ?_
  refine WL.as rfl rfl ?_
  refine WL.ns ?_
  refine wc_ret ?_
  refine we_seq_ret ?_
  obtain rfl := Option.some.inj h
  exact we_ret_fn (rs2 rfl (rv_t rfl) (rv_t rfl)) (Le.tud ⟨(Le.refl _), (Le.refl _), trivial⟩)
 ·replace h := condF h hc1
  refine wc_skip ?_
  refine we_seq ?_
  refine wc_sr ?_
  refine WL.mv rfl rfl ?_
  refine WL.mv rfl rfl ?_
  obtain ⟨x22, hx22, h⟩ := bindS h
  refine WL.qn (y_indexAddr e82 rfl (Le.refl _) rfl (idx_nonneg hx22) (idx_row E3_eq hx22) rfl) rfl ?_
  refine WL.qn (y_loadc rfl a3 rfl) rfl ?_
  refine WL.as rfl rfl ?_
  refine WL.as rfl rfl ?_
  refine WL.ns ?_
  refine wc_ret ?_
  obtain rfl := Option.some.inj h
  exact we_ret_fn (rs2 rfl (rv_t rfl) (rv_t rfl)) (Le.tud ⟨(Le.refl _), (Le.refl _), trivial⟩)

theorem f27_c (t0 : Table) (sub1 : Int) (slot2 : Int) {r : Int × Bool} (h : f27 t0 sub1 slot2 = some r) : Pu Tryd.prog 27 [.ag (R28 t0), .i .i64 sub1, .i .i64 slot2] (.tu [.i .i64 r.1, .b r.2]) := by
 unfold f27 at h
 refine fn_intro Tryd.func27 (by kernel_rfl) rfl rfl rfl (fun φφ ww => ?_)
 refine wc_sr ?_
 refine WL.s ((b_boxd rfl rfl (Les.refl _)).does) (Wt.none rfl) rfl rfl ?_
 refine WL.as rfl rfl ?_
 refine WL.as rfl rfl ?_
 refine WL.ns ?_
 refine wc_sr ?_
 refine WL.qn (y_loadcN rfl a28 s28 rfl) rfl ?_
 refine WL.qn (y_build p61 z61 rfl rfl) rfl ?_
 refine WL.mv rfl rfl ?_
 obtain ⟨r20, hr20, h⟩ := bindS h
 refine WL.fn rfl rfl rfl rfl (f58_c _ _ hr20) ⟨(Le.agd ⟨(Le.refl _), (Le.refl _), (Le.refl _), (Le.refl _), (Le.refl _), trivial⟩), (Le.refl _), trivial⟩ (Wt.none rfl) rfl rfl ?_
 refine WL.mv rfl rfl ?_
 obtain ⟨r21, hr21, h⟩ := bindS h
 refine WL.fn rfl rfl rfl rfl (f57_c _ _ hr21) ⟨(Le.refl _), (Le.refl _), trivial⟩ (Wt.none rfl) rfl rfl ?_
 refine WL.qn (y_extractd rfl rfl) rfl ?_
 refine WL.qn (y_extractd rfl rfl) rfl ?_
 refine WL.as rfl rfl ?_
 refine WL.as rfl rfl ?_
 refine WL.ns ?_
 refine wc_ret ?_
 obtain rfl := Option.some.inj h
 exact we_ret_fn (rs2 rfl (rv_t rfl) (rv_t rfl)) (Le.tud ⟨(Le.refl _), (Le.refl _), trivial⟩)
theorem f66_c (y0 : Ty) : Pu Tryd.prog 66 [.ag (R54 y0)] (.b (f66 y0)) := by
 generalize h : f66 y0 = r
 unfold f66 at h
 refine fn_intro Tryd.func66 (by kernel_rfl) rfl rfl rfl (fun φφ ww => ?_)
 refine wc_sr ?_
 refine WL.s ((b_boxd rfl rfl (Les.refl _)).does) (Wt.none rfl) rfl rfl ?_
 refine WL.as rfl rfl ?_
 refine WL.ns ?_
 refine wc_sr ?_
 refine WL.qn (y_loadcN rfl a54 s54 rfl) rfl ?_
 refine WL.fn rfl rfl rfl rfl (f79_c _) ⟨(Le.refl _), trivial⟩ (Wt.none rfl) rfl rfl ?_
 refine WL.s ((b_alloc z54).does) (Wt.none rfl) rfl rfl ?_
 refine WL.s0 (d_store rfl rfl rfl rfl rfl rfl s54 rfl rfl) (Wt.none rfl) rfl ?_
 refine WL.st (st' := [.row 54 [.d (D.i .u8 ((f79 y0).kind)), .d (D.s ((f79 y0).name)), .d (D.i .i64 ((f79 y0).parent)), .d (D.i .i64 ((f79 y0).first)), .d (.sl (List.map E9 ((f79 y0).lits))), .d (D.i .i64 ((f79 y0).index)), .d (D.i .i64 ((f79 y0).elem)), .d (D.i .i64 ((f79 y0).disc)), .d (D.s ((f79 y0).discName)), .d (D.b ((f79 y0).has)), .d (D.i .i64 ((f79 y0).default_)), .d (.sl (List.map E56 ((f79 y0).comps))), .d (D.i .i64 ((f79 y0).target)), .d (D.i .u8 ((f79 y0).formal)), .d (D.b ((f79 y0).limited)), .d (D.i .i64 ((f79 y0).priv)), .d (D.i .i64 ((f79 y0).full)), .d (D.i .i64 ((f79 y0).level))]]) rfl ?_
 refine WL.ns ?_
 refine wc_seq ?_
 refine wc_region_draw (by kernel_rfl) (by kernel_rfl) ?_
 refine WQ.qn (y_fieldAddrc f54_4 rfl) rfl ?_
 refine WQ.qn (y_loadc rfl a50 rfl) rfl ?_
 refine WQ.qn (y_len_map E9 y0.lits e50 rfl rfl (Le.refl _)) rfl ?_
 refine WQ.qn (y_gtr rfl rfl) rfl ?_
 refine WQ.qn (y_fieldAddrc f54_11 rfl) rfl ?_
 refine WQ.qn (y_loadc rfl a51 rfl) rfl ?_
 refine WQ.qn (y_len_map E56 y0.comps e51 rfl rfl (Le.refl _)) rfl ?_
 refine WQ.qn (y_gtr rfl rfl) rfl ?_
 refine WQ.qn (y_assign rfl) rfl ?_
 refine WQ.qn (y_assign rfl) rfl ?_
 refine WQ.nil ?_
 refine we_seq ?_
 replace h := letkS h
 obtain ⟨k150, hk150, h⟩ := h
 refine wc_cut (fun env' st' => ∃ (lits139 : Bool), ∃ (comps140 : Bool), ∃ (c02141 : Int), ∃ (c05142 : Int), ∃ (c06143 : Int), ∃ (c07144 : Int), ∃ (c08145 : ByteArray), ∃ (c09146 : Bool), ∃ (c010147 : Int), ∃ (c012148 : Int), ∃ (c013149 : Int), k150 lits139 comps140 c02141 c05142 c06143 c07144 c08145 c09146 c010147 c012148 c013149 = r ∧ Sub [(1, .d (.pc (R54 y0))), (3, .pt 0 0), (4, .d (D.b lits139)), (5, .d (D.b comps140))] env' ∧ SLe st' [.row 54 [.d (D.i .u8 ((f79 y0).kind)), .d (D.s ((f79 y0).name)), .d (D.i .i64 c02141), .d (D.i .i64 ((f79 y0).first)), .d (.sl (List.map E9 ((f79 y0).lits))), .d (D.i .i64 c05142), .d (D.i .i64 c06143), .d (D.i .i64 c07144), .d (D.s c08145), .d (D.b c09146), .d (D.i .i64 c010147), .d (.sl (List.map E56 ((f79 y0).comps))), .d (D.i .i64 c012148), .d (D.i .u8 c013149), .d (D.b ((f79 y0).limited)), .d (D.i .i64 ((f79 y0).priv)), .d (D.i .i64 ((f79 y0).full)), .d (D.i .i64 ((f79 y0).level))]]) ?_ ?_
 ·refine wc_sr ?_
  refine WL.qn (y_fieldAddrc f54_0 rfl) rfl ?_
  refine WL.qn (y_loadc rfl a49 rfl) rfl ?_
  refine WL.ns ?_
  refine wc_block ?_
  refine wc_sr ?_
  refine WL.qn (y_eql rfl rfl) rfl ?_
  refine WL.as rfl rfl ?_
  refine WL.ns ?_
  refine wc_cond rfl (fun hc1 => ?_) (fun hc1 => ?_)
  ·replace h := condT h hc1
   apply wc_region_all [_, _, _, _, _, .u, _, .u] [[], [0], [], [2], [0, 1], [0, 1, 4], [0, 1, 2, 3, 4, 5], [0, 1, 2, 3, 4, 5, 6]] [5, 7] (fun c => List.getD [[.row 54 [.d (D.i .u8 ((f79 y0).kind)), .d (D.s ((f79 y0).name)), .d (D.i .i64 ((f79 y0).parent)), .d (D.i .i64 ((f79 y0).first)), .d (.sl (List.map E9 ((f79 y0).lits))), .d (D.i .i64 ((f79 y0).index)), .d (D.i .i64 ((f79 y0).elem)), .d (D.i .i64 ((f79 y0).disc)), .d (D.s ((f79 y0).discName)), .d (D.b ((f79 y0).has)), .d (D.i .i64 ((f79 y0).default_)), .d (.sl (List.map E56 ((f79 y0).comps))), .d (D.i .i64 ((f79 y0).target)), .d (D.i .u8 ((f79 y0).formal)), .d (D.b ((f79 y0).limited)), .d (D.i .i64 ((f79 y0).priv)), .d (D.i .i64 ((f79 y0).full)), .d (D.i .i64 ((f79 y0).level))]], [.row 54 [.d (D.i .u8 ((f79 y0).kind)), .d (D.s ((f79 y0).name)), .d (D.i .i64 y0.parent), .d (D.i .i64 ((f79 y0).first)), .d (.sl (List.map E9 ((f79 y0).lits))), .d (D.i .i64 ((f79 y0).index)), .d (D.i .i64 ((f79 y0).elem)), .d (D.i .i64 ((f79 y0).disc)), .d (D.s ((f79 y0).discName)), .d (D.b ((f79 y0).has)), .d (D.i .i64 ((f79 y0).default_)), .d (.sl (List.map E56 ((f79 y0).comps))), .d (D.i .i64 ((f79 y0).target)), .d (D.i .u8 ((f79 y0).formal)), .d (D.b ((f79 y0).limited)), .d (D.i .i64 ((f79 y0).priv)), .d (D.i .i64 ((f79 y0).full)), .d (D.i .i64 ((f79 y0).level))]], [.row 54 [.d (D.i .u8 ((f79 y0).kind)), .d (D.s ((f79 y0).name)), .d (D.i .i64 y0.parent), .d (D.i .i64 ((f79 y0).first)), .d (.sl (List.map E9 ((f79 y0).lits))), .d (D.i .i64 ((f79 y0).index)), .d (D.i .i64 ((f79 y0).elem)), .d (D.i .i64 ((f79 y0).disc)), .d (D.s ((f79 y0).discName)), .d (D.b ((f79 y0).has)), .d (D.i .i64 ((f79 y0).default_)), .d (.sl (List.map E56 ((f79 y0).comps))), .d (D.i .i64 ((f79 y0).target)), .d (D.i .u8 y0.formal), .d (D.b ((f79 y0).limited)), .d (D.i .i64 ((f79 y0).priv)), .d (D.i .i64 ((f79 y0).full)), .d (D.i .i64 ((f79 y0).level))]]] c []) [([], [1], [0]), ([0], [], [0]), ([], [1], [0, 1]), ([2], [], [0, 1]), ([], [3], [0]), ([4, 1], [], [0]), ([], [3], [1]), ([6, 3], [], [1])] (by kernel_rfl) (by kernel_rfl) rfl rfl rfl
   ·refine ⟨?_, ?_, ?_, ?_, ?_, ?_, ?_, ?_, trivial⟩
    ·refine ⟨fun F => ?_, trivial⟩
     refine WL.qn (y_fieldAddrc f54_2 rfl) rfl ?_
     exact WL.done1 rfl rfl rfl
    ·refine ⟨fun F => ?_, trivial⟩
     refine WL.qn (y_loadc rfl a3 rfl) rfl ?_
     exact WL.done1 rfl rfl rfl
    ·refine ⟨fun F => ?_, fun F => ?_, trivial⟩
     ·refine WL.qn (y_fieldAddrc f54_13 rfl) rfl ?_
      exact WL.done1 rfl rfl rfl
     ·refine WL.qn (y_fieldAddrc f54_13 rfl) rfl ?_
      exact WL.done1 rfl rfl rfl
    ·refine ⟨fun F => ?_, fun F => ?_, trivial⟩
     ·refine WL.qn (y_loadc rfl a52 rfl) rfl ?_
      exact WL.done1 rfl rfl rfl
     ·refine WL.qn (y_loadc rfl a52 rfl) rfl ?_
      exact WL.done1 rfl rfl rfl
    ·refine ⟨fun F => ?_, trivial⟩
     refine WL.qn (y_fieldAddr f54_2 rfl) rfl ?_
     exact WL.done1 rfl rfl rfl
    ·refine ⟨fun F => ?_, trivial⟩
     refine WL.s0 (d_store rfl rfl rfl rfl rfl rfl s3 rfl rfl) (Wt.none rfl) rfl ?_
     exact WL.done0 rfl rfl
    ·refine ⟨fun F => ?_, trivial⟩
     refine WL.qn (y_fieldAddr f54_13 rfl) rfl ?_
     exact WL.done1 rfl rfl rfl
    ·refine ⟨fun F => ?_, trivial⟩
     refine WL.s0 (d_store rfl rfl rfl rfl rfl rfl s52 rfl rfl) (Wt.none rfl) rfl ?_
     exact WL.done0 rfl rfl
   ·refine we_blk ?_
    exact we_lp ⟨(decide ((List.length y0.lits : Int) > 0)), (decide ((List.length y0.comps : Int) > 0)), y0.parent, ((f79 y0).index), ((f79 y0).elem), ((f79 y0).disc), ((f79 y0).discName), ((f79 y0).has), ((f79 y0).default_), ((f79 y0).target), y0.formal, h, (Sub.cons rfl (Le.refl _) (Sub.cons rfl (Le.refl _) (Sub.cons rfl (Le.refl _) (Sub.cons rfl (Le.refl _) (Sub.nil _))))), ⟨⟨rfl, ⟨(Le.refl _), (Le.refl _), (Le.refl _), (Le.refl _), (Le.refl _), (Le.refl _), (Le.refl _), (Le.refl _), (Le.refl _), (Le.refl _), (Le.refl _), (Le.refl _), (Le.refl _), (Le.refl _), (Le.refl _), (Le.refl _), (Le.refl _), (Le.refl _), trivial⟩⟩, trivial⟩⟩
  ·replace h := condF h hc1
   refine wc_sr ?_
   refine WL.qn (y_eql rfl rfl) rfl ?_
   refine WL.as rfl rfl ?_
   refine WL.ns ?_
   refine wc_cond rfl (fun hc2 => ?_) (fun hc2 => ?_)
   ·replace h := condT h hc2
    apply wc_region_all [_, _, _, _, _, .u, _, .u, _] [[], [0], [], [2], [0, 1], [0, 1, 4], [0, 1, 2, 3, 4, 5], [0, 1, 2, 3, 4, 5, 6], [0, 1, 2, 3, 4, 5, 6, 7]] [5, 7] (fun c => List.getD [[.row 54 [.d (D.i .u8 ((f79 y0).kind)), .d (D.s ((f79 y0).name)), .d (D.i .i64 ((f79 y0).parent)), .d (D.i .i64 ((f79 y0).first)), .d (.sl (List.map E9 ((f79 y0).lits))), .d (D.i .i64 ((f79 y0).index)), .d (D.i .i64 ((f79 y0).elem)), .d (D.i .i64 ((f79 y0).disc)), .d (D.s ((f79 y0).discName)), .d (D.b ((f79 y0).has)), .d (D.i .i64 ((f79 y0).default_)), .d (.sl (List.map E56 ((f79 y0).comps))), .d (D.i .i64 ((f79 y0).target)), .d (D.i .u8 ((f79 y0).formal)), .d (D.b ((f79 y0).limited)), .d (D.i .i64 ((f79 y0).priv)), .d (D.i .i64 ((f79 y0).full)), .d (D.i .i64 ((f79 y0).level))]], [.row 54 [.d (D.i .u8 ((f79 y0).kind)), .d (D.s ((f79 y0).name)), .d (D.i .i64 y0.parent), .d (D.i .i64 ((f79 y0).first)), .d (.sl (List.map E9 ((f79 y0).lits))), .d (D.i .i64 ((f79 y0).index)), .d (D.i .i64 ((f79 y0).elem)), .d (D.i .i64 ((f79 y0).disc)), .d (D.s ((f79 y0).discName)), .d (D.b ((f79 y0).has)), .d (D.i .i64 ((f79 y0).default_)), .d (.sl (List.map E56 ((f79 y0).comps))), .d (D.i .i64 ((f79 y0).target)), .d (D.i .u8 ((f79 y0).formal)), .d (D.b ((f79 y0).limited)), .d (D.i .i64 ((f79 y0).priv)), .d (D.i .i64 ((f79 y0).full)), .d (D.i .i64 ((f79 y0).level))]], [.row 54 [.d (D.i .u8 ((f79 y0).kind)), .d (D.s ((f79 y0).name)), .d (D.i .i64 y0.parent), .d (D.i .i64 ((f79 y0).first)), .d (.sl (List.map E9 ((f79 y0).lits))), .d (D.i .i64 ((f79 y0).index)), .d (D.i .i64 ((f79 y0).elem)), .d (D.i .i64 ((f79 y0).disc)), .d (D.s ((f79 y0).discName)), .d (D.b ((f79 y0).has)), .d (D.i .i64 ((f79 y0).default_)), .d (.sl (List.map E56 ((f79 y0).comps))), .d (D.i .i64 ((f79 y0).target)), .d (D.i .u8 y0.formal), .d (D.b ((f79 y0).limited)), .d (D.i .i64 ((f79 y0).priv)), .d (D.i .i64 ((f79 y0).full)), .d (D.i .i64 ((f79 y0).level))]]] c []) [([], [1], [0]), ([0], [], [0]), ([], [1], [0, 1]), ([2], [], [0, 1]), ([], [3], [0]), ([4, 1], [], [0]), ([], [3], [1]), ([6, 3], [], [1]), ([], [], [2])] (by kernel_rfl) (by kernel_rfl) rfl rfl rfl
    ·refine ⟨?_, ?_, ?_, ?_, ?_, ?_, ?_, ?_, ?_, trivial⟩
     ·refine ⟨fun F => ?_, trivial⟩
      refine WL.qn (y_fieldAddrc f54_2 rfl) rfl ?_
      exact WL.done1 rfl rfl rfl
     ·refine ⟨fun F => ?_, trivial⟩
      refine WL.qn (y_loadc rfl a3 rfl) rfl ?_
      exact WL.done1 rfl rfl rfl
     ·refine ⟨fun F => ?_, fun F => ?_, trivial⟩
      ·refine WL.qn (y_fieldAddrc f54_13 rfl) rfl ?_
       exact WL.done1 rfl rfl rfl
      ·refine WL.qn (y_fieldAddrc f54_13 rfl) rfl ?_
       exact WL.done1 rfl rfl rfl
     ·refine ⟨fun F => ?_, fun F => ?_, trivial⟩
      ·refine WL.qn (y_loadc rfl a52 rfl) rfl ?_
       exact WL.done1 rfl rfl rfl
      ·refine WL.qn (y_loadc rfl a52 rfl) rfl ?_
       exact WL.done1 rfl rfl rfl
     ·refine ⟨fun F => ?_, trivial⟩
      refine WL.qn (y_fieldAddr f54_2 rfl) rfl ?_
      exact WL.done1 rfl rfl rfl
     ·refine ⟨fun F => ?_, trivial⟩
      refine WL.s0 (d_store rfl rfl rfl rfl rfl rfl s3 rfl rfl) (Wt.none rfl) rfl ?_
      exact WL.done0 rfl rfl
     ·refine ⟨fun F => ?_, trivial⟩
      refine WL.qn (y_fieldAddr f54_13 rfl) rfl ?_
      exact WL.done1 rfl rfl rfl
     ·refine ⟨fun F => ?_, trivial⟩
      refine WL.s0 (d_store rfl rfl rfl rfl rfl rfl s52 rfl rfl) (Wt.none rfl) rfl ?_
      exact WL.done0 rfl rfl
     ·refine ⟨fun F => ?_, trivial⟩
      refine WL.as rfl rfl ?_
      exact WL.done1 rfl rfl rfl
    ·refine we_blk ?_
     exact we_lp ⟨false, (decide ((List.length y0.comps : Int) > 0)), y0.parent, ((f79 y0).index), ((f79 y0).elem), ((f79 y0).disc), ((f79 y0).discName), ((f79 y0).has), ((f79 y0).default_), ((f79 y0).target), y0.formal, h, (Sub.cons rfl (Le.refl _) (Sub.cons rfl (Le.refl _) (Sub.cons rfl (Le.refl _) (Sub.cons rfl (Le.refl _) (Sub.nil _))))), ⟨⟨rfl, ⟨(Le.refl _), (Le.refl _), (Le.refl _), (Le.refl _), (Le.refl _), (Le.refl _), (Le.refl _), (Le.refl _), (Le.refl _), (Le.refl _), (Le.refl _), (Le.refl _), (Le.refl _), (Le.refl _), (Le.refl _), (Le.refl _), (Le.refl _), (Le.refl _), trivial⟩⟩, trivial⟩⟩
   ·replace h := condF h hc2
    refine wc_sr ?_
    refine WL.qn (y_eql rfl rfl) rfl ?_
    refine WL.as rfl rfl ?_
    refine WL.ns ?_
    refine wc_cond rfl (fun hc3 => ?_) (fun hc3 => ?_)
    ·replace h := condT h hc3
     apply wc_region_all [_, _, _, _, _, .u, _, .u] [[], [0], [], [2], [0, 1], [0, 1, 4], [0, 1, 2, 3, 4, 5], [0, 1, 2, 3, 4, 5, 6]] [5, 7] (fun c => List.getD [[.row 54 [.d (D.i .u8 ((f79 y0).kind)), .d (D.s ((f79 y0).name)), .d (D.i .i64 ((f79 y0).parent)), .d (D.i .i64 ((f79 y0).first)), .d (.sl (List.map E9 ((f79 y0).lits))), .d (D.i .i64 ((f79 y0).index)), .d (D.i .i64 ((f79 y0).elem)), .d (D.i .i64 ((f79 y0).disc)), .d (D.s ((f79 y0).discName)), .d (D.b ((f79 y0).has)), .d (D.i .i64 ((f79 y0).default_)), .d (.sl (List.map E56 ((f79 y0).comps))), .d (D.i .i64 ((f79 y0).target)), .d (D.i .u8 ((f79 y0).formal)), .d (D.b ((f79 y0).limited)), .d (D.i .i64 ((f79 y0).priv)), .d (D.i .i64 ((f79 y0).full)), .d (D.i .i64 ((f79 y0).level))]], [.row 54 [.d (D.i .u8 ((f79 y0).kind)), .d (D.s ((f79 y0).name)), .d (D.i .i64 ((f79 y0).parent)), .d (D.i .i64 ((f79 y0).first)), .d (.sl (List.map E9 ((f79 y0).lits))), .d (D.i .i64 y0.index), .d (D.i .i64 ((f79 y0).elem)), .d (D.i .i64 ((f79 y0).disc)), .d (D.s ((f79 y0).discName)), .d (D.b ((f79 y0).has)), .d (D.i .i64 ((f79 y0).default_)), .d (.sl (List.map E56 ((f79 y0).comps))), .d (D.i .i64 ((f79 y0).target)), .d (D.i .u8 ((f79 y0).formal)), .d (D.b ((f79 y0).limited)), .d (D.i .i64 ((f79 y0).priv)), .d (D.i .i64 ((f79 y0).full)), .d (D.i .i64 ((f79 y0).level))]], [.row 54 [.d (D.i .u8 ((f79 y0).kind)), .d (D.s ((f79 y0).name)), .d (D.i .i64 ((f79 y0).parent)), .d (D.i .i64 ((f79 y0).first)), .d (.sl (List.map E9 ((f79 y0).lits))), .d (D.i .i64 y0.index), .d (D.i .i64 y0.elem), .d (D.i .i64 ((f79 y0).disc)), .d (D.s ((f79 y0).discName)), .d (D.b ((f79 y0).has)), .d (D.i .i64 ((f79 y0).default_)), .d (.sl (List.map E56 ((f79 y0).comps))), .d (D.i .i64 ((f79 y0).target)), .d (D.i .u8 ((f79 y0).formal)), .d (D.b ((f79 y0).limited)), .d (D.i .i64 ((f79 y0).priv)), .d (D.i .i64 ((f79 y0).full)), .d (D.i .i64 ((f79 y0).level))]]] c []) [([], [1], [0]), ([0], [], [0]), ([], [1], [0, 1]), ([2], [], [0, 1]), ([], [3], [0]), ([4, 1], [], [0]), ([], [3], [1]), ([6, 3], [], [1])] (by kernel_rfl) (by kernel_rfl) rfl rfl rfl
     ·refine ⟨?_, ?_, ?_, ?_, ?_, ?_, ?_, ?_, trivial⟩
      ·refine ⟨fun F => ?_, trivial⟩
       refine WL.qn (y_fieldAddrc f54_5 rfl) rfl ?_
       exact WL.done1 rfl rfl rfl
      ·refine ⟨fun F => ?_, trivial⟩
       refine WL.qn (y_loadc rfl a3 rfl) rfl ?_
       exact WL.done1 rfl rfl rfl
      ·refine ⟨fun F => ?_, fun F => ?_, trivial⟩
       ·refine WL.qn (y_fieldAddrc f54_6 rfl) rfl ?_
        exact WL.done1 rfl rfl rfl
       ·refine WL.qn (y_fieldAddrc f54_6 rfl) rfl ?_
        exact WL.done1 rfl rfl rfl
      ·refine ⟨fun F => ?_, fun F => ?_, trivial⟩
       ·refine WL.qn (y_loadc rfl a3 rfl) rfl ?_
        exact WL.done1 rfl rfl rfl
       ·refine WL.qn (y_loadc rfl a3 rfl) rfl ?_
        exact WL.done1 rfl rfl rfl
      ·refine ⟨fun F => ?_, trivial⟩
       refine WL.qn (y_fieldAddr f54_5 rfl) rfl ?_
       exact WL.done1 rfl rfl rfl
      ·refine ⟨fun F => ?_, trivial⟩
       refine WL.s0 (d_store rfl rfl rfl rfl rfl rfl s3 rfl rfl) (Wt.none rfl) rfl ?_
       exact WL.done0 rfl rfl
      ·refine ⟨fun F => ?_, trivial⟩
       refine WL.qn (y_fieldAddr f54_6 rfl) rfl ?_
       exact WL.done1 rfl rfl rfl
      ·refine ⟨fun F => ?_, trivial⟩
       refine WL.s0 (d_store rfl rfl rfl rfl rfl rfl s3 rfl rfl) (Wt.none rfl) rfl ?_
       exact WL.done0 rfl rfl
     ·refine we_blk ?_
      exact we_lp ⟨(decide ((List.length y0.lits : Int) > 0)), (decide ((List.length y0.comps : Int) > 0)), ((f79 y0).parent), y0.index, y0.elem, ((f79 y0).disc), ((f79 y0).discName), ((f79 y0).has), ((f79 y0).default_), ((f79 y0).target), ((f79 y0).formal), h, (Sub.cons rfl (Le.refl _) (Sub.cons rfl (Le.refl _) (Sub.cons rfl (Le.refl _) (Sub.cons rfl (Le.refl _) (Sub.nil _))))), ⟨⟨rfl, ⟨(Le.refl _), (Le.refl _), (Le.refl _), (Le.refl _), (Le.refl _), (Le.refl _), (Le.refl _), (Le.refl _), (Le.refl _), (Le.refl _), (Le.refl _), (Le.refl _), (Le.refl _), (Le.refl _), (Le.refl _), (Le.refl _), (Le.refl _), (Le.refl _), trivial⟩⟩, trivial⟩⟩
    ·replace h := condF h hc3
     refine wc_sr ?_
     refine WL.qn (y_eql rfl rfl) rfl ?_
     refine WL.as rfl rfl ?_
     refine WL.ns ?_
     refine wc_cond rfl (fun hc4 => ?_) (fun hc4 => ?_)
     ·replace h := condT h hc4
      apply wc_region_all [_, _, _, _, _, _, _, _, _, .u, _, .u, _, .u, _, .u, _] [[], [0], [], [2], [], [4], [], [6], [0, 1], [0, 1, 8], [0, 1, 2, 3, 8, 9], [0, 1, 2, 3, 8, 9, 10], [0, 1, 2, 3, 4, 5, 8, 9, 10, 11], [0, 1, 2, 3, 4, 5, 8, 9, 10, 11, 12], [0, 1, 2, 3, 4, 5, 6, 7, 8, 9, 10, 11, 12, 13], [0, 1, 2, 3, 4, 5, 6, 7, 8, 9, 10, 11, 12, 13, 14], [0, 1, 2, 3, 4, 5, 6, 7, 8, 9, 10, 11, 12, 13, 14, 15]] [9, 11, 13, 15] (fun c => List.getD [[.row 54 [.d (D.i .u8 ((f79 y0).kind)), .d (D.s ((f79 y0).name)), .d (D.i .i64 ((f79 y0).parent)), .d (D.i .i64 ((f79 y0).first)), .d (.sl (List.map E9 ((f79 y0).lits))), .d (D.i .i64 ((f79 y0).index)), .d (D.i .i64 ((f79 y0).elem)), .d (D.i .i64 ((f79 y0).disc)), .d (D.s ((f79 y0).discName)), .d (D.b ((f79 y0).has)), .d (D.i .i64 ((f79 y0).default_)), .d (.sl (List.map E56 ((f79 y0).comps))), .d (D.i .i64 ((f79 y0).target)), .d (D.i .u8 ((f79 y0).formal)), .d (D.b ((f79 y0).limited)), .d (D.i .i64 ((f79 y0).priv)), .d (D.i .i64 ((f79 y0).full)), .d (D.i .i64 ((f79 y0).level))]], [.row 54 [.d (D.i .u8 ((f79 y0).kind)), .d (D.s ((f79 y0).name)), .d (D.i .i64 ((f79 y0).parent)), .d (D.i .i64 ((f79 y0).first)), .d (.sl (List.map E9 ((f79 y0).lits))), .d (D.i .i64 ((f79 y0).index)), .d (D.i .i64 ((f79 y0).elem)), .d (D.i .i64 y0.disc), .d (D.s ((f79 y0).discName)), .d (D.b ((f79 y0).has)), .d (D.i .i64 ((f79 y0).default_)), .d (.sl (List.map E56 ((f79 y0).comps))), .d (D.i .i64 ((f79 y0).target)), .d (D.i .u8 ((f79 y0).formal)), .d (D.b ((f79 y0).limited)), .d (D.i .i64 ((f79 y0).priv)), .d (D.i .i64 ((f79 y0).full)), .d (D.i .i64 ((f79 y0).level))]], [.row 54 [.d (D.i .u8 ((f79 y0).kind)), .d (D.s ((f79 y0).name)), .d (D.i .i64 ((f79 y0).parent)), .d (D.i .i64 ((f79 y0).first)), .d (.sl (List.map E9 ((f79 y0).lits))), .d (D.i .i64 ((f79 y0).index)), .d (D.i .i64 ((f79 y0).elem)), .d (D.i .i64 y0.disc), .d (D.s y0.discName), .d (D.b ((f79 y0).has)), .d (D.i .i64 ((f79 y0).default_)), .d (.sl (List.map E56 ((f79 y0).comps))), .d (D.i .i64 ((f79 y0).target)), .d (D.i .u8 ((f79 y0).formal)), .d (D.b ((f79 y0).limited)), .d (D.i .i64 ((f79 y0).priv)), .d (D.i .i64 ((f79 y0).full)), .d (D.i .i64 ((f79 y0).level))]], [.row 54 [.d (D.i .u8 ((f79 y0).kind)), .d (D.s ((f79 y0).name)), .d (D.i .i64 ((f79 y0).parent)), .d (D.i .i64 ((f79 y0).first)), .d (.sl (List.map E9 ((f79 y0).lits))), .d (D.i .i64 ((f79 y0).index)), .d (D.i .i64 ((f79 y0).elem)), .d (D.i .i64 y0.disc), .d (D.s y0.discName), .d (D.b y0.has), .d (D.i .i64 ((f79 y0).default_)), .d (.sl (List.map E56 ((f79 y0).comps))), .d (D.i .i64 ((f79 y0).target)), .d (D.i .u8 ((f79 y0).formal)), .d (D.b ((f79 y0).limited)), .d (D.i .i64 ((f79 y0).priv)), .d (D.i .i64 ((f79 y0).full)), .d (D.i .i64 ((f79 y0).level))]], [.row 54 [.d (D.i .u8 ((f79 y0).kind)), .d (D.s ((f79 y0).name)), .d (D.i .i64 ((f79 y0).parent)), .d (D.i .i64 ((f79 y0).first)), .d (.sl (List.map E9 ((f79 y0).lits))), .d (D.i .i64 ((f79 y0).index)), .d (D.i .i64 ((f79 y0).elem)), .d (D.i .i64 y0.disc), .d (D.s y0.discName), .d (D.b y0.has), .d (D.i .i64 y0.default_), .d (.sl (List.map E56 ((f79 y0).comps))), .d (D.i .i64 ((f79 y0).target)), .d (D.i .u8 ((f79 y0).formal)), .d (D.b ((f79 y0).limited)), .d (D.i .i64 ((f79 y0).priv)), .d (D.i .i64 ((f79 y0).full)), .d (D.i .i64 ((f79 y0).level))]]] c []) [([], [1], [0]), ([0], [], [0]), ([], [1], [0, 1]), ([2], [], [0, 1]), ([], [1], [0, 1, 2]), ([4], [], [0, 1, 2]), ([], [1], [0, 1, 2, 3]), ([6], [], [0, 1, 2, 3]), ([], [3], [0]), ([8, 1], [], [0]), ([], [3], [1]), ([10, 3], [], [1]), ([], [3], [2]), ([12, 5], [], [2]), ([], [3], [3]), ([14, 7], [], [3]), ([], [], [4])] (by kernel_rfl) (by kernel_rfl) rfl rfl rfl
      ·refine ⟨?_, ?_, ?_, ?_, ?_, ?_, ?_, ?_, ?_, ?_, ?_, ?_, ?_, ?_, ?_, ?_, ?_, trivial⟩
       ·refine ⟨fun F => ?_, trivial⟩
        refine WL.qn (y_fieldAddrc f54_7 rfl) rfl ?_
        exact WL.done1 rfl rfl rfl
       ·refine ⟨fun F => ?_, trivial⟩
        refine WL.qn (y_loadc rfl a3 rfl) rfl ?_
        exact WL.done1 rfl rfl rfl
       ·refine ⟨fun F => ?_, fun F => ?_, trivial⟩
        ·refine WL.qn (y_fieldAddrc f54_8 rfl) rfl ?_
         exact WL.done1 rfl rfl rfl
        ·refine WL.qn (y_fieldAddrc f54_8 rfl) rfl ?_
         exact WL.done1 rfl rfl rfl
       ·refine ⟨fun F => ?_, fun F => ?_, trivial⟩
        ·refine WL.qn (y_loadc rfl a9 rfl) rfl ?_
         exact WL.done1 rfl rfl rfl
        ·refine WL.qn (y_loadc rfl a9 rfl) rfl ?_
         exact WL.done1 rfl rfl rfl
       ·refine ⟨fun F => ?_, fun F => ?_, fun F => ?_, trivial⟩
        ·refine WL.qn (y_fieldAddrc f54_9 rfl) rfl ?_
         exact WL.done1 rfl rfl rfl
        ·refine WL.qn (y_fieldAddrc f54_9 rfl) rfl ?_
         exact WL.done1 rfl rfl rfl
        ·refine WL.qn (y_fieldAddrc f54_9 rfl) rfl ?_
         exact WL.done1 rfl rfl rfl
       ·refine ⟨fun F => ?_, fun F => ?_, fun F => ?_, trivial⟩
        ·refine WL.qn (y_loadc rfl a4 rfl) rfl ?_
         exact WL.done1 rfl rfl rfl
        ·refine WL.qn (y_loadc rfl a4 rfl) rfl ?_
         exact WL.done1 rfl rfl rfl
        ·refine WL.qn (y_loadc rfl a4 rfl) rfl ?_
         exact WL.done1 rfl rfl rfl
       ·refine ⟨fun F => ?_, fun F => ?_, fun F => ?_, fun F => ?_, trivial⟩
        ·refine WL.qn (y_fieldAddrc f54_10 rfl) rfl ?_
         exact WL.done1 rfl rfl rfl
        ·refine WL.qn (y_fieldAddrc f54_10 rfl) rfl ?_
         exact WL.done1 rfl rfl rfl
        ·refine WL.qn (y_fieldAddrc f54_10 rfl) rfl ?_
         exact WL.done1 rfl rfl rfl
        ·refine WL.qn (y_fieldAddrc f54_10 rfl) rfl ?_
         exact WL.done1 rfl rfl rfl
       ·refine ⟨fun F => ?_, fun F => ?_, fun F => ?_, fun F => ?_, trivial⟩
        ·refine WL.qn (y_loadc rfl a2 rfl) rfl ?_
         exact WL.done1 rfl rfl rfl
        ·refine WL.qn (y_loadc rfl a2 rfl) rfl ?_
         exact WL.done1 rfl rfl rfl
        ·refine WL.qn (y_loadc rfl a2 rfl) rfl ?_
         exact WL.done1 rfl rfl rfl
        ·refine WL.qn (y_loadc rfl a2 rfl) rfl ?_
         exact WL.done1 rfl rfl rfl
       ·refine ⟨fun F => ?_, trivial⟩
        refine WL.qn (y_fieldAddr f54_7 rfl) rfl ?_
        exact WL.done1 rfl rfl rfl
       ·refine ⟨fun F => ?_, trivial⟩
        refine WL.s0 (d_store rfl rfl rfl rfl rfl rfl s3 rfl rfl) (Wt.none rfl) rfl ?_
        exact WL.done0 rfl rfl
       ·refine ⟨fun F => ?_, trivial⟩
        refine WL.qn (y_fieldAddr f54_8 rfl) rfl ?_
        exact WL.done1 rfl rfl rfl
       ·refine ⟨fun F => ?_, trivial⟩
        refine WL.s0 (d_store rfl rfl rfl rfl rfl rfl s9 rfl rfl) (Wt.none rfl) rfl ?_
        exact WL.done0 rfl rfl
       ·refine ⟨fun F => ?_, trivial⟩
        refine WL.qn (y_fieldAddr f54_9 rfl) rfl ?_
        exact WL.done1 rfl rfl rfl
       ·refine ⟨fun F => ?_, trivial⟩
        refine WL.s0 (d_store rfl rfl rfl rfl rfl rfl s4 rfl rfl) (Wt.none rfl) rfl ?_
        exact WL.done0 rfl rfl
       ·refine ⟨fun F => ?_, trivial⟩
        refine WL.qn (y_fieldAddr f54_10 rfl) rfl ?_
        exact WL.done1 rfl rfl rfl
       ·refine ⟨fun F => ?_, trivial⟩
        refine WL.s0 (d_store rfl rfl rfl rfl rfl rfl s2 rfl rfl) (Wt.none rfl) rfl ?_
        exact WL.done0 rfl rfl
       ·refine ⟨fun F => ?_, trivial⟩
        refine WL.as rfl rfl ?_
        exact WL.done1 rfl rfl rfl
      ·refine we_blk ?_
       exact we_lp ⟨(decide ((List.length y0.lits : Int) > 0)), false, ((f79 y0).parent), ((f79 y0).index), ((f79 y0).elem), y0.disc, y0.discName, y0.has, y0.default_, ((f79 y0).target), ((f79 y0).formal), h, (Sub.cons rfl (Le.refl _) (Sub.cons rfl (Le.refl _) (Sub.cons rfl (Le.refl _) (Sub.cons rfl (Le.refl _) (Sub.nil _))))), ⟨⟨rfl, ⟨(Le.refl _), (Le.refl _), (Le.refl _), (Le.refl _), (Le.refl _), (Le.refl _), (Le.refl _), (Le.refl _), (Le.refl _), (Le.refl _), (Le.refl _), (Le.refl _), (Le.refl _), (Le.refl _), (Le.refl _), (Le.refl _), (Le.refl _), (Le.refl _), trivial⟩⟩, trivial⟩⟩
     ·replace h := condF h hc4
      refine wc_sr ?_
      refine WL.qn (y_eql rfl rfl) rfl ?_
      refine WL.as rfl rfl ?_
      refine WL.ns ?_
      refine wc_cond rfl (fun hc5 => ?_) (fun hc5 => ?_)
      ·replace h := condT h hc5
       refine wc_region ?_
       refine WL.qn (y_fieldAddrc f54_12 rfl) rfl ?_
       refine WL.qn (y_loadc rfl a3 rfl) rfl ?_
       refine WL.qn (y_fieldAddr f54_12 rfl) rfl ?_
       refine WL.s0 (d_store rfl rfl rfl rfl rfl rfl s3 rfl rfl) (Wt.none rfl) rfl ?_
       refine WL.st (st' := [.row 54 [.d (D.i .u8 ((f79 y0).kind)), .d (D.s ((f79 y0).name)), .d (D.i .i64 ((f79 y0).parent)), .d (D.i .i64 ((f79 y0).first)), .d (.sl (List.map E9 ((f79 y0).lits))), .d (D.i .i64 ((f79 y0).index)), .d (D.i .i64 ((f79 y0).elem)), .d (D.i .i64 ((f79 y0).disc)), .d (D.s ((f79 y0).discName)), .d (D.b ((f79 y0).has)), .d (D.i .i64 ((f79 y0).default_)), .d (.sl (List.map E56 ((f79 y0).comps))), .d (D.i .i64 y0.target), .d (D.i .u8 ((f79 y0).formal)), .d (D.b ((f79 y0).limited)), .d (D.i .i64 ((f79 y0).priv)), .d (D.i .i64 ((f79 y0).full)), .d (D.i .i64 ((f79 y0).level))]]) rfl ?_
       refine WL.nil ?_
       refine we_blk ?_
       exact we_lp ⟨(decide ((List.length y0.lits : Int) > 0)), (decide ((List.length y0.comps : Int) > 0)), ((f79 y0).parent), ((f79 y0).index), ((f79 y0).elem), ((f79 y0).disc), ((f79 y0).discName), ((f79 y0).has), ((f79 y0).default_), y0.target, ((f79 y0).formal), h, (Sub.cons rfl (Le.refl _) (Sub.cons rfl (Le.refl _) (Sub.cons rfl (Le.refl _) (Sub.cons rfl (Le.refl _) (Sub.nil _))))), ⟨⟨rfl, ⟨(Le.refl _), (Le.refl _), (Le.refl _), (Le.refl _), (Le.refl _), (Le.refl _), (Le.refl _), (Le.refl _), (Le.refl _), (Le.refl _), (Le.refl _), (Le.refl _), (Le.refl _), (Le.refl _), (Le.refl _), (Le.refl _), (Le.refl _), (Le.refl _), trivial⟩⟩, trivial⟩⟩
      ·replace h := condF h hc5
       refine wc_sr ?_
       refine WL.qn (y_eql rfl rfl) rfl ?_
       refine WL.as rfl rfl ?_
       refine WL.ns ?_
       refine wc_cond rfl (fun hc6 => ?_) (fun hc6 => ?_)
       ·replace h := condT h hc6
        refine wc_region ?_
        refine WL.qn (y_fieldAddrc f54_13 rfl) rfl ?_
        refine WL.qn (y_loadc rfl a52 rfl) rfl ?_
        refine WL.qn (y_fieldAddr f54_13 rfl) rfl ?_
        refine WL.s0 (d_store rfl rfl rfl rfl rfl rfl s52 rfl rfl) (Wt.none rfl) rfl ?_
        refine WL.st (st' := [.row 54 [.d (D.i .u8 ((f79 y0).kind)), .d (D.s ((f79 y0).name)), .d (D.i .i64 ((f79 y0).parent)), .d (D.i .i64 ((f79 y0).first)), .d (.sl (List.map E9 ((f79 y0).lits))), .d (D.i .i64 ((f79 y0).index)), .d (D.i .i64 ((f79 y0).elem)), .d (D.i .i64 ((f79 y0).disc)), .d (D.s ((f79 y0).discName)), .d (D.b ((f79 y0).has)), .d (D.i .i64 ((f79 y0).default_)), .d (.sl (List.map E56 ((f79 y0).comps))), .d (D.i .i64 ((f79 y0).target)), .d (D.i .u8 y0.formal), .d (D.b ((f79 y0).limited)), .d (D.i .i64 ((f79 y0).priv)), .d (D.i .i64 ((f79 y0).full)), .d (D.i .i64 ((f79 y0).level))]]) rfl ?_
        refine WL.nil ?_
        refine we_blk ?_
        exact we_lp ⟨(decide ((List.length y0.lits : Int) > 0)), (decide ((List.length y0.comps : Int) > 0)), ((f79 y0).parent), ((f79 y0).index), ((f79 y0).elem), ((f79 y0).disc), ((f79 y0).discName), ((f79 y0).has), ((f79 y0).default_), ((f79 y0).target), y0.formal, h, (Sub.cons rfl (Le.refl _) (Sub.cons rfl (Le.refl _) (Sub.cons rfl (Le.refl _) (Sub.cons rfl (Le.refl _) (Sub.nil _))))), ⟨⟨rfl, ⟨(Le.refl _), (Le.refl _), (Le.refl _), (Le.refl _), (Le.refl _), (Le.refl _), (Le.refl _), (Le.refl _), (Le.refl _), (Le.refl _), (Le.refl _), (Le.refl _), (Le.refl _), (Le.refl _), (Le.refl _), (Le.refl _), (Le.refl _), (Le.refl _), trivial⟩⟩, trivial⟩⟩
       ·replace h := condF h hc6
        refine wc_skip ?_
        refine we_blk ?_
        exact we_lp ⟨(decide ((List.length y0.lits : Int) > 0)), (decide ((List.length y0.comps : Int) > 0)), ((f79 y0).parent), ((f79 y0).index), ((f79 y0).elem), ((f79 y0).disc), ((f79 y0).discName), ((f79 y0).has), ((f79 y0).default_), ((f79 y0).target), ((f79 y0).formal), h, (Sub.cons rfl (Le.refl _) (Sub.cons rfl (Le.refl _) (Sub.cons rfl (Le.refl _) (Sub.cons rfl (Le.refl _) (Sub.nil _))))), ⟨⟨rfl, ⟨(Le.refl _), (Le.refl _), (Le.refl _), (Le.refl _), (Le.refl _), (Le.refl _), (Le.refl _), (Le.refl _), (Le.refl _), (Le.refl _), (Le.refl _), (Le.refl _), (Le.refl _), (Le.refl _), (Le.refl _), (Le.refl _), (Le.refl _), (Le.refl _), trivial⟩⟩, trivial⟩⟩
 ·rintro env1 st1 ⟨lits139, comps140, c02141, c05142, c06143, c07144, c08145, c09146, c010147, c012148, c013149, h, hsub, hst⟩
  subst hk150
  dsimp only at h
  refine WC.sub hsub (WC.weak hst ?_)
  refine wc_sr ?_
  refine WL.qn (y_fieldAddr f54_2 rfl) rfl ?_
  refine WL.qn (y_load rfl rfl a3 rfl) rfl ?_
  refine WL.qn (y_fieldAddrc f54_2 rfl) rfl ?_
  refine WL.qn (y_loadc rfl a3 rfl) rfl ?_
  refine WL.qn (y_eql rfl rfl) rfl ?_
  refine WL.mv rfl rfl ?_
  apply WL.and 6 (t := 72) (d := 78)
  ·exact rfl
  ·intro hg72
   refine WL.qy (y_fieldAddr f54_5 rfl) rfl rfl rfl ?_
   refine WL.qy (y_load rfl rfl a3 rfl) rfl rfl rfl ?_
   refine WL.qy (y_fieldAddrc f54_5 rfl) rfl rfl rfl ?_
   refine WL.qy (y_loadc rfl a3 rfl) rfl rfl rfl ?_
   refine WL.qy (y_eql rfl rfl) rfl rfl rfl ?_
   refine WL.qn (y_pick_t rfl rfl) rfl ?_
   exact WL.nil ⟨rfl, [_, _, _, _, _, _], rfl, rfl, rfl⟩
  ·refine WL.skips 5 rfl ?_
   refine WL.qn (y_pick_f rfl rfl) rfl ?_
   exact WL.nil ⟨rfl, [_, _, _, _, _, _], rfl, rfl, rfl⟩
  refine WL.mv rfl rfl ?_
  apply WL.and 6 (t := 79) (d := 85)
  ·exact rfl
  ·intro hg79
   refine WL.qy (y_fieldAddr f54_6 rfl) rfl rfl rfl ?_
   refine WL.qy (y_load rfl rfl a3 rfl) rfl rfl rfl ?_
   refine WL.qy (y_fieldAddrc f54_6 rfl) rfl rfl rfl ?_
   refine WL.qy (y_loadc rfl a3 rfl) rfl rfl rfl ?_
   refine WL.qy (y_eql rfl rfl) rfl rfl rfl ?_
   refine WL.qn (y_pick_t rfl rfl) rfl ?_
   exact WL.nil ⟨rfl, [_, _, _, _, _, _], rfl, rfl, rfl⟩
  ·refine WL.skips 5 rfl ?_
   refine WL.qn (y_pick_f rfl rfl) rfl ?_
   exact WL.nil ⟨rfl, [_, _, _, _, _, _], rfl, rfl, rfl⟩
  refine WL.mv rfl rfl ?_
  apply WL.and 6 (t := 86) (d := 92)
  ·exact rfl
  ·intro hg86
   refine WL.qy (y_fieldAddr f54_7 rfl) rfl rfl rfl ?_
   refine WL.qy (y_load rfl rfl a3 rfl) rfl rfl rfl ?_
   refine WL.qy (y_fieldAddrc f54_7 rfl) rfl rfl rfl ?_
   refine WL.qy (y_loadc rfl a3 rfl) rfl rfl rfl ?_
   refine WL.qy (y_eql rfl rfl) rfl rfl rfl ?_
   refine WL.qn (y_pick_t rfl rfl) rfl ?_
   exact WL.nil ⟨rfl, [_, _, _, _, _, _], rfl, rfl, rfl⟩
  ·refine WL.skips 5 rfl ?_
   refine WL.qn (y_pick_f rfl rfl) rfl ?_
   exact WL.nil ⟨rfl, [_, _, _, _, _, _], rfl, rfl, rfl⟩
  refine WL.mv rfl rfl ?_
  apply WL.and 6 (t := 93) (d := 99)
  ·exact rfl
  ·intro hg93
   refine WL.qy (y_fieldAddr f54_8 rfl) rfl rfl rfl ?_
   refine WL.qy (y_load rfl rfl a9 rfl) rfl rfl rfl ?_
   refine WL.qy (y_fieldAddrc f54_8 rfl) rfl rfl rfl ?_
   refine WL.qy (y_loadc rfl a9 rfl) rfl rfl rfl ?_
   refine WL.qy (y_eqs rfl rfl) rfl rfl rfl ?_
   refine WL.qn (y_pick_t rfl rfl) rfl ?_
   exact WL.nil ⟨rfl, [_, _, _, _, _, _], rfl, rfl, rfl⟩
  ·refine WL.skips 5 rfl ?_
   refine WL.qn (y_pick_f rfl rfl) rfl ?_
   exact WL.nil ⟨rfl, [_, _, _, _, _, _], rfl, rfl, rfl⟩
  refine WL.mv rfl rfl ?_
  apply WL.and 6 (t := 100) (d := 106)
  ·exact rfl
  ·intro hg100
   refine WL.qy (y_fieldAddr f54_9 rfl) rfl rfl rfl ?_
   refine WL.qy (y_load rfl rfl a4 rfl) rfl rfl rfl ?_
   refine WL.qy (y_fieldAddrc f54_9 rfl) rfl rfl rfl ?_
   refine WL.qy (y_loadc rfl a4 rfl) rfl rfl rfl ?_
   refine WL.qy (y_eqb Tryd.underlying4 rfl rfl) rfl rfl rfl ?_
   refine WL.qn (y_pick_t rfl rfl) rfl ?_
   exact WL.nil ⟨rfl, [_, _, _, _, _, _], rfl, rfl, rfl⟩
  ·refine WL.skips 5 rfl ?_
   refine WL.qn (y_pick_f rfl rfl) rfl ?_
   exact WL.nil ⟨rfl, [_, _, _, _, _, _], rfl, rfl, rfl⟩
  refine WL.mv rfl rfl ?_
  apply WL.and 6 (t := 107) (d := 113)
  ·exact rfl
  ·intro hg107
   refine WL.qy (y_fieldAddr f54_10 rfl) rfl rfl rfl ?_
   refine WL.qy (y_load rfl rfl a2 rfl) rfl rfl rfl ?_
   refine WL.qy (y_fieldAddrc f54_10 rfl) rfl rfl rfl ?_
   refine WL.qy (y_loadc rfl a2 rfl) rfl rfl rfl ?_
   refine WL.qy (y_eql rfl rfl) rfl rfl rfl ?_
   refine WL.qn (y_pick_t rfl rfl) rfl ?_
   exact WL.nil ⟨rfl, [_, _, _, _, _, _], rfl, rfl, rfl⟩
  ·refine WL.skips 5 rfl ?_
   refine WL.qn (y_pick_f rfl rfl) rfl ?_
   exact WL.nil ⟨rfl, [_, _, _, _, _, _], rfl, rfl, rfl⟩
  refine WL.mv rfl rfl ?_
  apply WL.and 6 (t := 114) (d := 120)
  ·exact rfl
  ·intro hg114
   refine WL.qy (y_fieldAddr f54_12 rfl) rfl rfl rfl ?_
   refine WL.qy (y_load rfl rfl a3 rfl) rfl rfl rfl ?_
   refine WL.qy (y_fieldAddrc f54_12 rfl) rfl rfl rfl ?_
   refine WL.qy (y_loadc rfl a3 rfl) rfl rfl rfl ?_
   refine WL.qy (y_eql rfl rfl) rfl rfl rfl ?_
   refine WL.qn (y_pick_t rfl rfl) rfl ?_
   exact WL.nil ⟨rfl, [_, _, _, _, _, _], rfl, rfl, rfl⟩
  ·refine WL.skips 5 rfl ?_
   refine WL.qn (y_pick_f rfl rfl) rfl ?_
   exact WL.nil ⟨rfl, [_, _, _, _, _, _], rfl, rfl, rfl⟩
  refine WL.mv rfl rfl ?_
  apply WL.and 6 (t := 121) (d := 127)
  ·exact rfl
  ·intro hg121
   refine WL.qy (y_fieldAddr f54_13 rfl) rfl rfl rfl ?_
   refine WL.qy (y_load rfl rfl a52 rfl) rfl rfl rfl ?_
   refine WL.qy (y_fieldAddrc f54_13 rfl) rfl rfl rfl ?_
   refine WL.qy (y_loadc rfl a52 rfl) rfl rfl rfl ?_
   refine WL.qy (y_eql rfl rfl) rfl rfl rfl ?_
   refine WL.qn (y_pick_t rfl rfl) rfl ?_
   exact WL.nil ⟨rfl, [_, _, _, _, _, _], rfl, rfl, rfl⟩
  ·refine WL.skips 5 rfl ?_
   refine WL.qn (y_pick_f rfl rfl) rfl ?_
   exact WL.nil ⟨rfl, [_, _, _, _, _, _], rfl, rfl, rfl⟩
  refine WL.as rfl rfl ?_
  refine WL.ns ?_
  refine wc_sr ?_
  refine WL.mv rfl rfl ?_
  refine WL.mv rfl rfl ?_
  apply WL.and 3 (t := 129) (d := 132)
  ·exact rfl
  ·intro hg129
   refine WL.qy (y_move rfl) rfl rfl rfl ?_
   refine WL.qy (y_not rfl) rfl rfl rfl ?_
   refine WL.qn (y_pick_t rfl rfl) rfl ?_
   exact WL.nil ⟨rfl, [_, _, _], rfl, rfl, rfl⟩
  ·refine WL.skips 2 rfl ?_
   refine WL.qn (y_pick_f rfl rfl) rfl ?_
   exact WL.nil ⟨rfl, [_, _, _], rfl, rfl, rfl⟩
  refine WL.mv rfl rfl ?_
  apply WL.and 3 (t := 133) (d := 136)
  ·exact rfl
  ·intro hg133
   refine WL.qy (y_move rfl) rfl rfl rfl ?_
   refine WL.qy (y_not rfl) rfl rfl rfl ?_
   refine WL.qn (y_pick_t rfl rfl) rfl ?_
   exact WL.nil ⟨rfl, [_, _, _], rfl, rfl, rfl⟩
  ·refine WL.skips 2 rfl ?_
   refine WL.qn (y_pick_f rfl rfl) rfl ?_
   exact WL.nil ⟨rfl, [_, _, _], rfl, rfl, rfl⟩
  refine WL.as rfl rfl ?_
  refine WL.ns ?_
  refine wc_ret ?_
  subst h
  exact we_ret_fn (rs1 rfl (rv_t rfl)) (Le.refl _)

end Go.Proofs.YteafckpdbmncfaaDoor
