/- The walks of functions that this law reaches. -/
import Derived.Test.YteafckpdbmncfaaDoorX
set_option maxHeartbeats 4000000
set_option maxRecDepth 100000
namespace Go.Proofs.YteafckpdbmncfaaDoor
open Go Go.Sk

theorem f51_c (i0 : Int) (n1 : Int) : Pu Tryd.prog 51 [.i .i64 i0, .i .i64 n1] (.b (f51 i0 n1)) := by
 generalize h : f51 i0 n1 = r
 unfold f51 at h
 refine fn_intro Tryd.func51 (by kernel_rfl) rfl rfl rfl (fun φφ ww => ?_)
 refine wc_sr ?_
 refine WL.as rfl rfl ?_
 refine WL.ns ?_
 refine wc_sr ?_
 refine WL.mv rfl rfl ?_
 refine WL.qn (y_geq rfl rfl) rfl ?_
 refine WL.mv rfl rfl ?_
 apply WL.and 4 (t := 7) (d := 11)
 ·exact rfl
 ·intro hg7
  refine WL.qy (y_move rfl) rfl rfl rfl ?_
  refine WL.qy (y_move rfl) rfl rfl rfl ?_
  refine WL.qy (y_lss rfl rfl) rfl rfl rfl ?_
  refine WL.qn (y_pick_t rfl rfl) rfl ?_
  exact WL.nil ⟨rfl, [_, _, _, _], rfl, rfl, rfl⟩
 ·refine WL.skips 3 rfl ?_
  refine WL.qn (y_pick_f rfl rfl) rfl ?_
  exact WL.nil ⟨rfl, [_, _, _, _], rfl, rfl, rfl⟩
 refine WL.as rfl rfl ?_
 refine WL.ns ?_
 refine wc_ret ?_
 subst h
 exact we_ret_fn (rs1 rfl (rv_t rfl)) (Le.refl _)

theorem f33_c (a0 : List Int) (b1 : List Int) {r : Bool} (h : f33 a0 b1 = some r) : Pu Tryd.prog 33 [.sl (List.map E2 a0), .sl (List.map E2 b1)] (.b r) := by
 unfold f33 at h
 refine fn_intro Tryd.func33 (by kernel_rfl) rfl rfl rfl (fun φφ ww => ?_)
 refine wc_sr ?_
 refine WL.as rfl rfl ?_
 refine WL.ns ?_
 refine wc_seq ?_
 refine wc_sr ?_
 refine WL.mv rfl rfl ?_
 refine WL.qn (y_len_map E2 a0 e41 rfl rfl (Le.refl _)) rfl ?_
 refine WL.mv rfl rfl ?_
 refine WL.qn (y_len_map E2 b1 e41 rfl rfl (Le.refl _)) rfl ?_
 refine WL.qn (y_neq rfl rfl) rfl ?_
 refine WL.ns ?_
 refine wc_cond rfl (fun hc1 => ?_) (fun hc1 => ?_)
 ·replace h := condT h hc1
  refine wc_sr ?_
  refine WL.as rfl rfl ?_
  refine WL.ns ?_
  refine wc_ret ?_
  refine we_seq_ret ?_
  obtain rfl := Option.some.inj h
  exact we_ret_fn (rs1 rfl (rv_t rfl)) (Le.refl _)
 ·replace h := condF h hc1
  refine wc_skip ?_
  refine we_seq ?_
  replace h := letkS h
  obtain ⟨k29, hk29, h⟩ := h
  refine wc_cut (fun env' st' => k29 () = some r ∧ Sub [] env' ∧ SLe st' []) ?_ ?_
  ·refine wc_sr ?_
   refine WL.as rfl rfl ?_
   refine WL.ns ?_
   refine wc_block ?_
   refine wc_loop (fun n env' st' => ∃ (iq31 : Int), f33_l1 a0 b1 k29 n iq31 = some r ∧ Sub [(0, .d (.sl (List.map E2 a0))), (1, .d (.sl (List.map E2 b1))), (5, .d (D.i .i64 iq31))] env' ∧ SLe st' []) (fun n => n) 9223372036854775808 ⟨0, h, (Sub.cons rfl (Le.refl _) (Sub.cons rfl (Le.refl _) (Sub.cons rfl (Le.refl _) (Sub.nil _)))), trivial⟩ ?_
   rintro n env1 st1 ⟨iq31, h, hsub, hst⟩
   cases n with
   | zero => rw [f33_l1] at h; cases h
   | succ n =>
   rw [f33_l1] at h
   refine WC.sub hsub (WC.weak hst ?_)
   refine wc_seq ?_
   refine wc_sr ?_
   refine WL.mv rfl rfl ?_
   refine WL.mv rfl rfl ?_
   refine WL.qn (y_len_map E2 a0 e41 rfl rfl (Le.refl _)) rfl ?_
   refine WL.qn (y_lss rfl rfl) rfl ?_
   refine WL.ns ?_
   refine wc_cond rfl (fun hc2 => ?_) (fun hc2 => ?_)
   ·replace h := condT h hc2
    refine wc_skip ?_
    refine we_seq ?_
    refine wc_seq ?_
    refine wc_block ?_
    refine wc_seq ?_
    refine wc_region_draw (by kernel_rfl) (by kernel_rfl) ?_
    refine WQ.qn (y_move rfl) rfl ?_
    refine WQ.qn (y_move rfl) rfl ?_
    obtain ⟨x33, hx33, h⟩ := bindS h
    refine WQ.qn (y_indexAddr e41 rfl (Le.refl _) rfl (idx_nonneg hx33) (idx_row E2_eq hx33) rfl) rfl ?_
    refine WQ.qn (y_loadc rfl a2 rfl) rfl ?_
    refine WQ.qn (y_move rfl) rfl ?_
    refine WQ.qn (y_move rfl) rfl ?_
    obtain ⟨x34, hx34, h⟩ := bindS h
    refine WQ.qn (y_indexAddr e41 rfl (Le.refl _) rfl (idx_nonneg hx34) (idx_row E2_eq hx34) rfl) rfl ?_
    refine WQ.qn (y_loadc rfl a2 rfl) rfl ?_
    refine WQ.qn (y_neq rfl rfl) rfl ?_
    refine WQ.nil ?_
    refine we_seq ?_
    refine wc_cond rfl (fun hc3 => ?_) (fun hc3 => ?_)
    ·replace h := condT h hc3
     refine wc_sr ?_
     refine WL.as rfl rfl ?_
     refine WL.ns ?_
     refine wc_ret ?_
     refine we_blk_ret ?_
     refine we_seq_ret ?_
     refine we_lp_ret ?_
     refine we_blk_ret ?_
     refine we_lp_ret ?_
     obtain rfl := Option.some.inj h
     exact we_ret_fn (rs1 rfl (rv_t rfl)) (Le.refl _)
    ·replace h := condF h hc3
     refine wc_skip ?_
     refine we_blk ?_
     refine we_seq ?_
     refine wc_region ?_
     refine WL.mv rfl rfl ?_
     refine WL.qn (y_add rfl rfl rfl) rfl ?_
     refine WL.as rfl rfl ?_
     refine WL.nil ?_
     exact we_lp ⟨n, ⟨(IntKind.i64.wrap (iq31 + 1)), h, (Sub.cons rfl (Le.refl _) (Sub.cons rfl (Le.refl _) (Sub.cons rfl (Le.refl _) (Sub.nil _)))), trivial⟩, Nat.lt_succ_self n⟩
   ·replace h := condF h hc2
    refine wc_exit ?_
    refine we_seq_exit ?_
    refine we_lp_exit ?_
    refine we_blk_hit ?_
    exact we_lp ⟨h, (Sub.nil _), trivial⟩
  ·rintro env1 st1 ⟨h, hsub, hst⟩
   subst hk29
   dsimp only at h
   refine WC.sub hsub (WC.weak hst ?_)
   refine wc_sr ?_
   refine WL.as rfl rfl ?_
   refine WL.ns ?_
   refine wc_ret ?_
   obtain rfl := Option.some.inj h
   exact we_ret_fn (rs1 rfl (rv_t rfl)) (Le.refl _)

theorem f37_c (kind0 : Int) : Pu Tryd.prog 37 [.i .u8 kind0] (.ag (R54 (f37 kind0))) := by
 generalize h : f37 kind0 = r
 unfold f37 at h
 refine fn_intro Tryd.func37 (by kernel_rfl) rfl rfl rfl (fun φφ ww => ?_)
 refine wc_sr ?_
 refine WL.s ((b_alloc z54).does) (Wt.none rfl) rfl rfl ?_
 refine WL.ns ?_
 refine wc_sr ?_
 refine WL.mv rfl rfl ?_
 refine WL.qn (y_build p54 z54 rfl rfl) rfl ?_
 refine WL.s0 (d_store rfl rfl rfl rfl rfl rfl s54 rfl rfl) (Wt.none rfl) rfl ?_
 refine WL.st (st' := [.row 54 [.d (D.i .u8 kind0), .d (D.s ByteArray.empty), .d (D.i .i64 (-1)), .d (D.i .i64 (-1)), .d (.v (.slice none 0 0)), .d (D.i .i64 (-1)), .d (D.i .i64 (-1)), .d (D.i .i64 (-1)), .d (D.s ByteArray.empty), .d (D.b false), .d (D.i .i64 0), .d (.v (.slice none 0 0)), .d (D.i .i64 (-1)), .d (D.i .u8 0), .d (D.b false), .d (D.i .i64 (-1)), .d (D.i .i64 0), .d (D.i .i64 0)]]) rfl ?_
 refine WL.ns ?_
 refine wc_ret ?_
 subst h
 exact we_ret_fn (rs1 rfl (rv_cN rfl rfl a54 s54 rfl)) (Le.agd ⟨(Le.refl _), (Le.refl _), (Le.refl _), (Le.refl _), Le.nil, (Le.refl _), (Le.refl _), (Le.refl _), (Le.refl _), (Le.refl _), (Le.refl _), Le.nil, (Le.refl _), (Le.refl _), (Le.refl _), (Le.refl _), (Le.refl _), (Le.refl _), trivial⟩)

end Go.Proofs.YteafckpdbmncfaaDoor
