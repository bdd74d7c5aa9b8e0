/- The walks of functions. -/
import Derived.Test.YtkbahggepncliaaGreatDoorX
import Derived.Test.YtkbahggepncliaaGreatDoorWa
set_option linter.unusedVariables false
set_option linter.unusedSimpArgs false
set_option linter.unusedSectionVars false
set_option linter.unnecessarySimpa false
set_option maxHeartbeats 4000000
set_option maxRecDepth 100000
namespace Go.Proofs.YtkbahggepncliaaGreatDoor
open Go Go.Sk

theorem f37_c (t0 : Text) {r : Bool} (h : f37 t0 = some r) : Pu Tryz.prog 37 [.ag (R38 t0)] (.b r) := by
 unfold f37 at h
 refine fn_intro Tryz.func37 (by kernel_rfl) q q q (fun φφ ww => ?_)
 refine Zr (WL.s ((b_boxd q q (Zs _)).does) (Zw q) q q (Za q q (Zn (Zr (Zq (y_loadcN q a38 s38 q) q (Zq (y_build p135 z135 q q) q (WL.s ((b_alloc z135).does) (Zw q) q q (WL.s0 (d_store q q q q q q s135 q q) (Zw q) q (WL.st (st' := [.row 135 (txA t0)]) q (Zn (wc_seq (Zr (Zq (y_fieldAddrc f38_0 q) q (Zq (y_loadc q a23 q) q (Zq (y_len_map E45 t0.insns e23 q q Zl) q (Zq (y_lss q q) q (Zm q q ?_)))))))))))))))))
 apply WL.or 5 (t := 12) (d := 17)
 exact q
 intro hg12
 exact Zy (y_fieldAddrc f38_0 q) q q q (Zy (y_loadc q a23 q) q q q (Zy (y_len_map E45 t0.insns e23 q q Zl) q q q (Zy (y_gtr q q) q q q (Zq (y_pick_f q q) q (WL.nil ⟨q, [_, _, _, _, _], q, q, q⟩)))))
 exact WL.skips 4 q (Zq (y_pick_t q q) q (WL.nil ⟨q, [_, _, _, _, _], q, q, q⟩))
 refine Zn (wc_cond q (fun hc1 => ?_) (fun hc1 => ?_))
 replace h := condT h hc1
 refine Zr (Za q q (Zn (wc_ret (we_seq_ret ?_))))
 obtain rfl := Oi h
 exact we_ret_fn (rs1 q (rv_t q)) Zl
 replace h := condF h hc1
 refine wc_skip (we_seq (wc_seq (Zr (Zq (y_fieldAddrc f38_0 q) q (Zq (y_loadc q a23 q) q (Zq (y_fieldAddrc f38_0 q) q (Zq (y_loadc q a23 q) q (Zq (y_len_map E45 t0.insns e23 q q Zl) q (Zq (y_sub q q q) q ?_)))))))))
 obtain ⟨x65, hx65, h⟩ := bindS h
 refine Zq (y_indexAddr e23 q Zl q (idx_nonneg hx65) (idx_row E45_eq hx65) q) q (Zq (y_fieldAddrc f45_0 q) q (Zq (y_loadc q a43 q) q (Zn (wc_block ?_))))
 replace h := letkS h
 obtain ⟨k67, hk67, h⟩ := h
 refine wc_cut (fun env' st' => ∃ (t66 : Bool), k67 t66 = some r ∧ Sub [(1, .d (.pc (R38 t0))), (3, .pt 0 0), (27, .d (D.b t66))] env' ∧ SLe st' [.row 135 (txA t0)]) ?_ ?_
 refine Zr (Zq (y_eql q q) q (Za q q (Zn (wc_cond q (fun hc2 => ?_) (fun hc2 => ?_)))))
 replace h := condT h hc2
 exact wc_skip (we_lp ⟨(decide (x65.op = 29)), h, (Sx q (Sx q (Sx q (Sub.nil _)))), ⟨Zp, Zt⟩⟩)
 replace h := condF h hc2
 refine Zr (Zq (y_eql q q) q (Za q q (Zn (wc_cond q (fun hc3 => ?_) (fun hc3 => ?_)))))
 replace h := condT h hc3
 exact wc_skip (we_lp ⟨(decide (x65.op = 33)), h, (Sx q (Sx q (Sx q (Sub.nil _)))), ⟨Zp, Zt⟩⟩)
 replace h := condF h hc3
 refine Zr (Zq (y_eql q q) q (Za q q (Zn (wc_cond q (fun hc4 => ?_) (fun hc4 => ?_)))))
 replace h := condT h hc4
 exact wc_skip (we_lp ⟨(decide (x65.op = 34)), h, (Sx q (Sx q (Sx q (Sub.nil _)))), ⟨Zp, Zt⟩⟩)
 replace h := condF h hc4
 exact wc_region (Zq (y_eql q q) q (Za q q (WL.nil (we_lp ⟨(decide (x65.op = 57)), h, (Sx q (Sx q (Sx q (Sub.nil _)))), ⟨Zp, Zt⟩⟩))))
 rintro env1 st1 ⟨t66, h, hsub, hst⟩
 subst hk67
 dsimp only at h
 refine WC.sub hsub (WC.weak hst ?_)
 refine wc_cond q (fun hc5 => ?_) (fun hc5 => ?_)
 replace h := condT h hc5
 refine wc_skip (we_blk (we_seq ?_))
 replace h := letkS h
 obtain ⟨k68, hk68, h⟩ := h
 refine wc_cut (fun env' st' => k68 () = some r ∧ Sub [(1, .d (.pc (R38 t0))), (3, .pt 0 0)] env' ∧ SLe st' [.row 135 (txA t0), .os 24 1 0 [[.fn (.func 68) [.ag (txA t0)] []], [.fn (.func 69) [.ag (txA t0)] []], [.fn (.func 70) [.ag (txA t0)] []], [.fn (.func 71) [.ag (txA t0)] []], [.fn (.func 72) [.ag (txA t0)] []], [.fn (.func 73) [.ag (txA t0)] []], [.fn (.func 74) [.ag (txA t0)] []], [.fn (.func 75) [.ag (txA t0)] []]]]) ?_ ?_
 refine Zr (Zq (y_loadN q q a135 s135 q) q (Zq (y_makeFunc q q) q (Zq (y_loadN q q a135 s135 q) q (Zq (y_makeFunc q q) q (Zq (y_loadN q q a135 s135 q) q (Zq (y_makeFunc q q) q (Zq (y_loadN q q a135 s135 q) q (Zq (y_makeFunc q q) q (Zq (y_loadN q q a135 s135 q) q (Zq (y_makeFunc q q) q (Zq (y_loadN q q a135 s135 q) q (Zq (y_makeFunc q q) q (Zq (y_loadN q q a135 s135 q) q (Zq (y_makeFunc q q) q (Zq (y_loadN q q a135 s135 q) q (Zq (y_makeFunc q q) q (WL.s ((NewOs.b (n_buildSlice l136 z24 q (by decide) (by decide) q q q (by decide))).does) (Zw q) q q (Zq (y_len_os e136 q q q) q (Zm q q (Zn (wc_block (wc_unroll 9 (Zr (Zq (y_lss q q) q (Zn ?_)))))))))))))))))))))))))
 refine wc_seq (wc_true q (wc_skip (we_seq (wc_seq (wc_block (Zr (Zq (y_indexAddr_os e136 q q q (by decide) (by show (0 : Int) < ((8 : Nat) : Int); decide)) q (Zq (y_load_pe q q a24 q) q (Za q q (Zn (Zr (Zm q q ?_))))))))))))
 obtain ⟨r69, hr69, h⟩ := bindS h
 refine WL.fn q q q q (f68_c _ hr69) ⟨(Le.agd ⟨Zl, Zl, Zl, Zl, Zl, Zl, Zl, Zl, Zl, Zl, Zl, Zt⟩), Zt⟩ (Zw q) q q (Zq (y_not q) q (Zn (wc_cond q (fun hc6 => ?_) (fun hc6 => ?_))))
 replace h := condT h hc6
 refine Zr (Za q q (Zn (wc_ret (we_blk_ret (we_seq_ret (we_rl_ret (we_blk_ret (we_lp_ret ?_))))))))
 obtain rfl := Oi h
 exact we_ret_fn (rs1 q (rv_t q)) Zl
 replace h := condF h hc6
 refine wc_skip (we_blk (we_seq (wc_region (Zq (y_add (c := 1) q q (by decide)) q (Zm q q (WL.nil (we_rl (WC.sub (env' := [(1, .d (.pc (R38 t0))), (3, .pt 0 0), (48, .os 1 0), (49, .n 8), (50, .n 1)]) (Sub.one q (Sub.one q (Sub.one q (Sub.one q (Sub.one q (Sub.nil _)))))) (Zr (Zq (y_lss q q) q (Zn (wc_seq (wc_true q (wc_skip (we_seq (wc_seq (wc_block (Zr (Zq (y_indexAddr_os e136 q q q (by decide) (by show (1 : Int) < ((8 : Nat) : Int); decide)) q (Zq (y_load_pe q q a24 q) q (Za q q (Zn (Zr (Zm q q ?_))))))))))))))))))))))))
 obtain ⟨r70, hr70, h⟩ := bindS h
 refine WL.fn q q q q (f69_c _ hr70) ⟨(Le.agd ⟨Zl, Zl, Zl, Zl, Zl, Zl, Zl, Zl, Zl, Zl, Zl, Zt⟩), Zt⟩ (Zw q) q q (Zq (y_not q) q (Zn (wc_cond q (fun hc7 => ?_) (fun hc7 => ?_))))
 replace h := condT h hc7
 refine Zr (Za q q (Zn (wc_ret (we_blk_ret (we_seq_ret (we_rl_ret (we_blk_ret (we_lp_ret ?_))))))))
 obtain rfl := Oi h
 exact we_ret_fn (rs1 q (rv_t q)) Zl
 replace h := condF h hc7
 refine wc_skip (we_blk (we_seq (wc_region (Zq (y_add (c := 2) q q (by decide)) q (Zm q q (WL.nil (we_rl (WC.sub (env' := [(1, .d (.pc (R38 t0))), (3, .pt 0 0), (48, .os 1 0), (49, .n 8), (50, .n 2)]) (Sub.one q (Sub.one q (Sub.one q (Sub.one q (Sub.one q (Sub.nil _)))))) (Zr (Zq (y_lss q q) q (Zn (wc_seq (wc_true q (wc_skip (we_seq (wc_seq (wc_block (Zr (Zq (y_indexAddr_os e136 q q q (by decide) (by show (2 : Int) < ((8 : Nat) : Int); decide)) q (Zq (y_load_pe q q a24 q) q (Za q q (Zn (Zr (Zm q q ?_))))))))))))))))))))))))
 obtain ⟨r71, hr71, h⟩ := bindS h
 refine WL.fn q q q q (f70_c _ hr71) ⟨(Le.agd ⟨Zl, Zl, Zl, Zl, Zl, Zl, Zl, Zl, Zl, Zl, Zl, Zt⟩), Zt⟩ (Zw q) q q (Zq (y_not q) q (Zn (wc_cond q (fun hc8 => ?_) (fun hc8 => ?_))))
 replace h := condT h hc8
 refine Zr (Za q q (Zn (wc_ret (we_blk_ret (we_seq_ret (we_rl_ret (we_blk_ret (we_lp_ret ?_))))))))
 obtain rfl := Oi h
 exact we_ret_fn (rs1 q (rv_t q)) Zl
 replace h := condF h hc8
 refine wc_skip (we_blk (we_seq (wc_region (Zq (y_add (c := 3) q q (by decide)) q (Zm q q (WL.nil (we_rl (WC.sub (env' := [(1, .d (.pc (R38 t0))), (3, .pt 0 0), (48, .os 1 0), (49, .n 8), (50, .n 3)]) (Sub.one q (Sub.one q (Sub.one q (Sub.one q (Sub.one q (Sub.nil _)))))) (Zr (Zq (y_lss q q) q (Zn (wc_seq (wc_true q (wc_skip (we_seq (wc_seq (wc_block (Zr (Zq (y_indexAddr_os e136 q q q (by decide) (by show (3 : Int) < ((8 : Nat) : Int); decide)) q (Zq (y_load_pe q q a24 q) q (Za q q (Zn (Zr (Zm q q ?_))))))))))))))))))))))))
 obtain ⟨r72, hr72, h⟩ := bindS h
 refine WL.fn q q q q (f71_c _ hr72) ⟨(Le.agd ⟨Zl, Zl, Zl, Zl, Zl, Zl, Zl, Zl, Zl, Zl, Zl, Zt⟩), Zt⟩ (Zw q) q q (Zq (y_not q) q (Zn (wc_cond q (fun hc9 => ?_) (fun hc9 => ?_))))
 replace h := condT h hc9
 refine Zr (Za q q (Zn (wc_ret (we_blk_ret (we_seq_ret (we_rl_ret (we_blk_ret (we_lp_ret ?_))))))))
 obtain rfl := Oi h
 exact we_ret_fn (rs1 q (rv_t q)) Zl
 replace h := condF h hc9
 refine wc_skip (we_blk (we_seq (wc_region (Zq (y_add (c := 4) q q (by decide)) q (Zm q q (WL.nil (we_rl (WC.sub (env' := [(1, .d (.pc (R38 t0))), (3, .pt 0 0), (48, .os 1 0), (49, .n 8), (50, .n 4)]) (Sub.one q (Sub.one q (Sub.one q (Sub.one q (Sub.one q (Sub.nil _)))))) (Zr (Zq (y_lss q q) q (Zn (wc_seq (wc_true q (wc_skip (we_seq (wc_seq (wc_block (Zr (Zq (y_indexAddr_os e136 q q q (by decide) (by show (4 : Int) < ((8 : Nat) : Int); decide)) q (Zq (y_load_pe q q a24 q) q (Za q q (Zn (Zr (Zm q q ?_))))))))))))))))))))))))
 obtain ⟨r73, hr73, h⟩ := bindS h
 refine WL.fn q q q q (f72_c _ hr73) ⟨(Le.agd ⟨Zl, Zl, Zl, Zl, Zl, Zl, Zl, Zl, Zl, Zl, Zl, Zt⟩), Zt⟩ (Zw q) q q (Zq (y_not q) q (Zn (wc_cond q (fun hc10 => ?_) (fun hc10 => ?_))))
 replace h := condT h hc10
 refine Zr (Za q q (Zn (wc_ret (we_blk_ret (we_seq_ret (we_rl_ret (we_blk_ret (we_lp_ret ?_))))))))
 obtain rfl := Oi h
 exact we_ret_fn (rs1 q (rv_t q)) Zl
 replace h := condF h hc10
 refine wc_skip (we_blk (we_seq (wc_region (Zq (y_add (c := 5) q q (by decide)) q (Zm q q (WL.nil (we_rl (WC.sub (env' := [(1, .d (.pc (R38 t0))), (3, .pt 0 0), (48, .os 1 0), (49, .n 8), (50, .n 5)]) (Sub.one q (Sub.one q (Sub.one q (Sub.one q (Sub.one q (Sub.nil _)))))) (Zr (Zq (y_lss q q) q (Zn (wc_seq (wc_true q (wc_skip (we_seq (wc_seq (wc_block (Zr (Zq (y_indexAddr_os e136 q q q (by decide) (by show (5 : Int) < ((8 : Nat) : Int); decide)) q (Zq (y_load_pe q q a24 q) q (Za q q (Zn (Zr (Zm q q ?_))))))))))))))))))))))))
 obtain ⟨r74, hr74, h⟩ := bindS h
 refine WL.fn q q q q (f73_c _ hr74) ⟨(Le.agd ⟨Zl, Zl, Zl, Zl, Zl, Zl, Zl, Zl, Zl, Zl, Zl, Zt⟩), Zt⟩ (Zw q) q q (Zq (y_not q) q (Zn (wc_cond q (fun hc11 => ?_) (fun hc11 => ?_))))
 replace h := condT h hc11
 refine Zr (Za q q (Zn (wc_ret (we_blk_ret (we_seq_ret (we_rl_ret (we_blk_ret (we_lp_ret ?_))))))))
 obtain rfl := Oi h
 exact we_ret_fn (rs1 q (rv_t q)) Zl
 replace h := condF h hc11
 refine wc_skip (we_blk (we_seq (wc_region (Zq (y_add (c := 6) q q (by decide)) q (Zm q q (WL.nil (we_rl (WC.sub (env' := [(1, .d (.pc (R38 t0))), (3, .pt 0 0), (48, .os 1 0), (49, .n 8), (50, .n 6)]) (Sub.one q (Sub.one q (Sub.one q (Sub.one q (Sub.one q (Sub.nil _)))))) (Zr (Zq (y_lss q q) q (Zn (wc_seq (wc_true q (wc_skip (we_seq (wc_seq (wc_block (Zr (Zq (y_indexAddr_os e136 q q q (by decide) (by show (6 : Int) < ((8 : Nat) : Int); decide)) q (Zq (y_load_pe q q a24 q) q (Za q q (Zn (Zr (Zm q q ?_))))))))))))))))))))))))
 obtain ⟨r75, hr75, h⟩ := bindS h
 refine WL.fn q q q q (f74_c _ hr75) ⟨(Le.agd ⟨Zl, Zl, Zl, Zl, Zl, Zl, Zl, Zl, Zl, Zl, Zl, Zt⟩), Zt⟩ (Zw q) q q (Zq (y_not q) q (Zn (wc_cond q (fun hc12 => ?_) (fun hc12 => ?_))))
 replace h := condT h hc12
 refine Zr (Za q q (Zn (wc_ret (we_blk_ret (we_seq_ret (we_rl_ret (we_blk_ret (we_lp_ret ?_))))))))
 obtain rfl := Oi h
 exact we_ret_fn (rs1 q (rv_t q)) Zl
 replace h := condF h hc12
 refine wc_skip (we_blk (we_seq (wc_region (Zq (y_add (c := 7) q q (by decide)) q (Zm q q (WL.nil (we_rl (WC.sub (env' := [(1, .d (.pc (R38 t0))), (3, .pt 0 0), (48, .os 1 0), (49, .n 8), (50, .n 7)]) (Sub.one q (Sub.one q (Sub.one q (Sub.one q (Sub.one q (Sub.nil _)))))) (Zr (Zq (y_lss q q) q (Zn (wc_seq (wc_true q (wc_skip (we_seq (wc_seq (wc_block (Zr (Zq (y_indexAddr_os e136 q q q (by decide) (by show (7 : Int) < ((8 : Nat) : Int); decide)) q (Zq (y_load_pe q q a24 q) q (Za q q (Zn (Zr (Zm q q ?_))))))))))))))))))))))))
 obtain ⟨r76, hr76, h⟩ := bindS h
 refine WL.fn q q q q (f75_c _ hr76) ⟨(Le.agd ⟨Zl, Zl, Zl, Zl, Zl, Zl, Zl, Zl, Zl, Zl, Zl, Zt⟩), Zt⟩ (Zw q) q q (Zq (y_not q) q (Zn (wc_cond q (fun hc13 => ?_) (fun hc13 => ?_))))
 replace h := condT h hc13
 refine Zr (Za q q (Zn (wc_ret (we_blk_ret (we_seq_ret (we_rl_ret (we_blk_ret (we_lp_ret ?_))))))))
 obtain rfl := Oi h
 exact we_ret_fn (rs1 q (rv_t q)) Zl
 replace h := condF h hc13
 exact wc_skip (we_blk (we_seq (wc_region (Zq (y_add (c := 8) q q (by decide)) q (Zm q q (WL.nil (we_rl (WC.sub (env' := [(1, .d (.pc (R38 t0))), (3, .pt 0 0), (48, .os 1 0), (49, .n 8), (50, .n 8)]) (Sub.one q (Sub.one q (Sub.one q (Sub.one q (Sub.one q (Sub.nil _)))))) (Zr (Zq (y_lss q q) q (Zn (wc_seq (wc_false q (wc_exit (we_seq_exit (we_rl_exit (we_blk_hit (we_lp ⟨h, (Sx q (Sx q (Sub.nil _))), ⟨Zp, Zf, Zt⟩⟩))))))))))))))))))
 rintro env1 st1 ⟨h, hsub, hst⟩
 subst hk68
 dsimp only at h
 refine WC.sub hsub (WC.weak hst ?_)
 refine Zr (Zq (y_fieldAddrc f38_0 q) q (Zq (y_loadc q a23 q) q (Zq (y_makeFunc q q) q ?_)))
 obtain ⟨k79, hk79, h⟩ := letkS h
 refine WL.inl (us := [.l E45 t0.insns, .fn (.func 77) [] [.pt 0 0]]) (fun rv st' => (∃ (t78 : Bool), k79 t78 = some r ∧ Le rv (.d (D.b t78)) ∧ SLe st' [.row 135 (txA t0), .os 24 1 0 [[.fn (.func 68) [.ag (txA t0)] []], [.fn (.func 69) [.ag (txA t0)] []], [.fn (.func 70) [.ag (txA t0)] []], [.fn (.func 71) [.ag (txA t0)] []], [.fn (.func 72) [.ag (txA t0)] []], [.fn (.func 73) [.ag (txA t0)] []], [.fn (.func 74) [.ag (txA t0)] []], [.fn (.func 75) [.ag (txA t0)] []]]])) q q q q q ?_ (Zw q) q q ?_
 refine ctr_intro Tryz.func76 (by kernel_rfl) q q q (fun mm φφ ww hm77 => ?_)
 refine Zr (Za q q (Zn (Zr (Zm q q (Zm q q ?_)))))
 obtain ⟨k82, hk82, h⟩ := letkS h
 refine WL.inl (us := [.l E45 t0.insns, .fn (.func 77) [] [.pt 0 0]]) (fun rv st' => (∃ (t81 : Int), k82 t81 = some r ∧ Le rv (.n t81) ∧ SLe st' [.row 135 (txA t0), .os 24 1 0 [[.fn (.func 68) [.ag (txA t0)] []], [.fn (.func 69) [.ag (txA t0)] []], [.fn (.func 70) [.ag (txA t0)] []], [.fn (.func 71) [.ag (txA t0)] []], [.fn (.func 72) [.ag (txA t0)] []], [.fn (.func 73) [.ag (txA t0)] []], [.fn (.func 74) [.ag (txA t0)] []], [.fn (.func 75) [.ag (txA t0)] []]]])) q q q q q ?_ (Zw q) q q ?_
 refine ctr_intro Tryz.func123 (by kernel_rfl) q q q (fun mm φφ ww hm80 => ?_)
 refine Zr (Za q q (Zn ?_))
 replace h := letkS h
 obtain ⟨k83, hk83, h⟩ := h
 refine wc_cut (fun env' st' => k83 () = some r ∧ Sub [] env' ∧ SLe st' [.row 135 (txA t0), .os 24 1 0 [[.fn (.func 68) [.ag (txA t0)] []], [.fn (.func 69) [.ag (txA t0)] []], [.fn (.func 70) [.ag (txA t0)] []], [.fn (.func 71) [.ag (txA t0)] []], [.fn (.func 72) [.ag (txA t0)] []], [.fn (.func 73) [.ag (txA t0)] []], [.fn (.func 74) [.ag (txA t0)] []], [.fn (.func 75) [.ag (txA t0)] []]]]) ?_ ?_
 refine Zr (Zm q q (Zq (y_len_map E45 t0.insns e23 q q Zl) q (Zm q q (Zn (wc_block (wc_loop (fun n env' st' => ∃ (t85 : Int), f37_l1 t0 k82 k83 n t85 = some r ∧ Sub [(0, .l E45 t0.insns), (1, .fn (.func 77) [] [.pt 0 0]), (7, .n (List.length t0.insns : Int)), (8, .n t85)] env' ∧ SLe st' [.row 135 (txA t0), .os 24 1 0 [[.fn (.func 68) [.ag (txA t0)] []], [.fn (.func 69) [.ag (txA t0)] []], [.fn (.func 70) [.ag (txA t0)] []], [.fn (.func 71) [.ag (txA t0)] []], [.fn (.func 72) [.ag (txA t0)] []], [.fn (.func 73) [.ag (txA t0)] []], [.fn (.func 74) [.ag (txA t0)] []], [.fn (.func 75) [.ag (txA t0)] []]]]) (fun n => n) (Int.toNat ((List.length t0.insns : Int) - 0) + 1) ⟨0, h, (Sx q (Sx q (Sx q (Sx q (Sub.nil _))))), ⟨Zp, Zf, Zt⟩⟩ ?_))))))
 rintro n env1 st1 ⟨t85, h, hsub, hst⟩
 rcases n with _ | n
 rw [f37_l1] at h; cases h
 rw [f37_l1] at h
 refine WC.sub hsub (WC.weak hst ?_)
 refine Zr (Zq (y_lss q q) q (Zn (wc_seq (wc_cond q (fun hc14 => ?_) (fun hc14 => ?_)))))
 replace h := condT h hc14
 refine wc_skip (we_seq (wc_seq (wc_block (Zr (Zm q q (Za q q (Zn (Zr (Zm q q (Zm q q (Zm q q ?_)))))))))))
 obtain ⟨x87, hx87, h⟩ := bindS h
 refine Zq (y_indexAddr e23 q Zl q (idx_nonneg hx87) (idx_row E45_eq hx87) q) q (Zq (y_loadcN q a45 s45 q) q ?_)
 obtain ⟨k90, hk90, h⟩ := letkS h
 refine WL.inl (us := [.d (.ag (R45 x87)), .pt 0 0]) (fun rv st' => (∃ (t89 : Bool), k90 t89 = some r ∧ Le rv (.d (D.b t89)) ∧ SLe st' [.row 135 (txA t0), .os 24 1 0 [[.fn (.func 68) [.ag (txA t0)] []], [.fn (.func 69) [.ag (txA t0)] []], [.fn (.func 70) [.ag (txA t0)] []], [.fn (.func 71) [.ag (txA t0)] []], [.fn (.func 72) [.ag (txA t0)] []], [.fn (.func 73) [.ag (txA t0)] []], [.fn (.func 74) [.ag (txA t0)] []], [.fn (.func 75) [.ag (txA t0)] []]]])) q q q q q ?_ (Zw q) q q ?_
 refine ctr_intro Tryz.func77 (by kernel_rfl) q q q (fun mm φφ ww hm88 => ?_)
 refine Zr (WL.s ((b_boxd q q (Zs _)).does) (Zw q) q q (Za q q (Zn (Zr (Zq (y_loadN q q a135 s135 q) q (Zq (y_loadcN q a45 s45 q) q ?_))))))
 obtain ⟨r91, hr91, h⟩ := bindS h
 exact WL.fn q q q q (f78_c _ _ hr91) ⟨(Le.agd ⟨Zl, Zl, Zl, Zl, Zl, Zl, Zl, Zl, Zl, Zl, Zl, Zt⟩), Zl, Zt⟩ (Zw q) q q (Zq (y_not q) q (Za q q (Zn (wc_ret (we_ret (rs1 q (rv_t q)) ⟨(!r91), h, Zl, ⟨Zp, Zf, Zt⟩⟩)))))
 rintro rv st1 ⟨t89, h, hr, hst⟩
 subst hk90
 dsimp only at h
 refine WL.cast 16 q hr (WL.weak hst (Zn (wc_cond q (fun hc15 => ?_) (fun hc15 => ?_))))
 replace h := condT h hc15
 exact Zr (Zm q q (Za q q (Zn (wc_ret (we_blk_ret (we_seq_ret (we_lp_ret (we_blk_ret (we_lp_ret (we_ret (rs1 q (rv_t q)) ⟨t85, h, Zl, ⟨Zp, Zf, Zt⟩⟩))))))))))
 replace h := condF h hc15
 exact wc_skip (we_blk (we_seq (wc_region (Zq (y_add q q q) q (Zm q q (WL.nil (we_lp ⟨n, ⟨(IntKind.i64.wrap (t85 + 1)), h, (Sx q (Sx q (Sx q (Sx q (Sub.nil _))))), ⟨Zp, Zf, Zt⟩⟩, Nat.lt_succ_self n⟩)))))))
 replace h := condF h hc14
 exact wc_exit (we_seq_exit (we_lp_exit (we_blk_hit (we_lp ⟨h, (Sub.nil _), ⟨Zp, Zf, Zt⟩⟩))))
 rintro env1 st1 ⟨h, hsub, hst⟩
 subst hk83
 dsimp only at h
 refine WC.sub hsub (WC.weak hst ?_)
 exact Zr (Za q q (Zn (wc_ret (we_ret (rs1 q (rv_t q)) ⟨(-1), h, Zl, ⟨Zp, Zf, Zt⟩⟩))))
 rintro rv st1 ⟨t81, h, hr, hst⟩
 subst hk82
 dsimp only at h
 exact WL.cast 7 q hr (WL.weak hst (Zq (y_geq q q) q (Za q q (Zn (wc_ret (we_ret (rs1 q (rv_t q)) ⟨(decide (t81 ≥ 0)), h, Zl, ⟨Zp, Zf, Zt⟩⟩))))))
 rintro rv st1 ⟨t78, h, hr, hst⟩
 subst hk79
 dsimp only at h
 refine WL.cast 61 q hr (WL.weak hst (Zq (y_not q) q (Za q q (Zn (wc_ret ?_)))))
 obtain rfl := Oi h
 exact we_ret_fn (rs1 q (rv_t q)) Zl
 replace h := condF h hc5
 refine Zr (Za q q (Zn (wc_ret (we_blk_ret (we_seq_ret ?_)))))
 obtain rfl := Oi h
 exact we_ret_fn (rs1 q (rv_t q)) Zl
theorem f102_c  {r : Rs Unit} (h : f102  = some r) : CtrP Tryz.prog 102 [] [] (WinG 0 (fun r' new => ∃ (z : Unit), r = .ok z ∧ r' = .d (.tu []) ∧ new = [])) (WinGP 0 (fun c new => ∃ (ee : Int), r = .bad ee ∧ c = wrongP ee ∧ new = [])) := by
 unfold f102 at h
 refine ctrP_intro Tryz.func102 (by kernel_rfl) q q q (fun mm φφ ww hmm => ?_)
 refine wc_regionP (WLP.pre 2 (Zq (y_build p118 z118 q q) q (Zq (y_makeInterface (p := .ag (R118 (Wrong.mk 280))) (by kernel_rfl) q (Le.agd ⟨Zl, Zt⟩)) q (WL.nil (WLP.pan q q ?_)))))
 obtain rfl := Oi h
 exact we_pan_g (new := []) q Zt ⟨_, q, q, q⟩

theorem f145_c (s0 : List Int) (v1 : Int) {r : Int} (h : f145 s0 v1 = some r) : Pu Tryz.prog 145 [.sl (List.map E3 s0), .i .i64 v1] (.i .i64 r) := by
 unfold f145 at h
 refine fn_intro Tryz.func145 (by kernel_rfl) q q q (fun φφ ww => ?_)
 refine Zr (Za q q (Zn ?_))
 replace h := letkS h
 obtain ⟨k22, hk22, h⟩ := h
 refine wc_cut (fun env' st' => k22 () = some r ∧ Sub [] env' ∧ SLe st' []) ?_ ?_
 refine Zr (Zm q q (Zq (y_len_map E3 s0 e96 q q Zl) q (Zm q q (Zn (wc_block (wc_loop (fun n env' st' => ∃ (t24 : Int), f145_l1 s0 v1 k22 n t24 = some r ∧ Sub [(0, .l E3 s0), (1, .n v1), (7, .n (List.length s0 : Int)), (8, .n t24)] env' ∧ SLe st' []) (fun n => n) (Int.toNat ((List.length s0 : Int) - 0) + 1) ⟨0, h, (Sx q (Sx q (Sx q (Sx q (Sub.nil _))))), Zt⟩ ?_))))))
 rintro n env1 st1 ⟨t24, h, hsub, hst⟩
 rcases n with _ | n
 rw [f145_l1] at h; cases h
 rw [f145_l1] at h
 refine WC.sub hsub (WC.weak hst ?_)
 refine Zr (Zq (y_lss q q) q (Zn (wc_seq (wc_cond q (fun hc1 => ?_) (fun hc1 => ?_)))))
 replace h := condT h hc1
 refine wc_skip (we_seq (wc_seq (wc_block (Zr (Zm q q (Za q q (Zn (Zr (Zm q q (Zm q q (Zm q q ?_)))))))))))
 obtain ⟨x26, hx26, h⟩ := bindS h
 refine Zq (y_indexAddr e96 q Zl q (idx_nonneg hx26) (idx_row E3_eq hx26) q) q (Zq (y_loadc q a3 q) q (Zq (y_eql q q) q (Zn (wc_cond q (fun hc2 => ?_) (fun hc2 => ?_)))))
 replace h := condT h hc2
 refine Zr (Zm q q (Za q q (Zn (wc_ret (we_blk_ret (we_seq_ret (we_lp_ret (we_blk_ret (we_lp_ret ?_)))))))))
 obtain rfl := Oi h
 exact we_ret_fn (rs1 q (rv_t q)) Zl
 replace h := condF h hc2
 exact wc_skip (we_blk (we_seq (wc_region (Zq (y_add q q q) q (Zm q q (WL.nil (we_lp ⟨n, ⟨(IntKind.i64.wrap (t24 + 1)), h, (Sx q (Sx q (Sx q (Sx q (Sub.nil _))))), Zt⟩, Nat.lt_succ_self n⟩)))))))
 replace h := condF h hc1
 exact wc_exit (we_seq_exit (we_lp_exit (we_blk_hit (we_lp ⟨h, (Sub.nil _), Zt⟩))))
 rintro env1 st1 ⟨h, hsub, hst⟩
 subst hk22
 dsimp only at h
 refine WC.sub hsub (WC.weak hst ?_)
 refine Zr (Za q q (Zn (wc_ret ?_)))
 obtain rfl := Oi h
 exact we_ret_fn (rs1 q (rv_t q)) Zl

theorem f104_c (s0 : List Int) (v1 : Int) {r : Bool} (h : f104 s0 v1 = some r) : Pu Tryz.prog 104 [.sl (List.map E3 s0), .i .i64 v1] (.b r) := by
 unfold f104 at h
 refine fn_intro Tryz.func104 (by kernel_rfl) q q q (fun φφ ww => ?_)
 refine Zr (Za q q (Zn (Zr (Zm q q (Zm q q ?_)))))
 obtain ⟨r12, hr12, h⟩ := bindS h
 refine WL.fn q q q q (f145_c _ _ hr12) ⟨Zl, Zl, Zt⟩ (Zw q) q q (Zq (y_geq q q) q (Za q q (Zn (wc_ret ?_))))
 obtain rfl := Oi h
 exact we_ret_fn (rs1 q (rv_t q)) Zl

theorem f63_c (o0 : Obj) (v1 : Int) {r : Bool} (h : f63 o0 v1 = some r) : Pu Tryz.prog 63 [.ag (R101 o0), .i .i64 v1] (.b r) := by
 unfold f63 at h
 refine fn_intro Tryz.func63 (by kernel_rfl) q q q (fun φφ ww => ?_)
 refine Zr (WL.s ((b_boxd q q (Zs _)).does) (Zw q) q q (Za q q (Zn (wc_seq (Zr (Zq (y_fieldAddrc f101_3 q) q (Zq (y_loadc q a4 q) q (Zn (wc_cond q (fun hc1 => ?_) (fun hc1 => ?_))))))))))
 replace h := condT h hc1
 refine Zr (Zm q q (Zq (y_eql q q) q (Zm q q ?_)))
 obtain ⟨b33, hb33, h⟩ := bindS h
 apply WL.grp 10 (t := 9) (d := 19) (z := b33)
 exact q
 intro hg9
 have h := condT hb33 hg9
 refine WL.skips 9 q (Zq (y_pick_t q q) q ?_)
 obtain rfl := Oi h
 exact WL.nil ⟨q, [_, _, _, _, _, _, _, _, _, _], q, q, q⟩
 intro hg9
 have h := condF hb33 hg9
 refine Zy (y_fieldAddrc f101_4 q) q q q (Zy (y_loadc q a96 q) q q q (Zy (y_move q) q q q (Zy (y_sub q q q) q q q ?_)))
 obtain ⟨r34, hr34, h⟩ := bindS h
 refine WL.fn q q q q (f104_c _ _ hr34) ⟨Zl, Zl, Zt⟩ (Wt.yes q q q) q q (Zy (y_move q) q q q ?_)
 apply WL.and 3 (t := 15) (d := 18)
 exact q
 intro hg15
 exact Zy (y_move q) q q q (Zy (y_gtr q q) q q q (Zy (y_pick_t q q) q q q (WL.nil ⟨q, [_, _, _], q, q, q⟩)))
 exact WL.skips 2 q (Zy (y_pick_f q q) q q q (WL.nil ⟨q, [_, _, _], q, q, q⟩))
 refine Zq (y_pick_f q q) q ?_
 obtain rfl := Oi h
 exact WL.nil ⟨q, [_, _, _, _, _, _, _, _], q, q, q⟩
 refine Za q q (Zn (wc_ret (we_seq_ret ?_)))
 obtain rfl := Oi h
 exact we_ret_fn (rs1 q (rv_t q)) Zl
 replace h := condF h hc1
 refine wc_skip (we_seq (Zr (Zm q q (Zq (y_fieldAddrc f101_1 q) q (Zq (y_loadc q a2 q) q (Zq (y_geq q q) q (Zm q q ?_)))))))
 apply WL.and 5 (t := 24) (d := 29)
 exact q
 intro hg24
 exact Zy (y_move q) q q q (Zy (y_fieldAddrc f101_2 q) q q q (Zy (y_loadc q a2 q) q q q (Zy (y_leq q q) q q q (Zq (y_pick_t q q) q (WL.nil ⟨q, [_, _, _, _, _], q, q, q⟩)))))
 exact WL.skips 4 q (Zq (y_pick_f q q) q (WL.nil ⟨q, [_, _, _, _, _], q, q, q⟩))
 refine Za q q (Zn (wc_ret ?_))
 obtain rfl := Oi h
 exact we_ret_fn (rs1 q (rv_t q)) Zl

theorem f67_c (o0 : Int) : Pu Tryz.prog 67 [.i .u8 o0] (.b (f67 o0)) := by
 generalize h : f67 o0 = r
 unfold f67 at h
 refine fn_intro Tryz.func67 (by kernel_rfl) q q q (fun φφ ww => ?_)
 refine Zr (Za q q (Zn (Zr (Zm q q (Zq (y_geq q q) q (Zm q q ?_))))))
 apply WL.and 3 (t := 5) (d := 8)
 exact q
 intro hg5
 exact Zy (y_move q) q q q (Zy (y_lss q q) q q q (Zq (y_pick_t q q) q (WL.nil ⟨q, [_, _, _], q, q, q⟩)))
 exact WL.skips 2 q (Zq (y_pick_f q q) q (WL.nil ⟨q, [_, _, _], q, q, q⟩))
 refine Za q q (Zn (wc_ret ?_))
 subst h
 exact we_ret_fn (rs1 q (rv_t q)) Zl

theorem f36_c (o0 : Int) : Pu Tryz.prog 36 [.i .u8 o0] (.b (f36 o0)) := by
 generalize h : f36 o0 = r
 unfold f36 at h
 refine fn_intro Tryz.func36 (by kernel_rfl) q q q (fun φφ ww => ?_)
 refine Zr (Za q q (Zn (Zr (Zm q q (Zq (y_neq q q) q (Zm q q ?_))))))
 apply WL.and 3 (t := 5) (d := 8)
 exact q
 intro hg5
 exact Zy (y_move q) q q q (Zy (y_lss q q) q q q (Zq (y_pick_t q q) q (WL.nil ⟨q, [_, _, _], q, q, q⟩)))
 exact WL.skips 2 q (Zq (y_pick_f q q) q (WL.nil ⟨q, [_, _, _], q, q, q⟩))
 refine Zm q q ?_
 apply WL.and 4 (t := 9) (d := 13)
 exact q
 intro hg9
 exact Zy (y_move q) q q q (WL.fn q q q q (f67_c _) ⟨Zl, Zt⟩ (Wt.yes q q q) q q (Zy (y_not q) q q q (Zq (y_pick_t q q) q (WL.nil ⟨q, [_, _, _, _], q, q, q⟩))))
 exact WL.skips 3 q (Zq (y_pick_f q q) q (WL.nil ⟨q, [_, _, _, _], q, q, q⟩))
 refine Za q q (Zn (wc_ret ?_))
 subst h
 exact we_ret_fn (rs1 q (rv_t q)) Zl

theorem f131_c (tR : Nat → Int) (tP : Int) (tX : Int) (tD : Int) (mI : List Insn) (mH : List MHandler) (mO : List Obj) (mE : Int) (mN : List Int) (mS : List (List Int)) (mU : List Int) (tA : List Act) {vo : Nat} {vf : Nat} {vu : Nat} {va : Nat} {r : Rs ((Nat → Int) × Int × Int × Int)} (h : f131 tR tP tX tD mI mH mO mE mN mS mU tA = some r) : CtrP Tryz.prog 131 [.pt 0 0] (wT tR tP tX tD va mI mH mO mE vo mN vu vf mS mU tA) (WinG 6 (fun r' new => ∃ (z : (Nat → Int) × Int × Int × Int), r = .ok z ∧ r' = .d (.tu []) ∧ new = [.row 116 (([.pt 1 0] : List AV) ++ (vecA 16 (fun j => .n (z.1 j)) ++ ([.n z.2.1, .n z.2.2.1, .n z.2.2.2, .os 5 va] : List AV) : List AV)), .row 90 (mR mI mH mO mE 2 vo mN 4 vu), .os 42 1 vo (famE 3 vf (List.length mS)), .fam 2 1 vf (famM E2 mS), .os 2 1 vu (eM E2 mU), .os 58 6 va (eM R58 tA)])) (WinGP 6 (fun c new => ∃ (ee : Int), r = .bad ee ∧ c = wrongP ee ∧ new = (wD mI mH mO mE vo mN vu vf mS mU))) := by
 unfold f131 at h
 refine ctrP_intro Tryz.func131 (by kernel_rfl) q q q (fun mm φφ ww hmm => ?_)
 refine Zr (Zm q q (Zq (y_nilCheckp q) q (Zq (y_fieldAddr f116_1 q) q (Zq (y_fieldAddr f41_1 q) q (Zq (y_load q q a3 q) q (Zq (y_add q q q) q (Zq (y_nilCheckp q) q (Zq (y_fieldAddr f116_1 q) q (Zq (y_fieldAddr f41_1 q) q (WL.s0 (d_store q q q q q q s3 q q) (Zw q) q (WL.st (st' := [.row 116 (([.pt 1 0] : List AV) ++ (vecA 16 (fun j => .n (tR j)) ++ ([.n (IntKind.i64.wrap (tP + 1)), .n tX, .n tD, .os 5 va] : List AV) : List AV)), .row 90 (mR mI mH mO mE 2 vo mN 4 vu), .os 42 1 vo (famE 3 vf (List.length mS)), .fam 2 1 vf (famM E2 mS), .os 2 1 vu (eM E2 mU), .os 58 6 va (eM R58 tA)]) q (Zn (wc_seq (wc_region_draw (by kernel_rfl) (by kernel_rfl) (WQ.qn (y_move q) q (WQ.qn (y_nilCheckp q) q (WQ.qn (y_fieldAddr f116_1 q) q (WQ.qn (y_fieldAddr f41_1 q) q (WQ.qn (y_load q q a3 q) q (WQ.qn (y_move q) q (WQ.qn (y_nilCheckp q) q ?_)))))))))))))))))))))
 refine WQ.qn (y_fieldAddr f116_0 q) q (WQ.qn (y_load q q a46 q) q (WQ.qn (y_nilCheckp q) q (WQ.qn (y_fieldAddr f90_0 q) q (WQ.qn (y_load q q a23 q) q (WQ.qn (y_len_map E45 mI e23 q q Zl) q (WQ.qn (y_eql q q) q (WQ.nil (we_seq (wc_cond q (fun hc1 => ?_) (fun hc1 => ?_))))))))))
 replace h := condT h hc1
 refine wc_regionP (WLP.wing [] q q q q (f102_c  (r := Rs.bad 280) q) Zt q (by decide) q Zt q q (Zw q) q q (fun r' new hS => ?_) (fun c new hS => ?_))
 obtain ⟨z9, hz, _⟩ := hS
 cases hz
 obtain ⟨z9, hz, rfl, rfl⟩ := hS
 obtain rfl := Rs.bad.inj hz
 refine ⟨_, q, q, ?_⟩
 obtain rfl := Oi h
 exact we_pan_g (new := (wD mI mH mO mE vo mN vu vf mS mU)) q ⟨Zt, Zp, Zf, Zf, Zf, Zt, Zt⟩ ⟨_, q, q, q⟩
 replace h := condF h hc1
 refine wc_skip (we_endP ?_)
 obtain rfl := Oi h
 exact WE.finP (we_ret_g (new := [.row 116 (([.pt 1 0] : List AV) ++ (vecA 16 (fun j => .n (tR j)) ++ ([.n (IntKind.i64.wrap (tP + 1)), .n tX, .n tD, .os 5 va] : List AV) : List AV)), .row 90 (mR mI mH mO mE 2 vo mN 4 vu), .os 42 1 vo (famE 3 vf (List.length mS)), .fam 2 1 vf (famM E2 mS), .os 2 1 vu (eM E2 mU), .os 58 6 va (eM R58 tA)]) (r0 := .d (.tu [])) (res0 q) (Le.tud Zt) q ⟨Zp, Zp, Zf, Zf, Zf, Zf, Zt⟩ ⟨_, q, q, q⟩)

theorem f59_c (tR : Nat → Int) (tP : Int) (tX : Int) (tD : Int) (mI : List Insn) (mH : List MHandler) (mO : List Obj) (mE : Int) (mN : List Int) (mS : List (List Int)) (mU : List Int) (tA : List Act) (c1 : Int) {vo : Nat} {vf : Nat} {vu : Nat} {va : Nat} {r : Rs ((Nat → Int) × Int × Int × Int)} (h : f59 tR tP tX tD mI mH mO mE mN mS mU tA c1 = some r) : CtrP Tryz.prog 59 [.pt 0 0, .n c1] (wT tR tP tX tD va mI mH mO mE vo mN vu vf mS mU tA) (WinG 6 (fun r' new => ∃ (z : (Nat → Int) × Int × Int × Int), r = .ok z ∧ r' = .d (.tu []) ∧ new = [.row 116 (([.pt 1 0] : List AV) ++ (vecA 16 (fun j => .n (z.1 j)) ++ ([.n z.2.1, .n z.2.2.1, .n z.2.2.2, .os 5 va] : List AV) : List AV)), .row 90 (mR mI mH mO mE 2 vo mN 4 vu), .os 42 1 vo (famE 3 vf (List.length mS)), .fam 2 1 vf (famM E2 mS), .os 2 1 vu (eM E2 mU), .os 58 6 va (eM R58 tA)])) (WinGP 6 (fun c new => ∃ (ee : Int), r = .bad ee ∧ c = wrongP ee ∧ new = (wD mI mH mO mE vo mN vu vf mS mU))) := by
 unfold f59 at h
 refine ctrP_intro Tryz.func59 (by kernel_rfl) q q q (fun mm φφ ww hmm => ?_)
 refine Zr (WL.s ((b_box q q).does) (Zw q) q q (WL.s ((b_boxd q q (by exact (show Les [.n c1] (List.map AV.d [.i .i64 c1]) from ⟨Zl, Zt⟩))).does) (Zw q) q q (Zn (Zr (Zq (y_load q q a114 q) q (Zq (y_nilCheckp q) q (Zq (y_fieldAddr f116_0 q) q (Zq (y_load q q a46 q) q (Zq (y_nilCheckp q) q (Zq (y_fieldAddr f90_1 q) q (Zq (y_load q q a29 q) q (Zq (y_makeFunc q q) q ?_))))))))))))
 obtain ⟨k63, hk63, h⟩ := letkS h
 refine WL.inl (us := [.l E108 mH, .fn (.func 101) [] [.pt 6 0, .d (.pc (E2 c1))]]) (fun rv st' => (∃ (t62 : Int), k63 t62 = some r ∧ Le rv (.n t62) ∧ SLe st' [.row 116 (tQ 1 tR tP tX tD 5 va), .row 90 (mR mI mH mO mE 2 vo mN 4 vu), .os 42 1 vo (famE 3 vf (List.length mS)), .fam 2 1 vf (famM E2 mS), .os 2 1 vu (eM E2 mU), .os 58 6 va (eM R58 tA), .row 114 [.pt 0 0]])) q q q q q ?_ (Zw q) q q ?_
 refine ctr_intro Tryz.func100 (by kernel_rfl) q q q (fun mm φφ ww hm61 => ?_)
 refine Zr (Za q q (Zn ?_))
 replace h := letkS h
 obtain ⟨k64, hk64, h⟩ := h
 refine wc_cut (fun env' st' => k64 () = some r ∧ Sub [] env' ∧ SLe st' [.row 116 (tQ 1 tR tP tX tD 5 va), .row 90 (mR mI mH mO mE 2 vo mN 4 vu), .os 42 1 vo (famE 3 vf (List.length mS)), .fam 2 1 vf (famM E2 mS), .os 2 1 vu (eM E2 mU), .os 58 6 va (eM R58 tA), .row 114 [.pt 0 0]]) ?_ ?_
 refine Zr (Zm q q (Zq (y_len_map E108 mH e29 q q Zl) q (Zm q q (Zn (wc_block (wc_loop (fun n env' st' => ∃ (t66 : Int), f59_l1 tP mH c1 k63 k64 n t66 = some r ∧ Sub [(0, .l E108 mH), (1, .fn (.func 101) [] [.pt 6 0, .d (.pc (E2 c1))]), (7, .n (List.length mH : Int)), (8, .n t66)] env' ∧ SLe st' [.row 116 (tQ 1 tR tP tX tD 5 va), .row 90 (mR mI mH mO mE 2 vo mN 4 vu), .os 42 1 vo (famE 3 vf (List.length mS)), .fam 2 1 vf (famM E2 mS), .os 2 1 vu (eM E2 mU), .os 58 6 va (eM R58 tA), .row 114 [.pt 0 0]]) (fun n => n) (Int.toNat ((List.length mH : Int) - 0) + 1) ⟨0, h, (Sx q (Sx q (Sx q (Sx q (Sub.nil _))))), ⟨Zp, Zp, Zf, Zf, Zf, Zf, Zp, Zt⟩⟩ ?_))))))
 rintro n env1 st1 ⟨t66, h, hsub, hst⟩
 rcases n with _ | n
 rw [f59_l1] at h; cases h
 rw [f59_l1] at h
 refine WC.sub hsub (WC.weak hst ?_)
 refine Zr (Zq (y_lss q q) q (Zn (wc_seq (wc_cond q (fun hc1 => ?_) (fun hc1 => ?_)))))
 replace h := condT h hc1
 refine wc_skip (we_seq (wc_seq (wc_block (Zr (Zm q q (Za q q (Zn (Zr (Zm q q (Zm q q (Zm q q ?_)))))))))))
 obtain ⟨x68, hx68, h⟩ := bindS h
 refine Zq (y_indexAddr e29 q Zl q (idx_nonneg hx68) (idx_row E108_eq hx68) q) q (Zq (y_loadcN q a108 s108 q) q ?_)
 obtain ⟨k70, hk70, h⟩ := letkS h
 refine WL.inl (us := [.d (.ag (R108 x68)), .pt 6 0, .d (.pc (E2 c1))]) (fun rv st' => (k70 () = some r ∧ Le rv (.d (D.b (((decide (x68.from_ ≤ tP)) && (decide (tP < x68.to))) && (x68.clean || (decide (c1 > 0)))))) ∧ SLe st' [.row 116 (tQ 1 tR tP tX tD 5 va), .row 90 (mR mI mH mO mE 2 vo mN 4 vu), .os 42 1 vo (famE 3 vf (List.length mS)), .fam 2 1 vf (famM E2 mS), .os 2 1 vu (eM E2 mU), .os 58 6 va (eM R58 tA), .row 114 [.pt 0 0]])) q q q q q ?_ (Zw q) q q ?_
 refine ctr_intro Tryz.func101 (by kernel_rfl) q q q (fun mm φφ ww hm69 => ?_)
 refine Zr (WL.s ((b_boxd q q (Zs _)).does) (Zw q) q q (Za q q (Zn (wc_seq (wc_region_draw (by kernel_rfl) (by kernel_rfl) (WQ.qn (y_fieldAddrc f108_0 q) q (WQ.qn (y_loadc q a3 q) q (WQ.qn (y_load q q a114 q) q (WQ.qn (y_nilCheckp q) q (WQ.qn (y_fieldAddr f116_1 q) q (WQ.qn (y_fieldAddr f41_1 q) q (WQ.qn (y_load q q a3 q) q (WQ.qn (y_leq q q) q (WQ.qn (y_move q) q ?_))))))))))))))
 apply WQ.and 9 (t := 13) (d := 22)
 exact q
 intro hg13
 exact WQ.qy (y_load q q a114 q) q q q (WQ.qy (y_nilCheckp q) q q q (WQ.qy (y_fieldAddr f116_1 q) q q q (WQ.qy (y_fieldAddr f41_1 q) q q q (WQ.qy (y_load q q a3 q) q q q (WQ.qy (y_fieldAddrc f108_1 q) q q q (WQ.qy (y_loadc q a3 q) q q q (WQ.qy (y_lss q q) q q q (WQ.qn (y_pick_t q q) q (WQ.nil ⟨[_, _, _, _, _, _, _, _, _], q, q, q⟩)))))))))
 exact WQ.skips 8 q (WQ.qn (y_pick_f q q) q (WQ.nil ⟨[_, _, _, _, _, _, _, _, _], q, q, q⟩))
 refine WQ.qn (y_move q) q ?_
 apply WQ.and 7 (t := 23) (d := 30)
 exact q
 intro hg23
 refine WQ.qy (y_fieldAddrc f108_3 q) q q q (WQ.qy (y_loadc q a4 q) q q q (WQ.qy (y_move q) q q q ?_))
 apply WQ.or 3 (t := 26) (d := 29)
 exact q
 intro hg26
 exact WQ.qy (y_loadc q a2 q) q q q (WQ.qy (y_gtr q q) q q q (WQ.qy (y_pick_f q q) q q q (WQ.nil ⟨[_, _, _], q, q, q⟩)))
 exact WQ.skips 2 q (WQ.qy (y_pick_t q q) q q q (WQ.nil ⟨[_, _, _], q, q, q⟩))
 exact WQ.qn (y_pick_t q q) q (WQ.nil ⟨[_, _, _, _, _], q, q, q⟩)
 exact WQ.skips 6 q (WQ.qn (y_pick_f q q) q (WQ.nil ⟨[_, _, _, _, _, _, _], q, q, q⟩))
 exact WQ.qn (y_assign q) q (WQ.nil (we_seq (wc_ret (we_ret (rs1 q (rv_t q)) ⟨h, Zl, ⟨Zp, Zp, Zf, Zf, Zf, Zf, Zp, Zt⟩⟩))))
 rintro rv st1 ⟨h, hr, hst⟩
 subst hk70
 dsimp only at h
 refine WL.cast 16 q hr (WL.weak hst (Zn (wc_cond q (fun hc2 => ?_) (fun hc2 => ?_))))
 replace h := condT h hc2
 exact Zr (Zm q q (Za q q (Zn (wc_ret (we_blk_ret (we_seq_ret (we_lp_ret (we_blk_ret (we_lp_ret (we_ret (rs1 q (rv_t q)) ⟨t66, h, Zl, ⟨Zp, Zp, Zf, Zf, Zf, Zf, Zp, Zt⟩⟩))))))))))
 replace h := condF h hc2
 exact wc_skip (we_blk (we_seq (wc_region (Zq (y_add q q q) q (Zm q q (WL.nil (we_lp ⟨n, ⟨(IntKind.i64.wrap (t66 + 1)), h, (Sx q (Sx q (Sx q (Sx q (Sub.nil _))))), ⟨Zp, Zp, Zf, Zf, Zf, Zf, Zp, Zt⟩⟩, Nat.lt_succ_self n⟩)))))))
 replace h := condF h hc1
 exact wc_exit (we_seq_exit (we_lp_exit (we_blk_hit (we_lp ⟨h, (Sub.nil _), ⟨Zp, Zp, Zf, Zf, Zf, Zf, Zp, Zt⟩⟩))))
 rintro env1 st1 ⟨h, hsub, hst⟩
 subst hk64
 dsimp only at h
 refine WC.sub hsub (WC.weak hst ?_)
 exact Zr (Za q q (Zn (wc_ret (we_ret (rs1 q (rv_t q)) ⟨(-1), h, Zl, ⟨Zp, Zp, Zf, Zf, Zf, Zf, Zp, Zt⟩⟩))))
 rintro rv st1 ⟨t62, h, hr, hst⟩
 subst hk63
 dsimp only at h
 refine WL.cast 14 q hr (WL.weak hst (Za q q (Zn (wc_seq (Zr (Zm q q (Zq (y_lss q q) q (Zn (wc_cond q (fun hc3 => ?_) (fun hc3 => ?_))))))))))
 replace h := condT h hc3
 refine wc_regionP (WLP.wing [] q q q q (f102_c  (r := Rs.bad 280) q) Zt q (by decide) q Zt q q (Zw q) q q (fun r' new hS => ?_) (fun c new hS => ?_))
 obtain ⟨z9, hz, _⟩ := hS
 cases hz
 obtain ⟨z9, hz, rfl, rfl⟩ := hS
 obtain rfl := Rs.bad.inj hz
 refine ⟨_, q, q, ?_⟩
 refine we_seq_pan ?_
 obtain rfl := Oi h
 exact we_pan_g (new := (wD mI mH mO mE vo mN vu vf mS mU)) q ⟨Zt, Zp, Zf, Zf, Zf, Zt, Zt⟩ ⟨_, q, q, q⟩
 replace h := condF h hc3
 refine wc_skip (we_seq (Zr (Zq (y_load q q a114 q) q (Zq (y_nilCheckp q) q (Zq (y_fieldAddr f116_0 q) q (Zq (y_load q q a46 q) q (Zq (y_nilCheckp q) q (Zq (y_fieldAddr f90_1 q) q (Zq (y_load q q a29 q) q (Zm q q ?_))))))))))
 obtain ⟨x75, hx75, h⟩ := bindS h
 refine Zq (y_indexAddr e29 q Zl q (idx_nonneg hx75) (idx_row E108_eq hx75) q) q (Zq (y_loadcN q a108 s108 q) q (WL.s ((b_alloc z108).does) (Zw q) q q (WL.s0 (d_store q q q q q q s108 q q) (Zw q) q (WL.st (st' := [.row 116 (tQ 1 tR tP tX tD 5 va), .row 90 (mR mI mH mO mE 2 vo mN 4 vu), .os 42 1 vo (famE 3 vf (List.length mS)), .fam 2 1 vf (famM E2 mS), .os 2 1 vu (eM E2 mU), .os 58 6 va (eM R58 tA), .row 114 [.pt 0 0], .row 108 [.n x75.from_, .n x75.to, .n x75.at_, .d (D.b x75.clean)]]) q (Zn (wc_seq ?_))))))
 apply wc_region_all [_, _, _, _, _, _, _, _, _, _, _, _, .u] [[], [], [1], [], [], [4], [4, 5], [4, 5, 6], [4, 5, 6, 7], [1, 2, 3, 4, 5, 6, 7, 8], [0, 1, 2, 3, 4, 5, 6, 7, 8, 9], [0, 1, 2, 3, 4, 5, 6, 7, 8, 9, 10], [0, 1, 2, 3, 4, 5, 6, 7, 8, 9, 10, 11]] [12] (fun c => List.getD [[.row 116 (tQ 1 tR tP tX tD 5 va), .row 90 (mR mI mH mO mE 2 vo mN 4 vu), .os 42 1 vo (famE 3 vf (List.length mS)), .fam 2 1 vf (famM E2 mS), .os 2 1 vu (eM E2 mU), .os 58 6 va (eM R58 tA), .row 114 [.pt 0 0], .row 108 [.n x75.from_, .n x75.to, .n x75.at_, .d (D.b x75.clean)]], [.row 116 [.pt 1 0, .n 0, .n 0, .n 0, .n 0, .n 0, .n 0, .n 0, .n 0, .n 0, .n 0, .n 0, .n 0, .n 0, .n 0, .n 0, .n 0, .n x75.at_, .n c1, .n tD, .os 5 va], .row 90 (mR mI mH mO mE 2 vo mN 4 vu), .os 42 1 vo (famE 3 vf (List.length mS)), .fam 2 1 vf (famM E2 mS), .os 2 1 vu (eM E2 mU), .os 58 6 va (eM R58 tA), .row 114 [.pt 0 0], .row 108 [.n x75.from_, .n x75.to, .n x75.at_, .d (D.b x75.clean)]]] c []) [([], [2], [0]), ([], [5], [0]), ([1], [], [0]), ([], [3], [0]), ([], [2], [0]), ([4], [], [0]), ([5], [], [0]), ([6], [], [0]), ([7], [], [0]), ([2, 3, 8], [], [0]), ([0], [], [0]), ([10], [], [0]), ([11, 9], [], [0])] (by kernel_rfl) (by kernel_rfl) q q q
 refine ⟨?_, ?_, ?_, ?_, ?_, ?_, ?_, ?_, ?_, ?_, ?_, ?_, ?_, Zt⟩
 refine ⟨fun F => ?_, Zt⟩
 exact Zq (y_load q q a114 q) q (Zd q q q)
 refine ⟨fun F => ?_, Zt⟩
 exact Zq (y_fieldAddr f108_2 q) q (Zd q q q)
 refine ⟨fun F => ?_, Zt⟩
 exact Zq (y_load q q a3 q) q (Zd q q q)
 refine ⟨fun F => ?_, Zt⟩
 exact Zq (y_loadc q a2 q) q (Zd q q q)
 refine ⟨fun F => ?_, Zt⟩
 exact Zq (y_load q q a114 q) q (Zd q q q)
 refine ⟨fun F => ?_, Zt⟩
 exact Zq (y_nilCheckp q) q (Zd q q q)
 refine ⟨fun F => ?_, Zt⟩
 exact Zq (y_fieldAddr f116_1 q) q (Zd q q q)
 refine ⟨fun F => ?_, Zt⟩
 exact Zq (y_fieldAddr f41_3 q) q (Zd q q q)
 refine ⟨fun F => ?_, Zt⟩
 exact Zq (y_load q q a3 q) q (Zd q q q)
 refine ⟨fun F => ?_, Zt⟩
 exact Zq (y_build p41 z41 q q) q (Zd q q q)
 refine ⟨fun F => ?_, Zt⟩
 exact Zq (y_nilCheckp q) q (Zd q q q)
 refine ⟨fun F => ?_, Zt⟩
 exact Zq (y_fieldAddr f116_1 q) q (Zd q q q)
 refine ⟨fun F => ?_, Zt⟩
 exact WL.s0 (d_store q q q q q q s41 q q) (Zw q) q (WL.done0 q q)
 refine we_seq ?_
 replace h := letkS h
 obtain ⟨k77, hk77, h⟩ := h
 refine wc_cut (fun env' st' => ∃ (c01976 : Int), k77 c01976 = some r ∧ Sub [(2, .pt 6 0)] env' ∧ SLe st' [.row 116 [.pt 1 0, .n 0, .n 0, .n 0, .n 0, .n 0, .n 0, .n 0, .n 0, .n 0, .n 0, .n 0, .n 0, .n 0, .n 0, .n 0, .n 0, .n x75.at_, .n c1, .n c01976, .os 5 va], .row 90 (mR mI mH mO mE 2 vo mN 4 vu), .os 42 1 vo (famE 3 vf (List.length mS)), .fam 2 1 vf (famM E2 mS), .os 2 1 vu (eM E2 mU), .os 58 6 va (eM R58 tA), .row 114 [.pt 0 0], .row 108 [.n x75.from_, .n x75.to, .n x75.at_, .d (D.b x75.clean)]]) ?_ ?_
 refine Zr (Zq (y_fieldAddr f108_3 q) q (Zq (y_load q q a4 q) q (Zn (wc_cond q (fun hc4 => ?_) (fun hc4 => ?_)))))
 replace h := condT h hc4
 refine wc_region (Zq (y_load q q a114 q) q (Zq (y_nilCheckp q) q (Zq (y_fieldAddr f116_1 q) q (Zq (y_fieldAddr f41_3 q) q (Zq (y_load q q a3 q) q (Zq (y_add q q q) q (Zq (y_nilCheckp q) q (Zq (y_fieldAddr f116_1 q) q (Zq (y_fieldAddr f41_3 q) q (WL.s0 (d_store q q q q q q s3 q q) (Zw q) q (WL.st (st' := [.row 116 [.pt 1 0, .n 0, .n 0, .n 0, .n 0, .n 0, .n 0, .n 0, .n 0, .n 0, .n 0, .n 0, .n 0, .n 0, .n 0, .n 0, .n 0, .n x75.at_, .n c1, .n (IntKind.i64.wrap (tD + 1)), .os 5 va], .row 90 (mR mI mH mO mE 2 vo mN 4 vu), .os 42 1 vo (famE 3 vf (List.length mS)), .fam 2 1 vf (famM E2 mS), .os 2 1 vu (eM E2 mU), .os 58 6 va (eM R58 tA), .row 114 [.pt 0 0], .row 108 [.n x75.from_, .n x75.to, .n x75.at_, .d (D.b x75.clean)]]) q (WL.nil ?_))))))))))))
 exact we_lp ⟨(IntKind.i64.wrap (tD + 1)), h, (Sx q (Sub.nil _)), ⟨Zp, Zp, Zf, Zf, Zf, Zf, Zp, Zp, Zt⟩⟩
 replace h := condF h hc4
 exact wc_skip (we_lp ⟨tD, h, (Sx q (Sub.nil _)), ⟨Zp, Zp, Zf, Zf, Zf, Zf, Zp, Zp, Zt⟩⟩)
 rintro env1 st1 ⟨c01976, h, hsub, hst⟩
 subst hk77
 dsimp only at h
 refine WC.sub hsub (WC.weak hst ?_)
 refine Zr (Zq (y_load q q a114 q) q (Zq (y_nilCheckp q) q (Zq (y_fieldAddr f116_1 q) q (Zq (y_fieldAddr f41_3 q) q (Zq (y_load q q a3 q) q (Zq (y_gtr q q) q (Zn (wc_cond q (fun hc5 => ?_) (fun hc5 => ?_)))))))))
 replace h := condT h hc5
 refine wc_regionP (WLP.wing [] q q q q (f102_c  (r := Rs.bad 280) q) Zt q (by decide) q Zt q q (Zw q) q q (fun r' new hS => ?_) (fun c new hS => ?_))
 obtain ⟨z9, hz, _⟩ := hS
 cases hz
 obtain ⟨z9, hz, rfl, rfl⟩ := hS
 obtain rfl := Rs.bad.inj hz
 refine ⟨_, q, q, ?_⟩
 obtain rfl := Oi h
 exact we_pan_g (new := (wD mI mH mO mE vo mN vu vf mS mU)) q ⟨Zt, Zp, Zf, Zf, Zf, Zt, Zt⟩ ⟨_, q, q, q⟩
 replace h := condF h hc5
 refine wc_skip (we_endP ?_)
 obtain rfl := Oi h
 exact WE.finP (we_ret_g (new := [.row 116 (([.pt 1 0] : List AV) ++ (vecA 16 (fun j => .n ((fun j => 0) j)) ++ ([.n x75.at_, .n c1, .n c01976, .os 5 va] : List AV) : List AV)), .row 90 (mR mI mH mO mE 2 vo mN 4 vu), .os 42 1 vo (famE 3 vf (List.length mS)), .fam 2 1 vf (famM E2 mS), .os 2 1 vu (eM E2 mU), .os 58 6 va (eM R58 tA)]) (r0 := .d (.tu [])) (res0 q) (Le.tud Zt) q ⟨Zp, Zp, Zf, Zf, Zf, Zf, Zt⟩ ⟨_, q, q, q⟩)

theorem f56_c (tR : Nat → Int) (tP : Int) (tX : Int) (tD : Int) (mI : List Insn) (mH : List MHandler) (mO : List Obj) (mE : Int) (mN : List Int) (mS : List (List Int)) (mU : List Int) (tA : List Act) (n1 : Int) {vo : Nat} {vf : Nat} {vu : Nat} {va : Nat} {r : Rs ((Nat → Int) × Int × Int × Int × (List Act))} (h : f56 tR tP tX tD mI mH mO mE mN mS mU tA n1 = some r) : CtrP Tryz.prog 56 [.pt 0 0, .n n1] (wT tR tP tX tD va mI mH mO mE vo mN vu vf mS mU tA) (WinG 6 (fun r' new => ∃ (z : (Nat → Int) × Int × Int × Int × (List Act)) (i5 : Nat), r = .ok z ∧ r' = .d (.tu []) ∧ new = [.row 116 (([.pt 1 0] : List AV) ++ (vecA 16 (fun j => .n (z.1 j)) ++ ([.n z.2.1, .n z.2.2.1, .n z.2.2.2.1, .os 5 i5] : List AV) : List AV)), .row 90 (mR mI mH mO mE 2 vo mN 4 vu), .os 42 1 vo (famE 3 vf (List.length mS)), .fam 2 1 vf (famM E2 mS), .os 2 1 vu (eM E2 mU), .os 58 6 i5 (eM R58 z.2.2.2.2)])) (WinGP 6 (fun c new => ∃ (ee : Int), r = .bad ee ∧ c = wrongP ee ∧ new = (wD mI mH mO mE vo mN vu vf mS mU))) := by
 unfold f56 at h
 refine ctrP_intro Tryz.func56 (by kernel_rfl) q q q (fun mm φφ ww hmm => ?_)
 refine wc_seq (wc_regionP (WLP.pre 2 (Zm q q (Zm q q (WL.nil ?_)))))
 obtain ⟨r21, hr21, h⟩ := bindS h
 rcases r21 with z22 | e23
 dsimp only [Rs.cs] at h
 refine WLP.wing [0, 1, 2, 3, 4, 5] q q q q (f59_c _ _ _ _ _ _ _ _ _ _ _ _ _ hr21) ⟨Zl, Zl, Zt⟩ q (by decide) (cons_eq q (cons_eq q (Rg (Rf (Ro (cons_eq (ren_os _ _ _ _ _ _) q)))))) ⟨q, q, q, q, q, q, Zt⟩ (stLt_cons q (stLt_cons q (Lg q (Lf (Lo (stLt_cons (lt_os _ _ _ _ _ _) q)))))) q (Zw q) q q (fun r' new hS => ?_) (fun c new hS => ?_)
 obtain ⟨z9, hz, rfl, rfl⟩ := hS
 obtain rfl := Rs.ok.inj hz
 refine ⟨_, _, q, (cons_eq q (cons_eq q (Rg (Rf (Ro (cons_eq (ren_os _ _ _ _ _ _) q)))))), q, (stLt_cons q (stLt_cons q (Lg q (Lf (Lo (stLt_cons (lt_os _ _ _ _ _ _) q)))))), WLP.of ?_⟩
 refine WL.st (st' := [.row 116 (([.pt 1 0] : List AV) ++ (vecA 16 (fun j => .n (z22.1 j)) ++ ([.n z22.2.1, .n z22.2.2.1, .n z22.2.2.2, .os 5 va] : List AV) : List AV)), .row 90 (mR mI mH mO mE 2 vo mN 4 vu), .os 42 1 vo (famE 3 vf (List.length mS)), .fam 2 1 vf (famM E2 mS), .os 2 1 vu (eM E2 mU), .os 58 6 va (eM R58 tA)]) q (Zn (wc_region (Zm q q (Zm q q (Zq (y_nilCheckp q) q (Zq (y_fieldAddr f116_2 q) q (Zq (y_load q q a50 q) q (Zm q q (Zq (y_build p58 z58 q q) q (WL.s ((NewOs.b (n_buildSlice l50 z58 q (by decide) (by decide) q q q (by decide))).does) (Zw q) q q ?_))))))))))
 replace h := guardBS h
 obtain ⟨hgg25, h⟩ := h
 refine WL.s (d_appendL R58 tA [(Act.mk 0 0 5 n1 0 0)] l50 z58 q (by decide) q q q q (Src.own q) (fun _ => q) (fun _ => q) hgg25) (Zw q) q q (Zq (y_nilCheckp q) q (Zq (y_fieldAddr f116_2 q) q (WL.s0 (d_store1 q q q (one_os q) s50 q) (Zw q) q (WL.st (st' := [.row 116 (([.pt 1 0] : List AV) ++ (vecA 16 (fun j => .n (z22.1 j)) ++ ([.n z22.2.1, .n z22.2.2.1, .n z22.2.2.2, .os 5 (va + 1)] : List AV) : List AV)), .row 90 (mR mI mH mO mE 2 vo mN 4 vu), .os 42 1 vo (famE 3 vf (List.length mS)), .fam 2 1 vf (famM E2 mS), .os 2 1 vu (eM E2 mU), .os 58 6 (va + 1) (eM R58 (tA ++ [(Act.mk 0 0 5 n1 0 0)])), .os 58 6 0 (eM R58 [(Act.mk 0 0 5 n1 0 0)])]) q (WL.nil (we_endP ?_))))))
 obtain rfl := Oi h
 exact WE.finP (we_ret_g (new := [.row 116 (([.pt 1 0] : List AV) ++ (vecA 16 (fun j => .n (z22.1 j)) ++ ([.n z22.2.1, .n z22.2.2.1, .n z22.2.2.2, .os 5 (va + 1)] : List AV) : List AV)), .row 90 (mR mI mH mO mE 2 vo mN 4 vu), .os 42 1 vo (famE 3 vf (List.length mS)), .fam 2 1 vf (famM E2 mS), .os 2 1 vu (eM E2 mU), .os 58 6 (va + 1) (eM R58 (tA ++ [(Act.mk 0 0 5 n1 0 0)]))]) (r0 := .d (.tu [])) (res0 q) (Le.tud Zt) q ⟨Zp, Zp, Zf, Zf, Zf, Zf, Zt⟩ ⟨_, (va + 1), q, q, q⟩)
 obtain ⟨z9, hz, _⟩ := hS
 cases hz
 dsimp only [Rs.cs] at h
 refine WLP.wing [0, 1, 2, 3, 4, 5] q q q q (f59_c _ _ _ _ _ _ _ _ _ _ _ _ _ hr21) ⟨Zl, Zl, Zt⟩ q (by decide) (cons_eq q (cons_eq q (Rg (Rf (Ro (cons_eq (ren_os _ _ _ _ _ _) q)))))) ⟨q, q, q, q, q, q, Zt⟩ (stLt_cons q (stLt_cons q (Lg q (Lf (Lo (stLt_cons (lt_os _ _ _ _ _ _) q)))))) q (Zw q) q q (fun r' new hS => ?_) (fun c new hS => ?_)
 obtain ⟨z9, hz, _⟩ := hS
 cases hz
 obtain ⟨z9, hz, rfl, rfl⟩ := hS
 obtain rfl := Rs.bad.inj hz
 refine ⟨_, (cons_eq q (cons_eq q (Rg (Rf (Ro (cons_eq q q)))))), (stLt_cons q (stLt_cons q (Lg q (Lf (Lo (stLt_cons q q)))))), ?_⟩
 refine WE.sto (st' := (wD mI mH mO mE vo mN vu vf mS mU)) q (we_seq_pan ?_)
 obtain rfl := Oi h
 exact we_pan_g (new := (wD mI mH mO mE vo mN vu vf mS mU)) q ⟨Zt, Zp, Zf, Zf, Zf, Zt, Zt⟩ ⟨_, q, q, q⟩

theorem f81_c (tR : Nat → Int) (tP : Int) (tX : Int) (tD : Int) (mI : List Insn) (mH : List MHandler) (mO : List Obj) (mE : Int) (mN : List Int) (mS : List (List Int)) (mU : List Int) (tA : List Act) (x1 : Insn) {vo : Nat} {vf : Nat} {vu : Nat} {va : Nat} {r : Rs ((Nat → Int) × Int × Int × Int)} (h : f81 tR tP tX tD mI mH mO mE mN mS mU tA x1 = some r) : CtrP Tryz.prog 81 [.pt 0 0, .d (.ag (R45 x1))] (wT tR tP tX tD va mI mH mO mE vo mN vu vf mS mU tA) (WinG 6 (fun r' new => ∃ (z : (Nat → Int) × Int × Int × Int), r = .ok z ∧ r' = .d (.tu []) ∧ new = [.row 116 (([.pt 1 0] : List AV) ++ (vecA 16 (fun j => .n (z.1 j)) ++ ([.n z.2.1, .n z.2.2.1, .n z.2.2.2, .os 5 va] : List AV) : List AV)), .row 90 (mR mI mH mO mE 2 vo mN 4 vu), .os 42 1 vo (famE 3 vf (List.length mS)), .fam 2 1 vf (famM E2 mS), .os 2 1 vu (eM E2 mU), .os 58 6 va (eM R58 tA)])) (WinGP 6 (fun c new => ∃ (ee : Int), r = .bad ee ∧ c = wrongP ee ∧ new = (wD mI mH mO mE vo mN vu vf mS mU))) := by
 unfold f81 at h
 refine ctrP_intro Tryz.func81 (by kernel_rfl) q q q (fun mm φφ ww hmm => ?_)
 refine Zr (WL.s ((b_boxd q q (Zs _)).does) (Zw q) q q (Zn (wc_seq (wc_regionP (WLP.pre 2 (Zm q q (Zq (y_loadcN q a45 s45 q) q (WL.nil ?_))))))))
 obtain ⟨k28, hk28, h⟩ := letkS h
 obtain ⟨k37, hk37, h⟩ := letkS h
 refine WLP.inl (us := [.pt 0 0, .d (.ag (R45 x1))]) (fun rv st' => (∃ (t29 : Obj), ∃ (o30 : Int), ∃ (k31 : Int), ∃ (c6032 : Int), ∃ (c6133 : Int), ∃ (c6234 : Int), ∃ (c6335 : Bool), ∃ (c6436 : List Int), k37 t29 o30 k31 c6032 c6133 c6234 c6335 c6436 = some r ∧ Le rv (.tu [.pem 3 (Int.toNat o30) vf (Int.toNat k31 * 1), .d (.ag (R101 t29))]) ∧ SLe st' [.row 116 (tQ 1 tR tP tX tD 5 va), .row 90 (mR mI mH mO mE 2 vo mN 4 vu), .os 42 1 vo (famE 3 vf (List.length mS)), .fam 2 1 vf (famM E2 mS), .os 2 1 vu (eM E2 mU), .os 58 6 va (eM R58 tA), .row 101 [.n c6032, .n c6133, .n c6234, .d (D.b c6335), .l E3 c6436]])) (fun c st' => (k28 () = some r ∧ c = wrongP 280 ∧ SLe st' [.row 116 (tQ 1 tR tP tX tD 5 va), .row 90 (mR mI mH mO mE 2 vo mN 4 vu), .os 42 1 vo (famE 3 vf (List.length mS)), .fam 2 1 vf (famM E2 mS), .os 2 1 vu (eM E2 mU), .os 58 6 va (eM R58 tA), .row 101 [.n 0, .n 0, .n 0, .d (D.b false), sN]])) q q q q q ?_ (Zw q) q q ?_ ?_
 refine ctrP_intro Tryz.func130 (by kernel_rfl) q q q (fun mm φφ ww hm27 => ?_)
 refine Zr (WL.s ((b_boxd q q (Zs _)).does) (Zw q) q q (Za q q (WL.s ((b_alloc z101).does) (Zw q) q q (Zn (wc_seq (wc_region_draw (by kernel_rfl) (by kernel_rfl) (WQ.qn (y_fieldAddrc f45_4 q) q (WQ.qn (y_loadc q a2 q) q (WQ.qn (y_fieldAddrc f45_5 q) q (WQ.qn (y_loadc q a2 q) q (WQ.qn (y_assign q) q (WQ.qn (y_assign q) q (WQ.nil (we_seq (wc_seq (wc_region_draw (by kernel_rfl) (by kernel_rfl) (WQ.qn (y_move q) q (WQ.qn (y_fieldAddrc f45_2 q) q (WQ.qn (y_loadc q a3 q) q (WQ.qn (y_nilCheckp q) q (WQ.qn (y_fieldAddr f116_1 q) q (WQ.qn (y_fieldAddr f41_0 q) q ?_))))))))))))))))))))))
 replace h := guardBS h
 obtain ⟨hgg38, h⟩ := h
 refine WQ.qn (y_indexAddra ar39 q q (vecOk_0 hgg38) (vecOk_1 hgg38)) q (WQ.qn (y_loadV (off := 1) (n := 16) (fun j => .n (tR j)) q q a2 q hgg38) q (WQ.qn (y_assign q) q (WQ.nil (we_seq ?_))))
 replace h := letkS h
 obtain ⟨k41, hk41, h⟩ := h
 refine wc_cut (fun env' st' => ∃ (o39 : Int), ∃ (k40 : Int), k41 o39 k40 = some r ∧ Sub [(0, .pt 0 0), (5, .pt 6 0), (6, .n o39), (7, .n k40)] env' ∧ SLe st' [.row 116 (tQ 1 tR tP tX tD 5 va), .row 90 (mR mI mH mO mE 2 vo mN 4 vu), .os 42 1 vo (famE 3 vf (List.length mS)), .fam 2 1 vf (famM E2 mS), .os 2 1 vu (eM E2 mU), .os 58 6 va (eM R58 tA), .row 101 [.n 0, .n 0, .n 0, .d (D.b false), sN]]) ?_ ?_
 refine Zr (Zq (y_fieldAddrc f45_0 q) q (Zq (y_loadc q a43 q) q (Zn (wc_block ?_))))
 replace h := letkS h
 obtain ⟨k43, hk43, h⟩ := h
 refine wc_cut (fun env' st' => ∃ (t42 : Bool), k43 t42 = some r ∧ Sub [(0, .pt 0 0), (3, .d (.pc (R45 x1))), (5, .pt 6 0), (6, .n x1.n), (7, .n x1.m), (8, .n (tR (Int.toNat x1.a))), (23, .d (D.i .u8 x1.op)), (24, .d (D.b t42))] env' ∧ SLe st' [.row 116 (tQ 1 tR tP tX tD 5 va), .row 90 (mR mI mH mO mE 2 vo mN 4 vu), .os 42 1 vo (famE 3 vf (List.length mS)), .fam 2 1 vf (famM E2 mS), .os 2 1 vu (eM E2 mU), .os 58 6 va (eM R58 tA), .row 101 [.n 0, .n 0, .n 0, .d (D.b false), sN]]) ?_ ?_
 refine Zr (Zq (y_eql q q) q (Za q q (Zn (wc_cond q (fun hc1 => ?_) (fun hc1 => ?_)))))
 replace h := condT h hc1
 exact wc_skip (we_lp ⟨(decide (x1.op = 5)), h, (Sx q (Sx q (Sx q (Sx q (Sx q (Sx q (Sx q (Sx q (Sub.nil _))))))))), ⟨Zp, Zp, Zf, Zf, Zf, Zf, Zp, Zt⟩⟩)
 replace h := condF h hc1
 exact wc_region (Zq (y_eql q q) q (Za q q (WL.nil (we_lp ⟨(decide (x1.op = 6)), h, (Sx q (Sx q (Sx q (Sx q (Sx q (Sx q (Sx q (Sx q (Sub.nil _))))))))), ⟨Zp, Zp, Zf, Zf, Zf, Zf, Zp, Zt⟩⟩))))
 rintro env1 st1 ⟨t42, h, hsub, hst⟩
 subst hk43
 dsimp only at h
 refine WC.sub hsub (WC.weak hst ?_)
 refine wc_cond q (fun hc2 => ?_) (fun hc2 => ?_)
 replace h := condT h hc2
 refine wc_seq (Zr (Zm q q (Zq (y_lss q q) q (Zm q q ?_))))
 apply WL.or 5 (t := 29) (d := 34)
 exact q
 intro hg29
 exact Zy (y_move q) q q q (Zy (y_fieldAddrc f45_3 q) q q q (Zy (y_loadc q a3 q) q q q (Zy (y_geq q q) q q q (Zq (y_pick_f q q) q (WL.nil ⟨q, [_, _, _, _, _], q, q, q⟩)))))
 exact WL.skips 4 q (Zq (y_pick_t q q) q (WL.nil ⟨q, [_, _, _, _, _], q, q, q⟩))
 refine Zn (wc_cond q (fun hc3 => ?_) (fun hc3 => ?_))
 replace h := condT h hc3
 refine wc_regionP (WLP.wing [] q q q q (f102_c  (r := Rs.bad 280) q) Zt q (by decide) q Zt q q (Zw q) q q (fun r' new hS => ?_) (fun c new hS => ?_))
 obtain ⟨z9, hz, _⟩ := hS
 cases hz
 obtain ⟨z9, hz, rfl, rfl⟩ := hS
 obtain rfl := Rs.bad.inj hz
 refine ⟨_, q, q, ?_⟩
 exact we_seq_pan (we_blk_pan (we_lp_pan (we_pan ⟨h, q, ⟨Zp, Zp, Zf, Zf, Zf, Zf, Zp, Zt⟩⟩)))
 replace h := condF h hc3
 exact wc_skip (we_seq (wc_region (Zm q q (Zm q q (Zq (y_add q q q) q (Za q q (WL.nil (we_blk (we_lp ⟨x1.n, (IntKind.i64.wrap (x1.m + (tR (Int.toNat x1.a)))), h, (Sx q (Sx q (Sx q (Sx q (Sub.nil _))))), ⟨Zp, Zp, Zf, Zf, Zf, Zf, Zp, Zt⟩⟩)))))))))
 replace h := condF h hc2
 replace h := letkS h
 obtain ⟨k49, hk49, h⟩ := h
 refine wc_cut (fun env' st' => ∃ (t48 : Bool), k49 t48 = some r ∧ Sub [(0, .pt 0 0), (5, .pt 6 0), (6, .n x1.n), (7, .n x1.m), (8, .n (tR (Int.toNat x1.a))), (39, .d (D.b t48))] env' ∧ SLe st' [.row 116 (tQ 1 tR tP tX tD 5 va), .row 90 (mR mI mH mO mE 2 vo mN 4 vu), .os 42 1 vo (famE 3 vf (List.length mS)), .fam 2 1 vf (famM E2 mS), .os 2 1 vu (eM E2 mU), .os 58 6 va (eM R58 tA), .row 101 [.n 0, .n 0, .n 0, .d (D.b false), sN]]) ?_ ?_
 refine Zr (Zq (y_eql q q) q (Za q q (Zn (wc_cond q (fun hc4 => ?_) (fun hc4 => ?_)))))
 replace h := condT h hc4
 exact wc_skip (we_lp ⟨(decide (x1.op = 7)), h, (Sx q (Sx q (Sx q (Sx q (Sx q (Sx q (Sub.nil _))))))), ⟨Zp, Zp, Zf, Zf, Zf, Zf, Zp, Zt⟩⟩)
 replace h := condF h hc4
 exact wc_region (Zq (y_eql q q) q (Za q q (WL.nil (we_lp ⟨(decide (x1.op = 8)), h, (Sx q (Sx q (Sx q (Sx q (Sx q (Sx q (Sub.nil _))))))), ⟨Zp, Zp, Zf, Zf, Zf, Zf, Zp, Zt⟩⟩))))
 rintro env1 st1 ⟨t48, h, hsub, hst⟩
 subst hk49
 dsimp only at h
 refine WC.sub hsub (WC.weak hst ?_)
 refine wc_cond q (fun hc5 => ?_) (fun hc5 => ?_)
 replace h := condT h hc5
 refine wc_seq (Zr (Zm q q (Zq (y_lss q q) q (Zm q q ?_))))
 apply WL.or 11 (t := 44) (d := 55)
 exact q
 intro hg44
 exact Zy (y_move q) q q q (Zy (y_move q) q q q (Zy (y_nilCheckp q) q q q (Zy (y_fieldAddr f116_0 q) q q q (Zy (y_load q q a46 q) q q q (Zy (y_nilCheckp q) q q q (Zy (y_fieldAddr f90_2 q) q q q (Zy (y_load q q a33 q) q q q (Zy (y_len_map E101 mO e33 q q Zl) q q q (Zy (y_gtr q q) q q q (Zq (y_pick_f q q) q (WL.nil ⟨q, [_, _, _, _, _, _, _, _, _, _, _], q, q, q⟩)))))))))))
 exact WL.skips 10 q (Zq (y_pick_t q q) q (WL.nil ⟨q, [_, _, _, _, _, _, _, _, _, _, _], q, q, q⟩))
 refine Zn (wc_cond q (fun hc6 => ?_) (fun hc6 => ?_))
 replace h := condT h hc6
 refine wc_regionP (WLP.wing [] q q q q (f102_c  (r := Rs.bad 280) q) Zt q (by decide) q Zt q q (Zw q) q q (fun r' new hS => ?_) (fun c new hS => ?_))
 obtain ⟨z9, hz, _⟩ := hS
 cases hz
 obtain ⟨z9, hz, rfl, rfl⟩ := hS
 obtain rfl := Rs.bad.inj hz
 refine ⟨_, q, q, ?_⟩
 exact we_seq_pan (we_blk_pan (we_lp_pan (we_pan ⟨h, q, ⟨Zp, Zp, Zf, Zf, Zf, Zf, Zp, Zt⟩⟩)))
 replace h := condF h hc6
 exact wc_skip (we_seq (wc_region (Zm q q (Zq (y_sub q q q) q (Za q q (Za q q (WL.nil (we_blk (we_lp ⟨(IntKind.i64.wrap ((tR (Int.toNat x1.a)) - 1)), 0, h, (Sx q (Sx q (Sx q (Sx q (Sub.nil _))))), ⟨Zp, Zp, Zf, Zf, Zf, Zf, Zp, Zt⟩⟩)))))))))
 replace h := condF h hc5
 exact wc_skip (we_blk (we_lp ⟨x1.n, x1.m, h, (Sx q (Sx q (Sx q (Sx q (Sub.nil _))))), ⟨Zp, Zp, Zf, Zf, Zf, Zf, Zp, Zt⟩⟩))
 rintro env1 st1 ⟨o39, k40, h, hsub, hst⟩
 subst hk41
 dsimp only at h
 refine WC.sub hsub (WC.weak hst ?_)
 refine Zr (Zm q q (Zq (y_nilCheckp q) q (Zq (y_fieldAddr f116_0 q) q (Zq (y_load q q a46 q) q (Zm q q (Zm q q ?_))))))
 obtain ⟨k55, hk55, h⟩ := letkS h
 obtain ⟨k56, hk56, h⟩ := letkS h
 refine WL.inl (us := [.pt 1 0, .n o39, .n k40]) (fun rv st' => (k55 () = some r ∧ Le rv (.d (.v (.pointer none))) ∧ SLe st' [.row 116 (tQ 1 tR tP tX tD 5 va), .row 90 (mR mI mH mO mE 2 vo mN 4 vu), .os 42 1 vo (famE 3 vf (List.length mS)), .fam 2 1 vf (famM E2 mS), .os 2 1 vu (eM E2 mU), .os 58 6 va (eM R58 tA), .row 101 [.n 0, .n 0, .n 0, .d (D.b false), sN]]) ∨ (k56 () = some r ∧ Le rv (.pem 3 (Int.toNat o39) vf (Int.toNat k40 * 1)) ∧ SLe st' [.row 116 (tQ 1 tR tP tX tD 5 va), .row 90 (mR mI mH mO mE 2 vo mN 4 vu), .os 42 1 vo (famE 3 vf (List.length mS)), .fam 2 1 vf (famM E2 mS), .os 2 1 vu (eM E2 mU), .os 58 6 va (eM R58 tA), .row 101 [.n 0, .n 0, .n 0, .d (D.b false), sN]])) q q q q q ?_ (Zw q) q q ?_
 refine ctr_intro Tryz.func61 (by kernel_rfl) q q q (fun mm φφ ww hm54 => ?_)
 refine Zr (Za q q (Zn (wc_seq (Zr (Zm q q (Zq (y_lss q q) q (Zm q q ?_)))))))
 apply WL.or 8 (t := 9) (d := 17)
 exact q
 intro hg9
 exact Zy (y_move q) q q q (Zy (y_move q) q q q (Zy (y_nilCheckp q) q q q (Zy (y_fieldAddr f90_4 q) q q q (Zy (y_load q q a62 q) q q q (Zy (y_len_fam e62 q q q) q q q (Zy (y_geq q q) q q q (Zq (y_pick_f q q) q (WL.nil ⟨q, [_, _, _, _, _, _, _, _], q, q, q⟩))))))))
 exact WL.skips 7 q (Zq (y_pick_t q q) q (WL.nil ⟨q, [_, _, _, _, _, _, _, _], q, q, q⟩))
 refine Zm q q ?_
 apply WL.or 3 (t := 18) (d := 21)
 exact q
 intro hg18
 exact Zy (y_move q) q q q (Zy (y_lss q q) q q q (Zq (y_pick_f q q) q (WL.nil ⟨q, [_, _, _], q, q, q⟩)))
 exact WL.skips 2 q (Zq (y_pick_t q q) q (WL.nil ⟨q, [_, _, _], q, q, q⟩))
 refine Zm q q ?_
 obtain ⟨b57, hb57, h⟩ := bindS h
 apply WL.grp 11 (t := 22) (d := 33) (z := b57)
 exact q
 intro hg22
 have h := condT hb57 hg22
 refine WL.skips 10 q (Zq (y_pick_t q q) q ?_)
 obtain rfl := Oi h
 exact WL.nil ⟨q, [_, _, _, _, _, _, _, _, _, _, _], q, q, q⟩
 intro hg22
 have h := condF hb57 hg22
 refine Zy (y_move q) q q q (Zy (y_move q) q q q (Zy (y_nilCheckp q) q q q (Zy (y_fieldAddr f90_4 q) q q q (Zy (y_load q q a62 q) q q q (Zy (y_move q) q q q ?_)))))
 obtain ⟨x58, hx58, h⟩ := bindS h
 refine Zy (y_pe_fam e62 q q q (idx_nonneg hx58) (idx_lt hx58)) q q q (Zy (y_load_mem (i := o39) q q a42 (idx_toNat hx58)) q q q (Zy (y_len_mem e42 q q q (idx_get hx58)) q q q (Zy (y_geq q q) q q q (Zq (y_pick_f q q) q ?_))))
 obtain rfl := Oi h
 exact WL.nil ⟨q, [_, _, _, _, _, _, _, _, _, _, _], q, q, q⟩
 refine Zn (wc_cond q (fun hc7 => ?_) (fun hc7 => ?_))
 replace h := condT h hc7
 exact Zr (Za q q (Zn (wc_ret (we_seq_ret (we_ret (rs1 q (rv_t q)) (.inl ⟨h, Zl, ⟨Zp, Zp, Zf, Zf, Zf, Zf, Zp, Zt⟩⟩))))))
 replace h := condF h hc7
 refine wc_skip (we_seq (Zr (Zm q q (Zq (y_nilCheckp q) q (Zq (y_fieldAddr f90_4 q) q (Zq (y_load q q a62 q) q (Zm q q ?_)))))))
 obtain ⟨x59, hx59, h⟩ := bindS h
 refine Zq (y_pe_fam e62 q q q (idx_nonneg hx59) (idx_lt hx59)) q (Zq (y_load_mem (i := o39) q q a42 (idx_toNat hx59)) q (Zm q q ?_))
 obtain ⟨v60, hv60, h⟩ := bindS h
 exact Zq (y_idx_mem (E := E2) (L := mS) (M := x59) (v := v60) e42 q q (idx_get hx59) q hv60) q (Za q q (Zn (wc_ret (we_ret (rs1 q (rv_t q)) (.inr (⟨h, Zl, ⟨Zp, Zp, Zf, Zf, Zf, Zf, Zp, Zt⟩⟩))))))
 rintro rv st1 (⟨h, hr, hst⟩ | ⟨h, hr, hst⟩)
 subst hk55
 dsimp only at h
 refine WL.cast 65 q hr (WL.weak hst (Za q q (Zn (wc_seq (Zr (Zm q q (Zq (y_eqnn Tryz.underlying128 q) q (Zn (wc_true q (wc_regionP (WLP.wing [] q q q q (f102_c  (r := Rs.bad 280) q) Zt q (by decide) q Zt q q (Zw q) q q (fun r' new hS => ?_) (fun c new hS => ?_))))))))))))
 obtain ⟨z9, hz, _⟩ := hS
 cases hz
 obtain ⟨z9, hz, rfl, rfl⟩ := hS
 obtain rfl := Rs.bad.inj hz
 refine ⟨_, q, q, ?_⟩
 exact we_seq_pan (we_pan ⟨h, q, ⟨Zp, Zp, Zf, Zf, Zf, Zf, Zp, Zt⟩⟩)
 subst hk56
 dsimp only at h
 refine WL.cast 65 q hr (WL.weak hst (Za q q (Zn (wc_seq (Zr (Zm q q (Zq (y_eqpm Tryz.underlying128 q q) q (Zn (wc_false q (wc_skip (we_seq (wc_seq ?_))))))))))))
 obtain ⟨x65, hx65, h⟩ := bindS h
 apply wc_region_all [_, _, _, _, _, _, _, _, _, _, _, _, .u] [[], [], [1], [1, 2], [1, 2, 3], [1, 2, 3, 4], [1, 2, 3, 4, 5], [1, 2, 3, 4, 5, 6], [], [1, 2, 3, 4, 5, 6, 7, 8], [1, 2, 3, 4, 5, 6, 7, 8, 9], [0], [0, 1, 2, 3, 4, 5, 6, 7, 8, 9, 10, 11]] [12] (fun c => List.getD [[.row 116 (tQ 1 tR tP tX tD 5 va), .row 90 (mR mI mH mO mE 2 vo mN 4 vu), .os 42 1 vo (famE 3 vf (List.length mS)), .fam 2 1 vf (famM E2 mS), .os 2 1 vu (eM E2 mU), .os 58 6 va (eM R58 tA), .row 101 [.n 0, .n 0, .n 0, .d (D.b false), sN]], [.row 116 (tQ 1 tR tP tX tD 5 va), .row 90 (mR mI mH mO mE 2 vo mN 4 vu), .os 42 1 vo (famE 3 vf (List.length mS)), .fam 2 1 vf (famM E2 mS), .os 2 1 vu (eM E2 mU), .os 58 6 va (eM R58 tA), .row 101 [.n x65.size, .n x65.lo, .n x65.hi, .d (D.b x65.ptr), .l E3 x65.set_]]] c []) [([], [9], [0]), ([], [0], [0]), ([1], [], [0]), ([2], [], [0]), ([3], [], [0]), ([4], [], [0]), ([5], [], [0]), ([6], [], [0]), ([], [6], [0]), ([7, 8], [], [0]), ([9], [], [0]), ([0], [], [0]), ([10], [5], [0])] (by kernel_rfl) (by kernel_rfl) q q q
 refine ⟨?_, ?_, ?_, ?_, ?_, ?_, ?_, ?_, ?_, ?_, ?_, ?_, ?_, Zt⟩
 refine ⟨fun F => ?_, Zt⟩
 exact Zm q q (Zd q q q)
 refine ⟨fun F => ?_, Zt⟩
 exact Zm q q (Zd q q q)
 refine ⟨fun F => ?_, Zt⟩
 exact Zq (y_nilCheckp q) q (Zd q q q)
 refine ⟨fun F => ?_, Zt⟩
 exact Zq (y_fieldAddr f116_0 q) q (Zd q q q)
 refine ⟨fun F => ?_, Zt⟩
 exact Zq (y_load q q a46 q) q (Zd q q q)
 refine ⟨fun F => ?_, Zt⟩
 exact Zq (y_nilCheckp q) q (Zd q q q)
 refine ⟨fun F => ?_, Zt⟩
 exact Zq (y_fieldAddr f90_2 q) q (Zd q q q)
 refine ⟨fun F => ?_, Zt⟩
 exact Zq (y_load q q a33 q) q (Zd q q q)
 refine ⟨fun F => ?_, Zt⟩
 exact Zm q q (Zd q q q)
 refine ⟨fun F => ?_, Zt⟩
 exact Zq (y_indexAddr e33 q Zl q (idx_nonneg hx65) (idx_row E101_eq hx65) q) q (Zd q q q)
 refine ⟨fun F => ?_, Zt⟩
 exact Zq (y_loadcN q a101 s101 q) q (Zd q q q)
 refine ⟨fun F => ?_, Zt⟩
 exact Za q q (Zd q q q)
 refine ⟨fun F => ?_, Zt⟩
 exact WL.s0 (d_store q q q q q q s101 q q) (Zw q) q (WL.done0 q q)
 exact we_seq (wc_ret (WE.finP (we_ret (rs2 q (rv_t q) (rv_cN q q a101 s101 q)) ⟨x65, o39, k40, x65.size, x65.lo, x65.hi, x65.ptr, x65.set_, h, (Le.tu ⟨Zl, (Le.agd ⟨Zl, Zl, Zl, Zl, Zl, Zt⟩), Zt⟩), ⟨Zp, Zp, Zf, Zf, Zf, Zf, Zp, Zt⟩⟩)))
 rintro rv st1 ⟨t29, o30, k31, c6032, c6133, c6234, c6335, c6436, h, hr, hst⟩
 subst hk37
 dsimp only at h
 refine WLP.of (WL.cast 9 q hr (WL.weak hst (Zm q q (Zq (y_extract q q) q (Zq (y_extract q q) q (WL.s ((b_alloc z101).does) (Zw q) q q (Za q q (WL.s0 (d_store q q q q q q s101 q q) (Zw q) q (WL.st (st' := [.row 116 (tQ 1 tR tP tX tD 5 va), .row 90 (mR mI mH mO mE 2 vo mN 4 vu), .os 42 1 vo (famE 3 vf (List.length mS)), .fam 2 1 vf (famM E2 mS), .os 2 1 vu (eM E2 mU), .os 58 6 va (eM R58 tA), .row 101 [.n c6032, .n c6133, .n c6234, .d (D.b c6335), .l E3 c6436], .row 101 [.n t29.size, .n t29.lo, .n t29.hi, .d (D.b t29.ptr), .l E3 t29.set_]]) q (Zn (wc_seq ?_)))))))))))
 obtain ⟨x66, hx66, h⟩ := bindS h
 obtain ⟨v67, hv67, h⟩ := bindS h
 replace h := guardBS h
 obtain ⟨hgg68, h⟩ := h
 apply wc_region_all [_, _, _, _, _, _, _, _, _, _, .u] [[], [], [1], [], [3], [3, 4], [0], [0, 6], [0, 6, 7], [0, 1, 2, 3, 4, 5, 6, 7, 8], [0, 1, 2, 3, 4, 5, 6, 7, 8, 9]] [10] (fun c => List.getD [[.row 116 (tQ 1 tR tP tX tD 5 va), .row 90 (mR mI mH mO mE 2 vo mN 4 vu), .os 42 1 vo (famE 3 vf (List.length mS)), .fam 2 1 vf (famM E2 mS), .os 2 1 vu (eM E2 mU), .os 58 6 va (eM R58 tA), .row 101 [.n c6032, .n c6133, .n c6234, .d (D.b c6335), .l E3 c6436], .row 101 [.n t29.size, .n t29.lo, .n t29.hi, .d (D.b t29.ptr), .l E3 t29.set_]], [.row 116 (([.pt 1 0] : List AV) ++ (vecA 16 (fun j => .n ((vset tR (Int.toNat x1.d) v67) j)) ++ ([.n tP, .n tX, .n tD, .os 5 va] : List AV) : List AV)), .row 90 (mR mI mH mO mE 2 vo mN 4 vu), .os 42 1 vo (famE 3 vf (List.length mS)), .fam 2 1 vf (famM E2 mS), .os 2 1 vu (eM E2 mU), .os 58 6 va (eM R58 tA), .row 101 [.n c6032, .n c6133, .n c6234, .d (D.b c6335), .l E3 c6436], .row 101 [.n t29.size, .n t29.lo, .n t29.hi, .d (D.b t29.ptr), .l E3 t29.set_]]] c []) [([], [0], [0]), ([], [3], [0]), ([1], [], [0]), ([], [4], [0]), ([3], [], [0]), ([4], [], [0]), ([0], [], [0]), ([6], [], [0]), ([7], [], [0]), ([8, 2], [], [0]), ([9, 5], [], [0])] (by kernel_rfl) (by kernel_rfl) q q q
 refine ⟨?_, ?_, ?_, ?_, ?_, ?_, ?_, ?_, ?_, ?_, ?_, Zt⟩
 refine ⟨fun F => ?_, Zt⟩
 exact Zm q q (Zd q q q)
 refine ⟨fun F => ?_, Zt⟩
 exact Zq (y_fieldAddrc f45_1 q) q (Zd q q q)
 refine ⟨fun F => ?_, Zt⟩
 exact Zq (y_loadc q a3 q) q (Zd q q q)
 refine ⟨fun F => ?_, Zt⟩
 exact Zm q q (Zd q q q)
 refine ⟨fun F => ?_, Zt⟩
 exact Zq (y_nilCheckm q q) q (Zd q q q)
 refine ⟨fun F => ?_, Zt⟩
 exact Zq (y_load_pem (E := E2) (L := mS) (M := x66) (v := v67) (i := k31) q q (idx_get hx66) hv67 (fun _ => q) (by decide) q a2) q (Zd q q q)
 refine ⟨fun F => ?_, Zt⟩
 exact Zq (y_nilCheckp q) q (Zd q q q)
 refine ⟨fun F => ?_, Zt⟩
 exact Zq (y_fieldAddr f116_1 q) q (Zd q q q)
 refine ⟨fun F => ?_, Zt⟩
 exact Zq (y_fieldAddr f41_0 q) q (Zd q q q)
 refine ⟨fun F => ?_, Zt⟩
 exact Zq (y_indexAddra ar39 q q (vecOk_0 hgg68) (vecOk_1 hgg68)) q (Zd q q q)
 refine ⟨fun F => ?_, Zt⟩
 exact WL.s0 (d_storeV (off := 1) (n := 16) (cs' := (([.pt 1 0] : List AV) ++ (vecA 16 (fun j => .n ((vset tR (Int.toNat x1.d) v67) j)) ++ ([.n tP, .n tX, .n tD, .os 5 va] : List AV) : List AV))) (fun x => .n x) tR v67 q q q (one_ok q) s2 q q hgg68 q) (Zw q) q (WL.done0 q q)
 refine we_seq (wc_regionP (WLP.pre 1 (Zm q q (WL.nil ?_))))
 obtain ⟨r69, hr69, h⟩ := bindS h
 rcases r69 with z70 | e71
 dsimp only [Rs.cs] at h
 refine WLP.wing [0, 1, 2, 3, 4, 5] q q q q (f131_c _ _ _ _ _ _ _ _ _ _ _ _ hr69) ⟨Zl, Zt⟩ q (by decide) (cons_eq q (cons_eq q (Rg (Rf (Ro (cons_eq (ren_os _ _ _ _ _ _) q)))))) ⟨q, q, q, q, q, q, Zt⟩ (stLt_cons q (stLt_cons q (Lg q (Lf (Lo (stLt_cons (lt_os _ _ _ _ _ _) q)))))) q (Zw q) q q (fun r' new hS => ?_) (fun c new hS => ?_)
 obtain ⟨z9, hz, rfl, rfl⟩ := hS
 obtain rfl := Rs.ok.inj hz
 refine ⟨_, _, q, (cons_eq q (cons_eq q (Rg (Rf (Ro (cons_eq (ren_os _ _ _ _ _ _) q)))))), q, (stLt_cons q (stLt_cons q (Lg q (Lf (Lo (stLt_cons (lt_os _ _ _ _ _ _) q)))))), WLP.of ?_⟩
 refine WL.st (st' := [.row 116 (([.pt 1 0] : List AV) ++ (vecA 16 (fun j => .n (z70.1 j)) ++ ([.n z70.2.1, .n z70.2.2.1, .n z70.2.2.2, .os 5 va] : List AV) : List AV)), .row 90 (mR mI mH mO mE 2 vo mN 4 vu), .os 42 1 vo (famE 3 vf (List.length mS)), .fam 2 1 vf (famM E2 mS), .os 2 1 vu (eM E2 mU), .os 58 6 va (eM R58 tA), .row 101 [.n c6032, .n c6133, .n c6234, .d (D.b c6335), .l E3 c6436], .row 101 [.n t29.size, .n t29.lo, .n t29.hi, .d (D.b t29.ptr), .l E3 t29.set_]]) q (WL.nil (we_endP ?_))
 obtain rfl := Oi h
 exact WE.finP (we_ret_g (new := [.row 116 (([.pt 1 0] : List AV) ++ (vecA 16 (fun j => .n (z70.1 j)) ++ ([.n z70.2.1, .n z70.2.2.1, .n z70.2.2.2, .os 5 va] : List AV) : List AV)), .row 90 (mR mI mH mO mE 2 vo mN 4 vu), .os 42 1 vo (famE 3 vf (List.length mS)), .fam 2 1 vf (famM E2 mS), .os 2 1 vu (eM E2 mU), .os 58 6 va (eM R58 tA)]) (r0 := .d (.tu [])) (res0 q) (Le.tud Zt) q ⟨Zp, Zp, Zf, Zf, Zf, Zf, Zt⟩ ⟨_, q, q, q⟩)
 obtain ⟨z9, hz, _⟩ := hS
 cases hz
 dsimp only [Rs.cs] at h
 refine WLP.wing [0, 1, 2, 3, 4, 5] q q q q (f131_c _ _ _ _ _ _ _ _ _ _ _ _ hr69) ⟨Zl, Zt⟩ q (by decide) (cons_eq q (cons_eq q (Rg (Rf (Ro (cons_eq (ren_os _ _ _ _ _ _) q)))))) ⟨q, q, q, q, q, q, Zt⟩ (stLt_cons q (stLt_cons q (Lg q (Lf (Lo (stLt_cons (lt_os _ _ _ _ _ _) q)))))) q (Zw q) q q (fun r' new hS => ?_) (fun c new hS => ?_)
 obtain ⟨z9, hz, _⟩ := hS
 cases hz
 obtain ⟨z9, hz, rfl, rfl⟩ := hS
 obtain rfl := Rs.bad.inj hz
 refine ⟨_, (cons_eq q (cons_eq q (Rg (Rf (Ro (cons_eq q q)))))), (stLt_cons q (stLt_cons q (Lg q (Lf (Lo (stLt_cons q q)))))), ?_⟩
 refine WE.sto (st' := [.dead, .row 90 (mR mI mH mO mE 2 vo mN 4 vu), .os 42 1 vo (famE 3 vf (List.length mS)), .fam 2 1 vf (famM E2 mS), .os 2 1 vu (eM E2 mU), .dead, .row 101 [.n c6032, .n c6133, .n c6234, .d (D.b c6335), .l E3 c6436], .row 101 [.n t29.size, .n t29.lo, .n t29.hi, .d (D.b t29.ptr), .l E3 t29.set_]]) q ?_
 obtain rfl := Oi h
 exact we_pan_g (new := (wD mI mH mO mE vo mN vu vf mS mU)) q ⟨Zt, Zp, Zf, Zf, Zf, Zt, Zt⟩ ⟨_, q, q, q⟩
 rintro c st1 ⟨h, rfl, hst⟩
 subst hk28
 dsimp only at h
 refine WE.weak hst (we_seq_pan ?_)
 obtain rfl := Oi h
 exact we_pan_g (new := (wD mI mH mO mE vo mN vu vf mS mU)) q ⟨Zt, Zp, Zf, Zf, Zf, Zt, Zt⟩ ⟨_, q, q, q⟩

theorem f82_c (tR : Nat → Int) (tP : Int) (tX : Int) (tD : Int) (mI : List Insn) (mH : List MHandler) (mO : List Obj) (mE : Int) (mN : List Int) (mS : List (List Int)) (mU : List Int) (tA : List Act) (x1 : Insn) {vo : Nat} {vf : Nat} {vu : Nat} {va : Nat} {r : Rs ((Nat → Int) × Int × Int × Int × (List (List Int)))} (h : f82 tR tP tX tD mI mH mO mE mN mS mU tA x1 = some r) : CtrP Tryz.prog 82 [.pt 0 0, .d (.ag (R45 x1))] (wT tR tP tX tD va mI mH mO mE vo mN vu vf mS mU tA) (WinG 6 (fun r' new => ∃ (z : (Nat → Int) × Int × Int × Int × (List (List Int))) (i3 : Nat), r = .ok z ∧ r' = .d (.tu []) ∧ new = [.row 116 (([.pt 1 0] : List AV) ++ (vecA 16 (fun j => .n (z.1 j)) ++ ([.n z.2.1, .n z.2.2.1, .n z.2.2.2.1, .os 5 va] : List AV) : List AV)), .row 90 (mR mI mH mO mE 2 vo mN 4 vu), .os 42 1 vo (famE 3 i3 (List.length z.2.2.2.2)), .fam 2 1 i3 (famM E2 z.2.2.2.2), .os 2 1 vu (eM E2 mU), .os 58 6 va (eM R58 tA)])) (WinGP 6 (fun c new => ∃ (ee : Int), r = .bad ee ∧ c = wrongP ee ∧ new = (wD mI mH mO mE vo mN vu vf mS mU))) := by
 unfold f82 at h
 refine ctrP_intro Tryz.func82 (by kernel_rfl) q q q (fun mm φφ ww hmm => ?_)
 refine Zr (WL.s ((b_boxd q q (Zs _)).does) (Zw q) q q (Zn (wc_seq (wc_region_draw (by kernel_rfl) (by kernel_rfl) (WQ.qn (y_move q) q (WQ.qn (y_fieldAddrc f45_1 q) q (WQ.qn (y_loadc q a3 q) q (WQ.qn (y_nilCheckp q) q (WQ.qn (y_fieldAddr f116_1 q) q (WQ.qn (y_fieldAddr f41_0 q) q ?_))))))))))
 replace h := guardBS h
 obtain ⟨hgg45, h⟩ := h
 refine WQ.qn (y_indexAddra ar39 q q (vecOk_0 hgg45) (vecOk_1 hgg45)) q (WQ.qn (y_loadV (off := 1) (n := 16) (fun j => .n (tR j)) q q a2 q hgg45) q (WQ.qn (y_assign q) q (WQ.nil (we_seq ?_))))
 replace h := letkS h
 obtain ⟨k47, hk47, h⟩ := h
 refine wc_cut (fun env' st' => ∃ (v46 : Int), k47 v46 = some r ∧ Sub [(0, .pt 0 0), (3, .d (.pc (R45 x1))), (4, .n v46)] env' ∧ SLe st' (wT tR tP tX tD va mI mH mO mE vo mN vu vf mS mU tA)) ?_ ?_
 refine Zr (Zq (y_fieldAddrc f45_0 q) q (Zq (y_loadc q a43 q) q (Zq (y_eql q q) q (Zn (wc_cond q (fun hc1 => ?_) (fun hc1 => ?_))))))
 replace h := condT h hc1
 refine wc_region_draw (by kernel_rfl) (by kernel_rfl) (WQ.qn (y_move q) q (WQ.qn (y_fieldAddrc f45_2 q) q (WQ.qn (y_loadc q a3 q) q (WQ.qn (y_nilCheckp q) q (WQ.qn (y_fieldAddr f116_1 q) q (WQ.qn (y_fieldAddr f41_0 q) q ?_))))))
 replace h := guardBS h
 obtain ⟨hgg48, h⟩ := h
 exact WQ.qn (y_indexAddra ar39 q q (vecOk_0 hgg48) (vecOk_1 hgg48)) q (WQ.qn (y_loadV (off := 1) (n := 16) (fun j => .n (tR j)) q q a2 q hgg48) q (WQ.qn (y_assign q) q (WQ.nil (we_lp ⟨(tR (Int.toNat x1.a)), h, (Sx q (Sx q (Sx q (Sub.nil _)))), ⟨Zp, Zp, Zf, Zf, Zf, Zf, Zt⟩⟩))))
 replace h := condF h hc1
 exact wc_skip (we_lp ⟨(tR (Int.toNat x1.d)), h, (Sx q (Sx q (Sx q (Sub.nil _)))), ⟨Zp, Zp, Zf, Zf, Zf, Zf, Zt⟩⟩)
 rintro env1 st1 ⟨v46, h, hsub, hst⟩
 subst hk47
 dsimp only at h
 refine WC.sub hsub (WC.weak hst ?_)
 refine wc_seq (wc_regionP (WLP.pre 2 (Zm q q (Zq (y_loadcN q a45 s45 q) q (WL.nil ?_)))))
 obtain ⟨k50, hk50, h⟩ := letkS h
 obtain ⟨k59, hk59, h⟩ := letkS h
 refine WLP.inl (us := [.pt 0 0, .d (.ag (R45 x1))]) (fun rv st' => (∃ (t51 : Obj), ∃ (o52 : Int), ∃ (k53 : Int), ∃ (c6054 : Int), ∃ (c6155 : Int), ∃ (c6256 : Int), ∃ (c6357 : Bool), ∃ (c6458 : List Int), k59 t51 o52 k53 c6054 c6155 c6256 c6357 c6458 = some r ∧ Le rv (.tu [.pem 3 (Int.toNat o52) vf (Int.toNat k53 * 1), .d (.ag (R101 t51))]) ∧ SLe st' [.row 116 (tQ 1 tR tP tX tD 5 va), .row 90 (mR mI mH mO mE 2 vo mN 4 vu), .os 42 1 vo (famE 3 vf (List.length mS)), .fam 2 1 vf (famM E2 mS), .os 2 1 vu (eM E2 mU), .os 58 6 va (eM R58 tA), .row 101 [.n c6054, .n c6155, .n c6256, .d (D.b c6357), .l E3 c6458]])) (fun c st' => (k50 () = some r ∧ c = wrongP 280 ∧ SLe st' [.row 116 (tQ 1 tR tP tX tD 5 va), .row 90 (mR mI mH mO mE 2 vo mN 4 vu), .os 42 1 vo (famE 3 vf (List.length mS)), .fam 2 1 vf (famM E2 mS), .os 2 1 vu (eM E2 mU), .os 58 6 va (eM R58 tA), .row 101 [.n 0, .n 0, .n 0, .d (D.b false), sN]])) q q q q q ?_ (Zw q) q q ?_ ?_
 refine ctrP_intro Tryz.func130 (by kernel_rfl) q q q (fun mm φφ ww hm49 => ?_)
 refine Zr (WL.s ((b_boxd q q (Zs _)).does) (Zw q) q q (Za q q (WL.s ((b_alloc z101).does) (Zw q) q q (Zn (wc_seq (wc_region_draw (by kernel_rfl) (by kernel_rfl) (WQ.qn (y_fieldAddrc f45_4 q) q (WQ.qn (y_loadc q a2 q) q (WQ.qn (y_fieldAddrc f45_5 q) q (WQ.qn (y_loadc q a2 q) q (WQ.qn (y_assign q) q (WQ.qn (y_assign q) q (WQ.nil (we_seq (wc_seq (wc_region_draw (by kernel_rfl) (by kernel_rfl) (WQ.qn (y_move q) q (WQ.qn (y_fieldAddrc f45_2 q) q (WQ.qn (y_loadc q a3 q) q (WQ.qn (y_nilCheckp q) q (WQ.qn (y_fieldAddr f116_1 q) q (WQ.qn (y_fieldAddr f41_0 q) q ?_))))))))))))))))))))))
 replace h := guardBS h
 obtain ⟨hgg60, h⟩ := h
 refine WQ.qn (y_indexAddra ar39 q q (vecOk_0 hgg60) (vecOk_1 hgg60)) q (WQ.qn (y_loadV (off := 1) (n := 16) (fun j => .n (tR j)) q q a2 q hgg60) q (WQ.qn (y_assign q) q (WQ.nil (we_seq ?_))))
 replace h := letkS h
 obtain ⟨k63, hk63, h⟩ := h
 refine wc_cut (fun env' st' => ∃ (o61 : Int), ∃ (k62 : Int), k63 o61 k62 = some r ∧ Sub [(0, .pt 0 0), (5, .pt 6 0), (6, .n o61), (7, .n k62)] env' ∧ SLe st' [.row 116 (tQ 1 tR tP tX tD 5 va), .row 90 (mR mI mH mO mE 2 vo mN 4 vu), .os 42 1 vo (famE 3 vf (List.length mS)), .fam 2 1 vf (famM E2 mS), .os 2 1 vu (eM E2 mU), .os 58 6 va (eM R58 tA), .row 101 [.n 0, .n 0, .n 0, .d (D.b false), sN]]) ?_ ?_
 refine Zr (Zq (y_fieldAddrc f45_0 q) q (Zq (y_loadc q a43 q) q (Zn (wc_block ?_))))
 replace h := letkS h
 obtain ⟨k65, hk65, h⟩ := h
 refine wc_cut (fun env' st' => ∃ (t64 : Bool), k65 t64 = some r ∧ Sub [(0, .pt 0 0), (3, .d (.pc (R45 x1))), (5, .pt 6 0), (6, .n x1.n), (7, .n x1.m), (8, .n (tR (Int.toNat x1.a))), (23, .d (D.i .u8 x1.op)), (24, .d (D.b t64))] env' ∧ SLe st' [.row 116 (tQ 1 tR tP tX tD 5 va), .row 90 (mR mI mH mO mE 2 vo mN 4 vu), .os 42 1 vo (famE 3 vf (List.length mS)), .fam 2 1 vf (famM E2 mS), .os 2 1 vu (eM E2 mU), .os 58 6 va (eM R58 tA), .row 101 [.n 0, .n 0, .n 0, .d (D.b false), sN]]) ?_ ?_
 refine Zr (Zq (y_eql q q) q (Za q q (Zn (wc_cond q (fun hc2 => ?_) (fun hc2 => ?_)))))
 replace h := condT h hc2
 exact wc_skip (we_lp ⟨(decide (x1.op = 5)), h, (Sx q (Sx q (Sx q (Sx q (Sx q (Sx q (Sx q (Sx q (Sub.nil _))))))))), ⟨Zp, Zp, Zf, Zf, Zf, Zf, Zp, Zt⟩⟩)
 replace h := condF h hc2
 exact wc_region (Zq (y_eql q q) q (Za q q (WL.nil (we_lp ⟨(decide (x1.op = 6)), h, (Sx q (Sx q (Sx q (Sx q (Sx q (Sx q (Sx q (Sx q (Sub.nil _))))))))), ⟨Zp, Zp, Zf, Zf, Zf, Zf, Zp, Zt⟩⟩))))
 rintro env1 st1 ⟨t64, h, hsub, hst⟩
 subst hk65
 dsimp only at h
 refine WC.sub hsub (WC.weak hst ?_)
 refine wc_cond q (fun hc3 => ?_) (fun hc3 => ?_)
 replace h := condT h hc3
 refine wc_seq (Zr (Zm q q (Zq (y_lss q q) q (Zm q q ?_))))
 apply WL.or 5 (t := 29) (d := 34)
 exact q
 intro hg29
 exact Zy (y_move q) q q q (Zy (y_fieldAddrc f45_3 q) q q q (Zy (y_loadc q a3 q) q q q (Zy (y_geq q q) q q q (Zq (y_pick_f q q) q (WL.nil ⟨q, [_, _, _, _, _], q, q, q⟩)))))
 exact WL.skips 4 q (Zq (y_pick_t q q) q (WL.nil ⟨q, [_, _, _, _, _], q, q, q⟩))
 refine Zn (wc_cond q (fun hc4 => ?_) (fun hc4 => ?_))
 replace h := condT h hc4
 refine wc_regionP (WLP.wing [] q q q q (f102_c  (r := Rs.bad 280) q) Zt q (by decide) q Zt q q (Zw q) q q (fun r' new hS => ?_) (fun c new hS => ?_))
 obtain ⟨z9, hz, _⟩ := hS
 cases hz
 obtain ⟨z9, hz, rfl, rfl⟩ := hS
 obtain rfl := Rs.bad.inj hz
 refine ⟨_, q, q, ?_⟩
 exact we_seq_pan (we_blk_pan (we_lp_pan (we_pan ⟨h, q, ⟨Zp, Zp, Zf, Zf, Zf, Zf, Zp, Zt⟩⟩)))
 replace h := condF h hc4
 exact wc_skip (we_seq (wc_region (Zm q q (Zm q q (Zq (y_add q q q) q (Za q q (WL.nil (we_blk (we_lp ⟨x1.n, (IntKind.i64.wrap (x1.m + (tR (Int.toNat x1.a)))), h, (Sx q (Sx q (Sx q (Sx q (Sub.nil _))))), ⟨Zp, Zp, Zf, Zf, Zf, Zf, Zp, Zt⟩⟩)))))))))
 replace h := condF h hc3
 replace h := letkS h
 obtain ⟨k71, hk71, h⟩ := h
 refine wc_cut (fun env' st' => ∃ (t70 : Bool), k71 t70 = some r ∧ Sub [(0, .pt 0 0), (5, .pt 6 0), (6, .n x1.n), (7, .n x1.m), (8, .n (tR (Int.toNat x1.a))), (39, .d (D.b t70))] env' ∧ SLe st' [.row 116 (tQ 1 tR tP tX tD 5 va), .row 90 (mR mI mH mO mE 2 vo mN 4 vu), .os 42 1 vo (famE 3 vf (List.length mS)), .fam 2 1 vf (famM E2 mS), .os 2 1 vu (eM E2 mU), .os 58 6 va (eM R58 tA), .row 101 [.n 0, .n 0, .n 0, .d (D.b false), sN]]) ?_ ?_
 refine Zr (Zq (y_eql q q) q (Za q q (Zn (wc_cond q (fun hc5 => ?_) (fun hc5 => ?_)))))
 replace h := condT h hc5
 exact wc_skip (we_lp ⟨(decide (x1.op = 7)), h, (Sx q (Sx q (Sx q (Sx q (Sx q (Sx q (Sub.nil _))))))), ⟨Zp, Zp, Zf, Zf, Zf, Zf, Zp, Zt⟩⟩)
 replace h := condF h hc5
 exact wc_region (Zq (y_eql q q) q (Za q q (WL.nil (we_lp ⟨(decide (x1.op = 8)), h, (Sx q (Sx q (Sx q (Sx q (Sx q (Sx q (Sub.nil _))))))), ⟨Zp, Zp, Zf, Zf, Zf, Zf, Zp, Zt⟩⟩))))
 rintro env1 st1 ⟨t70, h, hsub, hst⟩
 subst hk71
 dsimp only at h
 refine WC.sub hsub (WC.weak hst ?_)
 refine wc_cond q (fun hc6 => ?_) (fun hc6 => ?_)
 replace h := condT h hc6
 refine wc_seq (Zr (Zm q q (Zq (y_lss q q) q (Zm q q ?_))))
 apply WL.or 11 (t := 44) (d := 55)
 exact q
 intro hg44
 exact Zy (y_move q) q q q (Zy (y_move q) q q q (Zy (y_nilCheckp q) q q q (Zy (y_fieldAddr f116_0 q) q q q (Zy (y_load q q a46 q) q q q (Zy (y_nilCheckp q) q q q (Zy (y_fieldAddr f90_2 q) q q q (Zy (y_load q q a33 q) q q q (Zy (y_len_map E101 mO e33 q q Zl) q q q (Zy (y_gtr q q) q q q (Zq (y_pick_f q q) q (WL.nil ⟨q, [_, _, _, _, _, _, _, _, _, _, _], q, q, q⟩)))))))))))
 exact WL.skips 10 q (Zq (y_pick_t q q) q (WL.nil ⟨q, [_, _, _, _, _, _, _, _, _, _, _], q, q, q⟩))
 refine Zn (wc_cond q (fun hc7 => ?_) (fun hc7 => ?_))
 replace h := condT h hc7
 refine wc_regionP (WLP.wing [] q q q q (f102_c  (r := Rs.bad 280) q) Zt q (by decide) q Zt q q (Zw q) q q (fun r' new hS => ?_) (fun c new hS => ?_))
 obtain ⟨z9, hz, _⟩ := hS
 cases hz
 obtain ⟨z9, hz, rfl, rfl⟩ := hS
 obtain rfl := Rs.bad.inj hz
 refine ⟨_, q, q, ?_⟩
 exact we_seq_pan (we_blk_pan (we_lp_pan (we_pan ⟨h, q, ⟨Zp, Zp, Zf, Zf, Zf, Zf, Zp, Zt⟩⟩)))
 replace h := condF h hc7
 exact wc_skip (we_seq (wc_region (Zm q q (Zq (y_sub q q q) q (Za q q (Za q q (WL.nil (we_blk (we_lp ⟨(IntKind.i64.wrap ((tR (Int.toNat x1.a)) - 1)), 0, h, (Sx q (Sx q (Sx q (Sx q (Sub.nil _))))), ⟨Zp, Zp, Zf, Zf, Zf, Zf, Zp, Zt⟩⟩)))))))))
 replace h := condF h hc6
 exact wc_skip (we_blk (we_lp ⟨x1.n, x1.m, h, (Sx q (Sx q (Sx q (Sx q (Sub.nil _))))), ⟨Zp, Zp, Zf, Zf, Zf, Zf, Zp, Zt⟩⟩))
 rintro env1 st1 ⟨o61, k62, h, hsub, hst⟩
 subst hk63
 dsimp only at h
 refine WC.sub hsub (WC.weak hst ?_)
 refine Zr (Zm q q (Zq (y_nilCheckp q) q (Zq (y_fieldAddr f116_0 q) q (Zq (y_load q q a46 q) q (Zm q q (Zm q q ?_))))))
 obtain ⟨k77, hk77, h⟩ := letkS h
 obtain ⟨k78, hk78, h⟩ := letkS h
 refine WL.inl (us := [.pt 1 0, .n o61, .n k62]) (fun rv st' => (k77 () = some r ∧ Le rv (.d (.v (.pointer none))) ∧ SLe st' [.row 116 (tQ 1 tR tP tX tD 5 va), .row 90 (mR mI mH mO mE 2 vo mN 4 vu), .os 42 1 vo (famE 3 vf (List.length mS)), .fam 2 1 vf (famM E2 mS), .os 2 1 vu (eM E2 mU), .os 58 6 va (eM R58 tA), .row 101 [.n 0, .n 0, .n 0, .d (D.b false), sN]]) ∨ (k78 () = some r ∧ Le rv (.pem 3 (Int.toNat o61) vf (Int.toNat k62 * 1)) ∧ SLe st' [.row 116 (tQ 1 tR tP tX tD 5 va), .row 90 (mR mI mH mO mE 2 vo mN 4 vu), .os 42 1 vo (famE 3 vf (List.length mS)), .fam 2 1 vf (famM E2 mS), .os 2 1 vu (eM E2 mU), .os 58 6 va (eM R58 tA), .row 101 [.n 0, .n 0, .n 0, .d (D.b false), sN]])) q q q q q ?_ (Zw q) q q ?_
 refine ctr_intro Tryz.func61 (by kernel_rfl) q q q (fun mm φφ ww hm76 => ?_)
 refine Zr (Za q q (Zn (wc_seq (Zr (Zm q q (Zq (y_lss q q) q (Zm q q ?_)))))))
 apply WL.or 8 (t := 9) (d := 17)
 exact q
 intro hg9
 exact Zy (y_move q) q q q (Zy (y_move q) q q q (Zy (y_nilCheckp q) q q q (Zy (y_fieldAddr f90_4 q) q q q (Zy (y_load q q a62 q) q q q (Zy (y_len_fam e62 q q q) q q q (Zy (y_geq q q) q q q (Zq (y_pick_f q q) q (WL.nil ⟨q, [_, _, _, _, _, _, _, _], q, q, q⟩))))))))
 exact WL.skips 7 q (Zq (y_pick_t q q) q (WL.nil ⟨q, [_, _, _, _, _, _, _, _], q, q, q⟩))
 refine Zm q q ?_
 apply WL.or 3 (t := 18) (d := 21)
 exact q
 intro hg18
 exact Zy (y_move q) q q q (Zy (y_lss q q) q q q (Zq (y_pick_f q q) q (WL.nil ⟨q, [_, _, _], q, q, q⟩)))
 exact WL.skips 2 q (Zq (y_pick_t q q) q (WL.nil ⟨q, [_, _, _], q, q, q⟩))
 refine Zm q q ?_
 obtain ⟨b79, hb79, h⟩ := bindS h
 apply WL.grp 11 (t := 22) (d := 33) (z := b79)
 exact q
 intro hg22
 have h := condT hb79 hg22
 refine WL.skips 10 q (Zq (y_pick_t q q) q ?_)
 obtain rfl := Oi h
 exact WL.nil ⟨q, [_, _, _, _, _, _, _, _, _, _, _], q, q, q⟩
 intro hg22
 have h := condF hb79 hg22
 refine Zy (y_move q) q q q (Zy (y_move q) q q q (Zy (y_nilCheckp q) q q q (Zy (y_fieldAddr f90_4 q) q q q (Zy (y_load q q a62 q) q q q (Zy (y_move q) q q q ?_)))))
 obtain ⟨x80, hx80, h⟩ := bindS h
 refine Zy (y_pe_fam e62 q q q (idx_nonneg hx80) (idx_lt hx80)) q q q (Zy (y_load_mem (i := o61) q q a42 (idx_toNat hx80)) q q q (Zy (y_len_mem e42 q q q (idx_get hx80)) q q q (Zy (y_geq q q) q q q (Zq (y_pick_f q q) q ?_))))
 obtain rfl := Oi h
 exact WL.nil ⟨q, [_, _, _, _, _, _, _, _, _, _, _], q, q, q⟩
 refine Zn (wc_cond q (fun hc8 => ?_) (fun hc8 => ?_))
 replace h := condT h hc8
 exact Zr (Za q q (Zn (wc_ret (we_seq_ret (we_ret (rs1 q (rv_t q)) (.inl ⟨h, Zl, ⟨Zp, Zp, Zf, Zf, Zf, Zf, Zp, Zt⟩⟩))))))
 replace h := condF h hc8
 refine wc_skip (we_seq (Zr (Zm q q (Zq (y_nilCheckp q) q (Zq (y_fieldAddr f90_4 q) q (Zq (y_load q q a62 q) q (Zm q q ?_)))))))
 obtain ⟨x81, hx81, h⟩ := bindS h
 refine Zq (y_pe_fam e62 q q q (idx_nonneg hx81) (idx_lt hx81)) q (Zq (y_load_mem (i := o61) q q a42 (idx_toNat hx81)) q (Zm q q ?_))
 obtain ⟨v82, hv82, h⟩ := bindS h
 exact Zq (y_idx_mem (E := E2) (L := mS) (M := x81) (v := v82) e42 q q (idx_get hx81) q hv82) q (Za q q (Zn (wc_ret (we_ret (rs1 q (rv_t q)) (.inr (⟨h, Zl, ⟨Zp, Zp, Zf, Zf, Zf, Zf, Zp, Zt⟩⟩))))))
 rintro rv st1 (⟨h, hr, hst⟩ | ⟨h, hr, hst⟩)
 subst hk77
 dsimp only at h
 refine WL.cast 65 q hr (WL.weak hst (Za q q (Zn (wc_seq (Zr (Zm q q (Zq (y_eqnn Tryz.underlying128 q) q (Zn (wc_true q (wc_regionP (WLP.wing [] q q q q (f102_c  (r := Rs.bad 280) q) Zt q (by decide) q Zt q q (Zw q) q q (fun r' new hS => ?_) (fun c new hS => ?_))))))))))))
 obtain ⟨z9, hz, _⟩ := hS
 cases hz
 obtain ⟨z9, hz, rfl, rfl⟩ := hS
 obtain rfl := Rs.bad.inj hz
 refine ⟨_, q, q, ?_⟩
 exact we_seq_pan (we_pan ⟨h, q, ⟨Zp, Zp, Zf, Zf, Zf, Zf, Zp, Zt⟩⟩)
 subst hk78
 dsimp only at h
 refine WL.cast 65 q hr (WL.weak hst (Za q q (Zn (wc_seq (Zr (Zm q q (Zq (y_eqpm Tryz.underlying128 q q) q (Zn (wc_false q (wc_skip (we_seq (wc_seq ?_))))))))))))
 obtain ⟨x87, hx87, h⟩ := bindS h
 apply wc_region_all [_, _, _, _, _, _, _, _, _, _, _, _, .u] [[], [], [1], [1, 2], [1, 2, 3], [1, 2, 3, 4], [1, 2, 3, 4, 5], [1, 2, 3, 4, 5, 6], [], [1, 2, 3, 4, 5, 6, 7, 8], [1, 2, 3, 4, 5, 6, 7, 8, 9], [0], [0, 1, 2, 3, 4, 5, 6, 7, 8, 9, 10, 11]] [12] (fun c => List.getD [[.row 116 (tQ 1 tR tP tX tD 5 va), .row 90 (mR mI mH mO mE 2 vo mN 4 vu), .os 42 1 vo (famE 3 vf (List.length mS)), .fam 2 1 vf (famM E2 mS), .os 2 1 vu (eM E2 mU), .os 58 6 va (eM R58 tA), .row 101 [.n 0, .n 0, .n 0, .d (D.b false), sN]], [.row 116 (tQ 1 tR tP tX tD 5 va), .row 90 (mR mI mH mO mE 2 vo mN 4 vu), .os 42 1 vo (famE 3 vf (List.length mS)), .fam 2 1 vf (famM E2 mS), .os 2 1 vu (eM E2 mU), .os 58 6 va (eM R58 tA), .row 101 [.n x87.size, .n x87.lo, .n x87.hi, .d (D.b x87.ptr), .l E3 x87.set_]]] c []) [([], [9], [0]), ([], [0], [0]), ([1], [], [0]), ([2], [], [0]), ([3], [], [0]), ([4], [], [0]), ([5], [], [0]), ([6], [], [0]), ([], [6], [0]), ([7, 8], [], [0]), ([9], [], [0]), ([0], [], [0]), ([10], [5], [0])] (by kernel_rfl) (by kernel_rfl) q q q
 refine ⟨?_, ?_, ?_, ?_, ?_, ?_, ?_, ?_, ?_, ?_, ?_, ?_, ?_, Zt⟩
 refine ⟨fun F => ?_, Zt⟩
 exact Zm q q (Zd q q q)
 refine ⟨fun F => ?_, Zt⟩
 exact Zm q q (Zd q q q)
 refine ⟨fun F => ?_, Zt⟩
 exact Zq (y_nilCheckp q) q (Zd q q q)
 refine ⟨fun F => ?_, Zt⟩
 exact Zq (y_fieldAddr f116_0 q) q (Zd q q q)
 refine ⟨fun F => ?_, Zt⟩
 exact Zq (y_load q q a46 q) q (Zd q q q)
 refine ⟨fun F => ?_, Zt⟩
 exact Zq (y_nilCheckp q) q (Zd q q q)
 refine ⟨fun F => ?_, Zt⟩
 exact Zq (y_fieldAddr f90_2 q) q (Zd q q q)
 refine ⟨fun F => ?_, Zt⟩
 exact Zq (y_load q q a33 q) q (Zd q q q)
 refine ⟨fun F => ?_, Zt⟩
 exact Zm q q (Zd q q q)
 refine ⟨fun F => ?_, Zt⟩
 exact Zq (y_indexAddr e33 q Zl q (idx_nonneg hx87) (idx_row E101_eq hx87) q) q (Zd q q q)
 refine ⟨fun F => ?_, Zt⟩
 exact Zq (y_loadcN q a101 s101 q) q (Zd q q q)
 refine ⟨fun F => ?_, Zt⟩
 exact Za q q (Zd q q q)
 refine ⟨fun F => ?_, Zt⟩
 exact WL.s0 (d_store q q q q q q s101 q q) (Zw q) q (WL.done0 q q)
 exact we_seq (wc_ret (WE.finP (we_ret (rs2 q (rv_t q) (rv_cN q q a101 s101 q)) ⟨x87, o61, k62, x87.size, x87.lo, x87.hi, x87.ptr, x87.set_, h, (Le.tu ⟨Zl, (Le.agd ⟨Zl, Zl, Zl, Zl, Zl, Zt⟩), Zt⟩), ⟨Zp, Zp, Zf, Zf, Zf, Zf, Zp, Zt⟩⟩)))
 rintro rv st1 ⟨t51, o52, k53, c6054, c6155, c6256, c6357, c6458, h, hr, hst⟩
 subst hk59
 dsimp only at h
 refine WLP.of (WL.cast 29 q hr (WL.weak hst (Zm q q (Zq (y_extract q q) q (Zq (y_extract q q) q (WL.s ((b_alloc z101).does) (Zw q) q q (Za q q (WL.s0 (d_store q q q q q q s101 q q) (Zw q) q (WL.st (st' := [.row 116 (tQ 1 tR tP tX tD 5 va), .row 90 (mR mI mH mO mE 2 vo mN 4 vu), .os 42 1 vo (famE 3 vf (List.length mS)), .fam 2 1 vf (famM E2 mS), .os 2 1 vu (eM E2 mU), .os 58 6 va (eM R58 tA), .row 101 [.n c6054, .n c6155, .n c6256, .d (D.b c6357), .l E3 c6458], .row 101 [.n t51.size, .n t51.lo, .n t51.hi, .d (D.b t51.ptr), .l E3 t51.set_]]) q (Zn (wc_seq (Zr (Zq (y_loadN q q a101 s101 q) q (Zm q q ?_))))))))))))))
 obtain ⟨r88, hr88, h⟩ := bindS h
 refine WL.fn q q q q (f63_c _ _ hr88) ⟨(Le.agd ⟨Zl, Zl, Zl, Zl, Zl, Zt⟩), Zl, Zt⟩ (Zw q) q q (Zq (y_not q) q (Zn (wc_cond q (fun hc9 => ?_) (fun hc9 => ?_))))
 replace h := condT h hc9
 refine wc_regionP (WLP.wing [] q q q q (f102_c  (r := Rs.bad 280) q) Zt q (by decide) q Zt q q (Zw q) q q (fun r' new hS => ?_) (fun c new hS => ?_))
 obtain ⟨z9, hz, _⟩ := hS
 cases hz
 obtain ⟨z9, hz, rfl, rfl⟩ := hS
 obtain rfl := Rs.bad.inj hz
 refine ⟨_, q, q, ?_⟩
 refine we_seq_pan ?_
 obtain rfl := Oi h
 exact we_pan_g (new := (wD mI mH mO mE vo mN vu vf mS mU)) q ⟨Zt, Zp, Zf, Zf, Zf, Zt, Zt⟩ ⟨_, q, q, q⟩
 replace h := condF h hc9
 refine wc_skip (we_seq (wc_seq (wc_regionP (WLP.pre 1 (Zm q q (WL.nil ?_))))))
 obtain ⟨r93, hr93, h⟩ := bindS h
 rcases r93 with z94 | e95
 dsimp only [Rs.cs] at h
 refine WLP.wing [0, 1, 2, 3, 4, 5] q q q q (f131_c _ _ _ _ _ _ _ _ _ _ _ _ hr93) ⟨Zl, Zt⟩ q (by decide) (cons_eq q (cons_eq q (Rg (Rf (Ro (cons_eq (ren_os _ _ _ _ _ _) q)))))) ⟨q, q, q, q, q, q, Zt⟩ (stLt_cons q (stLt_cons q (Lg q (Lf (Lo (stLt_cons (lt_os _ _ _ _ _ _) q)))))) q (Zw q) q q (fun r' new hS => ?_) (fun c new hS => ?_)
 obtain ⟨z9, hz, rfl, rfl⟩ := hS
 obtain rfl := Rs.ok.inj hz
 refine ⟨_, _, q, (cons_eq q (cons_eq q (Rg (Rf (Ro (cons_eq (ren_os _ _ _ _ _ _) q)))))), q, (stLt_cons q (stLt_cons q (Lg q (Lf (Lo (stLt_cons (lt_os _ _ _ _ _ _) q)))))), WLP.of ?_⟩
 refine WL.st (st' := [.row 116 (([.pt 1 0] : List AV) ++ (vecA 16 (fun j => .n (z94.1 j)) ++ ([.n z94.2.1, .n z94.2.2.1, .n z94.2.2.2, .os 5 va] : List AV) : List AV)), .row 90 (mR mI mH mO mE 2 vo mN 4 vu), .os 42 1 vo (famE 3 vf (List.length mS)), .fam 2 1 vf (famM E2 mS), .os 2 1 vu (eM E2 mU), .os 58 6 va (eM R58 tA), .row 101 [.n c6054, .n c6155, .n c6256, .d (D.b c6357), .l E3 c6458], .row 101 [.n t51.size, .n t51.lo, .n t51.hi, .d (D.b t51.ptr), .l E3 t51.set_]]) q (Zn (wc_region (Zm q q (Zm q q (Zq (y_nilCheckm q q) q ?_)))))
 obtain ⟨x97, hx97, h⟩ := bindS h
 obtain ⟨v98, hv98, h⟩ := bindS h
 refine WL.s0 (d_store_pem (E := E2) (L := mS) (M := x97) (v := v98) (z := v46) (i := k53) q q (idx_get hx97) hv98 (fun _ => q) q q ⟨Zl, Zt⟩ q s2) (Zw q) q ?_
 refine WL.st (st' := [.row 116 (([.pt 1 0] : List AV) ++ (vecA 16 (fun j => .n (z94.1 j)) ++ ([.n z94.2.1, .n z94.2.2.1, .n z94.2.2.2, .os 5 va] : List AV) : List AV)), .row 90 (mR mI mH mO mE 2 vo mN 4 vu), .os 42 1 vo (famE 3 vf (List.length (List.set mS (Int.toNat o52) (List.set x97 (Int.toNat k53) v46)))), .fam 2 1 vf (famM E2 (List.set mS (Int.toNat o52) (List.set x97 (Int.toNat k53) v46))), .os 2 1 vu (eM E2 mU), .os 58 6 va (eM R58 tA), .row 101 [.n c6054, .n c6155, .n c6256, .d (D.b c6357), .l E3 c6458], .row 101 [.n t51.size, .n t51.lo, .n t51.hi, .d (D.b t51.ptr), .l E3 t51.set_]]) (by show ([.row 116 (([.pt 1 0] : List AV) ++ (vecA 16 (fun j => .n (z94.1 j)) ++ ([.n z94.2.1, .n z94.2.2.1, .n z94.2.2.2, .os 5 va] : List AV) : List AV)), .row 90 (mR mI mH mO mE 2 vo mN 4 vu), .os 42 1 vo (famE 3 vf (List.length mS)), .fam 2 1 vf (famM E2 (List.set mS (Int.toNat o52) (List.set x97 (Int.toNat k53) v46))), .os 2 1 vu (eM E2 mU), .os 58 6 va (eM R58 tA), .row 101 [.n c6054, .n c6155, .n c6256, .d (D.b c6357), .l E3 c6458], .row 101 [.n t51.size, .n t51.lo, .n t51.hi, .d (D.b t51.ptr), .l E3 t51.set_]] : List AO) = _; rw [List.length_set]) (WL.nil ?_)
 refine we_endP ?_
 obtain rfl := Oi h
 exact WE.finP (we_ret_g (new := [.row 116 (([.pt 1 0] : List AV) ++ (vecA 16 (fun j => .n (z94.1 j)) ++ ([.n z94.2.1, .n z94.2.2.1, .n z94.2.2.2, .os 5 va] : List AV) : List AV)), .row 90 (mR mI mH mO mE 2 vo mN 4 vu), .os 42 1 vo (famE 3 vf (List.length (List.set mS (Int.toNat o52) (List.set x97 (Int.toNat k53) v46)))), .fam 2 1 vf (famM E2 (List.set mS (Int.toNat o52) (List.set x97 (Int.toNat k53) v46))), .os 2 1 vu (eM E2 mU), .os 58 6 va (eM R58 tA)]) (r0 := .d (.tu [])) (res0 q) (Le.tud Zt) q ⟨Zp, Zp, Zf, Zf, Zf, Zf, Zt⟩ ⟨_, vf, q, q, q⟩)
 obtain ⟨z9, hz, _⟩ := hS
 cases hz
 dsimp only [Rs.cs] at h
 refine WLP.wing [0, 1, 2, 3, 4, 5] q q q q (f131_c _ _ _ _ _ _ _ _ _ _ _ _ hr93) ⟨Zl, Zt⟩ q (by decide) (cons_eq q (cons_eq q (Rg (Rf (Ro (cons_eq (ren_os _ _ _ _ _ _) q)))))) ⟨q, q, q, q, q, q, Zt⟩ (stLt_cons q (stLt_cons q (Lg q (Lf (Lo (stLt_cons (lt_os _ _ _ _ _ _) q)))))) q (Zw q) q q (fun r' new hS => ?_) (fun c new hS => ?_)
 obtain ⟨z9, hz, _⟩ := hS
 cases hz
 obtain ⟨z9, hz, rfl, rfl⟩ := hS
 obtain rfl := Rs.bad.inj hz
 refine ⟨_, (cons_eq q (cons_eq q (Rg (Rf (Ro (cons_eq q q)))))), (stLt_cons q (stLt_cons q (Lg q (Lf (Lo (stLt_cons q q)))))), ?_⟩
 refine WE.sto (st' := [.dead, .row 90 (mR mI mH mO mE 2 vo mN 4 vu), .os 42 1 vo (famE 3 vf (List.length mS)), .fam 2 1 vf (famM E2 mS), .os 2 1 vu (eM E2 mU), .dead, .row 101 [.n c6054, .n c6155, .n c6256, .d (D.b c6357), .l E3 c6458], .row 101 [.n t51.size, .n t51.lo, .n t51.hi, .d (D.b t51.ptr), .l E3 t51.set_]]) q (we_seq_pan ?_)
 obtain rfl := Oi h
 exact we_pan_g (new := (wD mI mH mO mE vo mN vu vf mS mU)) q ⟨Zt, Zp, Zf, Zf, Zf, Zt, Zt⟩ ⟨_, q, q, q⟩
 rintro c st1 ⟨h, rfl, hst⟩
 subst hk50
 dsimp only at h
 refine WE.weak hst (we_seq_pan ?_)
 obtain rfl := Oi h
 exact we_pan_g (new := (wD mI mH mO mE vo mN vu vf mS mU)) q ⟨Zt, Zp, Zf, Zf, Zf, Zt, Zt⟩ ⟨_, q, q, q⟩

theorem f83_c (tR : Nat → Int) (tP : Int) (tX : Int) (tD : Int) (mI : List Insn) (mH : List MHandler) (mO : List Obj) (mE : Int) (mN : List Int) (mS : List (List Int)) (mU : List Int) (tA : List Act) (x1 : Insn) {vo : Nat} {vf : Nat} {vu : Nat} {va : Nat} {r : Rs ((Nat → Int) × Int × Int × Int)} (h : f83 tR tP tX tD mI mH mO mE mN mS mU tA x1 = some r) : CtrP Tryz.prog 83 [.pt 0 0, .d (.ag (R45 x1))] (wT tR tP tX tD va mI mH mO mE vo mN vu vf mS mU tA) (WinG 6 (fun r' new => ∃ (z : (Nat → Int) × Int × Int × Int), r = .ok z ∧ r' = .d (.tu []) ∧ new = [.row 116 (([.pt 1 0] : List AV) ++ (vecA 16 (fun j => .n (z.1 j)) ++ ([.n z.2.1, .n z.2.2.1, .n z.2.2.2, .os 5 va] : List AV) : List AV)), .row 90 (mR mI mH mO mE 2 vo mN 4 vu), .os 42 1 vo (famE 3 vf (List.length mS)), .fam 2 1 vf (famM E2 mS), .os 2 1 vu (eM E2 mU), .os 58 6 va (eM R58 tA)])) (WinGP 6 (fun c new => ∃ (ee : Int), r = .bad ee ∧ c = wrongP ee ∧ new = (wD mI mH mO mE vo mN vu vf mS mU))) := by
 unfold f83 at h
 refine ctrP_intro Tryz.func83 (by kernel_rfl) q q q (fun mm φφ ww hmm => ?_)
 refine Zr (WL.s ((b_boxd q q (Zs _)).does) (Zw q) q q (Zn (wc_seq (wc_region_draw (by kernel_rfl) (by kernel_rfl) (WQ.qn (y_move q) q (WQ.qn (y_fieldAddrc f45_2 q) q (WQ.qn (y_loadc q a3 q) q (WQ.qn (y_nilCheckp q) q (WQ.qn (y_fieldAddr f116_1 q) q (WQ.qn (y_fieldAddr f41_0 q) q ?_))))))))))
 replace h := guardBS h
 obtain ⟨hgg75, h⟩ := h
 refine WQ.qn (y_indexAddra ar39 q q (vecOk_0 hgg75) (vecOk_1 hgg75)) q (WQ.qn (y_loadV (off := 1) (n := 16) (fun j => .n (tR j)) q q a2 q hgg75) q (WQ.qn (y_assign q) q (WQ.nil (we_seq (wc_block (Zr (Zq (y_fieldAddrc f45_0 q) q (Zq (y_loadc q a43 q) q (Zq (y_eql q q) q (Zm q q ?_))))))))))
 apply WL.and 5 (t := 19) (d := 24)
 exact q
 intro hg19
 exact Zy (y_move q) q q q (Zy (y_fieldAddrc f45_4 q) q q q (Zy (y_loadc q a2 q) q q q (Zy (y_geq q q) q q q (Zq (y_pick_t q q) q (WL.nil ⟨q, [_, _, _, _, _], q, q, q⟩)))))
 exact WL.skips 4 q (Zq (y_pick_f q q) q (WL.nil ⟨q, [_, _, _, _, _], q, q, q⟩))
 refine Zm q q ?_
 apply WL.and 11 (t := 25) (d := 36)
 exact q
 intro hg25
 exact Zy (y_move q) q q q (Zy (y_conv Tryz.underlying2 Tryz.underlying199 q q) q q q (Zy (y_fieldAddrc f45_4 q) q q q (Zy (y_loadc q a2 q) q q q (Zy (y_conv Tryz.underlying2 Tryz.underlying199 q q) q q q (Zy (y_sub q q q) q q q (Zy (y_fieldAddrc f45_5 q) q q q (Zy (y_loadc q a2 q) q q q (Zy (y_conv Tryz.underlying2 Tryz.underlying199 q q) q q q (Zy (y_lss q q) q q q (Zq (y_pick_t q q) q (WL.nil ⟨q, [_, _, _, _, _, _, _, _, _, _, _], q, q, q⟩)))))))))))
 exact WL.skips 10 q (Zq (y_pick_f q q) q (WL.nil ⟨q, [_, _, _, _, _, _, _, _, _, _, _], q, q, q⟩))
 refine Za q q (Zn (wc_cond q (fun hc1 => ?_) (fun hc1 => ?_)))
 replace h := condT h hc1
 refine wc_region (Zm q q (Zq (y_fieldAddrc f45_6 q) q (Zq (y_loadc q a3 q) q (Zm q q (Zq (y_fieldAddrc f45_4 q) q (Zq (y_loadc q a2 q) q (Zq (y_sub q q q) q (Zq (y_add q q q) q (Zq (y_nilCheckp q) q (Zq (y_fieldAddr f116_1 q) q (Zq (y_fieldAddr f41_1 q) q (WL.s0 (d_store q q q q q q s3 q q) (Zw q) q (WL.st (st' := [.row 116 (([.pt 1 0] : List AV) ++ (vecA 16 (fun j => .n (tR j)) ++ ([.n (IntKind.i64.wrap (x1.to + (IntKind.i64.wrap ((tR (Int.toNat x1.a)) - x1.n)))), .n tX, .n tD, .os 5 va] : List AV) : List AV)), .row 90 (mR mI mH mO mE 2 vo mN 4 vu), .os 42 1 vo (famE 3 vf (List.length mS)), .fam 2 1 vf (famM E2 mS), .os 2 1 vu (eM E2 mU), .os 58 6 va (eM R58 tA)]) q (WL.nil (we_blk (we_endP ?_))))))))))))))))
 obtain rfl := Oi h
 exact WE.finP (we_ret_g (new := [.row 116 (([.pt 1 0] : List AV) ++ (vecA 16 (fun j => .n (tR j)) ++ ([.n (IntKind.i64.wrap (x1.to + (IntKind.i64.wrap ((tR (Int.toNat x1.a)) - x1.n)))), .n tX, .n tD, .os 5 va] : List AV) : List AV)), .row 90 (mR mI mH mO mE 2 vo mN 4 vu), .os 42 1 vo (famE 3 vf (List.length mS)), .fam 2 1 vf (famM E2 mS), .os 2 1 vu (eM E2 mU), .os 58 6 va (eM R58 tA)]) (r0 := .d (.tu [])) (res0 q) (Le.tud Zt) q ⟨Zp, Zp, Zf, Zf, Zf, Zf, Zt⟩ ⟨_, q, q, q⟩)
 replace h := condF h hc1
 replace h := letkS h
 obtain ⟨k77, hk77, h⟩ := h
 refine wc_cut (fun env' st' => ∃ (t76 : Bool), k77 t76 = some r ∧ Sub [(0, .pt 0 0), (3, .d (.pc (R45 x1))), (48, .d (D.b t76))] env' ∧ SLe st' (wT tR tP tX tD va mI mH mO mE vo mN vu vf mS mU tA)) ?_ ?_
 refine Zr (Zq (y_fieldAddrc f45_0 q) q (Zq (y_loadc q a43 q) q (Zq (y_eql q q) q (Za q q (Zn (wc_cond q (fun hc2 => ?_) (fun hc2 => ?_)))))))
 replace h := condT h hc2
 exact wc_skip (we_lp ⟨(decide (x1.op = 29)), h, (Sx q (Sx q (Sx q (Sub.nil _)))), ⟨Zp, Zp, Zf, Zf, Zf, Zf, Zt⟩⟩)
 replace h := condF h hc2
 refine Zr (Zq (y_fieldAddrc f45_0 q) q (Zq (y_loadc q a43 q) q (Zq (y_eql q q) q (Zm q q ?_))))
 apply WL.and 3 (t := 55) (d := 58)
 exact q
 intro hg55
 exact Zy (y_move q) q q q (Zy (y_eql q q) q q q (Zq (y_pick_t q q) q (WL.nil ⟨q, [_, _, _], q, q, q⟩)))
 exact WL.skips 2 q (Zq (y_pick_f q q) q (WL.nil ⟨q, [_, _, _], q, q, q⟩))
 refine Za q q (Zn (wc_cond q (fun hc3 => ?_) (fun hc3 => ?_)))
 replace h := condT h hc3
 exact wc_skip (we_lp ⟨((decide (x1.op = 30)) && (decide ((tR (Int.toNat x1.a)) = 0))), h, (Sx q (Sx q (Sx q (Sub.nil _)))), ⟨Zp, Zp, Zf, Zf, Zf, Zf, Zt⟩⟩)
 replace h := condF h hc3
 refine wc_region (Zq (y_fieldAddrc f45_0 q) q (Zq (y_loadc q a43 q) q (Zq (y_eql q q) q (Zm q q ?_))))
 apply WL.and 3 (t := 62) (d := 65)
 exact q
 intro hg62
 exact Zy (y_move q) q q q (Zy (y_neq q q) q q q (Zq (y_pick_t q q) q (WL.nil ⟨q, [_, _, _], q, q, q⟩)))
 exact WL.skips 2 q (Zq (y_pick_f q q) q (WL.nil ⟨q, [_, _, _], q, q, q⟩))
 exact Za q q (WL.nil (we_lp ⟨((decide (x1.op = 31)) && (!decide ((tR (Int.toNat x1.a)) = 0))), h, (Sx q (Sx q (Sx q (Sub.nil _)))), ⟨Zp, Zp, Zf, Zf, Zf, Zf, Zt⟩⟩))
 rintro env1 st1 ⟨t76, h, hsub, hst⟩
 subst hk77
 dsimp only at h
 refine WC.sub hsub (WC.weak hst ?_)
 refine wc_cond q (fun hc4 => ?_) (fun hc4 => ?_)
 replace h := condT h hc4
 refine wc_region (Zm q q (Zq (y_fieldAddrc f45_6 q) q (Zq (y_loadc q a3 q) q (Zq (y_nilCheckp q) q (Zq (y_fieldAddr f116_1 q) q (Zq (y_fieldAddr f41_1 q) q (WL.s0 (d_store q q q q q q s3 q q) (Zw q) q (WL.st (st' := [.row 116 (([.pt 1 0] : List AV) ++ (vecA 16 (fun j => .n (tR j)) ++ ([.n x1.to, .n tX, .n tD, .os 5 va] : List AV) : List AV)), .row 90 (mR mI mH mO mE 2 vo mN 4 vu), .os 42 1 vo (famE 3 vf (List.length mS)), .fam 2 1 vf (famM E2 mS), .os 2 1 vu (eM E2 mU), .os 58 6 va (eM R58 tA)]) q (WL.nil (we_blk (we_endP ?_)))))))))))
 obtain rfl := Oi h
 exact WE.finP (we_ret_g (new := [.row 116 (([.pt 1 0] : List AV) ++ (vecA 16 (fun j => .n (tR j)) ++ ([.n x1.to, .n tX, .n tD, .os 5 va] : List AV) : List AV)), .row 90 (mR mI mH mO mE 2 vo mN 4 vu), .os 42 1 vo (famE 3 vf (List.length mS)), .fam 2 1 vf (famM E2 mS), .os 2 1 vu (eM E2 mU), .os 58 6 va (eM R58 tA)]) (r0 := .d (.tu [])) (res0 q) (Le.tud Zt) q ⟨Zp, Zp, Zf, Zf, Zf, Zf, Zt⟩ ⟨_, q, q, q⟩)
 replace h := condF h hc4
 refine wc_regionP (WLP.pre 1 (Zm q q (WL.nil ?_)))
 obtain ⟨r78, hr78, h⟩ := bindS h
 rcases r78 with z79 | e80
 dsimp only [Rs.cs] at h
 refine WLP.wing [0, 1, 2, 3, 4, 5] q q q q (f131_c _ _ _ _ _ _ _ _ _ _ _ _ hr78) ⟨Zl, Zt⟩ q (by decide) (cons_eq q (cons_eq q (Rg (Rf (Ro (cons_eq (ren_os _ _ _ _ _ _) q)))))) ⟨q, q, q, q, q, q, Zt⟩ (stLt_cons q (stLt_cons q (Lg q (Lf (Lo (stLt_cons (lt_os _ _ _ _ _ _) q)))))) q (Zw q) q q (fun r' new hS => ?_) (fun c new hS => ?_)
 obtain ⟨z9, hz, rfl, rfl⟩ := hS
 obtain rfl := Rs.ok.inj hz
 refine ⟨_, _, q, (cons_eq q (cons_eq q (Rg (Rf (Ro (cons_eq (ren_os _ _ _ _ _ _) q)))))), q, (stLt_cons q (stLt_cons q (Lg q (Lf (Lo (stLt_cons (lt_os _ _ _ _ _ _) q)))))), WLP.of ?_⟩
 refine WL.st (st' := [.row 116 (([.pt 1 0] : List AV) ++ (vecA 16 (fun j => .n (z79.1 j)) ++ ([.n z79.2.1, .n z79.2.2.1, .n z79.2.2.2, .os 5 va] : List AV) : List AV)), .row 90 (mR mI mH mO mE 2 vo mN 4 vu), .os 42 1 vo (famE 3 vf (List.length mS)), .fam 2 1 vf (famM E2 mS), .os 2 1 vu (eM E2 mU), .os 58 6 va (eM R58 tA)]) q (WL.nil (we_blk (we_endP ?_)))
 obtain rfl := Oi h
 exact WE.finP (we_ret_g (new := [.row 116 (([.pt 1 0] : List AV) ++ (vecA 16 (fun j => .n (z79.1 j)) ++ ([.n z79.2.1, .n z79.2.2.1, .n z79.2.2.2, .os 5 va] : List AV) : List AV)), .row 90 (mR mI mH mO mE 2 vo mN 4 vu), .os 42 1 vo (famE 3 vf (List.length mS)), .fam 2 1 vf (famM E2 mS), .os 2 1 vu (eM E2 mU), .os 58 6 va (eM R58 tA)]) (r0 := .d (.tu [])) (res0 q) (Le.tud Zt) q ⟨Zp, Zp, Zf, Zf, Zf, Zf, Zt⟩ ⟨_, q, q, q⟩)
 obtain ⟨z9, hz, _⟩ := hS
 cases hz
 dsimp only [Rs.cs] at h
 refine WLP.wing [0, 1, 2, 3, 4, 5] q q q q (f131_c _ _ _ _ _ _ _ _ _ _ _ _ hr78) ⟨Zl, Zt⟩ q (by decide) (cons_eq q (cons_eq q (Rg (Rf (Ro (cons_eq (ren_os _ _ _ _ _ _) q)))))) ⟨q, q, q, q, q, q, Zt⟩ (stLt_cons q (stLt_cons q (Lg q (Lf (Lo (stLt_cons (lt_os _ _ _ _ _ _) q)))))) q (Zw q) q q (fun r' new hS => ?_) (fun c new hS => ?_)
 obtain ⟨z9, hz, _⟩ := hS
 cases hz
 obtain ⟨z9, hz, rfl, rfl⟩ := hS
 obtain rfl := Rs.bad.inj hz
 refine ⟨_, (cons_eq q (cons_eq q (Rg (Rf (Ro (cons_eq q q)))))), (stLt_cons q (stLt_cons q (Lg q (Lf (Lo (stLt_cons q q)))))), ?_⟩
 refine WE.sto (st' := (wD mI mH mO mE vo mN vu vf mS mU)) q (we_blk_pan ?_)
 obtain rfl := Oi h
 exact we_pan_g (new := (wD mI mH mO mE vo mN vu vf mS mU)) q ⟨Zt, Zp, Zf, Zf, Zf, Zt, Zt⟩ ⟨_, q, q, q⟩

theorem f84_c (tR : Nat → Int) (tP : Int) (tX : Int) (tD : Int) (mI : List Insn) (mH : List MHandler) (mO : List Obj) (mE : Int) (mN : List Int) (mS : List (List Int)) (mU : List Int) (tA : List Act) (x1 : Insn) {vo : Nat} {vf : Nat} {vu : Nat} {va : Nat} {r : Rs ((Nat → Int) × Int × Int × Int × (List Act))} (h : f84 tR tP tX tD mI mH mO mE mN mS mU tA x1 = some r) : CtrP Tryz.prog 84 [.pt 0 0, .d (.ag (R45 x1))] (wT tR tP tX tD va mI mH mO mE vo mN vu vf mS mU tA) (WinG 6 (fun r' new => ∃ (z : (Nat → Int) × Int × Int × Int × (List Act)) (i5 : Nat), r = .ok z ∧ r' = .d (.tu []) ∧ new = [.row 116 (([.pt 1 0] : List AV) ++ (vecA 16 (fun j => .n (z.1 j)) ++ ([.n z.2.1, .n z.2.2.1, .n z.2.2.2.1, .os 5 i5] : List AV) : List AV)), .row 90 (mR mI mH mO mE 2 vo mN 4 vu), .os 42 1 vo (famE 3 vf (List.length mS)), .fam 2 1 vf (famM E2 mS), .os 2 1 vu (eM E2 mU), .os 58 6 i5 (eM R58 z.2.2.2.2)])) (WinGP 6 (fun c new => ∃ (ee : Int), r = .bad ee ∧ c = wrongP ee ∧ new = (wD mI mH mO mE vo mN vu vf mS mU))) := by
 unfold f84 at h
 refine ctrP_intro Tryz.func84 (by kernel_rfl) q q q (fun mm φφ ww hmm => ?_)
 refine Zr (WL.s ((b_boxd q q (Zs _)).does) (Zw q) q q (Zn (wc_seq (wc_region_draw (by kernel_rfl) (by kernel_rfl) (WQ.qn (y_move q) q (WQ.qn (y_fieldAddrc f45_2 q) q (WQ.qn (y_loadc q a3 q) q (WQ.qn (y_nilCheckp q) q (WQ.qn (y_fieldAddr f116_1 q) q (WQ.qn (y_fieldAddr f41_0 q) q ?_))))))))))
 replace h := guardBS h
 obtain ⟨hgg44, h⟩ := h
 refine WQ.qn (y_indexAddra ar39 q q (vecOk_0 hgg44) (vecOk_1 hgg44)) q (WQ.qn (y_loadV (off := 1) (n := 16) (fun j => .n (tR j)) q q a2 q hgg44) q (WQ.qn (y_assign q) q (WQ.nil (we_seq (wc_seq (Zr (Zq (y_fieldAddrc f45_0 q) q (Zq (y_loadc q a43 q) q (Zq (y_eql q q) q (Zm q q ?_))))))))))
 apply WL.and 11 (t := 16) (d := 27)
 exact q
 intro hg16
 refine Zy (y_move q) q q q (Zy (y_fieldAddrc f45_4 q) q q q (Zy (y_loadc q a2 q) q q q (Zy (y_lss q q) q q q (Zy (y_move q) q q q ?_))))
 apply WL.or 5 (t := 21) (d := 26)
 exact q
 intro hg21
 exact Zy (y_move q) q q q (Zy (y_fieldAddrc f45_5 q) q q q (Zy (y_loadc q a2 q) q q q (Zy (y_gtr q q) q q q (Zy (y_pick_f q q) q q q (WL.nil ⟨q, [_, _, _, _, _], q, q, q⟩)))))
 exact WL.skips 4 q (Zy (y_pick_t q q) q q q (WL.nil ⟨q, [_, _, _, _, _], q, q, q⟩))
 exact Zq (y_pick_t q q) q (WL.nil ⟨q, [_, _, _, _, _, _, _], q, q, q⟩)
 exact WL.skips 10 q (Zq (y_pick_f q q) q (WL.nil ⟨q, [_, _, _, _, _, _, _, _, _, _, _], q, q, q⟩))
 refine Zm q q ?_
 apply WL.or 8 (t := 28) (d := 36)
 exact q
 intro hg28
 refine Zy (y_fieldAddrc f45_0 q) q q q (Zy (y_loadc q a43 q) q q q (Zy (y_eql q q) q q q (Zy (y_move q) q q q ?_)))
 apply WL.and 3 (t := 32) (d := 35)
 exact q
 intro hg32
 exact Zy (y_move q) q q q (Zy (y_eql q q) q q q (Zy (y_pick_t q q) q q q (WL.nil ⟨q, [_, _, _], q, q, q⟩)))
 exact WL.skips 2 q (Zy (y_pick_f q q) q q q (WL.nil ⟨q, [_, _, _], q, q, q⟩))
 exact Zq (y_pick_f q q) q (WL.nil ⟨q, [_, _, _, _, _, _], q, q, q⟩)
 exact WL.skips 7 q (Zq (y_pick_t q q) q (WL.nil ⟨q, [_, _, _, _, _, _, _, _], q, q, q⟩))
 refine Zn (wc_cond q (fun hc1 => ?_) (fun hc1 => ?_))
 replace h := condT h hc1
 refine wc_seq (wc_regionP (WLP.pre 1 (Zm q q (WL.nil ?_))))
 obtain ⟨r45, hr45, h⟩ := bindS h
 rcases r45 with z46 | e47
 dsimp only [Rs.cs] at h
 refine WLP.wing [0, 1, 2, 3, 4, 5] q q q q (f56_c _ _ _ _ _ _ _ _ _ _ _ _ _ hr45) ⟨Zl, Zl, Zt⟩ q (by decide) (cons_eq q (cons_eq q (Rg (Rf (Ro (cons_eq (ren_os _ _ _ _ _ _) q)))))) ⟨q, q, q, q, q, q, Zt⟩ (stLt_cons q (stLt_cons q (Lg q (Lf (Lo (stLt_cons (lt_os _ _ _ _ _ _) q)))))) q (Zw q) q q (fun r' new hS => ?_) (fun c new hS => ?_)
 obtain ⟨z9, i5_48, hz, rfl, rfl⟩ := hS
 obtain rfl := Rs.ok.inj hz
 refine ⟨_, _, q, (cons_eq q (cons_eq q (Rg (Rf (Ro (cons_eq (ren_os _ _ _ _ _ _) q)))))), q, (stLt_cons q (stLt_cons q (Lg q (Lf (Lo (stLt_cons (lt_os _ _ _ _ _ _) q)))))), WLP.of ?_⟩
 refine WL.st (st' := [.row 116 (([.pt 1 0] : List AV) ++ (vecA 16 (fun j => .n (z46.1 j)) ++ ([.n z46.2.1, .n z46.2.2.1, .n z46.2.2.2.1, .os 5 i5_48] : List AV) : List AV)), .row 90 (mR mI mH mO mE 2 vo mN 4 vu), .os 42 1 vo (famE 3 vf (List.length mS)), .fam 2 1 vf (famM E2 mS), .os 2 1 vu (eM E2 mU), .os 58 6 i5_48 (eM R58 z46.2.2.2.2)]) q (Zn (wc_ret (we_seq_ret ?_)))
 obtain rfl := Oi h
 exact WE.finP (we_ret_g (new := [.row 116 (([.pt 1 0] : List AV) ++ (vecA 16 (fun j => .n (z46.1 j)) ++ ([.n z46.2.1, .n z46.2.2.1, .n z46.2.2.2.1, .os 5 i5_48] : List AV) : List AV)), .row 90 (mR mI mH mO mE 2 vo mN 4 vu), .os 42 1 vo (famE 3 vf (List.length mS)), .fam 2 1 vf (famM E2 mS), .os 2 1 vu (eM E2 mU), .os 58 6 i5_48 (eM R58 z46.2.2.2.2)]) (r0 := .d (.tu [])) (res0 q) (Le.tud Zt) q ⟨Zp, Zp, Zf, Zf, Zf, Zf, Zt⟩ ⟨_, i5_48, q, q, q⟩)
 obtain ⟨z9, hz, _⟩ := hS
 cases hz
 dsimp only [Rs.cs] at h
 refine WLP.wing [0, 1, 2, 3, 4, 5] q q q q (f56_c _ _ _ _ _ _ _ _ _ _ _ _ _ hr45) ⟨Zl, Zl, Zt⟩ q (by decide) (cons_eq q (cons_eq q (Rg (Rf (Ro (cons_eq (ren_os _ _ _ _ _ _) q)))))) ⟨q, q, q, q, q, q, Zt⟩ (stLt_cons q (stLt_cons q (Lg q (Lf (Lo (stLt_cons (lt_os _ _ _ _ _ _) q)))))) q (Zw q) q q (fun r' new hS => ?_) (fun c new hS => ?_)
 obtain ⟨z9, i5_48, hz, _⟩ := hS
 cases hz
 obtain ⟨z9, hz, rfl, rfl⟩ := hS
 obtain rfl := Rs.bad.inj hz
 refine ⟨_, (cons_eq q (cons_eq q (Rg (Rf (Ro (cons_eq q q)))))), (stLt_cons q (stLt_cons q (Lg q (Lf (Lo (stLt_cons q q)))))), ?_⟩
 refine WE.sto (st' := (wD mI mH mO mE vo mN vu vf mS mU)) q (we_seq_pan (we_seq_pan ?_))
 obtain rfl := Oi h
 exact we_pan_g (new := (wD mI mH mO mE vo mN vu vf mS mU)) q ⟨Zt, Zp, Zf, Zf, Zf, Zt, Zt⟩ ⟨_, q, q, q⟩
 replace h := condF h hc1
 refine wc_skip (we_seq (wc_regionP (WLP.pre 1 (Zm q q (WL.nil ?_)))))
 obtain ⟨r49, hr49, h⟩ := bindS h
 rcases r49 with z50 | e51
 dsimp only [Rs.cs] at h
 refine WLP.wing [0, 1, 2, 3, 4, 5] q q q q (f131_c _ _ _ _ _ _ _ _ _ _ _ _ hr49) ⟨Zl, Zt⟩ q (by decide) (cons_eq q (cons_eq q (Rg (Rf (Ro (cons_eq (ren_os _ _ _ _ _ _) q)))))) ⟨q, q, q, q, q, q, Zt⟩ (stLt_cons q (stLt_cons q (Lg q (Lf (Lo (stLt_cons (lt_os _ _ _ _ _ _) q)))))) q (Zw q) q q (fun r' new hS => ?_) (fun c new hS => ?_)
 obtain ⟨z9, hz, rfl, rfl⟩ := hS
 obtain rfl := Rs.ok.inj hz
 refine ⟨_, _, q, (cons_eq q (cons_eq q (Rg (Rf (Ro (cons_eq (ren_os _ _ _ _ _ _) q)))))), q, (stLt_cons q (stLt_cons q (Lg q (Lf (Lo (stLt_cons (lt_os _ _ _ _ _ _) q)))))), WLP.of ?_⟩
 refine WL.st (st' := [.row 116 (([.pt 1 0] : List AV) ++ (vecA 16 (fun j => .n (z50.1 j)) ++ ([.n z50.2.1, .n z50.2.2.1, .n z50.2.2.2, .os 5 va] : List AV) : List AV)), .row 90 (mR mI mH mO mE 2 vo mN 4 vu), .os 42 1 vo (famE 3 vf (List.length mS)), .fam 2 1 vf (famM E2 mS), .os 2 1 vu (eM E2 mU), .os 58 6 va (eM R58 tA)]) q (WL.nil (we_endP ?_))
 obtain rfl := Oi h
 exact WE.finP (we_ret_g (new := [.row 116 (([.pt 1 0] : List AV) ++ (vecA 16 (fun j => .n (z50.1 j)) ++ ([.n z50.2.1, .n z50.2.2.1, .n z50.2.2.2, .os 5 va] : List AV) : List AV)), .row 90 (mR mI mH mO mE 2 vo mN 4 vu), .os 42 1 vo (famE 3 vf (List.length mS)), .fam 2 1 vf (famM E2 mS), .os 2 1 vu (eM E2 mU), .os 58 6 va (eM R58 tA)]) (r0 := .d (.tu [])) (res0 q) (Le.tud Zt) q ⟨Zp, Zp, Zf, Zf, Zf, Zf, Zt⟩ ⟨_, va, q, q, q⟩)
 obtain ⟨z9, hz, _⟩ := hS
 cases hz
 dsimp only [Rs.cs] at h
 refine WLP.wing [0, 1, 2, 3, 4, 5] q q q q (f131_c _ _ _ _ _ _ _ _ _ _ _ _ hr49) ⟨Zl, Zt⟩ q (by decide) (cons_eq q (cons_eq q (Rg (Rf (Ro (cons_eq (ren_os _ _ _ _ _ _) q)))))) ⟨q, q, q, q, q, q, Zt⟩ (stLt_cons q (stLt_cons q (Lg q (Lf (Lo (stLt_cons (lt_os _ _ _ _ _ _) q)))))) q (Zw q) q q (fun r' new hS => ?_) (fun c new hS => ?_)
 obtain ⟨z9, hz, _⟩ := hS
 cases hz
 obtain ⟨z9, hz, rfl, rfl⟩ := hS
 obtain rfl := Rs.bad.inj hz
 refine ⟨_, (cons_eq q (cons_eq q (Rg (Rf (Ro (cons_eq q q)))))), (stLt_cons q (stLt_cons q (Lg q (Lf (Lo (stLt_cons q q)))))), ?_⟩
 refine WE.sto (st' := (wD mI mH mO mE vo mN vu vf mS mU)) q ?_
 obtain rfl := Oi h
 exact we_pan_g (new := (wD mI mH mO mE vo mN vu vf mS mU)) q ⟨Zt, Zp, Zf, Zf, Zf, Zt, Zt⟩ ⟨_, q, q, q⟩

theorem f85_c (tR : Nat → Int) (tP : Int) (tX : Int) (tD : Int) (mI : List Insn) (mH : List MHandler) (mO : List Obj) (mE : Int) (mN : List Int) (mS : List (List Int)) (mU : List Int) (tA : List Act) (x1 : Insn) {vo : Nat} {vf : Nat} {vu : Nat} {va : Nat} {r : Rs ((Nat → Int) × Int × Int × Int × (List Act))} (h : f85 tR tP tX tD mI mH mO mE mN mS mU tA x1 = some r) : CtrP Tryz.prog 85 [.pt 0 0, .d (.ag (R45 x1))] (wT tR tP tX tD va mI mH mO mE vo mN vu vf mS mU tA) (WinG 6 (fun r' new => ∃ (z : (Nat → Int) × Int × Int × Int × (List Act)) (i5 : Nat), r = .ok z ∧ r' = .d (.tu []) ∧ new = [.row 116 (([.pt 1 0] : List AV) ++ (vecA 16 (fun j => .n (z.1 j)) ++ ([.n z.2.1, .n z.2.2.1, .n z.2.2.2.1, .os 5 i5] : List AV) : List AV)), .row 90 (mR mI mH mO mE 2 vo mN 4 vu), .os 42 1 vo (famE 3 vf (List.length mS)), .fam 2 1 vf (famM E2 mS), .os 2 1 vu (eM E2 mU), .os 58 6 i5 (eM R58 z.2.2.2.2)])) (WinGP 6 (fun c new => ∃ (ee : Int), r = .bad ee ∧ c = wrongP ee ∧ new = (wD mI mH mO mE vo mN vu vf mS mU))) := by
 unfold f85 at h
 refine ctrP_intro Tryz.func85 (by kernel_rfl) q q q (fun mm φφ ww hmm => ?_)
 refine Zr (WL.s ((b_boxd q q (Zs _)).does) (Zw q) q q (Zn (wc_seq (wc_region_draw (by kernel_rfl) (by kernel_rfl) (WQ.qn (y_move q) q (WQ.qn (y_fieldAddrc f45_2 q) q (WQ.qn (y_loadc q a3 q) q (WQ.qn (y_nilCheckp q) q (WQ.qn (y_fieldAddr f116_1 q) q (WQ.qn (y_fieldAddr f41_0 q) q ?_))))))))))
 replace h := guardBS h
 obtain ⟨hgg68, h⟩ := h
 refine WQ.qn (y_indexAddra ar39 q q (vecOk_0 hgg68) (vecOk_1 hgg68)) q (WQ.qn (y_loadV (off := 1) (n := 16) (fun j => .n (tR j)) q q a2 q hgg68) q (WQ.qn (y_assign q) q (WQ.nil (we_seq (wc_block (Zr (Zq (y_fieldAddrc f45_0 q) q (Zq (y_loadc q a43 q) q (Zq (y_eql q q) q (Za q q (Zn (wc_cond q (fun hc1 => ?_) (fun hc1 => ?_)))))))))))))
 replace h := condT h hc1
 refine wc_regionP (WLP.pre 3 (Zm q q (Zq (y_fieldAddrc f45_4 q) q (Zq (y_loadc q a2 q) q (WL.nil ?_)))))
 obtain ⟨r69, hr69, h⟩ := bindS h
 rcases r69 with z70 | e71
 dsimp only [Rs.cs] at h
 refine WLP.wing [0, 1, 2, 3, 4, 5] q q q q (f56_c _ _ _ _ _ _ _ _ _ _ _ _ _ hr69) ⟨Zl, Zl, Zt⟩ q (by decide) (cons_eq q (cons_eq q (Rg (Rf (Ro (cons_eq (ren_os _ _ _ _ _ _) q)))))) ⟨q, q, q, q, q, q, Zt⟩ (stLt_cons q (stLt_cons q (Lg q (Lf (Lo (stLt_cons (lt_os _ _ _ _ _ _) q)))))) q (Zw q) q q (fun r' new hS => ?_) (fun c new hS => ?_)
 obtain ⟨z9, i5_72, hz, rfl, rfl⟩ := hS
 obtain rfl := Rs.ok.inj hz
 refine ⟨_, _, q, (cons_eq q (cons_eq q (Rg (Rf (Ro (cons_eq (ren_os _ _ _ _ _ _) q)))))), q, (stLt_cons q (stLt_cons q (Lg q (Lf (Lo (stLt_cons (lt_os _ _ _ _ _ _) q)))))), WLP.of ?_⟩
 refine WL.st (st' := [.row 116 (([.pt 1 0] : List AV) ++ (vecA 16 (fun j => .n (z70.1 j)) ++ ([.n z70.2.1, .n z70.2.2.1, .n z70.2.2.2.1, .os 5 i5_72] : List AV) : List AV)), .row 90 (mR mI mH mO mE 2 vo mN 4 vu), .os 42 1 vo (famE 3 vf (List.length mS)), .fam 2 1 vf (famM E2 mS), .os 2 1 vu (eM E2 mU), .os 58 6 i5_72 (eM R58 z70.2.2.2.2)]) q (WL.nil (we_blk (we_endP ?_)))
 obtain rfl := Oi h
 exact WE.finP (we_ret_g (new := [.row 116 (([.pt 1 0] : List AV) ++ (vecA 16 (fun j => .n (z70.1 j)) ++ ([.n z70.2.1, .n z70.2.2.1, .n z70.2.2.2.1, .os 5 i5_72] : List AV) : List AV)), .row 90 (mR mI mH mO mE 2 vo mN 4 vu), .os 42 1 vo (famE 3 vf (List.length mS)), .fam 2 1 vf (famM E2 mS), .os 2 1 vu (eM E2 mU), .os 58 6 i5_72 (eM R58 z70.2.2.2.2)]) (r0 := .d (.tu [])) (res0 q) (Le.tud Zt) q ⟨Zp, Zp, Zf, Zf, Zf, Zf, Zt⟩ ⟨_, i5_72, q, q, q⟩)
 obtain ⟨z9, hz, _⟩ := hS
 cases hz
 dsimp only [Rs.cs] at h
 refine WLP.wing [0, 1, 2, 3, 4, 5] q q q q (f56_c _ _ _ _ _ _ _ _ _ _ _ _ _ hr69) ⟨Zl, Zl, Zt⟩ q (by decide) (cons_eq q (cons_eq q (Rg (Rf (Ro (cons_eq (ren_os _ _ _ _ _ _) q)))))) ⟨q, q, q, q, q, q, Zt⟩ (stLt_cons q (stLt_cons q (Lg q (Lf (Lo (stLt_cons (lt_os _ _ _ _ _ _) q)))))) q (Zw q) q q (fun r' new hS => ?_) (fun c new hS => ?_)
 obtain ⟨z9, i5_72, hz, _⟩ := hS
 cases hz
 obtain ⟨z9, hz, rfl, rfl⟩ := hS
 obtain rfl := Rs.bad.inj hz
 refine ⟨_, (cons_eq q (cons_eq q (Rg (Rf (Ro (cons_eq q q)))))), (stLt_cons q (stLt_cons q (Lg q (Lf (Lo (stLt_cons q q)))))), ?_⟩
 refine WE.sto (st' := (wD mI mH mO mE vo mN vu vf mS mU)) q (we_blk_pan ?_)
 obtain rfl := Oi h
 exact we_pan_g (new := (wD mI mH mO mE vo mN vu vf mS mU)) q ⟨Zt, Zp, Zf, Zf, Zf, Zt, Zt⟩ ⟨_, q, q, q⟩
 replace h := condF h hc1
 refine Zr (Zq (y_fieldAddrc f45_0 q) q (Zq (y_loadc q a43 q) q (Zq (y_eql q q) q (Zm q q ?_))))
 apply WL.and 3 (t := 28) (d := 31)
 exact q
 intro hg28
 exact Zy (y_move q) q q q (Zy (y_eql q q) q q q (Zq (y_pick_t q q) q (WL.nil ⟨q, [_, _, _], q, q, q⟩)))
 exact WL.skips 2 q (Zq (y_pick_f q q) q (WL.nil ⟨q, [_, _, _], q, q, q⟩))
 refine Za q q (Zn (wc_cond q (fun hc2 => ?_) (fun hc2 => ?_)))
 replace h := condT h hc2
 refine wc_regionP (WLP.pre 1 (Zm q q (WL.nil ?_)))
 obtain ⟨r73, hr73, h⟩ := bindS h
 rcases r73 with z74 | e75
 dsimp only [Rs.cs] at h
 refine WLP.wing [0, 1, 2, 3, 4, 5] q q q q (f131_c _ _ _ _ _ _ _ _ _ _ _ _ hr73) ⟨Zl, Zt⟩ q (by decide) (cons_eq q (cons_eq q (Rg (Rf (Ro (cons_eq (ren_os _ _ _ _ _ _) q)))))) ⟨q, q, q, q, q, q, Zt⟩ (stLt_cons q (stLt_cons q (Lg q (Lf (Lo (stLt_cons (lt_os _ _ _ _ _ _) q)))))) q (Zw q) q q (fun r' new hS => ?_) (fun c new hS => ?_)
 obtain ⟨z9, hz, rfl, rfl⟩ := hS
 obtain rfl := Rs.ok.inj hz
 refine ⟨_, _, q, (cons_eq q (cons_eq q (Rg (Rf (Ro (cons_eq (ren_os _ _ _ _ _ _) q)))))), q, (stLt_cons q (stLt_cons q (Lg q (Lf (Lo (stLt_cons (lt_os _ _ _ _ _ _) q)))))), WLP.of ?_⟩
 refine WL.st (st' := [.row 116 (([.pt 1 0] : List AV) ++ (vecA 16 (fun j => .n (z74.1 j)) ++ ([.n z74.2.1, .n z74.2.2.1, .n z74.2.2.2, .os 5 va] : List AV) : List AV)), .row 90 (mR mI mH mO mE 2 vo mN 4 vu), .os 42 1 vo (famE 3 vf (List.length mS)), .fam 2 1 vf (famM E2 mS), .os 2 1 vu (eM E2 mU), .os 58 6 va (eM R58 tA)]) q (WL.nil (we_blk (we_endP ?_)))
 obtain rfl := Oi h
 exact WE.finP (we_ret_g (new := [.row 116 (([.pt 1 0] : List AV) ++ (vecA 16 (fun j => .n (z74.1 j)) ++ ([.n z74.2.1, .n z74.2.2.1, .n z74.2.2.2, .os 5 va] : List AV) : List AV)), .row 90 (mR mI mH mO mE 2 vo mN 4 vu), .os 42 1 vo (famE 3 vf (List.length mS)), .fam 2 1 vf (famM E2 mS), .os 2 1 vu (eM E2 mU), .os 58 6 va (eM R58 tA)]) (r0 := .d (.tu [])) (res0 q) (Le.tud Zt) q ⟨Zp, Zp, Zf, Zf, Zf, Zf, Zt⟩ ⟨_, va, q, q, q⟩)
 obtain ⟨z9, hz, _⟩ := hS
 cases hz
 dsimp only [Rs.cs] at h
 refine WLP.wing [0, 1, 2, 3, 4, 5] q q q q (f131_c _ _ _ _ _ _ _ _ _ _ _ _ hr73) ⟨Zl, Zt⟩ q (by decide) (cons_eq q (cons_eq q (Rg (Rf (Ro (cons_eq (ren_os _ _ _ _ _ _) q)))))) ⟨q, q, q, q, q, q, Zt⟩ (stLt_cons q (stLt_cons q (Lg q (Lf (Lo (stLt_cons (lt_os _ _ _ _ _ _) q)))))) q (Zw q) q q (fun r' new hS => ?_) (fun c new hS => ?_)
 obtain ⟨z9, hz, _⟩ := hS
 cases hz
 obtain ⟨z9, hz, rfl, rfl⟩ := hS
 obtain rfl := Rs.bad.inj hz
 refine ⟨_, (cons_eq q (cons_eq q (Rg (Rf (Ro (cons_eq q q)))))), (stLt_cons q (stLt_cons q (Lg q (Lf (Lo (stLt_cons q q)))))), ?_⟩
 refine WE.sto (st' := (wD mI mH mO mE vo mN vu vf mS mU)) q (we_blk_pan ?_)
 obtain rfl := Oi h
 exact we_pan_g (new := (wD mI mH mO mE vo mN vu vf mS mU)) q ⟨Zt, Zp, Zf, Zf, Zf, Zt, Zt⟩ ⟨_, q, q, q⟩
 replace h := condF h hc2
 refine Zr (Zm q q (Zm q q (Zq (y_nilCheckp q) q (Zq (y_fieldAddr f116_0 q) q (Zq (y_load q q a46 q) q (Zq (y_nilCheckp q) q (Zq (y_fieldAddr f90_3 q) q (Zq (y_load q q a2 q) q (Zq (y_gtr q q) q (Zm q q ?_))))))))))
 apply WL.or 3 (t := 44) (d := 47)
 exact q
 intro hg44
 exact Zy (y_move q) q q q (Zy (y_lss q q) q q q (Zq (y_pick_f q q) q (WL.nil ⟨q, [_, _, _], q, q, q⟩)))
 exact WL.skips 2 q (Zq (y_pick_t q q) q (WL.nil ⟨q, [_, _, _], q, q, q⟩))
 refine Zm q q ?_
 apply WL.or 8 (t := 48) (d := 56)
 exact q
 intro hg48
 refine Zy (y_fieldAddrc f45_0 q) q q q (Zy (y_loadc q a43 q) q q q (Zy (y_eql q q) q q q (Zy (y_move q) q q q ?_)))
 apply WL.and 3 (t := 52) (d := 55)
 exact q
 intro hg52
 exact Zy (y_move q) q q q (Zy (y_lss q q) q q q (Zy (y_pick_t q q) q q q (WL.nil ⟨q, [_, _, _], q, q, q⟩)))
 exact WL.skips 2 q (Zy (y_pick_f q q) q q q (WL.nil ⟨q, [_, _, _], q, q, q⟩))
 exact Zq (y_pick_f q q) q (WL.nil ⟨q, [_, _, _, _, _, _], q, q, q⟩)
 exact WL.skips 7 q (Zq (y_pick_t q q) q (WL.nil ⟨q, [_, _, _, _, _, _, _, _], q, q, q⟩))
 refine Za q q (Zn (wc_cond q (fun hc3 => ?_) (fun hc3 => ?_)))
 replace h := condT h hc3
 refine wc_regionP (WLP.wing [] q q q q (f102_c  (r := Rs.bad 280) q) Zt q (by decide) q Zt q q (Zw q) q q (fun r' new hS => ?_) (fun c new hS => ?_))
 obtain ⟨z9, hz, _⟩ := hS
 cases hz
 obtain ⟨z9, hz, rfl, rfl⟩ := hS
 obtain rfl := Rs.bad.inj hz
 refine ⟨_, q, q, ?_⟩
 refine we_blk_pan ?_
 obtain rfl := Oi h
 exact we_pan_g (new := (wD mI mH mO mE vo mN vu vf mS mU)) q ⟨Zt, Zp, Zf, Zf, Zf, Zt, Zt⟩ ⟨_, q, q, q⟩
 replace h := condF h hc3
 refine Zr (Zq (y_fieldAddrc f45_0 q) q (Zq (y_loadc q a43 q) q (Zq (y_eql q q) q (Za q q (Zn (wc_cond q (fun hc4 => ?_) (fun hc4 => ?_)))))))
 replace h := condT h hc4
 refine wc_regionP (WLP.pre 2 (Zm q q (Zm q q (WL.nil ?_))))
 obtain ⟨r81, hr81, h⟩ := bindS h
 rcases r81 with z82 | e83
 dsimp only [Rs.cs] at h
 refine WLP.wing [0, 1, 2, 3, 4, 5] q q q q (f59_c _ _ _ _ _ _ _ _ _ _ _ _ _ hr81) ⟨Zl, Zl, Zt⟩ q (by decide) (cons_eq q (cons_eq q (Rg (Rf (Ro (cons_eq (ren_os _ _ _ _ _ _) q)))))) ⟨q, q, q, q, q, q, Zt⟩ (stLt_cons q (stLt_cons q (Lg q (Lf (Lo (stLt_cons (lt_os _ _ _ _ _ _) q)))))) q (Zw q) q q (fun r' new hS => ?_) (fun c new hS => ?_)
 obtain ⟨z9, hz, rfl, rfl⟩ := hS
 obtain rfl := Rs.ok.inj hz
 refine ⟨_, _, q, (cons_eq q (cons_eq q (Rg (Rf (Ro (cons_eq (ren_os _ _ _ _ _ _) q)))))), q, (stLt_cons q (stLt_cons q (Lg q (Lf (Lo (stLt_cons (lt_os _ _ _ _ _ _) q)))))), WLP.of ?_⟩
 refine WL.st (st' := [.row 116 (([.pt 1 0] : List AV) ++ (vecA 16 (fun j => .n (z82.1 j)) ++ ([.n z82.2.1, .n z82.2.2.1, .n z82.2.2.2, .os 5 va] : List AV) : List AV)), .row 90 (mR mI mH mO mE 2 vo mN 4 vu), .os 42 1 vo (famE 3 vf (List.length mS)), .fam 2 1 vf (famM E2 mS), .os 2 1 vu (eM E2 mU), .os 58 6 va (eM R58 tA)]) q (WL.nil (we_blk (we_endP ?_)))
 obtain rfl := Oi h
 exact WE.finP (we_ret_g (new := [.row 116 (([.pt 1 0] : List AV) ++ (vecA 16 (fun j => .n (z82.1 j)) ++ ([.n z82.2.1, .n z82.2.2.1, .n z82.2.2.2, .os 5 va] : List AV) : List AV)), .row 90 (mR mI mH mO mE 2 vo mN 4 vu), .os 42 1 vo (famE 3 vf (List.length mS)), .fam 2 1 vf (famM E2 mS), .os 2 1 vu (eM E2 mU), .os 58 6 va (eM R58 tA)]) (r0 := .d (.tu [])) (res0 q) (Le.tud Zt) q ⟨Zp, Zp, Zf, Zf, Zf, Zf, Zt⟩ ⟨_, va, q, q, q⟩)
 obtain ⟨z9, hz, _⟩ := hS
 cases hz
 dsimp only [Rs.cs] at h
 refine WLP.wing [0, 1, 2, 3, 4, 5] q q q q (f59_c _ _ _ _ _ _ _ _ _ _ _ _ _ hr81) ⟨Zl, Zl, Zt⟩ q (by decide) (cons_eq q (cons_eq q (Rg (Rf (Ro (cons_eq (ren_os _ _ _ _ _ _) q)))))) ⟨q, q, q, q, q, q, Zt⟩ (stLt_cons q (stLt_cons q (Lg q (Lf (Lo (stLt_cons (lt_os _ _ _ _ _ _) q)))))) q (Zw q) q q (fun r' new hS => ?_) (fun c new hS => ?_)
 obtain ⟨z9, hz, _⟩ := hS
 cases hz
 obtain ⟨z9, hz, rfl, rfl⟩ := hS
 obtain rfl := Rs.bad.inj hz
 refine ⟨_, (cons_eq q (cons_eq q (Rg (Rf (Ro (cons_eq q q)))))), (stLt_cons q (stLt_cons q (Lg q (Lf (Lo (stLt_cons q q)))))), ?_⟩
 refine WE.sto (st' := (wD mI mH mO mE vo mN vu vf mS mU)) q (we_blk_pan ?_)
 obtain rfl := Oi h
 exact we_pan_g (new := (wD mI mH mO mE vo mN vu vf mS mU)) q ⟨Zt, Zp, Zf, Zf, Zf, Zt, Zt⟩ ⟨_, q, q, q⟩
 replace h := condF h hc4
 refine wc_regionP (WLP.pre 2 (Zm q q (Zm q q (WL.nil ?_))))
 obtain ⟨r85, hr85, h⟩ := bindS h
 rcases r85 with z86 | e87
 dsimp only [Rs.cs] at h
 refine WLP.wing [0, 1, 2, 3, 4, 5] q q q q (f56_c _ _ _ _ _ _ _ _ _ _ _ _ _ hr85) ⟨Zl, Zl, Zt⟩ q (by decide) (cons_eq q (cons_eq q (Rg (Rf (Ro (cons_eq (ren_os _ _ _ _ _ _) q)))))) ⟨q, q, q, q, q, q, Zt⟩ (stLt_cons q (stLt_cons q (Lg q (Lf (Lo (stLt_cons (lt_os _ _ _ _ _ _) q)))))) q (Zw q) q q (fun r' new hS => ?_) (fun c new hS => ?_)
 obtain ⟨z9, i5_88, hz, rfl, rfl⟩ := hS
 obtain rfl := Rs.ok.inj hz
 refine ⟨_, _, q, (cons_eq q (cons_eq q (Rg (Rf (Ro (cons_eq (ren_os _ _ _ _ _ _) q)))))), q, (stLt_cons q (stLt_cons q (Lg q (Lf (Lo (stLt_cons (lt_os _ _ _ _ _ _) q)))))), WLP.of ?_⟩
 refine WL.st (st' := [.row 116 (([.pt 1 0] : List AV) ++ (vecA 16 (fun j => .n (z86.1 j)) ++ ([.n z86.2.1, .n z86.2.2.1, .n z86.2.2.2.1, .os 5 i5_88] : List AV) : List AV)), .row 90 (mR mI mH mO mE 2 vo mN 4 vu), .os 42 1 vo (famE 3 vf (List.length mS)), .fam 2 1 vf (famM E2 mS), .os 2 1 vu (eM E2 mU), .os 58 6 i5_88 (eM R58 z86.2.2.2.2)]) q (WL.nil (we_blk (we_endP ?_)))
 obtain rfl := Oi h
 exact WE.finP (we_ret_g (new := [.row 116 (([.pt 1 0] : List AV) ++ (vecA 16 (fun j => .n (z86.1 j)) ++ ([.n z86.2.1, .n z86.2.2.1, .n z86.2.2.2.1, .os 5 i5_88] : List AV) : List AV)), .row 90 (mR mI mH mO mE 2 vo mN 4 vu), .os 42 1 vo (famE 3 vf (List.length mS)), .fam 2 1 vf (famM E2 mS), .os 2 1 vu (eM E2 mU), .os 58 6 i5_88 (eM R58 z86.2.2.2.2)]) (r0 := .d (.tu [])) (res0 q) (Le.tud Zt) q ⟨Zp, Zp, Zf, Zf, Zf, Zf, Zt⟩ ⟨_, i5_88, q, q, q⟩)
 obtain ⟨z9, hz, _⟩ := hS
 cases hz
 dsimp only [Rs.cs] at h
 refine WLP.wing [0, 1, 2, 3, 4, 5] q q q q (f56_c _ _ _ _ _ _ _ _ _ _ _ _ _ hr85) ⟨Zl, Zl, Zt⟩ q (by decide) (cons_eq q (cons_eq q (Rg (Rf (Ro (cons_eq (ren_os _ _ _ _ _ _) q)))))) ⟨q, q, q, q, q, q, Zt⟩ (stLt_cons q (stLt_cons q (Lg q (Lf (Lo (stLt_cons (lt_os _ _ _ _ _ _) q)))))) q (Zw q) q q (fun r' new hS => ?_) (fun c new hS => ?_)
 obtain ⟨z9, i5_88, hz, _⟩ := hS
 cases hz
 obtain ⟨z9, hz, rfl, rfl⟩ := hS
 obtain rfl := Rs.bad.inj hz
 refine ⟨_, (cons_eq q (cons_eq q (Rg (Rf (Ro (cons_eq q q)))))), (stLt_cons q (stLt_cons q (Lg q (Lf (Lo (stLt_cons q q)))))), ?_⟩
 refine WE.sto (st' := (wD mI mH mO mE vo mN vu vf mS mU)) q (we_blk_pan ?_)
 obtain rfl := Oi h
 exact we_pan_g (new := (wD mI mH mO mE vo mN vu vf mS mU)) q ⟨Zt, Zp, Zf, Zf, Zf, Zt, Zt⟩ ⟨_, q, q, q⟩

theorem f86_c (tR : Nat → Int) (tP : Int) (tX : Int) (tD : Int) (mI : List Insn) (mH : List MHandler) (mO : List Obj) (mE : Int) (mN : List Int) (mS : List (List Int)) (mU : List Int) (tA : List Act) (x1 : Insn) {vo : Nat} {vf : Nat} {vu : Nat} {va : Nat} {r : Rs ((Nat → Int) × Int × Int × Int × (List Int) × (List Int) × (List Act))} (h : f86 tR tP tX tD mI mH mO mE mN mS mU tA x1 = some r) : CtrP Tryz.prog 86 [.pt 0 0, .d (.ag (R45 x1))] (wT tR tP tX tD va mI mH mO mE vo mN vu vf mS mU tA) (WinG 6 (fun r' new => ∃ (z : (Nat → Int) × Int × Int × Int × (List Int) × (List Int) × (List Act)) (i4 i5 : Nat), r = .ok z ∧ r' = .d (.tu []) ∧ new = [.row 116 (([.pt 1 0] : List AV) ++ (vecA 16 (fun j => .n (z.1 j)) ++ ([.n z.2.1, .n z.2.2.1, .n z.2.2.2.1, .os 5 i5] : List AV) : List AV)), .row 90 (mR mI mH mO mE 2 vo z.2.2.2.2.1 4 i4), .os 42 1 vo (famE 3 vf (List.length mS)), .fam 2 1 vf (famM E2 mS), .os 2 1 i4 (eM E2 z.2.2.2.2.2.1), .os 58 6 i5 (eM R58 z.2.2.2.2.2.2)])) (WinGP 6 (fun c new => ∃ (ee : Int), r = .bad ee ∧ c = wrongP ee ∧ new = (wD mI mH mO mE vo mN vu vf mS mU))) := by
 unfold f86 at h
 refine ctrP_intro Tryz.func86 (by kernel_rfl) q q q (fun mm φφ ww hmm => ?_)
 refine Zr (WL.s ((b_boxd q q (Zs _)).does) (Zw q) q q (Zn (wc_block (Zr (Zq (y_fieldAddrc f45_0 q) q (Zq (y_loadc q a43 q) q (Zq (y_eql q q) q (Za q q (Zn (wc_cond q (fun hc1 => ?_) (fun hc1 => ?_)))))))))))
 replace h := condT h hc1
 refine wc_seq (wc_regionP (WLP.pre 1 (Zm q q (WL.nil ?_))))
 obtain ⟨r144, hr144, h⟩ := bindS h
 rcases r144 with z145 | e146
 dsimp only [Rs.cs] at h
 refine WLP.wing [0, 1, 2, 3, 4, 5] q q q q (f131_c _ _ _ _ _ _ _ _ _ _ _ _ hr144) ⟨Zl, Zt⟩ q (by decide) (cons_eq q (cons_eq q (Rg (Rf (Ro (cons_eq (ren_os _ _ _ _ _ _) q)))))) ⟨q, q, q, q, q, q, Zt⟩ (stLt_cons q (stLt_cons q (Lg q (Lf (Lo (stLt_cons (lt_os _ _ _ _ _ _) q)))))) q (Zw q) q q (fun r' new hS => ?_) (fun c new hS => ?_)
 obtain ⟨z9, hz, rfl, rfl⟩ := hS
 obtain rfl := Rs.ok.inj hz
 refine ⟨_, _, q, (cons_eq q (cons_eq q (Rg (Rf (Ro (cons_eq (ren_os _ _ _ _ _ _) q)))))), q, (stLt_cons q (stLt_cons q (Lg q (Lf (Lo (stLt_cons (lt_os _ _ _ _ _ _) q)))))), WLP.of ?_⟩
 refine WL.st (st' := [.row 116 (([.pt 1 0] : List AV) ++ (vecA 16 (fun j => .n (z145.1 j)) ++ ([.n z145.2.1, .n z145.2.2.1, .n z145.2.2.2, .os 5 va] : List AV) : List AV)), .row 90 (mR mI mH mO mE 2 vo mN 4 vu), .os 42 1 vo (famE 3 vf (List.length mS)), .fam 2 1 vf (famM E2 mS), .os 2 1 vu (eM E2 mU), .os 58 6 va (eM R58 tA)]) q (Zn (Zr (Zq (y_fieldAddrc f45_4 q) q (Zq (y_loadc q a2 q) q (Zq (y_conv Tryz.underlying2 Tryz.underlying56 q q) q (Zq (y_fieldAddrc f45_5 q) q (Zq (y_loadc q a2 q) q (Zq (y_build p58 z58 q q) q (WL.s ((b_alloc z58).does) (Zw q) q q (WL.s0 (d_store q q q q q q s58 q q) (Zw q) q ?_))))))))))
 refine WL.st (st' := [.row 116 (([.pt 1 0] : List AV) ++ (vecA 16 (fun j => .n (z145.1 j)) ++ ([.n z145.2.1, .n z145.2.2.1, .n z145.2.2.2, .os 5 va] : List AV) : List AV)), .row 90 (mR mI mH mO mE 2 vo mN 4 vu), .os 42 1 vo (famE 3 vf (List.length mS)), .fam 2 1 vf (famM E2 mS), .os 2 1 vu (eM E2 mU), .os 58 6 va (eM R58 tA), .row 58 [.n 0, .n 0, .d (D.i .u8 (IntKind.u8.wrap x1.n)), .n x1.m, .n 0, .n 0]]) q (Zn ?_)
 replace h := letkS h
 obtain ⟨k149, hk149, h⟩ := h
 refine wc_cut (fun env' st' => ∃ (c63148 : Int), k149 c63148 = some r ∧ Sub [(0, .pt 0 0), (4, .pt 6 0)] env' ∧ SLe st' [.row 116 (([.pt 1 0] : List AV) ++ (vecA 16 (fun j => .n (z145.1 j)) ++ ([.n z145.2.1, .n z145.2.2.1, .n z145.2.2.2, .os 5 va] : List AV) : List AV)), .row 90 (mR mI mH mO mE 2 vo mN 4 vu), .os 42 1 vo (famE 3 vf (List.length mS)), .fam 2 1 vf (famM E2 mS), .os 2 1 vu (eM E2 mU), .os 58 6 va (eM R58 tA), .row 58 [.n 0, .n 0, .d (D.i .u8 (IntKind.u8.wrap x1.n)), .n c63148, .n 0, .n 0]]) ?_ ?_
 refine Zr (Zq (y_fieldAddr f58_2 q) q (Zq (y_load q q a56 q) q (Zq (y_eql q q) q (Zn (wc_cond q (fun hc2 => ?_) (fun hc2 => ?_))))))
 replace h := condT h hc2
 exact wc_region (Zm q q (Zq (y_nilCheckp q) q (Zq (y_fieldAddr f116_1 q) q (Zq (y_fieldAddr f41_2 q) q (Zq (y_load q q a2 q) q (Zq (y_fieldAddr f58_3 q) q (WL.s0 (d_store q q q q q q s2 q q) (Zw q) q (WL.st (st' := [.row 116 (([.pt 1 0] : List AV) ++ (vecA 16 (fun j => .n (z145.1 j)) ++ ([.n z145.2.1, .n z145.2.2.1, .n z145.2.2.2, .os 5 va] : List AV) : List AV)), .row 90 (mR mI mH mO mE 2 vo mN 4 vu), .os 42 1 vo (famE 3 vf (List.length mS)), .fam 2 1 vf (famM E2 mS), .os 2 1 vu (eM E2 mU), .os 58 6 va (eM R58 tA), .row 58 [.n 0, .n 0, .d (D.i .u8 (IntKind.u8.wrap x1.n)), .n z145.2.2.1, .n 0, .n 0]]) q (WL.nil (we_lp ⟨z145.2.2.1, h, (Sx q (Sx q (Sub.nil _))), ⟨Zp, Zp, Zf, Zf, Zf, Zf, Zp, Zt⟩⟩))))))))))
 replace h := condF h hc2
 exact wc_skip (we_lp ⟨x1.m, h, (Sx q (Sx q (Sub.nil _))), ⟨Zp, Zp, Zf, Zf, Zf, Zf, Zp, Zt⟩⟩)
 rintro env1 st1 ⟨c63148, h, hsub, hst⟩
 subst hk149
 dsimp only at h
 refine WC.sub hsub (WC.weak hst ?_)
 replace h := guardBS h
 obtain ⟨hgg150, h⟩ := h
 apply wc_region_all [_, _, _, _, _, _, _, _, _, _, .u] [[], [], [1], [1, 2], [1, 2, 3], [], [5], [1, 2, 3, 4, 5, 6], [0, 1, 2, 3, 4, 5, 6, 7], [0, 1, 2, 3, 4, 5, 6, 7, 8], [0, 1, 2, 3, 4, 5, 6, 7, 8, 9]] [7, 10] (fun c => List.getD [[.row 116 (([.pt 1 0] : List AV) ++ (vecA 16 (fun j => .n (z145.1 j)) ++ ([.n z145.2.1, .n z145.2.2.1, .n z145.2.2.2, .os 5 va] : List AV) : List AV)), .row 90 (mR mI mH mO mE 2 vo mN 4 vu), .os 42 1 vo (famE 3 vf (List.length mS)), .fam 2 1 vf (famM E2 mS), .os 2 1 vu (eM E2 mU), .os 58 6 va (eM R58 tA), .row 58 [.n 0, .n 0, .d (D.i .u8 (IntKind.u8.wrap x1.n)), .n c63148, .n 0, .n 0]], [.row 116 (([.pt 1 0] : List AV) ++ (vecA 16 (fun j => .n (z145.1 j)) ++ ([.n z145.2.1, .n z145.2.2.1, .n z145.2.2.2, .os 5 va] : List AV) : List AV)), .row 90 (mR mI mH mO mE 2 vo mN 4 vu), .os 42 1 vo (famE 3 vf (List.length mS)), .fam 2 1 vf (famM E2 mS), .os 2 1 vu (eM E2 mU), .os 58 6 (va + 1) (eM R58 (tA ++ [(Act.mk 0 0 (IntKind.u8.wrap x1.n) c63148 0 0)])), .row 58 [.n 0, .n 0, .d (D.i .u8 (IntKind.u8.wrap x1.n)), .n c63148, .n 0, .n 0]], [.row 116 (([.pt 1 0] : List AV) ++ (vecA 16 (fun j => .n (z145.1 j)) ++ ([.n z145.2.1, .n z145.2.2.1, .n z145.2.2.2, .os 5 (va + 1)] : List AV) : List AV)), .row 90 (mR mI mH mO mE 2 vo mN 4 vu), .os 42 1 vo (famE 3 vf (List.length mS)), .fam 2 1 vf (famM E2 mS), .os 2 1 vu (eM E2 mU), .os 58 6 (va + 1) (eM R58 (tA ++ [(Act.mk 0 0 (IntKind.u8.wrap x1.n) c63148 0 0)])), .row 58 [.n 0, .n 0, .d (D.i .u8 (IntKind.u8.wrap x1.n)), .n c63148, .n 0, .n 0]]] c []) [([], [0], [0, 1]), ([], [0], [0]), ([1], [], [0]), ([2], [], [0]), ([3], [], [0]), ([], [4], [0]), ([5], [], [0]), ([4, 6], [], [0]), ([0], [], [1]), ([8], [], [1]), ([9, 7], [], [1])] (by kernel_rfl) (by kernel_rfl) q q q
 refine ⟨?_, ?_, ?_, ?_, ?_, ?_, ?_, ?_, ?_, ?_, ?_, Zt⟩
 refine ⟨fun F => ?_, fun F => ?_, Zt⟩
 exact Zm q q (Zd q q q)
 exact Zm q q (Zd q q q)
 refine ⟨fun F => ?_, Zt⟩
 exact Zm q q (Zd q q q)
 refine ⟨fun F => ?_, Zt⟩
 exact Zq (y_nilCheckp q) q (Zd q q q)
 refine ⟨fun F => ?_, Zt⟩
 exact Zq (y_fieldAddr f116_2 q) q (Zd q q q)
 refine ⟨fun F => ?_, Zt⟩
 exact Zq (y_load q q a50 q) q (Zd q q q)
 refine ⟨fun F => ?_, Zt⟩
 exact Zq (y_loadN q q a58 s58 q) q (Zd q q q)
 refine ⟨fun F => ?_, Zt⟩
 exact WL.s ((NewOs.data (n_buildSlice l50 z58 q (by decide) (by decide) q q q (by decide)) (by exact encA_map E58_eq [(Act.mk 0 0 (IntKind.u8.wrap x1.n) c63148 0 0)])).does) (Zw q) q q (Zd q q q)
 refine ⟨fun F => ?_, Zt⟩
 exact WL.s (d_appendL R58 tA [(Act.mk 0 0 (IntKind.u8.wrap x1.n) c63148 0 0)] l50 z58 q (by decide) q q q q (Src.dataL Zl E58_eq (fun _ => q)) (fun _ => q) (fun _ => q) hgg150) (Zw q) q q (Zd q q q)
 refine ⟨fun F => ?_, Zt⟩
 exact Zq (y_nilCheckp q) q (Zd q q q)
 refine ⟨fun F => ?_, Zt⟩
 exact Zq (y_fieldAddr f116_2 q) q (Zd q q q)
 refine ⟨fun F => ?_, Zt⟩
 exact WL.s0 (d_store1 q q q (one_os q) s50 q) (Zw q) q (WL.done0 q q)
 refine we_blk (we_endP ?_)
 obtain rfl := Oi h
 exact WE.finP (we_ret_g (new := [.row 116 (([.pt 1 0] : List AV) ++ (vecA 16 (fun j => .n (z145.1 j)) ++ ([.n z145.2.1, .n z145.2.2.1, .n z145.2.2.2, .os 5 (va + 1)] : List AV) : List AV)), .row 90 (mR mI mH mO mE 2 vo mN 4 vu), .os 42 1 vo (famE 3 vf (List.length mS)), .fam 2 1 vf (famM E2 mS), .os 2 1 vu (eM E2 mU), .os 58 6 (va + 1) (eM R58 (tA ++ [(Act.mk 0 0 (IntKind.u8.wrap x1.n) c63148 0 0)]))]) (r0 := .d (.tu [])) (res0 q) (Le.tud Zt) q ⟨Zp, Zp, Zf, Zf, Zf, Zf, Zt⟩ ⟨_, vu, (va + 1), q, q, q⟩)
 obtain ⟨z9, hz, _⟩ := hS
 cases hz
 dsimp only [Rs.cs] at h
 refine WLP.wing [0, 1, 2, 3, 4, 5] q q q q (f131_c _ _ _ _ _ _ _ _ _ _ _ _ hr144) ⟨Zl, Zt⟩ q (by decide) (cons_eq q (cons_eq q (Rg (Rf (Ro (cons_eq (ren_os _ _ _ _ _ _) q)))))) ⟨q, q, q, q, q, q, Zt⟩ (stLt_cons q (stLt_cons q (Lg q (Lf (Lo (stLt_cons (lt_os _ _ _ _ _ _) q)))))) q (Zw q) q q (fun r' new hS => ?_) (fun c new hS => ?_)
 obtain ⟨z9, hz, _⟩ := hS
 cases hz
 obtain ⟨z9, hz, rfl, rfl⟩ := hS
 obtain rfl := Rs.bad.inj hz
 refine ⟨_, (cons_eq q (cons_eq q (Rg (Rf (Ro (cons_eq q q)))))), (stLt_cons q (stLt_cons q (Lg q (Lf (Lo (stLt_cons q q)))))), ?_⟩
 refine WE.sto (st' := (wD mI mH mO mE vo mN vu vf mS mU)) q (we_seq_pan (we_blk_pan ?_))
 obtain rfl := Oi h
 exact we_pan_g (new := (wD mI mH mO mE vo mN vu vf mS mU)) q ⟨Zt, Zp, Zf, Zf, Zf, Zt, Zt⟩ ⟨_, q, q, q⟩
 replace h := condF h hc1
 refine Zr (Zq (y_fieldAddrc f45_0 q) q (Zq (y_loadc q a43 q) q (Zq (y_eql q q) q (Za q q (Zn (wc_cond q (fun hc3 => ?_) (fun hc3 => ?_)))))))
 replace h := condT h hc3
 refine wc_seq (wc_region_draw (by kernel_rfl) (by kernel_rfl) (WQ.qn (y_move q) q (WQ.qn (y_fieldAddrc f45_2 q) q (WQ.qn (y_loadc q a3 q) q (WQ.qn (y_nilCheckp q) q (WQ.qn (y_fieldAddr f116_1 q) q (WQ.qn (y_fieldAddr f41_0 q) q ?_)))))))
 replace h := guardBS h
 obtain ⟨hgg151, h⟩ := h
 refine WQ.qn (y_indexAddra ar39 q q (vecOk_0 hgg151) (vecOk_1 hgg151)) q (WQ.qn (y_loadV (off := 1) (n := 16) (fun j => .n (tR j)) q q a2 q hgg151) q (WQ.qn (y_assign q) q (WQ.nil (we_seq (wc_seq (wc_regionP (WLP.pre 1 (Zm q q (WL.nil ?_)))))))))
 obtain ⟨r152, hr152, h⟩ := bindS h
 rcases r152 with z153 | e154
 dsimp only [Rs.cs] at h
 refine WLP.wing [0, 1, 2, 3, 4, 5] q q q q (f131_c _ _ _ _ _ _ _ _ _ _ _ _ hr152) ⟨Zl, Zt⟩ q (by decide) (cons_eq q (cons_eq q (Rg (Rf (Ro (cons_eq (ren_os _ _ _ _ _ _) q)))))) ⟨q, q, q, q, q, q, Zt⟩ (stLt_cons q (stLt_cons q (Lg q (Lf (Lo (stLt_cons (lt_os _ _ _ _ _ _) q)))))) q (Zw q) q q (fun r' new hS => ?_) (fun c new hS => ?_)
 obtain ⟨z9, hz, rfl, rfl⟩ := hS
 obtain rfl := Rs.ok.inj hz
 refine ⟨_, _, q, (cons_eq q (cons_eq q (Rg (Rf (Ro (cons_eq (ren_os _ _ _ _ _ _) q)))))), q, (stLt_cons q (stLt_cons q (Lg q (Lf (Lo (stLt_cons (lt_os _ _ _ _ _ _) q)))))), WLP.of ?_⟩
 refine WL.st (st' := [.row 116 (([.pt 1 0] : List AV) ++ (vecA 16 (fun j => .n (z153.1 j)) ++ ([.n z153.2.1, .n z153.2.2.1, .n z153.2.2.2, .os 5 va] : List AV) : List AV)), .row 90 (mR mI mH mO mE 2 vo mN 4 vu), .os 42 1 vo (famE 3 vf (List.length mS)), .fam 2 1 vf (famM E2 mS), .os 2 1 vu (eM E2 mU), .os 58 6 va (eM R58 tA)]) q (Zn (wc_seq ?_))
 replace h := guardBS h
 obtain ⟨hgg156, h⟩ := h
 apply wc_region_all [_, _, _, _, _, _, _, _, _, _, _, _, _, _, _, _, .u] [[], [0], [0, 1], [0, 1, 2], [], [4], [4, 5], [4, 5, 6], [4, 5, 6, 7], [4, 5, 6, 7, 8], [4, 5, 6, 7, 8, 9], [], [11], [4, 5, 6, 7, 8, 9, 10, 11, 12], [0, 1, 2, 3, 4, 5, 6, 7, 8, 9, 10, 11, 12, 13], [0, 1, 2, 3, 4, 5, 6, 7, 8, 9, 10, 11, 12, 13, 14], [0, 1, 2, 3, 4, 5, 6, 7, 8, 9, 10, 11, 12, 13, 14, 15]] [13, 16] (fun c => List.getD [[.row 116 (([.pt 1 0] : List AV) ++ (vecA 16 (fun j => .n (z153.1 j)) ++ ([.n z153.2.1, .n z153.2.2.1, .n z153.2.2.2, .os 5 va] : List AV) : List AV)), .row 90 (mR mI mH mO mE 2 vo mN 4 vu), .os 42 1 vo (famE 3 vf (List.length mS)), .fam 2 1 vf (famM E2 mS), .os 2 1 vu (eM E2 mU), .os 58 6 va (eM R58 tA)], [.row 116 (([.pt 1 0] : List AV) ++ (vecA 16 (fun j => .n (z153.1 j)) ++ ([.n z153.2.1, .n z153.2.2.1, .n z153.2.2.2, .os 5 va] : List AV) : List AV)), .row 90 (mR mI mH mO mE 2 vo mN 4 vu), .os 42 1 vo (famE 3 vf (List.length mS)), .fam 2 1 vf (famM E2 mS), .os 2 1 (vu + 1) (eM E2 (mU ++ [(tR (Int.toNat x1.a))])), .os 58 6 va (eM R58 tA)], [.row 116 (([.pt 1 0] : List AV) ++ (vecA 16 (fun j => .n (z153.1 j)) ++ ([.n z153.2.1, .n z153.2.2.1, .n z153.2.2.2, .os 5 va] : List AV) : List AV)), .row 90 [.l E45 mI, .l E108 mH, .l E101 mO, .n mE, .os 2 vo, .l E2 mN, .os 4 (vu + 1)], .os 42 1 vo (famE 3 vf (List.length mS)), .fam 2 1 vf (famM E2 mS), .os 2 1 (vu + 1) (eM E2 (mU ++ [(tR (Int.toNat x1.a))])), .os 58 6 va (eM R58 tA)]] c []) [([], [0], [0, 1]), ([0], [], [0, 1]), ([1], [], [0, 1]), ([2], [], [0, 1]), ([], [0], [0]), ([4], [], [0]), ([5], [], [0]), ([6], [], [0]), ([7], [], [0]), ([8], [], [0]), ([9], [], [0]), ([], [5], [0]), ([11], [], [0]), ([10, 12], [], [0]), ([3], [], [1]), ([14], [], [1]), ([15, 13], [], [1])] (by kernel_rfl) (by kernel_rfl) q q q
 refine ⟨?_, ?_, ?_, ?_, ?_, ?_, ?_, ?_, ?_, ?_, ?_, ?_, ?_, ?_, ?_, ?_, ?_, Zt⟩
 refine ⟨fun F => ?_, fun F => ?_, Zt⟩
 exact Zm q q (Zd q q q)
 exact Zm q q (Zd q q q)
 refine ⟨fun F => ?_, fun F => ?_, Zt⟩
 exact Zq (y_nilCheckp q) q (Zd q q q)
 exact Zq (y_nilCheckp q) q (Zd q q q)
 refine ⟨fun F => ?_, fun F => ?_, Zt⟩
 exact Zq (y_fieldAddr f116_0 q) q (Zd q q q)
 exact Zq (y_fieldAddr f116_0 q) q (Zd q q q)
 refine ⟨fun F => ?_, fun F => ?_, Zt⟩
 exact Zq (y_load q q a46 q) q (Zd q q q)
 exact Zq (y_load q q a46 q) q (Zd q q q)
 refine ⟨fun F => ?_, Zt⟩
 exact Zm q q (Zd q q q)
 refine ⟨fun F => ?_, Zt⟩
 exact Zq (y_nilCheckp q) q (Zd q q q)
 refine ⟨fun F => ?_, Zt⟩
 exact Zq (y_fieldAddr f116_0 q) q (Zd q q q)
 refine ⟨fun F => ?_, Zt⟩
 exact Zq (y_load q q a46 q) q (Zd q q q)
 refine ⟨fun F => ?_, Zt⟩
 exact Zq (y_nilCheckp q) q (Zd q q q)
 refine ⟨fun F => ?_, Zt⟩
 exact Zq (y_fieldAddr f90_6 q) q (Zd q q q)
 refine ⟨fun F => ?_, Zt⟩
 exact Zq (y_load q q a42 q) q (Zd q q q)
 refine ⟨fun F => ?_, Zt⟩
 exact Zm q q (Zd q q q)
 refine ⟨fun F => ?_, Zt⟩
 exact WL.s ((NewOs.data (n_buildSlice l42 z2 q (by decide) (by decide) q q q (by decide)) (by exact encA_map E2_eq [(tR (Int.toNat x1.a))])).does) (Zw q) q q (Zd q q q)
 refine ⟨fun F => ?_, Zt⟩
 exact WL.s (d_appendL E2 mU [(tR (Int.toNat x1.a))] l42 z2 q (by decide) q q q q (Src.dataL Zl E2_eq (fun _ => q)) (fun _ => q) (fun _ => q) hgg156) (Zw q) q q (Zd q q q)
 refine ⟨fun F => ?_, Zt⟩
 exact Zq (y_nilCheckp q) q (Zd q q q)
 refine ⟨fun F => ?_, Zt⟩
 exact Zq (y_fieldAddr f90_6 q) q (Zd q q q)
 refine ⟨fun F => ?_, Zt⟩
 exact WL.s0 (d_store1 q q q (one_os q) s42 q) (Zw q) q (WL.done0 q q)
 refine we_seq (wc_region (Zm q q (Zm q q (Zq (y_nilCheckp q) q (Zq (y_fieldAddr f116_2 q) q (Zq (y_load q q a50 q) q (Zm q q (Zq (y_build p58 z58 q q) q (WL.s ((NewOs.b (n_buildSlice l50 z58 q (by decide) (by decide) q q q (by decide))).does) (Zw q) q q ?_)))))))))
 replace h := guardBS h
 obtain ⟨hgg157, h⟩ := h
 refine WL.s (d_appendL R58 tA [(Act.mk 0 0 1 (tR (Int.toNat x1.a)) 0 0)] l50 z58 q (by decide) q q q q (Src.own q) (fun _ => q) (fun _ => q) hgg157) (Zw q) q q (Zq (y_nilCheckp q) q (Zq (y_fieldAddr f116_2 q) q (WL.s0 (d_store1 q q q (one_os q) s50 q) (Zw q) q (WL.st (st' := [.row 116 (([.pt 1 0] : List AV) ++ (vecA 16 (fun j => .n (z153.1 j)) ++ ([.n z153.2.1, .n z153.2.2.1, .n z153.2.2.2, .os 5 (va + 1)] : List AV) : List AV)), .row 90 [.l E45 mI, .l E108 mH, .l E101 mO, .n mE, .os 2 vo, .l E2 mN, .os 4 (vu + 1)], .os 42 1 vo (famE 3 vf (List.length mS)), .fam 2 1 vf (famM E2 mS), .os 2 1 (vu + 1) (eM E2 (mU ++ [(tR (Int.toNat x1.a))])), .os 58 6 (va + 1) (eM R58 (tA ++ [(Act.mk 0 0 1 (tR (Int.toNat x1.a)) 0 0)])), .os 58 6 0 (eM R58 [(Act.mk 0 0 1 (tR (Int.toNat x1.a)) 0 0)])]) q (WL.nil (we_blk (we_endP ?_)))))))
 obtain rfl := Oi h
 exact WE.finP (we_ret_g (new := [.row 116 (([.pt 1 0] : List AV) ++ (vecA 16 (fun j => .n (z153.1 j)) ++ ([.n z153.2.1, .n z153.2.2.1, .n z153.2.2.2, .os 5 (va + 1)] : List AV) : List AV)), .row 90 [.l E45 mI, .l E108 mH, .l E101 mO, .n mE, .os 2 vo, .l E2 mN, .os 4 (vu + 1)], .os 42 1 vo (famE 3 vf (List.length mS)), .fam 2 1 vf (famM E2 mS), .os 2 1 (vu + 1) (eM E2 (mU ++ [(tR (Int.toNat x1.a))])), .os 58 6 (va + 1) (eM R58 (tA ++ [(Act.mk 0 0 1 (tR (Int.toNat x1.a)) 0 0)]))]) (r0 := .d (.tu [])) (res0 q) (Le.tud Zt) q ⟨Zp, Zp, Zf, Zf, Zf, Zf, Zt⟩ ⟨_, (vu + 1), (va + 1), q, q, q⟩)
 obtain ⟨z9, hz, _⟩ := hS
 cases hz
 dsimp only [Rs.cs] at h
 refine WLP.wing [0, 1, 2, 3, 4, 5] q q q q (f131_c _ _ _ _ _ _ _ _ _ _ _ _ hr152) ⟨Zl, Zt⟩ q (by decide) (cons_eq q (cons_eq q (Rg (Rf (Ro (cons_eq (ren_os _ _ _ _ _ _) q)))))) ⟨q, q, q, q, q, q, Zt⟩ (stLt_cons q (stLt_cons q (Lg q (Lf (Lo (stLt_cons (lt_os _ _ _ _ _ _) q)))))) q (Zw q) q q (fun r' new hS => ?_) (fun c new hS => ?_)
 obtain ⟨z9, hz, _⟩ := hS
 cases hz
 obtain ⟨z9, hz, rfl, rfl⟩ := hS
 obtain rfl := Rs.bad.inj hz
 refine ⟨_, (cons_eq q (cons_eq q (Rg (Rf (Ro (cons_eq q q)))))), (stLt_cons q (stLt_cons q (Lg q (Lf (Lo (stLt_cons q q)))))), ?_⟩
 refine WE.sto (st' := (wD mI mH mO mE vo mN vu vf mS mU)) q (we_seq_pan (we_blk_pan ?_))
 obtain rfl := Oi h
 exact we_pan_g (new := (wD mI mH mO mE vo mN vu vf mS mU)) q ⟨Zt, Zp, Zf, Zf, Zf, Zt, Zt⟩ ⟨_, q, q, q⟩
 replace h := condF h hc3
 refine Zr (Zm q q (Zq (y_nilCheckp q) q (Zq (y_fieldAddr f116_0 q) q (Zq (y_load q q a46 q) q (Zq (y_nilCheckp q) q (Zq (y_fieldAddr f90_5 q) q (Zq (y_load q q a42 q) q (Zq (y_len_map E2 mN e42 q q Zl) q (Zq (y_eql q q) q (Za q q (Zn (wc_cond q (fun hc4 => ?_) (fun hc4 => ?_)))))))))))))
 replace h := condT h hc4
 refine wc_regionP (WLP.pre 1 (Zm q q (WL.nil ?_)))
 obtain ⟨r158, hr158, h⟩ := bindS h
 rcases r158 with z159 | e160
 dsimp only [Rs.cs] at h
 refine WLP.wing [0, 1, 2, 3, 4, 5] q q q q (f56_c _ _ _ _ _ _ _ _ _ _ _ _ _ hr158) ⟨Zl, Zl, Zt⟩ q (by decide) (cons_eq q (cons_eq q (Rg (Rf (Ro (cons_eq (ren_os _ _ _ _ _ _) q)))))) ⟨q, q, q, q, q, q, Zt⟩ (stLt_cons q (stLt_cons q (Lg q (Lf (Lo (stLt_cons (lt_os _ _ _ _ _ _) q)))))) q (Zw q) q q (fun r' new hS => ?_) (fun c new hS => ?_)
 obtain ⟨z9, i5_161, hz, rfl, rfl⟩ := hS
 obtain rfl := Rs.ok.inj hz
 refine ⟨_, _, q, (cons_eq q (cons_eq q (Rg (Rf (Ro (cons_eq (ren_os _ _ _ _ _ _) q)))))), q, (stLt_cons q (stLt_cons q (Lg q (Lf (Lo (stLt_cons (lt_os _ _ _ _ _ _) q)))))), WLP.of ?_⟩
 refine WL.st (st' := [.row 116 (([.pt 1 0] : List AV) ++ (vecA 16 (fun j => .n (z159.1 j)) ++ ([.n z159.2.1, .n z159.2.2.1, .n z159.2.2.2.1, .os 5 i5_161] : List AV) : List AV)), .row 90 (mR mI mH mO mE 2 vo mN 4 vu), .os 42 1 vo (famE 3 vf (List.length mS)), .fam 2 1 vf (famM E2 mS), .os 2 1 vu (eM E2 mU), .os 58 6 i5_161 (eM R58 z159.2.2.2.2)]) q (WL.nil (we_blk (we_endP ?_)))
 obtain rfl := Oi h
 exact WE.finP (we_ret_g (new := [.row 116 (([.pt 1 0] : List AV) ++ (vecA 16 (fun j => .n (z159.1 j)) ++ ([.n z159.2.1, .n z159.2.2.1, .n z159.2.2.2.1, .os 5 i5_161] : List AV) : List AV)), .row 90 (mR mI mH mO mE 2 vo mN 4 vu), .os 42 1 vo (famE 3 vf (List.length mS)), .fam 2 1 vf (famM E2 mS), .os 2 1 vu (eM E2 mU), .os 58 6 i5_161 (eM R58 z159.2.2.2.2)]) (r0 := .d (.tu [])) (res0 q) (Le.tud Zt) q ⟨Zp, Zp, Zf, Zf, Zf, Zf, Zt⟩ ⟨_, vu, i5_161, q, q, q⟩)
 obtain ⟨z9, hz, _⟩ := hS
 cases hz
 dsimp only [Rs.cs] at h
 refine WLP.wing [0, 1, 2, 3, 4, 5] q q q q (f56_c _ _ _ _ _ _ _ _ _ _ _ _ _ hr158) ⟨Zl, Zl, Zt⟩ q (by decide) (cons_eq q (cons_eq q (Rg (Rf (Ro (cons_eq (ren_os _ _ _ _ _ _) q)))))) ⟨q, q, q, q, q, q, Zt⟩ (stLt_cons q (stLt_cons q (Lg q (Lf (Lo (stLt_cons (lt_os _ _ _ _ _ _) q)))))) q (Zw q) q q (fun r' new hS => ?_) (fun c new hS => ?_)
 obtain ⟨z9, i5_161, hz, _⟩ := hS
 cases hz
 obtain ⟨z9, hz, rfl, rfl⟩ := hS
 obtain rfl := Rs.bad.inj hz
 refine ⟨_, (cons_eq q (cons_eq q (Rg (Rf (Ro (cons_eq q q)))))), (stLt_cons q (stLt_cons q (Lg q (Lf (Lo (stLt_cons q q)))))), ?_⟩
 refine WE.sto (st' := (wD mI mH mO mE vo mN vu vf mS mU)) q (we_blk_pan ?_)
 obtain rfl := Oi h
 exact we_pan_g (new := (wD mI mH mO mE vo mN vu vf mS mU)) q ⟨Zt, Zp, Zf, Zf, Zf, Zt, Zt⟩ ⟨_, q, q, q⟩
 replace h := condF h hc4
 refine wc_seq (wc_regionP (WLP.pre 1 (Zm q q (WL.nil ?_))))
 obtain ⟨r162, hr162, h⟩ := bindS h
 rcases r162 with z163 | e164
 dsimp only [Rs.cs] at h
 refine WLP.wing [0, 1, 2, 3, 4, 5] q q q q (f131_c _ _ _ _ _ _ _ _ _ _ _ _ hr162) ⟨Zl, Zt⟩ q (by decide) (cons_eq q (cons_eq q (Rg (Rf (Ro (cons_eq (ren_os _ _ _ _ _ _) q)))))) ⟨q, q, q, q, q, q, Zt⟩ (stLt_cons q (stLt_cons q (Lg q (Lf (Lo (stLt_cons (lt_os _ _ _ _ _ _) q)))))) q (Zw q) q q (fun r' new hS => ?_) (fun c new hS => ?_)
 obtain ⟨z9, hz, rfl, rfl⟩ := hS
 obtain rfl := Rs.ok.inj hz
 refine ⟨_, _, q, (cons_eq q (cons_eq q (Rg (Rf (Ro (cons_eq (ren_os _ _ _ _ _ _) q)))))), q, (stLt_cons q (stLt_cons q (Lg q (Lf (Lo (stLt_cons (lt_os _ _ _ _ _ _) q)))))), WLP.of ?_⟩
 refine WL.st (st' := [.row 116 (([.pt 1 0] : List AV) ++ (vecA 16 (fun j => .n (z163.1 j)) ++ ([.n z163.2.1, .n z163.2.2.1, .n z163.2.2.2, .os 5 va] : List AV) : List AV)), .row 90 (mR mI mH mO mE 2 vo mN 4 vu), .os 42 1 vo (famE 3 vf (List.length mS)), .fam 2 1 vf (famM E2 mS), .os 2 1 vu (eM E2 mU), .os 58 6 va (eM R58 tA)]) q (Zn (wc_seq ?_))
 obtain ⟨x166, hx166, h⟩ := bindS h
 replace h := guardBS h
 obtain ⟨hgg167, h⟩ := h
 apply wc_region_all [_, _, _, _, _, _, _, _, _, _, _, _, _, _, _, _, .u] [[], [], [1], [], [3], [3, 4], [3, 4, 5], [3, 4, 5, 6], [3, 4, 5, 6, 7], [3, 4, 5, 6, 7, 8], [3, 4, 5, 6, 7, 8, 9], [3, 4, 5, 6, 7, 8, 9, 10], [0], [0, 12], [0, 12, 13], [0, 1, 2, 3, 4, 5, 6, 7, 8, 9, 10, 11, 12, 13, 14], [0, 1, 2, 3, 4, 5, 6, 7, 8, 9, 10, 11, 12, 13, 14, 15]] [16] (fun c => List.getD [[.row 116 (([.pt 1 0] : List AV) ++ (vecA 16 (fun j => .n (z163.1 j)) ++ ([.n z163.2.1, .n z163.2.2.1, .n z163.2.2.2, .os 5 va] : List AV) : List AV)), .row 90 (mR mI mH mO mE 2 vo mN 4 vu), .os 42 1 vo (famE 3 vf (List.length mS)), .fam 2 1 vf (famM E2 mS), .os 2 1 vu (eM E2 mU), .os 58 6 va (eM R58 tA)], [.row 116 (([.pt 1 0] : List AV) ++ (vecA 16 (fun j => .n ((vset z163.1 (Int.toNat x1.d) x166) j)) ++ ([.n z163.2.1, .n z163.2.2.1, .n z163.2.2.2, .os 5 va] : List AV) : List AV)), .row 90 (mR mI mH mO mE 2 vo mN 4 vu), .os 42 1 vo (famE 3 vf (List.length mS)), .fam 2 1 vf (famM E2 mS), .os 2 1 vu (eM E2 mU), .os 58 6 va (eM R58 tA)]] c []) [([], [0], [0]), ([], [3], [0]), ([1], [], [0]), ([], [0], [0]), ([3], [], [0]), ([4], [], [0]), ([5], [], [0]), ([6], [], [0]), ([7], [], [0]), ([8], [], [0]), ([9], [], [0]), ([10], [], [0]), ([0], [], [0]), ([12], [], [0]), ([13], [], [0]), ([14, 2], [], [0]), ([15, 11], [], [0])] (by kernel_rfl) (by kernel_rfl) q q q
 refine ⟨?_, ?_, ?_, ?_, ?_, ?_, ?_, ?_, ?_, ?_, ?_, ?_, ?_, ?_, ?_, ?_, ?_, Zt⟩
 refine ⟨fun F => ?_, Zt⟩
 exact Zm q q (Zd q q q)
 refine ⟨fun F => ?_, Zt⟩
 exact Zq (y_fieldAddrc f45_1 q) q (Zd q q q)
 refine ⟨fun F => ?_, Zt⟩
 exact Zq (y_loadc q a3 q) q (Zd q q q)
 refine ⟨fun F => ?_, Zt⟩
 exact Zm q q (Zd q q q)
 refine ⟨fun F => ?_, Zt⟩
 exact Zq (y_nilCheckp q) q (Zd q q q)
 refine ⟨fun F => ?_, Zt⟩
 exact Zq (y_fieldAddr f116_0 q) q (Zd q q q)
 refine ⟨fun F => ?_, Zt⟩
 exact Zq (y_load q q a46 q) q (Zd q q q)
 refine ⟨fun F => ?_, Zt⟩
 exact Zq (y_nilCheckp q) q (Zd q q q)
 refine ⟨fun F => ?_, Zt⟩
 exact Zq (y_fieldAddr f90_5 q) q (Zd q q q)
 refine ⟨fun F => ?_, Zt⟩
 exact Zq (y_load q q a42 q) q (Zd q q q)
 refine ⟨fun F => ?_, Zt⟩
 exact Zq (y_indexAddr e42 q Zl q (idx_nonneg hx166) (idx_row E2_eq hx166) q) q (Zd q q q)
 refine ⟨fun F => ?_, Zt⟩
 exact Zq (y_loadc q a2 q) q (Zd q q q)
 refine ⟨fun F => ?_, Zt⟩
 exact Zq (y_nilCheckp q) q (Zd q q q)
 refine ⟨fun F => ?_, Zt⟩
 exact Zq (y_fieldAddr f116_1 q) q (Zd q q q)
 refine ⟨fun F => ?_, Zt⟩
 exact Zq (y_fieldAddr f41_0 q) q (Zd q q q)
 refine ⟨fun F => ?_, Zt⟩
 exact Zq (y_indexAddra ar39 q q (vecOk_0 hgg167) (vecOk_1 hgg167)) q (Zd q q q)
 refine ⟨fun F => ?_, Zt⟩
 exact WL.s0 (d_storeV (off := 1) (n := 16) (cs' := (([.pt 1 0] : List AV) ++ (vecA 16 (fun j => .n ((vset z163.1 (Int.toNat x1.d) x166) j)) ++ ([.n z163.2.1, .n z163.2.2.1, .n z163.2.2.2, .os 5 va] : List AV) : List AV))) (fun x => .n x) z163.1 x166 q q q (one_ok q) s2 q q hgg167 q) (Zw q) q (WL.done0 q q)
 refine we_seq (wc_seq ?_)
 obtain ⟨x168, hx168, h⟩ := bindS h
 replace h := guardBS h
 obtain ⟨hgg169, h⟩ := h
 apply wc_region_all [_, _, _, _, _, _, _, _, _, _, _, _, _, _, _, _, _, _, _, .u] [[], [], [1], [1, 2], [1, 2, 3], [], [5], [5, 6], [5, 6, 7], [5, 6, 7, 8], [5, 6, 7, 8, 9], [5, 6, 7, 8, 9, 10], [5, 6, 7, 8, 9, 10, 11], [5, 6, 7, 8, 9, 10, 11, 12], [5, 6, 7, 8, 9, 10, 11, 12, 13], [5, 6, 7, 8, 9, 10, 11, 12, 13, 14], [1, 2, 3, 4, 5, 6, 7, 8, 9, 10, 11, 12, 13, 14, 15], [0, 1, 2, 3, 4, 5, 6, 7, 8, 9, 10, 11, 12, 13, 14, 15, 16], [0, 1, 2, 3, 4, 5, 6, 7, 8, 9, 10, 11, 12, 13, 14, 15, 16, 17], [0, 1, 2, 3, 4, 5, 6, 7, 8, 9, 10, 11, 12, 13, 14, 15, 16, 17, 18]] [16, 19] (fun c => List.getD [[.row 116 (([.pt 1 0] : List AV) ++ (vecA 16 (fun j => .n ((vset z163.1 (Int.toNat x1.d) x166) j)) ++ ([.n z163.2.1, .n z163.2.2.1, .n z163.2.2.2, .os 5 va] : List AV) : List AV)), .row 90 (mR mI mH mO mE 2 vo mN 4 vu), .os 42 1 vo (famE 3 vf (List.length mS)), .fam 2 1 vf (famM E2 mS), .os 2 1 vu (eM E2 mU), .os 58 6 va (eM R58 tA)], [.row 116 (([.pt 1 0] : List AV) ++ (vecA 16 (fun j => .n ((vset z163.1 (Int.toNat x1.d) x166) j)) ++ ([.n z163.2.1, .n z163.2.2.1, .n z163.2.2.2, .os 5 va] : List AV) : List AV)), .row 90 (mR mI mH mO mE 2 vo mN 4 vu), .os 42 1 vo (famE 3 vf (List.length mS)), .fam 2 1 vf (famM E2 mS), .os 2 1 vu (eM E2 mU), .os 58 6 (va + 1) (eM R58 (tA ++ [(Act.mk 0 0 2 x168 0 0)]))], [.row 116 (([.pt 1 0] : List AV) ++ (vecA 16 (fun j => .n ((vset z163.1 (Int.toNat x1.d) x166) j)) ++ ([.n z163.2.1, .n z163.2.2.1, .n z163.2.2.2, .os 5 (va + 1)] : List AV) : List AV)), .row 90 (mR mI mH mO mE 2 vo mN 4 vu), .os 42 1 vo (famE 3 vf (List.length mS)), .fam 2 1 vf (famM E2 mS), .os 2 1 vu (eM E2 mU), .os 58 6 (va + 1) (eM R58 (tA ++ [(Act.mk 0 0 2 x168 0 0)]))]] c []) [([], [0], [0, 1]), ([], [0], [0]), ([1], [], [0]), ([2], [], [0]), ([3], [], [0]), ([], [0], [0]), ([5], [], [0]), ([6], [], [0]), ([7], [], [0]), ([8], [], [0]), ([9], [], [0]), ([10], [], [0]), ([11], [], [0]), ([12], [], [0]), ([13], [], [0]), ([14], [], [0]), ([4, 15], [], [0]), ([0], [], [1]), ([17], [], [1]), ([18, 16], [], [1])] (by kernel_rfl) (by kernel_rfl) q q q
 refine ⟨?_, ?_, ?_, ?_, ?_, ?_, ?_, ?_, ?_, ?_, ?_, ?_, ?_, ?_, ?_, ?_, ?_, ?_, ?_, ?_, Zt⟩
 refine ⟨fun F => ?_, fun F => ?_, Zt⟩
 exact Zm q q (Zd q q q)
 exact Zm q q (Zd q q q)
 refine ⟨fun F => ?_, Zt⟩
 exact Zm q q (Zd q q q)
 refine ⟨fun F => ?_, Zt⟩
 exact Zq (y_nilCheckp q) q (Zd q q q)
 refine ⟨fun F => ?_, Zt⟩
 exact Zq (y_fieldAddr f116_2 q) q (Zd q q q)
 refine ⟨fun F => ?_, Zt⟩
 exact Zq (y_load q q a50 q) q (Zd q q q)
 refine ⟨fun F => ?_, Zt⟩
 exact Zm q q (Zd q q q)
 refine ⟨fun F => ?_, Zt⟩
 exact Zq (y_nilCheckp q) q (Zd q q q)
 refine ⟨fun F => ?_, Zt⟩
 exact Zq (y_fieldAddr f116_0 q) q (Zd q q q)
 refine ⟨fun F => ?_, Zt⟩
 exact Zq (y_load q q a46 q) q (Zd q q q)
 refine ⟨fun F => ?_, Zt⟩
 exact Zq (y_nilCheckp q) q (Zd q q q)
 refine ⟨fun F => ?_, Zt⟩
 exact Zq (y_fieldAddr f90_5 q) q (Zd q q q)
 refine ⟨fun F => ?_, Zt⟩
 exact Zq (y_load q q a42 q) q (Zd q q q)
 refine ⟨fun F => ?_, Zt⟩
 exact Zq (y_indexAddr e42 q Zl q (idx_nonneg hx168) (idx_row E2_eq hx168) q) q (Zd q q q)
 refine ⟨fun F => ?_, Zt⟩
 exact Zq (y_loadc q a2 q) q (Zd q q q)
 refine ⟨fun F => ?_, Zt⟩
 exact Zq (y_build p58 z58 q q) q (Zd q q q)
 refine ⟨fun F => ?_, Zt⟩
 exact WL.s ((NewOs.data (n_buildSlice l50 z58 q (by decide) (by decide) q q q (by decide)) (by exact encA_map E58_eq [(Act.mk 0 0 2 x168 0 0)])).does) (Zw q) q q (Zd q q q)
 refine ⟨fun F => ?_, Zt⟩
 exact WL.s (d_appendL R58 tA [(Act.mk 0 0 2 x168 0 0)] l50 z58 q (by decide) q q q q (Src.dataL Zl E58_eq (fun _ => q)) (fun _ => q) (fun _ => q) hgg169) (Zw q) q q (Zd q q q)
 refine ⟨fun F => ?_, Zt⟩
 exact Zq (y_nilCheckp q) q (Zd q q q)
 refine ⟨fun F => ?_, Zt⟩
 exact Zq (y_fieldAddr f116_2 q) q (Zd q q q)
 refine ⟨fun F => ?_, Zt⟩
 exact WL.s0 (d_store1 q q q (one_os q) s50 q) (Zw q) q (WL.done0 q q)
 refine we_seq ?_
 replace h := guardBS h
 obtain ⟨hgg170, h⟩ := h
 apply wc_region_all [_, _, _, _, _, _, _, _, _, _, _, _, _, _, .u] [[], [0], [0, 1], [0, 1, 2], [], [4], [4, 5], [4, 5, 6], [4, 5, 6, 7], [4, 5, 6, 7, 8], [4, 5, 6, 7, 8, 9], [4, 5, 6, 7, 8, 9, 10], [0, 1, 2, 3, 4, 5, 6, 7, 8, 9, 10, 11], [0, 1, 2, 3, 4, 5, 6, 7, 8, 9, 10, 11, 12], [0, 1, 2, 3, 4, 5, 6, 7, 8, 9, 10, 11, 12, 13]] [14] (fun c => List.getD [[.row 116 (([.pt 1 0] : List AV) ++ (vecA 16 (fun j => .n ((vset z163.1 (Int.toNat x1.d) x166) j)) ++ ([.n z163.2.1, .n z163.2.2.1, .n z163.2.2.2, .os 5 (va + 1)] : List AV) : List AV)), .row 90 (mR mI mH mO mE 2 vo mN 4 vu), .os 42 1 vo (famE 3 vf (List.length mS)), .fam 2 1 vf (famM E2 mS), .os 2 1 vu (eM E2 mU), .os 58 6 (va + 1) (eM R58 (tA ++ [(Act.mk 0 0 2 x168 0 0)]))], [.row 116 (([.pt 1 0] : List AV) ++ (vecA 16 (fun j => .n ((vset z163.1 (Int.toNat x1.d) x166) j)) ++ ([.n z163.2.1, .n z163.2.2.1, .n z163.2.2.2, .os 5 (va + 1)] : List AV) : List AV)), .row 90 [.l E45 mI, .l E108 mH, .l E101 mO, .n mE, .os 2 vo, .l E2 (sliceF mN 1 (List.length mN : Int)), .os 4 vu], .os 42 1 vo (famE 3 vf (List.length mS)), .fam 2 1 vf (famM E2 mS), .os 2 1 vu (eM E2 mU), .os 58 6 (va + 1) (eM R58 (tA ++ [(Act.mk 0 0 2 x168 0 0)]))]] c []) [([], [0], [0]), ([0], [], [0]), ([1], [], [0]), ([2], [], [0]), ([], [0], [0]), ([4], [], [0]), ([5], [], [0]), ([6], [], [0]), ([7], [], [0]), ([8], [], [0]), ([9], [], [0]), ([10], [], [0]), ([3], [], [0]), ([12], [], [0]), ([13, 11], [], [0])] (by kernel_rfl) (by kernel_rfl) q q q
 refine ⟨?_, ?_, ?_, ?_, ?_, ?_, ?_, ?_, ?_, ?_, ?_, ?_, ?_, ?_, ?_, Zt⟩
 refine ⟨fun F => ?_, Zt⟩
 exact Zm q q (Zd q q q)
 refine ⟨fun F => ?_, Zt⟩
 exact Zq (y_nilCheckp q) q (Zd q q q)
 refine ⟨fun F => ?_, Zt⟩
 exact Zq (y_fieldAddr f116_0 q) q (Zd q q q)
 refine ⟨fun F => ?_, Zt⟩
 exact Zq (y_load q q a46 q) q (Zd q q q)
 refine ⟨fun F => ?_, Zt⟩
 exact Zm q q (Zd q q q)
 refine ⟨fun F => ?_, Zt⟩
 exact Zq (y_nilCheckp q) q (Zd q q q)
 refine ⟨fun F => ?_, Zt⟩
 exact Zq (y_fieldAddr f116_0 q) q (Zd q q q)
 refine ⟨fun F => ?_, Zt⟩
 exact Zq (y_load q q a46 q) q (Zd q q q)
 refine ⟨fun F => ?_, Zt⟩
 exact Zq (y_nilCheckp q) q (Zd q q q)
 refine ⟨fun F => ?_, Zt⟩
 exact Zq (y_fieldAddr f90_5 q) q (Zd q q q)
 refine ⟨fun F => ?_, Zt⟩
 exact Zq (y_load q q a42 q) q (Zd q q q)
 refine ⟨fun F => ?_, Zt⟩
 exact Zq (y_sliceL E2 mN (l := 1) (h := (List.length mN : Int)) e42 q Zl ⟨_, q⟩ q hgg170 (fun _ => q)) q (Zd q q q)
 refine ⟨fun F => ?_, Zt⟩
 exact Zq (y_nilCheckp q) q (Zd q q q)
 refine ⟨fun F => ?_, Zt⟩
 exact Zq (y_fieldAddr f90_5 q) q (Zd q q q)
 refine ⟨fun F => ?_, Zt⟩
 exact WL.s0 (d_store q q q q q q s42 q q) (Zw q) q (WL.done0 q q)
 refine we_blk (we_endP ?_)
 obtain rfl := Oi h
 exact WE.finP (we_ret_g (new := [.row 116 (([.pt 1 0] : List AV) ++ (vecA 16 (fun j => .n ((vset z163.1 (Int.toNat x1.d) x166) j)) ++ ([.n z163.2.1, .n z163.2.2.1, .n z163.2.2.2, .os 5 (va + 1)] : List AV) : List AV)), .row 90 [.l E45 mI, .l E108 mH, .l E101 mO, .n mE, .os 2 vo, .l E2 (sliceF mN 1 (List.length mN : Int)), .os 4 vu], .os 42 1 vo (famE 3 vf (List.length mS)), .fam 2 1 vf (famM E2 mS), .os 2 1 vu (eM E2 mU), .os 58 6 (va + 1) (eM R58 (tA ++ [(Act.mk 0 0 2 x168 0 0)]))]) (r0 := .d (.tu [])) (res0 q) (Le.tud Zt) q ⟨Zp, Zp, Zf, Zf, Zf, Zf, Zt⟩ ⟨_, vu, (va + 1), q, q, q⟩)
 obtain ⟨z9, hz, _⟩ := hS
 cases hz
 dsimp only [Rs.cs] at h
 refine WLP.wing [0, 1, 2, 3, 4, 5] q q q q (f131_c _ _ _ _ _ _ _ _ _ _ _ _ hr162) ⟨Zl, Zt⟩ q (by decide) (cons_eq q (cons_eq q (Rg (Rf (Ro (cons_eq (ren_os _ _ _ _ _ _) q)))))) ⟨q, q, q, q, q, q, Zt⟩ (stLt_cons q (stLt_cons q (Lg q (Lf (Lo (stLt_cons (lt_os _ _ _ _ _ _) q)))))) q (Zw q) q q (fun r' new hS => ?_) (fun c new hS => ?_)
 obtain ⟨z9, hz, _⟩ := hS
 cases hz
 obtain ⟨z9, hz, rfl, rfl⟩ := hS
 obtain rfl := Rs.bad.inj hz
 refine ⟨_, (cons_eq q (cons_eq q (Rg (Rf (Ro (cons_eq q q)))))), (stLt_cons q (stLt_cons q (Lg q (Lf (Lo (stLt_cons q q)))))), ?_⟩
 refine WE.sto (st' := (wD mI mH mO mE vo mN vu vf mS mU)) q (we_seq_pan (we_blk_pan ?_))
 obtain rfl := Oi h
 exact we_pan_g (new := (wD mI mH mO mE vo mN vu vf mS mU)) q ⟨Zt, Zp, Zf, Zf, Zf, Zt, Zt⟩ ⟨_, q, q, q⟩

theorem f87_c (tR : Nat → Int) (tP : Int) (tX : Int) (tD : Int) (mI : List Insn) (mH : List MHandler) (mO : List Obj) (mE : Int) (mN : List Int) (mS : List (List Int)) (mU : List Int) (tA : List Act) (x1 : Insn) {vo : Nat} {vf : Nat} {vu : Nat} {va : Nat} {r : Rs ((Nat → Int) × Int × Int × Int)} (h : f87 tR tP tX tD mI mH mO mE mN mS mU tA x1 = some r) : CtrP Tryz.prog 87 [.pt 0 0, .d (.ag (R45 x1))] (wT tR tP tX tD va mI mH mO mE vo mN vu vf mS mU tA) (WinG 6 (fun r' new => ∃ (z : (Nat → Int) × Int × Int × Int), r = .ok z ∧ r' = .d (.tu []) ∧ new = [.row 116 (([.pt 1 0] : List AV) ++ (vecA 16 (fun j => .n (z.1 j)) ++ ([.n z.2.1, .n z.2.2.1, .n z.2.2.2, .os 5 va] : List AV) : List AV)), .row 90 (mR mI mH mO mE 2 vo mN 4 vu), .os 42 1 vo (famE 3 vf (List.length mS)), .fam 2 1 vf (famM E2 mS), .os 2 1 vu (eM E2 mU), .os 58 6 va (eM R58 tA)])) (WinGP 6 (fun c new => ∃ (ee : Int), r = .bad ee ∧ c = wrongP ee ∧ new = (wD mI mH mO mE vo mN vu vf mS mU))) := by
 unfold f87 at h
 refine ctrP_intro Tryz.func87 (by kernel_rfl) q q q (fun mm φφ ww hmm => ?_)
 refine Zr (WL.s ((b_boxd q q (Zs _)).does) (Zw q) q q (Zn ?_))
 replace h := letkS h
 obtain ⟨k92, hk92, h⟩ := h
 refine wc_cut (fun env' st' => ∃ (c0190 : Nat → Int), ∃ (c01991 : Int), k92 c0190 c01991 = some r ∧ Sub [(0, .pt 0 0)] env' ∧ SLe st' [.row 116 (tQ 1 c0190 tP tX c01991 5 va), .row 90 (mR mI mH mO mE 2 vo mN 4 vu), .os 42 1 vo (famE 3 vf (List.length mS)), .fam 2 1 vf (famM E2 mS), .os 2 1 vu (eM E2 mU), .os 58 6 va (eM R58 tA)]) ?_ ?_
 refine Zr (Zq (y_fieldAddrc f45_0 q) q (Zq (y_loadc q a43 q) q (Zn (wc_block (Zr (Zq (y_eql q q) q (Za q q (Zn (wc_cond q (fun hc1 => ?_) (fun hc1 => ?_))))))))))
 replace h := condT h hc1
 replace h := guardBS h
 obtain ⟨hgg93, h⟩ := h
 apply wc_region_all [_, _, _, _, _, _, _, _, _, .u] [[], [], [1], [], [3], [0], [0, 5], [0, 5, 6], [0, 1, 2, 3, 4, 5, 6, 7], [0, 1, 2, 3, 4, 5, 6, 7, 8]] [9] (fun c => List.getD [(wT tR tP tX tD va mI mH mO mE vo mN vu vf mS mU tA), [.row 116 (([.pt 1 0] : List AV) ++ (vecA 16 (fun j => .n ((vset tR (Int.toNat x1.d) x1.n) j)) ++ ([.n tP, .n tX, .n tD, .os 5 va] : List AV) : List AV)), .row 90 (mR mI mH mO mE 2 vo mN 4 vu), .os 42 1 vo (famE 3 vf (List.length mS)), .fam 2 1 vf (famM E2 mS), .os 2 1 vu (eM E2 mU), .os 58 6 va (eM R58 tA)]] c []) [([], [0], [0]), ([], [3], [0]), ([1], [], [0]), ([], [3], [0]), ([3], [], [0]), ([0], [], [0]), ([5], [], [0]), ([6], [], [0]), ([7, 2], [], [0]), ([8, 4], [], [0])] (by kernel_rfl) (by kernel_rfl) q q q
 refine ⟨?_, ?_, ?_, ?_, ?_, ?_, ?_, ?_, ?_, ?_, Zt⟩
 refine ⟨fun F => ?_, Zt⟩
 exact Zm q q (Zd q q q)
 refine ⟨fun F => ?_, Zt⟩
 exact Zq (y_fieldAddrc f45_1 q) q (Zd q q q)
 refine ⟨fun F => ?_, Zt⟩
 exact Zq (y_loadc q a3 q) q (Zd q q q)
 refine ⟨fun F => ?_, Zt⟩
 exact Zq (y_fieldAddrc f45_4 q) q (Zd q q q)
 refine ⟨fun F => ?_, Zt⟩
 exact Zq (y_loadc q a2 q) q (Zd q q q)
 refine ⟨fun F => ?_, Zt⟩
 exact Zq (y_nilCheckp q) q (Zd q q q)
 refine ⟨fun F => ?_, Zt⟩
 exact Zq (y_fieldAddr f116_1 q) q (Zd q q q)
 refine ⟨fun F => ?_, Zt⟩
 exact Zq (y_fieldAddr f41_0 q) q (Zd q q q)
 refine ⟨fun F => ?_, Zt⟩
 exact Zq (y_indexAddra ar39 q q (vecOk_0 hgg93) (vecOk_1 hgg93)) q (Zd q q q)
 refine ⟨fun F => ?_, Zt⟩
 exact WL.s0 (d_storeV (off := 1) (n := 16) (cs' := (([.pt 1 0] : List AV) ++ (vecA 16 (fun j => .n ((vset tR (Int.toNat x1.d) x1.n) j)) ++ ([.n tP, .n tX, .n tD, .os 5 va] : List AV) : List AV))) (fun x => .n x) tR x1.n q q q (one_ok q) s2 q q hgg93 q) (Zw q) q (WL.done0 q q)
 exact we_blk (we_lp ⟨(vset tR (Int.toNat x1.d) x1.n), tD, h, (Sx q (Sub.nil _)), ⟨Zp, Zp, Zf, Zf, Zf, Zf, Zt⟩⟩)
 replace h := condF h hc1
 refine Zr (Zq (y_eql q q) q (Za q q (Zn (wc_cond q (fun hc2 => ?_) (fun hc2 => ?_)))))
 replace h := condT h hc2
 replace h := guardBS h
 obtain ⟨hgg94, h⟩ := h
 replace h := guardBS h
 obtain ⟨hgg95, h⟩ := h
 apply wc_region_all [_, _, _, _, _, _, _, _, _, _, _, _, _, _, _, .u] [[], [], [1], [], [], [4], [3], [3, 6], [3, 6, 7], [3, 4, 5, 6, 7, 8], [3, 4, 5, 6, 7, 8, 9], [0], [0, 11], [0, 11, 12], [0, 1, 2, 3, 4, 5, 6, 7, 8, 9, 10, 11, 12, 13], [0, 1, 2, 3, 4, 5, 6, 7, 8, 9, 10, 11, 12, 13, 14]] [15] (fun c => List.getD [(wT tR tP tX tD va mI mH mO mE vo mN vu vf mS mU tA), [.row 116 (([.pt 1 0] : List AV) ++ (vecA 16 (fun j => .n ((vset tR (Int.toNat x1.d) (tR (Int.toNat x1.a))) j)) ++ ([.n tP, .n tX, .n tD, .os 5 va] : List AV) : List AV)), .row 90 (mR mI mH mO mE 2 vo mN 4 vu), .os 42 1 vo (famE 3 vf (List.length mS)), .fam 2 1 vf (famM E2 mS), .os 2 1 vu (eM E2 mU), .os 58 6 va (eM R58 tA)]] c []) [([], [0], [0]), ([], [3], [0]), ([1], [], [0]), ([], [0], [0]), ([], [3], [0]), ([4], [], [0]), ([3], [], [0]), ([6], [], [0]), ([7], [], [0]), ([8, 5], [], [0]), ([9], [], [0]), ([0], [], [0]), ([11], [], [0]), ([12], [], [0]), ([13, 2], [], [0]), ([14, 10], [], [0])] (by kernel_rfl) (by kernel_rfl) q q q
 refine ⟨?_, ?_, ?_, ?_, ?_, ?_, ?_, ?_, ?_, ?_, ?_, ?_, ?_, ?_, ?_, ?_, Zt⟩
 refine ⟨fun F => ?_, Zt⟩
 exact Zm q q (Zd q q q)
 refine ⟨fun F => ?_, Zt⟩
 exact Zq (y_fieldAddrc f45_1 q) q (Zd q q q)
 refine ⟨fun F => ?_, Zt⟩
 exact Zq (y_loadc q a3 q) q (Zd q q q)
 refine ⟨fun F => ?_, Zt⟩
 exact Zm q q (Zd q q q)
 refine ⟨fun F => ?_, Zt⟩
 exact Zq (y_fieldAddrc f45_2 q) q (Zd q q q)
 refine ⟨fun F => ?_, Zt⟩
 exact Zq (y_loadc q a3 q) q (Zd q q q)
 refine ⟨fun F => ?_, Zt⟩
 exact Zq (y_nilCheckp q) q (Zd q q q)
 refine ⟨fun F => ?_, Zt⟩
 exact Zq (y_fieldAddr f116_1 q) q (Zd q q q)
 refine ⟨fun F => ?_, Zt⟩
 exact Zq (y_fieldAddr f41_0 q) q (Zd q q q)
 refine ⟨fun F => ?_, Zt⟩
 exact Zq (y_indexAddra ar39 q q (vecOk_0 hgg94) (vecOk_1 hgg94)) q (Zd q q q)
 refine ⟨fun F => ?_, Zt⟩
 exact Zq (y_loadV (off := 1) (n := 16) (fun j => .n (tR j)) q q a2 q hgg94) q (Zd q q q)
 refine ⟨fun F => ?_, Zt⟩
 exact Zq (y_nilCheckp q) q (Zd q q q)
 refine ⟨fun F => ?_, Zt⟩
 exact Zq (y_fieldAddr f116_1 q) q (Zd q q q)
 refine ⟨fun F => ?_, Zt⟩
 exact Zq (y_fieldAddr f41_0 q) q (Zd q q q)
 refine ⟨fun F => ?_, Zt⟩
 exact Zq (y_indexAddra ar39 q q (vecOk_0 hgg95) (vecOk_1 hgg95)) q (Zd q q q)
 refine ⟨fun F => ?_, Zt⟩
 exact WL.s0 (d_storeV (off := 1) (n := 16) (cs' := (([.pt 1 0] : List AV) ++ (vecA 16 (fun j => .n ((vset tR (Int.toNat x1.d) (tR (Int.toNat x1.a))) j)) ++ ([.n tP, .n tX, .n tD, .os 5 va] : List AV) : List AV))) (fun x => .n x) tR (tR (Int.toNat x1.a)) q q q (one_ok q) s2 q q hgg95 q) (Zw q) q (WL.done0 q q)
 exact we_blk (we_lp ⟨(vset tR (Int.toNat x1.d) (tR (Int.toNat x1.a))), tD, h, (Sx q (Sub.nil _)), ⟨Zp, Zp, Zf, Zf, Zf, Zf, Zt⟩⟩)
 replace h := condF h hc2
 refine Zr (Zq (y_eql q q) q (Za q q (Zn (wc_cond q (fun hc3 => ?_) (fun hc3 => ?_)))))
 replace h := condT h hc3
 replace h := guardBS h
 obtain ⟨hgg96, h⟩ := h
 apply wc_region_all [_, _, _, _, _, _, _, _, _, _, _, _, .u] [[], [], [1], [], [3], [3, 4], [3, 4, 5], [3, 4, 5, 6], [0], [0, 8], [0, 8, 9], [0, 1, 2, 3, 4, 5, 6, 7, 8, 9, 10], [0, 1, 2, 3, 4, 5, 6, 7, 8, 9, 10, 11]] [12] (fun c => List.getD [(wT tR tP tX tD va mI mH mO mE vo mN vu vf mS mU tA), [.row 116 (([.pt 1 0] : List AV) ++ (vecA 16 (fun j => .n ((vset tR (Int.toNat x1.d) tX) j)) ++ ([.n tP, .n tX, .n tD, .os 5 va] : List AV) : List AV)), .row 90 (mR mI mH mO mE 2 vo mN 4 vu), .os 42 1 vo (famE 3 vf (List.length mS)), .fam 2 1 vf (famM E2 mS), .os 2 1 vu (eM E2 mU), .os 58 6 va (eM R58 tA)]] c []) [([], [0], [0]), ([], [3], [0]), ([1], [], [0]), ([], [0], [0]), ([3], [], [0]), ([4], [], [0]), ([5], [], [0]), ([6], [], [0]), ([0], [], [0]), ([8], [], [0]), ([9], [], [0]), ([10, 2], [], [0]), ([11, 7], [], [0])] (by kernel_rfl) (by kernel_rfl) q q q
 refine ⟨?_, ?_, ?_, ?_, ?_, ?_, ?_, ?_, ?_, ?_, ?_, ?_, ?_, Zt⟩
 refine ⟨fun F => ?_, Zt⟩
 exact Zm q q (Zd q q q)
 refine ⟨fun F => ?_, Zt⟩
 exact Zq (y_fieldAddrc f45_1 q) q (Zd q q q)
 refine ⟨fun F => ?_, Zt⟩
 exact Zq (y_loadc q a3 q) q (Zd q q q)
 refine ⟨fun F => ?_, Zt⟩
 exact Zm q q (Zd q q q)
 refine ⟨fun F => ?_, Zt⟩
 exact Zq (y_nilCheckp q) q (Zd q q q)
 refine ⟨fun F => ?_, Zt⟩
 exact Zq (y_fieldAddr f116_1 q) q (Zd q q q)
 refine ⟨fun F => ?_, Zt⟩
 exact Zq (y_fieldAddr f41_2 q) q (Zd q q q)
 refine ⟨fun F => ?_, Zt⟩
 exact Zq (y_load q q a2 q) q (Zd q q q)
 refine ⟨fun F => ?_, Zt⟩
 exact Zq (y_nilCheckp q) q (Zd q q q)
 refine ⟨fun F => ?_, Zt⟩
 exact Zq (y_fieldAddr f116_1 q) q (Zd q q q)
 refine ⟨fun F => ?_, Zt⟩
 exact Zq (y_fieldAddr f41_0 q) q (Zd q q q)
 refine ⟨fun F => ?_, Zt⟩
 exact Zq (y_indexAddra ar39 q q (vecOk_0 hgg96) (vecOk_1 hgg96)) q (Zd q q q)
 refine ⟨fun F => ?_, Zt⟩
 exact WL.s0 (d_storeV (off := 1) (n := 16) (cs' := (([.pt 1 0] : List AV) ++ (vecA 16 (fun j => .n ((vset tR (Int.toNat x1.d) tX) j)) ++ ([.n tP, .n tX, .n tD, .os 5 va] : List AV) : List AV))) (fun x => .n x) tR tX q q q (one_ok q) s2 q q hgg96 q) (Zw q) q (WL.done0 q q)
 exact we_blk (we_lp ⟨(vset tR (Int.toNat x1.d) tX), tD, h, (Sx q (Sub.nil _)), ⟨Zp, Zp, Zf, Zf, Zf, Zf, Zt⟩⟩)
 replace h := condF h hc3
 refine Zr (Zq (y_eql q q) q (Za q q (Zn (wc_cond q (fun hc4 => ?_) (fun hc4 => ?_)))))
 replace h := condT h hc4
 exact wc_region (Zm q q (Zq (y_nilCheckp q) q (Zq (y_fieldAddr f116_1 q) q (Zq (y_fieldAddr f41_3 q) q (Zq (y_load q q a3 q) q (Zq (y_add q q q) q (Zq (y_nilCheckp q) q (Zq (y_fieldAddr f116_1 q) q (Zq (y_fieldAddr f41_3 q) q (WL.s0 (d_store q q q q q q s3 q q) (Zw q) q (WL.st (st' := [.row 116 (([.pt 1 0] : List AV) ++ (vecA 16 (fun j => .n (tR j)) ++ ([.n tP, .n tX, .n (IntKind.i64.wrap (tD + 1)), .os 5 va] : List AV) : List AV)), .row 90 (mR mI mH mO mE 2 vo mN 4 vu), .os 42 1 vo (famE 3 vf (List.length mS)), .fam 2 1 vf (famM E2 mS), .os 2 1 vu (eM E2 mU), .os 58 6 va (eM R58 tA)]) q (WL.nil (we_blk (we_lp ⟨tR, (IntKind.i64.wrap (tD + 1)), h, (Sx q (Sub.nil _)), ⟨Zp, Zp, Zf, Zf, Zf, Zf, Zt⟩⟩))))))))))))))
 replace h := condF h hc4
 refine Zr (Zq (y_eql q q) q (Za q q (Zn (wc_cond q (fun hc5 => ?_) (fun hc5 => ?_)))))
 replace h := condT h hc5
 exact wc_region (Zm q q (Zq (y_nilCheckp q) q (Zq (y_fieldAddr f116_1 q) q (Zq (y_fieldAddr f41_3 q) q (Zq (y_load q q a3 q) q (Zq (y_sub q q q) q (Zq (y_nilCheckp q) q (Zq (y_fieldAddr f116_1 q) q (Zq (y_fieldAddr f41_3 q) q (WL.s0 (d_store q q q q q q s3 q q) (Zw q) q (WL.st (st' := [.row 116 (([.pt 1 0] : List AV) ++ (vecA 16 (fun j => .n (tR j)) ++ ([.n tP, .n tX, .n (IntKind.i64.wrap (tD - 1)), .os 5 va] : List AV) : List AV)), .row 90 (mR mI mH mO mE 2 vo mN 4 vu), .os 42 1 vo (famE 3 vf (List.length mS)), .fam 2 1 vf (famM E2 mS), .os 2 1 vu (eM E2 mU), .os 58 6 va (eM R58 tA)]) q (WL.nil (we_blk (we_lp ⟨tR, (IntKind.i64.wrap (tD - 1)), h, (Sx q (Sub.nil _)), ⟨Zp, Zp, Zf, Zf, Zf, Zf, Zt⟩⟩))))))))))))))
 replace h := condF h hc5
 exact wc_skip (we_blk (we_lp ⟨tR, tD, h, (Sx q (Sub.nil _)), ⟨Zp, Zp, Zf, Zf, Zf, Zf, Zt⟩⟩))
 rintro env1 st1 ⟨c0190, c01991, h, hsub, hst⟩
 subst hk92
 dsimp only at h
 refine WC.sub hsub (WC.weak hst ?_)
 refine wc_seq (Zr (Zm q q (Zq (y_nilCheckp q) q (Zq (y_fieldAddr f116_1 q) q (Zq (y_fieldAddr f41_3 q) q (Zq (y_load q q a3 q) q (Zq (y_lss q q) q (Zm q q ?_))))))))
 apply WL.or 7 (t := 76) (d := 83)
 exact q
 intro hg76
 exact Zy (y_move q) q q q (Zy (y_nilCheckp q) q q q (Zy (y_fieldAddr f116_1 q) q q q (Zy (y_fieldAddr f41_3 q) q q q (Zy (y_load q q a3 q) q q q (Zy (y_gtr q q) q q q (Zq (y_pick_f q q) q (WL.nil ⟨q, [_, _, _, _, _, _, _], q, q, q⟩)))))))
 exact WL.skips 6 q (Zq (y_pick_t q q) q (WL.nil ⟨q, [_, _, _, _, _, _, _], q, q, q⟩))
 refine Zn (wc_cond q (fun hc6 => ?_) (fun hc6 => ?_))
 replace h := condT h hc6
 refine wc_regionP (WLP.wing [] q q q q (f102_c  (r := Rs.bad 280) q) Zt q (by decide) q Zt q q (Zw q) q q (fun r' new hS => ?_) (fun c new hS => ?_))
 obtain ⟨z9, hz, _⟩ := hS
 cases hz
 obtain ⟨z9, hz, rfl, rfl⟩ := hS
 obtain rfl := Rs.bad.inj hz
 refine ⟨_, q, q, ?_⟩
 refine we_seq_pan ?_
 obtain rfl := Oi h
 exact we_pan_g (new := (wD mI mH mO mE vo mN vu vf mS mU)) q ⟨Zt, Zp, Zf, Zf, Zf, Zt, Zt⟩ ⟨_, q, q, q⟩
 replace h := condF h hc6
 refine wc_skip (we_seq (wc_regionP (WLP.pre 1 (Zm q q (WL.nil ?_)))))
 obtain ⟨r101, hr101, h⟩ := bindS h
 rcases r101 with z102 | e103
 dsimp only [Rs.cs] at h
 refine WLP.wing [0, 1, 2, 3, 4, 5] q q q q (f131_c _ _ _ _ _ _ _ _ _ _ _ _ hr101) ⟨Zl, Zt⟩ q (by decide) (cons_eq q (cons_eq q (Rg (Rf (Ro (cons_eq (ren_os _ _ _ _ _ _) q)))))) ⟨q, q, q, q, q, q, Zt⟩ (stLt_cons q (stLt_cons q (Lg q (Lf (Lo (stLt_cons (lt_os _ _ _ _ _ _) q)))))) q (Zw q) q q (fun r' new hS => ?_) (fun c new hS => ?_)
 obtain ⟨z9, hz, rfl, rfl⟩ := hS
 obtain rfl := Rs.ok.inj hz
 refine ⟨_, _, q, (cons_eq q (cons_eq q (Rg (Rf (Ro (cons_eq (ren_os _ _ _ _ _ _) q)))))), q, (stLt_cons q (stLt_cons q (Lg q (Lf (Lo (stLt_cons (lt_os _ _ _ _ _ _) q)))))), WLP.of ?_⟩
 refine WL.st (st' := [.row 116 (([.pt 1 0] : List AV) ++ (vecA 16 (fun j => .n (z102.1 j)) ++ ([.n z102.2.1, .n z102.2.2.1, .n z102.2.2.2, .os 5 va] : List AV) : List AV)), .row 90 (mR mI mH mO mE 2 vo mN 4 vu), .os 42 1 vo (famE 3 vf (List.length mS)), .fam 2 1 vf (famM E2 mS), .os 2 1 vu (eM E2 mU), .os 58 6 va (eM R58 tA)]) q (WL.nil (we_endP ?_))
 obtain rfl := Oi h
 exact WE.finP (we_ret_g (new := [.row 116 (([.pt 1 0] : List AV) ++ (vecA 16 (fun j => .n (z102.1 j)) ++ ([.n z102.2.1, .n z102.2.2.1, .n z102.2.2.2, .os 5 va] : List AV) : List AV)), .row 90 (mR mI mH mO mE 2 vo mN 4 vu), .os 42 1 vo (famE 3 vf (List.length mS)), .fam 2 1 vf (famM E2 mS), .os 2 1 vu (eM E2 mU), .os 58 6 va (eM R58 tA)]) (r0 := .d (.tu [])) (res0 q) (Le.tud Zt) q ⟨Zp, Zp, Zf, Zf, Zf, Zf, Zt⟩ ⟨_, q, q, q⟩)
 obtain ⟨z9, hz, _⟩ := hS
 cases hz
 dsimp only [Rs.cs] at h
 refine WLP.wing [0, 1, 2, 3, 4, 5] q q q q (f131_c _ _ _ _ _ _ _ _ _ _ _ _ hr101) ⟨Zl, Zt⟩ q (by decide) (cons_eq q (cons_eq q (Rg (Rf (Ro (cons_eq (ren_os _ _ _ _ _ _) q)))))) ⟨q, q, q, q, q, q, Zt⟩ (stLt_cons q (stLt_cons q (Lg q (Lf (Lo (stLt_cons (lt_os _ _ _ _ _ _) q)))))) q (Zw q) q q (fun r' new hS => ?_) (fun c new hS => ?_)
 obtain ⟨z9, hz, _⟩ := hS
 cases hz
 obtain ⟨z9, hz, rfl, rfl⟩ := hS
 obtain rfl := Rs.bad.inj hz
 refine ⟨_, (cons_eq q (cons_eq q (Rg (Rf (Ro (cons_eq q q)))))), (stLt_cons q (stLt_cons q (Lg q (Lf (Lo (stLt_cons q q)))))), ?_⟩
 refine WE.sto (st' := (wD mI mH mO mE vo mN vu vf mS mU)) q ?_
 obtain rfl := Oi h
 exact we_pan_g (new := (wD mI mH mO mE vo mN vu vf mS mU)) q ⟨Zt, Zp, Zf, Zf, Zf, Zt, Zt⟩ ⟨_, q, q, q⟩

theorem f181_c (a0 : Int) (b1 : Int) : Pu Tryz.prog 181 [.i .i64 a0, .i .i64 b1] (.i .i64 (f181 a0 b1)) := by
 generalize h : f181 a0 b1 = r
 unfold f181 at h
 refine fn_intro Tryz.func181 (by kernel_rfl) q q q (fun φφ ww => ?_)
 refine Zr (Za q q (Zn (Zr (Zm q q (Zm q q (Zq (y_add q q q) q (Za q q (Zn (wc_ret ?_)))))))))
 subst h
 exact we_ret_fn (rs1 q (rv_t q)) Zl

theorem f182_c (a0 : Int) (b1 : Int) : Pu Tryz.prog 182 [.i .i64 a0, .i .i64 b1] (.i .i64 (f182 a0 b1)) := by
 generalize h : f182 a0 b1 = r
 unfold f182 at h
 refine fn_intro Tryz.func182 (by kernel_rfl) q q q (fun φφ ww => ?_)
 refine Zr (Za q q (Zn (Zr (Zm q q (Zm q q (Zq (y_sub q q q) q (Za q q (Zn (wc_ret ?_)))))))))
 subst h
 exact we_ret_fn (rs1 q (rv_t q)) Zl

theorem f183_c (a0 : Int) (b1 : Int) : Pu Tryz.prog 183 [.i .i64 a0, .i .i64 b1] (.i .i64 (f183 a0 b1)) := by
 generalize h : f183 a0 b1 = r
 unfold f183 at h
 refine fn_intro Tryz.func183 (by kernel_rfl) q q q (fun φφ ww => ?_)
 refine Zr (Za q q (Zn (Zr (Zm q q (Zm q q (Zq (y_mul q q q) q (Za q q (Zn (wc_ret ?_)))))))))
 subst h
 exact we_ret_fn (rs1 q (rv_t q)) Zl

theorem f185_c (a0 : Int) (b1 : Int) {r : Int} (h : f185 a0 b1 = some r) : Pu Tryz.prog 185 [.i .i64 a0, .i .i64 b1] (.i .i64 r) := by
 unfold f185 at h
 refine fn_intro Tryz.func185 (by kernel_rfl) q q q (fun φφ ww => ?_)
 refine Zr (Za q q (Zn (Zr (Zm q q (Zm q q ?_)))))
 replace h := guardBS h
 obtain ⟨hgg11, h⟩ := h
 refine Zq (y_quo q q (nz_ne hgg11) q) q (Za q q (Zn (wc_ret ?_)))
 obtain rfl := Oi h
 exact we_ret_fn (rs1 q (rv_t q)) Zl

theorem f186_c (a0 : Int) (b1 : Int) {r : Int} (h : f186 a0 b1 = some r) : Pu Tryz.prog 186 [.i .i64 a0, .i .i64 b1] (.i .i64 r) := by
 unfold f186 at h
 refine fn_intro Tryz.func186 (by kernel_rfl) q q q (fun φφ ww => ?_)
 refine Zr (Za q q (Zn (Zr (Zm q q (Zm q q ?_)))))
 replace h := guardBS h
 obtain ⟨hgg11, h⟩ := h
 refine Zq (y_rem q q (nz_ne hgg11)) q (Za q q (Zn (wc_ret ?_)))
 obtain rfl := Oi h
 exact we_ret_fn (rs1 q (rv_t q)) Zl

theorem f187_c (a0 : Int) (b1 : Int) {r : Int} (h : f187 a0 b1 = some r) : Pu Tryz.prog 187 [.i .i64 a0, .i .i64 b1] (.i .i64 r) := by
 unfold f187 at h
 refine fn_intro Tryz.func187 (by kernel_rfl) q q q (fun φφ ww => ?_)
 refine Zr (Za q q (Zn (wc_seq (Zr (Zm q q (Zm q q ?_))))))
 replace h := guardBS h
 obtain ⟨hgg26, h⟩ := h
 refine Zq (y_rem q q (nz_ne hgg26)) q (Za q q (Zn (Zr (Zm q q (Zq (y_eql q q) q (Zm q q ?_))))))
 apply WL.or 5 (t := 11) (d := 16)
 exact q
 intro hg11
 exact Zy (y_move q) q q q (Zy (y_move q) q q q (Zy (y_xor q q q) q q q (Zy (y_geq q q) q q q (Zq (y_pick_f q q) q (WL.nil ⟨q, [_, _, _, _, _], q, q, q⟩)))))
 exact WL.skips 4 q (Zq (y_pick_t q q) q (WL.nil ⟨q, [_, _, _, _, _], q, q, q⟩))
 refine Zn (wc_cond q (fun hc1 => ?_) (fun hc1 => ?_))
 replace h := condT h hc1
 refine Zr (Zm q q (Za q q (Zn (wc_ret (we_seq_ret ?_)))))
 obtain rfl := Oi h
 exact we_ret_fn (rs1 q (rv_t q)) Zl
 replace h := condF h hc1
 refine wc_skip (we_seq (Zr (Zm q q (Zm q q ?_))))
 replace h := guardBS h
 obtain ⟨hgg27, h⟩ := h
 refine Zq (y_rem q q (nz_ne hgg27)) q (Zm q q (Zq (y_add q q q) q (Za q q (Zn (wc_ret ?_)))))
 obtain rfl := Oi h
 exact we_ret_fn (rs1 q (rv_t q)) Zl

theorem f217_c (is0 : Bool) : Pu Tryz.prog 217 [.b is0] (.i .i64 (f217 is0)) := by
 generalize h : f217 is0 = r
 unfold f217 at h
 refine fn_intro Tryz.func217 (by kernel_rfl) q q q (fun φφ ww => ?_)
 refine Zr (Za q q (Zn (wc_seq (Zr (Zm q q (Zn (wc_cond q (fun hc1 => ?_) (fun hc1 => ?_))))))))
 replace h := condT h hc1
 refine Zr (Za q q (Zn (wc_ret (we_seq_ret ?_))))
 subst h
 exact we_ret_fn (rs1 q (rv_t q)) Zl
 replace h := condF h hc1
 refine wc_skip (we_seq (Zr (Za q q (Zn (wc_ret ?_)))))
 subst h
 exact we_ret_fn (rs1 q (rv_t q)) Zl

theorem f189_c (a0 : Int) (b1 : Int) : Pu Tryz.prog 189 [.i .i64 a0, .i .i64 b1] (.b (f189 a0 b1)) := by
 generalize h : f189 a0 b1 = r
 unfold f189 at h
 refine fn_intro Tryz.func189 (by kernel_rfl) q q q (fun φφ ww => ?_)
 refine Zr (Za q q (Zn (Zr (Zm q q (Zm q q (Zq (y_eql q q) q (Za q q (Zn (wc_ret ?_)))))))))
 subst h
 exact we_ret_fn (rs1 q (rv_t q)) Zl

theorem f190_c (a0 : Int) (b1 : Int) : Pu Tryz.prog 190 [.i .i64 a0, .i .i64 b1] (.b (f190 a0 b1)) := by
 generalize h : f190 a0 b1 = r
 unfold f190 at h
 refine fn_intro Tryz.func190 (by kernel_rfl) q q q (fun φφ ww => ?_)
 refine Zr (Za q q (Zn (Zr (Zm q q (Zm q q (Zq (y_neq q q) q (Za q q (Zn (wc_ret ?_)))))))))
 subst h
 exact we_ret_fn (rs1 q (rv_t q)) Zl

theorem f191_c (a0 : Int) (b1 : Int) : Pu Tryz.prog 191 [.i .i64 a0, .i .i64 b1] (.b (f191 a0 b1)) := by
 generalize h : f191 a0 b1 = r
 unfold f191 at h
 refine fn_intro Tryz.func191 (by kernel_rfl) q q q (fun φφ ww => ?_)
 refine Zr (Za q q (Zn (Zr (Zm q q (Zm q q (Zq (y_lss q q) q (Za q q (Zn (wc_ret ?_)))))))))
 subst h
 exact we_ret_fn (rs1 q (rv_t q)) Zl

theorem f192_c (a0 : Int) (b1 : Int) : Pu Tryz.prog 192 [.i .i64 a0, .i .i64 b1] (.b (f192 a0 b1)) := by
 generalize h : f192 a0 b1 = r
 unfold f192 at h
 refine fn_intro Tryz.func192 (by kernel_rfl) q q q (fun φφ ww => ?_)
 refine Zr (Za q q (Zn (Zr (Zm q q (Zm q q (Zq (y_leq q q) q (Za q q (Zn (wc_ret ?_)))))))))
 subst h
 exact we_ret_fn (rs1 q (rv_t q)) Zl

theorem f193_c (a0 : Int) (b1 : Int) : Pu Tryz.prog 193 [.i .i64 a0, .i .i64 b1] (.b (f193 a0 b1)) := by
 generalize h : f193 a0 b1 = r
 unfold f193 at h
 refine fn_intro Tryz.func193 (by kernel_rfl) q q q (fun φφ ww => ?_)
 refine Zr (Za q q (Zn (Zr (Zm q q (Zm q q (Zq (y_gtr q q) q (Za q q (Zn (wc_ret ?_)))))))))
 subst h
 exact we_ret_fn (rs1 q (rv_t q)) Zl

theorem f194_c (a0 : Int) (b1 : Int) : Pu Tryz.prog 194 [.i .i64 a0, .i .i64 b1] (.b (f194 a0 b1)) := by
 generalize h : f194 a0 b1 = r
 unfold f194 at h
 refine fn_intro Tryz.func194 (by kernel_rfl) q q q (fun φφ ww => ?_)
 refine Zr (Za q q (Zn (Zr (Zm q q (Zm q q (Zq (y_geq q q) q (Za q q (Zn (wc_ret ?_)))))))))
 subst h
 exact we_ret_fn (rs1 q (rv_t q)) Zl

theorem f195_c (a0 : Int) (b1 : Int) : Pu Tryz.prog 195 [.i .i64 a0, .i .i64 b1] (.i .i64 (f195 a0 b1)) := by
 generalize h : f195 a0 b1 = r
 unfold f195 at h
 refine fn_intro Tryz.func195 (by kernel_rfl) q q q (fun φφ ww => ?_)
 refine Zr (Za q q (Zn (Zr (Zm q q (Zm q q (Zq (y_and q q q) q (Za q q (Zn (wc_ret ?_)))))))))
 subst h
 exact we_ret_fn (rs1 q (rv_t q)) Zl

theorem f196_c (a0 : Int) (b1 : Int) : Pu Tryz.prog 196 [.i .i64 a0, .i .i64 b1] (.i .i64 (f196 a0 b1)) := by
 generalize h : f196 a0 b1 = r
 unfold f196 at h
 refine fn_intro Tryz.func196 (by kernel_rfl) q q q (fun φφ ww => ?_)
 refine Zr (Za q q (Zn (Zr (Zm q q (Zm q q (Zq (y_or q q q) q (Za q q (Zn (wc_ret ?_)))))))))
 subst h
 exact we_ret_fn (rs1 q (rv_t q)) Zl

theorem f197_c (a0 : Int) (b1 : Int) : Pu Tryz.prog 197 [.i .i64 a0, .i .i64 b1] (.i .i64 (f197 a0 b1)) := by
 generalize h : f197 a0 b1 = r
 unfold f197 at h
 refine fn_intro Tryz.func197 (by kernel_rfl) q q q (fun φφ ww => ?_)
 refine Zr (Za q q (Zn (Zr (Zm q q (Zm q q (Zq (y_xor q q q) q (Za q q (Zn (wc_ret ?_)))))))))
 subst h
 exact we_ret_fn (rs1 q (rv_t q)) Zl

theorem f198_c (a0 : Int) (p1 : Int) : Pu Tryz.prog 198 [.i .i64 a0, .i .i64 p1] (.i .i64 (f198 a0 p1)) := by
 generalize h : f198 a0 p1 = r
 unfold f198 at h
 refine fn_intro Tryz.func198 (by kernel_rfl) q q q (fun φφ ww => ?_)
 refine Zr (Za q q (Zn (Zr (Zm q q (Zq (y_neg q q) q (Za q q (Zn (wc_ret ?_))))))))
 subst h
 exact we_ret_fn (rs1 q (rv_t q)) Zl

theorem f199_c (a0 : Int) (p1 : Int) : Pu Tryz.prog 199 [.i .i64 a0, .i .i64 p1] (.i .i64 (f199 a0 p1)) := by
 generalize h : f199 a0 p1 = r
 unfold f199 at h
 refine fn_intro Tryz.func199 (by kernel_rfl) q q q (fun φφ ww => ?_)
 refine Zr (Za q q (Zn (Zr (Zm q q (Zm q q (Zq (y_neg q q) q (Zq (y_max q q q) q (Za q q (Zn (wc_ret ?_))))))))))
 subst h
 exact we_ret_fn (rs1 q (rv_t q)) Zl

theorem f200_c (a0 : Int) (p1 : Int) : Pu Tryz.prog 200 [.i .i64 a0, .i .i64 p1] (.i .i64 (f200 a0 p1)) := by
 generalize h : f200 a0 p1 = r
 unfold f200 at h
 refine fn_intro Tryz.func200 (by kernel_rfl) q q q (fun φφ ww => ?_)
 refine Zr (Za q q (Zn (Zr (Zm q q (Zq (y_sub q q q) q (Za q q (Zn (wc_ret ?_))))))))
 subst h
 exact we_ret_fn (rs1 q (rv_t q)) Zl

theorem f132_c (op0 : Int) (a1 : Int) (b2 : Int) {r : Int × Bool} (h : f132 op0 a1 b2 = some r) : Pu Tryz.prog 132 [.i .u8 op0, .i .i64 a1, .i .i64 b2] (.tu [.i .i64 r.1, .b r.2]) := by
 unfold f132 at h
 refine fn_intro Tryz.func132 (by kernel_rfl) q q q (fun φφ ww => ?_)
 refine Zr (Za q q (Za q q (Zn (wc_seq (Zr (Zm q q (Zn (wc_block (Zr (Zq (y_eql q q) q (Za q q (Zn (wc_cond q (fun hc1 => ?_) (fun hc1 => ?_))))))))))))))
 replace h := condT h hc1
 refine Zr (Zm q q (Zm q q (Zq (y_add q q q) q (Za q q (Za q q (Zn (wc_ret (we_blk_ret (we_seq_ret ?_)))))))))
 obtain rfl := Oi h
 exact we_ret_fn (rs2 q (rv_t q) (rv_t q)) (Le.tud ⟨Zl, Zl, Zt⟩)
 replace h := condF h hc1
 refine Zr (Zq (y_eql q q) q (Za q q (Zn (wc_cond q (fun hc2 => ?_) (fun hc2 => ?_)))))
 replace h := condT h hc2
 refine Zr (Zm q q (Zm q q (Zq (y_sub q q q) q (Za q q (Za q q (Zn (wc_ret (we_blk_ret (we_seq_ret ?_)))))))))
 obtain rfl := Oi h
 exact we_ret_fn (rs2 q (rv_t q) (rv_t q)) (Le.tud ⟨Zl, Zl, Zt⟩)
 replace h := condF h hc2
 refine wc_skip (we_blk (we_seq (Zr ?_)))
 obtain ⟨k40, hk40, h⟩ := letkS h
 refine WL.inl (us := []) (fun rv st' => (k40 () = some r ∧ Le rv (.mp 0) ∧ SLe st' [mpO (fun x : Int => Value.int .u8 x) (fun x : AV => x) [fe 1 214 1, fe 2 214 2, fe 3 214 3, fe 4 215 4, fe 5 215 5, fe 6 215 6, fe 7 216 7, fe 8 216 8, fe 9 216 9, fe 10 216 10, fe 11 216 11, fe 12 216 12, fe 13 214 13, fe 14 214 14, fe 15 214 15, fe 16 214 16, fe 17 214 17, fe 18 214 18], rF 209 181, rF 209 182, rF 209 183, rF 209 185, rF 209 186, rF 209 187, rF 195 189, rF 195 190, rF 195 191, rF 195 192, rF 195 193, rF 195 194, rF 209 195, rF 209 196, rF 209 197, rF 209 198, rF 209 199, rF 209 200])) q q q q q ?_ (Zw q) q q ?_
 refine ctr_intro Tryz.func159 (by kernel_rfl) q q q (fun mm φφ ww hm39 => ?_)
 refine Zr (Za q q (Zn (Zr (WL.s ((b_makeMap (α := AV) (fun x : Int => Value.int .u8 x) (fun x : AV => x)).does) (Zw q) q q ?_))))
 obtain ⟨k42, hk42, h⟩ := letkS h
 refine WL.inl (us := [.fn (.func 181) [] []]) (fun rv st' => (k42 () = some r ∧ Le rv (.fn (.func 214) [] [.pt 1 0]) ∧ SLe st' [mpO (fun x : Int => Value.int .u8 x) (fun x : AV => x) [], rF 209 181])) q q q q q ?_ (Zw q) q q ?_
 refine ctr_intro Tryz.func180 (by kernel_rfl) q q q (fun mm φφ ww hm41 => ?_)
 exact Zr (WL.s ((b_box q q).does) (Zw q) q q (Za q q (Zn (Zr (Zq (y_makeFunc q q) q (Za q q (Zn (wc_ret (we_ret (rs1 q (rv_t q)) ⟨h, Zl, ⟨q, Zp, Zt⟩⟩)))))))))
 rintro rv st1 ⟨h, hr, hst⟩
 subst hk42
 dsimp only at h
 refine WL.cast 2 q hr (WL.weak hst (WL.s0 (d_mapUpdate (fun x : Int => Value.int .u8 x) (fun x : AV => x) [] (u := .fn (.func 214) [] [.pt 1 0]) (.inl q) Tryz.underlying237 Tryz.underlying146 (KeyF.int .u8) q q q q) (Zw q) q ?_))
 obtain ⟨k44, hk44, h⟩ := letkS h
 refine WL.inl (us := [.fn (.func 182) [] []]) (fun rv st' => (k44 () = some r ∧ Le rv (.fn (.func 214) [] [.pt 2 0]) ∧ SLe st' [mpO (fun x : Int => Value.int .u8 x) (fun x : AV => x) [fe 1 214 1], rF 209 181, rF 209 182])) q q q q q ?_ (Zw q) q q ?_
 refine ctr_intro Tryz.func180 (by kernel_rfl) q q q (fun mm φφ ww hm43 => ?_)
 exact Zr (WL.s ((b_box q q).does) (Zw q) q q (Za q q (Zn (Zr (Zq (y_makeFunc q q) q (Za q q (Zn (wc_ret (we_ret (rs1 q (rv_t q)) ⟨h, Zl, ⟨q, Zp, Zp, Zt⟩⟩)))))))))
 rintro rv st1 ⟨h, hr, hst⟩
 subst hk44
 dsimp only at h
 refine WL.cast 3 q hr (WL.weak hst (WL.s0 (d_mapUpdate (fun x : Int => Value.int .u8 x) (fun x : AV => x) [fe 1 214 1] (u := .fn (.func 214) [] [.pt 2 0]) (.inl q) Tryz.underlying237 Tryz.underlying146 (KeyF.int .u8) q q q q) (Zw q) q ?_))
 obtain ⟨k46, hk46, h⟩ := letkS h
 refine WL.inl (us := [.fn (.func 183) [] []]) (fun rv st' => (k46 () = some r ∧ Le rv (.fn (.func 214) [] [.pt 3 0]) ∧ SLe st' [mpO (fun x : Int => Value.int .u8 x) (fun x : AV => x) [fe 1 214 1, fe 2 214 2], rF 209 181, rF 209 182, rF 209 183])) q q q q q ?_ (Zw q) q q ?_
 refine ctr_intro Tryz.func180 (by kernel_rfl) q q q (fun mm φφ ww hm45 => ?_)
 exact Zr (WL.s ((b_box q q).does) (Zw q) q q (Za q q (Zn (Zr (Zq (y_makeFunc q q) q (Za q q (Zn (wc_ret (we_ret (rs1 q (rv_t q)) ⟨h, Zl, ⟨q, Zp, Zp, Zp, Zt⟩⟩)))))))))
 rintro rv st1 ⟨h, hr, hst⟩
 subst hk46
 dsimp only at h
 refine WL.cast 4 q hr (WL.weak hst (WL.s0 (d_mapUpdate (fun x : Int => Value.int .u8 x) (fun x : AV => x) [fe 1 214 1, fe 2 214 2] (u := .fn (.func 214) [] [.pt 3 0]) (.inl q) Tryz.underlying237 Tryz.underlying146 (KeyF.int .u8) q q q q) (Zw q) q ?_))
 obtain ⟨k48, hk48, h⟩ := letkS h
 refine WL.inl (us := [.fn (.func 185) [] []]) (fun rv st' => (k48 () = some r ∧ Le rv (.fn (.func 215) [] [.pt 4 0]) ∧ SLe st' [mpO (fun x : Int => Value.int .u8 x) (fun x : AV => x) [fe 1 214 1, fe 2 214 2, fe 3 214 3], rF 209 181, rF 209 182, rF 209 183, rF 209 185])) q q q q q ?_ (Zw q) q q ?_
 refine ctr_intro Tryz.func184 (by kernel_rfl) q q q (fun mm φφ ww hm47 => ?_)
 exact Zr (WL.s ((b_box q q).does) (Zw q) q q (Za q q (Zn (Zr (Zq (y_makeFunc q q) q (Za q q (Zn (wc_ret (we_ret (rs1 q (rv_t q)) ⟨h, Zl, ⟨q, Zp, Zp, Zp, Zp, Zt⟩⟩)))))))))
 rintro rv st1 ⟨h, hr, hst⟩
 subst hk48
 dsimp only at h
 refine WL.cast 5 q hr (WL.weak hst (WL.s0 (d_mapUpdate (fun x : Int => Value.int .u8 x) (fun x : AV => x) [fe 1 214 1, fe 2 214 2, fe 3 214 3] (u := .fn (.func 215) [] [.pt 4 0]) (.inl q) Tryz.underlying237 Tryz.underlying146 (KeyF.int .u8) q q q q) (Zw q) q ?_))
 obtain ⟨k50, hk50, h⟩ := letkS h
 refine WL.inl (us := [.fn (.func 186) [] []]) (fun rv st' => (k50 () = some r ∧ Le rv (.fn (.func 215) [] [.pt 5 0]) ∧ SLe st' [mpO (fun x : Int => Value.int .u8 x) (fun x : AV => x) [fe 1 214 1, fe 2 214 2, fe 3 214 3, fe 4 215 4], rF 209 181, rF 209 182, rF 209 183, rF 209 185, rF 209 186])) q q q q q ?_ (Zw q) q q ?_
 refine ctr_intro Tryz.func184 (by kernel_rfl) q q q (fun mm φφ ww hm49 => ?_)
 exact Zr (WL.s ((b_box q q).does) (Zw q) q q (Za q q (Zn (Zr (Zq (y_makeFunc q q) q (Za q q (Zn (wc_ret (we_ret (rs1 q (rv_t q)) ⟨h, Zl, ⟨q, Zp, Zp, Zp, Zp, Zp, Zt⟩⟩)))))))))
 rintro rv st1 ⟨h, hr, hst⟩
 subst hk50
 dsimp only at h
 refine WL.cast 6 q hr (WL.weak hst (WL.s0 (d_mapUpdate (fun x : Int => Value.int .u8 x) (fun x : AV => x) [fe 1 214 1, fe 2 214 2, fe 3 214 3, fe 4 215 4] (u := .fn (.func 215) [] [.pt 5 0]) (.inl q) Tryz.underlying237 Tryz.underlying146 (KeyF.int .u8) q q q q) (Zw q) q ?_))
 obtain ⟨k52, hk52, h⟩ := letkS h
 refine WL.inl (us := [.fn (.func 187) [] []]) (fun rv st' => (k52 () = some r ∧ Le rv (.fn (.func 215) [] [.pt 6 0]) ∧ SLe st' [mpO (fun x : Int => Value.int .u8 x) (fun x : AV => x) [fe 1 214 1, fe 2 214 2, fe 3 214 3, fe 4 215 4, fe 5 215 5], rF 209 181, rF 209 182, rF 209 183, rF 209 185, rF 209 186, rF 209 187])) q q q q q ?_ (Zw q) q q ?_
 refine ctr_intro Tryz.func184 (by kernel_rfl) q q q (fun mm φφ ww hm51 => ?_)
 exact Zr (WL.s ((b_box q q).does) (Zw q) q q (Za q q (Zn (Zr (Zq (y_makeFunc q q) q (Za q q (Zn (wc_ret (we_ret (rs1 q (rv_t q)) ⟨h, Zl, ⟨q, Zp, Zp, Zp, Zp, Zp, Zp, Zt⟩⟩)))))))))
 rintro rv st1 ⟨h, hr, hst⟩
 subst hk52
 dsimp only at h
 refine WL.cast 7 q hr (WL.weak hst (WL.s0 (d_mapUpdate (fun x : Int => Value.int .u8 x) (fun x : AV => x) [fe 1 214 1, fe 2 214 2, fe 3 214 3, fe 4 215 4, fe 5 215 5] (u := .fn (.func 215) [] [.pt 6 0]) (.inl q) Tryz.underlying237 Tryz.underlying146 (KeyF.int .u8) q q q q) (Zw q) q ?_))
 obtain ⟨k54, hk54, h⟩ := letkS h
 refine WL.inl (us := [.fn (.func 189) [] []]) (fun rv st' => (k54 () = some r ∧ Le rv (.fn (.func 216) [] [.pt 7 0]) ∧ SLe st' [mpO (fun x : Int => Value.int .u8 x) (fun x : AV => x) [fe 1 214 1, fe 2 214 2, fe 3 214 3, fe 4 215 4, fe 5 215 5, fe 6 215 6], rF 209 181, rF 209 182, rF 209 183, rF 209 185, rF 209 186, rF 209 187, rF 195 189])) q q q q q ?_ (Zw q) q q ?_
 refine ctr_intro Tryz.func188 (by kernel_rfl) q q q (fun mm φφ ww hm53 => ?_)
 exact Zr (WL.s ((b_box q q).does) (Zw q) q q (Za q q (Zn (Zr (Zq (y_makeFunc q q) q (Za q q (Zn (wc_ret (we_ret (rs1 q (rv_t q)) ⟨h, Zl, ⟨q, Zp, Zp, Zp, Zp, Zp, Zp, Zp, Zt⟩⟩)))))))))
 rintro rv st1 ⟨h, hr, hst⟩
 subst hk54
 dsimp only at h
 refine WL.cast 8 q hr (WL.weak hst (WL.s0 (d_mapUpdate (fun x : Int => Value.int .u8 x) (fun x : AV => x) [fe 1 214 1, fe 2 214 2, fe 3 214 3, fe 4 215 4, fe 5 215 5, fe 6 215 6] (u := .fn (.func 216) [] [.pt 7 0]) (.inl q) Tryz.underlying237 Tryz.underlying146 (KeyF.int .u8) q q q q) (Zw q) q ?_))
 obtain ⟨k56, hk56, h⟩ := letkS h
 refine WL.inl (us := [.fn (.func 190) [] []]) (fun rv st' => (k56 () = some r ∧ Le rv (.fn (.func 216) [] [.pt 8 0]) ∧ SLe st' [mpO (fun x : Int => Value.int .u8 x) (fun x : AV => x) [fe 1 214 1, fe 2 214 2, fe 3 214 3, fe 4 215 4, fe 5 215 5, fe 6 215 6, fe 7 216 7], rF 209 181, rF 209 182, rF 209 183, rF 209 185, rF 209 186, rF 209 187, rF 195 189, rF 195 190])) q q q q q ?_ (Zw q) q q ?_
 refine ctr_intro Tryz.func188 (by kernel_rfl) q q q (fun mm φφ ww hm55 => ?_)
 exact Zr (WL.s ((b_box q q).does) (Zw q) q q (Za q q (Zn (Zr (Zq (y_makeFunc q q) q (Za q q (Zn (wc_ret (we_ret (rs1 q (rv_t q)) ⟨h, Zl, ⟨q, Zp, Zp, Zp, Zp, Zp, Zp, Zp, Zp, Zt⟩⟩)))))))))
 rintro rv st1 ⟨h, hr, hst⟩
 subst hk56
 dsimp only at h
 refine WL.cast 9 q hr (WL.weak hst (WL.s0 (d_mapUpdate (fun x : Int => Value.int .u8 x) (fun x : AV => x) [fe 1 214 1, fe 2 214 2, fe 3 214 3, fe 4 215 4, fe 5 215 5, fe 6 215 6, fe 7 216 7] (u := .fn (.func 216) [] [.pt 8 0]) (.inl q) Tryz.underlying237 Tryz.underlying146 (KeyF.int .u8) q q q q) (Zw q) q ?_))
 obtain ⟨k58, hk58, h⟩ := letkS h
 refine WL.inl (us := [.fn (.func 191) [] []]) (fun rv st' => (k58 () = some r ∧ Le rv (.fn (.func 216) [] [.pt 9 0]) ∧ SLe st' [mpO (fun x : Int => Value.int .u8 x) (fun x : AV => x) [fe 1 214 1, fe 2 214 2, fe 3 214 3, fe 4 215 4, fe 5 215 5, fe 6 215 6, fe 7 216 7, fe 8 216 8], rF 209 181, rF 209 182, rF 209 183, rF 209 185, rF 209 186, rF 209 187, rF 195 189, rF 195 190, rF 195 191])) q q q q q ?_ (Zw q) q q ?_
 refine ctr_intro Tryz.func188 (by kernel_rfl) q q q (fun mm φφ ww hm57 => ?_)
 exact Zr (WL.s ((b_box q q).does) (Zw q) q q (Za q q (Zn (Zr (Zq (y_makeFunc q q) q (Za q q (Zn (wc_ret (we_ret (rs1 q (rv_t q)) ⟨h, Zl, ⟨q, Zp, Zp, Zp, Zp, Zp, Zp, Zp, Zp, Zp, Zt⟩⟩)))))))))
 rintro rv st1 ⟨h, hr, hst⟩
 subst hk58
 dsimp only at h
 refine WL.cast 10 q hr (WL.weak hst (WL.s0 (d_mapUpdate (fun x : Int => Value.int .u8 x) (fun x : AV => x) [fe 1 214 1, fe 2 214 2, fe 3 214 3, fe 4 215 4, fe 5 215 5, fe 6 215 6, fe 7 216 7, fe 8 216 8] (u := .fn (.func 216) [] [.pt 9 0]) (.inl q) Tryz.underlying237 Tryz.underlying146 (KeyF.int .u8) q q q q) (Zw q) q ?_))
 obtain ⟨k60, hk60, h⟩ := letkS h
 refine WL.inl (us := [.fn (.func 192) [] []]) (fun rv st' => (k60 () = some r ∧ Le rv (.fn (.func 216) [] [.pt 10 0]) ∧ SLe st' [mpO (fun x : Int => Value.int .u8 x) (fun x : AV => x) [fe 1 214 1, fe 2 214 2, fe 3 214 3, fe 4 215 4, fe 5 215 5, fe 6 215 6, fe 7 216 7, fe 8 216 8, fe 9 216 9], rF 209 181, rF 209 182, rF 209 183, rF 209 185, rF 209 186, rF 209 187, rF 195 189, rF 195 190, rF 195 191, rF 195 192])) q q q q q ?_ (Zw q) q q ?_
 refine ctr_intro Tryz.func188 (by kernel_rfl) q q q (fun mm φφ ww hm59 => ?_)
 exact Zr (WL.s ((b_box q q).does) (Zw q) q q (Za q q (Zn (Zr (Zq (y_makeFunc q q) q (Za q q (Zn (wc_ret (we_ret (rs1 q (rv_t q)) ⟨h, Zl, ⟨q, Zp, Zp, Zp, Zp, Zp, Zp, Zp, Zp, Zp, Zp, Zt⟩⟩)))))))))
 rintro rv st1 ⟨h, hr, hst⟩
 subst hk60
 dsimp only at h
 refine WL.cast 11 q hr (WL.weak hst (WL.s0 (d_mapUpdate (fun x : Int => Value.int .u8 x) (fun x : AV => x) [fe 1 214 1, fe 2 214 2, fe 3 214 3, fe 4 215 4, fe 5 215 5, fe 6 215 6, fe 7 216 7, fe 8 216 8, fe 9 216 9] (u := .fn (.func 216) [] [.pt 10 0]) (.inl q) Tryz.underlying237 Tryz.underlying146 (KeyF.int .u8) q q q q) (Zw q) q ?_))
 obtain ⟨k62, hk62, h⟩ := letkS h
 refine WL.inl (us := [.fn (.func 193) [] []]) (fun rv st' => (k62 () = some r ∧ Le rv (.fn (.func 216) [] [.pt 11 0]) ∧ SLe st' [mpO (fun x : Int => Value.int .u8 x) (fun x : AV => x) [fe 1 214 1, fe 2 214 2, fe 3 214 3, fe 4 215 4, fe 5 215 5, fe 6 215 6, fe 7 216 7, fe 8 216 8, fe 9 216 9, fe 10 216 10], rF 209 181, rF 209 182, rF 209 183, rF 209 185, rF 209 186, rF 209 187, rF 195 189, rF 195 190, rF 195 191, rF 195 192, rF 195 193])) q q q q q ?_ (Zw q) q q ?_
 refine ctr_intro Tryz.func188 (by kernel_rfl) q q q (fun mm φφ ww hm61 => ?_)
 exact Zr (WL.s ((b_box q q).does) (Zw q) q q (Za q q (Zn (Zr (Zq (y_makeFunc q q) q (Za q q (Zn (wc_ret (we_ret (rs1 q (rv_t q)) ⟨h, Zl, ⟨q, Zp, Zp, Zp, Zp, Zp, Zp, Zp, Zp, Zp, Zp, Zp, Zt⟩⟩)))))))))
 rintro rv st1 ⟨h, hr, hst⟩
 subst hk62
 dsimp only at h
 refine WL.cast 12 q hr (WL.weak hst (WL.s0 (d_mapUpdate (fun x : Int => Value.int .u8 x) (fun x : AV => x) [fe 1 214 1, fe 2 214 2, fe 3 214 3, fe 4 215 4, fe 5 215 5, fe 6 215 6, fe 7 216 7, fe 8 216 8, fe 9 216 9, fe 10 216 10] (u := .fn (.func 216) [] [.pt 11 0]) (.inl q) Tryz.underlying237 Tryz.underlying146 (KeyF.int .u8) q q q q) (Zw q) q ?_))
 obtain ⟨k64, hk64, h⟩ := letkS h
 refine WL.inl (us := [.fn (.func 194) [] []]) (fun rv st' => (k64 () = some r ∧ Le rv (.fn (.func 216) [] [.pt 12 0]) ∧ SLe st' [mpO (fun x : Int => Value.int .u8 x) (fun x : AV => x) [fe 1 214 1, fe 2 214 2, fe 3 214 3, fe 4 215 4, fe 5 215 5, fe 6 215 6, fe 7 216 7, fe 8 216 8, fe 9 216 9, fe 10 216 10, fe 11 216 11], rF 209 181, rF 209 182, rF 209 183, rF 209 185, rF 209 186, rF 209 187, rF 195 189, rF 195 190, rF 195 191, rF 195 192, rF 195 193, rF 195 194])) q q q q q ?_ (Zw q) q q ?_
 refine ctr_intro Tryz.func188 (by kernel_rfl) q q q (fun mm φφ ww hm63 => ?_)
 exact Zr (WL.s ((b_box q q).does) (Zw q) q q (Za q q (Zn (Zr (Zq (y_makeFunc q q) q (Za q q (Zn (wc_ret (we_ret (rs1 q (rv_t q)) ⟨h, Zl, ⟨q, Zp, Zp, Zp, Zp, Zp, Zp, Zp, Zp, Zp, Zp, Zp, Zp, Zt⟩⟩)))))))))
 rintro rv st1 ⟨h, hr, hst⟩
 subst hk64
 dsimp only at h
 refine WL.cast 13 q hr (WL.weak hst (WL.s0 (d_mapUpdate (fun x : Int => Value.int .u8 x) (fun x : AV => x) [fe 1 214 1, fe 2 214 2, fe 3 214 3, fe 4 215 4, fe 5 215 5, fe 6 215 6, fe 7 216 7, fe 8 216 8, fe 9 216 9, fe 10 216 10, fe 11 216 11] (u := .fn (.func 216) [] [.pt 12 0]) (.inl q) Tryz.underlying237 Tryz.underlying146 (KeyF.int .u8) q q q q) (Zw q) q ?_))
 obtain ⟨k66, hk66, h⟩ := letkS h
 refine WL.inl (us := [.fn (.func 195) [] []]) (fun rv st' => (k66 () = some r ∧ Le rv (.fn (.func 214) [] [.pt 13 0]) ∧ SLe st' [mpO (fun x : Int => Value.int .u8 x) (fun x : AV => x) [fe 1 214 1, fe 2 214 2, fe 3 214 3, fe 4 215 4, fe 5 215 5, fe 6 215 6, fe 7 216 7, fe 8 216 8, fe 9 216 9, fe 10 216 10, fe 11 216 11, fe 12 216 12], rF 209 181, rF 209 182, rF 209 183, rF 209 185, rF 209 186, rF 209 187, rF 195 189, rF 195 190, rF 195 191, rF 195 192, rF 195 193, rF 195 194, rF 209 195])) q q q q q ?_ (Zw q) q q ?_
 refine ctr_intro Tryz.func180 (by kernel_rfl) q q q (fun mm φφ ww hm65 => ?_)
 exact Zr (WL.s ((b_box q q).does) (Zw q) q q (Za q q (Zn (Zr (Zq (y_makeFunc q q) q (Za q q (Zn (wc_ret (we_ret (rs1 q (rv_t q)) ⟨h, Zl, ⟨q, Zp, Zp, Zp, Zp, Zp, Zp, Zp, Zp, Zp, Zp, Zp, Zp, Zp, Zt⟩⟩)))))))))
 rintro rv st1 ⟨h, hr, hst⟩
 subst hk66
 dsimp only at h
 refine WL.cast 14 q hr (WL.weak hst (WL.s0 (d_mapUpdate (fun x : Int => Value.int .u8 x) (fun x : AV => x) [fe 1 214 1, fe 2 214 2, fe 3 214 3, fe 4 215 4, fe 5 215 5, fe 6 215 6, fe 7 216 7, fe 8 216 8, fe 9 216 9, fe 10 216 10, fe 11 216 11, fe 12 216 12] (u := .fn (.func 214) [] [.pt 13 0]) (.inl q) Tryz.underlying237 Tryz.underlying146 (KeyF.int .u8) q q q q) (Zw q) q ?_))
 obtain ⟨k68, hk68, h⟩ := letkS h
 refine WL.inl (us := [.fn (.func 196) [] []]) (fun rv st' => (k68 () = some r ∧ Le rv (.fn (.func 214) [] [.pt 14 0]) ∧ SLe st' [mpO (fun x : Int => Value.int .u8 x) (fun x : AV => x) [fe 1 214 1, fe 2 214 2, fe 3 214 3, fe 4 215 4, fe 5 215 5, fe 6 215 6, fe 7 216 7, fe 8 216 8, fe 9 216 9, fe 10 216 10, fe 11 216 11, fe 12 216 12, fe 13 214 13], rF 209 181, rF 209 182, rF 209 183, rF 209 185, rF 209 186, rF 209 187, rF 195 189, rF 195 190, rF 195 191, rF 195 192, rF 195 193, rF 195 194, rF 209 195, rF 209 196])) q q q q q ?_ (Zw q) q q ?_
 refine ctr_intro Tryz.func180 (by kernel_rfl) q q q (fun mm φφ ww hm67 => ?_)
 exact Zr (WL.s ((b_box q q).does) (Zw q) q q (Za q q (Zn (Zr (Zq (y_makeFunc q q) q (Za q q (Zn (wc_ret (we_ret (rs1 q (rv_t q)) ⟨h, Zl, ⟨q, Zp, Zp, Zp, Zp, Zp, Zp, Zp, Zp, Zp, Zp, Zp, Zp, Zp, Zp, Zt⟩⟩)))))))))
 rintro rv st1 ⟨h, hr, hst⟩
 subst hk68
 dsimp only at h
 refine WL.cast 15 q hr (WL.weak hst (WL.s0 (d_mapUpdate (fun x : Int => Value.int .u8 x) (fun x : AV => x) [fe 1 214 1, fe 2 214 2, fe 3 214 3, fe 4 215 4, fe 5 215 5, fe 6 215 6, fe 7 216 7, fe 8 216 8, fe 9 216 9, fe 10 216 10, fe 11 216 11, fe 12 216 12, fe 13 214 13] (u := .fn (.func 214) [] [.pt 14 0]) (.inl q) Tryz.underlying237 Tryz.underlying146 (KeyF.int .u8) q q q q) (Zw q) q ?_))
 obtain ⟨k70, hk70, h⟩ := letkS h
 refine WL.inl (us := [.fn (.func 197) [] []]) (fun rv st' => (k70 () = some r ∧ Le rv (.fn (.func 214) [] [.pt 15 0]) ∧ SLe st' [mpO (fun x : Int => Value.int .u8 x) (fun x : AV => x) [fe 1 214 1, fe 2 214 2, fe 3 214 3, fe 4 215 4, fe 5 215 5, fe 6 215 6, fe 7 216 7, fe 8 216 8, fe 9 216 9, fe 10 216 10, fe 11 216 11, fe 12 216 12, fe 13 214 13, fe 14 214 14], rF 209 181, rF 209 182, rF 209 183, rF 209 185, rF 209 186, rF 209 187, rF 195 189, rF 195 190, rF 195 191, rF 195 192, rF 195 193, rF 195 194, rF 209 195, rF 209 196, rF 209 197])) q q q q q ?_ (Zw q) q q ?_
 refine ctr_intro Tryz.func180 (by kernel_rfl) q q q (fun mm φφ ww hm69 => ?_)
 exact Zr (WL.s ((b_box q q).does) (Zw q) q q (Za q q (Zn (Zr (Zq (y_makeFunc q q) q (Za q q (Zn (wc_ret (we_ret (rs1 q (rv_t q)) ⟨h, Zl, ⟨q, Zp, Zp, Zp, Zp, Zp, Zp, Zp, Zp, Zp, Zp, Zp, Zp, Zp, Zp, Zp, Zt⟩⟩)))))))))
 rintro rv st1 ⟨h, hr, hst⟩
 subst hk70
 dsimp only at h
 refine WL.cast 16 q hr (WL.weak hst (WL.s0 (d_mapUpdate (fun x : Int => Value.int .u8 x) (fun x : AV => x) [fe 1 214 1, fe 2 214 2, fe 3 214 3, fe 4 215 4, fe 5 215 5, fe 6 215 6, fe 7 216 7, fe 8 216 8, fe 9 216 9, fe 10 216 10, fe 11 216 11, fe 12 216 12, fe 13 214 13, fe 14 214 14] (u := .fn (.func 214) [] [.pt 15 0]) (.inl q) Tryz.underlying237 Tryz.underlying146 (KeyF.int .u8) q q q q) (Zw q) q ?_))
 obtain ⟨k72, hk72, h⟩ := letkS h
 refine WL.inl (us := [.fn (.func 198) [] []]) (fun rv st' => (k72 () = some r ∧ Le rv (.fn (.func 214) [] [.pt 16 0]) ∧ SLe st' [mpO (fun x : Int => Value.int .u8 x) (fun x : AV => x) [fe 1 214 1, fe 2 214 2, fe 3 214 3, fe 4 215 4, fe 5 215 5, fe 6 215 6, fe 7 216 7, fe 8 216 8, fe 9 216 9, fe 10 216 10, fe 11 216 11, fe 12 216 12, fe 13 214 13, fe 14 214 14, fe 15 214 15], rF 209 181, rF 209 182, rF 209 183, rF 209 185, rF 209 186, rF 209 187, rF 195 189, rF 195 190, rF 195 191, rF 195 192, rF 195 193, rF 195 194, rF 209 195, rF 209 196, rF 209 197, rF 209 198])) q q q q q ?_ (Zw q) q q ?_
 refine ctr_intro Tryz.func180 (by kernel_rfl) q q q (fun mm φφ ww hm71 => ?_)
 exact Zr (WL.s ((b_box q q).does) (Zw q) q q (Za q q (Zn (Zr (Zq (y_makeFunc q q) q (Za q q (Zn (wc_ret (we_ret (rs1 q (rv_t q)) ⟨h, Zl, ⟨q, Zp, Zp, Zp, Zp, Zp, Zp, Zp, Zp, Zp, Zp, Zp, Zp, Zp, Zp, Zp, Zp, Zt⟩⟩)))))))))
 rintro rv st1 ⟨h, hr, hst⟩
 subst hk72
 dsimp only at h
 refine WL.cast 17 q hr (WL.weak hst (WL.s0 (d_mapUpdate (fun x : Int => Value.int .u8 x) (fun x : AV => x) [fe 1 214 1, fe 2 214 2, fe 3 214 3, fe 4 215 4, fe 5 215 5, fe 6 215 6, fe 7 216 7, fe 8 216 8, fe 9 216 9, fe 10 216 10, fe 11 216 11, fe 12 216 12, fe 13 214 13, fe 14 214 14, fe 15 214 15] (u := .fn (.func 214) [] [.pt 16 0]) (.inl q) Tryz.underlying237 Tryz.underlying146 (KeyF.int .u8) q q q q) (Zw q) q ?_))
 obtain ⟨k74, hk74, h⟩ := letkS h
 refine WL.inl (us := [.fn (.func 199) [] []]) (fun rv st' => (k74 () = some r ∧ Le rv (.fn (.func 214) [] [.pt 17 0]) ∧ SLe st' [mpO (fun x : Int => Value.int .u8 x) (fun x : AV => x) [fe 1 214 1, fe 2 214 2, fe 3 214 3, fe 4 215 4, fe 5 215 5, fe 6 215 6, fe 7 216 7, fe 8 216 8, fe 9 216 9, fe 10 216 10, fe 11 216 11, fe 12 216 12, fe 13 214 13, fe 14 214 14, fe 15 214 15, fe 16 214 16], rF 209 181, rF 209 182, rF 209 183, rF 209 185, rF 209 186, rF 209 187, rF 195 189, rF 195 190, rF 195 191, rF 195 192, rF 195 193, rF 195 194, rF 209 195, rF 209 196, rF 209 197, rF 209 198, rF 209 199])) q q q q q ?_ (Zw q) q q ?_
 refine ctr_intro Tryz.func180 (by kernel_rfl) q q q (fun mm φφ ww hm73 => ?_)
 exact Zr (WL.s ((b_box q q).does) (Zw q) q q (Za q q (Zn (Zr (Zq (y_makeFunc q q) q (Za q q (Zn (wc_ret (we_ret (rs1 q (rv_t q)) ⟨h, Zl, ⟨q, Zp, Zp, Zp, Zp, Zp, Zp, Zp, Zp, Zp, Zp, Zp, Zp, Zp, Zp, Zp, Zp, Zp, Zt⟩⟩)))))))))
 rintro rv st1 ⟨h, hr, hst⟩
 subst hk74
 dsimp only at h
 refine WL.cast 18 q hr (WL.weak hst (WL.s0 (d_mapUpdate (fun x : Int => Value.int .u8 x) (fun x : AV => x) [fe 1 214 1, fe 2 214 2, fe 3 214 3, fe 4 215 4, fe 5 215 5, fe 6 215 6, fe 7 216 7, fe 8 216 8, fe 9 216 9, fe 10 216 10, fe 11 216 11, fe 12 216 12, fe 13 214 13, fe 14 214 14, fe 15 214 15, fe 16 214 16] (u := .fn (.func 214) [] [.pt 17 0]) (.inl q) Tryz.underlying237 Tryz.underlying146 (KeyF.int .u8) q q q q) (Zw q) q ?_))
 obtain ⟨k76, hk76, h⟩ := letkS h
 refine WL.inl (us := [.fn (.func 200) [] []]) (fun rv st' => (k76 () = some r ∧ Le rv (.fn (.func 214) [] [.pt 18 0]) ∧ SLe st' [mpO (fun x : Int => Value.int .u8 x) (fun x : AV => x) [fe 1 214 1, fe 2 214 2, fe 3 214 3, fe 4 215 4, fe 5 215 5, fe 6 215 6, fe 7 216 7, fe 8 216 8, fe 9 216 9, fe 10 216 10, fe 11 216 11, fe 12 216 12, fe 13 214 13, fe 14 214 14, fe 15 214 15, fe 16 214 16, fe 17 214 17], rF 209 181, rF 209 182, rF 209 183, rF 209 185, rF 209 186, rF 209 187, rF 195 189, rF 195 190, rF 195 191, rF 195 192, rF 195 193, rF 195 194, rF 209 195, rF 209 196, rF 209 197, rF 209 198, rF 209 199, rF 209 200])) q q q q q ?_ (Zw q) q q ?_
 refine ctr_intro Tryz.func180 (by kernel_rfl) q q q (fun mm φφ ww hm75 => ?_)
 exact Zr (WL.s ((b_box q q).does) (Zw q) q q (Za q q (Zn (Zr (Zq (y_makeFunc q q) q (Za q q (Zn (wc_ret (we_ret (rs1 q (rv_t q)) ⟨h, Zl, ⟨q, Zp, Zp, Zp, Zp, Zp, Zp, Zp, Zp, Zp, Zp, Zp, Zp, Zp, Zp, Zp, Zp, Zp, Zp, Zt⟩⟩)))))))))
 rintro rv st1 ⟨h, hr, hst⟩
 subst hk76
 dsimp only at h
 exact WL.cast 19 q hr (WL.weak hst (WL.s0 (d_mapUpdate (fun x : Int => Value.int .u8 x) (fun x : AV => x) [fe 1 214 1, fe 2 214 2, fe 3 214 3, fe 4 215 4, fe 5 215 5, fe 6 215 6, fe 7 216 7, fe 8 216 8, fe 9 216 9, fe 10 216 10, fe 11 216 11, fe 12 216 12, fe 13 214 13, fe 14 214 14, fe 15 214 15, fe 16 214 16, fe 17 214 17] (u := .fn (.func 214) [] [.pt 18 0]) (.inl q) Tryz.underlying237 Tryz.underlying146 (KeyF.int .u8) q q q q) (Zw q) q (Zm q q (Za q q (Zn (wc_ret (we_ret (rs1 q (rv_t q)) ⟨h, Zl, ⟨q, Zp, Zp, Zp, Zp, Zp, Zp, Zp, Zp, Zp, Zp, Zp, Zp, Zp, Zp, Zp, Zp, Zp, Zp, Zt⟩⟩)))))))
 rintro rv st1 ⟨h, hr, hst⟩
 subst hk40
 dsimp only at h
 refine WL.cast 22 q hr (WL.weak hst ?_)
 rcases condCases h with ⟨hk77, h⟩ | ⟨hn78, h⟩
 refine Zm q q (Zq (y_lookupok (fun x : Int => Value.int .u8 x) (fun x : AV => x) [fe 1 214 1, fe 2 214 2, fe 3 214 3, fe 4 215 4, fe 5 215 5, fe 6 215 6, fe 7 216 7, fe 8 216 8, fe 9 216 9, fe 10 216 10, fe 11 216 11, fe 12 216 12, fe 13 214 13, fe 14 214 14, fe 15 214 15, fe 16 214 16, fe 17 214 17, fe 18 214 18] (k := op0) (z := .d (.v .nilFunc)) Tryz.underlying237 Tryz.underlying146 (KeyF.int .u8) q q q (by kernel_rfl) q (by rw [hk77] <;> rfl) (by rw [hk77] <;> rfl)) q (Zm q q (Zq (y_extract q q) q (Zq (y_extract q q) q (Za q q (Za q q (Zn (wc_seq (Zr (Zm q q (Zq (y_not q) q (Zn (wc_false q (wc_skip (we_seq (wc_seq ?_))))))))))))))))
 refine WC.weak (st' := [.dead, rF 209 181, .dead, .dead, .dead, .dead, .dead, .dead, .dead, .dead, .dead, .dead, .dead, .dead, .dead, .dead, .dead, .dead, .dead]) ⟨Zt, OLe.refl _, Zt, Zt, Zt, Zt, Zt, Zt, Zt, Zt, Zt, Zt, Zt, Zt, Zt, Zt, Zt, Zt, Zt, Zt⟩ (WC.sub (env' := [(0, .d (D.i .u8 op0)), (1, .n a1), (2, .n b2), (8, .fn (.func 214) [] [.pt 1 0])]) (Sub.one q (Sub.one q (Sub.one q (Sub.one q (Sub.nil _))))) (wc_region (Zm q q (Zm q q (Zm q q ?_)))))
 obtain ⟨k80, hk80, h⟩ := letkS h
 refine WL.inl (us := [.n a1, .n b2, .pt 1 0]) (fun rv st' => (k80 () = some r ∧ Le rv (.tu [.n (f181 a1 b2), .d (D.b true)]) ∧ SLe st' [.dead, rF 209 181, .dead, .dead, .dead, .dead, .dead, .dead, .dead, .dead, .dead, .dead, .dead, .dead, .dead, .dead, .dead, .dead, .dead])) q q q q q ?_ (Zw q) q q ?_
 refine ctr_intro Tryz.func214 (by kernel_rfl) q q q (fun mm φφ ww hm79 => ?_)
 exact Zr (Za q q (Za q q (Zn (Zr (Zq (y_load q q a209 q) q (Zm q q (Zm q q (WL.fn q q q q (f181_c _ _) ⟨Zl, Zl, Zt⟩ (Zw q) q q (Za q q (Za q q (Zn (wc_ret (we_ret (rs2 q (rv_t q) (rv_t q)) ⟨h, (Le.tu ⟨Zl, Zl, Zt⟩), ⟨Zt, Zp, Zt, Zt, Zt, Zt, Zt, Zt, Zt, Zt, Zt, Zt, Zt, Zt, Zt, Zt, Zt, Zt, Zt, Zt⟩⟩)))))))))))))
 rintro rv st1 ⟨h, hr, hst⟩
 subst hk80
 dsimp only at h
 refine WL.cast 32 q hr (WL.weak hst (Zq (y_extract q q) q (Zq (y_extract q q) q (Za q q (Za q q (Zn (wc_ret ?_)))))))
 obtain rfl := Oi h
 exact we_ret_fn (rs2 q (rv_t q) (rv_t q)) (Le.tud ⟨Zl, Zl, Zt⟩)
 rcases condCases h with ⟨hk81, h⟩ | ⟨hn82, h⟩
 refine Zm q q (Zq (y_lookupok (fun x : Int => Value.int .u8 x) (fun x : AV => x) [fe 1 214 1, fe 2 214 2, fe 3 214 3, fe 4 215 4, fe 5 215 5, fe 6 215 6, fe 7 216 7, fe 8 216 8, fe 9 216 9, fe 10 216 10, fe 11 216 11, fe 12 216 12, fe 13 214 13, fe 14 214 14, fe 15 214 15, fe 16 214 16, fe 17 214 17, fe 18 214 18] (k := op0) (z := .d (.v .nilFunc)) Tryz.underlying237 Tryz.underlying146 (KeyF.int .u8) q q q (by kernel_rfl) q (by rw [hk81] <;> rfl) (by rw [hk81] <;> rfl)) q (Zm q q (Zq (y_extract q q) q (Zq (y_extract q q) q (Za q q (Za q q (Zn (wc_seq (Zr (Zm q q (Zq (y_not q) q (Zn (wc_false q (wc_skip (we_seq (wc_seq ?_))))))))))))))))
 refine WC.weak (st' := [.dead, .dead, rF 209 182, .dead, .dead, .dead, .dead, .dead, .dead, .dead, .dead, .dead, .dead, .dead, .dead, .dead, .dead, .dead, .dead]) ⟨Zt, Zt, OLe.refl _, Zt, Zt, Zt, Zt, Zt, Zt, Zt, Zt, Zt, Zt, Zt, Zt, Zt, Zt, Zt, Zt, Zt⟩ (WC.sub (env' := [(0, .d (D.i .u8 op0)), (1, .n a1), (2, .n b2), (8, .fn (.func 214) [] [.pt 2 0])]) (Sub.one q (Sub.one q (Sub.one q (Sub.one q (Sub.nil _))))) (wc_region (Zm q q (Zm q q (Zm q q ?_)))))
 obtain ⟨k84, hk84, h⟩ := letkS h
 refine WL.inl (us := [.n a1, .n b2, .pt 2 0]) (fun rv st' => (k84 () = some r ∧ Le rv (.tu [.n (f182 a1 b2), .d (D.b true)]) ∧ SLe st' [.dead, .dead, rF 209 182, .dead, .dead, .dead, .dead, .dead, .dead, .dead, .dead, .dead, .dead, .dead, .dead, .dead, .dead, .dead, .dead])) q q q q q ?_ (Zw q) q q ?_
 refine ctr_intro Tryz.func214 (by kernel_rfl) q q q (fun mm φφ ww hm83 => ?_)
 exact Zr (Za q q (Za q q (Zn (Zr (Zq (y_load q q a209 q) q (Zm q q (Zm q q (WL.fn q q q q (f182_c _ _) ⟨Zl, Zl, Zt⟩ (Zw q) q q (Za q q (Za q q (Zn (wc_ret (we_ret (rs2 q (rv_t q) (rv_t q)) ⟨h, (Le.tu ⟨Zl, Zl, Zt⟩), ⟨Zt, Zt, Zp, Zt, Zt, Zt, Zt, Zt, Zt, Zt, Zt, Zt, Zt, Zt, Zt, Zt, Zt, Zt, Zt, Zt⟩⟩)))))))))))))
 rintro rv st1 ⟨h, hr, hst⟩
 subst hk84
 dsimp only at h
 refine WL.cast 32 q hr (WL.weak hst (Zq (y_extract q q) q (Zq (y_extract q q) q (Za q q (Za q q (Zn (wc_ret ?_)))))))
 obtain rfl := Oi h
 exact we_ret_fn (rs2 q (rv_t q) (rv_t q)) (Le.tud ⟨Zl, Zl, Zt⟩)
 rcases condCases h with ⟨hk85, h⟩ | ⟨hn86, h⟩
 refine Zm q q (Zq (y_lookupok (fun x : Int => Value.int .u8 x) (fun x : AV => x) [fe 1 214 1, fe 2 214 2, fe 3 214 3, fe 4 215 4, fe 5 215 5, fe 6 215 6, fe 7 216 7, fe 8 216 8, fe 9 216 9, fe 10 216 10, fe 11 216 11, fe 12 216 12, fe 13 214 13, fe 14 214 14, fe 15 214 15, fe 16 214 16, fe 17 214 17, fe 18 214 18] (k := op0) (z := .d (.v .nilFunc)) Tryz.underlying237 Tryz.underlying146 (KeyF.int .u8) q q q (by kernel_rfl) q (by rw [hk85] <;> rfl) (by rw [hk85] <;> rfl)) q (Zm q q (Zq (y_extract q q) q (Zq (y_extract q q) q (Za q q (Za q q (Zn (wc_seq (Zr (Zm q q (Zq (y_not q) q (Zn (wc_false q (wc_skip (we_seq (wc_seq ?_))))))))))))))))
 refine WC.weak (st' := [.dead, .dead, .dead, rF 209 183, .dead, .dead, .dead, .dead, .dead, .dead, .dead, .dead, .dead, .dead, .dead, .dead, .dead, .dead, .dead]) ⟨Zt, Zt, Zt, OLe.refl _, Zt, Zt, Zt, Zt, Zt, Zt, Zt, Zt, Zt, Zt, Zt, Zt, Zt, Zt, Zt, Zt⟩ (WC.sub (env' := [(0, .d (D.i .u8 op0)), (1, .n a1), (2, .n b2), (8, .fn (.func 214) [] [.pt 3 0])]) (Sub.one q (Sub.one q (Sub.one q (Sub.one q (Sub.nil _))))) (wc_region (Zm q q (Zm q q (Zm q q ?_)))))
 obtain ⟨k88, hk88, h⟩ := letkS h
 refine WL.inl (us := [.n a1, .n b2, .pt 3 0]) (fun rv st' => (k88 () = some r ∧ Le rv (.tu [.n (f183 a1 b2), .d (D.b true)]) ∧ SLe st' [.dead, .dead, .dead, rF 209 183, .dead, .dead, .dead, .dead, .dead, .dead, .dead, .dead, .dead, .dead, .dead, .dead, .dead, .dead, .dead])) q q q q q ?_ (Zw q) q q ?_
 refine ctr_intro Tryz.func214 (by kernel_rfl) q q q (fun mm φφ ww hm87 => ?_)
 exact Zr (Za q q (Za q q (Zn (Zr (Zq (y_load q q a209 q) q (Zm q q (Zm q q (WL.fn q q q q (f183_c _ _) ⟨Zl, Zl, Zt⟩ (Zw q) q q (Za q q (Za q q (Zn (wc_ret (we_ret (rs2 q (rv_t q) (rv_t q)) ⟨h, (Le.tu ⟨Zl, Zl, Zt⟩), ⟨Zt, Zt, Zt, Zp, Zt, Zt, Zt, Zt, Zt, Zt, Zt, Zt, Zt, Zt, Zt, Zt, Zt, Zt, Zt, Zt⟩⟩)))))))))))))
 rintro rv st1 ⟨h, hr, hst⟩
 subst hk88
 dsimp only at h
 refine WL.cast 32 q hr (WL.weak hst (Zq (y_extract q q) q (Zq (y_extract q q) q (Za q q (Za q q (Zn (wc_ret ?_)))))))
 obtain rfl := Oi h
 exact we_ret_fn (rs2 q (rv_t q) (rv_t q)) (Le.tud ⟨Zl, Zl, Zt⟩)
 rcases condCases h with ⟨hk89, h⟩ | ⟨hn90, h⟩
 refine Zm q q (Zq (y_lookupok (fun x : Int => Value.int .u8 x) (fun x : AV => x) [fe 1 214 1, fe 2 214 2, fe 3 214 3, fe 4 215 4, fe 5 215 5, fe 6 215 6, fe 7 216 7, fe 8 216 8, fe 9 216 9, fe 10 216 10, fe 11 216 11, fe 12 216 12, fe 13 214 13, fe 14 214 14, fe 15 214 15, fe 16 214 16, fe 17 214 17, fe 18 214 18] (k := op0) (z := .d (.v .nilFunc)) Tryz.underlying237 Tryz.underlying146 (KeyF.int .u8) q q q (by kernel_rfl) q (by rw [hk89] <;> rfl) (by rw [hk89] <;> rfl)) q (Zm q q (Zq (y_extract q q) q (Zq (y_extract q q) q (Za q q (Za q q (Zn (wc_seq (Zr (Zm q q (Zq (y_not q) q (Zn (wc_false q (wc_skip (we_seq (wc_seq ?_))))))))))))))))
 refine WC.weak (st' := [.dead, .dead, .dead, .dead, rF 209 185, .dead, .dead, .dead, .dead, .dead, .dead, .dead, .dead, .dead, .dead, .dead, .dead, .dead, .dead]) ⟨Zt, Zt, Zt, Zt, OLe.refl _, Zt, Zt, Zt, Zt, Zt, Zt, Zt, Zt, Zt, Zt, Zt, Zt, Zt, Zt, Zt⟩ (WC.sub (env' := [(0, .d (D.i .u8 op0)), (1, .n a1), (2, .n b2), (8, .fn (.func 215) [] [.pt 4 0])]) (Sub.one q (Sub.one q (Sub.one q (Sub.one q (Sub.nil _))))) (wc_region (Zm q q (Zm q q (Zm q q ?_)))))
 obtain ⟨k94, hk94, h⟩ := letkS h
 refine WL.inl (us := [.n a1, .n b2, .pt 4 0]) (fun rv st' => (∃ (t92 : Bool), ∃ (t93 : Int), k94 t92 t93 = some r ∧ Le rv (.tu [.n t93, .d (D.b t92)]) ∧ SLe st' [.dead, .dead, .dead, .dead, rF 209 185, .dead, .dead, .dead, .dead, .dead, .dead, .dead, .dead, .dead, .dead, .dead, .dead, .dead, .dead])) q q q q q ?_ (Zw q) q q ?_
 refine ctr_intro Tryz.func215 (by kernel_rfl) q q q (fun mm φφ ww hm91 => ?_)
 refine Zr (Za q q (Za q q (Zn (wc_seq (Zr (Zm q q (Zq (y_eql q q) q (Zn (wc_cond q (fun hc3 => ?_) (fun hc3 => ?_))))))))))
 replace h := condT h hc3
 exact Zr (Za q q (Za q q (Zn (wc_ret (we_seq_ret (we_ret (rs2 q (rv_t q) (rv_t q)) ⟨false, 0, h, (Le.tu ⟨Zl, Zl, Zt⟩), ⟨Zt, Zt, Zt, Zt, Zp, Zt, Zt, Zt, Zt, Zt, Zt, Zt, Zt, Zt, Zt, Zt, Zt, Zt, Zt, Zt⟩⟩))))))
 replace h := condF h hc3
 refine wc_skip (we_seq (Zr (Zq (y_load q q a209 q) q (Zm q q (Zm q q ?_)))))
 obtain ⟨r95, hr95, h⟩ := bindS h
 exact WL.fn q q q q (f185_c _ _ hr95) ⟨Zl, Zl, Zt⟩ (Zw q) q q (Za q q (Za q q (Zn (wc_ret (we_ret (rs2 q (rv_t q) (rv_t q)) ⟨true, r95, h, (Le.tu ⟨Zl, Zl, Zt⟩), ⟨Zt, Zt, Zt, Zt, Zp, Zt, Zt, Zt, Zt, Zt, Zt, Zt, Zt, Zt, Zt, Zt, Zt, Zt, Zt, Zt⟩⟩)))))
 rintro rv st1 ⟨t92, t93, h, hr, hst⟩
 subst hk94
 dsimp only at h
 refine WL.cast 32 q hr (WL.weak hst (Zq (y_extract q q) q (Zq (y_extract q q) q (Za q q (Za q q (Zn (wc_ret ?_)))))))
 obtain rfl := Oi h
 exact we_ret_fn (rs2 q (rv_t q) (rv_t q)) (Le.tud ⟨Zl, Zl, Zt⟩)
 rcases condCases h with ⟨hk96, h⟩ | ⟨hn97, h⟩
 refine Zm q q (Zq (y_lookupok (fun x : Int => Value.int .u8 x) (fun x : AV => x) [fe 1 214 1, fe 2 214 2, fe 3 214 3, fe 4 215 4, fe 5 215 5, fe 6 215 6, fe 7 216 7, fe 8 216 8, fe 9 216 9, fe 10 216 10, fe 11 216 11, fe 12 216 12, fe 13 214 13, fe 14 214 14, fe 15 214 15, fe 16 214 16, fe 17 214 17, fe 18 214 18] (k := op0) (z := .d (.v .nilFunc)) Tryz.underlying237 Tryz.underlying146 (KeyF.int .u8) q q q (by kernel_rfl) q (by rw [hk96] <;> rfl) (by rw [hk96] <;> rfl)) q (Zm q q (Zq (y_extract q q) q (Zq (y_extract q q) q (Za q q (Za q q (Zn (wc_seq (Zr (Zm q q (Zq (y_not q) q (Zn (wc_false q (wc_skip (we_seq (wc_seq ?_))))))))))))))))
 refine WC.weak (st' := [.dead, .dead, .dead, .dead, .dead, rF 209 186, .dead, .dead, .dead, .dead, .dead, .dead, .dead, .dead, .dead, .dead, .dead, .dead, .dead]) ⟨Zt, Zt, Zt, Zt, Zt, OLe.refl _, Zt, Zt, Zt, Zt, Zt, Zt, Zt, Zt, Zt, Zt, Zt, Zt, Zt, Zt⟩ (WC.sub (env' := [(0, .d (D.i .u8 op0)), (1, .n a1), (2, .n b2), (8, .fn (.func 215) [] [.pt 5 0])]) (Sub.one q (Sub.one q (Sub.one q (Sub.one q (Sub.nil _))))) (wc_region (Zm q q (Zm q q (Zm q q ?_)))))
 obtain ⟨k101, hk101, h⟩ := letkS h
 refine WL.inl (us := [.n a1, .n b2, .pt 5 0]) (fun rv st' => (∃ (t99 : Bool), ∃ (t100 : Int), k101 t99 t100 = some r ∧ Le rv (.tu [.n t100, .d (D.b t99)]) ∧ SLe st' [.dead, .dead, .dead, .dead, .dead, rF 209 186, .dead, .dead, .dead, .dead, .dead, .dead, .dead, .dead, .dead, .dead, .dead, .dead, .dead])) q q q q q ?_ (Zw q) q q ?_
 refine ctr_intro Tryz.func215 (by kernel_rfl) q q q (fun mm φφ ww hm98 => ?_)
 refine Zr (Za q q (Za q q (Zn (wc_seq (Zr (Zm q q (Zq (y_eql q q) q (Zn (wc_cond q (fun hc4 => ?_) (fun hc4 => ?_))))))))))
 replace h := condT h hc4
 exact Zr (Za q q (Za q q (Zn (wc_ret (we_seq_ret (we_ret (rs2 q (rv_t q) (rv_t q)) ⟨false, 0, h, (Le.tu ⟨Zl, Zl, Zt⟩), ⟨Zt, Zt, Zt, Zt, Zt, Zp, Zt, Zt, Zt, Zt, Zt, Zt, Zt, Zt, Zt, Zt, Zt, Zt, Zt, Zt⟩⟩))))))
 replace h := condF h hc4
 refine wc_skip (we_seq (Zr (Zq (y_load q q a209 q) q (Zm q q (Zm q q ?_)))))
 obtain ⟨r102, hr102, h⟩ := bindS h
 exact WL.fn q q q q (f186_c _ _ hr102) ⟨Zl, Zl, Zt⟩ (Zw q) q q (Za q q (Za q q (Zn (wc_ret (we_ret (rs2 q (rv_t q) (rv_t q)) ⟨true, r102, h, (Le.tu ⟨Zl, Zl, Zt⟩), ⟨Zt, Zt, Zt, Zt, Zt, Zp, Zt, Zt, Zt, Zt, Zt, Zt, Zt, Zt, Zt, Zt, Zt, Zt, Zt, Zt⟩⟩)))))
 rintro rv st1 ⟨t99, t100, h, hr, hst⟩
 subst hk101
 dsimp only at h
 refine WL.cast 32 q hr (WL.weak hst (Zq (y_extract q q) q (Zq (y_extract q q) q (Za q q (Za q q (Zn (wc_ret ?_)))))))
 obtain rfl := Oi h
 exact we_ret_fn (rs2 q (rv_t q) (rv_t q)) (Le.tud ⟨Zl, Zl, Zt⟩)
 rcases condCases h with ⟨hk103, h⟩ | ⟨hn104, h⟩
 refine Zm q q (Zq (y_lookupok (fun x : Int => Value.int .u8 x) (fun x : AV => x) [fe 1 214 1, fe 2 214 2, fe 3 214 3, fe 4 215 4, fe 5 215 5, fe 6 215 6, fe 7 216 7, fe 8 216 8, fe 9 216 9, fe 10 216 10, fe 11 216 11, fe 12 216 12, fe 13 214 13, fe 14 214 14, fe 15 214 15, fe 16 214 16, fe 17 214 17, fe 18 214 18] (k := op0) (z := .d (.v .nilFunc)) Tryz.underlying237 Tryz.underlying146 (KeyF.int .u8) q q q (by kernel_rfl) q (by rw [hk103] <;> rfl) (by rw [hk103] <;> rfl)) q (Zm q q (Zq (y_extract q q) q (Zq (y_extract q q) q (Za q q (Za q q (Zn (wc_seq (Zr (Zm q q (Zq (y_not q) q (Zn (wc_false q (wc_skip (we_seq (wc_seq ?_))))))))))))))))
 refine WC.weak (st' := [.dead, .dead, .dead, .dead, .dead, .dead, rF 209 187, .dead, .dead, .dead, .dead, .dead, .dead, .dead, .dead, .dead, .dead, .dead, .dead]) ⟨Zt, Zt, Zt, Zt, Zt, Zt, OLe.refl _, Zt, Zt, Zt, Zt, Zt, Zt, Zt, Zt, Zt, Zt, Zt, Zt, Zt⟩ (WC.sub (env' := [(0, .d (D.i .u8 op0)), (1, .n a1), (2, .n b2), (8, .fn (.func 215) [] [.pt 6 0])]) (Sub.one q (Sub.one q (Sub.one q (Sub.one q (Sub.nil _))))) (wc_region (Zm q q (Zm q q (Zm q q ?_)))))
 obtain ⟨k108, hk108, h⟩ := letkS h
 refine WL.inl (us := [.n a1, .n b2, .pt 6 0]) (fun rv st' => (∃ (t106 : Bool), ∃ (t107 : Int), k108 t106 t107 = some r ∧ Le rv (.tu [.n t107, .d (D.b t106)]) ∧ SLe st' [.dead, .dead, .dead, .dead, .dead, .dead, rF 209 187, .dead, .dead, .dead, .dead, .dead, .dead, .dead, .dead, .dead, .dead, .dead, .dead])) q q q q q ?_ (Zw q) q q ?_
 refine ctr_intro Tryz.func215 (by kernel_rfl) q q q (fun mm φφ ww hm105 => ?_)
 refine Zr (Za q q (Za q q (Zn (wc_seq (Zr (Zm q q (Zq (y_eql q q) q (Zn (wc_cond q (fun hc5 => ?_) (fun hc5 => ?_))))))))))
 replace h := condT h hc5
 exact Zr (Za q q (Za q q (Zn (wc_ret (we_seq_ret (we_ret (rs2 q (rv_t q) (rv_t q)) ⟨false, 0, h, (Le.tu ⟨Zl, Zl, Zt⟩), ⟨Zt, Zt, Zt, Zt, Zt, Zt, Zp, Zt, Zt, Zt, Zt, Zt, Zt, Zt, Zt, Zt, Zt, Zt, Zt, Zt⟩⟩))))))
 replace h := condF h hc5
 refine wc_skip (we_seq (Zr (Zq (y_load q q a209 q) q (Zm q q (Zm q q ?_)))))
 obtain ⟨r109, hr109, h⟩ := bindS h
 exact WL.fn q q q q (f187_c _ _ hr109) ⟨Zl, Zl, Zt⟩ (Zw q) q q (Za q q (Za q q (Zn (wc_ret (we_ret (rs2 q (rv_t q) (rv_t q)) ⟨true, r109, h, (Le.tu ⟨Zl, Zl, Zt⟩), ⟨Zt, Zt, Zt, Zt, Zt, Zt, Zp, Zt, Zt, Zt, Zt, Zt, Zt, Zt, Zt, Zt, Zt, Zt, Zt, Zt⟩⟩)))))
 rintro rv st1 ⟨t106, t107, h, hr, hst⟩
 subst hk108
 dsimp only at h
 refine WL.cast 32 q hr (WL.weak hst (Zq (y_extract q q) q (Zq (y_extract q q) q (Za q q (Za q q (Zn (wc_ret ?_)))))))
 obtain rfl := Oi h
 exact we_ret_fn (rs2 q (rv_t q) (rv_t q)) (Le.tud ⟨Zl, Zl, Zt⟩)
 rcases condCases h with ⟨hk110, h⟩ | ⟨hn111, h⟩
 refine Zm q q (Zq (y_lookupok (fun x : Int => Value.int .u8 x) (fun x : AV => x) [fe 1 214 1, fe 2 214 2, fe 3 214 3, fe 4 215 4, fe 5 215 5, fe 6 215 6, fe 7 216 7, fe 8 216 8, fe 9 216 9, fe 10 216 10, fe 11 216 11, fe 12 216 12, fe 13 214 13, fe 14 214 14, fe 15 214 15, fe 16 214 16, fe 17 214 17, fe 18 214 18] (k := op0) (z := .d (.v .nilFunc)) Tryz.underlying237 Tryz.underlying146 (KeyF.int .u8) q q q (by kernel_rfl) q (by rw [hk110] <;> rfl) (by rw [hk110] <;> rfl)) q (Zm q q (Zq (y_extract q q) q (Zq (y_extract q q) q (Za q q (Za q q (Zn (wc_seq (Zr (Zm q q (Zq (y_not q) q (Zn (wc_false q (wc_skip (we_seq (wc_seq ?_))))))))))))))))
 refine WC.weak (st' := [.dead, .dead, .dead, .dead, .dead, .dead, .dead, rF 195 189, .dead, .dead, .dead, .dead, .dead, .dead, .dead, .dead, .dead, .dead, .dead]) ⟨Zt, Zt, Zt, Zt, Zt, Zt, Zt, OLe.refl _, Zt, Zt, Zt, Zt, Zt, Zt, Zt, Zt, Zt, Zt, Zt, Zt⟩ (WC.sub (env' := [(0, .d (D.i .u8 op0)), (1, .n a1), (2, .n b2), (8, .fn (.func 216) [] [.pt 7 0])]) (Sub.one q (Sub.one q (Sub.one q (Sub.one q (Sub.nil _))))) (wc_region (Zm q q (Zm q q (Zm q q ?_)))))
 obtain ⟨k113, hk113, h⟩ := letkS h
 refine WL.inl (us := [.n a1, .n b2, .pt 7 0]) (fun rv st' => (k113 () = some r ∧ Le rv (.tu [.n (f217 (f189 a1 b2)), .d (D.b true)]) ∧ SLe st' [.dead, .dead, .dead, .dead, .dead, .dead, .dead, rF 195 189, .dead, .dead, .dead, .dead, .dead, .dead, .dead, .dead, .dead, .dead, .dead])) q q q q q ?_ (Zw q) q q ?_
 refine ctr_intro Tryz.func216 (by kernel_rfl) q q q (fun mm φφ ww hm112 => ?_)
 exact Zr (Za q q (Za q q (Zn (Zr (Zq (y_load q q a195 q) q (Zm q q (Zm q q (WL.fn q q q q (f189_c _ _) ⟨Zl, Zl, Zt⟩ (Zw q) q q (WL.fn q q q q (f217_c _) ⟨Zl, Zt⟩ (Zw q) q q (Za q q (Za q q (Zn (wc_ret (we_ret (rs2 q (rv_t q) (rv_t q)) ⟨h, (Le.tu ⟨Zl, Zl, Zt⟩), ⟨Zt, Zt, Zt, Zt, Zt, Zt, Zt, Zp, Zt, Zt, Zt, Zt, Zt, Zt, Zt, Zt, Zt, Zt, Zt, Zt⟩⟩))))))))))))))
 rintro rv st1 ⟨h, hr, hst⟩
 subst hk113
 dsimp only at h
 refine WL.cast 32 q hr (WL.weak hst (Zq (y_extract q q) q (Zq (y_extract q q) q (Za q q (Za q q (Zn (wc_ret ?_)))))))
 obtain rfl := Oi h
 exact we_ret_fn (rs2 q (rv_t q) (rv_t q)) (Le.tud ⟨Zl, Zl, Zt⟩)
 rcases condCases h with ⟨hk114, h⟩ | ⟨hn115, h⟩
 refine Zm q q (Zq (y_lookupok (fun x : Int => Value.int .u8 x) (fun x : AV => x) [fe 1 214 1, fe 2 214 2, fe 3 214 3, fe 4 215 4, fe 5 215 5, fe 6 215 6, fe 7 216 7, fe 8 216 8, fe 9 216 9, fe 10 216 10, fe 11 216 11, fe 12 216 12, fe 13 214 13, fe 14 214 14, fe 15 214 15, fe 16 214 16, fe 17 214 17, fe 18 214 18] (k := op0) (z := .d (.v .nilFunc)) Tryz.underlying237 Tryz.underlying146 (KeyF.int .u8) q q q (by kernel_rfl) q (by rw [hk114] <;> rfl) (by rw [hk114] <;> rfl)) q (Zm q q (Zq (y_extract q q) q (Zq (y_extract q q) q (Za q q (Za q q (Zn (wc_seq (Zr (Zm q q (Zq (y_not q) q (Zn (wc_false q (wc_skip (we_seq (wc_seq ?_))))))))))))))))
 refine WC.weak (st' := [.dead, .dead, .dead, .dead, .dead, .dead, .dead, .dead, rF 195 190, .dead, .dead, .dead, .dead, .dead, .dead, .dead, .dead, .dead, .dead]) ⟨Zt, Zt, Zt, Zt, Zt, Zt, Zt, Zt, OLe.refl _, Zt, Zt, Zt, Zt, Zt, Zt, Zt, Zt, Zt, Zt, Zt⟩ (WC.sub (env' := [(0, .d (D.i .u8 op0)), (1, .n a1), (2, .n b2), (8, .fn (.func 216) [] [.pt 8 0])]) (Sub.one q (Sub.one q (Sub.one q (Sub.one q (Sub.nil _))))) (wc_region (Zm q q (Zm q q (Zm q q ?_)))))
 obtain ⟨k117, hk117, h⟩ := letkS h
 refine WL.inl (us := [.n a1, .n b2, .pt 8 0]) (fun rv st' => (k117 () = some r ∧ Le rv (.tu [.n (f217 (f190 a1 b2)), .d (D.b true)]) ∧ SLe st' [.dead, .dead, .dead, .dead, .dead, .dead, .dead, .dead, rF 195 190, .dead, .dead, .dead, .dead, .dead, .dead, .dead, .dead, .dead, .dead])) q q q q q ?_ (Zw q) q q ?_
 refine ctr_intro Tryz.func216 (by kernel_rfl) q q q (fun mm φφ ww hm116 => ?_)
 exact Zr (Za q q (Za q q (Zn (Zr (Zq (y_load q q a195 q) q (Zm q q (Zm q q (WL.fn q q q q (f190_c _ _) ⟨Zl, Zl, Zt⟩ (Zw q) q q (WL.fn q q q q (f217_c _) ⟨Zl, Zt⟩ (Zw q) q q (Za q q (Za q q (Zn (wc_ret (we_ret (rs2 q (rv_t q) (rv_t q)) ⟨h, (Le.tu ⟨Zl, Zl, Zt⟩), ⟨Zt, Zt, Zt, Zt, Zt, Zt, Zt, Zt, Zp, Zt, Zt, Zt, Zt, Zt, Zt, Zt, Zt, Zt, Zt, Zt⟩⟩))))))))))))))
 rintro rv st1 ⟨h, hr, hst⟩
 subst hk117
 dsimp only at h
 refine WL.cast 32 q hr (WL.weak hst (Zq (y_extract q q) q (Zq (y_extract q q) q (Za q q (Za q q (Zn (wc_ret ?_)))))))
 obtain rfl := Oi h
 exact we_ret_fn (rs2 q (rv_t q) (rv_t q)) (Le.tud ⟨Zl, Zl, Zt⟩)
 rcases condCases h with ⟨hk118, h⟩ | ⟨hn119, h⟩
 refine Zm q q (Zq (y_lookupok (fun x : Int => Value.int .u8 x) (fun x : AV => x) [fe 1 214 1, fe 2 214 2, fe 3 214 3, fe 4 215 4, fe 5 215 5, fe 6 215 6, fe 7 216 7, fe 8 216 8, fe 9 216 9, fe 10 216 10, fe 11 216 11, fe 12 216 12, fe 13 214 13, fe 14 214 14, fe 15 214 15, fe 16 214 16, fe 17 214 17, fe 18 214 18] (k := op0) (z := .d (.v .nilFunc)) Tryz.underlying237 Tryz.underlying146 (KeyF.int .u8) q q q (by kernel_rfl) q (by rw [hk118] <;> rfl) (by rw [hk118] <;> rfl)) q (Zm q q (Zq (y_extract q q) q (Zq (y_extract q q) q (Za q q (Za q q (Zn (wc_seq (Zr (Zm q q (Zq (y_not q) q (Zn (wc_false q (wc_skip (we_seq (wc_seq ?_))))))))))))))))
 refine WC.weak (st' := [.dead, .dead, .dead, .dead, .dead, .dead, .dead, .dead, .dead, rF 195 191, .dead, .dead, .dead, .dead, .dead, .dead, .dead, .dead, .dead]) ⟨Zt, Zt, Zt, Zt, Zt, Zt, Zt, Zt, Zt, OLe.refl _, Zt, Zt, Zt, Zt, Zt, Zt, Zt, Zt, Zt, Zt⟩ (WC.sub (env' := [(0, .d (D.i .u8 op0)), (1, .n a1), (2, .n b2), (8, .fn (.func 216) [] [.pt 9 0])]) (Sub.one q (Sub.one q (Sub.one q (Sub.one q (Sub.nil _))))) (wc_region (Zm q q (Zm q q (Zm q q ?_)))))
 obtain ⟨k121, hk121, h⟩ := letkS h
 refine WL.inl (us := [.n a1, .n b2, .pt 9 0]) (fun rv st' => (k121 () = some r ∧ Le rv (.tu [.n (f217 (f191 a1 b2)), .d (D.b true)]) ∧ SLe st' [.dead, .dead, .dead, .dead, .dead, .dead, .dead, .dead, .dead, rF 195 191, .dead, .dead, .dead, .dead, .dead, .dead, .dead, .dead, .dead])) q q q q q ?_ (Zw q) q q ?_
 refine ctr_intro Tryz.func216 (by kernel_rfl) q q q (fun mm φφ ww hm120 => ?_)
 exact Zr (Za q q (Za q q (Zn (Zr (Zq (y_load q q a195 q) q (Zm q q (Zm q q (WL.fn q q q q (f191_c _ _) ⟨Zl, Zl, Zt⟩ (Zw q) q q (WL.fn q q q q (f217_c _) ⟨Zl, Zt⟩ (Zw q) q q (Za q q (Za q q (Zn (wc_ret (we_ret (rs2 q (rv_t q) (rv_t q)) ⟨h, (Le.tu ⟨Zl, Zl, Zt⟩), ⟨Zt, Zt, Zt, Zt, Zt, Zt, Zt, Zt, Zt, Zp, Zt, Zt, Zt, Zt, Zt, Zt, Zt, Zt, Zt, Zt⟩⟩))))))))))))))
 rintro rv st1 ⟨h, hr, hst⟩
 subst hk121
 dsimp only at h
 refine WL.cast 32 q hr (WL.weak hst (Zq (y_extract q q) q (Zq (y_extract q q) q (Za q q (Za q q (Zn (wc_ret ?_)))))))
 obtain rfl := Oi h
 exact we_ret_fn (rs2 q (rv_t q) (rv_t q)) (Le.tud ⟨Zl, Zl, Zt⟩)
 rcases condCases h with ⟨hk122, h⟩ | ⟨hn123, h⟩
 refine Zm q q (Zq (y_lookupok (fun x : Int => Value.int .u8 x) (fun x : AV => x) [fe 1 214 1, fe 2 214 2, fe 3 214 3, fe 4 215 4, fe 5 215 5, fe 6 215 6, fe 7 216 7, fe 8 216 8, fe 9 216 9, fe 10 216 10, fe 11 216 11, fe 12 216 12, fe 13 214 13, fe 14 214 14, fe 15 214 15, fe 16 214 16, fe 17 214 17, fe 18 214 18] (k := op0) (z := .d (.v .nilFunc)) Tryz.underlying237 Tryz.underlying146 (KeyF.int .u8) q q q (by kernel_rfl) q (by rw [hk122] <;> rfl) (by rw [hk122] <;> rfl)) q (Zm q q (Zq (y_extract q q) q (Zq (y_extract q q) q (Za q q (Za q q (Zn (wc_seq (Zr (Zm q q (Zq (y_not q) q (Zn (wc_false q (wc_skip (we_seq (wc_seq ?_))))))))))))))))
 refine WC.weak (st' := [.dead, .dead, .dead, .dead, .dead, .dead, .dead, .dead, .dead, .dead, rF 195 192, .dead, .dead, .dead, .dead, .dead, .dead, .dead, .dead]) ⟨Zt, Zt, Zt, Zt, Zt, Zt, Zt, Zt, Zt, Zt, OLe.refl _, Zt, Zt, Zt, Zt, Zt, Zt, Zt, Zt, Zt⟩ (WC.sub (env' := [(0, .d (D.i .u8 op0)), (1, .n a1), (2, .n b2), (8, .fn (.func 216) [] [.pt 10 0])]) (Sub.one q (Sub.one q (Sub.one q (Sub.one q (Sub.nil _))))) (wc_region (Zm q q (Zm q q (Zm q q ?_)))))
 obtain ⟨k125, hk125, h⟩ := letkS h
 refine WL.inl (us := [.n a1, .n b2, .pt 10 0]) (fun rv st' => (k125 () = some r ∧ Le rv (.tu [.n (f217 (f192 a1 b2)), .d (D.b true)]) ∧ SLe st' [.dead, .dead, .dead, .dead, .dead, .dead, .dead, .dead, .dead, .dead, rF 195 192, .dead, .dead, .dead, .dead, .dead, .dead, .dead, .dead])) q q q q q ?_ (Zw q) q q ?_
 refine ctr_intro Tryz.func216 (by kernel_rfl) q q q (fun mm φφ ww hm124 => ?_)
 exact Zr (Za q q (Za q q (Zn (Zr (Zq (y_load q q a195 q) q (Zm q q (Zm q q (WL.fn q q q q (f192_c _ _) ⟨Zl, Zl, Zt⟩ (Zw q) q q (WL.fn q q q q (f217_c _) ⟨Zl, Zt⟩ (Zw q) q q (Za q q (Za q q (Zn (wc_ret (we_ret (rs2 q (rv_t q) (rv_t q)) ⟨h, (Le.tu ⟨Zl, Zl, Zt⟩), ⟨Zt, Zt, Zt, Zt, Zt, Zt, Zt, Zt, Zt, Zt, Zp, Zt, Zt, Zt, Zt, Zt, Zt, Zt, Zt, Zt⟩⟩))))))))))))))
 rintro rv st1 ⟨h, hr, hst⟩
 subst hk125
 dsimp only at h
 refine WL.cast 32 q hr (WL.weak hst (Zq (y_extract q q) q (Zq (y_extract q q) q (Za q q (Za q q (Zn (wc_ret ?_)))))))
 obtain rfl := Oi h
 exact we_ret_fn (rs2 q (rv_t q) (rv_t q)) (Le.tud ⟨Zl, Zl, Zt⟩)
 rcases condCases h with ⟨hk126, h⟩ | ⟨hn127, h⟩
 refine Zm q q (Zq (y_lookupok (fun x : Int => Value.int .u8 x) (fun x : AV => x) [fe 1 214 1, fe 2 214 2, fe 3 214 3, fe 4 215 4, fe 5 215 5, fe 6 215 6, fe 7 216 7, fe 8 216 8, fe 9 216 9, fe 10 216 10, fe 11 216 11, fe 12 216 12, fe 13 214 13, fe 14 214 14, fe 15 214 15, fe 16 214 16, fe 17 214 17, fe 18 214 18] (k := op0) (z := .d (.v .nilFunc)) Tryz.underlying237 Tryz.underlying146 (KeyF.int .u8) q q q (by kernel_rfl) q (by rw [hk126] <;> rfl) (by rw [hk126] <;> rfl)) q (Zm q q (Zq (y_extract q q) q (Zq (y_extract q q) q (Za q q (Za q q (Zn (wc_seq (Zr (Zm q q (Zq (y_not q) q (Zn (wc_false q (wc_skip (we_seq (wc_seq ?_))))))))))))))))
 refine WC.weak (st' := [.dead, .dead, .dead, .dead, .dead, .dead, .dead, .dead, .dead, .dead, .dead, rF 195 193, .dead, .dead, .dead, .dead, .dead, .dead, .dead]) ⟨Zt, Zt, Zt, Zt, Zt, Zt, Zt, Zt, Zt, Zt, Zt, OLe.refl _, Zt, Zt, Zt, Zt, Zt, Zt, Zt, Zt⟩ (WC.sub (env' := [(0, .d (D.i .u8 op0)), (1, .n a1), (2, .n b2), (8, .fn (.func 216) [] [.pt 11 0])]) (Sub.one q (Sub.one q (Sub.one q (Sub.one q (Sub.nil _))))) (wc_region (Zm q q (Zm q q (Zm q q ?_)))))
 obtain ⟨k129, hk129, h⟩ := letkS h
 refine WL.inl (us := [.n a1, .n b2, .pt 11 0]) (fun rv st' => (k129 () = some r ∧ Le rv (.tu [.n (f217 (f193 a1 b2)), .d (D.b true)]) ∧ SLe st' [.dead, .dead, .dead, .dead, .dead, .dead, .dead, .dead, .dead, .dead, .dead, rF 195 193, .dead, .dead, .dead, .dead, .dead, .dead, .dead])) q q q q q ?_ (Zw q) q q ?_
 refine ctr_intro Tryz.func216 (by kernel_rfl) q q q (fun mm φφ ww hm128 => ?_)
 exact Zr (Za q q (Za q q (Zn (Zr (Zq (y_load q q a195 q) q (Zm q q (Zm q q (WL.fn q q q q (f193_c _ _) ⟨Zl, Zl, Zt⟩ (Zw q) q q (WL.fn q q q q (f217_c _) ⟨Zl, Zt⟩ (Zw q) q q (Za q q (Za q q (Zn (wc_ret (we_ret (rs2 q (rv_t q) (rv_t q)) ⟨h, (Le.tu ⟨Zl, Zl, Zt⟩), ⟨Zt, Zt, Zt, Zt, Zt, Zt, Zt, Zt, Zt, Zt, Zt, Zp, Zt, Zt, Zt, Zt, Zt, Zt, Zt, Zt⟩⟩))))))))))))))
 rintro rv st1 ⟨h, hr, hst⟩
 subst hk129
 dsimp only at h
 refine WL.cast 32 q hr (WL.weak hst (Zq (y_extract q q) q (Zq (y_extract q q) q (Za q q (Za q q (Zn (wc_ret ?_)))))))
 obtain rfl := Oi h
 exact we_ret_fn (rs2 q (rv_t q) (rv_t q)) (Le.tud ⟨Zl, Zl, Zt⟩)
 rcases condCases h with ⟨hk130, h⟩ | ⟨hn131, h⟩
 refine Zm q q (Zq (y_lookupok (fun x : Int => Value.int .u8 x) (fun x : AV => x) [fe 1 214 1, fe 2 214 2, fe 3 214 3, fe 4 215 4, fe 5 215 5, fe 6 215 6, fe 7 216 7, fe 8 216 8, fe 9 216 9, fe 10 216 10, fe 11 216 11, fe 12 216 12, fe 13 214 13, fe 14 214 14, fe 15 214 15, fe 16 214 16, fe 17 214 17, fe 18 214 18] (k := op0) (z := .d (.v .nilFunc)) Tryz.underlying237 Tryz.underlying146 (KeyF.int .u8) q q q (by kernel_rfl) q (by rw [hk130] <;> rfl) (by rw [hk130] <;> rfl)) q (Zm q q (Zq (y_extract q q) q (Zq (y_extract q q) q (Za q q (Za q q (Zn (wc_seq (Zr (Zm q q (Zq (y_not q) q (Zn (wc_false q (wc_skip (we_seq (wc_seq ?_))))))))))))))))
 refine WC.weak (st' := [.dead, .dead, .dead, .dead, .dead, .dead, .dead, .dead, .dead, .dead, .dead, .dead, rF 195 194, .dead, .dead, .dead, .dead, .dead, .dead]) ⟨Zt, Zt, Zt, Zt, Zt, Zt, Zt, Zt, Zt, Zt, Zt, Zt, OLe.refl _, Zt, Zt, Zt, Zt, Zt, Zt, Zt⟩ (WC.sub (env' := [(0, .d (D.i .u8 op0)), (1, .n a1), (2, .n b2), (8, .fn (.func 216) [] [.pt 12 0])]) (Sub.one q (Sub.one q (Sub.one q (Sub.one q (Sub.nil _))))) (wc_region (Zm q q (Zm q q (Zm q q ?_)))))
 obtain ⟨k133, hk133, h⟩ := letkS h
 refine WL.inl (us := [.n a1, .n b2, .pt 12 0]) (fun rv st' => (k133 () = some r ∧ Le rv (.tu [.n (f217 (f194 a1 b2)), .d (D.b true)]) ∧ SLe st' [.dead, .dead, .dead, .dead, .dead, .dead, .dead, .dead, .dead, .dead, .dead, .dead, rF 195 194, .dead, .dead, .dead, .dead, .dead, .dead])) q q q q q ?_ (Zw q) q q ?_
 refine ctr_intro Tryz.func216 (by kernel_rfl) q q q (fun mm φφ ww hm132 => ?_)
 exact Zr (Za q q (Za q q (Zn (Zr (Zq (y_load q q a195 q) q (Zm q q (Zm q q (WL.fn q q q q (f194_c _ _) ⟨Zl, Zl, Zt⟩ (Zw q) q q (WL.fn q q q q (f217_c _) ⟨Zl, Zt⟩ (Zw q) q q (Za q q (Za q q (Zn (wc_ret (we_ret (rs2 q (rv_t q) (rv_t q)) ⟨h, (Le.tu ⟨Zl, Zl, Zt⟩), ⟨Zt, Zt, Zt, Zt, Zt, Zt, Zt, Zt, Zt, Zt, Zt, Zt, Zp, Zt, Zt, Zt, Zt, Zt, Zt, Zt⟩⟩))))))))))))))
 rintro rv st1 ⟨h, hr, hst⟩
 subst hk133
 dsimp only at h
 refine WL.cast 32 q hr (WL.weak hst (Zq (y_extract q q) q (Zq (y_extract q q) q (Za q q (Za q q (Zn (wc_ret ?_)))))))
 obtain rfl := Oi h
 exact we_ret_fn (rs2 q (rv_t q) (rv_t q)) (Le.tud ⟨Zl, Zl, Zt⟩)
 rcases condCases h with ⟨hk134, h⟩ | ⟨hn135, h⟩
 refine Zm q q (Zq (y_lookupok (fun x : Int => Value.int .u8 x) (fun x : AV => x) [fe 1 214 1, fe 2 214 2, fe 3 214 3, fe 4 215 4, fe 5 215 5, fe 6 215 6, fe 7 216 7, fe 8 216 8, fe 9 216 9, fe 10 216 10, fe 11 216 11, fe 12 216 12, fe 13 214 13, fe 14 214 14, fe 15 214 15, fe 16 214 16, fe 17 214 17, fe 18 214 18] (k := op0) (z := .d (.v .nilFunc)) Tryz.underlying237 Tryz.underlying146 (KeyF.int .u8) q q q (by kernel_rfl) q (by rw [hk134] <;> rfl) (by rw [hk134] <;> rfl)) q (Zm q q (Zq (y_extract q q) q (Zq (y_extract q q) q (Za q q (Za q q (Zn (wc_seq (Zr (Zm q q (Zq (y_not q) q (Zn (wc_false q (wc_skip (we_seq (wc_seq ?_))))))))))))))))
 refine WC.weak (st' := [.dead, .dead, .dead, .dead, .dead, .dead, .dead, .dead, .dead, .dead, .dead, .dead, .dead, rF 209 195, .dead, .dead, .dead, .dead, .dead]) ⟨Zt, Zt, Zt, Zt, Zt, Zt, Zt, Zt, Zt, Zt, Zt, Zt, Zt, OLe.refl _, Zt, Zt, Zt, Zt, Zt, Zt⟩ (WC.sub (env' := [(0, .d (D.i .u8 op0)), (1, .n a1), (2, .n b2), (8, .fn (.func 214) [] [.pt 13 0])]) (Sub.one q (Sub.one q (Sub.one q (Sub.one q (Sub.nil _))))) (wc_region (Zm q q (Zm q q (Zm q q ?_)))))
 obtain ⟨k137, hk137, h⟩ := letkS h
 refine WL.inl (us := [.n a1, .n b2, .pt 13 0]) (fun rv st' => (k137 () = some r ∧ Le rv (.tu [.n (f195 a1 b2), .d (D.b true)]) ∧ SLe st' [.dead, .dead, .dead, .dead, .dead, .dead, .dead, .dead, .dead, .dead, .dead, .dead, .dead, rF 209 195, .dead, .dead, .dead, .dead, .dead])) q q q q q ?_ (Zw q) q q ?_
 refine ctr_intro Tryz.func214 (by kernel_rfl) q q q (fun mm φφ ww hm136 => ?_)
 exact Zr (Za q q (Za q q (Zn (Zr (Zq (y_load q q a209 q) q (Zm q q (Zm q q (WL.fn q q q q (f195_c _ _) ⟨Zl, Zl, Zt⟩ (Zw q) q q (Za q q (Za q q (Zn (wc_ret (we_ret (rs2 q (rv_t q) (rv_t q)) ⟨h, (Le.tu ⟨Zl, Zl, Zt⟩), ⟨Zt, Zt, Zt, Zt, Zt, Zt, Zt, Zt, Zt, Zt, Zt, Zt, Zt, Zp, Zt, Zt, Zt, Zt, Zt, Zt⟩⟩)))))))))))))
 rintro rv st1 ⟨h, hr, hst⟩
 subst hk137
 dsimp only at h
 refine WL.cast 32 q hr (WL.weak hst (Zq (y_extract q q) q (Zq (y_extract q q) q (Za q q (Za q q (Zn (wc_ret ?_)))))))
 obtain rfl := Oi h
 exact we_ret_fn (rs2 q (rv_t q) (rv_t q)) (Le.tud ⟨Zl, Zl, Zt⟩)
 rcases condCases h with ⟨hk138, h⟩ | ⟨hn139, h⟩
 refine Zm q q (Zq (y_lookupok (fun x : Int => Value.int .u8 x) (fun x : AV => x) [fe 1 214 1, fe 2 214 2, fe 3 214 3, fe 4 215 4, fe 5 215 5, fe 6 215 6, fe 7 216 7, fe 8 216 8, fe 9 216 9, fe 10 216 10, fe 11 216 11, fe 12 216 12, fe 13 214 13, fe 14 214 14, fe 15 214 15, fe 16 214 16, fe 17 214 17, fe 18 214 18] (k := op0) (z := .d (.v .nilFunc)) Tryz.underlying237 Tryz.underlying146 (KeyF.int .u8) q q q (by kernel_rfl) q (by rw [hk138] <;> rfl) (by rw [hk138] <;> rfl)) q (Zm q q (Zq (y_extract q q) q (Zq (y_extract q q) q (Za q q (Za q q (Zn (wc_seq (Zr (Zm q q (Zq (y_not q) q (Zn (wc_false q (wc_skip (we_seq (wc_seq ?_))))))))))))))))
 refine WC.weak (st' := [.dead, .dead, .dead, .dead, .dead, .dead, .dead, .dead, .dead, .dead, .dead, .dead, .dead, .dead, rF 209 196, .dead, .dead, .dead, .dead]) ⟨Zt, Zt, Zt, Zt, Zt, Zt, Zt, Zt, Zt, Zt, Zt, Zt, Zt, Zt, OLe.refl _, Zt, Zt, Zt, Zt, Zt⟩ (WC.sub (env' := [(0, .d (D.i .u8 op0)), (1, .n a1), (2, .n b2), (8, .fn (.func 214) [] [.pt 14 0])]) (Sub.one q (Sub.one q (Sub.one q (Sub.one q (Sub.nil _))))) (wc_region (Zm q q (Zm q q (Zm q q ?_)))))
 obtain ⟨k141, hk141, h⟩ := letkS h
 refine WL.inl (us := [.n a1, .n b2, .pt 14 0]) (fun rv st' => (k141 () = some r ∧ Le rv (.tu [.n (f196 a1 b2), .d (D.b true)]) ∧ SLe st' [.dead, .dead, .dead, .dead, .dead, .dead, .dead, .dead, .dead, .dead, .dead, .dead, .dead, .dead, rF 209 196, .dead, .dead, .dead, .dead])) q q q q q ?_ (Zw q) q q ?_
 refine ctr_intro Tryz.func214 (by kernel_rfl) q q q (fun mm φφ ww hm140 => ?_)
 exact Zr (Za q q (Za q q (Zn (Zr (Zq (y_load q q a209 q) q (Zm q q (Zm q q (WL.fn q q q q (f196_c _ _) ⟨Zl, Zl, Zt⟩ (Zw q) q q (Za q q (Za q q (Zn (wc_ret (we_ret (rs2 q (rv_t q) (rv_t q)) ⟨h, (Le.tu ⟨Zl, Zl, Zt⟩), ⟨Zt, Zt, Zt, Zt, Zt, Zt, Zt, Zt, Zt, Zt, Zt, Zt, Zt, Zt, Zp, Zt, Zt, Zt, Zt, Zt⟩⟩)))))))))))))
 rintro rv st1 ⟨h, hr, hst⟩
 subst hk141
 dsimp only at h
 refine WL.cast 32 q hr (WL.weak hst (Zq (y_extract q q) q (Zq (y_extract q q) q (Za q q (Za q q (Zn (wc_ret ?_)))))))
 obtain rfl := Oi h
 exact we_ret_fn (rs2 q (rv_t q) (rv_t q)) (Le.tud ⟨Zl, Zl, Zt⟩)
 rcases condCases h with ⟨hk142, h⟩ | ⟨hn143, h⟩
 refine Zm q q (Zq (y_lookupok (fun x : Int => Value.int .u8 x) (fun x : AV => x) [fe 1 214 1, fe 2 214 2, fe 3 214 3, fe 4 215 4, fe 5 215 5, fe 6 215 6, fe 7 216 7, fe 8 216 8, fe 9 216 9, fe 10 216 10, fe 11 216 11, fe 12 216 12, fe 13 214 13, fe 14 214 14, fe 15 214 15, fe 16 214 16, fe 17 214 17, fe 18 214 18] (k := op0) (z := .d (.v .nilFunc)) Tryz.underlying237 Tryz.underlying146 (KeyF.int .u8) q q q (by kernel_rfl) q (by rw [hk142] <;> rfl) (by rw [hk142] <;> rfl)) q (Zm q q (Zq (y_extract q q) q (Zq (y_extract q q) q (Za q q (Za q q (Zn (wc_seq (Zr (Zm q q (Zq (y_not q) q (Zn (wc_false q (wc_skip (we_seq (wc_seq ?_))))))))))))))))
 refine WC.weak (st' := [.dead, .dead, .dead, .dead, .dead, .dead, .dead, .dead, .dead, .dead, .dead, .dead, .dead, .dead, .dead, rF 209 197, .dead, .dead, .dead]) ⟨Zt, Zt, Zt, Zt, Zt, Zt, Zt, Zt, Zt, Zt, Zt, Zt, Zt, Zt, Zt, OLe.refl _, Zt, Zt, Zt, Zt⟩ (WC.sub (env' := [(0, .d (D.i .u8 op0)), (1, .n a1), (2, .n b2), (8, .fn (.func 214) [] [.pt 15 0])]) (Sub.one q (Sub.one q (Sub.one q (Sub.one q (Sub.nil _))))) (wc_region (Zm q q (Zm q q (Zm q q ?_)))))
 obtain ⟨k145, hk145, h⟩ := letkS h
 refine WL.inl (us := [.n a1, .n b2, .pt 15 0]) (fun rv st' => (k145 () = some r ∧ Le rv (.tu [.n (f197 a1 b2), .d (D.b true)]) ∧ SLe st' [.dead, .dead, .dead, .dead, .dead, .dead, .dead, .dead, .dead, .dead, .dead, .dead, .dead, .dead, .dead, rF 209 197, .dead, .dead, .dead])) q q q q q ?_ (Zw q) q q ?_
 refine ctr_intro Tryz.func214 (by kernel_rfl) q q q (fun mm φφ ww hm144 => ?_)
 exact Zr (Za q q (Za q q (Zn (Zr (Zq (y_load q q a209 q) q (Zm q q (Zm q q (WL.fn q q q q (f197_c _ _) ⟨Zl, Zl, Zt⟩ (Zw q) q q (Za q q (Za q q (Zn (wc_ret (we_ret (rs2 q (rv_t q) (rv_t q)) ⟨h, (Le.tu ⟨Zl, Zl, Zt⟩), ⟨Zt, Zt, Zt, Zt, Zt, Zt, Zt, Zt, Zt, Zt, Zt, Zt, Zt, Zt, Zt, Zp, Zt, Zt, Zt, Zt⟩⟩)))))))))))))
 rintro rv st1 ⟨h, hr, hst⟩
 subst hk145
 dsimp only at h
 refine WL.cast 32 q hr (WL.weak hst (Zq (y_extract q q) q (Zq (y_extract q q) q (Za q q (Za q q (Zn (wc_ret ?_)))))))
 obtain rfl := Oi h
 exact we_ret_fn (rs2 q (rv_t q) (rv_t q)) (Le.tud ⟨Zl, Zl, Zt⟩)
 rcases condCases h with ⟨hk146, h⟩ | ⟨hn147, h⟩
 refine Zm q q (Zq (y_lookupok (fun x : Int => Value.int .u8 x) (fun x : AV => x) [fe 1 214 1, fe 2 214 2, fe 3 214 3, fe 4 215 4, fe 5 215 5, fe 6 215 6, fe 7 216 7, fe 8 216 8, fe 9 216 9, fe 10 216 10, fe 11 216 11, fe 12 216 12, fe 13 214 13, fe 14 214 14, fe 15 214 15, fe 16 214 16, fe 17 214 17, fe 18 214 18] (k := op0) (z := .d (.v .nilFunc)) Tryz.underlying237 Tryz.underlying146 (KeyF.int .u8) q q q (by kernel_rfl) q (by rw [hk146] <;> rfl) (by rw [hk146] <;> rfl)) q (Zm q q (Zq (y_extract q q) q (Zq (y_extract q q) q (Za q q (Za q q (Zn (wc_seq (Zr (Zm q q (Zq (y_not q) q (Zn (wc_false q (wc_skip (we_seq (wc_seq ?_))))))))))))))))
 refine WC.weak (st' := [.dead, .dead, .dead, .dead, .dead, .dead, .dead, .dead, .dead, .dead, .dead, .dead, .dead, .dead, .dead, .dead, rF 209 198, .dead, .dead]) ⟨Zt, Zt, Zt, Zt, Zt, Zt, Zt, Zt, Zt, Zt, Zt, Zt, Zt, Zt, Zt, Zt, OLe.refl _, Zt, Zt, Zt⟩ (WC.sub (env' := [(0, .d (D.i .u8 op0)), (1, .n a1), (2, .n b2), (8, .fn (.func 214) [] [.pt 16 0])]) (Sub.one q (Sub.one q (Sub.one q (Sub.one q (Sub.nil _))))) (wc_region (Zm q q (Zm q q (Zm q q ?_)))))
 obtain ⟨k149, hk149, h⟩ := letkS h
 refine WL.inl (us := [.n a1, .n b2, .pt 16 0]) (fun rv st' => (k149 () = some r ∧ Le rv (.tu [.n (f198 a1 b2), .d (D.b true)]) ∧ SLe st' [.dead, .dead, .dead, .dead, .dead, .dead, .dead, .dead, .dead, .dead, .dead, .dead, .dead, .dead, .dead, .dead, rF 209 198, .dead, .dead])) q q q q q ?_ (Zw q) q q ?_
 refine ctr_intro Tryz.func214 (by kernel_rfl) q q q (fun mm φφ ww hm148 => ?_)
 exact Zr (Za q q (Za q q (Zn (Zr (Zq (y_load q q a209 q) q (Zm q q (Zm q q (WL.fn q q q q (f198_c _ _) ⟨Zl, Zl, Zt⟩ (Zw q) q q (Za q q (Za q q (Zn (wc_ret (we_ret (rs2 q (rv_t q) (rv_t q)) ⟨h, (Le.tu ⟨Zl, Zl, Zt⟩), ⟨Zt, Zt, Zt, Zt, Zt, Zt, Zt, Zt, Zt, Zt, Zt, Zt, Zt, Zt, Zt, Zt, Zp, Zt, Zt, Zt⟩⟩)))))))))))))
 rintro rv st1 ⟨h, hr, hst⟩
 subst hk149
 dsimp only at h
 refine WL.cast 32 q hr (WL.weak hst (Zq (y_extract q q) q (Zq (y_extract q q) q (Za q q (Za q q (Zn (wc_ret ?_)))))))
 obtain rfl := Oi h
 exact we_ret_fn (rs2 q (rv_t q) (rv_t q)) (Le.tud ⟨Zl, Zl, Zt⟩)
 rcases condCases h with ⟨hk150, h⟩ | ⟨hn151, h⟩
 refine Zm q q (Zq (y_lookupok (fun x : Int => Value.int .u8 x) (fun x : AV => x) [fe 1 214 1, fe 2 214 2, fe 3 214 3, fe 4 215 4, fe 5 215 5, fe 6 215 6, fe 7 216 7, fe 8 216 8, fe 9 216 9, fe 10 216 10, fe 11 216 11, fe 12 216 12, fe 13 214 13, fe 14 214 14, fe 15 214 15, fe 16 214 16, fe 17 214 17, fe 18 214 18] (k := op0) (z := .d (.v .nilFunc)) Tryz.underlying237 Tryz.underlying146 (KeyF.int .u8) q q q (by kernel_rfl) q (by rw [hk150] <;> rfl) (by rw [hk150] <;> rfl)) q (Zm q q (Zq (y_extract q q) q (Zq (y_extract q q) q (Za q q (Za q q (Zn (wc_seq (Zr (Zm q q (Zq (y_not q) q (Zn (wc_false q (wc_skip (we_seq (wc_seq ?_))))))))))))))))
 refine WC.weak (st' := [.dead, .dead, .dead, .dead, .dead, .dead, .dead, .dead, .dead, .dead, .dead, .dead, .dead, .dead, .dead, .dead, .dead, rF 209 199, .dead]) ⟨Zt, Zt, Zt, Zt, Zt, Zt, Zt, Zt, Zt, Zt, Zt, Zt, Zt, Zt, Zt, Zt, Zt, OLe.refl _, Zt, Zt⟩ (WC.sub (env' := [(0, .d (D.i .u8 op0)), (1, .n a1), (2, .n b2), (8, .fn (.func 214) [] [.pt 17 0])]) (Sub.one q (Sub.one q (Sub.one q (Sub.one q (Sub.nil _))))) (wc_region (Zm q q (Zm q q (Zm q q ?_)))))
 obtain ⟨k153, hk153, h⟩ := letkS h
 refine WL.inl (us := [.n a1, .n b2, .pt 17 0]) (fun rv st' => (k153 () = some r ∧ Le rv (.tu [.n (f199 a1 b2), .d (D.b true)]) ∧ SLe st' [.dead, .dead, .dead, .dead, .dead, .dead, .dead, .dead, .dead, .dead, .dead, .dead, .dead, .dead, .dead, .dead, .dead, rF 209 199, .dead])) q q q q q ?_ (Zw q) q q ?_
 refine ctr_intro Tryz.func214 (by kernel_rfl) q q q (fun mm φφ ww hm152 => ?_)
 exact Zr (Za q q (Za q q (Zn (Zr (Zq (y_load q q a209 q) q (Zm q q (Zm q q (WL.fn q q q q (f199_c _ _) ⟨Zl, Zl, Zt⟩ (Zw q) q q (Za q q (Za q q (Zn (wc_ret (we_ret (rs2 q (rv_t q) (rv_t q)) ⟨h, (Le.tu ⟨Zl, Zl, Zt⟩), ⟨Zt, Zt, Zt, Zt, Zt, Zt, Zt, Zt, Zt, Zt, Zt, Zt, Zt, Zt, Zt, Zt, Zt, Zp, Zt, Zt⟩⟩)))))))))))))
 rintro rv st1 ⟨h, hr, hst⟩
 subst hk153
 dsimp only at h
 refine WL.cast 32 q hr (WL.weak hst (Zq (y_extract q q) q (Zq (y_extract q q) q (Za q q (Za q q (Zn (wc_ret ?_)))))))
 obtain rfl := Oi h
 exact we_ret_fn (rs2 q (rv_t q) (rv_t q)) (Le.tud ⟨Zl, Zl, Zt⟩)
 rcases condCases h with ⟨hk154, h⟩ | ⟨hn155, h⟩
 refine Zm q q (Zq (y_lookupok (fun x : Int => Value.int .u8 x) (fun x : AV => x) [fe 1 214 1, fe 2 214 2, fe 3 214 3, fe 4 215 4, fe 5 215 5, fe 6 215 6, fe 7 216 7, fe 8 216 8, fe 9 216 9, fe 10 216 10, fe 11 216 11, fe 12 216 12, fe 13 214 13, fe 14 214 14, fe 15 214 15, fe 16 214 16, fe 17 214 17, fe 18 214 18] (k := op0) (z := .d (.v .nilFunc)) Tryz.underlying237 Tryz.underlying146 (KeyF.int .u8) q q q (by kernel_rfl) q (by rw [hk154] <;> rfl) (by rw [hk154] <;> rfl)) q (Zm q q (Zq (y_extract q q) q (Zq (y_extract q q) q (Za q q (Za q q (Zn (wc_seq (Zr (Zm q q (Zq (y_not q) q (Zn (wc_false q (wc_skip (we_seq ?_)))))))))))))))
 refine wc_seq (WC.weak (st' := [.dead, .dead, .dead, .dead, .dead, .dead, .dead, .dead, .dead, .dead, .dead, .dead, .dead, .dead, .dead, .dead, .dead, .dead, rF 209 200]) ⟨Zt, Zt, Zt, Zt, Zt, Zt, Zt, Zt, Zt, Zt, Zt, Zt, Zt, Zt, Zt, Zt, Zt, Zt, OLe.refl _, Zt⟩ (WC.sub (env' := [(0, .d (D.i .u8 op0)), (1, .n a1), (2, .n b2), (8, .fn (.func 214) [] [.pt 18 0])]) (Sub.one q (Sub.one q (Sub.one q (Sub.one q (Sub.nil _))))) (wc_region (Zm q q (Zm q q (Zm q q ?_))))))
 obtain ⟨k157, hk157, h⟩ := letkS h
 refine WL.inl (us := [.n a1, .n b2, .pt 18 0]) (fun rv st' => (k157 () = some r ∧ Le rv (.tu [.n (f200 a1 b2), .d (D.b true)]) ∧ SLe st' [.dead, .dead, .dead, .dead, .dead, .dead, .dead, .dead, .dead, .dead, .dead, .dead, .dead, .dead, .dead, .dead, .dead, .dead, rF 209 200])) q q q q q ?_ (Zw q) q q ?_
 refine ctr_intro Tryz.func214 (by kernel_rfl) q q q (fun mm φφ ww hm156 => ?_)
 exact Zr (Za q q (Za q q (Zn (Zr (Zq (y_load q q a209 q) q (Zm q q (Zm q q (WL.fn q q q q (f200_c _ _) ⟨Zl, Zl, Zt⟩ (Zw q) q q (Za q q (Za q q (Zn (wc_ret (we_ret (rs2 q (rv_t q) (rv_t q)) ⟨h, (Le.tu ⟨Zl, Zl, Zt⟩), ⟨Zt, Zt, Zt, Zt, Zt, Zt, Zt, Zt, Zt, Zt, Zt, Zt, Zt, Zt, Zt, Zt, Zt, Zt, Zp, Zt⟩⟩)))))))))))))
 rintro rv st1 ⟨h, hr, hst⟩
 subst hk157
 dsimp only at h
 refine WL.cast 32 q hr (WL.weak hst (Zq (y_extract q q) q (Zq (y_extract q q) q (Za q q (Za q q (Zn (wc_ret ?_)))))))
 obtain rfl := Oi h
 exact we_ret_fn (rs2 q (rv_t q) (rv_t q)) (Le.tud ⟨Zl, Zl, Zt⟩)
 refine Zm q q ?_
 refine Zq (y_lookupok (fun x : Int => Value.int .u8 x) (fun x : AV => x) [fe 1 214 1, fe 2 214 2, fe 3 214 3, fe 4 215 4, fe 5 215 5, fe 6 215 6, fe 7 216 7, fe 8 216 8, fe 9 216 9, fe 10 216 10, fe 11 216 11, fe 12 216 12, fe 13 214 13, fe 14 214 14, fe 15 214 15, fe 16 214 16, fe 17 214 17, fe 18 214 18] (k := op0) (z := .d (.v .nilFunc)) Tryz.underlying237 Tryz.underlying146 (KeyF.int .u8) q q q (by kernel_rfl) q (by rw [show mpGet _ op0 = none from (mpGet_ne hn78 (mpGet_ne hn82 (mpGet_ne hn86 (mpGet_ne hn90 (mpGet_ne hn97 (mpGet_ne hn104 (mpGet_ne hn111 (mpGet_ne hn115 (mpGet_ne hn119 (mpGet_ne hn123 (mpGet_ne hn127 (mpGet_ne hn131 (mpGet_ne hn135 (mpGet_ne hn139 (mpGet_ne hn143 (mpGet_ne hn147 (mpGet_ne hn151 (mpGet_ne hn155 mpGet_nil))))))))))))))))))] <;> rfl) (by rw [show mpGet _ op0 = none from (mpGet_ne hn78 (mpGet_ne hn82 (mpGet_ne hn86 (mpGet_ne hn90 (mpGet_ne hn97 (mpGet_ne hn104 (mpGet_ne hn111 (mpGet_ne hn115 (mpGet_ne hn119 (mpGet_ne hn123 (mpGet_ne hn127 (mpGet_ne hn131 (mpGet_ne hn135 (mpGet_ne hn139 (mpGet_ne hn143 (mpGet_ne hn147 (mpGet_ne hn151 (mpGet_ne hn155 mpGet_nil))))))))))))))))))] <;> rfl)) q ?_
 refine Zm q q (Zq (y_extract q q) q (Zq (y_extract q q) q (Za q q (Za q q (Zn (wc_seq (Zr (Zm q q (Zq (y_not q) q (Zn (wc_true q (Zr (Za q q (Za q q (Zn (wc_ret (we_seq_ret ?_)))))))))))))))))
 obtain rfl := Oi h
 exact we_ret_fn (rs2 q (rv_t q) (rv_t q)) (Le.tud ⟨Zl, Zl, Zt⟩)

end Go.Proofs.YtkbahggepncliaaGreatDoor
