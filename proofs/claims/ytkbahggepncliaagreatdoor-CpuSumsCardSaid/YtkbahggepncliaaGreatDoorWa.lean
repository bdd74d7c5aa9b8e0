/- The walks of functions. -/
import Derived.Test.YtkbahggepncliaaGreatDoorX
set_option linter.unusedVariables false
set_option linter.unusedSimpArgs false
set_option linter.unusedSectionVars false
set_option linter.unnecessarySimpa false
set_option maxHeartbeats 4000000
set_option maxRecDepth 100000
namespace Go.Proofs.YtkbahggepncliaaGreatDoor
open Go Go.Sk

theorem f158_c (s0 : List Int) (cb1 : Int → Option (Bool)) (g1 : FuncId) (fi1 ca1 : List D) (hcb1 : ∀ (y0 : Int) (r : Bool), cb1 y0 = some r → Pu Tryz.prog g1 (fi1 ++ [.i .i64 y0] ++ ca1) (.b r)) {r : Int} (h : f158 s0 cb1 = some r) : Pu Tryz.prog 158 [.sl (List.map E3 s0), .fnc (.func g1) fi1 ca1] (.i .i64 r) := by
 unfold f158 at h
 refine fn_intro Tryz.func158 (by kernel_rfl) q q q (fun φφ ww => ?_)
 refine WC.cast 1 q (Le.fncd _ _ _) (Zr (Za q q (Zn ?_)))
 replace h := letkS h
 obtain ⟨k22, hk22, h⟩ := h
 refine wc_cut (fun env' st' => k22 () = some r ∧ Sub [] env' ∧ SLe st' []) ?_ ?_
 refine Zr (Zm q q (Zq (y_len_map E3 s0 e96 q q Zl) q (Zm q q (Zn (wc_block (wc_loop (fun n env' st' => ∃ (t24 : Int), f158_l1 s0 cb1 k22 n t24 = some r ∧ Sub [(0, .l E3 s0), (1, .fn (.func g1) (List.map AV.d fi1) (List.map AV.d ca1)), (7, .n (List.length s0 : Int)), (8, .n t24)] env' ∧ SLe st' []) (fun n => n) (Int.toNat ((List.length s0 : Int) - 0) + 1) ⟨0, h, (Sx q (Sx q (Sx q (Sx q (Sub.nil _))))), Zt⟩ ?_))))))
 rintro n env1 st1 ⟨t24, h, hsub, hst⟩
 rcases n with _ | n
 rw [f158_l1] at h; cases h
 rw [f158_l1] at h
 refine WC.sub hsub (WC.weak hst ?_)
 refine Zr (Zq (y_lss q q) q (Zn (wc_seq (wc_cond q (fun hc1 => ?_) (fun hc1 => ?_)))))
 replace h := condT h hc1
 refine wc_skip (we_seq (wc_seq (wc_block (Zr (Zm q q (Za q q (Zn (Zr (Zm q q (Zm q q (Zm q q ?_)))))))))))
 obtain ⟨x26, hx26, h⟩ := bindS h
 refine Zq (y_indexAddr e96 q Zl q (idx_nonneg hx26) (idx_row E3_eq hx26) q) q (Zq (y_loadc q a3 q) q ?_)
 obtain ⟨r27, hr27, h⟩ := bindS h
 refine WL.fn q q q q (hcb1 _ _ hr27) (Les.mid ⟨Zl, Zt⟩) (Zw q) q q (Zn (wc_cond q (fun hc2 => ?_) (fun hc2 => ?_)))
 replace h := condT h hc2
 refine Zr (Zm q q (Za q q (Zn (wc_ret (we_blk_ret (we_seq_ret (we_lp_ret (we_blk_ret (we_lp_ret ?_)))))))))
 obtain rfl := Oi h
 exact we_ret_fn (rs1 q (rv_t q)) Zl
 replace h := condF h hc2
 exact wc_skip (we_blk (we_seq (wc_region (Zq (y_add q q q) q (Zm q q (WL.nil (we_lp ⟨n, ⟨(IntKind.i64.wrap (t24 + 1)), h, (Sx q (Sx q (Sx q (Sx q (Sub.nil _))))), Zt⟩, Nat.lt_succ_self n⟩)))))))
 replace h := condF h hc1
 exact wc_exit (we_seq_exit (we_lp_exit (we_blk_hit (we_lp ⟨h, (Sub.nil _), Zt⟩))))
 rintro env1 st1 ⟨h, hsub, hst⟩
 subst hk22
 dsimp only at h
 refine WC.sub hsub (WC.weak hst ?_)
 refine Zr (Za q q (Zn (wc_ret ?_)))
 obtain rfl := Oi h
 exact we_ret_fn (rs1 q (rv_t q)) Zl

theorem f128_c (s0 : List Int) (cb1 : Int → Option (Bool)) (g1 : FuncId) (fi1 ca1 : List D) (hcb1 : ∀ (y0 : Int) (r : Bool), cb1 y0 = some r → Pu Tryz.prog g1 (fi1 ++ [.i .i64 y0] ++ ca1) (.b r)) {r : Bool} (h : f128 s0 cb1 = some r) : Pu Tryz.prog 128 [.sl (List.map E3 s0), .fnc (.func g1) fi1 ca1] (.b r) := by
 unfold f128 at h
 refine fn_intro Tryz.func128 (by kernel_rfl) q q q (fun φφ ww => ?_)
 refine WC.cast 1 q (Le.fncd _ _ _) (Zr (Za q q (Zn (Zr (Zm q q (Zm q q ?_))))))
 obtain ⟨r12, hr12, h⟩ := bindS h
 refine WL.fn q q q q (f158_c _ _ g1 fi1 ca1 hcb1 hr12) ⟨Zl, (Le.fnc (Zs _) (Zs _)), Zt⟩ (Zw q) q q (Zq (y_geq q q) q (Za q q (Zn (wc_ret ?_))))
 obtain rfl := Oi h
 exact we_ret_fn (rs1 q (rv_t q)) Zl

theorem f129_c (n0 : Int) (cap1 : Int) : Pu Tryz.prog 129 [.i .i64 n0, .pc (E2 cap1)] (.b (f129 n0 cap1)) := by
 generalize h : f129 n0 cap1 = r
 unfold f129 at h
 refine fn_intro Tryz.func129 (by kernel_rfl) q q q (fun φφ ww => ?_)
 refine Zr (Za q q (Zn (Zr (Zm q q (Zq (y_add q q q) q (Zq (y_loadc q a2 q) q (Zq (y_eql q q) q (Za q q (Zn (wc_ret ?_))))))))))
 subst h
 exact we_ret_fn (rs1 q (rv_t q)) Zl

theorem f79_c (o0 : Obj) (v1 : Int) {r : Bool} (h : f79 o0 v1 = some r) : Pu Tryz.prog 79 [.ag (R101 o0), .i .i64 v1] (.b r) := by
 unfold f79 at h
 refine fn_intro Tryz.func79 (by kernel_rfl) q q q (fun φφ ww => ?_)
 refine Zr (WL.s ((b_boxd q q (Zs _)).does) (Zw q) q q (WL.s ((b_boxd q q (by exact (show Les [.n v1] (List.map AV.d [.i .i64 v1]) from ⟨Zl, Zt⟩))).does) (Zw q) q q (Za q q (Zn (wc_seq (Zr (Zq (y_fieldAddrc f101_3 q) q (Zq (y_loadc q a4 q) q (Zn (wc_cond q (fun hc1 => ?_) (fun hc1 => ?_)))))))))))
 replace h := condT h hc1
 refine Zr (Zq (y_loadc q a2 q) q (Zq (y_eql q q) q (Zm q q ?_)))
 obtain ⟨b28, hb28, h⟩ := bindS h
 apply WL.grp 5 (t := 9) (d := 14) (z := b28)
 exact q
 intro hg9
 have h := condT hb28 hg9
 refine WL.skips 4 q (Zq (y_pick_t q q) q ?_)
 obtain rfl := Oi h
 exact WL.nil ⟨q, [_, _, _, _, _], q, q, q⟩
 intro hg9
 have h := condF hb28 hg9
 refine Zy (y_fieldAddrc f101_4 q) q q q (Zy (y_loadc q a96 q) q q q (Zy (y_makeFunc q q) q q q ?_))
 obtain ⟨r29, hr29, h⟩ := bindS h
 refine WL.fn q q q q (f128_c _ _ 129 [] [(.pc (E2 v1))] (fun z0 _ h => by obtain rfl := Option.some.inj h; exact f129_c z0 v1) hr29) ⟨Zl, (Le.fnc Zt ⟨Zl, Zt⟩), Zt⟩ (Wt.yes q q q) q q (Zq (y_pick_f q q) q ?_)
 obtain rfl := Oi h
 exact WL.nil ⟨q, [_, _, _, _, _], q, q, q⟩
 refine Za q q (Zn (wc_ret (we_seq_ret ?_)))
 obtain rfl := Oi h
 exact we_ret_fn (rs1 q (rv_t q)) Zl
 replace h := condF h hc1
 refine wc_skip (we_seq (Zr (Zq (y_loadc q a2 q) q (Zq (y_fieldAddrc f101_1 q) q (Zq (y_loadc q a2 q) q (Zq (y_geq q q) q (Zm q q ?_)))))))
 apply WL.and 5 (t := 19) (d := 24)
 exact q
 intro hg19
 exact Zy (y_loadc q a2 q) q q q (Zy (y_fieldAddrc f101_2 q) q q q (Zy (y_loadc q a2 q) q q q (Zy (y_leq q q) q q q (Zq (y_pick_t q q) q (WL.nil ⟨q, [_, _, _, _, _], q, q, q⟩)))))
 exact WL.skips 4 q (Zq (y_pick_f q q) q (WL.nil ⟨q, [_, _, _, _, _], q, q, q⟩))
 refine Za q q (Zn (wc_ret ?_))
 obtain rfl := Oi h
 exact we_ret_fn (rs1 q (rv_t q)) Zl

theorem f110_c (t0 : View) (o1 : Obj) {r : Bool} (h : f110 t0 o1 = some r) : Pu Tryz.prog 110 [.ag (R135 t0), .ag (R101 o1)] (.b r) := by
 unfold f110 at h
 refine fn_intro Tryz.func110 (by kernel_rfl) q q q (fun φφ ww => ?_)
 refine Zr (WL.s ((b_boxd q q (Zs _)).does) (Zw q) q q (WL.s ((b_boxd q q (Zs _)).does) (Zw q) q q (Za q q (Zn (wc_seq (Zr (Zq (y_fieldAddrc f101_0 q) q (Zq (y_loadc q a3 q) q (Zq (y_lss q q) q (Zm q q ?_))))))))))
 apply WL.or 4 (t := 11) (d := 15)
 exact q
 intro hg11
 exact Zy (y_fieldAddrc f101_0 q) q q q (Zy (y_loadc q a3 q) q q q (Zy (y_gtr q q) q q q (Zq (y_pick_f q q) q (WL.nil ⟨q, [_, _, _, _], q, q, q⟩))))
 exact WL.skips 3 q (Zq (y_pick_t q q) q (WL.nil ⟨q, [_, _, _, _], q, q, q⟩))
 refine Zm q q ?_
 apply WL.or 6 (t := 16) (d := 22)
 exact q
 intro hg16
 exact Zy (y_fieldAddrc f101_1 q) q q q (Zy (y_loadc q a2 q) q q q (Zy (y_fieldAddrc f101_2 q) q q q (Zy (y_loadc q a2 q) q q q (Zy (y_gtr q q) q q q (Zq (y_pick_f q q) q (WL.nil ⟨q, [_, _, _, _, _, _], q, q, q⟩))))))
 exact WL.skips 5 q (Zq (y_pick_t q q) q (WL.nil ⟨q, [_, _, _, _, _, _], q, q, q⟩))
 refine Zn (wc_cond q (fun hc1 => ?_) (fun hc1 => ?_))
 replace h := condT h hc1
 refine Zr (Za q q (Zn (wc_ret (we_seq_ret ?_))))
 obtain rfl := Oi h
 exact we_ret_fn (rs1 q (rv_t q)) Zl
 replace h := condF h hc1
 refine wc_skip (we_seq (wc_seq (Zr (Zq (y_fieldAddrc f101_3 q) q (Zq (y_loadc q a4 q) q (Zq (y_not q) q (Zn (wc_cond q (fun hc2 => ?_) (fun hc2 => ?_)))))))))
 replace h := condT h hc2
 refine Zr (Zq (y_fieldAddrc f101_4 q) q (Zq (y_loadc q a96 q) q (Zq (y_len_map E3 o1.set_ e96 q q Zl) q (Zq (y_eql q q) q (Za q q (Zn (wc_ret (we_seq_ret ?_))))))))
 obtain rfl := Oi h
 exact we_ret_fn (rs1 q (rv_t q)) Zl
 replace h := condF h hc2
 refine wc_skip (we_seq (Zr (Za q q (Zn ?_))))
 replace h := letkS h
 obtain ⟨k80, hk80, h⟩ := h
 refine wc_cut (fun env' st' => k80 () = some r ∧ Sub [(3, .d (.pc (R101 o1)))] env' ∧ SLe st' []) ?_ ?_
 refine Zr (Zq (y_fieldAddrc f101_4 q) q (Zq (y_loadc q a96 q) q (Zq (y_len_map E3 o1.set_ e96 q q Zl) q (Zm q q (Zn (wc_block (wc_loop (fun n env' st' => ∃ (last83 : Int), ∃ (t84 : Int), f110_l1 t0 o1 k80 n last83 t84 = some r ∧ Sub [(2, .d (.pc (R135 t0))), (3, .d (.pc (R101 o1))), (5, .n last83), (31, .l E3 o1.set_), (32, .n (List.length o1.set_ : Int)), (33, .n t84)] env' ∧ SLe st' []) (fun n => n) (Int.toNat ((List.length o1.set_ : Int) - 0) + 1) ⟨(-1), 0, h, (Sx q (Sx q (Sx q (Sx q (Sx q (Sx q (Sub.nil _))))))), Zt⟩ ?_)))))))
 rintro n env1 st1 ⟨last83, t84, h, hsub, hst⟩
 rcases n with _ | n
 rw [f110_l1] at h; cases h
 rw [f110_l1] at h
 refine WC.sub hsub (WC.weak hst ?_)
 refine Zr (Zq (y_lss q q) q (Zn (wc_seq (wc_cond q (fun hc3 => ?_) (fun hc3 => ?_)))))
 replace h := condT h hc3
 refine wc_skip (we_seq (wc_seq (wc_block (Zr ?_))))
 obtain ⟨x87, hx87, h⟩ := bindS h
 refine Zq (y_indexAddr e96 q Zl q (idx_nonneg hx87) (idx_row E3_eq hx87) q) q (Zq (y_loadc q a3 q) q (Za q q (Zn (wc_seq (Zr (Zm q q (Zm q q (Zq (y_leq q q) q (Zm q q ?_)))))))))
 apply WL.or 7 (t := 40) (d := 47)
 exact q
 intro hg40
 exact Zy (y_move q) q q q (Zy (y_fieldAddrc f135_0 q) q q q (Zy (y_fieldAddrc f38_5 q) q q q (Zy (y_loadc q a33 q) q q q (Zy (y_len_map E101 t0.text.objs e33 q q Zl) q q q (Zy (y_geq q q) q q q (Zq (y_pick_f q q) q (WL.nil ⟨q, [_, _, _, _, _, _, _], q, q, q⟩)))))))
 exact WL.skips 6 q (Zq (y_pick_t q q) q (WL.nil ⟨q, [_, _, _, _, _, _, _], q, q, q⟩))
 refine Zm q q ?_
 obtain ⟨b88, hb88, h⟩ := bindS h
 apply WL.grp 9 (t := 48) (d := 57) (z := b88)
 exact q
 intro hg48
 have h := condT hb88 hg48
 refine WL.skips 8 q (Zq (y_pick_t q q) q ?_)
 obtain rfl := Oi h
 exact WL.nil ⟨q, [_, _, _, _, _, _, _, _, _], q, q, q⟩
 intro hg48
 have h := condF hb88 hg48
 refine Zy (y_fieldAddrc f135_0 q) q q q (Zy (y_fieldAddrc f38_5 q) q q q (Zy (y_loadc q a33 q) q q q (Zy (y_move q) q q q ?_)))
 obtain ⟨x89, hx89, h⟩ := bindS h
 refine Zy (y_indexAddr e33 q Zl q (idx_nonneg hx89) (idx_row E101_eq hx89) q) q q q (Zy (y_fieldAddrc f101_0 q) q q q (Zy (y_loadc q a3 q) q q q (Zy (y_neq q q) q q q (Zq (y_pick_f q q) q ?_))))
 obtain rfl := Oi h
 exact WL.nil ⟨q, [_, _, _, _, _, _, _, _, _], q, q, q⟩
 refine Zm q q ?_
 obtain ⟨b90, hb90, h⟩ := bindS h
 apply WL.grp 8 (t := 58) (d := 66) (z := b90)
 exact q
 intro hg58
 have h := condT hb90 hg58
 refine WL.skips 7 q (Zq (y_pick_t q q) q ?_)
 obtain rfl := Oi h
 exact WL.nil ⟨q, [_, _, _, _, _, _, _, _], q, q, q⟩
 intro hg58
 have h := condF hb90 hg58
 refine Zy (y_fieldAddrc f135_0 q) q q q (Zy (y_fieldAddrc f38_5 q) q q q (Zy (y_loadc q a33 q) q q q (Zy (y_move q) q q q ?_)))
 obtain ⟨x91, hx91, h⟩ := bindS h
 refine Zy (y_indexAddr e33 q Zl q (idx_nonneg hx91) (idx_row E101_eq hx91) q) q q q (Zy (y_fieldAddrc f101_3 q) q q q (Zy (y_loadc q a4 q) q q q (Zq (y_pick_f q q) q ?_)))
 obtain rfl := Oi h
 exact WL.nil ⟨q, [_, _, _, _, _, _, _, _], q, q, q⟩
 refine Zn (wc_cond q (fun hc4 => ?_) (fun hc4 => ?_))
 replace h := condT h hc4
 refine Zr (Za q q (Zn (wc_ret (we_seq_ret (we_blk_ret (we_seq_ret (we_lp_ret (we_blk_ret (we_lp_ret ?_)))))))))
 obtain rfl := Oi h
 exact we_ret_fn (rs1 q (rv_t q)) Zl
 replace h := condF h hc4
 exact wc_skip (we_seq (wc_region (Zm q q (Za q q (WL.nil (we_blk (we_seq (wc_region (Zq (y_add q q q) q (Zm q q (WL.nil (we_lp ⟨n, ⟨x87, (IntKind.i64.wrap (t84 + 1)), h, (Sx q (Sx q (Sx q (Sx q (Sx q (Sx q (Sub.nil _))))))), Zt⟩, Nat.lt_succ_self n⟩))))))))))))
 replace h := condF h hc3
 exact wc_exit (we_seq_exit (we_lp_exit (we_blk_hit (we_lp ⟨h, (Sx q (Sub.nil _)), Zt⟩))))
 rintro env1 st1 ⟨h, hsub, hst⟩
 subst hk80
 dsimp only at h
 refine WC.sub hsub (WC.weak hst ?_)
 refine Zr (Zq (y_fieldAddrc f101_1 q) q (Zq (y_loadc q a2 q) q (Zq (y_eql q q) q (Zm q q ?_))))
 apply WL.and 4 (t := 72) (d := 76)
 exact q
 intro hg72
 exact Zy (y_fieldAddrc f101_2 q) q q q (Zy (y_loadc q a2 q) q q q (Zy (y_eql q q) q q q (Zq (y_pick_t q q) q (WL.nil ⟨q, [_, _, _, _], q, q, q⟩))))
 exact WL.skips 3 q (Zq (y_pick_f q q) q (WL.nil ⟨q, [_, _, _, _], q, q, q⟩))
 refine Za q q (Zn (wc_ret ?_))
 obtain rfl := Oi h
 exact we_ret_fn (rs1 q (rv_t q)) Zl

theorem f111_c (t0 : View) (o1 : Int) (from2 : Int) (many3 : Int) {r : Bool} (h : f111 t0 o1 from2 many3 = some r) : Pu Tryz.prog 111 [.ag (R135 t0), .i .i64 o1, .i .i64 from2, .i .i64 many3] (.b r) := by
 unfold f111 at h
 refine fn_intro Tryz.func111 (by kernel_rfl) q q q (fun φφ ww => ?_)
 refine Zr (WL.s ((b_boxd q q (Zs _)).does) (Zw q) q q (Za q q (Zn (Zr (Zm q q (Zq (y_geq q q) q (Zm q q ?_)))))))
 apply WL.and 7 (t := 11) (d := 18)
 exact q
 intro hg11
 exact Zy (y_move q) q q q (Zy (y_fieldAddrc f135_0 q) q q q (Zy (y_fieldAddrc f38_5 q) q q q (Zy (y_loadc q a33 q) q q q (Zy (y_len_map E101 t0.text.objs e33 q q Zl) q q q (Zy (y_lss q q) q q q (Zq (y_pick_t q q) q (WL.nil ⟨q, [_, _, _, _, _, _, _], q, q, q⟩)))))))
 exact WL.skips 6 q (Zq (y_pick_f q q) q (WL.nil ⟨q, [_, _, _, _, _, _, _], q, q, q⟩))
 refine Zm q q ?_
 apply WL.and 3 (t := 19) (d := 22)
 exact q
 intro hg19
 exact Zy (y_move q) q q q (Zy (y_geq q q) q q q (Zq (y_pick_t q q) q (WL.nil ⟨q, [_, _, _], q, q, q⟩)))
 exact WL.skips 2 q (Zq (y_pick_f q q) q (WL.nil ⟨q, [_, _, _], q, q, q⟩))
 refine Zm q q ?_
 obtain ⟨b41, hb41, h⟩ := bindS h
 apply WL.grp 12 (t := 23) (d := 35) (z := b41)
 exact q
 intro hg23
 have h := condT hb41 hg23
 refine Zy (y_move q) q q q (Zy (y_fieldAddrc f135_0 q) q q q (Zy (y_fieldAddrc f38_5 q) q q q (Zy (y_loadc q a33 q) q q q (Zy (y_move q) q q q ?_))))
 obtain ⟨x42, hx42, h⟩ := bindS h
 refine Zy (y_indexAddr e33 q Zl q (idx_nonneg hx42) (idx_row E101_eq hx42) q) q q q (Zy (y_fieldAddrc f101_0 q) q q q (Zy (y_loadc q a3 q) q q q (Zy (y_move q) q q q (Zy (y_sub q q q) q q q (Zy (y_leq q q) q q q (Zq (y_pick_t q q) q ?_))))))
 obtain rfl := Oi h
 exact WL.nil ⟨q, [_, _, _, _, _, _, _, _, _, _, _, _], q, q, q⟩
 intro hg23
 have h := condF hb41 hg23
 refine WL.skips 11 q (Zq (y_pick_f q q) q ?_)
 obtain rfl := Oi h
 exact WL.nil ⟨q, [_, _, _, _, _, _, _, _, _, _, _, _], q, q, q⟩
 refine Za q q (Zn (wc_ret ?_))
 obtain rfl := Oi h
 exact we_ret_fn (rs1 q (rv_t q)) Zl

theorem f68_c (t0 : View) {r : Bool} (h : f68 t0 = some r) : Pu Tryz.prog 68 [.ag (R135 t0)] (.b r) := by
 unfold f68 at h
 refine fn_intro Tryz.func68 (by kernel_rfl) q q q (fun φφ ww => ?_)
 refine Zr (WL.s ((b_boxd q q (Zs _)).does) (Zw q) q q (Za q q (Zn (wc_seq (Zr (Zq (y_fieldAddrc f135_0 q) q (Zq (y_fieldAddrc f38_5 q) q (Zq (y_loadc q a33 q) q (Zq (y_len_map E101 t0.text.objs e33 q q Zl) q (Zq (y_gtr q q) q (Zm q q ?_)))))))))))
 apply WL.or 5 (t := 15) (d := 20)
 exact q
 intro hg15
 exact Zy (y_fieldAddrc f135_0 q) q q q (Zy (y_fieldAddrc f38_7 q) q q q (Zy (y_loadc q a3 q) q q q (Zy (y_lss q q) q q q (Zq (y_pick_f q q) q (WL.nil ⟨q, [_, _, _, _, _], q, q, q⟩)))))
 exact WL.skips 4 q (Zq (y_pick_t q q) q (WL.nil ⟨q, [_, _, _, _, _], q, q, q⟩))
 refine Zm q q ?_
 apply WL.or 5 (t := 21) (d := 26)
 exact q
 intro hg21
 exact Zy (y_fieldAddrc f135_0 q) q q q (Zy (y_fieldAddrc f38_7 q) q q q (Zy (y_loadc q a3 q) q q q (Zy (y_gtr q q) q q q (Zq (y_pick_f q q) q (WL.nil ⟨q, [_, _, _, _, _], q, q, q⟩)))))
 exact WL.skips 4 q (Zq (y_pick_t q q) q (WL.nil ⟨q, [_, _, _, _, _], q, q, q⟩))
 refine Zn (wc_cond q (fun hc1 => ?_) (fun hc1 => ?_))
 replace h := condT h hc1
 refine Zr (Za q q (Zn (wc_ret (we_seq_ret ?_))))
 obtain rfl := Oi h
 exact we_ret_fn (rs1 q (rv_t q)) Zl
 replace h := condF h hc1
 refine wc_skip (we_seq (Zr (Za q q (Zn ?_))))
 replace h := letkS h
 obtain ⟨k91, hk91, h⟩ := h
 refine wc_cut (fun env' st' => ∃ (n90 : Int), k91 n90 = some r ∧ Sub [(1, .d (.pc (R135 t0))), (3, .n n90)] env' ∧ SLe st' []) ?_ ?_
 refine Zr (Zq (y_fieldAddrc f135_0 q) q (Zq (y_fieldAddrc f38_5 q) q (Zq (y_loadc q a33 q) q (Zq (y_len_map E101 t0.text.objs e33 q q Zl) q (Zm q q (Zn (wc_block (wc_loop (fun n env' st' => ∃ (n94 : Int), ∃ (t95 : Int), f68_l1 t0 k91 n n94 t95 = some r ∧ Sub [(1, .d (.pc (R135 t0))), (3, .n n94), (29, .l E101 t0.text.objs), (30, .n (List.length t0.text.objs : Int)), (31, .n t95)] env' ∧ SLe st' []) (fun n => n) (Int.toNat ((List.length t0.text.objs : Int) - 0) + 1) ⟨0, 0, h, (Sx q (Sx q (Sx q (Sx q (Sx q (Sub.nil _)))))), Zt⟩ ?_))))))))
 rintro n env1 st1 ⟨n94, t95, h, hsub, hst⟩
 rcases n with _ | n
 rw [f68_l1] at h; cases h
 rw [f68_l1] at h
 refine WC.sub hsub (WC.weak hst ?_)
 refine Zr (Zq (y_lss q q) q (Zn (wc_seq (wc_cond q (fun hc2 => ?_) (fun hc2 => ?_)))))
 replace h := condT h hc2
 refine wc_skip (we_seq (wc_seq (wc_block (Zr ?_))))
 obtain ⟨x98, hx98, h⟩ := bindS h
 refine Zq (y_indexAddr e33 q Zl q (idx_nonneg hx98) (idx_row E101_eq hx98) q) q (Zq (y_loadcN q a101 s101 q) q (WL.s ((b_alloc z101).does) (Zw q) q q (WL.s0 (d_store q q q q q q s101 q q) (Zw q) q (Zn (wc_seq (Zr (Zq (y_loadcN q a135 s135 q) q (Zq (y_loadN q q a101 s101 q) q ?_))))))))
 obtain ⟨r99, hr99, h⟩ := bindS h
 refine WL.fn q q q q (f110_c _ _ hr99) ⟨Zl, (Le.agd ⟨Zl, Zl, Zl, Zl, Zl, Zt⟩), Zt⟩ (Zw q) q q (Zq (y_not q) q (Zn (wc_cond q (fun hc3 => ?_) (fun hc3 => ?_))))
 replace h := condT h hc3
 refine Zr (Za q q (Zn (wc_ret (we_seq_ret (we_blk_ret (we_seq_ret (we_lp_ret (we_blk_ret (we_lp_ret ?_)))))))))
 obtain rfl := Oi h
 exact we_ret_fn (rs1 q (rv_t q)) Zl
 replace h := condF h hc3
 exact wc_skip (we_seq (wc_region (Zm q q (Zq (y_fieldAddr f101_0 q) q (Zq (y_load q q a3 q) q (Zq (y_add q q q) q (Za q q (WL.nil (we_blk (we_seq (wc_region (Zq (y_add q q q) q (Zm q q (WL.nil (WE.drop 0 (env' := [(1, .d (.pc (R135 t0))), (3, .n (IntKind.i64.wrap (n94 + x98.size))), (29, .l E101 t0.text.objs), (30, .n (List.length t0.text.objs : Int)), (31, .n (IntKind.i64.wrap (t95 + 1)))]) (Sub.one q (Sub.one q (Sub.one q (Sub.one q (Sub.one q (Sub.nil _)))))) q q (Nat.zero_le _) (we_lp ⟨n, ⟨(IntKind.i64.wrap (n94 + x98.size)), (IntKind.i64.wrap (t95 + 1)), h, (Sx q (Sx q (Sx q (Sx q (Sx q (Sub.nil _)))))), Zt⟩, Nat.lt_succ_self n⟩))))))))))))))))
 replace h := condF h hc2
 exact wc_exit (we_seq_exit (we_lp_exit (we_blk_hit (we_lp ⟨n94, h, (Sx q (Sx q (Sub.nil _))), Zt⟩))))
 rintro env1 st1 ⟨n90, h, hsub, hst⟩
 subst hk91
 dsimp only at h
 refine WC.sub hsub (WC.weak hst ?_)
 refine Zr (WL.s ((b_makeMap (α := Bool) (fun x : Int × Int => Value.agg ⟨[Value.int .i64 x.1, Value.int .i64 x.2]⟩) (fun x : Bool => AV.d (.b x))).does) (Zw q) q q (Za q q (Zn ?_)))
 replace h := letkS h
 obtain ⟨k101, hk101, h⟩ := h
 refine wc_cut (fun env' st' => ∃ (m100 : List ((Int × Int) × Bool)), k101 m100 = some r ∧ Sub [(3, .n n90)] env' ∧ SLe st' [mpO (fun x : Int × Int => Value.agg ⟨[Value.int .i64 x.1, Value.int .i64 x.2]⟩) (fun x : Bool => AV.d (.b x)) m100]) ?_ ?_
 refine Zr (Zq (y_fieldAddrc f135_0 q) q (Zq (y_fieldAddrc f38_6 q) q (Zq (y_loadc q a34 q) q (Zq (y_len_map E140 t0.text.inits e34 q q Zl) q (Zm q q (Zn (wc_block (wc_loop (fun n env' st' => ∃ (t104 : Int), ∃ (m105 : List ((Int × Int) × Bool)), f68_l2 t0 k101 n t104 m105 = some r ∧ Sub [(1, .d (.pc (R135 t0))), (3, .n n90), (6, .mp 0), (47, .l E140 t0.text.inits), (48, .n (List.length t0.text.inits : Int)), (49, .n t104)] env' ∧ SLe st' [mpO (fun x : Int × Int => Value.agg ⟨[Value.int .i64 x.1, Value.int .i64 x.2]⟩) (fun x : Bool => AV.d (.b x)) m105]) (fun n => n) (Int.toNat ((List.length t0.text.inits : Int) - 0) + 1) ⟨0, ([] : List ((Int × Int) × Bool)), h, (Sx q (Sx q (Sx q (Sx q (Sx q (Sx q (Sub.nil _))))))), ⟨q, Zt⟩⟩ ?_))))))))
 rintro n env1 st1 ⟨t104, m105, h, hsub, hst⟩
 rcases n with _ | n
 rw [f68_l2] at h; cases h
 rw [f68_l2] at h
 refine WC.sub hsub (WC.weak hst ?_)
 refine Zr (Zq (y_lss q q) q (Zn (wc_seq (wc_cond q (fun hc4 => ?_) (fun hc4 => ?_)))))
 replace h := condT h hc4
 refine wc_skip (we_seq (wc_seq (wc_block (Zr ?_))))
 obtain ⟨x108, hx108, h⟩ := bindS h
 refine Zq (y_indexAddr e34 q Zl q (idx_nonneg hx108) (idx_row E140_eq hx108) q) q (Zq (y_loadcN q a140 s140 q) q (WL.s ((b_alloc z140).does) (Zw q) q q (WL.s0 (d_store q q q q q q s140 q q) (Zw q) q (Zn (Zr (Zq (y_fieldAddr f140_0 q) q (Zq (y_load q q a3 q) q (Zq (y_fieldAddr f140_1 q) q (Zq (y_load q q a3 q) q (Zq (y_build p168 z168 q q) q (WL.s ((b_alloc z168).does) (Zw q) q q (WL.s0 (d_store q q q q q q s168 q q) (Zw q) q (Zn (wc_seq (wc_seq (wc_region_draw (by kernel_rfl) (by kernel_rfl) (WQ.qn (y_move q) q (WQ.qn (y_loadN q q a168 s168 q) q ?_))))))))))))))))))
 refine WQ.qn (y_lookup_s (fun x : Int × Int => Value.agg ⟨[Value.int .i64 x.1, Value.int .i64 x.2]⟩) (fun x : Bool => AV.d (.b x)) m105 (k := (x108.o, x108.slot)) (z := false) (vs := [.int .i64 x108.o, .int .i64 x108.slot]) Tryz.underlying166 (KeyS.int2 Tryz.underlying168 Tryz.underlying3 Tryz.underlying3 q q (by kernel_rfl)) q q q (Le.agd ⟨Zl, Zl, Zt⟩) q (by kernel_rfl) q) q (WQ.qn (y_move q) q ?_)
 obtain ⟨b109, hb109, h⟩ := bindS h
 apply WQ.grp 8 (t := 61) (d := 69) (z := b109)
 exact q
 intro hg61
 have h := condT hb109 hg61
 refine WQ.skips 7 q (WQ.qn (y_pick_t q q) q ?_)
 obtain rfl := Oi h
 exact WQ.nil ⟨[_, _, _, _, _, _, _, _], q, q, q⟩
 intro hg61
 have h := condF hb109 hg61
 refine WQ.qy (y_loadcN q a135 s135 q) q q q (WQ.qy (y_fieldAddr f140_0 q) q q q (WQ.qy (y_load q q a3 q) q q q (WQ.qy (y_fieldAddr f140_1 q) q q q (WQ.qy (y_load q q a3 q) q q q ?_))))
 obtain ⟨r110, hr110, h⟩ := bindS h
 refine WQ.q (YieldsQ.fn q q q q q (f111_c _ _ _ _ hr110) ⟨Zl, Zl, Zl, Zl, Zt⟩) (Wt.yes q q q) q q (WQ.qy (y_not q) q q q (WQ.qn (y_pick_f q q) q ?_))
 obtain rfl := Oi h
 exact WQ.nil ⟨[_, _, _, _, _, _, _, _], q, q, q⟩
 refine WQ.qn (y_move q) q ?_
 obtain ⟨b111, hb111, h⟩ := bindS h
 apply WQ.grp 12 (t := 70) (d := 82) (z := b111)
 exact q
 intro hg70
 have h := condT hb111 hg70
 refine WQ.skips 11 q (WQ.qn (y_pick_t q q) q ?_)
 obtain rfl := Oi h
 exact WQ.nil ⟨[_, _, _, _, _, _, _, _, _, _, _, _], q, q, q⟩
 intro hg70
 have h := condF hb111 hg70
 refine WQ.qy (y_fieldAddrc f135_0 q) q q q (WQ.qy (y_fieldAddrc f38_5 q) q q q (WQ.qy (y_loadc q a33 q) q q q (WQ.qy (y_fieldAddr f140_0 q) q q q (WQ.qy (y_load q q a3 q) q q q ?_))))
 obtain ⟨x112, hx112, h⟩ := bindS h
 refine WQ.qy (y_indexAddr e33 q Zl q (idx_nonneg hx112) (idx_row E101_eq hx112) q) q q q (WQ.qy (y_loadcN q a101 s101 q) q q q (WQ.qy (y_fieldAddr f140_2 q) q q q (WQ.qy (y_load q q a2 q) q q q ?_)))
 obtain ⟨r113, hr113, h⟩ := bindS h
 refine WQ.q (YieldsQ.fn q q q q q (f79_c _ _ hr113) ⟨Zl, Zl, Zt⟩) (Wt.yes q q q) q q (WQ.qy (y_not q) q q q (WQ.qn (y_pick_f q q) q ?_))
 obtain rfl := Oi h
 exact WQ.nil ⟨[_, _, _, _, _, _, _, _, _, _, _, _], q, q, q⟩
 refine WQ.nil (we_seq (wc_cond q (fun hc5 => ?_) (fun hc5 => ?_)))
 replace h := condT h hc5
 refine Zr (Za q q (Zn (wc_ret (we_seq_ret (we_blk_ret (we_seq_ret (we_lp_ret (we_blk_ret (we_lp_ret ?_)))))))))
 obtain rfl := Oi h
 exact we_ret_fn (rs1 q (rv_t q)) Zl
 replace h := condF h hc5
 refine wc_skip (we_seq (wc_region (Zm q q (Zq (y_loadN q q a168 s168 q) q (WL.s0 (d_mapUpdate_s (fun x : Int × Int => Value.agg ⟨[Value.int .i64 x.1, Value.int .i64 x.2]⟩) (fun x : Bool => AV.d (.b x)) m105 (k := (x108.o, x108.slot)) (vs := [.int .i64 x108.o, .int .i64 x108.slot]) (.inr q) Tryz.underlying166 (KeyS.int2 Tryz.underlying168 Tryz.underlying3 Tryz.underlying3 q q (by kernel_rfl)) q q q (Le.agd ⟨Zl, Zl, Zt⟩) q q) (Zw q) q (WL.nil (we_blk (we_seq (wc_region (Zq (y_add q q q) q (Zm q q (WL.nil ?_))))))))))))
 exact WE.drop 1 (env' := [(1, .d (.pc (R135 t0))), (3, .n n90), (6, .mp 0), (47, .l E140 t0.text.inits), (48, .n (List.length t0.text.inits : Int)), (49, .n (IntKind.i64.wrap (t104 + 1)))]) (Sub.one q (Sub.one q (Sub.one q (Sub.one q (Sub.one q (Sub.one q (Sub.nil _))))))) q (stLt_cons (lt_mp _ (fun x : Int × Int => Value.agg ⟨[Value.int .i64 x.1, Value.int .i64 x.2]⟩) (fun x : Bool => (.b x : D)) _) q) (Nat.zero_le _) (we_lp ⟨n, ⟨(IntKind.i64.wrap (t104 + 1)), (mpPut m105 (x108.o, x108.slot) true), h, (Sx q (Sx q (Sx q (Sx q (Sx q (Sx q (Sub.nil _))))))), ⟨q, Zt⟩⟩, Nat.lt_succ_self n⟩)
 replace h := condF h hc4
 exact wc_exit (we_seq_exit (we_lp_exit (we_blk_hit (we_lp ⟨m105, h, (Sx q (Sub.nil _)), ⟨q, Zt⟩⟩))))
 rintro env1 st1 ⟨m100, h, hsub, hst⟩
 subst hk101
 dsimp only at h
 refine WC.sub hsub (WC.weak hst ?_)
 refine Zr (Zm q q (Zq (y_leq q q) q (Za q q (Zn (wc_ret ?_)))))
 obtain rfl := Oi h
 exact we_ret_fn (rs1 q (rv_t q)) Zl

theorem f112_c (t0 : View) (a1 : Int) : Pu Tryz.prog 112 [.ag (R135 t0), .i .i64 a1] (.b (f112 t0 a1)) := by
 generalize h : f112 t0 a1 = r
 unfold f112 at h
 refine fn_intro Tryz.func112 (by kernel_rfl) q q q (fun φφ ww => ?_)
 refine Zr (WL.s ((b_boxd q q (Zs _)).does) (Zw q) q q (Za q q (Zn (Zr (Zm q q (Zq (y_geq q q) q (Zm q q ?_)))))))
 apply WL.and 7 (t := 7) (d := 14)
 exact q
 intro hg7
 exact Zy (y_move q) q q q (Zy (y_fieldAddrc f135_0 q) q q q (Zy (y_fieldAddrc f38_0 q) q q q (Zy (y_loadc q a23 q) q q q (Zy (y_len_map E45 t0.text.insns e23 q q Zl) q q q (Zy (y_lss q q) q q q (Zq (y_pick_t q q) q (WL.nil ⟨q, [_, _, _, _, _, _, _], q, q, q⟩)))))))
 exact WL.skips 6 q (Zq (y_pick_f q q) q (WL.nil ⟨q, [_, _, _, _, _, _, _], q, q, q⟩))
 refine Za q q (Zn (wc_ret ?_))
 subst h
 exact we_ret_fn (rs1 q (rv_t q)) Zl

theorem f149_c (s0 : List Entry) (cb1 : Entry → Option (Bool)) (g1 : FuncId) (fi1 ca1 : List D) (hcb1 : ∀ (y0 : Entry) (r : Bool), cb1 y0 = some r → Pu Tryz.prog g1 (fi1 ++ [.ag (R173 y0)] ++ ca1) (.b r)) {r : Int} (h : f149 s0 cb1 = some r) : Pu Tryz.prog 149 [.sl (List.map E173 s0), .fnc (.func g1) fi1 ca1] (.i .i64 r) := by
 unfold f149 at h
 refine fn_intro Tryz.func149 (by kernel_rfl) q q q (fun φφ ww => ?_)
 refine WC.cast 1 q (Le.fncd _ _ _) (Zr (Za q q (Zn ?_)))
 replace h := letkS h
 obtain ⟨k22, hk22, h⟩ := h
 refine wc_cut (fun env' st' => k22 () = some r ∧ Sub [] env' ∧ SLe st' []) ?_ ?_
 refine Zr (Zm q q (Zq (y_len_map E173 s0 e25 q q Zl) q (Zm q q (Zn (wc_block (wc_loop (fun n env' st' => ∃ (t24 : Int), f149_l1 s0 cb1 k22 n t24 = some r ∧ Sub [(0, .l E173 s0), (1, .fn (.func g1) (List.map AV.d fi1) (List.map AV.d ca1)), (7, .n (List.length s0 : Int)), (8, .n t24)] env' ∧ SLe st' []) (fun n => n) (Int.toNat ((List.length s0 : Int) - 0) + 1) ⟨0, h, (Sx q (Sx q (Sx q (Sx q (Sub.nil _))))), Zt⟩ ?_))))))
 rintro n env1 st1 ⟨t24, h, hsub, hst⟩
 rcases n with _ | n
 rw [f149_l1] at h; cases h
 rw [f149_l1] at h
 refine WC.sub hsub (WC.weak hst ?_)
 refine Zr (Zq (y_lss q q) q (Zn (wc_seq (wc_cond q (fun hc1 => ?_) (fun hc1 => ?_)))))
 replace h := condT h hc1
 refine wc_skip (we_seq (wc_seq (wc_block (Zr (Zm q q (Za q q (Zn (Zr (Zm q q (Zm q q (Zm q q ?_)))))))))))
 obtain ⟨x26, hx26, h⟩ := bindS h
 refine Zq (y_indexAddr e25 q Zl q (idx_nonneg hx26) (idx_row E173_eq hx26) q) q (Zq (y_loadcN q a173 s173 q) q ?_)
 obtain ⟨r27, hr27, h⟩ := bindS h
 refine WL.fn q q q q (hcb1 _ _ hr27) (Les.mid ⟨Zl, Zt⟩) (Zw q) q q (Zn (wc_cond q (fun hc2 => ?_) (fun hc2 => ?_)))
 replace h := condT h hc2
 refine Zr (Zm q q (Za q q (Zn (wc_ret (we_blk_ret (we_seq_ret (we_lp_ret (we_blk_ret (we_lp_ret ?_)))))))))
 obtain rfl := Oi h
 exact we_ret_fn (rs1 q (rv_t q)) Zl
 replace h := condF h hc2
 exact wc_skip (we_blk (we_seq (wc_region (Zq (y_add q q q) q (Zm q q (WL.nil (we_lp ⟨n, ⟨(IntKind.i64.wrap (t24 + 1)), h, (Sx q (Sx q (Sx q (Sx q (Sub.nil _))))), Zt⟩, Nat.lt_succ_self n⟩)))))))
 replace h := condF h hc1
 exact wc_exit (we_seq_exit (we_lp_exit (we_blk_hit (we_lp ⟨h, (Sub.nil _), Zt⟩))))
 rintro env1 st1 ⟨h, hsub, hst⟩
 subst hk22
 dsimp only at h
 refine WC.sub hsub (WC.weak hst ?_)
 refine Zr (Za q q (Zn (wc_ret ?_)))
 obtain rfl := Oi h
 exact we_ret_fn (rs1 q (rv_t q)) Zl

theorem f113_c (s0 : List Entry) (cb1 : Entry → Option (Bool)) (g1 : FuncId) (fi1 ca1 : List D) (hcb1 : ∀ (y0 : Entry) (r : Bool), cb1 y0 = some r → Pu Tryz.prog g1 (fi1 ++ [.ag (R173 y0)] ++ ca1) (.b r)) {r : Bool} (h : f113 s0 cb1 = some r) : Pu Tryz.prog 113 [.sl (List.map E173 s0), .fnc (.func g1) fi1 ca1] (.b r) := by
 unfold f113 at h
 refine fn_intro Tryz.func113 (by kernel_rfl) q q q (fun φφ ww => ?_)
 refine WC.cast 1 q (Le.fncd _ _ _) (Zr (Za q q (Zn (Zr (Zm q q (Zm q q ?_))))))
 obtain ⟨r12, hr12, h⟩ := bindS h
 refine WL.fn q q q q (f149_c _ _ g1 fi1 ca1 hcb1 hr12) ⟨Zl, (Le.fnc (Zs _) (Zs _)), Zt⟩ (Zw q) q q (Zq (y_geq q q) q (Za q q (Zn (wc_ret ?_))))
 obtain rfl := Oi h
 exact we_ret_fn (rs1 q (rv_t q)) Zl

theorem f150_c (o0 : Int) (cap1 : View) {r : Bool} (h : f150 o0 cap1 = some r) : Pu Tryz.prog 150 [.i .i64 o0, .pc (R135 cap1)] (.b r) := by
 unfold f150 at h
 refine fn_intro Tryz.func150 (by kernel_rfl) q q q (fun φφ ww => ?_)
 refine Zr (Za q q (Zn (Zr (Zm q q (Zq (y_lss q q) q (Zm q q ?_))))))
 apply WL.or 7 (t := 6) (d := 13)
 exact q
 intro hg6
 exact Zy (y_move q) q q q (Zy (y_fieldAddrc f135_0 q) q q q (Zy (y_fieldAddrc f38_5 q) q q q (Zy (y_loadc q a33 q) q q q (Zy (y_len_map E101 cap1.text.objs e33 q q Zl) q q q (Zy (y_geq q q) q q q (Zq (y_pick_f q q) q (WL.nil ⟨q, [_, _, _, _, _, _, _], q, q, q⟩)))))))
 exact WL.skips 6 q (Zq (y_pick_t q q) q (WL.nil ⟨q, [_, _, _, _, _, _, _], q, q, q⟩))
 refine Zm q q ?_
 obtain ⟨b26, hb26, h⟩ := bindS h
 apply WL.grp 9 (t := 14) (d := 23) (z := b26)
 exact q
 intro hg14
 have h := condT hb26 hg14
 refine WL.skips 8 q (Zq (y_pick_t q q) q ?_)
 obtain rfl := Oi h
 exact WL.nil ⟨q, [_, _, _, _, _, _, _, _, _], q, q, q⟩
 intro hg14
 have h := condF hb26 hg14
 refine Zy (y_fieldAddrc f135_0 q) q q q (Zy (y_fieldAddrc f38_5 q) q q q (Zy (y_loadc q a33 q) q q q (Zy (y_move q) q q q ?_)))
 obtain ⟨x27, hx27, h⟩ := bindS h
 refine Zy (y_indexAddr e33 q Zl q (idx_nonneg hx27) (idx_row E101_eq hx27) q) q q q (Zy (y_fieldAddrc f101_0 q) q q q (Zy (y_loadc q a3 q) q q q (Zy (y_neq q q) q q q (Zq (y_pick_f q q) q ?_))))
 obtain rfl := Oi h
 exact WL.nil ⟨q, [_, _, _, _, _, _, _, _, _], q, q, q⟩
 refine Za q q (Zn (wc_ret ?_))
 obtain rfl := Oi h
 exact we_ret_fn (rs1 q (rv_t q)) Zl

theorem f115_c (t0 : View) (l1 : List Int) {r : Bool} (h : f115 t0 l1 = some r) : Pu Tryz.prog 115 [.ag (R135 t0), .sl (List.map E3 l1)] (.b r) := by
 unfold f115 at h
 refine fn_intro Tryz.func115 (by kernel_rfl) q q q (fun φφ ww => ?_)
 refine Zr (WL.s ((b_boxd q q (Zs _)).does) (Zw q) q q (Za q q (Zn (Zr (Zm q q (Zq (y_len_map E3 l1 e96 q q Zl) q (Zq (y_leq q q) q (Zm q q ?_))))))))
 obtain ⟨b17, hb17, h⟩ := bindS h
 apply WL.grp 5 (t := 8) (d := 13) (z := b17)
 exact q
 intro hg8
 have h := condT hb17 hg8
 refine Zy (y_move q) q q q (Zy (y_makeFunc q q) q q q ?_)
 obtain ⟨r18, hr18, h⟩ := bindS h
 refine WL.fn q q q q (f128_c _ _ 150 [] [(.pc (R135 t0))] (fun z0 _ h => f150_c z0 t0 h) hr18) ⟨Zl, (Le.fnc Zt ⟨Zl, Zt⟩), Zt⟩ (Wt.yes q q q) q q (Zy (y_not q) q q q (Zq (y_pick_t q q) q ?_))
 obtain rfl := Oi h
 exact WL.nil ⟨q, [_, _, _, _, _], q, q, q⟩
 intro hg8
 have h := condF hb17 hg8
 refine WL.skips 4 q (Zq (y_pick_f q q) q ?_)
 obtain rfl := Oi h
 exact WL.nil ⟨q, [_, _, _, _, _], q, q, q⟩
 refine Za q q (Zn (wc_ret ?_))
 obtain rfl := Oi h
 exact we_ret_fn (rs1 q (rv_t q)) Zl

theorem f114_c (e0 : Entry) (cap1 : View) {r : Bool} (h : f114 e0 cap1 = some r) : Pu Tryz.prog 114 [.ag (R173 e0), .pc (R135 cap1)] (.b r) := by
 unfold f114 at h
 refine fn_intro Tryz.func114 (by kernel_rfl) q q q (fun φφ ww => ?_)
 refine Zr (WL.s ((b_boxd q q (Zs _)).does) (Zw q) q q (Za q q (Zn (Zr (Zq (y_loadcN q a135 s135 q) q (Zq (y_fieldAddrc f173_0 q) q (Zq (y_loadc q a96 q) q ?_)))))))
 obtain ⟨r18, hr18, h⟩ := bindS h
 refine WL.fn q q q q (f115_c _ _ hr18) ⟨Zl, Zl, Zt⟩ (Zw q) q q (Zq (y_not q) q (Zm q q ?_))
 obtain ⟨b19, hb19, h⟩ := bindS h
 apply WL.grp 6 (t := 9) (d := 15) (z := b19)
 exact q
 intro hg9
 have h := condT hb19 hg9
 refine WL.skips 5 q (Zq (y_pick_t q q) q ?_)
 obtain rfl := Oi h
 exact WL.nil ⟨q, [_, _, _, _, _, _], q, q, q⟩
 intro hg9
 have h := condF hb19 hg9
 refine Zy (y_loadcN q a135 s135 q) q q q (Zy (y_fieldAddrc f173_1 q) q q q (Zy (y_loadc q a96 q) q q q ?_))
 obtain ⟨r20, hr20, h⟩ := bindS h
 refine WL.fn q q q q (f115_c _ _ hr20) ⟨Zl, Zl, Zt⟩ (Wt.yes q q q) q q (Zy (y_not q) q q q (Zq (y_pick_f q q) q ?_))
 obtain rfl := Oi h
 exact WL.nil ⟨q, [_, _, _, _, _, _], q, q, q⟩
 refine Za q q (Zn (wc_ret ?_))
 obtain rfl := Oi h
 exact we_ret_fn (rs1 q (rv_t q)) Zl

theorem f69_c (t0 : View) {r : Bool} (h : f69 t0 = some r) : Pu Tryz.prog 69 [.ag (R135 t0)] (.b r) := by
 unfold f69 at h
 refine fn_intro Tryz.func69 (by kernel_rfl) q q q (fun φφ ww => ?_)
 refine Zr (WL.s ((b_boxd q q (Zs _)).does) (Zw q) q q (Za q q (Zn (wc_seq (Zr (Zq (y_fieldAddrc f135_0 q) q (Zq (y_fieldAddrc f38_8 q) q (Zq (y_loadc q a28 q) q (Zq (y_len_map E27 t0.text.tasks e28 q q Zl) q (Zq (y_lss q q) q (Zm q q ?_)))))))))))
 apply WL.or 6 (t := 10) (d := 16)
 exact q
 intro hg10
 exact Zy (y_fieldAddrc f135_0 q) q q q (Zy (y_fieldAddrc f38_8 q) q q q (Zy (y_loadc q a28 q) q q q (Zy (y_len_map E27 t0.text.tasks e28 q q Zl) q q q (Zy (y_gtr q q) q q q (Zq (y_pick_f q q) q (WL.nil ⟨q, [_, _, _, _, _, _], q, q, q⟩))))))
 exact WL.skips 5 q (Zq (y_pick_t q q) q (WL.nil ⟨q, [_, _, _, _, _, _], q, q, q⟩))
 refine Zn (wc_cond q (fun hc1 => ?_) (fun hc1 => ?_))
 replace h := condT h hc1
 refine Zr (Za q q (Zn (wc_ret (we_seq_ret ?_))))
 obtain rfl := Oi h
 exact we_ret_fn (rs1 q (rv_t q)) Zl
 replace h := condF h hc1
 refine wc_skip (we_seq ?_)
 replace h := letkS h
 obtain ⟨k63, hk63, h⟩ := h
 refine wc_cut (fun env' st' => k63 () = some r ∧ Sub [] env' ∧ SLe st' []) ?_ ?_
 refine Zr (Zq (y_fieldAddrc f135_0 q) q (Zq (y_fieldAddrc f38_8 q) q (Zq (y_loadc q a28 q) q (Zq (y_len_map E27 t0.text.tasks e28 q q Zl) q (Zm q q (Zn (wc_block (wc_loop (fun n env' st' => ∃ (t65 : Int), f69_l1 t0 k63 n t65 = some r ∧ Sub [(1, .d (.pc (R135 t0))), (19, .l E27 t0.text.tasks), (20, .n (List.length t0.text.tasks : Int)), (21, .n t65)] env' ∧ SLe st' []) (fun n => n) (Int.toNat ((List.length t0.text.tasks : Int) - 0) + 1) ⟨0, h, (Sx q (Sx q (Sx q (Sx q (Sub.nil _))))), Zt⟩ ?_))))))))
 rintro n env1 st1 ⟨t65, h, hsub, hst⟩
 rcases n with _ | n
 rw [f69_l1] at h; cases h
 rw [f69_l1] at h
 refine WC.sub hsub (WC.weak hst ?_)
 refine Zr (Zq (y_lss q q) q (Zn (wc_seq (wc_cond q (fun hc2 => ?_) (fun hc2 => ?_)))))
 replace h := condT h hc2
 refine wc_skip (we_seq (wc_seq (wc_block (Zr ?_))))
 obtain ⟨x67, hx67, h⟩ := bindS h
 refine Zq (y_indexAddr e28 q Zl q (idx_nonneg hx67) (idx_row E27_eq hx67) q) q (Zq (y_loadcN q a27 s27 q) q (WL.s ((b_alloc z27).does) (Zw q) q q (WL.s0 (d_store q q q q q q s27 q q) (Zw q) q (Zn (wc_seq (Zr (Zq (y_fieldAddr f27_0 q) q (Zq (y_load q q a3 q) q (Zq (y_lss q q) q (Zm q q ?_))))))))))
 apply WL.or 4 (t := 28) (d := 32)
 exact q
 intro hg28
 exact Zy (y_fieldAddr f27_0 q) q q q (Zy (y_load q q a3 q) q q q (Zy (y_gtr q q) q q q (Zq (y_pick_f q q) q (WL.nil ⟨q, [_, _, _, _], q, q, q⟩))))
 exact WL.skips 3 q (Zq (y_pick_t q q) q (WL.nil ⟨q, [_, _, _, _], q, q, q⟩))
 refine Zm q q ?_
 apply WL.or 6 (t := 33) (d := 39)
 exact q
 intro hg33
 exact Zy (y_loadcN q a135 s135 q) q q q (Zy (y_fieldAddr f27_1 q) q q q (Zy (y_load q q a3 q) q q q (WL.fn q q q q (f112_c _ _) ⟨Zl, Zl, Zt⟩ (Wt.yes q q q) q q (Zy (y_not q) q q q (Zq (y_pick_f q q) q (WL.nil ⟨q, [_, _, _, _, _, _], q, q, q⟩))))))
 exact WL.skips 5 q (Zq (y_pick_t q q) q (WL.nil ⟨q, [_, _, _, _, _, _], q, q, q⟩))
 refine Zm q q ?_
 apply WL.or 4 (t := 40) (d := 44)
 exact q
 intro hg40
 exact Zy (y_fieldAddr f27_3 q) q q q (Zy (y_load q q a2 q) q q q (Zy (y_lss q q) q q q (Zq (y_pick_f q q) q (WL.nil ⟨q, [_, _, _, _], q, q, q⟩))))
 exact WL.skips 3 q (Zq (y_pick_t q q) q (WL.nil ⟨q, [_, _, _, _], q, q, q⟩))
 refine Zm q q ?_
 apply WL.or 4 (t := 45) (d := 49)
 exact q
 intro hg45
 exact Zy (y_fieldAddr f27_3 q) q q q (Zy (y_load q q a2 q) q q q (Zy (y_gtr q q) q q q (Zq (y_pick_f q q) q (WL.nil ⟨q, [_, _, _, _], q, q, q⟩))))
 exact WL.skips 3 q (Zq (y_pick_t q q) q (WL.nil ⟨q, [_, _, _, _], q, q, q⟩))
 refine Zm q q ?_
 apply WL.or 5 (t := 50) (d := 55)
 exact q
 intro hg50
 exact Zy (y_fieldAddr f27_2 q) q q q (Zy (y_load q q a25 q) q q q (Zy (y_len_map E173 x67.entries e25 q q Zl) q q q (Zy (y_gtr q q) q q q (Zq (y_pick_f q q) q (WL.nil ⟨q, [_, _, _, _, _], q, q, q⟩)))))
 exact WL.skips 4 q (Zq (y_pick_t q q) q (WL.nil ⟨q, [_, _, _, _, _], q, q, q⟩))
 refine Zn (wc_cond q (fun hc3 => ?_) (fun hc3 => ?_))
 replace h := condT h hc3
 refine Zr (Za q q (Zn (wc_ret (we_seq_ret (we_blk_ret (we_seq_ret (we_lp_ret (we_blk_ret (we_lp_ret ?_)))))))))
 obtain rfl := Oi h
 exact we_ret_fn (rs1 q (rv_t q)) Zl
 replace h := condF h hc3
 refine wc_skip (we_seq (Zr (Zq (y_fieldAddr f27_2 q) q (Zq (y_load q q a25 q) q (Zq (y_makeFunc q q) q ?_)))))
 obtain ⟨r68, hr68, h⟩ := bindS h
 refine WL.fn q q q q (f113_c _ _ 114 [] [(.pc (R135 t0))] (fun z0 _ h => f114_c z0 t0 h) hr68) ⟨Zl, (Le.fnc Zt ⟨Zl, Zt⟩), Zt⟩ (Zw q) q q (Zn (wc_cond q (fun hc4 => ?_) (fun hc4 => ?_)))
 replace h := condT h hc4
 refine Zr (Za q q (Zn (wc_ret (we_blk_ret (we_seq_ret (we_lp_ret (we_blk_ret (we_lp_ret ?_))))))))
 obtain rfl := Oi h
 exact we_ret_fn (rs1 q (rv_t q)) Zl
 replace h := condF h hc4
 exact wc_skip (we_blk (we_seq (wc_region (Zq (y_add q q q) q (Zm q q (WL.nil (WE.drop 0 (env' := [(1, .d (.pc (R135 t0))), (19, .l E27 t0.text.tasks), (20, .n (List.length t0.text.tasks : Int)), (21, .n (IntKind.i64.wrap (t65 + 1)))]) (Sub.one q (Sub.one q (Sub.one q (Sub.one q (Sub.nil _))))) q q (Nat.zero_le _) (we_lp ⟨n, ⟨(IntKind.i64.wrap (t65 + 1)), h, (Sx q (Sx q (Sx q (Sx q (Sub.nil _))))), Zt⟩, Nat.lt_succ_self n⟩))))))))
 replace h := condF h hc2
 exact wc_exit (we_seq_exit (we_lp_exit (we_blk_hit (we_lp ⟨h, (Sub.nil _), Zt⟩))))
 rintro env1 st1 ⟨h, hsub, hst⟩
 subst hk63
 dsimp only at h
 refine WC.sub hsub (WC.weak hst ?_)
 refine Zr (Za q q (Zn (wc_ret ?_)))
 obtain rfl := Oi h
 exact we_ret_fn (rs1 q (rv_t q)) Zl

theorem f70_c (t0 : View) {r : Bool} (h : f70 t0 = some r) : Pu Tryz.prog 70 [.ag (R135 t0)] (.b r) := by
 unfold f70 at h
 refine fn_intro Tryz.func70 (by kernel_rfl) q q q (fun φφ ww => ?_)
 refine Zr (WL.s ((b_boxd q q (Zs _)).does) (Zw q) q q (Za q q (Zn (wc_seq (Zr (Zq (y_fieldAddrc f135_0 q) q (Zq (y_fieldAddrc f38_4 q) q (Zq (y_loadc q a32 q) q (Zq (y_len_map E96 t0.text.lists e32 q q Zl) q (Zq (y_gtr q q) q (Zn (wc_cond q (fun hc1 => ?_) (fun hc1 => ?_)))))))))))))
 replace h := condT h hc1
 refine Zr (Za q q (Zn (wc_ret (we_seq_ret ?_))))
 obtain rfl := Oi h
 exact we_ret_fn (rs1 q (rv_t q)) Zl
 replace h := condF h hc1
 refine wc_skip (we_seq ?_)
 replace h := letkS h
 obtain ⟨k52, hk52, h⟩ := h
 refine wc_cut (fun env' st' => k52 () = some r ∧ Sub [] env' ∧ SLe st' []) ?_ ?_
 refine Zr (Zq (y_fieldAddrc f135_0 q) q (Zq (y_fieldAddrc f38_4 q) q (Zq (y_loadc q a32 q) q (Zq (y_len_map E96 t0.text.lists e32 q q Zl) q (Zm q q (Zn (wc_block (wc_loop (fun n env' st' => ∃ (t54 : Int), f70_l1 t0 k52 n t54 = some r ∧ Sub [(1, .d (.pc (R135 t0))), (15, .l E96 t0.text.lists), (16, .n (List.length t0.text.lists : Int)), (17, .n t54)] env' ∧ SLe st' []) (fun n => n) (Int.toNat ((List.length t0.text.lists : Int) - 0) + 1) ⟨0, h, (Sx q (Sx q (Sx q (Sx q (Sub.nil _))))), Zt⟩ ?_))))))))
 rintro n env1 st1 ⟨t54, h, hsub, hst⟩
 rcases n with _ | n
 rw [f70_l1] at h; cases h
 rw [f70_l1] at h
 refine WC.sub hsub (WC.weak hst ?_)
 refine Zr (Zq (y_lss q q) q (Zn (wc_seq (wc_cond q (fun hc2 => ?_) (fun hc2 => ?_)))))
 replace h := condT h hc2
 refine wc_skip (we_seq ?_)
 replace h := letkS h
 obtain ⟨k57, hk57, h⟩ := h
 refine wc_cut (fun env' st' => ∃ (m56 : List (Int × Bool)), k57 m56 = some r ∧ Sub [(1, .d (.pc (R135 t0))), (15, .l E96 t0.text.lists), (16, .n (List.length t0.text.lists : Int)), (17, .n t54)] env' ∧ SLe st' [mpO (fun x : Int => Value.int .i64 x) (fun x : Bool => AV.d (.b x)) m56]) ?_ ?_
 refine wc_block (Zr ?_)
 obtain ⟨x58, hx58, h⟩ := bindS h
 refine Zq (y_indexAddr e32 q Zl q (idx_nonneg hx58) (idx_row E96_eq hx58) q) q (Zq (y_loadc q a96 q) q (Za q q (Zn (Zr (WL.s ((b_makeMap (α := Bool) (fun x : Int => Value.int .i64 x) (fun x : Bool => AV.d (.b x))).does) (Zw q) q q (Za q q (Zn ?_)))))))
 replace h := letkS h
 obtain ⟨k60, hk60, h⟩ := h
 refine wc_cut (fun env' st' => ∃ (m59 : List (Int × Bool)), k60 m59 = some r ∧ Sub [(1, .d (.pc (R135 t0))), (4, .l E3 x58), (15, .l E96 t0.text.lists), (16, .n (List.length t0.text.lists : Int)), (17, .n t54)] env' ∧ SLe st' [mpO (fun x : Int => Value.int .i64 x) (fun x : Bool => AV.d (.b x)) m59]) ?_ ?_
 refine Zr (Zm q q (Zq (y_len_map E3 x58 e96 q q Zl) q (Zm q q (Zn (wc_block (wc_loop (fun na env' st' => ∃ (t63 : Int), ∃ (m64 : List (Int × Bool)), f70_l2 t0 x58 k60 na t63 m64 = some r ∧ Sub [(1, .d (.pc (R135 t0))), (4, .l E3 x58), (5, .mp 0), (15, .l E96 t0.text.lists), (16, .n (List.length t0.text.lists : Int)), (17, .n t54), (22, .l E3 x58), (23, .n (List.length x58 : Int)), (24, .n t63)] env' ∧ SLe st' [mpO (fun x : Int => Value.int .i64 x) (fun x : Bool => AV.d (.b x)) m64]) (fun n => n) (Int.toNat ((List.length x58 : Int) - 0) + 1) ⟨0, ([] : List (Int × Bool)), h, (Sx q (Sx q (Sx q (Sx q (Sx q (Sx q (Sx q (Sx q (Sx q (Sub.nil _)))))))))), ⟨q, Zt⟩⟩ ?_))))))
 rintro na env1 st1 ⟨t63, m64, h, hsub, hst⟩
 rcases na with _ | na
 rw [f70_l2] at h; cases h
 rw [f70_l2] at h
 refine WC.sub hsub (WC.weak hst ?_)
 refine Zr (Zq (y_lss q q) q (Zn (wc_seq (wc_cond q (fun hc3 => ?_) (fun hc3 => ?_)))))
 replace h := condT h hc3
 refine wc_skip (we_seq (wc_seq (wc_block (Zr ?_))))
 obtain ⟨x67, hx67, h⟩ := bindS h
 refine Zq (y_indexAddr e96 q Zl q (idx_nonneg hx67) (idx_row E3_eq hx67) q) q (Zq (y_loadc q a3 q) q (Za q q (Zn (wc_seq (Zr (Zm q q (Zq (y_lss q q) q (Zm q q ?_))))))))
 apply WL.or 7 (t := 30) (d := 37)
 exact q
 intro hg30
 exact Zy (y_move q) q q q (Zy (y_fieldAddrc f135_0 q) q q q (Zy (y_fieldAddrc f38_8 q) q q q (Zy (y_loadc q a28 q) q q q (Zy (y_len_map E27 t0.text.tasks e28 q q Zl) q q q (Zy (y_geq q q) q q q (Zq (y_pick_f q q) q (WL.nil ⟨q, [_, _, _, _, _, _, _], q, q, q⟩)))))))
 exact WL.skips 6 q (Zq (y_pick_t q q) q (WL.nil ⟨q, [_, _, _, _, _, _, _], q, q, q⟩))
 refine Zm q q ?_
 apply WL.or 4 (t := 38) (d := 42)
 exact q
 intro hg38
 exact Zy (y_move q) q q q (Zy (y_move q) q q q (Zy (y_lookup (fun x : Int => Value.int .i64 x) (fun x : Bool => AV.d (.b x)) m64 (z := false) Tryz.underlying176 Tryz.underlying3 (KeyF.int .i64) q q q (by kernel_rfl) q) q q q (Zq (y_pick_f q q) q (WL.nil ⟨q, [_, _, _, _], q, q, q⟩))))
 exact WL.skips 3 q (Zq (y_pick_t q q) q (WL.nil ⟨q, [_, _, _, _], q, q, q⟩))
 refine Zn (wc_cond q (fun hc4 => ?_) (fun hc4 => ?_))
 replace h := condT h hc4
 refine Zr (Za q q (Zn (wc_ret (we_seq_ret (we_blk_ret (we_seq_ret (we_lp_ret (we_blk_ret (we_lp_ret (we_blk_ret (we_lp_ret (we_lp_ret (we_blk_ret (we_lp_ret ?_))))))))))))))
 obtain rfl := Oi h
 exact we_ret_fn (rs1 q (rv_t q)) Zl
 replace h := condF h hc4
 exact wc_skip (we_seq (wc_region (Zm q q (Zm q q (WL.s0 (d_mapUpdate (fun x : Int => Value.int .i64 x) (fun x : Bool => AV.d (.b x)) m64 (.inr q) Tryz.underlying176 Tryz.underlying3 (KeyF.int .i64) q q q q) (Zw q) q (WL.nil (we_blk (we_seq (wc_region (Zq (y_add q q q) q (Zm q q (WL.nil (we_lp ⟨na, ⟨(IntKind.i64.wrap (t63 + 1)), (mpPut m64 x67 true), h, (Sx q (Sx q (Sx q (Sx q (Sx q (Sx q (Sx q (Sx q (Sx q (Sub.nil _)))))))))), ⟨q, Zt⟩⟩, Nat.lt_succ_self na⟩)))))))))))))
 replace h := condF h hc3
 exact wc_exit (we_seq_exit (we_lp_exit (we_blk_hit (we_lp ⟨m64, h, (Sx q (Sx q (Sx q (Sx q (Sx q (Sub.nil _)))))), ⟨q, Zt⟩⟩))))
 rintro env1 st1 ⟨m59, h, hsub, hst⟩
 subst hk60
 dsimp only at h
 refine WC.sub hsub (WC.weak hst ?_)
 refine Zr (Zm q q (Zq (y_len_map E3 x58 e96 q q Zl) q (Zq (y_gtr q q) q (Zn (wc_cond q (fun hc5 => ?_) (fun hc5 => ?_))))))
 replace h := condT h hc5
 refine Zr (Za q q (Zn (wc_ret (we_blk_ret (we_lp_ret (we_lp_ret (we_blk_ret (we_lp_ret ?_))))))))
 obtain rfl := Oi h
 exact we_ret_fn (rs1 q (rv_t q)) Zl
 replace h := condF h hc5
 exact wc_skip (we_blk (we_lp ⟨m59, h, (Sx q (Sx q (Sx q (Sx q (Sub.nil _))))), ⟨q, Zt⟩⟩))
 rintro env1 st1 ⟨m56, h, hsub, hst⟩
 subst hk57
 dsimp only at h
 refine WC.sub hsub (WC.weak hst ?_)
 exact wc_region (Zq (y_add q q q) q (Zm q q (WL.nil (WE.drop 0 (env' := [(1, .d (.pc (R135 t0))), (15, .l E96 t0.text.lists), (16, .n (List.length t0.text.lists : Int)), (17, .n (IntKind.i64.wrap (t54 + 1)))]) (Sub.one q (Sub.one q (Sub.one q (Sub.one q (Sub.nil _))))) q q (Nat.zero_le _) (we_lp ⟨n, ⟨(IntKind.i64.wrap (t54 + 1)), h, (Sx q (Sx q (Sx q (Sx q (Sub.nil _))))), Zt⟩, Nat.lt_succ_self n⟩)))))
 replace h := condF h hc2
 exact wc_exit (we_seq_exit (we_lp_exit (we_blk_hit (we_lp ⟨h, (Sub.nil _), Zt⟩))))
 rintro env1 st1 ⟨h, hsub, hst⟩
 subst hk52
 dsimp only at h
 refine WC.sub hsub (WC.weak hst ?_)
 refine Zr (Za q q (Zn (wc_ret ?_)))
 obtain rfl := Oi h
 exact we_ret_fn (rs1 q (rv_t q)) Zl

theorem f116s_c (rec116 : (List Insn) → (List MHandler) → (List Loop) → (List Select) → (List (List Int)) → (List Obj) → (List Init) → Int → (List MTask) → (List MProt) → (List Check) → Int → Int → CExpr → Int → Option (Bool × (List Insn) × (List MHandler) × (List Loop) × (List Select) × (List (List Int)) × (List Obj) × (List Init) × Int × (List MTask) × (List MProt) × (List Check) × Int × Int)) (jv0 : List Insn) (jv1 : List MHandler) (jv2 : List Loop) (jv3 : List Select) (jv4 : List (List Int)) (jv5 : List Obj) (jv6 : List Init) (jv7 : Int) (jv8 : List MTask) (jv9 : List MProt) (jv10 : List Check) (jent : Int) (jleft : Int) (e1 : CExpr) (deep2 : Int) (hrec116 : ∀ (jv0 : List Insn) (jv1 : List MHandler) (jv2 : List Loop) (jv3 : List Select) (jv4 : List (List Int)) (jv5 : List Obj) (jv6 : List Init) (jv7 : Int) (jv8 : List MTask) (jv9 : List MProt) (jv10 : List Check) (jent : Int) (jleft : Int) (x1 : CExpr) (x2 : Int) (r : Bool × (List Insn) × (List MHandler) × (List Loop) × (List Select) × (List (List Int)) × (List Obj) × (List Init) × Int × (List MTask) × (List MProt) × (List Check) × Int × Int), rec116 jv0 jv1 jv2 jv3 jv4 jv5 jv6 jv7 jv8 jv9 jv10 jent jleft x1 x2 = some r → Ctr Tryz.prog 116 [.pt 0 0, .d (.ag (R179 x1)), .n x2] [.row 182 (txW jv0 jv1 jv2 jv3 jv4 jv5 jv6 jv7 jv8 jv9 jv10 jent jleft)] (WinX 1 (.b r.1) (fun _ => [.row 182 (txW r.2.1 r.2.2.1 r.2.2.2.1 r.2.2.2.2.1 r.2.2.2.2.2.1 r.2.2.2.2.2.2.1 r.2.2.2.2.2.2.2.1 r.2.2.2.2.2.2.2.2.1 r.2.2.2.2.2.2.2.2.2.1 r.2.2.2.2.2.2.2.2.2.2.1 r.2.2.2.2.2.2.2.2.2.2.2.1 r.2.2.2.2.2.2.2.2.2.2.2.2.1 r.2.2.2.2.2.2.2.2.2.2.2.2.2)]))) {r : Bool × (List Insn) × (List MHandler) × (List Loop) × (List Select) × (List (List Int)) × (List Obj) × (List Init) × Int × (List MTask) × (List MProt) × (List Check) × Int × Int} (h : f116s rec116 jv0 jv1 jv2 jv3 jv4 jv5 jv6 jv7 jv8 jv9 jv10 jent jleft e1 deep2 = some r) : Ctr Tryz.prog 116 [.pt 0 0, .d (.ag (R179 e1)), .n deep2] [.row 182 (txW jv0 jv1 jv2 jv3 jv4 jv5 jv6 jv7 jv8 jv9 jv10 jent jleft)] (WinX 1 (.b r.1) (fun _ => [.row 182 (txW r.2.1 r.2.2.1 r.2.2.2.1 r.2.2.2.2.1 r.2.2.2.2.2.1 r.2.2.2.2.2.2.1 r.2.2.2.2.2.2.2.1 r.2.2.2.2.2.2.2.2.1 r.2.2.2.2.2.2.2.2.2.1 r.2.2.2.2.2.2.2.2.2.2.1 r.2.2.2.2.2.2.2.2.2.2.2.1 r.2.2.2.2.2.2.2.2.2.2.2.2.1 r.2.2.2.2.2.2.2.2.2.2.2.2.2)])) := by
 unfold f116s at h
 refine ctr_intro Tryz.func116 (by kernel_rfl) q q q (fun mm φφ ww hmm => ?_)
 refine Zr (WL.s ((b_box q q).does) (Zw q) q q (WL.s ((b_boxd q q (Zs _)).does) (Zw q) q q (WL.s ((b_boxd q q (by exact (show Les [.n deep2] (List.map AV.d [.i .i64 deep2]) from ⟨Zl, Zt⟩))).does) (Zw q) q q (Za q q (Zn (Zr (Zq (y_load q q a180 q) q (Zq (y_nilCheckp q) q (Zq (y_fieldAddr f182_2 q) q (Zq (y_load q q a3 q) q (Zq (y_sub q q q) q (Zq (y_nilCheckp q) q (Zq (y_fieldAddr f182_2 q) q (WL.s0 (d_store q q q q q q s3 q q) (Zw q) q (WL.st (st' := [.row 182 (txW jv0 jv1 jv2 jv3 jv4 jv5 jv6 jv7 jv8 jv9 jv10 jent (IntKind.i64.wrap (jleft - 1))), .row 180 [.pt 0 0]]) q (Zn (Zr (Zq (y_load q q a180 q) q (Zq (y_loadcN q a179 s179 q) q ?_)))))))))))))))))))
 obtain ⟨k104, hk104, h⟩ := letkS h
 refine WL.inl (us := [.pt 0 0, .d (.ag (R179 e1))]) (fun rv st' => (∃ (t97 : Bool), ∃ (t98 : Int), ∃ (t99 : CExpr), ∃ (c21100 : Int), ∃ (c22101 : Int), ∃ (c23102 : Int), ∃ (c24103 : Int), k104 t97 t98 t99 c21100 c22101 c23102 c24103 = some r ∧ Le rv (.tu [.d (.ag (R179 t99)), .n t98, .d (D.b t97)]) ∧ SLe st' [.row 182 (txW jv0 jv1 jv2 jv3 jv4 jv5 jv6 jv7 jv8 jv9 jv10 jent (IntKind.i64.wrap (jleft - 1))), .row 180 [.pt 0 0], .row 179 [.d (D.i .u8 e1.kind), .d (D.i .u8 c21100), .n c22101, .n c23102, .n c24103, .n 0, .n 0, .n 0, sN]])) q q q q q ?_ (Zw q) q q ?_
 refine ctr_intro Tryz.func151 (by kernel_rfl) q q q (fun mm φφ ww hm96 => ?_)
 refine Zr (WL.s ((b_boxd q q (Zs _)).does) (Zw q) q q (WL.s ((b_alloc z179).does) (Zw q) q q (Za q q (Za q q (Zn (Zr (Zq (y_fieldAddrc f179_0 q) q (Zq (y_loadc q a177 q) q (Zq (y_fieldAddr f179_0 q) q (WL.s0 (d_store q q q q q q s177 q q) (Zw q) q (WL.st (st' := [.row 182 (txW jv0 jv1 jv2 jv3 jv4 jv5 jv6 jv7 jv8 jv9 jv10 jent (IntKind.i64.wrap (jleft - 1))), .row 180 [.pt 0 0], .row 179 [.d (D.i .u8 e1.kind), .d (D.i .u8 0), .n 0, .n 0, .n 0, .n 0, .n 0, .n 0, sN]]) q (Zn ?_))))))))))))
 replace h := letkS h
 obtain ⟨k110, hk110, h⟩ := h
 refine wc_cut (fun env' st' => ∃ (parts105 : Int), ∃ (c21106 : Int), ∃ (c22107 : Int), ∃ (c23108 : Int), ∃ (c24109 : Int), k110 parts105 c21106 c22107 c23108 c24109 = some r ∧ Sub [(4, .pt 2 0), (5, .n parts105)] env' ∧ SLe st' [.row 182 (txW jv0 jv1 jv2 jv3 jv4 jv5 jv6 jv7 jv8 jv9 jv10 jent (IntKind.i64.wrap (jleft - 1))), .row 180 [.pt 0 0], .row 179 [.d (D.i .u8 e1.kind), .d (D.i .u8 c21106), .n c22107, .n c23108, .n c24109, .n 0, .n 0, .n 0, sN]]) ?_ ?_
 refine Zr (Zq (y_fieldAddrc f179_0 q) q (Zq (y_loadc q a177 q) q (Zn (wc_block (Zr (Zq (y_eql q q) q (Za q q (Zn (wc_cond q (fun hc1 => ?_) (fun hc1 => ?_))))))))))
 replace h := condT h hc1
 exact wc_region (Zq (y_fieldAddrc f179_2 q) q (Zq (y_loadc q a2 q) q (Zq (y_fieldAddr f179_2 q) q (WL.s0 (d_store q q q q q q s2 q q) (Zw q) q (WL.st (st' := [.row 182 (txW jv0 jv1 jv2 jv3 jv4 jv5 jv6 jv7 jv8 jv9 jv10 jent (IntKind.i64.wrap (jleft - 1))), .row 180 [.pt 0 0], .row 179 [.d (D.i .u8 e1.kind), .d (D.i .u8 0), .n e1.n, .n 0, .n 0, .n 0, .n 0, .n 0, sN]]) q (WL.nil (we_blk (we_lp ⟨0, 0, e1.n, 0, 0, h, (Sx q (Sx q (Sub.nil _))), ⟨Zp, Zp, Zp, Zt⟩⟩))))))))
 replace h := condF h hc1
 refine Zr (Zq (y_eql q q) q (Za q q (Zn (wc_cond q (fun hc2 => ?_) (fun hc2 => ?_)))))
 replace h := condT h hc2
 refine wc_seq (wc_seq (wc_region_draw (by kernel_rfl) (by kernel_rfl) (WQ.qn (y_move q) q (WQ.qn (y_nilCheckp q) q (WQ.qn (y_fieldAddr f182_0 q) q (WQ.qn (y_loadN q q a135 s135 q) q (WQ.qn (y_fieldAddrc f179_3 q) q (WQ.qn (y_loadc q a3 q) q (WQ.qn (y_fieldAddrc f179_4 q) q (WQ.qn (y_loadc q a3 q) q ?_))))))))))
 obtain ⟨r111, hr111, h⟩ := bindS h
 refine WQ.q (YieldsQ.fn q q q q q (f111_c _ _ _ _ hr111) ⟨(Le.agd ⟨Zl, Zl, Zl, Zl, Zl, Zl, Zl, Zl, Zl, Zl, Zl, Zt⟩), Zl, Zl, Zl, Zt⟩) (Zw q) q q (WQ.qn (y_not q) q (WQ.qn (y_move q) q ?_))
 obtain ⟨b112, hb112, h⟩ := bindS h
 apply WQ.grp 12 (t := 30) (d := 42) (z := b112)
 exact q
 intro hg30
 have h := condT hb112 hg30
 refine WQ.skips 11 q (WQ.qn (y_pick_t q q) q ?_)
 obtain rfl := Oi h
 exact WQ.nil ⟨[_, _, _, _, _, _, _, _, _, _, _, _], q, q, q⟩
 intro hg30
 have h := condF hb112 hg30
 refine WQ.qy (y_move q) q q q (WQ.qy (y_nilCheckp q) q q q (WQ.qy (y_fieldAddr f182_0 q) q q q (WQ.qy (y_fieldAddr f135_0 q) q q q (WQ.qy (y_fieldAddr f38_5 q) q q q (WQ.qy (y_load q q a33 q) q q q (WQ.qy (y_fieldAddrc f179_3 q) q q q (WQ.qy (y_loadc q a3 q) q q q ?_)))))))
 obtain ⟨x113, hx113, h⟩ := bindS h
 refine WQ.qy (y_indexAddr e33 q Zl q (idx_nonneg hx113) (idx_row E101_eq hx113) q) q q q (WQ.qy (y_fieldAddrc f101_3 q) q q q (WQ.qy (y_loadc q a4 q) q q q (WQ.qn (y_pick_f q q) q ?_)))
 obtain rfl := Oi h
 exact WQ.nil ⟨[_, _, _, _, _, _, _, _, _, _, _, _], q, q, q⟩
 refine WQ.nil (we_seq (wc_cond q (fun hc3 => ?_) (fun hc3 => ?_)))
 replace h := condT h hc3
 exact Zr (Zq (y_loadN q q a179 s179 q) q (WL.s0 (d_store q q q q q q s179 q q) (Zw q) q (WL.st (st' := [.row 182 (txW jv0 jv1 jv2 jv3 jv4 jv5 jv6 jv7 jv8 jv9 jv10 jent (IntKind.i64.wrap (jleft - 1))), .row 180 [.pt 0 0], .row 179 [.d (D.i .u8 e1.kind), .d (D.i .u8 0), .n 0, .n 0, .n 0, .n 0, .n 0, .n 0, sN]]) q (Za q q (Za q q (Zn (wc_ret (we_seq_ret (we_blk_ret (we_lp_ret (we_ret (rs3 q (rv_cN q q a179 s179 q) (rv_t q) (rv_t q)) ⟨false, 0, (CExpr.mk e1.kind 0 0 0 0 0 0 0 []), 0, 0, 0, 0, h, (Le.tu ⟨(Le.agd ⟨Zl, Zl, Zl, Zl, Zl, Zl, Zl, Zl, Le.nil, Zt⟩), Zl, Zl, Zt⟩), ⟨Zp, Zp, Zp, Zt⟩⟩)))))))))))
 replace h := condF h hc3
 refine wc_skip (we_seq ?_)
 apply wc_region_all [_, _, _, _, _, .u, _, .u] [[], [0], [], [2], [0, 1], [0, 1, 4], [0, 1, 2, 3, 4, 5], [0, 1, 2, 3, 4, 5, 6]] [5, 7] (fun c => List.getD [[.row 182 (txW jv0 jv1 jv2 jv3 jv4 jv5 jv6 jv7 jv8 jv9 jv10 jent (IntKind.i64.wrap (jleft - 1))), .row 180 [.pt 0 0], .row 179 [.d (D.i .u8 e1.kind), .d (D.i .u8 0), .n 0, .n 0, .n 0, .n 0, .n 0, .n 0, sN]], [.row 182 (txW jv0 jv1 jv2 jv3 jv4 jv5 jv6 jv7 jv8 jv9 jv10 jent (IntKind.i64.wrap (jleft - 1))), .row 180 [.pt 0 0], .row 179 [.d (D.i .u8 e1.kind), .d (D.i .u8 0), .n 0, .n e1.o, .n 0, .n 0, .n 0, .n 0, sN]], [.row 182 (txW jv0 jv1 jv2 jv3 jv4 jv5 jv6 jv7 jv8 jv9 jv10 jent (IntKind.i64.wrap (jleft - 1))), .row 180 [.pt 0 0], .row 179 [.d (D.i .u8 e1.kind), .d (D.i .u8 0), .n 0, .n e1.o, .n e1.off, .n 0, .n 0, .n 0, sN]]] c []) [([], [3], [0]), ([0], [], [0]), ([], [3], [0, 1]), ([2], [], [0, 1]), ([], [4], [0]), ([4, 1], [], [0]), ([], [4], [1]), ([6, 3], [], [1])] (by kernel_rfl) (by kernel_rfl) q q q
 refine ⟨?_, ?_, ?_, ?_, ?_, ?_, ?_, ?_, Zt⟩
 refine ⟨fun F => ?_, Zt⟩
 exact Zq (y_fieldAddrc f179_3 q) q (Zd q q q)
 refine ⟨fun F => ?_, Zt⟩
 exact Zq (y_loadc q a3 q) q (Zd q q q)
 refine ⟨fun F => ?_, fun F => ?_, Zt⟩
 exact Zq (y_fieldAddrc f179_4 q) q (Zd q q q)
 exact Zq (y_fieldAddrc f179_4 q) q (Zd q q q)
 refine ⟨fun F => ?_, fun F => ?_, Zt⟩
 exact Zq (y_loadc q a3 q) q (Zd q q q)
 exact Zq (y_loadc q a3 q) q (Zd q q q)
 refine ⟨fun F => ?_, Zt⟩
 exact Zq (y_fieldAddr f179_3 q) q (Zd q q q)
 refine ⟨fun F => ?_, Zt⟩
 exact WL.s0 (d_store q q q q q q s3 q q) (Zw q) q (WL.done0 q q)
 refine ⟨fun F => ?_, Zt⟩
 exact Zq (y_fieldAddr f179_4 q) q (Zd q q q)
 refine ⟨fun F => ?_, Zt⟩
 exact WL.s0 (d_store q q q q q q s3 q q) (Zw q) q (WL.done0 q q)
 exact we_blk (we_lp ⟨0, 0, 0, e1.o, e1.off, h, (Sx q (Sx q (Sub.nil _))), ⟨Zp, Zp, Zp, Zt⟩⟩)
 replace h := condF h hc2
 refine Zr (Zq (y_eql q q) q (Za q q (Zn (wc_cond q (fun hc4 => ?_) (fun hc4 => ?_)))))
 replace h := condT h hc4
 refine Zr (Zq (y_fieldAddrc f179_2 q) q (Zq (y_loadc q a2 q) q (Zq (y_fieldAddr f179_2 q) q (WL.s0 (d_store q q q q q q s2 q q) (Zw q) q (WL.st (st' := [.row 182 (txW jv0 jv1 jv2 jv3 jv4 jv5 jv6 jv7 jv8 jv9 jv10 jent (IntKind.i64.wrap (jleft - 1))), .row 180 [.pt 0 0], .row 179 [.d (D.i .u8 e1.kind), .d (D.i .u8 0), .n e1.n, .n 0, .n 0, .n 0, .n 0, .n 0, sN]]) q (Zn ?_))))))
 replace h := letkS h
 obtain ⟨k115, hk115, h⟩ := h
 refine wc_cut (fun env' st' => ∃ (ok114 : Bool), k115 ok114 = some r ∧ Sub [(4, .pt 2 0), (5, .n 0), (6, .d (D.b ok114))] env' ∧ SLe st' [.row 182 (txW jv0 jv1 jv2 jv3 jv4 jv5 jv6 jv7 jv8 jv9 jv10 jent (IntKind.i64.wrap (jleft - 1))), .row 180 [.pt 0 0], .row 179 [.d (D.i .u8 e1.kind), .d (D.i .u8 0), .n e1.n, .n 0, .n 0, .n 0, .n 0, .n 0, sN]]) ?_ ?_
 rcases boolCases (decide (e1.n ≥ 0)) with hb2 | hb2
 replace h := condT h hb2
 apply wc_region_all [_, _, _, _, _, _, _, _, _, _, _, _, _, .u, _, _] [[], [], [1], [1, 2], [1, 2, 3], [1, 2, 3, 4], [1, 2, 3, 4, 5], [1, 2, 3, 4], [1, 2, 3, 4, 7], [1, 2, 3, 4, 7, 8], [1, 2, 3, 4, 7, 8, 9], [1, 2, 3, 4, 5, 6, 7, 8, 9, 10], [1, 2, 3, 4, 5, 6, 7, 8, 9, 10, 11], [0, 1, 2, 3, 4], [0, 1, 2, 3, 4, 13], [0, 1, 2, 3, 4, 5, 6, 7, 8, 9, 10, 11, 12, 13, 14]] [] (fun c => List.getD [[.row 182 (txW jv0 jv1 jv2 jv3 jv4 jv5 jv6 jv7 jv8 jv9 jv10 jent (IntKind.i64.wrap (jleft - 1))), .row 180 [.pt 0 0], .row 179 [.d (D.i .u8 e1.kind), .d (D.i .u8 0), .n e1.n, .n 0, .n 0, .n 0, .n 0, .n 0, sN]]] c []) [([], [4], [0]), ([], [3], [0]), ([1], [], [0]), ([2], [], [0]), ([3], [], [0]), ([4], [3], [0]), ([5, 4], [], [0]), ([4], [0], [0]), ([7, 4], [], [0]), ([8, 4], [], [0]), ([9, 4], [], [0]), ([6, 10, 4], [], [0]), ([4, 11], [], [0]), ([0], [4], [0]), ([], [], [0]), ([12], [], [0])] (by kernel_rfl) (by kernel_rfl) q q q
 refine ⟨?_, ?_, ?_, ?_, ?_, ?_, ?_, ?_, ?_, ?_, ?_, ?_, ?_, ?_, ?_, ?_, Zt⟩
 refine ⟨fun F => ?_, Zt⟩
 exact Zq (y_loadN q q a179 s179 q) q (Zd q q q)
 refine ⟨fun F => ?_, Zt⟩
 exact Zq (y_fieldAddrc f179_2 q) q (Zd q q q)
 refine ⟨fun F => ?_, Zt⟩
 exact Zq (y_loadc q a2 q) q (Zd q q q)
 refine ⟨fun F => ?_, Zt⟩
 exact Zq (y_geq q q) q (Zd q q q)
 refine ⟨fun F => ?_, Zt⟩
 exact Zm q q (WL.cast 59 q (Le.ofd (by rw [hb2])) (WL.done2 q q q))
 refine ⟨fun F => ?_, Zt⟩
 exact Zy (y_fieldAddrc f179_2 q) q q q (Zd q q q)
 refine ⟨fun F => ?_, Zt⟩
 exact Zy (y_loadc q a2 q) q q q (Zd q q q)
 refine ⟨fun F => ?_, Zt⟩
 exact Zy (y_move q) q q q (Zd q q q)
 refine ⟨fun F => ?_, Zt⟩
 exact Zy (y_nilCheckp q) q q q (Zd q q q)
 refine ⟨fun F => ?_, Zt⟩
 exact Zy (y_fieldAddr f182_1 q) q q q (Zd q q q)
 refine ⟨fun F => ?_, Zt⟩
 exact Zy (y_load q q a3 q) q q q (Zd q q q)
 refine ⟨fun F => ?_, Zt⟩
 exact Zy (y_lss q q) q q q (Zd q q q)
 refine ⟨fun F => ?_, Zt⟩
 exact Zq (y_pick_t q q) q (Zd q q q)
 refine ⟨fun F => ?_, Zt⟩
 exact WL.s0 (d_store q q q q q q s179 q q) (Zw q) q (WL.done0 q q)
 refine ⟨fun F => ?_, Zt⟩
 exact Za q q (Zd q q q)
 refine ⟨fun F => ?_, Zt⟩
 exact Za q q (Zd q q q)
 exact we_lp ⟨(decide (e1.n < jent)), h, (Sx q (Sx q (Sx q (Sub.nil _)))), ⟨Zp, Zp, Zp, Zt⟩⟩
 replace h := condF h hb2
 apply wc_region_all [_, _, _, _, _, _, _, _, _, _, _, _, _, .u, _, _] [[], [], [1], [1, 2], [1, 2, 3], [1, 2, 3, 4], [1, 2, 3, 4, 5], [1, 2, 3, 4], [1, 2, 3, 4, 7], [1, 2, 3, 4, 7, 8], [1, 2, 3, 4, 7, 8, 9], [1, 2, 3, 4, 5, 6, 7, 8, 9, 10], [1, 2, 3, 4, 5, 6, 7, 8, 9, 10, 11], [0, 1, 2, 3, 4], [0, 1, 2, 3, 4, 13], [0, 1, 2, 3, 4, 5, 6, 7, 8, 9, 10, 11, 12, 13, 14]] [] (fun c => List.getD [[.row 182 (txW jv0 jv1 jv2 jv3 jv4 jv5 jv6 jv7 jv8 jv9 jv10 jent (IntKind.i64.wrap (jleft - 1))), .row 180 [.pt 0 0], .row 179 [.d (D.i .u8 e1.kind), .d (D.i .u8 0), .n e1.n, .n 0, .n 0, .n 0, .n 0, .n 0, sN]]] c []) [([], [4], [0]), ([], [3], [0]), ([1], [], [0]), ([2], [], [0]), ([3], [], [0]), ([4], [], [0]), ([4], [], [0]), ([4], [], [0]), ([4], [], [0]), ([4], [], [0]), ([4], [], [0]), ([4], [], [0]), ([4, 11], [], [0]), ([0], [4], [0]), ([], [], [0]), ([12], [], [0])] (by kernel_rfl) (by kernel_rfl) q q q
 refine ⟨?_, ?_, ?_, ?_, ?_, ?_, ?_, ?_, ?_, ?_, ?_, ?_, ?_, ?_, ?_, ?_, Zt⟩
 refine ⟨fun F => ?_, Zt⟩
 exact Zq (y_loadN q q a179 s179 q) q (Zd q q q)
 refine ⟨fun F => ?_, Zt⟩
 exact Zq (y_fieldAddrc f179_2 q) q (Zd q q q)
 refine ⟨fun F => ?_, Zt⟩
 exact Zq (y_loadc q a2 q) q (Zd q q q)
 refine ⟨fun F => ?_, Zt⟩
 exact Zq (y_geq q q) q (Zd q q q)
 refine ⟨fun F => ?_, Zt⟩
 exact Zm q q (WL.cast 59 q (Le.ofd (by rw [hb2])) (WL.done2 q q q))
 refine ⟨fun F => ?_, Zt⟩
 exact WL.skips 1 q (Zd q q q)
 refine ⟨fun F => ?_, Zt⟩
 exact WL.skips 1 q (Zd q q q)
 refine ⟨fun F => ?_, Zt⟩
 exact WL.skips 1 q (Zd q q q)
 refine ⟨fun F => ?_, Zt⟩
 exact WL.skips 1 q (Zd q q q)
 refine ⟨fun F => ?_, Zt⟩
 exact WL.skips 1 q (Zd q q q)
 refine ⟨fun F => ?_, Zt⟩
 exact WL.skips 1 q (Zd q q q)
 refine ⟨fun F => ?_, Zt⟩
 exact WL.skips 1 q (Zd q q q)
 refine ⟨fun F => ?_, Zt⟩
 exact Zq (y_pick_f q q) q (Zd q q q)
 refine ⟨fun F => ?_, Zt⟩
 exact WL.s0 (d_store q q q q q q s179 q q) (Zw q) q (WL.done0 q q)
 refine ⟨fun F => ?_, Zt⟩
 exact Za q q (Zd q q q)
 refine ⟨fun F => ?_, Zt⟩
 exact Za q q (Zd q q q)
 exact we_lp ⟨false, h, (Sx q (Sx q (Sx q (Sub.nil _)))), ⟨Zp, Zp, Zp, Zt⟩⟩
 rintro env1 st1 ⟨ok114, h, hsub, hst⟩
 subst hk115
 dsimp only at h
 refine WC.sub hsub (WC.weak hst ?_)
 exact wc_ret (we_blk_ret (we_lp_ret (we_ret (rs3 q (rv_cN q q a179 s179 q) (rv_t q) (rv_t q)) ⟨ok114, 0, (CExpr.mk e1.kind 0 e1.n 0 0 0 0 0 []), 0, e1.n, 0, 0, h, (Le.tu ⟨(Le.agd ⟨Zl, Zl, Zl, Zl, Zl, Zl, Zl, Zl, Le.nil, Zt⟩), Zl, Zl, Zt⟩), ⟨Zp, Zp, Zp, Zt⟩⟩)))
 replace h := condF h hc4
 refine Zr (Zq (y_eql q q) q (Za q q (Zn (wc_cond q (fun hc5 => ?_) (fun hc5 => ?_)))))
 replace h := condT h hc5
 exact wc_region (Zq (y_fieldAddr f179_1 q) q (WL.s0 (d_store q q q q q q s146 q q) (Zw q) q (WL.st (st' := [.row 182 (txW jv0 jv1 jv2 jv3 jv4 jv5 jv6 jv7 jv8 jv9 jv10 jent (IntKind.i64.wrap (jleft - 1))), .row 180 [.pt 0 0], .row 179 [.d (D.i .u8 e1.kind), .d (D.i .u8 18), .n 0, .n 0, .n 0, .n 0, .n 0, .n 0, sN]]) q (Za q q (WL.nil (we_blk (we_lp ⟨1, 18, 0, 0, 0, h, (Sx q (Sx q (Sub.nil _))), ⟨Zp, Zp, Zp, Zt⟩⟩)))))))
 replace h := condF h hc5
 refine Zr (Zq (y_eql q q) q (Za q q (Zn (wc_cond q (fun hc6 => ?_) (fun hc6 => ?_)))))
 replace h := condT h hc6
 exact wc_region (Zq (y_fieldAddrc f179_1 q) q (Zq (y_loadc q a146 q) q (Zq (y_min q q q) q (Zq (y_max q q q) q (Zq (y_fieldAddr f179_1 q) q (WL.s0 (d_store q q q q q q s146 q q) (Zw q) q (WL.st (st' := [.row 182 (txW jv0 jv1 jv2 jv3 jv4 jv5 jv6 jv7 jv8 jv9 jv10 jent (IntKind.i64.wrap (jleft - 1))), .row 180 [.pt 0 0], .row 179 [.d (D.i .u8 e1.kind), .d (D.i .u8 (if (if 15 < e1.op then 15 else e1.op) > 7 then (if 15 < e1.op then 15 else e1.op) else 7)), .n 0, .n 0, .n 0, .n 0, .n 0, .n 0, sN]]) q (Za q q (WL.nil (we_blk (we_lp ⟨2, (if (if 15 < e1.op then 15 else e1.op) > 7 then (if 15 < e1.op then 15 else e1.op) else 7), 0, 0, 0, h, (Sx q (Sx q (Sub.nil _))), ⟨Zp, Zp, Zp, Zt⟩⟩)))))))))))
 replace h := condF h hc6
 replace h := letkS h
 obtain ⟨k117, hk117, h⟩ := h
 refine wc_cut (fun env' st' => ∃ (t116 : Bool), k117 t116 = some r ∧ Sub [(4, .pt 2 0), (78, .d (D.b t116))] env' ∧ SLe st' [.row 182 (txW jv0 jv1 jv2 jv3 jv4 jv5 jv6 jv7 jv8 jv9 jv10 jent (IntKind.i64.wrap (jleft - 1))), .row 180 [.pt 0 0], .row 179 [.d (D.i .u8 e1.kind), .d (D.i .u8 0), .n 0, .n 0, .n 0, .n 0, .n 0, .n 0, sN]]) ?_ ?_
 refine Zr (Zq (y_eql q q) q (Za q q (Zn (wc_cond q (fun hc7 => ?_) (fun hc7 => ?_)))))
 replace h := condT h hc7
 exact wc_skip (we_lp ⟨(decide (e1.kind = 6)), h, (Sx q (Sx q (Sub.nil _))), ⟨Zp, Zp, Zp, Zt⟩⟩)
 replace h := condF h hc7
 exact wc_region (Zq (y_eql q q) q (Za q q (WL.nil (we_lp ⟨(decide (e1.kind = 7)), h, (Sx q (Sx q (Sub.nil _))), ⟨Zp, Zp, Zp, Zt⟩⟩))))
 rintro env1 st1 ⟨t116, h, hsub, hst⟩
 subst hk117
 dsimp only at h
 refine WC.sub hsub (WC.weak hst ?_)
 refine wc_cond q (fun hc8 => ?_) (fun hc8 => ?_)
 replace h := condT h hc8
 exact wc_region (Za q q (WL.nil (we_blk (we_lp ⟨2, 0, 0, 0, 0, h, (Sx q (Sx q (Sub.nil _))), ⟨Zp, Zp, Zp, Zt⟩⟩))))
 replace h := condF h hc8
 exact Zr (Zq (y_loadN q q a179 s179 q) q (WL.s0 (d_store q q q q q q s179 q q) (Zw q) q (WL.st (st' := [.row 182 (txW jv0 jv1 jv2 jv3 jv4 jv5 jv6 jv7 jv8 jv9 jv10 jent (IntKind.i64.wrap (jleft - 1))), .row 180 [.pt 0 0], .row 179 [.d (D.i .u8 e1.kind), .d (D.i .u8 0), .n 0, .n 0, .n 0, .n 0, .n 0, .n 0, sN]]) q (Za q q (Za q q (Zn (wc_ret (we_blk_ret (we_lp_ret (we_ret (rs3 q (rv_cN q q a179 s179 q) (rv_t q) (rv_t q)) ⟨false, 0, (CExpr.mk e1.kind 0 0 0 0 0 0 0 []), 0, 0, 0, 0, h, (Le.tu ⟨(Le.agd ⟨Zl, Zl, Zl, Zl, Zl, Zl, Zl, Zl, Le.nil, Zt⟩), Zl, Zl, Zt⟩), ⟨Zp, Zp, Zp, Zt⟩⟩))))))))))
 rintro env1 st1 ⟨parts105, c21106, c22107, c23108, c24109, h, hsub, hst⟩
 subst hk110
 dsimp only at h
 refine WC.sub hsub (WC.weak hst ?_)
 exact Zr (Zq (y_loadN q q a179 s179 q) q (Zm q q (WL.s0 (d_store q q q q q q s179 q q) (Zw q) q (WL.st (st' := [.row 182 (txW jv0 jv1 jv2 jv3 jv4 jv5 jv6 jv7 jv8 jv9 jv10 jent (IntKind.i64.wrap (jleft - 1))), .row 180 [.pt 0 0], .row 179 [.d (D.i .u8 e1.kind), .d (D.i .u8 c21106), .n c22107, .n c23108, .n c24109, .n 0, .n 0, .n 0, sN]]) q (Za q q (Za q q (Zn (wc_ret (we_ret (rs3 q (rv_cN q q a179 s179 q) (rv_t q) (rv_t q)) ⟨true, parts105, (CExpr.mk e1.kind c21106 c22107 c23108 c24109 0 0 0 []), c21106, c22107, c23108, c24109, h, (Le.tu ⟨(Le.agd ⟨Zl, Zl, Zl, Zl, Zl, Zl, Zl, Zl, Le.nil, Zt⟩), Zl, Zl, Zt⟩), ⟨Zp, Zp, Zp, Zt⟩⟩)))))))))
 rintro rv st1 ⟨t97, t98, t99, c21100, c22101, c23102, c24103, h, hr, hst⟩
 subst hk104
 dsimp only at h
 refine WL.cast 20 q hr (WL.weak hst (Zm q q (Zq (y_extract q q) q (Zq (y_extract q q) q (Zq (y_extract q q) q (WL.s ((b_alloc z179).does) (Zw q) q q (WL.s0 (d_store q q q q q q s179 q q) (Zw q) q (WL.st (st' := [.row 182 (txW jv0 jv1 jv2 jv3 jv4 jv5 jv6 jv7 jv8 jv9 jv10 jent (IntKind.i64.wrap (jleft - 1))), .row 180 [.pt 0 0], .row 179 [.d (D.i .u8 e1.kind), .d (D.i .u8 c21100), .n c22101, .n c23102, .n c24103, .n 0, .n 0, .n 0, sN], .row 179 [.d (D.i .u8 t99.kind), .d (D.i .u8 t99.op), .n t99.n, .n t99.o, .n t99.off, .n t99.len, .n t99.lo, .n t99.hi, .l E179 t99.l]]) q (Za q q (Za q q (Zn (wc_seq (Zr (Zq (y_load q q a180 q) q (Zq (y_nilCheckp q) q (Zq (y_fieldAddr f182_2 q) q (Zq (y_load q q a3 q) q (Zq (y_lss q q) q (Zm q q ?_)))))))))))))))))))
 apply WL.or 3 (t := 29) (d := 32)
 exact q
 intro hg29
 exact Zy (y_loadc q a3 q) q q q (Zy (y_gtr q q) q q q (Zq (y_pick_f q q) q (WL.nil ⟨q, [_, _, _], q, q, q⟩)))
 exact WL.skips 2 q (Zq (y_pick_t q q) q (WL.nil ⟨q, [_, _, _], q, q, q⟩))
 refine Zm q q ?_
 apply WL.or 3 (t := 33) (d := 36)
 exact q
 intro hg33
 exact Zy (y_move q) q q q (Zy (y_not q) q q q (Zq (y_pick_f q q) q (WL.nil ⟨q, [_, _, _], q, q, q⟩)))
 exact WL.skips 2 q (Zq (y_pick_t q q) q (WL.nil ⟨q, [_, _, _], q, q, q⟩))
 refine Zm q q ?_
 apply WL.or 6 (t := 37) (d := 43)
 exact q
 intro hg37
 exact Zy (y_fieldAddrc f179_8 q) q q q (Zy (y_loadc q a162 q) q q q (Zy (y_len_map E179 e1.l e162 q q Zl) q q q (Zy (y_move q) q q q (Zy (y_neq q q) q q q (Zq (y_pick_f q q) q (WL.nil ⟨q, [_, _, _, _, _, _], q, q, q⟩))))))
 exact WL.skips 5 q (Zq (y_pick_t q q) q (WL.nil ⟨q, [_, _, _, _, _, _], q, q, q⟩))
 refine Zm q q ?_
 apply WL.or 6 (t := 44) (d := 50)
 exact q
 intro hg44
 exact Zy (y_fieldAddrc f179_1 q) q q q (Zy (y_loadc q a146 q) q q q (Zy (y_fieldAddr f179_1 q) q q q (Zy (y_load q q a146 q) q q q (Zy (y_neq q q) q q q (Zq (y_pick_f q q) q (WL.nil ⟨q, [_, _, _, _, _, _], q, q, q⟩))))))
 exact WL.skips 5 q (Zq (y_pick_t q q) q (WL.nil ⟨q, [_, _, _, _, _, _], q, q, q⟩))
 refine Zm q q ?_
 apply WL.or 6 (t := 51) (d := 57)
 exact q
 intro hg51
 exact Zy (y_fieldAddrc f179_2 q) q q q (Zy (y_loadc q a2 q) q q q (Zy (y_fieldAddr f179_2 q) q q q (Zy (y_load q q a2 q) q q q (Zy (y_neq q q) q q q (Zq (y_pick_f q q) q (WL.nil ⟨q, [_, _, _, _, _, _], q, q, q⟩))))))
 exact WL.skips 5 q (Zq (y_pick_t q q) q (WL.nil ⟨q, [_, _, _, _, _, _], q, q, q⟩))
 refine Zm q q ?_
 apply WL.or 6 (t := 58) (d := 64)
 exact q
 intro hg58
 exact Zy (y_fieldAddrc f179_3 q) q q q (Zy (y_loadc q a3 q) q q q (Zy (y_fieldAddr f179_3 q) q q q (Zy (y_load q q a3 q) q q q (Zy (y_neq q q) q q q (Zq (y_pick_f q q) q (WL.nil ⟨q, [_, _, _, _, _, _], q, q, q⟩))))))
 exact WL.skips 5 q (Zq (y_pick_t q q) q (WL.nil ⟨q, [_, _, _, _, _, _], q, q, q⟩))
 refine Zm q q ?_
 apply WL.or 6 (t := 65) (d := 71)
 exact q
 intro hg65
 exact Zy (y_fieldAddrc f179_4 q) q q q (Zy (y_loadc q a3 q) q q q (Zy (y_fieldAddr f179_4 q) q q q (Zy (y_load q q a3 q) q q q (Zy (y_neq q q) q q q (Zq (y_pick_f q q) q (WL.nil ⟨q, [_, _, _, _, _, _], q, q, q⟩))))))
 exact WL.skips 5 q (Zq (y_pick_t q q) q (WL.nil ⟨q, [_, _, _, _, _, _], q, q, q⟩))
 refine Zm q q ?_
 apply WL.or 4 (t := 72) (d := 76)
 exact q
 intro hg72
 exact Zy (y_fieldAddrc f179_5 q) q q q (Zy (y_loadc q a3 q) q q q (Zy (y_neq q q) q q q (Zq (y_pick_f q q) q (WL.nil ⟨q, [_, _, _, _], q, q, q⟩))))
 exact WL.skips 3 q (Zq (y_pick_t q q) q (WL.nil ⟨q, [_, _, _, _], q, q, q⟩))
 refine Zm q q ?_
 apply WL.or 4 (t := 77) (d := 81)
 exact q
 intro hg77
 exact Zy (y_fieldAddrc f179_6 q) q q q (Zy (y_loadc q a2 q) q q q (Zy (y_neq q q) q q q (Zq (y_pick_f q q) q (WL.nil ⟨q, [_, _, _, _], q, q, q⟩))))
 exact WL.skips 3 q (Zq (y_pick_t q q) q (WL.nil ⟨q, [_, _, _, _], q, q, q⟩))
 refine Zm q q ?_
 apply WL.or 4 (t := 82) (d := 86)
 exact q
 intro hg82
 exact Zy (y_fieldAddrc f179_7 q) q q q (Zy (y_loadc q a2 q) q q q (Zy (y_neq q q) q q q (Zq (y_pick_f q q) q (WL.nil ⟨q, [_, _, _, _], q, q, q⟩))))
 exact WL.skips 3 q (Zq (y_pick_t q q) q (WL.nil ⟨q, [_, _, _, _], q, q, q⟩))
 refine Zn (wc_cond q (fun hc9 => ?_) (fun hc9 => ?_))
 replace h := condT h hc9
 refine Zr (Za q q (Zn (wc_ret (we_seq_ret ?_))))
 obtain rfl := Oi h
 exact we_ret_winx 0 (rs1 q (rv_t q)) Zl q ⟨Zp, Zt⟩
 replace h := condF h hc9
 refine wc_skip (we_seq (Zr (Zq (y_fieldAddrc f179_8 q) q (Zq (y_loadc q a162 q) q (Zq (y_makeFunc q q) q ?_)))))
 obtain ⟨k133, hk133, h⟩ := letkS h
 refine WL.inl (us := [.l E179 e1.l, .fn (.func 153) [] [.pt 1 0, .d (.pc (E3 deep2))]]) (fun rv st' => (∃ (t119 : Bool), ∃ (c00120 : List Insn), ∃ (c01121 : List MHandler), ∃ (c02122 : List Loop), ∃ (c03123 : List Select), ∃ (c04124 : List (List Int)), ∃ (c05125 : List Obj), ∃ (c06126 : List Init), ∃ (c07127 : Int), ∃ (c08128 : List MTask), ∃ (c09129 : List MProt), ∃ (c010130 : List Check), ∃ (c011131 : Int), ∃ (c012132 : Int), k133 t119 c00120 c01121 c02122 c03123 c04124 c05125 c06126 c07127 c08128 c09129 c010130 c011131 c012132 = some r ∧ Le rv (.d (D.b t119)) ∧ SLe st' [.row 182 (txW c00120 c01121 c02122 c03123 c04124 c05125 c06126 c07127 c08128 c09129 c010130 c011131 c012132), .row 180 [.pt 0 0], .row 179 [.d (D.i .u8 e1.kind), .d (D.i .u8 c21100), .n c22101, .n c23102, .n c24103, .n 0, .n 0, .n 0, sN], .row 179 [.d (D.i .u8 t99.kind), .d (D.i .u8 t99.op), .n t99.n, .n t99.o, .n t99.off, .n t99.len, .n t99.lo, .n t99.hi, .l E179 t99.l]])) q q q q q ?_ (Zw q) q q ?_
 refine ctr_intro Tryz.func152 (by kernel_rfl) q q q (fun mm φφ ww hm118 => ?_)
 refine Zr (Za q q (Zn (Zr (Zm q q (Zm q q ?_)))))
 obtain ⟨k149, hk149, h⟩ := letkS h
 refine WL.inl (us := [.l E179 e1.l, .fn (.func 153) [] [.pt 1 0, .d (.pc (E3 deep2))]]) (fun rv st' => (∃ (t135 : Int), ∃ (c00136 : List Insn), ∃ (c01137 : List MHandler), ∃ (c02138 : List Loop), ∃ (c03139 : List Select), ∃ (c04140 : List (List Int)), ∃ (c05141 : List Obj), ∃ (c06142 : List Init), ∃ (c07143 : Int), ∃ (c08144 : List MTask), ∃ (c09145 : List MProt), ∃ (c010146 : List Check), ∃ (c011147 : Int), ∃ (c012148 : Int), k149 t135 c00136 c01137 c02138 c03139 c04140 c05141 c06142 c07143 c08144 c09145 c010146 c011147 c012148 = some r ∧ Le rv (.n t135) ∧ SLe st' [.row 182 (txW c00136 c01137 c02138 c03139 c04140 c05141 c06142 c07143 c08144 c09145 c010146 c011147 c012148), .row 180 [.pt 0 0], .row 179 [.d (D.i .u8 e1.kind), .d (D.i .u8 c21100), .n c22101, .n c23102, .n c24103, .n 0, .n 0, .n 0, sN], .row 179 [.d (D.i .u8 t99.kind), .d (D.i .u8 t99.op), .n t99.n, .n t99.o, .n t99.off, .n t99.len, .n t99.lo, .n t99.hi, .l E179 t99.l]])) q q q q q ?_ (Zw q) q q ?_
 refine ctr_intro Tryz.func174 (by kernel_rfl) q q q (fun mm φφ ww hm134 => ?_)
 refine Zr (Za q q (Zn ?_))
 replace h := letkS h
 obtain ⟨k163, hk163, h⟩ := h
 refine wc_cut (fun env' st' => ∃ (c00150 : List Insn), ∃ (c01151 : List MHandler), ∃ (c02152 : List Loop), ∃ (c03153 : List Select), ∃ (c04154 : List (List Int)), ∃ (c05155 : List Obj), ∃ (c06156 : List Init), ∃ (c07157 : Int), ∃ (c08158 : List MTask), ∃ (c09159 : List MProt), ∃ (c010160 : List Check), ∃ (c011161 : Int), ∃ (c012162 : Int), k163 c00150 c01151 c02152 c03153 c04154 c05155 c06156 c07157 c08158 c09159 c010160 c011161 c012162 = some r ∧ Sub [] env' ∧ SLe st' [.row 182 (txW c00150 c01151 c02152 c03153 c04154 c05155 c06156 c07157 c08158 c09159 c010160 c011161 c012162), .row 180 [.pt 0 0], .row 179 [.d (D.i .u8 e1.kind), .d (D.i .u8 c21100), .n c22101, .n c23102, .n c24103, .n 0, .n 0, .n 0, sN], .row 179 [.d (D.i .u8 t99.kind), .d (D.i .u8 t99.op), .n t99.n, .n t99.o, .n t99.off, .n t99.len, .n t99.lo, .n t99.hi, .l E179 t99.l]]) ?_ ?_
 refine Zr (Zm q q (Zq (y_len_map E179 e1.l e162 q q Zl) q (Zm q q (Zn (wc_block ?_)))))
 refine wc_loop (fun n env' st' => ∃ (t178 : Int), ∃ (c00179 : List Insn), ∃ (c01180 : List MHandler), ∃ (c02181 : List Loop), ∃ (c03182 : List Select), ∃ (c04183 : List (List Int)), ∃ (c05184 : List Obj), ∃ (c06185 : List Init), ∃ (c07186 : Int), ∃ (c08187 : List MTask), ∃ (c09188 : List MProt), ∃ (c010189 : List Check), ∃ (c011190 : Int), ∃ (c012191 : Int), f116s_l1 rec116 e1 deep2 k149 k163 n t178 c00179 c01180 c02181 c03182 c04183 c05184 c06185 c07186 c08187 c09188 c010189 c011190 c012191 = some r ∧ Sub [(0, .l E179 e1.l), (1, .fn (.func 153) [] [.pt 1 0, .d (.pc (E3 deep2))]), (7, .n (List.length e1.l : Int)), (8, .n t178)] env' ∧ SLe st' [.row 182 (txW c00179 c01180 c02181 c03182 c04183 c05184 c06185 c07186 c08187 c09188 c010189 c011190 c012191), .row 180 [.pt 0 0], .row 179 [.d (D.i .u8 e1.kind), .d (D.i .u8 c21100), .n c22101, .n c23102, .n c24103, .n 0, .n 0, .n 0, sN], .row 179 [.d (D.i .u8 t99.kind), .d (D.i .u8 t99.op), .n t99.n, .n t99.o, .n t99.off, .n t99.len, .n t99.lo, .n t99.hi, .l E179 t99.l]]) (fun n => n) (Int.toNat ((List.length e1.l : Int) - 0) + 1) ⟨0, jv0, jv1, jv2, jv3, jv4, jv5, jv6, jv7, jv8, jv9, jv10, jent, (IntKind.i64.wrap (jleft - 1)), h, (Sx q (Sx q (Sx q (Sx q (Sub.nil _))))), ⟨Zp, Zp, Zp, Zp, Zt⟩⟩ ?_
 rintro n env1 st1 ⟨t178, c00179, c01180, c02181, c03182, c04183, c05184, c06185, c07186, c08187, c09188, c010189, c011190, c012191, h, hsub, hst⟩
 rcases n with _ | n
 rw [f116s_l1] at h; cases h
 rw [f116s_l1] at h
 refine WC.sub hsub (WC.weak hst ?_)
 refine Zr (Zq (y_lss q q) q (Zn (wc_seq (wc_cond q (fun hc10 => ?_) (fun hc10 => ?_)))))
 replace h := condT h hc10
 refine wc_skip (we_seq (wc_seq (wc_block (Zr (Zm q q (Za q q (Zn (Zr (Zm q q (Zm q q (Zm q q ?_)))))))))))
 obtain ⟨x206, hx206, h⟩ := bindS h
 refine Zq (y_indexAddr e162 q Zl q (idx_nonneg hx206) (idx_row E179_eq hx206) q) q (Zq (y_loadcN q a179 s179 q) q ?_)
 obtain ⟨k222, hk222, h⟩ := letkS h
 refine WL.inl (us := [.d (.ag (R179 x206)), .pt 1 0, .d (.pc (E3 deep2))]) (fun rv st' => (∃ (t208 : Bool), ∃ (c00209 : List Insn), ∃ (c01210 : List MHandler), ∃ (c02211 : List Loop), ∃ (c03212 : List Select), ∃ (c04213 : List (List Int)), ∃ (c05214 : List Obj), ∃ (c06215 : List Init), ∃ (c07216 : Int), ∃ (c08217 : List MTask), ∃ (c09218 : List MProt), ∃ (c010219 : List Check), ∃ (c011220 : Int), ∃ (c012221 : Int), k222 t208 c00209 c01210 c02211 c03212 c04213 c05214 c06215 c07216 c08217 c09218 c010219 c011220 c012221 = some r ∧ Le rv (.d (D.b t208)) ∧ SLe st' [.row 182 (txW c00209 c01210 c02211 c03212 c04213 c05214 c06215 c07216 c08217 c09218 c010219 c011220 c012221), .row 180 [.pt 0 0], .row 179 [.d (D.i .u8 e1.kind), .d (D.i .u8 c21100), .n c22101, .n c23102, .n c24103, .n 0, .n 0, .n 0, sN], .row 179 [.d (D.i .u8 t99.kind), .d (D.i .u8 t99.op), .n t99.n, .n t99.o, .n t99.off, .n t99.len, .n t99.lo, .n t99.hi, .l E179 t99.l]])) q q q q q ?_ (Zw q) q q ?_
 refine ctr_intro Tryz.func153 (by kernel_rfl) q q q (fun mm φφ ww hm207 => ?_)
 refine Zr (WL.s ((b_boxd q q (Zs _)).does) (Zw q) q q (Za q q (Zn (Zr (Zq (y_load q q a180 q) q (Zq (y_loadcN q a179 s179 q) q (Zq (y_loadc q a3 q) q (Zq (y_add q q q) q ?_))))))))
 obtain ⟨r223, hr223, h⟩ := bindS h
 refine WL.winy [0] q q q q (hrec116 _ _ _ _ _ _ _ _ _ _ _ _ _ _ _ _ hr223) ⟨Zl, Zl, Zl, Zt⟩ q (by decide) (cons_eq q q) ⟨q, Zt⟩ q q (fun _ => q) (fun _ => (cons_eq q q)) (Zw q) q q (fun ver223 => ?_)
 exact Zq (y_not q) q (Za q q (Zn (wc_ret (we_ret (rs1 q (rv_t q)) ⟨(!r223.1), r223.2.1, r223.2.2.1, r223.2.2.2.1, r223.2.2.2.2.1, r223.2.2.2.2.2.1, r223.2.2.2.2.2.2.1, r223.2.2.2.2.2.2.2.1, r223.2.2.2.2.2.2.2.2.1, r223.2.2.2.2.2.2.2.2.2.1, r223.2.2.2.2.2.2.2.2.2.2.1, r223.2.2.2.2.2.2.2.2.2.2.2.1, r223.2.2.2.2.2.2.2.2.2.2.2.2.1, r223.2.2.2.2.2.2.2.2.2.2.2.2.2, h, Zl, ⟨Zp, Zp, Zp, Zp, Zt⟩⟩))))
 rintro rv st1 ⟨t208, c00209, c01210, c02211, c03212, c04213, c05214, c06215, c07216, c08217, c09218, c010219, c011220, c012221, h, hr, hst⟩
 subst hk222
 dsimp only at h
 refine WL.cast 16 q hr (WL.weak hst (Zn (wc_cond q (fun hc11 => ?_) (fun hc11 => ?_))))
 replace h := condT h hc11
 exact Zr (Zm q q (Za q q (Zn (wc_ret (we_blk_ret (we_seq_ret (we_lp_ret (we_blk_ret (we_lp_ret (we_ret (rs1 q (rv_t q)) ⟨t178, c00209, c01210, c02211, c03212, c04213, c05214, c06215, c07216, c08217, c09218, c010219, c011220, c012221, h, Zl, ⟨Zp, Zp, Zp, Zp, Zt⟩⟩))))))))))
 replace h := condF h hc11
 exact wc_skip (we_blk (we_seq (wc_region (Zq (y_add q q q) q (Zm q q (WL.nil (we_lp ⟨n, ⟨(IntKind.i64.wrap (t178 + 1)), c00209, c01210, c02211, c03212, c04213, c05214, c06215, c07216, c08217, c09218, c010219, c011220, c012221, h, (Sx q (Sx q (Sx q (Sx q (Sub.nil _))))), ⟨Zp, Zp, Zp, Zp, Zt⟩⟩, Nat.lt_succ_self n⟩)))))))
 replace h := condF h hc10
 exact wc_exit (we_seq_exit (we_lp_exit (we_blk_hit (we_lp ⟨c00179, c01180, c02181, c03182, c04183, c05184, c06185, c07186, c08187, c09188, c010189, c011190, c012191, h, (Sub.nil _), ⟨Zp, Zp, Zp, Zp, Zt⟩⟩))))
 rintro env1 st1 ⟨c00150, c01151, c02152, c03153, c04154, c05155, c06156, c07157, c08158, c09159, c010160, c011161, c012162, h, hsub, hst⟩
 subst hk163
 dsimp only at h
 refine WC.sub hsub (WC.weak hst ?_)
 exact Zr (Za q q (Zn (wc_ret (we_ret (rs1 q (rv_t q)) ⟨(-1), c00150, c01151, c02152, c03153, c04154, c05155, c06156, c07157, c08158, c09159, c010160, c011161, c012162, h, Zl, ⟨Zp, Zp, Zp, Zp, Zt⟩⟩))))
 rintro rv st1 ⟨t135, c00136, c01137, c02138, c03139, c04140, c05141, c06142, c07143, c08144, c09145, c010146, c011147, c012148, h, hr, hst⟩
 subst hk149
 dsimp only at h
 exact WL.cast 7 q hr (WL.weak hst (Zq (y_geq q q) q (Za q q (Zn (wc_ret (we_ret (rs1 q (rv_t q)) ⟨(decide (t135 ≥ 0)), c00136, c01137, c02138, c03139, c04140, c05141, c06142, c07143, c08144, c09145, c010146, c011147, c012148, h, Zl, ⟨Zp, Zp, Zp, Zp, Zt⟩⟩))))))
 rintro rv st1 ⟨t119, c00120, c01121, c02122, c03123, c04124, c05125, c06126, c07127, c08128, c09129, c010130, c011131, c012132, h, hr, hst⟩
 subst hk133
 dsimp only at h
 refine WL.cast 90 q hr (WL.weak hst (Zq (y_not q) q (Za q q (Zn (wc_ret ?_)))))
 obtain rfl := Oi h
 exact we_ret_winx 0 (rs1 q (rv_t q)) Zl q ⟨Zp, Zt⟩

theorem f116_c : ∀ (n : Nat) (jv0 : List Insn) (jv1 : List MHandler) (jv2 : List Loop) (jv3 : List Select) (jv4 : List (List Int)) (jv5 : List Obj) (jv6 : List Init) (jv7 : Int) (jv8 : List MTask) (jv9 : List MProt) (jv10 : List Check) (jent : Int) (jleft : Int) (x1 : CExpr) (x2 : Int) {r : Bool × (List Insn) × (List MHandler) × (List Loop) × (List Select) × (List (List Int)) × (List Obj) × (List Init) × Int × (List MTask) × (List MProt) × (List Check) × Int × Int}, f116 n jv0 jv1 jv2 jv3 jv4 jv5 jv6 jv7 jv8 jv9 jv10 jent jleft x1 x2 = some r → Ctr Tryz.prog 116 [.pt 0 0, .d (.ag (R179 x1)), .n x2] [.row 182 (txW jv0 jv1 jv2 jv3 jv4 jv5 jv6 jv7 jv8 jv9 jv10 jent jleft)] (WinX 1 (.b r.1) (fun _ => [.row 182 (txW r.2.1 r.2.2.1 r.2.2.2.1 r.2.2.2.2.1 r.2.2.2.2.2.1 r.2.2.2.2.2.2.1 r.2.2.2.2.2.2.2.1 r.2.2.2.2.2.2.2.2.1 r.2.2.2.2.2.2.2.2.2.1 r.2.2.2.2.2.2.2.2.2.2.1 r.2.2.2.2.2.2.2.2.2.2.2.1 r.2.2.2.2.2.2.2.2.2.2.2.2.1 r.2.2.2.2.2.2.2.2.2.2.2.2.2)]))
 | 0, _, _, _, _, _, _, _, _, _, _, _, _, _, _, _, _, h => by cases h
 | n + 1, jv0, jv1, jv2, jv3, jv4, jv5, jv6, jv7, jv8, jv9, jv10, jent, jleft, x1, x2, _, h => f116s_c (f116 n) jv0 jv1 jv2 jv3 jv4 jv5 jv6 jv7 jv8 jv9 jv10 jent jleft x1 x2 (fun jv0 jv1 jv2 jv3 jv4 jv5 jv6 jv7 jv8 jv9 jv10 jent jleft x1 x2 _ h => f116_c n jv0 jv1 jv2 jv3 jv4 jv5 jv6 jv7 jv8 jv9 jv10 jent jleft x1 x2 h) h

theorem f71_c (t0 : View) {r : Bool} (h : f71 t0 = some r) : Pu Tryz.prog 71 [.ag (R135 t0)] (.b r) := by
 unfold f71 at h
 refine fn_intro Tryz.func71 (by kernel_rfl) q q q (fun φφ ww => ?_)
 refine Zr (WL.s ((b_boxd q q (Zs _)).does) (Zw q) q q (Za q q (Zn ?_)))
 replace h := letkS h
 obtain ⟨k56, hk56, h⟩ := h
 refine wc_cut (fun env' st' => k56 () = some r ∧ Sub [(1, .d (.pc (R135 t0)))] env' ∧ SLe st' []) ?_ ?_
 refine Zr (Zq (y_fieldAddrc f135_0 q) q (Zq (y_fieldAddrc f38_9 q) q (Zq (y_loadc q a35 q) q (Zq (y_len_map E164 t0.text.prots e35 q q Zl) q (Zm q q (Zn (wc_block (wc_loop (fun n env' st' => ∃ (t58 : Int), f71_l1 t0 k56 n t58 = some r ∧ Sub [(1, .d (.pc (R135 t0))), (10, .l E164 t0.text.prots), (11, .n (List.length t0.text.prots : Int)), (12, .n t58)] env' ∧ SLe st' []) (fun n => n) (Int.toNat ((List.length t0.text.prots : Int) - 0) + 1) ⟨0, h, (Sx q (Sx q (Sx q (Sx q (Sub.nil _))))), Zt⟩ ?_))))))))
 rintro n env1 st1 ⟨t58, h, hsub, hst⟩
 rcases n with _ | n
 rw [f71_l1] at h; cases h
 rw [f71_l1] at h
 refine WC.sub hsub (WC.weak hst ?_)
 refine Zr (Zq (y_lss q q) q (Zn (wc_seq (wc_cond q (fun hc1 => ?_) (fun hc1 => ?_)))))
 replace h := condT h hc1
 refine wc_skip (we_seq ?_)
 replace h := letkS h
 obtain ⟨k62, hk62, h⟩ := h
 refine wc_cut (fun env' st' => ∃ (c0060 : Int), ∃ (c0161 : List CExpr), k62 c0060 c0161 = some r ∧ Sub [(1, .d (.pc (R135 t0))), (10, .l E164 t0.text.prots), (11, .n (List.length t0.text.prots : Int)), (12, .n t58)] env' ∧ SLe st' [.row 164 [.n c0060, .l E179 c0161]]) ?_ ?_
 refine wc_block (Zr ?_)
 obtain ⟨x63, hx63, h⟩ := bindS h
 refine Zq (y_indexAddr e35 q Zl q (idx_nonneg hx63) (idx_row E164_eq hx63) q) q (Zq (y_loadcN q a164 s164 q) q (WL.s ((b_alloc z164).does) (Zw q) q q (WL.s0 (d_store q q q q q q s164 q q) (Zw q) q (Zn (wc_seq (Zr (Zq (y_fieldAddr f164_0 q) q (Zq (y_load q q a3 q) q (Zq (y_lss q q) q (Zm q q ?_))))))))))
 apply WL.or 4 (t := 19) (d := 23)
 exact q
 intro hg19
 exact Zy (y_fieldAddr f164_0 q) q q q (Zy (y_load q q a3 q) q q q (Zy (y_gtr q q) q q q (Zq (y_pick_f q q) q (WL.nil ⟨q, [_, _, _, _], q, q, q⟩))))
 exact WL.skips 3 q (Zq (y_pick_t q q) q (WL.nil ⟨q, [_, _, _, _], q, q, q⟩))
 refine Zm q q ?_
 apply WL.or 5 (t := 24) (d := 29)
 exact q
 intro hg24
 exact Zy (y_fieldAddr f164_1 q) q q q (Zy (y_load q q a162 q) q q q (Zy (y_len_map E179 x63.barriers e162 q q Zl) q q q (Zy (y_gtr q q) q q q (Zq (y_pick_f q q) q (WL.nil ⟨q, [_, _, _, _, _], q, q, q⟩)))))
 exact WL.skips 4 q (Zq (y_pick_t q q) q (WL.nil ⟨q, [_, _, _, _, _], q, q, q⟩))
 refine Zn (wc_cond q (fun hc2 => ?_) (fun hc2 => ?_))
 replace h := condT h hc2
 refine Zr (Za q q (Zn (wc_ret (we_seq_ret (we_blk_ret (we_lp_ret (we_lp_ret (we_blk_ret (we_lp_ret ?_)))))))))
 obtain rfl := Oi h
 exact we_ret_fn (rs1 q (rv_t q)) Zl
 replace h := condF h hc2
 refine wc_skip (we_seq (Zr (Zq (y_fieldAddr f164_1 q) q (Zq (y_load q q a162 q) q (Zq (y_len_map E179 x63.barriers e162 q q Zl) q (Zm q q (Zn (wc_block (wc_loop (fun na env' st' => ∃ (t65 : Int), f71_l2 t0 k62 x63 na t65 = some r ∧ Sub [(1, .d (.pc (R135 t0))), (4, .pt 0 0), (10, .l E164 t0.text.prots), (11, .n (List.length t0.text.prots : Int)), (12, .n t58), (31, .l E179 x63.barriers), (32, .n (List.length x63.barriers : Int)), (33, .n t65)] env' ∧ SLe st' [.row 164 [.n x63.ceiling, .l E179 x63.barriers]]) (fun n => n) (Int.toNat ((List.length x63.barriers : Int) - 0) + 1) ⟨0, h, (Sx q (Sx q (Sx q (Sx q (Sx q (Sx q (Sx q (Sx q (Sub.nil _))))))))), ⟨Zp, Zt⟩⟩ ?_)))))))))
 rintro na env1 st1 ⟨t65, h, hsub, hst⟩
 rcases na with _ | na
 rw [f71_l2] at h; cases h
 rw [f71_l2] at h
 refine WC.sub hsub (WC.weak hst ?_)
 refine Zr (Zq (y_lss q q) q (Zn (wc_seq (wc_cond q (fun hc3 => ?_) (fun hc3 => ?_)))))
 replace h := condT h hc3
 refine wc_skip (we_seq (wc_seq (wc_block (Zr ?_))))
 obtain ⟨x67, hx67, h⟩ := bindS h
 refine Zq (y_indexAddr e162 q Zl q (idx_nonneg hx67) (idx_row E179_eq hx67) q) q (Zq (y_loadcN q a179 s179 q) q (WL.s ((b_alloc z179).does) (Zw q) q q (WL.s0 (d_store q q q q q q s179 q q) (Zw q) q (Zn (Zr (Zq (y_loadcN q a135 s135 q) q (Zq (y_fieldAddr f164_1 q) q (Zq (y_load q q a162 q) q (Zq (y_len_map E179 x63.barriers e162 q q Zl) q (Zq (y_build p182 z182 q q) q (WL.s ((b_box q q).does) (Zw q) q q (Za q q (Zn (Zr (Zm q q (Zq (y_loadN q q a179 s179 q) q ?_))))))))))))))))
 obtain ⟨r68, hr68, h⟩ := bindS h
 refine WL.winy [2] q q q q (f116_c 66 _ _ _ _ _ _ _ _ _ _ _ _ _ _ _ hr68) ⟨Zl, (Le.agd ⟨Zl, Zl, Zl, Zl, Zl, Zl, Zl, Zl, Zl, Zt⟩), Zl, Zt⟩ q (by decide) (cons_eq q q) ⟨q, Zt⟩ q q (fun _ => q) (fun _ => (cons_eq q q)) (Zw q) q q (fun ver68 => ?_)
 refine Zq (y_not q) q (Zn (wc_cond q (fun hc4 => ?_) (fun hc4 => ?_)))
 replace h := condT h hc4
 refine Zr (Za q q (Zn (wc_ret (we_blk_ret (we_seq_ret (we_lp_ret (we_blk_ret (we_blk_ret (we_lp_ret (we_lp_ret (we_blk_ret (we_lp_ret ?_))))))))))))
 obtain rfl := Oi h
 exact we_ret_fn (rs1 q (rv_t q)) Zl
 replace h := condF h hc4
 exact wc_skip (we_blk (we_seq (wc_region (Zq (y_add q q q) q (Zm q q (WL.nil (WE.drop 1 (env' := [(1, .d (.pc (R135 t0))), (4, .pt 0 0), (10, .l E164 t0.text.prots), (11, .n (List.length t0.text.prots : Int)), (12, .n t58), (31, .l E179 x63.barriers), (32, .n (List.length x63.barriers : Int)), (33, .n (IntKind.i64.wrap (t65 + 1)))]) (Sub.one q (Sub.one q (Sub.one q (Sub.one q (Sub.one q (Sub.one q (Sub.one q (Sub.one q (Sub.nil _))))))))) q q (Nat.zero_le _) (we_lp ⟨na, ⟨(IntKind.i64.wrap (t65 + 1)), h, (Sx q (Sx q (Sx q (Sx q (Sx q (Sx q (Sx q (Sx q (Sub.nil _))))))))), ⟨Zp, Zt⟩⟩, Nat.lt_succ_self na⟩))))))))
 replace h := condF h hc3
 exact wc_exit (we_seq_exit (we_lp_exit (we_blk_hit (we_blk (we_lp ⟨x63.ceiling, x63.barriers, h, (Sx q (Sx q (Sx q (Sx q (Sub.nil _))))), ⟨Zp, Zt⟩⟩)))))
 rintro env1 st1 ⟨c0060, c0161, h, hsub, hst⟩
 subst hk62
 dsimp only at h
 refine WC.sub hsub (WC.weak hst ?_)
 exact wc_region (Zq (y_add q q q) q (Zm q q (WL.nil (WE.drop 0 (env' := [(1, .d (.pc (R135 t0))), (10, .l E164 t0.text.prots), (11, .n (List.length t0.text.prots : Int)), (12, .n (IntKind.i64.wrap (t58 + 1)))]) (Sub.one q (Sub.one q (Sub.one q (Sub.one q (Sub.nil _))))) q q (Nat.zero_le _) (we_lp ⟨n, ⟨(IntKind.i64.wrap (t58 + 1)), h, (Sx q (Sx q (Sx q (Sx q (Sub.nil _))))), Zt⟩, Nat.lt_succ_self n⟩)))))
 replace h := condF h hc1
 exact wc_exit (we_seq_exit (we_lp_exit (we_blk_hit (we_lp ⟨h, (Sx q (Sub.nil _)), Zt⟩))))
 rintro env1 st1 ⟨h, hsub, hst⟩
 subst hk56
 dsimp only at h
 refine WC.sub hsub (WC.weak hst ?_)
 refine Zr (Zq (y_fieldAddrc f135_0 q) q (Zq (y_fieldAddrc f38_9 q) q (Zq (y_loadc q a35 q) q (Zq (y_len_map E164 t0.text.prots e35 q q Zl) q (Zq (y_leq q q) q (Za q q (Zn (wc_ret ?_))))))))
 obtain rfl := Oi h
 exact we_ret_fn (rs1 q (rv_t q)) Zl

theorem f155_c (n0 : Int) (cap1 : View) (cap2 : Int) {r : Bool} (h : f155 n0 cap1 cap2 = some r) : Pu Tryz.prog 155 [.i .i64 n0, .pc (R135 cap1), .pc (E3 cap2)] (.b r) := by
 unfold f155 at h
 refine fn_intro Tryz.func155 (by kernel_rfl) q q q (fun φφ ww => ?_)
 refine Zr (Za q q (Zn (Zr (Zq (y_loadcN q a135 s135 q) q (Zq (y_loadc q a3 q) q (Zm q q ?_))))))
 obtain ⟨r11, hr11, h⟩ := bindS h
 refine WL.fn q q q q (f111_c _ _ _ _ hr11) ⟨Zl, Zl, Zl, Zl, Zt⟩ (Zw q) q q (Za q q (Zn (wc_ret ?_)))
 obtain rfl := Oi h
 exact we_ret_fn (rs1 q (rv_t q)) Zl

theorem f119_c (t0 : View) (obj1 : Int) (a2 : MAlt) {r : Bool} (h : f119 t0 obj1 a2 = some r) : Pu Tryz.prog 119 [.ag (R135 t0), .i .i64 obj1, .ag (R158 a2)] (.b r) := by
 unfold f119 at h
 refine fn_intro Tryz.func119 (by kernel_rfl) q q q (fun φφ ww => ?_)
 refine Zr (WL.s ((b_boxd q q (Zs _)).does) (Zw q) q q (WL.s ((b_boxd q q (by exact (show Les [.n obj1] (List.map AV.d [.i .i64 obj1]) from ⟨Zl, Zt⟩))).does) (Zw q) q q (WL.s ((b_boxd q q (Zs _)).does) (Zw q) q q (Za q q (Zn (Zr (Zq (y_makeFunc q q) q (Za q q (Zn (wc_seq (Zr (Zq (y_loadcN q a135 s135 q) q (Zq (y_fieldAddrc f158_4 q) q (Zq (y_loadc q a3 q) q (WL.fn q q q q (f112_c _ _) ⟨Zl, Zl, Zt⟩ (Zw q) q q (Zq (y_not q) q (Zm q q ?_)))))))))))))))))
 obtain ⟨b70, hb70, h⟩ := bindS h
 apply WL.grp 11 (t := 14) (d := 25) (z := b70)
 exact q
 intro hg14
 have h := condT hb70 hg14
 refine WL.skips 10 q (Zq (y_pick_t q q) q ?_)
 obtain rfl := Oi h
 exact WL.nil ⟨q, [_, _, _, _, _, _, _, _, _, _, _], q, q, q⟩
 intro hg14
 have h := condF hb70 hg14
 refine Zy (y_fieldAddrc f158_2 q) q q q (Zy (y_loadc q a3 q) q q q (Zy (y_neq q q) q q q (Zy (y_move q) q q q ?_)))
 obtain ⟨b71, hb71, h⟩ := bindS h
 apply WL.grp 6 (t := 18) (d := 24) (z := b71)
 exact q
 intro hg18
 have h := condT hb71 hg18
 refine Zy (y_move q) q q q (Zy (y_fieldAddrc f158_2 q) q q q (Zy (y_loadc q a3 q) q q q ?_))
 obtain ⟨r72, hr72, h⟩ := bindS h
 refine WL.fn q q q q (f155_c _ _ _ hr72) ⟨Zl, Zl, Zl, Zt⟩ (Wt.yes q q q) q q (Zy (y_not q) q q q (Zy (y_pick_t q q) q q q ?_))
 obtain rfl := Oi h
 exact WL.nil ⟨q, [_, _, _, _, _, _], q, q, q⟩
 intro hg18
 have h := condF hb71 hg18
 refine WL.skips 5 q (Zy (y_pick_f q q) q q q ?_)
 obtain rfl := Oi h
 exact WL.nil ⟨q, [_, _, _, _, _, _], q, q, q⟩
 refine Zq (y_pick_f q q) q ?_
 obtain rfl := Oi h
 exact WL.nil ⟨q, [_, _, _, _, _, _], q, q, q⟩
 refine Zn (wc_cond q (fun hc1 => ?_) (fun hc1 => ?_))
 replace h := condT h hc1
 refine Zr (Za q q (Zn (wc_ret (we_seq_ret ?_))))
 obtain rfl := Oi h
 exact we_ret_fn (rs1 q (rv_t q)) Zl
 replace h := condF h hc1
 refine wc_skip (we_seq (wc_seq (Zr (Zq (y_fieldAddrc f158_0 q) q (Zq (y_loadc q a156 q) q (Zn (wc_block (Zr (Zq (y_eql q q) q (Za q q (Zn (wc_cond q (fun hc2 => ?_) (fun hc2 => ?_)))))))))))))
 replace h := condT h hc2
 refine Zr (Zq (y_fieldAddrc f158_1 q) q (Zq (y_loadc q a3 q) q (Zq (y_geq q q) q (Zm q q ?_))))
 apply WL.and 4 (t := 33) (d := 37)
 exact q
 intro hg33
 exact Zy (y_fieldAddrc f158_1 q) q q q (Zy (y_loadc q a3 q) q q q (Zy (y_lss q q) q q q (Zq (y_pick_t q q) q (WL.nil ⟨q, [_, _, _, _], q, q, q⟩))))
 exact WL.skips 3 q (Zq (y_pick_f q q) q (WL.nil ⟨q, [_, _, _, _], q, q, q⟩))
 refine Zm q q ?_
 apply WL.and 4 (t := 38) (d := 42)
 exact q
 intro hg38
 exact Zy (y_fieldAddrc f158_3 q) q q q (Zy (y_loadc q a3 q) q q q (Zy (y_eql q q) q q q (Zq (y_pick_t q q) q (WL.nil ⟨q, [_, _, _, _], q, q, q⟩))))
 exact WL.skips 3 q (Zq (y_pick_f q q) q (WL.nil ⟨q, [_, _, _, _], q, q, q⟩))
 refine Za q q (Zn (wc_ret (we_blk_ret (we_seq_ret ?_))))
 obtain rfl := Oi h
 exact we_ret_fn (rs1 q (rv_t q)) Zl
 replace h := condF h hc2
 replace h := letkS h
 obtain ⟨k74, hk74, h⟩ := h
 refine wc_cut (fun env' st' => ∃ (t73 : Bool), k74 t73 = some r ∧ Sub [(5, .d (.pc (R158 a2))), (7, .fn (.func 155) [] [.d (.pc (R135 t0)), .d (.pc (E3 obj1))]), (43, .d (D.b t73))] env' ∧ SLe st' []) ?_ ?_
 refine Zr (Zq (y_eql q q) q (Za q q (Zn (wc_cond q (fun hc3 => ?_) (fun hc3 => ?_)))))
 replace h := condT h hc3
 exact wc_skip (we_lp ⟨(decide (a2.kind = 2)), h, (Sx q (Sx q (Sx q (Sub.nil _)))), Zt⟩)
 replace h := condF h hc3
 exact wc_region (Zq (y_eql q q) q (Za q q (WL.nil (we_lp ⟨(decide (a2.kind = 3)), h, (Sx q (Sx q (Sx q (Sub.nil _)))), Zt⟩))))
 rintro env1 st1 ⟨t73, h, hsub, hst⟩
 subst hk74
 dsimp only at h
 refine WC.sub hsub (WC.weak hst ?_)
 refine wc_cond q (fun hc4 => ?_) (fun hc4 => ?_)
 replace h := condT h hc4
 refine Zr (Zq (y_fieldAddrc f158_1 q) q (Zq (y_loadc q a3 q) q (Zq (y_eql q q) q (Zm q q ?_))))
 obtain ⟨b75, hb75, h⟩ := bindS h
 apply WL.grp 5 (t := 49) (d := 54) (z := b75)
 exact q
 intro hg49
 have h := condT hb75 hg49
 refine Zy (y_move q) q q q (Zy (y_fieldAddrc f158_3 q) q q q (Zy (y_loadc q a3 q) q q q ?_))
 obtain ⟨r76, hr76, h⟩ := bindS h
 refine WL.fn q q q q (f155_c _ _ _ hr76) ⟨Zl, Zl, Zl, Zt⟩ (Wt.yes q q q) q q (Zq (y_pick_t q q) q ?_)
 obtain rfl := Oi h
 exact WL.nil ⟨q, [_, _, _, _, _], q, q, q⟩
 intro hg49
 have h := condF hb75 hg49
 refine WL.skips 4 q (Zq (y_pick_f q q) q ?_)
 obtain rfl := Oi h
 exact WL.nil ⟨q, [_, _, _, _, _], q, q, q⟩
 refine Za q q (Zn (wc_ret (we_blk_ret (we_seq_ret ?_))))
 obtain rfl := Oi h
 exact we_ret_fn (rs1 q (rv_t q)) Zl
 replace h := condF h hc4
 refine wc_skip (we_blk (we_seq (Zr (Zq (y_fieldAddrc f158_0 q) q (Zq (y_loadc q a156 q) q (Zq (y_eql q q) q (Zm q q ?_)))))))
 apply WL.and 7 (t := 58) (d := 65)
 exact q
 intro hg58
 exact Zy (y_fieldAddrc f158_1 q) q q q (Zy (y_loadc q a3 q) q q q (Zy (y_fieldAddrc f158_3 q) q q q (Zy (y_loadc q a3 q) q q q (Zy (y_or q q q) q q q (Zy (y_eql q q) q q q (Zq (y_pick_t q q) q (WL.nil ⟨q, [_, _, _, _, _, _, _], q, q, q⟩)))))))
 exact WL.skips 6 q (Zq (y_pick_f q q) q (WL.nil ⟨q, [_, _, _, _, _, _, _], q, q, q⟩))
 refine Za q q (Zn (wc_ret ?_))
 obtain rfl := Oi h
 exact we_ret_fn (rs1 q (rv_t q)) Zl

theorem f72_c (t0 : View) {r : Bool} (h : f72 t0 = some r) : Pu Tryz.prog 72 [.ag (R135 t0)] (.b r) := by
 unfold f72 at h
 refine fn_intro Tryz.func72 (by kernel_rfl) q q q (fun φφ ww => ?_)
 refine Zr (WL.s ((b_boxd q q (Zs _)).does) (Zw q) q q (Za q q (Zn (wc_seq (Zr (Zq (y_fieldAddrc f135_0 q) q (Zq (y_fieldAddrc f38_3 q) q (Zq (y_loadc q a31 q) q (Zq (y_len_map E155 t0.text.selects e31 q q Zl) q (Zq (y_gtr q q) q (Zn (wc_cond q (fun hc1 => ?_) (fun hc1 => ?_)))))))))))))
 replace h := condT h hc1
 refine Zr (Za q q (Zn (wc_ret (we_seq_ret ?_))))
 obtain rfl := Oi h
 exact we_ret_fn (rs1 q (rv_t q)) Zl
 replace h := condF h hc1
 refine wc_skip (we_seq ?_)
 replace h := letkS h
 obtain ⟨k61, hk61, h⟩ := h
 refine wc_cut (fun env' st' => k61 () = some r ∧ Sub [] env' ∧ SLe st' []) ?_ ?_
 refine Zr (Zq (y_fieldAddrc f135_0 q) q (Zq (y_fieldAddrc f38_3 q) q (Zq (y_loadc q a31 q) q (Zq (y_len_map E155 t0.text.selects e31 q q Zl) q (Zm q q (Zn (wc_block (wc_loop (fun n env' st' => ∃ (t63 : Int), f72_l1 t0 k61 n t63 = some r ∧ Sub [(1, .d (.pc (R135 t0))), (12, .l E155 t0.text.selects), (13, .n (List.length t0.text.selects : Int)), (14, .n t63)] env' ∧ SLe st' []) (fun n => n) (Int.toNat ((List.length t0.text.selects : Int) - 0) + 1) ⟨0, h, (Sx q (Sx q (Sx q (Sx q (Sub.nil _))))), Zt⟩ ?_))))))))
 rintro n env1 st1 ⟨t63, h, hsub, hst⟩
 rcases n with _ | n
 rw [f72_l1] at h; cases h
 rw [f72_l1] at h
 refine WC.sub hsub (WC.weak hst ?_)
 refine Zr (Zq (y_lss q q) q (Zn (wc_seq (wc_cond q (fun hc2 => ?_) (fun hc2 => ?_)))))
 replace h := condT h hc2
 refine wc_skip (we_seq (wc_seq (wc_block (Zr ?_))))
 obtain ⟨x65, hx65, h⟩ := bindS h
 refine Zq (y_indexAddr e31 q Zl q (idx_nonneg hx65) (idx_row E155_eq hx65) q) q (Zq (y_loadcN q a155 s155 q) q (WL.s ((b_alloc z155).does) (Zw q) q q (WL.s0 (d_store q q q q q q s155 q q) (Zw q) q (Zn (wc_seq (Zr (Zq (y_fieldAddr f155_0 q) q (Zq (y_load q q a153 q) q (Zq (y_len_map E158 x65.alts e153 q q Zl) q (Zq (y_lss q q) q (Zm q q ?_)))))))))))
 apply WL.or 5 (t := 22) (d := 27)
 exact q
 intro hg22
 exact Zy (y_fieldAddr f155_0 q) q q q (Zy (y_load q q a153 q) q q q (Zy (y_len_map E158 x65.alts e153 q q Zl) q q q (Zy (y_gtr q q) q q q (Zq (y_pick_f q q) q (WL.nil ⟨q, [_, _, _, _, _], q, q, q⟩)))))
 exact WL.skips 4 q (Zq (y_pick_t q q) q (WL.nil ⟨q, [_, _, _, _, _], q, q, q⟩))
 refine Zm q q ?_
 apply WL.or 4 (t := 28) (d := 32)
 exact q
 intro hg28
 exact Zy (y_fieldAddr f155_1 q) q q q (Zy (y_load q q a3 q) q q q (Zy (y_lss q q) q q q (Zq (y_pick_f q q) q (WL.nil ⟨q, [_, _, _, _], q, q, q⟩))))
 exact WL.skips 3 q (Zq (y_pick_t q q) q (WL.nil ⟨q, [_, _, _, _], q, q, q⟩))
 refine Zm q q ?_
 apply WL.or 8 (t := 33) (d := 41)
 exact q
 intro hg33
 exact Zy (y_fieldAddr f155_1 q) q q q (Zy (y_load q q a3 q) q q q (Zy (y_fieldAddrc f135_0 q) q q q (Zy (y_fieldAddrc f38_5 q) q q q (Zy (y_loadc q a33 q) q q q (Zy (y_len_map E101 t0.text.objs e33 q q Zl) q q q (Zy (y_geq q q) q q q (Zq (y_pick_f q q) q (WL.nil ⟨q, [_, _, _, _, _, _, _, _], q, q, q⟩))))))))
 exact WL.skips 7 q (Zq (y_pick_t q q) q (WL.nil ⟨q, [_, _, _, _, _, _, _, _], q, q, q⟩))
 refine Zm q q ?_
 apply WL.or 11 (t := 42) (d := 53)
 exact q
 intro hg42
 refine Zy (y_fieldAddr f155_2 q) q q q (Zy (y_load q q a3 q) q q q (Zy (y_neq q q) q q q (Zy (y_move q) q q q ?_)))
 apply WL.and 6 (t := 46) (d := 52)
 exact q
 intro hg46
 exact Zy (y_loadcN q a135 s135 q) q q q (Zy (y_fieldAddr f155_2 q) q q q (Zy (y_load q q a3 q) q q q (WL.fn q q q q (f112_c _ _) ⟨Zl, Zl, Zt⟩ (Wt.yes q q q) q q (Zy (y_not q) q q q (Zy (y_pick_t q q) q q q (WL.nil ⟨q, [_, _, _, _, _, _], q, q, q⟩))))))
 exact WL.skips 5 q (Zy (y_pick_f q q) q q q (WL.nil ⟨q, [_, _, _, _, _, _], q, q, q⟩))
 exact Zq (y_pick_f q q) q (WL.nil ⟨q, [_, _, _, _, _, _], q, q, q⟩)
 exact WL.skips 10 q (Zq (y_pick_t q q) q (WL.nil ⟨q, [_, _, _, _, _, _, _, _, _, _, _], q, q, q⟩))
 refine Zn (wc_cond q (fun hc3 => ?_) (fun hc3 => ?_))
 replace h := condT h hc3
 refine Zr (Za q q (Zn (wc_ret (we_seq_ret (we_blk_ret (we_seq_ret (we_lp_ret (we_blk_ret (we_lp_ret ?_)))))))))
 obtain rfl := Oi h
 exact we_ret_fn (rs1 q (rv_t q)) Zl
 replace h := condF h hc3
 refine wc_skip (we_seq (Zr (Zq (y_fieldAddr f155_0 q) q (Zq (y_load q q a153 q) q (Zq (y_makeFunc q q) q ?_)))))
 obtain ⟨k68, hk68, h⟩ := letkS h
 refine WL.inl (us := [.l E158 x65.alts, .fn (.func 118) [] [.d (.pc (R135 t0)), .pt 0 0]]) (fun rv st' => (∃ (t67 : Bool), k68 t67 = some r ∧ Le rv (.d (D.b t67)) ∧ SLe st' [.row 155 [.l E158 x65.alts, .n x65.obj, .n x65.else_]])) q q q q q ?_ (Zw q) q q ?_
 refine ctr_intro Tryz.func117 (by kernel_rfl) q q q (fun mm φφ ww hm66 => ?_)
 refine Zr (Za q q (Zn (Zr (Zm q q (Zm q q ?_)))))
 obtain ⟨k71, hk71, h⟩ := letkS h
 refine WL.inl (us := [.l E158 x65.alts, .fn (.func 118) [] [.d (.pc (R135 t0)), .pt 0 0]]) (fun rv st' => (∃ (t70 : Int), k71 t70 = some r ∧ Le rv (.n t70) ∧ SLe st' [.row 155 [.l E158 x65.alts, .n x65.obj, .n x65.else_]])) q q q q q ?_ (Zw q) q q ?_
 refine ctr_intro Tryz.func154 (by kernel_rfl) q q q (fun mm φφ ww hm69 => ?_)
 refine Zr (Za q q (Zn ?_))
 replace h := letkS h
 obtain ⟨k72, hk72, h⟩ := h
 refine wc_cut (fun env' st' => k72 () = some r ∧ Sub [] env' ∧ SLe st' [.row 155 [.l E158 x65.alts, .n x65.obj, .n x65.else_]]) ?_ ?_
 refine Zr (Zm q q (Zq (y_len_map E158 x65.alts e153 q q Zl) q (Zm q q (Zn (wc_block (wc_loop (fun na env' st' => ∃ (t74 : Int), f72_l2 t0 x65 k71 k72 na t74 = some r ∧ Sub [(0, .l E158 x65.alts), (1, .fn (.func 118) [] [.d (.pc (R135 t0)), .pt 0 0]), (7, .n (List.length x65.alts : Int)), (8, .n t74)] env' ∧ SLe st' [.row 155 [.l E158 x65.alts, .n x65.obj, .n x65.else_]]) (fun n => n) (Int.toNat ((List.length x65.alts : Int) - 0) + 1) ⟨0, h, (Sx q (Sx q (Sx q (Sx q (Sub.nil _))))), ⟨Zp, Zt⟩⟩ ?_))))))
 rintro na env1 st1 ⟨t74, h, hsub, hst⟩
 rcases na with _ | na
 rw [f72_l2] at h; cases h
 rw [f72_l2] at h
 refine WC.sub hsub (WC.weak hst ?_)
 refine Zr (Zq (y_lss q q) q (Zn (wc_seq (wc_cond q (fun hc4 => ?_) (fun hc4 => ?_)))))
 replace h := condT h hc4
 refine wc_skip (we_seq (wc_seq (wc_block (Zr (Zm q q (Za q q (Zn (Zr (Zm q q (Zm q q (Zm q q ?_)))))))))))
 obtain ⟨x76, hx76, h⟩ := bindS h
 refine Zq (y_indexAddr e153 q Zl q (idx_nonneg hx76) (idx_row E158_eq hx76) q) q (Zq (y_loadcN q a158 s158 q) q ?_)
 obtain ⟨k79, hk79, h⟩ := letkS h
 refine WL.inl (us := [.d (.ag (R158 x76)), .d (.pc (R135 t0)), .pt 0 0]) (fun rv st' => (∃ (t78 : Bool), k79 t78 = some r ∧ Le rv (.d (D.b t78)) ∧ SLe st' [.row 155 [.l E158 x65.alts, .n x65.obj, .n x65.else_]])) q q q q q ?_ (Zw q) q q ?_
 refine ctr_intro Tryz.func118 (by kernel_rfl) q q q (fun mm φφ ww hm77 => ?_)
 refine Zr (WL.s ((b_boxd q q (Zs _)).does) (Zw q) q q (Za q q (Zn (Zr (Zq (y_loadcN q a135 s135 q) q (Zq (y_fieldAddr f155_1 q) q (Zq (y_load q q a3 q) q (Zq (y_loadcN q a158 s158 q) q ?_))))))))
 obtain ⟨r80, hr80, h⟩ := bindS h
 exact WL.fn q q q q (f119_c _ _ _ hr80) ⟨Zl, Zl, Zl, Zt⟩ (Zw q) q q (Zq (y_not q) q (Za q q (Zn (wc_ret (we_ret (rs1 q (rv_t q)) ⟨(!r80), h, Zl, ⟨Zp, Zt⟩⟩)))))
 rintro rv st1 ⟨t78, h, hr, hst⟩
 subst hk79
 dsimp only at h
 refine WL.cast 16 q hr (WL.weak hst (Zn (wc_cond q (fun hc5 => ?_) (fun hc5 => ?_))))
 replace h := condT h hc5
 exact Zr (Zm q q (Za q q (Zn (wc_ret (we_blk_ret (we_seq_ret (we_lp_ret (we_blk_ret (we_lp_ret (we_ret (rs1 q (rv_t q)) ⟨t74, h, Zl, ⟨Zp, Zt⟩⟩))))))))))
 replace h := condF h hc5
 exact wc_skip (we_blk (we_seq (wc_region (Zq (y_add q q q) q (Zm q q (WL.nil (we_lp ⟨na, ⟨(IntKind.i64.wrap (t74 + 1)), h, (Sx q (Sx q (Sx q (Sx q (Sub.nil _))))), ⟨Zp, Zt⟩⟩, Nat.lt_succ_self na⟩)))))))
 replace h := condF h hc4
 exact wc_exit (we_seq_exit (we_lp_exit (we_blk_hit (we_lp ⟨h, (Sub.nil _), ⟨Zp, Zt⟩⟩))))
 rintro env1 st1 ⟨h, hsub, hst⟩
 subst hk72
 dsimp only at h
 refine WC.sub hsub (WC.weak hst ?_)
 exact Zr (Za q q (Zn (wc_ret (we_ret (rs1 q (rv_t q)) ⟨(-1), h, Zl, ⟨Zp, Zt⟩⟩))))
 rintro rv st1 ⟨t70, h, hr, hst⟩
 subst hk71
 dsimp only at h
 exact WL.cast 7 q hr (WL.weak hst (Zq (y_geq q q) q (Za q q (Zn (wc_ret (we_ret (rs1 q (rv_t q)) ⟨(decide (t70 ≥ 0)), h, Zl, ⟨Zp, Zt⟩⟩))))))
 rintro rv st1 ⟨t67, h, hr, hst⟩
 subst hk68
 dsimp only at h
 refine WL.cast 57 q hr (WL.weak hst (Zn (wc_cond q (fun hc6 => ?_) (fun hc6 => ?_))))
 replace h := condT h hc6
 refine Zr (Za q q (Zn (wc_ret (we_blk_ret (we_seq_ret (we_lp_ret (we_blk_ret (we_lp_ret ?_))))))))
 obtain rfl := Oi h
 exact we_ret_fn (rs1 q (rv_t q)) Zl
 replace h := condF h hc6
 exact wc_skip (we_blk (we_seq (wc_region (Zq (y_add q q q) q (Zm q q (WL.nil (WE.drop 0 (env' := [(1, .d (.pc (R135 t0))), (12, .l E155 t0.text.selects), (13, .n (List.length t0.text.selects : Int)), (14, .n (IntKind.i64.wrap (t63 + 1)))]) (Sub.one q (Sub.one q (Sub.one q (Sub.one q (Sub.nil _))))) q q (Nat.zero_le _) (we_lp ⟨n, ⟨(IntKind.i64.wrap (t63 + 1)), h, (Sx q (Sx q (Sx q (Sx q (Sub.nil _))))), Zt⟩, Nat.lt_succ_self n⟩))))))))
 replace h := condF h hc2
 exact wc_exit (we_seq_exit (we_lp_exit (we_blk_hit (we_lp ⟨h, (Sub.nil _), Zt⟩))))
 rintro env1 st1 ⟨h, hsub, hst⟩
 subst hk61
 dsimp only at h
 refine WC.sub hsub (WC.weak hst ?_)
 refine Zr (Za q q (Zn (wc_ret ?_)))
 obtain rfl := Oi h
 exact we_ret_fn (rs1 q (rv_t q)) Zl

theorem f120_c (h0 : MHandler) (a1 : Int) : Pu Tryz.prog 120 [.ag (R108 h0), .i .i64 a1] (.b (f120 h0 a1)) := by
 generalize h : f120 h0 a1 = r
 unfold f120 at h
 refine fn_intro Tryz.func120 (by kernel_rfl) q q q (fun φφ ww => ?_)
 refine Zr (WL.s ((b_boxd q q (Zs _)).does) (Zw q) q q (Za q q (Zn (Zr (Zq (y_fieldAddrc f108_0 q) q (Zq (y_loadc q a3 q) q (Zm q q (Zq (y_leq q q) q (Zm q q ?_)))))))))
 apply WL.and 5 (t := 9) (d := 14)
 exact q
 intro hg9
 exact Zy (y_move q) q q q (Zy (y_fieldAddrc f108_1 q) q q q (Zy (y_loadc q a3 q) q q q (Zy (y_lss q q) q q q (Zq (y_pick_t q q) q (WL.nil ⟨q, [_, _, _, _, _], q, q, q⟩)))))
 exact WL.skips 4 q (Zq (y_pick_f q q) q (WL.nil ⟨q, [_, _, _, _, _], q, q, q⟩))
 refine Za q q (Zn (wc_ret ?_))
 subst h
 exact we_ret_fn (rs1 q (rv_t q)) Zl

theorem f73_c (t0 : View) {r : Bool} (h : f73 t0 = some r) : Pu Tryz.prog 73 [.ag (R135 t0)] (.b r) := by
 unfold f73 at h
 refine fn_intro Tryz.func73 (by kernel_rfl) q q q (fun φφ ww => ?_)
 refine Zr (WL.s ((b_boxd q q (Zs _)).does) (Zw q) q q (Za q q (Zn (wc_seq (Zr (Zq (y_fieldAddrc f135_0 q) q (Zq (y_fieldAddrc f38_1 q) q (Zq (y_loadc q a29 q) q (Zq (y_len_map E108 t0.text.handlers e29 q q Zl) q (Zq (y_gtr q q) q (Zn (wc_cond q (fun hc1 => ?_) (fun hc1 => ?_)))))))))))))
 replace h := condT h hc1
 refine Zr (Za q q (Zn (wc_ret (we_seq_ret ?_))))
 obtain rfl := Oi h
 exact we_ret_fn (rs1 q (rv_t q)) Zl
 replace h := condF h hc1
 refine wc_skip (we_seq ?_)
 replace h := letkS h
 obtain ⟨k95, hk95, h⟩ := h
 refine wc_cut (fun env' st' => k95 () = some r ∧ Sub [] env' ∧ SLe st' []) ?_ ?_
 refine Zr (Zq (y_fieldAddrc f135_0 q) q (Zq (y_fieldAddrc f38_1 q) q (Zq (y_loadc q a29 q) q (Zq (y_len_map E108 t0.text.handlers e29 q q Zl) q (Zm q q (Zn (wc_block (wc_loop (fun n env' st' => ∃ (t97 : Int), f73_l1 t0 k95 n t97 = some r ∧ Sub [(1, .d (.pc (R135 t0))), (15, .l E108 t0.text.handlers), (16, .n (List.length t0.text.handlers : Int)), (17, .n t97)] env' ∧ SLe st' []) (fun n => n) (Int.toNat ((List.length t0.text.handlers : Int) - 0) + 1) ⟨0, h, (Sx q (Sx q (Sx q (Sx q (Sub.nil _))))), Zt⟩ ?_))))))))
 rintro n env1 st1 ⟨t97, h, hsub, hst⟩
 rcases n with _ | n
 rw [f73_l1] at h; cases h
 rw [f73_l1] at h
 refine WC.sub hsub (WC.weak hst ?_)
 refine Zr (Zq (y_lss q q) q (Zn (wc_seq (wc_cond q (fun hc2 => ?_) (fun hc2 => ?_)))))
 replace h := condT h hc2
 refine wc_skip (we_seq ?_)
 replace h := letkS h
 obtain ⟨k103, hk103, h⟩ := h
 refine wc_cut (fun env' st' => ∃ (c0099 : Int), ∃ (c01100 : Int), ∃ (c02101 : Int), ∃ (c03102 : Bool), k103 c0099 c01100 c02101 c03102 = some r ∧ Sub [(1, .d (.pc (R135 t0))), (15, .l E108 t0.text.handlers), (16, .n (List.length t0.text.handlers : Int)), (17, .n t97)] env' ∧ SLe st' [.row 108 [.n c0099, .n c01100, .n c02101, .d (D.b c03102)]]) ?_ ?_
 refine wc_block (Zr (Zm q q ?_))
 obtain ⟨x104, hx104, h⟩ := bindS h
 refine Zq (y_indexAddr e29 q Zl q (idx_nonneg hx104) (idx_row E108_eq hx104) q) q (Zq (y_loadcN q a108 s108 q) q (WL.s ((b_alloc z108).does) (Zw q) q q (Za q q (WL.s0 (d_store q q q q q q s108 q q) (Zw q) q (Zn (wc_seq (Zr (Zq (y_fieldAddr f108_0 q) q (Zq (y_load q q a3 q) q (Zq (y_lss q q) q (Zm q q ?_)))))))))))
 apply WL.or 6 (t := 25) (d := 31)
 exact q
 intro hg25
 exact Zy (y_fieldAddr f108_0 q) q q q (Zy (y_load q q a3 q) q q q (Zy (y_fieldAddr f108_1 q) q q q (Zy (y_load q q a3 q) q q q (Zy (y_geq q q) q q q (Zq (y_pick_f q q) q (WL.nil ⟨q, [_, _, _, _, _, _], q, q, q⟩))))))
 exact WL.skips 5 q (Zq (y_pick_t q q) q (WL.nil ⟨q, [_, _, _, _, _, _], q, q, q⟩))
 refine Zm q q ?_
 apply WL.or 8 (t := 32) (d := 40)
 exact q
 intro hg32
 exact Zy (y_fieldAddr f108_1 q) q q q (Zy (y_load q q a3 q) q q q (Zy (y_fieldAddrc f135_0 q) q q q (Zy (y_fieldAddrc f38_0 q) q q q (Zy (y_loadc q a23 q) q q q (Zy (y_len_map E45 t0.text.insns e23 q q Zl) q q q (Zy (y_gtr q q) q q q (Zq (y_pick_f q q) q (WL.nil ⟨q, [_, _, _, _, _, _, _, _], q, q, q⟩))))))))
 exact WL.skips 7 q (Zq (y_pick_t q q) q (WL.nil ⟨q, [_, _, _, _, _, _, _, _], q, q, q⟩))
 refine Zm q q ?_
 apply WL.or 6 (t := 41) (d := 47)
 exact q
 intro hg41
 exact Zy (y_loadcN q a135 s135 q) q q q (Zy (y_fieldAddr f108_2 q) q q q (Zy (y_load q q a3 q) q q q (WL.fn q q q q (f112_c _ _) ⟨Zl, Zl, Zt⟩ (Wt.yes q q q) q q (Zy (y_not q) q q q (Zq (y_pick_f q q) q (WL.nil ⟨q, [_, _, _, _, _, _], q, q, q⟩))))))
 exact WL.skips 5 q (Zq (y_pick_t q q) q (WL.nil ⟨q, [_, _, _, _, _, _], q, q, q⟩))
 refine Zm q q ?_
 apply WL.or 5 (t := 48) (d := 53)
 exact q
 intro hg48
 exact Zy (y_loadN q q a108 s108 q) q q q (Zy (y_fieldAddr f108_2 q) q q q (Zy (y_load q q a3 q) q q q (WL.fn q q q q (f120_c _ _) ⟨(Le.agd ⟨Zl, Zl, Zl, Zl, Zt⟩), Zl, Zt⟩ (Wt.yes q q q) q q (Zq (y_pick_f q q) q (WL.nil ⟨q, [_, _, _, _, _], q, q, q⟩)))))
 exact WL.skips 4 q (Zq (y_pick_t q q) q (WL.nil ⟨q, [_, _, _, _, _], q, q, q⟩))
 refine Zn (wc_cond q (fun hc3 => ?_) (fun hc3 => ?_))
 replace h := condT h hc3
 refine Zr (Za q q (Zn (wc_ret (we_seq_ret (we_blk_ret (we_lp_ret (we_lp_ret (we_blk_ret (we_lp_ret ?_)))))))))
 obtain rfl := Oi h
 exact we_ret_fn (rs1 q (rv_t q)) Zl
 replace h := condF h hc3
 refine wc_skip (we_seq (Zr (Zq (y_fieldAddrc f135_0 q) q (Zq (y_fieldAddrc f38_1 q) q (Zq (y_loadc q a29 q) q (Zm q q ?_))))))
 replace h := guardBS h
 obtain ⟨hgg105, h⟩ := h
 refine Zq (y_sliceL E108 t0.text.handlers (l := 0) (h := t97) e29 q Zl q ⟨_, q⟩ hgg105 (fun _ => q)) q (Zq (y_len_map E108 (sliceF t0.text.handlers 0 t97) e29 q q Zl) q (Zm q q (Zn (wc_block (wc_loop (fun na env' st' => ∃ (t107 : Int), f73_l2 t0 t97 k103 x104 na t107 = some r ∧ Sub [(1, .d (.pc (R135 t0))), (4, .pt 0 0), (15, .l E108 t0.text.handlers), (16, .n (List.length t0.text.handlers : Int)), (17, .n t97), (58, .l E108 (sliceF t0.text.handlers 0 t97)), (59, .n (List.length (sliceF t0.text.handlers 0 t97) : Int)), (60, .n t107)] env' ∧ SLe st' [.row 108 [.n x104.from_, .n x104.to, .n x104.at_, .d (D.b x104.clean)]]) (fun n => n) (Int.toNat ((List.length (sliceF t0.text.handlers 0 t97) : Int) - 0) + 1) ⟨0, h, (Sx q (Sx q (Sx q (Sx q (Sx q (Sx q (Sx q (Sx q (Sub.nil _))))))))), ⟨Zp, Zt⟩⟩ ?_)))))
 rintro na env1 st1 ⟨t107, h, hsub, hst⟩
 rcases na with _ | na
 rw [f73_l2] at h; cases h
 rw [f73_l2] at h
 refine WC.sub hsub (WC.weak hst ?_)
 refine Zr (Zq (y_lss q q) q (Zn (wc_seq (wc_cond q (fun hc4 => ?_) (fun hc4 => ?_)))))
 replace h := condT h hc4
 refine wc_skip (we_seq (wc_seq (wc_block (Zr ?_))))
 obtain ⟨x109, hx109, h⟩ := bindS h
 refine Zq (y_indexAddr e29 q Zl q (idx_nonneg hx109) (idx_row E108_eq hx109) q) q (Zq (y_loadcN q a108 s108 q) q (WL.s ((b_alloc z108).does) (Zw q) q q (WL.s0 (d_store q q q q q q s108 q q) (Zw q) q (Zn (Zr (Zq (y_fieldAddr f108_0 q) q (Zq (y_load q q a3 q) q (Zq (y_fieldAddr f108_0 q) q (Zq (y_load q q a3 q) q (Zq (y_geq q q) q (Zm q q ?_)))))))))))
 apply WL.and 6 (t := 69) (d := 75)
 exact q
 intro hg69
 exact Zy (y_fieldAddr f108_1 q) q q q (Zy (y_load q q a3 q) q q q (Zy (y_fieldAddr f108_1 q) q q q (Zy (y_load q q a3 q) q q q (Zy (y_leq q q) q q q (Zq (y_pick_t q q) q (WL.nil ⟨q, [_, _, _, _, _, _], q, q, q⟩))))))
 exact WL.skips 5 q (Zq (y_pick_f q q) q (WL.nil ⟨q, [_, _, _, _, _, _], q, q, q⟩))
 refine Za q q (Zn (Zr (Zm q q (Zq (y_not q) q (Zm q q ?_)))))
 apply WL.and 12 (t := 78) (d := 90)
 exact q
 intro hg78
 exact Zy (y_fieldAddr f108_0 q) q q q (Zy (y_load q q a3 q) q q q (Zy (y_fieldAddr f108_0 q) q q q (Zy (y_load q q a3 q) q q q (Zy (y_max q q q) q q q (Zy (y_fieldAddr f108_1 q) q q q (Zy (y_load q q a3 q) q q q (Zy (y_fieldAddr f108_1 q) q q q (Zy (y_load q q a3 q) q q q (Zy (y_min q q q) q q q (Zy (y_lss q q) q q q (Zq (y_pick_t q q) q (WL.nil ⟨q, [_, _, _, _, _, _, _, _, _, _, _, _], q, q, q⟩))))))))))))
 exact WL.skips 11 q (Zq (y_pick_f q q) q (WL.nil ⟨q, [_, _, _, _, _, _, _, _, _, _, _, _], q, q, q⟩))
 refine Zn (wc_cond q (fun hc5 => ?_) (fun hc5 => ?_))
 replace h := condT h hc5
 refine Zr (Za q q (Zn (wc_ret (we_blk_ret (we_seq_ret (we_lp_ret (we_blk_ret (we_blk_ret (we_lp_ret (we_lp_ret (we_blk_ret (we_lp_ret ?_))))))))))))
 obtain rfl := Oi h
 exact we_ret_fn (rs1 q (rv_t q)) Zl
 replace h := condF h hc5
 exact wc_skip (we_blk (we_seq (wc_region (Zq (y_add q q q) q (Zm q q (WL.nil (WE.drop 1 (env' := [(1, .d (.pc (R135 t0))), (4, .pt 0 0), (15, .l E108 t0.text.handlers), (16, .n (List.length t0.text.handlers : Int)), (17, .n t97), (58, .l E108 (sliceF t0.text.handlers 0 t97)), (59, .n (List.length (sliceF t0.text.handlers 0 t97) : Int)), (60, .n (IntKind.i64.wrap (t107 + 1)))]) (Sub.one q (Sub.one q (Sub.one q (Sub.one q (Sub.one q (Sub.one q (Sub.one q (Sub.one q (Sub.nil _))))))))) q q (Nat.zero_le _) (we_lp ⟨na, ⟨(IntKind.i64.wrap (t107 + 1)), h, (Sx q (Sx q (Sx q (Sx q (Sx q (Sx q (Sx q (Sx q (Sub.nil _))))))))), ⟨Zp, Zt⟩⟩, Nat.lt_succ_self na⟩))))))))
 replace h := condF h hc4
 exact wc_exit (we_seq_exit (we_lp_exit (we_blk_hit (we_blk (we_lp ⟨x104.from_, x104.to, x104.at_, x104.clean, h, (Sx q (Sx q (Sx q (Sx q (Sub.nil _))))), ⟨Zp, Zt⟩⟩)))))
 rintro env1 st1 ⟨c0099, c01100, c02101, c03102, h, hsub, hst⟩
 subst hk103
 dsimp only at h
 refine WC.sub hsub (WC.weak hst ?_)
 exact wc_region (Zq (y_add q q q) q (Zm q q (WL.nil (WE.drop 0 (env' := [(1, .d (.pc (R135 t0))), (15, .l E108 t0.text.handlers), (16, .n (List.length t0.text.handlers : Int)), (17, .n (IntKind.i64.wrap (t97 + 1)))]) (Sub.one q (Sub.one q (Sub.one q (Sub.one q (Sub.nil _))))) q q (Nat.zero_le _) (we_lp ⟨n, ⟨(IntKind.i64.wrap (t97 + 1)), h, (Sx q (Sx q (Sx q (Sx q (Sub.nil _))))), Zt⟩, Nat.lt_succ_self n⟩)))))
 replace h := condF h hc2
 exact wc_exit (we_seq_exit (we_lp_exit (we_blk_hit (we_lp ⟨h, (Sub.nil _), Zt⟩))))
 rintro env1 st1 ⟨h, hsub, hst⟩
 subst hk95
 dsimp only at h
 refine WC.sub hsub (WC.weak hst ?_)
 refine Zr (Za q q (Zn (wc_ret ?_)))
 obtain rfl := Oi h
 exact we_ret_fn (rs1 q (rv_t q)) Zl

theorem f121_c (x0 : Insn) (head1 : Int) : Pu Tryz.prog 121 [.ag (R45 x0), .i .i64 head1] (.b (f121 x0 head1)) := by
 generalize h : f121 x0 head1 = r
 unfold f121 at h
 refine fn_intro Tryz.func121 (by kernel_rfl) q q q (fun φφ ww => ?_)
 refine Zr (WL.s ((b_boxd q q (Zs _)).does) (Zw q) q q (Za q q (Zn (Zr (Zq (y_fieldAddrc f45_0 q) q (Zq (y_loadc q a43 q) q (Zq (y_eql q q) q (Zm q q ?_))))))))
 apply WL.or 4 (t := 8) (d := 12)
 exact q
 intro hg8
 exact Zy (y_fieldAddrc f45_0 q) q q q (Zy (y_loadc q a43 q) q q q (Zy (y_eql q q) q q q (Zq (y_pick_f q q) q (WL.nil ⟨q, [_, _, _, _], q, q, q⟩))))
 exact WL.skips 3 q (Zq (y_pick_t q q) q (WL.nil ⟨q, [_, _, _, _], q, q, q⟩))
 refine Zm q q ?_
 apply WL.or 4 (t := 13) (d := 17)
 exact q
 intro hg13
 exact Zy (y_fieldAddrc f45_0 q) q q q (Zy (y_loadc q a43 q) q q q (Zy (y_eql q q) q q q (Zq (y_pick_f q q) q (WL.nil ⟨q, [_, _, _, _], q, q, q⟩))))
 exact WL.skips 3 q (Zq (y_pick_t q q) q (WL.nil ⟨q, [_, _, _, _], q, q, q⟩))
 refine Zm q q ?_
 apply WL.and 5 (t := 18) (d := 23)
 exact q
 intro hg18
 exact Zy (y_fieldAddrc f45_6 q) q q q (Zy (y_loadc q a3 q) q q q (Zy (y_move q) q q q (Zy (y_eql q q) q q q (Zq (y_pick_t q q) q (WL.nil ⟨q, [_, _, _, _, _], q, q, q⟩)))))
 exact WL.skips 4 q (Zq (y_pick_f q q) q (WL.nil ⟨q, [_, _, _, _, _], q, q, q⟩))
 refine Za q q (Zn (wc_ret ?_))
 subst h
 exact we_ret_fn (rs1 q (rv_t q)) Zl

theorem f74_c (t0 : View) {r : Bool} (h : f74 t0 = some r) : Pu Tryz.prog 74 [.ag (R135 t0)] (.b r) := by
 unfold f74 at h
 refine fn_intro Tryz.func74 (by kernel_rfl) q q q (fun φφ ww => ?_)
 refine Zr (WL.s ((b_boxd q q (Zs _)).does) (Zw q) q q (Za q q (Zn (wc_seq (Zr (Zq (y_fieldAddrc f135_0 q) q (Zq (y_fieldAddrc f38_2 q) q (Zq (y_loadc q a30 q) q (Zq (y_len_map E189 t0.text.loops e30 q q Zl) q (Zq (y_gtr q q) q (Zn (wc_cond q (fun hc1 => ?_) (fun hc1 => ?_)))))))))))))
 replace h := condT h hc1
 refine Zr (Za q q (Zn (wc_ret (we_seq_ret ?_))))
 obtain rfl := Oi h
 exact we_ret_fn (rs1 q (rv_t q)) Zl
 replace h := condF h hc1
 refine wc_skip (we_seq (Zr (WL.s ((b_makeMap (α := Bool) (fun x : Int => Value.int .i64 x) (fun x : Bool => AV.d (.b x))).does) (Zw q) q q (Za q q (Zn ?_)))))
 replace h := letkS h
 obtain ⟨k73, hk73, h⟩ := h
 refine wc_cut (fun env' st' => ∃ (m72 : List (Int × Bool)), k73 m72 = some r ∧ Sub [] env' ∧ SLe st' [mpO (fun x : Int => Value.int .i64 x) (fun x : Bool => AV.d (.b x)) m72]) ?_ ?_
 refine Zr (Zq (y_fieldAddrc f135_0 q) q (Zq (y_fieldAddrc f38_2 q) q (Zq (y_loadc q a30 q) q (Zq (y_len_map E189 t0.text.loops e30 q q Zl) q (Zm q q (Zn (wc_block (wc_loop (fun n env' st' => ∃ (t76 : Int), ∃ (m77 : List (Int × Bool)), f74_l1 t0 k73 n t76 m77 = some r ∧ Sub [(1, .d (.pc (R135 t0))), (3, .mp 0), (14, .l E189 t0.text.loops), (15, .n (List.length t0.text.loops : Int)), (16, .n t76)] env' ∧ SLe st' [mpO (fun x : Int => Value.int .i64 x) (fun x : Bool => AV.d (.b x)) m77]) (fun n => n) (Int.toNat ((List.length t0.text.loops : Int) - 0) + 1) ⟨0, ([] : List (Int × Bool)), h, (Sx q (Sx q (Sx q (Sx q (Sx q (Sub.nil _)))))), ⟨q, Zt⟩⟩ ?_))))))))
 rintro n env1 st1 ⟨t76, m77, h, hsub, hst⟩
 rcases n with _ | n
 rw [f74_l1] at h; cases h
 rw [f74_l1] at h
 refine WC.sub hsub (WC.weak hst ?_)
 refine Zr (Zq (y_lss q q) q (Zn (wc_seq (wc_cond q (fun hc2 => ?_) (fun hc2 => ?_)))))
 replace h := condT h hc2
 refine wc_skip (we_seq (wc_seq (wc_block (Zr ?_))))
 obtain ⟨x80, hx80, h⟩ := bindS h
 refine Zq (y_indexAddr e30 q Zl q (idx_nonneg hx80) (idx_row E189_eq hx80) q) q (Zq (y_loadcN q a189 s189 q) q (WL.s ((b_alloc z189).does) (Zw q) q q (WL.s0 (d_store q q q q q q s189 q q) (Zw q) q (Zn (wc_seq (wc_seq (wc_region_draw (by kernel_rfl) (by kernel_rfl) (WQ.qn (y_fieldAddr f189_0 q) q (WQ.qn (y_load q q a3 q) q (WQ.qn (y_lss q q) q (WQ.qn (y_move q) q ?_)))))))))))
 apply WQ.or 6 (t := 23) (d := 29)
 exact q
 intro hg23
 exact WQ.qy (y_fieldAddr f189_0 q) q q q (WQ.qy (y_load q q a3 q) q q q (WQ.qy (y_fieldAddr f189_1 q) q q q (WQ.qy (y_load q q a3 q) q q q (WQ.qy (y_gtr q q) q q q (WQ.qn (y_pick_f q q) q (WQ.nil ⟨[_, _, _, _, _, _], q, q, q⟩))))))
 exact WQ.skips 5 q (WQ.qn (y_pick_t q q) q (WQ.nil ⟨[_, _, _, _, _, _], q, q, q⟩))
 refine WQ.qn (y_move q) q ?_
 apply WQ.or 6 (t := 30) (d := 36)
 exact q
 intro hg30
 exact WQ.qy (y_loadcN q a135 s135 q) q q q (WQ.qy (y_fieldAddr f189_1 q) q q q (WQ.qy (y_load q q a3 q) q q q (WQ.q (YieldsQ.fn q q q q q (f112_c _ _) ⟨Zl, Zl, Zt⟩) (Wt.yes q q q) q q (WQ.qy (y_not q) q q q (WQ.qn (y_pick_f q q) q (WQ.nil ⟨[_, _, _, _, _, _], q, q, q⟩))))))
 exact WQ.skips 5 q (WQ.qn (y_pick_t q q) q (WQ.nil ⟨[_, _, _, _, _, _], q, q, q⟩))
 refine WQ.qn (y_move q) q ?_
 apply WQ.or 5 (t := 37) (d := 42)
 exact q
 intro hg37
 exact WQ.qy (y_move q) q q q (WQ.qy (y_fieldAddr f189_1 q) q q q (WQ.qy (y_load q q a3 q) q q q (WQ.qy (y_lookup (fun x : Int => Value.int .i64 x) (fun x : Bool => AV.d (.b x)) m77 (z := false) Tryz.underlying176 Tryz.underlying3 (KeyF.int .i64) q q q (by kernel_rfl) q) q q q (WQ.qn (y_pick_f q q) q (WQ.nil ⟨[_, _, _, _, _], q, q, q⟩)))))
 exact WQ.skips 4 q (WQ.qn (y_pick_t q q) q (WQ.nil ⟨[_, _, _, _, _], q, q, q⟩))
 refine WQ.qn (y_move q) q ?_
 obtain ⟨b81, hb81, h⟩ := bindS h
 apply WQ.grp 12 (t := 43) (d := 55) (z := b81)
 exact q
 intro hg43
 have h := condT hb81 hg43
 refine WQ.skips 11 q (WQ.qn (y_pick_t q q) q ?_)
 obtain rfl := Oi h
 exact WQ.nil ⟨[_, _, _, _, _, _, _, _, _, _, _, _], q, q, q⟩
 intro hg43
 have h := condF hb81 hg43
 refine WQ.qy (y_fieldAddrc f135_0 q) q q q (WQ.qy (y_fieldAddrc f38_0 q) q q q (WQ.qy (y_loadc q a23 q) q q q (WQ.qy (y_fieldAddr f189_1 q) q q q (WQ.qy (y_load q q a3 q) q q q ?_))))
 obtain ⟨x82, hx82, h⟩ := bindS h
 refine WQ.qy (y_indexAddr e23 q Zl q (idx_nonneg hx82) (idx_row E45_eq hx82) q) q q q (WQ.qy (y_loadcN q a45 s45 q) q q q (WQ.qy (y_fieldAddr f189_0 q) q q q (WQ.qy (y_load q q a3 q) q q q (WQ.q (YieldsQ.fn q q q q q (f121_c _ _) ⟨Zl, Zl, Zt⟩) (Wt.yes q q q) q q (WQ.qy (y_not q) q q q (WQ.qn (y_pick_f q q) q ?_))))))
 obtain rfl := Oi h
 exact WQ.nil ⟨[_, _, _, _, _, _, _, _, _, _, _, _], q, q, q⟩
 refine WQ.qn (y_move q) q ?_
 apply WQ.or 4 (t := 56) (d := 60)
 exact q
 intro hg56
 exact WQ.qy (y_fieldAddr f189_2 q) q q q (WQ.qy (y_load q q a2 q) q q q (WQ.qy (y_lss q q) q q q (WQ.qn (y_pick_f q q) q (WQ.nil ⟨[_, _, _, _], q, q, q⟩))))
 exact WQ.skips 3 q (WQ.qn (y_pick_t q q) q (WQ.nil ⟨[_, _, _, _], q, q, q⟩))
 refine WQ.qn (y_move q) q ?_
 apply WQ.or 4 (t := 61) (d := 65)
 exact q
 intro hg61
 exact WQ.qy (y_fieldAddr f189_2 q) q q q (WQ.qy (y_load q q a2 q) q q q (WQ.qy (y_gtr q q) q q q (WQ.qn (y_pick_f q q) q (WQ.nil ⟨[_, _, _, _], q, q, q⟩))))
 exact WQ.skips 3 q (WQ.qn (y_pick_t q q) q (WQ.nil ⟨[_, _, _, _], q, q, q⟩))
 refine WQ.nil (we_seq (wc_cond q (fun hc3 => ?_) (fun hc3 => ?_)))
 replace h := condT h hc3
 refine Zr (Za q q (Zn (wc_ret (we_seq_ret (we_blk_ret (we_seq_ret (we_lp_ret (we_blk_ret (we_lp_ret ?_)))))))))
 obtain rfl := Oi h
 exact we_ret_fn (rs1 q (rv_t q)) Zl
 replace h := condF h hc3
 exact wc_skip (we_seq (wc_region (Zm q q (Zq (y_fieldAddr f189_1 q) q (Zq (y_load q q a3 q) q (WL.s0 (d_mapUpdate (fun x : Int => Value.int .i64 x) (fun x : Bool => AV.d (.b x)) m77 (.inr q) Tryz.underlying176 Tryz.underlying3 (KeyF.int .i64) q q q q) (Zw q) q (WL.nil (we_blk (we_seq (wc_region (Zq (y_add q q q) q (Zm q q (WL.nil (WE.drop 1 (env' := [(1, .d (.pc (R135 t0))), (3, .mp 0), (14, .l E189 t0.text.loops), (15, .n (List.length t0.text.loops : Int)), (16, .n (IntKind.i64.wrap (t76 + 1)))]) (Sub.one q (Sub.one q (Sub.one q (Sub.one q (Sub.one q (Sub.nil _)))))) q (stLt_cons (lt_mp _ _ _ _) q) (Nat.zero_le _) (we_lp ⟨n, ⟨(IntKind.i64.wrap (t76 + 1)), (mpPut m77 x80.back true), h, (Sx q (Sx q (Sx q (Sx q (Sx q (Sub.nil _)))))), ⟨q, Zt⟩⟩, Nat.lt_succ_self n⟩)))))))))))))))
 replace h := condF h hc2
 exact wc_exit (we_seq_exit (we_lp_exit (we_blk_hit (we_lp ⟨m77, h, (Sub.nil _), ⟨q, Zt⟩⟩))))
 rintro env1 st1 ⟨m72, h, hsub, hst⟩
 subst hk73
 dsimp only at h
 refine WC.sub hsub (WC.weak hst ?_)
 refine Zr (Za q q (Zn (wc_ret ?_)))
 obtain rfl := Oi h
 exact we_ret_fn (rs1 q (rv_t q)) Zl

theorem f122_c (t0 : View) (a1 : Int) {r : Bool} (h : f122 t0 a1 = some r) : Pu Tryz.prog 122 [.ag (R135 t0), .i .i64 a1] (.b r) := by
 unfold f122 at h
 refine fn_intro Tryz.func122 (by kernel_rfl) q q q (fun φφ ww => ?_)
 refine Zr (WL.s ((b_boxd q q (Zs _)).does) (Zw q) q q (Za q q (Zn (Zr (Zq (y_loadcN q a135 s135 q) q (Zm q q (WL.fn q q q q (f112_c _ _) ⟨Zl, Zl, Zt⟩ (Zw q) q q (Zm q q ?_))))))))
 obtain ⟨b31, hb31, h⟩ := bindS h
 apply WL.grp 19 (t := 8) (d := 27) (z := b31)
 exact q
 intro hg8
 have h := condT hb31 hg8
 refine Zy (y_fieldAddrc f135_0 q) q q q (Zy (y_fieldAddrc f38_0 q) q q q (Zy (y_loadc q a23 q) q q q (Zy (y_move q) q q q ?_)))
 obtain ⟨x32, hx32, h⟩ := bindS h
 refine Zy (y_indexAddr e23 q Zl q (idx_nonneg hx32) (idx_row E45_eq hx32) q) q q q (Zy (y_fieldAddrc f45_0 q) q q q (Zy (y_loadc q a43 q) q q q (Zy (y_eql q q) q q q (Zy (y_move q) q q q ?_))))
 obtain ⟨b33, hb33, h⟩ := bindS h
 apply WL.grp 9 (t := 17) (d := 26) (z := b33)
 exact q
 intro hg17
 have h := condT hb33 hg17
 refine WL.skips 8 q (Zy (y_pick_t q q) q q q ?_)
 obtain rfl := Oi h
 exact WL.nil ⟨q, [_, _, _, _, _, _, _, _, _], q, q, q⟩
 intro hg17
 have h := condF hb33 hg17
 refine Zy (y_fieldAddrc f135_0 q) q q q (Zy (y_fieldAddrc f38_0 q) q q q (Zy (y_loadc q a23 q) q q q (Zy (y_move q) q q q ?_)))
 obtain ⟨x34, hx34, h⟩ := bindS h
 refine Zy (y_indexAddr e23 q Zl q (idx_nonneg hx34) (idx_row E45_eq hx34) q) q q q (Zy (y_fieldAddrc f45_0 q) q q q (Zy (y_loadc q a43 q) q q q (Zy (y_eql q q) q q q (Zy (y_pick_f q q) q q q ?_))))
 obtain rfl := Oi h
 exact WL.nil ⟨q, [_, _, _, _, _, _, _, _, _], q, q, q⟩
 refine Zq (y_pick_t q q) q ?_
 obtain rfl := Oi h
 exact WL.nil ⟨q, [_, _, _, _, _, _, _, _, _, _, _], q, q, q⟩
 intro hg8
 have h := condF hb31 hg8
 refine WL.skips 18 q (Zq (y_pick_f q q) q ?_)
 obtain rfl := Oi h
 exact WL.nil ⟨q, [_, _, _, _, _, _, _, _, _, _, _, _, _, _, _, _, _, _, _], q, q, q⟩
 refine Za q q (Zn (wc_ret ?_))
 obtain rfl := Oi h
 exact we_ret_fn (rs1 q (rv_t q)) Zl

theorem f75_c (t0 : View) {r : Bool} (h : f75 t0 = some r) : Pu Tryz.prog 75 [.ag (R135 t0)] (.b r) := by
 unfold f75 at h
 refine fn_intro Tryz.func75 (by kernel_rfl) q q q (fun φφ ww => ?_)
 refine Zr (WL.s ((b_boxd q q (Zs _)).does) (Zw q) q q (Za q q (Zn (Zr (Za q q (Zn ?_))))))
 replace h := letkS h
 obtain ⟨k40, hk40, h⟩ := h
 refine wc_cut (fun env' st' => k40 () = some r ∧ Sub [] env' ∧ SLe st' []) ?_ ?_
 refine Zr (Zq (y_fieldAddrc f135_0 q) q (Zq (y_fieldAddrc f38_10 q) q (Zq (y_loadc q a36 q) q (Zq (y_len_map E192 t0.text.checks e36 q q Zl) q (Zm q q (Zn (wc_block (wc_loop (fun n env' st' => ∃ (last43 : Int), ∃ (t44 : Int), f75_l1 t0 k40 n last43 t44 = some r ∧ Sub [(1, .d (.pc (R135 t0))), (3, .n last43), (8, .l E192 t0.text.checks), (9, .n (List.length t0.text.checks : Int)), (10, .n t44)] env' ∧ SLe st' []) (fun n => n) (Int.toNat ((List.length t0.text.checks : Int) - 0) + 1) ⟨(-1), 0, h, (Sx q (Sx q (Sx q (Sx q (Sx q (Sub.nil _)))))), Zt⟩ ?_))))))))
 rintro n env1 st1 ⟨last43, t44, h, hsub, hst⟩
 rcases n with _ | n
 rw [f75_l1] at h; cases h
 rw [f75_l1] at h
 refine WC.sub hsub (WC.weak hst ?_)
 refine Zr (Zq (y_lss q q) q (Zn (wc_seq (wc_cond q (fun hc1 => ?_) (fun hc1 => ?_)))))
 replace h := condT h hc1
 refine wc_skip (we_seq (wc_seq (wc_block (Zr ?_))))
 obtain ⟨x47, hx47, h⟩ := bindS h
 refine Zq (y_indexAddr e36 q Zl q (idx_nonneg hx47) (idx_row E192_eq hx47) q) q (Zq (y_loadcN q a192 s192 q) q (WL.s ((b_alloc z192).does) (Zw q) q q (WL.s0 (d_store q q q q q q s192 q q) (Zw q) q (Zn (wc_seq (Zr (Zq (y_fieldAddr f192_0 q) q (Zq (y_load q q a3 q) q (Zm q q (Zq (y_leq q q) q (Zm q q ?_)))))))))))
 obtain ⟨b48, hb48, h⟩ := bindS h
 apply WL.grp 6 (t := 18) (d := 24) (z := b48)
 exact q
 intro hg18
 have h := condT hb48 hg18
 refine WL.skips 5 q (Zq (y_pick_t q q) q ?_)
 obtain rfl := Oi h
 exact WL.nil ⟨q, [_, _, _, _, _, _], q, q, q⟩
 intro hg18
 have h := condF hb48 hg18
 refine Zy (y_loadcN q a135 s135 q) q q q (Zy (y_fieldAddr f192_0 q) q q q (Zy (y_load q q a3 q) q q q ?_))
 obtain ⟨r49, hr49, h⟩ := bindS h
 refine WL.fn q q q q (f122_c _ _ hr49) ⟨Zl, Zl, Zt⟩ (Wt.yes q q q) q q (Zy (y_not q) q q q (Zq (y_pick_f q q) q ?_))
 obtain rfl := Oi h
 exact WL.nil ⟨q, [_, _, _, _, _, _], q, q, q⟩
 refine Zm q q ?_
 apply WL.or 4 (t := 25) (d := 29)
 exact q
 intro hg25
 exact Zy (y_fieldAddr f192_1 q) q q q (Zy (y_load q q a190 q) q q q (Zy (y_lss q q) q q q (Zq (y_pick_f q q) q (WL.nil ⟨q, [_, _, _, _], q, q, q⟩))))
 exact WL.skips 3 q (Zq (y_pick_t q q) q (WL.nil ⟨q, [_, _, _, _], q, q, q⟩))
 refine Zm q q ?_
 apply WL.or 4 (t := 30) (d := 34)
 exact q
 intro hg30
 exact Zy (y_fieldAddr f192_1 q) q q q (Zy (y_load q q a190 q) q q q (Zy (y_gtr q q) q q q (Zq (y_pick_f q q) q (WL.nil ⟨q, [_, _, _, _], q, q, q⟩))))
 exact WL.skips 3 q (Zq (y_pick_t q q) q (WL.nil ⟨q, [_, _, _, _], q, q, q⟩))
 refine Zn (wc_cond q (fun hc2 => ?_) (fun hc2 => ?_))
 replace h := condT h hc2
 refine Zr (Za q q (Zn (wc_ret (we_seq_ret (we_blk_ret (we_seq_ret (we_lp_ret (we_blk_ret (we_lp_ret ?_)))))))))
 obtain rfl := Oi h
 exact we_ret_fn (rs1 q (rv_t q)) Zl
 replace h := condF h hc2
 exact wc_skip (we_seq (wc_region (Zq (y_fieldAddr f192_0 q) q (Zq (y_load q q a3 q) q (Za q q (WL.nil (we_blk (we_seq (wc_region (Zq (y_add q q q) q (Zm q q (WL.nil (WE.drop 0 (env' := [(1, .d (.pc (R135 t0))), (3, .n x47.at_), (8, .l E192 t0.text.checks), (9, .n (List.length t0.text.checks : Int)), (10, .n (IntKind.i64.wrap (t44 + 1)))]) (Sub.one q (Sub.one q (Sub.one q (Sub.one q (Sub.one q (Sub.nil _)))))) q q (Nat.zero_le _) (we_lp ⟨n, ⟨x47.at_, (IntKind.i64.wrap (t44 + 1)), h, (Sx q (Sx q (Sx q (Sx q (Sx q (Sub.nil _)))))), Zt⟩, Nat.lt_succ_self n⟩))))))))))))))
 replace h := condF h hc1
 exact wc_exit (we_seq_exit (we_lp_exit (we_blk_hit (we_lp ⟨h, (Sub.nil _), Zt⟩))))
 rintro env1 st1 ⟨h, hsub, hst⟩
 subst hk40
 dsimp only at h
 refine WC.sub hsub (WC.weak hst ?_)
 refine Zr (Za q q (Zn (wc_ret ?_)))
 obtain rfl := Oi h
 exact we_ret_fn (rs1 q (rv_t q)) Zl

theorem f123_c (s0 : List Insn) (cb1 : Insn → Option (Bool)) (g1 : FuncId) (fi1 ca1 : List D) (hcb1 : ∀ (y0 : Insn) (r : Bool), cb1 y0 = some r → Pu Tryz.prog g1 (fi1 ++ [.ag (R45 y0)] ++ ca1) (.b r)) {r : Int} (h : f123 s0 cb1 = some r) : Pu Tryz.prog 123 [.sl (List.map E45 s0), .fnc (.func g1) fi1 ca1] (.i .i64 r) := by
 unfold f123 at h
 refine fn_intro Tryz.func123 (by kernel_rfl) q q q (fun φφ ww => ?_)
 refine WC.cast 1 q (Le.fncd _ _ _) (Zr (Za q q (Zn ?_)))
 replace h := letkS h
 obtain ⟨k22, hk22, h⟩ := h
 refine wc_cut (fun env' st' => k22 () = some r ∧ Sub [] env' ∧ SLe st' []) ?_ ?_
 refine Zr (Zm q q (Zq (y_len_map E45 s0 e23 q q Zl) q (Zm q q (Zn (wc_block (wc_loop (fun n env' st' => ∃ (t24 : Int), f123_l1 s0 cb1 k22 n t24 = some r ∧ Sub [(0, .l E45 s0), (1, .fn (.func g1) (List.map AV.d fi1) (List.map AV.d ca1)), (7, .n (List.length s0 : Int)), (8, .n t24)] env' ∧ SLe st' []) (fun n => n) (Int.toNat ((List.length s0 : Int) - 0) + 1) ⟨0, h, (Sx q (Sx q (Sx q (Sx q (Sub.nil _))))), Zt⟩ ?_))))))
 rintro n env1 st1 ⟨t24, h, hsub, hst⟩
 rcases n with _ | n
 rw [f123_l1] at h; cases h
 rw [f123_l1] at h
 refine WC.sub hsub (WC.weak hst ?_)
 refine Zr (Zq (y_lss q q) q (Zn (wc_seq (wc_cond q (fun hc1 => ?_) (fun hc1 => ?_)))))
 replace h := condT h hc1
 refine wc_skip (we_seq (wc_seq (wc_block (Zr (Zm q q (Za q q (Zn (Zr (Zm q q (Zm q q (Zm q q ?_)))))))))))
 obtain ⟨x26, hx26, h⟩ := bindS h
 refine Zq (y_indexAddr e23 q Zl q (idx_nonneg hx26) (idx_row E45_eq hx26) q) q (Zq (y_loadcN q a45 s45 q) q ?_)
 obtain ⟨r27, hr27, h⟩ := bindS h
 refine WL.fn q q q q (hcb1 _ _ hr27) (Les.mid ⟨Zl, Zt⟩) (Zw q) q q (Zn (wc_cond q (fun hc2 => ?_) (fun hc2 => ?_)))
 replace h := condT h hc2
 refine Zr (Zm q q (Za q q (Zn (wc_ret (we_blk_ret (we_seq_ret (we_lp_ret (we_blk_ret (we_lp_ret ?_)))))))))
 obtain rfl := Oi h
 exact we_ret_fn (rs1 q (rv_t q)) Zl
 replace h := condF h hc2
 exact wc_skip (we_blk (we_seq (wc_region (Zq (y_add q q q) q (Zm q q (WL.nil (we_lp ⟨n, ⟨(IntKind.i64.wrap (t24 + 1)), h, (Sx q (Sx q (Sx q (Sx q (Sub.nil _))))), Zt⟩, Nat.lt_succ_self n⟩)))))))
 replace h := condF h hc1
 exact wc_exit (we_seq_exit (we_lp_exit (we_blk_hit (we_lp ⟨h, (Sub.nil _), Zt⟩))))
 rintro env1 st1 ⟨h, hsub, hst⟩
 subst hk22
 dsimp only at h
 refine WC.sub hsub (WC.weak hst ?_)
 refine Zr (Za q q (Zn (wc_ret ?_)))
 obtain rfl := Oi h
 exact we_ret_fn (rs1 q (rv_t q)) Zl

theorem f76_c (s0 : List Insn) (cb1 : Insn → Option (Bool)) (g1 : FuncId) (fi1 ca1 : List D) (hcb1 : ∀ (y0 : Insn) (r : Bool), cb1 y0 = some r → Pu Tryz.prog g1 (fi1 ++ [.ag (R45 y0)] ++ ca1) (.b r)) {r : Bool} (h : f76 s0 cb1 = some r) : Pu Tryz.prog 76 [.sl (List.map E45 s0), .fnc (.func g1) fi1 ca1] (.b r) := by
 unfold f76 at h
 refine fn_intro Tryz.func76 (by kernel_rfl) q q q (fun φφ ww => ?_)
 refine WC.cast 1 q (Le.fncd _ _ _) (Zr (Za q q (Zn (Zr (Zm q q (Zm q q ?_))))))
 obtain ⟨r12, hr12, h⟩ := bindS h
 refine WL.fn q q q q (f123_c _ _ g1 fi1 ca1 hcb1 hr12) ⟨Zl, (Le.fnc (Zs _) (Zs _)), Zt⟩ (Zw q) q q (Zq (y_geq q q) q (Za q q (Zn (wc_ret ?_))))
 obtain rfl := Oi h
 exact we_ret_fn (rs1 q (rv_t q)) Zl

theorem f156_c (o0 : Int) {r : Row224 × Bool} (h : f156 o0 = some r) : Pu Tryz.prog 156 [.i .u8 o0] (.tu [.ag (R224 r.1), .b r.2]) := by
 unfold f156 at h
 refine fn_intro Tryz.func156 (by kernel_rfl) q q q (fun φφ ww => ?_)
 refine Zr (WL.s ((b_alloc z224).does) (Zw q) q q (Za q q (Zn (wc_seq (Zr (Zm q q (Zq (y_lss q q) q (Zm q q ?_))))))))
 apply WL.or 4 (t := 6) (d := 10)
 exact q
 intro hg6
 exact Zy (y_move q) q q q (Zy (y_conv Tryz.underlying43 Tryz.underlying3 q q) q q q (Zy (y_gtr q q) q q q (Zq (y_pick_f q q) q (WL.nil ⟨q, [_, _, _, _], q, q, q⟩))))
 exact WL.skips 3 q (Zq (y_pick_t q q) q (WL.nil ⟨q, [_, _, _, _], q, q, q⟩))
 refine Zn (wc_cond q (fun hc1 => ?_) (fun hc1 => ?_))
 replace h := condT h hc1
 refine Zr (Zq (y_build p224 z224 q q) q (WL.s0 (d_store q q q q q q s224 q q) (Zw q) q (Za q q (Zn (wc_ret (we_seq_ret ?_))))))
 obtain rfl := Oi h
 exact we_ret_fn (rs2 q (rv_cN q q a224 s224 q) (rv_t q)) (Le.tud ⟨(Le.agd ⟨Zl, Zl, Zt⟩), Zl, Zt⟩)
 replace h := condF h hc1
 refine wc_skip (we_seq (Zr (Zm q q (Zq (y_sub q q q) q ?_))))
 obtain ⟨x18, hx18, h⟩ := bindS h
 refine Zq (y_tabN (R := R224) insnRows (fun _ => q) ar259 (congrArg (Option.map fun ps => AV.d (.pc ps)) insnRows_gpc) q q hx18) q (Zq (y_loadcN q a224 s224 q) q (WL.s0 (d_store q q q q q q s224 q q) (Zw q) q (Za q q (Zn (wc_ret ?_)))))
 obtain rfl := Oi h
 exact we_ret_fn (rs2 q (rv_cN q q a224 s224 q) (rv_t q)) (Le.tud ⟨(Le.agd ⟨Zl, Zl, Zt⟩), Zl, Zt⟩)

theorem f176_c (s0 : ByteArray) {r : List ByteArray} (h : f176 s0 = some r) : Pu Tryz.prog 176 [.s s0] (.sl (List.map E9 r)) := by
 unfold f176 at h
 refine fn_intro Tryz.func176 (by kernel_rfl) q q q (fun φφ ww => ?_)
 refine Zr (Za q q (Zn (Zr (Za q q (Zn (Zr (Za q q (Zn (Zr (Za q q (Zn ?_)))))))))))
 replace h := letkS h
 obtain ⟨k110, hk110, h⟩ := h
 refine wc_cut (fun env' st' => ∃ (n108 : Int), ∃ (setBits109 : Int), k110 n108 setBits109 = some r ∧ Sub [(0, .d (D.s s0)), (3, .n n108), (5, .d (D.i .u8 setBits109))] env' ∧ SLe st' []) ?_ ?_
 refine Zr (Za q q (Zn (wc_block (wc_loop (fun n env' st' => ∃ (n115 : Int), ∃ (wasSpace116 : Int), ∃ (setBits117 : Int), ∃ (iq118 : Int), f176_l1 s0 k110 n n115 wasSpace116 setBits117 iq118 = some r ∧ Sub [(0, .d (D.s s0)), (3, .n n115), (4, .n wasSpace116), (5, .d (D.i .u8 setBits117)), (6, .n iq118)] env' ∧ SLe st' []) (fun n => n) 9223372036854775808 ⟨0, 1, 0, 0, h, (Sx q (Sx q (Sx q (Sx q (Sx q (Sub.nil _)))))), Zt⟩ ?_))))
 rintro n env1 st1 ⟨n115, wasSpace116, setBits117, iq118, h, hsub, hst⟩
 rcases n with _ | n
 rw [f176_l1] at h; cases h
 rw [f176_l1] at h
 refine WC.sub hsub (WC.weak hst ?_)
 refine wc_seq (Zr (Zm q q (Zm q q (Zq (y_len_str Tryz.underlying9 q q) q (Zq (y_lss q q) q (Zn (wc_cond q (fun hc1 => ?_) (fun hc1 => ?_))))))))
 replace h := condT h hc1
 refine wc_skip (we_seq (wc_seq (wc_block (Zr (Zm q q (Zm q q ?_))))))
 obtain ⟨x123, hx123, h⟩ := bindS h
 refine Zq (y_sindex Tryz.underlying9 q q hx123) q (Za q q (Zn (Zr (Zm q q (Zm q q (Zq (y_or q q q) q (Za q q (Zn (Zr (Zm q q ?_))))))))))
 obtain ⟨x124, hx124, h⟩ := bindS h
 refine Zq (y_tab (E := D.i .u8) asciiTab ar277 q q q hx124) q (Zq (y_loadc q a5 q) q (Zq (y_conv Tryz.underlying5 Tryz.underlying3 q q) q (Za q q (Zn (Zr (Zm q q (Zm q q (Zm q q (Zq (y_com q q) q (Zq (y_and q q q) q (Zq (y_add q q q) q (Za q q (Zn (wc_region (Zm q q (Za q q (WL.nil (we_blk (we_seq (wc_region (Zm q q (Zq (y_add q q q) q (Za q q (WL.nil ?_))))))))))))))))))))))))
 exact we_lp ⟨n, ⟨(IntKind.i64.wrap (n115 + (IntKind.i64.wrap (BitVec.ofInt IntKind.i64.bits wasSpace116 &&& BitVec.ofInt IntKind.i64.bits (IntKind.i64.wrap (BitVec.ofInt IntKind.i64.bits (-1) ^^^ BitVec.ofInt IntKind.i64.bits (IntKind.i64.wrap x124)).toNat)).toNat))), (IntKind.i64.wrap x124), (IntKind.u8.wrap (BitVec.ofInt IntKind.u8.bits setBits117 ||| BitVec.ofInt IntKind.u8.bits x123).toNat), (IntKind.i64.wrap (iq118 + 1)), h, (Sx q (Sx q (Sx q (Sx q (Sx q (Sub.nil _)))))), Zt⟩, Nat.lt_succ_self n⟩
 replace h := condF h hc1
 exact wc_exit (we_seq_exit (we_lp_exit (we_blk_hit (we_lp ⟨n115, setBits117, h, (Sx q (Sx q (Sx q (Sub.nil _)))), Zt⟩))))
 rintro env1 st1 ⟨n108, setBits109, h, hsub, hst⟩
 subst hk110
 dsimp only at h
 refine WC.sub hsub (WC.weak hst ?_)
 refine wc_seq (Zr (Zm q q (Zq (y_geq q q) q (Zn (wc_cond q (fun hc2 => ?_) (fun hc2 => ?_))))))
 replace h := condT h hc2
 refine wc_seq ?_
 cases h
 replace h := condF h hc2
 refine wc_skip (we_seq (Zr (Zm q q ?_)))
 replace h := guardBS h
 obtain ⟨hgg125, h⟩ := h
 refine WL.s ((NewOs.b (NewOs.cast (n_makeSlice l261 z9 q (Nat.succ_pos _) q q hgg125) (by exact replicate_encA (R := E9) (z := (ByteArray.empty : ByteArray)) q))).does) (Zw q) q q (Za q q (Zn (Zr (Za q q (Zn (Zr (Za q q (Zn (Zr (Za q q (Zn ?_)))))))))))
 replace h := letkS h
 obtain ⟨k127, hk127, h⟩ := h
 refine wc_cut (fun env' st' => ∃ (iq126 : Int), k127 iq126 = some r ∧ Sub [(0, .d (D.s s0)), (9, .os 0 0), (10, .n 0), (12, .n iq126)] env' ∧ SLe st' [.os 9 1 0 (eM E9 (List.replicate (Int.toNat n108) (ByteArray.empty : ByteArray)))]) ?_ ?_
 refine wc_block (wc_loop (fun n env' st' => ∃ (iq129 : Int), f176_l2 s0 k127 n iq129 = some r ∧ Sub [(0, .d (D.s s0)), (9, .os 0 0), (10, .n 0), (12, .n iq129)] env' ∧ SLe st' [.os 9 1 0 (eM E9 (List.replicate (Int.toNat n108) (ByteArray.empty : ByteArray)))]) (fun n => n) 9223372036854775808 ⟨0, h, (Sx q (Sx q (Sx q (Sx q (Sub.nil _))))), ⟨Zf, Zt⟩⟩ ?_)
 rintro n env1 st1 ⟨iq129, h, hsub, hst⟩
 rcases n with _ | n
 rw [f176_l2] at h; cases h
 rw [f176_l2] at h
 refine WC.sub hsub (WC.weak hst ?_)
 refine wc_seq (Zr (Zm q q (Zm q q (Zq (y_len_str Tryz.underlying9 q q) q (Zq (y_lss q q) q (Zm q q ?_))))))
 obtain ⟨b131, hb131, h⟩ := bindS h
 apply WL.grp 7 (t := 46) (d := 53) (z := b131)
 exact q
 intro hg46
 have h := condT hb131 hg46
 refine Zy (y_move q) q q q (Zy (y_move q) q q q ?_)
 obtain ⟨x132, hx132, h⟩ := bindS h
 refine Zy (y_sindex Tryz.underlying9 q q hx132) q q q ?_
 obtain ⟨x133, hx133, h⟩ := bindS h
 refine Zy (y_tab (E := D.i .u8) asciiTab ar277 q q q hx133) q q q (Zy (y_loadc q a5 q) q q q (Zy (y_neq q q) q q q (Zq (y_pick_t q q) q ?_)))
 obtain rfl := Oi h
 exact WL.nil ⟨q, [_, _, _, _, _, _, _], q, q, q⟩
 intro hg46
 have h := condF hb131 hg46
 refine WL.skips 6 q (Zq (y_pick_f q q) q ?_)
 obtain rfl := Oi h
 exact WL.nil ⟨q, [_, _, _, _, _, _, _], q, q, q⟩
 refine Zn (wc_cond q (fun hc3 => ?_) (fun hc3 => ?_))
 replace h := condT h hc3
 exact wc_skip (we_seq (wc_block (wc_region (Zm q q (Zq (y_add q q q) q (Za q q (WL.nil (we_blk (we_lp ⟨n, ⟨(IntKind.i64.wrap (iq129 + 1)), h, (Sx q (Sx q (Sx q (Sx q (Sub.nil _))))), ⟨Zf, Zt⟩⟩, Nat.lt_succ_self n⟩)))))))))
 replace h := condF h hc3
 exact wc_exit (we_seq_exit (we_lp_exit (we_blk_hit (we_lp ⟨iq129, h, (Sx q (Sx q (Sx q (Sx q (Sub.nil _))))), ⟨Zf, Zt⟩⟩))))
 rintro env1 st1 ⟨iq126, h, hsub, hst⟩
 subst hk127
 dsimp only at h
 refine WC.sub hsub (WC.weak hst ?_)
 refine Zr (Zm q q (Za q q (Zn ?_)))
 replace h := letkS h
 obtain ⟨k137, hk137, h⟩ := h
 refine wc_cut (fun env' st' => ∃ (na134 : Int), ∃ (fieldStart135 : Int), ∃ (l136 : List ByteArray), k137 na134 fieldStart135 l136 = some r ∧ Sub [(0, .d (D.s s0)), (9, .os 0 0), (10, .n na134), (11, .n fieldStart135)] env' ∧ SLe st' [.os 9 1 0 (eM E9 l136)]) ?_ ?_
 refine wc_block (wc_loop (fun n env' st' => ∃ (na142 : Int), ∃ (fieldStart143 : Int), ∃ (iq144 : Int), ∃ (l145 : List ByteArray), f176_l3 s0 k137 n na142 fieldStart143 iq144 l145 = some r ∧ Sub [(0, .d (D.s s0)), (9, .os 0 0), (10, .n na142), (11, .n fieldStart143), (12, .n iq144)] env' ∧ SLe st' [.os 9 1 0 (eM E9 l145)]) (fun n => n) 9223372036854775808 ⟨0, iq126, iq126, (List.replicate (Int.toNat n108) (ByteArray.empty : ByteArray)), h, (Sx q (Sx q (Sx q (Sx q (Sx q (Sub.nil _)))))), ⟨Zf, Zt⟩⟩ ?_)
 rintro n env1 st1 ⟨na142, fieldStart143, iq144, l145, h, hsub, hst⟩
 rcases n with _ | n
 rw [f176_l3] at h; cases h
 rw [f176_l3] at h
 refine WC.sub hsub (WC.weak hst ?_)
 refine wc_seq (Zr (Zm q q (Zm q q (Zq (y_len_str Tryz.underlying9 q q) q (Zq (y_lss q q) q (Zn (wc_cond q (fun hc4 => ?_) (fun hc4 => ?_))))))))
 replace h := condT h hc4
 refine wc_skip (we_seq (wc_block (wc_seq (Zr (Zm q q (Zm q q ?_))))))
 obtain ⟨x150, hx150, h⟩ := bindS h
 refine Zq (y_sindex Tryz.underlying9 q q hx150) q ?_
 obtain ⟨x151, hx151, h⟩ := bindS h
 refine Zq (y_tab (E := D.i .u8) asciiTab ar277 q q q hx151) q (Zq (y_loadc q a5 q) q (Zq (y_eql q q) q (Zn (wc_cond q (fun hc5 => ?_) (fun hc5 => ?_)))))
 replace h := condT h hc5
 exact Zr (Zm q q (Zq (y_add q q q) q (Za q q (Zn (wc_exit (we_seq_exit (we_blk_hit (we_lp ⟨n, ⟨na142, fieldStart143, (IntKind.i64.wrap (iq144 + 1)), l145, h, (Sx q (Sx q (Sx q (Sx q (Sx q (Sub.nil _)))))), ⟨Zf, Zt⟩⟩, Nat.lt_succ_self n⟩))))))))
 replace h := condF h hc5
 refine wc_skip (we_seq (Zr (Zm q q (Zm q q (Zm q q (Zm q q (Zm q q ?_)))))))
 obtain ⟨s152, hs152, h⟩ := bindS h
 refine Zq (y_scut Tryz.underlying9 q q q hs152) q ?_
 obtain ⟨x153, hx153, h⟩ := bindS h
 refine Zq (y_pe e261 q q q hx153) q (WL.s0 (d_store_peL (R := E9) (k := 1) (i := na142) (fo := 0) s152 q q q q Zl q q q s9 q (fun _ => q) hx153 q q) (Zw q) q (Zn (Zr (Zm q q (Zq (y_add q q q) q (Za q q (Zn (Zr (Zm q q (Zq (y_add q q q) q (Za q q (Zn ?_))))))))))))
 replace h := letkS h
 obtain ⟨k155, hk155, h⟩ := h
 refine wc_cut (fun env' st' => ∃ (iq154 : Int), k155 iq154 = some r ∧ Sub [(0, .d (D.s s0)), (9, .os 0 0), (10, .n (IntKind.i64.wrap (na142 + 1))), (12, .n iq154)] env' ∧ SLe st' [.os 9 1 0 (eM E9 (List.set l145 (Int.toNat na142) s152))]) ?_ ?_
 refine wc_block (wc_loop (fun na env' st' => ∃ (iq157 : Int), f176_l4 s0 k155 na iq157 = some r ∧ Sub [(0, .d (D.s s0)), (9, .os 0 0), (10, .n (IntKind.i64.wrap (na142 + 1))), (12, .n iq157)] env' ∧ SLe st' [.os 9 1 0 (eM E9 (List.set l145 (Int.toNat na142) s152))]) (fun n => n) 9223372036854775808 ⟨(IntKind.i64.wrap (iq144 + 1)), h, (Sx q (Sx q (Sx q (Sx q (Sub.nil _))))), ⟨Zf, Zt⟩⟩ ?_)
 rintro na env1 st1 ⟨iq157, h, hsub, hst⟩
 rcases na with _ | na
 rw [f176_l4] at h; cases h
 rw [f176_l4] at h
 refine WC.sub hsub (WC.weak hst ?_)
 refine wc_seq (Zr (Zm q q (Zm q q (Zq (y_len_str Tryz.underlying9 q q) q (Zq (y_lss q q) q (Zm q q ?_))))))
 obtain ⟨b159, hb159, h⟩ := bindS h
 apply WL.grp 7 (t := 84) (d := 91) (z := b159)
 exact q
 intro hg84
 have h := condT hb159 hg84
 refine Zy (y_move q) q q q (Zy (y_move q) q q q ?_)
 obtain ⟨x160, hx160, h⟩ := bindS h
 refine Zy (y_sindex Tryz.underlying9 q q hx160) q q q ?_
 obtain ⟨x161, hx161, h⟩ := bindS h
 refine Zy (y_tab (E := D.i .u8) asciiTab ar277 q q q hx161) q q q (Zy (y_loadc q a5 q) q q q (Zy (y_neq q q) q q q (Zq (y_pick_t q q) q ?_)))
 obtain rfl := Oi h
 exact WL.nil ⟨q, [_, _, _, _, _, _, _], q, q, q⟩
 intro hg84
 have h := condF hb159 hg84
 refine WL.skips 6 q (Zq (y_pick_f q q) q ?_)
 obtain rfl := Oi h
 exact WL.nil ⟨q, [_, _, _, _, _, _, _], q, q, q⟩
 refine Zn (wc_cond q (fun hc6 => ?_) (fun hc6 => ?_))
 replace h := condT h hc6
 exact wc_skip (we_seq (wc_block (wc_region (Zm q q (Zq (y_add q q q) q (Za q q (WL.nil (we_blk (we_lp ⟨na, ⟨(IntKind.i64.wrap (iq157 + 1)), h, (Sx q (Sx q (Sx q (Sx q (Sub.nil _))))), ⟨Zf, Zt⟩⟩, Nat.lt_succ_self na⟩)))))))))
 replace h := condF h hc6
 exact wc_exit (we_seq_exit (we_lp_exit (we_blk_hit (we_lp ⟨iq157, h, (Sx q (Sx q (Sx q (Sx q (Sub.nil _))))), ⟨Zf, Zt⟩⟩))))
 rintro env1 st1 ⟨iq154, h, hsub, hst⟩
 subst hk155
 dsimp only at h
 refine WC.sub hsub (WC.weak hst ?_)
 exact wc_region (Zm q q (Za q q (WL.nil (we_blk (we_lp ⟨n, ⟨(IntKind.i64.wrap (na142 + 1)), iq154, iq154, (List.set l145 (Int.toNat na142) s152), h, (Sx q (Sx q (Sx q (Sx q (Sx q (Sub.nil _)))))), ⟨Zf, Zt⟩⟩, Nat.lt_succ_self n⟩)))))
 replace h := condF h hc4
 exact wc_exit (we_seq_exit (we_lp_exit (we_blk_hit (we_lp ⟨na142, fieldStart143, l145, h, (Sx q (Sx q (Sx q (Sx q (Sub.nil _))))), ⟨Zf, Zt⟩⟩))))
 rintro env1 st1 ⟨na134, fieldStart135, l136, h, hsub, hst⟩
 subst hk137
 dsimp only at h
 refine WC.sub hsub (WC.weak hst ?_)
 replace h := letkS h
 obtain ⟨k163, hk163, h⟩ := h
 refine wc_cut (fun env' st' => ∃ (l162 : List ByteArray), k163 l162 = some r ∧ Sub [(9, .os 0 0)] env' ∧ SLe st' [.os 9 1 0 (eM E9 l162)]) ?_ ?_
 refine Zr (Zm q q (Zm q q (Zq (y_len_str Tryz.underlying9 q q) q (Zq (y_lss q q) q (Zn (wc_cond q (fun hc7 => ?_) (fun hc7 => ?_)))))))
 replace h := condT h hc7
 refine wc_region (Zm q q (Zm q q (Zm q q (Zm q q ?_))))
 obtain ⟨s164, hs164, h⟩ := bindS h
 refine Zq (y_scutl Tryz.underlying9 q q hs164) q ?_
 obtain ⟨x165, hx165, h⟩ := bindS h
 exact Zq (y_pe e261 q q q hx165) q (WL.s0 (d_store_peL (R := E9) (k := 1) (i := na134) (fo := 0) s164 q q q q Zl q q q s9 q (fun _ => q) hx165 q q) (Zw q) q (WL.nil (we_lp ⟨(List.set l136 (Int.toNat na134) s164), h, (Sx q (Sub.nil _)), ⟨Zf, Zt⟩⟩)))
 replace h := condF h hc7
 exact wc_skip (we_lp ⟨l136, h, (Sx q (Sub.nil _)), ⟨Zf, Zt⟩⟩)
 rintro env1 st1 ⟨l162, h, hsub, hst⟩
 subst hk163
 dsimp only at h
 refine WC.sub hsub (WC.weak hst ?_)
 refine Zr (Zm q q (Za q q (Zn (wc_ret ?_))))
 refine WE.freezeX [9, 105, 2] [] 0 (List.map E9 l162) q (encA_map E9_eq l162) ⟨q, q, q, Zt⟩ Zt ?_
 obtain rfl := Oi h
 exact we_ret_fn (rs1 q (rv_t q)) Zl

theorem f179_c (what0 : Int) : Pu Tryz.prog 179 [.i .u8 what0] (.tu [.i .i64 (f179 what0).1, .i .i64 (f179 what0).2]) := by
 generalize h : f179 what0 = r
 unfold f179 at h
 refine fn_intro Tryz.func179 (by kernel_rfl) q q q (fun φφ ww => ?_)
 refine Zr (Za q q (Za q q (Zn (wc_seq (Zr (Zm q q (Zn (wc_block (Zr (Zq (y_eql q q) q (Za q q (Zn (wc_cond q (fun hc1 => ?_) (fun hc1 => ?_))))))))))))))
 replace h := condT h hc1
 refine Zr (Za q q (Za q q (Zn (wc_ret (we_blk_ret (we_seq_ret ?_))))))
 subst h
 exact we_ret_fn (rs2 q (rv_t q) (rv_t q)) (Le.tud ⟨Zl, Zl, Zt⟩)
 replace h := condF h hc1
 refine Zr (Zq (y_eql q q) q (Za q q (Zn (wc_cond q (fun hc2 => ?_) (fun hc2 => ?_)))))
 replace h := condT h hc2
 refine Zr (Za q q (Za q q (Zn (wc_ret (we_blk_ret (we_seq_ret ?_))))))
 subst h
 exact we_ret_fn (rs2 q (rv_t q) (rv_t q)) (Le.tud ⟨Zl, Zl, Zt⟩)
 replace h := condF h hc2
 refine Zr (Zq (y_eql q q) q (Za q q (Zn (wc_cond q (fun hc3 => ?_) (fun hc3 => ?_)))))
 replace h := condT h hc3
 refine Zr (Za q q (Za q q (Zn (wc_ret (we_blk_ret (we_seq_ret ?_))))))
 subst h
 exact we_ret_fn (rs2 q (rv_t q) (rv_t q)) (Le.tud ⟨Zl, Zl, Zt⟩)
 replace h := condF h hc3
 refine Zr (Zq (y_eql q q) q (Za q q (Zn (wc_cond q (fun hc4 => ?_) (fun hc4 => ?_)))))
 replace h := condT h hc4
 refine Zr (Za q q (Za q q (Zn (wc_ret (we_blk_ret (we_seq_ret ?_))))))
 subst h
 exact we_ret_fn (rs2 q (rv_t q) (rv_t q)) (Le.tud ⟨Zl, Zl, Zt⟩)
 replace h := condF h hc4
 refine Zr (Zq (y_eql q q) q (Za q q (Zn (wc_cond q (fun hc5 => ?_) (fun hc5 => ?_)))))
 replace h := condT h hc5
 refine Zr (Za q q (Za q q (Zn (wc_ret (we_blk_ret (we_seq_ret ?_))))))
 subst h
 exact we_ret_fn (rs2 q (rv_t q) (rv_t q)) (Le.tud ⟨Zl, Zl, Zt⟩)
 replace h := condF h hc5
 refine Zr (Zq (y_eql q q) q (Za q q (Zn (wc_cond q (fun hc6 => ?_) (fun hc6 => ?_)))))
 replace h := condT h hc6
 refine Zr (Za q q (Za q q (Zn (wc_ret (we_blk_ret (we_seq_ret ?_))))))
 subst h
 exact we_ret_fn (rs2 q (rv_t q) (rv_t q)) (Le.tud ⟨Zl, Zl, Zt⟩)
 replace h := condF h hc6
 refine Zr (Zq (y_eql q q) q (Za q q (Zn (wc_cond q (fun hc7 => ?_) (fun hc7 => ?_)))))
 replace h := condT h hc7
 refine Zr (Za q q (Za q q (Zn (wc_ret (we_blk_ret (we_seq_ret ?_))))))
 subst h
 exact we_ret_fn (rs2 q (rv_t q) (rv_t q)) (Le.tud ⟨Zl, Zl, Zt⟩)
 replace h := condF h hc7
 refine Zr (Zq (y_eql q q) q (Za q q (Zn (wc_cond q (fun hc8 => ?_) (fun hc8 => ?_)))))
 replace h := condT h hc8
 refine Zr (Za q q (Za q q (Zn (wc_ret (we_blk_ret (we_seq_ret ?_))))))
 subst h
 exact we_ret_fn (rs2 q (rv_t q) (rv_t q)) (Le.tud ⟨Zl, Zl, Zt⟩)
 replace h := condF h hc8
 refine Zr (Zq (y_eql q q) q (Za q q (Zn (wc_cond q (fun hc9 => ?_) (fun hc9 => ?_)))))
 replace h := condT h hc9
 refine Zr (Za q q (Za q q (Zn (wc_ret (we_blk_ret (we_seq_ret ?_))))))
 subst h
 exact we_ret_fn (rs2 q (rv_t q) (rv_t q)) (Le.tud ⟨Zl, Zl, Zt⟩)
 replace h := condF h hc9
 refine Zr (Zq (y_eql q q) q (Za q q (Zn (wc_cond q (fun hc10 => ?_) (fun hc10 => ?_)))))
 replace h := condT h hc10
 refine Zr (Za q q (Za q q (Zn (wc_ret (we_blk_ret (we_seq_ret ?_))))))
 subst h
 exact we_ret_fn (rs2 q (rv_t q) (rv_t q)) (Le.tud ⟨Zl, Zl, Zt⟩)
 replace h := condF h hc10
 refine Zr (Zq (y_eql q q) q (Za q q (Zn (wc_cond q (fun hc11 => ?_) (fun hc11 => ?_)))))
 replace h := condT h hc11
 refine Zr (Za q q (Za q q (Zn (wc_ret (we_blk_ret (we_seq_ret ?_))))))
 subst h
 exact we_ret_fn (rs2 q (rv_t q) (rv_t q)) (Le.tud ⟨Zl, Zl, Zt⟩)
 replace h := condF h hc11
 refine Zr (Zq (y_eql q q) q (Za q q (Zn (wc_cond q (fun hc12 => ?_) (fun hc12 => ?_)))))
 replace h := condT h hc12
 refine Zr (Za q q (Za q q (Zn (wc_ret (we_blk_ret (we_seq_ret ?_))))))
 subst h
 exact we_ret_fn (rs2 q (rv_t q) (rv_t q)) (Le.tud ⟨Zl, Zl, Zt⟩)
 replace h := condF h hc12
 refine wc_skip (we_blk (we_seq (Zr (Za q q (Za q q (Zn (wc_ret ?_)))))))
 subst h
 exact we_ret_fn (rs2 q (rv_t q) (rv_t q)) (Le.tud ⟨Zl, Zl, Zt⟩)

theorem f124_c (x0 : Insn) {r : Bool} (h : f124 x0 = some r) : Pu Tryz.prog 124 [.ag (R45 x0)] (.b r) := by
 unfold f124 at h
 refine fn_intro Tryz.func124 (by kernel_rfl) q q q (fun φφ ww => ?_)
 refine Zr (WL.s ((b_boxd q q (Zs _)).does) (Zw q) q q (WL.s ((b_alloc z4).does) (Zw q) q q (Zn (wc_seq (Zr (Zq (y_fieldAddrc f45_0 q) q (Zq (y_loadc q a43 q) q ?_)))))))
 obtain ⟨r68, hr68, h⟩ := bindS h
 refine WL.fn q q q q (f156_c _ hr68) ⟨Zl, Zt⟩ (Zw q) q q (Zm q q (Zq (y_extractd q q) q (Zq (y_extractd q q) q (WL.s ((b_alloc z224).does) (Zw q) q q (WL.s0 (d_store q q q q q q s224 q q) (Zw q) q (Za q q (Zn (Zr (Zm q q (Zq (y_not q) q (Zm q q ?_)))))))))))
 apply WL.or 11 (t := 16) (d := 27)
 exact q
 intro hg16
 refine Zy (y_fieldAddrc f45_0 q) q q q (Zy (y_loadc q a43 q) q q q (Zy (y_eql q q) q q q (Zy (y_move q) q q q ?_)))
 apply WL.and 6 (t := 20) (d := 26)
 exact q
 intro hg20
 exact Zy (y_fieldAddrc f45_4 q) q q q (Zy (y_loadc q a2 q) q q q (Zy (y_fieldAddrc f45_5 q) q q q (Zy (y_loadc q a2 q) q q q (Zy (y_gtr q q) q q q (Zy (y_pick_t q q) q q q (WL.nil ⟨q, [_, _, _, _, _, _], q, q, q⟩))))))
 exact WL.skips 5 q (Zy (y_pick_f q q) q q q (WL.nil ⟨q, [_, _, _, _, _, _], q, q, q⟩))
 exact Zq (y_pick_f q q) q (WL.nil ⟨q, [_, _, _, _, _, _], q, q, q⟩)
 exact WL.skips 10 q (Zq (y_pick_t q q) q (WL.nil ⟨q, [_, _, _, _, _, _, _, _, _, _, _], q, q, q⟩))
 refine Zn (wc_cond q (fun hc1 => ?_) (fun hc1 => ?_))
 replace h := condT h hc1
 refine Zr (WL.s0 (d_store q q q q q q s4 q q) (Zw q) q (Zn (wc_ret (we_seq_ret ?_))))
 obtain rfl := Oi h
 exact we_ret_fn (rs1 q (rv_c q q a4 q)) Zl
 replace h := condF h hc1
 refine wc_skip (we_seq (wc_seq (Zr (Zq (y_fieldAddrc f45_0 q) q (Zq (y_loadc q a43 q) q (Zq (y_eql q q) q (Zm q q ?_)))))))
 apply WL.and 5 (t := 31) (d := 36)
 exact q
 intro hg31
 exact Zy (y_fieldAddrc f45_4 q) q q q (Zy (y_loadc q a2 q) q q q (Zy (y_conv Tryz.underlying2 Tryz.underlying56 q q) q q q (Zy (y_eql q q) q q q (Zq (y_pick_t q q) q (WL.nil ⟨q, [_, _, _, _, _], q, q, q⟩)))))
 exact WL.skips 4 q (Zq (y_pick_f q q) q (WL.nil ⟨q, [_, _, _, _, _], q, q, q⟩))
 refine Zm q q ?_
 apply WL.and 4 (t := 37) (d := 41)
 exact q
 intro hg37
 exact Zy (y_fieldAddrc f45_5 q) q q q (Zy (y_loadc q a2 q) q q q (Zy (y_neq q q) q q q (Zq (y_pick_t q q) q (WL.nil ⟨q, [_, _, _, _], q, q, q⟩))))
 exact WL.skips 3 q (Zq (y_pick_f q q) q (WL.nil ⟨q, [_, _, _, _], q, q, q⟩))
 refine Zn (wc_cond q (fun hc2 => ?_) (fun hc2 => ?_))
 replace h := condT h hc2
 refine Zr (WL.s0 (d_store q q q q q q s4 q q) (Zw q) q (Zn (wc_ret (we_seq_ret ?_))))
 obtain rfl := Oi h
 exact we_ret_fn (rs1 q (rv_c q q a4 q)) Zl
 replace h := condF h hc2
 refine wc_skip (we_seq (Zr (Zq (y_loadcN q a45 s45 q) q (WL.s ((b_alloc z45).does) (Zw q) q q (WL.s0 (d_store q q q q q q s45 q q) (Zw q) q (Zn ?_))))))
 replace h := letkS h
 obtain ⟨k77, hk77, h⟩ := h
 refine wc_cut (fun env' st' => ∃ (c2169 : Int), ∃ (c2270 : Int), ∃ (c2371 : Int), ∃ (c2472 : Int), ∃ (c2573 : Int), ∃ (c2674 : Int), ∃ (c5075 : ByteArray), ∃ (c5176 : ByteArray), k77 c2169 c2270 c2371 c2472 c2573 c2674 c5075 c5176 = some r ∧ Sub [(1, .d (.pc (R45 x0))), (2, .pt 0 0), (5, .pt 2 0)] env' ∧ SLe st' [.row 4 [.d (D.b false)], .row 224 [.d (D.s r68.1.name), .d (D.s r68.1.fields)], .row 45 [.d (D.i .u8 x0.op), .n c2169, .n c2270, .n c2371, .n c2472, .n c2573, .n c2674], .row 230 [.pt 2 0], .dead, .row 224 [.d (D.s c5075), .d (D.s c5176)]]) ?_ ?_
 refine Zr ?_
 obtain ⟨k79, hk79, h⟩ := letkS h
 refine WL.inl (us := [.pt 2 0]) (fun rv st' => (k79 () = some r ∧ Le rv (.fn (.func 175) [] [.pt 3 0]) ∧ SLe st' [.row 4 [.d (D.b false)], .row 224 [.d (D.s r68.1.name), .d (D.s r68.1.fields)], .row 45 [.d (D.i .u8 x0.op), .n x0.d, .n x0.a, .n x0.b, .n x0.n, .n x0.m, .n x0.to], .row 230 [.pt 2 0]])) q q q q q ?_ (Zw q) q q ?_
 refine ctr_intro Tryz.func157 (by kernel_rfl) q q q (fun mm φφ ww hm78 => ?_)
 exact Zr (WL.s ((b_box q q).does) (Zw q) q q (Za q q (Zn (Zr (Zq (y_makeFunc q q) q (Za q q (Zn (wc_ret (we_ret (rs1 q (rv_t q)) ⟨h, Zl, ⟨Zp, Zp, Zp, Zp, Zt⟩⟩)))))))))
 rintro rv st1 ⟨h, hr, hst⟩
 subst hk79
 dsimp only at h
 refine WL.cast 43 q hr (WL.weak hst (Zn (wc_block ?_)))
 obtain ⟨k93, hk93, h⟩ := letkS h
 obtain ⟨k106, hk106, h⟩ := letkS h
 obtain ⟨k119, hk119, h⟩ := letkS h
 obtain ⟨k132, hk132, h⟩ := letkS h
 obtain ⟨k145, hk145, h⟩ := letkS h
 obtain ⟨k158, hk158, h⟩ := letkS h
 obtain ⟨k167, hk167, h⟩ := letkS h
 refine wc_range (us := [.yl 4, .pt 3 0]) [2] 4 (fun sl80 rv st' => (∃ (c2181 : Int), ∃ (c2282 : Int), ∃ (c2383 : Int), ∃ (c2484 : Int), ∃ (c2585 : Int), ∃ (c2686 : Int), ∃ (c5087 : ByteArray), ∃ (c5188 : ByteArray), ∃ (c6289 : Int), ∃ (c6390 : Int), ∃ (c9291 : Int), ∃ (c9392 : Int), k93 c2181 c2282 c2383 c2484 c2585 c2686 c5087 c5188 c6289 c6390 c9291 c9392 = some r ∧ SLe st' [.row 4 [.d (D.b false)], .row 224 [.d (D.s r68.1.name), .d (D.s r68.1.fields)], .row 45 [.d (D.i .u8 x0.op), .n c2181, .n c2282, .n c2383, .n c2484, .n c2585, .n c2686], .row 230 [.pt 2 0], .lp sl80 [.pt 0 0] .done (some .ret), .row 224 [.d (D.s c5087), .d (D.s c5188)], .row 233 [.fn (.func 210) [] [.pt 7 0], .fn (.func 211) [] [.pt 7 0], .n c6289, .n c6390], .row 264 [.pt 2 1], .row 233 [.fn (.func 210) [] [.pt 7 0], .fn (.func 211) [] [.pt 7 0], .n 0, .n 0], .row 233 [.fn (.func 210) [] [.pt 7 0], .fn (.func 211) [] [.pt 7 0], .n c9291, .n c9392]]) ∨ (∃ (c2194 : Int), ∃ (c2295 : Int), ∃ (c2396 : Int), ∃ (c2497 : Int), ∃ (c2598 : Int), ∃ (c2699 : Int), ∃ (c50100 : ByteArray), ∃ (c51101 : ByteArray), ∃ (c62102 : Int), ∃ (c63103 : Int), ∃ (c92104 : Int), ∃ (c93105 : Int), k106 c2194 c2295 c2396 c2497 c2598 c2699 c50100 c51101 c62102 c63103 c92104 c93105 = some r ∧ SLe st' [.row 4 [.d (D.b false)], .row 224 [.d (D.s r68.1.name), .d (D.s r68.1.fields)], .row 45 [.d (D.i .u8 x0.op), .n c2194, .n c2295, .n c2396, .n c2497, .n c2598, .n c2699], .row 230 [.pt 2 0], .lp sl80 [.pt 0 0] .done (some .ret), .row 224 [.d (D.s c50100), .d (D.s c51101)], .row 233 [.fn (.func 210) [] [.pt 7 0], .fn (.func 211) [] [.pt 7 0], .n c62102, .n c63103], .row 264 [.pt 2 2], .row 233 [.fn (.func 210) [] [.pt 7 0], .fn (.func 211) [] [.pt 7 0], .n 0, .n 0], .row 233 [.fn (.func 210) [] [.pt 7 0], .fn (.func 211) [] [.pt 7 0], .n c92104, .n c93105]]) ∨ (∃ (c21107 : Int), ∃ (c22108 : Int), ∃ (c23109 : Int), ∃ (c24110 : Int), ∃ (c25111 : Int), ∃ (c26112 : Int), ∃ (c50113 : ByteArray), ∃ (c51114 : ByteArray), ∃ (c62115 : Int), ∃ (c63116 : Int), ∃ (c92117 : Int), ∃ (c93118 : Int), k119 c21107 c22108 c23109 c24110 c25111 c26112 c50113 c51114 c62115 c63116 c92117 c93118 = some r ∧ SLe st' [.row 4 [.d (D.b false)], .row 224 [.d (D.s r68.1.name), .d (D.s r68.1.fields)], .row 45 [.d (D.i .u8 x0.op), .n c21107, .n c22108, .n c23109, .n c24110, .n c25111, .n c26112], .row 230 [.pt 2 0], .lp sl80 [.pt 0 0] .done (some .ret), .row 224 [.d (D.s c50113), .d (D.s c51114)], .row 233 [.fn (.func 210) [] [.pt 7 0], .fn (.func 211) [] [.pt 7 0], .n c62115, .n c63116], .row 264 [.pt 2 3], .row 233 [.fn (.func 210) [] [.pt 7 0], .fn (.func 211) [] [.pt 7 0], .n 0, .n 0], .row 233 [.fn (.func 210) [] [.pt 7 0], .fn (.func 211) [] [.pt 7 0], .n c92117, .n c93118]]) ∨ (∃ (c21120 : Int), ∃ (c22121 : Int), ∃ (c23122 : Int), ∃ (c24123 : Int), ∃ (c25124 : Int), ∃ (c26125 : Int), ∃ (c50126 : ByteArray), ∃ (c51127 : ByteArray), ∃ (c62128 : Int), ∃ (c63129 : Int), ∃ (c92130 : Int), ∃ (c93131 : Int), k132 c21120 c22121 c23122 c24123 c25124 c26125 c50126 c51127 c62128 c63129 c92130 c93131 = some r ∧ SLe st' [.row 4 [.d (D.b false)], .row 224 [.d (D.s r68.1.name), .d (D.s r68.1.fields)], .row 45 [.d (D.i .u8 x0.op), .n c21120, .n c22121, .n c23122, .n c24123, .n c25124, .n c26125], .row 230 [.pt 2 0], .lp sl80 [.pt 0 0] .done (some .ret), .row 224 [.d (D.s c50126), .d (D.s c51127)], .row 233 [.fn (.func 212) [] [.pt 7 0], .fn (.func 213) [] [.pt 7 0], .n c62128, .n c63129], .row 128 [.pt 2 4], .row 233 [.fn (.func 212) [] [.pt 7 0], .fn (.func 213) [] [.pt 7 0], .n 0, .n 0], .row 233 [.fn (.func 212) [] [.pt 7 0], .fn (.func 213) [] [.pt 7 0], .n c92130, .n c93131]]) ∨ (∃ (c21133 : Int), ∃ (c22134 : Int), ∃ (c23135 : Int), ∃ (c24136 : Int), ∃ (c25137 : Int), ∃ (c26138 : Int), ∃ (c50139 : ByteArray), ∃ (c51140 : ByteArray), ∃ (c62141 : Int), ∃ (c63142 : Int), ∃ (c92143 : Int), ∃ (c93144 : Int), k145 c21133 c22134 c23135 c24136 c25137 c26138 c50139 c51140 c62141 c63142 c92143 c93144 = some r ∧ SLe st' [.row 4 [.d (D.b false)], .row 224 [.d (D.s r68.1.name), .d (D.s r68.1.fields)], .row 45 [.d (D.i .u8 x0.op), .n c21133, .n c22134, .n c23135, .n c24136, .n c25137, .n c26138], .row 230 [.pt 2 0], .lp sl80 [.pt 0 0] .done (some .ret), .row 224 [.d (D.s c50139), .d (D.s c51140)], .row 233 [.fn (.func 212) [] [.pt 7 0], .fn (.func 213) [] [.pt 7 0], .n c62141, .n c63142], .row 128 [.pt 2 5], .row 233 [.fn (.func 212) [] [.pt 7 0], .fn (.func 213) [] [.pt 7 0], .n 0, .n 0], .row 233 [.fn (.func 212) [] [.pt 7 0], .fn (.func 213) [] [.pt 7 0], .n c92143, .n c93144]]) ∨ (∃ (c21146 : Int), ∃ (c22147 : Int), ∃ (c23148 : Int), ∃ (c24149 : Int), ∃ (c25150 : Int), ∃ (c26151 : Int), ∃ (c50152 : ByteArray), ∃ (c51153 : ByteArray), ∃ (c62154 : Int), ∃ (c63155 : Int), ∃ (c92156 : Int), ∃ (c93157 : Int), k158 c21146 c22147 c23148 c24149 c25150 c26151 c50152 c51153 c62154 c63155 c92156 c93157 = some r ∧ SLe st' [.row 4 [.d (D.b false)], .row 224 [.d (D.s r68.1.name), .d (D.s r68.1.fields)], .row 45 [.d (D.i .u8 x0.op), .n c21146, .n c22147, .n c23148, .n c24149, .n c25150, .n c26151], .row 230 [.pt 2 0], .lp sl80 [.pt 0 0] .done (some .ret), .row 224 [.d (D.s c50152), .d (D.s c51153)], .row 233 [.fn (.func 210) [] [.pt 7 0], .fn (.func 211) [] [.pt 7 0], .n c62154, .n c63155], .row 264 [.pt 2 6], .row 233 [.fn (.func 210) [] [.pt 7 0], .fn (.func 211) [] [.pt 7 0], .n 0, .n 0], .row 233 [.fn (.func 210) [] [.pt 7 0], .fn (.func 211) [] [.pt 7 0], .n c92156, .n c93157]]) ∨ (∃ (c21159 : Int), ∃ (c22160 : Int), ∃ (c23161 : Int), ∃ (c24162 : Int), ∃ (c25163 : Int), ∃ (c26164 : Int), ∃ (c50165 : ByteArray), ∃ (c51166 : ByteArray), k167 c21159 c22160 c23161 c24162 c25163 c26164 c50165 c51166 = some r ∧ SLe st' [.row 4 [.d (D.b false)], .row 224 [.d (D.s r68.1.name), .d (D.s r68.1.fields)], .row 45 [.d (D.i .u8 x0.op), .n c21159, .n c22160, .n c23161, .n c24162, .n c25163, .n c26164], .row 230 [.pt 2 0], .lp sl80 [.pt 0 0] .ready none, .row 224 [.d (D.s c50165), .d (D.s c51166)]])) q q q q q (fun sl80 hsl80 => ?_) ?_
 refine ctr_intro Tryz.func175 (by kernel_rfl) q q q (fun mm φφ ww hm80 => ?_)
 refine Zr (Zq (y_load q q a230 q) q (Zq (y_nilCheckp q) q (Zq (y_fieldAddr f45_0 q) q (Zq (y_load q q a43 q) q ?_))))
 obtain ⟨r168, hr168, h⟩ := bindS h
 refine WL.fn q q q q (f156_c _ hr168) ⟨Zl, Zt⟩ (Zw q) q q (Zm q q (Zq (y_extractd q q) q (Zq (y_extractd q q) q (WL.s ((b_alloc z224).does) (Zw q) q q (WL.s0 (d_store q q q q q q s224 q q) (Zw q) q (Za q q (Zn (Zr (Zq (y_fieldAddr f224_1 q) q (Zq (y_load q q a9 q) q ?_))))))))))
 obtain ⟨r169, hr169, h⟩ := bindS h
 refine WL.fn q q q q (f176_c _ hr169) ⟨Zl, Zt⟩ (Zw q) q q (Zq (y_len_map E9 r169 e261 q q Zl) q (Zm q q (Zn (wc_block ?_))))
 refine wc_loop (fun n env' st' => ∃ (t177 : Int), ∃ (c21178 : Int), ∃ (c22179 : Int), ∃ (c23180 : Int), ∃ (c24181 : Int), ∃ (c25182 : Int), ∃ (c26183 : Int), f124_l1 k93 k106 k119 k132 k145 k158 k167 r168 r169 n t177 c21178 c22179 c23180 c24181 c25182 c26183 = some r ∧ Sub [(0, .yl 4), (1, .pt 3 0), (18, .l E9 r169), (19, .n (List.length r169 : Int)), (20, .n t177)] env' ∧ SLe st' [.row 4 [.d (D.b false)], .row 224 [.d (D.s r68.1.name), .d (D.s r68.1.fields)], .row 45 [.d (D.i .u8 x0.op), .n c21178, .n c22179, .n c23180, .n c24181, .n c25182, .n c26183], .row 230 [.pt 2 0], .lp sl80 [.pt 0 0] .ready none, .row 224 [.d (D.s r168.1.name), .d (D.s r168.1.fields)]]) (fun n => n) (Int.toNat ((List.length r169 : Int) - 0) + 1) ⟨0, x0.d, x0.a, x0.b, x0.n, x0.m, x0.to, h, (Sx q (Sx q (Sx q (Sx q (Sx q (Sub.nil _)))))), ⟨Zp, Zp, Zp, Zp, ⟨q, Zs _, q, q⟩, Zp, Zt⟩⟩ ?_
 rintro n env1 st1 ⟨t177, c21178, c22179, c23180, c24181, c25182, c26183, h, hsub, hst⟩
 rcases n with _ | n
 rw [f124_l1] at h; cases h
 rw [f124_l1] at h
 refine WC.sub hsub (WC.weak hst ?_)
 refine Zr (Zq (y_lss q q) q (Zn (wc_seq (wc_cond q (fun hc3 => ?_) (fun hc3 => ?_)))))
 replace h := condT h hc3
 refine wc_skip (we_seq (wc_seq (wc_block (Zr ?_))))
 obtain ⟨x191, hx191, h⟩ := bindS h
 refine Zq (y_indexAddr e261 q Zl q (idx_nonneg hx191) (idx_row E9_eq hx191) q) q (Zq (y_loadc q a9 q) q (Za q q (Zn (Zr (WL.s ((b_alloc z233).does) (Zw q) q q (Zn (wc_seq (Zr (Zm q q ?_)))))))))
 obtain ⟨x192, hx192, h⟩ := bindS h
 refine Zq (y_sindex Tryz.underlying9 q q hx192) q (Zn (wc_block (Zr (Zq (y_eql q q) q (Za q q (Zn (wc_cond q (fun hc4 => ?_) (fun hc4 => ?_))))))))
 replace h := condT h hc4
 refine wc_region (Zq (y_load q q a230 q) q (Zq (y_nilCheckp q) q (Zq (y_fieldAddr f45_1 q) q ?_)))
 obtain ⟨k194, hk194, h⟩ := letkS h
 refine WL.inl (us := [.pt 2 1]) (fun rv st' => (k194 () = some r ∧ Le rv (.ag [.fn (.func 210) [] [.pt 7 0], .fn (.func 211) [] [.pt 7 0], .n 0, .n 0]) ∧ SLe st' [.row 4 [.d (D.b false)], .row 224 [.d (D.s r68.1.name), .d (D.s r68.1.fields)], .row 45 [.d (D.i .u8 x0.op), .n c21178, .n c22179, .n c23180, .n c24181, .n c25182, .n c26183], .row 230 [.pt 2 0], .lp sl80 [.pt 0 0] .ready none, .row 224 [.d (D.s r168.1.name), .d (D.s r168.1.fields)], .row 233 [.d (.v .nilFunc), .d (.v .nilFunc), .n 0, .n 0], .row 264 [.pt 2 1], .row 233 [.fn (.func 210) [] [.pt 7 0], .fn (.func 211) [] [.pt 7 0], .n 0, .n 0]])) q q q q q ?_ (Zw q) q q ?_
 refine ctr_intro Tryz.func177 (by kernel_rfl) q q q (fun mm φφ ww hm193 => ?_)
 exact Zr (WL.s ((b_box q q).does) (Zw q) q q (WL.s ((b_alloc z233).does) (Zw q) q q (Zn (Zr (Zq (y_makeFunc q q) q (Zq (y_makeFunc q q) q (Zq (y_build p233 z233 q q) q (WL.s0 (d_store q q q q q q s233 q q) (Zw q) q (Zn (wc_ret (we_ret (rs1 q (rv_cN q q a233 s233 q)) ⟨h, Zl, ⟨Zp, Zp, Zp, Zp, ⟨q, Zs _, q, q⟩, Zp, Zp, Zp, Zp, Zt⟩⟩)))))))))))
 rintro rv st1 ⟨h, hr, hst⟩
 subst hk194
 dsimp only at h
 refine WL.cast 35 q hr (WL.weak hst (WL.s0 (d_store q q q q q q s233 q q) (Zw q) q (WL.nil (we_blk (we_seq (Zr (Zm q q ?_)))))))
 obtain ⟨x195, hx195, h⟩ := bindS h
 refine Zq (y_sindex Tryz.underlying9 q q hx195) q (WL.fn q q q q (f179_c _) ⟨Zl, Zt⟩ (Zw q) q q (Zm q q (Zq (y_extractd q q) q (Zq (y_extractd q q) q (Zq (y_fieldAddr f233_2 q) q (WL.s0 (d_store q q q q q q s2 q q) (Zw q) q (Zq (y_fieldAddr f233_3 q) q (WL.s0 (d_store q q q q q q s2 q q) (Zw q) q (Zn (Zr (Zm q q (Zq (y_loadN q q a233 s233 q) q ?_))))))))))))
 obtain ⟨k197, hk197, h⟩ := letkS h
 obtain ⟨k198, hk198, h⟩ := letkS h
 refine WL.yield (env0 := [(44, .ag [.fn (.func 210) [] [.pt 7 0], .fn (.func 211) [] [.pt 7 0], .n ((f179 x195).1), .n ((f179 x195).2)]), (2, .pt 0 0)]) (fun rv st' => (k197 () = some r ∧ rv = .d (.v (.bool false)) ∧ SLe st' [.row 4 [.d (D.b false)], .row 224 [.d (D.s r68.1.name), .d (D.s r68.1.fields)], .row 45 [.d (D.i .u8 x0.op), .n c21178, .n c22179, .n c23180, .n c24181, .n c25182, .n c26183], .row 230 [.pt 2 0], .lp sl80 [.pt 0 0] .done (some .ret), .row 224 [.d (D.s r168.1.name), .d (D.s r168.1.fields)], .row 233 [.fn (.func 210) [] [.pt 7 0], .fn (.func 211) [] [.pt 7 0], .n ((f179 x195).1), .n ((f179 x195).2)], .row 264 [.pt 2 1], .row 233 [.fn (.func 210) [] [.pt 7 0], .fn (.func 211) [] [.pt 7 0], .n 0, .n 0], .row 233 [.fn (.func 210) [] [.pt 7 0], .fn (.func 211) [] [.pt 7 0], .n ((f179 x195).1), .n ((f179 x195).2)]]) ∨ (k198 () = some r ∧ rv = .d (.v (.bool true)) ∧ SLe st' [.row 4 [.d (D.b false)], .row 224 [.d (D.s r68.1.name), .d (D.s r68.1.fields)], .row 45 [.d (D.i .u8 x0.op), .n 0, .n c22179, .n c23180, .n c24181, .n c25182, .n c26183], .row 230 [.pt 2 0], .lp sl80 [.pt 0 0] .ready none, .row 224 [.d (D.s r168.1.name), .d (D.s r168.1.fields)], .row 233 [.fn (.func 210) [] [.pt 7 0], .fn (.func 211) [] [.pt 7 0], .n ((f179 x195).1), .n ((f179 x195).2)], .row 264 [.pt 2 1], .row 233 [.fn (.func 210) [] [.pt 7 0], .fn (.func 211) [] [.pt 7 0], .n 0, .n 0], .row 233 [.fn (.func 210) [] [.pt 7 0], .fn (.func 211) [] [.pt 7 0], .n ((f179 x195).1), .n ((f179 x195).2)]])) hsl80 q q q q q q q (fun ee hn hrd196 hm196 => ?_) (Zw q) q q ?_
 obtain ⟨em, eφ, ew, en, er⟩ := ee
 subst hn
 refine wc_region (WL.s ((b_alloc z233).does) (Zw q) q q (WL.s0 (d_store q q q q q q s233 q q) (Zw q) q (WL.nil (we_asg hrd196 q (wc_block (wc_seq (Zr (Zq (y_fieldAddr f233_0 q) q (Zq (y_load q q a231 q) q ?_)))))))))
 obtain ⟨k200, hk200, h⟩ := letkS h
 refine WL.inl (us := [.pt 7 0]) (fun rv st' => (k200 () = some r ∧ Le rv (.n c21178) ∧ SLe st' [.row 4 [.d (D.b false)], .row 224 [.d (D.s r68.1.name), .d (D.s r68.1.fields)], .row 45 [.d (D.i .u8 x0.op), .n c21178, .n c22179, .n c23180, .n c24181, .n c25182, .n c26183], .row 230 [.pt 2 0], .lp sl80 [.pt 0 0] .busy none, .row 224 [.d (D.s r168.1.name), .d (D.s r168.1.fields)], .row 233 [.fn (.func 210) [] [.pt 7 0], .fn (.func 211) [] [.pt 7 0], .n ((f179 x195).1), .n ((f179 x195).2)], .row 264 [.pt 2 1], .row 233 [.fn (.func 210) [] [.pt 7 0], .fn (.func 211) [] [.pt 7 0], .n 0, .n 0], .row 233 [.fn (.func 210) [] [.pt 7 0], .fn (.func 211) [] [.pt 7 0], .n ((f179 x195).1), .n ((f179 x195).2)]])) q q q q q ?_ (Zw q) q q ?_
 refine ctr_intro Tryz.func210 (by kernel_rfl) q q q (fun mm φφ ww hm199 => ?_)
 exact Zr (Za q q (Zn (Zr (Zq (y_load q q a264 q) q (Zq (y_nilCheckp q) q (Zq (y_load q q a3 q) q (Za q q (Zn (wc_ret (we_ret (rs1 q (rv_t q)) ⟨h, Zl, ⟨Zp, Zp, Zp, Zp, ⟨q, Zs _, q, q⟩, Zp, Zp, Zp, Zp, Zp, Zt⟩⟩))))))))))
 rintro rv st1 ⟨h, hr, hst⟩
 subst hk200
 dsimp only at h
 refine WL.cast 47 q hr (WL.weak hst (Za q q (Zn (Zr (Zm q q (Zq (y_fieldAddr f233_2 q) q (Zq (y_load q q a2 q) q (Zq (y_lss q q) q (Zm q q ?_)))))))))
 apply WL.or 5 (t := 52) (d := 57)
 exact q
 intro hg52
 exact Zy (y_move q) q q q (Zy (y_fieldAddr f233_3 q) q q q (Zy (y_load q q a2 q) q q q (Zy (y_gtr q q) q q q (Zq (y_pick_f q q) q (WL.nil ⟨q, [_, _, _, _, _], q, q, q⟩)))))
 exact WL.skips 4 q (Zq (y_pick_t q q) q (WL.nil ⟨q, [_, _, _, _, _], q, q, q⟩))
 refine Zn (wc_cond q (fun hc5 => ?_) (fun hc5 => ?_))
 replace h := condT h hc5
 exact Zr (WL.s0 (d_store q q q q q q s4 q q) (Zw q) q (Zn (wc_ret (we_seq_ret (we_blk_ret (we_rend_ret hrd196 q (.inl ⟨h, q, ⟨Zp, Zp, Zp, Zp, ⟨q, Zs _, q, q⟩, Zp, Zp, Zp, Zp, Zp, Zt⟩⟩)))))))
 replace h := condF h hc5
 refine wc_skip (we_seq (wc_region (Zq (y_fieldAddr f233_1 q) q (Zq (y_load q q a125 q) q ?_))))
 obtain ⟨k202, hk202, h⟩ := letkS h
 refine WL.inl (us := [.n 0, .pt 7 0]) (fun rv st' => (k202 () = some r ∧ Le rv (.tu []) ∧ SLe st' [.row 4 [.d (D.b false)], .row 224 [.d (D.s r68.1.name), .d (D.s r68.1.fields)], .row 45 [.d (D.i .u8 x0.op), .n 0, .n c22179, .n c23180, .n c24181, .n c25182, .n c26183], .row 230 [.pt 2 0], .lp sl80 [.pt 0 0] .busy none, .row 224 [.d (D.s r168.1.name), .d (D.s r168.1.fields)], .row 233 [.fn (.func 210) [] [.pt 7 0], .fn (.func 211) [] [.pt 7 0], .n ((f179 x195).1), .n ((f179 x195).2)], .row 264 [.pt 2 1], .row 233 [.fn (.func 210) [] [.pt 7 0], .fn (.func 211) [] [.pt 7 0], .n 0, .n 0], .row 233 [.fn (.func 210) [] [.pt 7 0], .fn (.func 211) [] [.pt 7 0], .n ((f179 x195).1), .n ((f179 x195).2)]])) q q q q q ?_ (Zw q) q q ?_
 refine ctr_intro Tryz.func211 (by kernel_rfl) q q q (fun mm φφ ww hm201 => ?_)
 exact wc_region (Zq (y_load q q a264 q) q (Zm q q (Zq (y_nilCheckp q) q (WL.s0 (d_store q q q q q q s3 q q) (Zw q) q (WL.nil (we_end (we_ret (res0 q) ⟨h, Zl, ⟨Zp, Zp, Zp, Zp, ⟨q, Zs _, q, q⟩, Zp, Zp, Zp, Zp, Zp, Zt⟩⟩)))))))
 rintro rv st1 ⟨h, hr, hst⟩
 subst hk202
 dsimp only at h
 exact WL.cast 60 q hr (WL.weak hst (WL.nil (we_blk (we_rend hrd196 q (.inr (⟨h, q, ⟨Zp, Zp, Zp, Zp, ⟨q, Zs _, q, q⟩, Zp, Zp, Zp, Zp, Zp, Zt⟩⟩))))))
 rintro rv st1 (⟨h, rfl, hst⟩ | ⟨h, rfl, hst⟩)
 subst hk197
 dsimp only at h
 exact WL.weak hst (Zq (y_not q) q (Zn (wc_true q (wc_ret (we_blk_ret (we_seq_ret (we_lp_ret (we_blk_ret (we_ret (res0 q) (.inl ⟨c21178, c22179, c23180, c24181, c25182, c26183, r168.1.name, r168.1.fields, ((f179 x195).1), ((f179 x195).2), ((f179 x195).1), ((f179 x195).2), h, ⟨Zp, Zp, Zp, Zp, ⟨q, Zs _, q, q⟩, Zp, Zp, Zp, Zp, Zp, Zt⟩⟩))))))))))
 subst hk198
 dsimp only at h
 exact WL.weak hst (Zq (y_not q) q (Zn (wc_false q (wc_skip (we_blk (we_seq (wc_region (Zq (y_add q q q) q (Zm q q (WL.nil (WE.drop 6 (env' := [(0, .yl 4), (1, .pt 3 0), (18, .l E9 r169), (19, .n (List.length r169 : Int)), (20, .n (IntKind.i64.wrap (t177 + 1)))]) (Sub.one q (Sub.one q (Sub.one q (Sub.one q (Sub.one q (Sub.nil _)))))) q q (Nat.le_trans (Nat.le_of_eq hm80) (Nat.le_of_ble_eq_true q)) (we_lp ⟨n, ⟨(IntKind.i64.wrap (t177 + 1)), 0, c22179, c23180, c24181, c25182, c26183, h, (Sx q (Sx q (Sx q (Sx q (Sx q (Sub.nil _)))))), ⟨Zp, Zp, Zp, Zp, ⟨q, Zs _, q, q⟩, Zp, Zt⟩⟩, Nat.lt_succ_self n⟩))))))))))))
 replace h := condF h hc4
 refine Zr (Zq (y_eql q q) q (Za q q (Zn (wc_cond q (fun hc6 => ?_) (fun hc6 => ?_)))))
 replace h := condT h hc6
 refine wc_region (Zq (y_load q q a230 q) q (Zq (y_nilCheckp q) q (Zq (y_fieldAddr f45_2 q) q ?_)))
 obtain ⟨k204, hk204, h⟩ := letkS h
 refine WL.inl (us := [.pt 2 2]) (fun rv st' => (k204 () = some r ∧ Le rv (.ag [.fn (.func 210) [] [.pt 7 0], .fn (.func 211) [] [.pt 7 0], .n 0, .n 0]) ∧ SLe st' [.row 4 [.d (D.b false)], .row 224 [.d (D.s r68.1.name), .d (D.s r68.1.fields)], .row 45 [.d (D.i .u8 x0.op), .n c21178, .n c22179, .n c23180, .n c24181, .n c25182, .n c26183], .row 230 [.pt 2 0], .lp sl80 [.pt 0 0] .ready none, .row 224 [.d (D.s r168.1.name), .d (D.s r168.1.fields)], .row 233 [.d (.v .nilFunc), .d (.v .nilFunc), .n 0, .n 0], .row 264 [.pt 2 2], .row 233 [.fn (.func 210) [] [.pt 7 0], .fn (.func 211) [] [.pt 7 0], .n 0, .n 0]])) q q q q q ?_ (Zw q) q q ?_
 refine ctr_intro Tryz.func177 (by kernel_rfl) q q q (fun mm φφ ww hm203 => ?_)
 exact Zr (WL.s ((b_box q q).does) (Zw q) q q (WL.s ((b_alloc z233).does) (Zw q) q q (Zn (Zr (Zq (y_makeFunc q q) q (Zq (y_makeFunc q q) q (Zq (y_build p233 z233 q q) q (WL.s0 (d_store q q q q q q s233 q q) (Zw q) q (Zn (wc_ret (we_ret (rs1 q (rv_cN q q a233 s233 q)) ⟨h, Zl, ⟨Zp, Zp, Zp, Zp, ⟨q, Zs _, q, q⟩, Zp, Zp, Zp, Zp, Zt⟩⟩)))))))))))
 rintro rv st1 ⟨h, hr, hst⟩
 subst hk204
 dsimp only at h
 refine WL.cast 41 q hr (WL.weak hst (WL.s0 (d_store q q q q q q s233 q q) (Zw q) q (WL.nil (we_blk (we_seq (Zr (Zm q q ?_)))))))
 obtain ⟨x205, hx205, h⟩ := bindS h
 refine Zq (y_sindex Tryz.underlying9 q q hx205) q (WL.fn q q q q (f179_c _) ⟨Zl, Zt⟩ (Zw q) q q (Zm q q (Zq (y_extractd q q) q (Zq (y_extractd q q) q (Zq (y_fieldAddr f233_2 q) q (WL.s0 (d_store q q q q q q s2 q q) (Zw q) q (Zq (y_fieldAddr f233_3 q) q (WL.s0 (d_store q q q q q q s2 q q) (Zw q) q (Zn (Zr (Zm q q (Zq (y_loadN q q a233 s233 q) q ?_))))))))))))
 obtain ⟨k207, hk207, h⟩ := letkS h
 obtain ⟨k208, hk208, h⟩ := letkS h
 refine WL.yield (env0 := [(44, .ag [.fn (.func 210) [] [.pt 7 0], .fn (.func 211) [] [.pt 7 0], .n ((f179 x205).1), .n ((f179 x205).2)]), (2, .pt 0 0)]) (fun rv st' => (k207 () = some r ∧ rv = .d (.v (.bool false)) ∧ SLe st' [.row 4 [.d (D.b false)], .row 224 [.d (D.s r68.1.name), .d (D.s r68.1.fields)], .row 45 [.d (D.i .u8 x0.op), .n c21178, .n c22179, .n c23180, .n c24181, .n c25182, .n c26183], .row 230 [.pt 2 0], .lp sl80 [.pt 0 0] .done (some .ret), .row 224 [.d (D.s r168.1.name), .d (D.s r168.1.fields)], .row 233 [.fn (.func 210) [] [.pt 7 0], .fn (.func 211) [] [.pt 7 0], .n ((f179 x205).1), .n ((f179 x205).2)], .row 264 [.pt 2 2], .row 233 [.fn (.func 210) [] [.pt 7 0], .fn (.func 211) [] [.pt 7 0], .n 0, .n 0], .row 233 [.fn (.func 210) [] [.pt 7 0], .fn (.func 211) [] [.pt 7 0], .n ((f179 x205).1), .n ((f179 x205).2)]]) ∨ (k208 () = some r ∧ rv = .d (.v (.bool true)) ∧ SLe st' [.row 4 [.d (D.b false)], .row 224 [.d (D.s r68.1.name), .d (D.s r68.1.fields)], .row 45 [.d (D.i .u8 x0.op), .n c21178, .n 0, .n c23180, .n c24181, .n c25182, .n c26183], .row 230 [.pt 2 0], .lp sl80 [.pt 0 0] .ready none, .row 224 [.d (D.s r168.1.name), .d (D.s r168.1.fields)], .row 233 [.fn (.func 210) [] [.pt 7 0], .fn (.func 211) [] [.pt 7 0], .n ((f179 x205).1), .n ((f179 x205).2)], .row 264 [.pt 2 2], .row 233 [.fn (.func 210) [] [.pt 7 0], .fn (.func 211) [] [.pt 7 0], .n 0, .n 0], .row 233 [.fn (.func 210) [] [.pt 7 0], .fn (.func 211) [] [.pt 7 0], .n ((f179 x205).1), .n ((f179 x205).2)]])) hsl80 q q q q q q q (fun ee hn hrd206 hm206 => ?_) (Zw q) q q ?_
 obtain ⟨em, eφ, ew, en, er⟩ := ee
 subst hn
 refine wc_region (WL.s ((b_alloc z233).does) (Zw q) q q (WL.s0 (d_store q q q q q q s233 q q) (Zw q) q (WL.nil (we_asg hrd206 q (wc_block (wc_seq (Zr (Zq (y_fieldAddr f233_0 q) q (Zq (y_load q q a231 q) q ?_)))))))))
 obtain ⟨k210, hk210, h⟩ := letkS h
 refine WL.inl (us := [.pt 7 0]) (fun rv st' => (k210 () = some r ∧ Le rv (.n c22179) ∧ SLe st' [.row 4 [.d (D.b false)], .row 224 [.d (D.s r68.1.name), .d (D.s r68.1.fields)], .row 45 [.d (D.i .u8 x0.op), .n c21178, .n c22179, .n c23180, .n c24181, .n c25182, .n c26183], .row 230 [.pt 2 0], .lp sl80 [.pt 0 0] .busy none, .row 224 [.d (D.s r168.1.name), .d (D.s r168.1.fields)], .row 233 [.fn (.func 210) [] [.pt 7 0], .fn (.func 211) [] [.pt 7 0], .n ((f179 x205).1), .n ((f179 x205).2)], .row 264 [.pt 2 2], .row 233 [.fn (.func 210) [] [.pt 7 0], .fn (.func 211) [] [.pt 7 0], .n 0, .n 0], .row 233 [.fn (.func 210) [] [.pt 7 0], .fn (.func 211) [] [.pt 7 0], .n ((f179 x205).1), .n ((f179 x205).2)]])) q q q q q ?_ (Zw q) q q ?_
 refine ctr_intro Tryz.func210 (by kernel_rfl) q q q (fun mm φφ ww hm209 => ?_)
 exact Zr (Za q q (Zn (Zr (Zq (y_load q q a264 q) q (Zq (y_nilCheckp q) q (Zq (y_load q q a3 q) q (Za q q (Zn (wc_ret (we_ret (rs1 q (rv_t q)) ⟨h, Zl, ⟨Zp, Zp, Zp, Zp, ⟨q, Zs _, q, q⟩, Zp, Zp, Zp, Zp, Zp, Zt⟩⟩))))))))))
 rintro rv st1 ⟨h, hr, hst⟩
 subst hk210
 dsimp only at h
 refine WL.cast 47 q hr (WL.weak hst (Za q q (Zn (Zr (Zm q q (Zq (y_fieldAddr f233_2 q) q (Zq (y_load q q a2 q) q (Zq (y_lss q q) q (Zm q q ?_)))))))))
 apply WL.or 5 (t := 52) (d := 57)
 exact q
 intro hg52
 exact Zy (y_move q) q q q (Zy (y_fieldAddr f233_3 q) q q q (Zy (y_load q q a2 q) q q q (Zy (y_gtr q q) q q q (Zq (y_pick_f q q) q (WL.nil ⟨q, [_, _, _, _, _], q, q, q⟩)))))
 exact WL.skips 4 q (Zq (y_pick_t q q) q (WL.nil ⟨q, [_, _, _, _, _], q, q, q⟩))
 refine Zn (wc_cond q (fun hc7 => ?_) (fun hc7 => ?_))
 replace h := condT h hc7
 exact Zr (WL.s0 (d_store q q q q q q s4 q q) (Zw q) q (Zn (wc_ret (we_seq_ret (we_blk_ret (we_rend_ret hrd206 q (.inl ⟨h, q, ⟨Zp, Zp, Zp, Zp, ⟨q, Zs _, q, q⟩, Zp, Zp, Zp, Zp, Zp, Zt⟩⟩)))))))
 replace h := condF h hc7
 refine wc_skip (we_seq (wc_region (Zq (y_fieldAddr f233_1 q) q (Zq (y_load q q a125 q) q ?_))))
 obtain ⟨k212, hk212, h⟩ := letkS h
 refine WL.inl (us := [.n 0, .pt 7 0]) (fun rv st' => (k212 () = some r ∧ Le rv (.tu []) ∧ SLe st' [.row 4 [.d (D.b false)], .row 224 [.d (D.s r68.1.name), .d (D.s r68.1.fields)], .row 45 [.d (D.i .u8 x0.op), .n c21178, .n 0, .n c23180, .n c24181, .n c25182, .n c26183], .row 230 [.pt 2 0], .lp sl80 [.pt 0 0] .busy none, .row 224 [.d (D.s r168.1.name), .d (D.s r168.1.fields)], .row 233 [.fn (.func 210) [] [.pt 7 0], .fn (.func 211) [] [.pt 7 0], .n ((f179 x205).1), .n ((f179 x205).2)], .row 264 [.pt 2 2], .row 233 [.fn (.func 210) [] [.pt 7 0], .fn (.func 211) [] [.pt 7 0], .n 0, .n 0], .row 233 [.fn (.func 210) [] [.pt 7 0], .fn (.func 211) [] [.pt 7 0], .n ((f179 x205).1), .n ((f179 x205).2)]])) q q q q q ?_ (Zw q) q q ?_
 refine ctr_intro Tryz.func211 (by kernel_rfl) q q q (fun mm φφ ww hm211 => ?_)
 exact wc_region (Zq (y_load q q a264 q) q (Zm q q (Zq (y_nilCheckp q) q (WL.s0 (d_store q q q q q q s3 q q) (Zw q) q (WL.nil (we_end (we_ret (res0 q) ⟨h, Zl, ⟨Zp, Zp, Zp, Zp, ⟨q, Zs _, q, q⟩, Zp, Zp, Zp, Zp, Zp, Zt⟩⟩)))))))
 rintro rv st1 ⟨h, hr, hst⟩
 subst hk212
 dsimp only at h
 exact WL.cast 60 q hr (WL.weak hst (WL.nil (we_blk (we_rend hrd206 q (.inr (⟨h, q, ⟨Zp, Zp, Zp, Zp, ⟨q, Zs _, q, q⟩, Zp, Zp, Zp, Zp, Zp, Zt⟩⟩))))))
 rintro rv st1 (⟨h, rfl, hst⟩ | ⟨h, rfl, hst⟩)
 subst hk207
 dsimp only at h
 exact WL.weak hst (Zq (y_not q) q (Zn (wc_true q (wc_ret (we_blk_ret (we_seq_ret (we_lp_ret (we_blk_ret (we_ret (res0 q) (.inr (.inl ⟨c21178, c22179, c23180, c24181, c25182, c26183, r168.1.name, r168.1.fields, ((f179 x205).1), ((f179 x205).2), ((f179 x205).1), ((f179 x205).2), h, ⟨Zp, Zp, Zp, Zp, ⟨q, Zs _, q, q⟩, Zp, Zp, Zp, Zp, Zp, Zt⟩⟩)))))))))))
 subst hk208
 dsimp only at h
 exact WL.weak hst (Zq (y_not q) q (Zn (wc_false q (wc_skip (we_blk (we_seq (wc_region (Zq (y_add q q q) q (Zm q q (WL.nil (WE.drop 6 (env' := [(0, .yl 4), (1, .pt 3 0), (18, .l E9 r169), (19, .n (List.length r169 : Int)), (20, .n (IntKind.i64.wrap (t177 + 1)))]) (Sub.one q (Sub.one q (Sub.one q (Sub.one q (Sub.one q (Sub.nil _)))))) q q (Nat.le_trans (Nat.le_of_eq hm80) (Nat.le_of_ble_eq_true q)) (we_lp ⟨n, ⟨(IntKind.i64.wrap (t177 + 1)), c21178, 0, c23180, c24181, c25182, c26183, h, (Sx q (Sx q (Sx q (Sx q (Sx q (Sub.nil _)))))), ⟨Zp, Zp, Zp, Zp, ⟨q, Zs _, q, q⟩, Zp, Zt⟩⟩, Nat.lt_succ_self n⟩))))))))))))
 replace h := condF h hc6
 refine Zr (Zq (y_eql q q) q (Za q q (Zn (wc_cond q (fun hc8 => ?_) (fun hc8 => ?_)))))
 replace h := condT h hc8
 refine wc_region (Zq (y_load q q a230 q) q (Zq (y_nilCheckp q) q (Zq (y_fieldAddr f45_3 q) q ?_)))
 obtain ⟨k214, hk214, h⟩ := letkS h
 refine WL.inl (us := [.pt 2 3]) (fun rv st' => (k214 () = some r ∧ Le rv (.ag [.fn (.func 210) [] [.pt 7 0], .fn (.func 211) [] [.pt 7 0], .n 0, .n 0]) ∧ SLe st' [.row 4 [.d (D.b false)], .row 224 [.d (D.s r68.1.name), .d (D.s r68.1.fields)], .row 45 [.d (D.i .u8 x0.op), .n c21178, .n c22179, .n c23180, .n c24181, .n c25182, .n c26183], .row 230 [.pt 2 0], .lp sl80 [.pt 0 0] .ready none, .row 224 [.d (D.s r168.1.name), .d (D.s r168.1.fields)], .row 233 [.d (.v .nilFunc), .d (.v .nilFunc), .n 0, .n 0], .row 264 [.pt 2 3], .row 233 [.fn (.func 210) [] [.pt 7 0], .fn (.func 211) [] [.pt 7 0], .n 0, .n 0]])) q q q q q ?_ (Zw q) q q ?_
 refine ctr_intro Tryz.func177 (by kernel_rfl) q q q (fun mm φφ ww hm213 => ?_)
 exact Zr (WL.s ((b_box q q).does) (Zw q) q q (WL.s ((b_alloc z233).does) (Zw q) q q (Zn (Zr (Zq (y_makeFunc q q) q (Zq (y_makeFunc q q) q (Zq (y_build p233 z233 q q) q (WL.s0 (d_store q q q q q q s233 q q) (Zw q) q (Zn (wc_ret (we_ret (rs1 q (rv_cN q q a233 s233 q)) ⟨h, Zl, ⟨Zp, Zp, Zp, Zp, ⟨q, Zs _, q, q⟩, Zp, Zp, Zp, Zp, Zt⟩⟩)))))))))))
 rintro rv st1 ⟨h, hr, hst⟩
 subst hk214
 dsimp only at h
 refine WL.cast 47 q hr (WL.weak hst (WL.s0 (d_store q q q q q q s233 q q) (Zw q) q (WL.nil (we_blk (we_seq (Zr (Zm q q ?_)))))))
 obtain ⟨x215, hx215, h⟩ := bindS h
 refine Zq (y_sindex Tryz.underlying9 q q hx215) q (WL.fn q q q q (f179_c _) ⟨Zl, Zt⟩ (Zw q) q q (Zm q q (Zq (y_extractd q q) q (Zq (y_extractd q q) q (Zq (y_fieldAddr f233_2 q) q (WL.s0 (d_store q q q q q q s2 q q) (Zw q) q (Zq (y_fieldAddr f233_3 q) q (WL.s0 (d_store q q q q q q s2 q q) (Zw q) q (Zn (Zr (Zm q q (Zq (y_loadN q q a233 s233 q) q ?_))))))))))))
 obtain ⟨k217, hk217, h⟩ := letkS h
 obtain ⟨k218, hk218, h⟩ := letkS h
 refine WL.yield (env0 := [(44, .ag [.fn (.func 210) [] [.pt 7 0], .fn (.func 211) [] [.pt 7 0], .n ((f179 x215).1), .n ((f179 x215).2)]), (2, .pt 0 0)]) (fun rv st' => (k217 () = some r ∧ rv = .d (.v (.bool false)) ∧ SLe st' [.row 4 [.d (D.b false)], .row 224 [.d (D.s r68.1.name), .d (D.s r68.1.fields)], .row 45 [.d (D.i .u8 x0.op), .n c21178, .n c22179, .n c23180, .n c24181, .n c25182, .n c26183], .row 230 [.pt 2 0], .lp sl80 [.pt 0 0] .done (some .ret), .row 224 [.d (D.s r168.1.name), .d (D.s r168.1.fields)], .row 233 [.fn (.func 210) [] [.pt 7 0], .fn (.func 211) [] [.pt 7 0], .n ((f179 x215).1), .n ((f179 x215).2)], .row 264 [.pt 2 3], .row 233 [.fn (.func 210) [] [.pt 7 0], .fn (.func 211) [] [.pt 7 0], .n 0, .n 0], .row 233 [.fn (.func 210) [] [.pt 7 0], .fn (.func 211) [] [.pt 7 0], .n ((f179 x215).1), .n ((f179 x215).2)]]) ∨ (k218 () = some r ∧ rv = .d (.v (.bool true)) ∧ SLe st' [.row 4 [.d (D.b false)], .row 224 [.d (D.s r68.1.name), .d (D.s r68.1.fields)], .row 45 [.d (D.i .u8 x0.op), .n c21178, .n c22179, .n 0, .n c24181, .n c25182, .n c26183], .row 230 [.pt 2 0], .lp sl80 [.pt 0 0] .ready none, .row 224 [.d (D.s r168.1.name), .d (D.s r168.1.fields)], .row 233 [.fn (.func 210) [] [.pt 7 0], .fn (.func 211) [] [.pt 7 0], .n ((f179 x215).1), .n ((f179 x215).2)], .row 264 [.pt 2 3], .row 233 [.fn (.func 210) [] [.pt 7 0], .fn (.func 211) [] [.pt 7 0], .n 0, .n 0], .row 233 [.fn (.func 210) [] [.pt 7 0], .fn (.func 211) [] [.pt 7 0], .n ((f179 x215).1), .n ((f179 x215).2)]])) hsl80 q q q q q q q (fun ee hn hrd216 hm216 => ?_) (Zw q) q q ?_
 obtain ⟨em, eφ, ew, en, er⟩ := ee
 subst hn
 refine wc_region (WL.s ((b_alloc z233).does) (Zw q) q q (WL.s0 (d_store q q q q q q s233 q q) (Zw q) q (WL.nil (we_asg hrd216 q (wc_block (wc_seq (Zr (Zq (y_fieldAddr f233_0 q) q (Zq (y_load q q a231 q) q ?_)))))))))
 obtain ⟨k220, hk220, h⟩ := letkS h
 refine WL.inl (us := [.pt 7 0]) (fun rv st' => (k220 () = some r ∧ Le rv (.n c23180) ∧ SLe st' [.row 4 [.d (D.b false)], .row 224 [.d (D.s r68.1.name), .d (D.s r68.1.fields)], .row 45 [.d (D.i .u8 x0.op), .n c21178, .n c22179, .n c23180, .n c24181, .n c25182, .n c26183], .row 230 [.pt 2 0], .lp sl80 [.pt 0 0] .busy none, .row 224 [.d (D.s r168.1.name), .d (D.s r168.1.fields)], .row 233 [.fn (.func 210) [] [.pt 7 0], .fn (.func 211) [] [.pt 7 0], .n ((f179 x215).1), .n ((f179 x215).2)], .row 264 [.pt 2 3], .row 233 [.fn (.func 210) [] [.pt 7 0], .fn (.func 211) [] [.pt 7 0], .n 0, .n 0], .row 233 [.fn (.func 210) [] [.pt 7 0], .fn (.func 211) [] [.pt 7 0], .n ((f179 x215).1), .n ((f179 x215).2)]])) q q q q q ?_ (Zw q) q q ?_
 refine ctr_intro Tryz.func210 (by kernel_rfl) q q q (fun mm φφ ww hm219 => ?_)
 exact Zr (Za q q (Zn (Zr (Zq (y_load q q a264 q) q (Zq (y_nilCheckp q) q (Zq (y_load q q a3 q) q (Za q q (Zn (wc_ret (we_ret (rs1 q (rv_t q)) ⟨h, Zl, ⟨Zp, Zp, Zp, Zp, ⟨q, Zs _, q, q⟩, Zp, Zp, Zp, Zp, Zp, Zt⟩⟩))))))))))
 rintro rv st1 ⟨h, hr, hst⟩
 subst hk220
 dsimp only at h
 refine WL.cast 47 q hr (WL.weak hst (Za q q (Zn (Zr (Zm q q (Zq (y_fieldAddr f233_2 q) q (Zq (y_load q q a2 q) q (Zq (y_lss q q) q (Zm q q ?_)))))))))
 apply WL.or 5 (t := 52) (d := 57)
 exact q
 intro hg52
 exact Zy (y_move q) q q q (Zy (y_fieldAddr f233_3 q) q q q (Zy (y_load q q a2 q) q q q (Zy (y_gtr q q) q q q (Zq (y_pick_f q q) q (WL.nil ⟨q, [_, _, _, _, _], q, q, q⟩)))))
 exact WL.skips 4 q (Zq (y_pick_t q q) q (WL.nil ⟨q, [_, _, _, _, _], q, q, q⟩))
 refine Zn (wc_cond q (fun hc9 => ?_) (fun hc9 => ?_))
 replace h := condT h hc9
 exact Zr (WL.s0 (d_store q q q q q q s4 q q) (Zw q) q (Zn (wc_ret (we_seq_ret (we_blk_ret (we_rend_ret hrd216 q (.inl ⟨h, q, ⟨Zp, Zp, Zp, Zp, ⟨q, Zs _, q, q⟩, Zp, Zp, Zp, Zp, Zp, Zt⟩⟩)))))))
 replace h := condF h hc9
 refine wc_skip (we_seq (wc_region (Zq (y_fieldAddr f233_1 q) q (Zq (y_load q q a125 q) q ?_))))
 obtain ⟨k222, hk222, h⟩ := letkS h
 refine WL.inl (us := [.n 0, .pt 7 0]) (fun rv st' => (k222 () = some r ∧ Le rv (.tu []) ∧ SLe st' [.row 4 [.d (D.b false)], .row 224 [.d (D.s r68.1.name), .d (D.s r68.1.fields)], .row 45 [.d (D.i .u8 x0.op), .n c21178, .n c22179, .n 0, .n c24181, .n c25182, .n c26183], .row 230 [.pt 2 0], .lp sl80 [.pt 0 0] .busy none, .row 224 [.d (D.s r168.1.name), .d (D.s r168.1.fields)], .row 233 [.fn (.func 210) [] [.pt 7 0], .fn (.func 211) [] [.pt 7 0], .n ((f179 x215).1), .n ((f179 x215).2)], .row 264 [.pt 2 3], .row 233 [.fn (.func 210) [] [.pt 7 0], .fn (.func 211) [] [.pt 7 0], .n 0, .n 0], .row 233 [.fn (.func 210) [] [.pt 7 0], .fn (.func 211) [] [.pt 7 0], .n ((f179 x215).1), .n ((f179 x215).2)]])) q q q q q ?_ (Zw q) q q ?_
 refine ctr_intro Tryz.func211 (by kernel_rfl) q q q (fun mm φφ ww hm221 => ?_)
 exact wc_region (Zq (y_load q q a264 q) q (Zm q q (Zq (y_nilCheckp q) q (WL.s0 (d_store q q q q q q s3 q q) (Zw q) q (WL.nil (we_end (we_ret (res0 q) ⟨h, Zl, ⟨Zp, Zp, Zp, Zp, ⟨q, Zs _, q, q⟩, Zp, Zp, Zp, Zp, Zp, Zt⟩⟩)))))))
 rintro rv st1 ⟨h, hr, hst⟩
 subst hk222
 dsimp only at h
 exact WL.cast 60 q hr (WL.weak hst (WL.nil (we_blk (we_rend hrd216 q (.inr (⟨h, q, ⟨Zp, Zp, Zp, Zp, ⟨q, Zs _, q, q⟩, Zp, Zp, Zp, Zp, Zp, Zt⟩⟩))))))
 rintro rv st1 (⟨h, rfl, hst⟩ | ⟨h, rfl, hst⟩)
 subst hk217
 dsimp only at h
 exact WL.weak hst (Zq (y_not q) q (Zn (wc_true q (wc_ret (we_blk_ret (we_seq_ret (we_lp_ret (we_blk_ret (we_ret (res0 q) (.inr (.inr (.inl ⟨c21178, c22179, c23180, c24181, c25182, c26183, r168.1.name, r168.1.fields, ((f179 x215).1), ((f179 x215).2), ((f179 x215).1), ((f179 x215).2), h, ⟨Zp, Zp, Zp, Zp, ⟨q, Zs _, q, q⟩, Zp, Zp, Zp, Zp, Zp, Zt⟩⟩))))))))))))
 subst hk218
 dsimp only at h
 exact WL.weak hst (Zq (y_not q) q (Zn (wc_false q (wc_skip (we_blk (we_seq (wc_region (Zq (y_add q q q) q (Zm q q (WL.nil (WE.drop 6 (env' := [(0, .yl 4), (1, .pt 3 0), (18, .l E9 r169), (19, .n (List.length r169 : Int)), (20, .n (IntKind.i64.wrap (t177 + 1)))]) (Sub.one q (Sub.one q (Sub.one q (Sub.one q (Sub.one q (Sub.nil _)))))) q q (Nat.le_trans (Nat.le_of_eq hm80) (Nat.le_of_ble_eq_true q)) (we_lp ⟨n, ⟨(IntKind.i64.wrap (t177 + 1)), c21178, c22179, 0, c24181, c25182, c26183, h, (Sx q (Sx q (Sx q (Sx q (Sx q (Sub.nil _)))))), ⟨Zp, Zp, Zp, Zp, ⟨q, Zs _, q, q⟩, Zp, Zt⟩⟩, Nat.lt_succ_self n⟩))))))))))))
 replace h := condF h hc8
 refine Zr (Zq (y_eql q q) q (Za q q (Zn (wc_cond q (fun hc10 => ?_) (fun hc10 => ?_)))))
 replace h := condT h hc10
 refine wc_region (Zq (y_load q q a230 q) q (Zq (y_nilCheckp q) q (Zq (y_fieldAddr f45_4 q) q ?_)))
 obtain ⟨k224, hk224, h⟩ := letkS h
 refine WL.inl (us := [.pt 2 4]) (fun rv st' => (k224 () = some r ∧ Le rv (.ag [.fn (.func 212) [] [.pt 7 0], .fn (.func 213) [] [.pt 7 0], .n 0, .n 0]) ∧ SLe st' [.row 4 [.d (D.b false)], .row 224 [.d (D.s r68.1.name), .d (D.s r68.1.fields)], .row 45 [.d (D.i .u8 x0.op), .n c21178, .n c22179, .n c23180, .n c24181, .n c25182, .n c26183], .row 230 [.pt 2 0], .lp sl80 [.pt 0 0] .ready none, .row 224 [.d (D.s r168.1.name), .d (D.s r168.1.fields)], .row 233 [.d (.v .nilFunc), .d (.v .nilFunc), .n 0, .n 0], .row 128 [.pt 2 4], .row 233 [.fn (.func 212) [] [.pt 7 0], .fn (.func 213) [] [.pt 7 0], .n 0, .n 0]])) q q q q q ?_ (Zw q) q q ?_
 refine ctr_intro Tryz.func178 (by kernel_rfl) q q q (fun mm φφ ww hm223 => ?_)
 exact Zr (WL.s ((b_box q q).does) (Zw q) q q (WL.s ((b_alloc z233).does) (Zw q) q q (Zn (Zr (Zq (y_makeFunc q q) q (Zq (y_makeFunc q q) q (Zq (y_build p233 z233 q q) q (WL.s0 (d_store q q q q q q s233 q q) (Zw q) q (Zn (wc_ret (we_ret (rs1 q (rv_cN q q a233 s233 q)) ⟨h, Zl, ⟨Zp, Zp, Zp, Zp, ⟨q, Zs _, q, q⟩, Zp, Zp, Zp, Zp, Zt⟩⟩)))))))))))
 rintro rv st1 ⟨h, hr, hst⟩
 subst hk224
 dsimp only at h
 refine WL.cast 53 q hr (WL.weak hst (WL.s0 (d_store q q q q q q s233 q q) (Zw q) q (WL.nil (we_blk (we_seq (Zr (Zm q q ?_)))))))
 obtain ⟨x225, hx225, h⟩ := bindS h
 refine Zq (y_sindex Tryz.underlying9 q q hx225) q (WL.fn q q q q (f179_c _) ⟨Zl, Zt⟩ (Zw q) q q (Zm q q (Zq (y_extractd q q) q (Zq (y_extractd q q) q (Zq (y_fieldAddr f233_2 q) q (WL.s0 (d_store q q q q q q s2 q q) (Zw q) q (Zq (y_fieldAddr f233_3 q) q (WL.s0 (d_store q q q q q q s2 q q) (Zw q) q (Zn (Zr (Zm q q (Zq (y_loadN q q a233 s233 q) q ?_))))))))))))
 obtain ⟨k227, hk227, h⟩ := letkS h
 obtain ⟨k228, hk228, h⟩ := letkS h
 refine WL.yield (env0 := [(44, .ag [.fn (.func 212) [] [.pt 7 0], .fn (.func 213) [] [.pt 7 0], .n ((f179 x225).1), .n ((f179 x225).2)]), (2, .pt 0 0)]) (fun rv st' => (k227 () = some r ∧ rv = .d (.v (.bool false)) ∧ SLe st' [.row 4 [.d (D.b false)], .row 224 [.d (D.s r68.1.name), .d (D.s r68.1.fields)], .row 45 [.d (D.i .u8 x0.op), .n c21178, .n c22179, .n c23180, .n c24181, .n c25182, .n c26183], .row 230 [.pt 2 0], .lp sl80 [.pt 0 0] .done (some .ret), .row 224 [.d (D.s r168.1.name), .d (D.s r168.1.fields)], .row 233 [.fn (.func 212) [] [.pt 7 0], .fn (.func 213) [] [.pt 7 0], .n ((f179 x225).1), .n ((f179 x225).2)], .row 128 [.pt 2 4], .row 233 [.fn (.func 212) [] [.pt 7 0], .fn (.func 213) [] [.pt 7 0], .n 0, .n 0], .row 233 [.fn (.func 212) [] [.pt 7 0], .fn (.func 213) [] [.pt 7 0], .n ((f179 x225).1), .n ((f179 x225).2)]]) ∨ (k228 () = some r ∧ rv = .d (.v (.bool true)) ∧ SLe st' [.row 4 [.d (D.b false)], .row 224 [.d (D.s r68.1.name), .d (D.s r68.1.fields)], .row 45 [.d (D.i .u8 x0.op), .n c21178, .n c22179, .n c23180, .n 0, .n c25182, .n c26183], .row 230 [.pt 2 0], .lp sl80 [.pt 0 0] .ready none, .row 224 [.d (D.s r168.1.name), .d (D.s r168.1.fields)], .row 233 [.fn (.func 212) [] [.pt 7 0], .fn (.func 213) [] [.pt 7 0], .n ((f179 x225).1), .n ((f179 x225).2)], .row 128 [.pt 2 4], .row 233 [.fn (.func 212) [] [.pt 7 0], .fn (.func 213) [] [.pt 7 0], .n 0, .n 0], .row 233 [.fn (.func 212) [] [.pt 7 0], .fn (.func 213) [] [.pt 7 0], .n ((f179 x225).1), .n ((f179 x225).2)]])) hsl80 q q q q q q q (fun ee hn hrd226 hm226 => ?_) (Zw q) q q ?_
 obtain ⟨em, eφ, ew, en, er⟩ := ee
 subst hn
 refine wc_region (WL.s ((b_alloc z233).does) (Zw q) q q (WL.s0 (d_store q q q q q q s233 q q) (Zw q) q (WL.nil (we_asg hrd226 q (wc_block (wc_seq (Zr (Zq (y_fieldAddr f233_0 q) q (Zq (y_load q q a231 q) q ?_)))))))))
 obtain ⟨k230, hk230, h⟩ := letkS h
 refine WL.inl (us := [.pt 7 0]) (fun rv st' => (k230 () = some r ∧ Le rv (.n c24181) ∧ SLe st' [.row 4 [.d (D.b false)], .row 224 [.d (D.s r68.1.name), .d (D.s r68.1.fields)], .row 45 [.d (D.i .u8 x0.op), .n c21178, .n c22179, .n c23180, .n c24181, .n c25182, .n c26183], .row 230 [.pt 2 0], .lp sl80 [.pt 0 0] .busy none, .row 224 [.d (D.s r168.1.name), .d (D.s r168.1.fields)], .row 233 [.fn (.func 212) [] [.pt 7 0], .fn (.func 213) [] [.pt 7 0], .n ((f179 x225).1), .n ((f179 x225).2)], .row 128 [.pt 2 4], .row 233 [.fn (.func 212) [] [.pt 7 0], .fn (.func 213) [] [.pt 7 0], .n 0, .n 0], .row 233 [.fn (.func 212) [] [.pt 7 0], .fn (.func 213) [] [.pt 7 0], .n ((f179 x225).1), .n ((f179 x225).2)]])) q q q q q ?_ (Zw q) q q ?_
 refine ctr_intro Tryz.func212 (by kernel_rfl) q q q (fun mm φφ ww hm229 => ?_)
 exact Zr (Za q q (Zn (Zr (Zq (y_load q q a128 q) q (Zq (y_nilCheckp q) q (Zq (y_load q q a2 q) q (Za q q (Zn (wc_ret (we_ret (rs1 q (rv_t q)) ⟨h, Zl, ⟨Zp, Zp, Zp, Zp, ⟨q, Zs _, q, q⟩, Zp, Zp, Zp, Zp, Zp, Zt⟩⟩))))))))))
 rintro rv st1 ⟨h, hr, hst⟩
 subst hk230
 dsimp only at h
 refine WL.cast 47 q hr (WL.weak hst (Za q q (Zn (Zr (Zm q q (Zq (y_fieldAddr f233_2 q) q (Zq (y_load q q a2 q) q (Zq (y_lss q q) q (Zm q q ?_)))))))))
 apply WL.or 5 (t := 52) (d := 57)
 exact q
 intro hg52
 exact Zy (y_move q) q q q (Zy (y_fieldAddr f233_3 q) q q q (Zy (y_load q q a2 q) q q q (Zy (y_gtr q q) q q q (Zq (y_pick_f q q) q (WL.nil ⟨q, [_, _, _, _, _], q, q, q⟩)))))
 exact WL.skips 4 q (Zq (y_pick_t q q) q (WL.nil ⟨q, [_, _, _, _, _], q, q, q⟩))
 refine Zn (wc_cond q (fun hc11 => ?_) (fun hc11 => ?_))
 replace h := condT h hc11
 exact Zr (WL.s0 (d_store q q q q q q s4 q q) (Zw q) q (Zn (wc_ret (we_seq_ret (we_blk_ret (we_rend_ret hrd226 q (.inl ⟨h, q, ⟨Zp, Zp, Zp, Zp, ⟨q, Zs _, q, q⟩, Zp, Zp, Zp, Zp, Zp, Zt⟩⟩)))))))
 replace h := condF h hc11
 refine wc_skip (we_seq (wc_region (Zq (y_fieldAddr f233_1 q) q (Zq (y_load q q a125 q) q ?_))))
 obtain ⟨k232, hk232, h⟩ := letkS h
 refine WL.inl (us := [.n 0, .pt 7 0]) (fun rv st' => (k232 () = some r ∧ Le rv (.tu []) ∧ SLe st' [.row 4 [.d (D.b false)], .row 224 [.d (D.s r68.1.name), .d (D.s r68.1.fields)], .row 45 [.d (D.i .u8 x0.op), .n c21178, .n c22179, .n c23180, .n 0, .n c25182, .n c26183], .row 230 [.pt 2 0], .lp sl80 [.pt 0 0] .busy none, .row 224 [.d (D.s r168.1.name), .d (D.s r168.1.fields)], .row 233 [.fn (.func 212) [] [.pt 7 0], .fn (.func 213) [] [.pt 7 0], .n ((f179 x225).1), .n ((f179 x225).2)], .row 128 [.pt 2 4], .row 233 [.fn (.func 212) [] [.pt 7 0], .fn (.func 213) [] [.pt 7 0], .n 0, .n 0], .row 233 [.fn (.func 212) [] [.pt 7 0], .fn (.func 213) [] [.pt 7 0], .n ((f179 x225).1), .n ((f179 x225).2)]])) q q q q q ?_ (Zw q) q q ?_
 refine ctr_intro Tryz.func213 (by kernel_rfl) q q q (fun mm φφ ww hm231 => ?_)
 exact wc_region (Zq (y_load q q a128 q) q (Zm q q (Zq (y_nilCheckp q) q (WL.s0 (d_store q q q q q q s2 q q) (Zw q) q (WL.nil (we_end (we_ret (res0 q) ⟨h, Zl, ⟨Zp, Zp, Zp, Zp, ⟨q, Zs _, q, q⟩, Zp, Zp, Zp, Zp, Zp, Zt⟩⟩)))))))
 rintro rv st1 ⟨h, hr, hst⟩
 subst hk232
 dsimp only at h
 exact WL.cast 60 q hr (WL.weak hst (WL.nil (we_blk (we_rend hrd226 q (.inr (⟨h, q, ⟨Zp, Zp, Zp, Zp, ⟨q, Zs _, q, q⟩, Zp, Zp, Zp, Zp, Zp, Zt⟩⟩))))))
 rintro rv st1 (⟨h, rfl, hst⟩ | ⟨h, rfl, hst⟩)
 subst hk227
 dsimp only at h
 exact WL.weak hst (Zq (y_not q) q (Zn (wc_true q (wc_ret (we_blk_ret (we_seq_ret (we_lp_ret (we_blk_ret (we_ret (res0 q) (.inr (.inr (.inr (.inl ⟨c21178, c22179, c23180, c24181, c25182, c26183, r168.1.name, r168.1.fields, ((f179 x225).1), ((f179 x225).2), ((f179 x225).1), ((f179 x225).2), h, ⟨Zp, Zp, Zp, Zp, ⟨q, Zs _, q, q⟩, Zp, Zp, Zp, Zp, Zp, Zt⟩⟩)))))))))))))
 subst hk228
 dsimp only at h
 exact WL.weak hst (Zq (y_not q) q (Zn (wc_false q (wc_skip (we_blk (we_seq (wc_region (Zq (y_add q q q) q (Zm q q (WL.nil (WE.drop 6 (env' := [(0, .yl 4), (1, .pt 3 0), (18, .l E9 r169), (19, .n (List.length r169 : Int)), (20, .n (IntKind.i64.wrap (t177 + 1)))]) (Sub.one q (Sub.one q (Sub.one q (Sub.one q (Sub.one q (Sub.nil _)))))) q q (Nat.le_trans (Nat.le_of_eq hm80) (Nat.le_of_ble_eq_true q)) (we_lp ⟨n, ⟨(IntKind.i64.wrap (t177 + 1)), c21178, c22179, c23180, 0, c25182, c26183, h, (Sx q (Sx q (Sx q (Sx q (Sx q (Sub.nil _)))))), ⟨Zp, Zp, Zp, Zp, ⟨q, Zs _, q, q⟩, Zp, Zt⟩⟩, Nat.lt_succ_self n⟩))))))))))))
 replace h := condF h hc10
 refine Zr (Zq (y_eql q q) q (Za q q (Zn (wc_cond q (fun hc12 => ?_) (fun hc12 => ?_)))))
 replace h := condT h hc12
 refine wc_region (Zq (y_load q q a230 q) q (Zq (y_nilCheckp q) q (Zq (y_fieldAddr f45_5 q) q ?_)))
 obtain ⟨k234, hk234, h⟩ := letkS h
 refine WL.inl (us := [.pt 2 5]) (fun rv st' => (k234 () = some r ∧ Le rv (.ag [.fn (.func 212) [] [.pt 7 0], .fn (.func 213) [] [.pt 7 0], .n 0, .n 0]) ∧ SLe st' [.row 4 [.d (D.b false)], .row 224 [.d (D.s r68.1.name), .d (D.s r68.1.fields)], .row 45 [.d (D.i .u8 x0.op), .n c21178, .n c22179, .n c23180, .n c24181, .n c25182, .n c26183], .row 230 [.pt 2 0], .lp sl80 [.pt 0 0] .ready none, .row 224 [.d (D.s r168.1.name), .d (D.s r168.1.fields)], .row 233 [.d (.v .nilFunc), .d (.v .nilFunc), .n 0, .n 0], .row 128 [.pt 2 5], .row 233 [.fn (.func 212) [] [.pt 7 0], .fn (.func 213) [] [.pt 7 0], .n 0, .n 0]])) q q q q q ?_ (Zw q) q q ?_
 refine ctr_intro Tryz.func178 (by kernel_rfl) q q q (fun mm φφ ww hm233 => ?_)
 exact Zr (WL.s ((b_box q q).does) (Zw q) q q (WL.s ((b_alloc z233).does) (Zw q) q q (Zn (Zr (Zq (y_makeFunc q q) q (Zq (y_makeFunc q q) q (Zq (y_build p233 z233 q q) q (WL.s0 (d_store q q q q q q s233 q q) (Zw q) q (Zn (wc_ret (we_ret (rs1 q (rv_cN q q a233 s233 q)) ⟨h, Zl, ⟨Zp, Zp, Zp, Zp, ⟨q, Zs _, q, q⟩, Zp, Zp, Zp, Zp, Zt⟩⟩)))))))))))
 rintro rv st1 ⟨h, hr, hst⟩
 subst hk234
 dsimp only at h
 refine WL.cast 59 q hr (WL.weak hst (WL.s0 (d_store q q q q q q s233 q q) (Zw q) q (WL.nil (we_blk (we_seq (Zr (Zm q q ?_)))))))
 obtain ⟨x235, hx235, h⟩ := bindS h
 refine Zq (y_sindex Tryz.underlying9 q q hx235) q (WL.fn q q q q (f179_c _) ⟨Zl, Zt⟩ (Zw q) q q (Zm q q (Zq (y_extractd q q) q (Zq (y_extractd q q) q (Zq (y_fieldAddr f233_2 q) q (WL.s0 (d_store q q q q q q s2 q q) (Zw q) q (Zq (y_fieldAddr f233_3 q) q (WL.s0 (d_store q q q q q q s2 q q) (Zw q) q (Zn (Zr (Zm q q (Zq (y_loadN q q a233 s233 q) q ?_))))))))))))
 obtain ⟨k237, hk237, h⟩ := letkS h
 obtain ⟨k238, hk238, h⟩ := letkS h
 refine WL.yield (env0 := [(44, .ag [.fn (.func 212) [] [.pt 7 0], .fn (.func 213) [] [.pt 7 0], .n ((f179 x235).1), .n ((f179 x235).2)]), (2, .pt 0 0)]) (fun rv st' => (k237 () = some r ∧ rv = .d (.v (.bool false)) ∧ SLe st' [.row 4 [.d (D.b false)], .row 224 [.d (D.s r68.1.name), .d (D.s r68.1.fields)], .row 45 [.d (D.i .u8 x0.op), .n c21178, .n c22179, .n c23180, .n c24181, .n c25182, .n c26183], .row 230 [.pt 2 0], .lp sl80 [.pt 0 0] .done (some .ret), .row 224 [.d (D.s r168.1.name), .d (D.s r168.1.fields)], .row 233 [.fn (.func 212) [] [.pt 7 0], .fn (.func 213) [] [.pt 7 0], .n ((f179 x235).1), .n ((f179 x235).2)], .row 128 [.pt 2 5], .row 233 [.fn (.func 212) [] [.pt 7 0], .fn (.func 213) [] [.pt 7 0], .n 0, .n 0], .row 233 [.fn (.func 212) [] [.pt 7 0], .fn (.func 213) [] [.pt 7 0], .n ((f179 x235).1), .n ((f179 x235).2)]]) ∨ (k238 () = some r ∧ rv = .d (.v (.bool true)) ∧ SLe st' [.row 4 [.d (D.b false)], .row 224 [.d (D.s r68.1.name), .d (D.s r68.1.fields)], .row 45 [.d (D.i .u8 x0.op), .n c21178, .n c22179, .n c23180, .n c24181, .n 0, .n c26183], .row 230 [.pt 2 0], .lp sl80 [.pt 0 0] .ready none, .row 224 [.d (D.s r168.1.name), .d (D.s r168.1.fields)], .row 233 [.fn (.func 212) [] [.pt 7 0], .fn (.func 213) [] [.pt 7 0], .n ((f179 x235).1), .n ((f179 x235).2)], .row 128 [.pt 2 5], .row 233 [.fn (.func 212) [] [.pt 7 0], .fn (.func 213) [] [.pt 7 0], .n 0, .n 0], .row 233 [.fn (.func 212) [] [.pt 7 0], .fn (.func 213) [] [.pt 7 0], .n ((f179 x235).1), .n ((f179 x235).2)]])) hsl80 q q q q q q q (fun ee hn hrd236 hm236 => ?_) (Zw q) q q ?_
 obtain ⟨em, eφ, ew, en, er⟩ := ee
 subst hn
 refine wc_region (WL.s ((b_alloc z233).does) (Zw q) q q (WL.s0 (d_store q q q q q q s233 q q) (Zw q) q (WL.nil (we_asg hrd236 q (wc_block (wc_seq (Zr (Zq (y_fieldAddr f233_0 q) q (Zq (y_load q q a231 q) q ?_)))))))))
 obtain ⟨k240, hk240, h⟩ := letkS h
 refine WL.inl (us := [.pt 7 0]) (fun rv st' => (k240 () = some r ∧ Le rv (.n c25182) ∧ SLe st' [.row 4 [.d (D.b false)], .row 224 [.d (D.s r68.1.name), .d (D.s r68.1.fields)], .row 45 [.d (D.i .u8 x0.op), .n c21178, .n c22179, .n c23180, .n c24181, .n c25182, .n c26183], .row 230 [.pt 2 0], .lp sl80 [.pt 0 0] .busy none, .row 224 [.d (D.s r168.1.name), .d (D.s r168.1.fields)], .row 233 [.fn (.func 212) [] [.pt 7 0], .fn (.func 213) [] [.pt 7 0], .n ((f179 x235).1), .n ((f179 x235).2)], .row 128 [.pt 2 5], .row 233 [.fn (.func 212) [] [.pt 7 0], .fn (.func 213) [] [.pt 7 0], .n 0, .n 0], .row 233 [.fn (.func 212) [] [.pt 7 0], .fn (.func 213) [] [.pt 7 0], .n ((f179 x235).1), .n ((f179 x235).2)]])) q q q q q ?_ (Zw q) q q ?_
 refine ctr_intro Tryz.func212 (by kernel_rfl) q q q (fun mm φφ ww hm239 => ?_)
 exact Zr (Za q q (Zn (Zr (Zq (y_load q q a128 q) q (Zq (y_nilCheckp q) q (Zq (y_load q q a2 q) q (Za q q (Zn (wc_ret (we_ret (rs1 q (rv_t q)) ⟨h, Zl, ⟨Zp, Zp, Zp, Zp, ⟨q, Zs _, q, q⟩, Zp, Zp, Zp, Zp, Zp, Zt⟩⟩))))))))))
 rintro rv st1 ⟨h, hr, hst⟩
 subst hk240
 dsimp only at h
 refine WL.cast 47 q hr (WL.weak hst (Za q q (Zn (Zr (Zm q q (Zq (y_fieldAddr f233_2 q) q (Zq (y_load q q a2 q) q (Zq (y_lss q q) q (Zm q q ?_)))))))))
 apply WL.or 5 (t := 52) (d := 57)
 exact q
 intro hg52
 exact Zy (y_move q) q q q (Zy (y_fieldAddr f233_3 q) q q q (Zy (y_load q q a2 q) q q q (Zy (y_gtr q q) q q q (Zq (y_pick_f q q) q (WL.nil ⟨q, [_, _, _, _, _], q, q, q⟩)))))
 exact WL.skips 4 q (Zq (y_pick_t q q) q (WL.nil ⟨q, [_, _, _, _, _], q, q, q⟩))
 refine Zn (wc_cond q (fun hc13 => ?_) (fun hc13 => ?_))
 replace h := condT h hc13
 exact Zr (WL.s0 (d_store q q q q q q s4 q q) (Zw q) q (Zn (wc_ret (we_seq_ret (we_blk_ret (we_rend_ret hrd236 q (.inl ⟨h, q, ⟨Zp, Zp, Zp, Zp, ⟨q, Zs _, q, q⟩, Zp, Zp, Zp, Zp, Zp, Zt⟩⟩)))))))
 replace h := condF h hc13
 refine wc_skip (we_seq (wc_region (Zq (y_fieldAddr f233_1 q) q (Zq (y_load q q a125 q) q ?_))))
 obtain ⟨k242, hk242, h⟩ := letkS h
 refine WL.inl (us := [.n 0, .pt 7 0]) (fun rv st' => (k242 () = some r ∧ Le rv (.tu []) ∧ SLe st' [.row 4 [.d (D.b false)], .row 224 [.d (D.s r68.1.name), .d (D.s r68.1.fields)], .row 45 [.d (D.i .u8 x0.op), .n c21178, .n c22179, .n c23180, .n c24181, .n 0, .n c26183], .row 230 [.pt 2 0], .lp sl80 [.pt 0 0] .busy none, .row 224 [.d (D.s r168.1.name), .d (D.s r168.1.fields)], .row 233 [.fn (.func 212) [] [.pt 7 0], .fn (.func 213) [] [.pt 7 0], .n ((f179 x235).1), .n ((f179 x235).2)], .row 128 [.pt 2 5], .row 233 [.fn (.func 212) [] [.pt 7 0], .fn (.func 213) [] [.pt 7 0], .n 0, .n 0], .row 233 [.fn (.func 212) [] [.pt 7 0], .fn (.func 213) [] [.pt 7 0], .n ((f179 x235).1), .n ((f179 x235).2)]])) q q q q q ?_ (Zw q) q q ?_
 refine ctr_intro Tryz.func213 (by kernel_rfl) q q q (fun mm φφ ww hm241 => ?_)
 exact wc_region (Zq (y_load q q a128 q) q (Zm q q (Zq (y_nilCheckp q) q (WL.s0 (d_store q q q q q q s2 q q) (Zw q) q (WL.nil (we_end (we_ret (res0 q) ⟨h, Zl, ⟨Zp, Zp, Zp, Zp, ⟨q, Zs _, q, q⟩, Zp, Zp, Zp, Zp, Zp, Zt⟩⟩)))))))
 rintro rv st1 ⟨h, hr, hst⟩
 subst hk242
 dsimp only at h
 exact WL.cast 60 q hr (WL.weak hst (WL.nil (we_blk (we_rend hrd236 q (.inr (⟨h, q, ⟨Zp, Zp, Zp, Zp, ⟨q, Zs _, q, q⟩, Zp, Zp, Zp, Zp, Zp, Zt⟩⟩))))))
 rintro rv st1 (⟨h, rfl, hst⟩ | ⟨h, rfl, hst⟩)
 subst hk237
 dsimp only at h
 exact WL.weak hst (Zq (y_not q) q (Zn (wc_true q (wc_ret (we_blk_ret (we_seq_ret (we_lp_ret (we_blk_ret (we_ret (res0 q) (.inr (.inr (.inr (.inr (.inl ⟨c21178, c22179, c23180, c24181, c25182, c26183, r168.1.name, r168.1.fields, ((f179 x235).1), ((f179 x235).2), ((f179 x235).1), ((f179 x235).2), h, ⟨Zp, Zp, Zp, Zp, ⟨q, Zs _, q, q⟩, Zp, Zp, Zp, Zp, Zp, Zt⟩⟩))))))))))))))
 subst hk238
 dsimp only at h
 exact WL.weak hst (Zq (y_not q) q (Zn (wc_false q (wc_skip (we_blk (we_seq (wc_region (Zq (y_add q q q) q (Zm q q (WL.nil (WE.drop 6 (env' := [(0, .yl 4), (1, .pt 3 0), (18, .l E9 r169), (19, .n (List.length r169 : Int)), (20, .n (IntKind.i64.wrap (t177 + 1)))]) (Sub.one q (Sub.one q (Sub.one q (Sub.one q (Sub.one q (Sub.nil _)))))) q q (Nat.le_trans (Nat.le_of_eq hm80) (Nat.le_of_ble_eq_true q)) (we_lp ⟨n, ⟨(IntKind.i64.wrap (t177 + 1)), c21178, c22179, c23180, c24181, 0, c26183, h, (Sx q (Sx q (Sx q (Sx q (Sx q (Sub.nil _)))))), ⟨Zp, Zp, Zp, Zp, ⟨q, Zs _, q, q⟩, Zp, Zt⟩⟩, Nat.lt_succ_self n⟩))))))))))))
 replace h := condF h hc12
 refine wc_region (Zq (y_load q q a230 q) q (Zq (y_nilCheckp q) q (Zq (y_fieldAddr f45_6 q) q ?_)))
 obtain ⟨k244, hk244, h⟩ := letkS h
 refine WL.inl (us := [.pt 2 6]) (fun rv st' => (k244 () = some r ∧ Le rv (.ag [.fn (.func 210) [] [.pt 7 0], .fn (.func 211) [] [.pt 7 0], .n 0, .n 0]) ∧ SLe st' [.row 4 [.d (D.b false)], .row 224 [.d (D.s r68.1.name), .d (D.s r68.1.fields)], .row 45 [.d (D.i .u8 x0.op), .n c21178, .n c22179, .n c23180, .n c24181, .n c25182, .n c26183], .row 230 [.pt 2 0], .lp sl80 [.pt 0 0] .ready none, .row 224 [.d (D.s r168.1.name), .d (D.s r168.1.fields)], .row 233 [.d (.v .nilFunc), .d (.v .nilFunc), .n 0, .n 0], .row 264 [.pt 2 6], .row 233 [.fn (.func 210) [] [.pt 7 0], .fn (.func 211) [] [.pt 7 0], .n 0, .n 0]])) q q q q q ?_ (Zw q) q q ?_
 refine ctr_intro Tryz.func177 (by kernel_rfl) q q q (fun mm φφ ww hm243 => ?_)
 exact Zr (WL.s ((b_box q q).does) (Zw q) q q (WL.s ((b_alloc z233).does) (Zw q) q q (Zn (Zr (Zq (y_makeFunc q q) q (Zq (y_makeFunc q q) q (Zq (y_build p233 z233 q q) q (WL.s0 (d_store q q q q q q s233 q q) (Zw q) q (Zn (wc_ret (we_ret (rs1 q (rv_cN q q a233 s233 q)) ⟨h, Zl, ⟨Zp, Zp, Zp, Zp, ⟨q, Zs _, q, q⟩, Zp, Zp, Zp, Zp, Zt⟩⟩)))))))))))
 rintro rv st1 ⟨h, hr, hst⟩
 subst hk244
 dsimp only at h
 refine WL.cast 29 q hr (WL.weak hst (WL.s0 (d_store q q q q q q s233 q q) (Zw q) q (WL.nil (we_blk (we_seq (Zr (Zm q q ?_)))))))
 obtain ⟨x245, hx245, h⟩ := bindS h
 refine Zq (y_sindex Tryz.underlying9 q q hx245) q (WL.fn q q q q (f179_c _) ⟨Zl, Zt⟩ (Zw q) q q (Zm q q (Zq (y_extractd q q) q (Zq (y_extractd q q) q (Zq (y_fieldAddr f233_2 q) q (WL.s0 (d_store q q q q q q s2 q q) (Zw q) q (Zq (y_fieldAddr f233_3 q) q (WL.s0 (d_store q q q q q q s2 q q) (Zw q) q (Zn (Zr (Zm q q (Zq (y_loadN q q a233 s233 q) q ?_))))))))))))
 obtain ⟨k247, hk247, h⟩ := letkS h
 obtain ⟨k248, hk248, h⟩ := letkS h
 refine WL.yield (env0 := [(44, .ag [.fn (.func 210) [] [.pt 7 0], .fn (.func 211) [] [.pt 7 0], .n ((f179 x245).1), .n ((f179 x245).2)]), (2, .pt 0 0)]) (fun rv st' => (k247 () = some r ∧ rv = .d (.v (.bool false)) ∧ SLe st' [.row 4 [.d (D.b false)], .row 224 [.d (D.s r68.1.name), .d (D.s r68.1.fields)], .row 45 [.d (D.i .u8 x0.op), .n c21178, .n c22179, .n c23180, .n c24181, .n c25182, .n c26183], .row 230 [.pt 2 0], .lp sl80 [.pt 0 0] .done (some .ret), .row 224 [.d (D.s r168.1.name), .d (D.s r168.1.fields)], .row 233 [.fn (.func 210) [] [.pt 7 0], .fn (.func 211) [] [.pt 7 0], .n ((f179 x245).1), .n ((f179 x245).2)], .row 264 [.pt 2 6], .row 233 [.fn (.func 210) [] [.pt 7 0], .fn (.func 211) [] [.pt 7 0], .n 0, .n 0], .row 233 [.fn (.func 210) [] [.pt 7 0], .fn (.func 211) [] [.pt 7 0], .n ((f179 x245).1), .n ((f179 x245).2)]]) ∨ (k248 () = some r ∧ rv = .d (.v (.bool true)) ∧ SLe st' [.row 4 [.d (D.b false)], .row 224 [.d (D.s r68.1.name), .d (D.s r68.1.fields)], .row 45 [.d (D.i .u8 x0.op), .n c21178, .n c22179, .n c23180, .n c24181, .n c25182, .n 0], .row 230 [.pt 2 0], .lp sl80 [.pt 0 0] .ready none, .row 224 [.d (D.s r168.1.name), .d (D.s r168.1.fields)], .row 233 [.fn (.func 210) [] [.pt 7 0], .fn (.func 211) [] [.pt 7 0], .n ((f179 x245).1), .n ((f179 x245).2)], .row 264 [.pt 2 6], .row 233 [.fn (.func 210) [] [.pt 7 0], .fn (.func 211) [] [.pt 7 0], .n 0, .n 0], .row 233 [.fn (.func 210) [] [.pt 7 0], .fn (.func 211) [] [.pt 7 0], .n ((f179 x245).1), .n ((f179 x245).2)]])) hsl80 q q q q q q q (fun ee hn hrd246 hm246 => ?_) (Zw q) q q ?_
 obtain ⟨em, eφ, ew, en, er⟩ := ee
 subst hn
 refine wc_region (WL.s ((b_alloc z233).does) (Zw q) q q (WL.s0 (d_store q q q q q q s233 q q) (Zw q) q (WL.nil (we_asg hrd246 q (wc_block (wc_seq (Zr (Zq (y_fieldAddr f233_0 q) q (Zq (y_load q q a231 q) q ?_)))))))))
 obtain ⟨k250, hk250, h⟩ := letkS h
 refine WL.inl (us := [.pt 7 0]) (fun rv st' => (k250 () = some r ∧ Le rv (.n c26183) ∧ SLe st' [.row 4 [.d (D.b false)], .row 224 [.d (D.s r68.1.name), .d (D.s r68.1.fields)], .row 45 [.d (D.i .u8 x0.op), .n c21178, .n c22179, .n c23180, .n c24181, .n c25182, .n c26183], .row 230 [.pt 2 0], .lp sl80 [.pt 0 0] .busy none, .row 224 [.d (D.s r168.1.name), .d (D.s r168.1.fields)], .row 233 [.fn (.func 210) [] [.pt 7 0], .fn (.func 211) [] [.pt 7 0], .n ((f179 x245).1), .n ((f179 x245).2)], .row 264 [.pt 2 6], .row 233 [.fn (.func 210) [] [.pt 7 0], .fn (.func 211) [] [.pt 7 0], .n 0, .n 0], .row 233 [.fn (.func 210) [] [.pt 7 0], .fn (.func 211) [] [.pt 7 0], .n ((f179 x245).1), .n ((f179 x245).2)]])) q q q q q ?_ (Zw q) q q ?_
 refine ctr_intro Tryz.func210 (by kernel_rfl) q q q (fun mm φφ ww hm249 => ?_)
 exact Zr (Za q q (Zn (Zr (Zq (y_load q q a264 q) q (Zq (y_nilCheckp q) q (Zq (y_load q q a3 q) q (Za q q (Zn (wc_ret (we_ret (rs1 q (rv_t q)) ⟨h, Zl, ⟨Zp, Zp, Zp, Zp, ⟨q, Zs _, q, q⟩, Zp, Zp, Zp, Zp, Zp, Zt⟩⟩))))))))))
 rintro rv st1 ⟨h, hr, hst⟩
 subst hk250
 dsimp only at h
 refine WL.cast 47 q hr (WL.weak hst (Za q q (Zn (Zr (Zm q q (Zq (y_fieldAddr f233_2 q) q (Zq (y_load q q a2 q) q (Zq (y_lss q q) q (Zm q q ?_)))))))))
 apply WL.or 5 (t := 52) (d := 57)
 exact q
 intro hg52
 exact Zy (y_move q) q q q (Zy (y_fieldAddr f233_3 q) q q q (Zy (y_load q q a2 q) q q q (Zy (y_gtr q q) q q q (Zq (y_pick_f q q) q (WL.nil ⟨q, [_, _, _, _, _], q, q, q⟩)))))
 exact WL.skips 4 q (Zq (y_pick_t q q) q (WL.nil ⟨q, [_, _, _, _, _], q, q, q⟩))
 refine Zn (wc_cond q (fun hc14 => ?_) (fun hc14 => ?_))
 replace h := condT h hc14
 exact Zr (WL.s0 (d_store q q q q q q s4 q q) (Zw q) q (Zn (wc_ret (we_seq_ret (we_blk_ret (we_rend_ret hrd246 q (.inl ⟨h, q, ⟨Zp, Zp, Zp, Zp, ⟨q, Zs _, q, q⟩, Zp, Zp, Zp, Zp, Zp, Zt⟩⟩)))))))
 replace h := condF h hc14
 refine wc_skip (we_seq (wc_region (Zq (y_fieldAddr f233_1 q) q (Zq (y_load q q a125 q) q ?_))))
 obtain ⟨k252, hk252, h⟩ := letkS h
 refine WL.inl (us := [.n 0, .pt 7 0]) (fun rv st' => (k252 () = some r ∧ Le rv (.tu []) ∧ SLe st' [.row 4 [.d (D.b false)], .row 224 [.d (D.s r68.1.name), .d (D.s r68.1.fields)], .row 45 [.d (D.i .u8 x0.op), .n c21178, .n c22179, .n c23180, .n c24181, .n c25182, .n 0], .row 230 [.pt 2 0], .lp sl80 [.pt 0 0] .busy none, .row 224 [.d (D.s r168.1.name), .d (D.s r168.1.fields)], .row 233 [.fn (.func 210) [] [.pt 7 0], .fn (.func 211) [] [.pt 7 0], .n ((f179 x245).1), .n ((f179 x245).2)], .row 264 [.pt 2 6], .row 233 [.fn (.func 210) [] [.pt 7 0], .fn (.func 211) [] [.pt 7 0], .n 0, .n 0], .row 233 [.fn (.func 210) [] [.pt 7 0], .fn (.func 211) [] [.pt 7 0], .n ((f179 x245).1), .n ((f179 x245).2)]])) q q q q q ?_ (Zw q) q q ?_
 refine ctr_intro Tryz.func211 (by kernel_rfl) q q q (fun mm φφ ww hm251 => ?_)
 exact wc_region (Zq (y_load q q a264 q) q (Zm q q (Zq (y_nilCheckp q) q (WL.s0 (d_store q q q q q q s3 q q) (Zw q) q (WL.nil (we_end (we_ret (res0 q) ⟨h, Zl, ⟨Zp, Zp, Zp, Zp, ⟨q, Zs _, q, q⟩, Zp, Zp, Zp, Zp, Zp, Zt⟩⟩)))))))
 rintro rv st1 ⟨h, hr, hst⟩
 subst hk252
 dsimp only at h
 exact WL.cast 60 q hr (WL.weak hst (WL.nil (we_blk (we_rend hrd246 q (.inr (⟨h, q, ⟨Zp, Zp, Zp, Zp, ⟨q, Zs _, q, q⟩, Zp, Zp, Zp, Zp, Zp, Zt⟩⟩))))))
 rintro rv st1 (⟨h, rfl, hst⟩ | ⟨h, rfl, hst⟩)
 subst hk247
 dsimp only at h
 exact WL.weak hst (Zq (y_not q) q (Zn (wc_true q (wc_ret (we_blk_ret (we_seq_ret (we_lp_ret (we_blk_ret (we_ret (res0 q) (.inr (.inr (.inr (.inr (.inr (.inl ⟨c21178, c22179, c23180, c24181, c25182, c26183, r168.1.name, r168.1.fields, ((f179 x245).1), ((f179 x245).2), ((f179 x245).1), ((f179 x245).2), h, ⟨Zp, Zp, Zp, Zp, ⟨q, Zs _, q, q⟩, Zp, Zp, Zp, Zp, Zp, Zt⟩⟩)))))))))))))))
 subst hk248
 dsimp only at h
 exact WL.weak hst (Zq (y_not q) q (Zn (wc_false q (wc_skip (we_blk (we_seq (wc_region (Zq (y_add q q q) q (Zm q q (WL.nil (WE.drop 6 (env' := [(0, .yl 4), (1, .pt 3 0), (18, .l E9 r169), (19, .n (List.length r169 : Int)), (20, .n (IntKind.i64.wrap (t177 + 1)))]) (Sub.one q (Sub.one q (Sub.one q (Sub.one q (Sub.one q (Sub.nil _)))))) q q (Nat.le_trans (Nat.le_of_eq hm80) (Nat.le_of_ble_eq_true q)) (we_lp ⟨n, ⟨(IntKind.i64.wrap (t177 + 1)), c21178, c22179, c23180, c24181, c25182, 0, h, (Sx q (Sx q (Sx q (Sx q (Sx q (Sub.nil _)))))), ⟨Zp, Zp, Zp, Zp, ⟨q, Zs _, q, q⟩, Zp, Zt⟩⟩, Nat.lt_succ_self n⟩))))))))))))
 replace h := condF h hc3
 exact wc_exit (we_seq_exit (we_lp_exit (we_blk_hit (we_end (we_ret (res0 q) (.inr (.inr (.inr (.inr (.inr (.inr (⟨c21178, c22179, c23180, c24181, c25182, c26183, r168.1.name, r168.1.fields, h, ⟨Zp, Zp, Zp, Zp, ⟨q, Zs _, q, q⟩, Zp, Zt⟩⟩))))))))))))
 rintro sl80 rv st1 (⟨c2181, c2282, c2383, c2484, c2585, c2686, c5087, c5188, c6289, c6390, c9291, c9392, h, hst⟩ | ⟨c2194, c2295, c2396, c2497, c2598, c2699, c50100, c51101, c62102, c63103, c92104, c93105, h, hst⟩ | ⟨c21107, c22108, c23109, c24110, c25111, c26112, c50113, c51114, c62115, c63116, c92117, c93118, h, hst⟩ | ⟨c21120, c22121, c23122, c24123, c25124, c26125, c50126, c51127, c62128, c63129, c92130, c93131, h, hst⟩ | ⟨c21133, c22134, c23135, c24136, c25137, c26138, c50139, c51140, c62141, c63142, c92143, c93144, h, hst⟩ | ⟨c21146, c22147, c23148, c24149, c25150, c26151, c50152, c51153, c62154, c63155, c92156, c93157, h, hst⟩ | ⟨c21159, c22160, c23161, c24162, c25163, c26164, c50165, c51166, h, hst⟩)
 subst hk93
 dsimp only at h
 refine ⟨_, _, _, _, _, hst, q, (by intro h; cases h), ?_⟩
 refine we_blk_ret (we_lp_ret ?_)
 obtain rfl := Oi h
 exact we_ret_fn (rs1 q (rv_c q q a4 q)) Zl
 subst hk106
 dsimp only at h
 refine ⟨_, _, _, _, _, hst, q, (by intro h; cases h), ?_⟩
 refine we_blk_ret (we_lp_ret ?_)
 obtain rfl := Oi h
 exact we_ret_fn (rs1 q (rv_c q q a4 q)) Zl
 subst hk119
 dsimp only at h
 refine ⟨_, _, _, _, _, hst, q, (by intro h; cases h), ?_⟩
 refine we_blk_ret (we_lp_ret ?_)
 obtain rfl := Oi h
 exact we_ret_fn (rs1 q (rv_c q q a4 q)) Zl
 subst hk132
 dsimp only at h
 refine ⟨_, _, _, _, _, hst, q, (by intro h; cases h), ?_⟩
 refine we_blk_ret (we_lp_ret ?_)
 obtain rfl := Oi h
 exact we_ret_fn (rs1 q (rv_c q q a4 q)) Zl
 subst hk145
 dsimp only at h
 refine ⟨_, _, _, _, _, hst, q, (by intro h; cases h), ?_⟩
 refine we_blk_ret (we_lp_ret ?_)
 obtain rfl := Oi h
 exact we_ret_fn (rs1 q (rv_c q q a4 q)) Zl
 subst hk158
 dsimp only at h
 refine ⟨_, _, _, _, _, hst, q, (by intro h; cases h), ?_⟩
 refine we_blk_ret (we_lp_ret ?_)
 obtain rfl := Oi h
 exact we_ret_fn (rs1 q (rv_c q q a4 q)) Zl
 subst hk167
 dsimp only at h
 refine ⟨_, _, _, _, _, hst, q, (by intro h; cases h), ?_⟩
 exact we_blk (we_lp ⟨c21159, c22160, c23161, c24162, c25163, c26164, c50165, c51166, h, (Sx q (Sx q (Sx q (Sub.nil _)))), ⟨Zp, Zp, Zp, Zp, Zt, Zp, Zt⟩⟩)
 rintro env1 st1 ⟨c2169, c2270, c2371, c2472, c2573, c2674, c5075, c5176, h, hsub, hst⟩
 subst hk77
 dsimp only at h
 refine WC.sub hsub (WC.weak hst ?_)
 refine Zr (Zq (y_loadN q q a45 s45 q) q (Zq (y_fieldAddrc f45_0 q) q (Zq (y_loadc q a43 q) q (Zq (y_build p45 z45 q q) q (Zq (y_eqst (xs := [.int .u8 x0.op, .int .i64 c2169, .int .i64 c2270, .int .i64 c2371, .int .i64 c2472, .int .i64 c2573, .int .i64 c2674]) (ys := [.int .u8 x0.op, .int .i64 0, .int .i64 0, .int .i64 0, .int .i64 0, .int .i64 0, .int .i64 0]) (b := ((decide (x0.op = x0.op)) && ((decide (c2169 = 0)) && ((decide (c2270 = 0)) && ((decide (c2371 = 0)) && ((decide (c2472 = 0)) && ((decide (c2573 = 0)) && ((decide (c2674 = 0)) && true)))))))) q45 q (Le.agd ⟨Zl, Zl, Zl, Zl, Zl, Zl, Zl, Zt⟩) q (Le.agd ⟨Zl, Zl, Zl, Zl, Zl, Zl, Zl, Zt⟩) q q q) q (WL.s0 (d_store q q q q q q s4 q q) (Zw q) q (Zn (wc_ret ?_))))))))
 obtain rfl := Oi h
 exact we_ret_fn (rs1 q (rv_c q q a4 q)) Zl

theorem f125_c (y0 : Insn) : Pu Tryz.prog 125 [.ag (R45 y0)] (.b (f125 y0)) := by
 generalize h : f125 y0 = r
 unfold f125 at h
 refine fn_intro Tryz.func125 (by kernel_rfl) q q q (fun φφ ww => ?_)
 refine Zr (WL.s ((b_boxd q q (Zs _)).does) (Zw q) q q (Za q q (Zn (Zr (Zq (y_fieldAddrc f45_0 q) q (Zq (y_loadc q a43 q) q (Zq (y_neq q q) q (Za q q (Zn (wc_ret ?_))))))))))
 subst h
 exact we_ret_fn (rs1 q (rv_t q)) Zl

theorem f126_c (t0 : View) (task1 : Int) (n2 : Int) {r : Int × Bool} (h : f126 t0 task1 n2 = some r) : Pu Tryz.prog 126 [.ag (R135 t0), .i .i64 task1, .i .i64 n2] (.tu [.i .i64 r.1, .b r.2]) := by
 unfold f126 at h
 refine fn_intro Tryz.func126 (by kernel_rfl) q q q (fun φφ ww => ?_)
 refine Zr (WL.s ((b_boxd q q (Zs _)).does) (Zw q) q q (Za q q (Za q q (Zn (wc_seq (Zr (Zm q q (Zq (y_lss q q) q (Zm q q ?_)))))))))
 apply WL.or 7 (t := 11) (d := 18)
 exact q
 intro hg11
 exact Zy (y_move q) q q q (Zy (y_fieldAddrc f135_0 q) q q q (Zy (y_fieldAddrc f38_8 q) q q q (Zy (y_loadc q a28 q) q q q (Zy (y_len_map E27 t0.text.tasks e28 q q Zl) q q q (Zy (y_geq q q) q q q (Zq (y_pick_f q q) q (WL.nil ⟨q, [_, _, _, _, _, _, _], q, q, q⟩)))))))
 exact WL.skips 6 q (Zq (y_pick_t q q) q (WL.nil ⟨q, [_, _, _, _, _, _, _], q, q, q⟩))
 refine Zm q q ?_
 apply WL.or 3 (t := 19) (d := 22)
 exact q
 intro hg19
 exact Zy (y_move q) q q q (Zy (y_lss q q) q q q (Zq (y_pick_f q q) q (WL.nil ⟨q, [_, _, _], q, q, q⟩)))
 exact WL.skips 2 q (Zq (y_pick_t q q) q (WL.nil ⟨q, [_, _, _], q, q, q⟩))
 refine Zm q q ?_
 obtain ⟨b57, hb57, h⟩ := bindS h
 apply WL.grp 11 (t := 23) (d := 34) (z := b57)
 exact q
 intro hg23
 have h := condT hb57 hg23
 refine WL.skips 10 q (Zq (y_pick_t q q) q ?_)
 obtain rfl := Oi h
 exact WL.nil ⟨q, [_, _, _, _, _, _, _, _, _, _, _], q, q, q⟩
 intro hg23
 have h := condF hb57 hg23
 refine Zy (y_move q) q q q (Zy (y_fieldAddrc f135_0 q) q q q (Zy (y_fieldAddrc f38_8 q) q q q (Zy (y_loadc q a28 q) q q q (Zy (y_move q) q q q ?_))))
 obtain ⟨x58, hx58, h⟩ := bindS h
 refine Zy (y_indexAddr e28 q Zl q (idx_nonneg hx58) (idx_row E27_eq hx58) q) q q q (Zy (y_fieldAddrc f27_2 q) q q q (Zy (y_loadc q a25 q) q q q (Zy (y_len_map E173 x58.entries e25 q q Zl) q q q (Zy (y_geq q q) q q q (Zq (y_pick_f q q) q ?_)))))
 obtain rfl := Oi h
 exact WL.nil ⟨q, [_, _, _, _, _, _, _, _, _, _, _], q, q, q⟩
 refine Zn (wc_cond q (fun hc1 => ?_) (fun hc1 => ?_))
 replace h := condT h hc1
 refine Zr (Za q q (Za q q (Zn (wc_ret (we_seq_ret ?_)))))
 obtain rfl := Oi h
 exact we_ret_fn (rs2 q (rv_t q) (rv_t q)) (Le.tud ⟨Zl, Zl, Zt⟩)
 replace h := condF h hc1
 refine wc_skip (we_seq (Zr (Zq (y_fieldAddrc f135_0 q) q (Zq (y_fieldAddrc f38_8 q) q (Zq (y_loadc q a28 q) q (Zm q q ?_))))))
 obtain ⟨x59, hx59, h⟩ := bindS h
 refine Zq (y_indexAddr e28 q Zl q (idx_nonneg hx59) (idx_row E27_eq hx59) q) q (Zq (y_fieldAddrc f27_2 q) q (Zq (y_loadc q a25 q) q (Zm q q ?_)))
 obtain ⟨x60, hx60, h⟩ := bindS h
 refine Zq (y_indexAddr e25 q Zl q (idx_nonneg hx60) (idx_row E173_eq hx60) q) q (Zq (y_loadcN q a173 s173 q) q (WL.s ((b_alloc z173).does) (Zw q) q q (WL.s0 (d_store q q q q q q s173 q q) (Zw q) q (Zn (Zr (Zq (y_fieldAddr f173_0 q) q (Zq (y_load q q a96 q) q (Zq (y_len_map E3 x60.ins e96 q q Zl) q (Zq (y_fieldAddr f173_1 q) q (Zq (y_load q q a96 q) q (Zq (y_len_map E3 x60.outs e96 q q Zl) q (Zq (y_add q q q) q (Zq (y_add q q q) q (Za q q (Za q q (Zn (wc_ret ?_)))))))))))))))))
 obtain rfl := Oi h
 exact we_ret_fn (rs2 q (rv_t q) (rv_t q)) (Le.tud ⟨Zl, Zl, Zt⟩)

theorem f127_c (t0 : View) (p1 : Int) (n2 : Int) {r : Bool} (h : f127 t0 p1 n2 = some r) : Pu Tryz.prog 127 [.ag (R135 t0), .i .i64 p1, .i .i64 n2] (.b r) := by
 unfold f127 at h
 refine fn_intro Tryz.func127 (by kernel_rfl) q q q (fun φφ ww => ?_)
 refine Zr (WL.s ((b_boxd q q (Zs _)).does) (Zw q) q q (Za q q (Zn (Zr (Zm q q (Zq (y_geq q q) q (Zm q q ?_)))))))
 apply WL.and 7 (t := 9) (d := 16)
 exact q
 intro hg9
 exact Zy (y_move q) q q q (Zy (y_fieldAddrc f135_0 q) q q q (Zy (y_fieldAddrc f38_9 q) q q q (Zy (y_loadc q a35 q) q q q (Zy (y_len_map E164 t0.text.prots e35 q q Zl) q q q (Zy (y_lss q q) q q q (Zq (y_pick_t q q) q (WL.nil ⟨q, [_, _, _, _, _, _, _], q, q, q⟩)))))))
 exact WL.skips 6 q (Zq (y_pick_f q q) q (WL.nil ⟨q, [_, _, _, _, _, _, _], q, q, q⟩))
 refine Zm q q ?_
 apply WL.and 3 (t := 17) (d := 20)
 exact q
 intro hg17
 exact Zy (y_move q) q q q (Zy (y_geq q q) q q q (Zq (y_pick_t q q) q (WL.nil ⟨q, [_, _, _], q, q, q⟩)))
 exact WL.skips 2 q (Zq (y_pick_f q q) q (WL.nil ⟨q, [_, _, _], q, q, q⟩))
 refine Zm q q ?_
 obtain ⟨b37, hb37, h⟩ := bindS h
 apply WL.grp 11 (t := 21) (d := 32) (z := b37)
 exact q
 intro hg21
 have h := condT hb37 hg21
 refine Zy (y_move q) q q q (Zy (y_fieldAddrc f135_0 q) q q q (Zy (y_fieldAddrc f38_9 q) q q q (Zy (y_loadc q a35 q) q q q (Zy (y_move q) q q q ?_))))
 obtain ⟨x38, hx38, h⟩ := bindS h
 refine Zy (y_indexAddr e35 q Zl q (idx_nonneg hx38) (idx_row E164_eq hx38) q) q q q (Zy (y_fieldAddrc f164_1 q) q q q (Zy (y_loadc q a162 q) q q q (Zy (y_len_map E179 x38.barriers e162 q q Zl) q q q (Zy (y_lss q q) q q q (Zq (y_pick_t q q) q ?_)))))
 obtain rfl := Oi h
 exact WL.nil ⟨q, [_, _, _, _, _, _, _, _, _, _, _], q, q, q⟩
 intro hg21
 have h := condF hb37 hg21
 refine WL.skips 10 q (Zq (y_pick_f q q) q ?_)
 obtain rfl := Oi h
 exact WL.nil ⟨q, [_, _, _, _, _, _, _, _, _, _, _], q, q, q⟩
 refine Za q q (Zn (wc_ret ?_))
 obtain rfl := Oi h
 exact we_ret_fn (rs1 q (rv_t q)) Zl

theorem f78_c (t0 : View) (x1 : Insn) {r : Bool} (h : f78 t0 x1 = some r) : Pu Tryz.prog 78 [.ag (R135 t0), .ag (R45 x1)] (.b r) := by
 unfold f78 at h
 refine fn_intro Tryz.func78 (by kernel_rfl) q q q (fun φφ ww => ?_)
 refine Zr (WL.s ((b_boxd q q (Zs _)).does) (Zw q) q q (WL.s ((b_boxd q q (Zs _)).does) (Zw q) q q (Za q q (Zn (wc_seq (Zr (Zq (y_loadcN q a45 s45 q) q ?_)))))))
 obtain ⟨r170, hr170, h⟩ := bindS h
 refine WL.fn q q q q (f124_c _ hr170) ⟨Zl, Zt⟩ (Zw q) q q (Zq (y_not q) q (Zn (wc_cond q (fun hc1 => ?_) (fun hc1 => ?_))))
 replace h := condT h hc1
 refine Zr (Za q q (Zn (wc_ret (we_seq_ret ?_))))
 obtain rfl := Oi h
 exact we_ret_fn (rs1 q (rv_t q)) Zl
 replace h := condF h hc1
 refine wc_skip (we_seq (wc_seq (Zr (Zq (y_fieldAddrc f45_0 q) q (Zq (y_loadc q a43 q) q (Zn (wc_block ?_)))))))
 replace h := letkS h
 obtain ⟨k172, hk172, h⟩ := h
 refine wc_cut (fun env' st' => ∃ (t171 : Bool), k172 t171 = some r ∧ Sub [(2, .d (.pc (R135 t0))), (3, .d (.pc (R45 x1))), (14, .d (D.i .u8 x1.op)), (15, .d (D.b t171))] env' ∧ SLe st' []) ?_ ?_
 refine Zr (Zq (y_eql q q) q (Za q q (Zn (wc_cond q (fun hc2 => ?_) (fun hc2 => ?_)))))
 replace h := condT h hc2
 exact wc_skip (we_lp ⟨(decide (x1.op = 3)), h, (Sx q (Sx q (Sx q (Sx q (Sub.nil _))))), Zt⟩)
 replace h := condF h hc2
 exact wc_region (Zq (y_eql q q) q (Za q q (WL.nil (we_lp ⟨(decide (x1.op = 4)), h, (Sx q (Sx q (Sx q (Sx q (Sub.nil _))))), Zt⟩))))
 rintro env1 st1 ⟨t171, h, hsub, hst⟩
 subst hk172
 dsimp only at h
 refine WC.sub hsub (WC.weak hst ?_)
 refine wc_cond q (fun hc3 => ?_) (fun hc3 => ?_)
 replace h := condT h hc3
 refine Zr (Zq (y_loadcN q a135 s135 q) q (Zq (y_fieldAddrc f45_4 q) q (Zq (y_loadc q a2 q) q (Zq (y_fieldAddrc f45_5 q) q (Zq (y_loadc q a2 q) q ?_)))))
 obtain ⟨r173, hr173, h⟩ := bindS h
 refine WL.fn q q q q (f111_c _ _ _ _ hr173) ⟨Zl, Zl, Zl, Zl, Zt⟩ (Zw q) q q (Za q q (Zn (wc_ret (we_blk_ret (we_seq_ret ?_)))))
 obtain rfl := Oi h
 exact we_ret_fn (rs1 q (rv_t q)) Zl
 replace h := condF h hc3
 replace h := letkS h
 obtain ⟨k175, hk175, h⟩ := h
 refine wc_cut (fun env' st' => ∃ (t174 : Bool), k175 t174 = some r ∧ Sub [(2, .d (.pc (R135 t0))), (3, .d (.pc (R45 x1))), (14, .d (D.i .u8 x1.op)), (24, .d (D.b t174))] env' ∧ SLe st' []) ?_ ?_
 refine Zr (Zq (y_eql q q) q (Za q q (Zn (wc_cond q (fun hc4 => ?_) (fun hc4 => ?_)))))
 replace h := condT h hc4
 exact wc_skip (we_lp ⟨(decide (x1.op = 5)), h, (Sx q (Sx q (Sx q (Sx q (Sub.nil _))))), Zt⟩)
 replace h := condF h hc4
 exact wc_region (Zq (y_eql q q) q (Za q q (WL.nil (we_lp ⟨(decide (x1.op = 6)), h, (Sx q (Sx q (Sx q (Sx q (Sub.nil _))))), Zt⟩))))
 rintro env1 st1 ⟨t174, h, hsub, hst⟩
 subst hk175
 dsimp only at h
 refine WC.sub hsub (WC.weak hst ?_)
 refine wc_cond q (fun hc5 => ?_) (fun hc5 => ?_)
 replace h := condT h hc5
 refine Zr (Zq (y_loadcN q a135 s135 q) q (Zq (y_fieldAddrc f45_4 q) q (Zq (y_loadc q a2 q) q (Zq (y_fieldAddrc f45_5 q) q (Zq (y_loadc q a2 q) q (Zq (y_fieldAddrc f45_3 q) q (Zq (y_loadc q a3 q) q ?_)))))))
 obtain ⟨r176, hr176, h⟩ := bindS h
 refine WL.fn q q q q (f111_c _ _ _ _ hr176) ⟨Zl, Zl, Zl, Zl, Zt⟩ (Zw q) q q (Za q q (Zn (wc_ret (we_blk_ret (we_seq_ret ?_)))))
 obtain rfl := Oi h
 exact we_ret_fn (rs1 q (rv_t q)) Zl
 replace h := condF h hc5
 replace h := letkS h
 obtain ⟨k178, hk178, h⟩ := h
 refine wc_cut (fun env' st' => ∃ (t177 : Bool), k178 t177 = some r ∧ Sub [(2, .d (.pc (R135 t0))), (3, .d (.pc (R45 x1))), (14, .d (D.i .u8 x1.op)), (35, .d (D.b t177))] env' ∧ SLe st' []) ?_ ?_
 refine Zr (Zq (y_eql q q) q (Za q q (Zn (wc_cond q (fun hc6 => ?_) (fun hc6 => ?_)))))
 replace h := condT h hc6
 exact wc_skip (we_lp ⟨(decide (x1.op = 29)), h, (Sx q (Sx q (Sx q (Sx q (Sub.nil _))))), Zt⟩)
 replace h := condF h hc6
 refine Zr (Zq (y_eql q q) q (Za q q (Zn (wc_cond q (fun hc7 => ?_) (fun hc7 => ?_)))))
 replace h := condT h hc7
 exact wc_skip (we_lp ⟨(decide (x1.op = 30)), h, (Sx q (Sx q (Sx q (Sx q (Sub.nil _))))), Zt⟩)
 replace h := condF h hc7
 exact wc_region (Zq (y_eql q q) q (Za q q (WL.nil (we_lp ⟨(decide (x1.op = 31)), h, (Sx q (Sx q (Sx q (Sx q (Sub.nil _))))), Zt⟩))))
 rintro env1 st1 ⟨t177, h, hsub, hst⟩
 subst hk178
 dsimp only at h
 refine WC.sub hsub (WC.weak hst ?_)
 refine wc_cond q (fun hc8 => ?_) (fun hc8 => ?_)
 replace h := condT h hc8
 refine Zr (Zq (y_loadcN q a135 s135 q) q (Zq (y_fieldAddrc f45_6 q) q (Zq (y_loadc q a3 q) q (WL.fn q q q q (f112_c _ _) ⟨Zl, Zl, Zt⟩ (Zw q) q q (Za q q (Zn (wc_ret (we_blk_ret (we_seq_ret ?_)))))))))
 obtain rfl := Oi h
 exact we_ret_fn (rs1 q (rv_t q)) Zl
 replace h := condF h hc8
 refine Zr (Zq (y_eql q q) q (Za q q (Zn (wc_cond q (fun hc9 => ?_) (fun hc9 => ?_)))))
 replace h := condT h hc9
 refine Zr (Zq (y_fieldAddrc f45_6 q) q (Zq (y_loadc q a3 q) q (Zq (y_fieldAddrc f45_5 q) q (Zq (y_loadc q a2 q) q (Zq (y_add q q q) q (Za q q (Zn (Zr (Zm q q (Zq (y_fieldAddrc f135_0 q) q (Zq (y_fieldAddrc f38_0 q) q (Zq (y_loadc q a23 q) q (Zq (y_len_map E45 t0.text.insns e23 q q Zl) q (Zq (y_leq q q) q (Zm q q ?_)))))))))))))))
 obtain ⟨b179, hb179, h⟩ := bindS h
 apply WL.grp 10 (t := 56) (d := 66) (z := b179)
 exact q
 intro hg56
 have h := condT hb179 hg56
 refine Zy (y_fieldAddrc f135_0 q) q q q (Zy (y_fieldAddrc f38_0 q) q q q (Zy (y_loadc q a23 q) q q q (Zy (y_fieldAddrc f45_6 q) q q q (Zy (y_loadc q a3 q) q q q (Zy (y_move q) q q q ?_)))))
 replace h := guardBS h
 obtain ⟨hgg180, h⟩ := h
 refine Zy (y_sliceL E45 t0.text.insns (l := x1.to) (h := (IntKind.i64.wrap (x1.to + x1.m))) e23 q Zl ⟨_, q⟩ ⟨_, q⟩ hgg180 (fun _ => q)) q q q ?_
 obtain ⟨r181, hr181, h⟩ := bindS h
 refine WL.fn q q q q (f76_c _ _ 125 [] [] (fun z0 _ h => by obtain rfl := Option.some.inj h; exact f125_c z0) hr181) ⟨Zl, (Le.fnc Zt Zt), Zt⟩ (Wt.yes q q q) q q (Zy (y_not q) q q q (Zq (y_pick_t q q) q ?_))
 obtain rfl := Oi h
 exact WL.nil ⟨q, [_, _, _, _, _, _, _, _, _, _], q, q, q⟩
 intro hg56
 have h := condF hb179 hg56
 refine WL.skips 9 q (Zq (y_pick_f q q) q ?_)
 obtain rfl := Oi h
 exact WL.nil ⟨q, [_, _, _, _, _, _, _, _, _, _], q, q, q⟩
 refine Za q q (Zn (wc_ret (we_blk_ret (we_seq_ret ?_))))
 obtain rfl := Oi h
 exact we_ret_fn (rs1 q (rv_t q)) Zl
 replace h := condF h hc9
 refine Zr (Zq (y_eql q q) q (Za q q (Zn (wc_cond q (fun hc10 => ?_) (fun hc10 => ?_)))))
 replace h := condT h hc10
 refine Zr (Zq (y_fieldAddrc f45_4 q) q (Zq (y_loadc q a2 q) q (Zq (y_fieldAddrc f135_0 q) q (Zq (y_fieldAddrc f38_7 q) q (Zq (y_loadc q a3 q) q (Zq (y_leq q q) q (Za q q (Zn (wc_ret (we_blk_ret (we_seq_ret ?_)))))))))))
 obtain rfl := Oi h
 exact we_ret_fn (rs1 q (rv_t q)) Zl
 replace h := condF h hc10
 replace h := letkS h
 obtain ⟨k183, hk183, h⟩ := h
 refine wc_cut (fun env' st' => ∃ (t182 : Bool), k183 t182 = some r ∧ Sub [(2, .d (.pc (R135 t0))), (3, .d (.pc (R45 x1))), (14, .d (D.i .u8 x1.op)), (75, .d (D.b t182))] env' ∧ SLe st' []) ?_ ?_
 refine Zr (Zq (y_eql q q) q (Za q q (Zn (wc_cond q (fun hc11 => ?_) (fun hc11 => ?_)))))
 replace h := condT h hc11
 exact wc_skip (we_lp ⟨(decide (x1.op = 44)), h, (Sx q (Sx q (Sx q (Sx q (Sub.nil _))))), Zt⟩)
 replace h := condF h hc11
 refine Zr (Zq (y_eql q q) q (Za q q (Zn (wc_cond q (fun hc12 => ?_) (fun hc12 => ?_)))))
 replace h := condT h hc12
 exact wc_skip (we_lp ⟨(decide (x1.op = 45)), h, (Sx q (Sx q (Sx q (Sx q (Sub.nil _))))), Zt⟩)
 replace h := condF h hc12
 refine Zr (Zq (y_eql q q) q (Za q q (Zn (wc_cond q (fun hc13 => ?_) (fun hc13 => ?_)))))
 replace h := condT h hc13
 exact wc_skip (we_lp ⟨(decide (x1.op = 46)), h, (Sx q (Sx q (Sx q (Sx q (Sub.nil _))))), Zt⟩)
 replace h := condF h hc13
 exact wc_region (Zq (y_eql q q) q (Za q q (WL.nil (we_lp ⟨(decide (x1.op = 56)), h, (Sx q (Sx q (Sx q (Sx q (Sub.nil _))))), Zt⟩))))
 rintro env1 st1 ⟨t182, h, hsub, hst⟩
 subst hk183
 dsimp only at h
 refine WC.sub hsub (WC.weak hst ?_)
 refine wc_cond q (fun hc14 => ?_) (fun hc14 => ?_)
 replace h := condT h hc14
 refine Zr (Zq (y_fieldAddrc f45_4 q) q (Zq (y_loadc q a2 q) q (Zq (y_fieldAddrc f135_0 q) q (Zq (y_fieldAddrc f38_4 q) q (Zq (y_loadc q a32 q) q (Zq (y_len_map E96 t0.text.lists e32 q q Zl) q (Zq (y_lss q q) q (Za q q (Zn (wc_ret (we_blk_ret (we_seq_ret ?_))))))))))))
 obtain rfl := Oi h
 exact we_ret_fn (rs1 q (rv_t q)) Zl
 replace h := condF h hc14
 refine Zr (Zq (y_eql q q) q (Za q q (Zn (wc_cond q (fun hc15 => ?_) (fun hc15 => ?_)))))
 replace h := condT h hc15
 refine Zr (Zq (y_fieldAddrc f45_4 q) q (Zq (y_loadc q a2 q) q (Zq (y_fieldAddrc f135_0 q) q (Zq (y_fieldAddrc f38_3 q) q (Zq (y_loadc q a31 q) q (Zq (y_len_map E155 t0.text.selects e31 q q Zl) q (Zq (y_lss q q) q (Za q q (Zn (wc_ret (we_blk_ret (we_seq_ret ?_))))))))))))
 obtain rfl := Oi h
 exact we_ret_fn (rs1 q (rv_t q)) Zl
 replace h := condF h hc15
 refine Zr (Zq (y_eql q q) q (Za q q (Zn (wc_cond q (fun hc16 => ?_) (fun hc16 => ?_)))))
 replace h := condT h hc16
 refine Zr (Zq (y_loadcN q a135 s135 q) q (Zq (y_fieldAddrc f45_2 q) q (Zq (y_loadc q a3 q) q (Zq (y_fieldAddrc f45_3 q) q (Zq (y_loadc q a3 q) q ?_)))))
 obtain ⟨r184, hr184, h⟩ := bindS h
 refine WL.fn q q q q (f126_c _ _ _ hr184) ⟨Zl, Zl, Zl, Zt⟩ (Zw q) q q (Zm q q (Zq (y_extractd q q) q (Zq (y_extractd q q) q (Za q q (Za q q (Zn (Zr (Zm q q (Zm q q ?_)))))))))
 obtain ⟨b185, hb185, h⟩ := bindS h
 apply WL.grp 6 (t := 108) (d := 114) (z := b185)
 exact q
 intro hg108
 have h := condT hb185 hg108
 refine Zy (y_loadcN q a135 s135 q) q q q (Zy (y_fieldAddrc f45_4 q) q q q (Zy (y_loadc q a2 q) q q q (Zy (y_move q) q q q ?_)))
 obtain ⟨r186, hr186, h⟩ := bindS h
 refine WL.fn q q q q (f111_c _ _ _ _ hr186) ⟨Zl, Zl, Zl, Zl, Zt⟩ (Wt.yes q q q) q q (Zq (y_pick_t q q) q ?_)
 obtain rfl := Oi h
 exact WL.nil ⟨q, [_, _, _, _, _, _], q, q, q⟩
 intro hg108
 have h := condF hb185 hg108
 refine WL.skips 5 q (Zq (y_pick_f q q) q ?_)
 obtain rfl := Oi h
 exact WL.nil ⟨q, [_, _, _, _, _, _], q, q, q⟩
 refine Za q q (Zn (wc_ret (we_blk_ret (we_seq_ret ?_))))
 obtain rfl := Oi h
 exact we_ret_fn (rs1 q (rv_t q)) Zl
 replace h := condF h hc16
 refine Zr (Zq (y_eql q q) q (Za q q (Zn (wc_cond q (fun hc17 => ?_) (fun hc17 => ?_)))))
 replace h := condT h hc17
 refine Zr (Zq (y_loadcN q a135 s135 q) q (Zq (y_fieldAddrc f45_2 q) q (Zq (y_loadc q a3 q) q (Zq (y_fieldAddrc f45_3 q) q (Zq (y_loadc q a3 q) q ?_)))))
 obtain ⟨r187, hr187, h⟩ := bindS h
 refine WL.fn q q q q (f126_c _ _ _ hr187) ⟨Zl, Zl, Zl, Zt⟩ (Zw q) q q (Zm q q (Zq (y_extractd q q) q (Zq (y_extractd q q) q (Za q q (Za q q (Zn (Zr (Zm q q (Zm q q ?_)))))))))
 apply WL.and 8 (t := 127) (d := 135)
 exact q
 intro hg127
 exact Zy (y_fieldAddrc f45_6 q) q q q (Zy (y_loadc q a3 q) q q q (Zy (y_fieldAddrc f135_0 q) q q q (Zy (y_fieldAddrc f38_0 q) q q q (Zy (y_loadc q a23 q) q q q (Zy (y_len_map E45 t0.text.insns e23 q q Zl) q q q (Zy (y_lss q q) q q q (Zq (y_pick_t q q) q (WL.nil ⟨q, [_, _, _, _, _, _, _, _], q, q, q⟩))))))))
 exact WL.skips 7 q (Zq (y_pick_f q q) q (WL.nil ⟨q, [_, _, _, _, _, _, _, _], q, q, q⟩))
 refine Za q q (Zn (wc_ret (we_blk_ret (we_seq_ret ?_))))
 obtain rfl := Oi h
 exact we_ret_fn (rs1 q (rv_t q)) Zl
 replace h := condF h hc17
 replace h := letkS h
 obtain ⟨k189, hk189, h⟩ := h
 refine wc_cut (fun env' st' => ∃ (t188 : Bool), k189 t188 = some r ∧ Sub [(2, .d (.pc (R135 t0))), (3, .d (.pc (R45 x1))), (14, .d (D.i .u8 x1.op)), (136, .d (D.b t188))] env' ∧ SLe st' []) ?_ ?_
 refine Zr (Zq (y_eql q q) q (Za q q (Zn (wc_cond q (fun hc18 => ?_) (fun hc18 => ?_)))))
 replace h := condT h hc18
 exact wc_skip (we_lp ⟨(decide (x1.op = 53)), h, (Sx q (Sx q (Sx q (Sx q (Sub.nil _))))), Zt⟩)
 replace h := condF h hc18
 exact wc_region (Zq (y_eql q q) q (Za q q (WL.nil (we_lp ⟨(decide (x1.op = 55)), h, (Sx q (Sx q (Sx q (Sx q (Sub.nil _))))), Zt⟩))))
 rintro env1 st1 ⟨t188, h, hsub, hst⟩
 subst hk189
 dsimp only at h
 refine WC.sub hsub (WC.weak hst ?_)
 refine wc_cond q (fun hc19 => ?_) (fun hc19 => ?_)
 replace h := condT h hc19
 refine Zr (Zq (y_fieldAddrc f45_4 q) q (Zq (y_loadc q a2 q) q (Zq (y_fieldAddrc f135_0 q) q (Zq (y_fieldAddrc f38_9 q) q (Zq (y_loadc q a35 q) q (Zq (y_len_map E164 t0.text.prots e35 q q Zl) q (Zq (y_lss q q) q (Za q q (Zn (wc_ret (we_blk_ret (we_seq_ret ?_))))))))))))
 obtain rfl := Oi h
 exact we_ret_fn (rs1 q (rv_t q)) Zl
 replace h := condF h hc19
 refine Zr (Zq (y_eql q q) q (Za q q (Zn (wc_cond q (fun hc20 => ?_) (fun hc20 => ?_)))))
 replace h := condT h hc20
 refine Zr (Zq (y_loadcN q a135 s135 q) q (Zq (y_fieldAddrc f45_4 q) q (Zq (y_loadc q a2 q) q (Zq (y_fieldAddrc f45_5 q) q (Zq (y_loadc q a2 q) q ?_)))))
 obtain ⟨r190, hr190, h⟩ := bindS h
 refine WL.fn q q q q (f127_c _ _ _ hr190) ⟨Zl, Zl, Zl, Zt⟩ (Zw q) q q (Za q q (Zn (wc_ret (we_blk_ret (we_seq_ret ?_)))))
 obtain rfl := Oi h
 exact we_ret_fn (rs1 q (rv_t q)) Zl
 replace h := condF h hc20
 refine Zr (Zq (y_eql q q) q (Za q q (Zn (wc_cond q (fun hc21 => ?_) (fun hc21 => ?_)))))
 replace h := condT h hc21
 refine Zr (Zq (y_fieldAddrc f45_5 q) q (Zq (y_loadc q a2 q) q (Zq (y_lss q q) q (Zm q q ?_))))
 obtain ⟨b191, hb191, h⟩ := bindS h
 apply WL.grp 7 (t := 159) (d := 166) (z := b191)
 exact q
 intro hg159
 have h := condT hb191 hg159
 refine WL.skips 6 q (Zq (y_pick_t q q) q ?_)
 obtain rfl := Oi h
 exact WL.nil ⟨q, [_, _, _, _, _, _, _], q, q, q⟩
 intro hg159
 have h := condF hb191 hg159
 refine Zy (y_loadcN q a135 s135 q) q q q (Zy (y_fieldAddrc f45_5 q) q q q (Zy (y_loadc q a2 q) q q q (Zy (y_fieldAddrc f45_4 q) q q q (Zy (y_loadc q a2 q) q q q ?_))))
 obtain ⟨r192, hr192, h⟩ := bindS h
 refine WL.fn q q q q (f127_c _ _ _ hr192) ⟨Zl, Zl, Zl, Zt⟩ (Wt.yes q q q) q q (Zq (y_pick_f q q) q ?_)
 obtain rfl := Oi h
 exact WL.nil ⟨q, [_, _, _, _, _, _, _], q, q, q⟩
 refine Za q q (Zn (wc_ret (we_blk_ret (we_seq_ret ?_))))
 obtain rfl := Oi h
 exact we_ret_fn (rs1 q (rv_t q)) Zl
 replace h := condF h hc21
 refine wc_skip (we_blk (we_seq (Zr (Za q q (Zn (wc_ret ?_))))))
 obtain rfl := Oi h
 exact we_ret_fn (rs1 q (rv_t q)) Zl

end Go.Proofs.YtkbahggepncliaaGreatDoor
