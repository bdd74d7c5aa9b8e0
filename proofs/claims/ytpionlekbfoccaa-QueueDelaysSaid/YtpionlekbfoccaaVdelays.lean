/- The walks of functions that this law reaches. -/
import Derived.Test.YtpionlekbfoccaaProg
import Derived.KernelRfl
import Derived.Test.YtpionlekbfoccaaWc
set_option maxHeartbeats 4000000
set_option maxRecDepth 100000
namespace Go.Proofs.Ytpionlekbfoccaa
open Go Go.Sk

theorem a41 : aggOf Try.prog 41 = some false := by kernel_rfl
theorem e37 : elemOf' Try.prog 37 = some (1, false) := by kernel_rfl
theorem f4_c (times0 : List Int) (cancelled1 : Int) (steps2 : List Int) {r : Bool} (h : f4 times0 cancelled1 steps2 = some r) : Pu Try.prog 4 [.sl (List.map E41 times0), .i .u32 cancelled1, .sl (List.map E41 steps2)] (.b r) := by
 unfold f4 at h
 refine fn_intro Try.func4 (by kernel_rfl) rfl rfl rfl (fun φφ ww => ?_)
 refine wc_sr ?_
 refine WL.as rfl rfl ?_
 refine WL.ns ?_
 refine wc_seq ?_
 refine wc_sr ?_
 refine WL.mv rfl rfl ?_
 refine WL.qn (y_len_map E41 times0 e37 rfl rfl (Le.refl _)) rfl ?_
 refine WL.qn (y_gtr rfl rfl) rfl ?_
 refine WL.mv rfl rfl ?_
 apply WL.or 4 (t := 27) (d := 31)
 ·exact rfl
 ·intro hg27
  refine WL.qy (y_move rfl) rfl rfl rfl ?_
  refine WL.qy (y_len_map E41 steps2 e37 rfl rfl (Le.refl _)) rfl rfl rfl ?_
  refine WL.qy (y_gtr rfl rfl) rfl rfl rfl ?_
  refine WL.qn (y_pick_f rfl rfl) rfl ?_
  exact WL.nil ⟨rfl, [_, _, _, _], rfl, rfl, rfl⟩
 ·refine WL.skips 3 rfl ?_
  refine WL.qn (y_pick_t rfl rfl) rfl ?_
  exact WL.nil ⟨rfl, [_, _, _, _], rfl, rfl, rfl⟩
 refine WL.ns ?_
 refine wc_cond rfl (fun hc1 => ?_) (fun hc1 => ?_)
 ·replace h := condT h hc1
  refine wc_sr ?_
  obtain ⟨r218, hr218, h⟩ := bindS h
  refine WL.fn rfl rfl rfl rfl (f11_c hr218) trivial (Wt.none rfl) rfl rfl ?_
  refine WL.as rfl rfl ?_
  refine WL.ns ?_
  refine wc_ret ?_
  refine we_seq_ret ?_
  obtain rfl := Option.some.inj h
  exact we_ret_fn (rs1 rfl (rv_t rfl)) (Le.refl _)
 ·replace h := condF h hc1
  refine wc_skip ?_
  refine we_seq ?_
  refine wc_sr ?_
  refine WL.fn rfl rfl rfl rfl (f16_c) trivial (Wt.none rfl) rfl rfl ?_
  refine WL.s ((b_alloc z26).does) (Wt.none rfl) rfl rfl ?_
  refine WL.s0 (d_store rfl rfl rfl rfl rfl rfl s26 rfl rfl) (Wt.none rfl) rfl ?_
  refine WL.st (st' := [.row 26 (vecA 32 (fun j => .d (.sl (List.map E3 (f16.ready j)))) ++ ([.d (.sl (List.map E62 f16.delays)), .d (D.i .i64 f16.run)] : List AV))]) rfl ?_
  refine WL.ns ?_
  refine wc_sr ?_
  refine WL.as rfl rfl ?_
  refine WL.ns ?_
  replace h := letkS h
  obtain ⟨k222, hk222, h⟩ := h
  refine wc_cut (fun env' st' => ∃ (c00219 : Nat → (List Int)), ∃ (c032220 : List Due), ∃ (c033221 : Int), k222 c00219 c032220 c033221 = some r ∧ Sub [(0, .d (.sl (List.map E41 times0))), (1, .d (D.i .u32 cancelled1)), (2, .d (.sl (List.map E41 steps2))), (7, .pt 0 0)] env' ∧ SLe st' [.row 26 (vecA 32 (fun j => .d (.sl (List.map E3 (c00219 j)))) ++ ([.d (.sl (List.map E62 c032220)), .d (D.i .i64 c033221)] : List AV))]) ?_ ?_
  ·refine wc_sr ?_
   refine WL.as rfl rfl ?_
   refine WL.ns ?_
   refine wc_block ?_
   refine wc_loop (fun n env' st' => ∃ (iq227 : Int), ∃ (c00228 : Nat → (List Int)), ∃ (c032229 : List Due), ∃ (c033230 : Int), f4_l1 times0 k222 n iq227 c00228 c032229 c033230 = some r ∧ Sub [(0, .d (.sl (List.map E41 times0))), (1, .d (D.i .u32 cancelled1)), (2, .d (.sl (List.map E41 steps2))), (7, .pt 0 0), (9, .d (D.i .i64 iq227))] env' ∧ SLe st' [.row 26 (vecA 32 (fun j => .d (.sl (List.map E3 (c00228 j)))) ++ ([.d (.sl (List.map E62 c032229)), .d (D.i .i64 c033230)] : List AV))]) (fun n => n) 9223372036854775808 ⟨0, f16.ready, f16.delays, f16.run, h, (Sub.cons rfl (Le.refl _) (Sub.cons rfl (Le.refl _) (Sub.cons rfl (Le.refl _) (Sub.cons rfl (Le.refl _) (Sub.cons rfl (Le.refl _) (Sub.nil _)))))), ⟨⟨rfl, Les.refl _⟩, trivial⟩⟩ ?_
   rintro n env1 st1 ⟨iq227, c00228, c032229, c033230, h, hsub, hst⟩
   cases n with
   | zero => rw [f4_l1] at h; cases h
   | succ n =>
   rw [f4_l1] at h
   refine WC.sub hsub (WC.weak hst ?_)
   refine wc_seq ?_
   refine wc_sr ?_
   refine WL.mv rfl rfl ?_
   refine WL.mv rfl rfl ?_
   refine WL.qn (y_len_map E41 times0 e37 rfl rfl (Le.refl _)) rfl ?_
   refine WL.qn (y_lss rfl rfl) rfl ?_
   refine WL.ns ?_
   refine wc_cond rfl (fun hc2 => ?_) (fun hc2 => ?_)
   ·replace h := condT h hc2
    refine wc_skip ?_
    refine we_seq ?_
    refine wc_seq ?_
    refine wc_block ?_
    refine wc_seq ?_
    obtain ⟨x235, hx235, h⟩ := bindS h
    obtain ⟨r236, hr236, h⟩ := bindS h
    apply wc_region_all [_, _, _, _, _, _, _, _, _, _, _, .u, _] [[], [], [], [1, 2], [1, 2, 3], [1, 2, 3, 4], [], [0, 1, 2, 3, 4, 5, 6], [0, 1, 2, 3, 4, 5, 6, 7], [0, 1, 2, 3, 4, 5, 6, 7, 8], [0, 1, 2, 3, 4, 5, 6, 7, 8], [0, 1, 2, 3, 4, 5, 6, 7, 8, 9], [0, 1, 2, 3, 4, 5, 6, 7, 8, 9, 10, 11]] [11] (fun c => List.getD [[.row 26 (vecA 32 (fun j => .d (.sl (List.map E3 (c00228 j)))) ++ ([.d (.sl (List.map E62 c032229)), .d (D.i .i64 c033230)] : List AV))], [.row 26 (vecA 32 (fun j => .d (.sl (List.map E3 (r236.1.ready j)))) ++ ([.d (.sl (List.map E62 r236.1.delays)), .d (D.i .i64 r236.1.run)] : List AV))]] c []) [([], [7], [0]), ([], [0], [0]), ([], [9], [0]), ([1, 2], [], [0]), ([3], [], [0]), ([4], [], [0]), ([], [9], [0]), ([0, 5, 6], [], [0]), ([7], [], [0]), ([8], [], [0]), ([8], [], [0, 1]), ([9], [7], [0]), ([10], [], [1])] (by kernel_rfl) (by kernel_rfl) rfl rfl rfl
    ·refine ⟨?_, ?_, ?_, ?_, ?_, ?_, ?_, ?_, ?_, ?_, ?_, ?_, ?_, trivial⟩
     ·refine ⟨fun F => ?_, trivial⟩
      refine WL.qn (y_loadN rfl rfl a26 s26 rfl) rfl ?_
      exact WL.done1 rfl rfl rfl
     ·refine ⟨fun F => ?_, trivial⟩
      refine WL.mv rfl rfl ?_
      exact WL.done1 rfl rfl rfl
     ·refine ⟨fun F => ?_, trivial⟩
      refine WL.mv rfl rfl ?_
      exact WL.done1 rfl rfl rfl
     ·refine ⟨fun F => ?_, trivial⟩
      refine WL.qn (y_indexAddr e37 rfl (Le.refl _) rfl (idx_nonneg hx235) (idx_row E41_eq hx235) rfl) rfl ?_
      exact WL.done1 rfl rfl rfl
     ·refine ⟨fun F => ?_, trivial⟩
      refine WL.qn (y_loadc rfl a41 rfl) rfl ?_
      exact WL.done1 rfl rfl rfl
     ·refine ⟨fun F => ?_, trivial⟩
      refine WL.qn (y_conv Try.underlying41 Try.underlying2 rfl rfl) rfl ?_
      exact WL.done1 rfl rfl rfl
     ·refine ⟨fun F => ?_, trivial⟩
      refine WL.mv rfl rfl ?_
      exact WL.done1 rfl rfl rfl
     ·refine ⟨fun F => ?_, trivial⟩
      refine WL.fn rfl rfl rfl rfl (f17_c _ _ _ hr236) ⟨(Le.agd ⟨(Le.refl _), (Le.refl _), (Le.refl _), (Le.refl _), (Le.refl _), (Le.refl _), (Le.refl _), (Le.refl _), (Le.refl _), (Le.refl _), (Le.refl _), (Le.refl _), (Le.refl _), (Le.refl _), (Le.refl _), (Le.refl _), (Le.refl _), (Le.refl _), (Le.refl _), (Le.refl _), (Le.refl _), (Le.refl _), (Le.refl _), (Le.refl _), (Le.refl _), (Le.refl _), (Le.refl _), (Le.refl _), (Le.refl _), (Le.refl _), (Le.refl _), (Le.refl _), (Le.refl _), (Le.refl _), trivial⟩), (Le.refl _), (Le.refl _), trivial⟩ (Wt.none rfl) rfl rfl ?_
      exact WL.done1 rfl rfl rfl
     ·refine ⟨fun F => ?_, trivial⟩
      refine WL.mv rfl rfl ?_
      exact WL.done1 rfl rfl rfl
     ·refine ⟨fun F => ?_, trivial⟩
      refine WL.qn (y_extractd rfl rfl) rfl ?_
      exact WL.done1 rfl rfl rfl
     ·refine ⟨fun F => ?_, fun F => ?_, trivial⟩
      ·refine WL.qn (y_extractd rfl rfl) rfl ?_
       exact WL.done1 rfl rfl rfl
      ·refine WL.qn (y_extractd rfl rfl) rfl ?_
       exact WL.done1 rfl rfl rfl
     ·refine ⟨fun F => ?_, trivial⟩
      refine WL.s0 (d_store rfl rfl rfl rfl rfl rfl s26 rfl rfl) (Wt.none rfl) rfl ?_
      exact WL.done0 rfl rfl
     ·refine ⟨fun F => ?_, trivial⟩
      refine WL.as rfl rfl ?_
      exact WL.done1 rfl rfl rfl
    ·refine we_seq ?_
     refine wc_sr ?_
     refine WL.mv rfl rfl ?_
     refine WL.qn (y_neq rfl rfl) rfl ?_
     refine WL.ns ?_
     refine wc_cond rfl (fun hc3 => ?_) (fun hc3 => ?_)
     ·replace h := condT h hc3
      refine wc_sr ?_
      refine WL.as rfl rfl ?_
      refine WL.ns ?_
      refine wc_ret ?_
      refine we_blk_ret ?_
      refine we_seq_ret ?_
      refine we_lp_ret ?_
      refine we_blk_ret ?_
      refine we_lp_ret ?_
      obtain rfl := Option.some.inj h
      exact we_ret_fn (rs1 rfl (rv_t rfl)) (Le.refl _)
     ·replace h := condF h hc3
      refine wc_skip ?_
      refine we_blk ?_
      refine we_seq ?_
      refine wc_region ?_
      refine WL.mv rfl rfl ?_
      refine WL.qn (y_add rfl rfl rfl) rfl ?_
      refine WL.as rfl rfl ?_
      refine WL.nil ?_
      exact we_lp ⟨n, ⟨(IntKind.i64.wrap (iq227 + 1)), r236.1.ready, r236.1.delays, r236.1.run, h, (Sub.cons rfl (Le.refl _) (Sub.cons rfl (Le.refl _) (Sub.cons rfl (Le.refl _) (Sub.cons rfl (Le.refl _) (Sub.cons rfl (Le.refl _) (Sub.nil _)))))), ⟨⟨rfl, Les.refl _⟩, trivial⟩⟩, Nat.lt_succ_self n⟩
   ·replace h := condF h hc2
    refine wc_exit ?_
    refine we_seq_exit ?_
    refine we_lp_exit ?_
    refine we_blk_hit ?_
    exact we_lp ⟨c00228, c032229, c033230, h, (Sub.cons rfl (Le.refl _) (Sub.cons rfl (Le.refl _) (Sub.cons rfl (Le.refl _) (Sub.cons rfl (Le.refl _) (Sub.nil _))))), ⟨⟨rfl, Les.refl _⟩, trivial⟩⟩
  ·rintro env1 st1 ⟨c00219, c032220, c033221, h, hsub, hst⟩
   subst hk222
   dsimp only at h
   refine WC.sub hsub (WC.weak hst ?_)
   refine wc_sr ?_
   refine WL.mv rfl rfl ?_
   refine WL.qn (y_len_map E41 times0 e37 rfl rfl (Le.refl _)) rfl ?_
   refine WL.as rfl rfl ?_
   refine WL.ns ?_
   replace h := letkS h
   obtain ⟨k241, hk241, h⟩ := h
   refine wc_cut (fun env' st' => ∃ (left237 : Int), ∃ (c00238 : Nat → (List Int)), ∃ (c032239 : List Due), ∃ (c033240 : Int), k241 left237 c00238 c032239 c033240 = some r ∧ Sub [(0, .d (.sl (List.map E41 times0))), (1, .d (D.i .u32 cancelled1)), (2, .d (.sl (List.map E41 steps2))), (7, .pt 0 0), (10, .d (D.i .i64 left237))] env' ∧ SLe st' [.row 26 (vecA 32 (fun j => .d (.sl (List.map E3 (c00238 j)))) ++ ([.d (.sl (List.map E62 c032239)), .d (D.i .i64 c033240)] : List AV))]) ?_ ?_
   ·refine wc_sr ?_
    refine WL.as rfl rfl ?_
    refine WL.ns ?_
    refine wc_block ?_
    refine wc_loop (fun n env' st' => ∃ (left247 : Int), ∃ (iq248 : Int), ∃ (c00249 : Nat → (List Int)), ∃ (c032250 : List Due), ∃ (c033251 : Int), f4_l2 times0 cancelled1 k241 n left247 iq248 c00249 c032250 c033251 = some r ∧ Sub [(0, .d (.sl (List.map E41 times0))), (1, .d (D.i .u32 cancelled1)), (2, .d (.sl (List.map E41 steps2))), (7, .pt 0 0), (10, .d (D.i .i64 left247)), (11, .d (D.i .i64 iq248))] env' ∧ SLe st' [.row 26 (vecA 32 (fun j => .d (.sl (List.map E3 (c00249 j)))) ++ ([.d (.sl (List.map E62 c032250)), .d (D.i .i64 c033251)] : List AV))]) (fun n => n) 9223372036854775808 ⟨(List.length times0 : Int), 0, c00219, c032220, c033221, h, (Sub.cons rfl (Le.refl _) (Sub.cons rfl (Le.refl _) (Sub.cons rfl (Le.refl _) (Sub.cons rfl (Le.refl _) (Sub.cons rfl (Le.refl _) (Sub.cons rfl (Le.refl _) (Sub.nil _))))))), ⟨⟨rfl, Les.refl _⟩, trivial⟩⟩ ?_
    rintro n env1 st1 ⟨left247, iq248, c00249, c032250, c033251, h, hsub, hst⟩
    cases n with
    | zero => rw [f4_l2] at h; cases h
    | succ n =>
    rw [f4_l2] at h
    refine WC.sub hsub (WC.weak hst ?_)
    refine wc_seq ?_
    refine wc_sr ?_
    refine WL.mv rfl rfl ?_
    refine WL.mv rfl rfl ?_
    refine WL.qn (y_len_map E41 times0 e37 rfl rfl (Le.refl _)) rfl ?_
    refine WL.qn (y_lss rfl rfl) rfl ?_
    refine WL.ns ?_
    refine wc_cond rfl (fun hc4 => ?_) (fun hc4 => ?_)
    ·replace h := condT h hc4
     refine wc_skip ?_
     refine we_seq ?_
     replace h := letkS h
     obtain ⟨k261, hk261, h⟩ := h
     refine wc_cut (fun env' st' => ∃ (left257 : Int), ∃ (c00258 : Nat → (List Int)), ∃ (c032259 : List Due), ∃ (c033260 : Int), k261 left257 c00258 c032259 c033260 = some r ∧ Sub [(0, .d (.sl (List.map E41 times0))), (1, .d (D.i .u32 cancelled1)), (2, .d (.sl (List.map E41 steps2))), (7, .pt 0 0), (10, .d (D.i .i64 left257)), (11, .d (D.i .i64 iq248))] env' ∧ SLe st' [.row 26 (vecA 32 (fun j => .d (.sl (List.map E3 (c00258 j)))) ++ ([.d (.sl (List.map E62 c032259)), .d (D.i .i64 c033260)] : List AV))]) ?_ ?_
     ·refine wc_block ?_
      refine wc_sr ?_
      refine WL.mv rfl rfl ?_
      refine WL.mv rfl rfl ?_
      refine WL.qn (y_conv Try.underlying3 Try.underlying42 rfl rfl) rfl ?_
      replace h := guardBS h
      obtain ⟨hgg262, h⟩ := h
      refine WL.qn (y_shr rfl rfl (shc_ge hgg262)) rfl ?_
      refine WL.qn (y_and rfl rfl rfl) rfl ?_
      refine WL.qn (y_eql rfl rfl) rfl ?_
      refine WL.ns ?_
      refine wc_cond rfl (fun hc5 => ?_) (fun hc5 => ?_)
      ·replace h := condT h hc5
       refine wc_seq ?_
       refine wc_sr ?_
       refine WL.qn (y_loadN rfl rfl a26 s26 rfl) rfl ?_
       refine WL.mv rfl rfl ?_
       obtain ⟨r263, hr263, h⟩ := bindS h
       refine WL.fn rfl rfl rfl rfl (f18_c _ _ hr263) ⟨(Le.agd ⟨(Le.refl _), (Le.refl _), (Le.refl _), (Le.refl _), (Le.refl _), (Le.refl _), (Le.refl _), (Le.refl _), (Le.refl _), (Le.refl _), (Le.refl _), (Le.refl _), (Le.refl _), (Le.refl _), (Le.refl _), (Le.refl _), (Le.refl _), (Le.refl _), (Le.refl _), (Le.refl _), (Le.refl _), (Le.refl _), (Le.refl _), (Le.refl _), (Le.refl _), (Le.refl _), (Le.refl _), (Le.refl _), (Le.refl _), (Le.refl _), (Le.refl _), (Le.refl _), (Le.refl _), (Le.refl _), trivial⟩), (Le.refl _), trivial⟩ (Wt.none rfl) rfl rfl ?_
       refine WL.mv rfl rfl ?_
       refine WL.qn (y_extractd rfl rfl) rfl ?_
       refine WL.qn (y_extractd rfl rfl) rfl ?_
       refine WL.s0 (d_store rfl rfl rfl rfl rfl rfl s26 rfl rfl) (Wt.none rfl) rfl ?_
       refine WL.st (st' := [.row 26 (vecA 32 (fun j => .d (.sl (List.map E3 (r263.1.ready j)))) ++ ([.d (.sl (List.map E62 r263.1.delays)), .d (D.i .i64 r263.1.run)] : List AV))]) rfl ?_
       refine WL.as rfl rfl ?_
       refine WL.ns ?_
       refine wc_sr ?_
       refine WL.mv rfl rfl ?_
       refine WL.qn (y_neq rfl rfl) rfl ?_
       refine WL.ns ?_
       refine wc_cond rfl (fun hc6 => ?_) (fun hc6 => ?_)
       ·replace h := condT h hc6
        refine wc_sr ?_
        refine WL.as rfl rfl ?_
        refine WL.ns ?_
        refine wc_ret ?_
        refine we_seq_ret ?_
        refine we_blk_ret ?_
        refine we_lp_ret ?_
        refine we_lp_ret ?_
        refine we_blk_ret ?_
        refine we_lp_ret ?_
        obtain rfl := Option.some.inj h
        exact we_ret_fn (rs1 rfl (rv_t rfl)) (Le.refl _)
       ·replace h := condF h hc6
        refine wc_skip ?_
        refine we_seq ?_
        refine wc_region ?_
        refine WL.mv rfl rfl ?_
        refine WL.qn (y_sub rfl rfl rfl) rfl ?_
        refine WL.as rfl rfl ?_
        refine WL.nil ?_
        refine we_blk ?_
        exact we_lp ⟨(IntKind.i64.wrap (left247 - 1)), r263.1.ready, r263.1.delays, r263.1.run, h, (Sub.cons rfl (Le.refl _) (Sub.cons rfl (Le.refl _) (Sub.cons rfl (Le.refl _) (Sub.cons rfl (Le.refl _) (Sub.cons rfl (Le.refl _) (Sub.cons rfl (Le.refl _) (Sub.nil _))))))), ⟨⟨rfl, Les.refl _⟩, trivial⟩⟩
      ·replace h := condF h hc5
       refine wc_skip ?_
       refine we_blk ?_
       exact we_lp ⟨left247, c00249, c032250, c033251, h, (Sub.cons rfl (Le.refl _) (Sub.cons rfl (Le.refl _) (Sub.cons rfl (Le.refl _) (Sub.cons rfl (Le.refl _) (Sub.cons rfl (Le.refl _) (Sub.cons rfl (Le.refl _) (Sub.nil _))))))), ⟨⟨rfl, Les.refl _⟩, trivial⟩⟩
     ·rintro env1 st1 ⟨left257, c00258, c032259, c033260, h, hsub, hst⟩
      subst hk261
      dsimp only at h
      refine WC.sub hsub (WC.weak hst ?_)
      refine wc_region ?_
      refine WL.mv rfl rfl ?_
      refine WL.qn (y_add rfl rfl rfl) rfl ?_
      refine WL.as rfl rfl ?_
      refine WL.nil ?_
      exact we_lp ⟨n, ⟨left257, (IntKind.i64.wrap (iq248 + 1)), c00258, c032259, c033260, h, (Sub.cons rfl (Le.refl _) (Sub.cons rfl (Le.refl _) (Sub.cons rfl (Le.refl _) (Sub.cons rfl (Le.refl _) (Sub.cons rfl (Le.refl _) (Sub.cons rfl (Le.refl _) (Sub.nil _))))))), ⟨⟨rfl, Les.refl _⟩, trivial⟩⟩, Nat.lt_succ_self n⟩
    ·replace h := condF h hc4
     refine wc_exit ?_
     refine we_seq_exit ?_
     refine we_lp_exit ?_
     refine we_blk_hit ?_
     exact we_lp ⟨left247, c00249, c032250, c033251, h, (Sub.cons rfl (Le.refl _) (Sub.cons rfl (Le.refl _) (Sub.cons rfl (Le.refl _) (Sub.cons rfl (Le.refl _) (Sub.cons rfl (Le.refl _) (Sub.nil _)))))), ⟨⟨rfl, Les.refl _⟩, trivial⟩⟩
   ·rintro env1 st1 ⟨left237, c00238, c032239, c033240, h, hsub, hst⟩
    subst hk241
    dsimp only at h
    refine WC.sub hsub (WC.weak hst ?_)
    refine wc_sr ?_
    refine WL.as rfl rfl ?_
    refine WL.as rfl rfl ?_
    refine WL.as rfl rfl ?_
    refine WL.ns ?_
    replace h := letkS h
    obtain ⟨k268, hk268, h⟩ := h
    refine wc_cut (fun env' st' => ∃ (left264 : Int), ∃ (c00265 : Nat → (List Int)), ∃ (c032266 : List Due), ∃ (c033267 : Int), k268 left264 c00265 c032266 c033267 = some r ∧ Sub [(10, .d (D.i .i64 left264))] env' ∧ SLe st' [.row 26 (vecA 32 (fun j => .d (.sl (List.map E3 (c00265 j)))) ++ ([.d (.sl (List.map E62 c032266)), .d (D.i .i64 c033267)] : List AV))]) ?_ ?_
    ·refine wc_sr ?_
     refine WL.as rfl rfl ?_
     refine WL.ns ?_
     refine wc_block ?_
     refine wc_loop (fun n env' st' => ∃ (left277 : Int), ∃ (now278 : Int), ∃ (before279 : Int), ∃ (seen280 : Int), ∃ (iq281 : Int), ∃ (c00282 : Nat → (List Int)), ∃ (c032283 : List Due), ∃ (c033284 : Int), f4_l3 times0 cancelled1 steps2 k268 n left277 now278 before279 seen280 iq281 c00282 c032283 c033284 = some r ∧ Sub [(0, .d (.sl (List.map E41 times0))), (1, .d (D.i .u32 cancelled1)), (2, .d (.sl (List.map E41 steps2))), (7, .pt 0 0), (10, .d (D.i .i64 left277)), (12, .d (D.i .i64 now278)), (13, .d (D.i .i64 before279)), (14, .d (D.i .i64 seen280)), (15, .d (D.i .i64 iq281))] env' ∧ SLe st' [.row 26 (vecA 32 (fun j => .d (.sl (List.map E3 (c00282 j)))) ++ ([.d (.sl (List.map E62 c032283)), .d (D.i .i64 c033284)] : List AV))]) (fun n => n) 9223372036854775808 ⟨left237, 0, (-1), (-1), 0, c00238, c032239, c033240, h, (Sub.cons rfl (Le.refl _) (Sub.cons rfl (Le.refl _) (Sub.cons rfl (Le.refl _) (Sub.cons rfl (Le.refl _) (Sub.cons rfl (Le.refl _) (Sub.cons rfl (Le.refl _) (Sub.cons rfl (Le.refl _) (Sub.cons rfl (Le.refl _) (Sub.cons rfl (Le.refl _) (Sub.nil _)))))))))), ⟨⟨rfl, Les.refl _⟩, trivial⟩⟩ ?_
     rintro n env1 st1 ⟨left277, now278, before279, seen280, iq281, c00282, c032283, c033284, h, hsub, hst⟩
     cases n with
     | zero => rw [f4_l3] at h; cases h
     | succ n =>
     rw [f4_l3] at h
     refine WC.sub hsub (WC.weak hst ?_)
     refine wc_seq ?_
     refine wc_sr ?_
     refine WL.mv rfl rfl ?_
     refine WL.mv rfl rfl ?_
     refine WL.qn (y_len_map E41 steps2 e37 rfl rfl (Le.refl _)) rfl ?_
     refine WL.qn (y_leq rfl rfl) rfl ?_
     refine WL.ns ?_
     refine wc_cond rfl (fun hc7 => ?_) (fun hc7 => ?_)
     ·replace h := condT h hc7
      refine wc_skip ?_
      refine we_seq ?_
      replace h := letkS h
      obtain ⟨k303, hk303, h⟩ := h
      refine wc_cut (fun env' st' => ∃ (left293 : Int), ∃ (now294 : Int), ∃ (before295 : Int), ∃ (seen296 : Int), ∃ (c00297 : Nat → (List Int)), ∃ (c032298 : List Due), ∃ (c033299 : Int), ∃ (c10300 : Nat → (List Int)), ∃ (c132301 : List Due), ∃ (c133302 : Int), k303 left293 now294 before295 seen296 c00297 c032298 c033299 c10300 c132301 c133302 = some r ∧ Sub [(0, .d (.sl (List.map E41 times0))), (1, .d (D.i .u32 cancelled1)), (2, .d (.sl (List.map E41 steps2))), (7, .pt 0 0), (10, .d (D.i .i64 left293)), (12, .d (D.i .i64 now294)), (13, .d (D.i .i64 before295)), (14, .d (D.i .i64 seen296)), (15, .d (D.i .i64 iq281))] env' ∧ SLe st' [.row 26 (vecA 32 (fun j => .d (.sl (List.map E3 (c00297 j)))) ++ ([.d (.sl (List.map E62 c032298)), .d (D.i .i64 c033299)] : List AV)), .row 26 (vecA 32 (fun j => .d (.sl (List.map E3 (c10300 j)))) ++ ([.d (.sl (List.map E62 c132301)), .d (D.i .i64 c133302)] : List AV))]) ?_ ?_
      ·refine wc_block ?_
       refine wc_sr ?_
       refine WL.mv rfl rfl ?_
       refine WL.as rfl rfl ?_
       refine WL.ns ?_
       refine wc_sr ?_
       refine WL.as rfl rfl ?_
       refine WL.ns ?_
       replace h := letkS h
       obtain ⟨k305, hk305, h⟩ := h
       refine wc_cut (fun env' st' => ∃ (now304 : Int), k305 now304 = some r ∧ Sub [(0, .d (.sl (List.map E41 times0))), (1, .d (D.i .u32 cancelled1)), (2, .d (.sl (List.map E41 steps2))), (7, .pt 0 0), (10, .d (D.i .i64 left277)), (12, .d (D.i .i64 now304)), (13, .d (D.i .i64 before279)), (14, .d (D.i .i64 seen280)), (15, .d (D.i .i64 iq281)), (16, .d (D.i .i64 now278))] env' ∧ SLe st' [.row 26 (vecA 32 (fun j => .d (.sl (List.map E3 (c00282 j)))) ++ ([.d (.sl (List.map E62 c032283)), .d (D.i .i64 c033284)] : List AV))]) ?_ ?_
       ·refine wc_sr ?_
        refine WL.mv rfl rfl ?_
        refine WL.mv rfl rfl ?_
        refine WL.qn (y_len_map E41 steps2 e37 rfl rfl (Le.refl _)) rfl ?_
        refine WL.qn (y_lss rfl rfl) rfl ?_
        refine WL.ns ?_
        refine wc_cond rfl (fun hc8 => ?_) (fun hc8 => ?_)
        ·replace h := condT h hc8
         refine wc_region ?_
         refine WL.mv rfl rfl ?_
         refine WL.mv rfl rfl ?_
         refine WL.mv rfl rfl ?_
         obtain ⟨x306, hx306, h⟩ := bindS h
         refine WL.qn (y_indexAddr e37 rfl (Le.refl _) rfl (idx_nonneg hx306) (idx_row E41_eq hx306) rfl) rfl ?_
         refine WL.qn (y_loadc rfl a41 rfl) rfl ?_
         refine WL.qn (y_conv Try.underlying41 Try.underlying2 rfl rfl) rfl ?_
         refine WL.qn (y_add rfl rfl rfl) rfl ?_
         refine WL.as rfl rfl ?_
         refine WL.nil ?_
         exact we_lp ⟨(IntKind.i64.wrap (now278 + (IntKind.i64.wrap x306))), h, (Sub.cons rfl (Le.refl _) (Sub.cons rfl (Le.refl _) (Sub.cons rfl (Le.refl _) (Sub.cons rfl (Le.refl _) (Sub.cons rfl (Le.refl _) (Sub.cons rfl (Le.refl _) (Sub.cons rfl (Le.refl _) (Sub.cons rfl (Le.refl _) (Sub.cons rfl (Le.refl _) (Sub.cons rfl (Le.refl _) (Sub.nil _))))))))))), ⟨⟨rfl, Les.refl _⟩, trivial⟩⟩
        ·replace h := condF h hc8
         refine wc_skip ?_
         exact we_lp ⟨1048576, h, (Sub.cons rfl (Le.refl _) (Sub.cons rfl (Le.refl _) (Sub.cons rfl (Le.refl _) (Sub.cons rfl (Le.refl _) (Sub.cons rfl (Le.refl _) (Sub.cons rfl (Le.refl _) (Sub.cons rfl (Le.refl _) (Sub.cons rfl (Le.refl _) (Sub.cons rfl (Le.refl _) (Sub.cons rfl (Le.refl _) (Sub.nil _))))))))))), ⟨⟨rfl, Les.refl _⟩, trivial⟩⟩
       ·rintro env1 st1 ⟨now304, h, hsub, hst⟩
        subst hk305
        dsimp only at h
        refine WC.sub hsub (WC.weak hst ?_)
        refine wc_sr ?_
        refine WL.qn (y_loadN rfl rfl a26 s26 rfl) rfl ?_
        refine WL.mv rfl rfl ?_
        obtain ⟨r307, hr307, h⟩ := bindS h
        refine WL.fn rfl rfl rfl rfl (f19_c _ _ hr307) ⟨(Le.agd ⟨(Le.refl _), (Le.refl _), (Le.refl _), (Le.refl _), (Le.refl _), (Le.refl _), (Le.refl _), (Le.refl _), (Le.refl _), (Le.refl _), (Le.refl _), (Le.refl _), (Le.refl _), (Le.refl _), (Le.refl _), (Le.refl _), (Le.refl _), (Le.refl _), (Le.refl _), (Le.refl _), (Le.refl _), (Le.refl _), (Le.refl _), (Le.refl _), (Le.refl _), (Le.refl _), (Le.refl _), (Le.refl _), (Le.refl _), (Le.refl _), (Le.refl _), (Le.refl _), (Le.refl _), (Le.refl _), trivial⟩), (Le.refl _), trivial⟩ (Wt.none rfl) rfl rfl ?_
        refine WL.mv rfl rfl ?_
        refine WL.qn (y_extractd rfl rfl) rfl ?_
        refine WL.qn (y_extractd rfl rfl) rfl ?_
        refine WL.qn (y_extractd rfl rfl) rfl ?_
        refine WL.s ((b_alloc z26).does) (Wt.none rfl) rfl rfl ?_
        refine WL.s0 (d_store rfl rfl rfl rfl rfl rfl s26 rfl rfl) (Wt.none rfl) rfl ?_
        refine WL.st (st' := [.row 26 (vecA 32 (fun j => .d (.sl (List.map E3 (c00282 j)))) ++ ([.d (.sl (List.map E62 c032283)), .d (D.i .i64 c033284)] : List AV)), .row 26 (vecA 32 (fun j => .d (.sl (List.map E3 (r307.1.ready j)))) ++ ([.d (.sl (List.map E62 r307.1.delays)), .d (D.i .i64 r307.1.run)] : List AV))]) rfl ?_
        refine WL.as rfl rfl ?_
        refine WL.as rfl rfl ?_
        refine WL.ns ?_
        refine wc_seq ?_
        refine wc_sr ?_
        refine WL.mv rfl rfl ?_
        refine WL.qn (y_neq rfl rfl) rfl ?_
        refine WL.mv rfl rfl ?_
        apply WL.or 9 (t := 104) (d := 113)
        ·exact rfl
        ·intro hg104
         refine WL.qy (y_fieldAddr f26_1 rfl) rfl rfl rfl ?_
         refine WL.qy (y_load rfl rfl a24 rfl) rfl rfl rfl ?_
         refine WL.qy (y_len_map E62 r307.1.delays e24 rfl rfl (Le.refl _)) rfl rfl rfl ?_
         refine WL.qy (y_move rfl) rfl rfl rfl ?_
         refine WL.qy (y_len_map E3 r307.2.1 e22 rfl rfl (Le.refl _)) rfl rfl rfl ?_
         refine WL.qy (y_add rfl rfl rfl) rfl rfl rfl ?_
         refine WL.qy (y_move rfl) rfl rfl rfl ?_
         refine WL.qy (y_neq rfl rfl) rfl rfl rfl ?_
         refine WL.qn (y_pick_f rfl rfl) rfl ?_
         exact WL.nil ⟨rfl, [_, _, _, _, _, _, _, _, _], rfl, rfl, rfl⟩
        ·refine WL.skips 8 rfl ?_
         refine WL.qn (y_pick_t rfl rfl) rfl ?_
         exact WL.nil ⟨rfl, [_, _, _, _, _, _, _, _, _], rfl, rfl, rfl⟩
        refine WL.ns ?_
        refine wc_cond rfl (fun hc9 => ?_) (fun hc9 => ?_)
        ·replace h := condT h hc9
         refine wc_sr ?_
         refine WL.as rfl rfl ?_
         refine WL.ns ?_
         refine wc_ret ?_
         refine we_seq_ret ?_
         refine we_blk_ret ?_
         refine we_lp_ret ?_
         refine we_lp_ret ?_
         refine we_blk_ret ?_
         refine we_lp_ret ?_
         obtain rfl := Option.some.inj h
         exact we_ret_fn (rs1 rfl (rv_t rfl)) (Le.refl _)
        ·replace h := condF h hc9
         refine wc_skip ?_
         refine we_seq ?_
         replace h := letkS h
         obtain ⟨k310, hk310, h⟩ := h
         refine wc_cut (fun env' st' => ∃ (before308 : Int), ∃ (seen309 : Int), k310 before308 seen309 = some r ∧ Sub [(0, .d (.sl (List.map E41 times0))), (1, .d (D.i .u32 cancelled1)), (2, .d (.sl (List.map E41 steps2))), (7, .pt 0 0), (12, .d (D.i .i64 now304)), (13, .d (D.i .i64 before308)), (14, .d (D.i .i64 seen309)), (15, .d (D.i .i64 iq281)), (17, .pt 1 0)] env' ∧ SLe st' [.row 26 (vecA 32 (fun j => .d (.sl (List.map E3 (c00282 j)))) ++ ([.d (.sl (List.map E62 c032283)), .d (D.i .i64 c033284)] : List AV)), .row 26 (vecA 32 (fun j => .d (.sl (List.map E3 (r307.1.ready j)))) ++ ([.d (.sl (List.map E62 r307.1.delays)), .d (D.i .i64 r307.1.run)] : List AV))]) ?_ ?_
         ·refine wc_sr ?_
          refine WL.as rfl rfl ?_
          refine WL.ns ?_
          refine wc_block ?_
          refine wc_loop (fun na env' st' => ∃ (before314 : Int), ∃ (seen315 : Int), ∃ (k316 : Int), f4_l4 times0 cancelled1 now278 iq281 now304 r307 k310 na before314 seen315 k316 = some r ∧ Sub [(0, .d (.sl (List.map E41 times0))), (1, .d (D.i .u32 cancelled1)), (2, .d (.sl (List.map E41 steps2))), (7, .pt 0 0), (12, .d (D.i .i64 now304)), (13, .d (D.i .i64 before314)), (14, .d (D.i .i64 seen315)), (15, .d (D.i .i64 iq281)), (16, .d (D.i .i64 now278)), (17, .pt 1 0), (18, .d (.sl (List.map E3 r307.2.1))), (20, .d (D.i .i64 k316))] env' ∧ SLe st' [.row 26 (vecA 32 (fun j => .d (.sl (List.map E3 (c00282 j)))) ++ ([.d (.sl (List.map E62 c032283)), .d (D.i .i64 c033284)] : List AV)), .row 26 (vecA 32 (fun j => .d (.sl (List.map E3 (r307.1.ready j)))) ++ ([.d (.sl (List.map E62 r307.1.delays)), .d (D.i .i64 r307.1.run)] : List AV))]) (fun n => n) 9223372036854775808 ⟨before279, seen280, 0, h, (Sub.cons rfl (Le.refl _) (Sub.cons rfl (Le.refl _) (Sub.cons rfl (Le.refl _) (Sub.cons rfl (Le.refl _) (Sub.cons rfl (Le.refl _) (Sub.cons rfl (Le.refl _) (Sub.cons rfl (Le.refl _) (Sub.cons rfl (Le.refl _) (Sub.cons rfl (Le.refl _) (Sub.cons rfl (Le.refl _) (Sub.cons rfl (Le.refl _) (Sub.cons rfl (Le.refl _) (Sub.nil _))))))))))))), ⟨⟨rfl, Les.refl _⟩, ⟨rfl, Les.refl _⟩, trivial⟩⟩ ?_
          rintro na env1 st1 ⟨before314, seen315, k316, h, hsub, hst⟩
          cases na with
          | zero => rw [f4_l4] at h; cases h
          | succ na =>
          rw [f4_l4] at h
          refine WC.sub hsub (WC.weak hst ?_)
          refine wc_seq ?_
          refine wc_sr ?_
          refine WL.mv rfl rfl ?_
          refine WL.mv rfl rfl ?_
          refine WL.qn (y_len_map E3 r307.2.1 e22 rfl rfl (Le.refl _)) rfl ?_
          refine WL.qn (y_lss rfl rfl) rfl ?_
          refine WL.ns ?_
          refine wc_cond rfl (fun hc10 => ?_) (fun hc10 => ?_)
          ·replace h := condT h hc10
           refine wc_skip ?_
           refine we_seq ?_
           refine wc_seq ?_
           refine wc_block ?_
           refine wc_seq ?_
           refine wc_sr ?_
           refine WL.mv rfl rfl ?_
           refine WL.mv rfl rfl ?_
           obtain ⟨x320, hx320, h⟩ := bindS h
           refine WL.qn (y_indexAddr e22 rfl (Le.refl _) rfl (idx_nonneg hx320) (idx_row E3_eq hx320) rfl) rfl ?_
           refine WL.qn (y_loadc rfl a3 rfl) rfl ?_
           refine WL.qn (y_lss rfl rfl) rfl ?_
           refine WL.mv rfl rfl ?_
           obtain ⟨b321, hb321, h⟩ := bindS h
           apply WL.grp 8 (t := 125) (d := 133) (z := b321)
           ·exact rfl
           ·intro hg125
            have h := condT hb321 hg125
            refine WL.skips 7 rfl ?_
            refine WL.qn (y_pick_t rfl rfl) rfl ?_
            obtain rfl := Option.some.inj h
            exact WL.nil ⟨rfl, [_, _, _, _, _, _, _, _], rfl, rfl, rfl⟩
           ·intro hg125
            have h := condF hb321 hg125
            refine WL.qy (y_move rfl) rfl rfl rfl ?_
            refine WL.qy (y_move rfl) rfl rfl rfl ?_
            obtain ⟨x322, hx322, h⟩ := bindS h
            refine WL.qy (y_indexAddr e22 rfl (Le.refl _) rfl (idx_nonneg hx322) (idx_row E3_eq hx322) rfl) rfl rfl rfl ?_
            refine WL.qy (y_loadc rfl a3 rfl) rfl rfl rfl ?_
            refine WL.qy (y_move rfl) rfl rfl rfl ?_
            refine WL.qy (y_len_map E41 times0 e37 rfl rfl (Le.refl _)) rfl rfl rfl ?_
            refine WL.qy (y_geq rfl rfl) rfl rfl rfl ?_
            refine WL.qn (y_pick_f rfl rfl) rfl ?_
            obtain rfl := Option.some.inj h
            exact WL.nil ⟨rfl, [_, _, _, _, _, _, _, _], rfl, rfl, rfl⟩
           refine WL.mv rfl rfl ?_
           obtain ⟨b323, hb323, h⟩ := bindS h
           apply WL.grp 10 (t := 134) (d := 144) (z := b323)
           ·exact rfl
           ·intro hg134
            have h := condT hb323 hg134
            refine WL.skips 9 rfl ?_
            refine WL.qn (y_pick_t rfl rfl) rfl ?_
            obtain rfl := Option.some.inj h
            exact WL.nil ⟨rfl, [_, _, _, _, _, _, _, _, _, _], rfl, rfl, rfl⟩
           ·intro hg134
            have h := condF hb323 hg134
            refine WL.qy (y_move rfl) rfl rfl rfl ?_
            refine WL.qy (y_move rfl) rfl rfl rfl ?_
            refine WL.qy (y_move rfl) rfl rfl rfl ?_
            obtain ⟨x324, hx324, h⟩ := bindS h
            refine WL.qy (y_indexAddr e22 rfl (Le.refl _) rfl (idx_nonneg hx324) (idx_row E3_eq hx324) rfl) rfl rfl rfl ?_
            refine WL.qy (y_loadc rfl a3 rfl) rfl rfl rfl ?_
            refine WL.qy (y_conv Try.underlying3 Try.underlying42 rfl rfl) rfl rfl rfl ?_
            replace h := guardBS h
            obtain ⟨hgg325, h⟩ := h
            refine WL.qy (y_shr rfl rfl (shc_ge hgg325)) rfl rfl rfl ?_
            refine WL.qy (y_and rfl rfl rfl) rfl rfl rfl ?_
            refine WL.qy (y_eql rfl rfl) rfl rfl rfl ?_
            refine WL.qn (y_pick_f rfl rfl) rfl ?_
            obtain rfl := Option.some.inj h
            exact WL.nil ⟨rfl, [_, _, _, _, _, _, _, _, _, _], rfl, rfl, rfl⟩
           refine WL.ns ?_
           refine wc_cond rfl (fun hc11 => ?_) (fun hc11 => ?_)
           ·replace h := condT h hc11
            refine wc_sr ?_
            refine WL.as rfl rfl ?_
            refine WL.ns ?_
            refine wc_ret ?_
            refine we_seq_ret ?_
            refine we_blk_ret ?_
            refine we_seq_ret ?_
            refine we_lp_ret ?_
            refine we_blk_ret ?_
            refine we_lp_ret ?_
            refine we_blk_ret ?_
            refine we_lp_ret ?_
            refine we_lp_ret ?_
            refine we_blk_ret ?_
            refine we_lp_ret ?_
            obtain rfl := Option.some.inj h
            exact we_ret_fn (rs1 rfl (rv_t rfl)) (Le.refl _)
           ·replace h := condF h hc11
            refine wc_skip ?_
            refine we_seq ?_
            refine wc_sr ?_
            refine WL.mv rfl rfl ?_
            refine WL.mv rfl rfl ?_
            refine WL.mv rfl rfl ?_
            obtain ⟨x326, hx326, h⟩ := bindS h
            refine WL.qn (y_indexAddr e22 rfl (Le.refl _) rfl (idx_nonneg hx326) (idx_row E3_eq hx326) rfl) rfl ?_
            refine WL.qn (y_loadc rfl a3 rfl) rfl ?_
            obtain ⟨x327, hx327, h⟩ := bindS h
            refine WL.qn (y_indexAddr e37 rfl (Le.refl _) rfl (idx_nonneg hx327) (idx_row E41_eq hx327) rfl) rfl ?_
            refine WL.qn (y_loadc rfl a41 rfl) rfl ?_
            refine WL.qn (y_conv Try.underlying41 Try.underlying2 rfl rfl) rfl ?_
            refine WL.as rfl rfl ?_
            refine WL.ns ?_
            refine wc_seq ?_
            refine wc_sr ?_
            refine WL.mv rfl rfl ?_
            refine WL.mv rfl rfl ?_
            refine WL.qn (y_gtr rfl rfl) rfl ?_
            refine WL.mv rfl rfl ?_
            apply WL.or 8 (t := 156) (d := 164)
            ·exact rfl
            ·intro hg156
             refine WL.qy (y_move rfl) rfl rfl rfl ?_
             refine WL.qy (y_gtr rfl rfl) rfl rfl rfl ?_
             refine WL.qy (y_move rfl) rfl rfl rfl ?_
             apply WL.and 4 (t := 159) (d := 163)
             ·exact rfl
             ·intro hg159
              refine WL.qy (y_move rfl) rfl rfl rfl ?_
              refine WL.qy (y_move rfl) rfl rfl rfl ?_
              refine WL.qy (y_leq rfl rfl) rfl rfl rfl ?_
              refine WL.qy (y_pick_t rfl rfl) rfl rfl rfl ?_
              exact WL.nil ⟨rfl, [_, _, _, _], rfl, rfl, rfl⟩
             ·refine WL.skips 3 rfl ?_
              refine WL.qy (y_pick_f rfl rfl) rfl rfl rfl ?_
              exact WL.nil ⟨rfl, [_, _, _, _], rfl, rfl, rfl⟩
             refine WL.qn (y_pick_f rfl rfl) rfl ?_
             exact WL.nil ⟨rfl, [_, _, _, _, _], rfl, rfl, rfl⟩
            ·refine WL.skips 7 rfl ?_
             refine WL.qn (y_pick_t rfl rfl) rfl ?_
             exact WL.nil ⟨rfl, [_, _, _, _, _, _, _, _], rfl, rfl, rfl⟩
            refine WL.mv rfl rfl ?_
            apply WL.or 4 (t := 165) (d := 169)
            ·exact rfl
            ·intro hg165
             refine WL.qy (y_move rfl) rfl rfl rfl ?_
             refine WL.qy (y_move rfl) rfl rfl rfl ?_
             refine WL.qy (y_lss rfl rfl) rfl rfl rfl ?_
             refine WL.qn (y_pick_f rfl rfl) rfl ?_
             exact WL.nil ⟨rfl, [_, _, _, _], rfl, rfl, rfl⟩
            ·refine WL.skips 3 rfl ?_
             refine WL.qn (y_pick_t rfl rfl) rfl ?_
             exact WL.nil ⟨rfl, [_, _, _, _], rfl, rfl, rfl⟩
            refine WL.mv rfl rfl ?_
            obtain ⟨b328, hb328, h⟩ := bindS h
            apply WL.grp 12 (t := 170) (d := 182) (z := b328)
            ·exact rfl
            ·intro hg170
             have h := condT hb328 hg170
             refine WL.skips 11 rfl ?_
             refine WL.qn (y_pick_t rfl rfl) rfl ?_
             obtain rfl := Option.some.inj h
             exact WL.nil ⟨rfl, [_, _, _, _, _, _, _, _, _, _, _, _], rfl, rfl, rfl⟩
            ·intro hg170
             have h := condF hb328 hg170
             refine WL.qy (y_move rfl) rfl rfl rfl ?_
             refine WL.qy (y_move rfl) rfl rfl rfl ?_
             refine WL.qy (y_eql rfl rfl) rfl rfl rfl ?_
             refine WL.qy (y_move rfl) rfl rfl rfl ?_
             obtain ⟨b329, hb329, h⟩ := bindS h
             apply WL.grp 7 (t := 174) (d := 181) (z := b329)
             ·exact rfl
             ·intro hg174
              have h := condT hb329 hg174
              refine WL.qy (y_move rfl) rfl rfl rfl ?_
              refine WL.qy (y_move rfl) rfl rfl rfl ?_
              obtain ⟨x330, hx330, h⟩ := bindS h
              refine WL.qy (y_indexAddr e22 rfl (Le.refl _) rfl (idx_nonneg hx330) (idx_row E3_eq hx330) rfl) rfl rfl rfl ?_
              refine WL.qy (y_loadc rfl a3 rfl) rfl rfl rfl ?_
              refine WL.qy (y_move rfl) rfl rfl rfl ?_
              refine WL.qy (y_lss rfl rfl) rfl rfl rfl ?_
              refine WL.qy (y_pick_t rfl rfl) rfl rfl rfl ?_
              obtain rfl := Option.some.inj h
              exact WL.nil ⟨rfl, [_, _, _, _, _, _, _], rfl, rfl, rfl⟩
             ·intro hg174
              have h := condF hb329 hg174
              refine WL.skips 6 rfl ?_
              refine WL.qy (y_pick_f rfl rfl) rfl rfl rfl ?_
              obtain rfl := Option.some.inj h
              exact WL.nil ⟨rfl, [_, _, _, _, _, _, _], rfl, rfl, rfl⟩
             refine WL.qn (y_pick_f rfl rfl) rfl ?_
             obtain rfl := Option.some.inj h
             exact WL.nil ⟨rfl, [_, _, _, _, _, _], rfl, rfl, rfl⟩
            refine WL.ns ?_
            refine wc_cond rfl (fun hc12 => ?_) (fun hc12 => ?_)
            ·replace h := condT h hc12
             refine wc_sr ?_
             refine WL.as rfl rfl ?_
             refine WL.ns ?_
             refine wc_ret ?_
             refine we_seq_ret ?_
             refine we_blk_ret ?_
             refine we_seq_ret ?_
             refine we_lp_ret ?_
             refine we_blk_ret ?_
             refine we_lp_ret ?_
             refine we_blk_ret ?_
             refine we_lp_ret ?_
             refine we_lp_ret ?_
             refine we_blk_ret ?_
             refine we_lp_ret ?_
             obtain rfl := Option.some.inj h
             exact we_ret_fn (rs1 rfl (rv_t rfl)) (Le.refl _)
            ·replace h := condF h hc12
             refine wc_skip ?_
             refine we_seq ?_
             refine wc_region_draw (by kernel_rfl) (by kernel_rfl) ?_
             refine WQ.qn (y_move rfl) rfl ?_
             refine WQ.qn (y_move rfl) rfl ?_
             refine WQ.qn (y_move rfl) rfl ?_
             obtain ⟨x331, hx331, h⟩ := bindS h
             refine WQ.qn (y_indexAddr e22 rfl (Le.refl _) rfl (idx_nonneg hx331) (idx_row E3_eq hx331) rfl) rfl ?_
             refine WQ.qn (y_loadc rfl a3 rfl) rfl ?_
             refine WQ.qn (y_assign rfl) rfl ?_
             refine WQ.qn (y_assign rfl) rfl ?_
             refine WQ.nil ?_
             refine we_blk ?_
             refine we_seq ?_
             refine wc_region ?_
             refine WL.mv rfl rfl ?_
             refine WL.qn (y_add rfl rfl rfl) rfl ?_
             refine WL.as rfl rfl ?_
             refine WL.nil ?_
             exact we_lp ⟨na, ⟨(IntKind.i64.wrap x327), x331, (IntKind.i64.wrap (k316 + 1)), h, (Sub.cons rfl (Le.refl _) (Sub.cons rfl (Le.refl _) (Sub.cons rfl (Le.refl _) (Sub.cons rfl (Le.refl _) (Sub.cons rfl (Le.refl _) (Sub.cons rfl (Le.refl _) (Sub.cons rfl (Le.refl _) (Sub.cons rfl (Le.refl _) (Sub.cons rfl (Le.refl _) (Sub.cons rfl (Le.refl _) (Sub.cons rfl (Le.refl _) (Sub.cons rfl (Le.refl _) (Sub.nil _))))))))))))), ⟨⟨rfl, Les.refl _⟩, ⟨rfl, Les.refl _⟩, trivial⟩⟩, Nat.lt_succ_self na⟩
          ·replace h := condF h hc10
           refine wc_exit ?_
           refine we_seq_exit ?_
           refine we_lp_exit ?_
           refine we_blk_hit ?_
           exact we_lp ⟨before314, seen315, h, (Sub.cons rfl (Le.refl _) (Sub.cons rfl (Le.refl _) (Sub.cons rfl (Le.refl _) (Sub.cons rfl (Le.refl _) (Sub.cons rfl (Le.refl _) (Sub.cons rfl (Le.refl _) (Sub.cons rfl (Le.refl _) (Sub.cons rfl (Le.refl _) (Sub.cons rfl (Le.refl _) (Sub.nil _)))))))))), ⟨⟨rfl, Les.refl _⟩, ⟨rfl, Les.refl _⟩, trivial⟩⟩
         ·rintro env1 st1 ⟨before308, seen309, h, hsub, hst⟩
          subst hk310
          dsimp only at h
          refine WC.sub hsub (WC.weak hst ?_)
          refine wc_sr ?_
          refine WL.qn (y_fieldAddr f26_1 rfl) rfl ?_
          refine WL.qn (y_load rfl rfl a24 rfl) rfl ?_
          refine WL.qn (y_len_map E62 r307.1.delays e24 rfl rfl (Le.refl _)) rfl ?_
          refine WL.as rfl rfl ?_
          refine WL.ns ?_
          refine wc_sr ?_
          refine WL.qn (y_loadN rfl rfl a26 s26 rfl) rfl ?_
          obtain ⟨r332, hr332, h⟩ := bindS h
          refine WL.fn rfl rfl rfl rfl (f20_c _ hr332) ⟨(Le.agd ⟨(Le.refl _), (Le.refl _), (Le.refl _), (Le.refl _), (Le.refl _), (Le.refl _), (Le.refl _), (Le.refl _), (Le.refl _), (Le.refl _), (Le.refl _), (Le.refl _), (Le.refl _), (Le.refl _), (Le.refl _), (Le.refl _), (Le.refl _), (Le.refl _), (Le.refl _), (Le.refl _), (Le.refl _), (Le.refl _), (Le.refl _), (Le.refl _), (Le.refl _), (Le.refl _), (Le.refl _), (Le.refl _), (Le.refl _), (Le.refl _), (Le.refl _), (Le.refl _), (Le.refl _), (Le.refl _), trivial⟩), trivial⟩ (Wt.none rfl) rfl rfl ?_
          refine WL.mv rfl rfl ?_
          refine WL.qn (y_extractd rfl rfl) rfl ?_
          refine WL.qn (y_extractd rfl rfl) rfl ?_
          refine WL.as rfl rfl ?_
          refine WL.as rfl rfl ?_
          refine WL.ns ?_
          refine wc_seq ?_
          refine wc_sr ?_
          refine WL.mv rfl rfl ?_
          refine WL.mv rfl rfl ?_
          refine WL.qn (y_gtr rfl rfl) rfl ?_
          refine WL.qn (y_neb Try.underlying4 rfl rfl) rfl ?_
          refine WL.mv rfl rfl ?_
          apply WL.or 7 (t := 200) (d := 207)
          ·exact rfl
          ·intro hg200
           refine WL.qy (y_move rfl) rfl rfl rfl ?_
           refine WL.qy (y_move rfl) rfl rfl rfl ?_
           apply WL.and 4 (t := 202) (d := 206)
           ·exact rfl
           ·intro hg202
            refine WL.qy (y_move rfl) rfl rfl rfl ?_
            refine WL.qy (y_move rfl) rfl rfl rfl ?_
            refine WL.qy (y_leq rfl rfl) rfl rfl rfl ?_
            refine WL.qy (y_pick_t rfl rfl) rfl rfl rfl ?_
            exact WL.nil ⟨rfl, [_, _, _, _], rfl, rfl, rfl⟩
           ·refine WL.skips 3 rfl ?_
            refine WL.qy (y_pick_f rfl rfl) rfl rfl rfl ?_
            exact WL.nil ⟨rfl, [_, _, _, _], rfl, rfl, rfl⟩
           refine WL.qn (y_pick_f rfl rfl) rfl ?_
           exact WL.nil ⟨rfl, [_, _, _, _], rfl, rfl, rfl⟩
          ·refine WL.skips 6 rfl ?_
           refine WL.qn (y_pick_t rfl rfl) rfl ?_
           exact WL.nil ⟨rfl, [_, _, _, _, _, _, _], rfl, rfl, rfl⟩
          refine WL.ns ?_
          refine wc_cond rfl (fun hc13 => ?_) (fun hc13 => ?_)
          ·replace h := condT h hc13
           refine wc_sr ?_
           refine WL.as rfl rfl ?_
           refine WL.ns ?_
           refine wc_ret ?_
           refine we_seq_ret ?_
           refine we_blk_ret ?_
           refine we_lp_ret ?_
           refine we_lp_ret ?_
           refine we_blk_ret ?_
           refine we_lp_ret ?_
           obtain rfl := Option.some.inj h
           exact we_ret_fn (rs1 rfl (rv_t rfl)) (Le.refl _)
          ·replace h := condF h hc13
           refine wc_skip ?_
           refine we_seq ?_
           refine wc_region ?_
           refine WL.qn (y_loadN rfl rfl a26 s26 rfl) rfl ?_
           refine WL.s0 (d_store rfl rfl rfl rfl rfl rfl s26 rfl rfl) (Wt.none rfl) rfl ?_
           refine WL.st (st' := [.row 26 (vecA 32 (fun j => .d (.sl (List.map E3 (r307.1.ready j)))) ++ ([.d (.sl (List.map E62 r307.1.delays)), .d (D.i .i64 r307.1.run)] : List AV)), .row 26 (vecA 32 (fun j => .d (.sl (List.map E3 (r307.1.ready j)))) ++ ([.d (.sl (List.map E62 r307.1.delays)), .d (D.i .i64 r307.1.run)] : List AV))]) rfl ?_
           refine WL.nil ?_
           refine we_blk ?_
           exact we_lp ⟨(List.length r307.1.delays : Int), now304, before308, seen309, r307.1.ready, r307.1.delays, r307.1.run, r307.1.ready, r307.1.delays, r307.1.run, h, (Sub.cons rfl (Le.refl _) (Sub.cons rfl (Le.refl _) (Sub.cons rfl (Le.refl _) (Sub.cons rfl (Le.refl _) (Sub.cons rfl (Le.refl _) (Sub.cons rfl (Le.refl _) (Sub.cons rfl (Le.refl _) (Sub.cons rfl (Le.refl _) (Sub.cons rfl (Le.refl _) (Sub.nil _)))))))))), ⟨⟨rfl, Les.refl _⟩, ⟨rfl, Les.refl _⟩, trivial⟩⟩
      ·rintro env1 st1 ⟨left293, now294, before295, seen296, c00297, c032298, c033299, c10300, c132301, c133302, h, hsub, hst⟩
       subst hk303
       dsimp only at h
       refine WC.sub hsub (WC.weak hst ?_)
       refine wc_region ?_
       refine WL.mv rfl rfl ?_
       refine WL.qn (y_add rfl rfl rfl) rfl ?_
       refine WL.as rfl rfl ?_
       refine WL.nil ?_
       refine WE.drop 1 (env' := [(0, .d (.sl (List.map E41 times0))), (1, .d (D.i .u32 cancelled1)), (2, .d (.sl (List.map E41 steps2))), (7, .pt 0 0), (10, .d (D.i .i64 left293)), (12, .d (D.i .i64 now294)), (13, .d (D.i .i64 before295)), (14, .d (D.i .i64 seen296)), (15, .d (D.i .i64 (IntKind.i64.wrap (iq281 + 1))))]) (Sub.one rfl (Sub.one rfl (Sub.one rfl (Sub.one rfl (Sub.one rfl (Sub.one rfl (Sub.one rfl (Sub.one rfl (Sub.one rfl (Sub.nil _)))))))))) rfl rfl (Nat.zero_le _) ?_
       exact we_lp ⟨n, ⟨left293, now294, before295, seen296, (IntKind.i64.wrap (iq281 + 1)), c00297, c032298, c033299, h, (Sub.cons rfl (Le.refl _) (Sub.cons rfl (Le.refl _) (Sub.cons rfl (Le.refl _) (Sub.cons rfl (Le.refl _) (Sub.cons rfl (Le.refl _) (Sub.cons rfl (Le.refl _) (Sub.cons rfl (Le.refl _) (Sub.cons rfl (Le.refl _) (Sub.cons rfl (Le.refl _) (Sub.nil _)))))))))), ⟨⟨rfl, Les.refl _⟩, trivial⟩⟩, Nat.lt_succ_self n⟩
     ·replace h := condF h hc7
      refine wc_exit ?_
      refine we_seq_exit ?_
      refine we_lp_exit ?_
      refine we_blk_hit ?_
      exact we_lp ⟨left277, c00282, c032283, c033284, h, (Sub.cons rfl (Le.refl _) (Sub.nil _)), ⟨⟨rfl, Les.refl _⟩, trivial⟩⟩
    ·rintro env1 st1 ⟨left264, c00265, c032266, c033267, h, hsub, hst⟩
     subst hk268
     dsimp only at h
     refine WC.sub hsub (WC.weak hst ?_)
     refine wc_sr ?_
     refine WL.mv rfl rfl ?_
     refine WL.qn (y_eql rfl rfl) rfl ?_
     refine WL.mv rfl rfl ?_
     obtain ⟨b333, hb333, h⟩ := bindS h
     apply WL.grp 2 (t := 211) (d := 213) (z := b333)
     ·exact rfl
     ·intro hg211
      have h := condT hb333 hg211
      obtain ⟨r334, hr334, h⟩ := bindS h
      refine WL.fn rfl rfl rfl rfl (f11_c hr334) trivial (Wt.yes rfl rfl rfl) rfl rfl ?_
      refine WL.qn (y_pick_t rfl rfl) rfl ?_
      obtain rfl := Option.some.inj h
      exact WL.nil ⟨rfl, [_, _], rfl, rfl, rfl⟩
     ·intro hg211
      have h := condF hb333 hg211
      refine WL.skips 1 rfl ?_
      refine WL.qn (y_pick_f rfl rfl) rfl ?_
      obtain rfl := Option.some.inj h
      exact WL.nil ⟨rfl, [_, _], rfl, rfl, rfl⟩
     refine WL.as rfl rfl ?_
     refine WL.ns ?_
     refine wc_ret ?_
     obtain rfl := Option.some.inj h
     exact we_ret_fn (rs1 rfl (rv_t rfl)) (Le.refl _)

end Go.Proofs.Ytpionlekbfoccaa
