/- The walks of functions that this law reaches. -/
import Derived.Test.YtpionlekbfoccaaProg
import Derived.KernelRfl
import Derived.Test.YtpionlekbfoccaaWc
set_option maxHeartbeats 4000000
set_option maxRecDepth 100000
namespace Go.Proofs.Ytpionlekbfoccaa
open Go Go.Sk

theorem e57 : elemOf' Try.prog 57 = some (4, true) := by kernel_rfl
theorem f7_c (l0 : List Step) {r : Bool} (h : f7 l0 = some r) : Pu Try.prog 7 [.sl (List.map E52 l0)] (.b r) := by
 unfold f7 at h
 refine fn_intro Try.func7 (by kernel_rfl) rfl rfl rfl (fun φφ ww => ?_)
 refine wc_sr ?_
 refine WL.as rfl rfl ?_
 refine WL.ns ?_
 refine wc_seq ?_
 refine wc_sr ?_
 refine WL.mv rfl rfl ?_
 refine WL.qn (y_len_map E52 l0 e57 rfl rfl (Le.refl _)) rfl ?_
 refine WL.qn (y_gtr rfl rfl) rfl ?_
 refine WL.ns ?_
 refine wc_cond rfl (fun hc1 => ?_) (fun hc1 => ?_)
 ·replace h := condT h hc1
  refine wc_sr ?_
  obtain ⟨r49, hr49, h⟩ := bindS h
  refine WL.fn rfl rfl rfl rfl (f11_c hr49) trivial (Wt.none rfl) rfl rfl ?_
  refine WL.as rfl rfl ?_
  refine WL.ns ?_
  refine wc_ret ?_
  refine we_seq_ret ?_
  obtain rfl := Option.some.inj h
  exact we_ret_fn (rs1 rfl (rv_t rfl)) (Le.refl _)
 ·replace h := condF h hc1
  refine wc_skip ?_
  refine we_seq ?_
  refine wc_sr ?_
  refine WL.fn rfl rfl rfl rfl (f26_c) trivial (Wt.none rfl) rfl rfl ?_
  refine WL.s ((b_alloc z26).does) (Wt.none rfl) rfl rfl ?_
  refine WL.s0 (d_store rfl rfl rfl rfl rfl rfl s26 rfl rfl) (Wt.none rfl) rfl ?_
  refine WL.st (st' := [.row 26 (vecA 32 (fun j => .d (.sl (List.map E3 (f26.ready j)))) ++ ([.d (.sl (List.map E62 f26.delays)), .d (D.i .i64 f26.run)] : List AV))]) rfl ?_
  refine WL.ns ?_
  replace h := letkS h
  obtain ⟨k53, hk53, h⟩ := h
  refine wc_cut (fun env' st' => ∃ (c0050 : Nat → (List Int)), ∃ (c03251 : List Due), ∃ (c03352 : Int), k53 c0050 c03251 c03352 = some r ∧ Sub [] env' ∧ SLe st' [.row 26 (vecA 32 (fun j => .d (.sl (List.map E3 (c0050 j)))) ++ ([.d (.sl (List.map E62 c03251)), .d (D.i .i64 c03352)] : List AV))]) ?_ ?_
  ·refine wc_sr ?_
   refine WL.as rfl rfl ?_
   refine WL.ns ?_
   refine wc_block ?_
   refine wc_loop (fun n env' st' => ∃ (iq58 : Int), ∃ (c0059 : Nat → (List Int)), ∃ (c03260 : List Due), ∃ (c03361 : Int), f7_l1 l0 k53 n iq58 c0059 c03260 c03361 = some r ∧ Sub [(0, .d (.sl (List.map E52 l0))), (3, .pt 0 0), (4, .d (D.i .i64 iq58))] env' ∧ SLe st' [.row 26 (vecA 32 (fun j => .d (.sl (List.map E3 (c0059 j)))) ++ ([.d (.sl (List.map E62 c03260)), .d (D.i .i64 c03361)] : List AV))]) (fun n => n) 9223372036854775808 ⟨0, f26.ready, f26.delays, f26.run, h, (Sub.cons rfl (Le.refl _) (Sub.cons rfl (Le.refl _) (Sub.cons rfl (Le.refl _) (Sub.nil _)))), ⟨⟨rfl, Les.refl _⟩, trivial⟩⟩ ?_
   rintro n env1 st1 ⟨iq58, c0059, c03260, c03361, h, hsub, hst⟩
   cases n with
   | zero => rw [f7_l1] at h; cases h
   | succ n =>
   rw [f7_l1] at h
   refine WC.sub hsub (WC.weak hst ?_)
   refine wc_seq ?_
   refine wc_sr ?_
   refine WL.mv rfl rfl ?_
   refine WL.mv rfl rfl ?_
   refine WL.qn (y_len_map E52 l0 e57 rfl rfl (Le.refl _)) rfl ?_
   refine WL.qn (y_lss rfl rfl) rfl ?_
   refine WL.ns ?_
   refine wc_cond rfl (fun hc2 => ?_) (fun hc2 => ?_)
   ·replace h := condT h hc2
    refine wc_skip ?_
    refine we_seq ?_
    refine wc_seq ?_
    refine wc_block ?_
    refine wc_seq ?_
    obtain ⟨x66, hx66, h⟩ := bindS h
    obtain ⟨r67, hr67, h⟩ := bindS h
    apply wc_region_all [_, _, _, _, _, _, _, _, _, _, .u, _] [[], [], [], [1, 2], [1, 2, 3], [0, 1, 2, 3, 4], [0, 1, 2, 3, 4, 5], [0, 1, 2, 3, 4, 5, 6], [0, 1, 2, 3, 4, 5, 6], [], [0, 1, 2, 3, 4, 5, 6, 7, 9], [0, 1, 2, 3, 4, 5, 6, 7, 8, 9, 10]] [9, 10] (fun c => List.getD [[.row 26 (vecA 32 (fun j => .d (.sl (List.map E3 (c0059 j)))) ++ ([.d (.sl (List.map E62 c03260)), .d (D.i .i64 c03361)] : List AV))], [.row 26 (vecA 32 (fun j => .d (.sl (List.map E3 (c0059 j)))) ++ ([.d (.sl (List.map E62 c03260)), .d (D.i .i64 c03361)] : List AV)), .row 26 [sN, sN, sN, sN, sN, sN, sN, sN, sN, sN, sN, sN, sN, sN, sN, sN, sN, sN, sN, sN, sN, sN, sN, sN, sN, sN, sN, sN, sN, sN, sN, sN, sN, .d (D.i .i64 0)]], [.row 26 (vecA 32 (fun j => .d (.sl (List.map E3 (c0059 j)))) ++ ([.d (.sl (List.map E62 c03260)), .d (D.i .i64 c03361)] : List AV)), .row 26 (vecA 32 (fun j => .d (.sl (List.map E3 (r67.1.ready j)))) ++ ([.d (.sl (List.map E62 r67.1.delays)), .d (D.i .i64 r67.1.run)] : List AV))]] c []) [([], [3], [0, 1]), ([], [0], [0, 1]), ([], [4], [0, 1]), ([1, 2], [], [0, 1]), ([3], [], [0, 1]), ([0, 4], [], [0, 1]), ([5], [], [0, 1]), ([6], [], [0, 1]), ([6], [], [0, 1, 2]), ([], [], [0]), ([9, 7], [], [1]), ([8], [], [2])] (by kernel_rfl) (by kernel_rfl) rfl rfl rfl
    ·refine ⟨?_, ?_, ?_, ?_, ?_, ?_, ?_, ?_, ?_, ?_, ?_, ?_, trivial⟩
     ·refine ⟨fun F => ?_, fun F => ?_, trivial⟩
      ·refine WL.qn (y_loadN rfl rfl a26 s26 rfl) rfl ?_
       exact WL.done1 rfl rfl rfl
      ·refine WL.qn (y_loadN rfl rfl a26 s26 rfl) rfl ?_
       exact WL.done1 rfl rfl rfl
     ·refine ⟨fun F => ?_, fun F => ?_, trivial⟩
      ·refine WL.mv rfl rfl ?_
       exact WL.done1 rfl rfl rfl
      ·refine WL.mv rfl rfl ?_
       exact WL.done1 rfl rfl rfl
     ·refine ⟨fun F => ?_, fun F => ?_, trivial⟩
      ·refine WL.mv rfl rfl ?_
       exact WL.done1 rfl rfl rfl
      ·refine WL.mv rfl rfl ?_
       exact WL.done1 rfl rfl rfl
     ·refine ⟨fun F => ?_, fun F => ?_, trivial⟩
      ·refine WL.qn (y_indexAddr e57 rfl (Le.refl _) rfl (idx_nonneg hx66) (idx_row E52_eq hx66) rfl) rfl ?_
       exact WL.done1 rfl rfl rfl
      ·refine WL.qn (y_indexAddr e57 rfl (Le.refl _) rfl (idx_nonneg hx66) (idx_row E52_eq hx66) rfl) rfl ?_
       exact WL.done1 rfl rfl rfl
     ·refine ⟨fun F => ?_, fun F => ?_, trivial⟩
      ·refine WL.qn (y_loadcN rfl a52 s52 rfl) rfl ?_
       exact WL.done1 rfl rfl rfl
      ·refine WL.qn (y_loadcN rfl a52 s52 rfl) rfl ?_
       exact WL.done1 rfl rfl rfl
     ·refine ⟨fun F => ?_, fun F => ?_, trivial⟩
      ·refine WL.fn rfl rfl rfl rfl (f24_c _ _ hr67) ⟨(Le.agd ⟨(Le.refl _), (Le.refl _), (Le.refl _), (Le.refl _), (Le.refl _), (Le.refl _), (Le.refl _), (Le.refl _), (Le.refl _), (Le.refl _), (Le.refl _), (Le.refl _), (Le.refl _), (Le.refl _), (Le.refl _), (Le.refl _), (Le.refl _), (Le.refl _), (Le.refl _), (Le.refl _), (Le.refl _), (Le.refl _), (Le.refl _), (Le.refl _), (Le.refl _), (Le.refl _), (Le.refl _), (Le.refl _), (Le.refl _), (Le.refl _), (Le.refl _), (Le.refl _), (Le.refl _), (Le.refl _), trivial⟩), (Le.refl _), trivial⟩ (Wt.none rfl) rfl rfl ?_
       exact WL.done1 rfl rfl rfl
      ·refine WL.fn rfl rfl rfl rfl (f24_c _ _ hr67) ⟨(Le.agd ⟨(Le.refl _), (Le.refl _), (Le.refl _), (Le.refl _), (Le.refl _), (Le.refl _), (Le.refl _), (Le.refl _), (Le.refl _), (Le.refl _), (Le.refl _), (Le.refl _), (Le.refl _), (Le.refl _), (Le.refl _), (Le.refl _), (Le.refl _), (Le.refl _), (Le.refl _), (Le.refl _), (Le.refl _), (Le.refl _), (Le.refl _), (Le.refl _), (Le.refl _), (Le.refl _), (Le.refl _), (Le.refl _), (Le.refl _), (Le.refl _), (Le.refl _), (Le.refl _), (Le.refl _), (Le.refl _), trivial⟩), (Le.refl _), trivial⟩ (Wt.none rfl) rfl rfl ?_
       exact WL.done1 rfl rfl rfl
     ·refine ⟨fun F => ?_, fun F => ?_, trivial⟩
      ·refine WL.mv rfl rfl ?_
       exact WL.done1 rfl rfl rfl
      ·refine WL.mv rfl rfl ?_
       exact WL.done1 rfl rfl rfl
     ·refine ⟨fun F => ?_, fun F => ?_, trivial⟩
      ·refine WL.qn (y_extractd rfl rfl) rfl ?_
       exact WL.done1 rfl rfl rfl
      ·refine WL.qn (y_extractd rfl rfl) rfl ?_
       exact WL.done1 rfl rfl rfl
     ·refine ⟨fun F => ?_, fun F => ?_, fun F => ?_, trivial⟩
      ·refine WL.qn (y_extractd rfl rfl) rfl ?_
       exact WL.done1 rfl rfl rfl
      ·refine WL.qn (y_extractd rfl rfl) rfl ?_
       exact WL.done1 rfl rfl rfl
      ·refine WL.qn (y_extractd rfl rfl) rfl ?_
       exact WL.done1 rfl rfl rfl
     ·refine ⟨fun F => ?_, trivial⟩
      refine WL.s ((b_alloc z26).does) (Wt.none rfl) rfl rfl ?_
      exact WL.done1 rfl rfl rfl
     ·refine ⟨fun F => ?_, trivial⟩
      refine WL.s0 (d_store rfl rfl rfl rfl rfl rfl s26 rfl rfl) (Wt.none rfl) rfl ?_
      exact WL.done0 rfl rfl
     ·refine ⟨fun F => ?_, trivial⟩
      refine WL.as rfl rfl ?_
      exact WL.done1 rfl rfl rfl
    ·refine we_seq ?_
     refine wc_seq ?_
     refine wc_sr ?_
     refine WL.mv rfl rfl ?_
     refine WL.qn (y_not rfl) rfl ?_
     refine WL.ns ?_
     refine wc_cond rfl (fun hc3 => ?_) (fun hc3 => ?_)
     ·replace h := condT h hc3
      refine wc_sr ?_
      refine WL.as rfl rfl ?_
      refine WL.ns ?_
      refine wc_ret ?_
      refine we_seq_ret ?_
      refine we_blk_ret ?_
      refine we_seq_ret ?_
      refine we_lp_ret ?_
      refine we_blk_ret ?_
      refine we_lp_ret ?_
      obtain rfl := Option.some.inj h
      exact we_ret_fn (rs1 rfl (rv_t rfl)) (Le.refl _)
     ·replace h := condF h hc3
      refine wc_skip ?_
      refine we_seq ?_
      replace h := letkS h
      obtain ⟨k71, hk71, h⟩ := h
      refine wc_cut (fun env' st' => ∃ (c0068 : Nat → (List Int)), ∃ (c03269 : List Due), ∃ (c03370 : Int), k71 c0068 c03269 c03370 = some r ∧ Sub [(0, .d (.sl (List.map E52 l0))), (3, .pt 0 0), (4, .d (D.i .i64 iq58))] env' ∧ SLe st' [.row 26 (vecA 32 (fun j => .d (.sl (List.map E3 (c0068 j)))) ++ ([.d (.sl (List.map E62 c03269)), .d (D.i .i64 c03370)] : List AV)), .row 26 (vecA 32 (fun j => .d (.sl (List.map E3 (r67.1.ready j)))) ++ ([.d (.sl (List.map E62 r67.1.delays)), .d (D.i .i64 r67.1.run)] : List AV))]) ?_ ?_
      ·refine wc_sr ?_
       refine WL.qn (y_loadN rfl rfl a26 s26 rfl) rfl ?_
       obtain ⟨r72, hr72, h⟩ := bindS h
       refine WL.fn rfl rfl rfl rfl (f25_c _ hr72) ⟨(Le.agd ⟨(Le.refl _), (Le.refl _), (Le.refl _), (Le.refl _), (Le.refl _), (Le.refl _), (Le.refl _), (Le.refl _), (Le.refl _), (Le.refl _), (Le.refl _), (Le.refl _), (Le.refl _), (Le.refl _), (Le.refl _), (Le.refl _), (Le.refl _), (Le.refl _), (Le.refl _), (Le.refl _), (Le.refl _), (Le.refl _), (Le.refl _), (Le.refl _), (Le.refl _), (Le.refl _), (Le.refl _), (Le.refl _), (Le.refl _), (Le.refl _), (Le.refl _), (Le.refl _), (Le.refl _), (Le.refl _), trivial⟩), trivial⟩ (Wt.none rfl) rfl rfl ?_
       refine WL.mv rfl rfl ?_
       apply WL.and 4 (t := 31) (d := 35)
       ·exact rfl
       ·intro hg31
        refine WL.qy (y_fieldAddr f26_2 rfl) rfl rfl rfl ?_
        refine WL.qy (y_load rfl rfl a3 rfl) rfl rfl rfl ?_
        refine WL.qy (y_geq rfl rfl) rfl rfl rfl ?_
        refine WL.qn (y_pick_t rfl rfl) rfl ?_
        exact WL.nil ⟨rfl, [_, _, _, _], rfl, rfl, rfl⟩
       ·refine WL.skips 3 rfl ?_
        refine WL.qn (y_pick_f rfl rfl) rfl ?_
        exact WL.nil ⟨rfl, [_, _, _, _], rfl, rfl, rfl⟩
       refine WL.mv rfl rfl ?_
       obtain ⟨b73, hb73, h⟩ := bindS h
       apply WL.grp 5 (t := 36) (d := 41) (z := b73)
       ·exact rfl
       ·intro hg36
        have h := condT hb73 hg36
        refine WL.qy (y_loadN rfl rfl a26 s26 rfl) rfl rfl rfl ?_
        refine WL.qy (y_build p26 z26 rfl rfl) rfl rfl rfl ?_
        obtain ⟨r74, hr74, h⟩ := bindS h
        refine WL.fn rfl rfl rfl rfl (f15_c _ _ hr74) ⟨(Le.agd ⟨(Le.refl _), (Le.refl _), (Le.refl _), (Le.refl _), (Le.refl _), (Le.refl _), (Le.refl _), (Le.refl _), (Le.refl _), (Le.refl _), (Le.refl _), (Le.refl _), (Le.refl _), (Le.refl _), (Le.refl _), (Le.refl _), (Le.refl _), (Le.refl _), (Le.refl _), (Le.refl _), (Le.refl _), (Le.refl _), (Le.refl _), (Le.refl _), (Le.refl _), (Le.refl _), (Le.refl _), (Le.refl _), (Le.refl _), (Le.refl _), (Le.refl _), (Le.refl _), (Le.refl _), (Le.refl _), trivial⟩), (Le.agd ⟨Le.nil, Le.nil, Le.nil, Le.nil, Le.nil, Le.nil, Le.nil, Le.nil, Le.nil, Le.nil, Le.nil, Le.nil, Le.nil, Le.nil, Le.nil, Le.nil, Le.nil, Le.nil, Le.nil, Le.nil, Le.nil, Le.nil, Le.nil, Le.nil, Le.nil, Le.nil, Le.nil, Le.nil, Le.nil, Le.nil, Le.nil, Le.nil, Le.nil, (Le.refl _), trivial⟩), trivial⟩ (Wt.yes rfl rfl rfl) rfl rfl ?_
        refine WL.qy (y_not rfl) rfl rfl rfl ?_
        refine WL.qn (y_pick_t rfl rfl) rfl ?_
        obtain rfl := Option.some.inj h
        exact WL.nil ⟨rfl, [_, _, _, _, _], rfl, rfl, rfl⟩
       ·intro hg36
        have h := condF hb73 hg36
        refine WL.skips 4 rfl ?_
        refine WL.qn (y_pick_f rfl rfl) rfl ?_
        obtain rfl := Option.some.inj h
        exact WL.nil ⟨rfl, [_, _, _, _, _], rfl, rfl, rfl⟩
       refine WL.ns ?_
       refine wc_cond rfl (fun hc4 => ?_) (fun hc4 => ?_)
       ·replace h := condT h hc4
        refine wc_region ?_
        refine WL.qn (y_loadN rfl rfl a26 s26 rfl) rfl ?_
        refine WL.s0 (d_store rfl rfl rfl rfl rfl rfl s26 rfl rfl) (Wt.none rfl) rfl ?_
        refine WL.st (st' := [.row 26 (vecA 32 (fun j => .d (.sl (List.map E3 (r67.1.ready j)))) ++ ([.d (.sl (List.map E62 r67.1.delays)), .d (D.i .i64 r67.1.run)] : List AV)), .row 26 (vecA 32 (fun j => .d (.sl (List.map E3 (r67.1.ready j)))) ++ ([.d (.sl (List.map E62 r67.1.delays)), .d (D.i .i64 r67.1.run)] : List AV))]) rfl ?_
        refine WL.nil ?_
        exact we_lp ⟨r67.1.ready, r67.1.delays, r67.1.run, h, (Sub.cons rfl (Le.refl _) (Sub.cons rfl (Le.refl _) (Sub.cons rfl (Le.refl _) (Sub.nil _)))), ⟨⟨rfl, Les.refl _⟩, ⟨rfl, Les.refl _⟩, trivial⟩⟩
       ·replace h := condF h hc4
        refine wc_skip ?_
        exact we_lp ⟨c0059, c03260, c03361, h, (Sub.cons rfl (Le.refl _) (Sub.cons rfl (Le.refl _) (Sub.cons rfl (Le.refl _) (Sub.nil _)))), ⟨⟨rfl, Les.refl _⟩, ⟨rfl, Les.refl _⟩, trivial⟩⟩
      ·rintro env1 st1 ⟨c0068, c03269, c03370, h, hsub, hst⟩
       subst hk71
       dsimp only at h
       refine WC.sub hsub (WC.weak hst ?_)
       refine wc_sr ?_
       refine WL.qn (y_loadN rfl rfl a26 s26 rfl) rfl ?_
       obtain ⟨r75, hr75, h⟩ := bindS h
       refine WL.fn rfl rfl rfl rfl (f10_c _ hr75) ⟨(Le.agd ⟨(Le.refl _), (Le.refl _), (Le.refl _), (Le.refl _), (Le.refl _), (Le.refl _), (Le.refl _), (Le.refl _), (Le.refl _), (Le.refl _), (Le.refl _), (Le.refl _), (Le.refl _), (Le.refl _), (Le.refl _), (Le.refl _), (Le.refl _), (Le.refl _), (Le.refl _), (Le.refl _), (Le.refl _), (Le.refl _), (Le.refl _), (Le.refl _), (Le.refl _), (Le.refl _), (Le.refl _), (Le.refl _), (Le.refl _), (Le.refl _), (Le.refl _), (Le.refl _), (Le.refl _), (Le.refl _), trivial⟩), trivial⟩ (Wt.none rfl) rfl rfl ?_
       refine WL.qn (y_not rfl) rfl ?_
       refine WL.ns ?_
       refine wc_cond rfl (fun hc5 => ?_) (fun hc5 => ?_)
       ·replace h := condT h hc5
        refine wc_sr ?_
        refine WL.as rfl rfl ?_
        refine WL.ns ?_
        refine wc_ret ?_
        refine we_blk_ret ?_
        refine we_seq_ret ?_
        refine we_lp_ret ?_
        refine we_blk_ret ?_
        refine we_lp_ret ?_
        obtain rfl := Option.some.inj h
        exact we_ret_fn (rs1 rfl (rv_t rfl)) (Le.refl _)
       ·replace h := condF h hc5
        refine wc_skip ?_
        refine we_blk ?_
        refine we_seq ?_
        refine wc_region ?_
        refine WL.mv rfl rfl ?_
        refine WL.qn (y_add rfl rfl rfl) rfl ?_
        refine WL.as rfl rfl ?_
        refine WL.nil ?_
        refine WE.drop 1 (env' := [(0, .d (.sl (List.map E52 l0))), (3, .pt 0 0), (4, .d (D.i .i64 (IntKind.i64.wrap (iq58 + 1))))]) (Sub.one rfl (Sub.one rfl (Sub.one rfl (Sub.nil _)))) rfl rfl (Nat.zero_le _) ?_
        exact we_lp ⟨n, ⟨(IntKind.i64.wrap (iq58 + 1)), c0068, c03269, c03370, h, (Sub.cons rfl (Le.refl _) (Sub.cons rfl (Le.refl _) (Sub.cons rfl (Le.refl _) (Sub.nil _)))), ⟨⟨rfl, Les.refl _⟩, trivial⟩⟩, Nat.lt_succ_self n⟩
   ·replace h := condF h hc2
    refine wc_exit ?_
    refine we_seq_exit ?_
    refine we_lp_exit ?_
    refine we_blk_hit ?_
    exact we_lp ⟨c0059, c03260, c03361, h, (Sub.nil _), ⟨⟨rfl, Les.refl _⟩, trivial⟩⟩
  ·rintro env1 st1 ⟨c0050, c03251, c03352, h, hsub, hst⟩
   subst hk53
   dsimp only at h
   refine WC.sub hsub (WC.weak hst ?_)
   refine wc_sr ?_
   obtain ⟨r76, hr76, h⟩ := bindS h
   refine WL.fn rfl rfl rfl rfl (f11_c hr76) trivial (Wt.none rfl) rfl rfl ?_
   refine WL.as rfl rfl ?_
   refine WL.ns ?_
   refine wc_ret ?_
   obtain rfl := Option.some.inj h
   exact we_ret_fn (rs1 rfl (rv_t rfl)) (Le.refl _)

end Go.Proofs.Ytpionlekbfoccaa
