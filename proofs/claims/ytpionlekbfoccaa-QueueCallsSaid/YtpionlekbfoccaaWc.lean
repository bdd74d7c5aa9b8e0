/- The walks of functions. -/
import Derived.Test.YtpionlekbfoccaaProg
import Derived.KernelRfl
import Derived.Test.YtpionlekbfoccaaO
import Derived.Test.YtpionlekbfoccaaWb
set_option maxHeartbeats 4000000
set_option maxRecDepth 100000
namespace Go.Proofs.Ytpionlekbfoccaa
open Go Go.Sk

theorem f52_c (q0 : Queues) (task1 : Int) {r : Queues × Int} (h : f52 q0 task1 = some r) : Pu Try.prog 52 [.ag (R26 q0), .i .i64 task1] (.tu [.ag (R26 r.1), .i .i64 r.2]) := by
 unfold f52 at h
 refine fn_intro Try.func52 (by kernel_rfl) rfl rfl rfl (fun φφ ww => ?_)
 refine wc_sr ?_
 refine WL.s ((b_box rfl rfl).does) (Wt.none rfl) rfl rfl ?_
 refine WL.s ((b_alloc z26).does) (Wt.none rfl) rfl rfl ?_
 refine WL.as rfl rfl ?_
 refine WL.ns ?_
 refine wc_seq ?_
 refine wc_sr ?_
 refine WL.qn (y_loadN rfl rfl a26 s26 rfl) rfl ?_
 refine WL.mv rfl rfl ?_
 obtain ⟨r49, hr49, h⟩ := bindS h
 refine WL.fn rfl rfl rfl rfl (f73_c _ _ _ hr49) ⟨(Le.agd ⟨(Le.refl _), (Le.refl _), (Le.refl _), (Le.refl _), (Le.refl _), (Le.refl _), (Le.refl _), (Le.refl _), (Le.refl _), (Le.refl _), (Le.refl _), (Le.refl _), (Le.refl _), (Le.refl _), (Le.refl _), (Le.refl _), (Le.refl _), (Le.refl _), (Le.refl _), (Le.refl _), (Le.refl _), (Le.refl _), (Le.refl _), (Le.refl _), (Le.refl _), (Le.refl _), (Le.refl _), (Le.refl _), (Le.refl _), (Le.refl _), (Le.refl _), (Le.refl _), (Le.refl _), (Le.refl _), trivial⟩), (Le.refl _), (Le.refl _), trivial⟩ (Wt.none rfl) rfl rfl ?_
 refine WL.qn (y_neq rfl rfl) rfl ?_
 refine WL.ns ?_
 refine wc_cond rfl (fun hc1 => ?_) (fun hc1 => ?_)
 ·replace h := condT h hc1
  refine wc_sr ?_
  refine WL.qn (y_build p26 z26 rfl rfl) rfl ?_
  refine WL.s0 (d_store rfl rfl rfl rfl rfl rfl s26 rfl rfl) (Wt.none rfl) rfl ?_
  refine WL.st (st' := [.row 26 (vecA 32 (fun j => .d (.sl (List.map E3 (q0.ready j)))) ++ ([.d (.sl (List.map E62 q0.delays)), .d (D.i .i64 q0.run)] : List AV)), .row 26 [sN, sN, sN, sN, sN, sN, sN, sN, sN, sN, sN, sN, sN, sN, sN, sN, sN, sN, sN, sN, sN, sN, sN, sN, sN, sN, sN, sN, sN, sN, sN, sN, sN, .d (D.i .i64 0)]]) rfl ?_
  refine WL.as rfl rfl ?_
  refine WL.ns ?_
  refine wc_ret ?_
  refine we_seq_ret ?_
  obtain rfl := Option.some.inj h
  exact we_ret_fn (rs2 rfl (rv_cN rfl rfl a26 s26 rfl) (rv_t rfl)) (Le.tud ⟨(Le.agd ⟨Le.nil, Le.nil, Le.nil, Le.nil, Le.nil, Le.nil, Le.nil, Le.nil, Le.nil, Le.nil, Le.nil, Le.nil, Le.nil, Le.nil, Le.nil, Le.nil, Le.nil, Le.nil, Le.nil, Le.nil, Le.nil, Le.nil, Le.nil, Le.nil, Le.nil, Le.nil, Le.nil, Le.nil, Le.nil, Le.nil, Le.nil, Le.nil, Le.nil, (Le.refl _), trivial⟩), (Le.refl _), trivial⟩)
 ·replace h := condF h hc1
  refine wc_skip ?_
  refine we_seq ?_
  refine wc_seq ?_
  refine wc_sr ?_
  refine WL.qn (y_loadN rfl rfl a26 s26 rfl) rfl ?_
  refine WL.mv rfl rfl ?_
  obtain ⟨r50, hr50, h⟩ := bindS h
  refine WL.fn rfl rfl rfl rfl (f58_c _ _ hr50) ⟨(Le.agd ⟨(Le.refl _), (Le.refl _), (Le.refl _), (Le.refl _), (Le.refl _), (Le.refl _), (Le.refl _), (Le.refl _), (Le.refl _), (Le.refl _), (Le.refl _), (Le.refl _), (Le.refl _), (Le.refl _), (Le.refl _), (Le.refl _), (Le.refl _), (Le.refl _), (Le.refl _), (Le.refl _), (Le.refl _), (Le.refl _), (Le.refl _), (Le.refl _), (Le.refl _), (Le.refl _), (Le.refl _), (Le.refl _), (Le.refl _), (Le.refl _), (Le.refl _), (Le.refl _), (Le.refl _), (Le.refl _), trivial⟩), (Le.refl _), trivial⟩ (Wt.none rfl) rfl rfl ?_
  refine WL.qn (y_eql rfl rfl) rfl ?_
  refine WL.ns ?_
  refine wc_cond rfl (fun hc2 => ?_) (fun hc2 => ?_)
  ·replace h := condT h hc2
   refine wc_sr ?_
   refine WL.qn (y_build p26 z26 rfl rfl) rfl ?_
   refine WL.s0 (d_store rfl rfl rfl rfl rfl rfl s26 rfl rfl) (Wt.none rfl) rfl ?_
   refine WL.st (st' := [.row 26 (vecA 32 (fun j => .d (.sl (List.map E3 (q0.ready j)))) ++ ([.d (.sl (List.map E62 q0.delays)), .d (D.i .i64 q0.run)] : List AV)), .row 26 [sN, sN, sN, sN, sN, sN, sN, sN, sN, sN, sN, sN, sN, sN, sN, sN, sN, sN, sN, sN, sN, sN, sN, sN, sN, sN, sN, sN, sN, sN, sN, sN, sN, .d (D.i .i64 0)]]) rfl ?_
   refine WL.as rfl rfl ?_
   refine WL.ns ?_
   refine wc_ret ?_
   refine we_seq_ret ?_
   obtain rfl := Option.some.inj h
   exact we_ret_fn (rs2 rfl (rv_cN rfl rfl a26 s26 rfl) (rv_t rfl)) (Le.tud ⟨(Le.agd ⟨Le.nil, Le.nil, Le.nil, Le.nil, Le.nil, Le.nil, Le.nil, Le.nil, Le.nil, Le.nil, Le.nil, Le.nil, Le.nil, Le.nil, Le.nil, Le.nil, Le.nil, Le.nil, Le.nil, Le.nil, Le.nil, Le.nil, Le.nil, Le.nil, Le.nil, Le.nil, Le.nil, Le.nil, Le.nil, Le.nil, Le.nil, Le.nil, Le.nil, (Le.refl _), trivial⟩), (Le.refl _), trivial⟩)
  ·replace h := condF h hc2
   refine wc_skip ?_
   refine we_seq ?_
   refine wc_sr ?_
   refine WL.as rfl rfl ?_
   refine WL.nil_os 6 62 2 rfl ?_
   refine WL.ns ?_
   replace h := letkS h
   obtain ⟨k53, hk53, h⟩ := h
   refine wc_cut (fun env' st' => ∃ (l51 : List Due), ∃ (ver52 : Nat), k53 l51 = some r ∧ Sub [(2, .pt 0 0), (4, .pt 1 0), (6, .os 2 ver52)] env' ∧ SLe st' [.row 26 (vecA 32 (fun j => .d (.sl (List.map E3 (q0.ready j)))) ++ ([.d (.sl (List.map E62 q0.delays)), .d (D.i .i64 q0.run)] : List AV)), .row 26 [sN, sN, sN, sN, sN, sN, sN, sN, sN, sN, sN, sN, sN, sN, sN, sN, sN, sN, sN, sN, sN, sN, sN, sN, sN, sN, sN, sN, sN, sN, sN, sN, sN, .d (D.i .i64 0)], .os 62 2 ver52 (List.map (encA R62) l51)]) ?_ ?_
   ·refine wc_sr ?_
    refine WL.as rfl rfl ?_
    refine WL.ns ?_
    refine wc_block ?_
    refine wc_loop (fun n env' st' => ∃ (iq57 : Int), ∃ (l58 : List Due), ∃ (ver59 : Nat), f52_l1 q0 task1 k53 n iq57 l58 = some r ∧ Sub [(1, .d (D.i .i64 task1)), (2, .pt 0 0), (4, .pt 1 0), (6, .os 2 ver59), (7, .d (D.i .i64 iq57))] env' ∧ SLe st' [.row 26 (vecA 32 (fun j => .d (.sl (List.map E3 (q0.ready j)))) ++ ([.d (.sl (List.map E62 q0.delays)), .d (D.i .i64 q0.run)] : List AV)), .row 26 [sN, sN, sN, sN, sN, sN, sN, sN, sN, sN, sN, sN, sN, sN, sN, sN, sN, sN, sN, sN, sN, sN, sN, sN, sN, sN, sN, sN, sN, sN, sN, sN, sN, .d (D.i .i64 0)], .os 62 2 ver59 (List.map (encA R62) l58)]) (fun n => n) 9223372036854775808 ⟨0, [], _, h, (Sub.cons rfl (Le.refl _) (Sub.cons rfl (Le.refl _) (Sub.cons rfl (Le.refl _) (Sub.cons rfl (Le.refl _) (Sub.cons rfl (Le.refl _) (Sub.nil _)))))), ⟨⟨rfl, Les.refl _⟩, ⟨rfl, Les.refl _⟩, ⟨rfl, rfl, rfl, rfl⟩, trivial⟩⟩ ?_
    rintro n env1 st1 ⟨iq57, l58, ver59, h, hsub, hst⟩
    cases n with
    | zero => rw [f52_l1] at h; cases h
    | succ n =>
    rw [f52_l1] at h
    refine WC.sub hsub (WC.weak hst ?_)
    refine wc_seq ?_
    refine wc_sr ?_
    refine WL.mv rfl rfl ?_
    refine WL.qn (y_fieldAddr f26_1 rfl) rfl ?_
    refine WL.qn (y_load rfl rfl a24 rfl) rfl ?_
    refine WL.qn (y_len_map E62 q0.delays e24 rfl rfl (Le.refl _)) rfl ?_
    refine WL.qn (y_lss rfl rfl) rfl ?_
    refine WL.ns ?_
    refine wc_cond rfl (fun hc3 => ?_) (fun hc3 => ?_)
    ·replace h := condT h hc3
     refine wc_skip ?_
     refine we_seq ?_
     replace h := letkS h
     obtain ⟨k65, hk65, h⟩ := h
     refine wc_cut (fun env' st' => ∃ (l63 : List Due), ∃ (ver64 : Nat), k65 l63 = some r ∧ Sub [(1, .d (D.i .i64 task1)), (2, .pt 0 0), (4, .pt 1 0), (6, .os 2 ver64), (7, .d (D.i .i64 iq57))] env' ∧ SLe st' [.row 26 (vecA 32 (fun j => .d (.sl (List.map E3 (q0.ready j)))) ++ ([.d (.sl (List.map E62 q0.delays)), .d (D.i .i64 q0.run)] : List AV)), .row 26 [sN, sN, sN, sN, sN, sN, sN, sN, sN, sN, sN, sN, sN, sN, sN, sN, sN, sN, sN, sN, sN, sN, sN, sN, sN, sN, sN, sN, sN, sN, sN, sN, sN, .d (D.i .i64 0)], .os 62 2 ver64 (List.map (encA R62) l63)]) ?_ ?_
     ·refine wc_block ?_
      refine wc_sr ?_
      refine WL.qn (y_fieldAddr f26_1 rfl) rfl ?_
      refine WL.qn (y_load rfl rfl a24 rfl) rfl ?_
      refine WL.mv rfl rfl ?_
      obtain ⟨x66, hx66, h⟩ := bindS h
      refine WL.qn (y_indexAddr e24 rfl (Le.refl _) rfl (idx_nonneg hx66) (idx_row E62_eq hx66) rfl) rfl ?_
      refine WL.qn (y_fieldAddrc f62_1 rfl) rfl ?_
      refine WL.qn (y_loadc rfl a3 rfl) rfl ?_
      refine WL.mv rfl rfl ?_
      refine WL.qn (y_neq rfl rfl) rfl ?_
      refine WL.ns ?_
      refine wc_cond rfl (fun hc4 => ?_) (fun hc4 => ?_)
      ·replace h := condT h hc4
       refine wc_region ?_
       refine WL.mv rfl rfl ?_
       refine WL.qn (y_fieldAddr f26_1 rfl) rfl ?_
       refine WL.qn (y_load rfl rfl a24 rfl) rfl ?_
       refine WL.mv rfl rfl ?_
       obtain ⟨x67, hx67, h⟩ := bindS h
       refine WL.qn (y_indexAddr e24 rfl (Le.refl _) rfl (idx_nonneg hx67) (idx_row E62_eq hx67) rfl) rfl ?_
       refine WL.qn (y_loadcN rfl a62 s62 rfl) rfl ?_
       refine WL.s ((NewOs.b (n_buildSlice l24 z62 rfl (by decide) (by decide) rfl rfl rfl (by decide))).does) (Wt.none rfl) rfl rfl ?_
       replace h := guardBS h
       obtain ⟨hgg68, h⟩ := h
       refine WL.s (d_appendL R62 l58 [x67] l24 z62 rfl (by decide) rfl rfl rfl rfl (Src.own rfl) (fun _ => rfl) (fun _ => rfl) hgg68) (Wt.none rfl) rfl rfl ?_
       refine WL.as rfl rfl ?_
       refine WL.nil ?_
       refine we_blk ?_
       refine WE.drop 3 (env' := [(1, .d (D.i .i64 task1)), (2, .pt 0 0), (4, .pt 1 0), (6, .os 2 (ver59 + 1)), (7, .d (D.i .i64 iq57))]) (Sub.one rfl (Sub.one rfl (Sub.one rfl (Sub.one rfl (Sub.one rfl (Sub.nil _)))))) rfl (stLt_cons rfl (stLt_cons rfl (stLt_cons (lt_os _ _ _ _ _ _) rfl))) (Nat.zero_le _) ?_
       exact we_lp ⟨(l58 ++ [x67]), _, h, (Sub.cons rfl (Le.refl _) (Sub.cons rfl (Le.refl _) (Sub.cons rfl (Le.refl _) (Sub.cons rfl (Le.refl _) (Sub.cons rfl (Le.refl _) (Sub.nil _)))))), ⟨⟨rfl, Les.refl _⟩, ⟨rfl, Les.refl _⟩, ⟨rfl, rfl, rfl, rfl⟩, trivial⟩⟩
      ·replace h := condF h hc4
       refine wc_skip ?_
       refine we_blk ?_
       exact we_lp ⟨l58, _, h, (Sub.cons rfl (Le.refl _) (Sub.cons rfl (Le.refl _) (Sub.cons rfl (Le.refl _) (Sub.cons rfl (Le.refl _) (Sub.cons rfl (Le.refl _) (Sub.nil _)))))), ⟨⟨rfl, Les.refl _⟩, ⟨rfl, Les.refl _⟩, ⟨rfl, rfl, rfl, rfl⟩, trivial⟩⟩
     ·rintro env1 st1 ⟨l63, ver64, h, hsub, hst⟩
      subst hk65
      dsimp only at h
      refine WC.sub hsub (WC.weak hst ?_)
      refine wc_region ?_
      refine WL.mv rfl rfl ?_
      refine WL.qn (y_add rfl rfl rfl) rfl ?_
      refine WL.as rfl rfl ?_
      refine WL.nil ?_
      exact we_lp ⟨n, ⟨(IntKind.i64.wrap (iq57 + 1)), l63, _, h, (Sub.cons rfl (Le.refl _) (Sub.cons rfl (Le.refl _) (Sub.cons rfl (Le.refl _) (Sub.cons rfl (Le.refl _) (Sub.cons rfl (Le.refl _) (Sub.nil _)))))), ⟨⟨rfl, Les.refl _⟩, ⟨rfl, Les.refl _⟩, ⟨rfl, rfl, rfl, rfl⟩, trivial⟩⟩, Nat.lt_succ_self n⟩
    ·replace h := condF h hc3
     refine wc_exit ?_
     refine we_seq_exit ?_
     refine we_lp_exit ?_
     refine we_blk_hit ?_
     exact we_lp ⟨l58, _, h, (Sub.cons rfl (Le.refl _) (Sub.cons rfl (Le.refl _) (Sub.cons rfl (Le.refl _) (Sub.nil _)))), ⟨⟨rfl, Les.refl _⟩, ⟨rfl, Les.refl _⟩, ⟨rfl, rfl, rfl, rfl⟩, trivial⟩⟩
   ·rintro env1 st1 ⟨l51, ver52, h, hsub, hst⟩
    subst hk53
    dsimp only at h
    refine WC.sub hsub (WC.weak hst ?_)
    refine wc_sr ?_
    refine WL.qn (y_loadN rfl rfl a26 s26 rfl) rfl ?_
    obtain ⟨r69, hr69, h⟩ := bindS h
    refine WL.fn rfl rfl rfl rfl (O.f23_c _ hr69) ⟨(Le.agd ⟨(Le.refl _), (Le.refl _), (Le.refl _), (Le.refl _), (Le.refl _), (Le.refl _), (Le.refl _), (Le.refl _), (Le.refl _), (Le.refl _), (Le.refl _), (Le.refl _), (Le.refl _), (Le.refl _), (Le.refl _), (Le.refl _), (Le.refl _), (Le.refl _), (Le.refl _), (Le.refl _), (Le.refl _), (Le.refl _), (Le.refl _), (Le.refl _), (Le.refl _), (Le.refl _), (Le.refl _), (Le.refl _), (Le.refl _), (Le.refl _), (Le.refl _), (Le.refl _), (Le.refl _), (Le.refl _), trivial⟩), trivial⟩ (Wt.none rfl) rfl rfl ?_
    refine WL.s0 (d_store rfl rfl rfl rfl rfl rfl s26 rfl rfl) (Wt.none rfl) rfl ?_
    refine WL.st (st' := [.row 26 (vecA 32 (fun j => .d (.sl (List.map E3 (r69.ready j)))) ++ ([.d (.sl (List.map E62 r69.delays)), .d (D.i .i64 r69.run)] : List AV)), .row 26 [sN, sN, sN, sN, sN, sN, sN, sN, sN, sN, sN, sN, sN, sN, sN, sN, sN, sN, sN, sN, sN, sN, sN, sN, sN, sN, sN, sN, sN, sN, sN, sN, sN, .d (D.i .i64 0)], .os 62 2 ver52 (List.map (encA R62) l51)]) rfl ?_
    refine WL.ns ?_
    refine wc_sr ?_
    refine WL.mv rfl rfl ?_
    refine WL.qn (y_fieldAddr f26_1 rfl) rfl ?_
    refine WL.s0 (d_store1 rfl rfl rfl (one_os rfl) s24 rfl) (Wt.none rfl) rfl ?_
    refine WL.st (st' := [.row 26 (vecA 32 (fun j => .d (.sl (List.map E3 (r69.ready j)))) ++ ([.os 2 ver52, .d (D.i .i64 r69.run)] : List AV)), .row 26 [sN, sN, sN, sN, sN, sN, sN, sN, sN, sN, sN, sN, sN, sN, sN, sN, sN, sN, sN, sN, sN, sN, sN, sN, sN, sN, sN, sN, sN, sN, sN, sN, sN, .d (D.i .i64 0)], .os 62 2 ver52 (List.map (encA R62) l51)]) rfl ?_
    refine WL.ns ?_
    refine wc_sr ?_
    refine WL.freezeX [6, 43] [(0, 32)] 2 (List.map E62 l51) rfl (encA_map E62_eq l51) ⟨rfl, rfl, trivial⟩ ⟨_, _, rfl, rfl, trivial⟩ ?_
    refine WL.qn (y_loadN rfl rfl a26 s26 rfl) rfl ?_
    refine WL.s0 (d_store rfl rfl rfl rfl rfl rfl s26 rfl rfl) (Wt.none rfl) rfl ?_
    refine WL.st (st' := [.row 26 (vecA 32 (fun j => .d (.sl (List.map E3 (r69.ready j)))) ++ ([.d (.sl (List.map E62 l51)), .d (D.i .i64 r69.run)] : List AV)), .row 26 (vecA 32 (fun j => .d (.sl (List.map E3 (r69.ready j)))) ++ ([.d (.sl (List.map E62 l51)), .d (D.i .i64 r69.run)] : List AV)), .dead]) rfl ?_
    refine WL.as rfl rfl ?_
    refine WL.ns ?_
    refine wc_ret ?_
    obtain rfl := Option.some.inj h
    exact we_ret_fn (rs2 rfl (rv_cN rfl rfl a26 s26 rfl) (rv_t rfl)) (Le.tud ⟨(Le.agd ⟨(Le.refl _), (Le.refl _), (Le.refl _), (Le.refl _), (Le.refl _), (Le.refl _), (Le.refl _), (Le.refl _), (Le.refl _), (Le.refl _), (Le.refl _), (Le.refl _), (Le.refl _), (Le.refl _), (Le.refl _), (Le.refl _), (Le.refl _), (Le.refl _), (Le.refl _), (Le.refl _), (Le.refl _), (Le.refl _), (Le.refl _), (Le.refl _), (Le.refl _), (Le.refl _), (Le.refl _), (Le.refl _), (Le.refl _), (Le.refl _), (Le.refl _), (Le.refl _), (Le.refl _), (Le.refl _), trivial⟩), (Le.refl _), trivial⟩)

theorem f53_c (q0 : Queues) (now1 : Int) {r : Queues × (List Int) × Int} (h : f53 q0 now1 = some r) : Pu Try.prog 53 [.ag (R26 q0), .i .i64 now1] (.tu [.ag (R26 r.1), .sl (List.map E3 r.2.1), .i .i64 r.2.2]) := by
 unfold f53 at h
 refine fn_intro Try.func53 (by kernel_rfl) rfl rfl rfl (fun φφ ww => ?_)
 refine wc_sr ?_
 refine WL.s ((b_box rfl rfl).does) (Wt.none rfl) rfl rfl ?_
 refine WL.s ((b_alloc z26).does) (Wt.none rfl) rfl rfl ?_
 refine WL.as rfl rfl ?_
 refine WL.as rfl rfl ?_
 refine WL.ns ?_
 refine wc_seq ?_
 refine wc_sr ?_
 refine WL.qn (y_loadN rfl rfl a26 s26 rfl) rfl ?_
 obtain ⟨r55, hr55, h⟩ := bindS h
 refine WL.fn rfl rfl rfl rfl (f25_c _ hr55) ⟨(Le.agd ⟨(Le.refl _), (Le.refl _), (Le.refl _), (Le.refl _), (Le.refl _), (Le.refl _), (Le.refl _), (Le.refl _), (Le.refl _), (Le.refl _), (Le.refl _), (Le.refl _), (Le.refl _), (Le.refl _), (Le.refl _), (Le.refl _), (Le.refl _), (Le.refl _), (Le.refl _), (Le.refl _), (Le.refl _), (Le.refl _), (Le.refl _), (Le.refl _), (Le.refl _), (Le.refl _), (Le.refl _), (Le.refl _), (Le.refl _), (Le.refl _), (Le.refl _), (Le.refl _), (Le.refl _), (Le.refl _), trivial⟩), trivial⟩ (Wt.none rfl) rfl rfl ?_
 refine WL.qn (y_not rfl) rfl ?_
 refine WL.ns ?_
 refine wc_cond rfl (fun hc1 => ?_) (fun hc1 => ?_)
 ·replace h := condT h hc1
  refine wc_sr ?_
  refine WL.qn (y_build p26 z26 rfl rfl) rfl ?_
  refine WL.s0 (d_store rfl rfl rfl rfl rfl rfl s26 rfl rfl) (Wt.none rfl) rfl ?_
  refine WL.st (st' := [.row 26 (vecA 32 (fun j => .d (.sl (List.map E3 (q0.ready j)))) ++ ([.d (.sl (List.map E62 q0.delays)), .d (D.i .i64 q0.run)] : List AV)), .row 26 [sN, sN, sN, sN, sN, sN, sN, sN, sN, sN, sN, sN, sN, sN, sN, sN, sN, sN, sN, sN, sN, sN, sN, sN, sN, sN, sN, sN, sN, sN, sN, sN, sN, .d (D.i .i64 0)]]) rfl ?_
  refine WL.as rfl rfl ?_
  refine WL.as rfl rfl ?_
  refine WL.ns ?_
  refine wc_ret ?_
  refine we_seq_ret ?_
  obtain rfl := Option.some.inj h
  exact we_ret_fn (rs3 rfl (rv_cN rfl rfl a26 s26 rfl) (rv_t rfl) (rv_t rfl)) (Le.tud ⟨(Le.agd ⟨Le.nil, Le.nil, Le.nil, Le.nil, Le.nil, Le.nil, Le.nil, Le.nil, Le.nil, Le.nil, Le.nil, Le.nil, Le.nil, Le.nil, Le.nil, Le.nil, Le.nil, Le.nil, Le.nil, Le.nil, Le.nil, Le.nil, Le.nil, Le.nil, Le.nil, Le.nil, Le.nil, Le.nil, Le.nil, Le.nil, Le.nil, Le.nil, Le.nil, (Le.refl _), trivial⟩), Le.nil, (Le.refl _), trivial⟩)
 ·replace h := condF h hc1
  refine wc_skip ?_
  refine we_seq ?_
  refine wc_sr ?_
  refine WL.as rfl rfl ?_
  refine WL.nil_os 7 62 2 rfl ?_
  refine WL.ns ?_
  refine wc_sr ?_
  refine WL.as rfl rfl ?_
  refine WL.nil_os 8 3 1 rfl ?_
  refine WL.ns ?_
  replace h := letkS h
  obtain ⟨k60, hk60, h⟩ := h
  refine wc_cut (fun env' st' => ∃ (l56 : List Due), ∃ (ver57 : Nat), ∃ (l58 : List Int), ∃ (ver59 : Nat), k60 l56 l58 = some r ∧ Sub [(2, .pt 0 0), (4, .pt 1 0), (7, .os 2 ver57), (8, .os 3 ver59)] env' ∧ SLe st' [.row 26 (vecA 32 (fun j => .d (.sl (List.map E3 (q0.ready j)))) ++ ([.d (.sl (List.map E62 q0.delays)), .d (D.i .i64 q0.run)] : List AV)), .row 26 [sN, sN, sN, sN, sN, sN, sN, sN, sN, sN, sN, sN, sN, sN, sN, sN, sN, sN, sN, sN, sN, sN, sN, sN, sN, sN, sN, sN, sN, sN, sN, sN, sN, .d (D.i .i64 0)], .os 62 2 ver57 (List.map (encA R62) l56), .os 3 1 ver59 (List.map (encA E3) l58)]) ?_ ?_
  ·refine wc_sr ?_
   refine WL.as rfl rfl ?_
   refine WL.ns ?_
   refine wc_block ?_
   refine wc_loop (fun n env' st' => ∃ (iq66 : Int), ∃ (l67 : List Due), ∃ (ver68 : Nat), ∃ (l69 : List Int), ∃ (ver70 : Nat), f53_l1 q0 now1 k60 n iq66 l67 l69 = some r ∧ Sub [(1, .d (D.i .i64 now1)), (2, .pt 0 0), (4, .pt 1 0), (7, .os 2 ver68), (8, .os 3 ver70), (9, .d (D.i .i64 iq66))] env' ∧ SLe st' [.row 26 (vecA 32 (fun j => .d (.sl (List.map E3 (q0.ready j)))) ++ ([.d (.sl (List.map E62 q0.delays)), .d (D.i .i64 q0.run)] : List AV)), .row 26 [sN, sN, sN, sN, sN, sN, sN, sN, sN, sN, sN, sN, sN, sN, sN, sN, sN, sN, sN, sN, sN, sN, sN, sN, sN, sN, sN, sN, sN, sN, sN, sN, sN, .d (D.i .i64 0)], .os 62 2 ver68 (List.map (encA R62) l67), .os 3 1 ver70 (List.map (encA E3) l69)]) (fun n => n) 9223372036854775808 ⟨0, [], _, [], _, h, (Sub.cons rfl (Le.refl _) (Sub.cons rfl (Le.refl _) (Sub.cons rfl (Le.refl _) (Sub.cons rfl (Le.refl _) (Sub.cons rfl (Le.refl _) (Sub.cons rfl (Le.refl _) (Sub.nil _))))))), ⟨⟨rfl, Les.refl _⟩, ⟨rfl, Les.refl _⟩, ⟨rfl, rfl, rfl, rfl⟩, ⟨rfl, rfl, rfl, rfl⟩, trivial⟩⟩ ?_
   rintro n env1 st1 ⟨iq66, l67, ver68, l69, ver70, h, hsub, hst⟩
   cases n with
   | zero => rw [f53_l1] at h; cases h
   | succ n =>
   rw [f53_l1] at h
   refine WC.sub hsub (WC.weak hst ?_)
   refine wc_seq ?_
   refine wc_sr ?_
   refine WL.mv rfl rfl ?_
   refine WL.qn (y_fieldAddr f26_1 rfl) rfl ?_
   refine WL.qn (y_load rfl rfl a24 rfl) rfl ?_
   refine WL.qn (y_len_map E62 q0.delays e24 rfl rfl (Le.refl _)) rfl ?_
   refine WL.qn (y_lss rfl rfl) rfl ?_
   refine WL.ns ?_
   refine wc_cond rfl (fun hc2 => ?_) (fun hc2 => ?_)
   ·replace h := condT h hc2
    refine wc_skip ?_
    refine we_seq ?_
    replace h := letkS h
    obtain ⟨k80, hk80, h⟩ := h
    refine wc_cut (fun env' st' => ∃ (l76 : List Due), ∃ (ver77 : Nat), ∃ (l78 : List Int), ∃ (ver79 : Nat), k80 l76 l78 = some r ∧ Sub [(1, .d (D.i .i64 now1)), (2, .pt 0 0), (4, .pt 1 0), (7, .os 2 ver77), (8, .os 3 ver79), (9, .d (D.i .i64 iq66))] env' ∧ SLe st' [.row 26 (vecA 32 (fun j => .d (.sl (List.map E3 (q0.ready j)))) ++ ([.d (.sl (List.map E62 q0.delays)), .d (D.i .i64 q0.run)] : List AV)), .row 26 [sN, sN, sN, sN, sN, sN, sN, sN, sN, sN, sN, sN, sN, sN, sN, sN, sN, sN, sN, sN, sN, sN, sN, sN, sN, sN, sN, sN, sN, sN, sN, sN, sN, .d (D.i .i64 0)], .os 62 2 ver77 (List.map (encA R62) l76), .os 3 1 ver79 (List.map (encA E3) l78), .dead]) ?_ ?_
    ·refine wc_block ?_
     refine wc_sr ?_
     refine WL.qn (y_fieldAddr f26_1 rfl) rfl ?_
     refine WL.qn (y_load rfl rfl a24 rfl) rfl ?_
     refine WL.mv rfl rfl ?_
     obtain ⟨x81, hx81, h⟩ := bindS h
     refine WL.qn (y_indexAddr e24 rfl (Le.refl _) rfl (idx_nonneg hx81) (idx_row E62_eq hx81) rfl) rfl ?_
     refine WL.qn (y_fieldAddrc f62_0 rfl) rfl ?_
     refine WL.qn (y_loadc rfl a2 rfl) rfl ?_
     refine WL.mv rfl rfl ?_
     refine WL.qn (y_leq rfl rfl) rfl ?_
     refine WL.ns ?_
     refine wc_cond rfl (fun hc3 => ?_) (fun hc3 => ?_)
     ·replace h := condT h hc3
      refine wc_region ?_
      refine WL.mv rfl rfl ?_
      refine WL.qn (y_fieldAddr f26_1 rfl) rfl ?_
      refine WL.qn (y_load rfl rfl a24 rfl) rfl ?_
      refine WL.mv rfl rfl ?_
      obtain ⟨x82, hx82, h⟩ := bindS h
      refine WL.qn (y_indexAddr e24 rfl (Le.refl _) rfl (idx_nonneg hx82) (idx_row E62_eq hx82) rfl) rfl ?_
      refine WL.qn (y_fieldAddrc f62_1 rfl) rfl ?_
      refine WL.qn (y_loadc rfl a3 rfl) rfl ?_
      refine WL.s ((NewOs.b (n_buildSlice l22 z3 rfl (by decide) (by decide) rfl rfl rfl (by decide))).does) (Wt.none rfl) rfl rfl ?_
      replace h := guardBS h
      obtain ⟨hgg83, h⟩ := h
      refine WL.s (d_appendL E3 l69 [x82.task] l22 z3 rfl (by decide) rfl rfl rfl rfl (Src.own rfl) (fun _ => rfl) (fun _ => rfl) hgg83) (Wt.none rfl) rfl rfl ?_
      refine WL.as rfl rfl ?_
      refine WL.nil ?_
      refine we_blk ?_
      exact we_lp ⟨l67, _, (l69 ++ [x82.task]), _, h, (Sub.cons rfl (Le.refl _) (Sub.cons rfl (Le.refl _) (Sub.cons rfl (Le.refl _) (Sub.cons rfl (Le.refl _) (Sub.cons rfl (Le.refl _) (Sub.cons rfl (Le.refl _) (Sub.nil _))))))), ⟨⟨rfl, Les.refl _⟩, ⟨rfl, Les.refl _⟩, ⟨rfl, rfl, rfl, rfl⟩, ⟨rfl, rfl, rfl, rfl⟩, trivial, trivial⟩⟩
     ·replace h := condF h hc3
      refine wc_region ?_
      refine WL.mv rfl rfl ?_
      refine WL.qn (y_fieldAddr f26_1 rfl) rfl ?_
      refine WL.qn (y_load rfl rfl a24 rfl) rfl ?_
      refine WL.mv rfl rfl ?_
      obtain ⟨x84, hx84, h⟩ := bindS h
      refine WL.qn (y_indexAddr e24 rfl (Le.refl _) rfl (idx_nonneg hx84) (idx_row E62_eq hx84) rfl) rfl ?_
      refine WL.qn (y_loadcN rfl a62 s62 rfl) rfl ?_
      refine WL.s ((NewOs.b (n_buildSlice l24 z62 rfl (by decide) (by decide) rfl rfl rfl (by decide))).does) (Wt.none rfl) rfl rfl ?_
      replace h := guardBS h
      obtain ⟨hgg85, h⟩ := h
      refine WL.s (d_appendL R62 l67 [x84] l24 z62 rfl (by decide) rfl rfl rfl rfl (Src.own rfl) (fun _ => rfl) (fun _ => rfl) hgg85) (Wt.none rfl) rfl rfl ?_
      refine WL.as rfl rfl ?_
      refine WL.nil ?_
      refine we_blk ?_
      exact we_lp ⟨(l67 ++ [x84]), _, l69, _, h, (Sub.cons rfl (Le.refl _) (Sub.cons rfl (Le.refl _) (Sub.cons rfl (Le.refl _) (Sub.cons rfl (Le.refl _) (Sub.cons rfl (Le.refl _) (Sub.cons rfl (Le.refl _) (Sub.nil _))))))), ⟨⟨rfl, Les.refl _⟩, ⟨rfl, Les.refl _⟩, ⟨rfl, rfl, rfl, rfl⟩, ⟨rfl, rfl, rfl, rfl⟩, trivial, trivial⟩⟩
    ·rintro env1 st1 ⟨l76, ver77, l78, ver79, h, hsub, hst⟩
     subst hk80
     dsimp only at h
     refine WC.sub hsub (WC.weak hst ?_)
     refine wc_region ?_
     refine WL.mv rfl rfl ?_
     refine WL.qn (y_add rfl rfl rfl) rfl ?_
     refine WL.as rfl rfl ?_
     refine WL.nil ?_
     refine WE.drop 4 (env' := [(1, .d (D.i .i64 now1)), (2, .pt 0 0), (4, .pt 1 0), (7, .os 2 ver77), (8, .os 3 ver79), (9, .d (D.i .i64 (IntKind.i64.wrap (iq66 + 1))))]) (Sub.one rfl (Sub.one rfl (Sub.one rfl (Sub.one rfl (Sub.one rfl (Sub.one rfl (Sub.nil _))))))) rfl (stLt_cons rfl (stLt_cons rfl (stLt_cons (lt_os _ _ _ _ _ _) (stLt_cons (lt_os _ _ _ _ _ _) rfl)))) (Nat.zero_le _) ?_
     exact we_lp ⟨n, ⟨(IntKind.i64.wrap (iq66 + 1)), l76, _, l78, _, h, (Sub.cons rfl (Le.refl _) (Sub.cons rfl (Le.refl _) (Sub.cons rfl (Le.refl _) (Sub.cons rfl (Le.refl _) (Sub.cons rfl (Le.refl _) (Sub.cons rfl (Le.refl _) (Sub.nil _))))))), ⟨⟨rfl, Les.refl _⟩, ⟨rfl, Les.refl _⟩, ⟨rfl, rfl, rfl, rfl⟩, ⟨rfl, rfl, rfl, rfl⟩, trivial⟩⟩, Nat.lt_succ_self n⟩
   ·replace h := condF h hc2
    refine wc_exit ?_
    refine we_seq_exit ?_
    refine we_lp_exit ?_
    refine we_blk_hit ?_
    exact we_lp ⟨l67, _, l69, _, h, (Sub.cons rfl (Le.refl _) (Sub.cons rfl (Le.refl _) (Sub.cons rfl (Le.refl _) (Sub.cons rfl (Le.refl _) (Sub.nil _))))), ⟨⟨rfl, Les.refl _⟩, ⟨rfl, Les.refl _⟩, ⟨rfl, rfl, rfl, rfl⟩, ⟨rfl, rfl, rfl, rfl⟩, trivial⟩⟩
  ·rintro env1 st1 ⟨l56, ver57, l58, ver59, h, hsub, hst⟩
   subst hk60
   dsimp only at h
   refine WC.sub hsub (WC.weak hst ?_)
   refine wc_sr ?_
   refine WL.qn (y_loadN rfl rfl a26 s26 rfl) rfl ?_
   obtain ⟨r86, hr86, h⟩ := bindS h
   refine WL.fn rfl rfl rfl rfl (O.f23_c _ hr86) ⟨(Le.agd ⟨(Le.refl _), (Le.refl _), (Le.refl _), (Le.refl _), (Le.refl _), (Le.refl _), (Le.refl _), (Le.refl _), (Le.refl _), (Le.refl _), (Le.refl _), (Le.refl _), (Le.refl _), (Le.refl _), (Le.refl _), (Le.refl _), (Le.refl _), (Le.refl _), (Le.refl _), (Le.refl _), (Le.refl _), (Le.refl _), (Le.refl _), (Le.refl _), (Le.refl _), (Le.refl _), (Le.refl _), (Le.refl _), (Le.refl _), (Le.refl _), (Le.refl _), (Le.refl _), (Le.refl _), (Le.refl _), trivial⟩), trivial⟩ (Wt.none rfl) rfl rfl ?_
   refine WL.s0 (d_store rfl rfl rfl rfl rfl rfl s26 rfl rfl) (Wt.none rfl) rfl ?_
   refine WL.st (st' := [.row 26 (vecA 32 (fun j => .d (.sl (List.map E3 (r86.ready j)))) ++ ([.d (.sl (List.map E62 r86.delays)), .d (D.i .i64 r86.run)] : List AV)), .row 26 [sN, sN, sN, sN, sN, sN, sN, sN, sN, sN, sN, sN, sN, sN, sN, sN, sN, sN, sN, sN, sN, sN, sN, sN, sN, sN, sN, sN, sN, sN, sN, sN, sN, .d (D.i .i64 0)], .os 62 2 ver57 (List.map (encA R62) l56), .os 3 1 ver59 (List.map (encA E3) l58)]) rfl ?_
   refine WL.ns ?_
   refine wc_sr ?_
   refine WL.mv rfl rfl ?_
   refine WL.qn (y_fieldAddr f26_1 rfl) rfl ?_
   refine WL.s0 (d_store1 rfl rfl rfl (one_os rfl) s24 rfl) (Wt.none rfl) rfl ?_
   refine WL.st (st' := [.row 26 (vecA 32 (fun j => .d (.sl (List.map E3 (r86.ready j)))) ++ ([.os 2 ver57, .d (D.i .i64 r86.run)] : List AV)), .row 26 [sN, sN, sN, sN, sN, sN, sN, sN, sN, sN, sN, sN, sN, sN, sN, sN, sN, sN, sN, sN, sN, sN, sN, sN, sN, sN, sN, sN, sN, sN, sN, sN, sN, .d (D.i .i64 0)], .os 62 2 ver57 (List.map (encA R62) l56), .os 3 1 ver59 (List.map (encA E3) l58)]) rfl ?_
   refine WL.ns ?_
   refine wc_sr ?_
   refine WL.freezeX [7, 48] [(0, 32)] 2 (List.map E62 l56) rfl (encA_map E62_eq l56) ⟨rfl, rfl, trivial⟩ ⟨_, _, rfl, rfl, trivial⟩ ?_
   refine WL.qn (y_loadN rfl rfl a26 s26 rfl) rfl ?_
   refine WL.mv rfl rfl ?_
   refine WL.s0 (d_store rfl rfl rfl rfl rfl rfl s26 rfl rfl) (Wt.none rfl) rfl ?_
   refine WL.st (st' := [.row 26 (vecA 32 (fun j => .d (.sl (List.map E3 (r86.ready j)))) ++ ([.d (.sl (List.map E62 l56)), .d (D.i .i64 r86.run)] : List AV)), .row 26 (vecA 32 (fun j => .d (.sl (List.map E3 (r86.ready j)))) ++ ([.d (.sl (List.map E62 l56)), .d (D.i .i64 r86.run)] : List AV)), .dead, .os 3 1 ver59 (List.map (encA E3) l58)]) rfl ?_
   refine WL.as rfl rfl ?_
   refine WL.as rfl rfl ?_
   refine WL.ns ?_
   refine wc_ret ?_
   refine WE.freezeX [8, 51, 5] [] 3 (List.map E3 l58) rfl (encA_map E3_eq l58) ⟨rfl, rfl, rfl, trivial⟩ trivial ?_
   obtain rfl := Option.some.inj h
   exact we_ret_fn (rs3 rfl (rv_cN rfl rfl a26 s26 rfl) (rv_t rfl) (rv_t rfl)) (Le.tud ⟨(Le.agd ⟨(Le.refl _), (Le.refl _), (Le.refl _), (Le.refl _), (Le.refl _), (Le.refl _), (Le.refl _), (Le.refl _), (Le.refl _), (Le.refl _), (Le.refl _), (Le.refl _), (Le.refl _), (Le.refl _), (Le.refl _), (Le.refl _), (Le.refl _), (Le.refl _), (Le.refl _), (Le.refl _), (Le.refl _), (Le.refl _), (Le.refl _), (Le.refl _), (Le.refl _), (Le.refl _), (Le.refl _), (Le.refl _), (Le.refl _), (Le.refl _), (Le.refl _), (Le.refl _), (Le.refl _), (Le.refl _), trivial⟩), (Le.refl _), (Le.refl _), trivial⟩)

theorem f55_c (q0 : Queues) {r : Int × Bool} (h : f55 q0 = some r) : Pu Try.prog 55 [.ag (R26 q0)] (.tu [.i .i64 r.1, .b r.2]) := by
 unfold f55 at h
 refine fn_intro Try.func55 (by kernel_rfl) rfl rfl rfl (fun φφ ww => ?_)
 refine wc_sr ?_
 refine WL.s ((b_boxd rfl rfl (Les.refl _)).does) (Wt.none rfl) rfl rfl ?_
 refine WL.as rfl rfl ?_
 refine WL.as rfl rfl ?_
 refine WL.ns ?_
 refine wc_seq ?_
 refine wc_sr ?_
 refine WL.qn (y_loadcN rfl a26 s26 rfl) rfl ?_
 obtain ⟨r20, hr20, h⟩ := bindS h
 refine WL.fn rfl rfl rfl rfl (f25_c _ hr20) ⟨(Le.refl _), trivial⟩ (Wt.none rfl) rfl rfl ?_
 refine WL.qn (y_not rfl) rfl ?_
 refine WL.mv rfl rfl ?_
 apply WL.or 5 (t := 7) (d := 12)
 ·exact rfl
 ·intro hg7
  refine WL.qy (y_fieldAddrc f26_1 rfl) rfl rfl rfl ?_
  refine WL.qy (y_loadc rfl a24 rfl) rfl rfl rfl ?_
  refine WL.qy (y_len_map E62 q0.delays e24 rfl rfl (Le.refl _)) rfl rfl rfl ?_
  refine WL.qy (y_eql rfl rfl) rfl rfl rfl ?_
  refine WL.qn (y_pick_f rfl rfl) rfl ?_
  exact WL.nil ⟨rfl, [_, _, _, _, _], rfl, rfl, rfl⟩
 ·refine WL.skips 4 rfl ?_
  refine WL.qn (y_pick_t rfl rfl) rfl ?_
  exact WL.nil ⟨rfl, [_, _, _, _, _], rfl, rfl, rfl⟩
 refine WL.ns ?_
 refine wc_cond rfl (fun hc1 => ?_) (fun hc1 => ?_)
 ·replace h := condT h hc1
  refine wc_sr ?_
  refine WL.as rfl rfl ?_
  refine WL.as rfl rfl ?_
  refine WL.ns ?_
  refine wc_ret ?_
  refine we_seq_ret ?_
  obtain rfl := Option.some.inj h
  exact we_ret_fn (rs2 rfl (rv_t rfl) (rv_t rfl)) (Le.tud ⟨(Le.refl _), (Le.refl _), trivial⟩)
 ·replace h := condF h hc1
  refine wc_skip ?_
  refine we_seq ?_
  refine wc_sr ?_
  refine WL.qn (y_fieldAddrc f26_1 rfl) rfl ?_
  refine WL.qn (y_loadc rfl a24 rfl) rfl ?_
  obtain ⟨x21, hx21, h⟩ := bindS h
  refine WL.qn (y_indexAddr e24 rfl (Le.refl _) rfl (idx_nonneg hx21) (idx_row E62_eq hx21) rfl) rfl ?_
  refine WL.qn (y_fieldAddrc f62_0 rfl) rfl ?_
  refine WL.qn (y_loadc rfl a2 rfl) rfl ?_
  refine WL.as rfl rfl ?_
  refine WL.as rfl rfl ?_
  refine WL.ns ?_
  refine wc_ret ?_
  obtain rfl := Option.some.inj h
  exact we_ret_fn (rs2 rfl (rv_t rfl) (rv_t rfl)) (Le.tud ⟨(Le.refl _), (Le.refl _), trivial⟩)

theorem f24_c (q0 : Queues) (x1 : Step) {r : Queues × Bool} (h : f24 q0 x1 = some r) : Pu Try.prog 24 [.ag (R26 q0), .ag (R52 x1)] (.tu [.ag (R26 r.1), .b r.2]) := by
 unfold f24 at h
 refine fn_intro Try.func24 (by kernel_rfl) rfl rfl rfl (fun φφ ww => ?_)
 refine wc_sr ?_
 refine WL.s ((b_boxd rfl rfl (Les.refl _)).does) (Wt.none rfl) rfl rfl ?_
 refine WL.s ((b_boxd rfl rfl (Les.refl _)).does) (Wt.none rfl) rfl rfl ?_
 refine WL.s ((b_alloc z26).does) (Wt.none rfl) rfl rfl ?_
 refine WL.as rfl rfl ?_
 refine WL.ns ?_
 refine wc_sr ?_
 refine WL.s ((b_alloc z26).does) (Wt.none rfl) rfl rfl ?_
 refine WL.s ((b_alloc z26).does) (Wt.none rfl) rfl rfl ?_
 refine WL.ns ?_
 refine wc_sr ?_
 refine WL.as rfl rfl ?_
 refine WL.ns ?_
 refine wc_sr ?_
 refine WL.as rfl rfl ?_
 refine WL.ns ?_
 refine wc_sr ?_
 refine WL.as rfl rfl ?_
 refine WL.as rfl rfl ?_
 refine WL.ns ?_
 replace h := letkS h
 obtain ⟨k244, hk244, h⟩ := h
 refine wc_cut (fun env' st' => ∃ (e234 : Int), ∃ (fq235 : Int), ∃ (l236 : List Int), ∃ (m237 : List Int), ∃ (c10238 : Nat → (List Int)), ∃ (c132239 : List Due), ∃ (c133240 : Int), ∃ (c20241 : Nat → (List Int)), ∃ (c232242 : List Due), ∃ (c233243 : Int), k244 e234 fq235 l236 m237 c10238 c132239 c133240 c20241 c232242 c233243 = some r ∧ Sub [(4, .pt 0 0), (6, .pt 1 0), (7, .pt 2 0), (8, .d (D.i .i64 e234)), (9, .d (D.i .i64 fq235)), (10, .d (.sl (List.map E3 l236))), (11, .d (.sl (List.map E3 m237)))] env' ∧ SLe st' [.row 26 [sN, sN, sN, sN, sN, sN, sN, sN, sN, sN, sN, sN, sN, sN, sN, sN, sN, sN, sN, sN, sN, sN, sN, sN, sN, sN, sN, sN, sN, sN, sN, sN, sN, .d (D.i .i64 0)], .row 26 (vecA 32 (fun j => .d (.sl (List.map E3 (c10238 j)))) ++ ([.d (.sl (List.map E62 c132239)), .d (D.i .i64 c133240)] : List AV)), .row 26 (vecA 32 (fun j => .d (.sl (List.map E3 (c20241 j)))) ++ ([.d (.sl (List.map E62 c232242)), .d (D.i .i64 c233243)] : List AV))]) ?_ ?_
 ·refine wc_sr ?_
  refine WL.qn (y_fieldAddrc f52_0 rfl) rfl ?_
  refine WL.qn (y_loadc rfl a5 rfl) rfl ?_
  refine WL.qn (y_rem rfl rfl (by decide)) rfl ?_
  refine WL.ns ?_
  refine wc_block ?_
  refine wc_sr ?_
  refine WL.qn (y_eql rfl rfl) rfl ?_
  refine WL.as rfl rfl ?_
  refine WL.ns ?_
  refine wc_cond rfl (fun hc1 => ?_) (fun hc1 => ?_)
  ·replace h := condT h hc1
   refine wc_sr ?_
   refine WL.qn (y_loadcN rfl a26 s26 rfl) rfl ?_
   refine WL.qn (y_fieldAddrc f52_1 rfl) rfl ?_
   refine WL.qn (y_loadc rfl a3 rfl) rfl ?_
   refine WL.qn (y_fieldAddrc f52_2 rfl) rfl ?_
   refine WL.qn (y_loadc rfl a3 rfl) rfl ?_
   obtain ⟨r245, hr245, h⟩ := bindS h
   refine WL.fn rfl rfl rfl rfl (f21_c _ _ _ hr245) ⟨(Le.refl _), (Le.refl _), (Le.refl _), trivial⟩ (Wt.none rfl) rfl rfl ?_
   refine WL.mv rfl rfl ?_
   refine WL.qn (y_extractd rfl rfl) rfl ?_
   refine WL.qn (y_extractd rfl rfl) rfl ?_
   refine WL.s0 (d_store rfl rfl rfl rfl rfl rfl s26 rfl rfl) (Wt.none rfl) rfl ?_
   refine WL.st (st' := [.row 26 [sN, sN, sN, sN, sN, sN, sN, sN, sN, sN, sN, sN, sN, sN, sN, sN, sN, sN, sN, sN, sN, sN, sN, sN, sN, sN, sN, sN, sN, sN, sN, sN, sN, .d (D.i .i64 0)], .row 26 (vecA 32 (fun j => .d (.sl (List.map E3 (r245.1.ready j)))) ++ ([.d (.sl (List.map E62 r245.1.delays)), .d (D.i .i64 r245.1.run)] : List AV)), .row 26 [sN, sN, sN, sN, sN, sN, sN, sN, sN, sN, sN, sN, sN, sN, sN, sN, sN, sN, sN, sN, sN, sN, sN, sN, sN, sN, sN, sN, sN, sN, sN, sN, sN, .d (D.i .i64 0)]]) rfl ?_
   refine WL.as rfl rfl ?_
   refine WL.ns ?_
   refine wc_region ?_
   refine WL.qn (y_loadcN rfl a26 s26 rfl) rfl ?_
   refine WL.qn (y_fieldAddrc f52_1 rfl) rfl ?_
   refine WL.qn (y_loadc rfl a3 rfl) rfl ?_
   refine WL.qn (y_fieldAddrc f52_2 rfl) rfl ?_
   refine WL.qn (y_loadc rfl a3 rfl) rfl ?_
   obtain ⟨r246, hr246, h⟩ := bindS h
   refine WL.fn rfl rfl rfl rfl (f46_c _ _ _ hr246) ⟨(Le.refl _), (Le.refl _), (Le.refl _), trivial⟩ (Wt.none rfl) rfl rfl ?_
   refine WL.mv rfl rfl ?_
   refine WL.qn (y_extractd rfl rfl) rfl ?_
   refine WL.qn (y_extractd rfl rfl) rfl ?_
   refine WL.s0 (d_store rfl rfl rfl rfl rfl rfl s26 rfl rfl) (Wt.none rfl) rfl ?_
   refine WL.st (st' := [.row 26 [sN, sN, sN, sN, sN, sN, sN, sN, sN, sN, sN, sN, sN, sN, sN, sN, sN, sN, sN, sN, sN, sN, sN, sN, sN, sN, sN, sN, sN, sN, sN, sN, sN, .d (D.i .i64 0)], .row 26 (vecA 32 (fun j => .d (.sl (List.map E3 (r245.1.ready j)))) ++ ([.d (.sl (List.map E62 r245.1.delays)), .d (D.i .i64 r245.1.run)] : List AV)), .row 26 (vecA 32 (fun j => .d (.sl (List.map E3 (r246.1.ready j)))) ++ ([.d (.sl (List.map E62 r246.1.delays)), .d (D.i .i64 r246.1.run)] : List AV))]) rfl ?_
   refine WL.as rfl rfl ?_
   refine WL.nil ?_
   refine we_blk ?_
   exact we_lp ⟨r245.2, r246.2, [], [], r245.1.ready, r245.1.delays, r245.1.run, r246.1.ready, r246.1.delays, r246.1.run, h, (Sub.cons rfl (Le.refl _) (Sub.cons rfl (Le.refl _) (Sub.cons rfl (Le.refl _) (Sub.cons rfl (Le.refl _) (Sub.cons rfl (Le.refl _) (Sub.cons rfl Le.nil (Sub.cons rfl Le.nil (Sub.nil _)))))))), ⟨⟨rfl, Les.refl _⟩, ⟨rfl, Les.refl _⟩, ⟨rfl, Les.refl _⟩, trivial⟩⟩
  ·replace h := condF h hc1
   refine wc_sr ?_
   refine WL.qn (y_eql rfl rfl) rfl ?_
   refine WL.as rfl rfl ?_
   refine WL.ns ?_
   refine wc_cond rfl (fun hc2 => ?_) (fun hc2 => ?_)
   ·replace h := condT h hc2
    refine wc_sr ?_
    refine WL.qn (y_loadcN rfl a26 s26 rfl) rfl ?_
    refine WL.qn (y_fieldAddrc f52_1 rfl) rfl ?_
    refine WL.qn (y_loadc rfl a3 rfl) rfl ?_
    refine WL.qn (y_fieldAddrc f52_2 rfl) rfl ?_
    refine WL.qn (y_loadc rfl a3 rfl) rfl ?_
    obtain ⟨r247, hr247, h⟩ := bindS h
    refine WL.fn rfl rfl rfl rfl (f28_c _ _ _ hr247) ⟨(Le.refl _), (Le.refl _), (Le.refl _), trivial⟩ (Wt.none rfl) rfl rfl ?_
    refine WL.mv rfl rfl ?_
    refine WL.qn (y_extractd rfl rfl) rfl ?_
    refine WL.qn (y_extractd rfl rfl) rfl ?_
    refine WL.s0 (d_store rfl rfl rfl rfl rfl rfl s26 rfl rfl) (Wt.none rfl) rfl ?_
    refine WL.st (st' := [.row 26 [sN, sN, sN, sN, sN, sN, sN, sN, sN, sN, sN, sN, sN, sN, sN, sN, sN, sN, sN, sN, sN, sN, sN, sN, sN, sN, sN, sN, sN, sN, sN, sN, sN, .d (D.i .i64 0)], .row 26 (vecA 32 (fun j => .d (.sl (List.map E3 (r247.1.ready j)))) ++ ([.d (.sl (List.map E62 r247.1.delays)), .d (D.i .i64 r247.1.run)] : List AV)), .row 26 [sN, sN, sN, sN, sN, sN, sN, sN, sN, sN, sN, sN, sN, sN, sN, sN, sN, sN, sN, sN, sN, sN, sN, sN, sN, sN, sN, sN, sN, sN, sN, sN, sN, .d (D.i .i64 0)]]) rfl ?_
    refine WL.as rfl rfl ?_
    refine WL.ns ?_
    refine wc_region ?_
    refine WL.qn (y_loadcN rfl a26 s26 rfl) rfl ?_
    refine WL.qn (y_fieldAddrc f52_1 rfl) rfl ?_
    refine WL.qn (y_loadc rfl a3 rfl) rfl ?_
    refine WL.qn (y_fieldAddrc f52_2 rfl) rfl ?_
    refine WL.qn (y_loadc rfl a3 rfl) rfl ?_
    obtain ⟨r248, hr248, h⟩ := bindS h
    refine WL.fn rfl rfl rfl rfl (f47_c _ _ _ hr248) ⟨(Le.refl _), (Le.refl _), (Le.refl _), trivial⟩ (Wt.none rfl) rfl rfl ?_
    refine WL.mv rfl rfl ?_
    refine WL.qn (y_extractd rfl rfl) rfl ?_
    refine WL.qn (y_extractd rfl rfl) rfl ?_
    refine WL.s0 (d_store rfl rfl rfl rfl rfl rfl s26 rfl rfl) (Wt.none rfl) rfl ?_
    refine WL.st (st' := [.row 26 [sN, sN, sN, sN, sN, sN, sN, sN, sN, sN, sN, sN, sN, sN, sN, sN, sN, sN, sN, sN, sN, sN, sN, sN, sN, sN, sN, sN, sN, sN, sN, sN, sN, .d (D.i .i64 0)], .row 26 (vecA 32 (fun j => .d (.sl (List.map E3 (r247.1.ready j)))) ++ ([.d (.sl (List.map E62 r247.1.delays)), .d (D.i .i64 r247.1.run)] : List AV)), .row 26 (vecA 32 (fun j => .d (.sl (List.map E3 (r248.1.ready j)))) ++ ([.d (.sl (List.map E62 r248.1.delays)), .d (D.i .i64 r248.1.run)] : List AV))]) rfl ?_
    refine WL.as rfl rfl ?_
    refine WL.nil ?_
    refine we_blk ?_
    exact we_lp ⟨r247.2, r248.2, [], [], r247.1.ready, r247.1.delays, r247.1.run, r248.1.ready, r248.1.delays, r248.1.run, h, (Sub.cons rfl (Le.refl _) (Sub.cons rfl (Le.refl _) (Sub.cons rfl (Le.refl _) (Sub.cons rfl (Le.refl _) (Sub.cons rfl (Le.refl _) (Sub.cons rfl Le.nil (Sub.cons rfl Le.nil (Sub.nil _)))))))), ⟨⟨rfl, Les.refl _⟩, ⟨rfl, Les.refl _⟩, ⟨rfl, Les.refl _⟩, trivial⟩⟩
   ·replace h := condF h hc2
    refine wc_sr ?_
    refine WL.qn (y_eql rfl rfl) rfl ?_
    refine WL.as rfl rfl ?_
    refine WL.ns ?_
    refine wc_cond rfl (fun hc3 => ?_) (fun hc3 => ?_)
    ·replace h := condT h hc3
     refine wc_sr ?_
     refine WL.qn (y_loadcN rfl a26 s26 rfl) rfl ?_
     refine WL.qn (y_fieldAddrc f52_2 rfl) rfl ?_
     refine WL.qn (y_loadc rfl a3 rfl) rfl ?_
     obtain ⟨r249, hr249, h⟩ := bindS h
     refine WL.fn rfl rfl rfl rfl (f22_c _ _ hr249) ⟨(Le.refl _), (Le.refl _), trivial⟩ (Wt.none rfl) rfl rfl ?_
     refine WL.mv rfl rfl ?_
     refine WL.qn (y_extractd rfl rfl) rfl ?_
     refine WL.qn (y_extractd rfl rfl) rfl ?_
     refine WL.s0 (d_store rfl rfl rfl rfl rfl rfl s26 rfl rfl) (Wt.none rfl) rfl ?_
     refine WL.st (st' := [.row 26 [sN, sN, sN, sN, sN, sN, sN, sN, sN, sN, sN, sN, sN, sN, sN, sN, sN, sN, sN, sN, sN, sN, sN, sN, sN, sN, sN, sN, sN, sN, sN, sN, sN, .d (D.i .i64 0)], .row 26 (vecA 32 (fun j => .d (.sl (List.map E3 (r249.1.ready j)))) ++ ([.d (.sl (List.map E62 r249.1.delays)), .d (D.i .i64 r249.1.run)] : List AV)), .row 26 [sN, sN, sN, sN, sN, sN, sN, sN, sN, sN, sN, sN, sN, sN, sN, sN, sN, sN, sN, sN, sN, sN, sN, sN, sN, sN, sN, sN, sN, sN, sN, sN, sN, .d (D.i .i64 0)]]) rfl ?_
     refine WL.as rfl rfl ?_
     refine WL.ns ?_
     refine wc_region ?_
     refine WL.qn (y_loadcN rfl a26 s26 rfl) rfl ?_
     refine WL.qn (y_fieldAddrc f52_2 rfl) rfl ?_
     refine WL.qn (y_loadc rfl a3 rfl) rfl ?_
     obtain ⟨r250, hr250, h⟩ := bindS h
     refine WL.fn rfl rfl rfl rfl (f48_c _ _ hr250) ⟨(Le.refl _), (Le.refl _), trivial⟩ (Wt.none rfl) rfl rfl ?_
     refine WL.mv rfl rfl ?_
     refine WL.qn (y_extractd rfl rfl) rfl ?_
     refine WL.qn (y_extractd rfl rfl) rfl ?_
     refine WL.s0 (d_store rfl rfl rfl rfl rfl rfl s26 rfl rfl) (Wt.none rfl) rfl ?_
     refine WL.st (st' := [.row 26 [sN, sN, sN, sN, sN, sN, sN, sN, sN, sN, sN, sN, sN, sN, sN, sN, sN, sN, sN, sN, sN, sN, sN, sN, sN, sN, sN, sN, sN, sN, sN, sN, sN, .d (D.i .i64 0)], .row 26 (vecA 32 (fun j => .d (.sl (List.map E3 (r249.1.ready j)))) ++ ([.d (.sl (List.map E62 r249.1.delays)), .d (D.i .i64 r249.1.run)] : List AV)), .row 26 (vecA 32 (fun j => .d (.sl (List.map E3 (r250.1.ready j)))) ++ ([.d (.sl (List.map E62 r250.1.delays)), .d (D.i .i64 r250.1.run)] : List AV))]) rfl ?_
     refine WL.as rfl rfl ?_
     refine WL.nil ?_
     refine we_blk ?_
     exact we_lp ⟨r249.2, r250.2, [], [], r249.1.ready, r249.1.delays, r249.1.run, r250.1.ready, r250.1.delays, r250.1.run, h, (Sub.cons rfl (Le.refl _) (Sub.cons rfl (Le.refl _) (Sub.cons rfl (Le.refl _) (Sub.cons rfl (Le.refl _) (Sub.cons rfl (Le.refl _) (Sub.cons rfl Le.nil (Sub.cons rfl Le.nil (Sub.nil _)))))))), ⟨⟨rfl, Les.refl _⟩, ⟨rfl, Les.refl _⟩, ⟨rfl, Les.refl _⟩, trivial⟩⟩
    ·replace h := condF h hc3
     refine wc_sr ?_
     refine WL.qn (y_eql rfl rfl) rfl ?_
     refine WL.as rfl rfl ?_
     refine WL.ns ?_
     refine wc_cond rfl (fun hc4 => ?_) (fun hc4 => ?_)
     ·replace h := condT h hc4
      refine wc_sr ?_
      refine WL.qn (y_loadcN rfl a26 s26 rfl) rfl ?_
      refine WL.qn (y_fieldAddrc f52_1 rfl) rfl ?_
      refine WL.qn (y_loadc rfl a3 rfl) rfl ?_
      refine WL.qn (y_fieldAddrc f52_2 rfl) rfl ?_
      refine WL.qn (y_loadc rfl a3 rfl) rfl ?_
      obtain ⟨r251, hr251, h⟩ := bindS h
      refine WL.fn rfl rfl rfl rfl (f29_c _ _ _ hr251) ⟨(Le.refl _), (Le.refl _), (Le.refl _), trivial⟩ (Wt.none rfl) rfl rfl ?_
      refine WL.mv rfl rfl ?_
      refine WL.qn (y_extractd rfl rfl) rfl ?_
      refine WL.qn (y_extractd rfl rfl) rfl ?_
      refine WL.s0 (d_store rfl rfl rfl rfl rfl rfl s26 rfl rfl) (Wt.none rfl) rfl ?_
      refine WL.st (st' := [.row 26 [sN, sN, sN, sN, sN, sN, sN, sN, sN, sN, sN, sN, sN, sN, sN, sN, sN, sN, sN, sN, sN, sN, sN, sN, sN, sN, sN, sN, sN, sN, sN, sN, sN, .d (D.i .i64 0)], .row 26 (vecA 32 (fun j => .d (.sl (List.map E3 (r251.1.ready j)))) ++ ([.d (.sl (List.map E62 r251.1.delays)), .d (D.i .i64 r251.1.run)] : List AV)), .row 26 [sN, sN, sN, sN, sN, sN, sN, sN, sN, sN, sN, sN, sN, sN, sN, sN, sN, sN, sN, sN, sN, sN, sN, sN, sN, sN, sN, sN, sN, sN, sN, sN, sN, .d (D.i .i64 0)]]) rfl ?_
      refine WL.as rfl rfl ?_
      refine WL.ns ?_
      refine wc_region ?_
      refine WL.qn (y_loadcN rfl a26 s26 rfl) rfl ?_
      refine WL.qn (y_fieldAddrc f52_1 rfl) rfl ?_
      refine WL.qn (y_loadc rfl a3 rfl) rfl ?_
      refine WL.qn (y_fieldAddrc f52_2 rfl) rfl ?_
      refine WL.qn (y_loadc rfl a3 rfl) rfl ?_
      obtain ⟨r252, hr252, h⟩ := bindS h
      refine WL.fn rfl rfl rfl rfl (f49_c _ _ _ hr252) ⟨(Le.refl _), (Le.refl _), (Le.refl _), trivial⟩ (Wt.none rfl) rfl rfl ?_
      refine WL.mv rfl rfl ?_
      refine WL.qn (y_extractd rfl rfl) rfl ?_
      refine WL.qn (y_extractd rfl rfl) rfl ?_
      refine WL.s0 (d_store rfl rfl rfl rfl rfl rfl s26 rfl rfl) (Wt.none rfl) rfl ?_
      refine WL.st (st' := [.row 26 [sN, sN, sN, sN, sN, sN, sN, sN, sN, sN, sN, sN, sN, sN, sN, sN, sN, sN, sN, sN, sN, sN, sN, sN, sN, sN, sN, sN, sN, sN, sN, sN, sN, .d (D.i .i64 0)], .row 26 (vecA 32 (fun j => .d (.sl (List.map E3 (r251.1.ready j)))) ++ ([.d (.sl (List.map E62 r251.1.delays)), .d (D.i .i64 r251.1.run)] : List AV)), .row 26 (vecA 32 (fun j => .d (.sl (List.map E3 (r252.1.ready j)))) ++ ([.d (.sl (List.map E62 r252.1.delays)), .d (D.i .i64 r252.1.run)] : List AV))]) rfl ?_
      refine WL.as rfl rfl ?_
      refine WL.nil ?_
      refine we_blk ?_
      exact we_lp ⟨r251.2, r252.2, [], [], r251.1.ready, r251.1.delays, r251.1.run, r252.1.ready, r252.1.delays, r252.1.run, h, (Sub.cons rfl (Le.refl _) (Sub.cons rfl (Le.refl _) (Sub.cons rfl (Le.refl _) (Sub.cons rfl (Le.refl _) (Sub.cons rfl (Le.refl _) (Sub.cons rfl Le.nil (Sub.cons rfl Le.nil (Sub.nil _)))))))), ⟨⟨rfl, Les.refl _⟩, ⟨rfl, Les.refl _⟩, ⟨rfl, Les.refl _⟩, trivial⟩⟩
     ·replace h := condF h hc4
      refine wc_sr ?_
      refine WL.qn (y_eql rfl rfl) rfl ?_
      refine WL.as rfl rfl ?_
      refine WL.ns ?_
      refine wc_cond rfl (fun hc5 => ?_) (fun hc5 => ?_)
      ·replace h := condT h hc5
       refine wc_sr ?_
       refine WL.qn (y_loadcN rfl a26 s26 rfl) rfl ?_
       refine WL.qn (y_fieldAddrc f52_1 rfl) rfl ?_
       refine WL.qn (y_loadc rfl a3 rfl) rfl ?_
       obtain ⟨r253, hr253, h⟩ := bindS h
       refine WL.fn rfl rfl rfl rfl (f12_c _ _ hr253) ⟨(Le.refl _), (Le.refl _), trivial⟩ (Wt.none rfl) rfl rfl ?_
       refine WL.mv rfl rfl ?_
       refine WL.qn (y_extractd rfl rfl) rfl ?_
       refine WL.qn (y_extractd rfl rfl) rfl ?_
       refine WL.s0 (d_store rfl rfl rfl rfl rfl rfl s26 rfl rfl) (Wt.none rfl) rfl ?_
       refine WL.st (st' := [.row 26 [sN, sN, sN, sN, sN, sN, sN, sN, sN, sN, sN, sN, sN, sN, sN, sN, sN, sN, sN, sN, sN, sN, sN, sN, sN, sN, sN, sN, sN, sN, sN, sN, sN, .d (D.i .i64 0)], .row 26 (vecA 32 (fun j => .d (.sl (List.map E3 (r253.1.ready j)))) ++ ([.d (.sl (List.map E62 r253.1.delays)), .d (D.i .i64 r253.1.run)] : List AV)), .row 26 [sN, sN, sN, sN, sN, sN, sN, sN, sN, sN, sN, sN, sN, sN, sN, sN, sN, sN, sN, sN, sN, sN, sN, sN, sN, sN, sN, sN, sN, sN, sN, sN, sN, .d (D.i .i64 0)]]) rfl ?_
       refine WL.as rfl rfl ?_
       refine WL.ns ?_
       refine wc_region ?_
       refine WL.qn (y_loadcN rfl a26 s26 rfl) rfl ?_
       refine WL.qn (y_fieldAddrc f52_1 rfl) rfl ?_
       refine WL.qn (y_loadc rfl a3 rfl) rfl ?_
       obtain ⟨r254, hr254, h⟩ := bindS h
       refine WL.fn rfl rfl rfl rfl (f50_c _ _ hr254) ⟨(Le.refl _), (Le.refl _), trivial⟩ (Wt.none rfl) rfl rfl ?_
       refine WL.mv rfl rfl ?_
       refine WL.qn (y_extractd rfl rfl) rfl ?_
       refine WL.qn (y_extractd rfl rfl) rfl ?_
       refine WL.s0 (d_store rfl rfl rfl rfl rfl rfl s26 rfl rfl) (Wt.none rfl) rfl ?_
       refine WL.st (st' := [.row 26 [sN, sN, sN, sN, sN, sN, sN, sN, sN, sN, sN, sN, sN, sN, sN, sN, sN, sN, sN, sN, sN, sN, sN, sN, sN, sN, sN, sN, sN, sN, sN, sN, sN, .d (D.i .i64 0)], .row 26 (vecA 32 (fun j => .d (.sl (List.map E3 (r253.1.ready j)))) ++ ([.d (.sl (List.map E62 r253.1.delays)), .d (D.i .i64 r253.1.run)] : List AV)), .row 26 (vecA 32 (fun j => .d (.sl (List.map E3 (r254.1.ready j)))) ++ ([.d (.sl (List.map E62 r254.1.delays)), .d (D.i .i64 r254.1.run)] : List AV))]) rfl ?_
       refine WL.as rfl rfl ?_
       refine WL.nil ?_
       refine we_blk ?_
       exact we_lp ⟨r253.2, r254.2, [], [], r253.1.ready, r253.1.delays, r253.1.run, r254.1.ready, r254.1.delays, r254.1.run, h, (Sub.cons rfl (Le.refl _) (Sub.cons rfl (Le.refl _) (Sub.cons rfl (Le.refl _) (Sub.cons rfl (Le.refl _) (Sub.cons rfl (Le.refl _) (Sub.cons rfl Le.nil (Sub.cons rfl Le.nil (Sub.nil _)))))))), ⟨⟨rfl, Les.refl _⟩, ⟨rfl, Les.refl _⟩, ⟨rfl, Les.refl _⟩, trivial⟩⟩
      ·replace h := condF h hc5
       refine wc_sr ?_
       refine WL.qn (y_eql rfl rfl) rfl ?_
       refine WL.as rfl rfl ?_
       refine WL.ns ?_
       refine wc_cond rfl (fun hc6 => ?_) (fun hc6 => ?_)
       ·replace h := condT h hc6
        refine wc_sr ?_
        refine WL.qn (y_loadcN rfl a26 s26 rfl) rfl ?_
        refine WL.qn (y_fieldAddrc f52_3 rfl) rfl ?_
        refine WL.qn (y_loadc rfl a2 rfl) rfl ?_
        refine WL.qn (y_fieldAddrc f52_2 rfl) rfl ?_
        refine WL.qn (y_loadc rfl a3 rfl) rfl ?_
        obtain ⟨r255, hr255, h⟩ := bindS h
        refine WL.fn rfl rfl rfl rfl (f17_c _ _ _ hr255) ⟨(Le.refl _), (Le.refl _), (Le.refl _), trivial⟩ (Wt.none rfl) rfl rfl ?_
        refine WL.mv rfl rfl ?_
        refine WL.qn (y_extractd rfl rfl) rfl ?_
        refine WL.qn (y_extractd rfl rfl) rfl ?_
        refine WL.s0 (d_store rfl rfl rfl rfl rfl rfl s26 rfl rfl) (Wt.none rfl) rfl ?_
        refine WL.st (st' := [.row 26 [sN, sN, sN, sN, sN, sN, sN, sN, sN, sN, sN, sN, sN, sN, sN, sN, sN, sN, sN, sN, sN, sN, sN, sN, sN, sN, sN, sN, sN, sN, sN, sN, sN, .d (D.i .i64 0)], .row 26 (vecA 32 (fun j => .d (.sl (List.map E3 (r255.1.ready j)))) ++ ([.d (.sl (List.map E62 r255.1.delays)), .d (D.i .i64 r255.1.run)] : List AV)), .row 26 [sN, sN, sN, sN, sN, sN, sN, sN, sN, sN, sN, sN, sN, sN, sN, sN, sN, sN, sN, sN, sN, sN, sN, sN, sN, sN, sN, sN, sN, sN, sN, sN, sN, .d (D.i .i64 0)]]) rfl ?_
        refine WL.as rfl rfl ?_
        refine WL.ns ?_
        refine wc_region ?_
        refine WL.qn (y_loadcN rfl a26 s26 rfl) rfl ?_
        refine WL.qn (y_fieldAddrc f52_3 rfl) rfl ?_
        refine WL.qn (y_loadc rfl a2 rfl) rfl ?_
        refine WL.qn (y_fieldAddrc f52_2 rfl) rfl ?_
        refine WL.qn (y_loadc rfl a3 rfl) rfl ?_
        obtain ⟨r256, hr256, h⟩ := bindS h
        refine WL.fn rfl rfl rfl rfl (f51_c _ _ _ hr256) ⟨(Le.refl _), (Le.refl _), (Le.refl _), trivial⟩ (Wt.none rfl) rfl rfl ?_
        refine WL.mv rfl rfl ?_
        refine WL.qn (y_extractd rfl rfl) rfl ?_
        refine WL.qn (y_extractd rfl rfl) rfl ?_
        refine WL.s0 (d_store rfl rfl rfl rfl rfl rfl s26 rfl rfl) (Wt.none rfl) rfl ?_
        refine WL.st (st' := [.row 26 [sN, sN, sN, sN, sN, sN, sN, sN, sN, sN, sN, sN, sN, sN, sN, sN, sN, sN, sN, sN, sN, sN, sN, sN, sN, sN, sN, sN, sN, sN, sN, sN, sN, .d (D.i .i64 0)], .row 26 (vecA 32 (fun j => .d (.sl (List.map E3 (r255.1.ready j)))) ++ ([.d (.sl (List.map E62 r255.1.delays)), .d (D.i .i64 r255.1.run)] : List AV)), .row 26 (vecA 32 (fun j => .d (.sl (List.map E3 (r256.1.ready j)))) ++ ([.d (.sl (List.map E62 r256.1.delays)), .d (D.i .i64 r256.1.run)] : List AV))]) rfl ?_
        refine WL.as rfl rfl ?_
        refine WL.nil ?_
        refine we_blk ?_
        exact we_lp ⟨r255.2, r256.2, [], [], r255.1.ready, r255.1.delays, r255.1.run, r256.1.ready, r256.1.delays, r256.1.run, h, (Sub.cons rfl (Le.refl _) (Sub.cons rfl (Le.refl _) (Sub.cons rfl (Le.refl _) (Sub.cons rfl (Le.refl _) (Sub.cons rfl (Le.refl _) (Sub.cons rfl Le.nil (Sub.cons rfl Le.nil (Sub.nil _)))))))), ⟨⟨rfl, Les.refl _⟩, ⟨rfl, Les.refl _⟩, ⟨rfl, Les.refl _⟩, trivial⟩⟩
       ·replace h := condF h hc6
        refine wc_sr ?_
        refine WL.qn (y_eql rfl rfl) rfl ?_
        refine WL.as rfl rfl ?_
        refine WL.ns ?_
        refine wc_cond rfl (fun hc7 => ?_) (fun hc7 => ?_)
        ·replace h := condT h hc7
         refine wc_sr ?_
         refine WL.qn (y_loadcN rfl a26 s26 rfl) rfl ?_
         refine WL.qn (y_fieldAddrc f52_2 rfl) rfl ?_
         refine WL.qn (y_loadc rfl a3 rfl) rfl ?_
         obtain ⟨r257, hr257, h⟩ := bindS h
         refine WL.fn rfl rfl rfl rfl (f18_c _ _ hr257) ⟨(Le.refl _), (Le.refl _), trivial⟩ (Wt.none rfl) rfl rfl ?_
         refine WL.mv rfl rfl ?_
         refine WL.qn (y_extractd rfl rfl) rfl ?_
         refine WL.qn (y_extractd rfl rfl) rfl ?_
         refine WL.s0 (d_store rfl rfl rfl rfl rfl rfl s26 rfl rfl) (Wt.none rfl) rfl ?_
         refine WL.st (st' := [.row 26 [sN, sN, sN, sN, sN, sN, sN, sN, sN, sN, sN, sN, sN, sN, sN, sN, sN, sN, sN, sN, sN, sN, sN, sN, sN, sN, sN, sN, sN, sN, sN, sN, sN, .d (D.i .i64 0)], .row 26 (vecA 32 (fun j => .d (.sl (List.map E3 (r257.1.ready j)))) ++ ([.d (.sl (List.map E62 r257.1.delays)), .d (D.i .i64 r257.1.run)] : List AV)), .row 26 [sN, sN, sN, sN, sN, sN, sN, sN, sN, sN, sN, sN, sN, sN, sN, sN, sN, sN, sN, sN, sN, sN, sN, sN, sN, sN, sN, sN, sN, sN, sN, sN, sN, .d (D.i .i64 0)]]) rfl ?_
         refine WL.as rfl rfl ?_
         refine WL.ns ?_
         refine wc_region ?_
         refine WL.qn (y_loadcN rfl a26 s26 rfl) rfl ?_
         refine WL.qn (y_fieldAddrc f52_2 rfl) rfl ?_
         refine WL.qn (y_loadc rfl a3 rfl) rfl ?_
         obtain ⟨r258, hr258, h⟩ := bindS h
         refine WL.fn rfl rfl rfl rfl (f52_c _ _ hr258) ⟨(Le.refl _), (Le.refl _), trivial⟩ (Wt.none rfl) rfl rfl ?_
         refine WL.mv rfl rfl ?_
         refine WL.qn (y_extractd rfl rfl) rfl ?_
         refine WL.qn (y_extractd rfl rfl) rfl ?_
         refine WL.s0 (d_store rfl rfl rfl rfl rfl rfl s26 rfl rfl) (Wt.none rfl) rfl ?_
         refine WL.st (st' := [.row 26 [sN, sN, sN, sN, sN, sN, sN, sN, sN, sN, sN, sN, sN, sN, sN, sN, sN, sN, sN, sN, sN, sN, sN, sN, sN, sN, sN, sN, sN, sN, sN, sN, sN, .d (D.i .i64 0)], .row 26 (vecA 32 (fun j => .d (.sl (List.map E3 (r257.1.ready j)))) ++ ([.d (.sl (List.map E62 r257.1.delays)), .d (D.i .i64 r257.1.run)] : List AV)), .row 26 (vecA 32 (fun j => .d (.sl (List.map E3 (r258.1.ready j)))) ++ ([.d (.sl (List.map E62 r258.1.delays)), .d (D.i .i64 r258.1.run)] : List AV))]) rfl ?_
         refine WL.as rfl rfl ?_
         refine WL.nil ?_
         refine we_blk ?_
         exact we_lp ⟨r257.2, r258.2, [], [], r257.1.ready, r257.1.delays, r257.1.run, r258.1.ready, r258.1.delays, r258.1.run, h, (Sub.cons rfl (Le.refl _) (Sub.cons rfl (Le.refl _) (Sub.cons rfl (Le.refl _) (Sub.cons rfl (Le.refl _) (Sub.cons rfl (Le.refl _) (Sub.cons rfl Le.nil (Sub.cons rfl Le.nil (Sub.nil _)))))))), ⟨⟨rfl, Les.refl _⟩, ⟨rfl, Les.refl _⟩, ⟨rfl, Les.refl _⟩, trivial⟩⟩
        ·replace h := condF h hc7
         refine wc_sr ?_
         refine WL.qn (y_eql rfl rfl) rfl ?_
         refine WL.as rfl rfl ?_
         refine WL.ns ?_
         refine wc_cond rfl (fun hc8 => ?_) (fun hc8 => ?_)
         ·replace h := condT h hc8
          refine wc_sr ?_
          refine WL.qn (y_loadcN rfl a26 s26 rfl) rfl ?_
          refine WL.qn (y_fieldAddrc f52_3 rfl) rfl ?_
          refine WL.qn (y_loadc rfl a2 rfl) rfl ?_
          obtain ⟨r259, hr259, h⟩ := bindS h
          refine WL.fn rfl rfl rfl rfl (f19_c _ _ hr259) ⟨(Le.refl _), (Le.refl _), trivial⟩ (Wt.none rfl) rfl rfl ?_
          refine WL.mv rfl rfl ?_
          refine WL.qn (y_extractd rfl rfl) rfl ?_
          refine WL.qn (y_extractd rfl rfl) rfl ?_
          refine WL.qn (y_extractd rfl rfl) rfl ?_
          refine WL.s0 (d_store rfl rfl rfl rfl rfl rfl s26 rfl rfl) (Wt.none rfl) rfl ?_
          refine WL.st (st' := [.row 26 [sN, sN, sN, sN, sN, sN, sN, sN, sN, sN, sN, sN, sN, sN, sN, sN, sN, sN, sN, sN, sN, sN, sN, sN, sN, sN, sN, sN, sN, sN, sN, sN, sN, .d (D.i .i64 0)], .row 26 (vecA 32 (fun j => .d (.sl (List.map E3 (r259.1.ready j)))) ++ ([.d (.sl (List.map E62 r259.1.delays)), .d (D.i .i64 r259.1.run)] : List AV)), .row 26 [sN, sN, sN, sN, sN, sN, sN, sN, sN, sN, sN, sN, sN, sN, sN, sN, sN, sN, sN, sN, sN, sN, sN, sN, sN, sN, sN, sN, sN, sN, sN, sN, sN, .d (D.i .i64 0)]]) rfl ?_
          refine WL.as rfl rfl ?_
          refine WL.as rfl rfl ?_
          refine WL.ns ?_
          refine wc_region ?_
          refine WL.qn (y_loadcN rfl a26 s26 rfl) rfl ?_
          refine WL.qn (y_fieldAddrc f52_3 rfl) rfl ?_
          refine WL.qn (y_loadc rfl a2 rfl) rfl ?_
          obtain ⟨r260, hr260, h⟩ := bindS h
          refine WL.fn rfl rfl rfl rfl (f53_c _ _ hr260) ⟨(Le.refl _), (Le.refl _), trivial⟩ (Wt.none rfl) rfl rfl ?_
          refine WL.mv rfl rfl ?_
          refine WL.qn (y_extractd rfl rfl) rfl ?_
          refine WL.qn (y_extractd rfl rfl) rfl ?_
          refine WL.qn (y_extractd rfl rfl) rfl ?_
          refine WL.s0 (d_store rfl rfl rfl rfl rfl rfl s26 rfl rfl) (Wt.none rfl) rfl ?_
          refine WL.st (st' := [.row 26 [sN, sN, sN, sN, sN, sN, sN, sN, sN, sN, sN, sN, sN, sN, sN, sN, sN, sN, sN, sN, sN, sN, sN, sN, sN, sN, sN, sN, sN, sN, sN, sN, sN, .d (D.i .i64 0)], .row 26 (vecA 32 (fun j => .d (.sl (List.map E3 (r259.1.ready j)))) ++ ([.d (.sl (List.map E62 r259.1.delays)), .d (D.i .i64 r259.1.run)] : List AV)), .row 26 (vecA 32 (fun j => .d (.sl (List.map E3 (r260.1.ready j)))) ++ ([.d (.sl (List.map E62 r260.1.delays)), .d (D.i .i64 r260.1.run)] : List AV))]) rfl ?_
          refine WL.as rfl rfl ?_
          refine WL.as rfl rfl ?_
          refine WL.nil ?_
          refine we_blk ?_
          exact we_lp ⟨r259.2.2, r260.2.2, r259.2.1, r260.2.1, r259.1.ready, r259.1.delays, r259.1.run, r260.1.ready, r260.1.delays, r260.1.run, h, (Sub.cons rfl (Le.refl _) (Sub.cons rfl (Le.refl _) (Sub.cons rfl (Le.refl _) (Sub.cons rfl (Le.refl _) (Sub.cons rfl (Le.refl _) (Sub.cons rfl (Le.refl _) (Sub.cons rfl (Le.refl _) (Sub.nil _)))))))), ⟨⟨rfl, Les.refl _⟩, ⟨rfl, Les.refl _⟩, ⟨rfl, Les.refl _⟩, trivial⟩⟩
         ·replace h := condF h hc8
          refine wc_sr ?_
          refine WL.qn (y_loadcN rfl a26 s26 rfl) rfl ?_
          obtain ⟨r261, hr261, h⟩ := bindS h
          refine WL.fn rfl rfl rfl rfl (f14_c _ hr261) ⟨(Le.refl _), trivial⟩ (Wt.none rfl) rfl rfl ?_
          refine WL.mv rfl rfl ?_
          refine WL.qn (y_extractd rfl rfl) rfl ?_
          refine WL.qn (y_extractd rfl rfl) rfl ?_
          refine WL.qn (y_extractd rfl rfl) rfl ?_
          refine WL.as rfl rfl ?_
          refine WL.as rfl rfl ?_
          refine WL.as rfl rfl ?_
          refine WL.ns ?_
          refine wc_sr ?_
          refine WL.qn (y_loadcN rfl a26 s26 rfl) rfl ?_
          obtain ⟨r262, hr262, h⟩ := bindS h
          refine WL.fn rfl rfl rfl rfl (f54_c _ hr262) ⟨(Le.refl _), trivial⟩ (Wt.none rfl) rfl rfl ?_
          refine WL.mv rfl rfl ?_
          refine WL.qn (y_extractd rfl rfl) rfl ?_
          refine WL.qn (y_extractd rfl rfl) rfl ?_
          refine WL.qn (y_extractd rfl rfl) rfl ?_
          refine WL.as rfl rfl ?_
          refine WL.as rfl rfl ?_
          refine WL.as rfl rfl ?_
          refine WL.ns ?_
          refine wc_sr ?_
          refine WL.qn (y_loadcN rfl a26 s26 rfl) rfl ?_
          obtain ⟨r263, hr263, h⟩ := bindS h
          refine WL.fn rfl rfl rfl rfl (f20_c _ hr263) ⟨(Le.refl _), trivial⟩ (Wt.none rfl) rfl rfl ?_
          refine WL.mv rfl rfl ?_
          refine WL.qn (y_extractd rfl rfl) rfl ?_
          refine WL.qn (y_extractd rfl rfl) rfl ?_
          refine WL.as rfl rfl ?_
          refine WL.as rfl rfl ?_
          refine WL.ns ?_
          refine wc_sr ?_
          refine WL.qn (y_loadcN rfl a26 s26 rfl) rfl ?_
          obtain ⟨r264, hr264, h⟩ := bindS h
          refine WL.fn rfl rfl rfl rfl (f55_c _ hr264) ⟨(Le.refl _), trivial⟩ (Wt.none rfl) rfl rfl ?_
          refine WL.mv rfl rfl ?_
          refine WL.qn (y_extractd rfl rfl) rfl ?_
          refine WL.qn (y_extractd rfl rfl) rfl ?_
          refine WL.as rfl rfl ?_
          refine WL.as rfl rfl ?_
          refine WL.ns ?_
          refine wc_sr ?_
          refine WL.qn (y_loadcN rfl a26 s26 rfl) rfl ?_
          refine WL.mv rfl rfl ?_
          refine WL.mv rfl rfl ?_
          refine WL.qn (y_eql rfl rfl) rfl ?_
          refine WL.mv rfl rfl ?_
          apply WL.and 4 (t := 51) (d := 55)
          ·exact rfl
          ·intro hg51
           refine WL.qy (y_move rfl) rfl rfl rfl ?_
           refine WL.qy (y_move rfl) rfl rfl rfl ?_
           refine WL.qy (y_eql rfl rfl) rfl rfl rfl ?_
           refine WL.qn (y_pick_t rfl rfl) rfl ?_
           exact WL.nil ⟨rfl, [_, _, _, _], rfl, rfl, rfl⟩
          ·refine WL.skips 3 rfl ?_
           refine WL.qn (y_pick_f rfl rfl) rfl ?_
           exact WL.nil ⟨rfl, [_, _, _, _], rfl, rfl, rfl⟩
          refine WL.mv rfl rfl ?_
          apply WL.and 4 (t := 56) (d := 60)
          ·exact rfl
          ·intro hg56
           refine WL.qy (y_move rfl) rfl rfl rfl ?_
           refine WL.qy (y_move rfl) rfl rfl rfl ?_
           refine WL.qy (y_eqb Try.underlying4 rfl rfl) rfl rfl rfl ?_
           refine WL.qn (y_pick_t rfl rfl) rfl ?_
           exact WL.nil ⟨rfl, [_, _, _, _], rfl, rfl, rfl⟩
          ·refine WL.skips 3 rfl ?_
           refine WL.qn (y_pick_f rfl rfl) rfl ?_
           exact WL.nil ⟨rfl, [_, _, _, _], rfl, rfl, rfl⟩
          refine WL.mv rfl rfl ?_
          apply WL.and 4 (t := 61) (d := 65)
          ·exact rfl
          ·intro hg61
           refine WL.qy (y_move rfl) rfl rfl rfl ?_
           refine WL.qy (y_move rfl) rfl rfl rfl ?_
           refine WL.qy (y_eql rfl rfl) rfl rfl rfl ?_
           refine WL.qn (y_pick_t rfl rfl) rfl ?_
           exact WL.nil ⟨rfl, [_, _, _, _], rfl, rfl, rfl⟩
          ·refine WL.skips 3 rfl ?_
           refine WL.qn (y_pick_f rfl rfl) rfl ?_
           exact WL.nil ⟨rfl, [_, _, _, _], rfl, rfl, rfl⟩
          refine WL.mv rfl rfl ?_
          apply WL.and 4 (t := 66) (d := 70)
          ·exact rfl
          ·intro hg66
           refine WL.qy (y_move rfl) rfl rfl rfl ?_
           refine WL.qy (y_move rfl) rfl rfl rfl ?_
           refine WL.qy (y_eqb Try.underlying4 rfl rfl) rfl rfl rfl ?_
           refine WL.qn (y_pick_t rfl rfl) rfl ?_
           exact WL.nil ⟨rfl, [_, _, _, _], rfl, rfl, rfl⟩
          ·refine WL.skips 3 rfl ?_
           refine WL.qn (y_pick_f rfl rfl) rfl ?_
           exact WL.nil ⟨rfl, [_, _, _, _], rfl, rfl, rfl⟩
          refine WL.s0 (d_store rfl rfl rfl rfl rfl rfl s26 rfl rfl) (Wt.none rfl) rfl ?_
          refine WL.st (st' := [.row 26 (vecA 32 (fun j => .d (.sl (List.map E3 (q0.ready j)))) ++ ([.d (.sl (List.map E62 q0.delays)), .d (D.i .i64 q0.run)] : List AV)), .row 26 [sN, sN, sN, sN, sN, sN, sN, sN, sN, sN, sN, sN, sN, sN, sN, sN, sN, sN, sN, sN, sN, sN, sN, sN, sN, sN, sN, sN, sN, sN, sN, sN, sN, .d (D.i .i64 0)], .row 26 [sN, sN, sN, sN, sN, sN, sN, sN, sN, sN, sN, sN, sN, sN, sN, sN, sN, sN, sN, sN, sN, sN, sN, sN, sN, sN, sN, sN, sN, sN, sN, sN, sN, .d (D.i .i64 0)]]) rfl ?_
          refine WL.as rfl rfl ?_
          refine WL.ns ?_
          refine wc_ret ?_
          refine we_blk_ret ?_
          refine we_lp_ret ?_
          obtain rfl := Option.some.inj h
          exact we_ret_fn (rs2 rfl (rv_cN rfl rfl a26 s26 rfl) (rv_t rfl)) (Le.tud ⟨(Le.agd ⟨(Le.refl _), (Le.refl _), (Le.refl _), (Le.refl _), (Le.refl _), (Le.refl _), (Le.refl _), (Le.refl _), (Le.refl _), (Le.refl _), (Le.refl _), (Le.refl _), (Le.refl _), (Le.refl _), (Le.refl _), (Le.refl _), (Le.refl _), (Le.refl _), (Le.refl _), (Le.refl _), (Le.refl _), (Le.refl _), (Le.refl _), (Le.refl _), (Le.refl _), (Le.refl _), (Le.refl _), (Le.refl _), (Le.refl _), (Le.refl _), (Le.refl _), (Le.refl _), (Le.refl _), (Le.refl _), trivial⟩), (Le.refl _), trivial⟩)
 ·rintro env1 st1 ⟨e234, fq235, l236, m237, c10238, c132239, c133240, c20241, c232242, c233243, h, hsub, hst⟩
  subst hk244
  dsimp only at h
  refine WC.sub hsub (WC.weak hst ?_)
  replace h := letkS h
  obtain ⟨k269, hk269, h⟩ := h
  refine wc_cut (fun env' st' => ∃ (t265 : Bool), ∃ (c00266 : Nat → (List Int)), ∃ (c10267 : Nat → (List Int)), ∃ (c20268 : Nat → (List Int)), k269 t265 c00266 c10267 c20268 = some r ∧ Sub [(4, .pt 0 0), (5, .d (D.b t265))] env' ∧ SLe st' [.row 26 (vecA 32 (fun j => .d (.sl (List.map E3 (c00266 j)))) ++ ([.d (.sl (List.map E62 c232242)), .d (D.i .i64 c233243)] : List AV)), .row 26 (vecA 32 (fun j => .d (.sl (List.map E3 (c10267 j)))) ++ ([.d (.sl (List.map E62 c132239)), .d (D.i .i64 c133240)] : List AV)), .row 26 (vecA 32 (fun j => .d (.sl (List.map E3 (c20268 j)))) ++ ([.d (.sl (List.map E62 c232242)), .d (D.i .i64 c233243)] : List AV))]) ?_ ?_
  ·obtain ⟨r270, hr270, h⟩ := bindS h
   rcases boolCases r270 with hb3 | hb3
   ·replace h := condT h hb3
    rcases boolCases (decide (e234 = fq235)) with hb4 | hb4
    ·replace h := condT h hb4
     obtain ⟨r271, hr271, h⟩ := bindS h
     apply wc_region_all [_, _, _, _, _, _, _, _, _, _, _, _, _, _, .u, _] [[], [], [], [1, 2], [1, 2, 3], [1, 2, 3, 4], [1, 2, 3, 4], [1, 2, 3, 4, 5, 6], [1, 2, 3, 4, 5, 6, 7], [1, 2, 3, 4, 5, 6, 7, 8], [1, 2, 3, 4, 5, 6, 7, 8, 9], [1, 2, 3, 4, 5, 6, 7, 8, 9], [1, 2, 3, 4, 5, 6, 7, 8, 9, 10, 11], [1, 2, 3, 4, 5, 6, 7, 8, 9, 10, 11, 12], [0, 1, 2, 3, 4, 5, 6, 7, 8, 9, 10, 11, 12], [0, 1, 2, 3, 4, 5, 6, 7, 8, 9, 10, 11, 12, 13, 14]] [14] (fun c => List.getD [[.row 26 [sN, sN, sN, sN, sN, sN, sN, sN, sN, sN, sN, sN, sN, sN, sN, sN, sN, sN, sN, sN, sN, sN, sN, sN, sN, sN, sN, sN, sN, sN, sN, sN, sN, .d (D.i .i64 0)], .row 26 (vecA 32 (fun j => .d (.sl (List.map E3 (c10238 j)))) ++ ([.d (.sl (List.map E62 c132239)), .d (D.i .i64 c133240)] : List AV)), .row 26 (vecA 32 (fun j => .d (.sl (List.map E3 (c20241 j)))) ++ ([.d (.sl (List.map E62 c232242)), .d (D.i .i64 c233243)] : List AV))], [.row 26 (vecA 32 (fun j => .d (.sl (List.map E3 (c20241 j)))) ++ ([.d (.sl (List.map E62 c232242)), .d (D.i .i64 c233243)] : List AV)), .row 26 (vecA 32 (fun j => .d (.sl (List.map E3 (c10238 j)))) ++ ([.d (.sl (List.map E62 c132239)), .d (D.i .i64 c133240)] : List AV)), .row 26 (vecA 32 (fun j => .d (.sl (List.map E3 (c20241 j)))) ++ ([.d (.sl (List.map E62 c232242)), .d (D.i .i64 c233243)] : List AV))]] c []) [([], [7], [0]), ([], [6], [0]), ([], [7], [0]), ([1, 2], [], [0]), ([3], [], [0]), ([4], [8], [0]), ([4], [9], [0]), ([5, 6, 4], [], [0]), ([4, 7], [], [0]), ([8], [], [0]), ([9], [10], [0]), ([9], [11], [0]), ([10, 11, 9], [], [0]), ([9, 12], [], [0, 1]), ([0], [4], [0]), ([13], [], [1])] (by kernel_rfl) (by kernel_rfl) rfl rfl rfl
     ·refine ⟨?_, ?_, ?_, ?_, ?_, ?_, ?_, ?_, ?_, ?_, ?_, ?_, ?_, ?_, ?_, ?_, trivial⟩
      ·refine ⟨fun F => ?_, trivial⟩
       refine WL.qn (y_loadN rfl rfl a26 s26 rfl) rfl ?_
       exact WL.done1 rfl rfl rfl
      ·refine ⟨fun F => ?_, trivial⟩
       refine WL.qn (y_loadN rfl rfl a26 s26 rfl) rfl ?_
       exact WL.done1 rfl rfl rfl
      ·refine ⟨fun F => ?_, trivial⟩
       refine WL.qn (y_loadN rfl rfl a26 s26 rfl) rfl ?_
       exact WL.done1 rfl rfl rfl
      ·refine ⟨fun F => ?_, trivial⟩
       refine WL.fn rfl rfl rfl rfl (f15_c _ _ hr270) ⟨(Le.agd ⟨(Le.refl _), (Le.refl _), (Le.refl _), (Le.refl _), (Le.refl _), (Le.refl _), (Le.refl _), (Le.refl _), (Le.refl _), (Le.refl _), (Le.refl _), (Le.refl _), (Le.refl _), (Le.refl _), (Le.refl _), (Le.refl _), (Le.refl _), (Le.refl _), (Le.refl _), (Le.refl _), (Le.refl _), (Le.refl _), (Le.refl _), (Le.refl _), (Le.refl _), (Le.refl _), (Le.refl _), (Le.refl _), (Le.refl _), (Le.refl _), (Le.refl _), (Le.refl _), (Le.refl _), (Le.refl _), trivial⟩), (Le.agd ⟨(Le.refl _), (Le.refl _), (Le.refl _), (Le.refl _), (Le.refl _), (Le.refl _), (Le.refl _), (Le.refl _), (Le.refl _), (Le.refl _), (Le.refl _), (Le.refl _), (Le.refl _), (Le.refl _), (Le.refl _), (Le.refl _), (Le.refl _), (Le.refl _), (Le.refl _), (Le.refl _), (Le.refl _), (Le.refl _), (Le.refl _), (Le.refl _), (Le.refl _), (Le.refl _), (Le.refl _), (Le.refl _), (Le.refl _), (Le.refl _), (Le.refl _), (Le.refl _), (Le.refl _), (Le.refl _), trivial⟩), trivial⟩ (Wt.none rfl) rfl rfl ?_
       exact WL.done1 rfl rfl rfl
      ·refine ⟨fun F => ?_, trivial⟩
       refine WL.mv rfl rfl ?_
       refine WL.cast 221 rfl (Le.ofd (by rw [hb3])) ?_
       exact WL.done2 rfl rfl rfl
      ·refine ⟨fun F => ?_, trivial⟩
       refine WL.qy (y_move rfl) rfl rfl rfl ?_
       exact WL.done1 rfl rfl rfl
      ·refine ⟨fun F => ?_, trivial⟩
       refine WL.qy (y_move rfl) rfl rfl rfl ?_
       exact WL.done1 rfl rfl rfl
      ·refine ⟨fun F => ?_, trivial⟩
       refine WL.qy (y_eql rfl rfl) rfl rfl rfl ?_
       exact WL.done1 rfl rfl rfl
      ·refine ⟨fun F => ?_, trivial⟩
       refine WL.qn (y_pick_t rfl rfl) rfl ?_
       exact WL.done1 rfl rfl rfl
      ·refine ⟨fun F => ?_, trivial⟩
       refine WL.mv rfl rfl ?_
       refine WL.cast 226 rfl (Le.ofd (by rw [hb4])) ?_
       exact WL.done2 rfl rfl rfl
      ·refine ⟨fun F => ?_, trivial⟩
       refine WL.qy (y_move rfl) rfl rfl rfl ?_
       exact WL.done1 rfl rfl rfl
      ·refine ⟨fun F => ?_, trivial⟩
       refine WL.qy (y_move rfl) rfl rfl rfl ?_
       exact WL.done1 rfl rfl rfl
      ·refine ⟨fun F => ?_, trivial⟩
       refine WL.fn rfl rfl rfl rfl (f31_c _ _ hr271) ⟨(Le.refl _), (Le.refl _), trivial⟩ (Wt.yes rfl rfl rfl) rfl rfl ?_
       exact WL.done1 rfl rfl rfl
      ·refine ⟨fun F => ?_, fun F => ?_, trivial⟩
       ·refine WL.qn (y_pick_t rfl rfl) rfl ?_
        exact WL.done1 rfl rfl rfl
       ·refine WL.qn (y_pick_t rfl rfl) rfl ?_
        exact WL.done1 rfl rfl rfl
      ·refine ⟨fun F => ?_, trivial⟩
       refine WL.s0 (d_store rfl rfl rfl rfl rfl rfl s26 rfl rfl) (Wt.none rfl) rfl ?_
       exact WL.done0 rfl rfl
      ·refine ⟨fun F => ?_, trivial⟩
       refine WL.as rfl rfl ?_
       exact WL.done1 rfl rfl rfl
     ·exact we_lp ⟨r271, c20241, c10238, c20241, h, (Sub.cons rfl (Le.refl _) (Sub.cons rfl (Le.refl _) (Sub.nil _))), ⟨⟨rfl, Les.refl _⟩, ⟨rfl, Les.refl _⟩, ⟨rfl, Les.refl _⟩, trivial⟩⟩
    ·replace h := condF h hb4
     apply wc_region_all [_, _, _, _, _, _, _, _, _, _, _, _, _, _, .u, _] [[], [], [], [1, 2], [1, 2, 3], [1, 2, 3, 4], [1, 2, 3, 4], [1, 2, 3, 4, 5, 6], [1, 2, 3, 4, 5, 6, 7], [1, 2, 3, 4, 5, 6, 7, 8], [1, 2, 3, 4, 5, 6, 7, 8, 9], [1, 2, 3, 4, 5, 6, 7, 8, 9], [1, 2, 3, 4, 5, 6, 7, 8, 9, 10, 11], [1, 2, 3, 4, 5, 6, 7, 8, 9, 10, 11, 12], [0, 1, 2, 3, 4, 5, 6, 7, 8, 9, 10, 11, 12], [0, 1, 2, 3, 4, 5, 6, 7, 8, 9, 10, 11, 12, 13, 14]] [14] (fun c => List.getD [[.row 26 [sN, sN, sN, sN, sN, sN, sN, sN, sN, sN, sN, sN, sN, sN, sN, sN, sN, sN, sN, sN, sN, sN, sN, sN, sN, sN, sN, sN, sN, sN, sN, sN, sN, .d (D.i .i64 0)], .row 26 (vecA 32 (fun j => .d (.sl (List.map E3 (c10238 j)))) ++ ([.d (.sl (List.map E62 c132239)), .d (D.i .i64 c133240)] : List AV)), .row 26 (vecA 32 (fun j => .d (.sl (List.map E3 (c20241 j)))) ++ ([.d (.sl (List.map E62 c232242)), .d (D.i .i64 c233243)] : List AV))], [.row 26 (vecA 32 (fun j => .d (.sl (List.map E3 (c20241 j)))) ++ ([.d (.sl (List.map E62 c232242)), .d (D.i .i64 c233243)] : List AV)), .row 26 (vecA 32 (fun j => .d (.sl (List.map E3 (c10238 j)))) ++ ([.d (.sl (List.map E62 c132239)), .d (D.i .i64 c133240)] : List AV)), .row 26 (vecA 32 (fun j => .d (.sl (List.map E3 (c20241 j)))) ++ ([.d (.sl (List.map E62 c232242)), .d (D.i .i64 c233243)] : List AV))]] c []) [([], [7], [0]), ([], [6], [0]), ([], [7], [0]), ([1, 2], [], [0]), ([3], [], [0]), ([4], [8], [0]), ([4], [9], [0]), ([5, 6, 4], [], [0]), ([4, 7], [], [0]), ([8], [], [0]), ([9], [], [0]), ([9], [], [0]), ([9], [], [0]), ([9, 12], [], [0, 1]), ([0], [4], [0]), ([13], [], [1])] (by kernel_rfl) (by kernel_rfl) rfl rfl rfl
     ·refine ⟨?_, ?_, ?_, ?_, ?_, ?_, ?_, ?_, ?_, ?_, ?_, ?_, ?_, ?_, ?_, ?_, trivial⟩
      ·refine ⟨fun F => ?_, trivial⟩
       refine WL.qn (y_loadN rfl rfl a26 s26 rfl) rfl ?_
       exact WL.done1 rfl rfl rfl
      ·refine ⟨fun F => ?_, trivial⟩
       refine WL.qn (y_loadN rfl rfl a26 s26 rfl) rfl ?_
       exact WL.done1 rfl rfl rfl
      ·refine ⟨fun F => ?_, trivial⟩
       refine WL.qn (y_loadN rfl rfl a26 s26 rfl) rfl ?_
       exact WL.done1 rfl rfl rfl
      ·refine ⟨fun F => ?_, trivial⟩
       refine WL.fn rfl rfl rfl rfl (f15_c _ _ hr270) ⟨(Le.agd ⟨(Le.refl _), (Le.refl _), (Le.refl _), (Le.refl _), (Le.refl _), (Le.refl _), (Le.refl _), (Le.refl _), (Le.refl _), (Le.refl _), (Le.refl _), (Le.refl _), (Le.refl _), (Le.refl _), (Le.refl _), (Le.refl _), (Le.refl _), (Le.refl _), (Le.refl _), (Le.refl _), (Le.refl _), (Le.refl _), (Le.refl _), (Le.refl _), (Le.refl _), (Le.refl _), (Le.refl _), (Le.refl _), (Le.refl _), (Le.refl _), (Le.refl _), (Le.refl _), (Le.refl _), (Le.refl _), trivial⟩), (Le.agd ⟨(Le.refl _), (Le.refl _), (Le.refl _), (Le.refl _), (Le.refl _), (Le.refl _), (Le.refl _), (Le.refl _), (Le.refl _), (Le.refl _), (Le.refl _), (Le.refl _), (Le.refl _), (Le.refl _), (Le.refl _), (Le.refl _), (Le.refl _), (Le.refl _), (Le.refl _), (Le.refl _), (Le.refl _), (Le.refl _), (Le.refl _), (Le.refl _), (Le.refl _), (Le.refl _), (Le.refl _), (Le.refl _), (Le.refl _), (Le.refl _), (Le.refl _), (Le.refl _), (Le.refl _), (Le.refl _), trivial⟩), trivial⟩ (Wt.none rfl) rfl rfl ?_
       exact WL.done1 rfl rfl rfl
      ·refine ⟨fun F => ?_, trivial⟩
       refine WL.mv rfl rfl ?_
       refine WL.cast 221 rfl (Le.ofd (by rw [hb3])) ?_
       exact WL.done2 rfl rfl rfl
      ·refine ⟨fun F => ?_, trivial⟩
       refine WL.qy (y_move rfl) rfl rfl rfl ?_
       exact WL.done1 rfl rfl rfl
      ·refine ⟨fun F => ?_, trivial⟩
       refine WL.qy (y_move rfl) rfl rfl rfl ?_
       exact WL.done1 rfl rfl rfl
      ·refine ⟨fun F => ?_, trivial⟩
       refine WL.qy (y_eql rfl rfl) rfl rfl rfl ?_
       exact WL.done1 rfl rfl rfl
      ·refine ⟨fun F => ?_, trivial⟩
       refine WL.qn (y_pick_t rfl rfl) rfl ?_
       exact WL.done1 rfl rfl rfl
      ·refine ⟨fun F => ?_, trivial⟩
       refine WL.mv rfl rfl ?_
       refine WL.cast 226 rfl (Le.ofd (by rw [hb4])) ?_
       exact WL.done2 rfl rfl rfl
      ·refine ⟨fun F => ?_, trivial⟩
       refine WL.skips 1 rfl ?_
       exact WL.done1 rfl rfl rfl
      ·refine ⟨fun F => ?_, trivial⟩
       refine WL.skips 1 rfl ?_
       exact WL.done1 rfl rfl rfl
      ·refine ⟨fun F => ?_, trivial⟩
       refine WL.skips 1 rfl ?_
       exact WL.done1 rfl rfl rfl
      ·refine ⟨fun F => ?_, fun F => ?_, trivial⟩
       ·refine WL.qn (y_pick_f rfl rfl) rfl ?_
        exact WL.done1 rfl rfl rfl
       ·refine WL.qn (y_pick_f rfl rfl) rfl ?_
        exact WL.done1 rfl rfl rfl
      ·refine ⟨fun F => ?_, trivial⟩
       refine WL.s0 (d_store rfl rfl rfl rfl rfl rfl s26 rfl rfl) (Wt.none rfl) rfl ?_
       exact WL.done0 rfl rfl
      ·refine ⟨fun F => ?_, trivial⟩
       refine WL.as rfl rfl ?_
       exact WL.done1 rfl rfl rfl
     ·exact we_lp ⟨false, c20241, c10238, c20241, h, (Sub.cons rfl (Le.refl _) (Sub.cons rfl (Le.refl _) (Sub.nil _))), ⟨⟨rfl, Les.refl _⟩, ⟨rfl, Les.refl _⟩, ⟨rfl, Les.refl _⟩, trivial⟩⟩
   ·replace h := condF h hb3
    apply wc_region_all [_, _, _, _, _, _, _, _, _, _, _, _, _, _, .u, _] [[], [], [], [1, 2], [1, 2, 3], [1, 2, 3, 4], [1, 2, 3, 4], [1, 2, 3, 4, 5, 6], [1, 2, 3, 4, 5, 6, 7], [1, 2, 3, 4, 5, 6, 7, 8], [1, 2, 3, 4, 5, 6, 7, 8, 9], [1, 2, 3, 4, 5, 6, 7, 8, 9], [1, 2, 3, 4, 5, 6, 7, 8, 9, 10, 11], [1, 2, 3, 4, 5, 6, 7, 8, 9, 10, 11, 12], [0, 1, 2, 3, 4, 5, 6, 7, 8, 9, 10, 11, 12], [0, 1, 2, 3, 4, 5, 6, 7, 8, 9, 10, 11, 12, 13, 14]] [14] (fun c => List.getD [[.row 26 [sN, sN, sN, sN, sN, sN, sN, sN, sN, sN, sN, sN, sN, sN, sN, sN, sN, sN, sN, sN, sN, sN, sN, sN, sN, sN, sN, sN, sN, sN, sN, sN, sN, .d (D.i .i64 0)], .row 26 (vecA 32 (fun j => .d (.sl (List.map E3 (c10238 j)))) ++ ([.d (.sl (List.map E62 c132239)), .d (D.i .i64 c133240)] : List AV)), .row 26 (vecA 32 (fun j => .d (.sl (List.map E3 (c20241 j)))) ++ ([.d (.sl (List.map E62 c232242)), .d (D.i .i64 c233243)] : List AV))], [.row 26 (vecA 32 (fun j => .d (.sl (List.map E3 (c20241 j)))) ++ ([.d (.sl (List.map E62 c232242)), .d (D.i .i64 c233243)] : List AV)), .row 26 (vecA 32 (fun j => .d (.sl (List.map E3 (c10238 j)))) ++ ([.d (.sl (List.map E62 c132239)), .d (D.i .i64 c133240)] : List AV)), .row 26 (vecA 32 (fun j => .d (.sl (List.map E3 (c20241 j)))) ++ ([.d (.sl (List.map E62 c232242)), .d (D.i .i64 c233243)] : List AV))]] c []) [([], [7], [0]), ([], [6], [0]), ([], [7], [0]), ([1, 2], [], [0]), ([3], [], [0]), ([4], [], [0]), ([4], [], [0]), ([4], [], [0]), ([4, 7], [], [0]), ([8], [], [0]), ([9], [], [0]), ([9], [], [0]), ([9], [], [0]), ([9, 12], [], [0, 1]), ([0], [4], [0]), ([13], [], [1])] (by kernel_rfl) (by kernel_rfl) rfl rfl rfl
    ·refine ⟨?_, ?_, ?_, ?_, ?_, ?_, ?_, ?_, ?_, ?_, ?_, ?_, ?_, ?_, ?_, ?_, trivial⟩
     ·refine ⟨fun F => ?_, trivial⟩
      refine WL.qn (y_loadN rfl rfl a26 s26 rfl) rfl ?_
      exact WL.done1 rfl rfl rfl
     ·refine ⟨fun F => ?_, trivial⟩
      refine WL.qn (y_loadN rfl rfl a26 s26 rfl) rfl ?_
      exact WL.done1 rfl rfl rfl
     ·refine ⟨fun F => ?_, trivial⟩
      refine WL.qn (y_loadN rfl rfl a26 s26 rfl) rfl ?_
      exact WL.done1 rfl rfl rfl
     ·refine ⟨fun F => ?_, trivial⟩
      refine WL.fn rfl rfl rfl rfl (f15_c _ _ hr270) ⟨(Le.agd ⟨(Le.refl _), (Le.refl _), (Le.refl _), (Le.refl _), (Le.refl _), (Le.refl _), (Le.refl _), (Le.refl _), (Le.refl _), (Le.refl _), (Le.refl _), (Le.refl _), (Le.refl _), (Le.refl _), (Le.refl _), (Le.refl _), (Le.refl _), (Le.refl _), (Le.refl _), (Le.refl _), (Le.refl _), (Le.refl _), (Le.refl _), (Le.refl _), (Le.refl _), (Le.refl _), (Le.refl _), (Le.refl _), (Le.refl _), (Le.refl _), (Le.refl _), (Le.refl _), (Le.refl _), (Le.refl _), trivial⟩), (Le.agd ⟨(Le.refl _), (Le.refl _), (Le.refl _), (Le.refl _), (Le.refl _), (Le.refl _), (Le.refl _), (Le.refl _), (Le.refl _), (Le.refl _), (Le.refl _), (Le.refl _), (Le.refl _), (Le.refl _), (Le.refl _), (Le.refl _), (Le.refl _), (Le.refl _), (Le.refl _), (Le.refl _), (Le.refl _), (Le.refl _), (Le.refl _), (Le.refl _), (Le.refl _), (Le.refl _), (Le.refl _), (Le.refl _), (Le.refl _), (Le.refl _), (Le.refl _), (Le.refl _), (Le.refl _), (Le.refl _), trivial⟩), trivial⟩ (Wt.none rfl) rfl rfl ?_
      exact WL.done1 rfl rfl rfl
     ·refine ⟨fun F => ?_, trivial⟩
      refine WL.mv rfl rfl ?_
      refine WL.cast 221 rfl (Le.ofd (by rw [hb3])) ?_
      exact WL.done2 rfl rfl rfl
     ·refine ⟨fun F => ?_, trivial⟩
      refine WL.skips 1 rfl ?_
      exact WL.done1 rfl rfl rfl
     ·refine ⟨fun F => ?_, trivial⟩
      refine WL.skips 1 rfl ?_
      exact WL.done1 rfl rfl rfl
     ·refine ⟨fun F => ?_, trivial⟩
      refine WL.skips 1 rfl ?_
      exact WL.done1 rfl rfl rfl
     ·refine ⟨fun F => ?_, trivial⟩
      refine WL.qn (y_pick_f rfl rfl) rfl ?_
      exact WL.done1 rfl rfl rfl
     ·refine ⟨fun F => ?_, trivial⟩
      refine WL.mv rfl rfl ?_
      exact WL.done1 rfl rfl rfl
     ·refine ⟨fun F => ?_, trivial⟩
      refine WL.skips 1 rfl ?_
      exact WL.done1 rfl rfl rfl
     ·refine ⟨fun F => ?_, trivial⟩
      refine WL.skips 1 rfl ?_
      exact WL.done1 rfl rfl rfl
     ·refine ⟨fun F => ?_, trivial⟩
      refine WL.skips 1 rfl ?_
      exact WL.done1 rfl rfl rfl
     ·refine ⟨fun F => ?_, fun F => ?_, trivial⟩
      ·refine WL.qn (y_pick_f rfl rfl) rfl ?_
       exact WL.done1 rfl rfl rfl
      ·refine WL.qn (y_pick_f rfl rfl) rfl ?_
       exact WL.done1 rfl rfl rfl
     ·refine ⟨fun F => ?_, trivial⟩
      refine WL.s0 (d_store rfl rfl rfl rfl rfl rfl s26 rfl rfl) (Wt.none rfl) rfl ?_
      exact WL.done0 rfl rfl
     ·refine ⟨fun F => ?_, trivial⟩
      refine WL.as rfl rfl ?_
      exact WL.done1 rfl rfl rfl
    ·exact we_lp ⟨false, c20241, c10238, c20241, h, (Sub.cons rfl (Le.refl _) (Sub.cons rfl (Le.refl _) (Sub.nil _))), ⟨⟨rfl, Les.refl _⟩, ⟨rfl, Les.refl _⟩, ⟨rfl, Les.refl _⟩, trivial⟩⟩
  ·rintro env1 st1 ⟨t265, c00266, c10267, c20268, h, hsub, hst⟩
   subst hk269
   dsimp only at h
   refine WC.sub hsub (WC.weak hst ?_)
   refine wc_ret ?_
   obtain rfl := Option.some.inj h
   exact we_ret_fn (rs2 rfl (rv_cN rfl rfl a26 s26 rfl) (rv_t rfl)) (Le.tud ⟨(Le.agd ⟨(Le.refl _), (Le.refl _), (Le.refl _), (Le.refl _), (Le.refl _), (Le.refl _), (Le.refl _), (Le.refl _), (Le.refl _), (Le.refl _), (Le.refl _), (Le.refl _), (Le.refl _), (Le.refl _), (Le.refl _), (Le.refl _), (Le.refl _), (Le.refl _), (Le.refl _), (Le.refl _), (Le.refl _), (Le.refl _), (Le.refl _), (Le.refl _), (Le.refl _), (Le.refl _), (Le.refl _), (Le.refl _), (Le.refl _), (Le.refl _), (Le.refl _), (Le.refl _), (Le.refl _), (Le.refl _), trivial⟩), (Le.refl _), trivial⟩)

theorem f26_c  : Pu Try.prog 26 [] (.ag (R26 (f26 ))) := by
 generalize h : f26  = r
 unfold f26 at h
 refine fn_intro Try.func26 (by kernel_rfl) rfl rfl rfl (fun φφ ww => ?_)
 refine wc_sr ?_
 refine WL.s ((b_alloc z26).does) (Wt.none rfl) rfl rfl ?_
 refine WL.ns ?_
 refine wc_sr ?_
 refine WL.qn (y_build p26 z26 rfl rfl) rfl ?_
 refine WL.s0 (d_store rfl rfl rfl rfl rfl rfl s26 rfl rfl) (Wt.none rfl) rfl ?_
 refine WL.st (st' := [.row 26 [sN, sN, sN, sN, sN, sN, sN, sN, sN, sN, sN, sN, sN, sN, sN, sN, sN, sN, sN, sN, sN, sN, sN, sN, sN, sN, sN, sN, sN, sN, sN, sN, sN, .d (D.i .i64 (-1))]]) rfl ?_
 refine WL.ns ?_
 refine wc_ret ?_
 subst h
 exact we_ret_fn (rs1 rfl (rv_cN rfl rfl a26 s26 rfl)) (Le.agd ⟨Le.nil, Le.nil, Le.nil, Le.nil, Le.nil, Le.nil, Le.nil, Le.nil, Le.nil, Le.nil, Le.nil, Le.nil, Le.nil, Le.nil, Le.nil, Le.nil, Le.nil, Le.nil, Le.nil, Le.nil, Le.nil, Le.nil, Le.nil, Le.nil, Le.nil, Le.nil, Le.nil, Le.nil, Le.nil, Le.nil, Le.nil, Le.nil, Le.nil, (Le.refl _), trivial⟩)

end Go.Proofs.Ytpionlekbfoccaa
