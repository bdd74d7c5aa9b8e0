/- The walks of functions. -/
import Derived.Test.YtpionlekbfoccaaProg
import Derived.KernelRfl
import Derived.Test.YtpionlekbfoccaaO
import Derived.Test.YtpionlekbfoccaaWa
set_option maxHeartbeats 4000000
set_option maxRecDepth 100000
namespace Go.Proofs.Ytpionlekbfoccaa
open Go Go.Sk

theorem f43_c (q0 : Queues) (task1 : Int) {r : Int × Bool} (h : f43 q0 task1 = some r) : Pu Try.prog 43 [.ag (R26 q0), .i .i64 task1] (.tu [.i .i64 r.1, .b r.2]) := by
 unfold f43 at h
 refine fn_intro Try.func43 (by kernel_rfl) rfl rfl rfl (fun φφ ww => ?_)
 refine wc_sr ?_
 refine WL.s ((b_boxd rfl rfl (Les.refl _)).does) (Wt.none rfl) rfl rfl ?_
 refine WL.s ((b_boxd rfl rfl (by exact (show Les [.d (D.i .i64 task1)] (List.map AV.d [.i .i64 task1]) from ⟨(Le.refl _), trivial⟩))).does) (Wt.none rfl) rfl rfl ?_
 refine WL.s ((b_alloc z3).does) (Wt.none rfl) rfl rfl ?_
 refine WL.s ((b_alloc z4).does) (Wt.none rfl) rfl rfl ?_
 refine WL.ns ?_
 replace h := letkS h
 obtain ⟨k19, hk19, h⟩ := h
 refine wc_cut (fun env' st' => k19 () = some r ∧ Sub [(4, .pt 0 0), (5, .pt 1 0)] env' ∧ SLe st' [.row 3 [.d (D.i .i64 0)], .row 4 [.d (D.b false)], .dead, .row 87 [.yl 2], .dead]) ?_ ?_
 ·refine wc_sr ?_
  refine WL.qn (y_loadcN rfl a26 s26 rfl) rfl ?_
  obtain ⟨k21, hk21, h⟩ := letkS h
  refine WL.inl (us := [.d (.ag (R26 q0))]) (fun rv st' => (k21 () = some r ∧ Le rv (.fn (.func 64) [] [.d (.pc (R26 q0))]) ∧ SLe st' [.row 3 [.d (D.i .i64 0)], .row 4 [.d (D.b false)]])) rfl rfl rfl rfl rfl ?_ (Wt.none rfl) rfl rfl ?_
  ·refine ctr_intro Try.func34 (by kernel_rfl) rfl rfl rfl (fun mm φφ ww hm20 => ?_)
   refine wc_sr ?_
   refine WL.s ((b_boxd rfl rfl (Les.refl _)).does) (Wt.none rfl) rfl rfl ?_
   refine WL.as rfl rfl ?_
   refine WL.ns ?_
   refine wc_sr ?_
   refine WL.qn (y_makeFunc rfl rfl) rfl ?_
   refine WL.as rfl rfl ?_
   refine WL.ns ?_
   refine wc_ret ?_
   exact we_ret (rs1 rfl (rv_t rfl)) ⟨h, (Le.refl _), ⟨⟨rfl, Les.refl _⟩, ⟨rfl, Les.refl _⟩, trivial⟩⟩
  ·rintro rv st1 ⟨h, hr, hst⟩
   subst hk21
   dsimp only at h
   refine WL.cast 9 rfl hr ?_
   refine WL.weak hst ?_
   refine WL.ns ?_
   refine wc_block ?_
   obtain ⟨k24, hk24, h⟩ := letkS h
   obtain ⟨k25, hk25, h⟩ := letkS h
   refine wc_range (us := [.yl 2, .d (.pc (R26 q0))]) [3, 4, 5] 2 (fun sl22 rv st' => (∃ (c0023 : Int), k24 c0023 = some r ∧ SLe st' [.row 3 [.d (D.i .i64 c0023)], .row 4 [.d (D.b true)], .lp sl22 [.d (.pc (E3 task1)), .pt 0 0, .pt 1 0] .done (some .ret), .row 87 [.yl 2], .dead]) ∨ (k25 () = some r ∧ SLe st' [.row 3 [.d (D.i .i64 0)], .row 4 [.d (D.b false)], .lp sl22 [.d (.pc (E3 task1)), .pt 0 0, .pt 1 0] .ready none, .row 87 [.yl 2], .dead])) rfl rfl rfl rfl rfl (fun sl22 hsl22 => ?_) ?_
   ·refine ctr_intro Try.func64 (by kernel_rfl) rfl rfl rfl (fun mm φφ ww hm22 => ?_)
    refine wc_sr ?_
    refine WL.s ((b_box rfl rfl).does) (Wt.none rfl) rfl rfl ?_
    refine WL.ns ?_
    refine wc_sr ?_
    refine WL.qn (y_fieldAddrc f26_0 rfl) rfl ?_
    refine WL.qn (y_sliceArr ar23 rfl rfl) rfl ?_
    obtain ⟨k27, hk27, h⟩ := letkS h
    refine WL.inl (us := [.d (.sl (List.map E22 (List.map q0.ready (List.range 32))))]) (fun rv st' => (k27 () = some r ∧ Le rv (.fn (.func 76) [] [.d (.pc (E89 (List.map q0.ready (List.range 32))))]) ∧ SLe st' [.row 3 [.d (D.i .i64 0)], .row 4 [.d (D.b false)], .lp sl22 [.d (.pc (E3 task1)), .pt 0 0, .pt 1 0] .ready none, .row 87 [.yl 2]])) rfl rfl rfl rfl rfl ?_ (Wt.none rfl) rfl rfl ?_
    ·refine ctr_intro Try.func65 (by kernel_rfl) rfl rfl rfl (fun mm φφ ww hm26 => ?_)
     refine wc_sr ?_
     refine WL.s ((b_boxd rfl rfl (by exact (show Les [.d (.sl (List.map E22 (List.map q0.ready (List.range 32))))] (List.map AV.d [.sl (List.map E22 (List.map q0.ready (List.range 32)))]) from ⟨(Le.refl _), trivial⟩))).does) (Wt.none rfl) rfl rfl ?_
     refine WL.as rfl rfl ?_
     refine WL.ns ?_
     refine wc_sr ?_
     refine WL.qn (y_makeFunc rfl rfl) rfl ?_
     refine WL.as rfl rfl ?_
     refine WL.ns ?_
     refine wc_ret ?_
     exact we_ret (rs1 rfl (rv_t rfl)) ⟨h, (Le.refl _), ⟨⟨rfl, Les.refl _⟩, ⟨rfl, Les.refl _⟩, ⟨rfl, Les.refl _, rfl, rfl⟩, ⟨rfl, Les.refl _⟩, trivial⟩⟩
    ·rintro rv st1 ⟨h, hr, hst⟩
     subst hk27
     dsimp only at h
     refine WL.cast 7 rfl hr ?_
     refine WL.weak hst ?_
     refine WL.ns ?_
     refine wc_block ?_
     obtain ⟨k30, hk30, h⟩ := letkS h
     obtain ⟨k31, hk31, h⟩ := letkS h
     refine wc_range (us := [.yl 4, .d (.pc (E89 (List.map q0.ready (List.range 32))))]) [2] 4 (fun sl28 rv st' => (∃ (c0029 : Int), k30 c0029 = some r ∧ SLe st' [.row 3 [.d (D.i .i64 c0029)], .row 4 [.d (D.b true)], .lp sl22 [.d (.pc (E3 task1)), .pt 0 0, .pt 1 0] .done (some .ret), .row 87 [.yl 2], .lp sl28 [.pt 3 0] .done (some .ret)]) ∨ (k31 () = some r ∧ SLe st' [.row 3 [.d (D.i .i64 0)], .row 4 [.d (D.b false)], .lp sl22 [.d (.pc (E3 task1)), .pt 0 0, .pt 1 0] .ready none, .row 87 [.yl 2], .lp sl28 [.pt 3 0] .ready none])) rfl rfl rfl rfl rfl (fun sl28 hsl28 => ?_) ?_
     ·refine ctr_intro Try.func76 (by kernel_rfl) rfl rfl rfl (fun mm φφ ww hm28 => ?_)
      refine wc_sr ?_
      refine WL.qn (y_loadc rfl a89 rfl) rfl ?_
      refine WL.qn (y_len_map E22 (List.map q0.ready (List.range 32)) e89 rfl rfl (Le.refl _)) rfl ?_
      refine WL.qn (y_sub rfl rfl rfl) rfl ?_
      refine WL.as rfl rfl ?_
      refine WL.ns ?_
      refine wc_block ?_
      refine wc_loop (fun n env' st' => ∃ (iq33 : Int), f43_l1 q0 task1 k30 k31 n iq33 = some r ∧ Sub [(0, .yl 4), (1, .d (.pc (E89 (List.map q0.ready (List.range 32))))), (3, .d (D.i .i64 iq33))] env' ∧ SLe st' [.row 3 [.d (D.i .i64 0)], .row 4 [.d (D.b false)], .lp sl22 [.d (.pc (E3 task1)), .pt 0 0, .pt 1 0] .ready none, .row 87 [.yl 2], .lp sl28 [.pt 3 0] .ready none]) (fun n => n) (Int.toNat ((IntKind.i64.wrap ((List.length (List.map q0.ready (List.range 32)) : Int) - 1)) + 1) + 1) ⟨(IntKind.i64.wrap ((List.length (List.map q0.ready (List.range 32)) : Int) - 1)), h, (Sub.cons rfl (Le.refl _) (Sub.cons rfl (Le.refl _) (Sub.cons rfl (Le.refl _) (Sub.nil _)))), ⟨⟨rfl, Les.refl _⟩, ⟨rfl, Les.refl _⟩, ⟨rfl, Les.refl _, rfl, rfl⟩, ⟨rfl, Les.refl _⟩, ⟨rfl, Les.refl _, rfl, rfl⟩, trivial⟩⟩ ?_
      rintro n env1 st1 ⟨iq33, h, hsub, hst⟩
      cases n with
      | zero => rw [f43_l1] at h; cases h
      | succ n =>
      rw [f43_l1] at h
      refine WC.sub hsub (WC.weak hst ?_)
      refine wc_seq ?_
      refine wc_sr ?_
      refine WL.mv rfl rfl ?_
      refine WL.qn (y_geq rfl rfl) rfl ?_
      refine WL.ns ?_
      refine wc_cond rfl (fun hc1 => ?_) (fun hc1 => ?_)
      ·replace h := condT h hc1
       refine wc_skip ?_
       refine we_seq ?_
       refine wc_seq ?_
       refine wc_block ?_
       refine wc_sr ?_
       refine WL.mv rfl rfl ?_
       refine WL.mv rfl rfl ?_
       refine WL.qn (y_loadc rfl a89 rfl) rfl ?_
       refine WL.mv rfl rfl ?_
       obtain ⟨x35, hx35, h⟩ := bindS h
       refine WL.qn (y_indexAddr e89 rfl (Le.refl _) rfl (idx_nonneg hx35) (idx_row E22_eq hx35) rfl) rfl ?_
       refine WL.qn (y_loadc rfl a22 rfl) rfl ?_
       obtain ⟨k37, hk37, h⟩ := letkS h
       obtain ⟨k38, hk38, h⟩ := letkS h
       refine WL.yield (env0 := [(8, .d (D.i .i64 iq33)), (9, .d (.sl (List.map E3 x35))), (2, .pt 3 0)]) (fun rv st' => (k37 () = some r ∧ rv = .d (.v (.bool false)) ∧ SLe st' [.row 3 [.d (D.i .i64 iq33)], .row 4 [.d (D.b true)], .lp sl22 [.d (.pc (E3 task1)), .pt 0 0, .pt 1 0] .done (some .ret), .row 87 [.yl 2], .lp sl28 [.pt 3 0] .done (some .ret)]) ∨ (k38 () = some r ∧ rv = .d (.v (.bool true)) ∧ SLe st' [.row 3 [.d (D.i .i64 0)], .row 4 [.d (D.b false)], .lp sl22 [.d (.pc (E3 task1)), .pt 0 0, .pt 1 0] .ready none, .row 87 [.yl 2], .lp sl28 [.pt 3 0] .ready none])) hsl28 rfl rfl rfl rfl rfl rfl rfl (fun ee hn hrd36 hm36 => ?_) (Wt.none rfl) rfl rfl ?_
       ·obtain ⟨em, eφ, ew, en, er⟩ := ee
        subst hn
        refine wc_sr ?_
        refine WL.as rfl rfl ?_
        refine WL.ns ?_
        refine wc_region ?_
        refine WL.as rfl rfl ?_
        refine WL.nil ?_
        refine we_asg hrd36 rfl ?_
        refine wc_block ?_
        refine wc_sr ?_
        refine WL.mv rfl rfl ?_
        refine WL.qn (y_len_map E3 x35 e22 rfl rfl (Le.refl _)) rfl ?_
        refine WL.qn (y_gtr rfl rfl) rfl ?_
        refine WL.mv rfl rfl ?_
        refine WL.split (t := 13) rfl (fun hb1 => ?_) (fun hb1 => ?_)
        ·replace h := condT h hb1
         refine WL.qy (y_load rfl rfl a87 rfl) rfl rfl rfl ?_
         refine WL.qy (y_move rfl) rfl rfl rfl ?_
         refine WL.qy (y_move rfl) rfl rfl rfl ?_
         obtain ⟨k40, hk40, h⟩ := letkS h
         obtain ⟨k41, hk41, h⟩ := letkS h
         refine WL.yield (env0 := [(10, .d (D.i .i64 iq33)), (11, .d (.sl (List.map E3 x35))), (3, .d (.pc (E3 task1))), (4, .pt 0 0), (5, .pt 1 0)]) (fun rv st' => (k40 () = some r ∧ rv = .d (.v (.bool false)) ∧ SLe st' [.row 3 [.d (D.i .i64 iq33)], .row 4 [.d (D.b true)], .lp sl22 [.d (.pc (E3 task1)), .pt 0 0, .pt 1 0] .done (some .ret), .row 87 [.yl 2], .lp sl28 [.pt 3 0] .busy none]) ∨ (k41 () = some r ∧ rv = .d (.v (.bool true)) ∧ SLe st' [.row 3 [.d (D.i .i64 0)], .row 4 [.d (D.b false)], .lp sl22 [.d (.pc (E3 task1)), .pt 0 0, .pt 1 0] .ready none, .row 87 [.yl 2], .lp sl28 [.pt 3 0] .busy none])) hsl22 rfl rfl rfl rfl rfl rfl rfl (fun ee hn hrd39 hm39 => ?_) (Wt.yes rfl rfl rfl) rfl rfl ?_
         ·obtain ⟨em, eφ, ew, en, er⟩ := ee
          subst hn
          refine wc_sr ?_
          refine WL.as rfl rfl ?_
          refine WL.ns ?_
          refine wc_region ?_
          refine WL.as rfl rfl ?_
          refine WL.nil ?_
          refine we_asg hrd39 rfl ?_
          refine wc_block ?_
          refine wc_sr ?_
          refine WL.mv rfl rfl ?_
          refine WL.qn (y_loadc rfl a3 rfl) rfl ?_
          obtain ⟨r42, hr42, h⟩ := bindS h
          refine WL.fn rfl rfl rfl rfl (f71_c _ _ hr42) ⟨(Le.refl _), (Le.refl _), trivial⟩ (Wt.none rfl) rfl rfl ?_
          refine WL.ns ?_
          refine wc_cond rfl (fun hc2 => ?_) (fun hc2 => ?_)
          ·replace h := condT h hc2
           refine wc_sr ?_
           refine WL.mv rfl rfl ?_
           refine WL.s0 (d_store rfl rfl rfl rfl rfl rfl s3 rfl rfl) (Wt.none rfl) rfl ?_
           refine WL.s0 (d_store rfl rfl rfl rfl rfl rfl s4 rfl rfl) (Wt.none rfl) rfl ?_
           refine WL.ns ?_
           refine wc_ret ?_
           refine we_blk_ret ?_
           exact we_rend_ret hrd39 rfl (.inl ⟨h, rfl, ⟨⟨rfl, Les.refl _⟩, ⟨rfl, Les.refl _⟩, ⟨rfl, Les.refl _, rfl, rfl⟩, ⟨rfl, Les.refl _⟩, ⟨rfl, Les.refl _, rfl, rfl⟩, trivial⟩⟩)
          ·replace h := condF h hc2
           refine wc_skip ?_
           refine we_blk ?_
           exact we_rend hrd39 rfl (.inr (⟨h, rfl, ⟨⟨rfl, Les.refl _⟩, ⟨rfl, Les.refl _⟩, ⟨rfl, Les.refl _, rfl, rfl⟩, ⟨rfl, Les.refl _⟩, ⟨rfl, Les.refl _, rfl, rfl⟩, trivial⟩⟩))
         ·rintro rv st1 (⟨h, rfl, hst⟩ | ⟨h, rfl, hst⟩)
          ·subst hk40
           dsimp only at h
           refine WL.weak hst ?_
           refine WL.qy (y_not rfl) rfl rfl rfl ?_
           refine WL.qn (y_pick_t rfl rfl) rfl ?_
           refine WL.ns ?_
           refine wc_true rfl ?_
           refine wc_ret ?_
           refine we_blk_ret ?_
           exact we_rend_ret hrd36 rfl (.inl ⟨h, rfl, ⟨⟨rfl, Les.refl _⟩, ⟨rfl, Les.refl _⟩, ⟨rfl, Les.refl _, rfl, rfl⟩, ⟨rfl, Les.refl _⟩, ⟨rfl, Les.refl _, rfl, rfl⟩, trivial⟩⟩)
          ·subst hk41
           dsimp only at h
           refine WL.weak hst ?_
           refine WL.qy (y_not rfl) rfl rfl rfl ?_
           refine WL.qn (y_pick_t rfl rfl) rfl ?_
           refine WL.ns ?_
           refine wc_false rfl ?_
           refine wc_skip ?_
           refine we_blk ?_
           exact we_rend hrd36 rfl (.inr (⟨h, rfl, ⟨⟨rfl, Les.refl _⟩, ⟨rfl, Les.refl _⟩, ⟨rfl, Les.refl _, rfl, rfl⟩, ⟨rfl, Les.refl _⟩, ⟨rfl, Les.refl _, rfl, rfl⟩, trivial⟩⟩))
        ·replace h := condF h hb1
         refine WL.skips 5 rfl ?_
         refine WL.qn (y_pick_f rfl rfl) rfl ?_
         refine WL.ns ?_
         refine wc_false rfl ?_
         refine wc_skip ?_
         refine we_blk ?_
         exact we_rend hrd36 rfl (.inr (⟨h, rfl, ⟨⟨rfl, Les.refl _⟩, ⟨rfl, Les.refl _⟩, ⟨rfl, Les.refl _, rfl, rfl⟩, ⟨rfl, Les.refl _⟩, ⟨rfl, Les.refl _, rfl, rfl⟩, trivial⟩⟩))
       ·rintro rv st1 (⟨h, rfl, hst⟩ | ⟨h, rfl, hst⟩)
        ·subst hk37
         dsimp only at h
         refine WL.weak hst ?_
         refine WL.qn (y_not rfl) rfl ?_
         refine WL.ns ?_
         refine wc_true rfl ?_
         refine wc_ret ?_
         refine we_blk_ret ?_
         refine we_seq_ret ?_
         refine we_lp_ret ?_
         refine we_blk_ret ?_
         exact we_ret (res0 rfl) (.inl ⟨iq33, h, ⟨⟨rfl, Les.refl _⟩, ⟨rfl, Les.refl _⟩, ⟨rfl, Les.refl _, rfl, rfl⟩, ⟨rfl, Les.refl _⟩, ⟨rfl, Les.refl _, rfl, rfl⟩, trivial⟩⟩)
        ·subst hk38
         dsimp only at h
         refine WL.weak hst ?_
         refine WL.qn (y_not rfl) rfl ?_
         refine WL.ns ?_
         refine wc_false rfl ?_
         refine wc_skip ?_
         refine we_blk ?_
         refine we_seq ?_
         refine wc_region ?_
         refine WL.mv rfl rfl ?_
         refine WL.qn (y_sub rfl rfl rfl) rfl ?_
         refine WL.as rfl rfl ?_
         refine WL.nil ?_
         exact we_lp ⟨n, ⟨(IntKind.i64.wrap (iq33 - 1)), h, (Sub.cons rfl (Le.refl _) (Sub.cons rfl (Le.refl _) (Sub.cons rfl (Le.refl _) (Sub.nil _)))), ⟨⟨rfl, Les.refl _⟩, ⟨rfl, Les.refl _⟩, ⟨rfl, Les.refl _, rfl, rfl⟩, ⟨rfl, Les.refl _⟩, ⟨rfl, Les.refl _, rfl, rfl⟩, trivial⟩⟩, Nat.lt_succ_self n⟩
      ·replace h := condF h hc1
       refine wc_exit ?_
       refine we_seq_exit ?_
       refine we_lp_exit ?_
       refine we_blk_hit ?_
       refine we_end ?_
       exact we_ret (res0 rfl) (.inr (⟨h, ⟨⟨rfl, Les.refl _⟩, ⟨rfl, Les.refl _⟩, ⟨rfl, Les.refl _, rfl, rfl⟩, ⟨rfl, Les.refl _⟩, ⟨rfl, Les.refl _, rfl, rfl⟩, trivial⟩⟩))
     ·rintro sl28 rv st1 (⟨c0029, h, hst⟩ | ⟨h, hst⟩)
      ·subst hk30
       dsimp only at h
       refine ⟨_, _, _, _, _, hst, rfl, (by intro h; cases h), ?_⟩
       refine we_blk_ret ?_
       exact we_ret (res0 rfl) (.inl ⟨c0029, h, ⟨⟨rfl, Les.refl _⟩, ⟨rfl, Les.refl _⟩, ⟨rfl, Les.refl _, rfl, rfl⟩, ⟨rfl, Les.refl _⟩, trivial, trivial⟩⟩)
      ·subst hk31
       dsimp only at h
       refine ⟨_, _, _, _, _, hst, rfl, (by intro h; cases h), ?_⟩
       refine we_blk ?_
       refine we_end ?_
       exact we_ret (res0 rfl) (.inr (⟨h, ⟨⟨rfl, Les.refl _⟩, ⟨rfl, Les.refl _⟩, ⟨rfl, Les.refl _, rfl, rfl⟩, ⟨rfl, Les.refl _⟩, trivial, trivial⟩⟩))
   ·rintro sl22 rv st1 (⟨c0023, h, hst⟩ | ⟨h, hst⟩)
    ·subst hk24
     dsimp only at h
     refine ⟨_, _, _, _, _, hst, rfl, (by intro h; cases h), ?_⟩
     refine we_blk_ret ?_
     refine we_lp_ret ?_
     obtain rfl := Option.some.inj h
     exact we_ret_fn (rs2 rfl (rv_c rfl rfl a3 rfl) (rv_c rfl rfl a4 rfl)) (Le.tud ⟨(Le.refl _), (Le.refl _), trivial⟩)
    ·subst hk25
     dsimp only at h
     refine ⟨_, _, _, _, _, hst, rfl, (by intro h; cases h), ?_⟩
     refine we_blk ?_
     exact we_lp ⟨h, (Sub.cons rfl (Le.refl _) (Sub.cons rfl (Le.refl _) (Sub.nil _))), ⟨⟨rfl, Les.refl _⟩, ⟨rfl, Les.refl _⟩, trivial, ⟨rfl, Les.refl _⟩, trivial, trivial⟩⟩
 ·rintro env1 st1 ⟨h, hsub, hst⟩
  subst hk19
  dsimp only at h
  refine WC.sub hsub (WC.weak hst ?_)
  refine wc_sr ?_
  refine WL.s0 (d_store rfl rfl rfl rfl rfl rfl s3 rfl rfl) (Wt.none rfl) rfl ?_
  refine WL.s0 (d_store rfl rfl rfl rfl rfl rfl s4 rfl rfl) (Wt.none rfl) rfl ?_
  refine WL.ns ?_
  refine wc_ret ?_
  obtain rfl := Option.some.inj h
  exact we_ret_fn (rs2 rfl (rv_c rfl rfl a3 rfl) (rv_c rfl rfl a4 rfl)) (Le.tud ⟨(Le.refl _), (Le.refl _), trivial⟩)

theorem f21_c (q0 : Queues) (prio1 : Int) (task2 : Int) {r : Queues × Int} (h : f21 q0 prio1 task2 = some r) : Pu Try.prog 21 [.ag (R26 q0), .i .i64 prio1, .i .i64 task2] (.tu [.ag (R26 r.1), .i .i64 r.2]) := by
 unfold f21 at h
 refine fn_intro Try.func21 (by kernel_rfl) rfl rfl rfl (fun φφ ww => ?_)
 refine wc_sr ?_
 refine WL.s ((b_boxd rfl rfl (Les.refl _)).does) (Wt.none rfl) rfl rfl ?_
 refine WL.s ((b_boxd rfl rfl (by exact (show Les [.d (D.i .i64 task2)] (List.map AV.d [.i .i64 task2]) from ⟨(Le.refl _), trivial⟩))).does) (Wt.none rfl) rfl rfl ?_
 refine WL.s ((b_alloc z26).does) (Wt.none rfl) rfl rfl ?_
 refine WL.as rfl rfl ?_
 refine WL.ns ?_
 refine wc_sr ?_
 refine WL.qn (y_loadcN rfl a26 s26 rfl) rfl ?_
 refine WL.mv rfl rfl ?_
 refine WL.qn (y_loadc rfl a3 rfl) rfl ?_
 refine WL.qn (y_makeFunc rfl rfl) rfl ?_
 obtain ⟨k21, hk21, h⟩ := letkS h
 obtain ⟨k22, hk22, h⟩ := letkS h
 refine WL.inl (us := [.d (.ag (R26 q0)), .d (D.i .i64 prio1), .d (D.i .i64 task2), .fn (.func 42) [] [.d (.pc (E3 task2))]]) (fun rv st' => (∃ (t20 : Int), k21 t20 = some r ∧ Le rv (.tu [.ag [.d (.v (.slice none 0 0)), .d (.v (.slice none 0 0)), .d (.v (.slice none 0 0)), .d (.v (.slice none 0 0)), .d (.v (.slice none 0 0)), .d (.v (.slice none 0 0)), .d (.v (.slice none 0 0)), .d (.v (.slice none 0 0)), .d (.v (.slice none 0 0)), .d (.v (.slice none 0 0)), .d (.v (.slice none 0 0)), .d (.v (.slice none 0 0)), .d (.v (.slice none 0 0)), .d (.v (.slice none 0 0)), .d (.v (.slice none 0 0)), .d (.v (.slice none 0 0)), .d (.v (.slice none 0 0)), .d (.v (.slice none 0 0)), .d (.v (.slice none 0 0)), .d (.v (.slice none 0 0)), .d (.v (.slice none 0 0)), .d (.v (.slice none 0 0)), .d (.v (.slice none 0 0)), .d (.v (.slice none 0 0)), .d (.v (.slice none 0 0)), .d (.v (.slice none 0 0)), .d (.v (.slice none 0 0)), .d (.v (.slice none 0 0)), .d (.v (.slice none 0 0)), .d (.v (.slice none 0 0)), .d (.v (.slice none 0 0)), .d (.v (.slice none 0 0)), .d (.v (.slice none 0 0)), .d (D.i .i64 0)], .d (D.i .i64 t20)]) ∧ SLe st' [.row 26 [.d (.v (.slice none 0 0)), .d (.v (.slice none 0 0)), .d (.v (.slice none 0 0)), .d (.v (.slice none 0 0)), .d (.v (.slice none 0 0)), .d (.v (.slice none 0 0)), .d (.v (.slice none 0 0)), .d (.v (.slice none 0 0)), .d (.v (.slice none 0 0)), .d (.v (.slice none 0 0)), .d (.v (.slice none 0 0)), .d (.v (.slice none 0 0)), .d (.v (.slice none 0 0)), .d (.v (.slice none 0 0)), .d (.v (.slice none 0 0)), .d (.v (.slice none 0 0)), .d (.v (.slice none 0 0)), .d (.v (.slice none 0 0)), .d (.v (.slice none 0 0)), .d (.v (.slice none 0 0)), .d (.v (.slice none 0 0)), .d (.v (.slice none 0 0)), .d (.v (.slice none 0 0)), .d (.v (.slice none 0 0)), .d (.v (.slice none 0 0)), .d (.v (.slice none 0 0)), .d (.v (.slice none 0 0)), .d (.v (.slice none 0 0)), .d (.v (.slice none 0 0)), .d (.v (.slice none 0 0)), .d (.v (.slice none 0 0)), .d (.v (.slice none 0 0)), .d (.v (.slice none 0 0)), .d (D.i .i64 0)], .row 26 (vecA 32 (fun j => .d (.sl (List.map E3 (q0.ready j)))) ++ ([.d (.sl (List.map E62 q0.delays)), .d (D.i .i64 q0.run)] : List AV)), .row 26 [.d (.v (.slice none 0 0)), .d (.v (.slice none 0 0)), .d (.v (.slice none 0 0)), .d (.v (.slice none 0 0)), .d (.v (.slice none 0 0)), .d (.v (.slice none 0 0)), .d (.v (.slice none 0 0)), .d (.v (.slice none 0 0)), .d (.v (.slice none 0 0)), .d (.v (.slice none 0 0)), .d (.v (.slice none 0 0)), .d (.v (.slice none 0 0)), .d (.v (.slice none 0 0)), .d (.v (.slice none 0 0)), .d (.v (.slice none 0 0)), .d (.v (.slice none 0 0)), .d (.v (.slice none 0 0)), .d (.v (.slice none 0 0)), .d (.v (.slice none 0 0)), .d (.v (.slice none 0 0)), .d (.v (.slice none 0 0)), .d (.v (.slice none 0 0)), .d (.v (.slice none 0 0)), .d (.v (.slice none 0 0)), .d (.v (.slice none 0 0)), .d (.v (.slice none 0 0)), .d (.v (.slice none 0 0)), .d (.v (.slice none 0 0)), .d (.v (.slice none 0 0)), .d (.v (.slice none 0 0)), .d (.v (.slice none 0 0)), .d (.v (.slice none 0 0)), .d (.v (.slice none 0 0)), .d (D.i .i64 0)]]) ∨ (k22 () = some r ∧ Le rv (.tu [.ag (vecA 32 (fun j => .d (.sl (List.map E3 ((vset q0.ready (Int.toNat prio1) ((q0.ready (Int.toNat prio1)) ++ [task2])) j)))) ++ ([.d (.sl (List.map E62 q0.delays)), .d (D.i .i64 q0.run)] : List AV)), .d (D.i .i64 0)]) ∧ SLe st' [.row 26 [.d (.v (.slice none 0 0)), .d (.v (.slice none 0 0)), .d (.v (.slice none 0 0)), .d (.v (.slice none 0 0)), .d (.v (.slice none 0 0)), .d (.v (.slice none 0 0)), .d (.v (.slice none 0 0)), .d (.v (.slice none 0 0)), .d (.v (.slice none 0 0)), .d (.v (.slice none 0 0)), .d (.v (.slice none 0 0)), .d (.v (.slice none 0 0)), .d (.v (.slice none 0 0)), .d (.v (.slice none 0 0)), .d (.v (.slice none 0 0)), .d (.v (.slice none 0 0)), .d (.v (.slice none 0 0)), .d (.v (.slice none 0 0)), .d (.v (.slice none 0 0)), .d (.v (.slice none 0 0)), .d (.v (.slice none 0 0)), .d (.v (.slice none 0 0)), .d (.v (.slice none 0 0)), .d (.v (.slice none 0 0)), .d (.v (.slice none 0 0)), .d (.v (.slice none 0 0)), .d (.v (.slice none 0 0)), .d (.v (.slice none 0 0)), .d (.v (.slice none 0 0)), .d (.v (.slice none 0 0)), .d (.v (.slice none 0 0)), .d (.v (.slice none 0 0)), .d (.v (.slice none 0 0)), .d (D.i .i64 0)], .row 26 (vecA 32 (fun j => .d (.sl (List.map E3 ((vset q0.ready (Int.toNat prio1) ((q0.ready (Int.toNat prio1)) ++ [task2])) j)))) ++ ([.d (.sl (List.map E62 q0.delays)), .d (D.i .i64 q0.run)] : List AV)), .row 26 (vecA 32 (fun j => .d (.sl (List.map E3 ((vset q0.ready (Int.toNat prio1) ((q0.ready (Int.toNat prio1)) ++ [task2])) j)))) ++ ([.d (.sl (List.map E62 q0.delays)), .d (D.i .i64 q0.run)] : List AV)), .dead, .os 3 1 0 (List.map (encA E3) [task2])])) rfl rfl rfl rfl rfl ?_ (Wt.none rfl) rfl rfl ?_
 ·refine ctr_intro Try.func41 (by kernel_rfl) rfl rfl rfl (fun mm φφ ww hm19 => ?_)
  refine wc_sr ?_
  refine WL.s ((b_box rfl rfl).does) (Wt.none rfl) rfl rfl ?_
  refine WL.s ((b_alloc z26).does) (Wt.none rfl) rfl rfl ?_
  refine WL.as rfl rfl ?_
  refine WL.ns ?_
  refine wc_seq ?_
  refine wc_sr ?_
  refine WL.qn (y_loadN rfl rfl a26 s26 rfl) rfl ?_
  obtain ⟨r23, hr23, h⟩ := bindS h
  refine WL.fn rfl rfl rfl rfl (f10_c _ hr23) ⟨(Le.agd ⟨(Le.refl _), (Le.refl _), (Le.refl _), (Le.refl _), (Le.refl _), (Le.refl _), (Le.refl _), (Le.refl _), (Le.refl _), (Le.refl _), (Le.refl _), (Le.refl _), (Le.refl _), (Le.refl _), (Le.refl _), (Le.refl _), (Le.refl _), (Le.refl _), (Le.refl _), (Le.refl _), (Le.refl _), (Le.refl _), (Le.refl _), (Le.refl _), (Le.refl _), (Le.refl _), (Le.refl _), (Le.refl _), (Le.refl _), (Le.refl _), (Le.refl _), (Le.refl _), (Le.refl _), (Le.refl _), trivial⟩), trivial⟩ (Wt.none rfl) rfl rfl ?_
  refine WL.qn (y_not rfl) rfl ?_
  refine WL.mv rfl rfl ?_
  apply WL.or 4 (t := 15) (d := 19)
  ·exact rfl
  ·intro hg15
   refine WL.qy (y_move rfl) rfl rfl rfl ?_
   refine WL.fn rfl rfl rfl rfl (f30_c _) ⟨(Le.refl _), trivial⟩ (Wt.yes rfl rfl rfl) rfl rfl ?_
   refine WL.qy (y_not rfl) rfl rfl rfl ?_
   refine WL.qn (y_pick_f rfl rfl) rfl ?_
   exact WL.nil ⟨rfl, [_, _, _, _], rfl, rfl, rfl⟩
  ·refine WL.skips 3 rfl ?_
   refine WL.qn (y_pick_t rfl rfl) rfl ?_
   exact WL.nil ⟨rfl, [_, _, _, _], rfl, rfl, rfl⟩
  refine WL.mv rfl rfl ?_
  apply WL.or 4 (t := 20) (d := 24)
  ·exact rfl
  ·intro hg20
   refine WL.qy (y_move rfl) rfl rfl rfl ?_
   refine WL.fn rfl rfl rfl rfl (f30_c _) ⟨(Le.refl _), trivial⟩ (Wt.yes rfl rfl rfl) rfl rfl ?_
   refine WL.qy (y_not rfl) rfl rfl rfl ?_
   refine WL.qn (y_pick_f rfl rfl) rfl ?_
   exact WL.nil ⟨rfl, [_, _, _, _], rfl, rfl, rfl⟩
  ·refine WL.skips 3 rfl ?_
   refine WL.qn (y_pick_t rfl rfl) rfl ?_
   exact WL.nil ⟨rfl, [_, _, _, _], rfl, rfl, rfl⟩
  refine WL.ns ?_
  refine wc_cond rfl (fun hc1 => ?_) (fun hc1 => ?_)
  ·replace h := condT h hc1
   refine wc_sr ?_
   refine WL.qn (y_build p26 z26 rfl rfl) rfl ?_
   refine WL.s0 (d_store rfl rfl rfl rfl rfl rfl s26 rfl rfl) (Wt.none rfl) rfl ?_
   refine WL.st (st' := [.row 26 [.d (.v (.slice none 0 0)), .d (.v (.slice none 0 0)), .d (.v (.slice none 0 0)), .d (.v (.slice none 0 0)), .d (.v (.slice none 0 0)), .d (.v (.slice none 0 0)), .d (.v (.slice none 0 0)), .d (.v (.slice none 0 0)), .d (.v (.slice none 0 0)), .d (.v (.slice none 0 0)), .d (.v (.slice none 0 0)), .d (.v (.slice none 0 0)), .d (.v (.slice none 0 0)), .d (.v (.slice none 0 0)), .d (.v (.slice none 0 0)), .d (.v (.slice none 0 0)), .d (.v (.slice none 0 0)), .d (.v (.slice none 0 0)), .d (.v (.slice none 0 0)), .d (.v (.slice none 0 0)), .d (.v (.slice none 0 0)), .d (.v (.slice none 0 0)), .d (.v (.slice none 0 0)), .d (.v (.slice none 0 0)), .d (.v (.slice none 0 0)), .d (.v (.slice none 0 0)), .d (.v (.slice none 0 0)), .d (.v (.slice none 0 0)), .d (.v (.slice none 0 0)), .d (.v (.slice none 0 0)), .d (.v (.slice none 0 0)), .d (.v (.slice none 0 0)), .d (.v (.slice none 0 0)), .d (D.i .i64 0)], .row 26 (vecA 32 (fun j => .d (.sl (List.map E3 (q0.ready j)))) ++ ([.d (.sl (List.map E62 q0.delays)), .d (D.i .i64 q0.run)] : List AV)), .row 26 [.d (.v (.slice none 0 0)), .d (.v (.slice none 0 0)), .d (.v (.slice none 0 0)), .d (.v (.slice none 0 0)), .d (.v (.slice none 0 0)), .d (.v (.slice none 0 0)), .d (.v (.slice none 0 0)), .d (.v (.slice none 0 0)), .d (.v (.slice none 0 0)), .d (.v (.slice none 0 0)), .d (.v (.slice none 0 0)), .d (.v (.slice none 0 0)), .d (.v (.slice none 0 0)), .d (.v (.slice none 0 0)), .d (.v (.slice none 0 0)), .d (.v (.slice none 0 0)), .d (.v (.slice none 0 0)), .d (.v (.slice none 0 0)), .d (.v (.slice none 0 0)), .d (.v (.slice none 0 0)), .d (.v (.slice none 0 0)), .d (.v (.slice none 0 0)), .d (.v (.slice none 0 0)), .d (.v (.slice none 0 0)), .d (.v (.slice none 0 0)), .d (.v (.slice none 0 0)), .d (.v (.slice none 0 0)), .d (.v (.slice none 0 0)), .d (.v (.slice none 0 0)), .d (.v (.slice none 0 0)), .d (.v (.slice none 0 0)), .d (.v (.slice none 0 0)), .d (.v (.slice none 0 0)), .d (D.i .i64 0)]]) rfl ?_
   refine WL.as rfl rfl ?_
   refine WL.ns ?_
   refine wc_ret ?_
   refine we_seq_ret ?_
   exact we_ret (rs2 rfl (rv_cN rfl rfl a26 s26 rfl) (rv_t rfl)) (.inl ⟨2, h, (Le.tu ⟨(Le.refl _), (Le.refl _), trivial⟩), ⟨⟨rfl, Les.refl _⟩, ⟨rfl, Les.refl _⟩, ⟨rfl, Les.refl _⟩, trivial⟩⟩)
  ·replace h := condF h hc1
   refine wc_skip ?_
   refine we_seq ?_
   refine wc_seq ?_
   refine wc_sr ?_
   refine WL.qn (y_loadN rfl rfl a26 s26 rfl) rfl ?_
   refine WL.mv rfl rfl ?_
   obtain ⟨r24, hr24, h⟩ := bindS h
   refine WL.fn rfl rfl rfl rfl (f43_c _ _ hr24) ⟨(Le.agd ⟨(Le.refl _), (Le.refl _), (Le.refl _), (Le.refl _), (Le.refl _), (Le.refl _), (Le.refl _), (Le.refl _), (Le.refl _), (Le.refl _), (Le.refl _), (Le.refl _), (Le.refl _), (Le.refl _), (Le.refl _), (Le.refl _), (Le.refl _), (Le.refl _), (Le.refl _), (Le.refl _), (Le.refl _), (Le.refl _), (Le.refl _), (Le.refl _), (Le.refl _), (Le.refl _), (Le.refl _), (Le.refl _), (Le.refl _), (Le.refl _), (Le.refl _), (Le.refl _), (Le.refl _), (Le.refl _), trivial⟩), (Le.refl _), trivial⟩ (Wt.none rfl) rfl rfl ?_
   refine WL.mv rfl rfl ?_
   refine WL.qn (y_extractd rfl rfl) rfl ?_
   refine WL.qn (y_extractd rfl rfl) rfl ?_
   refine WL.as rfl rfl ?_
   refine WL.as rfl rfl ?_
   refine WL.ns ?_
   refine wc_sr ?_
   refine WL.mv rfl rfl ?_
   refine WL.mv rfl rfl ?_
   apply WL.or 5 (t := 33) (d := 38)
   ·exact rfl
   ·intro hg33
    refine WL.qy (y_fieldAddr f26_2 rfl) rfl rfl rfl ?_
    refine WL.qy (y_load rfl rfl a3 rfl) rfl rfl rfl ?_
    refine WL.qy (y_move rfl) rfl rfl rfl ?_
    refine WL.qy (y_eql rfl rfl) rfl rfl rfl ?_
    refine WL.qn (y_pick_f rfl rfl) rfl ?_
    exact WL.nil ⟨rfl, [_, _, _, _, _], rfl, rfl, rfl⟩
   ·refine WL.skips 4 rfl ?_
    refine WL.qn (y_pick_t rfl rfl) rfl ?_
    exact WL.nil ⟨rfl, [_, _, _, _, _], rfl, rfl, rfl⟩
   refine WL.ns ?_
   refine wc_cond rfl (fun hc2 => ?_) (fun hc2 => ?_)
   ·replace h := condT h hc2
    refine wc_sr ?_
    refine WL.qn (y_build p26 z26 rfl rfl) rfl ?_
    refine WL.s0 (d_store rfl rfl rfl rfl rfl rfl s26 rfl rfl) (Wt.none rfl) rfl ?_
    refine WL.st (st' := [.row 26 [.d (.v (.slice none 0 0)), .d (.v (.slice none 0 0)), .d (.v (.slice none 0 0)), .d (.v (.slice none 0 0)), .d (.v (.slice none 0 0)), .d (.v (.slice none 0 0)), .d (.v (.slice none 0 0)), .d (.v (.slice none 0 0)), .d (.v (.slice none 0 0)), .d (.v (.slice none 0 0)), .d (.v (.slice none 0 0)), .d (.v (.slice none 0 0)), .d (.v (.slice none 0 0)), .d (.v (.slice none 0 0)), .d (.v (.slice none 0 0)), .d (.v (.slice none 0 0)), .d (.v (.slice none 0 0)), .d (.v (.slice none 0 0)), .d (.v (.slice none 0 0)), .d (.v (.slice none 0 0)), .d (.v (.slice none 0 0)), .d (.v (.slice none 0 0)), .d (.v (.slice none 0 0)), .d (.v (.slice none 0 0)), .d (.v (.slice none 0 0)), .d (.v (.slice none 0 0)), .d (.v (.slice none 0 0)), .d (.v (.slice none 0 0)), .d (.v (.slice none 0 0)), .d (.v (.slice none 0 0)), .d (.v (.slice none 0 0)), .d (.v (.slice none 0 0)), .d (.v (.slice none 0 0)), .d (D.i .i64 0)], .row 26 (vecA 32 (fun j => .d (.sl (List.map E3 (q0.ready j)))) ++ ([.d (.sl (List.map E62 q0.delays)), .d (D.i .i64 q0.run)] : List AV)), .row 26 [.d (.v (.slice none 0 0)), .d (.v (.slice none 0 0)), .d (.v (.slice none 0 0)), .d (.v (.slice none 0 0)), .d (.v (.slice none 0 0)), .d (.v (.slice none 0 0)), .d (.v (.slice none 0 0)), .d (.v (.slice none 0 0)), .d (.v (.slice none 0 0)), .d (.v (.slice none 0 0)), .d (.v (.slice none 0 0)), .d (.v (.slice none 0 0)), .d (.v (.slice none 0 0)), .d (.v (.slice none 0 0)), .d (.v (.slice none 0 0)), .d (.v (.slice none 0 0)), .d (.v (.slice none 0 0)), .d (.v (.slice none 0 0)), .d (.v (.slice none 0 0)), .d (.v (.slice none 0 0)), .d (.v (.slice none 0 0)), .d (.v (.slice none 0 0)), .d (.v (.slice none 0 0)), .d (.v (.slice none 0 0)), .d (.v (.slice none 0 0)), .d (.v (.slice none 0 0)), .d (.v (.slice none 0 0)), .d (.v (.slice none 0 0)), .d (.v (.slice none 0 0)), .d (.v (.slice none 0 0)), .d (.v (.slice none 0 0)), .d (.v (.slice none 0 0)), .d (.v (.slice none 0 0)), .d (D.i .i64 0)]]) rfl ?_
    refine WL.as rfl rfl ?_
    refine WL.ns ?_
    refine wc_ret ?_
    refine we_seq_ret ?_
    exact we_ret (rs2 rfl (rv_cN rfl rfl a26 s26 rfl) (rv_t rfl)) (.inl ⟨7, h, (Le.tu ⟨(Le.refl _), (Le.refl _), trivial⟩), ⟨⟨rfl, Les.refl _⟩, ⟨rfl, Les.refl _⟩, ⟨rfl, Les.refl _⟩, trivial⟩⟩)
   ·replace h := condF h hc2
    refine wc_skip ?_
    refine we_seq ?_
    refine wc_sr ?_
    refine WL.qn (y_loadN rfl rfl a26 s26 rfl) rfl ?_
    replace h := guardBS h
    obtain ⟨hgg25, h⟩ := h
    replace h := guardBS h
    obtain ⟨hgg26, h⟩ := h
    refine Gh.wl (gh_push_os 3 1) ?_
    refine WL.wina [3] rfl rfl rfl rfl (O.f32g_c q0 (Int.toNat prio1) (vecOk_spec hgg25).2 hgg26) ⟨(Le.agd ⟨(Le.refl _), (Le.refl _), (Le.refl _), (Le.refl _), (Le.refl _), (Le.refl _), (Le.refl _), (Le.refl _), (Le.refl _), (Le.refl _), (Le.refl _), (Le.refl _), (Le.refl _), (Le.refl _), (Le.refl _), (Le.refl _), (Le.refl _), (Le.refl _), (Le.refl _), (Le.refl _), (Le.refl _), (Le.refl _), (Le.refl _), (Le.refl _), (Le.refl _), (Le.refl _), (Le.refl _), (Le.refl _), (Le.refl _), (Le.refl _), (Le.refl _), (Le.refl _), (Le.refl _), (Le.refl _), trivial⟩), trivial⟩ rfl (by decide) rfl ⟨rfl, trivial⟩ rfl rfl (fun _ => (stLt_cons (lt_os _ _ _ _ _ _) rfl)) (fun _ => (cons_eq (ren_os _ _ _ _ _ _) rfl)) (fun _ => O.gRow_lt _ _ _ _ rfl) (fun _ => O.gRow_ren _ _ _ _) (Wt.none rfl) rfl rfl (fun ver27 => ?_)
    refine WL.s0 (d_storeS (rs := vecA 32 (O.gRow q0 (Int.toNat prio1) 3 ver27) ++ O.tl q0) rfl rfl rfl rfl rfl (O.gRow_all q0 (Int.toNat prio1) 3 ver27 (O.os_ok1S rfl)) s26 rfl rfl) (Wt.none rfl) rfl ?_
    refine WL.st (st' := [.row 26 [.d (.v (.slice none 0 0)), .d (.v (.slice none 0 0)), .d (.v (.slice none 0 0)), .d (.v (.slice none 0 0)), .d (.v (.slice none 0 0)), .d (.v (.slice none 0 0)), .d (.v (.slice none 0 0)), .d (.v (.slice none 0 0)), .d (.v (.slice none 0 0)), .d (.v (.slice none 0 0)), .d (.v (.slice none 0 0)), .d (.v (.slice none 0 0)), .d (.v (.slice none 0 0)), .d (.v (.slice none 0 0)), .d (.v (.slice none 0 0)), .d (.v (.slice none 0 0)), .d (.v (.slice none 0 0)), .d (.v (.slice none 0 0)), .d (.v (.slice none 0 0)), .d (.v (.slice none 0 0)), .d (.v (.slice none 0 0)), .d (.v (.slice none 0 0)), .d (.v (.slice none 0 0)), .d (.v (.slice none 0 0)), .d (.v (.slice none 0 0)), .d (.v (.slice none 0 0)), .d (.v (.slice none 0 0)), .d (.v (.slice none 0 0)), .d (.v (.slice none 0 0)), .d (.v (.slice none 0 0)), .d (.v (.slice none 0 0)), .d (.v (.slice none 0 0)), .d (.v (.slice none 0 0)), .d (D.i .i64 0)], .row 26 (vecA 32 (O.gRow q0 (Int.toNat prio1) 3 ver27) ++ ([.d (.sl (List.map E62 q0.delays)), .d (D.i .i64 q0.run)] : List AV)), .row 26 [.d (.v (.slice none 0 0)), .d (.v (.slice none 0 0)), .d (.v (.slice none 0 0)), .d (.v (.slice none 0 0)), .d (.v (.slice none 0 0)), .d (.v (.slice none 0 0)), .d (.v (.slice none 0 0)), .d (.v (.slice none 0 0)), .d (.v (.slice none 0 0)), .d (.v (.slice none 0 0)), .d (.v (.slice none 0 0)), .d (.v (.slice none 0 0)), .d (.v (.slice none 0 0)), .d (.v (.slice none 0 0)), .d (.v (.slice none 0 0)), .d (.v (.slice none 0 0)), .d (.v (.slice none 0 0)), .d (.v (.slice none 0 0)), .d (.v (.slice none 0 0)), .d (.v (.slice none 0 0)), .d (.v (.slice none 0 0)), .d (.v (.slice none 0 0)), .d (.v (.slice none 0 0)), .d (.v (.slice none 0 0)), .d (.v (.slice none 0 0)), .d (.v (.slice none 0 0)), .d (.v (.slice none 0 0)), .d (.v (.slice none 0 0)), .d (.v (.slice none 0 0)), .d (.v (.slice none 0 0)), .d (.v (.slice none 0 0)), .d (.v (.slice none 0 0)), .d (.v (.slice none 0 0)), .d (D.i .i64 0)], .os 3 1 ver27 (List.map (encA E3) (q0.ready (Int.toNat prio1)))]) rfl ?_
    refine WL.st (st' := [.row 26 [.d (.v (.slice none 0 0)), .d (.v (.slice none 0 0)), .d (.v (.slice none 0 0)), .d (.v (.slice none 0 0)), .d (.v (.slice none 0 0)), .d (.v (.slice none 0 0)), .d (.v (.slice none 0 0)), .d (.v (.slice none 0 0)), .d (.v (.slice none 0 0)), .d (.v (.slice none 0 0)), .d (.v (.slice none 0 0)), .d (.v (.slice none 0 0)), .d (.v (.slice none 0 0)), .d (.v (.slice none 0 0)), .d (.v (.slice none 0 0)), .d (.v (.slice none 0 0)), .d (.v (.slice none 0 0)), .d (.v (.slice none 0 0)), .d (.v (.slice none 0 0)), .d (.v (.slice none 0 0)), .d (.v (.slice none 0 0)), .d (.v (.slice none 0 0)), .d (.v (.slice none 0 0)), .d (.v (.slice none 0 0)), .d (.v (.slice none 0 0)), .d (.v (.slice none 0 0)), .d (.v (.slice none 0 0)), .d (.v (.slice none 0 0)), .d (.v (.slice none 0 0)), .d (.v (.slice none 0 0)), .d (.v (.slice none 0 0)), .d (.v (.slice none 0 0)), .d (.v (.slice none 0 0)), .d (D.i .i64 0)], .row 26 (vecA 32 (O.gRow q0 (Int.toNat prio1) 3 ver27) ++ ([.d (.sl (List.map E62 q0.delays)), .d (D.i .i64 q0.run)] : List AV)), .row 26 [.d (.v (.slice none 0 0)), .d (.v (.slice none 0 0)), .d (.v (.slice none 0 0)), .d (.v (.slice none 0 0)), .d (.v (.slice none 0 0)), .d (.v (.slice none 0 0)), .d (.v (.slice none 0 0)), .d (.v (.slice none 0 0)), .d (.v (.slice none 0 0)), .d (.v (.slice none 0 0)), .d (.v (.slice none 0 0)), .d (.v (.slice none 0 0)), .d (.v (.slice none 0 0)), .d (.v (.slice none 0 0)), .d (.v (.slice none 0 0)), .d (.v (.slice none 0 0)), .d (.v (.slice none 0 0)), .d (.v (.slice none 0 0)), .d (.v (.slice none 0 0)), .d (.v (.slice none 0 0)), .d (.v (.slice none 0 0)), .d (.v (.slice none 0 0)), .d (.v (.slice none 0 0)), .d (.v (.slice none 0 0)), .d (.v (.slice none 0 0)), .d (.v (.slice none 0 0)), .d (.v (.slice none 0 0)), .d (.v (.slice none 0 0)), .d (.v (.slice none 0 0)), .d (.v (.slice none 0 0)), .d (.v (.slice none 0 0)), .d (.v (.slice none 0 0)), .d (.v (.slice none 0 0)), .d (D.i .i64 0)], .os 3 1 ver27 (List.map (encA E3) (q0.ready (Int.toNat prio1)))]) rfl ?_
    refine WL.ns ?_
    refine wc_sr ?_
    refine WL.mv rfl rfl ?_
    refine WL.mv rfl rfl ?_
    refine WL.mv rfl rfl ?_
    refine WL.qn (y_fieldAddr f26_0 rfl) rfl ?_
    replace h := guardBS h
    obtain ⟨hgg28, h⟩ := h
    refine WL.qn (y_indexAddra ar23 rfl rfl (vecOk_0 hgg28) (vecOk_1 hgg28)) rfl ?_
    refine WL.qn ((O.gRow_self q0 (Int.toNat prio1) 3 ver27) ▸ (y_loadV (i := prio1) (n := 32) (off := 0) (O.gRow q0 (Int.toNat prio1) 3 ver27) rfl rfl a22 rfl hgg28)) rfl ?_
    obtain ⟨k30, hk30, h⟩ := letkS h
    refine WL.inl (us := [.os 3 ver27, .d (.pc (E3 task2))]) (fun rv st' => (k30 () = some r ∧ Le rv (.d (.sl (List.map E3 ((q0.ready (Int.toNat prio1)) ++ [task2])))) ∧ SLe st' [.row 26 [.d (.v (.slice none 0 0)), .d (.v (.slice none 0 0)), .d (.v (.slice none 0 0)), .d (.v (.slice none 0 0)), .d (.v (.slice none 0 0)), .d (.v (.slice none 0 0)), .d (.v (.slice none 0 0)), .d (.v (.slice none 0 0)), .d (.v (.slice none 0 0)), .d (.v (.slice none 0 0)), .d (.v (.slice none 0 0)), .d (.v (.slice none 0 0)), .d (.v (.slice none 0 0)), .d (.v (.slice none 0 0)), .d (.v (.slice none 0 0)), .d (.v (.slice none 0 0)), .d (.v (.slice none 0 0)), .d (.v (.slice none 0 0)), .d (.v (.slice none 0 0)), .d (.v (.slice none 0 0)), .d (.v (.slice none 0 0)), .d (.v (.slice none 0 0)), .d (.v (.slice none 0 0)), .d (.v (.slice none 0 0)), .d (.v (.slice none 0 0)), .d (.v (.slice none 0 0)), .d (.v (.slice none 0 0)), .d (.v (.slice none 0 0)), .d (.v (.slice none 0 0)), .d (.v (.slice none 0 0)), .d (.v (.slice none 0 0)), .d (.v (.slice none 0 0)), .d (.v (.slice none 0 0)), .d (D.i .i64 0)], .row 26 (vecA 32 (O.gRow q0 (Int.toNat prio1) 3 ver27) ++ ([.d (.sl (List.map E62 q0.delays)), .d (D.i .i64 q0.run)] : List AV)), .row 26 [.d (.v (.slice none 0 0)), .d (.v (.slice none 0 0)), .d (.v (.slice none 0 0)), .d (.v (.slice none 0 0)), .d (.v (.slice none 0 0)), .d (.v (.slice none 0 0)), .d (.v (.slice none 0 0)), .d (.v (.slice none 0 0)), .d (.v (.slice none 0 0)), .d (.v (.slice none 0 0)), .d (.v (.slice none 0 0)), .d (.v (.slice none 0 0)), .d (.v (.slice none 0 0)), .d (.v (.slice none 0 0)), .d (.v (.slice none 0 0)), .d (.v (.slice none 0 0)), .d (.v (.slice none 0 0)), .d (.v (.slice none 0 0)), .d (.v (.slice none 0 0)), .d (.v (.slice none 0 0)), .d (.v (.slice none 0 0)), .d (.v (.slice none 0 0)), .d (.v (.slice none 0 0)), .d (.v (.slice none 0 0)), .d (.v (.slice none 0 0)), .d (.v (.slice none 0 0)), .d (.v (.slice none 0 0)), .d (.v (.slice none 0 0)), .d (.v (.slice none 0 0)), .d (.v (.slice none 0 0)), .d (.v (.slice none 0 0)), .d (.v (.slice none 0 0)), .d (.v (.slice none 0 0)), .d (D.i .i64 0)], .dead, .os 3 1 0 (List.map (encA E3) [task2])])) rfl rfl rfl rfl rfl ?_ (Wt.none rfl) rfl rfl ?_
    ·refine ctr_intro Try.func42 (by kernel_rfl) rfl rfl rfl (fun mm φφ ww hm29 => ?_)
     refine wc_sr ?_
     refine WL.as rfl rfl ?_
     refine WL.ns ?_
     refine wc_sr ?_
     refine WL.mv rfl rfl ?_
     refine WL.qn (y_loadc rfl a3 rfl) rfl ?_
     refine WL.s ((NewOs.b (n_buildSlice l22 z3 rfl (by decide) (by decide) rfl rfl rfl (by decide))).does) (Wt.none rfl) rfl rfl ?_
     replace h := guardBS h
     obtain ⟨hgg31, h⟩ := h
     refine WL.s (d_appendL E3 (q0.ready (Int.toNat prio1)) [task2] l22 z3 rfl (by decide) rfl rfl rfl rfl (Src.own rfl) (fun _ => rfl) (fun _ => rfl) hgg31) (Wt.none rfl) rfl rfl ?_
     refine WL.freezeX [7] [] 3 (List.map E3 ((q0.ready (Int.toNat prio1)) ++ [task2])) rfl (encA_map E3_eq ((q0.ready (Int.toNat prio1)) ++ [task2])) ⟨rfl, trivial⟩ trivial ?_
     refine WL.as rfl rfl ?_
     refine WL.ns ?_
     refine wc_ret ?_
     exact we_ret (rs1 rfl (rv_t rfl)) ⟨h, (Le.refl _), ⟨⟨rfl, Les.refl _⟩, ⟨rfl, Les.refl _⟩, ⟨rfl, Les.refl _⟩, trivial, ⟨rfl, rfl, rfl, rfl⟩, trivial⟩⟩
    ·rintro rv st1 ⟨h, hr, hst⟩
     subst hk30
     dsimp only at h
     refine WL.cast 48 rfl hr ?_
     refine WL.weak hst ?_
     refine WL.qn (y_fieldAddr f26_0 rfl) rfl ?_
     replace h := guardBS h
     obtain ⟨hgg32, h⟩ := h
     refine WL.qn (y_indexAddra ar23 rfl rfl (vecOk_0 hgg32) (vecOk_1 hgg32)) rfl ?_
     refine WL.s0 (d_storeV (i := prio1) (off := 0) (n := 32) (cs' := (vecA 32 (vset (O.gRow q0 (Int.toNat prio1) 3 ver27) (Int.toNat prio1) (.d (.sl (List.map E3 ((q0.ready (Int.toNat prio1)) ++ [task2]))))) ++ ([.d (.sl (List.map E62 q0.delays)), .d (D.i .i64 q0.run)] : List AV))) (fun x : AV => x) (O.gRow q0 (Int.toNat prio1) 3 ver27) (.d (.sl (List.map E3 ((q0.ready (Int.toNat prio1)) ++ [task2])))) rfl rfl rfl (one_ok rfl) s22 rfl rfl hgg32 rfl) (Wt.none rfl) rfl ?_
     rw [O.gRow_put]
     refine WL.st (st' := [.row 26 [.d (.v (.slice none 0 0)), .d (.v (.slice none 0 0)), .d (.v (.slice none 0 0)), .d (.v (.slice none 0 0)), .d (.v (.slice none 0 0)), .d (.v (.slice none 0 0)), .d (.v (.slice none 0 0)), .d (.v (.slice none 0 0)), .d (.v (.slice none 0 0)), .d (.v (.slice none 0 0)), .d (.v (.slice none 0 0)), .d (.v (.slice none 0 0)), .d (.v (.slice none 0 0)), .d (.v (.slice none 0 0)), .d (.v (.slice none 0 0)), .d (.v (.slice none 0 0)), .d (.v (.slice none 0 0)), .d (.v (.slice none 0 0)), .d (.v (.slice none 0 0)), .d (.v (.slice none 0 0)), .d (.v (.slice none 0 0)), .d (.v (.slice none 0 0)), .d (.v (.slice none 0 0)), .d (.v (.slice none 0 0)), .d (.v (.slice none 0 0)), .d (.v (.slice none 0 0)), .d (.v (.slice none 0 0)), .d (.v (.slice none 0 0)), .d (.v (.slice none 0 0)), .d (.v (.slice none 0 0)), .d (.v (.slice none 0 0)), .d (.v (.slice none 0 0)), .d (.v (.slice none 0 0)), .d (D.i .i64 0)], .row 26 (vecA 32 (fun j => .d (.sl (List.map E3 ((vset q0.ready (Int.toNat prio1) ((q0.ready (Int.toNat prio1)) ++ [task2])) j)))) ++ ([.d (.sl (List.map E62 q0.delays)), .d (D.i .i64 q0.run)] : List AV)), .row 26 [.d (.v (.slice none 0 0)), .d (.v (.slice none 0 0)), .d (.v (.slice none 0 0)), .d (.v (.slice none 0 0)), .d (.v (.slice none 0 0)), .d (.v (.slice none 0 0)), .d (.v (.slice none 0 0)), .d (.v (.slice none 0 0)), .d (.v (.slice none 0 0)), .d (.v (.slice none 0 0)), .d (.v (.slice none 0 0)), .d (.v (.slice none 0 0)), .d (.v (.slice none 0 0)), .d (.v (.slice none 0 0)), .d (.v (.slice none 0 0)), .d (.v (.slice none 0 0)), .d (.v (.slice none 0 0)), .d (.v (.slice none 0 0)), .d (.v (.slice none 0 0)), .d (.v (.slice none 0 0)), .d (.v (.slice none 0 0)), .d (.v (.slice none 0 0)), .d (.v (.slice none 0 0)), .d (.v (.slice none 0 0)), .d (.v (.slice none 0 0)), .d (.v (.slice none 0 0)), .d (.v (.slice none 0 0)), .d (.v (.slice none 0 0)), .d (.v (.slice none 0 0)), .d (.v (.slice none 0 0)), .d (.v (.slice none 0 0)), .d (.v (.slice none 0 0)), .d (.v (.slice none 0 0)), .d (D.i .i64 0)], .dead, .os 3 1 0 (List.map (encA E3) [task2])]) rfl ?_
     refine WL.st (st' := [.row 26 [.d (.v (.slice none 0 0)), .d (.v (.slice none 0 0)), .d (.v (.slice none 0 0)), .d (.v (.slice none 0 0)), .d (.v (.slice none 0 0)), .d (.v (.slice none 0 0)), .d (.v (.slice none 0 0)), .d (.v (.slice none 0 0)), .d (.v (.slice none 0 0)), .d (.v (.slice none 0 0)), .d (.v (.slice none 0 0)), .d (.v (.slice none 0 0)), .d (.v (.slice none 0 0)), .d (.v (.slice none 0 0)), .d (.v (.slice none 0 0)), .d (.v (.slice none 0 0)), .d (.v (.slice none 0 0)), .d (.v (.slice none 0 0)), .d (.v (.slice none 0 0)), .d (.v (.slice none 0 0)), .d (.v (.slice none 0 0)), .d (.v (.slice none 0 0)), .d (.v (.slice none 0 0)), .d (.v (.slice none 0 0)), .d (.v (.slice none 0 0)), .d (.v (.slice none 0 0)), .d (.v (.slice none 0 0)), .d (.v (.slice none 0 0)), .d (.v (.slice none 0 0)), .d (.v (.slice none 0 0)), .d (.v (.slice none 0 0)), .d (.v (.slice none 0 0)), .d (.v (.slice none 0 0)), .d (D.i .i64 0)], .row 26 (vecA 32 (fun j => .d (.sl (List.map E3 ((vset q0.ready (Int.toNat prio1) ((q0.ready (Int.toNat prio1)) ++ [task2])) j)))) ++ ([.d (.sl (List.map E62 q0.delays)), .d (D.i .i64 q0.run)] : List AV)), .row 26 [.d (.v (.slice none 0 0)), .d (.v (.slice none 0 0)), .d (.v (.slice none 0 0)), .d (.v (.slice none 0 0)), .d (.v (.slice none 0 0)), .d (.v (.slice none 0 0)), .d (.v (.slice none 0 0)), .d (.v (.slice none 0 0)), .d (.v (.slice none 0 0)), .d (.v (.slice none 0 0)), .d (.v (.slice none 0 0)), .d (.v (.slice none 0 0)), .d (.v (.slice none 0 0)), .d (.v (.slice none 0 0)), .d (.v (.slice none 0 0)), .d (.v (.slice none 0 0)), .d (.v (.slice none 0 0)), .d (.v (.slice none 0 0)), .d (.v (.slice none 0 0)), .d (.v (.slice none 0 0)), .d (.v (.slice none 0 0)), .d (.v (.slice none 0 0)), .d (.v (.slice none 0 0)), .d (.v (.slice none 0 0)), .d (.v (.slice none 0 0)), .d (.v (.slice none 0 0)), .d (.v (.slice none 0 0)), .d (.v (.slice none 0 0)), .d (.v (.slice none 0 0)), .d (.v (.slice none 0 0)), .d (.v (.slice none 0 0)), .d (.v (.slice none 0 0)), .d (.v (.slice none 0 0)), .d (D.i .i64 0)], .dead, .os 3 1 0 (List.map (encA E3) [task2])]) rfl ?_
     refine WL.ns ?_
     refine wc_sr ?_
     refine WL.qn (y_loadN rfl rfl a26 s26 rfl) rfl ?_
     refine WL.s0 (d_store rfl rfl rfl rfl rfl rfl s26 rfl rfl) (Wt.none rfl) rfl ?_
     refine WL.st (st' := [.row 26 [.d (.v (.slice none 0 0)), .d (.v (.slice none 0 0)), .d (.v (.slice none 0 0)), .d (.v (.slice none 0 0)), .d (.v (.slice none 0 0)), .d (.v (.slice none 0 0)), .d (.v (.slice none 0 0)), .d (.v (.slice none 0 0)), .d (.v (.slice none 0 0)), .d (.v (.slice none 0 0)), .d (.v (.slice none 0 0)), .d (.v (.slice none 0 0)), .d (.v (.slice none 0 0)), .d (.v (.slice none 0 0)), .d (.v (.slice none 0 0)), .d (.v (.slice none 0 0)), .d (.v (.slice none 0 0)), .d (.v (.slice none 0 0)), .d (.v (.slice none 0 0)), .d (.v (.slice none 0 0)), .d (.v (.slice none 0 0)), .d (.v (.slice none 0 0)), .d (.v (.slice none 0 0)), .d (.v (.slice none 0 0)), .d (.v (.slice none 0 0)), .d (.v (.slice none 0 0)), .d (.v (.slice none 0 0)), .d (.v (.slice none 0 0)), .d (.v (.slice none 0 0)), .d (.v (.slice none 0 0)), .d (.v (.slice none 0 0)), .d (.v (.slice none 0 0)), .d (.v (.slice none 0 0)), .d (D.i .i64 0)], .row 26 (vecA 32 (fun j => .d (.sl (List.map E3 ((vset q0.ready (Int.toNat prio1) ((q0.ready (Int.toNat prio1)) ++ [task2])) j)))) ++ ([.d (.sl (List.map E62 q0.delays)), .d (D.i .i64 q0.run)] : List AV)), .row 26 (vecA 32 (fun j => .d (.sl (List.map E3 ((vset q0.ready (Int.toNat prio1) ((q0.ready (Int.toNat prio1)) ++ [task2])) j)))) ++ ([.d (.sl (List.map E62 q0.delays)), .d (D.i .i64 q0.run)] : List AV)), .dead, .os 3 1 0 (List.map (encA E3) [task2])]) rfl ?_
     refine WL.as rfl rfl ?_
     refine WL.ns ?_
     refine wc_ret ?_
     exact we_ret (rs2 rfl (rv_cN rfl rfl a26 s26 rfl) (rv_t rfl)) (.inr (⟨h, (Le.tu ⟨(Le.refl _), (Le.refl _), trivial⟩), ⟨⟨rfl, Les.refl _⟩, ⟨rfl, Les.refl _⟩, ⟨rfl, Les.refl _⟩, trivial, ⟨rfl, rfl, rfl, rfl⟩, trivial⟩⟩))
 ·rintro rv st1 (⟨t20, h, hr, hst⟩ | ⟨h, hr, hst⟩)
  ·subst hk21
   dsimp only at h
   refine WL.cast 12 rfl hr ?_
   refine WL.weak hst ?_
   refine WL.qn (y_extract rfl rfl) rfl ?_
   refine WL.qn (y_extract rfl rfl) rfl ?_
   refine WL.s0 (d_store rfl rfl rfl rfl rfl rfl s26 rfl rfl) (Wt.none rfl) rfl ?_
   refine WL.st (st' := [.row 26 [.d (.v (.slice none 0 0)), .d (.v (.slice none 0 0)), .d (.v (.slice none 0 0)), .d (.v (.slice none 0 0)), .d (.v (.slice none 0 0)), .d (.v (.slice none 0 0)), .d (.v (.slice none 0 0)), .d (.v (.slice none 0 0)), .d (.v (.slice none 0 0)), .d (.v (.slice none 0 0)), .d (.v (.slice none 0 0)), .d (.v (.slice none 0 0)), .d (.v (.slice none 0 0)), .d (.v (.slice none 0 0)), .d (.v (.slice none 0 0)), .d (.v (.slice none 0 0)), .d (.v (.slice none 0 0)), .d (.v (.slice none 0 0)), .d (.v (.slice none 0 0)), .d (.v (.slice none 0 0)), .d (.v (.slice none 0 0)), .d (.v (.slice none 0 0)), .d (.v (.slice none 0 0)), .d (.v (.slice none 0 0)), .d (.v (.slice none 0 0)), .d (.v (.slice none 0 0)), .d (.v (.slice none 0 0)), .d (.v (.slice none 0 0)), .d (.v (.slice none 0 0)), .d (.v (.slice none 0 0)), .d (.v (.slice none 0 0)), .d (.v (.slice none 0 0)), .d (.v (.slice none 0 0)), .d (D.i .i64 0)], .row 26 (vecA 32 (fun j => .d (.sl (List.map E3 (q0.ready j)))) ++ ([.d (.sl (List.map E62 q0.delays)), .d (D.i .i64 q0.run)] : List AV)), .row 26 [.d (.v (.slice none 0 0)), .d (.v (.slice none 0 0)), .d (.v (.slice none 0 0)), .d (.v (.slice none 0 0)), .d (.v (.slice none 0 0)), .d (.v (.slice none 0 0)), .d (.v (.slice none 0 0)), .d (.v (.slice none 0 0)), .d (.v (.slice none 0 0)), .d (.v (.slice none 0 0)), .d (.v (.slice none 0 0)), .d (.v (.slice none 0 0)), .d (.v (.slice none 0 0)), .d (.v (.slice none 0 0)), .d (.v (.slice none 0 0)), .d (.v (.slice none 0 0)), .d (.v (.slice none 0 0)), .d (.v (.slice none 0 0)), .d (.v (.slice none 0 0)), .d (.v (.slice none 0 0)), .d (.v (.slice none 0 0)), .d (.v (.slice none 0 0)), .d (.v (.slice none 0 0)), .d (.v (.slice none 0 0)), .d (.v (.slice none 0 0)), .d (.v (.slice none 0 0)), .d (.v (.slice none 0 0)), .d (.v (.slice none 0 0)), .d (.v (.slice none 0 0)), .d (.v (.slice none 0 0)), .d (.v (.slice none 0 0)), .d (.v (.slice none 0 0)), .d (.v (.slice none 0 0)), .d (D.i .i64 0)]]) rfl ?_
   refine WL.as rfl rfl ?_
   refine WL.ns ?_
   refine wc_ret ?_
   obtain rfl := Option.some.inj h
   exact we_ret_fn (rs2 rfl (rv_cN rfl rfl a26 s26 rfl) (rv_t rfl)) (Le.tud ⟨(Le.agd ⟨Le.nil, Le.nil, Le.nil, Le.nil, Le.nil, Le.nil, Le.nil, Le.nil, Le.nil, Le.nil, Le.nil, Le.nil, Le.nil, Le.nil, Le.nil, Le.nil, Le.nil, Le.nil, Le.nil, Le.nil, Le.nil, Le.nil, Le.nil, Le.nil, Le.nil, Le.nil, Le.nil, Le.nil, Le.nil, Le.nil, Le.nil, Le.nil, Le.nil, (Le.refl _), trivial⟩), (Le.refl _), trivial⟩)
  ·subst hk22
   dsimp only at h
   refine WL.cast 12 rfl hr ?_
   refine WL.weak hst ?_
   refine WL.qn (y_extract rfl rfl) rfl ?_
   refine WL.qn (y_extract rfl rfl) rfl ?_
   refine WL.s0 (d_store rfl rfl rfl rfl rfl rfl s26 rfl rfl) (Wt.none rfl) rfl ?_
   refine WL.st (st' := [.row 26 (vecA 32 (fun j => .d (.sl (List.map E3 ((vset q0.ready (Int.toNat prio1) ((q0.ready (Int.toNat prio1)) ++ [task2])) j)))) ++ ([.d (.sl (List.map E62 q0.delays)), .d (D.i .i64 q0.run)] : List AV)), .row 26 (vecA 32 (fun j => .d (.sl (List.map E3 ((vset q0.ready (Int.toNat prio1) ((q0.ready (Int.toNat prio1)) ++ [task2])) j)))) ++ ([.d (.sl (List.map E62 q0.delays)), .d (D.i .i64 q0.run)] : List AV)), .row 26 (vecA 32 (fun j => .d (.sl (List.map E3 ((vset q0.ready (Int.toNat prio1) ((q0.ready (Int.toNat prio1)) ++ [task2])) j)))) ++ ([.d (.sl (List.map E62 q0.delays)), .d (D.i .i64 q0.run)] : List AV)), .dead, .os 3 1 0 (List.map (encA E3) [task2])]) rfl ?_
   refine WL.as rfl rfl ?_
   refine WL.ns ?_
   refine wc_ret ?_
   obtain rfl := Option.some.inj h
   exact we_ret_fn (rs2 rfl (rv_cN rfl rfl a26 s26 rfl) (rv_t rfl)) (Le.tud ⟨(Le.agd ⟨(Le.refl _), (Le.refl _), (Le.refl _), (Le.refl _), (Le.refl _), (Le.refl _), (Le.refl _), (Le.refl _), (Le.refl _), (Le.refl _), (Le.refl _), (Le.refl _), (Le.refl _), (Le.refl _), (Le.refl _), (Le.refl _), (Le.refl _), (Le.refl _), (Le.refl _), (Le.refl _), (Le.refl _), (Le.refl _), (Le.refl _), (Le.refl _), (Le.refl _), (Le.refl _), (Le.refl _), (Le.refl _), (Le.refl _), (Le.refl _), (Le.refl _), (Le.refl _), (Le.refl _), (Le.refl _), trivial⟩), (Le.refl _), trivial⟩)

theorem f28_c (q0 : Queues) (prio1 : Int) (task2 : Int) {r : Queues × Int} (h : f28 q0 prio1 task2 = some r) : Pu Try.prog 28 [.ag (R26 q0), .i .i64 prio1, .i .i64 task2] (.tu [.ag (R26 r.1), .i .i64 r.2]) := by
 unfold f28 at h
 refine fn_intro Try.func28 (by kernel_rfl) rfl rfl rfl (fun φφ ww => ?_)
 refine wc_sr ?_
 refine WL.s ((b_boxd rfl rfl (Les.refl _)).does) (Wt.none rfl) rfl rfl ?_
 refine WL.s ((b_boxd rfl rfl (by exact (show Les [.d (D.i .i64 task2)] (List.map AV.d [.i .i64 task2]) from ⟨(Le.refl _), trivial⟩))).does) (Wt.none rfl) rfl rfl ?_
 refine WL.s ((b_alloc z26).does) (Wt.none rfl) rfl rfl ?_
 refine WL.as rfl rfl ?_
 refine WL.ns ?_
 refine wc_sr ?_
 refine WL.qn (y_loadcN rfl a26 s26 rfl) rfl ?_
 refine WL.mv rfl rfl ?_
 refine WL.qn (y_loadc rfl a3 rfl) rfl ?_
 refine WL.qn (y_makeFunc rfl rfl) rfl ?_
 obtain ⟨k21, hk21, h⟩ := letkS h
 obtain ⟨k22, hk22, h⟩ := letkS h
 refine WL.inl (us := [.d (.ag (R26 q0)), .d (D.i .i64 prio1), .d (D.i .i64 task2), .fn (.func 59) [] [.d (.pc (E3 task2))]]) (fun rv st' => (∃ (t20 : Int), k21 t20 = some r ∧ Le rv (.tu [.ag [.d (.v (.slice none 0 0)), .d (.v (.slice none 0 0)), .d (.v (.slice none 0 0)), .d (.v (.slice none 0 0)), .d (.v (.slice none 0 0)), .d (.v (.slice none 0 0)), .d (.v (.slice none 0 0)), .d (.v (.slice none 0 0)), .d (.v (.slice none 0 0)), .d (.v (.slice none 0 0)), .d (.v (.slice none 0 0)), .d (.v (.slice none 0 0)), .d (.v (.slice none 0 0)), .d (.v (.slice none 0 0)), .d (.v (.slice none 0 0)), .d (.v (.slice none 0 0)), .d (.v (.slice none 0 0)), .d (.v (.slice none 0 0)), .d (.v (.slice none 0 0)), .d (.v (.slice none 0 0)), .d (.v (.slice none 0 0)), .d (.v (.slice none 0 0)), .d (.v (.slice none 0 0)), .d (.v (.slice none 0 0)), .d (.v (.slice none 0 0)), .d (.v (.slice none 0 0)), .d (.v (.slice none 0 0)), .d (.v (.slice none 0 0)), .d (.v (.slice none 0 0)), .d (.v (.slice none 0 0)), .d (.v (.slice none 0 0)), .d (.v (.slice none 0 0)), .d (.v (.slice none 0 0)), .d (D.i .i64 0)], .d (D.i .i64 t20)]) ∧ SLe st' [.row 26 [.d (.v (.slice none 0 0)), .d (.v (.slice none 0 0)), .d (.v (.slice none 0 0)), .d (.v (.slice none 0 0)), .d (.v (.slice none 0 0)), .d (.v (.slice none 0 0)), .d (.v (.slice none 0 0)), .d (.v (.slice none 0 0)), .d (.v (.slice none 0 0)), .d (.v (.slice none 0 0)), .d (.v (.slice none 0 0)), .d (.v (.slice none 0 0)), .d (.v (.slice none 0 0)), .d (.v (.slice none 0 0)), .d (.v (.slice none 0 0)), .d (.v (.slice none 0 0)), .d (.v (.slice none 0 0)), .d (.v (.slice none 0 0)), .d (.v (.slice none 0 0)), .d (.v (.slice none 0 0)), .d (.v (.slice none 0 0)), .d (.v (.slice none 0 0)), .d (.v (.slice none 0 0)), .d (.v (.slice none 0 0)), .d (.v (.slice none 0 0)), .d (.v (.slice none 0 0)), .d (.v (.slice none 0 0)), .d (.v (.slice none 0 0)), .d (.v (.slice none 0 0)), .d (.v (.slice none 0 0)), .d (.v (.slice none 0 0)), .d (.v (.slice none 0 0)), .d (.v (.slice none 0 0)), .d (D.i .i64 0)], .row 26 (vecA 32 (fun j => .d (.sl (List.map E3 (q0.ready j)))) ++ ([.d (.sl (List.map E62 q0.delays)), .d (D.i .i64 q0.run)] : List AV)), .row 26 [.d (.v (.slice none 0 0)), .d (.v (.slice none 0 0)), .d (.v (.slice none 0 0)), .d (.v (.slice none 0 0)), .d (.v (.slice none 0 0)), .d (.v (.slice none 0 0)), .d (.v (.slice none 0 0)), .d (.v (.slice none 0 0)), .d (.v (.slice none 0 0)), .d (.v (.slice none 0 0)), .d (.v (.slice none 0 0)), .d (.v (.slice none 0 0)), .d (.v (.slice none 0 0)), .d (.v (.slice none 0 0)), .d (.v (.slice none 0 0)), .d (.v (.slice none 0 0)), .d (.v (.slice none 0 0)), .d (.v (.slice none 0 0)), .d (.v (.slice none 0 0)), .d (.v (.slice none 0 0)), .d (.v (.slice none 0 0)), .d (.v (.slice none 0 0)), .d (.v (.slice none 0 0)), .d (.v (.slice none 0 0)), .d (.v (.slice none 0 0)), .d (.v (.slice none 0 0)), .d (.v (.slice none 0 0)), .d (.v (.slice none 0 0)), .d (.v (.slice none 0 0)), .d (.v (.slice none 0 0)), .d (.v (.slice none 0 0)), .d (.v (.slice none 0 0)), .d (.v (.slice none 0 0)), .d (D.i .i64 0)]]) ∨ (k22 () = some r ∧ Le rv (.tu [.ag (vecA 32 (fun j => .d (.sl (List.map E3 ((vset q0.ready (Int.toNat prio1) (task2 :: (q0.ready (Int.toNat prio1)))) j)))) ++ ([.d (.sl (List.map E62 q0.delays)), .d (D.i .i64 q0.run)] : List AV)), .d (D.i .i64 0)]) ∧ SLe st' [.row 26 [.d (.v (.slice none 0 0)), .d (.v (.slice none 0 0)), .d (.v (.slice none 0 0)), .d (.v (.slice none 0 0)), .d (.v (.slice none 0 0)), .d (.v (.slice none 0 0)), .d (.v (.slice none 0 0)), .d (.v (.slice none 0 0)), .d (.v (.slice none 0 0)), .d (.v (.slice none 0 0)), .d (.v (.slice none 0 0)), .d (.v (.slice none 0 0)), .d (.v (.slice none 0 0)), .d (.v (.slice none 0 0)), .d (.v (.slice none 0 0)), .d (.v (.slice none 0 0)), .d (.v (.slice none 0 0)), .d (.v (.slice none 0 0)), .d (.v (.slice none 0 0)), .d (.v (.slice none 0 0)), .d (.v (.slice none 0 0)), .d (.v (.slice none 0 0)), .d (.v (.slice none 0 0)), .d (.v (.slice none 0 0)), .d (.v (.slice none 0 0)), .d (.v (.slice none 0 0)), .d (.v (.slice none 0 0)), .d (.v (.slice none 0 0)), .d (.v (.slice none 0 0)), .d (.v (.slice none 0 0)), .d (.v (.slice none 0 0)), .d (.v (.slice none 0 0)), .d (.v (.slice none 0 0)), .d (D.i .i64 0)], .row 26 (vecA 32 (fun j => .d (.sl (List.map E3 ((vset q0.ready (Int.toNat prio1) (task2 :: (q0.ready (Int.toNat prio1)))) j)))) ++ ([.d (.sl (List.map E62 q0.delays)), .d (D.i .i64 q0.run)] : List AV)), .row 26 (vecA 32 (fun j => .d (.sl (List.map E3 ((vset q0.ready (Int.toNat prio1) (task2 :: (q0.ready (Int.toNat prio1)))) j)))) ++ ([.d (.sl (List.map E62 q0.delays)), .d (D.i .i64 q0.run)] : List AV)), .dead, .os 3 1 0 (List.map (encA E3) [task2])])) rfl rfl rfl rfl rfl ?_ (Wt.none rfl) rfl rfl ?_
 ·refine ctr_intro Try.func41 (by kernel_rfl) rfl rfl rfl (fun mm φφ ww hm19 => ?_)
  refine wc_sr ?_
  refine WL.s ((b_box rfl rfl).does) (Wt.none rfl) rfl rfl ?_
  refine WL.s ((b_alloc z26).does) (Wt.none rfl) rfl rfl ?_
  refine WL.as rfl rfl ?_
  refine WL.ns ?_
  refine wc_seq ?_
  refine wc_sr ?_
  refine WL.qn (y_loadN rfl rfl a26 s26 rfl) rfl ?_
  obtain ⟨r23, hr23, h⟩ := bindS h
  refine WL.fn rfl rfl rfl rfl (f10_c _ hr23) ⟨(Le.agd ⟨(Le.refl _), (Le.refl _), (Le.refl _), (Le.refl _), (Le.refl _), (Le.refl _), (Le.refl _), (Le.refl _), (Le.refl _), (Le.refl _), (Le.refl _), (Le.refl _), (Le.refl _), (Le.refl _), (Le.refl _), (Le.refl _), (Le.refl _), (Le.refl _), (Le.refl _), (Le.refl _), (Le.refl _), (Le.refl _), (Le.refl _), (Le.refl _), (Le.refl _), (Le.refl _), (Le.refl _), (Le.refl _), (Le.refl _), (Le.refl _), (Le.refl _), (Le.refl _), (Le.refl _), (Le.refl _), trivial⟩), trivial⟩ (Wt.none rfl) rfl rfl ?_
  refine WL.qn (y_not rfl) rfl ?_
  refine WL.mv rfl rfl ?_
  apply WL.or 4 (t := 15) (d := 19)
  ·exact rfl
  ·intro hg15
   refine WL.qy (y_move rfl) rfl rfl rfl ?_
   refine WL.fn rfl rfl rfl rfl (f30_c _) ⟨(Le.refl _), trivial⟩ (Wt.yes rfl rfl rfl) rfl rfl ?_
   refine WL.qy (y_not rfl) rfl rfl rfl ?_
   refine WL.qn (y_pick_f rfl rfl) rfl ?_
   exact WL.nil ⟨rfl, [_, _, _, _], rfl, rfl, rfl⟩
  ·refine WL.skips 3 rfl ?_
   refine WL.qn (y_pick_t rfl rfl) rfl ?_
   exact WL.nil ⟨rfl, [_, _, _, _], rfl, rfl, rfl⟩
  refine WL.mv rfl rfl ?_
  apply WL.or 4 (t := 20) (d := 24)
  ·exact rfl
  ·intro hg20
   refine WL.qy (y_move rfl) rfl rfl rfl ?_
   refine WL.fn rfl rfl rfl rfl (f30_c _) ⟨(Le.refl _), trivial⟩ (Wt.yes rfl rfl rfl) rfl rfl ?_
   refine WL.qy (y_not rfl) rfl rfl rfl ?_
   refine WL.qn (y_pick_f rfl rfl) rfl ?_
   exact WL.nil ⟨rfl, [_, _, _, _], rfl, rfl, rfl⟩
  ·refine WL.skips 3 rfl ?_
   refine WL.qn (y_pick_t rfl rfl) rfl ?_
   exact WL.nil ⟨rfl, [_, _, _, _], rfl, rfl, rfl⟩
  refine WL.ns ?_
  refine wc_cond rfl (fun hc1 => ?_) (fun hc1 => ?_)
  ·replace h := condT h hc1
   refine wc_sr ?_
   refine WL.qn (y_build p26 z26 rfl rfl) rfl ?_
   refine WL.s0 (d_store rfl rfl rfl rfl rfl rfl s26 rfl rfl) (Wt.none rfl) rfl ?_
   refine WL.st (st' := [.row 26 [.d (.v (.slice none 0 0)), .d (.v (.slice none 0 0)), .d (.v (.slice none 0 0)), .d (.v (.slice none 0 0)), .d (.v (.slice none 0 0)), .d (.v (.slice none 0 0)), .d (.v (.slice none 0 0)), .d (.v (.slice none 0 0)), .d (.v (.slice none 0 0)), .d (.v (.slice none 0 0)), .d (.v (.slice none 0 0)), .d (.v (.slice none 0 0)), .d (.v (.slice none 0 0)), .d (.v (.slice none 0 0)), .d (.v (.slice none 0 0)), .d (.v (.slice none 0 0)), .d (.v (.slice none 0 0)), .d (.v (.slice none 0 0)), .d (.v (.slice none 0 0)), .d (.v (.slice none 0 0)), .d (.v (.slice none 0 0)), .d (.v (.slice none 0 0)), .d (.v (.slice none 0 0)), .d (.v (.slice none 0 0)), .d (.v (.slice none 0 0)), .d (.v (.slice none 0 0)), .d (.v (.slice none 0 0)), .d (.v (.slice none 0 0)), .d (.v (.slice none 0 0)), .d (.v (.slice none 0 0)), .d (.v (.slice none 0 0)), .d (.v (.slice none 0 0)), .d (.v (.slice none 0 0)), .d (D.i .i64 0)], .row 26 (vecA 32 (fun j => .d (.sl (List.map E3 (q0.ready j)))) ++ ([.d (.sl (List.map E62 q0.delays)), .d (D.i .i64 q0.run)] : List AV)), .row 26 [.d (.v (.slice none 0 0)), .d (.v (.slice none 0 0)), .d (.v (.slice none 0 0)), .d (.v (.slice none 0 0)), .d (.v (.slice none 0 0)), .d (.v (.slice none 0 0)), .d (.v (.slice none 0 0)), .d (.v (.slice none 0 0)), .d (.v (.slice none 0 0)), .d (.v (.slice none 0 0)), .d (.v (.slice none 0 0)), .d (.v (.slice none 0 0)), .d (.v (.slice none 0 0)), .d (.v (.slice none 0 0)), .d (.v (.slice none 0 0)), .d (.v (.slice none 0 0)), .d (.v (.slice none 0 0)), .d (.v (.slice none 0 0)), .d (.v (.slice none 0 0)), .d (.v (.slice none 0 0)), .d (.v (.slice none 0 0)), .d (.v (.slice none 0 0)), .d (.v (.slice none 0 0)), .d (.v (.slice none 0 0)), .d (.v (.slice none 0 0)), .d (.v (.slice none 0 0)), .d (.v (.slice none 0 0)), .d (.v (.slice none 0 0)), .d (.v (.slice none 0 0)), .d (.v (.slice none 0 0)), .d (.v (.slice none 0 0)), .d (.v (.slice none 0 0)), .d (.v (.slice none 0 0)), .d (D.i .i64 0)]]) rfl ?_
   refine WL.as rfl rfl ?_
   refine WL.ns ?_
   refine wc_ret ?_
   refine we_seq_ret ?_
   exact we_ret (rs2 rfl (rv_cN rfl rfl a26 s26 rfl) (rv_t rfl)) (.inl ⟨2, h, (Le.tu ⟨(Le.refl _), (Le.refl _), trivial⟩), ⟨⟨rfl, Les.refl _⟩, ⟨rfl, Les.refl _⟩, ⟨rfl, Les.refl _⟩, trivial⟩⟩)
  ·replace h := condF h hc1
   refine wc_skip ?_
   refine we_seq ?_
   refine wc_seq ?_
   refine wc_sr ?_
   refine WL.qn (y_loadN rfl rfl a26 s26 rfl) rfl ?_
   refine WL.mv rfl rfl ?_
   obtain ⟨r24, hr24, h⟩ := bindS h
   refine WL.fn rfl rfl rfl rfl (f43_c _ _ hr24) ⟨(Le.agd ⟨(Le.refl _), (Le.refl _), (Le.refl _), (Le.refl _), (Le.refl _), (Le.refl _), (Le.refl _), (Le.refl _), (Le.refl _), (Le.refl _), (Le.refl _), (Le.refl _), (Le.refl _), (Le.refl _), (Le.refl _), (Le.refl _), (Le.refl _), (Le.refl _), (Le.refl _), (Le.refl _), (Le.refl _), (Le.refl _), (Le.refl _), (Le.refl _), (Le.refl _), (Le.refl _), (Le.refl _), (Le.refl _), (Le.refl _), (Le.refl _), (Le.refl _), (Le.refl _), (Le.refl _), (Le.refl _), trivial⟩), (Le.refl _), trivial⟩ (Wt.none rfl) rfl rfl ?_
   refine WL.mv rfl rfl ?_
   refine WL.qn (y_extractd rfl rfl) rfl ?_
   refine WL.qn (y_extractd rfl rfl) rfl ?_
   refine WL.as rfl rfl ?_
   refine WL.as rfl rfl ?_
   refine WL.ns ?_
   refine wc_sr ?_
   refine WL.mv rfl rfl ?_
   refine WL.mv rfl rfl ?_
   apply WL.or 5 (t := 33) (d := 38)
   ·exact rfl
   ·intro hg33
    refine WL.qy (y_fieldAddr f26_2 rfl) rfl rfl rfl ?_
    refine WL.qy (y_load rfl rfl a3 rfl) rfl rfl rfl ?_
    refine WL.qy (y_move rfl) rfl rfl rfl ?_
    refine WL.qy (y_eql rfl rfl) rfl rfl rfl ?_
    refine WL.qn (y_pick_f rfl rfl) rfl ?_
    exact WL.nil ⟨rfl, [_, _, _, _, _], rfl, rfl, rfl⟩
   ·refine WL.skips 4 rfl ?_
    refine WL.qn (y_pick_t rfl rfl) rfl ?_
    exact WL.nil ⟨rfl, [_, _, _, _, _], rfl, rfl, rfl⟩
   refine WL.ns ?_
   refine wc_cond rfl (fun hc2 => ?_) (fun hc2 => ?_)
   ·replace h := condT h hc2
    refine wc_sr ?_
    refine WL.qn (y_build p26 z26 rfl rfl) rfl ?_
    refine WL.s0 (d_store rfl rfl rfl rfl rfl rfl s26 rfl rfl) (Wt.none rfl) rfl ?_
    refine WL.st (st' := [.row 26 [.d (.v (.slice none 0 0)), .d (.v (.slice none 0 0)), .d (.v (.slice none 0 0)), .d (.v (.slice none 0 0)), .d (.v (.slice none 0 0)), .d (.v (.slice none 0 0)), .d (.v (.slice none 0 0)), .d (.v (.slice none 0 0)), .d (.v (.slice none 0 0)), .d (.v (.slice none 0 0)), .d (.v (.slice none 0 0)), .d (.v (.slice none 0 0)), .d (.v (.slice none 0 0)), .d (.v (.slice none 0 0)), .d (.v (.slice none 0 0)), .d (.v (.slice none 0 0)), .d (.v (.slice none 0 0)), .d (.v (.slice none 0 0)), .d (.v (.slice none 0 0)), .d (.v (.slice none 0 0)), .d (.v (.slice none 0 0)), .d (.v (.slice none 0 0)), .d (.v (.slice none 0 0)), .d (.v (.slice none 0 0)), .d (.v (.slice none 0 0)), .d (.v (.slice none 0 0)), .d (.v (.slice none 0 0)), .d (.v (.slice none 0 0)), .d (.v (.slice none 0 0)), .d (.v (.slice none 0 0)), .d (.v (.slice none 0 0)), .d (.v (.slice none 0 0)), .d (.v (.slice none 0 0)), .d (D.i .i64 0)], .row 26 (vecA 32 (fun j => .d (.sl (List.map E3 (q0.ready j)))) ++ ([.d (.sl (List.map E62 q0.delays)), .d (D.i .i64 q0.run)] : List AV)), .row 26 [.d (.v (.slice none 0 0)), .d (.v (.slice none 0 0)), .d (.v (.slice none 0 0)), .d (.v (.slice none 0 0)), .d (.v (.slice none 0 0)), .d (.v (.slice none 0 0)), .d (.v (.slice none 0 0)), .d (.v (.slice none 0 0)), .d (.v (.slice none 0 0)), .d (.v (.slice none 0 0)), .d (.v (.slice none 0 0)), .d (.v (.slice none 0 0)), .d (.v (.slice none 0 0)), .d (.v (.slice none 0 0)), .d (.v (.slice none 0 0)), .d (.v (.slice none 0 0)), .d (.v (.slice none 0 0)), .d (.v (.slice none 0 0)), .d (.v (.slice none 0 0)), .d (.v (.slice none 0 0)), .d (.v (.slice none 0 0)), .d (.v (.slice none 0 0)), .d (.v (.slice none 0 0)), .d (.v (.slice none 0 0)), .d (.v (.slice none 0 0)), .d (.v (.slice none 0 0)), .d (.v (.slice none 0 0)), .d (.v (.slice none 0 0)), .d (.v (.slice none 0 0)), .d (.v (.slice none 0 0)), .d (.v (.slice none 0 0)), .d (.v (.slice none 0 0)), .d (.v (.slice none 0 0)), .d (D.i .i64 0)]]) rfl ?_
    refine WL.as rfl rfl ?_
    refine WL.ns ?_
    refine wc_ret ?_
    refine we_seq_ret ?_
    exact we_ret (rs2 rfl (rv_cN rfl rfl a26 s26 rfl) (rv_t rfl)) (.inl ⟨7, h, (Le.tu ⟨(Le.refl _), (Le.refl _), trivial⟩), ⟨⟨rfl, Les.refl _⟩, ⟨rfl, Les.refl _⟩, ⟨rfl, Les.refl _⟩, trivial⟩⟩)
   ·replace h := condF h hc2
    refine wc_skip ?_
    refine we_seq ?_
    refine wc_sr ?_
    refine WL.qn (y_loadN rfl rfl a26 s26 rfl) rfl ?_
    replace h := guardBS h
    obtain ⟨hgg25, h⟩ := h
    replace h := guardBS h
    obtain ⟨hgg26, h⟩ := h
    refine Gh.wl (gh_push_os 3 1) ?_
    refine WL.wina [3] rfl rfl rfl rfl (O.f32g_c q0 (Int.toNat prio1) (vecOk_spec hgg25).2 hgg26) ⟨(Le.agd ⟨(Le.refl _), (Le.refl _), (Le.refl _), (Le.refl _), (Le.refl _), (Le.refl _), (Le.refl _), (Le.refl _), (Le.refl _), (Le.refl _), (Le.refl _), (Le.refl _), (Le.refl _), (Le.refl _), (Le.refl _), (Le.refl _), (Le.refl _), (Le.refl _), (Le.refl _), (Le.refl _), (Le.refl _), (Le.refl _), (Le.refl _), (Le.refl _), (Le.refl _), (Le.refl _), (Le.refl _), (Le.refl _), (Le.refl _), (Le.refl _), (Le.refl _), (Le.refl _), (Le.refl _), (Le.refl _), trivial⟩), trivial⟩ rfl (by decide) rfl ⟨rfl, trivial⟩ rfl rfl (fun _ => (stLt_cons (lt_os _ _ _ _ _ _) rfl)) (fun _ => (cons_eq (ren_os _ _ _ _ _ _) rfl)) (fun _ => O.gRow_lt _ _ _ _ rfl) (fun _ => O.gRow_ren _ _ _ _) (Wt.none rfl) rfl rfl (fun ver27 => ?_)
    refine WL.s0 (d_storeS (rs := vecA 32 (O.gRow q0 (Int.toNat prio1) 3 ver27) ++ O.tl q0) rfl rfl rfl rfl rfl (O.gRow_all q0 (Int.toNat prio1) 3 ver27 (O.os_ok1S rfl)) s26 rfl rfl) (Wt.none rfl) rfl ?_
    refine WL.st (st' := [.row 26 [.d (.v (.slice none 0 0)), .d (.v (.slice none 0 0)), .d (.v (.slice none 0 0)), .d (.v (.slice none 0 0)), .d (.v (.slice none 0 0)), .d (.v (.slice none 0 0)), .d (.v (.slice none 0 0)), .d (.v (.slice none 0 0)), .d (.v (.slice none 0 0)), .d (.v (.slice none 0 0)), .d (.v (.slice none 0 0)), .d (.v (.slice none 0 0)), .d (.v (.slice none 0 0)), .d (.v (.slice none 0 0)), .d (.v (.slice none 0 0)), .d (.v (.slice none 0 0)), .d (.v (.slice none 0 0)), .d (.v (.slice none 0 0)), .d (.v (.slice none 0 0)), .d (.v (.slice none 0 0)), .d (.v (.slice none 0 0)), .d (.v (.slice none 0 0)), .d (.v (.slice none 0 0)), .d (.v (.slice none 0 0)), .d (.v (.slice none 0 0)), .d (.v (.slice none 0 0)), .d (.v (.slice none 0 0)), .d (.v (.slice none 0 0)), .d (.v (.slice none 0 0)), .d (.v (.slice none 0 0)), .d (.v (.slice none 0 0)), .d (.v (.slice none 0 0)), .d (.v (.slice none 0 0)), .d (D.i .i64 0)], .row 26 (vecA 32 (O.gRow q0 (Int.toNat prio1) 3 ver27) ++ ([.d (.sl (List.map E62 q0.delays)), .d (D.i .i64 q0.run)] : List AV)), .row 26 [.d (.v (.slice none 0 0)), .d (.v (.slice none 0 0)), .d (.v (.slice none 0 0)), .d (.v (.slice none 0 0)), .d (.v (.slice none 0 0)), .d (.v (.slice none 0 0)), .d (.v (.slice none 0 0)), .d (.v (.slice none 0 0)), .d (.v (.slice none 0 0)), .d (.v (.slice none 0 0)), .d (.v (.slice none 0 0)), .d (.v (.slice none 0 0)), .d (.v (.slice none 0 0)), .d (.v (.slice none 0 0)), .d (.v (.slice none 0 0)), .d (.v (.slice none 0 0)), .d (.v (.slice none 0 0)), .d (.v (.slice none 0 0)), .d (.v (.slice none 0 0)), .d (.v (.slice none 0 0)), .d (.v (.slice none 0 0)), .d (.v (.slice none 0 0)), .d (.v (.slice none 0 0)), .d (.v (.slice none 0 0)), .d (.v (.slice none 0 0)), .d (.v (.slice none 0 0)), .d (.v (.slice none 0 0)), .d (.v (.slice none 0 0)), .d (.v (.slice none 0 0)), .d (.v (.slice none 0 0)), .d (.v (.slice none 0 0)), .d (.v (.slice none 0 0)), .d (.v (.slice none 0 0)), .d (D.i .i64 0)], .os 3 1 ver27 (List.map (encA E3) (q0.ready (Int.toNat prio1)))]) rfl ?_
    refine WL.st (st' := [.row 26 [.d (.v (.slice none 0 0)), .d (.v (.slice none 0 0)), .d (.v (.slice none 0 0)), .d (.v (.slice none 0 0)), .d (.v (.slice none 0 0)), .d (.v (.slice none 0 0)), .d (.v (.slice none 0 0)), .d (.v (.slice none 0 0)), .d (.v (.slice none 0 0)), .d (.v (.slice none 0 0)), .d (.v (.slice none 0 0)), .d (.v (.slice none 0 0)), .d (.v (.slice none 0 0)), .d (.v (.slice none 0 0)), .d (.v (.slice none 0 0)), .d (.v (.slice none 0 0)), .d (.v (.slice none 0 0)), .d (.v (.slice none 0 0)), .d (.v (.slice none 0 0)), .d (.v (.slice none 0 0)), .d (.v (.slice none 0 0)), .d (.v (.slice none 0 0)), .d (.v (.slice none 0 0)), .d (.v (.slice none 0 0)), .d (.v (.slice none 0 0)), .d (.v (.slice none 0 0)), .d (.v (.slice none 0 0)), .d (.v (.slice none 0 0)), .d (.v (.slice none 0 0)), .d (.v (.slice none 0 0)), .d (.v (.slice none 0 0)), .d (.v (.slice none 0 0)), .d (.v (.slice none 0 0)), .d (D.i .i64 0)], .row 26 (vecA 32 (O.gRow q0 (Int.toNat prio1) 3 ver27) ++ ([.d (.sl (List.map E62 q0.delays)), .d (D.i .i64 q0.run)] : List AV)), .row 26 [.d (.v (.slice none 0 0)), .d (.v (.slice none 0 0)), .d (.v (.slice none 0 0)), .d (.v (.slice none 0 0)), .d (.v (.slice none 0 0)), .d (.v (.slice none 0 0)), .d (.v (.slice none 0 0)), .d (.v (.slice none 0 0)), .d (.v (.slice none 0 0)), .d (.v (.slice none 0 0)), .d (.v (.slice none 0 0)), .d (.v (.slice none 0 0)), .d (.v (.slice none 0 0)), .d (.v (.slice none 0 0)), .d (.v (.slice none 0 0)), .d (.v (.slice none 0 0)), .d (.v (.slice none 0 0)), .d (.v (.slice none 0 0)), .d (.v (.slice none 0 0)), .d (.v (.slice none 0 0)), .d (.v (.slice none 0 0)), .d (.v (.slice none 0 0)), .d (.v (.slice none 0 0)), .d (.v (.slice none 0 0)), .d (.v (.slice none 0 0)), .d (.v (.slice none 0 0)), .d (.v (.slice none 0 0)), .d (.v (.slice none 0 0)), .d (.v (.slice none 0 0)), .d (.v (.slice none 0 0)), .d (.v (.slice none 0 0)), .d (.v (.slice none 0 0)), .d (.v (.slice none 0 0)), .d (D.i .i64 0)], .os 3 1 ver27 (List.map (encA E3) (q0.ready (Int.toNat prio1)))]) rfl ?_
    refine WL.ns ?_
    refine wc_sr ?_
    refine WL.mv rfl rfl ?_
    refine WL.mv rfl rfl ?_
    refine WL.mv rfl rfl ?_
    refine WL.qn (y_fieldAddr f26_0 rfl) rfl ?_
    replace h := guardBS h
    obtain ⟨hgg28, h⟩ := h
    refine WL.qn (y_indexAddra ar23 rfl rfl (vecOk_0 hgg28) (vecOk_1 hgg28)) rfl ?_
    refine WL.qn ((O.gRow_self q0 (Int.toNat prio1) 3 ver27) ▸ (y_loadV (i := prio1) (n := 32) (off := 0) (O.gRow q0 (Int.toNat prio1) 3 ver27) rfl rfl a22 rfl hgg28)) rfl ?_
    obtain ⟨k30, hk30, h⟩ := letkS h
    refine WL.inl (us := [.os 3 ver27, .d (.pc (E3 task2))]) (fun rv st' => (k30 () = some r ∧ Le rv (.d (.sl (List.map E3 (task2 :: (q0.ready (Int.toNat prio1)))))) ∧ SLe st' [.row 26 [.d (.v (.slice none 0 0)), .d (.v (.slice none 0 0)), .d (.v (.slice none 0 0)), .d (.v (.slice none 0 0)), .d (.v (.slice none 0 0)), .d (.v (.slice none 0 0)), .d (.v (.slice none 0 0)), .d (.v (.slice none 0 0)), .d (.v (.slice none 0 0)), .d (.v (.slice none 0 0)), .d (.v (.slice none 0 0)), .d (.v (.slice none 0 0)), .d (.v (.slice none 0 0)), .d (.v (.slice none 0 0)), .d (.v (.slice none 0 0)), .d (.v (.slice none 0 0)), .d (.v (.slice none 0 0)), .d (.v (.slice none 0 0)), .d (.v (.slice none 0 0)), .d (.v (.slice none 0 0)), .d (.v (.slice none 0 0)), .d (.v (.slice none 0 0)), .d (.v (.slice none 0 0)), .d (.v (.slice none 0 0)), .d (.v (.slice none 0 0)), .d (.v (.slice none 0 0)), .d (.v (.slice none 0 0)), .d (.v (.slice none 0 0)), .d (.v (.slice none 0 0)), .d (.v (.slice none 0 0)), .d (.v (.slice none 0 0)), .d (.v (.slice none 0 0)), .d (.v (.slice none 0 0)), .d (D.i .i64 0)], .row 26 (vecA 32 (O.gRow q0 (Int.toNat prio1) 3 ver27) ++ ([.d (.sl (List.map E62 q0.delays)), .d (D.i .i64 q0.run)] : List AV)), .row 26 [.d (.v (.slice none 0 0)), .d (.v (.slice none 0 0)), .d (.v (.slice none 0 0)), .d (.v (.slice none 0 0)), .d (.v (.slice none 0 0)), .d (.v (.slice none 0 0)), .d (.v (.slice none 0 0)), .d (.v (.slice none 0 0)), .d (.v (.slice none 0 0)), .d (.v (.slice none 0 0)), .d (.v (.slice none 0 0)), .d (.v (.slice none 0 0)), .d (.v (.slice none 0 0)), .d (.v (.slice none 0 0)), .d (.v (.slice none 0 0)), .d (.v (.slice none 0 0)), .d (.v (.slice none 0 0)), .d (.v (.slice none 0 0)), .d (.v (.slice none 0 0)), .d (.v (.slice none 0 0)), .d (.v (.slice none 0 0)), .d (.v (.slice none 0 0)), .d (.v (.slice none 0 0)), .d (.v (.slice none 0 0)), .d (.v (.slice none 0 0)), .d (.v (.slice none 0 0)), .d (.v (.slice none 0 0)), .d (.v (.slice none 0 0)), .d (.v (.slice none 0 0)), .d (.v (.slice none 0 0)), .d (.v (.slice none 0 0)), .d (.v (.slice none 0 0)), .d (.v (.slice none 0 0)), .d (D.i .i64 0)], .dead, .os 3 1 0 (List.map (encA E3) [task2])])) rfl rfl rfl rfl rfl ?_ (Wt.none rfl) rfl rfl ?_
    ·refine ctr_intro Try.func59 (by kernel_rfl) rfl rfl rfl (fun mm φφ ww hm29 => ?_)
     refine wc_sr ?_
     refine WL.as rfl rfl ?_
     refine WL.ns ?_
     refine wc_sr ?_
     refine WL.mv rfl rfl ?_
     refine WL.qn (y_loadc rfl a3 rfl) rfl ?_
     refine WL.s ((NewOs.b (n_buildSlice l22 z3 rfl (by decide) (by decide) rfl rfl rfl (by decide))).does) (Wt.none rfl) rfl rfl ?_
     replace h := guardBS h
     obtain ⟨hgg31, h⟩ := h
     refine WL.winy [3, 4] rfl rfl rfl rfl (ctr_insert0 (x := task2) Try.laysIns ⟨Try.f33, Try.func33, by kernel_rfl, by kernel_rfl⟩ (O.insOk_le hgg31)) ⟨Le.refl _, Le.refl _, Le.refl _, trivial⟩ rfl (by decide) (cons_eq (ren_os _ _ _ _ _ _) (cons_eq (ren_os _ _ _ _ _ _) rfl)) ⟨rfl, rfl, trivial⟩ (stLt_cons (lt_os _ _ _ _ _ _) (stLt_cons (lt_os _ _ _ _ _ _) rfl)) rfl (fun _ => (stLt_cons rfl (stLt_cons (lt_os _ _ _ _ _ _) rfl))) (fun _ => (cons_eq rfl (cons_eq (ren_os _ _ _ _ _ _) rfl))) (Wt.none rfl) rfl rfl (fun ver32 => ?_)
     refine WL.as rfl rfl ?_
     refine WL.ns ?_
     refine wc_ret ?_
     exact we_ret (rs1 rfl (rv_t rfl)) ⟨h, (Le.refl _), ⟨⟨rfl, Les.refl _⟩, ⟨rfl, Les.refl _⟩, ⟨rfl, Les.refl _⟩, trivial, ⟨rfl, rfl, rfl, rfl⟩, trivial⟩⟩
    ·rintro rv st1 ⟨h, hr, hst⟩
     subst hk30
     dsimp only at h
     refine WL.cast 48 rfl hr ?_
     refine WL.weak hst ?_
     refine WL.qn (y_fieldAddr f26_0 rfl) rfl ?_
     replace h := guardBS h
     obtain ⟨hgg33, h⟩ := h
     refine WL.qn (y_indexAddra ar23 rfl rfl (vecOk_0 hgg33) (vecOk_1 hgg33)) rfl ?_
     refine WL.s0 (d_storeV (i := prio1) (off := 0) (n := 32) (cs' := (vecA 32 (vset (O.gRow q0 (Int.toNat prio1) 3 ver27) (Int.toNat prio1) (.d (.sl (List.map E3 (task2 :: (q0.ready (Int.toNat prio1))))))) ++ ([.d (.sl (List.map E62 q0.delays)), .d (D.i .i64 q0.run)] : List AV))) (fun x : AV => x) (O.gRow q0 (Int.toNat prio1) 3 ver27) (.d (.sl (List.map E3 (task2 :: (q0.ready (Int.toNat prio1)))))) rfl rfl rfl (one_ok rfl) s22 rfl rfl hgg33 rfl) (Wt.none rfl) rfl ?_
     rw [O.gRow_put]
     refine WL.st (st' := [.row 26 [.d (.v (.slice none 0 0)), .d (.v (.slice none 0 0)), .d (.v (.slice none 0 0)), .d (.v (.slice none 0 0)), .d (.v (.slice none 0 0)), .d (.v (.slice none 0 0)), .d (.v (.slice none 0 0)), .d (.v (.slice none 0 0)), .d (.v (.slice none 0 0)), .d (.v (.slice none 0 0)), .d (.v (.slice none 0 0)), .d (.v (.slice none 0 0)), .d (.v (.slice none 0 0)), .d (.v (.slice none 0 0)), .d (.v (.slice none 0 0)), .d (.v (.slice none 0 0)), .d (.v (.slice none 0 0)), .d (.v (.slice none 0 0)), .d (.v (.slice none 0 0)), .d (.v (.slice none 0 0)), .d (.v (.slice none 0 0)), .d (.v (.slice none 0 0)), .d (.v (.slice none 0 0)), .d (.v (.slice none 0 0)), .d (.v (.slice none 0 0)), .d (.v (.slice none 0 0)), .d (.v (.slice none 0 0)), .d (.v (.slice none 0 0)), .d (.v (.slice none 0 0)), .d (.v (.slice none 0 0)), .d (.v (.slice none 0 0)), .d (.v (.slice none 0 0)), .d (.v (.slice none 0 0)), .d (D.i .i64 0)], .row 26 (vecA 32 (fun j => .d (.sl (List.map E3 ((vset q0.ready (Int.toNat prio1) (task2 :: (q0.ready (Int.toNat prio1)))) j)))) ++ ([.d (.sl (List.map E62 q0.delays)), .d (D.i .i64 q0.run)] : List AV)), .row 26 [.d (.v (.slice none 0 0)), .d (.v (.slice none 0 0)), .d (.v (.slice none 0 0)), .d (.v (.slice none 0 0)), .d (.v (.slice none 0 0)), .d (.v (.slice none 0 0)), .d (.v (.slice none 0 0)), .d (.v (.slice none 0 0)), .d (.v (.slice none 0 0)), .d (.v (.slice none 0 0)), .d (.v (.slice none 0 0)), .d (.v (.slice none 0 0)), .d (.v (.slice none 0 0)), .d (.v (.slice none 0 0)), .d (.v (.slice none 0 0)), .d (.v (.slice none 0 0)), .d (.v (.slice none 0 0)), .d (.v (.slice none 0 0)), .d (.v (.slice none 0 0)), .d (.v (.slice none 0 0)), .d (.v (.slice none 0 0)), .d (.v (.slice none 0 0)), .d (.v (.slice none 0 0)), .d (.v (.slice none 0 0)), .d (.v (.slice none 0 0)), .d (.v (.slice none 0 0)), .d (.v (.slice none 0 0)), .d (.v (.slice none 0 0)), .d (.v (.slice none 0 0)), .d (.v (.slice none 0 0)), .d (.v (.slice none 0 0)), .d (.v (.slice none 0 0)), .d (.v (.slice none 0 0)), .d (D.i .i64 0)], .dead, .os 3 1 0 (List.map (encA E3) [task2])]) rfl ?_
     refine WL.st (st' := [.row 26 [.d (.v (.slice none 0 0)), .d (.v (.slice none 0 0)), .d (.v (.slice none 0 0)), .d (.v (.slice none 0 0)), .d (.v (.slice none 0 0)), .d (.v (.slice none 0 0)), .d (.v (.slice none 0 0)), .d (.v (.slice none 0 0)), .d (.v (.slice none 0 0)), .d (.v (.slice none 0 0)), .d (.v (.slice none 0 0)), .d (.v (.slice none 0 0)), .d (.v (.slice none 0 0)), .d (.v (.slice none 0 0)), .d (.v (.slice none 0 0)), .d (.v (.slice none 0 0)), .d (.v (.slice none 0 0)), .d (.v (.slice none 0 0)), .d (.v (.slice none 0 0)), .d (.v (.slice none 0 0)), .d (.v (.slice none 0 0)), .d (.v (.slice none 0 0)), .d (.v (.slice none 0 0)), .d (.v (.slice none 0 0)), .d (.v (.slice none 0 0)), .d (.v (.slice none 0 0)), .d (.v (.slice none 0 0)), .d (.v (.slice none 0 0)), .d (.v (.slice none 0 0)), .d (.v (.slice none 0 0)), .d (.v (.slice none 0 0)), .d (.v (.slice none 0 0)), .d (.v (.slice none 0 0)), .d (D.i .i64 0)], .row 26 (vecA 32 (fun j => .d (.sl (List.map E3 ((vset q0.ready (Int.toNat prio1) (task2 :: (q0.ready (Int.toNat prio1)))) j)))) ++ ([.d (.sl (List.map E62 q0.delays)), .d (D.i .i64 q0.run)] : List AV)), .row 26 [.d (.v (.slice none 0 0)), .d (.v (.slice none 0 0)), .d (.v (.slice none 0 0)), .d (.v (.slice none 0 0)), .d (.v (.slice none 0 0)), .d (.v (.slice none 0 0)), .d (.v (.slice none 0 0)), .d (.v (.slice none 0 0)), .d (.v (.slice none 0 0)), .d (.v (.slice none 0 0)), .d (.v (.slice none 0 0)), .d (.v (.slice none 0 0)), .d (.v (.slice none 0 0)), .d (.v (.slice none 0 0)), .d (.v (.slice none 0 0)), .d (.v (.slice none 0 0)), .d (.v (.slice none 0 0)), .d (.v (.slice none 0 0)), .d (.v (.slice none 0 0)), .d (.v (.slice none 0 0)), .d (.v (.slice none 0 0)), .d (.v (.slice none 0 0)), .d (.v (.slice none 0 0)), .d (.v (.slice none 0 0)), .d (.v (.slice none 0 0)), .d (.v (.slice none 0 0)), .d (.v (.slice none 0 0)), .d (.v (.slice none 0 0)), .d (.v (.slice none 0 0)), .d (.v (.slice none 0 0)), .d (.v (.slice none 0 0)), .d (.v (.slice none 0 0)), .d (.v (.slice none 0 0)), .d (D.i .i64 0)], .dead, .os 3 1 0 (List.map (encA E3) [task2])]) rfl ?_
     refine WL.ns ?_
     refine wc_sr ?_
     refine WL.qn (y_loadN rfl rfl a26 s26 rfl) rfl ?_
     refine WL.s0 (d_store rfl rfl rfl rfl rfl rfl s26 rfl rfl) (Wt.none rfl) rfl ?_
     refine WL.st (st' := [.row 26 [.d (.v (.slice none 0 0)), .d (.v (.slice none 0 0)), .d (.v (.slice none 0 0)), .d (.v (.slice none 0 0)), .d (.v (.slice none 0 0)), .d (.v (.slice none 0 0)), .d (.v (.slice none 0 0)), .d (.v (.slice none 0 0)), .d (.v (.slice none 0 0)), .d (.v (.slice none 0 0)), .d (.v (.slice none 0 0)), .d (.v (.slice none 0 0)), .d (.v (.slice none 0 0)), .d (.v (.slice none 0 0)), .d (.v (.slice none 0 0)), .d (.v (.slice none 0 0)), .d (.v (.slice none 0 0)), .d (.v (.slice none 0 0)), .d (.v (.slice none 0 0)), .d (.v (.slice none 0 0)), .d (.v (.slice none 0 0)), .d (.v (.slice none 0 0)), .d (.v (.slice none 0 0)), .d (.v (.slice none 0 0)), .d (.v (.slice none 0 0)), .d (.v (.slice none 0 0)), .d (.v (.slice none 0 0)), .d (.v (.slice none 0 0)), .d (.v (.slice none 0 0)), .d (.v (.slice none 0 0)), .d (.v (.slice none 0 0)), .d (.v (.slice none 0 0)), .d (.v (.slice none 0 0)), .d (D.i .i64 0)], .row 26 (vecA 32 (fun j => .d (.sl (List.map E3 ((vset q0.ready (Int.toNat prio1) (task2 :: (q0.ready (Int.toNat prio1)))) j)))) ++ ([.d (.sl (List.map E62 q0.delays)), .d (D.i .i64 q0.run)] : List AV)), .row 26 (vecA 32 (fun j => .d (.sl (List.map E3 ((vset q0.ready (Int.toNat prio1) (task2 :: (q0.ready (Int.toNat prio1)))) j)))) ++ ([.d (.sl (List.map E62 q0.delays)), .d (D.i .i64 q0.run)] : List AV)), .dead, .os 3 1 0 (List.map (encA E3) [task2])]) rfl ?_
     refine WL.as rfl rfl ?_
     refine WL.ns ?_
     refine wc_ret ?_
     exact we_ret (rs2 rfl (rv_cN rfl rfl a26 s26 rfl) (rv_t rfl)) (.inr (⟨h, (Le.tu ⟨(Le.refl _), (Le.refl _), trivial⟩), ⟨⟨rfl, Les.refl _⟩, ⟨rfl, Les.refl _⟩, ⟨rfl, Les.refl _⟩, trivial, ⟨rfl, rfl, rfl, rfl⟩, trivial⟩⟩))
 ·rintro rv st1 (⟨t20, h, hr, hst⟩ | ⟨h, hr, hst⟩)
  ·subst hk21
   dsimp only at h
   refine WL.cast 12 rfl hr ?_
   refine WL.weak hst ?_
   refine WL.qn (y_extract rfl rfl) rfl ?_
   refine WL.qn (y_extract rfl rfl) rfl ?_
   refine WL.s0 (d_store rfl rfl rfl rfl rfl rfl s26 rfl rfl) (Wt.none rfl) rfl ?_
   refine WL.st (st' := [.row 26 [.d (.v (.slice none 0 0)), .d (.v (.slice none 0 0)), .d (.v (.slice none 0 0)), .d (.v (.slice none 0 0)), .d (.v (.slice none 0 0)), .d (.v (.slice none 0 0)), .d (.v (.slice none 0 0)), .d (.v (.slice none 0 0)), .d (.v (.slice none 0 0)), .d (.v (.slice none 0 0)), .d (.v (.slice none 0 0)), .d (.v (.slice none 0 0)), .d (.v (.slice none 0 0)), .d (.v (.slice none 0 0)), .d (.v (.slice none 0 0)), .d (.v (.slice none 0 0)), .d (.v (.slice none 0 0)), .d (.v (.slice none 0 0)), .d (.v (.slice none 0 0)), .d (.v (.slice none 0 0)), .d (.v (.slice none 0 0)), .d (.v (.slice none 0 0)), .d (.v (.slice none 0 0)), .d (.v (.slice none 0 0)), .d (.v (.slice none 0 0)), .d (.v (.slice none 0 0)), .d (.v (.slice none 0 0)), .d (.v (.slice none 0 0)), .d (.v (.slice none 0 0)), .d (.v (.slice none 0 0)), .d (.v (.slice none 0 0)), .d (.v (.slice none 0 0)), .d (.v (.slice none 0 0)), .d (D.i .i64 0)], .row 26 (vecA 32 (fun j => .d (.sl (List.map E3 (q0.ready j)))) ++ ([.d (.sl (List.map E62 q0.delays)), .d (D.i .i64 q0.run)] : List AV)), .row 26 [.d (.v (.slice none 0 0)), .d (.v (.slice none 0 0)), .d (.v (.slice none 0 0)), .d (.v (.slice none 0 0)), .d (.v (.slice none 0 0)), .d (.v (.slice none 0 0)), .d (.v (.slice none 0 0)), .d (.v (.slice none 0 0)), .d (.v (.slice none 0 0)), .d (.v (.slice none 0 0)), .d (.v (.slice none 0 0)), .d (.v (.slice none 0 0)), .d (.v (.slice none 0 0)), .d (.v (.slice none 0 0)), .d (.v (.slice none 0 0)), .d (.v (.slice none 0 0)), .d (.v (.slice none 0 0)), .d (.v (.slice none 0 0)), .d (.v (.slice none 0 0)), .d (.v (.slice none 0 0)), .d (.v (.slice none 0 0)), .d (.v (.slice none 0 0)), .d (.v (.slice none 0 0)), .d (.v (.slice none 0 0)), .d (.v (.slice none 0 0)), .d (.v (.slice none 0 0)), .d (.v (.slice none 0 0)), .d (.v (.slice none 0 0)), .d (.v (.slice none 0 0)), .d (.v (.slice none 0 0)), .d (.v (.slice none 0 0)), .d (.v (.slice none 0 0)), .d (.v (.slice none 0 0)), .d (D.i .i64 0)]]) rfl ?_
   refine WL.as rfl rfl ?_
   refine WL.ns ?_
   refine wc_ret ?_
   obtain rfl := Option.some.inj h
   exact we_ret_fn (rs2 rfl (rv_cN rfl rfl a26 s26 rfl) (rv_t rfl)) (Le.tud ⟨(Le.agd ⟨Le.nil, Le.nil, Le.nil, Le.nil, Le.nil, Le.nil, Le.nil, Le.nil, Le.nil, Le.nil, Le.nil, Le.nil, Le.nil, Le.nil, Le.nil, Le.nil, Le.nil, Le.nil, Le.nil, Le.nil, Le.nil, Le.nil, Le.nil, Le.nil, Le.nil, Le.nil, Le.nil, Le.nil, Le.nil, Le.nil, Le.nil, Le.nil, Le.nil, (Le.refl _), trivial⟩), (Le.refl _), trivial⟩)
  ·subst hk22
   dsimp only at h
   refine WL.cast 12 rfl hr ?_
   refine WL.weak hst ?_
   refine WL.qn (y_extract rfl rfl) rfl ?_
   refine WL.qn (y_extract rfl rfl) rfl ?_
   refine WL.s0 (d_store rfl rfl rfl rfl rfl rfl s26 rfl rfl) (Wt.none rfl) rfl ?_
   refine WL.st (st' := [.row 26 (vecA 32 (fun j => .d (.sl (List.map E3 ((vset q0.ready (Int.toNat prio1) (task2 :: (q0.ready (Int.toNat prio1)))) j)))) ++ ([.d (.sl (List.map E62 q0.delays)), .d (D.i .i64 q0.run)] : List AV)), .row 26 (vecA 32 (fun j => .d (.sl (List.map E3 ((vset q0.ready (Int.toNat prio1) (task2 :: (q0.ready (Int.toNat prio1)))) j)))) ++ ([.d (.sl (List.map E62 q0.delays)), .d (D.i .i64 q0.run)] : List AV)), .row 26 (vecA 32 (fun j => .d (.sl (List.map E3 ((vset q0.ready (Int.toNat prio1) (task2 :: (q0.ready (Int.toNat prio1)))) j)))) ++ ([.d (.sl (List.map E62 q0.delays)), .d (D.i .i64 q0.run)] : List AV)), .dead, .os 3 1 0 (List.map (encA E3) [task2])]) rfl ?_
   refine WL.as rfl rfl ?_
   refine WL.ns ?_
   refine wc_ret ?_
   obtain rfl := Option.some.inj h
   exact we_ret_fn (rs2 rfl (rv_cN rfl rfl a26 s26 rfl) (rv_t rfl)) (Le.tud ⟨(Le.agd ⟨(Le.refl _), (Le.refl _), (Le.refl _), (Le.refl _), (Le.refl _), (Le.refl _), (Le.refl _), (Le.refl _), (Le.refl _), (Le.refl _), (Le.refl _), (Le.refl _), (Le.refl _), (Le.refl _), (Le.refl _), (Le.refl _), (Le.refl _), (Le.refl _), (Le.refl _), (Le.refl _), (Le.refl _), (Le.refl _), (Le.refl _), (Le.refl _), (Le.refl _), (Le.refl _), (Le.refl _), (Le.refl _), (Le.refl _), (Le.refl _), (Le.refl _), (Le.refl _), (Le.refl _), (Le.refl _), trivial⟩), (Le.refl _), trivial⟩)

theorem f31_c (a0 : List Int) (b1 : List Int) {r : Bool} (h : f31 a0 b1 = some r) : Pu Try.prog 31 [.sl (List.map E3 a0), .sl (List.map E3 b1)] (.b r) := by
 unfold f31 at h
 refine fn_intro Try.func31 (by kernel_rfl) rfl rfl rfl (fun φφ ww => ?_)
 refine wc_sr ?_
 refine WL.as rfl rfl ?_
 refine WL.ns ?_
 refine wc_seq ?_
 refine wc_sr ?_
 refine WL.mv rfl rfl ?_
 refine WL.qn (y_len_map E3 a0 e22 rfl rfl (Le.refl _)) rfl ?_
 refine WL.mv rfl rfl ?_
 refine WL.qn (y_len_map E3 b1 e22 rfl rfl (Le.refl _)) rfl ?_
 refine WL.qn (y_neq rfl rfl) rfl ?_
 refine WL.ns ?_
 refine wc_cond rfl (fun hc1 => ?_) (fun hc1 => ?_)
 ·replace h := condT h hc1
  refine wc_sr ?_
  refine WL.as rfl rfl ?_
  refine WL.ns ?_
  refine wc_ret ?_
  refine we_seq_ret ?_
  obtain rfl := Option.some.inj h
  exact we_ret_fn (rs1 rfl (rv_t rfl)) (Le.refl _)
 ·replace h := condF h hc1
  refine wc_skip ?_
  refine we_seq ?_
  replace h := letkS h
  obtain ⟨k29, hk29, h⟩ := h
  refine wc_cut (fun env' st' => k29 () = some r ∧ Sub [] env' ∧ SLe st' []) ?_ ?_
  ·refine wc_sr ?_
   refine WL.as rfl rfl ?_
   refine WL.ns ?_
   refine wc_block ?_
   refine wc_loop (fun n env' st' => ∃ (iq31 : Int), f31_l1 a0 b1 k29 n iq31 = some r ∧ Sub [(0, .d (.sl (List.map E3 a0))), (1, .d (.sl (List.map E3 b1))), (5, .d (D.i .i64 iq31))] env' ∧ SLe st' []) (fun n => n) 9223372036854775808 ⟨0, h, (Sub.cons rfl (Le.refl _) (Sub.cons rfl (Le.refl _) (Sub.cons rfl (Le.refl _) (Sub.nil _)))), trivial⟩ ?_
   rintro n env1 st1 ⟨iq31, h, hsub, hst⟩
   cases n with
   | zero => rw [f31_l1] at h; cases h
   | succ n =>
   rw [f31_l1] at h
   refine WC.sub hsub (WC.weak hst ?_)
   refine wc_seq ?_
   refine wc_sr ?_
   refine WL.mv rfl rfl ?_
   refine WL.mv rfl rfl ?_
   refine WL.qn (y_len_map E3 a0 e22 rfl rfl (Le.refl _)) rfl ?_
   refine WL.qn (y_lss rfl rfl) rfl ?_
   refine WL.ns ?_
   refine wc_cond rfl (fun hc2 => ?_) (fun hc2 => ?_)
   ·replace h := condT h hc2
    refine wc_skip ?_
    refine we_seq ?_
    refine wc_seq ?_
    refine wc_block ?_
    refine wc_seq ?_
    refine wc_region_draw (by kernel_rfl) (by kernel_rfl) ?_
    refine WQ.qn (y_move rfl) rfl ?_
    refine WQ.qn (y_move rfl) rfl ?_
    obtain ⟨x33, hx33, h⟩ := bindS h
    refine WQ.qn (y_indexAddr e22 rfl (Le.refl _) rfl (idx_nonneg hx33) (idx_row E3_eq hx33) rfl) rfl ?_
    refine WQ.qn (y_loadc rfl a3 rfl) rfl ?_
    refine WQ.qn (y_move rfl) rfl ?_
    refine WQ.qn (y_move rfl) rfl ?_
    obtain ⟨x34, hx34, h⟩ := bindS h
    refine WQ.qn (y_indexAddr e22 rfl (Le.refl _) rfl (idx_nonneg hx34) (idx_row E3_eq hx34) rfl) rfl ?_
    refine WQ.qn (y_loadc rfl a3 rfl) rfl ?_
    refine WQ.qn (y_neq rfl rfl) rfl ?_
    refine WQ.nil ?_
    refine we_seq ?_
    refine wc_cond rfl (fun hc3 => ?_) (fun hc3 => ?_)
    ·replace h := condT h hc3
     refine wc_sr ?_
     refine WL.as rfl rfl ?_
     refine WL.ns ?_
     refine wc_ret ?_
     refine we_blk_ret ?_
     refine we_seq_ret ?_
     refine we_lp_ret ?_
     refine we_blk_ret ?_
     refine we_lp_ret ?_
     obtain rfl := Option.some.inj h
     exact we_ret_fn (rs1 rfl (rv_t rfl)) (Le.refl _)
    ·replace h := condF h hc3
     refine wc_skip ?_
     refine we_blk ?_
     refine we_seq ?_
     refine wc_region ?_
     refine WL.mv rfl rfl ?_
     refine WL.qn (y_add rfl rfl rfl) rfl ?_
     refine WL.as rfl rfl ?_
     refine WL.nil ?_
     exact we_lp ⟨n, ⟨(IntKind.i64.wrap (iq31 + 1)), h, (Sub.cons rfl (Le.refl _) (Sub.cons rfl (Le.refl _) (Sub.cons rfl (Le.refl _) (Sub.nil _)))), trivial⟩, Nat.lt_succ_self n⟩
   ·replace h := condF h hc2
    refine wc_exit ?_
    refine we_seq_exit ?_
    refine we_lp_exit ?_
    refine we_blk_hit ?_
    exact we_lp ⟨h, (Sub.nil _), trivial⟩
  ·rintro env1 st1 ⟨h, hsub, hst⟩
   subst hk29
   dsimp only at h
   refine WC.sub hsub (WC.weak hst ?_)
   refine wc_sr ?_
   refine WL.as rfl rfl ?_
   refine WL.ns ?_
   refine wc_ret ?_
   obtain rfl := Option.some.inj h
   exact we_ret_fn (rs1 rfl (rv_t rfl)) (Le.refl _)

theorem f11_c  {r : Bool} (h : f11  = some r) : Pu Try.prog 11 [] (.b r) := by
 unfold f11 at h
 refine fn_intro Try.func11 (by kernel_rfl) rfl rfl rfl (fun φφ ww => ?_)
 refine wc_sr ?_
 refine WL.as rfl rfl ?_
 refine WL.ns ?_
 refine wc_sr ?_
 refine WL.fn rfl rfl rfl rfl (f16_c) trivial (Wt.none rfl) rfl rfl ?_
 refine WL.s ((b_alloc z26).does) (Wt.none rfl) rfl rfl ?_
 refine WL.s0 (d_store rfl rfl rfl rfl rfl rfl s26 rfl rfl) (Wt.none rfl) rfl ?_
 refine WL.st (st' := [.row 26 (vecA 32 (fun j => .d (.sl (List.map E3 (f16.ready j)))) ++ ([.d (.sl (List.map E62 f16.delays)), .d (D.i .i64 f16.run)] : List AV))]) rfl ?_
 refine WL.ns ?_
 refine wc_sr ?_
 refine WL.s ((b_alloc z63).does) (Wt.none rfl) rfl rfl ?_
 refine WL.ns ?_
 refine wc_sr ?_
 refine WL.qn (y_loadN rfl rfl a26 s26 rfl) rfl ?_
 obtain ⟨r168, hr168, h⟩ := bindS h
 refine WL.fn rfl rfl rfl rfl (f21_c _ _ _ hr168) ⟨(Le.agd ⟨(Le.refl _), (Le.refl _), (Le.refl _), (Le.refl _), (Le.refl _), (Le.refl _), (Le.refl _), (Le.refl _), (Le.refl _), (Le.refl _), (Le.refl _), (Le.refl _), (Le.refl _), (Le.refl _), (Le.refl _), (Le.refl _), (Le.refl _), (Le.refl _), (Le.refl _), (Le.refl _), (Le.refl _), (Le.refl _), (Le.refl _), (Le.refl _), (Le.refl _), (Le.refl _), (Le.refl _), (Le.refl _), (Le.refl _), (Le.refl _), (Le.refl _), (Le.refl _), (Le.refl _), (Le.refl _), trivial⟩), (Le.refl _), (Le.refl _), trivial⟩ (Wt.none rfl) rfl rfl ?_
 refine WL.mv rfl rfl ?_
 refine WL.qn (y_extractd rfl rfl) rfl ?_
 refine WL.qn (y_extractd rfl rfl) rfl ?_
 refine WL.s0 (d_store rfl rfl rfl rfl rfl rfl s26 rfl rfl) (Wt.none rfl) rfl ?_
 refine WL.st (st' := [.row 26 (vecA 32 (fun j => .d (.sl (List.map E3 (r168.1.ready j)))) ++ ([.d (.sl (List.map E62 r168.1.delays)), .d (D.i .i64 r168.1.run)] : List AV)), .row 63 [.d (D.i .i64 0), .d (D.i .i64 0), .d (D.i .i64 0), .d (D.i .i64 0), .d (D.i .i64 0), .d (D.i .i64 0), .d (D.i .i64 0), .d (D.i .i64 0)]]) rfl ?_
 refine WL.qn (y_indexAddra ar63 rfl rfl (by decide) (by decide)) rfl ?_
 refine WL.s0 (d_store rfl rfl rfl rfl rfl rfl s29 rfl rfl) (Wt.none rfl) rfl ?_
 refine WL.st (st' := [.row 26 (vecA 32 (fun j => .d (.sl (List.map E3 (r168.1.ready j)))) ++ ([.d (.sl (List.map E62 r168.1.delays)), .d (D.i .i64 r168.1.run)] : List AV)), .row 63 [.d (D.i .i64 r168.2), .d (D.i .i64 0), .d (D.i .i64 0), .d (D.i .i64 0), .d (D.i .i64 0), .d (D.i .i64 0), .d (D.i .i64 0), .d (D.i .i64 0)]]) rfl ?_
 refine WL.ns ?_
 refine wc_sr ?_
 refine WL.qn (y_loadN rfl rfl a26 s26 rfl) rfl ?_
 obtain ⟨r169, hr169, h⟩ := bindS h
 refine WL.fn rfl rfl rfl rfl (f21_c _ _ _ hr169) ⟨(Le.agd ⟨(Le.refl _), (Le.refl _), (Le.refl _), (Le.refl _), (Le.refl _), (Le.refl _), (Le.refl _), (Le.refl _), (Le.refl _), (Le.refl _), (Le.refl _), (Le.refl _), (Le.refl _), (Le.refl _), (Le.refl _), (Le.refl _), (Le.refl _), (Le.refl _), (Le.refl _), (Le.refl _), (Le.refl _), (Le.refl _), (Le.refl _), (Le.refl _), (Le.refl _), (Le.refl _), (Le.refl _), (Le.refl _), (Le.refl _), (Le.refl _), (Le.refl _), (Le.refl _), (Le.refl _), (Le.refl _), trivial⟩), (Le.refl _), (Le.refl _), trivial⟩ (Wt.none rfl) rfl rfl ?_
 refine WL.mv rfl rfl ?_
 refine WL.qn (y_extractd rfl rfl) rfl ?_
 refine WL.qn (y_extractd rfl rfl) rfl ?_
 refine WL.s0 (d_store rfl rfl rfl rfl rfl rfl s26 rfl rfl) (Wt.none rfl) rfl ?_
 refine WL.st (st' := [.row 26 (vecA 32 (fun j => .d (.sl (List.map E3 (r169.1.ready j)))) ++ ([.d (.sl (List.map E62 r169.1.delays)), .d (D.i .i64 r169.1.run)] : List AV)), .row 63 [.d (D.i .i64 r168.2), .d (D.i .i64 0), .d (D.i .i64 0), .d (D.i .i64 0), .d (D.i .i64 0), .d (D.i .i64 0), .d (D.i .i64 0), .d (D.i .i64 0)]]) rfl ?_
 refine WL.qn (y_indexAddra ar63 rfl rfl (by decide) (by decide)) rfl ?_
 refine WL.s0 (d_store rfl rfl rfl rfl rfl rfl s29 rfl rfl) (Wt.none rfl) rfl ?_
 refine WL.st (st' := [.row 26 (vecA 32 (fun j => .d (.sl (List.map E3 (r169.1.ready j)))) ++ ([.d (.sl (List.map E62 r169.1.delays)), .d (D.i .i64 r169.1.run)] : List AV)), .row 63 [.d (D.i .i64 r168.2), .d (D.i .i64 r169.2), .d (D.i .i64 0), .d (D.i .i64 0), .d (D.i .i64 0), .d (D.i .i64 0), .d (D.i .i64 0), .d (D.i .i64 0)]]) rfl ?_
 refine WL.ns ?_
 refine wc_sr ?_
 refine WL.qn (y_loadN rfl rfl a26 s26 rfl) rfl ?_
 obtain ⟨r170, hr170, h⟩ := bindS h
 refine WL.fn rfl rfl rfl rfl (f28_c _ _ _ hr170) ⟨(Le.agd ⟨(Le.refl _), (Le.refl _), (Le.refl _), (Le.refl _), (Le.refl _), (Le.refl _), (Le.refl _), (Le.refl _), (Le.refl _), (Le.refl _), (Le.refl _), (Le.refl _), (Le.refl _), (Le.refl _), (Le.refl _), (Le.refl _), (Le.refl _), (Le.refl _), (Le.refl _), (Le.refl _), (Le.refl _), (Le.refl _), (Le.refl _), (Le.refl _), (Le.refl _), (Le.refl _), (Le.refl _), (Le.refl _), (Le.refl _), (Le.refl _), (Le.refl _), (Le.refl _), (Le.refl _), (Le.refl _), trivial⟩), (Le.refl _), (Le.refl _), trivial⟩ (Wt.none rfl) rfl rfl ?_
 refine WL.mv rfl rfl ?_
 refine WL.qn (y_extractd rfl rfl) rfl ?_
 refine WL.qn (y_extractd rfl rfl) rfl ?_
 refine WL.s0 (d_store rfl rfl rfl rfl rfl rfl s26 rfl rfl) (Wt.none rfl) rfl ?_
 refine WL.st (st' := [.row 26 (vecA 32 (fun j => .d (.sl (List.map E3 (r170.1.ready j)))) ++ ([.d (.sl (List.map E62 r170.1.delays)), .d (D.i .i64 r170.1.run)] : List AV)), .row 63 [.d (D.i .i64 r168.2), .d (D.i .i64 r169.2), .d (D.i .i64 0), .d (D.i .i64 0), .d (D.i .i64 0), .d (D.i .i64 0), .d (D.i .i64 0), .d (D.i .i64 0)]]) rfl ?_
 refine WL.qn (y_indexAddra ar63 rfl rfl (by decide) (by decide)) rfl ?_
 refine WL.s0 (d_store rfl rfl rfl rfl rfl rfl s29 rfl rfl) (Wt.none rfl) rfl ?_
 refine WL.st (st' := [.row 26 (vecA 32 (fun j => .d (.sl (List.map E3 (r170.1.ready j)))) ++ ([.d (.sl (List.map E62 r170.1.delays)), .d (D.i .i64 r170.1.run)] : List AV)), .row 63 [.d (D.i .i64 r168.2), .d (D.i .i64 r169.2), .d (D.i .i64 r170.2), .d (D.i .i64 0), .d (D.i .i64 0), .d (D.i .i64 0), .d (D.i .i64 0), .d (D.i .i64 0)]]) rfl ?_
 refine WL.ns ?_
 refine wc_sr ?_
 refine WL.qn (y_loadN rfl rfl a26 s26 rfl) rfl ?_
 obtain ⟨r171, hr171, h⟩ := bindS h
 refine WL.fn rfl rfl rfl rfl (f14_c _ hr171) ⟨(Le.agd ⟨(Le.refl _), (Le.refl _), (Le.refl _), (Le.refl _), (Le.refl _), (Le.refl _), (Le.refl _), (Le.refl _), (Le.refl _), (Le.refl _), (Le.refl _), (Le.refl _), (Le.refl _), (Le.refl _), (Le.refl _), (Le.refl _), (Le.refl _), (Le.refl _), (Le.refl _), (Le.refl _), (Le.refl _), (Le.refl _), (Le.refl _), (Le.refl _), (Le.refl _), (Le.refl _), (Le.refl _), (Le.refl _), (Le.refl _), (Le.refl _), (Le.refl _), (Le.refl _), (Le.refl _), (Le.refl _), trivial⟩), trivial⟩ (Wt.none rfl) rfl rfl ?_
 refine WL.mv rfl rfl ?_
 refine WL.qn (y_extractd rfl rfl) rfl ?_
 refine WL.qn (y_extractd rfl rfl) rfl ?_
 refine WL.qn (y_extractd rfl rfl) rfl ?_
 refine WL.as rfl rfl ?_
 refine WL.as rfl rfl ?_
 refine WL.as rfl rfl ?_
 refine WL.ns ?_
 refine wc_sr ?_
 refine WL.qn (y_loadN rfl rfl a26 s26 rfl) rfl ?_
 obtain ⟨r172, hr172, h⟩ := bindS h
 refine WL.fn rfl rfl rfl rfl (f12_c _ _ hr172) ⟨(Le.agd ⟨(Le.refl _), (Le.refl _), (Le.refl _), (Le.refl _), (Le.refl _), (Le.refl _), (Le.refl _), (Le.refl _), (Le.refl _), (Le.refl _), (Le.refl _), (Le.refl _), (Le.refl _), (Le.refl _), (Le.refl _), (Le.refl _), (Le.refl _), (Le.refl _), (Le.refl _), (Le.refl _), (Le.refl _), (Le.refl _), (Le.refl _), (Le.refl _), (Le.refl _), (Le.refl _), (Le.refl _), (Le.refl _), (Le.refl _), (Le.refl _), (Le.refl _), (Le.refl _), (Le.refl _), (Le.refl _), trivial⟩), (Le.refl _), trivial⟩ (Wt.none rfl) rfl rfl ?_
 refine WL.mv rfl rfl ?_
 refine WL.qn (y_extractd rfl rfl) rfl ?_
 refine WL.qn (y_extractd rfl rfl) rfl ?_
 refine WL.s0 (d_store rfl rfl rfl rfl rfl rfl s26 rfl rfl) (Wt.none rfl) rfl ?_
 refine WL.st (st' := [.row 26 (vecA 32 (fun j => .d (.sl (List.map E3 (r172.1.ready j)))) ++ ([.d (.sl (List.map E62 r172.1.delays)), .d (D.i .i64 r172.1.run)] : List AV)), .row 63 [.d (D.i .i64 r168.2), .d (D.i .i64 r169.2), .d (D.i .i64 r170.2), .d (D.i .i64 0), .d (D.i .i64 0), .d (D.i .i64 0), .d (D.i .i64 0), .d (D.i .i64 0)]]) rfl ?_
 refine WL.qn (y_indexAddra ar63 rfl rfl (by decide) (by decide)) rfl ?_
 refine WL.s0 (d_store rfl rfl rfl rfl rfl rfl s29 rfl rfl) (Wt.none rfl) rfl ?_
 refine WL.st (st' := [.row 26 (vecA 32 (fun j => .d (.sl (List.map E3 (r172.1.ready j)))) ++ ([.d (.sl (List.map E62 r172.1.delays)), .d (D.i .i64 r172.1.run)] : List AV)), .row 63 [.d (D.i .i64 r168.2), .d (D.i .i64 r169.2), .d (D.i .i64 r170.2), .d (D.i .i64 r172.2), .d (D.i .i64 0), .d (D.i .i64 0), .d (D.i .i64 0), .d (D.i .i64 0)]]) rfl ?_
 refine WL.ns ?_
 refine wc_sr ?_
 refine WL.qn (y_fieldAddr f26_2 rfl) rfl ?_
 refine WL.qn (y_load rfl rfl a3 rfl) rfl ?_
 refine WL.qn (y_eql rfl rfl) rfl ?_
 refine WL.as rfl rfl ?_
 refine WL.ns ?_
 refine wc_sr ?_
 refine WL.qn (y_loadN rfl rfl a26 s26 rfl) rfl ?_
 obtain ⟨r173, hr173, h⟩ := bindS h
 refine WL.fn rfl rfl rfl rfl (f21_c _ _ _ hr173) ⟨(Le.agd ⟨(Le.refl _), (Le.refl _), (Le.refl _), (Le.refl _), (Le.refl _), (Le.refl _), (Le.refl _), (Le.refl _), (Le.refl _), (Le.refl _), (Le.refl _), (Le.refl _), (Le.refl _), (Le.refl _), (Le.refl _), (Le.refl _), (Le.refl _), (Le.refl _), (Le.refl _), (Le.refl _), (Le.refl _), (Le.refl _), (Le.refl _), (Le.refl _), (Le.refl _), (Le.refl _), (Le.refl _), (Le.refl _), (Le.refl _), (Le.refl _), (Le.refl _), (Le.refl _), (Le.refl _), (Le.refl _), trivial⟩), (Le.refl _), (Le.refl _), trivial⟩ (Wt.none rfl) rfl rfl ?_
 refine WL.mv rfl rfl ?_
 refine WL.qn (y_extractd rfl rfl) rfl ?_
 refine WL.qn (y_extractd rfl rfl) rfl ?_
 refine WL.s0 (d_store rfl rfl rfl rfl rfl rfl s26 rfl rfl) (Wt.none rfl) rfl ?_
 refine WL.st (st' := [.row 26 (vecA 32 (fun j => .d (.sl (List.map E3 (r173.1.ready j)))) ++ ([.d (.sl (List.map E62 r173.1.delays)), .d (D.i .i64 r173.1.run)] : List AV)), .row 63 [.d (D.i .i64 r168.2), .d (D.i .i64 r169.2), .d (D.i .i64 r170.2), .d (D.i .i64 r172.2), .d (D.i .i64 0), .d (D.i .i64 0), .d (D.i .i64 0), .d (D.i .i64 0)]]) rfl ?_
 refine WL.qn (y_indexAddra ar63 rfl rfl (by decide) (by decide)) rfl ?_
 refine WL.s0 (d_store rfl rfl rfl rfl rfl rfl s29 rfl rfl) (Wt.none rfl) rfl ?_
 refine WL.st (st' := [.row 26 (vecA 32 (fun j => .d (.sl (List.map E3 (r173.1.ready j)))) ++ ([.d (.sl (List.map E62 r173.1.delays)), .d (D.i .i64 r173.1.run)] : List AV)), .row 63 [.d (D.i .i64 r168.2), .d (D.i .i64 r169.2), .d (D.i .i64 r170.2), .d (D.i .i64 r172.2), .d (D.i .i64 r173.2), .d (D.i .i64 0), .d (D.i .i64 0), .d (D.i .i64 0)]]) rfl ?_
 refine WL.ns ?_
 refine wc_sr ?_
 refine WL.qn (y_loadN rfl rfl a26 s26 rfl) rfl ?_
 obtain ⟨r174, hr174, h⟩ := bindS h
 refine WL.fn rfl rfl rfl rfl (f12_c _ _ hr174) ⟨(Le.agd ⟨(Le.refl _), (Le.refl _), (Le.refl _), (Le.refl _), (Le.refl _), (Le.refl _), (Le.refl _), (Le.refl _), (Le.refl _), (Le.refl _), (Le.refl _), (Le.refl _), (Le.refl _), (Le.refl _), (Le.refl _), (Le.refl _), (Le.refl _), (Le.refl _), (Le.refl _), (Le.refl _), (Le.refl _), (Le.refl _), (Le.refl _), (Le.refl _), (Le.refl _), (Le.refl _), (Le.refl _), (Le.refl _), (Le.refl _), (Le.refl _), (Le.refl _), (Le.refl _), (Le.refl _), (Le.refl _), trivial⟩), (Le.refl _), trivial⟩ (Wt.none rfl) rfl rfl ?_
 refine WL.mv rfl rfl ?_
 refine WL.qn (y_extractd rfl rfl) rfl ?_
 refine WL.qn (y_extractd rfl rfl) rfl ?_
 refine WL.s0 (d_store rfl rfl rfl rfl rfl rfl s26 rfl rfl) (Wt.none rfl) rfl ?_
 refine WL.st (st' := [.row 26 (vecA 32 (fun j => .d (.sl (List.map E3 (r174.1.ready j)))) ++ ([.d (.sl (List.map E62 r174.1.delays)), .d (D.i .i64 r174.1.run)] : List AV)), .row 63 [.d (D.i .i64 r168.2), .d (D.i .i64 r169.2), .d (D.i .i64 r170.2), .d (D.i .i64 r172.2), .d (D.i .i64 r173.2), .d (D.i .i64 0), .d (D.i .i64 0), .d (D.i .i64 0)]]) rfl ?_
 refine WL.qn (y_indexAddra ar63 rfl rfl (by decide) (by decide)) rfl ?_
 refine WL.s0 (d_store rfl rfl rfl rfl rfl rfl s29 rfl rfl) (Wt.none rfl) rfl ?_
 refine WL.st (st' := [.row 26 (vecA 32 (fun j => .d (.sl (List.map E3 (r174.1.ready j)))) ++ ([.d (.sl (List.map E62 r174.1.delays)), .d (D.i .i64 r174.1.run)] : List AV)), .row 63 [.d (D.i .i64 r168.2), .d (D.i .i64 r169.2), .d (D.i .i64 r170.2), .d (D.i .i64 r172.2), .d (D.i .i64 r173.2), .d (D.i .i64 r174.2), .d (D.i .i64 0), .d (D.i .i64 0)]]) rfl ?_
 refine WL.ns ?_
 refine wc_sr ?_
 refine WL.qn (y_fieldAddr f26_2 rfl) rfl ?_
 refine WL.qn (y_load rfl rfl a3 rfl) rfl ?_
 refine WL.qn (y_eql rfl rfl) rfl ?_
 refine WL.mv rfl rfl ?_
 apply WL.and 6 (t := 65) (d := 71)
 ·exact rfl
 ·intro hg65
  refine WL.qy (y_fieldAddr f26_0 rfl) rfl rfl rfl ?_
  refine WL.qy (y_indexAddra ar23 rfl rfl (by decide) (by decide)) rfl rfl rfl ?_
  refine WL.qy (y_loadV (off := 0) (n := 32) (fun j => .d (.sl (List.map E3 (r174.1.ready j)))) rfl rfl a22 rfl (by decide)) rfl rfl rfl ?_
  refine WL.qy (y_len_map E3 (r174.1.ready (Int.toNat 3)) e22 rfl rfl (Le.refl _)) rfl rfl rfl ?_
  refine WL.qy (y_eql rfl rfl) rfl rfl rfl ?_
  refine WL.qn (y_pick_t rfl rfl) rfl ?_
  exact WL.nil ⟨rfl, [_, _, _, _, _, _], rfl, rfl, rfl⟩
 ·refine WL.skips 5 rfl ?_
  refine WL.qn (y_pick_f rfl rfl) rfl ?_
  exact WL.nil ⟨rfl, [_, _, _, _, _, _], rfl, rfl, rfl⟩
 refine WL.mv rfl rfl ?_
 obtain ⟨b175, hb175, h⟩ := bindS h
 apply WL.grp 7 (t := 72) (d := 79) (z := b175)
 ·exact rfl
 ·intro hg72
  have h := condT hb175 hg72
  refine WL.qy (y_fieldAddr f26_0 rfl) rfl rfl rfl ?_
  refine WL.qy (y_indexAddra ar23 rfl rfl (by decide) (by decide)) rfl rfl rfl ?_
  refine WL.qy (y_loadV (off := 0) (n := 32) (fun j => .d (.sl (List.map E3 (r174.1.ready j)))) rfl rfl a22 rfl (by decide)) rfl rfl rfl ?_
  obtain ⟨x176, hx176, h⟩ := bindS h
  refine WL.qy (y_indexAddr e22 rfl (Le.refl _) rfl (idx_nonneg hx176) (idx_row E3_eq hx176) rfl) rfl rfl rfl ?_
  refine WL.qy (y_loadc rfl a3 rfl) rfl rfl rfl ?_
  refine WL.qy (y_eql rfl rfl) rfl rfl rfl ?_
  refine WL.qn (y_pick_t rfl rfl) rfl ?_
  obtain rfl := Option.some.inj h
  exact WL.nil ⟨rfl, [_, _, _, _, _, _, _], rfl, rfl, rfl⟩
 ·intro hg72
  have h := condF hb175 hg72
  refine WL.skips 6 rfl ?_
  refine WL.qn (y_pick_f rfl rfl) rfl ?_
  obtain rfl := Option.some.inj h
  exact WL.nil ⟨rfl, [_, _, _, _, _, _, _], rfl, rfl, rfl⟩
 refine WL.as rfl rfl ?_
 refine WL.ns ?_
 refine wc_sr ?_
 refine WL.qn (y_loadN rfl rfl a26 s26 rfl) rfl ?_
 obtain ⟨r177, hr177, h⟩ := bindS h
 refine WL.fn rfl rfl rfl rfl (f21_c _ _ _ hr177) ⟨(Le.agd ⟨(Le.refl _), (Le.refl _), (Le.refl _), (Le.refl _), (Le.refl _), (Le.refl _), (Le.refl _), (Le.refl _), (Le.refl _), (Le.refl _), (Le.refl _), (Le.refl _), (Le.refl _), (Le.refl _), (Le.refl _), (Le.refl _), (Le.refl _), (Le.refl _), (Le.refl _), (Le.refl _), (Le.refl _), (Le.refl _), (Le.refl _), (Le.refl _), (Le.refl _), (Le.refl _), (Le.refl _), (Le.refl _), (Le.refl _), (Le.refl _), (Le.refl _), (Le.refl _), (Le.refl _), (Le.refl _), trivial⟩), (Le.refl _), (Le.refl _), trivial⟩ (Wt.none rfl) rfl rfl ?_
 refine WL.mv rfl rfl ?_
 refine WL.qn (y_extractd rfl rfl) rfl ?_
 refine WL.qn (y_extractd rfl rfl) rfl ?_
 refine WL.s ((b_alloc z26).does) (Wt.none rfl) rfl rfl ?_
 refine WL.s0 (d_store rfl rfl rfl rfl rfl rfl s26 rfl rfl) (Wt.none rfl) rfl ?_
 refine WL.st (st' := [.row 26 (vecA 32 (fun j => .d (.sl (List.map E3 (r174.1.ready j)))) ++ ([.d (.sl (List.map E62 r174.1.delays)), .d (D.i .i64 r174.1.run)] : List AV)), .row 63 [.d (D.i .i64 r168.2), .d (D.i .i64 r169.2), .d (D.i .i64 r170.2), .d (D.i .i64 r172.2), .d (D.i .i64 r173.2), .d (D.i .i64 r174.2), .d (D.i .i64 0), .d (D.i .i64 0)], .row 26 (vecA 32 (fun j => .d (.sl (List.map E3 (r177.1.ready j)))) ++ ([.d (.sl (List.map E62 r177.1.delays)), .d (D.i .i64 r177.1.run)] : List AV))]) rfl ?_
 refine WL.as rfl rfl ?_
 refine WL.ns ?_
 refine wc_sr ?_
 refine WL.qn (y_loadN rfl rfl a26 s26 rfl) rfl ?_
 obtain ⟨r178, hr178, h⟩ := bindS h
 refine WL.fn rfl rfl rfl rfl (f18_c _ _ hr178) ⟨(Le.agd ⟨(Le.refl _), (Le.refl _), (Le.refl _), (Le.refl _), (Le.refl _), (Le.refl _), (Le.refl _), (Le.refl _), (Le.refl _), (Le.refl _), (Le.refl _), (Le.refl _), (Le.refl _), (Le.refl _), (Le.refl _), (Le.refl _), (Le.refl _), (Le.refl _), (Le.refl _), (Le.refl _), (Le.refl _), (Le.refl _), (Le.refl _), (Le.refl _), (Le.refl _), (Le.refl _), (Le.refl _), (Le.refl _), (Le.refl _), (Le.refl _), (Le.refl _), (Le.refl _), (Le.refl _), (Le.refl _), trivial⟩), (Le.refl _), trivial⟩ (Wt.none rfl) rfl rfl ?_
 refine WL.mv rfl rfl ?_
 refine WL.qn (y_extractd rfl rfl) rfl ?_
 refine WL.qn (y_extractd rfl rfl) rfl ?_
 refine WL.s ((b_alloc z26).does) (Wt.none rfl) rfl rfl ?_
 refine WL.s0 (d_store rfl rfl rfl rfl rfl rfl s26 rfl rfl) (Wt.none rfl) rfl ?_
 refine WL.st (st' := [.row 26 (vecA 32 (fun j => .d (.sl (List.map E3 (r174.1.ready j)))) ++ ([.d (.sl (List.map E62 r174.1.delays)), .d (D.i .i64 r174.1.run)] : List AV)), .row 63 [.d (D.i .i64 r168.2), .d (D.i .i64 r169.2), .d (D.i .i64 r170.2), .d (D.i .i64 r172.2), .d (D.i .i64 r173.2), .d (D.i .i64 r174.2), .d (D.i .i64 0), .d (D.i .i64 0)], .row 26 (vecA 32 (fun j => .d (.sl (List.map E3 (r177.1.ready j)))) ++ ([.d (.sl (List.map E62 r177.1.delays)), .d (D.i .i64 r177.1.run)] : List AV)), .row 26 (vecA 32 (fun j => .d (.sl (List.map E3 (r178.1.ready j)))) ++ ([.d (.sl (List.map E62 r178.1.delays)), .d (D.i .i64 r178.1.run)] : List AV))]) rfl ?_
 refine WL.as rfl rfl ?_
 refine WL.ns ?_
 refine wc_sr ?_
 refine WL.qn (y_loadN rfl rfl a26 s26 rfl) rfl ?_
 obtain ⟨r179, hr179, h⟩ := bindS h
 refine WL.fn rfl rfl rfl rfl (f17_c _ _ _ hr179) ⟨(Le.agd ⟨(Le.refl _), (Le.refl _), (Le.refl _), (Le.refl _), (Le.refl _), (Le.refl _), (Le.refl _), (Le.refl _), (Le.refl _), (Le.refl _), (Le.refl _), (Le.refl _), (Le.refl _), (Le.refl _), (Le.refl _), (Le.refl _), (Le.refl _), (Le.refl _), (Le.refl _), (Le.refl _), (Le.refl _), (Le.refl _), (Le.refl _), (Le.refl _), (Le.refl _), (Le.refl _), (Le.refl _), (Le.refl _), (Le.refl _), (Le.refl _), (Le.refl _), (Le.refl _), (Le.refl _), (Le.refl _), trivial⟩), (Le.refl _), (Le.refl _), trivial⟩ (Wt.none rfl) rfl rfl ?_
 refine WL.mv rfl rfl ?_
 refine WL.qn (y_extractd rfl rfl) rfl ?_
 refine WL.qn (y_extractd rfl rfl) rfl ?_
 refine WL.s0 (d_store rfl rfl rfl rfl rfl rfl s26 rfl rfl) (Wt.none rfl) rfl ?_
 refine WL.st (st' := [.row 26 (vecA 32 (fun j => .d (.sl (List.map E3 (r179.1.ready j)))) ++ ([.d (.sl (List.map E62 r179.1.delays)), .d (D.i .i64 r179.1.run)] : List AV)), .row 63 [.d (D.i .i64 r168.2), .d (D.i .i64 r169.2), .d (D.i .i64 r170.2), .d (D.i .i64 r172.2), .d (D.i .i64 r173.2), .d (D.i .i64 r174.2), .d (D.i .i64 0), .d (D.i .i64 0)], .row 26 (vecA 32 (fun j => .d (.sl (List.map E3 (r177.1.ready j)))) ++ ([.d (.sl (List.map E62 r177.1.delays)), .d (D.i .i64 r177.1.run)] : List AV)), .row 26 (vecA 32 (fun j => .d (.sl (List.map E3 (r178.1.ready j)))) ++ ([.d (.sl (List.map E62 r178.1.delays)), .d (D.i .i64 r178.1.run)] : List AV))]) rfl ?_
 refine WL.qn (y_indexAddra ar63 rfl rfl (by decide) (by decide)) rfl ?_
 refine WL.s0 (d_store rfl rfl rfl rfl rfl rfl s29 rfl rfl) (Wt.none rfl) rfl ?_
 refine WL.st (st' := [.row 26 (vecA 32 (fun j => .d (.sl (List.map E3 (r179.1.ready j)))) ++ ([.d (.sl (List.map E62 r179.1.delays)), .d (D.i .i64 r179.1.run)] : List AV)), .row 63 [.d (D.i .i64 r168.2), .d (D.i .i64 r169.2), .d (D.i .i64 r170.2), .d (D.i .i64 r172.2), .d (D.i .i64 r173.2), .d (D.i .i64 r174.2), .d (D.i .i64 r179.2), .d (D.i .i64 0)], .row 26 (vecA 32 (fun j => .d (.sl (List.map E3 (r177.1.ready j)))) ++ ([.d (.sl (List.map E62 r177.1.delays)), .d (D.i .i64 r177.1.run)] : List AV)), .row 26 (vecA 32 (fun j => .d (.sl (List.map E3 (r178.1.ready j)))) ++ ([.d (.sl (List.map E62 r178.1.delays)), .d (D.i .i64 r178.1.run)] : List AV))]) rfl ?_
 refine WL.ns ?_
 refine wc_sr ?_
 refine WL.qn (y_loadN rfl rfl a26 s26 rfl) rfl ?_
 obtain ⟨r180, hr180, h⟩ := bindS h
 refine WL.fn rfl rfl rfl rfl (f17_c _ _ _ hr180) ⟨(Le.agd ⟨(Le.refl _), (Le.refl _), (Le.refl _), (Le.refl _), (Le.refl _), (Le.refl _), (Le.refl _), (Le.refl _), (Le.refl _), (Le.refl _), (Le.refl _), (Le.refl _), (Le.refl _), (Le.refl _), (Le.refl _), (Le.refl _), (Le.refl _), (Le.refl _), (Le.refl _), (Le.refl _), (Le.refl _), (Le.refl _), (Le.refl _), (Le.refl _), (Le.refl _), (Le.refl _), (Le.refl _), (Le.refl _), (Le.refl _), (Le.refl _), (Le.refl _), (Le.refl _), (Le.refl _), (Le.refl _), trivial⟩), (Le.refl _), (Le.refl _), trivial⟩ (Wt.none rfl) rfl rfl ?_
 refine WL.mv rfl rfl ?_
 refine WL.qn (y_extractd rfl rfl) rfl ?_
 refine WL.qn (y_extractd rfl rfl) rfl ?_
 refine WL.s0 (d_store rfl rfl rfl rfl rfl rfl s26 rfl rfl) (Wt.none rfl) rfl ?_
 refine WL.st (st' := [.row 26 (vecA 32 (fun j => .d (.sl (List.map E3 (r180.1.ready j)))) ++ ([.d (.sl (List.map E62 r180.1.delays)), .d (D.i .i64 r180.1.run)] : List AV)), .row 63 [.d (D.i .i64 r168.2), .d (D.i .i64 r169.2), .d (D.i .i64 r170.2), .d (D.i .i64 r172.2), .d (D.i .i64 r173.2), .d (D.i .i64 r174.2), .d (D.i .i64 r179.2), .d (D.i .i64 0)], .row 26 (vecA 32 (fun j => .d (.sl (List.map E3 (r177.1.ready j)))) ++ ([.d (.sl (List.map E62 r177.1.delays)), .d (D.i .i64 r177.1.run)] : List AV)), .row 26 (vecA 32 (fun j => .d (.sl (List.map E3 (r178.1.ready j)))) ++ ([.d (.sl (List.map E62 r178.1.delays)), .d (D.i .i64 r178.1.run)] : List AV))]) rfl ?_
 refine WL.qn (y_indexAddra ar63 rfl rfl (by decide) (by decide)) rfl ?_
 refine WL.s0 (d_store rfl rfl rfl rfl rfl rfl s29 rfl rfl) (Wt.none rfl) rfl ?_
 refine WL.st (st' := [.row 26 (vecA 32 (fun j => .d (.sl (List.map E3 (r180.1.ready j)))) ++ ([.d (.sl (List.map E62 r180.1.delays)), .d (D.i .i64 r180.1.run)] : List AV)), .row 63 [.d (D.i .i64 r168.2), .d (D.i .i64 r169.2), .d (D.i .i64 r170.2), .d (D.i .i64 r172.2), .d (D.i .i64 r173.2), .d (D.i .i64 r174.2), .d (D.i .i64 r179.2), .d (D.i .i64 r180.2)], .row 26 (vecA 32 (fun j => .d (.sl (List.map E3 (r177.1.ready j)))) ++ ([.d (.sl (List.map E62 r177.1.delays)), .d (D.i .i64 r177.1.run)] : List AV)), .row 26 (vecA 32 (fun j => .d (.sl (List.map E3 (r178.1.ready j)))) ++ ([.d (.sl (List.map E62 r178.1.delays)), .d (D.i .i64 r178.1.run)] : List AV))]) rfl ?_
 refine WL.ns ?_
 refine wc_sr ?_
 refine WL.qn (y_loadN rfl rfl a26 s26 rfl) rfl ?_
 obtain ⟨r181, hr181, h⟩ := bindS h
 refine WL.fn rfl rfl rfl rfl (f20_c _ hr181) ⟨(Le.agd ⟨(Le.refl _), (Le.refl _), (Le.refl _), (Le.refl _), (Le.refl _), (Le.refl _), (Le.refl _), (Le.refl _), (Le.refl _), (Le.refl _), (Le.refl _), (Le.refl _), (Le.refl _), (Le.refl _), (Le.refl _), (Le.refl _), (Le.refl _), (Le.refl _), (Le.refl _), (Le.refl _), (Le.refl _), (Le.refl _), (Le.refl _), (Le.refl _), (Le.refl _), (Le.refl _), (Le.refl _), (Le.refl _), (Le.refl _), (Le.refl _), (Le.refl _), (Le.refl _), (Le.refl _), (Le.refl _), trivial⟩), trivial⟩ (Wt.none rfl) rfl rfl ?_
 refine WL.mv rfl rfl ?_
 refine WL.qn (y_extractd rfl rfl) rfl ?_
 refine WL.qn (y_extractd rfl rfl) rfl ?_
 refine WL.as rfl rfl ?_
 refine WL.as rfl rfl ?_
 refine WL.ns ?_
 refine wc_sr ?_
 refine WL.qn (y_loadN rfl rfl a26 s26 rfl) rfl ?_
 obtain ⟨r182, hr182, h⟩ := bindS h
 refine WL.fn rfl rfl rfl rfl (f19_c _ _ hr182) ⟨(Le.agd ⟨(Le.refl _), (Le.refl _), (Le.refl _), (Le.refl _), (Le.refl _), (Le.refl _), (Le.refl _), (Le.refl _), (Le.refl _), (Le.refl _), (Le.refl _), (Le.refl _), (Le.refl _), (Le.refl _), (Le.refl _), (Le.refl _), (Le.refl _), (Le.refl _), (Le.refl _), (Le.refl _), (Le.refl _), (Le.refl _), (Le.refl _), (Le.refl _), (Le.refl _), (Le.refl _), (Le.refl _), (Le.refl _), (Le.refl _), (Le.refl _), (Le.refl _), (Le.refl _), (Le.refl _), (Le.refl _), trivial⟩), (Le.refl _), trivial⟩ (Wt.none rfl) rfl rfl ?_
 refine WL.mv rfl rfl ?_
 refine WL.qn (y_extractd rfl rfl) rfl ?_
 refine WL.qn (y_extractd rfl rfl) rfl ?_
 refine WL.qn (y_extractd rfl rfl) rfl ?_
 refine WL.s0 (d_store rfl rfl rfl rfl rfl rfl s26 rfl rfl) (Wt.none rfl) rfl ?_
 refine WL.st (st' := [.row 26 (vecA 32 (fun j => .d (.sl (List.map E3 (r182.1.ready j)))) ++ ([.d (.sl (List.map E62 r182.1.delays)), .d (D.i .i64 r182.1.run)] : List AV)), .row 63 [.d (D.i .i64 r168.2), .d (D.i .i64 r169.2), .d (D.i .i64 r170.2), .d (D.i .i64 r172.2), .d (D.i .i64 r173.2), .d (D.i .i64 r174.2), .d (D.i .i64 r179.2), .d (D.i .i64 r180.2)], .row 26 (vecA 32 (fun j => .d (.sl (List.map E3 (r177.1.ready j)))) ++ ([.d (.sl (List.map E62 r177.1.delays)), .d (D.i .i64 r177.1.run)] : List AV)), .row 26 (vecA 32 (fun j => .d (.sl (List.map E3 (r178.1.ready j)))) ++ ([.d (.sl (List.map E62 r178.1.delays)), .d (D.i .i64 r178.1.run)] : List AV))]) rfl ?_
 refine WL.as rfl rfl ?_
 refine WL.as rfl rfl ?_
 refine WL.ns ?_
 refine wc_sr ?_
 refine WL.mv rfl rfl ?_
 refine WL.mv rfl rfl ?_
 apply WL.and 2 (t := 114) (d := 116)
 ·exact rfl
 ·intro hg114
  refine WL.qy (y_move rfl) rfl rfl rfl ?_
  refine WL.qn (y_pick_t rfl rfl) rfl ?_
  exact WL.nil ⟨rfl, [_, _], rfl, rfl, rfl⟩
 ·refine WL.skips 1 rfl ?_
  refine WL.qn (y_pick_f rfl rfl) rfl ?_
  exact WL.nil ⟨rfl, [_, _], rfl, rfl, rfl⟩
 refine WL.mv rfl rfl ?_
 apply WL.and 3 (t := 117) (d := 120)
 ·exact rfl
 ·intro hg117
  refine WL.qy (y_move rfl) rfl rfl rfl ?_
  refine WL.qy (y_eql rfl rfl) rfl rfl rfl ?_
  refine WL.qn (y_pick_t rfl rfl) rfl ?_
  exact WL.nil ⟨rfl, [_, _, _], rfl, rfl, rfl⟩
 ·refine WL.skips 2 rfl ?_
  refine WL.qn (y_pick_f rfl rfl) rfl ?_
  exact WL.nil ⟨rfl, [_, _, _], rfl, rfl, rfl⟩
 refine WL.mv rfl rfl ?_
 apply WL.and 3 (t := 121) (d := 124)
 ·exact rfl
 ·intro hg121
  refine WL.qy (y_move rfl) rfl rfl rfl ?_
  refine WL.qy (y_eql rfl rfl) rfl rfl rfl ?_
  refine WL.qn (y_pick_t rfl rfl) rfl ?_
  exact WL.nil ⟨rfl, [_, _, _], rfl, rfl, rfl⟩
 ·refine WL.skips 2 rfl ?_
  refine WL.qn (y_pick_f rfl rfl) rfl ?_
  exact WL.nil ⟨rfl, [_, _, _], rfl, rfl, rfl⟩
 refine WL.mv rfl rfl ?_
 apply WL.and 2 (t := 125) (d := 127)
 ·exact rfl
 ·intro hg125
  refine WL.qy (y_move rfl) rfl rfl rfl ?_
  refine WL.qn (y_pick_t rfl rfl) rfl ?_
  exact WL.nil ⟨rfl, [_, _], rfl, rfl, rfl⟩
 ·refine WL.skips 1 rfl ?_
  refine WL.qn (y_pick_f rfl rfl) rfl ?_
  exact WL.nil ⟨rfl, [_, _], rfl, rfl, rfl⟩
 refine WL.mv rfl rfl ?_
 apply WL.and 4 (t := 128) (d := 132)
 ·exact rfl
 ·intro hg128
  refine WL.qy (y_loadN rfl rfl a63 s63 rfl) rfl rfl rfl ?_
  refine WL.qy (y_buildA ar63 z63 rfl rfl) rfl rfl rfl ?_
  refine WL.qy (y_eqarr [r168.2, r169.2, r170.2, r172.2, r173.2, r174.2, r179.2, r180.2] [0, 0, 0, 0, 0, 0, 0, 0] (b := ((decide (r168.2 = 0)) && ((decide (r169.2 = 0)) && ((decide (r170.2 = 0)) && ((decide (r172.2 = 0)) && ((decide (r173.2 = 0)) && ((decide (r174.2 = 0)) && ((decide (r179.2 = 0)) && ((decide (r180.2 = 0)) && true))))))))) Try.underlying63 Try.underlying29 s29 (by kernel_rfl) rfl (Le.refl _) rfl (Le.refl _) rfl rfl rfl) rfl rfl rfl ?_
  refine WL.qn (y_pick_t rfl rfl) rfl ?_
  exact WL.nil ⟨rfl, [_, _, _, _], rfl, rfl, rfl⟩
 ·refine WL.skips 3 rfl ?_
  refine WL.qn (y_pick_f rfl rfl) rfl ?_
  exact WL.nil ⟨rfl, [_, _, _, _], rfl, rfl, rfl⟩
 refine WL.mv rfl rfl ?_
 apply WL.and 3 (t := 133) (d := 136)
 ·exact rfl
 ·intro hg133
  refine WL.qy (y_move rfl) rfl rfl rfl ?_
  refine WL.qy (y_eql rfl rfl) rfl rfl rfl ?_
  refine WL.qn (y_pick_t rfl rfl) rfl ?_
  exact WL.nil ⟨rfl, [_, _, _], rfl, rfl, rfl⟩
 ·refine WL.skips 2 rfl ?_
  refine WL.qn (y_pick_f rfl rfl) rfl ?_
  exact WL.nil ⟨rfl, [_, _, _], rfl, rfl, rfl⟩
 refine WL.mv rfl rfl ?_
 apply WL.and 3 (t := 137) (d := 140)
 ·exact rfl
 ·intro hg137
  refine WL.qy (y_move rfl) rfl rfl rfl ?_
  refine WL.qy (y_eql rfl rfl) rfl rfl rfl ?_
  refine WL.qn (y_pick_t rfl rfl) rfl ?_
  exact WL.nil ⟨rfl, [_, _, _], rfl, rfl, rfl⟩
 ·refine WL.skips 2 rfl ?_
  refine WL.qn (y_pick_f rfl rfl) rfl ?_
  exact WL.nil ⟨rfl, [_, _, _], rfl, rfl, rfl⟩
 refine WL.mv rfl rfl ?_
 apply WL.and 3 (t := 141) (d := 144)
 ·exact rfl
 ·intro hg141
  refine WL.qy (y_move rfl) rfl rfl rfl ?_
  refine WL.qy (y_eql rfl rfl) rfl rfl rfl ?_
  refine WL.qn (y_pick_t rfl rfl) rfl ?_
  exact WL.nil ⟨rfl, [_, _, _], rfl, rfl, rfl⟩
 ·refine WL.skips 2 rfl ?_
  refine WL.qn (y_pick_f rfl rfl) rfl ?_
  exact WL.nil ⟨rfl, [_, _, _], rfl, rfl, rfl⟩
 refine WL.mv rfl rfl ?_
 apply WL.and 2 (t := 145) (d := 147)
 ·exact rfl
 ·intro hg145
  refine WL.qy (y_move rfl) rfl rfl rfl ?_
  refine WL.qn (y_pick_t rfl rfl) rfl ?_
  exact WL.nil ⟨rfl, [_, _], rfl, rfl, rfl⟩
 ·refine WL.skips 1 rfl ?_
  refine WL.qn (y_pick_f rfl rfl) rfl ?_
  exact WL.nil ⟨rfl, [_, _], rfl, rfl, rfl⟩
 refine WL.mv rfl rfl ?_
 apply WL.and 3 (t := 148) (d := 151)
 ·exact rfl
 ·intro hg148
  refine WL.qy (y_move rfl) rfl rfl rfl ?_
  refine WL.qy (y_eql rfl rfl) rfl rfl rfl ?_
  refine WL.qn (y_pick_t rfl rfl) rfl ?_
  exact WL.nil ⟨rfl, [_, _, _], rfl, rfl, rfl⟩
 ·refine WL.skips 2 rfl ?_
  refine WL.qn (y_pick_f rfl rfl) rfl ?_
  exact WL.nil ⟨rfl, [_, _, _], rfl, rfl, rfl⟩
 refine WL.mv rfl rfl ?_
 obtain ⟨b183, hb183, h⟩ := bindS h
 apply WL.grp 4 (t := 152) (d := 156) (z := b183)
 ·exact rfl
 ·intro hg152
  have h := condT hb183 hg152
  refine WL.qy (y_move rfl) rfl rfl rfl ?_
  refine WL.s ((NewOs.data (n_buildSlice l22 z3 rfl (by decide) (by decide) rfl rfl rfl (by decide)) (by exact encA_map E3_eq [2, 1])).does) (Wt.yes rfl rfl rfl) rfl rfl ?_
  obtain ⟨r184, hr184, h⟩ := bindS h
  refine WL.fn rfl rfl rfl rfl (f31_c _ _ hr184) ⟨(Le.refl _), (Le.refl _), trivial⟩ (Wt.yes rfl rfl rfl) rfl rfl ?_
  refine WL.qn (y_pick_t rfl rfl) rfl ?_
  obtain rfl := Option.some.inj h
  exact WL.nil ⟨rfl, [_, _, _, _], rfl, rfl, rfl⟩
 ·intro hg152
  have h := condF hb183 hg152
  refine WL.skips 3 rfl ?_
  refine WL.qn (y_pick_f rfl rfl) rfl ?_
  obtain rfl := Option.some.inj h
  exact WL.nil ⟨rfl, [_, _, _, _], rfl, rfl, rfl⟩
 refine WL.mv rfl rfl ?_
 apply WL.and 5 (t := 157) (d := 162)
 ·exact rfl
 ·intro hg157
  refine WL.qy (y_fieldAddr f26_1 rfl) rfl rfl rfl ?_
  refine WL.qy (y_load rfl rfl a24 rfl) rfl rfl rfl ?_
  refine WL.qy (y_len_map E62 r182.1.delays e24 rfl rfl (Le.refl _)) rfl rfl rfl ?_
  refine WL.qy (y_eql rfl rfl) rfl rfl rfl ?_
  refine WL.qn (y_pick_t rfl rfl) rfl ?_
  exact WL.nil ⟨rfl, [_, _, _, _, _], rfl, rfl, rfl⟩
 ·refine WL.skips 4 rfl ?_
  refine WL.qn (y_pick_f rfl rfl) rfl ?_
  exact WL.nil ⟨rfl, [_, _, _, _, _], rfl, rfl, rfl⟩
 refine WL.mv rfl rfl ?_
 obtain ⟨b185, hb185, h⟩ := bindS h
 apply WL.grp 3 (t := 163) (d := 166) (z := b185)
 ·exact rfl
 ·intro hg163
  have h := condT hb185 hg163
  refine WL.qy (y_loadN rfl rfl a26 s26 rfl) rfl rfl rfl ?_
  obtain ⟨r186, hr186, h⟩ := bindS h
  refine WL.fn rfl rfl rfl rfl (f10_c _ hr186) ⟨(Le.agd ⟨(Le.refl _), (Le.refl _), (Le.refl _), (Le.refl _), (Le.refl _), (Le.refl _), (Le.refl _), (Le.refl _), (Le.refl _), (Le.refl _), (Le.refl _), (Le.refl _), (Le.refl _), (Le.refl _), (Le.refl _), (Le.refl _), (Le.refl _), (Le.refl _), (Le.refl _), (Le.refl _), (Le.refl _), (Le.refl _), (Le.refl _), (Le.refl _), (Le.refl _), (Le.refl _), (Le.refl _), (Le.refl _), (Le.refl _), (Le.refl _), (Le.refl _), (Le.refl _), (Le.refl _), (Le.refl _), trivial⟩), trivial⟩ (Wt.yes rfl rfl rfl) rfl rfl ?_
  refine WL.qn (y_pick_t rfl rfl) rfl ?_
  obtain rfl := Option.some.inj h
  exact WL.nil ⟨rfl, [_, _, _], rfl, rfl, rfl⟩
 ·intro hg163
  have h := condF hb185 hg163
  refine WL.skips 2 rfl ?_
  refine WL.qn (y_pick_f rfl rfl) rfl ?_
  obtain rfl := Option.some.inj h
  exact WL.nil ⟨rfl, [_, _, _], rfl, rfl, rfl⟩
 refine WL.as rfl rfl ?_
 refine WL.ns ?_
 refine wc_ret ?_
 obtain rfl := Option.some.inj h
 exact we_ret_fn (rs1 rfl (rv_t rfl)) (Le.refl _)

theorem f13_c (q0 : Queues) (task1 : Int) {r : Int} (h : f13 q0 task1 = some r) : Pu Try.prog 13 [.ag (R26 q0), .i .i64 task1] (.i .i64 r) := by
 unfold f13 at h
 refine fn_intro Try.func13 (by kernel_rfl) rfl rfl rfl (fun φφ ww => ?_)
 refine wc_sr ?_
 refine WL.s ((b_boxd rfl rfl (Les.refl _)).does) (Wt.none rfl) rfl rfl ?_
 refine WL.as rfl rfl ?_
 refine WL.ns ?_
 replace h := letkS h
 obtain ⟨k33, hk33, h⟩ := h
 refine wc_cut (fun env' st' => k33 () = some r ∧ Sub [] env' ∧ SLe st' []) ?_ ?_
 ·refine wc_sr ?_
  refine WL.as rfl rfl ?_
  refine WL.ns ?_
  refine wc_block ?_
  refine wc_loop (fun n env' st' => ∃ (p35 : Int), f13_l1 q0 task1 k33 n p35 = some r ∧ Sub [(1, .d (D.i .i64 task1)), (2, .d (.pc (R26 q0))), (5, .d (D.i .i64 p35))] env' ∧ SLe st' []) (fun n => n) 9223372036854775808 ⟨0, h, (Sub.cons rfl (Le.refl _) (Sub.cons rfl (Le.refl _) (Sub.cons rfl (Le.refl _) (Sub.nil _)))), trivial⟩ ?_
  rintro n env1 st1 ⟨p35, h, hsub, hst⟩
  cases n with
  | zero => rw [f13_l1] at h; cases h
  | succ n =>
  rw [f13_l1] at h
  refine WC.sub hsub (WC.weak hst ?_)
  refine wc_seq ?_
  refine wc_sr ?_
  refine WL.mv rfl rfl ?_
  refine WL.qn (y_lss rfl rfl) rfl ?_
  refine WL.ns ?_
  refine wc_cond rfl (fun hc1 => ?_) (fun hc1 => ?_)
  ·replace h := condT h hc1
   refine wc_skip ?_
   refine we_seq ?_
   replace h := letkS h
   obtain ⟨k37, hk37, h⟩ := h
   refine wc_cut (fun env' st' => k37 () = some r ∧ Sub [(1, .d (D.i .i64 task1)), (2, .d (.pc (R26 q0))), (5, .d (D.i .i64 p35))] env' ∧ SLe st' []) ?_ ?_
   ·refine wc_block ?_
    refine wc_sr ?_
    refine WL.as rfl rfl ?_
    refine WL.ns ?_
    refine wc_block ?_
    refine wc_loop (fun na env' st' => ∃ (iq39 : Int), f13_l2 q0 task1 p35 k37 na iq39 = some r ∧ Sub [(1, .d (D.i .i64 task1)), (2, .d (.pc (R26 q0))), (5, .d (D.i .i64 p35)), (6, .d (D.i .i64 iq39))] env' ∧ SLe st' []) (fun n => n) 9223372036854775808 ⟨0, h, (Sub.cons rfl (Le.refl _) (Sub.cons rfl (Le.refl _) (Sub.cons rfl (Le.refl _) (Sub.cons rfl (Le.refl _) (Sub.nil _))))), trivial⟩ ?_
    rintro na env1 st1 ⟨iq39, h, hsub, hst⟩
    cases na with
    | zero => rw [f13_l2] at h; cases h
    | succ na =>
    rw [f13_l2] at h
    refine WC.sub hsub (WC.weak hst ?_)
    refine wc_seq ?_
    refine wc_sr ?_
    refine WL.mv rfl rfl ?_
    refine WL.mv rfl rfl ?_
    refine WL.qn (y_fieldAddrc f26_0 rfl) rfl ?_
    replace h := guardBS h
    obtain ⟨hgg41, h⟩ := h
    refine WL.qn (y_indexAddrVc (fun j => .sl (List.map E3 (q0.ready j))) ar23 rfl rfl rfl hgg41) rfl ?_
    refine WL.qn (y_loadc rfl a22 rfl) rfl ?_
    refine WL.qn (y_len_map E3 (q0.ready (Int.toNat p35)) e22 rfl rfl (Le.refl _)) rfl ?_
    refine WL.qn (y_lss rfl rfl) rfl ?_
    refine WL.ns ?_
    refine wc_cond rfl (fun hc2 => ?_) (fun hc2 => ?_)
    ·replace h := condT h hc2
     refine wc_skip ?_
     refine we_seq ?_
     refine wc_seq ?_
     refine wc_block ?_
     refine wc_sr ?_
     refine WL.mv rfl rfl ?_
     refine WL.qn (y_fieldAddrc f26_0 rfl) rfl ?_
     replace h := guardBS h
     obtain ⟨hgg42, h⟩ := h
     refine WL.qn (y_indexAddrVc (fun j => .sl (List.map E3 (q0.ready j))) ar23 rfl rfl rfl hgg42) rfl ?_
     refine WL.qn (y_loadc rfl a22 rfl) rfl ?_
     refine WL.mv rfl rfl ?_
     obtain ⟨x43, hx43, h⟩ := bindS h
     refine WL.qn (y_indexAddr e22 rfl (Le.refl _) rfl (idx_nonneg hx43) (idx_row E3_eq hx43) rfl) rfl ?_
     refine WL.qn (y_loadc rfl a3 rfl) rfl ?_
     refine WL.mv rfl rfl ?_
     refine WL.qn (y_eql rfl rfl) rfl ?_
     refine WL.ns ?_
     refine wc_cond rfl (fun hc3 => ?_) (fun hc3 => ?_)
     ·replace h := condT h hc3
      refine wc_sr ?_
      refine WL.mv rfl rfl ?_
      refine WL.as rfl rfl ?_
      refine WL.ns ?_
      refine wc_ret ?_
      refine we_blk_ret ?_
      refine we_seq_ret ?_
      refine we_lp_ret ?_
      refine we_blk_ret ?_
      refine we_blk_ret ?_
      refine we_lp_ret ?_
      refine we_lp_ret ?_
      refine we_blk_ret ?_
      refine we_lp_ret ?_
      obtain rfl := Option.some.inj h
      exact we_ret_fn (rs1 rfl (rv_t rfl)) (Le.refl _)
     ·replace h := condF h hc3
      refine wc_skip ?_
      refine we_blk ?_
      refine we_seq ?_
      refine wc_region ?_
      refine WL.mv rfl rfl ?_
      refine WL.qn (y_add rfl rfl rfl) rfl ?_
      refine WL.as rfl rfl ?_
      refine WL.nil ?_
      exact we_lp ⟨na, ⟨(IntKind.i64.wrap (iq39 + 1)), h, (Sub.cons rfl (Le.refl _) (Sub.cons rfl (Le.refl _) (Sub.cons rfl (Le.refl _) (Sub.cons rfl (Le.refl _) (Sub.nil _))))), trivial⟩, Nat.lt_succ_self na⟩
    ·replace h := condF h hc2
     refine wc_exit ?_
     refine we_seq_exit ?_
     refine we_lp_exit ?_
     refine we_blk_hit ?_
     refine we_blk ?_
     exact we_lp ⟨h, (Sub.cons rfl (Le.refl _) (Sub.cons rfl (Le.refl _) (Sub.cons rfl (Le.refl _) (Sub.nil _)))), trivial⟩
   ·rintro env1 st1 ⟨h, hsub, hst⟩
    subst hk37
    dsimp only at h
    refine WC.sub hsub (WC.weak hst ?_)
    refine wc_region ?_
    refine WL.mv rfl rfl ?_
    refine WL.qn (y_add rfl rfl rfl) rfl ?_
    refine WL.as rfl rfl ?_
    refine WL.nil ?_
    exact we_lp ⟨n, ⟨(IntKind.i64.wrap (p35 + 1)), h, (Sub.cons rfl (Le.refl _) (Sub.cons rfl (Le.refl _) (Sub.cons rfl (Le.refl _) (Sub.nil _)))), trivial⟩, Nat.lt_succ_self n⟩
  ·replace h := condF h hc1
   refine wc_exit ?_
   refine we_seq_exit ?_
   refine we_lp_exit ?_
   refine we_blk_hit ?_
   exact we_lp ⟨h, (Sub.nil _), trivial⟩
 ·rintro env1 st1 ⟨h, hsub, hst⟩
  subst hk33
  dsimp only at h
  refine WC.sub hsub (WC.weak hst ?_)
  refine wc_sr ?_
  refine WL.as rfl rfl ?_
  refine WL.ns ?_
  refine wc_ret ?_
  obtain rfl := Option.some.inj h
  exact we_ret_fn (rs1 rfl (rv_t rfl)) (Le.refl _)

theorem f15_c (a0 : Queues) (b1 : Queues) {r : Bool} (h : f15 a0 b1 = some r) : Pu Try.prog 15 [.ag (R26 a0), .ag (R26 b1)] (.b r) := by
 unfold f15 at h
 refine fn_intro Try.func15 (by kernel_rfl) rfl rfl rfl (fun φφ ww => ?_)
 refine wc_sr ?_
 refine WL.s ((b_boxd rfl rfl (Les.refl _)).does) (Wt.none rfl) rfl rfl ?_
 refine WL.s ((b_boxd rfl rfl (Les.refl _)).does) (Wt.none rfl) rfl rfl ?_
 refine WL.as rfl rfl ?_
 refine WL.ns ?_
 refine wc_seq ?_
 refine wc_sr ?_
 refine WL.qn (y_fieldAddrc f26_2 rfl) rfl ?_
 refine WL.qn (y_loadc rfl a3 rfl) rfl ?_
 refine WL.qn (y_fieldAddrc f26_2 rfl) rfl ?_
 refine WL.qn (y_loadc rfl a3 rfl) rfl ?_
 refine WL.qn (y_neq rfl rfl) rfl ?_
 refine WL.mv rfl rfl ?_
 apply WL.or 8 (t := 12) (d := 20)
 ·exact rfl
 ·intro hg12
  refine WL.qy (y_fieldAddrc f26_1 rfl) rfl rfl rfl ?_
  refine WL.qy (y_loadc rfl a24 rfl) rfl rfl rfl ?_
  refine WL.qy (y_len_map E62 a0.delays e24 rfl rfl (Le.refl _)) rfl rfl rfl ?_
  refine WL.qy (y_fieldAddrc f26_1 rfl) rfl rfl rfl ?_
  refine WL.qy (y_loadc rfl a24 rfl) rfl rfl rfl ?_
  refine WL.qy (y_len_map E62 b1.delays e24 rfl rfl (Le.refl _)) rfl rfl rfl ?_
  refine WL.qy (y_neq rfl rfl) rfl rfl rfl ?_
  refine WL.qn (y_pick_f rfl rfl) rfl ?_
  exact WL.nil ⟨rfl, [_, _, _, _, _, _, _, _], rfl, rfl, rfl⟩
 ·refine WL.skips 7 rfl ?_
  refine WL.qn (y_pick_t rfl rfl) rfl ?_
  exact WL.nil ⟨rfl, [_, _, _, _, _, _, _, _], rfl, rfl, rfl⟩
 refine WL.ns ?_
 refine wc_cond rfl (fun hc1 => ?_) (fun hc1 => ?_)
 ·replace h := condT h hc1
  refine wc_sr ?_
  refine WL.as rfl rfl ?_
  refine WL.ns ?_
  refine wc_ret ?_
  refine we_seq_ret ?_
  obtain rfl := Option.some.inj h
  exact we_ret_fn (rs1 rfl (rv_t rfl)) (Le.refl _)
 ·replace h := condF h hc1
  refine wc_skip ?_
  refine we_seq ?_
  replace h := letkS h
  obtain ⟨k56, hk56, h⟩ := h
  refine wc_cut (fun env' st' => k56 () = some r ∧ Sub [(2, .d (.pc (R26 a0))), (3, .d (.pc (R26 b1)))] env' ∧ SLe st' []) ?_ ?_
  ·refine wc_sr ?_
   refine WL.as rfl rfl ?_
   refine WL.ns ?_
   refine wc_block ?_
   refine wc_loop (fun n env' st' => ∃ (iq58 : Int), f15_l1 a0 b1 k56 n iq58 = some r ∧ Sub [(2, .d (.pc (R26 a0))), (3, .d (.pc (R26 b1))), (5, .d (D.i .i64 iq58))] env' ∧ SLe st' []) (fun n => n) 9223372036854775808 ⟨0, h, (Sub.cons rfl (Le.refl _) (Sub.cons rfl (Le.refl _) (Sub.cons rfl (Le.refl _) (Sub.nil _)))), trivial⟩ ?_
   rintro n env1 st1 ⟨iq58, h, hsub, hst⟩
   cases n with
   | zero => rw [f15_l1] at h; cases h
   | succ n =>
   rw [f15_l1] at h
   refine WC.sub hsub (WC.weak hst ?_)
   refine wc_seq ?_
   refine wc_sr ?_
   refine WL.mv rfl rfl ?_
   refine WL.qn (y_fieldAddrc f26_1 rfl) rfl ?_
   refine WL.qn (y_loadc rfl a24 rfl) rfl ?_
   refine WL.qn (y_len_map E62 a0.delays e24 rfl rfl (Le.refl _)) rfl ?_
   refine WL.qn (y_lss rfl rfl) rfl ?_
   refine WL.ns ?_
   refine wc_cond rfl (fun hc2 => ?_) (fun hc2 => ?_)
   ·replace h := condT h hc2
    refine wc_skip ?_
    refine we_seq ?_
    refine wc_seq ?_
    refine wc_block ?_
    refine wc_seq ?_
    refine wc_region_draw (by kernel_rfl) (by kernel_rfl) ?_
    refine WQ.qn (y_fieldAddrc f26_1 rfl) rfl ?_
    refine WQ.qn (y_loadc rfl a24 rfl) rfl ?_
    refine WQ.qn (y_move rfl) rfl ?_
    obtain ⟨x60, hx60, h⟩ := bindS h
    refine WQ.qn (y_indexAddr e24 rfl (Le.refl _) rfl (idx_nonneg hx60) (idx_row E62_eq hx60) rfl) rfl ?_
    refine WQ.qn (y_loadcN rfl a62 s62 rfl) rfl ?_
    refine WQ.qn (y_fieldAddrc f26_1 rfl) rfl ?_
    refine WQ.qn (y_loadc rfl a24 rfl) rfl ?_
    refine WQ.qn (y_move rfl) rfl ?_
    obtain ⟨x61, hx61, h⟩ := bindS h
    refine WQ.qn (y_indexAddr e24 rfl (Le.refl _) rfl (idx_nonneg hx61) (idx_row E62_eq hx61) rfl) rfl ?_
    refine WQ.qn (y_loadcN rfl a62 s62 rfl) rfl ?_
    refine WQ.qn (y_nest (xs := [.int .i64 x60.time, .int .i64 x60.task]) (ys := [.int .i64 x61.time, .int .i64 x61.task]) (b := ((decide (x60.time = x61.time)) && ((decide (x60.task = x61.task)) && true))) q62 rfl (Le.refl _) rfl (Le.refl _) rfl rfl rfl) rfl ?_
    refine WQ.nil ?_
    refine we_seq ?_
    refine wc_cond rfl (fun hc3 => ?_) (fun hc3 => ?_)
    ·replace h := condT h hc3
     refine wc_sr ?_
     refine WL.as rfl rfl ?_
     refine WL.ns ?_
     refine wc_ret ?_
     refine we_blk_ret ?_
     refine we_seq_ret ?_
     refine we_lp_ret ?_
     refine we_blk_ret ?_
     refine we_lp_ret ?_
     obtain rfl := Option.some.inj h
     exact we_ret_fn (rs1 rfl (rv_t rfl)) (Le.refl _)
    ·replace h := condF h hc3
     refine wc_skip ?_
     refine we_blk ?_
     refine we_seq ?_
     refine wc_region ?_
     refine WL.mv rfl rfl ?_
     refine WL.qn (y_add rfl rfl rfl) rfl ?_
     refine WL.as rfl rfl ?_
     refine WL.nil ?_
     exact we_lp ⟨n, ⟨(IntKind.i64.wrap (iq58 + 1)), h, (Sub.cons rfl (Le.refl _) (Sub.cons rfl (Le.refl _) (Sub.cons rfl (Le.refl _) (Sub.nil _)))), trivial⟩, Nat.lt_succ_self n⟩
   ·replace h := condF h hc2
    refine wc_exit ?_
    refine we_seq_exit ?_
    refine we_lp_exit ?_
    refine we_blk_hit ?_
    exact we_lp ⟨h, (Sub.cons rfl (Le.refl _) (Sub.cons rfl (Le.refl _) (Sub.nil _))), trivial⟩
  ·rintro env1 st1 ⟨h, hsub, hst⟩
   subst hk56
   dsimp only at h
   refine WC.sub hsub (WC.weak hst ?_)
   replace h := letkS h
   obtain ⟨k62, hk62, h⟩ := h
   refine wc_cut (fun env' st' => k62 () = some r ∧ Sub [] env' ∧ SLe st' []) ?_ ?_
   ·refine wc_sr ?_
    refine WL.as rfl rfl ?_
    refine WL.ns ?_
    refine wc_block ?_
    refine wc_loop (fun n env' st' => ∃ (p64 : Int), f15_l2 a0 b1 k62 n p64 = some r ∧ Sub [(2, .d (.pc (R26 a0))), (3, .d (.pc (R26 b1))), (6, .d (D.i .i64 p64))] env' ∧ SLe st' []) (fun n => n) 9223372036854775808 ⟨0, h, (Sub.cons rfl (Le.refl _) (Sub.cons rfl (Le.refl _) (Sub.cons rfl (Le.refl _) (Sub.nil _)))), trivial⟩ ?_
    rintro n env1 st1 ⟨p64, h, hsub, hst⟩
    cases n with
    | zero => rw [f15_l2] at h; cases h
    | succ n =>
    rw [f15_l2] at h
    refine WC.sub hsub (WC.weak hst ?_)
    refine wc_seq ?_
    refine wc_sr ?_
    refine WL.mv rfl rfl ?_
    refine WL.qn (y_lss rfl rfl) rfl ?_
    refine WL.ns ?_
    refine wc_cond rfl (fun hc4 => ?_) (fun hc4 => ?_)
    ·replace h := condT h hc4
     refine wc_skip ?_
     refine we_seq ?_
     refine wc_seq ?_
     refine wc_block ?_
     refine wc_seq ?_
     refine wc_region_draw (by kernel_rfl) (by kernel_rfl) ?_
     refine WQ.qn (y_move rfl) rfl ?_
     refine WQ.qn (y_fieldAddrc f26_0 rfl) rfl ?_
     replace h := guardBS h
     obtain ⟨hgg66, h⟩ := h
     refine WQ.qn (y_indexAddrVc (fun j => .sl (List.map E3 (a0.ready j))) ar23 rfl rfl rfl hgg66) rfl ?_
     refine WQ.qn (y_loadc rfl a22 rfl) rfl ?_
     refine WQ.qn (y_move rfl) rfl ?_
     refine WQ.qn (y_fieldAddrc f26_0 rfl) rfl ?_
     replace h := guardBS h
     obtain ⟨hgg67, h⟩ := h
     refine WQ.qn (y_indexAddrVc (fun j => .sl (List.map E3 (b1.ready j))) ar23 rfl rfl rfl hgg67) rfl ?_
     refine WQ.qn (y_loadc rfl a22 rfl) rfl ?_
     obtain ⟨r68, hr68, h⟩ := bindS h
     refine WQ.q (YieldsQ.fn rfl rfl rfl rfl rfl (f31_c _ _ hr68) ⟨(Le.refl _), (Le.refl _), trivial⟩) (Wt.none rfl) rfl rfl ?_
     refine WQ.qn (y_not rfl) rfl ?_
     refine WQ.nil ?_
     refine we_seq ?_
     refine wc_cond rfl (fun hc5 => ?_) (fun hc5 => ?_)
     ·replace h := condT h hc5
      refine wc_sr ?_
      refine WL.as rfl rfl ?_
      refine WL.ns ?_
      refine wc_ret ?_
      refine we_blk_ret ?_
      refine we_seq_ret ?_
      refine we_lp_ret ?_
      refine we_blk_ret ?_
      refine we_lp_ret ?_
      obtain rfl := Option.some.inj h
      exact we_ret_fn (rs1 rfl (rv_t rfl)) (Le.refl _)
     ·replace h := condF h hc5
      refine wc_skip ?_
      refine we_blk ?_
      refine we_seq ?_
      refine wc_region ?_
      refine WL.mv rfl rfl ?_
      refine WL.qn (y_add rfl rfl rfl) rfl ?_
      refine WL.as rfl rfl ?_
      refine WL.nil ?_
      exact we_lp ⟨n, ⟨(IntKind.i64.wrap (p64 + 1)), h, (Sub.cons rfl (Le.refl _) (Sub.cons rfl (Le.refl _) (Sub.cons rfl (Le.refl _) (Sub.nil _)))), trivial⟩, Nat.lt_succ_self n⟩
    ·replace h := condF h hc4
     refine wc_exit ?_
     refine we_seq_exit ?_
     refine we_lp_exit ?_
     refine we_blk_hit ?_
     exact we_lp ⟨h, (Sub.nil _), trivial⟩
   ·rintro env1 st1 ⟨h, hsub, hst⟩
    subst hk62
    dsimp only at h
    refine WC.sub hsub (WC.weak hst ?_)
    refine wc_sr ?_
    refine WL.as rfl rfl ?_
    refine WL.ns ?_
    refine wc_ret ?_
    obtain rfl := Option.some.inj h
    exact we_ret_fn (rs1 rfl (rv_t rfl)) (Le.refl _)

theorem f3_c (q0 : Queues) (prio1 : Int) {r : Bool} (h : f3 q0 prio1 = some r) : Pu Try.prog 3 [.ag (R26 q0), .i .i64 prio1] (.b r) := by
 unfold f3 at h
 refine fn_intro Try.func3 (by kernel_rfl) rfl rfl rfl (fun φφ ww => ?_)
 refine wc_sr ?_
 refine WL.s ((b_boxd rfl rfl (Les.refl _)).does) (Wt.none rfl) rfl rfl ?_
 refine WL.as rfl rfl ?_
 refine WL.ns ?_
 refine wc_seq ?_
 refine wc_sr ?_
 refine WL.qn (y_loadcN rfl a26 s26 rfl) rfl ?_
 obtain ⟨r123, hr123, h⟩ := bindS h
 refine WL.fn rfl rfl rfl rfl (f9_c _ hr123) ⟨(Le.refl _), trivial⟩ (Wt.none rfl) rfl rfl ?_
 refine WL.mv rfl rfl ?_
 obtain ⟨b124, hb124, h⟩ := bindS h
 apply WL.grp 4 (t := 15) (d := 19) (z := b124)
 ·exact rfl
 ·intro hg15
  have h := condT hb124 hg15
  refine WL.skips 3 rfl ?_
  refine WL.qn (y_pick_t rfl rfl) rfl ?_
  obtain rfl := Option.some.inj h
  exact WL.nil ⟨rfl, [_, _, _, _], rfl, rfl, rfl⟩
 ·intro hg15
  have h := condF hb124 hg15
  refine WL.qy (y_loadcN rfl a26 s26 rfl) rfl rfl rfl ?_
  obtain ⟨r125, hr125, h⟩ := bindS h
  refine WL.fn rfl rfl rfl rfl (f10_c _ hr125) ⟨(Le.refl _), trivial⟩ (Wt.yes rfl rfl rfl) rfl rfl ?_
  refine WL.qy (y_not rfl) rfl rfl rfl ?_
  refine WL.qn (y_pick_f rfl rfl) rfl ?_
  obtain rfl := Option.some.inj h
  exact WL.nil ⟨rfl, [_, _, _, _], rfl, rfl, rfl⟩
 refine WL.mv rfl rfl ?_
 apply WL.or 3 (t := 20) (d := 23)
 ·exact rfl
 ·intro hg20
  refine WL.qy (y_move rfl) rfl rfl rfl ?_
  refine WL.qy (y_lss rfl rfl) rfl rfl rfl ?_
  refine WL.qn (y_pick_f rfl rfl) rfl ?_
  exact WL.nil ⟨rfl, [_, _, _], rfl, rfl, rfl⟩
 ·refine WL.skips 2 rfl ?_
  refine WL.qn (y_pick_t rfl rfl) rfl ?_
  exact WL.nil ⟨rfl, [_, _, _], rfl, rfl, rfl⟩
 refine WL.mv rfl rfl ?_
 apply WL.or 3 (t := 24) (d := 27)
 ·exact rfl
 ·intro hg24
  refine WL.qy (y_move rfl) rfl rfl rfl ?_
  refine WL.qy (y_gtr rfl rfl) rfl rfl rfl ?_
  refine WL.qn (y_pick_f rfl rfl) rfl ?_
  exact WL.nil ⟨rfl, [_, _, _], rfl, rfl, rfl⟩
 ·refine WL.skips 2 rfl ?_
  refine WL.qn (y_pick_t rfl rfl) rfl ?_
  exact WL.nil ⟨rfl, [_, _, _], rfl, rfl, rfl⟩
 refine WL.ns ?_
 refine wc_cond rfl (fun hc1 => ?_) (fun hc1 => ?_)
 ·replace h := condT h hc1
  refine wc_sr ?_
  obtain ⟨r126, hr126, h⟩ := bindS h
  refine WL.fn rfl rfl rfl rfl (f11_c hr126) trivial (Wt.none rfl) rfl rfl ?_
  refine WL.as rfl rfl ?_
  refine WL.ns ?_
  refine wc_ret ?_
  refine we_seq_ret ?_
  obtain rfl := Option.some.inj h
  exact we_ret_fn (rs1 rfl (rv_t rfl)) (Le.refl _)
 ·replace h := condF h hc1
  refine wc_skip ?_
  refine we_seq ?_
  refine wc_sr ?_
  refine WL.qn (y_loadcN rfl a26 s26 rfl) rfl ?_
  refine WL.mv rfl rfl ?_
  obtain ⟨r127, hr127, h⟩ := bindS h
  refine WL.fn rfl rfl rfl rfl (f12_c _ _ hr127) ⟨(Le.refl _), (Le.refl _), trivial⟩ (Wt.none rfl) rfl rfl ?_
  refine WL.mv rfl rfl ?_
  refine WL.qn (y_extractd rfl rfl) rfl ?_
  refine WL.qn (y_extractd rfl rfl) rfl ?_
  refine WL.s ((b_alloc z26).does) (Wt.none rfl) rfl rfl ?_
  refine WL.s0 (d_store rfl rfl rfl rfl rfl rfl s26 rfl rfl) (Wt.none rfl) rfl ?_
  refine WL.st (st' := [.row 26 (vecA 32 (fun j => .d (.sl (List.map E3 (r127.1.ready j)))) ++ ([.d (.sl (List.map E62 r127.1.delays)), .d (D.i .i64 r127.1.run)] : List AV))]) rfl ?_
  refine WL.as rfl rfl ?_
  refine WL.ns ?_
  refine wc_seq ?_
  refine wc_sr ?_
  refine WL.mv rfl rfl ?_
  refine WL.qn (y_neq rfl rfl) rfl ?_
  refine WL.ns ?_
  refine wc_cond rfl (fun hc2 => ?_) (fun hc2 => ?_)
  ·replace h := condT h hc2
   refine wc_sr ?_
   refine WL.as rfl rfl ?_
   refine WL.ns ?_
   refine wc_ret ?_
   refine we_seq_ret ?_
   obtain rfl := Option.some.inj h
   exact we_ret_fn (rs1 rfl (rv_t rfl)) (Le.refl _)
  ·replace h := condF h hc2
   refine wc_skip ?_
   refine we_seq ?_
   refine wc_sr ?_
   refine WL.mv rfl rfl ?_
   refine WL.as rfl rfl ?_
   refine WL.ns ?_
   replace h := letkS h
   obtain ⟨k129, hk129, h⟩ := h
   refine wc_cut (fun env' st' => ∃ (own128 : Int), k129 own128 = some r ∧ Sub [(2, .d (.pc (R26 q0))), (5, .pt 0 0), (7, .d (D.i .i64 own128))] env' ∧ SLe st' [.row 26 (vecA 32 (fun j => .d (.sl (List.map E3 (r127.1.ready j)))) ++ ([.d (.sl (List.map E62 r127.1.delays)), .d (D.i .i64 r127.1.run)] : List AV))]) ?_ ?_
   ·refine wc_sr ?_
    refine WL.qn (y_fieldAddr f26_2 rfl) rfl ?_
    refine WL.qn (y_load rfl rfl a3 rfl) rfl ?_
    refine WL.qn (y_fieldAddrc f26_2 rfl) rfl ?_
    refine WL.qn (y_loadc rfl a3 rfl) rfl ?_
    refine WL.qn (y_neq rfl rfl) rfl ?_
    refine WL.ns ?_
    refine wc_cond rfl (fun hc3 => ?_) (fun hc3 => ?_)
    ·replace h := condT h hc3
     refine wc_sr ?_
     refine WL.qn (y_loadcN rfl a26 s26 rfl) rfl ?_
     refine WL.qn (y_fieldAddr f26_2 rfl) rfl ?_
     refine WL.qn (y_load rfl rfl a3 rfl) rfl ?_
     obtain ⟨r130, hr130, h⟩ := bindS h
     refine WL.fn rfl rfl rfl rfl (f13_c _ _ hr130) ⟨(Le.refl _), (Le.refl _), trivial⟩ (Wt.none rfl) rfl rfl ?_
     refine WL.as rfl rfl ?_
     refine WL.ns ?_
     refine wc_seq ?_
     refine wc_region_draw (by kernel_rfl) (by kernel_rfl) ?_
     refine WQ.qn (y_move rfl) rfl ?_
     refine WQ.qn (y_lss rfl rfl) rfl ?_
     refine WQ.qn (y_move rfl) rfl ?_
     obtain ⟨b131, hb131, h⟩ := bindS h
     apply WQ.grp 28 (t := 49) (d := 77) (z := b131)
     ·exact rfl
     ·intro hg49
      have h := condT hb131 hg49
      refine WQ.skips 27 rfl ?_
      refine WQ.qn (y_pick_t rfl rfl) rfl ?_
      obtain rfl := Option.some.inj h
      exact WQ.nil ⟨[_, _, _, _, _, _, _, _, _, _, _, _, _, _, _, _, _, _, _, _, _, _, _, _, _, _, _, _], rfl, rfl, rfl⟩
     ·intro hg49
      have h := condF hb131 hg49
      refine WQ.qy (y_fieldAddrc f26_2 rfl) rfl rfl rfl ?_
      refine WQ.qy (y_loadc rfl a3 rfl) rfl rfl rfl ?_
      refine WQ.qy (y_geq rfl rfl) rfl rfl rfl ?_
      refine WQ.qy (y_move rfl) rfl rfl rfl ?_
      obtain ⟨b132, hb132, h⟩ := bindS h
      apply WQ.grp 23 (t := 53) (d := 76) (z := b132)
      ·exact rfl
      ·intro hg53
       have h := condT hb132 hg53
       refine WQ.qy (y_move rfl) rfl rfl rfl ?_
       refine WQ.qy (y_fieldAddr f26_0 rfl) rfl rfl rfl ?_
       replace h := guardBS h
       obtain ⟨hgg133, h⟩ := h
       refine WQ.qy (y_indexAddra ar23 rfl rfl (vecOk_0 hgg133) (vecOk_1 hgg133)) rfl rfl rfl ?_
       refine WQ.qy (y_loadV (off := 0) (n := 32) (fun j => .d (.sl (List.map E3 (r127.1.ready j)))) rfl rfl a22 rfl hgg133) rfl rfl rfl ?_
       refine WQ.qy (y_len_map E3 (r127.1.ready (Int.toNat prio1)) e22 rfl rfl (Le.refl _)) rfl rfl rfl ?_
       refine WQ.qy (y_eql rfl rfl) rfl rfl rfl ?_
       refine WQ.qy (y_move rfl) rfl rfl rfl ?_
       obtain ⟨b134, hb134, h⟩ := bindS h
       apply WQ.grp 10 (t := 60) (d := 70) (z := b134)
       ·exact rfl
       ·intro hg60
        have h := condT hb134 hg60
        refine WQ.skips 9 rfl ?_
        refine WQ.qy (y_pick_t rfl rfl) rfl rfl rfl ?_
        obtain rfl := Option.some.inj h
        exact WQ.nil ⟨[_, _, _, _, _, _, _, _, _, _], rfl, rfl, rfl⟩
       ·intro hg60
        have h := condF hb134 hg60
        refine WQ.qy (y_move rfl) rfl rfl rfl ?_
        refine WQ.qy (y_fieldAddr f26_0 rfl) rfl rfl rfl ?_
        replace h := guardBS h
        obtain ⟨hgg135, h⟩ := h
        refine WQ.qy (y_indexAddra ar23 rfl rfl (vecOk_0 hgg135) (vecOk_1 hgg135)) rfl rfl rfl ?_
        refine WQ.qy (y_loadV (off := 0) (n := 32) (fun j => .d (.sl (List.map E3 (r127.1.ready j)))) rfl rfl a22 rfl hgg135) rfl rfl rfl ?_
        obtain ⟨x136, hx136, h⟩ := bindS h
        refine WQ.qy (y_indexAddr e22 rfl (Le.refl _) rfl (idx_nonneg hx136) (idx_row E3_eq hx136) rfl) rfl rfl rfl ?_
        refine WQ.qy (y_loadc rfl a3 rfl) rfl rfl rfl ?_
        refine WQ.qy (y_fieldAddrc f26_2 rfl) rfl rfl rfl ?_
        refine WQ.qy (y_loadc rfl a3 rfl) rfl rfl rfl ?_
        refine WQ.qy (y_neq rfl rfl) rfl rfl rfl ?_
        refine WQ.qy (y_pick_f rfl rfl) rfl rfl rfl ?_
        obtain rfl := Option.some.inj h
        exact WQ.nil ⟨[_, _, _, _, _, _, _, _, _, _], rfl, rfl, rfl⟩
       refine WQ.qy (y_move rfl) rfl rfl rfl ?_
       apply WQ.or 4 (t := 71) (d := 75)
       ·exact rfl
       ·intro hg71
        refine WQ.qy (y_move rfl) rfl rfl rfl ?_
        refine WQ.qy (y_move rfl) rfl rfl rfl ?_
        refine WQ.qy (y_leq rfl rfl) rfl rfl rfl ?_
        refine WQ.qy (y_pick_f rfl rfl) rfl rfl rfl ?_
        exact WQ.nil ⟨[_, _, _, _], rfl, rfl, rfl⟩
       ·refine WQ.skips 3 rfl ?_
        refine WQ.qy (y_pick_t rfl rfl) rfl rfl rfl ?_
        exact WQ.nil ⟨[_, _, _, _], rfl, rfl, rfl⟩
       refine WQ.qy (y_pick_t rfl rfl) rfl rfl rfl ?_
       obtain rfl := Option.some.inj h
       exact WQ.nil ⟨[_, _, _, _, _, _, _, _, _, _, _], rfl, rfl, rfl⟩
      ·intro hg53
       have h := condF hb132 hg53
       refine WQ.skips 22 rfl ?_
       refine WQ.qy (y_pick_f rfl rfl) rfl rfl rfl ?_
       obtain rfl := Option.some.inj h
       exact WQ.nil ⟨[_, _, _, _, _, _, _, _, _, _, _, _, _, _, _, _, _, _, _, _, _, _, _], rfl, rfl, rfl⟩
      refine WQ.qn (y_pick_f rfl rfl) rfl ?_
      obtain rfl := Option.some.inj h
      exact WQ.nil ⟨[_, _, _, _, _, _], rfl, rfl, rfl⟩
     refine WQ.nil ?_
     refine we_seq ?_
     refine wc_cond rfl (fun hc4 => ?_) (fun hc4 => ?_)
     ·replace h := condT h hc4
      refine wc_sr ?_
      refine WL.as rfl rfl ?_
      refine WL.ns ?_
      refine wc_ret ?_
      refine we_lp_ret ?_
      obtain rfl := Option.some.inj h
      exact we_ret_fn (rs1 rfl (rv_t rfl)) (Le.refl _)
     ·replace h := condF h hc4
      refine wc_skip ?_
      exact we_lp ⟨r130, h, (Sub.cons rfl (Le.refl _) (Sub.cons rfl (Le.refl _) (Sub.cons rfl (Le.refl _) (Sub.nil _)))), ⟨⟨rfl, Les.refl _⟩, trivial⟩⟩
    ·replace h := condF h hc3
     refine wc_skip ?_
     exact we_lp ⟨prio1, h, (Sub.cons rfl (Le.refl _) (Sub.cons rfl (Le.refl _) (Sub.cons rfl (Le.refl _) (Sub.nil _)))), ⟨⟨rfl, Les.refl _⟩, trivial⟩⟩
   ·rintro env1 st1 ⟨own128, h, hsub, hst⟩
    subst hk129
    dsimp only at h
    refine WC.sub hsub (WC.weak hst ?_)
    refine wc_sr ?_
    refine WL.qn (y_loadN rfl rfl a26 s26 rfl) rfl ?_
    obtain ⟨r137, hr137, h⟩ := bindS h
    refine WL.fn rfl rfl rfl rfl (f14_c _ hr137) ⟨(Le.agd ⟨(Le.refl _), (Le.refl _), (Le.refl _), (Le.refl _), (Le.refl _), (Le.refl _), (Le.refl _), (Le.refl _), (Le.refl _), (Le.refl _), (Le.refl _), (Le.refl _), (Le.refl _), (Le.refl _), (Le.refl _), (Le.refl _), (Le.refl _), (Le.refl _), (Le.refl _), (Le.refl _), (Le.refl _), (Le.refl _), (Le.refl _), (Le.refl _), (Le.refl _), (Le.refl _), (Le.refl _), (Le.refl _), (Le.refl _), (Le.refl _), (Le.refl _), (Le.refl _), (Le.refl _), (Le.refl _), trivial⟩), trivial⟩ (Wt.none rfl) rfl rfl ?_
    refine WL.mv rfl rfl ?_
    refine WL.qn (y_extractd rfl rfl) rfl ?_
    refine WL.qn (y_extractd rfl rfl) rfl ?_
    refine WL.qn (y_extractd rfl rfl) rfl ?_
    refine WL.as rfl rfl ?_
    refine WL.as rfl rfl ?_
    refine WL.as rfl rfl ?_
    refine WL.ns ?_
    refine wc_seq ?_
    refine wc_sr ?_
    refine WL.mv rfl rfl ?_
    refine WL.mv rfl rfl ?_
    apply WL.and 9 (t := 85) (d := 94)
    ·exact rfl
    ·intro hg85
     refine WL.qy (y_fieldAddr f26_2 rfl) rfl rfl rfl ?_
     refine WL.qy (y_load rfl rfl a3 rfl) rfl rfl rfl ?_
     refine WL.qy (y_lss rfl rfl) rfl rfl rfl ?_
     refine WL.qy (y_move rfl) rfl rfl rfl ?_
     apply WL.or 4 (t := 89) (d := 93)
     ·exact rfl
     ·intro hg89
      refine WL.qy (y_move rfl) rfl rfl rfl ?_
      refine WL.qy (y_move rfl) rfl rfl rfl ?_
      refine WL.qy (y_gtr rfl rfl) rfl rfl rfl ?_
      refine WL.qy (y_pick_f rfl rfl) rfl rfl rfl ?_
      exact WL.nil ⟨rfl, [_, _, _, _], rfl, rfl, rfl⟩
     ·refine WL.skips 3 rfl ?_
      refine WL.qy (y_pick_t rfl rfl) rfl rfl rfl ?_
      exact WL.nil ⟨rfl, [_, _, _, _], rfl, rfl, rfl⟩
     refine WL.qn (y_pick_t rfl rfl) rfl ?_
     exact WL.nil ⟨rfl, [_, _, _, _, _, _], rfl, rfl, rfl⟩
    ·refine WL.skips 8 rfl ?_
     refine WL.qn (y_pick_f rfl rfl) rfl ?_
     exact WL.nil ⟨rfl, [_, _, _, _, _, _, _, _, _], rfl, rfl, rfl⟩
    refine WL.ns ?_
    refine wc_cond rfl (fun hc5 => ?_) (fun hc5 => ?_)
    ·replace h := condT h hc5
     refine wc_sr ?_
     refine WL.as rfl rfl ?_
     refine WL.ns ?_
     refine wc_ret ?_
     refine we_seq_ret ?_
     obtain rfl := Option.some.inj h
     exact we_ret_fn (rs1 rfl (rv_t rfl)) (Le.refl _)
    ·replace h := condF h hc5
     refine wc_skip ?_
     refine we_seq ?_
     refine wc_seq ?_
     refine wc_sr ?_
     refine WL.qn (y_fieldAddr f26_2 rfl) rfl ?_
     refine WL.qn (y_load rfl rfl a3 rfl) rfl ?_
     refine WL.qn (y_lss rfl rfl) rfl ?_
     refine WL.ns ?_
     refine wc_cond rfl (fun hc6 => ?_) (fun hc6 => ?_)
     ·replace h := condT h hc6
      refine wc_sr ?_
      refine WL.qn (y_fieldAddrc f26_2 rfl) rfl ?_
      refine WL.qn (y_loadc rfl a3 rfl) rfl ?_
      refine WL.qn (y_lss rfl rfl) rfl ?_
      refine WL.mv rfl rfl ?_
      obtain ⟨b138, hb138, h⟩ := bindS h
      apply WL.grp 2 (t := 101) (d := 103) (z := b138)
      ·exact rfl
      ·intro hg101
       have h := condT hb138 hg101
       obtain ⟨r139, hr139, h⟩ := bindS h
       refine WL.fn rfl rfl rfl rfl (f11_c hr139) trivial (Wt.yes rfl rfl rfl) rfl rfl ?_
       refine WL.qn (y_pick_t rfl rfl) rfl ?_
       obtain rfl := Option.some.inj h
       exact WL.nil ⟨rfl, [_, _], rfl, rfl, rfl⟩
      ·intro hg101
       have h := condF hb138 hg101
       refine WL.skips 1 rfl ?_
       refine WL.qn (y_pick_f rfl rfl) rfl ?_
       obtain rfl := Option.some.inj h
       exact WL.nil ⟨rfl, [_, _], rfl, rfl, rfl⟩
      refine WL.as rfl rfl ?_
      refine WL.ns ?_
      refine wc_ret ?_
      refine we_seq_ret ?_
      obtain rfl := Option.some.inj h
      exact we_ret_fn (rs1 rfl (rv_t rfl)) (Le.refl _)
     ·replace h := condF h hc6
      refine wc_skip ?_
      refine we_seq ?_
      refine wc_sr ?_
      refine WL.qn (y_loadN rfl rfl a26 s26 rfl) rfl ?_
      refine WL.mv rfl rfl ?_
      obtain ⟨r140, hr140, h⟩ := bindS h
      refine WL.fn rfl rfl rfl rfl (f12_c _ _ hr140) ⟨(Le.agd ⟨(Le.refl _), (Le.refl _), (Le.refl _), (Le.refl _), (Le.refl _), (Le.refl _), (Le.refl _), (Le.refl _), (Le.refl _), (Le.refl _), (Le.refl _), (Le.refl _), (Le.refl _), (Le.refl _), (Le.refl _), (Le.refl _), (Le.refl _), (Le.refl _), (Le.refl _), (Le.refl _), (Le.refl _), (Le.refl _), (Le.refl _), (Le.refl _), (Le.refl _), (Le.refl _), (Le.refl _), (Le.refl _), (Le.refl _), (Le.refl _), (Le.refl _), (Le.refl _), (Le.refl _), (Le.refl _), trivial⟩), (Le.refl _), trivial⟩ (Wt.none rfl) rfl rfl ?_
      refine WL.mv rfl rfl ?_
      refine WL.qn (y_extractd rfl rfl) rfl ?_
      refine WL.qn (y_extractd rfl rfl) rfl ?_
      refine WL.s ((b_alloc z26).does) (Wt.none rfl) rfl rfl ?_
      refine WL.s0 (d_store rfl rfl rfl rfl rfl rfl s26 rfl rfl) (Wt.none rfl) rfl ?_
      refine WL.st (st' := [.row 26 (vecA 32 (fun j => .d (.sl (List.map E3 (r127.1.ready j)))) ++ ([.d (.sl (List.map E62 r127.1.delays)), .d (D.i .i64 r127.1.run)] : List AV)), .row 26 (vecA 32 (fun j => .d (.sl (List.map E3 (r140.1.ready j)))) ++ ([.d (.sl (List.map E62 r140.1.delays)), .d (D.i .i64 r140.1.run)] : List AV))]) rfl ?_
      refine WL.as rfl rfl ?_
      refine WL.ns ?_
      refine wc_sr ?_
      refine WL.mv rfl rfl ?_
      refine WL.qn (y_eql rfl rfl) rfl ?_
      refine WL.mv rfl rfl ?_
      obtain ⟨b141, hb141, h⟩ := bindS h
      apply WL.grp 4 (t := 112) (d := 116) (z := b141)
      ·exact rfl
      ·intro hg112
       have h := condT hb141 hg112
       refine WL.qy (y_loadN rfl rfl a26 s26 rfl) rfl rfl rfl ?_
       refine WL.qy (y_loadN rfl rfl a26 s26 rfl) rfl rfl rfl ?_
       obtain ⟨r142, hr142, h⟩ := bindS h
       refine WL.fn rfl rfl rfl rfl (f15_c _ _ hr142) ⟨(Le.agd ⟨(Le.refl _), (Le.refl _), (Le.refl _), (Le.refl _), (Le.refl _), (Le.refl _), (Le.refl _), (Le.refl _), (Le.refl _), (Le.refl _), (Le.refl _), (Le.refl _), (Le.refl _), (Le.refl _), (Le.refl _), (Le.refl _), (Le.refl _), (Le.refl _), (Le.refl _), (Le.refl _), (Le.refl _), (Le.refl _), (Le.refl _), (Le.refl _), (Le.refl _), (Le.refl _), (Le.refl _), (Le.refl _), (Le.refl _), (Le.refl _), (Le.refl _), (Le.refl _), (Le.refl _), (Le.refl _), trivial⟩), (Le.agd ⟨(Le.refl _), (Le.refl _), (Le.refl _), (Le.refl _), (Le.refl _), (Le.refl _), (Le.refl _), (Le.refl _), (Le.refl _), (Le.refl _), (Le.refl _), (Le.refl _), (Le.refl _), (Le.refl _), (Le.refl _), (Le.refl _), (Le.refl _), (Le.refl _), (Le.refl _), (Le.refl _), (Le.refl _), (Le.refl _), (Le.refl _), (Le.refl _), (Le.refl _), (Le.refl _), (Le.refl _), (Le.refl _), (Le.refl _), (Le.refl _), (Le.refl _), (Le.refl _), (Le.refl _), (Le.refl _), trivial⟩), trivial⟩ (Wt.yes rfl rfl rfl) rfl rfl ?_
       refine WL.qn (y_pick_t rfl rfl) rfl ?_
       obtain rfl := Option.some.inj h
       exact WL.nil ⟨rfl, [_, _, _, _], rfl, rfl, rfl⟩
      ·intro hg112
       have h := condF hb141 hg112
       refine WL.skips 3 rfl ?_
       refine WL.qn (y_pick_f rfl rfl) rfl ?_
       obtain rfl := Option.some.inj h
       exact WL.nil ⟨rfl, [_, _, _, _], rfl, rfl, rfl⟩
      refine WL.mv rfl rfl ?_
      obtain ⟨b143, hb143, h⟩ := bindS h
      apply WL.grp 2 (t := 117) (d := 119) (z := b143)
      ·exact rfl
      ·intro hg117
       have h := condT hb143 hg117
       obtain ⟨r144, hr144, h⟩ := bindS h
       refine WL.fn rfl rfl rfl rfl (f11_c hr144) trivial (Wt.yes rfl rfl rfl) rfl rfl ?_
       refine WL.qn (y_pick_t rfl rfl) rfl ?_
       obtain rfl := Option.some.inj h
       exact WL.nil ⟨rfl, [_, _], rfl, rfl, rfl⟩
      ·intro hg117
       have h := condF hb143 hg117
       refine WL.skips 1 rfl ?_
       refine WL.qn (y_pick_f rfl rfl) rfl ?_
       obtain rfl := Option.some.inj h
       exact WL.nil ⟨rfl, [_, _], rfl, rfl, rfl⟩
      refine WL.as rfl rfl ?_
      refine WL.ns ?_
      refine wc_ret ?_
      obtain rfl := Option.some.inj h
      exact we_ret_fn (rs1 rfl (rv_t rfl)) (Le.refl _)

theorem f22_c (q0 : Queues) (task1 : Int) {r : Queues × Int} (h : f22 q0 task1 = some r) : Pu Try.prog 22 [.ag (R26 q0), .i .i64 task1] (.tu [.ag (R26 r.1), .i .i64 r.2]) := by
 unfold f22 at h
 refine fn_intro Try.func22 (by kernel_rfl) rfl rfl rfl (fun φφ ww => ?_)
 refine wc_sr ?_
 refine WL.s ((b_box rfl rfl).does) (Wt.none rfl) rfl rfl ?_
 refine WL.s ((b_boxd rfl rfl (by exact (show Les [.d (D.i .i64 task1)] (List.map AV.d [.i .i64 task1]) from ⟨(Le.refl _), trivial⟩))).does) (Wt.none rfl) rfl rfl ?_
 refine WL.s ((b_alloc z26).does) (Wt.none rfl) rfl rfl ?_
 refine WL.as rfl rfl ?_
 refine WL.ns ?_
 refine wc_seq ?_
 refine wc_sr ?_
 refine WL.qn (y_loadN rfl rfl a26 s26 rfl) rfl ?_
 obtain ⟨r47, hr47, h⟩ := bindS h
 refine WL.fn rfl rfl rfl rfl (f10_c _ hr47) ⟨(Le.agd ⟨(Le.refl _), (Le.refl _), (Le.refl _), (Le.refl _), (Le.refl _), (Le.refl _), (Le.refl _), (Le.refl _), (Le.refl _), (Le.refl _), (Le.refl _), (Le.refl _), (Le.refl _), (Le.refl _), (Le.refl _), (Le.refl _), (Le.refl _), (Le.refl _), (Le.refl _), (Le.refl _), (Le.refl _), (Le.refl _), (Le.refl _), (Le.refl _), (Le.refl _), (Le.refl _), (Le.refl _), (Le.refl _), (Le.refl _), (Le.refl _), (Le.refl _), (Le.refl _), (Le.refl _), (Le.refl _), trivial⟩), trivial⟩ (Wt.none rfl) rfl rfl ?_
 refine WL.qn (y_not rfl) rfl ?_
 refine WL.mv rfl rfl ?_
 apply WL.or 4 (t := 11) (d := 15)
 ·exact rfl
 ·intro hg11
  refine WL.qy (y_loadc rfl a3 rfl) rfl rfl rfl ?_
  refine WL.fn rfl rfl rfl rfl (f30_c _) ⟨(Le.refl _), trivial⟩ (Wt.yes rfl rfl rfl) rfl rfl ?_
  refine WL.qy (y_not rfl) rfl rfl rfl ?_
  refine WL.qn (y_pick_f rfl rfl) rfl ?_
  exact WL.nil ⟨rfl, [_, _, _, _], rfl, rfl, rfl⟩
 ·refine WL.skips 3 rfl ?_
  refine WL.qn (y_pick_t rfl rfl) rfl ?_
  exact WL.nil ⟨rfl, [_, _, _, _], rfl, rfl, rfl⟩
 refine WL.ns ?_
 refine wc_cond rfl (fun hc1 => ?_) (fun hc1 => ?_)
 ·replace h := condT h hc1
  refine wc_sr ?_
  refine WL.qn (y_build p26 z26 rfl rfl) rfl ?_
  refine WL.s0 (d_store rfl rfl rfl rfl rfl rfl s26 rfl rfl) (Wt.none rfl) rfl ?_
  refine WL.st (st' := [.row 26 (vecA 32 (fun j => .d (.sl (List.map E3 (q0.ready j)))) ++ ([.d (.sl (List.map E62 q0.delays)), .d (D.i .i64 q0.run)] : List AV)), .row 26 [.d (.v (.slice none 0 0)), .d (.v (.slice none 0 0)), .d (.v (.slice none 0 0)), .d (.v (.slice none 0 0)), .d (.v (.slice none 0 0)), .d (.v (.slice none 0 0)), .d (.v (.slice none 0 0)), .d (.v (.slice none 0 0)), .d (.v (.slice none 0 0)), .d (.v (.slice none 0 0)), .d (.v (.slice none 0 0)), .d (.v (.slice none 0 0)), .d (.v (.slice none 0 0)), .d (.v (.slice none 0 0)), .d (.v (.slice none 0 0)), .d (.v (.slice none 0 0)), .d (.v (.slice none 0 0)), .d (.v (.slice none 0 0)), .d (.v (.slice none 0 0)), .d (.v (.slice none 0 0)), .d (.v (.slice none 0 0)), .d (.v (.slice none 0 0)), .d (.v (.slice none 0 0)), .d (.v (.slice none 0 0)), .d (.v (.slice none 0 0)), .d (.v (.slice none 0 0)), .d (.v (.slice none 0 0)), .d (.v (.slice none 0 0)), .d (.v (.slice none 0 0)), .d (.v (.slice none 0 0)), .d (.v (.slice none 0 0)), .d (.v (.slice none 0 0)), .d (.v (.slice none 0 0)), .d (D.i .i64 0)]]) rfl ?_
  refine WL.as rfl rfl ?_
  refine WL.ns ?_
  refine wc_ret ?_
  refine we_seq_ret ?_
  obtain rfl := Option.some.inj h
  exact we_ret_fn (rs2 rfl (rv_cN rfl rfl a26 s26 rfl) (rv_t rfl)) (Le.tud ⟨(Le.agd ⟨Le.nil, Le.nil, Le.nil, Le.nil, Le.nil, Le.nil, Le.nil, Le.nil, Le.nil, Le.nil, Le.nil, Le.nil, Le.nil, Le.nil, Le.nil, Le.nil, Le.nil, Le.nil, Le.nil, Le.nil, Le.nil, Le.nil, Le.nil, Le.nil, Le.nil, Le.nil, Le.nil, Le.nil, Le.nil, Le.nil, Le.nil, Le.nil, Le.nil, (Le.refl _), trivial⟩), (Le.refl _), trivial⟩)
 ·replace h := condF h hc1
  refine wc_skip ?_
  refine we_seq ?_
  refine wc_sr ?_
  refine WL.qn (y_loadN rfl rfl a26 s26 rfl) rfl ?_
  refine WL.qn (y_loadc rfl a3 rfl) rfl ?_
  obtain ⟨r48, hr48, h⟩ := bindS h
  refine WL.fn rfl rfl rfl rfl (f43_c _ _ hr48) ⟨(Le.agd ⟨(Le.refl _), (Le.refl _), (Le.refl _), (Le.refl _), (Le.refl _), (Le.refl _), (Le.refl _), (Le.refl _), (Le.refl _), (Le.refl _), (Le.refl _), (Le.refl _), (Le.refl _), (Le.refl _), (Le.refl _), (Le.refl _), (Le.refl _), (Le.refl _), (Le.refl _), (Le.refl _), (Le.refl _), (Le.refl _), (Le.refl _), (Le.refl _), (Le.refl _), (Le.refl _), (Le.refl _), (Le.refl _), (Le.refl _), (Le.refl _), (Le.refl _), (Le.refl _), (Le.refl _), (Le.refl _), trivial⟩), (Le.refl _), trivial⟩ (Wt.none rfl) rfl rfl ?_
  refine WL.mv rfl rfl ?_
  refine WL.qn (y_extractd rfl rfl) rfl ?_
  refine WL.qn (y_extractd rfl rfl) rfl ?_
  refine WL.as rfl rfl ?_
  refine WL.as rfl rfl ?_
  refine WL.ns ?_
  refine wc_sr ?_
  refine WL.qn (y_loadN rfl rfl a26 s26 rfl) rfl ?_
  obtain ⟨r49, hr49, h⟩ := bindS h
  refine WL.fn rfl rfl rfl rfl (O.f32_c _ hr49) ⟨(Le.agd ⟨(Le.refl _), (Le.refl _), (Le.refl _), (Le.refl _), (Le.refl _), (Le.refl _), (Le.refl _), (Le.refl _), (Le.refl _), (Le.refl _), (Le.refl _), (Le.refl _), (Le.refl _), (Le.refl _), (Le.refl _), (Le.refl _), (Le.refl _), (Le.refl _), (Le.refl _), (Le.refl _), (Le.refl _), (Le.refl _), (Le.refl _), (Le.refl _), (Le.refl _), (Le.refl _), (Le.refl _), (Le.refl _), (Le.refl _), (Le.refl _), (Le.refl _), (Le.refl _), (Le.refl _), (Le.refl _), trivial⟩), trivial⟩ (Wt.none rfl) rfl rfl ?_
  refine WL.s0 (d_store rfl rfl rfl rfl rfl rfl s26 rfl rfl) (Wt.none rfl) rfl ?_
  refine WL.st (st' := [.row 26 (vecA 32 (fun j => .d (.sl (List.map E3 (r49.ready j)))) ++ ([.d (.sl (List.map E62 r49.delays)), .d (D.i .i64 r49.run)] : List AV)), .row 26 [.d (.v (.slice none 0 0)), .d (.v (.slice none 0 0)), .d (.v (.slice none 0 0)), .d (.v (.slice none 0 0)), .d (.v (.slice none 0 0)), .d (.v (.slice none 0 0)), .d (.v (.slice none 0 0)), .d (.v (.slice none 0 0)), .d (.v (.slice none 0 0)), .d (.v (.slice none 0 0)), .d (.v (.slice none 0 0)), .d (.v (.slice none 0 0)), .d (.v (.slice none 0 0)), .d (.v (.slice none 0 0)), .d (.v (.slice none 0 0)), .d (.v (.slice none 0 0)), .d (.v (.slice none 0 0)), .d (.v (.slice none 0 0)), .d (.v (.slice none 0 0)), .d (.v (.slice none 0 0)), .d (.v (.slice none 0 0)), .d (.v (.slice none 0 0)), .d (.v (.slice none 0 0)), .d (.v (.slice none 0 0)), .d (.v (.slice none 0 0)), .d (.v (.slice none 0 0)), .d (.v (.slice none 0 0)), .d (.v (.slice none 0 0)), .d (.v (.slice none 0 0)), .d (.v (.slice none 0 0)), .d (.v (.slice none 0 0)), .d (.v (.slice none 0 0)), .d (.v (.slice none 0 0)), .d (D.i .i64 0)]]) rfl ?_
  refine WL.ns ?_
  replace h := letkS h
  obtain ⟨k52, hk52, h⟩ := h
  refine wc_cut (fun env' st' => ∃ (c0050 : Nat → (List Int)), ∃ (c03351 : Int), k52 c0050 c03351 = some r ∧ Sub [(2, .pt 0 0), (4, .pt 1 0)] env' ∧ SLe st' [.row 26 (vecA 32 (fun j => .d (.sl (List.map E3 (c0050 j)))) ++ ([.d (.sl (List.map E62 r49.delays)), .d (D.i .i64 c03351)] : List AV)), .row 26 [.d (.v (.slice none 0 0)), .d (.v (.slice none 0 0)), .d (.v (.slice none 0 0)), .d (.v (.slice none 0 0)), .d (.v (.slice none 0 0)), .d (.v (.slice none 0 0)), .d (.v (.slice none 0 0)), .d (.v (.slice none 0 0)), .d (.v (.slice none 0 0)), .d (.v (.slice none 0 0)), .d (.v (.slice none 0 0)), .d (.v (.slice none 0 0)), .d (.v (.slice none 0 0)), .d (.v (.slice none 0 0)), .d (.v (.slice none 0 0)), .d (.v (.slice none 0 0)), .d (.v (.slice none 0 0)), .d (.v (.slice none 0 0)), .d (.v (.slice none 0 0)), .d (.v (.slice none 0 0)), .d (.v (.slice none 0 0)), .d (.v (.slice none 0 0)), .d (.v (.slice none 0 0)), .d (.v (.slice none 0 0)), .d (.v (.slice none 0 0)), .d (.v (.slice none 0 0)), .d (.v (.slice none 0 0)), .d (.v (.slice none 0 0)), .d (.v (.slice none 0 0)), .d (.v (.slice none 0 0)), .d (.v (.slice none 0 0)), .d (.v (.slice none 0 0)), .d (.v (.slice none 0 0)), .d (D.i .i64 0)]]) ?_ ?_
  ·refine wc_block ?_
   refine wc_sr ?_
   refine WL.mv rfl rfl ?_
   refine WL.as rfl rfl ?_
   refine WL.ns ?_
   refine wc_cond rfl (fun hc2 => ?_) (fun hc2 => ?_)
   ·replace h := condT h hc2
    refine wc_region ?_
    refine WL.mv rfl rfl ?_
    refine WL.mv rfl rfl ?_
    refine WL.qn (y_fieldAddr f26_0 rfl) rfl ?_
    replace h := guardBS h
    obtain ⟨hgg53, h⟩ := h
    refine WL.qn (y_indexAddra ar23 rfl rfl (vecOk_0 hgg53) (vecOk_1 hgg53)) rfl ?_
    refine WL.qn (y_loadV (off := 0) (n := 32) (fun j => .d (.sl (List.map E3 (r49.ready j)))) rfl rfl a22 rfl hgg53) rfl ?_
    refine WL.qn (y_makeFunc rfl rfl) rfl ?_
    obtain ⟨k56, hk56, h⟩ := letkS h
    refine WL.inl (us := [.d (.sl (List.map E3 (r49.ready (Int.toNat r48.1)))), .fn (.func 45) [] [.d (.pc (E3 task1))]]) (fun rv st' => (∃ (t55 : List Int), k56 t55 = some r ∧ Le rv (.d (.sl (List.map E3 t55))) ∧ SLe st' [.row 26 (vecA 32 (fun j => .d (.sl (List.map E3 (r49.ready j)))) ++ ([.d (.sl (List.map E62 r49.delays)), .d (D.i .i64 r49.run)] : List AV)), .row 26 [.d (.v (.slice none 0 0)), .d (.v (.slice none 0 0)), .d (.v (.slice none 0 0)), .d (.v (.slice none 0 0)), .d (.v (.slice none 0 0)), .d (.v (.slice none 0 0)), .d (.v (.slice none 0 0)), .d (.v (.slice none 0 0)), .d (.v (.slice none 0 0)), .d (.v (.slice none 0 0)), .d (.v (.slice none 0 0)), .d (.v (.slice none 0 0)), .d (.v (.slice none 0 0)), .d (.v (.slice none 0 0)), .d (.v (.slice none 0 0)), .d (.v (.slice none 0 0)), .d (.v (.slice none 0 0)), .d (.v (.slice none 0 0)), .d (.v (.slice none 0 0)), .d (.v (.slice none 0 0)), .d (.v (.slice none 0 0)), .d (.v (.slice none 0 0)), .d (.v (.slice none 0 0)), .d (.v (.slice none 0 0)), .d (.v (.slice none 0 0)), .d (.v (.slice none 0 0)), .d (.v (.slice none 0 0)), .d (.v (.slice none 0 0)), .d (.v (.slice none 0 0)), .d (.v (.slice none 0 0)), .d (.v (.slice none 0 0)), .d (.v (.slice none 0 0)), .d (.v (.slice none 0 0)), .d (D.i .i64 0)], .dead])) rfl rfl rfl rfl rfl ?_ (Wt.none rfl) rfl rfl ?_
    ·refine ctr_intro Try.func44 (by kernel_rfl) rfl rfl rfl (fun mm φφ ww hm54 => ?_)
     refine wc_sr ?_
     refine WL.as rfl rfl ?_
     refine WL.ns ?_
     refine wc_sr ?_
     refine WL.mv rfl rfl ?_
     obtain ⟨r57, hr57, h⟩ := bindS h
     refine Gh.wl (gh_push_os 3 1) ?_
     refine WL.wina [2] rfl rfl rfl rfl (O.f60o_c _ hr57) ⟨(Le.refl _), trivial⟩ rfl (by decide) rfl ⟨rfl, trivial⟩ rfl rfl (fun _ => (stLt_cons (lt_os _ _ _ _ _ _) rfl)) (fun _ => (cons_eq (ren_os _ _ _ _ _ _) rfl)) (fun _ => rfl) (fun _ => rfl) (Wt.none rfl) rfl rfl (fun ver58 => ?_)
     refine WL.mv rfl rfl ?_
     obtain ⟨k61, hk61, h⟩ := letkS h
     refine WL.inl (us := [.os 2 ver58, .fn (.func 45) [] [.d (.pc (E3 task1))]]) (fun rv st' => (∃ (t60 : List Int), k61 t60 = some r ∧ Le rv (.d (.sl (List.map E3 t60))) ∧ SLe st' [.row 26 (vecA 32 (fun j => .d (.sl (List.map E3 (r49.ready j)))) ++ ([.d (.sl (List.map E62 r49.delays)), .d (D.i .i64 r49.run)] : List AV)), .row 26 [.d (.v (.slice none 0 0)), .d (.v (.slice none 0 0)), .d (.v (.slice none 0 0)), .d (.v (.slice none 0 0)), .d (.v (.slice none 0 0)), .d (.v (.slice none 0 0)), .d (.v (.slice none 0 0)), .d (.v (.slice none 0 0)), .d (.v (.slice none 0 0)), .d (.v (.slice none 0 0)), .d (.v (.slice none 0 0)), .d (.v (.slice none 0 0)), .d (.v (.slice none 0 0)), .d (.v (.slice none 0 0)), .d (.v (.slice none 0 0)), .d (.v (.slice none 0 0)), .d (.v (.slice none 0 0)), .d (.v (.slice none 0 0)), .d (.v (.slice none 0 0)), .d (.v (.slice none 0 0)), .d (.v (.slice none 0 0)), .d (.v (.slice none 0 0)), .d (.v (.slice none 0 0)), .d (.v (.slice none 0 0)), .d (.v (.slice none 0 0)), .d (.v (.slice none 0 0)), .d (.v (.slice none 0 0)), .d (.v (.slice none 0 0)), .d (.v (.slice none 0 0)), .d (.v (.slice none 0 0)), .d (.v (.slice none 0 0)), .d (.v (.slice none 0 0)), .d (.v (.slice none 0 0)), .d (D.i .i64 0)], .dead])) rfl rfl rfl rfl rfl ?_ (Wt.none rfl) rfl rfl ?_
     ·refine ctr_intro Try.func72 (by kernel_rfl) rfl rfl rfl (fun mm φφ ww hm59 => ?_)
      refine wc_sr ?_
      refine WL.as rfl rfl ?_
      refine WL.ns ?_
      refine wc_sr ?_
      refine WL.mv rfl rfl ?_
      refine WL.mv rfl rfl ?_
      obtain ⟨k64, hk64, h⟩ := letkS h
      refine WL.inl (us := [.os 2 ver58, .fn (.func 45) [] [.d (.pc (E3 task1))]]) (fun rv st' => (∃ (t63 : Int), k64 t63 = some r ∧ Le rv (.d (D.i .i64 t63)) ∧ SLe st' [.row 26 (vecA 32 (fun j => .d (.sl (List.map E3 (r49.ready j)))) ++ ([.d (.sl (List.map E62 r49.delays)), .d (D.i .i64 r49.run)] : List AV)), .row 26 [.d (.v (.slice none 0 0)), .d (.v (.slice none 0 0)), .d (.v (.slice none 0 0)), .d (.v (.slice none 0 0)), .d (.v (.slice none 0 0)), .d (.v (.slice none 0 0)), .d (.v (.slice none 0 0)), .d (.v (.slice none 0 0)), .d (.v (.slice none 0 0)), .d (.v (.slice none 0 0)), .d (.v (.slice none 0 0)), .d (.v (.slice none 0 0)), .d (.v (.slice none 0 0)), .d (.v (.slice none 0 0)), .d (.v (.slice none 0 0)), .d (.v (.slice none 0 0)), .d (.v (.slice none 0 0)), .d (.v (.slice none 0 0)), .d (.v (.slice none 0 0)), .d (.v (.slice none 0 0)), .d (.v (.slice none 0 0)), .d (.v (.slice none 0 0)), .d (.v (.slice none 0 0)), .d (.v (.slice none 0 0)), .d (.v (.slice none 0 0)), .d (.v (.slice none 0 0)), .d (.v (.slice none 0 0)), .d (.v (.slice none 0 0)), .d (.v (.slice none 0 0)), .d (.v (.slice none 0 0)), .d (.v (.slice none 0 0)), .d (.v (.slice none 0 0)), .d (.v (.slice none 0 0)), .d (D.i .i64 0)], .os 3 1 ver58 (List.map (encA E3) r57)])) rfl rfl rfl rfl rfl ?_ (Wt.none rfl) rfl rfl ?_
      ·refine ctr_intro Try.func81 (by kernel_rfl) rfl rfl rfl (fun mm φφ ww hm62 => ?_)
       refine wc_sr ?_
       refine WL.as rfl rfl ?_
       refine WL.ns ?_
       replace h := letkS h
       obtain ⟨k65, hk65, h⟩ := h
       refine wc_cut (fun env' st' => k65 () = some r ∧ Sub [] env' ∧ SLe st' [.row 26 (vecA 32 (fun j => .d (.sl (List.map E3 (r49.ready j)))) ++ ([.d (.sl (List.map E62 r49.delays)), .d (D.i .i64 r49.run)] : List AV)), .row 26 [.d (.v (.slice none 0 0)), .d (.v (.slice none 0 0)), .d (.v (.slice none 0 0)), .d (.v (.slice none 0 0)), .d (.v (.slice none 0 0)), .d (.v (.slice none 0 0)), .d (.v (.slice none 0 0)), .d (.v (.slice none 0 0)), .d (.v (.slice none 0 0)), .d (.v (.slice none 0 0)), .d (.v (.slice none 0 0)), .d (.v (.slice none 0 0)), .d (.v (.slice none 0 0)), .d (.v (.slice none 0 0)), .d (.v (.slice none 0 0)), .d (.v (.slice none 0 0)), .d (.v (.slice none 0 0)), .d (.v (.slice none 0 0)), .d (.v (.slice none 0 0)), .d (.v (.slice none 0 0)), .d (.v (.slice none 0 0)), .d (.v (.slice none 0 0)), .d (.v (.slice none 0 0)), .d (.v (.slice none 0 0)), .d (.v (.slice none 0 0)), .d (.v (.slice none 0 0)), .d (.v (.slice none 0 0)), .d (.v (.slice none 0 0)), .d (.v (.slice none 0 0)), .d (.v (.slice none 0 0)), .d (.v (.slice none 0 0)), .d (.v (.slice none 0 0)), .d (.v (.slice none 0 0)), .d (D.i .i64 0)], .os 3 1 ver58 (List.map (encA E3) r57)]) ?_ ?_
       ·refine wc_sr ?_
        refine WL.mv rfl rfl ?_
        refine WL.qn (y_len_osmap (encA E3) r57 e22 rfl rfl rfl) rfl ?_
        refine WL.mv rfl rfl ?_
        refine WL.ns ?_
        refine wc_block ?_
        refine wc_loop (fun n env' st' => ∃ (t67 : Int), f22_l1 task1 r57 k64 k65 n t67 = some r ∧ Sub [(0, .os 2 ver58), (1, .fn (.func 45) [] [.d (.pc (E3 task1))]), (7, .d (D.i .i64 (List.length r57 : Int))), (8, .d (D.i .i64 t67))] env' ∧ SLe st' [.row 26 (vecA 32 (fun j => .d (.sl (List.map E3 (r49.ready j)))) ++ ([.d (.sl (List.map E62 r49.delays)), .d (D.i .i64 r49.run)] : List AV)), .row 26 [.d (.v (.slice none 0 0)), .d (.v (.slice none 0 0)), .d (.v (.slice none 0 0)), .d (.v (.slice none 0 0)), .d (.v (.slice none 0 0)), .d (.v (.slice none 0 0)), .d (.v (.slice none 0 0)), .d (.v (.slice none 0 0)), .d (.v (.slice none 0 0)), .d (.v (.slice none 0 0)), .d (.v (.slice none 0 0)), .d (.v (.slice none 0 0)), .d (.v (.slice none 0 0)), .d (.v (.slice none 0 0)), .d (.v (.slice none 0 0)), .d (.v (.slice none 0 0)), .d (.v (.slice none 0 0)), .d (.v (.slice none 0 0)), .d (.v (.slice none 0 0)), .d (.v (.slice none 0 0)), .d (.v (.slice none 0 0)), .d (.v (.slice none 0 0)), .d (.v (.slice none 0 0)), .d (.v (.slice none 0 0)), .d (.v (.slice none 0 0)), .d (.v (.slice none 0 0)), .d (.v (.slice none 0 0)), .d (.v (.slice none 0 0)), .d (.v (.slice none 0 0)), .d (.v (.slice none 0 0)), .d (.v (.slice none 0 0)), .d (.v (.slice none 0 0)), .d (.v (.slice none 0 0)), .d (D.i .i64 0)], .os 3 1 ver58 (List.map (encA E3) r57)]) (fun n => n) (Int.toNat ((List.length r57 : Int) - 0) + 1) ⟨0, h, (Sub.cons rfl (Le.refl _) (Sub.cons rfl (Le.refl _) (Sub.cons rfl (Le.refl _) (Sub.cons rfl (Le.refl _) (Sub.nil _))))), ⟨⟨rfl, Les.refl _⟩, ⟨rfl, Les.refl _⟩, ⟨rfl, rfl, rfl, rfl⟩, trivial⟩⟩ ?_
        rintro n env1 st1 ⟨t67, h, hsub, hst⟩
        cases n with
        | zero => rw [f22_l1] at h; cases h
        | succ n =>
        rw [f22_l1] at h
        refine WC.sub hsub (WC.weak hst ?_)
        refine wc_sr ?_
        refine WL.qn (y_lss rfl rfl) rfl ?_
        refine WL.ns ?_
        refine wc_seq ?_
        refine wc_cond rfl (fun hc3 => ?_) (fun hc3 => ?_)
        ·replace h := condT h hc3
         refine wc_skip ?_
         refine we_seq ?_
         refine wc_seq ?_
         refine wc_block ?_
         refine wc_sr ?_
         refine WL.mv rfl rfl ?_
         refine WL.as rfl rfl ?_
         refine WL.ns ?_
         refine wc_sr ?_
         refine WL.mv rfl rfl ?_
         refine WL.mv rfl rfl ?_
         refine WL.mv rfl rfl ?_
         obtain ⟨x69, hx69, h⟩ := bindS h
         refine WL.qn (y_pe e22 rfl rfl rfl hx69) rfl ?_
         refine WL.qn (y_load_peL (fo := 0) rfl rfl rfl a3 (fun _ => rfl) hx69 rfl) rfl ?_
         obtain ⟨k71, hk71, h⟩ := letkS h
         refine WL.inl (us := [.d (D.i .i64 x69), .d (.pc (E3 task1))]) (fun rv st' => (k71 () = some r ∧ Le rv (.d (D.b (decide (x69 = task1)))) ∧ SLe st' [.row 26 (vecA 32 (fun j => .d (.sl (List.map E3 (r49.ready j)))) ++ ([.d (.sl (List.map E62 r49.delays)), .d (D.i .i64 r49.run)] : List AV)), .row 26 [.d (.v (.slice none 0 0)), .d (.v (.slice none 0 0)), .d (.v (.slice none 0 0)), .d (.v (.slice none 0 0)), .d (.v (.slice none 0 0)), .d (.v (.slice none 0 0)), .d (.v (.slice none 0 0)), .d (.v (.slice none 0 0)), .d (.v (.slice none 0 0)), .d (.v (.slice none 0 0)), .d (.v (.slice none 0 0)), .d (.v (.slice none 0 0)), .d (.v (.slice none 0 0)), .d (.v (.slice none 0 0)), .d (.v (.slice none 0 0)), .d (.v (.slice none 0 0)), .d (.v (.slice none 0 0)), .d (.v (.slice none 0 0)), .d (.v (.slice none 0 0)), .d (.v (.slice none 0 0)), .d (.v (.slice none 0 0)), .d (.v (.slice none 0 0)), .d (.v (.slice none 0 0)), .d (.v (.slice none 0 0)), .d (.v (.slice none 0 0)), .d (.v (.slice none 0 0)), .d (.v (.slice none 0 0)), .d (.v (.slice none 0 0)), .d (.v (.slice none 0 0)), .d (.v (.slice none 0 0)), .d (.v (.slice none 0 0)), .d (.v (.slice none 0 0)), .d (.v (.slice none 0 0)), .d (D.i .i64 0)], .os 3 1 ver58 (List.map (encA E3) r57)])) rfl rfl rfl rfl rfl ?_ (Wt.none rfl) rfl rfl ?_
         ·refine ctr_intro Try.func45 (by kernel_rfl) rfl rfl rfl (fun mm φφ ww hm70 => ?_)
          refine wc_sr ?_
          refine WL.as rfl rfl ?_
          refine WL.ns ?_
          refine wc_sr ?_
          refine WL.mv rfl rfl ?_
          refine WL.qn (y_loadc rfl a3 rfl) rfl ?_
          refine WL.qn (y_eql rfl rfl) rfl ?_
          refine WL.as rfl rfl ?_
          refine WL.ns ?_
          refine wc_ret ?_
          exact we_ret (rs1 rfl (rv_t rfl)) ⟨h, (Le.refl _), ⟨⟨rfl, Les.refl _⟩, ⟨rfl, Les.refl _⟩, ⟨rfl, rfl, rfl, rfl⟩, trivial⟩⟩
         ·rintro rv st1 ⟨h, hr, hst⟩
          subst hk71
          dsimp only at h
          refine WL.cast 16 rfl hr ?_
          refine WL.weak hst ?_
          refine WL.ns ?_
          refine wc_cond rfl (fun hc4 => ?_) (fun hc4 => ?_)
          ·replace h := condT h hc4
           refine wc_sr ?_
           refine WL.mv rfl rfl ?_
           refine WL.as rfl rfl ?_
           refine WL.ns ?_
           refine wc_ret ?_
           refine we_blk_ret ?_
           refine we_seq_ret ?_
           refine we_lp_ret ?_
           refine we_blk_ret ?_
           refine we_lp_ret ?_
           exact we_ret (rs1 rfl (rv_t rfl)) ⟨t67, h, (Le.refl _), ⟨⟨rfl, Les.refl _⟩, ⟨rfl, Les.refl _⟩, ⟨rfl, rfl, rfl, rfl⟩, trivial⟩⟩
          ·replace h := condF h hc4
           refine wc_skip ?_
           refine we_blk ?_
           refine we_seq ?_
           refine wc_region ?_
           refine WL.qn (y_add rfl rfl rfl) rfl ?_
           refine WL.mv rfl rfl ?_
           refine WL.nil ?_
           exact we_lp ⟨n, ⟨(IntKind.i64.wrap (t67 + 1)), h, (Sub.cons rfl (Le.refl _) (Sub.cons rfl (Le.refl _) (Sub.cons rfl (Le.refl _) (Sub.cons rfl (Le.refl _) (Sub.nil _))))), ⟨⟨rfl, Les.refl _⟩, ⟨rfl, Les.refl _⟩, ⟨rfl, rfl, rfl, rfl⟩, trivial⟩⟩, Nat.lt_succ_self n⟩
        ·replace h := condF h hc3
         refine wc_exit ?_
         refine we_seq_exit ?_
         refine we_lp_exit ?_
         refine we_blk_hit ?_
         exact we_lp ⟨h, (Sub.nil _), ⟨⟨rfl, Les.refl _⟩, ⟨rfl, Les.refl _⟩, ⟨rfl, rfl, rfl, rfl⟩, trivial⟩⟩
       ·rintro env1 st1 ⟨h, hsub, hst⟩
        subst hk65
        dsimp only at h
        refine WC.sub hsub (WC.weak hst ?_)
        refine wc_sr ?_
        refine WL.as rfl rfl ?_
        refine WL.ns ?_
        refine wc_ret ?_
        exact we_ret (rs1 rfl (rv_t rfl)) ⟨(-1), h, (Le.refl _), ⟨⟨rfl, Les.refl _⟩, ⟨rfl, Les.refl _⟩, ⟨rfl, rfl, rfl, rfl⟩, trivial⟩⟩
      ·rintro rv st1 ⟨t63, h, hr, hst⟩
       subst hk64
       dsimp only at h
       refine WL.cast 10 rfl hr ?_
       refine WL.weak hst ?_
       refine WL.as rfl rfl ?_
       refine WL.ns ?_
       refine wc_seq ?_
       refine wc_sr ?_
       refine WL.mv rfl rfl ?_
       refine WL.qn (y_eql rfl rfl) rfl ?_
       refine WL.ns ?_
       refine wc_cond rfl (fun hc5 => ?_) (fun hc5 => ?_)
       ·replace h := condT h hc5
        refine wc_sr ?_
        refine WL.freezeX [0, 8] [] 2 (List.map E3 r57) rfl (encA_map E3_eq r57) ⟨rfl, rfl, trivial⟩ trivial ?_
        refine WL.mv rfl rfl ?_
        refine WL.as rfl rfl ?_
        refine WL.ns ?_
        refine wc_ret ?_
        refine we_seq_ret ?_
        exact we_ret (rs1 rfl (rv_t rfl)) ⟨r57, h, (Le.refl _), ⟨⟨rfl, Les.refl _⟩, ⟨rfl, Les.refl _⟩, trivial, trivial⟩⟩
       ·replace h := condF h hc5
        refine wc_skip ?_
        refine we_seq ?_
        replace h := letkS h
        obtain ⟨k74, hk74, h⟩ := h
        refine wc_cut (fun env' st' => ∃ (iq72 : Int), ∃ (l73 : List Int), k74 iq72 l73 = some r ∧ Sub [(0, .os 2 ver58), (5, .d (D.i .i64 iq72))] env' ∧ SLe st' [.row 26 (vecA 32 (fun j => .d (.sl (List.map E3 (r49.ready j)))) ++ ([.d (.sl (List.map E62 r49.delays)), .d (D.i .i64 r49.run)] : List AV)), .row 26 [.d (.v (.slice none 0 0)), .d (.v (.slice none 0 0)), .d (.v (.slice none 0 0)), .d (.v (.slice none 0 0)), .d (.v (.slice none 0 0)), .d (.v (.slice none 0 0)), .d (.v (.slice none 0 0)), .d (.v (.slice none 0 0)), .d (.v (.slice none 0 0)), .d (.v (.slice none 0 0)), .d (.v (.slice none 0 0)), .d (.v (.slice none 0 0)), .d (.v (.slice none 0 0)), .d (.v (.slice none 0 0)), .d (.v (.slice none 0 0)), .d (.v (.slice none 0 0)), .d (.v (.slice none 0 0)), .d (.v (.slice none 0 0)), .d (.v (.slice none 0 0)), .d (.v (.slice none 0 0)), .d (.v (.slice none 0 0)), .d (.v (.slice none 0 0)), .d (.v (.slice none 0 0)), .d (.v (.slice none 0 0)), .d (.v (.slice none 0 0)), .d (.v (.slice none 0 0)), .d (.v (.slice none 0 0)), .d (.v (.slice none 0 0)), .d (.v (.slice none 0 0)), .d (.v (.slice none 0 0)), .d (.v (.slice none 0 0)), .d (.v (.slice none 0 0)), .d (.v (.slice none 0 0)), .d (D.i .i64 0)], .os 3 1 ver58 (List.map (encA E3) l73)]) ?_ ?_
        ·refine wc_sr ?_
         refine WL.mv rfl rfl ?_
         refine WL.qn (y_add rfl rfl rfl) rfl ?_
         refine WL.as rfl rfl ?_
         refine WL.ns ?_
         refine wc_block ?_
         refine wc_loop (fun n env' st' => ∃ (iq78 : Int), ∃ (j79 : Int), ∃ (l80 : List Int), f22_l2 task1 k74 n iq78 j79 l80 = some r ∧ Sub [(0, .os 2 ver58), (1, .fn (.func 45) [] [.d (.pc (E3 task1))]), (5, .d (D.i .i64 iq78)), (6, .d (D.i .i64 j79))] env' ∧ SLe st' [.row 26 (vecA 32 (fun j => .d (.sl (List.map E3 (r49.ready j)))) ++ ([.d (.sl (List.map E62 r49.delays)), .d (D.i .i64 r49.run)] : List AV)), .row 26 [.d (.v (.slice none 0 0)), .d (.v (.slice none 0 0)), .d (.v (.slice none 0 0)), .d (.v (.slice none 0 0)), .d (.v (.slice none 0 0)), .d (.v (.slice none 0 0)), .d (.v (.slice none 0 0)), .d (.v (.slice none 0 0)), .d (.v (.slice none 0 0)), .d (.v (.slice none 0 0)), .d (.v (.slice none 0 0)), .d (.v (.slice none 0 0)), .d (.v (.slice none 0 0)), .d (.v (.slice none 0 0)), .d (.v (.slice none 0 0)), .d (.v (.slice none 0 0)), .d (.v (.slice none 0 0)), .d (.v (.slice none 0 0)), .d (.v (.slice none 0 0)), .d (.v (.slice none 0 0)), .d (.v (.slice none 0 0)), .d (.v (.slice none 0 0)), .d (.v (.slice none 0 0)), .d (.v (.slice none 0 0)), .d (.v (.slice none 0 0)), .d (.v (.slice none 0 0)), .d (.v (.slice none 0 0)), .d (.v (.slice none 0 0)), .d (.v (.slice none 0 0)), .d (.v (.slice none 0 0)), .d (.v (.slice none 0 0)), .d (.v (.slice none 0 0)), .d (.v (.slice none 0 0)), .d (D.i .i64 0)], .os 3 1 ver58 (List.map (encA E3) l80)]) (fun n => n) 9223372036854775808 ⟨t63, (IntKind.i64.wrap (t63 + 1)), r57, h, (Sub.cons rfl (Le.refl _) (Sub.cons rfl (Le.refl _) (Sub.cons rfl (Le.refl _) (Sub.cons rfl (Le.refl _) (Sub.nil _))))), ⟨⟨rfl, Les.refl _⟩, ⟨rfl, Les.refl _⟩, ⟨rfl, rfl, rfl, rfl⟩, trivial⟩⟩ ?_
         rintro n env1 st1 ⟨iq78, j79, l80, h, hsub, hst⟩
         cases n with
         | zero => rw [f22_l2] at h; cases h
         | succ n =>
         rw [f22_l2] at h
         refine WC.sub hsub (WC.weak hst ?_)
         refine wc_seq ?_
         refine wc_sr ?_
         refine WL.mv rfl rfl ?_
         refine WL.mv rfl rfl ?_
         refine WL.qn (y_len_osmap (encA E3) l80 e22 rfl rfl rfl) rfl ?_
         refine WL.qn (y_lss rfl rfl) rfl ?_
         refine WL.ns ?_
         refine wc_cond rfl (fun hc6 => ?_) (fun hc6 => ?_)
         ·replace h := condT h hc6
          refine wc_skip ?_
          refine we_seq ?_
          replace h := letkS h
          obtain ⟨k86, hk86, h⟩ := h
          refine wc_cut (fun env' st' => ∃ (iq84 : Int), ∃ (l85 : List Int), k86 iq84 l85 = some r ∧ Sub [(0, .os 2 ver58), (1, .fn (.func 45) [] [.d (.pc (E3 task1))]), (5, .d (D.i .i64 iq84)), (6, .d (D.i .i64 j79))] env' ∧ SLe st' [.row 26 (vecA 32 (fun j => .d (.sl (List.map E3 (r49.ready j)))) ++ ([.d (.sl (List.map E62 r49.delays)), .d (D.i .i64 r49.run)] : List AV)), .row 26 [.d (.v (.slice none 0 0)), .d (.v (.slice none 0 0)), .d (.v (.slice none 0 0)), .d (.v (.slice none 0 0)), .d (.v (.slice none 0 0)), .d (.v (.slice none 0 0)), .d (.v (.slice none 0 0)), .d (.v (.slice none 0 0)), .d (.v (.slice none 0 0)), .d (.v (.slice none 0 0)), .d (.v (.slice none 0 0)), .d (.v (.slice none 0 0)), .d (.v (.slice none 0 0)), .d (.v (.slice none 0 0)), .d (.v (.slice none 0 0)), .d (.v (.slice none 0 0)), .d (.v (.slice none 0 0)), .d (.v (.slice none 0 0)), .d (.v (.slice none 0 0)), .d (.v (.slice none 0 0)), .d (.v (.slice none 0 0)), .d (.v (.slice none 0 0)), .d (.v (.slice none 0 0)), .d (.v (.slice none 0 0)), .d (.v (.slice none 0 0)), .d (.v (.slice none 0 0)), .d (.v (.slice none 0 0)), .d (.v (.slice none 0 0)), .d (.v (.slice none 0 0)), .d (.v (.slice none 0 0)), .d (.v (.slice none 0 0)), .d (.v (.slice none 0 0)), .d (.v (.slice none 0 0)), .d (D.i .i64 0)], .os 3 1 ver58 (List.map (encA E3) l85)]) ?_ ?_
          ·refine wc_block ?_
           refine wc_sr ?_
           refine WL.mv rfl rfl ?_
           refine WL.mv rfl rfl ?_
           obtain ⟨x87, hx87, h⟩ := bindS h
           refine WL.qn (y_pe e22 rfl rfl rfl hx87) rfl ?_
           refine WL.qn (y_load_peL (fo := 0) rfl rfl rfl a3 (fun _ => rfl) hx87 rfl) rfl ?_
           refine WL.as rfl rfl ?_
           refine WL.ns ?_
           refine wc_sr ?_
           refine WL.mv rfl rfl ?_
           refine WL.mv rfl rfl ?_
           obtain ⟨k89, hk89, h⟩ := letkS h
           refine WL.inl (us := [.d (D.i .i64 x87), .d (.pc (E3 task1))]) (fun rv st' => (k89 () = some r ∧ Le rv (.d (D.b (decide (x87 = task1)))) ∧ SLe st' [.row 26 (vecA 32 (fun j => .d (.sl (List.map E3 (r49.ready j)))) ++ ([.d (.sl (List.map E62 r49.delays)), .d (D.i .i64 r49.run)] : List AV)), .row 26 [.d (.v (.slice none 0 0)), .d (.v (.slice none 0 0)), .d (.v (.slice none 0 0)), .d (.v (.slice none 0 0)), .d (.v (.slice none 0 0)), .d (.v (.slice none 0 0)), .d (.v (.slice none 0 0)), .d (.v (.slice none 0 0)), .d (.v (.slice none 0 0)), .d (.v (.slice none 0 0)), .d (.v (.slice none 0 0)), .d (.v (.slice none 0 0)), .d (.v (.slice none 0 0)), .d (.v (.slice none 0 0)), .d (.v (.slice none 0 0)), .d (.v (.slice none 0 0)), .d (.v (.slice none 0 0)), .d (.v (.slice none 0 0)), .d (.v (.slice none 0 0)), .d (.v (.slice none 0 0)), .d (.v (.slice none 0 0)), .d (.v (.slice none 0 0)), .d (.v (.slice none 0 0)), .d (.v (.slice none 0 0)), .d (.v (.slice none 0 0)), .d (.v (.slice none 0 0)), .d (.v (.slice none 0 0)), .d (.v (.slice none 0 0)), .d (.v (.slice none 0 0)), .d (.v (.slice none 0 0)), .d (.v (.slice none 0 0)), .d (.v (.slice none 0 0)), .d (.v (.slice none 0 0)), .d (D.i .i64 0)], .os 3 1 ver58 (List.map (encA E3) l80)])) rfl rfl rfl rfl rfl ?_ (Wt.none rfl) rfl rfl ?_
           ·refine ctr_intro Try.func45 (by kernel_rfl) rfl rfl rfl (fun mm φφ ww hm88 => ?_)
            refine wc_sr ?_
            refine WL.as rfl rfl ?_
            refine WL.ns ?_
            refine wc_sr ?_
            refine WL.mv rfl rfl ?_
            refine WL.qn (y_loadc rfl a3 rfl) rfl ?_
            refine WL.qn (y_eql rfl rfl) rfl ?_
            refine WL.as rfl rfl ?_
            refine WL.ns ?_
            refine wc_ret ?_
            exact we_ret (rs1 rfl (rv_t rfl)) ⟨h, (Le.refl _), ⟨⟨rfl, Les.refl _⟩, ⟨rfl, Les.refl _⟩, ⟨rfl, rfl, rfl, rfl⟩, trivial⟩⟩
           ·rintro rv st1 ⟨h, hr, hst⟩
            subst hk89
            dsimp only at h
            refine WL.cast 28 rfl hr ?_
            refine WL.weak hst ?_
            refine WL.qn (y_not rfl) rfl ?_
            refine WL.ns ?_
            refine wc_cond rfl (fun hc7 => ?_) (fun hc7 => ?_)
            ·replace h := condT h hc7
             refine wc_sr ?_
             refine WL.mv rfl rfl ?_
             refine WL.mv rfl rfl ?_
             refine WL.mv rfl rfl ?_
             obtain ⟨x90, hx90, h⟩ := bindS h
             refine WL.qn (y_pe e22 rfl rfl rfl hx90) rfl ?_
             refine WL.s0 (d_store_peL (R := E3) (k := 1) (i := iq78) (fo := 0) x87 rfl rfl rfl rfl (Le.refl _) rfl rfl rfl s3 rfl (fun _ => rfl) hx90 rfl rfl) (Wt.none rfl) rfl ?_
             refine WL.st (st' := [.row 26 (vecA 32 (fun j => .d (.sl (List.map E3 (r49.ready j)))) ++ ([.d (.sl (List.map E62 r49.delays)), .d (D.i .i64 r49.run)] : List AV)), .row 26 [.d (.v (.slice none 0 0)), .d (.v (.slice none 0 0)), .d (.v (.slice none 0 0)), .d (.v (.slice none 0 0)), .d (.v (.slice none 0 0)), .d (.v (.slice none 0 0)), .d (.v (.slice none 0 0)), .d (.v (.slice none 0 0)), .d (.v (.slice none 0 0)), .d (.v (.slice none 0 0)), .d (.v (.slice none 0 0)), .d (.v (.slice none 0 0)), .d (.v (.slice none 0 0)), .d (.v (.slice none 0 0)), .d (.v (.slice none 0 0)), .d (.v (.slice none 0 0)), .d (.v (.slice none 0 0)), .d (.v (.slice none 0 0)), .d (.v (.slice none 0 0)), .d (.v (.slice none 0 0)), .d (.v (.slice none 0 0)), .d (.v (.slice none 0 0)), .d (.v (.slice none 0 0)), .d (.v (.slice none 0 0)), .d (.v (.slice none 0 0)), .d (.v (.slice none 0 0)), .d (.v (.slice none 0 0)), .d (.v (.slice none 0 0)), .d (.v (.slice none 0 0)), .d (.v (.slice none 0 0)), .d (.v (.slice none 0 0)), .d (.v (.slice none 0 0)), .d (.v (.slice none 0 0)), .d (D.i .i64 0)], .os 3 1 ver58 (List.map (encA E3) (List.set l80 (Int.toNat iq78) x87))]) rfl ?_
             refine WL.ns ?_
             refine wc_region ?_
             refine WL.mv rfl rfl ?_
             refine WL.qn (y_add rfl rfl rfl) rfl ?_
             refine WL.as rfl rfl ?_
             refine WL.nil ?_
             refine we_blk ?_
             exact we_lp ⟨(IntKind.i64.wrap (iq78 + 1)), (List.set l80 (Int.toNat iq78) x87), h, (Sub.cons rfl (Le.refl _) (Sub.cons rfl (Le.refl _) (Sub.cons rfl (Le.refl _) (Sub.cons rfl (Le.refl _) (Sub.nil _))))), ⟨⟨rfl, Les.refl _⟩, ⟨rfl, Les.refl _⟩, ⟨rfl, rfl, rfl, rfl⟩, trivial⟩⟩
            ·replace h := condF h hc7
             refine wc_skip ?_
             refine we_blk ?_
             exact we_lp ⟨iq78, l80, h, (Sub.cons rfl (Le.refl _) (Sub.cons rfl (Le.refl _) (Sub.cons rfl (Le.refl _) (Sub.cons rfl (Le.refl _) (Sub.nil _))))), ⟨⟨rfl, Les.refl _⟩, ⟨rfl, Les.refl _⟩, ⟨rfl, rfl, rfl, rfl⟩, trivial⟩⟩
          ·rintro env1 st1 ⟨iq84, l85, h, hsub, hst⟩
           subst hk86
           dsimp only at h
           refine WC.sub hsub (WC.weak hst ?_)
           refine wc_region ?_
           refine WL.mv rfl rfl ?_
           refine WL.qn (y_add rfl rfl rfl) rfl ?_
           refine WL.as rfl rfl ?_
           refine WL.nil ?_
           exact we_lp ⟨n, ⟨iq84, (IntKind.i64.wrap (j79 + 1)), l85, h, (Sub.cons rfl (Le.refl _) (Sub.cons rfl (Le.refl _) (Sub.cons rfl (Le.refl _) (Sub.cons rfl (Le.refl _) (Sub.nil _))))), ⟨⟨rfl, Les.refl _⟩, ⟨rfl, Les.refl _⟩, ⟨rfl, rfl, rfl, rfl⟩, trivial⟩⟩, Nat.lt_succ_self n⟩
         ·replace h := condF h hc6
          refine wc_exit ?_
          refine we_seq_exit ?_
          refine we_lp_exit ?_
          refine we_blk_hit ?_
          exact we_lp ⟨iq78, l80, h, (Sub.cons rfl (Le.refl _) (Sub.cons rfl (Le.refl _) (Sub.nil _))), ⟨⟨rfl, Les.refl _⟩, ⟨rfl, Les.refl _⟩, ⟨rfl, rfl, rfl, rfl⟩, trivial⟩⟩
        ·rintro env1 st1 ⟨iq72, l73, h, hsub, hst⟩
         subst hk74
         dsimp only at h
         refine WC.sub hsub (WC.weak hst ?_)
         refine wc_sr ?_
         refine WL.mv rfl rfl ?_
         refine WL.mv rfl rfl ?_
         replace h := guardBS h
         obtain ⟨hgg91, h⟩ := h
         refine WL.qn (y_sliceO l73 (l := iq72) (h := (List.length l73 : Int)) e22 rfl rfl ⟨_, rfl⟩ rfl hgg91) rfl ?_
         replace h := guardBS h
         obtain ⟨hgg92, h⟩ := h
         refine WL.s0 (d_clearL (R := E3) l73 (0 : Int) l22 z3 rfl (by decide) rfl rfl rfl rfl Piece.ow rfl rfl hgg92) (Wt.none rfl) rfl ?_
         refine WL.ns ?_
         refine wc_sr ?_
         refine WL.freezeX [0, 36] [] 2 (List.map E3 (clearF l73 (Int.toNat iq72) (Int.toNat (List.length l73 : Int) - Int.toNat iq72) (0 : Int))) rfl (encA_map E3_eq (clearF l73 (Int.toNat iq72) (Int.toNat (List.length l73 : Int) - Int.toNat iq72) (0 : Int))) ⟨rfl, rfl, trivial⟩ trivial ?_
         refine WL.mv rfl rfl ?_
         refine WL.mv rfl rfl ?_
         replace h := guardBS h
         obtain ⟨hgg93, h⟩ := h
         refine WL.qn (y_sliceL E3 (clearF l73 (Int.toNat iq72) (Int.toNat (List.length l73 : Int) - Int.toNat iq72) (0 : Int)) (l := 0) (h := iq72) e22 rfl (Le.refl _) rfl ⟨_, rfl⟩ hgg93 (fun _ => rfl)) rfl ?_
         refine WL.as rfl rfl ?_
         refine WL.ns ?_
         refine wc_ret ?_
         exact we_ret (rs1 rfl (rv_t rfl)) ⟨(sliceF (clearF l73 (Int.toNat iq72) (Int.toNat (List.length l73 : Int) - Int.toNat iq72) (0 : Int)) 0 iq72), h, (Le.refl _), ⟨⟨rfl, Les.refl _⟩, ⟨rfl, Les.refl _⟩, trivial, trivial⟩⟩
     ·rintro rv st1 ⟨t60, h, hr, hst⟩
      subst hk61
      dsimp only at h
      refine WL.cast 8 rfl hr ?_
      refine WL.weak hst ?_
      refine WL.as rfl rfl ?_
      refine WL.ns ?_
      refine wc_ret ?_
      exact we_ret (rs1 rfl (rv_t rfl)) ⟨t60, h, (Le.refl _), ⟨⟨rfl, Les.refl _⟩, ⟨rfl, Les.refl _⟩, trivial, trivial⟩⟩
    ·rintro rv st1 ⟨t55, h, hr, hst⟩
     subst hk56
     dsimp only at h
     refine WL.cast 34 rfl hr ?_
     refine WL.weak hst ?_
     refine WL.qn (y_fieldAddr f26_0 rfl) rfl ?_
     replace h := guardBS h
     obtain ⟨hgg94, h⟩ := h
     refine WL.qn (y_indexAddra ar23 rfl rfl (vecOk_0 hgg94) (vecOk_1 hgg94)) rfl ?_
     refine WL.s0 (d_storeV (off := 0) (n := 32) (cs' := (vecA 32 (fun j => .d (.sl (List.map E3 ((vset r49.ready (Int.toNat r48.1) t55) j)))) ++ ([.d (.sl (List.map E62 r49.delays)), .d (D.i .i64 r49.run)] : List AV))) (fun x => .d (.sl (List.map E3 x))) r49.ready t55 rfl rfl rfl (one_ok rfl) s22 rfl rfl hgg94 rfl) (Wt.none rfl) rfl ?_
     refine WL.st (st' := [.row 26 (vecA 32 (fun j => .d (.sl (List.map E3 ((vset r49.ready (Int.toNat r48.1) t55) j)))) ++ ([.d (.sl (List.map E62 r49.delays)), .d (D.i .i64 r49.run)] : List AV)), .row 26 [.d (.v (.slice none 0 0)), .d (.v (.slice none 0 0)), .d (.v (.slice none 0 0)), .d (.v (.slice none 0 0)), .d (.v (.slice none 0 0)), .d (.v (.slice none 0 0)), .d (.v (.slice none 0 0)), .d (.v (.slice none 0 0)), .d (.v (.slice none 0 0)), .d (.v (.slice none 0 0)), .d (.v (.slice none 0 0)), .d (.v (.slice none 0 0)), .d (.v (.slice none 0 0)), .d (.v (.slice none 0 0)), .d (.v (.slice none 0 0)), .d (.v (.slice none 0 0)), .d (.v (.slice none 0 0)), .d (.v (.slice none 0 0)), .d (.v (.slice none 0 0)), .d (.v (.slice none 0 0)), .d (.v (.slice none 0 0)), .d (.v (.slice none 0 0)), .d (.v (.slice none 0 0)), .d (.v (.slice none 0 0)), .d (.v (.slice none 0 0)), .d (.v (.slice none 0 0)), .d (.v (.slice none 0 0)), .d (.v (.slice none 0 0)), .d (.v (.slice none 0 0)), .d (.v (.slice none 0 0)), .d (.v (.slice none 0 0)), .d (.v (.slice none 0 0)), .d (.v (.slice none 0 0)), .d (D.i .i64 0)], .dead]) rfl ?_
     refine WL.nil ?_
     refine we_blk ?_
     refine WE.drop 2 (env' := [(2, .pt 0 0), (4, .pt 1 0)]) (Sub.one rfl (Sub.one rfl (Sub.nil _))) rfl rfl (Nat.zero_le _) ?_
     exact we_lp ⟨(vset r49.ready (Int.toNat r48.1) t55), r49.run, h, (Sub.cons rfl (Le.refl _) (Sub.cons rfl (Le.refl _) (Sub.nil _))), ⟨⟨rfl, Les.refl _⟩, ⟨rfl, Les.refl _⟩, trivial⟩⟩
   ·replace h := condF h hc2
    refine wc_sr ?_
    refine WL.qn (y_fieldAddr f26_2 rfl) rfl ?_
    refine WL.qn (y_load rfl rfl a3 rfl) rfl ?_
    refine WL.qn (y_loadc rfl a3 rfl) rfl ?_
    refine WL.qn (y_eql rfl rfl) rfl ?_
    refine WL.as rfl rfl ?_
    refine WL.ns ?_
    refine wc_cond rfl (fun hc8 => ?_) (fun hc8 => ?_)
    ·replace h := condT h hc8
     refine wc_region ?_
     refine WL.qn (y_fieldAddr f26_2 rfl) rfl ?_
     refine WL.s0 (d_store rfl rfl rfl rfl rfl rfl s3 rfl rfl) (Wt.none rfl) rfl ?_
     refine WL.st (st' := [.row 26 (vecA 32 (fun j => .d (.sl (List.map E3 (r49.ready j)))) ++ ([.d (.sl (List.map E62 r49.delays)), .d (D.i .i64 (-1))] : List AV)), .row 26 [.d (.v (.slice none 0 0)), .d (.v (.slice none 0 0)), .d (.v (.slice none 0 0)), .d (.v (.slice none 0 0)), .d (.v (.slice none 0 0)), .d (.v (.slice none 0 0)), .d (.v (.slice none 0 0)), .d (.v (.slice none 0 0)), .d (.v (.slice none 0 0)), .d (.v (.slice none 0 0)), .d (.v (.slice none 0 0)), .d (.v (.slice none 0 0)), .d (.v (.slice none 0 0)), .d (.v (.slice none 0 0)), .d (.v (.slice none 0 0)), .d (.v (.slice none 0 0)), .d (.v (.slice none 0 0)), .d (.v (.slice none 0 0)), .d (.v (.slice none 0 0)), .d (.v (.slice none 0 0)), .d (.v (.slice none 0 0)), .d (.v (.slice none 0 0)), .d (.v (.slice none 0 0)), .d (.v (.slice none 0 0)), .d (.v (.slice none 0 0)), .d (.v (.slice none 0 0)), .d (.v (.slice none 0 0)), .d (.v (.slice none 0 0)), .d (.v (.slice none 0 0)), .d (.v (.slice none 0 0)), .d (.v (.slice none 0 0)), .d (.v (.slice none 0 0)), .d (.v (.slice none 0 0)), .d (D.i .i64 0)]]) rfl ?_
     refine WL.nil ?_
     refine we_blk ?_
     exact we_lp ⟨r49.ready, (-1), h, (Sub.cons rfl (Le.refl _) (Sub.cons rfl (Le.refl _) (Sub.nil _))), ⟨⟨rfl, Les.refl _⟩, ⟨rfl, Les.refl _⟩, trivial⟩⟩
    ·replace h := condF h hc8
     refine wc_sr ?_
     refine WL.qn (y_build p26 z26 rfl rfl) rfl ?_
     refine WL.s0 (d_store rfl rfl rfl rfl rfl rfl s26 rfl rfl) (Wt.none rfl) rfl ?_
     refine WL.st (st' := [.row 26 (vecA 32 (fun j => .d (.sl (List.map E3 (r49.ready j)))) ++ ([.d (.sl (List.map E62 r49.delays)), .d (D.i .i64 r49.run)] : List AV)), .row 26 [.d (.v (.slice none 0 0)), .d (.v (.slice none 0 0)), .d (.v (.slice none 0 0)), .d (.v (.slice none 0 0)), .d (.v (.slice none 0 0)), .d (.v (.slice none 0 0)), .d (.v (.slice none 0 0)), .d (.v (.slice none 0 0)), .d (.v (.slice none 0 0)), .d (.v (.slice none 0 0)), .d (.v (.slice none 0 0)), .d (.v (.slice none 0 0)), .d (.v (.slice none 0 0)), .d (.v (.slice none 0 0)), .d (.v (.slice none 0 0)), .d (.v (.slice none 0 0)), .d (.v (.slice none 0 0)), .d (.v (.slice none 0 0)), .d (.v (.slice none 0 0)), .d (.v (.slice none 0 0)), .d (.v (.slice none 0 0)), .d (.v (.slice none 0 0)), .d (.v (.slice none 0 0)), .d (.v (.slice none 0 0)), .d (.v (.slice none 0 0)), .d (.v (.slice none 0 0)), .d (.v (.slice none 0 0)), .d (.v (.slice none 0 0)), .d (.v (.slice none 0 0)), .d (.v (.slice none 0 0)), .d (.v (.slice none 0 0)), .d (.v (.slice none 0 0)), .d (.v (.slice none 0 0)), .d (D.i .i64 0)]]) rfl ?_
     refine WL.as rfl rfl ?_
     refine WL.ns ?_
     refine wc_ret ?_
     refine we_blk_ret ?_
     refine we_lp_ret ?_
     obtain rfl := Option.some.inj h
     exact we_ret_fn (rs2 rfl (rv_cN rfl rfl a26 s26 rfl) (rv_t rfl)) (Le.tud ⟨(Le.agd ⟨Le.nil, Le.nil, Le.nil, Le.nil, Le.nil, Le.nil, Le.nil, Le.nil, Le.nil, Le.nil, Le.nil, Le.nil, Le.nil, Le.nil, Le.nil, Le.nil, Le.nil, Le.nil, Le.nil, Le.nil, Le.nil, Le.nil, Le.nil, Le.nil, Le.nil, Le.nil, Le.nil, Le.nil, Le.nil, Le.nil, Le.nil, Le.nil, Le.nil, (Le.refl _), trivial⟩), (Le.refl _), trivial⟩)
  ·rintro env1 st1 ⟨c0050, c03351, h, hsub, hst⟩
   subst hk52
   dsimp only at h
   refine WC.sub hsub (WC.weak hst ?_)
   refine wc_sr ?_
   refine WL.qn (y_loadN rfl rfl a26 s26 rfl) rfl ?_
   refine WL.s0 (d_store rfl rfl rfl rfl rfl rfl s26 rfl rfl) (Wt.none rfl) rfl ?_
   refine WL.st (st' := [.row 26 (vecA 32 (fun j => .d (.sl (List.map E3 (c0050 j)))) ++ ([.d (.sl (List.map E62 r49.delays)), .d (D.i .i64 c03351)] : List AV)), .row 26 (vecA 32 (fun j => .d (.sl (List.map E3 (c0050 j)))) ++ ([.d (.sl (List.map E62 r49.delays)), .d (D.i .i64 c03351)] : List AV))]) rfl ?_
   refine WL.as rfl rfl ?_
   refine WL.ns ?_
   refine wc_ret ?_
   obtain rfl := Option.some.inj h
   exact we_ret_fn (rs2 rfl (rv_cN rfl rfl a26 s26 rfl) (rv_t rfl)) (Le.tud ⟨(Le.agd ⟨(Le.refl _), (Le.refl _), (Le.refl _), (Le.refl _), (Le.refl _), (Le.refl _), (Le.refl _), (Le.refl _), (Le.refl _), (Le.refl _), (Le.refl _), (Le.refl _), (Le.refl _), (Le.refl _), (Le.refl _), (Le.refl _), (Le.refl _), (Le.refl _), (Le.refl _), (Le.refl _), (Le.refl _), (Le.refl _), (Le.refl _), (Le.refl _), (Le.refl _), (Le.refl _), (Le.refl _), (Le.refl _), (Le.refl _), (Le.refl _), (Le.refl _), (Le.refl _), (Le.refl _), (Le.refl _), trivial⟩), (Le.refl _), trivial⟩)

theorem f5_c (prios0 : List Int) {r : Bool} (h : f5 prios0 = some r) : Pu Try.prog 5 [.sl (List.map E5 prios0)] (.b r) := by
 unfold f5 at h
 refine fn_intro Try.func5 (by kernel_rfl) rfl rfl rfl (fun φφ ww => ?_)
 refine wc_sr ?_
 refine WL.as rfl rfl ?_
 refine WL.ns ?_
 refine wc_seq ?_
 refine wc_sr ?_
 refine WL.mv rfl rfl ?_
 refine WL.qn (y_len_map E5 prios0 e48 rfl rfl (Le.refl _)) rfl ?_
 refine WL.qn (y_gtr rfl rfl) rfl ?_
 refine WL.ns ?_
 refine wc_cond rfl (fun hc1 => ?_) (fun hc1 => ?_)
 ·replace h := condT h hc1
  refine wc_sr ?_
  obtain ⟨r113, hr113, h⟩ := bindS h
  refine WL.fn rfl rfl rfl rfl (f11_c hr113) trivial (Wt.none rfl) rfl rfl ?_
  refine WL.as rfl rfl ?_
  refine WL.ns ?_
  refine wc_ret ?_
  refine we_seq_ret ?_
  obtain rfl := Option.some.inj h
  exact we_ret_fn (rs1 rfl (rv_t rfl)) (Le.refl _)
 ·replace h := condF h hc1
  refine wc_skip ?_
  refine we_seq ?_
  refine wc_sr ?_
  refine WL.fn rfl rfl rfl rfl (f16_c) trivial (Wt.none rfl) rfl rfl ?_
  refine WL.s ((b_alloc z26).does) (Wt.none rfl) rfl rfl ?_
  refine WL.s0 (d_store rfl rfl rfl rfl rfl rfl s26 rfl rfl) (Wt.none rfl) rfl ?_
  refine WL.st (st' := [.row 26 (vecA 32 (fun j => .d (.sl (List.map E3 (f16.ready j)))) ++ ([.d (.sl (List.map E62 f16.delays)), .d (D.i .i64 f16.run)] : List AV))]) rfl ?_
  refine WL.ns ?_
  replace h := letkS h
  obtain ⟨k117, hk117, h⟩ := h
  refine wc_cut (fun env' st' => ∃ (c00114 : Nat → (List Int)), ∃ (c032115 : List Due), ∃ (c033116 : Int), k117 c00114 c032115 c033116 = some r ∧ Sub [(0, .d (.sl (List.map E5 prios0))), (3, .pt 0 0)] env' ∧ SLe st' [.row 26 (vecA 32 (fun j => .d (.sl (List.map E3 (c00114 j)))) ++ ([.d (.sl (List.map E62 c032115)), .d (D.i .i64 c033116)] : List AV))]) ?_ ?_
  ·refine wc_sr ?_
   refine WL.as rfl rfl ?_
   refine WL.ns ?_
   refine wc_block ?_
   refine wc_loop (fun n env' st' => ∃ (iq122 : Int), ∃ (c00123 : Nat → (List Int)), ∃ (c032124 : List Due), ∃ (c033125 : Int), f5_l1 prios0 k117 n iq122 c00123 c032124 c033125 = some r ∧ Sub [(0, .d (.sl (List.map E5 prios0))), (3, .pt 0 0), (4, .d (D.i .i64 iq122))] env' ∧ SLe st' [.row 26 (vecA 32 (fun j => .d (.sl (List.map E3 (c00123 j)))) ++ ([.d (.sl (List.map E62 c032124)), .d (D.i .i64 c033125)] : List AV))]) (fun n => n) 9223372036854775808 ⟨0, f16.ready, f16.delays, f16.run, h, (Sub.cons rfl (Le.refl _) (Sub.cons rfl (Le.refl _) (Sub.cons rfl (Le.refl _) (Sub.nil _)))), ⟨⟨rfl, Les.refl _⟩, trivial⟩⟩ ?_
   rintro n env1 st1 ⟨iq122, c00123, c032124, c033125, h, hsub, hst⟩
   cases n with
   | zero => rw [f5_l1] at h; cases h
   | succ n =>
   rw [f5_l1] at h
   refine WC.sub hsub (WC.weak hst ?_)
   refine wc_seq ?_
   refine wc_sr ?_
   refine WL.mv rfl rfl ?_
   refine WL.mv rfl rfl ?_
   refine WL.qn (y_len_map E5 prios0 e48 rfl rfl (Le.refl _)) rfl ?_
   refine WL.qn (y_lss rfl rfl) rfl ?_
   refine WL.ns ?_
   refine wc_cond rfl (fun hc2 => ?_) (fun hc2 => ?_)
   ·replace h := condT h hc2
    refine wc_skip ?_
    refine we_seq ?_
    refine wc_seq ?_
    refine wc_block ?_
    refine wc_seq ?_
    obtain ⟨x130, hx130, h⟩ := bindS h
    obtain ⟨r131, hr131, h⟩ := bindS h
    apply wc_region_all [_, _, _, _, _, _, _, _, _, _, _, _, _, .u, _] [[], [], [], [1, 2], [1, 2, 3], [1, 2, 3, 4], [1, 2, 3, 4, 5], [], [0, 1, 2, 3, 4, 5, 6, 7], [0, 1, 2, 3, 4, 5, 6, 7, 8], [0, 1, 2, 3, 4, 5, 6, 7, 8, 9], [0, 1, 2, 3, 4, 5, 6, 7, 8, 9], [], [0, 1, 2, 3, 4, 5, 6, 7, 8, 9, 10, 12], [0, 1, 2, 3, 4, 5, 6, 7, 8, 9, 10, 11, 12, 13]] [12, 13] (fun c => List.getD [[.row 26 (vecA 32 (fun j => .d (.sl (List.map E3 (c00123 j)))) ++ ([.d (.sl (List.map E62 c032124)), .d (D.i .i64 c033125)] : List AV))], [.row 26 (vecA 32 (fun j => .d (.sl (List.map E3 (c00123 j)))) ++ ([.d (.sl (List.map E62 c032124)), .d (D.i .i64 c033125)] : List AV)), .row 26 [.d (.v (.slice none 0 0)), .d (.v (.slice none 0 0)), .d (.v (.slice none 0 0)), .d (.v (.slice none 0 0)), .d (.v (.slice none 0 0)), .d (.v (.slice none 0 0)), .d (.v (.slice none 0 0)), .d (.v (.slice none 0 0)), .d (.v (.slice none 0 0)), .d (.v (.slice none 0 0)), .d (.v (.slice none 0 0)), .d (.v (.slice none 0 0)), .d (.v (.slice none 0 0)), .d (.v (.slice none 0 0)), .d (.v (.slice none 0 0)), .d (.v (.slice none 0 0)), .d (.v (.slice none 0 0)), .d (.v (.slice none 0 0)), .d (.v (.slice none 0 0)), .d (.v (.slice none 0 0)), .d (.v (.slice none 0 0)), .d (.v (.slice none 0 0)), .d (.v (.slice none 0 0)), .d (.v (.slice none 0 0)), .d (.v (.slice none 0 0)), .d (.v (.slice none 0 0)), .d (.v (.slice none 0 0)), .d (.v (.slice none 0 0)), .d (.v (.slice none 0 0)), .d (.v (.slice none 0 0)), .d (.v (.slice none 0 0)), .d (.v (.slice none 0 0)), .d (.v (.slice none 0 0)), .d (D.i .i64 0)]], [.row 26 (vecA 32 (fun j => .d (.sl (List.map E3 (c00123 j)))) ++ ([.d (.sl (List.map E62 c032124)), .d (D.i .i64 c033125)] : List AV)), .row 26 (vecA 32 (fun j => .d (.sl (List.map E3 (r131.1.ready j)))) ++ ([.d (.sl (List.map E62 r131.1.delays)), .d (D.i .i64 r131.1.run)] : List AV))]] c []) [([], [3], [0, 1]), ([], [0], [0, 1]), ([], [4], [0, 1]), ([1, 2], [], [0, 1]), ([3], [], [0, 1]), ([4], [], [0, 1]), ([5], [], [0, 1]), ([], [4], [0, 1]), ([0, 6, 7], [], [0, 1]), ([8], [], [0, 1]), ([9], [], [0, 1]), ([9], [], [0, 1, 2]), ([], [], [0]), ([12, 10], [], [1]), ([11], [], [2])] (by kernel_rfl) (by kernel_rfl) rfl rfl rfl
    ·refine ⟨?_, ?_, ?_, ?_, ?_, ?_, ?_, ?_, ?_, ?_, ?_, ?_, ?_, ?_, ?_, trivial⟩
     ·refine ⟨fun F => ?_, fun F => ?_, trivial⟩
      ·refine WL.qn (y_loadN rfl rfl a26 s26 rfl) rfl ?_
       exact WL.done1 rfl rfl rfl
      ·refine WL.qn (y_loadN rfl rfl a26 s26 rfl) rfl ?_
       exact WL.done1 rfl rfl rfl
     ·refine ⟨fun F => ?_, fun F => ?_, trivial⟩
      ·refine WL.mv rfl rfl ?_
       exact WL.done1 rfl rfl rfl
      ·refine WL.mv rfl rfl ?_
       exact WL.done1 rfl rfl rfl
     ·refine ⟨fun F => ?_, fun F => ?_, trivial⟩
      ·refine WL.mv rfl rfl ?_
       exact WL.done1 rfl rfl rfl
      ·refine WL.mv rfl rfl ?_
       exact WL.done1 rfl rfl rfl
     ·refine ⟨fun F => ?_, fun F => ?_, trivial⟩
      ·refine WL.qn (y_indexAddr e48 rfl (Le.refl _) rfl (idx_nonneg hx130) (idx_row E5_eq hx130) rfl) rfl ?_
       exact WL.done1 rfl rfl rfl
      ·refine WL.qn (y_indexAddr e48 rfl (Le.refl _) rfl (idx_nonneg hx130) (idx_row E5_eq hx130) rfl) rfl ?_
       exact WL.done1 rfl rfl rfl
     ·refine ⟨fun F => ?_, fun F => ?_, trivial⟩
      ·refine WL.qn (y_loadc rfl a5 rfl) rfl ?_
       exact WL.done1 rfl rfl rfl
      ·refine WL.qn (y_loadc rfl a5 rfl) rfl ?_
       exact WL.done1 rfl rfl rfl
     ·refine ⟨fun F => ?_, fun F => ?_, trivial⟩
      ·refine WL.qn (y_and rfl rfl rfl) rfl ?_
       exact WL.done1 rfl rfl rfl
      ·refine WL.qn (y_and rfl rfl rfl) rfl ?_
       exact WL.done1 rfl rfl rfl
     ·refine ⟨fun F => ?_, fun F => ?_, trivial⟩
      ·refine WL.qn (y_conv Try.underlying5 Try.underlying3 rfl rfl) rfl ?_
       exact WL.done1 rfl rfl rfl
      ·refine WL.qn (y_conv Try.underlying5 Try.underlying3 rfl rfl) rfl ?_
       exact WL.done1 rfl rfl rfl
     ·refine ⟨fun F => ?_, fun F => ?_, trivial⟩
      ·refine WL.mv rfl rfl ?_
       exact WL.done1 rfl rfl rfl
      ·refine WL.mv rfl rfl ?_
       exact WL.done1 rfl rfl rfl
     ·refine ⟨fun F => ?_, fun F => ?_, trivial⟩
      ·refine WL.fn rfl rfl rfl rfl (f21_c _ _ _ hr131) ⟨(Le.agd ⟨(Le.refl _), (Le.refl _), (Le.refl _), (Le.refl _), (Le.refl _), (Le.refl _), (Le.refl _), (Le.refl _), (Le.refl _), (Le.refl _), (Le.refl _), (Le.refl _), (Le.refl _), (Le.refl _), (Le.refl _), (Le.refl _), (Le.refl _), (Le.refl _), (Le.refl _), (Le.refl _), (Le.refl _), (Le.refl _), (Le.refl _), (Le.refl _), (Le.refl _), (Le.refl _), (Le.refl _), (Le.refl _), (Le.refl _), (Le.refl _), (Le.refl _), (Le.refl _), (Le.refl _), (Le.refl _), trivial⟩), (Le.refl _), (Le.refl _), trivial⟩ (Wt.none rfl) rfl rfl ?_
       exact WL.done1 rfl rfl rfl
      ·refine WL.fn rfl rfl rfl rfl (f21_c _ _ _ hr131) ⟨(Le.agd ⟨(Le.refl _), (Le.refl _), (Le.refl _), (Le.refl _), (Le.refl _), (Le.refl _), (Le.refl _), (Le.refl _), (Le.refl _), (Le.refl _), (Le.refl _), (Le.refl _), (Le.refl _), (Le.refl _), (Le.refl _), (Le.refl _), (Le.refl _), (Le.refl _), (Le.refl _), (Le.refl _), (Le.refl _), (Le.refl _), (Le.refl _), (Le.refl _), (Le.refl _), (Le.refl _), (Le.refl _), (Le.refl _), (Le.refl _), (Le.refl _), (Le.refl _), (Le.refl _), (Le.refl _), (Le.refl _), trivial⟩), (Le.refl _), (Le.refl _), trivial⟩ (Wt.none rfl) rfl rfl ?_
       exact WL.done1 rfl rfl rfl
     ·refine ⟨fun F => ?_, fun F => ?_, trivial⟩
      ·refine WL.mv rfl rfl ?_
       exact WL.done1 rfl rfl rfl
      ·refine WL.mv rfl rfl ?_
       exact WL.done1 rfl rfl rfl
     ·refine ⟨fun F => ?_, fun F => ?_, trivial⟩
      ·refine WL.qn (y_extractd rfl rfl) rfl ?_
       exact WL.done1 rfl rfl rfl
      ·refine WL.qn (y_extractd rfl rfl) rfl ?_
       exact WL.done1 rfl rfl rfl
     ·refine ⟨fun F => ?_, fun F => ?_, fun F => ?_, trivial⟩
      ·refine WL.qn (y_extractd rfl rfl) rfl ?_
       exact WL.done1 rfl rfl rfl
      ·refine WL.qn (y_extractd rfl rfl) rfl ?_
       exact WL.done1 rfl rfl rfl
      ·refine WL.qn (y_extractd rfl rfl) rfl ?_
       exact WL.done1 rfl rfl rfl
     ·refine ⟨fun F => ?_, trivial⟩
      refine WL.s ((b_alloc z26).does) (Wt.none rfl) rfl rfl ?_
      exact WL.done1 rfl rfl rfl
     ·refine ⟨fun F => ?_, trivial⟩
      refine WL.s0 (d_store rfl rfl rfl rfl rfl rfl s26 rfl rfl) (Wt.none rfl) rfl ?_
      exact WL.done0 rfl rfl
     ·refine ⟨fun F => ?_, trivial⟩
      refine WL.as rfl rfl ?_
      exact WL.done1 rfl rfl rfl
    ·refine we_seq ?_
     refine wc_seq ?_
     refine wc_sr ?_
     refine WL.mv rfl rfl ?_
     refine WL.qn (y_neq rfl rfl) rfl ?_
     refine WL.ns ?_
     refine wc_cond rfl (fun hc3 => ?_) (fun hc3 => ?_)
     ·replace h := condT h hc3
      refine wc_sr ?_
      refine WL.as rfl rfl ?_
      refine WL.ns ?_
      refine wc_ret ?_
      refine we_seq_ret ?_
      refine we_blk_ret ?_
      refine we_seq_ret ?_
      refine we_lp_ret ?_
      refine we_blk_ret ?_
      refine we_lp_ret ?_
      obtain rfl := Option.some.inj h
      exact we_ret_fn (rs1 rfl (rv_t rfl)) (Le.refl _)
     ·replace h := condF h hc3
      refine wc_skip ?_
      refine we_seq ?_
      refine wc_region ?_
      refine WL.qn (y_loadN rfl rfl a26 s26 rfl) rfl ?_
      refine WL.s0 (d_store rfl rfl rfl rfl rfl rfl s26 rfl rfl) (Wt.none rfl) rfl ?_
      refine WL.st (st' := [.row 26 (vecA 32 (fun j => .d (.sl (List.map E3 (r131.1.ready j)))) ++ ([.d (.sl (List.map E62 r131.1.delays)), .d (D.i .i64 r131.1.run)] : List AV)), .row 26 (vecA 32 (fun j => .d (.sl (List.map E3 (r131.1.ready j)))) ++ ([.d (.sl (List.map E62 r131.1.delays)), .d (D.i .i64 r131.1.run)] : List AV))]) rfl ?_
      refine WL.nil ?_
      refine we_blk ?_
      refine we_seq ?_
      refine wc_region ?_
      refine WL.mv rfl rfl ?_
      refine WL.qn (y_add rfl rfl rfl) rfl ?_
      refine WL.as rfl rfl ?_
      refine WL.nil ?_
      refine WE.drop 1 (env' := [(0, .d (.sl (List.map E5 prios0))), (3, .pt 0 0), (4, .d (D.i .i64 (IntKind.i64.wrap (iq122 + 1))))]) (Sub.one rfl (Sub.one rfl (Sub.one rfl (Sub.nil _)))) rfl rfl (Nat.zero_le _) ?_
      exact we_lp ⟨n, ⟨(IntKind.i64.wrap (iq122 + 1)), r131.1.ready, r131.1.delays, r131.1.run, h, (Sub.cons rfl (Le.refl _) (Sub.cons rfl (Le.refl _) (Sub.cons rfl (Le.refl _) (Sub.nil _)))), ⟨⟨rfl, Les.refl _⟩, trivial⟩⟩, Nat.lt_succ_self n⟩
   ·replace h := condF h hc2
    refine wc_exit ?_
    refine we_seq_exit ?_
    refine we_lp_exit ?_
    refine we_blk_hit ?_
    exact we_lp ⟨c00123, c032124, c033125, h, (Sub.cons rfl (Le.refl _) (Sub.cons rfl (Le.refl _) (Sub.nil _))), ⟨⟨rfl, Les.refl _⟩, trivial⟩⟩
  ·rintro env1 st1 ⟨c00114, c032115, c033116, h, hsub, hst⟩
   subst hk117
   dsimp only at h
   refine WC.sub hsub (WC.weak hst ?_)
   refine wc_sr ?_
   refine WL.as rfl rfl ?_
   refine WL.as rfl rfl ?_
   refine WL.ns ?_
   replace h := letkS h
   obtain ⟨k135, hk135, h⟩ := h
   refine wc_cut (fun env' st' => ∃ (c00132 : Nat → (List Int)), ∃ (c032133 : List Due), ∃ (c033134 : Int), k135 c00132 c032133 c033134 = some r ∧ Sub [(3, .pt 0 0)] env' ∧ SLe st' [.row 26 (vecA 32 (fun j => .d (.sl (List.map E3 (c00132 j)))) ++ ([.d (.sl (List.map E62 c032133)), .d (D.i .i64 c033134)] : List AV))]) ?_ ?_
   ·refine wc_sr ?_
    refine WL.as rfl rfl ?_
    refine WL.ns ?_
    refine wc_block ?_
    refine wc_loop (fun n env' st' => ∃ (last142 : Int), ∃ (seen143 : Int), ∃ (iq144 : Int), ∃ (c00145 : Nat → (List Int)), ∃ (c032146 : List Due), ∃ (c033147 : Int), f5_l2 prios0 k135 n last142 seen143 iq144 c00145 c032146 c033147 = some r ∧ Sub [(0, .d (.sl (List.map E5 prios0))), (3, .pt 0 0), (7, .d (D.i .i64 last142)), (8, .d (D.i .i64 seen143)), (9, .d (D.i .i64 iq144))] env' ∧ SLe st' [.row 26 (vecA 32 (fun j => .d (.sl (List.map E3 (c00145 j)))) ++ ([.d (.sl (List.map E62 c032146)), .d (D.i .i64 c033147)] : List AV))]) (fun n => n) 9223372036854775808 ⟨31, (-1), 0, c00114, c032115, c033116, h, (Sub.cons rfl (Le.refl _) (Sub.cons rfl (Le.refl _) (Sub.cons rfl (Le.refl _) (Sub.cons rfl (Le.refl _) (Sub.cons rfl (Le.refl _) (Sub.nil _)))))), ⟨⟨rfl, Les.refl _⟩, trivial⟩⟩ ?_
    rintro n env1 st1 ⟨last142, seen143, iq144, c00145, c032146, c033147, h, hsub, hst⟩
    cases n with
    | zero => rw [f5_l2] at h; cases h
    | succ n =>
    rw [f5_l2] at h
    refine WC.sub hsub (WC.weak hst ?_)
    refine wc_seq ?_
    refine wc_sr ?_
    refine WL.mv rfl rfl ?_
    refine WL.mv rfl rfl ?_
    refine WL.qn (y_len_map E5 prios0 e48 rfl rfl (Le.refl _)) rfl ?_
    refine WL.qn (y_lss rfl rfl) rfl ?_
    refine WL.ns ?_
    refine wc_cond rfl (fun hc4 => ?_) (fun hc4 => ?_)
    ·replace h := condT h hc4
     refine wc_skip ?_
     refine we_seq ?_
     refine wc_seq ?_
     refine wc_block ?_
     refine wc_sr ?_
     refine WL.qn (y_loadN rfl rfl a26 s26 rfl) rfl ?_
     obtain ⟨r154, hr154, h⟩ := bindS h
     refine WL.fn rfl rfl rfl rfl (f12_c _ _ hr154) ⟨(Le.agd ⟨(Le.refl _), (Le.refl _), (Le.refl _), (Le.refl _), (Le.refl _), (Le.refl _), (Le.refl _), (Le.refl _), (Le.refl _), (Le.refl _), (Le.refl _), (Le.refl _), (Le.refl _), (Le.refl _), (Le.refl _), (Le.refl _), (Le.refl _), (Le.refl _), (Le.refl _), (Le.refl _), (Le.refl _), (Le.refl _), (Le.refl _), (Le.refl _), (Le.refl _), (Le.refl _), (Le.refl _), (Le.refl _), (Le.refl _), (Le.refl _), (Le.refl _), (Le.refl _), (Le.refl _), (Le.refl _), trivial⟩), (Le.refl _), trivial⟩ (Wt.none rfl) rfl rfl ?_
     refine WL.mv rfl rfl ?_
     refine WL.qn (y_extractd rfl rfl) rfl ?_
     refine WL.qn (y_extractd rfl rfl) rfl ?_
     refine WL.s ((b_alloc z26).does) (Wt.none rfl) rfl rfl ?_
     refine WL.s0 (d_store rfl rfl rfl rfl rfl rfl s26 rfl rfl) (Wt.none rfl) rfl ?_
     refine WL.st (st' := [.row 26 (vecA 32 (fun j => .d (.sl (List.map E3 (c00145 j)))) ++ ([.d (.sl (List.map E62 c032146)), .d (D.i .i64 c033147)] : List AV)), .row 26 (vecA 32 (fun j => .d (.sl (List.map E3 (r154.1.ready j)))) ++ ([.d (.sl (List.map E62 r154.1.delays)), .d (D.i .i64 r154.1.run)] : List AV))]) rfl ?_
     refine WL.as rfl rfl ?_
     refine WL.ns ?_
     refine wc_seq ?_
     refine wc_sr ?_
     refine WL.mv rfl rfl ?_
     refine WL.qn (y_neq rfl rfl) rfl ?_
     refine WL.mv rfl rfl ?_
     apply WL.or 4 (t := 55) (d := 59)
     ·exact rfl
     ·intro hg55
      refine WL.qy (y_fieldAddr f26_2 rfl) rfl rfl rfl ?_
      refine WL.qy (y_load rfl rfl a3 rfl) rfl rfl rfl ?_
      refine WL.qy (y_lss rfl rfl) rfl rfl rfl ?_
      refine WL.qn (y_pick_f rfl rfl) rfl ?_
      exact WL.nil ⟨rfl, [_, _, _, _], rfl, rfl, rfl⟩
     ·refine WL.skips 3 rfl ?_
      refine WL.qn (y_pick_t rfl rfl) rfl ?_
      exact WL.nil ⟨rfl, [_, _, _, _], rfl, rfl, rfl⟩
     refine WL.mv rfl rfl ?_
     apply WL.or 6 (t := 60) (d := 66)
     ·exact rfl
     ·intro hg60
      refine WL.qy (y_fieldAddr f26_2 rfl) rfl rfl rfl ?_
      refine WL.qy (y_load rfl rfl a3 rfl) rfl rfl rfl ?_
      refine WL.qy (y_move rfl) rfl rfl rfl ?_
      refine WL.qy (y_len_map E5 prios0 e48 rfl rfl (Le.refl _)) rfl rfl rfl ?_
      refine WL.qy (y_geq rfl rfl) rfl rfl rfl ?_
      refine WL.qn (y_pick_f rfl rfl) rfl ?_
      exact WL.nil ⟨rfl, [_, _, _, _, _, _], rfl, rfl, rfl⟩
     ·refine WL.skips 5 rfl ?_
      refine WL.qn (y_pick_t rfl rfl) rfl ?_
      exact WL.nil ⟨rfl, [_, _, _, _, _, _], rfl, rfl, rfl⟩
     refine WL.ns ?_
     refine wc_cond rfl (fun hc5 => ?_) (fun hc5 => ?_)
     ·replace h := condT h hc5
      refine wc_sr ?_
      refine WL.as rfl rfl ?_
      refine WL.ns ?_
      refine wc_ret ?_
      refine we_seq_ret ?_
      refine we_blk_ret ?_
      refine we_seq_ret ?_
      refine we_lp_ret ?_
      refine we_blk_ret ?_
      refine we_lp_ret ?_
      obtain rfl := Option.some.inj h
      exact we_ret_fn (rs1 rfl (rv_t rfl)) (Le.refl _)
     ·replace h := condF h hc5
      refine wc_skip ?_
      refine we_seq ?_
      refine wc_sr ?_
      refine WL.mv rfl rfl ?_
      refine WL.qn (y_fieldAddr f26_2 rfl) rfl ?_
      refine WL.qn (y_load rfl rfl a3 rfl) rfl ?_
      obtain ⟨x155, hx155, h⟩ := bindS h
      refine WL.qn (y_indexAddr e48 rfl (Le.refl _) rfl (idx_nonneg hx155) (idx_row E5_eq hx155) rfl) rfl ?_
      refine WL.qn (y_loadc rfl a5 rfl) rfl ?_
      refine WL.qn (y_and rfl rfl rfl) rfl ?_
      refine WL.qn (y_conv Try.underlying5 Try.underlying3 rfl rfl) rfl ?_
      refine WL.as rfl rfl ?_
      refine WL.ns ?_
      refine wc_seq ?_
      refine wc_sr ?_
      refine WL.mv rfl rfl ?_
      refine WL.mv rfl rfl ?_
      refine WL.qn (y_gtr rfl rfl) rfl ?_
      refine WL.mv rfl rfl ?_
      apply WL.or 10 (t := 77) (d := 87)
      ·exact rfl
      ·intro hg77
       refine WL.qy (y_move rfl) rfl rfl rfl ?_
       refine WL.qy (y_move rfl) rfl rfl rfl ?_
       refine WL.qy (y_eql rfl rfl) rfl rfl rfl ?_
       refine WL.qy (y_move rfl) rfl rfl rfl ?_
       apply WL.and 5 (t := 81) (d := 86)
       ·exact rfl
       ·intro hg81
        refine WL.qy (y_fieldAddr f26_2 rfl) rfl rfl rfl ?_
        refine WL.qy (y_load rfl rfl a3 rfl) rfl rfl rfl ?_
        refine WL.qy (y_move rfl) rfl rfl rfl ?_
        refine WL.qy (y_lss rfl rfl) rfl rfl rfl ?_
        refine WL.qy (y_pick_t rfl rfl) rfl rfl rfl ?_
        exact WL.nil ⟨rfl, [_, _, _, _, _], rfl, rfl, rfl⟩
       ·refine WL.skips 4 rfl ?_
        refine WL.qy (y_pick_f rfl rfl) rfl rfl rfl ?_
        exact WL.nil ⟨rfl, [_, _, _, _, _], rfl, rfl, rfl⟩
       refine WL.qn (y_pick_f rfl rfl) rfl ?_
       exact WL.nil ⟨rfl, [_, _, _, _, _, _], rfl, rfl, rfl⟩
      ·refine WL.skips 9 rfl ?_
       refine WL.qn (y_pick_t rfl rfl) rfl ?_
       exact WL.nil ⟨rfl, [_, _, _, _, _, _, _, _, _, _], rfl, rfl, rfl⟩
      refine WL.ns ?_
      refine wc_cond rfl (fun hc6 => ?_) (fun hc6 => ?_)
      ·replace h := condT h hc6
       refine wc_sr ?_
       refine WL.as rfl rfl ?_
       refine WL.ns ?_
       refine wc_ret ?_
       refine we_seq_ret ?_
       refine we_blk_ret ?_
       refine we_seq_ret ?_
       refine we_lp_ret ?_
       refine we_blk_ret ?_
       refine we_lp_ret ?_
       obtain rfl := Option.some.inj h
       exact we_ret_fn (rs1 rfl (rv_t rfl)) (Le.refl _)
      ·replace h := condF h hc6
       refine wc_skip ?_
       refine we_seq ?_
       refine wc_seq ?_
       refine wc_region_draw (by kernel_rfl) (by kernel_rfl) ?_
       refine WQ.qn (y_move rfl) rfl ?_
       refine WQ.qn (y_fieldAddr f26_2 rfl) rfl ?_
       refine WQ.qn (y_load rfl rfl a3 rfl) rfl ?_
       refine WQ.qn (y_assign rfl) rfl ?_
       refine WQ.qn (y_assign rfl) rfl ?_
       refine WQ.nil ?_
       refine we_seq ?_
       refine wc_sr ?_
       refine WL.qn (y_loadN rfl rfl a26 s26 rfl) rfl ?_
       refine WL.qn (y_fieldAddr f26_2 rfl) rfl ?_
       refine WL.qn (y_load rfl rfl a3 rfl) rfl ?_
       obtain ⟨r156, hr156, h⟩ := bindS h
       refine WL.fn rfl rfl rfl rfl (f22_c _ _ hr156) ⟨(Le.agd ⟨(Le.refl _), (Le.refl _), (Le.refl _), (Le.refl _), (Le.refl _), (Le.refl _), (Le.refl _), (Le.refl _), (Le.refl _), (Le.refl _), (Le.refl _), (Le.refl _), (Le.refl _), (Le.refl _), (Le.refl _), (Le.refl _), (Le.refl _), (Le.refl _), (Le.refl _), (Le.refl _), (Le.refl _), (Le.refl _), (Le.refl _), (Le.refl _), (Le.refl _), (Le.refl _), (Le.refl _), (Le.refl _), (Le.refl _), (Le.refl _), (Le.refl _), (Le.refl _), (Le.refl _), (Le.refl _), trivial⟩), (Le.refl _), trivial⟩ (Wt.none rfl) rfl rfl ?_
       refine WL.mv rfl rfl ?_
       refine WL.qn (y_extractd rfl rfl) rfl ?_
       refine WL.qn (y_extractd rfl rfl) rfl ?_
       refine WL.s0 (d_store rfl rfl rfl rfl rfl rfl s26 rfl rfl) (Wt.none rfl) rfl ?_
       refine WL.st (st' := [.row 26 (vecA 32 (fun j => .d (.sl (List.map E3 (r156.1.ready j)))) ++ ([.d (.sl (List.map E62 r156.1.delays)), .d (D.i .i64 r156.1.run)] : List AV)), .row 26 (vecA 32 (fun j => .d (.sl (List.map E3 (r154.1.ready j)))) ++ ([.d (.sl (List.map E62 r154.1.delays)), .d (D.i .i64 r154.1.run)] : List AV))]) rfl ?_
       refine WL.as rfl rfl ?_
       refine WL.ns ?_
       refine wc_sr ?_
       refine WL.mv rfl rfl ?_
       refine WL.qn (y_neq rfl rfl) rfl ?_
       refine WL.ns ?_
       refine wc_cond rfl (fun hc7 => ?_) (fun hc7 => ?_)
       ·replace h := condT h hc7
        refine wc_sr ?_
        refine WL.as rfl rfl ?_
        refine WL.ns ?_
        refine wc_ret ?_
        refine we_blk_ret ?_
        refine we_seq_ret ?_
        refine we_lp_ret ?_
        refine we_blk_ret ?_
        refine we_lp_ret ?_
        obtain rfl := Option.some.inj h
        exact we_ret_fn (rs1 rfl (rv_t rfl)) (Le.refl _)
       ·replace h := condF h hc7
        refine wc_skip ?_
        refine we_blk ?_
        refine we_seq ?_
        refine wc_region ?_
        refine WL.mv rfl rfl ?_
        refine WL.qn (y_add rfl rfl rfl) rfl ?_
        refine WL.as rfl rfl ?_
        refine WL.nil ?_
        refine WE.drop 1 (env' := [(0, .d (.sl (List.map E5 prios0))), (3, .pt 0 0), (7, .d (D.i .i64 (IntKind.i64.wrap (IntKind.u8.wrap (BitVec.ofInt IntKind.u8.bits x155 &&& BitVec.ofInt IntKind.u8.bits 31).toNat)))), (8, .d (D.i .i64 r154.1.run)), (9, .d (D.i .i64 (IntKind.i64.wrap (iq144 + 1))))]) (Sub.one rfl (Sub.one rfl (Sub.one rfl (Sub.one rfl (Sub.one rfl (Sub.nil _)))))) rfl rfl (Nat.zero_le _) ?_
        exact we_lp ⟨n, ⟨(IntKind.i64.wrap (IntKind.u8.wrap (BitVec.ofInt IntKind.u8.bits x155 &&& BitVec.ofInt IntKind.u8.bits 31).toNat)), r154.1.run, (IntKind.i64.wrap (iq144 + 1)), r156.1.ready, r156.1.delays, r156.1.run, h, (Sub.cons rfl (Le.refl _) (Sub.cons rfl (Le.refl _) (Sub.cons rfl (Le.refl _) (Sub.cons rfl (Le.refl _) (Sub.cons rfl (Le.refl _) (Sub.nil _)))))), ⟨⟨rfl, Les.refl _⟩, trivial⟩⟩, Nat.lt_succ_self n⟩
    ·replace h := condF h hc4
     refine wc_exit ?_
     refine we_seq_exit ?_
     refine we_lp_exit ?_
     refine we_blk_hit ?_
     exact we_lp ⟨c00145, c032146, c033147, h, (Sub.cons rfl (Le.refl _) (Sub.nil _)), ⟨⟨rfl, Les.refl _⟩, trivial⟩⟩
   ·rintro env1 st1 ⟨c00132, c032133, c033134, h, hsub, hst⟩
    subst hk135
    dsimp only at h
    refine WC.sub hsub (WC.weak hst ?_)
    refine wc_sr ?_
    refine WL.qn (y_loadN rfl rfl a26 s26 rfl) rfl ?_
    obtain ⟨r157, hr157, h⟩ := bindS h
    refine WL.fn rfl rfl rfl rfl (f14_c _ hr157) ⟨(Le.agd ⟨(Le.refl _), (Le.refl _), (Le.refl _), (Le.refl _), (Le.refl _), (Le.refl _), (Le.refl _), (Le.refl _), (Le.refl _), (Le.refl _), (Le.refl _), (Le.refl _), (Le.refl _), (Le.refl _), (Le.refl _), (Le.refl _), (Le.refl _), (Le.refl _), (Le.refl _), (Le.refl _), (Le.refl _), (Le.refl _), (Le.refl _), (Le.refl _), (Le.refl _), (Le.refl _), (Le.refl _), (Le.refl _), (Le.refl _), (Le.refl _), (Le.refl _), (Le.refl _), (Le.refl _), (Le.refl _), trivial⟩), trivial⟩ (Wt.none rfl) rfl rfl ?_
    refine WL.mv rfl rfl ?_
    refine WL.qn (y_extractd rfl rfl) rfl ?_
    refine WL.qn (y_extractd rfl rfl) rfl ?_
    refine WL.qn (y_extractd rfl rfl) rfl ?_
    refine WL.as rfl rfl ?_
    refine WL.as rfl rfl ?_
    refine WL.as rfl rfl ?_
    refine WL.ns ?_
    refine wc_sr ?_
    refine WL.mv rfl rfl ?_
    refine WL.qn (y_not rfl) rfl ?_
    refine WL.mv rfl rfl ?_
    obtain ⟨b158, hb158, h⟩ := bindS h
    apply WL.grp 2 (t := 108) (d := 110) (z := b158)
    ·exact rfl
    ·intro hg108
     have h := condT hb158 hg108
     obtain ⟨r159, hr159, h⟩ := bindS h
     refine WL.fn rfl rfl rfl rfl (f11_c hr159) trivial (Wt.yes rfl rfl rfl) rfl rfl ?_
     refine WL.qn (y_pick_t rfl rfl) rfl ?_
     obtain rfl := Option.some.inj h
     exact WL.nil ⟨rfl, [_, _], rfl, rfl, rfl⟩
    ·intro hg108
     have h := condF hb158 hg108
     refine WL.skips 1 rfl ?_
     refine WL.qn (y_pick_f rfl rfl) rfl ?_
     obtain rfl := Option.some.inj h
     exact WL.nil ⟨rfl, [_, _], rfl, rfl, rfl⟩
    refine WL.as rfl rfl ?_
    refine WL.ns ?_
    refine wc_ret ?_
    obtain rfl := Option.some.inj h
    exact we_ret_fn (rs1 rfl (rv_t rfl)) (Le.refl _)

theorem f29_c (q0 : Queues) (prio1 : Int) (task2 : Int) {r : Queues × Int} (h : f29 q0 prio1 task2 = some r) : Pu Try.prog 29 [.ag (R26 q0), .i .i64 prio1, .i .i64 task2] (.tu [.ag (R26 r.1), .i .i64 r.2]) := by
 unfold f29 at h
 refine fn_intro Try.func29 (by kernel_rfl) rfl rfl rfl (fun φφ ww => ?_)
 refine wc_sr ?_
 refine WL.s ((b_box rfl rfl).does) (Wt.none rfl) rfl rfl ?_
 refine WL.s ((b_alloc z26).does) (Wt.none rfl) rfl rfl ?_
 refine WL.as rfl rfl ?_
 refine WL.ns ?_
 refine wc_seq ?_
 refine wc_sr ?_
 refine WL.qn (y_loadN rfl rfl a26 s26 rfl) rfl ?_
 obtain ⟨r49, hr49, h⟩ := bindS h
 refine WL.fn rfl rfl rfl rfl (f10_c _ hr49) ⟨(Le.agd ⟨(Le.refl _), (Le.refl _), (Le.refl _), (Le.refl _), (Le.refl _), (Le.refl _), (Le.refl _), (Le.refl _), (Le.refl _), (Le.refl _), (Le.refl _), (Le.refl _), (Le.refl _), (Le.refl _), (Le.refl _), (Le.refl _), (Le.refl _), (Le.refl _), (Le.refl _), (Le.refl _), (Le.refl _), (Le.refl _), (Le.refl _), (Le.refl _), (Le.refl _), (Le.refl _), (Le.refl _), (Le.refl _), (Le.refl _), (Le.refl _), (Le.refl _), (Le.refl _), (Le.refl _), (Le.refl _), trivial⟩), trivial⟩ (Wt.none rfl) rfl rfl ?_
 refine WL.qn (y_not rfl) rfl ?_
 refine WL.mv rfl rfl ?_
 apply WL.or 4 (t := 13) (d := 17)
 ·exact rfl
 ·intro hg13
  refine WL.qy (y_move rfl) rfl rfl rfl ?_
  refine WL.fn rfl rfl rfl rfl (f30_c _) ⟨(Le.refl _), trivial⟩ (Wt.yes rfl rfl rfl) rfl rfl ?_
  refine WL.qy (y_not rfl) rfl rfl rfl ?_
  refine WL.qn (y_pick_f rfl rfl) rfl ?_
  exact WL.nil ⟨rfl, [_, _, _, _], rfl, rfl, rfl⟩
 ·refine WL.skips 3 rfl ?_
  refine WL.qn (y_pick_t rfl rfl) rfl ?_
  exact WL.nil ⟨rfl, [_, _, _, _], rfl, rfl, rfl⟩
 refine WL.mv rfl rfl ?_
 apply WL.or 4 (t := 18) (d := 22)
 ·exact rfl
 ·intro hg18
  refine WL.qy (y_move rfl) rfl rfl rfl ?_
  refine WL.fn rfl rfl rfl rfl (f30_c _) ⟨(Le.refl _), trivial⟩ (Wt.yes rfl rfl rfl) rfl rfl ?_
  refine WL.qy (y_not rfl) rfl rfl rfl ?_
  refine WL.qn (y_pick_f rfl rfl) rfl ?_
  exact WL.nil ⟨rfl, [_, _, _, _], rfl, rfl, rfl⟩
 ·refine WL.skips 3 rfl ?_
  refine WL.qn (y_pick_t rfl rfl) rfl ?_
  exact WL.nil ⟨rfl, [_, _, _, _], rfl, rfl, rfl⟩
 refine WL.ns ?_
 refine wc_cond rfl (fun hc1 => ?_) (fun hc1 => ?_)
 ·replace h := condT h hc1
  refine wc_sr ?_
  refine WL.qn (y_build p26 z26 rfl rfl) rfl ?_
  refine WL.s0 (d_store rfl rfl rfl rfl rfl rfl s26 rfl rfl) (Wt.none rfl) rfl ?_
  refine WL.st (st' := [.row 26 (vecA 32 (fun j => .d (.sl (List.map E3 (q0.ready j)))) ++ ([.d (.sl (List.map E62 q0.delays)), .d (D.i .i64 q0.run)] : List AV)), .row 26 [.d (.v (.slice none 0 0)), .d (.v (.slice none 0 0)), .d (.v (.slice none 0 0)), .d (.v (.slice none 0 0)), .d (.v (.slice none 0 0)), .d (.v (.slice none 0 0)), .d (.v (.slice none 0 0)), .d (.v (.slice none 0 0)), .d (.v (.slice none 0 0)), .d (.v (.slice none 0 0)), .d (.v (.slice none 0 0)), .d (.v (.slice none 0 0)), .d (.v (.slice none 0 0)), .d (.v (.slice none 0 0)), .d (.v (.slice none 0 0)), .d (.v (.slice none 0 0)), .d (.v (.slice none 0 0)), .d (.v (.slice none 0 0)), .d (.v (.slice none 0 0)), .d (.v (.slice none 0 0)), .d (.v (.slice none 0 0)), .d (.v (.slice none 0 0)), .d (.v (.slice none 0 0)), .d (.v (.slice none 0 0)), .d (.v (.slice none 0 0)), .d (.v (.slice none 0 0)), .d (.v (.slice none 0 0)), .d (.v (.slice none 0 0)), .d (.v (.slice none 0 0)), .d (.v (.slice none 0 0)), .d (.v (.slice none 0 0)), .d (.v (.slice none 0 0)), .d (.v (.slice none 0 0)), .d (D.i .i64 0)]]) rfl ?_
  refine WL.as rfl rfl ?_
  refine WL.ns ?_
  refine wc_ret ?_
  refine we_seq_ret ?_
  obtain rfl := Option.some.inj h
  exact we_ret_fn (rs2 rfl (rv_cN rfl rfl a26 s26 rfl) (rv_t rfl)) (Le.tud ⟨(Le.agd ⟨Le.nil, Le.nil, Le.nil, Le.nil, Le.nil, Le.nil, Le.nil, Le.nil, Le.nil, Le.nil, Le.nil, Le.nil, Le.nil, Le.nil, Le.nil, Le.nil, Le.nil, Le.nil, Le.nil, Le.nil, Le.nil, Le.nil, Le.nil, Le.nil, Le.nil, Le.nil, Le.nil, Le.nil, Le.nil, Le.nil, Le.nil, Le.nil, Le.nil, (Le.refl _), trivial⟩), (Le.refl _), trivial⟩)
 ·replace h := condF h hc1
  refine wc_skip ?_
  refine we_seq ?_
  refine wc_seq ?_
  refine wc_sr ?_
  refine WL.qn (y_loadN rfl rfl a26 s26 rfl) rfl ?_
  refine WL.mv rfl rfl ?_
  obtain ⟨r50, hr50, h⟩ := bindS h
  refine WL.fn rfl rfl rfl rfl (f43_c _ _ hr50) ⟨(Le.agd ⟨(Le.refl _), (Le.refl _), (Le.refl _), (Le.refl _), (Le.refl _), (Le.refl _), (Le.refl _), (Le.refl _), (Le.refl _), (Le.refl _), (Le.refl _), (Le.refl _), (Le.refl _), (Le.refl _), (Le.refl _), (Le.refl _), (Le.refl _), (Le.refl _), (Le.refl _), (Le.refl _), (Le.refl _), (Le.refl _), (Le.refl _), (Le.refl _), (Le.refl _), (Le.refl _), (Le.refl _), (Le.refl _), (Le.refl _), (Le.refl _), (Le.refl _), (Le.refl _), (Le.refl _), (Le.refl _), trivial⟩), (Le.refl _), trivial⟩ (Wt.none rfl) rfl rfl ?_
  refine WL.mv rfl rfl ?_
  refine WL.qn (y_extractd rfl rfl) rfl ?_
  refine WL.qn (y_extractd rfl rfl) rfl ?_
  refine WL.as rfl rfl ?_
  refine WL.as rfl rfl ?_
  refine WL.ns ?_
  refine wc_sr ?_
  refine WL.mv rfl rfl ?_
  refine WL.qn (y_not rfl) rfl ?_
  refine WL.ns ?_
  refine wc_cond rfl (fun hc2 => ?_) (fun hc2 => ?_)
  ·replace h := condT h hc2
   refine wc_sr ?_
   refine WL.qn (y_build p26 z26 rfl rfl) rfl ?_
   refine WL.s0 (d_store rfl rfl rfl rfl rfl rfl s26 rfl rfl) (Wt.none rfl) rfl ?_
   refine WL.st (st' := [.row 26 (vecA 32 (fun j => .d (.sl (List.map E3 (q0.ready j)))) ++ ([.d (.sl (List.map E62 q0.delays)), .d (D.i .i64 q0.run)] : List AV)), .row 26 [.d (.v (.slice none 0 0)), .d (.v (.slice none 0 0)), .d (.v (.slice none 0 0)), .d (.v (.slice none 0 0)), .d (.v (.slice none 0 0)), .d (.v (.slice none 0 0)), .d (.v (.slice none 0 0)), .d (.v (.slice none 0 0)), .d (.v (.slice none 0 0)), .d (.v (.slice none 0 0)), .d (.v (.slice none 0 0)), .d (.v (.slice none 0 0)), .d (.v (.slice none 0 0)), .d (.v (.slice none 0 0)), .d (.v (.slice none 0 0)), .d (.v (.slice none 0 0)), .d (.v (.slice none 0 0)), .d (.v (.slice none 0 0)), .d (.v (.slice none 0 0)), .d (.v (.slice none 0 0)), .d (.v (.slice none 0 0)), .d (.v (.slice none 0 0)), .d (.v (.slice none 0 0)), .d (.v (.slice none 0 0)), .d (.v (.slice none 0 0)), .d (.v (.slice none 0 0)), .d (.v (.slice none 0 0)), .d (.v (.slice none 0 0)), .d (.v (.slice none 0 0)), .d (.v (.slice none 0 0)), .d (.v (.slice none 0 0)), .d (.v (.slice none 0 0)), .d (.v (.slice none 0 0)), .d (D.i .i64 0)]]) rfl ?_
   refine WL.as rfl rfl ?_
   refine WL.ns ?_
   refine wc_ret ?_
   refine we_seq_ret ?_
   obtain rfl := Option.some.inj h
   exact we_ret_fn (rs2 rfl (rv_cN rfl rfl a26 s26 rfl) (rv_t rfl)) (Le.tud ⟨(Le.agd ⟨Le.nil, Le.nil, Le.nil, Le.nil, Le.nil, Le.nil, Le.nil, Le.nil, Le.nil, Le.nil, Le.nil, Le.nil, Le.nil, Le.nil, Le.nil, Le.nil, Le.nil, Le.nil, Le.nil, Le.nil, Le.nil, Le.nil, Le.nil, Le.nil, Le.nil, Le.nil, Le.nil, Le.nil, Le.nil, Le.nil, Le.nil, Le.nil, Le.nil, (Le.refl _), trivial⟩), (Le.refl _), trivial⟩)
  ·replace h := condF h hc2
   refine wc_skip ?_
   refine we_seq ?_
   refine wc_sr ?_
   refine WL.qn (y_loadN rfl rfl a26 s26 rfl) rfl ?_
   refine WL.mv rfl rfl ?_
   obtain ⟨r51, hr51, h⟩ := bindS h
   refine WL.fn rfl rfl rfl rfl (f22_c _ _ hr51) ⟨(Le.agd ⟨(Le.refl _), (Le.refl _), (Le.refl _), (Le.refl _), (Le.refl _), (Le.refl _), (Le.refl _), (Le.refl _), (Le.refl _), (Le.refl _), (Le.refl _), (Le.refl _), (Le.refl _), (Le.refl _), (Le.refl _), (Le.refl _), (Le.refl _), (Le.refl _), (Le.refl _), (Le.refl _), (Le.refl _), (Le.refl _), (Le.refl _), (Le.refl _), (Le.refl _), (Le.refl _), (Le.refl _), (Le.refl _), (Le.refl _), (Le.refl _), (Le.refl _), (Le.refl _), (Le.refl _), (Le.refl _), trivial⟩), (Le.refl _), trivial⟩ (Wt.none rfl) rfl rfl ?_
   refine WL.mv rfl rfl ?_
   refine WL.qn (y_extractd rfl rfl) rfl ?_
   refine WL.qn (y_extractd rfl rfl) rfl ?_
   refine WL.s0 (d_store rfl rfl rfl rfl rfl rfl s26 rfl rfl) (Wt.none rfl) rfl ?_
   refine WL.st (st' := [.row 26 (vecA 32 (fun j => .d (.sl (List.map E3 (r51.1.ready j)))) ++ ([.d (.sl (List.map E62 r51.1.delays)), .d (D.i .i64 r51.1.run)] : List AV)), .row 26 [.d (.v (.slice none 0 0)), .d (.v (.slice none 0 0)), .d (.v (.slice none 0 0)), .d (.v (.slice none 0 0)), .d (.v (.slice none 0 0)), .d (.v (.slice none 0 0)), .d (.v (.slice none 0 0)), .d (.v (.slice none 0 0)), .d (.v (.slice none 0 0)), .d (.v (.slice none 0 0)), .d (.v (.slice none 0 0)), .d (.v (.slice none 0 0)), .d (.v (.slice none 0 0)), .d (.v (.slice none 0 0)), .d (.v (.slice none 0 0)), .d (.v (.slice none 0 0)), .d (.v (.slice none 0 0)), .d (.v (.slice none 0 0)), .d (.v (.slice none 0 0)), .d (.v (.slice none 0 0)), .d (.v (.slice none 0 0)), .d (.v (.slice none 0 0)), .d (.v (.slice none 0 0)), .d (.v (.slice none 0 0)), .d (.v (.slice none 0 0)), .d (.v (.slice none 0 0)), .d (.v (.slice none 0 0)), .d (.v (.slice none 0 0)), .d (.v (.slice none 0 0)), .d (.v (.slice none 0 0)), .d (.v (.slice none 0 0)), .d (.v (.slice none 0 0)), .d (.v (.slice none 0 0)), .d (D.i .i64 0)]]) rfl ?_
   refine WL.ns ?_
   refine wc_sr ?_
   refine WL.qn (y_loadN rfl rfl a26 s26 rfl) rfl ?_
   refine WL.mv rfl rfl ?_
   refine WL.mv rfl rfl ?_
   obtain ⟨r52, hr52, h⟩ := bindS h
   refine WL.fn rfl rfl rfl rfl (f21_c _ _ _ hr52) ⟨(Le.agd ⟨(Le.refl _), (Le.refl _), (Le.refl _), (Le.refl _), (Le.refl _), (Le.refl _), (Le.refl _), (Le.refl _), (Le.refl _), (Le.refl _), (Le.refl _), (Le.refl _), (Le.refl _), (Le.refl _), (Le.refl _), (Le.refl _), (Le.refl _), (Le.refl _), (Le.refl _), (Le.refl _), (Le.refl _), (Le.refl _), (Le.refl _), (Le.refl _), (Le.refl _), (Le.refl _), (Le.refl _), (Le.refl _), (Le.refl _), (Le.refl _), (Le.refl _), (Le.refl _), (Le.refl _), (Le.refl _), trivial⟩), (Le.refl _), (Le.refl _), trivial⟩ (Wt.none rfl) rfl rfl ?_
   refine WL.qn (y_extractd rfl rfl) rfl ?_
   refine WL.qn (y_extractd rfl rfl) rfl ?_
   refine WL.s0 (d_store rfl rfl rfl rfl rfl rfl s26 rfl rfl) (Wt.none rfl) rfl ?_
   refine WL.st (st' := [.row 26 (vecA 32 (fun j => .d (.sl (List.map E3 (r51.1.ready j)))) ++ ([.d (.sl (List.map E62 r51.1.delays)), .d (D.i .i64 r51.1.run)] : List AV)), .row 26 (vecA 32 (fun j => .d (.sl (List.map E3 (r52.1.ready j)))) ++ ([.d (.sl (List.map E62 r52.1.delays)), .d (D.i .i64 r52.1.run)] : List AV))]) rfl ?_
   refine WL.as rfl rfl ?_
   refine WL.ns ?_
   refine wc_ret ?_
   obtain rfl := Option.some.inj h
   exact we_ret_fn (rs2 rfl (rv_cN rfl rfl a26 s26 rfl) (rv_t rfl)) (Le.tud ⟨(Le.agd ⟨(Le.refl _), (Le.refl _), (Le.refl _), (Le.refl _), (Le.refl _), (Le.refl _), (Le.refl _), (Le.refl _), (Le.refl _), (Le.refl _), (Le.refl _), (Le.refl _), (Le.refl _), (Le.refl _), (Le.refl _), (Le.refl _), (Le.refl _), (Le.refl _), (Le.refl _), (Le.refl _), (Le.refl _), (Le.refl _), (Le.refl _), (Le.refl _), (Le.refl _), (Le.refl _), (Le.refl _), (Le.refl _), (Le.refl _), (Le.refl _), (Le.refl _), (Le.refl _), (Le.refl _), (Le.refl _), trivial⟩), (Le.refl _), trivial⟩)

theorem f27_c (q0 : Queues) (task1 : Int) {r : Int} (h : f27 q0 task1 = some r) : Pu Try.prog 27 [.ag (R26 q0), .i .i64 task1] (.i .i64 r) := by
 unfold f27 at h
 refine fn_intro Try.func27 (by kernel_rfl) rfl rfl rfl (fun φφ ww => ?_)
 refine wc_sr ?_
 refine WL.s ((b_boxd rfl rfl (Les.refl _)).does) (Wt.none rfl) rfl rfl ?_
 refine WL.as rfl rfl ?_
 refine WL.ns ?_
 refine wc_sr ?_
 refine WL.as rfl rfl ?_
 refine WL.ns ?_
 replace h := letkS h
 obtain ⟨k43, hk43, h⟩ := h
 refine wc_cut (fun env' st' => ∃ (n42 : Int), k43 n42 = some r ∧ Sub [(1, .d (D.i .i64 task1)), (2, .d (.pc (R26 q0))), (5, .d (D.i .i64 n42))] env' ∧ SLe st' []) ?_ ?_
 ·refine wc_sr ?_
  refine WL.as rfl rfl ?_
  refine WL.ns ?_
  refine wc_block ?_
  refine wc_loop (fun n env' st' => ∃ (n46 : Int), ∃ (p47 : Int), f27_l1 q0 task1 k43 n n46 p47 = some r ∧ Sub [(1, .d (D.i .i64 task1)), (2, .d (.pc (R26 q0))), (5, .d (D.i .i64 n46)), (6, .d (D.i .i64 p47))] env' ∧ SLe st' []) (fun n => n) 9223372036854775808 ⟨0, 0, h, (Sub.cons rfl (Le.refl _) (Sub.cons rfl (Le.refl _) (Sub.cons rfl (Le.refl _) (Sub.cons rfl (Le.refl _) (Sub.nil _))))), trivial⟩ ?_
  rintro n env1 st1 ⟨n46, p47, h, hsub, hst⟩
  cases n with
  | zero => rw [f27_l1] at h; cases h
  | succ n =>
  rw [f27_l1] at h
  refine WC.sub hsub (WC.weak hst ?_)
  refine wc_seq ?_
  refine wc_sr ?_
  refine WL.mv rfl rfl ?_
  refine WL.qn (y_lss rfl rfl) rfl ?_
  refine WL.ns ?_
  refine wc_cond rfl (fun hc1 => ?_) (fun hc1 => ?_)
  ·replace h := condT h hc1
   refine wc_skip ?_
   refine we_seq ?_
   replace h := letkS h
   obtain ⟨k51, hk51, h⟩ := h
   refine wc_cut (fun env' st' => ∃ (n50 : Int), k51 n50 = some r ∧ Sub [(1, .d (D.i .i64 task1)), (2, .d (.pc (R26 q0))), (5, .d (D.i .i64 n50)), (6, .d (D.i .i64 p47))] env' ∧ SLe st' []) ?_ ?_
   ·refine wc_block ?_
    refine wc_sr ?_
    refine WL.as rfl rfl ?_
    refine WL.ns ?_
    refine wc_block ?_
    refine wc_loop (fun na env' st' => ∃ (n54 : Int), ∃ (iq55 : Int), f27_l2 q0 task1 p47 k51 na n54 iq55 = some r ∧ Sub [(1, .d (D.i .i64 task1)), (2, .d (.pc (R26 q0))), (5, .d (D.i .i64 n54)), (6, .d (D.i .i64 p47)), (7, .d (D.i .i64 iq55))] env' ∧ SLe st' []) (fun n => n) 9223372036854775808 ⟨n46, 0, h, (Sub.cons rfl (Le.refl _) (Sub.cons rfl (Le.refl _) (Sub.cons rfl (Le.refl _) (Sub.cons rfl (Le.refl _) (Sub.cons rfl (Le.refl _) (Sub.nil _)))))), trivial⟩ ?_
    rintro na env1 st1 ⟨n54, iq55, h, hsub, hst⟩
    cases na with
    | zero => rw [f27_l2] at h; cases h
    | succ na =>
    rw [f27_l2] at h
    refine WC.sub hsub (WC.weak hst ?_)
    refine wc_seq ?_
    refine wc_sr ?_
    refine WL.mv rfl rfl ?_
    refine WL.mv rfl rfl ?_
    refine WL.qn (y_fieldAddrc f26_0 rfl) rfl ?_
    replace h := guardBS h
    obtain ⟨hgg58, h⟩ := h
    refine WL.qn (y_indexAddrVc (fun j => .sl (List.map E3 (q0.ready j))) ar23 rfl rfl rfl hgg58) rfl ?_
    refine WL.qn (y_loadc rfl a22 rfl) rfl ?_
    refine WL.qn (y_len_map E3 (q0.ready (Int.toNat p47)) e22 rfl rfl (Le.refl _)) rfl ?_
    refine WL.qn (y_lss rfl rfl) rfl ?_
    refine WL.ns ?_
    refine wc_cond rfl (fun hc2 => ?_) (fun hc2 => ?_)
    ·replace h := condT h hc2
     refine wc_skip ?_
     refine we_seq ?_
     replace h := letkS h
     obtain ⟨k60, hk60, h⟩ := h
     refine wc_cut (fun env' st' => ∃ (n59 : Int), k60 n59 = some r ∧ Sub [(1, .d (D.i .i64 task1)), (2, .d (.pc (R26 q0))), (5, .d (D.i .i64 n59)), (6, .d (D.i .i64 p47)), (7, .d (D.i .i64 iq55))] env' ∧ SLe st' []) ?_ ?_
     ·refine wc_block ?_
      refine wc_sr ?_
      refine WL.mv rfl rfl ?_
      refine WL.qn (y_fieldAddrc f26_0 rfl) rfl ?_
      replace h := guardBS h
      obtain ⟨hgg61, h⟩ := h
      refine WL.qn (y_indexAddrVc (fun j => .sl (List.map E3 (q0.ready j))) ar23 rfl rfl rfl hgg61) rfl ?_
      refine WL.qn (y_loadc rfl a22 rfl) rfl ?_
      refine WL.mv rfl rfl ?_
      obtain ⟨x62, hx62, h⟩ := bindS h
      refine WL.qn (y_indexAddr e22 rfl (Le.refl _) rfl (idx_nonneg hx62) (idx_row E3_eq hx62) rfl) rfl ?_
      refine WL.qn (y_loadc rfl a3 rfl) rfl ?_
      refine WL.mv rfl rfl ?_
      refine WL.qn (y_eql rfl rfl) rfl ?_
      refine WL.ns ?_
      refine wc_cond rfl (fun hc3 => ?_) (fun hc3 => ?_)
      ·replace h := condT h hc3
       refine wc_region ?_
       refine WL.mv rfl rfl ?_
       refine WL.qn (y_add rfl rfl rfl) rfl ?_
       refine WL.as rfl rfl ?_
       refine WL.nil ?_
       refine we_blk ?_
       exact we_lp ⟨(IntKind.i64.wrap (n54 + 1)), h, (Sub.cons rfl (Le.refl _) (Sub.cons rfl (Le.refl _) (Sub.cons rfl (Le.refl _) (Sub.cons rfl (Le.refl _) (Sub.cons rfl (Le.refl _) (Sub.nil _)))))), trivial⟩
      ·replace h := condF h hc3
       refine wc_skip ?_
       refine we_blk ?_
       exact we_lp ⟨n54, h, (Sub.cons rfl (Le.refl _) (Sub.cons rfl (Le.refl _) (Sub.cons rfl (Le.refl _) (Sub.cons rfl (Le.refl _) (Sub.cons rfl (Le.refl _) (Sub.nil _)))))), trivial⟩
     ·rintro env1 st1 ⟨n59, h, hsub, hst⟩
      subst hk60
      dsimp only at h
      refine WC.sub hsub (WC.weak hst ?_)
      refine wc_region ?_
      refine WL.mv rfl rfl ?_
      refine WL.qn (y_add rfl rfl rfl) rfl ?_
      refine WL.as rfl rfl ?_
      refine WL.nil ?_
      exact we_lp ⟨na, ⟨n59, (IntKind.i64.wrap (iq55 + 1)), h, (Sub.cons rfl (Le.refl _) (Sub.cons rfl (Le.refl _) (Sub.cons rfl (Le.refl _) (Sub.cons rfl (Le.refl _) (Sub.cons rfl (Le.refl _) (Sub.nil _)))))), trivial⟩, Nat.lt_succ_self na⟩
    ·replace h := condF h hc2
     refine wc_exit ?_
     refine we_seq_exit ?_
     refine we_lp_exit ?_
     refine we_blk_hit ?_
     refine we_blk ?_
     exact we_lp ⟨n54, h, (Sub.cons rfl (Le.refl _) (Sub.cons rfl (Le.refl _) (Sub.cons rfl (Le.refl _) (Sub.cons rfl (Le.refl _) (Sub.nil _))))), trivial⟩
   ·rintro env1 st1 ⟨n50, h, hsub, hst⟩
    subst hk51
    dsimp only at h
    refine WC.sub hsub (WC.weak hst ?_)
    refine wc_region ?_
    refine WL.mv rfl rfl ?_
    refine WL.qn (y_add rfl rfl rfl) rfl ?_
    refine WL.as rfl rfl ?_
    refine WL.nil ?_
    exact we_lp ⟨n, ⟨n50, (IntKind.i64.wrap (p47 + 1)), h, (Sub.cons rfl (Le.refl _) (Sub.cons rfl (Le.refl _) (Sub.cons rfl (Le.refl _) (Sub.cons rfl (Le.refl _) (Sub.nil _))))), trivial⟩, Nat.lt_succ_self n⟩
  ·replace h := condF h hc1
   refine wc_exit ?_
   refine we_seq_exit ?_
   refine we_lp_exit ?_
   refine we_blk_hit ?_
   exact we_lp ⟨n46, h, (Sub.cons rfl (Le.refl _) (Sub.cons rfl (Le.refl _) (Sub.cons rfl (Le.refl _) (Sub.nil _)))), trivial⟩
 ·rintro env1 st1 ⟨n42, h, hsub, hst⟩
  subst hk43
  dsimp only at h
  refine WC.sub hsub (WC.weak hst ?_)
  replace h := letkS h
  obtain ⟨k64, hk64, h⟩ := h
  refine wc_cut (fun env' st' => ∃ (n63 : Int), k64 n63 = some r ∧ Sub [(5, .d (D.i .i64 n63))] env' ∧ SLe st' []) ?_ ?_
  ·refine wc_sr ?_
   refine WL.qn (y_fieldAddrc f26_2 rfl) rfl ?_
   refine WL.qn (y_loadc rfl a3 rfl) rfl ?_
   refine WL.mv rfl rfl ?_
   refine WL.qn (y_eql rfl rfl) rfl ?_
   refine WL.ns ?_
   refine wc_cond rfl (fun hc4 => ?_) (fun hc4 => ?_)
   ·replace h := condT h hc4
    refine wc_region ?_
    refine WL.mv rfl rfl ?_
    refine WL.qn (y_add rfl rfl rfl) rfl ?_
    refine WL.as rfl rfl ?_
    refine WL.nil ?_
    exact we_lp ⟨(IntKind.i64.wrap (n42 + 1)), h, (Sub.cons rfl (Le.refl _) (Sub.nil _)), trivial⟩
   ·replace h := condF h hc4
    refine wc_skip ?_
    exact we_lp ⟨n42, h, (Sub.cons rfl (Le.refl _) (Sub.nil _)), trivial⟩
  ·rintro env1 st1 ⟨n63, h, hsub, hst⟩
   subst hk64
   dsimp only at h
   refine WC.sub hsub (WC.weak hst ?_)
   refine wc_sr ?_
   refine WL.mv rfl rfl ?_
   refine WL.as rfl rfl ?_
   refine WL.ns ?_
   refine wc_ret ?_
   obtain rfl := Option.some.inj h
   exact we_ret_fn (rs1 rfl (rv_t rfl)) (Le.refl _)

end Go.Proofs.Ytpionlekbfoccaa
