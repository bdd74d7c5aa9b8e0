/- The walks of functions. -/
import Derived.Test.YtpionlekbfoccaaProg
import Derived.KernelRfl
import Derived.Test.YtpionlekbfoccaaO
import Derived.Test.YtpionlekbfoccaaWb
set_option maxHeartbeats 4000000
set_option maxRecDepth 100000
namespace Go.Proofs.Ytpionlekbfoccaa
open Go Go.Sk

theorem f8_c (q0 : Queues) (x1 : Step) {r : Bool} (h : f8 q0 x1 = some r) : Pu Try.prog 8 [.ag (R26 q0), .ag (R52 x1)] (.b r) := by
 unfold f8 at h
 refine fn_intro Try.func8 (by kernel_rfl) rfl rfl rfl (fun φφ ww => ?_)
 refine wc_sr ?_
 refine WL.s ((b_boxd rfl rfl (Les.refl _)).does) (Wt.none rfl) rfl rfl ?_
 refine WL.s ((b_boxd rfl rfl (Les.refl _)).does) (Wt.none rfl) rfl rfl ?_
 refine WL.as rfl rfl ?_
 refine WL.ns ?_
 refine wc_seq ?_
 refine wc_sr ?_
 refine WL.qn (y_loadcN rfl a26 s26 rfl) rfl ?_
 obtain ⟨r119, hr119, h⟩ := bindS h
 refine WL.fn rfl rfl rfl rfl (f9_c _ hr119) ⟨(Le.refl _), trivial⟩ (Wt.none rfl) rfl rfl ?_
 refine WL.mv rfl rfl ?_
 obtain ⟨b120, hb120, h⟩ := bindS h
 apply WL.grp 4 (t := 12) (d := 16) (z := b120)
 ·exact rfl
 ·intro hg12
  have h := condT hb120 hg12
  refine WL.skips 3 rfl ?_
  refine WL.qn (y_pick_t rfl rfl) rfl ?_
  obtain rfl := Option.some.inj h
  exact WL.nil ⟨rfl, [_, _, _, _], rfl, rfl, rfl⟩
 ·intro hg12
  have h := condF hb120 hg12
  refine WL.qy (y_loadcN rfl a26 s26 rfl) rfl rfl rfl ?_
  obtain ⟨r121, hr121, h⟩ := bindS h
  refine WL.fn rfl rfl rfl rfl (f10_c _ hr121) ⟨(Le.refl _), trivial⟩ (Wt.yes rfl rfl rfl) rfl rfl ?_
  refine WL.qy (y_not rfl) rfl rfl rfl ?_
  refine WL.qn (y_pick_f rfl rfl) rfl ?_
  obtain rfl := Option.some.inj h
  exact WL.nil ⟨rfl, [_, _, _, _], rfl, rfl, rfl⟩
 refine WL.ns ?_
 refine wc_cond rfl (fun hc1 => ?_) (fun hc1 => ?_)
 ·replace h := condT h hc1
  refine wc_sr ?_
  obtain ⟨r122, hr122, h⟩ := bindS h
  refine WL.fn rfl rfl rfl rfl (f11_c hr122) trivial (Wt.none rfl) rfl rfl ?_
  refine WL.as rfl rfl ?_
  refine WL.ns ?_
  refine wc_ret ?_
  refine we_seq_ret ?_
  obtain rfl := Option.some.inj h
  exact we_ret_fn (rs1 rfl (rv_t rfl)) (Le.refl _)
 ·replace h := condF h hc1
  refine wc_skip ?_
  refine we_seq ?_
  refine wc_sr ?_
  refine WL.qn (y_fieldAddrc f52_2 rfl) rfl ?_
  refine WL.qn (y_loadc rfl a3 rfl) rfl ?_
  refine WL.qn (y_and rfl rfl rfl) rfl ?_
  refine WL.as rfl rfl ?_
  refine WL.ns ?_
  refine wc_sr ?_
  refine WL.qn (y_loadcN rfl a26 s26 rfl) rfl ?_
  refine WL.mv rfl rfl ?_
  obtain ⟨r123, hr123, h⟩ := bindS h
  refine WL.fn rfl rfl rfl rfl (f27_c _ _ hr123) ⟨(Le.refl _), (Le.refl _), trivial⟩ (Wt.none rfl) rfl rfl ?_
  refine WL.as rfl rfl ?_
  refine WL.ns ?_
  refine wc_sr ?_
  refine WL.s ((b_alloc z26).does) (Wt.none rfl) rfl rfl ?_
  refine WL.ns ?_
  refine wc_sr ?_
  refine WL.as rfl rfl ?_
  refine WL.ns ?_
  replace h := letkS h
  obtain ⟨k129, hk129, h⟩ := h
  refine wc_cut (fun env' st' => ∃ (want124 : Int), ∃ (e125 : Int), ∃ (c00126 : Nat → (List Int)), ∃ (c032127 : List Due), ∃ (c033128 : Int), k129 want124 e125 c00126 c032127 c033128 = some r ∧ Sub [(2, .d (.pc (R26 q0))), (5, .d (D.i .i64 (IntKind.i64.wrap (BitVec.ofInt IntKind.i64.bits x1.task &&& BitVec.ofInt IntKind.i64.bits 31).toNat))), (6, .d (D.i .i64 want124)), (7, .pt 0 0), (8, .d (D.i .i64 e125))] env' ∧ SLe st' [.row 26 (vecA 32 (fun j => .d (.sl (List.map E3 (c00126 j)))) ++ ([.d (.sl (List.map E62 c032127)), .d (D.i .i64 c033128)] : List AV))]) ?_ ?_
  ·refine wc_sr ?_
   refine WL.qn (y_fieldAddrc f52_0 rfl) rfl ?_
   refine WL.qn (y_loadc rfl a5 rfl) rfl ?_
   refine WL.qn (y_rem rfl rfl (by decide)) rfl ?_
   refine WL.ns ?_
   refine wc_block ?_
   refine wc_sr ?_
   refine WL.qn (y_eql rfl rfl) rfl ?_
   refine WL.as rfl rfl ?_
   refine WL.ns ?_
   refine wc_cond rfl (fun hc2 => ?_) (fun hc2 => ?_)
   ·replace h := condT h hc2
    refine wc_sr ?_
    refine WL.qn (y_loadcN rfl a26 s26 rfl) rfl ?_
    refine WL.qn (y_fieldAddrc f52_1 rfl) rfl ?_
    refine WL.qn (y_loadc rfl a3 rfl) rfl ?_
    refine WL.mv rfl rfl ?_
    obtain ⟨r130, hr130, h⟩ := bindS h
    refine WL.fn rfl rfl rfl rfl (f21_c _ _ _ hr130) ⟨(Le.refl _), (Le.refl _), (Le.refl _), trivial⟩ (Wt.none rfl) rfl rfl ?_
    refine WL.mv rfl rfl ?_
    refine WL.qn (y_extractd rfl rfl) rfl ?_
    refine WL.qn (y_extractd rfl rfl) rfl ?_
    refine WL.s0 (d_store rfl rfl rfl rfl rfl rfl s26 rfl rfl) (Wt.none rfl) rfl ?_
    refine WL.st (st' := [.row 26 (vecA 32 (fun j => .d (.sl (List.map E3 (r130.1.ready j)))) ++ ([.d (.sl (List.map E62 r130.1.delays)), .d (D.i .i64 r130.1.run)] : List AV))]) rfl ?_
    refine WL.as rfl rfl ?_
    refine WL.ns ?_
    refine wc_region ?_
    refine WL.as rfl rfl ?_
    refine WL.nil ?_
    refine we_blk ?_
    exact we_lp ⟨1, r130.2, r130.1.ready, r130.1.delays, r130.1.run, h, (Sub.cons rfl (Le.refl _) (Sub.cons rfl (Le.refl _) (Sub.cons rfl (Le.refl _) (Sub.cons rfl (Le.refl _) (Sub.cons rfl (Le.refl _) (Sub.nil _)))))), ⟨⟨rfl, Les.refl _⟩, trivial⟩⟩
   ·replace h := condF h hc2
    refine wc_sr ?_
    refine WL.qn (y_eql rfl rfl) rfl ?_
    refine WL.as rfl rfl ?_
    refine WL.ns ?_
    refine wc_cond rfl (fun hc3 => ?_) (fun hc3 => ?_)
    ·replace h := condT h hc3
     refine wc_sr ?_
     refine WL.qn (y_loadcN rfl a26 s26 rfl) rfl ?_
     refine WL.qn (y_fieldAddrc f52_1 rfl) rfl ?_
     refine WL.qn (y_loadc rfl a3 rfl) rfl ?_
     refine WL.mv rfl rfl ?_
     obtain ⟨r131, hr131, h⟩ := bindS h
     refine WL.fn rfl rfl rfl rfl (f28_c _ _ _ hr131) ⟨(Le.refl _), (Le.refl _), (Le.refl _), trivial⟩ (Wt.none rfl) rfl rfl ?_
     refine WL.mv rfl rfl ?_
     refine WL.qn (y_extractd rfl rfl) rfl ?_
     refine WL.qn (y_extractd rfl rfl) rfl ?_
     refine WL.s0 (d_store rfl rfl rfl rfl rfl rfl s26 rfl rfl) (Wt.none rfl) rfl ?_
     refine WL.st (st' := [.row 26 (vecA 32 (fun j => .d (.sl (List.map E3 (r131.1.ready j)))) ++ ([.d (.sl (List.map E62 r131.1.delays)), .d (D.i .i64 r131.1.run)] : List AV))]) rfl ?_
     refine WL.as rfl rfl ?_
     refine WL.ns ?_
     refine wc_region ?_
     refine WL.as rfl rfl ?_
     refine WL.nil ?_
     refine we_blk ?_
     exact we_lp ⟨1, r131.2, r131.1.ready, r131.1.delays, r131.1.run, h, (Sub.cons rfl (Le.refl _) (Sub.cons rfl (Le.refl _) (Sub.cons rfl (Le.refl _) (Sub.cons rfl (Le.refl _) (Sub.cons rfl (Le.refl _) (Sub.nil _)))))), ⟨⟨rfl, Les.refl _⟩, trivial⟩⟩
    ·replace h := condF h hc3
     refine wc_sr ?_
     refine WL.qn (y_eql rfl rfl) rfl ?_
     refine WL.as rfl rfl ?_
     refine WL.ns ?_
     refine wc_cond rfl (fun hc4 => ?_) (fun hc4 => ?_)
     ·replace h := condT h hc4
      refine wc_sr ?_
      refine WL.qn (y_loadcN rfl a26 s26 rfl) rfl ?_
      refine WL.mv rfl rfl ?_
      obtain ⟨r132, hr132, h⟩ := bindS h
      refine WL.fn rfl rfl rfl rfl (f22_c _ _ hr132) ⟨(Le.refl _), (Le.refl _), trivial⟩ (Wt.none rfl) rfl rfl ?_
      refine WL.mv rfl rfl ?_
      refine WL.qn (y_extractd rfl rfl) rfl ?_
      refine WL.qn (y_extractd rfl rfl) rfl ?_
      refine WL.s0 (d_store rfl rfl rfl rfl rfl rfl s26 rfl rfl) (Wt.none rfl) rfl ?_
      refine WL.st (st' := [.row 26 (vecA 32 (fun j => .d (.sl (List.map E3 (r132.1.ready j)))) ++ ([.d (.sl (List.map E62 r132.1.delays)), .d (D.i .i64 r132.1.run)] : List AV))]) rfl ?_
      refine WL.as rfl rfl ?_
      refine WL.ns ?_
      refine wc_region ?_
      refine WL.as rfl rfl ?_
      refine WL.nil ?_
      refine we_blk ?_
      exact we_lp ⟨0, r132.2, r132.1.ready, r132.1.delays, r132.1.run, h, (Sub.cons rfl (Le.refl _) (Sub.cons rfl (Le.refl _) (Sub.cons rfl (Le.refl _) (Sub.cons rfl (Le.refl _) (Sub.cons rfl (Le.refl _) (Sub.nil _)))))), ⟨⟨rfl, Les.refl _⟩, trivial⟩⟩
     ·replace h := condF h hc4
      refine wc_sr ?_
      refine WL.qn (y_eql rfl rfl) rfl ?_
      refine WL.as rfl rfl ?_
      refine WL.ns ?_
      refine wc_cond rfl (fun hc5 => ?_) (fun hc5 => ?_)
      ·replace h := condT h hc5
       refine wc_region ?_
       refine WL.qn (y_loadcN rfl a26 s26 rfl) rfl ?_
       refine WL.qn (y_fieldAddrc f52_1 rfl) rfl ?_
       refine WL.qn (y_loadc rfl a3 rfl) rfl ?_
       refine WL.mv rfl rfl ?_
       obtain ⟨r133, hr133, h⟩ := bindS h
       refine WL.fn rfl rfl rfl rfl (f29_c _ _ _ hr133) ⟨(Le.refl _), (Le.refl _), (Le.refl _), trivial⟩ (Wt.none rfl) rfl rfl ?_
       refine WL.mv rfl rfl ?_
       refine WL.qn (y_extractd rfl rfl) rfl ?_
       refine WL.qn (y_extractd rfl rfl) rfl ?_
       refine WL.s0 (d_store rfl rfl rfl rfl rfl rfl s26 rfl rfl) (Wt.none rfl) rfl ?_
       refine WL.st (st' := [.row 26 (vecA 32 (fun j => .d (.sl (List.map E3 (r133.1.ready j)))) ++ ([.d (.sl (List.map E62 r133.1.delays)), .d (D.i .i64 r133.1.run)] : List AV))]) rfl ?_
       refine WL.as rfl rfl ?_
       refine WL.nil ?_
       refine we_blk ?_
       exact we_lp ⟨r123, r133.2, r133.1.ready, r133.1.delays, r133.1.run, h, (Sub.cons rfl (Le.refl _) (Sub.cons rfl (Le.refl _) (Sub.cons rfl (Le.refl _) (Sub.cons rfl (Le.refl _) (Sub.cons rfl (Le.refl _) (Sub.nil _)))))), ⟨⟨rfl, Les.refl _⟩, trivial⟩⟩
      ·replace h := condF h hc5
       refine wc_region ?_
       refine WL.qn (y_loadcN rfl a26 s26 rfl) rfl ?_
       refine WL.qn (y_fieldAddrc f52_1 rfl) rfl ?_
       refine WL.qn (y_loadc rfl a3 rfl) rfl ?_
       obtain ⟨r134, hr134, h⟩ := bindS h
       refine WL.fn rfl rfl rfl rfl (f12_c _ _ hr134) ⟨(Le.refl _), (Le.refl _), trivial⟩ (Wt.none rfl) rfl rfl ?_
       refine WL.mv rfl rfl ?_
       refine WL.qn (y_extractd rfl rfl) rfl ?_
       refine WL.qn (y_extractd rfl rfl) rfl ?_
       refine WL.s0 (d_store rfl rfl rfl rfl rfl rfl s26 rfl rfl) (Wt.none rfl) rfl ?_
       refine WL.st (st' := [.row 26 (vecA 32 (fun j => .d (.sl (List.map E3 (r134.1.ready j)))) ++ ([.d (.sl (List.map E62 r134.1.delays)), .d (D.i .i64 r134.1.run)] : List AV))]) rfl ?_
       refine WL.as rfl rfl ?_
       refine WL.nil ?_
       refine we_blk ?_
       exact we_lp ⟨r123, r134.2, r134.1.ready, r134.1.delays, r134.1.run, h, (Sub.cons rfl (Le.refl _) (Sub.cons rfl (Le.refl _) (Sub.cons rfl (Le.refl _) (Sub.cons rfl (Le.refl _) (Sub.cons rfl (Le.refl _) (Sub.nil _)))))), ⟨⟨rfl, Les.refl _⟩, trivial⟩⟩
  ·rintro env1 st1 ⟨want124, e125, c00126, c032127, c033128, h, hsub, hst⟩
   subst hk129
   dsimp only at h
   refine WC.sub hsub (WC.weak hst ?_)
   refine wc_seq ?_
   refine wc_sr ?_
   refine WL.mv rfl rfl ?_
   refine WL.qn (y_neq rfl rfl) rfl ?_
   refine WL.ns ?_
   refine wc_cond rfl (fun hc6 => ?_) (fun hc6 => ?_)
   ·replace h := condT h hc6
    refine wc_sr ?_
    refine WL.qn (y_loadN rfl rfl a26 s26 rfl) rfl ?_
    refine WL.qn (y_build p26 z26 rfl rfl) rfl ?_
    obtain ⟨r135, hr135, h⟩ := bindS h
    refine WL.fn rfl rfl rfl rfl (f15_c _ _ hr135) ⟨(Le.agd ⟨(Le.refl _), (Le.refl _), (Le.refl _), (Le.refl _), (Le.refl _), (Le.refl _), (Le.refl _), (Le.refl _), (Le.refl _), (Le.refl _), (Le.refl _), (Le.refl _), (Le.refl _), (Le.refl _), (Le.refl _), (Le.refl _), (Le.refl _), (Le.refl _), (Le.refl _), (Le.refl _), (Le.refl _), (Le.refl _), (Le.refl _), (Le.refl _), (Le.refl _), (Le.refl _), (Le.refl _), (Le.refl _), (Le.refl _), (Le.refl _), (Le.refl _), (Le.refl _), (Le.refl _), (Le.refl _), trivial⟩), (Le.agd ⟨Le.nil, Le.nil, Le.nil, Le.nil, Le.nil, Le.nil, Le.nil, Le.nil, Le.nil, Le.nil, Le.nil, Le.nil, Le.nil, Le.nil, Le.nil, Le.nil, Le.nil, Le.nil, Le.nil, Le.nil, Le.nil, Le.nil, Le.nil, Le.nil, Le.nil, Le.nil, Le.nil, Le.nil, Le.nil, Le.nil, Le.nil, Le.nil, Le.nil, (Le.refl _), trivial⟩), trivial⟩ (Wt.none rfl) rfl rfl ?_
    refine WL.mv rfl rfl ?_
    obtain ⟨b136, hb136, h⟩ := bindS h
    apply WL.grp 2 (t := 77) (d := 79) (z := b136)
    ·exact rfl
    ·intro hg77
     have h := condT hb136 hg77
     obtain ⟨r137, hr137, h⟩ := bindS h
     refine WL.fn rfl rfl rfl rfl (f11_c hr137) trivial (Wt.yes rfl rfl rfl) rfl rfl ?_
     refine WL.qn (y_pick_t rfl rfl) rfl ?_
     obtain rfl := Option.some.inj h
     exact WL.nil ⟨rfl, [_, _], rfl, rfl, rfl⟩
    ·intro hg77
     have h := condF hb136 hg77
     refine WL.skips 1 rfl ?_
     refine WL.qn (y_pick_f rfl rfl) rfl ?_
     obtain rfl := Option.some.inj h
     exact WL.nil ⟨rfl, [_, _], rfl, rfl, rfl⟩
    refine WL.as rfl rfl ?_
    refine WL.ns ?_
    refine wc_ret ?_
    refine we_seq_ret ?_
    obtain rfl := Option.some.inj h
    exact we_ret_fn (rs1 rfl (rv_t rfl)) (Le.refl _)
   ·replace h := condF h hc6
    refine wc_skip ?_
    refine we_seq ?_
    refine wc_seq ?_
    refine wc_sr ?_
    refine WL.qn (y_loadN rfl rfl a26 s26 rfl) rfl ?_
    obtain ⟨r138, hr138, h⟩ := bindS h
    refine WL.fn rfl rfl rfl rfl (f10_c _ hr138) ⟨(Le.agd ⟨(Le.refl _), (Le.refl _), (Le.refl _), (Le.refl _), (Le.refl _), (Le.refl _), (Le.refl _), (Le.refl _), (Le.refl _), (Le.refl _), (Le.refl _), (Le.refl _), (Le.refl _), (Le.refl _), (Le.refl _), (Le.refl _), (Le.refl _), (Le.refl _), (Le.refl _), (Le.refl _), (Le.refl _), (Le.refl _), (Le.refl _), (Le.refl _), (Le.refl _), (Le.refl _), (Le.refl _), (Le.refl _), (Le.refl _), (Le.refl _), (Le.refl _), (Le.refl _), (Le.refl _), (Le.refl _), trivial⟩), trivial⟩ (Wt.none rfl) rfl rfl ?_
    refine WL.qn (y_not rfl) rfl ?_
    refine WL.mv rfl rfl ?_
    obtain ⟨b139, hb139, h⟩ := bindS h
    apply WL.grp 6 (t := 83) (d := 89) (z := b139)
    ·exact rfl
    ·intro hg83
     have h := condT hb139 hg83
     refine WL.skips 5 rfl ?_
     refine WL.qn (y_pick_t rfl rfl) rfl ?_
     obtain rfl := Option.some.inj h
     exact WL.nil ⟨rfl, [_, _, _, _, _, _], rfl, rfl, rfl⟩
    ·intro hg83
     have h := condF hb139 hg83
     refine WL.qy (y_loadN rfl rfl a26 s26 rfl) rfl rfl rfl ?_
     refine WL.qy (y_move rfl) rfl rfl rfl ?_
     obtain ⟨r140, hr140, h⟩ := bindS h
     refine WL.fn rfl rfl rfl rfl (f27_c _ _ hr140) ⟨(Le.agd ⟨(Le.refl _), (Le.refl _), (Le.refl _), (Le.refl _), (Le.refl _), (Le.refl _), (Le.refl _), (Le.refl _), (Le.refl _), (Le.refl _), (Le.refl _), (Le.refl _), (Le.refl _), (Le.refl _), (Le.refl _), (Le.refl _), (Le.refl _), (Le.refl _), (Le.refl _), (Le.refl _), (Le.refl _), (Le.refl _), (Le.refl _), (Le.refl _), (Le.refl _), (Le.refl _), (Le.refl _), (Le.refl _), (Le.refl _), (Le.refl _), (Le.refl _), (Le.refl _), (Le.refl _), (Le.refl _), trivial⟩), (Le.refl _), trivial⟩ (Wt.yes rfl rfl rfl) rfl rfl ?_
     refine WL.qy (y_move rfl) rfl rfl rfl ?_
     refine WL.qy (y_neq rfl rfl) rfl rfl rfl ?_
     refine WL.qn (y_pick_f rfl rfl) rfl ?_
     obtain rfl := Option.some.inj h
     exact WL.nil ⟨rfl, [_, _, _, _, _, _], rfl, rfl, rfl⟩
    refine WL.mv rfl rfl ?_
    apply WL.or 8 (t := 90) (d := 98)
    ·exact rfl
    ·intro hg90
     refine WL.qy (y_fieldAddr f26_1 rfl) rfl rfl rfl ?_
     refine WL.qy (y_load rfl rfl a24 rfl) rfl rfl rfl ?_
     refine WL.qy (y_len_map E62 c032127 e24 rfl rfl (Le.refl _)) rfl rfl rfl ?_
     refine WL.qy (y_fieldAddrc f26_1 rfl) rfl rfl rfl ?_
     refine WL.qy (y_loadc rfl a24 rfl) rfl rfl rfl ?_
     refine WL.qy (y_len_map E62 q0.delays e24 rfl rfl (Le.refl _)) rfl rfl rfl ?_
     refine WL.qy (y_neq rfl rfl) rfl rfl rfl ?_
     refine WL.qn (y_pick_f rfl rfl) rfl ?_
     exact WL.nil ⟨rfl, [_, _, _, _, _, _, _, _], rfl, rfl, rfl⟩
    ·refine WL.skips 7 rfl ?_
     refine WL.qn (y_pick_t rfl rfl) rfl ?_
     exact WL.nil ⟨rfl, [_, _, _, _, _, _, _, _], rfl, rfl, rfl⟩
    refine WL.ns ?_
    refine wc_cond rfl (fun hc7 => ?_) (fun hc7 => ?_)
    ·replace h := condT h hc7
     refine wc_sr ?_
     refine WL.as rfl rfl ?_
     refine WL.ns ?_
     refine wc_ret ?_
     refine we_seq_ret ?_
     obtain rfl := Option.some.inj h
     exact we_ret_fn (rs1 rfl (rv_t rfl)) (Le.refl _)
    ·replace h := condF h hc7
     refine wc_skip ?_
     refine we_seq ?_
     replace h := letkS h
     obtain ⟨k141, hk141, h⟩ := h
     refine wc_cut (fun env' st' => k141 () = some r ∧ Sub [] env' ∧ SLe st' [.row 26 (vecA 32 (fun j => .d (.sl (List.map E3 (c00126 j)))) ++ ([.d (.sl (List.map E62 c032127)), .d (D.i .i64 c033128)] : List AV))]) ?_ ?_
     ·refine wc_sr ?_
      refine WL.as rfl rfl ?_
      refine WL.ns ?_
      refine wc_block ?_
      refine wc_loop (fun n env' st' => ∃ (t143 : Int), f8_l1 q0 x1 c00126 c032127 c033128 k141 n t143 = some r ∧ Sub [(2, .d (.pc (R26 q0))), (5, .d (D.i .i64 (IntKind.i64.wrap (BitVec.ofInt IntKind.i64.bits x1.task &&& BitVec.ofInt IntKind.i64.bits 31).toNat))), (7, .pt 0 0), (9, .d (D.i .i64 t143))] env' ∧ SLe st' [.row 26 (vecA 32 (fun j => .d (.sl (List.map E3 (c00126 j)))) ++ ([.d (.sl (List.map E62 c032127)), .d (D.i .i64 c033128)] : List AV))]) (fun n => n) 9223372036854775808 ⟨0, h, (Sub.cons rfl (Le.refl _) (Sub.cons rfl (Le.refl _) (Sub.cons rfl (Le.refl _) (Sub.cons rfl (Le.refl _) (Sub.nil _))))), ⟨⟨rfl, Les.refl _⟩, trivial⟩⟩ ?_
      rintro n env1 st1 ⟨t143, h, hsub, hst⟩
      cases n with
      | zero => rw [f8_l1] at h; cases h
      | succ n =>
      rw [f8_l1] at h
      refine WC.sub hsub (WC.weak hst ?_)
      refine wc_seq ?_
      refine wc_sr ?_
      refine WL.mv rfl rfl ?_
      refine WL.qn (y_lss rfl rfl) rfl ?_
      refine WL.ns ?_
      refine wc_cond rfl (fun hc8 => ?_) (fun hc8 => ?_)
      ·replace h := condT h hc8
       refine wc_skip ?_
       refine we_seq ?_
       refine wc_seq ?_
       refine wc_block ?_
       refine wc_seq ?_
       refine wc_region_draw (by kernel_rfl) (by kernel_rfl) ?_
       refine WQ.qn (y_move rfl) rfl ?_
       refine WQ.qn (y_move rfl) rfl ?_
       refine WQ.qn (y_neq rfl rfl) rfl ?_
       refine WQ.qn (y_move rfl) rfl ?_
       obtain ⟨b145, hb145, h⟩ := bindS h
       apply WQ.grp 8 (t := 106) (d := 114) (z := b145)
       ·exact rfl
       ·intro hg106
        have h := condT hb145 hg106
        refine WQ.qy (y_loadN rfl rfl a26 s26 rfl) rfl rfl rfl ?_
        refine WQ.qy (y_move rfl) rfl rfl rfl ?_
        obtain ⟨r146, hr146, h⟩ := bindS h
        refine WQ.q (YieldsQ.fn rfl rfl rfl rfl rfl (f27_c _ _ hr146) ⟨(Le.agd ⟨(Le.refl _), (Le.refl _), (Le.refl _), (Le.refl _), (Le.refl _), (Le.refl _), (Le.refl _), (Le.refl _), (Le.refl _), (Le.refl _), (Le.refl _), (Le.refl _), (Le.refl _), (Le.refl _), (Le.refl _), (Le.refl _), (Le.refl _), (Le.refl _), (Le.refl _), (Le.refl _), (Le.refl _), (Le.refl _), (Le.refl _), (Le.refl _), (Le.refl _), (Le.refl _), (Le.refl _), (Le.refl _), (Le.refl _), (Le.refl _), (Le.refl _), (Le.refl _), (Le.refl _), (Le.refl _), trivial⟩), (Le.refl _), trivial⟩) (Wt.yes rfl rfl rfl) rfl rfl ?_
        refine WQ.qy (y_loadcN rfl a26 s26 rfl) rfl rfl rfl ?_
        refine WQ.qy (y_move rfl) rfl rfl rfl ?_
        obtain ⟨r147, hr147, h⟩ := bindS h
        refine WQ.q (YieldsQ.fn rfl rfl rfl rfl rfl (f27_c _ _ hr147) ⟨(Le.refl _), (Le.refl _), trivial⟩) (Wt.yes rfl rfl rfl) rfl rfl ?_
        refine WQ.qy (y_neq rfl rfl) rfl rfl rfl ?_
        refine WQ.qn (y_pick_t rfl rfl) rfl ?_
        obtain rfl := Option.some.inj h
        exact WQ.nil ⟨[_, _, _, _, _, _, _, _], rfl, rfl, rfl⟩
       ·intro hg106
        have h := condF hb145 hg106
        refine WQ.skips 7 rfl ?_
        refine WQ.qn (y_pick_f rfl rfl) rfl ?_
        obtain rfl := Option.some.inj h
        exact WQ.nil ⟨[_, _, _, _, _, _, _, _], rfl, rfl, rfl⟩
       refine WQ.nil ?_
       refine we_seq ?_
       refine wc_cond rfl (fun hc9 => ?_) (fun hc9 => ?_)
       ·replace h := condT h hc9
        refine wc_sr ?_
        refine WL.as rfl rfl ?_
        refine WL.ns ?_
        refine wc_ret ?_
        refine we_blk_ret ?_
        refine we_seq_ret ?_
        refine we_lp_ret ?_
        refine we_blk_ret ?_
        refine we_lp_ret ?_
        obtain rfl := Option.some.inj h
        exact we_ret_fn (rs1 rfl (rv_t rfl)) (Le.refl _)
       ·replace h := condF h hc9
        refine wc_skip ?_
        refine we_blk ?_
        refine we_seq ?_
        refine wc_region ?_
        refine WL.mv rfl rfl ?_
        refine WL.qn (y_add rfl rfl rfl) rfl ?_
        refine WL.as rfl rfl ?_
        refine WL.nil ?_
        exact we_lp ⟨n, ⟨(IntKind.i64.wrap (t143 + 1)), h, (Sub.cons rfl (Le.refl _) (Sub.cons rfl (Le.refl _) (Sub.cons rfl (Le.refl _) (Sub.cons rfl (Le.refl _) (Sub.nil _))))), ⟨⟨rfl, Les.refl _⟩, trivial⟩⟩, Nat.lt_succ_self n⟩
      ·replace h := condF h hc8
       refine wc_exit ?_
       refine we_seq_exit ?_
       refine we_lp_exit ?_
       refine we_blk_hit ?_
       exact we_lp ⟨h, (Sub.nil _), ⟨⟨rfl, Les.refl _⟩, trivial⟩⟩
     ·rintro env1 st1 ⟨h, hsub, hst⟩
      subst hk141
      dsimp only at h
      refine WC.sub hsub (WC.weak hst ?_)
      refine wc_sr ?_
      obtain ⟨r148, hr148, h⟩ := bindS h
      refine WL.fn rfl rfl rfl rfl (f11_c hr148) trivial (Wt.none rfl) rfl rfl ?_
      refine WL.as rfl rfl ?_
      refine WL.ns ?_
      refine wc_ret ?_
      obtain rfl := Option.some.inj h
      exact we_ret_fn (rs1 rfl (rv_t rfl)) (Le.refl _)
end Go.Proofs.Ytpionlekbfoccaa
