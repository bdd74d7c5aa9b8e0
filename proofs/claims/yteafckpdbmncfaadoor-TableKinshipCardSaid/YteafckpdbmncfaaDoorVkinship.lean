/- The walks of functions that this law reaches. -/
import Derived.Test.YteafckpdbmncfaaDoorWd
import Derived.Test.YteafckpdbmncfaaDoorWm
set_option maxHeartbeats 4000000
set_option maxRecDepth 100000
namespace Go.Proofs.YteafckpdbmncfaaDoor
open Go Go.Sk

theorem f5_c (t0 : Table) {r : Bool} (h : f5 t0 = some r) : Pu Tryd.prog 5 [.ag (R28 t0)] (.b r) := by
 unfold f5 at h
 refine fn_intro Tryd.func5 (by kernel_rfl) rfl rfl rfl (fun φφ ww => ?_)
 refine wc_sr ?_
 refine WL.s ((b_box rfl rfl).does) (Wt.none rfl) rfl rfl ?_
 refine WL.as rfl rfl ?_
 refine WL.ns ?_
 refine wc_sr ?_
 refine WL.qn (y_loadN rfl rfl a28 s28 rfl) rfl ?_
 obtain ⟨r116, hr116, h⟩ := bindS h
 refine WL.fn rfl rfl rfl rfl (f10_c _ hr116) ⟨(Le.agd ⟨(Le.refl _), (Le.refl _), (Le.refl _), (Le.refl _), (Le.refl _), trivial⟩), trivial⟩ (Wt.none rfl) rfl rfl ?_
 refine WL.s0 (d_store rfl rfl rfl rfl rfl rfl s28 rfl rfl) (Wt.none rfl) rfl ?_
 refine WL.ns ?_
 refine wc_sr ?_
 refine WL.qn (y_fieldAddr f28_0 rfl) rfl ?_
 refine WL.qn (y_load rfl rfl a22 rfl) rfl ?_
 refine WL.qn (y_len_map E54 r116.types e22 rfl rfl (Le.refl _)) rfl ?_
 refine WL.qn (y_min rfl rfl rfl) rfl ?_
 refine WL.as rfl rfl ?_
 refine WL.ns ?_
 replace h := letkS h
 obtain ⟨k117, hk117, h⟩ := h
 refine wc_cut (fun env' st' => k117 () = some r ∧ Sub [(1, .pt 0 0)] env' ∧ SLe st' [.row 28 [.d (.sl (List.map E54 r116.types)), .d (.sl (List.map E40 r116.subs)), .d (.v (SlV.v r116.ents)), .d (.v (SlV.v r116.gens)), .d (.v (SlV.v r116.insts))]]) ?_ ?_
 ·refine wc_sr ?_
  refine WL.as rfl rfl ?_
  refine WL.ns ?_
  refine wc_block ?_
  refine wc_loop (fun n env' st' => ∃ (a119 : Int), f5_l1 r116 k117 n a119 = some r ∧ Sub [(1, .pt 0 0), (3, .d (D.i .i64 (if 12 < (List.length r116.types : Int) then 12 else (List.length r116.types : Int)))), (4, .d (D.i .i64 a119))] env' ∧ SLe st' [.row 28 [.d (.sl (List.map E54 r116.types)), .d (.sl (List.map E40 r116.subs)), .d (.v (SlV.v r116.ents)), .d (.v (SlV.v r116.gens)), .d (.v (SlV.v r116.insts))]]) (fun n => n) 9223372036854775808 ⟨0, h, (Sub.cons rfl (Le.refl _) (Sub.cons rfl (Le.refl _) (Sub.cons rfl (Le.refl _) (Sub.nil _)))), ⟨⟨rfl, ⟨(Le.refl _), (Le.refl _), (Le.refl _), (Le.refl _), (Le.refl _), trivial⟩⟩, trivial⟩⟩ ?_
  rintro n env1 st1 ⟨a119, h, hsub, hst⟩
  cases n with
  | zero => rw [f5_l1] at h; cases h
  | succ n =>
  rw [f5_l1] at h
  refine WC.sub hsub (WC.weak hst ?_)
  refine wc_seq ?_
  refine wc_sr ?_
  refine WL.mv rfl rfl ?_
  refine WL.mv rfl rfl ?_
  refine WL.qn (y_lss rfl rfl) rfl ?_
  refine WL.ns ?_
  refine wc_cond rfl (fun hc1 => ?_) (fun hc1 => ?_)
  ·replace h := condT h hc1
   refine wc_skip ?_
   refine we_seq ?_
   replace h := letkS h
   obtain ⟨k121, hk121, h⟩ := h
   refine wc_cut (fun env' st' => k121 () = some r ∧ Sub [(1, .pt 0 0), (3, .d (D.i .i64 (if 12 < (List.length r116.types : Int) then 12 else (List.length r116.types : Int)))), (4, .d (D.i .i64 a119))] env' ∧ SLe st' [.row 28 [.d (.sl (List.map E54 r116.types)), .d (.sl (List.map E40 r116.subs)), .d (.v (SlV.v r116.ents)), .d (.v (SlV.v r116.gens)), .d (.v (SlV.v r116.insts))]]) ?_ ?_
   ·refine wc_block ?_
    refine wc_sr ?_
    refine WL.qn (y_loadN rfl rfl a28 s28 rfl) rfl ?_
    refine WL.mv rfl rfl ?_
    obtain ⟨r122, hr122, h⟩ := bindS h
    refine WL.fn rfl rfl rfl rfl (f22_c _ _ hr122) ⟨(Le.agd ⟨(Le.refl _), (Le.refl _), (Le.refl _), (Le.refl _), (Le.refl _), trivial⟩), (Le.refl _), trivial⟩ (Wt.none rfl) rfl rfl ?_
    refine WL.as rfl rfl ?_
    refine WL.ns ?_
    refine wc_seq ?_
    refine wc_sr ?_
    refine WL.qn (y_loadN rfl rfl a28 s28 rfl) rfl ?_
    refine WL.mv rfl rfl ?_
    refine WL.mv rfl rfl ?_
    obtain ⟨r123, hr123, h⟩ := bindS h
    refine WL.fn rfl rfl rfl rfl (f18_c _ _ _ hr123) ⟨(Le.agd ⟨(Le.refl _), (Le.refl _), (Le.refl _), (Le.refl _), (Le.refl _), trivial⟩), (Le.refl _), (Le.refl _), trivial⟩ (Wt.none rfl) rfl rfl ?_
    refine WL.qn (y_not rfl) rfl ?_
    refine WL.mv rfl rfl ?_
    obtain ⟨b124, hb124, h⟩ := bindS h
    apply WL.grp 10 (t := 29) (d := 39) (z := b124)
    ·exact rfl
    ·intro hg29
     have h := condT hb124 hg29
     refine WL.skips 9 rfl ?_
     refine WL.qn (y_pick_t rfl rfl) rfl ?_
     obtain rfl := Option.some.inj h
     exact WL.nil ⟨rfl, [_, _, _, _, _, _, _, _, _, _], rfl, rfl, rfl⟩
    ·intro hg29
     have h := condF hb124 hg29
     refine WL.qy (y_loadN rfl rfl a28 s28 rfl) rfl rfl rfl ?_
     obtain ⟨r125, hr125, h⟩ := bindS h
     refine WL.fn rfl rfl rfl rfl (f24_c _ hr125) ⟨(Le.agd ⟨(Le.refl _), (Le.refl _), (Le.refl _), (Le.refl _), (Le.refl _), trivial⟩), trivial⟩ (Wt.yes rfl rfl rfl) rfl rfl ?_
     refine WL.qy (y_move rfl) rfl rfl rfl ?_
     obtain ⟨b126, hb126, h⟩ := bindS h
     apply WL.grp 6 (t := 32) (d := 38) (z := b126)
     ·exact rfl
     ·intro hg32
      have h := condT hb126 hg32
      refine WL.qy (y_loadN rfl rfl a28 s28 rfl) rfl rfl rfl ?_
      refine WL.qy (y_move rfl) rfl rfl rfl ?_
      refine WL.qy (y_move rfl) rfl rfl rfl ?_
      obtain ⟨r127, hr127, h⟩ := bindS h
      refine WL.fn rfl rfl rfl rfl (f18_c _ _ _ hr127) ⟨(Le.agd ⟨(Le.refl _), (Le.refl _), (Le.refl _), (Le.refl _), (Le.refl _), trivial⟩), (Le.refl _), (Le.refl _), trivial⟩ (Wt.yes rfl rfl rfl) rfl rfl ?_
      refine WL.qy (y_not rfl) rfl rfl rfl ?_
      refine WL.qy (y_pick_t rfl rfl) rfl rfl rfl ?_
      obtain rfl := Option.some.inj h
      exact WL.nil ⟨rfl, [_, _, _, _, _, _], rfl, rfl, rfl⟩
     ·intro hg32
      have h := condF hb126 hg32
      refine WL.skips 5 rfl ?_
      refine WL.qy (y_pick_f rfl rfl) rfl rfl rfl ?_
      obtain rfl := Option.some.inj h
      exact WL.nil ⟨rfl, [_, _, _, _, _, _], rfl, rfl, rfl⟩
     refine WL.qn (y_pick_f rfl rfl) rfl ?_
     obtain rfl := Option.some.inj h
     exact WL.nil ⟨rfl, [_, _, _, _, _], rfl, rfl, rfl⟩
    refine WL.mv rfl rfl ?_
    obtain ⟨b128, hb128, h⟩ := bindS h
    apply WL.grp 6 (t := 40) (d := 46) (z := b128)
    ·exact rfl
    ·intro hg40
     have h := condT hb128 hg40
     refine WL.skips 5 rfl ?_
     refine WL.qn (y_pick_t rfl rfl) rfl ?_
     obtain rfl := Option.some.inj h
     exact WL.nil ⟨rfl, [_, _, _, _, _, _], rfl, rfl, rfl⟩
    ·intro hg40
     have h := condF hb128 hg40
     refine WL.qy (y_loadN rfl rfl a28 s28 rfl) rfl rfl rfl ?_
     refine WL.qy (y_move rfl) rfl rfl rfl ?_
     obtain ⟨r129, hr129, h⟩ := bindS h
     refine WL.fn rfl rfl rfl rfl (f22_c _ _ hr129) ⟨(Le.agd ⟨(Le.refl _), (Le.refl _), (Le.refl _), (Le.refl _), (Le.refl _), trivial⟩), (Le.refl _), trivial⟩ (Wt.yes rfl rfl rfl) rfl rfl ?_
     refine WL.qy (y_move rfl) rfl rfl rfl ?_
     refine WL.qy (y_neq rfl rfl) rfl rfl rfl ?_
     refine WL.qn (y_pick_f rfl rfl) rfl ?_
     obtain rfl := Option.some.inj h
     exact WL.nil ⟨rfl, [_, _, _, _, _, _], rfl, rfl, rfl⟩
    refine WL.ns ?_
    refine wc_cond rfl (fun hc2 => ?_) (fun hc2 => ?_)
    ·replace h := condT h hc2
     refine wc_sr ?_
     refine WL.as rfl rfl ?_
     refine WL.ns ?_
     refine wc_ret ?_
     refine we_seq_ret ?_
     refine we_blk_ret ?_
     refine we_lp_ret ?_
     refine we_lp_ret ?_
     refine we_blk_ret ?_
     refine we_lp_ret ?_
     obtain rfl := Option.some.inj h
     exact we_ret_fn (rs1 rfl (rv_t rfl)) (Le.refl _)
    ·replace h := condF h hc2
     refine wc_skip ?_
     refine we_seq ?_
     refine wc_sr ?_
     refine WL.as rfl rfl ?_
     refine WL.ns ?_
     refine wc_block ?_
     refine wc_loop (fun na env' st' => ∃ (b131 : Int), f5_l2 r116 a119 k121 na b131 = some r ∧ Sub [(1, .pt 0 0), (3, .d (D.i .i64 (if 12 < (List.length r116.types : Int) then 12 else (List.length r116.types : Int)))), (4, .d (D.i .i64 a119)), (6, .d (D.i .i64 b131))] env' ∧ SLe st' [.row 28 [.d (.sl (List.map E54 r116.types)), .d (.sl (List.map E40 r116.subs)), .d (.v (SlV.v r116.ents)), .d (.v (SlV.v r116.gens)), .d (.v (SlV.v r116.insts))]]) (fun n => n) 9223372036854775808 ⟨0, h, (Sub.cons rfl (Le.refl _) (Sub.cons rfl (Le.refl _) (Sub.cons rfl (Le.refl _) (Sub.cons rfl (Le.refl _) (Sub.nil _))))), ⟨⟨rfl, ⟨(Le.refl _), (Le.refl _), (Le.refl _), (Le.refl _), (Le.refl _), trivial⟩⟩, trivial⟩⟩ ?_
     rintro na env1 st1 ⟨b131, h, hsub, hst⟩
     cases na with
     | zero => rw [f5_l2] at h; cases h
     | succ na =>
     rw [f5_l2] at h
     refine WC.sub hsub (WC.weak hst ?_)
     refine wc_seq ?_
     refine wc_sr ?_
     refine WL.mv rfl rfl ?_
     refine WL.mv rfl rfl ?_
     refine WL.qn (y_lss rfl rfl) rfl ?_
     refine WL.ns ?_
     refine wc_cond rfl (fun hc3 => ?_) (fun hc3 => ?_)
     ·replace h := condT h hc3
      refine wc_skip ?_
      refine we_seq ?_
      replace h := letkS h
      obtain ⟨k133, hk133, h⟩ := h
      refine wc_cut (fun env' st' => k133 () = some r ∧ Sub [(1, .pt 0 0), (3, .d (D.i .i64 (if 12 < (List.length r116.types : Int) then 12 else (List.length r116.types : Int)))), (4, .d (D.i .i64 a119)), (6, .d (D.i .i64 b131))] env' ∧ SLe st' [.row 28 [.d (.sl (List.map E54 r116.types)), .d (.sl (List.map E40 r116.subs)), .d (.v (SlV.v r116.ents)), .d (.v (SlV.v r116.gens)), .d (.v (SlV.v r116.insts))]]) ?_ ?_
      ·refine wc_block ?_
       refine wc_seq ?_
       refine wc_seq ?_
       refine wc_region_draw (by kernel_rfl) (by kernel_rfl) ?_
       refine WQ.qn (y_loadN rfl rfl a28 s28 rfl) rfl ?_
       refine WQ.qn (y_move rfl) rfl ?_
       refine WQ.qn (y_move rfl) rfl ?_
       obtain ⟨r134, hr134, h⟩ := bindS h
       refine WQ.q (YieldsQ.fn rfl rfl rfl rfl rfl (f18_c _ _ _ hr134) ⟨(Le.agd ⟨(Le.refl _), (Le.refl _), (Le.refl _), (Le.refl _), (Le.refl _), trivial⟩), (Le.refl _), (Le.refl _), trivial⟩) (Wt.none rfl) rfl rfl ?_
       refine WQ.qn (y_loadN rfl rfl a28 s28 rfl) rfl ?_
       refine WQ.qn (y_move rfl) rfl ?_
       refine WQ.qn (y_move rfl) rfl ?_
       obtain ⟨r135, hr135, h⟩ := bindS h
       refine WQ.q (YieldsQ.fn rfl rfl rfl rfl rfl (f18_c _ _ _ hr135) ⟨(Le.agd ⟨(Le.refl _), (Le.refl _), (Le.refl _), (Le.refl _), (Le.refl _), trivial⟩), (Le.refl _), (Le.refl _), trivial⟩) (Wt.none rfl) rfl rfl ?_
       refine WQ.qn (y_neb Tryd.underlying4 rfl rfl) rfl ?_
       refine WQ.nil ?_
       refine we_seq ?_
       refine wc_cond rfl (fun hc4 => ?_) (fun hc4 => ?_)
       ·replace h := condT h hc4
        refine wc_sr ?_
        refine WL.as rfl rfl ?_
        refine WL.ns ?_
        refine wc_ret ?_
        refine we_seq_ret ?_
        refine we_blk_ret ?_
        refine we_lp_ret ?_
        refine we_lp_ret ?_
        refine we_blk_ret ?_
        refine we_blk_ret ?_
        refine we_lp_ret ?_
        refine we_lp_ret ?_
        refine we_blk_ret ?_
        refine we_lp_ret ?_
        obtain rfl := Option.some.inj h
        exact we_ret_fn (rs1 rfl (rv_t rfl)) (Le.refl _)
       ·replace h := condF h hc4
        refine wc_skip ?_
        refine we_seq ?_
        refine wc_sr ?_
        refine WL.as rfl rfl ?_
        refine WL.ns ?_
        refine wc_block ?_
        refine wc_loop (fun nb env' st' => ∃ (c137 : Int), f5_l3 r116 a119 b131 k133 nb c137 = some r ∧ Sub [(1, .pt 0 0), (3, .d (D.i .i64 (if 12 < (List.length r116.types : Int) then 12 else (List.length r116.types : Int)))), (4, .d (D.i .i64 a119)), (6, .d (D.i .i64 b131)), (7, .d (D.i .i64 c137))] env' ∧ SLe st' [.row 28 [.d (.sl (List.map E54 r116.types)), .d (.sl (List.map E40 r116.subs)), .d (.v (SlV.v r116.ents)), .d (.v (SlV.v r116.gens)), .d (.v (SlV.v r116.insts))]]) (fun n => n) 9223372036854775808 ⟨0, h, (Sub.cons rfl (Le.refl _) (Sub.cons rfl (Le.refl _) (Sub.cons rfl (Le.refl _) (Sub.cons rfl (Le.refl _) (Sub.cons rfl (Le.refl _) (Sub.nil _)))))), ⟨⟨rfl, ⟨(Le.refl _), (Le.refl _), (Le.refl _), (Le.refl _), (Le.refl _), trivial⟩⟩, trivial⟩⟩ ?_
        rintro nb env1 st1 ⟨c137, h, hsub, hst⟩
        cases nb with
        | zero => rw [f5_l3] at h; cases h
        | succ nb =>
        rw [f5_l3] at h
        refine WC.sub hsub (WC.weak hst ?_)
        refine wc_seq ?_
        refine wc_sr ?_
        refine WL.mv rfl rfl ?_
        refine WL.mv rfl rfl ?_
        refine WL.qn (y_lss rfl rfl) rfl ?_
        refine WL.ns ?_
        refine wc_cond rfl (fun hc5 => ?_) (fun hc5 => ?_)
        ·replace h := condT h hc5
         refine wc_skip ?_
         refine we_seq ?_
         refine wc_seq ?_
         refine wc_block ?_
         refine wc_sr ?_
         refine WL.qn (y_loadN rfl rfl a28 s28 rfl) rfl ?_
         refine WL.mv rfl rfl ?_
         refine WL.mv rfl rfl ?_
         obtain ⟨r139, hr139, h⟩ := bindS h
         refine WL.fn rfl rfl rfl rfl (f18_c _ _ _ hr139) ⟨(Le.agd ⟨(Le.refl _), (Le.refl _), (Le.refl _), (Le.refl _), (Le.refl _), trivial⟩), (Le.refl _), (Le.refl _), trivial⟩ (Wt.none rfl) rfl rfl ?_
         refine WL.mv rfl rfl ?_
         obtain ⟨b140, hb140, h⟩ := bindS h
         apply WL.grp 5 (t := 70) (d := 75) (z := b140)
         ·exact rfl
         ·intro hg70
          have h := condT hb140 hg70
          refine WL.qy (y_loadN rfl rfl a28 s28 rfl) rfl rfl rfl ?_
          refine WL.qy (y_move rfl) rfl rfl rfl ?_
          refine WL.qy (y_move rfl) rfl rfl rfl ?_
          obtain ⟨r141, hr141, h⟩ := bindS h
          refine WL.fn rfl rfl rfl rfl (f18_c _ _ _ hr141) ⟨(Le.agd ⟨(Le.refl _), (Le.refl _), (Le.refl _), (Le.refl _), (Le.refl _), trivial⟩), (Le.refl _), (Le.refl _), trivial⟩ (Wt.yes rfl rfl rfl) rfl rfl ?_
          refine WL.qn (y_pick_t rfl rfl) rfl ?_
          obtain rfl := Option.some.inj h
          exact WL.nil ⟨rfl, [_, _, _, _, _], rfl, rfl, rfl⟩
         ·intro hg70
          have h := condF hb140 hg70
          refine WL.skips 4 rfl ?_
          refine WL.qn (y_pick_f rfl rfl) rfl ?_
          obtain rfl := Option.some.inj h
          exact WL.nil ⟨rfl, [_, _, _, _, _], rfl, rfl, rfl⟩
         refine WL.mv rfl rfl ?_
         obtain ⟨b142, hb142, h⟩ := bindS h
         apply WL.grp 6 (t := 76) (d := 82) (z := b142)
         ·exact rfl
         ·intro hg76
          have h := condT hb142 hg76
          refine WL.qy (y_loadN rfl rfl a28 s28 rfl) rfl rfl rfl ?_
          refine WL.qy (y_move rfl) rfl rfl rfl ?_
          refine WL.qy (y_move rfl) rfl rfl rfl ?_
          obtain ⟨r143, hr143, h⟩ := bindS h
          refine WL.fn rfl rfl rfl rfl (f18_c _ _ _ hr143) ⟨(Le.agd ⟨(Le.refl _), (Le.refl _), (Le.refl _), (Le.refl _), (Le.refl _), trivial⟩), (Le.refl _), (Le.refl _), trivial⟩ (Wt.yes rfl rfl rfl) rfl rfl ?_
          refine WL.qy (y_not rfl) rfl rfl rfl ?_
          refine WL.qn (y_pick_t rfl rfl) rfl ?_
          obtain rfl := Option.some.inj h
          exact WL.nil ⟨rfl, [_, _, _, _, _, _], rfl, rfl, rfl⟩
         ·intro hg76
          have h := condF hb142 hg76
          refine WL.skips 5 rfl ?_
          refine WL.qn (y_pick_f rfl rfl) rfl ?_
          obtain rfl := Option.some.inj h
          exact WL.nil ⟨rfl, [_, _, _, _, _, _], rfl, rfl, rfl⟩
         refine WL.ns ?_
         refine wc_cond rfl (fun hc6 => ?_) (fun hc6 => ?_)
         ·replace h := condT h hc6
          refine wc_sr ?_
          refine WL.as rfl rfl ?_
          refine WL.ns ?_
          refine wc_ret ?_
          refine we_blk_ret ?_
          refine we_seq_ret ?_
          refine we_lp_ret ?_
          refine we_blk_ret ?_
          refine we_blk_ret ?_
          refine we_lp_ret ?_
          refine we_lp_ret ?_
          refine we_blk_ret ?_
          refine we_blk_ret ?_
          refine we_lp_ret ?_
          refine we_lp_ret ?_
          refine we_blk_ret ?_
          refine we_lp_ret ?_
          obtain rfl := Option.some.inj h
          exact we_ret_fn (rs1 rfl (rv_t rfl)) (Le.refl _)
         ·replace h := condF h hc6
          refine wc_skip ?_
          refine we_blk ?_
          refine we_seq ?_
          refine wc_region ?_
          refine WL.mv rfl rfl ?_
          refine WL.qn (y_add rfl rfl rfl) rfl ?_
          refine WL.as rfl rfl ?_
          refine WL.nil ?_
          exact we_lp ⟨nb, ⟨(IntKind.i64.wrap (c137 + 1)), h, (Sub.cons rfl (Le.refl _) (Sub.cons rfl (Le.refl _) (Sub.cons rfl (Le.refl _) (Sub.cons rfl (Le.refl _) (Sub.cons rfl (Le.refl _) (Sub.nil _)))))), ⟨⟨rfl, ⟨(Le.refl _), (Le.refl _), (Le.refl _), (Le.refl _), (Le.refl _), trivial⟩⟩, trivial⟩⟩, Nat.lt_succ_self nb⟩
        ·replace h := condF h hc5
         refine wc_exit ?_
         refine we_seq_exit ?_
         refine we_lp_exit ?_
         refine we_blk_hit ?_
         refine we_blk ?_
         exact we_lp ⟨h, (Sub.cons rfl (Le.refl _) (Sub.cons rfl (Le.refl _) (Sub.cons rfl (Le.refl _) (Sub.cons rfl (Le.refl _) (Sub.nil _))))), ⟨⟨rfl, ⟨(Le.refl _), (Le.refl _), (Le.refl _), (Le.refl _), (Le.refl _), trivial⟩⟩, trivial⟩⟩
      ·rintro env1 st1 ⟨h, hsub, hst⟩
       subst hk133
       dsimp only at h
       refine WC.sub hsub (WC.weak hst ?_)
       refine wc_region ?_
       refine WL.mv rfl rfl ?_
       refine WL.qn (y_add rfl rfl rfl) rfl ?_
       refine WL.as rfl rfl ?_
       refine WL.nil ?_
       exact we_lp ⟨na, ⟨(IntKind.i64.wrap (b131 + 1)), h, (Sub.cons rfl (Le.refl _) (Sub.cons rfl (Le.refl _) (Sub.cons rfl (Le.refl _) (Sub.cons rfl (Le.refl _) (Sub.nil _))))), ⟨⟨rfl, ⟨(Le.refl _), (Le.refl _), (Le.refl _), (Le.refl _), (Le.refl _), trivial⟩⟩, trivial⟩⟩, Nat.lt_succ_self na⟩
     ·replace h := condF h hc3
      refine wc_exit ?_
      refine we_seq_exit ?_
      refine we_lp_exit ?_
      refine we_blk_hit ?_
      refine we_blk ?_
      exact we_lp ⟨h, (Sub.cons rfl (Le.refl _) (Sub.cons rfl (Le.refl _) (Sub.cons rfl (Le.refl _) (Sub.nil _)))), ⟨⟨rfl, ⟨(Le.refl _), (Le.refl _), (Le.refl _), (Le.refl _), (Le.refl _), trivial⟩⟩, trivial⟩⟩
   ·rintro env1 st1 ⟨h, hsub, hst⟩
    subst hk121
    dsimp only at h
    refine WC.sub hsub (WC.weak hst ?_)
    refine wc_region ?_
    refine WL.mv rfl rfl ?_
    refine WL.qn (y_add rfl rfl rfl) rfl ?_
    refine WL.as rfl rfl ?_
    refine WL.nil ?_
    exact we_lp ⟨n, ⟨(IntKind.i64.wrap (a119 + 1)), h, (Sub.cons rfl (Le.refl _) (Sub.cons rfl (Le.refl _) (Sub.cons rfl (Le.refl _) (Sub.nil _)))), ⟨⟨rfl, ⟨(Le.refl _), (Le.refl _), (Le.refl _), (Le.refl _), (Le.refl _), trivial⟩⟩, trivial⟩⟩, Nat.lt_succ_self n⟩
  ·replace h := condF h hc1
   refine wc_exit ?_
   refine we_seq_exit ?_
   refine we_lp_exit ?_
   refine we_blk_hit ?_
   exact we_lp ⟨h, (Sub.cons rfl (Le.refl _) (Sub.nil _)), ⟨⟨rfl, ⟨(Le.refl _), (Le.refl _), (Le.refl _), (Le.refl _), (Le.refl _), trivial⟩⟩, trivial⟩⟩
 ·rintro env1 st1 ⟨h, hsub, hst⟩
  subst hk117
  dsimp only at h
  refine WC.sub hsub (WC.weak hst ?_)
  replace h := letkS h
  obtain ⟨k144, hk144, h⟩ := h
  refine wc_cut (fun env' st' => k144 () = some r ∧ Sub [] env' ∧ SLe st' [.row 28 [.d (.sl (List.map E54 r116.types)), .d (.sl (List.map E40 r116.subs)), .d (.v (SlV.v r116.ents)), .d (.v (SlV.v r116.gens)), .d (.v (SlV.v r116.insts))]]) ?_ ?_
  ·refine wc_sr ?_
   refine WL.qn (y_fieldAddr f28_1 rfl) rfl ?_
   refine WL.qn (y_load rfl rfl a23 rfl) rfl ?_
   refine WL.qn (y_len_map E40 r116.subs e23 rfl rfl (Le.refl _)) rfl ?_
   refine WL.mv rfl rfl ?_
   refine WL.ns ?_
   refine wc_block ?_
   refine wc_loop (fun n env' st' => ∃ (t146 : Int), f5_l4 r116 k144 n t146 = some r ∧ Sub [(1, .pt 0 0), (85, .d (D.i .i64 (List.length r116.subs : Int))), (86, .d (D.i .i64 t146))] env' ∧ SLe st' [.row 28 [.d (.sl (List.map E54 r116.types)), .d (.sl (List.map E40 r116.subs)), .d (.v (SlV.v r116.ents)), .d (.v (SlV.v r116.gens)), .d (.v (SlV.v r116.insts))]]) (fun n => n) (Int.toNat ((List.length r116.subs : Int) - 0) + 1) ⟨0, h, (Sub.cons rfl (Le.refl _) (Sub.cons rfl (Le.refl _) (Sub.cons rfl (Le.refl _) (Sub.nil _)))), ⟨⟨rfl, ⟨(Le.refl _), (Le.refl _), (Le.refl _), (Le.refl _), (Le.refl _), trivial⟩⟩, trivial⟩⟩ ?_
   rintro n env1 st1 ⟨t146, h, hsub, hst⟩
   cases n with
   | zero => rw [f5_l4] at h; cases h
   | succ n =>
   rw [f5_l4] at h
   refine WC.sub hsub (WC.weak hst ?_)
   refine wc_sr ?_
   refine WL.qn (y_lss rfl rfl) rfl ?_
   refine WL.ns ?_
   refine wc_seq ?_
   refine wc_cond rfl (fun hc7 => ?_) (fun hc7 => ?_)
   ·replace h := condT h hc7
    refine wc_skip ?_
    refine we_seq ?_
    replace h := letkS h
    obtain ⟨k148, hk148, h⟩ := h
    refine wc_cut (fun env' st' => k148 () = some r ∧ Sub [(1, .pt 0 0), (85, .d (D.i .i64 (List.length r116.subs : Int))), (86, .d (D.i .i64 t146))] env' ∧ SLe st' [.row 28 [.d (.sl (List.map E54 r116.types)), .d (.sl (List.map E40 r116.subs)), .d (.v (SlV.v r116.ents)), .d (.v (SlV.v r116.gens)), .d (.v (SlV.v r116.insts))]]) ?_ ?_
    ·refine wc_block ?_
     refine wc_sr ?_
     refine WL.mv rfl rfl ?_
     refine WL.as rfl rfl ?_
     refine WL.ns ?_
     refine wc_sr ?_
     refine WL.qn (y_fieldAddr f28_1 rfl) rfl ?_
     refine WL.qn (y_load rfl rfl a23 rfl) rfl ?_
     refine WL.qn (y_len_map E40 r116.subs e23 rfl rfl (Le.refl _)) rfl ?_
     refine WL.mv rfl rfl ?_
     refine WL.ns ?_
     refine wc_block ?_
     refine wc_loop (fun na env' st' => ∃ (t150 : Int), f5_l5 r116 t146 k148 na t150 = some r ∧ Sub [(1, .pt 0 0), (8, .d (D.i .i64 t146)), (85, .d (D.i .i64 (List.length r116.subs : Int))), (86, .d (D.i .i64 t146)), (91, .d (D.i .i64 (List.length r116.subs : Int))), (92, .d (D.i .i64 t150))] env' ∧ SLe st' [.row 28 [.d (.sl (List.map E54 r116.types)), .d (.sl (List.map E40 r116.subs)), .d (.v (SlV.v r116.ents)), .d (.v (SlV.v r116.gens)), .d (.v (SlV.v r116.insts))]]) (fun n => n) (Int.toNat ((List.length r116.subs : Int) - 0) + 1) ⟨0, h, (Sub.cons rfl (Le.refl _) (Sub.cons rfl (Le.refl _) (Sub.cons rfl (Le.refl _) (Sub.cons rfl (Le.refl _) (Sub.cons rfl (Le.refl _) (Sub.cons rfl (Le.refl _) (Sub.nil _))))))), ⟨⟨rfl, ⟨(Le.refl _), (Le.refl _), (Le.refl _), (Le.refl _), (Le.refl _), trivial⟩⟩, trivial⟩⟩ ?_
     rintro na env1 st1 ⟨t150, h, hsub, hst⟩
     cases na with
     | zero => rw [f5_l5] at h; cases h
     | succ na =>
     rw [f5_l5] at h
     refine WC.sub hsub (WC.weak hst ?_)
     refine wc_sr ?_
     refine WL.qn (y_lss rfl rfl) rfl ?_
     refine WL.ns ?_
     refine wc_seq ?_
     refine wc_cond rfl (fun hc8 => ?_) (fun hc8 => ?_)
     ·replace h := condT h hc8
      refine wc_skip ?_
      refine we_seq ?_
      refine wc_seq ?_
      refine wc_block ?_
      refine wc_sr ?_
      refine WL.mv rfl rfl ?_
      refine WL.as rfl rfl ?_
      refine WL.ns ?_
      refine wc_seq ?_
      refine wc_region_draw (by kernel_rfl) (by kernel_rfl) ?_
      refine WQ.qn (y_loadN rfl rfl a28 s28 rfl) rfl ?_
      refine WQ.qn (y_move rfl) rfl ?_
      refine WQ.qn (y_move rfl) rfl ?_
      obtain ⟨r152, hr152, h⟩ := bindS h
      refine WQ.q (YieldsQ.fn rfl rfl rfl rfl rfl (f20_c _ _ _ hr152) ⟨(Le.agd ⟨(Le.refl _), (Le.refl _), (Le.refl _), (Le.refl _), (Le.refl _), trivial⟩), (Le.refl _), (Le.refl _), trivial⟩) (Wt.none rfl) rfl rfl ?_
      refine WQ.qn (y_fieldAddr f28_1 rfl) rfl ?_
      refine WQ.qn (y_load rfl rfl a23 rfl) rfl ?_
      refine WQ.qn (y_move rfl) rfl ?_
      obtain ⟨x153, hx153, h⟩ := bindS h
      refine WQ.qn (y_indexAddr e23 rfl (Le.refl _) rfl (idx_nonneg hx153) (idx_row E40_eq hx153) rfl) rfl ?_
      refine WQ.qn (y_loadcN rfl a40 s40 rfl) rfl ?_
      refine WQ.qn (y_fieldAddr f28_1 rfl) rfl ?_
      refine WQ.qn (y_load rfl rfl a23 rfl) rfl ?_
      refine WQ.qn (y_move rfl) rfl ?_
      obtain ⟨x154, hx154, h⟩ := bindS h
      refine WQ.qn (y_indexAddr e23 rfl (Le.refl _) rfl (idx_nonneg hx154) (idx_row E40_eq hx154) rfl) rfl ?_
      refine WQ.qn (y_loadcN rfl a40 s40 rfl) rfl ?_
      refine WQ.qn (y_eqst (xs := [.int .i64 x153.t, .int .i64 x153.lo, .int .i64 x153.hi]) (ys := [.int .i64 x154.t, .int .i64 x154.lo, .int .i64 x154.hi]) (b := ((decide (x153.t = x154.t)) && ((decide (x153.lo = x154.lo)) && ((decide (x153.hi = x154.hi)) && true)))) q40 rfl (Le.refl _) rfl (Le.refl _) rfl rfl rfl) rfl ?_
      refine WQ.qn (y_neb Tryd.underlying4 rfl rfl) rfl ?_
      refine WQ.nil ?_
      refine we_seq ?_
      refine wc_cond rfl (fun hc9 => ?_) (fun hc9 => ?_)
      ·replace h := condT h hc9
       refine wc_sr ?_
       refine WL.as rfl rfl ?_
       refine WL.ns ?_
       refine wc_ret ?_
       refine we_blk_ret ?_
       refine we_seq_ret ?_
       refine we_lp_ret ?_
       refine we_blk_ret ?_
       refine we_blk_ret ?_
       refine we_lp_ret ?_
       refine we_lp_ret ?_
       refine we_blk_ret ?_
       refine we_lp_ret ?_
       obtain rfl := Option.some.inj h
       exact we_ret_fn (rs1 rfl (rv_t rfl)) (Le.refl _)
      ·replace h := condF h hc9
       refine wc_skip ?_
       refine we_blk ?_
       refine we_seq ?_
       refine wc_region ?_
       refine WL.qn (y_add rfl rfl rfl) rfl ?_
       refine WL.mv rfl rfl ?_
       refine WL.nil ?_
       exact we_lp ⟨na, ⟨(IntKind.i64.wrap (t150 + 1)), h, (Sub.cons rfl (Le.refl _) (Sub.cons rfl (Le.refl _) (Sub.cons rfl (Le.refl _) (Sub.cons rfl (Le.refl _) (Sub.cons rfl (Le.refl _) (Sub.cons rfl (Le.refl _) (Sub.nil _))))))), ⟨⟨rfl, ⟨(Le.refl _), (Le.refl _), (Le.refl _), (Le.refl _), (Le.refl _), trivial⟩⟩, trivial⟩⟩, Nat.lt_succ_self na⟩
     ·replace h := condF h hc8
      refine wc_exit ?_
      refine we_seq_exit ?_
      refine we_lp_exit ?_
      refine we_blk_hit ?_
      refine we_blk ?_
      exact we_lp ⟨h, (Sub.cons rfl (Le.refl _) (Sub.cons rfl (Le.refl _) (Sub.cons rfl (Le.refl _) (Sub.nil _)))), ⟨⟨rfl, ⟨(Le.refl _), (Le.refl _), (Le.refl _), (Le.refl _), (Le.refl _), trivial⟩⟩, trivial⟩⟩
    ·rintro env1 st1 ⟨h, hsub, hst⟩
     subst hk148
     dsimp only at h
     refine WC.sub hsub (WC.weak hst ?_)
     refine wc_region ?_
     refine WL.qn (y_add rfl rfl rfl) rfl ?_
     refine WL.mv rfl rfl ?_
     refine WL.nil ?_
     exact we_lp ⟨n, ⟨(IntKind.i64.wrap (t146 + 1)), h, (Sub.cons rfl (Le.refl _) (Sub.cons rfl (Le.refl _) (Sub.cons rfl (Le.refl _) (Sub.nil _)))), ⟨⟨rfl, ⟨(Le.refl _), (Le.refl _), (Le.refl _), (Le.refl _), (Le.refl _), trivial⟩⟩, trivial⟩⟩, Nat.lt_succ_self n⟩
   ·replace h := condF h hc7
    refine wc_exit ?_
    refine we_seq_exit ?_
    refine we_lp_exit ?_
    refine we_blk_hit ?_
    exact we_lp ⟨h, (Sub.nil _), ⟨⟨rfl, ⟨(Le.refl _), (Le.refl _), (Le.refl _), (Le.refl _), (Le.refl _), trivial⟩⟩, trivial⟩⟩
  ·rintro env1 st1 ⟨h, hsub, hst⟩
   subst hk144
   dsimp only at h
   refine WC.sub hsub (WC.weak hst ?_)
   refine wc_sr ?_
   obtain ⟨r155, hr155, h⟩ := bindS h
   refine WL.fn rfl rfl rfl rfl (f17_c hr155) trivial (Wt.none rfl) rfl rfl ?_
   refine WL.as rfl rfl ?_
   refine WL.ns ?_
   refine wc_ret ?_
   obtain rfl := Option.some.inj h
   exact we_ret_fn (rs1 rfl (rv_t rfl)) (Le.refl _)

end Go.Proofs.YteafckpdbmncfaaDoor
