/- The walks of functions that this law reaches. -/
import Derived.Test.YteafckpdbmncfaaDoorX
import Derived.Test.YteafckpdbmncfaaDoorWa
set_option maxHeartbeats 4000000
set_option maxRecDepth 100000
namespace Go.Proofs.YteafckpdbmncfaaDoor
open Go Go.Sk

theorem f67_c (t0 : View) (s1 : Subt) {r : Bool} (h : f67 t0 s1 = some r) : Pu Tryd.prog 67 [.ag (R61 t0), .ag (R40 s1)] (.b r) := by
 unfold f67 at h
 refine fn_intro Tryd.func67 (by kernel_rfl) rfl rfl rfl (fun φφ ww => ?_)
 refine wc_sr ?_
 refine WL.s ((b_boxd rfl rfl (Les.refl _)).does) (Wt.none rfl) rfl rfl ?_
 refine WL.s ((b_boxd rfl rfl (Les.refl _)).does) (Wt.none rfl) rfl rfl ?_
 refine WL.as rfl rfl ?_
 refine WL.ns ?_
 refine wc_sr ?_
 refine WL.qn (y_fieldAddrc f61_0 rfl) rfl ?_
 refine WL.qn (y_fieldAddrc f28_0 rfl) rfl ?_
 refine WL.qn (y_loadc rfl a22 rfl) rfl ?_
 refine WL.qn (y_fieldAddrc f40_0 rfl) rfl ?_
 refine WL.qn (y_loadc rfl a3 rfl) rfl ?_
 obtain ⟨r101, hr101, h⟩ := bindS h
 refine WL.fn rfl rfl rfl rfl (f49_c _ _ hr101) ⟨(Le.refl _), (Le.refl _), trivial⟩ (Wt.none rfl) rfl rfl ?_
 refine WL.mv rfl rfl ?_
 refine WL.qn (y_extractd rfl rfl) rfl ?_
 refine WL.qn (y_extractd rfl rfl) rfl ?_
 refine WL.s ((b_alloc z54).does) (Wt.none rfl) rfl rfl ?_
 refine WL.s0 (d_store rfl rfl rfl rfl rfl rfl s54 rfl rfl) (Wt.none rfl) rfl ?_
 refine WL.st (st' := [.row 54 [.d (D.i .u8 r101.1.kind), .d (D.s r101.1.name), .d (D.i .i64 r101.1.parent), .d (D.i .i64 r101.1.first), .d (.sl (List.map E9 r101.1.lits)), .d (D.i .i64 r101.1.index), .d (D.i .i64 r101.1.elem), .d (D.i .i64 r101.1.disc), .d (D.s r101.1.discName), .d (D.b r101.1.has), .d (D.i .i64 r101.1.default_), .d (.sl (List.map E56 r101.1.comps)), .d (D.i .i64 r101.1.target), .d (D.i .u8 r101.1.formal), .d (D.b r101.1.limited), .d (D.i .i64 r101.1.priv), .d (D.i .i64 r101.1.full), .d (D.i .i64 r101.1.level)]]) rfl ?_
 refine WL.as rfl rfl ?_
 refine WL.ns ?_
 refine wc_seq ?_
 refine wc_sr ?_
 refine WL.mv rfl rfl ?_
 refine WL.qn (y_not rfl) rfl ?_
 refine WL.mv rfl rfl ?_
 apply WL.or 4 (t := 20) (d := 24)
 ·exact rfl
 ·intro hg20
  refine WL.qy (y_fieldAddrc f40_0 rfl) rfl rfl rfl ?_
  refine WL.qy (y_loadc rfl a3 rfl) rfl rfl rfl ?_
  refine WL.qy (y_eql rfl rfl) rfl rfl rfl ?_
  refine WL.qn (y_pick_f rfl rfl) rfl ?_
  exact WL.nil ⟨rfl, [_, _, _, _], rfl, rfl, rfl⟩
 ·refine WL.skips 3 rfl ?_
  refine WL.qn (y_pick_t rfl rfl) rfl ?_
  exact WL.nil ⟨rfl, [_, _, _, _], rfl, rfl, rfl⟩
 refine WL.ns ?_
 refine wc_cond rfl (fun hc1 => ?_) (fun hc1 => ?_)
 ·replace h := condT h hc1
  refine wc_sr ?_
  refine WL.as rfl rfl ?_
  refine WL.ns ?_
  refine wc_ret ?_
  refine we_seq_ret ?_
  obtain rfl := Option.some.inj h
  exact we_ret_fn (rs1 rfl (rv_t rfl)) (Le.refl _)
 ·replace h := condF h hc1
  refine wc_skip ?_
  refine we_seq ?_
  refine wc_sr ?_
  refine WL.qn (y_makeFunc rfl rfl) rfl ?_
  refine WL.as rfl rfl ?_
  refine WL.ns ?_
  refine wc_seq ?_
  refine wc_block ?_
  refine wc_sr ?_
  refine WL.qn (y_fieldAddr f54_0 rfl) rfl ?_
  refine WL.qn (y_load rfl rfl a49 rfl) rfl ?_
  refine WL.qn (y_eql rfl rfl) rfl ?_
  refine WL.as rfl rfl ?_
  refine WL.ns ?_
  refine wc_cond rfl (fun hc2 => ?_) (fun hc2 => ?_)
  ·replace h := condT h hc2
   refine wc_sr ?_
   refine WL.mv rfl rfl ?_
   refine WL.fn rfl rfl rfl rfl (f80_c _ _ _) ⟨(Le.refl _), (Le.refl _), (Le.refl _), trivial⟩ (Wt.none rfl) rfl rfl ?_
   refine WL.as rfl rfl ?_
   refine WL.ns ?_
   refine wc_ret ?_
   refine we_blk_ret ?_
   refine we_seq_ret ?_
   obtain rfl := Option.some.inj h
   exact we_ret_fn (rs1 rfl (rv_t rfl)) (Le.refl _)
  ·replace h := condF h hc2
   refine wc_sr ?_
   refine WL.qn (y_fieldAddr f54_0 rfl) rfl ?_
   refine WL.qn (y_load rfl rfl a49 rfl) rfl ?_
   refine WL.qn (y_eql rfl rfl) rfl ?_
   refine WL.as rfl rfl ?_
   refine WL.ns ?_
   refine wc_cond rfl (fun hc3 => ?_) (fun hc3 => ?_)
   ·replace h := condT h hc3
    refine wc_sr ?_
    refine WL.qn (y_fieldAddr f54_4 rfl) rfl ?_
    refine WL.qn (y_load rfl rfl a50 rfl) rfl ?_
    refine WL.qn (y_len_map E9 r101.1.lits e50 rfl rfl (Le.refl _)) rfl ?_
    refine WL.as rfl rfl ?_
    refine WL.ns ?_
    replace h := letkS h
    obtain ⟨k103, hk103, h⟩ := h
    refine wc_cut (fun env' st' => ∃ (n102 : Int), k103 n102 = some r ∧ Sub [(3, .d (.pc (R40 s1))), (7, .fn (.func 80) [] [.d (.pc (R40 s1))]), (8, .d (D.i .i64 n102))] env' ∧ SLe st' [.row 54 [.d (D.i .u8 r101.1.kind), .d (D.s r101.1.name), .d (D.i .i64 r101.1.parent), .d (D.i .i64 r101.1.first), .d (.sl (List.map E9 r101.1.lits)), .d (D.i .i64 r101.1.index), .d (D.i .i64 r101.1.elem), .d (D.i .i64 r101.1.disc), .d (D.s r101.1.discName), .d (D.b r101.1.has), .d (D.i .i64 r101.1.default_), .d (.sl (List.map E56 r101.1.comps)), .d (D.i .i64 r101.1.target), .d (D.i .u8 r101.1.formal), .d (D.b r101.1.limited), .d (D.i .i64 r101.1.priv), .d (D.i .i64 r101.1.full), .d (D.i .i64 r101.1.level)]]) ?_ ?_
    ·refine wc_sr ?_
     refine WL.qn (y_fieldAddr f54_13 rfl) rfl ?_
     refine WL.qn (y_load rfl rfl a52 rfl) rfl ?_
     refine WL.qn (y_eql rfl rfl) rfl ?_
     refine WL.ns ?_
     refine wc_cond rfl (fun hc4 => ?_) (fun hc4 => ?_)
     ·replace h := condT h hc4
      refine wc_region ?_
      refine WL.as rfl rfl ?_
      refine WL.nil ?_
      exact we_lp ⟨1, h, (Sub.cons rfl (Le.refl _) (Sub.cons rfl (Le.refl _) (Sub.cons rfl (Le.refl _) (Sub.nil _)))), ⟨⟨rfl, ⟨(Le.refl _), (Le.refl _), (Le.refl _), (Le.refl _), (Le.refl _), (Le.refl _), (Le.refl _), (Le.refl _), (Le.refl _), (Le.refl _), (Le.refl _), (Le.refl _), (Le.refl _), (Le.refl _), (Le.refl _), (Le.refl _), (Le.refl _), (Le.refl _), trivial⟩⟩, trivial⟩⟩
     ·replace h := condF h hc4
      refine wc_skip ?_
      exact we_lp ⟨(List.length r101.1.lits : Int), h, (Sub.cons rfl (Le.refl _) (Sub.cons rfl (Le.refl _) (Sub.cons rfl (Le.refl _) (Sub.nil _)))), ⟨⟨rfl, ⟨(Le.refl _), (Le.refl _), (Le.refl _), (Le.refl _), (Le.refl _), (Le.refl _), (Le.refl _), (Le.refl _), (Le.refl _), (Le.refl _), (Le.refl _), (Le.refl _), (Le.refl _), (Le.refl _), (Le.refl _), (Le.refl _), (Le.refl _), (Le.refl _), trivial⟩⟩, trivial⟩⟩
    ·rintro env1 st1 ⟨n102, h, hsub, hst⟩
     subst hk103
     dsimp only at h
     refine WC.sub hsub (WC.weak hst ?_)
     refine wc_sr ?_
     refine WL.mv rfl rfl ?_
     refine WL.mv rfl rfl ?_
     refine WL.fn rfl rfl rfl rfl (f80_c _ _ _) ⟨(Le.refl _), (Le.refl _), (Le.refl _), trivial⟩ (Wt.none rfl) rfl rfl ?_
     refine WL.mv rfl rfl ?_
     apply WL.and 12 (t := 45) (d := 57)
     ·exact rfl
     ·intro hg45
      refine WL.qy (y_fieldAddrc f40_1 rfl) rfl rfl rfl ?_
      refine WL.qy (y_loadc rfl a2 rfl) rfl rfl rfl ?_
      refine WL.qy (y_fieldAddrc f40_2 rfl) rfl rfl rfl ?_
      refine WL.qy (y_loadc rfl a2 rfl) rfl rfl rfl ?_
      refine WL.qy (y_gtr rfl rfl) rfl rfl rfl ?_
      refine WL.qy (y_move rfl) rfl rfl rfl ?_
      apply WL.or 5 (t := 51) (d := 56)
      ·exact rfl
      ·intro hg51
       refine WL.qy (y_move rfl) rfl rfl rfl ?_
       refine WL.qy (y_move rfl) rfl rfl rfl ?_
       refine WL.qy (y_sub rfl rfl rfl) rfl rfl rfl ?_
       refine WL.fn rfl rfl rfl rfl (f80_c _ _ _) ⟨(Le.refl _), (Le.refl _), (Le.refl _), trivial⟩ (Wt.yes rfl rfl rfl) rfl rfl ?_
       refine WL.qy (y_pick_f rfl rfl) rfl rfl rfl ?_
       exact WL.nil ⟨rfl, [_, _, _, _, _], rfl, rfl, rfl⟩
      ·refine WL.skips 4 rfl ?_
       refine WL.qy (y_pick_t rfl rfl) rfl rfl rfl ?_
       exact WL.nil ⟨rfl, [_, _, _, _, _], rfl, rfl, rfl⟩
      refine WL.qn (y_pick_t rfl rfl) rfl ?_
      exact WL.nil ⟨rfl, [_, _, _, _, _, _, _, _], rfl, rfl, rfl⟩
     ·refine WL.skips 11 rfl ?_
      refine WL.qn (y_pick_f rfl rfl) rfl ?_
      exact WL.nil ⟨rfl, [_, _, _, _, _, _, _, _, _, _, _, _], rfl, rfl, rfl⟩
     refine WL.as rfl rfl ?_
     refine WL.ns ?_
     refine wc_ret ?_
     refine we_blk_ret ?_
     refine we_seq_ret ?_
     obtain rfl := Option.some.inj h
     exact we_ret_fn (rs1 rfl (rv_t rfl)) (Le.refl _)
   ·replace h := condF h hc3
    refine wc_sr ?_
    refine WL.qn (y_fieldAddr f54_0 rfl) rfl ?_
    refine WL.qn (y_load rfl rfl a49 rfl) rfl ?_
    refine WL.qn (y_eql rfl rfl) rfl ?_
    refine WL.mv rfl rfl ?_
    apply WL.and 4 (t := 62) (d := 66)
    ·exact rfl
    ·intro hg62
     refine WL.qy (y_fieldAddr f54_7 rfl) rfl rfl rfl ?_
     refine WL.qy (y_load rfl rfl a3 rfl) rfl rfl rfl ?_
     refine WL.qy (y_neq rfl rfl) rfl rfl rfl ?_
     refine WL.qn (y_pick_t rfl rfl) rfl ?_
     exact WL.nil ⟨rfl, [_, _, _, _], rfl, rfl, rfl⟩
    ·refine WL.skips 3 rfl ?_
     refine WL.qn (y_pick_f rfl rfl) rfl ?_
     exact WL.nil ⟨rfl, [_, _, _, _], rfl, rfl, rfl⟩
    refine WL.as rfl rfl ?_
    refine WL.ns ?_
    refine wc_cond rfl (fun hc5 => ?_) (fun hc5 => ?_)
    ·replace h := condT h hc5
     refine wc_sr ?_
     refine WL.qn (y_fieldAddrc f40_1 rfl) rfl ?_
     refine WL.qn (y_loadc rfl a2 rfl) rfl ?_
     refine WL.qn (y_eql rfl rfl) rfl ?_
     refine WL.mv rfl rfl ?_
     apply WL.and 4 (t := 70) (d := 74)
     ·exact rfl
     ·intro hg70
      refine WL.qy (y_fieldAddrc f40_2 rfl) rfl rfl rfl ?_
      refine WL.qy (y_loadc rfl a2 rfl) rfl rfl rfl ?_
      refine WL.qy (y_eql rfl rfl) rfl rfl rfl ?_
      refine WL.qn (y_pick_t rfl rfl) rfl ?_
      exact WL.nil ⟨rfl, [_, _, _, _], rfl, rfl, rfl⟩
     ·refine WL.skips 3 rfl ?_
      refine WL.qn (y_pick_f rfl rfl) rfl ?_
      exact WL.nil ⟨rfl, [_, _, _, _], rfl, rfl, rfl⟩
     refine WL.mv rfl rfl ?_
     obtain ⟨b104, hb104, h⟩ := bindS h
     apply WL.grp 14 (t := 75) (d := 89) (z := b104)
     ·exact rfl
     ·intro hg75
      have h := condT hb104 hg75
      refine WL.skips 13 rfl ?_
      refine WL.qn (y_pick_t rfl rfl) rfl ?_
      obtain rfl := Option.some.inj h
      exact WL.nil ⟨rfl, [_, _, _, _, _, _, _, _, _, _, _, _, _, _], rfl, rfl, rfl⟩
     ·intro hg75
      have h := condF hb104 hg75
      refine WL.qy (y_fieldAddrc f40_1 rfl) rfl rfl rfl ?_
      refine WL.qy (y_loadc rfl a2 rfl) rfl rfl rfl ?_
      refine WL.qy (y_fieldAddrc f40_2 rfl) rfl rfl rfl ?_
      refine WL.qy (y_loadc rfl a2 rfl) rfl rfl rfl ?_
      refine WL.qy (y_eql rfl rfl) rfl rfl rfl ?_
      refine WL.qy (y_move rfl) rfl rfl rfl ?_
      obtain ⟨b105, hb105, h⟩ := bindS h
      apply WL.grp 7 (t := 81) (d := 88) (z := b105)
      ·exact rfl
      ·intro hg81
       have h := condT hb105 hg81
       refine WL.qy (y_loadcN rfl a61 s61 rfl) rfl rfl rfl ?_
       refine WL.qy (y_fieldAddr f54_7 rfl) rfl rfl rfl ?_
       refine WL.qy (y_load rfl rfl a3 rfl) rfl rfl rfl ?_
       refine WL.qy (y_fieldAddrc f40_1 rfl) rfl rfl rfl ?_
       refine WL.qy (y_loadc rfl a2 rfl) rfl rfl rfl ?_
       obtain ⟨r106, hr106, h⟩ := bindS h
       refine WL.fn rfl rfl rfl rfl (f42_c _ _ _ hr106) ⟨(Le.refl _), (Le.refl _), (Le.refl _), trivial⟩ (Wt.yes rfl rfl rfl) rfl rfl ?_
       refine WL.qy (y_pick_t rfl rfl) rfl rfl rfl ?_
       obtain rfl := Option.some.inj h
       exact WL.nil ⟨rfl, [_, _, _, _, _, _, _], rfl, rfl, rfl⟩
      ·intro hg81
       have h := condF hb105 hg81
       refine WL.skips 6 rfl ?_
       refine WL.qy (y_pick_f rfl rfl) rfl rfl rfl ?_
       obtain rfl := Option.some.inj h
       exact WL.nil ⟨rfl, [_, _, _, _, _, _, _], rfl, rfl, rfl⟩
      refine WL.qn (y_pick_f rfl rfl) rfl ?_
      obtain rfl := Option.some.inj h
      exact WL.nil ⟨rfl, [_, _, _, _, _, _, _, _], rfl, rfl, rfl⟩
     refine WL.as rfl rfl ?_
     refine WL.ns ?_
     refine wc_ret ?_
     refine we_blk_ret ?_
     refine we_seq_ret ?_
     obtain rfl := Option.some.inj h
     exact we_ret_fn (rs1 rfl (rv_t rfl)) (Le.refl _)
    ·replace h := condF h hc5
     refine wc_skip ?_
     refine we_blk ?_
     refine we_seq ?_
     refine wc_sr ?_
     refine WL.qn (y_fieldAddrc f40_1 rfl) rfl ?_
     refine WL.qn (y_loadc rfl a2 rfl) rfl ?_
     refine WL.qn (y_eql rfl rfl) rfl ?_
     refine WL.mv rfl rfl ?_
     apply WL.and 4 (t := 93) (d := 97)
     ·exact rfl
     ·intro hg93
      refine WL.qy (y_fieldAddrc f40_2 rfl) rfl rfl rfl ?_
      refine WL.qy (y_loadc rfl a2 rfl) rfl rfl rfl ?_
      refine WL.qy (y_eql rfl rfl) rfl rfl rfl ?_
      refine WL.qn (y_pick_t rfl rfl) rfl ?_
      exact WL.nil ⟨rfl, [_, _, _, _], rfl, rfl, rfl⟩
     ·refine WL.skips 3 rfl ?_
      refine WL.qn (y_pick_f rfl rfl) rfl ?_
      exact WL.nil ⟨rfl, [_, _, _, _], rfl, rfl, rfl⟩
     refine WL.as rfl rfl ?_
     refine WL.ns ?_
     refine wc_ret ?_
     obtain rfl := Option.some.inj h
     exact we_ret_fn (rs1 rfl (rv_t rfl)) (Le.refl _)

theorem f97_c (s0 : ByteArray) {r : ByteArray} (h : f97 s0 = some r) : Pu Tryd.prog 97 [.s s0] (.s r) := by
 unfold f97 at h
 refine fn_intro Tryd.func97 (by kernel_rfl) rfl rfl rfl (fun φφ ww => ?_)
 refine wc_sr ?_
 refine WL.as rfl rfl ?_
 refine WL.ns ?_
 replace h := letkS h
 obtain ⟨k36, hk36, h⟩ := h
 refine wc_cut (fun env' st' => ∃ (pos35 : Nat), k36 pos35 = some r ∧ Sub [(0, .d (D.s s0))] env' ∧ SLe st' [.si s0 pos35]) ?_ ?_
 ·refine wc_sr ?_
  refine WL.mv rfl rfl ?_
  refine WL.s ((b_srange Tryd.underlying9 rfl).does) (Wt.none rfl) rfl rfl ?_
  refine WL.ns ?_
  refine wc_block ?_
  refine wc_loop (fun n env' st' => ∃ (pos38 : Nat), f97_l1 s0 k36 n pos38 = some r ∧ Sub [(0, .d (D.s s0)), (6, .pt 0 0)] env' ∧ SLe st' [.si s0 pos38]) (fun n => n) 9223372036854775808 ⟨0, h, (Sub.cons rfl (Le.refl _) (Sub.cons rfl (Le.refl _) (Sub.nil _))), ⟨⟨rfl, rfl⟩, trivial⟩⟩ ?_
  rintro n env1 st1 ⟨pos38, h, hsub, hst⟩
  cases n with
  | zero => rw [f97_l1] at h; cases h
  | succ n =>
  rw [f97_l1] at h
  refine WC.sub hsub (WC.weak hst ?_)
  refine wc_seq ?_
  rcases boolCases (decide (pos38 < s0.size)) with hb1 | hb1
  ·replace h := condT h hb1
   refine wc_region ?_
   refine WL.s (d_snext rfl rfl (of_decide_eq_true hb1)) (Wt.none rfl) rfl rfl ?_
   refine WL.qn (y_extract rfl rfl) rfl ?_
   refine WL.ns ?_
   refine wc_seq ?_
   refine wc_true rfl ?_
   refine wc_skip ?_
   refine we_seq ?_
   refine wc_block ?_
   refine wc_sr ?_
   refine WL.qn (y_extract rfl rfl) rfl ?_
   refine WL.qn (y_extract rfl rfl) rfl ?_
   refine WL.as rfl rfl ?_
   refine WL.as rfl rfl ?_
   refine WL.ns ?_
   refine wc_sr ?_
   refine WL.mv rfl rfl ?_
   refine WL.qn (y_gtr rfl rfl) rfl ?_
   refine WL.mv rfl rfl ?_
   apply WL.or 15 (t := 13) (d := 28)
   ·exact rfl
   ·intro hg13
    refine WL.qy (y_move rfl) rfl rfl rfl ?_
    refine WL.qy (y_conv Tryd.underlying21 Tryd.underlying5 rfl rfl) rfl rfl rfl ?_
    refine WL.fn rfl rfl rfl rfl (f96_c _) ⟨(Le.refl _), trivial⟩ (Wt.yes rfl rfl rfl) rfl rfl ?_
    refine WL.qy (y_not rfl) rfl rfl rfl ?_
    refine WL.qy (y_move rfl) rfl rfl rfl ?_
    apply WL.and 5 (t := 18) (d := 23)
    ·exact rfl
    ·intro hg18
     refine WL.qy (y_move rfl) rfl rfl rfl ?_
     refine WL.qy (y_conv Tryd.underlying21 Tryd.underlying5 rfl rfl) rfl rfl rfl ?_
     refine WL.fn rfl rfl rfl rfl (f109_c _) ⟨(Le.refl _), trivial⟩ (Wt.yes rfl rfl rfl) rfl rfl ?_
     refine WL.qy (y_not rfl) rfl rfl rfl ?_
     refine WL.qy (y_pick_t rfl rfl) rfl rfl rfl ?_
     exact WL.nil ⟨rfl, [_, _, _, _, _], rfl, rfl, rfl⟩
    ·refine WL.skips 4 rfl ?_
     refine WL.qy (y_pick_f rfl rfl) rfl rfl rfl ?_
     exact WL.nil ⟨rfl, [_, _, _, _, _], rfl, rfl, rfl⟩
    refine WL.qy (y_move rfl) rfl rfl rfl ?_
    apply WL.and 3 (t := 24) (d := 27)
    ·exact rfl
    ·intro hg24
     refine WL.qy (y_move rfl) rfl rfl rfl ?_
     refine WL.qy (y_neq rfl rfl) rfl rfl rfl ?_
     refine WL.qy (y_pick_t rfl rfl) rfl rfl rfl ?_
     exact WL.nil ⟨rfl, [_, _, _], rfl, rfl, rfl⟩
    ·refine WL.skips 2 rfl ?_
     refine WL.qy (y_pick_f rfl rfl) rfl rfl rfl ?_
     exact WL.nil ⟨rfl, [_, _, _], rfl, rfl, rfl⟩
    refine WL.qn (y_pick_f rfl rfl) rfl ?_
    exact WL.nil ⟨rfl, [_, _, _, _, _, _, _, _, _], rfl, rfl, rfl⟩
   ·refine WL.skips 14 rfl ?_
    refine WL.qn (y_pick_t rfl rfl) rfl ?_
    exact WL.nil ⟨rfl, [_, _, _, _, _, _, _, _, _, _, _, _, _, _, _], rfl, rfl, rfl⟩
   refine WL.ns ?_
   refine wc_cond rfl (fun hc1 => ?_) (fun hc1 => ?_)
   ·replace h := condT h hc1
    refine wc_sr ?_
    refine WL.mv rfl rfl ?_
    refine WL.mv rfl rfl ?_
    obtain ⟨s40, hs40, h⟩ := bindS h
    refine WL.qn (y_scuth Tryd.underlying9 rfl rfl hs40) rfl ?_
    refine WL.as rfl rfl ?_
    refine WL.ns ?_
    refine wc_ret ?_
    refine we_blk_ret ?_
    refine we_lp_ret ?_
    refine we_blk_ret ?_
    refine we_lp_ret ?_
    obtain rfl := Option.some.inj h
    exact we_ret_fn (rs1 rfl (rv_t rfl)) (Le.refl _)
   ·replace h := condF h hc1
    refine wc_skip ?_
    refine we_blk ?_
    exact we_lp ⟨n, ⟨(pos38 + (Utf8.decode s0 pos38).2), h, (Sub.cons rfl (Le.refl _) (Sub.cons rfl (Le.refl _) (Sub.nil _))), ⟨⟨rfl, rfl⟩, trivial⟩⟩, Nat.lt_succ_self n⟩
  ·replace h := condF h hb1
   refine wc_region ?_
   refine WL.qn (y_sover rfl rfl (Nat.le_of_not_lt (of_decide_eq_false hb1))) rfl ?_
   refine WL.qn (y_extract rfl rfl) rfl ?_
   refine WL.ns ?_
   refine wc_seq ?_
   refine wc_false rfl ?_
   refine wc_exit ?_
   refine we_seq_exit ?_
   refine we_lp_exit ?_
   refine we_blk_hit ?_
   exact we_lp ⟨pos38, h, (Sub.cons rfl (Le.refl _) (Sub.nil _)), ⟨⟨rfl, rfl⟩, trivial⟩⟩
 ·rintro env1 st1 ⟨pos35, h, hsub, hst⟩
  subst hk36
  dsimp only at h
  refine WC.sub hsub (WC.weak hst ?_)
  refine wc_sr ?_
  refine WL.mv rfl rfl ?_
  refine WL.as rfl rfl ?_
  refine WL.ns ?_
  refine wc_ret ?_
  obtain rfl := Option.some.inj h
  exact we_ret_fn (rs1 rfl (rv_t rfl)) (Le.refl _)

theorem f98_c (s0 : ByteArray) {r : Bool} (h : f98 s0 = some r) : Pu Tryd.prog 98 [.s s0] (.b r) := by
 unfold f98 at h
 refine fn_intro Tryd.func98 (by kernel_rfl) rfl rfl rfl (fun φφ ww => ?_)
 refine wc_sr ?_
 refine WL.as rfl rfl ?_
 refine WL.ns ?_
 refine wc_sr ?_
 obtain ⟨r14, hr14, h⟩ := bindS h
 refine WL.fn rfl rfl rfl rfl (f111_c hr14) trivial (Wt.none rfl) rfl rfl ?_
 refine WL.mv rfl rfl ?_
 obtain ⟨r15, hr15, h⟩ := bindS h
 refine WL.fn rfl rfl rfl rfl (f110_c _ _ hr15) ⟨(Le.refl _), (Le.refl _), trivial⟩ (Wt.none rfl) rfl rfl ?_
 refine WL.mv rfl rfl ?_
 refine WL.qn (y_extractd rfl rfl) rfl ?_
 refine WL.qn (y_extractd rfl rfl) rfl ?_
 refine WL.as rfl rfl ?_
 refine WL.as rfl rfl ?_
 refine WL.ns ?_
 refine wc_sr ?_
 refine WL.mv rfl rfl ?_
 refine WL.as rfl rfl ?_
 refine WL.ns ?_
 refine wc_ret ?_
 obtain rfl := Option.some.inj h
 exact we_ret_fn (rs1 rfl (rv_t rfl)) (Le.refl _)

theorem f81_c (s0 : ByteArray) {r : Bool} (h : f81 s0 = some r) : Pu Tryd.prog 81 [.s s0] (.b r) := by
 unfold f81 at h
 refine fn_intro Tryd.func81 (by kernel_rfl) rfl rfl rfl (fun φφ ww => ?_)
 refine wc_sr ?_
 refine WL.as rfl rfl ?_
 refine WL.ns ?_
 refine wc_sr ?_
 refine WL.mv rfl rfl ?_
 refine WL.qn (y_nes rfl rfl) rfl ?_
 refine WL.mv rfl rfl ?_
 apply WL.and 4 (t := 5) (d := 9)
 ·exact rfl
 ·intro hg5
  refine WL.qy (y_move rfl) rfl rfl rfl ?_
  refine WL.qy (y_len_str Tryd.underlying9 rfl rfl) rfl rfl rfl ?_
  refine WL.qy (y_leq rfl rfl) rfl rfl rfl ?_
  refine WL.qn (y_pick_t rfl rfl) rfl ?_
  exact WL.nil ⟨rfl, [_, _, _, _], rfl, rfl, rfl⟩
 ·refine WL.skips 3 rfl ?_
  refine WL.qn (y_pick_f rfl rfl) rfl ?_
  exact WL.nil ⟨rfl, [_, _, _, _], rfl, rfl, rfl⟩
 refine WL.mv rfl rfl ?_
 obtain ⟨b28, hb28, h⟩ := bindS h
 apply WL.grp 4 (t := 10) (d := 14) (z := b28)
 ·exact rfl
 ·intro hg10
  have h := condT hb28 hg10
  refine WL.qy (y_move rfl) rfl rfl rfl ?_
  obtain ⟨x29, hx29, h⟩ := bindS h
  refine WL.qy (y_sindex Tryd.underlying9 rfl rfl hx29) rfl rfl rfl ?_
  refine WL.fn rfl rfl rfl rfl (f96_c _) ⟨(Le.refl _), trivial⟩ (Wt.yes rfl rfl rfl) rfl rfl ?_
  refine WL.qn (y_pick_t rfl rfl) rfl ?_
  obtain rfl := Option.some.inj h
  exact WL.nil ⟨rfl, [_, _, _, _], rfl, rfl, rfl⟩
 ·intro hg10
  have h := condF hb28 hg10
  refine WL.skips 3 rfl ?_
  refine WL.qn (y_pick_f rfl rfl) rfl ?_
  obtain rfl := Option.some.inj h
  exact WL.nil ⟨rfl, [_, _, _, _], rfl, rfl, rfl⟩
 refine WL.mv rfl rfl ?_
 obtain ⟨b30, hb30, h⟩ := bindS h
 apply WL.grp 5 (t := 15) (d := 20) (z := b30)
 ·exact rfl
 ·intro hg15
  have h := condT hb30 hg15
  refine WL.qy (y_move rfl) rfl rfl rfl ?_
  obtain ⟨r31, hr31, h⟩ := bindS h
  refine WL.fn rfl rfl rfl rfl (f97_c _ hr31) ⟨(Le.refl _), trivial⟩ (Wt.yes rfl rfl rfl) rfl rfl ?_
  refine WL.qy (y_move rfl) rfl rfl rfl ?_
  refine WL.qy (y_eqs rfl rfl) rfl rfl rfl ?_
  refine WL.qn (y_pick_t rfl rfl) rfl ?_
  obtain rfl := Option.some.inj h
  exact WL.nil ⟨rfl, [_, _, _, _, _], rfl, rfl, rfl⟩
 ·intro hg15
  have h := condF hb30 hg15
  refine WL.skips 4 rfl ?_
  refine WL.qn (y_pick_f rfl rfl) rfl ?_
  obtain rfl := Option.some.inj h
  exact WL.nil ⟨rfl, [_, _, _, _, _], rfl, rfl, rfl⟩
 refine WL.mv rfl rfl ?_
 obtain ⟨b32, hb32, h⟩ := bindS h
 apply WL.grp 4 (t := 21) (d := 25) (z := b32)
 ·exact rfl
 ·intro hg21
  have h := condT hb32 hg21
  refine WL.qy (y_move rfl) rfl rfl rfl ?_
  obtain ⟨r33, hr33, h⟩ := bindS h
  refine WL.fn rfl rfl rfl rfl (f98_c _ hr33) ⟨(Le.refl _), trivial⟩ (Wt.yes rfl rfl rfl) rfl rfl ?_
  refine WL.qy (y_not rfl) rfl rfl rfl ?_
  refine WL.qn (y_pick_t rfl rfl) rfl ?_
  obtain rfl := Option.some.inj h
  exact WL.nil ⟨rfl, [_, _, _, _], rfl, rfl, rfl⟩
 ·intro hg21
  have h := condF hb32 hg21
  refine WL.skips 3 rfl ?_
  refine WL.qn (y_pick_f rfl rfl) rfl ?_
  obtain rfl := Option.some.inj h
  exact WL.nil ⟨rfl, [_, _, _, _], rfl, rfl, rfl⟩
 refine WL.as rfl rfl ?_
 refine WL.ns ?_
 refine wc_ret ?_
 obtain rfl := Option.some.inj h
 exact we_ret_fn (rs1 rfl (rv_t rfl)) (Le.refl _)

theorem f99_c (c0 : Checker) {r : Bool} (h : f99 c0 = some r) : Pu Tryd.prog 99 [.pc (R104 c0)] (.b r) := by
 unfold f99 at h
 refine fn_intro Tryd.func99 (by kernel_rfl) rfl rfl rfl (fun φφ ww => ?_)
 refine wc_sr ?_
 refine WL.as rfl rfl ?_
 refine WL.ns ?_
 refine wc_seq ?_
 refine wc_sr ?_
 refine WL.mv rfl rfl ?_
 refine WL.qn (y_nilCheckc rfl) rfl ?_
 refine WL.qn (y_fieldAddrc f104_2 rfl) rfl ?_
 refine WL.qn (y_fieldAddrc f54_2 rfl) rfl ?_
 refine WL.qn (y_loadc rfl a3 rfl) rfl ?_
 refine WL.qn (y_eql rfl rfl) rfl ?_
 refine WL.ns ?_
 refine wc_cond rfl (fun hc1 => ?_) (fun hc1 => ?_)
 ·replace h := condT h hc1
  refine wc_sr ?_
  refine WL.as rfl rfl ?_
  refine WL.ns ?_
  refine wc_ret ?_
  refine we_seq_ret ?_
  obtain rfl := Option.some.inj h
  exact we_ret_fn (rs1 rfl (rv_t rfl)) (Le.refl _)
 ·replace h := condF h hc1
  refine wc_skip ?_
  refine we_seq ?_
  refine wc_seq ?_
  replace h := guardBS h
  obtain ⟨hgg67, h⟩ := h
  obtain ⟨r68, hr68, h⟩ := bindS h
  apply wc_region_all [_, _, _, _, _, _, _, _, _, _, _, _, _, _, _, _, _, _, _, _, _, .u, _] [[], [0], [0, 1], [0, 1, 2], [0, 1, 2, 3], [0, 1, 2, 3, 4], [], [6], [6, 7], [6, 7, 8], [0, 1, 2, 3, 4, 5, 6, 7, 8, 9], [], [11], [11, 12], [11, 12, 13], [11, 12, 13, 14], [0, 1, 2, 3, 4, 5, 6, 7, 8, 9, 10, 11, 12, 13, 14, 15], [0, 1, 2, 3, 4, 5, 6, 7, 8, 9, 10, 11, 12, 13, 14, 15, 16], [0, 1, 2, 3, 4, 5, 6, 7, 8, 9, 10, 11, 12, 13, 14, 15, 16, 17], [0, 1, 2, 3, 4, 5, 6, 7, 8, 9, 10, 11, 12, 13, 14, 15, 16, 17], [], [0, 1, 2, 3, 4, 5, 6, 7, 8, 9, 10, 11, 12, 13, 14, 15, 16, 17, 18, 20], [0, 1, 2, 3, 4, 5, 6, 7, 8, 9, 10, 11, 12, 13, 14, 15, 16, 17, 18, 19, 20, 21]] [20, 21] (fun c => List.getD [[], [.row 54 [.d (D.i .u8 0), .d (D.s ByteArray.empty), .d (D.i .i64 0), .d (D.i .i64 0), .d (.v (.slice none 0 0)), .d (D.i .i64 0), .d (D.i .i64 0), .d (D.i .i64 0), .d (D.s ByteArray.empty), .d (D.b false), .d (D.i .i64 0), .d (.v (.slice none 0 0)), .d (D.i .i64 0), .d (D.i .u8 0), .d (D.b false), .d (D.i .i64 0), .d (D.i .i64 0), .d (D.i .i64 0)]], [.row 54 [.d (D.i .u8 r68.1.kind), .d (D.s r68.1.name), .d (D.i .i64 r68.1.parent), .d (D.i .i64 r68.1.first), .d (.sl (List.map E9 r68.1.lits)), .d (D.i .i64 r68.1.index), .d (D.i .i64 r68.1.elem), .d (D.i .i64 r68.1.disc), .d (D.s r68.1.discName), .d (D.b r68.1.has), .d (D.i .i64 r68.1.default_), .d (.sl (List.map E56 r68.1.comps)), .d (D.i .i64 r68.1.target), .d (D.i .u8 r68.1.formal), .d (D.b r68.1.limited), .d (D.i .i64 r68.1.priv), .d (D.i .i64 r68.1.full), .d (D.i .i64 r68.1.level)]]] c []) [([], [0], [0, 1]), ([0], [], [0, 1]), ([1], [], [0, 1]), ([2], [], [0, 1]), ([3], [], [0, 1]), ([4], [], [0, 1]), ([], [0], [0, 1]), ([6], [], [0, 1]), ([7], [], [0, 1]), ([8], [], [0, 1]), ([5, 9], [], [0, 1]), ([], [0], [0, 1]), ([11], [], [0, 1]), ([12], [], [0, 1]), ([13], [], [0, 1]), ([14], [], [0, 1]), ([10, 15], [], [0, 1]), ([16], [], [0, 1]), ([17], [], [0, 1]), ([17], [], [0, 1, 2]), ([], [], [0]), ([20, 18], [], [1]), ([19], [], [2])] (by kernel_rfl) (by kernel_rfl) rfl rfl rfl
  ·refine ⟨?_, ?_, ?_, ?_, ?_, ?_, ?_, ?_, ?_, ?_, ?_, ?_, ?_, ?_, ?_, ?_, ?_, ?_, ?_, ?_, ?_, ?_, ?_, trivial⟩
   ·refine ⟨fun F => ?_, fun F => ?_, trivial⟩
    ·refine WL.mv rfl rfl ?_
     exact WL.done1 rfl rfl rfl
    ·refine WL.mv rfl rfl ?_
     exact WL.done1 rfl rfl rfl
   ·refine ⟨fun F => ?_, fun F => ?_, trivial⟩
    ·refine WL.qn (y_nilCheckc rfl) rfl ?_
     exact WL.done1 rfl rfl rfl
    ·refine WL.qn (y_nilCheckc rfl) rfl ?_
     exact WL.done1 rfl rfl rfl
   ·refine ⟨fun F => ?_, fun F => ?_, trivial⟩
    ·refine WL.qn (y_fieldAddrc f104_0 rfl) rfl ?_
     exact WL.done1 rfl rfl rfl
    ·refine WL.qn (y_fieldAddrc f104_0 rfl) rfl ?_
     exact WL.done1 rfl rfl rfl
   ·refine ⟨fun F => ?_, fun F => ?_, trivial⟩
    ·refine WL.qn (y_fieldAddrc f61_0 rfl) rfl ?_
     exact WL.done1 rfl rfl rfl
    ·refine WL.qn (y_fieldAddrc f61_0 rfl) rfl ?_
     exact WL.done1 rfl rfl rfl
   ·refine ⟨fun F => ?_, fun F => ?_, trivial⟩
    ·refine WL.qn (y_fieldAddrc f28_0 rfl) rfl ?_
     exact WL.done1 rfl rfl rfl
    ·refine WL.qn (y_fieldAddrc f28_0 rfl) rfl ?_
     exact WL.done1 rfl rfl rfl
   ·refine ⟨fun F => ?_, fun F => ?_, trivial⟩
    ·refine WL.qn (y_loadc rfl a22 rfl) rfl ?_
     exact WL.done1 rfl rfl rfl
    ·refine WL.qn (y_loadc rfl a22 rfl) rfl ?_
     exact WL.done1 rfl rfl rfl
   ·refine ⟨fun F => ?_, fun F => ?_, trivial⟩
    ·refine WL.mv rfl rfl ?_
     exact WL.done1 rfl rfl rfl
    ·refine WL.mv rfl rfl ?_
     exact WL.done1 rfl rfl rfl
   ·refine ⟨fun F => ?_, fun F => ?_, trivial⟩
    ·refine WL.qn (y_nilCheckc rfl) rfl ?_
     exact WL.done1 rfl rfl rfl
    ·refine WL.qn (y_nilCheckc rfl) rfl ?_
     exact WL.done1 rfl rfl rfl
   ·refine ⟨fun F => ?_, fun F => ?_, trivial⟩
    ·refine WL.qn (y_fieldAddrc f104_1 rfl) rfl ?_
     exact WL.done1 rfl rfl rfl
    ·refine WL.qn (y_fieldAddrc f104_1 rfl) rfl ?_
     exact WL.done1 rfl rfl rfl
   ·refine ⟨fun F => ?_, fun F => ?_, trivial⟩
    ·refine WL.qn (y_loadc rfl a3 rfl) rfl ?_
     exact WL.done1 rfl rfl rfl
    ·refine WL.qn (y_loadc rfl a3 rfl) rfl ?_
     exact WL.done1 rfl rfl rfl
   ·refine ⟨fun F => ?_, fun F => ?_, trivial⟩
    ·refine WL.qn (y_sliceL E54 c0.view.table.types (l := 0) (h := c0.ty) e22 rfl (Le.refl _) rfl ⟨_, rfl⟩ hgg67 (fun _ => rfl)) rfl ?_
     exact WL.done1 rfl rfl rfl
    ·refine WL.qn (y_sliceL E54 c0.view.table.types (l := 0) (h := c0.ty) e22 rfl (Le.refl _) rfl ⟨_, rfl⟩ hgg67 (fun _ => rfl)) rfl ?_
     exact WL.done1 rfl rfl rfl
   ·refine ⟨fun F => ?_, fun F => ?_, trivial⟩
    ·refine WL.mv rfl rfl ?_
     exact WL.done1 rfl rfl rfl
    ·refine WL.mv rfl rfl ?_
     exact WL.done1 rfl rfl rfl
   ·refine ⟨fun F => ?_, fun F => ?_, trivial⟩
    ·refine WL.qn (y_nilCheckc rfl) rfl ?_
     exact WL.done1 rfl rfl rfl
    ·refine WL.qn (y_nilCheckc rfl) rfl ?_
     exact WL.done1 rfl rfl rfl
   ·refine ⟨fun F => ?_, fun F => ?_, trivial⟩
    ·refine WL.qn (y_fieldAddrc f104_2 rfl) rfl ?_
     exact WL.done1 rfl rfl rfl
    ·refine WL.qn (y_fieldAddrc f104_2 rfl) rfl ?_
     exact WL.done1 rfl rfl rfl
   ·refine ⟨fun F => ?_, fun F => ?_, trivial⟩
    ·refine WL.qn (y_fieldAddrc f54_2 rfl) rfl ?_
     exact WL.done1 rfl rfl rfl
    ·refine WL.qn (y_fieldAddrc f54_2 rfl) rfl ?_
     exact WL.done1 rfl rfl rfl
   ·refine ⟨fun F => ?_, fun F => ?_, trivial⟩
    ·refine WL.qn (y_loadc rfl a3 rfl) rfl ?_
     exact WL.done1 rfl rfl rfl
    ·refine WL.qn (y_loadc rfl a3 rfl) rfl ?_
     exact WL.done1 rfl rfl rfl
   ·refine ⟨fun F => ?_, fun F => ?_, trivial⟩
    ·refine WL.fn rfl rfl rfl rfl (f49_c _ _ hr68) ⟨(Le.refl _), (Le.refl _), trivial⟩ (Wt.none rfl) rfl rfl ?_
     exact WL.done1 rfl rfl rfl
    ·refine WL.fn rfl rfl rfl rfl (f49_c _ _ hr68) ⟨(Le.refl _), (Le.refl _), trivial⟩ (Wt.none rfl) rfl rfl ?_
     exact WL.done1 rfl rfl rfl
   ·refine ⟨fun F => ?_, fun F => ?_, trivial⟩
    ·refine WL.mv rfl rfl ?_
     exact WL.done1 rfl rfl rfl
    ·refine WL.mv rfl rfl ?_
     exact WL.done1 rfl rfl rfl
   ·refine ⟨fun F => ?_, fun F => ?_, trivial⟩
    ·refine WL.qn (y_extractd rfl rfl) rfl ?_
     exact WL.done1 rfl rfl rfl
    ·refine WL.qn (y_extractd rfl rfl) rfl ?_
     exact WL.done1 rfl rfl rfl
   ·refine ⟨fun F => ?_, fun F => ?_, fun F => ?_, trivial⟩
    ·refine WL.qn (y_extractd rfl rfl) rfl ?_
     exact WL.done1 rfl rfl rfl
    ·refine WL.qn (y_extractd rfl rfl) rfl ?_
     exact WL.done1 rfl rfl rfl
    ·refine WL.qn (y_extractd rfl rfl) rfl ?_
     exact WL.done1 rfl rfl rfl
   ·refine ⟨fun F => ?_, trivial⟩
    refine WL.s ((b_alloc z54).does) (Wt.none rfl) rfl rfl ?_
    exact WL.done1 rfl rfl rfl
   ·refine ⟨fun F => ?_, trivial⟩
    refine WL.s0 (d_store rfl rfl rfl rfl rfl rfl s54 rfl rfl) (Wt.none rfl) rfl ?_
    exact WL.done0 rfl rfl
   ·refine ⟨fun F => ?_, trivial⟩
    refine WL.as rfl rfl ?_
    exact WL.done1 rfl rfl rfl
  ·refine we_seq ?_
   refine wc_seq ?_
   refine wc_region_draw (by kernel_rfl) (by kernel_rfl) ?_
   refine WQ.qn (y_move rfl) rfl ?_
   refine WQ.qn (y_move rfl) rfl ?_
   apply WQ.and 9 (t := 32) (d := 41)
   ·exact rfl
   ·intro hg32
    refine WQ.qy (y_fieldAddr f54_0 rfl) rfl rfl rfl ?_
    refine WQ.qy (y_load rfl rfl a49 rfl) rfl rfl rfl ?_
    refine WQ.qy (y_move rfl) rfl rfl rfl ?_
    refine WQ.qy (y_nilCheckc rfl) rfl rfl rfl ?_
    refine WQ.qy (y_fieldAddrc f104_2 rfl) rfl rfl rfl ?_
    refine WQ.qy (y_fieldAddrc f54_0 rfl) rfl rfl rfl ?_
    refine WQ.qy (y_loadc rfl a49 rfl) rfl rfl rfl ?_
    refine WQ.qy (y_eql rfl rfl) rfl rfl rfl ?_
    refine WQ.qn (y_pick_t rfl rfl) rfl ?_
    exact WQ.nil ⟨[_, _, _, _, _, _, _, _, _], rfl, rfl, rfl⟩
   ·refine WQ.skips 8 rfl ?_
    refine WQ.qn (y_pick_f rfl rfl) rfl ?_
    exact WQ.nil ⟨[_, _, _, _, _, _, _, _, _], rfl, rfl, rfl⟩
   refine WQ.qn (y_move rfl) rfl ?_
   apply WQ.and 4 (t := 42) (d := 46)
   ·exact rfl
   ·intro hg42
    refine WQ.qy (y_fieldAddr f54_13 rfl) rfl rfl rfl ?_
    refine WQ.qy (y_load rfl rfl a52 rfl) rfl rfl rfl ?_
    refine WQ.qy (y_eql rfl rfl) rfl rfl rfl ?_
    refine WQ.qn (y_pick_t rfl rfl) rfl ?_
    exact WQ.nil ⟨[_, _, _, _], rfl, rfl, rfl⟩
   ·refine WQ.skips 3 rfl ?_
    refine WQ.qn (y_pick_f rfl rfl) rfl ?_
    exact WQ.nil ⟨[_, _, _, _], rfl, rfl, rfl⟩
   refine WQ.qn (y_move rfl) rfl ?_
   apply WQ.and 7 (t := 47) (d := 54)
   ·exact rfl
   ·intro hg47
    refine WQ.qy (y_move rfl) rfl rfl rfl ?_
    refine WQ.qy (y_nilCheckc rfl) rfl rfl rfl ?_
    refine WQ.qy (y_fieldAddrc f104_2 rfl) rfl rfl rfl ?_
    refine WQ.qy (y_fieldAddrc f54_13 rfl) rfl rfl rfl ?_
    refine WQ.qy (y_loadc rfl a52 rfl) rfl rfl rfl ?_
    refine WQ.qy (y_eql rfl rfl) rfl rfl rfl ?_
    refine WQ.qn (y_pick_t rfl rfl) rfl ?_
    exact WQ.nil ⟨[_, _, _, _, _, _, _], rfl, rfl, rfl⟩
   ·refine WQ.skips 6 rfl ?_
    refine WQ.qn (y_pick_f rfl rfl) rfl ?_
    exact WQ.nil ⟨[_, _, _, _, _, _, _], rfl, rfl, rfl⟩
   refine WQ.qn (y_move rfl) rfl ?_
   obtain ⟨b69, hb69, h⟩ := bindS h
   apply WQ.grp 9 (t := 55) (d := 64) (z := b69)
   ·exact rfl
   ·intro hg55
    have h := condT hb69 hg55
    refine WQ.qy (y_fieldAddr f54_4 rfl) rfl rfl rfl ?_
    refine WQ.qy (y_load rfl rfl a50 rfl) rfl rfl rfl ?_
    refine WQ.qy (y_move rfl) rfl rfl rfl ?_
    refine WQ.qy (y_nilCheckc rfl) rfl rfl rfl ?_
    refine WQ.qy (y_fieldAddrc f104_2 rfl) rfl rfl rfl ?_
    refine WQ.qy (y_fieldAddrc f54_4 rfl) rfl rfl rfl ?_
    refine WQ.qy (y_loadc rfl a50 rfl) rfl rfl rfl ?_
    obtain ⟨r70, hr70, h⟩ := bindS h
    refine WQ.q (YieldsQ.fn rfl rfl rfl rfl rfl (f112_c _ _ hr70) ⟨(Le.refl _), (Le.refl _), trivial⟩) (Wt.yes rfl rfl rfl) rfl rfl ?_
    refine WQ.qn (y_pick_t rfl rfl) rfl ?_
    obtain rfl := Option.some.inj h
    exact WQ.nil ⟨[_, _, _, _, _, _, _, _, _], rfl, rfl, rfl⟩
   ·intro hg55
    have h := condF hb69 hg55
    refine WQ.skips 8 rfl ?_
    refine WQ.qn (y_pick_f rfl rfl) rfl ?_
    obtain rfl := Option.some.inj h
    exact WQ.nil ⟨[_, _, _, _, _, _, _, _, _], rfl, rfl, rfl⟩
   refine WQ.qn (y_assign rfl) rfl ?_
   refine WQ.nil ?_
   refine we_seq ?_
   refine wc_ret ?_
   obtain rfl := Option.some.inj h
   exact we_ret_fn (rs1 rfl (rv_t rfl)) (Le.refl _)

theorem f82_c (c0 : Checker) {r : Bool} (h : f82 c0 = some r) : Pu Tryd.prog 82 [.pc (R104 c0)] (.b r) := by
 unfold f82 at h
 refine fn_intro Tryd.func82 (by kernel_rfl) rfl rfl rfl (fun φφ ww => ?_)
 refine wc_sr ?_
 refine WL.as rfl rfl ?_
 refine WL.ns ?_
 refine wc_sr ?_
 refine WL.mv rfl rfl ?_
 refine WL.qn (y_nilCheckc rfl) rfl ?_
 refine WL.qn (y_fieldAddrc f104_3 rfl) rfl ?_
 refine WL.qn (y_fieldAddrc f40_1 rfl) rfl ?_
 refine WL.qn (y_loadc rfl a2 rfl) rfl ?_
 refine WL.qn (y_eql rfl rfl) rfl ?_
 refine WL.mv rfl rfl ?_
 apply WL.and 7 (t := 10) (d := 17)
 ·exact rfl
 ·intro hg10
  refine WL.qy (y_move rfl) rfl rfl rfl ?_
  refine WL.qy (y_nilCheckc rfl) rfl rfl rfl ?_
  refine WL.qy (y_fieldAddrc f104_3 rfl) rfl rfl rfl ?_
  refine WL.qy (y_fieldAddrc f40_2 rfl) rfl rfl rfl ?_
  refine WL.qy (y_loadc rfl a2 rfl) rfl rfl rfl ?_
  refine WL.qy (y_eql rfl rfl) rfl rfl rfl ?_
  refine WL.qn (y_pick_t rfl rfl) rfl ?_
  exact WL.nil ⟨rfl, [_, _, _, _, _, _, _], rfl, rfl, rfl⟩
 ·refine WL.skips 6 rfl ?_
  refine WL.qn (y_pick_f rfl rfl) rfl ?_
  exact WL.nil ⟨rfl, [_, _, _, _, _, _, _], rfl, rfl, rfl⟩
 refine WL.as rfl rfl ?_
 refine WL.ns ?_
 refine wc_seq ?_
 refine wc_region_draw (by kernel_rfl) (by kernel_rfl) ?_
 refine WQ.qn (y_move rfl) rfl ?_
 obtain ⟨r54, hr54, h⟩ := bindS h
 refine WQ.q (YieldsQ.fn rfl rfl rfl rfl rfl (f99_c _ hr54) ⟨(Le.refl _), trivial⟩) (Wt.none rfl) rfl rfl ?_
 refine WQ.qn (y_move rfl) rfl ?_
 apply WQ.and 12 (t := 20) (d := 32)
 ·exact rfl
 ·intro hg20
  refine WQ.qy (y_move rfl) rfl rfl rfl ?_
  refine WQ.qy (y_nilCheckc rfl) rfl rfl rfl ?_
  refine WQ.qy (y_fieldAddrc f104_3 rfl) rfl rfl rfl ?_
  refine WQ.qy (y_fieldAddrc f40_1 rfl) rfl rfl rfl ?_
  refine WQ.qy (y_loadc rfl a2 rfl) rfl rfl rfl ?_
  refine WQ.qy (y_move rfl) rfl rfl rfl ?_
  refine WQ.qy (y_nilCheckc rfl) rfl rfl rfl ?_
  refine WQ.qy (y_fieldAddrc f104_3 rfl) rfl rfl rfl ?_
  refine WQ.qy (y_fieldAddrc f40_2 rfl) rfl rfl rfl ?_
  refine WQ.qy (y_loadc rfl a2 rfl) rfl rfl rfl ?_
  refine WQ.qy (y_leq rfl rfl) rfl rfl rfl ?_
  refine WQ.qn (y_pick_t rfl rfl) rfl ?_
  exact WQ.nil ⟨[_, _, _, _, _, _, _, _, _, _, _, _], rfl, rfl, rfl⟩
 ·refine WQ.skips 11 rfl ?_
  refine WQ.qn (y_pick_f rfl rfl) rfl ?_
  exact WQ.nil ⟨[_, _, _, _, _, _, _, _, _, _, _, _], rfl, rfl, rfl⟩
 refine WQ.qn (y_move rfl) rfl ?_
 apply WQ.and 18 (t := 33) (d := 51)
 ·exact rfl
 ·intro hg33
  refine WQ.qy (y_move rfl) rfl rfl rfl ?_
  refine WQ.qy (y_nilCheckc rfl) rfl rfl rfl ?_
  refine WQ.qy (y_fieldAddrc f104_2 rfl) rfl rfl rfl ?_
  refine WQ.qy (y_fieldAddrc f54_13 rfl) rfl rfl rfl ?_
  refine WQ.qy (y_loadc rfl a52 rfl) rfl rfl rfl ?_
  refine WQ.qy (y_eql rfl rfl) rfl rfl rfl ?_
  refine WQ.qy (y_move rfl) rfl rfl rfl ?_
  apply WQ.or 10 (t := 40) (d := 50)
  ·exact rfl
  ·intro hg40
   refine WQ.qy (y_move rfl) rfl rfl rfl ?_
   refine WQ.qy (y_nilCheckc rfl) rfl rfl rfl ?_
   refine WQ.qy (y_fieldAddrc f104_2 rfl) rfl rfl rfl ?_
   refine WQ.qy (y_fieldAddrc f54_13 rfl) rfl rfl rfl ?_
   refine WQ.qy (y_loadc rfl a52 rfl) rfl rfl rfl ?_
   refine WQ.qy (y_eql rfl rfl) rfl rfl rfl ?_
   refine WQ.qy (y_move rfl) rfl rfl rfl ?_
   apply WQ.and 2 (t := 47) (d := 49)
   ·exact rfl
   ·intro hg47
    refine WQ.qy (y_move rfl) rfl rfl rfl ?_
    refine WQ.qy (y_pick_t rfl rfl) rfl rfl rfl ?_
    exact WQ.nil ⟨[_, _], rfl, rfl, rfl⟩
   ·refine WQ.skips 1 rfl ?_
    refine WQ.qy (y_pick_f rfl rfl) rfl rfl rfl ?_
    exact WQ.nil ⟨[_, _], rfl, rfl, rfl⟩
   refine WQ.qy (y_pick_f rfl rfl) rfl rfl rfl ?_
   exact WQ.nil ⟨[_, _, _, _, _, _, _, _, _], rfl, rfl, rfl⟩
  ·refine WQ.skips 9 rfl ?_
   refine WQ.qy (y_pick_t rfl rfl) rfl rfl rfl ?_
   exact WQ.nil ⟨[_, _, _, _, _, _, _, _, _, _], rfl, rfl, rfl⟩
  refine WQ.qn (y_pick_t rfl rfl) rfl ?_
  exact WQ.nil ⟨[_, _, _, _, _, _, _, _, _], rfl, rfl, rfl⟩
 ·refine WQ.skips 17 rfl ?_
  refine WQ.qn (y_pick_f rfl rfl) rfl ?_
  exact WQ.nil ⟨[_, _, _, _, _, _, _, _, _, _, _, _, _, _, _, _, _, _], rfl, rfl, rfl⟩
 refine WQ.qn (y_assign rfl) rfl ?_
 refine WQ.nil ?_
 refine we_seq ?_
 refine wc_ret ?_
 obtain rfl := Option.some.inj h
 exact we_ret_fn (rs1 rfl (rv_t rfl)) (Le.refl _)

theorem f100_c (l0 : List ByteArray) {r : Bool} (h : f100 l0 = some r) : Pu Tryd.prog 100 [.sl (List.map E9 l0)] (.b r) := by
 unfold f100 at h
 refine fn_intro Tryd.func100 (by kernel_rfl) rfl rfl rfl (fun φφ ww => ?_)
 refine wc_sr ?_
 refine WL.as rfl rfl ?_
 refine WL.ns ?_
 replace h := letkS h
 obtain ⟨k25, hk25, h⟩ := h
 refine wc_cut (fun env' st' => k25 () = some r ∧ Sub [] env' ∧ SLe st' []) ?_ ?_
 ·refine wc_sr ?_
  refine WL.mv rfl rfl ?_
  refine WL.qn (y_len_map E9 l0 e50 rfl rfl (Le.refl _)) rfl ?_
  refine WL.mv rfl rfl ?_
  refine WL.ns ?_
  refine wc_block ?_
  refine wc_loop (fun n env' st' => ∃ (t27 : Int), f100_l1 l0 k25 n t27 = some r ∧ Sub [(0, .d (.sl (List.map E9 l0))), (5, .d (.sl (List.map E9 l0))), (6, .d (D.i .i64 (List.length l0 : Int))), (7, .d (D.i .i64 t27))] env' ∧ SLe st' []) (fun n => n) (Int.toNat ((List.length l0 : Int) - 0) + 1) ⟨0, h, (Sub.cons rfl (Le.refl _) (Sub.cons rfl (Le.refl _) (Sub.cons rfl (Le.refl _) (Sub.cons rfl (Le.refl _) (Sub.nil _))))), trivial⟩ ?_
  rintro n env1 st1 ⟨t27, h, hsub, hst⟩
  cases n with
  | zero => rw [f100_l1] at h; cases h
  | succ n =>
  rw [f100_l1] at h
  refine WC.sub hsub (WC.weak hst ?_)
  refine wc_sr ?_
  refine WL.qn (y_lss rfl rfl) rfl ?_
  refine WL.ns ?_
  refine wc_seq ?_
  refine wc_cond rfl (fun hc1 => ?_) (fun hc1 => ?_)
  ·replace h := condT h hc1
   refine wc_skip ?_
   refine we_seq ?_
   refine wc_seq ?_
   refine wc_block ?_
   refine wc_sr ?_
   refine WL.mv rfl rfl ?_
   obtain ⟨x29, hx29, h⟩ := bindS h
   refine WL.qn (y_indexAddr e50 rfl (Le.refl _) rfl (idx_nonneg hx29) (idx_row E9_eq hx29) rfl) rfl ?_
   refine WL.qn (y_loadc rfl a9 rfl) rfl ?_
   refine WL.as rfl rfl ?_
   refine WL.as rfl rfl ?_
   refine WL.ns ?_
   refine wc_sr ?_
   refine WL.mv rfl rfl ?_
   obtain ⟨r30, hr30, h⟩ := bindS h
   refine WL.fn rfl rfl rfl rfl (f81_c _ hr30) ⟨(Le.refl _), trivial⟩ (Wt.none rfl) rfl rfl ?_
   refine WL.qn (y_not rfl) rfl ?_
   refine WL.mv rfl rfl ?_
   obtain ⟨b31, hb31, h⟩ := bindS h
   apply WL.grp 6 (t := 15) (d := 21) (z := b31)
   ·exact rfl
   ·intro hg15
    have h := condT hb31 hg15
    refine WL.skips 5 rfl ?_
    refine WL.qn (y_pick_t rfl rfl) rfl ?_
    obtain rfl := Option.some.inj h
    exact WL.nil ⟨rfl, [_, _, _, _, _, _], rfl, rfl, rfl⟩
   ·intro hg15
    have h := condF hb31 hg15
    refine WL.qy (y_move rfl) rfl rfl rfl ?_
    refine WL.qy (y_move rfl) rfl rfl rfl ?_
    replace h := guardBS h
    obtain ⟨hgg32, h⟩ := h
    refine WL.qy (y_sliceL E9 l0 (l := 0) (h := t27) e50 rfl (Le.refl _) rfl ⟨_, rfl⟩ hgg32 (fun _ => rfl)) rfl rfl rfl ?_
    refine WL.qy (y_move rfl) rfl rfl rfl ?_
    obtain ⟨r33, hr33, h⟩ := bindS h
    refine WL.fn rfl rfl rfl rfl (f113_c _ _ hr33) ⟨(Le.refl _), (Le.refl _), trivial⟩ (Wt.yes rfl rfl rfl) rfl rfl ?_
    refine WL.qn (y_pick_f rfl rfl) rfl ?_
    obtain rfl := Option.some.inj h
    exact WL.nil ⟨rfl, [_, _, _, _, _, _], rfl, rfl, rfl⟩
   refine WL.ns ?_
   refine wc_cond rfl (fun hc2 => ?_) (fun hc2 => ?_)
   ·replace h := condT h hc2
    refine wc_sr ?_
    refine WL.as rfl rfl ?_
    refine WL.ns ?_
    refine wc_ret ?_
    refine we_blk_ret ?_
    refine we_seq_ret ?_
    refine we_lp_ret ?_
    refine we_blk_ret ?_
    refine we_lp_ret ?_
    obtain rfl := Option.some.inj h
    exact we_ret_fn (rs1 rfl (rv_t rfl)) (Le.refl _)
   ·replace h := condF h hc2
    refine wc_skip ?_
    refine we_blk ?_
    refine we_seq ?_
    refine wc_region ?_
    refine WL.qn (y_add rfl rfl rfl) rfl ?_
    refine WL.mv rfl rfl ?_
    refine WL.nil ?_
    exact we_lp ⟨n, ⟨(IntKind.i64.wrap (t27 + 1)), h, (Sub.cons rfl (Le.refl _) (Sub.cons rfl (Le.refl _) (Sub.cons rfl (Le.refl _) (Sub.cons rfl (Le.refl _) (Sub.nil _))))), trivial⟩, Nat.lt_succ_self n⟩
  ·replace h := condF h hc1
   refine wc_exit ?_
   refine we_seq_exit ?_
   refine we_lp_exit ?_
   refine we_blk_hit ?_
   exact we_lp ⟨h, (Sub.nil _), trivial⟩
 ·rintro env1 st1 ⟨h, hsub, hst⟩
  subst hk25
  dsimp only at h
  refine WC.sub hsub (WC.weak hst ?_)
  refine wc_sr ?_
  refine WL.as rfl rfl ?_
  refine WL.ns ?_
  refine wc_ret ?_
  obtain rfl := Option.some.inj h
  exact we_ret_fn (rs1 rfl (rv_t rfl)) (Le.refl _)

theorem f83_c (c0 : Checker) {r : Bool} (h : f83 c0 = some r) : Pu Tryd.prog 83 [.pc (R104 c0)] (.b r) := by
 unfold f83 at h
 refine fn_intro Tryd.func83 (by kernel_rfl) rfl rfl rfl (fun φφ ww => ?_)
 refine wc_sr ?_
 refine WL.as rfl rfl ?_
 refine WL.ns ?_
 refine wc_sr ?_
 refine WL.mv rfl rfl ?_
 refine WL.qn (y_nilCheckc rfl) rfl ?_
 refine WL.qn (y_fieldAddrc f104_2 rfl) rfl ?_
 refine WL.qn (y_fieldAddrc f54_4 rfl) rfl ?_
 refine WL.qn (y_loadc rfl a50 rfl) rfl ?_
 refine WL.qn (y_len_map E9 c0.y.lits e50 rfl rfl (Le.refl _)) rfl ?_
 refine WL.as rfl rfl ?_
 refine WL.ns ?_
 refine wc_sr ?_
 refine WL.mv rfl rfl ?_
 refine WL.qn (y_nilCheckc rfl) rfl ?_
 refine WL.qn (y_fieldAddrc f104_3 rfl) rfl ?_
 refine WL.qn (y_loadcN rfl a40 s40 rfl) rfl ?_
 refine WL.s ((b_alloc z40).does) (Wt.none rfl) rfl rfl ?_
 refine WL.s0 (d_store rfl rfl rfl rfl rfl rfl s40 rfl rfl) (Wt.none rfl) rfl ?_
 refine WL.ns ?_
 refine wc_seq ?_
 refine wc_sr ?_
 refine WL.mv rfl rfl ?_
 refine WL.qn (y_nilCheckc rfl) rfl ?_
 refine WL.qn (y_fieldAddrc f104_2 rfl) rfl ?_
 refine WL.qn (y_fieldAddrc f54_13 rfl) rfl ?_
 refine WL.qn (y_loadc rfl a52 rfl) rfl ?_
 refine WL.qn (y_eql rfl rfl) rfl ?_
 refine WL.ns ?_
 refine wc_cond rfl (fun hc1 => ?_) (fun hc1 => ?_)
 ·replace h := condT h hc1
  refine wc_sr ?_
  refine WL.mv rfl rfl ?_
  obtain ⟨r94, hr94, h⟩ := bindS h
  refine WL.fn rfl rfl rfl rfl (f99_c _ hr94) ⟨(Le.refl _), trivial⟩ (Wt.none rfl) rfl rfl ?_
  refine WL.mv rfl rfl ?_
  apply WL.and 3 (t := 24) (d := 27)
  ·exact rfl
  ·intro hg24
   refine WL.qy (y_move rfl) rfl rfl rfl ?_
   refine WL.qy (y_eql rfl rfl) rfl rfl rfl ?_
   refine WL.qn (y_pick_t rfl rfl) rfl ?_
   exact WL.nil ⟨rfl, [_, _, _], rfl, rfl, rfl⟩
  ·refine WL.skips 2 rfl ?_
   refine WL.qn (y_pick_f rfl rfl) rfl ?_
   exact WL.nil ⟨rfl, [_, _, _], rfl, rfl, rfl⟩
  refine WL.mv rfl rfl ?_
  apply WL.and 4 (t := 28) (d := 32)
  ·exact rfl
  ·intro hg28
   refine WL.qy (y_fieldAddr f40_1 rfl) rfl rfl rfl ?_
   refine WL.qy (y_load rfl rfl a2 rfl) rfl rfl rfl ?_
   refine WL.qy (y_eql rfl rfl) rfl rfl rfl ?_
   refine WL.qn (y_pick_t rfl rfl) rfl ?_
   exact WL.nil ⟨rfl, [_, _, _, _], rfl, rfl, rfl⟩
  ·refine WL.skips 3 rfl ?_
   refine WL.qn (y_pick_f rfl rfl) rfl ?_
   exact WL.nil ⟨rfl, [_, _, _, _], rfl, rfl, rfl⟩
  refine WL.mv rfl rfl ?_
  apply WL.and 4 (t := 33) (d := 37)
  ·exact rfl
  ·intro hg33
   refine WL.qy (y_fieldAddr f40_2 rfl) rfl rfl rfl ?_
   refine WL.qy (y_load rfl rfl a2 rfl) rfl rfl rfl ?_
   refine WL.qy (y_eql rfl rfl) rfl rfl rfl ?_
   refine WL.qn (y_pick_t rfl rfl) rfl ?_
   exact WL.nil ⟨rfl, [_, _, _, _], rfl, rfl, rfl⟩
  ·refine WL.skips 3 rfl ?_
   refine WL.qn (y_pick_f rfl rfl) rfl ?_
   exact WL.nil ⟨rfl, [_, _, _, _], rfl, rfl, rfl⟩
  refine WL.as rfl rfl ?_
  refine WL.ns ?_
  refine wc_ret ?_
  refine we_seq_ret ?_
  obtain rfl := Option.some.inj h
  exact we_ret_fn (rs1 rfl (rv_t rfl)) (Le.refl _)
 ·replace h := condF h hc1
  refine wc_skip ?_
  refine we_seq ?_
  refine wc_sr ?_
  refine WL.qn (y_fieldAddr f40_1 rfl) rfl ?_
  refine WL.qn (y_load rfl rfl a2 rfl) rfl ?_
  refine WL.qn (y_eql rfl rfl) rfl ?_
  refine WL.mv rfl rfl ?_
  apply WL.and 6 (t := 41) (d := 47)
  ·exact rfl
  ·intro hg41
   refine WL.qy (y_fieldAddr f40_2 rfl) rfl rfl rfl ?_
   refine WL.qy (y_load rfl rfl a2 rfl) rfl rfl rfl ?_
   refine WL.qy (y_move rfl) rfl rfl rfl ?_
   refine WL.qy (y_sub rfl rfl rfl) rfl rfl rfl ?_
   refine WL.qy (y_eql rfl rfl) rfl rfl rfl ?_
   refine WL.qn (y_pick_t rfl rfl) rfl ?_
   exact WL.nil ⟨rfl, [_, _, _, _, _, _], rfl, rfl, rfl⟩
  ·refine WL.skips 5 rfl ?_
   refine WL.qn (y_pick_f rfl rfl) rfl ?_
   exact WL.nil ⟨rfl, [_, _, _, _, _, _], rfl, rfl, rfl⟩
  refine WL.as rfl rfl ?_
  refine WL.ns ?_
  refine wc_sr ?_
  refine WL.mv rfl rfl ?_
  obtain ⟨r95, hr95, h⟩ := bindS h
  refine WL.fn rfl rfl rfl rfl (f99_c _ hr95) ⟨(Le.refl _), trivial⟩ (Wt.none rfl) rfl rfl ?_
  refine WL.mv rfl rfl ?_
  apply WL.and 7 (t := 50) (d := 57)
  ·exact rfl
  ·intro hg50
   refine WL.qy (y_move rfl) rfl rfl rfl ?_
   refine WL.qy (y_nilCheckc rfl) rfl rfl rfl ?_
   refine WL.qy (y_fieldAddrc f104_2 rfl) rfl rfl rfl ?_
   refine WL.qy (y_fieldAddrc f54_13 rfl) rfl rfl rfl ?_
   refine WL.qy (y_loadc rfl a52 rfl) rfl rfl rfl ?_
   refine WL.qy (y_eql rfl rfl) rfl rfl rfl ?_
   refine WL.qn (y_pick_t rfl rfl) rfl ?_
   exact WL.nil ⟨rfl, [_, _, _, _, _, _, _], rfl, rfl, rfl⟩
  ·refine WL.skips 6 rfl ?_
   refine WL.qn (y_pick_f rfl rfl) rfl ?_
   exact WL.nil ⟨rfl, [_, _, _, _, _, _, _], rfl, rfl, rfl⟩
  refine WL.mv rfl rfl ?_
  apply WL.and 3 (t := 58) (d := 61)
  ·exact rfl
  ·intro hg58
   refine WL.qy (y_move rfl) rfl rfl rfl ?_
   refine WL.qy (y_geq rfl rfl) rfl rfl rfl ?_
   refine WL.qn (y_pick_t rfl rfl) rfl ?_
   exact WL.nil ⟨rfl, [_, _, _], rfl, rfl, rfl⟩
  ·refine WL.skips 2 rfl ?_
   refine WL.qn (y_pick_f rfl rfl) rfl ?_
   exact WL.nil ⟨rfl, [_, _, _], rfl, rfl, rfl⟩
  refine WL.mv rfl rfl ?_
  apply WL.and 3 (t := 62) (d := 65)
  ·exact rfl
  ·intro hg62
   refine WL.qy (y_move rfl) rfl rfl rfl ?_
   refine WL.qy (y_leq rfl rfl) rfl rfl rfl ?_
   refine WL.qn (y_pick_t rfl rfl) rfl ?_
   exact WL.nil ⟨rfl, [_, _, _], rfl, rfl, rfl⟩
  ·refine WL.skips 2 rfl ?_
   refine WL.qn (y_pick_f rfl rfl) rfl ?_
   exact WL.nil ⟨rfl, [_, _, _], rfl, rfl, rfl⟩
  refine WL.mv rfl rfl ?_
  obtain ⟨b96, hb96, h⟩ := bindS h
  apply WL.grp 7 (t := 66) (d := 73) (z := b96)
  ·exact rfl
  ·intro hg66
   have h := condT hb96 hg66
   refine WL.qy (y_move rfl) rfl rfl rfl ?_
   refine WL.qy (y_nilCheckc rfl) rfl rfl rfl ?_
   refine WL.qy (y_fieldAddrc f104_2 rfl) rfl rfl rfl ?_
   refine WL.qy (y_fieldAddrc f54_4 rfl) rfl rfl rfl ?_
   refine WL.qy (y_loadc rfl a50 rfl) rfl rfl rfl ?_
   obtain ⟨r97, hr97, h⟩ := bindS h
   refine WL.fn rfl rfl rfl rfl (f100_c _ hr97) ⟨(Le.refl _), trivial⟩ (Wt.yes rfl rfl rfl) rfl rfl ?_
   refine WL.qn (y_pick_t rfl rfl) rfl ?_
   obtain rfl := Option.some.inj h
   exact WL.nil ⟨rfl, [_, _, _, _, _, _, _], rfl, rfl, rfl⟩
  ·intro hg66
   have h := condF hb96 hg66
   refine WL.skips 6 rfl ?_
   refine WL.qn (y_pick_f rfl rfl) rfl ?_
   obtain rfl := Option.some.inj h
   exact WL.nil ⟨rfl, [_, _, _, _, _, _, _], rfl, rfl, rfl⟩
  refine WL.mv rfl rfl ?_
  apply WL.and 6 (t := 74) (d := 80)
  ·exact rfl
  ·intro hg74
   refine WL.qy (y_fieldAddr f40_1 rfl) rfl rfl rfl ?_
   refine WL.qy (y_load rfl rfl a2 rfl) rfl rfl rfl ?_
   refine WL.qy (y_fieldAddr f40_2 rfl) rfl rfl rfl ?_
   refine WL.qy (y_load rfl rfl a2 rfl) rfl rfl rfl ?_
   refine WL.qy (y_leq rfl rfl) rfl rfl rfl ?_
   refine WL.qn (y_pick_t rfl rfl) rfl ?_
   exact WL.nil ⟨rfl, [_, _, _, _, _, _], rfl, rfl, rfl⟩
  ·refine WL.skips 5 rfl ?_
   refine WL.qn (y_pick_f rfl rfl) rfl ?_
   exact WL.nil ⟨rfl, [_, _, _, _, _, _], rfl, rfl, rfl⟩
  refine WL.mv rfl rfl ?_
  apply WL.and 10 (t := 81) (d := 91)
  ·exact rfl
  ·intro hg81
   refine WL.qy (y_move rfl) rfl rfl rfl ?_
   refine WL.qy (y_nilCheckc rfl) rfl rfl rfl ?_
   refine WL.qy (y_fieldAddrc f104_2 rfl) rfl rfl rfl ?_
   refine WL.qy (y_fieldAddrc f54_2 rfl) rfl rfl rfl ?_
   refine WL.qy (y_loadc rfl a3 rfl) rfl rfl rfl ?_
   refine WL.qy (y_neq rfl rfl) rfl rfl rfl ?_
   refine WL.qy (y_move rfl) rfl rfl rfl ?_
   apply WL.or 2 (t := 88) (d := 90)
   ·exact rfl
   ·intro hg88
    refine WL.qy (y_move rfl) rfl rfl rfl ?_
    refine WL.qy (y_pick_f rfl rfl) rfl rfl rfl ?_
    exact WL.nil ⟨rfl, [_, _], rfl, rfl, rfl⟩
   ·refine WL.skips 1 rfl ?_
    refine WL.qy (y_pick_t rfl rfl) rfl rfl rfl ?_
    exact WL.nil ⟨rfl, [_, _], rfl, rfl, rfl⟩
   refine WL.qn (y_pick_t rfl rfl) rfl ?_
   exact WL.nil ⟨rfl, [_, _, _, _, _, _, _, _, _], rfl, rfl, rfl⟩
  ·refine WL.skips 9 rfl ?_
   refine WL.qn (y_pick_f rfl rfl) rfl ?_
   exact WL.nil ⟨rfl, [_, _, _, _, _, _, _, _, _, _], rfl, rfl, rfl⟩
  refine WL.as rfl rfl ?_
  refine WL.ns ?_
  refine wc_ret ?_
  obtain rfl := Option.some.inj h
  exact we_ret_fn (rs1 rfl (rv_t rfl)) (Le.refl _)

theorem f84_c (c0 : Checker) {r : Bool} (h : f84 c0 = some r) : Pu Tryd.prog 84 [.pc (R104 c0)] (.b r) := by
 unfold f84 at h
 refine fn_intro Tryd.func84 (by kernel_rfl) rfl rfl rfl (fun φφ ww => ?_)
 refine wc_sr ?_
 refine WL.as rfl rfl ?_
 refine WL.ns ?_
 refine wc_seq ?_
 refine wc_region_draw (by kernel_rfl) (by kernel_rfl) ?_
 refine WQ.qn (y_move rfl) rfl ?_
 refine WQ.qn (y_nilCheckc rfl) rfl ?_
 refine WQ.qn (y_fieldAddrc f104_0 rfl) rfl ?_
 refine WQ.qn (y_loadcN rfl a61 s61 rfl) rfl ?_
 refine WQ.qn (y_move rfl) rfl ?_
 refine WQ.qn (y_nilCheckc rfl) rfl ?_
 refine WQ.qn (y_fieldAddrc f104_2 rfl) rfl ?_
 refine WQ.qn (y_fieldAddrc f54_5 rfl) rfl ?_
 refine WQ.qn (y_loadc rfl a3 rfl) rfl ?_
 obtain ⟨r28, hr28, h⟩ := bindS h
 refine WQ.q (YieldsQ.fn rfl rfl rfl rfl rfl (f41_c _ _ _ hr28) ⟨(Le.refl _), (Le.refl _), (Le.refl _), trivial⟩) (Wt.none rfl) rfl rfl ?_
 refine WQ.qn (y_gtr rfl rfl) rfl ?_
 refine WQ.qn (y_move rfl) rfl ?_
 obtain ⟨b29, hb29, h⟩ := bindS h
 apply WQ.grp 11 (t := 14) (d := 25) (z := b29)
 ·exact rfl
 ·intro hg14
  have h := condT hb29 hg14
  refine WQ.qy (y_move rfl) rfl rfl rfl ?_
  refine WQ.qy (y_nilCheckc rfl) rfl rfl rfl ?_
  refine WQ.qy (y_fieldAddrc f104_0 rfl) rfl rfl rfl ?_
  refine WQ.qy (y_loadcN rfl a61 s61 rfl) rfl rfl rfl ?_
  refine WQ.qy (y_move rfl) rfl rfl rfl ?_
  refine WQ.qy (y_nilCheckc rfl) rfl rfl rfl ?_
  refine WQ.qy (y_fieldAddrc f104_2 rfl) rfl rfl rfl ?_
  refine WQ.qy (y_fieldAddrc f54_6 rfl) rfl rfl rfl ?_
  refine WQ.qy (y_loadc rfl a3 rfl) rfl rfl rfl ?_
  obtain ⟨r30, hr30, h⟩ := bindS h
  refine WQ.q (YieldsQ.fn rfl rfl rfl rfl rfl (f101_c _ _ hr30) ⟨(Le.refl _), (Le.refl _), trivial⟩) (Wt.yes rfl rfl rfl) rfl rfl ?_
  refine WQ.qn (y_pick_t rfl rfl) rfl ?_
  obtain rfl := Option.some.inj h
  exact WQ.nil ⟨[_, _, _, _, _, _, _, _, _, _, _], rfl, rfl, rfl⟩
 ·intro hg14
  have h := condF hb29 hg14
  refine WQ.skips 10 rfl ?_
  refine WQ.qn (y_pick_f rfl rfl) rfl ?_
  obtain rfl := Option.some.inj h
  exact WQ.nil ⟨[_, _, _, _, _, _, _, _, _, _, _], rfl, rfl, rfl⟩
 refine WQ.qn (y_assign rfl) rfl ?_
 refine WQ.nil ?_
 refine we_seq ?_
 refine wc_ret ?_
 obtain rfl := Option.some.inj h
 exact we_ret_fn (rs1 rfl (rv_t rfl)) (Le.refl _)

theorem f102_c (c0 : Checker) (x1 : CompRow) {r : Bool} (h : f102 c0 x1 = some r) : Pu Tryd.prog 102 [.pc (R104 c0), .ag (R56 x1)] (.b r) := by
 unfold f102 at h
 refine fn_intro Tryd.func102 (by kernel_rfl) rfl rfl rfl (fun φφ ww => ?_)
 refine wc_sr ?_
 refine WL.s ((b_boxd rfl rfl (Les.refl _)).does) (Wt.none rfl) rfl rfl ?_
 refine WL.as rfl rfl ?_
 refine WL.ns ?_
 refine wc_seq ?_
 refine wc_seq ?_
 refine wc_region_draw (by kernel_rfl) (by kernel_rfl) ?_
 refine WQ.qn (y_move rfl) rfl ?_
 refine WQ.qn (y_nilCheckc rfl) rfl ?_
 refine WQ.qn (y_fieldAddrc f104_0 rfl) rfl ?_
 refine WQ.qn (y_loadcN rfl a61 s61 rfl) rfl ?_
 refine WQ.qn (y_fieldAddrc f56_1 rfl) rfl ?_
 refine WQ.qn (y_loadc rfl a3 rfl) rfl ?_
 obtain ⟨r96, hr96, h⟩ := bindS h
 refine WQ.q (YieldsQ.fn rfl rfl rfl rfl rfl (f101_c _ _ hr96) ⟨(Le.refl _), (Le.refl _), trivial⟩) (Wt.none rfl) rfl rfl ?_
 refine WQ.qn (y_not rfl) rfl ?_
 refine WQ.qn (y_move rfl) rfl ?_
 obtain ⟨b97, hb97, h⟩ := bindS h
 apply WQ.grp 15 (t := 15) (d := 30) (z := b97)
 ·exact rfl
 ·intro hg15
  have h := condT hb97 hg15
  refine WQ.skips 14 rfl ?_
  refine WQ.qn (y_pick_t rfl rfl) rfl ?_
  obtain rfl := Option.some.inj h
  exact WQ.nil ⟨[_, _, _, _, _, _, _, _, _, _, _, _, _, _, _], rfl, rfl, rfl⟩
 ·intro hg15
  have h := condF hb97 hg15
  refine WQ.qy (y_fieldAddrc f56_2 rfl) rfl rfl rfl ?_
  refine WQ.qy (y_loadc rfl a4 rfl) rfl rfl rfl ?_
  refine WQ.qy (y_move rfl) rfl rfl rfl ?_
  obtain ⟨b98, hb98, h⟩ := bindS h
  apply WQ.grp 11 (t := 18) (d := 29) (z := b98)
  ·exact rfl
  ·intro hg18
   have h := condT hb98 hg18
   refine WQ.qy (y_move rfl) rfl rfl rfl ?_
   refine WQ.qy (y_nilCheckc rfl) rfl rfl rfl ?_
   refine WQ.qy (y_fieldAddrc f104_0 rfl) rfl rfl rfl ?_
   refine WQ.qy (y_loadcN rfl a61 s61 rfl) rfl rfl rfl ?_
   refine WQ.qy (y_fieldAddrc f56_1 rfl) rfl rfl rfl ?_
   refine WQ.qy (y_loadc rfl a3 rfl) rfl rfl rfl ?_
   refine WQ.qy (y_fieldAddrc f56_3 rfl) rfl rfl rfl ?_
   refine WQ.qy (y_loadc rfl a2 rfl) rfl rfl rfl ?_
   obtain ⟨r99, hr99, h⟩ := bindS h
   refine WQ.q (YieldsQ.fn rfl rfl rfl rfl rfl (f42_c _ _ _ hr99) ⟨(Le.refl _), (Le.refl _), (Le.refl _), trivial⟩) (Wt.yes rfl rfl rfl) rfl rfl ?_
   refine WQ.qy (y_not rfl) rfl rfl rfl ?_
   refine WQ.qy (y_pick_t rfl rfl) rfl rfl rfl ?_
   obtain rfl := Option.some.inj h
   exact WQ.nil ⟨[_, _, _, _, _, _, _, _, _, _, _], rfl, rfl, rfl⟩
  ·intro hg18
   have h := condF hb98 hg18
   refine WQ.skips 10 rfl ?_
   refine WQ.qy (y_pick_f rfl rfl) rfl rfl rfl ?_
   obtain rfl := Option.some.inj h
   exact WQ.nil ⟨[_, _, _, _, _, _, _, _, _, _, _], rfl, rfl, rfl⟩
  refine WQ.qn (y_pick_f rfl rfl) rfl ?_
  obtain rfl := Option.some.inj h
  exact WQ.nil ⟨[_, _, _, _, _], rfl, rfl, rfl⟩
 refine WQ.qn (y_move rfl) rfl ?_
 apply WQ.or 9 (t := 31) (d := 40)
 ·exact rfl
 ·intro hg31
  refine WQ.qy (y_fieldAddrc f56_2 rfl) rfl rfl rfl ?_
  refine WQ.qy (y_loadc rfl a4 rfl) rfl rfl rfl ?_
  refine WQ.qy (y_not rfl) rfl rfl rfl ?_
  refine WQ.qy (y_move rfl) rfl rfl rfl ?_
  apply WQ.and 4 (t := 35) (d := 39)
  ·exact rfl
  ·intro hg35
   refine WQ.qy (y_fieldAddrc f56_3 rfl) rfl rfl rfl ?_
   refine WQ.qy (y_loadc rfl a2 rfl) rfl rfl rfl ?_
   refine WQ.qy (y_neq rfl rfl) rfl rfl rfl ?_
   refine WQ.qy (y_pick_t rfl rfl) rfl rfl rfl ?_
   exact WQ.nil ⟨[_, _, _, _], rfl, rfl, rfl⟩
  ·refine WQ.skips 3 rfl ?_
   refine WQ.qy (y_pick_f rfl rfl) rfl rfl rfl ?_
   exact WQ.nil ⟨[_, _, _, _], rfl, rfl, rfl⟩
  refine WQ.qn (y_pick_f rfl rfl) rfl ?_
  exact WQ.nil ⟨[_, _, _, _, _, _], rfl, rfl, rfl⟩
 ·refine WQ.skips 8 rfl ?_
  refine WQ.qn (y_pick_t rfl rfl) rfl ?_
  exact WQ.nil ⟨[_, _, _, _, _, _, _, _, _], rfl, rfl, rfl⟩
 refine WQ.qn (y_move rfl) rfl ?_
 apply WQ.or 8 (t := 41) (d := 49)
 ·exact rfl
 ·intro hg41
  refine WQ.qy (y_fieldAddrc f56_4 rfl) rfl rfl rfl ?_
  refine WQ.qy (y_loadc rfl a4 rfl) rfl rfl rfl ?_
  refine WQ.qy (y_fieldAddrc f56_5 rfl) rfl rfl rfl ?_
  refine WQ.qy (y_loadc rfl a41 rfl) rfl rfl rfl ?_
  refine WQ.qy (y_len_map E2 x1.when e41 rfl rfl (Le.refl _)) rfl rfl rfl ?_
  refine WQ.qy (y_gtr rfl rfl) rfl rfl rfl ?_
  refine WQ.qy (y_neb Tryd.underlying4 rfl rfl) rfl rfl rfl ?_
  refine WQ.qn (y_pick_f rfl rfl) rfl ?_
  exact WQ.nil ⟨[_, _, _, _, _, _, _, _], rfl, rfl, rfl⟩
 ·refine WQ.skips 7 rfl ?_
  refine WQ.qn (y_pick_t rfl rfl) rfl ?_
  exact WQ.nil ⟨[_, _, _, _, _, _, _, _], rfl, rfl, rfl⟩
 refine WQ.nil ?_
 refine we_seq ?_
 refine wc_cond rfl (fun hc1 => ?_) (fun hc1 => ?_)
 ·replace h := condT h hc1
  refine wc_sr ?_
  refine WL.as rfl rfl ?_
  refine WL.ns ?_
  refine wc_ret ?_
  refine we_seq_ret ?_
  obtain rfl := Option.some.inj h
  exact we_ret_fn (rs1 rfl (rv_t rfl)) (Le.refl _)
 ·replace h := condF h hc1
  refine wc_skip ?_
  refine we_seq ?_
  replace h := letkS h
  obtain ⟨k100, hk100, h⟩ := h
  refine wc_cut (fun env' st' => k100 () = some r ∧ Sub [] env' ∧ SLe st' []) ?_ ?_
  ·refine wc_sr ?_
   refine WL.qn (y_fieldAddrc f56_5 rfl) rfl ?_
   refine WL.qn (y_loadc rfl a41 rfl) rfl ?_
   refine WL.qn (y_len_map E2 x1.when e41 rfl rfl (Le.refl _)) rfl ?_
   refine WL.mv rfl rfl ?_
   refine WL.ns ?_
   refine wc_block ?_
   refine wc_loop (fun n env' st' => ∃ (t102 : Int), f102_l1 c0 x1 k100 n t102 = some r ∧ Sub [(0, .d (.pc (R104 c0))), (3, .d (.pc (R56 x1))), (51, .d (.sl (List.map E2 x1.when))), (52, .d (D.i .i64 (List.length x1.when : Int))), (53, .d (D.i .i64 t102))] env' ∧ SLe st' []) (fun n => n) (Int.toNat ((List.length x1.when : Int) - 0) + 1) ⟨0, h, (Sub.cons rfl (Le.refl _) (Sub.cons rfl (Le.refl _) (Sub.cons rfl (Le.refl _) (Sub.cons rfl (Le.refl _) (Sub.cons rfl (Le.refl _) (Sub.nil _)))))), trivial⟩ ?_
   rintro n env1 st1 ⟨t102, h, hsub, hst⟩
   cases n with
   | zero => rw [f102_l1] at h; cases h
   | succ n =>
   rw [f102_l1] at h
   refine WC.sub hsub (WC.weak hst ?_)
   refine wc_sr ?_
   refine WL.qn (y_lss rfl rfl) rfl ?_
   refine WL.ns ?_
   refine wc_seq ?_
   refine wc_cond rfl (fun hc2 => ?_) (fun hc2 => ?_)
   ·replace h := condT h hc2
    refine wc_skip ?_
    refine we_seq ?_
    refine wc_seq ?_
    refine wc_block ?_
    refine wc_sr ?_
    refine WL.mv rfl rfl ?_
    obtain ⟨x104, hx104, h⟩ := bindS h
    refine WL.qn (y_indexAddr e41 rfl (Le.refl _) rfl (idx_nonneg hx104) (idx_row E2_eq hx104) rfl) rfl ?_
    refine WL.qn (y_loadc rfl a2 rfl) rfl ?_
    refine WL.as rfl rfl ?_
    refine WL.as rfl rfl ?_
    refine WL.ns ?_
    refine wc_seq ?_
    refine wc_region_draw (by kernel_rfl) (by kernel_rfl) ?_
    refine WQ.qn (y_move rfl) rfl ?_
    refine WQ.qn (y_nilCheckc rfl) rfl ?_
    refine WQ.qn (y_fieldAddrc f104_2 rfl) rfl ?_
    refine WQ.qn (y_fieldAddrc f54_7 rfl) rfl ?_
    refine WQ.qn (y_loadc rfl a3 rfl) rfl ?_
    refine WQ.qn (y_eql rfl rfl) rfl ?_
    refine WQ.qn (y_move rfl) rfl ?_
    obtain ⟨b105, hb105, h⟩ := bindS h
    apply WQ.grp 13 (t := 64) (d := 77) (z := b105)
    ·exact rfl
    ·intro hg64
     have h := condT hb105 hg64
     refine WQ.skips 12 rfl ?_
     refine WQ.qn (y_pick_t rfl rfl) rfl ?_
     obtain rfl := Option.some.inj h
     exact WQ.nil ⟨[_, _, _, _, _, _, _, _, _, _, _, _, _], rfl, rfl, rfl⟩
    ·intro hg64
     have h := condF hb105 hg64
     refine WQ.qy (y_move rfl) rfl rfl rfl ?_
     refine WQ.qy (y_nilCheckc rfl) rfl rfl rfl ?_
     refine WQ.qy (y_fieldAddrc f104_0 rfl) rfl rfl rfl ?_
     refine WQ.qy (y_loadcN rfl a61 s61 rfl) rfl rfl rfl ?_
     refine WQ.qy (y_move rfl) rfl rfl rfl ?_
     refine WQ.qy (y_nilCheckc rfl) rfl rfl rfl ?_
     refine WQ.qy (y_fieldAddrc f104_2 rfl) rfl rfl rfl ?_
     refine WQ.qy (y_fieldAddrc f54_7 rfl) rfl rfl rfl ?_
     refine WQ.qy (y_loadc rfl a3 rfl) rfl rfl rfl ?_
     refine WQ.qy (y_move rfl) rfl rfl rfl ?_
     obtain ⟨r106, hr106, h⟩ := bindS h
     refine WQ.q (YieldsQ.fn rfl rfl rfl rfl rfl (f42_c _ _ _ hr106) ⟨(Le.refl _), (Le.refl _), (Le.refl _), trivial⟩) (Wt.yes rfl rfl rfl) rfl rfl ?_
     refine WQ.qy (y_not rfl) rfl rfl rfl ?_
     refine WQ.qn (y_pick_f rfl rfl) rfl ?_
     obtain rfl := Option.some.inj h
     exact WQ.nil ⟨[_, _, _, _, _, _, _, _, _, _, _, _, _], rfl, rfl, rfl⟩
    refine WQ.qn (y_move rfl) rfl ?_
    obtain ⟨b107, hb107, h⟩ := bindS h
    apply WQ.grp 13 (t := 78) (d := 91) (z := b107)
    ·exact rfl
    ·intro hg78
     have h := condT hb107 hg78
     refine WQ.skips 12 rfl ?_
     refine WQ.qn (y_pick_t rfl rfl) rfl ?_
     obtain rfl := Option.some.inj h
     exact WQ.nil ⟨[_, _, _, _, _, _, _, _, _, _, _, _, _], rfl, rfl, rfl⟩
    ·intro hg78
     have h := condF hb107 hg78
     refine WQ.qy (y_move rfl) rfl rfl rfl ?_
     refine WQ.qy (y_gtr rfl rfl) rfl rfl rfl ?_
     refine WQ.qy (y_move rfl) rfl rfl rfl ?_
     obtain ⟨b108, hb108, h⟩ := bindS h
     apply WQ.grp 9 (t := 81) (d := 90) (z := b108)
     ·exact rfl
     ·intro hg81
      have h := condT hb108 hg81
      refine WQ.qy (y_move rfl) rfl rfl rfl ?_
      refine WQ.qy (y_fieldAddrc f56_5 rfl) rfl rfl rfl ?_
      refine WQ.qy (y_loadc rfl a41 rfl) rfl rfl rfl ?_
      refine WQ.qy (y_move rfl) rfl rfl rfl ?_
      refine WQ.qy (y_sub rfl rfl rfl) rfl rfl rfl ?_
      obtain ⟨x109, hx109, h⟩ := bindS h
      refine WQ.qy (y_indexAddr e41 rfl (Le.refl _) rfl (idx_nonneg hx109) (idx_row E2_eq hx109) rfl) rfl rfl rfl ?_
      refine WQ.qy (y_loadc rfl a2 rfl) rfl rfl rfl ?_
      refine WQ.qy (y_leq rfl rfl) rfl rfl rfl ?_
      refine WQ.qy (y_pick_t rfl rfl) rfl rfl rfl ?_
      obtain rfl := Option.some.inj h
      exact WQ.nil ⟨[_, _, _, _, _, _, _, _, _], rfl, rfl, rfl⟩
     ·intro hg81
      have h := condF hb108 hg81
      refine WQ.skips 8 rfl ?_
      refine WQ.qy (y_pick_f rfl rfl) rfl rfl rfl ?_
      obtain rfl := Option.some.inj h
      exact WQ.nil ⟨[_, _, _, _, _, _, _, _, _], rfl, rfl, rfl⟩
     refine WQ.qn (y_pick_f rfl rfl) rfl ?_
     obtain rfl := Option.some.inj h
     exact WQ.nil ⟨[_, _, _, _, _], rfl, rfl, rfl⟩
    refine WQ.nil ?_
    refine we_seq ?_
    refine wc_cond rfl (fun hc3 => ?_) (fun hc3 => ?_)
    ·replace h := condT h hc3
     refine wc_sr ?_
     refine WL.as rfl rfl ?_
     refine WL.ns ?_
     refine wc_ret ?_
     refine we_blk_ret ?_
     refine we_seq_ret ?_
     refine we_lp_ret ?_
     refine we_blk_ret ?_
     refine we_lp_ret ?_
     obtain rfl := Option.some.inj h
     exact we_ret_fn (rs1 rfl (rv_t rfl)) (Le.refl _)
    ·replace h := condF h hc3
     refine wc_skip ?_
     refine we_blk ?_
     refine we_seq ?_
     refine wc_region ?_
     refine WL.qn (y_add rfl rfl rfl) rfl ?_
     refine WL.mv rfl rfl ?_
     refine WL.nil ?_
     exact we_lp ⟨n, ⟨(IntKind.i64.wrap (t102 + 1)), h, (Sub.cons rfl (Le.refl _) (Sub.cons rfl (Le.refl _) (Sub.cons rfl (Le.refl _) (Sub.cons rfl (Le.refl _) (Sub.cons rfl (Le.refl _) (Sub.nil _)))))), trivial⟩, Nat.lt_succ_self n⟩
   ·replace h := condF h hc2
    refine wc_exit ?_
    refine we_seq_exit ?_
    refine we_lp_exit ?_
    refine we_blk_hit ?_
    exact we_lp ⟨h, (Sub.nil _), trivial⟩
  ·rintro env1 st1 ⟨h, hsub, hst⟩
   subst hk100
   dsimp only at h
   refine WC.sub hsub (WC.weak hst ?_)
   refine wc_sr ?_
   refine WL.as rfl rfl ?_
   refine WL.ns ?_
   refine wc_ret ?_
   obtain rfl := Option.some.inj h
   exact we_ret_fn (rs1 rfl (rv_t rfl)) (Le.refl _)

theorem f85_c (c0 : Checker) {r : Bool} (h : f85 c0 = some r) : Pu Tryd.prog 85 [.pc (R104 c0)] (.b r) := by
 unfold f85 at h
 refine fn_intro Tryd.func85 (by kernel_rfl) rfl rfl rfl (fun φφ ww => ?_)
 refine wc_sr ?_
 refine WL.as rfl rfl ?_
 refine WL.ns ?_
 refine wc_sr ?_
 refine WL.as rfl rfl ?_
 refine WL.nil_os 3 9 1 rfl ?_
 refine WL.ns ?_
 refine wc_sr ?_
 refine WL.mv rfl rfl ?_
 refine WL.qn (y_nilCheckc rfl) rfl ?_
 refine WL.qn (y_fieldAddrc f104_2 rfl) rfl ?_
 refine WL.qn (y_loadcN rfl a54 s54 rfl) rfl ?_
 refine WL.s ((b_alloc z54).does) (Wt.none rfl) rfl rfl ?_
 refine WL.s0 (d_store rfl rfl rfl rfl rfl rfl s54 rfl rfl) (Wt.none rfl) rfl ?_
 refine WL.st (st' := [.os 9 1 0 (List.map (encA E9) []), .row 54 [.d (D.i .u8 c0.y.kind), .d (D.s c0.y.name), .d (D.i .i64 c0.y.parent), .d (D.i .i64 c0.y.first), .d (.sl (List.map E9 c0.y.lits)), .d (D.i .i64 c0.y.index), .d (D.i .i64 c0.y.elem), .d (D.i .i64 c0.y.disc), .d (D.s c0.y.discName), .d (D.b c0.y.has), .d (D.i .i64 c0.y.default_), .d (.sl (List.map E56 c0.y.comps)), .d (D.i .i64 c0.y.target), .d (D.i .u8 c0.y.formal), .d (D.b c0.y.limited), .d (D.i .i64 c0.y.priv), .d (D.i .i64 c0.y.full), .d (D.i .i64 c0.y.level)]]) rfl ?_
 refine WL.ns ?_
 replace h := letkS h
 obtain ⟨k109, hk109, h⟩ := h
 refine wc_cut (fun env' st' => ∃ (l107 : List ByteArray), ∃ (ver108 : Nat), k109 l107 = some r ∧ Sub [(0, .d (.pc (R104 c0))), (3, .os 0 ver108), (4, .pt 1 0)] env' ∧ SLe st' [.os 9 1 ver108 (List.map (encA E9) l107), .row 54 [.d (D.i .u8 c0.y.kind), .d (D.s c0.y.name), .d (D.i .i64 c0.y.parent), .d (D.i .i64 c0.y.first), .d (.sl (List.map E9 c0.y.lits)), .d (D.i .i64 c0.y.index), .d (D.i .i64 c0.y.elem), .d (D.i .i64 c0.y.disc), .d (D.s c0.y.discName), .d (D.b c0.y.has), .d (D.i .i64 c0.y.default_), .d (.sl (List.map E56 c0.y.comps)), .d (D.i .i64 c0.y.target), .d (D.i .u8 c0.y.formal), .d (D.b c0.y.limited), .d (D.i .i64 c0.y.priv), .d (D.i .i64 c0.y.full), .d (D.i .i64 c0.y.level)]]) ?_ ?_
 ·refine wc_sr ?_
  refine WL.qn (y_fieldAddr f54_7 rfl) rfl ?_
  refine WL.qn (y_load rfl rfl a3 rfl) rfl ?_
  refine WL.qn (y_neq rfl rfl) rfl ?_
  refine WL.ns ?_
  refine wc_cond rfl (fun hc1 => ?_) (fun hc1 => ?_)
  ·replace h := condT h hc1
   refine wc_sr ?_
   refine WL.mv rfl rfl ?_
   refine WL.qn (y_fieldAddr f54_8 rfl) rfl ?_
   refine WL.qn (y_load rfl rfl a9 rfl) rfl ?_
   refine WL.s ((NewOs.b (n_buildSlice l50 z9 rfl (by decide) (by decide) rfl rfl rfl (by decide))).does) (Wt.none rfl) rfl rfl ?_
   replace h := guardBS h
   obtain ⟨hgg110, h⟩ := h
   refine WL.s (d_appendL E9 [] [c0.y.discName] l50 z9 rfl (by decide) rfl rfl rfl rfl (Src.own rfl) (fun _ => rfl) (fun _ => rfl) hgg110) (Wt.none rfl) rfl rfl ?_
   refine WL.as rfl rfl ?_
   refine WL.ns ?_
   refine wc_seq ?_
   refine wc_region_draw (by kernel_rfl) (by kernel_rfl) ?_
   refine WQ.qn (y_move rfl) rfl ?_
   refine WQ.qn (y_nilCheckc rfl) rfl ?_
   refine WQ.qn (y_fieldAddrc f104_0 rfl) rfl ?_
   refine WQ.qn (y_loadcN rfl a61 s61 rfl) rfl ?_
   refine WQ.qn (y_fieldAddr f54_7 rfl) rfl ?_
   refine WQ.qn (y_load rfl rfl a3 rfl) rfl ?_
   obtain ⟨r111, hr111, h⟩ := bindS h
   refine WQ.q (YieldsQ.fn rfl rfl rfl rfl rfl (f41_c _ _ _ hr111) ⟨(Le.refl _), (Le.refl _), (Le.refl _), trivial⟩) (Wt.none rfl) rfl rfl ?_
   refine WQ.qn (y_eql rfl rfl) rfl ?_
   refine WQ.qn (y_move rfl) rfl ?_
   obtain ⟨b112, hb112, h⟩ := bindS h
   apply WQ.grp 15 (t := 27) (d := 42) (z := b112)
   ·exact rfl
   ·intro hg27
    have h := condT hb112 hg27
    refine WQ.skips 14 rfl ?_
    refine WQ.qn (y_pick_t rfl rfl) rfl ?_
    obtain rfl := Option.some.inj h
    exact WQ.nil ⟨[_, _, _, _, _, _, _, _, _, _, _, _, _, _, _], rfl, rfl, rfl⟩
   ·intro hg27
    have h := condF hb112 hg27
    refine WQ.qy (y_fieldAddr f54_9 rfl) rfl rfl rfl ?_
    refine WQ.qy (y_load rfl rfl a4 rfl) rfl rfl rfl ?_
    refine WQ.qy (y_move rfl) rfl rfl rfl ?_
    obtain ⟨b113, hb113, h⟩ := bindS h
    apply WQ.grp 11 (t := 30) (d := 41) (z := b113)
    ·exact rfl
    ·intro hg30
     have h := condT hb113 hg30
     refine WQ.qy (y_move rfl) rfl rfl rfl ?_
     refine WQ.qy (y_nilCheckc rfl) rfl rfl rfl ?_
     refine WQ.qy (y_fieldAddrc f104_0 rfl) rfl rfl rfl ?_
     refine WQ.qy (y_loadcN rfl a61 s61 rfl) rfl rfl rfl ?_
     refine WQ.qy (y_fieldAddr f54_7 rfl) rfl rfl rfl ?_
     refine WQ.qy (y_load rfl rfl a3 rfl) rfl rfl rfl ?_
     refine WQ.qy (y_fieldAddr f54_10 rfl) rfl rfl rfl ?_
     refine WQ.qy (y_load rfl rfl a2 rfl) rfl rfl rfl ?_
     obtain ⟨r114, hr114, h⟩ := bindS h
     refine WQ.q (YieldsQ.fn rfl rfl rfl rfl rfl (f42_c _ _ _ hr114) ⟨(Le.refl _), (Le.refl _), (Le.refl _), trivial⟩) (Wt.yes rfl rfl rfl) rfl rfl ?_
     refine WQ.qy (y_not rfl) rfl rfl rfl ?_
     refine WQ.qy (y_pick_t rfl rfl) rfl rfl rfl ?_
     obtain rfl := Option.some.inj h
     exact WQ.nil ⟨[_, _, _, _, _, _, _, _, _, _, _], rfl, rfl, rfl⟩
    ·intro hg30
     have h := condF hb113 hg30
     refine WQ.skips 10 rfl ?_
     refine WQ.qy (y_pick_f rfl rfl) rfl rfl rfl ?_
     obtain rfl := Option.some.inj h
     exact WQ.nil ⟨[_, _, _, _, _, _, _, _, _, _, _], rfl, rfl, rfl⟩
    refine WQ.qn (y_pick_f rfl rfl) rfl ?_
    obtain rfl := Option.some.inj h
    exact WQ.nil ⟨[_, _, _, _, _], rfl, rfl, rfl⟩
   refine WQ.qn (y_move rfl) rfl ?_
   apply WQ.or 7 (t := 43) (d := 50)
   ·exact rfl
   ·intro hg43
    refine WQ.qy (y_move rfl) rfl rfl rfl ?_
    refine WQ.qy (y_nilCheckc rfl) rfl rfl rfl ?_
    refine WQ.qy (y_fieldAddrc f104_3 rfl) rfl rfl rfl ?_
    refine WQ.qy (y_fieldAddrc f40_1 rfl) rfl rfl rfl ?_
    refine WQ.qy (y_loadc rfl a2 rfl) rfl rfl rfl ?_
    refine WQ.qy (y_neq rfl rfl) rfl rfl rfl ?_
    refine WQ.qn (y_pick_f rfl rfl) rfl ?_
    exact WQ.nil ⟨[_, _, _, _, _, _, _], rfl, rfl, rfl⟩
   ·refine WQ.skips 6 rfl ?_
    refine WQ.qn (y_pick_t rfl rfl) rfl ?_
    exact WQ.nil ⟨[_, _, _, _, _, _, _], rfl, rfl, rfl⟩
   refine WQ.qn (y_move rfl) rfl ?_
   apply WQ.or 7 (t := 51) (d := 58)
   ·exact rfl
   ·intro hg51
    refine WQ.qy (y_move rfl) rfl rfl rfl ?_
    refine WQ.qy (y_nilCheckc rfl) rfl rfl rfl ?_
    refine WQ.qy (y_fieldAddrc f104_3 rfl) rfl rfl rfl ?_
    refine WQ.qy (y_fieldAddrc f40_2 rfl) rfl rfl rfl ?_
    refine WQ.qy (y_loadc rfl a2 rfl) rfl rfl rfl ?_
    refine WQ.qy (y_neq rfl rfl) rfl rfl rfl ?_
    refine WQ.qn (y_pick_f rfl rfl) rfl ?_
    exact WQ.nil ⟨[_, _, _, _, _, _, _], rfl, rfl, rfl⟩
   ·refine WQ.skips 6 rfl ?_
    refine WQ.qn (y_pick_t rfl rfl) rfl ?_
    exact WQ.nil ⟨[_, _, _, _, _, _, _], rfl, rfl, rfl⟩
   refine WQ.nil ?_
   refine we_seq ?_
   refine wc_cond rfl (fun hc2 => ?_) (fun hc2 => ?_)
   ·replace h := condT h hc2
    refine wc_sr ?_
    refine WL.as rfl rfl ?_
    refine WL.ns ?_
    refine wc_ret ?_
    refine we_lp_ret ?_
    obtain rfl := Option.some.inj h
    exact we_ret_fn (rs1 rfl (rv_t rfl)) (Le.refl _)
   ·replace h := condF h hc2
    refine wc_skip ?_
    refine WE.drop 2 (env' := [(0, .d (.pc (R104 c0))), (3, .os 0 1), (4, .pt 1 0)]) (Sub.one rfl (Sub.one rfl (Sub.one rfl (Sub.nil _)))) rfl (stLt_cons (lt_os _ _ _ _ _ _) (stLt_cons rfl rfl)) (Nat.zero_le _) ?_
    exact we_lp ⟨([] ++ [c0.y.discName]), _, h, (Sub.cons rfl (Le.refl _) (Sub.cons rfl (Le.refl _) (Sub.cons rfl (Le.refl _) (Sub.nil _)))), ⟨⟨rfl, rfl, rfl, rfl⟩, ⟨rfl, ⟨(Le.refl _), (Le.refl _), (Le.refl _), (Le.refl _), (Le.refl _), (Le.refl _), (Le.refl _), (Le.refl _), (Le.refl _), (Le.refl _), (Le.refl _), (Le.refl _), (Le.refl _), (Le.refl _), (Le.refl _), (Le.refl _), (Le.refl _), (Le.refl _), trivial⟩⟩, trivial⟩⟩
  ·replace h := condF h hc1
   refine wc_sr ?_
   refine WL.qn (y_fieldAddr f54_8 rfl) rfl ?_
   refine WL.qn (y_load rfl rfl a9 rfl) rfl ?_
   refine WL.qn (y_nes rfl rfl) rfl ?_
   refine WL.mv rfl rfl ?_
   apply WL.or 3 (t := 62) (d := 65)
   ·exact rfl
   ·intro hg62
    refine WL.qy (y_fieldAddr f54_9 rfl) rfl rfl rfl ?_
    refine WL.qy (y_load rfl rfl a4 rfl) rfl rfl rfl ?_
    refine WL.qn (y_pick_f rfl rfl) rfl ?_
    exact WL.nil ⟨rfl, [_, _, _], rfl, rfl, rfl⟩
   ·refine WL.skips 2 rfl ?_
    refine WL.qn (y_pick_t rfl rfl) rfl ?_
    exact WL.nil ⟨rfl, [_, _, _], rfl, rfl, rfl⟩
   refine WL.ns ?_
   refine wc_cond rfl (fun hc3 => ?_) (fun hc3 => ?_)
   ·replace h := condT h hc3
    refine wc_sr ?_
    refine WL.as rfl rfl ?_
    refine WL.ns ?_
    refine wc_ret ?_
    refine we_lp_ret ?_
    obtain rfl := Option.some.inj h
    exact we_ret_fn (rs1 rfl (rv_t rfl)) (Le.refl _)
   ·replace h := condF h hc3
    refine wc_skip ?_
    exact we_lp ⟨[], _, h, (Sub.cons rfl (Le.refl _) (Sub.cons rfl (Le.refl _) (Sub.cons rfl (Le.refl _) (Sub.nil _)))), ⟨⟨rfl, rfl, rfl, rfl⟩, ⟨rfl, ⟨(Le.refl _), (Le.refl _), (Le.refl _), (Le.refl _), (Le.refl _), (Le.refl _), (Le.refl _), (Le.refl _), (Le.refl _), (Le.refl _), (Le.refl _), (Le.refl _), (Le.refl _), (Le.refl _), (Le.refl _), (Le.refl _), (Le.refl _), (Le.refl _), trivial⟩⟩, trivial⟩⟩
 ·rintro env1 st1 ⟨l107, ver108, h, hsub, hst⟩
  subst hk109
  dsimp only at h
  refine WC.sub hsub (WC.weak hst ?_)
  replace h := letkS h
  obtain ⟨k117, hk117, h⟩ := h
  refine wc_cut (fun env' st' => ∃ (l115 : List ByteArray), ∃ (ver116 : Nat), k117 l115 = some r ∧ Sub [(3, .os 0 ver116), (4, .pt 1 0)] env' ∧ SLe st' [.os 9 1 ver116 (List.map (encA E9) l115), .row 54 [.d (D.i .u8 c0.y.kind), .d (D.s c0.y.name), .d (D.i .i64 c0.y.parent), .d (D.i .i64 c0.y.first), .d (.sl (List.map E9 c0.y.lits)), .d (D.i .i64 c0.y.index), .d (D.i .i64 c0.y.elem), .d (D.i .i64 c0.y.disc), .d (D.s c0.y.discName), .d (D.b c0.y.has), .d (D.i .i64 c0.y.default_), .d (.sl (List.map E56 c0.y.comps)), .d (D.i .i64 c0.y.target), .d (D.i .u8 c0.y.formal), .d (D.b c0.y.limited), .d (D.i .i64 c0.y.priv), .d (D.i .i64 c0.y.full), .d (D.i .i64 c0.y.level)]]) ?_ ?_
  ·refine wc_sr ?_
   refine WL.qn (y_fieldAddr f54_11 rfl) rfl ?_
   refine WL.qn (y_load rfl rfl a51 rfl) rfl ?_
   refine WL.qn (y_len_map E56 c0.y.comps e51 rfl rfl (Le.refl _)) rfl ?_
   refine WL.mv rfl rfl ?_
   refine WL.ns ?_
   refine wc_block ?_
   refine wc_loop (fun n env' st' => ∃ (t121 : Int), ∃ (l122 : List ByteArray), ∃ (ver123 : Nat), f85_l1 c0 k117 n t121 l122 = some r ∧ Sub [(0, .d (.pc (R104 c0))), (3, .os 0 ver123), (4, .pt 1 0), (67, .d (.sl (List.map E56 c0.y.comps))), (68, .d (D.i .i64 (List.length c0.y.comps : Int))), (69, .d (D.i .i64 t121))] env' ∧ SLe st' [.os 9 1 ver123 (List.map (encA E9) l122), .row 54 [.d (D.i .u8 c0.y.kind), .d (D.s c0.y.name), .d (D.i .i64 c0.y.parent), .d (D.i .i64 c0.y.first), .d (.sl (List.map E9 c0.y.lits)), .d (D.i .i64 c0.y.index), .d (D.i .i64 c0.y.elem), .d (D.i .i64 c0.y.disc), .d (D.s c0.y.discName), .d (D.b c0.y.has), .d (D.i .i64 c0.y.default_), .d (.sl (List.map E56 c0.y.comps)), .d (D.i .i64 c0.y.target), .d (D.i .u8 c0.y.formal), .d (D.b c0.y.limited), .d (D.i .i64 c0.y.priv), .d (D.i .i64 c0.y.full), .d (D.i .i64 c0.y.level)]]) (fun n => n) (Int.toNat ((List.length c0.y.comps : Int) - 0) + 1) ⟨0, l107, _, h, (Sub.cons rfl (Le.refl _) (Sub.cons rfl (Le.refl _) (Sub.cons rfl (Le.refl _) (Sub.cons rfl (Le.refl _) (Sub.cons rfl (Le.refl _) (Sub.cons rfl (Le.refl _) (Sub.nil _))))))), ⟨⟨rfl, rfl, rfl, rfl⟩, ⟨rfl, ⟨(Le.refl _), (Le.refl _), (Le.refl _), (Le.refl _), (Le.refl _), (Le.refl _), (Le.refl _), (Le.refl _), (Le.refl _), (Le.refl _), (Le.refl _), (Le.refl _), (Le.refl _), (Le.refl _), (Le.refl _), (Le.refl _), (Le.refl _), (Le.refl _), trivial⟩⟩, trivial⟩⟩ ?_
   rintro n env1 st1 ⟨t121, l122, ver123, h, hsub, hst⟩
   cases n with
   | zero => rw [f85_l1] at h; cases h
   | succ n =>
   rw [f85_l1] at h
   refine WC.sub hsub (WC.weak hst ?_)
   refine wc_sr ?_
   refine WL.qn (y_lss rfl rfl) rfl ?_
   refine WL.ns ?_
   refine wc_seq ?_
   refine wc_cond rfl (fun hc4 => ?_) (fun hc4 => ?_)
   ·replace h := condT h hc4
    refine wc_skip ?_
    refine we_seq ?_
    refine wc_seq ?_
    refine wc_block ?_
    refine wc_sr ?_
    obtain ⟨x127, hx127, h⟩ := bindS h
    refine WL.qn (y_indexAddr e51 rfl (Le.refl _) rfl (idx_nonneg hx127) (idx_row E56_eq hx127) rfl) rfl ?_
    refine WL.qn (y_loadcN rfl a56 s56 rfl) rfl ?_
    refine WL.s ((b_alloc z56).does) (Wt.none rfl) rfl rfl ?_
    refine WL.s0 (d_store rfl rfl rfl rfl rfl rfl s56 rfl rfl) (Wt.none rfl) rfl ?_
    refine WL.st (st' := [.os 9 1 ver123 (List.map (encA E9) l122), .row 54 [.d (D.i .u8 c0.y.kind), .d (D.s c0.y.name), .d (D.i .i64 c0.y.parent), .d (D.i .i64 c0.y.first), .d (.sl (List.map E9 c0.y.lits)), .d (D.i .i64 c0.y.index), .d (D.i .i64 c0.y.elem), .d (D.i .i64 c0.y.disc), .d (D.s c0.y.discName), .d (D.b c0.y.has), .d (D.i .i64 c0.y.default_), .d (.sl (List.map E56 c0.y.comps)), .d (D.i .i64 c0.y.target), .d (D.i .u8 c0.y.formal), .d (D.b c0.y.limited), .d (D.i .i64 c0.y.priv), .d (D.i .i64 c0.y.full), .d (D.i .i64 c0.y.level)], .row 56 [.d (D.s x127.name), .d (D.i .i64 x127.sub), .d (D.b x127.has), .d (D.i .i64 x127.default_), .d (D.b x127.variant), .d (.sl (List.map E2 x127.when))]]) rfl ?_
    refine WL.ns ?_
    refine wc_sr ?_
    refine WL.mv rfl rfl ?_
    refine WL.qn (y_fieldAddr f56_0 rfl) rfl ?_
    refine WL.qn (y_load rfl rfl a9 rfl) rfl ?_
    refine WL.s ((NewOs.b (n_buildSlice l50 z9 rfl (by decide) (by decide) rfl rfl rfl (by decide))).does) (Wt.none rfl) rfl rfl ?_
    replace h := guardBS h
    obtain ⟨hgg128, h⟩ := h
    refine WL.s (d_appendL E9 l122 [x127.name] l50 z9 rfl (by decide) rfl rfl rfl rfl (Src.own rfl) (fun _ => rfl) (fun _ => rfl) hgg128) (Wt.none rfl) rfl rfl ?_
    refine WL.as rfl rfl ?_
    refine WL.ns ?_
    refine wc_sr ?_
    refine WL.mv rfl rfl ?_
    refine WL.qn (y_loadN rfl rfl a56 s56 rfl) rfl ?_
    obtain ⟨r129, hr129, h⟩ := bindS h
    refine WL.fn rfl rfl rfl rfl (f102_c _ _ hr129) ⟨(Le.refl _), (Le.agd ⟨(Le.refl _), (Le.refl _), (Le.refl _), (Le.refl _), (Le.refl _), (Le.refl _), trivial⟩), trivial⟩ (Wt.none rfl) rfl rfl ?_
    refine WL.qn (y_not rfl) rfl ?_
    refine WL.ns ?_
    refine wc_cond rfl (fun hc5 => ?_) (fun hc5 => ?_)
    ·replace h := condT h hc5
     refine wc_sr ?_
     refine WL.as rfl rfl ?_
     refine WL.ns ?_
     refine wc_ret ?_
     refine we_blk_ret ?_
     refine we_seq_ret ?_
     refine we_lp_ret ?_
     refine we_blk_ret ?_
     refine we_lp_ret ?_
     obtain rfl := Option.some.inj h
     exact we_ret_fn (rs1 rfl (rv_t rfl)) (Le.refl _)
    ·replace h := condF h hc5
     refine wc_skip ?_
     refine we_blk ?_
     refine we_seq ?_
     refine wc_region ?_
     refine WL.qn (y_add rfl rfl rfl) rfl ?_
     refine WL.mv rfl rfl ?_
     refine WL.nil ?_
     refine WE.drop 2 (env' := [(0, .d (.pc (R104 c0))), (3, .os 0 (ver123 + 1)), (4, .pt 1 0), (67, .d (.sl (List.map E56 c0.y.comps))), (68, .d (D.i .i64 (List.length c0.y.comps : Int))), (69, .d (D.i .i64 (IntKind.i64.wrap (t121 + 1))))]) (Sub.one rfl (Sub.one rfl (Sub.one rfl (Sub.one rfl (Sub.one rfl (Sub.one rfl (Sub.nil _))))))) rfl (stLt_cons (lt_os _ _ _ _ _ _) (stLt_cons rfl rfl)) (Nat.zero_le _) ?_
     exact we_lp ⟨n, ⟨(IntKind.i64.wrap (t121 + 1)), (l122 ++ [x127.name]), _, h, (Sub.cons rfl (Le.refl _) (Sub.cons rfl (Le.refl _) (Sub.cons rfl (Le.refl _) (Sub.cons rfl (Le.refl _) (Sub.cons rfl (Le.refl _) (Sub.cons rfl (Le.refl _) (Sub.nil _))))))), ⟨⟨rfl, rfl, rfl, rfl⟩, ⟨rfl, ⟨(Le.refl _), (Le.refl _), (Le.refl _), (Le.refl _), (Le.refl _), (Le.refl _), (Le.refl _), (Le.refl _), (Le.refl _), (Le.refl _), (Le.refl _), (Le.refl _), (Le.refl _), (Le.refl _), (Le.refl _), (Le.refl _), (Le.refl _), (Le.refl _), trivial⟩⟩, trivial⟩⟩, Nat.lt_succ_self n⟩
   ·replace h := condF h hc4
    refine wc_exit ?_
    refine we_seq_exit ?_
    refine we_lp_exit ?_
    refine we_blk_hit ?_
    exact we_lp ⟨l122, _, h, (Sub.cons rfl (Le.refl _) (Sub.cons rfl (Le.refl _) (Sub.nil _))), ⟨⟨rfl, rfl, rfl, rfl⟩, ⟨rfl, ⟨(Le.refl _), (Le.refl _), (Le.refl _), (Le.refl _), (Le.refl _), (Le.refl _), (Le.refl _), (Le.refl _), (Le.refl _), (Le.refl _), (Le.refl _), (Le.refl _), (Le.refl _), (Le.refl _), (Le.refl _), (Le.refl _), (Le.refl _), (Le.refl _), trivial⟩⟩, trivial⟩⟩
  ·rintro env1 st1 ⟨l115, ver116, h, hsub, hst⟩
   subst hk117
   dsimp only at h
   refine WC.sub hsub (WC.weak hst ?_)
   refine wc_sr ?_
   refine WL.mv rfl rfl ?_
   refine WL.qn (y_len_osmap (encA E9) l115 e50 rfl rfl rfl) rfl ?_
   refine WL.qn (y_gtr rfl rfl) rfl ?_
   refine WL.mv rfl rfl ?_
   apply WL.and 5 (t := 86) (d := 91)
   ·exact rfl
   ·intro hg86
    refine WL.qy (y_fieldAddr f54_11 rfl) rfl rfl rfl ?_
    refine WL.qy (y_load rfl rfl a51 rfl) rfl rfl rfl ?_
    refine WL.qy (y_len_map E56 c0.y.comps e51 rfl rfl (Le.refl _)) rfl rfl rfl ?_
    refine WL.qy (y_leq rfl rfl) rfl rfl rfl ?_
    refine WL.qn (y_pick_t rfl rfl) rfl ?_
    exact WL.nil ⟨rfl, [_, _, _, _, _], rfl, rfl, rfl⟩
   ·refine WL.skips 4 rfl ?_
    refine WL.qn (y_pick_f rfl rfl) rfl ?_
    exact WL.nil ⟨rfl, [_, _, _, _, _], rfl, rfl, rfl⟩
   refine WL.mv rfl rfl ?_
   refine WL.freezeX [3, 83] [] 0 (List.map E9 l115) rfl (encA_map E9_eq l115) ⟨rfl, rfl, trivial⟩ trivial ?_
   obtain ⟨b130, hb130, h⟩ := bindS h
   apply WL.grp 3 (t := 92) (d := 95) (z := b130)
   ·exact rfl
   ·intro hg92
    have h := condT hb130 hg92
    refine WL.qy (y_move rfl) rfl rfl rfl ?_
    obtain ⟨r131, hr131, h⟩ := bindS h
    refine WL.fn rfl rfl rfl rfl (f100_c _ hr131) ⟨(Le.refl _), trivial⟩ (Wt.yes rfl rfl rfl) rfl rfl ?_
    refine WL.qn (y_pick_t rfl rfl) rfl ?_
    obtain rfl := Option.some.inj h
    exact WL.nil ⟨rfl, [_, _, _], rfl, rfl, rfl⟩
   ·intro hg92
    have h := condF hb130 hg92
    refine WL.skips 2 rfl ?_
    refine WL.qn (y_pick_f rfl rfl) rfl ?_
    obtain rfl := Option.some.inj h
    exact WL.nil ⟨rfl, [_, _, _], rfl, rfl, rfl⟩
   refine WL.mv rfl rfl ?_
   apply WL.and 8 (t := 96) (d := 104)
   ·exact rfl
   ·intro hg96
    refine WL.qy (y_fieldAddr f54_9 rfl) rfl rfl rfl ?_
    refine WL.qy (y_load rfl rfl a4 rfl) rfl rfl rfl ?_
    refine WL.qy (y_move rfl) rfl rfl rfl ?_
    apply WL.or 4 (t := 99) (d := 103)
    ·exact rfl
    ·intro hg99
     refine WL.qy (y_fieldAddr f54_10 rfl) rfl rfl rfl ?_
     refine WL.qy (y_load rfl rfl a2 rfl) rfl rfl rfl ?_
     refine WL.qy (y_eql rfl rfl) rfl rfl rfl ?_
     refine WL.qy (y_pick_f rfl rfl) rfl rfl rfl ?_
     exact WL.nil ⟨rfl, [_, _, _, _], rfl, rfl, rfl⟩
    ·refine WL.skips 3 rfl ?_
     refine WL.qy (y_pick_t rfl rfl) rfl rfl rfl ?_
     exact WL.nil ⟨rfl, [_, _, _, _], rfl, rfl, rfl⟩
    refine WL.qn (y_pick_t rfl rfl) rfl ?_
    exact WL.nil ⟨rfl, [_, _, _, _, _], rfl, rfl, rfl⟩
   ·refine WL.skips 7 rfl ?_
    refine WL.qn (y_pick_f rfl rfl) rfl ?_
    exact WL.nil ⟨rfl, [_, _, _, _, _, _, _, _], rfl, rfl, rfl⟩
   refine WL.as rfl rfl ?_
   refine WL.ns ?_
   refine wc_ret ?_
   obtain rfl := Option.some.inj h
   exact we_ret_fn (rs1 rfl (rv_t rfl)) (Le.refl _)

theorem f86_c (c0 : Checker) {r : Bool} (h : f86 c0 = some r) : Pu Tryd.prog 86 [.pc (R104 c0)] (.b r) := by
 unfold f86 at h
 refine fn_intro Tryd.func86 (by kernel_rfl) rfl rfl rfl (fun φφ ww => ?_)
 refine wc_sr ?_
 refine WL.as rfl rfl ?_
 refine WL.ns ?_
 refine wc_seq ?_
 refine wc_region_draw (by kernel_rfl) (by kernel_rfl) ?_
 refine WQ.qn (y_move rfl) rfl ?_
 refine WQ.qn (y_nilCheckc rfl) rfl ?_
 refine WQ.qn (y_fieldAddrc f104_0 rfl) rfl ?_
 refine WQ.qn (y_loadcN rfl a61 s61 rfl) rfl ?_
 refine WQ.qn (y_move rfl) rfl ?_
 refine WQ.qn (y_nilCheckc rfl) rfl ?_
 refine WQ.qn (y_fieldAddrc f104_2 rfl) rfl ?_
 refine WQ.qn (y_fieldAddrc f54_12 rfl) rfl ?_
 refine WQ.qn (y_loadc rfl a3 rfl) rfl ?_
 obtain ⟨r35, hr35, h⟩ := bindS h
 refine WQ.q (YieldsQ.fn rfl rfl rfl rfl rfl (f43_c _ _ hr35) ⟨(Le.refl _), (Le.refl _), trivial⟩) (Wt.none rfl) rfl rfl ?_
 refine WQ.qn (y_move rfl) rfl ?_
 refine WQ.qn (y_extractd rfl rfl) rfl ?_
 refine WQ.qn (y_extractd rfl rfl) rfl ?_
 refine WQ.qn (y_extractd rfl rfl) rfl ?_
 refine WQ.qn (y_assign rfl) rfl ?_
 refine WQ.qn (y_assign rfl) rfl ?_
 refine WQ.qn (y_assign rfl) rfl ?_
 refine WQ.nil ?_
 refine we_seq ?_
 refine wc_seq ?_
 refine wc_region_draw (by kernel_rfl) (by kernel_rfl) ?_
 refine WQ.qn (y_move rfl) rfl ?_
 refine WQ.qn (y_move rfl) rfl ?_
 obtain ⟨b36, hb36, h⟩ := bindS h
 apply WQ.grp 11 (t := 21) (d := 32) (z := b36)
 ·exact rfl
 ·intro hg21
  have h := condT hb36 hg21
  refine WQ.qy (y_move rfl) rfl rfl rfl ?_
  refine WQ.qy (y_nilCheckc rfl) rfl rfl rfl ?_
  refine WQ.qy (y_fieldAddrc f104_0 rfl) rfl rfl rfl ?_
  refine WQ.qy (y_loadcN rfl a61 s61 rfl) rfl rfl rfl ?_
  refine WQ.qy (y_move rfl) rfl rfl rfl ?_
  refine WQ.qy (y_nilCheckc rfl) rfl rfl rfl ?_
  refine WQ.qy (y_fieldAddrc f104_2 rfl) rfl rfl rfl ?_
  refine WQ.qy (y_fieldAddrc f54_12 rfl) rfl rfl rfl ?_
  refine WQ.qy (y_loadc rfl a3 rfl) rfl rfl rfl ?_
  obtain ⟨r37, hr37, h⟩ := bindS h
  refine WQ.q (YieldsQ.fn rfl rfl rfl rfl rfl (f101_c _ _ hr37) ⟨(Le.refl _), (Le.refl _), trivial⟩) (Wt.yes rfl rfl rfl) rfl rfl ?_
  refine WQ.qn (y_pick_t rfl rfl) rfl ?_
  obtain rfl := Option.some.inj h
  exact WQ.nil ⟨[_, _, _, _, _, _, _, _, _, _, _], rfl, rfl, rfl⟩
 ·intro hg21
  have h := condF hb36 hg21
  refine WQ.skips 10 rfl ?_
  refine WQ.qn (y_pick_f rfl rfl) rfl ?_
  obtain rfl := Option.some.inj h
  exact WQ.nil ⟨[_, _, _, _, _, _, _, _, _, _, _], rfl, rfl, rfl⟩
 refine WQ.qn (y_assign rfl) rfl ?_
 refine WQ.nil ?_
 refine we_seq ?_
 refine wc_ret ?_
 obtain rfl := Option.some.inj h
 exact we_ret_fn (rs1 rfl (rv_t rfl)) (Le.refl _)

theorem f87_c (c0 : Checker) : Pu Tryd.prog 87 [.pc (R104 c0)] (.b (f87 c0)) := by
 generalize h : f87 c0 = r
 unfold f87 at h
 refine fn_intro Tryd.func87 (by kernel_rfl) rfl rfl rfl (fun φφ ww => ?_)
 refine wc_sr ?_
 refine WL.as rfl rfl ?_
 refine WL.ns ?_
 refine wc_sr ?_
 refine WL.mv rfl rfl ?_
 refine WL.qn (y_nilCheckc rfl) rfl ?_
 refine WL.qn (y_fieldAddrc f104_2 rfl) rfl ?_
 refine WL.qn (y_fieldAddrc f54_13 rfl) rfl ?_
 refine WL.qn (y_loadc rfl a52 rfl) rfl ?_
 refine WL.qn (y_eql rfl rfl) rfl ?_
 refine WL.as rfl rfl ?_
 refine WL.ns ?_
 refine wc_ret ?_
 subst h
 exact we_ret_fn (rs1 rfl (rv_t rfl)) (Le.refl _)

theorem f68_c (t0 : View) (ty1 : Int) {r : Bool} (h : f68 t0 ty1 = some r) : Pu Tryd.prog 68 [.ag (R61 t0), .i .i64 ty1] (.b r) := by
 unfold f68 at h
 refine fn_intro Tryd.func68 (by kernel_rfl) rfl rfl rfl (fun φφ ww => ?_)
 refine wc_sr ?_
 refine WL.s ((b_boxd rfl rfl (Les.refl _)).does) (Wt.none rfl) rfl rfl ?_
 refine WL.as rfl rfl ?_
 refine WL.ns ?_
 refine wc_sr ?_
 refine WL.qn (y_fieldAddrc f61_0 rfl) rfl ?_
 refine WL.qn (y_fieldAddrc f28_0 rfl) rfl ?_
 refine WL.qn (y_loadc rfl a22 rfl) rfl ?_
 refine WL.mv rfl rfl ?_
 obtain ⟨x113, hx113, h⟩ := bindS h
 refine WL.qn (y_indexAddr e22 rfl (Le.refl _) rfl (idx_nonneg hx113) (idx_row E54_eq hx113) rfl) rfl ?_
 refine WL.qn (y_loadcN rfl a54 s54 rfl) rfl ?_
 refine WL.s ((b_alloc z54).does) (Wt.none rfl) rfl rfl ?_
 refine WL.s0 (d_store rfl rfl rfl rfl rfl rfl s54 rfl rfl) (Wt.none rfl) rfl ?_
 refine WL.st (st' := [.row 54 [.d (D.i .u8 x113.kind), .d (D.s x113.name), .d (D.i .i64 x113.parent), .d (D.i .i64 x113.first), .d (.sl (List.map E9 x113.lits)), .d (D.i .i64 x113.index), .d (D.i .i64 x113.elem), .d (D.i .i64 x113.disc), .d (D.s x113.discName), .d (D.b x113.has), .d (D.i .i64 x113.default_), .d (.sl (List.map E56 x113.comps)), .d (D.i .i64 x113.target), .d (D.i .u8 x113.formal), .d (D.b x113.limited), .d (D.i .i64 x113.priv), .d (D.i .i64 x113.full), .d (D.i .i64 x113.level)]]) rfl ?_
 refine WL.ns ?_
 refine wc_sr ?_
 refine WL.qn (y_fieldAddrc f61_0 rfl) rfl ?_
 refine WL.qn (y_fieldAddrc f28_1 rfl) rfl ?_
 refine WL.qn (y_loadc rfl a23 rfl) rfl ?_
 refine WL.qn (y_fieldAddr f54_3 rfl) rfl ?_
 refine WL.qn (y_load rfl rfl a3 rfl) rfl ?_
 obtain ⟨r114, hr114, h⟩ := bindS h
 refine WL.fn rfl rfl rfl rfl (f52_c _ _ hr114) ⟨(Le.refl _), (Le.refl _), trivial⟩ (Wt.none rfl) rfl rfl ?_
 refine WL.mv rfl rfl ?_
 refine WL.qn (y_extractd rfl rfl) rfl ?_
 refine WL.qn (y_extractd rfl rfl) rfl ?_
 refine WL.s ((b_alloc z40).does) (Wt.none rfl) rfl rfl ?_
 refine WL.s0 (d_store rfl rfl rfl rfl rfl rfl s40 rfl rfl) (Wt.none rfl) rfl ?_
 refine WL.as rfl rfl ?_
 refine WL.ns ?_
 refine wc_seq ?_
 refine wc_sr ?_
 refine WL.mv rfl rfl ?_
 refine WL.qn (y_not rfl) rfl ?_
 refine WL.mv rfl rfl ?_
 apply WL.or 5 (t := 29) (d := 34)
 ·exact rfl
 ·intro hg29
  refine WL.qy (y_fieldAddr f40_0 rfl) rfl rfl rfl ?_
  refine WL.qy (y_load rfl rfl a3 rfl) rfl rfl rfl ?_
  refine WL.qy (y_move rfl) rfl rfl rfl ?_
  refine WL.qy (y_neq rfl rfl) rfl rfl rfl ?_
  refine WL.qn (y_pick_f rfl rfl) rfl ?_
  exact WL.nil ⟨rfl, [_, _, _, _, _], rfl, rfl, rfl⟩
 ·refine WL.skips 4 rfl ?_
  refine WL.qn (y_pick_t rfl rfl) rfl ?_
  exact WL.nil ⟨rfl, [_, _, _, _, _], rfl, rfl, rfl⟩
 refine WL.mv rfl rfl ?_
 apply WL.or 4 (t := 35) (d := 39)
 ·exact rfl
 ·intro hg35
  refine WL.qy (y_loadN rfl rfl a54 s54 rfl) rfl rfl rfl ?_
  refine WL.fn rfl rfl rfl rfl (f66_c _) ⟨(Le.agd ⟨(Le.refl _), (Le.refl _), (Le.refl _), (Le.refl _), (Le.refl _), (Le.refl _), (Le.refl _), (Le.refl _), (Le.refl _), (Le.refl _), (Le.refl _), (Le.refl _), (Le.refl _), (Le.refl _), (Le.refl _), (Le.refl _), (Le.refl _), (Le.refl _), trivial⟩), trivial⟩ (Wt.yes rfl rfl rfl) rfl rfl ?_
  refine WL.qy (y_not rfl) rfl rfl rfl ?_
  refine WL.qn (y_pick_f rfl rfl) rfl ?_
  exact WL.nil ⟨rfl, [_, _, _, _], rfl, rfl, rfl⟩
 ·refine WL.skips 3 rfl ?_
  refine WL.qn (y_pick_t rfl rfl) rfl ?_
  exact WL.nil ⟨rfl, [_, _, _, _], rfl, rfl, rfl⟩
 refine WL.mv rfl rfl ?_
 obtain ⟨b115, hb115, h⟩ := bindS h
 apply WL.grp 5 (t := 40) (d := 45) (z := b115)
 ·exact rfl
 ·intro hg40
  have h := condT hb115 hg40
  refine WL.skips 4 rfl ?_
  refine WL.qn (y_pick_t rfl rfl) rfl ?_
  obtain rfl := Option.some.inj h
  exact WL.nil ⟨rfl, [_, _, _, _, _], rfl, rfl, rfl⟩
 ·intro hg40
  have h := condF hb115 hg40
  refine WL.qy (y_fieldAddr f54_1 rfl) rfl rfl rfl ?_
  refine WL.qy (y_load rfl rfl a9 rfl) rfl rfl rfl ?_
  obtain ⟨r116, hr116, h⟩ := bindS h
  refine WL.fn rfl rfl rfl rfl (f81_c _ hr116) ⟨(Le.refl _), trivial⟩ (Wt.yes rfl rfl rfl) rfl rfl ?_
  refine WL.qy (y_not rfl) rfl rfl rfl ?_
  refine WL.qn (y_pick_f rfl rfl) rfl ?_
  obtain rfl := Option.some.inj h
  exact WL.nil ⟨rfl, [_, _, _, _, _], rfl, rfl, rfl⟩
 refine WL.mv rfl rfl ?_
 apply WL.or 4 (t := 46) (d := 50)
 ·exact rfl
 ·intro hg46
  refine WL.qy (y_fieldAddr f54_17 rfl) rfl rfl rfl ?_
  refine WL.qy (y_load rfl rfl a3 rfl) rfl rfl rfl ?_
  refine WL.qy (y_lss rfl rfl) rfl rfl rfl ?_
  refine WL.qn (y_pick_f rfl rfl) rfl ?_
  exact WL.nil ⟨rfl, [_, _, _, _], rfl, rfl, rfl⟩
 ·refine WL.skips 3 rfl ?_
  refine WL.qn (y_pick_t rfl rfl) rfl ?_
  exact WL.nil ⟨rfl, [_, _, _, _], rfl, rfl, rfl⟩
 refine WL.mv rfl rfl ?_
 apply WL.or 4 (t := 51) (d := 55)
 ·exact rfl
 ·intro hg51
  refine WL.qy (y_fieldAddr f54_15 rfl) rfl rfl rfl ?_
  refine WL.qy (y_load rfl rfl a3 rfl) rfl rfl rfl ?_
  refine WL.qy (y_lss rfl rfl) rfl rfl rfl ?_
  refine WL.qn (y_pick_f rfl rfl) rfl ?_
  exact WL.nil ⟨rfl, [_, _, _, _], rfl, rfl, rfl⟩
 ·refine WL.skips 3 rfl ?_
  refine WL.qn (y_pick_t rfl rfl) rfl ?_
  exact WL.nil ⟨rfl, [_, _, _, _], rfl, rfl, rfl⟩
 refine WL.mv rfl rfl ?_
 apply WL.or 4 (t := 56) (d := 60)
 ·exact rfl
 ·intro hg56
  refine WL.qy (y_fieldAddr f54_16 rfl) rfl rfl rfl ?_
  refine WL.qy (y_load rfl rfl a3 rfl) rfl rfl rfl ?_
  refine WL.qy (y_lss rfl rfl) rfl rfl rfl ?_
  refine WL.qn (y_pick_f rfl rfl) rfl ?_
  exact WL.nil ⟨rfl, [_, _, _, _], rfl, rfl, rfl⟩
 ·refine WL.skips 3 rfl ?_
  refine WL.qn (y_pick_t rfl rfl) rfl ?_
  exact WL.nil ⟨rfl, [_, _, _, _], rfl, rfl, rfl⟩
 refine WL.ns ?_
 refine wc_cond rfl (fun hc1 => ?_) (fun hc1 => ?_)
 ·replace h := condT h hc1
  refine wc_sr ?_
  refine WL.as rfl rfl ?_
  refine WL.ns ?_
  refine wc_ret ?_
  refine we_seq_ret ?_
  obtain rfl := Option.some.inj h
  exact we_ret_fn (rs1 rfl (rv_t rfl)) (Le.refl _)
 ·replace h := condF h hc1
  refine wc_skip ?_
  refine we_seq ?_
  refine wc_seq ?_
  refine wc_sr ?_
  refine WL.qn (y_fieldAddr f54_15 rfl) rfl ?_
  refine WL.qn (y_load rfl rfl a3 rfl) rfl ?_
  refine WL.qn (y_eql rfl rfl) rfl ?_
  refine WL.mv rfl rfl ?_
  apply WL.and 13 (t := 64) (d := 77)
  ·exact rfl
  ·intro hg64
   refine WL.qy (y_fieldAddr f54_16 rfl) rfl rfl rfl ?_
   refine WL.qy (y_load rfl rfl a3 rfl) rfl rfl rfl ?_
   refine WL.qy (y_neq rfl rfl) rfl rfl rfl ?_
   refine WL.qy (y_move rfl) rfl rfl rfl ?_
   apply WL.or 8 (t := 68) (d := 76)
   ·exact rfl
   ·intro hg68
    refine WL.qy (y_fieldAddr f54_14 rfl) rfl rfl rfl ?_
    refine WL.qy (y_load rfl rfl a4 rfl) rfl rfl rfl ?_
    refine WL.qy (y_move rfl) rfl rfl rfl ?_
    apply WL.and 4 (t := 71) (d := 75)
    ·exact rfl
    ·intro hg71
     refine WL.qy (y_fieldAddr f54_0 rfl) rfl rfl rfl ?_
     refine WL.qy (y_load rfl rfl a49 rfl) rfl rfl rfl ?_
     refine WL.qy (y_neq rfl rfl) rfl rfl rfl ?_
     refine WL.qy (y_pick_t rfl rfl) rfl rfl rfl ?_
     exact WL.nil ⟨rfl, [_, _, _, _], rfl, rfl, rfl⟩
    ·refine WL.skips 3 rfl ?_
     refine WL.qy (y_pick_f rfl rfl) rfl rfl rfl ?_
     exact WL.nil ⟨rfl, [_, _, _, _], rfl, rfl, rfl⟩
    refine WL.qy (y_pick_f rfl rfl) rfl rfl rfl ?_
    exact WL.nil ⟨rfl, [_, _, _, _, _], rfl, rfl, rfl⟩
   ·refine WL.skips 7 rfl ?_
    refine WL.qy (y_pick_t rfl rfl) rfl rfl rfl ?_
    exact WL.nil ⟨rfl, [_, _, _, _, _, _, _, _], rfl, rfl, rfl⟩
   refine WL.qn (y_pick_t rfl rfl) rfl ?_
   exact WL.nil ⟨rfl, [_, _, _, _, _, _], rfl, rfl, rfl⟩
  ·refine WL.skips 12 rfl ?_
   refine WL.qn (y_pick_f rfl rfl) rfl ?_
   exact WL.nil ⟨rfl, [_, _, _, _, _, _, _, _, _, _, _, _, _], rfl, rfl, rfl⟩
  refine WL.ns ?_
  refine wc_cond rfl (fun hc2 => ?_) (fun hc2 => ?_)
  ·replace h := condT h hc2
   refine wc_sr ?_
   refine WL.as rfl rfl ?_
   refine WL.ns ?_
   refine wc_ret ?_
   refine we_seq_ret ?_
   obtain rfl := Option.some.inj h
   exact we_ret_fn (rs1 rfl (rv_t rfl)) (Le.refl _)
  ·replace h := condF h hc2
   refine wc_skip ?_
   refine we_seq ?_
   refine wc_sr ?_
   refine WL.qn (y_loadcN rfl a61 s61 rfl) rfl ?_
   refine WL.mv rfl rfl ?_
   refine WL.qn (y_loadN rfl rfl a54 s54 rfl) rfl ?_
   refine WL.qn (y_loadN rfl rfl a40 s40 rfl) rfl ?_
   refine WL.qn (y_build p104 z104 rfl rfl) rfl ?_
   refine WL.s ((b_boxd rfl rfl (by exact (show Les [.d (.sl (List.map E54 t0.table.types)), .d (.sl (List.map E40 t0.table.subs)), .d (.v (SlV.v t0.table.ents)), .d (.v (SlV.v t0.table.gens)), .d (.v (SlV.v t0.table.insts)), .d (D.i .i64 ty1), .d (D.i .u8 x113.kind), .d (D.s x113.name), .d (D.i .i64 x113.parent), .d (D.i .i64 x113.first), .d (.sl (List.map E9 x113.lits)), .d (D.i .i64 x113.index), .d (D.i .i64 x113.elem), .d (D.i .i64 x113.disc), .d (D.s x113.discName), .d (D.b x113.has), .d (D.i .i64 x113.default_), .d (.sl (List.map E56 x113.comps)), .d (D.i .i64 x113.target), .d (D.i .u8 x113.formal), .d (D.b x113.limited), .d (D.i .i64 x113.priv), .d (D.i .i64 x113.full), .d (D.i .i64 x113.level), .d (D.i .i64 r114.1.t), .d (D.i .i64 r114.1.lo), .d (D.i .i64 r114.1.hi)] (List.map AV.d [.sl (List.map E54 t0.table.types), .sl (List.map E40 t0.table.subs), .v (SlV.v t0.table.ents), .v (SlV.v t0.table.gens), .v (SlV.v t0.table.insts), .i .i64 ty1, .i .u8 x113.kind, .s x113.name, .i .i64 x113.parent, .i .i64 x113.first, .sl (List.map E9 x113.lits), .i .i64 x113.index, .i .i64 x113.elem, .i .i64 x113.disc, .s x113.discName, .b x113.has, .i .i64 x113.default_, .sl (List.map E56 x113.comps), .i .i64 x113.target, .i .u8 x113.formal, .b x113.limited, .i .i64 x113.priv, .i .i64 x113.full, .i .i64 x113.level, .i .i64 r114.1.t, .i .i64 r114.1.lo, .i .i64 r114.1.hi]) from ⟨(Le.refl _), (Le.refl _), (Le.refl _), (Le.refl _), (Le.refl _), (Le.refl _), (Le.refl _), (Le.refl _), (Le.refl _), (Le.refl _), (Le.refl _), (Le.refl _), (Le.refl _), (Le.refl _), (Le.refl _), (Le.refl _), (Le.refl _), (Le.refl _), (Le.refl _), (Le.refl _), (Le.refl _), (Le.refl _), (Le.refl _), (Le.refl _), (Le.refl _), (Le.refl _), (Le.refl _), trivial⟩))).does) (Wt.none rfl) rfl rfl ?_
   refine WL.as rfl rfl ?_
   refine WL.ns ?_
   refine wc_sr ?_
   refine WL.s ((b_makeMap (α := AV) (fun x : Int => Value.int .u8 x) (fun x : AV => x)).does) (Wt.none rfl) rfl rfl ?_
   refine WL.mv rfl rfl ?_
   refine WL.qn (y_makeFunc rfl rfl) rfl ?_
   refine WL.s0 (d_mapUpdate (fun x : Int => Value.int .u8 x) (fun x : AV => x) [] (u := .fn (.func 82) [.d (.pc (R104 (Checker.mk t0 ty1 x113 r114.1)))] []) (.inl rfl) Tryd.underlying105 Tryd.underlying49 (KeyF.int .u8) rfl rfl rfl rfl) (Wt.none rfl) rfl ?_
   refine WL.mv rfl rfl ?_
   refine WL.qn (y_makeFunc rfl rfl) rfl ?_
   refine WL.s0 (d_mapUpdate (fun x : Int => Value.int .u8 x) (fun x : AV => x) [((2 : Int), (.fn (.func 82) [.d (.pc (R104 (Checker.mk t0 ty1 x113 r114.1)))] [] : AV))] (u := .fn (.func 83) [.d (.pc (R104 (Checker.mk t0 ty1 x113 r114.1)))] []) (.inl rfl) Tryd.underlying105 Tryd.underlying49 (KeyF.int .u8) rfl rfl rfl rfl) (Wt.none rfl) rfl ?_
   refine WL.mv rfl rfl ?_
   refine WL.qn (y_makeFunc rfl rfl) rfl ?_
   refine WL.s0 (d_mapUpdate (fun x : Int => Value.int .u8 x) (fun x : AV => x) [((2 : Int), (.fn (.func 82) [.d (.pc (R104 (Checker.mk t0 ty1 x113 r114.1)))] [] : AV)), ((3 : Int), (.fn (.func 83) [.d (.pc (R104 (Checker.mk t0 ty1 x113 r114.1)))] [] : AV))] (u := .fn (.func 84) [.d (.pc (R104 (Checker.mk t0 ty1 x113 r114.1)))] []) (.inl rfl) Tryd.underlying105 Tryd.underlying49 (KeyF.int .u8) rfl rfl rfl rfl) (Wt.none rfl) rfl ?_
   refine WL.mv rfl rfl ?_
   refine WL.qn (y_makeFunc rfl rfl) rfl ?_
   refine WL.s0 (d_mapUpdate (fun x : Int => Value.int .u8 x) (fun x : AV => x) [((2 : Int), (.fn (.func 82) [.d (.pc (R104 (Checker.mk t0 ty1 x113 r114.1)))] [] : AV)), ((3 : Int), (.fn (.func 83) [.d (.pc (R104 (Checker.mk t0 ty1 x113 r114.1)))] [] : AV)), ((4 : Int), (.fn (.func 84) [.d (.pc (R104 (Checker.mk t0 ty1 x113 r114.1)))] [] : AV))] (u := .fn (.func 85) [.d (.pc (R104 (Checker.mk t0 ty1 x113 r114.1)))] []) (.inl rfl) Tryd.underlying105 Tryd.underlying49 (KeyF.int .u8) rfl rfl rfl rfl) (Wt.none rfl) rfl ?_
   refine WL.mv rfl rfl ?_
   refine WL.qn (y_makeFunc rfl rfl) rfl ?_
   refine WL.s0 (d_mapUpdate (fun x : Int => Value.int .u8 x) (fun x : AV => x) [((2 : Int), (.fn (.func 82) [.d (.pc (R104 (Checker.mk t0 ty1 x113 r114.1)))] [] : AV)), ((3 : Int), (.fn (.func 83) [.d (.pc (R104 (Checker.mk t0 ty1 x113 r114.1)))] [] : AV)), ((4 : Int), (.fn (.func 84) [.d (.pc (R104 (Checker.mk t0 ty1 x113 r114.1)))] [] : AV)), ((5 : Int), (.fn (.func 85) [.d (.pc (R104 (Checker.mk t0 ty1 x113 r114.1)))] [] : AV))] (u := .fn (.func 86) [.d (.pc (R104 (Checker.mk t0 ty1 x113 r114.1)))] []) (.inl rfl) Tryd.underlying105 Tryd.underlying49 (KeyF.int .u8) rfl rfl rfl rfl) (Wt.none rfl) rfl ?_
   refine WL.mv rfl rfl ?_
   refine WL.qn (y_makeFunc rfl rfl) rfl ?_
   refine WL.s0 (d_mapUpdate (fun x : Int => Value.int .u8 x) (fun x : AV => x) [((2 : Int), (.fn (.func 82) [.d (.pc (R104 (Checker.mk t0 ty1 x113 r114.1)))] [] : AV)), ((3 : Int), (.fn (.func 83) [.d (.pc (R104 (Checker.mk t0 ty1 x113 r114.1)))] [] : AV)), ((4 : Int), (.fn (.func 84) [.d (.pc (R104 (Checker.mk t0 ty1 x113 r114.1)))] [] : AV)), ((5 : Int), (.fn (.func 85) [.d (.pc (R104 (Checker.mk t0 ty1 x113 r114.1)))] [] : AV)), ((6 : Int), (.fn (.func 86) [.d (.pc (R104 (Checker.mk t0 ty1 x113 r114.1)))] [] : AV))] (u := .fn (.func 87) [.d (.pc (R104 (Checker.mk t0 ty1 x113 r114.1)))] []) (.inl rfl) Tryd.underlying105 Tryd.underlying49 (KeyF.int .u8) rfl rfl rfl rfl) (Wt.none rfl) rfl ?_
   refine WL.mv rfl rfl ?_
   refine WL.as rfl rfl ?_
   refine WL.ns ?_
   refine wc_seq ?_
   rcases condCases h with ⟨hk117, h⟩ | ⟨hn118, h⟩
   ·refine wc_region ?_
    refine WL.mv rfl rfl ?_
    refine WL.qn (y_fieldAddr f54_0 rfl) rfl ?_
    refine WL.qn (y_load rfl rfl a49 rfl) rfl ?_
    refine WL.qn (y_lookupok (fun x : Int => Value.int .u8 x) (fun x : AV => x) [((2 : Int), (.fn (.func 82) [.d (.pc (R104 (Checker.mk t0 ty1 x113 r114.1)))] [] : AV)), ((3 : Int), (.fn (.func 83) [.d (.pc (R104 (Checker.mk t0 ty1 x113 r114.1)))] [] : AV)), ((4 : Int), (.fn (.func 84) [.d (.pc (R104 (Checker.mk t0 ty1 x113 r114.1)))] [] : AV)), ((5 : Int), (.fn (.func 85) [.d (.pc (R104 (Checker.mk t0 ty1 x113 r114.1)))] [] : AV)), ((6 : Int), (.fn (.func 86) [.d (.pc (R104 (Checker.mk t0 ty1 x113 r114.1)))] [] : AV)), ((7 : Int), (.fn (.func 87) [.d (.pc (R104 (Checker.mk t0 ty1 x113 r114.1)))] [] : AV))] (k := x113.kind) (z := .d (.v .nilFunc)) Tryd.underlying105 Tryd.underlying49 (KeyF.int .u8) rfl rfl rfl (by kernel_rfl) rfl (by rw [hk117] <;> rfl) (by rw [hk117] <;> rfl)) rfl ?_
    refine WL.mv rfl rfl ?_
    refine WL.qn (y_extract rfl rfl) rfl ?_
    refine WL.qn (y_extract rfl rfl) rfl ?_
    refine WL.as rfl rfl ?_
    refine WL.as rfl rfl ?_
    refine WL.ns ?_
    refine wc_sr ?_
    refine WL.mv rfl rfl ?_
    refine WL.mv rfl rfl ?_
    refine WL.qy (y_move rfl) rfl rfl rfl ?_
    obtain ⟨r119, hr119, h⟩ := bindS h
    refine WL.fn rfl rfl rfl rfl (f82_c _ hr119) ⟨(Le.refl _), trivial⟩ (Wt.yes rfl rfl rfl) rfl rfl ?_
    refine WL.qn (y_pick_t rfl rfl) rfl ?_
    refine WL.as rfl rfl ?_
    refine WL.ns ?_
    refine wc_ret ?_
    obtain rfl := Option.some.inj h
    exact we_ret_fn (rs1 rfl (rv_t rfl)) (Le.refl _)
   ·rcases condCases h with ⟨hk120, h⟩ | ⟨hn121, h⟩
    ·refine wc_region ?_
     refine WL.mv rfl rfl ?_
     refine WL.qn (y_fieldAddr f54_0 rfl) rfl ?_
     refine WL.qn (y_load rfl rfl a49 rfl) rfl ?_
     refine WL.qn (y_lookupok (fun x : Int => Value.int .u8 x) (fun x : AV => x) [((2 : Int), (.fn (.func 82) [.d (.pc (R104 (Checker.mk t0 ty1 x113 r114.1)))] [] : AV)), ((3 : Int), (.fn (.func 83) [.d (.pc (R104 (Checker.mk t0 ty1 x113 r114.1)))] [] : AV)), ((4 : Int), (.fn (.func 84) [.d (.pc (R104 (Checker.mk t0 ty1 x113 r114.1)))] [] : AV)), ((5 : Int), (.fn (.func 85) [.d (.pc (R104 (Checker.mk t0 ty1 x113 r114.1)))] [] : AV)), ((6 : Int), (.fn (.func 86) [.d (.pc (R104 (Checker.mk t0 ty1 x113 r114.1)))] [] : AV)), ((7 : Int), (.fn (.func 87) [.d (.pc (R104 (Checker.mk t0 ty1 x113 r114.1)))] [] : AV))] (k := x113.kind) (z := .d (.v .nilFunc)) Tryd.underlying105 Tryd.underlying49 (KeyF.int .u8) rfl rfl rfl (by kernel_rfl) rfl (by rw [hk120] <;> rfl) (by rw [hk120] <;> rfl)) rfl ?_
     refine WL.mv rfl rfl ?_
     refine WL.qn (y_extract rfl rfl) rfl ?_
     refine WL.qn (y_extract rfl rfl) rfl ?_
     refine WL.as rfl rfl ?_
     refine WL.as rfl rfl ?_
     refine WL.ns ?_
     refine wc_sr ?_
     refine WL.mv rfl rfl ?_
     refine WL.mv rfl rfl ?_
     refine WL.qy (y_move rfl) rfl rfl rfl ?_
     obtain ⟨r122, hr122, h⟩ := bindS h
     refine WL.fn rfl rfl rfl rfl (f83_c _ hr122) ⟨(Le.refl _), trivial⟩ (Wt.yes rfl rfl rfl) rfl rfl ?_
     refine WL.qn (y_pick_t rfl rfl) rfl ?_
     refine WL.as rfl rfl ?_
     refine WL.ns ?_
     refine wc_ret ?_
     obtain rfl := Option.some.inj h
     exact we_ret_fn (rs1 rfl (rv_t rfl)) (Le.refl _)
    ·rcases condCases h with ⟨hk123, h⟩ | ⟨hn124, h⟩
     ·refine wc_region ?_
      refine WL.mv rfl rfl ?_
      refine WL.qn (y_fieldAddr f54_0 rfl) rfl ?_
      refine WL.qn (y_load rfl rfl a49 rfl) rfl ?_
      refine WL.qn (y_lookupok (fun x : Int => Value.int .u8 x) (fun x : AV => x) [((2 : Int), (.fn (.func 82) [.d (.pc (R104 (Checker.mk t0 ty1 x113 r114.1)))] [] : AV)), ((3 : Int), (.fn (.func 83) [.d (.pc (R104 (Checker.mk t0 ty1 x113 r114.1)))] [] : AV)), ((4 : Int), (.fn (.func 84) [.d (.pc (R104 (Checker.mk t0 ty1 x113 r114.1)))] [] : AV)), ((5 : Int), (.fn (.func 85) [.d (.pc (R104 (Checker.mk t0 ty1 x113 r114.1)))] [] : AV)), ((6 : Int), (.fn (.func 86) [.d (.pc (R104 (Checker.mk t0 ty1 x113 r114.1)))] [] : AV)), ((7 : Int), (.fn (.func 87) [.d (.pc (R104 (Checker.mk t0 ty1 x113 r114.1)))] [] : AV))] (k := x113.kind) (z := .d (.v .nilFunc)) Tryd.underlying105 Tryd.underlying49 (KeyF.int .u8) rfl rfl rfl (by kernel_rfl) rfl (by rw [hk123] <;> rfl) (by rw [hk123] <;> rfl)) rfl ?_
      refine WL.mv rfl rfl ?_
      refine WL.qn (y_extract rfl rfl) rfl ?_
      refine WL.qn (y_extract rfl rfl) rfl ?_
      refine WL.as rfl rfl ?_
      refine WL.as rfl rfl ?_
      refine WL.ns ?_
      refine wc_sr ?_
      refine WL.mv rfl rfl ?_
      refine WL.mv rfl rfl ?_
      refine WL.qy (y_move rfl) rfl rfl rfl ?_
      obtain ⟨r125, hr125, h⟩ := bindS h
      refine WL.fn rfl rfl rfl rfl (f84_c _ hr125) ⟨(Le.refl _), trivial⟩ (Wt.yes rfl rfl rfl) rfl rfl ?_
      refine WL.qn (y_pick_t rfl rfl) rfl ?_
      refine WL.as rfl rfl ?_
      refine WL.ns ?_
      refine wc_ret ?_
      obtain rfl := Option.some.inj h
      exact we_ret_fn (rs1 rfl (rv_t rfl)) (Le.refl _)
     ·rcases condCases h with ⟨hk126, h⟩ | ⟨hn127, h⟩
      ·refine wc_region ?_
       refine WL.mv rfl rfl ?_
       refine WL.qn (y_fieldAddr f54_0 rfl) rfl ?_
       refine WL.qn (y_load rfl rfl a49 rfl) rfl ?_
       refine WL.qn (y_lookupok (fun x : Int => Value.int .u8 x) (fun x : AV => x) [((2 : Int), (.fn (.func 82) [.d (.pc (R104 (Checker.mk t0 ty1 x113 r114.1)))] [] : AV)), ((3 : Int), (.fn (.func 83) [.d (.pc (R104 (Checker.mk t0 ty1 x113 r114.1)))] [] : AV)), ((4 : Int), (.fn (.func 84) [.d (.pc (R104 (Checker.mk t0 ty1 x113 r114.1)))] [] : AV)), ((5 : Int), (.fn (.func 85) [.d (.pc (R104 (Checker.mk t0 ty1 x113 r114.1)))] [] : AV)), ((6 : Int), (.fn (.func 86) [.d (.pc (R104 (Checker.mk t0 ty1 x113 r114.1)))] [] : AV)), ((7 : Int), (.fn (.func 87) [.d (.pc (R104 (Checker.mk t0 ty1 x113 r114.1)))] [] : AV))] (k := x113.kind) (z := .d (.v .nilFunc)) Tryd.underlying105 Tryd.underlying49 (KeyF.int .u8) rfl rfl rfl (by kernel_rfl) rfl (by rw [hk126] <;> rfl) (by rw [hk126] <;> rfl)) rfl ?_
       refine WL.mv rfl rfl ?_
       refine WL.qn (y_extract rfl rfl) rfl ?_
       refine WL.qn (y_extract rfl rfl) rfl ?_
       refine WL.as rfl rfl ?_
       refine WL.as rfl rfl ?_
       refine WL.ns ?_
       refine wc_sr ?_
       refine WL.mv rfl rfl ?_
       refine WL.mv rfl rfl ?_
       refine WL.qy (y_move rfl) rfl rfl rfl ?_
       obtain ⟨r128, hr128, h⟩ := bindS h
       refine WL.fn rfl rfl rfl rfl (f85_c _ hr128) ⟨(Le.refl _), trivial⟩ (Wt.yes rfl rfl rfl) rfl rfl ?_
       refine WL.qn (y_pick_t rfl rfl) rfl ?_
       refine WL.as rfl rfl ?_
       refine WL.ns ?_
       refine wc_ret ?_
       obtain rfl := Option.some.inj h
       exact we_ret_fn (rs1 rfl (rv_t rfl)) (Le.refl _)
      ·rcases condCases h with ⟨hk129, h⟩ | ⟨hn130, h⟩
       ·refine wc_region ?_
        refine WL.mv rfl rfl ?_
        refine WL.qn (y_fieldAddr f54_0 rfl) rfl ?_
        refine WL.qn (y_load rfl rfl a49 rfl) rfl ?_
        refine WL.qn (y_lookupok (fun x : Int => Value.int .u8 x) (fun x : AV => x) [((2 : Int), (.fn (.func 82) [.d (.pc (R104 (Checker.mk t0 ty1 x113 r114.1)))] [] : AV)), ((3 : Int), (.fn (.func 83) [.d (.pc (R104 (Checker.mk t0 ty1 x113 r114.1)))] [] : AV)), ((4 : Int), (.fn (.func 84) [.d (.pc (R104 (Checker.mk t0 ty1 x113 r114.1)))] [] : AV)), ((5 : Int), (.fn (.func 85) [.d (.pc (R104 (Checker.mk t0 ty1 x113 r114.1)))] [] : AV)), ((6 : Int), (.fn (.func 86) [.d (.pc (R104 (Checker.mk t0 ty1 x113 r114.1)))] [] : AV)), ((7 : Int), (.fn (.func 87) [.d (.pc (R104 (Checker.mk t0 ty1 x113 r114.1)))] [] : AV))] (k := x113.kind) (z := .d (.v .nilFunc)) Tryd.underlying105 Tryd.underlying49 (KeyF.int .u8) rfl rfl rfl (by kernel_rfl) rfl (by rw [hk129] <;> rfl) (by rw [hk129] <;> rfl)) rfl ?_
        refine WL.mv rfl rfl ?_
        refine WL.qn (y_extract rfl rfl) rfl ?_
        refine WL.qn (y_extract rfl rfl) rfl ?_
        refine WL.as rfl rfl ?_
        refine WL.as rfl rfl ?_
        refine WL.ns ?_
        refine wc_sr ?_
        refine WL.mv rfl rfl ?_
        refine WL.mv rfl rfl ?_
        refine WL.qy (y_move rfl) rfl rfl rfl ?_
        obtain ⟨r131, hr131, h⟩ := bindS h
        refine WL.fn rfl rfl rfl rfl (f86_c _ hr131) ⟨(Le.refl _), trivial⟩ (Wt.yes rfl rfl rfl) rfl rfl ?_
        refine WL.qn (y_pick_t rfl rfl) rfl ?_
        refine WL.as rfl rfl ?_
        refine WL.ns ?_
        refine wc_ret ?_
        obtain rfl := Option.some.inj h
        exact we_ret_fn (rs1 rfl (rv_t rfl)) (Le.refl _)
       ·rcases condCases h with ⟨hk132, h⟩ | ⟨hn133, h⟩
        ·refine wc_region ?_
         refine WL.mv rfl rfl ?_
         refine WL.qn (y_fieldAddr f54_0 rfl) rfl ?_
         refine WL.qn (y_load rfl rfl a49 rfl) rfl ?_
         refine WL.qn (y_lookupok (fun x : Int => Value.int .u8 x) (fun x : AV => x) [((2 : Int), (.fn (.func 82) [.d (.pc (R104 (Checker.mk t0 ty1 x113 r114.1)))] [] : AV)), ((3 : Int), (.fn (.func 83) [.d (.pc (R104 (Checker.mk t0 ty1 x113 r114.1)))] [] : AV)), ((4 : Int), (.fn (.func 84) [.d (.pc (R104 (Checker.mk t0 ty1 x113 r114.1)))] [] : AV)), ((5 : Int), (.fn (.func 85) [.d (.pc (R104 (Checker.mk t0 ty1 x113 r114.1)))] [] : AV)), ((6 : Int), (.fn (.func 86) [.d (.pc (R104 (Checker.mk t0 ty1 x113 r114.1)))] [] : AV)), ((7 : Int), (.fn (.func 87) [.d (.pc (R104 (Checker.mk t0 ty1 x113 r114.1)))] [] : AV))] (k := x113.kind) (z := .d (.v .nilFunc)) Tryd.underlying105 Tryd.underlying49 (KeyF.int .u8) rfl rfl rfl (by kernel_rfl) rfl (by rw [hk132] <;> rfl) (by rw [hk132] <;> rfl)) rfl ?_
         refine WL.mv rfl rfl ?_
         refine WL.qn (y_extract rfl rfl) rfl ?_
         refine WL.qn (y_extract rfl rfl) rfl ?_
         refine WL.as rfl rfl ?_
         refine WL.as rfl rfl ?_
         refine WL.ns ?_
         refine wc_sr ?_
         refine WL.mv rfl rfl ?_
         refine WL.mv rfl rfl ?_
         refine WL.qy (y_move rfl) rfl rfl rfl ?_
         refine WL.fn rfl rfl rfl rfl (f87_c _) ⟨(Le.refl _), trivial⟩ (Wt.yes rfl rfl rfl) rfl rfl ?_
         refine WL.qn (y_pick_t rfl rfl) rfl ?_
         refine WL.as rfl rfl ?_
         refine WL.ns ?_
         refine wc_ret ?_
         obtain rfl := Option.some.inj h
         exact we_ret_fn (rs1 rfl (rv_t rfl)) (Le.refl _)
        ·refine wc_region ?_
         refine WL.mv rfl rfl ?_
         refine WL.qn (y_fieldAddr f54_0 rfl) rfl ?_
         refine WL.qn (y_load rfl rfl a49 rfl) rfl ?_
         refine WL.qn (y_lookupok (fun x : Int => Value.int .u8 x) (fun x : AV => x) [((2 : Int), (.fn (.func 82) [.d (.pc (R104 (Checker.mk t0 ty1 x113 r114.1)))] [] : AV)), ((3 : Int), (.fn (.func 83) [.d (.pc (R104 (Checker.mk t0 ty1 x113 r114.1)))] [] : AV)), ((4 : Int), (.fn (.func 84) [.d (.pc (R104 (Checker.mk t0 ty1 x113 r114.1)))] [] : AV)), ((5 : Int), (.fn (.func 85) [.d (.pc (R104 (Checker.mk t0 ty1 x113 r114.1)))] [] : AV)), ((6 : Int), (.fn (.func 86) [.d (.pc (R104 (Checker.mk t0 ty1 x113 r114.1)))] [] : AV)), ((7 : Int), (.fn (.func 87) [.d (.pc (R104 (Checker.mk t0 ty1 x113 r114.1)))] [] : AV))] (k := x113.kind) (z := .d (.v .nilFunc)) Tryd.underlying105 Tryd.underlying49 (KeyF.int .u8) rfl rfl rfl (by kernel_rfl) rfl (by rw [show mpGet _ x113.kind = none from (mpGet_ne hn118 (mpGet_ne hn121 (mpGet_ne hn124 (mpGet_ne hn127 (mpGet_ne hn130 (mpGet_ne hn133 mpGet_nil))))))] <;> rfl) (by rw [show mpGet _ x113.kind = none from (mpGet_ne hn118 (mpGet_ne hn121 (mpGet_ne hn124 (mpGet_ne hn127 (mpGet_ne hn130 (mpGet_ne hn133 mpGet_nil))))))] <;> rfl)) rfl ?_
         refine WL.mv rfl rfl ?_
         refine WL.qn (y_extract rfl rfl) rfl ?_
         refine WL.qn (y_extract rfl rfl) rfl ?_
         refine WL.as rfl rfl ?_
         refine WL.as rfl rfl ?_
         refine WL.ns ?_
         refine wc_sr ?_
         refine WL.mv rfl rfl ?_
         refine WL.mv rfl rfl ?_
         refine WL.skips 2 rfl ?_
         refine WL.qn (y_pick_f rfl rfl) rfl ?_
         refine WL.as rfl rfl ?_
         refine WL.ns ?_
         refine wc_ret ?_
         obtain rfl := Option.some.inj h
         exact we_ret_fn (rs1 rfl (rv_t rfl)) (Le.refl _)

theorem f36_c (t0 : Table) {r : Bool} (h : f36 t0 = some r) : Pu Tryd.prog 36 [.ag (R28 t0)] (.b r) := by
 unfold f36 at h
 refine fn_intro Tryd.func36 (by kernel_rfl) rfl rfl rfl (fun φφ ww => ?_)
 refine wc_sr ?_
 refine WL.s ((b_boxd rfl rfl (Les.refl _)).does) (Wt.none rfl) rfl rfl ?_
 refine WL.as rfl rfl ?_
 refine WL.ns ?_
 refine wc_seq ?_
 refine wc_sr ?_
 refine WL.qn (y_fieldAddrc f28_0 rfl) rfl ?_
 refine WL.qn (y_loadc rfl a22 rfl) rfl ?_
 refine WL.qn (y_len_map E54 t0.types e22 rfl rfl (Le.refl _)) rfl ?_
 refine WL.qn (y_lss rfl rfl) rfl ?_
 refine WL.mv rfl rfl ?_
 apply WL.or 5 (t := 12) (d := 17)
 ·exact rfl
 ·intro hg12
  refine WL.qy (y_fieldAddrc f28_0 rfl) rfl rfl rfl ?_
  refine WL.qy (y_loadc rfl a22 rfl) rfl rfl rfl ?_
  refine WL.qy (y_len_map E54 t0.types e22 rfl rfl (Le.refl _)) rfl rfl rfl ?_
  refine WL.qy (y_gtr rfl rfl) rfl rfl rfl ?_
  refine WL.qn (y_pick_f rfl rfl) rfl ?_
  exact WL.nil ⟨rfl, [_, _, _, _, _], rfl, rfl, rfl⟩
 ·refine WL.skips 4 rfl ?_
  refine WL.qn (y_pick_t rfl rfl) rfl ?_
  exact WL.nil ⟨rfl, [_, _, _, _, _], rfl, rfl, rfl⟩
 refine WL.mv rfl rfl ?_
 apply WL.or 5 (t := 18) (d := 23)
 ·exact rfl
 ·intro hg18
  refine WL.qy (y_fieldAddrc f28_1 rfl) rfl rfl rfl ?_
  refine WL.qy (y_loadc rfl a23 rfl) rfl rfl rfl ?_
  refine WL.qy (y_len_map E40 t0.subs e23 rfl rfl (Le.refl _)) rfl rfl rfl ?_
  refine WL.qy (y_gtr rfl rfl) rfl rfl rfl ?_
  refine WL.qn (y_pick_f rfl rfl) rfl ?_
  exact WL.nil ⟨rfl, [_, _, _, _, _], rfl, rfl, rfl⟩
 ·refine WL.skips 4 rfl ?_
  refine WL.qn (y_pick_t rfl rfl) rfl ?_
  exact WL.nil ⟨rfl, [_, _, _, _, _], rfl, rfl, rfl⟩
 refine WL.ns ?_
 refine wc_cond rfl (fun hc1 => ?_) (fun hc1 => ?_)
 ·replace h := condT h hc1
  refine wc_sr ?_
  refine WL.as rfl rfl ?_
  refine WL.ns ?_
  refine wc_ret ?_
  refine we_seq_ret ?_
  obtain rfl := Option.some.inj h
  exact we_ret_fn (rs1 rfl (rv_t rfl)) (Le.refl _)
 ·replace h := condF h hc1
  refine wc_skip ?_
  refine we_seq ?_
  refine wc_sr ?_
  refine WL.qn (y_loadcN rfl a28 s28 rfl) rfl ?_
  refine WL.qn (y_build p61 z61 rfl rfl) rfl ?_
  refine WL.s ((b_alloc z61).does) (Wt.none rfl) rfl rfl ?_
  refine WL.s0 (d_store rfl rfl rfl rfl rfl rfl s61 rfl rfl) (Wt.none rfl) rfl ?_
  refine WL.ns ?_
  refine wc_sr ?_
  refine WL.qn (y_fieldAddrc f28_0 rfl) rfl ?_
  refine WL.qn (y_loadc rfl a22 rfl) rfl ?_
  obtain ⟨x92, hx92, h⟩ := bindS h
  refine WL.qn (y_indexAddr e22 rfl (Le.refl _) rfl (idx_nonneg hx92) (idx_row E54_eq hx92) rfl) rfl ?_
  refine WL.qn (y_loadcN rfl a54 s54 rfl) rfl ?_
  refine WL.s ((b_alloc z54).does) (Wt.none rfl) rfl rfl ?_
  refine WL.s0 (d_store rfl rfl rfl rfl rfl rfl s54 rfl rfl) (Wt.none rfl) rfl ?_
  refine WL.st (st' := [.row 61 [.d (.sl (List.map E54 t0.types)), .d (.sl (List.map E40 t0.subs)), .d (.v (SlV.v t0.ents)), .d (.v (SlV.v t0.gens)), .d (.v (SlV.v t0.insts))], .row 54 [.d (D.i .u8 x92.kind), .d (D.s x92.name), .d (D.i .i64 x92.parent), .d (D.i .i64 x92.first), .d (.sl (List.map E9 x92.lits)), .d (D.i .i64 x92.index), .d (D.i .i64 x92.elem), .d (D.i .i64 x92.disc), .d (D.s x92.discName), .d (D.b x92.has), .d (D.i .i64 x92.default_), .d (.sl (List.map E56 x92.comps)), .d (D.i .i64 x92.target), .d (D.i .u8 x92.formal), .d (D.b x92.limited), .d (D.i .i64 x92.priv), .d (D.i .i64 x92.full), .d (D.i .i64 x92.level)]]) rfl ?_
  refine WL.ns ?_
  refine wc_seq ?_
  refine wc_sr ?_
  refine WL.qn (y_fieldAddr f54_0 rfl) rfl ?_
  refine WL.qn (y_load rfl rfl a49 rfl) rfl ?_
  refine WL.qn (y_neq rfl rfl) rfl ?_
  refine WL.mv rfl rfl ?_
  apply WL.or 4 (t := 33) (d := 37)
  ·exact rfl
  ·intro hg33
   refine WL.qy (y_fieldAddr f54_1 rfl) rfl rfl rfl ?_
   refine WL.qy (y_load rfl rfl a9 rfl) rfl rfl rfl ?_
   refine WL.qy (y_nes rfl rfl) rfl rfl rfl ?_
   refine WL.qn (y_pick_f rfl rfl) rfl ?_
   exact WL.nil ⟨rfl, [_, _, _, _], rfl, rfl, rfl⟩
  ·refine WL.skips 3 rfl ?_
   refine WL.qn (y_pick_t rfl rfl) rfl ?_
   exact WL.nil ⟨rfl, [_, _, _, _], rfl, rfl, rfl⟩
  refine WL.mv rfl rfl ?_
  apply WL.or 4 (t := 38) (d := 42)
  ·exact rfl
  ·intro hg38
   refine WL.qy (y_fieldAddr f54_3 rfl) rfl rfl rfl ?_
   refine WL.qy (y_load rfl rfl a3 rfl) rfl rfl rfl ?_
   refine WL.qy (y_neq rfl rfl) rfl rfl rfl ?_
   refine WL.qn (y_pick_f rfl rfl) rfl ?_
   exact WL.nil ⟨rfl, [_, _, _, _], rfl, rfl, rfl⟩
  ·refine WL.skips 3 rfl ?_
   refine WL.qn (y_pick_t rfl rfl) rfl ?_
   exact WL.nil ⟨rfl, [_, _, _, _], rfl, rfl, rfl⟩
  refine WL.mv rfl rfl ?_
  apply WL.or 3 (t := 43) (d := 46)
  ·exact rfl
  ·intro hg43
   refine WL.qy (y_fieldAddr f54_14 rfl) rfl rfl rfl ?_
   refine WL.qy (y_load rfl rfl a4 rfl) rfl rfl rfl ?_
   refine WL.qn (y_pick_f rfl rfl) rfl ?_
   exact WL.nil ⟨rfl, [_, _, _], rfl, rfl, rfl⟩
  ·refine WL.skips 2 rfl ?_
   refine WL.qn (y_pick_t rfl rfl) rfl ?_
   exact WL.nil ⟨rfl, [_, _, _], rfl, rfl, rfl⟩
  refine WL.mv rfl rfl ?_
  apply WL.or 4 (t := 47) (d := 51)
  ·exact rfl
  ·intro hg47
   refine WL.qy (y_fieldAddr f54_15 rfl) rfl rfl rfl ?_
   refine WL.qy (y_load rfl rfl a3 rfl) rfl rfl rfl ?_
   refine WL.qy (y_neq rfl rfl) rfl rfl rfl ?_
   refine WL.qn (y_pick_f rfl rfl) rfl ?_
   exact WL.nil ⟨rfl, [_, _, _, _], rfl, rfl, rfl⟩
  ·refine WL.skips 3 rfl ?_
   refine WL.qn (y_pick_t rfl rfl) rfl ?_
   exact WL.nil ⟨rfl, [_, _, _, _], rfl, rfl, rfl⟩
  refine WL.mv rfl rfl ?_
  apply WL.or 4 (t := 52) (d := 56)
  ·exact rfl
  ·intro hg52
   refine WL.qy (y_fieldAddr f54_16 rfl) rfl rfl rfl ?_
   refine WL.qy (y_load rfl rfl a3 rfl) rfl rfl rfl ?_
   refine WL.qy (y_neq rfl rfl) rfl rfl rfl ?_
   refine WL.qn (y_pick_f rfl rfl) rfl ?_
   exact WL.nil ⟨rfl, [_, _, _, _], rfl, rfl, rfl⟩
  ·refine WL.skips 3 rfl ?_
   refine WL.qn (y_pick_t rfl rfl) rfl ?_
   exact WL.nil ⟨rfl, [_, _, _, _], rfl, rfl, rfl⟩
  refine WL.mv rfl rfl ?_
  apply WL.or 4 (t := 57) (d := 61)
  ·exact rfl
  ·intro hg57
   refine WL.qy (y_fieldAddr f54_17 rfl) rfl rfl rfl ?_
   refine WL.qy (y_load rfl rfl a3 rfl) rfl rfl rfl ?_
   refine WL.qy (y_neq rfl rfl) rfl rfl rfl ?_
   refine WL.qn (y_pick_f rfl rfl) rfl ?_
   exact WL.nil ⟨rfl, [_, _, _, _], rfl, rfl, rfl⟩
  ·refine WL.skips 3 rfl ?_
   refine WL.qn (y_pick_t rfl rfl) rfl ?_
   exact WL.nil ⟨rfl, [_, _, _, _], rfl, rfl, rfl⟩
  refine WL.mv rfl rfl ?_
  apply WL.or 4 (t := 62) (d := 66)
  ·exact rfl
  ·intro hg62
   refine WL.qy (y_loadN rfl rfl a54 s54 rfl) rfl rfl rfl ?_
   refine WL.fn rfl rfl rfl rfl (f66_c _) ⟨(Le.agd ⟨(Le.refl _), (Le.refl _), (Le.refl _), (Le.refl _), (Le.refl _), (Le.refl _), (Le.refl _), (Le.refl _), (Le.refl _), (Le.refl _), (Le.refl _), (Le.refl _), (Le.refl _), (Le.refl _), (Le.refl _), (Le.refl _), (Le.refl _), (Le.refl _), trivial⟩), trivial⟩ (Wt.yes rfl rfl rfl) rfl rfl ?_
   refine WL.qy (y_not rfl) rfl rfl rfl ?_
   refine WL.qn (y_pick_f rfl rfl) rfl ?_
   exact WL.nil ⟨rfl, [_, _, _, _], rfl, rfl, rfl⟩
  ·refine WL.skips 3 rfl ?_
   refine WL.qn (y_pick_t rfl rfl) rfl ?_
   exact WL.nil ⟨rfl, [_, _, _, _], rfl, rfl, rfl⟩
  refine WL.ns ?_
  refine wc_cond rfl (fun hc2 => ?_) (fun hc2 => ?_)
  ·replace h := condT h hc2
   refine wc_sr ?_
   refine WL.as rfl rfl ?_
   refine WL.ns ?_
   refine wc_ret ?_
   refine we_seq_ret ?_
   obtain rfl := Option.some.inj h
   exact we_ret_fn (rs1 rfl (rv_t rfl)) (Le.refl _)
  ·replace h := condF h hc2
   refine wc_skip ?_
   refine we_seq ?_
   replace h := letkS h
   obtain ⟨k93, hk93, h⟩ := h
   refine wc_cut (fun env' st' => k93 () = some r ∧ Sub [(1, .d (.pc (R28 t0))), (3, .pt 0 0)] env' ∧ SLe st' [.row 61 [.d (.sl (List.map E54 t0.types)), .d (.sl (List.map E40 t0.subs)), .d (.v (SlV.v t0.ents)), .d (.v (SlV.v t0.gens)), .d (.v (SlV.v t0.insts))], .row 54 [.d (D.i .u8 x92.kind), .d (D.s x92.name), .d (D.i .i64 x92.parent), .d (D.i .i64 x92.first), .d (.sl (List.map E9 x92.lits)), .d (D.i .i64 x92.index), .d (D.i .i64 x92.elem), .d (D.i .i64 x92.disc), .d (D.s x92.discName), .d (D.b x92.has), .d (D.i .i64 x92.default_), .d (.sl (List.map E56 x92.comps)), .d (D.i .i64 x92.target), .d (D.i .u8 x92.formal), .d (D.b x92.limited), .d (D.i .i64 x92.priv), .d (D.i .i64 x92.full), .d (D.i .i64 x92.level)]]) ?_ ?_
   ·refine wc_sr ?_
    refine WL.qn (y_fieldAddrc f28_1 rfl) rfl ?_
    refine WL.qn (y_loadc rfl a23 rfl) rfl ?_
    refine WL.qn (y_len_map E40 t0.subs e23 rfl rfl (Le.refl _)) rfl ?_
    refine WL.mv rfl rfl ?_
    refine WL.ns ?_
    refine wc_block ?_
    refine wc_loop (fun n env' st' => ∃ (t95 : Int), f36_l1 t0 k93 n t95 = some r ∧ Sub [(1, .d (.pc (R28 t0))), (3, .pt 0 0), (68, .d (.sl (List.map E40 t0.subs))), (69, .d (D.i .i64 (List.length t0.subs : Int))), (70, .d (D.i .i64 t95))] env' ∧ SLe st' [.row 61 [.d (.sl (List.map E54 t0.types)), .d (.sl (List.map E40 t0.subs)), .d (.v (SlV.v t0.ents)), .d (.v (SlV.v t0.gens)), .d (.v (SlV.v t0.insts))], .row 54 [.d (D.i .u8 x92.kind), .d (D.s x92.name), .d (D.i .i64 x92.parent), .d (D.i .i64 x92.first), .d (.sl (List.map E9 x92.lits)), .d (D.i .i64 x92.index), .d (D.i .i64 x92.elem), .d (D.i .i64 x92.disc), .d (D.s x92.discName), .d (D.b x92.has), .d (D.i .i64 x92.default_), .d (.sl (List.map E56 x92.comps)), .d (D.i .i64 x92.target), .d (D.i .u8 x92.formal), .d (D.b x92.limited), .d (D.i .i64 x92.priv), .d (D.i .i64 x92.full), .d (D.i .i64 x92.level)]]) (fun n => n) (Int.toNat ((List.length t0.subs : Int) - 0) + 1) ⟨0, h, (Sub.cons rfl (Le.refl _) (Sub.cons rfl (Le.refl _) (Sub.cons rfl (Le.refl _) (Sub.cons rfl (Le.refl _) (Sub.cons rfl (Le.refl _) (Sub.nil _)))))), ⟨⟨rfl, ⟨(Le.refl _), (Le.refl _), (Le.refl _), (Le.refl _), (Le.refl _), trivial⟩⟩, ⟨rfl, ⟨(Le.refl _), (Le.refl _), (Le.refl _), (Le.refl _), (Le.refl _), (Le.refl _), (Le.refl _), (Le.refl _), (Le.refl _), (Le.refl _), (Le.refl _), (Le.refl _), (Le.refl _), (Le.refl _), (Le.refl _), (Le.refl _), (Le.refl _), (Le.refl _), trivial⟩⟩, trivial⟩⟩ ?_
    rintro n env1 st1 ⟨t95, h, hsub, hst⟩
    cases n with
    | zero => rw [f36_l1] at h; cases h
    | succ n =>
    rw [f36_l1] at h
    refine WC.sub hsub (WC.weak hst ?_)
    refine wc_sr ?_
    refine WL.qn (y_lss rfl rfl) rfl ?_
    refine WL.ns ?_
    refine wc_seq ?_
    refine wc_cond rfl (fun hc3 => ?_) (fun hc3 => ?_)
    ·replace h := condT h hc3
     refine wc_skip ?_
     refine we_seq ?_
     refine wc_seq ?_
     refine wc_block ?_
     refine wc_sr ?_
     obtain ⟨x97, hx97, h⟩ := bindS h
     refine WL.qn (y_indexAddr e23 rfl (Le.refl _) rfl (idx_nonneg hx97) (idx_row E40_eq hx97) rfl) rfl ?_
     refine WL.qn (y_loadcN rfl a40 s40 rfl) rfl ?_
     refine WL.s ((b_alloc z40).does) (Wt.none rfl) rfl rfl ?_
     refine WL.s0 (d_store rfl rfl rfl rfl rfl rfl s40 rfl rfl) (Wt.none rfl) rfl ?_
     refine WL.ns ?_
     refine wc_sr ?_
     refine WL.qn (y_loadN rfl rfl a61 s61 rfl) rfl ?_
     refine WL.qn (y_loadN rfl rfl a40 s40 rfl) rfl ?_
     obtain ⟨r98, hr98, h⟩ := bindS h
     refine WL.fn rfl rfl rfl rfl (f67_c _ _ hr98) ⟨(Le.agd ⟨(Le.refl _), (Le.refl _), (Le.refl _), (Le.refl _), (Le.refl _), trivial⟩), (Le.agd ⟨(Le.refl _), (Le.refl _), (Le.refl _), trivial⟩), trivial⟩ (Wt.none rfl) rfl rfl ?_
     refine WL.qn (y_not rfl) rfl ?_
     refine WL.ns ?_
     refine wc_cond rfl (fun hc4 => ?_) (fun hc4 => ?_)
     ·replace h := condT h hc4
      refine wc_sr ?_
      refine WL.as rfl rfl ?_
      refine WL.ns ?_
      refine wc_ret ?_
      refine we_blk_ret ?_
      refine we_seq_ret ?_
      refine we_lp_ret ?_
      refine we_blk_ret ?_
      refine we_lp_ret ?_
      obtain rfl := Option.some.inj h
      exact we_ret_fn (rs1 rfl (rv_t rfl)) (Le.refl _)
     ·replace h := condF h hc4
      refine wc_skip ?_
      refine we_blk ?_
      refine we_seq ?_
      refine wc_region ?_
      refine WL.qn (y_add rfl rfl rfl) rfl ?_
      refine WL.mv rfl rfl ?_
      refine WL.nil ?_
      refine WE.drop 2 (env' := [(1, .d (.pc (R28 t0))), (3, .pt 0 0), (68, .d (.sl (List.map E40 t0.subs))), (69, .d (D.i .i64 (List.length t0.subs : Int))), (70, .d (D.i .i64 (IntKind.i64.wrap (t95 + 1))))]) (Sub.one rfl (Sub.one rfl (Sub.one rfl (Sub.one rfl (Sub.one rfl (Sub.nil _)))))) rfl rfl (Nat.zero_le _) ?_
      exact we_lp ⟨n, ⟨(IntKind.i64.wrap (t95 + 1)), h, (Sub.cons rfl (Le.refl _) (Sub.cons rfl (Le.refl _) (Sub.cons rfl (Le.refl _) (Sub.cons rfl (Le.refl _) (Sub.cons rfl (Le.refl _) (Sub.nil _)))))), ⟨⟨rfl, ⟨(Le.refl _), (Le.refl _), (Le.refl _), (Le.refl _), (Le.refl _), trivial⟩⟩, ⟨rfl, ⟨(Le.refl _), (Le.refl _), (Le.refl _), (Le.refl _), (Le.refl _), (Le.refl _), (Le.refl _), (Le.refl _), (Le.refl _), (Le.refl _), (Le.refl _), (Le.refl _), (Le.refl _), (Le.refl _), (Le.refl _), (Le.refl _), (Le.refl _), (Le.refl _), trivial⟩⟩, trivial⟩⟩, Nat.lt_succ_self n⟩
    ·replace h := condF h hc3
     refine wc_exit ?_
     refine we_seq_exit ?_
     refine we_lp_exit ?_
     refine we_blk_hit ?_
     exact we_lp ⟨h, (Sub.cons rfl (Le.refl _) (Sub.cons rfl (Le.refl _) (Sub.nil _))), ⟨⟨rfl, ⟨(Le.refl _), (Le.refl _), (Le.refl _), (Le.refl _), (Le.refl _), trivial⟩⟩, ⟨rfl, ⟨(Le.refl _), (Le.refl _), (Le.refl _), (Le.refl _), (Le.refl _), (Le.refl _), (Le.refl _), (Le.refl _), (Le.refl _), (Le.refl _), (Le.refl _), (Le.refl _), (Le.refl _), (Le.refl _), (Le.refl _), (Le.refl _), (Le.refl _), (Le.refl _), trivial⟩⟩, trivial⟩⟩
   ·rintro env1 st1 ⟨h, hsub, hst⟩
    subst hk93
    dsimp only at h
    refine WC.sub hsub (WC.weak hst ?_)
    replace h := letkS h
    obtain ⟨k99, hk99, h⟩ := h
    refine wc_cut (fun env' st' => k99 () = some r ∧ Sub [] env' ∧ SLe st' [.row 61 [.d (.sl (List.map E54 t0.types)), .d (.sl (List.map E40 t0.subs)), .d (.v (SlV.v t0.ents)), .d (.v (SlV.v t0.gens)), .d (.v (SlV.v t0.insts))], .row 54 [.d (D.i .u8 x92.kind), .d (D.s x92.name), .d (D.i .i64 x92.parent), .d (D.i .i64 x92.first), .d (.sl (List.map E9 x92.lits)), .d (D.i .i64 x92.index), .d (D.i .i64 x92.elem), .d (D.i .i64 x92.disc), .d (D.s x92.discName), .d (D.b x92.has), .d (D.i .i64 x92.default_), .d (.sl (List.map E56 x92.comps)), .d (D.i .i64 x92.target), .d (D.i .u8 x92.formal), .d (D.b x92.limited), .d (D.i .i64 x92.priv), .d (D.i .i64 x92.full), .d (D.i .i64 x92.level)]]) ?_ ?_
    ·refine wc_sr ?_
     refine WL.as rfl rfl ?_
     refine WL.ns ?_
     refine wc_block ?_
     refine wc_loop (fun n env' st' => ∃ (ty101 : Int), f36_l2 t0 k99 n ty101 = some r ∧ Sub [(1, .d (.pc (R28 t0))), (3, .pt 0 0), (7, .d (D.i .i64 ty101))] env' ∧ SLe st' [.row 61 [.d (.sl (List.map E54 t0.types)), .d (.sl (List.map E40 t0.subs)), .d (.v (SlV.v t0.ents)), .d (.v (SlV.v t0.gens)), .d (.v (SlV.v t0.insts))], .row 54 [.d (D.i .u8 x92.kind), .d (D.s x92.name), .d (D.i .i64 x92.parent), .d (D.i .i64 x92.first), .d (.sl (List.map E9 x92.lits)), .d (D.i .i64 x92.index), .d (D.i .i64 x92.elem), .d (D.i .i64 x92.disc), .d (D.s x92.discName), .d (D.b x92.has), .d (D.i .i64 x92.default_), .d (.sl (List.map E56 x92.comps)), .d (D.i .i64 x92.target), .d (D.i .u8 x92.formal), .d (D.b x92.limited), .d (D.i .i64 x92.priv), .d (D.i .i64 x92.full), .d (D.i .i64 x92.level)]]) (fun n => n) 9223372036854775808 ⟨1, h, (Sub.cons rfl (Le.refl _) (Sub.cons rfl (Le.refl _) (Sub.cons rfl (Le.refl _) (Sub.nil _)))), ⟨⟨rfl, ⟨(Le.refl _), (Le.refl _), (Le.refl _), (Le.refl _), (Le.refl _), trivial⟩⟩, ⟨rfl, ⟨(Le.refl _), (Le.refl _), (Le.refl _), (Le.refl _), (Le.refl _), (Le.refl _), (Le.refl _), (Le.refl _), (Le.refl _), (Le.refl _), (Le.refl _), (Le.refl _), (Le.refl _), (Le.refl _), (Le.refl _), (Le.refl _), (Le.refl _), (Le.refl _), trivial⟩⟩, trivial⟩⟩ ?_
     rintro n env1 st1 ⟨ty101, h, hsub, hst⟩
     cases n with
     | zero => rw [f36_l2] at h; cases h
     | succ n =>
     rw [f36_l2] at h
     refine WC.sub hsub (WC.weak hst ?_)
     refine wc_seq ?_
     refine wc_sr ?_
     refine WL.mv rfl rfl ?_
     refine WL.qn (y_fieldAddrc f28_0 rfl) rfl ?_
     refine WL.qn (y_loadc rfl a22 rfl) rfl ?_
     refine WL.qn (y_len_map E54 t0.types e22 rfl rfl (Le.refl _)) rfl ?_
     refine WL.qn (y_lss rfl rfl) rfl ?_
     refine WL.ns ?_
     refine wc_cond rfl (fun hc5 => ?_) (fun hc5 => ?_)
     ·replace h := condT h hc5
      refine wc_skip ?_
      refine we_seq ?_
      refine wc_seq ?_
      refine wc_block ?_
      refine wc_sr ?_
      refine WL.qn (y_loadN rfl rfl a61 s61 rfl) rfl ?_
      refine WL.mv rfl rfl ?_
      obtain ⟨r103, hr103, h⟩ := bindS h
      refine WL.fn rfl rfl rfl rfl (f68_c _ _ hr103) ⟨(Le.agd ⟨(Le.refl _), (Le.refl _), (Le.refl _), (Le.refl _), (Le.refl _), trivial⟩), (Le.refl _), trivial⟩ (Wt.none rfl) rfl rfl ?_
      refine WL.qn (y_not rfl) rfl ?_
      refine WL.ns ?_
      refine wc_cond rfl (fun hc6 => ?_) (fun hc6 => ?_)
      ·replace h := condT h hc6
       refine wc_sr ?_
       refine WL.as rfl rfl ?_
       refine WL.ns ?_
       refine wc_ret ?_
       refine we_blk_ret ?_
       refine we_seq_ret ?_
       refine we_lp_ret ?_
       refine we_blk_ret ?_
       refine we_lp_ret ?_
       obtain rfl := Option.some.inj h
       exact we_ret_fn (rs1 rfl (rv_t rfl)) (Le.refl _)
      ·replace h := condF h hc6
       refine wc_skip ?_
       refine we_blk ?_
       refine we_seq ?_
       refine wc_region ?_
       refine WL.mv rfl rfl ?_
       refine WL.qn (y_add rfl rfl rfl) rfl ?_
       refine WL.as rfl rfl ?_
       refine WL.nil ?_
       exact we_lp ⟨n, ⟨(IntKind.i64.wrap (ty101 + 1)), h, (Sub.cons rfl (Le.refl _) (Sub.cons rfl (Le.refl _) (Sub.cons rfl (Le.refl _) (Sub.nil _)))), ⟨⟨rfl, ⟨(Le.refl _), (Le.refl _), (Le.refl _), (Le.refl _), (Le.refl _), trivial⟩⟩, ⟨rfl, ⟨(Le.refl _), (Le.refl _), (Le.refl _), (Le.refl _), (Le.refl _), (Le.refl _), (Le.refl _), (Le.refl _), (Le.refl _), (Le.refl _), (Le.refl _), (Le.refl _), (Le.refl _), (Le.refl _), (Le.refl _), (Le.refl _), (Le.refl _), (Le.refl _), trivial⟩⟩, trivial⟩⟩, Nat.lt_succ_self n⟩
     ·replace h := condF h hc5
      refine wc_exit ?_
      refine we_seq_exit ?_
      refine we_lp_exit ?_
      refine we_blk_hit ?_
      exact we_lp ⟨h, (Sub.nil _), ⟨⟨rfl, ⟨(Le.refl _), (Le.refl _), (Le.refl _), (Le.refl _), (Le.refl _), trivial⟩⟩, ⟨rfl, ⟨(Le.refl _), (Le.refl _), (Le.refl _), (Le.refl _), (Le.refl _), (Le.refl _), (Le.refl _), (Le.refl _), (Le.refl _), (Le.refl _), (Le.refl _), (Le.refl _), (Le.refl _), (Le.refl _), (Le.refl _), (Le.refl _), (Le.refl _), (Le.refl _), trivial⟩⟩, trivial⟩⟩
    ·rintro env1 st1 ⟨h, hsub, hst⟩
     subst hk99
     dsimp only at h
     refine WC.sub hsub (WC.weak hst ?_)
     refine wc_sr ?_
     refine WL.as rfl rfl ?_
     refine WL.ns ?_
     refine wc_ret ?_
     obtain rfl := Option.some.inj h
     exact we_ret_fn (rs1 rfl (rv_t rfl)) (Le.refl _)
theorem f39_c (kind0 : Int) (name1 : ByteArray) (first2 : Int) : Pu Tryd.prog 39 [.i .u8 kind0, .s name1, .i .i64 first2] (.ag (R54 (f39 kind0 name1 first2))) := by
 generalize h : f39 kind0 name1 first2 = r
 unfold f39 at h
 refine fn_intro Tryd.func39 (by kernel_rfl) rfl rfl rfl (fun φφ ww => ?_)
 refine wc_sr ?_
 refine WL.s ((b_alloc z54).does) (Wt.none rfl) rfl rfl ?_
 refine WL.ns ?_
 refine wc_sr ?_
 refine WL.mv rfl rfl ?_
 refine WL.fn rfl rfl rfl rfl (f37_c _) ⟨(Le.refl _), trivial⟩ (Wt.none rfl) rfl rfl ?_
 refine WL.s ((b_alloc z54).does) (Wt.none rfl) rfl rfl ?_
 refine WL.s0 (d_store rfl rfl rfl rfl rfl rfl s54 rfl rfl) (Wt.none rfl) rfl ?_
 refine WL.st (st' := [.row 54 [.d (D.i .u8 0), .d (D.s ByteArray.empty), .d (D.i .i64 0), .d (D.i .i64 0), .d (.v (.slice none 0 0)), .d (D.i .i64 0), .d (D.i .i64 0), .d (D.i .i64 0), .d (D.s ByteArray.empty), .d (D.b false), .d (D.i .i64 0), .d (.v (.slice none 0 0)), .d (D.i .i64 0), .d (D.i .u8 0), .d (D.b false), .d (D.i .i64 0), .d (D.i .i64 0), .d (D.i .i64 0)], .row 54 [.d (D.i .u8 ((f37 kind0).kind)), .d (D.s ((f37 kind0).name)), .d (D.i .i64 ((f37 kind0).parent)), .d (D.i .i64 ((f37 kind0).first)), .d (.sl (List.map E9 ((f37 kind0).lits))), .d (D.i .i64 ((f37 kind0).index)), .d (D.i .i64 ((f37 kind0).elem)), .d (D.i .i64 ((f37 kind0).disc)), .d (D.s ((f37 kind0).discName)), .d (D.b ((f37 kind0).has)), .d (D.i .i64 ((f37 kind0).default_)), .d (.sl (List.map E56 ((f37 kind0).comps))), .d (D.i .i64 ((f37 kind0).target)), .d (D.i .u8 ((f37 kind0).formal)), .d (D.b ((f37 kind0).limited)), .d (D.i .i64 ((f37 kind0).priv)), .d (D.i .i64 ((f37 kind0).full)), .d (D.i .i64 ((f37 kind0).level))]]) rfl ?_
 refine WL.ns ?_
 refine wc_sr ?_
 refine WL.mv rfl rfl ?_
 refine WL.mv rfl rfl ?_
 refine WL.qn (y_fieldAddr f54_1 rfl) rfl ?_
 refine WL.s0 (d_store rfl rfl rfl rfl rfl rfl s9 rfl rfl) (Wt.none rfl) rfl ?_
 refine WL.st (st' := [.row 54 [.d (D.i .u8 0), .d (D.s ByteArray.empty), .d (D.i .i64 0), .d (D.i .i64 0), .d (.v (.slice none 0 0)), .d (D.i .i64 0), .d (D.i .i64 0), .d (D.i .i64 0), .d (D.s ByteArray.empty), .d (D.b false), .d (D.i .i64 0), .d (.v (.slice none 0 0)), .d (D.i .i64 0), .d (D.i .u8 0), .d (D.b false), .d (D.i .i64 0), .d (D.i .i64 0), .d (D.i .i64 0)], .row 54 [.d (D.i .u8 ((f37 kind0).kind)), .d (D.s name1), .d (D.i .i64 ((f37 kind0).parent)), .d (D.i .i64 ((f37 kind0).first)), .d (.sl (List.map E9 ((f37 kind0).lits))), .d (D.i .i64 ((f37 kind0).index)), .d (D.i .i64 ((f37 kind0).elem)), .d (D.i .i64 ((f37 kind0).disc)), .d (D.s ((f37 kind0).discName)), .d (D.b ((f37 kind0).has)), .d (D.i .i64 ((f37 kind0).default_)), .d (.sl (List.map E56 ((f37 kind0).comps))), .d (D.i .i64 ((f37 kind0).target)), .d (D.i .u8 ((f37 kind0).formal)), .d (D.b ((f37 kind0).limited)), .d (D.i .i64 ((f37 kind0).priv)), .d (D.i .i64 ((f37 kind0).full)), .d (D.i .i64 ((f37 kind0).level))]]) rfl ?_
 refine WL.qn (y_fieldAddr f54_3 rfl) rfl ?_
 refine WL.s0 (d_store rfl rfl rfl rfl rfl rfl s3 rfl rfl) (Wt.none rfl) rfl ?_
 refine WL.st (st' := [.row 54 [.d (D.i .u8 0), .d (D.s ByteArray.empty), .d (D.i .i64 0), .d (D.i .i64 0), .d (.v (.slice none 0 0)), .d (D.i .i64 0), .d (D.i .i64 0), .d (D.i .i64 0), .d (D.s ByteArray.empty), .d (D.b false), .d (D.i .i64 0), .d (.v (.slice none 0 0)), .d (D.i .i64 0), .d (D.i .u8 0), .d (D.b false), .d (D.i .i64 0), .d (D.i .i64 0), .d (D.i .i64 0)], .row 54 [.d (D.i .u8 ((f37 kind0).kind)), .d (D.s name1), .d (D.i .i64 ((f37 kind0).parent)), .d (D.i .i64 first2), .d (.sl (List.map E9 ((f37 kind0).lits))), .d (D.i .i64 ((f37 kind0).index)), .d (D.i .i64 ((f37 kind0).elem)), .d (D.i .i64 ((f37 kind0).disc)), .d (D.s ((f37 kind0).discName)), .d (D.b ((f37 kind0).has)), .d (D.i .i64 ((f37 kind0).default_)), .d (.sl (List.map E56 ((f37 kind0).comps))), .d (D.i .i64 ((f37 kind0).target)), .d (D.i .u8 ((f37 kind0).formal)), .d (D.b ((f37 kind0).limited)), .d (D.i .i64 ((f37 kind0).priv)), .d (D.i .i64 ((f37 kind0).full)), .d (D.i .i64 ((f37 kind0).level))]]) rfl ?_
 refine WL.ns ?_
 refine wc_sr ?_
 refine WL.qn (y_loadN rfl rfl a54 s54 rfl) rfl ?_
 refine WL.s0 (d_store rfl rfl rfl rfl rfl rfl s54 rfl rfl) (Wt.none rfl) rfl ?_
 refine WL.st (st' := [.row 54 [.d (D.i .u8 ((f37 kind0).kind)), .d (D.s name1), .d (D.i .i64 ((f37 kind0).parent)), .d (D.i .i64 first2), .d (.sl (List.map E9 ((f37 kind0).lits))), .d (D.i .i64 ((f37 kind0).index)), .d (D.i .i64 ((f37 kind0).elem)), .d (D.i .i64 ((f37 kind0).disc)), .d (D.s ((f37 kind0).discName)), .d (D.b ((f37 kind0).has)), .d (D.i .i64 ((f37 kind0).default_)), .d (.sl (List.map E56 ((f37 kind0).comps))), .d (D.i .i64 ((f37 kind0).target)), .d (D.i .u8 ((f37 kind0).formal)), .d (D.b ((f37 kind0).limited)), .d (D.i .i64 ((f37 kind0).priv)), .d (D.i .i64 ((f37 kind0).full)), .d (D.i .i64 ((f37 kind0).level))], .row 54 [.d (D.i .u8 ((f37 kind0).kind)), .d (D.s name1), .d (D.i .i64 ((f37 kind0).parent)), .d (D.i .i64 first2), .d (.sl (List.map E9 ((f37 kind0).lits))), .d (D.i .i64 ((f37 kind0).index)), .d (D.i .i64 ((f37 kind0).elem)), .d (D.i .i64 ((f37 kind0).disc)), .d (D.s ((f37 kind0).discName)), .d (D.b ((f37 kind0).has)), .d (D.i .i64 ((f37 kind0).default_)), .d (.sl (List.map E56 ((f37 kind0).comps))), .d (D.i .i64 ((f37 kind0).target)), .d (D.i .u8 ((f37 kind0).formal)), .d (D.b ((f37 kind0).limited)), .d (D.i .i64 ((f37 kind0).priv)), .d (D.i .i64 ((f37 kind0).full)), .d (D.i .i64 ((f37 kind0).level))]]) rfl ?_
 refine WL.ns ?_
 refine wc_ret ?_
 subst h
 exact we_ret_fn (rs1 rfl (rv_cN rfl rfl a54 s54 rfl)) (Le.agd ⟨(Le.refl _), (Le.refl _), (Le.refl _), (Le.refl _), (Le.refl _), (Le.refl _), (Le.refl _), (Le.refl _), (Le.refl _), (Le.refl _), (Le.refl _), (Le.refl _), (Le.refl _), (Le.refl _), (Le.refl _), (Le.refl _), (Le.refl _), (Le.refl _), trivial⟩)

theorem f38_c  : Pu Tryd.prog 38 [] (.ag (R28 (f38 ))) := by
 generalize h : f38  = r
 unfold f38 at h
 refine fn_intro Tryd.func38 (by kernel_rfl) rfl rfl rfl (fun φφ ww => ?_)
 refine wc_sr ?_
 refine WL.s ((b_alloc z28).does) (Wt.none rfl) rfl rfl ?_
 refine WL.ns ?_
 refine wc_sr ?_
 refine WL.fn rfl rfl rfl rfl (f39_c _ _ _) ⟨(Le.refl _), (Le.refl _), (Le.refl _), trivial⟩ (Wt.none rfl) rfl rfl ?_
 refine WL.s ((b_alloc z54).does) (Wt.none rfl) rfl rfl ?_
 refine WL.s0 (d_store rfl rfl rfl rfl rfl rfl s54 rfl rfl) (Wt.none rfl) rfl ?_
 refine WL.st (st' := [.row 28 [.d (.v (.slice none 0 0)), .d (.v (.slice none 0 0)), .d (.v (SlV.v (SlV.mk none 0 0))), .d (.v (SlV.v (SlV.mk none 0 0))), .d (.v (SlV.v (SlV.mk none 0 0)))], .row 54 [.d (D.i .u8 ((f39 3 (ByteArray.mk #[67, 111, 108, 111, 114]) 1).kind)), .d (D.s ((f39 3 (ByteArray.mk #[67, 111, 108, 111, 114]) 1).name)), .d (D.i .i64 ((f39 3 (ByteArray.mk #[67, 111, 108, 111, 114]) 1).parent)), .d (D.i .i64 ((f39 3 (ByteArray.mk #[67, 111, 108, 111, 114]) 1).first)), .d (.sl (List.map E9 ((f39 3 (ByteArray.mk #[67, 111, 108, 111, 114]) 1).lits))), .d (D.i .i64 ((f39 3 (ByteArray.mk #[67, 111, 108, 111, 114]) 1).index)), .d (D.i .i64 ((f39 3 (ByteArray.mk #[67, 111, 108, 111, 114]) 1).elem)), .d (D.i .i64 ((f39 3 (ByteArray.mk #[67, 111, 108, 111, 114]) 1).disc)), .d (D.s ((f39 3 (ByteArray.mk #[67, 111, 108, 111, 114]) 1).discName)), .d (D.b ((f39 3 (ByteArray.mk #[67, 111, 108, 111, 114]) 1).has)), .d (D.i .i64 ((f39 3 (ByteArray.mk #[67, 111, 108, 111, 114]) 1).default_)), .d (.sl (List.map E56 ((f39 3 (ByteArray.mk #[67, 111, 108, 111, 114]) 1).comps))), .d (D.i .i64 ((f39 3 (ByteArray.mk #[67, 111, 108, 111, 114]) 1).target)), .d (D.i .u8 ((f39 3 (ByteArray.mk #[67, 111, 108, 111, 114]) 1).formal)), .d (D.b ((f39 3 (ByteArray.mk #[67, 111, 108, 111, 114]) 1).limited)), .d (D.i .i64 ((f39 3 (ByteArray.mk #[67, 111, 108, 111, 114]) 1).priv)), .d (D.i .i64 ((f39 3 (ByteArray.mk #[67, 111, 108, 111, 114]) 1).full)), .d (D.i .i64 ((f39 3 (ByteArray.mk #[67, 111, 108, 111, 114]) 1).level))]]) rfl ?_
 refine WL.ns ?_
 refine wc_sr ?_
 refine WL.s ((NewOs.b (n_buildSlice l50 z9 rfl (by decide) (by decide) rfl rfl rfl (by decide))).does) (Wt.none rfl) rfl rfl ?_
 refine WL.qn (y_fieldAddr f54_4 rfl) rfl ?_
 refine WL.s0 (d_store1 rfl rfl rfl (one_os rfl) s50 rfl) (Wt.none rfl) rfl ?_
 refine WL.st (st' := [.row 28 [.d (.v (.slice none 0 0)), .d (.v (.slice none 0 0)), .d (.v (SlV.v (SlV.mk none 0 0))), .d (.v (SlV.v (SlV.mk none 0 0))), .d (.v (SlV.v (SlV.mk none 0 0)))], .row 54 [.d (D.i .u8 ((f39 3 (ByteArray.mk #[67, 111, 108, 111, 114]) 1).kind)), .d (D.s ((f39 3 (ByteArray.mk #[67, 111, 108, 111, 114]) 1).name)), .d (D.i .i64 ((f39 3 (ByteArray.mk #[67, 111, 108, 111, 114]) 1).parent)), .d (D.i .i64 ((f39 3 (ByteArray.mk #[67, 111, 108, 111, 114]) 1).first)), .os 2 0, .d (D.i .i64 ((f39 3 (ByteArray.mk #[67, 111, 108, 111, 114]) 1).index)), .d (D.i .i64 ((f39 3 (ByteArray.mk #[67, 111, 108, 111, 114]) 1).elem)), .d (D.i .i64 ((f39 3 (ByteArray.mk #[67, 111, 108, 111, 114]) 1).disc)), .d (D.s ((f39 3 (ByteArray.mk #[67, 111, 108, 111, 114]) 1).discName)), .d (D.b ((f39 3 (ByteArray.mk #[67, 111, 108, 111, 114]) 1).has)), .d (D.i .i64 ((f39 3 (ByteArray.mk #[67, 111, 108, 111, 114]) 1).default_)), .d (.sl (List.map E56 ((f39 3 (ByteArray.mk #[67, 111, 108, 111, 114]) 1).comps))), .d (D.i .i64 ((f39 3 (ByteArray.mk #[67, 111, 108, 111, 114]) 1).target)), .d (D.i .u8 ((f39 3 (ByteArray.mk #[67, 111, 108, 111, 114]) 1).formal)), .d (D.b ((f39 3 (ByteArray.mk #[67, 111, 108, 111, 114]) 1).limited)), .d (D.i .i64 ((f39 3 (ByteArray.mk #[67, 111, 108, 111, 114]) 1).priv)), .d (D.i .i64 ((f39 3 (ByteArray.mk #[67, 111, 108, 111, 114]) 1).full)), .d (D.i .i64 ((f39 3 (ByteArray.mk #[67, 111, 108, 111, 114]) 1).level))], .os 9 1 0 (List.map (encA E9) [(ByteArray.mk #[82, 101, 100]), (ByteArray.mk #[71, 114, 101, 101, 110])])]) rfl ?_
 refine WL.ns ?_
 refine wc_sr ?_
 refine WL.fn rfl rfl rfl rfl (f39_c _ _ _) ⟨(Le.refl _), (Le.refl _), (Le.refl _), trivial⟩ (Wt.none rfl) rfl rfl ?_
 refine WL.s ((b_alloc z54).does) (Wt.none rfl) rfl rfl ?_
 refine WL.s0 (d_store rfl rfl rfl rfl rfl rfl s54 rfl rfl) (Wt.none rfl) rfl ?_
 refine WL.st (st' := [.row 28 [.d (.v (.slice none 0 0)), .d (.v (.slice none 0 0)), .d (.v (SlV.v (SlV.mk none 0 0))), .d (.v (SlV.v (SlV.mk none 0 0))), .d (.v (SlV.v (SlV.mk none 0 0)))], .row 54 [.d (D.i .u8 ((f39 3 (ByteArray.mk #[67, 111, 108, 111, 114]) 1).kind)), .d (D.s ((f39 3 (ByteArray.mk #[67, 111, 108, 111, 114]) 1).name)), .d (D.i .i64 ((f39 3 (ByteArray.mk #[67, 111, 108, 111, 114]) 1).parent)), .d (D.i .i64 ((f39 3 (ByteArray.mk #[67, 111, 108, 111, 114]) 1).first)), .os 2 0, .d (D.i .i64 ((f39 3 (ByteArray.mk #[67, 111, 108, 111, 114]) 1).index)), .d (D.i .i64 ((f39 3 (ByteArray.mk #[67, 111, 108, 111, 114]) 1).elem)), .d (D.i .i64 ((f39 3 (ByteArray.mk #[67, 111, 108, 111, 114]) 1).disc)), .d (D.s ((f39 3 (ByteArray.mk #[67, 111, 108, 111, 114]) 1).discName)), .d (D.b ((f39 3 (ByteArray.mk #[67, 111, 108, 111, 114]) 1).has)), .d (D.i .i64 ((f39 3 (ByteArray.mk #[67, 111, 108, 111, 114]) 1).default_)), .d (.sl (List.map E56 ((f39 3 (ByteArray.mk #[67, 111, 108, 111, 114]) 1).comps))), .d (D.i .i64 ((f39 3 (ByteArray.mk #[67, 111, 108, 111, 114]) 1).target)), .d (D.i .u8 ((f39 3 (ByteArray.mk #[67, 111, 108, 111, 114]) 1).formal)), .d (D.b ((f39 3 (ByteArray.mk #[67, 111, 108, 111, 114]) 1).limited)), .d (D.i .i64 ((f39 3 (ByteArray.mk #[67, 111, 108, 111, 114]) 1).priv)), .d (D.i .i64 ((f39 3 (ByteArray.mk #[67, 111, 108, 111, 114]) 1).full)), .d (D.i .i64 ((f39 3 (ByteArray.mk #[67, 111, 108, 111, 114]) 1).level))], .os 9 1 0 (List.map (encA E9) [(ByteArray.mk #[82, 101, 100]), (ByteArray.mk #[71, 114, 101, 101, 110])]), .row 54 [.d (D.i .u8 ((f39 4 (ByteArray.mk #[82, 111, 119]) 3).kind)), .d (D.s ((f39 4 (ByteArray.mk #[82, 111, 119]) 3).name)), .d (D.i .i64 ((f39 4 (ByteArray.mk #[82, 111, 119]) 3).parent)), .d (D.i .i64 ((f39 4 (ByteArray.mk #[82, 111, 119]) 3).first)), .d (.sl (List.map E9 ((f39 4 (ByteArray.mk #[82, 111, 119]) 3).lits))), .d (D.i .i64 ((f39 4 (ByteArray.mk #[82, 111, 119]) 3).index)), .d (D.i .i64 ((f39 4 (ByteArray.mk #[82, 111, 119]) 3).elem)), .d (D.i .i64 ((f39 4 (ByteArray.mk #[82, 111, 119]) 3).disc)), .d (D.s ((f39 4 (ByteArray.mk #[82, 111, 119]) 3).discName)), .d (D.b ((f39 4 (ByteArray.mk #[82, 111, 119]) 3).has)), .d (D.i .i64 ((f39 4 (ByteArray.mk #[82, 111, 119]) 3).default_)), .d (.sl (List.map E56 ((f39 4 (ByteArray.mk #[82, 111, 119]) 3).comps))), .d (D.i .i64 ((f39 4 (ByteArray.mk #[82, 111, 119]) 3).target)), .d (D.i .u8 ((f39 4 (ByteArray.mk #[82, 111, 119]) 3).formal)), .d (D.b ((f39 4 (ByteArray.mk #[82, 111, 119]) 3).limited)), .d (D.i .i64 ((f39 4 (ByteArray.mk #[82, 111, 119]) 3).priv)), .d (D.i .i64 ((f39 4 (ByteArray.mk #[82, 111, 119]) 3).full)), .d (D.i .i64 ((f39 4 (ByteArray.mk #[82, 111, 119]) 3).level))]]) rfl ?_
 refine WL.ns ?_
 refine wc_sr ?_
 refine WL.qn (y_fieldAddr f54_5 rfl) rfl ?_
 refine WL.s0 (d_store rfl rfl rfl rfl rfl rfl s3 rfl rfl) (Wt.none rfl) rfl ?_
 refine WL.st (st' := [.row 28 [.d (.v (.slice none 0 0)), .d (.v (.slice none 0 0)), .d (.v (SlV.v (SlV.mk none 0 0))), .d (.v (SlV.v (SlV.mk none 0 0))), .d (.v (SlV.v (SlV.mk none 0 0)))], .row 54 [.d (D.i .u8 ((f39 3 (ByteArray.mk #[67, 111, 108, 111, 114]) 1).kind)), .d (D.s ((f39 3 (ByteArray.mk #[67, 111, 108, 111, 114]) 1).name)), .d (D.i .i64 ((f39 3 (ByteArray.mk #[67, 111, 108, 111, 114]) 1).parent)), .d (D.i .i64 ((f39 3 (ByteArray.mk #[67, 111, 108, 111, 114]) 1).first)), .os 2 0, .d (D.i .i64 ((f39 3 (ByteArray.mk #[67, 111, 108, 111, 114]) 1).index)), .d (D.i .i64 ((f39 3 (ByteArray.mk #[67, 111, 108, 111, 114]) 1).elem)), .d (D.i .i64 ((f39 3 (ByteArray.mk #[67, 111, 108, 111, 114]) 1).disc)), .d (D.s ((f39 3 (ByteArray.mk #[67, 111, 108, 111, 114]) 1).discName)), .d (D.b ((f39 3 (ByteArray.mk #[67, 111, 108, 111, 114]) 1).has)), .d (D.i .i64 ((f39 3 (ByteArray.mk #[67, 111, 108, 111, 114]) 1).default_)), .d (.sl (List.map E56 ((f39 3 (ByteArray.mk #[67, 111, 108, 111, 114]) 1).comps))), .d (D.i .i64 ((f39 3 (ByteArray.mk #[67, 111, 108, 111, 114]) 1).target)), .d (D.i .u8 ((f39 3 (ByteArray.mk #[67, 111, 108, 111, 114]) 1).formal)), .d (D.b ((f39 3 (ByteArray.mk #[67, 111, 108, 111, 114]) 1).limited)), .d (D.i .i64 ((f39 3 (ByteArray.mk #[67, 111, 108, 111, 114]) 1).priv)), .d (D.i .i64 ((f39 3 (ByteArray.mk #[67, 111, 108, 111, 114]) 1).full)), .d (D.i .i64 ((f39 3 (ByteArray.mk #[67, 111, 108, 111, 114]) 1).level))], .os 9 1 0 (List.map (encA E9) [(ByteArray.mk #[82, 101, 100]), (ByteArray.mk #[71, 114, 101, 101, 110])]), .row 54 [.d (D.i .u8 ((f39 4 (ByteArray.mk #[82, 111, 119]) 3).kind)), .d (D.s ((f39 4 (ByteArray.mk #[82, 111, 119]) 3).name)), .d (D.i .i64 ((f39 4 (ByteArray.mk #[82, 111, 119]) 3).parent)), .d (D.i .i64 ((f39 4 (ByteArray.mk #[82, 111, 119]) 3).first)), .d (.sl (List.map E9 ((f39 4 (ByteArray.mk #[82, 111, 119]) 3).lits))), .d (D.i .i64 2), .d (D.i .i64 ((f39 4 (ByteArray.mk #[82, 111, 119]) 3).elem)), .d (D.i .i64 ((f39 4 (ByteArray.mk #[82, 111, 119]) 3).disc)), .d (D.s ((f39 4 (ByteArray.mk #[82, 111, 119]) 3).discName)), .d (D.b ((f39 4 (ByteArray.mk #[82, 111, 119]) 3).has)), .d (D.i .i64 ((f39 4 (ByteArray.mk #[82, 111, 119]) 3).default_)), .d (.sl (List.map E56 ((f39 4 (ByteArray.mk #[82, 111, 119]) 3).comps))), .d (D.i .i64 ((f39 4 (ByteArray.mk #[82, 111, 119]) 3).target)), .d (D.i .u8 ((f39 4 (ByteArray.mk #[82, 111, 119]) 3).formal)), .d (D.b ((f39 4 (ByteArray.mk #[82, 111, 119]) 3).limited)), .d (D.i .i64 ((f39 4 (ByteArray.mk #[82, 111, 119]) 3).priv)), .d (D.i .i64 ((f39 4 (ByteArray.mk #[82, 111, 119]) 3).full)), .d (D.i .i64 ((f39 4 (ByteArray.mk #[82, 111, 119]) 3).level))]]) rfl ?_
 refine WL.qn (y_fieldAddr f54_6 rfl) rfl ?_
 refine WL.s0 (d_store rfl rfl rfl rfl rfl rfl s3 rfl rfl) (Wt.none rfl) rfl ?_
 refine WL.st (st' := [.row 28 [.d (.v (.slice none 0 0)), .d (.v (.slice none 0 0)), .d (.v (SlV.v (SlV.mk none 0 0))), .d (.v (SlV.v (SlV.mk none 0 0))), .d (.v (SlV.v (SlV.mk none 0 0)))], .row 54 [.d (D.i .u8 ((f39 3 (ByteArray.mk #[67, 111, 108, 111, 114]) 1).kind)), .d (D.s ((f39 3 (ByteArray.mk #[67, 111, 108, 111, 114]) 1).name)), .d (D.i .i64 ((f39 3 (ByteArray.mk #[67, 111, 108, 111, 114]) 1).parent)), .d (D.i .i64 ((f39 3 (ByteArray.mk #[67, 111, 108, 111, 114]) 1).first)), .os 2 0, .d (D.i .i64 ((f39 3 (ByteArray.mk #[67, 111, 108, 111, 114]) 1).index)), .d (D.i .i64 ((f39 3 (ByteArray.mk #[67, 111, 108, 111, 114]) 1).elem)), .d (D.i .i64 ((f39 3 (ByteArray.mk #[67, 111, 108, 111, 114]) 1).disc)), .d (D.s ((f39 3 (ByteArray.mk #[67, 111, 108, 111, 114]) 1).discName)), .d (D.b ((f39 3 (ByteArray.mk #[67, 111, 108, 111, 114]) 1).has)), .d (D.i .i64 ((f39 3 (ByteArray.mk #[67, 111, 108, 111, 114]) 1).default_)), .d (.sl (List.map E56 ((f39 3 (ByteArray.mk #[67, 111, 108, 111, 114]) 1).comps))), .d (D.i .i64 ((f39 3 (ByteArray.mk #[67, 111, 108, 111, 114]) 1).target)), .d (D.i .u8 ((f39 3 (ByteArray.mk #[67, 111, 108, 111, 114]) 1).formal)), .d (D.b ((f39 3 (ByteArray.mk #[67, 111, 108, 111, 114]) 1).limited)), .d (D.i .i64 ((f39 3 (ByteArray.mk #[67, 111, 108, 111, 114]) 1).priv)), .d (D.i .i64 ((f39 3 (ByteArray.mk #[67, 111, 108, 111, 114]) 1).full)), .d (D.i .i64 ((f39 3 (ByteArray.mk #[67, 111, 108, 111, 114]) 1).level))], .os 9 1 0 (List.map (encA E9) [(ByteArray.mk #[82, 101, 100]), (ByteArray.mk #[71, 114, 101, 101, 110])]), .row 54 [.d (D.i .u8 ((f39 4 (ByteArray.mk #[82, 111, 119]) 3).kind)), .d (D.s ((f39 4 (ByteArray.mk #[82, 111, 119]) 3).name)), .d (D.i .i64 ((f39 4 (ByteArray.mk #[82, 111, 119]) 3).parent)), .d (D.i .i64 ((f39 4 (ByteArray.mk #[82, 111, 119]) 3).first)), .d (.sl (List.map E9 ((f39 4 (ByteArray.mk #[82, 111, 119]) 3).lits))), .d (D.i .i64 2), .d (D.i .i64 0), .d (D.i .i64 ((f39 4 (ByteArray.mk #[82, 111, 119]) 3).disc)), .d (D.s ((f39 4 (ByteArray.mk #[82, 111, 119]) 3).discName)), .d (D.b ((f39 4 (ByteArray.mk #[82, 111, 119]) 3).has)), .d (D.i .i64 ((f39 4 (ByteArray.mk #[82, 111, 119]) 3).default_)), .d (.sl (List.map E56 ((f39 4 (ByteArray.mk #[82, 111, 119]) 3).comps))), .d (D.i .i64 ((f39 4 (ByteArray.mk #[82, 111, 119]) 3).target)), .d (D.i .u8 ((f39 4 (ByteArray.mk #[82, 111, 119]) 3).formal)), .d (D.b ((f39 4 (ByteArray.mk #[82, 111, 119]) 3).limited)), .d (D.i .i64 ((f39 4 (ByteArray.mk #[82, 111, 119]) 3).priv)), .d (D.i .i64 ((f39 4 (ByteArray.mk #[82, 111, 119]) 3).full)), .d (D.i .i64 ((f39 4 (ByteArray.mk #[82, 111, 119]) 3).level))]]) rfl ?_
 refine WL.ns ?_
 refine wc_sr ?_
 refine WL.fn rfl rfl rfl rfl (f39_c _ _ _) ⟨(Le.refl _), (Le.refl _), (Le.refl _), trivial⟩ (Wt.none rfl) rfl rfl ?_
 refine WL.s ((b_alloc z54).does) (Wt.none rfl) rfl rfl ?_
 refine WL.s0 (d_store rfl rfl rfl rfl rfl rfl s54 rfl rfl) (Wt.none rfl) rfl ?_
 refine WL.st (st' := [.row 28 [.d (.v (.slice none 0 0)), .d (.v (.slice none 0 0)), .d (.v (SlV.v (SlV.mk none 0 0))), .d (.v (SlV.v (SlV.mk none 0 0))), .d (.v (SlV.v (SlV.mk none 0 0)))], .row 54 [.d (D.i .u8 ((f39 3 (ByteArray.mk #[67, 111, 108, 111, 114]) 1).kind)), .d (D.s ((f39 3 (ByteArray.mk #[67, 111, 108, 111, 114]) 1).name)), .d (D.i .i64 ((f39 3 (ByteArray.mk #[67, 111, 108, 111, 114]) 1).parent)), .d (D.i .i64 ((f39 3 (ByteArray.mk #[67, 111, 108, 111, 114]) 1).first)), .os 2 0, .d (D.i .i64 ((f39 3 (ByteArray.mk #[67, 111, 108, 111, 114]) 1).index)), .d (D.i .i64 ((f39 3 (ByteArray.mk #[67, 111, 108, 111, 114]) 1).elem)), .d (D.i .i64 ((f39 3 (ByteArray.mk #[67, 111, 108, 111, 114]) 1).disc)), .d (D.s ((f39 3 (ByteArray.mk #[67, 111, 108, 111, 114]) 1).discName)), .d (D.b ((f39 3 (ByteArray.mk #[67, 111, 108, 111, 114]) 1).has)), .d (D.i .i64 ((f39 3 (ByteArray.mk #[67, 111, 108, 111, 114]) 1).default_)), .d (.sl (List.map E56 ((f39 3 (ByteArray.mk #[67, 111, 108, 111, 114]) 1).comps))), .d (D.i .i64 ((f39 3 (ByteArray.mk #[67, 111, 108, 111, 114]) 1).target)), .d (D.i .u8 ((f39 3 (ByteArray.mk #[67, 111, 108, 111, 114]) 1).formal)), .d (D.b ((f39 3 (ByteArray.mk #[67, 111, 108, 111, 114]) 1).limited)), .d (D.i .i64 ((f39 3 (ByteArray.mk #[67, 111, 108, 111, 114]) 1).priv)), .d (D.i .i64 ((f39 3 (ByteArray.mk #[67, 111, 108, 111, 114]) 1).full)), .d (D.i .i64 ((f39 3 (ByteArray.mk #[67, 111, 108, 111, 114]) 1).level))], .os 9 1 0 (List.map (encA E9) [(ByteArray.mk #[82, 101, 100]), (ByteArray.mk #[71, 114, 101, 101, 110])]), .row 54 [.d (D.i .u8 ((f39 4 (ByteArray.mk #[82, 111, 119]) 3).kind)), .d (D.s ((f39 4 (ByteArray.mk #[82, 111, 119]) 3).name)), .d (D.i .i64 ((f39 4 (ByteArray.mk #[82, 111, 119]) 3).parent)), .d (D.i .i64 ((f39 4 (ByteArray.mk #[82, 111, 119]) 3).first)), .d (.sl (List.map E9 ((f39 4 (ByteArray.mk #[82, 111, 119]) 3).lits))), .d (D.i .i64 2), .d (D.i .i64 0), .d (D.i .i64 ((f39 4 (ByteArray.mk #[82, 111, 119]) 3).disc)), .d (D.s ((f39 4 (ByteArray.mk #[82, 111, 119]) 3).discName)), .d (D.b ((f39 4 (ByteArray.mk #[82, 111, 119]) 3).has)), .d (D.i .i64 ((f39 4 (ByteArray.mk #[82, 111, 119]) 3).default_)), .d (.sl (List.map E56 ((f39 4 (ByteArray.mk #[82, 111, 119]) 3).comps))), .d (D.i .i64 ((f39 4 (ByteArray.mk #[82, 111, 119]) 3).target)), .d (D.i .u8 ((f39 4 (ByteArray.mk #[82, 111, 119]) 3).formal)), .d (D.b ((f39 4 (ByteArray.mk #[82, 111, 119]) 3).limited)), .d (D.i .i64 ((f39 4 (ByteArray.mk #[82, 111, 119]) 3).priv)), .d (D.i .i64 ((f39 4 (ByteArray.mk #[82, 111, 119]) 3).full)), .d (D.i .i64 ((f39 4 (ByteArray.mk #[82, 111, 119]) 3).level))], .row 54 [.d (D.i .u8 ((f39 5 (ByteArray.mk #[82, 101, 99]) 4).kind)), .d (D.s ((f39 5 (ByteArray.mk #[82, 101, 99]) 4).name)), .d (D.i .i64 ((f39 5 (ByteArray.mk #[82, 101, 99]) 4).parent)), .d (D.i .i64 ((f39 5 (ByteArray.mk #[82, 101, 99]) 4).first)), .d (.sl (List.map E9 ((f39 5 (ByteArray.mk #[82, 101, 99]) 4).lits))), .d (D.i .i64 ((f39 5 (ByteArray.mk #[82, 101, 99]) 4).index)), .d (D.i .i64 ((f39 5 (ByteArray.mk #[82, 101, 99]) 4).elem)), .d (D.i .i64 ((f39 5 (ByteArray.mk #[82, 101, 99]) 4).disc)), .d (D.s ((f39 5 (ByteArray.mk #[82, 101, 99]) 4).discName)), .d (D.b ((f39 5 (ByteArray.mk #[82, 101, 99]) 4).has)), .d (D.i .i64 ((f39 5 (ByteArray.mk #[82, 101, 99]) 4).default_)), .d (.sl (List.map E56 ((f39 5 (ByteArray.mk #[82, 101, 99]) 4).comps))), .d (D.i .i64 ((f39 5 (ByteArray.mk #[82, 101, 99]) 4).target)), .d (D.i .u8 ((f39 5 (ByteArray.mk #[82, 101, 99]) 4).formal)), .d (D.b ((f39 5 (ByteArray.mk #[82, 101, 99]) 4).limited)), .d (D.i .i64 ((f39 5 (ByteArray.mk #[82, 101, 99]) 4).priv)), .d (D.i .i64 ((f39 5 (ByteArray.mk #[82, 101, 99]) 4).full)), .d (D.i .i64 ((f39 5 (ByteArray.mk #[82, 101, 99]) 4).level))]]) rfl ?_
 refine WL.ns ?_
 refine wc_sr ?_
 refine WL.qn (y_fieldAddr f54_7 rfl) rfl ?_
 refine WL.s0 (d_store rfl rfl rfl rfl rfl rfl s3 rfl rfl) (Wt.none rfl) rfl ?_
 refine WL.st (st' := [.row 28 [.d (.v (.slice none 0 0)), .d (.v (.slice none 0 0)), .d (.v (SlV.v (SlV.mk none 0 0))), .d (.v (SlV.v (SlV.mk none 0 0))), .d (.v (SlV.v (SlV.mk none 0 0)))], .row 54 [.d (D.i .u8 ((f39 3 (ByteArray.mk #[67, 111, 108, 111, 114]) 1).kind)), .d (D.s ((f39 3 (ByteArray.mk #[67, 111, 108, 111, 114]) 1).name)), .d (D.i .i64 ((f39 3 (ByteArray.mk #[67, 111, 108, 111, 114]) 1).parent)), .d (D.i .i64 ((f39 3 (ByteArray.mk #[67, 111, 108, 111, 114]) 1).first)), .os 2 0, .d (D.i .i64 ((f39 3 (ByteArray.mk #[67, 111, 108, 111, 114]) 1).index)), .d (D.i .i64 ((f39 3 (ByteArray.mk #[67, 111, 108, 111, 114]) 1).elem)), .d (D.i .i64 ((f39 3 (ByteArray.mk #[67, 111, 108, 111, 114]) 1).disc)), .d (D.s ((f39 3 (ByteArray.mk #[67, 111, 108, 111, 114]) 1).discName)), .d (D.b ((f39 3 (ByteArray.mk #[67, 111, 108, 111, 114]) 1).has)), .d (D.i .i64 ((f39 3 (ByteArray.mk #[67, 111, 108, 111, 114]) 1).default_)), .d (.sl (List.map E56 ((f39 3 (ByteArray.mk #[67, 111, 108, 111, 114]) 1).comps))), .d (D.i .i64 ((f39 3 (ByteArray.mk #[67, 111, 108, 111, 114]) 1).target)), .d (D.i .u8 ((f39 3 (ByteArray.mk #[67, 111, 108, 111, 114]) 1).formal)), .d (D.b ((f39 3 (ByteArray.mk #[67, 111, 108, 111, 114]) 1).limited)), .d (D.i .i64 ((f39 3 (ByteArray.mk #[67, 111, 108, 111, 114]) 1).priv)), .d (D.i .i64 ((f39 3 (ByteArray.mk #[67, 111, 108, 111, 114]) 1).full)), .d (D.i .i64 ((f39 3 (ByteArray.mk #[67, 111, 108, 111, 114]) 1).level))], .os 9 1 0 (List.map (encA E9) [(ByteArray.mk #[82, 101, 100]), (ByteArray.mk #[71, 114, 101, 101, 110])]), .row 54 [.d (D.i .u8 ((f39 4 (ByteArray.mk #[82, 111, 119]) 3).kind)), .d (D.s ((f39 4 (ByteArray.mk #[82, 111, 119]) 3).name)), .d (D.i .i64 ((f39 4 (ByteArray.mk #[82, 111, 119]) 3).parent)), .d (D.i .i64 ((f39 4 (ByteArray.mk #[82, 111, 119]) 3).first)), .d (.sl (List.map E9 ((f39 4 (ByteArray.mk #[82, 111, 119]) 3).lits))), .d (D.i .i64 2), .d (D.i .i64 0), .d (D.i .i64 ((f39 4 (ByteArray.mk #[82, 111, 119]) 3).disc)), .d (D.s ((f39 4 (ByteArray.mk #[82, 111, 119]) 3).discName)), .d (D.b ((f39 4 (ByteArray.mk #[82, 111, 119]) 3).has)), .d (D.i .i64 ((f39 4 (ByteArray.mk #[82, 111, 119]) 3).default_)), .d (.sl (List.map E56 ((f39 4 (ByteArray.mk #[82, 111, 119]) 3).comps))), .d (D.i .i64 ((f39 4 (ByteArray.mk #[82, 111, 119]) 3).target)), .d (D.i .u8 ((f39 4 (ByteArray.mk #[82, 111, 119]) 3).formal)), .d (D.b ((f39 4 (ByteArray.mk #[82, 111, 119]) 3).limited)), .d (D.i .i64 ((f39 4 (ByteArray.mk #[82, 111, 119]) 3).priv)), .d (D.i .i64 ((f39 4 (ByteArray.mk #[82, 111, 119]) 3).full)), .d (D.i .i64 ((f39 4 (ByteArray.mk #[82, 111, 119]) 3).level))], .row 54 [.d (D.i .u8 ((f39 5 (ByteArray.mk #[82, 101, 99]) 4).kind)), .d (D.s ((f39 5 (ByteArray.mk #[82, 101, 99]) 4).name)), .d (D.i .i64 ((f39 5 (ByteArray.mk #[82, 101, 99]) 4).parent)), .d (D.i .i64 ((f39 5 (ByteArray.mk #[82, 101, 99]) 4).first)), .d (.sl (List.map E9 ((f39 5 (ByteArray.mk #[82, 101, 99]) 4).lits))), .d (D.i .i64 ((f39 5 (ByteArray.mk #[82, 101, 99]) 4).index)), .d (D.i .i64 ((f39 5 (ByteArray.mk #[82, 101, 99]) 4).elem)), .d (D.i .i64 1), .d (D.s ((f39 5 (ByteArray.mk #[82, 101, 99]) 4).discName)), .d (D.b ((f39 5 (ByteArray.mk #[82, 101, 99]) 4).has)), .d (D.i .i64 ((f39 5 (ByteArray.mk #[82, 101, 99]) 4).default_)), .d (.sl (List.map E56 ((f39 5 (ByteArray.mk #[82, 101, 99]) 4).comps))), .d (D.i .i64 ((f39 5 (ByteArray.mk #[82, 101, 99]) 4).target)), .d (D.i .u8 ((f39 5 (ByteArray.mk #[82, 101, 99]) 4).formal)), .d (D.b ((f39 5 (ByteArray.mk #[82, 101, 99]) 4).limited)), .d (D.i .i64 ((f39 5 (ByteArray.mk #[82, 101, 99]) 4).priv)), .d (D.i .i64 ((f39 5 (ByteArray.mk #[82, 101, 99]) 4).full)), .d (D.i .i64 ((f39 5 (ByteArray.mk #[82, 101, 99]) 4).level))]]) rfl ?_
 refine WL.qn (y_fieldAddr f54_8 rfl) rfl ?_
 refine WL.s0 (d_store rfl rfl rfl rfl rfl rfl s9 rfl rfl) (Wt.none rfl) rfl ?_
 refine WL.st (st' := [.row 28 [.d (.v (.slice none 0 0)), .d (.v (.slice none 0 0)), .d (.v (SlV.v (SlV.mk none 0 0))), .d (.v (SlV.v (SlV.mk none 0 0))), .d (.v (SlV.v (SlV.mk none 0 0)))], .row 54 [.d (D.i .u8 ((f39 3 (ByteArray.mk #[67, 111, 108, 111, 114]) 1).kind)), .d (D.s ((f39 3 (ByteArray.mk #[67, 111, 108, 111, 114]) 1).name)), .d (D.i .i64 ((f39 3 (ByteArray.mk #[67, 111, 108, 111, 114]) 1).parent)), .d (D.i .i64 ((f39 3 (ByteArray.mk #[67, 111, 108, 111, 114]) 1).first)), .os 2 0, .d (D.i .i64 ((f39 3 (ByteArray.mk #[67, 111, 108, 111, 114]) 1).index)), .d (D.i .i64 ((f39 3 (ByteArray.mk #[67, 111, 108, 111, 114]) 1).elem)), .d (D.i .i64 ((f39 3 (ByteArray.mk #[67, 111, 108, 111, 114]) 1).disc)), .d (D.s ((f39 3 (ByteArray.mk #[67, 111, 108, 111, 114]) 1).discName)), .d (D.b ((f39 3 (ByteArray.mk #[67, 111, 108, 111, 114]) 1).has)), .d (D.i .i64 ((f39 3 (ByteArray.mk #[67, 111, 108, 111, 114]) 1).default_)), .d (.sl (List.map E56 ((f39 3 (ByteArray.mk #[67, 111, 108, 111, 114]) 1).comps))), .d (D.i .i64 ((f39 3 (ByteArray.mk #[67, 111, 108, 111, 114]) 1).target)), .d (D.i .u8 ((f39 3 (ByteArray.mk #[67, 111, 108, 111, 114]) 1).formal)), .d (D.b ((f39 3 (ByteArray.mk #[67, 111, 108, 111, 114]) 1).limited)), .d (D.i .i64 ((f39 3 (ByteArray.mk #[67, 111, 108, 111, 114]) 1).priv)), .d (D.i .i64 ((f39 3 (ByteArray.mk #[67, 111, 108, 111, 114]) 1).full)), .d (D.i .i64 ((f39 3 (ByteArray.mk #[67, 111, 108, 111, 114]) 1).level))], .os 9 1 0 (List.map (encA E9) [(ByteArray.mk #[82, 101, 100]), (ByteArray.mk #[71, 114, 101, 101, 110])]), .row 54 [.d (D.i .u8 ((f39 4 (ByteArray.mk #[82, 111, 119]) 3).kind)), .d (D.s ((f39 4 (ByteArray.mk #[82, 111, 119]) 3).name)), .d (D.i .i64 ((f39 4 (ByteArray.mk #[82, 111, 119]) 3).parent)), .d (D.i .i64 ((f39 4 (ByteArray.mk #[82, 111, 119]) 3).first)), .d (.sl (List.map E9 ((f39 4 (ByteArray.mk #[82, 111, 119]) 3).lits))), .d (D.i .i64 2), .d (D.i .i64 0), .d (D.i .i64 ((f39 4 (ByteArray.mk #[82, 111, 119]) 3).disc)), .d (D.s ((f39 4 (ByteArray.mk #[82, 111, 119]) 3).discName)), .d (D.b ((f39 4 (ByteArray.mk #[82, 111, 119]) 3).has)), .d (D.i .i64 ((f39 4 (ByteArray.mk #[82, 111, 119]) 3).default_)), .d (.sl (List.map E56 ((f39 4 (ByteArray.mk #[82, 111, 119]) 3).comps))), .d (D.i .i64 ((f39 4 (ByteArray.mk #[82, 111, 119]) 3).target)), .d (D.i .u8 ((f39 4 (ByteArray.mk #[82, 111, 119]) 3).formal)), .d (D.b ((f39 4 (ByteArray.mk #[82, 111, 119]) 3).limited)), .d (D.i .i64 ((f39 4 (ByteArray.mk #[82, 111, 119]) 3).priv)), .d (D.i .i64 ((f39 4 (ByteArray.mk #[82, 111, 119]) 3).full)), .d (D.i .i64 ((f39 4 (ByteArray.mk #[82, 111, 119]) 3).level))], .row 54 [.d (D.i .u8 ((f39 5 (ByteArray.mk #[82, 101, 99]) 4).kind)), .d (D.s ((f39 5 (ByteArray.mk #[82, 101, 99]) 4).name)), .d (D.i .i64 ((f39 5 (ByteArray.mk #[82, 101, 99]) 4).parent)), .d (D.i .i64 ((f39 5 (ByteArray.mk #[82, 101, 99]) 4).first)), .d (.sl (List.map E9 ((f39 5 (ByteArray.mk #[82, 101, 99]) 4).lits))), .d (D.i .i64 ((f39 5 (ByteArray.mk #[82, 101, 99]) 4).index)), .d (D.i .i64 ((f39 5 (ByteArray.mk #[82, 101, 99]) 4).elem)), .d (D.i .i64 1), .d (D.s (ByteArray.mk #[68])), .d (D.b ((f39 5 (ByteArray.mk #[82, 101, 99]) 4).has)), .d (D.i .i64 ((f39 5 (ByteArray.mk #[82, 101, 99]) 4).default_)), .d (.sl (List.map E56 ((f39 5 (ByteArray.mk #[82, 101, 99]) 4).comps))), .d (D.i .i64 ((f39 5 (ByteArray.mk #[82, 101, 99]) 4).target)), .d (D.i .u8 ((f39 5 (ByteArray.mk #[82, 101, 99]) 4).formal)), .d (D.b ((f39 5 (ByteArray.mk #[82, 101, 99]) 4).limited)), .d (D.i .i64 ((f39 5 (ByteArray.mk #[82, 101, 99]) 4).priv)), .d (D.i .i64 ((f39 5 (ByteArray.mk #[82, 101, 99]) 4).full)), .d (D.i .i64 ((f39 5 (ByteArray.mk #[82, 101, 99]) 4).level))]]) rfl ?_
 refine WL.qn (y_fieldAddr f54_9 rfl) rfl ?_
 refine WL.s0 (d_store rfl rfl rfl rfl rfl rfl s4 rfl rfl) (Wt.none rfl) rfl ?_
 refine WL.st (st' := [.row 28 [.d (.v (.slice none 0 0)), .d (.v (.slice none 0 0)), .d (.v (SlV.v (SlV.mk none 0 0))), .d (.v (SlV.v (SlV.mk none 0 0))), .d (.v (SlV.v (SlV.mk none 0 0)))], .row 54 [.d (D.i .u8 ((f39 3 (ByteArray.mk #[67, 111, 108, 111, 114]) 1).kind)), .d (D.s ((f39 3 (ByteArray.mk #[67, 111, 108, 111, 114]) 1).name)), .d (D.i .i64 ((f39 3 (ByteArray.mk #[67, 111, 108, 111, 114]) 1).parent)), .d (D.i .i64 ((f39 3 (ByteArray.mk #[67, 111, 108, 111, 114]) 1).first)), .os 2 0, .d (D.i .i64 ((f39 3 (ByteArray.mk #[67, 111, 108, 111, 114]) 1).index)), .d (D.i .i64 ((f39 3 (ByteArray.mk #[67, 111, 108, 111, 114]) 1).elem)), .d (D.i .i64 ((f39 3 (ByteArray.mk #[67, 111, 108, 111, 114]) 1).disc)), .d (D.s ((f39 3 (ByteArray.mk #[67, 111, 108, 111, 114]) 1).discName)), .d (D.b ((f39 3 (ByteArray.mk #[67, 111, 108, 111, 114]) 1).has)), .d (D.i .i64 ((f39 3 (ByteArray.mk #[67, 111, 108, 111, 114]) 1).default_)), .d (.sl (List.map E56 ((f39 3 (ByteArray.mk #[67, 111, 108, 111, 114]) 1).comps))), .d (D.i .i64 ((f39 3 (ByteArray.mk #[67, 111, 108, 111, 114]) 1).target)), .d (D.i .u8 ((f39 3 (ByteArray.mk #[67, 111, 108, 111, 114]) 1).formal)), .d (D.b ((f39 3 (ByteArray.mk #[67, 111, 108, 111, 114]) 1).limited)), .d (D.i .i64 ((f39 3 (ByteArray.mk #[67, 111, 108, 111, 114]) 1).priv)), .d (D.i .i64 ((f39 3 (ByteArray.mk #[67, 111, 108, 111, 114]) 1).full)), .d (D.i .i64 ((f39 3 (ByteArray.mk #[67, 111, 108, 111, 114]) 1).level))], .os 9 1 0 (List.map (encA E9) [(ByteArray.mk #[82, 101, 100]), (ByteArray.mk #[71, 114, 101, 101, 110])]), .row 54 [.d (D.i .u8 ((f39 4 (ByteArray.mk #[82, 111, 119]) 3).kind)), .d (D.s ((f39 4 (ByteArray.mk #[82, 111, 119]) 3).name)), .d (D.i .i64 ((f39 4 (ByteArray.mk #[82, 111, 119]) 3).parent)), .d (D.i .i64 ((f39 4 (ByteArray.mk #[82, 111, 119]) 3).first)), .d (.sl (List.map E9 ((f39 4 (ByteArray.mk #[82, 111, 119]) 3).lits))), .d (D.i .i64 2), .d (D.i .i64 0), .d (D.i .i64 ((f39 4 (ByteArray.mk #[82, 111, 119]) 3).disc)), .d (D.s ((f39 4 (ByteArray.mk #[82, 111, 119]) 3).discName)), .d (D.b ((f39 4 (ByteArray.mk #[82, 111, 119]) 3).has)), .d (D.i .i64 ((f39 4 (ByteArray.mk #[82, 111, 119]) 3).default_)), .d (.sl (List.map E56 ((f39 4 (ByteArray.mk #[82, 111, 119]) 3).comps))), .d (D.i .i64 ((f39 4 (ByteArray.mk #[82, 111, 119]) 3).target)), .d (D.i .u8 ((f39 4 (ByteArray.mk #[82, 111, 119]) 3).formal)), .d (D.b ((f39 4 (ByteArray.mk #[82, 111, 119]) 3).limited)), .d (D.i .i64 ((f39 4 (ByteArray.mk #[82, 111, 119]) 3).priv)), .d (D.i .i64 ((f39 4 (ByteArray.mk #[82, 111, 119]) 3).full)), .d (D.i .i64 ((f39 4 (ByteArray.mk #[82, 111, 119]) 3).level))], .row 54 [.d (D.i .u8 ((f39 5 (ByteArray.mk #[82, 101, 99]) 4).kind)), .d (D.s ((f39 5 (ByteArray.mk #[82, 101, 99]) 4).name)), .d (D.i .i64 ((f39 5 (ByteArray.mk #[82, 101, 99]) 4).parent)), .d (D.i .i64 ((f39 5 (ByteArray.mk #[82, 101, 99]) 4).first)), .d (.sl (List.map E9 ((f39 5 (ByteArray.mk #[82, 101, 99]) 4).lits))), .d (D.i .i64 ((f39 5 (ByteArray.mk #[82, 101, 99]) 4).index)), .d (D.i .i64 ((f39 5 (ByteArray.mk #[82, 101, 99]) 4).elem)), .d (D.i .i64 1), .d (D.s (ByteArray.mk #[68])), .d (D.b true), .d (D.i .i64 ((f39 5 (ByteArray.mk #[82, 101, 99]) 4).default_)), .d (.sl (List.map E56 ((f39 5 (ByteArray.mk #[82, 101, 99]) 4).comps))), .d (D.i .i64 ((f39 5 (ByteArray.mk #[82, 101, 99]) 4).target)), .d (D.i .u8 ((f39 5 (ByteArray.mk #[82, 101, 99]) 4).formal)), .d (D.b ((f39 5 (ByteArray.mk #[82, 101, 99]) 4).limited)), .d (D.i .i64 ((f39 5 (ByteArray.mk #[82, 101, 99]) 4).priv)), .d (D.i .i64 ((f39 5 (ByteArray.mk #[82, 101, 99]) 4).full)), .d (D.i .i64 ((f39 5 (ByteArray.mk #[82, 101, 99]) 4).level))]]) rfl ?_
 refine WL.qn (y_fieldAddr f54_10 rfl) rfl ?_
 refine WL.s0 (d_store rfl rfl rfl rfl rfl rfl s2 rfl rfl) (Wt.none rfl) rfl ?_
 refine WL.st (st' := [.row 28 [.d (.v (.slice none 0 0)), .d (.v (.slice none 0 0)), .d (.v (SlV.v (SlV.mk none 0 0))), .d (.v (SlV.v (SlV.mk none 0 0))), .d (.v (SlV.v (SlV.mk none 0 0)))], .row 54 [.d (D.i .u8 ((f39 3 (ByteArray.mk #[67, 111, 108, 111, 114]) 1).kind)), .d (D.s ((f39 3 (ByteArray.mk #[67, 111, 108, 111, 114]) 1).name)), .d (D.i .i64 ((f39 3 (ByteArray.mk #[67, 111, 108, 111, 114]) 1).parent)), .d (D.i .i64 ((f39 3 (ByteArray.mk #[67, 111, 108, 111, 114]) 1).first)), .os 2 0, .d (D.i .i64 ((f39 3 (ByteArray.mk #[67, 111, 108, 111, 114]) 1).index)), .d (D.i .i64 ((f39 3 (ByteArray.mk #[67, 111, 108, 111, 114]) 1).elem)), .d (D.i .i64 ((f39 3 (ByteArray.mk #[67, 111, 108, 111, 114]) 1).disc)), .d (D.s ((f39 3 (ByteArray.mk #[67, 111, 108, 111, 114]) 1).discName)), .d (D.b ((f39 3 (ByteArray.mk #[67, 111, 108, 111, 114]) 1).has)), .d (D.i .i64 ((f39 3 (ByteArray.mk #[67, 111, 108, 111, 114]) 1).default_)), .d (.sl (List.map E56 ((f39 3 (ByteArray.mk #[67, 111, 108, 111, 114]) 1).comps))), .d (D.i .i64 ((f39 3 (ByteArray.mk #[67, 111, 108, 111, 114]) 1).target)), .d (D.i .u8 ((f39 3 (ByteArray.mk #[67, 111, 108, 111, 114]) 1).formal)), .d (D.b ((f39 3 (ByteArray.mk #[67, 111, 108, 111, 114]) 1).limited)), .d (D.i .i64 ((f39 3 (ByteArray.mk #[67, 111, 108, 111, 114]) 1).priv)), .d (D.i .i64 ((f39 3 (ByteArray.mk #[67, 111, 108, 111, 114]) 1).full)), .d (D.i .i64 ((f39 3 (ByteArray.mk #[67, 111, 108, 111, 114]) 1).level))], .os 9 1 0 (List.map (encA E9) [(ByteArray.mk #[82, 101, 100]), (ByteArray.mk #[71, 114, 101, 101, 110])]), .row 54 [.d (D.i .u8 ((f39 4 (ByteArray.mk #[82, 111, 119]) 3).kind)), .d (D.s ((f39 4 (ByteArray.mk #[82, 111, 119]) 3).name)), .d (D.i .i64 ((f39 4 (ByteArray.mk #[82, 111, 119]) 3).parent)), .d (D.i .i64 ((f39 4 (ByteArray.mk #[82, 111, 119]) 3).first)), .d (.sl (List.map E9 ((f39 4 (ByteArray.mk #[82, 111, 119]) 3).lits))), .d (D.i .i64 2), .d (D.i .i64 0), .d (D.i .i64 ((f39 4 (ByteArray.mk #[82, 111, 119]) 3).disc)), .d (D.s ((f39 4 (ByteArray.mk #[82, 111, 119]) 3).discName)), .d (D.b ((f39 4 (ByteArray.mk #[82, 111, 119]) 3).has)), .d (D.i .i64 ((f39 4 (ByteArray.mk #[82, 111, 119]) 3).default_)), .d (.sl (List.map E56 ((f39 4 (ByteArray.mk #[82, 111, 119]) 3).comps))), .d (D.i .i64 ((f39 4 (ByteArray.mk #[82, 111, 119]) 3).target)), .d (D.i .u8 ((f39 4 (ByteArray.mk #[82, 111, 119]) 3).formal)), .d (D.b ((f39 4 (ByteArray.mk #[82, 111, 119]) 3).limited)), .d (D.i .i64 ((f39 4 (ByteArray.mk #[82, 111, 119]) 3).priv)), .d (D.i .i64 ((f39 4 (ByteArray.mk #[82, 111, 119]) 3).full)), .d (D.i .i64 ((f39 4 (ByteArray.mk #[82, 111, 119]) 3).level))], .row 54 [.d (D.i .u8 ((f39 5 (ByteArray.mk #[82, 101, 99]) 4).kind)), .d (D.s ((f39 5 (ByteArray.mk #[82, 101, 99]) 4).name)), .d (D.i .i64 ((f39 5 (ByteArray.mk #[82, 101, 99]) 4).parent)), .d (D.i .i64 ((f39 5 (ByteArray.mk #[82, 101, 99]) 4).first)), .d (.sl (List.map E9 ((f39 5 (ByteArray.mk #[82, 101, 99]) 4).lits))), .d (D.i .i64 ((f39 5 (ByteArray.mk #[82, 101, 99]) 4).index)), .d (D.i .i64 ((f39 5 (ByteArray.mk #[82, 101, 99]) 4).elem)), .d (D.i .i64 1), .d (D.s (ByteArray.mk #[68])), .d (D.b true), .d (D.i .i64 1), .d (.sl (List.map E56 ((f39 5 (ByteArray.mk #[82, 101, 99]) 4).comps))), .d (D.i .i64 ((f39 5 (ByteArray.mk #[82, 101, 99]) 4).target)), .d (D.i .u8 ((f39 5 (ByteArray.mk #[82, 101, 99]) 4).formal)), .d (D.b ((f39 5 (ByteArray.mk #[82, 101, 99]) 4).limited)), .d (D.i .i64 ((f39 5 (ByteArray.mk #[82, 101, 99]) 4).priv)), .d (D.i .i64 ((f39 5 (ByteArray.mk #[82, 101, 99]) 4).full)), .d (D.i .i64 ((f39 5 (ByteArray.mk #[82, 101, 99]) 4).level))]]) rfl ?_
 refine WL.ns ?_
 refine wc_sr ?_
 refine WL.qn (y_build p56 z56 rfl rfl) rfl ?_
 refine WL.s ((NewOs.b (n_buildSlice l41 z2 rfl (by decide) (by decide) rfl rfl rfl (by decide))).does) (Wt.none rfl) rfl rfl ?_
 refine WL.freezeX [16] [] 5 (List.map E2 [1]) rfl (encA_map E2_eq [1]) ⟨rfl, trivial⟩ trivial ?_
 refine WL.qn (y_build p56 z56 rfl rfl) rfl ?_
 refine WL.s ((NewOs.b (NewOs.weak (es' := List.map (encA R56) [(CompRow.mk (ByteArray.mk #[120]) 0 false 0 false []), (CompRow.mk (ByteArray.mk #[121]) 2 true 7 true [1])]) (n_buildSlice l51 z56 rfl (by decide) (by decide) rfl rfl rfl (by decide)) (by exact ⟨⟨(Le.refl _), (Le.refl _), (Le.refl _), (Le.refl _), (Le.refl _), Le.nil, trivial⟩, ⟨(Le.refl _), (Le.refl _), (Le.refl _), (Le.refl _), (Le.refl _), (Le.refl _), trivial⟩, trivial⟩))).does) (Wt.none rfl) rfl rfl ?_
 refine WL.qn (y_fieldAddr f54_11 rfl) rfl ?_
 refine WL.s0 (d_store1 rfl rfl rfl (one_os rfl) s51 rfl) (Wt.none rfl) rfl ?_
 refine WL.st (st' := [.row 28 [.d (.v (.slice none 0 0)), .d (.v (.slice none 0 0)), .d (.v (SlV.v (SlV.mk none 0 0))), .d (.v (SlV.v (SlV.mk none 0 0))), .d (.v (SlV.v (SlV.mk none 0 0)))], .row 54 [.d (D.i .u8 ((f39 3 (ByteArray.mk #[67, 111, 108, 111, 114]) 1).kind)), .d (D.s ((f39 3 (ByteArray.mk #[67, 111, 108, 111, 114]) 1).name)), .d (D.i .i64 ((f39 3 (ByteArray.mk #[67, 111, 108, 111, 114]) 1).parent)), .d (D.i .i64 ((f39 3 (ByteArray.mk #[67, 111, 108, 111, 114]) 1).first)), .os 2 0, .d (D.i .i64 ((f39 3 (ByteArray.mk #[67, 111, 108, 111, 114]) 1).index)), .d (D.i .i64 ((f39 3 (ByteArray.mk #[67, 111, 108, 111, 114]) 1).elem)), .d (D.i .i64 ((f39 3 (ByteArray.mk #[67, 111, 108, 111, 114]) 1).disc)), .d (D.s ((f39 3 (ByteArray.mk #[67, 111, 108, 111, 114]) 1).discName)), .d (D.b ((f39 3 (ByteArray.mk #[67, 111, 108, 111, 114]) 1).has)), .d (D.i .i64 ((f39 3 (ByteArray.mk #[67, 111, 108, 111, 114]) 1).default_)), .d (.sl (List.map E56 ((f39 3 (ByteArray.mk #[67, 111, 108, 111, 114]) 1).comps))), .d (D.i .i64 ((f39 3 (ByteArray.mk #[67, 111, 108, 111, 114]) 1).target)), .d (D.i .u8 ((f39 3 (ByteArray.mk #[67, 111, 108, 111, 114]) 1).formal)), .d (D.b ((f39 3 (ByteArray.mk #[67, 111, 108, 111, 114]) 1).limited)), .d (D.i .i64 ((f39 3 (ByteArray.mk #[67, 111, 108, 111, 114]) 1).priv)), .d (D.i .i64 ((f39 3 (ByteArray.mk #[67, 111, 108, 111, 114]) 1).full)), .d (D.i .i64 ((f39 3 (ByteArray.mk #[67, 111, 108, 111, 114]) 1).level))], .os 9 1 0 (List.map (encA E9) [(ByteArray.mk #[82, 101, 100]), (ByteArray.mk #[71, 114, 101, 101, 110])]), .row 54 [.d (D.i .u8 ((f39 4 (ByteArray.mk #[82, 111, 119]) 3).kind)), .d (D.s ((f39 4 (ByteArray.mk #[82, 111, 119]) 3).name)), .d (D.i .i64 ((f39 4 (ByteArray.mk #[82, 111, 119]) 3).parent)), .d (D.i .i64 ((f39 4 (ByteArray.mk #[82, 111, 119]) 3).first)), .d (.sl (List.map E9 ((f39 4 (ByteArray.mk #[82, 111, 119]) 3).lits))), .d (D.i .i64 2), .d (D.i .i64 0), .d (D.i .i64 ((f39 4 (ByteArray.mk #[82, 111, 119]) 3).disc)), .d (D.s ((f39 4 (ByteArray.mk #[82, 111, 119]) 3).discName)), .d (D.b ((f39 4 (ByteArray.mk #[82, 111, 119]) 3).has)), .d (D.i .i64 ((f39 4 (ByteArray.mk #[82, 111, 119]) 3).default_)), .d (.sl (List.map E56 ((f39 4 (ByteArray.mk #[82, 111, 119]) 3).comps))), .d (D.i .i64 ((f39 4 (ByteArray.mk #[82, 111, 119]) 3).target)), .d (D.i .u8 ((f39 4 (ByteArray.mk #[82, 111, 119]) 3).formal)), .d (D.b ((f39 4 (ByteArray.mk #[82, 111, 119]) 3).limited)), .d (D.i .i64 ((f39 4 (ByteArray.mk #[82, 111, 119]) 3).priv)), .d (D.i .i64 ((f39 4 (ByteArray.mk #[82, 111, 119]) 3).full)), .d (D.i .i64 ((f39 4 (ByteArray.mk #[82, 111, 119]) 3).level))], .row 54 [.d (D.i .u8 ((f39 5 (ByteArray.mk #[82, 101, 99]) 4).kind)), .d (D.s ((f39 5 (ByteArray.mk #[82, 101, 99]) 4).name)), .d (D.i .i64 ((f39 5 (ByteArray.mk #[82, 101, 99]) 4).parent)), .d (D.i .i64 ((f39 5 (ByteArray.mk #[82, 101, 99]) 4).first)), .d (.sl (List.map E9 ((f39 5 (ByteArray.mk #[82, 101, 99]) 4).lits))), .d (D.i .i64 ((f39 5 (ByteArray.mk #[82, 101, 99]) 4).index)), .d (D.i .i64 ((f39 5 (ByteArray.mk #[82, 101, 99]) 4).elem)), .d (D.i .i64 1), .d (D.s (ByteArray.mk #[68])), .d (D.b true), .d (D.i .i64 1), .os 6 0, .d (D.i .i64 ((f39 5 (ByteArray.mk #[82, 101, 99]) 4).target)), .d (D.i .u8 ((f39 5 (ByteArray.mk #[82, 101, 99]) 4).formal)), .d (D.b ((f39 5 (ByteArray.mk #[82, 101, 99]) 4).limited)), .d (D.i .i64 ((f39 5 (ByteArray.mk #[82, 101, 99]) 4).priv)), .d (D.i .i64 ((f39 5 (ByteArray.mk #[82, 101, 99]) 4).full)), .d (D.i .i64 ((f39 5 (ByteArray.mk #[82, 101, 99]) 4).level))], .dead, .os 56 6 0 (List.map (encA R56) [(CompRow.mk (ByteArray.mk #[120]) 0 false 0 false []), (CompRow.mk (ByteArray.mk #[121]) 2 true 7 true [1])])]) rfl ?_
 refine WL.ns ?_
 refine wc_seq ?_
 refine WC.freezeX [5] [(1, 4)] 2 (List.map E9 [(ByteArray.mk #[82, 101, 100]), (ByteArray.mk #[71, 114, 101, 101, 110])]) rfl (encA_map E9_eq [(ByteArray.mk #[82, 101, 100]), (ByteArray.mk #[71, 114, 101, 101, 110])]) ⟨rfl, trivial⟩ ⟨_, _, rfl, rfl, trivial⟩ ?_
 refine WC.freezeX [18] [(4, 11)] 6 (List.map E56 [(CompRow.mk (ByteArray.mk #[120]) 0 false 0 false []), (CompRow.mk (ByteArray.mk #[121]) 2 true 7 true [1])]) rfl (encA_map E56_eq [(CompRow.mk (ByteArray.mk #[120]) 0 false 0 false []), (CompRow.mk (ByteArray.mk #[121]) 2 true 7 true [1])]) ⟨rfl, trivial⟩ ⟨_, _, rfl, rfl, trivial⟩ ?_
 apply wc_region_all [_, _, _, _, _, _, _, _, _, _, _, _, _, _, .u] [[], [0], [], [], [], [0, 1, 2, 3, 4], [], [], [], [], [], [], [6, 7, 8, 9, 10, 11], [0, 1, 2, 3, 4, 5, 6, 7, 8, 9, 10, 11, 12], [0, 1, 2, 3, 4, 5, 6, 7, 8, 9, 10, 11, 12, 13]] [14] (fun c => List.getD [[.row 28 [.d (.v (.slice none 0 0)), .d (.v (.slice none 0 0)), .d (.v (SlV.v (SlV.mk none 0 0))), .d (.v (SlV.v (SlV.mk none 0 0))), .d (.v (SlV.v (SlV.mk none 0 0)))], .row 54 [.d (D.i .u8 ((f39 3 (ByteArray.mk #[67, 111, 108, 111, 114]) 1).kind)), .d (D.s ((f39 3 (ByteArray.mk #[67, 111, 108, 111, 114]) 1).name)), .d (D.i .i64 ((f39 3 (ByteArray.mk #[67, 111, 108, 111, 114]) 1).parent)), .d (D.i .i64 ((f39 3 (ByteArray.mk #[67, 111, 108, 111, 114]) 1).first)), .d (.sl (List.map E9 [(ByteArray.mk #[82, 101, 100]), (ByteArray.mk #[71, 114, 101, 101, 110])])), .d (D.i .i64 ((f39 3 (ByteArray.mk #[67, 111, 108, 111, 114]) 1).index)), .d (D.i .i64 ((f39 3 (ByteArray.mk #[67, 111, 108, 111, 114]) 1).elem)), .d (D.i .i64 ((f39 3 (ByteArray.mk #[67, 111, 108, 111, 114]) 1).disc)), .d (D.s ((f39 3 (ByteArray.mk #[67, 111, 108, 111, 114]) 1).discName)), .d (D.b ((f39 3 (ByteArray.mk #[67, 111, 108, 111, 114]) 1).has)), .d (D.i .i64 ((f39 3 (ByteArray.mk #[67, 111, 108, 111, 114]) 1).default_)), .d (.sl (List.map E56 ((f39 3 (ByteArray.mk #[67, 111, 108, 111, 114]) 1).comps))), .d (D.i .i64 ((f39 3 (ByteArray.mk #[67, 111, 108, 111, 114]) 1).target)), .d (D.i .u8 ((f39 3 (ByteArray.mk #[67, 111, 108, 111, 114]) 1).formal)), .d (D.b ((f39 3 (ByteArray.mk #[67, 111, 108, 111, 114]) 1).limited)), .d (D.i .i64 ((f39 3 (ByteArray.mk #[67, 111, 108, 111, 114]) 1).priv)), .d (D.i .i64 ((f39 3 (ByteArray.mk #[67, 111, 108, 111, 114]) 1).full)), .d (D.i .i64 ((f39 3 (ByteArray.mk #[67, 111, 108, 111, 114]) 1).level))], .dead, .row 54 [.d (D.i .u8 ((f39 4 (ByteArray.mk #[82, 111, 119]) 3).kind)), .d (D.s ((f39 4 (ByteArray.mk #[82, 111, 119]) 3).name)), .d (D.i .i64 ((f39 4 (ByteArray.mk #[82, 111, 119]) 3).parent)), .d (D.i .i64 ((f39 4 (ByteArray.mk #[82, 111, 119]) 3).first)), .d (.sl (List.map E9 ((f39 4 (ByteArray.mk #[82, 111, 119]) 3).lits))), .d (D.i .i64 2), .d (D.i .i64 0), .d (D.i .i64 ((f39 4 (ByteArray.mk #[82, 111, 119]) 3).disc)), .d (D.s ((f39 4 (ByteArray.mk #[82, 111, 119]) 3).discName)), .d (D.b ((f39 4 (ByteArray.mk #[82, 111, 119]) 3).has)), .d (D.i .i64 ((f39 4 (ByteArray.mk #[82, 111, 119]) 3).default_)), .d (.sl (List.map E56 ((f39 4 (ByteArray.mk #[82, 111, 119]) 3).comps))), .d (D.i .i64 ((f39 4 (ByteArray.mk #[82, 111, 119]) 3).target)), .d (D.i .u8 ((f39 4 (ByteArray.mk #[82, 111, 119]) 3).formal)), .d (D.b ((f39 4 (ByteArray.mk #[82, 111, 119]) 3).limited)), .d (D.i .i64 ((f39 4 (ByteArray.mk #[82, 111, 119]) 3).priv)), .d (D.i .i64 ((f39 4 (ByteArray.mk #[82, 111, 119]) 3).full)), .d (D.i .i64 ((f39 4 (ByteArray.mk #[82, 111, 119]) 3).level))], .row 54 [.d (D.i .u8 ((f39 5 (ByteArray.mk #[82, 101, 99]) 4).kind)), .d (D.s ((f39 5 (ByteArray.mk #[82, 101, 99]) 4).name)), .d (D.i .i64 ((f39 5 (ByteArray.mk #[82, 101, 99]) 4).parent)), .d (D.i .i64 ((f39 5 (ByteArray.mk #[82, 101, 99]) 4).first)), .d (.sl (List.map E9 ((f39 5 (ByteArray.mk #[82, 101, 99]) 4).lits))), .d (D.i .i64 ((f39 5 (ByteArray.mk #[82, 101, 99]) 4).index)), .d (D.i .i64 ((f39 5 (ByteArray.mk #[82, 101, 99]) 4).elem)), .d (D.i .i64 1), .d (D.s (ByteArray.mk #[68])), .d (D.b true), .d (D.i .i64 1), .d (.sl (List.map E56 [(CompRow.mk (ByteArray.mk #[120]) 0 false 0 false []), (CompRow.mk (ByteArray.mk #[121]) 2 true 7 true [1])])), .d (D.i .i64 ((f39 5 (ByteArray.mk #[82, 101, 99]) 4).target)), .d (D.i .u8 ((f39 5 (ByteArray.mk #[82, 101, 99]) 4).formal)), .d (D.b ((f39 5 (ByteArray.mk #[82, 101, 99]) 4).limited)), .d (D.i .i64 ((f39 5 (ByteArray.mk #[82, 101, 99]) 4).priv)), .d (D.i .i64 ((f39 5 (ByteArray.mk #[82, 101, 99]) 4).full)), .d (D.i .i64 ((f39 5 (ByteArray.mk #[82, 101, 99]) 4).level))], .dead, .dead], [.row 28 [.d (.sl (List.map E54 [(f37 1), (f39 2 (ByteArray.mk #[73, 110, 116, 101, 103, 101, 114]) 0), (Ty.mk ((f39 3 (ByteArray.mk #[67, 111, 108, 111, 114]) 1).kind) ((f39 3 (ByteArray.mk #[67, 111, 108, 111, 114]) 1).name) ((f39 3 (ByteArray.mk #[67, 111, 108, 111, 114]) 1).parent) ((f39 3 (ByteArray.mk #[67, 111, 108, 111, 114]) 1).first) [(ByteArray.mk #[82, 101, 100]), (ByteArray.mk #[71, 114, 101, 101, 110])] ((f39 3 (ByteArray.mk #[67, 111, 108, 111, 114]) 1).index) ((f39 3 (ByteArray.mk #[67, 111, 108, 111, 114]) 1).elem) ((f39 3 (ByteArray.mk #[67, 111, 108, 111, 114]) 1).disc) ((f39 3 (ByteArray.mk #[67, 111, 108, 111, 114]) 1).discName) ((f39 3 (ByteArray.mk #[67, 111, 108, 111, 114]) 1).has) ((f39 3 (ByteArray.mk #[67, 111, 108, 111, 114]) 1).default_) ((f39 3 (ByteArray.mk #[67, 111, 108, 111, 114]) 1).comps) ((f39 3 (ByteArray.mk #[67, 111, 108, 111, 114]) 1).target) ((f39 3 (ByteArray.mk #[67, 111, 108, 111, 114]) 1).formal) ((f39 3 (ByteArray.mk #[67, 111, 108, 111, 114]) 1).limited) ((f39 3 (ByteArray.mk #[67, 111, 108, 111, 114]) 1).priv) ((f39 3 (ByteArray.mk #[67, 111, 108, 111, 114]) 1).full) ((f39 3 (ByteArray.mk #[67, 111, 108, 111, 114]) 1).level)), (Ty.mk ((f39 4 (ByteArray.mk #[82, 111, 119]) 3).kind) ((f39 4 (ByteArray.mk #[82, 111, 119]) 3).name) ((f39 4 (ByteArray.mk #[82, 111, 119]) 3).parent) ((f39 4 (ByteArray.mk #[82, 111, 119]) 3).first) ((f39 4 (ByteArray.mk #[82, 111, 119]) 3).lits) 2 0 ((f39 4 (ByteArray.mk #[82, 111, 119]) 3).disc) ((f39 4 (ByteArray.mk #[82, 111, 119]) 3).discName) ((f39 4 (ByteArray.mk #[82, 111, 119]) 3).has) ((f39 4 (ByteArray.mk #[82, 111, 119]) 3).default_) ((f39 4 (ByteArray.mk #[82, 111, 119]) 3).comps) ((f39 4 (ByteArray.mk #[82, 111, 119]) 3).target) ((f39 4 (ByteArray.mk #[82, 111, 119]) 3).formal) ((f39 4 (ByteArray.mk #[82, 111, 119]) 3).limited) ((f39 4 (ByteArray.mk #[82, 111, 119]) 3).priv) ((f39 4 (ByteArray.mk #[82, 111, 119]) 3).full) ((f39 4 (ByteArray.mk #[82, 111, 119]) 3).level)), (Ty.mk ((f39 5 (ByteArray.mk #[82, 101, 99]) 4).kind) ((f39 5 (ByteArray.mk #[82, 101, 99]) 4).name) ((f39 5 (ByteArray.mk #[82, 101, 99]) 4).parent) ((f39 5 (ByteArray.mk #[82, 101, 99]) 4).first) ((f39 5 (ByteArray.mk #[82, 101, 99]) 4).lits) ((f39 5 (ByteArray.mk #[82, 101, 99]) 4).index) ((f39 5 (ByteArray.mk #[82, 101, 99]) 4).elem) 1 (ByteArray.mk #[68]) true 1 [(CompRow.mk (ByteArray.mk #[120]) 0 false 0 false []), (CompRow.mk (ByteArray.mk #[121]) 2 true 7 true [1])] ((f39 5 (ByteArray.mk #[82, 101, 99]) 4).target) ((f39 5 (ByteArray.mk #[82, 101, 99]) 4).formal) ((f39 5 (ByteArray.mk #[82, 101, 99]) 4).limited) ((f39 5 (ByteArray.mk #[82, 101, 99]) 4).priv) ((f39 5 (ByteArray.mk #[82, 101, 99]) 4).full) ((f39 5 (ByteArray.mk #[82, 101, 99]) 4).level))])), .d (.sl (List.map E40 [(Subt.mk 1 (-2147483648) 2147483647), (Subt.mk 2 0 1), (Subt.mk 1 5 9), (Subt.mk 3 0 0), (Subt.mk 4 0 (-1)), (Subt.mk 4 0 0)])), .d (.v (SlV.v (SlV.mk none 0 0))), .d (.v (SlV.v (SlV.mk none 0 0))), .d (.v (SlV.v (SlV.mk none 0 0)))], .row 54 [.d (D.i .u8 ((f39 3 (ByteArray.mk #[67, 111, 108, 111, 114]) 1).kind)), .d (D.s ((f39 3 (ByteArray.mk #[67, 111, 108, 111, 114]) 1).name)), .d (D.i .i64 ((f39 3 (ByteArray.mk #[67, 111, 108, 111, 114]) 1).parent)), .d (D.i .i64 ((f39 3 (ByteArray.mk #[67, 111, 108, 111, 114]) 1).first)), .d (.sl (List.map E9 [(ByteArray.mk #[82, 101, 100]), (ByteArray.mk #[71, 114, 101, 101, 110])])), .d (D.i .i64 ((f39 3 (ByteArray.mk #[67, 111, 108, 111, 114]) 1).index)), .d (D.i .i64 ((f39 3 (ByteArray.mk #[67, 111, 108, 111, 114]) 1).elem)), .d (D.i .i64 ((f39 3 (ByteArray.mk #[67, 111, 108, 111, 114]) 1).disc)), .d (D.s ((f39 3 (ByteArray.mk #[67, 111, 108, 111, 114]) 1).discName)), .d (D.b ((f39 3 (ByteArray.mk #[67, 111, 108, 111, 114]) 1).has)), .d (D.i .i64 ((f39 3 (ByteArray.mk #[67, 111, 108, 111, 114]) 1).default_)), .d (.sl (List.map E56 ((f39 3 (ByteArray.mk #[67, 111, 108, 111, 114]) 1).comps))), .d (D.i .i64 ((f39 3 (ByteArray.mk #[67, 111, 108, 111, 114]) 1).target)), .d (D.i .u8 ((f39 3 (ByteArray.mk #[67, 111, 108, 111, 114]) 1).formal)), .d (D.b ((f39 3 (ByteArray.mk #[67, 111, 108, 111, 114]) 1).limited)), .d (D.i .i64 ((f39 3 (ByteArray.mk #[67, 111, 108, 111, 114]) 1).priv)), .d (D.i .i64 ((f39 3 (ByteArray.mk #[67, 111, 108, 111, 114]) 1).full)), .d (D.i .i64 ((f39 3 (ByteArray.mk #[67, 111, 108, 111, 114]) 1).level))], .dead, .row 54 [.d (D.i .u8 ((f39 4 (ByteArray.mk #[82, 111, 119]) 3).kind)), .d (D.s ((f39 4 (ByteArray.mk #[82, 111, 119]) 3).name)), .d (D.i .i64 ((f39 4 (ByteArray.mk #[82, 111, 119]) 3).parent)), .d (D.i .i64 ((f39 4 (ByteArray.mk #[82, 111, 119]) 3).first)), .d (.sl (List.map E9 ((f39 4 (ByteArray.mk #[82, 111, 119]) 3).lits))), .d (D.i .i64 2), .d (D.i .i64 0), .d (D.i .i64 ((f39 4 (ByteArray.mk #[82, 111, 119]) 3).disc)), .d (D.s ((f39 4 (ByteArray.mk #[82, 111, 119]) 3).discName)), .d (D.b ((f39 4 (ByteArray.mk #[82, 111, 119]) 3).has)), .d (D.i .i64 ((f39 4 (ByteArray.mk #[82, 111, 119]) 3).default_)), .d (.sl (List.map E56 ((f39 4 (ByteArray.mk #[82, 111, 119]) 3).comps))), .d (D.i .i64 ((f39 4 (ByteArray.mk #[82, 111, 119]) 3).target)), .d (D.i .u8 ((f39 4 (ByteArray.mk #[82, 111, 119]) 3).formal)), .d (D.b ((f39 4 (ByteArray.mk #[82, 111, 119]) 3).limited)), .d (D.i .i64 ((f39 4 (ByteArray.mk #[82, 111, 119]) 3).priv)), .d (D.i .i64 ((f39 4 (ByteArray.mk #[82, 111, 119]) 3).full)), .d (D.i .i64 ((f39 4 (ByteArray.mk #[82, 111, 119]) 3).level))], .row 54 [.d (D.i .u8 ((f39 5 (ByteArray.mk #[82, 101, 99]) 4).kind)), .d (D.s ((f39 5 (ByteArray.mk #[82, 101, 99]) 4).name)), .d (D.i .i64 ((f39 5 (ByteArray.mk #[82, 101, 99]) 4).parent)), .d (D.i .i64 ((f39 5 (ByteArray.mk #[82, 101, 99]) 4).first)), .d (.sl (List.map E9 ((f39 5 (ByteArray.mk #[82, 101, 99]) 4).lits))), .d (D.i .i64 ((f39 5 (ByteArray.mk #[82, 101, 99]) 4).index)), .d (D.i .i64 ((f39 5 (ByteArray.mk #[82, 101, 99]) 4).elem)), .d (D.i .i64 1), .d (D.s (ByteArray.mk #[68])), .d (D.b true), .d (D.i .i64 1), .d (.sl (List.map E56 [(CompRow.mk (ByteArray.mk #[120]) 0 false 0 false []), (CompRow.mk (ByteArray.mk #[121]) 2 true 7 true [1])])), .d (D.i .i64 ((f39 5 (ByteArray.mk #[82, 101, 99]) 4).target)), .d (D.i .u8 ((f39 5 (ByteArray.mk #[82, 101, 99]) 4).formal)), .d (D.b ((f39 5 (ByteArray.mk #[82, 101, 99]) 4).limited)), .d (D.i .i64 ((f39 5 (ByteArray.mk #[82, 101, 99]) 4).priv)), .d (D.i .i64 ((f39 5 (ByteArray.mk #[82, 101, 99]) 4).full)), .d (D.i .i64 ((f39 5 (ByteArray.mk #[82, 101, 99]) 4).level))], .dead, .dead]] c []) [([], [], [0]), ([], [], [0]), ([], [1], [0]), ([], [2], [0]), ([], [3], [0]), ([0, 1, 2, 3, 4], [], [0]), ([], [], [0]), ([], [], [0]), ([], [], [0]), ([], [], [0]), ([], [], [0]), ([], [], [0]), ([6, 7, 8, 9, 10, 11], [], [0]), ([5, 12], [], [0]), ([13], [0], [0])] (by kernel_rfl) (by kernel_rfl) rfl rfl rfl
 ·refine ⟨?_, ?_, ?_, ?_, ?_, ?_, ?_, ?_, ?_, ?_, ?_, ?_, ?_, ?_, ?_, trivial⟩
  ·refine ⟨fun F => ?_, trivial⟩
   refine WL.fn rfl rfl rfl rfl (f37_c _) ⟨(Le.refl _), trivial⟩ (Wt.none rfl) rfl rfl ?_
   exact WL.done1 rfl rfl rfl
  ·refine ⟨fun F => ?_, trivial⟩
   refine WL.fn rfl rfl rfl rfl (f39_c _ _ _) ⟨(Le.refl _), (Le.refl _), (Le.refl _), trivial⟩ (Wt.none rfl) rfl rfl ?_
   exact WL.done1 rfl rfl rfl
  ·refine ⟨fun F => ?_, trivial⟩
   refine WL.qn (y_loadN rfl rfl a54 s54 rfl) rfl ?_
   exact WL.done1 rfl rfl rfl
  ·refine ⟨fun F => ?_, trivial⟩
   refine WL.qn (y_loadN rfl rfl a54 s54 rfl) rfl ?_
   exact WL.done1 rfl rfl rfl
  ·refine ⟨fun F => ?_, trivial⟩
   refine WL.qn (y_loadN rfl rfl a54 s54 rfl) rfl ?_
   exact WL.done1 rfl rfl rfl
  ·refine ⟨fun F => ?_, trivial⟩
   refine WL.s ((NewOs.data (n_buildSlice l22 z54 rfl (by decide) (by decide) rfl rfl rfl (by decide)) (by exact encA_map E54_eq [(f37 1), (f39 2 (ByteArray.mk #[73, 110, 116, 101, 103, 101, 114]) 0), (Ty.mk ((f39 3 (ByteArray.mk #[67, 111, 108, 111, 114]) 1).kind) ((f39 3 (ByteArray.mk #[67, 111, 108, 111, 114]) 1).name) ((f39 3 (ByteArray.mk #[67, 111, 108, 111, 114]) 1).parent) ((f39 3 (ByteArray.mk #[67, 111, 108, 111, 114]) 1).first) [(ByteArray.mk #[82, 101, 100]), (ByteArray.mk #[71, 114, 101, 101, 110])] ((f39 3 (ByteArray.mk #[67, 111, 108, 111, 114]) 1).index) ((f39 3 (ByteArray.mk #[67, 111, 108, 111, 114]) 1).elem) ((f39 3 (ByteArray.mk #[67, 111, 108, 111, 114]) 1).disc) ((f39 3 (ByteArray.mk #[67, 111, 108, 111, 114]) 1).discName) ((f39 3 (ByteArray.mk #[67, 111, 108, 111, 114]) 1).has) ((f39 3 (ByteArray.mk #[67, 111, 108, 111, 114]) 1).default_) ((f39 3 (ByteArray.mk #[67, 111, 108, 111, 114]) 1).comps) ((f39 3 (ByteArray.mk #[67, 111, 108, 111, 114]) 1).target) ((f39 3 (ByteArray.mk #[67, 111, 108, 111, 114]) 1).formal) ((f39 3 (ByteArray.mk #[67, 111, 108, 111, 114]) 1).limited) ((f39 3 (ByteArray.mk #[67, 111, 108, 111, 114]) 1).priv) ((f39 3 (ByteArray.mk #[67, 111, 108, 111, 114]) 1).full) ((f39 3 (ByteArray.mk #[67, 111, 108, 111, 114]) 1).level)), (Ty.mk ((f39 4 (ByteArray.mk #[82, 111, 119]) 3).kind) ((f39 4 (ByteArray.mk #[82, 111, 119]) 3).name) ((f39 4 (ByteArray.mk #[82, 111, 119]) 3).parent) ((f39 4 (ByteArray.mk #[82, 111, 119]) 3).first) ((f39 4 (ByteArray.mk #[82, 111, 119]) 3).lits) 2 0 ((f39 4 (ByteArray.mk #[82, 111, 119]) 3).disc) ((f39 4 (ByteArray.mk #[82, 111, 119]) 3).discName) ((f39 4 (ByteArray.mk #[82, 111, 119]) 3).has) ((f39 4 (ByteArray.mk #[82, 111, 119]) 3).default_) ((f39 4 (ByteArray.mk #[82, 111, 119]) 3).comps) ((f39 4 (ByteArray.mk #[82, 111, 119]) 3).target) ((f39 4 (ByteArray.mk #[82, 111, 119]) 3).formal) ((f39 4 (ByteArray.mk #[82, 111, 119]) 3).limited) ((f39 4 (ByteArray.mk #[82, 111, 119]) 3).priv) ((f39 4 (ByteArray.mk #[82, 111, 119]) 3).full) ((f39 4 (ByteArray.mk #[82, 111, 119]) 3).level)), (Ty.mk ((f39 5 (ByteArray.mk #[82, 101, 99]) 4).kind) ((f39 5 (ByteArray.mk #[82, 101, 99]) 4).name) ((f39 5 (ByteArray.mk #[82, 101, 99]) 4).parent) ((f39 5 (ByteArray.mk #[82, 101, 99]) 4).first) ((f39 5 (ByteArray.mk #[82, 101, 99]) 4).lits) ((f39 5 (ByteArray.mk #[82, 101, 99]) 4).index) ((f39 5 (ByteArray.mk #[82, 101, 99]) 4).elem) 1 (ByteArray.mk #[68]) true 1 [(CompRow.mk (ByteArray.mk #[120]) 0 false 0 false []), (CompRow.mk (ByteArray.mk #[121]) 2 true 7 true [1])] ((f39 5 (ByteArray.mk #[82, 101, 99]) 4).target) ((f39 5 (ByteArray.mk #[82, 101, 99]) 4).formal) ((f39 5 (ByteArray.mk #[82, 101, 99]) 4).limited) ((f39 5 (ByteArray.mk #[82, 101, 99]) 4).priv) ((f39 5 (ByteArray.mk #[82, 101, 99]) 4).full) ((f39 5 (ByteArray.mk #[82, 101, 99]) 4).level))])).does) (Wt.none rfl) rfl rfl ?_
   exact WL.done1 rfl rfl rfl
  ·refine ⟨fun F => ?_, trivial⟩
   refine WL.qn (y_build p40 z40 rfl rfl) rfl ?_
   exact WL.done1 rfl rfl rfl
  ·refine ⟨fun F => ?_, trivial⟩
   refine WL.qn (y_build p40 z40 rfl rfl) rfl ?_
   exact WL.done1 rfl rfl rfl
  ·refine ⟨fun F => ?_, trivial⟩
   refine WL.qn (y_build p40 z40 rfl rfl) rfl ?_
   exact WL.done1 rfl rfl rfl
  ·refine ⟨fun F => ?_, trivial⟩
   refine WL.qn (y_build p40 z40 rfl rfl) rfl ?_
   exact WL.done1 rfl rfl rfl
  ·refine ⟨fun F => ?_, trivial⟩
   refine WL.qn (y_build p40 z40 rfl rfl) rfl ?_
   exact WL.done1 rfl rfl rfl
  ·refine ⟨fun F => ?_, trivial⟩
   refine WL.qn (y_build p40 z40 rfl rfl) rfl ?_
   exact WL.done1 rfl rfl rfl
  ·refine ⟨fun F => ?_, trivial⟩
   refine WL.s ((NewOs.data (n_buildSlice l23 z40 rfl (by decide) (by decide) rfl rfl rfl (by decide)) (by exact encA_map E40_eq [(Subt.mk 1 (-2147483648) 2147483647), (Subt.mk 2 0 1), (Subt.mk 1 5 9), (Subt.mk 3 0 0), (Subt.mk 4 0 (-1)), (Subt.mk 4 0 0)])).does) (Wt.none rfl) rfl rfl ?_
   exact WL.done1 rfl rfl rfl
  ·refine ⟨fun F => ?_, trivial⟩
   refine WL.qn (y_build p28 z28 rfl rfl) rfl ?_
   exact WL.done1 rfl rfl rfl
  ·refine ⟨fun F => ?_, trivial⟩
   refine WL.s0 (d_store rfl rfl rfl rfl rfl rfl s28 rfl rfl) (Wt.none rfl) rfl ?_
   exact WL.done0 rfl rfl
 ·refine we_seq ?_
  refine wc_ret ?_
  subst h
  exact we_ret_fn (rs1 rfl (rv_cN rfl rfl a28 s28 rfl)) (Le.agd ⟨(Le.refl _), (Le.refl _), (Le.refl _), (Le.refl _), (Le.refl _), trivial⟩)

theorem f17_c  {r : Bool} (h : f17  = some r) : Pu Tryd.prog 17 [] (.b r) := by
 unfold f17 at h
 refine fn_intro Tryd.func17 (by kernel_rfl) rfl rfl rfl (fun φφ ww => ?_)
 refine wc_sr ?_
 refine WL.as rfl rfl ?_
 refine WL.ns ?_
 refine wc_sr ?_
 refine WL.fn rfl rfl rfl rfl (f38_c) trivial (Wt.none rfl) rfl rfl ?_
 refine WL.s ((b_alloc z28).does) (Wt.none rfl) rfl rfl ?_
 refine WL.s0 (d_store rfl rfl rfl rfl rfl rfl s28 rfl rfl) (Wt.none rfl) rfl ?_
 refine WL.ns ?_
 refine wc_sr ?_
 refine WL.qn (y_loadN rfl rfl a28 s28 rfl) rfl ?_
 obtain ⟨r124, hr124, h⟩ := bindS h
 refine WL.fn rfl rfl rfl rfl (f11_c _ _ _ hr124) ⟨(Le.agd ⟨(Le.refl _), (Le.refl _), (Le.refl _), (Le.refl _), (Le.refl _), trivial⟩), (Le.refl _), (Le.refl _), trivial⟩ (Wt.none rfl) rfl rfl ?_
 refine WL.mv rfl rfl ?_
 refine WL.qn (y_extractd rfl rfl) rfl ?_
 refine WL.qn (y_extractd rfl rfl) rfl ?_
 refine WL.as rfl rfl ?_
 refine WL.as rfl rfl ?_
 refine WL.ns ?_
 refine wc_sr ?_
 refine WL.qn (y_loadN rfl rfl a28 s28 rfl) rfl ?_
 obtain ⟨r125, hr125, h⟩ := bindS h
 refine WL.fn rfl rfl rfl rfl (f11_c _ _ _ hr125) ⟨(Le.agd ⟨(Le.refl _), (Le.refl _), (Le.refl _), (Le.refl _), (Le.refl _), trivial⟩), (Le.refl _), (Le.refl _), trivial⟩ (Wt.none rfl) rfl rfl ?_
 refine WL.mv rfl rfl ?_
 refine WL.qn (y_extractd rfl rfl) rfl ?_
 refine WL.qn (y_extractd rfl rfl) rfl ?_
 refine WL.as rfl rfl ?_
 refine WL.as rfl rfl ?_
 refine WL.ns ?_
 refine wc_sr ?_
 refine WL.qn (y_loadN rfl rfl a28 s28 rfl) rfl ?_
 obtain ⟨r126, hr126, h⟩ := bindS h
 refine WL.fn rfl rfl rfl rfl (f13_c _ _ _ hr126) ⟨(Le.agd ⟨(Le.refl _), (Le.refl _), (Le.refl _), (Le.refl _), (Le.refl _), trivial⟩), (Le.refl _), (Le.refl _), trivial⟩ (Wt.none rfl) rfl rfl ?_
 refine WL.mv rfl rfl ?_
 refine WL.qn (y_extractd rfl rfl) rfl ?_
 refine WL.qn (y_extractd rfl rfl) rfl ?_
 refine WL.as rfl rfl ?_
 refine WL.as rfl rfl ?_
 refine WL.ns ?_
 refine wc_sr ?_
 refine WL.qn (y_loadN rfl rfl a28 s28 rfl) rfl ?_
 obtain ⟨r127, hr127, h⟩ := bindS h
 refine WL.fn rfl rfl rfl rfl (f29_c _ _ hr127) ⟨(Le.agd ⟨(Le.refl _), (Le.refl _), (Le.refl _), (Le.refl _), (Le.refl _), trivial⟩), (Le.refl _), trivial⟩ (Wt.none rfl) rfl rfl ?_
 refine WL.qn (y_eql rfl rfl) rfl ?_
 refine WL.mv rfl rfl ?_
 obtain ⟨b128, hb128, h⟩ := bindS h
 apply WL.grp 4 (t := 30) (d := 34) (z := b128)
 ·exact rfl
 ·intro hg30
  have h := condT hb128 hg30
  refine WL.qy (y_loadN rfl rfl a28 s28 rfl) rfl rfl rfl ?_
  obtain ⟨r129, hr129, h⟩ := bindS h
  refine WL.fn rfl rfl rfl rfl (f29_c _ _ hr129) ⟨(Le.agd ⟨(Le.refl _), (Le.refl _), (Le.refl _), (Le.refl _), (Le.refl _), trivial⟩), (Le.refl _), trivial⟩ (Wt.yes rfl rfl rfl) rfl rfl ?_
  refine WL.qy (y_eql rfl rfl) rfl rfl rfl ?_
  refine WL.qn (y_pick_t rfl rfl) rfl ?_
  obtain rfl := Option.some.inj h
  exact WL.nil ⟨rfl, [_, _, _, _], rfl, rfl, rfl⟩
 ·intro hg30
  have h := condF hb128 hg30
  refine WL.skips 3 rfl ?_
  refine WL.qn (y_pick_f rfl rfl) rfl ?_
  obtain rfl := Option.some.inj h
  exact WL.nil ⟨rfl, [_, _, _, _], rfl, rfl, rfl⟩
 refine WL.mv rfl rfl ?_
 obtain ⟨b130, hb130, h⟩ := bindS h
 apply WL.grp 4 (t := 35) (d := 39) (z := b130)
 ·exact rfl
 ·intro hg35
  have h := condT hb130 hg35
  refine WL.qy (y_loadN rfl rfl a28 s28 rfl) rfl rfl rfl ?_
  obtain ⟨r131, hr131, h⟩ := bindS h
  refine WL.fn rfl rfl rfl rfl (f29_c _ _ hr131) ⟨(Le.agd ⟨(Le.refl _), (Le.refl _), (Le.refl _), (Le.refl _), (Le.refl _), trivial⟩), (Le.refl _), trivial⟩ (Wt.yes rfl rfl rfl) rfl rfl ?_
  refine WL.qy (y_eql rfl rfl) rfl rfl rfl ?_
  refine WL.qn (y_pick_t rfl rfl) rfl ?_
  obtain rfl := Option.some.inj h
  exact WL.nil ⟨rfl, [_, _, _, _], rfl, rfl, rfl⟩
 ·intro hg35
  have h := condF hb130 hg35
  refine WL.skips 3 rfl ?_
  refine WL.qn (y_pick_f rfl rfl) rfl ?_
  obtain rfl := Option.some.inj h
  exact WL.nil ⟨rfl, [_, _, _, _], rfl, rfl, rfl⟩
 refine WL.mv rfl rfl ?_
 obtain ⟨b132, hb132, h⟩ := bindS h
 apply WL.grp 4 (t := 40) (d := 44) (z := b132)
 ·exact rfl
 ·intro hg40
  have h := condT hb132 hg40
  refine WL.qy (y_loadN rfl rfl a28 s28 rfl) rfl rfl rfl ?_
  obtain ⟨r133, hr133, h⟩ := bindS h
  refine WL.fn rfl rfl rfl rfl (f29_c _ _ hr133) ⟨(Le.agd ⟨(Le.refl _), (Le.refl _), (Le.refl _), (Le.refl _), (Le.refl _), trivial⟩), (Le.refl _), trivial⟩ (Wt.yes rfl rfl rfl) rfl rfl ?_
  refine WL.qy (y_eql rfl rfl) rfl rfl rfl ?_
  refine WL.qn (y_pick_t rfl rfl) rfl ?_
  obtain rfl := Option.some.inj h
  exact WL.nil ⟨rfl, [_, _, _, _], rfl, rfl, rfl⟩
 ·intro hg40
  have h := condF hb132 hg40
  refine WL.skips 3 rfl ?_
  refine WL.qn (y_pick_f rfl rfl) rfl ?_
  obtain rfl := Option.some.inj h
  exact WL.nil ⟨rfl, [_, _, _, _], rfl, rfl, rfl⟩
 refine WL.as rfl rfl ?_
 refine WL.ns ?_
 refine wc_sr ?_
 refine WL.qn (y_loadN rfl rfl a28 s28 rfl) rfl ?_
 obtain ⟨r134, hr134, h⟩ := bindS h
 refine WL.fn rfl rfl rfl rfl (f34_c _ _ hr134) ⟨(Le.agd ⟨(Le.refl _), (Le.refl _), (Le.refl _), (Le.refl _), (Le.refl _), trivial⟩), (Le.refl _), trivial⟩ (Wt.none rfl) rfl rfl ?_
 refine WL.s ((NewOs.b (n_buildSlice l41 z2 rfl (by decide) (by decide) rfl rfl rfl (by decide))).does) (Wt.none rfl) rfl rfl ?_
 refine WL.freezeX [47] [] 1 (List.map E2 [5]) rfl (encA_map E2_eq [5]) ⟨rfl, trivial⟩ trivial ?_
 obtain ⟨r135, hr135, h⟩ := bindS h
 refine WL.fn rfl rfl rfl rfl (f33_c _ _ hr135) ⟨(Le.refl _), (Le.refl _), trivial⟩ (Wt.none rfl) rfl rfl ?_
 refine WL.mv rfl rfl ?_
 obtain ⟨b136, hb136, h⟩ := bindS h
 apply WL.grp 5 (t := 49) (d := 54) (z := b136)
 ·exact rfl
 ·intro hg49
  have h := condT hb136 hg49
  refine WL.qy (y_loadN rfl rfl a28 s28 rfl) rfl rfl rfl ?_
  obtain ⟨r137, hr137, h⟩ := bindS h
  refine WL.fn rfl rfl rfl rfl (f34_c _ _ hr137) ⟨(Le.agd ⟨(Le.refl _), (Le.refl _), (Le.refl _), (Le.refl _), (Le.refl _), trivial⟩), (Le.refl _), trivial⟩ (Wt.yes rfl rfl rfl) rfl rfl ?_
  refine WL.s ((NewOs.data (n_buildSlice l41 z2 rfl (by decide) (by decide) rfl rfl rfl (by decide)) (by exact encA_map E2_eq [1, 0, 7])).does) (Wt.yes rfl rfl rfl) rfl rfl ?_
  obtain ⟨r138, hr138, h⟩ := bindS h
  refine WL.fn rfl rfl rfl rfl (f33_c _ _ hr138) ⟨(Le.refl _), (Le.refl _), trivial⟩ (Wt.yes rfl rfl rfl) rfl rfl ?_
  refine WL.qn (y_pick_t rfl rfl) rfl ?_
  obtain rfl := Option.some.inj h
  exact WL.nil ⟨rfl, [_, _, _, _, _], rfl, rfl, rfl⟩
 ·intro hg49
  have h := condF hb136 hg49
  refine WL.skips 4 rfl ?_
  refine WL.qn (y_pick_f rfl rfl) rfl ?_
  obtain rfl := Option.some.inj h
  exact WL.nil ⟨rfl, [_, _, _, _, _], rfl, rfl, rfl⟩
 refine WL.mv rfl rfl ?_
 obtain ⟨b139, hb139, h⟩ := bindS h
 apply WL.grp 5 (t := 55) (d := 60) (z := b139)
 ·exact rfl
 ·intro hg55
  have h := condT hb139 hg55
  refine WL.qy (y_loadN rfl rfl a28 s28 rfl) rfl rfl rfl ?_
  obtain ⟨r140, hr140, h⟩ := bindS h
  refine WL.fn rfl rfl rfl rfl (f34_c _ _ hr140) ⟨(Le.agd ⟨(Le.refl _), (Le.refl _), (Le.refl _), (Le.refl _), (Le.refl _), trivial⟩), (Le.refl _), trivial⟩ (Wt.yes rfl rfl rfl) rfl rfl ?_
  refine WL.s ((NewOs.data (n_buildSlice l41 z2 rfl (by decide) (by decide) rfl rfl rfl (by decide)) (by exact encA_map E2_eq [0, 0, 7])).does) (Wt.yes rfl rfl rfl) rfl rfl ?_
  obtain ⟨r141, hr141, h⟩ := bindS h
  refine WL.fn rfl rfl rfl rfl (f33_c _ _ hr141) ⟨(Le.refl _), (Le.refl _), trivial⟩ (Wt.yes rfl rfl rfl) rfl rfl ?_
  refine WL.qn (y_pick_t rfl rfl) rfl ?_
  obtain rfl := Option.some.inj h
  exact WL.nil ⟨rfl, [_, _, _, _, _], rfl, rfl, rfl⟩
 ·intro hg55
  have h := condF hb139 hg55
  refine WL.skips 4 rfl ?_
  refine WL.qn (y_pick_f rfl rfl) rfl ?_
  obtain rfl := Option.some.inj h
  exact WL.nil ⟨rfl, [_, _, _, _, _], rfl, rfl, rfl⟩
 refine WL.as rfl rfl ?_
 refine WL.ns ?_
 refine wc_sr ?_
 refine WL.qn (y_loadN rfl rfl a28 s28 rfl) rfl ?_
 refine WL.s ((NewOs.b (n_buildSlice l41 z2 rfl (by decide) (by decide) rfl rfl rfl (by decide))).does) (Wt.none rfl) rfl rfl ?_
 refine WL.freezeX [62] [] 2 (List.map E2 [1, 0, 7]) rfl (encA_map E2_eq [1, 0, 7]) ⟨rfl, trivial⟩ trivial ?_
 obtain ⟨r142, hr142, h⟩ := bindS h
 refine WL.fn rfl rfl rfl rfl (f31_c _ _ _ hr142) ⟨(Le.agd ⟨(Le.refl _), (Le.refl _), (Le.refl _), (Le.refl _), (Le.refl _), trivial⟩), (Le.refl _), (Le.refl _), trivial⟩ (Wt.none rfl) rfl rfl ?_
 refine WL.qn (y_not rfl) rfl ?_
 refine WL.mv rfl rfl ?_
 obtain ⟨b143, hb143, h⟩ := bindS h
 apply WL.grp 5 (t := 65) (d := 70) (z := b143)
 ·exact rfl
 ·intro hg65
  have h := condT hb143 hg65
  refine WL.qy (y_loadN rfl rfl a28 s28 rfl) rfl rfl rfl ?_
  refine WL.s ((NewOs.data (n_buildSlice l41 z2 rfl (by decide) (by decide) rfl rfl rfl (by decide)) (by exact encA_map E2_eq [1, 0, 4])).does) (Wt.yes rfl rfl rfl) rfl rfl ?_
  obtain ⟨r144, hr144, h⟩ := bindS h
  refine WL.fn rfl rfl rfl rfl (f31_c _ _ _ hr144) ⟨(Le.agd ⟨(Le.refl _), (Le.refl _), (Le.refl _), (Le.refl _), (Le.refl _), trivial⟩), (Le.refl _), (Le.refl _), trivial⟩ (Wt.yes rfl rfl rfl) rfl rfl ?_
  refine WL.qy (y_not rfl) rfl rfl rfl ?_
  refine WL.qn (y_pick_t rfl rfl) rfl ?_
  obtain rfl := Option.some.inj h
  exact WL.nil ⟨rfl, [_, _, _, _, _], rfl, rfl, rfl⟩
 ·intro hg65
  have h := condF hb143 hg65
  refine WL.skips 4 rfl ?_
  refine WL.qn (y_pick_f rfl rfl) rfl ?_
  obtain rfl := Option.some.inj h
  exact WL.nil ⟨rfl, [_, _, _, _, _], rfl, rfl, rfl⟩
 refine WL.mv rfl rfl ?_
 obtain ⟨b145, hb145, h⟩ := bindS h
 apply WL.grp 4 (t := 71) (d := 75) (z := b145)
 ·exact rfl
 ·intro hg71
  have h := condT hb145 hg71
  refine WL.qy (y_loadN rfl rfl a28 s28 rfl) rfl rfl rfl ?_
  refine WL.s ((NewOs.data (n_buildSlice l41 z2 rfl (by decide) (by decide) rfl rfl rfl (by decide)) (by exact encA_map E2_eq [0, 3, 9])).does) (Wt.yes rfl rfl rfl) rfl rfl ?_
  obtain ⟨r146, hr146, h⟩ := bindS h
  refine WL.fn rfl rfl rfl rfl (f31_c _ _ _ hr146) ⟨(Le.agd ⟨(Le.refl _), (Le.refl _), (Le.refl _), (Le.refl _), (Le.refl _), trivial⟩), (Le.refl _), (Le.refl _), trivial⟩ (Wt.yes rfl rfl rfl) rfl rfl ?_
  refine WL.qn (y_pick_t rfl rfl) rfl ?_
  obtain rfl := Option.some.inj h
  exact WL.nil ⟨rfl, [_, _, _, _], rfl, rfl, rfl⟩
 ·intro hg71
  have h := condF hb145 hg71
  refine WL.skips 3 rfl ?_
  refine WL.qn (y_pick_f rfl rfl) rfl ?_
  obtain rfl := Option.some.inj h
  exact WL.nil ⟨rfl, [_, _, _, _], rfl, rfl, rfl⟩
 refine WL.as rfl rfl ?_
 refine WL.ns ?_
 refine wc_sr ?_
 refine WL.qn (y_loadN rfl rfl a28 s28 rfl) rfl ?_
 obtain ⟨r147, hr147, h⟩ := bindS h
 refine WL.fn rfl rfl rfl rfl (f36_c _ hr147) ⟨(Le.agd ⟨(Le.refl _), (Le.refl _), (Le.refl _), (Le.refl _), (Le.refl _), trivial⟩), trivial⟩ (Wt.none rfl) rfl rfl ?_
 refine WL.mv rfl rfl ?_
 apply WL.and 2 (t := 78) (d := 80)
 ·exact rfl
 ·intro hg78
  refine WL.qy (y_move rfl) rfl rfl rfl ?_
  refine WL.qn (y_pick_t rfl rfl) rfl ?_
  exact WL.nil ⟨rfl, [_, _], rfl, rfl, rfl⟩
 ·refine WL.skips 1 rfl ?_
  refine WL.qn (y_pick_f rfl rfl) rfl ?_
  exact WL.nil ⟨rfl, [_, _], rfl, rfl, rfl⟩
 refine WL.mv rfl rfl ?_
 apply WL.and 2 (t := 81) (d := 83)
 ·exact rfl
 ·intro hg81
  refine WL.qy (y_move rfl) rfl rfl rfl ?_
  refine WL.qn (y_pick_t rfl rfl) rfl ?_
  exact WL.nil ⟨rfl, [_, _], rfl, rfl, rfl⟩
 ·refine WL.skips 1 rfl ?_
  refine WL.qn (y_pick_f rfl rfl) rfl ?_
  exact WL.nil ⟨rfl, [_, _], rfl, rfl, rfl⟩
 refine WL.mv rfl rfl ?_
 apply WL.and 2 (t := 84) (d := 86)
 ·exact rfl
 ·intro hg84
  refine WL.qy (y_move rfl) rfl rfl rfl ?_
  refine WL.qn (y_pick_t rfl rfl) rfl ?_
  exact WL.nil ⟨rfl, [_, _], rfl, rfl, rfl⟩
 ·refine WL.skips 1 rfl ?_
  refine WL.qn (y_pick_f rfl rfl) rfl ?_
  exact WL.nil ⟨rfl, [_, _], rfl, rfl, rfl⟩
 refine WL.mv rfl rfl ?_
 apply WL.and 3 (t := 87) (d := 90)
 ·exact rfl
 ·intro hg87
  refine WL.qy (y_move rfl) rfl rfl rfl ?_
  refine WL.qy (y_eql rfl rfl) rfl rfl rfl ?_
  refine WL.qn (y_pick_t rfl rfl) rfl ?_
  exact WL.nil ⟨rfl, [_, _, _], rfl, rfl, rfl⟩
 ·refine WL.skips 2 rfl ?_
  refine WL.qn (y_pick_f rfl rfl) rfl ?_
  exact WL.nil ⟨rfl, [_, _, _], rfl, rfl, rfl⟩
 refine WL.mv rfl rfl ?_
 apply WL.and 2 (t := 91) (d := 93)
 ·exact rfl
 ·intro hg91
  refine WL.qy (y_move rfl) rfl rfl rfl ?_
  refine WL.qn (y_pick_t rfl rfl) rfl ?_
  exact WL.nil ⟨rfl, [_, _], rfl, rfl, rfl⟩
 ·refine WL.skips 1 rfl ?_
  refine WL.qn (y_pick_f rfl rfl) rfl ?_
  exact WL.nil ⟨rfl, [_, _], rfl, rfl, rfl⟩
 refine WL.mv rfl rfl ?_
 apply WL.and 3 (t := 94) (d := 97)
 ·exact rfl
 ·intro hg94
  refine WL.qy (y_move rfl) rfl rfl rfl ?_
  refine WL.qy (y_not rfl) rfl rfl rfl ?_
  refine WL.qn (y_pick_t rfl rfl) rfl ?_
  exact WL.nil ⟨rfl, [_, _, _], rfl, rfl, rfl⟩
 ·refine WL.skips 2 rfl ?_
  refine WL.qn (y_pick_f rfl rfl) rfl ?_
  exact WL.nil ⟨rfl, [_, _, _], rfl, rfl, rfl⟩
 refine WL.mv rfl rfl ?_
 apply WL.and 3 (t := 98) (d := 101)
 ·exact rfl
 ·intro hg98
  refine WL.qy (y_move rfl) rfl rfl rfl ?_
  refine WL.qy (y_eql rfl rfl) rfl rfl rfl ?_
  refine WL.qn (y_pick_t rfl rfl) rfl ?_
  exact WL.nil ⟨rfl, [_, _, _], rfl, rfl, rfl⟩
 ·refine WL.skips 2 rfl ?_
  refine WL.qn (y_pick_f rfl rfl) rfl ?_
  exact WL.nil ⟨rfl, [_, _, _], rfl, rfl, rfl⟩
 refine WL.mv rfl rfl ?_
 apply WL.and 2 (t := 102) (d := 104)
 ·exact rfl
 ·intro hg102
  refine WL.qy (y_move rfl) rfl rfl rfl ?_
  refine WL.qn (y_pick_t rfl rfl) rfl ?_
  exact WL.nil ⟨rfl, [_, _], rfl, rfl, rfl⟩
 ·refine WL.skips 1 rfl ?_
  refine WL.qn (y_pick_f rfl rfl) rfl ?_
  exact WL.nil ⟨rfl, [_, _], rfl, rfl, rfl⟩
 refine WL.mv rfl rfl ?_
 obtain ⟨b148, hb148, h⟩ := bindS h
 apply WL.grp 4 (t := 105) (d := 109) (z := b148)
 ·exact rfl
 ·intro hg105
  have h := condT hb148 hg105
  refine WL.qy (y_loadN rfl rfl a28 s28 rfl) rfl rfl rfl ?_
  obtain ⟨r149, hr149, h⟩ := bindS h
  refine WL.fn rfl rfl rfl rfl (f15_c _ _ _ _ hr149) ⟨(Le.agd ⟨(Le.refl _), (Le.refl _), (Le.refl _), (Le.refl _), (Le.refl _), trivial⟩), (Le.refl _), (Le.refl _), (Le.refl _), trivial⟩ (Wt.yes rfl rfl rfl) rfl rfl ?_
  refine WL.qy (y_not rfl) rfl rfl rfl ?_
  refine WL.qn (y_pick_t rfl rfl) rfl ?_
  obtain rfl := Option.some.inj h
  exact WL.nil ⟨rfl, [_, _, _, _], rfl, rfl, rfl⟩
 ·intro hg105
  have h := condF hb148 hg105
  refine WL.skips 3 rfl ?_
  refine WL.qn (y_pick_f rfl rfl) rfl ?_
  obtain rfl := Option.some.inj h
  exact WL.nil ⟨rfl, [_, _, _, _], rfl, rfl, rfl⟩
 refine WL.mv rfl rfl ?_
 obtain ⟨b150, hb150, h⟩ := bindS h
 apply WL.grp 3 (t := 110) (d := 113) (z := b150)
 ·exact rfl
 ·intro hg110
  have h := condT hb150 hg110
  refine WL.qy (y_loadN rfl rfl a28 s28 rfl) rfl rfl rfl ?_
  obtain ⟨r151, hr151, h⟩ := bindS h
  refine WL.fn rfl rfl rfl rfl (f15_c _ _ _ _ hr151) ⟨(Le.agd ⟨(Le.refl _), (Le.refl _), (Le.refl _), (Le.refl _), (Le.refl _), trivial⟩), (Le.refl _), (Le.refl _), (Le.refl _), trivial⟩ (Wt.yes rfl rfl rfl) rfl rfl ?_
  refine WL.qn (y_pick_t rfl rfl) rfl ?_
  obtain rfl := Option.some.inj h
  exact WL.nil ⟨rfl, [_, _, _], rfl, rfl, rfl⟩
 ·intro hg110
  have h := condF hb150 hg110
  refine WL.skips 2 rfl ?_
  refine WL.qn (y_pick_f rfl rfl) rfl ?_
  obtain rfl := Option.some.inj h
  exact WL.nil ⟨rfl, [_, _, _], rfl, rfl, rfl⟩
 refine WL.mv rfl rfl ?_
 obtain ⟨b152, hb152, h⟩ := bindS h
 apply WL.grp 3 (t := 114) (d := 117) (z := b152)
 ·exact rfl
 ·intro hg114
  have h := condT hb152 hg114
  refine WL.qy (y_loadN rfl rfl a28 s28 rfl) rfl rfl rfl ?_
  obtain ⟨r153, hr153, h⟩ := bindS h
  refine WL.fn rfl rfl rfl rfl (f18_c _ _ _ hr153) ⟨(Le.agd ⟨(Le.refl _), (Le.refl _), (Le.refl _), (Le.refl _), (Le.refl _), trivial⟩), (Le.refl _), (Le.refl _), trivial⟩ (Wt.yes rfl rfl rfl) rfl rfl ?_
  refine WL.qn (y_pick_t rfl rfl) rfl ?_
  obtain rfl := Option.some.inj h
  exact WL.nil ⟨rfl, [_, _, _], rfl, rfl, rfl⟩
 ·intro hg114
  have h := condF hb152 hg114
  refine WL.skips 2 rfl ?_
  refine WL.qn (y_pick_f rfl rfl) rfl ?_
  obtain rfl := Option.some.inj h
  exact WL.nil ⟨rfl, [_, _, _], rfl, rfl, rfl⟩
 refine WL.mv rfl rfl ?_
 obtain ⟨b154, hb154, h⟩ := bindS h
 apply WL.grp 4 (t := 118) (d := 122) (z := b154)
 ·exact rfl
 ·intro hg118
  have h := condT hb154 hg118
  refine WL.qy (y_loadN rfl rfl a28 s28 rfl) rfl rfl rfl ?_
  obtain ⟨r155, hr155, h⟩ := bindS h
  refine WL.fn rfl rfl rfl rfl (f18_c _ _ _ hr155) ⟨(Le.agd ⟨(Le.refl _), (Le.refl _), (Le.refl _), (Le.refl _), (Le.refl _), trivial⟩), (Le.refl _), (Le.refl _), trivial⟩ (Wt.yes rfl rfl rfl) rfl rfl ?_
  refine WL.qy (y_not rfl) rfl rfl rfl ?_
  refine WL.qn (y_pick_t rfl rfl) rfl ?_
  obtain rfl := Option.some.inj h
  exact WL.nil ⟨rfl, [_, _, _, _], rfl, rfl, rfl⟩
 ·intro hg118
  have h := condF hb154 hg118
  refine WL.skips 3 rfl ?_
  refine WL.qn (y_pick_f rfl rfl) rfl ?_
  obtain rfl := Option.some.inj h
  exact WL.nil ⟨rfl, [_, _, _, _], rfl, rfl, rfl⟩
 refine WL.as rfl rfl ?_
 refine WL.ns ?_
 refine wc_ret ?_
 obtain rfl := Option.some.inj h
 exact we_ret_fn (rs1 rfl (rv_t rfl)) (Le.refl _)

end Go.Proofs.YteafckpdbmncfaaDoor
