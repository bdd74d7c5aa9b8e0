/- The walks of functions that this law reaches. -/
import Derived.Test.YteafckpdbmncfaaDoorWd
import Derived.Test.YteafckpdbmncfaaDoorWm
set_option maxHeartbeats 4000000
set_option maxRecDepth 100000
namespace Go.Proofs.YteafckpdbmncfaaDoor
open Go Go.Sk

theorem f25_c (t0 : Table) (sub1 : Int) {r : Int × Int × Bool} (h : f25 t0 sub1 = some r) : Pu Tryd.prog 25 [.ag (R28 t0), .i .i64 sub1] (.tu [.i .i64 r.1, .i .i64 r.2.1, .b r.2.2]) := by
 unfold f25 at h
 refine fn_intro Tryd.func25 (by kernel_rfl) rfl rfl rfl (fun φφ ww => ?_)
 refine wc_sr ?_
 refine WL.s ((b_boxd rfl rfl (Les.refl _)).does) (Wt.none rfl) rfl rfl ?_
 refine WL.as rfl rfl ?_
 refine WL.as rfl rfl ?_
 refine WL.as rfl rfl ?_
 refine WL.ns ?_
 refine wc_sr ?_
 refine WL.qn (y_loadcN rfl a28 s28 rfl) rfl ?_
 refine WL.qn (y_build p61 z61 rfl rfl) rfl ?_
 refine WL.mv rfl rfl ?_
 obtain ⟨r17, hr17, h⟩ := bindS h
 refine WL.fn rfl rfl rfl rfl (f43_c _ _ hr17) ⟨(Le.agd ⟨(Le.refl _), (Le.refl _), (Le.refl _), (Le.refl _), (Le.refl _), trivial⟩), (Le.refl _), trivial⟩ (Wt.none rfl) rfl rfl ?_
 refine WL.qn (y_extractd rfl rfl) rfl ?_
 refine WL.qn (y_extractd rfl rfl) rfl ?_
 refine WL.qn (y_extractd rfl rfl) rfl ?_
 refine WL.as rfl rfl ?_
 refine WL.as rfl rfl ?_
 refine WL.as rfl rfl ?_
 refine WL.ns ?_
 refine wc_ret ?_
 obtain rfl := Option.some.inj h
 exact we_ret_fn (rs3 rfl (rv_t rfl) (rv_t rfl) (rv_t rfl)) (Le.tud ⟨(Le.refl _), (Le.refl _), (Le.refl _), trivial⟩)

theorem f57_c (l0 : List Int) (i1 : Int) {r : Int × Bool} (h : f57 l0 i1 = some r) : Pu Tryd.prog 57 [.sl (List.map E3 l0), .i .i64 i1] (.tu [.i .i64 r.1, .b r.2]) := by
 unfold f57 at h
 refine fn_intro Tryd.func57 (by kernel_rfl) rfl rfl rfl (fun φφ ww => ?_)
 refine wc_sr ?_
 refine WL.as rfl rfl ?_
 refine WL.as rfl rfl ?_
 refine WL.ns ?_
 refine wc_seq ?_
 refine wc_sr ?_
 refine WL.mv rfl rfl ?_
 refine WL.qn (y_lss rfl rfl) rfl ?_
 refine WL.mv rfl rfl ?_
 apply WL.or 5 (t := 8) (d := 13)
 ·exact rfl
 ·intro hg8
  refine WL.qy (y_move rfl) rfl rfl rfl ?_
  refine WL.qy (y_move rfl) rfl rfl rfl ?_
  refine WL.qy (y_len_map E3 l0 e82 rfl rfl (Le.refl _)) rfl rfl rfl ?_
  refine WL.qy (y_geq rfl rfl) rfl rfl rfl ?_
  refine WL.qn (y_pick_f rfl rfl) rfl ?_
  exact WL.nil ⟨rfl, [_, _, _, _, _], rfl, rfl, rfl⟩
 ·refine WL.skips 4 rfl ?_
  refine WL.qn (y_pick_t rfl rfl) rfl ?_
  exact WL.nil ⟨rfl, [_, _, _, _, _], rfl, rfl, rfl⟩
 refine WL.ns ?_
 refine wc_cond rfl (fun hc1 => ?_) (fun hc1 => ?_)
 ·replace h := condT h hc1
  refine wc_sr ?_
  refine WL.mv rfl rfl ?_
  refine WL.as rfl rfl ?_
  refine WL.as rfl rfl ?_
  refine WL.ns ?_
  refine wc_ret ?_
  refine we_seq_ret ?_
  obtain rfl := Option.some.inj h
  exact we_ret_fn (rs2 rfl (rv_t rfl) (rv_t rfl)) (Le.tud ⟨(Le.refl _), (Le.refl _), trivial⟩)
 ·replace h := condF h hc1
  refine wc_skip ?_
  refine we_seq ?_
  refine wc_sr ?_
  refine WL.mv rfl rfl ?_
  refine WL.mv rfl rfl ?_
  obtain ⟨x22, hx22, h⟩ := bindS h
  refine WL.qn (y_indexAddr e82 rfl (Le.refl _) rfl (idx_nonneg hx22) (idx_row E3_eq hx22) rfl) rfl ?_
  refine WL.qn (y_loadc rfl a3 rfl) rfl ?_
  refine WL.as rfl rfl ?_
  refine WL.as rfl rfl ?_
  refine WL.ns ?_
  refine wc_ret ?_
  obtain rfl := Option.some.inj h
  exact we_ret_fn (rs2 rfl (rv_t rfl) (rv_t rfl)) (Le.tud ⟨(Le.refl _), (Le.refl _), trivial⟩)

theorem f27_c (t0 : Table) (sub1 : Int) (slot2 : Int) {r : Int × Bool} (h : f27 t0 sub1 slot2 = some r) : Pu Tryd.prog 27 [.ag (R28 t0), .i .i64 sub1, .i .i64 slot2] (.tu [.i .i64 r.1, .b r.2]) := by
 unfold f27 at h
 refine fn_intro Tryd.func27 (by kernel_rfl) rfl rfl rfl (fun φφ ww => ?_)
 refine wc_sr ?_
 refine WL.s ((b_boxd rfl rfl (Les.refl _)).does) (Wt.none rfl) rfl rfl ?_
 refine WL.as rfl rfl ?_
 refine WL.as rfl rfl ?_
 refine WL.ns ?_
 refine wc_sr ?_
 refine WL.qn (y_loadcN rfl a28 s28 rfl) rfl ?_
 refine WL.qn (y_build p61 z61 rfl rfl) rfl ?_
 refine WL.mv rfl rfl ?_
 obtain ⟨r20, hr20, h⟩ := bindS h
 refine WL.fn rfl rfl rfl rfl (f58_c _ _ hr20) ⟨(Le.agd ⟨(Le.refl _), (Le.refl _), (Le.refl _), (Le.refl _), (Le.refl _), trivial⟩), (Le.refl _), trivial⟩ (Wt.none rfl) rfl rfl ?_
 refine WL.mv rfl rfl ?_
 obtain ⟨r21, hr21, h⟩ := bindS h
 refine WL.fn rfl rfl rfl rfl (f57_c _ _ hr21) ⟨(Le.refl _), (Le.refl _), trivial⟩ (Wt.none rfl) rfl rfl ?_
 refine WL.qn (y_extractd rfl rfl) rfl ?_
 refine WL.qn (y_extractd rfl rfl) rfl ?_
 refine WL.as rfl rfl ?_
 refine WL.as rfl rfl ?_
 refine WL.ns ?_
 refine wc_ret ?_
 obtain rfl := Option.some.inj h
 exact we_ret_fn (rs2 rfl (rv_t rfl) (rv_t rfl)) (Le.tud ⟨(Le.refl _), (Le.refl _), trivial⟩)
theorem f7_c (t0 : Table) {r : Bool} (h : f7 t0 = some r) : Pu Tryd.prog 7 [.ag (R28 t0)] (.b r) := by
 unfold f7 at h
 refine fn_intro Tryd.func7 (by kernel_rfl) rfl rfl rfl (fun φφ ww => ?_)
 refine wc_sr ?_
 refine WL.s ((b_box rfl rfl).does) (Wt.none rfl) rfl rfl ?_
 refine WL.as rfl rfl ?_
 refine WL.ns ?_
 refine wc_sr ?_
 refine WL.qn (y_loadN rfl rfl a28 s28 rfl) rfl ?_
 obtain ⟨r79, hr79, h⟩ := bindS h
 refine WL.fn rfl rfl rfl rfl (f10_c _ hr79) ⟨(Le.agd ⟨(Le.refl _), (Le.refl _), (Le.refl _), (Le.refl _), (Le.refl _), trivial⟩), trivial⟩ (Wt.none rfl) rfl rfl ?_
 refine WL.s0 (d_store rfl rfl rfl rfl rfl rfl s28 rfl rfl) (Wt.none rfl) rfl ?_
 refine WL.ns ?_
 refine wc_seq ?_
 refine wc_sr ?_
 refine WL.qn (y_loadN rfl rfl a28 s28 rfl) rfl ?_
 obtain ⟨r80, hr80, h⟩ := bindS h
 refine WL.fn rfl rfl rfl rfl (f24_c _ hr80) ⟨(Le.agd ⟨(Le.refl _), (Le.refl _), (Le.refl _), (Le.refl _), (Le.refl _), trivial⟩), trivial⟩ (Wt.none rfl) rfl rfl ?_
 refine WL.qn (y_not rfl) rfl ?_
 refine WL.ns ?_
 refine wc_cond rfl (fun hc1 => ?_) (fun hc1 => ?_)
 ·replace h := condT h hc1
  refine wc_sr ?_
  obtain ⟨r81, hr81, h⟩ := bindS h
  refine WL.fn rfl rfl rfl rfl (f17_c hr81) trivial (Wt.none rfl) rfl rfl ?_
  refine WL.as rfl rfl ?_
  refine WL.ns ?_
  refine wc_ret ?_
  refine we_seq_ret ?_
  obtain rfl := Option.some.inj h
  exact we_ret_fn (rs1 rfl (rv_t rfl)) (Le.refl _)
 ·replace h := condF h hc1
  refine wc_skip ?_
  refine we_seq ?_
  replace h := letkS h
  obtain ⟨k82, hk82, h⟩ := h
  refine wc_cut (fun env' st' => k82 () = some r ∧ Sub [] env' ∧ SLe st' [.row 28 [.d (.sl (List.map E54 r79.types)), .d (.sl (List.map E40 r79.subs)), .d (.v (SlV.v r79.ents)), .d (.v (SlV.v r79.gens)), .d (.v (SlV.v r79.insts))]]) ?_ ?_
  ·refine wc_sr ?_
   refine WL.qn (y_fieldAddr f28_1 rfl) rfl ?_
   refine WL.qn (y_load rfl rfl a23 rfl) rfl ?_
   refine WL.qn (y_len_map E40 r79.subs e23 rfl rfl (Le.refl _)) rfl ?_
   refine WL.mv rfl rfl ?_
   refine WL.ns ?_
   refine wc_block ?_
   refine wc_loop (fun n env' st' => ∃ (t84 : Int), f7_l1 r79 k82 n t84 = some r ∧ Sub [(1, .pt 0 0), (20, .d (D.i .i64 (List.length r79.subs : Int))), (21, .d (D.i .i64 t84))] env' ∧ SLe st' [.row 28 [.d (.sl (List.map E54 r79.types)), .d (.sl (List.map E40 r79.subs)), .d (.v (SlV.v r79.ents)), .d (.v (SlV.v r79.gens)), .d (.v (SlV.v r79.insts))]]) (fun n => n) (Int.toNat ((List.length r79.subs : Int) - 0) + 1) ⟨0, h, (Sub.cons rfl (Le.refl _) (Sub.cons rfl (Le.refl _) (Sub.cons rfl (Le.refl _) (Sub.nil _)))), ⟨⟨rfl, ⟨(Le.refl _), (Le.refl _), (Le.refl _), (Le.refl _), (Le.refl _), trivial⟩⟩, trivial⟩⟩ ?_
   rintro n env1 st1 ⟨t84, h, hsub, hst⟩
   cases n with
   | zero => rw [f7_l1] at h; cases h
   | succ n =>
   rw [f7_l1] at h
   refine WC.sub hsub (WC.weak hst ?_)
   refine wc_sr ?_
   refine WL.qn (y_lss rfl rfl) rfl ?_
   refine WL.ns ?_
   refine wc_seq ?_
   refine wc_cond rfl (fun hc2 => ?_) (fun hc2 => ?_)
   ·replace h := condT h hc2
    refine wc_skip ?_
    refine we_seq ?_
    replace h := letkS h
    obtain ⟨k86, hk86, h⟩ := h
    refine wc_cut (fun env' st' => k86 () = some r ∧ Sub [(1, .pt 0 0), (20, .d (D.i .i64 (List.length r79.subs : Int))), (21, .d (D.i .i64 t84))] env' ∧ SLe st' [.row 28 [.d (.sl (List.map E54 r79.types)), .d (.sl (List.map E40 r79.subs)), .d (.v (SlV.v r79.ents)), .d (.v (SlV.v r79.gens)), .d (.v (SlV.v r79.insts))]]) ?_ ?_
    ·refine wc_block ?_
     refine wc_sr ?_
     refine WL.mv rfl rfl ?_
     refine WL.as rfl rfl ?_
     refine WL.ns ?_
     refine wc_sr ?_
     refine WL.qn (y_loadN rfl rfl a28 s28 rfl) rfl ?_
     refine WL.mv rfl rfl ?_
     obtain ⟨r87, hr87, h⟩ := bindS h
     refine WL.fn rfl rfl rfl rfl (f34_c _ _ hr87) ⟨(Le.agd ⟨(Le.refl _), (Le.refl _), (Le.refl _), (Le.refl _), (Le.refl _), trivial⟩), (Le.refl _), trivial⟩ (Wt.none rfl) rfl rfl ?_
     refine WL.as rfl rfl ?_
     refine WL.ns ?_
     refine wc_sr ?_
     refine WL.as rfl rfl ?_
     refine WL.ns ?_
     replace h := letkS h
     obtain ⟨k89, hk89, h⟩ := h
     refine wc_cut (fun env' st' => ∃ (empty88 : Bool), k89 empty88 = some r ∧ Sub [(1, .pt 0 0), (3, .d (D.i .i64 t84)), (4, .d (.sl (List.map E2 r87))), (5, .d (D.b empty88)), (20, .d (D.i .i64 (List.length r79.subs : Int))), (21, .d (D.i .i64 t84))] env' ∧ SLe st' [.row 28 [.d (.sl (List.map E54 r79.types)), .d (.sl (List.map E40 r79.subs)), .d (.v (SlV.v r79.ents)), .d (.v (SlV.v r79.gens)), .d (.v (SlV.v r79.insts))]]) ?_ ?_
     ·refine wc_sr ?_
      refine WL.as rfl rfl ?_
      refine WL.ns ?_
      refine wc_block ?_
      refine wc_loop (fun na env' st' => ∃ (empty92 : Bool), ∃ (iq93 : Int), f7_l2 r79 t84 k89 na empty92 iq93 = some r ∧ Sub [(1, .pt 0 0), (3, .d (D.i .i64 t84)), (4, .d (.sl (List.map E2 r87))), (5, .d (D.b empty92)), (6, .d (D.i .i64 iq93)), (20, .d (D.i .i64 (List.length r79.subs : Int))), (21, .d (D.i .i64 t84))] env' ∧ SLe st' [.row 28 [.d (.sl (List.map E54 r79.types)), .d (.sl (List.map E40 r79.subs)), .d (.v (SlV.v r79.ents)), .d (.v (SlV.v r79.gens)), .d (.v (SlV.v r79.insts))]]) (fun n => n) 9223372036854775808 ⟨false, 0, h, (Sub.cons rfl (Le.refl _) (Sub.cons rfl (Le.refl _) (Sub.cons rfl (Le.refl _) (Sub.cons rfl (Le.refl _) (Sub.cons rfl (Le.refl _) (Sub.cons rfl (Le.refl _) (Sub.cons rfl (Le.refl _) (Sub.nil _)))))))), ⟨⟨rfl, ⟨(Le.refl _), (Le.refl _), (Le.refl _), (Le.refl _), (Le.refl _), trivial⟩⟩, trivial⟩⟩ ?_
      rintro na env1 st1 ⟨empty92, iq93, h, hsub, hst⟩
      cases na with
      | zero => rw [f7_l2] at h; cases h
      | succ na =>
      rw [f7_l2] at h
      refine WC.sub hsub (WC.weak hst ?_)
      refine wc_seq ?_
      refine wc_sr ?_
      refine WL.mv rfl rfl ?_
      refine WL.qn (y_loadN rfl rfl a28 s28 rfl) rfl ?_
      refine WL.mv rfl rfl ?_
      obtain ⟨r96, hr96, h⟩ := bindS h
      refine WL.fn rfl rfl rfl rfl (f29_c _ _ hr96) ⟨(Le.agd ⟨(Le.refl _), (Le.refl _), (Le.refl _), (Le.refl _), (Le.refl _), trivial⟩), (Le.refl _), trivial⟩ (Wt.none rfl) rfl rfl ?_
      refine WL.qn (y_lss rfl rfl) rfl ?_
      refine WL.ns ?_
      refine wc_cond rfl (fun hc3 => ?_) (fun hc3 => ?_)
      ·replace h := condT h hc3
       refine wc_skip ?_
       refine we_seq ?_
       refine wc_seq ?_
       refine wc_block ?_
       refine wc_sr ?_
       refine WL.qn (y_loadN rfl rfl a28 s28 rfl) rfl ?_
       refine WL.mv rfl rfl ?_
       refine WL.mv rfl rfl ?_
       obtain ⟨r97, hr97, h⟩ := bindS h
       refine WL.fn rfl rfl rfl rfl (f27_c _ _ _ hr97) ⟨(Le.agd ⟨(Le.refl _), (Le.refl _), (Le.refl _), (Le.refl _), (Le.refl _), trivial⟩), (Le.refl _), (Le.refl _), trivial⟩ (Wt.none rfl) rfl rfl ?_
       refine WL.mv rfl rfl ?_
       refine WL.qn (y_extractd rfl rfl) rfl ?_
       refine WL.qn (y_extractd rfl rfl) rfl ?_
       refine WL.as rfl rfl ?_
       refine WL.as rfl rfl ?_
       refine WL.ns ?_
       refine wc_sr ?_
       refine WL.qn (y_loadN rfl rfl a28 s28 rfl) rfl ?_
       refine WL.mv rfl rfl ?_
       obtain ⟨r98, hr98, h⟩ := bindS h
       refine WL.fn rfl rfl rfl rfl (f25_c _ _ hr98) ⟨(Le.agd ⟨(Le.refl _), (Le.refl _), (Le.refl _), (Le.refl _), (Le.refl _), trivial⟩), (Le.refl _), trivial⟩ (Wt.none rfl) rfl rfl ?_
       refine WL.mv rfl rfl ?_
       refine WL.qn (y_extractd rfl rfl) rfl ?_
       refine WL.qn (y_extractd rfl rfl) rfl ?_
       refine WL.qn (y_extractd rfl rfl) rfl ?_
       refine WL.as rfl rfl ?_
       refine WL.as rfl rfl ?_
       refine WL.as rfl rfl ?_
       refine WL.ns ?_
       refine wc_seq ?_
       refine wc_sr ?_
       refine WL.mv rfl rfl ?_
       refine WL.qn (y_not rfl) rfl ?_
       refine WL.ns ?_
       refine wc_cond rfl (fun hc4 => ?_) (fun hc4 => ?_)
       ·replace h := condT h hc4
        refine wc_sr ?_
        refine WL.as rfl rfl ?_
        refine WL.ns ?_
        refine wc_ret ?_
        refine we_seq_ret ?_
        refine we_blk_ret ?_
        refine we_seq_ret ?_
        refine we_lp_ret ?_
        refine we_blk_ret ?_
        refine we_lp_ret ?_
        refine we_blk_ret ?_
        refine we_lp_ret ?_
        refine we_lp_ret ?_
        refine we_blk_ret ?_
        refine we_lp_ret ?_
        obtain rfl := Option.some.inj h
        exact we_ret_fn (rs1 rfl (rv_t rfl)) (Le.refl _)
       ·replace h := condF h hc4
        refine wc_skip ?_
        refine we_seq ?_
        refine wc_region ?_
        refine WL.mv rfl rfl ?_
        refine WL.mv rfl rfl ?_
        apply WL.or 7 (t := 51) (d := 58)
        ·exact rfl
        ·intro hg51
         refine WL.qy (y_move rfl) rfl rfl rfl ?_
         refine WL.qy (y_move rfl) rfl rfl rfl ?_
         apply WL.and 4 (t := 53) (d := 57)
         ·exact rfl
         ·intro hg53
          refine WL.qy (y_move rfl) rfl rfl rfl ?_
          refine WL.qy (y_move rfl) rfl rfl rfl ?_
          refine WL.qy (y_gtr rfl rfl) rfl rfl rfl ?_
          refine WL.qy (y_pick_t rfl rfl) rfl rfl rfl ?_
          exact WL.nil ⟨rfl, [_, _, _, _], rfl, rfl, rfl⟩
         ·refine WL.skips 3 rfl ?_
          refine WL.qy (y_pick_f rfl rfl) rfl rfl rfl ?_
          exact WL.nil ⟨rfl, [_, _, _, _], rfl, rfl, rfl⟩
         refine WL.qn (y_pick_f rfl rfl) rfl ?_
         exact WL.nil ⟨rfl, [_, _, _, _], rfl, rfl, rfl⟩
        ·refine WL.skips 6 rfl ?_
         refine WL.qn (y_pick_t rfl rfl) rfl ?_
         exact WL.nil ⟨rfl, [_, _, _, _, _, _, _], rfl, rfl, rfl⟩
        refine WL.as rfl rfl ?_
        refine WL.nil ?_
        refine we_blk ?_
        refine we_seq ?_
        refine wc_region ?_
        refine WL.mv rfl rfl ?_
        refine WL.qn (y_add rfl rfl rfl) rfl ?_
        refine WL.as rfl rfl ?_
        refine WL.nil ?_
        exact we_lp ⟨na, ⟨(empty92 || (r98.2.2 && (decide (r98.1 > r98.2.1)))), (IntKind.i64.wrap (iq93 + 1)), h, (Sub.cons rfl (Le.refl _) (Sub.cons rfl (Le.refl _) (Sub.cons rfl (Le.refl _) (Sub.cons rfl (Le.refl _) (Sub.cons rfl (Le.refl _) (Sub.cons rfl (Le.refl _) (Sub.cons rfl (Le.refl _) (Sub.nil _)))))))), ⟨⟨rfl, ⟨(Le.refl _), (Le.refl _), (Le.refl _), (Le.refl _), (Le.refl _), trivial⟩⟩, trivial⟩⟩, Nat.lt_succ_self na⟩
      ·replace h := condF h hc3
       refine wc_exit ?_
       refine we_seq_exit ?_
       refine we_lp_exit ?_
       refine we_blk_hit ?_
       exact we_lp ⟨empty92, h, (Sub.cons rfl (Le.refl _) (Sub.cons rfl (Le.refl _) (Sub.cons rfl (Le.refl _) (Sub.cons rfl (Le.refl _) (Sub.cons rfl (Le.refl _) (Sub.cons rfl (Le.refl _) (Sub.nil _))))))), ⟨⟨rfl, ⟨(Le.refl _), (Le.refl _), (Le.refl _), (Le.refl _), (Le.refl _), trivial⟩⟩, trivial⟩⟩
     ·rintro env1 st1 ⟨empty88, h, hsub, hst⟩
      subst hk89
      dsimp only at h
      refine WC.sub hsub (WC.weak hst ?_)
      refine wc_sr ?_
      refine WL.mv rfl rfl ?_
      refine WL.qn (y_len_map E2 r87 e41 rfl rfl (Le.refl _)) rfl ?_
      refine WL.qn (y_eql rfl rfl) rfl ?_
      refine WL.mv rfl rfl ?_
      refine WL.qn (y_neb Tryd.underlying4 rfl rfl) rfl ?_
      refine WL.mv rfl rfl ?_
      obtain ⟨b99, hb99, h⟩ := bindS h
      apply WL.grp 10 (t := 64) (d := 74) (z := b99)
      ·exact rfl
      ·intro hg64
       have h := condT hb99 hg64
       refine WL.skips 9 rfl ?_
       refine WL.qn (y_pick_t rfl rfl) rfl ?_
       obtain rfl := Option.some.inj h
       exact WL.nil ⟨rfl, [_, _, _, _, _, _, _, _, _, _], rfl, rfl, rfl⟩
      ·intro hg64
       have h := condF hb99 hg64
       refine WL.qy (y_move rfl) rfl rfl rfl ?_
       refine WL.qy (y_not rfl) rfl rfl rfl ?_
       refine WL.qy (y_move rfl) rfl rfl rfl ?_
       obtain ⟨b100, hb100, h⟩ := bindS h
       apply WL.grp 6 (t := 67) (d := 73) (z := b100)
       ·exact rfl
       ·intro hg67
        have h := condT hb100 hg67
        refine WL.qy (y_loadN rfl rfl a28 s28 rfl) rfl rfl rfl ?_
        refine WL.qy (y_move rfl) rfl rfl rfl ?_
        refine WL.qy (y_move rfl) rfl rfl rfl ?_
        obtain ⟨r101, hr101, h⟩ := bindS h
        refine WL.fn rfl rfl rfl rfl (f31_c _ _ _ hr101) ⟨(Le.agd ⟨(Le.refl _), (Le.refl _), (Le.refl _), (Le.refl _), (Le.refl _), trivial⟩), (Le.refl _), (Le.refl _), trivial⟩ (Wt.yes rfl rfl rfl) rfl rfl ?_
        refine WL.qy (y_not rfl) rfl rfl rfl ?_
        refine WL.qy (y_pick_t rfl rfl) rfl rfl rfl ?_
        obtain rfl := Option.some.inj h
        exact WL.nil ⟨rfl, [_, _, _, _, _, _], rfl, rfl, rfl⟩
       ·intro hg67
        have h := condF hb100 hg67
        refine WL.skips 5 rfl ?_
        refine WL.qy (y_pick_f rfl rfl) rfl rfl rfl ?_
        obtain rfl := Option.some.inj h
        exact WL.nil ⟨rfl, [_, _, _, _, _, _], rfl, rfl, rfl⟩
       refine WL.qn (y_pick_f rfl rfl) rfl ?_
       obtain rfl := Option.some.inj h
       exact WL.nil ⟨rfl, [_, _, _, _, _], rfl, rfl, rfl⟩
      refine WL.ns ?_
      refine wc_cond rfl (fun hc5 => ?_) (fun hc5 => ?_)
      ·replace h := condT h hc5
       refine wc_sr ?_
       refine WL.as rfl rfl ?_
       refine WL.ns ?_
       refine wc_ret ?_
       refine we_blk_ret ?_
       refine we_lp_ret ?_
       refine we_lp_ret ?_
       refine we_blk_ret ?_
       refine we_lp_ret ?_
       obtain rfl := Option.some.inj h
       exact we_ret_fn (rs1 rfl (rv_t rfl)) (Le.refl _)
      ·replace h := condF h hc5
       refine wc_skip ?_
       refine we_blk ?_
       exact we_lp ⟨h, (Sub.cons rfl (Le.refl _) (Sub.cons rfl (Le.refl _) (Sub.cons rfl (Le.refl _) (Sub.nil _)))), ⟨⟨rfl, ⟨(Le.refl _), (Le.refl _), (Le.refl _), (Le.refl _), (Le.refl _), trivial⟩⟩, trivial⟩⟩
    ·rintro env1 st1 ⟨h, hsub, hst⟩
     subst hk86
     dsimp only at h
     refine WC.sub hsub (WC.weak hst ?_)
     refine wc_region ?_
     refine WL.qn (y_add rfl rfl rfl) rfl ?_
     refine WL.mv rfl rfl ?_
     refine WL.nil ?_
     exact we_lp ⟨n, ⟨(IntKind.i64.wrap (t84 + 1)), h, (Sub.cons rfl (Le.refl _) (Sub.cons rfl (Le.refl _) (Sub.cons rfl (Le.refl _) (Sub.nil _)))), ⟨⟨rfl, ⟨(Le.refl _), (Le.refl _), (Le.refl _), (Le.refl _), (Le.refl _), trivial⟩⟩, trivial⟩⟩, Nat.lt_succ_self n⟩
   ·replace h := condF h hc2
    refine wc_exit ?_
    refine we_seq_exit ?_
    refine we_lp_exit ?_
    refine we_blk_hit ?_
    exact we_lp ⟨h, (Sub.nil _), ⟨⟨rfl, ⟨(Le.refl _), (Le.refl _), (Le.refl _), (Le.refl _), (Le.refl _), trivial⟩⟩, trivial⟩⟩
  ·rintro env1 st1 ⟨h, hsub, hst⟩
   subst hk82
   dsimp only at h
   refine WC.sub hsub (WC.weak hst ?_)
   refine wc_sr ?_
   obtain ⟨r102, hr102, h⟩ := bindS h
   refine WL.fn rfl rfl rfl rfl (f17_c hr102) trivial (Wt.none rfl) rfl rfl ?_
   refine WL.as rfl rfl ?_
   refine WL.ns ?_
   refine wc_ret ?_
   obtain rfl := Option.some.inj h
   exact we_ret_fn (rs1 rfl (rv_t rfl)) (Le.refl _)

end Go.Proofs.YteafckpdbmncfaaDoor
