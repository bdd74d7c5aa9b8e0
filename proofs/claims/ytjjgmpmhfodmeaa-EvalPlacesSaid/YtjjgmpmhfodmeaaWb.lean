/- The walks of functions. -/
import Derived.Test.YtjjgmpmhfodmeaaProg
import Derived.KernelRfl
import Derived.Test.YtjjgmpmhfodmeaaF
import Derived.Test.YtjjgmpmhfodmeaaWa
set_option maxHeartbeats 4000000
namespace Go.Proofs.Ytjjgmpmhfodmeaa
open Go Go.Sk
theorem f29_c (s0 : List (List Int)) (p1 : Place) {r : Spot × Bool} (h : f29 s0 p1 = some r) : Pu Try.prog 29 [.sl (List.map E56 s0), .ag (R29 p1)] (.tu [.ag (R52 r.1), .b r.2]) := by
  unfold f29 at h
  refine fn_intro Try.func29 (by kernel_rfl) rfl rfl rfl (fun φφ ww => ?_)
  refine wc_seq ?_
  refine wc_region ?_
  refine WL.s ((b_boxd rfl rfl (Les.refl _)).does) (Wt.none rfl) rfl rfl ?_
  refine WL.s ((b_alloc z52).does) (Wt.none rfl) rfl rfl ?_
  refine WL.q (y_assign rfl) (Wt.none rfl) rfl rfl ?_
  refine WL.nil ?_
  refine we_seq ?_
  refine wc_seq ?_
  refine wc_seq ?_
  refine wc_region ?_
  refine WL.q (y_loadcN rfl a29 s29 rfl) (Wt.none rfl) rfl rfl ?_
  replace h := bindS h
  obtain ⟨r70, hr70, h⟩ := h
  refine WL.fn rfl rfl rfl rfl (f15_c _ hr70) ⟨(Le.refl _), trivial⟩ (Wt.none rfl) rfl rfl ?_
  refine WL.q (y_not rfl) (Wt.none rfl) rfl rfl ?_
  refine WL.nil ?_
  refine we_seq ?_
  refine wc_cond rfl (fun hc1 => ?_) (fun hc1 => ?_)
  · replace h := condT h hc1
    refine wc_seq ?_
    refine wc_region ?_
    refine WL.q (y_build p52 z52 rfl rfl) (Wt.none rfl) rfl rfl ?_
    refine WL.s0 (d_store rfl rfl rfl rfl rfl rfl s52 rfl rfl) (Wt.none rfl) rfl ?_
    refine WL.q (y_assign rfl) (Wt.none rfl) rfl rfl ?_
    refine WL.nil ?_
    refine we_seq ?_
    refine wc_ret ?_
    refine we_seq_ret ?_
    obtain rfl := Option.some.inj h
    exact we_ret_fn (rs2 rfl (rv_cN rfl rfl a52 s52 rfl) (rv_t rfl)) (Le.tud ⟨(Le.agd ⟨(Le.refl _), (Le.refl _), trivial⟩), (Le.refl _), trivial⟩)
  · replace h := condF h hc1
    refine wc_skip ?_
    refine we_seq ?_
    refine wc_seq ?_
    refine wc_region ?_
    refine WL.q (y_fieldAddrc f29_1 rfl) (Wt.none rfl) rfl rfl ?_
    refine WL.q (y_loadc rfl a3 rfl) (Wt.none rfl) rfl rfl ?_
    refine WL.q (y_fieldAddrc f29_2 rfl) (Wt.none rfl) rfl rfl ?_
    refine WL.q (y_loadc rfl a3 rfl) (Wt.none rfl) rfl rfl ?_
    refine WL.q (y_build p52 z52 rfl rfl) (Wt.none rfl) rfl rfl ?_
    refine WL.s ((b_alloc z52).does) (Wt.none rfl) rfl rfl ?_
    refine WL.s0 (d_store rfl rfl rfl rfl rfl rfl s52 rfl rfl) (Wt.none rfl) rfl ?_
    refine WL.nil ?_
    refine we_seq ?_
    replace h := letkS h
    obtain ⟨k73, hk73, h⟩ := h
    refine wc_cut (fun env' st' => ∃ (c1071 : Int), ∃ (c1172 : Int), k73 c1071 c1172 = some r ∧ Sub [(0, .d (.sl (List.map E56 s0))), (4, .pt 0 0), (6, .pt 1 0)] env' ∧ SLe st' [.row 52 [.d (D.i .i64 0), .d (D.i .i64 0)], .row 52 [.d (D.i .i64 c1071), .d (D.i .i64 c1172)]]) ?_ ?_
    · refine wc_seq ?_
      refine wc_region ?_
      refine WL.q (y_fieldAddrc f29_4 rfl) (Wt.none rfl) rfl rfl ?_
      refine WL.q (y_loadc rfl a24 rfl) (Wt.none rfl) rfl rfl ?_
      refine WL.q (y_len_map E26 p1.e e24 rfl rfl (Le.refl _)) (Wt.none rfl) rfl rfl ?_
      refine WL.q (y_eql rfl rfl) (Wt.none rfl) rfl rfl ?_
      refine WL.nil ?_
      refine we_seq ?_
      refine wc_cond rfl (fun hc2 => ?_) (fun hc2 => ?_)
      · replace h := condT h hc2
        refine wc_seq ?_
        refine wc_region ?_
        refine WL.q (y_move rfl) (Wt.none rfl) rfl rfl ?_
        refine WL.q (y_fieldAddrc f29_4 rfl) (Wt.none rfl) rfl rfl ?_
        refine WL.q (y_loadc rfl a24 rfl) (Wt.none rfl) rfl rfl ?_
        replace h := bindS h
        obtain ⟨x74, hx74, h⟩ := h
        refine WL.q (y_indexAddr e24 rfl (Le.refl _) rfl (idx_nonneg hx74) (idx_row E26_eq hx74) rfl) (Wt.none rfl) rfl rfl ?_
        refine WL.q (y_loadcN rfl a26 s26 rfl) (Wt.none rfl) rfl rfl ?_
        replace h := bindS h
        obtain ⟨r75, hr75, h⟩ := h
        refine WL.fn rfl rfl rfl rfl (f21_c _ _ _ hr75) ⟨(Le.refl _), Le.nil, (Le.refl _), trivial⟩ (Wt.none rfl) rfl rfl ?_
        refine WL.q (y_move rfl) (Wt.none rfl) rfl rfl ?_
        refine WL.q (y_extractd rfl rfl) (Wt.none rfl) rfl rfl ?_
        refine WL.q (y_extractd rfl rfl) (Wt.none rfl) rfl rfl ?_
        refine WL.q (y_assign rfl) (Wt.none rfl) rfl rfl ?_
        refine WL.q (y_assign rfl) (Wt.none rfl) rfl rfl ?_
        refine WL.nil ?_
        refine we_seq ?_
        refine wc_block ?_
        replace h := letkS h
        obtain ⟨k77, hk77, h⟩ := h
        refine wc_cut (fun env' st' => ∃ (t76 : Bool), k77 t76 = some r ∧ Sub [(0, .d (.sl (List.map E56 s0))), (3, .d (.pc (R29 p1))), (4, .pt 0 0), (6, .pt 1 0), (7, .d (D.i .i64 r75.1)), (34, .d (D.b t76))] env' ∧ SLe st' [.row 52 [.d (D.i .i64 0), .d (D.i .i64 0)], .row 52 [.d (D.i .i64 p1.o), .d (D.i .i64 p1.off)]]) ?_ ?_
        · refine wc_seq ?_
          refine wc_region ?_
          refine WL.q (y_move rfl) (Wt.none rfl) rfl rfl ?_
          refine WL.q (y_not rfl) (Wt.none rfl) rfl rfl ?_
          refine WL.q (y_assign rfl) (Wt.none rfl) rfl rfl ?_
          refine WL.nil ?_
          refine we_seq ?_
          refine wc_cond rfl (fun hc3 => ?_) (fun hc3 => ?_)
          · replace h := condT h hc3
            refine wc_skip ?_
            exact we_lp ⟨(!r75.2), h, (Sub.cons rfl (Le.refl _) (Sub.cons rfl (Le.refl _) (Sub.cons rfl (Le.refl _) (Sub.cons rfl (Le.refl _) (Sub.cons rfl (Le.refl _) (Sub.cons rfl (Le.refl _) (Sub.nil _))))))), ⟨⟨rfl, ⟨(Le.refl _), (Le.refl _), trivial⟩⟩, ⟨rfl, ⟨(Le.refl _), (Le.refl _), trivial⟩⟩, trivial⟩⟩
          · replace h := condF h hc3
            refine wc_seq ?_
            refine wc_region ?_
            refine WL.q (y_move rfl) (Wt.none rfl) rfl rfl ?_
            refine WL.q (y_lss rfl rfl) (Wt.none rfl) rfl rfl ?_
            refine WL.q (y_assign rfl) (Wt.none rfl) rfl rfl ?_
            refine WL.nil ?_
            refine we_seq ?_
            refine wc_cond rfl (fun hc4 => ?_) (fun hc4 => ?_)
            · replace h := condT h hc4
              refine wc_skip ?_
              exact we_lp ⟨(decide (r75.1 < 0)), h, (Sub.cons rfl (Le.refl _) (Sub.cons rfl (Le.refl _) (Sub.cons rfl (Le.refl _) (Sub.cons rfl (Le.refl _) (Sub.cons rfl (Le.refl _) (Sub.cons rfl (Le.refl _) (Sub.nil _))))))), ⟨⟨rfl, ⟨(Le.refl _), (Le.refl _), trivial⟩⟩, ⟨rfl, ⟨(Le.refl _), (Le.refl _), trivial⟩⟩, trivial⟩⟩
            · replace h := condF h hc4
              refine wc_region ?_
              refine WL.q (y_fieldAddrc f29_0 rfl) (Wt.none rfl) rfl rfl ?_
              refine WL.q (y_loadc rfl a27 rfl) (Wt.none rfl) rfl rfl ?_
              refine WL.q (y_eql rfl rfl) (Wt.none rfl) rfl rfl ?_
              refine WL.q (y_move rfl) (Wt.none rfl) rfl rfl ?_
              apply WL.and 5 (t := 42) (d := 47)
              · exact rfl
              · intro hg42
                refine WL.q (y_move rfl) (Wt.yes rfl rfl rfl) rfl rfl ?_
                refine WL.q (y_fieldAddrc f29_3 rfl) (Wt.yes rfl rfl rfl) rfl rfl ?_
                refine WL.q (y_loadc rfl a3 rfl) (Wt.yes rfl rfl rfl) rfl rfl ?_
                refine WL.q (y_geq rfl rfl) (Wt.yes rfl rfl rfl) rfl rfl ?_
                refine WL.q (y_pick_t rfl rfl) (Wt.none rfl) rfl rfl ?_
                exact WL.nil ⟨rfl, [_, _, _, _, _], rfl, rfl, rfl⟩
              · refine WL.skips 4 rfl ?_
                refine WL.q (y_pick_f rfl rfl) (Wt.none rfl) rfl rfl ?_
                exact WL.nil ⟨rfl, [_, _, _, _, _], rfl, rfl, rfl⟩
              refine WL.q (y_assign rfl) (Wt.none rfl) rfl rfl ?_
              refine WL.nil ?_
              exact we_lp ⟨((decide (p1.kind = 2)) && (decide (r75.1 ≥ p1.len))), h, (Sub.cons rfl (Le.refl _) (Sub.cons rfl (Le.refl _) (Sub.cons rfl (Le.refl _) (Sub.cons rfl (Le.refl _) (Sub.cons rfl (Le.refl _) (Sub.cons rfl (Le.refl _) (Sub.nil _))))))), ⟨⟨rfl, ⟨(Le.refl _), (Le.refl _), trivial⟩⟩, ⟨rfl, ⟨(Le.refl _), (Le.refl _), trivial⟩⟩, trivial⟩⟩
        · rintro env1 st1 ⟨t76, h, hsub, hst⟩
          subst hk77
          dsimp only at h
          refine WC.sub hsub (WC.weak hst ?_)
          refine wc_cond rfl (fun hc5 => ?_) (fun hc5 => ?_)
          · replace h := condT h hc5
            refine wc_seq ?_
            refine wc_region ?_
            refine WL.q (y_build p52 z52 rfl rfl) (Wt.none rfl) rfl rfl ?_
            refine WL.s0 (d_store rfl rfl rfl rfl rfl rfl s52 rfl rfl) (Wt.none rfl) rfl ?_
            refine WL.q (y_assign rfl) (Wt.none rfl) rfl rfl ?_
            refine WL.nil ?_
            refine we_seq ?_
            refine wc_ret ?_
            refine we_blk_ret ?_
            refine we_lp_ret ?_
            obtain rfl := Option.some.inj h
            exact we_ret_fn (rs2 rfl (rv_cN rfl rfl a52 s52 rfl) (rv_t rfl)) (Le.tud ⟨(Le.agd ⟨(Le.refl _), (Le.refl _), trivial⟩), (Le.refl _), trivial⟩)
          · replace h := condF h hc5
            refine wc_seq ?_
            refine wc_region ?_
            refine WL.q (y_fieldAddrc f29_0 rfl) (Wt.none rfl) rfl rfl ?_
            refine WL.q (y_loadc rfl a27 rfl) (Wt.none rfl) rfl rfl ?_
            refine WL.q (y_eql rfl rfl) (Wt.none rfl) rfl rfl ?_
            refine WL.q (y_assign rfl) (Wt.none rfl) rfl rfl ?_
            refine WL.nil ?_
            refine we_seq ?_
            refine wc_cond rfl (fun hc6 => ?_) (fun hc6 => ?_)
            · replace h := condT h hc6
              refine wc_region ?_
              refine WL.q (y_fieldAddr f52_1 rfl) (Wt.none rfl) rfl rfl ?_
              refine WL.q (y_load rfl rfl a3 rfl) (Wt.none rfl) rfl rfl ?_
              refine WL.q (y_move rfl) (Wt.none rfl) rfl rfl ?_
              refine WL.q (y_add rfl rfl rfl) (Wt.none rfl) rfl rfl ?_
              refine WL.q (y_fieldAddr f52_1 rfl) (Wt.none rfl) rfl rfl ?_
              refine WL.s0 (d_store rfl rfl rfl rfl rfl rfl s3 rfl rfl) (Wt.none rfl) rfl ?_
              refine WL.nil ?_
              refine we_blk ?_
              exact we_lp ⟨p1.o, (IntKind.i64.wrap (p1.off + r75.1)), h, (Sub.cons rfl (Le.refl _) (Sub.cons rfl (Le.refl _) (Sub.cons rfl (Le.refl _) (Sub.nil _)))), ⟨⟨rfl, ⟨(Le.refl _), (Le.refl _), trivial⟩⟩, ⟨rfl, ⟨(Le.refl _), (Le.refl _), trivial⟩⟩, trivial⟩⟩
            · replace h := condF h hc6
              refine wc_region ?_
              refine WL.q (y_move rfl) (Wt.none rfl) rfl rfl ?_
              refine WL.q (y_sub rfl rfl rfl) (Wt.none rfl) rfl rfl ?_
              refine WL.q (y_fieldAddr f52_0 rfl) (Wt.none rfl) rfl rfl ?_
              refine WL.s0 (d_store rfl rfl rfl rfl rfl rfl s3 rfl rfl) (Wt.none rfl) rfl ?_
              refine WL.nil ?_
              refine we_blk ?_
              exact we_lp ⟨(IntKind.i64.wrap (r75.1 - 1)), p1.off, h, (Sub.cons rfl (Le.refl _) (Sub.cons rfl (Le.refl _) (Sub.cons rfl (Le.refl _) (Sub.nil _)))), ⟨⟨rfl, ⟨(Le.refl _), (Le.refl _), trivial⟩⟩, ⟨rfl, ⟨(Le.refl _), (Le.refl _), trivial⟩⟩, trivial⟩⟩
      · replace h := condF h hc2
        refine wc_skip ?_
        exact we_lp ⟨p1.o, p1.off, h, (Sub.cons rfl (Le.refl _) (Sub.cons rfl (Le.refl _) (Sub.cons rfl (Le.refl _) (Sub.nil _)))), ⟨⟨rfl, ⟨(Le.refl _), (Le.refl _), trivial⟩⟩, ⟨rfl, ⟨(Le.refl _), (Le.refl _), trivial⟩⟩, trivial⟩⟩
    · rintro env1 st1 ⟨c1071, c1172, h, hsub, hst⟩
      subst hk73
      dsimp only at h
      refine WC.sub hsub (WC.weak hst ?_)
      refine wc_seq ?_
      refine wc_seq ?_
      refine wc_region ?_
      refine WL.q (y_move rfl) (Wt.none rfl) rfl rfl ?_
      refine WL.q (y_fieldAddr f52_0 rfl) (Wt.none rfl) rfl rfl ?_
      refine WL.q (y_load rfl rfl a3 rfl) (Wt.none rfl) rfl rfl ?_
      refine WL.q (y_fieldAddr f52_1 rfl) (Wt.none rfl) rfl rfl ?_
      refine WL.q (y_load rfl rfl a3 rfl) (Wt.none rfl) rfl rfl ?_
      replace h := bindS h
      obtain ⟨r78, hr78, h⟩ := h
      refine WL.fn rfl rfl rfl rfl (f55_c _ _ _ hr78) ⟨(Le.refl _), (Le.refl _), (Le.refl _), trivial⟩ (Wt.none rfl) rfl rfl ?_
      refine WL.q (y_not rfl) (Wt.none rfl) rfl rfl ?_
      refine WL.nil ?_
      refine we_seq ?_
      refine wc_cond rfl (fun hc7 => ?_) (fun hc7 => ?_)
      · replace h := condT h hc7
        refine wc_seq ?_
        refine wc_region ?_
        refine WL.q (y_build p52 z52 rfl rfl) (Wt.none rfl) rfl rfl ?_
        refine WL.s0 (d_store rfl rfl rfl rfl rfl rfl s52 rfl rfl) (Wt.none rfl) rfl ?_
        refine WL.q (y_assign rfl) (Wt.none rfl) rfl rfl ?_
        refine WL.nil ?_
        refine we_seq ?_
        refine wc_ret ?_
        refine we_seq_ret ?_
        obtain rfl := Option.some.inj h
        exact we_ret_fn (rs2 rfl (rv_cN rfl rfl a52 s52 rfl) (rv_t rfl)) (Le.tud ⟨(Le.agd ⟨(Le.refl _), (Le.refl _), trivial⟩), (Le.refl _), trivial⟩)
      · replace h := condF h hc7
        refine wc_skip ?_
        refine we_seq ?_
        refine wc_seq ?_
        refine wc_region ?_
        refine WL.q (y_loadN rfl rfl a52 s52 rfl) (Wt.none rfl) rfl rfl ?_
        refine WL.s0 (d_store rfl rfl rfl rfl rfl rfl s52 rfl rfl) (Wt.none rfl) rfl ?_
        refine WL.q (y_assign rfl) (Wt.none rfl) rfl rfl ?_
        refine WL.nil ?_
        refine we_seq ?_
        refine wc_ret ?_
        obtain rfl := Option.some.inj h
        exact we_ret_fn (rs2 rfl (rv_cN rfl rfl a52 s52 rfl) (rv_t rfl)) (Le.tud ⟨(Le.agd ⟨(Le.refl _), (Le.refl _), trivial⟩), (Le.refl _), trivial⟩)

theorem f42s_c (rec42 : CE → Int → Int → Int → Option (Int)) (e0 : CE) (lets1 : Int) (depth2 : Int) (left3 : Int) (hrec42 : ∀ (x0 : CE) (x1 : Int) (x2 : Int) (x3 : Int) (r : Int), rec42 x0 x1 x2 x3 = some r → Pu Try.prog 42 [.ag (R26 x0), .i .u64 x1, .i .i64 x2, .i .i64 x3] (.i .i64 r)) {r : Int} (h : f42s rec42 e0 lets1 depth2 left3 = some r) : Pu Try.prog 42 [.ag (R26 e0), .i .u64 lets1, .i .i64 depth2, .i .i64 left3] (.i .i64 r) := by
  unfold f42s at h
  refine fn_intro Try.func42 (by kernel_rfl) rfl rfl rfl (fun φφ ww => ?_)
  refine wc_seq ?_
  refine wc_region ?_
  refine WL.s ((b_boxd rfl rfl (Les.refl _)).does) (Wt.none rfl) rfl rfl ?_
  refine WL.q (y_assign rfl) (Wt.none rfl) rfl rfl ?_
  refine WL.nil ?_
  refine we_seq ?_
  refine wc_seq ?_
  refine wc_seq ?_
  refine wc_region ?_
  refine WL.q (y_move rfl) (Wt.none rfl) rfl rfl ?_
  refine WL.q (y_gtr rfl rfl) (Wt.none rfl) rfl rfl ?_
  refine WL.q (y_move rfl) (Wt.none rfl) rfl rfl ?_
  apply WL.or 3 (t := 13) (d := 16)
  · exact rfl
  · intro hg13
    refine WL.q (y_move rfl) (Wt.yes rfl rfl rfl) rfl rfl ?_
    refine WL.q (y_eql rfl rfl) (Wt.yes rfl rfl rfl) rfl rfl ?_
    refine WL.q (y_pick_f rfl rfl) (Wt.none rfl) rfl rfl ?_
    exact WL.nil ⟨rfl, [_, _, _], rfl, rfl, rfl⟩
  · refine WL.skips 2 rfl ?_
    refine WL.q (y_pick_t rfl rfl) (Wt.none rfl) rfl rfl ?_
    exact WL.nil ⟨rfl, [_, _, _], rfl, rfl, rfl⟩
  refine WL.q (y_move rfl) (Wt.none rfl) rfl rfl ?_
  apply WL.or 5 (t := 17) (d := 22)
  · exact rfl
  · intro hg17
    refine WL.q (y_loadcN rfl a26 s26 rfl) (Wt.yes rfl rfl rfl) rfl rfl ?_
    refine WL.q (y_move rfl) (Wt.yes rfl rfl rfl) rfl rfl ?_
    refine WL.fn rfl rfl rfl rfl (f65_c _ _) ⟨(Le.refl _), (Le.refl _), trivial⟩ (Wt.yes rfl rfl rfl) rfl rfl ?_
    refine WL.q (y_not rfl) (Wt.yes rfl rfl rfl) rfl rfl ?_
    refine WL.q (y_pick_f rfl rfl) (Wt.none rfl) rfl rfl ?_
    exact WL.nil ⟨rfl, [_, _, _, _, _], rfl, rfl, rfl⟩
  · refine WL.skips 4 rfl ?_
    refine WL.q (y_pick_t rfl rfl) (Wt.none rfl) rfl rfl ?_
    exact WL.nil ⟨rfl, [_, _, _, _, _], rfl, rfl, rfl⟩
  refine WL.nil ?_
  refine we_seq ?_
  refine wc_cond rfl (fun hc1 => ?_) (fun hc1 => ?_)
  · replace h := condT h hc1
    refine wc_seq ?_
    refine wc_region ?_
    refine WL.q (y_assign rfl) (Wt.none rfl) rfl rfl ?_
    refine WL.nil ?_
    refine we_seq ?_
    refine wc_ret ?_
    refine we_seq_ret ?_
    obtain rfl := Option.some.inj h
    exact we_ret_fn (rs1 rfl (rv_t rfl)) (Le.refl _)
  · replace h := condF h hc1
    refine wc_skip ?_
    refine we_seq ?_
    refine wc_seq ?_
    refine wc_region ?_
    refine WL.q (y_move rfl) (Wt.none rfl) rfl rfl ?_
    refine WL.q (y_sub rfl rfl rfl) (Wt.none rfl) rfl rfl ?_
    refine WL.q (y_assign rfl) (Wt.none rfl) rfl rfl ?_
    refine WL.nil ?_
    refine we_seq ?_
    replace h := letkS h
    obtain ⟨k63, hk63, h⟩ := h
    refine wc_cut (fun env' st' => ∃ (left62 : Int), k63 left62 = some r ∧ Sub [(3, .d (D.i .i64 left62))] env' ∧ SLe st' []) ?_ ?_
    · refine wc_seq ?_
      refine wc_region ?_
      refine WL.q (y_assign rfl) (Wt.none rfl) rfl rfl ?_
      refine WL.nil ?_
      refine we_seq ?_
      refine wc_block ?_
      refine wc_loop (fun n env' st' => ∃ (left66 : Int), ∃ (iq67 : Int), f42s_l1 rec42 e0 lets1 depth2 k63 n left66 iq67 = some r ∧ Sub [(1, .d (D.i .u64 lets1)), (2, .d (D.i .i64 depth2)), (3, .d (D.i .i64 left66)), (4, .d (.pc (R26 e0))), (9, .d (D.i .i64 iq67))] env' ∧ SLe st' []) (fun n => n) 9223372036854775808 ⟨(IntKind.i64.wrap (left3 - 1)), 0, h, (Sub.cons rfl (Le.refl _) (Sub.cons rfl (Le.refl _) (Sub.cons rfl (Le.refl _) (Sub.cons rfl (Le.refl _) (Sub.cons rfl (Le.refl _) (Sub.nil _)))))), trivial⟩ ?_
      rintro n env1 st1 ⟨left66, iq67, h, hsub, hst⟩
      cases n with
      | zero => rw [f42s_l1] at h; cases h
      | succ n =>
      rw [f42s_l1] at h
      refine WC.sub hsub (WC.weak hst ?_)
      refine wc_seq ?_
      refine wc_seq ?_
      refine wc_region ?_
      refine WL.q (y_move rfl) (Wt.none rfl) rfl rfl ?_
      refine WL.q (y_fieldAddrc f26_8 rfl) (Wt.none rfl) rfl rfl ?_
      refine WL.q (y_loadc rfl a24 rfl) (Wt.none rfl) rfl rfl ?_
      refine WL.q (y_len_map E26 e0.l e24 rfl rfl (Le.refl _)) (Wt.none rfl) rfl rfl ?_
      refine WL.q (y_lss rfl rfl) (Wt.none rfl) rfl rfl ?_
      refine WL.q (y_move rfl) (Wt.none rfl) rfl rfl ?_
      apply WL.and 3 (t := 30) (d := 33)
      · exact rfl
      · intro hg30
        refine WL.q (y_move rfl) (Wt.yes rfl rfl rfl) rfl rfl ?_
        refine WL.q (y_geq rfl rfl) (Wt.yes rfl rfl rfl) rfl rfl ?_
        refine WL.q (y_pick_t rfl rfl) (Wt.none rfl) rfl rfl ?_
        exact WL.nil ⟨rfl, [_, _, _], rfl, rfl, rfl⟩
      · refine WL.skips 2 rfl ?_
        refine WL.q (y_pick_f rfl rfl) (Wt.none rfl) rfl rfl ?_
        exact WL.nil ⟨rfl, [_, _, _], rfl, rfl, rfl⟩
      refine WL.nil ?_
      refine we_seq ?_
      refine wc_cond rfl (fun hc2 => ?_) (fun hc2 => ?_)
      · replace h := condT h hc2
        refine wc_skip ?_
        refine we_seq ?_
        refine wc_seq ?_
        refine wc_block ?_
        refine wc_seq ?_
        refine wc_region ?_
        refine WL.q (y_move rfl) (Wt.none rfl) rfl rfl ?_
        refine WL.q (y_assign rfl) (Wt.none rfl) rfl rfl ?_
        refine WL.nil ?_
        refine we_seq ?_
        replace h := letkS h
        obtain ⟨k71, hk71, h⟩ := h
        refine wc_cut (fun env' st' => ∃ (in70 : Int), k71 in70 = some r ∧ Sub [(1, .d (D.i .u64 lets1)), (2, .d (D.i .i64 depth2)), (3, .d (D.i .i64 left66)), (4, .d (.pc (R26 e0))), (9, .d (D.i .i64 iq67)), (10, .d (D.i .u64 in70))] env' ∧ SLe st' []) ?_ ?_
        · refine wc_seq ?_
          refine wc_region ?_
          refine WL.q (y_fieldAddrc f26_0 rfl) (Wt.none rfl) rfl rfl ?_
          refine WL.q (y_loadc rfl a22 rfl) (Wt.none rfl) rfl rfl ?_
          refine WL.q (y_eql rfl rfl) (Wt.none rfl) rfl rfl ?_
          refine WL.q (y_move rfl) (Wt.none rfl) rfl rfl ?_
          apply WL.and 3 (t := 40) (d := 43)
          · exact rfl
          · intro hg40
            refine WL.q (y_move rfl) (Wt.yes rfl rfl rfl) rfl rfl ?_
            refine WL.q (y_eql rfl rfl) (Wt.yes rfl rfl rfl) rfl rfl ?_
            refine WL.q (y_pick_t rfl rfl) (Wt.none rfl) rfl rfl ?_
            exact WL.nil ⟨rfl, [_, _, _], rfl, rfl, rfl⟩
          · refine WL.skips 2 rfl ?_
            refine WL.q (y_pick_f rfl rfl) (Wt.none rfl) rfl rfl ?_
            exact WL.nil ⟨rfl, [_, _, _], rfl, rfl, rfl⟩
          refine WL.nil ?_
          refine we_seq ?_
          refine wc_cond rfl (fun hc3 => ?_) (fun hc3 => ?_)
          · replace h := condT h hc3
            refine wc_region ?_
            refine WL.q (y_move rfl) (Wt.none rfl) rfl rfl ?_
            refine WL.q (y_add rfl rfl rfl) (Wt.none rfl) rfl rfl ?_
            refine WL.q (y_assign rfl) (Wt.none rfl) rfl rfl ?_
            refine WL.nil ?_
            exact we_lp ⟨(IntKind.u64.wrap (lets1 + 1)), h, (Sub.cons rfl (Le.refl _) (Sub.cons rfl (Le.refl _) (Sub.cons rfl (Le.refl _) (Sub.cons rfl (Le.refl _) (Sub.cons rfl (Le.refl _) (Sub.cons rfl (Le.refl _) (Sub.nil _))))))), trivial⟩
          · replace h := condF h hc3
            refine wc_skip ?_
            exact we_lp ⟨lets1, h, (Sub.cons rfl (Le.refl _) (Sub.cons rfl (Le.refl _) (Sub.cons rfl (Le.refl _) (Sub.cons rfl (Le.refl _) (Sub.cons rfl (Le.refl _) (Sub.cons rfl (Le.refl _) (Sub.nil _))))))), trivial⟩
        · rintro env1 st1 ⟨in70, h, hsub, hst⟩
          subst hk71
          dsimp only at h
          refine WC.sub hsub (WC.weak hst ?_)
          refine wc_region ?_
          refine WL.q (y_fieldAddrc f26_8 rfl) (Wt.none rfl) rfl rfl ?_
          refine WL.q (y_loadc rfl a24 rfl) (Wt.none rfl) rfl rfl ?_
          refine WL.q (y_move rfl) (Wt.none rfl) rfl rfl ?_
          replace h := bindS h
          obtain ⟨x72, hx72, h⟩ := h
          refine WL.q (y_indexAddr e24 rfl (Le.refl _) rfl (idx_nonneg hx72) (idx_row E26_eq hx72) rfl) (Wt.none rfl) rfl rfl ?_
          refine WL.q (y_loadcN rfl a26 s26 rfl) (Wt.none rfl) rfl rfl ?_
          refine WL.q (y_move rfl) (Wt.none rfl) rfl rfl ?_
          refine WL.q (y_move rfl) (Wt.none rfl) rfl rfl ?_
          refine WL.q (y_add rfl rfl rfl) (Wt.none rfl) rfl rfl ?_
          refine WL.q (y_move rfl) (Wt.none rfl) rfl rfl ?_
          replace h := bindS h
          obtain ⟨r73, hr73, h⟩ := h
          refine WL.fn rfl rfl rfl rfl (hrec42 _ _ _ _ _ hr73) ⟨(Le.refl _), (Le.refl _), (Le.refl _), (Le.refl _), trivial⟩ (Wt.none rfl) rfl rfl ?_
          refine WL.q (y_assign rfl) (Wt.none rfl) rfl rfl ?_
          refine WL.nil ?_
          refine we_blk ?_
          refine we_seq ?_
          refine wc_region ?_
          refine WL.q (y_move rfl) (Wt.none rfl) rfl rfl ?_
          refine WL.q (y_add rfl rfl rfl) (Wt.none rfl) rfl rfl ?_
          refine WL.q (y_assign rfl) (Wt.none rfl) rfl rfl ?_
          refine WL.nil ?_
          exact we_lp ⟨n, ⟨r73, (IntKind.i64.wrap (iq67 + 1)), h, (Sub.cons rfl (Le.refl _) (Sub.cons rfl (Le.refl _) (Sub.cons rfl (Le.refl _) (Sub.cons rfl (Le.refl _) (Sub.cons rfl (Le.refl _) (Sub.nil _)))))), trivial⟩, Nat.lt_succ_self n⟩
      · replace h := condF h hc2
        refine wc_exit ?_
        refine we_seq_exit ?_
        refine we_lp_exit ?_
        refine we_blk_hit ?_
        exact we_lp ⟨left66, h, (Sub.cons rfl (Le.refl _) (Sub.nil _)), trivial⟩
    · rintro env1 st1 ⟨left62, h, hsub, hst⟩
      subst hk63
      dsimp only at h
      refine WC.sub hsub (WC.weak hst ?_)
      refine wc_seq ?_
      refine wc_region ?_
      refine WL.q (y_move rfl) (Wt.none rfl) rfl rfl ?_
      refine WL.q (y_assign rfl) (Wt.none rfl) rfl rfl ?_
      refine WL.nil ?_
      refine we_seq ?_
      refine wc_ret ?_
      obtain rfl := Option.some.inj h
      exact we_ret_fn (rs1 rfl (rv_t rfl)) (Le.refl _)

theorem f42_c : ∀ (n : Nat) (x0 : CE) (x1 : Int) (x2 : Int) (x3 : Int) {r : Int}, f42 n x0 x1 x2 x3 = some r → Pu Try.prog 42 [.ag (R26 x0), .i .u64 x1, .i .i64 x2, .i .i64 x3] (.i .i64 r)
  | 0, _, _, _, _, _, h => by cases h
  | n + 1, x0, x1, x2, x3, _, h => f42s_c (f42 n) x0 x1 x2 x3 (fun x0 x1 x2 x3 _ h => f42_c n x0 x1 x2 x3 h) h

theorem f14_c (e0 : CE) (lets1 : Int) {r : Bool} (h : f14 e0 lets1 = some r) : Pu Try.prog 14 [.ag (R26 e0), .i .i64 lets1] (.b r) := by
  unfold f14 at h
  refine fn_intro Try.func14 (by kernel_rfl) rfl rfl rfl (fun φφ ww => ?_)
  refine wc_seq ?_
  refine wc_region ?_
  refine WL.s ((b_boxd rfl rfl (Les.refl _)).does) (Wt.none rfl) rfl rfl ?_
  refine WL.q (y_assign rfl) (Wt.none rfl) rfl rfl ?_
  refine WL.nil ?_
  refine we_seq ?_
  refine wc_seq ?_
  refine wc_seq ?_
  refine wc_region ?_
  refine WL.q (y_move rfl) (Wt.none rfl) rfl rfl ?_
  refine WL.q (y_lss rfl rfl) (Wt.none rfl) rfl rfl ?_
  refine WL.nil ?_
  refine we_seq ?_
  refine wc_cond rfl (fun hc1 => ?_) (fun hc1 => ?_)
  · replace h := condT h hc1
    refine wc_seq ?_
    refine wc_region ?_
    refine WL.q (y_assign rfl) (Wt.none rfl) rfl rfl ?_
    refine WL.nil ?_
    refine we_seq ?_
    refine wc_ret ?_
    refine we_seq_ret ?_
    obtain rfl := Option.some.inj h
    exact we_ret_fn (rs1 rfl (rv_t rfl)) (Le.refl _)
  · replace h := condF h hc1
    refine wc_skip ?_
    refine we_seq ?_
    refine wc_seq ?_
    refine wc_region ?_
    refine WL.q (y_loadcN rfl a26 s26 rfl) (Wt.none rfl) rfl rfl ?_
    refine WL.q (y_move rfl) (Wt.none rfl) rfl rfl ?_
    refine WL.q (y_conv Try.underlying3 Try.underlying69 rfl rfl) (Wt.none rfl) rfl rfl ?_
    replace h := bindS h
    obtain ⟨r15, hr15, h⟩ := h
    refine WL.fn rfl rfl rfl rfl (f42_c 100 _ _ _ _ hr15) ⟨(Le.refl _), (Le.refl _), (Le.refl _), (Le.refl _), trivial⟩ (Wt.none rfl) rfl rfl ?_
    refine WL.q (y_geq rfl rfl) (Wt.none rfl) rfl rfl ?_
    refine WL.q (y_assign rfl) (Wt.none rfl) rfl rfl ?_
    refine WL.nil ?_
    refine we_seq ?_
    refine wc_ret ?_
    obtain rfl := Option.some.inj h
    exact we_ret_fn (rs1 rfl (rv_t rfl)) (Le.refl _)

theorem f16_c (p0 : Place) {r : Bool} (h : f16 p0 = some r) : Pu Try.prog 16 [.ag (R29 p0)] (.b r) := by
  unfold f16 at h
  refine fn_intro Try.func16 (by kernel_rfl) rfl rfl rfl (fun φφ ww => ?_)
  refine wc_seq ?_
  refine wc_region ?_
  refine WL.s ((b_boxd rfl rfl (Les.refl _)).does) (Wt.none rfl) rfl rfl ?_
  refine WL.q (y_assign rfl) (Wt.none rfl) rfl rfl ?_
  refine WL.nil ?_
  refine we_seq ?_
  refine wc_seq ?_
  refine wc_seq ?_
  refine wc_region ?_
  refine WL.q (y_fieldAddrc f29_0 rfl) (Wt.none rfl) rfl rfl ?_
  refine WL.q (y_loadc rfl a27 rfl) (Wt.none rfl) rfl rfl ?_
  refine WL.nil ?_
  refine we_seq ?_
  refine wc_block ?_
  refine wc_seq ?_
  refine wc_region ?_
  refine WL.q (y_eql rfl rfl) (Wt.none rfl) rfl rfl ?_
  refine WL.q (y_assign rfl) (Wt.none rfl) rfl rfl ?_
  refine WL.nil ?_
  refine we_seq ?_
  refine wc_cond rfl (fun hc1 => ?_) (fun hc1 => ?_)
  · replace h := condT h hc1
    refine wc_seq ?_
    refine wc_region ?_
    refine WL.q (y_fieldAddrc f29_1 rfl) (Wt.none rfl) rfl rfl ?_
    refine WL.q (y_loadc rfl a3 rfl) (Wt.none rfl) rfl rfl ?_
    refine WL.fn rfl rfl rfl rfl (f45_c _) ⟨(Le.refl _), trivial⟩ (Wt.none rfl) rfl rfl ?_
    refine WL.q (y_move rfl) (Wt.none rfl) rfl rfl ?_
    apply WL.and 4 (t := 10) (d := 14)
    · exact rfl
    · intro hg10
      refine WL.q (y_fieldAddrc f29_2 rfl) (Wt.yes rfl rfl rfl) rfl rfl ?_
      refine WL.q (y_loadc rfl a3 rfl) (Wt.yes rfl rfl rfl) rfl rfl ?_
      refine WL.fn rfl rfl rfl rfl (f46_c _ _) ⟨(Le.refl _), (Le.refl _), trivial⟩ (Wt.yes rfl rfl rfl) rfl rfl ?_
      refine WL.q (y_pick_t rfl rfl) (Wt.none rfl) rfl rfl ?_
      exact WL.nil ⟨rfl, [_, _, _, _], rfl, rfl, rfl⟩
    · refine WL.skips 3 rfl ?_
      refine WL.q (y_pick_f rfl rfl) (Wt.none rfl) rfl rfl ?_
      exact WL.nil ⟨rfl, [_, _, _, _], rfl, rfl, rfl⟩
    refine WL.q (y_move rfl) (Wt.none rfl) rfl rfl ?_
    apply WL.and 4 (t := 15) (d := 19)
    · exact rfl
    · intro hg15
      refine WL.q (y_fieldAddrc f29_3 rfl) (Wt.yes rfl rfl rfl) rfl rfl ?_
      refine WL.q (y_loadc rfl a3 rfl) (Wt.yes rfl rfl rfl) rfl rfl ?_
      refine WL.q (y_eql rfl rfl) (Wt.yes rfl rfl rfl) rfl rfl ?_
      refine WL.q (y_pick_t rfl rfl) (Wt.none rfl) rfl rfl ?_
      exact WL.nil ⟨rfl, [_, _, _, _], rfl, rfl, rfl⟩
    · refine WL.skips 3 rfl ?_
      refine WL.q (y_pick_f rfl rfl) (Wt.none rfl) rfl rfl ?_
      exact WL.nil ⟨rfl, [_, _, _, _], rfl, rfl, rfl⟩
    refine WL.q (y_move rfl) (Wt.none rfl) rfl rfl ?_
    apply WL.and 5 (t := 20) (d := 25)
    · exact rfl
    · intro hg20
      refine WL.q (y_fieldAddrc f29_4 rfl) (Wt.yes rfl rfl rfl) rfl rfl ?_
      refine WL.q (y_loadc rfl a24 rfl) (Wt.yes rfl rfl rfl) rfl rfl ?_
      refine WL.q (y_len_map E26 p0.e e24 rfl rfl (Le.refl _)) (Wt.yes rfl rfl rfl) rfl rfl ?_
      refine WL.q (y_eql rfl rfl) (Wt.yes rfl rfl rfl) rfl rfl ?_
      refine WL.q (y_pick_t rfl rfl) (Wt.none rfl) rfl rfl ?_
      exact WL.nil ⟨rfl, [_, _, _, _, _], rfl, rfl, rfl⟩
    · refine WL.skips 4 rfl ?_
      refine WL.q (y_pick_f rfl rfl) (Wt.none rfl) rfl rfl ?_
      exact WL.nil ⟨rfl, [_, _, _, _, _], rfl, rfl, rfl⟩
    refine WL.q (y_assign rfl) (Wt.none rfl) rfl rfl ?_
    refine WL.nil ?_
    refine we_seq ?_
    refine wc_ret ?_
    refine we_blk_ret ?_
    refine we_seq_ret ?_
    obtain rfl := Option.some.inj h
    exact we_ret_fn (rs1 rfl (rv_t rfl)) (Le.refl _)
  · replace h := condF h hc1
    refine wc_seq ?_
    refine wc_region ?_
    refine WL.q (y_eql rfl rfl) (Wt.none rfl) rfl rfl ?_
    refine WL.q (y_assign rfl) (Wt.none rfl) rfl rfl ?_
    refine WL.nil ?_
    refine we_seq ?_
    refine wc_cond rfl (fun hc2 => ?_) (fun hc2 => ?_)
    · replace h := condT h hc2
      refine wc_seq ?_
      refine wc_region ?_
      refine WL.q (y_fieldAddrc f29_1 rfl) (Wt.none rfl) rfl rfl ?_
      refine WL.q (y_loadc rfl a3 rfl) (Wt.none rfl) rfl rfl ?_
      refine WL.fn rfl rfl rfl rfl (f45_c _) ⟨(Le.refl _), trivial⟩ (Wt.none rfl) rfl rfl ?_
      refine WL.q (y_move rfl) (Wt.none rfl) rfl rfl ?_
      apply WL.and 6 (t := 31) (d := 37)
      · exact rfl
      · intro hg31
        refine WL.q (y_fieldAddrc f29_2 rfl) (Wt.yes rfl rfl rfl) rfl rfl ?_
        refine WL.q (y_loadc rfl a3 rfl) (Wt.yes rfl rfl rfl) rfl rfl ?_
        refine WL.q (y_fieldAddrc f29_3 rfl) (Wt.yes rfl rfl rfl) rfl rfl ?_
        refine WL.q (y_loadc rfl a3 rfl) (Wt.yes rfl rfl rfl) rfl rfl ?_
        refine WL.fn rfl rfl rfl rfl (f46_c _ _) ⟨(Le.refl _), (Le.refl _), trivial⟩ (Wt.yes rfl rfl rfl) rfl rfl ?_
        refine WL.q (y_pick_t rfl rfl) (Wt.none rfl) rfl rfl ?_
        exact WL.nil ⟨rfl, [_, _, _, _, _, _], rfl, rfl, rfl⟩
      · refine WL.skips 5 rfl ?_
        refine WL.q (y_pick_f rfl rfl) (Wt.none rfl) rfl rfl ?_
        exact WL.nil ⟨rfl, [_, _, _, _, _, _], rfl, rfl, rfl⟩
      refine WL.q (y_move rfl) (Wt.none rfl) rfl rfl ?_
      apply WL.and 5 (t := 38) (d := 43)
      · exact rfl
      · intro hg38
        refine WL.q (y_fieldAddrc f29_4 rfl) (Wt.yes rfl rfl rfl) rfl rfl ?_
        refine WL.q (y_loadc rfl a24 rfl) (Wt.yes rfl rfl rfl) rfl rfl ?_
        refine WL.q (y_len_map E26 p0.e e24 rfl rfl (Le.refl _)) (Wt.yes rfl rfl rfl) rfl rfl ?_
        refine WL.q (y_eql rfl rfl) (Wt.yes rfl rfl rfl) rfl rfl ?_
        refine WL.q (y_pick_t rfl rfl) (Wt.none rfl) rfl rfl ?_
        exact WL.nil ⟨rfl, [_, _, _, _, _], rfl, rfl, rfl⟩
      · refine WL.skips 4 rfl ?_
        refine WL.q (y_pick_f rfl rfl) (Wt.none rfl) rfl rfl ?_
        exact WL.nil ⟨rfl, [_, _, _, _, _], rfl, rfl, rfl⟩
      refine WL.q (y_move rfl) (Wt.none rfl) rfl rfl ?_
      replace h := bindS h
      obtain ⟨b81, hb81, h⟩ := h
      apply WL.grp 6 (t := 44) (d := 50) (z := b81)
      · exact rfl
      · intro hg44
        have h := condT hb81 hg44
        refine WL.q (y_fieldAddrc f29_4 rfl) (Wt.yes rfl rfl rfl) rfl rfl ?_
        refine WL.q (y_loadc rfl a24 rfl) (Wt.yes rfl rfl rfl) rfl rfl ?_
        replace h := bindS h
        obtain ⟨x82, hx82, h⟩ := h
        refine WL.q (y_indexAddr e24 rfl (Le.refl _) rfl (idx_nonneg hx82) (idx_row E26_eq hx82) rfl) (Wt.yes rfl rfl rfl) rfl rfl ?_
        refine WL.q (y_loadcN rfl a26 s26 rfl) (Wt.yes rfl rfl rfl) rfl rfl ?_
        replace h := bindS h
        obtain ⟨r83, hr83, h⟩ := h
        refine WL.fn rfl rfl rfl rfl (f14_c _ _ hr83) ⟨(Le.refl _), (Le.refl _), trivial⟩ (Wt.yes rfl rfl rfl) rfl rfl ?_
        refine WL.q (y_pick_t rfl rfl) (Wt.none rfl) rfl rfl ?_
        obtain rfl := Option.some.inj h
        exact WL.nil ⟨rfl, [_, _, _, _, _, _], rfl, rfl, rfl⟩
      · intro hg44
        have h := condF hb81 hg44
        refine WL.skips 5 rfl ?_
        refine WL.q (y_pick_f rfl rfl) (Wt.none rfl) rfl rfl ?_
        obtain rfl := Option.some.inj h
        exact WL.nil ⟨rfl, [_, _, _, _, _, _], rfl, rfl, rfl⟩
      refine WL.q (y_assign rfl) (Wt.none rfl) rfl rfl ?_
      refine WL.nil ?_
      refine we_seq ?_
      refine wc_ret ?_
      refine we_blk_ret ?_
      refine we_seq_ret ?_
      obtain rfl := Option.some.inj h
      exact we_ret_fn (rs1 rfl (rv_t rfl)) (Le.refl _)
    · replace h := condF h hc2
      refine wc_seq ?_
      refine wc_region ?_
      refine WL.q (y_eql rfl rfl) (Wt.none rfl) rfl rfl ?_
      refine WL.q (y_assign rfl) (Wt.none rfl) rfl rfl ?_
      refine WL.nil ?_
      refine we_seq ?_
      refine wc_cond rfl (fun hc3 => ?_) (fun hc3 => ?_)
      · replace h := condT h hc3
        refine wc_seq ?_
        refine wc_region ?_
        refine WL.q (y_fieldAddrc f29_1 rfl) (Wt.none rfl) rfl rfl ?_
        refine WL.q (y_loadc rfl a3 rfl) (Wt.none rfl) rfl rfl ?_
        refine WL.q (y_eql rfl rfl) (Wt.none rfl) rfl rfl ?_
        refine WL.q (y_move rfl) (Wt.none rfl) rfl rfl ?_
        apply WL.and 4 (t := 56) (d := 60)
        · exact rfl
        · intro hg56
          refine WL.q (y_fieldAddrc f29_2 rfl) (Wt.yes rfl rfl rfl) rfl rfl ?_
          refine WL.q (y_loadc rfl a3 rfl) (Wt.yes rfl rfl rfl) rfl rfl ?_
          refine WL.q (y_eql rfl rfl) (Wt.yes rfl rfl rfl) rfl rfl ?_
          refine WL.q (y_pick_t rfl rfl) (Wt.none rfl) rfl rfl ?_
          exact WL.nil ⟨rfl, [_, _, _, _], rfl, rfl, rfl⟩
        · refine WL.skips 3 rfl ?_
          refine WL.q (y_pick_f rfl rfl) (Wt.none rfl) rfl rfl ?_
          exact WL.nil ⟨rfl, [_, _, _, _], rfl, rfl, rfl⟩
        refine WL.q (y_move rfl) (Wt.none rfl) rfl rfl ?_
        apply WL.and 4 (t := 61) (d := 65)
        · exact rfl
        · intro hg61
          refine WL.q (y_fieldAddrc f29_3 rfl) (Wt.yes rfl rfl rfl) rfl rfl ?_
          refine WL.q (y_loadc rfl a3 rfl) (Wt.yes rfl rfl rfl) rfl rfl ?_
          refine WL.q (y_eql rfl rfl) (Wt.yes rfl rfl rfl) rfl rfl ?_
          refine WL.q (y_pick_t rfl rfl) (Wt.none rfl) rfl rfl ?_
          exact WL.nil ⟨rfl, [_, _, _, _], rfl, rfl, rfl⟩
        · refine WL.skips 3 rfl ?_
          refine WL.q (y_pick_f rfl rfl) (Wt.none rfl) rfl rfl ?_
          exact WL.nil ⟨rfl, [_, _, _, _], rfl, rfl, rfl⟩
        refine WL.q (y_move rfl) (Wt.none rfl) rfl rfl ?_
        apply WL.and 5 (t := 66) (d := 71)
        · exact rfl
        · intro hg66
          refine WL.q (y_fieldAddrc f29_4 rfl) (Wt.yes rfl rfl rfl) rfl rfl ?_
          refine WL.q (y_loadc rfl a24 rfl) (Wt.yes rfl rfl rfl) rfl rfl ?_
          refine WL.q (y_len_map E26 p0.e e24 rfl rfl (Le.refl _)) (Wt.yes rfl rfl rfl) rfl rfl ?_
          refine WL.q (y_eql rfl rfl) (Wt.yes rfl rfl rfl) rfl rfl ?_
          refine WL.q (y_pick_t rfl rfl) (Wt.none rfl) rfl rfl ?_
          exact WL.nil ⟨rfl, [_, _, _, _, _], rfl, rfl, rfl⟩
        · refine WL.skips 4 rfl ?_
          refine WL.q (y_pick_f rfl rfl) (Wt.none rfl) rfl rfl ?_
          exact WL.nil ⟨rfl, [_, _, _, _, _], rfl, rfl, rfl⟩
        refine WL.q (y_move rfl) (Wt.none rfl) rfl rfl ?_
        replace h := bindS h
        obtain ⟨b84, hb84, h⟩ := h
        apply WL.grp 6 (t := 72) (d := 78) (z := b84)
        · exact rfl
        · intro hg72
          have h := condT hb84 hg72
          refine WL.q (y_fieldAddrc f29_4 rfl) (Wt.yes rfl rfl rfl) rfl rfl ?_
          refine WL.q (y_loadc rfl a24 rfl) (Wt.yes rfl rfl rfl) rfl rfl ?_
          replace h := bindS h
          obtain ⟨x85, hx85, h⟩ := h
          refine WL.q (y_indexAddr e24 rfl (Le.refl _) rfl (idx_nonneg hx85) (idx_row E26_eq hx85) rfl) (Wt.yes rfl rfl rfl) rfl rfl ?_
          refine WL.q (y_loadcN rfl a26 s26 rfl) (Wt.yes rfl rfl rfl) rfl rfl ?_
          replace h := bindS h
          obtain ⟨r86, hr86, h⟩ := h
          refine WL.fn rfl rfl rfl rfl (f14_c _ _ hr86) ⟨(Le.refl _), (Le.refl _), trivial⟩ (Wt.yes rfl rfl rfl) rfl rfl ?_
          refine WL.q (y_pick_t rfl rfl) (Wt.none rfl) rfl rfl ?_
          obtain rfl := Option.some.inj h
          exact WL.nil ⟨rfl, [_, _, _, _, _, _], rfl, rfl, rfl⟩
        · intro hg72
          have h := condF hb84 hg72
          refine WL.skips 5 rfl ?_
          refine WL.q (y_pick_f rfl rfl) (Wt.none rfl) rfl rfl ?_
          obtain rfl := Option.some.inj h
          exact WL.nil ⟨rfl, [_, _, _, _, _, _], rfl, rfl, rfl⟩
        refine WL.q (y_assign rfl) (Wt.none rfl) rfl rfl ?_
        refine WL.nil ?_
        refine we_seq ?_
        refine wc_ret ?_
        refine we_blk_ret ?_
        refine we_seq_ret ?_
        obtain rfl := Option.some.inj h
        exact we_ret_fn (rs1 rfl (rv_t rfl)) (Le.refl _)
      · replace h := condF h hc3
        refine wc_skip ?_
        refine we_blk ?_
        refine we_seq ?_
        refine wc_seq ?_
        refine wc_region ?_
        refine WL.q (y_assign rfl) (Wt.none rfl) rfl rfl ?_
        refine WL.nil ?_
        refine we_seq ?_
        refine wc_ret ?_
        obtain rfl := Option.some.inj h
        exact we_ret_fn (rs1 rfl (rv_t rfl)) (Le.refl _)

theorem f80_c (s0 : List (List Int)) (o1 : Int) (slot2 : Int) {r : Int × Bool} (h : f80 s0 o1 slot2 = some r) : Pu Try.prog 80 [.sl (List.map E56 s0), .i .i64 o1, .i .i64 slot2] (.tu [.i .i64 r.1, .b r.2]) := by
  unfold f80 at h
  refine fn_intro Try.func80 (by kernel_rfl) rfl rfl rfl (fun φφ ww => ?_)
  refine wc_seq ?_
  refine wc_region ?_
  refine WL.q (y_assign rfl) (Wt.none rfl) rfl rfl ?_
  refine WL.q (y_assign rfl) (Wt.none rfl) rfl rfl ?_
  refine WL.nil ?_
  refine we_seq ?_
  refine wc_seq ?_
  refine wc_seq ?_
  refine wc_region ?_
  refine WL.q (y_move rfl) (Wt.none rfl) rfl rfl ?_
  refine WL.q (y_move rfl) (Wt.none rfl) rfl rfl ?_
  refine WL.q (y_move rfl) (Wt.none rfl) rfl rfl ?_
  replace h := bindS h
  obtain ⟨r35, hr35, h⟩ := h
  refine WL.fn rfl rfl rfl rfl (f30_c _ _ _ hr35) ⟨(Le.refl _), (Le.refl _), (Le.refl _), trivial⟩ (Wt.none rfl) rfl rfl ?_
  refine WL.q (y_not rfl) (Wt.none rfl) rfl rfl ?_
  refine WL.q (y_move rfl) (Wt.none rfl) rfl rfl ?_
  replace h := bindS h
  obtain ⟨b36, hb36, h⟩ := h
  apply WL.grp 10 (t := 13) (d := 23) (z := b36)
  · exact rfl
  · intro hg13
    have h := condT hb36 hg13
    refine WL.skips 9 rfl ?_
    refine WL.q (y_pick_t rfl rfl) (Wt.none rfl) rfl rfl ?_
    obtain rfl := Option.some.inj h
    exact WL.nil ⟨rfl, [_, _, _, _, _, _, _, _, _, _], rfl, rfl, rfl⟩
  · intro hg13
    have h := condF hb36 hg13
    refine WL.q (y_move rfl) (Wt.yes rfl rfl rfl) rfl rfl ?_
    refine WL.q (y_move rfl) (Wt.yes rfl rfl rfl) rfl rfl ?_
    replace h := bindS h
    obtain ⟨x37, hx37, h⟩ := h
    refine WL.q (y_indexAddr e37 rfl (Le.refl _) rfl (idx_nonneg hx37) (idx_row E56_eq hx37) rfl) (Wt.yes rfl rfl rfl) rfl rfl ?_
    refine WL.q (y_loadc rfl a56 rfl) (Wt.yes rfl rfl rfl) rfl rfl ?_
    refine WL.q (y_move rfl) (Wt.yes rfl rfl rfl) rfl rfl ?_
    replace h := bindS h
    obtain ⟨x38, hx38, h⟩ := h
    refine WL.q (y_indexAddr e56 rfl (Le.refl _) rfl (idx_nonneg hx38) (idx_row E2_eq hx38) rfl) (Wt.yes rfl rfl rfl) rfl rfl ?_
    refine WL.q (y_loadc rfl a2 rfl) (Wt.yes rfl rfl rfl) rfl rfl ?_
    refine WL.fn rfl rfl rfl rfl (f81_c _) ⟨(Le.refl _), trivial⟩ (Wt.yes rfl rfl rfl) rfl rfl ?_
    refine WL.q (y_not rfl) (Wt.yes rfl rfl rfl) rfl rfl ?_
    refine WL.q (y_pick_f rfl rfl) (Wt.none rfl) rfl rfl ?_
    obtain rfl := Option.some.inj h
    exact WL.nil ⟨rfl, [_, _, _, _, _, _, _, _, _, _], rfl, rfl, rfl⟩
  refine WL.nil ?_
  refine we_seq ?_
  refine wc_cond rfl (fun hc1 => ?_) (fun hc1 => ?_)
  · replace h := condT h hc1
    refine wc_seq ?_
    refine wc_region ?_
    refine WL.q (y_assign rfl) (Wt.none rfl) rfl rfl ?_
    refine WL.q (y_assign rfl) (Wt.none rfl) rfl rfl ?_
    refine WL.nil ?_
    refine we_seq ?_
    refine wc_ret ?_
    refine we_seq_ret ?_
    obtain rfl := Option.some.inj h
    exact we_ret_fn (rs2 rfl (rv_t rfl) (rv_t rfl)) (Le.tud ⟨(Le.refl _), (Le.refl _), trivial⟩)
  · replace h := condF h hc1
    refine wc_skip ?_
    refine we_seq ?_
    refine wc_seq ?_
    refine wc_region ?_
    refine WL.q (y_move rfl) (Wt.none rfl) rfl rfl ?_
    refine WL.q (y_move rfl) (Wt.none rfl) rfl rfl ?_
    replace h := bindS h
    obtain ⟨x39, hx39, h⟩ := h
    refine WL.q (y_indexAddr e37 rfl (Le.refl _) rfl (idx_nonneg hx39) (idx_row E56_eq hx39) rfl) (Wt.none rfl) rfl rfl ?_
    refine WL.q (y_loadc rfl a56 rfl) (Wt.none rfl) rfl rfl ?_
    refine WL.q (y_move rfl) (Wt.none rfl) rfl rfl ?_
    replace h := bindS h
    obtain ⟨x40, hx40, h⟩ := h
    refine WL.q (y_indexAddr e56 rfl (Le.refl _) rfl (idx_nonneg hx40) (idx_row E2_eq hx40) rfl) (Wt.none rfl) rfl rfl ?_
    refine WL.q (y_loadc rfl a2 rfl) (Wt.none rfl) rfl rfl ?_
    refine WL.q (y_assign rfl) (Wt.none rfl) rfl rfl ?_
    refine WL.q (y_assign rfl) (Wt.none rfl) rfl rfl ?_
    refine WL.nil ?_
    refine we_seq ?_
    refine wc_ret ?_
    obtain rfl := Option.some.inj h
    exact we_ret_fn (rs2 rfl (rv_t rfl) (rv_t rfl)) (Le.tud ⟨(Le.refl _), (Le.refl _), trivial⟩)

theorem f82_c (op0 : Int) (v1 : Int) : Pu Try.prog 82 [.i .u8 op0, .i .i64 v1] (.tu [.i .i64 (f82 op0 v1).1, .b (f82 op0 v1).2]) := by
  generalize h : f82 op0 v1 = r
  unfold f82 at h
  refine fn_intro Try.func82 (by kernel_rfl) rfl rfl rfl (fun φφ ww => ?_)
  refine wc_seq ?_
  refine wc_region ?_
  refine WL.q (y_assign rfl) (Wt.none rfl) rfl rfl ?_
  refine WL.q (y_assign rfl) (Wt.none rfl) rfl rfl ?_
  refine WL.nil ?_
  refine we_seq ?_
  refine wc_seq ?_
  refine wc_seq ?_
  refine wc_region ?_
  refine WL.q (y_move rfl) (Wt.none rfl) rfl rfl ?_
  refine WL.nil ?_
  refine we_seq ?_
  refine wc_block ?_
  refine wc_seq ?_
  refine wc_region ?_
  refine WL.q (y_eql rfl rfl) (Wt.none rfl) rfl rfl ?_
  refine WL.q (y_assign rfl) (Wt.none rfl) rfl rfl ?_
  refine WL.nil ?_
  refine we_seq ?_
  refine wc_cond rfl (fun hc1 => ?_) (fun hc1 => ?_)
  · replace h := condT h hc1
    refine wc_seq ?_
    refine wc_region ?_
    refine WL.q (y_move rfl) (Wt.none rfl) rfl rfl ?_
    refine WL.q (y_neg rfl rfl) (Wt.none rfl) rfl rfl ?_
    refine WL.q (y_move rfl) (Wt.none rfl) rfl rfl ?_
    refine WL.q (y_neg rfl rfl) (Wt.none rfl) rfl rfl ?_
    refine WL.fn rfl rfl rfl rfl (f81_c _) ⟨(Le.refl _), trivial⟩ (Wt.none rfl) rfl rfl ?_
    refine WL.q (y_assign rfl) (Wt.none rfl) rfl rfl ?_
    refine WL.q (y_assign rfl) (Wt.none rfl) rfl rfl ?_
    refine WL.nil ?_
    refine we_seq ?_
    refine wc_ret ?_
    refine we_blk_ret ?_
    refine we_seq_ret ?_
    subst h
    exact we_ret_fn (rs2 rfl (rv_t rfl) (rv_t rfl)) (Le.tud ⟨(Le.refl _), (Le.refl _), trivial⟩)
  · replace h := condF h hc1
    refine wc_seq ?_
    refine wc_region ?_
    refine WL.q (y_eql rfl rfl) (Wt.none rfl) rfl rfl ?_
    refine WL.q (y_assign rfl) (Wt.none rfl) rfl rfl ?_
    refine WL.nil ?_
    refine we_seq ?_
    refine wc_cond rfl (fun hc2 => ?_) (fun hc2 => ?_)
    · replace h := condT h hc2
      refine wc_seq ?_
      refine wc_region ?_
      refine WL.q (y_move rfl) (Wt.none rfl) rfl rfl ?_
      refine WL.q (y_move rfl) (Wt.none rfl) rfl rfl ?_
      refine WL.q (y_neg rfl rfl) (Wt.none rfl) rfl rfl ?_
      refine WL.q (y_max rfl rfl rfl) (Wt.none rfl) rfl rfl ?_
      refine WL.q (y_move rfl) (Wt.none rfl) rfl rfl ?_
      refine WL.q (y_move rfl) (Wt.none rfl) rfl rfl ?_
      refine WL.q (y_neg rfl rfl) (Wt.none rfl) rfl rfl ?_
      refine WL.q (y_max rfl rfl rfl) (Wt.none rfl) rfl rfl ?_
      refine WL.fn rfl rfl rfl rfl (f81_c _) ⟨(Le.refl _), trivial⟩ (Wt.none rfl) rfl rfl ?_
      refine WL.q (y_assign rfl) (Wt.none rfl) rfl rfl ?_
      refine WL.q (y_assign rfl) (Wt.none rfl) rfl rfl ?_
      refine WL.nil ?_
      refine we_seq ?_
      refine wc_ret ?_
      refine we_blk_ret ?_
      refine we_seq_ret ?_
      subst h
      exact we_ret_fn (rs2 rfl (rv_t rfl) (rv_t rfl)) (Le.tud ⟨(Le.refl _), (Le.refl _), trivial⟩)
    · replace h := condF h hc2
      refine wc_skip ?_
      refine we_blk ?_
      refine we_seq ?_
      refine wc_seq ?_
      refine wc_region ?_
      refine WL.q (y_move rfl) (Wt.none rfl) rfl rfl ?_
      refine WL.q (y_sub rfl rfl rfl) (Wt.none rfl) rfl rfl ?_
      refine WL.q (y_move rfl) (Wt.none rfl) rfl rfl ?_
      refine WL.fn rfl rfl rfl rfl (f83_c _ _ _) ⟨(Le.refl _), (Le.refl _), (Le.refl _), trivial⟩ (Wt.none rfl) rfl rfl ?_
      refine WL.q (y_assign rfl) (Wt.none rfl) rfl rfl ?_
      refine WL.q (y_assign rfl) (Wt.none rfl) rfl rfl ?_
      refine WL.nil ?_
      refine we_seq ?_
      refine wc_ret ?_
      subst h
      exact we_ret_fn (rs2 rfl (rv_t rfl) (rv_t rfl)) (Le.tud ⟨(Le.refl _), (Le.refl _), trivial⟩)

theorem f84_c (op0 : Int) (a1 : Int) (b2 : Int) {r : Int × Bool} (h : f84 op0 a1 b2 = some r) : Pu Try.prog 84 [.i .u8 op0, .i .i64 a1, .i .i64 b2] (.tu [.i .i64 r.1, .b r.2]) := by
  unfold f84 at h
  refine fn_intro Try.func84 (by kernel_rfl) rfl rfl rfl (fun φφ ww => ?_)
  refine wc_seq ?_
  refine wc_region ?_
  refine WL.q (y_assign rfl) (Wt.none rfl) rfl rfl ?_
  refine WL.q (y_assign rfl) (Wt.none rfl) rfl rfl ?_
  refine WL.nil ?_
  refine we_seq ?_
  refine wc_seq ?_
  refine wc_region ?_
  refine WL.q (y_assign rfl) (Wt.none rfl) rfl rfl ?_
  refine WL.nil ?_
  refine we_seq ?_
  replace h := letkS h
  obtain ⟨k115, hk115, h⟩ := h
  refine wc_cut (fun env' st' => ∃ (v114 : Int), k115 v114 = some r ∧ Sub [(8, .d (D.i .i64 v114))] env' ∧ SLe st' []) ?_ ?_
  · refine wc_seq ?_
    refine wc_region ?_
    refine WL.q (y_move rfl) (Wt.none rfl) rfl rfl ?_
    refine WL.nil ?_
    refine we_seq ?_
    refine wc_block ?_
    refine wc_seq ?_
    refine wc_region ?_
    refine WL.q (y_eql rfl rfl) (Wt.none rfl) rfl rfl ?_
    refine WL.q (y_assign rfl) (Wt.none rfl) rfl rfl ?_
    refine WL.nil ?_
    refine we_seq ?_
    refine wc_cond rfl (fun hc1 => ?_) (fun hc1 => ?_)
    · replace h := condT h hc1
      refine wc_region ?_
      refine WL.q (y_move rfl) (Wt.none rfl) rfl rfl ?_
      refine WL.q (y_move rfl) (Wt.none rfl) rfl rfl ?_
      refine WL.q (y_add rfl rfl rfl) (Wt.none rfl) rfl rfl ?_
      refine WL.q (y_assign rfl) (Wt.none rfl) rfl rfl ?_
      refine WL.nil ?_
      refine we_blk ?_
      exact we_lp ⟨(IntKind.i64.wrap (a1 + b2)), h, (Sub.cons rfl (Le.refl _) (Sub.nil _)), trivial⟩
    · replace h := condF h hc1
      refine wc_seq ?_
      refine wc_region ?_
      refine WL.q (y_eql rfl rfl) (Wt.none rfl) rfl rfl ?_
      refine WL.q (y_assign rfl) (Wt.none rfl) rfl rfl ?_
      refine WL.nil ?_
      refine we_seq ?_
      refine wc_cond rfl (fun hc2 => ?_) (fun hc2 => ?_)
      · replace h := condT h hc2
        refine wc_region ?_
        refine WL.q (y_move rfl) (Wt.none rfl) rfl rfl ?_
        refine WL.q (y_move rfl) (Wt.none rfl) rfl rfl ?_
        refine WL.q (y_sub rfl rfl rfl) (Wt.none rfl) rfl rfl ?_
        refine WL.q (y_assign rfl) (Wt.none rfl) rfl rfl ?_
        refine WL.nil ?_
        refine we_blk ?_
        exact we_lp ⟨(IntKind.i64.wrap (a1 - b2)), h, (Sub.cons rfl (Le.refl _) (Sub.nil _)), trivial⟩
      · replace h := condF h hc2
        refine wc_seq ?_
        refine wc_region ?_
        refine WL.q (y_eql rfl rfl) (Wt.none rfl) rfl rfl ?_
        refine WL.q (y_assign rfl) (Wt.none rfl) rfl rfl ?_
        refine WL.nil ?_
        refine we_seq ?_
        refine wc_cond rfl (fun hc3 => ?_) (fun hc3 => ?_)
        · replace h := condT h hc3
          refine wc_region ?_
          refine WL.q (y_move rfl) (Wt.none rfl) rfl rfl ?_
          refine WL.q (y_move rfl) (Wt.none rfl) rfl rfl ?_
          refine WL.q (y_mul rfl rfl rfl) (Wt.none rfl) rfl rfl ?_
          refine WL.q (y_assign rfl) (Wt.none rfl) rfl rfl ?_
          refine WL.nil ?_
          refine we_blk ?_
          exact we_lp ⟨(IntKind.i64.wrap (a1 * b2)), h, (Sub.cons rfl (Le.refl _) (Sub.nil _)), trivial⟩
        · replace h := condF h hc3
          replace h := letkS h
          obtain ⟨k117, hk117, h⟩ := h
          refine wc_cut (fun env' st' => ∃ (t116 : Bool), k117 t116 = some r ∧ Sub [(0, .d (D.i .u8 op0)), (1, .d (D.i .i64 a1)), (2, .d (D.i .i64 b2)), (8, .d (D.i .i64 0)), (9, .d (D.i .u8 op0)), (48, .d (D.b t116))] env' ∧ SLe st' []) ?_ ?_
          · refine wc_seq ?_
            refine wc_region ?_
            refine WL.q (y_eql rfl rfl) (Wt.none rfl) rfl rfl ?_
            refine WL.q (y_assign rfl) (Wt.none rfl) rfl rfl ?_
            refine WL.nil ?_
            refine we_seq ?_
            refine wc_cond rfl (fun hc4 => ?_) (fun hc4 => ?_)
            · replace h := condT h hc4
              refine wc_skip ?_
              exact we_lp ⟨(decide (op0 = 4)), h, (Sub.cons rfl (Le.refl _) (Sub.cons rfl (Le.refl _) (Sub.cons rfl (Le.refl _) (Sub.cons rfl (Le.refl _) (Sub.cons rfl (Le.refl _) (Sub.cons rfl (Le.refl _) (Sub.nil _))))))), trivial⟩
            · replace h := condF h hc4
              refine wc_seq ?_
              refine wc_region ?_
              refine WL.q (y_eql rfl rfl) (Wt.none rfl) rfl rfl ?_
              refine WL.q (y_assign rfl) (Wt.none rfl) rfl rfl ?_
              refine WL.nil ?_
              refine we_seq ?_
              refine wc_cond rfl (fun hc5 => ?_) (fun hc5 => ?_)
              · replace h := condT h hc5
                refine wc_skip ?_
                exact we_lp ⟨(decide (op0 = 5)), h, (Sub.cons rfl (Le.refl _) (Sub.cons rfl (Le.refl _) (Sub.cons rfl (Le.refl _) (Sub.cons rfl (Le.refl _) (Sub.cons rfl (Le.refl _) (Sub.cons rfl (Le.refl _) (Sub.nil _))))))), trivial⟩
              · replace h := condF h hc5
                refine wc_region ?_
                refine WL.q (y_eql rfl rfl) (Wt.none rfl) rfl rfl ?_
                refine WL.q (y_assign rfl) (Wt.none rfl) rfl rfl ?_
                refine WL.nil ?_
                exact we_lp ⟨(decide (op0 = 6)), h, (Sub.cons rfl (Le.refl _) (Sub.cons rfl (Le.refl _) (Sub.cons rfl (Le.refl _) (Sub.cons rfl (Le.refl _) (Sub.cons rfl (Le.refl _) (Sub.cons rfl (Le.refl _) (Sub.nil _))))))), trivial⟩
          · rintro env1 st1 ⟨t116, h, hsub, hst⟩
            subst hk117
            dsimp only at h
            refine WC.sub hsub (WC.weak hst ?_)
            refine wc_cond rfl (fun hc6 => ?_) (fun hc6 => ?_)
            · replace h := condT h hc6
              refine wc_seq ?_
              refine wc_seq ?_
              refine wc_region ?_
              refine WL.q (y_move rfl) (Wt.none rfl) rfl rfl ?_
              refine WL.q (y_eql rfl rfl) (Wt.none rfl) rfl rfl ?_
              refine WL.nil ?_
              refine we_seq ?_
              refine wc_cond rfl (fun hc7 => ?_) (fun hc7 => ?_)
              · replace h := condT h hc7
                refine wc_seq ?_
                refine wc_region ?_
                refine WL.q (y_assign rfl) (Wt.none rfl) rfl rfl ?_
                refine WL.q (y_assign rfl) (Wt.none rfl) rfl rfl ?_
                refine WL.nil ?_
                refine we_seq ?_
                refine wc_ret ?_
                refine we_seq_ret ?_
                refine we_blk_ret ?_
                refine we_lp_ret ?_
                obtain rfl := Option.some.inj h
                exact we_ret_fn (rs2 rfl (rv_t rfl) (rv_t rfl)) (Le.tud ⟨(Le.refl _), (Le.refl _), trivial⟩)
              · replace h := condF h hc7
                refine wc_skip ?_
                refine we_seq ?_
                refine wc_seq ?_
                refine wc_region ?_
                refine WL.q (y_move rfl) (Wt.none rfl) rfl rfl ?_
                refine WL.q (y_move rfl) (Wt.none rfl) rfl rfl ?_
                replace h := guardBS h
                obtain ⟨hgg118, h⟩ := h
                refine WL.q (y_quo rfl rfl (nz_ne hgg118) rfl) (Wt.none rfl) rfl rfl ?_
                refine WL.q (y_assign rfl) (Wt.none rfl) rfl rfl ?_
                refine WL.nil ?_
                refine we_seq ?_
                replace h := letkS h
                obtain ⟨k120, hk120, h⟩ := h
                refine wc_cut (fun env' st' => ∃ (v119 : Int), k120 v119 = some r ∧ Sub [(0, .d (D.i .u8 op0)), (1, .d (D.i .i64 a1)), (2, .d (D.i .i64 b2)), (8, .d (D.i .i64 v119))] env' ∧ SLe st' []) ?_ ?_
                · refine wc_seq ?_
                  refine wc_region ?_
                  refine WL.q (y_move rfl) (Wt.none rfl) rfl rfl ?_
                  refine WL.q (y_eql rfl rfl) (Wt.none rfl) rfl rfl ?_
                  refine WL.nil ?_
                  refine we_seq ?_
                  refine wc_cond rfl (fun hc8 => ?_) (fun hc8 => ?_)
                  · replace h := condT h hc8
                    refine wc_region ?_
                    refine WL.q (y_move rfl) (Wt.none rfl) rfl rfl ?_
                    refine WL.q (y_move rfl) (Wt.none rfl) rfl rfl ?_
                    replace h := guardBS h
                    obtain ⟨hgg121, h⟩ := h
                    refine WL.q (y_rem rfl rfl (nz_ne hgg121)) (Wt.none rfl) rfl rfl ?_
                    refine WL.q (y_assign rfl) (Wt.none rfl) rfl rfl ?_
                    refine WL.nil ?_
                    exact we_lp ⟨(Int.tmod a1 b2), h, (Sub.cons rfl (Le.refl _) (Sub.cons rfl (Le.refl _) (Sub.cons rfl (Le.refl _) (Sub.cons rfl (Le.refl _) (Sub.nil _))))), trivial⟩
                  · replace h := condF h hc8
                    refine wc_skip ?_
                    exact we_lp ⟨(IntKind.i64.wrap (Int.tdiv a1 b2)), h, (Sub.cons rfl (Le.refl _) (Sub.cons rfl (Le.refl _) (Sub.cons rfl (Le.refl _) (Sub.cons rfl (Le.refl _) (Sub.nil _))))), trivial⟩
                · rintro env1 st1 ⟨v119, h, hsub, hst⟩
                  subst hk120
                  dsimp only at h
                  refine WC.sub hsub (WC.weak hst ?_)
                  refine wc_seq ?_
                  refine wc_region ?_
                  refine WL.q (y_move rfl) (Wt.none rfl) rfl rfl ?_
                  refine WL.q (y_eql rfl rfl) (Wt.none rfl) rfl rfl ?_
                  refine WL.nil ?_
                  refine we_seq ?_
                  refine wc_cond rfl (fun hc9 => ?_) (fun hc9 => ?_)
                  · replace h := condT h hc9
                    refine wc_region ?_
                    refine WL.q (y_move rfl) (Wt.none rfl) rfl rfl ?_
                    refine WL.q (y_move rfl) (Wt.none rfl) rfl rfl ?_
                    replace h := guardBS h
                    obtain ⟨hgg122, h⟩ := h
                    refine WL.q (y_rem rfl rfl (nz_ne hgg122)) (Wt.none rfl) rfl rfl ?_
                    refine WL.q (y_move rfl) (Wt.none rfl) rfl rfl ?_
                    refine WL.q (y_add rfl rfl rfl) (Wt.none rfl) rfl rfl ?_
                    refine WL.q (y_move rfl) (Wt.none rfl) rfl rfl ?_
                    replace h := guardBS h
                    obtain ⟨hgg123, h⟩ := h
                    refine WL.q (y_rem rfl rfl (nz_ne hgg123)) (Wt.none rfl) rfl rfl ?_
                    refine WL.q (y_assign rfl) (Wt.none rfl) rfl rfl ?_
                    refine WL.nil ?_
                    refine we_blk ?_
                    exact we_lp ⟨(Int.tmod (IntKind.i64.wrap ((Int.tmod a1 b2) + b2)) b2), h, (Sub.cons rfl (Le.refl _) (Sub.nil _)), trivial⟩
                  · replace h := condF h hc9
                    refine wc_skip ?_
                    refine we_blk ?_
                    exact we_lp ⟨v119, h, (Sub.cons rfl (Le.refl _) (Sub.nil _)), trivial⟩
            · replace h := condF h hc6
              refine wc_seq ?_
              refine wc_region ?_
              refine WL.q (y_eql rfl rfl) (Wt.none rfl) rfl rfl ?_
              refine WL.q (y_assign rfl) (Wt.none rfl) rfl rfl ?_
              refine WL.nil ?_
              refine we_seq ?_
              refine wc_cond rfl (fun hc10 => ?_) (fun hc10 => ?_)
              · replace h := condT h hc10
                refine wc_region ?_
                refine WL.q (y_move rfl) (Wt.none rfl) rfl rfl ?_
                refine WL.q (y_move rfl) (Wt.none rfl) rfl rfl ?_
                refine WL.q (y_eql rfl rfl) (Wt.none rfl) rfl rfl ?_
                refine WL.fn rfl rfl rfl rfl (f101_c _) ⟨(Le.refl _), trivial⟩ (Wt.none rfl) rfl rfl ?_
                refine WL.q (y_assign rfl) (Wt.none rfl) rfl rfl ?_
                refine WL.nil ?_
                refine we_blk ?_
                exact we_lp ⟨(f101 (decide (a1 = b2))), h, (Sub.cons rfl (Le.refl _) (Sub.nil _)), trivial⟩
              · replace h := condF h hc10
                refine wc_seq ?_
                refine wc_region ?_
                refine WL.q (y_eql rfl rfl) (Wt.none rfl) rfl rfl ?_
                refine WL.q (y_assign rfl) (Wt.none rfl) rfl rfl ?_
                refine WL.nil ?_
                refine we_seq ?_
                refine wc_cond rfl (fun hc11 => ?_) (fun hc11 => ?_)
                · replace h := condT h hc11
                  refine wc_region ?_
                  refine WL.q (y_move rfl) (Wt.none rfl) rfl rfl ?_
                  refine WL.q (y_move rfl) (Wt.none rfl) rfl rfl ?_
                  refine WL.q (y_neq rfl rfl) (Wt.none rfl) rfl rfl ?_
                  refine WL.fn rfl rfl rfl rfl (f101_c _) ⟨(Le.refl _), trivial⟩ (Wt.none rfl) rfl rfl ?_
                  refine WL.q (y_assign rfl) (Wt.none rfl) rfl rfl ?_
                  refine WL.nil ?_
                  refine we_blk ?_
                  exact we_lp ⟨(f101 (!decide (a1 = b2))), h, (Sub.cons rfl (Le.refl _) (Sub.nil _)), trivial⟩
                · replace h := condF h hc11
                  refine wc_seq ?_
                  refine wc_region ?_
                  refine WL.q (y_eql rfl rfl) (Wt.none rfl) rfl rfl ?_
                  refine WL.q (y_assign rfl) (Wt.none rfl) rfl rfl ?_
                  refine WL.nil ?_
                  refine we_seq ?_
                  refine wc_cond rfl (fun hc12 => ?_) (fun hc12 => ?_)
                  · replace h := condT h hc12
                    refine wc_region ?_
                    refine WL.q (y_move rfl) (Wt.none rfl) rfl rfl ?_
                    refine WL.q (y_move rfl) (Wt.none rfl) rfl rfl ?_
                    refine WL.q (y_lss rfl rfl) (Wt.none rfl) rfl rfl ?_
                    refine WL.fn rfl rfl rfl rfl (f101_c _) ⟨(Le.refl _), trivial⟩ (Wt.none rfl) rfl rfl ?_
                    refine WL.q (y_assign rfl) (Wt.none rfl) rfl rfl ?_
                    refine WL.nil ?_
                    refine we_blk ?_
                    exact we_lp ⟨(f101 (decide (a1 < b2))), h, (Sub.cons rfl (Le.refl _) (Sub.nil _)), trivial⟩
                  · replace h := condF h hc12
                    refine wc_seq ?_
                    refine wc_region ?_
                    refine WL.q (y_eql rfl rfl) (Wt.none rfl) rfl rfl ?_
                    refine WL.q (y_assign rfl) (Wt.none rfl) rfl rfl ?_
                    refine WL.nil ?_
                    refine we_seq ?_
                    refine wc_cond rfl (fun hc13 => ?_) (fun hc13 => ?_)
                    · replace h := condT h hc13
                      refine wc_region ?_
                      refine WL.q (y_move rfl) (Wt.none rfl) rfl rfl ?_
                      refine WL.q (y_move rfl) (Wt.none rfl) rfl rfl ?_
                      refine WL.q (y_leq rfl rfl) (Wt.none rfl) rfl rfl ?_
                      refine WL.fn rfl rfl rfl rfl (f101_c _) ⟨(Le.refl _), trivial⟩ (Wt.none rfl) rfl rfl ?_
                      refine WL.q (y_assign rfl) (Wt.none rfl) rfl rfl ?_
                      refine WL.nil ?_
                      refine we_blk ?_
                      exact we_lp ⟨(f101 (decide (a1 ≤ b2))), h, (Sub.cons rfl (Le.refl _) (Sub.nil _)), trivial⟩
                    · replace h := condF h hc13
                      refine wc_seq ?_
                      refine wc_region ?_
                      refine WL.q (y_eql rfl rfl) (Wt.none rfl) rfl rfl ?_
                      refine WL.q (y_assign rfl) (Wt.none rfl) rfl rfl ?_
                      refine WL.nil ?_
                      refine we_seq ?_
                      refine wc_cond rfl (fun hc14 => ?_) (fun hc14 => ?_)
                      · replace h := condT h hc14
                        refine wc_region ?_
                        refine WL.q (y_move rfl) (Wt.none rfl) rfl rfl ?_
                        refine WL.q (y_move rfl) (Wt.none rfl) rfl rfl ?_
                        refine WL.q (y_gtr rfl rfl) (Wt.none rfl) rfl rfl ?_
                        refine WL.fn rfl rfl rfl rfl (f101_c _) ⟨(Le.refl _), trivial⟩ (Wt.none rfl) rfl rfl ?_
                        refine WL.q (y_assign rfl) (Wt.none rfl) rfl rfl ?_
                        refine WL.nil ?_
                        refine we_blk ?_
                        exact we_lp ⟨(f101 (decide (a1 > b2))), h, (Sub.cons rfl (Le.refl _) (Sub.nil _)), trivial⟩
                      · replace h := condF h hc14
                        refine wc_seq ?_
                        refine wc_region ?_
                        refine WL.q (y_eql rfl rfl) (Wt.none rfl) rfl rfl ?_
                        refine WL.q (y_assign rfl) (Wt.none rfl) rfl rfl ?_
                        refine WL.nil ?_
                        refine we_seq ?_
                        refine wc_cond rfl (fun hc15 => ?_) (fun hc15 => ?_)
                        · replace h := condT h hc15
                          refine wc_region ?_
                          refine WL.q (y_move rfl) (Wt.none rfl) rfl rfl ?_
                          refine WL.q (y_move rfl) (Wt.none rfl) rfl rfl ?_
                          refine WL.q (y_geq rfl rfl) (Wt.none rfl) rfl rfl ?_
                          refine WL.fn rfl rfl rfl rfl (f101_c _) ⟨(Le.refl _), trivial⟩ (Wt.none rfl) rfl rfl ?_
                          refine WL.q (y_assign rfl) (Wt.none rfl) rfl rfl ?_
                          refine WL.nil ?_
                          refine we_blk ?_
                          exact we_lp ⟨(f101 (decide (a1 ≥ b2))), h, (Sub.cons rfl (Le.refl _) (Sub.nil _)), trivial⟩
                        · replace h := condF h hc15
                          refine wc_seq ?_
                          refine wc_seq ?_
                          refine wc_region ?_
                          refine WL.q (y_move rfl) (Wt.none rfl) rfl rfl ?_
                          refine WL.fn rfl rfl rfl rfl (f83_c _ _ _) ⟨(Le.refl _), (Le.refl _), (Le.refl _), trivial⟩ (Wt.none rfl) rfl rfl ?_
                          refine WL.q (y_not rfl) (Wt.none rfl) rfl rfl ?_
                          refine WL.q (y_move rfl) (Wt.none rfl) rfl rfl ?_
                          apply WL.or 4 (t := 13) (d := 17)
                          · exact rfl
                          · intro hg13
                            refine WL.q (y_move rfl) (Wt.yes rfl rfl rfl) rfl rfl ?_
                            refine WL.fn rfl rfl rfl rfl (f83_c _ _ _) ⟨(Le.refl _), (Le.refl _), (Le.refl _), trivial⟩ (Wt.yes rfl rfl rfl) rfl rfl ?_
                            refine WL.q (y_not rfl) (Wt.yes rfl rfl rfl) rfl rfl ?_
                            refine WL.q (y_pick_f rfl rfl) (Wt.none rfl) rfl rfl ?_
                            exact WL.nil ⟨rfl, [_, _, _, _], rfl, rfl, rfl⟩
                          · refine WL.skips 3 rfl ?_
                            refine WL.q (y_pick_t rfl rfl) (Wt.none rfl) rfl rfl ?_
                            exact WL.nil ⟨rfl, [_, _, _, _], rfl, rfl, rfl⟩
                          refine WL.nil ?_
                          refine we_seq ?_
                          refine wc_cond rfl (fun hc16 => ?_) (fun hc16 => ?_)
                          · replace h := condT h hc16
                            refine wc_seq ?_
                            refine wc_region ?_
                            refine WL.q (y_assign rfl) (Wt.none rfl) rfl rfl ?_
                            refine WL.q (y_assign rfl) (Wt.none rfl) rfl rfl ?_
                            refine WL.nil ?_
                            refine we_seq ?_
                            refine wc_ret ?_
                            refine we_seq_ret ?_
                            refine we_blk_ret ?_
                            refine we_lp_ret ?_
                            obtain rfl := Option.some.inj h
                            exact we_ret_fn (rs2 rfl (rv_t rfl) (rv_t rfl)) (Le.tud ⟨(Le.refl _), (Le.refl _), trivial⟩)
                          · replace h := condF h hc16
                            refine wc_skip ?_
                            refine we_seq ?_
                            refine wc_seq ?_
                            refine wc_region ?_
                            refine WL.q (y_move rfl) (Wt.none rfl) rfl rfl ?_
                            refine WL.nil ?_
                            refine we_seq ?_
                            refine wc_block ?_
                            refine wc_seq ?_
                            refine wc_region ?_
                            refine WL.q (y_eql rfl rfl) (Wt.none rfl) rfl rfl ?_
                            refine WL.q (y_assign rfl) (Wt.none rfl) rfl rfl ?_
                            refine WL.nil ?_
                            refine we_seq ?_
                            refine wc_cond rfl (fun hc17 => ?_) (fun hc17 => ?_)
                            · replace h := condT h hc17
                              refine wc_region ?_
                              refine WL.q (y_move rfl) (Wt.none rfl) rfl rfl ?_
                              refine WL.q (y_move rfl) (Wt.none rfl) rfl rfl ?_
                              refine WL.q (y_mul rfl rfl rfl) (Wt.none rfl) rfl rfl ?_
                              refine WL.q (y_assign rfl) (Wt.none rfl) rfl rfl ?_
                              refine WL.nil ?_
                              refine we_blk ?_
                              refine we_blk ?_
                              exact we_lp ⟨(IntKind.i64.wrap (a1 * b2)), h, (Sub.cons rfl (Le.refl _) (Sub.nil _)), trivial⟩
                            · replace h := condF h hc17
                              refine wc_seq ?_
                              refine wc_region ?_
                              refine WL.q (y_eql rfl rfl) (Wt.none rfl) rfl rfl ?_
                              refine WL.q (y_assign rfl) (Wt.none rfl) rfl rfl ?_
                              refine WL.nil ?_
                              refine we_seq ?_
                              refine wc_cond rfl (fun hc18 => ?_) (fun hc18 => ?_)
                              · replace h := condT h hc18
                                refine wc_region ?_
                                refine WL.q (y_move rfl) (Wt.none rfl) rfl rfl ?_
                                refine WL.q (y_move rfl) (Wt.none rfl) rfl rfl ?_
                                refine WL.q (y_max rfl rfl rfl) (Wt.none rfl) rfl rfl ?_
                                refine WL.q (y_assign rfl) (Wt.none rfl) rfl rfl ?_
                                refine WL.nil ?_
                                refine we_blk ?_
                                refine we_blk ?_
                                exact we_lp ⟨(if b2 > a1 then b2 else a1), h, (Sub.cons rfl (Le.refl _) (Sub.nil _)), trivial⟩
                              · replace h := condF h hc18
                                refine wc_region ?_
                                refine WL.q (y_move rfl) (Wt.none rfl) rfl rfl ?_
                                refine WL.q (y_move rfl) (Wt.none rfl) rfl rfl ?_
                                refine WL.q (y_neq rfl rfl) (Wt.none rfl) rfl rfl ?_
                                refine WL.fn rfl rfl rfl rfl (f101_c _) ⟨(Le.refl _), trivial⟩ (Wt.none rfl) rfl rfl ?_
                                refine WL.q (y_assign rfl) (Wt.none rfl) rfl rfl ?_
                                refine WL.nil ?_
                                refine we_blk ?_
                                refine we_blk ?_
                                exact we_lp ⟨(f101 (!decide (a1 = b2))), h, (Sub.cons rfl (Le.refl _) (Sub.nil _)), trivial⟩
  · rintro env1 st1 ⟨v114, h, hsub, hst⟩
    subst hk115
    dsimp only at h
    refine WC.sub hsub (WC.weak hst ?_)
    refine wc_seq ?_
    refine wc_region ?_
    refine WL.q (y_move rfl) (Wt.none rfl) rfl rfl ?_
    refine WL.q (y_move rfl) (Wt.none rfl) rfl rfl ?_
    refine WL.fn rfl rfl rfl rfl (f81_c _) ⟨(Le.refl _), trivial⟩ (Wt.none rfl) rfl rfl ?_
    refine WL.q (y_assign rfl) (Wt.none rfl) rfl rfl ?_
    refine WL.q (y_assign rfl) (Wt.none rfl) rfl rfl ?_
    refine WL.nil ?_
    refine we_seq ?_
    refine wc_ret ?_
    obtain rfl := Option.some.inj h
    exact we_ret_fn (rs2 rfl (rv_t rfl) (rv_t rfl)) (Le.tud ⟨(Le.refl _), (Le.refl _), trivial⟩)

theorem f54s_c (rec54 : RSt → CE → Option (Int × Bool)) (w0 : RSt) (e1 : CE) (hrec54 : ∀ (x0 : RSt) (x1 : CE) (r : Int × Bool), rec54 x0 x1 = some r → Pu Try.prog 54 [.ag (R86 x0), .ag (R26 x1)] (.tu [.i .i64 r.1, .b r.2])) {r : Int × Bool} (h : f54s rec54 w0 e1 = some r) : Pu Try.prog 54 [.ag (R86 w0), .ag (R26 e1)] (.tu [.i .i64 r.1, .b r.2]) := by
  unfold f54s at h
  refine fn_intro Try.func54 (by kernel_rfl) rfl rfl rfl (fun φφ ww => ?_)
  refine wc_seq ?_
  refine wc_region ?_
  refine WL.s ((b_boxd rfl rfl (Les.refl _)).does) (Wt.none rfl) rfl rfl ?_
  refine WL.s ((b_boxd rfl rfl (Les.refl _)).does) (Wt.none rfl) rfl rfl ?_
  refine WL.q (y_assign rfl) (Wt.none rfl) rfl rfl ?_
  refine WL.q (y_assign rfl) (Wt.none rfl) rfl rfl ?_
  refine WL.nil ?_
  refine we_seq ?_
  refine wc_seq ?_
  refine wc_seq ?_
  refine wc_region ?_
  refine WL.q (y_fieldAddrc f26_0 rfl) (Wt.none rfl) rfl rfl ?_
  refine WL.q (y_loadc rfl a22 rfl) (Wt.none rfl) rfl rfl ?_
  refine WL.nil ?_
  refine we_seq ?_
  refine wc_block ?_
  refine wc_seq ?_
  refine wc_region ?_
  refine WL.q (y_eql rfl rfl) (Wt.none rfl) rfl rfl ?_
  refine WL.q (y_assign rfl) (Wt.none rfl) rfl rfl ?_
  refine WL.nil ?_
  refine we_seq ?_
  refine wc_cond rfl (fun hc1 => ?_) (fun hc1 => ?_)
  · replace h := condT h hc1
    refine wc_seq ?_
    refine wc_region ?_
    refine WL.q (y_fieldAddrc f26_2 rfl) (Wt.none rfl) rfl rfl ?_
    refine WL.q (y_loadc rfl a2 rfl) (Wt.none rfl) rfl rfl ?_
    refine WL.q (y_assign rfl) (Wt.none rfl) rfl rfl ?_
    refine WL.q (y_assign rfl) (Wt.none rfl) rfl rfl ?_
    refine WL.nil ?_
    refine we_seq ?_
    refine wc_ret ?_
    refine we_blk_ret ?_
    refine we_seq_ret ?_
    obtain rfl := Option.some.inj h
    exact we_ret_fn (rs2 rfl (rv_t rfl) (rv_t rfl)) (Le.tud ⟨(Le.refl _), (Le.refl _), trivial⟩)
  · replace h := condF h hc1
    refine wc_seq ?_
    refine wc_region ?_
    refine WL.q (y_eql rfl rfl) (Wt.none rfl) rfl rfl ?_
    refine WL.q (y_assign rfl) (Wt.none rfl) rfl rfl ?_
    refine WL.nil ?_
    refine we_seq ?_
    refine wc_cond rfl (fun hc2 => ?_) (fun hc2 => ?_)
    · replace h := condT h hc2
      refine wc_seq ?_
      refine wc_region ?_
      refine WL.q (y_fieldAddrc f86_0 rfl) (Wt.none rfl) rfl rfl ?_
      refine WL.q (y_loadc rfl a37 rfl) (Wt.none rfl) rfl rfl ?_
      refine WL.q (y_fieldAddrc f26_3 rfl) (Wt.none rfl) rfl rfl ?_
      refine WL.q (y_loadc rfl a3 rfl) (Wt.none rfl) rfl rfl ?_
      refine WL.q (y_fieldAddrc f26_4 rfl) (Wt.none rfl) rfl rfl ?_
      refine WL.q (y_loadc rfl a3 rfl) (Wt.none rfl) rfl rfl ?_
      replace h := bindS h
      obtain ⟨r234, hr234, h⟩ := h
      refine WL.fn rfl rfl rfl rfl (f80_c _ _ _ hr234) ⟨(Le.refl _), (Le.refl _), (Le.refl _), trivial⟩ (Wt.none rfl) rfl rfl ?_
      refine WL.q (y_extractd rfl rfl) (Wt.none rfl) rfl rfl ?_
      refine WL.q (y_extractd rfl rfl) (Wt.none rfl) rfl rfl ?_
      refine WL.q (y_assign rfl) (Wt.none rfl) rfl rfl ?_
      refine WL.q (y_assign rfl) (Wt.none rfl) rfl rfl ?_
      refine WL.nil ?_
      refine we_seq ?_
      refine wc_ret ?_
      refine we_blk_ret ?_
      refine we_seq_ret ?_
      obtain rfl := Option.some.inj h
      exact we_ret_fn (rs2 rfl (rv_t rfl) (rv_t rfl)) (Le.tud ⟨(Le.refl _), (Le.refl _), trivial⟩)
    · replace h := condF h hc2
      refine wc_seq ?_
      refine wc_region ?_
      refine WL.q (y_eql rfl rfl) (Wt.none rfl) rfl rfl ?_
      refine WL.q (y_assign rfl) (Wt.none rfl) rfl rfl ?_
      refine WL.nil ?_
      refine we_seq ?_
      refine wc_cond rfl (fun hc3 => ?_) (fun hc3 => ?_)
      · replace h := condT h hc3
        refine wc_seq ?_
        refine wc_region ?_
        refine WL.q (y_fieldAddrc f26_3 rfl) (Wt.none rfl) rfl rfl ?_
        refine WL.q (y_loadc rfl a3 rfl) (Wt.none rfl) rfl rfl ?_
        refine WL.q (y_add rfl rfl rfl) (Wt.none rfl) rfl rfl ?_
        refine WL.q (y_assign rfl) (Wt.none rfl) rfl rfl ?_
        refine WL.q (y_assign rfl) (Wt.none rfl) rfl rfl ?_
        refine WL.nil ?_
        refine we_seq ?_
        refine wc_ret ?_
        refine we_blk_ret ?_
        refine we_seq_ret ?_
        obtain rfl := Option.some.inj h
        exact we_ret_fn (rs2 rfl (rv_t rfl) (rv_t rfl)) (Le.tud ⟨(Le.refl _), (Le.refl _), trivial⟩)
      · replace h := condF h hc3
        refine wc_seq ?_
        refine wc_region ?_
        refine WL.q (y_eql rfl rfl) (Wt.none rfl) rfl rfl ?_
        refine WL.q (y_assign rfl) (Wt.none rfl) rfl rfl ?_
        refine WL.nil ?_
        refine we_seq ?_
        refine wc_cond rfl (fun hc4 => ?_) (fun hc4 => ?_)
        · replace h := condT h hc4
          refine wc_seq ?_
          refine wc_region ?_
          refine WL.q (y_fieldAddrc f86_2 rfl) (Wt.none rfl) rfl rfl ?_
          refine WL.q (y_loadc rfl a56 rfl) (Wt.none rfl) rfl rfl ?_
          refine WL.q (y_fieldAddrc f86_2 rfl) (Wt.none rfl) rfl rfl ?_
          refine WL.q (y_loadc rfl a56 rfl) (Wt.none rfl) rfl rfl ?_
          refine WL.q (y_len_map E2 w0.lets e56 rfl rfl (Le.refl _)) (Wt.none rfl) rfl rfl ?_
          refine WL.q (y_sub rfl rfl rfl) (Wt.none rfl) rfl rfl ?_
          refine WL.q (y_fieldAddrc f26_2 rfl) (Wt.none rfl) rfl rfl ?_
          refine WL.q (y_loadc rfl a2 rfl) (Wt.none rfl) rfl rfl ?_
          refine WL.q (y_sub rfl rfl rfl) (Wt.none rfl) rfl rfl ?_
          replace h := bindS h
          obtain ⟨x235, hx235, h⟩ := h
          refine WL.q (y_indexAddr e56 rfl (Le.refl _) rfl (idx_nonneg hx235) (idx_row E2_eq hx235) rfl) (Wt.none rfl) rfl rfl ?_
          refine WL.q (y_loadc rfl a2 rfl) (Wt.none rfl) rfl rfl ?_
          refine WL.q (y_assign rfl) (Wt.none rfl) rfl rfl ?_
          refine WL.q (y_assign rfl) (Wt.none rfl) rfl rfl ?_
          refine WL.nil ?_
          refine we_seq ?_
          refine wc_ret ?_
          refine we_blk_ret ?_
          refine we_seq_ret ?_
          obtain rfl := Option.some.inj h
          exact we_ret_fn (rs2 rfl (rv_t rfl) (rv_t rfl)) (Le.tud ⟨(Le.refl _), (Le.refl _), trivial⟩)
        · replace h := condF h hc4
          refine wc_seq ?_
          refine wc_region ?_
          refine WL.q (y_eql rfl rfl) (Wt.none rfl) rfl rfl ?_
          refine WL.q (y_assign rfl) (Wt.none rfl) rfl rfl ?_
          refine WL.nil ?_
          refine we_seq ?_
          refine wc_cond rfl (fun hc5 => ?_) (fun hc5 => ?_)
          · replace h := condT h hc5
            refine wc_seq ?_
            refine wc_region ?_
            refine WL.q (y_fieldAddrc f26_2 rfl) (Wt.none rfl) rfl rfl ?_
            refine WL.q (y_loadc rfl a2 rfl) (Wt.none rfl) rfl rfl ?_
            refine WL.q (y_assign rfl) (Wt.none rfl) rfl rfl ?_
            refine WL.nil ?_
            refine we_seq ?_
            refine wc_seq ?_
            refine wc_seq ?_
            refine wc_region ?_
            refine WL.q (y_move rfl) (Wt.none rfl) rfl rfl ?_
            refine WL.q (y_fieldAddrc f86_1 rfl) (Wt.none rfl) rfl rfl ?_
            refine WL.q (y_loadc rfl a33 rfl) (Wt.none rfl) rfl rfl ?_
            refine WL.q (y_len_map E3 w0.counts e33 rfl rfl (Le.refl _)) (Wt.none rfl) rfl rfl ?_
            refine WL.q (y_geq rfl rfl) (Wt.none rfl) rfl rfl ?_
            refine WL.q (y_move rfl) (Wt.none rfl) rfl rfl ?_
            replace h := bindS h
            obtain ⟨b236, hb236, h⟩ := h
            apply WL.grp 8 (t := 57) (d := 65) (z := b236)
            · exact rfl
            · intro hg57
              have h := condT hb236 hg57
              refine WL.skips 7 rfl ?_
              refine WL.q (y_pick_t rfl rfl) (Wt.none rfl) rfl rfl ?_
              obtain rfl := Option.some.inj h
              exact WL.nil ⟨rfl, [_, _, _, _, _, _, _, _], rfl, rfl, rfl⟩
            · intro hg57
              have h := condF hb236 hg57
              refine WL.q (y_fieldAddrc f86_1 rfl) (Wt.yes rfl rfl rfl) rfl rfl ?_
              refine WL.q (y_loadc rfl a33 rfl) (Wt.yes rfl rfl rfl) rfl rfl ?_
              refine WL.q (y_move rfl) (Wt.yes rfl rfl rfl) rfl rfl ?_
              replace h := bindS h
              obtain ⟨x237, hx237, h⟩ := h
              refine WL.q (y_indexAddr e33 rfl (Le.refl _) rfl (idx_nonneg hx237) (idx_row E3_eq hx237) rfl) (Wt.yes rfl rfl rfl) rfl rfl ?_
              refine WL.q (y_loadc rfl a3 rfl) (Wt.yes rfl rfl rfl) rfl rfl ?_
              refine WL.fn rfl rfl rfl rfl (f81_c _) ⟨(Le.refl _), trivial⟩ (Wt.yes rfl rfl rfl) rfl rfl ?_
              refine WL.q (y_not rfl) (Wt.yes rfl rfl rfl) rfl rfl ?_
              refine WL.q (y_pick_f rfl rfl) (Wt.none rfl) rfl rfl ?_
              obtain rfl := Option.some.inj h
              exact WL.nil ⟨rfl, [_, _, _, _, _, _, _, _], rfl, rfl, rfl⟩
            refine WL.nil ?_
            refine we_seq ?_
            refine wc_cond rfl (fun hc6 => ?_) (fun hc6 => ?_)
            · replace h := condT h hc6
              refine wc_seq ?_
              refine wc_region ?_
              refine WL.q (y_assign rfl) (Wt.none rfl) rfl rfl ?_
              refine WL.q (y_assign rfl) (Wt.none rfl) rfl rfl ?_
              refine WL.nil ?_
              refine we_seq ?_
              refine wc_ret ?_
              refine we_seq_ret ?_
              refine we_blk_ret ?_
              refine we_seq_ret ?_
              obtain rfl := Option.some.inj h
              exact we_ret_fn (rs2 rfl (rv_t rfl) (rv_t rfl)) (Le.tud ⟨(Le.refl _), (Le.refl _), trivial⟩)
            · replace h := condF h hc6
              refine wc_skip ?_
              refine we_seq ?_
              refine wc_seq ?_
              refine wc_region ?_
              refine WL.q (y_fieldAddrc f86_1 rfl) (Wt.none rfl) rfl rfl ?_
              refine WL.q (y_loadc rfl a33 rfl) (Wt.none rfl) rfl rfl ?_
              refine WL.q (y_move rfl) (Wt.none rfl) rfl rfl ?_
              replace h := bindS h
              obtain ⟨x238, hx238, h⟩ := h
              refine WL.q (y_indexAddr e33 rfl (Le.refl _) rfl (idx_nonneg hx238) (idx_row E3_eq hx238) rfl) (Wt.none rfl) rfl rfl ?_
              refine WL.q (y_loadc rfl a3 rfl) (Wt.none rfl) rfl rfl ?_
              refine WL.q (y_assign rfl) (Wt.none rfl) rfl rfl ?_
              refine WL.q (y_assign rfl) (Wt.none rfl) rfl rfl ?_
              refine WL.nil ?_
              refine we_seq ?_
              refine wc_ret ?_
              refine we_blk_ret ?_
              refine we_seq_ret ?_
              obtain rfl := Option.some.inj h
              exact we_ret_fn (rs2 rfl (rv_t rfl) (rv_t rfl)) (Le.tud ⟨(Le.refl _), (Le.refl _), trivial⟩)
          · replace h := condF h hc5
            refine wc_skip ?_
            refine we_blk ?_
            refine we_seq ?_
            refine wc_seq ?_
            refine wc_region_draw (by kernel_rfl) (by kernel_rfl) ?_
            refine WQ.q (Yields.quiet (y_loadcN rfl a86 s86 rfl)) (Wt.none rfl) rfl rfl ?_
            refine WQ.q (Yields.quiet (y_fieldAddrc f26_8 rfl)) (Wt.none rfl) rfl rfl ?_
            refine WQ.q (Yields.quiet (y_loadc rfl a24 rfl)) (Wt.none rfl) rfl rfl ?_
            replace h := bindS h
            obtain ⟨x239, hx239, h⟩ := h
            refine WQ.q (Yields.quiet (y_indexAddr e24 rfl (Le.refl _) rfl (idx_nonneg hx239) (idx_row E26_eq hx239) rfl)) (Wt.none rfl) rfl rfl ?_
            refine WQ.q (Yields.quiet (y_loadcN rfl a26 s26 rfl)) (Wt.none rfl) rfl rfl ?_
            replace h := bindS h
            obtain ⟨r240, hr240, h⟩ := h
            refine WQ.q (YieldsQ.fn rfl rfl rfl rfl rfl (hrec54 _ _ _ hr240) ⟨(Le.refl _), (Le.refl _), trivial⟩) (Wt.none rfl) rfl rfl ?_
            refine WQ.q (Yields.quiet (y_move rfl)) (Wt.none rfl) rfl rfl ?_
            refine WQ.q (Yields.quiet (y_extractd rfl rfl)) (Wt.none rfl) rfl rfl ?_
            refine WQ.q (Yields.quiet (y_extractd rfl rfl)) (Wt.none rfl) rfl rfl ?_
            refine WQ.q (Yields.quiet (y_assign rfl)) (Wt.none rfl) rfl rfl ?_
            refine WQ.q (Yields.quiet (y_assign rfl)) (Wt.none rfl) rfl rfl ?_
            refine WQ.nil ?_
            refine we_seq ?_
            refine wc_seq ?_
            refine wc_seq ?_
            refine wc_region ?_
            refine WL.q (y_move rfl) (Wt.none rfl) rfl rfl ?_
            refine WL.q (y_not rfl) (Wt.none rfl) rfl rfl ?_
            refine WL.nil ?_
            refine we_seq ?_
            refine wc_cond rfl (fun hc7 => ?_) (fun hc7 => ?_)
            · replace h := condT h hc7
              refine wc_seq ?_
              refine wc_region ?_
              refine WL.q (y_assign rfl) (Wt.none rfl) rfl rfl ?_
              refine WL.q (y_assign rfl) (Wt.none rfl) rfl rfl ?_
              refine WL.nil ?_
              refine we_seq ?_
              refine wc_ret ?_
              refine we_seq_ret ?_
              obtain rfl := Option.some.inj h
              exact we_ret_fn (rs2 rfl (rv_t rfl) (rv_t rfl)) (Le.tud ⟨(Le.refl _), (Le.refl _), trivial⟩)
            · replace h := condF h hc7
              refine wc_skip ?_
              refine we_seq ?_
              refine wc_seq ?_
              refine wc_seq ?_
              refine wc_region ?_
              refine WL.q (y_fieldAddrc f26_0 rfl) (Wt.none rfl) rfl rfl ?_
              refine WL.q (y_loadc rfl a22 rfl) (Wt.none rfl) rfl rfl ?_
              refine WL.nil ?_
              refine we_seq ?_
              refine wc_block ?_
              refine wc_seq ?_
              refine wc_region ?_
              refine WL.q (y_eql rfl rfl) (Wt.none rfl) rfl rfl ?_
              refine WL.q (y_assign rfl) (Wt.none rfl) rfl rfl ?_
              refine WL.nil ?_
              refine we_seq ?_
              refine wc_cond rfl (fun hc8 => ?_) (fun hc8 => ?_)
              · replace h := condT h hc8
                refine wc_seq ?_
                refine wc_seq ?_
                refine wc_region ?_
                refine WL.q (y_move rfl) (Wt.none rfl) rfl rfl ?_
                refine WL.q (y_lss rfl rfl) (Wt.none rfl) rfl rfl ?_
                refine WL.q (y_move rfl) (Wt.none rfl) rfl rfl ?_
                apply WL.or 5 (t := 88) (d := 93)
                · exact rfl
                · intro hg88
                  refine WL.q (y_move rfl) (Wt.yes rfl rfl rfl) rfl rfl ?_
                  refine WL.q (y_fieldAddrc f26_5 rfl) (Wt.yes rfl rfl rfl) rfl rfl ?_
                  refine WL.q (y_loadc rfl a3 rfl) (Wt.yes rfl rfl rfl) rfl rfl ?_
                  refine WL.q (y_geq rfl rfl) (Wt.yes rfl rfl rfl) rfl rfl ?_
                  refine WL.q (y_pick_f rfl rfl) (Wt.none rfl) rfl rfl ?_
                  exact WL.nil ⟨rfl, [_, _, _, _, _], rfl, rfl, rfl⟩
                · refine WL.skips 4 rfl ?_
                  refine WL.q (y_pick_t rfl rfl) (Wt.none rfl) rfl rfl ?_
                  exact WL.nil ⟨rfl, [_, _, _, _, _], rfl, rfl, rfl⟩
                refine WL.nil ?_
                refine we_seq ?_
                refine wc_cond rfl (fun hc9 => ?_) (fun hc9 => ?_)
                · replace h := condT h hc9
                  refine wc_seq ?_
                  refine wc_region ?_
                  refine WL.q (y_assign rfl) (Wt.none rfl) rfl rfl ?_
                  refine WL.q (y_assign rfl) (Wt.none rfl) rfl rfl ?_
                  refine WL.nil ?_
                  refine we_seq ?_
                  refine wc_ret ?_
                  refine we_seq_ret ?_
                  refine we_blk_ret ?_
                  refine we_seq_ret ?_
                  obtain rfl := Option.some.inj h
                  exact we_ret_fn (rs2 rfl (rv_t rfl) (rv_t rfl)) (Le.tud ⟨(Le.refl _), (Le.refl _), trivial⟩)
                · replace h := condF h hc9
                  refine wc_skip ?_
                  refine we_seq ?_
                  refine wc_seq ?_
                  refine wc_region ?_
                  refine WL.q (y_fieldAddrc f86_0 rfl) (Wt.none rfl) rfl rfl ?_
                  refine WL.q (y_loadc rfl a37 rfl) (Wt.none rfl) rfl rfl ?_
                  refine WL.q (y_fieldAddrc f26_3 rfl) (Wt.none rfl) rfl rfl ?_
                  refine WL.q (y_loadc rfl a3 rfl) (Wt.none rfl) rfl rfl ?_
                  refine WL.q (y_fieldAddrc f26_4 rfl) (Wt.none rfl) rfl rfl ?_
                  refine WL.q (y_loadc rfl a3 rfl) (Wt.none rfl) rfl rfl ?_
                  refine WL.q (y_move rfl) (Wt.none rfl) rfl rfl ?_
                  refine WL.q (y_add rfl rfl rfl) (Wt.none rfl) rfl rfl ?_
                  replace h := bindS h
                  obtain ⟨r241, hr241, h⟩ := h
                  refine WL.fn rfl rfl rfl rfl (f80_c _ _ _ hr241) ⟨(Le.refl _), (Le.refl _), (Le.refl _), trivial⟩ (Wt.none rfl) rfl rfl ?_
                  refine WL.q (y_extractd rfl rfl) (Wt.none rfl) rfl rfl ?_
                  refine WL.q (y_extractd rfl rfl) (Wt.none rfl) rfl rfl ?_
                  refine WL.q (y_assign rfl) (Wt.none rfl) rfl rfl ?_
                  refine WL.q (y_assign rfl) (Wt.none rfl) rfl rfl ?_
                  refine WL.nil ?_
                  refine we_seq ?_
                  refine wc_ret ?_
                  refine we_blk_ret ?_
                  refine we_seq_ret ?_
                  obtain rfl := Option.some.inj h
                  exact we_ret_fn (rs2 rfl (rv_t rfl) (rv_t rfl)) (Le.tud ⟨(Le.refl _), (Le.refl _), trivial⟩)
              · replace h := condF h hc8
                refine wc_seq ?_
                refine wc_region ?_
                refine WL.q (y_eql rfl rfl) (Wt.none rfl) rfl rfl ?_
                refine WL.q (y_assign rfl) (Wt.none rfl) rfl rfl ?_
                refine WL.nil ?_
                refine we_seq ?_
                refine wc_cond rfl (fun hc10 => ?_) (fun hc10 => ?_)
                · replace h := condT h hc10
                  refine wc_seq ?_
                  refine wc_seq ?_
                  refine wc_region ?_
                  refine WL.q (y_move rfl) (Wt.none rfl) rfl rfl ?_
                  refine WL.q (y_lss rfl rfl) (Wt.none rfl) rfl rfl ?_
                  refine WL.nil ?_
                  refine we_seq ?_
                  refine wc_cond rfl (fun hc11 => ?_) (fun hc11 => ?_)
                  · replace h := condT h hc11
                    refine wc_seq ?_
                    refine wc_region ?_
                    refine WL.q (y_assign rfl) (Wt.none rfl) rfl rfl ?_
                    refine WL.q (y_assign rfl) (Wt.none rfl) rfl rfl ?_
                    refine WL.nil ?_
                    refine we_seq ?_
                    refine wc_ret ?_
                    refine we_seq_ret ?_
                    refine we_blk_ret ?_
                    refine we_seq_ret ?_
                    obtain rfl := Option.some.inj h
                    exact we_ret_fn (rs2 rfl (rv_t rfl) (rv_t rfl)) (Le.tud ⟨(Le.refl _), (Le.refl _), trivial⟩)
                  · replace h := condF h hc11
                    refine wc_skip ?_
                    refine we_seq ?_
                    refine wc_seq ?_
                    refine wc_region ?_
                    refine WL.q (y_fieldAddrc f86_0 rfl) (Wt.none rfl) rfl rfl ?_
                    refine WL.q (y_loadc rfl a37 rfl) (Wt.none rfl) rfl rfl ?_
                    refine WL.q (y_move rfl) (Wt.none rfl) rfl rfl ?_
                    refine WL.q (y_sub rfl rfl rfl) (Wt.none rfl) rfl rfl ?_
                    replace h := bindS h
                    obtain ⟨r242, hr242, h⟩ := h
                    refine WL.fn rfl rfl rfl rfl (f80_c _ _ _ hr242) ⟨(Le.refl _), (Le.refl _), (Le.refl _), trivial⟩ (Wt.none rfl) rfl rfl ?_
                    refine WL.q (y_extractd rfl rfl) (Wt.none rfl) rfl rfl ?_
                    refine WL.q (y_extractd rfl rfl) (Wt.none rfl) rfl rfl ?_
                    refine WL.q (y_assign rfl) (Wt.none rfl) rfl rfl ?_
                    refine WL.q (y_assign rfl) (Wt.none rfl) rfl rfl ?_
                    refine WL.nil ?_
                    refine we_seq ?_
                    refine wc_ret ?_
                    refine we_blk_ret ?_
                    refine we_seq_ret ?_
                    obtain rfl := Option.some.inj h
                    exact we_ret_fn (rs2 rfl (rv_t rfl) (rv_t rfl)) (Le.tud ⟨(Le.refl _), (Le.refl _), trivial⟩)
                · replace h := condF h hc10
                  refine wc_seq ?_
                  refine wc_region ?_
                  refine WL.q (y_eql rfl rfl) (Wt.none rfl) rfl rfl ?_
                  refine WL.q (y_assign rfl) (Wt.none rfl) rfl rfl ?_
                  refine WL.nil ?_
                  refine we_seq ?_
                  refine wc_cond rfl (fun hc12 => ?_) (fun hc12 => ?_)
                  · replace h := condT h hc12
                    refine wc_seq ?_
                    refine wc_region ?_
                    refine WL.q (y_fieldAddrc f26_1 rfl) (Wt.none rfl) rfl rfl ?_
                    refine WL.q (y_loadc rfl a23 rfl) (Wt.none rfl) rfl rfl ?_
                    refine WL.q (y_move rfl) (Wt.none rfl) rfl rfl ?_
                    refine WL.fn rfl rfl rfl rfl (f82_c _ _) ⟨(Le.refl _), (Le.refl _), trivial⟩ (Wt.none rfl) rfl rfl ?_
                    refine WL.q (y_extractd rfl rfl) (Wt.none rfl) rfl rfl ?_
                    refine WL.q (y_extractd rfl rfl) (Wt.none rfl) rfl rfl ?_
                    refine WL.q (y_assign rfl) (Wt.none rfl) rfl rfl ?_
                    refine WL.q (y_assign rfl) (Wt.none rfl) rfl rfl ?_
                    refine WL.nil ?_
                    refine we_seq ?_
                    refine wc_ret ?_
                    refine we_blk_ret ?_
                    refine we_seq_ret ?_
                    obtain rfl := Option.some.inj h
                    exact we_ret_fn (rs2 rfl (rv_t rfl) (rv_t rfl)) (Le.tud ⟨(Le.refl _), (Le.refl _), trivial⟩)
                  · replace h := condF h hc12
                    refine wc_seq ?_
                    refine wc_region ?_
                    refine WL.q (y_eql rfl rfl) (Wt.none rfl) rfl rfl ?_
                    refine WL.q (y_assign rfl) (Wt.none rfl) rfl rfl ?_
                    refine WL.nil ?_
                    refine we_seq ?_
                    refine wc_cond rfl (fun hc13 => ?_) (fun hc13 => ?_)
                    · replace h := condT h hc13
                      refine wc_seq ?_
                      refine wc_region ?_
                      refine WL.q (y_move rfl) (Wt.none rfl) rfl rfl ?_
                      refine WL.q (y_move rfl) (Wt.none rfl) rfl rfl ?_
                      refine WL.q (y_fieldAddrc f26_6 rfl) (Wt.none rfl) rfl rfl ?_
                      refine WL.q (y_loadc rfl a2 rfl) (Wt.none rfl) rfl rfl ?_
                      refine WL.q (y_fieldAddrc f26_7 rfl) (Wt.none rfl) rfl rfl ?_
                      refine WL.q (y_loadc rfl a2 rfl) (Wt.none rfl) rfl rfl ?_
                      refine WL.fn rfl rfl rfl rfl (f83_c _ _ _) ⟨(Le.refl _), (Le.refl _), (Le.refl _), trivial⟩ (Wt.none rfl) rfl rfl ?_
                      refine WL.q (y_assign rfl) (Wt.none rfl) rfl rfl ?_
                      refine WL.q (y_assign rfl) (Wt.none rfl) rfl rfl ?_
                      refine WL.nil ?_
                      refine we_seq ?_
                      refine wc_ret ?_
                      refine we_blk_ret ?_
                      refine we_seq_ret ?_
                      obtain rfl := Option.some.inj h
                      exact we_ret_fn (rs2 rfl (rv_t rfl) (rv_t rfl)) (Le.tud ⟨(Le.refl _), (Le.refl _), trivial⟩)
                    · replace h := condF h hc13
                      refine wc_seq ?_
                      refine wc_region ?_
                      refine WL.q (y_eql rfl rfl) (Wt.none rfl) rfl rfl ?_
                      refine WL.q (y_assign rfl) (Wt.none rfl) rfl rfl ?_
                      refine WL.nil ?_
                      refine we_seq ?_
                      refine wc_cond rfl (fun hc14 => ?_) (fun hc14 => ?_)
                      · replace h := condT h hc14
                        refine wc_seq ?_
                        refine wc_region_draw (by kernel_rfl) (by kernel_rfl) ?_
                        refine WQ.q (Yields.quiet (y_loadcN rfl a86 s86 rfl)) (Wt.none rfl) rfl rfl ?_
                        refine WQ.q (Yields.quiet (y_fieldAddrc f26_8 rfl)) (Wt.none rfl) rfl rfl ?_
                        refine WQ.q (Yields.quiet (y_loadc rfl a24 rfl)) (Wt.none rfl) rfl rfl ?_
                        replace h := bindS h
                        obtain ⟨x243, hx243, h⟩ := h
                        refine WQ.q (Yields.quiet (y_indexAddr e24 rfl (Le.refl _) rfl (idx_nonneg hx243) (idx_row E26_eq hx243) rfl)) (Wt.none rfl) rfl rfl ?_
                        refine WQ.q (Yields.quiet (y_loadcN rfl a26 s26 rfl)) (Wt.none rfl) rfl rfl ?_
                        replace h := bindS h
                        obtain ⟨r244, hr244, h⟩ := h
                        refine WQ.q (YieldsQ.fn rfl rfl rfl rfl rfl (hrec54 _ _ _ hr244) ⟨(Le.refl _), (Le.refl _), trivial⟩) (Wt.none rfl) rfl rfl ?_
                        refine WQ.q (Yields.quiet (y_move rfl)) (Wt.none rfl) rfl rfl ?_
                        refine WQ.q (Yields.quiet (y_extractd rfl rfl)) (Wt.none rfl) rfl rfl ?_
                        refine WQ.q (Yields.quiet (y_extractd rfl rfl)) (Wt.none rfl) rfl rfl ?_
                        refine WQ.q (Yields.quiet (y_assign rfl)) (Wt.none rfl) rfl rfl ?_
                        refine WQ.q (Yields.quiet (y_assign rfl)) (Wt.none rfl) rfl rfl ?_
                        refine WQ.nil ?_
                        refine we_seq ?_
                        refine wc_seq ?_
                        refine wc_seq ?_
                        refine wc_region ?_
                        refine WL.q (y_move rfl) (Wt.none rfl) rfl rfl ?_
                        refine WL.q (y_not rfl) (Wt.none rfl) rfl rfl ?_
                        refine WL.nil ?_
                        refine we_seq ?_
                        refine wc_cond rfl (fun hc15 => ?_) (fun hc15 => ?_)
                        · replace h := condT h hc15
                          refine wc_seq ?_
                          refine wc_region ?_
                          refine WL.q (y_assign rfl) (Wt.none rfl) rfl rfl ?_
                          refine WL.q (y_assign rfl) (Wt.none rfl) rfl rfl ?_
                          refine WL.nil ?_
                          refine we_seq ?_
                          refine wc_ret ?_
                          refine we_seq_ret ?_
                          refine we_blk_ret ?_
                          refine we_seq_ret ?_
                          obtain rfl := Option.some.inj h
                          exact we_ret_fn (rs2 rfl (rv_t rfl) (rv_t rfl)) (Le.tud ⟨(Le.refl _), (Le.refl _), trivial⟩)
                        · replace h := condF h hc15
                          refine wc_skip ?_
                          refine we_seq ?_
                          refine wc_seq ?_
                          refine wc_region ?_
                          refine WL.q (y_fieldAddrc f26_1 rfl) (Wt.none rfl) rfl rfl ?_
                          refine WL.q (y_loadc rfl a23 rfl) (Wt.none rfl) rfl rfl ?_
                          refine WL.q (y_move rfl) (Wt.none rfl) rfl rfl ?_
                          refine WL.q (y_move rfl) (Wt.none rfl) rfl rfl ?_
                          replace h := bindS h
                          obtain ⟨r245, hr245, h⟩ := h
                          refine WL.fn rfl rfl rfl rfl (f84_c _ _ _ hr245) ⟨(Le.refl _), (Le.refl _), (Le.refl _), trivial⟩ (Wt.none rfl) rfl rfl ?_
                          refine WL.q (y_extractd rfl rfl) (Wt.none rfl) rfl rfl ?_
                          refine WL.q (y_extractd rfl rfl) (Wt.none rfl) rfl rfl ?_
                          refine WL.q (y_assign rfl) (Wt.none rfl) rfl rfl ?_
                          refine WL.q (y_assign rfl) (Wt.none rfl) rfl rfl ?_
                          refine WL.nil ?_
                          refine we_seq ?_
                          refine wc_ret ?_
                          refine we_blk_ret ?_
                          refine we_seq_ret ?_
                          obtain rfl := Option.some.inj h
                          exact we_ret_fn (rs2 rfl (rv_t rfl) (rv_t rfl)) (Le.tud ⟨(Le.refl _), (Le.refl _), trivial⟩)
                      · replace h := condF h hc14
                        refine wc_seq ?_
                        refine wc_region ?_
                        refine WL.q (y_eql rfl rfl) (Wt.none rfl) rfl rfl ?_
                        refine WL.q (y_assign rfl) (Wt.none rfl) rfl rfl ?_
                        refine WL.nil ?_
                        refine we_seq ?_
                        refine wc_cond rfl (fun hc16 => ?_) (fun hc16 => ?_)
                        · replace h := condT h hc16
                          refine wc_seq ?_
                          refine wc_region ?_
                          refine WL.q (y_assign rfl) (Wt.none rfl) rfl rfl ?_
                          refine WL.nil_os 11 2 1 rfl ?_
                          refine WL.nil ?_
                          refine we_seq ?_
                          refine wc_seq ?_
                          refine wc_region ?_
                          refine WL.q (y_move rfl) (Wt.none rfl) rfl rfl ?_
                          refine WL.q (y_fieldAddrc f86_2 rfl) (Wt.none rfl) rfl rfl ?_
                          refine WL.q (y_loadc rfl a56 rfl) (Wt.none rfl) rfl rfl ?_
                          replace h := guardBS h
                          obtain ⟨hgg246, h⟩ := h
                          refine WL.s (d_appendL E2 [] w0.lets l56 z2 rfl (by decide) rfl rfl rfl rfl (Src.dataL (Le.refl _) E2_eq (fun _ => rfl)) (fun _ => rfl) (fun _ => rfl) hgg246) (Wt.none rfl) rfl rfl ?_
                          refine WL.q (y_assign rfl) (Wt.none rfl) rfl rfl ?_
                          refine WL.nil ?_
                          refine we_seq ?_
                          refine wc_seq ?_
                          replace h := guardBS h
                          obtain ⟨hgg247, h⟩ := h
                          replace h := bindS h
                          obtain ⟨x248, hx248, h⟩ := h
                          replace h := bindS h
                          obtain ⟨r249, hr249, h⟩ := h
                          apply wc_region_all [_, _, _, _, _, _, _, _, _, _, _, _, _, _, _, _, _, _] [[], [0], [], [2], [], [], [5], [4, 5, 6], [0, 1, 2, 3, 4, 5, 6, 7], [], [9], [9, 10], [9, 10, 11], [0, 1, 2, 3, 4, 5, 6, 7, 8, 9, 10, 11, 12], [0, 1, 2, 3, 4, 5, 6, 7, 8, 9, 10, 11, 12, 13], [0, 1, 2, 3, 4, 5, 6, 7, 8, 9, 10, 11, 12, 13], [0, 1, 2, 3, 4, 5, 6, 7, 8, 9, 10, 11, 12, 13, 14, 15], [0, 1, 2, 3, 4, 5, 6, 7, 8, 9, 10, 11, 12, 13, 14, 15, 16]] [7] (fun c => List.getD [[.os 2 1 1 (List.map (encA E2) ([] ++ w0.lets))], [.dead]] c []) [([], [2], [0, 1]), ([0], [], [0, 1]), ([], [2], [0, 1]), ([2], [], [0, 1]), ([], [11], [0]), ([], [7], [0]), ([5], [], [0]), ([4, 6], [], [0]), ([1, 3, 7], [], [1]), ([], [3], [0, 1]), ([9], [], [0, 1]), ([10], [], [0, 1]), ([11], [], [0, 1]), ([8, 12], [], [1]), ([13], [], [1]), ([13], [], [1]), ([14], [], [1]), ([15], [], [1])] (by kernel_rfl) (by kernel_rfl) rfl rfl rfl
                          · refine ⟨?_, ?_, ?_, ?_, ?_, ?_, ?_, ?_, ?_, ?_, ?_, ?_, ?_, ?_, ?_, ?_, ?_, ?_, trivial⟩
                            · refine ⟨fun F => ?_, fun F => ?_, trivial⟩
                              · refine WL.q (y_fieldAddrc f86_0 rfl) (Wt.none rfl) rfl rfl ?_
                                exact WL.done1 rfl rfl rfl
                              · refine WL.q (y_fieldAddrc f86_0 rfl) (Wt.none rfl) rfl rfl ?_
                                exact WL.done1 rfl rfl rfl
                            · refine ⟨fun F => ?_, fun F => ?_, trivial⟩
                              · refine WL.q (y_loadc rfl a37 rfl) (Wt.none rfl) rfl rfl ?_
                                exact WL.done1 rfl rfl rfl
                              · refine WL.q (y_loadc rfl a37 rfl) (Wt.none rfl) rfl rfl ?_
                                exact WL.done1 rfl rfl rfl
                            · refine ⟨fun F => ?_, fun F => ?_, trivial⟩
                              · refine WL.q (y_fieldAddrc f86_1 rfl) (Wt.none rfl) rfl rfl ?_
                                exact WL.done1 rfl rfl rfl
                              · refine WL.q (y_fieldAddrc f86_1 rfl) (Wt.none rfl) rfl rfl ?_
                                exact WL.done1 rfl rfl rfl
                            · refine ⟨fun F => ?_, fun F => ?_, trivial⟩
                              · refine WL.q (y_loadc rfl a33 rfl) (Wt.none rfl) rfl rfl ?_
                                exact WL.done1 rfl rfl rfl
                              · refine WL.q (y_loadc rfl a33 rfl) (Wt.none rfl) rfl rfl ?_
                                exact WL.done1 rfl rfl rfl
                            · refine ⟨fun F => ?_, trivial⟩
                              refine WL.q (y_move rfl) (Wt.none rfl) rfl rfl ?_
                              exact WL.done1 rfl rfl rfl
                            · refine ⟨fun F => ?_, trivial⟩
                              refine WL.q (y_move rfl) (Wt.none rfl) rfl rfl ?_
                              exact WL.done1 rfl rfl rfl
                            · refine ⟨fun F => ?_, trivial⟩
                              refine WL.s ((NewOs.data (n_buildSlice l56 z2 rfl (by decide) (by decide) rfl rfl rfl (by decide)) (by exact encA_map E2_eq [r240.1])).does) (Wt.none rfl) rfl rfl ?_
                              exact WL.done1 rfl rfl rfl
                            · refine ⟨fun F => ?_, trivial⟩
                              refine WL.s (d_appendL E2 ([] ++ w0.lets) [r240.1] l56 z2 rfl (by decide) rfl rfl rfl rfl (Src.dataL (Le.refl _) E2_eq (fun _ => rfl)) (fun _ => rfl) (fun _ => rfl) hgg247) (Wt.none rfl) rfl rfl ?_
                              refine WL.freeze 166 (List.map E2 (([] ++ w0.lets) ++ [r240.1])) rfl rfl (encA_map E2_eq (([] ++ w0.lets) ++ [r240.1])) ?_
                              exact WL.done2 rfl rfl rfl
                            · refine ⟨fun F => ?_, trivial⟩
                              refine WL.q (y_build p86 z86 rfl rfl) (Wt.none rfl) rfl rfl ?_
                              exact WL.done1 rfl rfl rfl
                            · refine ⟨fun F => ?_, fun F => ?_, trivial⟩
                              · refine WL.q (y_fieldAddrc f26_8 rfl) (Wt.none rfl) rfl rfl ?_
                                exact WL.done1 rfl rfl rfl
                              · refine WL.q (y_fieldAddrc f26_8 rfl) (Wt.none rfl) rfl rfl ?_
                                exact WL.done1 rfl rfl rfl
                            · refine ⟨fun F => ?_, fun F => ?_, trivial⟩
                              · refine WL.q (y_loadc rfl a24 rfl) (Wt.none rfl) rfl rfl ?_
                                exact WL.done1 rfl rfl rfl
                              · refine WL.q (y_loadc rfl a24 rfl) (Wt.none rfl) rfl rfl ?_
                                exact WL.done1 rfl rfl rfl
                            · refine ⟨fun F => ?_, fun F => ?_, trivial⟩
                              · refine WL.q (y_indexAddr e24 rfl (Le.refl _) rfl (idx_nonneg hx248) (idx_row E26_eq hx248) rfl) (Wt.none rfl) rfl rfl ?_
                                exact WL.done1 rfl rfl rfl
                              · refine WL.q (y_indexAddr e24 rfl (Le.refl _) rfl (idx_nonneg hx248) (idx_row E26_eq hx248) rfl) (Wt.none rfl) rfl rfl ?_
                                exact WL.done1 rfl rfl rfl
                            · refine ⟨fun F => ?_, fun F => ?_, trivial⟩
                              · refine WL.q (y_loadcN rfl a26 s26 rfl) (Wt.none rfl) rfl rfl ?_
                                exact WL.done1 rfl rfl rfl
                              · refine WL.q (y_loadcN rfl a26 s26 rfl) (Wt.none rfl) rfl rfl ?_
                                exact WL.done1 rfl rfl rfl
                            · refine ⟨fun F => ?_, trivial⟩
                              refine WL.fn rfl rfl rfl rfl (hrec54 _ _ _ hr249) ⟨(Le.agd ⟨(Le.refl _), (Le.refl _), (Le.refl _), trivial⟩), (Le.refl _), trivial⟩ (Wt.none rfl) rfl rfl ?_
                              exact WL.done1 rfl rfl rfl
                            · refine ⟨fun F => ?_, trivial⟩
                              refine WL.q (y_extractd rfl rfl) (Wt.none rfl) rfl rfl ?_
                              exact WL.done1 rfl rfl rfl
                            · refine ⟨fun F => ?_, trivial⟩
                              refine WL.q (y_extractd rfl rfl) (Wt.none rfl) rfl rfl ?_
                              exact WL.done1 rfl rfl rfl
                            · refine ⟨fun F => ?_, trivial⟩
                              refine WL.q (y_assign rfl) (Wt.none rfl) rfl rfl ?_
                              exact WL.done1 rfl rfl rfl
                            · refine ⟨fun F => ?_, trivial⟩
                              refine WL.q (y_assign rfl) (Wt.none rfl) rfl rfl ?_
                              exact WL.done1 rfl rfl rfl
                          · refine we_seq ?_
                            refine wc_ret ?_
                            refine we_blk_ret ?_
                            refine we_seq_ret ?_
                            obtain rfl := Option.some.inj h
                            exact we_ret_fn (rs2 rfl (rv_t rfl) (rv_t rfl)) (Le.tud ⟨(Le.refl _), (Le.refl _), trivial⟩)
                        · replace h := condF h hc16
                          refine wc_skip ?_
                          refine we_blk ?_
                          refine we_seq ?_
                          refine wc_seq ?_
                          refine wc_seq ?_
                          refine wc_region ?_
                          refine WL.q (y_move rfl) (Wt.none rfl) rfl rfl ?_
                          refine WL.fn rfl rfl rfl rfl (f83_c _ _ _) ⟨(Le.refl _), (Le.refl _), (Le.refl _), trivial⟩ (Wt.none rfl) rfl rfl ?_
                          refine WL.q (y_not rfl) (Wt.none rfl) rfl rfl ?_
                          refine WL.nil ?_
                          refine we_seq ?_
                          refine wc_cond rfl (fun hc17 => ?_) (fun hc17 => ?_)
                          · replace h := condT h hc17
                            refine wc_seq ?_
                            refine wc_region ?_
                            refine WL.q (y_assign rfl) (Wt.none rfl) rfl rfl ?_
                            refine WL.q (y_assign rfl) (Wt.none rfl) rfl rfl ?_
                            refine WL.nil ?_
                            refine we_seq ?_
                            refine wc_ret ?_
                            refine we_seq_ret ?_
                            obtain rfl := Option.some.inj h
                            exact we_ret_fn (rs2 rfl (rv_t rfl) (rv_t rfl)) (Le.tud ⟨(Le.refl _), (Le.refl _), trivial⟩)
                          · replace h := condF h hc17
                            refine wc_skip ?_
                            refine we_seq ?_
                            refine wc_seq ?_
                            refine wc_seq ?_
                            refine wc_region ?_
                            refine WL.q (y_fieldAddrc f26_0 rfl) (Wt.none rfl) rfl rfl ?_
                            refine WL.q (y_loadc rfl a22 rfl) (Wt.none rfl) rfl rfl ?_
                            refine WL.q (y_eql rfl rfl) (Wt.none rfl) rfl rfl ?_
                            refine WL.nil ?_
                            refine we_seq ?_
                            refine wc_cond rfl (fun hc18 => ?_) (fun hc18 => ?_)
                            · replace h := condT h hc18
                              refine wc_seq ?_
                              refine wc_seq ?_
                              refine wc_region ?_
                              refine WL.q (y_move rfl) (Wt.none rfl) rfl rfl ?_
                              refine WL.q (y_eql rfl rfl) (Wt.none rfl) rfl rfl ?_
                              refine WL.nil ?_
                              refine we_seq ?_
                              refine wc_cond rfl (fun hc19 => ?_) (fun hc19 => ?_)
                              · replace h := condT h hc19
                                refine wc_seq ?_
                                refine wc_region_draw (by kernel_rfl) (by kernel_rfl) ?_
                                refine WQ.q (Yields.quiet (y_loadcN rfl a86 s86 rfl)) (Wt.none rfl) rfl rfl ?_
                                refine WQ.q (Yields.quiet (y_fieldAddrc f26_8 rfl)) (Wt.none rfl) rfl rfl ?_
                                refine WQ.q (Yields.quiet (y_loadc rfl a24 rfl)) (Wt.none rfl) rfl rfl ?_
                                replace h := bindS h
                                obtain ⟨x250, hx250, h⟩ := h
                                refine WQ.q (Yields.quiet (y_indexAddr e24 rfl (Le.refl _) rfl (idx_nonneg hx250) (idx_row E26_eq hx250) rfl)) (Wt.none rfl) rfl rfl ?_
                                refine WQ.q (Yields.quiet (y_loadcN rfl a26 s26 rfl)) (Wt.none rfl) rfl rfl ?_
                                replace h := bindS h
                                obtain ⟨r251, hr251, h⟩ := h
                                refine WQ.q (YieldsQ.fn rfl rfl rfl rfl rfl (hrec54 _ _ _ hr251) ⟨(Le.refl _), (Le.refl _), trivial⟩) (Wt.none rfl) rfl rfl ?_
                                refine WQ.q (Yields.quiet (y_extractd rfl rfl)) (Wt.none rfl) rfl rfl ?_
                                refine WQ.q (Yields.quiet (y_extractd rfl rfl)) (Wt.none rfl) rfl rfl ?_
                                refine WQ.q (Yields.quiet (y_assign rfl)) (Wt.none rfl) rfl rfl ?_
                                refine WQ.q (Yields.quiet (y_assign rfl)) (Wt.none rfl) rfl rfl ?_
                                refine WQ.nil ?_
                                refine we_seq ?_
                                refine wc_ret ?_
                                refine we_seq_ret ?_
                                refine we_seq_ret ?_
                                obtain rfl := Option.some.inj h
                                exact we_ret_fn (rs2 rfl (rv_t rfl) (rv_t rfl)) (Le.tud ⟨(Le.refl _), (Le.refl _), trivial⟩)
                              · replace h := condF h hc19
                                refine wc_skip ?_
                                refine we_seq ?_
                                refine wc_seq ?_
                                refine wc_region_draw (by kernel_rfl) (by kernel_rfl) ?_
                                refine WQ.q (Yields.quiet (y_loadcN rfl a86 s86 rfl)) (Wt.none rfl) rfl rfl ?_
                                refine WQ.q (Yields.quiet (y_fieldAddrc f26_8 rfl)) (Wt.none rfl) rfl rfl ?_
                                refine WQ.q (Yields.quiet (y_loadc rfl a24 rfl)) (Wt.none rfl) rfl rfl ?_
                                replace h := bindS h
                                obtain ⟨x252, hx252, h⟩ := h
                                refine WQ.q (Yields.quiet (y_indexAddr e24 rfl (Le.refl _) rfl (idx_nonneg hx252) (idx_row E26_eq hx252) rfl)) (Wt.none rfl) rfl rfl ?_
                                refine WQ.q (Yields.quiet (y_loadcN rfl a26 s26 rfl)) (Wt.none rfl) rfl rfl ?_
                                replace h := bindS h
                                obtain ⟨r253, hr253, h⟩ := h
                                refine WQ.q (YieldsQ.fn rfl rfl rfl rfl rfl (hrec54 _ _ _ hr253) ⟨(Le.refl _), (Le.refl _), trivial⟩) (Wt.none rfl) rfl rfl ?_
                                refine WQ.q (Yields.quiet (y_extractd rfl rfl)) (Wt.none rfl) rfl rfl ?_
                                refine WQ.q (Yields.quiet (y_extractd rfl rfl)) (Wt.none rfl) rfl rfl ?_
                                refine WQ.q (Yields.quiet (y_assign rfl)) (Wt.none rfl) rfl rfl ?_
                                refine WQ.q (Yields.quiet (y_assign rfl)) (Wt.none rfl) rfl rfl ?_
                                refine WQ.nil ?_
                                refine we_seq ?_
                                refine wc_ret ?_
                                refine we_seq_ret ?_
                                obtain rfl := Option.some.inj h
                                exact we_ret_fn (rs2 rfl (rv_t rfl) (rv_t rfl)) (Le.tud ⟨(Le.refl _), (Le.refl _), trivial⟩)
                            · replace h := condF h hc18
                              refine wc_skip ?_
                              refine we_seq ?_
                              refine wc_seq ?_
                              refine wc_seq ?_
                              refine wc_region ?_
                              refine WL.q (y_fieldAddrc f26_0 rfl) (Wt.none rfl) rfl rfl ?_
                              refine WL.q (y_loadc rfl a22 rfl) (Wt.none rfl) rfl rfl ?_
                              refine WL.q (y_eql rfl rfl) (Wt.none rfl) rfl rfl ?_
                              refine WL.q (y_move rfl) (Wt.none rfl) rfl rfl ?_
                              apply WL.and 3 (t := 202) (d := 205)
                              · exact rfl
                              · intro hg202
                                refine WL.q (y_move rfl) (Wt.yes rfl rfl rfl) rfl rfl ?_
                                refine WL.q (y_eql rfl rfl) (Wt.yes rfl rfl rfl) rfl rfl ?_
                                refine WL.q (y_pick_t rfl rfl) (Wt.none rfl) rfl rfl ?_
                                exact WL.nil ⟨rfl, [_, _, _], rfl, rfl, rfl⟩
                              · refine WL.skips 2 rfl ?_
                                refine WL.q (y_pick_f rfl rfl) (Wt.none rfl) rfl rfl ?_
                                exact WL.nil ⟨rfl, [_, _, _], rfl, rfl, rfl⟩
                              refine WL.q (y_move rfl) (Wt.none rfl) rfl rfl ?_
                              apply WL.or 8 (t := 206) (d := 214)
                              · exact rfl
                              · intro hg206
                                refine WL.q (y_fieldAddrc f26_0 rfl) (Wt.yes rfl rfl rfl) rfl rfl ?_
                                refine WL.q (y_loadc rfl a22 rfl) (Wt.yes rfl rfl rfl) rfl rfl ?_
                                refine WL.q (y_eql rfl rfl) (Wt.yes rfl rfl rfl) rfl rfl ?_
                                refine WL.q (y_move rfl) (Wt.yes rfl rfl rfl) rfl rfl ?_
                                apply WL.and 3 (t := 210) (d := 213)
                                · exact rfl
                                · intro hg210
                                  refine WL.q (y_move rfl) (Wt.yes rfl rfl rfl) rfl rfl ?_
                                  refine WL.q (y_eql rfl rfl) (Wt.yes rfl rfl rfl) rfl rfl ?_
                                  refine WL.q (y_pick_t rfl rfl) (Wt.yes rfl rfl rfl) rfl rfl ?_
                                  exact WL.nil ⟨rfl, [_, _, _], rfl, rfl, rfl⟩
                                · refine WL.skips 2 rfl ?_
                                  refine WL.q (y_pick_f rfl rfl) (Wt.yes rfl rfl rfl) rfl rfl ?_
                                  exact WL.nil ⟨rfl, [_, _, _], rfl, rfl, rfl⟩
                                refine WL.q (y_pick_f rfl rfl) (Wt.none rfl) rfl rfl ?_
                                exact WL.nil ⟨rfl, [_, _, _, _, _, _], rfl, rfl, rfl⟩
                              · refine WL.skips 7 rfl ?_
                                refine WL.q (y_pick_t rfl rfl) (Wt.none rfl) rfl rfl ?_
                                exact WL.nil ⟨rfl, [_, _, _, _, _, _, _, _], rfl, rfl, rfl⟩
                              refine WL.nil ?_
                              refine we_seq ?_
                              refine wc_cond rfl (fun hc20 => ?_) (fun hc20 => ?_)
                              · replace h := condT h hc20
                                refine wc_seq ?_
                                refine wc_region ?_
                                refine WL.q (y_move rfl) (Wt.none rfl) rfl rfl ?_
                                refine WL.q (y_assign rfl) (Wt.none rfl) rfl rfl ?_
                                refine WL.q (y_assign rfl) (Wt.none rfl) rfl rfl ?_
                                refine WL.nil ?_
                                refine we_seq ?_
                                refine wc_ret ?_
                                refine we_seq_ret ?_
                                obtain rfl := Option.some.inj h
                                exact we_ret_fn (rs2 rfl (rv_t rfl) (rv_t rfl)) (Le.tud ⟨(Le.refl _), (Le.refl _), trivial⟩)
                              · replace h := condF h hc20
                                refine wc_skip ?_
                                refine we_seq ?_
                                refine wc_seq ?_
                                refine wc_region_draw (by kernel_rfl) (by kernel_rfl) ?_
                                refine WQ.q (Yields.quiet (y_loadcN rfl a86 s86 rfl)) (Wt.none rfl) rfl rfl ?_
                                refine WQ.q (Yields.quiet (y_fieldAddrc f26_8 rfl)) (Wt.none rfl) rfl rfl ?_
                                refine WQ.q (Yields.quiet (y_loadc rfl a24 rfl)) (Wt.none rfl) rfl rfl ?_
                                replace h := bindS h
                                obtain ⟨x254, hx254, h⟩ := h
                                refine WQ.q (Yields.quiet (y_indexAddr e24 rfl (Le.refl _) rfl (idx_nonneg hx254) (idx_row E26_eq hx254) rfl)) (Wt.none rfl) rfl rfl ?_
                                refine WQ.q (Yields.quiet (y_loadcN rfl a26 s26 rfl)) (Wt.none rfl) rfl rfl ?_
                                replace h := bindS h
                                obtain ⟨r255, hr255, h⟩ := h
                                refine WQ.q (YieldsQ.fn rfl rfl rfl rfl rfl (hrec54 _ _ _ hr255) ⟨(Le.refl _), (Le.refl _), trivial⟩) (Wt.none rfl) rfl rfl ?_
                                refine WQ.q (Yields.quiet (y_move rfl)) (Wt.none rfl) rfl rfl ?_
                                refine WQ.q (Yields.quiet (y_extractd rfl rfl)) (Wt.none rfl) rfl rfl ?_
                                refine WQ.q (Yields.quiet (y_extractd rfl rfl)) (Wt.none rfl) rfl rfl ?_
                                refine WQ.q (Yields.quiet (y_assign rfl)) (Wt.none rfl) rfl rfl ?_
                                refine WQ.q (Yields.quiet (y_assign rfl)) (Wt.none rfl) rfl rfl ?_
                                refine WQ.nil ?_
                                refine we_seq ?_
                                refine wc_seq ?_
                                refine wc_region ?_
                                refine WL.q (y_move rfl) (Wt.none rfl) rfl rfl ?_
                                refine WL.q (y_move rfl) (Wt.none rfl) rfl rfl ?_
                                refine WL.q (y_move rfl) (Wt.none rfl) rfl rfl ?_
                                apply WL.and 3 (t := 227) (d := 230)
                                · exact rfl
                                · intro hg227
                                  refine WL.q (y_move rfl) (Wt.yes rfl rfl rfl) rfl rfl ?_
                                  refine WL.fn rfl rfl rfl rfl (f83_c _ _ _) ⟨(Le.refl _), (Le.refl _), (Le.refl _), trivial⟩ (Wt.yes rfl rfl rfl) rfl rfl ?_
                                  refine WL.q (y_pick_t rfl rfl) (Wt.none rfl) rfl rfl ?_
                                  exact WL.nil ⟨rfl, [_, _, _], rfl, rfl, rfl⟩
                                · refine WL.skips 2 rfl ?_
                                  refine WL.q (y_pick_f rfl rfl) (Wt.none rfl) rfl rfl ?_
                                  exact WL.nil ⟨rfl, [_, _, _], rfl, rfl, rfl⟩
                                refine WL.q (y_assign rfl) (Wt.none rfl) rfl rfl ?_
                                refine WL.q (y_assign rfl) (Wt.none rfl) rfl rfl ?_
                                refine WL.nil ?_
                                refine we_seq ?_
                                refine wc_ret ?_
                                obtain rfl := Option.some.inj h
                                exact we_ret_fn (rs2 rfl (rv_t rfl) (rv_t rfl)) (Le.tud ⟨(Le.refl _), (Le.refl _), trivial⟩)

theorem f54_c : ∀ (n : Nat) (x0 : RSt) (x1 : CE) {r : Int × Bool}, f54 n x0 x1 = some r → Pu Try.prog 54 [.ag (R86 x0), .ag (R26 x1)] (.tu [.i .i64 r.1, .b r.2])
  | 0, _, _, _, h => by cases h
  | n + 1, x0, x1, _, h => f54s_c (f54 n) x0 x1 (fun x0 x1 _ h => f54_c n x0 x1 h) h

theorem f22_c (s0 : List (List Int)) (counts1 : List Int) (e2 : CE) {r : Int × Bool} (h : f22 s0 counts1 e2 = some r) : Pu Try.prog 22 [.sl (List.map E56 s0), .sl (List.map E3 counts1), .ag (R26 e2)] (.tu [.i .i64 r.1, .b r.2]) := by
  unfold f22 at h
  refine fn_intro Try.func22 (by kernel_rfl) rfl rfl rfl (fun φφ ww => ?_)
  refine wc_seq ?_
  refine wc_region ?_
  refine WL.s ((b_boxd rfl rfl (Les.refl _)).does) (Wt.none rfl) rfl rfl ?_
  refine WL.q (y_assign rfl) (Wt.none rfl) rfl rfl ?_
  refine WL.q (y_assign rfl) (Wt.none rfl) rfl rfl ?_
  refine WL.nil ?_
  refine we_seq ?_
  refine wc_seq ?_
  refine wc_seq ?_
  refine wc_region ?_
  refine WL.q (y_loadcN rfl a26 s26 rfl) (Wt.none rfl) rfl rfl ?_
  replace h := bindS h
  obtain ⟨r28, hr28, h⟩ := h
  refine WL.fn rfl rfl rfl rfl (f14_c _ _ hr28) ⟨(Le.refl _), (Le.refl _), trivial⟩ (Wt.none rfl) rfl rfl ?_
  refine WL.q (y_not rfl) (Wt.none rfl) rfl rfl ?_
  refine WL.nil ?_
  refine we_seq ?_
  refine wc_cond rfl (fun hc1 => ?_) (fun hc1 => ?_)
  · replace h := condT h hc1
    refine wc_seq ?_
    refine wc_region ?_
    refine WL.q (y_assign rfl) (Wt.none rfl) rfl rfl ?_
    refine WL.q (y_assign rfl) (Wt.none rfl) rfl rfl ?_
    refine WL.nil ?_
    refine we_seq ?_
    refine wc_ret ?_
    refine we_seq_ret ?_
    obtain rfl := Option.some.inj h
    exact we_ret_fn (rs2 rfl (rv_t rfl) (rv_t rfl)) (Le.tud ⟨(Le.refl _), (Le.refl _), trivial⟩)
  · replace h := condF h hc1
    refine wc_skip ?_
    refine we_seq ?_
    refine wc_seq ?_
    refine wc_region ?_
    refine WL.q (y_move rfl) (Wt.none rfl) rfl rfl ?_
    refine WL.q (y_move rfl) (Wt.none rfl) rfl rfl ?_
    refine WL.q (y_build p86 z86 rfl rfl) (Wt.none rfl) rfl rfl ?_
    refine WL.q (y_loadcN rfl a26 s26 rfl) (Wt.none rfl) rfl rfl ?_
    replace h := bindS h
    obtain ⟨r29, hr29, h⟩ := h
    refine WL.fn rfl rfl rfl rfl (f54_c 100 _ _ hr29) ⟨(Le.agd ⟨(Le.refl _), (Le.refl _), Le.nil, trivial⟩), (Le.refl _), trivial⟩ (Wt.none rfl) rfl rfl ?_
    refine WL.q (y_move rfl) (Wt.none rfl) rfl rfl ?_
    refine WL.q (y_extractd rfl rfl) (Wt.none rfl) rfl rfl ?_
    refine WL.q (y_extractd rfl rfl) (Wt.none rfl) rfl rfl ?_
    refine WL.q (y_assign rfl) (Wt.none rfl) rfl rfl ?_
    refine WL.q (y_assign rfl) (Wt.none rfl) rfl rfl ?_
    refine WL.nil ?_
    refine we_seq ?_
    refine wc_seq ?_
    refine wc_seq ?_
    refine wc_region ?_
    refine WL.q (y_move rfl) (Wt.none rfl) rfl rfl ?_
    refine WL.q (y_not rfl) (Wt.none rfl) rfl rfl ?_
    refine WL.nil ?_
    refine we_seq ?_
    refine wc_cond rfl (fun hc2 => ?_) (fun hc2 => ?_)
    · replace h := condT h hc2
      refine wc_seq ?_
      refine wc_region ?_
      refine WL.q (y_assign rfl) (Wt.none rfl) rfl rfl ?_
      refine WL.q (y_assign rfl) (Wt.none rfl) rfl rfl ?_
      refine WL.nil ?_
      refine we_seq ?_
      refine wc_ret ?_
      refine we_seq_ret ?_
      obtain rfl := Option.some.inj h
      exact we_ret_fn (rs2 rfl (rv_t rfl) (rv_t rfl)) (Le.tud ⟨(Le.refl _), (Le.refl _), trivial⟩)
    · replace h := condF h hc2
      refine wc_skip ?_
      refine we_seq ?_
      refine wc_seq ?_
      refine wc_region ?_
      refine WL.q (y_move rfl) (Wt.none rfl) rfl rfl ?_
      refine WL.q (y_assign rfl) (Wt.none rfl) rfl rfl ?_
      refine WL.q (y_assign rfl) (Wt.none rfl) rfl rfl ?_
      refine WL.nil ?_
      refine we_seq ?_
      refine wc_ret ?_
      obtain rfl := Option.some.inj h
      exact we_ret_fn (rs2 rfl (rv_t rfl) (rv_t rfl)) (Le.tud ⟨(Le.refl _), (Le.refl _), trivial⟩)

theorem f35_c (s0 : List (List Int)) (p1 : Place) {r : Spot × Bool} (h : f35 s0 p1 = some r) : Pu Try.prog 35 [.sl (List.map E56 s0), .ag (R29 p1)] (.tu [.ag (R52 r.1), .b r.2]) := by
  unfold f35 at h
  refine fn_intro Try.func35 (by kernel_rfl) rfl rfl rfl (fun φφ ww => ?_)
  refine wc_seq ?_
  refine wc_region ?_
  refine WL.s ((b_boxd rfl rfl (Les.refl _)).does) (Wt.none rfl) rfl rfl ?_
  refine WL.s ((b_alloc z52).does) (Wt.none rfl) rfl rfl ?_
  refine WL.q (y_assign rfl) (Wt.none rfl) rfl rfl ?_
  refine WL.nil ?_
  refine we_seq ?_
  refine wc_seq ?_
  refine wc_seq ?_
  refine wc_region ?_
  refine WL.q (y_loadcN rfl a29 s29 rfl) (Wt.none rfl) rfl rfl ?_
  replace h := bindS h
  obtain ⟨r77, hr77, h⟩ := h
  refine WL.fn rfl rfl rfl rfl (f16_c _ hr77) ⟨(Le.refl _), trivial⟩ (Wt.none rfl) rfl rfl ?_
  refine WL.q (y_not rfl) (Wt.none rfl) rfl rfl ?_
  refine WL.nil ?_
  refine we_seq ?_
  refine wc_cond rfl (fun hc1 => ?_) (fun hc1 => ?_)
  · replace h := condT h hc1
    refine wc_seq ?_
    refine wc_region ?_
    refine WL.q (y_build p52 z52 rfl rfl) (Wt.none rfl) rfl rfl ?_
    refine WL.s0 (d_store rfl rfl rfl rfl rfl rfl s52 rfl rfl) (Wt.none rfl) rfl ?_
    refine WL.q (y_assign rfl) (Wt.none rfl) rfl rfl ?_
    refine WL.nil ?_
    refine we_seq ?_
    refine wc_ret ?_
    refine we_seq_ret ?_
    obtain rfl := Option.some.inj h
    exact we_ret_fn (rs2 rfl (rv_cN rfl rfl a52 s52 rfl) (rv_t rfl)) (Le.tud ⟨(Le.agd ⟨(Le.refl _), (Le.refl _), trivial⟩), (Le.refl _), trivial⟩)
  · replace h := condF h hc1
    refine wc_skip ?_
    refine we_seq ?_
    refine wc_seq ?_
    refine wc_region_draw (by kernel_rfl) (by kernel_rfl) ?_
    refine WQ.q (Yields.quiet (y_fieldAddrc f29_1 rfl)) (Wt.none rfl) rfl rfl ?_
    refine WQ.q (Yields.quiet (y_loadc rfl a3 rfl)) (Wt.none rfl) rfl rfl ?_
    refine WQ.q (Yields.quiet (y_fieldAddrc f29_2 rfl)) (Wt.none rfl) rfl rfl ?_
    refine WQ.q (Yields.quiet (y_loadc rfl a3 rfl)) (Wt.none rfl) rfl rfl ?_
    refine WQ.q (Yields.quiet (y_assign rfl)) (Wt.none rfl) rfl rfl ?_
    refine WQ.q (Yields.quiet (y_assign rfl)) (Wt.none rfl) rfl rfl ?_
    refine WQ.nil ?_
    refine we_seq ?_
    replace h := letkS h
    obtain ⟨k80, hk80, h⟩ := h
    refine wc_cut (fun env' st' => ∃ (o78 : Int), ∃ (slot79 : Int), k80 o78 slot79 = some r ∧ Sub [(0, .d (.sl (List.map E56 s0))), (4, .pt 0 0), (6, .d (D.i .i64 o78)), (7, .d (D.i .i64 slot79))] env' ∧ SLe st' [.row 52 [.d (D.i .i64 0), .d (D.i .i64 0)]]) ?_ ?_
    · refine wc_seq ?_
      refine wc_region ?_
      refine WL.q (y_fieldAddrc f29_0 rfl) (Wt.none rfl) rfl rfl ?_
      refine WL.q (y_loadc rfl a27 rfl) (Wt.none rfl) rfl rfl ?_
      refine WL.q (y_neq rfl rfl) (Wt.none rfl) rfl rfl ?_
      refine WL.nil ?_
      refine we_seq ?_
      refine wc_cond rfl (fun hc2 => ?_) (fun hc2 => ?_)
      · replace h := condT h hc2
        refine wc_seq ?_
        refine wc_region ?_
        refine WL.q (y_move rfl) (Wt.none rfl) rfl rfl ?_
        refine WL.q (y_fieldAddrc f29_4 rfl) (Wt.none rfl) rfl rfl ?_
        refine WL.q (y_loadc rfl a24 rfl) (Wt.none rfl) rfl rfl ?_
        replace h := bindS h
        obtain ⟨x81, hx81, h⟩ := h
        refine WL.q (y_indexAddr e24 rfl (Le.refl _) rfl (idx_nonneg hx81) (idx_row E26_eq hx81) rfl) (Wt.none rfl) rfl rfl ?_
        refine WL.q (y_loadcN rfl a26 s26 rfl) (Wt.none rfl) rfl rfl ?_
        replace h := bindS h
        obtain ⟨r82, hr82, h⟩ := h
        refine WL.fn rfl rfl rfl rfl (f22_c _ _ _ hr82) ⟨(Le.refl _), Le.nil, (Le.refl _), trivial⟩ (Wt.none rfl) rfl rfl ?_
        refine WL.q (y_move rfl) (Wt.none rfl) rfl rfl ?_
        refine WL.q (y_extractd rfl rfl) (Wt.none rfl) rfl rfl ?_
        refine WL.q (y_extractd rfl rfl) (Wt.none rfl) rfl rfl ?_
        refine WL.q (y_assign rfl) (Wt.none rfl) rfl rfl ?_
        refine WL.q (y_assign rfl) (Wt.none rfl) rfl rfl ?_
        refine WL.nil ?_
        refine we_seq ?_
        refine wc_seq ?_
        refine wc_seq ?_
        refine wc_region ?_
        refine WL.q (y_move rfl) (Wt.none rfl) rfl rfl ?_
        refine WL.q (y_not rfl) (Wt.none rfl) rfl rfl ?_
        refine WL.q (y_move rfl) (Wt.none rfl) rfl rfl ?_
        apply WL.or 14 (t := 32) (d := 46)
        · exact rfl
        · intro hg32
          refine WL.q (y_fieldAddrc f29_0 rfl) (Wt.yes rfl rfl rfl) rfl rfl ?_
          refine WL.q (y_loadc rfl a27 rfl) (Wt.yes rfl rfl rfl) rfl rfl ?_
          refine WL.q (y_eql rfl rfl) (Wt.yes rfl rfl rfl) rfl rfl ?_
          refine WL.q (y_move rfl) (Wt.yes rfl rfl rfl) rfl rfl ?_
          apply WL.and 9 (t := 36) (d := 45)
          · exact rfl
          · intro hg36
            refine WL.q (y_move rfl) (Wt.yes rfl rfl rfl) rfl rfl ?_
            refine WL.q (y_lss rfl rfl) (Wt.yes rfl rfl rfl) rfl rfl ?_
            refine WL.q (y_move rfl) (Wt.yes rfl rfl rfl) rfl rfl ?_
            apply WL.or 5 (t := 39) (d := 44)
            · exact rfl
            · intro hg39
              refine WL.q (y_move rfl) (Wt.yes rfl rfl rfl) rfl rfl ?_
              refine WL.q (y_fieldAddrc f29_3 rfl) (Wt.yes rfl rfl rfl) rfl rfl ?_
              refine WL.q (y_loadc rfl a3 rfl) (Wt.yes rfl rfl rfl) rfl rfl ?_
              refine WL.q (y_geq rfl rfl) (Wt.yes rfl rfl rfl) rfl rfl ?_
              refine WL.q (y_pick_f rfl rfl) (Wt.yes rfl rfl rfl) rfl rfl ?_
              exact WL.nil ⟨rfl, [_, _, _, _, _], rfl, rfl, rfl⟩
            · refine WL.skips 4 rfl ?_
              refine WL.q (y_pick_t rfl rfl) (Wt.yes rfl rfl rfl) rfl rfl ?_
              exact WL.nil ⟨rfl, [_, _, _, _, _], rfl, rfl, rfl⟩
            refine WL.q (y_pick_t rfl rfl) (Wt.yes rfl rfl rfl) rfl rfl ?_
            exact WL.nil ⟨rfl, [_, _, _, _, _], rfl, rfl, rfl⟩
          · refine WL.skips 8 rfl ?_
            refine WL.q (y_pick_f rfl rfl) (Wt.yes rfl rfl rfl) rfl rfl ?_
            exact WL.nil ⟨rfl, [_, _, _, _, _, _, _, _, _], rfl, rfl, rfl⟩
          refine WL.q (y_pick_f rfl rfl) (Wt.none rfl) rfl rfl ?_
          exact WL.nil ⟨rfl, [_, _, _, _, _, _], rfl, rfl, rfl⟩
        · refine WL.skips 13 rfl ?_
          refine WL.q (y_pick_t rfl rfl) (Wt.none rfl) rfl rfl ?_
          exact WL.nil ⟨rfl, [_, _, _, _, _, _, _, _, _, _, _, _, _, _], rfl, rfl, rfl⟩
        refine WL.q (y_move rfl) (Wt.none rfl) rfl rfl ?_
        apply WL.or 8 (t := 47) (d := 55)
        · exact rfl
        · intro hg47
          refine WL.q (y_fieldAddrc f29_0 rfl) (Wt.yes rfl rfl rfl) rfl rfl ?_
          refine WL.q (y_loadc rfl a27 rfl) (Wt.yes rfl rfl rfl) rfl rfl ?_
          refine WL.q (y_eql rfl rfl) (Wt.yes rfl rfl rfl) rfl rfl ?_
          refine WL.q (y_move rfl) (Wt.yes rfl rfl rfl) rfl rfl ?_
          apply WL.and 3 (t := 51) (d := 54)
          · exact rfl
          · intro hg51
            refine WL.q (y_move rfl) (Wt.yes rfl rfl rfl) rfl rfl ?_
            refine WL.q (y_lss rfl rfl) (Wt.yes rfl rfl rfl) rfl rfl ?_
            refine WL.q (y_pick_t rfl rfl) (Wt.yes rfl rfl rfl) rfl rfl ?_
            exact WL.nil ⟨rfl, [_, _, _], rfl, rfl, rfl⟩
          · refine WL.skips 2 rfl ?_
            refine WL.q (y_pick_f rfl rfl) (Wt.yes rfl rfl rfl) rfl rfl ?_
            exact WL.nil ⟨rfl, [_, _, _], rfl, rfl, rfl⟩
          refine WL.q (y_pick_f rfl rfl) (Wt.none rfl) rfl rfl ?_
          exact WL.nil ⟨rfl, [_, _, _, _, _, _], rfl, rfl, rfl⟩
        · refine WL.skips 7 rfl ?_
          refine WL.q (y_pick_t rfl rfl) (Wt.none rfl) rfl rfl ?_
          exact WL.nil ⟨rfl, [_, _, _, _, _, _, _, _], rfl, rfl, rfl⟩
        refine WL.nil ?_
        refine we_seq ?_
        refine wc_cond rfl (fun hc3 => ?_) (fun hc3 => ?_)
        · replace h := condT h hc3
          refine wc_seq ?_
          refine wc_region ?_
          refine WL.q (y_build p52 z52 rfl rfl) (Wt.none rfl) rfl rfl ?_
          refine WL.s0 (d_store rfl rfl rfl rfl rfl rfl s52 rfl rfl) (Wt.none rfl) rfl ?_
          refine WL.q (y_assign rfl) (Wt.none rfl) rfl rfl ?_
          refine WL.nil ?_
          refine we_seq ?_
          refine wc_ret ?_
          refine we_seq_ret ?_
          refine we_lp_ret ?_
          obtain rfl := Option.some.inj h
          exact we_ret_fn (rs2 rfl (rv_cN rfl rfl a52 s52 rfl) (rv_t rfl)) (Le.tud ⟨(Le.agd ⟨(Le.refl _), (Le.refl _), trivial⟩), (Le.refl _), trivial⟩)
        · replace h := condF h hc3
          refine wc_skip ?_
          refine we_seq ?_
          refine wc_seq ?_
          refine wc_region ?_
          refine WL.q (y_fieldAddrc f29_0 rfl) (Wt.none rfl) rfl rfl ?_
          refine WL.q (y_loadc rfl a27 rfl) (Wt.none rfl) rfl rfl ?_
          refine WL.q (y_eql rfl rfl) (Wt.none rfl) rfl rfl ?_
          refine WL.nil ?_
          refine we_seq ?_
          refine wc_cond rfl (fun hc4 => ?_) (fun hc4 => ?_)
          · replace h := condT h hc4
            refine wc_region ?_
            refine WL.q (y_move rfl) (Wt.none rfl) rfl rfl ?_
            refine WL.q (y_move rfl) (Wt.none rfl) rfl rfl ?_
            refine WL.q (y_add rfl rfl rfl) (Wt.none rfl) rfl rfl ?_
            refine WL.q (y_assign rfl) (Wt.none rfl) rfl rfl ?_
            refine WL.nil ?_
            exact we_lp ⟨p1.o, (IntKind.i64.wrap (p1.off + r82.1)), h, (Sub.cons rfl (Le.refl _) (Sub.cons rfl (Le.refl _) (Sub.cons rfl (Le.refl _) (Sub.cons rfl (Le.refl _) (Sub.nil _))))), ⟨⟨rfl, ⟨(Le.refl _), (Le.refl _), trivial⟩⟩, trivial⟩⟩
          · replace h := condF h hc4
            refine wc_region ?_
            refine WL.q (y_move rfl) (Wt.none rfl) rfl rfl ?_
            refine WL.q (y_sub rfl rfl rfl) (Wt.none rfl) rfl rfl ?_
            refine WL.q (y_assign rfl) (Wt.none rfl) rfl rfl ?_
            refine WL.nil ?_
            exact we_lp ⟨(IntKind.i64.wrap (r82.1 - 1)), p1.off, h, (Sub.cons rfl (Le.refl _) (Sub.cons rfl (Le.refl _) (Sub.cons rfl (Le.refl _) (Sub.cons rfl (Le.refl _) (Sub.nil _))))), ⟨⟨rfl, ⟨(Le.refl _), (Le.refl _), trivial⟩⟩, trivial⟩⟩
      · replace h := condF h hc2
        refine wc_skip ?_
        exact we_lp ⟨p1.o, p1.off, h, (Sub.cons rfl (Le.refl _) (Sub.cons rfl (Le.refl _) (Sub.cons rfl (Le.refl _) (Sub.cons rfl (Le.refl _) (Sub.nil _))))), ⟨⟨rfl, ⟨(Le.refl _), (Le.refl _), trivial⟩⟩, trivial⟩⟩
    · rintro env1 st1 ⟨o78, slot79, h, hsub, hst⟩
      subst hk80
      dsimp only at h
      refine WC.sub hsub (WC.weak hst ?_)
      refine wc_seq ?_
      refine wc_seq ?_
      refine wc_region ?_
      refine WL.q (y_move rfl) (Wt.none rfl) rfl rfl ?_
      refine WL.q (y_move rfl) (Wt.none rfl) rfl rfl ?_
      refine WL.q (y_move rfl) (Wt.none rfl) rfl rfl ?_
      replace h := bindS h
      obtain ⟨r83, hr83, h⟩ := h
      refine WL.fn rfl rfl rfl rfl (f30_c _ _ _ hr83) ⟨(Le.refl _), (Le.refl _), (Le.refl _), trivial⟩ (Wt.none rfl) rfl rfl ?_
      refine WL.q (y_not rfl) (Wt.none rfl) rfl rfl ?_
      refine WL.nil ?_
      refine we_seq ?_
      refine wc_cond rfl (fun hc5 => ?_) (fun hc5 => ?_)
      · replace h := condT h hc5
        refine wc_seq ?_
        refine wc_region ?_
        refine WL.q (y_build p52 z52 rfl rfl) (Wt.none rfl) rfl rfl ?_
        refine WL.s0 (d_store rfl rfl rfl rfl rfl rfl s52 rfl rfl) (Wt.none rfl) rfl ?_
        refine WL.q (y_assign rfl) (Wt.none rfl) rfl rfl ?_
        refine WL.nil ?_
        refine we_seq ?_
        refine wc_ret ?_
        refine we_seq_ret ?_
        obtain rfl := Option.some.inj h
        exact we_ret_fn (rs2 rfl (rv_cN rfl rfl a52 s52 rfl) (rv_t rfl)) (Le.tud ⟨(Le.agd ⟨(Le.refl _), (Le.refl _), trivial⟩), (Le.refl _), trivial⟩)
      · replace h := condF h hc5
        refine wc_skip ?_
        refine we_seq ?_
        refine wc_seq ?_
        refine wc_region ?_
        refine WL.q (y_move rfl) (Wt.none rfl) rfl rfl ?_
        refine WL.q (y_move rfl) (Wt.none rfl) rfl rfl ?_
        refine WL.q (y_build p52 z52 rfl rfl) (Wt.none rfl) rfl rfl ?_
        refine WL.s0 (d_store rfl rfl rfl rfl rfl rfl s52 rfl rfl) (Wt.none rfl) rfl ?_
        refine WL.q (y_assign rfl) (Wt.none rfl) rfl rfl ?_
        refine WL.nil ?_
        refine we_seq ?_
        refine wc_ret ?_
        obtain rfl := Option.some.inj h
        exact we_ret_fn (rs2 rfl (rv_cN rfl rfl a52 s52 rfl) (rv_t rfl)) (Le.tud ⟨(Le.agd ⟨(Le.refl _), (Le.refl _), trivial⟩), (Le.refl _), trivial⟩)

theorem f34_c (s0 : List (List Int)) (at1 : Spot) (v2 : Int) {r : List (List Int)} (h : f34 s0 at1 v2 = some r) : Pu Try.prog 34 [.sl (List.map E56 s0), .ag (R52 at1), .i .i64 v2] (.sl (List.map E56 r)) := by
  unfold f34 at h
  refine fn_intro Try.func34 (by kernel_rfl) rfl rfl rfl (fun φφ ww => ?_)
  refine wc_seq ?_
  refine wc_region ?_
  refine WL.s ((b_boxd rfl rfl (Les.refl _)).does) (Wt.none rfl) rfl rfl ?_
  refine WL.q (y_assign rfl) (Wt.none rfl) rfl rfl ?_
  refine WL.nil ?_
  refine we_seq ?_
  refine wc_seq ?_
  refine wc_region ?_
  refine WL.q (y_assign rfl) (Wt.none rfl) rfl rfl ?_
  refine WL.nil_os 7 56 1 rfl ?_
  refine WL.nil ?_
  refine we_seq ?_
  replace h := letkS h
  obtain ⟨k61, hk61, h⟩ := h
  refine wc_cut (fun env' st' => ∃ (l59 : List (List Int)), ∃ (ver60 : Nat), k61 l59 = some r ∧ Sub [(7, .os 0 ver60)] env' ∧ SLe st' [.os 56 1 ver60 (List.map (encA E56) l59)]) ?_ ?_
  · refine wc_seq ?_
    refine wc_region ?_
    refine WL.q (y_assign rfl) (Wt.none rfl) rfl rfl ?_
    refine WL.nil ?_
    refine we_seq ?_
    refine wc_block ?_
    refine wc_loop (fun n env' st' => ∃ (iq65 : Int), ∃ (l66 : List (List Int)), ∃ (ver67 : Nat), f34_l1 s0 at1 v2 k61 n iq65 l66 = some r ∧ Sub [(0, .d (.sl (List.map E56 s0))), (2, .d (D.i .i64 v2)), (4, .d (.pc (R52 at1))), (7, .os 0 ver67), (8, .d (D.i .i64 iq65))] env' ∧ SLe st' [.os 56 1 ver67 (List.map (encA E56) l66)]) (fun n => n) 9223372036854775808 ⟨0, [], _, h, (Sub.cons rfl (Le.refl _) (Sub.cons rfl (Le.refl _) (Sub.cons rfl (Le.refl _) (Sub.cons rfl (Le.refl _) (Sub.cons rfl (Le.refl _) (Sub.nil _)))))), ⟨⟨rfl, rfl, rfl, rfl⟩, trivial⟩⟩ ?_
    rintro n env1 st1 ⟨iq65, l66, ver67, h, hsub, hst⟩
    cases n with
    | zero => rw [f34_l1] at h; cases h
    | succ n =>
    rw [f34_l1] at h
    refine WC.sub hsub (WC.weak hst ?_)
    refine wc_seq ?_
    refine wc_seq ?_
    refine wc_region ?_
    refine WL.q (y_move rfl) (Wt.none rfl) rfl rfl ?_
    refine WL.q (y_move rfl) (Wt.none rfl) rfl rfl ?_
    refine WL.q (y_len_map E56 s0 e37 rfl rfl (Le.refl _)) (Wt.none rfl) rfl rfl ?_
    refine WL.q (y_lss rfl rfl) (Wt.none rfl) rfl rfl ?_
    refine WL.nil ?_
    refine we_seq ?_
    refine wc_cond rfl (fun hc1 => ?_) (fun hc1 => ?_)
    · replace h := condT h hc1
      refine wc_skip ?_
      refine we_seq ?_
      replace h := letkS h
      obtain ⟨k75, hk75, h⟩ := h
      refine wc_cut (fun env' st' => ∃ (l71 : List (List Int)), ∃ (ver72 : Nat), ∃ (l73 : List (List Int)), ∃ (ver74 : Nat), k75 l71 l73 = some r ∧ Sub [(0, .d (.sl (List.map E56 s0))), (2, .d (D.i .i64 v2)), (4, .d (.pc (R52 at1))), (7, .os 0 ver72), (8, .d (D.i .i64 iq65))] env' ∧ SLe st' [.os 56 1 ver72 (List.map (encA E56) l71), .dead, .os 56 1 ver74 (List.map (encA E56) l73)]) ?_ ?_
      · refine wc_block ?_
        refine wc_seq ?_
        refine wc_region ?_
        refine WL.q (y_assign rfl) (Wt.none rfl) rfl rfl ?_
        refine WL.nil_os 9 2 1 rfl ?_
        refine WL.nil ?_
        refine we_seq ?_
        replace h := letkS h
        obtain ⟨k78, hk78, h⟩ := h
        refine wc_cut (fun env' st' => ∃ (l76 : List Int), ∃ (ver77 : Nat), k78 l76 = some r ∧ Sub [(0, .d (.sl (List.map E56 s0))), (2, .d (D.i .i64 v2)), (4, .d (.pc (R52 at1))), (7, .os 0 ver67), (8, .d (D.i .i64 iq65)), (9, .os 1 ver77)] env' ∧ SLe st' [.os 56 1 ver67 (List.map (encA E56) l66), .os 2 1 ver77 (List.map (encA E2) l76)]) ?_ ?_
        · refine wc_seq ?_
          refine wc_region ?_
          refine WL.q (y_assign rfl) (Wt.none rfl) rfl rfl ?_
          refine WL.nil ?_
          refine we_seq ?_
          refine wc_block ?_
          refine wc_loop (fun na env' st' => ∃ (k82 : Int), ∃ (l83 : List Int), ∃ (ver84 : Nat), f34_l2 s0 at1 v2 iq65 k78 na k82 l83 = some r ∧ Sub [(0, .d (.sl (List.map E56 s0))), (2, .d (D.i .i64 v2)), (4, .d (.pc (R52 at1))), (7, .os 0 ver67), (8, .d (D.i .i64 iq65)), (9, .os 1 ver84), (10, .d (D.i .i64 k82))] env' ∧ SLe st' [.os 56 1 ver67 (List.map (encA E56) l66), .os 2 1 ver84 (List.map (encA E2) l83)]) (fun n => n) 9223372036854775808 ⟨0, [], _, h, (Sub.cons rfl (Le.refl _) (Sub.cons rfl (Le.refl _) (Sub.cons rfl (Le.refl _) (Sub.cons rfl (Le.refl _) (Sub.cons rfl (Le.refl _) (Sub.cons rfl (Le.refl _) (Sub.cons rfl (Le.refl _) (Sub.nil _)))))))), ⟨⟨rfl, rfl, rfl, rfl⟩, ⟨rfl, rfl, rfl, rfl⟩, trivial⟩⟩ ?_
          rintro na env1 st1 ⟨k82, l83, ver84, h, hsub, hst⟩
          cases na with
          | zero => rw [f34_l2] at h; cases h
          | succ na =>
          rw [f34_l2] at h
          refine WC.sub hsub (WC.weak hst ?_)
          refine wc_seq ?_
          refine wc_seq ?_
          refine wc_region ?_
          refine WL.q (y_move rfl) (Wt.none rfl) rfl rfl ?_
          refine WL.q (y_move rfl) (Wt.none rfl) rfl rfl ?_
          refine WL.q (y_move rfl) (Wt.none rfl) rfl rfl ?_
          replace h := bindS h
          obtain ⟨x88, hx88, h⟩ := h
          refine WL.q (y_indexAddr e37 rfl (Le.refl _) rfl (idx_nonneg hx88) (idx_row E56_eq hx88) rfl) (Wt.none rfl) rfl rfl ?_
          refine WL.q (y_loadc rfl a56 rfl) (Wt.none rfl) rfl rfl ?_
          refine WL.q (y_len_map E2 x88 e56 rfl rfl (Le.refl _)) (Wt.none rfl) rfl rfl ?_
          refine WL.q (y_lss rfl rfl) (Wt.none rfl) rfl rfl ?_
          refine WL.nil ?_
          refine we_seq ?_
          refine wc_cond rfl (fun hc2 => ?_) (fun hc2 => ?_)
          · replace h := condT h hc2
            refine wc_skip ?_
            refine we_seq ?_
            replace h := letkS h
            obtain ⟨k93, hk93, h⟩ := h
            refine wc_cut (fun env' st' => ∃ (l89 : List Int), ∃ (ver90 : Nat), ∃ (l91 : List Int), ∃ (ver92 : Nat), k93 l89 l91 = some r ∧ Sub [(0, .d (.sl (List.map E56 s0))), (2, .d (D.i .i64 v2)), (4, .d (.pc (R52 at1))), (7, .os 0 ver67), (8, .d (D.i .i64 iq65)), (9, .os 1 ver90), (10, .d (D.i .i64 k82))] env' ∧ SLe st' [.os 56 1 ver67 (List.map (encA E56) l66), .os 2 1 ver90 (List.map (encA E2) l89), .os 2 1 ver92 (List.map (encA E2) l91)]) ?_ ?_
            · refine wc_block ?_
              refine wc_seq ?_
              refine wc_region ?_
              refine WL.q (y_move rfl) (Wt.none rfl) rfl rfl ?_
              refine WL.q (y_fieldAddrc f52_0 rfl) (Wt.none rfl) rfl rfl ?_
              refine WL.q (y_loadc rfl a3 rfl) (Wt.none rfl) rfl rfl ?_
              refine WL.q (y_eql rfl rfl) (Wt.none rfl) rfl rfl ?_
              refine WL.q (y_move rfl) (Wt.none rfl) rfl rfl ?_
              apply WL.and 5 (t := 30) (d := 35)
              · exact rfl
              · intro hg30
                refine WL.q (y_move rfl) (Wt.yes rfl rfl rfl) rfl rfl ?_
                refine WL.q (y_fieldAddrc f52_1 rfl) (Wt.yes rfl rfl rfl) rfl rfl ?_
                refine WL.q (y_loadc rfl a3 rfl) (Wt.yes rfl rfl rfl) rfl rfl ?_
                refine WL.q (y_eql rfl rfl) (Wt.yes rfl rfl rfl) rfl rfl ?_
                refine WL.q (y_pick_t rfl rfl) (Wt.none rfl) rfl rfl ?_
                exact WL.nil ⟨rfl, [_, _, _, _, _], rfl, rfl, rfl⟩
              · refine WL.skips 4 rfl ?_
                refine WL.q (y_pick_f rfl rfl) (Wt.none rfl) rfl rfl ?_
                exact WL.nil ⟨rfl, [_, _, _, _, _], rfl, rfl, rfl⟩
              refine WL.nil ?_
              refine we_seq ?_
              refine wc_cond rfl (fun hc3 => ?_) (fun hc3 => ?_)
              · replace h := condT h hc3
                refine wc_region ?_
                refine WL.q (y_move rfl) (Wt.none rfl) rfl rfl ?_
                refine WL.q (y_move rfl) (Wt.none rfl) rfl rfl ?_
                refine WL.s ((NewOs.b (n_buildSlice l56 z2 rfl (by decide) (by decide) rfl rfl rfl (by decide))).does) (Wt.none rfl) rfl rfl ?_
                replace h := guardBS h
                obtain ⟨hgg94, h⟩ := h
                refine WL.s (d_appendL E2 l83 [v2] l56 z2 rfl (by decide) rfl rfl rfl rfl (Src.own rfl) (fun _ => rfl) (fun _ => rfl) hgg94) (Wt.none rfl) rfl rfl ?_
                refine WL.q (y_assign rfl) (Wt.none rfl) rfl rfl ?_
                refine WL.nil ?_
                refine we_blk ?_
                exact we_lp ⟨(l83 ++ [v2]), _, [v2], _, h, (Sub.cons rfl (Le.refl _) (Sub.cons rfl (Le.refl _) (Sub.cons rfl (Le.refl _) (Sub.cons rfl (Le.refl _) (Sub.cons rfl (Le.refl _) (Sub.cons rfl (Le.refl _) (Sub.cons rfl (Le.refl _) (Sub.nil _)))))))), ⟨⟨rfl, rfl, rfl, rfl⟩, ⟨rfl, rfl, rfl, rfl⟩, ⟨rfl, rfl, rfl, rfl⟩, trivial⟩⟩
              · replace h := condF h hc3
                refine wc_region ?_
                refine WL.q (y_move rfl) (Wt.none rfl) rfl rfl ?_
                refine WL.q (y_move rfl) (Wt.none rfl) rfl rfl ?_
                refine WL.q (y_move rfl) (Wt.none rfl) rfl rfl ?_
                replace h := bindS h
                obtain ⟨x95, hx95, h⟩ := h
                refine WL.q (y_indexAddr e37 rfl (Le.refl _) rfl (idx_nonneg hx95) (idx_row E56_eq hx95) rfl) (Wt.none rfl) rfl rfl ?_
                refine WL.q (y_loadc rfl a56 rfl) (Wt.none rfl) rfl rfl ?_
                refine WL.q (y_move rfl) (Wt.none rfl) rfl rfl ?_
                replace h := bindS h
                obtain ⟨x96, hx96, h⟩ := h
                refine WL.q (y_indexAddr e56 rfl (Le.refl _) rfl (idx_nonneg hx96) (idx_row E2_eq hx96) rfl) (Wt.none rfl) rfl rfl ?_
                refine WL.q (y_loadc rfl a2 rfl) (Wt.none rfl) rfl rfl ?_
                refine WL.s ((NewOs.b (n_buildSlice l56 z2 rfl (by decide) (by decide) rfl rfl rfl (by decide))).does) (Wt.none rfl) rfl rfl ?_
                replace h := guardBS h
                obtain ⟨hgg97, h⟩ := h
                refine WL.s (d_appendL E2 l83 [x96] l56 z2 rfl (by decide) rfl rfl rfl rfl (Src.own rfl) (fun _ => rfl) (fun _ => rfl) hgg97) (Wt.none rfl) rfl rfl ?_
                refine WL.q (y_assign rfl) (Wt.none rfl) rfl rfl ?_
                refine WL.nil ?_
                refine we_blk ?_
                exact we_lp ⟨(l83 ++ [x96]), _, [x96], _, h, (Sub.cons rfl (Le.refl _) (Sub.cons rfl (Le.refl _) (Sub.cons rfl (Le.refl _) (Sub.cons rfl (Le.refl _) (Sub.cons rfl (Le.refl _) (Sub.cons rfl (Le.refl _) (Sub.cons rfl (Le.refl _) (Sub.nil _)))))))), ⟨⟨rfl, rfl, rfl, rfl⟩, ⟨rfl, rfl, rfl, rfl⟩, ⟨rfl, rfl, rfl, rfl⟩, trivial⟩⟩
            · rintro env1 st1 ⟨l89, ver90, l91, ver92, h, hsub, hst⟩
              subst hk93
              dsimp only at h
              refine WC.sub hsub (WC.weak hst ?_)
              refine wc_region ?_
              refine WL.q (y_move rfl) (Wt.none rfl) rfl rfl ?_
              refine WL.q (y_add rfl rfl rfl) (Wt.none rfl) rfl rfl ?_
              refine WL.q (y_assign rfl) (Wt.none rfl) rfl rfl ?_
              refine WL.nil ?_
              refine WE.drop 2 (env' := [(0, .d (.sl (List.map E56 s0))), (2, .d (D.i .i64 v2)), (4, .d (.pc (R52 at1))), (7, .os 0 ver67), (8, .d (D.i .i64 iq65)), (9, .os 1 ver90), (10, .d (D.i .i64 (IntKind.i64.wrap (k82 + 1))))]) (Sub.one rfl (Sub.one rfl (Sub.one rfl (Sub.one rfl (Sub.one rfl (Sub.one rfl (Sub.one rfl (Sub.nil _)))))))) rfl (stLt_cons (lt_os _ _ _ _ _ _) (stLt_cons (lt_os _ _ _ _ _ _) rfl)) (Nat.zero_le _) ?_
              exact we_lp ⟨na, ⟨(IntKind.i64.wrap (k82 + 1)), l89, _, h, (Sub.cons rfl (Le.refl _) (Sub.cons rfl (Le.refl _) (Sub.cons rfl (Le.refl _) (Sub.cons rfl (Le.refl _) (Sub.cons rfl (Le.refl _) (Sub.cons rfl (Le.refl _) (Sub.cons rfl (Le.refl _) (Sub.nil _)))))))), ⟨⟨rfl, rfl, rfl, rfl⟩, ⟨rfl, rfl, rfl, rfl⟩, trivial⟩⟩, Nat.lt_succ_self na⟩
          · replace h := condF h hc2
            refine wc_exit ?_
            refine we_seq_exit ?_
            refine we_lp_exit ?_
            refine we_blk_hit ?_
            exact we_lp ⟨l83, _, h, (Sub.cons rfl (Le.refl _) (Sub.cons rfl (Le.refl _) (Sub.cons rfl (Le.refl _) (Sub.cons rfl (Le.refl _) (Sub.cons rfl (Le.refl _) (Sub.cons rfl (Le.refl _) (Sub.nil _))))))), ⟨⟨rfl, rfl, rfl, rfl⟩, ⟨rfl, rfl, rfl, rfl⟩, trivial⟩⟩
        · rintro env1 st1 ⟨l76, ver77, h, hsub, hst⟩
          subst hk78
          dsimp only at h
          refine WC.sub hsub (WC.weak hst ?_)
          refine wc_region ?_
          refine WL.q (y_move rfl) (Wt.none rfl) rfl rfl ?_
          refine WL.q (y_move rfl) (Wt.none rfl) rfl rfl ?_
          refine WL.freezeX [9, 51] [] 1 (List.map E2 l76) rfl (encA_map E2_eq l76) ⟨rfl, rfl, trivial⟩ trivial ?_
          refine WL.s ((NewOs.b (n_buildSlice l37 z56 rfl (by decide) (by decide) rfl rfl rfl (by decide))).does) (Wt.none rfl) rfl rfl ?_
          replace h := guardBS h
          obtain ⟨hgg98, h⟩ := h
          refine WL.s (d_appendL E56 l66 [l76] l37 z56 rfl (by decide) rfl rfl rfl rfl (Src.own rfl) (fun _ => rfl) (fun _ => rfl) hgg98) (Wt.none rfl) rfl rfl ?_
          refine WL.q (y_assign rfl) (Wt.none rfl) rfl rfl ?_
          refine WL.nil ?_
          refine we_blk ?_
          exact we_lp ⟨(l66 ++ [l76]), _, [l76], _, h, (Sub.cons rfl (Le.refl _) (Sub.cons rfl (Le.refl _) (Sub.cons rfl (Le.refl _) (Sub.cons rfl (Le.refl _) (Sub.cons rfl (Le.refl _) (Sub.nil _)))))), ⟨⟨rfl, rfl, rfl, rfl⟩, trivial, ⟨rfl, rfl, rfl, rfl⟩, trivial⟩⟩
      · rintro env1 st1 ⟨l71, ver72, l73, ver74, h, hsub, hst⟩
        subst hk75
        dsimp only at h
        refine WC.sub hsub (WC.weak hst ?_)
        refine wc_region ?_
        refine WL.q (y_move rfl) (Wt.none rfl) rfl rfl ?_
        refine WL.q (y_add rfl rfl rfl) (Wt.none rfl) rfl rfl ?_
        refine WL.q (y_assign rfl) (Wt.none rfl) rfl rfl ?_
        refine WL.nil ?_
        refine WE.drop 1 (env' := [(0, .d (.sl (List.map E56 s0))), (2, .d (D.i .i64 v2)), (4, .d (.pc (R52 at1))), (7, .os 0 ver72), (8, .d (D.i .i64 (IntKind.i64.wrap (iq65 + 1))))]) (Sub.one rfl (Sub.one rfl (Sub.one rfl (Sub.one rfl (Sub.one rfl (Sub.nil _)))))) rfl (stLt_cons (lt_os _ _ _ _ _ _) rfl) (Nat.zero_le _) ?_
        exact we_lp ⟨n, ⟨(IntKind.i64.wrap (iq65 + 1)), l71, _, h, (Sub.cons rfl (Le.refl _) (Sub.cons rfl (Le.refl _) (Sub.cons rfl (Le.refl _) (Sub.cons rfl (Le.refl _) (Sub.cons rfl (Le.refl _) (Sub.nil _)))))), ⟨⟨rfl, rfl, rfl, rfl⟩, trivial⟩⟩, Nat.lt_succ_self n⟩
    · replace h := condF h hc1
      refine wc_exit ?_
      refine we_seq_exit ?_
      refine we_lp_exit ?_
      refine we_blk_hit ?_
      exact we_lp ⟨l66, _, h, (Sub.cons rfl (Le.refl _) (Sub.nil _)), ⟨⟨rfl, rfl, rfl, rfl⟩, trivial⟩⟩
  · rintro env1 st1 ⟨l59, ver60, h, hsub, hst⟩
    subst hk61
    dsimp only at h
    refine WC.sub hsub (WC.weak hst ?_)
    refine wc_seq ?_
    refine wc_region ?_
    refine WL.q (y_move rfl) (Wt.none rfl) rfl rfl ?_
    refine WL.q (y_assign rfl) (Wt.none rfl) rfl rfl ?_
    refine WL.nil ?_
    refine we_seq ?_
    refine wc_ret ?_
    refine WE.freezeX [7, 54, 6] [] 0 (List.map E56 l59) rfl (encA_map E56_eq l59) ⟨rfl, rfl, rfl, trivial⟩ trivial ?_
    obtain rfl := Option.some.inj h
    exact we_ret_fn (rs1 rfl (rv_t rfl)) (Le.refl _)

theorem f37_c (a0 : List (List Int)) (b1 : List (List Int)) {r : Bool} (h : f37 a0 b1 = some r) : Pu Try.prog 37 [.sl (List.map E56 a0), .sl (List.map E56 b1)] (.b r) := by
  unfold f37 at h
  refine fn_intro Try.func37 (by kernel_rfl) rfl rfl rfl (fun φφ ww => ?_)
  refine wc_seq ?_
  refine wc_region ?_
  refine WL.q (y_assign rfl) (Wt.none rfl) rfl rfl ?_
  refine WL.nil ?_
  refine we_seq ?_
  refine wc_seq ?_
  refine wc_seq ?_
  refine wc_region ?_
  refine WL.q (y_move rfl) (Wt.none rfl) rfl rfl ?_
  refine WL.q (y_len_map E56 a0 e37 rfl rfl (Le.refl _)) (Wt.none rfl) rfl rfl ?_
  refine WL.q (y_move rfl) (Wt.none rfl) rfl rfl ?_
  refine WL.q (y_len_map E56 b1 e37 rfl rfl (Le.refl _)) (Wt.none rfl) rfl rfl ?_
  refine WL.q (y_neq rfl rfl) (Wt.none rfl) rfl rfl ?_
  refine WL.nil ?_
  refine we_seq ?_
  refine wc_cond rfl (fun hc1 => ?_) (fun hc1 => ?_)
  · replace h := condT h hc1
    refine wc_seq ?_
    refine wc_region ?_
    refine WL.q (y_assign rfl) (Wt.none rfl) rfl rfl ?_
    refine WL.nil ?_
    refine we_seq ?_
    refine wc_ret ?_
    refine we_seq_ret ?_
    obtain rfl := Option.some.inj h
    exact we_ret_fn (rs1 rfl (rv_t rfl)) (Le.refl _)
  · replace h := condF h hc1
    refine wc_skip ?_
    refine we_seq ?_
    replace h := letkS h
    obtain ⟨k56, hk56, h⟩ := h
    refine wc_cut (fun env' st' => k56 () = some r ∧ Sub [] env' ∧ SLe st' []) ?_ ?_
    · refine wc_seq ?_
      refine wc_region ?_
      refine WL.q (y_assign rfl) (Wt.none rfl) rfl rfl ?_
      refine WL.nil ?_
      refine we_seq ?_
      refine wc_block ?_
      refine wc_loop (fun n env' st' => ∃ (iq58 : Int), f37_l1 a0 b1 k56 n iq58 = some r ∧ Sub [(0, .d (.sl (List.map E56 a0))), (1, .d (.sl (List.map E56 b1))), (5, .d (D.i .i64 iq58))] env' ∧ SLe st' []) (fun n => n) 9223372036854775808 ⟨0, h, (Sub.cons rfl (Le.refl _) (Sub.cons rfl (Le.refl _) (Sub.cons rfl (Le.refl _) (Sub.nil _)))), trivial⟩ ?_
      rintro n env1 st1 ⟨iq58, h, hsub, hst⟩
      cases n with
      | zero => rw [f37_l1] at h; cases h
      | succ n =>
      rw [f37_l1] at h
      refine WC.sub hsub (WC.weak hst ?_)
      refine wc_seq ?_
      refine wc_seq ?_
      refine wc_region ?_
      refine WL.q (y_move rfl) (Wt.none rfl) rfl rfl ?_
      refine WL.q (y_move rfl) (Wt.none rfl) rfl rfl ?_
      refine WL.q (y_len_map E56 a0 e37 rfl rfl (Le.refl _)) (Wt.none rfl) rfl rfl ?_
      refine WL.q (y_lss rfl rfl) (Wt.none rfl) rfl rfl ?_
      refine WL.nil ?_
      refine we_seq ?_
      refine wc_cond rfl (fun hc2 => ?_) (fun hc2 => ?_)
      · replace h := condT h hc2
        refine wc_skip ?_
        refine we_seq ?_
        replace h := letkS h
        obtain ⟨k60, hk60, h⟩ := h
        refine wc_cut (fun env' st' => k60 () = some r ∧ Sub [(0, .d (.sl (List.map E56 a0))), (1, .d (.sl (List.map E56 b1))), (5, .d (D.i .i64 iq58))] env' ∧ SLe st' []) ?_ ?_
        · refine wc_block ?_
          refine wc_seq ?_
          refine wc_seq ?_
          refine wc_region_draw (by kernel_rfl) (by kernel_rfl) ?_
          refine WQ.q (Yields.quiet (y_move rfl)) (Wt.none rfl) rfl rfl ?_
          refine WQ.q (Yields.quiet (y_move rfl)) (Wt.none rfl) rfl rfl ?_
          replace h := bindS h
          obtain ⟨x61, hx61, h⟩ := h
          refine WQ.q (Yields.quiet (y_indexAddr e37 rfl (Le.refl _) rfl (idx_nonneg hx61) (idx_row E56_eq hx61) rfl)) (Wt.none rfl) rfl rfl ?_
          refine WQ.q (Yields.quiet (y_loadc rfl a56 rfl)) (Wt.none rfl) rfl rfl ?_
          refine WQ.q (Yields.quiet (y_len_map E2 x61 e56 rfl rfl (Le.refl _))) (Wt.none rfl) rfl rfl ?_
          refine WQ.q (Yields.quiet (y_move rfl)) (Wt.none rfl) rfl rfl ?_
          refine WQ.q (Yields.quiet (y_move rfl)) (Wt.none rfl) rfl rfl ?_
          replace h := bindS h
          obtain ⟨x62, hx62, h⟩ := h
          refine WQ.q (Yields.quiet (y_indexAddr e37 rfl (Le.refl _) rfl (idx_nonneg hx62) (idx_row E56_eq hx62) rfl)) (Wt.none rfl) rfl rfl ?_
          refine WQ.q (Yields.quiet (y_loadc rfl a56 rfl)) (Wt.none rfl) rfl rfl ?_
          refine WQ.q (Yields.quiet (y_len_map E2 x62 e56 rfl rfl (Le.refl _))) (Wt.none rfl) rfl rfl ?_
          refine WQ.q (Yields.quiet (y_neq rfl rfl)) (Wt.none rfl) rfl rfl ?_
          refine WQ.nil ?_
          refine we_seq ?_
          refine wc_cond rfl (fun hc3 => ?_) (fun hc3 => ?_)
          · replace h := condT h hc3
            refine wc_seq ?_
            refine wc_region ?_
            refine WL.q (y_assign rfl) (Wt.none rfl) rfl rfl ?_
            refine WL.nil ?_
            refine we_seq ?_
            refine wc_ret ?_
            refine we_seq_ret ?_
            refine we_blk_ret ?_
            refine we_lp_ret ?_
            refine we_lp_ret ?_
            refine we_blk_ret ?_
            refine we_lp_ret ?_
            obtain rfl := Option.some.inj h
            exact we_ret_fn (rs1 rfl (rv_t rfl)) (Le.refl _)
          · replace h := condF h hc3
            refine wc_skip ?_
            refine we_seq ?_
            refine wc_seq ?_
            refine wc_region ?_
            refine WL.q (y_assign rfl) (Wt.none rfl) rfl rfl ?_
            refine WL.nil ?_
            refine we_seq ?_
            refine wc_block ?_
            refine wc_loop (fun na env' st' => ∃ (k64 : Int), f37_l2 a0 b1 iq58 k60 na k64 = some r ∧ Sub [(0, .d (.sl (List.map E56 a0))), (1, .d (.sl (List.map E56 b1))), (5, .d (D.i .i64 iq58)), (6, .d (D.i .i64 k64))] env' ∧ SLe st' []) (fun n => n) 9223372036854775808 ⟨0, h, (Sub.cons rfl (Le.refl _) (Sub.cons rfl (Le.refl _) (Sub.cons rfl (Le.refl _) (Sub.cons rfl (Le.refl _) (Sub.nil _))))), trivial⟩ ?_
            rintro na env1 st1 ⟨k64, h, hsub, hst⟩
            cases na with
            | zero => rw [f37_l2] at h; cases h
            | succ na =>
            rw [f37_l2] at h
            refine WC.sub hsub (WC.weak hst ?_)
            refine wc_seq ?_
            refine wc_seq ?_
            refine wc_region ?_
            refine WL.q (y_move rfl) (Wt.none rfl) rfl rfl ?_
            refine WL.q (y_move rfl) (Wt.none rfl) rfl rfl ?_
            refine WL.q (y_move rfl) (Wt.none rfl) rfl rfl ?_
            replace h := bindS h
            obtain ⟨x66, hx66, h⟩ := h
            refine WL.q (y_indexAddr e37 rfl (Le.refl _) rfl (idx_nonneg hx66) (idx_row E56_eq hx66) rfl) (Wt.none rfl) rfl rfl ?_
            refine WL.q (y_loadc rfl a56 rfl) (Wt.none rfl) rfl rfl ?_
            refine WL.q (y_len_map E2 x66 e56 rfl rfl (Le.refl _)) (Wt.none rfl) rfl rfl ?_
            refine WL.q (y_lss rfl rfl) (Wt.none rfl) rfl rfl ?_
            refine WL.nil ?_
            refine we_seq ?_
            refine wc_cond rfl (fun hc4 => ?_) (fun hc4 => ?_)
            · replace h := condT h hc4
              refine wc_skip ?_
              refine we_seq ?_
              refine wc_seq ?_
              refine wc_block ?_
              refine wc_seq ?_
              refine wc_region_draw (by kernel_rfl) (by kernel_rfl) ?_
              refine WQ.q (Yields.quiet (y_move rfl)) (Wt.none rfl) rfl rfl ?_
              refine WQ.q (Yields.quiet (y_move rfl)) (Wt.none rfl) rfl rfl ?_
              replace h := bindS h
              obtain ⟨x67, hx67, h⟩ := h
              refine WQ.q (Yields.quiet (y_indexAddr e37 rfl (Le.refl _) rfl (idx_nonneg hx67) (idx_row E56_eq hx67) rfl)) (Wt.none rfl) rfl rfl ?_
              refine WQ.q (Yields.quiet (y_loadc rfl a56 rfl)) (Wt.none rfl) rfl rfl ?_
              refine WQ.q (Yields.quiet (y_move rfl)) (Wt.none rfl) rfl rfl ?_
              replace h := bindS h
              obtain ⟨x68, hx68, h⟩ := h
              refine WQ.q (Yields.quiet (y_indexAddr e56 rfl (Le.refl _) rfl (idx_nonneg hx68) (idx_row E2_eq hx68) rfl)) (Wt.none rfl) rfl rfl ?_
              refine WQ.q (Yields.quiet (y_loadc rfl a2 rfl)) (Wt.none rfl) rfl rfl ?_
              refine WQ.q (Yields.quiet (y_move rfl)) (Wt.none rfl) rfl rfl ?_
              refine WQ.q (Yields.quiet (y_move rfl)) (Wt.none rfl) rfl rfl ?_
              replace h := bindS h
              obtain ⟨x69, hx69, h⟩ := h
              refine WQ.q (Yields.quiet (y_indexAddr e37 rfl (Le.refl _) rfl (idx_nonneg hx69) (idx_row E56_eq hx69) rfl)) (Wt.none rfl) rfl rfl ?_
              refine WQ.q (Yields.quiet (y_loadc rfl a56 rfl)) (Wt.none rfl) rfl rfl ?_
              refine WQ.q (Yields.quiet (y_move rfl)) (Wt.none rfl) rfl rfl ?_
              replace h := bindS h
              obtain ⟨x70, hx70, h⟩ := h
              refine WQ.q (Yields.quiet (y_indexAddr e56 rfl (Le.refl _) rfl (idx_nonneg hx70) (idx_row E2_eq hx70) rfl)) (Wt.none rfl) rfl rfl ?_
              refine WQ.q (Yields.quiet (y_loadc rfl a2 rfl)) (Wt.none rfl) rfl rfl ?_
              refine WQ.q (Yields.quiet (y_neq rfl rfl)) (Wt.none rfl) rfl rfl ?_
              refine WQ.nil ?_
              refine we_seq ?_
              refine wc_cond rfl (fun hc5 => ?_) (fun hc5 => ?_)
              · replace h := condT h hc5
                refine wc_seq ?_
                refine wc_region ?_
                refine WL.q (y_assign rfl) (Wt.none rfl) rfl rfl ?_
                refine WL.nil ?_
                refine we_seq ?_
                refine wc_ret ?_
                refine we_blk_ret ?_
                refine we_seq_ret ?_
                refine we_lp_ret ?_
                refine we_blk_ret ?_
                refine we_blk_ret ?_
                refine we_lp_ret ?_
                refine we_lp_ret ?_
                refine we_blk_ret ?_
                refine we_lp_ret ?_
                obtain rfl := Option.some.inj h
                exact we_ret_fn (rs1 rfl (rv_t rfl)) (Le.refl _)
              · replace h := condF h hc5
                refine wc_skip ?_
                refine we_blk ?_
                refine we_seq ?_
                refine wc_region ?_
                refine WL.q (y_move rfl) (Wt.none rfl) rfl rfl ?_
                refine WL.q (y_add rfl rfl rfl) (Wt.none rfl) rfl rfl ?_
                refine WL.q (y_assign rfl) (Wt.none rfl) rfl rfl ?_
                refine WL.nil ?_
                exact we_lp ⟨na, ⟨(IntKind.i64.wrap (k64 + 1)), h, (Sub.cons rfl (Le.refl _) (Sub.cons rfl (Le.refl _) (Sub.cons rfl (Le.refl _) (Sub.cons rfl (Le.refl _) (Sub.nil _))))), trivial⟩, Nat.lt_succ_self na⟩
            · replace h := condF h hc4
              refine wc_exit ?_
              refine we_seq_exit ?_
              refine we_lp_exit ?_
              refine we_blk_hit ?_
              refine we_blk ?_
              exact we_lp ⟨h, (Sub.cons rfl (Le.refl _) (Sub.cons rfl (Le.refl _) (Sub.cons rfl (Le.refl _) (Sub.nil _)))), trivial⟩
        · rintro env1 st1 ⟨h, hsub, hst⟩
          subst hk60
          dsimp only at h
          refine WC.sub hsub (WC.weak hst ?_)
          refine wc_region ?_
          refine WL.q (y_move rfl) (Wt.none rfl) rfl rfl ?_
          refine WL.q (y_add rfl rfl rfl) (Wt.none rfl) rfl rfl ?_
          refine WL.q (y_assign rfl) (Wt.none rfl) rfl rfl ?_
          refine WL.nil ?_
          exact we_lp ⟨n, ⟨(IntKind.i64.wrap (iq58 + 1)), h, (Sub.cons rfl (Le.refl _) (Sub.cons rfl (Le.refl _) (Sub.cons rfl (Le.refl _) (Sub.nil _)))), trivial⟩, Nat.lt_succ_self n⟩
      · replace h := condF h hc2
        refine wc_exit ?_
        refine we_seq_exit ?_
        refine we_lp_exit ?_
        refine we_blk_hit ?_
        exact we_lp ⟨h, (Sub.nil _), trivial⟩
    · rintro env1 st1 ⟨h, hsub, hst⟩
      subst hk56
      dsimp only at h
      refine WC.sub hsub (WC.weak hst ?_)
      refine wc_seq ?_
      refine wc_region ?_
      refine WL.q (y_assign rfl) (Wt.none rfl) rfl rfl ?_
      refine WL.nil ?_
      refine we_seq ?_
      refine wc_ret ?_
      obtain rfl := Option.some.inj h
      exact we_ret_fn (rs1 rfl (rv_t rfl)) (Le.refl _)

theorem f86_c (s0 : List CE) (cb1 : CE → Option (Bool)) (g1 : FuncId) (fi1 ca1 : List D) (hcb1 : ∀ (y0 : CE) (r : Bool), cb1 y0 = some r → Pu Try.prog g1 (fi1 ++ [.ag (R26 y0)] ++ ca1) (.b r)) {r : Int} (h : f86 s0 cb1 = some r) : Pu Try.prog 86 [.sl (List.map E26 s0), .fnc (.func g1) fi1 ca1] (.i .i64 r) := by
  unfold f86 at h
  refine fn_intro Try.func86 (by kernel_rfl) rfl rfl rfl (fun φφ ww => ?_)
  refine WC.cast 1 rfl (Le.fncd _ _ _) ?_
  refine wc_seq ?_
  refine wc_region ?_
  refine WL.q (y_assign rfl) (Wt.none rfl) rfl rfl ?_
  refine WL.nil ?_
  refine we_seq ?_
  replace h := letkS h
  obtain ⟨k22, hk22, h⟩ := h
  refine wc_cut (fun env' st' => k22 () = some r ∧ Sub [] env' ∧ SLe st' []) ?_ ?_
  · refine wc_seq ?_
    refine wc_region ?_
    refine WL.q (y_move rfl) (Wt.none rfl) rfl rfl ?_
    refine WL.q (y_len_map E26 s0 e24 rfl rfl (Le.refl _)) (Wt.none rfl) rfl rfl ?_
    refine WL.q (y_move rfl) (Wt.none rfl) rfl rfl ?_
    refine WL.nil ?_
    refine we_seq ?_
    refine wc_block ?_
    refine wc_loop (fun n env' st' => ∃ (t24 : Int), f86_l1 s0 cb1 k22 n t24 = some r ∧ Sub [(0, .d (.sl (List.map E26 s0))), (1, .fn (.func g1) (List.map AV.d fi1) (List.map AV.d ca1)), (7, .d (D.i .i64 (List.length s0 : Int))), (8, .d (D.i .i64 t24))] env' ∧ SLe st' []) (fun n => n) (Int.toNat ((List.length s0 : Int) - 0) + 1) ⟨0, h, (Sub.cons rfl (Le.refl _) (Sub.cons rfl (Le.refl _) (Sub.cons rfl (Le.refl _) (Sub.cons rfl (Le.refl _) (Sub.nil _))))), trivial⟩ ?_
    rintro n env1 st1 ⟨t24, h, hsub, hst⟩
    cases n with
    | zero => rw [f86_l1] at h; cases h
    | succ n =>
    rw [f86_l1] at h
    refine WC.sub hsub (WC.weak hst ?_)
    refine wc_seq ?_
    refine wc_region ?_
    refine WL.q (y_lss rfl rfl) (Wt.none rfl) rfl rfl ?_
    refine WL.nil ?_
    refine we_seq ?_
    refine wc_seq ?_
    refine wc_cond rfl (fun hc1 => ?_) (fun hc1 => ?_)
    · replace h := condT h hc1
      refine wc_skip ?_
      refine we_seq ?_
      refine wc_seq ?_
      refine wc_block ?_
      refine wc_seq ?_
      refine wc_region ?_
      refine WL.q (y_move rfl) (Wt.none rfl) rfl rfl ?_
      refine WL.q (y_assign rfl) (Wt.none rfl) rfl rfl ?_
      refine WL.nil ?_
      refine we_seq ?_
      refine wc_seq ?_
      refine wc_region ?_
      refine WL.q (y_move rfl) (Wt.none rfl) rfl rfl ?_
      refine WL.q (y_move rfl) (Wt.none rfl) rfl rfl ?_
      refine WL.q (y_move rfl) (Wt.none rfl) rfl rfl ?_
      replace h := bindS h
      obtain ⟨x26, hx26, h⟩ := h
      refine WL.q (y_indexAddr e24 rfl (Le.refl _) rfl (idx_nonneg hx26) (idx_row E26_eq hx26) rfl) (Wt.none rfl) rfl rfl ?_
      refine WL.q (y_loadcN rfl a26 s26 rfl) (Wt.none rfl) rfl rfl ?_
      replace h := bindS h
      obtain ⟨r27, hr27, h⟩ := h
      refine WL.fn rfl rfl rfl rfl (hcb1 _ _ hr27) (Les.mid ⟨(Le.refl _), trivial⟩) (Wt.none rfl) rfl rfl ?_
      refine WL.nil ?_
      refine we_seq ?_
      refine wc_cond rfl (fun hc2 => ?_) (fun hc2 => ?_)
      · replace h := condT h hc2
        refine wc_seq ?_
        refine wc_region ?_
        refine WL.q (y_move rfl) (Wt.none rfl) rfl rfl ?_
        refine WL.q (y_assign rfl) (Wt.none rfl) rfl rfl ?_
        refine WL.nil ?_
        refine we_seq ?_
        refine wc_ret ?_
        refine we_blk_ret ?_
        refine we_seq_ret ?_
        refine we_lp_ret ?_
        refine we_blk_ret ?_
        refine we_lp_ret ?_
        obtain rfl := Option.some.inj h
        exact we_ret_fn (rs1 rfl (rv_t rfl)) (Le.refl _)
      · replace h := condF h hc2
        refine wc_skip ?_
        refine we_blk ?_
        refine we_seq ?_
        refine wc_region ?_
        refine WL.q (y_add rfl rfl rfl) (Wt.none rfl) rfl rfl ?_
        refine WL.q (y_move rfl) (Wt.none rfl) rfl rfl ?_
        refine WL.nil ?_
        exact we_lp ⟨n, ⟨(IntKind.i64.wrap (t24 + 1)), h, (Sub.cons rfl (Le.refl _) (Sub.cons rfl (Le.refl _) (Sub.cons rfl (Le.refl _) (Sub.cons rfl (Le.refl _) (Sub.nil _))))), trivial⟩, Nat.lt_succ_self n⟩
    · replace h := condF h hc1
      refine wc_exit ?_
      refine we_seq_exit ?_
      refine we_lp_exit ?_
      refine we_blk_hit ?_
      exact we_lp ⟨h, (Sub.nil _), trivial⟩
  · rintro env1 st1 ⟨h, hsub, hst⟩
    subst hk22
    dsimp only at h
    refine WC.sub hsub (WC.weak hst ?_)
    refine wc_seq ?_
    refine wc_region ?_
    refine WL.q (y_assign rfl) (Wt.none rfl) rfl rfl ?_
    refine WL.nil ?_
    refine we_seq ?_
    refine wc_ret ?_
    obtain rfl := Option.some.inj h
    exact we_ret_fn (rs1 rfl (rv_t rfl)) (Le.refl _)

theorem f58_c (s0 : List CE) (cb1 : CE → Option (Bool)) (g1 : FuncId) (fi1 ca1 : List D) (hcb1 : ∀ (y0 : CE) (r : Bool), cb1 y0 = some r → Pu Try.prog g1 (fi1 ++ [.ag (R26 y0)] ++ ca1) (.b r)) {r : Bool} (h : f58 s0 cb1 = some r) : Pu Try.prog 58 [.sl (List.map E26 s0), .fnc (.func g1) fi1 ca1] (.b r) := by
  unfold f58 at h
  refine fn_intro Try.func58 (by kernel_rfl) rfl rfl rfl (fun φφ ww => ?_)
  refine WC.cast 1 rfl (Le.fncd _ _ _) ?_
  refine wc_seq ?_
  refine wc_region ?_
  refine WL.q (y_assign rfl) (Wt.none rfl) rfl rfl ?_
  refine WL.nil ?_
  refine we_seq ?_
  refine wc_seq ?_
  refine wc_region ?_
  refine WL.q (y_move rfl) (Wt.none rfl) rfl rfl ?_
  refine WL.q (y_move rfl) (Wt.none rfl) rfl rfl ?_
  replace h := bindS h
  obtain ⟨r12, hr12, h⟩ := h
  refine WL.fn rfl rfl rfl rfl (f86_c _ _ g1 fi1 ca1 hcb1 hr12) ⟨(Le.refl _), (Le.fnc (Les.refl _) (Les.refl _)), trivial⟩ (Wt.none rfl) rfl rfl ?_
  refine WL.q (y_geq rfl rfl) (Wt.none rfl) rfl rfl ?_
  refine WL.q (y_assign rfl) (Wt.none rfl) rfl rfl ?_
  refine WL.nil ?_
  refine we_seq ?_
  refine wc_ret ?_
  obtain rfl := Option.some.inj h
  exact we_ret_fn (rs1 rfl (rv_t rfl)) (Le.refl _)

theorem f85_c (s0 : List (List Int)) (cb1 : (List Int) → Option (Bool)) (g1 : FuncId) (fi1 ca1 : List D) (hcb1 : ∀ (y0 : List Int) (r : Bool), cb1 y0 = some r → Pu Try.prog g1 (fi1 ++ [.sl (List.map E2 y0)] ++ ca1) (.b r)) {r : Int} (h : f85 s0 cb1 = some r) : Pu Try.prog 85 [.sl (List.map E56 s0), .fnc (.func g1) fi1 ca1] (.i .i64 r) := by
  unfold f85 at h
  refine fn_intro Try.func85 (by kernel_rfl) rfl rfl rfl (fun φφ ww => ?_)
  refine WC.cast 1 rfl (Le.fncd _ _ _) ?_
  refine wc_seq ?_
  refine wc_region ?_
  refine WL.q (y_assign rfl) (Wt.none rfl) rfl rfl ?_
  refine WL.nil ?_
  refine we_seq ?_
  replace h := letkS h
  obtain ⟨k22, hk22, h⟩ := h
  refine wc_cut (fun env' st' => k22 () = some r ∧ Sub [] env' ∧ SLe st' []) ?_ ?_
  · refine wc_seq ?_
    refine wc_region ?_
    refine WL.q (y_move rfl) (Wt.none rfl) rfl rfl ?_
    refine WL.q (y_len_map E56 s0 e37 rfl rfl (Le.refl _)) (Wt.none rfl) rfl rfl ?_
    refine WL.q (y_move rfl) (Wt.none rfl) rfl rfl ?_
    refine WL.nil ?_
    refine we_seq ?_
    refine wc_block ?_
    refine wc_loop (fun n env' st' => ∃ (t24 : Int), f85_l1 s0 cb1 k22 n t24 = some r ∧ Sub [(0, .d (.sl (List.map E56 s0))), (1, .fn (.func g1) (List.map AV.d fi1) (List.map AV.d ca1)), (7, .d (D.i .i64 (List.length s0 : Int))), (8, .d (D.i .i64 t24))] env' ∧ SLe st' []) (fun n => n) (Int.toNat ((List.length s0 : Int) - 0) + 1) ⟨0, h, (Sub.cons rfl (Le.refl _) (Sub.cons rfl (Le.refl _) (Sub.cons rfl (Le.refl _) (Sub.cons rfl (Le.refl _) (Sub.nil _))))), trivial⟩ ?_
    rintro n env1 st1 ⟨t24, h, hsub, hst⟩
    cases n with
    | zero => rw [f85_l1] at h; cases h
    | succ n =>
    rw [f85_l1] at h
    refine WC.sub hsub (WC.weak hst ?_)
    refine wc_seq ?_
    refine wc_region ?_
    refine WL.q (y_lss rfl rfl) (Wt.none rfl) rfl rfl ?_
    refine WL.nil ?_
    refine we_seq ?_
    refine wc_seq ?_
    refine wc_cond rfl (fun hc1 => ?_) (fun hc1 => ?_)
    · replace h := condT h hc1
      refine wc_skip ?_
      refine we_seq ?_
      refine wc_seq ?_
      refine wc_block ?_
      refine wc_seq ?_
      refine wc_region ?_
      refine WL.q (y_move rfl) (Wt.none rfl) rfl rfl ?_
      refine WL.q (y_assign rfl) (Wt.none rfl) rfl rfl ?_
      refine WL.nil ?_
      refine we_seq ?_
      refine wc_seq ?_
      refine wc_region ?_
      refine WL.q (y_move rfl) (Wt.none rfl) rfl rfl ?_
      refine WL.q (y_move rfl) (Wt.none rfl) rfl rfl ?_
      refine WL.q (y_move rfl) (Wt.none rfl) rfl rfl ?_
      replace h := bindS h
      obtain ⟨x26, hx26, h⟩ := h
      refine WL.q (y_indexAddr e37 rfl (Le.refl _) rfl (idx_nonneg hx26) (idx_row E56_eq hx26) rfl) (Wt.none rfl) rfl rfl ?_
      refine WL.q (y_loadc rfl a56 rfl) (Wt.none rfl) rfl rfl ?_
      replace h := bindS h
      obtain ⟨r27, hr27, h⟩ := h
      refine WL.fn rfl rfl rfl rfl (hcb1 _ _ hr27) (Les.mid ⟨(Le.refl _), trivial⟩) (Wt.none rfl) rfl rfl ?_
      refine WL.nil ?_
      refine we_seq ?_
      refine wc_cond rfl (fun hc2 => ?_) (fun hc2 => ?_)
      · replace h := condT h hc2
        refine wc_seq ?_
        refine wc_region ?_
        refine WL.q (y_move rfl) (Wt.none rfl) rfl rfl ?_
        refine WL.q (y_assign rfl) (Wt.none rfl) rfl rfl ?_
        refine WL.nil ?_
        refine we_seq ?_
        refine wc_ret ?_
        refine we_blk_ret ?_
        refine we_seq_ret ?_
        refine we_lp_ret ?_
        refine we_blk_ret ?_
        refine we_lp_ret ?_
        obtain rfl := Option.some.inj h
        exact we_ret_fn (rs1 rfl (rv_t rfl)) (Le.refl _)
      · replace h := condF h hc2
        refine wc_skip ?_
        refine we_blk ?_
        refine we_seq ?_
        refine wc_region ?_
        refine WL.q (y_add rfl rfl rfl) (Wt.none rfl) rfl rfl ?_
        refine WL.q (y_move rfl) (Wt.none rfl) rfl rfl ?_
        refine WL.nil ?_
        exact we_lp ⟨n, ⟨(IntKind.i64.wrap (t24 + 1)), h, (Sub.cons rfl (Le.refl _) (Sub.cons rfl (Le.refl _) (Sub.cons rfl (Le.refl _) (Sub.cons rfl (Le.refl _) (Sub.nil _))))), trivial⟩, Nat.lt_succ_self n⟩
    · replace h := condF h hc1
      refine wc_exit ?_
      refine we_seq_exit ?_
      refine we_lp_exit ?_
      refine we_blk_hit ?_
      exact we_lp ⟨h, (Sub.nil _), trivial⟩
  · rintro env1 st1 ⟨h, hsub, hst⟩
    subst hk22
    dsimp only at h
    refine WC.sub hsub (WC.weak hst ?_)
    refine wc_seq ?_
    refine wc_region ?_
    refine WL.q (y_assign rfl) (Wt.none rfl) rfl rfl ?_
    refine WL.nil ?_
    refine we_seq ?_
    refine wc_ret ?_
    obtain rfl := Option.some.inj h
    exact we_ret_fn (rs1 rfl (rv_t rfl)) (Le.refl _)

theorem f57_c (l0 : List Int) : Pu Try.prog 57 [.sl (List.map E2 l0)] (.b (f57 l0)) := by
  generalize h : f57 l0 = r
  unfold f57 at h
  refine fn_intro Try.func57 (by kernel_rfl) rfl rfl rfl (fun φφ ww => ?_)
  refine wc_seq ?_
  refine wc_region ?_
  refine WL.q (y_assign rfl) (Wt.none rfl) rfl rfl ?_
  refine WL.nil ?_
  refine we_seq ?_
  refine wc_seq ?_
  refine wc_region ?_
  refine WL.q (y_move rfl) (Wt.none rfl) rfl rfl ?_
  refine WL.q (y_len_map E2 l0 e56 rfl rfl (Le.refl _)) (Wt.none rfl) rfl rfl ?_
  refine WL.q (y_gtr rfl rfl) (Wt.none rfl) rfl rfl ?_
  refine WL.q (y_assign rfl) (Wt.none rfl) rfl rfl ?_
  refine WL.nil ?_
  refine we_seq ?_
  refine wc_ret ?_
  subst h
  exact we_ret_fn (rs1 rfl (rv_t rfl)) (Le.refl _)

theorem f56_c (s0 : List (List Int)) (cb1 : (List Int) → Option (Bool)) (g1 : FuncId) (fi1 ca1 : List D) (hcb1 : ∀ (y0 : List Int) (r : Bool), cb1 y0 = some r → Pu Try.prog g1 (fi1 ++ [.sl (List.map E2 y0)] ++ ca1) (.b r)) {r : Bool} (h : f56 s0 cb1 = some r) : Pu Try.prog 56 [.sl (List.map E56 s0), .fnc (.func g1) fi1 ca1] (.b r) := by
  unfold f56 at h
  refine fn_intro Try.func56 (by kernel_rfl) rfl rfl rfl (fun φφ ww => ?_)
  refine WC.cast 1 rfl (Le.fncd _ _ _) ?_
  refine wc_seq ?_
  refine wc_region ?_
  refine WL.q (y_assign rfl) (Wt.none rfl) rfl rfl ?_
  refine WL.nil ?_
  refine we_seq ?_
  refine wc_seq ?_
  refine wc_region ?_
  refine WL.q (y_move rfl) (Wt.none rfl) rfl rfl ?_
  refine WL.q (y_move rfl) (Wt.none rfl) rfl rfl ?_
  replace h := bindS h
  obtain ⟨r12, hr12, h⟩ := h
  refine WL.fn rfl rfl rfl rfl (f85_c _ _ g1 fi1 ca1 hcb1 hr12) ⟨(Le.refl _), (Le.fnc (Les.refl _) (Les.refl _)), trivial⟩ (Wt.none rfl) rfl rfl ?_
  refine WL.q (y_geq rfl rfl) (Wt.none rfl) rfl rfl ?_
  refine WL.q (y_assign rfl) (Wt.none rfl) rfl rfl ?_
  refine WL.nil ?_
  refine we_seq ?_
  refine wc_ret ?_
  obtain rfl := Option.some.inj h
  exact we_ret_fn (rs1 rfl (rv_t rfl)) (Le.refl _)

theorem f31_c (s0 : List (List Int)) {r : Bool} (h : f31 s0 = some r) : Pu Try.prog 31 [.sl (List.map E56 s0)] (.b r) := by
  unfold f31 at h
  refine fn_intro Try.func31 (by kernel_rfl) rfl rfl rfl (fun φφ ww => ?_)
  refine wc_seq ?_
  refine wc_region ?_
  refine WL.q (y_assign rfl) (Wt.none rfl) rfl rfl ?_
  refine WL.nil ?_
  refine we_seq ?_
  refine wc_seq ?_
  refine wc_region ?_
  refine WL.q (y_move rfl) (Wt.none rfl) rfl rfl ?_
  refine WL.q (y_len_map E56 s0 e37 rfl rfl (Le.refl _)) (Wt.none rfl) rfl rfl ?_
  refine WL.q (y_gtr rfl rfl) (Wt.none rfl) rfl rfl ?_
  refine WL.q (y_move rfl) (Wt.none rfl) rfl rfl ?_
  replace h := bindS h
  obtain ⟨b12, hb12, h⟩ := h
  apply WL.grp 3 (t := 6) (d := 9) (z := b12)
  · exact rfl
  · intro hg6
    have h := condT hb12 hg6
    refine WL.skips 2 rfl ?_
    refine WL.q (y_pick_t rfl rfl) (Wt.none rfl) rfl rfl ?_
    obtain rfl := Option.some.inj h
    exact WL.nil ⟨rfl, [_, _, _], rfl, rfl, rfl⟩
  · intro hg6
    have h := condF hb12 hg6
    refine WL.q (y_move rfl) (Wt.yes rfl rfl rfl) rfl rfl ?_
    replace h := bindS h
    obtain ⟨r13, hr13, h⟩ := h
    refine WL.fn rfl rfl rfl rfl (f56_c _ _ 57 [] [] (fun z0 _ h => by obtain rfl := Option.some.inj h; exact f57_c z0) hr13) ⟨(Le.refl _), (Le.fnc trivial trivial), trivial⟩ (Wt.yes rfl rfl rfl) rfl rfl ?_
    refine WL.q (y_pick_f rfl rfl) (Wt.none rfl) rfl rfl ?_
    obtain rfl := Option.some.inj h
    exact WL.nil ⟨rfl, [_, _, _], rfl, rfl, rfl⟩
  refine WL.q (y_assign rfl) (Wt.none rfl) rfl rfl ?_
  refine WL.nil ?_
  refine we_seq ?_
  refine wc_ret ?_
  obtain rfl := Option.some.inj h
  exact we_ret_fn (rs1 rfl (rv_t rfl)) (Le.refl _)

theorem f32s_c (rec32 : CE → Option (Bool)) (e0 : CE) (hrec32 : ∀ (x0 : CE) (r : Bool), rec32 x0 = some r → Pu Try.prog 32 [.ag (R26 x0)] (.b r)) {r : Bool} (h : f32s rec32 e0 = some r) : Pu Try.prog 32 [.ag (R26 e0)] (.b r) := by
  unfold f32s at h
  refine fn_intro Try.func32 (by kernel_rfl) rfl rfl rfl (fun φφ ww => ?_)
  refine wc_seq ?_
  refine wc_region ?_
  refine WL.s ((b_boxd rfl rfl (Les.refl _)).does) (Wt.none rfl) rfl rfl ?_
  refine WL.q (y_assign rfl) (Wt.none rfl) rfl rfl ?_
  refine WL.nil ?_
  refine we_seq ?_
  refine wc_seq ?_
  refine wc_region ?_
  refine WL.q (y_fieldAddrc f26_0 rfl) (Wt.none rfl) rfl rfl ?_
  refine WL.q (y_loadc rfl a22 rfl) (Wt.none rfl) rfl rfl ?_
  refine WL.q (y_eql rfl rfl) (Wt.none rfl) rfl rfl ?_
  refine WL.q (y_move rfl) (Wt.none rfl) rfl rfl ?_
  replace h := bindS h
  obtain ⟨b13, hb13, h⟩ := h
  apply WL.grp 4 (t := 6) (d := 10) (z := b13)
  · exact rfl
  · intro hg6
    have h := condT hb13 hg6
    refine WL.skips 3 rfl ?_
    refine WL.q (y_pick_t rfl rfl) (Wt.none rfl) rfl rfl ?_
    obtain rfl := Option.some.inj h
    exact WL.nil ⟨rfl, [_, _, _, _], rfl, rfl, rfl⟩
  · intro hg6
    have h := condF hb13 hg6
    refine WL.q (y_fieldAddrc f26_8 rfl) (Wt.yes rfl rfl rfl) rfl rfl ?_
    refine WL.q (y_loadc rfl a24 rfl) (Wt.yes rfl rfl rfl) rfl rfl ?_
    replace h := bindS h
    obtain ⟨r14, hr14, h⟩ := h
    refine WL.fn rfl rfl rfl rfl (f58_c _ _ 32 [] [] hrec32 hr14) ⟨(Le.refl _), (Le.fnc trivial trivial), trivial⟩ (Wt.yes rfl rfl rfl) rfl rfl ?_
    refine WL.q (y_pick_f rfl rfl) (Wt.none rfl) rfl rfl ?_
    obtain rfl := Option.some.inj h
    exact WL.nil ⟨rfl, [_, _, _, _], rfl, rfl, rfl⟩
  refine WL.q (y_assign rfl) (Wt.none rfl) rfl rfl ?_
  refine WL.nil ?_
  refine we_seq ?_
  refine wc_ret ?_
  obtain rfl := Option.some.inj h
  exact we_ret_fn (rs1 rfl (rv_t rfl)) (Le.refl _)

theorem f32_c : ∀ (n : Nat) (x0 : CE) {r : Bool}, f32 n x0 = some r → Pu Try.prog 32 [.ag (R26 x0)] (.b r)
  | 0, _, _, h => by cases h
  | n + 1, x0, _, h => f32s_c (f32 n) x0 (fun x0 _ h => f32_c n x0 h) h

theorem f50s_c (rec50 : CE → Option (List Int)) (e0 : CE) (hrec50 : ∀ (x0 : CE) (r : List Int), rec50 x0 = some r → Pu Try.prog 50 [.ag (R26 x0)] (.sl (List.map E3 r))) {r : List Int} (h : f50s rec50 e0 = some r) : Pu Try.prog 50 [.ag (R26 e0)] (.sl (List.map E3 r)) := by
  unfold f50s at h
  refine fn_intro Try.func50 (by kernel_rfl) rfl rfl rfl (fun φφ ww => ?_)
  refine wc_seq ?_
  refine wc_region ?_
  refine WL.s ((b_boxd rfl rfl (Les.refl _)).does) (Wt.none rfl) rfl rfl ?_
  refine WL.q (y_assign rfl) (Wt.none rfl) rfl rfl ?_
  refine WL.nil ?_
  refine we_seq ?_
  refine wc_seq ?_
  refine wc_region ?_
  refine WL.q (y_assign rfl) (Wt.none rfl) rfl rfl ?_
  refine WL.nil_os 3 3 1 rfl ?_
  refine WL.nil ?_
  refine we_seq ?_
  replace h := letkS h
  obtain ⟨k38, hk38, h⟩ := h
  refine wc_cut (fun env' st' => ∃ (l36 : List Int), ∃ (ver37 : Nat), k38 l36 = some r ∧ Sub [(1, .d (.pc (R26 e0))), (3, .os 0 ver37)] env' ∧ SLe st' [.os 3 1 ver37 (List.map (encA E3) l36)]) ?_ ?_
  · refine wc_seq ?_
    refine wc_region ?_
    refine WL.q (y_fieldAddrc f26_0 rfl) (Wt.none rfl) rfl rfl ?_
    refine WL.q (y_loadc rfl a22 rfl) (Wt.none rfl) rfl rfl ?_
    refine WL.q (y_eql rfl rfl) (Wt.none rfl) rfl rfl ?_
    refine WL.q (y_move rfl) (Wt.none rfl) rfl rfl ?_
    apply WL.or 4 (t := 8) (d := 12)
    · exact rfl
    · intro hg8
      refine WL.q (y_fieldAddrc f26_0 rfl) (Wt.yes rfl rfl rfl) rfl rfl ?_
      refine WL.q (y_loadc rfl a22 rfl) (Wt.yes rfl rfl rfl) rfl rfl ?_
      refine WL.q (y_eql rfl rfl) (Wt.yes rfl rfl rfl) rfl rfl ?_
      refine WL.q (y_pick_f rfl rfl) (Wt.none rfl) rfl rfl ?_
      exact WL.nil ⟨rfl, [_, _, _, _], rfl, rfl, rfl⟩
    · refine WL.skips 3 rfl ?_
      refine WL.q (y_pick_t rfl rfl) (Wt.none rfl) rfl rfl ?_
      exact WL.nil ⟨rfl, [_, _, _, _], rfl, rfl, rfl⟩
    refine WL.nil ?_
    refine we_seq ?_
    refine wc_cond rfl (fun hc1 => ?_) (fun hc1 => ?_)
    · replace h := condT h hc1
      refine wc_region ?_
      refine WL.q (y_move rfl) (Wt.none rfl) rfl rfl ?_
      refine WL.q (y_fieldAddrc f26_3 rfl) (Wt.none rfl) rfl rfl ?_
      refine WL.q (y_loadc rfl a3 rfl) (Wt.none rfl) rfl rfl ?_
      refine WL.s ((NewOs.b (n_buildSlice l33 z3 rfl (by decide) (by decide) rfl rfl rfl (by decide))).does) (Wt.none rfl) rfl rfl ?_
      replace h := guardBS h
      obtain ⟨hgg39, h⟩ := h
      refine WL.s (d_appendL E3 [] [e0.o] l33 z3 rfl (by decide) rfl rfl rfl rfl (Src.own rfl) (fun _ => rfl) (fun _ => rfl) hgg39) (Wt.none rfl) rfl rfl ?_
      refine WL.q (y_assign rfl) (Wt.none rfl) rfl rfl ?_
      refine WL.nil ?_
      refine WE.drop 1 (env' := [(1, .d (.pc (R26 e0))), (3, .os 0 1)]) (Sub.one rfl (Sub.one rfl (Sub.nil _))) rfl (stLt_cons (lt_os _ _ _ _ _ _) rfl) (Nat.zero_le _) ?_
      exact we_lp ⟨([] ++ [e0.o]), _, h, (Sub.cons rfl (Le.refl _) (Sub.cons rfl (Le.refl _) (Sub.nil _))), ⟨⟨rfl, rfl, rfl, rfl⟩, trivial⟩⟩
    · replace h := condF h hc1
      refine wc_skip ?_
      exact we_lp ⟨[], _, h, (Sub.cons rfl (Le.refl _) (Sub.cons rfl (Le.refl _) (Sub.nil _))), ⟨⟨rfl, rfl, rfl, rfl⟩, trivial⟩⟩
  · rintro env1 st1 ⟨l36, ver37, h, hsub, hst⟩
    subst hk38
    dsimp only at h
    refine WC.sub hsub (WC.weak hst ?_)
    replace h := letkS h
    obtain ⟨k42, hk42, h⟩ := h
    refine wc_cut (fun env' st' => ∃ (l40 : List Int), ∃ (ver41 : Nat), k42 l40 = some r ∧ Sub [(3, .os 0 ver41)] env' ∧ SLe st' [.os 3 1 ver41 (List.map (encA E3) l40)]) ?_ ?_
    · refine wc_seq ?_
      refine wc_region ?_
      refine WL.q (y_assign rfl) (Wt.none rfl) rfl rfl ?_
      refine WL.nil ?_
      refine we_seq ?_
      refine wc_block ?_
      refine wc_loop (fun n env' st' => ∃ (iq46 : Int), ∃ (l47 : List Int), ∃ (ver48 : Nat), f50s_l1 rec50 e0 k42 n iq46 l47 = some r ∧ Sub [(1, .d (.pc (R26 e0))), (3, .os 0 ver48), (4, .d (D.i .i64 iq46))] env' ∧ SLe st' [.os 3 1 ver48 (List.map (encA E3) l47)]) (fun n => n) 9223372036854775808 ⟨0, l36, _, h, (Sub.cons rfl (Le.refl _) (Sub.cons rfl (Le.refl _) (Sub.cons rfl (Le.refl _) (Sub.nil _)))), ⟨⟨rfl, rfl, rfl, rfl⟩, trivial⟩⟩ ?_
      rintro n env1 st1 ⟨iq46, l47, ver48, h, hsub, hst⟩
      cases n with
      | zero => rw [f50s_l1] at h; cases h
      | succ n =>
      rw [f50s_l1] at h
      refine WC.sub hsub (WC.weak hst ?_)
      refine wc_seq ?_
      refine wc_seq ?_
      refine wc_region ?_
      refine WL.q (y_move rfl) (Wt.none rfl) rfl rfl ?_
      refine WL.q (y_fieldAddrc f26_8 rfl) (Wt.none rfl) rfl rfl ?_
      refine WL.q (y_loadc rfl a24 rfl) (Wt.none rfl) rfl rfl ?_
      refine WL.q (y_len_map E26 e0.l e24 rfl rfl (Le.refl _)) (Wt.none rfl) rfl rfl ?_
      refine WL.q (y_lss rfl rfl) (Wt.none rfl) rfl rfl ?_
      refine WL.nil ?_
      refine we_seq ?_
      refine wc_cond rfl (fun hc2 => ?_) (fun hc2 => ?_)
      · replace h := condT h hc2
        refine wc_skip ?_
        refine we_seq ?_
        refine wc_seq ?_
        refine wc_block ?_
        refine wc_region ?_
        refine WL.q (y_move rfl) (Wt.none rfl) rfl rfl ?_
        refine WL.q (y_fieldAddrc f26_8 rfl) (Wt.none rfl) rfl rfl ?_
        refine WL.q (y_loadc rfl a24 rfl) (Wt.none rfl) rfl rfl ?_
        refine WL.q (y_move rfl) (Wt.none rfl) rfl rfl ?_
        replace h := bindS h
        obtain ⟨x52, hx52, h⟩ := h
        refine WL.q (y_indexAddr e24 rfl (Le.refl _) rfl (idx_nonneg hx52) (idx_row E26_eq hx52) rfl) (Wt.none rfl) rfl rfl ?_
        refine WL.q (y_loadcN rfl a26 s26 rfl) (Wt.none rfl) rfl rfl ?_
        replace h := bindS h
        obtain ⟨r53, hr53, h⟩ := h
        refine WL.fn rfl rfl rfl rfl (hrec50 _ _ hr53) ⟨(Le.refl _), trivial⟩ (Wt.none rfl) rfl rfl ?_
        replace h := guardBS h
        obtain ⟨hgg54, h⟩ := h
        refine WL.s (d_appendL E3 l47 r53 l33 z3 rfl (by decide) rfl rfl rfl rfl (Src.dataL (Le.refl _) E3_eq (fun _ => rfl)) (fun _ => rfl) (fun _ => rfl) hgg54) (Wt.none rfl) rfl rfl ?_
        refine WL.q (y_assign rfl) (Wt.none rfl) rfl rfl ?_
        refine WL.nil ?_
        refine we_blk ?_
        refine we_seq ?_
        refine wc_region ?_
        refine WL.q (y_move rfl) (Wt.none rfl) rfl rfl ?_
        refine WL.q (y_add rfl rfl rfl) (Wt.none rfl) rfl rfl ?_
        refine WL.q (y_assign rfl) (Wt.none rfl) rfl rfl ?_
        refine WL.nil ?_
        exact we_lp ⟨n, ⟨(IntKind.i64.wrap (iq46 + 1)), (l47 ++ r53), _, h, (Sub.cons rfl (Le.refl _) (Sub.cons rfl (Le.refl _) (Sub.cons rfl (Le.refl _) (Sub.nil _)))), ⟨⟨rfl, rfl, rfl, rfl⟩, trivial⟩⟩, Nat.lt_succ_self n⟩
      · replace h := condF h hc2
        refine wc_exit ?_
        refine we_seq_exit ?_
        refine we_lp_exit ?_
        refine we_blk_hit ?_
        exact we_lp ⟨l47, _, h, (Sub.cons rfl (Le.refl _) (Sub.nil _)), ⟨⟨rfl, rfl, rfl, rfl⟩, trivial⟩⟩
    · rintro env1 st1 ⟨l40, ver41, h, hsub, hst⟩
      subst hk42
      dsimp only at h
      refine WC.sub hsub (WC.weak hst ?_)
      refine wc_seq ?_
      refine wc_region ?_
      refine WL.q (y_move rfl) (Wt.none rfl) rfl rfl ?_
      refine WL.q (y_assign rfl) (Wt.none rfl) rfl rfl ?_
      refine WL.nil ?_
      refine we_seq ?_
      refine wc_ret ?_
      refine WE.freezeX [3, 33, 2] [] 0 (List.map E3 l40) rfl (encA_map E3_eq l40) ⟨rfl, rfl, rfl, trivial⟩ trivial ?_
      obtain rfl := Option.some.inj h
      exact we_ret_fn (rs1 rfl (rv_t rfl)) (Le.refl _)

theorem f50_c : ∀ (n : Nat) (x0 : CE) {r : List Int}, f50 n x0 = some r → Pu Try.prog 50 [.ag (R26 x0)] (.sl (List.map E3 r))
  | 0, _, _, h => by cases h
  | n + 1, x0, _, h => f50s_c (f50 n) x0 (fun x0 _ h => f50_c n x0 h) h

theorem f19_c (e0 : CE) {r : List Int} (h : f19 e0 = some r) : Pu Try.prog 19 [.ag (R26 e0)] (.sl (List.map E3 r)) := by
  unfold f19 at h
  refine fn_intro Try.func19 (by kernel_rfl) rfl rfl rfl (fun φφ ww => ?_)
  refine wc_seq ?_
  refine wc_region ?_
  refine WL.s ((b_boxd rfl rfl (Les.refl _)).does) (Wt.none rfl) rfl rfl ?_
  refine WL.q (y_assign rfl) (Wt.none rfl) rfl rfl ?_
  refine WL.nil ?_
  refine we_seq ?_
  refine wc_seq ?_
  refine wc_seq ?_
  refine wc_region ?_
  refine WL.q (y_loadcN rfl a26 s26 rfl) (Wt.none rfl) rfl rfl ?_
  replace h := bindS h
  obtain ⟨r35, hr35, h⟩ := h
  refine WL.fn rfl rfl rfl rfl (f14_c _ _ hr35) ⟨(Le.refl _), (Le.refl _), trivial⟩ (Wt.none rfl) rfl rfl ?_
  refine WL.q (y_not rfl) (Wt.none rfl) rfl rfl ?_
  refine WL.nil ?_
  refine we_seq ?_
  refine wc_cond rfl (fun hc1 => ?_) (fun hc1 => ?_)
  · replace h := condT h hc1
    refine wc_seq ?_
    refine wc_region ?_
    refine WL.q (y_assign rfl) (Wt.none rfl) rfl rfl ?_
    refine WL.nil ?_
    refine we_seq ?_
    refine wc_ret ?_
    refine we_seq_ret ?_
    obtain rfl := Option.some.inj h
    exact we_ret_fn (rs1 rfl (rv_t rfl)) Le.nil
  · replace h := condF h hc1
    refine wc_skip ?_
    refine we_seq ?_
    refine wc_seq ?_
    refine wc_region ?_
    refine WL.q (y_loadcN rfl a26 s26 rfl) (Wt.none rfl) rfl rfl ?_
    replace h := bindS h
    obtain ⟨r36, hr36, h⟩ := h
    refine WL.fn rfl rfl rfl rfl (f50_c 100 _ hr36) ⟨(Le.refl _), trivial⟩ (Wt.none rfl) rfl rfl ?_
    refine WL.q (y_assign rfl) (Wt.none rfl) rfl rfl ?_
    refine WL.nil ?_
    refine we_seq ?_
    refine wc_seq ?_
    refine wc_region ?_
    refine WL.q (y_assign rfl) (Wt.none rfl) rfl rfl ?_
    refine WL.nil_os 4 3 1 rfl ?_
    refine WL.nil ?_
    refine we_seq ?_
    replace h := letkS h
    obtain ⟨k39, hk39, h⟩ := h
    refine wc_cut (fun env' st' => ∃ (l37 : List Int), ∃ (ver38 : Nat), k39 l37 = some r ∧ Sub [(4, .os 0 ver38)] env' ∧ SLe st' [.os 3 1 ver38 (List.map (encA E3) l37)]) ?_ ?_
    · refine wc_seq ?_
      refine wc_region ?_
      refine WL.q (y_assign rfl) (Wt.none rfl) rfl rfl ?_
      refine WL.nil ?_
      refine we_seq ?_
      refine wc_block ?_
      refine wc_loop (fun n env' st' => ∃ (o43 : Int), ∃ (l44 : List Int), ∃ (ver45 : Nat), f19_l1 r36 k39 n o43 l44 = some r ∧ Sub [(3, .d (.sl (List.map E3 r36))), (4, .os 0 ver45), (5, .d (D.i .i64 o43))] env' ∧ SLe st' [.os 3 1 ver45 (List.map (encA E3) l44)]) (fun n => n) 9223372036854775808 ⟨0, [], _, h, (Sub.cons rfl (Le.refl _) (Sub.cons rfl (Le.refl _) (Sub.cons rfl (Le.refl _) (Sub.nil _)))), ⟨⟨rfl, rfl, rfl, rfl⟩, trivial⟩⟩ ?_
      rintro n env1 st1 ⟨o43, l44, ver45, h, hsub, hst⟩
      cases n with
      | zero => rw [f19_l1] at h; cases h
      | succ n =>
      rw [f19_l1] at h
      refine WC.sub hsub (WC.weak hst ?_)
      refine wc_seq ?_
      refine wc_seq ?_
      refine wc_region ?_
      refine WL.q (y_move rfl) (Wt.none rfl) rfl rfl ?_
      refine WL.q (y_lss rfl rfl) (Wt.none rfl) rfl rfl ?_
      refine WL.nil ?_
      refine we_seq ?_
      refine wc_cond rfl (fun hc2 => ?_) (fun hc2 => ?_)
      · replace h := condT h hc2
        refine wc_skip ?_
        refine we_seq ?_
        replace h := letkS h
        obtain ⟨k51, hk51, h⟩ := h
        refine wc_cut (fun env' st' => ∃ (l49 : List Int), ∃ (ver50 : Nat), k51 l49 = some r ∧ Sub [(3, .d (.sl (List.map E3 r36))), (4, .os 0 ver50), (5, .d (D.i .i64 o43))] env' ∧ SLe st' [.os 3 1 ver50 (List.map (encA E3) l49)]) ?_ ?_
        · refine wc_block ?_
          refine wc_seq ?_
          refine wc_region ?_
          refine WL.q (y_assign rfl) (Wt.none rfl) rfl rfl ?_
          refine WL.nil ?_
          refine we_seq ?_
          refine wc_block ?_
          refine wc_loop (fun na env' st' => ∃ (iq53 : Int), f19_l2 r36 o43 l44 k51 na iq53 = some r ∧ Sub [(3, .d (.sl (List.map E3 r36))), (4, .os 0 ver45), (5, .d (D.i .i64 o43)), (6, .d (D.i .i64 iq53))] env' ∧ SLe st' [.os 3 1 ver45 (List.map (encA E3) l44)]) (fun n => n) 9223372036854775808 ⟨0, h, (Sub.cons rfl (Le.refl _) (Sub.cons rfl (Le.refl _) (Sub.cons rfl (Le.refl _) (Sub.cons rfl (Le.refl _) (Sub.nil _))))), ⟨⟨rfl, rfl, rfl, rfl⟩, trivial⟩⟩ ?_
          rintro na env1 st1 ⟨iq53, h, hsub, hst⟩
          cases na with
          | zero => rw [f19_l2] at h; cases h
          | succ na =>
          rw [f19_l2] at h
          refine WC.sub hsub (WC.weak hst ?_)
          refine wc_seq ?_
          refine wc_seq ?_
          refine wc_region ?_
          refine WL.q (y_move rfl) (Wt.none rfl) rfl rfl ?_
          refine WL.q (y_move rfl) (Wt.none rfl) rfl rfl ?_
          refine WL.q (y_len_map E3 r36 e33 rfl rfl (Le.refl _)) (Wt.none rfl) rfl rfl ?_
          refine WL.q (y_lss rfl rfl) (Wt.none rfl) rfl rfl ?_
          refine WL.nil ?_
          refine we_seq ?_
          refine wc_cond rfl (fun hc3 => ?_) (fun hc3 => ?_)
          · replace h := condT h hc3
            refine wc_skip ?_
            refine we_seq ?_
            refine wc_seq ?_
            refine wc_block ?_
            refine wc_seq ?_
            refine wc_region ?_
            refine WL.q (y_move rfl) (Wt.none rfl) rfl rfl ?_
            refine WL.q (y_move rfl) (Wt.none rfl) rfl rfl ?_
            replace h := bindS h
            obtain ⟨x55, hx55, h⟩ := h
            refine WL.q (y_indexAddr e33 rfl (Le.refl _) rfl (idx_nonneg hx55) (idx_row E3_eq hx55) rfl) (Wt.none rfl) rfl rfl ?_
            refine WL.q (y_loadc rfl a3 rfl) (Wt.none rfl) rfl rfl ?_
            refine WL.q (y_move rfl) (Wt.none rfl) rfl rfl ?_
            refine WL.q (y_eql rfl rfl) (Wt.none rfl) rfl rfl ?_
            refine WL.nil ?_
            refine we_seq ?_
            refine wc_cond rfl (fun hc4 => ?_) (fun hc4 => ?_)
            · replace h := condT h hc4
              refine wc_seq ?_
              refine wc_region ?_
              refine WL.q (y_move rfl) (Wt.none rfl) rfl rfl ?_
              refine WL.q (y_move rfl) (Wt.none rfl) rfl rfl ?_
              refine WL.s ((NewOs.b (n_buildSlice l33 z3 rfl (by decide) (by decide) rfl rfl rfl (by decide))).does) (Wt.none rfl) rfl rfl ?_
              replace h := guardBS h
              obtain ⟨hgg56, h⟩ := h
              refine WL.s (d_appendL E3 l44 [o43] l33 z3 rfl (by decide) rfl rfl rfl rfl (Src.own rfl) (fun _ => rfl) (fun _ => rfl) hgg56) (Wt.none rfl) rfl rfl ?_
              refine WL.q (y_assign rfl) (Wt.none rfl) rfl rfl ?_
              refine WL.nil ?_
              refine we_seq ?_
              refine wc_exit ?_
              refine we_blk_miss rfl ?_
              refine we_seq_exit ?_
              refine we_lp_exit ?_
              refine we_blk_hit ?_
              refine we_blk ?_
              refine WE.drop 1 (env' := [(3, .d (.sl (List.map E3 r36))), (4, .os 0 (ver45 + 1)), (5, .d (D.i .i64 o43))]) (Sub.one rfl (Sub.one rfl (Sub.one rfl (Sub.nil _)))) rfl (stLt_cons (lt_os _ _ _ _ _ _) rfl) (Nat.zero_le _) ?_
              exact we_lp ⟨(l44 ++ [o43]), _, h, (Sub.cons rfl (Le.refl _) (Sub.cons rfl (Le.refl _) (Sub.cons rfl (Le.refl _) (Sub.nil _)))), ⟨⟨rfl, rfl, rfl, rfl⟩, trivial⟩⟩
            · replace h := condF h hc4
              refine wc_skip ?_
              refine we_blk ?_
              refine we_seq ?_
              refine wc_region ?_
              refine WL.q (y_move rfl) (Wt.none rfl) rfl rfl ?_
              refine WL.q (y_add rfl rfl rfl) (Wt.none rfl) rfl rfl ?_
              refine WL.q (y_assign rfl) (Wt.none rfl) rfl rfl ?_
              refine WL.nil ?_
              exact we_lp ⟨na, ⟨(IntKind.i64.wrap (iq53 + 1)), h, (Sub.cons rfl (Le.refl _) (Sub.cons rfl (Le.refl _) (Sub.cons rfl (Le.refl _) (Sub.cons rfl (Le.refl _) (Sub.nil _))))), ⟨⟨rfl, rfl, rfl, rfl⟩, trivial⟩⟩, Nat.lt_succ_self na⟩
          · replace h := condF h hc3
            refine wc_exit ?_
            refine we_seq_exit ?_
            refine we_lp_exit ?_
            refine we_blk_hit ?_
            refine we_blk ?_
            exact we_lp ⟨l44, _, h, (Sub.cons rfl (Le.refl _) (Sub.cons rfl (Le.refl _) (Sub.cons rfl (Le.refl _) (Sub.nil _)))), ⟨⟨rfl, rfl, rfl, rfl⟩, trivial⟩⟩
        · rintro env1 st1 ⟨l49, ver50, h, hsub, hst⟩
          subst hk51
          dsimp only at h
          refine WC.sub hsub (WC.weak hst ?_)
          refine wc_region ?_
          refine WL.q (y_move rfl) (Wt.none rfl) rfl rfl ?_
          refine WL.q (y_add rfl rfl rfl) (Wt.none rfl) rfl rfl ?_
          refine WL.q (y_assign rfl) (Wt.none rfl) rfl rfl ?_
          refine WL.nil ?_
          exact we_lp ⟨n, ⟨(IntKind.i64.wrap (o43 + 1)), l49, _, h, (Sub.cons rfl (Le.refl _) (Sub.cons rfl (Le.refl _) (Sub.cons rfl (Le.refl _) (Sub.nil _)))), ⟨⟨rfl, rfl, rfl, rfl⟩, trivial⟩⟩, Nat.lt_succ_self n⟩
      · replace h := condF h hc2
        refine wc_exit ?_
        refine we_seq_exit ?_
        refine we_lp_exit ?_
        refine we_blk_hit ?_
        exact we_lp ⟨l44, _, h, (Sub.cons rfl (Le.refl _) (Sub.nil _)), ⟨⟨rfl, rfl, rfl, rfl⟩, trivial⟩⟩
    · rintro env1 st1 ⟨l37, ver38, h, hsub, hst⟩
      subst hk39
      dsimp only at h
      refine WC.sub hsub (WC.weak hst ?_)
      refine wc_seq ?_
      refine wc_region ?_
      refine WL.q (y_move rfl) (Wt.none rfl) rfl rfl ?_
      refine WL.q (y_assign rfl) (Wt.none rfl) rfl rfl ?_
      refine WL.nil ?_
      refine we_seq ?_
      refine wc_ret ?_
      refine WE.freezeX [4, 32, 2] [] 0 (List.map E3 l37) rfl (encA_map E3_eq l37) ⟨rfl, rfl, rfl, trivial⟩ trivial ?_
      obtain rfl := Option.some.inj h
      exact we_ret_fn (rs1 rfl (rv_t rfl)) (Le.refl _)

theorem f17_c (s10 : List Int) (s21 : List Int) {r : Bool} (h : f17 s10 s21 = some r) : Pu Try.prog 17 [.sl (List.map E3 s10), .sl (List.map E3 s21)] (.b r) := by
  unfold f17 at h
  refine fn_intro Try.func17 (by kernel_rfl) rfl rfl rfl (fun φφ ww => ?_)
  refine wc_seq ?_
  refine wc_region ?_
  refine WL.q (y_assign rfl) (Wt.none rfl) rfl rfl ?_
  refine WL.nil ?_
  refine we_seq ?_
  refine wc_seq ?_
  refine wc_seq ?_
  refine wc_region ?_
  refine WL.q (y_move rfl) (Wt.none rfl) rfl rfl ?_
  refine WL.q (y_len_map E3 s10 e33 rfl rfl (Le.refl _)) (Wt.none rfl) rfl rfl ?_
  refine WL.q (y_move rfl) (Wt.none rfl) rfl rfl ?_
  refine WL.q (y_len_map E3 s21 e33 rfl rfl (Le.refl _)) (Wt.none rfl) rfl rfl ?_
  refine WL.q (y_neq rfl rfl) (Wt.none rfl) rfl rfl ?_
  refine WL.nil ?_
  refine we_seq ?_
  refine wc_cond rfl (fun hc1 => ?_) (fun hc1 => ?_)
  · replace h := condT h hc1
    refine wc_seq ?_
    refine wc_region ?_
    refine WL.q (y_assign rfl) (Wt.none rfl) rfl rfl ?_
    refine WL.nil ?_
    refine we_seq ?_
    refine wc_ret ?_
    refine we_seq_ret ?_
    obtain rfl := Option.some.inj h
    exact we_ret_fn (rs1 rfl (rv_t rfl)) (Le.refl _)
  · replace h := condF h hc1
    refine wc_skip ?_
    refine we_seq ?_
    replace h := letkS h
    obtain ⟨k29, hk29, h⟩ := h
    refine wc_cut (fun env' st' => k29 () = some r ∧ Sub [] env' ∧ SLe st' []) ?_ ?_
    · refine wc_seq ?_
      refine wc_region ?_
      refine WL.q (y_move rfl) (Wt.none rfl) rfl rfl ?_
      refine WL.q (y_len_map E3 s10 e33 rfl rfl (Le.refl _)) (Wt.none rfl) rfl rfl ?_
      refine WL.q (y_move rfl) (Wt.none rfl) rfl rfl ?_
      refine WL.nil ?_
      refine we_seq ?_
      refine wc_block ?_
      refine wc_loop (fun n env' st' => ∃ (t31 : Int), f17_l1 s10 s21 k29 n t31 = some r ∧ Sub [(0, .d (.sl (List.map E3 s10))), (1, .d (.sl (List.map E3 s21))), (12, .d (D.i .i64 (List.length s10 : Int))), (13, .d (D.i .i64 t31))] env' ∧ SLe st' []) (fun n => n) (Int.toNat ((List.length s10 : Int) - 0) + 1) ⟨0, h, (Sub.cons rfl (Le.refl _) (Sub.cons rfl (Le.refl _) (Sub.cons rfl (Le.refl _) (Sub.cons rfl (Le.refl _) (Sub.nil _))))), trivial⟩ ?_
      rintro n env1 st1 ⟨t31, h, hsub, hst⟩
      cases n with
      | zero => rw [f17_l1] at h; cases h
      | succ n =>
      rw [f17_l1] at h
      refine WC.sub hsub (WC.weak hst ?_)
      refine wc_seq ?_
      refine wc_region ?_
      refine WL.q (y_lss rfl rfl) (Wt.none rfl) rfl rfl ?_
      refine WL.nil ?_
      refine we_seq ?_
      refine wc_seq ?_
      refine wc_cond rfl (fun hc2 => ?_) (fun hc2 => ?_)
      · replace h := condT h hc2
        refine wc_skip ?_
        refine we_seq ?_
        refine wc_seq ?_
        refine wc_block ?_
        refine wc_seq ?_
        refine wc_region ?_
        refine WL.q (y_move rfl) (Wt.none rfl) rfl rfl ?_
        refine WL.q (y_assign rfl) (Wt.none rfl) rfl rfl ?_
        refine WL.nil ?_
        refine we_seq ?_
        refine wc_seq ?_
        refine wc_region_draw (by kernel_rfl) (by kernel_rfl) ?_
        refine WQ.q (Yields.quiet (y_move rfl)) (Wt.none rfl) rfl rfl ?_
        refine WQ.q (Yields.quiet (y_move rfl)) (Wt.none rfl) rfl rfl ?_
        replace h := bindS h
        obtain ⟨x33, hx33, h⟩ := h
        refine WQ.q (Yields.quiet (y_indexAddr e33 rfl (Le.refl _) rfl (idx_nonneg hx33) (idx_row E3_eq hx33) rfl)) (Wt.none rfl) rfl rfl ?_
        refine WQ.q (Yields.quiet (y_loadc rfl a3 rfl)) (Wt.none rfl) rfl rfl ?_
        refine WQ.q (Yields.quiet (y_move rfl)) (Wt.none rfl) rfl rfl ?_
        refine WQ.q (Yields.quiet (y_move rfl)) (Wt.none rfl) rfl rfl ?_
        replace h := bindS h
        obtain ⟨x34, hx34, h⟩ := h
        refine WQ.q (Yields.quiet (y_indexAddr e33 rfl (Le.refl _) rfl (idx_nonneg hx34) (idx_row E3_eq hx34) rfl)) (Wt.none rfl) rfl rfl ?_
        refine WQ.q (Yields.quiet (y_loadc rfl a3 rfl)) (Wt.none rfl) rfl rfl ?_
        refine WQ.q (Yields.quiet (y_neq rfl rfl)) (Wt.none rfl) rfl rfl ?_
        refine WQ.nil ?_
        refine we_seq ?_
        refine wc_cond rfl (fun hc3 => ?_) (fun hc3 => ?_)
        · replace h := condT h hc3
          refine wc_seq ?_
          refine wc_region ?_
          refine WL.q (y_assign rfl) (Wt.none rfl) rfl rfl ?_
          refine WL.nil ?_
          refine we_seq ?_
          refine wc_ret ?_
          refine we_blk_ret ?_
          refine we_seq_ret ?_
          refine we_lp_ret ?_
          refine we_blk_ret ?_
          refine we_lp_ret ?_
          obtain rfl := Option.some.inj h
          exact we_ret_fn (rs1 rfl (rv_t rfl)) (Le.refl _)
        · replace h := condF h hc3
          refine wc_skip ?_
          refine we_blk ?_
          refine we_seq ?_
          refine wc_region ?_
          refine WL.q (y_add rfl rfl rfl) (Wt.none rfl) rfl rfl ?_
          refine WL.q (y_move rfl) (Wt.none rfl) rfl rfl ?_
          refine WL.nil ?_
          exact we_lp ⟨n, ⟨(IntKind.i64.wrap (t31 + 1)), h, (Sub.cons rfl (Le.refl _) (Sub.cons rfl (Le.refl _) (Sub.cons rfl (Le.refl _) (Sub.cons rfl (Le.refl _) (Sub.nil _))))), trivial⟩, Nat.lt_succ_self n⟩
      · replace h := condF h hc2
        refine wc_exit ?_
        refine we_seq_exit ?_
        refine we_lp_exit ?_
        refine we_blk_hit ?_
        exact we_lp ⟨h, (Sub.nil _), trivial⟩
    · rintro env1 st1 ⟨h, hsub, hst⟩
      subst hk29
      dsimp only at h
      refine WC.sub hsub (WC.weak hst ?_)
      refine wc_seq ?_
      refine wc_region ?_
      refine WL.q (y_assign rfl) (Wt.none rfl) rfl rfl ?_
      refine WL.nil ?_
      refine we_seq ?_
      refine wc_ret ?_
      obtain rfl := Option.some.inj h
      exact we_ret_fn (rs1 rfl (rv_t rfl)) (Le.refl _)

theorem f59_c (s0 : List Int) (v1 : Int) {r : Int} (h : f59 s0 v1 = some r) : Pu Try.prog 59 [.sl (List.map E3 s0), .i .i64 v1] (.i .i64 r) := by
  unfold f59 at h
  refine fn_intro Try.func59 (by kernel_rfl) rfl rfl rfl (fun φφ ww => ?_)
  refine wc_seq ?_
  refine wc_region ?_
  refine WL.q (y_assign rfl) (Wt.none rfl) rfl rfl ?_
  refine WL.nil ?_
  refine we_seq ?_
  replace h := letkS h
  obtain ⟨k22, hk22, h⟩ := h
  refine wc_cut (fun env' st' => k22 () = some r ∧ Sub [] env' ∧ SLe st' []) ?_ ?_
  · refine wc_seq ?_
    refine wc_region ?_
    refine WL.q (y_move rfl) (Wt.none rfl) rfl rfl ?_
    refine WL.q (y_len_map E3 s0 e33 rfl rfl (Le.refl _)) (Wt.none rfl) rfl rfl ?_
    refine WL.q (y_move rfl) (Wt.none rfl) rfl rfl ?_
    refine WL.nil ?_
    refine we_seq ?_
    refine wc_block ?_
    refine wc_loop (fun n env' st' => ∃ (t24 : Int), f59_l1 s0 v1 k22 n t24 = some r ∧ Sub [(0, .d (.sl (List.map E3 s0))), (1, .d (D.i .i64 v1)), (7, .d (D.i .i64 (List.length s0 : Int))), (8, .d (D.i .i64 t24))] env' ∧ SLe st' []) (fun n => n) (Int.toNat ((List.length s0 : Int) - 0) + 1) ⟨0, h, (Sub.cons rfl (Le.refl _) (Sub.cons rfl (Le.refl _) (Sub.cons rfl (Le.refl _) (Sub.cons rfl (Le.refl _) (Sub.nil _))))), trivial⟩ ?_
    rintro n env1 st1 ⟨t24, h, hsub, hst⟩
    cases n with
    | zero => rw [f59_l1] at h; cases h
    | succ n =>
    rw [f59_l1] at h
    refine WC.sub hsub (WC.weak hst ?_)
    refine wc_seq ?_
    refine wc_region ?_
    refine WL.q (y_lss rfl rfl) (Wt.none rfl) rfl rfl ?_
    refine WL.nil ?_
    refine we_seq ?_
    refine wc_seq ?_
    refine wc_cond rfl (fun hc1 => ?_) (fun hc1 => ?_)
    · replace h := condT h hc1
      refine wc_skip ?_
      refine we_seq ?_
      refine wc_seq ?_
      refine wc_block ?_
      refine wc_seq ?_
      refine wc_region ?_
      refine WL.q (y_move rfl) (Wt.none rfl) rfl rfl ?_
      refine WL.q (y_assign rfl) (Wt.none rfl) rfl rfl ?_
      refine WL.nil ?_
      refine we_seq ?_
      refine wc_seq ?_
      refine wc_region ?_
      refine WL.q (y_move rfl) (Wt.none rfl) rfl rfl ?_
      refine WL.q (y_move rfl) (Wt.none rfl) rfl rfl ?_
      refine WL.q (y_move rfl) (Wt.none rfl) rfl rfl ?_
      replace h := bindS h
      obtain ⟨x26, hx26, h⟩ := h
      refine WL.q (y_indexAddr e33 rfl (Le.refl _) rfl (idx_nonneg hx26) (idx_row E3_eq hx26) rfl) (Wt.none rfl) rfl rfl ?_
      refine WL.q (y_loadc rfl a3 rfl) (Wt.none rfl) rfl rfl ?_
      refine WL.q (y_eql rfl rfl) (Wt.none rfl) rfl rfl ?_
      refine WL.nil ?_
      refine we_seq ?_
      refine wc_cond rfl (fun hc2 => ?_) (fun hc2 => ?_)
      · replace h := condT h hc2
        refine wc_seq ?_
        refine wc_region ?_
        refine WL.q (y_move rfl) (Wt.none rfl) rfl rfl ?_
        refine WL.q (y_assign rfl) (Wt.none rfl) rfl rfl ?_
        refine WL.nil ?_
        refine we_seq ?_
        refine wc_ret ?_
        refine we_blk_ret ?_
        refine we_seq_ret ?_
        refine we_lp_ret ?_
        refine we_blk_ret ?_
        refine we_lp_ret ?_
        obtain rfl := Option.some.inj h
        exact we_ret_fn (rs1 rfl (rv_t rfl)) (Le.refl _)
      · replace h := condF h hc2
        refine wc_skip ?_
        refine we_blk ?_
        refine we_seq ?_
        refine wc_region ?_
        refine WL.q (y_add rfl rfl rfl) (Wt.none rfl) rfl rfl ?_
        refine WL.q (y_move rfl) (Wt.none rfl) rfl rfl ?_
        refine WL.nil ?_
        exact we_lp ⟨n, ⟨(IntKind.i64.wrap (t24 + 1)), h, (Sub.cons rfl (Le.refl _) (Sub.cons rfl (Le.refl _) (Sub.cons rfl (Le.refl _) (Sub.cons rfl (Le.refl _) (Sub.nil _))))), trivial⟩, Nat.lt_succ_self n⟩
    · replace h := condF h hc1
      refine wc_exit ?_
      refine we_seq_exit ?_
      refine we_lp_exit ?_
      refine we_blk_hit ?_
      exact we_lp ⟨h, (Sub.nil _), trivial⟩
  · rintro env1 st1 ⟨h, hsub, hst⟩
    subst hk22
    dsimp only at h
    refine WC.sub hsub (WC.weak hst ?_)
    refine wc_seq ?_
    refine wc_region ?_
    refine WL.q (y_assign rfl) (Wt.none rfl) rfl rfl ?_
    refine WL.nil ?_
    refine we_seq ?_
    refine wc_ret ?_
    obtain rfl := Option.some.inj h
    exact we_ret_fn (rs1 rfl (rv_t rfl)) (Le.refl _)

theorem f33_c (s0 : List Int) (v1 : Int) {r : Bool} (h : f33 s0 v1 = some r) : Pu Try.prog 33 [.sl (List.map E3 s0), .i .i64 v1] (.b r) := by
  unfold f33 at h
  refine fn_intro Try.func33 (by kernel_rfl) rfl rfl rfl (fun φφ ww => ?_)
  refine wc_seq ?_
  refine wc_region ?_
  refine WL.q (y_assign rfl) (Wt.none rfl) rfl rfl ?_
  refine WL.nil ?_
  refine we_seq ?_
  refine wc_seq ?_
  refine wc_region ?_
  refine WL.q (y_move rfl) (Wt.none rfl) rfl rfl ?_
  refine WL.q (y_move rfl) (Wt.none rfl) rfl rfl ?_
  replace h := bindS h
  obtain ⟨r12, hr12, h⟩ := h
  refine WL.fn rfl rfl rfl rfl (f59_c _ _ hr12) ⟨(Le.refl _), (Le.refl _), trivial⟩ (Wt.none rfl) rfl rfl ?_
  refine WL.q (y_geq rfl rfl) (Wt.none rfl) rfl rfl ?_
  refine WL.q (y_assign rfl) (Wt.none rfl) rfl rfl ?_
  refine WL.nil ?_
  refine we_seq ?_
  refine wc_ret ?_
  obtain rfl := Option.some.inj h
  exact we_ret_fn (rs1 rfl (rv_t rfl)) (Le.refl _)

theorem f23_c (k0 : Int) (l1 : List CE) : Pu Try.prog 23 [.i .u8 k0, .sl (List.map E26 l1)] (.ag (R26 (f23 k0 l1))) := by
  generalize h : f23 k0 l1 = r
  unfold f23 at h
  refine fn_intro Try.func23 (by kernel_rfl) rfl rfl rfl (fun φφ ww => ?_)
  refine wc_seq ?_
  refine wc_region ?_
  refine WL.s ((b_alloc z26).does) (Wt.none rfl) rfl rfl ?_
  refine WL.nil ?_
  refine we_seq ?_
  refine wc_seq ?_
  refine wc_region ?_
  refine WL.q (y_move rfl) (Wt.none rfl) rfl rfl ?_
  refine WL.q (y_move rfl) (Wt.none rfl) rfl rfl ?_
  refine WL.q (y_build p26 z26 rfl rfl) (Wt.none rfl) rfl rfl ?_
  refine WL.s0 (d_store rfl rfl rfl rfl rfl rfl s26 rfl rfl) (Wt.none rfl) rfl ?_
  refine WL.nil ?_
  refine we_seq ?_
  refine wc_ret ?_
  subst h
  exact we_ret_fn (rs1 rfl (rv_cN rfl rfl a26 s26 rfl)) (Le.agd ⟨(Le.refl _), (Le.refl _), (Le.refl _), (Le.refl _), (Le.refl _), (Le.refl _), (Le.refl _), (Le.refl _), (Le.refl _), trivial⟩)

theorem f24_c (s0 : List (List Int)) (counts1 : List Int) (e2 : CE) {r : Bool} (h : f24 s0 counts1 e2 = some r) : Pu Try.prog 24 [.sl (List.map E56 s0), .sl (List.map E3 counts1), .ag (R26 e2)] (.b r) := by
  unfold f24 at h
  refine fn_intro Try.func24 (by kernel_rfl) rfl rfl rfl (fun φφ ww => ?_)
  refine wc_seq ?_
  refine wc_region ?_
  refine WL.s ((b_boxd rfl rfl (Les.refl _)).does) (Wt.none rfl) rfl rfl ?_
  refine WL.q (y_assign rfl) (Wt.none rfl) rfl rfl ?_
  refine WL.nil ?_
  refine we_seq ?_
  refine wc_seq ?_
  refine wc_region ?_
  refine WL.q (y_move rfl) (Wt.none rfl) rfl rfl ?_
  refine WL.q (y_move rfl) (Wt.none rfl) rfl rfl ?_
  refine WL.q (y_loadcN rfl a26 s26 rfl) (Wt.none rfl) rfl rfl ?_
  replace h := bindS h
  obtain ⟨r26, hr26, h⟩ := h
  refine WL.fn rfl rfl rfl rfl (f21_c _ _ _ hr26) ⟨(Le.refl _), (Le.refl _), (Le.refl _), trivial⟩ (Wt.none rfl) rfl rfl ?_
  refine WL.q (y_move rfl) (Wt.none rfl) rfl rfl ?_
  refine WL.q (y_extractd rfl rfl) (Wt.none rfl) rfl rfl ?_
  refine WL.q (y_extractd rfl rfl) (Wt.none rfl) rfl rfl ?_
  refine WL.q (y_assign rfl) (Wt.none rfl) rfl rfl ?_
  refine WL.q (y_assign rfl) (Wt.none rfl) rfl rfl ?_
  refine WL.nil ?_
  refine we_seq ?_
  refine wc_seq ?_
  refine wc_region ?_
  refine WL.q (y_move rfl) (Wt.none rfl) rfl rfl ?_
  refine WL.q (y_not rfl) (Wt.none rfl) rfl rfl ?_
  refine WL.q (y_move rfl) (Wt.none rfl) rfl rfl ?_
  apply WL.and 3 (t := 18) (d := 21)
  · exact rfl
  · intro hg18
    refine WL.q (y_move rfl) (Wt.yes rfl rfl rfl) rfl rfl ?_
    refine WL.q (y_eql rfl rfl) (Wt.yes rfl rfl rfl) rfl rfl ?_
    refine WL.q (y_pick_t rfl rfl) (Wt.none rfl) rfl rfl ?_
    exact WL.nil ⟨rfl, [_, _, _], rfl, rfl, rfl⟩
  · refine WL.skips 2 rfl ?_
    refine WL.q (y_pick_f rfl rfl) (Wt.none rfl) rfl rfl ?_
    exact WL.nil ⟨rfl, [_, _, _], rfl, rfl, rfl⟩
  refine WL.q (y_assign rfl) (Wt.none rfl) rfl rfl ?_
  refine WL.nil ?_
  refine we_seq ?_
  refine wc_ret ?_
  obtain rfl := Option.some.inj h
  exact we_ret_fn (rs1 rfl (rv_t rfl)) (Le.refl _)

theorem f26_c (n0 : Int) : Pu Try.prog 26 [.i .i64 n0] (.ag (R26 (f26 n0))) := by
  generalize h : f26 n0 = r
  unfold f26 at h
  refine fn_intro Try.func26 (by kernel_rfl) rfl rfl rfl (fun φφ ww => ?_)
  refine wc_seq ?_
  refine wc_region ?_
  refine WL.s ((b_alloc z26).does) (Wt.none rfl) rfl rfl ?_
  refine WL.nil ?_
  refine we_seq ?_
  refine wc_seq ?_
  refine wc_region ?_
  refine WL.q (y_move rfl) (Wt.none rfl) rfl rfl ?_
  refine WL.q (y_build p26 z26 rfl rfl) (Wt.none rfl) rfl rfl ?_
  refine WL.s0 (d_store rfl rfl rfl rfl rfl rfl s26 rfl rfl) (Wt.none rfl) rfl ?_
  refine WL.nil ?_
  refine we_seq ?_
  refine wc_ret ?_
  subst h
  exact we_ret_fn (rs1 rfl (rv_cN rfl rfl a26 s26 rfl)) (Le.agd ⟨(Le.refl _), (Le.refl _), (Le.refl _), (Le.refl _), (Le.refl _), (Le.refl _), (Le.refl _), (Le.refl _), Le.nil, trivial⟩)

theorem f27_c (o0 : Int) (a1 : CE) (b2 : CE) : Pu Try.prog 27 [.i .u8 o0, .ag (R26 a1), .ag (R26 b2)] (.ag (R26 (f27 o0 a1 b2))) := by
  generalize h : f27 o0 a1 b2 = r
  unfold f27 at h
  refine fn_intro Try.func27 (by kernel_rfl) rfl rfl rfl (fun φφ ww => ?_)
  refine wc_seq ?_
  refine wc_region ?_
  refine WL.s ((b_boxd rfl rfl (Les.refl _)).does) (Wt.none rfl) rfl rfl ?_
  refine WL.s ((b_boxd rfl rfl (Les.refl _)).does) (Wt.none rfl) rfl rfl ?_
  refine WL.s ((b_alloc z26).does) (Wt.none rfl) rfl rfl ?_
  refine WL.nil ?_
  refine we_seq ?_
  refine wc_seq ?_
  refine wc_region ?_
  refine WL.q (y_move rfl) (Wt.none rfl) rfl rfl ?_
  refine WL.q (y_loadcN rfl a26 s26 rfl) (Wt.none rfl) rfl rfl ?_
  refine WL.q (y_loadcN rfl a26 s26 rfl) (Wt.none rfl) rfl rfl ?_
  refine WL.s ((NewOs.b (n_buildSlice l24 z26 rfl (by decide) (by decide) rfl rfl rfl (by decide))).does) (Wt.none rfl) rfl rfl ?_
  refine WL.q (y_buildS p26 z26 rfl rfl) (Wt.none rfl) rfl rfl ?_
  refine WL.s0 (d_storeS rfl rfl rfl rfl rfl rfl s26 rfl rfl) (Wt.none rfl) rfl ?_
  refine WL.nil ?_
  refine we_seq ?_
  refine wc_ret ?_
  refine WE.freezeX [10] [(0, 8)] 1 (List.map E26 [a1, b2]) rfl (encA_map E26_eq [a1, b2]) ⟨rfl, trivial⟩ ⟨_, _, rfl, rfl, trivial⟩ ?_
  subst h
  exact we_ret_fn (rs1 rfl (rv_cN rfl rfl a26 s26 rfl)) (Le.agd ⟨(Le.refl _), (Le.refl _), (Le.refl _), (Le.refl _), (Le.refl _), (Le.refl _), (Le.refl _), (Le.refl _), (Le.refl _), trivial⟩)

theorem f38_c (s0 : List (List Int)) (counts1 : List Int) (e2 : CE) (v3 : Int) {r : Bool} (h : f38 s0 counts1 e2 v3 = some r) : Pu Try.prog 38 [.sl (List.map E56 s0), .sl (List.map E3 counts1), .ag (R26 e2), .i .i64 v3] (.b r) := by
  unfold f38 at h
  refine fn_intro Try.func38 (by kernel_rfl) rfl rfl rfl (fun φφ ww => ?_)
  refine wc_seq ?_
  refine wc_region ?_
  refine WL.s ((b_boxd rfl rfl (Les.refl _)).does) (Wt.none rfl) rfl rfl ?_
  refine WL.q (y_assign rfl) (Wt.none rfl) rfl rfl ?_
  refine WL.nil ?_
  refine we_seq ?_
  refine wc_seq ?_
  refine wc_region ?_
  refine WL.q (y_move rfl) (Wt.none rfl) rfl rfl ?_
  refine WL.q (y_move rfl) (Wt.none rfl) rfl rfl ?_
  refine WL.q (y_loadcN rfl a26 s26 rfl) (Wt.none rfl) rfl rfl ?_
  replace h := bindS h
  obtain ⟨r29, hr29, h⟩ := h
  refine WL.fn rfl rfl rfl rfl (f21_c _ _ _ hr29) ⟨(Le.refl _), (Le.refl _), (Le.refl _), trivial⟩ (Wt.none rfl) rfl rfl ?_
  refine WL.q (y_move rfl) (Wt.none rfl) rfl rfl ?_
  refine WL.q (y_extractd rfl rfl) (Wt.none rfl) rfl rfl ?_
  refine WL.q (y_extractd rfl rfl) (Wt.none rfl) rfl rfl ?_
  refine WL.q (y_assign rfl) (Wt.none rfl) rfl rfl ?_
  refine WL.q (y_assign rfl) (Wt.none rfl) rfl rfl ?_
  refine WL.nil ?_
  refine we_seq ?_
  refine wc_seq ?_
  refine wc_region ?_
  refine WL.q (y_move rfl) (Wt.none rfl) rfl rfl ?_
  refine WL.q (y_move rfl) (Wt.none rfl) rfl rfl ?_
  apply WL.and 4 (t := 19) (d := 23)
  · exact rfl
  · intro hg19
    refine WL.q (y_move rfl) (Wt.yes rfl rfl rfl) rfl rfl ?_
    refine WL.q (y_move rfl) (Wt.yes rfl rfl rfl) rfl rfl ?_
    refine WL.q (y_eql rfl rfl) (Wt.yes rfl rfl rfl) rfl rfl ?_
    refine WL.q (y_pick_t rfl rfl) (Wt.none rfl) rfl rfl ?_
    exact WL.nil ⟨rfl, [_, _, _, _], rfl, rfl, rfl⟩
  · refine WL.skips 3 rfl ?_
    refine WL.q (y_pick_f rfl rfl) (Wt.none rfl) rfl rfl ?_
    exact WL.nil ⟨rfl, [_, _, _, _], rfl, rfl, rfl⟩
  refine WL.q (y_assign rfl) (Wt.none rfl) rfl rfl ?_
  refine WL.nil ?_
  refine we_seq ?_
  refine wc_ret ?_
  obtain rfl := Option.some.inj h
  exact we_ret_fn (rs1 rfl (rv_t rfl)) (Le.refl _)

theorem f39_c (o0 : Int) (off1 : Int) : Pu Try.prog 39 [.i .i64 o0, .i .i64 off1] (.ag (R26 (f39 o0 off1))) := by
  generalize h : f39 o0 off1 = r
  unfold f39 at h
  refine fn_intro Try.func39 (by kernel_rfl) rfl rfl rfl (fun φφ ww => ?_)
  refine wc_seq ?_
  refine wc_region ?_
  refine WL.s ((b_alloc z26).does) (Wt.none rfl) rfl rfl ?_
  refine WL.nil ?_
  refine we_seq ?_
  refine wc_seq ?_
  refine wc_region ?_
  refine WL.q (y_move rfl) (Wt.none rfl) rfl rfl ?_
  refine WL.q (y_move rfl) (Wt.none rfl) rfl rfl ?_
  refine WL.q (y_build p26 z26 rfl rfl) (Wt.none rfl) rfl rfl ?_
  refine WL.s0 (d_store rfl rfl rfl rfl rfl rfl s26 rfl rfl) (Wt.none rfl) rfl ?_
  refine WL.nil ?_
  refine we_seq ?_
  refine wc_ret ?_
  subst h
  exact we_ret_fn (rs1 rfl (rv_cN rfl rfl a26 s26 rfl)) (Le.agd ⟨(Le.refl _), (Le.refl _), (Le.refl _), (Le.refl _), (Le.refl _), (Le.refl _), (Le.refl _), (Le.refl _), Le.nil, trivial⟩)

theorem f52_c (n0 : Int) : Pu Try.prog 52 [.i .i64 n0] (.ag (R26 (f52 n0))) := by
  generalize h : f52 n0 = r
  unfold f52 at h
  refine fn_intro Try.func52 (by kernel_rfl) rfl rfl rfl (fun φφ ww => ?_)
  refine wc_seq ?_
  refine wc_region ?_
  refine WL.s ((b_alloc z26).does) (Wt.none rfl) rfl rfl ?_
  refine WL.nil ?_
  refine we_seq ?_
  refine wc_seq ?_
  refine wc_region ?_
  refine WL.q (y_move rfl) (Wt.none rfl) rfl rfl ?_
  refine WL.q (y_build p26 z26 rfl rfl) (Wt.none rfl) rfl rfl ?_
  refine WL.s0 (d_store rfl rfl rfl rfl rfl rfl s26 rfl rfl) (Wt.none rfl) rfl ?_
  refine WL.nil ?_
  refine we_seq ?_
  refine wc_ret ?_
  subst h
  exact we_ret_fn (rs1 rfl (rv_cN rfl rfl a26 s26 rfl)) (Le.agd ⟨(Le.refl _), (Le.refl _), (Le.refl _), (Le.refl _), (Le.refl _), (Le.refl _), (Le.refl _), (Le.refl _), Le.nil, trivial⟩)

theorem f51_c (i0 : Int) : Pu Try.prog 51 [.i .i64 i0] (.ag (R26 (f51 i0))) := by
  generalize h : f51 i0 = r
  unfold f51 at h
  refine fn_intro Try.func51 (by kernel_rfl) rfl rfl rfl (fun φφ ww => ?_)
  refine wc_seq ?_
  refine wc_region ?_
  refine WL.s ((b_alloc z26).does) (Wt.none rfl) rfl rfl ?_
  refine WL.nil ?_
  refine we_seq ?_
  refine wc_seq ?_
  refine wc_region ?_
  refine WL.q (y_move rfl) (Wt.none rfl) rfl rfl ?_
  refine WL.fn rfl rfl rfl rfl (f26_c _) ⟨(Le.refl _), trivial⟩ (Wt.none rfl) rfl rfl ?_
  refine WL.s ((NewOs.b (n_buildSlice l24 z26 rfl (by decide) (by decide) rfl rfl rfl (by decide))).does) (Wt.none rfl) rfl rfl ?_
  refine WL.q (y_buildS p26 z26 rfl rfl) (Wt.none rfl) rfl rfl ?_
  refine WL.s0 (d_storeS rfl rfl rfl rfl rfl rfl s26 rfl rfl) (Wt.none rfl) rfl ?_
  refine WL.nil ?_
  refine we_seq ?_
  refine wc_ret ?_
  refine WE.freezeX [5] [(0, 8)] 1 (List.map E26 [(f26 i0)]) rfl (encA_map E26_eq [(f26 i0)]) ⟨rfl, trivial⟩ ⟨_, _, rfl, rfl, trivial⟩ ?_
  subst h
  exact we_ret_fn (rs1 rfl (rv_cN rfl rfl a26 s26 rfl)) (Le.agd ⟨(Le.refl _), (Le.refl _), (Le.refl _), (Le.refl _), (Le.refl _), (Le.refl _), (Le.refl _), (Le.refl _), (Le.refl _), trivial⟩)

theorem f47s_c (rec47 : (List Int) → CE → Option (List Int)) (l : List Int) (e0 : CE) (hrec47 : ∀ {ver : Nat} (l : List Int) (x0 : CE) (r : List Int), rec47 l x0 = some r → Ctr Try.prog 47 [.d (.ag (R26 x0)), .pt 0 0, .pt 1 0] [.row 33 [.os 2 ver], .row 74 [.fn (.func 47) [] [.pt 0 0, .pt 1 0]], .os 3 1 ver (List.map (encA E3) l)] (WinX 3 (.tu []) (fun iv => [.row 33 [.os 2 iv], .row 74 [.fn (.func 47) [] [.pt 0 0, .pt 1 0]], .os 3 1 iv (List.map (encA E3) r)]))) {ver : Nat} {r : List Int} (h : f47s rec47 l e0 = some r) : Ctr Try.prog 47 [.d (.ag (R26 e0)), .pt 0 0, .pt 1 0] [.row 33 [.os 2 ver], .row 74 [.fn (.func 47) [] [.pt 0 0, .pt 1 0]], .os 3 1 ver (List.map (encA E3) l)] (WinX 3 (.tu []) (fun iv => [.row 33 [.os 2 iv], .row 74 [.fn (.func 47) [] [.pt 0 0, .pt 1 0]], .os 3 1 iv (List.map (encA E3) r)])) := by
  unfold f47s at h
  refine ctr_intro Try.func47 (by kernel_rfl) rfl rfl rfl (fun mm φφ ww hmm => ?_)
  refine wc_seq ?_
  refine wc_region ?_
  refine WL.s ((b_boxd rfl rfl (Les.refl _)).does) (Wt.none rfl) rfl rfl ?_
  refine WL.nil ?_
  refine we_seq ?_
  replace h := letkS h
  obtain ⟨k34, hk34, h⟩ := h
  refine wc_cut (fun env' st' => ∃ (l32 : List Int), ∃ (ver33 : Nat), k34 l32 = some r ∧ Sub [(2, .pt 1 0), (3, .d (.pc (R26 e0)))] env' ∧ SLe st' [.row 33 [.os 2 ver33], .row 74 [.fn (.func 47) [] [.pt 0 0, .pt 1 0]], .os 3 1 ver33 (List.map (encA E3) l32)]) ?_ ?_
  · refine wc_seq ?_
    refine wc_region ?_
    refine WL.q (y_fieldAddrc f26_0 rfl) (Wt.none rfl) rfl rfl ?_
    refine WL.q (y_loadc rfl a22 rfl) (Wt.none rfl) rfl rfl ?_
    refine WL.q (y_eql rfl rfl) (Wt.none rfl) rfl rfl ?_
    refine WL.q (y_move rfl) (Wt.none rfl) rfl rfl ?_
    apply WL.or 4 (t := 9) (d := 13)
    · exact rfl
    · intro hg9
      refine WL.q (y_fieldAddrc f26_0 rfl) (Wt.yes rfl rfl rfl) rfl rfl ?_
      refine WL.q (y_loadc rfl a22 rfl) (Wt.yes rfl rfl rfl) rfl rfl ?_
      refine WL.q (y_eql rfl rfl) (Wt.yes rfl rfl rfl) rfl rfl ?_
      refine WL.q (y_pick_f rfl rfl) (Wt.none rfl) rfl rfl ?_
      exact WL.nil ⟨rfl, [_, _, _, _], rfl, rfl, rfl⟩
    · refine WL.skips 3 rfl ?_
      refine WL.q (y_pick_t rfl rfl) (Wt.none rfl) rfl rfl ?_
      exact WL.nil ⟨rfl, [_, _, _, _], rfl, rfl, rfl⟩
    refine WL.nil ?_
    refine we_seq ?_
    refine wc_cond rfl (fun hc1 => ?_) (fun hc1 => ?_)
    · replace h := condT h hc1
      refine wc_region ?_
      refine WL.q (y_load rfl rfl a33 rfl) (Wt.none rfl) rfl rfl ?_
      refine WL.q (y_fieldAddrc f26_3 rfl) (Wt.none rfl) rfl rfl ?_
      refine WL.q (y_loadc rfl a3 rfl) (Wt.none rfl) rfl rfl ?_
      refine WL.s ((NewOs.b (n_buildSlice l33 z3 rfl (by decide) (by decide) rfl rfl rfl (by decide))).does) (Wt.none rfl) rfl rfl ?_
      replace h := guardBS h
      obtain ⟨hgg35, h⟩ := h
      refine WL.s (d_appendL E3 l [e0.o] l33 z3 rfl (by decide) rfl rfl rfl rfl (Src.own rfl) (fun _ => rfl) (fun _ => rfl) hgg35) (Wt.none rfl) rfl rfl ?_
      refine WL.s0 (d_store1 rfl rfl rfl (one_os rfl) s33 rfl) (Wt.none rfl) rfl ?_
      refine WL.nil ?_
      refine WE.drop 3 (env' := [(2, .pt 1 0), (3, .d (.pc (R26 e0)))]) (Sub.one rfl (Sub.one rfl (Sub.nil _))) rfl (stLt_cons rfl (stLt_cons rfl (stLt_cons (lt_os _ _ _ _ _ _) rfl))) (Nat.le_trans (Nat.le_of_eq hmm) (Nat.le_of_ble_eq_true rfl)) ?_
      exact we_lp ⟨(l ++ [e0.o]), _, h, (Sub.cons rfl (Le.refl _) (Sub.cons rfl (Le.refl _) (Sub.nil _))), ⟨⟨rfl, ⟨(Le.refl _), trivial⟩⟩, ⟨rfl, ⟨(Le.refl _), trivial⟩⟩, ⟨rfl, rfl, rfl, rfl⟩, trivial⟩⟩
    · replace h := condF h hc1
      refine wc_skip ?_
      exact we_lp ⟨l, _, h, (Sub.cons rfl (Le.refl _) (Sub.cons rfl (Le.refl _) (Sub.nil _))), ⟨⟨rfl, ⟨(Le.refl _), trivial⟩⟩, ⟨rfl, ⟨(Le.refl _), trivial⟩⟩, ⟨rfl, rfl, rfl, rfl⟩, trivial⟩⟩
  · rintro env1 st1 ⟨l32, ver33, h, hsub, hst⟩
    subst hk34
    dsimp only at h
    refine WC.sub hsub (WC.weak hst ?_)
    refine wc_seq ?_
    refine wc_region ?_
    refine WL.q (y_fieldAddrc f26_8 rfl) (Wt.none rfl) rfl rfl ?_
    refine WL.q (y_loadc rfl a24 rfl) (Wt.none rfl) rfl rfl ?_
    refine WL.q (y_len_map E26 e0.l e24 rfl rfl (Le.refl _)) (Wt.none rfl) rfl rfl ?_
    refine WL.q (y_move rfl) (Wt.none rfl) rfl rfl ?_
    refine WL.nil ?_
    refine we_seq ?_
    refine wc_block ?_
    refine wc_loop (fun n env' st' => ∃ (t39 : Int), ∃ (l40 : List Int), ∃ (ver41 : Nat), f47s_l1 rec47 l e0 n t39 l40 = some r ∧ Sub [(2, .pt 1 0), (20, .d (.sl (List.map E26 e0.l))), (21, .d (D.i .i64 (List.length e0.l : Int))), (22, .d (D.i .i64 t39))] env' ∧ SLe st' [.row 33 [.os 2 ver41], .row 74 [.fn (.func 47) [] [.pt 0 0, .pt 1 0]], .os 3 1 ver41 (List.map (encA E3) l40)]) (fun n => n) (Int.toNat ((List.length e0.l : Int) - 0) + 1) ⟨0, l32, _, h, (Sub.cons rfl (Le.refl _) (Sub.cons rfl (Le.refl _) (Sub.cons rfl (Le.refl _) (Sub.cons rfl (Le.refl _) (Sub.nil _))))), ⟨⟨rfl, ⟨(Le.refl _), trivial⟩⟩, ⟨rfl, ⟨(Le.refl _), trivial⟩⟩, ⟨rfl, rfl, rfl, rfl⟩, trivial⟩⟩ ?_
    rintro n env1 st1 ⟨t39, l40, ver41, h, hsub, hst⟩
    cases n with
    | zero => rw [f47s_l1] at h; cases h
    | succ n =>
    rw [f47s_l1] at h
    refine WC.sub hsub (WC.weak hst ?_)
    refine wc_seq ?_
    refine wc_region ?_
    refine WL.q (y_lss rfl rfl) (Wt.none rfl) rfl rfl ?_
    refine WL.nil ?_
    refine we_seq ?_
    refine wc_seq ?_
    refine wc_cond rfl (fun hc2 => ?_) (fun hc2 => ?_)
    · replace h := condT h hc2
      refine wc_skip ?_
      refine we_seq ?_
      refine wc_seq ?_
      refine wc_block ?_
      refine wc_seq ?_
      refine wc_region ?_
      replace h := bindS h
      obtain ⟨x45, hx45, h⟩ := h
      refine WL.q (y_indexAddr e24 rfl (Le.refl _) rfl (idx_nonneg hx45) (idx_row E26_eq hx45) rfl) (Wt.none rfl) rfl rfl ?_
      refine WL.q (y_loadcN rfl a26 s26 rfl) (Wt.none rfl) rfl rfl ?_
      refine WL.s ((b_alloc z26).does) (Wt.none rfl) rfl rfl ?_
      refine WL.s0 (d_store rfl rfl rfl rfl rfl rfl s26 rfl rfl) (Wt.none rfl) rfl ?_
      refine WL.nil ?_
      refine we_seq ?_
      refine wc_region ?_
      refine WL.q (y_load rfl rfl a74 rfl) (Wt.none rfl) rfl rfl ?_
      refine WL.q (y_loadN rfl rfl a26 s26 rfl) (Wt.none rfl) rfl rfl ?_
      replace h := bindS h
      obtain ⟨r46, hr46, h⟩ := h
      refine WL.winy [0, 1, 2] rfl rfl rfl rfl (hrec47 _ _ _ hr46) ⟨(Le.agd ⟨(Le.refl _), (Le.refl _), (Le.refl _), (Le.refl _), (Le.refl _), (Le.refl _), (Le.refl _), (Le.refl _), (Le.refl _), trivial⟩), Le.refl _, Le.refl _, trivial⟩ rfl (by decide) (cons_eq rfl (cons_eq rfl (cons_eq (ren_os _ _ _ _ _ _) rfl))) ⟨rfl, rfl, rfl, trivial⟩ (stLt_cons rfl (stLt_cons rfl (stLt_cons (lt_os _ _ _ _ _ _) rfl))) rfl (fun _ => (stLt_cons rfl (stLt_cons rfl (stLt_cons (lt_os _ _ _ _ _ _) rfl)))) (fun _ => (cons_eq rfl (cons_eq rfl (cons_eq (ren_os _ _ _ _ _ _) rfl)))) (Wt.none rfl) rfl rfl (fun ver46 => ?_)
      refine WL.nil ?_
      refine we_blk ?_
      refine we_seq ?_
      refine wc_region ?_
      refine WL.q (y_add rfl rfl rfl) (Wt.none rfl) rfl rfl ?_
      refine WL.q (y_move rfl) (Wt.none rfl) rfl rfl ?_
      refine WL.nil ?_
      refine WE.drop 3 (env' := [(2, .pt 1 0), (20, .d (.sl (List.map E26 e0.l))), (21, .d (D.i .i64 (List.length e0.l : Int))), (22, .d (D.i .i64 (IntKind.i64.wrap (t39 + 1))))]) (Sub.one rfl (Sub.one rfl (Sub.one rfl (Sub.one rfl (Sub.nil _))))) rfl (stLt_cons rfl (stLt_cons rfl (stLt_cons (lt_os _ _ _ _ _ _) rfl))) (Nat.le_trans (Nat.le_of_eq hmm) (Nat.le_of_ble_eq_true rfl)) ?_
      exact we_lp ⟨n, ⟨(IntKind.i64.wrap (t39 + 1)), r46, _, h, (Sub.cons rfl (Le.refl _) (Sub.cons rfl (Le.refl _) (Sub.cons rfl (Le.refl _) (Sub.cons rfl (Le.refl _) (Sub.nil _))))), ⟨⟨rfl, ⟨(Le.refl _), trivial⟩⟩, ⟨rfl, ⟨(Le.refl _), trivial⟩⟩, ⟨rfl, rfl, rfl, rfl⟩, trivial⟩⟩, Nat.lt_succ_self n⟩
    · replace h := condF h hc2
      refine wc_exit ?_
      refine we_seq_exit ?_
      refine we_lp_exit ?_
      refine we_blk_hit ?_
      refine we_end ?_
      obtain rfl := Option.some.inj h
      exact we_ret_winx ver41 (res0 rfl) (Le.tud trivial) rfl ⟨⟨rfl, ⟨(Le.refl _), trivial⟩⟩, ⟨rfl, ⟨(Le.refl _), trivial⟩⟩, ⟨rfl, rfl, rfl, rfl⟩, trivial⟩

theorem f47_c : ∀ (n : Nat) {ver : Nat} (l : List Int) (x0 : CE) {r : List Int}, f47 n l x0 = some r → Ctr Try.prog 47 [.d (.ag (R26 x0)), .pt 0 0, .pt 1 0] [.row 33 [.os 2 ver], .row 74 [.fn (.func 47) [] [.pt 0 0, .pt 1 0]], .os 3 1 ver (List.map (encA E3) l)] (WinX 3 (.tu []) (fun iv => [.row 33 [.os 2 iv], .row 74 [.fn (.func 47) [] [.pt 0 0, .pt 1 0]], .os 3 1 iv (List.map (encA E3) r)]))
  | 0, _, _, _, _, h => by cases h
  | n + 1, _, l, x0, _, h => f47s_c (f47 n) l x0 (fun l x0 _ h => f47_c n l x0 h) h

theorem f48_c {ver : Nat} (l : List Int) {r : List Int} (h : f48 l = some r) : Ctr Try.prog 48 [.os 0 ver] [.os 3 1 ver (List.map (encA E3) l)] (WinX 1 (.tu []) (fun _ => [.os 3 1 ver (List.map (encA E3) r)])) := by
  unfold f48 at h
  obtain ⟨h1, h⟩ := guardBS h
  obtain rfl := Option.some.inj h
  exact ctr_sort ⟨Try.f48, Try.func48, by kernel_rfl, by kernel_rfl⟩ (fun blk off cap zs w a b c => Go.Proofs.Any.slices_Sort_int Try.laysSort blk off cap zs w a b c) (fun p cap w => Go.Proofs.Any.slices_Sort_int_none Try.laysSort p cap w) (of_decide_eq_true h1)

theorem f49_c {ver : Nat} (l : List Int) {r : List Int} (h : f49 l = some r) : Ctr Try.prog 49 [.os 0 ver] [.os 3 1 ver (List.map (encA E3) l)] (WinX 1 (.sl (List.map E3 r)) (fun _ => [.dead])) := by
  obtain rfl := Option.some.inj h
  exact ctr_compact ⟨Try.f49, Try.func49, by kernel_rfl, by kernel_rfl⟩ (fun blk off cap zs w a b c => Go.Proofs.Any.slices_Compact_int Try.laysCompact blk off cap zs w a b c) (fun p cap w => Go.Proofs.Any.slices_Compact_int_empty Try.laysCompact p cap w) (Lib.compact_length_le l)

theorem f18_c (e0 : CE) {r : List Int} (h : f18 e0 = some r) : Pu Try.prog 18 [.ag (R26 e0)] (.sl (List.map E3 r)) := by
  unfold f18 at h
  refine fn_intro Try.func18 (by kernel_rfl) rfl rfl rfl (fun φφ ww => ?_)
  refine wc_seq ?_
  refine wc_region ?_
  refine WL.s ((b_boxd rfl rfl (Les.refl _)).does) (Wt.none rfl) rfl rfl ?_
  refine WL.q (y_assign rfl) (Wt.none rfl) rfl rfl ?_
  refine WL.nil ?_
  refine we_seq ?_
  refine wc_seq ?_
  refine wc_region ?_
  refine WL.s ((b_alloc z33).does) (Wt.none rfl) rfl rfl ?_
  refine WL.nil ?_
  refine we_seq ?_
  refine wc_seq ?_
  refine wc_region ?_
  refine WL.s ((b_alloc z74).does) (Wt.none rfl) rfl rfl ?_
  refine WL.nil ?_
  refine we_seq ?_
  refine wc_seq ?_
  refine wc_region ?_
  refine WL.q (y_makeFunc rfl rfl) (Wt.none rfl) rfl rfl ?_
  refine WL.s0 (d_store rfl rfl rfl rfl rfl rfl s74 rfl rfl) (Wt.none rfl) rfl ?_
  refine WL.nil ?_
  refine we_seq ?_
  refine WC.nil_cell 0 0 3 1 rfl rfl ?_
  replace h := letkS h
  obtain ⟨k19, hk19, h⟩ := h
  refine wc_cut (fun env' st' => ∃ (l17 : List Int), ∃ (ver18 : Nat), k19 l17 = some r ∧ Sub [(3, .pt 0 0)] env' ∧ SLe st' [.row 33 [.os 2 ver18], .row 74 [.fn (.func 47) [] [.pt 0 0, .pt 1 0]], .os 3 1 ver18 (List.map (encA E3) l17)]) ?_ ?_
  · refine wc_seq ?_
    refine wc_region ?_
    refine WL.q (y_loadcN rfl a26 s26 rfl) (Wt.none rfl) rfl rfl ?_
    replace h := bindS h
    obtain ⟨r20, hr20, h⟩ := h
    refine WL.fn rfl rfl rfl rfl (f13_c _ _ hr20) ⟨(Le.refl _), (Le.refl _), trivial⟩ (Wt.none rfl) rfl rfl ?_
    refine WL.nil ?_
    refine we_seq ?_
    refine wc_cond rfl (fun hc1 => ?_) (fun hc1 => ?_)
    · replace h := condT h hc1
      refine wc_region ?_
      refine WL.q (y_load rfl rfl a74 rfl) (Wt.none rfl) rfl rfl ?_
      refine WL.q (y_loadcN rfl a26 s26 rfl) (Wt.none rfl) rfl rfl ?_
      replace h := bindS h
      obtain ⟨r21, hr21, h⟩ := h
      refine WL.winy [0, 1, 2] rfl rfl rfl rfl (f47_c 100 _ _ hr21) ⟨(Le.refl _), Le.refl _, Le.refl _, trivial⟩ rfl (by decide) (cons_eq rfl (cons_eq rfl (cons_eq (ren_os _ _ _ _ _ _) rfl))) ⟨rfl, rfl, rfl, trivial⟩ (stLt_cons rfl (stLt_cons rfl (stLt_cons (lt_os _ _ _ _ _ _) rfl))) rfl (fun _ => (stLt_cons rfl (stLt_cons rfl (stLt_cons (lt_os _ _ _ _ _ _) rfl)))) (fun _ => (cons_eq rfl (cons_eq rfl (cons_eq (ren_os _ _ _ _ _ _) rfl)))) (Wt.none rfl) rfl rfl (fun ver21 => ?_)
      refine WL.nil ?_
      exact we_lp ⟨r21, _, h, (Sub.cons rfl (Le.refl _) (Sub.nil _)), ⟨⟨rfl, ⟨(Le.refl _), trivial⟩⟩, ⟨rfl, ⟨(Le.refl _), trivial⟩⟩, ⟨rfl, rfl, rfl, rfl⟩, trivial⟩⟩
    · replace h := condF h hc1
      refine wc_skip ?_
      exact we_lp ⟨[], _, h, (Sub.cons rfl (Le.refl _) (Sub.nil _)), ⟨⟨rfl, ⟨(Le.refl _), trivial⟩⟩, ⟨rfl, ⟨(Le.refl _), trivial⟩⟩, ⟨rfl, rfl, rfl, rfl⟩, trivial⟩⟩
  · rintro env1 st1 ⟨l17, ver18, h, hsub, hst⟩
    subst hk19
    dsimp only at h
    refine WC.sub hsub (WC.weak hst ?_)
    refine wc_seq ?_
    refine wc_region ?_
    refine WL.q (y_load rfl rfl a33 rfl) (Wt.none rfl) rfl rfl ?_
    replace h := bindS h
    obtain ⟨r22, hr22, h⟩ := h
    refine WL.winy [2] rfl rfl rfl rfl (f48_c _ hr22) ⟨Le.refl _, trivial⟩ rfl (by decide) (cons_eq (ren_os _ _ _ _ _ _) rfl) ⟨rfl, trivial⟩ (stLt_cons (lt_os _ _ _ _ _ _) rfl) rfl (fun _ => (stLt_cons (lt_os _ _ _ _ _ _) rfl)) (fun _ => (cons_eq (ren_os _ _ _ _ _ _) rfl)) (Wt.none rfl) rfl rfl (fun ver22 => ?_)
    refine WL.nil ?_
    refine we_seq ?_
    refine wc_seq ?_
    refine wc_region ?_
    refine WL.q (y_load rfl rfl a33 rfl) (Wt.none rfl) rfl rfl ?_
    replace h := bindS h
    obtain ⟨r23, hr23, h⟩ := h
    refine WL.winy [2] rfl rfl rfl rfl (f49_c _ hr23) ⟨Le.refl _, trivial⟩ rfl (by decide) (cons_eq (ren_os _ _ _ _ _ _) rfl) ⟨rfl, trivial⟩ (stLt_cons (lt_os _ _ _ _ _ _) rfl) rfl (fun _ => rfl) (fun _ => (cons_eq rfl rfl)) (Wt.none rfl) rfl rfl (fun ver23 => ?_)
    refine WL.q (y_assign rfl) (Wt.none rfl) rfl rfl ?_
    refine WL.nil ?_
    refine we_seq ?_
    refine wc_ret ?_
    obtain rfl := Option.some.inj h
    exact we_ret_fn (rs1 rfl (rv_t rfl)) (Le.refl _)

end Go.Proofs.Ytjjgmpmhfodmeaa
