/- The walks of functions that this law reaches. -/
import Derived.Test.YteafckpdbmncfaaDoorWd
set_option maxHeartbeats 4000000
set_option maxRecDepth 100000
namespace Go.Proofs.YteafckpdbmncfaaDoor
open Go Go.Sk

theorem f21_c (t0 : Table) (a1 : Int) (b2 : Int) {r : Bool} (h : f21 t0 a1 b2 = some r) : Pu Tryd.prog 21 [.ag (R28 t0), .i .i64 a1, .i .i64 b2] (.b r) := by
 unfold f21 at h
 refine fn_intro Tryd.func21 (by kernel_rfl) rfl rfl rfl (fun φφ ww => ?_)
 refine wc_sr ?_
 refine WL.s ((b_boxd rfl rfl (Les.refl _)).does) (Wt.none rfl) rfl rfl ?_
 refine WL.as rfl rfl ?_
 refine WL.ns ?_
 refine wc_seq ?_
 refine wc_region_draw (by kernel_rfl) (by kernel_rfl) ?_
 refine WQ.qn (y_move rfl) rfl ?_
 refine WQ.qn (y_fieldAddrc f28_1 rfl) rfl ?_
 refine WQ.qn (y_loadc rfl a23 rfl) rfl ?_
 refine WQ.qn (y_len_map E40 t0.subs e23 rfl rfl (Le.refl _)) rfl ?_
 refine WQ.q (YieldsQ.fn rfl rfl rfl rfl rfl (f51_c _ _) ⟨(Le.refl _), (Le.refl _), trivial⟩) (Wt.none rfl) rfl rfl ?_
 refine WQ.qn (y_move rfl) rfl ?_
 apply WQ.and 6 (t := 12) (d := 18)
 ·exact rfl
 ·intro hg12
  refine WQ.qy (y_move rfl) rfl rfl rfl ?_
  refine WQ.qy (y_fieldAddrc f28_1 rfl) rfl rfl rfl ?_
  refine WQ.qy (y_loadc rfl a23 rfl) rfl rfl rfl ?_
  refine WQ.qy (y_len_map E40 t0.subs e23 rfl rfl (Le.refl _)) rfl rfl rfl ?_
  refine WQ.q (YieldsQ.fn rfl rfl rfl rfl rfl (f51_c _ _) ⟨(Le.refl _), (Le.refl _), trivial⟩) (Wt.yes rfl rfl rfl) rfl rfl ?_
  refine WQ.qn (y_pick_t rfl rfl) rfl ?_
  exact WQ.nil ⟨[_, _, _, _, _, _], rfl, rfl, rfl⟩
 ·refine WQ.skips 5 rfl ?_
  refine WQ.qn (y_pick_f rfl rfl) rfl ?_
  exact WQ.nil ⟨[_, _, _, _, _, _], rfl, rfl, rfl⟩
 refine WQ.qn (y_move rfl) rfl ?_
 obtain ⟨b36, hb36, h⟩ := bindS h
 apply WQ.grp 12 (t := 19) (d := 31) (z := b36)
 ·exact rfl
 ·intro hg19
  have h := condT hb36 hg19
  refine WQ.qy (y_fieldAddrc f28_1 rfl) rfl rfl rfl ?_
  refine WQ.qy (y_loadc rfl a23 rfl) rfl rfl rfl ?_
  refine WQ.qy (y_move rfl) rfl rfl rfl ?_
  obtain ⟨x37, hx37, h⟩ := bindS h
  refine WQ.qy (y_indexAddr e23 rfl (Le.refl _) rfl (idx_nonneg hx37) (idx_row E40_eq hx37) rfl) rfl rfl rfl ?_
  refine WQ.qy (y_loadcN rfl a40 s40 rfl) rfl rfl rfl ?_
  refine WQ.qy (y_fieldAddrc f28_1 rfl) rfl rfl rfl ?_
  refine WQ.qy (y_loadc rfl a23 rfl) rfl rfl rfl ?_
  refine WQ.qy (y_move rfl) rfl rfl rfl ?_
  obtain ⟨x38, hx38, h⟩ := bindS h
  refine WQ.qy (y_indexAddr e23 rfl (Le.refl _) rfl (idx_nonneg hx38) (idx_row E40_eq hx38) rfl) rfl rfl rfl ?_
  refine WQ.qy (y_loadcN rfl a40 s40 rfl) rfl rfl rfl ?_
  refine WQ.qy (y_eqst (xs := [.int .i64 x37.t, .int .i64 x37.lo, .int .i64 x37.hi]) (ys := [.int .i64 x38.t, .int .i64 x38.lo, .int .i64 x38.hi]) (b := ((decide (x37.t = x38.t)) && ((decide (x37.lo = x38.lo)) && ((decide (x37.hi = x38.hi)) && true)))) q40 rfl (Le.refl _) rfl (Le.refl _) rfl rfl rfl) rfl rfl rfl ?_
  refine WQ.qn (y_pick_t rfl rfl) rfl ?_
  obtain rfl := Option.some.inj h
  exact WQ.nil ⟨[_, _, _, _, _, _, _, _, _, _, _, _], rfl, rfl, rfl⟩
 ·intro hg19
  have h := condF hb36 hg19
  refine WQ.skips 11 rfl ?_
  refine WQ.qn (y_pick_f rfl rfl) rfl ?_
  obtain rfl := Option.some.inj h
  exact WQ.nil ⟨[_, _, _, _, _, _, _, _, _, _, _, _], rfl, rfl, rfl⟩
 refine WQ.qn (y_assign rfl) rfl ?_
 refine WQ.nil ?_
 refine we_seq ?_
 refine wc_ret ?_
 obtain rfl := Option.some.inj h
 exact we_ret_fn (rs1 rfl (rv_t rfl)) (Le.refl _)

theorem f23_c (t0 : Table) (ty1 : Int) {r : Int} (h : f23 t0 ty1 = some r) : Pu Tryd.prog 23 [.ag (R28 t0), .i .i64 ty1] (.i .i64 r) := by
 unfold f23 at h
 refine fn_intro Tryd.func23 (by kernel_rfl) rfl rfl rfl (fun φφ ww => ?_)
 refine wc_sr ?_
 refine WL.s ((b_boxd rfl rfl (Les.refl _)).does) (Wt.none rfl) rfl rfl ?_
 refine WL.as rfl rfl ?_
 refine WL.ns ?_
 refine wc_seq ?_
 refine wc_sr ?_
 refine WL.mv rfl rfl ?_
 refine WL.qn (y_fieldAddrc f28_0 rfl) rfl ?_
 refine WL.qn (y_loadc rfl a22 rfl) rfl ?_
 refine WL.qn (y_len_map E54 t0.types e22 rfl rfl (Le.refl _)) rfl ?_
 refine WL.fn rfl rfl rfl rfl (f51_c _ _) ⟨(Le.refl _), (Le.refl _), trivial⟩ (Wt.none rfl) rfl rfl ?_
 refine WL.qn (y_not rfl) rfl ?_
 refine WL.ns ?_
 refine wc_cond rfl (fun hc1 => ?_) (fun hc1 => ?_)
 ·replace h := condT h hc1
  refine wc_sr ?_
  refine WL.as rfl rfl ?_
  refine WL.ns ?_
  refine wc_ret ?_
  refine we_seq_ret ?_
  obtain rfl := Option.some.inj h
  exact we_ret_fn (rs1 rfl (rv_t rfl)) (Le.refl _)
 ·replace h := condF h hc1
  refine wc_skip ?_
  refine we_seq ?_
  replace h := letkS h
  obtain ⟨k30, hk30, h⟩ := h
  refine wc_cut (fun env' st' => ∃ (ty29 : Int), k30 ty29 = some r ∧ Sub [(1, .d (D.i .i64 ty29))] env' ∧ SLe st' []) ?_ ?_
  ·refine wc_block ?_
   refine wc_loop (fun n env' st' => ∃ (ty32 : Int), f23_l1 t0 k30 n ty32 = some r ∧ Sub [(1, .d (D.i .i64 ty32)), (2, .d (.pc (R28 t0)))] env' ∧ SLe st' []) (fun n => n) 9223372036854775808 ⟨ty1, h, (Sub.cons rfl (Le.refl _) (Sub.cons rfl (Le.refl _) (Sub.nil _))), trivial⟩ ?_
   rintro n env1 st1 ⟨ty32, h, hsub, hst⟩
   cases n with
   | zero => rw [f23_l1] at h; cases h
   | succ n =>
   rw [f23_l1] at h
   refine WC.sub hsub (WC.weak hst ?_)
   refine wc_seq ?_
   refine wc_sr ?_
   refine WL.qn (y_fieldAddrc f28_0 rfl) rfl ?_
   refine WL.qn (y_loadc rfl a22 rfl) rfl ?_
   refine WL.mv rfl rfl ?_
   obtain ⟨x34, hx34, h⟩ := bindS h
   refine WL.qn (y_indexAddr e22 rfl (Le.refl _) rfl (idx_nonneg hx34) (idx_row E54_eq hx34) rfl) rfl ?_
   refine WL.qn (y_fieldAddrc f54_2 rfl) rfl ?_
   refine WL.qn (y_loadc rfl a3 rfl) rfl ?_
   refine WL.mv rfl rfl ?_
   refine WL.fn rfl rfl rfl rfl (f51_c _ _) ⟨(Le.refl _), (Le.refl _), trivial⟩ (Wt.none rfl) rfl rfl ?_
   refine WL.ns ?_
   refine wc_cond rfl (fun hc2 => ?_) (fun hc2 => ?_)
   ·replace h := condT h hc2
    refine wc_skip ?_
    refine we_seq ?_
    refine wc_block ?_
    refine wc_region ?_
    refine WL.qn (y_fieldAddrc f28_0 rfl) rfl ?_
    refine WL.qn (y_loadc rfl a22 rfl) rfl ?_
    refine WL.mv rfl rfl ?_
    obtain ⟨x35, hx35, h⟩ := bindS h
    refine WL.qn (y_indexAddr e22 rfl (Le.refl _) rfl (idx_nonneg hx35) (idx_row E54_eq hx35) rfl) rfl ?_
    refine WL.qn (y_fieldAddrc f54_2 rfl) rfl ?_
    refine WL.qn (y_loadc rfl a3 rfl) rfl ?_
    refine WL.as rfl rfl ?_
    refine WL.nil ?_
    refine we_blk ?_
    exact we_lp ⟨n, ⟨x35.parent, h, (Sub.cons rfl (Le.refl _) (Sub.cons rfl (Le.refl _) (Sub.nil _))), trivial⟩, Nat.lt_succ_self n⟩
   ·replace h := condF h hc2
    refine wc_exit ?_
    refine we_seq_exit ?_
    refine we_lp_exit ?_
    refine we_blk_hit ?_
    exact we_lp ⟨ty32, h, (Sub.cons rfl (Le.refl _) (Sub.nil _)), trivial⟩
  ·rintro env1 st1 ⟨ty29, h, hsub, hst⟩
   subst hk30
   dsimp only at h
   refine WC.sub hsub (WC.weak hst ?_)
   refine wc_sr ?_
   refine WL.mv rfl rfl ?_
   refine WL.as rfl rfl ?_
   refine WL.ns ?_
   refine wc_ret ?_
   obtain rfl := Option.some.inj h
   exact we_ret_fn (rs1 rfl (rv_t rfl)) (Le.refl _)

theorem f19_c (t0 : Table) (from1 : Int) (to2 : Int) {r : Bool} (h : f19 t0 from1 to2 = some r) : Pu Tryd.prog 19 [.ag (R28 t0), .i .i64 from1, .i .i64 to2] (.b r) := by
 unfold f19 at h
 refine fn_intro Tryd.func19 (by kernel_rfl) rfl rfl rfl (fun φφ ww => ?_)
 refine wc_sr ?_
 refine WL.s ((b_boxd rfl rfl (Les.refl _)).does) (Wt.none rfl) rfl rfl ?_
 refine WL.as rfl rfl ?_
 refine WL.ns ?_
 refine wc_seq ?_
 refine wc_sr ?_
 refine WL.mv rfl rfl ?_
 refine WL.qn (y_fieldAddrc f28_0 rfl) rfl ?_
 refine WL.qn (y_loadc rfl a22 rfl) rfl ?_
 refine WL.qn (y_len_map E54 t0.types e22 rfl rfl (Le.refl _)) rfl ?_
 refine WL.fn rfl rfl rfl rfl (f51_c _ _) ⟨(Le.refl _), (Le.refl _), trivial⟩ (Wt.none rfl) rfl rfl ?_
 refine WL.qn (y_not rfl) rfl ?_
 refine WL.mv rfl rfl ?_
 apply WL.or 7 (t := 17) (d := 24)
 ·exact rfl
 ·intro hg17
  refine WL.qy (y_move rfl) rfl rfl rfl ?_
  refine WL.qy (y_fieldAddrc f28_0 rfl) rfl rfl rfl ?_
  refine WL.qy (y_loadc rfl a22 rfl) rfl rfl rfl ?_
  refine WL.qy (y_len_map E54 t0.types e22 rfl rfl (Le.refl _)) rfl rfl rfl ?_
  refine WL.fn rfl rfl rfl rfl (f51_c _ _) ⟨(Le.refl _), (Le.refl _), trivial⟩ (Wt.yes rfl rfl rfl) rfl rfl ?_
  refine WL.qy (y_not rfl) rfl rfl rfl ?_
  refine WL.qn (y_pick_f rfl rfl) rfl ?_
  exact WL.nil ⟨rfl, [_, _, _, _, _, _, _], rfl, rfl, rfl⟩
 ·refine WL.skips 6 rfl ?_
  refine WL.qn (y_pick_t rfl rfl) rfl ?_
  exact WL.nil ⟨rfl, [_, _, _, _, _, _, _], rfl, rfl, rfl⟩
 refine WL.ns ?_
 refine wc_cond rfl (fun hc1 => ?_) (fun hc1 => ?_)
 ·replace h := condT h hc1
  refine wc_sr ?_
  refine WL.as rfl rfl ?_
  refine WL.ns ?_
  refine wc_ret ?_
  refine we_seq_ret ?_
  obtain rfl := Option.some.inj h
  exact we_ret_fn (rs1 rfl (rv_t rfl)) (Le.refl _)
 ·replace h := condF h hc1
  refine wc_skip ?_
  refine we_seq ?_
  refine wc_sr ?_
  refine WL.qn (y_fieldAddrc f28_0 rfl) rfl ?_
  refine WL.qn (y_loadc rfl a22 rfl) rfl ?_
  refine WL.mv rfl rfl ?_
  obtain ⟨x101, hx101, h⟩ := bindS h
  refine WL.qn (y_indexAddr e22 rfl (Le.refl _) rfl (idx_nonneg hx101) (idx_row E54_eq hx101) rfl) rfl ?_
  refine WL.qn (y_loadcN rfl a54 s54 rfl) rfl ?_
  refine WL.s ((b_alloc z54).does) (Wt.none rfl) rfl rfl ?_
  refine WL.s0 (d_store rfl rfl rfl rfl rfl rfl s54 rfl rfl) (Wt.none rfl) rfl ?_
  refine WL.st (st' := [.row 54 [.d (D.i .u8 x101.kind), .d (D.s x101.name), .d (D.i .i64 x101.parent), .d (D.i .i64 x101.first), .d (.sl (List.map E9 x101.lits)), .d (D.i .i64 x101.index), .d (D.i .i64 x101.elem), .d (D.i .i64 x101.disc), .d (D.s x101.discName), .d (D.b x101.has), .d (D.i .i64 x101.default_), .d (.sl (List.map E56 x101.comps)), .d (D.i .i64 x101.target), .d (D.i .u8 x101.formal), .d (D.b x101.limited), .d (D.i .i64 x101.priv), .d (D.i .i64 x101.full), .d (D.i .i64 x101.level)]]) rfl ?_
  refine WL.ns ?_
  refine wc_sr ?_
  refine WL.qn (y_fieldAddrc f28_0 rfl) rfl ?_
  refine WL.qn (y_loadc rfl a22 rfl) rfl ?_
  refine WL.mv rfl rfl ?_
  obtain ⟨x102, hx102, h⟩ := bindS h
  refine WL.qn (y_indexAddr e22 rfl (Le.refl _) rfl (idx_nonneg hx102) (idx_row E54_eq hx102) rfl) rfl ?_
  refine WL.qn (y_loadcN rfl a54 s54 rfl) rfl ?_
  refine WL.s ((b_alloc z54).does) (Wt.none rfl) rfl rfl ?_
  refine WL.s0 (d_store rfl rfl rfl rfl rfl rfl s54 rfl rfl) (Wt.none rfl) rfl ?_
  refine WL.st (st' := [.row 54 [.d (D.i .u8 x101.kind), .d (D.s x101.name), .d (D.i .i64 x101.parent), .d (D.i .i64 x101.first), .d (.sl (List.map E9 x101.lits)), .d (D.i .i64 x101.index), .d (D.i .i64 x101.elem), .d (D.i .i64 x101.disc), .d (D.s x101.discName), .d (D.b x101.has), .d (D.i .i64 x101.default_), .d (.sl (List.map E56 x101.comps)), .d (D.i .i64 x101.target), .d (D.i .u8 x101.formal), .d (D.b x101.limited), .d (D.i .i64 x101.priv), .d (D.i .i64 x101.full), .d (D.i .i64 x101.level)], .row 54 [.d (D.i .u8 x102.kind), .d (D.s x102.name), .d (D.i .i64 x102.parent), .d (D.i .i64 x102.first), .d (.sl (List.map E9 x102.lits)), .d (D.i .i64 x102.index), .d (D.i .i64 x102.elem), .d (D.i .i64 x102.disc), .d (D.s x102.discName), .d (D.b x102.has), .d (D.i .i64 x102.default_), .d (.sl (List.map E56 x102.comps)), .d (D.i .i64 x102.target), .d (D.i .u8 x102.formal), .d (D.b x102.limited), .d (D.i .i64 x102.priv), .d (D.i .i64 x102.full), .d (D.i .i64 x102.level)]]) rfl ?_
  refine WL.ns ?_
  refine wc_sr ?_
  refine WL.qn (y_fieldAddr f54_0 rfl) rfl ?_
  refine WL.qn (y_load rfl rfl a49 rfl) rfl ?_
  refine WL.qn (y_eql rfl rfl) rfl ?_
  refine WL.mv rfl rfl ?_
  apply WL.or 4 (t := 38) (d := 42)
  ·exact rfl
  ·intro hg38
   refine WL.qy (y_fieldAddr f54_0 rfl) rfl rfl rfl ?_
   refine WL.qy (y_load rfl rfl a49 rfl) rfl rfl rfl ?_
   refine WL.qy (y_eql rfl rfl) rfl rfl rfl ?_
   refine WL.qn (y_pick_f rfl rfl) rfl ?_
   exact WL.nil ⟨rfl, [_, _, _, _], rfl, rfl, rfl⟩
  ·refine WL.skips 3 rfl ?_
   refine WL.qn (y_pick_t rfl rfl) rfl ?_
   exact WL.nil ⟨rfl, [_, _, _, _], rfl, rfl, rfl⟩
  refine WL.mv rfl rfl ?_
  apply WL.and 9 (t := 43) (d := 52)
  ·exact rfl
  ·intro hg43
   refine WL.qy (y_fieldAddr f54_0 rfl) rfl rfl rfl ?_
   refine WL.qy (y_load rfl rfl a49 rfl) rfl rfl rfl ?_
   refine WL.qy (y_eql rfl rfl) rfl rfl rfl ?_
   refine WL.qy (y_move rfl) rfl rfl rfl ?_
   apply WL.or 4 (t := 47) (d := 51)
   ·exact rfl
   ·intro hg47
    refine WL.qy (y_fieldAddr f54_0 rfl) rfl rfl rfl ?_
    refine WL.qy (y_load rfl rfl a49 rfl) rfl rfl rfl ?_
    refine WL.qy (y_eql rfl rfl) rfl rfl rfl ?_
    refine WL.qy (y_pick_f rfl rfl) rfl rfl rfl ?_
    exact WL.nil ⟨rfl, [_, _, _, _], rfl, rfl, rfl⟩
   ·refine WL.skips 3 rfl ?_
    refine WL.qy (y_pick_t rfl rfl) rfl rfl rfl ?_
    exact WL.nil ⟨rfl, [_, _, _, _], rfl, rfl, rfl⟩
   refine WL.qn (y_pick_t rfl rfl) rfl ?_
   exact WL.nil ⟨rfl, [_, _, _, _, _, _], rfl, rfl, rfl⟩
  ·refine WL.skips 8 rfl ?_
   refine WL.qn (y_pick_f rfl rfl) rfl ?_
   exact WL.nil ⟨rfl, [_, _, _, _, _, _, _, _, _], rfl, rfl, rfl⟩
  refine WL.as rfl rfl ?_
  refine WL.ns ?_
  refine wc_seq ?_
  refine wc_region_draw (by kernel_rfl) (by kernel_rfl) ?_
  refine WQ.qn (y_fieldAddr f54_0 rfl) rfl ?_
  refine WQ.qn (y_load rfl rfl a49 rfl) rfl ?_
  refine WQ.qn (y_eql rfl rfl) rfl ?_
  refine WQ.qn (y_move rfl) rfl ?_
  apply WQ.and 4 (t := 56) (d := 60)
  ·exact rfl
  ·intro hg56
   refine WQ.qy (y_fieldAddr f54_0 rfl) rfl rfl rfl ?_
   refine WQ.qy (y_load rfl rfl a49 rfl) rfl rfl rfl ?_
   refine WQ.qy (y_eql rfl rfl) rfl rfl rfl ?_
   refine WQ.qn (y_pick_t rfl rfl) rfl ?_
   exact WQ.nil ⟨[_, _, _, _], rfl, rfl, rfl⟩
  ·refine WQ.skips 3 rfl ?_
   refine WQ.qn (y_pick_f rfl rfl) rfl ?_
   exact WQ.nil ⟨[_, _, _, _], rfl, rfl, rfl⟩
  refine WQ.qn (y_move rfl) rfl ?_
  obtain ⟨b103, hb103, h⟩ := bindS h
  apply WQ.grp 8 (t := 61) (d := 69) (z := b103)
  ·exact rfl
  ·intro hg61
   have h := condT hb103 hg61
   refine WQ.qy (y_loadcN rfl a28 s28 rfl) rfl rfl rfl ?_
   refine WQ.qy (y_move rfl) rfl rfl rfl ?_
   obtain ⟨r104, hr104, h⟩ := bindS h
   refine WQ.q (YieldsQ.fn rfl rfl rfl rfl rfl (f23_c _ _ hr104) ⟨(Le.refl _), (Le.refl _), trivial⟩) (Wt.yes rfl rfl rfl) rfl rfl ?_
   refine WQ.qy (y_loadcN rfl a28 s28 rfl) rfl rfl rfl ?_
   refine WQ.qy (y_move rfl) rfl rfl rfl ?_
   obtain ⟨r105, hr105, h⟩ := bindS h
   refine WQ.q (YieldsQ.fn rfl rfl rfl rfl rfl (f23_c _ _ hr105) ⟨(Le.refl _), (Le.refl _), trivial⟩) (Wt.yes rfl rfl rfl) rfl rfl ?_
   refine WQ.qy (y_eql rfl rfl) rfl rfl rfl ?_
   refine WQ.qn (y_pick_t rfl rfl) rfl ?_
   obtain rfl := Option.some.inj h
   exact WQ.nil ⟨[_, _, _, _, _, _, _, _], rfl, rfl, rfl⟩
  ·intro hg61
   have h := condF hb103 hg61
   refine WQ.skips 7 rfl ?_
   refine WQ.qn (y_pick_f rfl rfl) rfl ?_
   obtain rfl := Option.some.inj h
   exact WQ.nil ⟨[_, _, _, _, _, _, _, _], rfl, rfl, rfl⟩
  refine WQ.qn (y_assign rfl) rfl ?_
  refine WQ.nil ?_
  refine we_seq ?_
  refine wc_sr ?_
  refine WL.mv rfl rfl ?_
  refine WL.mv rfl rfl ?_
  refine WL.qn (y_eql rfl rfl) rfl ?_
  refine WL.mv rfl rfl ?_
  apply WL.or 2 (t := 73) (d := 75)
  ·exact rfl
  ·intro hg73
   refine WL.qy (y_move rfl) rfl rfl rfl ?_
   refine WL.qn (y_pick_f rfl rfl) rfl ?_
   exact WL.nil ⟨rfl, [_, _], rfl, rfl, rfl⟩
  ·refine WL.skips 1 rfl ?_
   refine WL.qn (y_pick_t rfl rfl) rfl ?_
   exact WL.nil ⟨rfl, [_, _], rfl, rfl, rfl⟩
  refine WL.mv rfl rfl ?_
  apply WL.or 2 (t := 76) (d := 78)
  ·exact rfl
  ·intro hg76
   refine WL.qy (y_move rfl) rfl rfl rfl ?_
   refine WL.qn (y_pick_f rfl rfl) rfl ?_
   exact WL.nil ⟨rfl, [_, _], rfl, rfl, rfl⟩
  ·refine WL.skips 1 rfl ?_
   refine WL.qn (y_pick_t rfl rfl) rfl ?_
   exact WL.nil ⟨rfl, [_, _], rfl, rfl, rfl⟩
  refine WL.mv rfl rfl ?_
  obtain ⟨b106, hb106, h⟩ := bindS h
  apply WL.grp 17 (t := 79) (d := 96) (z := b106)
  ·exact rfl
  ·intro hg79
   have h := condT hb106 hg79
   refine WL.skips 16 rfl ?_
   refine WL.qn (y_pick_t rfl rfl) rfl ?_
   obtain rfl := Option.some.inj h
   exact WL.nil ⟨rfl, [_, _, _, _, _, _, _, _, _, _, _, _, _, _, _, _, _], rfl, rfl, rfl⟩
  ·intro hg79
   have h := condF hb106 hg79
   refine WL.qy (y_fieldAddr f54_0 rfl) rfl rfl rfl ?_
   refine WL.qy (y_load rfl rfl a49 rfl) rfl rfl rfl ?_
   refine WL.qy (y_eql rfl rfl) rfl rfl rfl ?_
   refine WL.qy (y_move rfl) rfl rfl rfl ?_
   apply WL.and 4 (t := 83) (d := 87)
   ·exact rfl
   ·intro hg83
    refine WL.qy (y_fieldAddr f54_0 rfl) rfl rfl rfl ?_
    refine WL.qy (y_load rfl rfl a49 rfl) rfl rfl rfl ?_
    refine WL.qy (y_eql rfl rfl) rfl rfl rfl ?_
    refine WL.qy (y_pick_t rfl rfl) rfl rfl rfl ?_
    exact WL.nil ⟨rfl, [_, _, _, _], rfl, rfl, rfl⟩
   ·refine WL.skips 3 rfl ?_
    refine WL.qy (y_pick_f rfl rfl) rfl rfl rfl ?_
    exact WL.nil ⟨rfl, [_, _, _, _], rfl, rfl, rfl⟩
   refine WL.qy (y_move rfl) rfl rfl rfl ?_
   obtain ⟨b107, hb107, h⟩ := bindS h
   apply WL.grp 7 (t := 88) (d := 95) (z := b107)
   ·exact rfl
   ·intro hg88
    have h := condT hb107 hg88
    refine WL.qy (y_loadcN rfl a28 s28 rfl) rfl rfl rfl ?_
    refine WL.qy (y_fieldAddr f54_12 rfl) rfl rfl rfl ?_
    refine WL.qy (y_load rfl rfl a3 rfl) rfl rfl rfl ?_
    refine WL.qy (y_fieldAddr f54_12 rfl) rfl rfl rfl ?_
    refine WL.qy (y_load rfl rfl a3 rfl) rfl rfl rfl ?_
    obtain ⟨r108, hr108, h⟩ := bindS h
    refine WL.fn rfl rfl rfl rfl (f21_c _ _ _ hr108) ⟨(Le.refl _), (Le.refl _), (Le.refl _), trivial⟩ (Wt.yes rfl rfl rfl) rfl rfl ?_
    refine WL.qy (y_pick_t rfl rfl) rfl rfl rfl ?_
    obtain rfl := Option.some.inj h
    exact WL.nil ⟨rfl, [_, _, _, _, _, _, _], rfl, rfl, rfl⟩
   ·intro hg88
    have h := condF hb107 hg88
    refine WL.skips 6 rfl ?_
    refine WL.qy (y_pick_f rfl rfl) rfl rfl rfl ?_
    obtain rfl := Option.some.inj h
    exact WL.nil ⟨rfl, [_, _, _, _, _, _, _], rfl, rfl, rfl⟩
   refine WL.qn (y_pick_f rfl rfl) rfl ?_
   obtain rfl := Option.some.inj h
   exact WL.nil ⟨rfl, [_, _, _, _, _, _, _, _], rfl, rfl, rfl⟩
  refine WL.as rfl rfl ?_
  refine WL.ns ?_
  refine wc_ret ?_
  obtain rfl := Option.some.inj h
  exact we_ret_fn (rs1 rfl (rv_t rfl)) (Le.refl _)

theorem f4_c (t0 : Table) (a1 : Int) (b2 : Int) {r : Bool} (h : f4 t0 a1 b2 = some r) : Pu Tryd.prog 4 [.ag (R28 t0), .i .i64 a1, .i .i64 b2] (.b r) := by
 unfold f4 at h
 refine fn_intro Tryd.func4 (by kernel_rfl) rfl rfl rfl (fun φφ ww => ?_)
 refine wc_sr ?_
 refine WL.s ((b_box rfl rfl).does) (Wt.none rfl) rfl rfl ?_
 refine WL.as rfl rfl ?_
 refine WL.ns ?_
 refine wc_sr ?_
 refine WL.qn (y_loadN rfl rfl a28 s28 rfl) rfl ?_
 obtain ⟨r90, hr90, h⟩ := bindS h
 refine WL.fn rfl rfl rfl rfl (f10_c _ hr90) ⟨(Le.agd ⟨(Le.refl _), (Le.refl _), (Le.refl _), (Le.refl _), (Le.refl _), trivial⟩), trivial⟩ (Wt.none rfl) rfl rfl ?_
 refine WL.s0 (d_store rfl rfl rfl rfl rfl rfl s28 rfl rfl) (Wt.none rfl) rfl ?_
 refine WL.ns ?_
 refine wc_seq ?_
 refine wc_seq ?_
 refine wc_region_draw (by kernel_rfl) (by kernel_rfl) ?_
 refine WQ.qn (y_loadN rfl rfl a28 s28 rfl) rfl ?_
 refine WQ.qn (y_move rfl) rfl ?_
 refine WQ.qn (y_move rfl) rfl ?_
 obtain ⟨r91, hr91, h⟩ := bindS h
 refine WQ.q (YieldsQ.fn rfl rfl rfl rfl rfl (f18_c _ _ _ hr91) ⟨(Le.agd ⟨(Le.refl _), (Le.refl _), (Le.refl _), (Le.refl _), (Le.refl _), trivial⟩), (Le.refl _), (Le.refl _), trivial⟩) (Wt.none rfl) rfl rfl ?_
 refine WQ.qn (y_loadN rfl rfl a28 s28 rfl) rfl ?_
 refine WQ.qn (y_move rfl) rfl ?_
 refine WQ.qn (y_move rfl) rfl ?_
 obtain ⟨r92, hr92, h⟩ := bindS h
 refine WQ.q (YieldsQ.fn rfl rfl rfl rfl rfl (f19_c _ _ _ hr92) ⟨(Le.agd ⟨(Le.refl _), (Le.refl _), (Le.refl _), (Le.refl _), (Le.refl _), trivial⟩), (Le.refl _), (Le.refl _), trivial⟩) (Wt.none rfl) rfl rfl ?_
 refine WQ.qn (y_neb Tryd.underlying4 rfl rfl) rfl ?_
 refine WQ.qn (y_move rfl) rfl ?_
 obtain ⟨b93, hb93, h⟩ := bindS h
 apply WQ.grp 10 (t := 21) (d := 31) (z := b93)
 ·exact rfl
 ·intro hg21
  have h := condT hb93 hg21
  refine WQ.skips 9 rfl ?_
  refine WQ.qn (y_pick_t rfl rfl) rfl ?_
  obtain rfl := Option.some.inj h
  exact WQ.nil ⟨[_, _, _, _, _, _, _, _, _, _], rfl, rfl, rfl⟩
 ·intro hg21
  have h := condF hb93 hg21
  refine WQ.qy (y_loadN rfl rfl a28 s28 rfl) rfl rfl rfl ?_
  refine WQ.qy (y_move rfl) rfl rfl rfl ?_
  refine WQ.qy (y_move rfl) rfl rfl rfl ?_
  obtain ⟨r94, hr94, h⟩ := bindS h
  refine WQ.q (YieldsQ.fn rfl rfl rfl rfl rfl (f20_c _ _ _ hr94) ⟨(Le.agd ⟨(Le.refl _), (Le.refl _), (Le.refl _), (Le.refl _), (Le.refl _), trivial⟩), (Le.refl _), (Le.refl _), trivial⟩) (Wt.yes rfl rfl rfl) rfl rfl ?_
  refine WQ.qy (y_loadN rfl rfl a28 s28 rfl) rfl rfl rfl ?_
  refine WQ.qy (y_move rfl) rfl rfl rfl ?_
  refine WQ.qy (y_move rfl) rfl rfl rfl ?_
  obtain ⟨r95, hr95, h⟩ := bindS h
  refine WQ.q (YieldsQ.fn rfl rfl rfl rfl rfl (f21_c _ _ _ hr95) ⟨(Le.agd ⟨(Le.refl _), (Le.refl _), (Le.refl _), (Le.refl _), (Le.refl _), trivial⟩), (Le.refl _), (Le.refl _), trivial⟩) (Wt.yes rfl rfl rfl) rfl rfl ?_
  refine WQ.qy (y_neb Tryd.underlying4 rfl rfl) rfl rfl rfl ?_
  refine WQ.qn (y_pick_f rfl rfl) rfl ?_
  obtain rfl := Option.some.inj h
  exact WQ.nil ⟨[_, _, _, _, _, _, _, _, _, _], rfl, rfl, rfl⟩
 refine WQ.qn (y_move rfl) rfl ?_
 obtain ⟨b96, hb96, h⟩ := bindS h
 apply WQ.grp 8 (t := 32) (d := 40) (z := b96)
 ·exact rfl
 ·intro hg32
  have h := condT hb96 hg32
  refine WQ.skips 7 rfl ?_
  refine WQ.qn (y_pick_t rfl rfl) rfl ?_
  obtain rfl := Option.some.inj h
  exact WQ.nil ⟨[_, _, _, _, _, _, _, _], rfl, rfl, rfl⟩
 ·intro hg32
  have h := condF hb96 hg32
  refine WQ.qy (y_loadN rfl rfl a28 s28 rfl) rfl rfl rfl ?_
  refine WQ.qy (y_move rfl) rfl rfl rfl ?_
  obtain ⟨r97, hr97, h⟩ := bindS h
  refine WQ.q (YieldsQ.fn rfl rfl rfl rfl rfl (f22_c _ _ hr97) ⟨(Le.agd ⟨(Le.refl _), (Le.refl _), (Le.refl _), (Le.refl _), (Le.refl _), trivial⟩), (Le.refl _), trivial⟩) (Wt.yes rfl rfl rfl) rfl rfl ?_
  refine WQ.qy (y_loadN rfl rfl a28 s28 rfl) rfl rfl rfl ?_
  refine WQ.qy (y_move rfl) rfl rfl rfl ?_
  obtain ⟨r98, hr98, h⟩ := bindS h
  refine WQ.q (YieldsQ.fn rfl rfl rfl rfl rfl (f23_c _ _ hr98) ⟨(Le.agd ⟨(Le.refl _), (Le.refl _), (Le.refl _), (Le.refl _), (Le.refl _), trivial⟩), (Le.refl _), trivial⟩) (Wt.yes rfl rfl rfl) rfl rfl ?_
  refine WQ.qy (y_neq rfl rfl) rfl rfl rfl ?_
  refine WQ.qn (y_pick_f rfl rfl) rfl ?_
  obtain rfl := Option.some.inj h
  exact WQ.nil ⟨[_, _, _, _, _, _, _, _], rfl, rfl, rfl⟩
 refine WQ.nil ?_
 refine we_seq ?_
 refine wc_cond rfl (fun hc1 => ?_) (fun hc1 => ?_)
 ·replace h := condT h hc1
  refine wc_sr ?_
  refine WL.as rfl rfl ?_
  refine WL.ns ?_
  refine wc_ret ?_
  refine we_seq_ret ?_
  obtain rfl := Option.some.inj h
  exact we_ret_fn (rs1 rfl (rv_t rfl)) (Le.refl _)
 ·replace h := condF h hc1
  refine wc_skip ?_
  refine we_seq ?_
  refine wc_sr ?_
  refine WL.qn (y_fieldAddr f28_0 rfl) rfl ?_
  refine WL.qn (y_load rfl rfl a22 rfl) rfl ?_
  refine WL.qn (y_len_map E54 r90.types e22 rfl rfl (Le.refl _)) rfl ?_
  refine WL.qn (y_fieldAddr f28_1 rfl) rfl ?_
  refine WL.qn (y_load rfl rfl a23 rfl) rfl ?_
  refine WL.qn (y_len_map E40 r90.subs e23 rfl rfl (Le.refl _)) rfl ?_
  refine WL.qn (y_max rfl rfl rfl) rfl ?_
  refine WL.as rfl rfl ?_
  refine WL.ns ?_
  replace h := letkS h
  obtain ⟨k99, hk99, h⟩ := h
  refine wc_cut (fun env' st' => k99 () = some r ∧ Sub [] env' ∧ SLe st' [.row 28 [.d (.sl (List.map E54 r90.types)), .d (.sl (List.map E40 r90.subs)), .d (.v (SlV.v r90.ents)), .d (.v (SlV.v r90.gens)), .d (.v (SlV.v r90.insts))]]) ?_ ?_
  ·refine wc_sr ?_
   refine WL.as rfl rfl ?_
   refine WL.ns ?_
   refine wc_block ?_
   refine wc_loop (fun n env' st' => ∃ (x101 : Int), f4_l1 r90 k99 n x101 = some r ∧ Sub [(3, .pt 0 0), (7, .d (D.i .i64 (if (List.length r90.subs : Int) > (List.length r90.types : Int) then (List.length r90.subs : Int) else (List.length r90.types : Int)))), (8, .d (D.i .i64 x101))] env' ∧ SLe st' [.row 28 [.d (.sl (List.map E54 r90.types)), .d (.sl (List.map E40 r90.subs)), .d (.v (SlV.v r90.ents)), .d (.v (SlV.v r90.gens)), .d (.v (SlV.v r90.insts))]]) (fun n => n) 9223372036854775808 ⟨(-1), h, (Sub.cons rfl (Le.refl _) (Sub.cons rfl (Le.refl _) (Sub.cons rfl (Le.refl _) (Sub.nil _)))), ⟨⟨rfl, ⟨(Le.refl _), (Le.refl _), (Le.refl _), (Le.refl _), (Le.refl _), trivial⟩⟩, trivial⟩⟩ ?_
   rintro n env1 st1 ⟨x101, h, hsub, hst⟩
   cases n with
   | zero => rw [f4_l1] at h; cases h
   | succ n =>
   rw [f4_l1] at h
   refine WC.sub hsub (WC.weak hst ?_)
   refine wc_seq ?_
   refine wc_sr ?_
   refine WL.mv rfl rfl ?_
   refine WL.mv rfl rfl ?_
   refine WL.qn (y_leq rfl rfl) rfl ?_
   refine WL.ns ?_
   refine wc_cond rfl (fun hc2 => ?_) (fun hc2 => ?_)
   ·replace h := condT h hc2
    refine wc_skip ?_
    refine we_seq ?_
    replace h := letkS h
    obtain ⟨k103, hk103, h⟩ := h
    refine wc_cut (fun env' st' => k103 () = some r ∧ Sub [(3, .pt 0 0), (7, .d (D.i .i64 (if (List.length r90.subs : Int) > (List.length r90.types : Int) then (List.length r90.subs : Int) else (List.length r90.types : Int)))), (8, .d (D.i .i64 x101))] env' ∧ SLe st' [.row 28 [.d (.sl (List.map E54 r90.types)), .d (.sl (List.map E40 r90.subs)), .d (.v (SlV.v r90.ents)), .d (.v (SlV.v r90.gens)), .d (.v (SlV.v r90.insts))]]) ?_ ?_
    ·refine wc_block ?_
     replace h := letkS h
     obtain ⟨k104, hk104, h⟩ := h
     refine wc_cut (fun env' st' => k104 () = some r ∧ Sub [(3, .pt 0 0), (7, .d (D.i .i64 (if (List.length r90.subs : Int) > (List.length r90.types : Int) then (List.length r90.subs : Int) else (List.length r90.types : Int)))), (8, .d (D.i .i64 x101))] env' ∧ SLe st' [.row 28 [.d (.sl (List.map E54 r90.types)), .d (.sl (List.map E40 r90.subs)), .d (.v (SlV.v r90.ents)), .d (.v (SlV.v r90.gens)), .d (.v (SlV.v r90.insts))]]) ?_ ?_
     ·refine wc_sr ?_
      refine WL.as rfl rfl ?_
      refine WL.ns ?_
      refine wc_block ?_
      refine wc_loop (fun na env' st' => ∃ (y106 : Int), f4_l2 r90 x101 k104 na y106 = some r ∧ Sub [(3, .pt 0 0), (7, .d (D.i .i64 (if (List.length r90.subs : Int) > (List.length r90.types : Int) then (List.length r90.subs : Int) else (List.length r90.types : Int)))), (8, .d (D.i .i64 x101)), (9, .d (D.i .i64 y106))] env' ∧ SLe st' [.row 28 [.d (.sl (List.map E54 r90.types)), .d (.sl (List.map E40 r90.subs)), .d (.v (SlV.v r90.ents)), .d (.v (SlV.v r90.gens)), .d (.v (SlV.v r90.insts))]]) (fun n => n) 9223372036854775808 ⟨(-1), h, (Sub.cons rfl (Le.refl _) (Sub.cons rfl (Le.refl _) (Sub.cons rfl (Le.refl _) (Sub.cons rfl (Le.refl _) (Sub.nil _))))), ⟨⟨rfl, ⟨(Le.refl _), (Le.refl _), (Le.refl _), (Le.refl _), (Le.refl _), trivial⟩⟩, trivial⟩⟩ ?_
      rintro na env1 st1 ⟨y106, h, hsub, hst⟩
      cases na with
      | zero => rw [f4_l2] at h; cases h
      | succ na =>
      rw [f4_l2] at h
      refine WC.sub hsub (WC.weak hst ?_)
      refine wc_seq ?_
      refine wc_sr ?_
      refine WL.mv rfl rfl ?_
      refine WL.mv rfl rfl ?_
      refine WL.qn (y_leq rfl rfl) rfl ?_
      refine WL.ns ?_
      refine wc_cond rfl (fun hc3 => ?_) (fun hc3 => ?_)
      ·replace h := condT h hc3
       refine wc_skip ?_
       refine we_seq ?_
       refine wc_seq ?_
       refine wc_block ?_
       refine wc_seq ?_
       refine wc_region_draw (by kernel_rfl) (by kernel_rfl) ?_
       refine WQ.qn (y_loadN rfl rfl a28 s28 rfl) rfl ?_
       refine WQ.qn (y_move rfl) rfl ?_
       refine WQ.qn (y_move rfl) rfl ?_
       obtain ⟨r108, hr108, h⟩ := bindS h
       refine WQ.q (YieldsQ.fn rfl rfl rfl rfl rfl (f18_c _ _ _ hr108) ⟨(Le.agd ⟨(Le.refl _), (Le.refl _), (Le.refl _), (Le.refl _), (Le.refl _), trivial⟩), (Le.refl _), (Le.refl _), trivial⟩) (Wt.none rfl) rfl rfl ?_
       refine WQ.qn (y_loadN rfl rfl a28 s28 rfl) rfl ?_
       refine WQ.qn (y_move rfl) rfl ?_
       refine WQ.qn (y_move rfl) rfl ?_
       obtain ⟨r109, hr109, h⟩ := bindS h
       refine WQ.q (YieldsQ.fn rfl rfl rfl rfl rfl (f19_c _ _ _ hr109) ⟨(Le.agd ⟨(Le.refl _), (Le.refl _), (Le.refl _), (Le.refl _), (Le.refl _), trivial⟩), (Le.refl _), (Le.refl _), trivial⟩) (Wt.none rfl) rfl rfl ?_
       refine WQ.qn (y_neb Tryd.underlying4 rfl rfl) rfl ?_
       refine WQ.qn (y_move rfl) rfl ?_
       obtain ⟨b110, hb110, h⟩ := bindS h
       apply WQ.grp 10 (t := 67) (d := 77) (z := b110)
       ·exact rfl
       ·intro hg67
        have h := condT hb110 hg67
        refine WQ.skips 9 rfl ?_
        refine WQ.qn (y_pick_t rfl rfl) rfl ?_
        obtain rfl := Option.some.inj h
        exact WQ.nil ⟨[_, _, _, _, _, _, _, _, _, _], rfl, rfl, rfl⟩
       ·intro hg67
        have h := condF hb110 hg67
        refine WQ.qy (y_loadN rfl rfl a28 s28 rfl) rfl rfl rfl ?_
        refine WQ.qy (y_move rfl) rfl rfl rfl ?_
        refine WQ.qy (y_move rfl) rfl rfl rfl ?_
        obtain ⟨r111, hr111, h⟩ := bindS h
        refine WQ.q (YieldsQ.fn rfl rfl rfl rfl rfl (f20_c _ _ _ hr111) ⟨(Le.agd ⟨(Le.refl _), (Le.refl _), (Le.refl _), (Le.refl _), (Le.refl _), trivial⟩), (Le.refl _), (Le.refl _), trivial⟩) (Wt.yes rfl rfl rfl) rfl rfl ?_
        refine WQ.qy (y_loadN rfl rfl a28 s28 rfl) rfl rfl rfl ?_
        refine WQ.qy (y_move rfl) rfl rfl rfl ?_
        refine WQ.qy (y_move rfl) rfl rfl rfl ?_
        obtain ⟨r112, hr112, h⟩ := bindS h
        refine WQ.q (YieldsQ.fn rfl rfl rfl rfl rfl (f21_c _ _ _ hr112) ⟨(Le.agd ⟨(Le.refl _), (Le.refl _), (Le.refl _), (Le.refl _), (Le.refl _), trivial⟩), (Le.refl _), (Le.refl _), trivial⟩) (Wt.yes rfl rfl rfl) rfl rfl ?_
        refine WQ.qy (y_neb Tryd.underlying4 rfl rfl) rfl rfl rfl ?_
        refine WQ.qn (y_pick_f rfl rfl) rfl ?_
        obtain rfl := Option.some.inj h
        exact WQ.nil ⟨[_, _, _, _, _, _, _, _, _, _], rfl, rfl, rfl⟩
       refine WQ.nil ?_
       refine we_seq ?_
       refine wc_cond rfl (fun hc4 => ?_) (fun hc4 => ?_)
       ·replace h := condT h hc4
        refine wc_sr ?_
        refine WL.as rfl rfl ?_
        refine WL.ns ?_
        refine wc_ret ?_
        refine we_blk_ret ?_
        refine we_seq_ret ?_
        refine we_lp_ret ?_
        refine we_blk_ret ?_
        refine we_lp_ret ?_
        refine we_blk_ret ?_
        refine we_lp_ret ?_
        refine we_lp_ret ?_
        refine we_blk_ret ?_
        refine we_lp_ret ?_
        obtain rfl := Option.some.inj h
        exact we_ret_fn (rs1 rfl (rv_t rfl)) (Le.refl _)
       ·replace h := condF h hc4
        refine wc_skip ?_
        refine we_blk ?_
        refine we_seq ?_
        refine wc_region ?_
        refine WL.mv rfl rfl ?_
        refine WL.qn (y_add rfl rfl rfl) rfl ?_
        refine WL.as rfl rfl ?_
        refine WL.nil ?_
        exact we_lp ⟨na, ⟨(IntKind.i64.wrap (y106 + 1)), h, (Sub.cons rfl (Le.refl _) (Sub.cons rfl (Le.refl _) (Sub.cons rfl (Le.refl _) (Sub.cons rfl (Le.refl _) (Sub.nil _))))), ⟨⟨rfl, ⟨(Le.refl _), (Le.refl _), (Le.refl _), (Le.refl _), (Le.refl _), trivial⟩⟩, trivial⟩⟩, Nat.lt_succ_self na⟩
      ·replace h := condF h hc3
       refine wc_exit ?_
       refine we_seq_exit ?_
       refine we_lp_exit ?_
       refine we_blk_hit ?_
       exact we_lp ⟨h, (Sub.cons rfl (Le.refl _) (Sub.cons rfl (Le.refl _) (Sub.cons rfl (Le.refl _) (Sub.nil _)))), ⟨⟨rfl, ⟨(Le.refl _), (Le.refl _), (Le.refl _), (Le.refl _), (Le.refl _), trivial⟩⟩, trivial⟩⟩
     ·rintro env1 st1 ⟨h, hsub, hst⟩
      subst hk104
      dsimp only at h
      refine WC.sub hsub (WC.weak hst ?_)
      refine wc_seq ?_
      refine wc_region_draw (by kernel_rfl) (by kernel_rfl) ?_
      refine WQ.qn (y_loadN rfl rfl a28 s28 rfl) rfl ?_
      refine WQ.qn (y_move rfl) rfl ?_
      obtain ⟨r113, hr113, h⟩ := bindS h
      refine WQ.q (YieldsQ.fn rfl rfl rfl rfl rfl (f22_c _ _ hr113) ⟨(Le.agd ⟨(Le.refl _), (Le.refl _), (Le.refl _), (Le.refl _), (Le.refl _), trivial⟩), (Le.refl _), trivial⟩) (Wt.none rfl) rfl rfl ?_
      refine WQ.qn (y_loadN rfl rfl a28 s28 rfl) rfl ?_
      refine WQ.qn (y_move rfl) rfl ?_
      obtain ⟨r114, hr114, h⟩ := bindS h
      refine WQ.q (YieldsQ.fn rfl rfl rfl rfl rfl (f23_c _ _ hr114) ⟨(Le.agd ⟨(Le.refl _), (Le.refl _), (Le.refl _), (Le.refl _), (Le.refl _), trivial⟩), (Le.refl _), trivial⟩) (Wt.none rfl) rfl rfl ?_
      refine WQ.qn (y_neq rfl rfl) rfl ?_
      refine WQ.nil ?_
      refine we_seq ?_
      refine wc_cond rfl (fun hc5 => ?_) (fun hc5 => ?_)
      ·replace h := condT h hc5
       refine wc_sr ?_
       refine WL.as rfl rfl ?_
       refine WL.ns ?_
       refine wc_ret ?_
       refine we_blk_ret ?_
       refine we_lp_ret ?_
       refine we_lp_ret ?_
       refine we_blk_ret ?_
       refine we_lp_ret ?_
       obtain rfl := Option.some.inj h
       exact we_ret_fn (rs1 rfl (rv_t rfl)) (Le.refl _)
      ·replace h := condF h hc5
       refine wc_skip ?_
       refine we_blk ?_
       exact we_lp ⟨h, (Sub.cons rfl (Le.refl _) (Sub.cons rfl (Le.refl _) (Sub.cons rfl (Le.refl _) (Sub.nil _)))), ⟨⟨rfl, ⟨(Le.refl _), (Le.refl _), (Le.refl _), (Le.refl _), (Le.refl _), trivial⟩⟩, trivial⟩⟩
    ·rintro env1 st1 ⟨h, hsub, hst⟩
     subst hk103
     dsimp only at h
     refine WC.sub hsub (WC.weak hst ?_)
     refine wc_region ?_
     refine WL.mv rfl rfl ?_
     refine WL.qn (y_add rfl rfl rfl) rfl ?_
     refine WL.as rfl rfl ?_
     refine WL.nil ?_
     exact we_lp ⟨n, ⟨(IntKind.i64.wrap (x101 + 1)), h, (Sub.cons rfl (Le.refl _) (Sub.cons rfl (Le.refl _) (Sub.cons rfl (Le.refl _) (Sub.nil _)))), ⟨⟨rfl, ⟨(Le.refl _), (Le.refl _), (Le.refl _), (Le.refl _), (Le.refl _), trivial⟩⟩, trivial⟩⟩, Nat.lt_succ_self n⟩
   ·replace h := condF h hc2
    refine wc_exit ?_
    refine we_seq_exit ?_
    refine we_lp_exit ?_
    refine we_blk_hit ?_
    exact we_lp ⟨h, (Sub.nil _), ⟨⟨rfl, ⟨(Le.refl _), (Le.refl _), (Le.refl _), (Le.refl _), (Le.refl _), trivial⟩⟩, trivial⟩⟩
  ·rintro env1 st1 ⟨h, hsub, hst⟩
   subst hk99
   dsimp only at h
   refine WC.sub hsub (WC.weak hst ?_)
   refine wc_sr ?_
   obtain ⟨r115, hr115, h⟩ := bindS h
   refine WL.fn rfl rfl rfl rfl (f17_c hr115) trivial (Wt.none rfl) rfl rfl ?_
   refine WL.as rfl rfl ?_
   refine WL.ns ?_
   refine wc_ret ?_
   obtain rfl := Option.some.inj h
   exact we_ret_fn (rs1 rfl (rv_t rfl)) (Le.refl _)

end Go.Proofs.YteafckpdbmncfaaDoor
