/- The walks of functions that this law reaches. -/
import Derived.Test.YtpionlekbfoccaaProg
import Derived.KernelRfl
import Derived.Test.YtpionlekbfoccaaWc
set_option maxHeartbeats 4000000
set_option maxRecDepth 100000
namespace Go.Proofs.Ytpionlekbfoccaa
open Go Go.Sk

theorem f9_c (q0 : Queues) {r : Bool} (h : f9 q0 = some r) : Pu Try.prog 9 [.ag (R26 q0)] (.b r) := by
 unfold f9 at h
 refine fn_intro Try.func9 (by kernel_rfl) rfl rfl rfl (fun φφ ww => ?_)
 refine wc_sr ?_
 refine WL.s ((b_boxd rfl rfl (Les.refl _)).does) (Wt.none rfl) rfl rfl ?_
 refine WL.as rfl rfl ?_
 refine WL.ns ?_
 refine wc_sr ?_
 refine WL.qn (y_fieldAddrc f26_1 rfl) rfl ?_
 refine WL.qn (y_loadc rfl a24 rfl) rfl ?_
 refine WL.qn (y_len_map E62 q0.delays e24 rfl rfl (Le.refl _)) rfl ?_
 refine WL.as rfl rfl ?_
 refine WL.ns ?_
 replace h := letkS h
 obtain ⟨k24, hk24, h⟩ := h
 refine wc_cut (fun env' st' => ∃ (n23 : Int), k24 n23 = some r ∧ Sub [(3, .d (D.i .i64 n23))] env' ∧ SLe st' []) ?_ ?_
 ·refine wc_sr ?_
  refine WL.as rfl rfl ?_
  refine WL.ns ?_
  refine wc_block ?_
  refine wc_loop (fun n env' st' => ∃ (n27 : Int), ∃ (p28 : Int), f9_l1 q0 k24 n n27 p28 = some r ∧ Sub [(1, .d (.pc (R26 q0))), (3, .d (D.i .i64 n27)), (4, .d (D.i .i64 p28))] env' ∧ SLe st' []) (fun n => n) 9223372036854775808 ⟨(List.length q0.delays : Int), 0, h, (Sub.cons rfl (Le.refl _) (Sub.cons rfl (Le.refl _) (Sub.cons rfl (Le.refl _) (Sub.nil _)))), trivial⟩ ?_
  rintro n env1 st1 ⟨n27, p28, h, hsub, hst⟩
  cases n with
  | zero => rw [f9_l1] at h; cases h
  | succ n =>
  rw [f9_l1] at h
  refine WC.sub hsub (WC.weak hst ?_)
  refine wc_seq ?_
  refine wc_sr ?_
  refine WL.mv rfl rfl ?_
  refine WL.qn (y_lss rfl rfl) rfl ?_
  refine WL.ns ?_
  refine wc_cond rfl (fun hc1 => ?_) (fun hc1 => ?_)
  ·replace h := condT h hc1
   refine wc_skip ?_
   refine we_seq ?_
   refine wc_seq ?_
   refine wc_block ?_
   refine wc_region ?_
   refine WL.mv rfl rfl ?_
   refine WL.mv rfl rfl ?_
   refine WL.qn (y_fieldAddrc f26_0 rfl) rfl ?_
   replace h := guardBS h
   obtain ⟨hgg31, h⟩ := h
   refine WL.qn (y_indexAddrVc (fun j => .sl (List.map E3 (q0.ready j))) ar23 rfl rfl rfl hgg31) rfl ?_
   refine WL.qn (y_loadc rfl a22 rfl) rfl ?_
   refine WL.qn (y_len_map E3 (q0.ready (Int.toNat p28)) e22 rfl rfl (Le.refl _)) rfl ?_
   refine WL.qn (y_add rfl rfl rfl) rfl ?_
   refine WL.as rfl rfl ?_
   refine WL.nil ?_
   refine we_blk ?_
   refine we_seq ?_
   refine wc_region ?_
   refine WL.mv rfl rfl ?_
   refine WL.qn (y_add rfl rfl rfl) rfl ?_
   refine WL.as rfl rfl ?_
   refine WL.nil ?_
   exact we_lp ⟨n, ⟨(IntKind.i64.wrap (n27 + (List.length (q0.ready (Int.toNat p28)) : Int))), (IntKind.i64.wrap (p28 + 1)), h, (Sub.cons rfl (Le.refl _) (Sub.cons rfl (Le.refl _) (Sub.cons rfl (Le.refl _) (Sub.nil _)))), trivial⟩, Nat.lt_succ_self n⟩
  ·replace h := condF h hc1
   refine wc_exit ?_
   refine we_seq_exit ?_
   refine we_lp_exit ?_
   refine we_blk_hit ?_
   exact we_lp ⟨n27, h, (Sub.cons rfl (Le.refl _) (Sub.nil _)), trivial⟩
 ·rintro env1 st1 ⟨n23, h, hsub, hst⟩
  subst hk24
  dsimp only at h
  refine WC.sub hsub (WC.weak hst ?_)
  refine wc_sr ?_
  refine WL.mv rfl rfl ?_
  refine WL.qn (y_gtr rfl rfl) rfl ?_
  refine WL.as rfl rfl ?_
  refine WL.ns ?_
  refine wc_ret ?_
  obtain rfl := Option.some.inj h
  exact we_ret_fn (rs1 rfl (rv_t rfl)) (Le.refl _)

theorem f6_c (q0 : Queues) (x1 : Step) {r : Bool} (h : f6 q0 x1 = some r) : Pu Try.prog 6 [.ag (R26 q0), .ag (R52 x1)] (.b r) := by
 unfold f6 at h
 refine fn_intro Try.func6 (by kernel_rfl) rfl rfl rfl (fun φφ ww => ?_)
 refine wc_sr ?_
 refine WL.s ((b_boxd rfl rfl (Les.refl _)).does) (Wt.none rfl) rfl rfl ?_
 refine WL.s ((b_boxd rfl rfl (Les.refl _)).does) (Wt.none rfl) rfl rfl ?_
 refine WL.as rfl rfl ?_
 refine WL.ns ?_
 refine wc_seq ?_
 refine wc_sr ?_
 refine WL.qn (y_loadcN rfl a26 s26 rfl) rfl ?_
 obtain ⟨r43, hr43, h⟩ := bindS h
 refine WL.fn rfl rfl rfl rfl (f9_c _ hr43) ⟨(Le.refl _), trivial⟩ (Wt.none rfl) rfl rfl ?_
 refine WL.ns ?_
 refine wc_cond rfl (fun hc1 => ?_) (fun hc1 => ?_)
 ·replace h := condT h hc1
  refine wc_sr ?_
  obtain ⟨r44, hr44, h⟩ := bindS h
  refine WL.fn rfl rfl rfl rfl (f11_c hr44) trivial (Wt.none rfl) rfl rfl ?_
  refine WL.as rfl rfl ?_
  refine WL.ns ?_
  refine wc_ret ?_
  refine we_seq_ret ?_
  obtain rfl := Option.some.inj h
  exact we_ret_fn (rs1 rfl (rv_t rfl)) (Le.refl _)
 ·replace h := condF h hc1
  refine wc_skip ?_
  refine we_seq ?_
  refine wc_sr ?_
  refine WL.qn (y_loadcN rfl a26 s26 rfl) rfl ?_
  obtain ⟨r45, hr45, h⟩ := bindS h
  refine WL.fn rfl rfl rfl rfl (O.f23_c _ hr45) ⟨(Le.refl _), trivial⟩ (Wt.none rfl) rfl rfl ?_
  refine WL.s ((b_alloc z26).does) (Wt.none rfl) rfl rfl ?_
  refine WL.s0 (d_store rfl rfl rfl rfl rfl rfl s26 rfl rfl) (Wt.none rfl) rfl ?_
  refine WL.st (st' := [.row 26 (vecA 32 (fun j => .d (.sl (List.map E3 (r45.ready j)))) ++ ([.d (.sl (List.map E62 r45.delays)), .d (D.i .i64 r45.run)] : List AV))]) rfl ?_
  refine WL.ns ?_
  refine wc_sr ?_
  refine WL.qn (y_loadcN rfl a26 s26 rfl) rfl ?_
  refine WL.qn (y_loadcN rfl a52 s52 rfl) rfl ?_
  obtain ⟨r46, hr46, h⟩ := bindS h
  refine WL.fn rfl rfl rfl rfl (f24_c _ _ hr46) ⟨(Le.refl _), (Le.refl _), trivial⟩ (Wt.none rfl) rfl rfl ?_
  refine WL.mv rfl rfl ?_
  refine WL.qn (y_extractd rfl rfl) rfl ?_
  refine WL.qn (y_extractd rfl rfl) rfl ?_
  refine WL.s ((b_alloc z26).does) (Wt.none rfl) rfl rfl ?_
  refine WL.s0 (d_store rfl rfl rfl rfl rfl rfl s26 rfl rfl) (Wt.none rfl) rfl ?_
  refine WL.st (st' := [.row 26 (vecA 32 (fun j => .d (.sl (List.map E3 (r45.ready j)))) ++ ([.d (.sl (List.map E62 r45.delays)), .d (D.i .i64 r45.run)] : List AV)), .row 26 (vecA 32 (fun j => .d (.sl (List.map E3 (r46.1.ready j)))) ++ ([.d (.sl (List.map E62 r46.1.delays)), .d (D.i .i64 r46.1.run)] : List AV))]) rfl ?_
  refine WL.as rfl rfl ?_
  refine WL.ns ?_
  replace h := letkS h
  obtain ⟨k48, hk48, h⟩ := h
  refine wc_cut (fun env' st' => ∃ (t47 : Bool), k48 t47 = some r ∧ Sub [(4, .d (D.b t47))] env' ∧ SLe st' [.row 26 (vecA 32 (fun j => .d (.sl (List.map E3 (r45.ready j)))) ++ ([.d (.sl (List.map E62 r45.delays)), .d (D.i .i64 r45.run)] : List AV)), .row 26 (vecA 32 (fun j => .d (.sl (List.map E3 (r46.1.ready j)))) ++ ([.d (.sl (List.map E62 r46.1.delays)), .d (D.i .i64 r46.1.run)] : List AV))]) ?_ ?_
  ·rcases boolCases r46.2 with hb5 | hb5
   ·replace h := condT h hb5
    obtain ⟨r49, hr49, h⟩ := bindS h
    rcases boolCases r49 with hb6 | hb6
    ·replace h := condT h hb6
     obtain ⟨r50, hr50, h⟩ := bindS h
     obtain ⟨r51, hr51, h⟩ := bindS h
     rcases boolCases ((r50 == r51)) with hb7 | hb7
     ·replace h := condT h hb7
      obtain ⟨r52, hr52, h⟩ := bindS h
      rcases boolCases r52 with hb8 | hb8
      ·replace h := condT h hb8
       obtain ⟨r53, hr53, h⟩ := bindS h
       apply wc_region_all [_, _, _, _, _, _, _, _, _, _, _, _, _, _, _, _, _, _, _, _, _, _] [[], [0], [0, 1], [0, 1], [0, 1, 2, 3], [0, 1, 2, 3, 4], [0, 1, 2, 3, 4, 5], [0, 1, 2, 3, 4, 5, 6], [0, 1, 2, 3, 4, 5, 6, 7], [0, 1, 2, 3, 4, 5, 6], [0, 1, 2, 3, 4, 5, 6, 7, 8, 9], [0, 1, 2, 3, 4, 5, 6, 7, 8, 9, 10], [0, 1, 2, 3, 4, 5, 6, 7, 8, 9, 10, 11], [0, 1, 2, 3, 4, 5, 6, 7, 8, 9, 10, 11, 12], [0, 1, 2, 3, 4, 5, 6, 7, 8, 9, 10, 11, 12, 13], [0, 1, 2, 3, 4, 5, 6, 7, 8, 9, 10, 11, 12, 13, 14], [0, 1, 2, 3, 4, 5, 6, 7, 8, 9, 10, 11, 12, 13, 14, 15], [0, 1, 2, 3, 4, 5, 6, 7, 8, 9, 10, 11, 12, 13, 14, 15, 16], [0, 1, 2, 3, 4, 5, 6, 7, 8, 9, 10, 11, 12, 13, 14, 15, 16, 17], [0, 1, 2, 3, 4, 5, 6, 7, 8, 9, 10, 11, 12, 13, 14, 15, 16, 17, 18], [0, 1, 2, 3, 4, 5, 6, 7, 8, 9, 10, 11, 12, 13, 14, 15, 16, 17, 18, 19], [0, 1, 2, 3, 4, 5, 6, 7, 8, 9, 10, 11, 12, 13, 14, 15, 16, 17, 18, 19, 20]] [] (fun c => List.getD [[.row 26 (vecA 32 (fun j => .d (.sl (List.map E3 (r45.ready j)))) ++ ([.d (.sl (List.map E62 r45.delays)), .d (D.i .i64 r45.run)] : List AV)), .row 26 (vecA 32 (fun j => .d (.sl (List.map E3 (r46.1.ready j)))) ++ ([.d (.sl (List.map E62 r46.1.delays)), .d (D.i .i64 r46.1.run)] : List AV))]] c []) [([], [7], [0]), ([0], [], [0]), ([1], [2], [0]), ([1], [5], [0]), ([2, 3, 1], [], [0]), ([1, 4], [], [0]), ([5], [], [0]), ([6], [2], [0]), ([7, 6], [], [0]), ([6], [2], [0]), ([9, 6], [], [0]), ([8, 10, 6], [], [0]), ([6, 11], [], [0]), ([12], [], [0]), ([13], [], [0]), ([13], [], [0]), ([14, 15, 13], [], [0]), ([13, 16], [], [0]), ([17], [], [0]), ([18], [], [0]), ([18, 19], [], [0]), ([20], [], [0])] (by kernel_rfl) (by kernel_rfl) rfl rfl rfl
       ·refine ⟨?_, ?_, ?_, ?_, ?_, ?_, ?_, ?_, ?_, ?_, ?_, ?_, ?_, ?_, ?_, ?_, ?_, ?_, ?_, ?_, ?_, ?_, trivial⟩
        ·refine ⟨fun F => ?_, trivial⟩
         refine WL.mv rfl rfl ?_
         exact WL.done1 rfl rfl rfl
        ·refine ⟨fun F => ?_, trivial⟩
         refine WL.mv rfl rfl ?_
         refine WL.cast 20 rfl (Le.ofd (by rw [hb5])) ?_
         exact WL.done2 rfl rfl rfl
        ·refine ⟨fun F => ?_, trivial⟩
         refine WL.qy (y_loadcN rfl a26 s26 rfl) rfl rfl rfl ?_
         exact WL.done1 rfl rfl rfl
        ·refine ⟨fun F => ?_, trivial⟩
         refine WL.qy (y_loadN rfl rfl a26 s26 rfl) rfl rfl rfl ?_
         exact WL.done1 rfl rfl rfl
        ·refine ⟨fun F => ?_, trivial⟩
         refine WL.fn rfl rfl rfl rfl (f15_c _ _ hr49) ⟨(Le.refl _), (Le.agd ⟨(Le.refl _), (Le.refl _), (Le.refl _), (Le.refl _), (Le.refl _), (Le.refl _), (Le.refl _), (Le.refl _), (Le.refl _), (Le.refl _), (Le.refl _), (Le.refl _), (Le.refl _), (Le.refl _), (Le.refl _), (Le.refl _), (Le.refl _), (Le.refl _), (Le.refl _), (Le.refl _), (Le.refl _), (Le.refl _), (Le.refl _), (Le.refl _), (Le.refl _), (Le.refl _), (Le.refl _), (Le.refl _), (Le.refl _), (Le.refl _), (Le.refl _), (Le.refl _), (Le.refl _), (Le.refl _), trivial⟩), trivial⟩ (Wt.yes rfl rfl rfl) rfl rfl ?_
         exact WL.done1 rfl rfl rfl
        ·refine ⟨fun F => ?_, trivial⟩
         refine WL.qn (y_pick_t rfl rfl) rfl ?_
         exact WL.done1 rfl rfl rfl
        ·refine ⟨fun F => ?_, trivial⟩
         refine WL.mv rfl rfl ?_
         refine WL.cast 25 rfl (Le.ofd (by rw [hb6])) ?_
         exact WL.done2 rfl rfl rfl
        ·refine ⟨fun F => ?_, trivial⟩
         refine WL.qy (y_loadcN rfl a26 s26 rfl) rfl rfl rfl ?_
         exact WL.done1 rfl rfl rfl
        ·refine ⟨fun F => ?_, trivial⟩
         refine WL.fn rfl rfl rfl rfl (f10_c _ hr50) ⟨(Le.refl _), trivial⟩ (Wt.yes rfl rfl rfl) rfl rfl ?_
         exact WL.done1 rfl rfl rfl
        ·refine ⟨fun F => ?_, trivial⟩
         refine WL.qy (y_loadcN rfl a26 s26 rfl) rfl rfl rfl ?_
         exact WL.done1 rfl rfl rfl
        ·refine ⟨fun F => ?_, trivial⟩
         refine WL.fn rfl rfl rfl rfl (f25_c _ hr51) ⟨(Le.refl _), trivial⟩ (Wt.yes rfl rfl rfl) rfl rfl ?_
         exact WL.done1 rfl rfl rfl
        ·refine ⟨fun F => ?_, trivial⟩
         refine WL.qy (y_eqb Try.underlying4 rfl rfl) rfl rfl rfl ?_
         exact WL.done1 rfl rfl rfl
        ·refine ⟨fun F => ?_, trivial⟩
         refine WL.qn (y_pick_t rfl rfl) rfl ?_
         exact WL.done1 rfl rfl rfl
        ·refine ⟨fun F => ?_, trivial⟩
         refine WL.mv rfl rfl ?_
         refine WL.cast 32 rfl (Le.ofd (by rw [hb7])) ?_
         exact WL.done2 rfl rfl rfl
        ·refine ⟨fun F => ?_, trivial⟩
         refine WL.fn rfl rfl rfl rfl (f16_c) trivial (Wt.yes rfl rfl rfl) rfl rfl ?_
         exact WL.done1 rfl rfl rfl
        ·refine ⟨fun F => ?_, trivial⟩
         refine WL.fn rfl rfl rfl rfl (f26_c) trivial (Wt.yes rfl rfl rfl) rfl rfl ?_
         exact WL.done1 rfl rfl rfl
        ·refine ⟨fun F => ?_, trivial⟩
         refine WL.fn rfl rfl rfl rfl (f15_c _ _ hr52) ⟨(Le.refl _), (Le.refl _), trivial⟩ (Wt.yes rfl rfl rfl) rfl rfl ?_
         exact WL.done1 rfl rfl rfl
        ·refine ⟨fun F => ?_, trivial⟩
         refine WL.qn (y_pick_t rfl rfl) rfl ?_
         exact WL.done1 rfl rfl rfl
        ·refine ⟨fun F => ?_, trivial⟩
         refine WL.mv rfl rfl ?_
         refine WL.cast 37 rfl (Le.ofd (by rw [hb8])) ?_
         exact WL.done2 rfl rfl rfl
        ·refine ⟨fun F => ?_, trivial⟩
         refine WL.fn rfl rfl rfl rfl (f11_c hr53) trivial (Wt.yes rfl rfl rfl) rfl rfl ?_
         exact WL.done1 rfl rfl rfl
        ·refine ⟨fun F => ?_, trivial⟩
         refine WL.qn (y_pick_t rfl rfl) rfl ?_
         exact WL.done1 rfl rfl rfl
        ·refine ⟨fun F => ?_, trivial⟩
         refine WL.as rfl rfl ?_
         exact WL.done1 rfl rfl rfl
       ·exact we_lp ⟨r53, h, (Sub.cons rfl (Le.refl _) (Sub.nil _)), ⟨⟨rfl, Les.refl _⟩, ⟨rfl, Les.refl _⟩, trivial⟩⟩
      ·replace h := condF h hb8
       apply wc_region_all [_, _, _, _, _, _, _, _, _, _, _, _, _, _, _, _, _, _, _, _, _, _] [[], [0], [0, 1], [0, 1], [0, 1, 2, 3], [0, 1, 2, 3, 4], [0, 1, 2, 3, 4, 5], [0, 1, 2, 3, 4, 5, 6], [0, 1, 2, 3, 4, 5, 6, 7], [0, 1, 2, 3, 4, 5, 6], [0, 1, 2, 3, 4, 5, 6, 7, 8, 9], [0, 1, 2, 3, 4, 5, 6, 7, 8, 9, 10], [0, 1, 2, 3, 4, 5, 6, 7, 8, 9, 10, 11], [0, 1, 2, 3, 4, 5, 6, 7, 8, 9, 10, 11, 12], [0, 1, 2, 3, 4, 5, 6, 7, 8, 9, 10, 11, 12, 13], [0, 1, 2, 3, 4, 5, 6, 7, 8, 9, 10, 11, 12, 13, 14], [0, 1, 2, 3, 4, 5, 6, 7, 8, 9, 10, 11, 12, 13, 14, 15], [0, 1, 2, 3, 4, 5, 6, 7, 8, 9, 10, 11, 12, 13, 14, 15, 16], [0, 1, 2, 3, 4, 5, 6, 7, 8, 9, 10, 11, 12, 13, 14, 15, 16, 17], [0, 1, 2, 3, 4, 5, 6, 7, 8, 9, 10, 11, 12, 13, 14, 15, 16, 17, 18], [0, 1, 2, 3, 4, 5, 6, 7, 8, 9, 10, 11, 12, 13, 14, 15, 16, 17, 18, 19], [0, 1, 2, 3, 4, 5, 6, 7, 8, 9, 10, 11, 12, 13, 14, 15, 16, 17, 18, 19, 20]] [] (fun c => List.getD [[.row 26 (vecA 32 (fun j => .d (.sl (List.map E3 (r45.ready j)))) ++ ([.d (.sl (List.map E62 r45.delays)), .d (D.i .i64 r45.run)] : List AV)), .row 26 (vecA 32 (fun j => .d (.sl (List.map E3 (r46.1.ready j)))) ++ ([.d (.sl (List.map E62 r46.1.delays)), .d (D.i .i64 r46.1.run)] : List AV))]] c []) [([], [7], [0]), ([0], [], [0]), ([1], [2], [0]), ([1], [5], [0]), ([2, 3, 1], [], [0]), ([1, 4], [], [0]), ([5], [], [0]), ([6], [2], [0]), ([7, 6], [], [0]), ([6], [2], [0]), ([9, 6], [], [0]), ([8, 10, 6], [], [0]), ([6, 11], [], [0]), ([12], [], [0]), ([13], [], [0]), ([13], [], [0]), ([14, 15, 13], [], [0]), ([13, 16], [], [0]), ([17], [], [0]), ([18], [], [0]), ([18, 19], [], [0]), ([20], [], [0])] (by kernel_rfl) (by kernel_rfl) rfl rfl rfl
       ·refine ⟨?_, ?_, ?_, ?_, ?_, ?_, ?_, ?_, ?_, ?_, ?_, ?_, ?_, ?_, ?_, ?_, ?_, ?_, ?_, ?_, ?_, ?_, trivial⟩
        ·refine ⟨fun F => ?_, trivial⟩
         refine WL.mv rfl rfl ?_
         exact WL.done1 rfl rfl rfl
        ·refine ⟨fun F => ?_, trivial⟩
         refine WL.mv rfl rfl ?_
         refine WL.cast 20 rfl (Le.ofd (by rw [hb5])) ?_
         exact WL.done2 rfl rfl rfl
        ·refine ⟨fun F => ?_, trivial⟩
         refine WL.qy (y_loadcN rfl a26 s26 rfl) rfl rfl rfl ?_
         exact WL.done1 rfl rfl rfl
        ·refine ⟨fun F => ?_, trivial⟩
         refine WL.qy (y_loadN rfl rfl a26 s26 rfl) rfl rfl rfl ?_
         exact WL.done1 rfl rfl rfl
        ·refine ⟨fun F => ?_, trivial⟩
         refine WL.fn rfl rfl rfl rfl (f15_c _ _ hr49) ⟨(Le.refl _), (Le.agd ⟨(Le.refl _), (Le.refl _), (Le.refl _), (Le.refl _), (Le.refl _), (Le.refl _), (Le.refl _), (Le.refl _), (Le.refl _), (Le.refl _), (Le.refl _), (Le.refl _), (Le.refl _), (Le.refl _), (Le.refl _), (Le.refl _), (Le.refl _), (Le.refl _), (Le.refl _), (Le.refl _), (Le.refl _), (Le.refl _), (Le.refl _), (Le.refl _), (Le.refl _), (Le.refl _), (Le.refl _), (Le.refl _), (Le.refl _), (Le.refl _), (Le.refl _), (Le.refl _), (Le.refl _), (Le.refl _), trivial⟩), trivial⟩ (Wt.yes rfl rfl rfl) rfl rfl ?_
         exact WL.done1 rfl rfl rfl
        ·refine ⟨fun F => ?_, trivial⟩
         refine WL.qn (y_pick_t rfl rfl) rfl ?_
         exact WL.done1 rfl rfl rfl
        ·refine ⟨fun F => ?_, trivial⟩
         refine WL.mv rfl rfl ?_
         refine WL.cast 25 rfl (Le.ofd (by rw [hb6])) ?_
         exact WL.done2 rfl rfl rfl
        ·refine ⟨fun F => ?_, trivial⟩
         refine WL.qy (y_loadcN rfl a26 s26 rfl) rfl rfl rfl ?_
         exact WL.done1 rfl rfl rfl
        ·refine ⟨fun F => ?_, trivial⟩
         refine WL.fn rfl rfl rfl rfl (f10_c _ hr50) ⟨(Le.refl _), trivial⟩ (Wt.yes rfl rfl rfl) rfl rfl ?_
         exact WL.done1 rfl rfl rfl
        ·refine ⟨fun F => ?_, trivial⟩
         refine WL.qy (y_loadcN rfl a26 s26 rfl) rfl rfl rfl ?_
         exact WL.done1 rfl rfl rfl
        ·refine ⟨fun F => ?_, trivial⟩
         refine WL.fn rfl rfl rfl rfl (f25_c _ hr51) ⟨(Le.refl _), trivial⟩ (Wt.yes rfl rfl rfl) rfl rfl ?_
         exact WL.done1 rfl rfl rfl
        ·refine ⟨fun F => ?_, trivial⟩
         refine WL.qy (y_eqb Try.underlying4 rfl rfl) rfl rfl rfl ?_
         exact WL.done1 rfl rfl rfl
        ·refine ⟨fun F => ?_, trivial⟩
         refine WL.qn (y_pick_t rfl rfl) rfl ?_
         exact WL.done1 rfl rfl rfl
        ·refine ⟨fun F => ?_, trivial⟩
         refine WL.mv rfl rfl ?_
         refine WL.cast 32 rfl (Le.ofd (by rw [hb7])) ?_
         exact WL.done2 rfl rfl rfl
        ·refine ⟨fun F => ?_, trivial⟩
         refine WL.fn rfl rfl rfl rfl (f16_c) trivial (Wt.yes rfl rfl rfl) rfl rfl ?_
         exact WL.done1 rfl rfl rfl
        ·refine ⟨fun F => ?_, trivial⟩
         refine WL.fn rfl rfl rfl rfl (f26_c) trivial (Wt.yes rfl rfl rfl) rfl rfl ?_
         exact WL.done1 rfl rfl rfl
        ·refine ⟨fun F => ?_, trivial⟩
         refine WL.fn rfl rfl rfl rfl (f15_c _ _ hr52) ⟨(Le.refl _), (Le.refl _), trivial⟩ (Wt.yes rfl rfl rfl) rfl rfl ?_
         exact WL.done1 rfl rfl rfl
        ·refine ⟨fun F => ?_, trivial⟩
         refine WL.qn (y_pick_t rfl rfl) rfl ?_
         exact WL.done1 rfl rfl rfl
        ·refine ⟨fun F => ?_, trivial⟩
         refine WL.mv rfl rfl ?_
         refine WL.cast 37 rfl (Le.ofd (by rw [hb8])) ?_
         exact WL.done2 rfl rfl rfl
        ·refine ⟨fun F => ?_, trivial⟩
         refine WL.skips 1 rfl ?_
         exact WL.done1 rfl rfl rfl
        ·refine ⟨fun F => ?_, trivial⟩
         refine WL.qn (y_pick_f rfl rfl) rfl ?_
         exact WL.done1 rfl rfl rfl
        ·refine ⟨fun F => ?_, trivial⟩
         refine WL.as rfl rfl ?_
         exact WL.done1 rfl rfl rfl
       ·exact we_lp ⟨false, h, (Sub.cons rfl (Le.refl _) (Sub.nil _)), ⟨⟨rfl, Les.refl _⟩, ⟨rfl, Les.refl _⟩, trivial⟩⟩
     ·replace h := condF h hb7
      apply wc_region_all [_, _, _, _, _, _, _, _, _, _, _, _, _, _, _, _, _, _, _, _, _, _] [[], [0], [0, 1], [0, 1], [0, 1, 2, 3], [0, 1, 2, 3, 4], [0, 1, 2, 3, 4, 5], [0, 1, 2, 3, 4, 5, 6], [0, 1, 2, 3, 4, 5, 6, 7], [0, 1, 2, 3, 4, 5, 6], [0, 1, 2, 3, 4, 5, 6, 7, 8, 9], [0, 1, 2, 3, 4, 5, 6, 7, 8, 9, 10], [0, 1, 2, 3, 4, 5, 6, 7, 8, 9, 10, 11], [0, 1, 2, 3, 4, 5, 6, 7, 8, 9, 10, 11, 12], [0, 1, 2, 3, 4, 5, 6, 7, 8, 9, 10, 11, 12, 13], [0, 1, 2, 3, 4, 5, 6, 7, 8, 9, 10, 11, 12, 13, 14], [0, 1, 2, 3, 4, 5, 6, 7, 8, 9, 10, 11, 12, 13, 14, 15], [0, 1, 2, 3, 4, 5, 6, 7, 8, 9, 10, 11, 12, 13, 14, 15, 16], [0, 1, 2, 3, 4, 5, 6, 7, 8, 9, 10, 11, 12, 13, 14, 15, 16, 17], [0, 1, 2, 3, 4, 5, 6, 7, 8, 9, 10, 11, 12, 13, 14, 15, 16, 17, 18], [0, 1, 2, 3, 4, 5, 6, 7, 8, 9, 10, 11, 12, 13, 14, 15, 16, 17, 18, 19], [0, 1, 2, 3, 4, 5, 6, 7, 8, 9, 10, 11, 12, 13, 14, 15, 16, 17, 18, 19, 20]] [] (fun c => List.getD [[.row 26 (vecA 32 (fun j => .d (.sl (List.map E3 (r45.ready j)))) ++ ([.d (.sl (List.map E62 r45.delays)), .d (D.i .i64 r45.run)] : List AV)), .row 26 (vecA 32 (fun j => .d (.sl (List.map E3 (r46.1.ready j)))) ++ ([.d (.sl (List.map E62 r46.1.delays)), .d (D.i .i64 r46.1.run)] : List AV))]] c []) [([], [7], [0]), ([0], [], [0]), ([1], [2], [0]), ([1], [5], [0]), ([2, 3, 1], [], [0]), ([1, 4], [], [0]), ([5], [], [0]), ([6], [2], [0]), ([7, 6], [], [0]), ([6], [2], [0]), ([9, 6], [], [0]), ([8, 10, 6], [], [0]), ([6, 11], [], [0]), ([12], [], [0]), ([13], [], [0]), ([13], [], [0]), ([13], [], [0]), ([13, 16], [], [0]), ([17], [], [0]), ([18], [], [0]), ([18, 19], [], [0]), ([20], [], [0])] (by kernel_rfl) (by kernel_rfl) rfl rfl rfl
      ·refine ⟨?_, ?_, ?_, ?_, ?_, ?_, ?_, ?_, ?_, ?_, ?_, ?_, ?_, ?_, ?_, ?_, ?_, ?_, ?_, ?_, ?_, ?_, trivial⟩
       ·refine ⟨fun F => ?_, trivial⟩
        refine WL.mv rfl rfl ?_
        exact WL.done1 rfl rfl rfl
       ·refine ⟨fun F => ?_, trivial⟩
        refine WL.mv rfl rfl ?_
        refine WL.cast 20 rfl (Le.ofd (by rw [hb5])) ?_
        exact WL.done2 rfl rfl rfl
       ·refine ⟨fun F => ?_, trivial⟩
        refine WL.qy (y_loadcN rfl a26 s26 rfl) rfl rfl rfl ?_
        exact WL.done1 rfl rfl rfl
       ·refine ⟨fun F => ?_, trivial⟩
        refine WL.qy (y_loadN rfl rfl a26 s26 rfl) rfl rfl rfl ?_
        exact WL.done1 rfl rfl rfl
       ·refine ⟨fun F => ?_, trivial⟩
        refine WL.fn rfl rfl rfl rfl (f15_c _ _ hr49) ⟨(Le.refl _), (Le.agd ⟨(Le.refl _), (Le.refl _), (Le.refl _), (Le.refl _), (Le.refl _), (Le.refl _), (Le.refl _), (Le.refl _), (Le.refl _), (Le.refl _), (Le.refl _), (Le.refl _), (Le.refl _), (Le.refl _), (Le.refl _), (Le.refl _), (Le.refl _), (Le.refl _), (Le.refl _), (Le.refl _), (Le.refl _), (Le.refl _), (Le.refl _), (Le.refl _), (Le.refl _), (Le.refl _), (Le.refl _), (Le.refl _), (Le.refl _), (Le.refl _), (Le.refl _), (Le.refl _), (Le.refl _), (Le.refl _), trivial⟩), trivial⟩ (Wt.yes rfl rfl rfl) rfl rfl ?_
        exact WL.done1 rfl rfl rfl
       ·refine ⟨fun F => ?_, trivial⟩
        refine WL.qn (y_pick_t rfl rfl) rfl ?_
        exact WL.done1 rfl rfl rfl
       ·refine ⟨fun F => ?_, trivial⟩
        refine WL.mv rfl rfl ?_
        refine WL.cast 25 rfl (Le.ofd (by rw [hb6])) ?_
        exact WL.done2 rfl rfl rfl
       ·refine ⟨fun F => ?_, trivial⟩
        refine WL.qy (y_loadcN rfl a26 s26 rfl) rfl rfl rfl ?_
        exact WL.done1 rfl rfl rfl
       ·refine ⟨fun F => ?_, trivial⟩
        refine WL.fn rfl rfl rfl rfl (f10_c _ hr50) ⟨(Le.refl _), trivial⟩ (Wt.yes rfl rfl rfl) rfl rfl ?_
        exact WL.done1 rfl rfl rfl
       ·refine ⟨fun F => ?_, trivial⟩
        refine WL.qy (y_loadcN rfl a26 s26 rfl) rfl rfl rfl ?_
        exact WL.done1 rfl rfl rfl
       ·refine ⟨fun F => ?_, trivial⟩
        refine WL.fn rfl rfl rfl rfl (f25_c _ hr51) ⟨(Le.refl _), trivial⟩ (Wt.yes rfl rfl rfl) rfl rfl ?_
        exact WL.done1 rfl rfl rfl
       ·refine ⟨fun F => ?_, trivial⟩
        refine WL.qy (y_eqb Try.underlying4 rfl rfl) rfl rfl rfl ?_
        exact WL.done1 rfl rfl rfl
       ·refine ⟨fun F => ?_, trivial⟩
        refine WL.qn (y_pick_t rfl rfl) rfl ?_
        exact WL.done1 rfl rfl rfl
       ·refine ⟨fun F => ?_, trivial⟩
        refine WL.mv rfl rfl ?_
        refine WL.cast 32 rfl (Le.ofd (by rw [hb7])) ?_
        exact WL.done2 rfl rfl rfl
       ·refine ⟨fun F => ?_, trivial⟩
        refine WL.skips 1 rfl ?_
        exact WL.done1 rfl rfl rfl
       ·refine ⟨fun F => ?_, trivial⟩
        refine WL.skips 1 rfl ?_
        exact WL.done1 rfl rfl rfl
       ·refine ⟨fun F => ?_, trivial⟩
        refine WL.skips 1 rfl ?_
        exact WL.done1 rfl rfl rfl
       ·refine ⟨fun F => ?_, trivial⟩
        refine WL.qn (y_pick_f rfl rfl) rfl ?_
        exact WL.done1 rfl rfl rfl
       ·refine ⟨fun F => ?_, trivial⟩
        refine WL.mv rfl rfl ?_
        exact WL.done1 rfl rfl rfl
       ·refine ⟨fun F => ?_, trivial⟩
        refine WL.skips 1 rfl ?_
        exact WL.done1 rfl rfl rfl
       ·refine ⟨fun F => ?_, trivial⟩
        refine WL.qn (y_pick_f rfl rfl) rfl ?_
        exact WL.done1 rfl rfl rfl
       ·refine ⟨fun F => ?_, trivial⟩
        refine WL.as rfl rfl ?_
        exact WL.done1 rfl rfl rfl
      ·exact we_lp ⟨false, h, (Sub.cons rfl (Le.refl _) (Sub.nil _)), ⟨⟨rfl, Les.refl _⟩, ⟨rfl, Les.refl _⟩, trivial⟩⟩
    ·replace h := condF h hb6
     apply wc_region_all [_, _, _, _, _, _, _, _, _, _, _, _, _, _, _, _, _, _, _, _, _, _] [[], [0], [0, 1], [0, 1], [0, 1, 2, 3], [0, 1, 2, 3, 4], [0, 1, 2, 3, 4, 5], [0, 1, 2, 3, 4, 5, 6], [0, 1, 2, 3, 4, 5, 6, 7], [0, 1, 2, 3, 4, 5, 6], [0, 1, 2, 3, 4, 5, 6, 7, 8, 9], [0, 1, 2, 3, 4, 5, 6, 7, 8, 9, 10], [0, 1, 2, 3, 4, 5, 6, 7, 8, 9, 10, 11], [0, 1, 2, 3, 4, 5, 6, 7, 8, 9, 10, 11, 12], [0, 1, 2, 3, 4, 5, 6, 7, 8, 9, 10, 11, 12, 13], [0, 1, 2, 3, 4, 5, 6, 7, 8, 9, 10, 11, 12, 13, 14], [0, 1, 2, 3, 4, 5, 6, 7, 8, 9, 10, 11, 12, 13, 14, 15], [0, 1, 2, 3, 4, 5, 6, 7, 8, 9, 10, 11, 12, 13, 14, 15, 16], [0, 1, 2, 3, 4, 5, 6, 7, 8, 9, 10, 11, 12, 13, 14, 15, 16, 17], [0, 1, 2, 3, 4, 5, 6, 7, 8, 9, 10, 11, 12, 13, 14, 15, 16, 17, 18], [0, 1, 2, 3, 4, 5, 6, 7, 8, 9, 10, 11, 12, 13, 14, 15, 16, 17, 18, 19], [0, 1, 2, 3, 4, 5, 6, 7, 8, 9, 10, 11, 12, 13, 14, 15, 16, 17, 18, 19, 20]] [] (fun c => List.getD [[.row 26 (vecA 32 (fun j => .d (.sl (List.map E3 (r45.ready j)))) ++ ([.d (.sl (List.map E62 r45.delays)), .d (D.i .i64 r45.run)] : List AV)), .row 26 (vecA 32 (fun j => .d (.sl (List.map E3 (r46.1.ready j)))) ++ ([.d (.sl (List.map E62 r46.1.delays)), .d (D.i .i64 r46.1.run)] : List AV))]] c []) [([], [7], [0]), ([0], [], [0]), ([1], [2], [0]), ([1], [5], [0]), ([2, 3, 1], [], [0]), ([1, 4], [], [0]), ([5], [], [0]), ([6], [], [0]), ([6], [], [0]), ([6], [], [0]), ([6], [], [0]), ([6], [], [0]), ([6, 11], [], [0]), ([12], [], [0]), ([13], [], [0]), ([13], [], [0]), ([13], [], [0]), ([13, 16], [], [0]), ([17], [], [0]), ([18], [], [0]), ([18, 19], [], [0]), ([20], [], [0])] (by kernel_rfl) (by kernel_rfl) rfl rfl rfl
     ·refine ⟨?_, ?_, ?_, ?_, ?_, ?_, ?_, ?_, ?_, ?_, ?_, ?_, ?_, ?_, ?_, ?_, ?_, ?_, ?_, ?_, ?_, ?_, trivial⟩
      ·refine ⟨fun F => ?_, trivial⟩
       refine WL.mv rfl rfl ?_
       exact WL.done1 rfl rfl rfl
      ·refine ⟨fun F => ?_, trivial⟩
       refine WL.mv rfl rfl ?_
       refine WL.cast 20 rfl (Le.ofd (by rw [hb5])) ?_
       exact WL.done2 rfl rfl rfl
      ·refine ⟨fun F => ?_, trivial⟩
       refine WL.qy (y_loadcN rfl a26 s26 rfl) rfl rfl rfl ?_
       exact WL.done1 rfl rfl rfl
      ·refine ⟨fun F => ?_, trivial⟩
       refine WL.qy (y_loadN rfl rfl a26 s26 rfl) rfl rfl rfl ?_
       exact WL.done1 rfl rfl rfl
      ·refine ⟨fun F => ?_, trivial⟩
       refine WL.fn rfl rfl rfl rfl (f15_c _ _ hr49) ⟨(Le.refl _), (Le.agd ⟨(Le.refl _), (Le.refl _), (Le.refl _), (Le.refl _), (Le.refl _), (Le.refl _), (Le.refl _), (Le.refl _), (Le.refl _), (Le.refl _), (Le.refl _), (Le.refl _), (Le.refl _), (Le.refl _), (Le.refl _), (Le.refl _), (Le.refl _), (Le.refl _), (Le.refl _), (Le.refl _), (Le.refl _), (Le.refl _), (Le.refl _), (Le.refl _), (Le.refl _), (Le.refl _), (Le.refl _), (Le.refl _), (Le.refl _), (Le.refl _), (Le.refl _), (Le.refl _), (Le.refl _), (Le.refl _), trivial⟩), trivial⟩ (Wt.yes rfl rfl rfl) rfl rfl ?_
       exact WL.done1 rfl rfl rfl
      ·refine ⟨fun F => ?_, trivial⟩
       refine WL.qn (y_pick_t rfl rfl) rfl ?_
       exact WL.done1 rfl rfl rfl
      ·refine ⟨fun F => ?_, trivial⟩
       refine WL.mv rfl rfl ?_
       refine WL.cast 25 rfl (Le.ofd (by rw [hb6])) ?_
       exact WL.done2 rfl rfl rfl
      ·refine ⟨fun F => ?_, trivial⟩
       refine WL.skips 1 rfl ?_
       exact WL.done1 rfl rfl rfl
      ·refine ⟨fun F => ?_, trivial⟩
       refine WL.skips 1 rfl ?_
       exact WL.done1 rfl rfl rfl
      ·refine ⟨fun F => ?_, trivial⟩
       refine WL.skips 1 rfl ?_
       exact WL.done1 rfl rfl rfl
      ·refine ⟨fun F => ?_, trivial⟩
       refine WL.skips 1 rfl ?_
       exact WL.done1 rfl rfl rfl
      ·refine ⟨fun F => ?_, trivial⟩
       refine WL.skips 1 rfl ?_
       exact WL.done1 rfl rfl rfl
      ·refine ⟨fun F => ?_, trivial⟩
       refine WL.qn (y_pick_f rfl rfl) rfl ?_
       exact WL.done1 rfl rfl rfl
      ·refine ⟨fun F => ?_, trivial⟩
       refine WL.mv rfl rfl ?_
       exact WL.done1 rfl rfl rfl
      ·refine ⟨fun F => ?_, trivial⟩
       refine WL.skips 1 rfl ?_
       exact WL.done1 rfl rfl rfl
      ·refine ⟨fun F => ?_, trivial⟩
       refine WL.skips 1 rfl ?_
       exact WL.done1 rfl rfl rfl
      ·refine ⟨fun F => ?_, trivial⟩
       refine WL.skips 1 rfl ?_
       exact WL.done1 rfl rfl rfl
      ·refine ⟨fun F => ?_, trivial⟩
       refine WL.qn (y_pick_f rfl rfl) rfl ?_
       exact WL.done1 rfl rfl rfl
      ·refine ⟨fun F => ?_, trivial⟩
       refine WL.mv rfl rfl ?_
       exact WL.done1 rfl rfl rfl
      ·refine ⟨fun F => ?_, trivial⟩
       refine WL.skips 1 rfl ?_
       exact WL.done1 rfl rfl rfl
      ·refine ⟨fun F => ?_, trivial⟩
       refine WL.qn (y_pick_f rfl rfl) rfl ?_
       exact WL.done1 rfl rfl rfl
      ·refine ⟨fun F => ?_, trivial⟩
       refine WL.as rfl rfl ?_
       exact WL.done1 rfl rfl rfl
     ·exact we_lp ⟨false, h, (Sub.cons rfl (Le.refl _) (Sub.nil _)), ⟨⟨rfl, Les.refl _⟩, ⟨rfl, Les.refl _⟩, trivial⟩⟩
   ·replace h := condF h hb5
    apply wc_region_all [_, _, _, _, _, _, _, _, _, _, _, _, _, _, _, _, _, _, _, _, _, _] [[], [0], [0, 1], [0, 1], [0, 1, 2, 3], [0, 1, 2, 3, 4], [0, 1, 2, 3, 4, 5], [0, 1, 2, 3, 4, 5, 6], [0, 1, 2, 3, 4, 5, 6, 7], [0, 1, 2, 3, 4, 5, 6], [0, 1, 2, 3, 4, 5, 6, 7, 8, 9], [0, 1, 2, 3, 4, 5, 6, 7, 8, 9, 10], [0, 1, 2, 3, 4, 5, 6, 7, 8, 9, 10, 11], [0, 1, 2, 3, 4, 5, 6, 7, 8, 9, 10, 11, 12], [0, 1, 2, 3, 4, 5, 6, 7, 8, 9, 10, 11, 12, 13], [0, 1, 2, 3, 4, 5, 6, 7, 8, 9, 10, 11, 12, 13, 14], [0, 1, 2, 3, 4, 5, 6, 7, 8, 9, 10, 11, 12, 13, 14, 15], [0, 1, 2, 3, 4, 5, 6, 7, 8, 9, 10, 11, 12, 13, 14, 15, 16], [0, 1, 2, 3, 4, 5, 6, 7, 8, 9, 10, 11, 12, 13, 14, 15, 16, 17], [0, 1, 2, 3, 4, 5, 6, 7, 8, 9, 10, 11, 12, 13, 14, 15, 16, 17, 18], [0, 1, 2, 3, 4, 5, 6, 7, 8, 9, 10, 11, 12, 13, 14, 15, 16, 17, 18, 19], [0, 1, 2, 3, 4, 5, 6, 7, 8, 9, 10, 11, 12, 13, 14, 15, 16, 17, 18, 19, 20]] [] (fun c => List.getD [[.row 26 (vecA 32 (fun j => .d (.sl (List.map E3 (r45.ready j)))) ++ ([.d (.sl (List.map E62 r45.delays)), .d (D.i .i64 r45.run)] : List AV)), .row 26 (vecA 32 (fun j => .d (.sl (List.map E3 (r46.1.ready j)))) ++ ([.d (.sl (List.map E62 r46.1.delays)), .d (D.i .i64 r46.1.run)] : List AV))]] c []) [([], [7], [0]), ([0], [], [0]), ([1], [], [0]), ([1], [], [0]), ([1], [], [0]), ([1, 4], [], [0]), ([5], [], [0]), ([6], [], [0]), ([6], [], [0]), ([6], [], [0]), ([6], [], [0]), ([6], [], [0]), ([6, 11], [], [0]), ([12], [], [0]), ([13], [], [0]), ([13], [], [0]), ([13], [], [0]), ([13, 16], [], [0]), ([17], [], [0]), ([18], [], [0]), ([18, 19], [], [0]), ([20], [], [0])] (by kernel_rfl) (by kernel_rfl) rfl rfl rfl
    ·refine ⟨?_, ?_, ?_, ?_, ?_, ?_, ?_, ?_, ?_, ?_, ?_, ?_, ?_, ?_, ?_, ?_, ?_, ?_, ?_, ?_, ?_, ?_, trivial⟩
     ·refine ⟨fun F => ?_, trivial⟩
      refine WL.mv rfl rfl ?_
      exact WL.done1 rfl rfl rfl
     ·refine ⟨fun F => ?_, trivial⟩
      refine WL.mv rfl rfl ?_
      refine WL.cast 20 rfl (Le.ofd (by rw [hb5])) ?_
      exact WL.done2 rfl rfl rfl
     ·refine ⟨fun F => ?_, trivial⟩
      refine WL.skips 1 rfl ?_
      exact WL.done1 rfl rfl rfl
     ·refine ⟨fun F => ?_, trivial⟩
      refine WL.skips 1 rfl ?_
      exact WL.done1 rfl rfl rfl
     ·refine ⟨fun F => ?_, trivial⟩
      refine WL.skips 1 rfl ?_
      exact WL.done1 rfl rfl rfl
     ·refine ⟨fun F => ?_, trivial⟩
      refine WL.qn (y_pick_f rfl rfl) rfl ?_
      exact WL.done1 rfl rfl rfl
     ·refine ⟨fun F => ?_, trivial⟩
      refine WL.mv rfl rfl ?_
      exact WL.done1 rfl rfl rfl
     ·refine ⟨fun F => ?_, trivial⟩
      refine WL.skips 1 rfl ?_
      exact WL.done1 rfl rfl rfl
     ·refine ⟨fun F => ?_, trivial⟩
      refine WL.skips 1 rfl ?_
      exact WL.done1 rfl rfl rfl
     ·refine ⟨fun F => ?_, trivial⟩
      refine WL.skips 1 rfl ?_
      exact WL.done1 rfl rfl rfl
     ·refine ⟨fun F => ?_, trivial⟩
      refine WL.skips 1 rfl ?_
      exact WL.done1 rfl rfl rfl
     ·refine ⟨fun F => ?_, trivial⟩
      refine WL.skips 1 rfl ?_
      exact WL.done1 rfl rfl rfl
     ·refine ⟨fun F => ?_, trivial⟩
      refine WL.qn (y_pick_f rfl rfl) rfl ?_
      exact WL.done1 rfl rfl rfl
     ·refine ⟨fun F => ?_, trivial⟩
      refine WL.mv rfl rfl ?_
      exact WL.done1 rfl rfl rfl
     ·refine ⟨fun F => ?_, trivial⟩
      refine WL.skips 1 rfl ?_
      exact WL.done1 rfl rfl rfl
     ·refine ⟨fun F => ?_, trivial⟩
      refine WL.skips 1 rfl ?_
      exact WL.done1 rfl rfl rfl
     ·refine ⟨fun F => ?_, trivial⟩
      refine WL.skips 1 rfl ?_
      exact WL.done1 rfl rfl rfl
     ·refine ⟨fun F => ?_, trivial⟩
      refine WL.qn (y_pick_f rfl rfl) rfl ?_
      exact WL.done1 rfl rfl rfl
     ·refine ⟨fun F => ?_, trivial⟩
      refine WL.mv rfl rfl ?_
      exact WL.done1 rfl rfl rfl
     ·refine ⟨fun F => ?_, trivial⟩
      refine WL.skips 1 rfl ?_
      exact WL.done1 rfl rfl rfl
     ·refine ⟨fun F => ?_, trivial⟩
      refine WL.qn (y_pick_f rfl rfl) rfl ?_
      exact WL.done1 rfl rfl rfl
     ·refine ⟨fun F => ?_, trivial⟩
      refine WL.as rfl rfl ?_
      exact WL.done1 rfl rfl rfl
    ·exact we_lp ⟨false, h, (Sub.cons rfl (Le.refl _) (Sub.nil _)), ⟨⟨rfl, Les.refl _⟩, ⟨rfl, Les.refl _⟩, trivial⟩⟩
  ·rintro env1 st1 ⟨t47, h, hsub, hst⟩
   subst hk48
   dsimp only at h
   refine WC.sub hsub (WC.weak hst ?_)
   refine wc_ret ?_
   obtain rfl := Option.some.inj h
   exact we_ret_fn (rs1 rfl (rv_t rfl)) (Le.refl _)

end Go.Proofs.Ytpionlekbfoccaa
