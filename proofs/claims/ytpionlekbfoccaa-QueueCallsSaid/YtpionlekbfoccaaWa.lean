/- The walks of functions. -/
import Derived.Test.YtpionlekbfoccaaProg
import Derived.KernelRfl
import Derived.Test.YtpionlekbfoccaaO
set_option maxHeartbeats 4000000
set_option maxRecDepth 100000
namespace Go.Proofs.Ytpionlekbfoccaa
open Go Go.Sk

theorem a2 : aggOf Try.prog 2 = some false := by kernel_rfl
theorem a22 : aggOf Try.prog 22 = some false := by kernel_rfl
theorem a23 : aggOf Try.prog 23 = some true := by kernel_rfl
theorem a24 : aggOf Try.prog 24 = some false := by kernel_rfl
theorem a26 : aggOf Try.prog 26 = some true := by kernel_rfl
theorem a3 : aggOf Try.prog 3 = some false := by kernel_rfl
theorem a4 : aggOf Try.prog 4 = some false := by kernel_rfl
theorem a5 : aggOf Try.prog 5 = some false := by kernel_rfl
theorem a52 : aggOf Try.prog 52 = some true := by kernel_rfl
theorem a62 : aggOf Try.prog 62 = some true := by kernel_rfl
theorem a63 : aggOf Try.prog 63 = some true := by kernel_rfl
theorem a87 : aggOf Try.prog 87 = some false := by kernel_rfl
theorem a89 : aggOf Try.prog 89 = some false := by kernel_rfl
theorem e22 : elemOf' Try.prog 22 = some (1, false) := by kernel_rfl
theorem e24 : elemOf' Try.prog 24 = some (2, true) := by kernel_rfl
theorem e48 : elemOf' Try.prog 48 = some (1, false) := by kernel_rfl
theorem e89 : elemOf' Try.prog 89 = some (1, false) := by kernel_rfl
theorem f26_0 : fieldOf Try.prog 26 0 = some (0, 32, true) := by kernel_rfl
theorem f26_1 : fieldOf Try.prog 26 1 = some (32, 1, false) := by kernel_rfl
theorem f26_2 : fieldOf Try.prog 26 2 = some (33, 1, false) := by kernel_rfl
theorem f52_0 : fieldOf Try.prog 52 0 = some (0, 1, false) := by kernel_rfl
theorem f52_1 : fieldOf Try.prog 52 1 = some (1, 1, false) := by kernel_rfl
theorem f52_2 : fieldOf Try.prog 52 2 = some (2, 1, false) := by kernel_rfl
theorem f52_3 : fieldOf Try.prog 52 3 = some (3, 1, false) := by kernel_rfl
theorem f62_0 : fieldOf Try.prog 62 0 = some (0, 1, false) := by kernel_rfl
theorem f62_1 : fieldOf Try.prog 62 1 = some (1, 1, false) := by kernel_rfl
theorem l22 : eltOf Try.prog 22 = some (3, 1, 8) := by kernel_rfl
theorem l24 : eltOf Try.prog 24 = some (62, 2, 16) := by kernel_rfl
theorem p26 : placesOf Try.prog 26 = some [(0, 32), (32, 1), (33, 1)] := by kernel_rfl
theorem p62 : placesOf Try.prog 62 = some [(0, 1), (1, 1)] := by kernel_rfl
theorem q62 : leafOk Try.prog 62 = some [.int .i64, .int .i64] := by kernel_rfl
theorem ar23 : arrOf Try.prog 23 = some (32, 1, false) := by kernel_rfl
theorem ar63 : arrOf Try.prog 63 = some (8, 1, false) := by kernel_rfl
theorem s22 : szOf Try.prog 22 = some 1 := by kernel_rfl
theorem s23 : szOf Try.prog 23 = some 32 := by kernel_rfl
theorem s24 : szOf Try.prog 24 = some 1 := by kernel_rfl
theorem s26 : szOf Try.prog 26 = some 34 := by kernel_rfl
theorem s29 : szOf Try.prog 29 = some 1 := by kernel_rfl
theorem s3 : szOf Try.prog 3 = some 1 := by kernel_rfl
theorem s4 : szOf Try.prog 4 = some 1 := by kernel_rfl
theorem s52 : szOf Try.prog 52 = some 4 := by kernel_rfl
theorem s62 : szOf Try.prog 62 = some 2 := by kernel_rfl
theorem s63 : szOf Try.prog 63 = some 8 := by kernel_rfl
theorem z26 : zeroOf Try.prog 26 = some [.slice none 0 0, .slice none 0 0, .slice none 0 0, .slice none 0 0, .slice none 0 0, .slice none 0 0, .slice none 0 0, .slice none 0 0, .slice none 0 0, .slice none 0 0, .slice none 0 0, .slice none 0 0, .slice none 0 0, .slice none 0 0, .slice none 0 0, .slice none 0 0, .slice none 0 0, .slice none 0 0, .slice none 0 0, .slice none 0 0, .slice none 0 0, .slice none 0 0, .slice none 0 0, .slice none 0 0, .slice none 0 0, .slice none 0 0, .slice none 0 0, .slice none 0 0, .slice none 0 0, .slice none 0 0, .slice none 0 0, .slice none 0 0, .slice none 0 0, .int .i64 0] := by kernel_rfl
theorem z3 : zeroOf Try.prog 3 = some [.int .i64 0] := by kernel_rfl
theorem z4 : zeroOf Try.prog 4 = some [.bool false] := by kernel_rfl
theorem z62 : zeroOf Try.prog 62 = some [.int .i64 0, .int .i64 0] := by kernel_rfl
theorem z63 : zeroOf Try.prog 63 = some [.int .i64 0, .int .i64 0, .int .i64 0, .int .i64 0, .int .i64 0, .int .i64 0, .int .i64 0, .int .i64 0] := by kernel_rfl

theorem f69_c (x0 : Int) : Pu Try.prog 69 [.i .i64 x0] (.b (f69 x0)) := by
 generalize h : f69 x0 = r
 unfold f69 at h
 refine fn_intro Try.func69 (by kernel_rfl) rfl rfl rfl (fun φφ ww => ?_)
 refine wc_sr ?_
 refine WL.as rfl rfl ?_
 refine WL.ns ?_
 refine wc_sr ?_
 refine WL.mv rfl rfl ?_
 refine WL.mv rfl rfl ?_
 refine WL.qn (y_neq rfl rfl) rfl ?_
 refine WL.as rfl rfl ?_
 refine WL.ns ?_
 refine wc_ret ?_
 subst h
 exact we_ret_fn (rs1 rfl (rv_t rfl)) (Le.refl _)

theorem f38_c (x0 : Int) (y1 : Int) : Pu Try.prog 38 [.i .i64 x0, .i .i64 y1] (.i .i64 (f38 x0 y1)) := by
 generalize h : f38 x0 y1 = r
 unfold f38 at h
 refine fn_intro Try.func38 (by kernel_rfl) rfl rfl rfl (fun φφ ww => ?_)
 refine wc_sr ?_
 refine WL.as rfl rfl ?_
 refine WL.ns ?_
 refine wc_sr ?_
 refine WL.mv rfl rfl ?_
 refine WL.fn rfl rfl rfl rfl (f69_c _) ⟨(Le.refl _), trivial⟩ (Wt.none rfl) rfl rfl ?_
 refine WL.as rfl rfl ?_
 refine WL.ns ?_
 refine wc_sr ?_
 refine WL.mv rfl rfl ?_
 refine WL.fn rfl rfl rfl rfl (f69_c _) ⟨(Le.refl _), trivial⟩ (Wt.none rfl) rfl rfl ?_
 refine WL.as rfl rfl ?_
 refine WL.ns ?_
 refine wc_seq ?_
 refine wc_sr ?_
 refine WL.mv rfl rfl ?_
 refine WL.ns ?_
 refine wc_cond rfl (fun hc1 => ?_) (fun hc1 => ?_)
 ·replace h := condT h hc1
  refine wc_seq ?_
  refine wc_sr ?_
  refine WL.mv rfl rfl ?_
  refine WL.ns ?_
  refine wc_cond rfl (fun hc2 => ?_) (fun hc2 => ?_)
  ·replace h := condT h hc2
   refine wc_sr ?_
   refine WL.as rfl rfl ?_
   refine WL.ns ?_
   refine wc_ret ?_
   refine we_seq_ret ?_
   refine we_seq_ret ?_
   subst h
   exact we_ret_fn (rs1 rfl (rv_t rfl)) (Le.refl _)
  ·replace h := condF h hc2
   refine wc_skip ?_
   refine we_seq ?_
   refine wc_sr ?_
   refine WL.as rfl rfl ?_
   refine WL.ns ?_
   refine wc_ret ?_
   refine we_seq_ret ?_
   subst h
   exact we_ret_fn (rs1 rfl (rv_t rfl)) (Le.refl _)
 ·replace h := condF h hc1
  refine wc_skip ?_
  refine we_seq ?_
  refine wc_seq ?_
  refine wc_sr ?_
  refine WL.mv rfl rfl ?_
  refine WL.ns ?_
  refine wc_cond rfl (fun hc3 => ?_) (fun hc3 => ?_)
  ·replace h := condT h hc3
   refine wc_sr ?_
   refine WL.as rfl rfl ?_
   refine WL.ns ?_
   refine wc_ret ?_
   refine we_seq_ret ?_
   subst h
   exact we_ret_fn (rs1 rfl (rv_t rfl)) (Le.refl _)
  ·replace h := condF h hc3
   refine wc_skip ?_
   refine we_seq ?_
   refine wc_seq ?_
   refine wc_sr ?_
   refine WL.mv rfl rfl ?_
   refine WL.mv rfl rfl ?_
   refine WL.qn (y_lss rfl rfl) rfl ?_
   refine WL.ns ?_
   refine wc_cond rfl (fun hc4 => ?_) (fun hc4 => ?_)
   ·replace h := condT h hc4
    refine wc_sr ?_
    refine WL.as rfl rfl ?_
    refine WL.ns ?_
    refine wc_ret ?_
    refine we_seq_ret ?_
    subst h
    exact we_ret_fn (rs1 rfl (rv_t rfl)) (Le.refl _)
   ·replace h := condF h hc4
    refine wc_skip ?_
    refine we_seq ?_
    refine wc_seq ?_
    refine wc_sr ?_
    refine WL.mv rfl rfl ?_
    refine WL.mv rfl rfl ?_
    refine WL.qn (y_gtr rfl rfl) rfl ?_
    refine WL.ns ?_
    refine wc_cond rfl (fun hc5 => ?_) (fun hc5 => ?_)
    ·replace h := condT h hc5
     refine wc_sr ?_
     refine WL.as rfl rfl ?_
     refine WL.ns ?_
     refine wc_ret ?_
     refine we_seq_ret ?_
     subst h
     exact we_ret_fn (rs1 rfl (rv_t rfl)) (Le.refl _)
    ·replace h := condF h hc5
     refine wc_skip ?_
     refine we_seq ?_
     refine wc_sr ?_
     refine WL.as rfl rfl ?_
     refine WL.ns ?_
     refine wc_ret ?_
     subst h
     exact we_ret_fn (rs1 rfl (rv_t rfl)) (Le.refl _)

theorem f37_c (a0 : Due) (b1 : Due) : Pu Try.prog 37 [.ag (R62 a0), .ag (R62 b1)] (.i .i64 (f37 a0 b1)) := by
 generalize h : f37 a0 b1 = r
 unfold f37 at h
 refine fn_intro Try.func37 (by kernel_rfl) rfl rfl rfl (fun φφ ww => ?_)
 refine wc_sr ?_
 refine WL.s ((b_boxd rfl rfl (Les.refl _)).does) (Wt.none rfl) rfl rfl ?_
 refine WL.s ((b_boxd rfl rfl (Les.refl _)).does) (Wt.none rfl) rfl rfl ?_
 refine WL.as rfl rfl ?_
 refine WL.ns ?_
 refine wc_sr ?_
 refine WL.qn (y_fieldAddrc f62_0 rfl) rfl ?_
 refine WL.qn (y_loadc rfl a2 rfl) rfl ?_
 refine WL.qn (y_fieldAddrc f62_0 rfl) rfl ?_
 refine WL.qn (y_loadc rfl a2 rfl) rfl ?_
 refine WL.fn rfl rfl rfl rfl (f38_c _ _) ⟨(Le.refl _), (Le.refl _), trivial⟩ (Wt.none rfl) rfl rfl ?_
 refine WL.as rfl rfl ?_
 refine WL.ns ?_
 refine wc_ret ?_
 subst h
 exact we_ret_fn (rs1 rfl (rv_t rfl)) (Le.refl _)

theorem f30_c (n0 : Int) : Pu Try.prog 30 [.i .i64 n0] (.b (f30 n0)) := by
 generalize h : f30 n0 = r
 unfold f30 at h
 refine fn_intro Try.func30 (by kernel_rfl) rfl rfl rfl (fun φφ ww => ?_)
 refine wc_sr ?_
 refine WL.as rfl rfl ?_
 refine WL.ns ?_
 refine wc_sr ?_
 refine WL.mv rfl rfl ?_
 refine WL.qn (y_geq rfl rfl) rfl ?_
 refine WL.mv rfl rfl ?_
 apply WL.and 3 (t := 5) (d := 8)
 ·exact rfl
 ·intro hg5
  refine WL.qy (y_move rfl) rfl rfl rfl ?_
  refine WL.qy (y_lss rfl rfl) rfl rfl rfl ?_
  refine WL.qn (y_pick_t rfl rfl) rfl ?_
  exact WL.nil ⟨rfl, [_, _, _], rfl, rfl, rfl⟩
 ·refine WL.skips 2 rfl ?_
  refine WL.qn (y_pick_f rfl rfl) rfl ?_
  exact WL.nil ⟨rfl, [_, _, _], rfl, rfl, rfl⟩
 refine WL.as rfl rfl ?_
 refine WL.ns ?_
 refine wc_ret ?_
 subst h
 exact we_ret_fn (rs1 rfl (rv_t rfl)) (Le.refl _)

theorem f10_c (q0 : Queues) {r : Bool} (h : f10 q0 = some r) : Pu Try.prog 10 [.ag (R26 q0)] (.b r) := by
 unfold f10 at h
 refine fn_intro Try.func10 (by kernel_rfl) rfl rfl rfl (fun φφ ww => ?_)
 refine wc_sr ?_
 refine WL.s ((b_boxd rfl rfl (Les.refl _)).does) (Wt.none rfl) rfl rfl ?_
 refine WL.as rfl rfl ?_
 refine WL.ns ?_
 refine wc_sr ?_
 refine WL.s ((b_makeMap (α := Bool) (fun x : Int => Value.int .i64 x) (fun x : Bool => AV.d (.b x))).does) (Wt.none rfl) rfl rfl ?_
 refine WL.s0 (d_mapUpdate (fun x : Int => Value.int .i64 x) (fun x : Bool => AV.d (.b x)) ([] : List (Int × Bool)) (.inl rfl) Try.underlying59 Try.underlying3 (KeyF.int .i64) rfl rfl rfl rfl) (Wt.none rfl) rfl ?_
 refine WL.mv rfl rfl ?_
 refine WL.s ((b_makeMap (α := Bool) (fun x : Int => Value.int .i64 x) (fun x : Bool => AV.d (.b x))).does) (Wt.none rfl) rfl rfl ?_
 refine WL.as rfl rfl ?_
 refine WL.as rfl rfl ?_
 refine WL.ns ?_
 refine wc_seq ?_
 refine wc_sr ?_
 refine WL.qn (y_fieldAddrc f26_2 rfl) rfl ?_
 refine WL.qn (y_loadc rfl a3 rfl) rfl ?_
 refine WL.qn (y_neq rfl rfl) rfl ?_
 refine WL.mv rfl rfl ?_
 apply WL.and 5 (t := 18) (d := 23)
 ·exact rfl
 ·intro hg18
  refine WL.qy (y_fieldAddrc f26_2 rfl) rfl rfl rfl ?_
  refine WL.qy (y_loadc rfl a3 rfl) rfl rfl rfl ?_
  refine WL.fn rfl rfl rfl rfl (f30_c _) ⟨(Le.refl _), trivial⟩ (Wt.yes rfl rfl rfl) rfl rfl ?_
  refine WL.qy (y_not rfl) rfl rfl rfl ?_
  refine WL.qn (y_pick_t rfl rfl) rfl ?_
  exact WL.nil ⟨rfl, [_, _, _, _, _], rfl, rfl, rfl⟩
 ·refine WL.skips 4 rfl ?_
  refine WL.qn (y_pick_f rfl rfl) rfl ?_
  exact WL.nil ⟨rfl, [_, _, _, _, _], rfl, rfl, rfl⟩
 refine WL.ns ?_
 refine wc_cond rfl (fun hc1 => ?_) (fun hc1 => ?_)
 ·replace h := condT h hc1
  refine wc_sr ?_
  refine WL.as rfl rfl ?_
  refine WL.ns ?_
  refine wc_ret ?_
  refine we_seq_ret ?_
  obtain rfl := Option.some.inj h
  exact we_ret_fn (rs1 rfl (rv_t rfl)) (Le.refl _)
 ·replace h := condF h hc1
  refine wc_skip ?_
  refine we_seq ?_
  refine wc_sr ?_
  refine WL.mv rfl rfl ?_
  refine WL.qn (y_fieldAddrc f26_2 rfl) rfl ?_
  refine WL.qn (y_loadc rfl a3 rfl) rfl ?_
  refine WL.s0 (d_mapUpdate (fun x : Int => Value.int .i64 x) (fun x : Bool => AV.d (.b x)) (mpPut ([] : List (Int × Bool)) (-1) true) (.inr rfl) Try.underlying59 Try.underlying3 (KeyF.int .i64) rfl rfl rfl rfl) (Wt.none rfl) rfl ?_
  refine WL.ns ?_
  replace h := letkS h
  obtain ⟨k87, hk87, h⟩ := h
  refine wc_cut (fun env' st' => ∃ (m86 : List (Int × Bool)), k87 m86 = some r ∧ Sub [(1, .d (.pc (R26 q0))), (4, .mp 1)] env' ∧ SLe st' [mpO (fun x : Int => Value.int .i64 x) (fun x : Bool => AV.d (.b x)) m86, mpO (fun x : Int => Value.int .i64 x) (fun x : Bool => AV.d (.b x)) ([] : List (Int × Bool))]) ?_ ?_
  ·refine wc_sr ?_
   refine WL.qn (y_fieldAddrc f26_0 rfl) rfl ?_
   refine WL.qn (y_loadcN rfl a23 s23 rfl) rfl ?_
   refine WL.mv rfl rfl ?_
   refine WL.ns ?_
   refine wc_block ?_
   refine wc_loop (fun n env' st' => ∃ (t90 : Int), ∃ (m91 : List (Int × Bool)), f10_l1 q0 k87 n t90 m91 = some r ∧ Sub [(1, .d (.pc (R26 q0))), (3, .mp 0), (4, .mp 1), (28, .d (.ag (R23 q0.ready))), (29, .d (D.i .i64 t90))] env' ∧ SLe st' [mpO (fun x : Int => Value.int .i64 x) (fun x : Bool => AV.d (.b x)) m91, mpO (fun x : Int => Value.int .i64 x) (fun x : Bool => AV.d (.b x)) ([] : List (Int × Bool))]) (fun n => n) (Int.toNat (32 - 0) + 1) ⟨0, (mpPut (mpPut ([] : List (Int × Bool)) (-1) true) q0.run true), h, (Sub.cons rfl (Le.refl _) (Sub.cons rfl (Le.refl _) (Sub.cons rfl (Le.refl _) (Sub.cons rfl (Le.refl _) (Sub.cons rfl (Le.refl _) (Sub.nil _)))))), ⟨rfl, rfl, trivial⟩⟩ ?_
   rintro n env1 st1 ⟨t90, m91, h, hsub, hst⟩
   cases n with
   | zero => rw [f10_l1] at h; cases h
   | succ n =>
   rw [f10_l1] at h
   refine WC.sub hsub (WC.weak hst ?_)
   refine wc_sr ?_
   refine WL.qn (y_lss rfl rfl) rfl ?_
   refine WL.ns ?_
   refine wc_seq ?_
   refine wc_cond rfl (fun hc2 => ?_) (fun hc2 => ?_)
   ·replace h := condT h hc2
    refine wc_skip ?_
    refine we_seq ?_
    replace h := letkS h
    obtain ⟨k95, hk95, h⟩ := h
    refine wc_cut (fun env' st' => ∃ (m94 : List (Int × Bool)), k95 m94 = some r ∧ Sub [(1, .d (.pc (R26 q0))), (3, .mp 0), (4, .mp 1), (28, .d (.ag (R23 q0.ready))), (29, .d (D.i .i64 t90))] env' ∧ SLe st' [mpO (fun x : Int => Value.int .i64 x) (fun x : Bool => AV.d (.b x)) m94, mpO (fun x : Int => Value.int .i64 x) (fun x : Bool => AV.d (.b x)) ([] : List (Int × Bool))]) ?_ ?_
    ·refine wc_block ?_
     refine wc_sr ?_
     replace h := guardBS h
     obtain ⟨hgg96, h⟩ := h
     refine WL.qn (y_indexV (fun j => .sl (List.map E3 (q0.ready j))) ar23 rfl rfl rfl hgg96) rfl ?_
     refine WL.as rfl rfl ?_
     refine WL.ns ?_
     refine wc_sr ?_
     refine WL.mv rfl rfl ?_
     refine WL.qn (y_len_map E3 (q0.ready (Int.toNat t90)) e22 rfl rfl (Le.refl _)) rfl ?_
     refine WL.mv rfl rfl ?_
     refine WL.ns ?_
     refine wc_block ?_
     refine wc_loop (fun na env' st' => ∃ (t99 : Int), ∃ (m100 : List (Int × Bool)), f10_l2 q0 t90 k95 na t99 m100 = some r ∧ Sub [(1, .d (.pc (R26 q0))), (3, .mp 0), (4, .mp 1), (28, .d (.ag (R23 q0.ready))), (29, .d (D.i .i64 t90)), (32, .d (.sl (List.map E3 (q0.ready (Int.toNat t90))))), (33, .d (D.i .i64 (List.length (q0.ready (Int.toNat t90)) : Int))), (34, .d (D.i .i64 t99))] env' ∧ SLe st' [mpO (fun x : Int => Value.int .i64 x) (fun x : Bool => AV.d (.b x)) m100, mpO (fun x : Int => Value.int .i64 x) (fun x : Bool => AV.d (.b x)) ([] : List (Int × Bool))]) (fun n => n) (Int.toNat ((List.length (q0.ready (Int.toNat t90)) : Int) - 0) + 1) ⟨0, m91, h, (Sub.cons rfl (Le.refl _) (Sub.cons rfl (Le.refl _) (Sub.cons rfl (Le.refl _) (Sub.cons rfl (Le.refl _) (Sub.cons rfl (Le.refl _) (Sub.cons rfl (Le.refl _) (Sub.cons rfl (Le.refl _) (Sub.cons rfl (Le.refl _) (Sub.nil _))))))))), ⟨rfl, rfl, trivial⟩⟩ ?_
     rintro na env1 st1 ⟨t99, m100, h, hsub, hst⟩
     cases na with
     | zero => rw [f10_l2] at h; cases h
     | succ na =>
     rw [f10_l2] at h
     refine WC.sub hsub (WC.weak hst ?_)
     refine wc_sr ?_
     refine WL.qn (y_lss rfl rfl) rfl ?_
     refine WL.ns ?_
     refine wc_seq ?_
     refine wc_cond rfl (fun hc3 => ?_) (fun hc3 => ?_)
     ·replace h := condT h hc3
      refine wc_skip ?_
      refine we_seq ?_
      refine wc_seq ?_
      refine wc_block ?_
      refine wc_sr ?_
      obtain ⟨x103, hx103, h⟩ := bindS h
      refine WL.qn (y_indexAddr e22 rfl (Le.refl _) rfl (idx_nonneg hx103) (idx_row E3_eq hx103) rfl) rfl ?_
      refine WL.qn (y_loadc rfl a3 rfl) rfl ?_
      refine WL.as rfl rfl ?_
      refine WL.ns ?_
      refine wc_seq ?_
      refine wc_sr ?_
      refine WL.mv rfl rfl ?_
      refine WL.fn rfl rfl rfl rfl (f30_c _) ⟨(Le.refl _), trivial⟩ (Wt.none rfl) rfl rfl ?_
      refine WL.qn (y_not rfl) rfl ?_
      refine WL.mv rfl rfl ?_
      apply WL.or 4 (t := 41) (d := 45)
      ·exact rfl
      ·intro hg41
       refine WL.qy (y_move rfl) rfl rfl rfl ?_
       refine WL.qy (y_move rfl) rfl rfl rfl ?_
       refine WL.qy (y_lookup (fun x : Int => Value.int .i64 x) (fun x : Bool => AV.d (.b x)) m100 (z := false) Try.underlying59 Try.underlying3 (KeyF.int .i64) rfl rfl rfl (by kernel_rfl) rfl) rfl rfl rfl ?_
       refine WL.qn (y_pick_f rfl rfl) rfl ?_
       exact WL.nil ⟨rfl, [_, _, _, _], rfl, rfl, rfl⟩
      ·refine WL.skips 3 rfl ?_
       refine WL.qn (y_pick_t rfl rfl) rfl ?_
       exact WL.nil ⟨rfl, [_, _, _, _], rfl, rfl, rfl⟩
      refine WL.ns ?_
      refine wc_cond rfl (fun hc4 => ?_) (fun hc4 => ?_)
      ·replace h := condT h hc4
       refine wc_sr ?_
       refine WL.as rfl rfl ?_
       refine WL.ns ?_
       refine wc_ret ?_
       refine we_seq_ret ?_
       refine we_blk_ret ?_
       refine we_seq_ret ?_
       refine we_lp_ret ?_
       refine we_blk_ret ?_
       refine we_blk_ret ?_
       refine we_lp_ret ?_
       refine we_lp_ret ?_
       refine we_blk_ret ?_
       refine we_lp_ret ?_
       obtain rfl := Option.some.inj h
       exact we_ret_fn (rs1 rfl (rv_t rfl)) (Le.refl _)
      ·replace h := condF h hc4
       refine wc_skip ?_
       refine we_seq ?_
       refine wc_region ?_
       refine WL.mv rfl rfl ?_
       refine WL.mv rfl rfl ?_
       refine WL.s0 (d_mapUpdate (fun x : Int => Value.int .i64 x) (fun x : Bool => AV.d (.b x)) m100 (.inr rfl) Try.underlying59 Try.underlying3 (KeyF.int .i64) rfl rfl rfl rfl) (Wt.none rfl) rfl ?_
       refine WL.nil ?_
       refine we_blk ?_
       refine we_seq ?_
       refine wc_region ?_
       refine WL.qn (y_add rfl rfl rfl) rfl ?_
       refine WL.mv rfl rfl ?_
       refine WL.nil ?_
       exact we_lp ⟨na, ⟨(IntKind.i64.wrap (t99 + 1)), (mpPut m100 x103 true), h, (Sub.cons rfl (Le.refl _) (Sub.cons rfl (Le.refl _) (Sub.cons rfl (Le.refl _) (Sub.cons rfl (Le.refl _) (Sub.cons rfl (Le.refl _) (Sub.cons rfl (Le.refl _) (Sub.cons rfl (Le.refl _) (Sub.cons rfl (Le.refl _) (Sub.nil _))))))))), ⟨rfl, rfl, trivial⟩⟩, Nat.lt_succ_self na⟩
     ·replace h := condF h hc3
      refine wc_exit ?_
      refine we_seq_exit ?_
      refine we_lp_exit ?_
      refine we_blk_hit ?_
      refine we_blk ?_
      exact we_lp ⟨m100, h, (Sub.cons rfl (Le.refl _) (Sub.cons rfl (Le.refl _) (Sub.cons rfl (Le.refl _) (Sub.cons rfl (Le.refl _) (Sub.cons rfl (Le.refl _) (Sub.nil _)))))), ⟨rfl, rfl, trivial⟩⟩
    ·rintro env1 st1 ⟨m94, h, hsub, hst⟩
     subst hk95
     dsimp only at h
     refine WC.sub hsub (WC.weak hst ?_)
     refine wc_region ?_
     refine WL.qn (y_add rfl rfl rfl) rfl ?_
     refine WL.mv rfl rfl ?_
     refine WL.nil ?_
     exact we_lp ⟨n, ⟨(IntKind.i64.wrap (t90 + 1)), m94, h, (Sub.cons rfl (Le.refl _) (Sub.cons rfl (Le.refl _) (Sub.cons rfl (Le.refl _) (Sub.cons rfl (Le.refl _) (Sub.cons rfl (Le.refl _) (Sub.nil _)))))), ⟨rfl, rfl, trivial⟩⟩, Nat.lt_succ_self n⟩
   ·replace h := condF h hc2
    refine wc_exit ?_
    refine we_seq_exit ?_
    refine we_lp_exit ?_
    refine we_blk_hit ?_
    exact we_lp ⟨m91, h, (Sub.cons rfl (Le.refl _) (Sub.cons rfl (Le.refl _) (Sub.nil _))), ⟨rfl, rfl, trivial⟩⟩
  ·rintro env1 st1 ⟨m86, h, hsub, hst⟩
   subst hk87
   dsimp only at h
   refine WC.sub hsub (WC.weak hst ?_)
   refine wc_sr ?_
   refine WL.as rfl rfl ?_
   refine WL.ns ?_
   replace h := letkS h
   obtain ⟨k105, hk105, h⟩ := h
   refine wc_cut (fun env' st' => ∃ (m104 : List (Int × Bool)), k105 m104 = some r ∧ Sub [] env' ∧ SLe st' [mpO (fun x : Int => Value.int .i64 x) (fun x : Bool => AV.d (.b x)) m86, mpO (fun x : Int => Value.int .i64 x) (fun x : Bool => AV.d (.b x)) m104]) ?_ ?_
   ·refine wc_sr ?_
    refine WL.qn (y_fieldAddrc f26_1 rfl) rfl ?_
    refine WL.qn (y_loadc rfl a24 rfl) rfl ?_
    refine WL.qn (y_len_map E62 q0.delays e24 rfl rfl (Le.refl _)) rfl ?_
    refine WL.mv rfl rfl ?_
    refine WL.ns ?_
    refine wc_block ?_
    refine wc_loop (fun n env' st' => ∃ (last109 : Int), ∃ (t110 : Int), ∃ (m111 : List (Int × Bool)), f10_l3 q0 k105 n last109 t110 m111 = some r ∧ Sub [(4, .mp 1), (9, .d (D.i .i64 last109)), (51, .d (.sl (List.map E62 q0.delays))), (52, .d (D.i .i64 (List.length q0.delays : Int))), (53, .d (D.i .i64 t110))] env' ∧ SLe st' [mpO (fun x : Int => Value.int .i64 x) (fun x : Bool => AV.d (.b x)) m86, mpO (fun x : Int => Value.int .i64 x) (fun x : Bool => AV.d (.b x)) m111]) (fun n => n) (Int.toNat ((List.length q0.delays : Int) - 0) + 1) ⟨0, 0, ([] : List (Int × Bool)), h, (Sub.cons rfl (Le.refl _) (Sub.cons rfl (Le.refl _) (Sub.cons rfl (Le.refl _) (Sub.cons rfl (Le.refl _) (Sub.cons rfl (Le.refl _) (Sub.nil _)))))), ⟨rfl, rfl, trivial⟩⟩ ?_
    rintro n env1 st1 ⟨last109, t110, m111, h, hsub, hst⟩
    cases n with
    | zero => rw [f10_l3] at h; cases h
    | succ n =>
    rw [f10_l3] at h
    refine WC.sub hsub (WC.weak hst ?_)
    refine wc_sr ?_
    refine WL.qn (y_lss rfl rfl) rfl ?_
    refine WL.ns ?_
    refine wc_seq ?_
    refine wc_cond rfl (fun hc5 => ?_) (fun hc5 => ?_)
    ·replace h := condT h hc5
     refine wc_skip ?_
     refine we_seq ?_
     refine wc_seq ?_
     refine wc_block ?_
     refine wc_sr ?_
     obtain ⟨x115, hx115, h⟩ := bindS h
     refine WL.qn (y_indexAddr e24 rfl (Le.refl _) rfl (idx_nonneg hx115) (idx_row E62_eq hx115) rfl) rfl ?_
     refine WL.qn (y_loadcN rfl a62 s62 rfl) rfl ?_
     refine WL.s ((b_alloc z62).does) (Wt.none rfl) rfl rfl ?_
     refine WL.s0 (d_store rfl rfl rfl rfl rfl rfl s62 rfl rfl) (Wt.none rfl) rfl ?_
     refine WL.ns ?_
     refine wc_seq ?_
     refine wc_sr ?_
     refine WL.qn (y_fieldAddr f62_1 rfl) rfl ?_
     refine WL.qn (y_load rfl rfl a3 rfl) rfl ?_
     refine WL.fn rfl rfl rfl rfl (f30_c _) ⟨(Le.refl _), trivial⟩ (Wt.none rfl) rfl rfl ?_
     refine WL.qn (y_not rfl) rfl ?_
     refine WL.mv rfl rfl ?_
     apply WL.or 5 (t := 61) (d := 66)
     ·exact rfl
     ·intro hg61
      refine WL.qy (y_move rfl) rfl rfl rfl ?_
      refine WL.qy (y_fieldAddr f62_1 rfl) rfl rfl rfl ?_
      refine WL.qy (y_load rfl rfl a3 rfl) rfl rfl rfl ?_
      refine WL.qy (y_lookup (fun x : Int => Value.int .i64 x) (fun x : Bool => AV.d (.b x)) m111 (z := false) Try.underlying59 Try.underlying3 (KeyF.int .i64) rfl rfl rfl (by kernel_rfl) rfl) rfl rfl rfl ?_
      refine WL.qn (y_pick_f rfl rfl) rfl ?_
      exact WL.nil ⟨rfl, [_, _, _, _, _], rfl, rfl, rfl⟩
     ·refine WL.skips 4 rfl ?_
      refine WL.qn (y_pick_t rfl rfl) rfl ?_
      exact WL.nil ⟨rfl, [_, _, _, _, _], rfl, rfl, rfl⟩
     refine WL.mv rfl rfl ?_
     apply WL.or 5 (t := 67) (d := 72)
     ·exact rfl
     ·intro hg67
      refine WL.qy (y_fieldAddr f62_0 rfl) rfl rfl rfl ?_
      refine WL.qy (y_load rfl rfl a2 rfl) rfl rfl rfl ?_
      refine WL.qy (y_move rfl) rfl rfl rfl ?_
      refine WL.qy (y_lss rfl rfl) rfl rfl rfl ?_
      refine WL.qn (y_pick_f rfl rfl) rfl ?_
      exact WL.nil ⟨rfl, [_, _, _, _, _], rfl, rfl, rfl⟩
     ·refine WL.skips 4 rfl ?_
      refine WL.qn (y_pick_t rfl rfl) rfl ?_
      exact WL.nil ⟨rfl, [_, _, _, _, _], rfl, rfl, rfl⟩
     refine WL.mv rfl rfl ?_
     apply WL.or 4 (t := 73) (d := 77)
     ·exact rfl
     ·intro hg73
      refine WL.qy (y_fieldAddr f62_0 rfl) rfl rfl rfl ?_
      refine WL.qy (y_load rfl rfl a2 rfl) rfl rfl rfl ?_
      refine WL.qy (y_gtr rfl rfl) rfl rfl rfl ?_
      refine WL.qn (y_pick_f rfl rfl) rfl ?_
      exact WL.nil ⟨rfl, [_, _, _, _], rfl, rfl, rfl⟩
     ·refine WL.skips 3 rfl ?_
      refine WL.qn (y_pick_t rfl rfl) rfl ?_
      exact WL.nil ⟨rfl, [_, _, _, _], rfl, rfl, rfl⟩
     refine WL.ns ?_
     refine wc_cond rfl (fun hc6 => ?_) (fun hc6 => ?_)
     ·replace h := condT h hc6
      refine wc_sr ?_
      refine WL.as rfl rfl ?_
      refine WL.ns ?_
      refine wc_ret ?_
      refine we_seq_ret ?_
      refine we_blk_ret ?_
      refine we_seq_ret ?_
      refine we_lp_ret ?_
      refine we_blk_ret ?_
      refine we_lp_ret ?_
      obtain rfl := Option.some.inj h
      exact we_ret_fn (rs1 rfl (rv_t rfl)) (Le.refl _)
     ·replace h := condF h hc6
      refine wc_skip ?_
      refine we_seq ?_
      apply wc_region_all [_, _, _, _, _, _, .u] [[], [], [1], [], [3], [3, 4], [0, 1, 2, 3, 4, 5]] [6] (fun c => List.getD [[mpO (fun x : Int => Value.int .i64 x) (fun x : Bool => AV.d (.b x)) m86, mpO (fun x : Int => Value.int .i64 x) (fun x : Bool => AV.d (.b x)) m111, .row 62 [.d (D.i .i64 x115.time), .d (D.i .i64 x115.task)]], [mpO (fun x : Int => Value.int .i64 x) (fun x : Bool => AV.d (.b x)) m86, mpO (fun x : Int => Value.int .i64 x) (fun x : Bool => AV.d (.b x)) (mpPut m111 x115.task true), .row 62 [.d (D.i .i64 x115.time), .d (D.i .i64 x115.task)]]] c []) [([], [4], [0]), ([], [11], [0]), ([1], [], [0]), ([], [11], [0]), ([3], [], [0]), ([4], [], [0]), ([0, 2], [], [0])] (by kernel_rfl) (by kernel_rfl) rfl rfl rfl
      ·refine ⟨?_, ?_, ?_, ?_, ?_, ?_, ?_, trivial⟩
       ·refine ⟨fun F => ?_, trivial⟩
        refine WL.mv rfl rfl ?_
        exact WL.done1 rfl rfl rfl
       ·refine ⟨fun F => ?_, trivial⟩
        refine WL.qn (y_fieldAddr f62_1 rfl) rfl ?_
        exact WL.done1 rfl rfl rfl
       ·refine ⟨fun F => ?_, trivial⟩
        refine WL.qn (y_load rfl rfl a3 rfl) rfl ?_
        exact WL.done1 rfl rfl rfl
       ·refine ⟨fun F => ?_, trivial⟩
        refine WL.qn (y_fieldAddr f62_0 rfl) rfl ?_
        exact WL.done1 rfl rfl rfl
       ·refine ⟨fun F => ?_, trivial⟩
        refine WL.qn (y_load rfl rfl a2 rfl) rfl ?_
        exact WL.done1 rfl rfl rfl
       ·refine ⟨fun F => ?_, trivial⟩
        refine WL.as rfl rfl ?_
        exact WL.done1 rfl rfl rfl
       ·refine ⟨fun F => ?_, trivial⟩
        refine WL.s0 (d_mapUpdate (fun x : Int => Value.int .i64 x) (fun x : Bool => AV.d (.b x)) m111 (.inr rfl) Try.underlying59 Try.underlying3 (KeyF.int .i64) rfl rfl rfl rfl) (Wt.none rfl) rfl ?_
        exact WL.done0 rfl rfl
      ·refine we_blk ?_
       refine we_seq ?_
       refine wc_region ?_
       refine WL.qn (y_add rfl rfl rfl) rfl ?_
       refine WL.mv rfl rfl ?_
       refine WL.nil ?_
       refine WE.drop 2 (env' := [(4, .mp 1), (9, .d (D.i .i64 x115.time)), (51, .d (.sl (List.map E62 q0.delays))), (52, .d (D.i .i64 (List.length q0.delays : Int))), (53, .d (D.i .i64 (IntKind.i64.wrap (t110 + 1))))]) (Sub.one rfl (Sub.one rfl (Sub.one rfl (Sub.one rfl (Sub.one rfl (Sub.nil _)))))) rfl (stLt_cons (lt_mp _ _ _ _) (stLt_cons (lt_mp _ _ _ _) rfl)) (Nat.zero_le _) ?_
       exact we_lp ⟨n, ⟨x115.time, (IntKind.i64.wrap (t110 + 1)), (mpPut m111 x115.task true), h, (Sub.cons rfl (Le.refl _) (Sub.cons rfl (Le.refl _) (Sub.cons rfl (Le.refl _) (Sub.cons rfl (Le.refl _) (Sub.cons rfl (Le.refl _) (Sub.nil _)))))), ⟨rfl, rfl, trivial⟩⟩, Nat.lt_succ_self n⟩
    ·replace h := condF h hc5
     refine wc_exit ?_
     refine we_seq_exit ?_
     refine we_lp_exit ?_
     refine we_blk_hit ?_
     exact we_lp ⟨m111, h, (Sub.nil _), ⟨rfl, rfl, trivial⟩⟩
   ·rintro env1 st1 ⟨m104, h, hsub, hst⟩
    subst hk105
    dsimp only at h
    refine WC.sub hsub (WC.weak hst ?_)
    refine wc_sr ?_
    refine WL.as rfl rfl ?_
    refine WL.ns ?_
    refine wc_ret ?_
    obtain rfl := Option.some.inj h
    exact we_ret_fn (rs1 rfl (rv_t rfl)) (Le.refl _)

theorem f14_c (q0 : Queues) {r : Int × Int × Bool} (h : f14 q0 = some r) : Pu Try.prog 14 [.ag (R26 q0)] (.tu [.i .i64 r.1, .i .i64 r.2.1, .b r.2.2]) := by
 unfold f14 at h
 refine fn_intro Try.func14 (by kernel_rfl) rfl rfl rfl (fun φφ ww => ?_)
 refine wc_sr ?_
 refine WL.s ((b_boxd rfl rfl (Les.refl _)).does) (Wt.none rfl) rfl rfl ?_
 refine WL.s ((b_alloc z3).does) (Wt.none rfl) rfl rfl ?_
 refine WL.s ((b_alloc z3).does) (Wt.none rfl) rfl rfl ?_
 refine WL.s ((b_alloc z4).does) (Wt.none rfl) rfl rfl ?_
 refine WL.ns ?_
 refine wc_seq ?_
 refine wc_sr ?_
 refine WL.qn (y_loadcN rfl a26 s26 rfl) rfl ?_
 obtain ⟨r20, hr20, h⟩ := bindS h
 refine WL.fn rfl rfl rfl rfl (f10_c _ hr20) ⟨(Le.refl _), trivial⟩ (Wt.none rfl) rfl rfl ?_
 refine WL.qn (y_not rfl) rfl ?_
 refine WL.ns ?_
 refine wc_cond rfl (fun hc1 => ?_) (fun hc1 => ?_)
 ·replace h := condT h hc1
  refine wc_sr ?_
  refine WL.s0 (d_store rfl rfl rfl rfl rfl rfl s3 rfl rfl) (Wt.none rfl) rfl ?_
  refine WL.s0 (d_store rfl rfl rfl rfl rfl rfl s3 rfl rfl) (Wt.none rfl) rfl ?_
  refine WL.s0 (d_store rfl rfl rfl rfl rfl rfl s4 rfl rfl) (Wt.none rfl) rfl ?_
  refine WL.ns ?_
  refine wc_ret ?_
  refine we_seq_ret ?_
  obtain rfl := Option.some.inj h
  exact we_ret_fn (rs3 rfl (rv_c rfl rfl a3 rfl) (rv_c rfl rfl a3 rfl) (rv_c rfl rfl a4 rfl)) (Le.tud ⟨(Le.refl _), (Le.refl _), (Le.refl _), trivial⟩)
 ·replace h := condF h hc1
  refine wc_skip ?_
  refine we_seq ?_
  replace h := letkS h
  obtain ⟨k21, hk21, h⟩ := h
  refine wc_cut (fun env' st' => k21 () = some r ∧ Sub [(2, .pt 0 0), (3, .pt 1 0), (4, .pt 2 0)] env' ∧ SLe st' [.row 3 [.d (D.i .i64 0)], .row 3 [.d (D.i .i64 0)], .row 4 [.d (D.b false)], .dead, .row 87 [.yl 3], .dead]) ?_ ?_
  ·refine wc_sr ?_
   refine WL.qn (y_loadcN rfl a26 s26 rfl) rfl ?_
   obtain ⟨k23, hk23, h⟩ := letkS h
   refine WL.inl (us := [.d (.ag (R26 q0))]) (fun rv st' => (k23 () = some r ∧ Le rv (.fn (.func 64) [] [.d (.pc (R26 q0))]) ∧ SLe st' [.row 3 [.d (D.i .i64 0)], .row 3 [.d (D.i .i64 0)], .row 4 [.d (D.b false)]])) rfl rfl rfl rfl rfl ?_ (Wt.none rfl) rfl rfl ?_
   ·refine ctr_intro Try.func34 (by kernel_rfl) rfl rfl rfl (fun mm φφ ww hm22 => ?_)
    refine wc_sr ?_
    refine WL.s ((b_boxd rfl rfl (Les.refl _)).does) (Wt.none rfl) rfl rfl ?_
    refine WL.as rfl rfl ?_
    refine WL.ns ?_
    refine wc_sr ?_
    refine WL.qn (y_makeFunc rfl rfl) rfl ?_
    refine WL.as rfl rfl ?_
    refine WL.ns ?_
    refine wc_ret ?_
    exact we_ret (rs1 rfl (rv_t rfl)) ⟨h, (Le.refl _), ⟨⟨rfl, Les.refl _⟩, ⟨rfl, Les.refl _⟩, ⟨rfl, Les.refl _⟩, trivial⟩⟩
   ·rintro rv st1 ⟨h, hr, hst⟩
    subst hk23
    dsimp only at h
    refine WL.cast 11 rfl hr ?_
    refine WL.weak hst ?_
    refine WL.ns ?_
    refine wc_block ?_
    obtain ⟨k27, hk27, h⟩ := letkS h
    obtain ⟨k28, hk28, h⟩ := letkS h
    refine wc_range (us := [.yl 3, .d (.pc (R26 q0))]) [2, 3, 4] 3 (fun sl24 rv st' => (∃ (c0025 : Int), ∃ (c1026 : Int), k27 c0025 c1026 = some r ∧ SLe st' [.row 3 [.d (D.i .i64 c0025)], .row 3 [.d (D.i .i64 c1026)], .row 4 [.d (D.b true)], .lp sl24 [.pt 0 0, .pt 1 0, .pt 2 0] .done (some .ret), .row 87 [.yl 3], .dead]) ∨ (k28 () = some r ∧ SLe st' [.row 3 [.d (D.i .i64 0)], .row 3 [.d (D.i .i64 0)], .row 4 [.d (D.b false)], .lp sl24 [.pt 0 0, .pt 1 0, .pt 2 0] .ready none, .row 87 [.yl 3], .dead])) rfl rfl rfl rfl rfl (fun sl24 hsl24 => ?_) ?_
    ·refine ctr_intro Try.func64 (by kernel_rfl) rfl rfl rfl (fun mm φφ ww hm24 => ?_)
     refine wc_sr ?_
     refine WL.s ((b_box rfl rfl).does) (Wt.none rfl) rfl rfl ?_
     refine WL.ns ?_
     refine wc_sr ?_
     refine WL.qn (y_fieldAddrc f26_0 rfl) rfl ?_
     refine WL.qn (y_sliceArr ar23 rfl rfl) rfl ?_
     obtain ⟨k30, hk30, h⟩ := letkS h
     refine WL.inl (us := [.d (.sl (List.map E22 (List.map q0.ready (List.range 32))))]) (fun rv st' => (k30 () = some r ∧ Le rv (.fn (.func 76) [] [.d (.pc (E89 (List.map q0.ready (List.range 32))))]) ∧ SLe st' [.row 3 [.d (D.i .i64 0)], .row 3 [.d (D.i .i64 0)], .row 4 [.d (D.b false)], .lp sl24 [.pt 0 0, .pt 1 0, .pt 2 0] .ready none, .row 87 [.yl 3]])) rfl rfl rfl rfl rfl ?_ (Wt.none rfl) rfl rfl ?_
     ·refine ctr_intro Try.func65 (by kernel_rfl) rfl rfl rfl (fun mm φφ ww hm29 => ?_)
      refine wc_sr ?_
      refine WL.s ((b_boxd rfl rfl (by exact (show Les [.d (.sl (List.map E22 (List.map q0.ready (List.range 32))))] (List.map AV.d [.sl (List.map E22 (List.map q0.ready (List.range 32)))]) from ⟨(Le.refl _), trivial⟩))).does) (Wt.none rfl) rfl rfl ?_
      refine WL.as rfl rfl ?_
      refine WL.ns ?_
      refine wc_sr ?_
      refine WL.qn (y_makeFunc rfl rfl) rfl ?_
      refine WL.as rfl rfl ?_
      refine WL.ns ?_
      refine wc_ret ?_
      exact we_ret (rs1 rfl (rv_t rfl)) ⟨h, (Le.refl _), ⟨⟨rfl, Les.refl _⟩, ⟨rfl, Les.refl _⟩, ⟨rfl, Les.refl _⟩, ⟨rfl, Les.refl _, rfl, rfl⟩, ⟨rfl, Les.refl _⟩, trivial⟩⟩
     ·rintro rv st1 ⟨h, hr, hst⟩
      subst hk30
      dsimp only at h
      refine WL.cast 7 rfl hr ?_
      refine WL.weak hst ?_
      refine WL.ns ?_
      refine wc_block ?_
      obtain ⟨k34, hk34, h⟩ := letkS h
      obtain ⟨k35, hk35, h⟩ := letkS h
      refine wc_range (us := [.yl 5, .d (.pc (E89 (List.map q0.ready (List.range 32))))]) [2] 5 (fun sl31 rv st' => (∃ (c0032 : Int), ∃ (c1033 : Int), k34 c0032 c1033 = some r ∧ SLe st' [.row 3 [.d (D.i .i64 c0032)], .row 3 [.d (D.i .i64 c1033)], .row 4 [.d (D.b true)], .lp sl24 [.pt 0 0, .pt 1 0, .pt 2 0] .done (some .ret), .row 87 [.yl 3], .lp sl31 [.pt 4 0] .done (some .ret)]) ∨ (k35 () = some r ∧ SLe st' [.row 3 [.d (D.i .i64 0)], .row 3 [.d (D.i .i64 0)], .row 4 [.d (D.b false)], .lp sl24 [.pt 0 0, .pt 1 0, .pt 2 0] .ready none, .row 87 [.yl 3], .lp sl31 [.pt 4 0] .ready none])) rfl rfl rfl rfl rfl (fun sl31 hsl31 => ?_) ?_
      ·refine ctr_intro Try.func76 (by kernel_rfl) rfl rfl rfl (fun mm φφ ww hm31 => ?_)
       refine wc_sr ?_
       refine WL.qn (y_loadc rfl a89 rfl) rfl ?_
       refine WL.qn (y_len_map E22 (List.map q0.ready (List.range 32)) e89 rfl rfl (Le.refl _)) rfl ?_
       refine WL.qn (y_sub rfl rfl rfl) rfl ?_
       refine WL.as rfl rfl ?_
       refine WL.ns ?_
       refine wc_block ?_
       refine wc_loop (fun n env' st' => ∃ (iq37 : Int), f14_l1 q0 k34 k35 n iq37 = some r ∧ Sub [(0, .yl 5), (1, .d (.pc (E89 (List.map q0.ready (List.range 32))))), (3, .d (D.i .i64 iq37))] env' ∧ SLe st' [.row 3 [.d (D.i .i64 0)], .row 3 [.d (D.i .i64 0)], .row 4 [.d (D.b false)], .lp sl24 [.pt 0 0, .pt 1 0, .pt 2 0] .ready none, .row 87 [.yl 3], .lp sl31 [.pt 4 0] .ready none]) (fun n => n) (Int.toNat ((IntKind.i64.wrap ((List.length (List.map q0.ready (List.range 32)) : Int) - 1)) + 1) + 1) ⟨(IntKind.i64.wrap ((List.length (List.map q0.ready (List.range 32)) : Int) - 1)), h, (Sub.cons rfl (Le.refl _) (Sub.cons rfl (Le.refl _) (Sub.cons rfl (Le.refl _) (Sub.nil _)))), ⟨⟨rfl, Les.refl _⟩, ⟨rfl, Les.refl _⟩, ⟨rfl, Les.refl _⟩, ⟨rfl, Les.refl _, rfl, rfl⟩, ⟨rfl, Les.refl _⟩, ⟨rfl, Les.refl _, rfl, rfl⟩, trivial⟩⟩ ?_
       rintro n env1 st1 ⟨iq37, h, hsub, hst⟩
       cases n with
       | zero => rw [f14_l1] at h; cases h
       | succ n =>
       rw [f14_l1] at h
       refine WC.sub hsub (WC.weak hst ?_)
       refine wc_seq ?_
       refine wc_sr ?_
       refine WL.mv rfl rfl ?_
       refine WL.qn (y_geq rfl rfl) rfl ?_
       refine WL.ns ?_
       refine wc_cond rfl (fun hc2 => ?_) (fun hc2 => ?_)
       ·replace h := condT h hc2
        refine wc_skip ?_
        refine we_seq ?_
        refine wc_seq ?_
        refine wc_block ?_
        refine wc_sr ?_
        refine WL.mv rfl rfl ?_
        refine WL.mv rfl rfl ?_
        refine WL.qn (y_loadc rfl a89 rfl) rfl ?_
        refine WL.mv rfl rfl ?_
        obtain ⟨x39, hx39, h⟩ := bindS h
        refine WL.qn (y_indexAddr e89 rfl (Le.refl _) rfl (idx_nonneg hx39) (idx_row E22_eq hx39) rfl) rfl ?_
        refine WL.qn (y_loadc rfl a22 rfl) rfl ?_
        obtain ⟨k42, hk42, h⟩ := letkS h
        obtain ⟨k43, hk43, h⟩ := letkS h
        refine WL.yield (env0 := [(8, .d (D.i .i64 iq37)), (9, .d (.sl (List.map E3 x39))), (2, .pt 4 0)]) (fun rv st' => (∃ (c0041 : Int), k42 c0041 = some r ∧ rv = .d (.v (.bool false)) ∧ SLe st' [.row 3 [.d (D.i .i64 c0041)], .row 3 [.d (D.i .i64 iq37)], .row 4 [.d (D.b true)], .lp sl24 [.pt 0 0, .pt 1 0, .pt 2 0] .done (some .ret), .row 87 [.yl 3], .lp sl31 [.pt 4 0] .done (some .ret)]) ∨ (k43 () = some r ∧ rv = .d (.v (.bool true)) ∧ SLe st' [.row 3 [.d (D.i .i64 0)], .row 3 [.d (D.i .i64 0)], .row 4 [.d (D.b false)], .lp sl24 [.pt 0 0, .pt 1 0, .pt 2 0] .ready none, .row 87 [.yl 3], .lp sl31 [.pt 4 0] .ready none])) hsl31 rfl rfl rfl rfl rfl rfl rfl (fun ee hn hrd40 hm40 => ?_) (Wt.none rfl) rfl rfl ?_
        ·obtain ⟨em, eφ, ew, en, er⟩ := ee
         subst hn
         refine wc_sr ?_
         refine WL.as rfl rfl ?_
         refine WL.ns ?_
         refine wc_region ?_
         refine WL.as rfl rfl ?_
         refine WL.nil ?_
         refine we_asg hrd40 rfl ?_
         refine wc_block ?_
         refine wc_sr ?_
         refine WL.mv rfl rfl ?_
         refine WL.qn (y_len_map E3 x39 e22 rfl rfl (Le.refl _)) rfl ?_
         refine WL.qn (y_gtr rfl rfl) rfl ?_
         refine WL.mv rfl rfl ?_
         refine WL.split (t := 13) rfl (fun hb1 => ?_) (fun hb1 => ?_)
         ·replace h := condT h hb1
          refine WL.qy (y_load rfl rfl a87 rfl) rfl rfl rfl ?_
          refine WL.qy (y_move rfl) rfl rfl rfl ?_
          refine WL.qy (y_move rfl) rfl rfl rfl ?_
          obtain ⟨k46, hk46, h⟩ := letkS h
          refine WL.yield (env0 := [(12, .d (D.i .i64 iq37)), (13, .d (.sl (List.map E3 x39))), (2, .pt 0 0), (3, .pt 1 0), (4, .pt 2 0)]) (fun rv st' => (∃ (c0045 : Int), k46 c0045 = some r ∧ rv = .d (.v (.bool false)) ∧ SLe st' [.row 3 [.d (D.i .i64 c0045)], .row 3 [.d (D.i .i64 iq37)], .row 4 [.d (D.b true)], .lp sl24 [.pt 0 0, .pt 1 0, .pt 2 0] .done (some .ret), .row 87 [.yl 3], .lp sl31 [.pt 4 0] .busy none])) hsl24 rfl rfl rfl rfl rfl rfl rfl (fun ee hn hrd44 hm44 => ?_) (Wt.yes rfl rfl rfl) rfl rfl ?_
          ·obtain ⟨em, eφ, ew, en, er⟩ := ee
           subst hn
           refine wc_sr ?_
           refine WL.as rfl rfl ?_
           refine WL.ns ?_
           refine wc_region ?_
           refine WL.as rfl rfl ?_
           refine WL.nil ?_
           refine we_asg hrd44 rfl ?_
           refine wc_block ?_
           refine wc_sr ?_
           refine WL.mv rfl rfl ?_
           obtain ⟨x47, hx47, h⟩ := bindS h
           refine WL.qn (y_indexAddr e22 rfl (Le.refl _) rfl (idx_nonneg hx47) (idx_row E3_eq hx47) rfl) rfl ?_
           refine WL.qn (y_loadc rfl a3 rfl) rfl ?_
           refine WL.mv rfl rfl ?_
           refine WL.s0 (d_store rfl rfl rfl rfl rfl rfl s3 rfl rfl) (Wt.none rfl) rfl ?_
           refine WL.s0 (d_store rfl rfl rfl rfl rfl rfl s3 rfl rfl) (Wt.none rfl) rfl ?_
           refine WL.s0 (d_store rfl rfl rfl rfl rfl rfl s4 rfl rfl) (Wt.none rfl) rfl ?_
           refine WL.ns ?_
           refine wc_ret ?_
           refine we_blk_ret ?_
           exact we_rend_ret hrd44 rfl ⟨x47, h, rfl, ⟨⟨rfl, Les.refl _⟩, ⟨rfl, Les.refl _⟩, ⟨rfl, Les.refl _⟩, ⟨rfl, Les.refl _, rfl, rfl⟩, ⟨rfl, Les.refl _⟩, ⟨rfl, Les.refl _, rfl, rfl⟩, trivial⟩⟩
          ·rintro rv st1 ⟨c0045, h, rfl, hst⟩
           subst hk46
           dsimp only at h
           refine WL.weak hst ?_
           refine WL.qy (y_not rfl) rfl rfl rfl ?_
           refine WL.qn (y_pick_t rfl rfl) rfl ?_
           refine WL.ns ?_
           refine wc_true rfl ?_
           refine wc_ret ?_
           refine we_blk_ret ?_
           exact we_rend_ret hrd40 rfl (.inl ⟨c0045, h, rfl, ⟨⟨rfl, Les.refl _⟩, ⟨rfl, Les.refl _⟩, ⟨rfl, Les.refl _⟩, ⟨rfl, Les.refl _, rfl, rfl⟩, ⟨rfl, Les.refl _⟩, ⟨rfl, Les.refl _, rfl, rfl⟩, trivial⟩⟩)
         ·replace h := condF h hb1
          refine WL.skips 5 rfl ?_
          refine WL.qn (y_pick_f rfl rfl) rfl ?_
          refine WL.ns ?_
          refine wc_false rfl ?_
          refine wc_skip ?_
          refine we_blk ?_
          exact we_rend hrd40 rfl (.inr (⟨h, rfl, ⟨⟨rfl, Les.refl _⟩, ⟨rfl, Les.refl _⟩, ⟨rfl, Les.refl _⟩, ⟨rfl, Les.refl _, rfl, rfl⟩, ⟨rfl, Les.refl _⟩, ⟨rfl, Les.refl _, rfl, rfl⟩, trivial⟩⟩))
        ·rintro rv st1 (⟨c0041, h, rfl, hst⟩ | ⟨h, rfl, hst⟩)
         ·subst hk42
          dsimp only at h
          refine WL.weak hst ?_
          refine WL.qn (y_not rfl) rfl ?_
          refine WL.ns ?_
          refine wc_true rfl ?_
          refine wc_ret ?_
          refine we_blk_ret ?_
          refine we_seq_ret ?_
          refine we_lp_ret ?_
          refine we_blk_ret ?_
          exact we_ret (res0 rfl) (.inl ⟨c0041, iq37, h, ⟨⟨rfl, Les.refl _⟩, ⟨rfl, Les.refl _⟩, ⟨rfl, Les.refl _⟩, ⟨rfl, Les.refl _, rfl, rfl⟩, ⟨rfl, Les.refl _⟩, ⟨rfl, Les.refl _, rfl, rfl⟩, trivial⟩⟩)
         ·subst hk43
          dsimp only at h
          refine WL.weak hst ?_
          refine WL.qn (y_not rfl) rfl ?_
          refine WL.ns ?_
          refine wc_false rfl ?_
          refine wc_skip ?_
          refine we_blk ?_
          refine we_seq ?_
          refine wc_region ?_
          refine WL.mv rfl rfl ?_
          refine WL.qn (y_sub rfl rfl rfl) rfl ?_
          refine WL.as rfl rfl ?_
          refine WL.nil ?_
          exact we_lp ⟨n, ⟨(IntKind.i64.wrap (iq37 - 1)), h, (Sub.cons rfl (Le.refl _) (Sub.cons rfl (Le.refl _) (Sub.cons rfl (Le.refl _) (Sub.nil _)))), ⟨⟨rfl, Les.refl _⟩, ⟨rfl, Les.refl _⟩, ⟨rfl, Les.refl _⟩, ⟨rfl, Les.refl _, rfl, rfl⟩, ⟨rfl, Les.refl _⟩, ⟨rfl, Les.refl _, rfl, rfl⟩, trivial⟩⟩, Nat.lt_succ_self n⟩
       ·replace h := condF h hc2
        refine wc_exit ?_
        refine we_seq_exit ?_
        refine we_lp_exit ?_
        refine we_blk_hit ?_
        refine we_end ?_
        exact we_ret (res0 rfl) (.inr (⟨h, ⟨⟨rfl, Les.refl _⟩, ⟨rfl, Les.refl _⟩, ⟨rfl, Les.refl _⟩, ⟨rfl, Les.refl _, rfl, rfl⟩, ⟨rfl, Les.refl _⟩, ⟨rfl, Les.refl _, rfl, rfl⟩, trivial⟩⟩))
      ·rintro sl31 rv st1 (⟨c0032, c1033, h, hst⟩ | ⟨h, hst⟩)
       ·subst hk34
        dsimp only at h
        refine ⟨_, _, _, _, _, hst, rfl, (by intro h; cases h), ?_⟩
        refine we_blk_ret ?_
        exact we_ret (res0 rfl) (.inl ⟨c0032, c1033, h, ⟨⟨rfl, Les.refl _⟩, ⟨rfl, Les.refl _⟩, ⟨rfl, Les.refl _⟩, ⟨rfl, Les.refl _, rfl, rfl⟩, ⟨rfl, Les.refl _⟩, trivial, trivial⟩⟩)
       ·subst hk35
        dsimp only at h
        refine ⟨_, _, _, _, _, hst, rfl, (by intro h; cases h), ?_⟩
        refine we_blk ?_
        refine we_end ?_
        exact we_ret (res0 rfl) (.inr (⟨h, ⟨⟨rfl, Les.refl _⟩, ⟨rfl, Les.refl _⟩, ⟨rfl, Les.refl _⟩, ⟨rfl, Les.refl _, rfl, rfl⟩, ⟨rfl, Les.refl _⟩, trivial, trivial⟩⟩))
    ·rintro sl24 rv st1 (⟨c0025, c1026, h, hst⟩ | ⟨h, hst⟩)
     ·subst hk27
      dsimp only at h
      refine ⟨_, _, _, _, _, hst, rfl, (by intro h; cases h), ?_⟩
      refine we_blk_ret ?_
      refine we_lp_ret ?_
      obtain rfl := Option.some.inj h
      exact we_ret_fn (rs3 rfl (rv_c rfl rfl a3 rfl) (rv_c rfl rfl a3 rfl) (rv_c rfl rfl a4 rfl)) (Le.tud ⟨(Le.refl _), (Le.refl _), (Le.refl _), trivial⟩)
     ·subst hk28
      dsimp only at h
      refine ⟨_, _, _, _, _, hst, rfl, (by intro h; cases h), ?_⟩
      refine we_blk ?_
      exact we_lp ⟨h, (Sub.cons rfl (Le.refl _) (Sub.cons rfl (Le.refl _) (Sub.cons rfl (Le.refl _) (Sub.nil _)))), ⟨⟨rfl, Les.refl _⟩, ⟨rfl, Les.refl _⟩, ⟨rfl, Les.refl _⟩, trivial, ⟨rfl, Les.refl _⟩, trivial, trivial⟩⟩
  ·rintro env1 st1 ⟨h, hsub, hst⟩
   subst hk21
   dsimp only at h
   refine WC.sub hsub (WC.weak hst ?_)
   refine wc_sr ?_
   refine WL.s0 (d_store rfl rfl rfl rfl rfl rfl s3 rfl rfl) (Wt.none rfl) rfl ?_
   refine WL.s0 (d_store rfl rfl rfl rfl rfl rfl s3 rfl rfl) (Wt.none rfl) rfl ?_
   refine WL.s0 (d_store rfl rfl rfl rfl rfl rfl s4 rfl rfl) (Wt.none rfl) rfl ?_
   refine WL.ns ?_
   refine wc_ret ?_
   obtain rfl := Option.some.inj h
   exact we_ret_fn (rs3 rfl (rv_c rfl rfl a3 rfl) (rv_c rfl rfl a3 rfl) (rv_c rfl rfl a4 rfl)) (Le.tud ⟨(Le.refl _), (Le.refl _), (Le.refl _), trivial⟩)

theorem ghost_pos {q : Queues} {prio : Int} (h : decide (q.run ≥ 0) = true) : ghost q prio = prio := by
 unfold ghost; rw [h]; rfl
theorem ghost_ne {q : Queues} {prio : Int} {r : Int × Int × Bool} (h14 : f14 q = some r) (hc : ((!r.2.2) || ((decide (q.run ≥ 0)) && (decide (r.2.1 ≤ prio)))) = false) (hv : vecOk 32 r.2.1 = true) (hx : vecOk 32 (ghost q prio) = true) : Int.toNat r.2.1 ≠ Int.toNat (ghost q prio) := by
 have h1 := vecOk_spec hv
 have h2 := vecOk_spec hx
 unfold ghost at h2 ⊢
 cases hr : decide (q.run ≥ 0) with
 | true =>
  rw [hr] at hc h2
  have : decide (r.2.1 ≤ prio) = false := by
   cases hd : decide (r.2.1 ≤ prio) with
   | false => rfl
   | true => rw [hd] at hc; cases hb : r.2.2 <;> rw [hb] at hc <;> cases hc
  have := of_decide_eq_false this
  simp only [cond_true] at h2 ⊢
  omega
 | false =>
  rw [hr, h14] at h2
  rw [h14]
  simp only [cond_false] at h2 ⊢
  omega

theorem f12_c (q0 : Queues) (prio1 : Int) {r : Queues × Int} (h : f12 q0 prio1 = some r) : Pu Try.prog 12 [.ag (R26 q0), .i .i64 prio1] (.tu [.ag (R26 r.1), .i .i64 r.2]) := by
 unfold f12 at h
 refine fn_intro Try.func12 (by kernel_rfl) rfl rfl rfl (fun φφ ww => ?_)
 refine wc_sr ?_
 refine WL.s ((b_box rfl rfl).does) (Wt.none rfl) rfl rfl ?_
 refine WL.s ((b_alloc z26).does) (Wt.none rfl) rfl rfl ?_
 refine WL.as rfl rfl ?_
 refine WL.ns ?_
 refine wc_seq ?_
 refine wc_sr ?_
 refine WL.qn (y_loadN rfl rfl a26 s26 rfl) rfl ?_
 obtain ⟨r72, hr72, h⟩ := bindS h
 refine WL.fn rfl rfl rfl rfl (f10_c _ hr72) ⟨(Le.agd ⟨(Le.refl _), (Le.refl _), (Le.refl _), (Le.refl _), (Le.refl _), (Le.refl _), (Le.refl _), (Le.refl _), (Le.refl _), (Le.refl _), (Le.refl _), (Le.refl _), (Le.refl _), (Le.refl _), (Le.refl _), (Le.refl _), (Le.refl _), (Le.refl _), (Le.refl _), (Le.refl _), (Le.refl _), (Le.refl _), (Le.refl _), (Le.refl _), (Le.refl _), (Le.refl _), (Le.refl _), (Le.refl _), (Le.refl _), (Le.refl _), (Le.refl _), (Le.refl _), (Le.refl _), (Le.refl _), trivial⟩), trivial⟩ (Wt.none rfl) rfl rfl ?_
 refine WL.qn (y_not rfl) rfl ?_
 refine WL.mv rfl rfl ?_
 apply WL.or 9 (t := 12) (d := 21)
 ·exact rfl
 ·intro hg12
  refine WL.qy (y_fieldAddr f26_2 rfl) rfl rfl rfl ?_
  refine WL.qy (y_load rfl rfl a3 rfl) rfl rfl rfl ?_
  refine WL.qy (y_geq rfl rfl) rfl rfl rfl ?_
  refine WL.qy (y_move rfl) rfl rfl rfl ?_
  apply WL.and 4 (t := 16) (d := 20)
  ·exact rfl
  ·intro hg16
   refine WL.qy (y_move rfl) rfl rfl rfl ?_
   refine WL.fn rfl rfl rfl rfl (f30_c _) ⟨(Le.refl _), trivial⟩ (Wt.yes rfl rfl rfl) rfl rfl ?_
   refine WL.qy (y_not rfl) rfl rfl rfl ?_
   refine WL.qy (y_pick_t rfl rfl) rfl rfl rfl ?_
   exact WL.nil ⟨rfl, [_, _, _, _], rfl, rfl, rfl⟩
  ·refine WL.skips 3 rfl ?_
   refine WL.qy (y_pick_f rfl rfl) rfl rfl rfl ?_
   exact WL.nil ⟨rfl, [_, _, _, _], rfl, rfl, rfl⟩
  refine WL.qn (y_pick_f rfl rfl) rfl ?_
  exact WL.nil ⟨rfl, [_, _, _, _, _, _], rfl, rfl, rfl⟩
 ·refine WL.skips 8 rfl ?_
  refine WL.qn (y_pick_t rfl rfl) rfl ?_
  exact WL.nil ⟨rfl, [_, _, _, _, _, _, _, _, _], rfl, rfl, rfl⟩
 refine WL.ns ?_
 refine wc_cond rfl (fun hc1 => ?_) (fun hc1 => ?_)
 ·replace h := condT h hc1
  refine wc_sr ?_
  refine WL.qn (y_build p26 z26 rfl rfl) rfl ?_
  refine WL.s0 (d_store rfl rfl rfl rfl rfl rfl s26 rfl rfl) (Wt.none rfl) rfl ?_
  refine WL.st (st' := [.row 26 (vecA 32 (fun j => .d (.sl (List.map E3 (q0.ready j)))) ++ ([.d (.sl (List.map E62 q0.delays)), .d (D.i .i64 q0.run)] : List AV)), .row 26 [sN, sN, sN, sN, sN, sN, sN, sN, sN, sN, sN, sN, sN, sN, sN, sN, sN, sN, sN, sN, sN, sN, sN, sN, sN, sN, sN, sN, sN, sN, sN, sN, sN, .d (D.i .i64 0)]]) rfl ?_
  refine WL.as rfl rfl ?_
  refine WL.ns ?_
  refine wc_ret ?_
  refine we_seq_ret ?_
  obtain rfl := Option.some.inj h
  exact we_ret_fn (rs2 rfl (rv_cN rfl rfl a26 s26 rfl) (rv_t rfl)) (Le.tud ⟨(Le.agd ⟨Le.nil, Le.nil, Le.nil, Le.nil, Le.nil, Le.nil, Le.nil, Le.nil, Le.nil, Le.nil, Le.nil, Le.nil, Le.nil, Le.nil, Le.nil, Le.nil, Le.nil, Le.nil, Le.nil, Le.nil, Le.nil, Le.nil, Le.nil, Le.nil, Le.nil, Le.nil, Le.nil, Le.nil, Le.nil, Le.nil, Le.nil, Le.nil, Le.nil, (Le.refl _), trivial⟩), (Le.refl _), trivial⟩)
 ·replace h := condF h hc1
  refine wc_skip ?_
  refine we_seq ?_
  refine wc_sr ?_
  refine WL.qn (y_loadN rfl rfl a26 s26 rfl) rfl ?_
  replace h := guardBS h
  obtain ⟨hgg73, h⟩ := h
  replace h := guardBS h
  obtain ⟨hgg74, h⟩ := h
  refine Gh.wl (gh_push_os 3 1) ?_
  refine WL.wina [2] rfl rfl rfl rfl (O.f32g_c q0 (Int.toNat (ghost q0 prio1)) (vecOk_spec hgg73).2 hgg74) ⟨(Le.agd ⟨(Le.refl _), (Le.refl _), (Le.refl _), (Le.refl _), (Le.refl _), (Le.refl _), (Le.refl _), (Le.refl _), (Le.refl _), (Le.refl _), (Le.refl _), (Le.refl _), (Le.refl _), (Le.refl _), (Le.refl _), (Le.refl _), (Le.refl _), (Le.refl _), (Le.refl _), (Le.refl _), (Le.refl _), (Le.refl _), (Le.refl _), (Le.refl _), (Le.refl _), (Le.refl _), (Le.refl _), (Le.refl _), (Le.refl _), (Le.refl _), (Le.refl _), (Le.refl _), (Le.refl _), (Le.refl _), trivial⟩), trivial⟩ rfl (by decide) rfl ⟨rfl, trivial⟩ rfl rfl (fun _ => (stLt_cons (lt_os _ _ _ _ _ _) rfl)) (fun _ => (cons_eq (ren_os _ _ _ _ _ _) rfl)) (fun _ => O.gRow_lt _ _ _ _ rfl) (fun _ => O.gRow_ren _ _ _ _) (Wt.none rfl) rfl rfl (fun ver75 => ?_)
  refine WL.s0 (d_storeS (rs := vecA 32 (O.gRow q0 (Int.toNat (ghost q0 prio1)) 2 ver75) ++ O.tl q0) rfl rfl rfl rfl rfl (O.gRow_all q0 (Int.toNat (ghost q0 prio1)) 2 ver75 (O.os_ok1S rfl)) s26 rfl rfl) (Wt.none rfl) rfl ?_
  refine WL.st (st' := [.row 26 (vecA 32 (O.gRow q0 (Int.toNat (ghost q0 prio1)) 2 ver75) ++ ([.d (.sl (List.map E62 q0.delays)), .d (D.i .i64 q0.run)] : List AV)), .row 26 [sN, sN, sN, sN, sN, sN, sN, sN, sN, sN, sN, sN, sN, sN, sN, sN, sN, sN, sN, sN, sN, sN, sN, sN, sN, sN, sN, sN, sN, sN, sN, sN, sN, .d (D.i .i64 0)], .os 3 1 ver75 (List.map (encA E3) (q0.ready (Int.toNat (ghost q0 prio1))))]) rfl ?_
  refine WL.st (st' := [.row 26 (vecA 32 (O.gRow q0 (Int.toNat (ghost q0 prio1)) 2 ver75) ++ ([.d (.sl (List.map E62 q0.delays)), .d (D.i .i64 q0.run)] : List AV)), .row 26 [sN, sN, sN, sN, sN, sN, sN, sN, sN, sN, sN, sN, sN, sN, sN, sN, sN, sN, sN, sN, sN, sN, sN, sN, sN, sN, sN, sN, sN, sN, sN, sN, sN, .d (D.i .i64 0)], .os 3 1 ver75 (List.map (encA E3) (q0.ready (Int.toNat (ghost q0 prio1))))]) rfl ?_
  refine WL.ns ?_
  refine wc_sr ?_
  obtain ⟨r76, hr76, h⟩ := bindS h
  refine WL.borrow (r1 := .ag (List.take 34 (List.drop 0 (vecA 32 (O.rdy q0) ++ O.tl q0)))) (x1 := .ag (R26 q0)) 2 [(0, Int.toNat (ghost q0 prio1))] (List.map E3 (q0.ready (Int.toNat (ghost q0 prio1)))) rfl (encA_map E3_eq _) ⟨_, _, rfl, O.gRow_get _ _ _ _ (vecOk_spec hgg73).2 _, trivial⟩ (by show Go.Sk.Yields _ _ [.row 26 ((vecA 32 (O.gRow q0 (Int.toNat (ghost q0 prio1)) 2 ver75) ++ ([.d (.sl (List.map E62 q0.delays)), .d (D.i .i64 q0.run)] : List AV)).set (Int.toNat (ghost q0 prio1)) (.d (.sl (List.map E3 (q0.ready (Int.toNat (ghost q0 prio1))))))), .row 26 [sN, sN, sN, sN, sN, sN, sN, sN, sN, sN, sN, sN, sN, sN, sN, sN, sN, sN, sN, sN, sN, sN, sN, sN, sN, sN, sN, sN, sN, sN, sN, sN, sN, .d (D.i .i64 0)], .dead] _ _; rw [O.gRow_same _ _ _ _ (vecOk_spec hgg73).2]; exact y_loadN rfl rfl a26 s26 rfl) (Le.agd (Les.refl _)) (Wt.none rfl) rfl rfl rfl rfl rfl rfl rfl (f14_c _ hr76) ⟨Le.refl _, trivial⟩ (Wt.none rfl) rfl rfl rfl ?_
  refine WL.mv rfl rfl ?_
  refine WL.qn (y_extractd rfl rfl) rfl ?_
  refine WL.qn (y_extractd rfl rfl) rfl ?_
  refine WL.qn (y_extractd rfl rfl) rfl ?_
  refine WL.as rfl rfl ?_
  refine WL.as rfl rfl ?_
  refine WL.as rfl rfl ?_
  refine WL.ns ?_
  refine wc_seq ?_
  refine wc_sr ?_
  refine WL.mv rfl rfl ?_
  refine WL.qn (y_not rfl) rfl ?_
  refine WL.mv rfl rfl ?_
  apply WL.or 9 (t := 33) (d := 42)
  ·exact rfl
  ·intro hg33
   refine WL.qy (y_fieldAddr f26_2 rfl) rfl rfl rfl ?_
   refine WL.qy (y_load rfl rfl a3 rfl) rfl rfl rfl ?_
   refine WL.qy (y_geq rfl rfl) rfl rfl rfl ?_
   refine WL.qy (y_move rfl) rfl rfl rfl ?_
   apply WL.and 4 (t := 37) (d := 41)
   ·exact rfl
   ·intro hg37
    refine WL.qy (y_move rfl) rfl rfl rfl ?_
    refine WL.qy (y_move rfl) rfl rfl rfl ?_
    refine WL.qy (y_leq rfl rfl) rfl rfl rfl ?_
    refine WL.qy (y_pick_t rfl rfl) rfl rfl rfl ?_
    exact WL.nil ⟨rfl, [_, _, _, _], rfl, rfl, rfl⟩
   ·refine WL.skips 3 rfl ?_
    refine WL.qy (y_pick_f rfl rfl) rfl rfl rfl ?_
    exact WL.nil ⟨rfl, [_, _, _, _], rfl, rfl, rfl⟩
   refine WL.qn (y_pick_f rfl rfl) rfl ?_
   exact WL.nil ⟨rfl, [_, _, _, _, _, _], rfl, rfl, rfl⟩
  ·refine WL.skips 8 rfl ?_
   refine WL.qn (y_pick_t rfl rfl) rfl ?_
   exact WL.nil ⟨rfl, [_, _, _, _, _, _, _, _, _], rfl, rfl, rfl⟩
  refine WL.ns ?_
  refine wc_cond rfl (fun hc2 => ?_) (fun hc2 => ?_)
  ·replace h := condT h hc2
   refine wc_sr ?_
   refine WL.freezeX [] [(0, Int.toNat (ghost q0 prio1))] 2 (List.map E3 (q0.ready (Int.toNat (ghost q0 prio1)))) rfl (encA_map E3_eq _) trivial ⟨_, _, rfl, O.gRow_get _ _ _ _ (vecOk_spec hgg73).2 _, trivial⟩ ?_
   show WL _ _ _ _ _ [.row 26 ((vecA 32 (O.gRow q0 (Int.toNat (ghost q0 prio1)) 2 ver75) ++ ([.d (.sl (List.map E62 q0.delays)), .d (D.i .i64 q0.run)] : List AV)).set (Int.toNat (ghost q0 prio1)) (.d (.sl (List.map E3 (q0.ready (Int.toNat (ghost q0 prio1))))))), .row 26 [sN, sN, sN, sN, sN, sN, sN, sN, sN, sN, sN, sN, sN, sN, sN, sN, sN, sN, sN, sN, sN, sN, sN, sN, sN, sN, sN, sN, sN, sN, sN, sN, sN, .d (D.i .i64 0)], .dead] _
   rw [O.gRow_fill _ _ _ _ (vecOk_spec hgg73).2]
   refine WL.qn (y_loadN rfl rfl a26 s26 rfl) rfl ?_
   refine WL.s0 (d_store rfl rfl rfl rfl rfl rfl s26 rfl rfl) (Wt.none rfl) rfl ?_
   refine WL.st (st' := [.row 26 (vecA 32 (fun j => .d (.sl (List.map E3 ((vset q0.ready (Int.toNat (ghost q0 prio1)) (q0.ready (Int.toNat (ghost q0 prio1)))) j)))) ++ ([.d (.sl (List.map E62 q0.delays)), .d (D.i .i64 q0.run)] : List AV)), .row 26 (vecA 32 (fun j => .d (.sl (List.map E3 ((vset q0.ready (Int.toNat (ghost q0 prio1)) (q0.ready (Int.toNat (ghost q0 prio1)))) j)))) ++ ([.d (.sl (List.map E62 q0.delays)), .d (D.i .i64 q0.run)] : List AV)), .dead]) rfl ?_
   refine WL.as rfl rfl ?_
   refine WL.ns ?_
   refine wc_ret ?_
   refine we_seq_ret ?_
   obtain rfl := Option.some.inj h
   exact we_ret_fn (rs2 rfl (rv_cN rfl rfl a26 s26 rfl) (rv_t rfl)) (Le.tud ⟨(Le.agd ⟨(Le.refl _), (Le.refl _), (Le.refl _), (Le.refl _), (Le.refl _), (Le.refl _), (Le.refl _), (Le.refl _), (Le.refl _), (Le.refl _), (Le.refl _), (Le.refl _), (Le.refl _), (Le.refl _), (Le.refl _), (Le.refl _), (Le.refl _), (Le.refl _), (Le.refl _), (Le.refl _), (Le.refl _), (Le.refl _), (Le.refl _), (Le.refl _), (Le.refl _), (Le.refl _), (Le.refl _), (Le.refl _), (Le.refl _), (Le.refl _), (Le.refl _), (Le.refl _), (Le.refl _), (Le.refl _), trivial⟩), (Le.refl _), trivial⟩)
  ·replace h := condF h hc2
   refine wc_skip ?_
   refine we_seq ?_
   refine wc_sr ?_
   refine WL.mv rfl rfl ?_
   refine WL.mv rfl rfl ?_
   refine WL.qn (y_fieldAddr f26_0 rfl) rfl ?_
   replace h := guardBS h
   obtain ⟨hgg77, h⟩ := h
   refine WL.qn (y_indexAddra ar23 rfl rfl (vecOk_0 hgg77) (vecOk_1 hgg77)) rfl ?_
   have hne78 := ghost_ne hr76 hc2 hgg77 hgg73
   refine WL.qn ((O.gRow_at q0 (Int.toNat (ghost q0 prio1)) 2 ver75 r76.2.1 hne78) ▸ (y_loadV (i := r76.2.1) (n := 32) (off := 0) (O.gRow q0 (Int.toNat (ghost q0 prio1)) 2 ver75) rfl rfl a22 rfl hgg77)) rfl ?_
   replace h := guardBS h
   obtain ⟨hgg79, h⟩ := h
   refine WL.qn (y_sliceL E3 (q0.ready (Int.toNat r76.2.1)) (l := 1) (h := (List.length (q0.ready (Int.toNat r76.2.1)) : Int)) e22 rfl (Le.refl _) ⟨_, rfl⟩ rfl hgg79 (fun _ => rfl)) rfl ?_
   refine WL.qn (y_fieldAddr f26_0 rfl) rfl ?_
   replace h := guardBS h
   obtain ⟨hgg80, h⟩ := h
   refine WL.qn (y_indexAddra ar23 rfl rfl (vecOk_0 hgg80) (vecOk_1 hgg80)) rfl ?_
   refine WL.s0 (d_storeV (i := r76.2.1) (off := 0) (n := 32) (cs' := (vecA 32 (vset (O.gRow q0 (Int.toNat (ghost q0 prio1)) 2 ver75) (Int.toNat r76.2.1) (.d (.sl (List.map E3 (sliceF (q0.ready (Int.toNat r76.2.1)) 1 (List.length (q0.ready (Int.toNat r76.2.1)) : Int)))))) ++ ([.d (.sl (List.map E62 q0.delays)), .d (D.i .i64 q0.run)] : List AV))) (fun x : AV => x) (O.gRow q0 (Int.toNat (ghost q0 prio1)) 2 ver75) (.d (.sl (List.map E3 (sliceF (q0.ready (Int.toNat r76.2.1)) 1 (List.length (q0.ready (Int.toNat r76.2.1)) : Int))))) rfl rfl rfl (one_ok rfl) s22 rfl rfl hgg80 rfl) (Wt.none rfl) rfl ?_
   rw [O.gRow_vset _ _ _ _ _ _ hne78]
   refine WL.st (st' := [.row 26 (vecA 32 (O.gRow (Queues.mk (vset q0.ready (Int.toNat r76.2.1) (sliceF (q0.ready (Int.toNat r76.2.1)) 1 (List.length (q0.ready (Int.toNat r76.2.1)) : Int))) q0.delays q0.run) (Int.toNat (ghost q0 prio1)) 2 ver75) ++ ([.d (.sl (List.map E62 q0.delays)), .d (D.i .i64 q0.run)] : List AV)), .row 26 [sN, sN, sN, sN, sN, sN, sN, sN, sN, sN, sN, sN, sN, sN, sN, sN, sN, sN, sN, sN, sN, sN, sN, sN, sN, sN, sN, sN, sN, sN, sN, sN, sN, .d (D.i .i64 0)], .os 3 1 ver75 (List.map (encA E3) (q0.ready (Int.toNat (ghost q0 prio1))))]) rfl ?_
   refine WL.st (st' := [.row 26 (vecA 32 (O.gRow (Queues.mk (vset q0.ready (Int.toNat r76.2.1) (sliceF (q0.ready (Int.toNat r76.2.1)) 1 (List.length (q0.ready (Int.toNat r76.2.1)) : Int))) q0.delays q0.run) (Int.toNat (ghost q0 prio1)) 2 ver75) ++ ([.d (.sl (List.map E62 q0.delays)), .d (D.i .i64 q0.run)] : List AV)), .row 26 [sN, sN, sN, sN, sN, sN, sN, sN, sN, sN, sN, sN, sN, sN, sN, sN, sN, sN, sN, sN, sN, sN, sN, sN, sN, sN, sN, sN, sN, sN, sN, sN, sN, .d (D.i .i64 0)], .os 3 1 ver75 (List.map (encA E3) (q0.ready (Int.toNat (ghost q0 prio1))))]) rfl ?_
   refine WL.ns ?_
   replace h := letkS h
   obtain ⟨k82, hk82, h⟩ := h
   refine wc_cut (fun env' st' => ∃ (c0081 : Nat → (List Int)), k82 c0081 = some r ∧ Sub [(2, .pt 0 0), (4, .pt 1 0), (6, .d (D.i .i64 r76.1))] env' ∧ SLe st' [.row 26 (vecA 32 (fun j => .d (.sl (List.map E3 (c0081 j)))) ++ ([.d (.sl (List.map E62 q0.delays)), .d (D.i .i64 q0.run)] : List AV)), .row 26 [sN, sN, sN, sN, sN, sN, sN, sN, sN, sN, sN, sN, sN, sN, sN, sN, sN, sN, sN, sN, sN, sN, sN, sN, sN, sN, sN, sN, sN, sN, sN, sN, sN, .d (D.i .i64 0)], .dead]) ?_ ?_
   ·refine wc_sr ?_
    refine WL.qn (y_fieldAddr f26_2 rfl) rfl ?_
    refine WL.qn (y_load rfl rfl a3 rfl) rfl ?_
    refine WL.qn (y_geq rfl rfl) rfl ?_
    refine WL.ns ?_
    refine wc_cond rfl (fun hc3 => ?_) (fun hc3 => ?_)
    ·replace h := condT h hc3
     have hgx83 := ghost_pos (q := q0) (prio := prio1) hc3
     have hvhgx83 : vecOk 32 prio1 = true := by rw [← hgx83]; exact hgg73
     rw [hgx83]
     replace h := guardBS h
     obtain ⟨hgg84, h⟩ := h
     replace h := guardBS h
     obtain ⟨hgg85, h⟩ := h
     replace h := guardBS h
     obtain ⟨hgg87, h⟩ := h
     apply wc_region_all [_, _, _, _, _, _, _, _, _, _, _, .u] [[], [], [], [1, 2], [1, 2, 3], [], [5], [5, 6], [1, 2, 3, 4, 5, 6, 7], [], [0, 1, 2, 3, 4, 5, 6, 7, 8, 9], [0, 1, 2, 3, 4, 5, 6, 7, 8, 9, 10]] [7, 8, 11] (fun c => List.getD [[.row 26 (vecA 32 (O.gRow (Queues.mk (vset q0.ready (Int.toNat r76.2.1) (sliceF (q0.ready (Int.toNat r76.2.1)) 1 (List.length (q0.ready (Int.toNat r76.2.1)) : Int))) q0.delays q0.run) (Int.toNat prio1) 2 ver75) ++ ([.d (.sl (List.map E62 q0.delays)), .d (D.i .i64 q0.run)] : List AV)), .row 26 [sN, sN, sN, sN, sN, sN, sN, sN, sN, sN, sN, sN, sN, sN, sN, sN, sN, sN, sN, sN, sN, sN, sN, sN, sN, sN, sN, sN, sN, sN, sN, sN, sN, .d (D.i .i64 0)], .os 3 1 ver75 (List.map (encA E3) (q0.ready (Int.toNat prio1)))], [.row 26 (vecA 32 (O.gRow (Queues.mk (vset q0.ready (Int.toNat r76.2.1) (sliceF (q0.ready (Int.toNat r76.2.1)) 1 (List.length (q0.ready (Int.toNat r76.2.1)) : Int))) q0.delays q0.run) (Int.toNat prio1) 2 ver75) ++ ([.d (.sl (List.map E62 q0.delays)), .d (D.i .i64 q0.run)] : List AV)), .row 26 [sN, sN, sN, sN, sN, sN, sN, sN, sN, sN, sN, sN, sN, sN, sN, sN, sN, sN, sN, sN, sN, sN, sN, sN, sN, sN, sN, sN, sN, sN, sN, sN, sN, .d (D.i .i64 0)], .os 3 1 ver75 (List.map (encA E3) (q0.ready (Int.toNat prio1))), .os 3 1 0 (List.map (encA E3) [q0.run])], [.row 26 (vecA 32 (O.gRow (Queues.mk (vset q0.ready (Int.toNat r76.2.1) (sliceF (q0.ready (Int.toNat r76.2.1)) 1 (List.length (q0.ready (Int.toNat r76.2.1)) : Int))) q0.delays q0.run) (Int.toNat prio1) 2 ver75) ++ ([.d (.sl (List.map E62 q0.delays)), .d (D.i .i64 q0.run)] : List AV)), .row 26 [sN, sN, sN, sN, sN, sN, sN, sN, sN, sN, sN, sN, sN, sN, sN, sN, sN, sN, sN, sN, sN, sN, sN, sN, sN, sN, sN, sN, sN, sN, sN, sN, sN, .d (D.i .i64 0)], .dead, .os 3 1 0 (List.map (encA E3) [q0.run])], [.row 26 (vecA 32 (fun j => .d (.sl (List.map E3 ((vset (Queues.mk (vset q0.ready (Int.toNat r76.2.1) (sliceF (q0.ready (Int.toNat r76.2.1)) 1 (List.length (q0.ready (Int.toNat r76.2.1)) : Int))) q0.delays q0.run).ready (Int.toNat prio1) (q0.run :: (q0.ready (Int.toNat prio1)))) j)))) ++ ([.d (.sl (List.map E62 q0.delays)), .d (D.i .i64 q0.run)] : List AV)), .row 26 [sN, sN, sN, sN, sN, sN, sN, sN, sN, sN, sN, sN, sN, sN, sN, sN, sN, sN, sN, sN, sN, sN, sN, sN, sN, sN, sN, sN, sN, sN, sN, sN, sN, .d (D.i .i64 0)], .dead, .os 3 1 0 (List.map (encA E3) [q0.run])]] c []) [([], [1], [0, 1, 2]), ([], [1], [0, 1]), ([], [2], [0, 1]), ([2, 1], [], [0, 1]), ([3], [], [0, 1]), ([], [2], [0]), ([5], [], [0]), ([6], [], [0]), ([4, 7], [], [1]), ([], [2], [0, 1, 2]), ([9, 0], [], [2]), ([10, 8], [], [2])] (by kernel_rfl) (by kernel_rfl) rfl rfl rfl
     ·refine ⟨?_, ?_, ?_, ?_, ?_, ?_, ?_, ?_, ?_, ?_, ?_, ?_, trivial⟩
      ·refine ⟨fun F => ?_, fun F => ?_, fun F => ?_, trivial⟩
       ·refine WL.mv rfl rfl ?_
        exact WL.done1 rfl rfl rfl
       ·refine WL.mv rfl rfl ?_
        exact WL.done1 rfl rfl rfl
       ·refine WL.mv rfl rfl ?_
        exact WL.done1 rfl rfl rfl
      ·refine ⟨fun F => ?_, fun F => ?_, trivial⟩
       ·refine WL.mv rfl rfl ?_
        exact WL.done1 rfl rfl rfl
       ·refine WL.mv rfl rfl ?_
        exact WL.done1 rfl rfl rfl
      ·refine ⟨fun F => ?_, fun F => ?_, trivial⟩
       ·refine WL.qn (y_fieldAddr f26_0 rfl) rfl ?_
        exact WL.done1 rfl rfl rfl
       ·refine WL.qn (y_fieldAddr f26_0 rfl) rfl ?_
        exact WL.done1 rfl rfl rfl
      ·refine ⟨fun F => ?_, fun F => ?_, trivial⟩
       ·refine WL.qn (y_indexAddra ar23 rfl rfl (vecOk_0 hgg84) (vecOk_1 hgg84)) rfl ?_
        exact WL.done1 rfl rfl rfl
       ·refine WL.qn (y_indexAddra ar23 rfl rfl (vecOk_0 hgg84) (vecOk_1 hgg84)) rfl ?_
        exact WL.done1 rfl rfl rfl
      ·refine ⟨fun F => ?_, fun F => ?_, trivial⟩
       ·refine WL.qn ((O.gRow_self (Queues.mk (vset q0.ready (Int.toNat r76.2.1) (sliceF (q0.ready (Int.toNat r76.2.1)) 1 (List.length (q0.ready (Int.toNat r76.2.1)) : Int))) q0.delays q0.run) (Int.toNat prio1) 2 ver75) ▸ (y_loadV (i := prio1) (n := 32) (off := 0) (O.gRow (Queues.mk (vset q0.ready (Int.toNat r76.2.1) (sliceF (q0.ready (Int.toNat r76.2.1)) 1 (List.length (q0.ready (Int.toNat r76.2.1)) : Int))) q0.delays q0.run) (Int.toNat prio1) 2 ver75) rfl rfl a22 rfl hgg84)) rfl ?_
        exact WL.done1 rfl rfl rfl
       ·refine WL.qn ((O.gRow_self (Queues.mk (vset q0.ready (Int.toNat r76.2.1) (sliceF (q0.ready (Int.toNat r76.2.1)) 1 (List.length (q0.ready (Int.toNat r76.2.1)) : Int))) q0.delays q0.run) (Int.toNat prio1) 2 ver75) ▸ (y_loadV (i := prio1) (n := 32) (off := 0) (O.gRow (Queues.mk (vset q0.ready (Int.toNat r76.2.1) (sliceF (q0.ready (Int.toNat r76.2.1)) 1 (List.length (q0.ready (Int.toNat r76.2.1)) : Int))) q0.delays q0.run) (Int.toNat prio1) 2 ver75) rfl rfl a22 rfl hgg84)) rfl ?_
        exact WL.done1 rfl rfl rfl
      ·refine ⟨fun F => ?_, trivial⟩
       refine WL.qn (y_fieldAddr f26_2 rfl) rfl ?_
       exact WL.done1 rfl rfl rfl
      ·refine ⟨fun F => ?_, trivial⟩
       refine WL.qn (y_load rfl rfl a3 rfl) rfl ?_
       exact WL.done1 rfl rfl rfl
      ·refine ⟨fun F => ?_, trivial⟩
       refine WL.s ((NewOs.b (n_buildSlice l22 z3 rfl (by decide) (by decide) rfl rfl rfl (by decide))).does) (Wt.none rfl) rfl rfl ?_
       exact WL.done1 rfl rfl rfl
      ·refine ⟨fun F => ?_, trivial⟩
       refine WL.winy [2, 3] rfl rfl rfl rfl (ctr_insert0 (x := q0.run) Try.laysIns ⟨Try.f33, Try.func33, by kernel_rfl, by kernel_rfl⟩ (O.insOk_le hgg85)) ⟨Le.refl _, Le.refl _, Le.refl _, trivial⟩ rfl (by decide) (cons_eq (ren_os _ _ _ _ _ _) (cons_eq (ren_os _ _ _ _ _ _) rfl)) ⟨rfl, rfl, trivial⟩ (stLt_cons (lt_os _ _ _ _ _ _) (stLt_cons (lt_os _ _ _ _ _ _) rfl)) rfl (fun _ => (stLt_cons rfl (stLt_cons (lt_os _ _ _ _ _ _) rfl))) (fun _ => (cons_eq rfl (cons_eq (ren_os _ _ _ _ _ _) rfl))) (Wt.none rfl) rfl rfl (fun ver86 => ?_)
       exact WL.done1 rfl rfl rfl
      ·refine ⟨fun F => ?_, fun F => ?_, fun F => ?_, trivial⟩
       ·refine WL.qn (y_fieldAddr f26_0 rfl) rfl ?_
        exact WL.done1 rfl rfl rfl
       ·refine WL.qn (y_fieldAddr f26_0 rfl) rfl ?_
        exact WL.done1 rfl rfl rfl
       ·refine WL.qn (y_fieldAddr f26_0 rfl) rfl ?_
        exact WL.done1 rfl rfl rfl
      ·refine ⟨fun F => ?_, trivial⟩
       refine WL.qn (y_indexAddra ar23 rfl rfl (vecOk_0 hgg87) (vecOk_1 hgg87)) rfl ?_
       exact WL.done1 rfl rfl rfl
      ·refine ⟨fun F => ?_, trivial⟩
       refine WL.s0 (d_storeV (i := prio1) (off := 0) (n := 32) (cs' := (vecA 32 (vset (O.gRow (Queues.mk (vset q0.ready (Int.toNat r76.2.1) (sliceF (q0.ready (Int.toNat r76.2.1)) 1 (List.length (q0.ready (Int.toNat r76.2.1)) : Int))) q0.delays q0.run) (Int.toNat prio1) 2 ver75) (Int.toNat prio1) (.d (.sl (List.map E3 (q0.run :: (q0.ready (Int.toNat prio1))))))) ++ ([.d (.sl (List.map E62 q0.delays)), .d (D.i .i64 q0.run)] : List AV))) (fun x : AV => x) (O.gRow (Queues.mk (vset q0.ready (Int.toNat r76.2.1) (sliceF (q0.ready (Int.toNat r76.2.1)) 1 (List.length (q0.ready (Int.toNat r76.2.1)) : Int))) q0.delays q0.run) (Int.toNat prio1) 2 ver75) (.d (.sl (List.map E3 (q0.run :: (q0.ready (Int.toNat prio1)))))) rfl rfl rfl (one_ok rfl) s22 rfl rfl hgg87 rfl) (Wt.none rfl) rfl ?_
       rw [O.gRow_put]
       refine WL.st (st' := [.row 26 (vecA 32 (fun j => .d (.sl (List.map E3 ((vset (Queues.mk (vset q0.ready (Int.toNat r76.2.1) (sliceF (q0.ready (Int.toNat r76.2.1)) 1 (List.length (q0.ready (Int.toNat r76.2.1)) : Int))) q0.delays q0.run).ready (Int.toNat prio1) (q0.run :: (q0.ready (Int.toNat prio1)))) j)))) ++ ([.d (.sl (List.map E62 q0.delays)), .d (D.i .i64 q0.run)] : List AV)), .row 26 [sN, sN, sN, sN, sN, sN, sN, sN, sN, sN, sN, sN, sN, sN, sN, sN, sN, sN, sN, sN, sN, sN, sN, sN, sN, sN, sN, sN, sN, sN, sN, sN, sN, .d (D.i .i64 0)], .dead, .os 3 1 0 (List.map (encA E3) [q0.run])]) rfl ?_
       exact WL.done0 rfl rfl
     ·refine WE.drop 3 (env' := [(2, .pt 0 0), (4, .pt 1 0), (6, .d (D.i .i64 r76.1))]) (Sub.one rfl (Sub.one rfl (Sub.one rfl (Sub.nil _)))) rfl rfl (Nat.zero_le _) ?_
      exact we_lp ⟨(vset (Queues.mk (vset q0.ready (Int.toNat r76.2.1) (sliceF (q0.ready (Int.toNat r76.2.1)) 1 (List.length (q0.ready (Int.toNat r76.2.1)) : Int))) q0.delays q0.run).ready (Int.toNat prio1) (q0.run :: (q0.ready (Int.toNat prio1)))), h, (Sub.cons rfl (Le.refl _) (Sub.cons rfl (Le.refl _) (Sub.cons rfl (Le.refl _) (Sub.nil _)))), ⟨⟨rfl, Les.refl _⟩, ⟨rfl, Les.refl _⟩, trivial, trivial⟩⟩
    ·replace h := condF h hc3
     refine WC.freezeX [] [(0, Int.toNat (ghost q0 prio1))] 2 (List.map E3 (q0.ready (Int.toNat (ghost q0 prio1)))) rfl (encA_map E3_eq _) trivial ⟨_, _, rfl, O.gRow_get _ _ _ _ (vecOk_spec hgg73).2 _, trivial⟩ ?_
     show WC _ _ _ _ _ [.row 26 ((vecA 32 (O.gRow (Queues.mk (vset q0.ready (Int.toNat r76.2.1) (sliceF (q0.ready (Int.toNat r76.2.1)) 1 (List.length (q0.ready (Int.toNat r76.2.1)) : Int))) q0.delays q0.run) (Int.toNat (ghost q0 prio1)) 2 ver75) ++ ([.d (.sl (List.map E62 q0.delays)), .d (D.i .i64 q0.run)] : List AV)).set (Int.toNat (ghost q0 prio1)) (.d (.sl (List.map E3 (q0.ready (Int.toNat (ghost q0 prio1))))))), .row 26 [sN, sN, sN, sN, sN, sN, sN, sN, sN, sN, sN, sN, sN, sN, sN, sN, sN, sN, sN, sN, sN, sN, sN, sN, sN, sN, sN, sN, sN, sN, sN, sN, sN, .d (D.i .i64 0)], .dead]
     rw [O.gRow_fill _ _ _ _ (vecOk_spec hgg73).2]
     refine wc_skip ?_
     exact we_lp ⟨(vset (Queues.mk (vset q0.ready (Int.toNat r76.2.1) (sliceF (q0.ready (Int.toNat r76.2.1)) 1 (List.length (q0.ready (Int.toNat r76.2.1)) : Int))) q0.delays q0.run).ready (Int.toNat (ghost q0 prio1)) (q0.ready (Int.toNat (ghost q0 prio1)))), h, (Sub.cons rfl (Le.refl _) (Sub.cons rfl (Le.refl _) (Sub.cons rfl (Le.refl _) (Sub.nil _)))), ⟨⟨rfl, Les.refl _⟩, ⟨rfl, Les.refl _⟩, trivial, trivial⟩⟩
   ·rintro env1 st1 ⟨c0081, h, hsub, hst⟩
    subst hk82
    dsimp only at h
    refine WC.sub hsub (WC.weak hst ?_)
    refine wc_sr ?_
    refine WL.mv rfl rfl ?_
    refine WL.qn (y_fieldAddr f26_2 rfl) rfl ?_
    refine WL.s0 (d_store rfl rfl rfl rfl rfl rfl s3 rfl rfl) (Wt.none rfl) rfl ?_
    refine WL.st (st' := [.row 26 (vecA 32 (fun j => .d (.sl (List.map E3 (c0081 j)))) ++ ([.d (.sl (List.map E62 q0.delays)), .d (D.i .i64 r76.1)] : List AV)), .row 26 [sN, sN, sN, sN, sN, sN, sN, sN, sN, sN, sN, sN, sN, sN, sN, sN, sN, sN, sN, sN, sN, sN, sN, sN, sN, sN, sN, sN, sN, sN, sN, sN, sN, .d (D.i .i64 0)], .dead]) rfl ?_
    refine WL.ns ?_
    refine wc_sr ?_
    refine WL.qn (y_loadN rfl rfl a26 s26 rfl) rfl ?_
    refine WL.s0 (d_store rfl rfl rfl rfl rfl rfl s26 rfl rfl) (Wt.none rfl) rfl ?_
    refine WL.st (st' := [.row 26 (vecA 32 (fun j => .d (.sl (List.map E3 (c0081 j)))) ++ ([.d (.sl (List.map E62 q0.delays)), .d (D.i .i64 r76.1)] : List AV)), .row 26 (vecA 32 (fun j => .d (.sl (List.map E3 (c0081 j)))) ++ ([.d (.sl (List.map E62 q0.delays)), .d (D.i .i64 r76.1)] : List AV)), .dead]) rfl ?_
    refine WL.as rfl rfl ?_
    refine WL.ns ?_
    refine wc_ret ?_
    obtain rfl := Option.some.inj h
    exact we_ret_fn (rs2 rfl (rv_cN rfl rfl a26 s26 rfl) (rv_t rfl)) (Le.tud ⟨(Le.agd ⟨(Le.refl _), (Le.refl _), (Le.refl _), (Le.refl _), (Le.refl _), (Le.refl _), (Le.refl _), (Le.refl _), (Le.refl _), (Le.refl _), (Le.refl _), (Le.refl _), (Le.refl _), (Le.refl _), (Le.refl _), (Le.refl _), (Le.refl _), (Le.refl _), (Le.refl _), (Le.refl _), (Le.refl _), (Le.refl _), (Le.refl _), (Le.refl _), (Le.refl _), (Le.refl _), (Le.refl _), (Le.refl _), (Le.refl _), (Le.refl _), (Le.refl _), (Le.refl _), (Le.refl _), (Le.refl _), trivial⟩), (Le.refl _), trivial⟩)

theorem f16_c  : Pu Try.prog 16 [] (.ag (R26 (f16 ))) := by
 generalize h : f16  = r
 unfold f16 at h
 refine fn_intro Try.func16 (by kernel_rfl) rfl rfl rfl (fun φφ ww => ?_)
 refine wc_sr ?_
 refine WL.s ((b_alloc z26).does) (Wt.none rfl) rfl rfl ?_
 refine WL.ns ?_
 refine wc_sr ?_
 refine WL.qn (y_build p26 z26 rfl rfl) rfl ?_
 refine WL.s0 (d_store rfl rfl rfl rfl rfl rfl s26 rfl rfl) (Wt.none rfl) rfl ?_
 refine WL.st (st' := [.row 26 [sN, sN, sN, sN, sN, sN, sN, sN, sN, sN, sN, sN, sN, sN, sN, sN, sN, sN, sN, sN, sN, sN, sN, sN, sN, sN, sN, sN, sN, sN, sN, sN, sN, .d (D.i .i64 (-1))]]) rfl ?_
 refine WL.ns ?_
 refine wc_ret ?_
 subst h
 exact we_ret_fn (rs1 rfl (rv_cN rfl rfl a26 s26 rfl)) (Le.agd ⟨Le.nil, Le.nil, Le.nil, Le.nil, Le.nil, Le.nil, Le.nil, Le.nil, Le.nil, Le.nil, Le.nil, Le.nil, Le.nil, Le.nil, Le.nil, Le.nil, Le.nil, Le.nil, Le.nil, Le.nil, Le.nil, Le.nil, Le.nil, Le.nil, Le.nil, Le.nil, Le.nil, Le.nil, Le.nil, Le.nil, Le.nil, Le.nil, Le.nil, (Le.refl _), trivial⟩)

theorem f77_c (s0 : List Due) (cb1 : Due → Option (Bool)) (g1 : FuncId) (fi1 ca1 : List D) (hcb1 : ∀ (y0 : Due) (r : Bool), cb1 y0 = some r → Pu Try.prog g1 (fi1 ++ [.ag (R62 y0)] ++ ca1) (.b r)) {r : Int} (h : f77 s0 cb1 = some r) : Pu Try.prog 77 [.sl (List.map E62 s0), .fnc (.func g1) fi1 ca1] (.i .i64 r) := by
 unfold f77 at h
 refine fn_intro Try.func77 (by kernel_rfl) rfl rfl rfl (fun φφ ww => ?_)
 refine WC.cast 1 rfl (Le.fncd _ _ _) ?_
 refine wc_sr ?_
 refine WL.as rfl rfl ?_
 refine WL.ns ?_
 replace h := letkS h
 obtain ⟨k22, hk22, h⟩ := h
 refine wc_cut (fun env' st' => k22 () = some r ∧ Sub [] env' ∧ SLe st' []) ?_ ?_
 ·refine wc_sr ?_
  refine WL.mv rfl rfl ?_
  refine WL.qn (y_len_map E62 s0 e24 rfl rfl (Le.refl _)) rfl ?_
  refine WL.mv rfl rfl ?_
  refine WL.ns ?_
  refine wc_block ?_
  refine wc_loop (fun n env' st' => ∃ (t24 : Int), f77_l1 s0 cb1 k22 n t24 = some r ∧ Sub [(0, .d (.sl (List.map E62 s0))), (1, .fn (.func g1) (List.map AV.d fi1) (List.map AV.d ca1)), (7, .d (D.i .i64 (List.length s0 : Int))), (8, .d (D.i .i64 t24))] env' ∧ SLe st' []) (fun n => n) (Int.toNat ((List.length s0 : Int) - 0) + 1) ⟨0, h, (Sub.cons rfl (Le.refl _) (Sub.cons rfl (Le.refl _) (Sub.cons rfl (Le.refl _) (Sub.cons rfl (Le.refl _) (Sub.nil _))))), trivial⟩ ?_
  rintro n env1 st1 ⟨t24, h, hsub, hst⟩
  cases n with
  | zero => rw [f77_l1] at h; cases h
  | succ n =>
  rw [f77_l1] at h
  refine WC.sub hsub (WC.weak hst ?_)
  refine wc_sr ?_
  refine WL.qn (y_lss rfl rfl) rfl ?_
  refine WL.ns ?_
  refine wc_seq ?_
  refine wc_cond rfl (fun hc1 => ?_) (fun hc1 => ?_)
  ·replace h := condT h hc1
   refine wc_skip ?_
   refine we_seq ?_
   refine wc_seq ?_
   refine wc_block ?_
   refine wc_sr ?_
   refine WL.mv rfl rfl ?_
   refine WL.as rfl rfl ?_
   refine WL.ns ?_
   refine wc_sr ?_
   refine WL.mv rfl rfl ?_
   refine WL.mv rfl rfl ?_
   refine WL.mv rfl rfl ?_
   obtain ⟨x26, hx26, h⟩ := bindS h
   refine WL.qn (y_indexAddr e24 rfl (Le.refl _) rfl (idx_nonneg hx26) (idx_row E62_eq hx26) rfl) rfl ?_
   refine WL.qn (y_loadcN rfl a62 s62 rfl) rfl ?_
   obtain ⟨r27, hr27, h⟩ := bindS h
   refine WL.fn rfl rfl rfl rfl (hcb1 _ _ hr27) (Les.mid ⟨(Le.refl _), trivial⟩) (Wt.none rfl) rfl rfl ?_
   refine WL.ns ?_
   refine wc_cond rfl (fun hc2 => ?_) (fun hc2 => ?_)
   ·replace h := condT h hc2
    refine wc_sr ?_
    refine WL.mv rfl rfl ?_
    refine WL.as rfl rfl ?_
    refine WL.ns ?_
    refine wc_ret ?_
    refine we_blk_ret ?_
    refine we_seq_ret ?_
    refine we_lp_ret ?_
    refine we_blk_ret ?_
    refine we_lp_ret ?_
    obtain rfl := Option.some.inj h
    exact we_ret_fn (rs1 rfl (rv_t rfl)) (Le.refl _)
   ·replace h := condF h hc2
    refine wc_skip ?_
    refine we_blk ?_
    refine we_seq ?_
    refine wc_region ?_
    refine WL.qn (y_add rfl rfl rfl) rfl ?_
    refine WL.mv rfl rfl ?_
    refine WL.nil ?_
    exact we_lp ⟨n, ⟨(IntKind.i64.wrap (t24 + 1)), h, (Sub.cons rfl (Le.refl _) (Sub.cons rfl (Le.refl _) (Sub.cons rfl (Le.refl _) (Sub.cons rfl (Le.refl _) (Sub.nil _))))), trivial⟩, Nat.lt_succ_self n⟩
  ·replace h := condF h hc1
   refine wc_exit ?_
   refine we_seq_exit ?_
   refine we_lp_exit ?_
   refine we_blk_hit ?_
   exact we_lp ⟨h, (Sub.nil _), trivial⟩
 ·rintro env1 st1 ⟨h, hsub, hst⟩
  subst hk22
  dsimp only at h
  refine WC.sub hsub (WC.weak hst ?_)
  refine wc_sr ?_
  refine WL.as rfl rfl ?_
  refine WL.ns ?_
  refine wc_ret ?_
  obtain rfl := Option.some.inj h
  exact we_ret_fn (rs1 rfl (rv_t rfl)) (Le.refl _)

theorem f66_c (s0 : List Due) (cb1 : Due → Option (Bool)) (g1 : FuncId) (fi1 ca1 : List D) (hcb1 : ∀ (y0 : Due) (r : Bool), cb1 y0 = some r → Pu Try.prog g1 (fi1 ++ [.ag (R62 y0)] ++ ca1) (.b r)) {r : Bool} (h : f66 s0 cb1 = some r) : Pu Try.prog 66 [.sl (List.map E62 s0), .fnc (.func g1) fi1 ca1] (.b r) := by
 unfold f66 at h
 refine fn_intro Try.func66 (by kernel_rfl) rfl rfl rfl (fun φφ ww => ?_)
 refine WC.cast 1 rfl (Le.fncd _ _ _) ?_
 refine wc_sr ?_
 refine WL.as rfl rfl ?_
 refine WL.ns ?_
 refine wc_sr ?_
 refine WL.mv rfl rfl ?_
 refine WL.mv rfl rfl ?_
 obtain ⟨r12, hr12, h⟩ := bindS h
 refine WL.fn rfl rfl rfl rfl (f77_c _ _ g1 fi1 ca1 hcb1 hr12) ⟨(Le.refl _), (Le.fnc (Les.refl _) (Les.refl _)), trivial⟩ (Wt.none rfl) rfl rfl ?_
 refine WL.qn (y_geq rfl rfl) rfl ?_
 refine WL.as rfl rfl ?_
 refine WL.ns ?_
 refine wc_ret ?_
 obtain rfl := Option.some.inj h
 exact we_ret_fn (rs1 rfl (rv_t rfl)) (Le.refl _)

theorem f67_c (d0 : Due) (cap1 : Int) : Pu Try.prog 67 [.ag (R62 d0), .pc (E3 cap1)] (.b (f67 d0 cap1)) := by
 generalize h : f67 d0 cap1 = r
 unfold f67 at h
 refine fn_intro Try.func67 (by kernel_rfl) rfl rfl rfl (fun φφ ww => ?_)
 refine wc_sr ?_
 refine WL.s ((b_boxd rfl rfl (Les.refl _)).does) (Wt.none rfl) rfl rfl ?_
 refine WL.as rfl rfl ?_
 refine WL.ns ?_
 refine wc_sr ?_
 refine WL.qn (y_fieldAddrc f62_1 rfl) rfl ?_
 refine WL.qn (y_loadc rfl a3 rfl) rfl ?_
 refine WL.qn (y_loadc rfl a3 rfl) rfl ?_
 refine WL.qn (y_eql rfl rfl) rfl ?_
 refine WL.as rfl rfl ?_
 refine WL.ns ?_
 refine wc_ret ?_
 subst h
 exact we_ret_fn (rs1 rfl (rv_t rfl)) (Le.refl _)

theorem f35_c (q0 : Queues) (task1 : Int) {r : Bool} (h : f35 q0 task1 = some r) : Pu Try.prog 35 [.ag (R26 q0), .i .i64 task1] (.b r) := by
 unfold f35 at h
 refine fn_intro Try.func35 (by kernel_rfl) rfl rfl rfl (fun φφ ww => ?_)
 refine wc_sr ?_
 refine WL.s ((b_boxd rfl rfl (Les.refl _)).does) (Wt.none rfl) rfl rfl ?_
 refine WL.s ((b_boxd rfl rfl (by exact (show Les [.d (D.i .i64 task1)] (List.map AV.d [.i .i64 task1]) from ⟨(Le.refl _), trivial⟩))).does) (Wt.none rfl) rfl rfl ?_
 refine WL.as rfl rfl ?_
 refine WL.ns ?_
 refine wc_sr ?_
 refine WL.qn (y_fieldAddrc f26_1 rfl) rfl ?_
 refine WL.qn (y_loadc rfl a24 rfl) rfl ?_
 refine WL.qn (y_makeFunc rfl rfl) rfl ?_
 obtain ⟨r12, hr12, h⟩ := bindS h
 refine WL.fn rfl rfl rfl rfl (f66_c _ _ 67 [] [(.pc (E3 task1))] (fun z0 _ h => by obtain rfl := Option.some.inj h; exact f67_c z0 task1) hr12) ⟨(Le.refl _), (Le.fnc trivial ⟨(Le.refl _), trivial⟩), trivial⟩ (Wt.none rfl) rfl rfl ?_
 refine WL.as rfl rfl ?_
 refine WL.ns ?_
 refine wc_ret ?_
 obtain rfl := Option.some.inj h
 exact we_ret_fn (rs1 rfl (rv_t rfl)) (Le.refl _)

theorem f78_c (l0 : List Due) (a1 : Int) (b2 : Int) {ver : Nat} {r : List Due} (h : f78 l0 a1 b2 = some r) : Ctr Try.prog 78 [.os 0 ver, .d (D.i .i64 a1), .d (D.i .i64 b2), .fn (.func 37) [] []] [.os 62 2 ver (List.map (encA R62) l0)] (WinX 1 (.tu []) (fun iv => [.os 62 2 ver (List.map (encA R62) r)])) := by
 unfold f78 at h
 refine ctr_intro Try.func78 (by kernel_rfl) rfl rfl rfl (fun mm φφ ww hmm => ?_)
 refine wc_sr ?_
 refine WL.mv rfl rfl ?_
 refine WL.qn (y_add rfl rfl rfl) rfl ?_
 refine WL.as rfl rfl ?_
 refine WL.ns ?_
 refine wc_block ?_
 refine wc_loop (fun n env' st' => ∃ (iq60 : Int), ∃ (l61 : List Due), f78_l1 a1 b2 n iq60 l61 = some r ∧ Sub [(0, .os 0 ver), (1, .d (D.i .i64 a1)), (2, .d (D.i .i64 b2)), (3, .fn (.func 37) [] []), (8, .d (D.i .i64 iq60))] env' ∧ SLe st' [.os 62 2 ver (List.map (encA R62) l61)]) (fun n => n) 9223372036854775808 ⟨(IntKind.i64.wrap (a1 + 1)), l0, h, (Sub.cons rfl (Le.refl _) (Sub.cons rfl (Le.refl _) (Sub.cons rfl (Le.refl _) (Sub.cons rfl (Le.refl _) (Sub.cons rfl (Le.refl _) (Sub.nil _)))))), ⟨⟨rfl, rfl, rfl, rfl⟩, trivial⟩⟩ ?_
 rintro n env1 st1 ⟨iq60, l61, h, hsub, hst⟩
 cases n with
 | zero => rw [f78_l1] at h; cases h
 | succ n =>
 rw [f78_l1] at h
 refine WC.sub hsub (WC.weak hst ?_)
 refine wc_seq ?_
 refine wc_sr ?_
 refine WL.mv rfl rfl ?_
 refine WL.mv rfl rfl ?_
 refine WL.qn (y_lss rfl rfl) rfl ?_
 refine WL.ns ?_
 refine wc_cond rfl (fun hc1 => ?_) (fun hc1 => ?_)
 ·replace h := condT h hc1
  refine wc_skip ?_
  refine we_seq ?_
  replace h := letkS h
  obtain ⟨k65, hk65, h⟩ := h
  refine wc_cut (fun env' st' => ∃ (l64 : List Due), k65 l64 = some r ∧ Sub [(0, .os 0 ver), (1, .d (D.i .i64 a1)), (2, .d (D.i .i64 b2)), (3, .fn (.func 37) [] []), (8, .d (D.i .i64 iq60))] env' ∧ SLe st' [.os 62 2 ver (List.map (encA R62) l64)]) ?_ ?_
  ·refine wc_block ?_
   refine wc_sr ?_
   refine WL.mv rfl rfl ?_
   refine WL.as rfl rfl ?_
   refine WL.ns ?_
   refine wc_block ?_
   refine wc_loop (fun na env' st' => ∃ (j68 : Int), ∃ (l69 : List Due), f78_l2 a1 k65 na j68 l69 = some r ∧ Sub [(0, .os 0 ver), (1, .d (D.i .i64 a1)), (2, .d (D.i .i64 b2)), (3, .fn (.func 37) [] []), (8, .d (D.i .i64 iq60)), (9, .d (D.i .i64 j68))] env' ∧ SLe st' [.os 62 2 ver (List.map (encA R62) l69)]) (fun n => n) 9223372036854775808 ⟨iq60, l61, h, (Sub.cons rfl (Le.refl _) (Sub.cons rfl (Le.refl _) (Sub.cons rfl (Le.refl _) (Sub.cons rfl (Le.refl _) (Sub.cons rfl (Le.refl _) (Sub.cons rfl (Le.refl _) (Sub.nil _))))))), ⟨⟨rfl, rfl, rfl, rfl⟩, trivial⟩⟩ ?_
   rintro na env1 st1 ⟨j68, l69, h, hsub, hst⟩
   cases na with
   | zero => rw [f78_l2] at h; cases h
   | succ na =>
   rw [f78_l2] at h
   refine WC.sub hsub (WC.weak hst ?_)
   refine wc_seq ?_
   refine wc_seq ?_
   refine wc_region_draw (by kernel_rfl) (by kernel_rfl) ?_
   refine WQ.qn (y_move rfl) rfl ?_
   refine WQ.qn (y_move rfl) rfl ?_
   refine WQ.qn (y_gtr rfl rfl) rfl ?_
   refine WQ.qn (y_move rfl) rfl ?_
   obtain ⟨b72, hb72, h⟩ := bindS h
   apply WQ.grp 13 (t := 21) (d := 34) (z := b72)
   ·exact rfl
   ·intro hg21
    have h := condT hb72 hg21
    refine WQ.qy (y_move rfl) rfl rfl rfl ?_
    refine WQ.qy (y_move rfl) rfl rfl rfl ?_
    refine WQ.qy (y_move rfl) rfl rfl rfl ?_
    obtain ⟨x73, hx73, h⟩ := bindS h
    refine WQ.qy (y_pe e24 rfl rfl rfl hx73) rfl rfl rfl ?_
    refine WQ.qy (y_load_peLN (fo := 0) rfl rfl rfl a62 s62 (fun _ => rfl) hx73 rfl rfl) rfl rfl rfl ?_
    refine WQ.qy (y_move rfl) rfl rfl rfl ?_
    refine WQ.qy (y_move rfl) rfl rfl rfl ?_
    refine WQ.qy (y_sub rfl rfl rfl) rfl rfl rfl ?_
    obtain ⟨x74, hx74, h⟩ := bindS h
    refine WQ.qy (y_pe e24 rfl rfl rfl hx74) rfl rfl rfl ?_
    refine WQ.qy (y_load_peLN (fo := 0) rfl rfl rfl a62 s62 (fun _ => rfl) hx74 rfl rfl) rfl rfl rfl ?_
    refine WQ.q (YieldsQ.fn rfl rfl rfl rfl rfl (f37_c _ _) ⟨(Le.agd ⟨(Le.refl _), (Le.refl _), trivial⟩), (Le.agd ⟨(Le.refl _), (Le.refl _), trivial⟩), trivial⟩) (Wt.yes rfl rfl rfl) rfl rfl ?_
    refine WQ.qy (y_lss rfl rfl) rfl rfl rfl ?_
    refine WQ.qn (y_pick_t rfl rfl) rfl ?_
    obtain rfl := Option.some.inj h
    exact WQ.nil ⟨[_, _, _, _, _, _, _, _, _, _, _, _, _], rfl, rfl, rfl⟩
   ·intro hg21
    have h := condF hb72 hg21
    refine WQ.skips 12 rfl ?_
    refine WQ.qn (y_pick_f rfl rfl) rfl ?_
    obtain rfl := Option.some.inj h
    exact WQ.nil ⟨[_, _, _, _, _, _, _, _, _, _, _, _, _], rfl, rfl, rfl⟩
   refine WQ.nil ?_
   refine we_seq ?_
   refine wc_cond rfl (fun hc2 => ?_) (fun hc2 => ?_)
   ·replace h := condT h hc2
    refine wc_skip ?_
    refine we_seq ?_
    refine wc_seq ?_
    refine wc_block ?_
    obtain ⟨x75, hx75, h⟩ := bindS h
    obtain ⟨x76, hx76, h⟩ := bindS h
    obtain ⟨x77, hx77, h⟩ := bindS h
    obtain ⟨x78, hx78, h⟩ := bindS h
    apply wc_region_all [_, _, _, _, _, _, _, _, _, _, _, _, _, _, _, .u, _, .u] [[], [], [], [], [3], [], [], [6], [5, 6, 7], [5, 6, 7, 8], [], [], [10, 11], [10, 11, 12], [0, 1, 5, 6, 7, 8, 9, 10, 11, 12, 13], [0, 1, 5, 6, 7, 8, 9, 10, 11, 12, 13, 14], [0, 1, 2, 3, 4, 5, 6, 7, 8, 9, 10, 11, 12, 13, 14, 15], [0, 1, 2, 3, 4, 5, 6, 7, 8, 9, 10, 11, 12, 13, 14, 15, 16]] [15, 17] (fun c => List.getD [[.os 62 2 ver (List.map (encA R62) l69)], [.os 62 2 ver (List.map (encA R62) (List.set l69 (Int.toNat j68) x75))], [.os 62 2 ver (List.map (encA R62) (List.set (List.set l69 (Int.toNat j68) x75) (Int.toNat (IntKind.i64.wrap (j68 - 1))) x76))]] c []) [([], [0], [0]), ([], [9], [0]), ([], [0], [0, 1]), ([], [9], [0, 1]), ([3], [], [0, 1]), ([], [0], [0]), ([], [9], [0]), ([6], [], [0]), ([5, 7], [], [0]), ([8], [], [0]), ([], [0], [0]), ([], [9], [0]), ([10, 11], [], [0]), ([12], [], [0]), ([0, 1], [], [0]), ([14, 9], [], [0]), ([2, 4], [], [1]), ([16, 13], [], [1])] (by kernel_rfl) (by kernel_rfl) rfl rfl rfl
    ·refine ⟨?_, ?_, ?_, ?_, ?_, ?_, ?_, ?_, ?_, ?_, ?_, ?_, ?_, ?_, ?_, ?_, ?_, ?_, trivial⟩
     ·refine ⟨fun F => ?_, trivial⟩
      refine WL.mv rfl rfl ?_
      exact WL.done1 rfl rfl rfl
     ·refine ⟨fun F => ?_, trivial⟩
      refine WL.mv rfl rfl ?_
      exact WL.done1 rfl rfl rfl
     ·refine ⟨fun F => ?_, fun F => ?_, trivial⟩
      ·refine WL.mv rfl rfl ?_
       exact WL.done1 rfl rfl rfl
      ·refine WL.mv rfl rfl ?_
       exact WL.done1 rfl rfl rfl
     ·refine ⟨fun F => ?_, fun F => ?_, trivial⟩
      ·refine WL.mv rfl rfl ?_
       exact WL.done1 rfl rfl rfl
      ·refine WL.mv rfl rfl ?_
       exact WL.done1 rfl rfl rfl
     ·refine ⟨fun F => ?_, fun F => ?_, trivial⟩
      ·refine WL.qn (y_sub rfl rfl rfl) rfl ?_
       exact WL.done1 rfl rfl rfl
      ·refine WL.qn (y_sub rfl rfl rfl) rfl ?_
       exact WL.done1 rfl rfl rfl
     ·refine ⟨fun F => ?_, trivial⟩
      refine WL.mv rfl rfl ?_
      exact WL.done1 rfl rfl rfl
     ·refine ⟨fun F => ?_, trivial⟩
      refine WL.mv rfl rfl ?_
      exact WL.done1 rfl rfl rfl
     ·refine ⟨fun F => ?_, trivial⟩
      refine WL.qn (y_sub rfl rfl rfl) rfl ?_
      exact WL.done1 rfl rfl rfl
     ·refine ⟨fun F => ?_, trivial⟩
      refine WL.qn (y_pe e24 rfl rfl rfl hx75) rfl ?_
      exact WL.done1 rfl rfl rfl
     ·refine ⟨fun F => ?_, trivial⟩
      refine WL.qn (y_load_peLN (fo := 0) rfl rfl rfl a62 s62 (fun _ => rfl) hx75 rfl rfl) rfl ?_
      exact WL.done1 rfl rfl rfl
     ·refine ⟨fun F => ?_, trivial⟩
      refine WL.mv rfl rfl ?_
      exact WL.done1 rfl rfl rfl
     ·refine ⟨fun F => ?_, trivial⟩
      refine WL.mv rfl rfl ?_
      exact WL.done1 rfl rfl rfl
     ·refine ⟨fun F => ?_, trivial⟩
      refine WL.qn (y_pe e24 rfl rfl rfl hx76) rfl ?_
      exact WL.done1 rfl rfl rfl
     ·refine ⟨fun F => ?_, trivial⟩
      refine WL.qn (y_load_peLN (fo := 0) rfl rfl rfl a62 s62 (fun _ => rfl) hx76 rfl rfl) rfl ?_
      exact WL.done1 rfl rfl rfl
     ·refine ⟨fun F => ?_, trivial⟩
      refine WL.qn (y_pe e24 rfl rfl rfl hx77) rfl ?_
      exact WL.done1 rfl rfl rfl
     ·refine ⟨fun F => ?_, trivial⟩
      refine WL.s0 (d_store_peL (r := .d (.ag (R62 x75))) (R := R62) (k := 2) (i := j68) (fo := 0) x75 rfl rfl rfl rfl (Le.agd ⟨(Le.refl _), (Le.refl _), trivial⟩) rfl rfl rfl s62 rfl (fun _ => rfl) hx77 rfl rfl) (Wt.none rfl) rfl ?_
      exact WL.done0 rfl rfl
     ·refine ⟨fun F => ?_, trivial⟩
      refine WL.qn (y_pe e24 rfl rfl rfl hx78) rfl ?_
      exact WL.done1 rfl rfl rfl
     ·refine ⟨fun F => ?_, trivial⟩
      refine WL.s0 (d_store_peL (r := .d (.ag (R62 x76))) (R := R62) (k := 2) (i := (IntKind.i64.wrap (j68 - 1))) (fo := 0) x76 rfl rfl rfl rfl (Le.agd ⟨(Le.refl _), (Le.refl _), trivial⟩) rfl rfl rfl s62 rfl (fun _ => rfl) hx78 rfl rfl) (Wt.none rfl) rfl ?_
      exact WL.done0 rfl rfl
    ·refine we_blk ?_
     refine we_seq ?_
     refine wc_region ?_
     refine WL.mv rfl rfl ?_
     refine WL.qn (y_sub rfl rfl rfl) rfl ?_
     refine WL.as rfl rfl ?_
     refine WL.nil ?_
     exact we_lp ⟨na, ⟨(IntKind.i64.wrap (j68 - 1)), (List.set (List.set l69 (Int.toNat j68) x75) (Int.toNat (IntKind.i64.wrap (j68 - 1))) x76), h, (Sub.cons rfl (Le.refl _) (Sub.cons rfl (Le.refl _) (Sub.cons rfl (Le.refl _) (Sub.cons rfl (Le.refl _) (Sub.cons rfl (Le.refl _) (Sub.cons rfl (Le.refl _) (Sub.nil _))))))), ⟨⟨rfl, rfl, rfl, rfl⟩, trivial⟩⟩, Nat.lt_succ_self na⟩
   ·replace h := condF h hc2
    refine wc_exit ?_
    refine we_seq_exit ?_
    refine we_lp_exit ?_
    refine we_blk_hit ?_
    refine we_blk ?_
    exact we_lp ⟨l69, h, (Sub.cons rfl (Le.refl _) (Sub.cons rfl (Le.refl _) (Sub.cons rfl (Le.refl _) (Sub.cons rfl (Le.refl _) (Sub.cons rfl (Le.refl _) (Sub.nil _)))))), ⟨⟨rfl, rfl, rfl, rfl⟩, trivial⟩⟩
  ·rintro env1 st1 ⟨l64, h, hsub, hst⟩
   subst hk65
   dsimp only at h
   refine WC.sub hsub (WC.weak hst ?_)
   refine wc_region ?_
   refine WL.mv rfl rfl ?_
   refine WL.qn (y_add rfl rfl rfl) rfl ?_
   refine WL.as rfl rfl ?_
   refine WL.nil ?_
   exact we_lp ⟨n, ⟨(IntKind.i64.wrap (iq60 + 1)), l64, h, (Sub.cons rfl (Le.refl _) (Sub.cons rfl (Le.refl _) (Sub.cons rfl (Le.refl _) (Sub.cons rfl (Le.refl _) (Sub.cons rfl (Le.refl _) (Sub.nil _)))))), ⟨⟨rfl, rfl, rfl, rfl⟩, trivial⟩⟩, Nat.lt_succ_self n⟩
 ·replace h := condF h hc1
  refine wc_exit ?_
  refine we_seq_exit ?_
  refine we_lp_exit ?_
  refine we_blk_hit ?_
  refine we_end ?_
  obtain rfl := Option.some.inj h
  exact we_ret_winx ver (res0 rfl) (Le.tud trivial) rfl ⟨⟨rfl, rfl, rfl, rfl⟩, trivial⟩

theorem f84_c (l0 : List Due) (a1 : Int) (b2 : Int) (n3 : Int) {ver : Nat} {r : List Due} (h : f84 l0 a1 b2 n3 = some r) : Ctr Try.prog 84 [.os 0 ver, .d (D.i .i64 a1), .d (D.i .i64 b2), .d (D.i .i64 n3), .fn (.func 37) [] []] [.os 62 2 ver (List.map (encA R62) l0)] (WinX 1 (.tu []) (fun iv => [.os 62 2 ver (List.map (encA R62) r)])) := by
 unfold f84 at h
 refine ctr_intro Try.func84 (by kernel_rfl) rfl rfl rfl (fun mm φφ ww hmm => ?_)
 refine wc_sr ?_
 refine WL.as rfl rfl ?_
 refine WL.ns ?_
 refine wc_block ?_
 refine wc_loop (fun n env' st' => ∃ (iq46 : Int), ∃ (l47 : List Due), f84_l1 a1 b2 n3 n iq46 l47 = some r ∧ Sub [(0, .os 0 ver), (1, .d (D.i .i64 a1)), (2, .d (D.i .i64 b2)), (3, .d (D.i .i64 n3)), (10, .d (D.i .i64 iq46))] env' ∧ SLe st' [.os 62 2 ver (List.map (encA R62) l47)]) (fun n => n) 9223372036854775808 ⟨0, l0, h, (Sub.cons rfl (Le.refl _) (Sub.cons rfl (Le.refl _) (Sub.cons rfl (Le.refl _) (Sub.cons rfl (Le.refl _) (Sub.cons rfl (Le.refl _) (Sub.nil _)))))), ⟨⟨rfl, rfl, rfl, rfl⟩, trivial⟩⟩ ?_
 rintro n env1 st1 ⟨iq46, l47, h, hsub, hst⟩
 cases n with
 | zero => rw [f84_l1] at h; cases h
 | succ n =>
 rw [f84_l1] at h
 refine WC.sub hsub (WC.weak hst ?_)
 refine wc_seq ?_
 refine wc_sr ?_
 refine WL.mv rfl rfl ?_
 refine WL.mv rfl rfl ?_
 refine WL.qn (y_lss rfl rfl) rfl ?_
 refine WL.ns ?_
 refine wc_cond rfl (fun hc1 => ?_) (fun hc1 => ?_)
 ·replace h := condT h hc1
  refine wc_skip ?_
  refine we_seq ?_
  refine wc_seq ?_
  refine wc_block ?_
  obtain ⟨x50, hx50, h⟩ := bindS h
  obtain ⟨x51, hx51, h⟩ := bindS h
  obtain ⟨x52, hx52, h⟩ := bindS h
  obtain ⟨x53, hx53, h⟩ := bindS h
  apply wc_region_all [_, _, _, _, _, _, _, _, _, _, _, _, _, _, _, _, _, _, _, _, _, .u, _, .u] [[], [], [], [1, 2], [], [], [], [5, 6], [], [], [], [9, 10], [8, 9, 10, 11], [8, 9, 10, 11, 12], [], [], [], [15, 16], [14, 15, 16, 17], [14, 15, 16, 17, 18], [0, 1, 2, 3, 8, 9, 10, 11, 12, 13, 14, 15, 16, 17, 18, 19], [0, 1, 2, 3, 8, 9, 10, 11, 12, 13, 14, 15, 16, 17, 18, 19, 20], [0, 1, 2, 3, 4, 5, 6, 7, 8, 9, 10, 11, 12, 13, 14, 15, 16, 17, 18, 19, 20, 21], [0, 1, 2, 3, 4, 5, 6, 7, 8, 9, 10, 11, 12, 13, 14, 15, 16, 17, 18, 19, 20, 21, 22]] [21, 23] (fun c => List.getD [[.os 62 2 ver (List.map (encA R62) l47)], [.os 62 2 ver (List.map (encA R62) (List.set l47 (Int.toNat (IntKind.i64.wrap (a1 + iq46))) x50))], [.os 62 2 ver (List.map (encA R62) (List.set (List.set l47 (Int.toNat (IntKind.i64.wrap (a1 + iq46))) x50) (Int.toNat (IntKind.i64.wrap (b2 + iq46))) x51))]] c []) [([], [0], [0]), ([], [1], [0]), ([], [10], [0]), ([1, 2], [], [0]), ([], [0], [0, 1]), ([], [2], [0, 1]), ([], [10], [0, 1]), ([5, 6], [], [0, 1]), ([], [0], [0]), ([], [2], [0]), ([], [10], [0]), ([9, 10], [], [0]), ([8, 11], [], [0]), ([12], [], [0]), ([], [0], [0]), ([], [1], [0]), ([], [10], [0]), ([15, 16], [], [0]), ([14, 17], [], [0]), ([18], [], [0]), ([0, 3], [], [0]), ([20, 13], [], [0]), ([4, 7], [], [1]), ([22, 19], [], [1])] (by kernel_rfl) (by kernel_rfl) rfl rfl rfl
  ·refine ⟨?_, ?_, ?_, ?_, ?_, ?_, ?_, ?_, ?_, ?_, ?_, ?_, ?_, ?_, ?_, ?_, ?_, ?_, ?_, ?_, ?_, ?_, ?_, ?_, trivial⟩
   ·refine ⟨fun F => ?_, trivial⟩
    refine WL.mv rfl rfl ?_
    exact WL.done1 rfl rfl rfl
   ·refine ⟨fun F => ?_, trivial⟩
    refine WL.mv rfl rfl ?_
    exact WL.done1 rfl rfl rfl
   ·refine ⟨fun F => ?_, trivial⟩
    refine WL.mv rfl rfl ?_
    exact WL.done1 rfl rfl rfl
   ·refine ⟨fun F => ?_, trivial⟩
    refine WL.qn (y_add rfl rfl rfl) rfl ?_
    exact WL.done1 rfl rfl rfl
   ·refine ⟨fun F => ?_, fun F => ?_, trivial⟩
    ·refine WL.mv rfl rfl ?_
     exact WL.done1 rfl rfl rfl
    ·refine WL.mv rfl rfl ?_
     exact WL.done1 rfl rfl rfl
   ·refine ⟨fun F => ?_, fun F => ?_, trivial⟩
    ·refine WL.mv rfl rfl ?_
     exact WL.done1 rfl rfl rfl
    ·refine WL.mv rfl rfl ?_
     exact WL.done1 rfl rfl rfl
   ·refine ⟨fun F => ?_, fun F => ?_, trivial⟩
    ·refine WL.mv rfl rfl ?_
     exact WL.done1 rfl rfl rfl
    ·refine WL.mv rfl rfl ?_
     exact WL.done1 rfl rfl rfl
   ·refine ⟨fun F => ?_, fun F => ?_, trivial⟩
    ·refine WL.qn (y_add rfl rfl rfl) rfl ?_
     exact WL.done1 rfl rfl rfl
    ·refine WL.qn (y_add rfl rfl rfl) rfl ?_
     exact WL.done1 rfl rfl rfl
   ·refine ⟨fun F => ?_, trivial⟩
    refine WL.mv rfl rfl ?_
    exact WL.done1 rfl rfl rfl
   ·refine ⟨fun F => ?_, trivial⟩
    refine WL.mv rfl rfl ?_
    exact WL.done1 rfl rfl rfl
   ·refine ⟨fun F => ?_, trivial⟩
    refine WL.mv rfl rfl ?_
    exact WL.done1 rfl rfl rfl
   ·refine ⟨fun F => ?_, trivial⟩
    refine WL.qn (y_add rfl rfl rfl) rfl ?_
    exact WL.done1 rfl rfl rfl
   ·refine ⟨fun F => ?_, trivial⟩
    refine WL.qn (y_pe e24 rfl rfl rfl hx50) rfl ?_
    exact WL.done1 rfl rfl rfl
   ·refine ⟨fun F => ?_, trivial⟩
    refine WL.qn (y_load_peLN (fo := 0) rfl rfl rfl a62 s62 (fun _ => rfl) hx50 rfl rfl) rfl ?_
    exact WL.done1 rfl rfl rfl
   ·refine ⟨fun F => ?_, trivial⟩
    refine WL.mv rfl rfl ?_
    exact WL.done1 rfl rfl rfl
   ·refine ⟨fun F => ?_, trivial⟩
    refine WL.mv rfl rfl ?_
    exact WL.done1 rfl rfl rfl
   ·refine ⟨fun F => ?_, trivial⟩
    refine WL.mv rfl rfl ?_
    exact WL.done1 rfl rfl rfl
   ·refine ⟨fun F => ?_, trivial⟩
    refine WL.qn (y_add rfl rfl rfl) rfl ?_
    exact WL.done1 rfl rfl rfl
   ·refine ⟨fun F => ?_, trivial⟩
    refine WL.qn (y_pe e24 rfl rfl rfl hx51) rfl ?_
    exact WL.done1 rfl rfl rfl
   ·refine ⟨fun F => ?_, trivial⟩
    refine WL.qn (y_load_peLN (fo := 0) rfl rfl rfl a62 s62 (fun _ => rfl) hx51 rfl rfl) rfl ?_
    exact WL.done1 rfl rfl rfl
   ·refine ⟨fun F => ?_, trivial⟩
    refine WL.qn (y_pe e24 rfl rfl rfl hx52) rfl ?_
    exact WL.done1 rfl rfl rfl
   ·refine ⟨fun F => ?_, trivial⟩
    refine WL.s0 (d_store_peL (r := .d (.ag (R62 x50))) (R := R62) (k := 2) (i := (IntKind.i64.wrap (a1 + iq46))) (fo := 0) x50 rfl rfl rfl rfl (Le.agd ⟨(Le.refl _), (Le.refl _), trivial⟩) rfl rfl rfl s62 rfl (fun _ => rfl) hx52 rfl rfl) (Wt.none rfl) rfl ?_
    exact WL.done0 rfl rfl
   ·refine ⟨fun F => ?_, trivial⟩
    refine WL.qn (y_pe e24 rfl rfl rfl hx53) rfl ?_
    exact WL.done1 rfl rfl rfl
   ·refine ⟨fun F => ?_, trivial⟩
    refine WL.s0 (d_store_peL (r := .d (.ag (R62 x51))) (R := R62) (k := 2) (i := (IntKind.i64.wrap (b2 + iq46))) (fo := 0) x51 rfl rfl rfl rfl (Le.agd ⟨(Le.refl _), (Le.refl _), trivial⟩) rfl rfl rfl s62 rfl (fun _ => rfl) hx53 rfl rfl) (Wt.none rfl) rfl ?_
    exact WL.done0 rfl rfl
  ·refine we_blk ?_
   refine we_seq ?_
   refine wc_region ?_
   refine WL.mv rfl rfl ?_
   refine WL.qn (y_add rfl rfl rfl) rfl ?_
   refine WL.as rfl rfl ?_
   refine WL.nil ?_
   exact we_lp ⟨n, ⟨(IntKind.i64.wrap (iq46 + 1)), (List.set (List.set l47 (Int.toNat (IntKind.i64.wrap (a1 + iq46))) x50) (Int.toNat (IntKind.i64.wrap (b2 + iq46))) x51), h, (Sub.cons rfl (Le.refl _) (Sub.cons rfl (Le.refl _) (Sub.cons rfl (Le.refl _) (Sub.cons rfl (Le.refl _) (Sub.cons rfl (Le.refl _) (Sub.nil _)))))), ⟨⟨rfl, rfl, rfl, rfl⟩, trivial⟩⟩, Nat.lt_succ_self n⟩
 ·replace h := condF h hc1
  refine wc_exit ?_
  refine we_seq_exit ?_
  refine we_lp_exit ?_
  refine we_blk_hit ?_
  refine we_end ?_
  obtain rfl := Option.some.inj h
  exact we_ret_winx ver (res0 rfl) (Le.tud trivial) rfl ⟨⟨rfl, rfl, rfl, rfl⟩, trivial⟩

theorem f83_c (l0 : List Due) (a1 : Int) (m2 : Int) (b3 : Int) {ver : Nat} {r : List Due} (h : f83 l0 a1 m2 b3 = some r) : Ctr Try.prog 83 [.os 0 ver, .d (D.i .i64 a1), .d (D.i .i64 m2), .d (D.i .i64 b3), .fn (.func 37) [] []] [.os 62 2 ver (List.map (encA R62) l0)] (WinX 1 (.tu []) (fun iv => [.os 62 2 ver (List.map (encA R62) r)])) := by
 unfold f83 at h
 refine ctr_intro Try.func83 (by kernel_rfl) rfl rfl rfl (fun mm φφ ww hmm => ?_)
 refine wc_sr ?_
 refine WL.mv rfl rfl ?_
 refine WL.mv rfl rfl ?_
 refine WL.qn (y_sub rfl rfl rfl) rfl ?_
 refine WL.as rfl rfl ?_
 refine WL.ns ?_
 refine wc_sr ?_
 refine WL.mv rfl rfl ?_
 refine WL.mv rfl rfl ?_
 refine WL.qn (y_sub rfl rfl rfl) rfl ?_
 refine WL.as rfl rfl ?_
 refine WL.ns ?_
 replace h := letkS h
 obtain ⟨k66, hk66, h⟩ := h
 refine wc_cut (fun env' st' => ∃ (iq64 : Int), ∃ (l65 : List Due), k66 iq64 l65 = some r ∧ Sub [(0, .os 0 ver), (2, .d (D.i .i64 m2)), (4, .fn (.func 37) [] []), (10, .d (D.i .i64 iq64))] env' ∧ SLe st' [.os 62 2 ver (List.map (encA R62) l65)]) ?_ ?_
 ·refine wc_block ?_
  refine wc_loop (fun n env' st' => ∃ (iq70 : Int), ∃ (j71 : Int), ∃ (l72 : List Due), f83_l1 m2 k66 n iq70 j71 l72 = some r ∧ Sub [(0, .os 0 ver), (2, .d (D.i .i64 m2)), (4, .fn (.func 37) [] []), (10, .d (D.i .i64 iq70)), (11, .d (D.i .i64 j71))] env' ∧ SLe st' [.os 62 2 ver (List.map (encA R62) l72)]) (fun n => n) 9223372036854775808 ⟨(IntKind.i64.wrap (m2 - a1)), (IntKind.i64.wrap (b3 - m2)), l0, h, (Sub.cons rfl (Le.refl _) (Sub.cons rfl (Le.refl _) (Sub.cons rfl (Le.refl _) (Sub.cons rfl (Le.refl _) (Sub.cons rfl (Le.refl _) (Sub.nil _)))))), ⟨⟨rfl, rfl, rfl, rfl⟩, trivial⟩⟩ ?_
  rintro n env1 st1 ⟨iq70, j71, l72, h, hsub, hst⟩
  cases n with
  | zero => rw [f83_l1] at h; cases h
  | succ n =>
  rw [f83_l1] at h
  refine WC.sub hsub (WC.weak hst ?_)
  refine wc_seq ?_
  refine wc_sr ?_
  refine WL.mv rfl rfl ?_
  refine WL.mv rfl rfl ?_
  refine WL.qn (y_neq rfl rfl) rfl ?_
  refine WL.ns ?_
  refine wc_cond rfl (fun hc1 => ?_) (fun hc1 => ?_)
  ·replace h := condT h hc1
   refine wc_skip ?_
   refine we_seq ?_
   refine wc_block ?_
   refine wc_sr ?_
   refine WL.mv rfl rfl ?_
   refine WL.mv rfl rfl ?_
   refine WL.qn (y_gtr rfl rfl) rfl ?_
   refine WL.ns ?_
   refine wc_cond rfl (fun hc2 => ?_) (fun hc2 => ?_)
   ·replace h := condT h hc2
    refine wc_sr ?_
    refine WL.mv rfl rfl ?_
    refine WL.mv rfl rfl ?_
    refine WL.mv rfl rfl ?_
    refine WL.qn (y_sub rfl rfl rfl) rfl ?_
    refine WL.mv rfl rfl ?_
    refine WL.mv rfl rfl ?_
    refine WL.mv rfl rfl ?_
    obtain ⟨r76, hr76, h⟩ := bindS h
    refine WL.winy [0] rfl rfl rfl rfl (f84_c _ _ _ _ hr76) ⟨Le.refl _, (Le.refl _), (Le.refl _), (Le.refl _), Le.refl _, trivial⟩ rfl (by decide) (cons_eq (ren_os _ _ _ _ _ _) rfl) ⟨rfl, trivial⟩ (stLt_cons (lt_os _ _ _ _ _ _) rfl) rfl (fun _ => (stLt_cons (lt_os _ _ _ _ _ _) rfl)) (fun _ => (cons_eq (ren_os _ _ _ _ _ _) rfl)) (Wt.none rfl) rfl rfl (fun ver76 => ?_)
    refine WL.ns ?_
    refine wc_region ?_
    refine WL.mv rfl rfl ?_
    refine WL.mv rfl rfl ?_
    refine WL.qn (y_sub rfl rfl rfl) rfl ?_
    refine WL.as rfl rfl ?_
    refine WL.nil ?_
    refine we_blk ?_
    exact we_lp ⟨n, ⟨(IntKind.i64.wrap (iq70 - j71)), j71, r76, h, (Sub.cons rfl (Le.refl _) (Sub.cons rfl (Le.refl _) (Sub.cons rfl (Le.refl _) (Sub.cons rfl (Le.refl _) (Sub.cons rfl (Le.refl _) (Sub.nil _)))))), ⟨⟨rfl, rfl, rfl, rfl⟩, trivial⟩⟩, Nat.lt_succ_self n⟩
   ·replace h := condF h hc2
    refine wc_sr ?_
    refine WL.mv rfl rfl ?_
    refine WL.mv rfl rfl ?_
    refine WL.mv rfl rfl ?_
    refine WL.qn (y_sub rfl rfl rfl) rfl ?_
    refine WL.mv rfl rfl ?_
    refine WL.mv rfl rfl ?_
    refine WL.qn (y_add rfl rfl rfl) rfl ?_
    refine WL.mv rfl rfl ?_
    refine WL.qn (y_sub rfl rfl rfl) rfl ?_
    refine WL.mv rfl rfl ?_
    refine WL.mv rfl rfl ?_
    obtain ⟨r77, hr77, h⟩ := bindS h
    refine WL.winy [0] rfl rfl rfl rfl (f84_c _ _ _ _ hr77) ⟨Le.refl _, (Le.refl _), (Le.refl _), (Le.refl _), Le.refl _, trivial⟩ rfl (by decide) (cons_eq (ren_os _ _ _ _ _ _) rfl) ⟨rfl, trivial⟩ (stLt_cons (lt_os _ _ _ _ _ _) rfl) rfl (fun _ => (stLt_cons (lt_os _ _ _ _ _ _) rfl)) (fun _ => (cons_eq (ren_os _ _ _ _ _ _) rfl)) (Wt.none rfl) rfl rfl (fun ver77 => ?_)
    refine WL.ns ?_
    refine wc_region ?_
    refine WL.mv rfl rfl ?_
    refine WL.mv rfl rfl ?_
    refine WL.qn (y_sub rfl rfl rfl) rfl ?_
    refine WL.as rfl rfl ?_
    refine WL.nil ?_
    refine we_blk ?_
    exact we_lp ⟨n, ⟨iq70, (IntKind.i64.wrap (j71 - iq70)), r77, h, (Sub.cons rfl (Le.refl _) (Sub.cons rfl (Le.refl _) (Sub.cons rfl (Le.refl _) (Sub.cons rfl (Le.refl _) (Sub.cons rfl (Le.refl _) (Sub.nil _)))))), ⟨⟨rfl, rfl, rfl, rfl⟩, trivial⟩⟩, Nat.lt_succ_self n⟩
  ·replace h := condF h hc1
   refine wc_exit ?_
   refine we_seq_exit ?_
   refine we_lp_exit ?_
   refine we_blk_hit ?_
   exact we_lp ⟨iq70, l72, h, (Sub.cons rfl (Le.refl _) (Sub.cons rfl (Le.refl _) (Sub.cons rfl (Le.refl _) (Sub.cons rfl (Le.refl _) (Sub.nil _))))), ⟨⟨rfl, rfl, rfl, rfl⟩, trivial⟩⟩
 ·rintro env1 st1 ⟨iq64, l65, h, hsub, hst⟩
  subst hk66
  dsimp only at h
  refine WC.sub hsub (WC.weak hst ?_)
  refine wc_region ?_
  refine WL.mv rfl rfl ?_
  refine WL.mv rfl rfl ?_
  refine WL.mv rfl rfl ?_
  refine WL.qn (y_sub rfl rfl rfl) rfl ?_
  refine WL.mv rfl rfl ?_
  refine WL.mv rfl rfl ?_
  refine WL.mv rfl rfl ?_
  obtain ⟨r78, hr78, h⟩ := bindS h
  refine WL.winy [0] rfl rfl rfl rfl (f84_c _ _ _ _ hr78) ⟨Le.refl _, (Le.refl _), (Le.refl _), (Le.refl _), Le.refl _, trivial⟩ rfl (by decide) (cons_eq (ren_os _ _ _ _ _ _) rfl) ⟨rfl, trivial⟩ (stLt_cons (lt_os _ _ _ _ _ _) rfl) rfl (fun _ => (stLt_cons (lt_os _ _ _ _ _ _) rfl)) (fun _ => (cons_eq (ren_os _ _ _ _ _ _) rfl)) (Wt.none rfl) rfl rfl (fun ver78 => ?_)
  refine WL.nil ?_
  refine we_end ?_
  obtain rfl := Option.some.inj h
  exact we_ret_winx ver (res0 rfl) (Le.tud trivial) rfl ⟨⟨rfl, rfl, rfl, rfl⟩, trivial⟩

theorem f79s_c (rec79 : (List Due) → Int → Int → Int → Option (List Due)) (l0 : List Due) (a1 : Int) (m2 : Int) (b3 : Int) (hrec79 : ∀ {ver : Nat} (l0 : List Due) (x1 : Int) (x2 : Int) (x3 : Int) (r : List Due), rec79 l0 x1 x2 x3 = some r → Ctr Try.prog 79 [.os 0 ver, .d (D.i .i64 x1), .d (D.i .i64 x2), .d (D.i .i64 x3), .fn (.func 37) [] []] [.os 62 2 ver (List.map (encA R62) l0)] (WinX 1 (.tu []) (fun iv => [.os 62 2 ver (List.map (encA R62) r)]))) {ver : Nat} {r : List Due} (h : f79s rec79 l0 a1 m2 b3 = some r) : Ctr Try.prog 79 [.os 0 ver, .d (D.i .i64 a1), .d (D.i .i64 m2), .d (D.i .i64 b3), .fn (.func 37) [] []] [.os 62 2 ver (List.map (encA R62) l0)] (WinX 1 (.tu []) (fun iv => [.os 62 2 ver (List.map (encA R62) r)])) := by
 unfold f79s at h
 refine ctr_intro Try.func79 (by kernel_rfl) rfl rfl rfl (fun mm φφ ww hmm => ?_)
 replace h := letkS h
 obtain ⟨k226, hk226, h⟩ := h
 refine wc_cut (fun env' st' => k226 () = some r ∧ Sub [(0, .os 0 ver), (1, .d (D.i .i64 a1)), (2, .d (D.i .i64 m2)), (3, .d (D.i .i64 b3)), (4, .fn (.func 37) [] [])] env' ∧ SLe st' [.os 62 2 ver (List.map (encA R62) l0)]) ?_ ?_
 ·refine wc_sr ?_
  refine WL.mv rfl rfl ?_
  refine WL.mv rfl rfl ?_
  refine WL.qn (y_sub rfl rfl rfl) rfl ?_
  refine WL.qn (y_eql rfl rfl) rfl ?_
  refine WL.ns ?_
  refine wc_cond rfl (fun hc1 => ?_) (fun hc1 => ?_)
  ·replace h := condT h hc1
   refine wc_sr ?_
   refine WL.mv rfl rfl ?_
   refine WL.as rfl rfl ?_
   refine WL.ns ?_
   refine wc_sr ?_
   refine WL.mv rfl rfl ?_
   refine WL.as rfl rfl ?_
   refine WL.ns ?_
   replace h := letkS h
   obtain ⟨k228, hk228, h⟩ := h
   refine wc_cut (fun env' st' => ∃ (iq227 : Int), k228 iq227 = some r ∧ Sub [(0, .os 0 ver), (1, .d (D.i .i64 a1)), (2, .d (D.i .i64 m2)), (3, .d (D.i .i64 b3)), (4, .fn (.func 37) [] []), (10, .d (D.i .i64 iq227))] env' ∧ SLe st' [.os 62 2 ver (List.map (encA R62) l0)]) ?_ ?_
   ·refine wc_block ?_
    refine wc_loop (fun n env' st' => ∃ (iq231 : Int), ∃ (j232 : Int), f79s_l1 l0 a1 k228 n iq231 j232 = some r ∧ Sub [(0, .os 0 ver), (1, .d (D.i .i64 a1)), (2, .d (D.i .i64 m2)), (3, .d (D.i .i64 b3)), (4, .fn (.func 37) [] []), (10, .d (D.i .i64 iq231)), (11, .d (D.i .i64 j232))] env' ∧ SLe st' [.os 62 2 ver (List.map (encA R62) l0)]) (fun n => n) 9223372036854775808 ⟨m2, b3, h, (Sub.cons rfl (Le.refl _) (Sub.cons rfl (Le.refl _) (Sub.cons rfl (Le.refl _) (Sub.cons rfl (Le.refl _) (Sub.cons rfl (Le.refl _) (Sub.cons rfl (Le.refl _) (Sub.cons rfl (Le.refl _) (Sub.nil _)))))))), ⟨⟨rfl, rfl, rfl, rfl⟩, trivial⟩⟩ ?_
    rintro n env1 st1 ⟨iq231, j232, h, hsub, hst⟩
    cases n with
    | zero => rw [f79s_l1] at h; cases h
    | succ n =>
    rw [f79s_l1] at h
    refine WC.sub hsub (WC.weak hst ?_)
    refine wc_seq ?_
    refine wc_sr ?_
    refine WL.mv rfl rfl ?_
    refine WL.mv rfl rfl ?_
    refine WL.qn (y_lss rfl rfl) rfl ?_
    refine WL.ns ?_
    refine wc_cond rfl (fun hc2 => ?_) (fun hc2 => ?_)
    ·replace h := condT h hc2
     refine wc_skip ?_
     refine we_seq ?_
     refine wc_block ?_
     refine wc_sr ?_
     refine WL.mv rfl rfl ?_
     refine WL.mv rfl rfl ?_
     refine WL.qn (y_add rfl rfl rfl) rfl ?_
     refine WL.qn (y_conv Try.underlying3 Try.underlying42 rfl rfl) rfl ?_
     refine WL.qn (y_shr rfl rfl (by decide)) rfl ?_
     refine WL.qn (y_conv Try.underlying42 Try.underlying3 rfl rfl) rfl ?_
     refine WL.as rfl rfl ?_
     refine WL.ns ?_
     refine wc_seq ?_
     refine wc_region_draw (by kernel_rfl) (by kernel_rfl) ?_
     refine WQ.qn (y_move rfl) rfl ?_
     refine WQ.qn (y_move rfl) rfl ?_
     refine WQ.qn (y_move rfl) rfl ?_
     obtain ⟨x235, hx235, h⟩ := bindS h
     refine WQ.qn (y_pe e24 rfl rfl rfl hx235) rfl ?_
     refine WQ.qn (y_load_peLN (fo := 0) rfl rfl rfl a62 s62 (fun _ => rfl) hx235 rfl rfl) rfl ?_
     refine WQ.qn (y_move rfl) rfl ?_
     refine WQ.qn (y_move rfl) rfl ?_
     obtain ⟨x236, hx236, h⟩ := bindS h
     refine WQ.qn (y_pe e24 rfl rfl rfl hx236) rfl ?_
     refine WQ.qn (y_load_peLN (fo := 0) rfl rfl rfl a62 s62 (fun _ => rfl) hx236 rfl rfl) rfl ?_
     refine WQ.q (YieldsQ.fn rfl rfl rfl rfl rfl (f37_c _ _) ⟨(Le.agd ⟨(Le.refl _), (Le.refl _), trivial⟩), (Le.agd ⟨(Le.refl _), (Le.refl _), trivial⟩), trivial⟩) (Wt.none rfl) rfl rfl ?_
     refine WQ.qn (y_lss rfl rfl) rfl ?_
     refine WQ.nil ?_
     refine we_seq ?_
     refine wc_cond rfl (fun hc3 => ?_) (fun hc3 => ?_)
     ·replace h := condT h hc3
      refine wc_region ?_
      refine WL.mv rfl rfl ?_
      refine WL.qn (y_add rfl rfl rfl) rfl ?_
      refine WL.as rfl rfl ?_
      refine WL.nil ?_
      refine we_blk ?_
      exact we_lp ⟨n, ⟨(IntKind.i64.wrap ((IntKind.i64.wrap (Int.fdiv (IntKind.u64.wrap (IntKind.i64.wrap (iq231 + j232))) (2 ^ min (Int.toNat 1) IntKind.u64.bits))) + 1)), j232, h, (Sub.cons rfl (Le.refl _) (Sub.cons rfl (Le.refl _) (Sub.cons rfl (Le.refl _) (Sub.cons rfl (Le.refl _) (Sub.cons rfl (Le.refl _) (Sub.cons rfl (Le.refl _) (Sub.cons rfl (Le.refl _) (Sub.nil _)))))))), ⟨⟨rfl, rfl, rfl, rfl⟩, trivial⟩⟩, Nat.lt_succ_self n⟩
     ·replace h := condF h hc3
      refine wc_region ?_
      refine WL.mv rfl rfl ?_
      refine WL.as rfl rfl ?_
      refine WL.nil ?_
      refine we_blk ?_
      exact we_lp ⟨n, ⟨iq231, (IntKind.i64.wrap (Int.fdiv (IntKind.u64.wrap (IntKind.i64.wrap (iq231 + j232))) (2 ^ min (Int.toNat 1) IntKind.u64.bits))), h, (Sub.cons rfl (Le.refl _) (Sub.cons rfl (Le.refl _) (Sub.cons rfl (Le.refl _) (Sub.cons rfl (Le.refl _) (Sub.cons rfl (Le.refl _) (Sub.cons rfl (Le.refl _) (Sub.cons rfl (Le.refl _) (Sub.nil _)))))))), ⟨⟨rfl, rfl, rfl, rfl⟩, trivial⟩⟩, Nat.lt_succ_self n⟩
    ·replace h := condF h hc2
     refine wc_exit ?_
     refine we_seq_exit ?_
     refine we_lp_exit ?_
     refine we_blk_hit ?_
     exact we_lp ⟨iq231, h, (Sub.cons rfl (Le.refl _) (Sub.cons rfl (Le.refl _) (Sub.cons rfl (Le.refl _) (Sub.cons rfl (Le.refl _) (Sub.cons rfl (Le.refl _) (Sub.cons rfl (Le.refl _) (Sub.nil _))))))), ⟨⟨rfl, rfl, rfl, rfl⟩, trivial⟩⟩
   ·rintro env1 st1 ⟨iq227, h, hsub, hst⟩
    subst hk228
    dsimp only at h
    refine WC.sub hsub (WC.weak hst ?_)
    replace h := letkS h
    obtain ⟨k238, hk238, h⟩ := h
    refine wc_cut (fun env' st' => ∃ (l237 : List Due), k238 l237 = some r ∧ Sub [(0, .os 0 ver), (1, .d (D.i .i64 a1)), (2, .d (D.i .i64 m2)), (3, .d (D.i .i64 b3)), (4, .fn (.func 37) [] [])] env' ∧ SLe st' [.os 62 2 ver (List.map (encA R62) l237)]) ?_ ?_
    ·refine wc_sr ?_
     refine WL.mv rfl rfl ?_
     refine WL.as rfl rfl ?_
     refine WL.ns ?_
     refine wc_block ?_
     refine wc_loop (fun n env' st' => ∃ (k241 : Int), ∃ (l242 : List Due), f79s_l2 iq227 k238 n k241 l242 = some r ∧ Sub [(0, .os 0 ver), (1, .d (D.i .i64 a1)), (2, .d (D.i .i64 m2)), (3, .d (D.i .i64 b3)), (4, .fn (.func 37) [] []), (10, .d (D.i .i64 iq227)), (13, .d (D.i .i64 k241))] env' ∧ SLe st' [.os 62 2 ver (List.map (encA R62) l242)]) (fun n => n) 9223372036854775808 ⟨a1, l0, h, (Sub.cons rfl (Le.refl _) (Sub.cons rfl (Le.refl _) (Sub.cons rfl (Le.refl _) (Sub.cons rfl (Le.refl _) (Sub.cons rfl (Le.refl _) (Sub.cons rfl (Le.refl _) (Sub.cons rfl (Le.refl _) (Sub.nil _)))))))), ⟨⟨rfl, rfl, rfl, rfl⟩, trivial⟩⟩ ?_
     rintro n env1 st1 ⟨k241, l242, h, hsub, hst⟩
     cases n with
     | zero => rw [f79s_l2] at h; cases h
     | succ n =>
     rw [f79s_l2] at h
     refine WC.sub hsub (WC.weak hst ?_)
     refine wc_seq ?_
     refine wc_sr ?_
     refine WL.mv rfl rfl ?_
     refine WL.mv rfl rfl ?_
     refine WL.qn (y_sub rfl rfl rfl) rfl ?_
     refine WL.qn (y_lss rfl rfl) rfl ?_
     refine WL.ns ?_
     refine wc_cond rfl (fun hc4 => ?_) (fun hc4 => ?_)
     ·replace h := condT h hc4
      refine wc_skip ?_
      refine we_seq ?_
      refine wc_seq ?_
      refine wc_block ?_
      obtain ⟨x245, hx245, h⟩ := bindS h
      obtain ⟨x246, hx246, h⟩ := bindS h
      obtain ⟨x247, hx247, h⟩ := bindS h
      obtain ⟨x248, hx248, h⟩ := bindS h
      apply wc_region_all [_, _, _, _, _, _, _, _, _, _, _, _, _, _, _, .u, _, .u] [[], [], [], [], [3], [], [], [6], [5, 6, 7], [5, 6, 7, 8], [], [], [10, 11], [10, 11, 12], [0, 1, 5, 6, 7, 8, 9, 10, 11, 12, 13], [0, 1, 5, 6, 7, 8, 9, 10, 11, 12, 13, 14], [0, 1, 2, 3, 4, 5, 6, 7, 8, 9, 10, 11, 12, 13, 14, 15], [0, 1, 2, 3, 4, 5, 6, 7, 8, 9, 10, 11, 12, 13, 14, 15, 16]] [15, 17] (fun c => List.getD [[.os 62 2 ver (List.map (encA R62) l242)], [.os 62 2 ver (List.map (encA R62) (List.set l242 (Int.toNat k241) x245))], [.os 62 2 ver (List.map (encA R62) (List.set (List.set l242 (Int.toNat k241) x245) (Int.toNat (IntKind.i64.wrap (k241 + 1))) x246))]] c []) [([], [0], [0]), ([], [13], [0]), ([], [0], [0, 1]), ([], [13], [0, 1]), ([3], [], [0, 1]), ([], [0], [0]), ([], [13], [0]), ([6], [], [0]), ([5, 7], [], [0]), ([8], [], [0]), ([], [0], [0]), ([], [13], [0]), ([10, 11], [], [0]), ([12], [], [0]), ([0, 1], [], [0]), ([14, 9], [], [0]), ([2, 4], [], [1]), ([16, 13], [], [1])] (by kernel_rfl) (by kernel_rfl) rfl rfl rfl
      ·refine ⟨?_, ?_, ?_, ?_, ?_, ?_, ?_, ?_, ?_, ?_, ?_, ?_, ?_, ?_, ?_, ?_, ?_, ?_, trivial⟩
       ·refine ⟨fun F => ?_, trivial⟩
        refine WL.mv rfl rfl ?_
        exact WL.done1 rfl rfl rfl
       ·refine ⟨fun F => ?_, trivial⟩
        refine WL.mv rfl rfl ?_
        exact WL.done1 rfl rfl rfl
       ·refine ⟨fun F => ?_, fun F => ?_, trivial⟩
        ·refine WL.mv rfl rfl ?_
         exact WL.done1 rfl rfl rfl
        ·refine WL.mv rfl rfl ?_
         exact WL.done1 rfl rfl rfl
       ·refine ⟨fun F => ?_, fun F => ?_, trivial⟩
        ·refine WL.mv rfl rfl ?_
         exact WL.done1 rfl rfl rfl
        ·refine WL.mv rfl rfl ?_
         exact WL.done1 rfl rfl rfl
       ·refine ⟨fun F => ?_, fun F => ?_, trivial⟩
        ·refine WL.qn (y_add rfl rfl rfl) rfl ?_
         exact WL.done1 rfl rfl rfl
        ·refine WL.qn (y_add rfl rfl rfl) rfl ?_
         exact WL.done1 rfl rfl rfl
       ·refine ⟨fun F => ?_, trivial⟩
        refine WL.mv rfl rfl ?_
        exact WL.done1 rfl rfl rfl
       ·refine ⟨fun F => ?_, trivial⟩
        refine WL.mv rfl rfl ?_
        exact WL.done1 rfl rfl rfl
       ·refine ⟨fun F => ?_, trivial⟩
        refine WL.qn (y_add rfl rfl rfl) rfl ?_
        exact WL.done1 rfl rfl rfl
       ·refine ⟨fun F => ?_, trivial⟩
        refine WL.qn (y_pe e24 rfl rfl rfl hx245) rfl ?_
        exact WL.done1 rfl rfl rfl
       ·refine ⟨fun F => ?_, trivial⟩
        refine WL.qn (y_load_peLN (fo := 0) rfl rfl rfl a62 s62 (fun _ => rfl) hx245 rfl rfl) rfl ?_
        exact WL.done1 rfl rfl rfl
       ·refine ⟨fun F => ?_, trivial⟩
        refine WL.mv rfl rfl ?_
        exact WL.done1 rfl rfl rfl
       ·refine ⟨fun F => ?_, trivial⟩
        refine WL.mv rfl rfl ?_
        exact WL.done1 rfl rfl rfl
       ·refine ⟨fun F => ?_, trivial⟩
        refine WL.qn (y_pe e24 rfl rfl rfl hx246) rfl ?_
        exact WL.done1 rfl rfl rfl
       ·refine ⟨fun F => ?_, trivial⟩
        refine WL.qn (y_load_peLN (fo := 0) rfl rfl rfl a62 s62 (fun _ => rfl) hx246 rfl rfl) rfl ?_
        exact WL.done1 rfl rfl rfl
       ·refine ⟨fun F => ?_, trivial⟩
        refine WL.qn (y_pe e24 rfl rfl rfl hx247) rfl ?_
        exact WL.done1 rfl rfl rfl
       ·refine ⟨fun F => ?_, trivial⟩
        refine WL.s0 (d_store_peL (r := .d (.ag (R62 x245))) (R := R62) (k := 2) (i := k241) (fo := 0) x245 rfl rfl rfl rfl (Le.agd ⟨(Le.refl _), (Le.refl _), trivial⟩) rfl rfl rfl s62 rfl (fun _ => rfl) hx247 rfl rfl) (Wt.none rfl) rfl ?_
        exact WL.done0 rfl rfl
       ·refine ⟨fun F => ?_, trivial⟩
        refine WL.qn (y_pe e24 rfl rfl rfl hx248) rfl ?_
        exact WL.done1 rfl rfl rfl
       ·refine ⟨fun F => ?_, trivial⟩
        refine WL.s0 (d_store_peL (r := .d (.ag (R62 x246))) (R := R62) (k := 2) (i := (IntKind.i64.wrap (k241 + 1))) (fo := 0) x246 rfl rfl rfl rfl (Le.agd ⟨(Le.refl _), (Le.refl _), trivial⟩) rfl rfl rfl s62 rfl (fun _ => rfl) hx248 rfl rfl) (Wt.none rfl) rfl ?_
        exact WL.done0 rfl rfl
      ·refine we_blk ?_
       refine we_seq ?_
       refine wc_region ?_
       refine WL.mv rfl rfl ?_
       refine WL.qn (y_add rfl rfl rfl) rfl ?_
       refine WL.as rfl rfl ?_
       refine WL.nil ?_
       exact we_lp ⟨n, ⟨(IntKind.i64.wrap (k241 + 1)), (List.set (List.set l242 (Int.toNat k241) x245) (Int.toNat (IntKind.i64.wrap (k241 + 1))) x246), h, (Sub.cons rfl (Le.refl _) (Sub.cons rfl (Le.refl _) (Sub.cons rfl (Le.refl _) (Sub.cons rfl (Le.refl _) (Sub.cons rfl (Le.refl _) (Sub.cons rfl (Le.refl _) (Sub.cons rfl (Le.refl _) (Sub.nil _)))))))), ⟨⟨rfl, rfl, rfl, rfl⟩, trivial⟩⟩, Nat.lt_succ_self n⟩
     ·replace h := condF h hc4
      refine wc_exit ?_
      refine we_seq_exit ?_
      refine we_lp_exit ?_
      refine we_blk_hit ?_
      exact we_lp ⟨l242, h, (Sub.cons rfl (Le.refl _) (Sub.cons rfl (Le.refl _) (Sub.cons rfl (Le.refl _) (Sub.cons rfl (Le.refl _) (Sub.cons rfl (Le.refl _) (Sub.nil _)))))), ⟨⟨rfl, rfl, rfl, rfl⟩, trivial⟩⟩
    ·rintro env1 st1 ⟨l237, h, hsub, hst⟩
     subst hk238
     dsimp only at h
     refine WC.sub hsub (WC.weak hst ?_)
     refine wc_ret ?_
     refine we_lp_ret ?_
     obtain rfl := Option.some.inj h
     exact we_ret_winx ver (res0 rfl) (Le.tud trivial) rfl ⟨⟨rfl, rfl, rfl, rfl⟩, trivial⟩
  ·replace h := condF h hc1
   refine wc_skip ?_
   exact we_lp ⟨h, (Sub.cons rfl (Le.refl _) (Sub.cons rfl (Le.refl _) (Sub.cons rfl (Le.refl _) (Sub.cons rfl (Le.refl _) (Sub.cons rfl (Le.refl _) (Sub.nil _)))))), ⟨⟨rfl, rfl, rfl, rfl⟩, trivial⟩⟩
 ·rintro env1 st1 ⟨h, hsub, hst⟩
  subst hk226
  dsimp only at h
  refine WC.sub hsub (WC.weak hst ?_)
  replace h := letkS h
  obtain ⟨k249, hk249, h⟩ := h
  refine wc_cut (fun env' st' => k249 () = some r ∧ Sub [(0, .os 0 ver), (1, .d (D.i .i64 a1)), (2, .d (D.i .i64 m2)), (3, .d (D.i .i64 b3)), (4, .fn (.func 37) [] [])] env' ∧ SLe st' [.os 62 2 ver (List.map (encA R62) l0)]) ?_ ?_
  ·refine wc_sr ?_
   refine WL.mv rfl rfl ?_
   refine WL.mv rfl rfl ?_
   refine WL.qn (y_sub rfl rfl rfl) rfl ?_
   refine WL.qn (y_eql rfl rfl) rfl ?_
   refine WL.ns ?_
   refine wc_cond rfl (fun hc5 => ?_) (fun hc5 => ?_)
   ·replace h := condT h hc5
    refine wc_sr ?_
    refine WL.mv rfl rfl ?_
    refine WL.as rfl rfl ?_
    refine WL.ns ?_
    refine wc_sr ?_
    refine WL.mv rfl rfl ?_
    refine WL.as rfl rfl ?_
    refine WL.ns ?_
    replace h := letkS h
    obtain ⟨k251, hk251, h⟩ := h
    refine wc_cut (fun env' st' => ∃ (iq250 : Int), k251 iq250 = some r ∧ Sub [(0, .os 0 ver), (1, .d (D.i .i64 a1)), (2, .d (D.i .i64 m2)), (3, .d (D.i .i64 b3)), (4, .fn (.func 37) [] []), (14, .d (D.i .i64 iq250))] env' ∧ SLe st' [.os 62 2 ver (List.map (encA R62) l0)]) ?_ ?_
    ·refine wc_block ?_
     refine wc_loop (fun n env' st' => ∃ (iq254 : Int), ∃ (j255 : Int), f79s_l3 l0 m2 k251 n iq254 j255 = some r ∧ Sub [(0, .os 0 ver), (1, .d (D.i .i64 a1)), (2, .d (D.i .i64 m2)), (3, .d (D.i .i64 b3)), (4, .fn (.func 37) [] []), (14, .d (D.i .i64 iq254)), (15, .d (D.i .i64 j255))] env' ∧ SLe st' [.os 62 2 ver (List.map (encA R62) l0)]) (fun n => n) 9223372036854775808 ⟨a1, m2, h, (Sub.cons rfl (Le.refl _) (Sub.cons rfl (Le.refl _) (Sub.cons rfl (Le.refl _) (Sub.cons rfl (Le.refl _) (Sub.cons rfl (Le.refl _) (Sub.cons rfl (Le.refl _) (Sub.cons rfl (Le.refl _) (Sub.nil _)))))))), ⟨⟨rfl, rfl, rfl, rfl⟩, trivial⟩⟩ ?_
     rintro n env1 st1 ⟨iq254, j255, h, hsub, hst⟩
     cases n with
     | zero => rw [f79s_l3] at h; cases h
     | succ n =>
     rw [f79s_l3] at h
     refine WC.sub hsub (WC.weak hst ?_)
     refine wc_seq ?_
     refine wc_sr ?_
     refine WL.mv rfl rfl ?_
     refine WL.mv rfl rfl ?_
     refine WL.qn (y_lss rfl rfl) rfl ?_
     refine WL.ns ?_
     refine wc_cond rfl (fun hc6 => ?_) (fun hc6 => ?_)
     ·replace h := condT h hc6
      refine wc_skip ?_
      refine we_seq ?_
      refine wc_block ?_
      refine wc_sr ?_
      refine WL.mv rfl rfl ?_
      refine WL.mv rfl rfl ?_
      refine WL.qn (y_add rfl rfl rfl) rfl ?_
      refine WL.qn (y_conv Try.underlying3 Try.underlying42 rfl rfl) rfl ?_
      refine WL.qn (y_shr rfl rfl (by decide)) rfl ?_
      refine WL.qn (y_conv Try.underlying42 Try.underlying3 rfl rfl) rfl ?_
      refine WL.as rfl rfl ?_
      refine WL.ns ?_
      refine wc_seq ?_
      refine wc_region_draw (by kernel_rfl) (by kernel_rfl) ?_
      refine WQ.qn (y_move rfl) rfl ?_
      refine WQ.qn (y_move rfl) rfl ?_
      refine WQ.qn (y_move rfl) rfl ?_
      obtain ⟨x258, hx258, h⟩ := bindS h
      refine WQ.qn (y_pe e24 rfl rfl rfl hx258) rfl ?_
      refine WQ.qn (y_load_peLN (fo := 0) rfl rfl rfl a62 s62 (fun _ => rfl) hx258 rfl rfl) rfl ?_
      refine WQ.qn (y_move rfl) rfl ?_
      refine WQ.qn (y_move rfl) rfl ?_
      obtain ⟨x259, hx259, h⟩ := bindS h
      refine WQ.qn (y_pe e24 rfl rfl rfl hx259) rfl ?_
      refine WQ.qn (y_load_peLN (fo := 0) rfl rfl rfl a62 s62 (fun _ => rfl) hx259 rfl rfl) rfl ?_
      refine WQ.q (YieldsQ.fn rfl rfl rfl rfl rfl (f37_c _ _) ⟨(Le.agd ⟨(Le.refl _), (Le.refl _), trivial⟩), (Le.agd ⟨(Le.refl _), (Le.refl _), trivial⟩), trivial⟩) (Wt.none rfl) rfl rfl ?_
      refine WQ.qn (y_lss rfl rfl) rfl ?_
      refine WQ.qn (y_not rfl) rfl ?_
      refine WQ.nil ?_
      refine we_seq ?_
      refine wc_cond rfl (fun hc7 => ?_) (fun hc7 => ?_)
      ·replace h := condT h hc7
       refine wc_region ?_
       refine WL.mv rfl rfl ?_
       refine WL.qn (y_add rfl rfl rfl) rfl ?_
       refine WL.as rfl rfl ?_
       refine WL.nil ?_
       refine we_blk ?_
       exact we_lp ⟨n, ⟨(IntKind.i64.wrap ((IntKind.i64.wrap (Int.fdiv (IntKind.u64.wrap (IntKind.i64.wrap (iq254 + j255))) (2 ^ min (Int.toNat 1) IntKind.u64.bits))) + 1)), j255, h, (Sub.cons rfl (Le.refl _) (Sub.cons rfl (Le.refl _) (Sub.cons rfl (Le.refl _) (Sub.cons rfl (Le.refl _) (Sub.cons rfl (Le.refl _) (Sub.cons rfl (Le.refl _) (Sub.cons rfl (Le.refl _) (Sub.nil _)))))))), ⟨⟨rfl, rfl, rfl, rfl⟩, trivial⟩⟩, Nat.lt_succ_self n⟩
      ·replace h := condF h hc7
       refine wc_region ?_
       refine WL.mv rfl rfl ?_
       refine WL.as rfl rfl ?_
       refine WL.nil ?_
       refine we_blk ?_
       exact we_lp ⟨n, ⟨iq254, (IntKind.i64.wrap (Int.fdiv (IntKind.u64.wrap (IntKind.i64.wrap (iq254 + j255))) (2 ^ min (Int.toNat 1) IntKind.u64.bits))), h, (Sub.cons rfl (Le.refl _) (Sub.cons rfl (Le.refl _) (Sub.cons rfl (Le.refl _) (Sub.cons rfl (Le.refl _) (Sub.cons rfl (Le.refl _) (Sub.cons rfl (Le.refl _) (Sub.cons rfl (Le.refl _) (Sub.nil _)))))))), ⟨⟨rfl, rfl, rfl, rfl⟩, trivial⟩⟩, Nat.lt_succ_self n⟩
     ·replace h := condF h hc6
      refine wc_exit ?_
      refine we_seq_exit ?_
      refine we_lp_exit ?_
      refine we_blk_hit ?_
      exact we_lp ⟨iq254, h, (Sub.cons rfl (Le.refl _) (Sub.cons rfl (Le.refl _) (Sub.cons rfl (Le.refl _) (Sub.cons rfl (Le.refl _) (Sub.cons rfl (Le.refl _) (Sub.cons rfl (Le.refl _) (Sub.nil _))))))), ⟨⟨rfl, rfl, rfl, rfl⟩, trivial⟩⟩
    ·rintro env1 st1 ⟨iq250, h, hsub, hst⟩
     subst hk251
     dsimp only at h
     refine WC.sub hsub (WC.weak hst ?_)
     replace h := letkS h
     obtain ⟨k261, hk261, h⟩ := h
     refine wc_cut (fun env' st' => ∃ (l260 : List Due), k261 l260 = some r ∧ Sub [(0, .os 0 ver), (1, .d (D.i .i64 a1)), (2, .d (D.i .i64 m2)), (3, .d (D.i .i64 b3)), (4, .fn (.func 37) [] [])] env' ∧ SLe st' [.os 62 2 ver (List.map (encA R62) l260)]) ?_ ?_
     ·refine wc_sr ?_
      refine WL.mv rfl rfl ?_
      refine WL.as rfl rfl ?_
      refine WL.ns ?_
      refine wc_block ?_
      refine wc_loop (fun n env' st' => ∃ (k264 : Int), ∃ (l265 : List Due), f79s_l4 iq250 k261 n k264 l265 = some r ∧ Sub [(0, .os 0 ver), (1, .d (D.i .i64 a1)), (2, .d (D.i .i64 m2)), (3, .d (D.i .i64 b3)), (4, .fn (.func 37) [] []), (14, .d (D.i .i64 iq250)), (17, .d (D.i .i64 k264))] env' ∧ SLe st' [.os 62 2 ver (List.map (encA R62) l265)]) (fun n => n) 9223372036854775808 ⟨m2, l0, h, (Sub.cons rfl (Le.refl _) (Sub.cons rfl (Le.refl _) (Sub.cons rfl (Le.refl _) (Sub.cons rfl (Le.refl _) (Sub.cons rfl (Le.refl _) (Sub.cons rfl (Le.refl _) (Sub.cons rfl (Le.refl _) (Sub.nil _)))))))), ⟨⟨rfl, rfl, rfl, rfl⟩, trivial⟩⟩ ?_
      rintro n env1 st1 ⟨k264, l265, h, hsub, hst⟩
      cases n with
      | zero => rw [f79s_l4] at h; cases h
      | succ n =>
      rw [f79s_l4] at h
      refine WC.sub hsub (WC.weak hst ?_)
      refine wc_seq ?_
      refine wc_sr ?_
      refine WL.mv rfl rfl ?_
      refine WL.mv rfl rfl ?_
      refine WL.qn (y_gtr rfl rfl) rfl ?_
      refine WL.ns ?_
      refine wc_cond rfl (fun hc8 => ?_) (fun hc8 => ?_)
      ·replace h := condT h hc8
       refine wc_skip ?_
       refine we_seq ?_
       refine wc_seq ?_
       refine wc_block ?_
       obtain ⟨x268, hx268, h⟩ := bindS h
       obtain ⟨x269, hx269, h⟩ := bindS h
       obtain ⟨x270, hx270, h⟩ := bindS h
       obtain ⟨x271, hx271, h⟩ := bindS h
       apply wc_region_all [_, _, _, _, _, _, _, _, _, _, _, _, _, _, _, .u, _, .u] [[], [], [], [], [3], [], [], [6], [5, 6, 7], [5, 6, 7, 8], [], [], [10, 11], [10, 11, 12], [0, 1, 5, 6, 7, 8, 9, 10, 11, 12, 13], [0, 1, 5, 6, 7, 8, 9, 10, 11, 12, 13, 14], [0, 1, 2, 3, 4, 5, 6, 7, 8, 9, 10, 11, 12, 13, 14, 15], [0, 1, 2, 3, 4, 5, 6, 7, 8, 9, 10, 11, 12, 13, 14, 15, 16]] [15, 17] (fun c => List.getD [[.os 62 2 ver (List.map (encA R62) l265)], [.os 62 2 ver (List.map (encA R62) (List.set l265 (Int.toNat k264) x268))], [.os 62 2 ver (List.map (encA R62) (List.set (List.set l265 (Int.toNat k264) x268) (Int.toNat (IntKind.i64.wrap (k264 - 1))) x269))]] c []) [([], [0], [0]), ([], [17], [0]), ([], [0], [0, 1]), ([], [17], [0, 1]), ([3], [], [0, 1]), ([], [0], [0]), ([], [17], [0]), ([6], [], [0]), ([5, 7], [], [0]), ([8], [], [0]), ([], [0], [0]), ([], [17], [0]), ([10, 11], [], [0]), ([12], [], [0]), ([0, 1], [], [0]), ([14, 9], [], [0]), ([2, 4], [], [1]), ([16, 13], [], [1])] (by kernel_rfl) (by kernel_rfl) rfl rfl rfl
       ·refine ⟨?_, ?_, ?_, ?_, ?_, ?_, ?_, ?_, ?_, ?_, ?_, ?_, ?_, ?_, ?_, ?_, ?_, ?_, trivial⟩
        ·refine ⟨fun F => ?_, trivial⟩
         refine WL.mv rfl rfl ?_
         exact WL.done1 rfl rfl rfl
        ·refine ⟨fun F => ?_, trivial⟩
         refine WL.mv rfl rfl ?_
         exact WL.done1 rfl rfl rfl
        ·refine ⟨fun F => ?_, fun F => ?_, trivial⟩
         ·refine WL.mv rfl rfl ?_
          exact WL.done1 rfl rfl rfl
         ·refine WL.mv rfl rfl ?_
          exact WL.done1 rfl rfl rfl
        ·refine ⟨fun F => ?_, fun F => ?_, trivial⟩
         ·refine WL.mv rfl rfl ?_
          exact WL.done1 rfl rfl rfl
         ·refine WL.mv rfl rfl ?_
          exact WL.done1 rfl rfl rfl
        ·refine ⟨fun F => ?_, fun F => ?_, trivial⟩
         ·refine WL.qn (y_sub rfl rfl rfl) rfl ?_
          exact WL.done1 rfl rfl rfl
         ·refine WL.qn (y_sub rfl rfl rfl) rfl ?_
          exact WL.done1 rfl rfl rfl
        ·refine ⟨fun F => ?_, trivial⟩
         refine WL.mv rfl rfl ?_
         exact WL.done1 rfl rfl rfl
        ·refine ⟨fun F => ?_, trivial⟩
         refine WL.mv rfl rfl ?_
         exact WL.done1 rfl rfl rfl
        ·refine ⟨fun F => ?_, trivial⟩
         refine WL.qn (y_sub rfl rfl rfl) rfl ?_
         exact WL.done1 rfl rfl rfl
        ·refine ⟨fun F => ?_, trivial⟩
         refine WL.qn (y_pe e24 rfl rfl rfl hx268) rfl ?_
         exact WL.done1 rfl rfl rfl
        ·refine ⟨fun F => ?_, trivial⟩
         refine WL.qn (y_load_peLN (fo := 0) rfl rfl rfl a62 s62 (fun _ => rfl) hx268 rfl rfl) rfl ?_
         exact WL.done1 rfl rfl rfl
        ·refine ⟨fun F => ?_, trivial⟩
         refine WL.mv rfl rfl ?_
         exact WL.done1 rfl rfl rfl
        ·refine ⟨fun F => ?_, trivial⟩
         refine WL.mv rfl rfl ?_
         exact WL.done1 rfl rfl rfl
        ·refine ⟨fun F => ?_, trivial⟩
         refine WL.qn (y_pe e24 rfl rfl rfl hx269) rfl ?_
         exact WL.done1 rfl rfl rfl
        ·refine ⟨fun F => ?_, trivial⟩
         refine WL.qn (y_load_peLN (fo := 0) rfl rfl rfl a62 s62 (fun _ => rfl) hx269 rfl rfl) rfl ?_
         exact WL.done1 rfl rfl rfl
        ·refine ⟨fun F => ?_, trivial⟩
         refine WL.qn (y_pe e24 rfl rfl rfl hx270) rfl ?_
         exact WL.done1 rfl rfl rfl
        ·refine ⟨fun F => ?_, trivial⟩
         refine WL.s0 (d_store_peL (r := .d (.ag (R62 x268))) (R := R62) (k := 2) (i := k264) (fo := 0) x268 rfl rfl rfl rfl (Le.agd ⟨(Le.refl _), (Le.refl _), trivial⟩) rfl rfl rfl s62 rfl (fun _ => rfl) hx270 rfl rfl) (Wt.none rfl) rfl ?_
         exact WL.done0 rfl rfl
        ·refine ⟨fun F => ?_, trivial⟩
         refine WL.qn (y_pe e24 rfl rfl rfl hx271) rfl ?_
         exact WL.done1 rfl rfl rfl
        ·refine ⟨fun F => ?_, trivial⟩
         refine WL.s0 (d_store_peL (r := .d (.ag (R62 x269))) (R := R62) (k := 2) (i := (IntKind.i64.wrap (k264 - 1))) (fo := 0) x269 rfl rfl rfl rfl (Le.agd ⟨(Le.refl _), (Le.refl _), trivial⟩) rfl rfl rfl s62 rfl (fun _ => rfl) hx271 rfl rfl) (Wt.none rfl) rfl ?_
         exact WL.done0 rfl rfl
       ·refine we_blk ?_
        refine we_seq ?_
        refine wc_region ?_
        refine WL.mv rfl rfl ?_
        refine WL.qn (y_sub rfl rfl rfl) rfl ?_
        refine WL.as rfl rfl ?_
        refine WL.nil ?_
        exact we_lp ⟨n, ⟨(IntKind.i64.wrap (k264 - 1)), (List.set (List.set l265 (Int.toNat k264) x268) (Int.toNat (IntKind.i64.wrap (k264 - 1))) x269), h, (Sub.cons rfl (Le.refl _) (Sub.cons rfl (Le.refl _) (Sub.cons rfl (Le.refl _) (Sub.cons rfl (Le.refl _) (Sub.cons rfl (Le.refl _) (Sub.cons rfl (Le.refl _) (Sub.cons rfl (Le.refl _) (Sub.nil _)))))))), ⟨⟨rfl, rfl, rfl, rfl⟩, trivial⟩⟩, Nat.lt_succ_self n⟩
      ·replace h := condF h hc8
       refine wc_exit ?_
       refine we_seq_exit ?_
       refine we_lp_exit ?_
       refine we_blk_hit ?_
       exact we_lp ⟨l265, h, (Sub.cons rfl (Le.refl _) (Sub.cons rfl (Le.refl _) (Sub.cons rfl (Le.refl _) (Sub.cons rfl (Le.refl _) (Sub.cons rfl (Le.refl _) (Sub.nil _)))))), ⟨⟨rfl, rfl, rfl, rfl⟩, trivial⟩⟩
     ·rintro env1 st1 ⟨l260, h, hsub, hst⟩
      subst hk261
      dsimp only at h
      refine WC.sub hsub (WC.weak hst ?_)
      refine wc_ret ?_
      refine we_lp_ret ?_
      obtain rfl := Option.some.inj h
      exact we_ret_winx ver (res0 rfl) (Le.tud trivial) rfl ⟨⟨rfl, rfl, rfl, rfl⟩, trivial⟩
   ·replace h := condF h hc5
    refine wc_skip ?_
    exact we_lp ⟨h, (Sub.cons rfl (Le.refl _) (Sub.cons rfl (Le.refl _) (Sub.cons rfl (Le.refl _) (Sub.cons rfl (Le.refl _) (Sub.cons rfl (Le.refl _) (Sub.nil _)))))), ⟨⟨rfl, rfl, rfl, rfl⟩, trivial⟩⟩
  ·rintro env1 st1 ⟨h, hsub, hst⟩
   subst hk249
   dsimp only at h
   refine WC.sub hsub (WC.weak hst ?_)
   refine wc_sr ?_
   refine WL.mv rfl rfl ?_
   refine WL.mv rfl rfl ?_
   refine WL.qn (y_add rfl rfl rfl) rfl ?_
   refine WL.qn (y_conv Try.underlying3 Try.underlying42 rfl rfl) rfl ?_
   refine WL.qn (y_shr rfl rfl (by decide)) rfl ?_
   refine WL.qn (y_conv Try.underlying42 Try.underlying3 rfl rfl) rfl ?_
   refine WL.as rfl rfl ?_
   refine WL.ns ?_
   refine wc_sr ?_
   refine WL.mv rfl rfl ?_
   refine WL.mv rfl rfl ?_
   refine WL.qn (y_add rfl rfl rfl) rfl ?_
   refine WL.as rfl rfl ?_
   refine WL.ns ?_
   refine wc_sr ?_
   refine WL.as rfl rfl ?_
   refine WL.as rfl rfl ?_
   refine WL.ns ?_
   replace h := letkS h
   obtain ⟨k274, hk274, h⟩ := h
   refine wc_cut (fun env' st' => ∃ (start272 : Int), ∃ (r273 : Int), k274 start272 r273 = some r ∧ Sub [(0, .os 0 ver), (1, .d (D.i .i64 a1)), (2, .d (D.i .i64 m2)), (3, .d (D.i .i64 b3)), (4, .fn (.func 37) [] []), (18, .d (D.i .i64 (IntKind.i64.wrap (Int.fdiv (IntKind.u64.wrap (IntKind.i64.wrap (a1 + b3))) (2 ^ min (Int.toNat 1) IntKind.u64.bits))))), (19, .d (D.i .i64 (IntKind.i64.wrap ((IntKind.i64.wrap (Int.fdiv (IntKind.u64.wrap (IntKind.i64.wrap (a1 + b3))) (2 ^ min (Int.toNat 1) IntKind.u64.bits))) + m2)))), (20, .d (D.i .i64 start272)), (21, .d (D.i .i64 r273))] env' ∧ SLe st' [.os 62 2 ver (List.map (encA R62) l0)]) ?_ ?_
   ·refine wc_sr ?_
    refine WL.mv rfl rfl ?_
    refine WL.mv rfl rfl ?_
    refine WL.qn (y_gtr rfl rfl) rfl ?_
    refine WL.ns ?_
    refine wc_cond rfl (fun hc9 => ?_) (fun hc9 => ?_)
    ·replace h := condT h hc9
     refine wc_sr ?_
     refine WL.mv rfl rfl ?_
     refine WL.mv rfl rfl ?_
     refine WL.qn (y_sub rfl rfl rfl) rfl ?_
     refine WL.as rfl rfl ?_
     refine WL.ns ?_
     refine wc_region ?_
     refine WL.mv rfl rfl ?_
     refine WL.as rfl rfl ?_
     refine WL.nil ?_
     exact we_lp ⟨(IntKind.i64.wrap ((IntKind.i64.wrap ((IntKind.i64.wrap (Int.fdiv (IntKind.u64.wrap (IntKind.i64.wrap (a1 + b3))) (2 ^ min (Int.toNat 1) IntKind.u64.bits))) + m2)) - b3)), (IntKind.i64.wrap (Int.fdiv (IntKind.u64.wrap (IntKind.i64.wrap (a1 + b3))) (2 ^ min (Int.toNat 1) IntKind.u64.bits))), h, (Sub.cons rfl (Le.refl _) (Sub.cons rfl (Le.refl _) (Sub.cons rfl (Le.refl _) (Sub.cons rfl (Le.refl _) (Sub.cons rfl (Le.refl _) (Sub.cons rfl (Le.refl _) (Sub.cons rfl (Le.refl _) (Sub.cons rfl (Le.refl _) (Sub.cons rfl (Le.refl _) (Sub.nil _)))))))))), ⟨⟨rfl, rfl, rfl, rfl⟩, trivial⟩⟩
    ·replace h := condF h hc9
     refine wc_sr ?_
     refine WL.mv rfl rfl ?_
     refine WL.as rfl rfl ?_
     refine WL.ns ?_
     refine wc_region ?_
     refine WL.mv rfl rfl ?_
     refine WL.as rfl rfl ?_
     refine WL.nil ?_
     exact we_lp ⟨a1, m2, h, (Sub.cons rfl (Le.refl _) (Sub.cons rfl (Le.refl _) (Sub.cons rfl (Le.refl _) (Sub.cons rfl (Le.refl _) (Sub.cons rfl (Le.refl _) (Sub.cons rfl (Le.refl _) (Sub.cons rfl (Le.refl _) (Sub.cons rfl (Le.refl _) (Sub.cons rfl (Le.refl _) (Sub.nil _)))))))))), ⟨⟨rfl, rfl, rfl, rfl⟩, trivial⟩⟩
   ·rintro env1 st1 ⟨start272, r273, h, hsub, hst⟩
    subst hk274
    dsimp only at h
    refine WC.sub hsub (WC.weak hst ?_)
    refine wc_sr ?_
    refine WL.mv rfl rfl ?_
    refine WL.qn (y_sub rfl rfl rfl) rfl ?_
    refine WL.as rfl rfl ?_
    refine WL.ns ?_
    replace h := letkS h
    obtain ⟨k276, hk276, h⟩ := h
    refine wc_cut (fun env' st' => ∃ (start275 : Int), k276 start275 = some r ∧ Sub [(0, .os 0 ver), (1, .d (D.i .i64 a1)), (2, .d (D.i .i64 m2)), (3, .d (D.i .i64 b3)), (4, .fn (.func 37) [] []), (18, .d (D.i .i64 (IntKind.i64.wrap (Int.fdiv (IntKind.u64.wrap (IntKind.i64.wrap (a1 + b3))) (2 ^ min (Int.toNat 1) IntKind.u64.bits))))), (19, .d (D.i .i64 (IntKind.i64.wrap ((IntKind.i64.wrap (Int.fdiv (IntKind.u64.wrap (IntKind.i64.wrap (a1 + b3))) (2 ^ min (Int.toNat 1) IntKind.u64.bits))) + m2)))), (20, .d (D.i .i64 start275))] env' ∧ SLe st' [.os 62 2 ver (List.map (encA R62) l0)]) ?_ ?_
    ·refine wc_block ?_
     refine wc_loop (fun n env' st' => ∃ (start279 : Int), ∃ (r280 : Int), f79s_l5 l0 a1 m2 b3 k276 n start279 r280 = some r ∧ Sub [(0, .os 0 ver), (1, .d (D.i .i64 a1)), (2, .d (D.i .i64 m2)), (3, .d (D.i .i64 b3)), (4, .fn (.func 37) [] []), (18, .d (D.i .i64 (IntKind.i64.wrap (Int.fdiv (IntKind.u64.wrap (IntKind.i64.wrap (a1 + b3))) (2 ^ min (Int.toNat 1) IntKind.u64.bits))))), (19, .d (D.i .i64 (IntKind.i64.wrap ((IntKind.i64.wrap (Int.fdiv (IntKind.u64.wrap (IntKind.i64.wrap (a1 + b3))) (2 ^ min (Int.toNat 1) IntKind.u64.bits))) + m2)))), (20, .d (D.i .i64 start279)), (21, .d (D.i .i64 r280)), (22, .d (D.i .i64 (IntKind.i64.wrap ((IntKind.i64.wrap ((IntKind.i64.wrap (Int.fdiv (IntKind.u64.wrap (IntKind.i64.wrap (a1 + b3))) (2 ^ min (Int.toNat 1) IntKind.u64.bits))) + m2)) - 1))))] env' ∧ SLe st' [.os 62 2 ver (List.map (encA R62) l0)]) (fun n => n) 9223372036854775808 ⟨start272, r273, h, (Sub.cons rfl (Le.refl _) (Sub.cons rfl (Le.refl _) (Sub.cons rfl (Le.refl _) (Sub.cons rfl (Le.refl _) (Sub.cons rfl (Le.refl _) (Sub.cons rfl (Le.refl _) (Sub.cons rfl (Le.refl _) (Sub.cons rfl (Le.refl _) (Sub.cons rfl (Le.refl _) (Sub.cons rfl (Le.refl _) (Sub.nil _))))))))))), ⟨⟨rfl, rfl, rfl, rfl⟩, trivial⟩⟩ ?_
     rintro n env1 st1 ⟨start279, r280, h, hsub, hst⟩
     cases n with
     | zero => rw [f79s_l5] at h; cases h
     | succ n =>
     rw [f79s_l5] at h
     refine WC.sub hsub (WC.weak hst ?_)
     refine wc_seq ?_
     refine wc_sr ?_
     refine WL.mv rfl rfl ?_
     refine WL.mv rfl rfl ?_
     refine WL.qn (y_lss rfl rfl) rfl ?_
     refine WL.ns ?_
     refine wc_cond rfl (fun hc10 => ?_) (fun hc10 => ?_)
     ·replace h := condT h hc10
      refine wc_skip ?_
      refine we_seq ?_
      refine wc_block ?_
      refine wc_sr ?_
      refine WL.mv rfl rfl ?_
      refine WL.mv rfl rfl ?_
      refine WL.qn (y_add rfl rfl rfl) rfl ?_
      refine WL.qn (y_conv Try.underlying3 Try.underlying42 rfl rfl) rfl ?_
      refine WL.qn (y_shr rfl rfl (by decide)) rfl ?_
      refine WL.qn (y_conv Try.underlying42 Try.underlying3 rfl rfl) rfl ?_
      refine WL.as rfl rfl ?_
      refine WL.ns ?_
      refine wc_seq ?_
      refine wc_region_draw (by kernel_rfl) (by kernel_rfl) ?_
      refine WQ.qn (y_move rfl) rfl ?_
      refine WQ.qn (y_move rfl) rfl ?_
      refine WQ.qn (y_move rfl) rfl ?_
      refine WQ.qn (y_move rfl) rfl ?_
      refine WQ.qn (y_sub rfl rfl rfl) rfl ?_
      obtain ⟨x283, hx283, h⟩ := bindS h
      refine WQ.qn (y_pe e24 rfl rfl rfl hx283) rfl ?_
      refine WQ.qn (y_load_peLN (fo := 0) rfl rfl rfl a62 s62 (fun _ => rfl) hx283 rfl rfl) rfl ?_
      refine WQ.qn (y_move rfl) rfl ?_
      refine WQ.qn (y_move rfl) rfl ?_
      obtain ⟨x284, hx284, h⟩ := bindS h
      refine WQ.qn (y_pe e24 rfl rfl rfl hx284) rfl ?_
      refine WQ.qn (y_load_peLN (fo := 0) rfl rfl rfl a62 s62 (fun _ => rfl) hx284 rfl rfl) rfl ?_
      refine WQ.q (YieldsQ.fn rfl rfl rfl rfl rfl (f37_c _ _) ⟨(Le.agd ⟨(Le.refl _), (Le.refl _), trivial⟩), (Le.agd ⟨(Le.refl _), (Le.refl _), trivial⟩), trivial⟩) (Wt.none rfl) rfl rfl ?_
      refine WQ.qn (y_lss rfl rfl) rfl ?_
      refine WQ.qn (y_not rfl) rfl ?_
      refine WQ.nil ?_
      refine we_seq ?_
      refine wc_cond rfl (fun hc11 => ?_) (fun hc11 => ?_)
      ·replace h := condT h hc11
       refine wc_region ?_
       refine WL.mv rfl rfl ?_
       refine WL.qn (y_add rfl rfl rfl) rfl ?_
       refine WL.as rfl rfl ?_
       refine WL.nil ?_
       refine we_blk ?_
       exact we_lp ⟨n, ⟨(IntKind.i64.wrap ((IntKind.i64.wrap (Int.fdiv (IntKind.u64.wrap (IntKind.i64.wrap (start279 + r280))) (2 ^ min (Int.toNat 1) IntKind.u64.bits))) + 1)), r280, h, (Sub.cons rfl (Le.refl _) (Sub.cons rfl (Le.refl _) (Sub.cons rfl (Le.refl _) (Sub.cons rfl (Le.refl _) (Sub.cons rfl (Le.refl _) (Sub.cons rfl (Le.refl _) (Sub.cons rfl (Le.refl _) (Sub.cons rfl (Le.refl _) (Sub.cons rfl (Le.refl _) (Sub.cons rfl (Le.refl _) (Sub.nil _))))))))))), ⟨⟨rfl, rfl, rfl, rfl⟩, trivial⟩⟩, Nat.lt_succ_self n⟩
      ·replace h := condF h hc11
       refine wc_region ?_
       refine WL.mv rfl rfl ?_
       refine WL.as rfl rfl ?_
       refine WL.nil ?_
       refine we_blk ?_
       exact we_lp ⟨n, ⟨start279, (IntKind.i64.wrap (Int.fdiv (IntKind.u64.wrap (IntKind.i64.wrap (start279 + r280))) (2 ^ min (Int.toNat 1) IntKind.u64.bits))), h, (Sub.cons rfl (Le.refl _) (Sub.cons rfl (Le.refl _) (Sub.cons rfl (Le.refl _) (Sub.cons rfl (Le.refl _) (Sub.cons rfl (Le.refl _) (Sub.cons rfl (Le.refl _) (Sub.cons rfl (Le.refl _) (Sub.cons rfl (Le.refl _) (Sub.cons rfl (Le.refl _) (Sub.cons rfl (Le.refl _) (Sub.nil _))))))))))), ⟨⟨rfl, rfl, rfl, rfl⟩, trivial⟩⟩, Nat.lt_succ_self n⟩
     ·replace h := condF h hc10
      refine wc_exit ?_
      refine we_seq_exit ?_
      refine we_lp_exit ?_
      refine we_blk_hit ?_
      exact we_lp ⟨start279, h, (Sub.cons rfl (Le.refl _) (Sub.cons rfl (Le.refl _) (Sub.cons rfl (Le.refl _) (Sub.cons rfl (Le.refl _) (Sub.cons rfl (Le.refl _) (Sub.cons rfl (Le.refl _) (Sub.cons rfl (Le.refl _) (Sub.cons rfl (Le.refl _) (Sub.nil _))))))))), ⟨⟨rfl, rfl, rfl, rfl⟩, trivial⟩⟩
    ·rintro env1 st1 ⟨start275, h, hsub, hst⟩
     subst hk276
     dsimp only at h
     refine WC.sub hsub (WC.weak hst ?_)
     refine wc_sr ?_
     refine WL.mv rfl rfl ?_
     refine WL.mv rfl rfl ?_
     refine WL.qn (y_sub rfl rfl rfl) rfl ?_
     refine WL.as rfl rfl ?_
     refine WL.ns ?_
     replace h := letkS h
     obtain ⟨k286, hk286, h⟩ := h
     refine wc_cut (fun env' st' => ∃ (l285 : List Due), k286 l285 = some r ∧ Sub [(0, .os 0 ver), (1, .d (D.i .i64 a1)), (3, .d (D.i .i64 b3)), (4, .fn (.func 37) [] []), (18, .d (D.i .i64 (IntKind.i64.wrap (Int.fdiv (IntKind.u64.wrap (IntKind.i64.wrap (a1 + b3))) (2 ^ min (Int.toNat 1) IntKind.u64.bits))))), (20, .d (D.i .i64 start275)), (24, .d (D.i .i64 (IntKind.i64.wrap ((IntKind.i64.wrap ((IntKind.i64.wrap (Int.fdiv (IntKind.u64.wrap (IntKind.i64.wrap (a1 + b3))) (2 ^ min (Int.toNat 1) IntKind.u64.bits))) + m2)) - start275))))] env' ∧ SLe st' [.os 62 2 ver (List.map (encA R62) l285)]) ?_ ?_
     ·refine wc_sr ?_
      refine WL.mv rfl rfl ?_
      refine WL.mv rfl rfl ?_
      refine WL.qn (y_lss rfl rfl) rfl ?_
      refine WL.mv rfl rfl ?_
      apply WL.and 4 (t := 181) (d := 185)
      ·exact rfl
      ·intro hg181
       refine WL.qy (y_move rfl) rfl rfl rfl ?_
       refine WL.qy (y_move rfl) rfl rfl rfl ?_
       refine WL.qy (y_lss rfl rfl) rfl rfl rfl ?_
       refine WL.qn (y_pick_t rfl rfl) rfl ?_
       exact WL.nil ⟨rfl, [_, _, _, _], rfl, rfl, rfl⟩
      ·refine WL.skips 3 rfl ?_
       refine WL.qn (y_pick_f rfl rfl) rfl ?_
       exact WL.nil ⟨rfl, [_, _, _, _], rfl, rfl, rfl⟩
      refine WL.ns ?_
      refine wc_cond rfl (fun hc12 => ?_) (fun hc12 => ?_)
      ·replace h := condT h hc12
       refine wc_region ?_
       refine WL.mv rfl rfl ?_
       refine WL.mv rfl rfl ?_
       refine WL.mv rfl rfl ?_
       refine WL.mv rfl rfl ?_
       refine WL.mv rfl rfl ?_
       obtain ⟨r287, hr287, h⟩ := bindS h
       refine WL.winy [0] rfl rfl rfl rfl (f83_c _ _ _ _ hr287) ⟨Le.refl _, (Le.refl _), (Le.refl _), (Le.refl _), Le.refl _, trivial⟩ rfl (by decide) (cons_eq (ren_os _ _ _ _ _ _) rfl) ⟨rfl, trivial⟩ (stLt_cons (lt_os _ _ _ _ _ _) rfl) rfl (fun _ => (stLt_cons (lt_os _ _ _ _ _ _) rfl)) (fun _ => (cons_eq (ren_os _ _ _ _ _ _) rfl)) (Wt.none rfl) rfl rfl (fun ver287 => ?_)
       refine WL.nil ?_
       exact we_lp ⟨r287, h, (Sub.cons rfl (Le.refl _) (Sub.cons rfl (Le.refl _) (Sub.cons rfl (Le.refl _) (Sub.cons rfl (Le.refl _) (Sub.cons rfl (Le.refl _) (Sub.cons rfl (Le.refl _) (Sub.cons rfl (Le.refl _) (Sub.nil _)))))))), ⟨⟨rfl, rfl, rfl, rfl⟩, trivial⟩⟩
      ·replace h := condF h hc12
       refine wc_skip ?_
       exact we_lp ⟨l0, h, (Sub.cons rfl (Le.refl _) (Sub.cons rfl (Le.refl _) (Sub.cons rfl (Le.refl _) (Sub.cons rfl (Le.refl _) (Sub.cons rfl (Le.refl _) (Sub.cons rfl (Le.refl _) (Sub.cons rfl (Le.refl _) (Sub.nil _)))))))), ⟨⟨rfl, rfl, rfl, rfl⟩, trivial⟩⟩
     ·rintro env1 st1 ⟨l285, h, hsub, hst⟩
      subst hk286
      dsimp only at h
      refine WC.sub hsub (WC.weak hst ?_)
      replace h := letkS h
      obtain ⟨k289, hk289, h⟩ := h
      refine wc_cut (fun env' st' => ∃ (l288 : List Due), k289 l288 = some r ∧ Sub [(0, .os 0 ver), (3, .d (D.i .i64 b3)), (4, .fn (.func 37) [] []), (18, .d (D.i .i64 (IntKind.i64.wrap (Int.fdiv (IntKind.u64.wrap (IntKind.i64.wrap (a1 + b3))) (2 ^ min (Int.toNat 1) IntKind.u64.bits))))), (24, .d (D.i .i64 (IntKind.i64.wrap ((IntKind.i64.wrap ((IntKind.i64.wrap (Int.fdiv (IntKind.u64.wrap (IntKind.i64.wrap (a1 + b3))) (2 ^ min (Int.toNat 1) IntKind.u64.bits))) + m2)) - start275))))] env' ∧ SLe st' [.os 62 2 ver (List.map (encA R62) l288)]) ?_ ?_
      ·refine wc_sr ?_
       refine WL.mv rfl rfl ?_
       refine WL.mv rfl rfl ?_
       refine WL.qn (y_lss rfl rfl) rfl ?_
       refine WL.mv rfl rfl ?_
       apply WL.and 4 (t := 195) (d := 199)
       ·exact rfl
       ·intro hg195
        refine WL.qy (y_move rfl) rfl rfl rfl ?_
        refine WL.qy (y_move rfl) rfl rfl rfl ?_
        refine WL.qy (y_lss rfl rfl) rfl rfl rfl ?_
        refine WL.qn (y_pick_t rfl rfl) rfl ?_
        exact WL.nil ⟨rfl, [_, _, _, _], rfl, rfl, rfl⟩
       ·refine WL.skips 3 rfl ?_
        refine WL.qn (y_pick_f rfl rfl) rfl ?_
        exact WL.nil ⟨rfl, [_, _, _, _], rfl, rfl, rfl⟩
       refine WL.ns ?_
       refine wc_cond rfl (fun hc13 => ?_) (fun hc13 => ?_)
       ·replace h := condT h hc13
        refine wc_region ?_
        refine WL.mv rfl rfl ?_
        refine WL.mv rfl rfl ?_
        refine WL.mv rfl rfl ?_
        refine WL.mv rfl rfl ?_
        refine WL.mv rfl rfl ?_
        obtain ⟨r290, hr290, h⟩ := bindS h
        refine WL.winy [0] rfl rfl rfl rfl (hrec79 _ _ _ _ _ hr290) ⟨Le.refl _, (Le.refl _), (Le.refl _), (Le.refl _), Le.refl _, trivial⟩ rfl (by decide) (cons_eq (ren_os _ _ _ _ _ _) rfl) ⟨rfl, trivial⟩ (stLt_cons (lt_os _ _ _ _ _ _) rfl) rfl (fun _ => (stLt_cons (lt_os _ _ _ _ _ _) rfl)) (fun _ => (cons_eq (ren_os _ _ _ _ _ _) rfl)) (Wt.none rfl) rfl rfl (fun ver290 => ?_)
        refine WL.nil ?_
        exact we_lp ⟨r290, h, (Sub.cons rfl (Le.refl _) (Sub.cons rfl (Le.refl _) (Sub.cons rfl (Le.refl _) (Sub.cons rfl (Le.refl _) (Sub.cons rfl (Le.refl _) (Sub.nil _)))))), ⟨⟨rfl, rfl, rfl, rfl⟩, trivial⟩⟩
       ·replace h := condF h hc13
        refine wc_skip ?_
        exact we_lp ⟨l285, h, (Sub.cons rfl (Le.refl _) (Sub.cons rfl (Le.refl _) (Sub.cons rfl (Le.refl _) (Sub.cons rfl (Le.refl _) (Sub.cons rfl (Le.refl _) (Sub.nil _)))))), ⟨⟨rfl, rfl, rfl, rfl⟩, trivial⟩⟩
      ·rintro env1 st1 ⟨l288, h, hsub, hst⟩
       subst hk289
       dsimp only at h
       refine WC.sub hsub (WC.weak hst ?_)
       refine wc_sr ?_
       refine WL.mv rfl rfl ?_
       refine WL.mv rfl rfl ?_
       refine WL.qn (y_lss rfl rfl) rfl ?_
       refine WL.mv rfl rfl ?_
       apply WL.and 4 (t := 209) (d := 213)
       ·exact rfl
       ·intro hg209
        refine WL.qy (y_move rfl) rfl rfl rfl ?_
        refine WL.qy (y_move rfl) rfl rfl rfl ?_
        refine WL.qy (y_lss rfl rfl) rfl rfl rfl ?_
        refine WL.qn (y_pick_t rfl rfl) rfl ?_
        exact WL.nil ⟨rfl, [_, _, _, _], rfl, rfl, rfl⟩
       ·refine WL.skips 3 rfl ?_
        refine WL.qn (y_pick_f rfl rfl) rfl ?_
        exact WL.nil ⟨rfl, [_, _, _, _], rfl, rfl, rfl⟩
       refine WL.ns ?_
       refine wc_cond rfl (fun hc14 => ?_) (fun hc14 => ?_)
       ·replace h := condT h hc14
        refine wc_region ?_
        refine WL.mv rfl rfl ?_
        refine WL.mv rfl rfl ?_
        refine WL.mv rfl rfl ?_
        refine WL.mv rfl rfl ?_
        refine WL.mv rfl rfl ?_
        obtain ⟨r291, hr291, h⟩ := bindS h
        refine WL.winy [0] rfl rfl rfl rfl (hrec79 _ _ _ _ _ hr291) ⟨Le.refl _, (Le.refl _), (Le.refl _), (Le.refl _), Le.refl _, trivial⟩ rfl (by decide) (cons_eq (ren_os _ _ _ _ _ _) rfl) ⟨rfl, trivial⟩ (stLt_cons (lt_os _ _ _ _ _ _) rfl) rfl (fun _ => (stLt_cons (lt_os _ _ _ _ _ _) rfl)) (fun _ => (cons_eq (ren_os _ _ _ _ _ _) rfl)) (Wt.none rfl) rfl rfl (fun ver291 => ?_)
        refine WL.nil ?_
        refine we_end ?_
        obtain rfl := Option.some.inj h
        exact we_ret_winx ver (res0 rfl) (Le.tud trivial) rfl ⟨⟨rfl, rfl, rfl, rfl⟩, trivial⟩
       ·replace h := condF h hc14
        refine wc_skip ?_
        refine we_end ?_
        obtain rfl := Option.some.inj h
        exact we_ret_winx ver (res0 rfl) (Le.tud trivial) rfl ⟨⟨rfl, rfl, rfl, rfl⟩, trivial⟩

theorem f79_c : ∀ (n : Nat) {ver : Nat} (l0 : List Due) (x1 : Int) (x2 : Int) (x3 : Int) {r : List Due}, f79 n l0 x1 x2 x3 = some r → Ctr Try.prog 79 [.os 0 ver, .d (D.i .i64 x1), .d (D.i .i64 x2), .d (D.i .i64 x3), .fn (.func 37) [] []] [.os 62 2 ver (List.map (encA R62) l0)] (WinX 1 (.tu []) (fun iv => [.os 62 2 ver (List.map (encA R62) r)]))
 | 0, _, _, _, _, _, _, h => by cases h
 | n + 1, _, l0, x1, x2, x3, _, h => f79s_c (f79 n) l0 x1 x2 x3 (fun l0 x1 x2 x3 _ h => f79_c n l0 x1 x2 x3 h) h

theorem f68_c (l0 : List Due) (n1 : Int) {ver : Nat} {r : List Due} (h : f68 l0 n1 = some r) : Ctr Try.prog 68 [.os 0 ver, .d (D.i .i64 n1), .fn (.func 37) [] []] [.os 62 2 ver (List.map (encA R62) l0)] (WinX 1 (.tu []) (fun iv => [.os 62 2 ver (List.map (encA R62) r)])) := by
 unfold f68 at h
 refine ctr_intro Try.func68 (by kernel_rfl) rfl rfl rfl (fun mm φφ ww hmm => ?_)
 refine wc_sr ?_
 refine WL.as rfl rfl ?_
 refine WL.ns ?_
 refine wc_sr ?_
 refine WL.mv rfl rfl ?_
 refine WL.as rfl rfl ?_
 refine WL.as rfl rfl ?_
 refine WL.ns ?_
 replace h := letkS h
 obtain ⟨k69, hk69, h⟩ := h
 refine wc_cut (fun env' st' => ∃ (a67 : Int), ∃ (l68 : List Due), k69 a67 l68 = some r ∧ Sub [(0, .os 0 ver), (1, .d (D.i .i64 n1)), (2, .fn (.func 37) [] []), (6, .d (D.i .i64 20)), (7, .d (D.i .i64 a67))] env' ∧ SLe st' [.os 62 2 ver (List.map (encA R62) l68)]) ?_ ?_
 ·refine wc_block ?_
  refine wc_loop (fun n env' st' => ∃ (a73 : Int), ∃ (b74 : Int), ∃ (l75 : List Due), f68_l1 n1 k69 n a73 b74 l75 = some r ∧ Sub [(0, .os 0 ver), (1, .d (D.i .i64 n1)), (2, .fn (.func 37) [] []), (6, .d (D.i .i64 20)), (7, .d (D.i .i64 a73)), (8, .d (D.i .i64 b74))] env' ∧ SLe st' [.os 62 2 ver (List.map (encA R62) l75)]) (fun n => n) 9223372036854775808 ⟨0, 20, l0, h, (Sub.cons rfl (Le.refl _) (Sub.cons rfl (Le.refl _) (Sub.cons rfl (Le.refl _) (Sub.cons rfl (Le.refl _) (Sub.cons rfl (Le.refl _) (Sub.cons rfl (Le.refl _) (Sub.nil _))))))), ⟨⟨rfl, rfl, rfl, rfl⟩, trivial⟩⟩ ?_
  rintro n env1 st1 ⟨a73, b74, l75, h, hsub, hst⟩
  cases n with
  | zero => rw [f68_l1] at h; cases h
  | succ n =>
  rw [f68_l1] at h
  refine WC.sub hsub (WC.weak hst ?_)
  refine wc_seq ?_
  refine wc_sr ?_
  refine WL.mv rfl rfl ?_
  refine WL.mv rfl rfl ?_
  refine WL.qn (y_leq rfl rfl) rfl ?_
  refine WL.ns ?_
  refine wc_cond rfl (fun hc1 => ?_) (fun hc1 => ?_)
  ·replace h := condT h hc1
   refine wc_skip ?_
   refine we_seq ?_
   refine wc_block ?_
   refine wc_sr ?_
   refine WL.mv rfl rfl ?_
   refine WL.mv rfl rfl ?_
   refine WL.mv rfl rfl ?_
   refine WL.mv rfl rfl ?_
   obtain ⟨r79, hr79, h⟩ := bindS h
   refine WL.winy [0] rfl rfl rfl rfl (f78_c _ _ _ hr79) ⟨Le.refl _, (Le.refl _), (Le.refl _), Le.refl _, trivial⟩ rfl (by decide) (cons_eq (ren_os _ _ _ _ _ _) rfl) ⟨rfl, trivial⟩ (stLt_cons (lt_os _ _ _ _ _ _) rfl) rfl (fun _ => (stLt_cons (lt_os _ _ _ _ _ _) rfl)) (fun _ => (cons_eq (ren_os _ _ _ _ _ _) rfl)) (Wt.none rfl) rfl rfl (fun ver79 => ?_)
   refine WL.ns ?_
   refine wc_sr ?_
   refine WL.mv rfl rfl ?_
   refine WL.as rfl rfl ?_
   refine WL.ns ?_
   refine wc_region ?_
   refine WL.mv rfl rfl ?_
   refine WL.mv rfl rfl ?_
   refine WL.qn (y_add rfl rfl rfl) rfl ?_
   refine WL.as rfl rfl ?_
   refine WL.nil ?_
   refine we_blk ?_
   exact we_lp ⟨n, ⟨b74, (IntKind.i64.wrap (b74 + 20)), r79, h, (Sub.cons rfl (Le.refl _) (Sub.cons rfl (Le.refl _) (Sub.cons rfl (Le.refl _) (Sub.cons rfl (Le.refl _) (Sub.cons rfl (Le.refl _) (Sub.cons rfl (Le.refl _) (Sub.nil _))))))), ⟨⟨rfl, rfl, rfl, rfl⟩, trivial⟩⟩, Nat.lt_succ_self n⟩
  ·replace h := condF h hc1
   refine wc_exit ?_
   refine we_seq_exit ?_
   refine we_lp_exit ?_
   refine we_blk_hit ?_
   exact we_lp ⟨a73, l75, h, (Sub.cons rfl (Le.refl _) (Sub.cons rfl (Le.refl _) (Sub.cons rfl (Le.refl _) (Sub.cons rfl (Le.refl _) (Sub.cons rfl (Le.refl _) (Sub.nil _)))))), ⟨⟨rfl, rfl, rfl, rfl⟩, trivial⟩⟩
 ·rintro env1 st1 ⟨a67, l68, h, hsub, hst⟩
  subst hk69
  dsimp only at h
  refine WC.sub hsub (WC.weak hst ?_)
  refine wc_sr ?_
  refine WL.mv rfl rfl ?_
  refine WL.mv rfl rfl ?_
  refine WL.mv rfl rfl ?_
  refine WL.mv rfl rfl ?_
  obtain ⟨r80, hr80, h⟩ := bindS h
  refine WL.winy [0] rfl rfl rfl rfl (f78_c _ _ _ hr80) ⟨Le.refl _, (Le.refl _), (Le.refl _), Le.refl _, trivial⟩ rfl (by decide) (cons_eq (ren_os _ _ _ _ _ _) rfl) ⟨rfl, trivial⟩ (stLt_cons (lt_os _ _ _ _ _ _) rfl) rfl (fun _ => (stLt_cons (lt_os _ _ _ _ _ _) rfl)) (fun _ => (cons_eq (ren_os _ _ _ _ _ _) rfl)) (Wt.none rfl) rfl rfl (fun ver80 => ?_)
  refine WL.ns ?_
  refine wc_block ?_
  refine wc_loop (fun n env' st' => ∃ (blockSize83 : Int), ∃ (l84 : List Due), f68_l2 n1 n blockSize83 l84 = some r ∧ Sub [(0, .os 0 ver), (1, .d (D.i .i64 n1)), (2, .fn (.func 37) [] []), (6, .d (D.i .i64 blockSize83))] env' ∧ SLe st' [.os 62 2 ver (List.map (encA R62) l84)]) (fun n => n) 9223372036854775808 ⟨20, r80, h, (Sub.cons rfl (Le.refl _) (Sub.cons rfl (Le.refl _) (Sub.cons rfl (Le.refl _) (Sub.cons rfl (Le.refl _) (Sub.nil _))))), ⟨⟨rfl, rfl, rfl, rfl⟩, trivial⟩⟩ ?_
  rintro n env1 st1 ⟨blockSize83, l84, h, hsub, hst⟩
  cases n with
  | zero => rw [f68_l2] at h; cases h
  | succ n =>
  rw [f68_l2] at h
  refine WC.sub hsub (WC.weak hst ?_)
  refine wc_seq ?_
  refine wc_sr ?_
  refine WL.mv rfl rfl ?_
  refine WL.mv rfl rfl ?_
  refine WL.qn (y_lss rfl rfl) rfl ?_
  refine WL.ns ?_
  refine wc_cond rfl (fun hc2 => ?_) (fun hc2 => ?_)
  ·replace h := condT h hc2
   refine wc_skip ?_
   refine we_seq ?_
   refine wc_block ?_
   refine wc_sr ?_
   refine WL.mv rfl rfl ?_
   refine WL.qn (y_mul rfl rfl rfl) rfl ?_
   refine WL.as rfl rfl ?_
   refine WL.as rfl rfl ?_
   refine WL.ns ?_
   replace h := letkS h
   obtain ⟨k89, hk89, h⟩ := h
   refine wc_cut (fun env' st' => ∃ (a87 : Int), ∃ (l88 : List Due), k89 a87 l88 = some r ∧ Sub [(0, .os 0 ver), (1, .d (D.i .i64 n1)), (2, .fn (.func 37) [] []), (6, .d (D.i .i64 blockSize83)), (7, .d (D.i .i64 a87))] env' ∧ SLe st' [.os 62 2 ver (List.map (encA R62) l88)]) ?_ ?_
   ·refine wc_block ?_
    refine wc_loop (fun na env' st' => ∃ (a93 : Int), ∃ (b94 : Int), ∃ (l95 : List Due), f68_l3 n1 blockSize83 k89 na a93 b94 l95 = some r ∧ Sub [(0, .os 0 ver), (1, .d (D.i .i64 n1)), (2, .fn (.func 37) [] []), (6, .d (D.i .i64 blockSize83)), (7, .d (D.i .i64 a93)), (8, .d (D.i .i64 b94))] env' ∧ SLe st' [.os 62 2 ver (List.map (encA R62) l95)]) (fun n => n) 9223372036854775808 ⟨0, (IntKind.i64.wrap (2 * blockSize83)), l84, h, (Sub.cons rfl (Le.refl _) (Sub.cons rfl (Le.refl _) (Sub.cons rfl (Le.refl _) (Sub.cons rfl (Le.refl _) (Sub.cons rfl (Le.refl _) (Sub.cons rfl (Le.refl _) (Sub.nil _))))))), ⟨⟨rfl, rfl, rfl, rfl⟩, trivial⟩⟩ ?_
    rintro na env1 st1 ⟨a93, b94, l95, h, hsub, hst⟩
    cases na with
    | zero => rw [f68_l3] at h; cases h
    | succ na =>
    rw [f68_l3] at h
    refine WC.sub hsub (WC.weak hst ?_)
    refine wc_seq ?_
    refine wc_sr ?_
    refine WL.mv rfl rfl ?_
    refine WL.mv rfl rfl ?_
    refine WL.qn (y_leq rfl rfl) rfl ?_
    refine WL.ns ?_
    refine wc_cond rfl (fun hc3 => ?_) (fun hc3 => ?_)
    ·replace h := condT h hc3
     refine wc_skip ?_
     refine we_seq ?_
     refine wc_block ?_
     refine wc_sr ?_
     refine WL.mv rfl rfl ?_
     refine WL.mv rfl rfl ?_
     refine WL.mv rfl rfl ?_
     refine WL.mv rfl rfl ?_
     refine WL.qn (y_add rfl rfl rfl) rfl ?_
     refine WL.mv rfl rfl ?_
     refine WL.mv rfl rfl ?_
     obtain ⟨r99, hr99, h⟩ := bindS h
     refine WL.winy [0] rfl rfl rfl rfl (f79_c 64 _ _ _ _ hr99) ⟨Le.refl _, (Le.refl _), (Le.refl _), (Le.refl _), Le.refl _, trivial⟩ rfl (by decide) (cons_eq (ren_os _ _ _ _ _ _) rfl) ⟨rfl, trivial⟩ (stLt_cons (lt_os _ _ _ _ _ _) rfl) rfl (fun _ => (stLt_cons (lt_os _ _ _ _ _ _) rfl)) (fun _ => (cons_eq (ren_os _ _ _ _ _ _) rfl)) (Wt.none rfl) rfl rfl (fun ver99 => ?_)
     refine WL.ns ?_
     refine wc_sr ?_
     refine WL.mv rfl rfl ?_
     refine WL.as rfl rfl ?_
     refine WL.ns ?_
     refine wc_region ?_
     refine WL.mv rfl rfl ?_
     refine WL.mv rfl rfl ?_
     refine WL.qn (y_mul rfl rfl rfl) rfl ?_
     refine WL.qn (y_add rfl rfl rfl) rfl ?_
     refine WL.as rfl rfl ?_
     refine WL.nil ?_
     refine we_blk ?_
     exact we_lp ⟨na, ⟨b94, (IntKind.i64.wrap (b94 + (IntKind.i64.wrap (2 * blockSize83)))), r99, h, (Sub.cons rfl (Le.refl _) (Sub.cons rfl (Le.refl _) (Sub.cons rfl (Le.refl _) (Sub.cons rfl (Le.refl _) (Sub.cons rfl (Le.refl _) (Sub.cons rfl (Le.refl _) (Sub.nil _))))))), ⟨⟨rfl, rfl, rfl, rfl⟩, trivial⟩⟩, Nat.lt_succ_self na⟩
    ·replace h := condF h hc3
     refine wc_exit ?_
     refine we_seq_exit ?_
     refine we_lp_exit ?_
     refine we_blk_hit ?_
     exact we_lp ⟨a93, l95, h, (Sub.cons rfl (Le.refl _) (Sub.cons rfl (Le.refl _) (Sub.cons rfl (Le.refl _) (Sub.cons rfl (Le.refl _) (Sub.cons rfl (Le.refl _) (Sub.nil _)))))), ⟨⟨rfl, rfl, rfl, rfl⟩, trivial⟩⟩
   ·rintro env1 st1 ⟨a87, l88, h, hsub, hst⟩
    subst hk89
    dsimp only at h
    refine WC.sub hsub (WC.weak hst ?_)
    replace h := letkS h
    obtain ⟨k101, hk101, h⟩ := h
    refine wc_cut (fun env' st' => ∃ (l100 : List Due), k101 l100 = some r ∧ Sub [(0, .os 0 ver), (1, .d (D.i .i64 n1)), (2, .fn (.func 37) [] []), (6, .d (D.i .i64 blockSize83))] env' ∧ SLe st' [.os 62 2 ver (List.map (encA R62) l100)]) ?_ ?_
    ·refine wc_sr ?_
     refine WL.mv rfl rfl ?_
     refine WL.mv rfl rfl ?_
     refine WL.qn (y_add rfl rfl rfl) rfl ?_
     refine WL.as rfl rfl ?_
     refine WL.ns ?_
     refine wc_sr ?_
     refine WL.mv rfl rfl ?_
     refine WL.mv rfl rfl ?_
     refine WL.qn (y_lss rfl rfl) rfl ?_
     refine WL.ns ?_
     refine wc_cond rfl (fun hc4 => ?_) (fun hc4 => ?_)
     ·replace h := condT h hc4
      refine wc_region ?_
      refine WL.mv rfl rfl ?_
      refine WL.mv rfl rfl ?_
      refine WL.mv rfl rfl ?_
      refine WL.mv rfl rfl ?_
      refine WL.mv rfl rfl ?_
      obtain ⟨r102, hr102, h⟩ := bindS h
      refine WL.winy [0] rfl rfl rfl rfl (f79_c 64 _ _ _ _ hr102) ⟨Le.refl _, (Le.refl _), (Le.refl _), (Le.refl _), Le.refl _, trivial⟩ rfl (by decide) (cons_eq (ren_os _ _ _ _ _ _) rfl) ⟨rfl, trivial⟩ (stLt_cons (lt_os _ _ _ _ _ _) rfl) rfl (fun _ => (stLt_cons (lt_os _ _ _ _ _ _) rfl)) (fun _ => (cons_eq (ren_os _ _ _ _ _ _) rfl)) (Wt.none rfl) rfl rfl (fun ver102 => ?_)
      refine WL.nil ?_
      exact we_lp ⟨r102, h, (Sub.cons rfl (Le.refl _) (Sub.cons rfl (Le.refl _) (Sub.cons rfl (Le.refl _) (Sub.cons rfl (Le.refl _) (Sub.nil _))))), ⟨⟨rfl, rfl, rfl, rfl⟩, trivial⟩⟩
     ·replace h := condF h hc4
      refine wc_skip ?_
      exact we_lp ⟨l88, h, (Sub.cons rfl (Le.refl _) (Sub.cons rfl (Le.refl _) (Sub.cons rfl (Le.refl _) (Sub.cons rfl (Le.refl _) (Sub.nil _))))), ⟨⟨rfl, rfl, rfl, rfl⟩, trivial⟩⟩
    ·rintro env1 st1 ⟨l100, h, hsub, hst⟩
     subst hk101
     dsimp only at h
     refine WC.sub hsub (WC.weak hst ?_)
     refine wc_region ?_
     refine WL.mv rfl rfl ?_
     refine WL.qn (y_mul rfl rfl rfl) rfl ?_
     refine WL.as rfl rfl ?_
     refine WL.nil ?_
     refine we_blk ?_
     exact we_lp ⟨n, ⟨(IntKind.i64.wrap (blockSize83 * 2)), l100, h, (Sub.cons rfl (Le.refl _) (Sub.cons rfl (Le.refl _) (Sub.cons rfl (Le.refl _) (Sub.cons rfl (Le.refl _) (Sub.nil _))))), ⟨⟨rfl, rfl, rfl, rfl⟩, trivial⟩⟩, Nat.lt_succ_self n⟩
  ·replace h := condF h hc2
   refine wc_exit ?_
   refine we_seq_exit ?_
   refine we_lp_exit ?_
   refine we_blk_hit ?_
   refine we_end ?_
   obtain rfl := Option.some.inj h
   exact we_ret_winx ver (res0 rfl) (Le.tud trivial) rfl ⟨⟨rfl, rfl, rfl, rfl⟩, trivial⟩

theorem f36_c (l0 : List Due) {ver : Nat} {r : List Due} (h : f36 l0 = some r) : Ctr Try.prog 36 [.os 0 ver, .fn (.func 37) [] []] [.os 62 2 ver (List.map (encA R62) l0)] (WinX 1 (.tu []) (fun iv => [.os 62 2 ver (List.map (encA R62) r)])) := by
 unfold f36 at h
 refine ctr_intro Try.func36 (by kernel_rfl) rfl rfl rfl (fun mm φφ ww hmm => ?_)
 refine wc_region ?_
 refine WL.mv rfl rfl ?_
 refine WL.mv rfl rfl ?_
 refine WL.qn (y_len_osmap (encA R62) l0 e24 rfl rfl rfl) rfl ?_
 refine WL.mv rfl rfl ?_
 obtain ⟨r12, hr12, h⟩ := bindS h
 refine WL.winy [0] rfl rfl rfl rfl (f68_c _ _ hr12) ⟨Le.refl _, (Le.refl _), Le.refl _, trivial⟩ rfl (by decide) (cons_eq (ren_os _ _ _ _ _ _) rfl) ⟨rfl, trivial⟩ (stLt_cons (lt_os _ _ _ _ _ _) rfl) rfl (fun _ => (stLt_cons (lt_os _ _ _ _ _ _) rfl)) (fun _ => (cons_eq (ren_os _ _ _ _ _ _) rfl)) (Wt.none rfl) rfl rfl (fun ver12 => ?_)
 refine WL.nil ?_
 refine we_end ?_
 obtain rfl := Option.some.inj h
 exact we_ret_winx ver (res0 rfl) (Le.tud trivial) rfl ⟨⟨rfl, rfl, rfl, rfl⟩, trivial⟩

theorem f17_c (q0 : Queues) (time1 : Int) (task2 : Int) {r : Queues × Int} (h : f17 q0 time1 task2 = some r) : Pu Try.prog 17 [.ag (R26 q0), .i .i64 time1, .i .i64 task2] (.tu [.ag (R26 r.1), .i .i64 r.2]) := by
 unfold f17 at h
 refine fn_intro Try.func17 (by kernel_rfl) rfl rfl rfl (fun φφ ww => ?_)
 refine wc_sr ?_
 refine WL.s ((b_box rfl rfl).does) (Wt.none rfl) rfl rfl ?_
 refine WL.s ((b_alloc z26).does) (Wt.none rfl) rfl rfl ?_
 refine WL.as rfl rfl ?_
 refine WL.ns ?_
 refine wc_seq ?_
 refine wc_sr ?_
 refine WL.qn (y_loadN rfl rfl a26 s26 rfl) rfl ?_
 obtain ⟨r47, hr47, h⟩ := bindS h
 refine WL.fn rfl rfl rfl rfl (f10_c _ hr47) ⟨(Le.agd ⟨(Le.refl _), (Le.refl _), (Le.refl _), (Le.refl _), (Le.refl _), (Le.refl _), (Le.refl _), (Le.refl _), (Le.refl _), (Le.refl _), (Le.refl _), (Le.refl _), (Le.refl _), (Le.refl _), (Le.refl _), (Le.refl _), (Le.refl _), (Le.refl _), (Le.refl _), (Le.refl _), (Le.refl _), (Le.refl _), (Le.refl _), (Le.refl _), (Le.refl _), (Le.refl _), (Le.refl _), (Le.refl _), (Le.refl _), (Le.refl _), (Le.refl _), (Le.refl _), (Le.refl _), (Le.refl _), trivial⟩), trivial⟩ (Wt.none rfl) rfl rfl ?_
 refine WL.qn (y_not rfl) rfl ?_
 refine WL.mv rfl rfl ?_
 apply WL.or 4 (t := 11) (d := 15)
 ·exact rfl
 ·intro hg11
  refine WL.qy (y_move rfl) rfl rfl rfl ?_
  refine WL.fn rfl rfl rfl rfl (f30_c _) ⟨(Le.refl _), trivial⟩ (Wt.yes rfl rfl rfl) rfl rfl ?_
  refine WL.qy (y_not rfl) rfl rfl rfl ?_
  refine WL.qn (y_pick_f rfl rfl) rfl ?_
  exact WL.nil ⟨rfl, [_, _, _, _], rfl, rfl, rfl⟩
 ·refine WL.skips 3 rfl ?_
  refine WL.qn (y_pick_t rfl rfl) rfl ?_
  exact WL.nil ⟨rfl, [_, _, _, _], rfl, rfl, rfl⟩
 refine WL.mv rfl rfl ?_
 apply WL.or 3 (t := 16) (d := 19)
 ·exact rfl
 ·intro hg16
  refine WL.qy (y_move rfl) rfl rfl rfl ?_
  refine WL.qy (y_lss rfl rfl) rfl rfl rfl ?_
  refine WL.qn (y_pick_f rfl rfl) rfl ?_
  exact WL.nil ⟨rfl, [_, _, _], rfl, rfl, rfl⟩
 ·refine WL.skips 2 rfl ?_
  refine WL.qn (y_pick_t rfl rfl) rfl ?_
  exact WL.nil ⟨rfl, [_, _, _], rfl, rfl, rfl⟩
 refine WL.mv rfl rfl ?_
 apply WL.or 3 (t := 20) (d := 23)
 ·exact rfl
 ·intro hg20
  refine WL.qy (y_move rfl) rfl rfl rfl ?_
  refine WL.qy (y_gtr rfl rfl) rfl rfl rfl ?_
  refine WL.qn (y_pick_f rfl rfl) rfl ?_
  exact WL.nil ⟨rfl, [_, _, _], rfl, rfl, rfl⟩
 ·refine WL.skips 2 rfl ?_
  refine WL.qn (y_pick_t rfl rfl) rfl ?_
  exact WL.nil ⟨rfl, [_, _, _], rfl, rfl, rfl⟩
 refine WL.ns ?_
 refine wc_cond rfl (fun hc1 => ?_) (fun hc1 => ?_)
 ·replace h := condT h hc1
  refine wc_sr ?_
  refine WL.qn (y_build p26 z26 rfl rfl) rfl ?_
  refine WL.s0 (d_store rfl rfl rfl rfl rfl rfl s26 rfl rfl) (Wt.none rfl) rfl ?_
  refine WL.st (st' := [.row 26 (vecA 32 (fun j => .d (.sl (List.map E3 (q0.ready j)))) ++ ([.d (.sl (List.map E62 q0.delays)), .d (D.i .i64 q0.run)] : List AV)), .row 26 [sN, sN, sN, sN, sN, sN, sN, sN, sN, sN, sN, sN, sN, sN, sN, sN, sN, sN, sN, sN, sN, sN, sN, sN, sN, sN, sN, sN, sN, sN, sN, sN, sN, .d (D.i .i64 0)]]) rfl ?_
  refine WL.as rfl rfl ?_
  refine WL.ns ?_
  refine wc_ret ?_
  refine we_seq_ret ?_
  obtain rfl := Option.some.inj h
  exact we_ret_fn (rs2 rfl (rv_cN rfl rfl a26 s26 rfl) (rv_t rfl)) (Le.tud ⟨(Le.agd ⟨Le.nil, Le.nil, Le.nil, Le.nil, Le.nil, Le.nil, Le.nil, Le.nil, Le.nil, Le.nil, Le.nil, Le.nil, Le.nil, Le.nil, Le.nil, Le.nil, Le.nil, Le.nil, Le.nil, Le.nil, Le.nil, Le.nil, Le.nil, Le.nil, Le.nil, Le.nil, Le.nil, Le.nil, Le.nil, Le.nil, Le.nil, Le.nil, Le.nil, (Le.refl _), trivial⟩), (Le.refl _), trivial⟩)
 ·replace h := condF h hc1
  refine wc_skip ?_
  refine we_seq ?_
  refine wc_seq ?_
  refine wc_sr ?_
  refine WL.qn (y_loadN rfl rfl a26 s26 rfl) rfl ?_
  refine WL.mv rfl rfl ?_
  obtain ⟨r48, hr48, h⟩ := bindS h
  refine WL.fn rfl rfl rfl rfl (f35_c _ _ hr48) ⟨(Le.agd ⟨(Le.refl _), (Le.refl _), (Le.refl _), (Le.refl _), (Le.refl _), (Le.refl _), (Le.refl _), (Le.refl _), (Le.refl _), (Le.refl _), (Le.refl _), (Le.refl _), (Le.refl _), (Le.refl _), (Le.refl _), (Le.refl _), (Le.refl _), (Le.refl _), (Le.refl _), (Le.refl _), (Le.refl _), (Le.refl _), (Le.refl _), (Le.refl _), (Le.refl _), (Le.refl _), (Le.refl _), (Le.refl _), (Le.refl _), (Le.refl _), (Le.refl _), (Le.refl _), (Le.refl _), (Le.refl _), trivial⟩), (Le.refl _), trivial⟩ (Wt.none rfl) rfl rfl ?_
  refine WL.ns ?_
  refine wc_cond rfl (fun hc2 => ?_) (fun hc2 => ?_)
  ·replace h := condT h hc2
   refine wc_sr ?_
   refine WL.qn (y_build p26 z26 rfl rfl) rfl ?_
   refine WL.s0 (d_store rfl rfl rfl rfl rfl rfl s26 rfl rfl) (Wt.none rfl) rfl ?_
   refine WL.st (st' := [.row 26 (vecA 32 (fun j => .d (.sl (List.map E3 (q0.ready j)))) ++ ([.d (.sl (List.map E62 q0.delays)), .d (D.i .i64 q0.run)] : List AV)), .row 26 [sN, sN, sN, sN, sN, sN, sN, sN, sN, sN, sN, sN, sN, sN, sN, sN, sN, sN, sN, sN, sN, sN, sN, sN, sN, sN, sN, sN, sN, sN, sN, sN, sN, .d (D.i .i64 0)]]) rfl ?_
   refine WL.as rfl rfl ?_
   refine WL.ns ?_
   refine wc_ret ?_
   refine we_seq_ret ?_
   obtain rfl := Option.some.inj h
   exact we_ret_fn (rs2 rfl (rv_cN rfl rfl a26 s26 rfl) (rv_t rfl)) (Le.tud ⟨(Le.agd ⟨Le.nil, Le.nil, Le.nil, Le.nil, Le.nil, Le.nil, Le.nil, Le.nil, Le.nil, Le.nil, Le.nil, Le.nil, Le.nil, Le.nil, Le.nil, Le.nil, Le.nil, Le.nil, Le.nil, Le.nil, Le.nil, Le.nil, Le.nil, Le.nil, Le.nil, Le.nil, Le.nil, Le.nil, Le.nil, Le.nil, Le.nil, Le.nil, Le.nil, (Le.refl _), trivial⟩), (Le.refl _), trivial⟩)
  ·replace h := condF h hc2
   refine wc_skip ?_
   refine we_seq ?_
   refine wc_sr ?_
   refine WL.qn (y_loadN rfl rfl a26 s26 rfl) rfl ?_
   replace h := guardBS h
   obtain ⟨hgg49, h⟩ := h
   refine Gh.wl (gh_push_os 62 2) ?_
   refine WL.wina [2] rfl rfl rfl rfl (O.f32l_c q0 hgg49) ⟨(Le.agd ⟨(Le.refl _), (Le.refl _), (Le.refl _), (Le.refl _), (Le.refl _), (Le.refl _), (Le.refl _), (Le.refl _), (Le.refl _), (Le.refl _), (Le.refl _), (Le.refl _), (Le.refl _), (Le.refl _), (Le.refl _), (Le.refl _), (Le.refl _), (Le.refl _), (Le.refl _), (Le.refl _), (Le.refl _), (Le.refl _), (Le.refl _), (Le.refl _), (Le.refl _), (Le.refl _), (Le.refl _), (Le.refl _), (Le.refl _), (Le.refl _), (Le.refl _), (Le.refl _), (Le.refl _), (Le.refl _), trivial⟩), trivial⟩ rfl (by decide) rfl ⟨rfl, trivial⟩ rfl rfl (fun _ => (stLt_cons (lt_os _ _ _ _ _ _) rfl)) (fun _ => (cons_eq (ren_os _ _ _ _ _ _) rfl)) (fun _ => rfl) (fun _ => rfl) (Wt.none rfl) rfl rfl (fun ver50 => ?_)
   refine WL.s0 (d_storeS (rs := vecA 32 (O.rdy q0) ++ O.tlO q0 2 ver50) rfl rfl rfl rfl rfl (O.tlO_all q0 2 ver50 (O.os_ok1S rfl)) s26 rfl rfl) (Wt.none rfl) rfl ?_
   refine WL.st (st' := [.row 26 (vecA 32 (fun j => .d (.sl (List.map E3 (q0.ready j)))) ++ ([.os 2 ver50, .d (D.i .i64 q0.run)] : List AV)), .row 26 [sN, sN, sN, sN, sN, sN, sN, sN, sN, sN, sN, sN, sN, sN, sN, sN, sN, sN, sN, sN, sN, sN, sN, sN, sN, sN, sN, sN, sN, sN, sN, sN, sN, .d (D.i .i64 0)], .os 62 2 ver50 (List.map (encA R62) q0.delays)]) rfl ?_
   refine WL.st (st' := [.row 26 (vecA 32 (fun j => .d (.sl (List.map E3 (q0.ready j)))) ++ ([.os 2 ver50, .d (D.i .i64 q0.run)] : List AV)), .row 26 [sN, sN, sN, sN, sN, sN, sN, sN, sN, sN, sN, sN, sN, sN, sN, sN, sN, sN, sN, sN, sN, sN, sN, sN, sN, sN, sN, sN, sN, sN, sN, sN, sN, .d (D.i .i64 0)], .os 62 2 ver50 (List.map (encA R62) q0.delays)]) rfl ?_
   refine WL.ns ?_
   refine wc_sr ?_
   refine WL.qn (y_fieldAddr f26_1 rfl) rfl ?_
   refine WL.qn (y_load rfl rfl a24 rfl) rfl ?_
   refine WL.mv rfl rfl ?_
   refine WL.mv rfl rfl ?_
   refine WL.qn (y_build p62 z62 rfl rfl) rfl ?_
   refine WL.s ((NewOs.b (n_buildSlice l24 z62 rfl (by decide) (by decide) rfl rfl rfl (by decide))).does) (Wt.none rfl) rfl rfl ?_
   replace h := guardBS h
   obtain ⟨hgg51, h⟩ := h
   refine WL.s (d_appendL R62 q0.delays [(Due.mk time1 task2)] l24 z62 rfl (by decide) rfl rfl rfl rfl (Src.own rfl) (fun _ => rfl) (fun _ => rfl) hgg51) (Wt.none rfl) rfl rfl ?_
   refine WL.qn (y_fieldAddr f26_1 rfl) rfl ?_
   refine WL.s0 (d_store1 rfl rfl rfl (one_os rfl) s24 rfl) (Wt.none rfl) rfl ?_
   refine WL.st (st' := [.row 26 (vecA 32 (fun j => .d (.sl (List.map E3 (q0.ready j)))) ++ ([.os 2 (ver50 + 1), .d (D.i .i64 q0.run)] : List AV)), .row 26 [sN, sN, sN, sN, sN, sN, sN, sN, sN, sN, sN, sN, sN, sN, sN, sN, sN, sN, sN, sN, sN, sN, sN, sN, sN, sN, sN, sN, sN, sN, sN, sN, sN, .d (D.i .i64 0)], .os 62 2 (ver50 + 1) (List.map (encA R62) (q0.delays ++ [(Due.mk time1 task2)])), .os 62 2 0 (List.map (encA R62) [(Due.mk time1 task2)])]) rfl ?_
   refine WL.ns ?_
   refine wc_sr ?_
   refine WL.qn (y_fieldAddr f26_1 rfl) rfl ?_
   refine WL.qn (y_load rfl rfl a24 rfl) rfl ?_
   obtain ⟨r52, hr52, h⟩ := bindS h
   refine WL.winy [2] rfl rfl rfl rfl (f36_c _ hr52) ⟨Le.refl _, Le.refl _, trivial⟩ rfl (by decide) (cons_eq (ren_os _ _ _ _ _ _) rfl) ⟨rfl, trivial⟩ (stLt_cons (lt_os _ _ _ _ _ _) rfl) rfl (fun _ => (stLt_cons (lt_os _ _ _ _ _ _) rfl)) (fun _ => (cons_eq (ren_os _ _ _ _ _ _) rfl)) (Wt.none rfl) rfl rfl (fun ver52 => ?_)
   refine WL.ns ?_
   refine wc_sr ?_
   refine WL.freezeX [37, 40] [(0, 32)] 2 (List.map E62 r52) rfl (encA_map E62_eq r52) ⟨rfl, rfl, trivial⟩ ⟨_, _, rfl, rfl, trivial⟩ ?_
   refine WL.qn (y_loadN rfl rfl a26 s26 rfl) rfl ?_
   refine WL.s0 (d_store rfl rfl rfl rfl rfl rfl s26 rfl rfl) (Wt.none rfl) rfl ?_
   refine WL.st (st' := [.row 26 (vecA 32 (fun j => .d (.sl (List.map E3 (q0.ready j)))) ++ ([.d (.sl (List.map E62 r52)), .d (D.i .i64 q0.run)] : List AV)), .row 26 (vecA 32 (fun j => .d (.sl (List.map E3 (q0.ready j)))) ++ ([.d (.sl (List.map E62 r52)), .d (D.i .i64 q0.run)] : List AV)), .dead, .os 62 2 0 (List.map (encA R62) [(Due.mk time1 task2)])]) rfl ?_
   refine WL.as rfl rfl ?_
   refine WL.ns ?_
   refine wc_ret ?_
   obtain rfl := Option.some.inj h
   exact we_ret_fn (rs2 rfl (rv_cN rfl rfl a26 s26 rfl) (rv_t rfl)) (Le.tud ⟨(Le.agd ⟨(Le.refl _), (Le.refl _), (Le.refl _), (Le.refl _), (Le.refl _), (Le.refl _), (Le.refl _), (Le.refl _), (Le.refl _), (Le.refl _), (Le.refl _), (Le.refl _), (Le.refl _), (Le.refl _), (Le.refl _), (Le.refl _), (Le.refl _), (Le.refl _), (Le.refl _), (Le.refl _), (Le.refl _), (Le.refl _), (Le.refl _), (Le.refl _), (Le.refl _), (Le.refl _), (Le.refl _), (Le.refl _), (Le.refl _), (Le.refl _), (Le.refl _), (Le.refl _), (Le.refl _), (Le.refl _), trivial⟩), (Le.refl _), trivial⟩)

theorem f18_c (q0 : Queues) (task1 : Int) {r : Queues × Int} (h : f18 q0 task1 = some r) : Pu Try.prog 18 [.ag (R26 q0), .i .i64 task1] (.tu [.ag (R26 r.1), .i .i64 r.2]) := by
 unfold f18 at h
 refine fn_intro Try.func18 (by kernel_rfl) rfl rfl rfl (fun φφ ww => ?_)
 refine wc_sr ?_
 refine WL.s ((b_box rfl rfl).does) (Wt.none rfl) rfl rfl ?_
 refine WL.s ((b_boxd rfl rfl (by exact (show Les [.d (D.i .i64 task1)] (List.map AV.d [.i .i64 task1]) from ⟨(Le.refl _), trivial⟩))).does) (Wt.none rfl) rfl rfl ?_
 refine WL.s ((b_alloc z26).does) (Wt.none rfl) rfl rfl ?_
 refine WL.as rfl rfl ?_
 refine WL.ns ?_
 refine wc_seq ?_
 refine wc_sr ?_
 refine WL.qn (y_loadN rfl rfl a26 s26 rfl) rfl ?_
 obtain ⟨r31, hr31, h⟩ := bindS h
 refine WL.fn rfl rfl rfl rfl (f10_c _ hr31) ⟨(Le.agd ⟨(Le.refl _), (Le.refl _), (Le.refl _), (Le.refl _), (Le.refl _), (Le.refl _), (Le.refl _), (Le.refl _), (Le.refl _), (Le.refl _), (Le.refl _), (Le.refl _), (Le.refl _), (Le.refl _), (Le.refl _), (Le.refl _), (Le.refl _), (Le.refl _), (Le.refl _), (Le.refl _), (Le.refl _), (Le.refl _), (Le.refl _), (Le.refl _), (Le.refl _), (Le.refl _), (Le.refl _), (Le.refl _), (Le.refl _), (Le.refl _), (Le.refl _), (Le.refl _), (Le.refl _), (Le.refl _), trivial⟩), trivial⟩ (Wt.none rfl) rfl rfl ?_
 refine WL.qn (y_not rfl) rfl ?_
 refine WL.mv rfl rfl ?_
 apply WL.or 4 (t := 9) (d := 13)
 ·exact rfl
 ·intro hg9
  refine WL.qy (y_loadc rfl a3 rfl) rfl rfl rfl ?_
  refine WL.fn rfl rfl rfl rfl (f30_c _) ⟨(Le.refl _), trivial⟩ (Wt.yes rfl rfl rfl) rfl rfl ?_
  refine WL.qy (y_not rfl) rfl rfl rfl ?_
  refine WL.qn (y_pick_f rfl rfl) rfl ?_
  exact WL.nil ⟨rfl, [_, _, _, _], rfl, rfl, rfl⟩
 ·refine WL.skips 3 rfl ?_
  refine WL.qn (y_pick_t rfl rfl) rfl ?_
  exact WL.nil ⟨rfl, [_, _, _, _], rfl, rfl, rfl⟩
 refine WL.ns ?_
 refine wc_cond rfl (fun hc1 => ?_) (fun hc1 => ?_)
 ·replace h := condT h hc1
  refine wc_sr ?_
  refine WL.qn (y_build p26 z26 rfl rfl) rfl ?_
  refine WL.s0 (d_store rfl rfl rfl rfl rfl rfl s26 rfl rfl) (Wt.none rfl) rfl ?_
  refine WL.st (st' := [.row 26 (vecA 32 (fun j => .d (.sl (List.map E3 (q0.ready j)))) ++ ([.d (.sl (List.map E62 q0.delays)), .d (D.i .i64 q0.run)] : List AV)), .row 26 [sN, sN, sN, sN, sN, sN, sN, sN, sN, sN, sN, sN, sN, sN, sN, sN, sN, sN, sN, sN, sN, sN, sN, sN, sN, sN, sN, sN, sN, sN, sN, sN, sN, .d (D.i .i64 0)]]) rfl ?_
  refine WL.as rfl rfl ?_
  refine WL.ns ?_
  refine wc_ret ?_
  refine we_seq_ret ?_
  obtain rfl := Option.some.inj h
  exact we_ret_fn (rs2 rfl (rv_cN rfl rfl a26 s26 rfl) (rv_t rfl)) (Le.tud ⟨(Le.agd ⟨Le.nil, Le.nil, Le.nil, Le.nil, Le.nil, Le.nil, Le.nil, Le.nil, Le.nil, Le.nil, Le.nil, Le.nil, Le.nil, Le.nil, Le.nil, Le.nil, Le.nil, Le.nil, Le.nil, Le.nil, Le.nil, Le.nil, Le.nil, Le.nil, Le.nil, Le.nil, Le.nil, Le.nil, Le.nil, Le.nil, Le.nil, Le.nil, Le.nil, (Le.refl _), trivial⟩), (Le.refl _), trivial⟩)
 ·replace h := condF h hc1
  refine wc_skip ?_
  refine we_seq ?_
  refine wc_seq ?_
  refine wc_sr ?_
  refine WL.qn (y_loadN rfl rfl a26 s26 rfl) rfl ?_
  refine WL.qn (y_loadc rfl a3 rfl) rfl ?_
  obtain ⟨r32, hr32, h⟩ := bindS h
  refine WL.fn rfl rfl rfl rfl (f35_c _ _ hr32) ⟨(Le.agd ⟨(Le.refl _), (Le.refl _), (Le.refl _), (Le.refl _), (Le.refl _), (Le.refl _), (Le.refl _), (Le.refl _), (Le.refl _), (Le.refl _), (Le.refl _), (Le.refl _), (Le.refl _), (Le.refl _), (Le.refl _), (Le.refl _), (Le.refl _), (Le.refl _), (Le.refl _), (Le.refl _), (Le.refl _), (Le.refl _), (Le.refl _), (Le.refl _), (Le.refl _), (Le.refl _), (Le.refl _), (Le.refl _), (Le.refl _), (Le.refl _), (Le.refl _), (Le.refl _), (Le.refl _), (Le.refl _), trivial⟩), (Le.refl _), trivial⟩ (Wt.none rfl) rfl rfl ?_
  refine WL.qn (y_not rfl) rfl ?_
  refine WL.ns ?_
  refine wc_cond rfl (fun hc2 => ?_) (fun hc2 => ?_)
  ·replace h := condT h hc2
   refine wc_sr ?_
   refine WL.qn (y_build p26 z26 rfl rfl) rfl ?_
   refine WL.s0 (d_store rfl rfl rfl rfl rfl rfl s26 rfl rfl) (Wt.none rfl) rfl ?_
   refine WL.st (st' := [.row 26 (vecA 32 (fun j => .d (.sl (List.map E3 (q0.ready j)))) ++ ([.d (.sl (List.map E62 q0.delays)), .d (D.i .i64 q0.run)] : List AV)), .row 26 [sN, sN, sN, sN, sN, sN, sN, sN, sN, sN, sN, sN, sN, sN, sN, sN, sN, sN, sN, sN, sN, sN, sN, sN, sN, sN, sN, sN, sN, sN, sN, sN, sN, .d (D.i .i64 0)]]) rfl ?_
   refine WL.as rfl rfl ?_
   refine WL.ns ?_
   refine wc_ret ?_
   refine we_seq_ret ?_
   obtain rfl := Option.some.inj h
   exact we_ret_fn (rs2 rfl (rv_cN rfl rfl a26 s26 rfl) (rv_t rfl)) (Le.tud ⟨(Le.agd ⟨Le.nil, Le.nil, Le.nil, Le.nil, Le.nil, Le.nil, Le.nil, Le.nil, Le.nil, Le.nil, Le.nil, Le.nil, Le.nil, Le.nil, Le.nil, Le.nil, Le.nil, Le.nil, Le.nil, Le.nil, Le.nil, Le.nil, Le.nil, Le.nil, Le.nil, Le.nil, Le.nil, Le.nil, Le.nil, Le.nil, Le.nil, Le.nil, Le.nil, (Le.refl _), trivial⟩), (Le.refl _), trivial⟩)
  ·replace h := condF h hc2
   refine wc_skip ?_
   refine we_seq ?_
   refine wc_sr ?_
   refine WL.qn (y_loadN rfl rfl a26 s26 rfl) rfl ?_
   obtain ⟨r33, hr33, h⟩ := bindS h
   refine WL.fn rfl rfl rfl rfl (O.f32_c _ hr33) ⟨(Le.agd ⟨(Le.refl _), (Le.refl _), (Le.refl _), (Le.refl _), (Le.refl _), (Le.refl _), (Le.refl _), (Le.refl _), (Le.refl _), (Le.refl _), (Le.refl _), (Le.refl _), (Le.refl _), (Le.refl _), (Le.refl _), (Le.refl _), (Le.refl _), (Le.refl _), (Le.refl _), (Le.refl _), (Le.refl _), (Le.refl _), (Le.refl _), (Le.refl _), (Le.refl _), (Le.refl _), (Le.refl _), (Le.refl _), (Le.refl _), (Le.refl _), (Le.refl _), (Le.refl _), (Le.refl _), (Le.refl _), trivial⟩), trivial⟩ (Wt.none rfl) rfl rfl ?_
   refine WL.s0 (d_store rfl rfl rfl rfl rfl rfl s26 rfl rfl) (Wt.none rfl) rfl ?_
   refine WL.st (st' := [.row 26 (vecA 32 (fun j => .d (.sl (List.map E3 (r33.ready j)))) ++ ([.d (.sl (List.map E62 r33.delays)), .d (D.i .i64 r33.run)] : List AV)), .row 26 [sN, sN, sN, sN, sN, sN, sN, sN, sN, sN, sN, sN, sN, sN, sN, sN, sN, sN, sN, sN, sN, sN, sN, sN, sN, sN, sN, sN, sN, sN, sN, sN, sN, .d (D.i .i64 0)]]) rfl ?_
   refine WL.ns ?_
   refine wc_sr ?_
   refine WL.qn (y_fieldAddr f26_1 rfl) rfl ?_
   refine WL.qn (y_load rfl rfl a24 rfl) rfl ?_
   refine WL.qn (y_makeFunc rfl rfl) rfl ?_
   obtain ⟨k36, hk36, h⟩ := letkS h
   refine WL.inl (us := [.d (.sl (List.map E62 r33.delays)), .fn (.func 40) [] [.d (.pc (E3 task1))]]) (fun rv st' => (∃ (t35 : List Due), k36 t35 = some r ∧ Le rv (.d (.sl (List.map E62 t35))) ∧ SLe st' [.row 26 (vecA 32 (fun j => .d (.sl (List.map E3 (r33.ready j)))) ++ ([.d (.sl (List.map E62 r33.delays)), .d (D.i .i64 r33.run)] : List AV)), .row 26 [sN, sN, sN, sN, sN, sN, sN, sN, sN, sN, sN, sN, sN, sN, sN, sN, sN, sN, sN, sN, sN, sN, sN, sN, sN, sN, sN, sN, sN, sN, sN, sN, sN, .d (D.i .i64 0)], .dead])) rfl rfl rfl rfl rfl ?_ (Wt.none rfl) rfl rfl ?_
   ·refine ctr_intro Try.func39 (by kernel_rfl) rfl rfl rfl (fun mm φφ ww hm34 => ?_)
    refine wc_sr ?_
    refine WL.as rfl rfl ?_
    refine WL.ns ?_
    refine wc_sr ?_
    refine WL.mv rfl rfl ?_
    obtain ⟨r37, hr37, h⟩ := bindS h
    refine Gh.wl (gh_push_os 62 2) ?_
    refine WL.wina [2] rfl rfl rfl rfl (O.f61o_c _ hr37) ⟨(Le.refl _), trivial⟩ rfl (by decide) rfl ⟨rfl, trivial⟩ rfl rfl (fun _ => (stLt_cons (lt_os _ _ _ _ _ _) rfl)) (fun _ => (cons_eq (ren_os _ _ _ _ _ _) rfl)) (fun _ => rfl) (fun _ => rfl) (Wt.none rfl) rfl rfl (fun ver38 => ?_)
    refine WL.mv rfl rfl ?_
    obtain ⟨k41, hk41, h⟩ := letkS h
    refine WL.inl (us := [.os 2 ver38, .fn (.func 40) [] [.d (.pc (E3 task1))]]) (fun rv st' => (∃ (t40 : List Due), k41 t40 = some r ∧ Le rv (.d (.sl (List.map E62 t40))) ∧ SLe st' [.row 26 (vecA 32 (fun j => .d (.sl (List.map E3 (r33.ready j)))) ++ ([.d (.sl (List.map E62 r33.delays)), .d (D.i .i64 r33.run)] : List AV)), .row 26 [sN, sN, sN, sN, sN, sN, sN, sN, sN, sN, sN, sN, sN, sN, sN, sN, sN, sN, sN, sN, sN, sN, sN, sN, sN, sN, sN, sN, sN, sN, sN, sN, sN, .d (D.i .i64 0)], .dead])) rfl rfl rfl rfl rfl ?_ (Wt.none rfl) rfl rfl ?_
    ·refine ctr_intro Try.func70 (by kernel_rfl) rfl rfl rfl (fun mm φφ ww hm39 => ?_)
     refine wc_sr ?_
     refine WL.as rfl rfl ?_
     refine WL.ns ?_
     refine wc_sr ?_
     refine WL.mv rfl rfl ?_
     refine WL.mv rfl rfl ?_
     obtain ⟨k44, hk44, h⟩ := letkS h
     refine WL.inl (us := [.os 2 ver38, .fn (.func 40) [] [.d (.pc (E3 task1))]]) (fun rv st' => (∃ (t43 : Int), k44 t43 = some r ∧ Le rv (.d (D.i .i64 t43)) ∧ SLe st' [.row 26 (vecA 32 (fun j => .d (.sl (List.map E3 (r33.ready j)))) ++ ([.d (.sl (List.map E62 r33.delays)), .d (D.i .i64 r33.run)] : List AV)), .row 26 [sN, sN, sN, sN, sN, sN, sN, sN, sN, sN, sN, sN, sN, sN, sN, sN, sN, sN, sN, sN, sN, sN, sN, sN, sN, sN, sN, sN, sN, sN, sN, sN, sN, .d (D.i .i64 0)], .os 62 2 ver38 (List.map (encA R62) r37)])) rfl rfl rfl rfl rfl ?_ (Wt.none rfl) rfl rfl ?_
     ·refine ctr_intro Try.func77 (by kernel_rfl) rfl rfl rfl (fun mm φφ ww hm42 => ?_)
      refine wc_sr ?_
      refine WL.as rfl rfl ?_
      refine WL.ns ?_
      replace h := letkS h
      obtain ⟨k45, hk45, h⟩ := h
      refine wc_cut (fun env' st' => k45 () = some r ∧ Sub [] env' ∧ SLe st' [.row 26 (vecA 32 (fun j => .d (.sl (List.map E3 (r33.ready j)))) ++ ([.d (.sl (List.map E62 r33.delays)), .d (D.i .i64 r33.run)] : List AV)), .row 26 [sN, sN, sN, sN, sN, sN, sN, sN, sN, sN, sN, sN, sN, sN, sN, sN, sN, sN, sN, sN, sN, sN, sN, sN, sN, sN, sN, sN, sN, sN, sN, sN, sN, .d (D.i .i64 0)], .os 62 2 ver38 (List.map (encA R62) r37)]) ?_ ?_
      ·refine wc_sr ?_
       refine WL.mv rfl rfl ?_
       refine WL.qn (y_len_osmap (encA R62) r37 e24 rfl rfl rfl) rfl ?_
       refine WL.mv rfl rfl ?_
       refine WL.ns ?_
       refine wc_block ?_
       refine wc_loop (fun n env' st' => ∃ (t47 : Int), f18_l1 task1 r37 k44 k45 n t47 = some r ∧ Sub [(0, .os 2 ver38), (1, .fn (.func 40) [] [.d (.pc (E3 task1))]), (7, .d (D.i .i64 (List.length r37 : Int))), (8, .d (D.i .i64 t47))] env' ∧ SLe st' [.row 26 (vecA 32 (fun j => .d (.sl (List.map E3 (r33.ready j)))) ++ ([.d (.sl (List.map E62 r33.delays)), .d (D.i .i64 r33.run)] : List AV)), .row 26 [sN, sN, sN, sN, sN, sN, sN, sN, sN, sN, sN, sN, sN, sN, sN, sN, sN, sN, sN, sN, sN, sN, sN, sN, sN, sN, sN, sN, sN, sN, sN, sN, sN, .d (D.i .i64 0)], .os 62 2 ver38 (List.map (encA R62) r37)]) (fun n => n) (Int.toNat ((List.length r37 : Int) - 0) + 1) ⟨0, h, (Sub.cons rfl (Le.refl _) (Sub.cons rfl (Le.refl _) (Sub.cons rfl (Le.refl _) (Sub.cons rfl (Le.refl _) (Sub.nil _))))), ⟨⟨rfl, Les.refl _⟩, ⟨rfl, Les.refl _⟩, ⟨rfl, rfl, rfl, rfl⟩, trivial⟩⟩ ?_
       rintro n env1 st1 ⟨t47, h, hsub, hst⟩
       cases n with
       | zero => rw [f18_l1] at h; cases h
       | succ n =>
       rw [f18_l1] at h
       refine WC.sub hsub (WC.weak hst ?_)
       refine wc_sr ?_
       refine WL.qn (y_lss rfl rfl) rfl ?_
       refine WL.ns ?_
       refine wc_seq ?_
       refine wc_cond rfl (fun hc3 => ?_) (fun hc3 => ?_)
       ·replace h := condT h hc3
        refine wc_skip ?_
        refine we_seq ?_
        refine wc_seq ?_
        refine wc_block ?_
        refine wc_sr ?_
        refine WL.mv rfl rfl ?_
        refine WL.as rfl rfl ?_
        refine WL.ns ?_
        refine wc_sr ?_
        refine WL.mv rfl rfl ?_
        refine WL.mv rfl rfl ?_
        refine WL.mv rfl rfl ?_
        obtain ⟨x49, hx49, h⟩ := bindS h
        refine WL.qn (y_pe e24 rfl rfl rfl hx49) rfl ?_
        refine WL.qn (y_load_peLN (fo := 0) rfl rfl rfl a62 s62 (fun _ => rfl) hx49 rfl rfl) rfl ?_
        obtain ⟨k51, hk51, h⟩ := letkS h
        refine WL.inl (us := [.ag [.d (D.i .i64 x49.time), .d (D.i .i64 x49.task)], .d (.pc (E3 task1))]) (fun rv st' => (k51 () = some r ∧ Le rv (.d (D.b (decide (x49.task = task1)))) ∧ SLe st' [.row 26 (vecA 32 (fun j => .d (.sl (List.map E3 (r33.ready j)))) ++ ([.d (.sl (List.map E62 r33.delays)), .d (D.i .i64 r33.run)] : List AV)), .row 26 [sN, sN, sN, sN, sN, sN, sN, sN, sN, sN, sN, sN, sN, sN, sN, sN, sN, sN, sN, sN, sN, sN, sN, sN, sN, sN, sN, sN, sN, sN, sN, sN, sN, .d (D.i .i64 0)], .os 62 2 ver38 (List.map (encA R62) r37)])) rfl rfl rfl rfl rfl ?_ (Wt.none rfl) rfl rfl ?_
        ·refine ctr_intro Try.func40 (by kernel_rfl) rfl rfl rfl (fun mm φφ ww hm50 => ?_)
         refine wc_sr ?_
         refine WL.s ((b_boxd rfl rfl (by exact (show Les [.d (D.i .i64 x49.time), .d (D.i .i64 x49.task)] (List.map AV.d [.i .i64 x49.time, .i .i64 x49.task]) from ⟨(Le.refl _), (Le.refl _), trivial⟩))).does) (Wt.none rfl) rfl rfl ?_
         refine WL.as rfl rfl ?_
         refine WL.ns ?_
         refine wc_sr ?_
         refine WL.qn (y_fieldAddrc f62_1 rfl) rfl ?_
         refine WL.qn (y_loadc rfl a3 rfl) rfl ?_
         refine WL.qn (y_loadc rfl a3 rfl) rfl ?_
         refine WL.qn (y_eql rfl rfl) rfl ?_
         refine WL.as rfl rfl ?_
         refine WL.ns ?_
         refine wc_ret ?_
         exact we_ret (rs1 rfl (rv_t rfl)) ⟨h, (Le.refl _), ⟨⟨rfl, Les.refl _⟩, ⟨rfl, Les.refl _⟩, ⟨rfl, rfl, rfl, rfl⟩, trivial⟩⟩
        ·rintro rv st1 ⟨h, hr, hst⟩
         subst hk51
         dsimp only at h
         refine WL.cast 16 rfl hr ?_
         refine WL.weak hst ?_
         refine WL.ns ?_
         refine wc_cond rfl (fun hc4 => ?_) (fun hc4 => ?_)
         ·replace h := condT h hc4
          refine wc_sr ?_
          refine WL.mv rfl rfl ?_
          refine WL.as rfl rfl ?_
          refine WL.ns ?_
          refine wc_ret ?_
          refine we_blk_ret ?_
          refine we_seq_ret ?_
          refine we_lp_ret ?_
          refine we_blk_ret ?_
          refine we_lp_ret ?_
          exact we_ret (rs1 rfl (rv_t rfl)) ⟨t47, h, (Le.refl _), ⟨⟨rfl, Les.refl _⟩, ⟨rfl, Les.refl _⟩, ⟨rfl, rfl, rfl, rfl⟩, trivial⟩⟩
         ·replace h := condF h hc4
          refine wc_skip ?_
          refine we_blk ?_
          refine we_seq ?_
          refine wc_region ?_
          refine WL.qn (y_add rfl rfl rfl) rfl ?_
          refine WL.mv rfl rfl ?_
          refine WL.nil ?_
          exact we_lp ⟨n, ⟨(IntKind.i64.wrap (t47 + 1)), h, (Sub.cons rfl (Le.refl _) (Sub.cons rfl (Le.refl _) (Sub.cons rfl (Le.refl _) (Sub.cons rfl (Le.refl _) (Sub.nil _))))), ⟨⟨rfl, Les.refl _⟩, ⟨rfl, Les.refl _⟩, ⟨rfl, rfl, rfl, rfl⟩, trivial⟩⟩, Nat.lt_succ_self n⟩
       ·replace h := condF h hc3
        refine wc_exit ?_
        refine we_seq_exit ?_
        refine we_lp_exit ?_
        refine we_blk_hit ?_
        exact we_lp ⟨h, (Sub.nil _), ⟨⟨rfl, Les.refl _⟩, ⟨rfl, Les.refl _⟩, ⟨rfl, rfl, rfl, rfl⟩, trivial⟩⟩
      ·rintro env1 st1 ⟨h, hsub, hst⟩
       subst hk45
       dsimp only at h
       refine WC.sub hsub (WC.weak hst ?_)
       refine wc_sr ?_
       refine WL.as rfl rfl ?_
       refine WL.ns ?_
       refine wc_ret ?_
       exact we_ret (rs1 rfl (rv_t rfl)) ⟨(-1), h, (Le.refl _), ⟨⟨rfl, Les.refl _⟩, ⟨rfl, Les.refl _⟩, ⟨rfl, rfl, rfl, rfl⟩, trivial⟩⟩
     ·rintro rv st1 ⟨t43, h, hr, hst⟩
      subst hk44
      dsimp only at h
      refine WL.cast 10 rfl hr ?_
      refine WL.weak hst ?_
      refine WL.as rfl rfl ?_
      refine WL.ns ?_
      refine wc_seq ?_
      refine wc_sr ?_
      refine WL.mv rfl rfl ?_
      refine WL.qn (y_eql rfl rfl) rfl ?_
      refine WL.ns ?_
      refine wc_cond rfl (fun hc5 => ?_) (fun hc5 => ?_)
      ·replace h := condT h hc5
       refine wc_sr ?_
       refine WL.freezeX [0, 8] [] 2 (List.map E62 r37) rfl (encA_map E62_eq r37) ⟨rfl, rfl, trivial⟩ trivial ?_
       refine WL.mv rfl rfl ?_
       refine WL.as rfl rfl ?_
       refine WL.ns ?_
       refine wc_ret ?_
       refine we_seq_ret ?_
       exact we_ret (rs1 rfl (rv_t rfl)) ⟨r37, h, (Le.refl _), ⟨⟨rfl, Les.refl _⟩, ⟨rfl, Les.refl _⟩, trivial, trivial⟩⟩
      ·replace h := condF h hc5
       refine wc_skip ?_
       refine we_seq ?_
       replace h := letkS h
       obtain ⟨k54, hk54, h⟩ := h
       refine wc_cut (fun env' st' => ∃ (iq52 : Int), ∃ (l53 : List Due), k54 iq52 l53 = some r ∧ Sub [(0, .os 2 ver38), (5, .d (D.i .i64 iq52))] env' ∧ SLe st' [.row 26 (vecA 32 (fun j => .d (.sl (List.map E3 (r33.ready j)))) ++ ([.d (.sl (List.map E62 r33.delays)), .d (D.i .i64 r33.run)] : List AV)), .row 26 [sN, sN, sN, sN, sN, sN, sN, sN, sN, sN, sN, sN, sN, sN, sN, sN, sN, sN, sN, sN, sN, sN, sN, sN, sN, sN, sN, sN, sN, sN, sN, sN, sN, .d (D.i .i64 0)], .os 62 2 ver38 (List.map (encA R62) l53)]) ?_ ?_
       ·refine wc_sr ?_
        refine WL.mv rfl rfl ?_
        refine WL.qn (y_add rfl rfl rfl) rfl ?_
        refine WL.as rfl rfl ?_
        refine WL.ns ?_
        refine wc_block ?_
        refine wc_loop (fun n env' st' => ∃ (iq58 : Int), ∃ (j59 : Int), ∃ (l60 : List Due), f18_l2 task1 k54 n iq58 j59 l60 = some r ∧ Sub [(0, .os 2 ver38), (1, .fn (.func 40) [] [.d (.pc (E3 task1))]), (5, .d (D.i .i64 iq58)), (6, .d (D.i .i64 j59))] env' ∧ SLe st' [.row 26 (vecA 32 (fun j => .d (.sl (List.map E3 (r33.ready j)))) ++ ([.d (.sl (List.map E62 r33.delays)), .d (D.i .i64 r33.run)] : List AV)), .row 26 [sN, sN, sN, sN, sN, sN, sN, sN, sN, sN, sN, sN, sN, sN, sN, sN, sN, sN, sN, sN, sN, sN, sN, sN, sN, sN, sN, sN, sN, sN, sN, sN, sN, .d (D.i .i64 0)], .os 62 2 ver38 (List.map (encA R62) l60)]) (fun n => n) 9223372036854775808 ⟨t43, (IntKind.i64.wrap (t43 + 1)), r37, h, (Sub.cons rfl (Le.refl _) (Sub.cons rfl (Le.refl _) (Sub.cons rfl (Le.refl _) (Sub.cons rfl (Le.refl _) (Sub.nil _))))), ⟨⟨rfl, Les.refl _⟩, ⟨rfl, Les.refl _⟩, ⟨rfl, rfl, rfl, rfl⟩, trivial⟩⟩ ?_
        rintro n env1 st1 ⟨iq58, j59, l60, h, hsub, hst⟩
        cases n with
        | zero => rw [f18_l2] at h; cases h
        | succ n =>
        rw [f18_l2] at h
        refine WC.sub hsub (WC.weak hst ?_)
        refine wc_seq ?_
        refine wc_sr ?_
        refine WL.mv rfl rfl ?_
        refine WL.mv rfl rfl ?_
        refine WL.qn (y_len_osmap (encA R62) l60 e24 rfl rfl rfl) rfl ?_
        refine WL.qn (y_lss rfl rfl) rfl ?_
        refine WL.ns ?_
        refine wc_cond rfl (fun hc6 => ?_) (fun hc6 => ?_)
        ·replace h := condT h hc6
         refine wc_skip ?_
         refine we_seq ?_
         replace h := letkS h
         obtain ⟨k68, hk68, h⟩ := h
         refine wc_cut (fun env' st' => ∃ (iq64 : Int), ∃ (l65 : List Due), ∃ (c3066 : Int), ∃ (c3167 : Int), k68 iq64 l65 c3066 c3167 = some r ∧ Sub [(0, .os 2 ver38), (1, .fn (.func 40) [] [.d (.pc (E3 task1))]), (5, .d (D.i .i64 iq64)), (6, .d (D.i .i64 j59))] env' ∧ SLe st' [.row 26 (vecA 32 (fun j => .d (.sl (List.map E3 (r33.ready j)))) ++ ([.d (.sl (List.map E62 r33.delays)), .d (D.i .i64 r33.run)] : List AV)), .row 26 [sN, sN, sN, sN, sN, sN, sN, sN, sN, sN, sN, sN, sN, sN, sN, sN, sN, sN, sN, sN, sN, sN, sN, sN, sN, sN, sN, sN, sN, sN, sN, sN, sN, .d (D.i .i64 0)], .os 62 2 ver38 (List.map (encA R62) l65), .row 62 [.d (D.i .i64 c3066), .d (D.i .i64 c3167)]]) ?_ ?_
         ·refine wc_block ?_
          refine wc_sr ?_
          refine WL.mv rfl rfl ?_
          refine WL.mv rfl rfl ?_
          obtain ⟨x69, hx69, h⟩ := bindS h
          refine WL.qn (y_pe e24 rfl rfl rfl hx69) rfl ?_
          refine WL.qn (y_load_peLN (fo := 0) rfl rfl rfl a62 s62 (fun _ => rfl) hx69 rfl rfl) rfl ?_
          refine WL.s ((b_alloc z62).does) (Wt.none rfl) rfl rfl ?_
          refine WL.s0 (d_store rfl rfl rfl rfl rfl rfl s62 rfl rfl) (Wt.none rfl) rfl ?_
          refine WL.ns ?_
          refine wc_sr ?_
          refine WL.mv rfl rfl ?_
          refine WL.qn (y_loadN rfl rfl a62 s62 rfl) rfl ?_
          obtain ⟨k71, hk71, h⟩ := letkS h
          refine WL.inl (us := [.ag [.d (D.i .i64 x69.time), .d (D.i .i64 x69.task)], .d (.pc (E3 task1))]) (fun rv st' => (k71 () = some r ∧ Le rv (.d (D.b (decide (x69.task = task1)))) ∧ SLe st' [.row 26 (vecA 32 (fun j => .d (.sl (List.map E3 (r33.ready j)))) ++ ([.d (.sl (List.map E62 r33.delays)), .d (D.i .i64 r33.run)] : List AV)), .row 26 [sN, sN, sN, sN, sN, sN, sN, sN, sN, sN, sN, sN, sN, sN, sN, sN, sN, sN, sN, sN, sN, sN, sN, sN, sN, sN, sN, sN, sN, sN, sN, sN, sN, .d (D.i .i64 0)], .os 62 2 ver38 (List.map (encA R62) l60), .row 62 [.d (D.i .i64 x69.time), .d (D.i .i64 x69.task)]])) rfl rfl rfl rfl rfl ?_ (Wt.none rfl) rfl rfl ?_
          ·refine ctr_intro Try.func40 (by kernel_rfl) rfl rfl rfl (fun mm φφ ww hm70 => ?_)
           refine wc_sr ?_
           refine WL.s ((b_boxd rfl rfl (by exact (show Les [.d (D.i .i64 x69.time), .d (D.i .i64 x69.task)] (List.map AV.d [.i .i64 x69.time, .i .i64 x69.task]) from ⟨(Le.refl _), (Le.refl _), trivial⟩))).does) (Wt.none rfl) rfl rfl ?_
           refine WL.as rfl rfl ?_
           refine WL.ns ?_
           refine wc_sr ?_
           refine WL.qn (y_fieldAddrc f62_1 rfl) rfl ?_
           refine WL.qn (y_loadc rfl a3 rfl) rfl ?_
           refine WL.qn (y_loadc rfl a3 rfl) rfl ?_
           refine WL.qn (y_eql rfl rfl) rfl ?_
           refine WL.as rfl rfl ?_
           refine WL.ns ?_
           refine wc_ret ?_
           exact we_ret (rs1 rfl (rv_t rfl)) ⟨h, (Le.refl _), ⟨⟨rfl, Les.refl _⟩, ⟨rfl, Les.refl _⟩, ⟨rfl, rfl, rfl, rfl⟩, ⟨rfl, Les.refl _⟩, trivial⟩⟩
          ·rintro rv st1 ⟨h, hr, hst⟩
           subst hk71
           dsimp only at h
           refine WL.cast 28 rfl hr ?_
           refine WL.weak hst ?_
           refine WL.qn (y_not rfl) rfl ?_
           refine WL.ns ?_
           refine wc_cond rfl (fun hc7 => ?_) (fun hc7 => ?_)
           ·replace h := condT h hc7
            refine wc_sr ?_
            refine WL.mv rfl rfl ?_
            refine WL.mv rfl rfl ?_
            refine WL.qn (y_loadN rfl rfl a62 s62 rfl) rfl ?_
            obtain ⟨x72, hx72, h⟩ := bindS h
            refine WL.qn (y_pe e24 rfl rfl rfl hx72) rfl ?_
            refine WL.s0 (d_store_peL (r := .d (.ag (R62 x69))) (R := R62) (k := 2) (i := iq58) (fo := 0) x69 rfl rfl rfl rfl (Le.agd ⟨(Le.refl _), (Le.refl _), trivial⟩) rfl rfl rfl s62 rfl (fun _ => rfl) hx72 rfl rfl) (Wt.none rfl) rfl ?_
            refine WL.st (st' := [.row 26 (vecA 32 (fun j => .d (.sl (List.map E3 (r33.ready j)))) ++ ([.d (.sl (List.map E62 r33.delays)), .d (D.i .i64 r33.run)] : List AV)), .row 26 [sN, sN, sN, sN, sN, sN, sN, sN, sN, sN, sN, sN, sN, sN, sN, sN, sN, sN, sN, sN, sN, sN, sN, sN, sN, sN, sN, sN, sN, sN, sN, sN, sN, .d (D.i .i64 0)], .os 62 2 ver38 (List.map (encA R62) (List.set l60 (Int.toNat iq58) x69)), .row 62 [.d (D.i .i64 x69.time), .d (D.i .i64 x69.task)]]) rfl ?_
            refine WL.ns ?_
            refine wc_region ?_
            refine WL.mv rfl rfl ?_
            refine WL.qn (y_add rfl rfl rfl) rfl ?_
            refine WL.as rfl rfl ?_
            refine WL.nil ?_
            refine we_blk ?_
            exact we_lp ⟨(IntKind.i64.wrap (iq58 + 1)), (List.set l60 (Int.toNat iq58) x69), x69.time, x69.task, h, (Sub.cons rfl (Le.refl _) (Sub.cons rfl (Le.refl _) (Sub.cons rfl (Le.refl _) (Sub.cons rfl (Le.refl _) (Sub.nil _))))), ⟨⟨rfl, Les.refl _⟩, ⟨rfl, Les.refl _⟩, ⟨rfl, rfl, rfl, rfl⟩, ⟨rfl, Les.refl _⟩, trivial⟩⟩
           ·replace h := condF h hc7
            refine wc_skip ?_
            refine we_blk ?_
            exact we_lp ⟨iq58, l60, x69.time, x69.task, h, (Sub.cons rfl (Le.refl _) (Sub.cons rfl (Le.refl _) (Sub.cons rfl (Le.refl _) (Sub.cons rfl (Le.refl _) (Sub.nil _))))), ⟨⟨rfl, Les.refl _⟩, ⟨rfl, Les.refl _⟩, ⟨rfl, rfl, rfl, rfl⟩, ⟨rfl, Les.refl _⟩, trivial⟩⟩
         ·rintro env1 st1 ⟨iq64, l65, c3066, c3167, h, hsub, hst⟩
          subst hk68
          dsimp only at h
          refine WC.sub hsub (WC.weak hst ?_)
          refine wc_region ?_
          refine WL.mv rfl rfl ?_
          refine WL.qn (y_add rfl rfl rfl) rfl ?_
          refine WL.as rfl rfl ?_
          refine WL.nil ?_
          refine WE.drop 3 (env' := [(0, .os 2 ver38), (1, .fn (.func 40) [] [.d (.pc (E3 task1))]), (5, .d (D.i .i64 iq64)), (6, .d (D.i .i64 (IntKind.i64.wrap (j59 + 1))))]) (Sub.one rfl (Sub.one rfl (Sub.one rfl (Sub.one rfl (Sub.nil _))))) rfl (stLt_cons rfl (stLt_cons rfl (stLt_cons (lt_os _ _ _ _ _ _) rfl))) (Nat.le_trans (Nat.le_of_eq hm39) (Nat.le_of_ble_eq_true rfl)) ?_
          exact we_lp ⟨n, ⟨iq64, (IntKind.i64.wrap (j59 + 1)), l65, h, (Sub.cons rfl (Le.refl _) (Sub.cons rfl (Le.refl _) (Sub.cons rfl (Le.refl _) (Sub.cons rfl (Le.refl _) (Sub.nil _))))), ⟨⟨rfl, Les.refl _⟩, ⟨rfl, Les.refl _⟩, ⟨rfl, rfl, rfl, rfl⟩, trivial⟩⟩, Nat.lt_succ_self n⟩
        ·replace h := condF h hc6
         refine wc_exit ?_
         refine we_seq_exit ?_
         refine we_lp_exit ?_
         refine we_blk_hit ?_
         exact we_lp ⟨iq58, l60, h, (Sub.cons rfl (Le.refl _) (Sub.cons rfl (Le.refl _) (Sub.nil _))), ⟨⟨rfl, Les.refl _⟩, ⟨rfl, Les.refl _⟩, ⟨rfl, rfl, rfl, rfl⟩, trivial⟩⟩
       ·rintro env1 st1 ⟨iq52, l53, h, hsub, hst⟩
        subst hk54
        dsimp only at h
        refine WC.sub hsub (WC.weak hst ?_)
        refine wc_sr ?_
        refine WL.mv rfl rfl ?_
        refine WL.mv rfl rfl ?_
        replace h := guardBS h
        obtain ⟨hgg73, h⟩ := h
        refine WL.qn (y_sliceO l53 (l := iq52) (h := (List.length l53 : Int)) e24 rfl rfl ⟨_, rfl⟩ rfl hgg73) rfl ?_
        replace h := guardBS h
        obtain ⟨hgg74, h⟩ := h
        refine WL.s0 (d_clearL (R := R62) l53 ((Due.mk 0 0) : Due) l24 z62 rfl (by decide) rfl rfl rfl rfl Piece.ow rfl rfl hgg74) (Wt.none rfl) rfl ?_
        refine WL.ns ?_
        refine wc_sr ?_
        refine WL.freezeX [0, 36] [] 2 (List.map E62 (clearF l53 (Int.toNat iq52) (Int.toNat (List.length l53 : Int) - Int.toNat iq52) ((Due.mk 0 0) : Due))) rfl (encA_map E62_eq (clearF l53 (Int.toNat iq52) (Int.toNat (List.length l53 : Int) - Int.toNat iq52) ((Due.mk 0 0) : Due))) ⟨rfl, rfl, trivial⟩ trivial ?_
        refine WL.mv rfl rfl ?_
        refine WL.mv rfl rfl ?_
        replace h := guardBS h
        obtain ⟨hgg75, h⟩ := h
        refine WL.qn (y_sliceL E62 (clearF l53 (Int.toNat iq52) (Int.toNat (List.length l53 : Int) - Int.toNat iq52) ((Due.mk 0 0) : Due)) (l := 0) (h := iq52) e24 rfl (Le.refl _) rfl ⟨_, rfl⟩ hgg75 (fun _ => rfl)) rfl ?_
        refine WL.as rfl rfl ?_
        refine WL.ns ?_
        refine wc_ret ?_
        exact we_ret (rs1 rfl (rv_t rfl)) ⟨(sliceF (clearF l53 (Int.toNat iq52) (Int.toNat (List.length l53 : Int) - Int.toNat iq52) ((Due.mk 0 0) : Due)) 0 iq52), h, (Le.refl _), ⟨⟨rfl, Les.refl _⟩, ⟨rfl, Les.refl _⟩, trivial, trivial⟩⟩
    ·rintro rv st1 ⟨t40, h, hr, hst⟩
     subst hk41
     dsimp only at h
     refine WL.cast 8 rfl hr ?_
     refine WL.weak hst ?_
     refine WL.as rfl rfl ?_
     refine WL.ns ?_
     refine wc_ret ?_
     exact we_ret (rs1 rfl (rv_t rfl)) ⟨t40, h, (Le.refl _), ⟨⟨rfl, Les.refl _⟩, ⟨rfl, Les.refl _⟩, trivial, trivial⟩⟩
   ·rintro rv st1 ⟨t35, h, hr, hst⟩
    subst hk36
    dsimp only at h
    refine WL.cast 25 rfl hr ?_
    refine WL.weak hst ?_
    refine WL.qn (y_fieldAddr f26_1 rfl) rfl ?_
    refine WL.s0 (d_store rfl rfl rfl rfl rfl rfl s24 rfl rfl) (Wt.none rfl) rfl ?_
    refine WL.st (st' := [.row 26 (vecA 32 (fun j => .d (.sl (List.map E3 (r33.ready j)))) ++ ([.d (.sl (List.map E62 t35)), .d (D.i .i64 r33.run)] : List AV)), .row 26 [sN, sN, sN, sN, sN, sN, sN, sN, sN, sN, sN, sN, sN, sN, sN, sN, sN, sN, sN, sN, sN, sN, sN, sN, sN, sN, sN, sN, sN, sN, sN, sN, sN, .d (D.i .i64 0)], .dead]) rfl ?_
    refine WL.ns ?_
    refine wc_sr ?_
    refine WL.qn (y_loadN rfl rfl a26 s26 rfl) rfl ?_
    refine WL.s0 (d_store rfl rfl rfl rfl rfl rfl s26 rfl rfl) (Wt.none rfl) rfl ?_
    refine WL.st (st' := [.row 26 (vecA 32 (fun j => .d (.sl (List.map E3 (r33.ready j)))) ++ ([.d (.sl (List.map E62 t35)), .d (D.i .i64 r33.run)] : List AV)), .row 26 (vecA 32 (fun j => .d (.sl (List.map E3 (r33.ready j)))) ++ ([.d (.sl (List.map E62 t35)), .d (D.i .i64 r33.run)] : List AV)), .dead]) rfl ?_
    refine WL.as rfl rfl ?_
    refine WL.ns ?_
    refine wc_ret ?_
    obtain rfl := Option.some.inj h
    exact we_ret_fn (rs2 rfl (rv_cN rfl rfl a26 s26 rfl) (rv_t rfl)) (Le.tud ⟨(Le.agd ⟨(Le.refl _), (Le.refl _), (Le.refl _), (Le.refl _), (Le.refl _), (Le.refl _), (Le.refl _), (Le.refl _), (Le.refl _), (Le.refl _), (Le.refl _), (Le.refl _), (Le.refl _), (Le.refl _), (Le.refl _), (Le.refl _), (Le.refl _), (Le.refl _), (Le.refl _), (Le.refl _), (Le.refl _), (Le.refl _), (Le.refl _), (Le.refl _), (Le.refl _), (Le.refl _), (Le.refl _), (Le.refl _), (Le.refl _), (Le.refl _), (Le.refl _), (Le.refl _), (Le.refl _), (Le.refl _), trivial⟩), (Le.refl _), trivial⟩)

theorem f19_c (q0 : Queues) (now1 : Int) {r : Queues × (List Int) × Int} (h : f19 q0 now1 = some r) : Pu Try.prog 19 [.ag (R26 q0), .i .i64 now1] (.tu [.ag (R26 r.1), .sl (List.map E3 r.2.1), .i .i64 r.2.2]) := by
 unfold f19 at h
 refine fn_intro Try.func19 (by kernel_rfl) rfl rfl rfl (fun φφ ww => ?_)
 refine wc_sr ?_
 refine WL.s ((b_box rfl rfl).does) (Wt.none rfl) rfl rfl ?_
 refine WL.s ((b_alloc z26).does) (Wt.none rfl) rfl rfl ?_
 refine WL.as rfl rfl ?_
 refine WL.as rfl rfl ?_
 refine WL.ns ?_
 refine wc_seq ?_
 refine wc_sr ?_
 refine WL.qn (y_loadN rfl rfl a26 s26 rfl) rfl ?_
 obtain ⟨r51, hr51, h⟩ := bindS h
 refine WL.fn rfl rfl rfl rfl (f10_c _ hr51) ⟨(Le.agd ⟨(Le.refl _), (Le.refl _), (Le.refl _), (Le.refl _), (Le.refl _), (Le.refl _), (Le.refl _), (Le.refl _), (Le.refl _), (Le.refl _), (Le.refl _), (Le.refl _), (Le.refl _), (Le.refl _), (Le.refl _), (Le.refl _), (Le.refl _), (Le.refl _), (Le.refl _), (Le.refl _), (Le.refl _), (Le.refl _), (Le.refl _), (Le.refl _), (Le.refl _), (Le.refl _), (Le.refl _), (Le.refl _), (Le.refl _), (Le.refl _), (Le.refl _), (Le.refl _), (Le.refl _), (Le.refl _), trivial⟩), trivial⟩ (Wt.none rfl) rfl rfl ?_
 refine WL.qn (y_not rfl) rfl ?_
 refine WL.ns ?_
 refine wc_cond rfl (fun hc1 => ?_) (fun hc1 => ?_)
 ·replace h := condT h hc1
  refine wc_sr ?_
  refine WL.qn (y_build p26 z26 rfl rfl) rfl ?_
  refine WL.s0 (d_store rfl rfl rfl rfl rfl rfl s26 rfl rfl) (Wt.none rfl) rfl ?_
  refine WL.st (st' := [.row 26 (vecA 32 (fun j => .d (.sl (List.map E3 (q0.ready j)))) ++ ([.d (.sl (List.map E62 q0.delays)), .d (D.i .i64 q0.run)] : List AV)), .row 26 [sN, sN, sN, sN, sN, sN, sN, sN, sN, sN, sN, sN, sN, sN, sN, sN, sN, sN, sN, sN, sN, sN, sN, sN, sN, sN, sN, sN, sN, sN, sN, sN, sN, .d (D.i .i64 0)]]) rfl ?_
  refine WL.as rfl rfl ?_
  refine WL.as rfl rfl ?_
  refine WL.ns ?_
  refine wc_ret ?_
  refine we_seq_ret ?_
  obtain rfl := Option.some.inj h
  exact we_ret_fn (rs3 rfl (rv_cN rfl rfl a26 s26 rfl) (rv_t rfl) (rv_t rfl)) (Le.tud ⟨(Le.agd ⟨Le.nil, Le.nil, Le.nil, Le.nil, Le.nil, Le.nil, Le.nil, Le.nil, Le.nil, Le.nil, Le.nil, Le.nil, Le.nil, Le.nil, Le.nil, Le.nil, Le.nil, Le.nil, Le.nil, Le.nil, Le.nil, Le.nil, Le.nil, Le.nil, Le.nil, Le.nil, Le.nil, Le.nil, Le.nil, Le.nil, Le.nil, Le.nil, Le.nil, (Le.refl _), trivial⟩), Le.nil, (Le.refl _), trivial⟩)
 ·replace h := condF h hc1
  refine wc_skip ?_
  refine we_seq ?_
  refine wc_sr ?_
  refine WL.qn (y_loadN rfl rfl a26 s26 rfl) rfl ?_
  obtain ⟨r52, hr52, h⟩ := bindS h
  refine WL.fn rfl rfl rfl rfl (O.f32_c _ hr52) ⟨(Le.agd ⟨(Le.refl _), (Le.refl _), (Le.refl _), (Le.refl _), (Le.refl _), (Le.refl _), (Le.refl _), (Le.refl _), (Le.refl _), (Le.refl _), (Le.refl _), (Le.refl _), (Le.refl _), (Le.refl _), (Le.refl _), (Le.refl _), (Le.refl _), (Le.refl _), (Le.refl _), (Le.refl _), (Le.refl _), (Le.refl _), (Le.refl _), (Le.refl _), (Le.refl _), (Le.refl _), (Le.refl _), (Le.refl _), (Le.refl _), (Le.refl _), (Le.refl _), (Le.refl _), (Le.refl _), (Le.refl _), trivial⟩), trivial⟩ (Wt.none rfl) rfl rfl ?_
  refine WL.s0 (d_store rfl rfl rfl rfl rfl rfl s26 rfl rfl) (Wt.none rfl) rfl ?_
  refine WL.st (st' := [.row 26 (vecA 32 (fun j => .d (.sl (List.map E3 (r52.ready j)))) ++ ([.d (.sl (List.map E62 r52.delays)), .d (D.i .i64 r52.run)] : List AV)), .row 26 [sN, sN, sN, sN, sN, sN, sN, sN, sN, sN, sN, sN, sN, sN, sN, sN, sN, sN, sN, sN, sN, sN, sN, sN, sN, sN, sN, sN, sN, sN, sN, sN, sN, .d (D.i .i64 0)]]) rfl ?_
  refine WL.ns ?_
  refine wc_sr ?_
  refine WL.as rfl rfl ?_
  refine WL.ns ?_
  refine wc_sr ?_
  refine WL.as rfl rfl ?_
  refine WL.nil_os 8 3 1 rfl ?_
  refine WL.ns ?_
  replace h := letkS h
  obtain ⟨k56, hk56, h⟩ := h
  refine wc_cut (fun env' st' => ∃ (n53 : Int), ∃ (l54 : List Int), ∃ (ver55 : Nat), k56 n53 l54 = some r ∧ Sub [(2, .pt 0 0), (4, .pt 1 0), (7, .d (D.i .i64 n53)), (8, .os 2 ver55)] env' ∧ SLe st' [.row 26 (vecA 32 (fun j => .d (.sl (List.map E3 (r52.ready j)))) ++ ([.d (.sl (List.map E62 r52.delays)), .d (D.i .i64 r52.run)] : List AV)), .row 26 [sN, sN, sN, sN, sN, sN, sN, sN, sN, sN, sN, sN, sN, sN, sN, sN, sN, sN, sN, sN, sN, sN, sN, sN, sN, sN, sN, sN, sN, sN, sN, sN, sN, .d (D.i .i64 0)], .os 3 1 ver55 (List.map (encA E3) l54)]) ?_ ?_
  ·refine wc_block ?_
   refine wc_loop (fun n env' st' => ∃ (n60 : Int), ∃ (l61 : List Int), ∃ (ver62 : Nat), f19_l1 now1 r52 k56 n n60 l61 = some r ∧ Sub [(1, .d (D.i .i64 now1)), (2, .pt 0 0), (4, .pt 1 0), (7, .d (D.i .i64 n60)), (8, .os 2 ver62)] env' ∧ SLe st' [.row 26 (vecA 32 (fun j => .d (.sl (List.map E3 (r52.ready j)))) ++ ([.d (.sl (List.map E62 r52.delays)), .d (D.i .i64 r52.run)] : List AV)), .row 26 [sN, sN, sN, sN, sN, sN, sN, sN, sN, sN, sN, sN, sN, sN, sN, sN, sN, sN, sN, sN, sN, sN, sN, sN, sN, sN, sN, sN, sN, sN, sN, sN, sN, .d (D.i .i64 0)], .os 3 1 ver62 (List.map (encA E3) l61)]) (fun n => n) 9223372036854775808 ⟨0, [], _, h, (Sub.cons rfl (Le.refl _) (Sub.cons rfl (Le.refl _) (Sub.cons rfl (Le.refl _) (Sub.cons rfl (Le.refl _) (Sub.cons rfl (Le.refl _) (Sub.nil _)))))), ⟨⟨rfl, Les.refl _⟩, ⟨rfl, Les.refl _⟩, ⟨rfl, rfl, rfl, rfl⟩, trivial⟩⟩ ?_
   rintro n env1 st1 ⟨n60, l61, ver62, h, hsub, hst⟩
   cases n with
   | zero => rw [f19_l1] at h; cases h
   | succ n =>
   rw [f19_l1] at h
   refine WC.sub hsub (WC.weak hst ?_)
   refine wc_seq ?_
   refine wc_sr ?_
   refine WL.mv rfl rfl ?_
   refine WL.qn (y_fieldAddr f26_1 rfl) rfl ?_
   refine WL.qn (y_load rfl rfl a24 rfl) rfl ?_
   refine WL.qn (y_len_map E62 r52.delays e24 rfl rfl (Le.refl _)) rfl ?_
   refine WL.qn (y_lss rfl rfl) rfl ?_
   refine WL.mv rfl rfl ?_
   obtain ⟨b66, hb66, h⟩ := bindS h
   apply WL.grp 9 (t := 20) (d := 29) (z := b66)
   ·exact rfl
   ·intro hg20
    have h := condT hb66 hg20
    refine WL.qy (y_fieldAddr f26_1 rfl) rfl rfl rfl ?_
    refine WL.qy (y_load rfl rfl a24 rfl) rfl rfl rfl ?_
    refine WL.qy (y_move rfl) rfl rfl rfl ?_
    obtain ⟨x67, hx67, h⟩ := bindS h
    refine WL.qy (y_indexAddr e24 rfl (Le.refl _) rfl (idx_nonneg hx67) (idx_row E62_eq hx67) rfl) rfl rfl rfl ?_
    refine WL.qy (y_fieldAddrc f62_0 rfl) rfl rfl rfl ?_
    refine WL.qy (y_loadc rfl a2 rfl) rfl rfl rfl ?_
    refine WL.qy (y_move rfl) rfl rfl rfl ?_
    refine WL.qy (y_leq rfl rfl) rfl rfl rfl ?_
    refine WL.qn (y_pick_t rfl rfl) rfl ?_
    obtain rfl := Option.some.inj h
    exact WL.nil ⟨rfl, [_, _, _, _, _, _, _, _, _], rfl, rfl, rfl⟩
   ·intro hg20
    have h := condF hb66 hg20
    refine WL.skips 8 rfl ?_
    refine WL.qn (y_pick_f rfl rfl) rfl ?_
    obtain rfl := Option.some.inj h
    exact WL.nil ⟨rfl, [_, _, _, _, _, _, _, _, _], rfl, rfl, rfl⟩
   refine WL.ns ?_
   refine wc_cond rfl (fun hc2 => ?_) (fun hc2 => ?_)
   ·replace h := condT h hc2
    refine wc_skip ?_
    refine we_seq ?_
    refine wc_block ?_
    refine wc_sr ?_
    refine WL.mv rfl rfl ?_
    refine WL.qn (y_fieldAddr f26_1 rfl) rfl ?_
    refine WL.qn (y_load rfl rfl a24 rfl) rfl ?_
    refine WL.mv rfl rfl ?_
    obtain ⟨x68, hx68, h⟩ := bindS h
    refine WL.qn (y_indexAddr e24 rfl (Le.refl _) rfl (idx_nonneg hx68) (idx_row E62_eq hx68) rfl) rfl ?_
    refine WL.qn (y_fieldAddrc f62_1 rfl) rfl ?_
    refine WL.qn (y_loadc rfl a3 rfl) rfl ?_
    refine WL.s ((NewOs.b (n_buildSlice l22 z3 rfl (by decide) (by decide) rfl rfl rfl (by decide))).does) (Wt.none rfl) rfl rfl ?_
    replace h := guardBS h
    obtain ⟨hgg69, h⟩ := h
    refine WL.s (d_appendL E3 l61 [x68.task] l22 z3 rfl (by decide) rfl rfl rfl rfl (Src.own rfl) (fun _ => rfl) (fun _ => rfl) hgg69) (Wt.none rfl) rfl rfl ?_
    refine WL.as rfl rfl ?_
    refine WL.ns ?_
    refine wc_region ?_
    refine WL.mv rfl rfl ?_
    refine WL.qn (y_add rfl rfl rfl) rfl ?_
    refine WL.as rfl rfl ?_
    refine WL.nil ?_
    refine we_blk ?_
    refine WE.drop 3 (env' := [(1, .d (D.i .i64 now1)), (2, .pt 0 0), (4, .pt 1 0), (7, .d (D.i .i64 (IntKind.i64.wrap (n60 + 1)))), (8, .os 2 (ver62 + 1))]) (Sub.one rfl (Sub.one rfl (Sub.one rfl (Sub.one rfl (Sub.one rfl (Sub.nil _)))))) rfl (stLt_cons rfl (stLt_cons rfl (stLt_cons (lt_os _ _ _ _ _ _) rfl))) (Nat.zero_le _) ?_
    exact we_lp ⟨n, ⟨(IntKind.i64.wrap (n60 + 1)), (l61 ++ [x68.task]), _, h, (Sub.cons rfl (Le.refl _) (Sub.cons rfl (Le.refl _) (Sub.cons rfl (Le.refl _) (Sub.cons rfl (Le.refl _) (Sub.cons rfl (Le.refl _) (Sub.nil _)))))), ⟨⟨rfl, Les.refl _⟩, ⟨rfl, Les.refl _⟩, ⟨rfl, rfl, rfl, rfl⟩, trivial⟩⟩, Nat.lt_succ_self n⟩
   ·replace h := condF h hc2
    refine wc_exit ?_
    refine we_seq_exit ?_
    refine we_lp_exit ?_
    refine we_blk_hit ?_
    exact we_lp ⟨n60, l61, _, h, (Sub.cons rfl (Le.refl _) (Sub.cons rfl (Le.refl _) (Sub.cons rfl (Le.refl _) (Sub.cons rfl (Le.refl _) (Sub.nil _))))), ⟨⟨rfl, Les.refl _⟩, ⟨rfl, Les.refl _⟩, ⟨rfl, rfl, rfl, rfl⟩, trivial⟩⟩
  ·rintro env1 st1 ⟨n53, l54, ver55, h, hsub, hst⟩
   subst hk56
   dsimp only at h
   refine WC.sub hsub (WC.weak hst ?_)
   refine wc_sr ?_
   refine WL.qn (y_fieldAddr f26_1 rfl) rfl ?_
   refine WL.qn (y_load rfl rfl a24 rfl) rfl ?_
   refine WL.mv rfl rfl ?_
   replace h := guardBS h
   obtain ⟨hgg70, h⟩ := h
   refine WL.qn (y_sliceL E62 r52.delays (l := n53) (h := (List.length r52.delays : Int)) e24 rfl (Le.refl _) ⟨_, rfl⟩ rfl hgg70 (fun _ => rfl)) rfl ?_
   refine WL.qn (y_fieldAddr f26_1 rfl) rfl ?_
   refine WL.s0 (d_store rfl rfl rfl rfl rfl rfl s24 rfl rfl) (Wt.none rfl) rfl ?_
   refine WL.st (st' := [.row 26 (vecA 32 (fun j => .d (.sl (List.map E3 (r52.ready j)))) ++ ([.d (.sl (List.map E62 (sliceF r52.delays n53 (List.length r52.delays : Int)))), .d (D.i .i64 r52.run)] : List AV)), .row 26 [sN, sN, sN, sN, sN, sN, sN, sN, sN, sN, sN, sN, sN, sN, sN, sN, sN, sN, sN, sN, sN, sN, sN, sN, sN, sN, sN, sN, sN, sN, sN, sN, sN, .d (D.i .i64 0)], .os 3 1 ver55 (List.map (encA E3) l54)]) rfl ?_
   refine WL.ns ?_
   refine wc_sr ?_
   refine WL.qn (y_loadN rfl rfl a26 s26 rfl) rfl ?_
   refine WL.mv rfl rfl ?_
   refine WL.s0 (d_store rfl rfl rfl rfl rfl rfl s26 rfl rfl) (Wt.none rfl) rfl ?_
   refine WL.st (st' := [.row 26 (vecA 32 (fun j => .d (.sl (List.map E3 (r52.ready j)))) ++ ([.d (.sl (List.map E62 (sliceF r52.delays n53 (List.length r52.delays : Int)))), .d (D.i .i64 r52.run)] : List AV)), .row 26 (vecA 32 (fun j => .d (.sl (List.map E3 (r52.ready j)))) ++ ([.d (.sl (List.map E62 (sliceF r52.delays n53 (List.length r52.delays : Int)))), .d (D.i .i64 r52.run)] : List AV)), .os 3 1 ver55 (List.map (encA E3) l54)]) rfl ?_
   refine WL.as rfl rfl ?_
   refine WL.as rfl rfl ?_
   refine WL.ns ?_
   refine wc_ret ?_
   refine WE.freezeX [8, 47, 5] [] 2 (List.map E3 l54) rfl (encA_map E3_eq l54) ⟨rfl, rfl, rfl, trivial⟩ trivial ?_
   obtain rfl := Option.some.inj h
   exact we_ret_fn (rs3 rfl (rv_cN rfl rfl a26 s26 rfl) (rv_t rfl) (rv_t rfl)) (Le.tud ⟨(Le.agd ⟨(Le.refl _), (Le.refl _), (Le.refl _), (Le.refl _), (Le.refl _), (Le.refl _), (Le.refl _), (Le.refl _), (Le.refl _), (Le.refl _), (Le.refl _), (Le.refl _), (Le.refl _), (Le.refl _), (Le.refl _), (Le.refl _), (Le.refl _), (Le.refl _), (Le.refl _), (Le.refl _), (Le.refl _), (Le.refl _), (Le.refl _), (Le.refl _), (Le.refl _), (Le.refl _), (Le.refl _), (Le.refl _), (Le.refl _), (Le.refl _), (Le.refl _), (Le.refl _), (Le.refl _), (Le.refl _), trivial⟩), (Le.refl _), (Le.refl _), trivial⟩)

theorem f20_c (q0 : Queues) {r : Int × Bool} (h : f20 q0 = some r) : Pu Try.prog 20 [.ag (R26 q0)] (.tu [.i .i64 r.1, .b r.2]) := by
 unfold f20 at h
 refine fn_intro Try.func20 (by kernel_rfl) rfl rfl rfl (fun φφ ww => ?_)
 refine wc_sr ?_
 refine WL.s ((b_boxd rfl rfl (Les.refl _)).does) (Wt.none rfl) rfl rfl ?_
 refine WL.as rfl rfl ?_
 refine WL.as rfl rfl ?_
 refine WL.ns ?_
 refine wc_seq ?_
 refine wc_sr ?_
 refine WL.qn (y_loadcN rfl a26 s26 rfl) rfl ?_
 obtain ⟨r20, hr20, h⟩ := bindS h
 refine WL.fn rfl rfl rfl rfl (f10_c _ hr20) ⟨(Le.refl _), trivial⟩ (Wt.none rfl) rfl rfl ?_
 refine WL.qn (y_not rfl) rfl ?_
 refine WL.mv rfl rfl ?_
 apply WL.or 5 (t := 7) (d := 12)
 ·exact rfl
 ·intro hg7
  refine WL.qy (y_fieldAddrc f26_1 rfl) rfl rfl rfl ?_
  refine WL.qy (y_loadc rfl a24 rfl) rfl rfl rfl ?_
  refine WL.qy (y_len_map E62 q0.delays e24 rfl rfl (Le.refl _)) rfl rfl rfl ?_
  refine WL.qy (y_eql rfl rfl) rfl rfl rfl ?_
  refine WL.qn (y_pick_f rfl rfl) rfl ?_
  exact WL.nil ⟨rfl, [_, _, _, _, _], rfl, rfl, rfl⟩
 ·refine WL.skips 4 rfl ?_
  refine WL.qn (y_pick_t rfl rfl) rfl ?_
  exact WL.nil ⟨rfl, [_, _, _, _, _], rfl, rfl, rfl⟩
 refine WL.ns ?_
 refine wc_cond rfl (fun hc1 => ?_) (fun hc1 => ?_)
 ·replace h := condT h hc1
  refine wc_sr ?_
  refine WL.as rfl rfl ?_
  refine WL.as rfl rfl ?_
  refine WL.ns ?_
  refine wc_ret ?_
  refine we_seq_ret ?_
  obtain rfl := Option.some.inj h
  exact we_ret_fn (rs2 rfl (rv_t rfl) (rv_t rfl)) (Le.tud ⟨(Le.refl _), (Le.refl _), trivial⟩)
 ·replace h := condF h hc1
  refine wc_skip ?_
  refine we_seq ?_
  refine wc_sr ?_
  refine WL.qn (y_fieldAddrc f26_1 rfl) rfl ?_
  refine WL.qn (y_loadc rfl a24 rfl) rfl ?_
  obtain ⟨x21, hx21, h⟩ := bindS h
  refine WL.qn (y_indexAddr e24 rfl (Le.refl _) rfl (idx_nonneg hx21) (idx_row E62_eq hx21) rfl) rfl ?_
  refine WL.qn (y_fieldAddrc f62_0 rfl) rfl ?_
  refine WL.qn (y_loadc rfl a2 rfl) rfl ?_
  refine WL.as rfl rfl ?_
  refine WL.as rfl rfl ?_
  refine WL.ns ?_
  refine wc_ret ?_
  obtain rfl := Option.some.inj h
  exact we_ret_fn (rs2 rfl (rv_t rfl) (rv_t rfl)) (Le.tud ⟨(Le.refl _), (Le.refl _), trivial⟩)

theorem f80_c (s0 : List Int) (v1 : Int) {r : Int} (h : f80 s0 v1 = some r) : Pu Try.prog 80 [.sl (List.map E3 s0), .i .i64 v1] (.i .i64 r) := by
 unfold f80 at h
 refine fn_intro Try.func80 (by kernel_rfl) rfl rfl rfl (fun φφ ww => ?_)
 refine wc_sr ?_
 refine WL.as rfl rfl ?_
 refine WL.ns ?_
 replace h := letkS h
 obtain ⟨k22, hk22, h⟩ := h
 refine wc_cut (fun env' st' => k22 () = some r ∧ Sub [] env' ∧ SLe st' []) ?_ ?_
 ·refine wc_sr ?_
  refine WL.mv rfl rfl ?_
  refine WL.qn (y_len_map E3 s0 e22 rfl rfl (Le.refl _)) rfl ?_
  refine WL.mv rfl rfl ?_
  refine WL.ns ?_
  refine wc_block ?_
  refine wc_loop (fun n env' st' => ∃ (t24 : Int), f80_l1 s0 v1 k22 n t24 = some r ∧ Sub [(0, .d (.sl (List.map E3 s0))), (1, .d (D.i .i64 v1)), (7, .d (D.i .i64 (List.length s0 : Int))), (8, .d (D.i .i64 t24))] env' ∧ SLe st' []) (fun n => n) (Int.toNat ((List.length s0 : Int) - 0) + 1) ⟨0, h, (Sub.cons rfl (Le.refl _) (Sub.cons rfl (Le.refl _) (Sub.cons rfl (Le.refl _) (Sub.cons rfl (Le.refl _) (Sub.nil _))))), trivial⟩ ?_
  rintro n env1 st1 ⟨t24, h, hsub, hst⟩
  cases n with
  | zero => rw [f80_l1] at h; cases h
  | succ n =>
  rw [f80_l1] at h
  refine WC.sub hsub (WC.weak hst ?_)
  refine wc_sr ?_
  refine WL.qn (y_lss rfl rfl) rfl ?_
  refine WL.ns ?_
  refine wc_seq ?_
  refine wc_cond rfl (fun hc1 => ?_) (fun hc1 => ?_)
  ·replace h := condT h hc1
   refine wc_skip ?_
   refine we_seq ?_
   refine wc_seq ?_
   refine wc_block ?_
   refine wc_sr ?_
   refine WL.mv rfl rfl ?_
   refine WL.as rfl rfl ?_
   refine WL.ns ?_
   refine wc_sr ?_
   refine WL.mv rfl rfl ?_
   refine WL.mv rfl rfl ?_
   refine WL.mv rfl rfl ?_
   obtain ⟨x26, hx26, h⟩ := bindS h
   refine WL.qn (y_indexAddr e22 rfl (Le.refl _) rfl (idx_nonneg hx26) (idx_row E3_eq hx26) rfl) rfl ?_
   refine WL.qn (y_loadc rfl a3 rfl) rfl ?_
   refine WL.qn (y_eql rfl rfl) rfl ?_
   refine WL.ns ?_
   refine wc_cond rfl (fun hc2 => ?_) (fun hc2 => ?_)
   ·replace h := condT h hc2
    refine wc_sr ?_
    refine WL.mv rfl rfl ?_
    refine WL.as rfl rfl ?_
    refine WL.ns ?_
    refine wc_ret ?_
    refine we_blk_ret ?_
    refine we_seq_ret ?_
    refine we_lp_ret ?_
    refine we_blk_ret ?_
    refine we_lp_ret ?_
    obtain rfl := Option.some.inj h
    exact we_ret_fn (rs1 rfl (rv_t rfl)) (Le.refl _)
   ·replace h := condF h hc2
    refine wc_skip ?_
    refine we_blk ?_
    refine we_seq ?_
    refine wc_region ?_
    refine WL.qn (y_add rfl rfl rfl) rfl ?_
    refine WL.mv rfl rfl ?_
    refine WL.nil ?_
    exact we_lp ⟨n, ⟨(IntKind.i64.wrap (t24 + 1)), h, (Sub.cons rfl (Le.refl _) (Sub.cons rfl (Le.refl _) (Sub.cons rfl (Le.refl _) (Sub.cons rfl (Le.refl _) (Sub.nil _))))), trivial⟩, Nat.lt_succ_self n⟩
  ·replace h := condF h hc1
   refine wc_exit ?_
   refine we_seq_exit ?_
   refine we_lp_exit ?_
   refine we_blk_hit ?_
   exact we_lp ⟨h, (Sub.nil _), trivial⟩
 ·rintro env1 st1 ⟨h, hsub, hst⟩
  subst hk22
  dsimp only at h
  refine WC.sub hsub (WC.weak hst ?_)
  refine wc_sr ?_
  refine WL.as rfl rfl ?_
  refine WL.ns ?_
  refine wc_ret ?_
  obtain rfl := Option.some.inj h
  exact we_ret_fn (rs1 rfl (rv_t rfl)) (Le.refl _)

theorem f71_c (s0 : List Int) (v1 : Int) {r : Bool} (h : f71 s0 v1 = some r) : Pu Try.prog 71 [.sl (List.map E3 s0), .i .i64 v1] (.b r) := by
 unfold f71 at h
 refine fn_intro Try.func71 (by kernel_rfl) rfl rfl rfl (fun φφ ww => ?_)
 refine wc_sr ?_
 refine WL.as rfl rfl ?_
 refine WL.ns ?_
 refine wc_sr ?_
 refine WL.mv rfl rfl ?_
 refine WL.mv rfl rfl ?_
 obtain ⟨r12, hr12, h⟩ := bindS h
 refine WL.fn rfl rfl rfl rfl (f80_c _ _ hr12) ⟨(Le.refl _), (Le.refl _), trivial⟩ (Wt.none rfl) rfl rfl ?_
 refine WL.qn (y_geq rfl rfl) rfl ?_
 refine WL.as rfl rfl ?_
 refine WL.ns ?_
 refine wc_ret ?_
 obtain rfl := Option.some.inj h
 exact we_ret_fn (rs1 rfl (rv_t rfl)) (Le.refl _)

theorem f43_c (q0 : Queues) (task1 : Int) {r : Int × Bool} (h : f43 q0 task1 = some r) : Pu Try.prog 43 [.ag (R26 q0), .i .i64 task1] (.tu [.i .i64 r.1, .b r.2]) := by
 unfold f43 at h
 refine fn_intro Try.func43 (by kernel_rfl) rfl rfl rfl (fun φφ ww => ?_)
 refine wc_sr ?_
 refine WL.s ((b_boxd rfl rfl (Les.refl _)).does) (Wt.none rfl) rfl rfl ?_
 refine WL.s ((b_boxd rfl rfl (by exact (show Les [.d (D.i .i64 task1)] (List.map AV.d [.i .i64 task1]) from ⟨(Le.refl _), trivial⟩))).does) (Wt.none rfl) rfl rfl ?_
 refine WL.s ((b_alloc z3).does) (Wt.none rfl) rfl rfl ?_
 refine WL.s ((b_alloc z4).does) (Wt.none rfl) rfl rfl ?_
 refine WL.ns ?_
 replace h := letkS h
 obtain ⟨k19, hk19, h⟩ := h
 refine wc_cut (fun env' st' => k19 () = some r ∧ Sub [(4, .pt 0 0), (5, .pt 1 0)] env' ∧ SLe st' [.row 3 [.d (D.i .i64 0)], .row 4 [.d (D.b false)], .dead, .row 87 [.yl 2], .dead]) ?_ ?_
 ·refine wc_sr ?_
  refine WL.qn (y_loadcN rfl a26 s26 rfl) rfl ?_
  obtain ⟨k21, hk21, h⟩ := letkS h
  refine WL.inl (us := [.d (.ag (R26 q0))]) (fun rv st' => (k21 () = some r ∧ Le rv (.fn (.func 64) [] [.d (.pc (R26 q0))]) ∧ SLe st' [.row 3 [.d (D.i .i64 0)], .row 4 [.d (D.b false)]])) rfl rfl rfl rfl rfl ?_ (Wt.none rfl) rfl rfl ?_
  ·refine ctr_intro Try.func34 (by kernel_rfl) rfl rfl rfl (fun mm φφ ww hm20 => ?_)
   refine wc_sr ?_
   refine WL.s ((b_boxd rfl rfl (Les.refl _)).does) (Wt.none rfl) rfl rfl ?_
   refine WL.as rfl rfl ?_
   refine WL.ns ?_
   refine wc_sr ?_
   refine WL.qn (y_makeFunc rfl rfl) rfl ?_
   refine WL.as rfl rfl ?_
   refine WL.ns ?_
   refine wc_ret ?_
   exact we_ret (rs1 rfl (rv_t rfl)) ⟨h, (Le.refl _), ⟨⟨rfl, Les.refl _⟩, ⟨rfl, Les.refl _⟩, trivial⟩⟩
  ·rintro rv st1 ⟨h, hr, hst⟩
   subst hk21
   dsimp only at h
   refine WL.cast 9 rfl hr ?_
   refine WL.weak hst ?_
   refine WL.ns ?_
   refine wc_block ?_
   obtain ⟨k24, hk24, h⟩ := letkS h
   obtain ⟨k25, hk25, h⟩ := letkS h
   refine wc_range (us := [.yl 2, .d (.pc (R26 q0))]) [3, 4, 5] 2 (fun sl22 rv st' => (∃ (c0023 : Int), k24 c0023 = some r ∧ SLe st' [.row 3 [.d (D.i .i64 c0023)], .row 4 [.d (D.b true)], .lp sl22 [.d (.pc (E3 task1)), .pt 0 0, .pt 1 0] .done (some .ret), .row 87 [.yl 2], .dead]) ∨ (k25 () = some r ∧ SLe st' [.row 3 [.d (D.i .i64 0)], .row 4 [.d (D.b false)], .lp sl22 [.d (.pc (E3 task1)), .pt 0 0, .pt 1 0] .ready none, .row 87 [.yl 2], .dead])) rfl rfl rfl rfl rfl (fun sl22 hsl22 => ?_) ?_
   ·refine ctr_intro Try.func64 (by kernel_rfl) rfl rfl rfl (fun mm φφ ww hm22 => ?_)
    refine wc_sr ?_
    refine WL.s ((b_box rfl rfl).does) (Wt.none rfl) rfl rfl ?_
    refine WL.ns ?_
    refine wc_sr ?_
    refine WL.qn (y_fieldAddrc f26_0 rfl) rfl ?_
    refine WL.qn (y_sliceArr ar23 rfl rfl) rfl ?_
    obtain ⟨k27, hk27, h⟩ := letkS h
    refine WL.inl (us := [.d (.sl (List.map E22 (List.map q0.ready (List.range 32))))]) (fun rv st' => (k27 () = some r ∧ Le rv (.fn (.func 76) [] [.d (.pc (E89 (List.map q0.ready (List.range 32))))]) ∧ SLe st' [.row 3 [.d (D.i .i64 0)], .row 4 [.d (D.b false)], .lp sl22 [.d (.pc (E3 task1)), .pt 0 0, .pt 1 0] .ready none, .row 87 [.yl 2]])) rfl rfl rfl rfl rfl ?_ (Wt.none rfl) rfl rfl ?_
    ·refine ctr_intro Try.func65 (by kernel_rfl) rfl rfl rfl (fun mm φφ ww hm26 => ?_)
     refine wc_sr ?_
     refine WL.s ((b_boxd rfl rfl (by exact (show Les [.d (.sl (List.map E22 (List.map q0.ready (List.range 32))))] (List.map AV.d [.sl (List.map E22 (List.map q0.ready (List.range 32)))]) from ⟨(Le.refl _), trivial⟩))).does) (Wt.none rfl) rfl rfl ?_
     refine WL.as rfl rfl ?_
     refine WL.ns ?_
     refine wc_sr ?_
     refine WL.qn (y_makeFunc rfl rfl) rfl ?_
     refine WL.as rfl rfl ?_
     refine WL.ns ?_
     refine wc_ret ?_
     exact we_ret (rs1 rfl (rv_t rfl)) ⟨h, (Le.refl _), ⟨⟨rfl, Les.refl _⟩, ⟨rfl, Les.refl _⟩, ⟨rfl, Les.refl _, rfl, rfl⟩, ⟨rfl, Les.refl _⟩, trivial⟩⟩
    ·rintro rv st1 ⟨h, hr, hst⟩
     subst hk27
     dsimp only at h
     refine WL.cast 7 rfl hr ?_
     refine WL.weak hst ?_
     refine WL.ns ?_
     refine wc_block ?_
     obtain ⟨k30, hk30, h⟩ := letkS h
     obtain ⟨k31, hk31, h⟩ := letkS h
     refine wc_range (us := [.yl 4, .d (.pc (E89 (List.map q0.ready (List.range 32))))]) [2] 4 (fun sl28 rv st' => (∃ (c0029 : Int), k30 c0029 = some r ∧ SLe st' [.row 3 [.d (D.i .i64 c0029)], .row 4 [.d (D.b true)], .lp sl22 [.d (.pc (E3 task1)), .pt 0 0, .pt 1 0] .done (some .ret), .row 87 [.yl 2], .lp sl28 [.pt 3 0] .done (some .ret)]) ∨ (k31 () = some r ∧ SLe st' [.row 3 [.d (D.i .i64 0)], .row 4 [.d (D.b false)], .lp sl22 [.d (.pc (E3 task1)), .pt 0 0, .pt 1 0] .ready none, .row 87 [.yl 2], .lp sl28 [.pt 3 0] .ready none])) rfl rfl rfl rfl rfl (fun sl28 hsl28 => ?_) ?_
     ·refine ctr_intro Try.func76 (by kernel_rfl) rfl rfl rfl (fun mm φφ ww hm28 => ?_)
      refine wc_sr ?_
      refine WL.qn (y_loadc rfl a89 rfl) rfl ?_
      refine WL.qn (y_len_map E22 (List.map q0.ready (List.range 32)) e89 rfl rfl (Le.refl _)) rfl ?_
      refine WL.qn (y_sub rfl rfl rfl) rfl ?_
      refine WL.as rfl rfl ?_
      refine WL.ns ?_
      refine wc_block ?_
      refine wc_loop (fun n env' st' => ∃ (iq33 : Int), f43_l1 q0 task1 k30 k31 n iq33 = some r ∧ Sub [(0, .yl 4), (1, .d (.pc (E89 (List.map q0.ready (List.range 32))))), (3, .d (D.i .i64 iq33))] env' ∧ SLe st' [.row 3 [.d (D.i .i64 0)], .row 4 [.d (D.b false)], .lp sl22 [.d (.pc (E3 task1)), .pt 0 0, .pt 1 0] .ready none, .row 87 [.yl 2], .lp sl28 [.pt 3 0] .ready none]) (fun n => n) (Int.toNat ((IntKind.i64.wrap ((List.length (List.map q0.ready (List.range 32)) : Int) - 1)) + 1) + 1) ⟨(IntKind.i64.wrap ((List.length (List.map q0.ready (List.range 32)) : Int) - 1)), h, (Sub.cons rfl (Le.refl _) (Sub.cons rfl (Le.refl _) (Sub.cons rfl (Le.refl _) (Sub.nil _)))), ⟨⟨rfl, Les.refl _⟩, ⟨rfl, Les.refl _⟩, ⟨rfl, Les.refl _, rfl, rfl⟩, ⟨rfl, Les.refl _⟩, ⟨rfl, Les.refl _, rfl, rfl⟩, trivial⟩⟩ ?_
      rintro n env1 st1 ⟨iq33, h, hsub, hst⟩
      cases n with
      | zero => rw [f43_l1] at h; cases h
      | succ n =>
      rw [f43_l1] at h
      refine WC.sub hsub (WC.weak hst ?_)
      refine wc_seq ?_
      refine wc_sr ?_
      refine WL.mv rfl rfl ?_
      refine WL.qn (y_geq rfl rfl) rfl ?_
      refine WL.ns ?_
      refine wc_cond rfl (fun hc1 => ?_) (fun hc1 => ?_)
      ·replace h := condT h hc1
       refine wc_skip ?_
       refine we_seq ?_
       refine wc_seq ?_
       refine wc_block ?_
       refine wc_sr ?_
       refine WL.mv rfl rfl ?_
       refine WL.mv rfl rfl ?_
       refine WL.qn (y_loadc rfl a89 rfl) rfl ?_
       refine WL.mv rfl rfl ?_
       obtain ⟨x35, hx35, h⟩ := bindS h
       refine WL.qn (y_indexAddr e89 rfl (Le.refl _) rfl (idx_nonneg hx35) (idx_row E22_eq hx35) rfl) rfl ?_
       refine WL.qn (y_loadc rfl a22 rfl) rfl ?_
       obtain ⟨k37, hk37, h⟩ := letkS h
       obtain ⟨k38, hk38, h⟩ := letkS h
       refine WL.yield (env0 := [(8, .d (D.i .i64 iq33)), (9, .d (.sl (List.map E3 x35))), (2, .pt 3 0)]) (fun rv st' => (k37 () = some r ∧ rv = .d (.v (.bool false)) ∧ SLe st' [.row 3 [.d (D.i .i64 iq33)], .row 4 [.d (D.b true)], .lp sl22 [.d (.pc (E3 task1)), .pt 0 0, .pt 1 0] .done (some .ret), .row 87 [.yl 2], .lp sl28 [.pt 3 0] .done (some .ret)]) ∨ (k38 () = some r ∧ rv = .d (.v (.bool true)) ∧ SLe st' [.row 3 [.d (D.i .i64 0)], .row 4 [.d (D.b false)], .lp sl22 [.d (.pc (E3 task1)), .pt 0 0, .pt 1 0] .ready none, .row 87 [.yl 2], .lp sl28 [.pt 3 0] .ready none])) hsl28 rfl rfl rfl rfl rfl rfl rfl (fun ee hn hrd36 hm36 => ?_) (Wt.none rfl) rfl rfl ?_
       ·obtain ⟨em, eφ, ew, en, er⟩ := ee
        subst hn
        refine wc_sr ?_
        refine WL.as rfl rfl ?_
        refine WL.ns ?_
        refine wc_region ?_
        refine WL.as rfl rfl ?_
        refine WL.nil ?_
        refine we_asg hrd36 rfl ?_
        refine wc_block ?_
        refine wc_sr ?_
        refine WL.mv rfl rfl ?_
        refine WL.qn (y_len_map E3 x35 e22 rfl rfl (Le.refl _)) rfl ?_
        refine WL.qn (y_gtr rfl rfl) rfl ?_
        refine WL.mv rfl rfl ?_
        refine WL.split (t := 13) rfl (fun hb1 => ?_) (fun hb1 => ?_)
        ·replace h := condT h hb1
         refine WL.qy (y_load rfl rfl a87 rfl) rfl rfl rfl ?_
         refine WL.qy (y_move rfl) rfl rfl rfl ?_
         refine WL.qy (y_move rfl) rfl rfl rfl ?_
         obtain ⟨k40, hk40, h⟩ := letkS h
         obtain ⟨k41, hk41, h⟩ := letkS h
         refine WL.yield (env0 := [(10, .d (D.i .i64 iq33)), (11, .d (.sl (List.map E3 x35))), (3, .d (.pc (E3 task1))), (4, .pt 0 0), (5, .pt 1 0)]) (fun rv st' => (k40 () = some r ∧ rv = .d (.v (.bool false)) ∧ SLe st' [.row 3 [.d (D.i .i64 iq33)], .row 4 [.d (D.b true)], .lp sl22 [.d (.pc (E3 task1)), .pt 0 0, .pt 1 0] .done (some .ret), .row 87 [.yl 2], .lp sl28 [.pt 3 0] .busy none]) ∨ (k41 () = some r ∧ rv = .d (.v (.bool true)) ∧ SLe st' [.row 3 [.d (D.i .i64 0)], .row 4 [.d (D.b false)], .lp sl22 [.d (.pc (E3 task1)), .pt 0 0, .pt 1 0] .ready none, .row 87 [.yl 2], .lp sl28 [.pt 3 0] .busy none])) hsl22 rfl rfl rfl rfl rfl rfl rfl (fun ee hn hrd39 hm39 => ?_) (Wt.yes rfl rfl rfl) rfl rfl ?_
         ·obtain ⟨em, eφ, ew, en, er⟩ := ee
          subst hn
          refine wc_sr ?_
          refine WL.as rfl rfl ?_
          refine WL.ns ?_
          refine wc_region ?_
          refine WL.as rfl rfl ?_
          refine WL.nil ?_
          refine we_asg hrd39 rfl ?_
          refine wc_block ?_
          refine wc_sr ?_
          refine WL.mv rfl rfl ?_
          refine WL.qn (y_loadc rfl a3 rfl) rfl ?_
          obtain ⟨r42, hr42, h⟩ := bindS h
          refine WL.fn rfl rfl rfl rfl (f71_c _ _ hr42) ⟨(Le.refl _), (Le.refl _), trivial⟩ (Wt.none rfl) rfl rfl ?_
          refine WL.ns ?_
          refine wc_cond rfl (fun hc2 => ?_) (fun hc2 => ?_)
          ·replace h := condT h hc2
           refine wc_sr ?_
           refine WL.mv rfl rfl ?_
           refine WL.s0 (d_store rfl rfl rfl rfl rfl rfl s3 rfl rfl) (Wt.none rfl) rfl ?_
           refine WL.s0 (d_store rfl rfl rfl rfl rfl rfl s4 rfl rfl) (Wt.none rfl) rfl ?_
           refine WL.ns ?_
           refine wc_ret ?_
           refine we_blk_ret ?_
           exact we_rend_ret hrd39 rfl (.inl ⟨h, rfl, ⟨⟨rfl, Les.refl _⟩, ⟨rfl, Les.refl _⟩, ⟨rfl, Les.refl _, rfl, rfl⟩, ⟨rfl, Les.refl _⟩, ⟨rfl, Les.refl _, rfl, rfl⟩, trivial⟩⟩)
          ·replace h := condF h hc2
           refine wc_skip ?_
           refine we_blk ?_
           exact we_rend hrd39 rfl (.inr (⟨h, rfl, ⟨⟨rfl, Les.refl _⟩, ⟨rfl, Les.refl _⟩, ⟨rfl, Les.refl _, rfl, rfl⟩, ⟨rfl, Les.refl _⟩, ⟨rfl, Les.refl _, rfl, rfl⟩, trivial⟩⟩))
         ·rintro rv st1 (⟨h, rfl, hst⟩ | ⟨h, rfl, hst⟩)
          ·subst hk40
           dsimp only at h
           refine WL.weak hst ?_
           refine WL.qy (y_not rfl) rfl rfl rfl ?_
           refine WL.qn (y_pick_t rfl rfl) rfl ?_
           refine WL.ns ?_
           refine wc_true rfl ?_
           refine wc_ret ?_
           refine we_blk_ret ?_
           exact we_rend_ret hrd36 rfl (.inl ⟨h, rfl, ⟨⟨rfl, Les.refl _⟩, ⟨rfl, Les.refl _⟩, ⟨rfl, Les.refl _, rfl, rfl⟩, ⟨rfl, Les.refl _⟩, ⟨rfl, Les.refl _, rfl, rfl⟩, trivial⟩⟩)
          ·subst hk41
           dsimp only at h
           refine WL.weak hst ?_
           refine WL.qy (y_not rfl) rfl rfl rfl ?_
           refine WL.qn (y_pick_t rfl rfl) rfl ?_
           refine WL.ns ?_
           refine wc_false rfl ?_
           refine wc_skip ?_
           refine we_blk ?_
           exact we_rend hrd36 rfl (.inr (⟨h, rfl, ⟨⟨rfl, Les.refl _⟩, ⟨rfl, Les.refl _⟩, ⟨rfl, Les.refl _, rfl, rfl⟩, ⟨rfl, Les.refl _⟩, ⟨rfl, Les.refl _, rfl, rfl⟩, trivial⟩⟩))
        ·replace h := condF h hb1
         refine WL.skips 5 rfl ?_
         refine WL.qn (y_pick_f rfl rfl) rfl ?_
         refine WL.ns ?_
         refine wc_false rfl ?_
         refine wc_skip ?_
         refine we_blk ?_
         exact we_rend hrd36 rfl (.inr (⟨h, rfl, ⟨⟨rfl, Les.refl _⟩, ⟨rfl, Les.refl _⟩, ⟨rfl, Les.refl _, rfl, rfl⟩, ⟨rfl, Les.refl _⟩, ⟨rfl, Les.refl _, rfl, rfl⟩, trivial⟩⟩))
       ·rintro rv st1 (⟨h, rfl, hst⟩ | ⟨h, rfl, hst⟩)
        ·subst hk37
         dsimp only at h
         refine WL.weak hst ?_
         refine WL.qn (y_not rfl) rfl ?_
         refine WL.ns ?_
         refine wc_true rfl ?_
         refine wc_ret ?_
         refine we_blk_ret ?_
         refine we_seq_ret ?_
         refine we_lp_ret ?_
         refine we_blk_ret ?_
         exact we_ret (res0 rfl) (.inl ⟨iq33, h, ⟨⟨rfl, Les.refl _⟩, ⟨rfl, Les.refl _⟩, ⟨rfl, Les.refl _, rfl, rfl⟩, ⟨rfl, Les.refl _⟩, ⟨rfl, Les.refl _, rfl, rfl⟩, trivial⟩⟩)
        ·subst hk38
         dsimp only at h
         refine WL.weak hst ?_
         refine WL.qn (y_not rfl) rfl ?_
         refine WL.ns ?_
         refine wc_false rfl ?_
         refine wc_skip ?_
         refine we_blk ?_
         refine we_seq ?_
         refine wc_region ?_
         refine WL.mv rfl rfl ?_
         refine WL.qn (y_sub rfl rfl rfl) rfl ?_
         refine WL.as rfl rfl ?_
         refine WL.nil ?_
         exact we_lp ⟨n, ⟨(IntKind.i64.wrap (iq33 - 1)), h, (Sub.cons rfl (Le.refl _) (Sub.cons rfl (Le.refl _) (Sub.cons rfl (Le.refl _) (Sub.nil _)))), ⟨⟨rfl, Les.refl _⟩, ⟨rfl, Les.refl _⟩, ⟨rfl, Les.refl _, rfl, rfl⟩, ⟨rfl, Les.refl _⟩, ⟨rfl, Les.refl _, rfl, rfl⟩, trivial⟩⟩, Nat.lt_succ_self n⟩
      ·replace h := condF h hc1
       refine wc_exit ?_
       refine we_seq_exit ?_
       refine we_lp_exit ?_
       refine we_blk_hit ?_
       refine we_end ?_
       exact we_ret (res0 rfl) (.inr (⟨h, ⟨⟨rfl, Les.refl _⟩, ⟨rfl, Les.refl _⟩, ⟨rfl, Les.refl _, rfl, rfl⟩, ⟨rfl, Les.refl _⟩, ⟨rfl, Les.refl _, rfl, rfl⟩, trivial⟩⟩))
     ·rintro sl28 rv st1 (⟨c0029, h, hst⟩ | ⟨h, hst⟩)
      ·subst hk30
       dsimp only at h
       refine ⟨_, _, _, _, _, hst, rfl, (by intro h; cases h), ?_⟩
       refine we_blk_ret ?_
       exact we_ret (res0 rfl) (.inl ⟨c0029, h, ⟨⟨rfl, Les.refl _⟩, ⟨rfl, Les.refl _⟩, ⟨rfl, Les.refl _, rfl, rfl⟩, ⟨rfl, Les.refl _⟩, trivial, trivial⟩⟩)
      ·subst hk31
       dsimp only at h
       refine ⟨_, _, _, _, _, hst, rfl, (by intro h; cases h), ?_⟩
       refine we_blk ?_
       refine we_end ?_
       exact we_ret (res0 rfl) (.inr (⟨h, ⟨⟨rfl, Les.refl _⟩, ⟨rfl, Les.refl _⟩, ⟨rfl, Les.refl _, rfl, rfl⟩, ⟨rfl, Les.refl _⟩, trivial, trivial⟩⟩))
   ·rintro sl22 rv st1 (⟨c0023, h, hst⟩ | ⟨h, hst⟩)
    ·subst hk24
     dsimp only at h
     refine ⟨_, _, _, _, _, hst, rfl, (by intro h; cases h), ?_⟩
     refine we_blk_ret ?_
     refine we_lp_ret ?_
     obtain rfl := Option.some.inj h
     exact we_ret_fn (rs2 rfl (rv_c rfl rfl a3 rfl) (rv_c rfl rfl a4 rfl)) (Le.tud ⟨(Le.refl _), (Le.refl _), trivial⟩)
    ·subst hk25
     dsimp only at h
     refine ⟨_, _, _, _, _, hst, rfl, (by intro h; cases h), ?_⟩
     refine we_blk ?_
     exact we_lp ⟨h, (Sub.cons rfl (Le.refl _) (Sub.cons rfl (Le.refl _) (Sub.nil _))), ⟨⟨rfl, Les.refl _⟩, ⟨rfl, Les.refl _⟩, trivial, ⟨rfl, Les.refl _⟩, trivial, trivial⟩⟩
 ·rintro env1 st1 ⟨h, hsub, hst⟩
  subst hk19
  dsimp only at h
  refine WC.sub hsub (WC.weak hst ?_)
  refine wc_sr ?_
  refine WL.s0 (d_store rfl rfl rfl rfl rfl rfl s3 rfl rfl) (Wt.none rfl) rfl ?_
  refine WL.s0 (d_store rfl rfl rfl rfl rfl rfl s4 rfl rfl) (Wt.none rfl) rfl ?_
  refine WL.ns ?_
  refine wc_ret ?_
  obtain rfl := Option.some.inj h
  exact we_ret_fn (rs2 rfl (rv_c rfl rfl a3 rfl) (rv_c rfl rfl a4 rfl)) (Le.tud ⟨(Le.refl _), (Le.refl _), trivial⟩)

end Go.Proofs.Ytpionlekbfoccaa
