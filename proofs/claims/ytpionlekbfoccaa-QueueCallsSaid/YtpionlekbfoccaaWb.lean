/- The walks of functions. -/
import Derived.Test.YtpionlekbfoccaaProg
import Derived.KernelRfl
import Derived.Test.YtpionlekbfoccaaO
import Derived.Test.YtpionlekbfoccaaWa
set_option maxHeartbeats 4000000
set_option maxRecDepth 100000
namespace Go.Proofs.Ytpionlekbfoccaa
open Go Go.Sk

theorem f21_c (q0 : Queues) (prio1 : Int) (task2 : Int) {r : Queues × Int} (h : f21 q0 prio1 task2 = some r) : Pu Try.prog 21 [.ag (R26 q0), .i .i64 prio1, .i .i64 task2] (.tu [.ag (R26 r.1), .i .i64 r.2]) := by
 unfold f21 at h
 refine fn_intro Try.func21 (by kernel_rfl) rfl rfl rfl (fun φφ ww => ?_)
 refine wc_sr ?_
 refine WL.s ((b_boxd rfl rfl (Les.refl _)).does) (Wt.none rfl) rfl rfl ?_
 refine WL.s ((b_boxd rfl rfl (by exact (show Les [.d (D.i .i64 task2)] (List.map AV.d [.i .i64 task2]) from ⟨(Le.refl _), trivial⟩))).does) (Wt.none rfl) rfl rfl ?_
 refine WL.s ((b_alloc z26).does) (Wt.none rfl) rfl rfl ?_
 refine WL.as rfl rfl ?_
 refine WL.ns ?_
 refine wc_sr ?_
 refine WL.qn (y_loadcN rfl a26 s26 rfl) rfl ?_
 refine WL.mv rfl rfl ?_
 refine WL.qn (y_loadc rfl a3 rfl) rfl ?_
 refine WL.qn (y_makeFunc rfl rfl) rfl ?_
 obtain ⟨k21, hk21, h⟩ := letkS h
 obtain ⟨k22, hk22, h⟩ := letkS h
 refine WL.inl (us := [.d (.ag (R26 q0)), .d (D.i .i64 prio1), .d (D.i .i64 task2), .fn (.func 42) [] [.d (.pc (E3 task2))]]) (fun rv st' => (∃ (t20 : Int), k21 t20 = some r ∧ Le rv (.tu [.ag [sN, sN, sN, sN, sN, sN, sN, sN, sN, sN, sN, sN, sN, sN, sN, sN, sN, sN, sN, sN, sN, sN, sN, sN, sN, sN, sN, sN, sN, sN, sN, sN, sN, .d (D.i .i64 0)], .d (D.i .i64 t20)]) ∧ SLe st' [.row 26 [sN, sN, sN, sN, sN, sN, sN, sN, sN, sN, sN, sN, sN, sN, sN, sN, sN, sN, sN, sN, sN, sN, sN, sN, sN, sN, sN, sN, sN, sN, sN, sN, sN, .d (D.i .i64 0)], .row 26 (vecA 32 (fun j => .d (.sl (List.map E3 (q0.ready j)))) ++ ([.d (.sl (List.map E62 q0.delays)), .d (D.i .i64 q0.run)] : List AV)), .row 26 [sN, sN, sN, sN, sN, sN, sN, sN, sN, sN, sN, sN, sN, sN, sN, sN, sN, sN, sN, sN, sN, sN, sN, sN, sN, sN, sN, sN, sN, sN, sN, sN, sN, .d (D.i .i64 0)]]) ∨ (k22 () = some r ∧ Le rv (.tu [.ag (vecA 32 (fun j => .d (.sl (List.map E3 ((vset q0.ready (Int.toNat prio1) ((q0.ready (Int.toNat prio1)) ++ [task2])) j)))) ++ ([.d (.sl (List.map E62 q0.delays)), .d (D.i .i64 q0.run)] : List AV)), .d (D.i .i64 0)]) ∧ SLe st' [.row 26 [sN, sN, sN, sN, sN, sN, sN, sN, sN, sN, sN, sN, sN, sN, sN, sN, sN, sN, sN, sN, sN, sN, sN, sN, sN, sN, sN, sN, sN, sN, sN, sN, sN, .d (D.i .i64 0)], .row 26 (vecA 32 (fun j => .d (.sl (List.map E3 ((vset q0.ready (Int.toNat prio1) ((q0.ready (Int.toNat prio1)) ++ [task2])) j)))) ++ ([.d (.sl (List.map E62 q0.delays)), .d (D.i .i64 q0.run)] : List AV)), .row 26 (vecA 32 (fun j => .d (.sl (List.map E3 ((vset q0.ready (Int.toNat prio1) ((q0.ready (Int.toNat prio1)) ++ [task2])) j)))) ++ ([.d (.sl (List.map E62 q0.delays)), .d (D.i .i64 q0.run)] : List AV)), .dead, .os 3 1 0 (List.map (encA E3) [task2])])) rfl rfl rfl rfl rfl ?_ (Wt.none rfl) rfl rfl ?_
 ·refine ctr_intro Try.func41 (by kernel_rfl) rfl rfl rfl (fun mm φφ ww hm19 => ?_)
  refine wc_sr ?_
  refine WL.s ((b_box rfl rfl).does) (Wt.none rfl) rfl rfl ?_
  refine WL.s ((b_alloc z26).does) (Wt.none rfl) rfl rfl ?_
  refine WL.as rfl rfl ?_
  refine WL.ns ?_
  refine wc_seq ?_
  refine wc_sr ?_
  refine WL.qn (y_loadN rfl rfl a26 s26 rfl) rfl ?_
  obtain ⟨r23, hr23, h⟩ := bindS h
  refine WL.fn rfl rfl rfl rfl (f10_c _ hr23) ⟨(Le.agd ⟨(Le.refl _), (Le.refl _), (Le.refl _), (Le.refl _), (Le.refl _), (Le.refl _), (Le.refl _), (Le.refl _), (Le.refl _), (Le.refl _), (Le.refl _), (Le.refl _), (Le.refl _), (Le.refl _), (Le.refl _), (Le.refl _), (Le.refl _), (Le.refl _), (Le.refl _), (Le.refl _), (Le.refl _), (Le.refl _), (Le.refl _), (Le.refl _), (Le.refl _), (Le.refl _), (Le.refl _), (Le.refl _), (Le.refl _), (Le.refl _), (Le.refl _), (Le.refl _), (Le.refl _), (Le.refl _), trivial⟩), trivial⟩ (Wt.none rfl) rfl rfl ?_
  refine WL.qn (y_not rfl) rfl ?_
  refine WL.mv rfl rfl ?_
  apply WL.or 4 (t := 15) (d := 19)
  ·exact rfl
  ·intro hg15
   refine WL.qy (y_move rfl) rfl rfl rfl ?_
   refine WL.fn rfl rfl rfl rfl (f30_c _) ⟨(Le.refl _), trivial⟩ (Wt.yes rfl rfl rfl) rfl rfl ?_
   refine WL.qy (y_not rfl) rfl rfl rfl ?_
   refine WL.qn (y_pick_f rfl rfl) rfl ?_
   exact WL.nil ⟨rfl, [_, _, _, _], rfl, rfl, rfl⟩
  ·refine WL.skips 3 rfl ?_
   refine WL.qn (y_pick_t rfl rfl) rfl ?_
   exact WL.nil ⟨rfl, [_, _, _, _], rfl, rfl, rfl⟩
  refine WL.mv rfl rfl ?_
  apply WL.or 4 (t := 20) (d := 24)
  ·exact rfl
  ·intro hg20
   refine WL.qy (y_move rfl) rfl rfl rfl ?_
   refine WL.fn rfl rfl rfl rfl (f30_c _) ⟨(Le.refl _), trivial⟩ (Wt.yes rfl rfl rfl) rfl rfl ?_
   refine WL.qy (y_not rfl) rfl rfl rfl ?_
   refine WL.qn (y_pick_f rfl rfl) rfl ?_
   exact WL.nil ⟨rfl, [_, _, _, _], rfl, rfl, rfl⟩
  ·refine WL.skips 3 rfl ?_
   refine WL.qn (y_pick_t rfl rfl) rfl ?_
   exact WL.nil ⟨rfl, [_, _, _, _], rfl, rfl, rfl⟩
  refine WL.ns ?_
  refine wc_cond rfl (fun hc1 => ?_) (fun hc1 => ?_)
  ·replace h := condT h hc1
   refine wc_sr ?_
   refine WL.qn (y_build p26 z26 rfl rfl) rfl ?_
   refine WL.s0 (d_store rfl rfl rfl rfl rfl rfl s26 rfl rfl) (Wt.none rfl) rfl ?_
   refine WL.st (st' := [.row 26 [sN, sN, sN, sN, sN, sN, sN, sN, sN, sN, sN, sN, sN, sN, sN, sN, sN, sN, sN, sN, sN, sN, sN, sN, sN, sN, sN, sN, sN, sN, sN, sN, sN, .d (D.i .i64 0)], .row 26 (vecA 32 (fun j => .d (.sl (List.map E3 (q0.ready j)))) ++ ([.d (.sl (List.map E62 q0.delays)), .d (D.i .i64 q0.run)] : List AV)), .row 26 [sN, sN, sN, sN, sN, sN, sN, sN, sN, sN, sN, sN, sN, sN, sN, sN, sN, sN, sN, sN, sN, sN, sN, sN, sN, sN, sN, sN, sN, sN, sN, sN, sN, .d (D.i .i64 0)]]) rfl ?_
   refine WL.as rfl rfl ?_
   refine WL.ns ?_
   refine wc_ret ?_
   refine we_seq_ret ?_
   exact we_ret (rs2 rfl (rv_cN rfl rfl a26 s26 rfl) (rv_t rfl)) (.inl ⟨2, h, (Le.tu ⟨(Le.refl _), (Le.refl _), trivial⟩), ⟨⟨rfl, Les.refl _⟩, ⟨rfl, Les.refl _⟩, ⟨rfl, Les.refl _⟩, trivial⟩⟩)
  ·replace h := condF h hc1
   refine wc_skip ?_
   refine we_seq ?_
   refine wc_seq ?_
   refine wc_sr ?_
   refine WL.qn (y_loadN rfl rfl a26 s26 rfl) rfl ?_
   refine WL.mv rfl rfl ?_
   obtain ⟨r24, hr24, h⟩ := bindS h
   refine WL.fn rfl rfl rfl rfl (f43_c _ _ hr24) ⟨(Le.agd ⟨(Le.refl _), (Le.refl _), (Le.refl _), (Le.refl _), (Le.refl _), (Le.refl _), (Le.refl _), (Le.refl _), (Le.refl _), (Le.refl _), (Le.refl _), (Le.refl _), (Le.refl _), (Le.refl _), (Le.refl _), (Le.refl _), (Le.refl _), (Le.refl _), (Le.refl _), (Le.refl _), (Le.refl _), (Le.refl _), (Le.refl _), (Le.refl _), (Le.refl _), (Le.refl _), (Le.refl _), (Le.refl _), (Le.refl _), (Le.refl _), (Le.refl _), (Le.refl _), (Le.refl _), (Le.refl _), trivial⟩), (Le.refl _), trivial⟩ (Wt.none rfl) rfl rfl ?_
   refine WL.mv rfl rfl ?_
   refine WL.qn (y_extractd rfl rfl) rfl ?_
   refine WL.qn (y_extractd rfl rfl) rfl ?_
   refine WL.as rfl rfl ?_
   refine WL.as rfl rfl ?_
   refine WL.ns ?_
   refine wc_sr ?_
   refine WL.mv rfl rfl ?_
   refine WL.mv rfl rfl ?_
   apply WL.or 5 (t := 33) (d := 38)
   ·exact rfl
   ·intro hg33
    refine WL.qy (y_fieldAddr f26_2 rfl) rfl rfl rfl ?_
    refine WL.qy (y_load rfl rfl a3 rfl) rfl rfl rfl ?_
    refine WL.qy (y_move rfl) rfl rfl rfl ?_
    refine WL.qy (y_eql rfl rfl) rfl rfl rfl ?_
    refine WL.qn (y_pick_f rfl rfl) rfl ?_
    exact WL.nil ⟨rfl, [_, _, _, _, _], rfl, rfl, rfl⟩
   ·refine WL.skips 4 rfl ?_
    refine WL.qn (y_pick_t rfl rfl) rfl ?_
    exact WL.nil ⟨rfl, [_, _, _, _, _], rfl, rfl, rfl⟩
   refine WL.ns ?_
   refine wc_cond rfl (fun hc2 => ?_) (fun hc2 => ?_)
   ·replace h := condT h hc2
    refine wc_sr ?_
    refine WL.qn (y_build p26 z26 rfl rfl) rfl ?_
    refine WL.s0 (d_store rfl rfl rfl rfl rfl rfl s26 rfl rfl) (Wt.none rfl) rfl ?_
    refine WL.st (st' := [.row 26 [sN, sN, sN, sN, sN, sN, sN, sN, sN, sN, sN, sN, sN, sN, sN, sN, sN, sN, sN, sN, sN, sN, sN, sN, sN, sN, sN, sN, sN, sN, sN, sN, sN, .d (D.i .i64 0)], .row 26 (vecA 32 (fun j => .d (.sl (List.map E3 (q0.ready j)))) ++ ([.d (.sl (List.map E62 q0.delays)), .d (D.i .i64 q0.run)] : List AV)), .row 26 [sN, sN, sN, sN, sN, sN, sN, sN, sN, sN, sN, sN, sN, sN, sN, sN, sN, sN, sN, sN, sN, sN, sN, sN, sN, sN, sN, sN, sN, sN, sN, sN, sN, .d (D.i .i64 0)]]) rfl ?_
    refine WL.as rfl rfl ?_
    refine WL.ns ?_
    refine wc_ret ?_
    refine we_seq_ret ?_
    exact we_ret (rs2 rfl (rv_cN rfl rfl a26 s26 rfl) (rv_t rfl)) (.inl ⟨7, h, (Le.tu ⟨(Le.refl _), (Le.refl _), trivial⟩), ⟨⟨rfl, Les.refl _⟩, ⟨rfl, Les.refl _⟩, ⟨rfl, Les.refl _⟩, trivial⟩⟩)
   ·replace h := condF h hc2
    refine wc_skip ?_
    refine we_seq ?_
    refine wc_sr ?_
    refine WL.qn (y_loadN rfl rfl a26 s26 rfl) rfl ?_
    replace h := guardBS h
    obtain ⟨hgg25, h⟩ := h
    replace h := guardBS h
    obtain ⟨hgg26, h⟩ := h
    refine Gh.wl (gh_push_os 3 1) ?_
    refine WL.wina [3] rfl rfl rfl rfl (O.f32g_c q0 (Int.toNat prio1) (vecOk_spec hgg25).2 hgg26) ⟨(Le.agd ⟨(Le.refl _), (Le.refl _), (Le.refl _), (Le.refl _), (Le.refl _), (Le.refl _), (Le.refl _), (Le.refl _), (Le.refl _), (Le.refl _), (Le.refl _), (Le.refl _), (Le.refl _), (Le.refl _), (Le.refl _), (Le.refl _), (Le.refl _), (Le.refl _), (Le.refl _), (Le.refl _), (Le.refl _), (Le.refl _), (Le.refl _), (Le.refl _), (Le.refl _), (Le.refl _), (Le.refl _), (Le.refl _), (Le.refl _), (Le.refl _), (Le.refl _), (Le.refl _), (Le.refl _), (Le.refl _), trivial⟩), trivial⟩ rfl (by decide) rfl ⟨rfl, trivial⟩ rfl rfl (fun _ => (stLt_cons (lt_os _ _ _ _ _ _) rfl)) (fun _ => (cons_eq (ren_os _ _ _ _ _ _) rfl)) (fun _ => O.gRow_lt _ _ _ _ rfl) (fun _ => O.gRow_ren _ _ _ _) (Wt.none rfl) rfl rfl (fun ver27 => ?_)
    refine WL.s0 (d_storeS (rs := vecA 32 (O.gRow q0 (Int.toNat prio1) 3 ver27) ++ O.tl q0) rfl rfl rfl rfl rfl (O.gRow_all q0 (Int.toNat prio1) 3 ver27 (O.os_ok1S rfl)) s26 rfl rfl) (Wt.none rfl) rfl ?_
    refine WL.st (st' := [.row 26 [sN, sN, sN, sN, sN, sN, sN, sN, sN, sN, sN, sN, sN, sN, sN, sN, sN, sN, sN, sN, sN, sN, sN, sN, sN, sN, sN, sN, sN, sN, sN, sN, sN, .d (D.i .i64 0)], .row 26 (vecA 32 (O.gRow q0 (Int.toNat prio1) 3 ver27) ++ ([.d (.sl (List.map E62 q0.delays)), .d (D.i .i64 q0.run)] : List AV)), .row 26 [sN, sN, sN, sN, sN, sN, sN, sN, sN, sN, sN, sN, sN, sN, sN, sN, sN, sN, sN, sN, sN, sN, sN, sN, sN, sN, sN, sN, sN, sN, sN, sN, sN, .d (D.i .i64 0)], .os 3 1 ver27 (List.map (encA E3) (q0.ready (Int.toNat prio1)))]) rfl ?_
    refine WL.st (st' := [.row 26 [sN, sN, sN, sN, sN, sN, sN, sN, sN, sN, sN, sN, sN, sN, sN, sN, sN, sN, sN, sN, sN, sN, sN, sN, sN, sN, sN, sN, sN, sN, sN, sN, sN, .d (D.i .i64 0)], .row 26 (vecA 32 (O.gRow q0 (Int.toNat prio1) 3 ver27) ++ ([.d (.sl (List.map E62 q0.delays)), .d (D.i .i64 q0.run)] : List AV)), .row 26 [sN, sN, sN, sN, sN, sN, sN, sN, sN, sN, sN, sN, sN, sN, sN, sN, sN, sN, sN, sN, sN, sN, sN, sN, sN, sN, sN, sN, sN, sN, sN, sN, sN, .d (D.i .i64 0)], .os 3 1 ver27 (List.map (encA E3) (q0.ready (Int.toNat prio1)))]) rfl ?_
    refine WL.ns ?_
    refine wc_sr ?_
    refine WL.mv rfl rfl ?_
    refine WL.mv rfl rfl ?_
    refine WL.mv rfl rfl ?_
    refine WL.qn (y_fieldAddr f26_0 rfl) rfl ?_
    replace h := guardBS h
    obtain ⟨hgg28, h⟩ := h
    refine WL.qn (y_indexAddra ar23 rfl rfl (vecOk_0 hgg28) (vecOk_1 hgg28)) rfl ?_
    refine WL.qn ((O.gRow_self q0 (Int.toNat prio1) 3 ver27) ▸ (y_loadV (i := prio1) (n := 32) (off := 0) (O.gRow q0 (Int.toNat prio1) 3 ver27) rfl rfl a22 rfl hgg28)) rfl ?_
    obtain ⟨k30, hk30, h⟩ := letkS h
    refine WL.inl (us := [.os 3 ver27, .d (.pc (E3 task2))]) (fun rv st' => (k30 () = some r ∧ Le rv (.d (.sl (List.map E3 ((q0.ready (Int.toNat prio1)) ++ [task2])))) ∧ SLe st' [.row 26 [sN, sN, sN, sN, sN, sN, sN, sN, sN, sN, sN, sN, sN, sN, sN, sN, sN, sN, sN, sN, sN, sN, sN, sN, sN, sN, sN, sN, sN, sN, sN, sN, sN, .d (D.i .i64 0)], .row 26 (vecA 32 (O.gRow q0 (Int.toNat prio1) 3 ver27) ++ ([.d (.sl (List.map E62 q0.delays)), .d (D.i .i64 q0.run)] : List AV)), .row 26 [sN, sN, sN, sN, sN, sN, sN, sN, sN, sN, sN, sN, sN, sN, sN, sN, sN, sN, sN, sN, sN, sN, sN, sN, sN, sN, sN, sN, sN, sN, sN, sN, sN, .d (D.i .i64 0)], .dead, .os 3 1 0 (List.map (encA E3) [task2])])) rfl rfl rfl rfl rfl ?_ (Wt.none rfl) rfl rfl ?_
    ·refine ctr_intro Try.func42 (by kernel_rfl) rfl rfl rfl (fun mm φφ ww hm29 => ?_)
     refine wc_sr ?_
     refine WL.as rfl rfl ?_
     refine WL.ns ?_
     refine wc_sr ?_
     refine WL.mv rfl rfl ?_
     refine WL.qn (y_loadc rfl a3 rfl) rfl ?_
     refine WL.s ((NewOs.b (n_buildSlice l22 z3 rfl (by decide) (by decide) rfl rfl rfl (by decide))).does) (Wt.none rfl) rfl rfl ?_
     replace h := guardBS h
     obtain ⟨hgg31, h⟩ := h
     refine WL.s (d_appendL E3 (q0.ready (Int.toNat prio1)) [task2] l22 z3 rfl (by decide) rfl rfl rfl rfl (Src.own rfl) (fun _ => rfl) (fun _ => rfl) hgg31) (Wt.none rfl) rfl rfl ?_
     refine WL.freezeX [7] [] 3 (List.map E3 ((q0.ready (Int.toNat prio1)) ++ [task2])) rfl (encA_map E3_eq ((q0.ready (Int.toNat prio1)) ++ [task2])) ⟨rfl, trivial⟩ trivial ?_
     refine WL.as rfl rfl ?_
     refine WL.ns ?_
     refine wc_ret ?_
     exact we_ret (rs1 rfl (rv_t rfl)) ⟨h, (Le.refl _), ⟨⟨rfl, Les.refl _⟩, ⟨rfl, Les.refl _⟩, ⟨rfl, Les.refl _⟩, trivial, ⟨rfl, rfl, rfl, rfl⟩, trivial⟩⟩
    ·rintro rv st1 ⟨h, hr, hst⟩
     subst hk30
     dsimp only at h
     refine WL.cast 48 rfl hr ?_
     refine WL.weak hst ?_
     refine WL.qn (y_fieldAddr f26_0 rfl) rfl ?_
     replace h := guardBS h
     obtain ⟨hgg32, h⟩ := h
     refine WL.qn (y_indexAddra ar23 rfl rfl (vecOk_0 hgg32) (vecOk_1 hgg32)) rfl ?_
     refine WL.s0 (d_storeV (i := prio1) (off := 0) (n := 32) (cs' := (vecA 32 (vset (O.gRow q0 (Int.toNat prio1) 3 ver27) (Int.toNat prio1) (.d (.sl (List.map E3 ((q0.ready (Int.toNat prio1)) ++ [task2]))))) ++ ([.d (.sl (List.map E62 q0.delays)), .d (D.i .i64 q0.run)] : List AV))) (fun x : AV => x) (O.gRow q0 (Int.toNat prio1) 3 ver27) (.d (.sl (List.map E3 ((q0.ready (Int.toNat prio1)) ++ [task2])))) rfl rfl rfl (one_ok rfl) s22 rfl rfl hgg32 rfl) (Wt.none rfl) rfl ?_
     rw [O.gRow_put]
     refine WL.st (st' := [.row 26 [sN, sN, sN, sN, sN, sN, sN, sN, sN, sN, sN, sN, sN, sN, sN, sN, sN, sN, sN, sN, sN, sN, sN, sN, sN, sN, sN, sN, sN, sN, sN, sN, sN, .d (D.i .i64 0)], .row 26 (vecA 32 (fun j => .d (.sl (List.map E3 ((vset q0.ready (Int.toNat prio1) ((q0.ready (Int.toNat prio1)) ++ [task2])) j)))) ++ ([.d (.sl (List.map E62 q0.delays)), .d (D.i .i64 q0.run)] : List AV)), .row 26 [sN, sN, sN, sN, sN, sN, sN, sN, sN, sN, sN, sN, sN, sN, sN, sN, sN, sN, sN, sN, sN, sN, sN, sN, sN, sN, sN, sN, sN, sN, sN, sN, sN, .d (D.i .i64 0)], .dead, .os 3 1 0 (List.map (encA E3) [task2])]) rfl ?_
     refine WL.st (st' := [.row 26 [sN, sN, sN, sN, sN, sN, sN, sN, sN, sN, sN, sN, sN, sN, sN, sN, sN, sN, sN, sN, sN, sN, sN, sN, sN, sN, sN, sN, sN, sN, sN, sN, sN, .d (D.i .i64 0)], .row 26 (vecA 32 (fun j => .d (.sl (List.map E3 ((vset q0.ready (Int.toNat prio1) ((q0.ready (Int.toNat prio1)) ++ [task2])) j)))) ++ ([.d (.sl (List.map E62 q0.delays)), .d (D.i .i64 q0.run)] : List AV)), .row 26 [sN, sN, sN, sN, sN, sN, sN, sN, sN, sN, sN, sN, sN, sN, sN, sN, sN, sN, sN, sN, sN, sN, sN, sN, sN, sN, sN, sN, sN, sN, sN, sN, sN, .d (D.i .i64 0)], .dead, .os 3 1 0 (List.map (encA E3) [task2])]) rfl ?_
     refine WL.ns ?_
     refine wc_sr ?_
     refine WL.qn (y_loadN rfl rfl a26 s26 rfl) rfl ?_
     refine WL.s0 (d_store rfl rfl rfl rfl rfl rfl s26 rfl rfl) (Wt.none rfl) rfl ?_
     refine WL.st (st' := [.row 26 [sN, sN, sN, sN, sN, sN, sN, sN, sN, sN, sN, sN, sN, sN, sN, sN, sN, sN, sN, sN, sN, sN, sN, sN, sN, sN, sN, sN, sN, sN, sN, sN, sN, .d (D.i .i64 0)], .row 26 (vecA 32 (fun j => .d (.sl (List.map E3 ((vset q0.ready (Int.toNat prio1) ((q0.ready (Int.toNat prio1)) ++ [task2])) j)))) ++ ([.d (.sl (List.map E62 q0.delays)), .d (D.i .i64 q0.run)] : List AV)), .row 26 (vecA 32 (fun j => .d (.sl (List.map E3 ((vset q0.ready (Int.toNat prio1) ((q0.ready (Int.toNat prio1)) ++ [task2])) j)))) ++ ([.d (.sl (List.map E62 q0.delays)), .d (D.i .i64 q0.run)] : List AV)), .dead, .os 3 1 0 (List.map (encA E3) [task2])]) rfl ?_
     refine WL.as rfl rfl ?_
     refine WL.ns ?_
     refine wc_ret ?_
     exact we_ret (rs2 rfl (rv_cN rfl rfl a26 s26 rfl) (rv_t rfl)) (.inr (⟨h, (Le.tu ⟨(Le.refl _), (Le.refl _), trivial⟩), ⟨⟨rfl, Les.refl _⟩, ⟨rfl, Les.refl _⟩, ⟨rfl, Les.refl _⟩, trivial, ⟨rfl, rfl, rfl, rfl⟩, trivial⟩⟩))
 ·rintro rv st1 (⟨t20, h, hr, hst⟩ | ⟨h, hr, hst⟩)
  ·subst hk21
   dsimp only at h
   refine WL.cast 12 rfl hr ?_
   refine WL.weak hst ?_
   refine WL.qn (y_extract rfl rfl) rfl ?_
   refine WL.qn (y_extract rfl rfl) rfl ?_
   refine WL.s0 (d_store rfl rfl rfl rfl rfl rfl s26 rfl rfl) (Wt.none rfl) rfl ?_
   refine WL.st (st' := [.row 26 [sN, sN, sN, sN, sN, sN, sN, sN, sN, sN, sN, sN, sN, sN, sN, sN, sN, sN, sN, sN, sN, sN, sN, sN, sN, sN, sN, sN, sN, sN, sN, sN, sN, .d (D.i .i64 0)], .row 26 (vecA 32 (fun j => .d (.sl (List.map E3 (q0.ready j)))) ++ ([.d (.sl (List.map E62 q0.delays)), .d (D.i .i64 q0.run)] : List AV)), .row 26 [sN, sN, sN, sN, sN, sN, sN, sN, sN, sN, sN, sN, sN, sN, sN, sN, sN, sN, sN, sN, sN, sN, sN, sN, sN, sN, sN, sN, sN, sN, sN, sN, sN, .d (D.i .i64 0)]]) rfl ?_
   refine WL.as rfl rfl ?_
   refine WL.ns ?_
   refine wc_ret ?_
   obtain rfl := Option.some.inj h
   exact we_ret_fn (rs2 rfl (rv_cN rfl rfl a26 s26 rfl) (rv_t rfl)) (Le.tud ⟨(Le.agd ⟨Le.nil, Le.nil, Le.nil, Le.nil, Le.nil, Le.nil, Le.nil, Le.nil, Le.nil, Le.nil, Le.nil, Le.nil, Le.nil, Le.nil, Le.nil, Le.nil, Le.nil, Le.nil, Le.nil, Le.nil, Le.nil, Le.nil, Le.nil, Le.nil, Le.nil, Le.nil, Le.nil, Le.nil, Le.nil, Le.nil, Le.nil, Le.nil, Le.nil, (Le.refl _), trivial⟩), (Le.refl _), trivial⟩)
  ·subst hk22
   dsimp only at h
   refine WL.cast 12 rfl hr ?_
   refine WL.weak hst ?_
   refine WL.qn (y_extract rfl rfl) rfl ?_
   refine WL.qn (y_extract rfl rfl) rfl ?_
   refine WL.s0 (d_store rfl rfl rfl rfl rfl rfl s26 rfl rfl) (Wt.none rfl) rfl ?_
   refine WL.st (st' := [.row 26 (vecA 32 (fun j => .d (.sl (List.map E3 ((vset q0.ready (Int.toNat prio1) ((q0.ready (Int.toNat prio1)) ++ [task2])) j)))) ++ ([.d (.sl (List.map E62 q0.delays)), .d (D.i .i64 q0.run)] : List AV)), .row 26 (vecA 32 (fun j => .d (.sl (List.map E3 ((vset q0.ready (Int.toNat prio1) ((q0.ready (Int.toNat prio1)) ++ [task2])) j)))) ++ ([.d (.sl (List.map E62 q0.delays)), .d (D.i .i64 q0.run)] : List AV)), .row 26 (vecA 32 (fun j => .d (.sl (List.map E3 ((vset q0.ready (Int.toNat prio1) ((q0.ready (Int.toNat prio1)) ++ [task2])) j)))) ++ ([.d (.sl (List.map E62 q0.delays)), .d (D.i .i64 q0.run)] : List AV)), .dead, .os 3 1 0 (List.map (encA E3) [task2])]) rfl ?_
   refine WL.as rfl rfl ?_
   refine WL.ns ?_
   refine wc_ret ?_
   obtain rfl := Option.some.inj h
   exact we_ret_fn (rs2 rfl (rv_cN rfl rfl a26 s26 rfl) (rv_t rfl)) (Le.tud ⟨(Le.agd ⟨(Le.refl _), (Le.refl _), (Le.refl _), (Le.refl _), (Le.refl _), (Le.refl _), (Le.refl _), (Le.refl _), (Le.refl _), (Le.refl _), (Le.refl _), (Le.refl _), (Le.refl _), (Le.refl _), (Le.refl _), (Le.refl _), (Le.refl _), (Le.refl _), (Le.refl _), (Le.refl _), (Le.refl _), (Le.refl _), (Le.refl _), (Le.refl _), (Le.refl _), (Le.refl _), (Le.refl _), (Le.refl _), (Le.refl _), (Le.refl _), (Le.refl _), (Le.refl _), (Le.refl _), (Le.refl _), trivial⟩), (Le.refl _), trivial⟩)

theorem f28_c (q0 : Queues) (prio1 : Int) (task2 : Int) {r : Queues × Int} (h : f28 q0 prio1 task2 = some r) : Pu Try.prog 28 [.ag (R26 q0), .i .i64 prio1, .i .i64 task2] (.tu [.ag (R26 r.1), .i .i64 r.2]) := by
 unfold f28 at h
 refine fn_intro Try.func28 (by kernel_rfl) rfl rfl rfl (fun φφ ww => ?_)
 refine wc_sr ?_
 refine WL.s ((b_boxd rfl rfl (Les.refl _)).does) (Wt.none rfl) rfl rfl ?_
 refine WL.s ((b_boxd rfl rfl (by exact (show Les [.d (D.i .i64 task2)] (List.map AV.d [.i .i64 task2]) from ⟨(Le.refl _), trivial⟩))).does) (Wt.none rfl) rfl rfl ?_
 refine WL.s ((b_alloc z26).does) (Wt.none rfl) rfl rfl ?_
 refine WL.as rfl rfl ?_
 refine WL.ns ?_
 refine wc_sr ?_
 refine WL.qn (y_loadcN rfl a26 s26 rfl) rfl ?_
 refine WL.mv rfl rfl ?_
 refine WL.qn (y_loadc rfl a3 rfl) rfl ?_
 refine WL.qn (y_makeFunc rfl rfl) rfl ?_
 obtain ⟨k21, hk21, h⟩ := letkS h
 obtain ⟨k22, hk22, h⟩ := letkS h
 refine WL.inl (us := [.d (.ag (R26 q0)), .d (D.i .i64 prio1), .d (D.i .i64 task2), .fn (.func 59) [] [.d (.pc (E3 task2))]]) (fun rv st' => (∃ (t20 : Int), k21 t20 = some r ∧ Le rv (.tu [.ag [sN, sN, sN, sN, sN, sN, sN, sN, sN, sN, sN, sN, sN, sN, sN, sN, sN, sN, sN, sN, sN, sN, sN, sN, sN, sN, sN, sN, sN, sN, sN, sN, sN, .d (D.i .i64 0)], .d (D.i .i64 t20)]) ∧ SLe st' [.row 26 [sN, sN, sN, sN, sN, sN, sN, sN, sN, sN, sN, sN, sN, sN, sN, sN, sN, sN, sN, sN, sN, sN, sN, sN, sN, sN, sN, sN, sN, sN, sN, sN, sN, .d (D.i .i64 0)], .row 26 (vecA 32 (fun j => .d (.sl (List.map E3 (q0.ready j)))) ++ ([.d (.sl (List.map E62 q0.delays)), .d (D.i .i64 q0.run)] : List AV)), .row 26 [sN, sN, sN, sN, sN, sN, sN, sN, sN, sN, sN, sN, sN, sN, sN, sN, sN, sN, sN, sN, sN, sN, sN, sN, sN, sN, sN, sN, sN, sN, sN, sN, sN, .d (D.i .i64 0)]]) ∨ (k22 () = some r ∧ Le rv (.tu [.ag (vecA 32 (fun j => .d (.sl (List.map E3 ((vset q0.ready (Int.toNat prio1) (task2 :: (q0.ready (Int.toNat prio1)))) j)))) ++ ([.d (.sl (List.map E62 q0.delays)), .d (D.i .i64 q0.run)] : List AV)), .d (D.i .i64 0)]) ∧ SLe st' [.row 26 [sN, sN, sN, sN, sN, sN, sN, sN, sN, sN, sN, sN, sN, sN, sN, sN, sN, sN, sN, sN, sN, sN, sN, sN, sN, sN, sN, sN, sN, sN, sN, sN, sN, .d (D.i .i64 0)], .row 26 (vecA 32 (fun j => .d (.sl (List.map E3 ((vset q0.ready (Int.toNat prio1) (task2 :: (q0.ready (Int.toNat prio1)))) j)))) ++ ([.d (.sl (List.map E62 q0.delays)), .d (D.i .i64 q0.run)] : List AV)), .row 26 (vecA 32 (fun j => .d (.sl (List.map E3 ((vset q0.ready (Int.toNat prio1) (task2 :: (q0.ready (Int.toNat prio1)))) j)))) ++ ([.d (.sl (List.map E62 q0.delays)), .d (D.i .i64 q0.run)] : List AV)), .dead, .os 3 1 0 (List.map (encA E3) [task2])])) rfl rfl rfl rfl rfl ?_ (Wt.none rfl) rfl rfl ?_
 ·refine ctr_intro Try.func41 (by kernel_rfl) rfl rfl rfl (fun mm φφ ww hm19 => ?_)
  refine wc_sr ?_
  refine WL.s ((b_box rfl rfl).does) (Wt.none rfl) rfl rfl ?_
  refine WL.s ((b_alloc z26).does) (Wt.none rfl) rfl rfl ?_
  refine WL.as rfl rfl ?_
  refine WL.ns ?_
  refine wc_seq ?_
  refine wc_sr ?_
  refine WL.qn (y_loadN rfl rfl a26 s26 rfl) rfl ?_
  obtain ⟨r23, hr23, h⟩ := bindS h
  refine WL.fn rfl rfl rfl rfl (f10_c _ hr23) ⟨(Le.agd ⟨(Le.refl _), (Le.refl _), (Le.refl _), (Le.refl _), (Le.refl _), (Le.refl _), (Le.refl _), (Le.refl _), (Le.refl _), (Le.refl _), (Le.refl _), (Le.refl _), (Le.refl _), (Le.refl _), (Le.refl _), (Le.refl _), (Le.refl _), (Le.refl _), (Le.refl _), (Le.refl _), (Le.refl _), (Le.refl _), (Le.refl _), (Le.refl _), (Le.refl _), (Le.refl _), (Le.refl _), (Le.refl _), (Le.refl _), (Le.refl _), (Le.refl _), (Le.refl _), (Le.refl _), (Le.refl _), trivial⟩), trivial⟩ (Wt.none rfl) rfl rfl ?_
  refine WL.qn (y_not rfl) rfl ?_
  refine WL.mv rfl rfl ?_
  apply WL.or 4 (t := 15) (d := 19)
  ·exact rfl
  ·intro hg15
   refine WL.qy (y_move rfl) rfl rfl rfl ?_
   refine WL.fn rfl rfl rfl rfl (f30_c _) ⟨(Le.refl _), trivial⟩ (Wt.yes rfl rfl rfl) rfl rfl ?_
   refine WL.qy (y_not rfl) rfl rfl rfl ?_
   refine WL.qn (y_pick_f rfl rfl) rfl ?_
   exact WL.nil ⟨rfl, [_, _, _, _], rfl, rfl, rfl⟩
  ·refine WL.skips 3 rfl ?_
   refine WL.qn (y_pick_t rfl rfl) rfl ?_
   exact WL.nil ⟨rfl, [_, _, _, _], rfl, rfl, rfl⟩
  refine WL.mv rfl rfl ?_
  apply WL.or 4 (t := 20) (d := 24)
  ·exact rfl
  ·intro hg20
   refine WL.qy (y_move rfl) rfl rfl rfl ?_
   refine WL.fn rfl rfl rfl rfl (f30_c _) ⟨(Le.refl _), trivial⟩ (Wt.yes rfl rfl rfl) rfl rfl ?_
   refine WL.qy (y_not rfl) rfl rfl rfl ?_
   refine WL.qn (y_pick_f rfl rfl) rfl ?_
   exact WL.nil ⟨rfl, [_, _, _, _], rfl, rfl, rfl⟩
  ·refine WL.skips 3 rfl ?_
   refine WL.qn (y_pick_t rfl rfl) rfl ?_
   exact WL.nil ⟨rfl, [_, _, _, _], rfl, rfl, rfl⟩
  refine WL.ns ?_
  refine wc_cond rfl (fun hc1 => ?_) (fun hc1 => ?_)
  ·replace h := condT h hc1
   refine wc_sr ?_
   refine WL.qn (y_build p26 z26 rfl rfl) rfl ?_
   refine WL.s0 (d_store rfl rfl rfl rfl rfl rfl s26 rfl rfl) (Wt.none rfl) rfl ?_
   refine WL.st (st' := [.row 26 [sN, sN, sN, sN, sN, sN, sN, sN, sN, sN, sN, sN, sN, sN, sN, sN, sN, sN, sN, sN, sN, sN, sN, sN, sN, sN, sN, sN, sN, sN, sN, sN, sN, .d (D.i .i64 0)], .row 26 (vecA 32 (fun j => .d (.sl (List.map E3 (q0.ready j)))) ++ ([.d (.sl (List.map E62 q0.delays)), .d (D.i .i64 q0.run)] : List AV)), .row 26 [sN, sN, sN, sN, sN, sN, sN, sN, sN, sN, sN, sN, sN, sN, sN, sN, sN, sN, sN, sN, sN, sN, sN, sN, sN, sN, sN, sN, sN, sN, sN, sN, sN, .d (D.i .i64 0)]]) rfl ?_
   refine WL.as rfl rfl ?_
   refine WL.ns ?_
   refine wc_ret ?_
   refine we_seq_ret ?_
   exact we_ret (rs2 rfl (rv_cN rfl rfl a26 s26 rfl) (rv_t rfl)) (.inl ⟨2, h, (Le.tu ⟨(Le.refl _), (Le.refl _), trivial⟩), ⟨⟨rfl, Les.refl _⟩, ⟨rfl, Les.refl _⟩, ⟨rfl, Les.refl _⟩, trivial⟩⟩)
  ·replace h := condF h hc1
   refine wc_skip ?_
   refine we_seq ?_
   refine wc_seq ?_
   refine wc_sr ?_
   refine WL.qn (y_loadN rfl rfl a26 s26 rfl) rfl ?_
   refine WL.mv rfl rfl ?_
   obtain ⟨r24, hr24, h⟩ := bindS h
   refine WL.fn rfl rfl rfl rfl (f43_c _ _ hr24) ⟨(Le.agd ⟨(Le.refl _), (Le.refl _), (Le.refl _), (Le.refl _), (Le.refl _), (Le.refl _), (Le.refl _), (Le.refl _), (Le.refl _), (Le.refl _), (Le.refl _), (Le.refl _), (Le.refl _), (Le.refl _), (Le.refl _), (Le.refl _), (Le.refl _), (Le.refl _), (Le.refl _), (Le.refl _), (Le.refl _), (Le.refl _), (Le.refl _), (Le.refl _), (Le.refl _), (Le.refl _), (Le.refl _), (Le.refl _), (Le.refl _), (Le.refl _), (Le.refl _), (Le.refl _), (Le.refl _), (Le.refl _), trivial⟩), (Le.refl _), trivial⟩ (Wt.none rfl) rfl rfl ?_
   refine WL.mv rfl rfl ?_
   refine WL.qn (y_extractd rfl rfl) rfl ?_
   refine WL.qn (y_extractd rfl rfl) rfl ?_
   refine WL.as rfl rfl ?_
   refine WL.as rfl rfl ?_
   refine WL.ns ?_
   refine wc_sr ?_
   refine WL.mv rfl rfl ?_
   refine WL.mv rfl rfl ?_
   apply WL.or 5 (t := 33) (d := 38)
   ·exact rfl
   ·intro hg33
    refine WL.qy (y_fieldAddr f26_2 rfl) rfl rfl rfl ?_
    refine WL.qy (y_load rfl rfl a3 rfl) rfl rfl rfl ?_
    refine WL.qy (y_move rfl) rfl rfl rfl ?_
    refine WL.qy (y_eql rfl rfl) rfl rfl rfl ?_
    refine WL.qn (y_pick_f rfl rfl) rfl ?_
    exact WL.nil ⟨rfl, [_, _, _, _, _], rfl, rfl, rfl⟩
   ·refine WL.skips 4 rfl ?_
    refine WL.qn (y_pick_t rfl rfl) rfl ?_
    exact WL.nil ⟨rfl, [_, _, _, _, _], rfl, rfl, rfl⟩
   refine WL.ns ?_
   refine wc_cond rfl (fun hc2 => ?_) (fun hc2 => ?_)
   ·replace h := condT h hc2
    refine wc_sr ?_
    refine WL.qn (y_build p26 z26 rfl rfl) rfl ?_
    refine WL.s0 (d_store rfl rfl rfl rfl rfl rfl s26 rfl rfl) (Wt.none rfl) rfl ?_
    refine WL.st (st' := [.row 26 [sN, sN, sN, sN, sN, sN, sN, sN, sN, sN, sN, sN, sN, sN, sN, sN, sN, sN, sN, sN, sN, sN, sN, sN, sN, sN, sN, sN, sN, sN, sN, sN, sN, .d (D.i .i64 0)], .row 26 (vecA 32 (fun j => .d (.sl (List.map E3 (q0.ready j)))) ++ ([.d (.sl (List.map E62 q0.delays)), .d (D.i .i64 q0.run)] : List AV)), .row 26 [sN, sN, sN, sN, sN, sN, sN, sN, sN, sN, sN, sN, sN, sN, sN, sN, sN, sN, sN, sN, sN, sN, sN, sN, sN, sN, sN, sN, sN, sN, sN, sN, sN, .d (D.i .i64 0)]]) rfl ?_
    refine WL.as rfl rfl ?_
    refine WL.ns ?_
    refine wc_ret ?_
    refine we_seq_ret ?_
    exact we_ret (rs2 rfl (rv_cN rfl rfl a26 s26 rfl) (rv_t rfl)) (.inl ⟨7, h, (Le.tu ⟨(Le.refl _), (Le.refl _), trivial⟩), ⟨⟨rfl, Les.refl _⟩, ⟨rfl, Les.refl _⟩, ⟨rfl, Les.refl _⟩, trivial⟩⟩)
   ·replace h := condF h hc2
    refine wc_skip ?_
    refine we_seq ?_
    refine wc_sr ?_
    refine WL.qn (y_loadN rfl rfl a26 s26 rfl) rfl ?_
    replace h := guardBS h
    obtain ⟨hgg25, h⟩ := h
    replace h := guardBS h
    obtain ⟨hgg26, h⟩ := h
    refine Gh.wl (gh_push_os 3 1) ?_
    refine WL.wina [3] rfl rfl rfl rfl (O.f32g_c q0 (Int.toNat prio1) (vecOk_spec hgg25).2 hgg26) ⟨(Le.agd ⟨(Le.refl _), (Le.refl _), (Le.refl _), (Le.refl _), (Le.refl _), (Le.refl _), (Le.refl _), (Le.refl _), (Le.refl _), (Le.refl _), (Le.refl _), (Le.refl _), (Le.refl _), (Le.refl _), (Le.refl _), (Le.refl _), (Le.refl _), (Le.refl _), (Le.refl _), (Le.refl _), (Le.refl _), (Le.refl _), (Le.refl _), (Le.refl _), (Le.refl _), (Le.refl _), (Le.refl _), (Le.refl _), (Le.refl _), (Le.refl _), (Le.refl _), (Le.refl _), (Le.refl _), (Le.refl _), trivial⟩), trivial⟩ rfl (by decide) rfl ⟨rfl, trivial⟩ rfl rfl (fun _ => (stLt_cons (lt_os _ _ _ _ _ _) rfl)) (fun _ => (cons_eq (ren_os _ _ _ _ _ _) rfl)) (fun _ => O.gRow_lt _ _ _ _ rfl) (fun _ => O.gRow_ren _ _ _ _) (Wt.none rfl) rfl rfl (fun ver27 => ?_)
    refine WL.s0 (d_storeS (rs := vecA 32 (O.gRow q0 (Int.toNat prio1) 3 ver27) ++ O.tl q0) rfl rfl rfl rfl rfl (O.gRow_all q0 (Int.toNat prio1) 3 ver27 (O.os_ok1S rfl)) s26 rfl rfl) (Wt.none rfl) rfl ?_
    refine WL.st (st' := [.row 26 [sN, sN, sN, sN, sN, sN, sN, sN, sN, sN, sN, sN, sN, sN, sN, sN, sN, sN, sN, sN, sN, sN, sN, sN, sN, sN, sN, sN, sN, sN, sN, sN, sN, .d (D.i .i64 0)], .row 26 (vecA 32 (O.gRow q0 (Int.toNat prio1) 3 ver27) ++ ([.d (.sl (List.map E62 q0.delays)), .d (D.i .i64 q0.run)] : List AV)), .row 26 [sN, sN, sN, sN, sN, sN, sN, sN, sN, sN, sN, sN, sN, sN, sN, sN, sN, sN, sN, sN, sN, sN, sN, sN, sN, sN, sN, sN, sN, sN, sN, sN, sN, .d (D.i .i64 0)], .os 3 1 ver27 (List.map (encA E3) (q0.ready (Int.toNat prio1)))]) rfl ?_
    refine WL.st (st' := [.row 26 [sN, sN, sN, sN, sN, sN, sN, sN, sN, sN, sN, sN, sN, sN, sN, sN, sN, sN, sN, sN, sN, sN, sN, sN, sN, sN, sN, sN, sN, sN, sN, sN, sN, .d (D.i .i64 0)], .row 26 (vecA 32 (O.gRow q0 (Int.toNat prio1) 3 ver27) ++ ([.d (.sl (List.map E62 q0.delays)), .d (D.i .i64 q0.run)] : List AV)), .row 26 [sN, sN, sN, sN, sN, sN, sN, sN, sN, sN, sN, sN, sN, sN, sN, sN, sN, sN, sN, sN, sN, sN, sN, sN, sN, sN, sN, sN, sN, sN, sN, sN, sN, .d (D.i .i64 0)], .os 3 1 ver27 (List.map (encA E3) (q0.ready (Int.toNat prio1)))]) rfl ?_
    refine WL.ns ?_
    refine wc_sr ?_
    refine WL.mv rfl rfl ?_
    refine WL.mv rfl rfl ?_
    refine WL.mv rfl rfl ?_
    refine WL.qn (y_fieldAddr f26_0 rfl) rfl ?_
    replace h := guardBS h
    obtain ⟨hgg28, h⟩ := h
    refine WL.qn (y_indexAddra ar23 rfl rfl (vecOk_0 hgg28) (vecOk_1 hgg28)) rfl ?_
    refine WL.qn ((O.gRow_self q0 (Int.toNat prio1) 3 ver27) ▸ (y_loadV (i := prio1) (n := 32) (off := 0) (O.gRow q0 (Int.toNat prio1) 3 ver27) rfl rfl a22 rfl hgg28)) rfl ?_
    obtain ⟨k30, hk30, h⟩ := letkS h
    refine WL.inl (us := [.os 3 ver27, .d (.pc (E3 task2))]) (fun rv st' => (k30 () = some r ∧ Le rv (.d (.sl (List.map E3 (task2 :: (q0.ready (Int.toNat prio1)))))) ∧ SLe st' [.row 26 [sN, sN, sN, sN, sN, sN, sN, sN, sN, sN, sN, sN, sN, sN, sN, sN, sN, sN, sN, sN, sN, sN, sN, sN, sN, sN, sN, sN, sN, sN, sN, sN, sN, .d (D.i .i64 0)], .row 26 (vecA 32 (O.gRow q0 (Int.toNat prio1) 3 ver27) ++ ([.d (.sl (List.map E62 q0.delays)), .d (D.i .i64 q0.run)] : List AV)), .row 26 [sN, sN, sN, sN, sN, sN, sN, sN, sN, sN, sN, sN, sN, sN, sN, sN, sN, sN, sN, sN, sN, sN, sN, sN, sN, sN, sN, sN, sN, sN, sN, sN, sN, .d (D.i .i64 0)], .dead, .os 3 1 0 (List.map (encA E3) [task2])])) rfl rfl rfl rfl rfl ?_ (Wt.none rfl) rfl rfl ?_
    ·refine ctr_intro Try.func59 (by kernel_rfl) rfl rfl rfl (fun mm φφ ww hm29 => ?_)
     refine wc_sr ?_
     refine WL.as rfl rfl ?_
     refine WL.ns ?_
     refine wc_sr ?_
     refine WL.mv rfl rfl ?_
     refine WL.qn (y_loadc rfl a3 rfl) rfl ?_
     refine WL.s ((NewOs.b (n_buildSlice l22 z3 rfl (by decide) (by decide) rfl rfl rfl (by decide))).does) (Wt.none rfl) rfl rfl ?_
     replace h := guardBS h
     obtain ⟨hgg31, h⟩ := h
     refine WL.winy [3, 4] rfl rfl rfl rfl (ctr_insert0 (x := task2) Try.laysIns ⟨Try.f33, Try.func33, by kernel_rfl, by kernel_rfl⟩ (O.insOk_le hgg31)) ⟨Le.refl _, Le.refl _, Le.refl _, trivial⟩ rfl (by decide) (cons_eq (ren_os _ _ _ _ _ _) (cons_eq (ren_os _ _ _ _ _ _) rfl)) ⟨rfl, rfl, trivial⟩ (stLt_cons (lt_os _ _ _ _ _ _) (stLt_cons (lt_os _ _ _ _ _ _) rfl)) rfl (fun _ => (stLt_cons rfl (stLt_cons (lt_os _ _ _ _ _ _) rfl))) (fun _ => (cons_eq rfl (cons_eq (ren_os _ _ _ _ _ _) rfl))) (Wt.none rfl) rfl rfl (fun ver32 => ?_)
     refine WL.as rfl rfl ?_
     refine WL.ns ?_
     refine wc_ret ?_
     exact we_ret (rs1 rfl (rv_t rfl)) ⟨h, (Le.refl _), ⟨⟨rfl, Les.refl _⟩, ⟨rfl, Les.refl _⟩, ⟨rfl, Les.refl _⟩, trivial, ⟨rfl, rfl, rfl, rfl⟩, trivial⟩⟩
    ·rintro rv st1 ⟨h, hr, hst⟩
     subst hk30
     dsimp only at h
     refine WL.cast 48 rfl hr ?_
     refine WL.weak hst ?_
     refine WL.qn (y_fieldAddr f26_0 rfl) rfl ?_
     replace h := guardBS h
     obtain ⟨hgg33, h⟩ := h
     refine WL.qn (y_indexAddra ar23 rfl rfl (vecOk_0 hgg33) (vecOk_1 hgg33)) rfl ?_
     refine WL.s0 (d_storeV (i := prio1) (off := 0) (n := 32) (cs' := (vecA 32 (vset (O.gRow q0 (Int.toNat prio1) 3 ver27) (Int.toNat prio1) (.d (.sl (List.map E3 (task2 :: (q0.ready (Int.toNat prio1))))))) ++ ([.d (.sl (List.map E62 q0.delays)), .d (D.i .i64 q0.run)] : List AV))) (fun x : AV => x) (O.gRow q0 (Int.toNat prio1) 3 ver27) (.d (.sl (List.map E3 (task2 :: (q0.ready (Int.toNat prio1)))))) rfl rfl rfl (one_ok rfl) s22 rfl rfl hgg33 rfl) (Wt.none rfl) rfl ?_
     rw [O.gRow_put]
     refine WL.st (st' := [.row 26 [sN, sN, sN, sN, sN, sN, sN, sN, sN, sN, sN, sN, sN, sN, sN, sN, sN, sN, sN, sN, sN, sN, sN, sN, sN, sN, sN, sN, sN, sN, sN, sN, sN, .d (D.i .i64 0)], .row 26 (vecA 32 (fun j => .d (.sl (List.map E3 ((vset q0.ready (Int.toNat prio1) (task2 :: (q0.ready (Int.toNat prio1)))) j)))) ++ ([.d (.sl (List.map E62 q0.delays)), .d (D.i .i64 q0.run)] : List AV)), .row 26 [sN, sN, sN, sN, sN, sN, sN, sN, sN, sN, sN, sN, sN, sN, sN, sN, sN, sN, sN, sN, sN, sN, sN, sN, sN, sN, sN, sN, sN, sN, sN, sN, sN, .d (D.i .i64 0)], .dead, .os 3 1 0 (List.map (encA E3) [task2])]) rfl ?_
     refine WL.st (st' := [.row 26 [sN, sN, sN, sN, sN, sN, sN, sN, sN, sN, sN, sN, sN, sN, sN, sN, sN, sN, sN, sN, sN, sN, sN, sN, sN, sN, sN, sN, sN, sN, sN, sN, sN, .d (D.i .i64 0)], .row 26 (vecA 32 (fun j => .d (.sl (List.map E3 ((vset q0.ready (Int.toNat prio1) (task2 :: (q0.ready (Int.toNat prio1)))) j)))) ++ ([.d (.sl (List.map E62 q0.delays)), .d (D.i .i64 q0.run)] : List AV)), .row 26 [sN, sN, sN, sN, sN, sN, sN, sN, sN, sN, sN, sN, sN, sN, sN, sN, sN, sN, sN, sN, sN, sN, sN, sN, sN, sN, sN, sN, sN, sN, sN, sN, sN, .d (D.i .i64 0)], .dead, .os 3 1 0 (List.map (encA E3) [task2])]) rfl ?_
     refine WL.ns ?_
     refine wc_sr ?_
     refine WL.qn (y_loadN rfl rfl a26 s26 rfl) rfl ?_
     refine WL.s0 (d_store rfl rfl rfl rfl rfl rfl s26 rfl rfl) (Wt.none rfl) rfl ?_
     refine WL.st (st' := [.row 26 [sN, sN, sN, sN, sN, sN, sN, sN, sN, sN, sN, sN, sN, sN, sN, sN, sN, sN, sN, sN, sN, sN, sN, sN, sN, sN, sN, sN, sN, sN, sN, sN, sN, .d (D.i .i64 0)], .row 26 (vecA 32 (fun j => .d (.sl (List.map E3 ((vset q0.ready (Int.toNat prio1) (task2 :: (q0.ready (Int.toNat prio1)))) j)))) ++ ([.d (.sl (List.map E62 q0.delays)), .d (D.i .i64 q0.run)] : List AV)), .row 26 (vecA 32 (fun j => .d (.sl (List.map E3 ((vset q0.ready (Int.toNat prio1) (task2 :: (q0.ready (Int.toNat prio1)))) j)))) ++ ([.d (.sl (List.map E62 q0.delays)), .d (D.i .i64 q0.run)] : List AV)), .dead, .os 3 1 0 (List.map (encA E3) [task2])]) rfl ?_
     refine WL.as rfl rfl ?_
     refine WL.ns ?_
     refine wc_ret ?_
     exact we_ret (rs2 rfl (rv_cN rfl rfl a26 s26 rfl) (rv_t rfl)) (.inr (⟨h, (Le.tu ⟨(Le.refl _), (Le.refl _), trivial⟩), ⟨⟨rfl, Les.refl _⟩, ⟨rfl, Les.refl _⟩, ⟨rfl, Les.refl _⟩, trivial, ⟨rfl, rfl, rfl, rfl⟩, trivial⟩⟩))
 ·rintro rv st1 (⟨t20, h, hr, hst⟩ | ⟨h, hr, hst⟩)
  ·subst hk21
   dsimp only at h
   refine WL.cast 12 rfl hr ?_
   refine WL.weak hst ?_
   refine WL.qn (y_extract rfl rfl) rfl ?_
   refine WL.qn (y_extract rfl rfl) rfl ?_
   refine WL.s0 (d_store rfl rfl rfl rfl rfl rfl s26 rfl rfl) (Wt.none rfl) rfl ?_
   refine WL.st (st' := [.row 26 [sN, sN, sN, sN, sN, sN, sN, sN, sN, sN, sN, sN, sN, sN, sN, sN, sN, sN, sN, sN, sN, sN, sN, sN, sN, sN, sN, sN, sN, sN, sN, sN, sN, .d (D.i .i64 0)], .row 26 (vecA 32 (fun j => .d (.sl (List.map E3 (q0.ready j)))) ++ ([.d (.sl (List.map E62 q0.delays)), .d (D.i .i64 q0.run)] : List AV)), .row 26 [sN, sN, sN, sN, sN, sN, sN, sN, sN, sN, sN, sN, sN, sN, sN, sN, sN, sN, sN, sN, sN, sN, sN, sN, sN, sN, sN, sN, sN, sN, sN, sN, sN, .d (D.i .i64 0)]]) rfl ?_
   refine WL.as rfl rfl ?_
   refine WL.ns ?_
   refine wc_ret ?_
   obtain rfl := Option.some.inj h
   exact we_ret_fn (rs2 rfl (rv_cN rfl rfl a26 s26 rfl) (rv_t rfl)) (Le.tud ⟨(Le.agd ⟨Le.nil, Le.nil, Le.nil, Le.nil, Le.nil, Le.nil, Le.nil, Le.nil, Le.nil, Le.nil, Le.nil, Le.nil, Le.nil, Le.nil, Le.nil, Le.nil, Le.nil, Le.nil, Le.nil, Le.nil, Le.nil, Le.nil, Le.nil, Le.nil, Le.nil, Le.nil, Le.nil, Le.nil, Le.nil, Le.nil, Le.nil, Le.nil, Le.nil, (Le.refl _), trivial⟩), (Le.refl _), trivial⟩)
  ·subst hk22
   dsimp only at h
   refine WL.cast 12 rfl hr ?_
   refine WL.weak hst ?_
   refine WL.qn (y_extract rfl rfl) rfl ?_
   refine WL.qn (y_extract rfl rfl) rfl ?_
   refine WL.s0 (d_store rfl rfl rfl rfl rfl rfl s26 rfl rfl) (Wt.none rfl) rfl ?_
   refine WL.st (st' := [.row 26 (vecA 32 (fun j => .d (.sl (List.map E3 ((vset q0.ready (Int.toNat prio1) (task2 :: (q0.ready (Int.toNat prio1)))) j)))) ++ ([.d (.sl (List.map E62 q0.delays)), .d (D.i .i64 q0.run)] : List AV)), .row 26 (vecA 32 (fun j => .d (.sl (List.map E3 ((vset q0.ready (Int.toNat prio1) (task2 :: (q0.ready (Int.toNat prio1)))) j)))) ++ ([.d (.sl (List.map E62 q0.delays)), .d (D.i .i64 q0.run)] : List AV)), .row 26 (vecA 32 (fun j => .d (.sl (List.map E3 ((vset q0.ready (Int.toNat prio1) (task2 :: (q0.ready (Int.toNat prio1)))) j)))) ++ ([.d (.sl (List.map E62 q0.delays)), .d (D.i .i64 q0.run)] : List AV)), .dead, .os 3 1 0 (List.map (encA E3) [task2])]) rfl ?_
   refine WL.as rfl rfl ?_
   refine WL.ns ?_
   refine wc_ret ?_
   obtain rfl := Option.some.inj h
   exact we_ret_fn (rs2 rfl (rv_cN rfl rfl a26 s26 rfl) (rv_t rfl)) (Le.tud ⟨(Le.agd ⟨(Le.refl _), (Le.refl _), (Le.refl _), (Le.refl _), (Le.refl _), (Le.refl _), (Le.refl _), (Le.refl _), (Le.refl _), (Le.refl _), (Le.refl _), (Le.refl _), (Le.refl _), (Le.refl _), (Le.refl _), (Le.refl _), (Le.refl _), (Le.refl _), (Le.refl _), (Le.refl _), (Le.refl _), (Le.refl _), (Le.refl _), (Le.refl _), (Le.refl _), (Le.refl _), (Le.refl _), (Le.refl _), (Le.refl _), (Le.refl _), (Le.refl _), (Le.refl _), (Le.refl _), (Le.refl _), trivial⟩), (Le.refl _), trivial⟩)

theorem f31_c (a0 : List Int) (b1 : List Int) {r : Bool} (h : f31 a0 b1 = some r) : Pu Try.prog 31 [.sl (List.map E3 a0), .sl (List.map E3 b1)] (.b r) := by
 unfold f31 at h
 refine fn_intro Try.func31 (by kernel_rfl) rfl rfl rfl (fun φφ ww => ?_)
 refine wc_sr ?_
 refine WL.as rfl rfl ?_
 refine WL.ns ?_
 refine wc_seq ?_
 refine wc_sr ?_
 refine WL.mv rfl rfl ?_
 refine WL.qn (y_len_map E3 a0 e22 rfl rfl (Le.refl _)) rfl ?_
 refine WL.mv rfl rfl ?_
 refine WL.qn (y_len_map E3 b1 e22 rfl rfl (Le.refl _)) rfl ?_
 refine WL.qn (y_neq rfl rfl) rfl ?_
 refine WL.ns ?_
 refine wc_cond rfl (fun hc1 => ?_) (fun hc1 => ?_)
 ·replace h := condT h hc1
  refine wc_sr ?_
  refine WL.as rfl rfl ?_
  refine WL.ns ?_
  refine wc_ret ?_
  refine we_seq_ret ?_
  obtain rfl := Option.some.inj h
  exact we_ret_fn (rs1 rfl (rv_t rfl)) (Le.refl _)
 ·replace h := condF h hc1
  refine wc_skip ?_
  refine we_seq ?_
  replace h := letkS h
  obtain ⟨k29, hk29, h⟩ := h
  refine wc_cut (fun env' st' => k29 () = some r ∧ Sub [] env' ∧ SLe st' []) ?_ ?_
  ·refine wc_sr ?_
   refine WL.as rfl rfl ?_
   refine WL.ns ?_
   refine wc_block ?_
   refine wc_loop (fun n env' st' => ∃ (iq31 : Int), f31_l1 a0 b1 k29 n iq31 = some r ∧ Sub [(0, .d (.sl (List.map E3 a0))), (1, .d (.sl (List.map E3 b1))), (5, .d (D.i .i64 iq31))] env' ∧ SLe st' []) (fun n => n) 9223372036854775808 ⟨0, h, (Sub.cons rfl (Le.refl _) (Sub.cons rfl (Le.refl _) (Sub.cons rfl (Le.refl _) (Sub.nil _)))), trivial⟩ ?_
   rintro n env1 st1 ⟨iq31, h, hsub, hst⟩
   cases n with
   | zero => rw [f31_l1] at h; cases h
   | succ n =>
   rw [f31_l1] at h
   refine WC.sub hsub (WC.weak hst ?_)
   refine wc_seq ?_
   refine wc_sr ?_
   refine WL.mv rfl rfl ?_
   refine WL.mv rfl rfl ?_
   refine WL.qn (y_len_map E3 a0 e22 rfl rfl (Le.refl _)) rfl ?_
   refine WL.qn (y_lss rfl rfl) rfl ?_
   refine WL.ns ?_
   refine wc_cond rfl (fun hc2 => ?_) (fun hc2 => ?_)
   ·replace h := condT h hc2
    refine wc_skip ?_
    refine we_seq ?_
    refine wc_seq ?_
    refine wc_block ?_
    refine wc_seq ?_
    refine wc_region_draw (by kernel_rfl) (by kernel_rfl) ?_
    refine WQ.qn (y_move rfl) rfl ?_
    refine WQ.qn (y_move rfl) rfl ?_
    obtain ⟨x33, hx33, h⟩ := bindS h
    refine WQ.qn (y_indexAddr e22 rfl (Le.refl _) rfl (idx_nonneg hx33) (idx_row E3_eq hx33) rfl) rfl ?_
    refine WQ.qn (y_loadc rfl a3 rfl) rfl ?_
    refine WQ.qn (y_move rfl) rfl ?_
    refine WQ.qn (y_move rfl) rfl ?_
    obtain ⟨x34, hx34, h⟩ := bindS h
    refine WQ.qn (y_indexAddr e22 rfl (Le.refl _) rfl (idx_nonneg hx34) (idx_row E3_eq hx34) rfl) rfl ?_
    refine WQ.qn (y_loadc rfl a3 rfl) rfl ?_
    refine WQ.qn (y_neq rfl rfl) rfl ?_
    refine WQ.nil ?_
    refine we_seq ?_
    refine wc_cond rfl (fun hc3 => ?_) (fun hc3 => ?_)
    ·replace h := condT h hc3
     refine wc_sr ?_
     refine WL.as rfl rfl ?_
     refine WL.ns ?_
     refine wc_ret ?_
     refine we_blk_ret ?_
     refine we_seq_ret ?_
     refine we_lp_ret ?_
     refine we_blk_ret ?_
     refine we_lp_ret ?_
     obtain rfl := Option.some.inj h
     exact we_ret_fn (rs1 rfl (rv_t rfl)) (Le.refl _)
    ·replace h := condF h hc3
     refine wc_skip ?_
     refine we_blk ?_
     refine we_seq ?_
     refine wc_region ?_
     refine WL.mv rfl rfl ?_
     refine WL.qn (y_add rfl rfl rfl) rfl ?_
     refine WL.as rfl rfl ?_
     refine WL.nil ?_
     exact we_lp ⟨n, ⟨(IntKind.i64.wrap (iq31 + 1)), h, (Sub.cons rfl (Le.refl _) (Sub.cons rfl (Le.refl _) (Sub.cons rfl (Le.refl _) (Sub.nil _)))), trivial⟩, Nat.lt_succ_self n⟩
   ·replace h := condF h hc2
    refine wc_exit ?_
    refine we_seq_exit ?_
    refine we_lp_exit ?_
    refine we_blk_hit ?_
    exact we_lp ⟨h, (Sub.nil _), trivial⟩
  ·rintro env1 st1 ⟨h, hsub, hst⟩
   subst hk29
   dsimp only at h
   refine WC.sub hsub (WC.weak hst ?_)
   refine wc_sr ?_
   refine WL.as rfl rfl ?_
   refine WL.ns ?_
   refine wc_ret ?_
   obtain rfl := Option.some.inj h
   exact we_ret_fn (rs1 rfl (rv_t rfl)) (Le.refl _)

theorem f11_c  {r : Bool} (h : f11  = some r) : Pu Try.prog 11 [] (.b r) := by
 unfold f11 at h
 refine fn_intro Try.func11 (by kernel_rfl) rfl rfl rfl (fun φφ ww => ?_)
 refine wc_sr ?_
 refine WL.as rfl rfl ?_
 refine WL.ns ?_
 refine wc_sr ?_
 refine WL.fn rfl rfl rfl rfl (f16_c) trivial (Wt.none rfl) rfl rfl ?_
 refine WL.s ((b_alloc z26).does) (Wt.none rfl) rfl rfl ?_
 refine WL.s0 (d_store rfl rfl rfl rfl rfl rfl s26 rfl rfl) (Wt.none rfl) rfl ?_
 refine WL.st (st' := [.row 26 (vecA 32 (fun j => .d (.sl (List.map E3 (f16.ready j)))) ++ ([.d (.sl (List.map E62 f16.delays)), .d (D.i .i64 f16.run)] : List AV))]) rfl ?_
 refine WL.ns ?_
 refine wc_sr ?_
 refine WL.s ((b_alloc z63).does) (Wt.none rfl) rfl rfl ?_
 refine WL.ns ?_
 refine wc_sr ?_
 refine WL.qn (y_loadN rfl rfl a26 s26 rfl) rfl ?_
 obtain ⟨r168, hr168, h⟩ := bindS h
 refine WL.fn rfl rfl rfl rfl (f21_c _ _ _ hr168) ⟨(Le.agd ⟨(Le.refl _), (Le.refl _), (Le.refl _), (Le.refl _), (Le.refl _), (Le.refl _), (Le.refl _), (Le.refl _), (Le.refl _), (Le.refl _), (Le.refl _), (Le.refl _), (Le.refl _), (Le.refl _), (Le.refl _), (Le.refl _), (Le.refl _), (Le.refl _), (Le.refl _), (Le.refl _), (Le.refl _), (Le.refl _), (Le.refl _), (Le.refl _), (Le.refl _), (Le.refl _), (Le.refl _), (Le.refl _), (Le.refl _), (Le.refl _), (Le.refl _), (Le.refl _), (Le.refl _), (Le.refl _), trivial⟩), (Le.refl _), (Le.refl _), trivial⟩ (Wt.none rfl) rfl rfl ?_
 refine WL.mv rfl rfl ?_
 refine WL.qn (y_extractd rfl rfl) rfl ?_
 refine WL.qn (y_extractd rfl rfl) rfl ?_
 refine WL.s0 (d_store rfl rfl rfl rfl rfl rfl s26 rfl rfl) (Wt.none rfl) rfl ?_
 refine WL.st (st' := [.row 26 (vecA 32 (fun j => .d (.sl (List.map E3 (r168.1.ready j)))) ++ ([.d (.sl (List.map E62 r168.1.delays)), .d (D.i .i64 r168.1.run)] : List AV)), .row 63 [.d (D.i .i64 0), .d (D.i .i64 0), .d (D.i .i64 0), .d (D.i .i64 0), .d (D.i .i64 0), .d (D.i .i64 0), .d (D.i .i64 0), .d (D.i .i64 0)]]) rfl ?_
 refine WL.qn (y_indexAddra ar63 rfl rfl (by decide) (by decide)) rfl ?_
 refine WL.s0 (d_store rfl rfl rfl rfl rfl rfl s29 rfl rfl) (Wt.none rfl) rfl ?_
 refine WL.st (st' := [.row 26 (vecA 32 (fun j => .d (.sl (List.map E3 (r168.1.ready j)))) ++ ([.d (.sl (List.map E62 r168.1.delays)), .d (D.i .i64 r168.1.run)] : List AV)), .row 63 [.d (D.i .i64 r168.2), .d (D.i .i64 0), .d (D.i .i64 0), .d (D.i .i64 0), .d (D.i .i64 0), .d (D.i .i64 0), .d (D.i .i64 0), .d (D.i .i64 0)]]) rfl ?_
 refine WL.ns ?_
 refine wc_sr ?_
 refine WL.qn (y_loadN rfl rfl a26 s26 rfl) rfl ?_
 obtain ⟨r169, hr169, h⟩ := bindS h
 refine WL.fn rfl rfl rfl rfl (f21_c _ _ _ hr169) ⟨(Le.agd ⟨(Le.refl _), (Le.refl _), (Le.refl _), (Le.refl _), (Le.refl _), (Le.refl _), (Le.refl _), (Le.refl _), (Le.refl _), (Le.refl _), (Le.refl _), (Le.refl _), (Le.refl _), (Le.refl _), (Le.refl _), (Le.refl _), (Le.refl _), (Le.refl _), (Le.refl _), (Le.refl _), (Le.refl _), (Le.refl _), (Le.refl _), (Le.refl _), (Le.refl _), (Le.refl _), (Le.refl _), (Le.refl _), (Le.refl _), (Le.refl _), (Le.refl _), (Le.refl _), (Le.refl _), (Le.refl _), trivial⟩), (Le.refl _), (Le.refl _), trivial⟩ (Wt.none rfl) rfl rfl ?_
 refine WL.mv rfl rfl ?_
 refine WL.qn (y_extractd rfl rfl) rfl ?_
 refine WL.qn (y_extractd rfl rfl) rfl ?_
 refine WL.s0 (d_store rfl rfl rfl rfl rfl rfl s26 rfl rfl) (Wt.none rfl) rfl ?_
 refine WL.st (st' := [.row 26 (vecA 32 (fun j => .d (.sl (List.map E3 (r169.1.ready j)))) ++ ([.d (.sl (List.map E62 r169.1.delays)), .d (D.i .i64 r169.1.run)] : List AV)), .row 63 [.d (D.i .i64 r168.2), .d (D.i .i64 0), .d (D.i .i64 0), .d (D.i .i64 0), .d (D.i .i64 0), .d (D.i .i64 0), .d (D.i .i64 0), .d (D.i .i64 0)]]) rfl ?_
 refine WL.qn (y_indexAddra ar63 rfl rfl (by decide) (by decide)) rfl ?_
 refine WL.s0 (d_store rfl rfl rfl rfl rfl rfl s29 rfl rfl) (Wt.none rfl) rfl ?_
 refine WL.st (st' := [.row 26 (vecA 32 (fun j => .d (.sl (List.map E3 (r169.1.ready j)))) ++ ([.d (.sl (List.map E62 r169.1.delays)), .d (D.i .i64 r169.1.run)] : List AV)), .row 63 [.d (D.i .i64 r168.2), .d (D.i .i64 r169.2), .d (D.i .i64 0), .d (D.i .i64 0), .d (D.i .i64 0), .d (D.i .i64 0), .d (D.i .i64 0), .d (D.i .i64 0)]]) rfl ?_
 refine WL.ns ?_
 refine wc_sr ?_
 refine WL.qn (y_loadN rfl rfl a26 s26 rfl) rfl ?_
 obtain ⟨r170, hr170, h⟩ := bindS h
 refine WL.fn rfl rfl rfl rfl (f28_c _ _ _ hr170) ⟨(Le.agd ⟨(Le.refl _), (Le.refl _), (Le.refl _), (Le.refl _), (Le.refl _), (Le.refl _), (Le.refl _), (Le.refl _), (Le.refl _), (Le.refl _), (Le.refl _), (Le.refl _), (Le.refl _), (Le.refl _), (Le.refl _), (Le.refl _), (Le.refl _), (Le.refl _), (Le.refl _), (Le.refl _), (Le.refl _), (Le.refl _), (Le.refl _), (Le.refl _), (Le.refl _), (Le.refl _), (Le.refl _), (Le.refl _), (Le.refl _), (Le.refl _), (Le.refl _), (Le.refl _), (Le.refl _), (Le.refl _), trivial⟩), (Le.refl _), (Le.refl _), trivial⟩ (Wt.none rfl) rfl rfl ?_
 refine WL.mv rfl rfl ?_
 refine WL.qn (y_extractd rfl rfl) rfl ?_
 refine WL.qn (y_extractd rfl rfl) rfl ?_
 refine WL.s0 (d_store rfl rfl rfl rfl rfl rfl s26 rfl rfl) (Wt.none rfl) rfl ?_
 refine WL.st (st' := [.row 26 (vecA 32 (fun j => .d (.sl (List.map E3 (r170.1.ready j)))) ++ ([.d (.sl (List.map E62 r170.1.delays)), .d (D.i .i64 r170.1.run)] : List AV)), .row 63 [.d (D.i .i64 r168.2), .d (D.i .i64 r169.2), .d (D.i .i64 0), .d (D.i .i64 0), .d (D.i .i64 0), .d (D.i .i64 0), .d (D.i .i64 0), .d (D.i .i64 0)]]) rfl ?_
 refine WL.qn (y_indexAddra ar63 rfl rfl (by decide) (by decide)) rfl ?_
 refine WL.s0 (d_store rfl rfl rfl rfl rfl rfl s29 rfl rfl) (Wt.none rfl) rfl ?_
 refine WL.st (st' := [.row 26 (vecA 32 (fun j => .d (.sl (List.map E3 (r170.1.ready j)))) ++ ([.d (.sl (List.map E62 r170.1.delays)), .d (D.i .i64 r170.1.run)] : List AV)), .row 63 [.d (D.i .i64 r168.2), .d (D.i .i64 r169.2), .d (D.i .i64 r170.2), .d (D.i .i64 0), .d (D.i .i64 0), .d (D.i .i64 0), .d (D.i .i64 0), .d (D.i .i64 0)]]) rfl ?_
 refine WL.ns ?_
 refine wc_sr ?_
 refine WL.qn (y_loadN rfl rfl a26 s26 rfl) rfl ?_
 obtain ⟨r171, hr171, h⟩ := bindS h
 refine WL.fn rfl rfl rfl rfl (f14_c _ hr171) ⟨(Le.agd ⟨(Le.refl _), (Le.refl _), (Le.refl _), (Le.refl _), (Le.refl _), (Le.refl _), (Le.refl _), (Le.refl _), (Le.refl _), (Le.refl _), (Le.refl _), (Le.refl _), (Le.refl _), (Le.refl _), (Le.refl _), (Le.refl _), (Le.refl _), (Le.refl _), (Le.refl _), (Le.refl _), (Le.refl _), (Le.refl _), (Le.refl _), (Le.refl _), (Le.refl _), (Le.refl _), (Le.refl _), (Le.refl _), (Le.refl _), (Le.refl _), (Le.refl _), (Le.refl _), (Le.refl _), (Le.refl _), trivial⟩), trivial⟩ (Wt.none rfl) rfl rfl ?_
 refine WL.mv rfl rfl ?_
 refine WL.qn (y_extractd rfl rfl) rfl ?_
 refine WL.qn (y_extractd rfl rfl) rfl ?_
 refine WL.qn (y_extractd rfl rfl) rfl ?_
 refine WL.as rfl rfl ?_
 refine WL.as rfl rfl ?_
 refine WL.as rfl rfl ?_
 refine WL.ns ?_
 refine wc_sr ?_
 refine WL.qn (y_loadN rfl rfl a26 s26 rfl) rfl ?_
 obtain ⟨r172, hr172, h⟩ := bindS h
 refine WL.fn rfl rfl rfl rfl (f12_c _ _ hr172) ⟨(Le.agd ⟨(Le.refl _), (Le.refl _), (Le.refl _), (Le.refl _), (Le.refl _), (Le.refl _), (Le.refl _), (Le.refl _), (Le.refl _), (Le.refl _), (Le.refl _), (Le.refl _), (Le.refl _), (Le.refl _), (Le.refl _), (Le.refl _), (Le.refl _), (Le.refl _), (Le.refl _), (Le.refl _), (Le.refl _), (Le.refl _), (Le.refl _), (Le.refl _), (Le.refl _), (Le.refl _), (Le.refl _), (Le.refl _), (Le.refl _), (Le.refl _), (Le.refl _), (Le.refl _), (Le.refl _), (Le.refl _), trivial⟩), (Le.refl _), trivial⟩ (Wt.none rfl) rfl rfl ?_
 refine WL.mv rfl rfl ?_
 refine WL.qn (y_extractd rfl rfl) rfl ?_
 refine WL.qn (y_extractd rfl rfl) rfl ?_
 refine WL.s0 (d_store rfl rfl rfl rfl rfl rfl s26 rfl rfl) (Wt.none rfl) rfl ?_
 refine WL.st (st' := [.row 26 (vecA 32 (fun j => .d (.sl (List.map E3 (r172.1.ready j)))) ++ ([.d (.sl (List.map E62 r172.1.delays)), .d (D.i .i64 r172.1.run)] : List AV)), .row 63 [.d (D.i .i64 r168.2), .d (D.i .i64 r169.2), .d (D.i .i64 r170.2), .d (D.i .i64 0), .d (D.i .i64 0), .d (D.i .i64 0), .d (D.i .i64 0), .d (D.i .i64 0)]]) rfl ?_
 refine WL.qn (y_indexAddra ar63 rfl rfl (by decide) (by decide)) rfl ?_
 refine WL.s0 (d_store rfl rfl rfl rfl rfl rfl s29 rfl rfl) (Wt.none rfl) rfl ?_
 refine WL.st (st' := [.row 26 (vecA 32 (fun j => .d (.sl (List.map E3 (r172.1.ready j)))) ++ ([.d (.sl (List.map E62 r172.1.delays)), .d (D.i .i64 r172.1.run)] : List AV)), .row 63 [.d (D.i .i64 r168.2), .d (D.i .i64 r169.2), .d (D.i .i64 r170.2), .d (D.i .i64 r172.2), .d (D.i .i64 0), .d (D.i .i64 0), .d (D.i .i64 0), .d (D.i .i64 0)]]) rfl ?_
 refine WL.ns ?_
 refine wc_sr ?_
 refine WL.qn (y_fieldAddr f26_2 rfl) rfl ?_
 refine WL.qn (y_load rfl rfl a3 rfl) rfl ?_
 refine WL.qn (y_eql rfl rfl) rfl ?_
 refine WL.as rfl rfl ?_
 refine WL.ns ?_
 refine wc_sr ?_
 refine WL.qn (y_loadN rfl rfl a26 s26 rfl) rfl ?_
 obtain ⟨r173, hr173, h⟩ := bindS h
 refine WL.fn rfl rfl rfl rfl (f21_c _ _ _ hr173) ⟨(Le.agd ⟨(Le.refl _), (Le.refl _), (Le.refl _), (Le.refl _), (Le.refl _), (Le.refl _), (Le.refl _), (Le.refl _), (Le.refl _), (Le.refl _), (Le.refl _), (Le.refl _), (Le.refl _), (Le.refl _), (Le.refl _), (Le.refl _), (Le.refl _), (Le.refl _), (Le.refl _), (Le.refl _), (Le.refl _), (Le.refl _), (Le.refl _), (Le.refl _), (Le.refl _), (Le.refl _), (Le.refl _), (Le.refl _), (Le.refl _), (Le.refl _), (Le.refl _), (Le.refl _), (Le.refl _), (Le.refl _), trivial⟩), (Le.refl _), (Le.refl _), trivial⟩ (Wt.none rfl) rfl rfl ?_
 refine WL.mv rfl rfl ?_
 refine WL.qn (y_extractd rfl rfl) rfl ?_
 refine WL.qn (y_extractd rfl rfl) rfl ?_
 refine WL.s0 (d_store rfl rfl rfl rfl rfl rfl s26 rfl rfl) (Wt.none rfl) rfl ?_
 refine WL.st (st' := [.row 26 (vecA 32 (fun j => .d (.sl (List.map E3 (r173.1.ready j)))) ++ ([.d (.sl (List.map E62 r173.1.delays)), .d (D.i .i64 r173.1.run)] : List AV)), .row 63 [.d (D.i .i64 r168.2), .d (D.i .i64 r169.2), .d (D.i .i64 r170.2), .d (D.i .i64 r172.2), .d (D.i .i64 0), .d (D.i .i64 0), .d (D.i .i64 0), .d (D.i .i64 0)]]) rfl ?_
 refine WL.qn (y_indexAddra ar63 rfl rfl (by decide) (by decide)) rfl ?_
 refine WL.s0 (d_store rfl rfl rfl rfl rfl rfl s29 rfl rfl) (Wt.none rfl) rfl ?_
 refine WL.st (st' := [.row 26 (vecA 32 (fun j => .d (.sl (List.map E3 (r173.1.ready j)))) ++ ([.d (.sl (List.map E62 r173.1.delays)), .d (D.i .i64 r173.1.run)] : List AV)), .row 63 [.d (D.i .i64 r168.2), .d (D.i .i64 r169.2), .d (D.i .i64 r170.2), .d (D.i .i64 r172.2), .d (D.i .i64 r173.2), .d (D.i .i64 0), .d (D.i .i64 0), .d (D.i .i64 0)]]) rfl ?_
 refine WL.ns ?_
 refine wc_sr ?_
 refine WL.qn (y_loadN rfl rfl a26 s26 rfl) rfl ?_
 obtain ⟨r174, hr174, h⟩ := bindS h
 refine WL.fn rfl rfl rfl rfl (f12_c _ _ hr174) ⟨(Le.agd ⟨(Le.refl _), (Le.refl _), (Le.refl _), (Le.refl _), (Le.refl _), (Le.refl _), (Le.refl _), (Le.refl _), (Le.refl _), (Le.refl _), (Le.refl _), (Le.refl _), (Le.refl _), (Le.refl _), (Le.refl _), (Le.refl _), (Le.refl _), (Le.refl _), (Le.refl _), (Le.refl _), (Le.refl _), (Le.refl _), (Le.refl _), (Le.refl _), (Le.refl _), (Le.refl _), (Le.refl _), (Le.refl _), (Le.refl _), (Le.refl _), (Le.refl _), (Le.refl _), (Le.refl _), (Le.refl _), trivial⟩), (Le.refl _), trivial⟩ (Wt.none rfl) rfl rfl ?_
 refine WL.mv rfl rfl ?_
 refine WL.qn (y_extractd rfl rfl) rfl ?_
 refine WL.qn (y_extractd rfl rfl) rfl ?_
 refine WL.s0 (d_store rfl rfl rfl rfl rfl rfl s26 rfl rfl) (Wt.none rfl) rfl ?_
 refine WL.st (st' := [.row 26 (vecA 32 (fun j => .d (.sl (List.map E3 (r174.1.ready j)))) ++ ([.d (.sl (List.map E62 r174.1.delays)), .d (D.i .i64 r174.1.run)] : List AV)), .row 63 [.d (D.i .i64 r168.2), .d (D.i .i64 r169.2), .d (D.i .i64 r170.2), .d (D.i .i64 r172.2), .d (D.i .i64 r173.2), .d (D.i .i64 0), .d (D.i .i64 0), .d (D.i .i64 0)]]) rfl ?_
 refine WL.qn (y_indexAddra ar63 rfl rfl (by decide) (by decide)) rfl ?_
 refine WL.s0 (d_store rfl rfl rfl rfl rfl rfl s29 rfl rfl) (Wt.none rfl) rfl ?_
 refine WL.st (st' := [.row 26 (vecA 32 (fun j => .d (.sl (List.map E3 (r174.1.ready j)))) ++ ([.d (.sl (List.map E62 r174.1.delays)), .d (D.i .i64 r174.1.run)] : List AV)), .row 63 [.d (D.i .i64 r168.2), .d (D.i .i64 r169.2), .d (D.i .i64 r170.2), .d (D.i .i64 r172.2), .d (D.i .i64 r173.2), .d (D.i .i64 r174.2), .d (D.i .i64 0), .d (D.i .i64 0)]]) rfl ?_
 refine WL.ns ?_
 refine wc_sr ?_
 refine WL.qn (y_fieldAddr f26_2 rfl) rfl ?_
 refine WL.qn (y_load rfl rfl a3 rfl) rfl ?_
 refine WL.qn (y_eql rfl rfl) rfl ?_
 refine WL.mv rfl rfl ?_
 apply WL.and 6 (t := 65) (d := 71)
 ·exact rfl
 ·intro hg65
  refine WL.qy (y_fieldAddr f26_0 rfl) rfl rfl rfl ?_
  refine WL.qy (y_indexAddra ar23 rfl rfl (by decide) (by decide)) rfl rfl rfl ?_
  refine WL.qy (y_loadV (off := 0) (n := 32) (fun j => .d (.sl (List.map E3 (r174.1.ready j)))) rfl rfl a22 rfl (by decide)) rfl rfl rfl ?_
  refine WL.qy (y_len_map E3 (r174.1.ready (Int.toNat 3)) e22 rfl rfl (Le.refl _)) rfl rfl rfl ?_
  refine WL.qy (y_eql rfl rfl) rfl rfl rfl ?_
  refine WL.qn (y_pick_t rfl rfl) rfl ?_
  exact WL.nil ⟨rfl, [_, _, _, _, _, _], rfl, rfl, rfl⟩
 ·refine WL.skips 5 rfl ?_
  refine WL.qn (y_pick_f rfl rfl) rfl ?_
  exact WL.nil ⟨rfl, [_, _, _, _, _, _], rfl, rfl, rfl⟩
 refine WL.mv rfl rfl ?_
 obtain ⟨b175, hb175, h⟩ := bindS h
 apply WL.grp 7 (t := 72) (d := 79) (z := b175)
 ·exact rfl
 ·intro hg72
  have h := condT hb175 hg72
  refine WL.qy (y_fieldAddr f26_0 rfl) rfl rfl rfl ?_
  refine WL.qy (y_indexAddra ar23 rfl rfl (by decide) (by decide)) rfl rfl rfl ?_
  refine WL.qy (y_loadV (off := 0) (n := 32) (fun j => .d (.sl (List.map E3 (r174.1.ready j)))) rfl rfl a22 rfl (by decide)) rfl rfl rfl ?_
  obtain ⟨x176, hx176, h⟩ := bindS h
  refine WL.qy (y_indexAddr e22 rfl (Le.refl _) rfl (idx_nonneg hx176) (idx_row E3_eq hx176) rfl) rfl rfl rfl ?_
  refine WL.qy (y_loadc rfl a3 rfl) rfl rfl rfl ?_
  refine WL.qy (y_eql rfl rfl) rfl rfl rfl ?_
  refine WL.qn (y_pick_t rfl rfl) rfl ?_
  obtain rfl := Option.some.inj h
  exact WL.nil ⟨rfl, [_, _, _, _, _, _, _], rfl, rfl, rfl⟩
 ·intro hg72
  have h := condF hb175 hg72
  refine WL.skips 6 rfl ?_
  refine WL.qn (y_pick_f rfl rfl) rfl ?_
  obtain rfl := Option.some.inj h
  exact WL.nil ⟨rfl, [_, _, _, _, _, _, _], rfl, rfl, rfl⟩
 refine WL.as rfl rfl ?_
 refine WL.ns ?_
 refine wc_sr ?_
 refine WL.qn (y_loadN rfl rfl a26 s26 rfl) rfl ?_
 obtain ⟨r177, hr177, h⟩ := bindS h
 refine WL.fn rfl rfl rfl rfl (f21_c _ _ _ hr177) ⟨(Le.agd ⟨(Le.refl _), (Le.refl _), (Le.refl _), (Le.refl _), (Le.refl _), (Le.refl _), (Le.refl _), (Le.refl _), (Le.refl _), (Le.refl _), (Le.refl _), (Le.refl _), (Le.refl _), (Le.refl _), (Le.refl _), (Le.refl _), (Le.refl _), (Le.refl _), (Le.refl _), (Le.refl _), (Le.refl _), (Le.refl _), (Le.refl _), (Le.refl _), (Le.refl _), (Le.refl _), (Le.refl _), (Le.refl _), (Le.refl _), (Le.refl _), (Le.refl _), (Le.refl _), (Le.refl _), (Le.refl _), trivial⟩), (Le.refl _), (Le.refl _), trivial⟩ (Wt.none rfl) rfl rfl ?_
 refine WL.mv rfl rfl ?_
 refine WL.qn (y_extractd rfl rfl) rfl ?_
 refine WL.qn (y_extractd rfl rfl) rfl ?_
 refine WL.s ((b_alloc z26).does) (Wt.none rfl) rfl rfl ?_
 refine WL.s0 (d_store rfl rfl rfl rfl rfl rfl s26 rfl rfl) (Wt.none rfl) rfl ?_
 refine WL.st (st' := [.row 26 (vecA 32 (fun j => .d (.sl (List.map E3 (r174.1.ready j)))) ++ ([.d (.sl (List.map E62 r174.1.delays)), .d (D.i .i64 r174.1.run)] : List AV)), .row 63 [.d (D.i .i64 r168.2), .d (D.i .i64 r169.2), .d (D.i .i64 r170.2), .d (D.i .i64 r172.2), .d (D.i .i64 r173.2), .d (D.i .i64 r174.2), .d (D.i .i64 0), .d (D.i .i64 0)], .row 26 (vecA 32 (fun j => .d (.sl (List.map E3 (r177.1.ready j)))) ++ ([.d (.sl (List.map E62 r177.1.delays)), .d (D.i .i64 r177.1.run)] : List AV))]) rfl ?_
 refine WL.as rfl rfl ?_
 refine WL.ns ?_
 refine wc_sr ?_
 refine WL.qn (y_loadN rfl rfl a26 s26 rfl) rfl ?_
 obtain ⟨r178, hr178, h⟩ := bindS h
 refine WL.fn rfl rfl rfl rfl (f18_c _ _ hr178) ⟨(Le.agd ⟨(Le.refl _), (Le.refl _), (Le.refl _), (Le.refl _), (Le.refl _), (Le.refl _), (Le.refl _), (Le.refl _), (Le.refl _), (Le.refl _), (Le.refl _), (Le.refl _), (Le.refl _), (Le.refl _), (Le.refl _), (Le.refl _), (Le.refl _), (Le.refl _), (Le.refl _), (Le.refl _), (Le.refl _), (Le.refl _), (Le.refl _), (Le.refl _), (Le.refl _), (Le.refl _), (Le.refl _), (Le.refl _), (Le.refl _), (Le.refl _), (Le.refl _), (Le.refl _), (Le.refl _), (Le.refl _), trivial⟩), (Le.refl _), trivial⟩ (Wt.none rfl) rfl rfl ?_
 refine WL.mv rfl rfl ?_
 refine WL.qn (y_extractd rfl rfl) rfl ?_
 refine WL.qn (y_extractd rfl rfl) rfl ?_
 refine WL.s ((b_alloc z26).does) (Wt.none rfl) rfl rfl ?_
 refine WL.s0 (d_store rfl rfl rfl rfl rfl rfl s26 rfl rfl) (Wt.none rfl) rfl ?_
 refine WL.st (st' := [.row 26 (vecA 32 (fun j => .d (.sl (List.map E3 (r174.1.ready j)))) ++ ([.d (.sl (List.map E62 r174.1.delays)), .d (D.i .i64 r174.1.run)] : List AV)), .row 63 [.d (D.i .i64 r168.2), .d (D.i .i64 r169.2), .d (D.i .i64 r170.2), .d (D.i .i64 r172.2), .d (D.i .i64 r173.2), .d (D.i .i64 r174.2), .d (D.i .i64 0), .d (D.i .i64 0)], .row 26 (vecA 32 (fun j => .d (.sl (List.map E3 (r177.1.ready j)))) ++ ([.d (.sl (List.map E62 r177.1.delays)), .d (D.i .i64 r177.1.run)] : List AV)), .row 26 (vecA 32 (fun j => .d (.sl (List.map E3 (r178.1.ready j)))) ++ ([.d (.sl (List.map E62 r178.1.delays)), .d (D.i .i64 r178.1.run)] : List AV))]) rfl ?_
 refine WL.as rfl rfl ?_
 refine WL.ns ?_
 refine wc_sr ?_
 refine WL.qn (y_loadN rfl rfl a26 s26 rfl) rfl ?_
 obtain ⟨r179, hr179, h⟩ := bindS h
 refine WL.fn rfl rfl rfl rfl (f17_c _ _ _ hr179) ⟨(Le.agd ⟨(Le.refl _), (Le.refl _), (Le.refl _), (Le.refl _), (Le.refl _), (Le.refl _), (Le.refl _), (Le.refl _), (Le.refl _), (Le.refl _), (Le.refl _), (Le.refl _), (Le.refl _), (Le.refl _), (Le.refl _), (Le.refl _), (Le.refl _), (Le.refl _), (Le.refl _), (Le.refl _), (Le.refl _), (Le.refl _), (Le.refl _), (Le.refl _), (Le.refl _), (Le.refl _), (Le.refl _), (Le.refl _), (Le.refl _), (Le.refl _), (Le.refl _), (Le.refl _), (Le.refl _), (Le.refl _), trivial⟩), (Le.refl _), (Le.refl _), trivial⟩ (Wt.none rfl) rfl rfl ?_
 refine WL.mv rfl rfl ?_
 refine WL.qn (y_extractd rfl rfl) rfl ?_
 refine WL.qn (y_extractd rfl rfl) rfl ?_
 refine WL.s0 (d_store rfl rfl rfl rfl rfl rfl s26 rfl rfl) (Wt.none rfl) rfl ?_
 refine WL.st (st' := [.row 26 (vecA 32 (fun j => .d (.sl (List.map E3 (r179.1.ready j)))) ++ ([.d (.sl (List.map E62 r179.1.delays)), .d (D.i .i64 r179.1.run)] : List AV)), .row 63 [.d (D.i .i64 r168.2), .d (D.i .i64 r169.2), .d (D.i .i64 r170.2), .d (D.i .i64 r172.2), .d (D.i .i64 r173.2), .d (D.i .i64 r174.2), .d (D.i .i64 0), .d (D.i .i64 0)], .row 26 (vecA 32 (fun j => .d (.sl (List.map E3 (r177.1.ready j)))) ++ ([.d (.sl (List.map E62 r177.1.delays)), .d (D.i .i64 r177.1.run)] : List AV)), .row 26 (vecA 32 (fun j => .d (.sl (List.map E3 (r178.1.ready j)))) ++ ([.d (.sl (List.map E62 r178.1.delays)), .d (D.i .i64 r178.1.run)] : List AV))]) rfl ?_
 refine WL.qn (y_indexAddra ar63 rfl rfl (by decide) (by decide)) rfl ?_
 refine WL.s0 (d_store rfl rfl rfl rfl rfl rfl s29 rfl rfl) (Wt.none rfl) rfl ?_
 refine WL.st (st' := [.row 26 (vecA 32 (fun j => .d (.sl (List.map E3 (r179.1.ready j)))) ++ ([.d (.sl (List.map E62 r179.1.delays)), .d (D.i .i64 r179.1.run)] : List AV)), .row 63 [.d (D.i .i64 r168.2), .d (D.i .i64 r169.2), .d (D.i .i64 r170.2), .d (D.i .i64 r172.2), .d (D.i .i64 r173.2), .d (D.i .i64 r174.2), .d (D.i .i64 r179.2), .d (D.i .i64 0)], .row 26 (vecA 32 (fun j => .d (.sl (List.map E3 (r177.1.ready j)))) ++ ([.d (.sl (List.map E62 r177.1.delays)), .d (D.i .i64 r177.1.run)] : List AV)), .row 26 (vecA 32 (fun j => .d (.sl (List.map E3 (r178.1.ready j)))) ++ ([.d (.sl (List.map E62 r178.1.delays)), .d (D.i .i64 r178.1.run)] : List AV))]) rfl ?_
 refine WL.ns ?_
 refine wc_sr ?_
 refine WL.qn (y_loadN rfl rfl a26 s26 rfl) rfl ?_
 obtain ⟨r180, hr180, h⟩ := bindS h
 refine WL.fn rfl rfl rfl rfl (f17_c _ _ _ hr180) ⟨(Le.agd ⟨(Le.refl _), (Le.refl _), (Le.refl _), (Le.refl _), (Le.refl _), (Le.refl _), (Le.refl _), (Le.refl _), (Le.refl _), (Le.refl _), (Le.refl _), (Le.refl _), (Le.refl _), (Le.refl _), (Le.refl _), (Le.refl _), (Le.refl _), (Le.refl _), (Le.refl _), (Le.refl _), (Le.refl _), (Le.refl _), (Le.refl _), (Le.refl _), (Le.refl _), (Le.refl _), (Le.refl _), (Le.refl _), (Le.refl _), (Le.refl _), (Le.refl _), (Le.refl _), (Le.refl _), (Le.refl _), trivial⟩), (Le.refl _), (Le.refl _), trivial⟩ (Wt.none rfl) rfl rfl ?_
 refine WL.mv rfl rfl ?_
 refine WL.qn (y_extractd rfl rfl) rfl ?_
 refine WL.qn (y_extractd rfl rfl) rfl ?_
 refine WL.s0 (d_store rfl rfl rfl rfl rfl rfl s26 rfl rfl) (Wt.none rfl) rfl ?_
 refine WL.st (st' := [.row 26 (vecA 32 (fun j => .d (.sl (List.map E3 (r180.1.ready j)))) ++ ([.d (.sl (List.map E62 r180.1.delays)), .d (D.i .i64 r180.1.run)] : List AV)), .row 63 [.d (D.i .i64 r168.2), .d (D.i .i64 r169.2), .d (D.i .i64 r170.2), .d (D.i .i64 r172.2), .d (D.i .i64 r173.2), .d (D.i .i64 r174.2), .d (D.i .i64 r179.2), .d (D.i .i64 0)], .row 26 (vecA 32 (fun j => .d (.sl (List.map E3 (r177.1.ready j)))) ++ ([.d (.sl (List.map E62 r177.1.delays)), .d (D.i .i64 r177.1.run)] : List AV)), .row 26 (vecA 32 (fun j => .d (.sl (List.map E3 (r178.1.ready j)))) ++ ([.d (.sl (List.map E62 r178.1.delays)), .d (D.i .i64 r178.1.run)] : List AV))]) rfl ?_
 refine WL.qn (y_indexAddra ar63 rfl rfl (by decide) (by decide)) rfl ?_
 refine WL.s0 (d_store rfl rfl rfl rfl rfl rfl s29 rfl rfl) (Wt.none rfl) rfl ?_
 refine WL.st (st' := [.row 26 (vecA 32 (fun j => .d (.sl (List.map E3 (r180.1.ready j)))) ++ ([.d (.sl (List.map E62 r180.1.delays)), .d (D.i .i64 r180.1.run)] : List AV)), .row 63 [.d (D.i .i64 r168.2), .d (D.i .i64 r169.2), .d (D.i .i64 r170.2), .d (D.i .i64 r172.2), .d (D.i .i64 r173.2), .d (D.i .i64 r174.2), .d (D.i .i64 r179.2), .d (D.i .i64 r180.2)], .row 26 (vecA 32 (fun j => .d (.sl (List.map E3 (r177.1.ready j)))) ++ ([.d (.sl (List.map E62 r177.1.delays)), .d (D.i .i64 r177.1.run)] : List AV)), .row 26 (vecA 32 (fun j => .d (.sl (List.map E3 (r178.1.ready j)))) ++ ([.d (.sl (List.map E62 r178.1.delays)), .d (D.i .i64 r178.1.run)] : List AV))]) rfl ?_
 refine WL.ns ?_
 refine wc_sr ?_
 refine WL.qn (y_loadN rfl rfl a26 s26 rfl) rfl ?_
 obtain ⟨r181, hr181, h⟩ := bindS h
 refine WL.fn rfl rfl rfl rfl (f20_c _ hr181) ⟨(Le.agd ⟨(Le.refl _), (Le.refl _), (Le.refl _), (Le.refl _), (Le.refl _), (Le.refl _), (Le.refl _), (Le.refl _), (Le.refl _), (Le.refl _), (Le.refl _), (Le.refl _), (Le.refl _), (Le.refl _), (Le.refl _), (Le.refl _), (Le.refl _), (Le.refl _), (Le.refl _), (Le.refl _), (Le.refl _), (Le.refl _), (Le.refl _), (Le.refl _), (Le.refl _), (Le.refl _), (Le.refl _), (Le.refl _), (Le.refl _), (Le.refl _), (Le.refl _), (Le.refl _), (Le.refl _), (Le.refl _), trivial⟩), trivial⟩ (Wt.none rfl) rfl rfl ?_
 refine WL.mv rfl rfl ?_
 refine WL.qn (y_extractd rfl rfl) rfl ?_
 refine WL.qn (y_extractd rfl rfl) rfl ?_
 refine WL.as rfl rfl ?_
 refine WL.as rfl rfl ?_
 refine WL.ns ?_
 refine wc_sr ?_
 refine WL.qn (y_loadN rfl rfl a26 s26 rfl) rfl ?_
 obtain ⟨r182, hr182, h⟩ := bindS h
 refine WL.fn rfl rfl rfl rfl (f19_c _ _ hr182) ⟨(Le.agd ⟨(Le.refl _), (Le.refl _), (Le.refl _), (Le.refl _), (Le.refl _), (Le.refl _), (Le.refl _), (Le.refl _), (Le.refl _), (Le.refl _), (Le.refl _), (Le.refl _), (Le.refl _), (Le.refl _), (Le.refl _), (Le.refl _), (Le.refl _), (Le.refl _), (Le.refl _), (Le.refl _), (Le.refl _), (Le.refl _), (Le.refl _), (Le.refl _), (Le.refl _), (Le.refl _), (Le.refl _), (Le.refl _), (Le.refl _), (Le.refl _), (Le.refl _), (Le.refl _), (Le.refl _), (Le.refl _), trivial⟩), (Le.refl _), trivial⟩ (Wt.none rfl) rfl rfl ?_
 refine WL.mv rfl rfl ?_
 refine WL.qn (y_extractd rfl rfl) rfl ?_
 refine WL.qn (y_extractd rfl rfl) rfl ?_
 refine WL.qn (y_extractd rfl rfl) rfl ?_
 refine WL.s0 (d_store rfl rfl rfl rfl rfl rfl s26 rfl rfl) (Wt.none rfl) rfl ?_
 refine WL.st (st' := [.row 26 (vecA 32 (fun j => .d (.sl (List.map E3 (r182.1.ready j)))) ++ ([.d (.sl (List.map E62 r182.1.delays)), .d (D.i .i64 r182.1.run)] : List AV)), .row 63 [.d (D.i .i64 r168.2), .d (D.i .i64 r169.2), .d (D.i .i64 r170.2), .d (D.i .i64 r172.2), .d (D.i .i64 r173.2), .d (D.i .i64 r174.2), .d (D.i .i64 r179.2), .d (D.i .i64 r180.2)], .row 26 (vecA 32 (fun j => .d (.sl (List.map E3 (r177.1.ready j)))) ++ ([.d (.sl (List.map E62 r177.1.delays)), .d (D.i .i64 r177.1.run)] : List AV)), .row 26 (vecA 32 (fun j => .d (.sl (List.map E3 (r178.1.ready j)))) ++ ([.d (.sl (List.map E62 r178.1.delays)), .d (D.i .i64 r178.1.run)] : List AV))]) rfl ?_
 refine WL.as rfl rfl ?_
 refine WL.as rfl rfl ?_
 refine WL.ns ?_
 refine wc_sr ?_
 refine WL.mv rfl rfl ?_
 refine WL.mv rfl rfl ?_
 apply WL.and 2 (t := 114) (d := 116)
 ·exact rfl
 ·intro hg114
  refine WL.qy (y_move rfl) rfl rfl rfl ?_
  refine WL.qn (y_pick_t rfl rfl) rfl ?_
  exact WL.nil ⟨rfl, [_, _], rfl, rfl, rfl⟩
 ·refine WL.skips 1 rfl ?_
  refine WL.qn (y_pick_f rfl rfl) rfl ?_
  exact WL.nil ⟨rfl, [_, _], rfl, rfl, rfl⟩
 refine WL.mv rfl rfl ?_
 apply WL.and 3 (t := 117) (d := 120)
 ·exact rfl
 ·intro hg117
  refine WL.qy (y_move rfl) rfl rfl rfl ?_
  refine WL.qy (y_eql rfl rfl) rfl rfl rfl ?_
  refine WL.qn (y_pick_t rfl rfl) rfl ?_
  exact WL.nil ⟨rfl, [_, _, _], rfl, rfl, rfl⟩
 ·refine WL.skips 2 rfl ?_
  refine WL.qn (y_pick_f rfl rfl) rfl ?_
  exact WL.nil ⟨rfl, [_, _, _], rfl, rfl, rfl⟩
 refine WL.mv rfl rfl ?_
 apply WL.and 3 (t := 121) (d := 124)
 ·exact rfl
 ·intro hg121
  refine WL.qy (y_move rfl) rfl rfl rfl ?_
  refine WL.qy (y_eql rfl rfl) rfl rfl rfl ?_
  refine WL.qn (y_pick_t rfl rfl) rfl ?_
  exact WL.nil ⟨rfl, [_, _, _], rfl, rfl, rfl⟩
 ·refine WL.skips 2 rfl ?_
  refine WL.qn (y_pick_f rfl rfl) rfl ?_
  exact WL.nil ⟨rfl, [_, _, _], rfl, rfl, rfl⟩
 refine WL.mv rfl rfl ?_
 apply WL.and 2 (t := 125) (d := 127)
 ·exact rfl
 ·intro hg125
  refine WL.qy (y_move rfl) rfl rfl rfl ?_
  refine WL.qn (y_pick_t rfl rfl) rfl ?_
  exact WL.nil ⟨rfl, [_, _], rfl, rfl, rfl⟩
 ·refine WL.skips 1 rfl ?_
  refine WL.qn (y_pick_f rfl rfl) rfl ?_
  exact WL.nil ⟨rfl, [_, _], rfl, rfl, rfl⟩
 refine WL.mv rfl rfl ?_
 apply WL.and 4 (t := 128) (d := 132)
 ·exact rfl
 ·intro hg128
  refine WL.qy (y_loadN rfl rfl a63 s63 rfl) rfl rfl rfl ?_
  refine WL.qy (y_buildA ar63 z63 rfl rfl) rfl rfl rfl ?_
  refine WL.qy (y_eqarr [r168.2, r169.2, r170.2, r172.2, r173.2, r174.2, r179.2, r180.2] [0, 0, 0, 0, 0, 0, 0, 0] (b := ((decide (r168.2 = 0)) && ((decide (r169.2 = 0)) && ((decide (r170.2 = 0)) && ((decide (r172.2 = 0)) && ((decide (r173.2 = 0)) && ((decide (r174.2 = 0)) && ((decide (r179.2 = 0)) && ((decide (r180.2 = 0)) && true))))))))) Try.underlying63 Try.underlying29 s29 (by kernel_rfl) rfl (Le.refl _) rfl (Le.refl _) rfl rfl rfl) rfl rfl rfl ?_
  refine WL.qn (y_pick_t rfl rfl) rfl ?_
  exact WL.nil ⟨rfl, [_, _, _, _], rfl, rfl, rfl⟩
 ·refine WL.skips 3 rfl ?_
  refine WL.qn (y_pick_f rfl rfl) rfl ?_
  exact WL.nil ⟨rfl, [_, _, _, _], rfl, rfl, rfl⟩
 refine WL.mv rfl rfl ?_
 apply WL.and 3 (t := 133) (d := 136)
 ·exact rfl
 ·intro hg133
  refine WL.qy (y_move rfl) rfl rfl rfl ?_
  refine WL.qy (y_eql rfl rfl) rfl rfl rfl ?_
  refine WL.qn (y_pick_t rfl rfl) rfl ?_
  exact WL.nil ⟨rfl, [_, _, _], rfl, rfl, rfl⟩
 ·refine WL.skips 2 rfl ?_
  refine WL.qn (y_pick_f rfl rfl) rfl ?_
  exact WL.nil ⟨rfl, [_, _, _], rfl, rfl, rfl⟩
 refine WL.mv rfl rfl ?_
 apply WL.and 3 (t := 137) (d := 140)
 ·exact rfl
 ·intro hg137
  refine WL.qy (y_move rfl) rfl rfl rfl ?_
  refine WL.qy (y_eql rfl rfl) rfl rfl rfl ?_
  refine WL.qn (y_pick_t rfl rfl) rfl ?_
  exact WL.nil ⟨rfl, [_, _, _], rfl, rfl, rfl⟩
 ·refine WL.skips 2 rfl ?_
  refine WL.qn (y_pick_f rfl rfl) rfl ?_
  exact WL.nil ⟨rfl, [_, _, _], rfl, rfl, rfl⟩
 refine WL.mv rfl rfl ?_
 apply WL.and 3 (t := 141) (d := 144)
 ·exact rfl
 ·intro hg141
  refine WL.qy (y_move rfl) rfl rfl rfl ?_
  refine WL.qy (y_eql rfl rfl) rfl rfl rfl ?_
  refine WL.qn (y_pick_t rfl rfl) rfl ?_
  exact WL.nil ⟨rfl, [_, _, _], rfl, rfl, rfl⟩
 ·refine WL.skips 2 rfl ?_
  refine WL.qn (y_pick_f rfl rfl) rfl ?_
  exact WL.nil ⟨rfl, [_, _, _], rfl, rfl, rfl⟩
 refine WL.mv rfl rfl ?_
 apply WL.and 2 (t := 145) (d := 147)
 ·exact rfl
 ·intro hg145
  refine WL.qy (y_move rfl) rfl rfl rfl ?_
  refine WL.qn (y_pick_t rfl rfl) rfl ?_
  exact WL.nil ⟨rfl, [_, _], rfl, rfl, rfl⟩
 ·refine WL.skips 1 rfl ?_
  refine WL.qn (y_pick_f rfl rfl) rfl ?_
  exact WL.nil ⟨rfl, [_, _], rfl, rfl, rfl⟩
 refine WL.mv rfl rfl ?_
 apply WL.and 3 (t := 148) (d := 151)
 ·exact rfl
 ·intro hg148
  refine WL.qy (y_move rfl) rfl rfl rfl ?_
  refine WL.qy (y_eql rfl rfl) rfl rfl rfl ?_
  refine WL.qn (y_pick_t rfl rfl) rfl ?_
  exact WL.nil ⟨rfl, [_, _, _], rfl, rfl, rfl⟩
 ·refine WL.skips 2 rfl ?_
  refine WL.qn (y_pick_f rfl rfl) rfl ?_
  exact WL.nil ⟨rfl, [_, _, _], rfl, rfl, rfl⟩
 refine WL.mv rfl rfl ?_
 obtain ⟨b183, hb183, h⟩ := bindS h
 apply WL.grp 4 (t := 152) (d := 156) (z := b183)
 ·exact rfl
 ·intro hg152
  have h := condT hb183 hg152
  refine WL.qy (y_move rfl) rfl rfl rfl ?_
  refine WL.s ((NewOs.data (n_buildSlice l22 z3 rfl (by decide) (by decide) rfl rfl rfl (by decide)) (by exact encA_map E3_eq [2, 1])).does) (Wt.yes rfl rfl rfl) rfl rfl ?_
  obtain ⟨r184, hr184, h⟩ := bindS h
  refine WL.fn rfl rfl rfl rfl (f31_c _ _ hr184) ⟨(Le.refl _), (Le.refl _), trivial⟩ (Wt.yes rfl rfl rfl) rfl rfl ?_
  refine WL.qn (y_pick_t rfl rfl) rfl ?_
  obtain rfl := Option.some.inj h
  exact WL.nil ⟨rfl, [_, _, _, _], rfl, rfl, rfl⟩
 ·intro hg152
  have h := condF hb183 hg152
  refine WL.skips 3 rfl ?_
  refine WL.qn (y_pick_f rfl rfl) rfl ?_
  obtain rfl := Option.some.inj h
  exact WL.nil ⟨rfl, [_, _, _, _], rfl, rfl, rfl⟩
 refine WL.mv rfl rfl ?_
 apply WL.and 5 (t := 157) (d := 162)
 ·exact rfl
 ·intro hg157
  refine WL.qy (y_fieldAddr f26_1 rfl) rfl rfl rfl ?_
  refine WL.qy (y_load rfl rfl a24 rfl) rfl rfl rfl ?_
  refine WL.qy (y_len_map E62 r182.1.delays e24 rfl rfl (Le.refl _)) rfl rfl rfl ?_
  refine WL.qy (y_eql rfl rfl) rfl rfl rfl ?_
  refine WL.qn (y_pick_t rfl rfl) rfl ?_
  exact WL.nil ⟨rfl, [_, _, _, _, _], rfl, rfl, rfl⟩
 ·refine WL.skips 4 rfl ?_
  refine WL.qn (y_pick_f rfl rfl) rfl ?_
  exact WL.nil ⟨rfl, [_, _, _, _, _], rfl, rfl, rfl⟩
 refine WL.mv rfl rfl ?_
 obtain ⟨b185, hb185, h⟩ := bindS h
 apply WL.grp 3 (t := 163) (d := 166) (z := b185)
 ·exact rfl
 ·intro hg163
  have h := condT hb185 hg163
  refine WL.qy (y_loadN rfl rfl a26 s26 rfl) rfl rfl rfl ?_
  obtain ⟨r186, hr186, h⟩ := bindS h
  refine WL.fn rfl rfl rfl rfl (f10_c _ hr186) ⟨(Le.agd ⟨(Le.refl _), (Le.refl _), (Le.refl _), (Le.refl _), (Le.refl _), (Le.refl _), (Le.refl _), (Le.refl _), (Le.refl _), (Le.refl _), (Le.refl _), (Le.refl _), (Le.refl _), (Le.refl _), (Le.refl _), (Le.refl _), (Le.refl _), (Le.refl _), (Le.refl _), (Le.refl _), (Le.refl _), (Le.refl _), (Le.refl _), (Le.refl _), (Le.refl _), (Le.refl _), (Le.refl _), (Le.refl _), (Le.refl _), (Le.refl _), (Le.refl _), (Le.refl _), (Le.refl _), (Le.refl _), trivial⟩), trivial⟩ (Wt.yes rfl rfl rfl) rfl rfl ?_
  refine WL.qn (y_pick_t rfl rfl) rfl ?_
  obtain rfl := Option.some.inj h
  exact WL.nil ⟨rfl, [_, _, _], rfl, rfl, rfl⟩
 ·intro hg163
  have h := condF hb185 hg163
  refine WL.skips 2 rfl ?_
  refine WL.qn (y_pick_f rfl rfl) rfl ?_
  obtain rfl := Option.some.inj h
  exact WL.nil ⟨rfl, [_, _, _], rfl, rfl, rfl⟩
 refine WL.as rfl rfl ?_
 refine WL.ns ?_
 refine wc_ret ?_
 obtain rfl := Option.some.inj h
 exact we_ret_fn (rs1 rfl (rv_t rfl)) (Le.refl _)

theorem f15_c (a0 : Queues) (b1 : Queues) {r : Bool} (h : f15 a0 b1 = some r) : Pu Try.prog 15 [.ag (R26 a0), .ag (R26 b1)] (.b r) := by
 unfold f15 at h
 refine fn_intro Try.func15 (by kernel_rfl) rfl rfl rfl (fun φφ ww => ?_)
 refine wc_sr ?_
 refine WL.s ((b_boxd rfl rfl (Les.refl _)).does) (Wt.none rfl) rfl rfl ?_
 refine WL.s ((b_boxd rfl rfl (Les.refl _)).does) (Wt.none rfl) rfl rfl ?_
 refine WL.as rfl rfl ?_
 refine WL.ns ?_
 refine wc_seq ?_
 refine wc_sr ?_
 refine WL.qn (y_fieldAddrc f26_2 rfl) rfl ?_
 refine WL.qn (y_loadc rfl a3 rfl) rfl ?_
 refine WL.qn (y_fieldAddrc f26_2 rfl) rfl ?_
 refine WL.qn (y_loadc rfl a3 rfl) rfl ?_
 refine WL.qn (y_neq rfl rfl) rfl ?_
 refine WL.mv rfl rfl ?_
 apply WL.or 8 (t := 12) (d := 20)
 ·exact rfl
 ·intro hg12
  refine WL.qy (y_fieldAddrc f26_1 rfl) rfl rfl rfl ?_
  refine WL.qy (y_loadc rfl a24 rfl) rfl rfl rfl ?_
  refine WL.qy (y_len_map E62 a0.delays e24 rfl rfl (Le.refl _)) rfl rfl rfl ?_
  refine WL.qy (y_fieldAddrc f26_1 rfl) rfl rfl rfl ?_
  refine WL.qy (y_loadc rfl a24 rfl) rfl rfl rfl ?_
  refine WL.qy (y_len_map E62 b1.delays e24 rfl rfl (Le.refl _)) rfl rfl rfl ?_
  refine WL.qy (y_neq rfl rfl) rfl rfl rfl ?_
  refine WL.qn (y_pick_f rfl rfl) rfl ?_
  exact WL.nil ⟨rfl, [_, _, _, _, _, _, _, _], rfl, rfl, rfl⟩
 ·refine WL.skips 7 rfl ?_
  refine WL.qn (y_pick_t rfl rfl) rfl ?_
  exact WL.nil ⟨rfl, [_, _, _, _, _, _, _, _], rfl, rfl, rfl⟩
 refine WL.ns ?_
 refine wc_cond rfl (fun hc1 => ?_) (fun hc1 => ?_)
 ·replace h := condT h hc1
  refine wc_sr ?_
  refine WL.as rfl rfl ?_
  refine WL.ns ?_
  refine wc_ret ?_
  refine we_seq_ret ?_
  obtain rfl := Option.some.inj h
  exact we_ret_fn (rs1 rfl (rv_t rfl)) (Le.refl _)
 ·replace h := condF h hc1
  refine wc_skip ?_
  refine we_seq ?_
  replace h := letkS h
  obtain ⟨k56, hk56, h⟩ := h
  refine wc_cut (fun env' st' => k56 () = some r ∧ Sub [(2, .d (.pc (R26 a0))), (3, .d (.pc (R26 b1)))] env' ∧ SLe st' []) ?_ ?_
  ·refine wc_sr ?_
   refine WL.as rfl rfl ?_
   refine WL.ns ?_
   refine wc_block ?_
   refine wc_loop (fun n env' st' => ∃ (iq58 : Int), f15_l1 a0 b1 k56 n iq58 = some r ∧ Sub [(2, .d (.pc (R26 a0))), (3, .d (.pc (R26 b1))), (5, .d (D.i .i64 iq58))] env' ∧ SLe st' []) (fun n => n) 9223372036854775808 ⟨0, h, (Sub.cons rfl (Le.refl _) (Sub.cons rfl (Le.refl _) (Sub.cons rfl (Le.refl _) (Sub.nil _)))), trivial⟩ ?_
   rintro n env1 st1 ⟨iq58, h, hsub, hst⟩
   cases n with
   | zero => rw [f15_l1] at h; cases h
   | succ n =>
   rw [f15_l1] at h
   refine WC.sub hsub (WC.weak hst ?_)
   refine wc_seq ?_
   refine wc_sr ?_
   refine WL.mv rfl rfl ?_
   refine WL.qn (y_fieldAddrc f26_1 rfl) rfl ?_
   refine WL.qn (y_loadc rfl a24 rfl) rfl ?_
   refine WL.qn (y_len_map E62 a0.delays e24 rfl rfl (Le.refl _)) rfl ?_
   refine WL.qn (y_lss rfl rfl) rfl ?_
   refine WL.ns ?_
   refine wc_cond rfl (fun hc2 => ?_) (fun hc2 => ?_)
   ·replace h := condT h hc2
    refine wc_skip ?_
    refine we_seq ?_
    refine wc_seq ?_
    refine wc_block ?_
    refine wc_seq ?_
    refine wc_region_draw (by kernel_rfl) (by kernel_rfl) ?_
    refine WQ.qn (y_fieldAddrc f26_1 rfl) rfl ?_
    refine WQ.qn (y_loadc rfl a24 rfl) rfl ?_
    refine WQ.qn (y_move rfl) rfl ?_
    obtain ⟨x60, hx60, h⟩ := bindS h
    refine WQ.qn (y_indexAddr e24 rfl (Le.refl _) rfl (idx_nonneg hx60) (idx_row E62_eq hx60) rfl) rfl ?_
    refine WQ.qn (y_loadcN rfl a62 s62 rfl) rfl ?_
    refine WQ.qn (y_fieldAddrc f26_1 rfl) rfl ?_
    refine WQ.qn (y_loadc rfl a24 rfl) rfl ?_
    refine WQ.qn (y_move rfl) rfl ?_
    obtain ⟨x61, hx61, h⟩ := bindS h
    refine WQ.qn (y_indexAddr e24 rfl (Le.refl _) rfl (idx_nonneg hx61) (idx_row E62_eq hx61) rfl) rfl ?_
    refine WQ.qn (y_loadcN rfl a62 s62 rfl) rfl ?_
    refine WQ.qn (y_nest (xs := [.int .i64 x60.time, .int .i64 x60.task]) (ys := [.int .i64 x61.time, .int .i64 x61.task]) (b := ((decide (x60.time = x61.time)) && ((decide (x60.task = x61.task)) && true))) q62 rfl (Le.refl _) rfl (Le.refl _) rfl rfl rfl) rfl ?_
    refine WQ.nil ?_
    refine we_seq ?_
    refine wc_cond rfl (fun hc3 => ?_) (fun hc3 => ?_)
    ·replace h := condT h hc3
     refine wc_sr ?_
     refine WL.as rfl rfl ?_
     refine WL.ns ?_
     refine wc_ret ?_
     refine we_blk_ret ?_
     refine we_seq_ret ?_
     refine we_lp_ret ?_
     refine we_blk_ret ?_
     refine we_lp_ret ?_
     obtain rfl := Option.some.inj h
     exact we_ret_fn (rs1 rfl (rv_t rfl)) (Le.refl _)
    ·replace h := condF h hc3
     refine wc_skip ?_
     refine we_blk ?_
     refine we_seq ?_
     refine wc_region ?_
     refine WL.mv rfl rfl ?_
     refine WL.qn (y_add rfl rfl rfl) rfl ?_
     refine WL.as rfl rfl ?_
     refine WL.nil ?_
     exact we_lp ⟨n, ⟨(IntKind.i64.wrap (iq58 + 1)), h, (Sub.cons rfl (Le.refl _) (Sub.cons rfl (Le.refl _) (Sub.cons rfl (Le.refl _) (Sub.nil _)))), trivial⟩, Nat.lt_succ_self n⟩
   ·replace h := condF h hc2
    refine wc_exit ?_
    refine we_seq_exit ?_
    refine we_lp_exit ?_
    refine we_blk_hit ?_
    exact we_lp ⟨h, (Sub.cons rfl (Le.refl _) (Sub.cons rfl (Le.refl _) (Sub.nil _))), trivial⟩
  ·rintro env1 st1 ⟨h, hsub, hst⟩
   subst hk56
   dsimp only at h
   refine WC.sub hsub (WC.weak hst ?_)
   replace h := letkS h
   obtain ⟨k62, hk62, h⟩ := h
   refine wc_cut (fun env' st' => k62 () = some r ∧ Sub [] env' ∧ SLe st' []) ?_ ?_
   ·refine wc_sr ?_
    refine WL.as rfl rfl ?_
    refine WL.ns ?_
    refine wc_block ?_
    refine wc_loop (fun n env' st' => ∃ (p64 : Int), f15_l2 a0 b1 k62 n p64 = some r ∧ Sub [(2, .d (.pc (R26 a0))), (3, .d (.pc (R26 b1))), (6, .d (D.i .i64 p64))] env' ∧ SLe st' []) (fun n => n) 9223372036854775808 ⟨0, h, (Sub.cons rfl (Le.refl _) (Sub.cons rfl (Le.refl _) (Sub.cons rfl (Le.refl _) (Sub.nil _)))), trivial⟩ ?_
    rintro n env1 st1 ⟨p64, h, hsub, hst⟩
    cases n with
    | zero => rw [f15_l2] at h; cases h
    | succ n =>
    rw [f15_l2] at h
    refine WC.sub hsub (WC.weak hst ?_)
    refine wc_seq ?_
    refine wc_sr ?_
    refine WL.mv rfl rfl ?_
    refine WL.qn (y_lss rfl rfl) rfl ?_
    refine WL.ns ?_
    refine wc_cond rfl (fun hc4 => ?_) (fun hc4 => ?_)
    ·replace h := condT h hc4
     refine wc_skip ?_
     refine we_seq ?_
     refine wc_seq ?_
     refine wc_block ?_
     refine wc_seq ?_
     refine wc_region_draw (by kernel_rfl) (by kernel_rfl) ?_
     refine WQ.qn (y_move rfl) rfl ?_
     refine WQ.qn (y_fieldAddrc f26_0 rfl) rfl ?_
     replace h := guardBS h
     obtain ⟨hgg66, h⟩ := h
     refine WQ.qn (y_indexAddrVc (fun j => .sl (List.map E3 (a0.ready j))) ar23 rfl rfl rfl hgg66) rfl ?_
     refine WQ.qn (y_loadc rfl a22 rfl) rfl ?_
     refine WQ.qn (y_move rfl) rfl ?_
     refine WQ.qn (y_fieldAddrc f26_0 rfl) rfl ?_
     replace h := guardBS h
     obtain ⟨hgg67, h⟩ := h
     refine WQ.qn (y_indexAddrVc (fun j => .sl (List.map E3 (b1.ready j))) ar23 rfl rfl rfl hgg67) rfl ?_
     refine WQ.qn (y_loadc rfl a22 rfl) rfl ?_
     obtain ⟨r68, hr68, h⟩ := bindS h
     refine WQ.q (YieldsQ.fn rfl rfl rfl rfl rfl (f31_c _ _ hr68) ⟨(Le.refl _), (Le.refl _), trivial⟩) (Wt.none rfl) rfl rfl ?_
     refine WQ.qn (y_not rfl) rfl ?_
     refine WQ.nil ?_
     refine we_seq ?_
     refine wc_cond rfl (fun hc5 => ?_) (fun hc5 => ?_)
     ·replace h := condT h hc5
      refine wc_sr ?_
      refine WL.as rfl rfl ?_
      refine WL.ns ?_
      refine wc_ret ?_
      refine we_blk_ret ?_
      refine we_seq_ret ?_
      refine we_lp_ret ?_
      refine we_blk_ret ?_
      refine we_lp_ret ?_
      obtain rfl := Option.some.inj h
      exact we_ret_fn (rs1 rfl (rv_t rfl)) (Le.refl _)
     ·replace h := condF h hc5
      refine wc_skip ?_
      refine we_blk ?_
      refine we_seq ?_
      refine wc_region ?_
      refine WL.mv rfl rfl ?_
      refine WL.qn (y_add rfl rfl rfl) rfl ?_
      refine WL.as rfl rfl ?_
      refine WL.nil ?_
      exact we_lp ⟨n, ⟨(IntKind.i64.wrap (p64 + 1)), h, (Sub.cons rfl (Le.refl _) (Sub.cons rfl (Le.refl _) (Sub.cons rfl (Le.refl _) (Sub.nil _)))), trivial⟩, Nat.lt_succ_self n⟩
    ·replace h := condF h hc4
     refine wc_exit ?_
     refine we_seq_exit ?_
     refine we_lp_exit ?_
     refine we_blk_hit ?_
     exact we_lp ⟨h, (Sub.nil _), trivial⟩
   ·rintro env1 st1 ⟨h, hsub, hst⟩
    subst hk62
    dsimp only at h
    refine WC.sub hsub (WC.weak hst ?_)
    refine wc_sr ?_
    refine WL.as rfl rfl ?_
    refine WL.ns ?_
    refine wc_ret ?_
    obtain rfl := Option.some.inj h
    exact we_ret_fn (rs1 rfl (rv_t rfl)) (Le.refl _)

theorem f22_c (q0 : Queues) (task1 : Int) {r : Queues × Int} (h : f22 q0 task1 = some r) : Pu Try.prog 22 [.ag (R26 q0), .i .i64 task1] (.tu [.ag (R26 r.1), .i .i64 r.2]) := by
 unfold f22 at h
 refine fn_intro Try.func22 (by kernel_rfl) rfl rfl rfl (fun φφ ww => ?_)
 refine wc_sr ?_
 refine WL.s ((b_box rfl rfl).does) (Wt.none rfl) rfl rfl ?_
 refine WL.s ((b_boxd rfl rfl (by exact (show Les [.d (D.i .i64 task1)] (List.map AV.d [.i .i64 task1]) from ⟨(Le.refl _), trivial⟩))).does) (Wt.none rfl) rfl rfl ?_
 refine WL.s ((b_alloc z26).does) (Wt.none rfl) rfl rfl ?_
 refine WL.as rfl rfl ?_
 refine WL.ns ?_
 refine wc_seq ?_
 refine wc_sr ?_
 refine WL.qn (y_loadN rfl rfl a26 s26 rfl) rfl ?_
 obtain ⟨r47, hr47, h⟩ := bindS h
 refine WL.fn rfl rfl rfl rfl (f10_c _ hr47) ⟨(Le.agd ⟨(Le.refl _), (Le.refl _), (Le.refl _), (Le.refl _), (Le.refl _), (Le.refl _), (Le.refl _), (Le.refl _), (Le.refl _), (Le.refl _), (Le.refl _), (Le.refl _), (Le.refl _), (Le.refl _), (Le.refl _), (Le.refl _), (Le.refl _), (Le.refl _), (Le.refl _), (Le.refl _), (Le.refl _), (Le.refl _), (Le.refl _), (Le.refl _), (Le.refl _), (Le.refl _), (Le.refl _), (Le.refl _), (Le.refl _), (Le.refl _), (Le.refl _), (Le.refl _), (Le.refl _), (Le.refl _), trivial⟩), trivial⟩ (Wt.none rfl) rfl rfl ?_
 refine WL.qn (y_not rfl) rfl ?_
 refine WL.mv rfl rfl ?_
 apply WL.or 4 (t := 11) (d := 15)
 ·exact rfl
 ·intro hg11
  refine WL.qy (y_loadc rfl a3 rfl) rfl rfl rfl ?_
  refine WL.fn rfl rfl rfl rfl (f30_c _) ⟨(Le.refl _), trivial⟩ (Wt.yes rfl rfl rfl) rfl rfl ?_
  refine WL.qy (y_not rfl) rfl rfl rfl ?_
  refine WL.qn (y_pick_f rfl rfl) rfl ?_
  exact WL.nil ⟨rfl, [_, _, _, _], rfl, rfl, rfl⟩
 ·refine WL.skips 3 rfl ?_
  refine WL.qn (y_pick_t rfl rfl) rfl ?_
  exact WL.nil ⟨rfl, [_, _, _, _], rfl, rfl, rfl⟩
 refine WL.ns ?_
 refine wc_cond rfl (fun hc1 => ?_) (fun hc1 => ?_)
 ·replace h := condT h hc1
  refine wc_sr ?_
  refine WL.qn (y_build p26 z26 rfl rfl) rfl ?_
  refine WL.s0 (d_store rfl rfl rfl rfl rfl rfl s26 rfl rfl) (Wt.none rfl) rfl ?_
  refine WL.st (st' := [.row 26 (vecA 32 (fun j => .d (.sl (List.map E3 (q0.ready j)))) ++ ([.d (.sl (List.map E62 q0.delays)), .d (D.i .i64 q0.run)] : List AV)), .row 26 [sN, sN, sN, sN, sN, sN, sN, sN, sN, sN, sN, sN, sN, sN, sN, sN, sN, sN, sN, sN, sN, sN, sN, sN, sN, sN, sN, sN, sN, sN, sN, sN, sN, .d (D.i .i64 0)]]) rfl ?_
  refine WL.as rfl rfl ?_
  refine WL.ns ?_
  refine wc_ret ?_
  refine we_seq_ret ?_
  obtain rfl := Option.some.inj h
  exact we_ret_fn (rs2 rfl (rv_cN rfl rfl a26 s26 rfl) (rv_t rfl)) (Le.tud ⟨(Le.agd ⟨Le.nil, Le.nil, Le.nil, Le.nil, Le.nil, Le.nil, Le.nil, Le.nil, Le.nil, Le.nil, Le.nil, Le.nil, Le.nil, Le.nil, Le.nil, Le.nil, Le.nil, Le.nil, Le.nil, Le.nil, Le.nil, Le.nil, Le.nil, Le.nil, Le.nil, Le.nil, Le.nil, Le.nil, Le.nil, Le.nil, Le.nil, Le.nil, Le.nil, (Le.refl _), trivial⟩), (Le.refl _), trivial⟩)
 ·replace h := condF h hc1
  refine wc_skip ?_
  refine we_seq ?_
  refine wc_sr ?_
  refine WL.qn (y_loadN rfl rfl a26 s26 rfl) rfl ?_
  refine WL.qn (y_loadc rfl a3 rfl) rfl ?_
  obtain ⟨r48, hr48, h⟩ := bindS h
  refine WL.fn rfl rfl rfl rfl (f43_c _ _ hr48) ⟨(Le.agd ⟨(Le.refl _), (Le.refl _), (Le.refl _), (Le.refl _), (Le.refl _), (Le.refl _), (Le.refl _), (Le.refl _), (Le.refl _), (Le.refl _), (Le.refl _), (Le.refl _), (Le.refl _), (Le.refl _), (Le.refl _), (Le.refl _), (Le.refl _), (Le.refl _), (Le.refl _), (Le.refl _), (Le.refl _), (Le.refl _), (Le.refl _), (Le.refl _), (Le.refl _), (Le.refl _), (Le.refl _), (Le.refl _), (Le.refl _), (Le.refl _), (Le.refl _), (Le.refl _), (Le.refl _), (Le.refl _), trivial⟩), (Le.refl _), trivial⟩ (Wt.none rfl) rfl rfl ?_
  refine WL.mv rfl rfl ?_
  refine WL.qn (y_extractd rfl rfl) rfl ?_
  refine WL.qn (y_extractd rfl rfl) rfl ?_
  refine WL.as rfl rfl ?_
  refine WL.as rfl rfl ?_
  refine WL.ns ?_
  refine wc_sr ?_
  refine WL.qn (y_loadN rfl rfl a26 s26 rfl) rfl ?_
  obtain ⟨r49, hr49, h⟩ := bindS h
  refine WL.fn rfl rfl rfl rfl (O.f32_c _ hr49) ⟨(Le.agd ⟨(Le.refl _), (Le.refl _), (Le.refl _), (Le.refl _), (Le.refl _), (Le.refl _), (Le.refl _), (Le.refl _), (Le.refl _), (Le.refl _), (Le.refl _), (Le.refl _), (Le.refl _), (Le.refl _), (Le.refl _), (Le.refl _), (Le.refl _), (Le.refl _), (Le.refl _), (Le.refl _), (Le.refl _), (Le.refl _), (Le.refl _), (Le.refl _), (Le.refl _), (Le.refl _), (Le.refl _), (Le.refl _), (Le.refl _), (Le.refl _), (Le.refl _), (Le.refl _), (Le.refl _), (Le.refl _), trivial⟩), trivial⟩ (Wt.none rfl) rfl rfl ?_
  refine WL.s0 (d_store rfl rfl rfl rfl rfl rfl s26 rfl rfl) (Wt.none rfl) rfl ?_
  refine WL.st (st' := [.row 26 (vecA 32 (fun j => .d (.sl (List.map E3 (r49.ready j)))) ++ ([.d (.sl (List.map E62 r49.delays)), .d (D.i .i64 r49.run)] : List AV)), .row 26 [sN, sN, sN, sN, sN, sN, sN, sN, sN, sN, sN, sN, sN, sN, sN, sN, sN, sN, sN, sN, sN, sN, sN, sN, sN, sN, sN, sN, sN, sN, sN, sN, sN, .d (D.i .i64 0)]]) rfl ?_
  refine WL.ns ?_
  replace h := letkS h
  obtain ⟨k52, hk52, h⟩ := h
  refine wc_cut (fun env' st' => ∃ (c0050 : Nat → (List Int)), ∃ (c03351 : Int), k52 c0050 c03351 = some r ∧ Sub [(2, .pt 0 0), (4, .pt 1 0)] env' ∧ SLe st' [.row 26 (vecA 32 (fun j => .d (.sl (List.map E3 (c0050 j)))) ++ ([.d (.sl (List.map E62 r49.delays)), .d (D.i .i64 c03351)] : List AV)), .row 26 [sN, sN, sN, sN, sN, sN, sN, sN, sN, sN, sN, sN, sN, sN, sN, sN, sN, sN, sN, sN, sN, sN, sN, sN, sN, sN, sN, sN, sN, sN, sN, sN, sN, .d (D.i .i64 0)]]) ?_ ?_
  ·refine wc_block ?_
   refine wc_sr ?_
   refine WL.mv rfl rfl ?_
   refine WL.as rfl rfl ?_
   refine WL.ns ?_
   refine wc_cond rfl (fun hc2 => ?_) (fun hc2 => ?_)
   ·replace h := condT h hc2
    refine wc_region ?_
    refine WL.mv rfl rfl ?_
    refine WL.mv rfl rfl ?_
    refine WL.qn (y_fieldAddr f26_0 rfl) rfl ?_
    replace h := guardBS h
    obtain ⟨hgg53, h⟩ := h
    refine WL.qn (y_indexAddra ar23 rfl rfl (vecOk_0 hgg53) (vecOk_1 hgg53)) rfl ?_
    refine WL.qn (y_loadV (off := 0) (n := 32) (fun j => .d (.sl (List.map E3 (r49.ready j)))) rfl rfl a22 rfl hgg53) rfl ?_
    refine WL.qn (y_makeFunc rfl rfl) rfl ?_
    obtain ⟨k56, hk56, h⟩ := letkS h
    refine WL.inl (us := [.d (.sl (List.map E3 (r49.ready (Int.toNat r48.1)))), .fn (.func 45) [] [.d (.pc (E3 task1))]]) (fun rv st' => (∃ (t55 : List Int), k56 t55 = some r ∧ Le rv (.d (.sl (List.map E3 t55))) ∧ SLe st' [.row 26 (vecA 32 (fun j => .d (.sl (List.map E3 (r49.ready j)))) ++ ([.d (.sl (List.map E62 r49.delays)), .d (D.i .i64 r49.run)] : List AV)), .row 26 [sN, sN, sN, sN, sN, sN, sN, sN, sN, sN, sN, sN, sN, sN, sN, sN, sN, sN, sN, sN, sN, sN, sN, sN, sN, sN, sN, sN, sN, sN, sN, sN, sN, .d (D.i .i64 0)], .dead])) rfl rfl rfl rfl rfl ?_ (Wt.none rfl) rfl rfl ?_
    ·refine ctr_intro Try.func44 (by kernel_rfl) rfl rfl rfl (fun mm φφ ww hm54 => ?_)
     refine wc_sr ?_
     refine WL.as rfl rfl ?_
     refine WL.ns ?_
     refine wc_sr ?_
     refine WL.mv rfl rfl ?_
     obtain ⟨r57, hr57, h⟩ := bindS h
     refine Gh.wl (gh_push_os 3 1) ?_
     refine WL.wina [2] rfl rfl rfl rfl (O.f60o_c _ hr57) ⟨(Le.refl _), trivial⟩ rfl (by decide) rfl ⟨rfl, trivial⟩ rfl rfl (fun _ => (stLt_cons (lt_os _ _ _ _ _ _) rfl)) (fun _ => (cons_eq (ren_os _ _ _ _ _ _) rfl)) (fun _ => rfl) (fun _ => rfl) (Wt.none rfl) rfl rfl (fun ver58 => ?_)
     refine WL.mv rfl rfl ?_
     obtain ⟨k61, hk61, h⟩ := letkS h
     refine WL.inl (us := [.os 2 ver58, .fn (.func 45) [] [.d (.pc (E3 task1))]]) (fun rv st' => (∃ (t60 : List Int), k61 t60 = some r ∧ Le rv (.d (.sl (List.map E3 t60))) ∧ SLe st' [.row 26 (vecA 32 (fun j => .d (.sl (List.map E3 (r49.ready j)))) ++ ([.d (.sl (List.map E62 r49.delays)), .d (D.i .i64 r49.run)] : List AV)), .row 26 [sN, sN, sN, sN, sN, sN, sN, sN, sN, sN, sN, sN, sN, sN, sN, sN, sN, sN, sN, sN, sN, sN, sN, sN, sN, sN, sN, sN, sN, sN, sN, sN, sN, .d (D.i .i64 0)], .dead])) rfl rfl rfl rfl rfl ?_ (Wt.none rfl) rfl rfl ?_
     ·refine ctr_intro Try.func72 (by kernel_rfl) rfl rfl rfl (fun mm φφ ww hm59 => ?_)
      refine wc_sr ?_
      refine WL.as rfl rfl ?_
      refine WL.ns ?_
      refine wc_sr ?_
      refine WL.mv rfl rfl ?_
      refine WL.mv rfl rfl ?_
      obtain ⟨k64, hk64, h⟩ := letkS h
      refine WL.inl (us := [.os 2 ver58, .fn (.func 45) [] [.d (.pc (E3 task1))]]) (fun rv st' => (∃ (t63 : Int), k64 t63 = some r ∧ Le rv (.d (D.i .i64 t63)) ∧ SLe st' [.row 26 (vecA 32 (fun j => .d (.sl (List.map E3 (r49.ready j)))) ++ ([.d (.sl (List.map E62 r49.delays)), .d (D.i .i64 r49.run)] : List AV)), .row 26 [sN, sN, sN, sN, sN, sN, sN, sN, sN, sN, sN, sN, sN, sN, sN, sN, sN, sN, sN, sN, sN, sN, sN, sN, sN, sN, sN, sN, sN, sN, sN, sN, sN, .d (D.i .i64 0)], .os 3 1 ver58 (List.map (encA E3) r57)])) rfl rfl rfl rfl rfl ?_ (Wt.none rfl) rfl rfl ?_
      ·refine ctr_intro Try.func81 (by kernel_rfl) rfl rfl rfl (fun mm φφ ww hm62 => ?_)
       refine wc_sr ?_
       refine WL.as rfl rfl ?_
       refine WL.ns ?_
       replace h := letkS h
       obtain ⟨k65, hk65, h⟩ := h
       refine wc_cut (fun env' st' => k65 () = some r ∧ Sub [] env' ∧ SLe st' [.row 26 (vecA 32 (fun j => .d (.sl (List.map E3 (r49.ready j)))) ++ ([.d (.sl (List.map E62 r49.delays)), .d (D.i .i64 r49.run)] : List AV)), .row 26 [sN, sN, sN, sN, sN, sN, sN, sN, sN, sN, sN, sN, sN, sN, sN, sN, sN, sN, sN, sN, sN, sN, sN, sN, sN, sN, sN, sN, sN, sN, sN, sN, sN, .d (D.i .i64 0)], .os 3 1 ver58 (List.map (encA E3) r57)]) ?_ ?_
       ·refine wc_sr ?_
        refine WL.mv rfl rfl ?_
        refine WL.qn (y_len_osmap (encA E3) r57 e22 rfl rfl rfl) rfl ?_
        refine WL.mv rfl rfl ?_
        refine WL.ns ?_
        refine wc_block ?_
        refine wc_loop (fun n env' st' => ∃ (t67 : Int), f22_l1 task1 r57 k64 k65 n t67 = some r ∧ Sub [(0, .os 2 ver58), (1, .fn (.func 45) [] [.d (.pc (E3 task1))]), (7, .d (D.i .i64 (List.length r57 : Int))), (8, .d (D.i .i64 t67))] env' ∧ SLe st' [.row 26 (vecA 32 (fun j => .d (.sl (List.map E3 (r49.ready j)))) ++ ([.d (.sl (List.map E62 r49.delays)), .d (D.i .i64 r49.run)] : List AV)), .row 26 [sN, sN, sN, sN, sN, sN, sN, sN, sN, sN, sN, sN, sN, sN, sN, sN, sN, sN, sN, sN, sN, sN, sN, sN, sN, sN, sN, sN, sN, sN, sN, sN, sN, .d (D.i .i64 0)], .os 3 1 ver58 (List.map (encA E3) r57)]) (fun n => n) (Int.toNat ((List.length r57 : Int) - 0) + 1) ⟨0, h, (Sub.cons rfl (Le.refl _) (Sub.cons rfl (Le.refl _) (Sub.cons rfl (Le.refl _) (Sub.cons rfl (Le.refl _) (Sub.nil _))))), ⟨⟨rfl, Les.refl _⟩, ⟨rfl, Les.refl _⟩, ⟨rfl, rfl, rfl, rfl⟩, trivial⟩⟩ ?_
        rintro n env1 st1 ⟨t67, h, hsub, hst⟩
        cases n with
        | zero => rw [f22_l1] at h; cases h
        | succ n =>
        rw [f22_l1] at h
        refine WC.sub hsub (WC.weak hst ?_)
        refine wc_sr ?_
        refine WL.qn (y_lss rfl rfl) rfl ?_
        refine WL.ns ?_
        refine wc_seq ?_
        refine wc_cond rfl (fun hc3 => ?_) (fun hc3 => ?_)
        ·replace h := condT h hc3
         refine wc_skip ?_
         refine we_seq ?_
         refine wc_seq ?_
         refine wc_block ?_
         refine wc_sr ?_
         refine WL.mv rfl rfl ?_
         refine WL.as rfl rfl ?_
         refine WL.ns ?_
         refine wc_sr ?_
         refine WL.mv rfl rfl ?_
         refine WL.mv rfl rfl ?_
         refine WL.mv rfl rfl ?_
         obtain ⟨x69, hx69, h⟩ := bindS h
         refine WL.qn (y_pe e22 rfl rfl rfl hx69) rfl ?_
         refine WL.qn (y_load_peL (fo := 0) rfl rfl rfl a3 (fun _ => rfl) hx69 rfl) rfl ?_
         obtain ⟨k71, hk71, h⟩ := letkS h
         refine WL.inl (us := [.d (D.i .i64 x69), .d (.pc (E3 task1))]) (fun rv st' => (k71 () = some r ∧ Le rv (.d (D.b (decide (x69 = task1)))) ∧ SLe st' [.row 26 (vecA 32 (fun j => .d (.sl (List.map E3 (r49.ready j)))) ++ ([.d (.sl (List.map E62 r49.delays)), .d (D.i .i64 r49.run)] : List AV)), .row 26 [sN, sN, sN, sN, sN, sN, sN, sN, sN, sN, sN, sN, sN, sN, sN, sN, sN, sN, sN, sN, sN, sN, sN, sN, sN, sN, sN, sN, sN, sN, sN, sN, sN, .d (D.i .i64 0)], .os 3 1 ver58 (List.map (encA E3) r57)])) rfl rfl rfl rfl rfl ?_ (Wt.none rfl) rfl rfl ?_
         ·refine ctr_intro Try.func45 (by kernel_rfl) rfl rfl rfl (fun mm φφ ww hm70 => ?_)
          refine wc_sr ?_
          refine WL.as rfl rfl ?_
          refine WL.ns ?_
          refine wc_sr ?_
          refine WL.mv rfl rfl ?_
          refine WL.qn (y_loadc rfl a3 rfl) rfl ?_
          refine WL.qn (y_eql rfl rfl) rfl ?_
          refine WL.as rfl rfl ?_
          refine WL.ns ?_
          refine wc_ret ?_
          exact we_ret (rs1 rfl (rv_t rfl)) ⟨h, (Le.refl _), ⟨⟨rfl, Les.refl _⟩, ⟨rfl, Les.refl _⟩, ⟨rfl, rfl, rfl, rfl⟩, trivial⟩⟩
         ·rintro rv st1 ⟨h, hr, hst⟩
          subst hk71
          dsimp only at h
          refine WL.cast 16 rfl hr ?_
          refine WL.weak hst ?_
          refine WL.ns ?_
          refine wc_cond rfl (fun hc4 => ?_) (fun hc4 => ?_)
          ·replace h := condT h hc4
           refine wc_sr ?_
           refine WL.mv rfl rfl ?_
           refine WL.as rfl rfl ?_
           refine WL.ns ?_
           refine wc_ret ?_
           refine we_blk_ret ?_
           refine we_seq_ret ?_
           refine we_lp_ret ?_
           refine we_blk_ret ?_
           refine we_lp_ret ?_
           exact we_ret (rs1 rfl (rv_t rfl)) ⟨t67, h, (Le.refl _), ⟨⟨rfl, Les.refl _⟩, ⟨rfl, Les.refl _⟩, ⟨rfl, rfl, rfl, rfl⟩, trivial⟩⟩
          ·replace h := condF h hc4
           refine wc_skip ?_
           refine we_blk ?_
           refine we_seq ?_
           refine wc_region ?_
           refine WL.qn (y_add rfl rfl rfl) rfl ?_
           refine WL.mv rfl rfl ?_
           refine WL.nil ?_
           exact we_lp ⟨n, ⟨(IntKind.i64.wrap (t67 + 1)), h, (Sub.cons rfl (Le.refl _) (Sub.cons rfl (Le.refl _) (Sub.cons rfl (Le.refl _) (Sub.cons rfl (Le.refl _) (Sub.nil _))))), ⟨⟨rfl, Les.refl _⟩, ⟨rfl, Les.refl _⟩, ⟨rfl, rfl, rfl, rfl⟩, trivial⟩⟩, Nat.lt_succ_self n⟩
        ·replace h := condF h hc3
         refine wc_exit ?_
         refine we_seq_exit ?_
         refine we_lp_exit ?_
         refine we_blk_hit ?_
         exact we_lp ⟨h, (Sub.nil _), ⟨⟨rfl, Les.refl _⟩, ⟨rfl, Les.refl _⟩, ⟨rfl, rfl, rfl, rfl⟩, trivial⟩⟩
       ·rintro env1 st1 ⟨h, hsub, hst⟩
        subst hk65
        dsimp only at h
        refine WC.sub hsub (WC.weak hst ?_)
        refine wc_sr ?_
        refine WL.as rfl rfl ?_
        refine WL.ns ?_
        refine wc_ret ?_
        exact we_ret (rs1 rfl (rv_t rfl)) ⟨(-1), h, (Le.refl _), ⟨⟨rfl, Les.refl _⟩, ⟨rfl, Les.refl _⟩, ⟨rfl, rfl, rfl, rfl⟩, trivial⟩⟩
      ·rintro rv st1 ⟨t63, h, hr, hst⟩
       subst hk64
       dsimp only at h
       refine WL.cast 10 rfl hr ?_
       refine WL.weak hst ?_
       refine WL.as rfl rfl ?_
       refine WL.ns ?_
       refine wc_seq ?_
       refine wc_sr ?_
       refine WL.mv rfl rfl ?_
       refine WL.qn (y_eql rfl rfl) rfl ?_
       refine WL.ns ?_
       refine wc_cond rfl (fun hc5 => ?_) (fun hc5 => ?_)
       ·replace h := condT h hc5
        refine wc_sr ?_
        refine WL.freezeX [0, 8] [] 2 (List.map E3 r57) rfl (encA_map E3_eq r57) ⟨rfl, rfl, trivial⟩ trivial ?_
        refine WL.mv rfl rfl ?_
        refine WL.as rfl rfl ?_
        refine WL.ns ?_
        refine wc_ret ?_
        refine we_seq_ret ?_
        exact we_ret (rs1 rfl (rv_t rfl)) ⟨r57, h, (Le.refl _), ⟨⟨rfl, Les.refl _⟩, ⟨rfl, Les.refl _⟩, trivial, trivial⟩⟩
       ·replace h := condF h hc5
        refine wc_skip ?_
        refine we_seq ?_
        replace h := letkS h
        obtain ⟨k74, hk74, h⟩ := h
        refine wc_cut (fun env' st' => ∃ (iq72 : Int), ∃ (l73 : List Int), k74 iq72 l73 = some r ∧ Sub [(0, .os 2 ver58), (5, .d (D.i .i64 iq72))] env' ∧ SLe st' [.row 26 (vecA 32 (fun j => .d (.sl (List.map E3 (r49.ready j)))) ++ ([.d (.sl (List.map E62 r49.delays)), .d (D.i .i64 r49.run)] : List AV)), .row 26 [sN, sN, sN, sN, sN, sN, sN, sN, sN, sN, sN, sN, sN, sN, sN, sN, sN, sN, sN, sN, sN, sN, sN, sN, sN, sN, sN, sN, sN, sN, sN, sN, sN, .d (D.i .i64 0)], .os 3 1 ver58 (List.map (encA E3) l73)]) ?_ ?_
        ·refine wc_sr ?_
         refine WL.mv rfl rfl ?_
         refine WL.qn (y_add rfl rfl rfl) rfl ?_
         refine WL.as rfl rfl ?_
         refine WL.ns ?_
         refine wc_block ?_
         refine wc_loop (fun n env' st' => ∃ (iq78 : Int), ∃ (j79 : Int), ∃ (l80 : List Int), f22_l2 task1 k74 n iq78 j79 l80 = some r ∧ Sub [(0, .os 2 ver58), (1, .fn (.func 45) [] [.d (.pc (E3 task1))]), (5, .d (D.i .i64 iq78)), (6, .d (D.i .i64 j79))] env' ∧ SLe st' [.row 26 (vecA 32 (fun j => .d (.sl (List.map E3 (r49.ready j)))) ++ ([.d (.sl (List.map E62 r49.delays)), .d (D.i .i64 r49.run)] : List AV)), .row 26 [sN, sN, sN, sN, sN, sN, sN, sN, sN, sN, sN, sN, sN, sN, sN, sN, sN, sN, sN, sN, sN, sN, sN, sN, sN, sN, sN, sN, sN, sN, sN, sN, sN, .d (D.i .i64 0)], .os 3 1 ver58 (List.map (encA E3) l80)]) (fun n => n) 9223372036854775808 ⟨t63, (IntKind.i64.wrap (t63 + 1)), r57, h, (Sub.cons rfl (Le.refl _) (Sub.cons rfl (Le.refl _) (Sub.cons rfl (Le.refl _) (Sub.cons rfl (Le.refl _) (Sub.nil _))))), ⟨⟨rfl, Les.refl _⟩, ⟨rfl, Les.refl _⟩, ⟨rfl, rfl, rfl, rfl⟩, trivial⟩⟩ ?_
         rintro n env1 st1 ⟨iq78, j79, l80, h, hsub, hst⟩
         cases n with
         | zero => rw [f22_l2] at h; cases h
         | succ n =>
         rw [f22_l2] at h
         refine WC.sub hsub (WC.weak hst ?_)
         refine wc_seq ?_
         refine wc_sr ?_
         refine WL.mv rfl rfl ?_
         refine WL.mv rfl rfl ?_
         refine WL.qn (y_len_osmap (encA E3) l80 e22 rfl rfl rfl) rfl ?_
         refine WL.qn (y_lss rfl rfl) rfl ?_
         refine WL.ns ?_
         refine wc_cond rfl (fun hc6 => ?_) (fun hc6 => ?_)
         ·replace h := condT h hc6
          refine wc_skip ?_
          refine we_seq ?_
          replace h := letkS h
          obtain ⟨k86, hk86, h⟩ := h
          refine wc_cut (fun env' st' => ∃ (iq84 : Int), ∃ (l85 : List Int), k86 iq84 l85 = some r ∧ Sub [(0, .os 2 ver58), (1, .fn (.func 45) [] [.d (.pc (E3 task1))]), (5, .d (D.i .i64 iq84)), (6, .d (D.i .i64 j79))] env' ∧ SLe st' [.row 26 (vecA 32 (fun j => .d (.sl (List.map E3 (r49.ready j)))) ++ ([.d (.sl (List.map E62 r49.delays)), .d (D.i .i64 r49.run)] : List AV)), .row 26 [sN, sN, sN, sN, sN, sN, sN, sN, sN, sN, sN, sN, sN, sN, sN, sN, sN, sN, sN, sN, sN, sN, sN, sN, sN, sN, sN, sN, sN, sN, sN, sN, sN, .d (D.i .i64 0)], .os 3 1 ver58 (List.map (encA E3) l85)]) ?_ ?_
          ·refine wc_block ?_
           refine wc_sr ?_
           refine WL.mv rfl rfl ?_
           refine WL.mv rfl rfl ?_
           obtain ⟨x87, hx87, h⟩ := bindS h
           refine WL.qn (y_pe e22 rfl rfl rfl hx87) rfl ?_
           refine WL.qn (y_load_peL (fo := 0) rfl rfl rfl a3 (fun _ => rfl) hx87 rfl) rfl ?_
           refine WL.as rfl rfl ?_
           refine WL.ns ?_
           refine wc_sr ?_
           refine WL.mv rfl rfl ?_
           refine WL.mv rfl rfl ?_
           obtain ⟨k89, hk89, h⟩ := letkS h
           refine WL.inl (us := [.d (D.i .i64 x87), .d (.pc (E3 task1))]) (fun rv st' => (k89 () = some r ∧ Le rv (.d (D.b (decide (x87 = task1)))) ∧ SLe st' [.row 26 (vecA 32 (fun j => .d (.sl (List.map E3 (r49.ready j)))) ++ ([.d (.sl (List.map E62 r49.delays)), .d (D.i .i64 r49.run)] : List AV)), .row 26 [sN, sN, sN, sN, sN, sN, sN, sN, sN, sN, sN, sN, sN, sN, sN, sN, sN, sN, sN, sN, sN, sN, sN, sN, sN, sN, sN, sN, sN, sN, sN, sN, sN, .d (D.i .i64 0)], .os 3 1 ver58 (List.map (encA E3) l80)])) rfl rfl rfl rfl rfl ?_ (Wt.none rfl) rfl rfl ?_
           ·refine ctr_intro Try.func45 (by kernel_rfl) rfl rfl rfl (fun mm φφ ww hm88 => ?_)
            refine wc_sr ?_
            refine WL.as rfl rfl ?_
            refine WL.ns ?_
            refine wc_sr ?_
            refine WL.mv rfl rfl ?_
            refine WL.qn (y_loadc rfl a3 rfl) rfl ?_
            refine WL.qn (y_eql rfl rfl) rfl ?_
            refine WL.as rfl rfl ?_
            refine WL.ns ?_
            refine wc_ret ?_
            exact we_ret (rs1 rfl (rv_t rfl)) ⟨h, (Le.refl _), ⟨⟨rfl, Les.refl _⟩, ⟨rfl, Les.refl _⟩, ⟨rfl, rfl, rfl, rfl⟩, trivial⟩⟩
           ·rintro rv st1 ⟨h, hr, hst⟩
            subst hk89
            dsimp only at h
            refine WL.cast 28 rfl hr ?_
            refine WL.weak hst ?_
            refine WL.qn (y_not rfl) rfl ?_
            refine WL.ns ?_
            refine wc_cond rfl (fun hc7 => ?_) (fun hc7 => ?_)
            ·replace h := condT h hc7
             refine wc_sr ?_
             refine WL.mv rfl rfl ?_
             refine WL.mv rfl rfl ?_
             refine WL.mv rfl rfl ?_
             obtain ⟨x90, hx90, h⟩ := bindS h
             refine WL.qn (y_pe e22 rfl rfl rfl hx90) rfl ?_
             refine WL.s0 (d_store_peL (R := E3) (k := 1) (i := iq78) (fo := 0) x87 rfl rfl rfl rfl (Le.refl _) rfl rfl rfl s3 rfl (fun _ => rfl) hx90 rfl rfl) (Wt.none rfl) rfl ?_
             refine WL.st (st' := [.row 26 (vecA 32 (fun j => .d (.sl (List.map E3 (r49.ready j)))) ++ ([.d (.sl (List.map E62 r49.delays)), .d (D.i .i64 r49.run)] : List AV)), .row 26 [sN, sN, sN, sN, sN, sN, sN, sN, sN, sN, sN, sN, sN, sN, sN, sN, sN, sN, sN, sN, sN, sN, sN, sN, sN, sN, sN, sN, sN, sN, sN, sN, sN, .d (D.i .i64 0)], .os 3 1 ver58 (List.map (encA E3) (List.set l80 (Int.toNat iq78) x87))]) rfl ?_
             refine WL.ns ?_
             refine wc_region ?_
             refine WL.mv rfl rfl ?_
             refine WL.qn (y_add rfl rfl rfl) rfl ?_
             refine WL.as rfl rfl ?_
             refine WL.nil ?_
             refine we_blk ?_
             exact we_lp ⟨(IntKind.i64.wrap (iq78 + 1)), (List.set l80 (Int.toNat iq78) x87), h, (Sub.cons rfl (Le.refl _) (Sub.cons rfl (Le.refl _) (Sub.cons rfl (Le.refl _) (Sub.cons rfl (Le.refl _) (Sub.nil _))))), ⟨⟨rfl, Les.refl _⟩, ⟨rfl, Les.refl _⟩, ⟨rfl, rfl, rfl, rfl⟩, trivial⟩⟩
            ·replace h := condF h hc7
             refine wc_skip ?_
             refine we_blk ?_
             exact we_lp ⟨iq78, l80, h, (Sub.cons rfl (Le.refl _) (Sub.cons rfl (Le.refl _) (Sub.cons rfl (Le.refl _) (Sub.cons rfl (Le.refl _) (Sub.nil _))))), ⟨⟨rfl, Les.refl _⟩, ⟨rfl, Les.refl _⟩, ⟨rfl, rfl, rfl, rfl⟩, trivial⟩⟩
          ·rintro env1 st1 ⟨iq84, l85, h, hsub, hst⟩
           subst hk86
           dsimp only at h
           refine WC.sub hsub (WC.weak hst ?_)
           refine wc_region ?_
           refine WL.mv rfl rfl ?_
           refine WL.qn (y_add rfl rfl rfl) rfl ?_
           refine WL.as rfl rfl ?_
           refine WL.nil ?_
           exact we_lp ⟨n, ⟨iq84, (IntKind.i64.wrap (j79 + 1)), l85, h, (Sub.cons rfl (Le.refl _) (Sub.cons rfl (Le.refl _) (Sub.cons rfl (Le.refl _) (Sub.cons rfl (Le.refl _) (Sub.nil _))))), ⟨⟨rfl, Les.refl _⟩, ⟨rfl, Les.refl _⟩, ⟨rfl, rfl, rfl, rfl⟩, trivial⟩⟩, Nat.lt_succ_self n⟩
         ·replace h := condF h hc6
          refine wc_exit ?_
          refine we_seq_exit ?_
          refine we_lp_exit ?_
          refine we_blk_hit ?_
          exact we_lp ⟨iq78, l80, h, (Sub.cons rfl (Le.refl _) (Sub.cons rfl (Le.refl _) (Sub.nil _))), ⟨⟨rfl, Les.refl _⟩, ⟨rfl, Les.refl _⟩, ⟨rfl, rfl, rfl, rfl⟩, trivial⟩⟩
        ·rintro env1 st1 ⟨iq72, l73, h, hsub, hst⟩
         subst hk74
         dsimp only at h
         refine WC.sub hsub (WC.weak hst ?_)
         refine wc_sr ?_
         refine WL.mv rfl rfl ?_
         refine WL.mv rfl rfl ?_
         replace h := guardBS h
         obtain ⟨hgg91, h⟩ := h
         refine WL.qn (y_sliceO l73 (l := iq72) (h := (List.length l73 : Int)) e22 rfl rfl ⟨_, rfl⟩ rfl hgg91) rfl ?_
         replace h := guardBS h
         obtain ⟨hgg92, h⟩ := h
         refine WL.s0 (d_clearL (R := E3) l73 (0 : Int) l22 z3 rfl (by decide) rfl rfl rfl rfl Piece.ow rfl rfl hgg92) (Wt.none rfl) rfl ?_
         refine WL.ns ?_
         refine wc_sr ?_
         refine WL.freezeX [0, 36] [] 2 (List.map E3 (clearF l73 (Int.toNat iq72) (Int.toNat (List.length l73 : Int) - Int.toNat iq72) (0 : Int))) rfl (encA_map E3_eq (clearF l73 (Int.toNat iq72) (Int.toNat (List.length l73 : Int) - Int.toNat iq72) (0 : Int))) ⟨rfl, rfl, trivial⟩ trivial ?_
         refine WL.mv rfl rfl ?_
         refine WL.mv rfl rfl ?_
         replace h := guardBS h
         obtain ⟨hgg93, h⟩ := h
         refine WL.qn (y_sliceL E3 (clearF l73 (Int.toNat iq72) (Int.toNat (List.length l73 : Int) - Int.toNat iq72) (0 : Int)) (l := 0) (h := iq72) e22 rfl (Le.refl _) rfl ⟨_, rfl⟩ hgg93 (fun _ => rfl)) rfl ?_
         refine WL.as rfl rfl ?_
         refine WL.ns ?_
         refine wc_ret ?_
         exact we_ret (rs1 rfl (rv_t rfl)) ⟨(sliceF (clearF l73 (Int.toNat iq72) (Int.toNat (List.length l73 : Int) - Int.toNat iq72) (0 : Int)) 0 iq72), h, (Le.refl _), ⟨⟨rfl, Les.refl _⟩, ⟨rfl, Les.refl _⟩, trivial, trivial⟩⟩
     ·rintro rv st1 ⟨t60, h, hr, hst⟩
      subst hk61
      dsimp only at h
      refine WL.cast 8 rfl hr ?_
      refine WL.weak hst ?_
      refine WL.as rfl rfl ?_
      refine WL.ns ?_
      refine wc_ret ?_
      exact we_ret (rs1 rfl (rv_t rfl)) ⟨t60, h, (Le.refl _), ⟨⟨rfl, Les.refl _⟩, ⟨rfl, Les.refl _⟩, trivial, trivial⟩⟩
    ·rintro rv st1 ⟨t55, h, hr, hst⟩
     subst hk56
     dsimp only at h
     refine WL.cast 34 rfl hr ?_
     refine WL.weak hst ?_
     refine WL.qn (y_fieldAddr f26_0 rfl) rfl ?_
     replace h := guardBS h
     obtain ⟨hgg94, h⟩ := h
     refine WL.qn (y_indexAddra ar23 rfl rfl (vecOk_0 hgg94) (vecOk_1 hgg94)) rfl ?_
     refine WL.s0 (d_storeV (off := 0) (n := 32) (cs' := (vecA 32 (fun j => .d (.sl (List.map E3 ((vset r49.ready (Int.toNat r48.1) t55) j)))) ++ ([.d (.sl (List.map E62 r49.delays)), .d (D.i .i64 r49.run)] : List AV))) (fun x => .d (.sl (List.map E3 x))) r49.ready t55 rfl rfl rfl (one_ok rfl) s22 rfl rfl hgg94 rfl) (Wt.none rfl) rfl ?_
     refine WL.st (st' := [.row 26 (vecA 32 (fun j => .d (.sl (List.map E3 ((vset r49.ready (Int.toNat r48.1) t55) j)))) ++ ([.d (.sl (List.map E62 r49.delays)), .d (D.i .i64 r49.run)] : List AV)), .row 26 [sN, sN, sN, sN, sN, sN, sN, sN, sN, sN, sN, sN, sN, sN, sN, sN, sN, sN, sN, sN, sN, sN, sN, sN, sN, sN, sN, sN, sN, sN, sN, sN, sN, .d (D.i .i64 0)], .dead]) rfl ?_
     refine WL.nil ?_
     refine we_blk ?_
     refine WE.drop 2 (env' := [(2, .pt 0 0), (4, .pt 1 0)]) (Sub.one rfl (Sub.one rfl (Sub.nil _))) rfl rfl (Nat.zero_le _) ?_
     exact we_lp ⟨(vset r49.ready (Int.toNat r48.1) t55), r49.run, h, (Sub.cons rfl (Le.refl _) (Sub.cons rfl (Le.refl _) (Sub.nil _))), ⟨⟨rfl, Les.refl _⟩, ⟨rfl, Les.refl _⟩, trivial⟩⟩
   ·replace h := condF h hc2
    refine wc_sr ?_
    refine WL.qn (y_fieldAddr f26_2 rfl) rfl ?_
    refine WL.qn (y_load rfl rfl a3 rfl) rfl ?_
    refine WL.qn (y_loadc rfl a3 rfl) rfl ?_
    refine WL.qn (y_eql rfl rfl) rfl ?_
    refine WL.as rfl rfl ?_
    refine WL.ns ?_
    refine wc_cond rfl (fun hc8 => ?_) (fun hc8 => ?_)
    ·replace h := condT h hc8
     refine wc_region ?_
     refine WL.qn (y_fieldAddr f26_2 rfl) rfl ?_
     refine WL.s0 (d_store rfl rfl rfl rfl rfl rfl s3 rfl rfl) (Wt.none rfl) rfl ?_
     refine WL.st (st' := [.row 26 (vecA 32 (fun j => .d (.sl (List.map E3 (r49.ready j)))) ++ ([.d (.sl (List.map E62 r49.delays)), .d (D.i .i64 (-1))] : List AV)), .row 26 [sN, sN, sN, sN, sN, sN, sN, sN, sN, sN, sN, sN, sN, sN, sN, sN, sN, sN, sN, sN, sN, sN, sN, sN, sN, sN, sN, sN, sN, sN, sN, sN, sN, .d (D.i .i64 0)]]) rfl ?_
     refine WL.nil ?_
     refine we_blk ?_
     exact we_lp ⟨r49.ready, (-1), h, (Sub.cons rfl (Le.refl _) (Sub.cons rfl (Le.refl _) (Sub.nil _))), ⟨⟨rfl, Les.refl _⟩, ⟨rfl, Les.refl _⟩, trivial⟩⟩
    ·replace h := condF h hc8
     refine wc_sr ?_
     refine WL.qn (y_build p26 z26 rfl rfl) rfl ?_
     refine WL.s0 (d_store rfl rfl rfl rfl rfl rfl s26 rfl rfl) (Wt.none rfl) rfl ?_
     refine WL.st (st' := [.row 26 (vecA 32 (fun j => .d (.sl (List.map E3 (r49.ready j)))) ++ ([.d (.sl (List.map E62 r49.delays)), .d (D.i .i64 r49.run)] : List AV)), .row 26 [sN, sN, sN, sN, sN, sN, sN, sN, sN, sN, sN, sN, sN, sN, sN, sN, sN, sN, sN, sN, sN, sN, sN, sN, sN, sN, sN, sN, sN, sN, sN, sN, sN, .d (D.i .i64 0)]]) rfl ?_
     refine WL.as rfl rfl ?_
     refine WL.ns ?_
     refine wc_ret ?_
     refine we_blk_ret ?_
     refine we_lp_ret ?_
     obtain rfl := Option.some.inj h
     exact we_ret_fn (rs2 rfl (rv_cN rfl rfl a26 s26 rfl) (rv_t rfl)) (Le.tud ⟨(Le.agd ⟨Le.nil, Le.nil, Le.nil, Le.nil, Le.nil, Le.nil, Le.nil, Le.nil, Le.nil, Le.nil, Le.nil, Le.nil, Le.nil, Le.nil, Le.nil, Le.nil, Le.nil, Le.nil, Le.nil, Le.nil, Le.nil, Le.nil, Le.nil, Le.nil, Le.nil, Le.nil, Le.nil, Le.nil, Le.nil, Le.nil, Le.nil, Le.nil, Le.nil, (Le.refl _), trivial⟩), (Le.refl _), trivial⟩)
  ·rintro env1 st1 ⟨c0050, c03351, h, hsub, hst⟩
   subst hk52
   dsimp only at h
   refine WC.sub hsub (WC.weak hst ?_)
   refine wc_sr ?_
   refine WL.qn (y_loadN rfl rfl a26 s26 rfl) rfl ?_
   refine WL.s0 (d_store rfl rfl rfl rfl rfl rfl s26 rfl rfl) (Wt.none rfl) rfl ?_
   refine WL.st (st' := [.row 26 (vecA 32 (fun j => .d (.sl (List.map E3 (c0050 j)))) ++ ([.d (.sl (List.map E62 r49.delays)), .d (D.i .i64 c03351)] : List AV)), .row 26 (vecA 32 (fun j => .d (.sl (List.map E3 (c0050 j)))) ++ ([.d (.sl (List.map E62 r49.delays)), .d (D.i .i64 c03351)] : List AV))]) rfl ?_
   refine WL.as rfl rfl ?_
   refine WL.ns ?_
   refine wc_ret ?_
   obtain rfl := Option.some.inj h
   exact we_ret_fn (rs2 rfl (rv_cN rfl rfl a26 s26 rfl) (rv_t rfl)) (Le.tud ⟨(Le.agd ⟨(Le.refl _), (Le.refl _), (Le.refl _), (Le.refl _), (Le.refl _), (Le.refl _), (Le.refl _), (Le.refl _), (Le.refl _), (Le.refl _), (Le.refl _), (Le.refl _), (Le.refl _), (Le.refl _), (Le.refl _), (Le.refl _), (Le.refl _), (Le.refl _), (Le.refl _), (Le.refl _), (Le.refl _), (Le.refl _), (Le.refl _), (Le.refl _), (Le.refl _), (Le.refl _), (Le.refl _), (Le.refl _), (Le.refl _), (Le.refl _), (Le.refl _), (Le.refl _), (Le.refl _), (Le.refl _), trivial⟩), (Le.refl _), trivial⟩)

theorem f29_c (q0 : Queues) (prio1 : Int) (task2 : Int) {r : Queues × Int} (h : f29 q0 prio1 task2 = some r) : Pu Try.prog 29 [.ag (R26 q0), .i .i64 prio1, .i .i64 task2] (.tu [.ag (R26 r.1), .i .i64 r.2]) := by
 unfold f29 at h
 refine fn_intro Try.func29 (by kernel_rfl) rfl rfl rfl (fun φφ ww => ?_)
 refine wc_sr ?_
 refine WL.s ((b_box rfl rfl).does) (Wt.none rfl) rfl rfl ?_
 refine WL.s ((b_alloc z26).does) (Wt.none rfl) rfl rfl ?_
 refine WL.as rfl rfl ?_
 refine WL.ns ?_
 refine wc_seq ?_
 refine wc_sr ?_
 refine WL.qn (y_loadN rfl rfl a26 s26 rfl) rfl ?_
 obtain ⟨r49, hr49, h⟩ := bindS h
 refine WL.fn rfl rfl rfl rfl (f10_c _ hr49) ⟨(Le.agd ⟨(Le.refl _), (Le.refl _), (Le.refl _), (Le.refl _), (Le.refl _), (Le.refl _), (Le.refl _), (Le.refl _), (Le.refl _), (Le.refl _), (Le.refl _), (Le.refl _), (Le.refl _), (Le.refl _), (Le.refl _), (Le.refl _), (Le.refl _), (Le.refl _), (Le.refl _), (Le.refl _), (Le.refl _), (Le.refl _), (Le.refl _), (Le.refl _), (Le.refl _), (Le.refl _), (Le.refl _), (Le.refl _), (Le.refl _), (Le.refl _), (Le.refl _), (Le.refl _), (Le.refl _), (Le.refl _), trivial⟩), trivial⟩ (Wt.none rfl) rfl rfl ?_
 refine WL.qn (y_not rfl) rfl ?_
 refine WL.mv rfl rfl ?_
 apply WL.or 4 (t := 13) (d := 17)
 ·exact rfl
 ·intro hg13
  refine WL.qy (y_move rfl) rfl rfl rfl ?_
  refine WL.fn rfl rfl rfl rfl (f30_c _) ⟨(Le.refl _), trivial⟩ (Wt.yes rfl rfl rfl) rfl rfl ?_
  refine WL.qy (y_not rfl) rfl rfl rfl ?_
  refine WL.qn (y_pick_f rfl rfl) rfl ?_
  exact WL.nil ⟨rfl, [_, _, _, _], rfl, rfl, rfl⟩
 ·refine WL.skips 3 rfl ?_
  refine WL.qn (y_pick_t rfl rfl) rfl ?_
  exact WL.nil ⟨rfl, [_, _, _, _], rfl, rfl, rfl⟩
 refine WL.mv rfl rfl ?_
 apply WL.or 4 (t := 18) (d := 22)
 ·exact rfl
 ·intro hg18
  refine WL.qy (y_move rfl) rfl rfl rfl ?_
  refine WL.fn rfl rfl rfl rfl (f30_c _) ⟨(Le.refl _), trivial⟩ (Wt.yes rfl rfl rfl) rfl rfl ?_
  refine WL.qy (y_not rfl) rfl rfl rfl ?_
  refine WL.qn (y_pick_f rfl rfl) rfl ?_
  exact WL.nil ⟨rfl, [_, _, _, _], rfl, rfl, rfl⟩
 ·refine WL.skips 3 rfl ?_
  refine WL.qn (y_pick_t rfl rfl) rfl ?_
  exact WL.nil ⟨rfl, [_, _, _, _], rfl, rfl, rfl⟩
 refine WL.ns ?_
 refine wc_cond rfl (fun hc1 => ?_) (fun hc1 => ?_)
 ·replace h := condT h hc1
  refine wc_sr ?_
  refine WL.qn (y_build p26 z26 rfl rfl) rfl ?_
  refine WL.s0 (d_store rfl rfl rfl rfl rfl rfl s26 rfl rfl) (Wt.none rfl) rfl ?_
  refine WL.st (st' := [.row 26 (vecA 32 (fun j => .d (.sl (List.map E3 (q0.ready j)))) ++ ([.d (.sl (List.map E62 q0.delays)), .d (D.i .i64 q0.run)] : List AV)), .row 26 [sN, sN, sN, sN, sN, sN, sN, sN, sN, sN, sN, sN, sN, sN, sN, sN, sN, sN, sN, sN, sN, sN, sN, sN, sN, sN, sN, sN, sN, sN, sN, sN, sN, .d (D.i .i64 0)]]) rfl ?_
  refine WL.as rfl rfl ?_
  refine WL.ns ?_
  refine wc_ret ?_
  refine we_seq_ret ?_
  obtain rfl := Option.some.inj h
  exact we_ret_fn (rs2 rfl (rv_cN rfl rfl a26 s26 rfl) (rv_t rfl)) (Le.tud ⟨(Le.agd ⟨Le.nil, Le.nil, Le.nil, Le.nil, Le.nil, Le.nil, Le.nil, Le.nil, Le.nil, Le.nil, Le.nil, Le.nil, Le.nil, Le.nil, Le.nil, Le.nil, Le.nil, Le.nil, Le.nil, Le.nil, Le.nil, Le.nil, Le.nil, Le.nil, Le.nil, Le.nil, Le.nil, Le.nil, Le.nil, Le.nil, Le.nil, Le.nil, Le.nil, (Le.refl _), trivial⟩), (Le.refl _), trivial⟩)
 ·replace h := condF h hc1
  refine wc_skip ?_
  refine we_seq ?_
  refine wc_seq ?_
  refine wc_sr ?_
  refine WL.qn (y_loadN rfl rfl a26 s26 rfl) rfl ?_
  refine WL.mv rfl rfl ?_
  obtain ⟨r50, hr50, h⟩ := bindS h
  refine WL.fn rfl rfl rfl rfl (f43_c _ _ hr50) ⟨(Le.agd ⟨(Le.refl _), (Le.refl _), (Le.refl _), (Le.refl _), (Le.refl _), (Le.refl _), (Le.refl _), (Le.refl _), (Le.refl _), (Le.refl _), (Le.refl _), (Le.refl _), (Le.refl _), (Le.refl _), (Le.refl _), (Le.refl _), (Le.refl _), (Le.refl _), (Le.refl _), (Le.refl _), (Le.refl _), (Le.refl _), (Le.refl _), (Le.refl _), (Le.refl _), (Le.refl _), (Le.refl _), (Le.refl _), (Le.refl _), (Le.refl _), (Le.refl _), (Le.refl _), (Le.refl _), (Le.refl _), trivial⟩), (Le.refl _), trivial⟩ (Wt.none rfl) rfl rfl ?_
  refine WL.mv rfl rfl ?_
  refine WL.qn (y_extractd rfl rfl) rfl ?_
  refine WL.qn (y_extractd rfl rfl) rfl ?_
  refine WL.as rfl rfl ?_
  refine WL.as rfl rfl ?_
  refine WL.ns ?_
  refine wc_sr ?_
  refine WL.mv rfl rfl ?_
  refine WL.qn (y_not rfl) rfl ?_
  refine WL.ns ?_
  refine wc_cond rfl (fun hc2 => ?_) (fun hc2 => ?_)
  ·replace h := condT h hc2
   refine wc_sr ?_
   refine WL.qn (y_build p26 z26 rfl rfl) rfl ?_
   refine WL.s0 (d_store rfl rfl rfl rfl rfl rfl s26 rfl rfl) (Wt.none rfl) rfl ?_
   refine WL.st (st' := [.row 26 (vecA 32 (fun j => .d (.sl (List.map E3 (q0.ready j)))) ++ ([.d (.sl (List.map E62 q0.delays)), .d (D.i .i64 q0.run)] : List AV)), .row 26 [sN, sN, sN, sN, sN, sN, sN, sN, sN, sN, sN, sN, sN, sN, sN, sN, sN, sN, sN, sN, sN, sN, sN, sN, sN, sN, sN, sN, sN, sN, sN, sN, sN, .d (D.i .i64 0)]]) rfl ?_
   refine WL.as rfl rfl ?_
   refine WL.ns ?_
   refine wc_ret ?_
   refine we_seq_ret ?_
   obtain rfl := Option.some.inj h
   exact we_ret_fn (rs2 rfl (rv_cN rfl rfl a26 s26 rfl) (rv_t rfl)) (Le.tud ⟨(Le.agd ⟨Le.nil, Le.nil, Le.nil, Le.nil, Le.nil, Le.nil, Le.nil, Le.nil, Le.nil, Le.nil, Le.nil, Le.nil, Le.nil, Le.nil, Le.nil, Le.nil, Le.nil, Le.nil, Le.nil, Le.nil, Le.nil, Le.nil, Le.nil, Le.nil, Le.nil, Le.nil, Le.nil, Le.nil, Le.nil, Le.nil, Le.nil, Le.nil, Le.nil, (Le.refl _), trivial⟩), (Le.refl _), trivial⟩)
  ·replace h := condF h hc2
   refine wc_skip ?_
   refine we_seq ?_
   refine wc_sr ?_
   refine WL.qn (y_loadN rfl rfl a26 s26 rfl) rfl ?_
   refine WL.mv rfl rfl ?_
   obtain ⟨r51, hr51, h⟩ := bindS h
   refine WL.fn rfl rfl rfl rfl (f22_c _ _ hr51) ⟨(Le.agd ⟨(Le.refl _), (Le.refl _), (Le.refl _), (Le.refl _), (Le.refl _), (Le.refl _), (Le.refl _), (Le.refl _), (Le.refl _), (Le.refl _), (Le.refl _), (Le.refl _), (Le.refl _), (Le.refl _), (Le.refl _), (Le.refl _), (Le.refl _), (Le.refl _), (Le.refl _), (Le.refl _), (Le.refl _), (Le.refl _), (Le.refl _), (Le.refl _), (Le.refl _), (Le.refl _), (Le.refl _), (Le.refl _), (Le.refl _), (Le.refl _), (Le.refl _), (Le.refl _), (Le.refl _), (Le.refl _), trivial⟩), (Le.refl _), trivial⟩ (Wt.none rfl) rfl rfl ?_
   refine WL.mv rfl rfl ?_
   refine WL.qn (y_extractd rfl rfl) rfl ?_
   refine WL.qn (y_extractd rfl rfl) rfl ?_
   refine WL.s0 (d_store rfl rfl rfl rfl rfl rfl s26 rfl rfl) (Wt.none rfl) rfl ?_
   refine WL.st (st' := [.row 26 (vecA 32 (fun j => .d (.sl (List.map E3 (r51.1.ready j)))) ++ ([.d (.sl (List.map E62 r51.1.delays)), .d (D.i .i64 r51.1.run)] : List AV)), .row 26 [sN, sN, sN, sN, sN, sN, sN, sN, sN, sN, sN, sN, sN, sN, sN, sN, sN, sN, sN, sN, sN, sN, sN, sN, sN, sN, sN, sN, sN, sN, sN, sN, sN, .d (D.i .i64 0)]]) rfl ?_
   refine WL.ns ?_
   refine wc_sr ?_
   refine WL.qn (y_loadN rfl rfl a26 s26 rfl) rfl ?_
   refine WL.mv rfl rfl ?_
   refine WL.mv rfl rfl ?_
   obtain ⟨r52, hr52, h⟩ := bindS h
   refine WL.fn rfl rfl rfl rfl (f21_c _ _ _ hr52) ⟨(Le.agd ⟨(Le.refl _), (Le.refl _), (Le.refl _), (Le.refl _), (Le.refl _), (Le.refl _), (Le.refl _), (Le.refl _), (Le.refl _), (Le.refl _), (Le.refl _), (Le.refl _), (Le.refl _), (Le.refl _), (Le.refl _), (Le.refl _), (Le.refl _), (Le.refl _), (Le.refl _), (Le.refl _), (Le.refl _), (Le.refl _), (Le.refl _), (Le.refl _), (Le.refl _), (Le.refl _), (Le.refl _), (Le.refl _), (Le.refl _), (Le.refl _), (Le.refl _), (Le.refl _), (Le.refl _), (Le.refl _), trivial⟩), (Le.refl _), (Le.refl _), trivial⟩ (Wt.none rfl) rfl rfl ?_
   refine WL.qn (y_extractd rfl rfl) rfl ?_
   refine WL.qn (y_extractd rfl rfl) rfl ?_
   refine WL.s0 (d_store rfl rfl rfl rfl rfl rfl s26 rfl rfl) (Wt.none rfl) rfl ?_
   refine WL.st (st' := [.row 26 (vecA 32 (fun j => .d (.sl (List.map E3 (r51.1.ready j)))) ++ ([.d (.sl (List.map E62 r51.1.delays)), .d (D.i .i64 r51.1.run)] : List AV)), .row 26 (vecA 32 (fun j => .d (.sl (List.map E3 (r52.1.ready j)))) ++ ([.d (.sl (List.map E62 r52.1.delays)), .d (D.i .i64 r52.1.run)] : List AV))]) rfl ?_
   refine WL.as rfl rfl ?_
   refine WL.ns ?_
   refine wc_ret ?_
   obtain rfl := Option.some.inj h
   exact we_ret_fn (rs2 rfl (rv_cN rfl rfl a26 s26 rfl) (rv_t rfl)) (Le.tud ⟨(Le.agd ⟨(Le.refl _), (Le.refl _), (Le.refl _), (Le.refl _), (Le.refl _), (Le.refl _), (Le.refl _), (Le.refl _), (Le.refl _), (Le.refl _), (Le.refl _), (Le.refl _), (Le.refl _), (Le.refl _), (Le.refl _), (Le.refl _), (Le.refl _), (Le.refl _), (Le.refl _), (Le.refl _), (Le.refl _), (Le.refl _), (Le.refl _), (Le.refl _), (Le.refl _), (Le.refl _), (Le.refl _), (Le.refl _), (Le.refl _), (Le.refl _), (Le.refl _), (Le.refl _), (Le.refl _), (Le.refl _), trivial⟩), (Le.refl _), trivial⟩)

theorem f57_c (q0 : Queues) (task1 : Int) {r : Int} (h : f57 q0 task1 = some r) : Pu Try.prog 57 [.ag (R26 q0), .i .i64 task1] (.i .i64 r) := by
 unfold f57 at h
 refine fn_intro Try.func57 (by kernel_rfl) rfl rfl rfl (fun φφ ww => ?_)
 refine wc_sr ?_
 refine WL.s ((b_boxd rfl rfl (Les.refl _)).does) (Wt.none rfl) rfl rfl ?_
 refine WL.as rfl rfl ?_
 refine WL.ns ?_
 refine wc_sr ?_
 refine WL.as rfl rfl ?_
 refine WL.ns ?_
 replace h := letkS h
 obtain ⟨k43, hk43, h⟩ := h
 refine wc_cut (fun env' st' => ∃ (n42 : Int), k43 n42 = some r ∧ Sub [(1, .d (D.i .i64 task1)), (2, .d (.pc (R26 q0))), (5, .d (D.i .i64 n42))] env' ∧ SLe st' []) ?_ ?_
 ·refine wc_sr ?_
  refine WL.qn (y_fieldAddrc f26_2 rfl) rfl ?_
  refine WL.qn (y_loadc rfl a3 rfl) rfl ?_
  refine WL.mv rfl rfl ?_
  refine WL.qn (y_eql rfl rfl) rfl ?_
  refine WL.ns ?_
  refine wc_cond rfl (fun hc1 => ?_) (fun hc1 => ?_)
  ·replace h := condT h hc1
   refine wc_region ?_
   refine WL.mv rfl rfl ?_
   refine WL.qn (y_add rfl rfl rfl) rfl ?_
   refine WL.as rfl rfl ?_
   refine WL.nil ?_
   exact we_lp ⟨(IntKind.i64.wrap (0 + 1)), h, (Sub.cons rfl (Le.refl _) (Sub.cons rfl (Le.refl _) (Sub.cons rfl (Le.refl _) (Sub.nil _)))), trivial⟩
  ·replace h := condF h hc1
   refine wc_skip ?_
   exact we_lp ⟨0, h, (Sub.cons rfl (Le.refl _) (Sub.cons rfl (Le.refl _) (Sub.cons rfl (Le.refl _) (Sub.nil _)))), trivial⟩
 ·rintro env1 st1 ⟨n42, h, hsub, hst⟩
  subst hk43
  dsimp only at h
  refine WC.sub hsub (WC.weak hst ?_)
  replace h := letkS h
  obtain ⟨k45, hk45, h⟩ := h
  refine wc_cut (fun env' st' => ∃ (n44 : Int), k45 n44 = some r ∧ Sub [(5, .d (D.i .i64 n44))] env' ∧ SLe st' []) ?_ ?_
  ·refine wc_sr ?_
   refine WL.as rfl rfl ?_
   refine WL.ns ?_
   refine wc_block ?_
   refine wc_loop (fun n env' st' => ∃ (n48 : Int), ∃ (p49 : Int), f57_l1 q0 task1 k45 n n48 p49 = some r ∧ Sub [(1, .d (D.i .i64 task1)), (2, .d (.pc (R26 q0))), (5, .d (D.i .i64 n48)), (6, .d (D.i .i64 p49))] env' ∧ SLe st' []) (fun n => n) 9223372036854775808 ⟨n42, 0, h, (Sub.cons rfl (Le.refl _) (Sub.cons rfl (Le.refl _) (Sub.cons rfl (Le.refl _) (Sub.cons rfl (Le.refl _) (Sub.nil _))))), trivial⟩ ?_
   rintro n env1 st1 ⟨n48, p49, h, hsub, hst⟩
   cases n with
   | zero => rw [f57_l1] at h; cases h
   | succ n =>
   rw [f57_l1] at h
   refine WC.sub hsub (WC.weak hst ?_)
   refine wc_seq ?_
   refine wc_sr ?_
   refine WL.mv rfl rfl ?_
   refine WL.qn (y_lss rfl rfl) rfl ?_
   refine WL.ns ?_
   refine wc_cond rfl (fun hc2 => ?_) (fun hc2 => ?_)
   ·replace h := condT h hc2
    refine wc_skip ?_
    refine we_seq ?_
    replace h := letkS h
    obtain ⟨k53, hk53, h⟩ := h
    refine wc_cut (fun env' st' => ∃ (n52 : Int), k53 n52 = some r ∧ Sub [(1, .d (D.i .i64 task1)), (2, .d (.pc (R26 q0))), (5, .d (D.i .i64 n52)), (6, .d (D.i .i64 p49))] env' ∧ SLe st' []) ?_ ?_
    ·refine wc_block ?_
     refine wc_sr ?_
     refine WL.as rfl rfl ?_
     refine WL.ns ?_
     refine wc_block ?_
     refine wc_loop (fun na env' st' => ∃ (n56 : Int), ∃ (iq57 : Int), f57_l2 q0 task1 p49 k53 na n56 iq57 = some r ∧ Sub [(1, .d (D.i .i64 task1)), (2, .d (.pc (R26 q0))), (5, .d (D.i .i64 n56)), (6, .d (D.i .i64 p49)), (7, .d (D.i .i64 iq57))] env' ∧ SLe st' []) (fun n => n) 9223372036854775808 ⟨n48, 0, h, (Sub.cons rfl (Le.refl _) (Sub.cons rfl (Le.refl _) (Sub.cons rfl (Le.refl _) (Sub.cons rfl (Le.refl _) (Sub.cons rfl (Le.refl _) (Sub.nil _)))))), trivial⟩ ?_
     rintro na env1 st1 ⟨n56, iq57, h, hsub, hst⟩
     cases na with
     | zero => rw [f57_l2] at h; cases h
     | succ na =>
     rw [f57_l2] at h
     refine WC.sub hsub (WC.weak hst ?_)
     refine wc_seq ?_
     refine wc_sr ?_
     refine WL.mv rfl rfl ?_
     refine WL.mv rfl rfl ?_
     refine WL.qn (y_fieldAddrc f26_0 rfl) rfl ?_
     replace h := guardBS h
     obtain ⟨hgg60, h⟩ := h
     refine WL.qn (y_indexAddrVc (fun j => .sl (List.map E3 (q0.ready j))) ar23 rfl rfl rfl hgg60) rfl ?_
     refine WL.qn (y_loadc rfl a22 rfl) rfl ?_
     refine WL.qn (y_len_map E3 (q0.ready (Int.toNat p49)) e22 rfl rfl (Le.refl _)) rfl ?_
     refine WL.qn (y_lss rfl rfl) rfl ?_
     refine WL.ns ?_
     refine wc_cond rfl (fun hc3 => ?_) (fun hc3 => ?_)
     ·replace h := condT h hc3
      refine wc_skip ?_
      refine we_seq ?_
      replace h := letkS h
      obtain ⟨k62, hk62, h⟩ := h
      refine wc_cut (fun env' st' => ∃ (n61 : Int), k62 n61 = some r ∧ Sub [(1, .d (D.i .i64 task1)), (2, .d (.pc (R26 q0))), (5, .d (D.i .i64 n61)), (6, .d (D.i .i64 p49)), (7, .d (D.i .i64 iq57))] env' ∧ SLe st' []) ?_ ?_
      ·refine wc_block ?_
       refine wc_sr ?_
       refine WL.mv rfl rfl ?_
       refine WL.qn (y_fieldAddrc f26_0 rfl) rfl ?_
       replace h := guardBS h
       obtain ⟨hgg63, h⟩ := h
       refine WL.qn (y_indexAddrVc (fun j => .sl (List.map E3 (q0.ready j))) ar23 rfl rfl rfl hgg63) rfl ?_
       refine WL.qn (y_loadc rfl a22 rfl) rfl ?_
       refine WL.mv rfl rfl ?_
       obtain ⟨x64, hx64, h⟩ := bindS h
       refine WL.qn (y_indexAddr e22 rfl (Le.refl _) rfl (idx_nonneg hx64) (idx_row E3_eq hx64) rfl) rfl ?_
       refine WL.qn (y_loadc rfl a3 rfl) rfl ?_
       refine WL.mv rfl rfl ?_
       refine WL.qn (y_eql rfl rfl) rfl ?_
       refine WL.ns ?_
       refine wc_cond rfl (fun hc4 => ?_) (fun hc4 => ?_)
       ·replace h := condT h hc4
        refine wc_region ?_
        refine WL.mv rfl rfl ?_
        refine WL.qn (y_add rfl rfl rfl) rfl ?_
        refine WL.as rfl rfl ?_
        refine WL.nil ?_
        refine we_blk ?_
        exact we_lp ⟨(IntKind.i64.wrap (n56 + 1)), h, (Sub.cons rfl (Le.refl _) (Sub.cons rfl (Le.refl _) (Sub.cons rfl (Le.refl _) (Sub.cons rfl (Le.refl _) (Sub.cons rfl (Le.refl _) (Sub.nil _)))))), trivial⟩
       ·replace h := condF h hc4
        refine wc_skip ?_
        refine we_blk ?_
        exact we_lp ⟨n56, h, (Sub.cons rfl (Le.refl _) (Sub.cons rfl (Le.refl _) (Sub.cons rfl (Le.refl _) (Sub.cons rfl (Le.refl _) (Sub.cons rfl (Le.refl _) (Sub.nil _)))))), trivial⟩
      ·rintro env1 st1 ⟨n61, h, hsub, hst⟩
       subst hk62
       dsimp only at h
       refine WC.sub hsub (WC.weak hst ?_)
       refine wc_region ?_
       refine WL.mv rfl rfl ?_
       refine WL.qn (y_add rfl rfl rfl) rfl ?_
       refine WL.as rfl rfl ?_
       refine WL.nil ?_
       exact we_lp ⟨na, ⟨n61, (IntKind.i64.wrap (iq57 + 1)), h, (Sub.cons rfl (Le.refl _) (Sub.cons rfl (Le.refl _) (Sub.cons rfl (Le.refl _) (Sub.cons rfl (Le.refl _) (Sub.cons rfl (Le.refl _) (Sub.nil _)))))), trivial⟩, Nat.lt_succ_self na⟩
     ·replace h := condF h hc3
      refine wc_exit ?_
      refine we_seq_exit ?_
      refine we_lp_exit ?_
      refine we_blk_hit ?_
      refine we_blk ?_
      exact we_lp ⟨n56, h, (Sub.cons rfl (Le.refl _) (Sub.cons rfl (Le.refl _) (Sub.cons rfl (Le.refl _) (Sub.cons rfl (Le.refl _) (Sub.nil _))))), trivial⟩
    ·rintro env1 st1 ⟨n52, h, hsub, hst⟩
     subst hk53
     dsimp only at h
     refine WC.sub hsub (WC.weak hst ?_)
     refine wc_region ?_
     refine WL.mv rfl rfl ?_
     refine WL.qn (y_add rfl rfl rfl) rfl ?_
     refine WL.as rfl rfl ?_
     refine WL.nil ?_
     exact we_lp ⟨n, ⟨n52, (IntKind.i64.wrap (p49 + 1)), h, (Sub.cons rfl (Le.refl _) (Sub.cons rfl (Le.refl _) (Sub.cons rfl (Le.refl _) (Sub.cons rfl (Le.refl _) (Sub.nil _))))), trivial⟩, Nat.lt_succ_self n⟩
   ·replace h := condF h hc2
    refine wc_exit ?_
    refine we_seq_exit ?_
    refine we_lp_exit ?_
    refine we_blk_hit ?_
    exact we_lp ⟨n48, h, (Sub.cons rfl (Le.refl _) (Sub.nil _)), trivial⟩
  ·rintro env1 st1 ⟨n44, h, hsub, hst⟩
   subst hk45
   dsimp only at h
   refine WC.sub hsub (WC.weak hst ?_)
   refine wc_sr ?_
   refine WL.mv rfl rfl ?_
   refine WL.as rfl rfl ?_
   refine WL.ns ?_
   refine wc_ret ?_
   obtain rfl := Option.some.inj h
   exact we_ret_fn (rs1 rfl (rv_t rfl)) (Le.refl _)

theorem f56_c (n0 : Int) : Pu Try.prog 56 [.i .i64 n0] (.b (f56 n0)) := by
 generalize h : f56 n0 = r
 unfold f56 at h
 refine fn_intro Try.func56 (by kernel_rfl) rfl rfl rfl (fun φφ ww => ?_)
 refine wc_sr ?_
 refine WL.as rfl rfl ?_
 refine WL.ns ?_
 refine wc_sr ?_
 refine WL.mv rfl rfl ?_
 refine WL.qn (y_geq rfl rfl) rfl ?_
 refine WL.mv rfl rfl ?_
 apply WL.and 3 (t := 5) (d := 8)
 ·exact rfl
 ·intro hg5
  refine WL.qy (y_move rfl) rfl rfl rfl ?_
  refine WL.qy (y_leq rfl rfl) rfl rfl rfl ?_
  refine WL.qn (y_pick_t rfl rfl) rfl ?_
  exact WL.nil ⟨rfl, [_, _, _], rfl, rfl, rfl⟩
 ·refine WL.skips 2 rfl ?_
  refine WL.qn (y_pick_f rfl rfl) rfl ?_
  exact WL.nil ⟨rfl, [_, _, _], rfl, rfl, rfl⟩
 refine WL.as rfl rfl ?_
 refine WL.ns ?_
 refine wc_ret ?_
 subst h
 exact we_ret_fn (rs1 rfl (rv_t rfl)) (Le.refl _)

theorem f58_c (q0 : Queues) (task1 : Int) {r : Int} (h : f58 q0 task1 = some r) : Pu Try.prog 58 [.ag (R26 q0), .i .i64 task1] (.i .i64 r) := by
 unfold f58 at h
 refine fn_intro Try.func58 (by kernel_rfl) rfl rfl rfl (fun φφ ww => ?_)
 refine wc_sr ?_
 refine WL.s ((b_boxd rfl rfl (Les.refl _)).does) (Wt.none rfl) rfl rfl ?_
 refine WL.as rfl rfl ?_
 refine WL.ns ?_
 refine wc_sr ?_
 refine WL.as rfl rfl ?_
 refine WL.ns ?_
 replace h := letkS h
 obtain ⟨k29, hk29, h⟩ := h
 refine wc_cut (fun env' st' => ∃ (n28 : Int), k29 n28 = some r ∧ Sub [(5, .d (D.i .i64 n28))] env' ∧ SLe st' []) ?_ ?_
 ·refine wc_sr ?_
  refine WL.as rfl rfl ?_
  refine WL.ns ?_
  refine wc_block ?_
  refine wc_loop (fun n env' st' => ∃ (n32 : Int), ∃ (iq33 : Int), f58_l1 q0 task1 k29 n n32 iq33 = some r ∧ Sub [(1, .d (D.i .i64 task1)), (2, .d (.pc (R26 q0))), (5, .d (D.i .i64 n32)), (6, .d (D.i .i64 iq33))] env' ∧ SLe st' []) (fun n => n) 9223372036854775808 ⟨0, 0, h, (Sub.cons rfl (Le.refl _) (Sub.cons rfl (Le.refl _) (Sub.cons rfl (Le.refl _) (Sub.cons rfl (Le.refl _) (Sub.nil _))))), trivial⟩ ?_
  rintro n env1 st1 ⟨n32, iq33, h, hsub, hst⟩
  cases n with
  | zero => rw [f58_l1] at h; cases h
  | succ n =>
  rw [f58_l1] at h
  refine WC.sub hsub (WC.weak hst ?_)
  refine wc_seq ?_
  refine wc_sr ?_
  refine WL.mv rfl rfl ?_
  refine WL.qn (y_fieldAddrc f26_1 rfl) rfl ?_
  refine WL.qn (y_loadc rfl a24 rfl) rfl ?_
  refine WL.qn (y_len_map E62 q0.delays e24 rfl rfl (Le.refl _)) rfl ?_
  refine WL.qn (y_lss rfl rfl) rfl ?_
  refine WL.ns ?_
  refine wc_cond rfl (fun hc1 => ?_) (fun hc1 => ?_)
  ·replace h := condT h hc1
   refine wc_skip ?_
   refine we_seq ?_
   replace h := letkS h
   obtain ⟨k37, hk37, h⟩ := h
   refine wc_cut (fun env' st' => ∃ (n36 : Int), k37 n36 = some r ∧ Sub [(1, .d (D.i .i64 task1)), (2, .d (.pc (R26 q0))), (5, .d (D.i .i64 n36)), (6, .d (D.i .i64 iq33))] env' ∧ SLe st' []) ?_ ?_
   ·refine wc_block ?_
    refine wc_sr ?_
    refine WL.qn (y_fieldAddrc f26_1 rfl) rfl ?_
    refine WL.qn (y_loadc rfl a24 rfl) rfl ?_
    refine WL.mv rfl rfl ?_
    obtain ⟨x38, hx38, h⟩ := bindS h
    refine WL.qn (y_indexAddr e24 rfl (Le.refl _) rfl (idx_nonneg hx38) (idx_row E62_eq hx38) rfl) rfl ?_
    refine WL.qn (y_fieldAddrc f62_1 rfl) rfl ?_
    refine WL.qn (y_loadc rfl a3 rfl) rfl ?_
    refine WL.mv rfl rfl ?_
    refine WL.qn (y_eql rfl rfl) rfl ?_
    refine WL.ns ?_
    refine wc_cond rfl (fun hc2 => ?_) (fun hc2 => ?_)
    ·replace h := condT h hc2
     refine wc_region ?_
     refine WL.mv rfl rfl ?_
     refine WL.qn (y_add rfl rfl rfl) rfl ?_
     refine WL.as rfl rfl ?_
     refine WL.nil ?_
     refine we_blk ?_
     exact we_lp ⟨(IntKind.i64.wrap (n32 + 1)), h, (Sub.cons rfl (Le.refl _) (Sub.cons rfl (Le.refl _) (Sub.cons rfl (Le.refl _) (Sub.cons rfl (Le.refl _) (Sub.nil _))))), trivial⟩
    ·replace h := condF h hc2
     refine wc_skip ?_
     refine we_blk ?_
     exact we_lp ⟨n32, h, (Sub.cons rfl (Le.refl _) (Sub.cons rfl (Le.refl _) (Sub.cons rfl (Le.refl _) (Sub.cons rfl (Le.refl _) (Sub.nil _))))), trivial⟩
   ·rintro env1 st1 ⟨n36, h, hsub, hst⟩
    subst hk37
    dsimp only at h
    refine WC.sub hsub (WC.weak hst ?_)
    refine wc_region ?_
    refine WL.mv rfl rfl ?_
    refine WL.qn (y_add rfl rfl rfl) rfl ?_
    refine WL.as rfl rfl ?_
    refine WL.nil ?_
    exact we_lp ⟨n, ⟨n36, (IntKind.i64.wrap (iq33 + 1)), h, (Sub.cons rfl (Le.refl _) (Sub.cons rfl (Le.refl _) (Sub.cons rfl (Le.refl _) (Sub.cons rfl (Le.refl _) (Sub.nil _))))), trivial⟩, Nat.lt_succ_self n⟩
  ·replace h := condF h hc1
   refine wc_exit ?_
   refine we_seq_exit ?_
   refine we_lp_exit ?_
   refine we_blk_hit ?_
   exact we_lp ⟨n32, h, (Sub.cons rfl (Le.refl _) (Sub.nil _)), trivial⟩
 ·rintro env1 st1 ⟨n28, h, hsub, hst⟩
  subst hk29
  dsimp only at h
  refine WC.sub hsub (WC.weak hst ?_)
  refine wc_sr ?_
  refine WL.mv rfl rfl ?_
  refine WL.as rfl rfl ?_
  refine WL.ns ?_
  refine wc_ret ?_
  obtain rfl := Option.some.inj h
  exact we_ret_fn (rs1 rfl (rv_t rfl)) (Le.refl _)

theorem f25_c (q0 : Queues) {r : Bool} (h : f25 q0 = some r) : Pu Try.prog 25 [.ag (R26 q0)] (.b r) := by
 unfold f25 at h
 refine fn_intro Try.func25 (by kernel_rfl) rfl rfl rfl (fun φφ ww => ?_)
 refine wc_sr ?_
 refine WL.s ((b_boxd rfl rfl (Les.refl _)).does) (Wt.none rfl) rfl rfl ?_
 refine WL.as rfl rfl ?_
 refine WL.ns ?_
 refine wc_seq ?_
 refine wc_sr ?_
 refine WL.qn (y_fieldAddrc f26_2 rfl) rfl ?_
 refine WL.qn (y_loadc rfl a3 rfl) rfl ?_
 refine WL.qn (y_lss rfl rfl) rfl ?_
 refine WL.mv rfl rfl ?_
 apply WL.or 4 (t := 11) (d := 15)
 ·exact rfl
 ·intro hg11
  refine WL.qy (y_fieldAddrc f26_2 rfl) rfl rfl rfl ?_
  refine WL.qy (y_loadc rfl a3 rfl) rfl rfl rfl ?_
  refine WL.qy (y_gtr rfl rfl) rfl rfl rfl ?_
  refine WL.qn (y_pick_f rfl rfl) rfl ?_
  exact WL.nil ⟨rfl, [_, _, _, _], rfl, rfl, rfl⟩
 ·refine WL.skips 3 rfl ?_
  refine WL.qn (y_pick_t rfl rfl) rfl ?_
  exact WL.nil ⟨rfl, [_, _, _, _], rfl, rfl, rfl⟩
 refine WL.mv rfl rfl ?_
 apply WL.or 5 (t := 16) (d := 21)
 ·exact rfl
 ·intro hg16
  refine WL.qy (y_fieldAddrc f26_1 rfl) rfl rfl rfl ?_
  refine WL.qy (y_loadc rfl a24 rfl) rfl rfl rfl ?_
  refine WL.qy (y_len_map E62 q0.delays e24 rfl rfl (Le.refl _)) rfl rfl rfl ?_
  refine WL.qy (y_gtr rfl rfl) rfl rfl rfl ?_
  refine WL.qn (y_pick_f rfl rfl) rfl ?_
  exact WL.nil ⟨rfl, [_, _, _, _, _], rfl, rfl, rfl⟩
 ·refine WL.skips 4 rfl ?_
  refine WL.qn (y_pick_t rfl rfl) rfl ?_
  exact WL.nil ⟨rfl, [_, _, _, _, _], rfl, rfl, rfl⟩
 refine WL.ns ?_
 refine wc_cond rfl (fun hc1 => ?_) (fun hc1 => ?_)
 ·replace h := condT h hc1
  refine wc_sr ?_
  refine WL.as rfl rfl ?_
  refine WL.ns ?_
  refine wc_ret ?_
  refine we_seq_ret ?_
  obtain rfl := Option.some.inj h
  exact we_ret_fn (rs1 rfl (rv_t rfl)) (Le.refl _)
 ·replace h := condF h hc1
  refine wc_skip ?_
  refine we_seq ?_
  replace h := letkS h
  obtain ⟨k108, hk108, h⟩ := h
  refine wc_cut (fun env' st' => k108 () = some r ∧ Sub [(1, .d (.pc (R26 q0)))] env' ∧ SLe st' []) ?_ ?_
  ·refine wc_sr ?_
   refine WL.as rfl rfl ?_
   refine WL.ns ?_
   refine wc_block ?_
   refine wc_loop (fun n env' st' => ∃ (p110 : Int), f25_l1 q0 k108 n p110 = some r ∧ Sub [(1, .d (.pc (R26 q0))), (3, .d (D.i .i64 p110))] env' ∧ SLe st' []) (fun n => n) 9223372036854775808 ⟨0, h, (Sub.cons rfl (Le.refl _) (Sub.cons rfl (Le.refl _) (Sub.nil _))), trivial⟩ ?_
   rintro n env1 st1 ⟨p110, h, hsub, hst⟩
   cases n with
   | zero => rw [f25_l1] at h; cases h
   | succ n =>
   rw [f25_l1] at h
   refine WC.sub hsub (WC.weak hst ?_)
   refine wc_seq ?_
   refine wc_sr ?_
   refine WL.mv rfl rfl ?_
   refine WL.qn (y_lss rfl rfl) rfl ?_
   refine WL.ns ?_
   refine wc_cond rfl (fun hc2 => ?_) (fun hc2 => ?_)
   ·replace h := condT h hc2
    refine wc_skip ?_
    refine we_seq ?_
    replace h := letkS h
    obtain ⟨k112, hk112, h⟩ := h
    refine wc_cut (fun env' st' => k112 () = some r ∧ Sub [(1, .d (.pc (R26 q0))), (3, .d (D.i .i64 p110))] env' ∧ SLe st' []) ?_ ?_
    ·refine wc_block ?_
     refine wc_seq ?_
     refine wc_sr ?_
     refine WL.mv rfl rfl ?_
     refine WL.qn (y_fieldAddrc f26_0 rfl) rfl ?_
     replace h := guardBS h
     obtain ⟨hgg113, h⟩ := h
     refine WL.qn (y_indexAddrVc (fun j => .sl (List.map E3 (q0.ready j))) ar23 rfl rfl rfl hgg113) rfl ?_
     refine WL.qn (y_loadc rfl a22 rfl) rfl ?_
     refine WL.qn (y_len_map E3 (q0.ready (Int.toNat p110)) e22 rfl rfl (Le.refl _)) rfl ?_
     refine WL.qn (y_gtr rfl rfl) rfl ?_
     refine WL.ns ?_
     refine wc_cond rfl (fun hc3 => ?_) (fun hc3 => ?_)
     ·replace h := condT h hc3
      refine wc_sr ?_
      refine WL.as rfl rfl ?_
      refine WL.ns ?_
      refine wc_ret ?_
      refine we_seq_ret ?_
      refine we_blk_ret ?_
      refine we_lp_ret ?_
      refine we_lp_ret ?_
      refine we_blk_ret ?_
      refine we_lp_ret ?_
      obtain rfl := Option.some.inj h
      exact we_ret_fn (rs1 rfl (rv_t rfl)) (Le.refl _)
     ·replace h := condF h hc3
      refine wc_skip ?_
      refine we_seq ?_
      refine wc_sr ?_
      refine WL.as rfl rfl ?_
      refine WL.ns ?_
      refine wc_block ?_
      refine wc_loop (fun na env' st' => ∃ (iq115 : Int), f25_l2 q0 p110 k112 na iq115 = some r ∧ Sub [(1, .d (.pc (R26 q0))), (3, .d (D.i .i64 p110)), (4, .d (D.i .i64 iq115))] env' ∧ SLe st' []) (fun n => n) 9223372036854775808 ⟨0, h, (Sub.cons rfl (Le.refl _) (Sub.cons rfl (Le.refl _) (Sub.cons rfl (Le.refl _) (Sub.nil _)))), trivial⟩ ?_
      rintro na env1 st1 ⟨iq115, h, hsub, hst⟩
      cases na with
      | zero => rw [f25_l2] at h; cases h
      | succ na =>
      rw [f25_l2] at h
      refine WC.sub hsub (WC.weak hst ?_)
      refine wc_seq ?_
      refine wc_sr ?_
      refine WL.mv rfl rfl ?_
      refine WL.mv rfl rfl ?_
      refine WL.qn (y_fieldAddrc f26_0 rfl) rfl ?_
      replace h := guardBS h
      obtain ⟨hgg117, h⟩ := h
      refine WL.qn (y_indexAddrVc (fun j => .sl (List.map E3 (q0.ready j))) ar23 rfl rfl rfl hgg117) rfl ?_
      refine WL.qn (y_loadc rfl a22 rfl) rfl ?_
      refine WL.qn (y_len_map E3 (q0.ready (Int.toNat p110)) e22 rfl rfl (Le.refl _)) rfl ?_
      refine WL.qn (y_lss rfl rfl) rfl ?_
      refine WL.ns ?_
      refine wc_cond rfl (fun hc4 => ?_) (fun hc4 => ?_)
      ·replace h := condT h hc4
       refine wc_skip ?_
       refine we_seq ?_
       refine wc_seq ?_
       refine wc_block ?_
       refine wc_sr ?_
       refine WL.mv rfl rfl ?_
       refine WL.qn (y_fieldAddrc f26_0 rfl) rfl ?_
       replace h := guardBS h
       obtain ⟨hgg118, h⟩ := h
       refine WL.qn (y_indexAddrVc (fun j => .sl (List.map E3 (q0.ready j))) ar23 rfl rfl rfl hgg118) rfl ?_
       refine WL.qn (y_loadc rfl a22 rfl) rfl ?_
       refine WL.mv rfl rfl ?_
       obtain ⟨x119, hx119, h⟩ := bindS h
       refine WL.qn (y_indexAddr e22 rfl (Le.refl _) rfl (idx_nonneg hx119) (idx_row E3_eq hx119) rfl) rfl ?_
       refine WL.qn (y_loadc rfl a3 rfl) rfl ?_
       refine WL.fn rfl rfl rfl rfl (f56_c _) ⟨(Le.refl _), trivial⟩ (Wt.none rfl) rfl rfl ?_
       refine WL.qn (y_not rfl) rfl ?_
       refine WL.ns ?_
       refine wc_cond rfl (fun hc5 => ?_) (fun hc5 => ?_)
       ·replace h := condT h hc5
        refine wc_sr ?_
        refine WL.as rfl rfl ?_
        refine WL.ns ?_
        refine wc_ret ?_
        refine we_blk_ret ?_
        refine we_seq_ret ?_
        refine we_lp_ret ?_
        refine we_blk_ret ?_
        refine we_blk_ret ?_
        refine we_lp_ret ?_
        refine we_lp_ret ?_
        refine we_blk_ret ?_
        refine we_lp_ret ?_
        obtain rfl := Option.some.inj h
        exact we_ret_fn (rs1 rfl (rv_t rfl)) (Le.refl _)
       ·replace h := condF h hc5
        refine wc_skip ?_
        refine we_blk ?_
        refine we_seq ?_
        refine wc_region ?_
        refine WL.mv rfl rfl ?_
        refine WL.qn (y_add rfl rfl rfl) rfl ?_
        refine WL.as rfl rfl ?_
        refine WL.nil ?_
        exact we_lp ⟨na, ⟨(IntKind.i64.wrap (iq115 + 1)), h, (Sub.cons rfl (Le.refl _) (Sub.cons rfl (Le.refl _) (Sub.cons rfl (Le.refl _) (Sub.nil _)))), trivial⟩, Nat.lt_succ_self na⟩
      ·replace h := condF h hc4
       refine wc_exit ?_
       refine we_seq_exit ?_
       refine we_lp_exit ?_
       refine we_blk_hit ?_
       refine we_blk ?_
       exact we_lp ⟨h, (Sub.cons rfl (Le.refl _) (Sub.cons rfl (Le.refl _) (Sub.nil _))), trivial⟩
    ·rintro env1 st1 ⟨h, hsub, hst⟩
     subst hk112
     dsimp only at h
     refine WC.sub hsub (WC.weak hst ?_)
     refine wc_region ?_
     refine WL.mv rfl rfl ?_
     refine WL.qn (y_add rfl rfl rfl) rfl ?_
     refine WL.as rfl rfl ?_
     refine WL.nil ?_
     exact we_lp ⟨n, ⟨(IntKind.i64.wrap (p110 + 1)), h, (Sub.cons rfl (Le.refl _) (Sub.cons rfl (Le.refl _) (Sub.nil _))), trivial⟩, Nat.lt_succ_self n⟩
   ·replace h := condF h hc2
    refine wc_exit ?_
    refine we_seq_exit ?_
    refine we_lp_exit ?_
    refine we_blk_hit ?_
    exact we_lp ⟨h, (Sub.cons rfl (Le.refl _) (Sub.nil _)), trivial⟩
  ·rintro env1 st1 ⟨h, hsub, hst⟩
   subst hk108
   dsimp only at h
   refine WC.sub hsub (WC.weak hst ?_)
   replace h := letkS h
   obtain ⟨k120, hk120, h⟩ := h
   refine wc_cut (fun env' st' => k120 () = some r ∧ Sub [(1, .d (.pc (R26 q0)))] env' ∧ SLe st' []) ?_ ?_
   ·refine wc_sr ?_
    refine WL.as rfl rfl ?_
    refine WL.ns ?_
    refine wc_block ?_
    refine wc_loop (fun n env' st' => ∃ (iq122 : Int), f25_l3 q0 k120 n iq122 = some r ∧ Sub [(1, .d (.pc (R26 q0))), (5, .d (D.i .i64 iq122))] env' ∧ SLe st' []) (fun n => n) 9223372036854775808 ⟨0, h, (Sub.cons rfl (Le.refl _) (Sub.cons rfl (Le.refl _) (Sub.nil _))), trivial⟩ ?_
    rintro n env1 st1 ⟨iq122, h, hsub, hst⟩
    cases n with
    | zero => rw [f25_l3] at h; cases h
    | succ n =>
    rw [f25_l3] at h
    refine WC.sub hsub (WC.weak hst ?_)
    refine wc_seq ?_
    refine wc_sr ?_
    refine WL.mv rfl rfl ?_
    refine WL.qn (y_fieldAddrc f26_1 rfl) rfl ?_
    refine WL.qn (y_loadc rfl a24 rfl) rfl ?_
    refine WL.qn (y_len_map E62 q0.delays e24 rfl rfl (Le.refl _)) rfl ?_
    refine WL.qn (y_lss rfl rfl) rfl ?_
    refine WL.ns ?_
    refine wc_cond rfl (fun hc6 => ?_) (fun hc6 => ?_)
    ·replace h := condT h hc6
     refine wc_skip ?_
     refine we_seq ?_
     refine wc_seq ?_
     refine wc_block ?_
     refine wc_sr ?_
     refine WL.qn (y_fieldAddrc f26_1 rfl) rfl ?_
     refine WL.qn (y_loadc rfl a24 rfl) rfl ?_
     refine WL.mv rfl rfl ?_
     obtain ⟨x124, hx124, h⟩ := bindS h
     refine WL.qn (y_indexAddr e24 rfl (Le.refl _) rfl (idx_nonneg hx124) (idx_row E62_eq hx124) rfl) rfl ?_
     refine WL.qn (y_loadcN rfl a62 s62 rfl) rfl ?_
     refine WL.s ((b_alloc z62).does) (Wt.none rfl) rfl rfl ?_
     refine WL.s0 (d_store rfl rfl rfl rfl rfl rfl s62 rfl rfl) (Wt.none rfl) rfl ?_
     refine WL.ns ?_
     refine wc_seq ?_
     refine wc_region_draw (by kernel_rfl) (by kernel_rfl) ?_
     refine WQ.qn (y_fieldAddr f62_1 rfl) rfl ?_
     refine WQ.qn (y_load rfl rfl a3 rfl) rfl ?_
     refine WQ.q (YieldsQ.fn rfl rfl rfl rfl rfl (f56_c _) ⟨(Le.refl _), trivial⟩) (Wt.none rfl) rfl rfl ?_
     refine WQ.qn (y_not rfl) rfl ?_
     refine WQ.qn (y_move rfl) rfl ?_
     apply WQ.or 4 (t := 66) (d := 70)
     ·exact rfl
     ·intro hg66
      refine WQ.qy (y_fieldAddr f62_0 rfl) rfl rfl rfl ?_
      refine WQ.qy (y_load rfl rfl a2 rfl) rfl rfl rfl ?_
      refine WQ.qy (y_lss rfl rfl) rfl rfl rfl ?_
      refine WQ.qn (y_pick_f rfl rfl) rfl ?_
      exact WQ.nil ⟨[_, _, _, _], rfl, rfl, rfl⟩
     ·refine WQ.skips 3 rfl ?_
      refine WQ.qn (y_pick_t rfl rfl) rfl ?_
      exact WQ.nil ⟨[_, _, _, _], rfl, rfl, rfl⟩
     refine WQ.qn (y_move rfl) rfl ?_
     apply WQ.or 4 (t := 71) (d := 75)
     ·exact rfl
     ·intro hg71
      refine WQ.qy (y_fieldAddr f62_0 rfl) rfl rfl rfl ?_
      refine WQ.qy (y_load rfl rfl a2 rfl) rfl rfl rfl ?_
      refine WQ.qy (y_gtr rfl rfl) rfl rfl rfl ?_
      refine WQ.qn (y_pick_f rfl rfl) rfl ?_
      exact WQ.nil ⟨[_, _, _, _], rfl, rfl, rfl⟩
     ·refine WQ.skips 3 rfl ?_
      refine WQ.qn (y_pick_t rfl rfl) rfl ?_
      exact WQ.nil ⟨[_, _, _, _], rfl, rfl, rfl⟩
     refine WQ.qn (y_move rfl) rfl ?_
     obtain ⟨b125, hb125, h⟩ := bindS h
     apply WQ.grp 15 (t := 76) (d := 91) (z := b125)
     ·exact rfl
     ·intro hg76
      have h := condT hb125 hg76
      refine WQ.skips 14 rfl ?_
      refine WQ.qn (y_pick_t rfl rfl) rfl ?_
      obtain rfl := Option.some.inj h
      exact WQ.nil ⟨[_, _, _, _, _, _, _, _, _, _, _, _, _, _, _], rfl, rfl, rfl⟩
     ·intro hg76
      have h := condF hb125 hg76
      refine WQ.qy (y_move rfl) rfl rfl rfl ?_
      refine WQ.qy (y_gtr rfl rfl) rfl rfl rfl ?_
      refine WQ.qy (y_move rfl) rfl rfl rfl ?_
      obtain ⟨b126, hb126, h⟩ := bindS h
      apply WQ.grp 11 (t := 79) (d := 90) (z := b126)
      ·exact rfl
      ·intro hg79
       have h := condT hb126 hg79
       refine WQ.qy (y_fieldAddrc f26_1 rfl) rfl rfl rfl ?_
       refine WQ.qy (y_loadc rfl a24 rfl) rfl rfl rfl ?_
       refine WQ.qy (y_move rfl) rfl rfl rfl ?_
       refine WQ.qy (y_sub rfl rfl rfl) rfl rfl rfl ?_
       obtain ⟨x127, hx127, h⟩ := bindS h
       refine WQ.qy (y_indexAddr e24 rfl (Le.refl _) rfl (idx_nonneg hx127) (idx_row E62_eq hx127) rfl) rfl rfl rfl ?_
       refine WQ.qy (y_fieldAddrc f62_0 rfl) rfl rfl rfl ?_
       refine WQ.qy (y_loadc rfl a2 rfl) rfl rfl rfl ?_
       refine WQ.qy (y_fieldAddr f62_0 rfl) rfl rfl rfl ?_
       refine WQ.qy (y_load rfl rfl a2 rfl) rfl rfl rfl ?_
       refine WQ.qy (y_gtr rfl rfl) rfl rfl rfl ?_
       refine WQ.qy (y_pick_t rfl rfl) rfl rfl rfl ?_
       obtain rfl := Option.some.inj h
       exact WQ.nil ⟨[_, _, _, _, _, _, _, _, _, _, _], rfl, rfl, rfl⟩
      ·intro hg79
       have h := condF hb126 hg79
       refine WQ.skips 10 rfl ?_
       refine WQ.qy (y_pick_f rfl rfl) rfl rfl rfl ?_
       obtain rfl := Option.some.inj h
       exact WQ.nil ⟨[_, _, _, _, _, _, _, _, _, _, _], rfl, rfl, rfl⟩
      refine WQ.qn (y_pick_f rfl rfl) rfl ?_
      obtain rfl := Option.some.inj h
      exact WQ.nil ⟨[_, _, _, _, _], rfl, rfl, rfl⟩
     refine WQ.nil ?_
     refine we_seq ?_
     refine wc_cond rfl (fun hc7 => ?_) (fun hc7 => ?_)
     ·replace h := condT h hc7
      refine wc_sr ?_
      refine WL.as rfl rfl ?_
      refine WL.ns ?_
      refine wc_ret ?_
      refine we_blk_ret ?_
      refine we_seq_ret ?_
      refine we_lp_ret ?_
      refine we_blk_ret ?_
      refine we_lp_ret ?_
      obtain rfl := Option.some.inj h
      exact we_ret_fn (rs1 rfl (rv_t rfl)) (Le.refl _)
     ·replace h := condF h hc7
      refine wc_skip ?_
      refine we_blk ?_
      refine we_seq ?_
      refine wc_region ?_
      refine WL.mv rfl rfl ?_
      refine WL.qn (y_add rfl rfl rfl) rfl ?_
      refine WL.as rfl rfl ?_
      refine WL.nil ?_
      refine WE.drop 0 (env' := [(1, .d (.pc (R26 q0))), (5, .d (D.i .i64 (IntKind.i64.wrap (iq122 + 1))))]) (Sub.one rfl (Sub.one rfl (Sub.nil _))) rfl rfl (Nat.zero_le _) ?_
      exact we_lp ⟨n, ⟨(IntKind.i64.wrap (iq122 + 1)), h, (Sub.cons rfl (Le.refl _) (Sub.cons rfl (Le.refl _) (Sub.nil _))), trivial⟩, Nat.lt_succ_self n⟩
    ·replace h := condF h hc6
     refine wc_exit ?_
     refine we_seq_exit ?_
     refine we_lp_exit ?_
     refine we_blk_hit ?_
     exact we_lp ⟨h, (Sub.cons rfl (Le.refl _) (Sub.nil _)), trivial⟩
   ·rintro env1 st1 ⟨h, hsub, hst⟩
    subst hk120
    dsimp only at h
    refine WC.sub hsub (WC.weak hst ?_)
    replace h := letkS h
    obtain ⟨k128, hk128, h⟩ := h
    refine wc_cut (fun env' st' => k128 () = some r ∧ Sub [] env' ∧ SLe st' []) ?_ ?_
    ·refine wc_sr ?_
     refine WL.as rfl rfl ?_
     refine WL.ns ?_
     refine wc_block ?_
     refine wc_loop (fun n env' st' => ∃ (t130 : Int), f25_l4 q0 k128 n t130 = some r ∧ Sub [(1, .d (.pc (R26 q0))), (7, .d (D.i .i64 t130))] env' ∧ SLe st' []) (fun n => n) 9223372036854775808 ⟨0, h, (Sub.cons rfl (Le.refl _) (Sub.cons rfl (Le.refl _) (Sub.nil _))), trivial⟩ ?_
     rintro n env1 st1 ⟨t130, h, hsub, hst⟩
     cases n with
     | zero => rw [f25_l4] at h; cases h
     | succ n =>
     rw [f25_l4] at h
     refine WC.sub hsub (WC.weak hst ?_)
     refine wc_seq ?_
     refine wc_sr ?_
     refine WL.mv rfl rfl ?_
     refine WL.qn (y_lss rfl rfl) rfl ?_
     refine WL.ns ?_
     refine wc_cond rfl (fun hc8 => ?_) (fun hc8 => ?_)
     ·replace h := condT h hc8
      refine wc_skip ?_
      refine we_seq ?_
      refine wc_seq ?_
      refine wc_block ?_
      refine wc_sr ?_
      refine WL.qn (y_loadcN rfl a26 s26 rfl) rfl ?_
      refine WL.mv rfl rfl ?_
      obtain ⟨r132, hr132, h⟩ := bindS h
      refine WL.fn rfl rfl rfl rfl (f57_c _ _ hr132) ⟨(Le.refl _), (Le.refl _), trivial⟩ (Wt.none rfl) rfl rfl ?_
      refine WL.qn (y_gtr rfl rfl) rfl ?_
      refine WL.mv rfl rfl ?_
      obtain ⟨b133, hb133, h⟩ := bindS h
      apply WL.grp 5 (t := 100) (d := 105) (z := b133)
      ·exact rfl
      ·intro hg100
       have h := condT hb133 hg100
       refine WL.skips 4 rfl ?_
       refine WL.qn (y_pick_t rfl rfl) rfl ?_
       obtain rfl := Option.some.inj h
       exact WL.nil ⟨rfl, [_, _, _, _, _], rfl, rfl, rfl⟩
      ·intro hg100
       have h := condF hb133 hg100
       refine WL.qy (y_loadcN rfl a26 s26 rfl) rfl rfl rfl ?_
       refine WL.qy (y_move rfl) rfl rfl rfl ?_
       obtain ⟨r134, hr134, h⟩ := bindS h
       refine WL.fn rfl rfl rfl rfl (f58_c _ _ hr134) ⟨(Le.refl _), (Le.refl _), trivial⟩ (Wt.yes rfl rfl rfl) rfl rfl ?_
       refine WL.qy (y_gtr rfl rfl) rfl rfl rfl ?_
       refine WL.qn (y_pick_f rfl rfl) rfl ?_
       obtain rfl := Option.some.inj h
       exact WL.nil ⟨rfl, [_, _, _, _, _], rfl, rfl, rfl⟩
      refine WL.ns ?_
      refine wc_cond rfl (fun hc9 => ?_) (fun hc9 => ?_)
      ·replace h := condT h hc9
       refine wc_sr ?_
       refine WL.as rfl rfl ?_
       refine WL.ns ?_
       refine wc_ret ?_
       refine we_blk_ret ?_
       refine we_seq_ret ?_
       refine we_lp_ret ?_
       refine we_blk_ret ?_
       refine we_lp_ret ?_
       obtain rfl := Option.some.inj h
       exact we_ret_fn (rs1 rfl (rv_t rfl)) (Le.refl _)
      ·replace h := condF h hc9
       refine wc_skip ?_
       refine we_blk ?_
       refine we_seq ?_
       refine wc_region ?_
       refine WL.mv rfl rfl ?_
       refine WL.qn (y_add rfl rfl rfl) rfl ?_
       refine WL.as rfl rfl ?_
       refine WL.nil ?_
       exact we_lp ⟨n, ⟨(IntKind.i64.wrap (t130 + 1)), h, (Sub.cons rfl (Le.refl _) (Sub.cons rfl (Le.refl _) (Sub.nil _))), trivial⟩, Nat.lt_succ_self n⟩
     ·replace h := condF h hc8
      refine wc_exit ?_
      refine we_seq_exit ?_
      refine we_lp_exit ?_
      refine we_blk_hit ?_
      exact we_lp ⟨h, (Sub.nil _), trivial⟩
    ·rintro env1 st1 ⟨h, hsub, hst⟩
     subst hk128
     dsimp only at h
     refine WC.sub hsub (WC.weak hst ?_)
     refine wc_sr ?_
     refine WL.as rfl rfl ?_
     refine WL.ns ?_
     refine wc_ret ?_
     obtain rfl := Option.some.inj h
     exact we_ret_fn (rs1 rfl (rv_t rfl)) (Le.refl _)

theorem f73_c (q0 : Queues) (prio1 : Int) (task2 : Int) {r : Int} (h : f73 q0 prio1 task2 = some r) : Pu Try.prog 73 [.ag (R26 q0), .i .i64 prio1, .i .i64 task2] (.i .i64 r) := by
 unfold f73 at h
 refine fn_intro Try.func73 (by kernel_rfl) rfl rfl rfl (fun φφ ww => ?_)
 refine wc_sr ?_
 refine WL.s ((b_boxd rfl rfl (Les.refl _)).does) (Wt.none rfl) rfl rfl ?_
 refine WL.as rfl rfl ?_
 refine WL.ns ?_
 refine wc_seq ?_
 refine wc_sr ?_
 refine WL.qn (y_loadcN rfl a26 s26 rfl) rfl ?_
 obtain ⟨r24, hr24, h⟩ := bindS h
 refine WL.fn rfl rfl rfl rfl (f25_c _ hr24) ⟨(Le.refl _), trivial⟩ (Wt.none rfl) rfl rfl ?_
 refine WL.qn (y_not rfl) rfl ?_
 refine WL.mv rfl rfl ?_
 apply WL.or 4 (t := 10) (d := 14)
 ·exact rfl
 ·intro hg10
  refine WL.qy (y_move rfl) rfl rfl rfl ?_
  refine WL.fn rfl rfl rfl rfl (f56_c _) ⟨(Le.refl _), trivial⟩ (Wt.yes rfl rfl rfl) rfl rfl ?_
  refine WL.qy (y_not rfl) rfl rfl rfl ?_
  refine WL.qn (y_pick_f rfl rfl) rfl ?_
  exact WL.nil ⟨rfl, [_, _, _, _], rfl, rfl, rfl⟩
 ·refine WL.skips 3 rfl ?_
  refine WL.qn (y_pick_t rfl rfl) rfl ?_
  exact WL.nil ⟨rfl, [_, _, _, _], rfl, rfl, rfl⟩
 refine WL.mv rfl rfl ?_
 apply WL.or 4 (t := 15) (d := 19)
 ·exact rfl
 ·intro hg15
  refine WL.qy (y_move rfl) rfl rfl rfl ?_
  refine WL.fn rfl rfl rfl rfl (f56_c _) ⟨(Le.refl _), trivial⟩ (Wt.yes rfl rfl rfl) rfl rfl ?_
  refine WL.qy (y_not rfl) rfl rfl rfl ?_
  refine WL.qn (y_pick_f rfl rfl) rfl ?_
  exact WL.nil ⟨rfl, [_, _, _, _], rfl, rfl, rfl⟩
 ·refine WL.skips 3 rfl ?_
  refine WL.qn (y_pick_t rfl rfl) rfl ?_
  exact WL.nil ⟨rfl, [_, _, _, _], rfl, rfl, rfl⟩
 refine WL.ns ?_
 refine wc_cond rfl (fun hc1 => ?_) (fun hc1 => ?_)
 ·replace h := condT h hc1
  refine wc_sr ?_
  refine WL.as rfl rfl ?_
  refine WL.ns ?_
  refine wc_ret ?_
  refine we_seq_ret ?_
  obtain rfl := Option.some.inj h
  exact we_ret_fn (rs1 rfl (rv_t rfl)) (Le.refl _)
 ·replace h := condF h hc1
  refine wc_skip ?_
  refine we_seq ?_
  refine wc_sr ?_
  refine WL.as rfl rfl ?_
  refine WL.ns ?_
  refine wc_ret ?_
  obtain rfl := Option.some.inj h
  exact we_ret_fn (rs1 rfl (rv_t rfl)) (Le.refl _)

theorem f46_c (q0 : Queues) (prio1 : Int) (task2 : Int) {r : Queues × Int} (h : f46 q0 prio1 task2 = some r) : Pu Try.prog 46 [.ag (R26 q0), .i .i64 prio1, .i .i64 task2] (.tu [.ag (R26 r.1), .i .i64 r.2]) := by
 unfold f46 at h
 refine fn_intro Try.func46 (by kernel_rfl) rfl rfl rfl (fun φφ ww => ?_)
 refine wc_sr ?_
 refine WL.s ((b_box rfl rfl).does) (Wt.none rfl) rfl rfl ?_
 refine WL.s ((b_alloc z26).does) (Wt.none rfl) rfl rfl ?_
 refine WL.as rfl rfl ?_
 refine WL.ns ?_
 refine wc_sr ?_
 refine WL.qn (y_loadN rfl rfl a26 s26 rfl) rfl ?_
 refine WL.mv rfl rfl ?_
 refine WL.mv rfl rfl ?_
 obtain ⟨r42, hr42, h⟩ := bindS h
 refine WL.fn rfl rfl rfl rfl (f73_c _ _ _ hr42) ⟨(Le.agd ⟨(Le.refl _), (Le.refl _), (Le.refl _), (Le.refl _), (Le.refl _), (Le.refl _), (Le.refl _), (Le.refl _), (Le.refl _), (Le.refl _), (Le.refl _), (Le.refl _), (Le.refl _), (Le.refl _), (Le.refl _), (Le.refl _), (Le.refl _), (Le.refl _), (Le.refl _), (Le.refl _), (Le.refl _), (Le.refl _), (Le.refl _), (Le.refl _), (Le.refl _), (Le.refl _), (Le.refl _), (Le.refl _), (Le.refl _), (Le.refl _), (Le.refl _), (Le.refl _), (Le.refl _), (Le.refl _), trivial⟩), (Le.refl _), (Le.refl _), trivial⟩ (Wt.none rfl) rfl rfl ?_
 refine WL.as rfl rfl ?_
 refine WL.ns ?_
 replace h := letkS h
 obtain ⟨k44, hk44, h⟩ := h
 refine wc_cut (fun env' st' => ∃ (e43 : Int), k44 e43 = some r ∧ Sub [(1, .d (D.i .i64 prio1)), (2, .d (D.i .i64 task2)), (3, .pt 0 0), (6, .pt 1 0), (8, .d (D.i .i64 e43))] env' ∧ SLe st' [.row 26 (vecA 32 (fun j => .d (.sl (List.map E3 (q0.ready j)))) ++ ([.d (.sl (List.map E62 q0.delays)), .d (D.i .i64 q0.run)] : List AV)), .row 26 [sN, sN, sN, sN, sN, sN, sN, sN, sN, sN, sN, sN, sN, sN, sN, sN, sN, sN, sN, sN, sN, sN, sN, sN, sN, sN, sN, sN, sN, sN, sN, sN, sN, .d (D.i .i64 0)]]) ?_ ?_
 ·refine wc_sr ?_
  refine WL.mv rfl rfl ?_
  refine WL.qn (y_eql rfl rfl) rfl ?_
  refine WL.mv rfl rfl ?_
  obtain ⟨b45, hb45, h⟩ := bindS h
  apply WL.grp 5 (t := 15) (d := 20) (z := b45)
  ·exact rfl
  ·intro hg15
   have h := condT hb45 hg15
   refine WL.qy (y_loadN rfl rfl a26 s26 rfl) rfl rfl rfl ?_
   refine WL.qy (y_move rfl) rfl rfl rfl ?_
   obtain ⟨r46, hr46, h⟩ := bindS h
   refine WL.fn rfl rfl rfl rfl (f57_c _ _ hr46) ⟨(Le.agd ⟨(Le.refl _), (Le.refl _), (Le.refl _), (Le.refl _), (Le.refl _), (Le.refl _), (Le.refl _), (Le.refl _), (Le.refl _), (Le.refl _), (Le.refl _), (Le.refl _), (Le.refl _), (Le.refl _), (Le.refl _), (Le.refl _), (Le.refl _), (Le.refl _), (Le.refl _), (Le.refl _), (Le.refl _), (Le.refl _), (Le.refl _), (Le.refl _), (Le.refl _), (Le.refl _), (Le.refl _), (Le.refl _), (Le.refl _), (Le.refl _), (Le.refl _), (Le.refl _), (Le.refl _), (Le.refl _), trivial⟩), (Le.refl _), trivial⟩ (Wt.yes rfl rfl rfl) rfl rfl ?_
   refine WL.qy (y_gtr rfl rfl) rfl rfl rfl ?_
   refine WL.qn (y_pick_t rfl rfl) rfl ?_
   obtain rfl := Option.some.inj h
   exact WL.nil ⟨rfl, [_, _, _, _, _], rfl, rfl, rfl⟩
  ·intro hg15
   have h := condF hb45 hg15
   refine WL.skips 4 rfl ?_
   refine WL.qn (y_pick_f rfl rfl) rfl ?_
   obtain rfl := Option.some.inj h
   exact WL.nil ⟨rfl, [_, _, _, _, _], rfl, rfl, rfl⟩
  refine WL.ns ?_
  refine wc_cond rfl (fun hc1 => ?_) (fun hc1 => ?_)
  ·replace h := condT h hc1
   refine wc_region ?_
   refine WL.as rfl rfl ?_
   refine WL.nil ?_
   exact we_lp ⟨7, h, (Sub.cons rfl (Le.refl _) (Sub.cons rfl (Le.refl _) (Sub.cons rfl (Le.refl _) (Sub.cons rfl (Le.refl _) (Sub.cons rfl (Le.refl _) (Sub.nil _)))))), ⟨⟨rfl, Les.refl _⟩, ⟨rfl, Les.refl _⟩, trivial⟩⟩
  ·replace h := condF h hc1
   refine wc_skip ?_
   exact we_lp ⟨r42, h, (Sub.cons rfl (Le.refl _) (Sub.cons rfl (Le.refl _) (Sub.cons rfl (Le.refl _) (Sub.cons rfl (Le.refl _) (Sub.cons rfl (Le.refl _) (Sub.nil _)))))), ⟨⟨rfl, Les.refl _⟩, ⟨rfl, Les.refl _⟩, trivial⟩⟩
 ·rintro env1 st1 ⟨e43, h, hsub, hst⟩
  subst hk44
  dsimp only at h
  refine WC.sub hsub (WC.weak hst ?_)
  refine wc_seq ?_
  refine wc_sr ?_
  refine WL.mv rfl rfl ?_
  refine WL.qn (y_neq rfl rfl) rfl ?_
  refine WL.ns ?_
  refine wc_cond rfl (fun hc2 => ?_) (fun hc2 => ?_)
  ·replace h := condT h hc2
   refine wc_sr ?_
   refine WL.qn (y_build p26 z26 rfl rfl) rfl ?_
   refine WL.mv rfl rfl ?_
   refine WL.s0 (d_store rfl rfl rfl rfl rfl rfl s26 rfl rfl) (Wt.none rfl) rfl ?_
   refine WL.st (st' := [.row 26 (vecA 32 (fun j => .d (.sl (List.map E3 (q0.ready j)))) ++ ([.d (.sl (List.map E62 q0.delays)), .d (D.i .i64 q0.run)] : List AV)), .row 26 [sN, sN, sN, sN, sN, sN, sN, sN, sN, sN, sN, sN, sN, sN, sN, sN, sN, sN, sN, sN, sN, sN, sN, sN, sN, sN, sN, sN, sN, sN, sN, sN, sN, .d (D.i .i64 0)]]) rfl ?_
   refine WL.as rfl rfl ?_
   refine WL.ns ?_
   refine wc_ret ?_
   refine we_seq_ret ?_
   obtain rfl := Option.some.inj h
   exact we_ret_fn (rs2 rfl (rv_cN rfl rfl a26 s26 rfl) (rv_t rfl)) (Le.tud ⟨(Le.agd ⟨Le.nil, Le.nil, Le.nil, Le.nil, Le.nil, Le.nil, Le.nil, Le.nil, Le.nil, Le.nil, Le.nil, Le.nil, Le.nil, Le.nil, Le.nil, Le.nil, Le.nil, Le.nil, Le.nil, Le.nil, Le.nil, Le.nil, Le.nil, Le.nil, Le.nil, Le.nil, Le.nil, Le.nil, Le.nil, Le.nil, Le.nil, Le.nil, Le.nil, (Le.refl _), trivial⟩), (Le.refl _), trivial⟩)
  ·replace h := condF h hc2
   refine wc_skip ?_
   refine we_seq ?_
   refine wc_sr ?_
   refine WL.qn (y_loadN rfl rfl a26 s26 rfl) rfl ?_
   replace h := guardBS h
   obtain ⟨hgg47, h⟩ := h
   replace h := guardBS h
   obtain ⟨hgg48, h⟩ := h
   refine Gh.wl (gh_push_os 3 1) ?_
   refine WL.wina [2] rfl rfl rfl rfl (O.f23g_c q0 (Int.toNat prio1) (vecOk_spec hgg47).2 hgg48) ⟨(Le.agd ⟨(Le.refl _), (Le.refl _), (Le.refl _), (Le.refl _), (Le.refl _), (Le.refl _), (Le.refl _), (Le.refl _), (Le.refl _), (Le.refl _), (Le.refl _), (Le.refl _), (Le.refl _), (Le.refl _), (Le.refl _), (Le.refl _), (Le.refl _), (Le.refl _), (Le.refl _), (Le.refl _), (Le.refl _), (Le.refl _), (Le.refl _), (Le.refl _), (Le.refl _), (Le.refl _), (Le.refl _), (Le.refl _), (Le.refl _), (Le.refl _), (Le.refl _), (Le.refl _), (Le.refl _), (Le.refl _), trivial⟩), trivial⟩ rfl (by decide) rfl ⟨rfl, trivial⟩ rfl rfl (fun _ => (stLt_cons (lt_os _ _ _ _ _ _) rfl)) (fun _ => (cons_eq (ren_os _ _ _ _ _ _) rfl)) (fun _ => O.gRow_lt _ _ _ _ rfl) (fun _ => O.gRow_ren _ _ _ _) (Wt.none rfl) rfl rfl (fun ver49 => ?_)
   refine WL.s0 (d_storeS (rs := vecA 32 (O.gRow q0 (Int.toNat prio1) 2 ver49) ++ O.tl q0) rfl rfl rfl rfl rfl (O.gRow_all q0 (Int.toNat prio1) 2 ver49 (O.os_ok1S rfl)) s26 rfl rfl) (Wt.none rfl) rfl ?_
   refine WL.st (st' := [.row 26 (vecA 32 (O.gRow q0 (Int.toNat prio1) 2 ver49) ++ ([.d (.sl (List.map E62 q0.delays)), .d (D.i .i64 q0.run)] : List AV)), .row 26 [sN, sN, sN, sN, sN, sN, sN, sN, sN, sN, sN, sN, sN, sN, sN, sN, sN, sN, sN, sN, sN, sN, sN, sN, sN, sN, sN, sN, sN, sN, sN, sN, sN, .d (D.i .i64 0)], .os 3 1 ver49 (List.map (encA E3) (q0.ready (Int.toNat prio1)))]) rfl ?_
   refine WL.st (st' := [.row 26 (vecA 32 (O.gRow q0 (Int.toNat prio1) 2 ver49) ++ ([.d (.sl (List.map E62 q0.delays)), .d (D.i .i64 q0.run)] : List AV)), .row 26 [sN, sN, sN, sN, sN, sN, sN, sN, sN, sN, sN, sN, sN, sN, sN, sN, sN, sN, sN, sN, sN, sN, sN, sN, sN, sN, sN, sN, sN, sN, sN, sN, sN, .d (D.i .i64 0)], .os 3 1 ver49 (List.map (encA E3) (q0.ready (Int.toNat prio1)))]) rfl ?_
   refine WL.ns ?_
   refine wc_sr ?_
   refine WL.mv rfl rfl ?_
   refine WL.mv rfl rfl ?_
   refine WL.qn (y_fieldAddr f26_0 rfl) rfl ?_
   replace h := guardBS h
   obtain ⟨hgg50, h⟩ := h
   refine WL.qn (y_indexAddra ar23 rfl rfl (vecOk_0 hgg50) (vecOk_1 hgg50)) rfl ?_
   refine WL.qn ((O.gRow_self q0 (Int.toNat prio1) 2 ver49) ▸ (y_loadV (i := prio1) (n := 32) (off := 0) (O.gRow q0 (Int.toNat prio1) 2 ver49) rfl rfl a22 rfl hgg50)) rfl ?_
   refine WL.mv rfl rfl ?_
   refine WL.s ((NewOs.b (n_buildSlice l22 z3 rfl (by decide) (by decide) rfl rfl rfl (by decide))).does) (Wt.none rfl) rfl rfl ?_
   replace h := guardBS h
   obtain ⟨hgg51, h⟩ := h
   refine WL.s (d_appendL E3 (q0.ready (Int.toNat prio1)) [task2] l22 z3 rfl (by decide) rfl rfl rfl rfl (Src.own rfl) (fun _ => rfl) (fun _ => rfl) hgg51) (Wt.none rfl) rfl rfl ?_
   refine WL.qn (y_fieldAddr f26_0 rfl) rfl ?_
   replace h := guardBS h
   obtain ⟨hgg52, h⟩ := h
   refine WL.qn (y_indexAddra ar23 rfl rfl (vecOk_0 hgg52) (vecOk_1 hgg52)) rfl ?_
   refine WL.freezeX [34] [] 2 (List.map E3 ((q0.ready (Int.toNat prio1)) ++ [task2])) rfl (encA_map E3_eq ((q0.ready (Int.toNat prio1)) ++ [task2])) ⟨rfl, trivial⟩ trivial ?_
   refine WL.s0 (d_storeV (i := prio1) (off := 0) (n := 32) (cs' := (vecA 32 (vset (O.gRow q0 (Int.toNat prio1) 2 ver49) (Int.toNat prio1) (.d (.sl (List.map E3 ((q0.ready (Int.toNat prio1)) ++ [task2]))))) ++ ([.d (.sl (List.map E62 q0.delays)), .d (D.i .i64 q0.run)] : List AV))) (fun x : AV => x) (O.gRow q0 (Int.toNat prio1) 2 ver49) (.d (.sl (List.map E3 ((q0.ready (Int.toNat prio1)) ++ [task2])))) rfl rfl rfl (one_ok rfl) s22 rfl rfl hgg52 rfl) (Wt.none rfl) rfl ?_
   rw [O.gRow_put]
   refine WL.st (st' := [.row 26 (vecA 32 (fun j => .d (.sl (List.map E3 ((vset q0.ready (Int.toNat prio1) ((q0.ready (Int.toNat prio1)) ++ [task2])) j)))) ++ ([.d (.sl (List.map E62 q0.delays)), .d (D.i .i64 q0.run)] : List AV)), .row 26 [sN, sN, sN, sN, sN, sN, sN, sN, sN, sN, sN, sN, sN, sN, sN, sN, sN, sN, sN, sN, sN, sN, sN, sN, sN, sN, sN, sN, sN, sN, sN, sN, sN, .d (D.i .i64 0)], .dead, .os 3 1 0 (List.map (encA E3) [task2])]) rfl ?_
   refine WL.st (st' := [.row 26 (vecA 32 (fun j => .d (.sl (List.map E3 ((vset q0.ready (Int.toNat prio1) ((q0.ready (Int.toNat prio1)) ++ [task2])) j)))) ++ ([.d (.sl (List.map E62 q0.delays)), .d (D.i .i64 q0.run)] : List AV)), .row 26 [sN, sN, sN, sN, sN, sN, sN, sN, sN, sN, sN, sN, sN, sN, sN, sN, sN, sN, sN, sN, sN, sN, sN, sN, sN, sN, sN, sN, sN, sN, sN, sN, sN, .d (D.i .i64 0)], .dead, .os 3 1 0 (List.map (encA E3) [task2])]) rfl ?_
   refine WL.ns ?_
   refine wc_sr ?_
   refine WL.qn (y_loadN rfl rfl a26 s26 rfl) rfl ?_
   refine WL.s0 (d_store rfl rfl rfl rfl rfl rfl s26 rfl rfl) (Wt.none rfl) rfl ?_
   refine WL.st (st' := [.row 26 (vecA 32 (fun j => .d (.sl (List.map E3 ((vset q0.ready (Int.toNat prio1) ((q0.ready (Int.toNat prio1)) ++ [task2])) j)))) ++ ([.d (.sl (List.map E62 q0.delays)), .d (D.i .i64 q0.run)] : List AV)), .row 26 (vecA 32 (fun j => .d (.sl (List.map E3 ((vset q0.ready (Int.toNat prio1) ((q0.ready (Int.toNat prio1)) ++ [task2])) j)))) ++ ([.d (.sl (List.map E62 q0.delays)), .d (D.i .i64 q0.run)] : List AV)), .dead, .os 3 1 0 (List.map (encA E3) [task2])]) rfl ?_
   refine WL.as rfl rfl ?_
   refine WL.ns ?_
   refine wc_ret ?_
   obtain rfl := Option.some.inj h
   exact we_ret_fn (rs2 rfl (rv_cN rfl rfl a26 s26 rfl) (rv_t rfl)) (Le.tud ⟨(Le.agd ⟨(Le.refl _), (Le.refl _), (Le.refl _), (Le.refl _), (Le.refl _), (Le.refl _), (Le.refl _), (Le.refl _), (Le.refl _), (Le.refl _), (Le.refl _), (Le.refl _), (Le.refl _), (Le.refl _), (Le.refl _), (Le.refl _), (Le.refl _), (Le.refl _), (Le.refl _), (Le.refl _), (Le.refl _), (Le.refl _), (Le.refl _), (Le.refl _), (Le.refl _), (Le.refl _), (Le.refl _), (Le.refl _), (Le.refl _), (Le.refl _), (Le.refl _), (Le.refl _), (Le.refl _), (Le.refl _), trivial⟩), (Le.refl _), trivial⟩)

theorem f47_c (q0 : Queues) (prio1 : Int) (task2 : Int) {r : Queues × Int} (h : f47 q0 prio1 task2 = some r) : Pu Try.prog 47 [.ag (R26 q0), .i .i64 prio1, .i .i64 task2] (.tu [.ag (R26 r.1), .i .i64 r.2]) := by
 unfold f47 at h
 refine fn_intro Try.func47 (by kernel_rfl) rfl rfl rfl (fun φφ ww => ?_)
 refine wc_sr ?_
 refine WL.s ((b_box rfl rfl).does) (Wt.none rfl) rfl rfl ?_
 refine WL.s ((b_alloc z26).does) (Wt.none rfl) rfl rfl ?_
 refine WL.as rfl rfl ?_
 refine WL.ns ?_
 refine wc_sr ?_
 refine WL.qn (y_loadN rfl rfl a26 s26 rfl) rfl ?_
 refine WL.mv rfl rfl ?_
 refine WL.mv rfl rfl ?_
 obtain ⟨r42, hr42, h⟩ := bindS h
 refine WL.fn rfl rfl rfl rfl (f73_c _ _ _ hr42) ⟨(Le.agd ⟨(Le.refl _), (Le.refl _), (Le.refl _), (Le.refl _), (Le.refl _), (Le.refl _), (Le.refl _), (Le.refl _), (Le.refl _), (Le.refl _), (Le.refl _), (Le.refl _), (Le.refl _), (Le.refl _), (Le.refl _), (Le.refl _), (Le.refl _), (Le.refl _), (Le.refl _), (Le.refl _), (Le.refl _), (Le.refl _), (Le.refl _), (Le.refl _), (Le.refl _), (Le.refl _), (Le.refl _), (Le.refl _), (Le.refl _), (Le.refl _), (Le.refl _), (Le.refl _), (Le.refl _), (Le.refl _), trivial⟩), (Le.refl _), (Le.refl _), trivial⟩ (Wt.none rfl) rfl rfl ?_
 refine WL.as rfl rfl ?_
 refine WL.ns ?_
 replace h := letkS h
 obtain ⟨k44, hk44, h⟩ := h
 refine wc_cut (fun env' st' => ∃ (e43 : Int), k44 e43 = some r ∧ Sub [(1, .d (D.i .i64 prio1)), (2, .d (D.i .i64 task2)), (3, .pt 0 0), (6, .pt 1 0), (8, .d (D.i .i64 e43))] env' ∧ SLe st' [.row 26 (vecA 32 (fun j => .d (.sl (List.map E3 (q0.ready j)))) ++ ([.d (.sl (List.map E62 q0.delays)), .d (D.i .i64 q0.run)] : List AV)), .row 26 [sN, sN, sN, sN, sN, sN, sN, sN, sN, sN, sN, sN, sN, sN, sN, sN, sN, sN, sN, sN, sN, sN, sN, sN, sN, sN, sN, sN, sN, sN, sN, sN, sN, .d (D.i .i64 0)]]) ?_ ?_
 ·refine wc_sr ?_
  refine WL.mv rfl rfl ?_
  refine WL.qn (y_eql rfl rfl) rfl ?_
  refine WL.mv rfl rfl ?_
  obtain ⟨b45, hb45, h⟩ := bindS h
  apply WL.grp 5 (t := 15) (d := 20) (z := b45)
  ·exact rfl
  ·intro hg15
   have h := condT hb45 hg15
   refine WL.qy (y_loadN rfl rfl a26 s26 rfl) rfl rfl rfl ?_
   refine WL.qy (y_move rfl) rfl rfl rfl ?_
   obtain ⟨r46, hr46, h⟩ := bindS h
   refine WL.fn rfl rfl rfl rfl (f57_c _ _ hr46) ⟨(Le.agd ⟨(Le.refl _), (Le.refl _), (Le.refl _), (Le.refl _), (Le.refl _), (Le.refl _), (Le.refl _), (Le.refl _), (Le.refl _), (Le.refl _), (Le.refl _), (Le.refl _), (Le.refl _), (Le.refl _), (Le.refl _), (Le.refl _), (Le.refl _), (Le.refl _), (Le.refl _), (Le.refl _), (Le.refl _), (Le.refl _), (Le.refl _), (Le.refl _), (Le.refl _), (Le.refl _), (Le.refl _), (Le.refl _), (Le.refl _), (Le.refl _), (Le.refl _), (Le.refl _), (Le.refl _), (Le.refl _), trivial⟩), (Le.refl _), trivial⟩ (Wt.yes rfl rfl rfl) rfl rfl ?_
   refine WL.qy (y_gtr rfl rfl) rfl rfl rfl ?_
   refine WL.qn (y_pick_t rfl rfl) rfl ?_
   obtain rfl := Option.some.inj h
   exact WL.nil ⟨rfl, [_, _, _, _, _], rfl, rfl, rfl⟩
  ·intro hg15
   have h := condF hb45 hg15
   refine WL.skips 4 rfl ?_
   refine WL.qn (y_pick_f rfl rfl) rfl ?_
   obtain rfl := Option.some.inj h
   exact WL.nil ⟨rfl, [_, _, _, _, _], rfl, rfl, rfl⟩
  refine WL.ns ?_
  refine wc_cond rfl (fun hc1 => ?_) (fun hc1 => ?_)
  ·replace h := condT h hc1
   refine wc_region ?_
   refine WL.as rfl rfl ?_
   refine WL.nil ?_
   exact we_lp ⟨7, h, (Sub.cons rfl (Le.refl _) (Sub.cons rfl (Le.refl _) (Sub.cons rfl (Le.refl _) (Sub.cons rfl (Le.refl _) (Sub.cons rfl (Le.refl _) (Sub.nil _)))))), ⟨⟨rfl, Les.refl _⟩, ⟨rfl, Les.refl _⟩, trivial⟩⟩
  ·replace h := condF h hc1
   refine wc_skip ?_
   exact we_lp ⟨r42, h, (Sub.cons rfl (Le.refl _) (Sub.cons rfl (Le.refl _) (Sub.cons rfl (Le.refl _) (Sub.cons rfl (Le.refl _) (Sub.cons rfl (Le.refl _) (Sub.nil _)))))), ⟨⟨rfl, Les.refl _⟩, ⟨rfl, Les.refl _⟩, trivial⟩⟩
 ·rintro env1 st1 ⟨e43, h, hsub, hst⟩
  subst hk44
  dsimp only at h
  refine WC.sub hsub (WC.weak hst ?_)
  refine wc_seq ?_
  refine wc_sr ?_
  refine WL.mv rfl rfl ?_
  refine WL.qn (y_neq rfl rfl) rfl ?_
  refine WL.ns ?_
  refine wc_cond rfl (fun hc2 => ?_) (fun hc2 => ?_)
  ·replace h := condT h hc2
   refine wc_sr ?_
   refine WL.qn (y_build p26 z26 rfl rfl) rfl ?_
   refine WL.mv rfl rfl ?_
   refine WL.s0 (d_store rfl rfl rfl rfl rfl rfl s26 rfl rfl) (Wt.none rfl) rfl ?_
   refine WL.st (st' := [.row 26 (vecA 32 (fun j => .d (.sl (List.map E3 (q0.ready j)))) ++ ([.d (.sl (List.map E62 q0.delays)), .d (D.i .i64 q0.run)] : List AV)), .row 26 [sN, sN, sN, sN, sN, sN, sN, sN, sN, sN, sN, sN, sN, sN, sN, sN, sN, sN, sN, sN, sN, sN, sN, sN, sN, sN, sN, sN, sN, sN, sN, sN, sN, .d (D.i .i64 0)]]) rfl ?_
   refine WL.as rfl rfl ?_
   refine WL.ns ?_
   refine wc_ret ?_
   refine we_seq_ret ?_
   obtain rfl := Option.some.inj h
   exact we_ret_fn (rs2 rfl (rv_cN rfl rfl a26 s26 rfl) (rv_t rfl)) (Le.tud ⟨(Le.agd ⟨Le.nil, Le.nil, Le.nil, Le.nil, Le.nil, Le.nil, Le.nil, Le.nil, Le.nil, Le.nil, Le.nil, Le.nil, Le.nil, Le.nil, Le.nil, Le.nil, Le.nil, Le.nil, Le.nil, Le.nil, Le.nil, Le.nil, Le.nil, Le.nil, Le.nil, Le.nil, Le.nil, Le.nil, Le.nil, Le.nil, Le.nil, Le.nil, Le.nil, (Le.refl _), trivial⟩), (Le.refl _), trivial⟩)
  ·replace h := condF h hc2
   refine wc_skip ?_
   refine we_seq ?_
   refine wc_sr ?_
   refine WL.qn (y_loadN rfl rfl a26 s26 rfl) rfl ?_
   obtain ⟨r47, hr47, h⟩ := bindS h
   refine WL.fn rfl rfl rfl rfl (O.f23_c _ hr47) ⟨(Le.agd ⟨(Le.refl _), (Le.refl _), (Le.refl _), (Le.refl _), (Le.refl _), (Le.refl _), (Le.refl _), (Le.refl _), (Le.refl _), (Le.refl _), (Le.refl _), (Le.refl _), (Le.refl _), (Le.refl _), (Le.refl _), (Le.refl _), (Le.refl _), (Le.refl _), (Le.refl _), (Le.refl _), (Le.refl _), (Le.refl _), (Le.refl _), (Le.refl _), (Le.refl _), (Le.refl _), (Le.refl _), (Le.refl _), (Le.refl _), (Le.refl _), (Le.refl _), (Le.refl _), (Le.refl _), (Le.refl _), trivial⟩), trivial⟩ (Wt.none rfl) rfl rfl ?_
   refine WL.s0 (d_store rfl rfl rfl rfl rfl rfl s26 rfl rfl) (Wt.none rfl) rfl ?_
   refine WL.st (st' := [.row 26 (vecA 32 (fun j => .d (.sl (List.map E3 (r47.ready j)))) ++ ([.d (.sl (List.map E62 r47.delays)), .d (D.i .i64 r47.run)] : List AV)), .row 26 [sN, sN, sN, sN, sN, sN, sN, sN, sN, sN, sN, sN, sN, sN, sN, sN, sN, sN, sN, sN, sN, sN, sN, sN, sN, sN, sN, sN, sN, sN, sN, sN, sN, .d (D.i .i64 0)]]) rfl ?_
   refine WL.ns ?_
   refine wc_sr ?_
   refine WL.mv rfl rfl ?_
   refine WL.mv rfl rfl ?_
   refine WL.s ((NewOs.b (n_buildSlice l22 z3 rfl (by decide) (by decide) rfl rfl rfl (by decide))).does) (Wt.none rfl) rfl rfl ?_
   refine WL.mv rfl rfl ?_
   refine WL.qn (y_fieldAddr f26_0 rfl) rfl ?_
   replace h := guardBS h
   obtain ⟨hgg48, h⟩ := h
   refine WL.qn (y_indexAddra ar23 rfl rfl (vecOk_0 hgg48) (vecOk_1 hgg48)) rfl ?_
   refine WL.qn (y_loadV (off := 0) (n := 32) (fun j => .d (.sl (List.map E3 (r47.ready j)))) rfl rfl a22 rfl hgg48) rfl ?_
   replace h := guardBS h
   obtain ⟨hgg49, h⟩ := h
   refine WL.s (d_appendL E3 [task2] (r47.ready (Int.toNat prio1)) l22 z3 rfl (by decide) rfl rfl rfl rfl (Src.dataL (Le.refl _) E3_eq (fun _ => rfl)) (fun _ => rfl) (fun _ => rfl) hgg49) (Wt.none rfl) rfl rfl ?_
   refine WL.qn (y_fieldAddr f26_0 rfl) rfl ?_
   replace h := guardBS h
   obtain ⟨hgg50, h⟩ := h
   refine WL.qn (y_indexAddra ar23 rfl rfl (vecOk_0 hgg50) (vecOk_1 hgg50)) rfl ?_
   refine WL.freezeX [34] [] 2 (List.map E3 ([task2] ++ (r47.ready (Int.toNat prio1)))) rfl (encA_map E3_eq ([task2] ++ (r47.ready (Int.toNat prio1)))) ⟨rfl, trivial⟩ trivial ?_
   refine WL.s0 (d_storeV (off := 0) (n := 32) (cs' := (vecA 32 (fun j => .d (.sl (List.map E3 ((vset r47.ready (Int.toNat prio1) ([task2] ++ (r47.ready (Int.toNat prio1)))) j)))) ++ ([.d (.sl (List.map E62 r47.delays)), .d (D.i .i64 r47.run)] : List AV))) (fun x => .d (.sl (List.map E3 x))) r47.ready ([task2] ++ (r47.ready (Int.toNat prio1))) rfl rfl rfl (one_ok rfl) s22 rfl rfl hgg50 rfl) (Wt.none rfl) rfl ?_
   refine WL.st (st' := [.row 26 (vecA 32 (fun j => .d (.sl (List.map E3 ((vset r47.ready (Int.toNat prio1) ([task2] ++ (r47.ready (Int.toNat prio1)))) j)))) ++ ([.d (.sl (List.map E62 r47.delays)), .d (D.i .i64 r47.run)] : List AV)), .row 26 [sN, sN, sN, sN, sN, sN, sN, sN, sN, sN, sN, sN, sN, sN, sN, sN, sN, sN, sN, sN, sN, sN, sN, sN, sN, sN, sN, sN, sN, sN, sN, sN, sN, .d (D.i .i64 0)], .dead]) rfl ?_
   refine WL.ns ?_
   refine wc_sr ?_
   refine WL.qn (y_loadN rfl rfl a26 s26 rfl) rfl ?_
   refine WL.s0 (d_store rfl rfl rfl rfl rfl rfl s26 rfl rfl) (Wt.none rfl) rfl ?_
   refine WL.st (st' := [.row 26 (vecA 32 (fun j => .d (.sl (List.map E3 ((vset r47.ready (Int.toNat prio1) ([task2] ++ (r47.ready (Int.toNat prio1)))) j)))) ++ ([.d (.sl (List.map E62 r47.delays)), .d (D.i .i64 r47.run)] : List AV)), .row 26 (vecA 32 (fun j => .d (.sl (List.map E3 ((vset r47.ready (Int.toNat prio1) ([task2] ++ (r47.ready (Int.toNat prio1)))) j)))) ++ ([.d (.sl (List.map E62 r47.delays)), .d (D.i .i64 r47.run)] : List AV)), .dead]) rfl ?_
   refine WL.as rfl rfl ?_
   refine WL.ns ?_
   refine wc_ret ?_
   obtain rfl := Option.some.inj h
   exact we_ret_fn (rs2 rfl (rv_cN rfl rfl a26 s26 rfl) (rv_t rfl)) (Le.tud ⟨(Le.agd ⟨(Le.refl _), (Le.refl _), (Le.refl _), (Le.refl _), (Le.refl _), (Le.refl _), (Le.refl _), (Le.refl _), (Le.refl _), (Le.refl _), (Le.refl _), (Le.refl _), (Le.refl _), (Le.refl _), (Le.refl _), (Le.refl _), (Le.refl _), (Le.refl _), (Le.refl _), (Le.refl _), (Le.refl _), (Le.refl _), (Le.refl _), (Le.refl _), (Le.refl _), (Le.refl _), (Le.refl _), (Le.refl _), (Le.refl _), (Le.refl _), (Le.refl _), (Le.refl _), (Le.refl _), (Le.refl _), trivial⟩), (Le.refl _), trivial⟩)

theorem f74_c (l0 : List Int) (task1 : Int) {r : List Int} (h : f74 l0 task1 = some r) : Pu Try.prog 74 [.sl (List.map E3 l0), .i .i64 task1] (.sl (List.map E3 r)) := by
 unfold f74 at h
 refine fn_intro Try.func74 (by kernel_rfl) rfl rfl rfl (fun φφ ww => ?_)
 refine wc_sr ?_
 refine WL.as rfl rfl ?_
 refine WL.ns ?_
 refine wc_sr ?_
 refine WL.as rfl rfl ?_
 refine WL.nil_os 5 3 1 rfl ?_
 refine WL.ns ?_
 replace h := letkS h
 obtain ⟨k32, hk32, h⟩ := h
 refine wc_cut (fun env' st' => ∃ (l30 : List Int), ∃ (ver31 : Nat), k32 l30 = some r ∧ Sub [(5, .os 0 ver31)] env' ∧ SLe st' [.os 3 1 ver31 (List.map (encA E3) l30)]) ?_ ?_
 ·refine wc_sr ?_
  refine WL.as rfl rfl ?_
  refine WL.ns ?_
  refine wc_block ?_
  refine wc_loop (fun n env' st' => ∃ (iq36 : Int), ∃ (l37 : List Int), ∃ (ver38 : Nat), f74_l1 l0 task1 k32 n iq36 l37 = some r ∧ Sub [(0, .d (.sl (List.map E3 l0))), (1, .d (D.i .i64 task1)), (5, .os 0 ver38), (6, .d (D.i .i64 iq36))] env' ∧ SLe st' [.os 3 1 ver38 (List.map (encA E3) l37)]) (fun n => n) 9223372036854775808 ⟨0, [], _, h, (Sub.cons rfl (Le.refl _) (Sub.cons rfl (Le.refl _) (Sub.cons rfl (Le.refl _) (Sub.cons rfl (Le.refl _) (Sub.nil _))))), ⟨⟨rfl, rfl, rfl, rfl⟩, trivial⟩⟩ ?_
  rintro n env1 st1 ⟨iq36, l37, ver38, h, hsub, hst⟩
  cases n with
  | zero => rw [f74_l1] at h; cases h
  | succ n =>
  rw [f74_l1] at h
  refine WC.sub hsub (WC.weak hst ?_)
  refine wc_seq ?_
  refine wc_sr ?_
  refine WL.mv rfl rfl ?_
  refine WL.mv rfl rfl ?_
  refine WL.qn (y_len_map E3 l0 e22 rfl rfl (Le.refl _)) rfl ?_
  refine WL.qn (y_lss rfl rfl) rfl ?_
  refine WL.ns ?_
  refine wc_cond rfl (fun hc1 => ?_) (fun hc1 => ?_)
  ·replace h := condT h hc1
   refine wc_skip ?_
   refine we_seq ?_
   replace h := letkS h
   obtain ⟨k44, hk44, h⟩ := h
   refine wc_cut (fun env' st' => ∃ (l42 : List Int), ∃ (ver43 : Nat), k44 l42 = some r ∧ Sub [(0, .d (.sl (List.map E3 l0))), (1, .d (D.i .i64 task1)), (5, .os 0 ver43), (6, .d (D.i .i64 iq36))] env' ∧ SLe st' [.os 3 1 ver43 (List.map (encA E3) l42)]) ?_ ?_
   ·refine wc_block ?_
    refine wc_sr ?_
    refine WL.mv rfl rfl ?_
    refine WL.mv rfl rfl ?_
    obtain ⟨x45, hx45, h⟩ := bindS h
    refine WL.qn (y_indexAddr e22 rfl (Le.refl _) rfl (idx_nonneg hx45) (idx_row E3_eq hx45) rfl) rfl ?_
    refine WL.qn (y_loadc rfl a3 rfl) rfl ?_
    refine WL.mv rfl rfl ?_
    refine WL.qn (y_neq rfl rfl) rfl ?_
    refine WL.ns ?_
    refine wc_cond rfl (fun hc2 => ?_) (fun hc2 => ?_)
    ·replace h := condT h hc2
     refine wc_region ?_
     refine WL.mv rfl rfl ?_
     refine WL.mv rfl rfl ?_
     refine WL.mv rfl rfl ?_
     obtain ⟨x46, hx46, h⟩ := bindS h
     refine WL.qn (y_indexAddr e22 rfl (Le.refl _) rfl (idx_nonneg hx46) (idx_row E3_eq hx46) rfl) rfl ?_
     refine WL.qn (y_loadc rfl a3 rfl) rfl ?_
     refine WL.s ((NewOs.b (n_buildSlice l22 z3 rfl (by decide) (by decide) rfl rfl rfl (by decide))).does) (Wt.none rfl) rfl rfl ?_
     replace h := guardBS h
     obtain ⟨hgg47, h⟩ := h
     refine WL.s (d_appendL E3 l37 [x46] l22 z3 rfl (by decide) rfl rfl rfl rfl (Src.own rfl) (fun _ => rfl) (fun _ => rfl) hgg47) (Wt.none rfl) rfl rfl ?_
     refine WL.as rfl rfl ?_
     refine WL.nil ?_
     refine we_blk ?_
     refine WE.drop 1 (env' := [(0, .d (.sl (List.map E3 l0))), (1, .d (D.i .i64 task1)), (5, .os 0 (ver38 + 1)), (6, .d (D.i .i64 iq36))]) (Sub.one rfl (Sub.one rfl (Sub.one rfl (Sub.one rfl (Sub.nil _))))) rfl (stLt_cons (lt_os _ _ _ _ _ _) rfl) (Nat.zero_le _) ?_
     exact we_lp ⟨(l37 ++ [x46]), _, h, (Sub.cons rfl (Le.refl _) (Sub.cons rfl (Le.refl _) (Sub.cons rfl (Le.refl _) (Sub.cons rfl (Le.refl _) (Sub.nil _))))), ⟨⟨rfl, rfl, rfl, rfl⟩, trivial⟩⟩
    ·replace h := condF h hc2
     refine wc_skip ?_
     refine we_blk ?_
     exact we_lp ⟨l37, _, h, (Sub.cons rfl (Le.refl _) (Sub.cons rfl (Le.refl _) (Sub.cons rfl (Le.refl _) (Sub.cons rfl (Le.refl _) (Sub.nil _))))), ⟨⟨rfl, rfl, rfl, rfl⟩, trivial⟩⟩
   ·rintro env1 st1 ⟨l42, ver43, h, hsub, hst⟩
    subst hk44
    dsimp only at h
    refine WC.sub hsub (WC.weak hst ?_)
    refine wc_region ?_
    refine WL.mv rfl rfl ?_
    refine WL.qn (y_add rfl rfl rfl) rfl ?_
    refine WL.as rfl rfl ?_
    refine WL.nil ?_
    exact we_lp ⟨n, ⟨(IntKind.i64.wrap (iq36 + 1)), l42, _, h, (Sub.cons rfl (Le.refl _) (Sub.cons rfl (Le.refl _) (Sub.cons rfl (Le.refl _) (Sub.cons rfl (Le.refl _) (Sub.nil _))))), ⟨⟨rfl, rfl, rfl, rfl⟩, trivial⟩⟩, Nat.lt_succ_self n⟩
  ·replace h := condF h hc1
   refine wc_exit ?_
   refine we_seq_exit ?_
   refine we_lp_exit ?_
   refine we_blk_hit ?_
   exact we_lp ⟨l37, _, h, (Sub.cons rfl (Le.refl _) (Sub.nil _)), ⟨⟨rfl, rfl, rfl, rfl⟩, trivial⟩⟩
 ·rintro env1 st1 ⟨l30, ver31, h, hsub, hst⟩
  subst hk32
  dsimp only at h
  refine WC.sub hsub (WC.weak hst ?_)
  refine wc_sr ?_
  refine WL.mv rfl rfl ?_
  refine WL.as rfl rfl ?_
  refine WL.ns ?_
  refine wc_ret ?_
  refine WE.freezeX [5, 26, 4] [] 0 (List.map E3 l30) rfl (encA_map E3_eq l30) ⟨rfl, rfl, rfl, trivial⟩ trivial ?_
  obtain rfl := Option.some.inj h
  exact we_ret_fn (rs1 rfl (rv_t rfl)) (Le.refl _)

theorem f48_c (q0 : Queues) (task1 : Int) {r : Queues × Int} (h : f48 q0 task1 = some r) : Pu Try.prog 48 [.ag (R26 q0), .i .i64 task1] (.tu [.ag (R26 r.1), .i .i64 r.2]) := by
 unfold f48 at h
 refine fn_intro Try.func48 (by kernel_rfl) rfl rfl rfl (fun φφ ww => ?_)
 refine wc_sr ?_
 refine WL.s ((b_box rfl rfl).does) (Wt.none rfl) rfl rfl ?_
 refine WL.s ((b_alloc z26).does) (Wt.none rfl) rfl rfl ?_
 refine WL.as rfl rfl ?_
 refine WL.ns ?_
 refine wc_sr ?_
 refine WL.qn (y_loadN rfl rfl a26 s26 rfl) rfl ?_
 refine WL.mv rfl rfl ?_
 obtain ⟨r47, hr47, h⟩ := bindS h
 refine WL.fn rfl rfl rfl rfl (f73_c _ _ _ hr47) ⟨(Le.agd ⟨(Le.refl _), (Le.refl _), (Le.refl _), (Le.refl _), (Le.refl _), (Le.refl _), (Le.refl _), (Le.refl _), (Le.refl _), (Le.refl _), (Le.refl _), (Le.refl _), (Le.refl _), (Le.refl _), (Le.refl _), (Le.refl _), (Le.refl _), (Le.refl _), (Le.refl _), (Le.refl _), (Le.refl _), (Le.refl _), (Le.refl _), (Le.refl _), (Le.refl _), (Le.refl _), (Le.refl _), (Le.refl _), (Le.refl _), (Le.refl _), (Le.refl _), (Le.refl _), (Le.refl _), (Le.refl _), trivial⟩), (Le.refl _), (Le.refl _), trivial⟩ (Wt.none rfl) rfl rfl ?_
 refine WL.as rfl rfl ?_
 refine WL.ns ?_
 replace h := letkS h
 obtain ⟨k49, hk49, h⟩ := h
 refine wc_cut (fun env' st' => ∃ (e48 : Int), k49 e48 = some r ∧ Sub [(1, .d (D.i .i64 task1)), (2, .pt 0 0), (4, .pt 1 0), (6, .d (D.i .i64 e48))] env' ∧ SLe st' [.row 26 (vecA 32 (fun j => .d (.sl (List.map E3 (q0.ready j)))) ++ ([.d (.sl (List.map E62 q0.delays)), .d (D.i .i64 q0.run)] : List AV)), .row 26 [sN, sN, sN, sN, sN, sN, sN, sN, sN, sN, sN, sN, sN, sN, sN, sN, sN, sN, sN, sN, sN, sN, sN, sN, sN, sN, sN, sN, sN, sN, sN, sN, sN, .d (D.i .i64 0)]]) ?_ ?_
 ·refine wc_sr ?_
  refine WL.mv rfl rfl ?_
  refine WL.qn (y_eql rfl rfl) rfl ?_
  refine WL.mv rfl rfl ?_
  obtain ⟨b50, hb50, h⟩ := bindS h
  apply WL.grp 5 (t := 13) (d := 18) (z := b50)
  ·exact rfl
  ·intro hg13
   have h := condT hb50 hg13
   refine WL.qy (y_loadN rfl rfl a26 s26 rfl) rfl rfl rfl ?_
   refine WL.qy (y_move rfl) rfl rfl rfl ?_
   obtain ⟨r51, hr51, h⟩ := bindS h
   refine WL.fn rfl rfl rfl rfl (f57_c _ _ hr51) ⟨(Le.agd ⟨(Le.refl _), (Le.refl _), (Le.refl _), (Le.refl _), (Le.refl _), (Le.refl _), (Le.refl _), (Le.refl _), (Le.refl _), (Le.refl _), (Le.refl _), (Le.refl _), (Le.refl _), (Le.refl _), (Le.refl _), (Le.refl _), (Le.refl _), (Le.refl _), (Le.refl _), (Le.refl _), (Le.refl _), (Le.refl _), (Le.refl _), (Le.refl _), (Le.refl _), (Le.refl _), (Le.refl _), (Le.refl _), (Le.refl _), (Le.refl _), (Le.refl _), (Le.refl _), (Le.refl _), (Le.refl _), trivial⟩), (Le.refl _), trivial⟩ (Wt.yes rfl rfl rfl) rfl rfl ?_
   refine WL.qy (y_eql rfl rfl) rfl rfl rfl ?_
   refine WL.qn (y_pick_t rfl rfl) rfl ?_
   obtain rfl := Option.some.inj h
   exact WL.nil ⟨rfl, [_, _, _, _, _], rfl, rfl, rfl⟩
  ·intro hg13
   have h := condF hb50 hg13
   refine WL.skips 4 rfl ?_
   refine WL.qn (y_pick_f rfl rfl) rfl ?_
   obtain rfl := Option.some.inj h
   exact WL.nil ⟨rfl, [_, _, _, _, _], rfl, rfl, rfl⟩
  refine WL.ns ?_
  refine wc_cond rfl (fun hc1 => ?_) (fun hc1 => ?_)
  ·replace h := condT h hc1
   refine wc_region ?_
   refine WL.as rfl rfl ?_
   refine WL.nil ?_
   exact we_lp ⟨6, h, (Sub.cons rfl (Le.refl _) (Sub.cons rfl (Le.refl _) (Sub.cons rfl (Le.refl _) (Sub.cons rfl (Le.refl _) (Sub.nil _))))), ⟨⟨rfl, Les.refl _⟩, ⟨rfl, Les.refl _⟩, trivial⟩⟩
  ·replace h := condF h hc1
   refine wc_skip ?_
   exact we_lp ⟨r47, h, (Sub.cons rfl (Le.refl _) (Sub.cons rfl (Le.refl _) (Sub.cons rfl (Le.refl _) (Sub.cons rfl (Le.refl _) (Sub.nil _))))), ⟨⟨rfl, Les.refl _⟩, ⟨rfl, Les.refl _⟩, trivial⟩⟩
 ·rintro env1 st1 ⟨e48, h, hsub, hst⟩
  subst hk49
  dsimp only at h
  refine WC.sub hsub (WC.weak hst ?_)
  refine wc_seq ?_
  refine wc_sr ?_
  refine WL.mv rfl rfl ?_
  refine WL.qn (y_neq rfl rfl) rfl ?_
  refine WL.ns ?_
  refine wc_cond rfl (fun hc2 => ?_) (fun hc2 => ?_)
  ·replace h := condT h hc2
   refine wc_sr ?_
   refine WL.qn (y_build p26 z26 rfl rfl) rfl ?_
   refine WL.mv rfl rfl ?_
   refine WL.s0 (d_store rfl rfl rfl rfl rfl rfl s26 rfl rfl) (Wt.none rfl) rfl ?_
   refine WL.st (st' := [.row 26 (vecA 32 (fun j => .d (.sl (List.map E3 (q0.ready j)))) ++ ([.d (.sl (List.map E62 q0.delays)), .d (D.i .i64 q0.run)] : List AV)), .row 26 [sN, sN, sN, sN, sN, sN, sN, sN, sN, sN, sN, sN, sN, sN, sN, sN, sN, sN, sN, sN, sN, sN, sN, sN, sN, sN, sN, sN, sN, sN, sN, sN, sN, .d (D.i .i64 0)]]) rfl ?_
   refine WL.as rfl rfl ?_
   refine WL.ns ?_
   refine wc_ret ?_
   refine we_seq_ret ?_
   obtain rfl := Option.some.inj h
   exact we_ret_fn (rs2 rfl (rv_cN rfl rfl a26 s26 rfl) (rv_t rfl)) (Le.tud ⟨(Le.agd ⟨Le.nil, Le.nil, Le.nil, Le.nil, Le.nil, Le.nil, Le.nil, Le.nil, Le.nil, Le.nil, Le.nil, Le.nil, Le.nil, Le.nil, Le.nil, Le.nil, Le.nil, Le.nil, Le.nil, Le.nil, Le.nil, Le.nil, Le.nil, Le.nil, Le.nil, Le.nil, Le.nil, Le.nil, Le.nil, Le.nil, Le.nil, Le.nil, Le.nil, (Le.refl _), trivial⟩), (Le.refl _), trivial⟩)
  ·replace h := condF h hc2
   refine wc_skip ?_
   refine we_seq ?_
   refine wc_sr ?_
   refine WL.qn (y_loadN rfl rfl a26 s26 rfl) rfl ?_
   obtain ⟨r52, hr52, h⟩ := bindS h
   refine WL.fn rfl rfl rfl rfl (O.f23_c _ hr52) ⟨(Le.agd ⟨(Le.refl _), (Le.refl _), (Le.refl _), (Le.refl _), (Le.refl _), (Le.refl _), (Le.refl _), (Le.refl _), (Le.refl _), (Le.refl _), (Le.refl _), (Le.refl _), (Le.refl _), (Le.refl _), (Le.refl _), (Le.refl _), (Le.refl _), (Le.refl _), (Le.refl _), (Le.refl _), (Le.refl _), (Le.refl _), (Le.refl _), (Le.refl _), (Le.refl _), (Le.refl _), (Le.refl _), (Le.refl _), (Le.refl _), (Le.refl _), (Le.refl _), (Le.refl _), (Le.refl _), (Le.refl _), trivial⟩), trivial⟩ (Wt.none rfl) rfl rfl ?_
   refine WL.s0 (d_store rfl rfl rfl rfl rfl rfl s26 rfl rfl) (Wt.none rfl) rfl ?_
   refine WL.st (st' := [.row 26 (vecA 32 (fun j => .d (.sl (List.map E3 (r52.ready j)))) ++ ([.d (.sl (List.map E62 r52.delays)), .d (D.i .i64 r52.run)] : List AV)), .row 26 [sN, sN, sN, sN, sN, sN, sN, sN, sN, sN, sN, sN, sN, sN, sN, sN, sN, sN, sN, sN, sN, sN, sN, sN, sN, sN, sN, sN, sN, sN, sN, sN, sN, .d (D.i .i64 0)]]) rfl ?_
   refine WL.ns ?_
   replace h := letkS h
   obtain ⟨k54, hk54, h⟩ := h
   refine wc_cut (fun env' st' => ∃ (c03353 : Int), k54 c03353 = some r ∧ Sub [(1, .d (D.i .i64 task1)), (2, .pt 0 0), (4, .pt 1 0)] env' ∧ SLe st' [.row 26 (vecA 32 (fun j => .d (.sl (List.map E3 (r52.ready j)))) ++ ([.d (.sl (List.map E62 r52.delays)), .d (D.i .i64 c03353)] : List AV)), .row 26 [sN, sN, sN, sN, sN, sN, sN, sN, sN, sN, sN, sN, sN, sN, sN, sN, sN, sN, sN, sN, sN, sN, sN, sN, sN, sN, sN, sN, sN, sN, sN, sN, sN, .d (D.i .i64 0)]]) ?_ ?_
   ·refine wc_sr ?_
    refine WL.qn (y_fieldAddr f26_2 rfl) rfl ?_
    refine WL.qn (y_load rfl rfl a3 rfl) rfl ?_
    refine WL.mv rfl rfl ?_
    refine WL.qn (y_eql rfl rfl) rfl ?_
    refine WL.ns ?_
    refine wc_cond rfl (fun hc3 => ?_) (fun hc3 => ?_)
    ·replace h := condT h hc3
     refine wc_region ?_
     refine WL.qn (y_fieldAddr f26_2 rfl) rfl ?_
     refine WL.s0 (d_store rfl rfl rfl rfl rfl rfl s3 rfl rfl) (Wt.none rfl) rfl ?_
     refine WL.st (st' := [.row 26 (vecA 32 (fun j => .d (.sl (List.map E3 (r52.ready j)))) ++ ([.d (.sl (List.map E62 r52.delays)), .d (D.i .i64 (-1))] : List AV)), .row 26 [sN, sN, sN, sN, sN, sN, sN, sN, sN, sN, sN, sN, sN, sN, sN, sN, sN, sN, sN, sN, sN, sN, sN, sN, sN, sN, sN, sN, sN, sN, sN, sN, sN, .d (D.i .i64 0)]]) rfl ?_
     refine WL.nil ?_
     exact we_lp ⟨(-1), h, (Sub.cons rfl (Le.refl _) (Sub.cons rfl (Le.refl _) (Sub.cons rfl (Le.refl _) (Sub.nil _)))), ⟨⟨rfl, Les.refl _⟩, ⟨rfl, Les.refl _⟩, trivial⟩⟩
    ·replace h := condF h hc3
     refine wc_skip ?_
     exact we_lp ⟨r52.run, h, (Sub.cons rfl (Le.refl _) (Sub.cons rfl (Le.refl _) (Sub.cons rfl (Le.refl _) (Sub.nil _)))), ⟨⟨rfl, Les.refl _⟩, ⟨rfl, Les.refl _⟩, trivial⟩⟩
   ·rintro env1 st1 ⟨c03353, h, hsub, hst⟩
    subst hk54
    dsimp only at h
    refine WC.sub hsub (WC.weak hst ?_)
    replace h := letkS h
    obtain ⟨k56, hk56, h⟩ := h
    refine wc_cut (fun env' st' => ∃ (c0055 : Nat → (List Int)), k56 c0055 = some r ∧ Sub [(2, .pt 0 0), (4, .pt 1 0)] env' ∧ SLe st' [.row 26 (vecA 32 (fun j => .d (.sl (List.map E3 (c0055 j)))) ++ ([.d (.sl (List.map E62 r52.delays)), .d (D.i .i64 c03353)] : List AV)), .row 26 [sN, sN, sN, sN, sN, sN, sN, sN, sN, sN, sN, sN, sN, sN, sN, sN, sN, sN, sN, sN, sN, sN, sN, sN, sN, sN, sN, sN, sN, sN, sN, sN, sN, .d (D.i .i64 0)]]) ?_ ?_
    ·refine wc_sr ?_
     refine WL.as rfl rfl ?_
     refine WL.ns ?_
     refine wc_block ?_
     refine wc_loop (fun n env' st' => ∃ (p59 : Int), ∃ (c0060 : Nat → (List Int)), f48_l1 task1 k56 n p59 c0060 = some r ∧ Sub [(1, .d (D.i .i64 task1)), (2, .pt 0 0), (4, .pt 1 0), (7, .d (D.i .i64 p59))] env' ∧ SLe st' [.row 26 (vecA 32 (fun j => .d (.sl (List.map E3 (c0060 j)))) ++ ([.d (.sl (List.map E62 r52.delays)), .d (D.i .i64 c03353)] : List AV)), .row 26 [sN, sN, sN, sN, sN, sN, sN, sN, sN, sN, sN, sN, sN, sN, sN, sN, sN, sN, sN, sN, sN, sN, sN, sN, sN, sN, sN, sN, sN, sN, sN, sN, sN, .d (D.i .i64 0)]]) (fun n => n) 9223372036854775808 ⟨0, r52.ready, h, (Sub.cons rfl (Le.refl _) (Sub.cons rfl (Le.refl _) (Sub.cons rfl (Le.refl _) (Sub.cons rfl (Le.refl _) (Sub.nil _))))), ⟨⟨rfl, Les.refl _⟩, ⟨rfl, Les.refl _⟩, trivial⟩⟩ ?_
     rintro n env1 st1 ⟨p59, c0060, h, hsub, hst⟩
     cases n with
     | zero => rw [f48_l1] at h; cases h
     | succ n =>
     rw [f48_l1] at h
     refine WC.sub hsub (WC.weak hst ?_)
     refine wc_seq ?_
     refine wc_sr ?_
     refine WL.mv rfl rfl ?_
     refine WL.qn (y_lss rfl rfl) rfl ?_
     refine WL.ns ?_
     refine wc_cond rfl (fun hc4 => ?_) (fun hc4 => ?_)
     ·replace h := condT h hc4
      refine wc_skip ?_
      refine we_seq ?_
      refine wc_seq ?_
      refine wc_block ?_
      refine wc_region ?_
      refine WL.mv rfl rfl ?_
      refine WL.mv rfl rfl ?_
      refine WL.qn (y_fieldAddr f26_0 rfl) rfl ?_
      replace h := guardBS h
      obtain ⟨hgg63, h⟩ := h
      refine WL.qn (y_indexAddra ar23 rfl rfl (vecOk_0 hgg63) (vecOk_1 hgg63)) rfl ?_
      refine WL.qn (y_loadV (off := 0) (n := 32) (fun j => .d (.sl (List.map E3 (c0060 j)))) rfl rfl a22 rfl hgg63) rfl ?_
      refine WL.mv rfl rfl ?_
      obtain ⟨r64, hr64, h⟩ := bindS h
      refine WL.fn rfl rfl rfl rfl (f74_c _ _ hr64) ⟨(Le.refl _), (Le.refl _), trivial⟩ (Wt.none rfl) rfl rfl ?_
      refine WL.qn (y_fieldAddr f26_0 rfl) rfl ?_
      replace h := guardBS h
      obtain ⟨hgg65, h⟩ := h
      refine WL.qn (y_indexAddra ar23 rfl rfl (vecOk_0 hgg65) (vecOk_1 hgg65)) rfl ?_
      refine WL.s0 (d_storeV (off := 0) (n := 32) (cs' := (vecA 32 (fun j => .d (.sl (List.map E3 ((vset c0060 (Int.toNat p59) r64) j)))) ++ ([.d (.sl (List.map E62 r52.delays)), .d (D.i .i64 c03353)] : List AV))) (fun x => .d (.sl (List.map E3 x))) c0060 r64 rfl rfl rfl (one_ok rfl) s22 rfl rfl hgg65 rfl) (Wt.none rfl) rfl ?_
      refine WL.st (st' := [.row 26 (vecA 32 (fun j => .d (.sl (List.map E3 ((vset c0060 (Int.toNat p59) r64) j)))) ++ ([.d (.sl (List.map E62 r52.delays)), .d (D.i .i64 c03353)] : List AV)), .row 26 [sN, sN, sN, sN, sN, sN, sN, sN, sN, sN, sN, sN, sN, sN, sN, sN, sN, sN, sN, sN, sN, sN, sN, sN, sN, sN, sN, sN, sN, sN, sN, sN, sN, .d (D.i .i64 0)]]) rfl ?_
      refine WL.nil ?_
      refine we_blk ?_
      refine we_seq ?_
      refine wc_region ?_
      refine WL.mv rfl rfl ?_
      refine WL.qn (y_add rfl rfl rfl) rfl ?_
      refine WL.as rfl rfl ?_
      refine WL.nil ?_
      exact we_lp ⟨n, ⟨(IntKind.i64.wrap (p59 + 1)), (vset c0060 (Int.toNat p59) r64), h, (Sub.cons rfl (Le.refl _) (Sub.cons rfl (Le.refl _) (Sub.cons rfl (Le.refl _) (Sub.cons rfl (Le.refl _) (Sub.nil _))))), ⟨⟨rfl, Les.refl _⟩, ⟨rfl, Les.refl _⟩, trivial⟩⟩, Nat.lt_succ_self n⟩
     ·replace h := condF h hc4
      refine wc_exit ?_
      refine we_seq_exit ?_
      refine we_lp_exit ?_
      refine we_blk_hit ?_
      exact we_lp ⟨c0060, h, (Sub.cons rfl (Le.refl _) (Sub.cons rfl (Le.refl _) (Sub.nil _))), ⟨⟨rfl, Les.refl _⟩, ⟨rfl, Les.refl _⟩, trivial⟩⟩
    ·rintro env1 st1 ⟨c0055, h, hsub, hst⟩
     subst hk56
     dsimp only at h
     refine WC.sub hsub (WC.weak hst ?_)
     refine wc_sr ?_
     refine WL.qn (y_loadN rfl rfl a26 s26 rfl) rfl ?_
     refine WL.s0 (d_store rfl rfl rfl rfl rfl rfl s26 rfl rfl) (Wt.none rfl) rfl ?_
     refine WL.st (st' := [.row 26 (vecA 32 (fun j => .d (.sl (List.map E3 (c0055 j)))) ++ ([.d (.sl (List.map E62 r52.delays)), .d (D.i .i64 c03353)] : List AV)), .row 26 (vecA 32 (fun j => .d (.sl (List.map E3 (c0055 j)))) ++ ([.d (.sl (List.map E62 r52.delays)), .d (D.i .i64 c03353)] : List AV))]) rfl ?_
     refine WL.as rfl rfl ?_
     refine WL.ns ?_
     refine wc_ret ?_
     obtain rfl := Option.some.inj h
     exact we_ret_fn (rs2 rfl (rv_cN rfl rfl a26 s26 rfl) (rv_t rfl)) (Le.tud ⟨(Le.agd ⟨(Le.refl _), (Le.refl _), (Le.refl _), (Le.refl _), (Le.refl _), (Le.refl _), (Le.refl _), (Le.refl _), (Le.refl _), (Le.refl _), (Le.refl _), (Le.refl _), (Le.refl _), (Le.refl _), (Le.refl _), (Le.refl _), (Le.refl _), (Le.refl _), (Le.refl _), (Le.refl _), (Le.refl _), (Le.refl _), (Le.refl _), (Le.refl _), (Le.refl _), (Le.refl _), (Le.refl _), (Le.refl _), (Le.refl _), (Le.refl _), (Le.refl _), (Le.refl _), (Le.refl _), (Le.refl _), trivial⟩), (Le.refl _), trivial⟩)

theorem f49_c (q0 : Queues) (prio1 : Int) (task2 : Int) {r : Queues × Int} (h : f49 q0 prio1 task2 = some r) : Pu Try.prog 49 [.ag (R26 q0), .i .i64 prio1, .i .i64 task2] (.tu [.ag (R26 r.1), .i .i64 r.2]) := by
 unfold f49 at h
 refine fn_intro Try.func49 (by kernel_rfl) rfl rfl rfl (fun φφ ww => ?_)
 refine wc_sr ?_
 refine WL.s ((b_box rfl rfl).does) (Wt.none rfl) rfl rfl ?_
 refine WL.s ((b_alloc z26).does) (Wt.none rfl) rfl rfl ?_
 refine WL.as rfl rfl ?_
 refine WL.ns ?_
 refine wc_sr ?_
 refine WL.qn (y_loadN rfl rfl a26 s26 rfl) rfl ?_
 refine WL.mv rfl rfl ?_
 refine WL.mv rfl rfl ?_
 obtain ⟨r49, hr49, h⟩ := bindS h
 refine WL.fn rfl rfl rfl rfl (f73_c _ _ _ hr49) ⟨(Le.agd ⟨(Le.refl _), (Le.refl _), (Le.refl _), (Le.refl _), (Le.refl _), (Le.refl _), (Le.refl _), (Le.refl _), (Le.refl _), (Le.refl _), (Le.refl _), (Le.refl _), (Le.refl _), (Le.refl _), (Le.refl _), (Le.refl _), (Le.refl _), (Le.refl _), (Le.refl _), (Le.refl _), (Le.refl _), (Le.refl _), (Le.refl _), (Le.refl _), (Le.refl _), (Le.refl _), (Le.refl _), (Le.refl _), (Le.refl _), (Le.refl _), (Le.refl _), (Le.refl _), (Le.refl _), (Le.refl _), trivial⟩), (Le.refl _), (Le.refl _), trivial⟩ (Wt.none rfl) rfl rfl ?_
 refine WL.as rfl rfl ?_
 refine WL.ns ?_
 replace h := letkS h
 obtain ⟨k51, hk51, h⟩ := h
 refine wc_cut (fun env' st' => ∃ (e50 : Int), k51 e50 = some r ∧ Sub [(1, .d (D.i .i64 prio1)), (2, .d (D.i .i64 task2)), (3, .pt 0 0), (6, .pt 1 0), (8, .d (D.i .i64 e50))] env' ∧ SLe st' [.row 26 (vecA 32 (fun j => .d (.sl (List.map E3 (q0.ready j)))) ++ ([.d (.sl (List.map E62 q0.delays)), .d (D.i .i64 q0.run)] : List AV)), .row 26 [sN, sN, sN, sN, sN, sN, sN, sN, sN, sN, sN, sN, sN, sN, sN, sN, sN, sN, sN, sN, sN, sN, sN, sN, sN, sN, sN, sN, sN, sN, sN, sN, sN, .d (D.i .i64 0)]]) ?_ ?_
 ·refine wc_sr ?_
  refine WL.mv rfl rfl ?_
  refine WL.qn (y_eql rfl rfl) rfl ?_
  refine WL.mv rfl rfl ?_
  obtain ⟨b52, hb52, h⟩ := bindS h
  apply WL.grp 11 (t := 15) (d := 26) (z := b52)
  ·exact rfl
  ·intro hg15
   have h := condT hb52 hg15
   refine WL.qy (y_loadN rfl rfl a26 s26 rfl) rfl rfl rfl ?_
   refine WL.qy (y_move rfl) rfl rfl rfl ?_
   obtain ⟨r53, hr53, h⟩ := bindS h
   refine WL.fn rfl rfl rfl rfl (f57_c _ _ hr53) ⟨(Le.agd ⟨(Le.refl _), (Le.refl _), (Le.refl _), (Le.refl _), (Le.refl _), (Le.refl _), (Le.refl _), (Le.refl _), (Le.refl _), (Le.refl _), (Le.refl _), (Le.refl _), (Le.refl _), (Le.refl _), (Le.refl _), (Le.refl _), (Le.refl _), (Le.refl _), (Le.refl _), (Le.refl _), (Le.refl _), (Le.refl _), (Le.refl _), (Le.refl _), (Le.refl _), (Le.refl _), (Le.refl _), (Le.refl _), (Le.refl _), (Le.refl _), (Le.refl _), (Le.refl _), (Le.refl _), (Le.refl _), trivial⟩), (Le.refl _), trivial⟩ (Wt.yes rfl rfl rfl) rfl rfl ?_
   refine WL.qy (y_eql rfl rfl) rfl rfl rfl ?_
   refine WL.qy (y_move rfl) rfl rfl rfl ?_
   apply WL.or 5 (t := 20) (d := 25)
   ·exact rfl
   ·intro hg20
    refine WL.qy (y_fieldAddr f26_2 rfl) rfl rfl rfl ?_
    refine WL.qy (y_load rfl rfl a3 rfl) rfl rfl rfl ?_
    refine WL.qy (y_move rfl) rfl rfl rfl ?_
    refine WL.qy (y_eql rfl rfl) rfl rfl rfl ?_
    refine WL.qy (y_pick_f rfl rfl) rfl rfl rfl ?_
    exact WL.nil ⟨rfl, [_, _, _, _, _], rfl, rfl, rfl⟩
   ·refine WL.skips 4 rfl ?_
    refine WL.qy (y_pick_t rfl rfl) rfl rfl rfl ?_
    exact WL.nil ⟨rfl, [_, _, _, _, _], rfl, rfl, rfl⟩
   refine WL.qn (y_pick_t rfl rfl) rfl ?_
   obtain rfl := Option.some.inj h
   exact WL.nil ⟨rfl, [_, _, _, _, _, _, _], rfl, rfl, rfl⟩
  ·intro hg15
   have h := condF hb52 hg15
   refine WL.skips 10 rfl ?_
   refine WL.qn (y_pick_f rfl rfl) rfl ?_
   obtain rfl := Option.some.inj h
   exact WL.nil ⟨rfl, [_, _, _, _, _, _, _, _, _, _, _], rfl, rfl, rfl⟩
  refine WL.ns ?_
  refine wc_cond rfl (fun hc1 => ?_) (fun hc1 => ?_)
  ·replace h := condT h hc1
   refine wc_region ?_
   refine WL.as rfl rfl ?_
   refine WL.nil ?_
   exact we_lp ⟨6, h, (Sub.cons rfl (Le.refl _) (Sub.cons rfl (Le.refl _) (Sub.cons rfl (Le.refl _) (Sub.cons rfl (Le.refl _) (Sub.cons rfl (Le.refl _) (Sub.nil _)))))), ⟨⟨rfl, Les.refl _⟩, ⟨rfl, Les.refl _⟩, trivial⟩⟩
  ·replace h := condF h hc1
   refine wc_skip ?_
   exact we_lp ⟨r49, h, (Sub.cons rfl (Le.refl _) (Sub.cons rfl (Le.refl _) (Sub.cons rfl (Le.refl _) (Sub.cons rfl (Le.refl _) (Sub.cons rfl (Le.refl _) (Sub.nil _)))))), ⟨⟨rfl, Les.refl _⟩, ⟨rfl, Les.refl _⟩, trivial⟩⟩
 ·rintro env1 st1 ⟨e50, h, hsub, hst⟩
  subst hk51
  dsimp only at h
  refine WC.sub hsub (WC.weak hst ?_)
  refine wc_seq ?_
  refine wc_sr ?_
  refine WL.mv rfl rfl ?_
  refine WL.qn (y_neq rfl rfl) rfl ?_
  refine WL.ns ?_
  refine wc_cond rfl (fun hc2 => ?_) (fun hc2 => ?_)
  ·replace h := condT h hc2
   refine wc_sr ?_
   refine WL.qn (y_build p26 z26 rfl rfl) rfl ?_
   refine WL.mv rfl rfl ?_
   refine WL.s0 (d_store rfl rfl rfl rfl rfl rfl s26 rfl rfl) (Wt.none rfl) rfl ?_
   refine WL.st (st' := [.row 26 (vecA 32 (fun j => .d (.sl (List.map E3 (q0.ready j)))) ++ ([.d (.sl (List.map E62 q0.delays)), .d (D.i .i64 q0.run)] : List AV)), .row 26 [sN, sN, sN, sN, sN, sN, sN, sN, sN, sN, sN, sN, sN, sN, sN, sN, sN, sN, sN, sN, sN, sN, sN, sN, sN, sN, sN, sN, sN, sN, sN, sN, sN, .d (D.i .i64 0)]]) rfl ?_
   refine WL.as rfl rfl ?_
   refine WL.ns ?_
   refine wc_ret ?_
   refine we_seq_ret ?_
   obtain rfl := Option.some.inj h
   exact we_ret_fn (rs2 rfl (rv_cN rfl rfl a26 s26 rfl) (rv_t rfl)) (Le.tud ⟨(Le.agd ⟨Le.nil, Le.nil, Le.nil, Le.nil, Le.nil, Le.nil, Le.nil, Le.nil, Le.nil, Le.nil, Le.nil, Le.nil, Le.nil, Le.nil, Le.nil, Le.nil, Le.nil, Le.nil, Le.nil, Le.nil, Le.nil, Le.nil, Le.nil, Le.nil, Le.nil, Le.nil, Le.nil, Le.nil, Le.nil, Le.nil, Le.nil, Le.nil, Le.nil, (Le.refl _), trivial⟩), (Le.refl _), trivial⟩)
  ·replace h := condF h hc2
   refine wc_skip ?_
   refine we_seq ?_
   refine wc_sr ?_
   refine WL.qn (y_loadN rfl rfl a26 s26 rfl) rfl ?_
   refine WL.mv rfl rfl ?_
   obtain ⟨r54, hr54, h⟩ := bindS h
   refine WL.fn rfl rfl rfl rfl (f48_c _ _ hr54) ⟨(Le.agd ⟨(Le.refl _), (Le.refl _), (Le.refl _), (Le.refl _), (Le.refl _), (Le.refl _), (Le.refl _), (Le.refl _), (Le.refl _), (Le.refl _), (Le.refl _), (Le.refl _), (Le.refl _), (Le.refl _), (Le.refl _), (Le.refl _), (Le.refl _), (Le.refl _), (Le.refl _), (Le.refl _), (Le.refl _), (Le.refl _), (Le.refl _), (Le.refl _), (Le.refl _), (Le.refl _), (Le.refl _), (Le.refl _), (Le.refl _), (Le.refl _), (Le.refl _), (Le.refl _), (Le.refl _), (Le.refl _), trivial⟩), (Le.refl _), trivial⟩ (Wt.none rfl) rfl rfl ?_
   refine WL.mv rfl rfl ?_
   refine WL.qn (y_extractd rfl rfl) rfl ?_
   refine WL.qn (y_extractd rfl rfl) rfl ?_
   refine WL.s0 (d_store rfl rfl rfl rfl rfl rfl s26 rfl rfl) (Wt.none rfl) rfl ?_
   refine WL.st (st' := [.row 26 (vecA 32 (fun j => .d (.sl (List.map E3 (r54.1.ready j)))) ++ ([.d (.sl (List.map E62 r54.1.delays)), .d (D.i .i64 r54.1.run)] : List AV)), .row 26 [sN, sN, sN, sN, sN, sN, sN, sN, sN, sN, sN, sN, sN, sN, sN, sN, sN, sN, sN, sN, sN, sN, sN, sN, sN, sN, sN, sN, sN, sN, sN, sN, sN, .d (D.i .i64 0)]]) rfl ?_
   refine WL.ns ?_
   refine wc_sr ?_
   refine WL.qn (y_loadN rfl rfl a26 s26 rfl) rfl ?_
   refine WL.mv rfl rfl ?_
   refine WL.mv rfl rfl ?_
   obtain ⟨r55, hr55, h⟩ := bindS h
   refine WL.fn rfl rfl rfl rfl (f46_c _ _ _ hr55) ⟨(Le.agd ⟨(Le.refl _), (Le.refl _), (Le.refl _), (Le.refl _), (Le.refl _), (Le.refl _), (Le.refl _), (Le.refl _), (Le.refl _), (Le.refl _), (Le.refl _), (Le.refl _), (Le.refl _), (Le.refl _), (Le.refl _), (Le.refl _), (Le.refl _), (Le.refl _), (Le.refl _), (Le.refl _), (Le.refl _), (Le.refl _), (Le.refl _), (Le.refl _), (Le.refl _), (Le.refl _), (Le.refl _), (Le.refl _), (Le.refl _), (Le.refl _), (Le.refl _), (Le.refl _), (Le.refl _), (Le.refl _), trivial⟩), (Le.refl _), (Le.refl _), trivial⟩ (Wt.none rfl) rfl rfl ?_
   refine WL.mv rfl rfl ?_
   refine WL.qn (y_extractd rfl rfl) rfl ?_
   refine WL.qn (y_extractd rfl rfl) rfl ?_
   refine WL.s0 (d_store rfl rfl rfl rfl rfl rfl s26 rfl rfl) (Wt.none rfl) rfl ?_
   refine WL.st (st' := [.row 26 (vecA 32 (fun j => .d (.sl (List.map E3 (r55.1.ready j)))) ++ ([.d (.sl (List.map E62 r55.1.delays)), .d (D.i .i64 r55.1.run)] : List AV)), .row 26 [sN, sN, sN, sN, sN, sN, sN, sN, sN, sN, sN, sN, sN, sN, sN, sN, sN, sN, sN, sN, sN, sN, sN, sN, sN, sN, sN, sN, sN, sN, sN, sN, sN, .d (D.i .i64 0)]]) rfl ?_
   refine WL.ns ?_
   refine wc_sr ?_
   refine WL.qn (y_loadN rfl rfl a26 s26 rfl) rfl ?_
   refine WL.s0 (d_store rfl rfl rfl rfl rfl rfl s26 rfl rfl) (Wt.none rfl) rfl ?_
   refine WL.st (st' := [.row 26 (vecA 32 (fun j => .d (.sl (List.map E3 (r55.1.ready j)))) ++ ([.d (.sl (List.map E62 r55.1.delays)), .d (D.i .i64 r55.1.run)] : List AV)), .row 26 (vecA 32 (fun j => .d (.sl (List.map E3 (r55.1.ready j)))) ++ ([.d (.sl (List.map E62 r55.1.delays)), .d (D.i .i64 r55.1.run)] : List AV))]) rfl ?_
   refine WL.as rfl rfl ?_
   refine WL.ns ?_
   refine wc_ret ?_
   obtain rfl := Option.some.inj h
   exact we_ret_fn (rs2 rfl (rv_cN rfl rfl a26 s26 rfl) (rv_t rfl)) (Le.tud ⟨(Le.agd ⟨(Le.refl _), (Le.refl _), (Le.refl _), (Le.refl _), (Le.refl _), (Le.refl _), (Le.refl _), (Le.refl _), (Le.refl _), (Le.refl _), (Le.refl _), (Le.refl _), (Le.refl _), (Le.refl _), (Le.refl _), (Le.refl _), (Le.refl _), (Le.refl _), (Le.refl _), (Le.refl _), (Le.refl _), (Le.refl _), (Le.refl _), (Le.refl _), (Le.refl _), (Le.refl _), (Le.refl _), (Le.refl _), (Le.refl _), (Le.refl _), (Le.refl _), (Le.refl _), (Le.refl _), (Le.refl _), trivial⟩), (Le.refl _), trivial⟩)

theorem f54_c (q0 : Queues) {r : Int × Int × Bool} (h : f54 q0 = some r) : Pu Try.prog 54 [.ag (R26 q0)] (.tu [.i .i64 r.1, .i .i64 r.2.1, .b r.2.2]) := by
 unfold f54 at h
 refine fn_intro Try.func54 (by kernel_rfl) rfl rfl rfl (fun φφ ww => ?_)
 refine wc_sr ?_
 refine WL.s ((b_boxd rfl rfl (Les.refl _)).does) (Wt.none rfl) rfl rfl ?_
 refine WL.as rfl rfl ?_
 refine WL.as rfl rfl ?_
 refine WL.as rfl rfl ?_
 refine WL.ns ?_
 refine wc_seq ?_
 refine wc_sr ?_
 refine WL.qn (y_loadcN rfl a26 s26 rfl) rfl ?_
 obtain ⟨r28, hr28, h⟩ := bindS h
 refine WL.fn rfl rfl rfl rfl (f25_c _ hr28) ⟨(Le.refl _), trivial⟩ (Wt.none rfl) rfl rfl ?_
 refine WL.qn (y_not rfl) rfl ?_
 refine WL.ns ?_
 refine wc_cond rfl (fun hc1 => ?_) (fun hc1 => ?_)
 ·replace h := condT h hc1
  refine wc_sr ?_
  refine WL.as rfl rfl ?_
  refine WL.as rfl rfl ?_
  refine WL.as rfl rfl ?_
  refine WL.ns ?_
  refine wc_ret ?_
  refine we_seq_ret ?_
  obtain rfl := Option.some.inj h
  exact we_ret_fn (rs3 rfl (rv_t rfl) (rv_t rfl) (rv_t rfl)) (Le.tud ⟨(Le.refl _), (Le.refl _), (Le.refl _), trivial⟩)
 ·replace h := condF h hc1
  refine wc_skip ?_
  refine we_seq ?_
  replace h := letkS h
  obtain ⟨k29, hk29, h⟩ := h
  refine wc_cut (fun env' st' => k29 () = some r ∧ Sub [] env' ∧ SLe st' []) ?_ ?_
  ·refine wc_sr ?_
   refine WL.as rfl rfl ?_
   refine WL.ns ?_
   refine wc_block ?_
   refine wc_loop (fun n env' st' => ∃ (p31 : Int), f54_l1 q0 k29 n p31 = some r ∧ Sub [(1, .d (.pc (R26 q0))), (5, .d (D.i .i64 p31))] env' ∧ SLe st' []) (fun n => n) (Int.toNat (31 + 1) + 1) ⟨31, h, (Sub.cons rfl (Le.refl _) (Sub.cons rfl (Le.refl _) (Sub.nil _))), trivial⟩ ?_
   rintro n env1 st1 ⟨p31, h, hsub, hst⟩
   cases n with
   | zero => rw [f54_l1] at h; cases h
   | succ n =>
   rw [f54_l1] at h
   refine WC.sub hsub (WC.weak hst ?_)
   refine wc_seq ?_
   refine wc_sr ?_
   refine WL.mv rfl rfl ?_
   refine WL.qn (y_geq rfl rfl) rfl ?_
   refine WL.ns ?_
   refine wc_cond rfl (fun hc2 => ?_) (fun hc2 => ?_)
   ·replace h := condT h hc2
    refine wc_skip ?_
    refine we_seq ?_
    refine wc_seq ?_
    refine wc_block ?_
    refine wc_sr ?_
    refine WL.mv rfl rfl ?_
    refine WL.qn (y_fieldAddrc f26_0 rfl) rfl ?_
    replace h := guardBS h
    obtain ⟨hgg33, h⟩ := h
    refine WL.qn (y_indexAddrVc (fun j => .sl (List.map E3 (q0.ready j))) ar23 rfl rfl rfl hgg33) rfl ?_
    refine WL.qn (y_loadc rfl a22 rfl) rfl ?_
    refine WL.qn (y_len_map E3 (q0.ready (Int.toNat p31)) e22 rfl rfl (Le.refl _)) rfl ?_
    refine WL.qn (y_gtr rfl rfl) rfl ?_
    refine WL.ns ?_
    refine wc_cond rfl (fun hc3 => ?_) (fun hc3 => ?_)
    ·replace h := condT h hc3
     refine wc_sr ?_
     refine WL.mv rfl rfl ?_
     refine WL.qn (y_fieldAddrc f26_0 rfl) rfl ?_
     replace h := guardBS h
     obtain ⟨hgg34, h⟩ := h
     refine WL.qn (y_indexAddrVc (fun j => .sl (List.map E3 (q0.ready j))) ar23 rfl rfl rfl hgg34) rfl ?_
     refine WL.qn (y_loadc rfl a22 rfl) rfl ?_
     obtain ⟨x35, hx35, h⟩ := bindS h
     refine WL.qn (y_indexAddr e22 rfl (Le.refl _) rfl (idx_nonneg hx35) (idx_row E3_eq hx35) rfl) rfl ?_
     refine WL.qn (y_loadc rfl a3 rfl) rfl ?_
     refine WL.mv rfl rfl ?_
     refine WL.as rfl rfl ?_
     refine WL.as rfl rfl ?_
     refine WL.as rfl rfl ?_
     refine WL.ns ?_
     refine wc_ret ?_
     refine we_blk_ret ?_
     refine we_seq_ret ?_
     refine we_lp_ret ?_
     refine we_blk_ret ?_
     refine we_lp_ret ?_
     obtain rfl := Option.some.inj h
     exact we_ret_fn (rs3 rfl (rv_t rfl) (rv_t rfl) (rv_t rfl)) (Le.tud ⟨(Le.refl _), (Le.refl _), (Le.refl _), trivial⟩)
    ·replace h := condF h hc3
     refine wc_skip ?_
     refine we_blk ?_
     refine we_seq ?_
     refine wc_region ?_
     refine WL.mv rfl rfl ?_
     refine WL.qn (y_sub rfl rfl rfl) rfl ?_
     refine WL.as rfl rfl ?_
     refine WL.nil ?_
     exact we_lp ⟨n, ⟨(IntKind.i64.wrap (p31 - 1)), h, (Sub.cons rfl (Le.refl _) (Sub.cons rfl (Le.refl _) (Sub.nil _))), trivial⟩, Nat.lt_succ_self n⟩
   ·replace h := condF h hc2
    refine wc_exit ?_
    refine we_seq_exit ?_
    refine we_lp_exit ?_
    refine we_blk_hit ?_
    exact we_lp ⟨h, (Sub.nil _), trivial⟩
  ·rintro env1 st1 ⟨h, hsub, hst⟩
   subst hk29
   dsimp only at h
   refine WC.sub hsub (WC.weak hst ?_)
   refine wc_sr ?_
   refine WL.as rfl rfl ?_
   refine WL.as rfl rfl ?_
   refine WL.as rfl rfl ?_
   refine WL.ns ?_
   refine wc_ret ?_
   obtain rfl := Option.some.inj h
   exact we_ret_fn (rs3 rfl (rv_t rfl) (rv_t rfl) (rv_t rfl)) (Le.tud ⟨(Le.refl _), (Le.refl _), (Le.refl _), trivial⟩)

theorem f50_c (q0 : Queues) (prio1 : Int) {r : Queues × Int} (h : f50 q0 prio1 = some r) : Pu Try.prog 50 [.ag (R26 q0), .i .i64 prio1] (.tu [.ag (R26 r.1), .i .i64 r.2]) := by
 unfold f50 at h
 refine fn_intro Try.func50 (by kernel_rfl) rfl rfl rfl (fun φφ ww => ?_)
 refine wc_sr ?_
 refine WL.s ((b_box rfl rfl).does) (Wt.none rfl) rfl rfl ?_
 refine WL.s ((b_alloc z26).does) (Wt.none rfl) rfl rfl ?_
 refine WL.as rfl rfl ?_
 refine WL.ns ?_
 refine wc_seq ?_
 refine wc_sr ?_
 refine WL.qn (y_loadN rfl rfl a26 s26 rfl) rfl ?_
 obtain ⟨r69, hr69, h⟩ := bindS h
 refine WL.fn rfl rfl rfl rfl (f25_c _ hr69) ⟨(Le.agd ⟨(Le.refl _), (Le.refl _), (Le.refl _), (Le.refl _), (Le.refl _), (Le.refl _), (Le.refl _), (Le.refl _), (Le.refl _), (Le.refl _), (Le.refl _), (Le.refl _), (Le.refl _), (Le.refl _), (Le.refl _), (Le.refl _), (Le.refl _), (Le.refl _), (Le.refl _), (Le.refl _), (Le.refl _), (Le.refl _), (Le.refl _), (Le.refl _), (Le.refl _), (Le.refl _), (Le.refl _), (Le.refl _), (Le.refl _), (Le.refl _), (Le.refl _), (Le.refl _), (Le.refl _), (Le.refl _), trivial⟩), trivial⟩ (Wt.none rfl) rfl rfl ?_
 refine WL.qn (y_not rfl) rfl ?_
 refine WL.mv rfl rfl ?_
 apply WL.or 9 (t := 13) (d := 22)
 ·exact rfl
 ·intro hg13
  refine WL.qy (y_fieldAddr f26_2 rfl) rfl rfl rfl ?_
  refine WL.qy (y_load rfl rfl a3 rfl) rfl rfl rfl ?_
  refine WL.qy (y_geq rfl rfl) rfl rfl rfl ?_
  refine WL.qy (y_move rfl) rfl rfl rfl ?_
  apply WL.and 4 (t := 17) (d := 21)
  ·exact rfl
  ·intro hg17
   refine WL.qy (y_move rfl) rfl rfl rfl ?_
   refine WL.fn rfl rfl rfl rfl (f56_c _) ⟨(Le.refl _), trivial⟩ (Wt.yes rfl rfl rfl) rfl rfl ?_
   refine WL.qy (y_not rfl) rfl rfl rfl ?_
   refine WL.qy (y_pick_t rfl rfl) rfl rfl rfl ?_
   exact WL.nil ⟨rfl, [_, _, _, _], rfl, rfl, rfl⟩
  ·refine WL.skips 3 rfl ?_
   refine WL.qy (y_pick_f rfl rfl) rfl rfl rfl ?_
   exact WL.nil ⟨rfl, [_, _, _, _], rfl, rfl, rfl⟩
  refine WL.qn (y_pick_f rfl rfl) rfl ?_
  exact WL.nil ⟨rfl, [_, _, _, _, _, _], rfl, rfl, rfl⟩
 ·refine WL.skips 8 rfl ?_
  refine WL.qn (y_pick_t rfl rfl) rfl ?_
  exact WL.nil ⟨rfl, [_, _, _, _, _, _, _, _, _], rfl, rfl, rfl⟩
 refine WL.ns ?_
 refine wc_cond rfl (fun hc1 => ?_) (fun hc1 => ?_)
 ·replace h := condT h hc1
  refine wc_sr ?_
  refine WL.qn (y_build p26 z26 rfl rfl) rfl ?_
  refine WL.s0 (d_store rfl rfl rfl rfl rfl rfl s26 rfl rfl) (Wt.none rfl) rfl ?_
  refine WL.st (st' := [.row 26 (vecA 32 (fun j => .d (.sl (List.map E3 (q0.ready j)))) ++ ([.d (.sl (List.map E62 q0.delays)), .d (D.i .i64 q0.run)] : List AV)), .row 26 [sN, sN, sN, sN, sN, sN, sN, sN, sN, sN, sN, sN, sN, sN, sN, sN, sN, sN, sN, sN, sN, sN, sN, sN, sN, sN, sN, sN, sN, sN, sN, sN, sN, .d (D.i .i64 0)]]) rfl ?_
  refine WL.as rfl rfl ?_
  refine WL.ns ?_
  refine wc_ret ?_
  refine we_seq_ret ?_
  obtain rfl := Option.some.inj h
  exact we_ret_fn (rs2 rfl (rv_cN rfl rfl a26 s26 rfl) (rv_t rfl)) (Le.tud ⟨(Le.agd ⟨Le.nil, Le.nil, Le.nil, Le.nil, Le.nil, Le.nil, Le.nil, Le.nil, Le.nil, Le.nil, Le.nil, Le.nil, Le.nil, Le.nil, Le.nil, Le.nil, Le.nil, Le.nil, Le.nil, Le.nil, Le.nil, Le.nil, Le.nil, Le.nil, Le.nil, Le.nil, Le.nil, Le.nil, Le.nil, Le.nil, Le.nil, Le.nil, Le.nil, (Le.refl _), trivial⟩), (Le.refl _), trivial⟩)
 ·replace h := condF h hc1
  refine wc_skip ?_
  refine we_seq ?_
  refine wc_sr ?_
  refine WL.qn (y_loadN rfl rfl a26 s26 rfl) rfl ?_
  obtain ⟨r70, hr70, h⟩ := bindS h
  refine WL.fn rfl rfl rfl rfl (O.f23_c _ hr70) ⟨(Le.agd ⟨(Le.refl _), (Le.refl _), (Le.refl _), (Le.refl _), (Le.refl _), (Le.refl _), (Le.refl _), (Le.refl _), (Le.refl _), (Le.refl _), (Le.refl _), (Le.refl _), (Le.refl _), (Le.refl _), (Le.refl _), (Le.refl _), (Le.refl _), (Le.refl _), (Le.refl _), (Le.refl _), (Le.refl _), (Le.refl _), (Le.refl _), (Le.refl _), (Le.refl _), (Le.refl _), (Le.refl _), (Le.refl _), (Le.refl _), (Le.refl _), (Le.refl _), (Le.refl _), (Le.refl _), (Le.refl _), trivial⟩), trivial⟩ (Wt.none rfl) rfl rfl ?_
  refine WL.s0 (d_store rfl rfl rfl rfl rfl rfl s26 rfl rfl) (Wt.none rfl) rfl ?_
  refine WL.st (st' := [.row 26 (vecA 32 (fun j => .d (.sl (List.map E3 (r70.ready j)))) ++ ([.d (.sl (List.map E62 r70.delays)), .d (D.i .i64 r70.run)] : List AV)), .row 26 [sN, sN, sN, sN, sN, sN, sN, sN, sN, sN, sN, sN, sN, sN, sN, sN, sN, sN, sN, sN, sN, sN, sN, sN, sN, sN, sN, sN, sN, sN, sN, sN, sN, .d (D.i .i64 0)]]) rfl ?_
  refine WL.ns ?_
  refine wc_sr ?_
  refine WL.qn (y_loadN rfl rfl a26 s26 rfl) rfl ?_
  obtain ⟨r71, hr71, h⟩ := bindS h
  refine WL.fn rfl rfl rfl rfl (f54_c _ hr71) ⟨(Le.agd ⟨(Le.refl _), (Le.refl _), (Le.refl _), (Le.refl _), (Le.refl _), (Le.refl _), (Le.refl _), (Le.refl _), (Le.refl _), (Le.refl _), (Le.refl _), (Le.refl _), (Le.refl _), (Le.refl _), (Le.refl _), (Le.refl _), (Le.refl _), (Le.refl _), (Le.refl _), (Le.refl _), (Le.refl _), (Le.refl _), (Le.refl _), (Le.refl _), (Le.refl _), (Le.refl _), (Le.refl _), (Le.refl _), (Le.refl _), (Le.refl _), (Le.refl _), (Le.refl _), (Le.refl _), (Le.refl _), trivial⟩), trivial⟩ (Wt.none rfl) rfl rfl ?_
  refine WL.mv rfl rfl ?_
  refine WL.qn (y_extractd rfl rfl) rfl ?_
  refine WL.qn (y_extractd rfl rfl) rfl ?_
  refine WL.qn (y_extractd rfl rfl) rfl ?_
  refine WL.as rfl rfl ?_
  refine WL.as rfl rfl ?_
  refine WL.as rfl rfl ?_
  refine WL.ns ?_
  refine wc_seq ?_
  refine wc_sr ?_
  refine WL.mv rfl rfl ?_
  refine WL.qn (y_not rfl) rfl ?_
  refine WL.mv rfl rfl ?_
  apply WL.or 9 (t := 34) (d := 43)
  ·exact rfl
  ·intro hg34
   refine WL.qy (y_fieldAddr f26_2 rfl) rfl rfl rfl ?_
   refine WL.qy (y_load rfl rfl a3 rfl) rfl rfl rfl ?_
   refine WL.qy (y_geq rfl rfl) rfl rfl rfl ?_
   refine WL.qy (y_move rfl) rfl rfl rfl ?_
   apply WL.and 4 (t := 38) (d := 42)
   ·exact rfl
   ·intro hg38
    refine WL.qy (y_move rfl) rfl rfl rfl ?_
    refine WL.qy (y_move rfl) rfl rfl rfl ?_
    refine WL.qy (y_leq rfl rfl) rfl rfl rfl ?_
    refine WL.qy (y_pick_t rfl rfl) rfl rfl rfl ?_
    exact WL.nil ⟨rfl, [_, _, _, _], rfl, rfl, rfl⟩
   ·refine WL.skips 3 rfl ?_
    refine WL.qy (y_pick_f rfl rfl) rfl rfl rfl ?_
    exact WL.nil ⟨rfl, [_, _, _, _], rfl, rfl, rfl⟩
   refine WL.qn (y_pick_f rfl rfl) rfl ?_
   exact WL.nil ⟨rfl, [_, _, _, _, _, _], rfl, rfl, rfl⟩
  ·refine WL.skips 8 rfl ?_
   refine WL.qn (y_pick_t rfl rfl) rfl ?_
   exact WL.nil ⟨rfl, [_, _, _, _, _, _, _, _, _], rfl, rfl, rfl⟩
  refine WL.ns ?_
  refine wc_cond rfl (fun hc2 => ?_) (fun hc2 => ?_)
  ·replace h := condT h hc2
   refine wc_sr ?_
   refine WL.qn (y_loadN rfl rfl a26 s26 rfl) rfl ?_
   refine WL.s0 (d_store rfl rfl rfl rfl rfl rfl s26 rfl rfl) (Wt.none rfl) rfl ?_
   refine WL.st (st' := [.row 26 (vecA 32 (fun j => .d (.sl (List.map E3 (r70.ready j)))) ++ ([.d (.sl (List.map E62 r70.delays)), .d (D.i .i64 r70.run)] : List AV)), .row 26 (vecA 32 (fun j => .d (.sl (List.map E3 (r70.ready j)))) ++ ([.d (.sl (List.map E62 r70.delays)), .d (D.i .i64 r70.run)] : List AV))]) rfl ?_
   refine WL.as rfl rfl ?_
   refine WL.ns ?_
   refine wc_ret ?_
   refine we_seq_ret ?_
   obtain rfl := Option.some.inj h
   exact we_ret_fn (rs2 rfl (rv_cN rfl rfl a26 s26 rfl) (rv_t rfl)) (Le.tud ⟨(Le.agd ⟨(Le.refl _), (Le.refl _), (Le.refl _), (Le.refl _), (Le.refl _), (Le.refl _), (Le.refl _), (Le.refl _), (Le.refl _), (Le.refl _), (Le.refl _), (Le.refl _), (Le.refl _), (Le.refl _), (Le.refl _), (Le.refl _), (Le.refl _), (Le.refl _), (Le.refl _), (Le.refl _), (Le.refl _), (Le.refl _), (Le.refl _), (Le.refl _), (Le.refl _), (Le.refl _), (Le.refl _), (Le.refl _), (Le.refl _), (Le.refl _), (Le.refl _), (Le.refl _), (Le.refl _), (Le.refl _), trivial⟩), (Le.refl _), trivial⟩)
  ·replace h := condF h hc2
   refine wc_skip ?_
   refine we_seq ?_
   refine wc_sr ?_
   refine WL.qn (y_fieldAddr f26_2 rfl) rfl ?_
   refine WL.qn (y_load rfl rfl a3 rfl) rfl ?_
   refine WL.as rfl rfl ?_
   refine WL.ns ?_
   refine wc_sr ?_
   refine WL.qn (y_loadN rfl rfl a26 s26 rfl) rfl ?_
   refine WL.mv rfl rfl ?_
   obtain ⟨r72, hr72, h⟩ := bindS h
   refine WL.fn rfl rfl rfl rfl (f48_c _ _ hr72) ⟨(Le.agd ⟨(Le.refl _), (Le.refl _), (Le.refl _), (Le.refl _), (Le.refl _), (Le.refl _), (Le.refl _), (Le.refl _), (Le.refl _), (Le.refl _), (Le.refl _), (Le.refl _), (Le.refl _), (Le.refl _), (Le.refl _), (Le.refl _), (Le.refl _), (Le.refl _), (Le.refl _), (Le.refl _), (Le.refl _), (Le.refl _), (Le.refl _), (Le.refl _), (Le.refl _), (Le.refl _), (Le.refl _), (Le.refl _), (Le.refl _), (Le.refl _), (Le.refl _), (Le.refl _), (Le.refl _), (Le.refl _), trivial⟩), (Le.refl _), trivial⟩ (Wt.none rfl) rfl rfl ?_
   refine WL.mv rfl rfl ?_
   refine WL.qn (y_extractd rfl rfl) rfl ?_
   refine WL.qn (y_extractd rfl rfl) rfl ?_
   refine WL.s0 (d_store rfl rfl rfl rfl rfl rfl s26 rfl rfl) (Wt.none rfl) rfl ?_
   refine WL.st (st' := [.row 26 (vecA 32 (fun j => .d (.sl (List.map E3 (r72.1.ready j)))) ++ ([.d (.sl (List.map E62 r72.1.delays)), .d (D.i .i64 r72.1.run)] : List AV)), .row 26 [sN, sN, sN, sN, sN, sN, sN, sN, sN, sN, sN, sN, sN, sN, sN, sN, sN, sN, sN, sN, sN, sN, sN, sN, sN, sN, sN, sN, sN, sN, sN, sN, sN, .d (D.i .i64 0)]]) rfl ?_
   refine WL.ns ?_
   refine wc_sr ?_
   refine WL.qn (y_fieldAddr f26_2 rfl) rfl ?_
   refine WL.s0 (d_store rfl rfl rfl rfl rfl rfl s3 rfl rfl) (Wt.none rfl) rfl ?_
   refine WL.st (st' := [.row 26 (vecA 32 (fun j => .d (.sl (List.map E3 (r72.1.ready j)))) ++ ([.d (.sl (List.map E62 r72.1.delays)), .d (D.i .i64 (-1))] : List AV)), .row 26 [sN, sN, sN, sN, sN, sN, sN, sN, sN, sN, sN, sN, sN, sN, sN, sN, sN, sN, sN, sN, sN, sN, sN, sN, sN, sN, sN, sN, sN, sN, sN, sN, sN, .d (D.i .i64 0)]]) rfl ?_
   refine WL.ns ?_
   replace h := letkS h
   obtain ⟨k76, hk76, h⟩ := h
   refine wc_cut (fun env' st' => ∃ (c0073 : Nat → (List Int)), ∃ (c03274 : List Due), ∃ (c03375 : Int), k76 c0073 c03274 c03375 = some r ∧ Sub [(2, .pt 0 0), (4, .pt 1 0), (6, .d (D.i .i64 r71.1))] env' ∧ SLe st' [.row 26 (vecA 32 (fun j => .d (.sl (List.map E3 (c0073 j)))) ++ ([.d (.sl (List.map E62 c03274)), .d (D.i .i64 c03375)] : List AV)), .row 26 [sN, sN, sN, sN, sN, sN, sN, sN, sN, sN, sN, sN, sN, sN, sN, sN, sN, sN, sN, sN, sN, sN, sN, sN, sN, sN, sN, sN, sN, sN, sN, sN, sN, .d (D.i .i64 0)]]) ?_ ?_
   ·refine wc_sr ?_
    refine WL.mv rfl rfl ?_
    refine WL.qn (y_geq rfl rfl) rfl ?_
    refine WL.ns ?_
    refine wc_cond rfl (fun hc3 => ?_) (fun hc3 => ?_)
    ·replace h := condT h hc3
     refine wc_region ?_
     refine WL.qn (y_loadN rfl rfl a26 s26 rfl) rfl ?_
     refine WL.mv rfl rfl ?_
     refine WL.mv rfl rfl ?_
     obtain ⟨r77, hr77, h⟩ := bindS h
     refine WL.fn rfl rfl rfl rfl (f47_c _ _ _ hr77) ⟨(Le.agd ⟨(Le.refl _), (Le.refl _), (Le.refl _), (Le.refl _), (Le.refl _), (Le.refl _), (Le.refl _), (Le.refl _), (Le.refl _), (Le.refl _), (Le.refl _), (Le.refl _), (Le.refl _), (Le.refl _), (Le.refl _), (Le.refl _), (Le.refl _), (Le.refl _), (Le.refl _), (Le.refl _), (Le.refl _), (Le.refl _), (Le.refl _), (Le.refl _), (Le.refl _), (Le.refl _), (Le.refl _), (Le.refl _), (Le.refl _), (Le.refl _), (Le.refl _), (Le.refl _), (Le.refl _), (Le.refl _), trivial⟩), (Le.refl _), (Le.refl _), trivial⟩ (Wt.none rfl) rfl rfl ?_
     refine WL.mv rfl rfl ?_
     refine WL.qn (y_extractd rfl rfl) rfl ?_
     refine WL.qn (y_extractd rfl rfl) rfl ?_
     refine WL.s0 (d_store rfl rfl rfl rfl rfl rfl s26 rfl rfl) (Wt.none rfl) rfl ?_
     refine WL.st (st' := [.row 26 (vecA 32 (fun j => .d (.sl (List.map E3 (r77.1.ready j)))) ++ ([.d (.sl (List.map E62 r77.1.delays)), .d (D.i .i64 r77.1.run)] : List AV)), .row 26 [sN, sN, sN, sN, sN, sN, sN, sN, sN, sN, sN, sN, sN, sN, sN, sN, sN, sN, sN, sN, sN, sN, sN, sN, sN, sN, sN, sN, sN, sN, sN, sN, sN, .d (D.i .i64 0)]]) rfl ?_
     refine WL.nil ?_
     exact we_lp ⟨r77.1.ready, r77.1.delays, r77.1.run, h, (Sub.cons rfl (Le.refl _) (Sub.cons rfl (Le.refl _) (Sub.cons rfl (Le.refl _) (Sub.nil _)))), ⟨⟨rfl, Les.refl _⟩, ⟨rfl, Les.refl _⟩, trivial⟩⟩
    ·replace h := condF h hc3
     refine wc_skip ?_
     exact we_lp ⟨r72.1.ready, r72.1.delays, (-1), h, (Sub.cons rfl (Le.refl _) (Sub.cons rfl (Le.refl _) (Sub.cons rfl (Le.refl _) (Sub.nil _)))), ⟨⟨rfl, Les.refl _⟩, ⟨rfl, Les.refl _⟩, trivial⟩⟩
   ·rintro env1 st1 ⟨c0073, c03274, c03375, h, hsub, hst⟩
    subst hk76
    dsimp only at h
    refine WC.sub hsub (WC.weak hst ?_)
    refine wc_sr ?_
    refine WL.mv rfl rfl ?_
    refine WL.qn (y_fieldAddr f26_2 rfl) rfl ?_
    refine WL.s0 (d_store rfl rfl rfl rfl rfl rfl s3 rfl rfl) (Wt.none rfl) rfl ?_
    refine WL.st (st' := [.row 26 (vecA 32 (fun j => .d (.sl (List.map E3 (c0073 j)))) ++ ([.d (.sl (List.map E62 c03274)), .d (D.i .i64 r71.1)] : List AV)), .row 26 [sN, sN, sN, sN, sN, sN, sN, sN, sN, sN, sN, sN, sN, sN, sN, sN, sN, sN, sN, sN, sN, sN, sN, sN, sN, sN, sN, sN, sN, sN, sN, sN, sN, .d (D.i .i64 0)]]) rfl ?_
    refine WL.ns ?_
    refine wc_sr ?_
    refine WL.qn (y_loadN rfl rfl a26 s26 rfl) rfl ?_
    refine WL.s0 (d_store rfl rfl rfl rfl rfl rfl s26 rfl rfl) (Wt.none rfl) rfl ?_
    refine WL.st (st' := [.row 26 (vecA 32 (fun j => .d (.sl (List.map E3 (c0073 j)))) ++ ([.d (.sl (List.map E62 c03274)), .d (D.i .i64 r71.1)] : List AV)), .row 26 (vecA 32 (fun j => .d (.sl (List.map E3 (c0073 j)))) ++ ([.d (.sl (List.map E62 c03274)), .d (D.i .i64 r71.1)] : List AV))]) rfl ?_
    refine WL.as rfl rfl ?_
    refine WL.ns ?_
    refine wc_ret ?_
    obtain rfl := Option.some.inj h
    exact we_ret_fn (rs2 rfl (rv_cN rfl rfl a26 s26 rfl) (rv_t rfl)) (Le.tud ⟨(Le.agd ⟨(Le.refl _), (Le.refl _), (Le.refl _), (Le.refl _), (Le.refl _), (Le.refl _), (Le.refl _), (Le.refl _), (Le.refl _), (Le.refl _), (Le.refl _), (Le.refl _), (Le.refl _), (Le.refl _), (Le.refl _), (Le.refl _), (Le.refl _), (Le.refl _), (Le.refl _), (Le.refl _), (Le.refl _), (Le.refl _), (Le.refl _), (Le.refl _), (Le.refl _), (Le.refl _), (Le.refl _), (Le.refl _), (Le.refl _), (Le.refl _), (Le.refl _), (Le.refl _), (Le.refl _), (Le.refl _), trivial⟩), (Le.refl _), trivial⟩)

theorem f51_c (q0 : Queues) (time1 : Int) (task2 : Int) {r : Queues × Int} (h : f51 q0 time1 task2 = some r) : Pu Try.prog 51 [.ag (R26 q0), .i .i64 time1, .i .i64 task2] (.tu [.ag (R26 r.1), .i .i64 r.2]) := by
 unfold f51 at h
 refine fn_intro Try.func51 (by kernel_rfl) rfl rfl rfl (fun φφ ww => ?_)
 refine wc_sr ?_
 refine WL.s ((b_box rfl rfl).does) (Wt.none rfl) rfl rfl ?_
 refine WL.s ((b_alloc z26).does) (Wt.none rfl) rfl rfl ?_
 refine WL.as rfl rfl ?_
 refine WL.ns ?_
 refine wc_seq ?_
 refine wc_sr ?_
 refine WL.qn (y_loadN rfl rfl a26 s26 rfl) rfl ?_
 refine WL.mv rfl rfl ?_
 obtain ⟨r79, hr79, h⟩ := bindS h
 refine WL.fn rfl rfl rfl rfl (f73_c _ _ _ hr79) ⟨(Le.agd ⟨(Le.refl _), (Le.refl _), (Le.refl _), (Le.refl _), (Le.refl _), (Le.refl _), (Le.refl _), (Le.refl _), (Le.refl _), (Le.refl _), (Le.refl _), (Le.refl _), (Le.refl _), (Le.refl _), (Le.refl _), (Le.refl _), (Le.refl _), (Le.refl _), (Le.refl _), (Le.refl _), (Le.refl _), (Le.refl _), (Le.refl _), (Le.refl _), (Le.refl _), (Le.refl _), (Le.refl _), (Le.refl _), (Le.refl _), (Le.refl _), (Le.refl _), (Le.refl _), (Le.refl _), (Le.refl _), trivial⟩), (Le.refl _), (Le.refl _), trivial⟩ (Wt.none rfl) rfl rfl ?_
 refine WL.qn (y_neq rfl rfl) rfl ?_
 refine WL.mv rfl rfl ?_
 apply WL.or 3 (t := 15) (d := 18)
 ·exact rfl
 ·intro hg15
  refine WL.qy (y_move rfl) rfl rfl rfl ?_
  refine WL.qy (y_lss rfl rfl) rfl rfl rfl ?_
  refine WL.qn (y_pick_f rfl rfl) rfl ?_
  exact WL.nil ⟨rfl, [_, _, _], rfl, rfl, rfl⟩
 ·refine WL.skips 2 rfl ?_
  refine WL.qn (y_pick_t rfl rfl) rfl ?_
  exact WL.nil ⟨rfl, [_, _, _], rfl, rfl, rfl⟩
 refine WL.mv rfl rfl ?_
 apply WL.or 3 (t := 19) (d := 22)
 ·exact rfl
 ·intro hg19
  refine WL.qy (y_move rfl) rfl rfl rfl ?_
  refine WL.qy (y_gtr rfl rfl) rfl rfl rfl ?_
  refine WL.qn (y_pick_f rfl rfl) rfl ?_
  exact WL.nil ⟨rfl, [_, _, _], rfl, rfl, rfl⟩
 ·refine WL.skips 2 rfl ?_
  refine WL.qn (y_pick_t rfl rfl) rfl ?_
  exact WL.nil ⟨rfl, [_, _, _], rfl, rfl, rfl⟩
 refine WL.ns ?_
 refine wc_cond rfl (fun hc1 => ?_) (fun hc1 => ?_)
 ·replace h := condT h hc1
  refine wc_sr ?_
  refine WL.qn (y_build p26 z26 rfl rfl) rfl ?_
  refine WL.s0 (d_store rfl rfl rfl rfl rfl rfl s26 rfl rfl) (Wt.none rfl) rfl ?_
  refine WL.st (st' := [.row 26 (vecA 32 (fun j => .d (.sl (List.map E3 (q0.ready j)))) ++ ([.d (.sl (List.map E62 q0.delays)), .d (D.i .i64 q0.run)] : List AV)), .row 26 [sN, sN, sN, sN, sN, sN, sN, sN, sN, sN, sN, sN, sN, sN, sN, sN, sN, sN, sN, sN, sN, sN, sN, sN, sN, sN, sN, sN, sN, sN, sN, sN, sN, .d (D.i .i64 0)]]) rfl ?_
  refine WL.as rfl rfl ?_
  refine WL.ns ?_
  refine wc_ret ?_
  refine we_seq_ret ?_
  obtain rfl := Option.some.inj h
  exact we_ret_fn (rs2 rfl (rv_cN rfl rfl a26 s26 rfl) (rv_t rfl)) (Le.tud ⟨(Le.agd ⟨Le.nil, Le.nil, Le.nil, Le.nil, Le.nil, Le.nil, Le.nil, Le.nil, Le.nil, Le.nil, Le.nil, Le.nil, Le.nil, Le.nil, Le.nil, Le.nil, Le.nil, Le.nil, Le.nil, Le.nil, Le.nil, Le.nil, Le.nil, Le.nil, Le.nil, Le.nil, Le.nil, Le.nil, Le.nil, Le.nil, Le.nil, Le.nil, Le.nil, (Le.refl _), trivial⟩), (Le.refl _), trivial⟩)
 ·replace h := condF h hc1
  refine wc_skip ?_
  refine we_seq ?_
  refine wc_seq ?_
  refine wc_sr ?_
  refine WL.qn (y_loadN rfl rfl a26 s26 rfl) rfl ?_
  refine WL.mv rfl rfl ?_
  obtain ⟨r80, hr80, h⟩ := bindS h
  refine WL.fn rfl rfl rfl rfl (f58_c _ _ hr80) ⟨(Le.agd ⟨(Le.refl _), (Le.refl _), (Le.refl _), (Le.refl _), (Le.refl _), (Le.refl _), (Le.refl _), (Le.refl _), (Le.refl _), (Le.refl _), (Le.refl _), (Le.refl _), (Le.refl _), (Le.refl _), (Le.refl _), (Le.refl _), (Le.refl _), (Le.refl _), (Le.refl _), (Le.refl _), (Le.refl _), (Le.refl _), (Le.refl _), (Le.refl _), (Le.refl _), (Le.refl _), (Le.refl _), (Le.refl _), (Le.refl _), (Le.refl _), (Le.refl _), (Le.refl _), (Le.refl _), (Le.refl _), trivial⟩), (Le.refl _), trivial⟩ (Wt.none rfl) rfl rfl ?_
  refine WL.qn (y_gtr rfl rfl) rfl ?_
  refine WL.ns ?_
  refine wc_cond rfl (fun hc2 => ?_) (fun hc2 => ?_)
  ·replace h := condT h hc2
   refine wc_sr ?_
   refine WL.qn (y_build p26 z26 rfl rfl) rfl ?_
   refine WL.s0 (d_store rfl rfl rfl rfl rfl rfl s26 rfl rfl) (Wt.none rfl) rfl ?_
   refine WL.st (st' := [.row 26 (vecA 32 (fun j => .d (.sl (List.map E3 (q0.ready j)))) ++ ([.d (.sl (List.map E62 q0.delays)), .d (D.i .i64 q0.run)] : List AV)), .row 26 [sN, sN, sN, sN, sN, sN, sN, sN, sN, sN, sN, sN, sN, sN, sN, sN, sN, sN, sN, sN, sN, sN, sN, sN, sN, sN, sN, sN, sN, sN, sN, sN, sN, .d (D.i .i64 0)]]) rfl ?_
   refine WL.as rfl rfl ?_
   refine WL.ns ?_
   refine wc_ret ?_
   refine we_seq_ret ?_
   obtain rfl := Option.some.inj h
   exact we_ret_fn (rs2 rfl (rv_cN rfl rfl a26 s26 rfl) (rv_t rfl)) (Le.tud ⟨(Le.agd ⟨Le.nil, Le.nil, Le.nil, Le.nil, Le.nil, Le.nil, Le.nil, Le.nil, Le.nil, Le.nil, Le.nil, Le.nil, Le.nil, Le.nil, Le.nil, Le.nil, Le.nil, Le.nil, Le.nil, Le.nil, Le.nil, Le.nil, Le.nil, Le.nil, Le.nil, Le.nil, Le.nil, Le.nil, Le.nil, Le.nil, Le.nil, Le.nil, Le.nil, (Le.refl _), trivial⟩), (Le.refl _), trivial⟩)
  ·replace h := condF h hc2
   refine wc_skip ?_
   refine we_seq ?_
   refine wc_sr ?_
   refine WL.as rfl rfl ?_
   refine WL.nil_os 8 62 2 rfl ?_
   refine WL.ns ?_
   refine wc_sr ?_
   refine WL.as rfl rfl ?_
   refine WL.ns ?_
   replace h := letkS h
   obtain ⟨k84, hk84, h⟩ := h
   refine wc_cut (fun env' st' => ∃ (done81 : Bool), ∃ (l82 : List Due), ∃ (ver83 : Nat), k84 done81 l82 = some r ∧ Sub [(1, .d (D.i .i64 time1)), (2, .d (D.i .i64 task2)), (3, .pt 0 0), (6, .pt 1 0), (8, .os 2 ver83), (9, .d (D.b done81))] env' ∧ SLe st' [.row 26 (vecA 32 (fun j => .d (.sl (List.map E3 (q0.ready j)))) ++ ([.d (.sl (List.map E62 q0.delays)), .d (D.i .i64 q0.run)] : List AV)), .row 26 [sN, sN, sN, sN, sN, sN, sN, sN, sN, sN, sN, sN, sN, sN, sN, sN, sN, sN, sN, sN, sN, sN, sN, sN, sN, sN, sN, sN, sN, sN, sN, sN, sN, .d (D.i .i64 0)], .os 62 2 ver83 (List.map (encA R62) l82)]) ?_ ?_
   ·refine wc_sr ?_
    refine WL.as rfl rfl ?_
    refine WL.ns ?_
    refine wc_block ?_
    refine wc_loop (fun n env' st' => ∃ (done89 : Bool), ∃ (iq90 : Int), ∃ (l91 : List Due), ∃ (ver92 : Nat), f51_l1 q0 time1 task2 k84 n done89 iq90 l91 = some r ∧ Sub [(1, .d (D.i .i64 time1)), (2, .d (D.i .i64 task2)), (3, .pt 0 0), (6, .pt 1 0), (8, .os 2 ver92), (9, .d (D.b done89)), (10, .d (D.i .i64 iq90))] env' ∧ SLe st' [.row 26 (vecA 32 (fun j => .d (.sl (List.map E3 (q0.ready j)))) ++ ([.d (.sl (List.map E62 q0.delays)), .d (D.i .i64 q0.run)] : List AV)), .row 26 [sN, sN, sN, sN, sN, sN, sN, sN, sN, sN, sN, sN, sN, sN, sN, sN, sN, sN, sN, sN, sN, sN, sN, sN, sN, sN, sN, sN, sN, sN, sN, sN, sN, .d (D.i .i64 0)], .os 62 2 ver92 (List.map (encA R62) l91)]) (fun n => n) 9223372036854775808 ⟨false, 0, [], _, h, (Sub.cons rfl (Le.refl _) (Sub.cons rfl (Le.refl _) (Sub.cons rfl (Le.refl _) (Sub.cons rfl (Le.refl _) (Sub.cons rfl (Le.refl _) (Sub.cons rfl (Le.refl _) (Sub.cons rfl (Le.refl _) (Sub.nil _)))))))), ⟨⟨rfl, Les.refl _⟩, ⟨rfl, Les.refl _⟩, ⟨rfl, rfl, rfl, rfl⟩, trivial⟩⟩ ?_
    rintro n env1 st1 ⟨done89, iq90, l91, ver92, h, hsub, hst⟩
    cases n with
    | zero => rw [f51_l1] at h; cases h
    | succ n =>
    rw [f51_l1] at h
    refine WC.sub hsub (WC.weak hst ?_)
    refine wc_seq ?_
    refine wc_sr ?_
    refine WL.mv rfl rfl ?_
    refine WL.qn (y_fieldAddr f26_1 rfl) rfl ?_
    refine WL.qn (y_load rfl rfl a24 rfl) rfl ?_
    refine WL.qn (y_len_map E62 q0.delays e24 rfl rfl (Le.refl _)) rfl ?_
    refine WL.qn (y_lss rfl rfl) rfl ?_
    refine WL.ns ?_
    refine wc_cond rfl (fun hc3 => ?_) (fun hc3 => ?_)
    ·replace h := condT h hc3
     refine wc_skip ?_
     refine we_seq ?_
     refine wc_seq ?_
     refine wc_block ?_
     replace h := letkS h
     obtain ⟨k100, hk100, h⟩ := h
     refine wc_cut (fun env' st' => ∃ (done97 : Bool), ∃ (l98 : List Due), ∃ (ver99 : Nat), k100 done97 l98 = some r ∧ Sub [(1, .d (D.i .i64 time1)), (2, .d (D.i .i64 task2)), (3, .pt 0 0), (6, .pt 1 0), (8, .os 2 ver99), (9, .d (D.b done97)), (10, .d (D.i .i64 iq90))] env' ∧ SLe st' [.row 26 (vecA 32 (fun j => .d (.sl (List.map E3 (q0.ready j)))) ++ ([.d (.sl (List.map E62 q0.delays)), .d (D.i .i64 q0.run)] : List AV)), .row 26 [sN, sN, sN, sN, sN, sN, sN, sN, sN, sN, sN, sN, sN, sN, sN, sN, sN, sN, sN, sN, sN, sN, sN, sN, sN, sN, sN, sN, sN, sN, sN, sN, sN, .d (D.i .i64 0)], .os 62 2 ver99 (List.map (encA R62) l98)]) ?_ ?_
     ·refine wc_sr ?_
      refine WL.mv rfl rfl ?_
      refine WL.qn (y_not rfl) rfl ?_
      refine WL.mv rfl rfl ?_
      obtain ⟨b101, hb101, h⟩ := bindS h
      apply WL.grp 9 (t := 38) (d := 47) (z := b101)
      ·exact rfl
      ·intro hg38
       have h := condT hb101 hg38
       refine WL.qy (y_fieldAddr f26_1 rfl) rfl rfl rfl ?_
       refine WL.qy (y_load rfl rfl a24 rfl) rfl rfl rfl ?_
       refine WL.qy (y_move rfl) rfl rfl rfl ?_
       obtain ⟨x102, hx102, h⟩ := bindS h
       refine WL.qy (y_indexAddr e24 rfl (Le.refl _) rfl (idx_nonneg hx102) (idx_row E62_eq hx102) rfl) rfl rfl rfl ?_
       refine WL.qy (y_fieldAddrc f62_0 rfl) rfl rfl rfl ?_
       refine WL.qy (y_loadc rfl a2 rfl) rfl rfl rfl ?_
       refine WL.qy (y_move rfl) rfl rfl rfl ?_
       refine WL.qy (y_gtr rfl rfl) rfl rfl rfl ?_
       refine WL.qn (y_pick_t rfl rfl) rfl ?_
       obtain rfl := Option.some.inj h
       exact WL.nil ⟨rfl, [_, _, _, _, _, _, _, _, _], rfl, rfl, rfl⟩
      ·intro hg38
       have h := condF hb101 hg38
       refine WL.skips 8 rfl ?_
       refine WL.qn (y_pick_f rfl rfl) rfl ?_
       obtain rfl := Option.some.inj h
       exact WL.nil ⟨rfl, [_, _, _, _, _, _, _, _, _], rfl, rfl, rfl⟩
      refine WL.ns ?_
      refine wc_cond rfl (fun hc4 => ?_) (fun hc4 => ?_)
      ·replace h := condT h hc4
       refine wc_sr ?_
       refine WL.mv rfl rfl ?_
       refine WL.mv rfl rfl ?_
       refine WL.mv rfl rfl ?_
       refine WL.qn (y_build p62 z62 rfl rfl) rfl ?_
       refine WL.s ((NewOs.b (n_buildSlice l24 z62 rfl (by decide) (by decide) rfl rfl rfl (by decide))).does) (Wt.none rfl) rfl rfl ?_
       replace h := guardBS h
       obtain ⟨hgg103, h⟩ := h
       refine WL.s (d_appendL R62 l91 [(Due.mk time1 task2)] l24 z62 rfl (by decide) rfl rfl rfl rfl (Src.own rfl) (fun _ => rfl) (fun _ => rfl) hgg103) (Wt.none rfl) rfl rfl ?_
       refine WL.as rfl rfl ?_
       refine WL.ns ?_
       refine wc_region ?_
       refine WL.as rfl rfl ?_
       refine WL.nil ?_
       refine WE.drop 3 (env' := [(1, .d (D.i .i64 time1)), (2, .d (D.i .i64 task2)), (3, .pt 0 0), (6, .pt 1 0), (8, .os 2 (ver92 + 1)), (9, .d (D.b true)), (10, .d (D.i .i64 iq90))]) (Sub.one rfl (Sub.one rfl (Sub.one rfl (Sub.one rfl (Sub.one rfl (Sub.one rfl (Sub.one rfl (Sub.nil _)))))))) rfl (stLt_cons rfl (stLt_cons rfl (stLt_cons (lt_os _ _ _ _ _ _) rfl))) (Nat.zero_le _) ?_
       exact we_lp ⟨true, (l91 ++ [(Due.mk time1 task2)]), _, h, (Sub.cons rfl (Le.refl _) (Sub.cons rfl (Le.refl _) (Sub.cons rfl (Le.refl _) (Sub.cons rfl (Le.refl _) (Sub.cons rfl (Le.refl _) (Sub.cons rfl (Le.refl _) (Sub.cons rfl (Le.refl _) (Sub.nil _)))))))), ⟨⟨rfl, Les.refl _⟩, ⟨rfl, Les.refl _⟩, ⟨rfl, rfl, rfl, rfl⟩, trivial⟩⟩
      ·replace h := condF h hc4
       refine wc_skip ?_
       exact we_lp ⟨done89, l91, _, h, (Sub.cons rfl (Le.refl _) (Sub.cons rfl (Le.refl _) (Sub.cons rfl (Le.refl _) (Sub.cons rfl (Le.refl _) (Sub.cons rfl (Le.refl _) (Sub.cons rfl (Le.refl _) (Sub.cons rfl (Le.refl _) (Sub.nil _)))))))), ⟨⟨rfl, Les.refl _⟩, ⟨rfl, Les.refl _⟩, ⟨rfl, rfl, rfl, rfl⟩, trivial⟩⟩
     ·rintro env1 st1 ⟨done97, l98, ver99, h, hsub, hst⟩
      subst hk100
      dsimp only at h
      refine WC.sub hsub (WC.weak hst ?_)
      refine wc_region ?_
      refine WL.mv rfl rfl ?_
      refine WL.qn (y_fieldAddr f26_1 rfl) rfl ?_
      refine WL.qn (y_load rfl rfl a24 rfl) rfl ?_
      refine WL.mv rfl rfl ?_
      obtain ⟨x104, hx104, h⟩ := bindS h
      refine WL.qn (y_indexAddr e24 rfl (Le.refl _) rfl (idx_nonneg hx104) (idx_row E62_eq hx104) rfl) rfl ?_
      refine WL.qn (y_loadcN rfl a62 s62 rfl) rfl ?_
      refine WL.s ((NewOs.b (n_buildSlice l24 z62 rfl (by decide) (by decide) rfl rfl rfl (by decide))).does) (Wt.none rfl) rfl rfl ?_
      replace h := guardBS h
      obtain ⟨hgg105, h⟩ := h
      refine WL.s (d_appendL R62 l98 [x104] l24 z62 rfl (by decide) rfl rfl rfl rfl (Src.own rfl) (fun _ => rfl) (fun _ => rfl) hgg105) (Wt.none rfl) rfl rfl ?_
      refine WL.as rfl rfl ?_
      refine WL.nil ?_
      refine we_blk ?_
      refine we_seq ?_
      refine wc_region ?_
      refine WL.mv rfl rfl ?_
      refine WL.qn (y_add rfl rfl rfl) rfl ?_
      refine WL.as rfl rfl ?_
      refine WL.nil ?_
      refine WE.drop 3 (env' := [(1, .d (D.i .i64 time1)), (2, .d (D.i .i64 task2)), (3, .pt 0 0), (6, .pt 1 0), (8, .os 2 (ver99 + 1)), (9, .d (D.b done97)), (10, .d (D.i .i64 (IntKind.i64.wrap (iq90 + 1))))]) (Sub.one rfl (Sub.one rfl (Sub.one rfl (Sub.one rfl (Sub.one rfl (Sub.one rfl (Sub.one rfl (Sub.nil _)))))))) rfl (stLt_cons rfl (stLt_cons rfl (stLt_cons (lt_os _ _ _ _ _ _) rfl))) (Nat.zero_le _) ?_
      exact we_lp ⟨n, ⟨done97, (IntKind.i64.wrap (iq90 + 1)), (l98 ++ [x104]), _, h, (Sub.cons rfl (Le.refl _) (Sub.cons rfl (Le.refl _) (Sub.cons rfl (Le.refl _) (Sub.cons rfl (Le.refl _) (Sub.cons rfl (Le.refl _) (Sub.cons rfl (Le.refl _) (Sub.cons rfl (Le.refl _) (Sub.nil _)))))))), ⟨⟨rfl, Les.refl _⟩, ⟨rfl, Les.refl _⟩, ⟨rfl, rfl, rfl, rfl⟩, trivial⟩⟩, Nat.lt_succ_self n⟩
    ·replace h := condF h hc3
     refine wc_exit ?_
     refine we_seq_exit ?_
     refine we_lp_exit ?_
     refine we_blk_hit ?_
     exact we_lp ⟨done89, l91, _, h, (Sub.cons rfl (Le.refl _) (Sub.cons rfl (Le.refl _) (Sub.cons rfl (Le.refl _) (Sub.cons rfl (Le.refl _) (Sub.cons rfl (Le.refl _) (Sub.cons rfl (Le.refl _) (Sub.nil _))))))), ⟨⟨rfl, Les.refl _⟩, ⟨rfl, Les.refl _⟩, ⟨rfl, rfl, rfl, rfl⟩, trivial⟩⟩
   ·rintro env1 st1 ⟨done81, l82, ver83, h, hsub, hst⟩
    subst hk84
    dsimp only at h
    refine WC.sub hsub (WC.weak hst ?_)
    replace h := letkS h
    obtain ⟨k108, hk108, h⟩ := h
    refine wc_cut (fun env' st' => ∃ (l106 : List Due), ∃ (ver107 : Nat), k108 l106 = some r ∧ Sub [(3, .pt 0 0), (6, .pt 1 0), (8, .os 2 ver107)] env' ∧ SLe st' [.row 26 (vecA 32 (fun j => .d (.sl (List.map E3 (q0.ready j)))) ++ ([.d (.sl (List.map E62 q0.delays)), .d (D.i .i64 q0.run)] : List AV)), .row 26 [sN, sN, sN, sN, sN, sN, sN, sN, sN, sN, sN, sN, sN, sN, sN, sN, sN, sN, sN, sN, sN, sN, sN, sN, sN, sN, sN, sN, sN, sN, sN, sN, sN, .d (D.i .i64 0)], .os 62 2 ver107 (List.map (encA R62) l106)]) ?_ ?_
    ·refine wc_sr ?_
     refine WL.mv rfl rfl ?_
     refine WL.qn (y_not rfl) rfl ?_
     refine WL.ns ?_
     refine wc_cond rfl (fun hc5 => ?_) (fun hc5 => ?_)
     ·replace h := condT h hc5
      refine wc_region ?_
      refine WL.mv rfl rfl ?_
      refine WL.mv rfl rfl ?_
      refine WL.mv rfl rfl ?_
      refine WL.qn (y_build p62 z62 rfl rfl) rfl ?_
      refine WL.s ((NewOs.b (n_buildSlice l24 z62 rfl (by decide) (by decide) rfl rfl rfl (by decide))).does) (Wt.none rfl) rfl rfl ?_
      replace h := guardBS h
      obtain ⟨hgg109, h⟩ := h
      refine WL.s (d_appendL R62 l82 [(Due.mk time1 task2)] l24 z62 rfl (by decide) rfl rfl rfl rfl (Src.own rfl) (fun _ => rfl) (fun _ => rfl) hgg109) (Wt.none rfl) rfl rfl ?_
      refine WL.as rfl rfl ?_
      refine WL.nil ?_
      refine WE.drop 3 (env' := [(3, .pt 0 0), (6, .pt 1 0), (8, .os 2 (ver83 + 1))]) (Sub.one rfl (Sub.one rfl (Sub.one rfl (Sub.nil _)))) rfl (stLt_cons rfl (stLt_cons rfl (stLt_cons (lt_os _ _ _ _ _ _) rfl))) (Nat.zero_le _) ?_
      exact we_lp ⟨(l82 ++ [(Due.mk time1 task2)]), _, h, (Sub.cons rfl (Le.refl _) (Sub.cons rfl (Le.refl _) (Sub.cons rfl (Le.refl _) (Sub.nil _)))), ⟨⟨rfl, Les.refl _⟩, ⟨rfl, Les.refl _⟩, ⟨rfl, rfl, rfl, rfl⟩, trivial⟩⟩
     ·replace h := condF h hc5
      refine wc_skip ?_
      exact we_lp ⟨l82, _, h, (Sub.cons rfl (Le.refl _) (Sub.cons rfl (Le.refl _) (Sub.cons rfl (Le.refl _) (Sub.nil _)))), ⟨⟨rfl, Les.refl _⟩, ⟨rfl, Les.refl _⟩, ⟨rfl, rfl, rfl, rfl⟩, trivial⟩⟩
    ·rintro env1 st1 ⟨l106, ver107, h, hsub, hst⟩
     subst hk108
     dsimp only at h
     refine WC.sub hsub (WC.weak hst ?_)
     refine wc_sr ?_
     refine WL.qn (y_loadN rfl rfl a26 s26 rfl) rfl ?_
     obtain ⟨r110, hr110, h⟩ := bindS h
     refine WL.fn rfl rfl rfl rfl (O.f23_c _ hr110) ⟨(Le.agd ⟨(Le.refl _), (Le.refl _), (Le.refl _), (Le.refl _), (Le.refl _), (Le.refl _), (Le.refl _), (Le.refl _), (Le.refl _), (Le.refl _), (Le.refl _), (Le.refl _), (Le.refl _), (Le.refl _), (Le.refl _), (Le.refl _), (Le.refl _), (Le.refl _), (Le.refl _), (Le.refl _), (Le.refl _), (Le.refl _), (Le.refl _), (Le.refl _), (Le.refl _), (Le.refl _), (Le.refl _), (Le.refl _), (Le.refl _), (Le.refl _), (Le.refl _), (Le.refl _), (Le.refl _), (Le.refl _), trivial⟩), trivial⟩ (Wt.none rfl) rfl rfl ?_
     refine WL.s0 (d_store rfl rfl rfl rfl rfl rfl s26 rfl rfl) (Wt.none rfl) rfl ?_
     refine WL.st (st' := [.row 26 (vecA 32 (fun j => .d (.sl (List.map E3 (r110.ready j)))) ++ ([.d (.sl (List.map E62 r110.delays)), .d (D.i .i64 r110.run)] : List AV)), .row 26 [sN, sN, sN, sN, sN, sN, sN, sN, sN, sN, sN, sN, sN, sN, sN, sN, sN, sN, sN, sN, sN, sN, sN, sN, sN, sN, sN, sN, sN, sN, sN, sN, sN, .d (D.i .i64 0)], .os 62 2 ver107 (List.map (encA R62) l106)]) rfl ?_
     refine WL.ns ?_
     refine wc_sr ?_
     refine WL.mv rfl rfl ?_
     refine WL.qn (y_fieldAddr f26_1 rfl) rfl ?_
     refine WL.s0 (d_store1 rfl rfl rfl (one_os rfl) s24 rfl) (Wt.none rfl) rfl ?_
     refine WL.st (st' := [.row 26 (vecA 32 (fun j => .d (.sl (List.map E3 (r110.ready j)))) ++ ([.os 2 ver107, .d (D.i .i64 r110.run)] : List AV)), .row 26 [sN, sN, sN, sN, sN, sN, sN, sN, sN, sN, sN, sN, sN, sN, sN, sN, sN, sN, sN, sN, sN, sN, sN, sN, sN, sN, sN, sN, sN, sN, sN, sN, sN, .d (D.i .i64 0)], .os 62 2 ver107 (List.map (encA R62) l106)]) rfl ?_
     refine WL.ns ?_
     refine wc_sr ?_
     refine WL.freezeX [8, 72] [(0, 32)] 2 (List.map E62 l106) rfl (encA_map E62_eq l106) ⟨rfl, rfl, trivial⟩ ⟨_, _, rfl, rfl, trivial⟩ ?_
     refine WL.qn (y_loadN rfl rfl a26 s26 rfl) rfl ?_
     refine WL.s0 (d_store rfl rfl rfl rfl rfl rfl s26 rfl rfl) (Wt.none rfl) rfl ?_
     refine WL.st (st' := [.row 26 (vecA 32 (fun j => .d (.sl (List.map E3 (r110.ready j)))) ++ ([.d (.sl (List.map E62 l106)), .d (D.i .i64 r110.run)] : List AV)), .row 26 (vecA 32 (fun j => .d (.sl (List.map E3 (r110.ready j)))) ++ ([.d (.sl (List.map E62 l106)), .d (D.i .i64 r110.run)] : List AV)), .dead]) rfl ?_
     refine WL.as rfl rfl ?_
     refine WL.ns ?_
     refine wc_ret ?_
     obtain rfl := Option.some.inj h
     exact we_ret_fn (rs2 rfl (rv_cN rfl rfl a26 s26 rfl) (rv_t rfl)) (Le.tud ⟨(Le.agd ⟨(Le.refl _), (Le.refl _), (Le.refl _), (Le.refl _), (Le.refl _), (Le.refl _), (Le.refl _), (Le.refl _), (Le.refl _), (Le.refl _), (Le.refl _), (Le.refl _), (Le.refl _), (Le.refl _), (Le.refl _), (Le.refl _), (Le.refl _), (Le.refl _), (Le.refl _), (Le.refl _), (Le.refl _), (Le.refl _), (Le.refl _), (Le.refl _), (Le.refl _), (Le.refl _), (Le.refl _), (Le.refl _), (Le.refl _), (Le.refl _), (Le.refl _), (Le.refl _), (Le.refl _), (Le.refl _), trivial⟩), (Le.refl _), trivial⟩)

end Go.Proofs.Ytpionlekbfoccaa
