/- The walks of functions that this law reaches. -/
import Derived.Test.YteafckpdbmncfaaDoorWd
import Derived.Test.YteafckpdbmncfaaDoorWm
set_option maxHeartbeats 4000000
set_option maxRecDepth 100000
namespace Go.Proofs.YteafckpdbmncfaaDoor
open Go Go.Sk

theorem f25_c (t0 : Table) (sub1 : Int) {r : Int × Int × Bool} (h : f25 t0 sub1 = some r) : Pu Tryd.prog 25 [.ag (R28 t0), .i .i64 sub1] (.tu [.i .i64 r.1, .i .i64 r.2.1, .b r.2.2]) := by
 unfold f25 at h
 refine fn_intro Tryd.func25 (by kernel_rfl) rfl rfl rfl (fun φφ ww => ?_)
 refine wc_sr ?_
 refine WL.s ((b_boxd rfl rfl (Les.refl _)).does) (Wt.none rfl) rfl rfl ?_
 refine WL.as rfl rfl ?_
 refine WL.as rfl rfl ?_
 refine WL.as rfl rfl ?_
 refine WL.ns ?_
 refine wc_sr ?_
 refine WL.qn (y_loadcN rfl a28 s28 rfl) rfl ?_
 refine WL.qn (y_build p61 z61 rfl rfl) rfl ?_
 refine WL.mv rfl rfl ?_
 obtain ⟨r17, hr17, h⟩ := bindS h
 refine WL.fn rfl rfl rfl rfl (f43_c _ _ hr17) ⟨(Le.agd ⟨(Le.refl _), (Le.refl _), (Le.refl _), (Le.refl _), (Le.refl _), trivial⟩), (Le.refl _), trivial⟩ (Wt.none rfl) rfl rfl ?_
 refine WL.qn (y_extractd rfl rfl) rfl ?_
 refine WL.qn (y_extractd rfl rfl) rfl ?_
 refine WL.qn (y_extractd rfl rfl) rfl ?_
 refine WL.as rfl rfl ?_
 refine WL.as rfl rfl ?_
 refine WL.as rfl rfl ?_
 refine WL.ns ?_
 refine wc_ret ?_
 obtain rfl := Option.some.inj h
 exact we_ret_fn (rs3 rfl (rv_t rfl) (rv_t rfl) (rv_t rfl)) (Le.tud ⟨(Le.refl _), (Le.refl _), (Le.refl _), trivial⟩)

theorem f57_c (l0 : List Int) (i1 : Int) {r : Int × Bool} (h : f57 l0 i1 = some r) : Pu Tryd.prog 57 [.sl (List.map E3 l0), .i .i64 i1] (.tu [.i .i64 r.1, .b r.2]) := by
 unfold f57 at h
 refine fn_intro Tryd.func57 (by kernel_rfl) rfl rfl rfl (fun φφ ww => ?_)
 refine wc_sr ?_
 refine WL.as rfl rfl ?_
 refine WL.as rfl rfl ?_
 refine WL.ns ?_
 refine wc_seq ?_
 refine wc_sr ?_
 refine WL.mv rfl rfl ?_
 refine WL.qn (y_lss rfl rfl) rfl ?_
 refine WL.mv rfl rfl ?_
 apply WL.or 5 (t := 8) (d := 13)
 ·exact rfl
 ·intro hg8
  refine WL.qy (y_move rfl) rfl rfl rfl ?_
  refine WL.qy (y_move rfl) rfl rfl rfl ?_
  refine WL.qy (y_len_map E3 l0 e82 rfl rfl (Le.refl _)) rfl rfl rfl ?_
  refine WL.qy (y_geq rfl rfl) rfl rfl rfl ?_
  refine WL.qn (y_pick_f rfl rfl) rfl ?_
  exact WL.nil ⟨rfl, [_, _, _, _, _], rfl, rfl, rfl⟩
 ·refine WL.skips 4 rfl ?_
  refine WL.qn (y_pick_t rfl rfl) rfl ?_
  exact WL.nil ⟨rfl, [_, _, _, _, _], rfl, rfl, rfl⟩
 refine WL.ns ?_
 refine wc_cond rfl (fun hc1 => ?_) (fun hc1 => ?_)
 ·replace h := condT h hc1
  refine wc_sr ?_
  refine WL.mv rfl rfl ?_
  refine WL.as rfl rfl ?_
  refine WL.as rfl rfl ?_
  refine WL.ns ?_
  refine wc_ret ?_
  refine we_seq_ret ?_
  obtain rfl := Option.some.inj h
  exact we_ret_fn (rs2 rfl (rv_t rfl) (rv_t rfl)) (Le.tud ⟨(Le.refl _), (Le.refl _), trivial⟩)
 ·replace h := condF h hc1
  refine wc_skip ?_
  refine we_seq ?_
  refine wc_sr ?_
  refine WL.mv rfl rfl ?_
  refine WL.mv rfl rfl ?_
  obtain ⟨x22, hx22, h⟩ := bindS h
  refine WL.qn (y_indexAddr e82 rfl (Le.refl _) rfl (idx_nonneg hx22) (idx_row E3_eq hx22) rfl) rfl ?_
  refine WL.qn (y_loadc rfl a3 rfl) rfl ?_
  refine WL.as rfl rfl ?_
  refine WL.as rfl rfl ?_
  refine WL.ns ?_
  refine wc_ret ?_
  obtain rfl := Option.some.inj h
  exact we_ret_fn (rs2 rfl (rv_t rfl) (rv_t rfl)) (Le.tud ⟨(Le.refl _), (Le.refl _), trivial⟩)

theorem f27_c (t0 : Table) (sub1 : Int) (slot2 : Int) {r : Int × Bool} (h : f27 t0 sub1 slot2 = some r) : Pu Tryd.prog 27 [.ag (R28 t0), .i .i64 sub1, .i .i64 slot2] (.tu [.i .i64 r.1, .b r.2]) := by
 unfold f27 at h
 refine fn_intro Tryd.func27 (by kernel_rfl) rfl rfl rfl (fun φφ ww => ?_)
 refine wc_sr ?_
 refine WL.s ((b_boxd rfl rfl (Les.refl _)).does) (Wt.none rfl) rfl rfl ?_
 refine WL.as rfl rfl ?_
 refine WL.as rfl rfl ?_
 refine WL.ns ?_
 refine wc_sr ?_
 refine WL.qn (y_loadcN rfl a28 s28 rfl) rfl ?_
 refine WL.qn (y_build p61 z61 rfl rfl) rfl ?_
 refine WL.mv rfl rfl ?_
 obtain ⟨r20, hr20, h⟩ := bindS h
 refine WL.fn rfl rfl rfl rfl (f58_c _ _ hr20) ⟨(Le.agd ⟨(Le.refl _), (Le.refl _), (Le.refl _), (Le.refl _), (Le.refl _), trivial⟩), (Le.refl _), trivial⟩ (Wt.none rfl) rfl rfl ?_
 refine WL.mv rfl rfl ?_
 obtain ⟨r21, hr21, h⟩ := bindS h
 refine WL.fn rfl rfl rfl rfl (f57_c _ _ hr21) ⟨(Le.refl _), (Le.refl _), trivial⟩ (Wt.none rfl) rfl rfl ?_
 refine WL.qn (y_extractd rfl rfl) rfl ?_
 refine WL.qn (y_extractd rfl rfl) rfl ?_
 refine WL.as rfl rfl ?_
 refine WL.as rfl rfl ?_
 refine WL.ns ?_
 refine wc_ret ?_
 obtain rfl := Option.some.inj h
 exact we_ret_fn (rs2 rfl (rv_t rfl) (rv_t rfl)) (Le.tud ⟨(Le.refl _), (Le.refl _), trivial⟩)
theorem f8_c (t0 : Table) {r : Bool} (h : f8 t0 = some r) : Pu Tryd.prog 8 [.ag (R28 t0)] (.b r) := by
 unfold f8 at h
 refine fn_intro Tryd.func8 (by kernel_rfl) rfl rfl rfl (fun φφ ww => ?_)
 refine wc_sr ?_
 refine WL.s ((b_box rfl rfl).does) (Wt.none rfl) rfl rfl ?_
 refine WL.as rfl rfl ?_
 refine WL.ns ?_
 refine wc_sr ?_
 refine WL.qn (y_loadN rfl rfl a28 s28 rfl) rfl ?_
 obtain ⟨r205, hr205, h⟩ := bindS h
 refine WL.fn rfl rfl rfl rfl (f10_c _ hr205) ⟨(Le.agd ⟨(Le.refl _), (Le.refl _), (Le.refl _), (Le.refl _), (Le.refl _), trivial⟩), trivial⟩ (Wt.none rfl) rfl rfl ?_
 refine WL.s0 (d_store rfl rfl rfl rfl rfl rfl s28 rfl rfl) (Wt.none rfl) rfl ?_
 refine WL.ns ?_
 refine wc_seq ?_
 refine wc_sr ?_
 refine WL.qn (y_loadN rfl rfl a28 s28 rfl) rfl ?_
 obtain ⟨r206, hr206, h⟩ := bindS h
 refine WL.fn rfl rfl rfl rfl (f24_c _ hr206) ⟨(Le.agd ⟨(Le.refl _), (Le.refl _), (Le.refl _), (Le.refl _), (Le.refl _), trivial⟩), trivial⟩ (Wt.none rfl) rfl rfl ?_
 refine WL.qn (y_not rfl) rfl ?_
 refine WL.ns ?_
 refine wc_cond rfl (fun hc1 => ?_) (fun hc1 => ?_)
 ·replace h := condT h hc1
  refine wc_sr ?_
  obtain ⟨r207, hr207, h⟩ := bindS h
  refine WL.fn rfl rfl rfl rfl (f17_c hr207) trivial (Wt.none rfl) rfl rfl ?_
  refine WL.as rfl rfl ?_
  refine WL.ns ?_
  refine wc_ret ?_
  refine we_seq_ret ?_
  obtain rfl := Option.some.inj h
  exact we_ret_fn (rs1 rfl (rv_t rfl)) (Le.refl _)
 ·replace h := condF h hc1
  refine wc_skip ?_
  refine we_seq ?_
  replace h := letkS h
  obtain ⟨k208, hk208, h⟩ := h
  refine wc_cut (fun env' st' => k208 () = some r ∧ Sub [] env' ∧ SLe st' [.row 28 [.d (.sl (List.map E54 r205.types)), .d (.sl (List.map E40 r205.subs)), .d (.v (SlV.v r205.ents)), .d (.v (SlV.v r205.gens)), .d (.v (SlV.v r205.insts))]]) ?_ ?_
  ·refine wc_sr ?_
   refine WL.qn (y_fieldAddr f28_1 rfl) rfl ?_
   refine WL.qn (y_load rfl rfl a23 rfl) rfl ?_
   refine WL.qn (y_len_map E40 r205.subs e23 rfl rfl (Le.refl _)) rfl ?_
   refine WL.mv rfl rfl ?_
   refine WL.ns ?_
   refine wc_block ?_
   refine wc_loop (fun n env' st' => ∃ (t210 : Int), f8_l1 r205 k208 n t210 = some r ∧ Sub [(1, .pt 0 0), (34, .d (D.i .i64 (List.length r205.subs : Int))), (35, .d (D.i .i64 t210))] env' ∧ SLe st' [.row 28 [.d (.sl (List.map E54 r205.types)), .d (.sl (List.map E40 r205.subs)), .d (.v (SlV.v r205.ents)), .d (.v (SlV.v r205.gens)), .d (.v (SlV.v r205.insts))]]) (fun n => n) (Int.toNat ((List.length r205.subs : Int) - 0) + 1) ⟨0, h, (Sub.cons rfl (Le.refl _) (Sub.cons rfl (Le.refl _) (Sub.cons rfl (Le.refl _) (Sub.nil _)))), ⟨⟨rfl, ⟨(Le.refl _), (Le.refl _), (Le.refl _), (Le.refl _), (Le.refl _), trivial⟩⟩, trivial⟩⟩ ?_
   rintro n env1 st1 ⟨t210, h, hsub, hst⟩
   cases n with
   | zero => rw [f8_l1] at h; cases h
   | succ n =>
   rw [f8_l1] at h
   refine WC.sub hsub (WC.weak hst ?_)
   refine wc_sr ?_
   refine WL.qn (y_lss rfl rfl) rfl ?_
   refine WL.ns ?_
   refine wc_seq ?_
   refine wc_cond rfl (fun hc2 => ?_) (fun hc2 => ?_)
   ·replace h := condT h hc2
    refine wc_skip ?_
    refine we_seq ?_
    replace h := letkS h
    obtain ⟨k230, hk230, h⟩ := h
    refine wc_cut (fun env' st' => ∃ (c10212 : Int), ∃ (c11213 : ByteArray), ∃ (c12214 : Int), ∃ (c13215 : Int), ∃ (c14216 : List ByteArray), ∃ (c15217 : Int), ∃ (c16218 : Int), ∃ (c17219 : Int), ∃ (c18220 : ByteArray), ∃ (c19221 : Bool), ∃ (c110222 : Int), ∃ (c111223 : List CompRow), ∃ (c112224 : Int), ∃ (c113225 : Int), ∃ (c114226 : Bool), ∃ (c115227 : Int), ∃ (c116228 : Int), ∃ (c117229 : Int), k230 c10212 c11213 c12214 c13215 c14216 c15217 c16218 c17219 c18220 c19221 c110222 c111223 c112224 c113225 c114226 c115227 c116228 c117229 = some r ∧ Sub [(1, .pt 0 0), (34, .d (D.i .i64 (List.length r205.subs : Int))), (35, .d (D.i .i64 t210))] env' ∧ SLe st' [.row 28 [.d (.sl (List.map E54 r205.types)), .d (.sl (List.map E40 r205.subs)), .d (.v (SlV.v r205.ents)), .d (.v (SlV.v r205.gens)), .d (.v (SlV.v r205.insts))], .row 54 [.d (D.i .u8 c10212), .d (D.s c11213), .d (D.i .i64 c12214), .d (D.i .i64 c13215), .d (.sl (List.map E9 c14216)), .d (D.i .i64 c15217), .d (D.i .i64 c16218), .d (D.i .i64 c17219), .d (D.s c18220), .d (D.b c19221), .d (D.i .i64 c110222), .d (.sl (List.map E56 c111223)), .d (D.i .i64 c112224), .d (D.i .u8 c113225), .d (D.b c114226), .d (D.i .i64 c115227), .d (D.i .i64 c116228), .d (D.i .i64 c117229)]]) ?_ ?_
    ·refine wc_block ?_
     refine wc_sr ?_
     refine WL.mv rfl rfl ?_
     refine WL.as rfl rfl ?_
     refine WL.ns ?_
     refine wc_seq ?_
     obtain ⟨x231, hx231, h⟩ := bindS h
     obtain ⟨x232, hx232, h⟩ := bindS h
     apply wc_region_all [_, _, _, _, _, _, _, _, _, _, _, .u] [[], [0], [], [2], [], [2, 3, 4], [2, 3, 4, 5], [2, 3, 4, 5, 6], [0, 1, 2, 3, 4, 5, 6, 7], [0, 1, 2, 3, 4, 5, 6, 7, 8], [], [0, 1, 2, 3, 4, 5, 6, 7, 8, 9, 10]] [10, 11] (fun c => List.getD [[.row 28 [.d (.sl (List.map E54 r205.types)), .d (.sl (List.map E40 r205.subs)), .d (.v (SlV.v r205.ents)), .d (.v (SlV.v r205.gens)), .d (.v (SlV.v r205.insts))]], [.row 28 [.d (.sl (List.map E54 r205.types)), .d (.sl (List.map E40 r205.subs)), .d (.v (SlV.v r205.ents)), .d (.v (SlV.v r205.gens)), .d (.v (SlV.v r205.insts))], .row 54 [.d (D.i .u8 0), .d (D.s ByteArray.empty), .d (D.i .i64 0), .d (D.i .i64 0), .d (.v (.slice none 0 0)), .d (D.i .i64 0), .d (D.i .i64 0), .d (D.i .i64 0), .d (D.s ByteArray.empty), .d (D.b false), .d (D.i .i64 0), .d (.v (.slice none 0 0)), .d (D.i .i64 0), .d (D.i .u8 0), .d (D.b false), .d (D.i .i64 0), .d (D.i .i64 0), .d (D.i .i64 0)]], [.row 28 [.d (.sl (List.map E54 r205.types)), .d (.sl (List.map E40 r205.subs)), .d (.v (SlV.v r205.ents)), .d (.v (SlV.v r205.gens)), .d (.v (SlV.v r205.insts))], .row 54 [.d (D.i .u8 x232.kind), .d (D.s x232.name), .d (D.i .i64 x232.parent), .d (D.i .i64 x232.first), .d (.sl (List.map E9 x232.lits)), .d (D.i .i64 x232.index), .d (D.i .i64 x232.elem), .d (D.i .i64 x232.disc), .d (D.s x232.discName), .d (D.b x232.has), .d (D.i .i64 x232.default_), .d (.sl (List.map E56 x232.comps)), .d (D.i .i64 x232.target), .d (D.i .u8 x232.formal), .d (D.b x232.limited), .d (D.i .i64 x232.priv), .d (D.i .i64 x232.full), .d (D.i .i64 x232.level)]]] c []) [([], [1], [0, 1]), ([0], [], [0, 1]), ([], [1], [0, 1]), ([2], [], [0, 1]), ([], [3], [0, 1]), ([3, 4], [], [0, 1]), ([5], [], [0, 1]), ([6], [], [0, 1]), ([1, 7], [], [0, 1]), ([8], [], [0, 1]), ([], [], [0]), ([10, 9], [], [1])] (by kernel_rfl) (by kernel_rfl) rfl rfl rfl
     ·refine ⟨?_, ?_, ?_, ?_, ?_, ?_, ?_, ?_, ?_, ?_, ?_, ?_, trivial⟩
      ·refine ⟨fun F => ?_, fun F => ?_, trivial⟩
       ·refine WL.qn (y_fieldAddr f28_0 rfl) rfl ?_
        exact WL.done1 rfl rfl rfl
       ·refine WL.qn (y_fieldAddr f28_0 rfl) rfl ?_
        exact WL.done1 rfl rfl rfl
      ·refine ⟨fun F => ?_, fun F => ?_, trivial⟩
       ·refine WL.qn (y_load rfl rfl a22 rfl) rfl ?_
        exact WL.done1 rfl rfl rfl
       ·refine WL.qn (y_load rfl rfl a22 rfl) rfl ?_
        exact WL.done1 rfl rfl rfl
      ·refine ⟨fun F => ?_, fun F => ?_, trivial⟩
       ·refine WL.qn (y_fieldAddr f28_1 rfl) rfl ?_
        exact WL.done1 rfl rfl rfl
       ·refine WL.qn (y_fieldAddr f28_1 rfl) rfl ?_
        exact WL.done1 rfl rfl rfl
      ·refine ⟨fun F => ?_, fun F => ?_, trivial⟩
       ·refine WL.qn (y_load rfl rfl a23 rfl) rfl ?_
        exact WL.done1 rfl rfl rfl
       ·refine WL.qn (y_load rfl rfl a23 rfl) rfl ?_
        exact WL.done1 rfl rfl rfl
      ·refine ⟨fun F => ?_, fun F => ?_, trivial⟩
       ·refine WL.mv rfl rfl ?_
        exact WL.done1 rfl rfl rfl
       ·refine WL.mv rfl rfl ?_
        exact WL.done1 rfl rfl rfl
      ·refine ⟨fun F => ?_, fun F => ?_, trivial⟩
       ·refine WL.qn (y_indexAddr e23 rfl (Le.refl _) rfl (idx_nonneg hx231) (idx_row E40_eq hx231) rfl) rfl ?_
        exact WL.done1 rfl rfl rfl
       ·refine WL.qn (y_indexAddr e23 rfl (Le.refl _) rfl (idx_nonneg hx231) (idx_row E40_eq hx231) rfl) rfl ?_
        exact WL.done1 rfl rfl rfl
      ·refine ⟨fun F => ?_, fun F => ?_, trivial⟩
       ·refine WL.qn (y_fieldAddrc f40_0 rfl) rfl ?_
        exact WL.done1 rfl rfl rfl
       ·refine WL.qn (y_fieldAddrc f40_0 rfl) rfl ?_
        exact WL.done1 rfl rfl rfl
      ·refine ⟨fun F => ?_, fun F => ?_, trivial⟩
       ·refine WL.qn (y_loadc rfl a3 rfl) rfl ?_
        exact WL.done1 rfl rfl rfl
       ·refine WL.qn (y_loadc rfl a3 rfl) rfl ?_
        exact WL.done1 rfl rfl rfl
      ·refine ⟨fun F => ?_, fun F => ?_, trivial⟩
       ·refine WL.qn (y_indexAddr e22 rfl (Le.refl _) rfl (idx_nonneg hx232) (idx_row E54_eq hx232) rfl) rfl ?_
        exact WL.done1 rfl rfl rfl
       ·refine WL.qn (y_indexAddr e22 rfl (Le.refl _) rfl (idx_nonneg hx232) (idx_row E54_eq hx232) rfl) rfl ?_
        exact WL.done1 rfl rfl rfl
      ·refine ⟨fun F => ?_, fun F => ?_, trivial⟩
       ·refine WL.qn (y_loadcN rfl a54 s54 rfl) rfl ?_
        exact WL.done1 rfl rfl rfl
       ·refine WL.qn (y_loadcN rfl a54 s54 rfl) rfl ?_
        exact WL.done1 rfl rfl rfl
      ·refine ⟨fun F => ?_, trivial⟩
       refine WL.s ((b_alloc z54).does) (Wt.none rfl) rfl rfl ?_
       exact WL.done1 rfl rfl rfl
      ·refine ⟨fun F => ?_, trivial⟩
       refine WL.s0 (d_store rfl rfl rfl rfl rfl rfl s54 rfl rfl) (Wt.none rfl) rfl ?_
       exact WL.done0 rfl rfl
     ·refine we_seq ?_
      refine wc_sr ?_
      refine WL.as rfl rfl ?_
      refine WL.ns ?_
      replace h := letkS h
      obtain ⟨k234, hk234, h⟩ := h
      refine wc_cut (fun env' st' => ∃ (n233 : Int), k234 n233 = some r ∧ Sub [(1, .pt 0 0), (3, .d (D.i .i64 t210)), (5, .d (D.i .i64 n233)), (34, .d (D.i .i64 (List.length r205.subs : Int))), (35, .d (D.i .i64 t210))] env' ∧ SLe st' [.row 28 [.d (.sl (List.map E54 r205.types)), .d (.sl (List.map E40 r205.subs)), .d (.v (SlV.v r205.ents)), .d (.v (SlV.v r205.gens)), .d (.v (SlV.v r205.insts))], .row 54 [.d (D.i .u8 x232.kind), .d (D.s x232.name), .d (D.i .i64 x232.parent), .d (D.i .i64 x232.first), .d (.sl (List.map E9 x232.lits)), .d (D.i .i64 x232.index), .d (D.i .i64 x232.elem), .d (D.i .i64 x232.disc), .d (D.s x232.discName), .d (D.b x232.has), .d (D.i .i64 x232.default_), .d (.sl (List.map E56 x232.comps)), .d (D.i .i64 x232.target), .d (D.i .u8 x232.formal), .d (D.b x232.limited), .d (D.i .i64 x232.priv), .d (D.i .i64 x232.full), .d (D.i .i64 x232.level)]]) ?_ ?_
      ·refine wc_sr ?_
       refine WL.qn (y_fieldAddr f54_0 rfl) rfl ?_
       refine WL.qn (y_load rfl rfl a49 rfl) rfl ?_
       refine WL.ns ?_
       refine wc_block ?_
       refine wc_sr ?_
       refine WL.qn (y_eql rfl rfl) rfl ?_
       refine WL.as rfl rfl ?_
       refine WL.ns ?_
       refine wc_cond rfl (fun hc3 => ?_) (fun hc3 => ?_)
       ·replace h := condT h hc3
        refine wc_sr ?_
        refine WL.qn (y_loadN rfl rfl a28 s28 rfl) rfl ?_
        refine WL.qn (y_fieldAddr f54_5 rfl) rfl ?_
        refine WL.qn (y_load rfl rfl a3 rfl) rfl ?_
        obtain ⟨r235, hr235, h⟩ := bindS h
        refine WL.fn rfl rfl rfl rfl (f25_c _ _ hr235) ⟨(Le.agd ⟨(Le.refl _), (Le.refl _), (Le.refl _), (Le.refl _), (Le.refl _), trivial⟩), (Le.refl _), trivial⟩ (Wt.none rfl) rfl rfl ?_
        refine WL.mv rfl rfl ?_
        refine WL.qn (y_extractd rfl rfl) rfl ?_
        refine WL.qn (y_extractd rfl rfl) rfl ?_
        refine WL.qn (y_extractd rfl rfl) rfl ?_
        refine WL.as rfl rfl ?_
        refine WL.as rfl rfl ?_
        refine WL.as rfl rfl ?_
        refine WL.ns ?_
        refine wc_sr ?_
        refine WL.as rfl rfl ?_
        refine WL.ns ?_
        refine wc_sr ?_
        refine WL.mv rfl rfl ?_
        refine WL.as rfl rfl ?_
        refine WL.ns ?_
        refine wc_block ?_
        refine wc_loop (fun na env' st' => ∃ (n238 : Int), ∃ (v239 : Int), f8_l2 r205 t210 x232 k234 r235 na n238 v239 = some r ∧ Sub [(1, .pt 0 0), (3, .d (D.i .i64 t210)), (4, .pt 1 0), (5, .d (D.i .i64 n238)), (7, .d (D.i .i64 r235.2.1)), (9, .d (D.i .i64 v239)), (34, .d (D.i .i64 (List.length r205.subs : Int))), (35, .d (D.i .i64 t210))] env' ∧ SLe st' [.row 28 [.d (.sl (List.map E54 r205.types)), .d (.sl (List.map E40 r205.subs)), .d (.v (SlV.v r205.ents)), .d (.v (SlV.v r205.gens)), .d (.v (SlV.v r205.insts))], .row 54 [.d (D.i .u8 x232.kind), .d (D.s x232.name), .d (D.i .i64 x232.parent), .d (D.i .i64 x232.first), .d (.sl (List.map E9 x232.lits)), .d (D.i .i64 x232.index), .d (D.i .i64 x232.elem), .d (D.i .i64 x232.disc), .d (D.s x232.discName), .d (D.b x232.has), .d (D.i .i64 x232.default_), .d (.sl (List.map E56 x232.comps)), .d (D.i .i64 x232.target), .d (D.i .u8 x232.formal), .d (D.b x232.limited), .d (D.i .i64 x232.priv), .d (D.i .i64 x232.full), .d (D.i .i64 x232.level)]]) (fun n => n) 9223372036854775808 ⟨0, r235.1, h, (Sub.cons rfl (Le.refl _) (Sub.cons rfl (Le.refl _) (Sub.cons rfl (Le.refl _) (Sub.cons rfl (Le.refl _) (Sub.cons rfl (Le.refl _) (Sub.cons rfl (Le.refl _) (Sub.cons rfl (Le.refl _) (Sub.cons rfl (Le.refl _) (Sub.nil _))))))))), ⟨⟨rfl, ⟨(Le.refl _), (Le.refl _), (Le.refl _), (Le.refl _), (Le.refl _), trivial⟩⟩, ⟨rfl, ⟨(Le.refl _), (Le.refl _), (Le.refl _), (Le.refl _), (Le.refl _), (Le.refl _), (Le.refl _), (Le.refl _), (Le.refl _), (Le.refl _), (Le.refl _), (Le.refl _), (Le.refl _), (Le.refl _), (Le.refl _), (Le.refl _), (Le.refl _), (Le.refl _), trivial⟩⟩, trivial⟩⟩ ?_
        rintro na env1 st1 ⟨n238, v239, h, hsub, hst⟩
        cases na with
        | zero => rw [f8_l2] at h; cases h
        | succ na =>
        rw [f8_l2] at h
        refine WC.sub hsub (WC.weak hst ?_)
        refine wc_seq ?_
        refine wc_sr ?_
        refine WL.mv rfl rfl ?_
        refine WL.mv rfl rfl ?_
        refine WL.qn (y_leq rfl rfl) rfl ?_
        refine WL.ns ?_
        refine wc_cond rfl (fun hc4 => ?_) (fun hc4 => ?_)
        ·replace h := condT h hc4
         refine wc_skip ?_
         refine we_seq ?_
         refine wc_seq ?_
         refine wc_block ?_
         refine wc_sr ?_
         refine WL.qn (y_loadN rfl rfl a28 s28 rfl) rfl ?_
         refine WL.mv rfl rfl ?_
         refine WL.mv rfl rfl ?_
         obtain ⟨r242, hr242, h⟩ := bindS h
         refine WL.fn rfl rfl rfl rfl (f11_c _ _ _ hr242) ⟨(Le.agd ⟨(Le.refl _), (Le.refl _), (Le.refl _), (Le.refl _), (Le.refl _), trivial⟩), (Le.refl _), (Le.refl _), trivial⟩ (Wt.none rfl) rfl rfl ?_
         refine WL.mv rfl rfl ?_
         refine WL.qn (y_extractd rfl rfl) rfl ?_
         refine WL.qn (y_extractd rfl rfl) rfl ?_
         refine WL.as rfl rfl ?_
         refine WL.as rfl rfl ?_
         refine WL.ns ?_
         refine wc_sr ?_
         refine WL.qn (y_loadN rfl rfl a28 s28 rfl) rfl ?_
         refine WL.mv rfl rfl ?_
         refine WL.mv rfl rfl ?_
         obtain ⟨r243, hr243, h⟩ := bindS h
         refine WL.fn rfl rfl rfl rfl (f27_c _ _ _ hr243) ⟨(Le.agd ⟨(Le.refl _), (Le.refl _), (Le.refl _), (Le.refl _), (Le.refl _), trivial⟩), (Le.refl _), (Le.refl _), trivial⟩ (Wt.none rfl) rfl rfl ?_
         refine WL.mv rfl rfl ?_
         refine WL.qn (y_extractd rfl rfl) rfl ?_
         refine WL.qn (y_extractd rfl rfl) rfl ?_
         refine WL.as rfl rfl ?_
         refine WL.as rfl rfl ?_
         refine WL.ns ?_
         refine wc_seq ?_
         refine wc_sr ?_
         refine WL.mv rfl rfl ?_
         refine WL.qn (y_not rfl) rfl ?_
         refine WL.mv rfl rfl ?_
         apply WL.or 4 (t := 82) (d := 86)
         ·exact rfl
         ·intro hg82
          refine WL.qy (y_move rfl) rfl rfl rfl ?_
          refine WL.qy (y_move rfl) rfl rfl rfl ?_
          refine WL.qy (y_neq rfl rfl) rfl rfl rfl ?_
          refine WL.qn (y_pick_f rfl rfl) rfl ?_
          exact WL.nil ⟨rfl, [_, _, _, _], rfl, rfl, rfl⟩
         ·refine WL.skips 3 rfl ?_
          refine WL.qn (y_pick_t rfl rfl) rfl ?_
          exact WL.nil ⟨rfl, [_, _, _, _], rfl, rfl, rfl⟩
         refine WL.mv rfl rfl ?_
         apply WL.or 3 (t := 87) (d := 90)
         ·exact rfl
         ·intro hg87
          refine WL.qy (y_move rfl) rfl rfl rfl ?_
          refine WL.qy (y_not rfl) rfl rfl rfl ?_
          refine WL.qn (y_pick_f rfl rfl) rfl ?_
          exact WL.nil ⟨rfl, [_, _, _], rfl, rfl, rfl⟩
         ·refine WL.skips 2 rfl ?_
          refine WL.qn (y_pick_t rfl rfl) rfl ?_
          exact WL.nil ⟨rfl, [_, _, _], rfl, rfl, rfl⟩
         refine WL.mv rfl rfl ?_
         apply WL.or 5 (t := 91) (d := 96)
         ·exact rfl
         ·intro hg91
          refine WL.qy (y_move rfl) rfl rfl rfl ?_
          refine WL.qy (y_fieldAddr f54_6 rfl) rfl rfl rfl ?_
          refine WL.qy (y_load rfl rfl a3 rfl) rfl rfl rfl ?_
          refine WL.qy (y_neq rfl rfl) rfl rfl rfl ?_
          refine WL.qn (y_pick_f rfl rfl) rfl ?_
          exact WL.nil ⟨rfl, [_, _, _, _, _], rfl, rfl, rfl⟩
         ·refine WL.skips 4 rfl ?_
          refine WL.qn (y_pick_t rfl rfl) rfl ?_
          exact WL.nil ⟨rfl, [_, _, _, _, _], rfl, rfl, rfl⟩
         refine WL.ns ?_
         refine wc_cond rfl (fun hc5 => ?_) (fun hc5 => ?_)
         ·replace h := condT h hc5
          refine wc_sr ?_
          refine WL.as rfl rfl ?_
          refine WL.ns ?_
          refine wc_ret ?_
          refine we_seq_ret ?_
          refine we_blk_ret ?_
          refine we_seq_ret ?_
          refine we_lp_ret ?_
          refine we_blk_ret ?_
          refine we_blk_ret ?_
          refine we_lp_ret ?_
          refine we_blk_ret ?_
          refine we_lp_ret ?_
          refine we_lp_ret ?_
          refine we_blk_ret ?_
          refine we_lp_ret ?_
          obtain rfl := Option.some.inj h
          exact we_ret_fn (rs1 rfl (rv_t rfl)) (Le.refl _)
         ·replace h := condF h hc5
          refine wc_skip ?_
          refine we_seq ?_
          refine wc_region ?_
          refine WL.mv rfl rfl ?_
          refine WL.qn (y_add rfl rfl rfl) rfl ?_
          refine WL.as rfl rfl ?_
          refine WL.nil ?_
          refine we_blk ?_
          refine we_seq ?_
          refine wc_region ?_
          refine WL.mv rfl rfl ?_
          refine WL.qn (y_add rfl rfl rfl) rfl ?_
          refine WL.as rfl rfl ?_
          refine WL.nil ?_
          exact we_lp ⟨na, ⟨(IntKind.i64.wrap (n238 + 1)), (IntKind.i64.wrap (v239 + 1)), h, (Sub.cons rfl (Le.refl _) (Sub.cons rfl (Le.refl _) (Sub.cons rfl (Le.refl _) (Sub.cons rfl (Le.refl _) (Sub.cons rfl (Le.refl _) (Sub.cons rfl (Le.refl _) (Sub.cons rfl (Le.refl _) (Sub.cons rfl (Le.refl _) (Sub.nil _))))))))), ⟨⟨rfl, ⟨(Le.refl _), (Le.refl _), (Le.refl _), (Le.refl _), (Le.refl _), trivial⟩⟩, ⟨rfl, ⟨(Le.refl _), (Le.refl _), (Le.refl _), (Le.refl _), (Le.refl _), (Le.refl _), (Le.refl _), (Le.refl _), (Le.refl _), (Le.refl _), (Le.refl _), (Le.refl _), (Le.refl _), (Le.refl _), (Le.refl _), (Le.refl _), (Le.refl _), (Le.refl _), trivial⟩⟩, trivial⟩⟩, Nat.lt_succ_self na⟩
        ·replace h := condF h hc4
         refine wc_exit ?_
         refine we_seq_exit ?_
         refine we_lp_exit ?_
         refine we_blk_hit ?_
         refine we_blk ?_
         exact we_lp ⟨n238, h, (Sub.cons rfl (Le.refl _) (Sub.cons rfl (Le.refl _) (Sub.cons rfl (Le.refl _) (Sub.cons rfl (Le.refl _) (Sub.cons rfl (Le.refl _) (Sub.nil _)))))), ⟨⟨rfl, ⟨(Le.refl _), (Le.refl _), (Le.refl _), (Le.refl _), (Le.refl _), trivial⟩⟩, ⟨rfl, ⟨(Le.refl _), (Le.refl _), (Le.refl _), (Le.refl _), (Le.refl _), (Le.refl _), (Le.refl _), (Le.refl _), (Le.refl _), (Le.refl _), (Le.refl _), (Le.refl _), (Le.refl _), (Le.refl _), (Le.refl _), (Le.refl _), (Le.refl _), (Le.refl _), trivial⟩⟩, trivial⟩⟩
       ·replace h := condF h hc3
        refine wc_sr ?_
        refine WL.qn (y_eql rfl rfl) rfl ?_
        refine WL.as rfl rfl ?_
        refine WL.ns ?_
        refine wc_cond rfl (fun hc6 => ?_) (fun hc6 => ?_)
        ·replace h := condT h hc6
         refine wc_sr ?_
         refine WL.qn (y_fieldAddr f54_11 rfl) rfl ?_
         refine WL.qn (y_load rfl rfl a51 rfl) rfl ?_
         refine WL.qn (y_len_map E56 x232.comps e51 rfl rfl (Le.refl _)) rfl ?_
         refine WL.as rfl rfl ?_
         refine WL.ns ?_
         replace h := letkS h
         obtain ⟨k245, hk245, h⟩ := h
         refine wc_cut (fun env' st' => ∃ (n244 : Int), k245 n244 = some r ∧ Sub [(1, .pt 0 0), (3, .d (D.i .i64 t210)), (4, .pt 1 0), (5, .d (D.i .i64 n244)), (34, .d (D.i .i64 (List.length r205.subs : Int))), (35, .d (D.i .i64 t210))] env' ∧ SLe st' [.row 28 [.d (.sl (List.map E54 r205.types)), .d (.sl (List.map E40 r205.subs)), .d (.v (SlV.v r205.ents)), .d (.v (SlV.v r205.gens)), .d (.v (SlV.v r205.insts))], .row 54 [.d (D.i .u8 x232.kind), .d (D.s x232.name), .d (D.i .i64 x232.parent), .d (D.i .i64 x232.first), .d (.sl (List.map E9 x232.lits)), .d (D.i .i64 x232.index), .d (D.i .i64 x232.elem), .d (D.i .i64 x232.disc), .d (D.s x232.discName), .d (D.b x232.has), .d (D.i .i64 x232.default_), .d (.sl (List.map E56 x232.comps)), .d (D.i .i64 x232.target), .d (D.i .u8 x232.formal), .d (D.b x232.limited), .d (D.i .i64 x232.priv), .d (D.i .i64 x232.full), .d (D.i .i64 x232.level)]]) ?_ ?_
         ·refine wc_sr ?_
          refine WL.qn (y_fieldAddr f54_7 rfl) rfl ?_
          refine WL.qn (y_load rfl rfl a3 rfl) rfl ?_
          refine WL.qn (y_geq rfl rfl) rfl ?_
          refine WL.ns ?_
          refine wc_cond rfl (fun hc7 => ?_) (fun hc7 => ?_)
          ·replace h := condT h hc7
           refine wc_sr ?_
           refine WL.qn (y_loadN rfl rfl a28 s28 rfl) rfl ?_
           refine WL.mv rfl rfl ?_
           refine WL.qn (y_fieldAddr f54_8 rfl) rfl ?_
           refine WL.qn (y_load rfl rfl a9 rfl) rfl ?_
           obtain ⟨r246, hr246, h⟩ := bindS h
           refine WL.fn rfl rfl rfl rfl (f13_c _ _ _ hr246) ⟨(Le.agd ⟨(Le.refl _), (Le.refl _), (Le.refl _), (Le.refl _), (Le.refl _), trivial⟩), (Le.refl _), (Le.refl _), trivial⟩ (Wt.none rfl) rfl rfl ?_
           refine WL.mv rfl rfl ?_
           refine WL.qn (y_extractd rfl rfl) rfl ?_
           refine WL.qn (y_extractd rfl rfl) rfl ?_
           refine WL.as rfl rfl ?_
           refine WL.as rfl rfl ?_
           refine WL.ns ?_
           refine wc_sr ?_
           refine WL.qn (y_loadN rfl rfl a28 s28 rfl) rfl ?_
           refine WL.mv rfl rfl ?_
           obtain ⟨r247, hr247, h⟩ := bindS h
           refine WL.fn rfl rfl rfl rfl (f27_c _ _ _ hr247) ⟨(Le.agd ⟨(Le.refl _), (Le.refl _), (Le.refl _), (Le.refl _), (Le.refl _), trivial⟩), (Le.refl _), (Le.refl _), trivial⟩ (Wt.none rfl) rfl rfl ?_
           refine WL.mv rfl rfl ?_
           refine WL.qn (y_extractd rfl rfl) rfl ?_
           refine WL.qn (y_extractd rfl rfl) rfl ?_
           refine WL.as rfl rfl ?_
           refine WL.as rfl rfl ?_
           refine WL.ns ?_
           refine wc_seq ?_
           refine wc_sr ?_
           refine WL.mv rfl rfl ?_
           refine WL.qn (y_not rfl) rfl ?_
           refine WL.mv rfl rfl ?_
           apply WL.or 3 (t := 123) (d := 126)
           ·exact rfl
           ·intro hg123
            refine WL.qy (y_move rfl) rfl rfl rfl ?_
            refine WL.qy (y_neq rfl rfl) rfl rfl rfl ?_
            refine WL.qn (y_pick_f rfl rfl) rfl ?_
            exact WL.nil ⟨rfl, [_, _, _], rfl, rfl, rfl⟩
           ·refine WL.skips 2 rfl ?_
            refine WL.qn (y_pick_t rfl rfl) rfl ?_
            exact WL.nil ⟨rfl, [_, _, _], rfl, rfl, rfl⟩
           refine WL.mv rfl rfl ?_
           apply WL.or 3 (t := 127) (d := 130)
           ·exact rfl
           ·intro hg127
            refine WL.qy (y_move rfl) rfl rfl rfl ?_
            refine WL.qy (y_not rfl) rfl rfl rfl ?_
            refine WL.qn (y_pick_f rfl rfl) rfl ?_
            exact WL.nil ⟨rfl, [_, _, _], rfl, rfl, rfl⟩
           ·refine WL.skips 2 rfl ?_
            refine WL.qn (y_pick_t rfl rfl) rfl ?_
            exact WL.nil ⟨rfl, [_, _, _], rfl, rfl, rfl⟩
           refine WL.mv rfl rfl ?_
           apply WL.or 5 (t := 131) (d := 136)
           ·exact rfl
           ·intro hg131
            refine WL.qy (y_move rfl) rfl rfl rfl ?_
            refine WL.qy (y_fieldAddr f54_7 rfl) rfl rfl rfl ?_
            refine WL.qy (y_load rfl rfl a3 rfl) rfl rfl rfl ?_
            refine WL.qy (y_neq rfl rfl) rfl rfl rfl ?_
            refine WL.qn (y_pick_f rfl rfl) rfl ?_
            exact WL.nil ⟨rfl, [_, _, _, _, _], rfl, rfl, rfl⟩
           ·refine WL.skips 4 rfl ?_
            refine WL.qn (y_pick_t rfl rfl) rfl ?_
            exact WL.nil ⟨rfl, [_, _, _, _, _], rfl, rfl, rfl⟩
           refine WL.ns ?_
           refine wc_cond rfl (fun hc8 => ?_) (fun hc8 => ?_)
           ·replace h := condT h hc8
            refine wc_sr ?_
            refine WL.as rfl rfl ?_
            refine WL.ns ?_
            refine wc_ret ?_
            refine we_seq_ret ?_
            refine we_lp_ret ?_
            refine we_blk_ret ?_
            refine we_lp_ret ?_
            refine we_blk_ret ?_
            refine we_lp_ret ?_
            refine we_lp_ret ?_
            refine we_blk_ret ?_
            refine we_lp_ret ?_
            obtain rfl := Option.some.inj h
            exact we_ret_fn (rs1 rfl (rv_t rfl)) (Le.refl _)
           ·replace h := condF h hc8
            refine wc_skip ?_
            refine we_seq ?_
            refine wc_region ?_
            refine WL.mv rfl rfl ?_
            refine WL.qn (y_add rfl rfl rfl) rfl ?_
            refine WL.as rfl rfl ?_
            refine WL.nil ?_
            exact we_lp ⟨(IntKind.i64.wrap ((List.length x232.comps : Int) + 1)), h, (Sub.cons rfl (Le.refl _) (Sub.cons rfl (Le.refl _) (Sub.cons rfl (Le.refl _) (Sub.cons rfl (Le.refl _) (Sub.cons rfl (Le.refl _) (Sub.cons rfl (Le.refl _) (Sub.nil _))))))), ⟨⟨rfl, ⟨(Le.refl _), (Le.refl _), (Le.refl _), (Le.refl _), (Le.refl _), trivial⟩⟩, ⟨rfl, ⟨(Le.refl _), (Le.refl _), (Le.refl _), (Le.refl _), (Le.refl _), (Le.refl _), (Le.refl _), (Le.refl _), (Le.refl _), (Le.refl _), (Le.refl _), (Le.refl _), (Le.refl _), (Le.refl _), (Le.refl _), (Le.refl _), (Le.refl _), (Le.refl _), trivial⟩⟩, trivial⟩⟩
          ·replace h := condF h hc7
           refine wc_skip ?_
           exact we_lp ⟨(List.length x232.comps : Int), h, (Sub.cons rfl (Le.refl _) (Sub.cons rfl (Le.refl _) (Sub.cons rfl (Le.refl _) (Sub.cons rfl (Le.refl _) (Sub.cons rfl (Le.refl _) (Sub.cons rfl (Le.refl _) (Sub.nil _))))))), ⟨⟨rfl, ⟨(Le.refl _), (Le.refl _), (Le.refl _), (Le.refl _), (Le.refl _), trivial⟩⟩, ⟨rfl, ⟨(Le.refl _), (Le.refl _), (Le.refl _), (Le.refl _), (Le.refl _), (Le.refl _), (Le.refl _), (Le.refl _), (Le.refl _), (Le.refl _), (Le.refl _), (Le.refl _), (Le.refl _), (Le.refl _), (Le.refl _), (Le.refl _), (Le.refl _), (Le.refl _), trivial⟩⟩, trivial⟩⟩
         ·rintro env1 st1 ⟨n244, h, hsub, hst⟩
          subst hk245
          dsimp only at h
          refine WC.sub hsub (WC.weak hst ?_)
          refine wc_sr ?_
          refine WL.qn (y_fieldAddr f54_11 rfl) rfl ?_
          refine WL.qn (y_load rfl rfl a51 rfl) rfl ?_
          refine WL.qn (y_len_map E56 x232.comps e51 rfl rfl (Le.refl _)) rfl ?_
          refine WL.mv rfl rfl ?_
          refine WL.ns ?_
          refine wc_block ?_
          refine wc_loop (fun na env' st' => ∃ (t249 : Int), f8_l3 r205 t210 x232 k234 n244 na t249 = some r ∧ Sub [(1, .pt 0 0), (3, .d (D.i .i64 t210)), (4, .pt 1 0), (5, .d (D.i .i64 n244)), (34, .d (D.i .i64 (List.length r205.subs : Int))), (35, .d (D.i .i64 t210)), (140, .d (.sl (List.map E56 x232.comps))), (141, .d (D.i .i64 (List.length x232.comps : Int))), (142, .d (D.i .i64 t249))] env' ∧ SLe st' [.row 28 [.d (.sl (List.map E54 r205.types)), .d (.sl (List.map E40 r205.subs)), .d (.v (SlV.v r205.ents)), .d (.v (SlV.v r205.gens)), .d (.v (SlV.v r205.insts))], .row 54 [.d (D.i .u8 x232.kind), .d (D.s x232.name), .d (D.i .i64 x232.parent), .d (D.i .i64 x232.first), .d (.sl (List.map E9 x232.lits)), .d (D.i .i64 x232.index), .d (D.i .i64 x232.elem), .d (D.i .i64 x232.disc), .d (D.s x232.discName), .d (D.b x232.has), .d (D.i .i64 x232.default_), .d (.sl (List.map E56 x232.comps)), .d (D.i .i64 x232.target), .d (D.i .u8 x232.formal), .d (D.b x232.limited), .d (D.i .i64 x232.priv), .d (D.i .i64 x232.full), .d (D.i .i64 x232.level)]]) (fun n => n) (Int.toNat ((List.length x232.comps : Int) - 0) + 1) ⟨0, h, (Sub.cons rfl (Le.refl _) (Sub.cons rfl (Le.refl _) (Sub.cons rfl (Le.refl _) (Sub.cons rfl (Le.refl _) (Sub.cons rfl (Le.refl _) (Sub.cons rfl (Le.refl _) (Sub.cons rfl (Le.refl _) (Sub.cons rfl (Le.refl _) (Sub.cons rfl (Le.refl _) (Sub.nil _)))))))))), ⟨⟨rfl, ⟨(Le.refl _), (Le.refl _), (Le.refl _), (Le.refl _), (Le.refl _), trivial⟩⟩, ⟨rfl, ⟨(Le.refl _), (Le.refl _), (Le.refl _), (Le.refl _), (Le.refl _), (Le.refl _), (Le.refl _), (Le.refl _), (Le.refl _), (Le.refl _), (Le.refl _), (Le.refl _), (Le.refl _), (Le.refl _), (Le.refl _), (Le.refl _), (Le.refl _), (Le.refl _), trivial⟩⟩, trivial⟩⟩ ?_
          rintro na env1 st1 ⟨t249, h, hsub, hst⟩
          cases na with
          | zero => rw [f8_l3] at h; cases h
          | succ na =>
          rw [f8_l3] at h
          refine WC.sub hsub (WC.weak hst ?_)
          refine wc_sr ?_
          refine WL.qn (y_lss rfl rfl) rfl ?_
          refine WL.ns ?_
          refine wc_seq ?_
          refine wc_cond rfl (fun hc9 => ?_) (fun hc9 => ?_)
          ·replace h := condT h hc9
           refine wc_skip ?_
           refine we_seq ?_
           refine wc_seq ?_
           refine wc_block ?_
           refine wc_sr ?_
           refine WL.mv rfl rfl ?_
           obtain ⟨x251, hx251, h⟩ := bindS h
           refine WL.qn (y_indexAddr e51 rfl (Le.refl _) rfl (idx_nonneg hx251) (idx_row E56_eq hx251) rfl) rfl ?_
           refine WL.qn (y_loadcN rfl a56 s56 rfl) rfl ?_
           refine WL.s ((b_alloc z56).does) (Wt.none rfl) rfl rfl ?_
           refine WL.as rfl rfl ?_
           refine WL.s0 (d_store rfl rfl rfl rfl rfl rfl s56 rfl rfl) (Wt.none rfl) rfl ?_
           refine WL.st (st' := [.row 28 [.d (.sl (List.map E54 r205.types)), .d (.sl (List.map E40 r205.subs)), .d (.v (SlV.v r205.ents)), .d (.v (SlV.v r205.gens)), .d (.v (SlV.v r205.insts))], .row 54 [.d (D.i .u8 x232.kind), .d (D.s x232.name), .d (D.i .i64 x232.parent), .d (D.i .i64 x232.first), .d (.sl (List.map E9 x232.lits)), .d (D.i .i64 x232.index), .d (D.i .i64 x232.elem), .d (D.i .i64 x232.disc), .d (D.s x232.discName), .d (D.b x232.has), .d (D.i .i64 x232.default_), .d (.sl (List.map E56 x232.comps)), .d (D.i .i64 x232.target), .d (D.i .u8 x232.formal), .d (D.b x232.limited), .d (D.i .i64 x232.priv), .d (D.i .i64 x232.full), .d (D.i .i64 x232.level)], .row 56 [.d (D.s x251.name), .d (D.i .i64 x251.sub), .d (D.b x251.has), .d (D.i .i64 x251.default_), .d (D.b x251.variant), .d (.sl (List.map E2 x251.when))]]) rfl ?_
           refine WL.ns ?_
           refine wc_sr ?_
           refine WL.qn (y_loadN rfl rfl a28 s28 rfl) rfl ?_
           refine WL.mv rfl rfl ?_
           refine WL.qn (y_fieldAddr f56_0 rfl) rfl ?_
           refine WL.qn (y_load rfl rfl a9 rfl) rfl ?_
           obtain ⟨r252, hr252, h⟩ := bindS h
           refine WL.fn rfl rfl rfl rfl (f13_c _ _ _ hr252) ⟨(Le.agd ⟨(Le.refl _), (Le.refl _), (Le.refl _), (Le.refl _), (Le.refl _), trivial⟩), (Le.refl _), (Le.refl _), trivial⟩ (Wt.none rfl) rfl rfl ?_
           refine WL.mv rfl rfl ?_
           refine WL.qn (y_extractd rfl rfl) rfl ?_
           refine WL.qn (y_extractd rfl rfl) rfl ?_
           refine WL.as rfl rfl ?_
           refine WL.as rfl rfl ?_
           refine WL.ns ?_
           refine wc_sr ?_
           refine WL.qn (y_loadN rfl rfl a28 s28 rfl) rfl ?_
           refine WL.mv rfl rfl ?_
           refine WL.mv rfl rfl ?_
           obtain ⟨r253, hr253, h⟩ := bindS h
           refine WL.fn rfl rfl rfl rfl (f27_c _ _ _ hr253) ⟨(Le.agd ⟨(Le.refl _), (Le.refl _), (Le.refl _), (Le.refl _), (Le.refl _), trivial⟩), (Le.refl _), (Le.refl _), trivial⟩ (Wt.none rfl) rfl rfl ?_
           refine WL.mv rfl rfl ?_
           refine WL.qn (y_extractd rfl rfl) rfl ?_
           refine WL.qn (y_extractd rfl rfl) rfl ?_
           refine WL.as rfl rfl ?_
           refine WL.as rfl rfl ?_
           refine WL.ns ?_
           refine wc_sr ?_
           refine WL.mv rfl rfl ?_
           refine WL.qn (y_not rfl) rfl ?_
           refine WL.mv rfl rfl ?_
           apply WL.or 10 (t := 164) (d := 174)
           ·exact rfl
           ·intro hg164
            refine WL.qy (y_move rfl) rfl rfl rfl ?_
            refine WL.qy (y_move rfl) rfl rfl rfl ?_
            refine WL.qy (y_fieldAddr f54_11 rfl) rfl rfl rfl ?_
            refine WL.qy (y_load rfl rfl a51 rfl) rfl rfl rfl ?_
            refine WL.qy (y_len_map E56 x232.comps e51 rfl rfl (Le.refl _)) rfl rfl rfl ?_
            refine WL.qy (y_sub rfl rfl rfl) rfl rfl rfl ?_
            refine WL.qy (y_move rfl) rfl rfl rfl ?_
            refine WL.qy (y_add rfl rfl rfl) rfl rfl rfl ?_
            refine WL.qy (y_neq rfl rfl) rfl rfl rfl ?_
            refine WL.qn (y_pick_f rfl rfl) rfl ?_
            exact WL.nil ⟨rfl, [_, _, _, _, _, _, _, _, _, _], rfl, rfl, rfl⟩
           ·refine WL.skips 9 rfl ?_
            refine WL.qn (y_pick_t rfl rfl) rfl ?_
            exact WL.nil ⟨rfl, [_, _, _, _, _, _, _, _, _, _], rfl, rfl, rfl⟩
           refine WL.mv rfl rfl ?_
           apply WL.or 3 (t := 175) (d := 178)
           ·exact rfl
           ·intro hg175
            refine WL.qy (y_move rfl) rfl rfl rfl ?_
            refine WL.qy (y_not rfl) rfl rfl rfl ?_
            refine WL.qn (y_pick_f rfl rfl) rfl ?_
            exact WL.nil ⟨rfl, [_, _, _], rfl, rfl, rfl⟩
           ·refine WL.skips 2 rfl ?_
            refine WL.qn (y_pick_t rfl rfl) rfl ?_
            exact WL.nil ⟨rfl, [_, _, _], rfl, rfl, rfl⟩
           refine WL.mv rfl rfl ?_
           apply WL.or 5 (t := 179) (d := 184)
           ·exact rfl
           ·intro hg179
            refine WL.qy (y_move rfl) rfl rfl rfl ?_
            refine WL.qy (y_fieldAddr f56_1 rfl) rfl rfl rfl ?_
            refine WL.qy (y_load rfl rfl a3 rfl) rfl rfl rfl ?_
            refine WL.qy (y_neq rfl rfl) rfl rfl rfl ?_
            refine WL.qn (y_pick_f rfl rfl) rfl ?_
            exact WL.nil ⟨rfl, [_, _, _, _, _], rfl, rfl, rfl⟩
           ·refine WL.skips 4 rfl ?_
            refine WL.qn (y_pick_t rfl rfl) rfl ?_
            exact WL.nil ⟨rfl, [_, _, _, _, _], rfl, rfl, rfl⟩
           refine WL.ns ?_
           refine wc_cond rfl (fun hc10 => ?_) (fun hc10 => ?_)
           ·replace h := condT h hc10
            refine wc_sr ?_
            refine WL.as rfl rfl ?_
            refine WL.ns ?_
            refine wc_ret ?_
            refine we_blk_ret ?_
            refine we_seq_ret ?_
            refine we_lp_ret ?_
            refine we_blk_ret ?_
            refine we_blk_ret ?_
            refine we_lp_ret ?_
            refine we_blk_ret ?_
            refine we_lp_ret ?_
            refine we_lp_ret ?_
            refine we_blk_ret ?_
            refine we_lp_ret ?_
            obtain rfl := Option.some.inj h
            exact we_ret_fn (rs1 rfl (rv_t rfl)) (Le.refl _)
           ·replace h := condF h hc10
            refine wc_skip ?_
            refine we_blk ?_
            refine we_seq ?_
            refine wc_region ?_
            refine WL.qn (y_add rfl rfl rfl) rfl ?_
            refine WL.mv rfl rfl ?_
            refine WL.nil ?_
            refine WE.drop 2 (env' := [(1, .pt 0 0), (3, .d (D.i .i64 t210)), (4, .pt 1 0), (5, .d (D.i .i64 n244)), (34, .d (D.i .i64 (List.length r205.subs : Int))), (35, .d (D.i .i64 t210)), (140, .d (.sl (List.map E56 x232.comps))), (141, .d (D.i .i64 (List.length x232.comps : Int))), (142, .d (D.i .i64 (IntKind.i64.wrap (t249 + 1))))]) (Sub.one rfl (Sub.one rfl (Sub.one rfl (Sub.one rfl (Sub.one rfl (Sub.one rfl (Sub.one rfl (Sub.one rfl (Sub.one rfl (Sub.nil _)))))))))) rfl rfl (Nat.zero_le _) ?_
            exact we_lp ⟨na, ⟨(IntKind.i64.wrap (t249 + 1)), h, (Sub.cons rfl (Le.refl _) (Sub.cons rfl (Le.refl _) (Sub.cons rfl (Le.refl _) (Sub.cons rfl (Le.refl _) (Sub.cons rfl (Le.refl _) (Sub.cons rfl (Le.refl _) (Sub.cons rfl (Le.refl _) (Sub.cons rfl (Le.refl _) (Sub.cons rfl (Le.refl _) (Sub.nil _)))))))))), ⟨⟨rfl, ⟨(Le.refl _), (Le.refl _), (Le.refl _), (Le.refl _), (Le.refl _), trivial⟩⟩, ⟨rfl, ⟨(Le.refl _), (Le.refl _), (Le.refl _), (Le.refl _), (Le.refl _), (Le.refl _), (Le.refl _), (Le.refl _), (Le.refl _), (Le.refl _), (Le.refl _), (Le.refl _), (Le.refl _), (Le.refl _), (Le.refl _), (Le.refl _), (Le.refl _), (Le.refl _), trivial⟩⟩, trivial⟩⟩, Nat.lt_succ_self na⟩
          ·replace h := condF h hc9
           refine wc_exit ?_
           refine we_seq_exit ?_
           refine we_lp_exit ?_
           refine we_blk_hit ?_
           refine we_blk ?_
           exact we_lp ⟨n244, h, (Sub.cons rfl (Le.refl _) (Sub.cons rfl (Le.refl _) (Sub.cons rfl (Le.refl _) (Sub.cons rfl (Le.refl _) (Sub.cons rfl (Le.refl _) (Sub.nil _)))))), ⟨⟨rfl, ⟨(Le.refl _), (Le.refl _), (Le.refl _), (Le.refl _), (Le.refl _), trivial⟩⟩, ⟨rfl, ⟨(Le.refl _), (Le.refl _), (Le.refl _), (Le.refl _), (Le.refl _), (Le.refl _), (Le.refl _), (Le.refl _), (Le.refl _), (Le.refl _), (Le.refl _), (Le.refl _), (Le.refl _), (Le.refl _), (Le.refl _), (Le.refl _), (Le.refl _), (Le.refl _), trivial⟩⟩, trivial⟩⟩
        ·replace h := condF h hc6
         refine wc_skip ?_
         refine we_blk ?_
         exact we_lp ⟨1, h, (Sub.cons rfl (Le.refl _) (Sub.cons rfl (Le.refl _) (Sub.cons rfl (Le.refl _) (Sub.cons rfl (Le.refl _) (Sub.cons rfl (Le.refl _) (Sub.nil _)))))), ⟨⟨rfl, ⟨(Le.refl _), (Le.refl _), (Le.refl _), (Le.refl _), (Le.refl _), trivial⟩⟩, ⟨rfl, ⟨(Le.refl _), (Le.refl _), (Le.refl _), (Le.refl _), (Le.refl _), (Le.refl _), (Le.refl _), (Le.refl _), (Le.refl _), (Le.refl _), (Le.refl _), (Le.refl _), (Le.refl _), (Le.refl _), (Le.refl _), (Le.refl _), (Le.refl _), (Le.refl _), trivial⟩⟩, trivial⟩⟩
      ·rintro env1 st1 ⟨n233, h, hsub, hst⟩
       subst hk234
       dsimp only at h
       refine WC.sub hsub (WC.weak hst ?_)
       refine wc_sr ?_
       refine WL.qn (y_loadN rfl rfl a28 s28 rfl) rfl ?_
       refine WL.mv rfl rfl ?_
       refine WL.mv rfl rfl ?_
       obtain ⟨r254, hr254, h⟩ := bindS h
       refine WL.fn rfl rfl rfl rfl (f27_c _ _ _ hr254) ⟨(Le.agd ⟨(Le.refl _), (Le.refl _), (Le.refl _), (Le.refl _), (Le.refl _), trivial⟩), (Le.refl _), (Le.refl _), trivial⟩ (Wt.none rfl) rfl rfl ?_
       refine WL.mv rfl rfl ?_
       refine WL.qn (y_extractd rfl rfl) rfl ?_
       refine WL.qn (y_extractd rfl rfl) rfl ?_
       refine WL.as rfl rfl ?_
       refine WL.as rfl rfl ?_
       refine WL.ns ?_
       refine wc_sr ?_
       refine WL.qn (y_loadN rfl rfl a28 s28 rfl) rfl ?_
       refine WL.mv rfl rfl ?_
       obtain ⟨r255, hr255, h⟩ := bindS h
       refine WL.fn rfl rfl rfl rfl (f29_c _ _ hr255) ⟨(Le.agd ⟨(Le.refl _), (Le.refl _), (Le.refl _), (Le.refl _), (Le.refl _), trivial⟩), (Le.refl _), trivial⟩ (Wt.none rfl) rfl rfl ?_
       refine WL.mv rfl rfl ?_
       refine WL.qn (y_neq rfl rfl) rfl ?_
       refine WL.mv rfl rfl ?_
       apply WL.or 2 (t := 198) (d := 200)
       ·exact rfl
       ·intro hg198
        refine WL.qy (y_move rfl) rfl rfl rfl ?_
        refine WL.qn (y_pick_f rfl rfl) rfl ?_
        exact WL.nil ⟨rfl, [_, _], rfl, rfl, rfl⟩
       ·refine WL.skips 1 rfl ?_
        refine WL.qn (y_pick_t rfl rfl) rfl ?_
        exact WL.nil ⟨rfl, [_, _], rfl, rfl, rfl⟩
       refine WL.ns ?_
       refine wc_cond rfl (fun hc11 => ?_) (fun hc11 => ?_)
       ·replace h := condT h hc11
        refine wc_sr ?_
        refine WL.as rfl rfl ?_
        refine WL.ns ?_
        refine wc_ret ?_
        refine we_blk_ret ?_
        refine we_lp_ret ?_
        refine we_lp_ret ?_
        refine we_blk_ret ?_
        refine we_lp_ret ?_
        obtain rfl := Option.some.inj h
        exact we_ret_fn (rs1 rfl (rv_t rfl)) (Le.refl _)
       ·replace h := condF h hc11
        refine wc_skip ?_
        refine we_blk ?_
        exact we_lp ⟨x232.kind, x232.name, x232.parent, x232.first, x232.lits, x232.index, x232.elem, x232.disc, x232.discName, x232.has, x232.default_, x232.comps, x232.target, x232.formal, x232.limited, x232.priv, x232.full, x232.level, h, (Sub.cons rfl (Le.refl _) (Sub.cons rfl (Le.refl _) (Sub.cons rfl (Le.refl _) (Sub.nil _)))), ⟨⟨rfl, ⟨(Le.refl _), (Le.refl _), (Le.refl _), (Le.refl _), (Le.refl _), trivial⟩⟩, ⟨rfl, ⟨(Le.refl _), (Le.refl _), (Le.refl _), (Le.refl _), (Le.refl _), (Le.refl _), (Le.refl _), (Le.refl _), (Le.refl _), (Le.refl _), (Le.refl _), (Le.refl _), (Le.refl _), (Le.refl _), (Le.refl _), (Le.refl _), (Le.refl _), (Le.refl _), trivial⟩⟩, trivial⟩⟩
    ·rintro env1 st1 ⟨c10212, c11213, c12214, c13215, c14216, c15217, c16218, c17219, c18220, c19221, c110222, c111223, c112224, c113225, c114226, c115227, c116228, c117229, h, hsub, hst⟩
     subst hk230
     dsimp only at h
     refine WC.sub hsub (WC.weak hst ?_)
     refine wc_region ?_
     refine WL.qn (y_add rfl rfl rfl) rfl ?_
     refine WL.mv rfl rfl ?_
     refine WL.nil ?_
     refine WE.drop 1 (env' := [(1, .pt 0 0), (34, .d (D.i .i64 (List.length r205.subs : Int))), (35, .d (D.i .i64 (IntKind.i64.wrap (t210 + 1))))]) (Sub.one rfl (Sub.one rfl (Sub.one rfl (Sub.nil _)))) rfl rfl (Nat.zero_le _) ?_
     exact we_lp ⟨n, ⟨(IntKind.i64.wrap (t210 + 1)), h, (Sub.cons rfl (Le.refl _) (Sub.cons rfl (Le.refl _) (Sub.cons rfl (Le.refl _) (Sub.nil _)))), ⟨⟨rfl, ⟨(Le.refl _), (Le.refl _), (Le.refl _), (Le.refl _), (Le.refl _), trivial⟩⟩, trivial⟩⟩, Nat.lt_succ_self n⟩
   ·replace h := condF h hc2
    refine wc_exit ?_
    refine we_seq_exit ?_
    refine we_lp_exit ?_
    refine we_blk_hit ?_
    exact we_lp ⟨h, (Sub.nil _), ⟨⟨rfl, ⟨(Le.refl _), (Le.refl _), (Le.refl _), (Le.refl _), (Le.refl _), trivial⟩⟩, trivial⟩⟩
  ·rintro env1 st1 ⟨h, hsub, hst⟩
   subst hk208
   dsimp only at h
   refine WC.sub hsub (WC.weak hst ?_)
   refine wc_sr ?_
   obtain ⟨r256, hr256, h⟩ := bindS h
   refine WL.fn rfl rfl rfl rfl (f17_c hr256) trivial (Wt.none rfl) rfl rfl ?_
   refine WL.as rfl rfl ?_
   refine WL.ns ?_
   refine wc_ret ?_
   obtain rfl := Option.some.inj h
   exact we_ret_fn (rs1 rfl (rv_t rfl)) (Le.refl _)
end Go.Proofs.YteafckpdbmncfaaDoor
