/- The walks of functions. -/
import Derived.Test.YtkbahggepncliaaGreatDoorX
import Derived.Test.YtkbahggepncliaaGreatDoorWb
set_option linter.unusedVariables false
set_option linter.unusedSimpArgs false
set_option linter.unusedSectionVars false
set_option linter.unnecessarySimpa false
set_option maxHeartbeats 4000000
set_option maxRecDepth 100000
namespace Go.Proofs.YtkbahggepncliaaGreatDoor
open Go Go.Sk

theorem f88_c (tR : Nat → Int) (tP : Int) (tX : Int) (tD : Int) (mI : List Insn) (mH : List MHandler) (mO : List Obj) (mE : Int) (mN : List Int) (mS : List (List Int)) (mU : List Int) (tA : List Act) (x1 : Insn) {vo : Nat} {vf : Nat} {vu : Nat} {va : Nat} {r : Rs ((Nat → Int) × Int × Int × Int)} (h : f88 tR tP tX tD mI mH mO mE mN mS mU tA x1 = some r) : CtrP Tryz.prog 88 [.pt 0 0, .d (.ag (R45 x1))] (wT tR tP tX tD va mI mH mO mE vo mN vu vf mS mU tA) (WinG 6 (fun r' new => ∃ (z : (Nat → Int) × Int × Int × Int), r = .ok z ∧ r' = .d (.tu []) ∧ new = [.row 116 (([.pt 1 0] : List AV) ++ (vecA 16 (fun j => .n (z.1 j)) ++ ([.n z.2.1, .n z.2.2.1, .n z.2.2.2, .os 5 va] : List AV) : List AV)), .row 90 (mR mI mH mO mE 2 vo mN 4 vu), .os 42 1 vo (famE 3 vf (List.length mS)), .fam 2 1 vf (famM E2 mS), .os 2 1 vu (eM E2 mU), .os 58 6 va (eM R58 tA)])) (WinGP 6 (fun c new => ∃ (ee : Int), r = .bad ee ∧ c = wrongP ee ∧ new = (wD mI mH mO mE vo mN vu vf mS mU))) := by
 unfold f88 at h
 refine ctrP_intro Tryz.func88 (by kernel_rfl) q q q (fun mm φφ ww hmm => ?_)
 refine Zr (WL.s ((b_boxd q q (Zs _)).does) (Zw q) q q (Zn (wc_seq (wc_region_draw (by kernel_rfl) (by kernel_rfl) (WQ.qn (y_fieldAddrc f45_0 q) q (WQ.qn (y_loadc q a43 q) q (WQ.qn (y_sub q q q) q (WQ.qn (y_add q q q) q (WQ.qn (y_move q) q (WQ.qn (y_fieldAddrc f45_2 q) q (WQ.qn (y_loadc q a3 q) q (WQ.qn (y_nilCheckp q) q (WQ.qn (y_fieldAddr f116_1 q) q (WQ.qn (y_fieldAddr f41_0 q) q ?_))))))))))))))
 replace h := guardBS h
 obtain ⟨hgg46, h⟩ := h
 refine WQ.qn (y_indexAddra ar39 q q (vecOk_0 hgg46) (vecOk_1 hgg46)) q (WQ.qn (y_loadV (off := 1) (n := 16) (fun j => .n (tR j)) q q a2 q hgg46) q (WQ.qn (y_move q) q (WQ.qn (y_fieldAddrc f45_3 q) q (WQ.qn (y_loadc q a3 q) q (WQ.qn (y_nilCheckp q) q (WQ.qn (y_fieldAddr f116_1 q) q (WQ.qn (y_fieldAddr f41_0 q) q ?_)))))))
 replace h := guardBS h
 obtain ⟨hgg47, h⟩ := h
 refine WQ.qn (y_indexAddra ar39 q q (vecOk_0 hgg47) (vecOk_1 hgg47)) q (WQ.qn (y_loadV (off := 1) (n := 16) (fun j => .n (tR j)) q q a2 q hgg47) q ?_)
 obtain ⟨r48, hr48, h⟩ := bindS h
 refine WQ.q (YieldsQ.fn q q q q q (f132_c _ _ _ hr48) ⟨Zl, Zl, Zl, Zt⟩) (Zw q) q q (WQ.qn (y_move q) q (WQ.qn (y_extractd q q) q (WQ.qn (y_extractd q q) q (WQ.qn (y_assign q) q (WQ.qn (y_assign q) q (WQ.nil (we_seq (wc_seq (Zr (Zm q q (Zq (y_not q) q (Zn (wc_cond q (fun hc1 => ?_) (fun hc1 => ?_))))))))))))))
 replace h := condT h hc1
 refine wc_regionP (WLP.wing [] q q q q (f102_c  (r := Rs.bad 280) q) Zt q (by decide) q Zt q q (Zw q) q q (fun r' new hS => ?_) (fun c new hS => ?_))
 obtain ⟨z9, hz, _⟩ := hS
 cases hz
 obtain ⟨z9, hz, rfl, rfl⟩ := hS
 obtain rfl := Rs.bad.inj hz
 refine ⟨_, q, q, ?_⟩
 refine we_seq_pan ?_
 obtain rfl := Oi h
 exact we_pan_g (new := (wD mI mH mO mE vo mN vu vf mS mU)) q ⟨Zt, Zp, Zf, Zf, Zf, Zt, Zt⟩ ⟨_, q, q, q⟩
 replace h := condF h hc1
 refine wc_skip (we_seq (wc_seq ?_))
 replace h := guardBS h
 obtain ⟨hgg53, h⟩ := h
 apply wc_region_all [_, _, _, _, _, _, _, _, .u] [[], [], [1], [], [0], [0, 4], [0, 4, 5], [0, 1, 2, 3, 4, 5, 6], [0, 1, 2, 3, 4, 5, 6, 7]] [8] (fun c => List.getD [(wT tR tP tX tD va mI mH mO mE vo mN vu vf mS mU tA), [.row 116 (([.pt 1 0] : List AV) ++ (vecA 16 (fun j => .n ((vset tR (Int.toNat x1.d) r48.1) j)) ++ ([.n tP, .n tX, .n tD, .os 5 va] : List AV) : List AV)), .row 90 (mR mI mH mO mE 2 vo mN 4 vu), .os 42 1 vo (famE 3 vf (List.length mS)), .fam 2 1 vf (famM E2 mS), .os 2 1 vu (eM E2 mU), .os 58 6 va (eM R58 tA)]] c []) [([], [0], [0]), ([], [3], [0]), ([1], [], [0]), ([], [4], [0]), ([0], [], [0]), ([4], [], [0]), ([5], [], [0]), ([6, 2], [], [0]), ([7, 3], [], [0])] (by kernel_rfl) (by kernel_rfl) q q q
 refine ⟨?_, ?_, ?_, ?_, ?_, ?_, ?_, ?_, ?_, Zt⟩
 refine ⟨fun F => ?_, Zt⟩
 exact Zm q q (Zd q q q)
 refine ⟨fun F => ?_, Zt⟩
 exact Zq (y_fieldAddrc f45_1 q) q (Zd q q q)
 refine ⟨fun F => ?_, Zt⟩
 exact Zq (y_loadc q a3 q) q (Zd q q q)
 refine ⟨fun F => ?_, Zt⟩
 exact Zm q q (Zd q q q)
 refine ⟨fun F => ?_, Zt⟩
 exact Zq (y_nilCheckp q) q (Zd q q q)
 refine ⟨fun F => ?_, Zt⟩
 exact Zq (y_fieldAddr f116_1 q) q (Zd q q q)
 refine ⟨fun F => ?_, Zt⟩
 exact Zq (y_fieldAddr f41_0 q) q (Zd q q q)
 refine ⟨fun F => ?_, Zt⟩
 exact Zq (y_indexAddra ar39 q q (vecOk_0 hgg53) (vecOk_1 hgg53)) q (Zd q q q)
 refine ⟨fun F => ?_, Zt⟩
 exact WL.s0 (d_storeV (off := 1) (n := 16) (cs' := (([.pt 1 0] : List AV) ++ (vecA 16 (fun j => .n ((vset tR (Int.toNat x1.d) r48.1) j)) ++ ([.n tP, .n tX, .n tD, .os 5 va] : List AV) : List AV))) (fun x => .n x) tR r48.1 q q q (one_ok q) s2 q q hgg53 q) (Zw q) q (WL.done0 q q)
 refine we_seq (wc_regionP (WLP.pre 1 (Zm q q (WL.nil ?_))))
 obtain ⟨r54, hr54, h⟩ := bindS h
 rcases r54 with z55 | e56
 dsimp only [Rs.cs] at h
 refine WLP.wing [0, 1, 2, 3, 4, 5] q q q q (f131_c _ _ _ _ _ _ _ _ _ _ _ _ hr54) ⟨Zl, Zt⟩ q (by decide) (cons_eq q (cons_eq q (Rg (Rf (Ro (cons_eq (ren_os _ _ _ _ _ _) q)))))) ⟨q, q, q, q, q, q, Zt⟩ (stLt_cons q (stLt_cons q (Lg q (Lf (Lo (stLt_cons (lt_os _ _ _ _ _ _) q)))))) q (Zw q) q q (fun r' new hS => ?_) (fun c new hS => ?_)
 obtain ⟨z9, hz, rfl, rfl⟩ := hS
 obtain rfl := Rs.ok.inj hz
 refine ⟨_, _, q, (cons_eq q (cons_eq q (Rg (Rf (Ro (cons_eq (ren_os _ _ _ _ _ _) q)))))), q, (stLt_cons q (stLt_cons q (Lg q (Lf (Lo (stLt_cons (lt_os _ _ _ _ _ _) q)))))), WLP.of ?_⟩
 refine WL.st (st' := [.row 116 (([.pt 1 0] : List AV) ++ (vecA 16 (fun j => .n (z55.1 j)) ++ ([.n z55.2.1, .n z55.2.2.1, .n z55.2.2.2, .os 5 va] : List AV) : List AV)), .row 90 (mR mI mH mO mE 2 vo mN 4 vu), .os 42 1 vo (famE 3 vf (List.length mS)), .fam 2 1 vf (famM E2 mS), .os 2 1 vu (eM E2 mU), .os 58 6 va (eM R58 tA)]) q (WL.nil (we_endP ?_))
 obtain rfl := Oi h
 exact WE.finP (we_ret_g (new := [.row 116 (([.pt 1 0] : List AV) ++ (vecA 16 (fun j => .n (z55.1 j)) ++ ([.n z55.2.1, .n z55.2.2.1, .n z55.2.2.2, .os 5 va] : List AV) : List AV)), .row 90 (mR mI mH mO mE 2 vo mN 4 vu), .os 42 1 vo (famE 3 vf (List.length mS)), .fam 2 1 vf (famM E2 mS), .os 2 1 vu (eM E2 mU), .os 58 6 va (eM R58 tA)]) (r0 := .d (.tu [])) (res0 q) (Le.tud Zt) q ⟨Zp, Zp, Zf, Zf, Zf, Zf, Zt⟩ ⟨_, q, q, q⟩)
 obtain ⟨z9, hz, _⟩ := hS
 cases hz
 dsimp only [Rs.cs] at h
 refine WLP.wing [0, 1, 2, 3, 4, 5] q q q q (f131_c _ _ _ _ _ _ _ _ _ _ _ _ hr54) ⟨Zl, Zt⟩ q (by decide) (cons_eq q (cons_eq q (Rg (Rf (Ro (cons_eq (ren_os _ _ _ _ _ _) q)))))) ⟨q, q, q, q, q, q, Zt⟩ (stLt_cons q (stLt_cons q (Lg q (Lf (Lo (stLt_cons (lt_os _ _ _ _ _ _) q)))))) q (Zw q) q q (fun r' new hS => ?_) (fun c new hS => ?_)
 obtain ⟨z9, hz, _⟩ := hS
 cases hz
 obtain ⟨z9, hz, rfl, rfl⟩ := hS
 obtain rfl := Rs.bad.inj hz
 refine ⟨_, (cons_eq q (cons_eq q (Rg (Rf (Ro (cons_eq q q)))))), (stLt_cons q (stLt_cons q (Lg q (Lf (Lo (stLt_cons q q)))))), ?_⟩
 refine WE.sto (st' := (wD mI mH mO mE vo mN vu vf mS mU)) q ?_
 obtain rfl := Oi h
 exact we_pan_g (new := (wD mI mH mO mE vo mN vu vf mS mU)) q ⟨Zt, Zp, Zf, Zf, Zf, Zt, Zt⟩ ⟨_, q, q, q⟩

theorem f47_c (mI : List Insn) (mH : List MHandler) (mO : List Obj) (mE : Int) (mN : List Int) (mS : List (List Int)) (mU : List Int) {vo : Nat} {vf : Nat} {vu : Nat} {r : Bool} (h : f47 mI mH mO mE mN mS mU = some r) : Ctr Tryz.prog 47 [.pt 0 0] (wM mI mH mO mE vo mN vu vf mS mU) (WinG 4 (fun r' new => r' = .d (.b r) ∧ new = (wM mI mH mO mE vo mN vu vf mS mU))) := by
 unfold f47 at h
 refine ctr_intro Tryz.func47 (by kernel_rfl) q q q (fun mm φφ ww hmm => ?_)
 refine Zr (Za q q (Zn (Zr (Zm q q (Zq (y_eqpt Tryz.underlying46 q) q (Zm q q (Zy (y_move q) q q q (Zy (y_nilCheckp q) q q q (Zy (y_fieldAddr f90_0 q) q q q (Zy (y_load q q a23 q) q q q (Zy (y_len_map E45 mI e23 q q Zl) q q q (Zy (y_eql q q) q q q (Zq (y_pick_f q q) q (Za q q (Zn (wc_ret ?_))))))))))))))))
 obtain rfl := Oi h
 exact we_ret_g (new := (wM mI mH mO mE vo mN vu vf mS mU)) (r0 := .d (.b (decide ((List.length mI : Int) = 0)))) (rs1 q (rv_t q)) Zl q ⟨Zp, Zf, Zf, Zf, Zt⟩ ⟨q, q⟩

theorem f46_c (tR : Nat → Int) (tP : Int) (tX : Int) (tD : Int) (mI : List Insn) (mH : List MHandler) (mO : List Obj) (mE : Int) (mN : List Int) (mS : List (List Int)) (mU : List Int) (tA : List Act) (o1 : Int) {vo : Nat} {vf : Nat} {vu : Nat} {va : Nat} {r : Nat} (h : f46 tR tP tX tD mI mH mO mE mN mS mU tA o1 = some r) : Ctr Tryz.prog 46 [.pt 0 0, .d (D.i .u8 o1)] (wT tR tP tX tD va mI mH mO mE vo mN vu vf mS mU tA) (WinG 6 (fun r' new => r' = .fn (.func r) [.pt 0 0] [] ∧ new = (wT tR tP tX tD va mI mH mO mE vo mN vu vf mS mU tA))) := by
 unfold f46 at h
 refine ctr_intro Tryz.func46 (by kernel_rfl) q q q (fun mm φφ ww hmm => ?_)
 refine Zr (Za q q (Zn (wc_seq (Zr (Zm q q (Zn (wc_block ?_)))))))
 replace h := letkS h
 obtain ⟨k56, hk56, h⟩ := h
 refine wc_cut (fun env' st' => ∃ (t55 : Bool), k56 t55 = some r ∧ Sub [(0, .pt 0 0), (5, .d (D.i .u8 o1)), (6, .d (D.b t55))] env' ∧ SLe st' (wT tR tP tX tD va mI mH mO mE vo mN vu vf mS mU tA)) ?_ ?_
 refine Zr (Zq (y_eql q q) q (Za q q (Zn (wc_cond q (fun hc1 => ?_) (fun hc1 => ?_)))))
 replace h := condT h hc1
 exact wc_skip (we_lp ⟨(decide (o1 = 3)), h, (Sx q (Sx q (Sx q (Sub.nil _)))), ⟨Zp, Zp, Zf, Zf, Zf, Zf, Zt⟩⟩)
 replace h := condF h hc1
 refine Zr (Zq (y_eql q q) q (Za q q (Zn (wc_cond q (fun hc2 => ?_) (fun hc2 => ?_)))))
 replace h := condT h hc2
 exact wc_skip (we_lp ⟨(decide (o1 = 5)), h, (Sx q (Sx q (Sx q (Sub.nil _)))), ⟨Zp, Zp, Zf, Zf, Zf, Zf, Zt⟩⟩)
 replace h := condF h hc2
 exact wc_region (Zq (y_eql q q) q (Za q q (WL.nil (we_lp ⟨(decide (o1 = 7)), h, (Sx q (Sx q (Sx q (Sub.nil _)))), ⟨Zp, Zp, Zf, Zf, Zf, Zf, Zt⟩⟩))))
 rintro env1 st1 ⟨t55, h, hsub, hst⟩
 subst hk56
 dsimp only at h
 refine WC.sub hsub (WC.weak hst ?_)
 refine wc_cond q (fun hc3 => ?_) (fun hc3 => ?_)
 replace h := condT h hc3
 refine Zr (Zm q q (Zq (y_makeFunc q q) q (Za q q (Zn (wc_ret (we_blk_ret (we_seq_ret ?_)))))))
 obtain rfl := Oi h
 exact we_ret_g (new := (wT tR tP tX tD va mI mH mO mE vo mN vu vf mS mU tA)) (r0 := .fn (.func 81) [.pt 0 0] []) (rs1 q (rv_t q)) Zl q ⟨Zp, Zp, Zf, Zf, Zf, Zf, Zt⟩ ⟨q, q⟩
 replace h := condF h hc3
 replace h := letkS h
 obtain ⟨k58, hk58, h⟩ := h
 refine wc_cut (fun env' st' => ∃ (t57 : Bool), k58 t57 = some r ∧ Sub [(0, .pt 0 0), (5, .d (D.i .u8 o1)), (12, .d (D.b t57))] env' ∧ SLe st' (wT tR tP tX tD va mI mH mO mE vo mN vu vf mS mU tA)) ?_ ?_
 refine Zr (Zq (y_eql q q) q (Za q q (Zn (wc_cond q (fun hc4 => ?_) (fun hc4 => ?_)))))
 replace h := condT h hc4
 exact wc_skip (we_lp ⟨(decide (o1 = 4)), h, (Sx q (Sx q (Sx q (Sub.nil _)))), ⟨Zp, Zp, Zf, Zf, Zf, Zf, Zt⟩⟩)
 replace h := condF h hc4
 refine Zr (Zq (y_eql q q) q (Za q q (Zn (wc_cond q (fun hc5 => ?_) (fun hc5 => ?_)))))
 replace h := condT h hc5
 exact wc_skip (we_lp ⟨(decide (o1 = 6)), h, (Sx q (Sx q (Sx q (Sub.nil _)))), ⟨Zp, Zp, Zf, Zf, Zf, Zf, Zt⟩⟩)
 replace h := condF h hc5
 exact wc_region (Zq (y_eql q q) q (Za q q (WL.nil (we_lp ⟨(decide (o1 = 8)), h, (Sx q (Sx q (Sx q (Sub.nil _)))), ⟨Zp, Zp, Zf, Zf, Zf, Zf, Zt⟩⟩))))
 rintro env1 st1 ⟨t57, h, hsub, hst⟩
 subst hk58
 dsimp only at h
 refine WC.sub hsub (WC.weak hst ?_)
 refine wc_cond q (fun hc6 => ?_) (fun hc6 => ?_)
 replace h := condT h hc6
 refine Zr (Zm q q (Zq (y_makeFunc q q) q (Za q q (Zn (wc_ret (we_blk_ret (we_seq_ret ?_)))))))
 obtain rfl := Oi h
 exact we_ret_g (new := (wT tR tP tX tD va mI mH mO mE vo mN vu vf mS mU tA)) (r0 := .fn (.func 82) [.pt 0 0] []) (rs1 q (rv_t q)) Zl q ⟨Zp, Zp, Zf, Zf, Zf, Zf, Zt⟩ ⟨q, q⟩
 replace h := condF h hc6
 replace h := letkS h
 obtain ⟨k60, hk60, h⟩ := h
 refine wc_cut (fun env' st' => ∃ (t59 : Bool), k60 t59 = some r ∧ Sub [(0, .pt 0 0), (5, .d (D.i .u8 o1)), (18, .d (D.b t59))] env' ∧ SLe st' (wT tR tP tX tD va mI mH mO mE vo mN vu vf mS mU tA)) ?_ ?_
 refine Zr (Zq (y_eql q q) q (Za q q (Zn (wc_cond q (fun hc7 => ?_) (fun hc7 => ?_)))))
 replace h := condT h hc7
 exact wc_skip (we_lp ⟨(decide (o1 = 29)), h, (Sx q (Sx q (Sx q (Sub.nil _)))), ⟨Zp, Zp, Zf, Zf, Zf, Zf, Zt⟩⟩)
 replace h := condF h hc7
 refine Zr (Zq (y_eql q q) q (Za q q (Zn (wc_cond q (fun hc8 => ?_) (fun hc8 => ?_)))))
 replace h := condT h hc8
 exact wc_skip (we_lp ⟨(decide (o1 = 30)), h, (Sx q (Sx q (Sx q (Sub.nil _)))), ⟨Zp, Zp, Zf, Zf, Zf, Zf, Zt⟩⟩)
 replace h := condF h hc8
 refine Zr (Zq (y_eql q q) q (Za q q (Zn (wc_cond q (fun hc9 => ?_) (fun hc9 => ?_)))))
 replace h := condT h hc9
 exact wc_skip (we_lp ⟨(decide (o1 = 31)), h, (Sx q (Sx q (Sx q (Sub.nil _)))), ⟨Zp, Zp, Zf, Zf, Zf, Zf, Zt⟩⟩)
 replace h := condF h hc9
 exact wc_region (Zq (y_eql q q) q (Za q q (WL.nil (we_lp ⟨(decide (o1 = 32)), h, (Sx q (Sx q (Sx q (Sub.nil _)))), ⟨Zp, Zp, Zf, Zf, Zf, Zf, Zt⟩⟩))))
 rintro env1 st1 ⟨t59, h, hsub, hst⟩
 subst hk60
 dsimp only at h
 refine WC.sub hsub (WC.weak hst ?_)
 refine wc_cond q (fun hc10 => ?_) (fun hc10 => ?_)
 replace h := condT h hc10
 refine Zr (Zm q q (Zq (y_makeFunc q q) q (Za q q (Zn (wc_ret (we_blk_ret (we_seq_ret ?_)))))))
 obtain rfl := Oi h
 exact we_ret_g (new := (wT tR tP tX tD va mI mH mO mE vo mN vu vf mS mU tA)) (r0 := .fn (.func 83) [.pt 0 0] []) (rs1 q (rv_t q)) Zl q ⟨Zp, Zp, Zf, Zf, Zf, Zf, Zt⟩ ⟨q, q⟩
 replace h := condF h hc10
 replace h := letkS h
 obtain ⟨k62, hk62, h⟩ := h
 refine wc_cut (fun env' st' => ∃ (t61 : Bool), k62 t61 = some r ∧ Sub [(0, .pt 0 0), (5, .d (D.i .u8 o1)), (25, .d (D.b t61))] env' ∧ SLe st' (wT tR tP tX tD va mI mH mO mE vo mN vu vf mS mU tA)) ?_ ?_
 refine Zr (Zq (y_eql q q) q (Za q q (Zn (wc_cond q (fun hc11 => ?_) (fun hc11 => ?_)))))
 replace h := condT h hc11
 exact wc_skip (we_lp ⟨(decide (o1 = 27)), h, (Sx q (Sx q (Sx q (Sub.nil _)))), ⟨Zp, Zp, Zf, Zf, Zf, Zf, Zt⟩⟩)
 replace h := condF h hc11
 exact wc_region (Zq (y_eql q q) q (Za q q (WL.nil (we_lp ⟨(decide (o1 = 28)), h, (Sx q (Sx q (Sx q (Sub.nil _)))), ⟨Zp, Zp, Zf, Zf, Zf, Zf, Zt⟩⟩))))
 rintro env1 st1 ⟨t61, h, hsub, hst⟩
 subst hk62
 dsimp only at h
 refine WC.sub hsub (WC.weak hst ?_)
 refine wc_cond q (fun hc12 => ?_) (fun hc12 => ?_)
 replace h := condT h hc12
 refine Zr (Zm q q (Zq (y_makeFunc q q) q (Za q q (Zn (wc_ret (we_blk_ret (we_seq_ret ?_)))))))
 obtain rfl := Oi h
 exact we_ret_g (new := (wT tR tP tX tD va mI mH mO mE vo mN vu vf mS mU tA)) (r0 := .fn (.func 84) [.pt 0 0] []) (rs1 q (rv_t q)) Zl q ⟨Zp, Zp, Zf, Zf, Zf, Zf, Zt⟩ ⟨q, q⟩
 replace h := condF h hc12
 replace h := letkS h
 obtain ⟨k64, hk64, h⟩ := h
 refine wc_cut (fun env' st' => ∃ (t63 : Bool), k64 t63 = some r ∧ Sub [(0, .pt 0 0), (5, .d (D.i .u8 o1)), (30, .d (D.b t63))] env' ∧ SLe st' (wT tR tP tX tD va mI mH mO mE vo mN vu vf mS mU tA)) ?_ ?_
 refine Zr (Zq (y_eql q q) q (Za q q (Zn (wc_cond q (fun hc13 => ?_) (fun hc13 => ?_)))))
 replace h := condT h hc13
 exact wc_skip (we_lp ⟨(decide (o1 = 33)), h, (Sx q (Sx q (Sx q (Sub.nil _)))), ⟨Zp, Zp, Zf, Zf, Zf, Zf, Zt⟩⟩)
 replace h := condF h hc13
 refine Zr (Zq (y_eql q q) q (Za q q (Zn (wc_cond q (fun hc14 => ?_) (fun hc14 => ?_)))))
 replace h := condT h hc14
 exact wc_skip (we_lp ⟨(decide (o1 = 34)), h, (Sx q (Sx q (Sx q (Sub.nil _)))), ⟨Zp, Zp, Zf, Zf, Zf, Zf, Zt⟩⟩)
 replace h := condF h hc14
 exact wc_region (Zq (y_eql q q) q (Za q q (WL.nil (we_lp ⟨(decide (o1 = 35)), h, (Sx q (Sx q (Sx q (Sub.nil _)))), ⟨Zp, Zp, Zf, Zf, Zf, Zf, Zt⟩⟩))))
 rintro env1 st1 ⟨t63, h, hsub, hst⟩
 subst hk64
 dsimp only at h
 refine WC.sub hsub (WC.weak hst ?_)
 refine wc_cond q (fun hc15 => ?_) (fun hc15 => ?_)
 replace h := condT h hc15
 refine Zr (Zm q q (Zq (y_makeFunc q q) q (Za q q (Zn (wc_ret (we_blk_ret (we_seq_ret ?_)))))))
 obtain rfl := Oi h
 exact we_ret_g (new := (wT tR tP tX tD va mI mH mO mE vo mN vu vf mS mU tA)) (r0 := .fn (.func 85) [.pt 0 0] []) (rs1 q (rv_t q)) Zl q ⟨Zp, Zp, Zf, Zf, Zf, Zf, Zt⟩ ⟨q, q⟩
 replace h := condF h hc15
 replace h := letkS h
 obtain ⟨k66, hk66, h⟩ := h
 refine wc_cut (fun env' st' => ∃ (t65 : Bool), k66 t65 = some r ∧ Sub [(0, .pt 0 0), (5, .d (D.i .u8 o1)), (36, .d (D.b t65))] env' ∧ SLe st' (wT tR tP tX tD va mI mH mO mE vo mN vu vf mS mU tA)) ?_ ?_
 refine Zr (Zq (y_eql q q) q (Za q q (Zn (wc_cond q (fun hc16 => ?_) (fun hc16 => ?_)))))
 replace h := condT h hc16
 exact wc_skip (we_lp ⟨(decide (o1 = 37)), h, (Sx q (Sx q (Sx q (Sub.nil _)))), ⟨Zp, Zp, Zf, Zf, Zf, Zf, Zt⟩⟩)
 replace h := condF h hc16
 refine Zr (Zq (y_eql q q) q (Za q q (Zn (wc_cond q (fun hc17 => ?_) (fun hc17 => ?_)))))
 replace h := condT h hc17
 exact wc_skip (we_lp ⟨(decide (o1 = 38)), h, (Sx q (Sx q (Sx q (Sub.nil _)))), ⟨Zp, Zp, Zf, Zf, Zf, Zf, Zt⟩⟩)
 replace h := condF h hc17
 exact wc_region (Zq (y_eql q q) q (Za q q (WL.nil (we_lp ⟨(decide (o1 = 39)), h, (Sx q (Sx q (Sx q (Sub.nil _)))), ⟨Zp, Zp, Zf, Zf, Zf, Zf, Zt⟩⟩))))
 rintro env1 st1 ⟨t65, h, hsub, hst⟩
 subst hk66
 dsimp only at h
 refine WC.sub hsub (WC.weak hst ?_)
 refine wc_cond q (fun hc18 => ?_) (fun hc18 => ?_)
 replace h := condT h hc18
 refine Zr (Zm q q (Zq (y_makeFunc q q) q (Za q q (Zn (wc_ret (we_blk_ret (we_seq_ret ?_)))))))
 obtain rfl := Oi h
 exact we_ret_g (new := (wT tR tP tX tD va mI mH mO mE vo mN vu vf mS mU tA)) (r0 := .fn (.func 86) [.pt 0 0] []) (rs1 q (rv_t q)) Zl q ⟨Zp, Zp, Zf, Zf, Zf, Zf, Zt⟩ ⟨q, q⟩
 replace h := condF h hc18
 replace h := letkS h
 obtain ⟨k68, hk68, h⟩ := h
 refine wc_cut (fun env' st' => ∃ (t67 : Bool), k68 t67 = some r ∧ Sub [(0, .pt 0 0), (42, .d (D.b t67))] env' ∧ SLe st' (wT tR tP tX tD va mI mH mO mE vo mN vu vf mS mU tA)) ?_ ?_
 refine Zr (Zq (y_eql q q) q (Za q q (Zn (wc_cond q (fun hc19 => ?_) (fun hc19 => ?_)))))
 replace h := condT h hc19
 exact wc_skip (we_lp ⟨(decide (o1 = 1)), h, (Sx q (Sx q (Sub.nil _))), ⟨Zp, Zp, Zf, Zf, Zf, Zf, Zt⟩⟩)
 replace h := condF h hc19
 refine Zr (Zq (y_eql q q) q (Za q q (Zn (wc_cond q (fun hc20 => ?_) (fun hc20 => ?_)))))
 replace h := condT h hc20
 exact wc_skip (we_lp ⟨(decide (o1 = 2)), h, (Sx q (Sx q (Sub.nil _))), ⟨Zp, Zp, Zf, Zf, Zf, Zf, Zt⟩⟩)
 replace h := condF h hc20
 refine Zr (Zq (y_eql q q) q (Za q q (Zn (wc_cond q (fun hc21 => ?_) (fun hc21 => ?_)))))
 replace h := condT h hc21
 exact wc_skip (we_lp ⟨(decide (o1 = 36)), h, (Sx q (Sx q (Sub.nil _))), ⟨Zp, Zp, Zf, Zf, Zf, Zf, Zt⟩⟩)
 replace h := condF h hc21
 refine Zr (Zq (y_eql q q) q (Za q q (Zn (wc_cond q (fun hc22 => ?_) (fun hc22 => ?_)))))
 replace h := condT h hc22
 exact wc_skip (we_lp ⟨(decide (o1 = 40)), h, (Sx q (Sx q (Sub.nil _))), ⟨Zp, Zp, Zf, Zf, Zf, Zf, Zt⟩⟩)
 replace h := condF h hc22
 exact wc_region (Zq (y_eql q q) q (Za q q (WL.nil (we_lp ⟨(decide (o1 = 41)), h, (Sx q (Sx q (Sub.nil _))), ⟨Zp, Zp, Zf, Zf, Zf, Zf, Zt⟩⟩))))
 rintro env1 st1 ⟨t67, h, hsub, hst⟩
 subst hk68
 dsimp only at h
 refine WC.sub hsub (WC.weak hst ?_)
 refine wc_cond q (fun hc23 => ?_) (fun hc23 => ?_)
 replace h := condT h hc23
 refine Zr (Zm q q (Zq (y_makeFunc q q) q (Za q q (Zn (wc_ret (we_blk_ret (we_seq_ret ?_)))))))
 obtain rfl := Oi h
 exact we_ret_g (new := (wT tR tP tX tD va mI mH mO mE vo mN vu vf mS mU tA)) (r0 := .fn (.func 87) [.pt 0 0] []) (rs1 q (rv_t q)) Zl q ⟨Zp, Zp, Zf, Zf, Zf, Zf, Zt⟩ ⟨q, q⟩
 replace h := condF h hc23
 refine wc_skip (we_blk (we_seq (Zr (Zm q q (Zq (y_makeFunc q q) q (Za q q (Zn (wc_ret ?_))))))))
 obtain rfl := Oi h
 exact we_ret_g (new := (wT tR tP tX tD va mI mH mO mE vo mN vu vf mS mU tA)) (r0 := .fn (.func 88) [.pt 0 0] []) (rs1 q (rv_t q)) Zl q ⟨Zp, Zp, Zf, Zf, Zf, Zf, Zt⟩ ⟨q, q⟩

theorem fm_c (n : Nat) (tR : Nat → Int) (tP : Int) (tX : Int) (tD : Int) (mI : List Insn) (mH : List MHandler) (mO : List Obj) (mE : Int) (mN : List Int) (mS : List (List Int)) (mU : List Int) (tA : List Act) (x : Insn) {vo vf vu va : Nat} {r : Rs ((Nat → Int) × Int × Int × Int × (List Int) × (List (List Int)) × (List Int) × (List Act))} (h : fm n tR tP tX tD mI mH mO mE mN mS mU tA x = some r) : CtrP Tryz.prog n [.pt 0 0, .d (.ag (R45 x))] (wT tR tP tX tD va mI mH mO mE vo mN vu vf mS mU tA) (WinG 6 (fun r' new => ∃ (z : (Nat → Int) × Int × Int × Int × (List Int) × (List (List Int)) × (List Int) × (List Act)) (i3 i4 i5 : Nat), r = .ok z ∧ r' = .d (.tu []) ∧ new = [.row 116 (([.pt 1 0] : List AV) ++ (vecA 16 (fun j => .n (z.1 j)) ++ ([.n z.2.1, .n z.2.2.1, .n z.2.2.2.1, .os 5 i5] : List AV) : List AV)), .row 90 (mR mI mH mO mE 2 vo z.2.2.2.2.1 4 i4), .os 42 1 vo (famE 3 i3 (List.length z.2.2.2.2.2.1)), .fam 2 1 i3 (famM E2 z.2.2.2.2.2.1), .os 2 1 i4 (eM E2 z.2.2.2.2.2.2.1), .os 58 6 i5 (eM R58 z.2.2.2.2.2.2.2)])) (WinGP 6 (fun c new => ∃ (ee : Int), r = .bad ee ∧ c = wrongP ee ∧ new = (wD mI mH mO mE vo mN vu vf mS mU))) := by
 unfold fm at h
 rcases condCases2 h with ⟨hn, h⟩ | ⟨_, h⟩
 have hn := Nat.eq_of_beq_eq_true hn
 subst hn
 obtain ⟨r0, hr, h⟩ := bindS h
 obtain rfl := Oi h
 refine CtrP.mono (f81_c _ _ _ _ _ _ _ _ _ _ _ _ _ hr) ?_ ?_
 rintro r1 st1 ⟨hk, z, hz, hr1, hst⟩
 subst hz
 exact ⟨hk, _, vf, vu, va, q, hr1, hst⟩
 rintro c st1 ⟨hk, ee, hz, hc, hst⟩
 subst hz
 exact ⟨hk, _, q, hc, hst⟩
 rcases condCases2 h with ⟨hn, h⟩ | ⟨_, h⟩
 have hn := Nat.eq_of_beq_eq_true hn
 subst hn
 obtain ⟨r0, hr, h⟩ := bindS h
 obtain rfl := Oi h
 refine CtrP.mono (f82_c _ _ _ _ _ _ _ _ _ _ _ _ _ hr) ?_ ?_
 rintro r1 st1 ⟨hk, z, j3, hz, hr1, hst⟩
 subst hz
 exact ⟨hk, _, j3, vu, va, q, hr1, hst⟩
 rintro c st1 ⟨hk, ee, hz, hc, hst⟩
 subst hz
 exact ⟨hk, _, q, hc, hst⟩
 rcases condCases2 h with ⟨hn, h⟩ | ⟨_, h⟩
 have hn := Nat.eq_of_beq_eq_true hn
 subst hn
 obtain ⟨r0, hr, h⟩ := bindS h
 obtain rfl := Oi h
 refine CtrP.mono (f83_c _ _ _ _ _ _ _ _ _ _ _ _ _ hr) ?_ ?_
 rintro r1 st1 ⟨hk, z, hz, hr1, hst⟩
 subst hz
 exact ⟨hk, _, vf, vu, va, q, hr1, hst⟩
 rintro c st1 ⟨hk, ee, hz, hc, hst⟩
 subst hz
 exact ⟨hk, _, q, hc, hst⟩
 rcases condCases2 h with ⟨hn, h⟩ | ⟨_, h⟩
 have hn := Nat.eq_of_beq_eq_true hn
 subst hn
 obtain ⟨r0, hr, h⟩ := bindS h
 obtain rfl := Oi h
 refine CtrP.mono (f84_c _ _ _ _ _ _ _ _ _ _ _ _ _ hr) ?_ ?_
 rintro r1 st1 ⟨hk, z, j5, hz, hr1, hst⟩
 subst hz
 exact ⟨hk, _, vf, vu, j5, q, hr1, hst⟩
 rintro c st1 ⟨hk, ee, hz, hc, hst⟩
 subst hz
 exact ⟨hk, _, q, hc, hst⟩
 rcases condCases2 h with ⟨hn, h⟩ | ⟨_, h⟩
 have hn := Nat.eq_of_beq_eq_true hn
 subst hn
 obtain ⟨r0, hr, h⟩ := bindS h
 obtain rfl := Oi h
 refine CtrP.mono (f85_c _ _ _ _ _ _ _ _ _ _ _ _ _ hr) ?_ ?_
 rintro r1 st1 ⟨hk, z, j5, hz, hr1, hst⟩
 subst hz
 exact ⟨hk, _, vf, vu, j5, q, hr1, hst⟩
 rintro c st1 ⟨hk, ee, hz, hc, hst⟩
 subst hz
 exact ⟨hk, _, q, hc, hst⟩
 rcases condCases2 h with ⟨hn, h⟩ | ⟨_, h⟩
 have hn := Nat.eq_of_beq_eq_true hn
 subst hn
 obtain ⟨r0, hr, h⟩ := bindS h
 obtain rfl := Oi h
 refine CtrP.mono (f86_c _ _ _ _ _ _ _ _ _ _ _ _ _ hr) ?_ ?_
 rintro r1 st1 ⟨hk, z, j4, j5, hz, hr1, hst⟩
 subst hz
 exact ⟨hk, _, vf, j4, j5, q, hr1, hst⟩
 rintro c st1 ⟨hk, ee, hz, hc, hst⟩
 subst hz
 exact ⟨hk, _, q, hc, hst⟩
 rcases condCases2 h with ⟨hn, h⟩ | ⟨_, h⟩
 have hn := Nat.eq_of_beq_eq_true hn
 subst hn
 obtain ⟨r0, hr, h⟩ := bindS h
 obtain rfl := Oi h
 refine CtrP.mono (f87_c _ _ _ _ _ _ _ _ _ _ _ _ _ hr) ?_ ?_
 rintro r1 st1 ⟨hk, z, hz, hr1, hst⟩
 subst hz
 exact ⟨hk, _, vf, vu, va, q, hr1, hst⟩
 rintro c st1 ⟨hk, ee, hz, hc, hst⟩
 subst hz
 exact ⟨hk, _, q, hc, hst⟩
 rcases condCases2 h with ⟨hn, h⟩ | ⟨_, h⟩
 have hn := Nat.eq_of_beq_eq_true hn
 subst hn
 obtain ⟨r0, hr, h⟩ := bindS h
 obtain rfl := Oi h
 refine CtrP.mono (f88_c _ _ _ _ _ _ _ _ _ _ _ _ _ hr) ?_ ?_
 rintro r1 st1 ⟨hk, z, hz, hr1, hst⟩
 subst hz
 exact ⟨hk, _, vf, vu, va, q, hr1, hst⟩
 rintro c st1 ⟨hk, ee, hz, hc, hst⟩
 subst hz
 exact ⟨hk, _, q, hc, hst⟩
 cases h

theorem f45_c (tR : Nat → Int) (tP : Int) (tX : Int) (tD : Int) (mI : List Insn) (mH : List MHandler) (mO : List Obj) (mE : Int) (mN : List Int) (mS : List (List Int)) (mU : List Int) (tA : List Act) {vo : Nat} {vf : Nat} {vu : Nat} {va : Nat} {r : Rs ((Nat → Int) × Int × Int × Int × (List Int) × (List (List Int)) × (List Int) × (List Act))} (h : f45 tR tP tX tD mI mH mO mE mN mS mU tA = some r) : CtrP Tryz.prog 45 [.pt 0 0] (wT tR tP tX tD va mI mH mO mE vo mN vu vf mS mU tA) (WinG 6 (fun r' new => ∃ (z : (Nat → Int) × Int × Int × Int × (List Int) × (List (List Int)) × (List Int) × (List Act)) (i3 i4 i5 : Nat), r = .ok z ∧ r' = .d (.tu []) ∧ new = [.row 116 (([.pt 1 0] : List AV) ++ (vecA 16 (fun j => .n (z.1 j)) ++ ([.n z.2.1, .n z.2.2.1, .n z.2.2.2.1, .os 5 i5] : List AV) : List AV)), .row 90 (mR mI mH mO mE 2 vo z.2.2.2.2.1 4 i4), .os 42 1 vo (famE 3 i3 (List.length z.2.2.2.2.2.1)), .fam 2 1 i3 (famM E2 z.2.2.2.2.2.1), .os 2 1 i4 (eM E2 z.2.2.2.2.2.2.1), .os 58 6 i5 (eM R58 z.2.2.2.2.2.2.2)])) (WinGP 6 (fun c new => ∃ (ee : Int), r = .bad ee ∧ c = wrongP ee ∧ new = (wD mI mH mO mE vo mN vu vf mS mU))) := by
 unfold f45 at h
 refine ctrP_intro Tryz.func45 (by kernel_rfl) q q q (fun mm φφ ww hmm => ?_)
 refine wc_seq ?_
 obtain ⟨x31, hx31, h⟩ := bindS h
 apply wc_region_all [_, _, _, _, _, _, _, _, _, _, _, _, _, _, _, .u] [[], [0], [0, 1], [0, 1, 2], [0, 1, 2, 3], [0, 1, 2, 3, 4], [0, 1, 2, 3, 4, 5], [], [7], [7, 8], [7, 8, 9], [7, 8, 9, 10], [0, 1, 2, 3, 4, 5, 6, 7, 8, 9, 10, 11], [0, 1, 2, 3, 4, 5, 6, 7, 8, 9, 10, 11, 12], [], [0, 1, 2, 3, 4, 5, 6, 7, 8, 9, 10, 11, 12, 13, 14]] [14, 15] (fun c => List.getD [(wT tR tP tX tD va mI mH mO mE vo mN vu vf mS mU tA), [.row 116 (tQ 1 tR tP tX tD 5 va), .row 90 (mR mI mH mO mE 2 vo mN 4 vu), .os 42 1 vo (famE 3 vf (List.length mS)), .fam 2 1 vf (famM E2 mS), .os 2 1 vu (eM E2 mU), .os 58 6 va (eM R58 tA), .row 45 [.d (D.i .u8 0), .n 0, .n 0, .n 0, .n 0, .n 0, .n 0]], [.row 116 (tQ 1 tR tP tX tD 5 va), .row 90 (mR mI mH mO mE 2 vo mN 4 vu), .os 42 1 vo (famE 3 vf (List.length mS)), .fam 2 1 vf (famM E2 mS), .os 2 1 vu (eM E2 mU), .os 58 6 va (eM R58 tA), .row 45 [.d (D.i .u8 x31.op), .n x31.d, .n x31.a, .n x31.b, .n x31.n, .n x31.m, .n x31.to]]] c []) [([], [0], [0, 1]), ([0], [], [0, 1]), ([1], [], [0, 1]), ([2], [], [0, 1]), ([3], [], [0, 1]), ([4], [], [0, 1]), ([5], [], [0, 1]), ([], [0], [0, 1]), ([7], [], [0, 1]), ([8], [], [0, 1]), ([9], [], [0, 1]), ([10], [], [0, 1]), ([6, 11], [], [0, 1]), ([12], [], [0, 1]), ([], [], [0]), ([14, 13], [], [1])] (by kernel_rfl) (by kernel_rfl) q q q
 refine ⟨?_, ?_, ?_, ?_, ?_, ?_, ?_, ?_, ?_, ?_, ?_, ?_, ?_, ?_, ?_, ?_, Zt⟩
 refine ⟨fun F => ?_, fun F => ?_, Zt⟩
 exact Zm q q (Zd q q q)
 exact Zm q q (Zd q q q)
 refine ⟨fun F => ?_, fun F => ?_, Zt⟩
 exact Zq (y_nilCheckp q) q (Zd q q q)
 exact Zq (y_nilCheckp q) q (Zd q q q)
 refine ⟨fun F => ?_, fun F => ?_, Zt⟩
 exact Zq (y_fieldAddr f116_0 q) q (Zd q q q)
 exact Zq (y_fieldAddr f116_0 q) q (Zd q q q)
 refine ⟨fun F => ?_, fun F => ?_, Zt⟩
 exact Zq (y_load q q a46 q) q (Zd q q q)
 exact Zq (y_load q q a46 q) q (Zd q q q)
 refine ⟨fun F => ?_, fun F => ?_, Zt⟩
 exact Zq (y_nilCheckp q) q (Zd q q q)
 exact Zq (y_nilCheckp q) q (Zd q q q)
 refine ⟨fun F => ?_, fun F => ?_, Zt⟩
 exact Zq (y_fieldAddr f90_0 q) q (Zd q q q)
 exact Zq (y_fieldAddr f90_0 q) q (Zd q q q)
 refine ⟨fun F => ?_, fun F => ?_, Zt⟩
 exact Zq (y_load q q a23 q) q (Zd q q q)
 exact Zq (y_load q q a23 q) q (Zd q q q)
 refine ⟨fun F => ?_, fun F => ?_, Zt⟩
 exact Zm q q (Zd q q q)
 exact Zm q q (Zd q q q)
 refine ⟨fun F => ?_, fun F => ?_, Zt⟩
 exact Zq (y_nilCheckp q) q (Zd q q q)
 exact Zq (y_nilCheckp q) q (Zd q q q)
 refine ⟨fun F => ?_, fun F => ?_, Zt⟩
 exact Zq (y_fieldAddr f116_1 q) q (Zd q q q)
 exact Zq (y_fieldAddr f116_1 q) q (Zd q q q)
 refine ⟨fun F => ?_, fun F => ?_, Zt⟩
 exact Zq (y_fieldAddr f41_1 q) q (Zd q q q)
 exact Zq (y_fieldAddr f41_1 q) q (Zd q q q)
 refine ⟨fun F => ?_, fun F => ?_, Zt⟩
 exact Zq (y_load q q a3 q) q (Zd q q q)
 exact Zq (y_load q q a3 q) q (Zd q q q)
 refine ⟨fun F => ?_, fun F => ?_, Zt⟩
 exact Zq (y_indexAddr e23 q Zl q (idx_nonneg hx31) (idx_row E45_eq hx31) q) q (Zd q q q)
 exact Zq (y_indexAddr e23 q Zl q (idx_nonneg hx31) (idx_row E45_eq hx31) q) q (Zd q q q)
 refine ⟨fun F => ?_, fun F => ?_, Zt⟩
 exact Zq (y_loadcN q a45 s45 q) q (Zd q q q)
 exact Zq (y_loadcN q a45 s45 q) q (Zd q q q)
 refine ⟨fun F => ?_, Zt⟩
 exact WL.s ((b_alloc z45).does) (Zw q) q q (Zd q q q)
 refine ⟨fun F => ?_, Zt⟩
 exact WL.s0 (d_store q q q q q q s45 q q) (Zw q) q (WL.done0 q q)
 refine we_seq (wc_seq (Zr (Zq (y_fieldAddr f45_0 q) q (Zq (y_load q q a43 q) q (WL.fn q q q q (f36_c _) ⟨Zl, Zt⟩ (Zw q) q q (Zq (y_not q) q (Zn (wc_cond q (fun hc1 => ?_) (fun hc1 => ?_)))))))))
 replace h := condT h hc1
 refine wc_regionP (WLP.pre 2 (Zq (y_build p118 z118 q q) q (Zq (y_makeInterface (p := .ag (R118 (Wrong.mk 8))) (by kernel_rfl) q (Le.agd ⟨Zl, Zt⟩)) q (WL.nil (WLP.pan q q (we_seq_pan ?_))))))
 obtain rfl := Oi h
 exact we_pan_g (new := (wD mI mH mO mE vo mN vu vf mS mU)) q ⟨Zt, Zp, Zf, Zf, Zf, Zt, Zt⟩ ⟨_, q, q, q⟩
 replace h := condF h hc1
 refine wc_skip (we_seq ?_)
 obtain ⟨r32, hr32, h⟩ := bindS h
 apply wc_region_last [_, _, _, _, _, .u] [[], [], [1], [0, 1, 2], [], [0, 1, 2, 3, 4]] [] (fun c => List.getD [[.row 116 (tQ 1 tR tP tX tD 5 va), .row 90 (mR mI mH mO mE 2 vo mN 4 vu), .os 42 1 vo (famE 3 vf (List.length mS)), .fam 2 1 vf (famM E2 mS), .os 2 1 vu (eM E2 mU), .os 58 6 va (eM R58 tA), .row 45 [.d (D.i .u8 x31.op), .n x31.d, .n x31.a, .n x31.b, .n x31.n, .n x31.m, .n x31.to]]] c []) [([], [0], [0]), ([], [2], [0]), ([1], [], [0]), ([0, 2], [], [0]), ([], [2], [0]), ([3, 4], [], [0])] 5 (l0 := _) (o := _) (by exact (List.take_append_drop 5 _).symm) q (by kernel_rfl) (by kernel_rfl) q q q q
 refine ⟨?_, ?_, ?_, ?_, ?_, Zt⟩
 refine ⟨fun F => ?_, Zt⟩
 exact Zm q q (Zd q q q)
 refine ⟨fun F => ?_, Zt⟩
 exact Zq (y_fieldAddr f45_0 q) q (Zd q q q)
 refine ⟨fun F => ?_, Zt⟩
 exact Zq (y_load q q a43 q) q (Zd q q q)
 refine ⟨fun F => ?_, Zt⟩
 refine WL.wing [0, 1, 2, 3, 4, 5] q q q q (f46_c _ _ _ _ _ _ _ _ _ _ _ _ _ hr32) ⟨Zl, Zl, Zt⟩ q (by decide) (cons_eq q (cons_eq q (Rg (Rf (Ro (cons_eq (ren_os _ _ _ _ _ _) q)))))) ⟨q, q, q, q, q, q, Zt⟩ (stLt_cons q (stLt_cons q (Lg q (Lf (Lo (stLt_cons (lt_os _ _ _ _ _ _) q)))))) q (Zw q) q q (fun r' new hS => ?_)
 obtain ⟨rfl, rfl⟩ := hS
 refine ⟨_, _, q, (cons_eq q (cons_eq q (Rg (Rf (Ro (cons_eq (ren_os _ _ _ _ _ _) q)))))), q, (stLt_cons q (stLt_cons q (Lg q (Lf (Lo (stLt_cons (lt_os _ _ _ _ _ _) q)))))), ?_⟩
 exact Zd q q q
 refine ⟨fun F => ?_, Zt⟩
 exact Zq (y_loadN q q a45 s45 q) q (Zd q q q)
 obtain ⟨r34, hr34, h⟩ := bindS h
 rcases r34 with z35 | e36
 dsimp only [Rs.cs] at h
 refine WLP.wing [0, 1, 2, 3, 4, 5] q q q q (fm_c _ _ _ _ _ _ _ _ _ _ _ _ _ _ hr34) ⟨Zl, (Le.agd ⟨Zl, Zl, Zl, Zl, Zl, Zl, Zl, Zt⟩), Zt⟩ q (by decide) (cons_eq q (cons_eq q (Rg (Rf (Ro (cons_eq (ren_os _ _ _ _ _ _) q)))))) ⟨q, q, q, q, q, q, Zt⟩ (stLt_cons q (stLt_cons q (Lg q (Lf (Lo (stLt_cons (lt_os _ _ _ _ _ _) q)))))) q (Zw q) q q (fun r' new hS => ?_) (fun c new hS => ?_)
 obtain ⟨z9, i3_37, i4_37, i5_37, hz, rfl, rfl⟩ := hS
 obtain rfl := Rs.ok.inj hz
 refine ⟨_, _, q, (cons_eq q (cons_eq q (Rg (Rf (Ro (cons_eq (ren_os _ _ _ _ _ _) q)))))), q, (stLt_cons q (stLt_cons q (Lg q (Lf (Lo (stLt_cons (lt_os _ _ _ _ _ _) q)))))), WLP.of ?_⟩
 refine WL.st (st' := [.row 116 (([.pt 1 0] : List AV) ++ (vecA 16 (fun j => .n (z35.1 j)) ++ ([.n z35.2.1, .n z35.2.2.1, .n z35.2.2.2.1, .os 5 i5_37] : List AV) : List AV)), .row 90 (mR mI mH mO mE 2 vo z35.2.2.2.2.1 4 i4_37), .os 42 1 vo (famE 3 i3_37 (List.length z35.2.2.2.2.2.1)), .fam 2 1 i3_37 (famM E2 z35.2.2.2.2.2.1), .os 2 1 i4_37 (eM E2 z35.2.2.2.2.2.2.1), .os 58 6 i5_37 (eM R58 z35.2.2.2.2.2.2.2), .row 45 [.d (D.i .u8 x31.op), .n x31.d, .n x31.a, .n x31.b, .n x31.n, .n x31.m, .n x31.to]]) q (WL.nil (we_endP ?_))
 obtain rfl := Oi h
 exact WE.finP (we_ret_g (new := [.row 116 (([.pt 1 0] : List AV) ++ (vecA 16 (fun j => .n (z35.1 j)) ++ ([.n z35.2.1, .n z35.2.2.1, .n z35.2.2.2.1, .os 5 i5_37] : List AV) : List AV)), .row 90 (mR mI mH mO mE 2 vo z35.2.2.2.2.1 4 i4_37), .os 42 1 vo (famE 3 i3_37 (List.length z35.2.2.2.2.2.1)), .fam 2 1 i3_37 (famM E2 z35.2.2.2.2.2.1), .os 2 1 i4_37 (eM E2 z35.2.2.2.2.2.2.1), .os 58 6 i5_37 (eM R58 z35.2.2.2.2.2.2.2)]) (r0 := .d (.tu [])) (res0 q) (Le.tud Zt) q ⟨Zp, Zp, Zf, Zf, Zf, Zf, Zt⟩ ⟨_, i3_37, i4_37, i5_37, q, q, q⟩)
 obtain ⟨z9, hz, _⟩ := hS
 cases hz
 dsimp only [Rs.cs] at h
 refine WLP.wing [0, 1, 2, 3, 4, 5] q q q q (fm_c _ _ _ _ _ _ _ _ _ _ _ _ _ _ hr34) ⟨Zl, (Le.agd ⟨Zl, Zl, Zl, Zl, Zl, Zl, Zl, Zt⟩), Zt⟩ q (by decide) (cons_eq q (cons_eq q (Rg (Rf (Ro (cons_eq (ren_os _ _ _ _ _ _) q)))))) ⟨q, q, q, q, q, q, Zt⟩ (stLt_cons q (stLt_cons q (Lg q (Lf (Lo (stLt_cons (lt_os _ _ _ _ _ _) q)))))) q (Zw q) q q (fun r' new hS => ?_) (fun c new hS => ?_)
 obtain ⟨z9, i3_37, i4_37, i5_37, hz, _⟩ := hS
 cases hz
 obtain ⟨z9, hz, rfl, rfl⟩ := hS
 obtain rfl := Rs.bad.inj hz
 refine ⟨_, (cons_eq q (cons_eq q (Rg (Rf (Ro (cons_eq q q)))))), (stLt_cons q (stLt_cons q (Lg q (Lf (Lo (stLt_cons q q)))))), ?_⟩
 refine WE.sto (st' := [.dead, .row 90 (mR mI mH mO mE 2 vo mN 4 vu), .os 42 1 vo (famE 3 vf (List.length mS)), .fam 2 1 vf (famM E2 mS), .os 2 1 vu (eM E2 mU), .dead, .row 45 [.d (D.i .u8 x31.op), .n x31.d, .n x31.a, .n x31.b, .n x31.n, .n x31.m, .n x31.to]]) q ?_
 obtain rfl := Oi h
 exact we_pan_g (new := (wD mI mH mO mE vo mN vu vf mS mU)) q ⟨Zt, Zp, Zf, Zf, Zf, Zt, Zt⟩ ⟨_, q, q, q⟩

theorem tryD_ret {a b c : AV} {st : List AO} : DSp Tryz.prog 80 [a, b, c] st .returning .returning st := by
 refine dsp_intro (v := .nilIface) (va := .d (.v .nilIface)) Tryz.func80 (by kernel_rfl) q q q q q (fun c0 cs hu => ?_) (fun _ _ _ => by simp [RA, RD]) (fun mm φφ ww hmm => ?_)
 right
 refine ⟨?_, q, q⟩
 simp [recoverD, hu]
 exact WC.sub (env' := [(6, .d (.v .nilIface)), (0, .u), (1, .u), (2, .u)]) (Sx q (Sub.cons q (Le.u _) (Sub.cons q (Le.u _) (Sub.cons q (Le.u _) (Sub.nil _))))) (wc_block (Zr (Zq (y_eqifn (by kernel_rfl) q) q (Zn (wc_true q (wc_region (Za q q (WL.nil (we_blk (we_lp (SLe.refl _)))))))))))

theorem tryD_pan {e : Int} : DSp Tryz.prog 80 [.pt 0 0, .pt 1 0, .pt 2 0] [.row 41 n19, .row 50 [sN], .row 47 [.n 0]] (.panicking (wrongP e)) (.panicking [{ v := .iface 118 (.agg ⟨[.int .i64 e]⟩), recovered := true }]) [.row 41 n19, .row 50 [sN], .row 47 [.n e]] := by
 refine dsp_intro (v := .iface 118 (.agg ⟨[.int .i64 e]⟩)) (va := .d (.ifc 118 (.ag [D.i .i64 e]))) Tryz.func80 (by kernel_rfl) q q q q q (fun c0 cs hu => ?_) (fun _ _ _ => gnd_ifc q) (fun mm φφ ww hmm => ?_)
 left
 refine ⟨_, ?_, q⟩
 simp [recoverD, hu, wrongP]
 refine wc_block (Zr (Zq (y_eqifc (by kernel_rfl) q) q (Zn (wc_false q (Zr (Zq (y_tassert (by kernel_rfl) q) q (Zq (y_extract q q) q (Zq (y_extract q q) q (Zn (wc_true q (Zr (WL.s ((b_alloc z118).does) (Zw q) q q (WL.s0 (d_store q q q q q q s118 q q) (Zw q) q (Zn ?_))))))))))))))
 apply wc_region_all [_, _, _, .u, .u, .u] [[], [], [1], [0], [0, 3], [0, 1, 2, 3, 4]] [5] (fun c => List.getD [[.row 41 n19, .row 50 [sN], .row 47 [.n 0], .row 118 [.n ((Wrong.mk e).e)]], [.row 41 n19, .row 50 [sN], .row 47 [.n ((Wrong.mk e).e)], .row 118 [.n ((Wrong.mk e).e)]]] c []) [([], [], [0]), ([], [4], [0]), ([1], [], [0]), ([0], [0], [0]), ([], [1], [0]), ([2], [2], [0])] (by kernel_rfl) (by kernel_rfl) q q q
 refine ⟨?_, ?_, ?_, ?_, ?_, ?_, Zt⟩
 refine ⟨fun F => ?_, Zt⟩
 exact Zq (y_build p41 z41 q q) q (Zd q q q)
 refine ⟨fun F => ?_, Zt⟩
 exact Zq (y_fieldAddr f118_0 q) q (Zd q q q)
 refine ⟨fun F => ?_, Zt⟩
 exact Zq (y_load q q a47 q) q (Zd q q q)
 refine ⟨fun F => ?_, Zt⟩
 exact WL.s0 (d_store q q q q q q s41 q q) (Zw q) q (WL.done0 q q)
 refine ⟨fun F => ?_, Zt⟩
 exact WL.s0 (d_store q q q q q q s50 q q) (Zw q) q (WL.done0 q q)
 refine ⟨fun F => ?_, Zt⟩
 exact WL.s0 (d_store q q q q q q s47 q q) (Zw q) q (WL.done0 q q)
 exact we_blk (WE.drop 3 (env' := []) (Sub.nil _) q q (Nat.le_trans (Nat.le_of_eq hmm) (Nat.le_of_ble_eq_true q)) (we_lp ⟨OLe.refl _, OLe.refl _, OLe.refl _, Zt⟩))

theorem f44_45_c (mI : List Insn) (mH : List MHandler) (mO : List Obj) (mE : Int) (mN : List Int) (mS : List (List Int)) (mU : List Int) (r1 : Regs) (fine2 : Bool) {vo : Nat} {vf : Nat} {vu : Nat} {r : Regs × (List Act) × Int × (List Int) × (List (List Int)) × (List Int)} (h : f44_45 mI mH mO mE mN mS mU r1 fine2 = some r) : Ctr Tryz.prog 44 [.pt 0 0, .d (.ag (R41 r1)), .d (D.b fine2), .fn (.func 45) [] []] (wM mI mH mO mE vo mN vu vf mS mU) (WinG 4 (fun r' new => ∃ i2 i3 : Nat, r' = .d (.tu [.ag (R41 r.1), .sl (List.map E58 r.2.1), .i .i64 r.2.2.1]) ∧ new = [.row 90 (mR mI mH mO mE 1 vo r.2.2.2.1 3 i3), .os 42 1 vo (famE 2 i2 (List.length r.2.2.2.2.1)), .fam 2 1 i2 (famM E2 r.2.2.2.2.1), .os 2 1 i3 (eM E2 r.2.2.2.2.2)])) := by
 unfold f44_45 at h
 refine ctr_intro0 Tryz.func44 (by kernel_rfl) q q q (fun mm φφ ww hmm => ?_)
 refine Zr (WL.s ((b_boxd q q (Zs _)).does) (Zw q) q q (WL.s ((b_alloc z41).does) (Zw q) q q (WL.s ((b_alloc z50).does) (Zw q) q q (WL.s ((b_alloc z47).does) (Zw q) q q (Zn (wc_seq (wc_block (Zr (Zm q q ?_)))))))))
 obtain ⟨r80, hr80, h⟩ := bindS h
 refine WL.wing [0, 1, 2, 3] q q q q (f47_c _ _ _ _ _ _ _ hr80) ⟨Zl, Zt⟩ q (by decide) (cons_eq q (Rg (Rf (cons_eq (ren_os _ _ _ _ _ _) q)))) ⟨q, q, q, q, Zt⟩ (stLt_cons q (Lg q (Lf (stLt_cons (lt_os _ _ _ _ _ _) q)))) q (Zw q) q q (fun r' new hS => ?_)
 obtain ⟨rfl, rfl⟩ := hS
 refine ⟨_, _, q, (cons_eq q (Rg (Rf (cons_eq (ren_os _ _ _ _ _ _) q)))), q, (stLt_cons q (Lg q (Lf (stLt_cons (lt_os _ _ _ _ _ _) q)))), ?_⟩
 refine WL.st (st' := [.row 90 (mR mI mH mO mE 1 vo mN 3 vu), .os 42 1 vo (famE 2 vf (List.length mS)), .fam 2 1 vf (famM E2 mS), .os 2 1 vu (eM E2 mU), .row 41 n19, .row 50 [sN], .row 47 [.n 0]]) q (Za q q (Zn (wc_cond q (fun hc1 => ?_) (fun hc1 => ?_))))
 replace h := condT h hc1
 refine Zr (Zq (y_build p41 z41 q q) q (WL.s0 (d_store q q q q q q s41 q q) (Zw q) q (WL.st (st' := [.row 90 (mR mI mH mO mE 1 vo mN 3 vu), .os 42 1 vo (famE 2 vf (List.length mS)), .fam 2 1 vf (famM E2 mS), .os 2 1 vu (eM E2 mU), .row 41 n19, .row 50 [sN], .row 47 [.n 0]]) q (WL.s0 (d_store q q q q q q s50 q q) (Zw q) q (WL.s0 (d_store q q q q q q s47 q q) (Zw q) q (Zn (wc_ret (we_blk_ret (we_seq_ret ?_)))))))))
 obtain rfl := Oi h
 exact we_ret_g (new := (wM mI mH mO mE vo mN vu vf mS mU)) (r0 := .d (.tu [.ag (R41 (Regs.mk (fun j => 0) 0 0 0)), .sl (List.map E58 []), .i .i64 1])) (rs3 q (rv_cN q q a41 s41 q) (rv_c q q a50 q) (rv_c q q a47 q)) (Le.tud ⟨(Le.agd ⟨Zl, Zl, Zl, Zl, Zl, Zl, Zl, Zl, Zl, Zl, Zl, Zl, Zl, Zl, Zl, Zl, Zl, Zl, Zl, Zt⟩), Le.nil, Zl, Zt⟩) q ⟨Zp, Zf, Zf, Zf, Zt⟩ ⟨vf, vu, q, q⟩
 replace h := condF h hc1
 refine wc_seq (wc_region_draw (by kernel_rfl) (by kernel_rfl) (WQ.qn (y_fieldAddrc f41_1 q) q (WQ.qn (y_loadc q a3 q) q (WQ.qn (y_lss q q) q (WQ.qn (y_move q) q ?_)))))
 apply WQ.or 9 (t := 20) (d := 29)
 exact q
 intro hg20
 exact WQ.qy (y_fieldAddrc f41_1 q) q q q (WQ.qy (y_loadc q a3 q) q q q (WQ.qy (y_move q) q q q (WQ.qy (y_nilCheckp q) q q q (WQ.qy (y_fieldAddr f90_0 q) q q q (WQ.qy (y_load q q a23 q) q q q (WQ.qy (y_len_map E45 mI e23 q q Zl) q q q (WQ.qy (y_geq q q) q q q (WQ.qn (y_pick_f q q) q (WQ.nil ⟨[_, _, _, _, _, _, _, _, _], q, q, q⟩)))))))))
 exact WQ.skips 8 q (WQ.qn (y_pick_t q q) q (WQ.nil ⟨[_, _, _, _, _, _, _, _, _], q, q, q⟩))
 refine WQ.qn (y_move q) q ?_
 apply WQ.or 4 (t := 30) (d := 34)
 exact q
 intro hg30
 exact WQ.qy (y_fieldAddrc f41_2 q) q q q (WQ.qy (y_loadc q a2 q) q q q (WQ.qy (y_lss q q) q q q (WQ.qn (y_pick_f q q) q (WQ.nil ⟨[_, _, _, _], q, q, q⟩))))
 exact WQ.skips 3 q (WQ.qn (y_pick_t q q) q (WQ.nil ⟨[_, _, _, _], q, q, q⟩))
 refine WQ.qn (y_move q) q ?_
 apply WQ.or 8 (t := 35) (d := 43)
 exact q
 intro hg35
 exact WQ.qy (y_fieldAddrc f41_2 q) q q q (WQ.qy (y_loadc q a2 q) q q q (WQ.qy (y_move q) q q q (WQ.qy (y_nilCheckp q) q q q (WQ.qy (y_fieldAddr f90_3 q) q q q (WQ.qy (y_load q q a2 q) q q q (WQ.qy (y_gtr q q) q q q (WQ.qn (y_pick_f q q) q (WQ.nil ⟨[_, _, _, _, _, _, _, _], q, q, q⟩))))))))
 exact WQ.skips 7 q (WQ.qn (y_pick_t q q) q (WQ.nil ⟨[_, _, _, _, _, _, _, _], q, q, q⟩))
 refine WQ.qn (y_move q) q ?_
 apply WQ.or 4 (t := 44) (d := 48)
 exact q
 intro hg44
 exact WQ.qy (y_fieldAddrc f41_3 q) q q q (WQ.qy (y_loadc q a3 q) q q q (WQ.qy (y_lss q q) q q q (WQ.qn (y_pick_f q q) q (WQ.nil ⟨[_, _, _, _], q, q, q⟩))))
 exact WQ.skips 3 q (WQ.qn (y_pick_t q q) q (WQ.nil ⟨[_, _, _, _], q, q, q⟩))
 refine WQ.qn (y_move q) q ?_
 apply WQ.or 4 (t := 49) (d := 53)
 exact q
 intro hg49
 exact WQ.qy (y_fieldAddrc f41_3 q) q q q (WQ.qy (y_loadc q a3 q) q q q (WQ.qy (y_gtr q q) q q q (WQ.qn (y_pick_f q q) q (WQ.nil ⟨[_, _, _, _], q, q, q⟩))))
 exact WQ.skips 3 q (WQ.qn (y_pick_t q q) q (WQ.nil ⟨[_, _, _, _], q, q, q⟩))
 refine WQ.qn (y_move q) q ?_
 apply WQ.or 3 (t := 54) (d := 57)
 exact q
 intro hg54
 exact WQ.qy (y_move q) q q q (WQ.qy (y_not q) q q q (WQ.qn (y_pick_f q q) q (WQ.nil ⟨[_, _, _], q, q, q⟩)))
 exact WQ.skips 2 q (WQ.qn (y_pick_t q q) q (WQ.nil ⟨[_, _, _], q, q, q⟩))
 refine WQ.qn (y_assign q) q (WQ.nil (we_seq (wc_cond q (fun hc2 => ?_) (fun hc2 => ?_))))
 replace h := condT h hc2
 refine Zr (Zq (y_build p41 z41 q q) q (WL.s0 (d_store q q q q q q s41 q q) (Zw q) q (WL.st (st' := [.row 90 (mR mI mH mO mE 1 vo mN 3 vu), .os 42 1 vo (famE 2 vf (List.length mS)), .fam 2 1 vf (famM E2 mS), .os 2 1 vu (eM E2 mU), .row 41 n19, .row 50 [sN], .row 47 [.n 0]]) q (WL.s0 (d_store q q q q q q s50 q q) (Zw q) q (WL.s0 (d_store q q q q q q s47 q q) (Zw q) q (Zn (wc_ret (we_blk_ret (we_seq_ret ?_)))))))))
 obtain rfl := Oi h
 exact we_ret_g (new := (wM mI mH mO mE vo mN vu vf mS mU)) (r0 := .d (.tu [.ag (R41 (Regs.mk (fun j => 0) 0 0 0)), .sl (List.map E58 []), .i .i64 2])) (rs3 q (rv_cN q q a41 s41 q) (rv_c q q a50 q) (rv_c q q a47 q)) (Le.tud ⟨(Le.agd ⟨Zl, Zl, Zl, Zl, Zl, Zl, Zl, Zl, Zl, Zl, Zl, Zl, Zl, Zl, Zl, Zl, Zl, Zl, Zl, Zt⟩), Le.nil, Zl, Zt⟩) q ⟨Zp, Zf, Zf, Zf, Zt⟩ ⟨vf, vu, q, q⟩
 replace h := condF h hc2
 refine wc_skip (we_blk (we_seq (wc_seq (wc_defer' (f := 80) (caps := [.pt 4 0, .pt 5 0, .pt 6 0]) 1 q q q (Zq (y_makeFunc q q) q (WL.nil ⟨q, fun mD φD wD vsD hlenD hD1 => ?_⟩))))))
 refine we_seq (Zr (Zm q q (Zq (y_loadcN q a41 s41 q) q (Zq (y_build p116 z116 q q) q (WL.s ((b_box q q).does) (Zw q) q q (Za q q (Zn (wc_seq (wc_regionP (WLP.pre 2 (Zm q q (Zm q q (WL.nil_cell 7 20 58 6 q q (WL.nil ?_))))))))))))))
 obtain ⟨r82, hr82, h⟩ := bindS h
 rcases r82 with z83 | e84
 dsimp only [Rs.cs] at h
 refine WLP.wing [7, 0, 1, 2, 3, 8] q q q q (f45_c _ _ _ _ _ _ _ _ _ _ _ _ hr82) ⟨Zl, Zt⟩ q (by decide) (cons_eq q (cons_eq q (Rg (Rf (Ro (cons_eq (ren_os _ _ _ _ _ _) q)))))) ⟨q, q, q, q, q, q, Zt⟩ (stLt_cons q (stLt_cons q (Lg q (Lf (Lo (stLt_cons (lt_os _ _ _ _ _ _) q)))))) q (Zw q) q q (fun r' new hS => ?_) (fun c new hS => ?_)
 obtain ⟨z9, i3_85, i4_85, i5_85, hz, rfl, rfl⟩ := hS
 obtain rfl := Rs.ok.inj hz
 refine ⟨_, _, q, (cons_eq q (cons_eq q (Rg (Rf (Ro (cons_eq (ren_os _ _ _ _ _ _) q)))))), q, (stLt_cons q (stLt_cons q (Lg q (Lf (Lo (stLt_cons (lt_os _ _ _ _ _ _) q)))))), WLP.of ?_⟩
 refine WL.st (st' := [.row 90 (mR mI mH mO mE 1 vo z83.2.2.2.2.1 3 i4_85), .os 42 1 vo (famE 2 i3_85 (List.length z83.2.2.2.2.2.1)), .fam 2 1 i3_85 (famM E2 z83.2.2.2.2.2.1), .os 2 1 i4_85 (eM E2 z83.2.2.2.2.2.2.1), .row 41 n19, .row 50 [sN], .row 47 [.n 0], .row 116 (([.pt 0 0] : List AV) ++ (vecA 16 (fun j => .n (z83.1 j)) ++ ([.n z83.2.1, .n z83.2.2.1, .n z83.2.2.2.1, .os 8 i5_85] : List AV) : List AV)), .os 58 6 i5_85 (eM R58 z83.2.2.2.2.2.2.2)]) q (Zn (wc_seq ?_))
 refine WC.freezeX [] [(7, 20)] 8 (List.map E58 z83.2.2.2.2.2.2.2) q (encA_map E58_eq z83.2.2.2.2.2.2.2) Zt ⟨_, _, q, q, Zt⟩ ?_
 apply wc_region_all [_, _, _, _, _, _, _, _, .u, .u, .u] [[], [0], [0, 1], [0, 1, 2], [], [4], [4, 5], [4, 5, 6], [0, 1, 2, 3], [0, 1, 2, 3, 4, 5, 6, 7, 8], [0, 1, 2, 3, 4, 5, 6, 7, 8, 9]] [8, 9] (fun c => List.getD [[.row 90 (mR mI mH mO mE 1 vo z83.2.2.2.2.1 3 i4_85), .os 42 1 vo (famE 2 i3_85 (List.length z83.2.2.2.2.2.1)), .fam 2 1 i3_85 (famM E2 z83.2.2.2.2.2.1), .os 2 1 i4_85 (eM E2 z83.2.2.2.2.2.2.1), .row 41 n19, .row 50 [sN], .row 47 [.n 0], .row 116 (([.pt 0 0] : List AV) ++ (vecA 16 (fun j => .n (z83.1 j)) ++ ([.n z83.2.1, .n z83.2.2.1, .n z83.2.2.2.1, .l E58 z83.2.2.2.2.2.2.2] : List AV) : List AV)), .dead], [.row 90 (mR mI mH mO mE 1 vo z83.2.2.2.2.1 3 i4_85), .os 42 1 vo (famE 2 i3_85 (List.length z83.2.2.2.2.2.1)), .fam 2 1 i3_85 (famM E2 z83.2.2.2.2.2.1), .os 2 1 i4_85 (eM E2 z83.2.2.2.2.2.2.1), .row 41 (vecA 16 (fun j => .n (z83.1 j)) ++ ([.n z83.2.1, .n z83.2.2.1, .n z83.2.2.2.1] : List AV)), .row 50 [sN], .row 47 [.n 0], .row 116 (([.pt 0 0] : List AV) ++ (vecA 16 (fun j => .n (z83.1 j)) ++ ([.n z83.2.1, .n z83.2.2.1, .n z83.2.2.2.1, .l E58 z83.2.2.2.2.2.2.2] : List AV) : List AV)), .dead], [.row 90 (mR mI mH mO mE 1 vo z83.2.2.2.2.1 3 i4_85), .os 42 1 vo (famE 2 i3_85 (List.length z83.2.2.2.2.2.1)), .fam 2 1 i3_85 (famM E2 z83.2.2.2.2.2.1), .os 2 1 i4_85 (eM E2 z83.2.2.2.2.2.2.1), .row 41 (vecA 16 (fun j => .n (z83.1 j)) ++ ([.n z83.2.1, .n z83.2.2.1, .n z83.2.2.2.1] : List AV)), .row 50 [.l E58 z83.2.2.2.2.2.2.2], .row 47 [.n 0], .row 116 (([.pt 0 0] : List AV) ++ (vecA 16 (fun j => .n (z83.1 j)) ++ ([.n z83.2.1, .n z83.2.2.1, .n z83.2.2.2.1, .l E58 z83.2.2.2.2.2.2.2] : List AV) : List AV)), .dead]] c []) [([], [11], [0]), ([0], [], [0]), ([1], [], [0]), ([2], [], [0]), ([], [11], [0, 1]), ([4], [], [0, 1]), ([5], [], [0, 1]), ([6], [], [0, 1]), ([3], [8], [0]), ([7], [9], [1]), ([], [10], [2])] (by kernel_rfl) (by kernel_rfl) q q q
 refine ⟨?_, ?_, ?_, ?_, ?_, ?_, ?_, ?_, ?_, ?_, ?_, Zt⟩
 refine ⟨fun F => ?_, Zt⟩
 exact Zm q q (Zd q q q)
 refine ⟨fun F => ?_, Zt⟩
 exact Zq (y_nilCheckp q) q (Zd q q q)
 refine ⟨fun F => ?_, Zt⟩
 exact Zq (y_fieldAddr f116_1 q) q (Zd q q q)
 refine ⟨fun F => ?_, Zt⟩
 exact Zq (y_loadN q q a41 s41 q) q (Zd q q q)
 refine ⟨fun F => ?_, fun F => ?_, Zt⟩
 exact Zm q q (Zd q q q)
 exact Zm q q (Zd q q q)
 refine ⟨fun F => ?_, fun F => ?_, Zt⟩
 exact Zq (y_nilCheckp q) q (Zd q q q)
 exact Zq (y_nilCheckp q) q (Zd q q q)
 refine ⟨fun F => ?_, fun F => ?_, Zt⟩
 exact Zq (y_fieldAddr f116_2 q) q (Zd q q q)
 exact Zq (y_fieldAddr f116_2 q) q (Zd q q q)
 refine ⟨fun F => ?_, fun F => ?_, Zt⟩
 exact Zq (y_load q q a50 q) q (Zd q q q)
 exact Zq (y_load q q a50 q) q (Zd q q q)
 refine ⟨fun F => ?_, Zt⟩
 exact WL.s0 (d_store q q q q q q s41 q q) (Zw q) q (WL.done0 q q)
 refine ⟨fun F => ?_, Zt⟩
 exact WL.s0 (d_store q q q q q q s50 q q) (Zw q) q (WL.done0 q q)
 refine ⟨fun F => ?_, Zt⟩
 exact WL.s0 (d_store q q q q q q s47 q q) (Zw q) q (WL.done0 q q)
 refine we_seq (wc_ret ?_)
 obtain rfl := Oi h
 exact we_ret_gdc (new := [.row 90 (mR mI mH mO mE 1 vo z83.2.2.2.2.1 3 i4_85), .os 42 1 vo (famE 2 i3_85 (List.length z83.2.2.2.2.2.1)), .fam 2 1 i3_85 (famM E2 z83.2.2.2.2.2.1), .os 2 1 i4_85 (eM E2 z83.2.2.2.2.2.2.1)]) (r0 := .d (.tu [.ag (R41 (Regs.mk z83.1 z83.2.1 z83.2.2.1 z83.2.2.2.1)), .sl (List.map E58 z83.2.2.2.2.2.2.2), .i .i64 0])) hD1 (tryD_ret) (rs3 q (rv_cN q q a41 s41 q) (rv_c q q a50 q) (rv_c q q a47 q)) (Le.tud ⟨(Le.agd ⟨Zl, Zl, Zl, Zl, Zl, Zl, Zl, Zl, Zl, Zl, Zl, Zl, Zl, Zl, Zl, Zl, Zl, Zl, Zl, Zt⟩), Zl, Zl, Zt⟩) q ⟨Zp, Zf, Zf, Zf, Zt⟩ ⟨i3_85, i4_85, q, q⟩
 obtain ⟨z9, hz, _⟩ := hS
 cases hz
 dsimp only [Rs.cs] at h
 refine WLP.wing [7, 0, 1, 2, 3, 8] q q q q (f45_c _ _ _ _ _ _ _ _ _ _ _ _ hr82) ⟨Zl, Zt⟩ q (by decide) (cons_eq q (cons_eq q (Rg (Rf (Ro (cons_eq (ren_os _ _ _ _ _ _) q)))))) ⟨q, q, q, q, q, q, Zt⟩ (stLt_cons q (stLt_cons q (Lg q (Lf (Lo (stLt_cons (lt_os _ _ _ _ _ _) q)))))) q (Zw q) q q (fun r' new hS => ?_) (fun c new hS => ?_)
 obtain ⟨z9, i3_85, i4_85, i5_85, hz, _⟩ := hS
 cases hz
 obtain ⟨z9, hz, rfl, rfl⟩ := hS
 obtain rfl := Rs.bad.inj hz
 refine ⟨_, (cons_eq q (cons_eq q (Rg (Rf (Ro (cons_eq q q)))))), (stLt_cons q (stLt_cons q (Lg q (Lf (Lo (stLt_cons q q)))))), ?_⟩
 refine WE.sto (st' := [.row 90 (mR mI mH mO mE 1 vo mN 3 vu), .os 42 1 vo (famE 2 vf (List.length mS)), .fam 2 1 vf (famM E2 mS), .os 2 1 vu (eM E2 mU), .row 41 n19, .row 50 [sN], .row 47 [.n 0], .dead, .dead]) q (we_seq_pan ?_)
 obtain rfl := Oi h
 exact we_pan_gdc (new := (wM mI mH mO mE vo mN vu vf mS mU)) (r0 := .d (.tu [.ag (R41 (Regs.mk (fun j => 0) 0 0 0)), .sl (List.map E58 []), .i .i64 e84])) hD1 (DSp.win [4, 5, 6] (tryD_pan (e := e84)) ⟨Zl, Zl, Zl, Zt⟩ q (by decide) q ⟨q, q, q, Zt⟩ q q q q q (st' := [.row 90 (mR mI mH mO mE 1 vo mN 3 vu), .os 42 1 vo (famE 2 vf (List.length mS)), .fam 2 1 vf (famM E2 mS), .os 2 1 vu (eM E2 mU), .row 41 n19, .row 50 [sN], .row 47 [.n e84], .dead, .dead]) q) q (rs3 q (rv_cN q q a41 s41 q) (rv_c q q a50 q) (rv_c q q a47 q)) (Le.tud ⟨(Le.agd ⟨Zl, Zl, Zl, Zl, Zl, Zl, Zl, Zl, Zl, Zl, Zl, Zl, Zl, Zl, Zl, Zl, Zl, Zl, Zl, Zt⟩), Le.nil, Zl, Zt⟩) q ⟨Zp, Zf, Zf, Zf, Zt⟩ ⟨vf, vu, q, q⟩

theorem f11_c (mI : List Insn) (mH : List MHandler) (mO : List Obj) (mE : Int) (mN : List Int) (mS : List (List Int)) (mU : List Int) (r1 : Regs) {vo : Nat} {vf : Nat} {vu : Nat} {r : Regs × (List Act) × Int × (List Int) × (List (List Int)) × (List Int)} (h : f11 mI mH mO mE mN mS mU r1 = some r) : Ctr Tryz.prog 11 [.pt 0 0, .d (.ag (R41 r1))] (wM mI mH mO mE vo mN vu vf mS mU) (WinG 4 (fun r' new => ∃ i2 i3 : Nat, r' = .d (.tu [.ag (R41 r.1), .sl (List.map E58 r.2.1), .i .i64 r.2.2.1]) ∧ new = [.row 90 (mR mI mH mO mE 1 vo r.2.2.2.1 3 i3), .os 42 1 vo (famE 2 i2 (List.length r.2.2.2.2.1)), .fam 2 1 i2 (famM E2 r.2.2.2.2.1), .os 2 1 i3 (eM E2 r.2.2.2.2.2)])) := by
 unfold f11 at h
 refine ctr_intro Tryz.func11 (by kernel_rfl) q q q (fun mm φφ ww hmm => ?_)
 refine Zr (WL.s ((b_boxd q q (Zs _)).does) (Zw q) q q (WL.s ((b_alloc z41).does) (Zw q) q q (Za q q (Za q q (Zn (Zr (Zm q q (Zq (y_loadcN q a41 s41 q) q ?_))))))))
 obtain ⟨r16, hr16, h⟩ := bindS h
 refine WL.wing [0, 1, 2, 3] q q q q (f44_45_c _ _ _ _ _ _ _ _ _ hr16) ⟨Zl, Zl, Zl, Zl, Zt⟩ q (by decide) (cons_eq q (Rg (Rf (cons_eq (ren_os _ _ _ _ _ _) q)))) ⟨q, q, q, q, Zt⟩ (stLt_cons q (Lg q (Lf (stLt_cons (lt_os _ _ _ _ _ _) q)))) q (Zw q) q q (fun r' new hS => ?_)
 obtain ⟨i2_17, i3_17, rfl, rfl⟩ := hS
 refine ⟨_, _, q, (cons_eq q (Rg (Rf (cons_eq (ren_os _ _ _ _ _ _) q)))), q, (stLt_cons q (Lg q (Lf (stLt_cons (lt_os _ _ _ _ _ _) q)))), ?_⟩
 refine WL.st (st' := [.row 90 (mR mI mH mO mE 1 vo r16.2.2.2.1 3 i3_17), .os 42 1 vo (famE 2 i2_17 (List.length r16.2.2.2.2.1)), .fam 2 1 i2_17 (famM E2 r16.2.2.2.2.1), .os 2 1 i3_17 (eM E2 r16.2.2.2.2.2), .row 41 n19]) q (Zq (y_extractd q q) q (Zq (y_extractd q q) q (Zq (y_extractd q q) q (WL.s0 (d_store q q q q q q s41 q q) (Zw q) q (WL.st (st' := [.row 90 (mR mI mH mO mE 1 vo r16.2.2.2.1 3 i3_17), .os 42 1 vo (famE 2 i2_17 (List.length r16.2.2.2.2.1)), .fam 2 1 i2_17 (famM E2 r16.2.2.2.2.1), .os 2 1 i3_17 (eM E2 r16.2.2.2.2.2), .row 41 (vecA 16 (fun j => .n (r16.1.r j)) ++ ([.n r16.1.pc, .n r16.1.exc, .n r16.1.defer] : List AV))]) q (Za q q (Za q q (Zn (wc_ret ?_)))))))))
 obtain rfl := Oi h
 exact we_ret_g (new := [.row 90 (mR mI mH mO mE 1 vo r16.2.2.2.1 3 i3_17), .os 42 1 vo (famE 2 i2_17 (List.length r16.2.2.2.2.1)), .fam 2 1 i2_17 (famM E2 r16.2.2.2.2.1), .os 2 1 i3_17 (eM E2 r16.2.2.2.2.2)]) (r0 := .d (.tu [.ag (R41 r16.1), .sl (List.map E58 r16.2.1), .i .i64 r16.2.2.1])) (rs3 q (rv_cN q q a41 s41 q) (rv_t q) (rv_t q)) (Le.tud ⟨(Le.agd ⟨Zl, Zl, Zl, Zl, Zl, Zl, Zl, Zl, Zl, Zl, Zl, Zl, Zl, Zl, Zl, Zl, Zl, Zl, Zl, Zt⟩), Zl, Zl, Zt⟩) q ⟨Zp, Zf, Zf, Zf, Zt⟩ ⟨i2_17, i3_17, q, q⟩

theorem f38_c (s0 : List Insn) {r : List Insn} (h : f38 s0 = some r) : Pu Tryz.prog 38 [.sl (List.map E45 s0)] (.sl (List.map E45 r)) := by
 unfold f38 at h
 replace h := guardBS h
 obtain ⟨hg, h⟩ := h
 obtain rfl := Oi h
 refine fn_intro Tryz.func38 (by kernel_rfl) q q q (fun φφ ww => ?_)
 refine Zr (Za q q (Zn (wc_seq (Zr (Zm q q (WL.isnil false q Tryz.underlying23 q Zl (Zw q) q (fun b hb => ?_)))))))
 refine Zn (wc_cond q (fun hc => ?_) (fun hc => ?_))
 have hb2 := hb (by cases b <;> first | rfl | cases hc)
 exact Zr (Za q q (Zn (wc_ret (we_seq_ret (we_ret_fn (rs1 q (rv_t q)) (by rw [hb2]; exact Le.nil))))))
 exact wc_skip (we_seq (Zr (WL.s ((b_buildNone l23).does) (Zw q) q q (Zm q q (WL.s ((b_appendFd ([] : List Insn) s0 E45_eq l23 z45 q (by decide) q q q (Src.dataL Zl E45_eq (fun _ => q)) (fun _ => q) hg).does) (Zw q) q q (Za q q (Zn (wc_ret (we_ret_fn (rs1 q (rv_t q)) Zl)))))))))

theorem f39_c (s0 : List MHandler) {r : List MHandler} (h : f39 s0 = some r) : Pu Tryz.prog 39 [.sl (List.map E108 s0)] (.sl (List.map E108 r)) := by
 unfold f39 at h
 replace h := guardBS h
 obtain ⟨hg, h⟩ := h
 obtain rfl := Oi h
 refine fn_intro Tryz.func39 (by kernel_rfl) q q q (fun φφ ww => ?_)
 refine Zr (Za q q (Zn (wc_seq (Zr (Zm q q (WL.isnil false q Tryz.underlying29 q Zl (Zw q) q (fun b hb => ?_)))))))
 refine Zn (wc_cond q (fun hc => ?_) (fun hc => ?_))
 have hb2 := hb (by cases b <;> first | rfl | cases hc)
 exact Zr (Za q q (Zn (wc_ret (we_seq_ret (we_ret_fn (rs1 q (rv_t q)) (by rw [hb2]; exact Le.nil))))))
 exact wc_skip (we_seq (Zr (WL.s ((b_buildNone l29).does) (Zw q) q q (Zm q q (WL.s ((b_appendFd ([] : List MHandler) s0 E108_eq l29 z108 q (by decide) q q q (Src.dataL Zl E108_eq (fun _ => q)) (fun _ => q) hg).does) (Zw q) q q (Za q q (Zn (wc_ret (we_ret_fn (rs1 q (rv_t q)) Zl)))))))))

theorem f43_c (s0 : List Int) {r : List Int} (h : f43 s0 = some r) : Pu Tryz.prog 43 [.sl (List.map E3 s0)] (.sl (List.map E3 r)) := by
 unfold f43 at h
 replace h := guardBS h
 obtain ⟨hg, h⟩ := h
 obtain rfl := Oi h
 refine fn_intro Tryz.func43 (by kernel_rfl) q q q (fun φφ ww => ?_)
 refine Zr (Za q q (Zn (wc_seq (Zr (Zm q q (WL.isnil false q Tryz.underlying96 q Zl (Zw q) q (fun b hb => ?_)))))))
 refine Zn (wc_cond q (fun hc => ?_) (fun hc => ?_))
 have hb2 := hb (by cases b <;> first | rfl | cases hc)
 exact Zr (Za q q (Zn (wc_ret (we_seq_ret (we_ret_fn (rs1 q (rv_t q)) (by rw [hb2]; exact Le.nil))))))
 exact wc_skip (we_seq (Zr (WL.s ((b_buildNone l96).does) (Zw q) q q (Zm q q (WL.s ((b_appendFd ([] : List Int) s0 E3_eq l96 z3 q (by decide) q q q (Src.dataL Zl E3_eq (fun _ => q)) (fun _ => q) hg).does) (Zw q) q q (Za q q (Zn (wc_ret (we_ret_fn (rs1 q (rv_t q)) Zl)))))))))

theorem f42_c (s0 : List Int) {r : List Int} (h : f42 s0 = some r) : Pu Tryz.prog 42 [.sl (List.map E2 s0)] (.sl (List.map E2 r)) := by
 unfold f42 at h
 replace h := guardBS h
 obtain ⟨hg, h⟩ := h
 obtain rfl := Oi h
 refine fn_intro Tryz.func42 (by kernel_rfl) q q q (fun φφ ww => ?_)
 refine Zr (Za q q (Zn (wc_seq (Zr (Zm q q (WL.isnil false q Tryz.underlying42 q Zl (Zw q) q (fun b hb => ?_)))))))
 refine Zn (wc_cond q (fun hc => ?_) (fun hc => ?_))
 have hb2 := hb (by cases b <;> first | rfl | cases hc)
 exact Zr (Za q q (Zn (wc_ret (we_seq_ret (we_ret_fn (rs1 q (rv_t q)) (by rw [hb2]; exact Le.nil))))))
 exact wc_skip (we_seq (Zr (WL.s ((b_buildNone l42).does) (Zw q) q q (Zm q q (WL.s ((b_appendFd ([] : List Int) s0 E2_eq l42 z2 q (by decide) q q q (Src.dataL Zl E2_eq (fun _ => q)) (fun _ => q) hg).does) (Zw q) q q (Za q q (Zn (wc_ret (we_ret_fn (rs1 q (rv_t q)) Zl)))))))))

theorem f41_c (t0 : Text) {vo : Nat} {vf : Nat} {r : List (List Int)} (h : f41 t0 = some r) : Ctr Tryz.prog 41 [.d (.ag (R38 t0))] [.rsv, .rsv] (WinG 2 (fun r' new => r' = .os 0 vo ∧ new = [.os 42 1 vo (famE 1 vf (List.length r)), .fam 2 1 vf (famM E2 r)])) := by
 unfold f41 at h
 refine ctr_intro Tryz.func41 (by kernel_rfl) q q q (fun mm φφ ww hmm => ?_)
 refine Zr (WL.s ((b_boxd q q (Zs _)).does) (Zw q) q q (Za q q (Zn (wc_seq (Zr (Zq (y_loadcN q a38 s38 q) q ?_))))))
 obtain ⟨r72, hr72, h⟩ := bindS h
 refine WL.fn q q q q (f37_c _ hr72) ⟨Zl, Zt⟩ (Zw q) q q (Zq (y_not q) q (Zn (wc_cond q (fun hc1 => ?_) (fun hc1 => ?_))))
 replace h := condT h hc1
 refine Zr (Za q q (Zn (wc_ret (we_seq_ret ?_))))
 cases h
 replace h := condF h hc1
 refine wc_skip (we_seq (Zr (Zq (y_fieldAddrc f38_5 q) q (Zq (y_loadc q a33 q) q (Zq (y_len_map E101 t0.objs e33 q q Zl) q ?_)))))
 replace h := guardBS h
 obtain ⟨hgg73, h⟩ := h
 refine WL.s ((NewOs.b (n_makeSlice l62 z42 q (Nat.succ_pos _) q q hgg73)).does) (Zw q) q q (Gh.wl (gh_fam_new E2 2 2 1 q) (Za q q (Zn ?_)))
 replace h := letkS h
 obtain ⟨k76, hk76, h⟩ := h
 refine wc_cut (fun env' st' => ∃ (l74 : List (List Int)), ∃ (ver75 : Nat), k76 l74 = some r ∧ Sub [(1, .d (.pc (R38 t0))), (3, .os 2 0)] env' ∧ SLe st' [.rsv, .rsv, .os 42 1 0 (famE 3 ver75 (List.length l74)), .fam 2 1 ver75 (famM E2 l74)]) ?_ ?_
 refine Zr (Zq (y_fieldAddrc f38_5 q) q (Zq (y_loadc q a33 q) q (Zq (y_len_map E101 t0.objs e33 q q Zl) q (Zm q q (Zn (wc_block (wc_loop (fun n env' st' => ∃ (t80 : Int), ∃ (l81 : List (List Int)), ∃ (ver82 : Nat), f41_l1 t0 k76 n t80 l81 = some r ∧ Sub [(1, .d (.pc (R38 t0))), (3, .os 2 0), (17, .l E101 t0.objs), (18, .n (List.length t0.objs : Int)), (19, .n t80)] env' ∧ SLe st' [.rsv, .rsv, .os 42 1 0 (famE 3 ver82 (List.length l81)), .fam 2 1 ver82 (famM E2 l81)]) (fun n => n) (Int.toNat ((List.length t0.objs : Int) - 0) + 1) ⟨0, (List.replicate (Int.toNat (List.length t0.objs : Int)) ([] : List Int)), _, h, (Sx q (Sx q (Sx q (Sx q (Sx q (Sub.nil _)))))), ⟨Zt, Zt, Zf, Zf, Zt⟩⟩ ?_)))))))
 rintro n env1 st1 ⟨t80, l81, ver82, h, hsub, hst⟩
 rcases n with _ | n
 rw [f41_l1] at h; cases h
 rw [f41_l1] at h
 refine WC.sub hsub (WC.weak hst ?_)
 refine Zr (Zq (y_lss q q) q (Zn (wc_seq (wc_cond q (fun hc2 => ?_) (fun hc2 => ?_)))))
 replace h := condT h hc2
 refine wc_skip (we_seq ?_)
 replace h := letkS h
 obtain ⟨k88, hk88, h⟩ := h
 refine wc_cut (fun env' st' => ∃ (l86 : List (List Int)), ∃ (ver87 : Nat), k88 l86 = some r ∧ Sub [(1, .d (.pc (R38 t0))), (3, .os 2 0), (17, .l E101 t0.objs), (18, .n (List.length t0.objs : Int)), (19, .n t80)] env' ∧ SLe st' [.rsv, .rsv, .os 42 1 0 (famE 3 ver87 (List.length l86)), .fam 2 1 ver87 (famM E2 l86)]) ?_ ?_
 refine wc_block (Zr (Zm q q ?_))
 obtain ⟨x89, hx89, h⟩ := bindS h
 refine Zq (y_indexAddr e33 q Zl q (idx_nonneg hx89) (idx_row E101_eq hx89) q) q (Zq (y_loadcN q a101 s101 q) q (WL.s ((b_alloc z101).does) (Zw q) q q (Za q q (WL.s0 (d_store q q q q q q s101 q q) (Zw q) q (Zn (Zr (Zm q q (Zm q q (Zq (y_fieldAddr f101_0 q) q (Zq (y_load q q a3 q) q ?_))))))))))
 replace h := guardBS h
 obtain ⟨hgg90, h⟩ := h
 refine WL.s ((NewOs.b (NewOs.cast (n_makeSlice l42 z2 q (Nat.succ_pos _) q q hgg90) (by exact replicate_encA (R := E2) (z := (0 : Int)) q))).does) (Zw q) q q ?_
 obtain ⟨x91, hx91, h⟩ := bindS h
 refine Zq (y_pe_fam e62 q q q (idx_nonneg hx91) (idx_lt hx91)) q (WL.s0 (d_store_fam (i := t80) (n := List.length l81) q q q q s42 (idx_toNat hx91)) (Zw q) q (Gh.wl (gh_fam_put (L := l81) (_x := []) (x' := (List.replicate (Int.toNat x89.size) (0 : Int))) (j := Int.toNat t80) 2 3 5 (List.set l81 (Int.toNat t80) (List.replicate (Int.toNat x89.size) (0 : Int))) q q q q q (idx_toNat hx91) q) (Zn (Zr (Zq (y_loadN q q a101 s101 q) q ?_)))))
 obtain ⟨r92, hr92, h⟩ := bindS h
 refine WL.fn q q q q (f79_c _ _ hr92) ⟨(Le.agd ⟨Zl, Zl, Zl, Zl, Zl, Zt⟩), Zl, Zt⟩ (Zw q) q q (Zq (y_not q) q (Zn (wc_cond q (fun hc3 => ?_) (fun hc3 => ?_))))
 replace h := condT h hc3
 refine Zr (Zm q q (Zm q q ?_))
 obtain ⟨x93, hx93, h⟩ := bindS h
 refine Zq (y_pe_fam e62 q q q (idx_nonneg hx93) (idx_lt hx93)) q (Gh.wl (gh_fam_take (L := (List.set l81 (Int.toNat t80) (List.replicate (Int.toNat x89.size) (0 : Int)))) (x := x93) (i := t80) 2 3 q q q hx93) (Zq (y_load_fam (i := t80) q q a42 (idx_toNat hx93)) q (Zq (y_len_osmap (encA E2) x93 e42 q q q) q (Zm q q (WL.nil (Gh.we (gh_fam_back (L0 := (List.set l81 (Int.toNat t80) (List.replicate (Int.toNat x89.size) (0 : Int)))) (x' := x93) 2 3 6 q q q q q (idx_toNat hx93)) ?_))))))
 refine WE.sto (st' := [.rsv, .rsv, .os 42 1 0 (famE 3 (((ver82 + 1) + 1) + 1) (List.length (List.set l81 (Int.toNat t80) (List.replicate (Int.toNat x89.size) (0 : Int))))), .fam 2 1 (((ver82 + 1) + 1) + 1) (famM E2 (List.set l81 (Int.toNat t80) (List.replicate (Int.toNat x89.size) (0 : Int)))), .row 101 [.n x89.size, .n x89.lo, .n x89.hi, .d (D.b x89.ptr), .l E3 x89.set_], .dead, .dead]) (by show ([.rsv, .rsv, .os 42 1 0 (famE 3 (((ver82 + 1) + 1) + 1) (List.length (List.set (List.set l81 (Int.toNat t80) (List.replicate (Int.toNat x89.size) (0 : Int))) (Int.toNat t80) x93))), .fam 2 1 (((ver82 + 1) + 1) + 1) (famM E2 (List.set (List.set l81 (Int.toNat t80) (List.replicate (Int.toNat x89.size) (0 : Int))) (Int.toNat t80) x93)), .row 101 [.n x89.size, .n x89.lo, .n x89.hi, .d (D.b x89.ptr), .l E3 x89.set_], .dead, .dead] : List AO) = _; rw [set_idx_self hx93]) (we_seq (wc_block ?_))
 refine wc_loop (fun na env' st' => ∃ (t97 : Int), ∃ (l98 : List (List Int)), ∃ (ver99 : Nat), f41_l2 t80 k88 x89 x93 na t97 l98 = some r ∧ Sub [(1, .d (.pc (R38 t0))), (3, .os 2 0), (4, .n t80), (5, .pt 4 0), (17, .l E101 t0.objs), (18, .n (List.length t0.objs : Int)), (19, .n t80), (37, .n (List.length x93 : Int)), (38, .n t97)] env' ∧ SLe st' [.rsv, .rsv, .os 42 1 0 (famE 3 ver99 (List.length l98)), .fam 2 1 ver99 (famM E2 l98), .row 101 [.n x89.size, .n x89.lo, .n x89.hi, .d (D.b x89.ptr), .l E3 x89.set_], .dead, .dead]) (fun n => n) (Int.toNat ((List.length x93 : Int) - 0) + 1) ⟨0, (List.set l81 (Int.toNat t80) (List.replicate (Int.toNat x89.size) (0 : Int))), _, h, (Sx q (Sx q (Sx q (Sx q (Sx q (Sx q (Sx q (Sx q (Sx q (Sub.nil _)))))))))), ⟨Zt, Zt, Zf, Zf, Zp, Zt, Zt, Zt⟩⟩ ?_
 rintro na env1 st1 ⟨t97, l98, ver99, h, hsub, hst⟩
 rcases na with _ | na
 rw [f41_l2] at h; cases h
 rw [f41_l2] at h
 refine WC.sub hsub (WC.weak hst ?_)
 refine Zr (Zq (y_lss q q) q (Zn (wc_seq (wc_cond q (fun hc4 => ?_) (fun hc4 => ?_)))))
 replace h := condT h hc4
 refine wc_skip (we_seq (wc_seq (wc_block (Zr (Zm q q (Za q q (Zn ?_)))))))
 obtain ⟨x103, hx103, h⟩ := bindS h
 obtain ⟨x104, hx104, h⟩ := bindS h
 apply wc_region_all [_, _, _, _, _, _, _, _, .u] [[], [], [0, 1], [0, 1, 2], [], [], [5], [0, 1, 2, 3, 4, 5, 6], [0, 1, 2, 3, 4, 5, 6, 7]] [3, 8] (fun c => List.getD [[.rsv, .rsv, .os 42 1 0 (famE 3 ver99 (List.length l98)), .fam 2 1 ver99 (famM E2 l98), .row 101 [.n x89.size, .n x89.lo, .n x89.hi, .d (D.b x89.ptr), .l E3 x89.set_], .dead, .dead], [.rsv, .rsv, .os 42 1 0 (List.set (famE 3 (ver99 + 1) (List.length l98)) (Int.toNat t80) [.os 7 0]), .fam 2 1 (ver99 + 1) (famM E2 (List.set l98 (Int.toNat t80) [])), .row 101 [.n x89.size, .n x89.lo, .n x89.hi, .d (D.b x89.ptr), .l E3 x89.set_], .dead, .dead, .os 2 1 0 (eM E2 x103)], [.rsv, .rsv, .os 42 1 0 (List.set (famE 3 (ver99 + 1) (List.length l98)) (Int.toNat t80) [.os 7 0]), .fam 2 1 (ver99 + 1) (famM E2 (List.set l98 (Int.toNat t80) [])), .row 101 [.n x89.size, .n x89.lo, .n x89.hi, .d (D.b x89.ptr), .l E3 x89.set_], .dead, .dead, .os 2 1 0 (eM E2 (List.set x103 (Int.toNat t97) x89.lo))]] c []) [([], [3], [0]), ([], [4], [0]), ([0, 1], [], [0]), ([2], [], [0]), ([], [6], [0, 1]), ([], [5], [0, 1]), ([5], [], [0, 1]), ([3, 4], [], [1]), ([7, 6], [], [1])] (by kernel_rfl) (by kernel_rfl) q q q
 refine ⟨?_, ?_, ?_, ?_, ?_, ?_, ?_, ?_, ?_, Zt⟩
 refine ⟨fun F => ?_, Zt⟩
 exact Zm q q (Zd q q q)
 refine ⟨fun F => ?_, Zt⟩
 exact Zm q q (Zd q q q)
 refine ⟨fun F => ?_, Zt⟩
 exact Zq (y_pe_fam e62 q q q (idx_nonneg hx103) (idx_lt hx103)) q (Zd q q q)
 refine ⟨fun F => ?_, Zt⟩
 exact Gh.wl (gh_fam_take (L := l98) (x := x103) (i := t80) 2 3 q q q hx103) (Zq (y_load_fam (i := t80) q q a42 (idx_toNat hx103)) q (Zd q q q))
 refine ⟨fun F => ?_, fun F => ?_, Zt⟩
 exact Zm q q (Zd q q q)
 exact Zm q q (Zd q q q)
 refine ⟨fun F => ?_, fun F => ?_, Zt⟩
 exact Zq (y_fieldAddr f101_1 q) q (Zd q q q)
 exact Zq (y_fieldAddr f101_1 q) q (Zd q q q)
 refine ⟨fun F => ?_, fun F => ?_, Zt⟩
 exact Zq (y_load q q a2 q) q (Zd q q q)
 exact Zq (y_load q q a2 q) q (Zd q q q)
 refine ⟨fun F => ?_, Zt⟩
 exact Zq (y_pe e42 q q q hx104) q (Zd q q q)
 refine ⟨fun F => ?_, Zt⟩
 exact WL.s0 (d_store_peL (R := E2) (k := 1) (i := t97) (fo := 0) x89.lo q q q q Zl q q q s2 q (fun _ => q) hx104 q q) (Zw q) q (WL.done0 q q)
 refine Gh.we (gh_fam_back (L0 := l98) (x' := (List.set x103 (Int.toNat t97) x89.lo)) 2 3 7 q q q q q (idx_toNat hx103)) (we_blk (we_seq (wc_region (Zq (y_add q q q) q (Zm q q (WL.nil (WE.drop 7 (env' := [(1, .d (.pc (R38 t0))), (3, .os 2 0), (4, .n t80), (5, .pt 4 0), (17, .l E101 t0.objs), (18, .n (List.length t0.objs : Int)), (19, .n t80), (37, .n (List.length x93 : Int)), (38, .n (IntKind.i64.wrap (t97 + 1)))]) (Sub.one q (Sub.one q (Sub.one q (Sub.one q (Sub.one q (Sub.one q (Sub.one q (Sub.one q (Sub.one q (Sub.nil _)))))))))) q (stLt_cons q (stLt_cons q (Lg q (Lf (stLt_cons q (stLt_cons q (stLt_cons q q))))))) (Nat.le_trans (Nat.le_of_eq hmm) (Nat.le_of_ble_eq_true q)) ?_)))))))
 exact we_lp ⟨na, ⟨(IntKind.i64.wrap (t97 + 1)), (List.set l98 (Int.toNat t80) (List.set x103 (Int.toNat t97) x89.lo)), _, h, (Sx q (Sx q (Sx q (Sx q (Sx q (Sx q (Sx q (Sx q (Sx q (Sub.nil _)))))))))), ⟨Zt, Zt, Zf, Zf, Zp, Zt, Zt, Zt⟩⟩, Nat.lt_succ_self na⟩
 replace h := condF h hc4
 exact wc_exit (we_seq_exit (we_lp_exit (we_blk_hit (we_blk (WE.drop 4 (env' := [(1, .d (.pc (R38 t0))), (3, .os 2 0), (17, .l E101 t0.objs), (18, .n (List.length t0.objs : Int)), (19, .n t80)]) (Sub.one q (Sub.one q (Sub.one q (Sub.one q (Sub.one q (Sub.nil _)))))) q (stLt_cons q (stLt_cons q (Lg q (stLt_cons (lt_fam _ _ _ _ _ _) q)))) (Nat.le_trans (Nat.le_of_eq hmm) (Nat.le_of_ble_eq_true q)) (we_lp ⟨l98, _, h, (Sx q (Sx q (Sx q (Sx q (Sx q (Sub.nil _)))))), ⟨Zt, Zt, Zf, Zf, Zt⟩⟩))))))
 replace h := condF h hc3
 exact wc_skip (we_blk (WE.drop 4 (env' := [(1, .d (.pc (R38 t0))), (3, .os 2 0), (17, .l E101 t0.objs), (18, .n (List.length t0.objs : Int)), (19, .n t80)]) (Sub.one q (Sub.one q (Sub.one q (Sub.one q (Sub.one q (Sub.nil _)))))) q (stLt_cons q (stLt_cons q (Lg q (stLt_cons (lt_fam _ _ _ _ _ _) q)))) (Nat.le_trans (Nat.le_of_eq hmm) (Nat.le_of_ble_eq_true q)) (we_lp ⟨(List.set l81 (Int.toNat t80) (List.replicate (Int.toNat x89.size) (0 : Int))), _, h, (Sx q (Sx q (Sx q (Sx q (Sx q (Sub.nil _)))))), ⟨Zt, Zt, Zf, Zf, Zt⟩⟩)))
 rintro env1 st1 ⟨l86, ver87, h, hsub, hst⟩
 subst hk88
 dsimp only at h
 refine WC.sub hsub (WC.weak hst ?_)
 exact wc_region (Zq (y_add q q q) q (Zm q q (WL.nil (we_lp ⟨n, ⟨(IntKind.i64.wrap (t80 + 1)), l86, _, h, (Sx q (Sx q (Sx q (Sx q (Sx q (Sub.nil _)))))), ⟨Zt, Zt, Zf, Zf, Zt⟩⟩, Nat.lt_succ_self n⟩))))
 replace h := condF h hc2
 exact wc_exit (we_seq_exit (we_lp_exit (we_blk_hit (we_lp ⟨l81, _, h, (Sx q (Sx q (Sub.nil _))), ⟨Zt, Zt, Zf, Zf, Zt⟩⟩))))
 rintro env1 st1 ⟨l74, ver75, h, hsub, hst⟩
 subst hk76
 dsimp only at h
 refine WC.sub hsub (WC.weak hst ?_)
 replace h := letkS h
 obtain ⟨k107, hk107, h⟩ := h
 refine wc_cut (fun env' st' => ∃ (l105 : List (List Int)), ∃ (ver106 : Nat), k107 l105 = some r ∧ Sub [(3, .os 2 0)] env' ∧ SLe st' [.rsv, .rsv, .os 42 1 0 (famE 3 ver106 (List.length l105)), .fam 2 1 ver106 (famM E2 l105)]) ?_ ?_
 refine Zr (Zq (y_fieldAddrc f38_6 q) q (Zq (y_loadc q a34 q) q (Zq (y_len_map E140 t0.inits e34 q q Zl) q (Zm q q (Zn (wc_block (wc_loop (fun n env' st' => ∃ (t111 : Int), ∃ (l112 : List (List Int)), ∃ (ver113 : Nat), f41_l3 t0 k107 n t111 l112 = some r ∧ Sub [(3, .os 2 0), (52, .l E140 t0.inits), (53, .n (List.length t0.inits : Int)), (54, .n t111)] env' ∧ SLe st' [.rsv, .rsv, .os 42 1 0 (famE 3 ver113 (List.length l112)), .fam 2 1 ver113 (famM E2 l112)]) (fun n => n) (Int.toNat ((List.length t0.inits : Int) - 0) + 1) ⟨0, l74, _, h, (Sx q (Sx q (Sx q (Sx q (Sub.nil _))))), ⟨Zt, Zt, Zf, Zf, Zt⟩⟩ ?_)))))))
 rintro n env1 st1 ⟨t111, l112, ver113, h, hsub, hst⟩
 rcases n with _ | n
 rw [f41_l3] at h; cases h
 rw [f41_l3] at h
 refine WC.sub hsub (WC.weak hst ?_)
 refine Zr (Zq (y_lss q q) q (Zn (wc_seq (wc_cond q (fun hc5 => ?_) (fun hc5 => ?_)))))
 replace h := condT h hc5
 refine wc_skip (we_seq (wc_seq (wc_block (Zr ?_))))
 obtain ⟨x117, hx117, h⟩ := bindS h
 refine Zq (y_indexAddr e34 q Zl q (idx_nonneg hx117) (idx_row E140_eq hx117) q) q (Zq (y_loadcN q a140 s140 q) q (WL.s ((b_alloc z140).does) (Zw q) q q (WL.s0 (d_store q q q q q q s140 q q) (Zw q) q (Zn ?_))))
 obtain ⟨x118, hx118, h⟩ := bindS h
 obtain ⟨x119, hx119, h⟩ := bindS h
 apply wc_region_all [_, _, _, _, _, _, _, _, _, _, .u] [[], [], [1], [0, 1, 2], [0, 1, 2, 3], [], [5], [], [7], [0, 1, 2, 3, 4, 5, 6, 7, 8], [0, 1, 2, 3, 4, 5, 6, 7, 8, 9]] [4, 10] (fun c => List.getD [[.rsv, .rsv, .os 42 1 0 (famE 3 ver113 (List.length l112)), .fam 2 1 ver113 (famM E2 l112), .row 140 [.n x117.o, .n x117.slot, .n x117.v]], [.rsv, .rsv, .os 42 1 0 (List.set (famE 3 (ver113 + 1) (List.length l112)) (Int.toNat x117.o) [.os 5 0]), .fam 2 1 (ver113 + 1) (famM E2 (List.set l112 (Int.toNat x117.o) [])), .row 140 [.n x117.o, .n x117.slot, .n x117.v], .os 2 1 0 (eM E2 x118)], [.rsv, .rsv, .os 42 1 0 (List.set (famE 3 (ver113 + 1) (List.length l112)) (Int.toNat x117.o) [.os 5 0]), .fam 2 1 (ver113 + 1) (famM E2 (List.set l112 (Int.toNat x117.o) [])), .row 140 [.n x117.o, .n x117.slot, .n x117.v], .os 2 1 0 (eM E2 (List.set x118 (Int.toNat x117.slot) x117.v))]] c []) [([], [3], [0]), ([], [8], [0]), ([1], [], [0]), ([0, 2], [], [0]), ([3], [], [0]), ([], [8], [0, 1]), ([5], [], [0, 1]), ([], [8], [0, 1]), ([7], [], [0, 1]), ([4, 6], [], [1]), ([9, 8], [], [1])] (by kernel_rfl) (by kernel_rfl) q q q
 refine ⟨?_, ?_, ?_, ?_, ?_, ?_, ?_, ?_, ?_, ?_, ?_, Zt⟩
 refine ⟨fun F => ?_, Zt⟩
 exact Zm q q (Zd q q q)
 refine ⟨fun F => ?_, Zt⟩
 exact Zq (y_fieldAddr f140_0 q) q (Zd q q q)
 refine ⟨fun F => ?_, Zt⟩
 exact Zq (y_load q q a3 q) q (Zd q q q)
 refine ⟨fun F => ?_, Zt⟩
 exact Zq (y_pe_fam e62 q q q (idx_nonneg hx118) (idx_lt hx118)) q (Zd q q q)
 refine ⟨fun F => ?_, Zt⟩
 exact Gh.wl (gh_fam_take (L := l112) (x := x118) (i := x117.o) 2 3 q q q hx118) (Zq (y_load_fam (i := x117.o) q q a42 (idx_toNat hx118)) q (Zd q q q))
 refine ⟨fun F => ?_, fun F => ?_, Zt⟩
 exact Zq (y_fieldAddr f140_1 q) q (Zd q q q)
 exact Zq (y_fieldAddr f140_1 q) q (Zd q q q)
 refine ⟨fun F => ?_, fun F => ?_, Zt⟩
 exact Zq (y_load q q a3 q) q (Zd q q q)
 exact Zq (y_load q q a3 q) q (Zd q q q)
 refine ⟨fun F => ?_, fun F => ?_, Zt⟩
 exact Zq (y_fieldAddr f140_2 q) q (Zd q q q)
 exact Zq (y_fieldAddr f140_2 q) q (Zd q q q)
 refine ⟨fun F => ?_, fun F => ?_, Zt⟩
 exact Zq (y_load q q a2 q) q (Zd q q q)
 exact Zq (y_load q q a2 q) q (Zd q q q)
 refine ⟨fun F => ?_, Zt⟩
 exact Zq (y_pe e42 q q q hx119) q (Zd q q q)
 refine ⟨fun F => ?_, Zt⟩
 exact WL.s0 (d_store_peL (R := E2) (k := 1) (i := x117.slot) (fo := 0) x117.v q q q q Zl q q q s2 q (fun _ => q) hx119 q q) (Zw q) q (WL.done0 q q)
 exact Gh.we (gh_fam_back (L0 := l112) (x' := (List.set x118 (Int.toNat x117.slot) x117.v)) 2 3 5 q q q q q (idx_toNat hx118)) (we_blk (we_seq (wc_region (Zq (y_add q q q) q (Zm q q (WL.nil (WE.drop 4 (env' := [(3, .os 2 0), (52, .l E140 t0.inits), (53, .n (List.length t0.inits : Int)), (54, .n (IntKind.i64.wrap (t111 + 1)))]) (Sub.one q (Sub.one q (Sub.one q (Sub.one q (Sub.nil _))))) q (stLt_cons q (stLt_cons q (Lg q (stLt_cons (lt_fam _ _ _ _ _ _) q)))) (Nat.le_trans (Nat.le_of_eq hmm) (Nat.le_of_ble_eq_true q)) (we_lp ⟨n, ⟨(IntKind.i64.wrap (t111 + 1)), (List.set l112 (Int.toNat x117.o) (List.set x118 (Int.toNat x117.slot) x117.v)), _, h, (Sx q (Sx q (Sx q (Sx q (Sub.nil _))))), ⟨Zt, Zt, Zf, Zf, Zt⟩⟩, Nat.lt_succ_self n⟩))))))))
 replace h := condF h hc5
 exact wc_exit (we_seq_exit (we_lp_exit (we_blk_hit (we_lp ⟨l112, _, h, (Sx q (Sub.nil _)), ⟨Zt, Zt, Zf, Zf, Zt⟩⟩))))
 rintro env1 st1 ⟨l105, ver106, h, hsub, hst⟩
 subst hk107
 dsimp only at h
 refine WC.sub hsub (WC.weak hst ?_)
 refine Zr (Zm q q (Za q q (Zn (wc_ret ?_))))
 obtain rfl := Oi h
 exact we_ret_newv (st1 := [.rsv, .rsv, .os 42 1 0 (famE 3 ver106 (List.length l105)), .fam 2 1 ver106 (famM E2 l105)]) [2, 3] (.os 0 0) [.os 42 1 0 (famE 1 ver106 (List.length l105)), .fam 2 1 ver106 (famM E2 l105)] (fun i => List.getD [0, ver106] i 0) (fun i => List.getD [vo, vf] i 0) (rs1 q (rv_t q)) q Zl ⟨OLe.refl _, OLe.refl _, OLe.refl _, OLe.refl _, Zt⟩ (by decide) (Rg (cons_eq (ren_fam _ _ _ _ _ _) q)) ⟨q, q, Zt⟩ (Lg q (stLt_cons (lt_fam _ _ _ _ _ _) q)) q hmm q q ⟨q, q, Zt⟩ q (cons_eq (rv_osf _ _ _ _ _ _ _ _ q) (cons_eq (rv_fam _ _ _ _ _ _ _ _) q)) (by simp [AV.rv, AV.rvs]) ⟨q, q⟩

theorem f40n_c (s0 : List Obj) {v0 : Nat} {r : List Obj} (h : f40n s0 = some r) : Ctr Tryz.prog 40 [.l E101 s0] [.rsv] (WinG 1 (fun r' new => r' = .os 0 v0 ∧ new = [.os 101 5 v0 (eM R101 r)])) := by
 unfold f40n at h
 replace h := guardBS h
 obtain ⟨hg, h⟩ := h
 obtain rfl := Oi h
 refine ctr_intro Tryz.func40 (by kernel_rfl) q q q (fun mm φφ ww hmm => ?_)
 refine Zr (Za q q (Zn (wc_seq (Zr (Zm q q (WL.isnil false q Tryz.underlying33 q Zl (Zw q) q (fun b hb => ?_)))))))
 refine Zn (wc_cond q (fun hc => ?_) (fun hc => ?_))
 have hb2 := hb (by cases b <;> first | rfl | cases hc)
 have hb3 : s0 = [] := by cases s0 <;> first | rfl | cases hb2
 subst hb3
 exact Zr (Za q q (Zn (wc_ret (we_seq_ret (Gh.we (gh_nil_os 2 101 5 q) (we_ret_newv (st1 := [.rsv, .os 101 5 0 (eM R101 ([] : List Obj))]) [1] (.os 0 0) [.os 101 5 0 (eM R101 ([] : List Obj))] (fun i => List.getD [0] i 0) (fun i => List.getD [v0] i 0) (rs1 q (rv_t q)) q Zl ⟨OLe.refl _, OLe.refl _, Zt⟩ (by decide) (cons_eq (ren_os _ _ _ _ _ _) q) ⟨q, Zt⟩ (stLt_cons (lt_os _ _ _ _ _ _) q) q hmm q q ⟨q, Zt⟩ q (cons_eq (rv_os _ _ _ _ _ _ _ _) q) (by simp [AV.rv]) ⟨q, q⟩))))))
 exact wc_skip (we_seq (Zr (WL.s (((n_buildNone l33).b).does) (Zw q) q q (Zm q q (WL.s (d_appendL R101 ([] : List Obj) s0 l33 z101 q (by decide) q q q q (Src.dataL Zl E101_eq (fun _ => q)) (fun _ => q) (fun _ => q) hg) (Zw q) q q (Za q q (Zn (wc_ret (we_ret_newv (st1 := [.rsv, .os 101 5 (0 + 1) (eM R101 (([] : List Obj) ++ s0))]) [1] (.os 0 (0 + 1)) [.os 101 5 (0 + 1) (eM R101 (([] : List Obj) ++ s0))] (fun i => List.getD [(0 + 1)] i 0) (fun i => List.getD [v0] i 0) (rs1 q (rv_t q)) q Zl ⟨OLe.refl _, OLe.refl _, Zt⟩ (by decide) (cons_eq (ren_os _ _ _ _ _ _) q) ⟨q, Zt⟩ (stLt_cons (lt_os _ _ _ _ _ _) q) q hmm q q ⟨q, Zt⟩ q (cons_eq (rv_os _ _ _ _ _ _ _ _) q) (by simp [AV.rv]) ⟨q, q⟩)))))))))

theorem f10_c (t0 : Text) (in1 : List Int) {vo : Nat} {vf : Nat} {vu : Nat} {r : Int × (List Insn) × (List MHandler) × (List Obj) × Int × (List Int) × (List (List Int)) × (List Int)} (h : f10 t0 in1 = some r) : Ctr Tryz.prog 10 [.d (.ag (R38 t0)), .l E2 in1] [.rsv, .rsv, .rsv, .rsv] (WinG 4 (fun r' new => r' = .tu [.pt 0 0, .d (.i .i64 r.1)] ∧ new = [.row 90 (mR r.2.1 r.2.2.1 r.2.2.2.1 r.2.2.2.2.1 1 vo r.2.2.2.2.2.1 3 vu), .os 42 1 vo (famE 2 vf (List.length r.2.2.2.2.2.2.1)), .fam 2 1 vf (famM E2 r.2.2.2.2.2.2.1), .os 2 1 vu (eM E2 r.2.2.2.2.2.2.2)])) := by
 unfold f10 at h
 refine ctr_intro Tryz.func10 (by kernel_rfl) q q q (fun mm φφ ww hmm => ?_)
 refine Zr (WL.s ((b_boxd q q (Zs _)).does) (Zw q) q q (Za q q (Za q q (Zn (wc_seq (Zr (Zq (y_loadcN q a38 s38 q) q ?_)))))))
 obtain ⟨r57, hr57, h⟩ := bindS h
 refine WL.fn q q q q (f37_c _ hr57) ⟨Zl, Zt⟩ (Zw q) q q (Zq (y_not q) q (Zn (wc_cond q (fun hc1 => ?_) (fun hc1 => ?_))))
 replace h := condT h hc1
 refine Zr (Za q q (Za q q (Zn (wc_ret (we_seq_ret ?_)))))
 cases h
 replace h := condF h hc1
 refine wc_skip (we_seq (wc_seq (Gh.wc gh_rsv (Gh.wc gh_rsv (Gh.wc gh_rsv ?_)))))
 obtain ⟨r58, hr58, h⟩ := bindS h
 obtain ⟨r59, hr59, h⟩ := bindS h
 obtain ⟨r60, hr60, h⟩ := bindS h
 obtain ⟨r62, hr62, h⟩ := bindS h
 obtain ⟨r64, hr64, h⟩ := bindS h
 apply wc_region_all [_, _, _, _, _, _, _, _, _, _, _, _, _, _, _, _, _, _] [[], [0], [0, 1], [], [3], [0, 1, 2, 3, 4], [], [6], [0, 1, 2, 3, 4, 5, 6, 7], [], [9], [], [0, 1, 2, 3, 4, 5, 6, 7, 8, 11], [], [0, 1, 2, 3, 4, 5, 6, 7, 8, 11, 12, 13], [0, 1, 2, 3, 4, 5, 6, 7, 8, 9, 10, 11, 12, 13, 14], [0, 1, 2, 3, 4, 5, 6, 7, 8, 9, 10, 11, 12, 13, 14, 15], [0, 1, 2, 3, 4, 5, 6, 7, 8, 9, 10, 11, 12, 13, 14, 15, 16]] [8, 12, 16] (fun c => List.getD [[.rsv, .rsv, .rsv, .rsv, .rsv, .rsv, .rsv], [.rsv, .rsv, .rsv, .rsv, .os 101 5 0 (eM R101 r60), .rsv, .rsv], [.rsv, .rsv, .rsv, .rsv, .os 101 5 0 (eM R101 r60), .os 42 1 0 (famE 6 0 (List.length r62)), .fam 2 1 0 (famM E2 r62)], [.rsv, .rsv, .rsv, .rsv, .os 101 5 0 (eM R101 r60), .os 42 1 0 (famE 6 0 (List.length r62)), .fam 2 1 0 (famM E2 r62), .row 90 [.l E45 r58, .l E108 r59, .os 4 0, .n t0.excs, .os 5 0, .l E2 r64, sN]]] c []) [([], [2], [0]), ([0], [], [0]), ([1], [], [0]), ([], [2], [0]), ([3], [], [0]), ([4], [], [0]), ([], [2], [0]), ([6], [], [0]), ([7], [], [0]), ([], [2], [0, 1, 2]), ([9], [], [0, 1, 2]), ([], [2], [0, 1]), ([11], [], [1]), ([], [1], [0, 1, 2]), ([13], [], [2]), ([2, 5, 8, 10, 12, 14], [], [2]), ([15], [], [2]), ([16], [], [3])] (by kernel_rfl) (by kernel_rfl) q q q
 refine ⟨?_, ?_, ?_, ?_, ?_, ?_, ?_, ?_, ?_, ?_, ?_, ?_, ?_, ?_, ?_, ?_, ?_, ?_, Zt⟩
 refine ⟨fun F => ?_, Zt⟩
 exact Zq (y_fieldAddrc f38_0 q) q (Zd q q q)
 refine ⟨fun F => ?_, Zt⟩
 exact Zq (y_loadc q a23 q) q (Zd q q q)
 refine ⟨fun F => ?_, Zt⟩
 exact WL.fn q q q q (f38_c _ hr58) ⟨Zl, Zt⟩ (Zw q) q q (Zd q q q)
 refine ⟨fun F => ?_, Zt⟩
 exact Zq (y_fieldAddrc f38_1 q) q (Zd q q q)
 refine ⟨fun F => ?_, Zt⟩
 exact Zq (y_loadc q a29 q) q (Zd q q q)
 refine ⟨fun F => ?_, Zt⟩
 exact WL.fn q q q q (f39_c _ hr59) ⟨Zl, Zt⟩ (Zw q) q q (Zd q q q)
 refine ⟨fun F => ?_, Zt⟩
 exact Zq (y_fieldAddrc f38_5 q) q (Zd q q q)
 refine ⟨fun F => ?_, Zt⟩
 exact Zq (y_loadc q a33 q) q (Zd q q q)
 refine ⟨fun F => ?_, Zt⟩
 refine WL.wing [4] q q q q (f40n_c _ hr60 (v0 := 0)) ⟨Zl, Zt⟩ q (by decide) (cons_eq q q) ⟨q, Zt⟩ q q (Zw q) q q (fun r' new hS => ?_)
 obtain ⟨rfl, rfl⟩ := hS
 refine ⟨_, _, q, (cons_eq (ren_os _ _ _ _ _ _) q), q, (stLt_cons (lt_os _ _ _ _ _ _) q), ?_⟩
 exact Zd q q q
 refine ⟨fun F => ?_, fun F => ?_, fun F => ?_, Zt⟩
 exact Zq (y_fieldAddrc f38_7 q) q (Zd q q q)
 exact Zq (y_fieldAddrc f38_7 q) q (Zd q q q)
 exact Zq (y_fieldAddrc f38_7 q) q (Zd q q q)
 refine ⟨fun F => ?_, fun F => ?_, fun F => ?_, Zt⟩
 exact Zq (y_loadc q a3 q) q (Zd q q q)
 exact Zq (y_loadc q a3 q) q (Zd q q q)
 exact Zq (y_loadc q a3 q) q (Zd q q q)
 refine ⟨fun F => ?_, fun F => ?_, Zt⟩
 exact Zq (y_loadcN q a38 s38 q) q (Zd q q q)
 exact Zq (y_loadcN q a38 s38 q) q (Zd q q q)
 refine ⟨fun F => ?_, Zt⟩
 refine WL.wing [5, 6] q q q q (f41_c _ hr62 (vo := 0) (vf := 0)) ⟨Zl, Zt⟩ q (by decide) (cons_eq q (cons_eq q q)) ⟨q, q, Zt⟩ q q (Zw q) q q (fun r' new hS => ?_)
 obtain ⟨rfl, rfl⟩ := hS
 refine ⟨_, _, q, (Rg (cons_eq (ren_fam _ _ _ _ _ _) q)), q, (Lg q (stLt_cons (lt_fam _ _ _ _ _ _) q)), ?_⟩
 exact Zd q q q
 refine ⟨fun F => ?_, fun F => ?_, fun F => ?_, Zt⟩
 exact Zm q q (Zd q q q)
 exact Zm q q (Zd q q q)
 exact Zm q q (Zd q q q)
 refine ⟨fun F => ?_, Zt⟩
 exact WL.fn q q q q (f42_c _ hr64) ⟨Zl, Zt⟩ (Zw q) q q (Zd q q q)
 refine ⟨fun F => ?_, Zt⟩
 exact Zq (y_buildS p90 z90 q q) q (Zd q q q)
 refine ⟨fun F => ?_, Zt⟩
 exact WL.s ((b_box q q).does) (Zw q) q q (Zd q q q)
 refine ⟨fun F => ?_, Zt⟩
 exact Za q q (Zd q q q)
 refine we_seq ?_
 replace h := letkS h
 obtain ⟨k66, hk66, h⟩ := h
 refine wc_cut (fun env' st' => ∃ (l65 : List Obj), k66 l65 = some r ∧ Sub [(6, .pt 7 0)] env' ∧ SLe st' [.rsv, .rsv, .rsv, .rsv, .os 101 5 0 (eM R101 l65), .os 42 1 0 (famE 6 0 (List.length r62)), .fam 2 1 0 (famM E2 r62), .row 90 [.l E45 r58, .l E108 r59, .os 4 0, .n t0.excs, .os 5 0, .l E2 r64, sN]]) ?_ ?_
 refine Zr (Zm q q (Zq (y_nilCheckp q) q (Zq (y_fieldAddr f90_2 q) q (Zq (y_load q q a33 q) q (Zq (y_len_osmap (encA R101) r60 e33 q q q) q (Zm q q (Zn (wc_block (wc_loop (fun n env' st' => ∃ (t69 : Int), ∃ (l70 : List Obj), f10_l1 r60 k66 n t69 l70 = some r ∧ Sub [(6, .pt 7 0), (32, .n (List.length r60 : Int)), (33, .n t69)] env' ∧ SLe st' [.rsv, .rsv, .rsv, .rsv, .os 101 5 0 (eM R101 l70), .os 42 1 0 (famE 6 0 (List.length r62)), .fam 2 1 0 (famM E2 r62), .row 90 [.l E45 r58, .l E108 r59, .os 4 0, .n t0.excs, .os 5 0, .l E2 r64, sN]]) (fun n => n) (Int.toNat ((List.length r60 : Int) - 0) + 1) ⟨0, r60, h, (Sx q (Sx q (Sx q (Sub.nil _)))), ⟨Zt, Zt, Zt, Zt, Zf, Zf, Zf, Zp, Zt⟩⟩ ?_)))))))))
 rintro n env1 st1 ⟨t69, l70, h, hsub, hst⟩
 rcases n with _ | n
 rw [f10_l1] at h; cases h
 rw [f10_l1] at h
 refine WC.sub hsub (WC.weak hst ?_)
 refine Zr (Zq (y_lss q q) q (Zn (wc_seq (wc_cond q (fun hc2 => ?_) (fun hc2 => ?_)))))
 replace h := condT h hc2
 refine wc_skip (we_seq (wc_seq (wc_block (Zr (Zm q q (Za q q (Zn ?_)))))))
 obtain ⟨x73, hx73, h⟩ := bindS h
 obtain ⟨r74, hr74, h⟩ := bindS h
 obtain ⟨x75, hx75, h⟩ := bindS h
 apply wc_region_all [_, _, _, _, _, _, _, _, _, _, _, _, _, _, _, _, .u] [[], [0], [0, 1], [0, 1, 2], [], [], [5], [5, 6], [5, 6, 7], [], [5, 6, 7, 8, 9], [5, 6, 7, 8, 9, 10], [5, 6, 7, 8, 9, 10, 11], [5, 6, 7, 8, 9, 10, 11, 12], [0, 1, 2, 3, 4, 5, 6, 7, 8, 9, 10, 11, 12, 13], [0, 1, 2, 3, 4, 5, 6, 7, 8, 9, 10, 11, 12, 13, 14], [0, 1, 2, 3, 4, 5, 6, 7, 8, 9, 10, 11, 12, 13, 14, 15]] [16] (fun c => List.getD [[.rsv, .rsv, .rsv, .rsv, .os 101 5 0 (eM R101 l70), .os 42 1 0 (famE 6 0 (List.length r62)), .fam 2 1 0 (famM E2 r62), .row 90 [.l E45 r58, .l E108 r59, .os 4 0, .n t0.excs, .os 5 0, .l E2 r64, sN]], [.rsv, .rsv, .rsv, .rsv, .os 101 5 0 (eM R101 (List.set l70 (Int.toNat t69) (Obj.mk x75.size x75.lo x75.hi x75.ptr r74))), .os 42 1 0 (famE 6 0 (List.length r62)), .fam 2 1 0 (famM E2 r62), .row 90 [.l E45 r58, .l E108 r59, .os 4 0, .n t0.excs, .os 5 0, .l E2 r64, sN]]] c []) [([], [6], [0]), ([0], [], [0]), ([1], [], [0]), ([2], [], [0]), ([], [7], [0]), ([], [6], [0]), ([5], [], [0]), ([6], [], [0]), ([7], [], [0]), ([], [7], [0]), ([8, 9], [], [0]), ([10], [], [0]), ([11], [], [0]), ([12], [], [0]), ([3, 4], [], [0]), ([14], [], [0]), ([15, 13], [], [0])] (by kernel_rfl) (by kernel_rfl) q q q
 refine ⟨?_, ?_, ?_, ?_, ?_, ?_, ?_, ?_, ?_, ?_, ?_, ?_, ?_, ?_, ?_, ?_, ?_, Zt⟩
 refine ⟨fun F => ?_, Zt⟩
 exact Zm q q (Zd q q q)
 refine ⟨fun F => ?_, Zt⟩
 exact Zq (y_nilCheckp q) q (Zd q q q)
 refine ⟨fun F => ?_, Zt⟩
 exact Zq (y_fieldAddr f90_2 q) q (Zd q q q)
 refine ⟨fun F => ?_, Zt⟩
 exact Zq (y_load q q a33 q) q (Zd q q q)
 refine ⟨fun F => ?_, Zt⟩
 exact Zm q q (Zd q q q)
 refine ⟨fun F => ?_, Zt⟩
 exact Zm q q (Zd q q q)
 refine ⟨fun F => ?_, Zt⟩
 exact Zq (y_nilCheckp q) q (Zd q q q)
 refine ⟨fun F => ?_, Zt⟩
 exact Zq (y_fieldAddr f90_2 q) q (Zd q q q)
 refine ⟨fun F => ?_, Zt⟩
 exact Zq (y_load q q a33 q) q (Zd q q q)
 refine ⟨fun F => ?_, Zt⟩
 exact Zm q q (Zd q q q)
 refine ⟨fun F => ?_, Zt⟩
 exact Zq (y_pe e33 q q q hx73) q (Zd q q q)
 refine ⟨fun F => ?_, Zt⟩
 exact Zq (y_fieldAddr_pe f101_4 q q) q (Zd q q q)
 refine ⟨fun F => ?_, Zt⟩
 exact Zq (y_load_peL (fo := 4) q q q a96 (fun _ => q) hx73 q) q (Zd q q q)
 refine ⟨fun F => ?_, Zt⟩
 exact WL.fn q q q q (f43_c _ hr74) ⟨Zl, Zt⟩ (Zw q) q q (Zd q q q)
 refine ⟨fun F => ?_, Zt⟩
 exact Zq (y_pe e33 q q q hx75) q (Zd q q q)
 refine ⟨fun F => ?_, Zt⟩
 exact Zq (y_fieldAddr_pe f101_4 q q) q (Zd q q q)
 refine ⟨fun F => ?_, Zt⟩
 exact WL.s0 (d_store_peL (R := R101) (k := 5) (i := t69) (fo := 4) (Obj.mk x75.size x75.lo x75.hi x75.ptr r74) q q q q Zl q q q s96 q (fun _ => q) hx75 q q) (Zw q) q (WL.done0 q q)
 exact we_blk (we_seq (wc_region (Zq (y_add q q q) q (Zm q q (WL.nil (we_lp ⟨n, ⟨(IntKind.i64.wrap (t69 + 1)), (List.set l70 (Int.toNat t69) (Obj.mk x75.size x75.lo x75.hi x75.ptr r74)), h, (Sx q (Sx q (Sx q (Sub.nil _)))), ⟨Zt, Zt, Zt, Zt, Zf, Zf, Zf, Zp, Zt⟩⟩, Nat.lt_succ_self n⟩))))))
 replace h := condF h hc2
 exact wc_exit (we_seq_exit (we_lp_exit (we_blk_hit (we_lp ⟨l70, h, (Sx q (Sub.nil _)), ⟨Zt, Zt, Zt, Zt, Zf, Zf, Zf, Zp, Zt⟩⟩))))
 rintro env1 st1 ⟨l65, h, hsub, hst⟩
 subst hk66
 dsimp only at h
 refine WC.sub hsub (WC.weak hst ?_)
 refine wc_seq (WC.nil_cell 7 6 2 1 q q (wc_region (Zm q q (Za q q (Za q q (Zn (wc_ret ?_)))))))
 refine WE.freezeX [] [(7, 2)] 4 (List.map E101 l65) q (encA_map E101_eq l65) Zt ⟨_, _, q, q, Zt⟩ ?_
 obtain rfl := Oi h
 exact we_ret_newv (st1 := [.rsv, .rsv, .rsv, .rsv, .dead, .os 42 1 0 (famE 6 0 (List.length r62)), .fam 2 1 0 (famM E2 r62), .row 90 (mR r58 r59 l65 t0.excs 5 0 r64 8 0), .os 2 1 0 (eM E2 ([] : List Int))]) [7, 5, 6, 8] (.tu [.pt 0 0, .d (.i .i64 0)]) [.row 90 (mR r58 r59 l65 t0.excs 1 0 r64 3 0), .os 42 1 0 (famE 2 0 (List.length r62)), .fam 2 1 0 (famM E2 r62), .os 2 1 0 (eM E2 ([] : List Int))] (fun i => List.getD [0, 0, 0, 0] i 0) (fun i => List.getD [0, vo, vf, vu] i 0) (rs2 q (rv_t q) (rv_t q)) q (Le.tu ⟨Zl, Zl, Zt⟩) ⟨OLe.refl _, OLe.refl _, OLe.refl _, OLe.refl _, OLe.refl _, OLe.refl _, OLe.refl _, Zp, OLe.refl _, Zt⟩ (by decide) (cons_eq q (Rg (Rf (cons_eq (ren_os _ _ _ _ _ _) q)))) ⟨q, q, q, q, Zt⟩ (stLt_cons q (Lg q (Lf (stLt_cons (lt_os _ _ _ _ _ _) q)))) q hmm q q ⟨Zt, q, q, q, Zt⟩ q (cons_eq (by simp [AO.rv, AV.rv]) (cons_eq (rv_osf _ _ _ _ _ _ _ _ q) (cons_eq (rv_fam _ _ _ _ _ _ _ _) (cons_eq (rv_os _ _ _ _ _ _ _ _) q)))) (by simp [AV.rv, AV.rvs]) ⟨q, q⟩

theorem f10b_c (t0 : Text) (in1 : List Int) {r : Unit × Int} (h : f10b t0 in1 = some r) : Pu Tryz.prog 10 [.ag (R38 t0), .sl (List.map E2 in1)] (.tu [.v (nilOf r.1), .i .i64 r.2]) := by
 unfold f10b at h
 refine fn_intro Tryz.func10 (by kernel_rfl) q q q (fun φφ ww => ?_)
 refine Zr (WL.s ((b_boxd q q (Zs _)).does) (Zw q) q q (Za q q (Za q q (Zn (wc_seq (Zr (Zq (y_loadcN q a38 s38 q) q ?_)))))))
 obtain ⟨r57, hr57, h⟩ := bindS h
 refine WL.fn q q q q (f37_c _ hr57) ⟨Zl, Zt⟩ (Zw q) q q (Zq (y_not q) q (Zn (wc_cond q (fun hc1 => ?_) (fun hc1 => ?_))))
 replace h := condT h hc1
 refine Zr (Za q q (Za q q (Zn (wc_ret (we_seq_ret ?_)))))
 obtain rfl := Oi h
 exact we_ret_fn (rs2 q (rv_t q) (rv_t q)) (Le.tud ⟨Zl, Zl, Zt⟩)
 replace h := condF h hc1
 refine wc_skip (we_seq (wc_seq ?_))
 cases h
theorem f66_c (x0 : Insn) : Pu Tryz.prog 66 [.ag (R45 x0)] (.ag (R38 (f66 x0))) := by
 generalize h : f66 x0 = r
 unfold f66 at h
 refine fn_intro Tryz.func66 (by kernel_rfl) q q q (fun φφ ww => ?_)
 refine Zr (WL.s ((b_boxd q q (Zs _)).does) (Zw q) q q (WL.s ((b_alloc z38).does) (Zw q) q q (Zn (Zr (Zq (y_loadcN q a45 s45 q) q (Zq (y_build p45 z45 q q) q (Zq (y_build p45 z45 q q) q (WL.s ((NewOs.b (n_buildSlice l23 z45 q (by decide) (by decide) q q q (by decide))).does) (Zw q) q q (Zq (y_build p108 z108 q q) q (WL.s ((NewOs.b (n_buildSlice l29 z108 q (by decide) (by decide) q q q (by decide))).does) (Zw q) q q (Zq (y_build p101 z101 q q) q (WL.s ((NewOs.b (NewOs.weak (es' := List.map (encA R101) [(Obj.mk 1 0 9 false [])]) (n_buildSlice l33 z101 q (by decide) (by decide) q q q (by decide)) (by exact ⟨⟨Zl, Zl, Zl, Zl, Le.nil, Zt⟩, Zt⟩))).does) (Zw q) q q (Zq (y_build p164 z164 q q) q ?_)))))))))))))
 refine WL.s ((NewOs.b (NewOs.weak (es' := List.map (encA R164) [(MProt.mk 0 [])]) (n_buildSlice l35 z164 q (by decide) (by decide) q q q (by decide)) (by exact ⟨⟨Zl, Le.nil, Zt⟩, Zt⟩))).does) (Zw q) q q (Zq (y_build p27 z27 q q) q (WL.s ((NewOs.b (NewOs.weak (es' := List.map (encA R27) [(MTask.mk 0 0 [] 0)]) (n_buildSlice l28 z27 q (by decide) (by decide) q q q (by decide)) (by exact ⟨⟨Zl, Zl, Le.nil, Zl, Zt⟩, Zt⟩))).does) (Zw q) q q (Zq (y_buildS p38 z38 q q) q (WL.s0 (d_storeS q q q q q q s38 q q) (Zw q) q (WL.st (st' := [.row 38 [.os 1 0, .os 2 0, sN, sN, sN, .os 3 0, sN, .n 4, .os 5 0, .os 4 0, sN], .os 45 7 0 (eM R45 [x0, (Insn.mk 57 0 0 0 0 0 0), (Insn.mk 57 0 0 0 0 0 0)]), .os 108 4 0 (eM R108 [(MHandler.mk 0 1 2 false)]), .os 101 5 0 (eM R101 [(Obj.mk 1 0 9 false [])]), .os 164 2 0 (eM R164 [(MProt.mk 0 [])]), .os 27 4 0 (eM R27 [(MTask.mk 0 0 [] 0)])]) q (Zn (wc_ret ?_)))))))
 refine WE.freezeX [6] [(0, 0)] 1 (List.map E45 [x0, (Insn.mk 57 0 0 0 0 0 0), (Insn.mk 57 0 0 0 0 0 0)]) q (encA_map E45_eq [x0, (Insn.mk 57 0 0 0 0 0 0), (Insn.mk 57 0 0 0 0 0 0)]) ⟨q, Zt⟩ ⟨_, _, q, q, Zt⟩ ?_
 refine WE.freezeX [8] [(0, 1)] 2 (List.map E108 [(MHandler.mk 0 1 2 false)]) q (encA_map E108_eq [(MHandler.mk 0 1 2 false)]) ⟨q, Zt⟩ ⟨_, _, q, q, Zt⟩ ?_
 refine WE.freezeX [10] [(0, 5)] 3 (List.map E101 [(Obj.mk 1 0 9 false [])]) q (encA_map E101_eq [(Obj.mk 1 0 9 false [])]) ⟨q, Zt⟩ ⟨_, _, q, q, Zt⟩ ?_
 refine WE.freezeX [14] [(0, 8)] 5 (List.map E27 [(MTask.mk 0 0 [] 0)]) q (encA_map E27_eq [(MTask.mk 0 0 [] 0)]) ⟨q, Zt⟩ ⟨_, _, q, q, Zt⟩ ?_
 refine WE.freezeX [12] [(0, 9)] 4 (List.map E164 [(MProt.mk 0 [])]) q (encA_map E164_eq [(MProt.mk 0 [])]) ⟨q, Zt⟩ ⟨_, _, q, q, Zt⟩ ?_
 subst h
 exact we_ret_fn (rs1 q (rv_cN q q a38 s38 q)) (Le.agd ⟨Zl, Zl, Le.nil, Le.nil, Le.nil, Zl, Le.nil, Zl, Zl, Zl, Le.nil, Zt⟩)

theorem f35_c (x0 : Insn) (v1 : Int) {r : Regs × (List Act) × Int} (h : f35 x0 v1 = some r) : Pu Tryz.prog 35 [.ag (R45 x0), .i .i64 v1] (.tu [.ag (R41 r.1), .sl (List.map E58 r.2.1), .i .i64 r.2.2]) := by
 unfold f35 at h
 refine fn_intro Tryz.func35 (by kernel_rfl) q q q (fun φφ ww => ?_)
 refine Zr (WL.s ((b_boxd q q (Zs _)).does) (Zw q) q q (WL.s ((b_alloc z41).does) (Zw q) q q (Za q q (Za q q (Zn (Zr (Zq (y_loadcN q a45 s45 q) q (WL.fn q q q q (f66_c _) ⟨Zl, Zt⟩ (Zw q) q q (WL.s ((NewOs.b (n_buildSlice l42 z2 q (by decide) (by decide) q q q (by decide))).does) (Zw q) q q ?_)))))))))
 refine WL.freezeX [12] [] 1 (List.map E2 [8]) q (encA_map E2_eq [8]) ⟨q, Zt⟩ Zt ?_
 obtain ⟨b31, hb31, h⟩ := bindS h
 rcases boolCases b31 with hb1 | hb1
 replace h := condT h hb1
 refine Gh.wl gh_rsv (Gh.wl gh_rsv (Gh.wl gh_rsv (Gh.wl gh_rsv ?_)))
 obtain ⟨r32, hr32, h⟩ := bindS h
 refine WL.wing [2, 3, 4, 5] q q q q (f10_c _ _ hr32 (vo := 0) (vf := 0) (vu := 0)) ⟨Zl, Zl, Zt⟩ q (by decide) (cons_eq q (cons_eq q (cons_eq q (cons_eq q q)))) ⟨q, q, q, q, Zt⟩ q q (Zw q) q q (fun r' new hS => ?_)
 obtain ⟨rfl, rfl⟩ := hS
 refine ⟨_, _, q, (cons_eq q (Rg (Rf (cons_eq (ren_os _ _ _ _ _ _) q)))), q, (stLt_cons q (Lg q (Lf (stLt_cons (lt_os _ _ _ _ _ _) q)))), ?_⟩
 refine WL.st (st' := [.row 41 n19, .dead, .row 90 (mR r32.2.1 r32.2.2.1 r32.2.2.2.1 r32.2.2.2.2.1 3 0 r32.2.2.2.2.2.1 5 0), .os 42 1 0 (famE 4 0 (List.length r32.2.2.2.2.2.2.1)), .fam 2 1 0 (famM E2 r32.2.2.2.2.2.2.1), .os 2 1 0 (eM E2 r32.2.2.2.2.2.2.2)]) q (Zm q q (Zq (y_extract q q) q (Zq (y_extract q q) q (Za q q (Za q q (Zn (wc_seq (Zr (Zm q q (Zq (y_neq q q) q (Zn (wc_cond q (fun hc1 => ?_) (fun hc1 => ?_)))))))))))))
 replace h := condT h hc1
 refine Zr (Zq (y_build p41 z41 q q) q (Zm q q (WL.s0 (d_store q q q q q q s41 q q) (Zw q) q (WL.st (st' := [.row 41 n19, .dead, .row 90 (mR r32.2.1 r32.2.2.1 r32.2.2.2.1 r32.2.2.2.2.1 3 0 r32.2.2.2.2.2.1 5 0), .os 42 1 0 (famE 4 0 (List.length r32.2.2.2.2.2.2.1)), .fam 2 1 0 (famM E2 r32.2.2.2.2.2.2.1), .os 2 1 0 (eM E2 r32.2.2.2.2.2.2.2)]) q (Za q q (Za q q (Zn (wc_ret (we_seq_ret ?_)))))))))
 obtain rfl := Oi h
 exact we_ret_fn (rs3 q (rv_cN q q a41 s41 q) (rv_t q) (rv_t q)) (Le.tud ⟨(Le.agd ⟨Zl, Zl, Zl, Zl, Zl, Zl, Zl, Zl, Zl, Zl, Zl, Zl, Zl, Zl, Zl, Zl, Zl, Zl, Zl, Zt⟩), Le.nil, Zl, Zt⟩)
 replace h := condF h hc1
 refine wc_skip (we_seq (Zr (Zm q q (Zm q q (Zq (y_buildA ar39 z39 q q) q (Zq (y_build p41 z41 q q) q ?_))))))
 obtain ⟨r34, hr34, h⟩ := bindS h
 refine WL.wing [2, 3, 4, 5] q q q q (f11_c _ _ _ _ _ _ _ _ hr34) ⟨Zl, (Le.agd ⟨Zl, Zl, Zl, Zl, Zl, Zl, Zl, Zl, Zl, Zl, Zl, Zl, Zl, Zl, Zl, Zl, Zl, Zl, Zl, Zt⟩), Zt⟩ q (by decide) (cons_eq q (Rg (Rf (cons_eq (ren_os _ _ _ _ _ _) q)))) ⟨q, q, q, q, Zt⟩ (stLt_cons q (Lg q (Lf (stLt_cons (lt_os _ _ _ _ _ _) q)))) q (Zw q) q q (fun r' new hS => ?_)
 obtain ⟨i2_35, i3_35, rfl, rfl⟩ := hS
 refine ⟨_, _, q, (cons_eq q (Rg (Rf (cons_eq (ren_os _ _ _ _ _ _) q)))), q, (stLt_cons q (Lg q (Lf (stLt_cons (lt_os _ _ _ _ _ _) q)))), ?_⟩
 refine WL.st (st' := [.row 41 n19, .dead, .row 90 (mR r32.2.1 r32.2.2.1 r32.2.2.2.1 r32.2.2.2.2.1 3 0 r34.2.2.2.1 5 i3_35), .os 42 1 0 (famE 4 i2_35 (List.length r34.2.2.2.2.1)), .fam 2 1 i2_35 (famM E2 r34.2.2.2.2.1), .os 2 1 i3_35 (eM E2 r34.2.2.2.2.2)]) q (Zq (y_extractd q q) q (Zq (y_extractd q q) q (Zq (y_extractd q q) q (WL.s0 (d_store q q q q q q s41 q q) (Zw q) q (WL.st (st' := [.row 41 (vecA 16 (fun j => .n (r34.1.r j)) ++ ([.n r34.1.pc, .n r34.1.exc, .n r34.1.defer] : List AV)), .dead, .row 90 (mR r32.2.1 r32.2.2.1 r32.2.2.2.1 r32.2.2.2.2.1 3 0 r34.2.2.2.1 5 i3_35), .os 42 1 0 (famE 4 i2_35 (List.length r34.2.2.2.2.1)), .fam 2 1 i2_35 (famM E2 r34.2.2.2.2.1), .os 2 1 i3_35 (eM E2 r34.2.2.2.2.2)]) q (Za q q (Za q q (Zn (wc_ret ?_)))))))))
 obtain rfl := Oi h
 exact we_ret_fn (rs3 q (rv_cN q q a41 s41 q) (rv_t q) (rv_t q)) (Le.tud ⟨(Le.agd ⟨Zl, Zl, Zl, Zl, Zl, Zl, Zl, Zl, Zl, Zl, Zl, Zl, Zl, Zl, Zl, Zl, Zl, Zl, Zl, Zt⟩), Zl, Zl, Zt⟩)
 replace h := condF h hb1
 obtain ⟨r36, hr36, h⟩ := bindS h
 refine WL.fn q q q q (f10b_c _ _ hr36) ⟨Zl, Zl, Zt⟩ (Zw q) q q (Zm q q (Zq (y_extractd q q) q (Zq (y_extractd q q) q (Za q q (Za q q (Zn (wc_seq (Zr (Zm q q (Zq (y_neq q q) q (Zn (wc_cond q (fun hc2 => ?_) (fun hc2 => ?_)))))))))))))
 replace h := condT h hc2
 refine Zr (Zq (y_build p41 z41 q q) q (Zm q q (WL.s0 (d_store q q q q q q s41 q q) (Zw q) q (WL.st (st' := [.row 41 n19, .dead]) q (Za q q (Za q q (Zn (wc_ret (we_seq_ret ?_)))))))))
 obtain rfl := Oi h
 exact we_ret_fn (rs3 q (rv_cN q q a41 s41 q) (rv_t q) (rv_t q)) (Le.tud ⟨(Le.agd ⟨Zl, Zl, Zl, Zl, Zl, Zl, Zl, Zl, Zl, Zl, Zl, Zl, Zl, Zl, Zl, Zl, Zl, Zl, Zl, Zt⟩), Le.nil, Zl, Zt⟩)
 replace h := condF h hc2
 refine wc_skip (we_seq (wc_seq ?_))
 cases h

theorem f9_c  {r : Bool} (h : f9  = some r) : Pu Tryz.prog 9 [] (.b r) := by
 unfold f9 at h
 refine fn_intro Tryz.func9 (by kernel_rfl) q q q (fun φφ ww => ?_)
 refine Zr (Za q q (Zn (Zr (Zq (y_build p45 z45 q q) q ?_))))
 obtain ⟨r146, hr146, h⟩ := bindS h
 refine WL.fn q q q q (f35_c _ _ hr146) ⟨(Le.agd ⟨Zl, Zl, Zl, Zl, Zl, Zl, Zl, Zt⟩), Zl, Zt⟩ (Zw q) q q (Zm q q (Zq (y_extractd q q) q (Zq (y_extractd q q) q (Zq (y_extractd q q) q (WL.s ((b_alloc z41).does) (Zw q) q q (WL.s0 (d_store q q q q q q s41 q q) (Zw q) q (WL.st (st' := [.row 41 (vecA 16 (fun j => .n (r146.1.r j)) ++ ([.n r146.1.pc, .n r146.1.exc, .n r146.1.defer] : List AV))]) q (Za q q (Za q q (Zn (Zr (Zq (y_build p45 z45 q q) q ?_))))))))))))
 obtain ⟨r147, hr147, h⟩ := bindS h
 refine WL.fn q q q q (f35_c _ _ hr147) ⟨(Le.agd ⟨Zl, Zl, Zl, Zl, Zl, Zl, Zl, Zt⟩), Zl, Zt⟩ (Zw q) q q (Zm q q (Zq (y_extractd q q) q (Zq (y_extractd q q) q (Zq (y_extractd q q) q (WL.s ((b_alloc z41).does) (Zw q) q q (WL.s0 (d_store q q q q q q s41 q q) (Zw q) q (WL.st (st' := [.row 41 (vecA 16 (fun j => .n (r146.1.r j)) ++ ([.n r146.1.pc, .n r146.1.exc, .n r146.1.defer] : List AV)), .row 41 (vecA 16 (fun j => .n (r147.1.r j)) ++ ([.n r147.1.pc, .n r147.1.exc, .n r147.1.defer] : List AV))]) q (Za q q (Za q q (Zn (Zr (Zq (y_build p45 z45 q q) q ?_))))))))))))
 obtain ⟨r148, hr148, h⟩ := bindS h
 refine WL.fn q q q q (f35_c _ _ hr148) ⟨(Le.agd ⟨Zl, Zl, Zl, Zl, Zl, Zl, Zl, Zt⟩), Zl, Zt⟩ (Zw q) q q (Zm q q (Zq (y_extractd q q) q (Zq (y_extractd q q) q (Zq (y_extractd q q) q (WL.s ((b_alloc z41).does) (Zw q) q q (WL.s0 (d_store q q q q q q s41 q q) (Zw q) q (WL.st (st' := [.row 41 (vecA 16 (fun j => .n (r146.1.r j)) ++ ([.n r146.1.pc, .n r146.1.exc, .n r146.1.defer] : List AV)), .row 41 (vecA 16 (fun j => .n (r147.1.r j)) ++ ([.n r147.1.pc, .n r147.1.exc, .n r147.1.defer] : List AV)), .row 41 (vecA 16 (fun j => .n (r148.1.r j)) ++ ([.n r148.1.pc, .n r148.1.exc, .n r148.1.defer] : List AV))]) q (Za q q (Za q q (Zn (Zr (Zq (y_build p45 z45 q q) q ?_))))))))))))
 obtain ⟨r149, hr149, h⟩ := bindS h
 refine WL.fn q q q q (f35_c _ _ hr149) ⟨(Le.agd ⟨Zl, Zl, Zl, Zl, Zl, Zl, Zl, Zt⟩), Zl, Zt⟩ (Zw q) q q (Zm q q (Zq (y_extractd q q) q (Zq (y_extractd q q) q (Zq (y_extractd q q) q (WL.s ((b_alloc z41).does) (Zw q) q q (WL.s0 (d_store q q q q q q s41 q q) (Zw q) q (WL.st (st' := [.row 41 (vecA 16 (fun j => .n (r146.1.r j)) ++ ([.n r146.1.pc, .n r146.1.exc, .n r146.1.defer] : List AV)), .row 41 (vecA 16 (fun j => .n (r147.1.r j)) ++ ([.n r147.1.pc, .n r147.1.exc, .n r147.1.defer] : List AV)), .row 41 (vecA 16 (fun j => .n (r148.1.r j)) ++ ([.n r148.1.pc, .n r148.1.exc, .n r148.1.defer] : List AV)), .row 41 (vecA 16 (fun j => .n (r149.1.r j)) ++ ([.n r149.1.pc, .n r149.1.exc, .n r149.1.defer] : List AV))]) q (Za q q (Za q q (Zn (Zr (Zq (y_build p45 z45 q q) q ?_))))))))))))
 obtain ⟨r150, hr150, h⟩ := bindS h
 refine WL.fn q q q q (f35_c _ _ hr150) ⟨(Le.agd ⟨Zl, Zl, Zl, Zl, Zl, Zl, Zl, Zt⟩), Zl, Zt⟩ (Zw q) q q (Zm q q (Zq (y_extractd q q) q (Zq (y_extractd q q) q (Zq (y_extractd q q) q (WL.s ((b_alloc z41).does) (Zw q) q q (WL.s0 (d_store q q q q q q s41 q q) (Zw q) q (WL.st (st' := [.row 41 (vecA 16 (fun j => .n (r146.1.r j)) ++ ([.n r146.1.pc, .n r146.1.exc, .n r146.1.defer] : List AV)), .row 41 (vecA 16 (fun j => .n (r147.1.r j)) ++ ([.n r147.1.pc, .n r147.1.exc, .n r147.1.defer] : List AV)), .row 41 (vecA 16 (fun j => .n (r148.1.r j)) ++ ([.n r148.1.pc, .n r148.1.exc, .n r148.1.defer] : List AV)), .row 41 (vecA 16 (fun j => .n (r149.1.r j)) ++ ([.n r149.1.pc, .n r149.1.exc, .n r149.1.defer] : List AV)), .row 41 (vecA 16 (fun j => .n (r150.1.r j)) ++ ([.n r150.1.pc, .n r150.1.exc, .n r150.1.defer] : List AV))]) q (Za q q (Za q q (Zn (Zr (Zq (y_build p45 z45 q q) q ?_))))))))))))
 obtain ⟨r151, hr151, h⟩ := bindS h
 refine WL.fn q q q q (f35_c _ _ hr151) ⟨(Le.agd ⟨Zl, Zl, Zl, Zl, Zl, Zl, Zl, Zt⟩), Zl, Zt⟩ (Zw q) q q (Zm q q (Zq (y_extractd q q) q (Zq (y_extractd q q) q (Zq (y_extractd q q) q (WL.s ((b_alloc z41).does) (Zw q) q q (WL.s0 (d_store q q q q q q s41 q q) (Zw q) q (WL.st (st' := [.row 41 (vecA 16 (fun j => .n (r146.1.r j)) ++ ([.n r146.1.pc, .n r146.1.exc, .n r146.1.defer] : List AV)), .row 41 (vecA 16 (fun j => .n (r147.1.r j)) ++ ([.n r147.1.pc, .n r147.1.exc, .n r147.1.defer] : List AV)), .row 41 (vecA 16 (fun j => .n (r148.1.r j)) ++ ([.n r148.1.pc, .n r148.1.exc, .n r148.1.defer] : List AV)), .row 41 (vecA 16 (fun j => .n (r149.1.r j)) ++ ([.n r149.1.pc, .n r149.1.exc, .n r149.1.defer] : List AV)), .row 41 (vecA 16 (fun j => .n (r150.1.r j)) ++ ([.n r150.1.pc, .n r150.1.exc, .n r150.1.defer] : List AV)), .row 41 (vecA 16 (fun j => .n (r151.1.r j)) ++ ([.n r151.1.pc, .n r151.1.exc, .n r151.1.defer] : List AV))]) q (Za q q ?_))))))))
 refine Za q q (Zn (Zr (Zq (y_build p45 z45 q q) q ?_)))
 obtain ⟨r152, hr152, h⟩ := bindS h
 refine WL.fn q q q q (f35_c _ _ hr152) ⟨(Le.agd ⟨Zl, Zl, Zl, Zl, Zl, Zl, Zl, Zt⟩), Zl, Zt⟩ (Zw q) q q (Zm q q (Zq (y_extractd q q) q (Zq (y_extractd q q) q (Zq (y_extractd q q) q (WL.s ((b_alloc z41).does) (Zw q) q q (WL.s0 (d_store q q q q q q s41 q q) (Zw q) q ?_))))))
 refine WL.st (st' := [.row 41 (vecA 16 (fun j => .n (r146.1.r j)) ++ ([.n r146.1.pc, .n r146.1.exc, .n r146.1.defer] : List AV)), .row 41 (vecA 16 (fun j => .n (r147.1.r j)) ++ ([.n r147.1.pc, .n r147.1.exc, .n r147.1.defer] : List AV)), .row 41 (vecA 16 (fun j => .n (r148.1.r j)) ++ ([.n r148.1.pc, .n r148.1.exc, .n r148.1.defer] : List AV)), .row 41 (vecA 16 (fun j => .n (r149.1.r j)) ++ ([.n r149.1.pc, .n r149.1.exc, .n r149.1.defer] : List AV)), .row 41 (vecA 16 (fun j => .n (r150.1.r j)) ++ ([.n r150.1.pc, .n r150.1.exc, .n r150.1.defer] : List AV)), .row 41 (vecA 16 (fun j => .n (r151.1.r j)) ++ ([.n r151.1.pc, .n r151.1.exc, .n r151.1.defer] : List AV)), .row 41 (vecA 16 (fun j => .n (r152.1.r j)) ++ ([.n r152.1.pc, .n r152.1.exc, .n r152.1.defer] : List AV))]) q (Za q q (Za q q (Zn (Zr (Zq (y_loadN q q a41 s41 q) q (Zq (y_build p41 z41 q q) q ?_))))))
 refine Zq (y_eqst (xs := [.int .i64 (r146.1.r 0), .int .i64 (r146.1.r 1), .int .i64 (r146.1.r 2), .int .i64 (r146.1.r 3), .int .i64 (r146.1.r 4), .int .i64 (r146.1.r 5), .int .i64 (r146.1.r 6), .int .i64 (r146.1.r 7), .int .i64 (r146.1.r 8), .int .i64 (r146.1.r 9), .int .i64 (r146.1.r 10), .int .i64 (r146.1.r 11), .int .i64 (r146.1.r 12), .int .i64 (r146.1.r 13), .int .i64 (r146.1.r 14), .int .i64 (r146.1.r 15), .int .i64 r146.1.pc, .int .i64 r146.1.exc, .int .i64 r146.1.defer]) (ys := [.int .i64 0, .int .i64 0, .int .i64 0, .int .i64 0, .int .i64 0, .int .i64 0, .int .i64 0, .int .i64 0, .int .i64 0, .int .i64 0, .int .i64 0, .int .i64 0, .int .i64 0, .int .i64 0, .int .i64 0, .int .i64 0, .int .i64 2, .int .i64 1, .int .i64 0]) (b := ((decide ((r146.1.r 0) = 0)) && ((decide ((r146.1.r 1) = 0)) && ((decide ((r146.1.r 2) = 0)) && ((decide ((r146.1.r 3) = 0)) && ((decide ((r146.1.r 4) = 0)) && ((decide ((r146.1.r 5) = 0)) && ((decide ((r146.1.r 6) = 0)) && ((decide ((r146.1.r 7) = 0)) && ((decide ((r146.1.r 8) = 0)) && ((decide ((r146.1.r 9) = 0)) && ((decide ((r146.1.r 10) = 0)) && ((decide ((r146.1.r 11) = 0)) && ((decide ((r146.1.r 12) = 0)) && ((decide ((r146.1.r 13) = 0)) && ((decide ((r146.1.r 14) = 0)) && ((decide ((r146.1.r 15) = 0)) && ((decide (r146.1.pc = 2)) && ((decide (r146.1.exc = 1)) && ((decide (r146.1.defer = 0)) && true)))))))))))))))))))) q41 q (Le.agd ⟨Zl, Zl, Zl, Zl, Zl, Zl, Zl, Zl, Zl, Zl, Zl, Zl, Zl, Zl, Zl, Zl, Zl, Zl, Zl, Zt⟩) q (Le.agd ⟨Zl, Zl, Zl, Zl, Zl, Zl, Zl, Zl, Zl, Zl, Zl, Zl, Zl, Zl, Zl, Zl, Zl, Zl, Zl, Zt⟩) q q q) q ?_
 refine Zm q q ?_
 apply WL.and 4 (t := 68) (d := 72)
 exact q
 intro hg68
 exact Zy (y_move q) q q q (Zy (y_len_map E58 r146.2.1 e50 q q Zl) q q q (Zy (y_eql q q) q q q (Zq (y_pick_t q q) q (WL.nil ⟨q, [_, _, _, _], q, q, q⟩))))
 exact WL.skips 3 q (Zq (y_pick_f q q) q (WL.nil ⟨q, [_, _, _, _], q, q, q⟩))
 refine Zm q q ?_
 obtain ⟨b153, hb153, h⟩ := bindS h
 apply WL.grp 6 (t := 73) (d := 79) (z := b153)
 exact q
 intro hg73
 have h := condT hb153 hg73
 refine Zy (y_move q) q q q ?_
 obtain ⟨x154, hx154, h⟩ := bindS h
 refine Zy (y_indexAddr e50 q Zl q (idx_nonneg hx154) (idx_row E58_eq hx154) q) q q q (Zy (y_loadcN q a58 s58 q) q q q (Zy (y_build p58 z58 q q) q q q (Zy (y_eqst (xs := [.int .i64 x154.time, .int .i64 x154.task, .int .u8 x154.kind, .int .i64 x154.a, .int .i64 x154.b, .int .i64 x154.n]) (ys := [.int .i64 0, .int .i64 0, .int .u8 5, .int .i64 1, .int .i64 0, .int .i64 0]) (b := ((decide (x154.time = 0)) && ((decide (x154.task = 0)) && ((decide (x154.kind = 5)) && ((decide (x154.a = 1)) && ((decide (x154.b = 0)) && ((decide (x154.n = 0)) && true))))))) q58 q Zl q (Le.agd ⟨Zl, Zl, Zl, Zl, Zl, Zl, Zt⟩) q q q) q q q (Zq (y_pick_t q q) q ?_))))
 obtain rfl := Oi h
 exact WL.nil ⟨q, [_, _, _, _, _, _], q, q, q⟩
 intro hg73
 have h := condF hb153 hg73
 refine WL.skips 5 q (Zq (y_pick_f q q) q ?_)
 obtain rfl := Oi h
 exact WL.nil ⟨q, [_, _, _, _, _, _], q, q, q⟩
 refine Zm q q ?_
 apply WL.and 3 (t := 80) (d := 83)
 exact q
 intro hg80
 exact Zy (y_move q) q q q (Zy (y_eql q q) q q q (Zq (y_pick_t q q) q (WL.nil ⟨q, [_, _, _], q, q, q⟩)))
 exact WL.skips 2 q (Zq (y_pick_f q q) q (WL.nil ⟨q, [_, _, _], q, q, q⟩))
 refine Zm q q ?_
 apply WL.and 3 (t := 84) (d := 87)
 exact q
 intro hg84
 exact Zy (y_move q) q q q (Zy (y_eql q q) q q q (Zq (y_pick_t q q) q (WL.nil ⟨q, [_, _, _], q, q, q⟩)))
 exact WL.skips 2 q (Zq (y_pick_f q q) q (WL.nil ⟨q, [_, _, _], q, q, q⟩))
 refine Zm q q ?_
 apply WL.and 3 (t := 88) (d := 91)
 exact q
 intro hg88
 exact Zy (y_move q) q q q (Zy (y_eql q q) q q q (Zq (y_pick_t q q) q (WL.nil ⟨q, [_, _, _], q, q, q⟩)))
 exact WL.skips 2 q (Zq (y_pick_f q q) q (WL.nil ⟨q, [_, _, _], q, q, q⟩))
 refine Zm q q ?_
 apply WL.and 3 (t := 92) (d := 95)
 exact q
 intro hg92
 exact Zy (y_move q) q q q (Zy (y_eql q q) q q q (Zq (y_pick_t q q) q (WL.nil ⟨q, [_, _, _], q, q, q⟩)))
 exact WL.skips 2 q (Zq (y_pick_f q q) q (WL.nil ⟨q, [_, _, _], q, q, q⟩))
 refine Zm q q ?_
 apply WL.and 3 (t := 96) (d := 99)
 exact q
 intro hg96
 exact Zy (y_move q) q q q (Zy (y_eql q q) q q q (Zq (y_pick_t q q) q (WL.nil ⟨q, [_, _, _], q, q, q⟩)))
 exact WL.skips 2 q (Zq (y_pick_f q q) q (WL.nil ⟨q, [_, _, _], q, q, q⟩))
 refine Za q q (Zn (Zr (Zm q q (Zm q q ?_))))
 apply WL.and 3 (t := 101) (d := 104)
 exact q
 intro hg101
 exact Zy (y_move q) q q q (Zy (y_eql q q) q q q (Zq (y_pick_t q q) q (WL.nil ⟨q, [_, _, _], q, q, q⟩)))
 exact WL.skips 2 q (Zq (y_pick_f q q) q (WL.nil ⟨q, [_, _, _], q, q, q⟩))
 refine Zm q q ?_
 apply WL.and 5 (t := 105) (d := 110)
 exact q
 intro hg105
 exact Zy (y_fieldAddr f41_0 q) q q q (Zy (y_indexAddra ar39 q q (by decide) (by decide)) q q q (Zy (y_loadV (off := 0) (n := 16) (fun j => .n (r151.1.r j)) q q a2 q (by decide)) q q q (Zy (y_eql q q) q q q (Zq (y_pick_t q q) q (WL.nil ⟨q, [_, _, _, _, _], q, q, q⟩)))))
 exact WL.skips 4 q (Zq (y_pick_f q q) q (WL.nil ⟨q, [_, _, _, _, _], q, q, q⟩))
 refine Zm q q ?_
 apply WL.and 4 (t := 111) (d := 115)
 exact q
 intro hg111
 exact Zy (y_move q) q q q (Zy (y_len_map E58 r151.2.1 e50 q q Zl) q q q (Zy (y_eql q q) q q q (Zq (y_pick_t q q) q (WL.nil ⟨q, [_, _, _, _], q, q, q⟩))))
 exact WL.skips 3 q (Zq (y_pick_f q q) q (WL.nil ⟨q, [_, _, _, _], q, q, q⟩))
 refine Zm q q ?_
 obtain ⟨b155, hb155, h⟩ := bindS h
 apply WL.grp 6 (t := 116) (d := 122) (z := b155)
 exact q
 intro hg116
 have h := condT hb155 hg116
 refine Zy (y_move q) q q q ?_
 obtain ⟨x156, hx156, h⟩ := bindS h
 refine Zy (y_indexAddr e50 q Zl q (idx_nonneg hx156) (idx_row E58_eq hx156) q) q q q (Zy (y_loadcN q a58 s58 q) q q q (Zy (y_build p58 z58 q q) q q q (Zy (y_eqst (xs := [.int .i64 x156.time, .int .i64 x156.task, .int .u8 x156.kind, .int .i64 x156.a, .int .i64 x156.b, .int .i64 x156.n]) (ys := [.int .i64 0, .int .i64 0, .int .u8 2, .int .i64 8, .int .i64 0, .int .i64 0]) (b := ((decide (x156.time = 0)) && ((decide (x156.task = 0)) && ((decide (x156.kind = 2)) && ((decide (x156.a = 8)) && ((decide (x156.b = 0)) && ((decide (x156.n = 0)) && true))))))) q58 q Zl q (Le.agd ⟨Zl, Zl, Zl, Zl, Zl, Zl, Zt⟩) q q q) q q q (Zq (y_pick_t q q) q ?_))))
 obtain rfl := Oi h
 exact WL.nil ⟨q, [_, _, _, _, _, _], q, q, q⟩
 intro hg116
 have h := condF hb155 hg116
 refine WL.skips 5 q (Zq (y_pick_f q q) q ?_)
 obtain rfl := Oi h
 exact WL.nil ⟨q, [_, _, _, _, _, _], q, q, q⟩
 refine Zm q q ?_
 apply WL.and 3 (t := 123) (d := 126)
 exact q
 intro hg123
 exact Zy (y_move q) q q q (Zy (y_eql q q) q q q (Zq (y_pick_t q q) q (WL.nil ⟨q, [_, _, _], q, q, q⟩)))
 exact WL.skips 2 q (Zq (y_pick_f q q) q (WL.nil ⟨q, [_, _, _], q, q, q⟩))
 refine Zm q q ?_
 apply WL.and 5 (t := 127) (d := 132)
 exact q
 intro hg127
 exact Zy (y_fieldAddr f41_0 q) q q q (Zy (y_indexAddra ar39 q q (by decide) (by decide)) q q q (Zy (y_loadV (off := 0) (n := 16) (fun j => .n (r152.1.r j)) q q a2 q (by decide)) q q q (Zy (y_eql q q) q q q (Zq (y_pick_t q q) q (WL.nil ⟨q, [_, _, _, _, _], q, q, q⟩)))))
 exact WL.skips 4 q (Zq (y_pick_f q q) q (WL.nil ⟨q, [_, _, _, _, _], q, q, q⟩))
 refine Zm q q ?_
 apply WL.and 4 (t := 133) (d := 137)
 exact q
 intro hg133
 exact Zy (y_fieldAddr f41_1 q) q q q (Zy (y_load q q a3 q) q q q (Zy (y_eql q q) q q q (Zq (y_pick_t q q) q (WL.nil ⟨q, [_, _, _, _], q, q, q⟩))))
 exact WL.skips 3 q (Zq (y_pick_f q q) q (WL.nil ⟨q, [_, _, _, _], q, q, q⟩))
 refine Zm q q ?_
 apply WL.and 2 (t := 138) (d := 140)
 exact q
 intro hg138
 exact WL.fn q q q q (f36_c _) ⟨Zl, Zt⟩ (Wt.yes q q q) q q (Zq (y_pick_t q q) q (WL.nil ⟨q, [_, _], q, q, q⟩))
 exact WL.skips 1 q (Zq (y_pick_f q q) q (WL.nil ⟨q, [_, _], q, q, q⟩))
 refine Zm q q ?_
 apply WL.and 3 (t := 141) (d := 144)
 exact q
 intro hg141
 exact WL.fn q q q q (f36_c _) ⟨Zl, Zt⟩ (Wt.yes q q q) q q (Zy (y_not q) q q q (Zq (y_pick_t q q) q (WL.nil ⟨q, [_, _, _], q, q, q⟩)))
 exact WL.skips 2 q (Zq (y_pick_f q q) q (WL.nil ⟨q, [_, _, _], q, q, q⟩))
 refine Za q q (Zn (wc_ret ?_))
 obtain rfl := Oi h
 exact we_ret_fn (rs1 q (rv_t q)) Zl

theorem f3_c (first0 : Nat → Int) (l1 : List Insn) {r : Bool} (h : f3 first0 l1 = some r) : Pu Tryz.prog 3 [.ag (R22 first0), .sl (List.map E45 l1)] (.b r) := by
 unfold f3 at h
 refine fn_intro Tryz.func3 (by kernel_rfl) q q q (fun φφ ww => ?_)
 refine Zr (WL.s ((b_boxd q q (by exact (show Les [.n (first0 0), .n (first0 1), .n (first0 2), .n (first0 3)] (List.map AV.d [.i .i64 (first0 0), .i .i64 (first0 1), .i .i64 (first0 2), .i .i64 (first0 3)]) from ⟨Zl, Zl, Zl, Zl, Zt⟩))).does) (Zw q) q q (Za q q (Zn (wc_seq (Zr (Zm q q (Zq (y_len_map E45 l1 e23 q q Zl) q (Zq (y_gtr q q) q (Zn (wc_cond q (fun hc1 => ?_) (fun hc1 => ?_)))))))))))
 replace h := condT h hc1
 refine Zr ?_
 obtain ⟨r173, hr173, h⟩ := bindS h
 refine WL.fn q q q q (f9_c hr173) Zt (Zw q) q q (Za q q (Zn (wc_ret (we_seq_ret ?_))))
 obtain rfl := Oi h
 exact we_ret_fn (rs1 q (rv_t q)) Zl
 replace h := condF h hc1
 refine wc_skip (we_seq (Zr (Zq (y_build p27 z27 q q) q (WL.s ((NewOs.b (NewOs.weak (es' := List.map (encA R27) [(MTask.mk 0 0 [] 0)]) (n_buildSlice l28 z27 q (by decide) (by decide) q q q (by decide)) (by exact ⟨⟨Zl, Zl, Le.nil, Zl, Zt⟩, Zt⟩))).does) (Zw q) q q (Zq (y_buildS p38 z38 q q) q (WL.s ((b_alloc z38).does) (Zw q) q q (WL.s0 (d_storeS q q q q q q s38 q q) (Zw q) q (WL.st (st' := [.os 27 4 0 (eM R27 [(MTask.mk 0 0 [] 0)]), .row 38 [sN, sN, sN, sN, sN, sN, sN, .n 4, .os 0 0, sN, sN]]) q (Zn (Zr (Zq (y_build p41 z41 q q) q (WL.s ((b_alloc z41).does) (Zw q) q q (WL.s0 (d_store q q q q q q s41 q q) (Zw q) q (WL.st (st' := [.os 27 4 0 (eM R27 [(MTask.mk 0 0 [] 0)]), .row 38 [sN, sN, sN, sN, sN, sN, sN, .n 4, .os 0 0, sN, sN], .row 41 n19]) q (Zn (wc_seq ?_))))))))))))))))
 apply wc_region_all [_, _, _, _] [[], [0], [], [0, 1, 2]] [3] (fun c => List.getD [[.os 27 4 0 (eM R27 [(MTask.mk 0 0 [] 0)]), .row 38 [sN, sN, sN, sN, sN, sN, sN, .n 4, .os 0 0, sN, sN], .row 41 n19], [.os 27 4 0 (eM R27 [(MTask.mk 0 0 [] 0)]), .row 38 [sN, sN, sN, sN, sN, sN, sN, .n 4, .os 0 0, sN, sN], .row 41 [.n (first0 0), .n (first0 1), .n (first0 2), .n (first0 3), .n 0, .n 0, .n 0, .n 0, .n 0, .n 0, .n 0, .n 0, .n 0, .n 0, .n 0, .n 0, .n 0, .n 0, .n 0]]] c []) [([], [6], [0]), ([0], [], [0]), ([], [2], [0]), ([1, 2], [], [0])] (by kernel_rfl) (by kernel_rfl) q q q
 refine ⟨?_, ?_, ?_, ?_, Zt⟩
 refine ⟨fun F => ?_, Zt⟩
 exact Zq (y_fieldAddr f41_0 q) q (Zd q q q)
 refine ⟨fun F => ?_, Zt⟩
 exact Zq (y_sliceA ar39 q q (by decide) (by decide) (by decide)) q (Zd q q q)
 refine ⟨fun F => ?_, Zt⟩
 exact Zq (y_sliceArr ar22 q q) q (Zd q q q)
 refine ⟨fun F => ?_, Zt⟩
 exact WL.s (d_copy_sr l42 q q q q (Src.dataL Zl (fun _ => q) (fun _ => q)) q q (by decide) (Nat.le_of_ble_eq_true q)) (Zw q) q q (Zd q q q)
 refine we_seq ?_
 replace h := letkS h
 obtain ⟨k176, hk176, h⟩ := h
 refine wc_cut (fun env' st' => ∃ (l174 : List Insn), ∃ (ver175 : Nat), k176 l174 = some r ∧ Sub [(1, .l E45 l1), (5, .pt 1 0), (6, .pt 2 0)] env' ∧ SLe st' [.os 27 4 0 (eM R27 [(MTask.mk 0 0 [] 0)]), .row 38 [.os 3 ver175, sN, sN, sN, sN, sN, sN, .n 4, .os 0 0, sN, sN], .row 41 (vecA 16 (fun j => .n ((fG first0) j)) ++ ([.n 0, .n 0, .n 0] : List AV)), .os 45 7 ver175 (eM R45 l174)]) ?_ ?_
 refine wc_seq (WC.weak (st' := [.os 27 4 0 (eM R27 [(MTask.mk 0 0 [] 0)]), .row 38 [sN, sN, sN, sN, sN, sN, sN, .n 4, .os 0 0, sN, sN], .row 41 (vecA 16 (fun j => .n ((fG first0) j)) ++ ([.n 0, .n 0, .n 0] : List AV))]) ⟨OLe.refl _, OLe.refl _, OLe.refl _, Zt⟩ (wc_region (Za q q (Zn (wc_block (WC.nil_cell 1 0 45 7 q q (wc_loop (fun n env' st' => ∃ (iq181 : Int), ∃ (l182 : List Insn), ∃ (ver183 : Nat), f3_l1 l1 k176 n iq181 l182 = some r ∧ Sub [(1, .l E45 l1), (5, .pt 1 0), (6, .pt 2 0), (7, .n iq181)] env' ∧ SLe st' [.os 27 4 0 (eM R27 [(MTask.mk 0 0 [] 0)]), .row 38 [.os 3 ver183, sN, sN, sN, sN, sN, sN, .n 4, .os 0 0, sN, sN], .row 41 (vecA 16 (fun j => .n ((fG first0) j)) ++ ([.n 0, .n 0, .n 0] : List AV)), .os 45 7 ver183 (eM R45 l182)]) (fun n => n) 9223372036854775808 ⟨0, [], _, h, (Sx q (Sx q (Sx q (Sx q (Sub.nil _))))), ⟨Zf, Zp, Zp, Zf, Zt⟩⟩ ?_)))))))
 rintro n env1 st1 ⟨iq181, l182, ver183, h, hsub, hst⟩
 rcases n with _ | n
 rw [f3_l1] at h; cases h
 rw [f3_l1] at h
 refine WC.sub hsub (WC.weak hst ?_)
 refine wc_seq (Zr (Zm q q (Zm q q (Zq (y_len_map E45 l1 e23 q q Zl) q (Zq (y_lss q q) q (Zn (wc_cond q (fun hc2 => ?_) (fun hc2 => ?_))))))))
 replace h := condT h hc2
 refine wc_skip (we_seq (wc_seq (wc_block (wc_seq ?_))))
 obtain ⟨x187, hx187, h⟩ := bindS h
 obtain ⟨x188, hx188, h⟩ := bindS h
 obtain ⟨x189, hx189, h⟩ := bindS h
 obtain ⟨x190, hx190, h⟩ := bindS h
 apply wc_region_all [_, _, _, _, _, _, _, _, _, _, _, _, _, _, _, _, _, _, _, _, _, _, _, _, _, _, _, .u] [[], [], [0, 1], [0, 1, 2], [0, 1, 2, 3], [0, 1, 2, 3, 4], [0, 1, 2, 3, 4, 5], [], [], [7, 8], [7, 8, 9], [7, 8, 9, 10], [7, 8, 9, 10, 11], [], [], [13, 14], [13, 14, 15], [13, 14, 15, 16], [13, 14, 15, 16, 17], [], [], [19, 20], [19, 20, 21], [19, 20, 21, 22], [19, 20, 21, 22, 23], [0, 1, 2, 3, 4, 5, 6, 7, 8, 9, 10, 11, 12, 13, 14, 15, 16, 17, 18, 19, 20, 21, 22, 23, 24], [], [0, 1, 2, 3, 4, 5, 6, 7, 8, 9, 10, 11, 12, 13, 14, 15, 16, 17, 18, 19, 20, 21, 22, 23, 24, 25, 26]] [26, 27] (fun c => List.getD [[.os 27 4 0 (eM R27 [(MTask.mk 0 0 [] 0)]), .row 38 [.os 3 ver183, sN, sN, sN, sN, sN, sN, .n 4, .os 0 0, sN, sN], .row 41 (vecA 16 (fun j => .n ((fG first0) j)) ++ ([.n 0, .n 0, .n 0] : List AV)), .os 45 7 ver183 (eM R45 l182)], [.os 27 4 0 (eM R27 [(MTask.mk 0 0 [] 0)]), .row 38 [.os 3 ver183, sN, sN, sN, sN, sN, sN, .n 4, .os 0 0, sN, sN], .row 41 (vecA 16 (fun j => .n ((fG first0) j)) ++ ([.n 0, .n 0, .n 0] : List AV)), .os 45 7 ver183 (eM R45 l182), .row 45 [.d (D.i .u8 0), .n 0, .n 0, .n 0, .n 0, .n 0, .n 0]], [.os 27 4 0 (eM R27 [(MTask.mk 0 0 [] 0)]), .row 38 [.os 3 ver183, sN, sN, sN, sN, sN, sN, .n 4, .os 0 0, sN, sN], .row 41 (vecA 16 (fun j => .n ((fG first0) j)) ++ ([.n 0, .n 0, .n 0] : List AV)), .os 45 7 ver183 (eM R45 l182), .row 45 [.d (D.i .u8 (IntKind.u8.wrap (9 + (Int.tmod x187.op 4)))), .n (IntKind.i64.wrap (BitVec.ofInt IntKind.i64.bits x188.d &&& BitVec.ofInt IntKind.i64.bits 3).toNat), .n (IntKind.i64.wrap (BitVec.ofInt IntKind.i64.bits x189.a &&& BitVec.ofInt IntKind.i64.bits 3).toNat), .n (IntKind.i64.wrap (BitVec.ofInt IntKind.i64.bits x190.b &&& BitVec.ofInt IntKind.i64.bits 3).toNat), .n 0, .n 0, .n 0]]] c []) [([], [1], [0, 1]), ([], [7], [0, 1]), ([0, 1], [], [0, 1]), ([2], [], [0, 1]), ([3], [], [0, 1]), ([4], [], [0, 1]), ([5], [], [0, 1]), ([], [1], [0, 1]), ([], [7], [0, 1]), ([7, 8], [], [0, 1]), ([9], [], [0, 1]), ([10], [], [0, 1]), ([11], [], [0, 1]), ([], [1], [0, 1]), ([], [7], [0, 1]), ([13, 14], [], [0, 1]), ([15], [], [0, 1]), ([16], [], [0, 1]), ([17], [], [0, 1]), ([], [1], [0, 1]), ([], [7], [0, 1]), ([19, 20], [], [0, 1]), ([21], [], [0, 1]), ([22], [], [0, 1]), ([23], [], [0, 1]), ([6, 12, 18, 24], [], [0, 1]), ([], [], [0]), ([26, 25], [], [1])] (by kernel_rfl) (by kernel_rfl) q q q
 refine ⟨?_, ?_, ?_, ?_, ?_, ?_, ?_, ?_, ?_, ?_, ?_, ?_, ?_, ?_, ?_, ?_, ?_, ?_, ?_, ?_, ?_, ?_, ?_, ?_, ?_, ?_, ?_, ?_, Zt⟩
 refine ⟨fun F => ?_, fun F => ?_, Zt⟩
 exact Zm q q (Zd q q q)
 exact Zm q q (Zd q q q)
 refine ⟨fun F => ?_, fun F => ?_, Zt⟩
 exact Zm q q (Zd q q q)
 exact Zm q q (Zd q q q)
 refine ⟨fun F => ?_, fun F => ?_, Zt⟩
 exact Zq (y_indexAddr e23 q Zl q (idx_nonneg hx187) (idx_row E45_eq hx187) q) q (Zd q q q)
 exact Zq (y_indexAddr e23 q Zl q (idx_nonneg hx187) (idx_row E45_eq hx187) q) q (Zd q q q)
 refine ⟨fun F => ?_, fun F => ?_, Zt⟩
 exact Zq (y_fieldAddrc f45_0 q) q (Zd q q q)
 exact Zq (y_fieldAddrc f45_0 q) q (Zd q q q)
 refine ⟨fun F => ?_, fun F => ?_, Zt⟩
 exact Zq (y_loadc q a43 q) q (Zd q q q)
 exact Zq (y_loadc q a43 q) q (Zd q q q)
 refine ⟨fun F => ?_, fun F => ?_, Zt⟩
 exact Zq (y_rem q q (by decide)) q (Zd q q q)
 exact Zq (y_rem q q (by decide)) q (Zd q q q)
 refine ⟨fun F => ?_, fun F => ?_, Zt⟩
 exact Zq (y_add q q q) q (Zd q q q)
 exact Zq (y_add q q q) q (Zd q q q)
 refine ⟨fun F => ?_, fun F => ?_, Zt⟩
 exact Zm q q (Zd q q q)
 exact Zm q q (Zd q q q)
 refine ⟨fun F => ?_, fun F => ?_, Zt⟩
 exact Zm q q (Zd q q q)
 exact Zm q q (Zd q q q)
 refine ⟨fun F => ?_, fun F => ?_, Zt⟩
 exact Zq (y_indexAddr e23 q Zl q (idx_nonneg hx188) (idx_row E45_eq hx188) q) q (Zd q q q)
 exact Zq (y_indexAddr e23 q Zl q (idx_nonneg hx188) (idx_row E45_eq hx188) q) q (Zd q q q)
 refine ⟨fun F => ?_, fun F => ?_, Zt⟩
 exact Zq (y_fieldAddrc f45_1 q) q (Zd q q q)
 exact Zq (y_fieldAddrc f45_1 q) q (Zd q q q)
 refine ⟨fun F => ?_, fun F => ?_, Zt⟩
 exact Zq (y_loadc q a3 q) q (Zd q q q)
 exact Zq (y_loadc q a3 q) q (Zd q q q)
 refine ⟨fun F => ?_, fun F => ?_, Zt⟩
 exact Zq (y_and q q q) q (Zd q q q)
 exact Zq (y_and q q q) q (Zd q q q)
 refine ⟨fun F => ?_, fun F => ?_, Zt⟩
 exact Zm q q (Zd q q q)
 exact Zm q q (Zd q q q)
 refine ⟨fun F => ?_, fun F => ?_, Zt⟩
 exact Zm q q (Zd q q q)
 exact Zm q q (Zd q q q)
 refine ⟨fun F => ?_, fun F => ?_, Zt⟩
 exact Zq (y_indexAddr e23 q Zl q (idx_nonneg hx189) (idx_row E45_eq hx189) q) q (Zd q q q)
 exact Zq (y_indexAddr e23 q Zl q (idx_nonneg hx189) (idx_row E45_eq hx189) q) q (Zd q q q)
 refine ⟨fun F => ?_, fun F => ?_, Zt⟩
 exact Zq (y_fieldAddrc f45_2 q) q (Zd q q q)
 exact Zq (y_fieldAddrc f45_2 q) q (Zd q q q)
 refine ⟨fun F => ?_, fun F => ?_, Zt⟩
 exact Zq (y_loadc q a3 q) q (Zd q q q)
 exact Zq (y_loadc q a3 q) q (Zd q q q)
 refine ⟨fun F => ?_, fun F => ?_, Zt⟩
 exact Zq (y_and q q q) q (Zd q q q)
 exact Zq (y_and q q q) q (Zd q q q)
 refine ⟨fun F => ?_, fun F => ?_, Zt⟩
 exact Zm q q (Zd q q q)
 exact Zm q q (Zd q q q)
 refine ⟨fun F => ?_, fun F => ?_, Zt⟩
 exact Zm q q (Zd q q q)
 exact Zm q q (Zd q q q)
 refine ⟨fun F => ?_, fun F => ?_, Zt⟩
 exact Zq (y_indexAddr e23 q Zl q (idx_nonneg hx190) (idx_row E45_eq hx190) q) q (Zd q q q)
 exact Zq (y_indexAddr e23 q Zl q (idx_nonneg hx190) (idx_row E45_eq hx190) q) q (Zd q q q)
 refine ⟨fun F => ?_, fun F => ?_, Zt⟩
 exact Zq (y_fieldAddrc f45_3 q) q (Zd q q q)
 exact Zq (y_fieldAddrc f45_3 q) q (Zd q q q)
 refine ⟨fun F => ?_, fun F => ?_, Zt⟩
 exact Zq (y_loadc q a3 q) q (Zd q q q)
 exact Zq (y_loadc q a3 q) q (Zd q q q)
 refine ⟨fun F => ?_, fun F => ?_, Zt⟩
 exact Zq (y_and q q q) q (Zd q q q)
 exact Zq (y_and q q q) q (Zd q q q)
 refine ⟨fun F => ?_, fun F => ?_, Zt⟩
 exact Zq (y_build p45 z45 q q) q (Zd q q q)
 exact Zq (y_build p45 z45 q q) q (Zd q q q)
 refine ⟨fun F => ?_, Zt⟩
 exact WL.s ((b_alloc z45).does) (Zw q) q q (Zd q q q)
 refine ⟨fun F => ?_, Zt⟩
 exact WL.s0 (d_store q q q q q q s45 q q) (Zw q) q (WL.done0 q q)
 refine we_seq ?_
 replace h := letkS h
 obtain ⟨k193, hk193, h⟩ := h
 refine wc_cut (fun env' st' => ∃ (c40191 : Int), ∃ (c43192 : Int), k193 c40191 c43192 = some r ∧ Sub [(1, .l E45 l1), (5, .pt 1 0), (6, .pt 2 0), (7, .n iq181), (8, .pt 4 0)] env' ∧ SLe st' [.os 27 4 0 (eM R27 [(MTask.mk 0 0 [] 0)]), .row 38 [.os 3 ver183, sN, sN, sN, sN, sN, sN, .n 4, .os 0 0, sN, sN], .row 41 (vecA 16 (fun j => .n ((fG first0) j)) ++ ([.n 0, .n 0, .n 0] : List AV)), .os 45 7 ver183 (eM R45 l182), .row 45 [.d (D.i .u8 c40191), .n (IntKind.i64.wrap (BitVec.ofInt IntKind.i64.bits x188.d &&& BitVec.ofInt IntKind.i64.bits 3).toNat), .n (IntKind.i64.wrap (BitVec.ofInt IntKind.i64.bits x189.a &&& BitVec.ofInt IntKind.i64.bits 3).toNat), .n c43192, .n 0, .n 0, .n 0]]) ?_ ?_
 refine Zr (Zq (y_fieldAddr f45_0 q) q (Zq (y_load q q a43 q) q (Zq (y_gtr q q) q (Zn (wc_cond q (fun hc3 => ?_) (fun hc3 => ?_))))))
 replace h := condT h hc3
 exact wc_region (Zq (y_fieldAddr f45_1 q) q (Zq (y_load q q a3 q) q (Zq (y_fieldAddr f45_2 q) q (Zq (y_load q q a3 q) q (Zq (y_build p45 z45 q q) q (WL.s0 (d_store q q q q q q s45 q q) (Zw q) q (WL.st (st' := [.os 27 4 0 (eM R27 [(MTask.mk 0 0 [] 0)]), .row 38 [.os 3 ver183, sN, sN, sN, sN, sN, sN, .n 4, .os 0 0, sN, sN], .row 41 (vecA 16 (fun j => .n ((fG first0) j)) ++ ([.n 0, .n 0, .n 0] : List AV)), .os 45 7 ver183 (eM R45 l182), .row 45 [.d (D.i .u8 2), .n (IntKind.i64.wrap (BitVec.ofInt IntKind.i64.bits x188.d &&& BitVec.ofInt IntKind.i64.bits 3).toNat), .n (IntKind.i64.wrap (BitVec.ofInt IntKind.i64.bits x189.a &&& BitVec.ofInt IntKind.i64.bits 3).toNat), .n 0, .n 0, .n 0, .n 0]]) q (WL.nil (we_lp ⟨2, 0, h, (Sx q (Sx q (Sx q (Sx q (Sx q (Sub.nil _)))))), ⟨Zf, Zp, Zp, Zf, Zp, Zt⟩⟩)))))))))
 replace h := condF h hc3
 exact wc_skip (we_lp ⟨(IntKind.u8.wrap (9 + (Int.tmod x187.op 4))), (IntKind.i64.wrap (BitVec.ofInt IntKind.i64.bits x190.b &&& BitVec.ofInt IntKind.i64.bits 3).toNat), h, (Sx q (Sx q (Sx q (Sx q (Sx q (Sub.nil _)))))), ⟨Zf, Zp, Zp, Zf, Zp, Zt⟩⟩)
 rintro env1 st1 ⟨c40191, c43192, h, hsub, hst⟩
 subst hk193
 dsimp only at h
 refine WC.sub hsub (WC.weak hst ?_)
 refine wc_region (Zq (y_fieldAddr f38_0 q) q (Zq (y_load q q a23 q) q (Zq (y_loadN q q a45 s45 q) q (WL.s ((NewOs.b (n_buildSlice l23 z45 q (by decide) (by decide) q q q (by decide))).does) (Zw q) q q ?_))))
 replace h := guardBS h
 obtain ⟨hgg194, h⟩ := h
 refine WL.s (d_appendL R45 l182 [(Insn.mk c40191 (IntKind.i64.wrap (BitVec.ofInt IntKind.i64.bits x188.d &&& BitVec.ofInt IntKind.i64.bits 3).toNat) (IntKind.i64.wrap (BitVec.ofInt IntKind.i64.bits x189.a &&& BitVec.ofInt IntKind.i64.bits 3).toNat) c43192 0 0 0)] l23 z45 q (by decide) q q q q (Src.own q) (fun _ => q) (fun _ => q) hgg194) (Zw q) q q (Zq (y_fieldAddr f38_0 q) q (WL.s0 (d_store1 q q q (one_os q) s23 q) (Zw q) q ?_))
 refine WL.st (st' := [.os 27 4 0 (eM R27 [(MTask.mk 0 0 [] 0)]), .row 38 [.os 3 (ver183 + 1), sN, sN, sN, sN, sN, sN, .n 4, .os 0 0, sN, sN], .row 41 (vecA 16 (fun j => .n ((fG first0) j)) ++ ([.n 0, .n 0, .n 0] : List AV)), .os 45 7 (ver183 + 1) (eM R45 (l182 ++ [(Insn.mk c40191 (IntKind.i64.wrap (BitVec.ofInt IntKind.i64.bits x188.d &&& BitVec.ofInt IntKind.i64.bits 3).toNat) (IntKind.i64.wrap (BitVec.ofInt IntKind.i64.bits x189.a &&& BitVec.ofInt IntKind.i64.bits 3).toNat) c43192 0 0 0)])), .row 45 [.d (D.i .u8 c40191), .n (IntKind.i64.wrap (BitVec.ofInt IntKind.i64.bits x188.d &&& BitVec.ofInt IntKind.i64.bits 3).toNat), .n (IntKind.i64.wrap (BitVec.ofInt IntKind.i64.bits x189.a &&& BitVec.ofInt IntKind.i64.bits 3).toNat), .n c43192, .n 0, .n 0, .n 0], .os 45 7 0 (eM R45 [(Insn.mk c40191 (IntKind.i64.wrap (BitVec.ofInt IntKind.i64.bits x188.d &&& BitVec.ofInt IntKind.i64.bits 3).toNat) (IntKind.i64.wrap (BitVec.ofInt IntKind.i64.bits x189.a &&& BitVec.ofInt IntKind.i64.bits 3).toNat) c43192 0 0 0)])]) q (WL.nil (we_blk (we_seq (wc_region (Zm q q ?_)))))
 exact Zq (y_add q q q) q (Za q q (WL.nil (WE.drop 4 (env' := [(1, .l E45 l1), (5, .pt 1 0), (6, .pt 2 0), (7, .n (IntKind.i64.wrap (iq181 + 1)))]) (Sub.one q (Sub.one q (Sub.one q (Sub.one q (Sub.nil _))))) q (Lo (stLt_cons q (stLt_cons q (stLt_cons (lt_os _ _ _ _ _ _) q)))) (Nat.zero_le _) (we_lp ⟨n, ⟨(IntKind.i64.wrap (iq181 + 1)), (l182 ++ [(Insn.mk c40191 (IntKind.i64.wrap (BitVec.ofInt IntKind.i64.bits x188.d &&& BitVec.ofInt IntKind.i64.bits 3).toNat) (IntKind.i64.wrap (BitVec.ofInt IntKind.i64.bits x189.a &&& BitVec.ofInt IntKind.i64.bits 3).toNat) c43192 0 0 0)]), _, h, (Sx q (Sx q (Sx q (Sx q (Sub.nil _))))), ⟨Zf, Zp, Zp, Zf, Zt⟩⟩, Nat.lt_succ_self n⟩))))
 replace h := condF h hc2
 exact wc_exit (we_seq_exit (we_lp_exit (we_blk_hit (we_lp ⟨l182, _, h, (Sx q (Sx q (Sx q (Sub.nil _)))), ⟨Zf, Zp, Zp, Zf, Zt⟩⟩))))
 rintro env1 st1 ⟨l174, ver175, h, hsub, hst⟩
 subst hk176
 dsimp only at h
 refine WC.sub hsub (WC.weak hst ?_)
 refine Zr (Zq (y_fieldAddr f38_0 q) q (Zq (y_load q q a23 q) q (Zq (y_build p45 z45 q q) q (WL.s ((NewOs.b (n_buildSlice l23 z45 q (by decide) (by decide) q q q (by decide))).does) (Zw q) q q ?_))))
 replace h := guardBS h
 obtain ⟨hgg195, h⟩ := h
 refine WL.s (d_appendL R45 l174 [(Insn.mk 57 0 0 0 0 0 0)] l23 z45 q (by decide) q q q q (Src.own q) (fun _ => q) (fun _ => q) hgg195) (Zw q) q q (Zq (y_fieldAddr f38_0 q) q (WL.s0 (d_store1 q q q (one_os q) s23 q) (Zw q) q (WL.st (st' := [.os 27 4 0 (eM R27 [(MTask.mk 0 0 [] 0)]), .row 38 [.os 3 (ver175 + 1), sN, sN, sN, sN, sN, sN, .n 4, .os 0 0, sN, sN], .row 41 (vecA 16 (fun j => .n ((fG first0) j)) ++ ([.n 0, .n 0, .n 0] : List AV)), .os 45 7 (ver175 + 1) (eM R45 (l174 ++ [(Insn.mk 57 0 0 0 0 0 0)])), .os 45 7 0 (eM R45 [(Insn.mk 57 0 0 0 0 0 0)])]) q (Zn (Zr ?_)))))
 refine WL.freezeX [81] [(1, 0)] 3 (List.map E45 (l174 ++ [(Insn.mk 57 0 0 0 0 0 0)])) q (encA_map E45_eq (l174 ++ [(Insn.mk 57 0 0 0 0 0 0)])) ⟨q, Zt⟩ ⟨_, _, q, q, Zt⟩ ?_
 refine WL.freezeX [] [(1, 8)] 0 (List.map E27 [(MTask.mk 0 0 [] 0)]) q (encA_map E27_eq [(MTask.mk 0 0 [] 0)]) Zt ⟨_, _, q, q, Zt⟩ (Zq (y_loadN q q a38 s38 q) q ?_)
 obtain ⟨b196, hb196, h⟩ := bindS h
 rcases boolCases b196 with hb1 | hb1
 replace h := condT h hb1
 refine Gh.wl gh_rsv (Gh.wl gh_rsv (Gh.wl gh_rsv (Gh.wl gh_rsv ?_)))
 obtain ⟨r197, hr197, h⟩ := bindS h
 refine WL.wing [5, 6, 7, 8] q q q q (f10_c _ _ hr197 (vo := 0) (vf := 0) (vu := 0)) ⟨(Le.agd ⟨Zl, Le.nil, Le.nil, Le.nil, Le.nil, Le.nil, Le.nil, Zl, Zl, Le.nil, Le.nil, Zt⟩), Le.nil, Zt⟩ q (by decide) (cons_eq q (cons_eq q (cons_eq q (cons_eq q q)))) ⟨q, q, q, q, Zt⟩ q q (Zw q) q q (fun r' new hS => ?_)
 obtain ⟨rfl, rfl⟩ := hS
 refine ⟨_, _, q, (cons_eq q (Rg (Rf (cons_eq (ren_os _ _ _ _ _ _) q)))), q, (stLt_cons q (Lg q (Lf (stLt_cons (lt_os _ _ _ _ _ _) q)))), ?_⟩
 refine WL.st (st' := [.dead, .row 38 [.l E45 (l174 ++ [(Insn.mk 57 0 0 0 0 0 0)]), sN, sN, sN, sN, sN, sN, .n 4, .l E27 [(MTask.mk 0 0 [] 0)], sN, sN], .row 41 (vecA 16 (fun j => .n ((fG first0) j)) ++ ([.n 0, .n 0, .n 0] : List AV)), .dead, .os 45 7 0 (eM R45 [(Insn.mk 57 0 0 0 0 0 0)]), .row 90 (mR r197.2.1 r197.2.2.1 r197.2.2.2.1 r197.2.2.2.2.1 6 0 r197.2.2.2.2.2.1 8 0), .os 42 1 0 (famE 7 0 (List.length r197.2.2.2.2.2.2.1)), .fam 2 1 0 (famM E2 r197.2.2.2.2.2.2.1), .os 2 1 0 (eM E2 r197.2.2.2.2.2.2.2)]) q (Zm q q (Zq (y_extract q q) q (Zq (y_extract q q) q (Za q q (Za q q (Zn (wc_seq (Zr (Zm q q (Zq (y_neq q q) q (Zn (wc_cond q (fun hc4 => ?_) (fun hc4 => ?_)))))))))))))
 replace h := condT h hc4
 refine Zr (Za q q (Zn (wc_ret (we_seq_ret ?_))))
 obtain rfl := Oi h
 exact we_ret_fn (rs1 q (rv_t q)) Zl
 replace h := condF h hc4
 refine wc_skip (we_seq (Zr (Zq (y_loadN q q a41 s41 q) q (WL.s ((b_alloc z41).does) (Zw q) q q (WL.s0 (d_store q q q q q q s41 q q) (Zw q) q (WL.st (st' := [.dead, .row 38 [.l E45 (l174 ++ [(Insn.mk 57 0 0 0 0 0 0)]), sN, sN, sN, sN, sN, sN, .n 4, .l E27 [(MTask.mk 0 0 [] 0)], sN, sN], .row 41 (vecA 16 (fun j => .n ((fG first0) j)) ++ ([.n 0, .n 0, .n 0] : List AV)), .dead, .os 45 7 0 (eM R45 [(Insn.mk 57 0 0 0 0 0 0)]), .row 90 (mR r197.2.1 r197.2.2.1 r197.2.2.2.1 r197.2.2.2.2.1 6 0 r197.2.2.2.2.2.1 8 0), .os 42 1 0 (famE 7 0 (List.length r197.2.2.2.2.2.2.1)), .fam 2 1 0 (famM E2 r197.2.2.2.2.2.2.1), .os 2 1 0 (eM E2 r197.2.2.2.2.2.2.2), .row 41 (vecA 16 (fun j => .n ((fG first0) j)) ++ ([.n 0, .n 0, .n 0] : List AV))]) q (Zn ?_)))))))
 replace h := letkS h
 obtain ⟨k210, hk210, h⟩ := h
 refine wc_cut (fun env' st' => ∃ (l199 : List (List Int)), ∃ (ver200 : Nat), ∃ (l201 : List Int), ∃ (ver202 : Nat), ∃ (c20203 : Nat → Int), ∃ (c216204 : Int), ∃ (c55205 : List Int), ∃ (c90206 : Nat → Int), ∃ (c916207 : Int), ∃ (c917208 : Int), ∃ (c918209 : Int), k210 l199 l201 c20203 c216204 c55205 c90206 c916207 c917208 c918209 = some r ∧ Sub [] env' ∧ SLe st' [.dead, .row 38 [.l E45 (l174 ++ [(Insn.mk 57 0 0 0 0 0 0)]), sN, sN, sN, sN, sN, sN, .n 4, .l E27 [(MTask.mk 0 0 [] 0)], sN, sN], .row 41 (vecA 16 (fun j => .n (c20203 j)) ++ ([.n c216204, .n 0, .n 0] : List AV)), .dead, .os 45 7 0 (eM R45 [(Insn.mk 57 0 0 0 0 0 0)]), .row 90 (mR r197.2.1 r197.2.2.1 r197.2.2.2.1 r197.2.2.2.2.1 6 0 c55205 8 ver202), .os 42 1 0 (famE 7 ver200 (List.length l199)), .fam 2 1 ver200 (famM E2 l199), .os 2 1 ver202 (eM E2 l201), .row 41 (vecA 16 (fun j => .n (c90206 j)) ++ ([.n c916207, .n c917208, .n c918209] : List AV))]) ?_ ?_
 refine Zr (Za q q (Zn (wc_block ?_)))
 refine wc_loop (fun n env' st' => ∃ (iq223 : Int), ∃ (l224 : List (List Int)), ∃ (ver225 : Nat), ∃ (l226 : List Int), ∃ (ver227 : Nat), ∃ (c20228 : Nat → Int), ∃ (c216229 : Int), ∃ (c55230 : List Int), ∃ (c90231 : Nat → Int), ∃ (c916232 : Int), ∃ (c917233 : Int), ∃ (c918234 : Int), f3_l2 l1 l174 r197 k210 n iq223 l224 l226 c20228 c216229 c55230 c90231 c916232 c917233 c918234 = some r ∧ Sub [(1, .l E45 l1), (5, .pt 1 0), (6, .pt 2 0), (9, .pt 5 0), (11, .pt 9 0), (12, .n iq223)] env' ∧ SLe st' [.dead, .row 38 [.l E45 (l174 ++ [(Insn.mk 57 0 0 0 0 0 0)]), sN, sN, sN, sN, sN, sN, .n 4, .l E27 [(MTask.mk 0 0 [] 0)], sN, sN], .row 41 (vecA 16 (fun j => .n (c20228 j)) ++ ([.n c216229, .n 0, .n 0] : List AV)), .dead, .os 45 7 0 (eM R45 [(Insn.mk 57 0 0 0 0 0 0)]), .row 90 (mR r197.2.1 r197.2.2.1 r197.2.2.2.1 r197.2.2.2.2.1 6 0 c55230 8 ver227), .os 42 1 0 (famE 7 ver225 (List.length l224)), .fam 2 1 ver225 (famM E2 l224), .os 2 1 ver227 (eM E2 l226), .row 41 (vecA 16 (fun j => .n (c90231 j)) ++ ([.n c916232, .n c917233, .n c918234] : List AV))]) (fun n => n) 9223372036854775808 ⟨0, r197.2.2.2.2.2.2.1, _, r197.2.2.2.2.2.2.2, _, (fG first0), 0, r197.2.2.2.2.2.1, (fG first0), 0, 0, 0, h, (Sx q (Sx q (Sx q (Sx q (Sx q (Sx q (Sub.nil _))))))), ⟨Zt, Zp, Zp, Zt, Zf, Zp, Zf, Zf, Zf, Zp, Zt⟩⟩ ?_
 rintro n env1 st1 ⟨iq223, l224, ver225, l226, ver227, c20228, c216229, c55230, c90231, c916232, c917233, c918234, h, hsub, hst⟩
 rcases n with _ | n
 rw [f3_l2] at h; cases h
 rw [f3_l2] at h
 refine WC.sub hsub (WC.weak hst ?_)
 refine wc_seq (Zr (Zm q q (Zm q q (Zq (y_len_map E45 l1 e23 q q Zl) q (Zq (y_lss q q) q (Zn (wc_cond q (fun hc5 => ?_) (fun hc5 => ?_))))))))
 replace h := condT h hc5
 refine wc_skip (we_seq (wc_seq (wc_block (Zr (Zq (y_fieldAddr f38_0 q) q (Zq (y_load q q a23 q) q (Zm q q ?_)))))))
 obtain ⟨x247, hx247, h⟩ := bindS h
 refine Zq (y_indexAddr e23 q Zl q (idx_nonneg hx247) (idx_row E45_eq hx247) q) q (Zq (y_loadcN q a45 s45 q) q (WL.s ((b_alloc z45).does) (Zw q) q q (WL.s0 (d_store q q q q q q s45 q q) (Zw q) q (WL.st (st' := [.dead, .row 38 [.l E45 (l174 ++ [(Insn.mk 57 0 0 0 0 0 0)]), sN, sN, sN, sN, sN, sN, .n 4, .l E27 [(MTask.mk 0 0 [] 0)], sN, sN], .row 41 (vecA 16 (fun j => .n (c20228 j)) ++ ([.n c216229, .n 0, .n 0] : List AV)), .dead, .os 45 7 0 (eM R45 [(Insn.mk 57 0 0 0 0 0 0)]), .row 90 (mR r197.2.1 r197.2.2.1 r197.2.2.2.1 r197.2.2.2.2.1 6 0 c55230 8 ver227), .os 42 1 0 (famE 7 ver225 (List.length l224)), .fam 2 1 ver225 (famM E2 l224), .os 2 1 ver227 (eM E2 l226), .row 41 (vecA 16 (fun j => .n (c90231 j)) ++ ([.n c916232, .n c917233, .n c918234] : List AV)), .row 45 [.d (D.i .u8 x247.op), .n x247.d, .n x247.a, .n x247.b, .n x247.n, .n x247.m, .n x247.to]]) q (Zn (wc_seq (wc_region_draw (by kernel_rfl) (by kernel_rfl) (WQ.qn (y_fieldAddr f45_2 q) q ?_))))))))
 refine WQ.qn (y_load q q a3 q) q (WQ.qn (y_fieldAddr f41_0 q) q ?_)
 replace h := guardBS h
 obtain ⟨hgg248, h⟩ := h
 refine WQ.qn (y_indexAddra ar39 q q (vecOk_0 hgg248) (vecOk_1 hgg248)) q (WQ.qn (y_loadV (off := 0) (n := 16) (fun j => .n (c20228 j)) q q a2 q hgg248) q (WQ.qn (y_fieldAddr f45_3 q) q (WQ.qn (y_load q q a3 q) q (WQ.qn (y_fieldAddr f41_0 q) q ?_))))
 replace h := guardBS h
 obtain ⟨hgg249, h⟩ := h
 refine WQ.qn (y_indexAddra ar39 q q (vecOk_0 hgg249) (vecOk_1 hgg249)) q (WQ.qn (y_loadV (off := 0) (n := 16) (fun j => .n (c20228 j)) q q a2 q hgg249) q (WQ.qn (y_assign q) q (WQ.qn (y_assign q) q (WQ.nil (we_seq ?_)))))
 replace h := letkS h
 obtain ⟨k252, hk252, h⟩ := h
 refine wc_cut (fun env' st' => ∃ (c20250 : Nat → Int), ∃ (c90251 : Nat → Int), k252 c20250 c90251 = some r ∧ Sub [(1, .l E45 l1), (5, .pt 1 0), (6, .pt 2 0), (9, .pt 5 0), (11, .pt 9 0), (12, .n iq223)] env' ∧ SLe st' [.dead, .row 38 [.l E45 (l174 ++ [(Insn.mk 57 0 0 0 0 0 0)]), sN, sN, sN, sN, sN, sN, .n 4, .l E27 [(MTask.mk 0 0 [] 0)], sN, sN], .row 41 (vecA 16 (fun j => .n (c20250 j)) ++ ([.n c216229, .n 0, .n 0] : List AV)), .dead, .os 45 7 0 (eM R45 [(Insn.mk 57 0 0 0 0 0 0)]), .row 90 (mR r197.2.1 r197.2.2.1 r197.2.2.2.1 r197.2.2.2.2.1 6 0 c55230 8 ver227), .os 42 1 0 (famE 7 ver225 (List.length l224)), .fam 2 1 ver225 (famM E2 l224), .os 2 1 ver227 (eM E2 l226), .row 41 (vecA 16 (fun j => .n (c90251 j)) ++ ([.n c916232, .n c917233, .n c918234] : List AV)), .row 45 [.d (D.i .u8 x247.op), .n x247.d, .n x247.a, .n x247.b, .n x247.n, .n x247.m, .n x247.to]]) ?_ ?_
 refine Zr (Zq (y_fieldAddr f45_0 q) q (Zq (y_load q q a43 q) q (Zn (wc_block (Zr (Zq (y_eql q q) q (Za q q (Zn (wc_cond q (fun hc6 => ?_) (fun hc6 => ?_))))))))))
 replace h := condT h hc6
 refine wc_region (Zq (y_fieldAddr f45_1 q) q (Zq (y_load q q a3 q) q (Zm q q (Zm q q (Zq (y_add q q q) q (Zq (y_fieldAddr f41_0 q) q ?_))))))
 replace h := guardBS h
 obtain ⟨hgg253, h⟩ := h
 refine Zq (y_indexAddra ar39 q q (vecOk_0 hgg253) (vecOk_1 hgg253)) q (WL.s0 (d_storeV (off := 0) (n := 16) (cs' := (vecA 16 (fun j => .n ((vset c20228 (Int.toNat x247.d) (IntKind.i64.wrap ((c20228 (Int.toNat x247.a)) + (c20228 (Int.toNat x247.b))))) j)) ++ ([.n c216229, .n 0, .n 0] : List AV))) (fun x => .n x) c20228 (IntKind.i64.wrap ((c20228 (Int.toNat x247.a)) + (c20228 (Int.toNat x247.b)))) q q q (one_ok q) s2 q q hgg253 q) (Zw q) q ?_)
 refine WL.st (st' := [.dead, .row 38 [.l E45 (l174 ++ [(Insn.mk 57 0 0 0 0 0 0)]), sN, sN, sN, sN, sN, sN, .n 4, .l E27 [(MTask.mk 0 0 [] 0)], sN, sN], .row 41 (vecA 16 (fun j => .n ((vset c20228 (Int.toNat x247.d) (IntKind.i64.wrap ((c20228 (Int.toNat x247.a)) + (c20228 (Int.toNat x247.b))))) j)) ++ ([.n c216229, .n 0, .n 0] : List AV)), .dead, .os 45 7 0 (eM R45 [(Insn.mk 57 0 0 0 0 0 0)]), .row 90 (mR r197.2.1 r197.2.2.1 r197.2.2.2.1 r197.2.2.2.2.1 6 0 c55230 8 ver227), .os 42 1 0 (famE 7 ver225 (List.length l224)), .fam 2 1 ver225 (famM E2 l224), .os 2 1 ver227 (eM E2 l226), .row 41 (vecA 16 (fun j => .n (c90231 j)) ++ ([.n c916232, .n c917233, .n c918234] : List AV)), .row 45 [.d (D.i .u8 x247.op), .n x247.d, .n x247.a, .n x247.b, .n x247.n, .n x247.m, .n x247.to]]) q (WL.nil (we_blk ?_))
 exact we_lp ⟨(vset c20228 (Int.toNat x247.d) (IntKind.i64.wrap ((c20228 (Int.toNat x247.a)) + (c20228 (Int.toNat x247.b))))), c90231, h, (Sx q (Sx q (Sx q (Sx q (Sx q (Sx q (Sub.nil _))))))), ⟨Zt, Zp, Zp, Zt, Zf, Zp, Zf, Zf, Zf, Zp, Zp, Zt⟩⟩
 replace h := condF h hc6
 refine Zr (Zq (y_eql q q) q (Za q q (Zn (wc_cond q (fun hc7 => ?_) (fun hc7 => ?_)))))
 replace h := condT h hc7
 refine wc_region (Zq (y_fieldAddr f45_1 q) q (Zq (y_load q q a3 q) q (Zm q q (Zm q q (Zq (y_sub q q q) q (Zq (y_fieldAddr f41_0 q) q ?_))))))
 replace h := guardBS h
 obtain ⟨hgg254, h⟩ := h
 refine Zq (y_indexAddra ar39 q q (vecOk_0 hgg254) (vecOk_1 hgg254)) q (WL.s0 (d_storeV (off := 0) (n := 16) (cs' := (vecA 16 (fun j => .n ((vset c20228 (Int.toNat x247.d) (IntKind.i64.wrap ((c20228 (Int.toNat x247.a)) - (c20228 (Int.toNat x247.b))))) j)) ++ ([.n c216229, .n 0, .n 0] : List AV))) (fun x => .n x) c20228 (IntKind.i64.wrap ((c20228 (Int.toNat x247.a)) - (c20228 (Int.toNat x247.b)))) q q q (one_ok q) s2 q q hgg254 q) (Zw q) q ?_)
 refine WL.st (st' := [.dead, .row 38 [.l E45 (l174 ++ [(Insn.mk 57 0 0 0 0 0 0)]), sN, sN, sN, sN, sN, sN, .n 4, .l E27 [(MTask.mk 0 0 [] 0)], sN, sN], .row 41 (vecA 16 (fun j => .n ((vset c20228 (Int.toNat x247.d) (IntKind.i64.wrap ((c20228 (Int.toNat x247.a)) - (c20228 (Int.toNat x247.b))))) j)) ++ ([.n c216229, .n 0, .n 0] : List AV)), .dead, .os 45 7 0 (eM R45 [(Insn.mk 57 0 0 0 0 0 0)]), .row 90 (mR r197.2.1 r197.2.2.1 r197.2.2.2.1 r197.2.2.2.2.1 6 0 c55230 8 ver227), .os 42 1 0 (famE 7 ver225 (List.length l224)), .fam 2 1 ver225 (famM E2 l224), .os 2 1 ver227 (eM E2 l226), .row 41 (vecA 16 (fun j => .n (c90231 j)) ++ ([.n c916232, .n c917233, .n c918234] : List AV)), .row 45 [.d (D.i .u8 x247.op), .n x247.d, .n x247.a, .n x247.b, .n x247.n, .n x247.m, .n x247.to]]) q (WL.nil (we_blk ?_))
 exact we_lp ⟨(vset c20228 (Int.toNat x247.d) (IntKind.i64.wrap ((c20228 (Int.toNat x247.a)) - (c20228 (Int.toNat x247.b))))), c90231, h, (Sx q (Sx q (Sx q (Sx q (Sx q (Sx q (Sub.nil _))))))), ⟨Zt, Zp, Zp, Zt, Zf, Zp, Zf, Zf, Zf, Zp, Zp, Zt⟩⟩
 replace h := condF h hc7
 refine Zr (Zq (y_eql q q) q (Za q q (Zn (wc_cond q (fun hc8 => ?_) (fun hc8 => ?_)))))
 replace h := condT h hc8
 refine wc_region (Zq (y_fieldAddr f45_1 q) q (Zq (y_load q q a3 q) q (Zm q q (Zm q q (Zq (y_mul q q q) q (Zq (y_fieldAddr f41_0 q) q ?_))))))
 replace h := guardBS h
 obtain ⟨hgg255, h⟩ := h
 refine Zq (y_indexAddra ar39 q q (vecOk_0 hgg255) (vecOk_1 hgg255)) q (WL.s0 (d_storeV (off := 0) (n := 16) (cs' := (vecA 16 (fun j => .n ((vset c20228 (Int.toNat x247.d) (IntKind.i64.wrap ((c20228 (Int.toNat x247.a)) * (c20228 (Int.toNat x247.b))))) j)) ++ ([.n c216229, .n 0, .n 0] : List AV))) (fun x => .n x) c20228 (IntKind.i64.wrap ((c20228 (Int.toNat x247.a)) * (c20228 (Int.toNat x247.b)))) q q q (one_ok q) s2 q q hgg255 q) (Zw q) q ?_)
 refine WL.st (st' := [.dead, .row 38 [.l E45 (l174 ++ [(Insn.mk 57 0 0 0 0 0 0)]), sN, sN, sN, sN, sN, sN, .n 4, .l E27 [(MTask.mk 0 0 [] 0)], sN, sN], .row 41 (vecA 16 (fun j => .n ((vset c20228 (Int.toNat x247.d) (IntKind.i64.wrap ((c20228 (Int.toNat x247.a)) * (c20228 (Int.toNat x247.b))))) j)) ++ ([.n c216229, .n 0, .n 0] : List AV)), .dead, .os 45 7 0 (eM R45 [(Insn.mk 57 0 0 0 0 0 0)]), .row 90 (mR r197.2.1 r197.2.2.1 r197.2.2.2.1 r197.2.2.2.2.1 6 0 c55230 8 ver227), .os 42 1 0 (famE 7 ver225 (List.length l224)), .fam 2 1 ver225 (famM E2 l224), .os 2 1 ver227 (eM E2 l226), .row 41 (vecA 16 (fun j => .n (c90231 j)) ++ ([.n c916232, .n c917233, .n c918234] : List AV)), .row 45 [.d (D.i .u8 x247.op), .n x247.d, .n x247.a, .n x247.b, .n x247.n, .n x247.m, .n x247.to]]) q (WL.nil (we_blk ?_))
 exact we_lp ⟨(vset c20228 (Int.toNat x247.d) (IntKind.i64.wrap ((c20228 (Int.toNat x247.a)) * (c20228 (Int.toNat x247.b))))), c90231, h, (Sx q (Sx q (Sx q (Sx q (Sx q (Sx q (Sub.nil _))))))), ⟨Zt, Zp, Zp, Zt, Zf, Zp, Zf, Zf, Zf, Zp, Zp, Zt⟩⟩
 replace h := condF h hc8
 refine wc_region (Zq (y_fieldAddr f45_1 q) q (Zq (y_load q q a3 q) q (Zm q q (Zq (y_fieldAddr f41_0 q) q ?_))))
 replace h := guardBS h
 obtain ⟨hgg256, h⟩ := h
 refine Zq (y_indexAddra ar39 q q (vecOk_0 hgg256) (vecOk_1 hgg256)) q (WL.s0 (d_storeV (off := 0) (n := 16) (cs' := (vecA 16 (fun j => .n ((vset c20228 (Int.toNat x247.d) (c20228 (Int.toNat x247.a))) j)) ++ ([.n c216229, .n 0, .n 0] : List AV))) (fun x => .n x) c20228 (c20228 (Int.toNat x247.a)) q q q (one_ok q) s2 q q hgg256 q) (Zw q) q (WL.st (st' := [.dead, .row 38 [.l E45 (l174 ++ [(Insn.mk 57 0 0 0 0 0 0)]), sN, sN, sN, sN, sN, sN, .n 4, .l E27 [(MTask.mk 0 0 [] 0)], sN, sN], .row 41 (vecA 16 (fun j => .n ((vset c20228 (Int.toNat x247.d) (c20228 (Int.toNat x247.a))) j)) ++ ([.n c216229, .n 0, .n 0] : List AV)), .dead, .os 45 7 0 (eM R45 [(Insn.mk 57 0 0 0 0 0 0)]), .row 90 (mR r197.2.1 r197.2.2.1 r197.2.2.2.1 r197.2.2.2.2.1 6 0 c55230 8 ver227), .os 42 1 0 (famE 7 ver225 (List.length l224)), .fam 2 1 ver225 (famM E2 l224), .os 2 1 ver227 (eM E2 l226), .row 41 (vecA 16 (fun j => .n (c90231 j)) ++ ([.n c916232, .n c917233, .n c918234] : List AV)), .row 45 [.d (D.i .u8 x247.op), .n x247.d, .n x247.a, .n x247.b, .n x247.n, .n x247.m, .n x247.to]]) q (WL.nil ?_)))
 exact we_blk (we_lp ⟨(vset c20228 (Int.toNat x247.d) (c20228 (Int.toNat x247.a))), c90231, h, (Sx q (Sx q (Sx q (Sx q (Sx q (Sx q (Sub.nil _))))))), ⟨Zt, Zp, Zp, Zt, Zf, Zp, Zf, Zf, Zf, Zp, Zp, Zt⟩⟩)
 rintro env1 st1 ⟨c20250, c90251, h, hsub, hst⟩
 subst hk252
 dsimp only at h
 refine WC.sub hsub (WC.weak hst ?_)
 refine Zr (Zm q q (Zq (y_add q q q) q (Zq (y_fieldAddr f41_1 q) q (WL.s0 (d_store q q q q q q s3 q q) (Zw q) q (WL.st (st' := [.dead, .row 38 [.l E45 (l174 ++ [(Insn.mk 57 0 0 0 0 0 0)]), sN, sN, sN, sN, sN, sN, .n 4, .l E27 [(MTask.mk 0 0 [] 0)], sN, sN], .row 41 (vecA 16 (fun j => .n (c20250 j)) ++ ([.n (IntKind.i64.wrap (iq223 + 1)), .n 0, .n 0] : List AV)), .dead, .os 45 7 0 (eM R45 [(Insn.mk 57 0 0 0 0 0 0)]), .row 90 (mR r197.2.1 r197.2.2.1 r197.2.2.2.1 r197.2.2.2.2.1 6 0 c55230 8 ver227), .os 42 1 0 (famE 7 ver225 (List.length l224)), .fam 2 1 ver225 (famM E2 l224), .os 2 1 ver227 (eM E2 l226), .row 41 (vecA 16 (fun j => .n (c90251 j)) ++ ([.n c916232, .n c917233, .n c918234] : List AV)), .row 45 [.d (D.i .u8 x247.op), .n x247.d, .n x247.a, .n x247.b, .n x247.n, .n x247.m, .n x247.to]]) q (Zn (Zr (Zm q q (Zq (y_loadN q q a41 s41 q) q ?_)))))))))
 obtain ⟨r257, hr257, h⟩ := bindS h
 refine WL.wing [5, 6, 7, 8] q q q q (f11_c _ _ _ _ _ _ _ _ hr257) ⟨Zl, (Le.agd ⟨Zl, Zl, Zl, Zl, Zl, Zl, Zl, Zl, Zl, Zl, Zl, Zl, Zl, Zl, Zl, Zl, Zl, Zl, Zl, Zt⟩), Zt⟩ q (by decide) (cons_eq q (Rg (Rf (cons_eq (ren_os _ _ _ _ _ _) q)))) ⟨q, q, q, q, Zt⟩ (stLt_cons q (Lg q (Lf (stLt_cons (lt_os _ _ _ _ _ _) q)))) q (Zw q) q q (fun r' new hS => ?_)
 obtain ⟨i2_258, i3_258, rfl, rfl⟩ := hS
 refine ⟨_, _, q, (cons_eq q (Rg (Rf (cons_eq (ren_os _ _ _ _ _ _) q)))), q, (stLt_cons q (Lg q (Lf (stLt_cons (lt_os _ _ _ _ _ _) q)))), ?_⟩
 refine WL.st (st' := [.dead, .row 38 [.l E45 (l174 ++ [(Insn.mk 57 0 0 0 0 0 0)]), sN, sN, sN, sN, sN, sN, .n 4, .l E27 [(MTask.mk 0 0 [] 0)], sN, sN], .row 41 (vecA 16 (fun j => .n (c20250 j)) ++ ([.n (IntKind.i64.wrap (iq223 + 1)), .n 0, .n 0] : List AV)), .dead, .os 45 7 0 (eM R45 [(Insn.mk 57 0 0 0 0 0 0)]), .row 90 (mR r197.2.1 r197.2.2.1 r197.2.2.2.1 r197.2.2.2.2.1 6 0 r257.2.2.2.1 8 i3_258), .os 42 1 0 (famE 7 i2_258 (List.length r257.2.2.2.2.1)), .fam 2 1 i2_258 (famM E2 r257.2.2.2.2.1), .os 2 1 i3_258 (eM E2 r257.2.2.2.2.2), .row 41 (vecA 16 (fun j => .n (c90251 j)) ++ ([.n c916232, .n c917233, .n c918234] : List AV)), .row 45 [.d (D.i .u8 x247.op), .n x247.d, .n x247.a, .n x247.b, .n x247.n, .n x247.m, .n x247.to]]) q (Zm q q (Zq (y_extractd q q) q (Zq (y_extractd q q) q (Zq (y_extractd q q) q (WL.s ((b_alloc z41).does) (Zw q) q q (WL.s0 (d_store q q q q q q s41 q q) (Zw q) q ?_))))))
 refine WL.st (st' := [.dead, .row 38 [.l E45 (l174 ++ [(Insn.mk 57 0 0 0 0 0 0)]), sN, sN, sN, sN, sN, sN, .n 4, .l E27 [(MTask.mk 0 0 [] 0)], sN, sN], .row 41 (vecA 16 (fun j => .n (c20250 j)) ++ ([.n (IntKind.i64.wrap (iq223 + 1)), .n 0, .n 0] : List AV)), .dead, .os 45 7 0 (eM R45 [(Insn.mk 57 0 0 0 0 0 0)]), .row 90 (mR r197.2.1 r197.2.2.1 r197.2.2.2.1 r197.2.2.2.2.1 6 0 r257.2.2.2.1 8 i3_258), .os 42 1 0 (famE 7 i2_258 (List.length r257.2.2.2.2.1)), .fam 2 1 i2_258 (famM E2 r257.2.2.2.2.1), .os 2 1 i3_258 (eM E2 r257.2.2.2.2.2), .row 41 (vecA 16 (fun j => .n (c90251 j)) ++ ([.n c916232, .n c917233, .n c918234] : List AV)), .row 45 [.d (D.i .u8 x247.op), .n x247.d, .n x247.a, .n x247.b, .n x247.n, .n x247.m, .n x247.to], .row 41 (vecA 16 (fun j => .n (r257.1.r j)) ++ ([.n r257.1.pc, .n r257.1.exc, .n r257.1.defer] : List AV))]) q (Za q q (Za q q (Zn (wc_seq (Zr (Zm q q (Zq (y_neq q q) q (Zm q q ?_))))))))
 apply WL.or 4 (t := 158) (d := 162)
 exact q
 intro hg158
 exact Zy (y_move q) q q q (Zy (y_len_map E58 r257.2.1 e50 q q Zl) q q q (Zy (y_neq q q) q q q (Zq (y_pick_f q q) q (WL.nil ⟨q, [_, _, _, _], q, q, q⟩))))
 exact WL.skips 3 q (Zq (y_pick_t q q) q (WL.nil ⟨q, [_, _, _, _], q, q, q⟩))
 refine Zm q q ?_
 apply WL.or 4 (t := 163) (d := 167)
 exact q
 intro hg163
 refine Zy (y_loadN q q a41 s41 q) q q q (Zy (y_loadN q q a41 s41 q) q q q ?_)
 refine Zy (y_nest (xs := [.int .i64 (r257.1.r 0), .int .i64 (r257.1.r 1), .int .i64 (r257.1.r 2), .int .i64 (r257.1.r 3), .int .i64 (r257.1.r 4), .int .i64 (r257.1.r 5), .int .i64 (r257.1.r 6), .int .i64 (r257.1.r 7), .int .i64 (r257.1.r 8), .int .i64 (r257.1.r 9), .int .i64 (r257.1.r 10), .int .i64 (r257.1.r 11), .int .i64 (r257.1.r 12), .int .i64 (r257.1.r 13), .int .i64 (r257.1.r 14), .int .i64 (r257.1.r 15), .int .i64 r257.1.pc, .int .i64 r257.1.exc, .int .i64 r257.1.defer]) (ys := [.int .i64 (c20250 0), .int .i64 (c20250 1), .int .i64 (c20250 2), .int .i64 (c20250 3), .int .i64 (c20250 4), .int .i64 (c20250 5), .int .i64 (c20250 6), .int .i64 (c20250 7), .int .i64 (c20250 8), .int .i64 (c20250 9), .int .i64 (c20250 10), .int .i64 (c20250 11), .int .i64 (c20250 12), .int .i64 (c20250 13), .int .i64 (c20250 14), .int .i64 (c20250 15), .int .i64 (IntKind.i64.wrap (iq223 + 1)), .int .i64 0, .int .i64 0]) (b := ((decide ((r257.1.r 0) = (c20250 0))) && ((decide ((r257.1.r 1) = (c20250 1))) && ((decide ((r257.1.r 2) = (c20250 2))) && ((decide ((r257.1.r 3) = (c20250 3))) && ((decide ((r257.1.r 4) = (c20250 4))) && ((decide ((r257.1.r 5) = (c20250 5))) && ((decide ((r257.1.r 6) = (c20250 6))) && ((decide ((r257.1.r 7) = (c20250 7))) && ((decide ((r257.1.r 8) = (c20250 8))) && ((decide ((r257.1.r 9) = (c20250 9))) && ((decide ((r257.1.r 10) = (c20250 10))) && ((decide ((r257.1.r 11) = (c20250 11))) && ((decide ((r257.1.r 12) = (c20250 12))) && ((decide ((r257.1.r 13) = (c20250 13))) && ((decide ((r257.1.r 14) = (c20250 14))) && ((decide ((r257.1.r 15) = (c20250 15))) && ((decide (r257.1.pc = (IntKind.i64.wrap (iq223 + 1)))) && ((decide (r257.1.exc = 0)) && ((decide (r257.1.defer = 0)) && true)))))))))))))))))))) q41 q (Le.agd ⟨Zl, Zl, Zl, Zl, Zl, Zl, Zl, Zl, Zl, Zl, Zl, Zl, Zl, Zl, Zl, Zl, Zl, Zl, Zl, Zt⟩) q (Le.agd ⟨Zl, Zl, Zl, Zl, Zl, Zl, Zl, Zl, Zl, Zl, Zl, Zl, Zl, Zl, Zl, Zl, Zl, Zl, Zl, Zt⟩) q q q) q q q ?_
 exact Zq (y_pick_f q q) q (WL.nil ⟨q, [_, _, _, _], q, q, q⟩)
 exact WL.skips 3 q (Zq (y_pick_t q q) q (WL.nil ⟨q, [_, _, _, _], q, q, q⟩))
 refine Zn (wc_cond q (fun hc9 => ?_) (fun hc9 => ?_))
 replace h := condT h hc9
 refine Zr (Za q q (Zn (wc_ret (we_seq_ret (we_blk_ret (we_seq_ret (we_lp_ret (we_blk_ret (we_lp_ret ?_)))))))))
 obtain rfl := Oi h
 exact we_ret_fn (rs1 q (rv_t q)) Zl
 replace h := condF h hc9
 refine wc_skip (we_seq (wc_region (Zq (y_loadN q q a41 s41 q) q (WL.s0 (d_store q q q q q q s41 q q) (Zw q) q (WL.st (st' := [.dead, .row 38 [.l E45 (l174 ++ [(Insn.mk 57 0 0 0 0 0 0)]), sN, sN, sN, sN, sN, sN, .n 4, .l E27 [(MTask.mk 0 0 [] 0)], sN, sN], .row 41 (vecA 16 (fun j => .n (c20250 j)) ++ ([.n (IntKind.i64.wrap (iq223 + 1)), .n 0, .n 0] : List AV)), .dead, .os 45 7 0 (eM R45 [(Insn.mk 57 0 0 0 0 0 0)]), .row 90 (mR r197.2.1 r197.2.2.1 r197.2.2.2.1 r197.2.2.2.2.1 6 0 r257.2.2.2.1 8 i3_258), .os 42 1 0 (famE 7 i2_258 (List.length r257.2.2.2.2.1)), .fam 2 1 i2_258 (famM E2 r257.2.2.2.2.1), .os 2 1 i3_258 (eM E2 r257.2.2.2.2.2), .row 41 (vecA 16 (fun j => .n (r257.1.r j)) ++ ([.n r257.1.pc, .n r257.1.exc, .n r257.1.defer] : List AV)), .row 45 [.d (D.i .u8 x247.op), .n x247.d, .n x247.a, .n x247.b, .n x247.n, .n x247.m, .n x247.to], .row 41 (vecA 16 (fun j => .n (r257.1.r j)) ++ ([.n r257.1.pc, .n r257.1.exc, .n r257.1.defer] : List AV))]) q (WL.nil (we_blk (we_seq ?_))))))))
 exact wc_region (Zm q q (Zq (y_add q q q) q (Za q q (WL.nil (WE.drop 10 (env' := [(1, .l E45 l1), (5, .pt 1 0), (6, .pt 2 0), (9, .pt 5 0), (11, .pt 9 0), (12, .n (IntKind.i64.wrap (iq223 + 1)))]) (Sub.one q (Sub.one q (Sub.one q (Sub.one q (Sub.one q (Sub.one q (Sub.nil _))))))) q (stLt_cons q (stLt_cons q (stLt_cons q (stLt_cons q (Lo (stLt_cons q (Lg q (Lf (Lo (stLt_cons q q)))))))))) (Nat.zero_le _) (we_lp ⟨n, ⟨(IntKind.i64.wrap (iq223 + 1)), r257.2.2.2.2.1, _, r257.2.2.2.2.2, _, c20250, (IntKind.i64.wrap (iq223 + 1)), r257.2.2.2.1, r257.1.r, r257.1.pc, r257.1.exc, r257.1.defer, h, (Sx q (Sx q (Sx q (Sx q (Sx q (Sx q (Sub.nil _))))))), ⟨Zt, Zp, Zp, Zt, Zf, Zp, Zf, Zf, Zf, Zp, Zt⟩⟩, Nat.lt_succ_self n⟩))))))
 replace h := condF h hc5
 exact wc_exit (we_seq_exit (we_lp_exit (we_blk_hit (we_lp ⟨l224, _, l226, _, c20228, c216229, c55230, c90231, c916232, c917233, c918234, h, (Sub.nil _), ⟨Zt, Zp, Zp, Zt, Zf, Zp, Zf, Zf, Zf, Zp, Zt⟩⟩))))
 rintro env1 st1 ⟨l199, ver200, l201, ver202, c20203, c216204, c55205, c90206, c916207, c917208, c918209, h, hsub, hst⟩
 subst hk210
 dsimp only at h
 refine WC.sub hsub (WC.weak hst ?_)
 refine Zr ?_
 obtain ⟨r259, hr259, h⟩ := bindS h
 refine WL.fn q q q q (f9_c hr259) Zt (Zw q) q q (Za q q (Zn (wc_ret ?_)))
 obtain rfl := Oi h
 exact we_ret_fn (rs1 q (rv_t q)) Zl
 replace h := condF h hb1
 obtain ⟨r260, hr260, h⟩ := bindS h
 refine WL.fn q q q q (f10b_c _ _ hr260) ⟨(Le.agd ⟨Zl, Le.nil, Le.nil, Le.nil, Le.nil, Le.nil, Le.nil, Zl, Zl, Le.nil, Le.nil, Zt⟩), Le.nil, Zt⟩ (Zw q) q q (Zm q q (Zq (y_extractd q q) q (Zq (y_extractd q q) q (Za q q (Za q q (Zn (wc_seq (Zr (Zm q q (Zq (y_neq q q) q (Zn (wc_cond q (fun hc10 => ?_) (fun hc10 => ?_)))))))))))))
 replace h := condT h hc10
 refine Zr (Za q q (Zn (wc_ret (we_seq_ret ?_))))
 obtain rfl := Oi h
 exact we_ret_fn (rs1 q (rv_t q)) Zl
 replace h := condF h hc10
 refine wc_skip (we_seq (Zr (Zq (y_loadN q q a41 s41 q) q (WL.s ((b_alloc z41).does) (Zw q) q q (WL.s0 (d_store q q q q q q s41 q q) (Zw q) q (WL.st (st' := [.dead, .row 38 [.l E45 (l174 ++ [(Insn.mk 57 0 0 0 0 0 0)]), sN, sN, sN, sN, sN, sN, .n 4, .l E27 [(MTask.mk 0 0 [] 0)], sN, sN], .row 41 (vecA 16 (fun j => .n ((fG first0) j)) ++ ([.n 0, .n 0, .n 0] : List AV)), .dead, .os 45 7 0 (eM R45 [(Insn.mk 57 0 0 0 0 0 0)]), .row 41 (vecA 16 (fun j => .n ((fG first0) j)) ++ ([.n 0, .n 0, .n 0] : List AV))]) q (Zn ?_)))))))
 replace h := letkS h
 obtain ⟨k261, hk261, h⟩ := h
 refine wc_cut (fun env' st' => k261 () = some r ∧ Sub [] env' ∧ SLe st' [.dead, .row 38 [.l E45 (l174 ++ [(Insn.mk 57 0 0 0 0 0 0)]), sN, sN, sN, sN, sN, sN, .n 4, .l E27 [(MTask.mk 0 0 [] 0)], sN, sN], .row 41 (vecA 16 (fun j => .n ((fG first0) j)) ++ ([.n 0, .n 0, .n 0] : List AV)), .dead, .os 45 7 0 (eM R45 [(Insn.mk 57 0 0 0 0 0 0)]), .row 41 (vecA 16 (fun j => .n ((fG first0) j)) ++ ([.n 0, .n 0, .n 0] : List AV))]) ?_ ?_
 refine Zr (Za q q (Zn (wc_block (wc_loop (fun n env' st' => f3_l3 first0 l1 l174 k261 n = some r ∧ Sub [(1, .l E45 l1), (5, .pt 1 0), (6, .pt 2 0), (9, .d (.v (.pointer none))), (11, .pt 5 0), (12, .n 0)] env' ∧ SLe st' [.dead, .row 38 [.l E45 (l174 ++ [(Insn.mk 57 0 0 0 0 0 0)]), sN, sN, sN, sN, sN, sN, .n 4, .l E27 [(MTask.mk 0 0 [] 0)], sN, sN], .row 41 (vecA 16 (fun j => .n ((fG first0) j)) ++ ([.n 0, .n 0, .n 0] : List AV)), .dead, .os 45 7 0 (eM R45 [(Insn.mk 57 0 0 0 0 0 0)]), .row 41 (vecA 16 (fun j => .n ((fG first0) j)) ++ ([.n 0, .n 0, .n 0] : List AV))]) (fun n => n) 9223372036854775808 ⟨h, (Sx q (Sx q (Sx q (Sx q (Sx q (Sx q (Sub.nil _))))))), ⟨Zt, Zp, Zp, Zt, Zf, Zp, Zt⟩⟩ ?_))))
 rintro n env1 st1 ⟨h, hsub, hst⟩
 rcases n with _ | n
 rw [f3_l3] at h; cases h
 rw [f3_l3] at h
 refine WC.sub hsub (WC.weak hst ?_)
 refine wc_seq (Zr (Zm q q (Zm q q (Zq (y_len_map E45 l1 e23 q q Zl) q (Zq (y_lss q q) q (Zn (wc_cond q (fun hc11 => ?_) (fun hc11 => ?_))))))))
 replace h := condT h hc11
 refine wc_skip (we_seq (wc_seq (wc_block (Zr (Zq (y_fieldAddr f38_0 q) q (Zq (y_load q q a23 q) q (Zm q q ?_)))))))
 obtain ⟨x262, hx262, h⟩ := bindS h
 refine Zq (y_indexAddr e23 q Zl q (idx_nonneg hx262) (idx_row E45_eq hx262) q) q (Zq (y_loadcN q a45 s45 q) q (WL.s ((b_alloc z45).does) (Zw q) q q (WL.s0 (d_store q q q q q q s45 q q) (Zw q) q (WL.st (st' := [.dead, .row 38 [.l E45 (l174 ++ [(Insn.mk 57 0 0 0 0 0 0)]), sN, sN, sN, sN, sN, sN, .n 4, .l E27 [(MTask.mk 0 0 [] 0)], sN, sN], .row 41 (vecA 16 (fun j => .n ((fG first0) j)) ++ ([.n 0, .n 0, .n 0] : List AV)), .dead, .os 45 7 0 (eM R45 [(Insn.mk 57 0 0 0 0 0 0)]), .row 41 (vecA 16 (fun j => .n ((fG first0) j)) ++ ([.n 0, .n 0, .n 0] : List AV)), .row 45 [.d (D.i .u8 x262.op), .n x262.d, .n x262.a, .n x262.b, .n x262.n, .n x262.m, .n x262.to]]) q (Zn (wc_seq (wc_region_draw (by kernel_rfl) (by kernel_rfl) (WQ.qn (y_fieldAddr f45_2 q) q (WQ.qn (y_load q q a3 q) q (WQ.qn (y_fieldAddr f41_0 q) q ?_))))))))))
 replace h := guardBS h
 obtain ⟨hgg263, h⟩ := h
 refine WQ.qn (y_indexAddra ar39 q q (vecOk_0 hgg263) (vecOk_1 hgg263)) q (WQ.qn (y_loadV (off := 0) (n := 16) (fun j => .n ((fG first0) j)) q q a2 q hgg263) q (WQ.qn (y_fieldAddr f45_3 q) q (WQ.qn (y_load q q a3 q) q (WQ.qn (y_fieldAddr f41_0 q) q ?_))))
 replace h := guardBS h
 obtain ⟨hgg264, h⟩ := h
 refine WQ.qn (y_indexAddra ar39 q q (vecOk_0 hgg264) (vecOk_1 hgg264)) q (WQ.qn (y_loadV (off := 0) (n := 16) (fun j => .n ((fG first0) j)) q q a2 q hgg264) q (WQ.qn (y_assign q) q (WQ.qn (y_assign q) q (WQ.nil (we_seq ?_)))))
 replace h := letkS h
 obtain ⟨k266, hk266, h⟩ := h
 refine wc_cut (fun env' st' => ∃ (c20265 : Nat → Int), k266 c20265 = some r ∧ Sub [(1, .l E45 l1), (5, .pt 1 0), (6, .pt 2 0), (9, .d (.v (.pointer none))), (11, .pt 5 0), (12, .n 0)] env' ∧ SLe st' [.dead, .row 38 [.l E45 (l174 ++ [(Insn.mk 57 0 0 0 0 0 0)]), sN, sN, sN, sN, sN, sN, .n 4, .l E27 [(MTask.mk 0 0 [] 0)], sN, sN], .row 41 (vecA 16 (fun j => .n (c20265 j)) ++ ([.n 0, .n 0, .n 0] : List AV)), .dead, .os 45 7 0 (eM R45 [(Insn.mk 57 0 0 0 0 0 0)]), .row 41 (vecA 16 (fun j => .n ((fG first0) j)) ++ ([.n 0, .n 0, .n 0] : List AV)), .row 45 [.d (D.i .u8 x262.op), .n x262.d, .n x262.a, .n x262.b, .n x262.n, .n x262.m, .n x262.to]]) ?_ ?_
 refine Zr (Zq (y_fieldAddr f45_0 q) q (Zq (y_load q q a43 q) q (Zn (wc_block (Zr (Zq (y_eql q q) q (Za q q (Zn (wc_cond q (fun hc12 => ?_) (fun hc12 => ?_))))))))))
 replace h := condT h hc12
 refine wc_region (Zq (y_fieldAddr f45_1 q) q (Zq (y_load q q a3 q) q (Zm q q (Zm q q (Zq (y_add q q q) q (Zq (y_fieldAddr f41_0 q) q ?_))))))
 replace h := guardBS h
 obtain ⟨hgg267, h⟩ := h
 refine Zq (y_indexAddra ar39 q q (vecOk_0 hgg267) (vecOk_1 hgg267)) q (WL.s0 (d_storeV (off := 0) (n := 16) (cs' := (vecA 16 (fun j => .n ((vset (fG first0) (Int.toNat x262.d) (IntKind.i64.wrap (((fG first0) (Int.toNat x262.a)) + ((fG first0) (Int.toNat x262.b))))) j)) ++ ([.n 0, .n 0, .n 0] : List AV))) (fun x => .n x) (fG first0) (IntKind.i64.wrap (((fG first0) (Int.toNat x262.a)) + ((fG first0) (Int.toNat x262.b)))) q q q (one_ok q) s2 q q hgg267 q) (Zw q) q (WL.st (st' := [.dead, .row 38 [.l E45 (l174 ++ [(Insn.mk 57 0 0 0 0 0 0)]), sN, sN, sN, sN, sN, sN, .n 4, .l E27 [(MTask.mk 0 0 [] 0)], sN, sN], .row 41 (vecA 16 (fun j => .n ((vset (fG first0) (Int.toNat x262.d) (IntKind.i64.wrap (((fG first0) (Int.toNat x262.a)) + ((fG first0) (Int.toNat x262.b))))) j)) ++ ([.n 0, .n 0, .n 0] : List AV)), .dead, .os 45 7 0 (eM R45 [(Insn.mk 57 0 0 0 0 0 0)]), .row 41 (vecA 16 (fun j => .n ((fG first0) j)) ++ ([.n 0, .n 0, .n 0] : List AV)), .row 45 [.d (D.i .u8 x262.op), .n x262.d, .n x262.a, .n x262.b, .n x262.n, .n x262.m, .n x262.to]]) q (WL.nil (we_blk ?_))))
 exact we_lp ⟨(vset (fG first0) (Int.toNat x262.d) (IntKind.i64.wrap (((fG first0) (Int.toNat x262.a)) + ((fG first0) (Int.toNat x262.b))))), h, (Sx q (Sx q (Sx q (Sx q (Sx q (Sx q (Sub.nil _))))))), ⟨Zt, Zp, Zp, Zt, Zf, Zp, Zp, Zt⟩⟩
 replace h := condF h hc12
 refine Zr (Zq (y_eql q q) q (Za q q (Zn (wc_cond q (fun hc13 => ?_) (fun hc13 => ?_)))))
 replace h := condT h hc13
 refine wc_region (Zq (y_fieldAddr f45_1 q) q (Zq (y_load q q a3 q) q (Zm q q (Zm q q (Zq (y_sub q q q) q (Zq (y_fieldAddr f41_0 q) q ?_))))))
 replace h := guardBS h
 obtain ⟨hgg268, h⟩ := h
 refine Zq (y_indexAddra ar39 q q (vecOk_0 hgg268) (vecOk_1 hgg268)) q (WL.s0 (d_storeV (off := 0) (n := 16) (cs' := (vecA 16 (fun j => .n ((vset (fG first0) (Int.toNat x262.d) (IntKind.i64.wrap (((fG first0) (Int.toNat x262.a)) - ((fG first0) (Int.toNat x262.b))))) j)) ++ ([.n 0, .n 0, .n 0] : List AV))) (fun x => .n x) (fG first0) (IntKind.i64.wrap (((fG first0) (Int.toNat x262.a)) - ((fG first0) (Int.toNat x262.b)))) q q q (one_ok q) s2 q q hgg268 q) (Zw q) q (WL.st (st' := [.dead, .row 38 [.l E45 (l174 ++ [(Insn.mk 57 0 0 0 0 0 0)]), sN, sN, sN, sN, sN, sN, .n 4, .l E27 [(MTask.mk 0 0 [] 0)], sN, sN], .row 41 (vecA 16 (fun j => .n ((vset (fG first0) (Int.toNat x262.d) (IntKind.i64.wrap (((fG first0) (Int.toNat x262.a)) - ((fG first0) (Int.toNat x262.b))))) j)) ++ ([.n 0, .n 0, .n 0] : List AV)), .dead, .os 45 7 0 (eM R45 [(Insn.mk 57 0 0 0 0 0 0)]), .row 41 (vecA 16 (fun j => .n ((fG first0) j)) ++ ([.n 0, .n 0, .n 0] : List AV)), .row 45 [.d (D.i .u8 x262.op), .n x262.d, .n x262.a, .n x262.b, .n x262.n, .n x262.m, .n x262.to]]) q (WL.nil (we_blk ?_))))
 exact we_lp ⟨(vset (fG first0) (Int.toNat x262.d) (IntKind.i64.wrap (((fG first0) (Int.toNat x262.a)) - ((fG first0) (Int.toNat x262.b))))), h, (Sx q (Sx q (Sx q (Sx q (Sx q (Sx q (Sub.nil _))))))), ⟨Zt, Zp, Zp, Zt, Zf, Zp, Zp, Zt⟩⟩
 replace h := condF h hc13
 refine Zr (Zq (y_eql q q) q (Za q q (Zn (wc_cond q (fun hc14 => ?_) (fun hc14 => ?_)))))
 replace h := condT h hc14
 refine wc_region (Zq (y_fieldAddr f45_1 q) q (Zq (y_load q q a3 q) q (Zm q q (Zm q q (Zq (y_mul q q q) q (Zq (y_fieldAddr f41_0 q) q ?_))))))
 replace h := guardBS h
 obtain ⟨hgg269, h⟩ := h
 refine Zq (y_indexAddra ar39 q q (vecOk_0 hgg269) (vecOk_1 hgg269)) q (WL.s0 (d_storeV (off := 0) (n := 16) (cs' := (vecA 16 (fun j => .n ((vset (fG first0) (Int.toNat x262.d) (IntKind.i64.wrap (((fG first0) (Int.toNat x262.a)) * ((fG first0) (Int.toNat x262.b))))) j)) ++ ([.n 0, .n 0, .n 0] : List AV))) (fun x => .n x) (fG first0) (IntKind.i64.wrap (((fG first0) (Int.toNat x262.a)) * ((fG first0) (Int.toNat x262.b)))) q q q (one_ok q) s2 q q hgg269 q) (Zw q) q (WL.st (st' := [.dead, .row 38 [.l E45 (l174 ++ [(Insn.mk 57 0 0 0 0 0 0)]), sN, sN, sN, sN, sN, sN, .n 4, .l E27 [(MTask.mk 0 0 [] 0)], sN, sN], .row 41 (vecA 16 (fun j => .n ((vset (fG first0) (Int.toNat x262.d) (IntKind.i64.wrap (((fG first0) (Int.toNat x262.a)) * ((fG first0) (Int.toNat x262.b))))) j)) ++ ([.n 0, .n 0, .n 0] : List AV)), .dead, .os 45 7 0 (eM R45 [(Insn.mk 57 0 0 0 0 0 0)]), .row 41 (vecA 16 (fun j => .n ((fG first0) j)) ++ ([.n 0, .n 0, .n 0] : List AV)), .row 45 [.d (D.i .u8 x262.op), .n x262.d, .n x262.a, .n x262.b, .n x262.n, .n x262.m, .n x262.to]]) q (WL.nil (we_blk ?_))))
 exact we_lp ⟨(vset (fG first0) (Int.toNat x262.d) (IntKind.i64.wrap (((fG first0) (Int.toNat x262.a)) * ((fG first0) (Int.toNat x262.b))))), h, (Sx q (Sx q (Sx q (Sx q (Sx q (Sx q (Sub.nil _))))))), ⟨Zt, Zp, Zp, Zt, Zf, Zp, Zp, Zt⟩⟩
 replace h := condF h hc14
 refine wc_region (Zq (y_fieldAddr f45_1 q) q (Zq (y_load q q a3 q) q (Zm q q (Zq (y_fieldAddr f41_0 q) q ?_))))
 replace h := guardBS h
 obtain ⟨hgg270, h⟩ := h
 refine Zq (y_indexAddra ar39 q q (vecOk_0 hgg270) (vecOk_1 hgg270)) q (WL.s0 (d_storeV (off := 0) (n := 16) (cs' := (vecA 16 (fun j => .n ((vset (fG first0) (Int.toNat x262.d) ((fG first0) (Int.toNat x262.a))) j)) ++ ([.n 0, .n 0, .n 0] : List AV))) (fun x => .n x) (fG first0) ((fG first0) (Int.toNat x262.a)) q q q (one_ok q) s2 q q hgg270 q) (Zw q) q (WL.st (st' := [.dead, .row 38 [.l E45 (l174 ++ [(Insn.mk 57 0 0 0 0 0 0)]), sN, sN, sN, sN, sN, sN, .n 4, .l E27 [(MTask.mk 0 0 [] 0)], sN, sN], .row 41 (vecA 16 (fun j => .n ((vset (fG first0) (Int.toNat x262.d) ((fG first0) (Int.toNat x262.a))) j)) ++ ([.n 0, .n 0, .n 0] : List AV)), .dead, .os 45 7 0 (eM R45 [(Insn.mk 57 0 0 0 0 0 0)]), .row 41 (vecA 16 (fun j => .n ((fG first0) j)) ++ ([.n 0, .n 0, .n 0] : List AV)), .row 45 [.d (D.i .u8 x262.op), .n x262.d, .n x262.a, .n x262.b, .n x262.n, .n x262.m, .n x262.to]]) q (WL.nil (we_blk ?_))))
 exact we_lp ⟨(vset (fG first0) (Int.toNat x262.d) ((fG first0) (Int.toNat x262.a))), h, (Sx q (Sx q (Sx q (Sx q (Sx q (Sx q (Sub.nil _))))))), ⟨Zt, Zp, Zp, Zt, Zf, Zp, Zp, Zt⟩⟩
 rintro env1 st1 ⟨c20265, h, hsub, hst⟩
 subst hk266
 dsimp only at h
 refine WC.sub hsub (WC.weak hst ?_)
 refine Zr (Zm q q (Zq (y_add q q q) q (Zq (y_fieldAddr f41_1 q) q (WL.s0 (d_store q q q q q q s3 q q) (Zw q) q (WL.st (st' := [.dead, .row 38 [.l E45 (l174 ++ [(Insn.mk 57 0 0 0 0 0 0)]), sN, sN, sN, sN, sN, sN, .n 4, .l E27 [(MTask.mk 0 0 [] 0)], sN, sN], .row 41 (vecA 16 (fun j => .n (c20265 j)) ++ ([.n (IntKind.i64.wrap (0 + 1)), .n 0, .n 0] : List AV)), .dead, .os 45 7 0 (eM R45 [(Insn.mk 57 0 0 0 0 0 0)]), .row 41 (vecA 16 (fun j => .n ((fG first0) j)) ++ ([.n 0, .n 0, .n 0] : List AV)), .row 45 [.d (D.i .u8 x262.op), .n x262.d, .n x262.a, .n x262.b, .n x262.n, .n x262.m, .n x262.to]]) q (Zn (wc_seq ?_)))))))
 cases h
 replace h := condF h hc11
 exact wc_exit (we_seq_exit (we_lp_exit (we_blk_hit (we_lp ⟨h, (Sub.nil _), ⟨Zt, Zp, Zp, Zt, Zf, Zp, Zt⟩⟩))))
 rintro env1 st1 ⟨h, hsub, hst⟩
 subst hk261
 dsimp only at h
 refine WC.sub hsub (WC.weak hst ?_)
 refine Zr ?_
 obtain ⟨r271, hr271, h⟩ := bindS h
 refine WL.fn q q q q (f9_c hr271) Zt (Zw q) q q (Za q q (Zn (wc_ret ?_)))
 obtain rfl := Oi h
 exact we_ret_fn (rs1 q (rv_t q)) Zl

end Go.Proofs.YtkbahggepncliaaGreatDoor
