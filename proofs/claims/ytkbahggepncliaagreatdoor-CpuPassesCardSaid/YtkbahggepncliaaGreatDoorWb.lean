/- The walks of functions. -/
import Derived.Test.YtkbahggepncliaaGreatDoorX
import Derived.Test.YtkbahggepncliaaGreatDoorWa
set_option linter.unusedVariables false
set_option linter.unusedSimpArgs false
set_option linter.unusedSectionVars false
set_option linter.unnecessarySimpa false
set_option maxHeartbeats 4000000
set_option maxRecDepth 100000
namespace Go.Proofs.YtkbahggepncliaaGreatDoor
open Go Go.Sk

theorem f86_c (tR : Nat → Int) (tP : Int) (tX : Int) (tD : Int) (mI : List Insn) (mH : List MHandler) (mO : List Obj) (mE : Int) (mN : List Int) (mS : List (List Int)) (mU : List Int) (tA : List Act) (x1 : Insn) {vo : Nat} {vf : Nat} {vu : Nat} {va : Nat} {r : Rs ((Nat → Int) × Int × Int × Int × (List Int) × (List Int) × (List Act))} (h : f86 tR tP tX tD mI mH mO mE mN mS mU tA x1 = some r) : CtrP Tryz.prog 86 [.pt 0 0, .d (.ag (R45 x1))] (wT tR tP tX tD va mI mH mO mE vo mN vu vf mS mU tA) (WinG 6 (fun r' new => ∃ (z : (Nat → Int) × Int × Int × Int × (List Int) × (List Int) × (List Act)) (i4 i5 : Nat), r = .ok z ∧ r' = .d (.tu []) ∧ new = [.row 116 (([.pt 1 0] : List AV) ++ (vecA 16 (fun j => .n (z.1 j)) ++ ([.n z.2.1, .n z.2.2.1, .n z.2.2.2.1, .os 5 i5] : List AV) : List AV)), .row 90 (mR mI mH mO mE 2 vo z.2.2.2.2.1 4 i4), .os 42 1 vo (famE 3 vf (List.length mS)), .fam 2 1 vf (famM E2 mS), .os 2 1 i4 (eM E2 z.2.2.2.2.2.1), .os 58 6 i5 (eM R58 z.2.2.2.2.2.2)])) (WinGP 6 (fun c new => ∃ (ee : Int), r = .bad ee ∧ c = wrongP ee ∧ new = (wD mI mH mO mE vo mN vu vf mS mU))) := by
 unfold f86 at h
 refine ctrP_intro Tryz.func86 (by kernel_rfl) q q q (fun mm φφ ww hmm => ?_)
 refine Rcl 2 q (Bd q q (Zs _) q (Rlc 11 q (Ci h q (fun h => ?_) (fun h => ?_))))
 refine Rcc 1 q (wc_regionP (WLP.pre 1 (Rl 1 q (WL.nil ?_))))
 obtain ⟨r144, hr144, h⟩ := bindS h
 rcases r144 with z145 | e146
 dsimp only [Rs.cs] at h
 refine WLP.wing [0, 1, 2, 3, 4, 5] q q q q (f131_c _ _ _ _ _ _ _ _ _ _ _ _ hr144) ⟨Zl, Zt⟩ q (by decide) (Re (Re (Rg (Rf (Ro (Ro q)))))) ⟨q, q, q, q, q, q, Zt⟩ Kv q (Zw q) q q (fun r' new hS => ?_) (fun c new hS => ?_)
 obtain ⟨z9, hz, rfl, rfl⟩ := hS
 obtain rfl := Rs.ok.inj hz
 refine ⟨_, _, q, (Re (Re (Rg (Rf (Ro (Ro q)))))), q, Kv, WLP.of ?_⟩
 refine WL.st (st' := [.row 116 (([.pt 1 0] : List AV) ++ (vecA 16 (fun j => .n (z145.1 j)) ++ ([.n z145.2.1, .n z145.2.2.1, .n z145.2.2.2, .os 5 va] : List AV) : List AV)), .row 90 (mR mI mH mO mE 2 vo mN 4 vu), .os 42 1 vo (famE 3 vf (List.length mS)), .fam 2 1 vf (famM E2 mS), .os 2 1 vu (eM E2 mU), .os 58 6 va (eM R58 tA)]) q (Zn (Rcl 7 q (Zq (y_build p58 z58 q q) q (Al z58 q (WL.s0 (d_store q q q q q q s58 q q) (Zw q) q (WL.st (st' := [.row 116 (([.pt 1 0] : List AV) ++ (vecA 16 (fun j => .n (z145.1 j)) ++ ([.n z145.2.1, .n z145.2.2.1, .n z145.2.2.2, .os 5 va] : List AV) : List AV)), .row 90 (mR mI mH mO mE 2 vo mN 4 vu), .os 42 1 vo (famE 3 vf (List.length mS)), .fam 2 1 vf (famM E2 mS), .os 2 1 vu (eM E2 mU), .os 58 6 va (eM R58 tA), .row 58 [.n 0, .n 0, .d (D.i .u8 (IntKind.u8.wrap x1.n)), .n x1.m, .n 0, .n 0]]) q (Rlc 2 q ?_)))))))
 refine Jn1 (fun _ => [(0, .pt 0 0), (4, .pt 6 0)]) (fun c63148 => [.row 116 (([.pt 1 0] : List AV) ++ (vecA 16 (fun j => .n (z145.1 j)) ++ ([.n z145.2.1, .n z145.2.2.1, .n z145.2.2.2, .os 5 va] : List AV) : List AV)), .row 90 (mR mI mH mO mE 2 vo mN 4 vu), .os 42 1 vo (famE 3 vf (List.length mS)), .fam 2 1 vf (famM E2 mS), .os 2 1 vu (eM E2 mU), .os 58 6 va (eM R58 tA), .row 58 [.n 0, .n 0, .d (D.i .u8 (IntKind.u8.wrap x1.n)), .n c63148, .n 0, .n 0]]) h (fun _ h => ?_) (fun c63148 h => ?_)
 refine Rcc 7 q (Ci h q (fun h => ?_) (fun h => ?_))
 exact Rcl 7 q (WL.s0 (d_store q q q q q q s2 q q) (Zw q) q (WL.st (st' := [.row 116 (([.pt 1 0] : List AV) ++ (vecA 16 (fun j => .n (z145.1 j)) ++ ([.n z145.2.1, .n z145.2.2.1, .n z145.2.2.2, .os 5 va] : List AV) : List AV)), .row 90 (mR mI mH mO mE 2 vo mN 4 vu), .os 42 1 vo (famE 3 vf (List.length mS)), .fam 2 1 vf (famM E2 mS), .os 2 1 vu (eM E2 mU), .os 58 6 va (eM R58 tA), .row 58 [.n 0, .n 0, .d (D.i .u8 (IntKind.u8.wrap x1.n)), .n z145.2.2.1, .n 0, .n 0]]) q (Rlx 1 q (En1 h))))
 exact Rcx 1 q (En1 h)
 replace h := guardBS h
 obtain ⟨hgg150, h⟩ := h
 apply RO [_, _, _, _, _, _, _, _, _, _, .u] [[], [], [1], [1, 2], [1, 2, 3], [], [5], [1, 2, 3, 4, 5, 6], [0, 1, 2, 3, 4, 5, 6, 7], [0, 1, 2, 3, 4, 5, 6, 7, 8], [0, 1, 2, 3, 4, 5, 6, 7, 8, 9]] [7, 10] [[.row 116 (([.pt 1 0] : List AV) ++ (vecA 16 (fun j => .n (z145.1 j)) ++ ([.n z145.2.1, .n z145.2.2.1, .n z145.2.2.2, .os 5 va] : List AV) : List AV)), .row 90 (mR mI mH mO mE 2 vo mN 4 vu), .os 42 1 vo (famE 3 vf (List.length mS)), .fam 2 1 vf (famM E2 mS), .os 2 1 vu (eM E2 mU), .os 58 6 (va + 1) (eM R58 (tA ++ [(Act.mk 0 0 (IntKind.u8.wrap x1.n) c63148 0 0)])), .row 58 [.n 0, .n 0, .d (D.i .u8 (IntKind.u8.wrap x1.n)), .n c63148, .n 0, .n 0]], [.row 116 (([.pt 1 0] : List AV) ++ (vecA 16 (fun j => .n (z145.1 j)) ++ ([.n z145.2.1, .n z145.2.2.1, .n z145.2.2.2, .os 5 (va + 1)] : List AV) : List AV)), .row 90 (mR mI mH mO mE 2 vo mN 4 vu), .os 42 1 vo (famE 3 vf (List.length mS)), .fam 2 1 vf (famM E2 mS), .os 2 1 vu (eM E2 mU), .os 58 6 (va + 1) (eM R58 (tA ++ [(Act.mk 0 0 (IntKind.u8.wrap x1.n) c63148 0 0)])), .row 58 [.n 0, .n 0, .d (D.i .u8 (IntKind.u8.wrap x1.n)), .n c63148, .n 0, .n 0]]] [([], [0], [0, 1]), ([], [0], [0]), ([1], [], [0]), ([2], [], [0]), ([3], [], [0]), ([], [4], [0]), ([5], [], [0]), ([4, 6], [], [0]), ([0], [], [1]), ([8], [], [1]), ([9, 7], [], [1])] (by kernel_rfl) (by kernel_rfl) q q
 refine ⟨?_, ?_, ?_, ?_, ?_, ?_, ?_, ?_, ?_, ?_, ?_, Zt⟩
 exact ⟨O2 q (fun _ => q) q q, O2 q (fun _ => q) q q, Zt⟩
 exact O1 q (fun _ => q) q q
 exact O1 q (fun _ => q) q q
 exact O1 q (fun _ => q) q q
 exact O1 q (fun _ => q) q q
 exact O1 q (fun _ => q) q q
 refine ⟨fun F => ?_, Zt⟩
 exact WL.s ((NewOs.data (n_buildSlice l50 z58 q (by decide) (by decide) q q q (by decide)) (by exact encA_map E58_eq [(Act.mk 0 0 (IntKind.u8.wrap x1.n) c63148 0 0)])).does) (Zw q) q q (Zd q q q)
 refine ⟨fun F => ?_, Zt⟩
 exact WL.s (d_appendL R58 tA [(Act.mk 0 0 (IntKind.u8.wrap x1.n) c63148 0 0)] l50 z58 q (by decide) q q q q (Src.dataL Zl E58_eq (fun _ => q)) (fun _ => q) (fun _ => q) hgg150) (Zw q) q q (Zd q q q)
 exact O1 q (fun _ => q) q q
 exact O1 q (fun _ => q) q q
 refine ⟨fun F => ?_, Zt⟩
 exact WL.s0 (d_store1 q q q (one_os q) s50 q) (Zw q) q (WL.done0 q q)
 refine Rxx 1 q (we_endP ?_)
 obtain rfl := Oi h
 exact WE.finP (we_ret_g (new := [.row 116 (([.pt 1 0] : List AV) ++ (vecA 16 (fun j => .n (z145.1 j)) ++ ([.n z145.2.1, .n z145.2.2.1, .n z145.2.2.2, .os 5 (va + 1)] : List AV) : List AV)), .row 90 (mR mI mH mO mE 2 vo mN 4 vu), .os 42 1 vo (famE 3 vf (List.length mS)), .fam 2 1 vf (famM E2 mS), .os 2 1 vu (eM E2 mU), .os 58 6 (va + 1) (eM R58 (tA ++ [(Act.mk 0 0 (IntKind.u8.wrap x1.n) c63148 0 0)]))]) (r0 := .d (.tu [])) (res0 q) (Le.tud Zt) q ⟨Zp, Zp, Zf, Zf, Zf, Zf, Zt⟩ ⟨_, vu, (va + 1), q, q, q⟩)
 obtain ⟨z9, hz, _⟩ := hS
 cases hz
 dsimp only [Rs.cs] at h
 refine WLP.wing [0, 1, 2, 3, 4, 5] q q q q (f131_c _ _ _ _ _ _ _ _ _ _ _ _ hr144) ⟨Zl, Zt⟩ q (by decide) (Re (Re (Rg (Rf (Ro (Ro q)))))) ⟨q, q, q, q, q, q, Zt⟩ Kv q (Zw q) q q (fun r' new hS => ?_) (fun c new hS => ?_)
 obtain ⟨z9, hz, _⟩ := hS
 cases hz
 obtain ⟨z9, hz, rfl, rfl⟩ := hS
 obtain rfl := Rs.bad.inj hz
 refine ⟨_, (Re (Re (Rg (Rf (Ro (Re q)))))), Kv, ?_⟩
 refine WE.sto (st' := (wD mI mH mO mE vo mN vu vf mS mU)) q (we_seq_pan (we_blk_pan ?_))
 obtain rfl := Oi h
 exact we_pan_g (new := (wD mI mH mO mE vo mN vu vf mS mU)) q ⟨Zt, Zp, Zf, Zf, Zf, Zt, Zt⟩ ⟨_, q, q, q⟩
 refine Rcc 8 q (Ci h q (fun h => ?_) (fun h => ?_))
 refine Rcc 1 q (wc_region_draw (by kernel_rfl) (by kernel_rfl) (Rq 6 q ?_))
 replace h := guardBS h
 obtain ⟨hgg151, h⟩ := h
 refine WQ.qn (y_indexAddra ar39 q q (vecOk_0 hgg151) (vecOk_1 hgg151)) q (WQ.qn (y_loadV (off := 1) (n := 16) (fun j => .n (tR j)) q q a2 q hgg151) q (Rq 1 q (WQ.nil (Rxc 2 q (wc_regionP (WLP.pre 1 (Rl 1 q (WL.nil ?_))))))))
 obtain ⟨r152, hr152, h⟩ := bindS h
 rcases r152 with z153 | e154
 dsimp only [Rs.cs] at h
 refine WLP.wing [0, 1, 2, 3, 4, 5] q q q q (f131_c _ _ _ _ _ _ _ _ _ _ _ _ hr152) ⟨Zl, Zt⟩ q (by decide) (Re (Re (Rg (Rf (Ro (Ro q)))))) ⟨q, q, q, q, q, q, Zt⟩ Kv q (Zw q) q q (fun r' new hS => ?_) (fun c new hS => ?_)
 obtain ⟨z9, hz, rfl, rfl⟩ := hS
 obtain rfl := Rs.ok.inj hz
 refine ⟨_, _, q, (Re (Re (Rg (Rf (Ro (Ro q)))))), q, Kv, WLP.of ?_⟩
 refine WL.st (st' := [.row 116 (([.pt 1 0] : List AV) ++ (vecA 16 (fun j => .n (z153.1 j)) ++ ([.n z153.2.1, .n z153.2.2.1, .n z153.2.2.2, .os 5 va] : List AV) : List AV)), .row 90 (mR mI mH mO mE 2 vo mN 4 vu), .os 42 1 vo (famE 3 vf (List.length mS)), .fam 2 1 vf (famM E2 mS), .os 2 1 vu (eM E2 mU), .os 58 6 va (eM R58 tA)]) q (Zn (Rcc 1 q ?_))
 replace h := guardBS h
 obtain ⟨hgg156, h⟩ := h
 apply RO [_, _, _, _, _, _, _, _, _, _, _, _, _, _, _, _, .u] [[], [0], [0, 1], [0, 1, 2], [], [4], [4, 5], [4, 5, 6], [4, 5, 6, 7], [4, 5, 6, 7, 8], [4, 5, 6, 7, 8, 9], [], [11], [4, 5, 6, 7, 8, 9, 10, 11, 12], [0, 1, 2, 3, 4, 5, 6, 7, 8, 9, 10, 11, 12, 13], [0, 1, 2, 3, 4, 5, 6, 7, 8, 9, 10, 11, 12, 13, 14], [0, 1, 2, 3, 4, 5, 6, 7, 8, 9, 10, 11, 12, 13, 14, 15]] [13, 16] [[.row 116 (([.pt 1 0] : List AV) ++ (vecA 16 (fun j => .n (z153.1 j)) ++ ([.n z153.2.1, .n z153.2.2.1, .n z153.2.2.2, .os 5 va] : List AV) : List AV)), .row 90 (mR mI mH mO mE 2 vo mN 4 vu), .os 42 1 vo (famE 3 vf (List.length mS)), .fam 2 1 vf (famM E2 mS), .os 2 1 (vu + 1) (eM E2 (mU ++ [(tR (Int.toNat x1.a))])), .os 58 6 va (eM R58 tA)], [.row 116 (([.pt 1 0] : List AV) ++ (vecA 16 (fun j => .n (z153.1 j)) ++ ([.n z153.2.1, .n z153.2.2.1, .n z153.2.2.2, .os 5 va] : List AV) : List AV)), .row 90 [.l E45 mI, .l E108 mH, .l E101 mO, .n mE, .os 2 vo, .l E2 mN, .os 4 (vu + 1)], .os 42 1 vo (famE 3 vf (List.length mS)), .fam 2 1 vf (famM E2 mS), .os 2 1 (vu + 1) (eM E2 (mU ++ [(tR (Int.toNat x1.a))])), .os 58 6 va (eM R58 tA)]] [([], [0], [0, 1]), ([0], [], [0, 1]), ([1], [], [0, 1]), ([2], [], [0, 1]), ([], [0], [0]), ([4], [], [0]), ([5], [], [0]), ([6], [], [0]), ([7], [], [0]), ([8], [], [0]), ([9], [], [0]), ([], [5], [0]), ([11], [], [0]), ([10, 12], [], [0]), ([3], [], [1]), ([14], [], [1]), ([15, 13], [], [1])] (by kernel_rfl) (by kernel_rfl) q q
 refine ⟨?_, ?_, ?_, ?_, ?_, ?_, ?_, ?_, ?_, ?_, ?_, ?_, ?_, ?_, ?_, ?_, ?_, Zt⟩
 exact ⟨O2 q (fun _ => q) q q, O2 q (fun _ => q) q q, Zt⟩
 exact ⟨O2 q (fun _ => q) q q, O2 q (fun _ => q) q q, Zt⟩
 exact ⟨O2 q (fun _ => q) q q, O2 q (fun _ => q) q q, Zt⟩
 exact ⟨O2 q (fun _ => q) q q, O2 q (fun _ => q) q q, Zt⟩
 exact O1 q (fun _ => q) q q
 exact O1 q (fun _ => q) q q
 exact O1 q (fun _ => q) q q
 exact O1 q (fun _ => q) q q
 exact O1 q (fun _ => q) q q
 exact O1 q (fun _ => q) q q
 exact O1 q (fun _ => q) q q
 exact O1 q (fun _ => q) q q
 refine ⟨fun F => ?_, Zt⟩
 exact WL.s ((NewOs.data (n_buildSlice l42 z2 q (by decide) (by decide) q q q (by decide)) (by exact encA_map E2_eq [(tR (Int.toNat x1.a))])).does) (Zw q) q q (Zd q q q)
 refine ⟨fun F => ?_, Zt⟩
 exact WL.s (d_appendL E2 mU [(tR (Int.toNat x1.a))] l42 z2 q (by decide) q q q q (Src.dataL Zl E2_eq (fun _ => q)) (fun _ => q) (fun _ => q) hgg156) (Zw q) q q (Zd q q q)
 exact O1 q (fun _ => q) q q
 exact O1 q (fun _ => q) q q
 refine ⟨fun F => ?_, Zt⟩
 exact WL.s0 (d_store1 q q q (one_os q) s42 q) (Zw q) q (WL.done0 q q)
 refine Rxl 8 q (Zq (y_build p58 z58 q q) q (WL.s ((NewOs.b (n_buildSlice l50 z58 q (by decide) (by decide) q q q (by decide))).does) (Zw q) q q ?_))
 replace h := guardBS h
 obtain ⟨hgg157, h⟩ := h
 refine WL.s (d_appendL R58 tA [(Act.mk 0 0 1 (tR (Int.toNat x1.a)) 0 0)] l50 z58 q (by decide) q q q q (Src.own q) (fun _ => q) (fun _ => q) hgg157) (Zw q) q q (Rl 2 q (WL.s0 (d_store1 q q q (one_os q) s50 q) (Zw q) q (WL.st (st' := [.row 116 (([.pt 1 0] : List AV) ++ (vecA 16 (fun j => .n (z153.1 j)) ++ ([.n z153.2.1, .n z153.2.2.1, .n z153.2.2.2, .os 5 (va + 1)] : List AV) : List AV)), .row 90 [.l E45 mI, .l E108 mH, .l E101 mO, .n mE, .os 2 vo, .l E2 mN, .os 4 (vu + 1)], .os 42 1 vo (famE 3 vf (List.length mS)), .fam 2 1 vf (famM E2 mS), .os 2 1 (vu + 1) (eM E2 (mU ++ [(tR (Int.toNat x1.a))])), .os 58 6 (va + 1) (eM R58 (tA ++ [(Act.mk 0 0 1 (tR (Int.toNat x1.a)) 0 0)])), .os 58 6 0 (eM R58 [(Act.mk 0 0 1 (tR (Int.toNat x1.a)) 0 0)])]) q (Rlx 2 q (we_endP ?_)))))
 obtain rfl := Oi h
 exact WE.finP (we_ret_g (new := [.row 116 (([.pt 1 0] : List AV) ++ (vecA 16 (fun j => .n (z153.1 j)) ++ ([.n z153.2.1, .n z153.2.2.1, .n z153.2.2.2, .os 5 (va + 1)] : List AV) : List AV)), .row 90 [.l E45 mI, .l E108 mH, .l E101 mO, .n mE, .os 2 vo, .l E2 mN, .os 4 (vu + 1)], .os 42 1 vo (famE 3 vf (List.length mS)), .fam 2 1 vf (famM E2 mS), .os 2 1 (vu + 1) (eM E2 (mU ++ [(tR (Int.toNat x1.a))])), .os 58 6 (va + 1) (eM R58 (tA ++ [(Act.mk 0 0 1 (tR (Int.toNat x1.a)) 0 0)]))]) (r0 := .d (.tu [])) (res0 q) (Le.tud Zt) q ⟨Zp, Zp, Zf, Zf, Zf, Zf, Zt⟩ ⟨_, (vu + 1), (va + 1), q, q, q⟩)
 obtain ⟨z9, hz, _⟩ := hS
 cases hz
 dsimp only [Rs.cs] at h
 refine WLP.wing [0, 1, 2, 3, 4, 5] q q q q (f131_c _ _ _ _ _ _ _ _ _ _ _ _ hr152) ⟨Zl, Zt⟩ q (by decide) (Re (Re (Rg (Rf (Ro (Ro q)))))) ⟨q, q, q, q, q, q, Zt⟩ Kv q (Zw q) q q (fun r' new hS => ?_) (fun c new hS => ?_)
 obtain ⟨z9, hz, _⟩ := hS
 cases hz
 obtain ⟨z9, hz, rfl, rfl⟩ := hS
 obtain rfl := Rs.bad.inj hz
 refine ⟨_, (Re (Re (Rg (Rf (Ro (Re q)))))), Kv, ?_⟩
 refine WE.sto (st' := (wD mI mH mO mE vo mN vu vf mS mU)) q (we_seq_pan (we_blk_pan ?_))
 obtain rfl := Oi h
 exact we_pan_g (new := (wD mI mH mO mE vo mN vu vf mS mU)) q ⟨Zt, Zp, Zf, Zf, Zf, Zt, Zt⟩ ⟨_, q, q, q⟩
 refine Rcl 9 q (Zq (y_len_map E2 mN e42 q q Zl) q (Rlc 4 q (Ci h q (fun h => ?_) (fun h => ?_))))
 refine wc_regionP (WLP.pre 1 (Rl 1 q (WL.nil ?_)))
 obtain ⟨r158, hr158, h⟩ := bindS h
 rcases r158 with z159 | e160
 dsimp only [Rs.cs] at h
 refine WLP.wing [0, 1, 2, 3, 4, 5] q q q q (f56_c _ _ _ _ _ _ _ _ _ _ _ _ _ hr158) ⟨Zl, Zl, Zt⟩ q (by decide) (Re (Re (Rg (Rf (Ro (Ro q)))))) ⟨q, q, q, q, q, q, Zt⟩ Kv q (Zw q) q q (fun r' new hS => ?_) (fun c new hS => ?_)
 obtain ⟨z9, i5_161, hz, rfl, rfl⟩ := hS
 obtain rfl := Rs.ok.inj hz
 refine ⟨_, _, q, (Re (Re (Rg (Rf (Ro (Ro q)))))), q, Kv, WLP.of ?_⟩
 refine WL.st (st' := [.row 116 (([.pt 1 0] : List AV) ++ (vecA 16 (fun j => .n (z159.1 j)) ++ ([.n z159.2.1, .n z159.2.2.1, .n z159.2.2.2.1, .os 5 i5_161] : List AV) : List AV)), .row 90 (mR mI mH mO mE 2 vo mN 4 vu), .os 42 1 vo (famE 3 vf (List.length mS)), .fam 2 1 vf (famM E2 mS), .os 2 1 vu (eM E2 mU), .os 58 6 i5_161 (eM R58 z159.2.2.2.2)]) q (WL.nil (Rxx 1 q (we_endP ?_)))
 obtain rfl := Oi h
 exact WE.finP (we_ret_g (new := [.row 116 (([.pt 1 0] : List AV) ++ (vecA 16 (fun j => .n (z159.1 j)) ++ ([.n z159.2.1, .n z159.2.2.1, .n z159.2.2.2.1, .os 5 i5_161] : List AV) : List AV)), .row 90 (mR mI mH mO mE 2 vo mN 4 vu), .os 42 1 vo (famE 3 vf (List.length mS)), .fam 2 1 vf (famM E2 mS), .os 2 1 vu (eM E2 mU), .os 58 6 i5_161 (eM R58 z159.2.2.2.2)]) (r0 := .d (.tu [])) (res0 q) (Le.tud Zt) q ⟨Zp, Zp, Zf, Zf, Zf, Zf, Zt⟩ ⟨_, vu, i5_161, q, q, q⟩)
 obtain ⟨z9, hz, _⟩ := hS
 cases hz
 dsimp only [Rs.cs] at h
 refine WLP.wing [0, 1, 2, 3, 4, 5] q q q q (f56_c _ _ _ _ _ _ _ _ _ _ _ _ _ hr158) ⟨Zl, Zl, Zt⟩ q (by decide) (Re (Re (Rg (Rf (Ro (Ro q)))))) ⟨q, q, q, q, q, q, Zt⟩ Kv q (Zw q) q q (fun r' new hS => ?_) (fun c new hS => ?_)
 obtain ⟨z9, i5_161, hz, _⟩ := hS
 cases hz
 obtain ⟨z9, hz, rfl, rfl⟩ := hS
 obtain rfl := Rs.bad.inj hz
 refine ⟨_, (Re (Re (Rg (Rf (Ro (Re q)))))), Kv, ?_⟩
 refine WE.sto (st' := (wD mI mH mO mE vo mN vu vf mS mU)) q (we_blk_pan ?_)
 obtain rfl := Oi h
 exact we_pan_g (new := (wD mI mH mO mE vo mN vu vf mS mU)) q ⟨Zt, Zp, Zf, Zf, Zf, Zt, Zt⟩ ⟨_, q, q, q⟩
 refine Rcc 1 q (wc_regionP (WLP.pre 1 (Rl 1 q (WL.nil ?_))))
 obtain ⟨r162, hr162, h⟩ := bindS h
 rcases r162 with z163 | e164
 dsimp only [Rs.cs] at h
 refine WLP.wing [0, 1, 2, 3, 4, 5] q q q q (f131_c _ _ _ _ _ _ _ _ _ _ _ _ hr162) ⟨Zl, Zt⟩ q (by decide) (Re (Re (Rg (Rf (Ro (Ro q)))))) ⟨q, q, q, q, q, q, Zt⟩ Kv q (Zw q) q q (fun r' new hS => ?_) (fun c new hS => ?_)
 obtain ⟨z9, hz, rfl, rfl⟩ := hS
 obtain rfl := Rs.ok.inj hz
 refine ⟨_, _, q, (Re (Re (Rg (Rf (Ro (Ro q)))))), q, Kv, WLP.of ?_⟩
 refine WL.st (st' := [.row 116 (([.pt 1 0] : List AV) ++ (vecA 16 (fun j => .n (z163.1 j)) ++ ([.n z163.2.1, .n z163.2.2.1, .n z163.2.2.2, .os 5 va] : List AV) : List AV)), .row 90 (mR mI mH mO mE 2 vo mN 4 vu), .os 42 1 vo (famE 3 vf (List.length mS)), .fam 2 1 vf (famM E2 mS), .os 2 1 vu (eM E2 mU), .os 58 6 va (eM R58 tA)]) q (Zn (Rcc 1 q ?_))
 obtain ⟨x166, hx166, h⟩ := bindS h
 replace h := guardBS h
 obtain ⟨hgg167, h⟩ := h
 apply RO [_, _, _, _, _, _, _, _, _, _, _, _, _, _, _, _, .u] [[], [], [1], [], [3], [3, 4], [3, 4, 5], [3, 4, 5, 6], [3, 4, 5, 6, 7], [3, 4, 5, 6, 7, 8], [3, 4, 5, 6, 7, 8, 9], [3, 4, 5, 6, 7, 8, 9, 10], [0], [0, 12], [0, 12, 13], [0, 1, 2, 3, 4, 5, 6, 7, 8, 9, 10, 11, 12, 13, 14], [0, 1, 2, 3, 4, 5, 6, 7, 8, 9, 10, 11, 12, 13, 14, 15]] [16] [[.row 116 (([.pt 1 0] : List AV) ++ (vecA 16 (fun j => .n ((vset z163.1 (Int.toNat x1.d) x166) j)) ++ ([.n z163.2.1, .n z163.2.2.1, .n z163.2.2.2, .os 5 va] : List AV) : List AV)), .row 90 (mR mI mH mO mE 2 vo mN 4 vu), .os 42 1 vo (famE 3 vf (List.length mS)), .fam 2 1 vf (famM E2 mS), .os 2 1 vu (eM E2 mU), .os 58 6 va (eM R58 tA)]] [([], [0], [0]), ([], [3], [0]), ([1], [], [0]), ([], [0], [0]), ([3], [], [0]), ([4], [], [0]), ([5], [], [0]), ([6], [], [0]), ([7], [], [0]), ([8], [], [0]), ([9], [], [0]), ([10], [], [0]), ([0], [], [0]), ([12], [], [0]), ([13], [], [0]), ([14, 2], [], [0]), ([15, 11], [], [0])] (by kernel_rfl) (by kernel_rfl) q q
 refine ⟨?_, ?_, ?_, ?_, ?_, ?_, ?_, ?_, ?_, ?_, ?_, ?_, ?_, ?_, ?_, ?_, ?_, Zt⟩
 exact O1 q (fun _ => q) q q
 exact O1 q (fun _ => q) q q
 exact O1 q (fun _ => q) q q
 exact O1 q (fun _ => q) q q
 exact O1 q (fun _ => q) q q
 exact O1 q (fun _ => q) q q
 exact O1 q (fun _ => q) q q
 exact O1 q (fun _ => q) q q
 exact O1 q (fun _ => q) q q
 exact O1 q (fun _ => q) q q
 refine ⟨fun F => ?_, Zt⟩
 exact Zq (y_indexAddr e42 q Zl q (idx_nonneg hx166) (idx_row E2_eq hx166) q) q (Zd q q q)
 exact O1 q (fun _ => q) q q
 exact O1 q (fun _ => q) q q
 exact O1 q (fun _ => q) q q
 exact O1 q (fun _ => q) q q
 refine ⟨fun F => ?_, Zt⟩
 exact Zq (y_indexAddra ar39 q q (vecOk_0 hgg167) (vecOk_1 hgg167)) q (Zd q q q)
 refine ⟨fun F => ?_, Zt⟩
 exact WL.s0 (d_storeV (off := 1) (n := 16) (cs' := (([.pt 1 0] : List AV) ++ (vecA 16 (fun j => .n ((vset z163.1 (Int.toNat x1.d) x166) j)) ++ ([.n z163.2.1, .n z163.2.2.1, .n z163.2.2.2, .os 5 va] : List AV) : List AV))) (fun x => .n x) z163.1 x166 q q q (one_ok q) s2 q q hgg167 q) (Zw q) q (WL.done0 q q)
 refine Rxc 2 q ?_
 obtain ⟨x168, hx168, h⟩ := bindS h
 replace h := guardBS h
 obtain ⟨hgg169, h⟩ := h
 apply RO [_, _, _, _, _, _, _, _, _, _, _, _, _, _, _, _, _, _, _, .u] [[], [], [1], [1, 2], [1, 2, 3], [], [5], [5, 6], [5, 6, 7], [5, 6, 7, 8], [5, 6, 7, 8, 9], [5, 6, 7, 8, 9, 10], [5, 6, 7, 8, 9, 10, 11], [5, 6, 7, 8, 9, 10, 11, 12], [5, 6, 7, 8, 9, 10, 11, 12, 13], [5, 6, 7, 8, 9, 10, 11, 12, 13, 14], [1, 2, 3, 4, 5, 6, 7, 8, 9, 10, 11, 12, 13, 14, 15], [0, 1, 2, 3, 4, 5, 6, 7, 8, 9, 10, 11, 12, 13, 14, 15, 16], [0, 1, 2, 3, 4, 5, 6, 7, 8, 9, 10, 11, 12, 13, 14, 15, 16, 17], [0, 1, 2, 3, 4, 5, 6, 7, 8, 9, 10, 11, 12, 13, 14, 15, 16, 17, 18]] [16, 19] [[.row 116 (([.pt 1 0] : List AV) ++ (vecA 16 (fun j => .n ((vset z163.1 (Int.toNat x1.d) x166) j)) ++ ([.n z163.2.1, .n z163.2.2.1, .n z163.2.2.2, .os 5 va] : List AV) : List AV)), .row 90 (mR mI mH mO mE 2 vo mN 4 vu), .os 42 1 vo (famE 3 vf (List.length mS)), .fam 2 1 vf (famM E2 mS), .os 2 1 vu (eM E2 mU), .os 58 6 (va + 1) (eM R58 (tA ++ [(Act.mk 0 0 2 x168 0 0)]))], [.row 116 (([.pt 1 0] : List AV) ++ (vecA 16 (fun j => .n ((vset z163.1 (Int.toNat x1.d) x166) j)) ++ ([.n z163.2.1, .n z163.2.2.1, .n z163.2.2.2, .os 5 (va + 1)] : List AV) : List AV)), .row 90 (mR mI mH mO mE 2 vo mN 4 vu), .os 42 1 vo (famE 3 vf (List.length mS)), .fam 2 1 vf (famM E2 mS), .os 2 1 vu (eM E2 mU), .os 58 6 (va + 1) (eM R58 (tA ++ [(Act.mk 0 0 2 x168 0 0)]))]] [([], [0], [0, 1]), ([], [0], [0]), ([1], [], [0]), ([2], [], [0]), ([3], [], [0]), ([], [0], [0]), ([5], [], [0]), ([6], [], [0]), ([7], [], [0]), ([8], [], [0]), ([9], [], [0]), ([10], [], [0]), ([11], [], [0]), ([12], [], [0]), ([13], [], [0]), ([14], [], [0]), ([4, 15], [], [0]), ([0], [], [1]), ([17], [], [1]), ([18, 16], [], [1])] (by kernel_rfl) (by kernel_rfl) q q
 refine ⟨?_, ?_, ?_, ?_, ?_, ?_, ?_, ?_, ?_, ?_, ?_, ?_, ?_, ?_, ?_, ?_, ?_, ?_, ?_, ?_, Zt⟩
 exact ⟨O2 q (fun _ => q) q q, O2 q (fun _ => q) q q, Zt⟩
 exact O1 q (fun _ => q) q q
 exact O1 q (fun _ => q) q q
 exact O1 q (fun _ => q) q q
 exact O1 q (fun _ => q) q q
 exact O1 q (fun _ => q) q q
 exact O1 q (fun _ => q) q q
 exact O1 q (fun _ => q) q q
 exact O1 q (fun _ => q) q q
 exact O1 q (fun _ => q) q q
 exact O1 q (fun _ => q) q q
 exact O1 q (fun _ => q) q q
 refine ⟨fun F => ?_, Zt⟩
 exact Zq (y_indexAddr e42 q Zl q (idx_nonneg hx168) (idx_row E2_eq hx168) q) q (Zd q q q)
 exact O1 q (fun _ => q) q q
 refine ⟨fun F => ?_, Zt⟩
 exact Zq (y_build p58 z58 q q) q (Zd q q q)
 refine ⟨fun F => ?_, Zt⟩
 exact WL.s ((NewOs.data (n_buildSlice l50 z58 q (by decide) (by decide) q q q (by decide)) (by exact encA_map E58_eq [(Act.mk 0 0 2 x168 0 0)])).does) (Zw q) q q (Zd q q q)
 refine ⟨fun F => ?_, Zt⟩
 exact WL.s (d_appendL R58 tA [(Act.mk 0 0 2 x168 0 0)] l50 z58 q (by decide) q q q q (Src.dataL Zl E58_eq (fun _ => q)) (fun _ => q) (fun _ => q) hgg169) (Zw q) q q (Zd q q q)
 exact O1 q (fun _ => q) q q
 exact O1 q (fun _ => q) q q
 refine ⟨fun F => ?_, Zt⟩
 exact WL.s0 (d_store1 q q q (one_os q) s50 q) (Zw q) q (WL.done0 q q)
 refine Rxc 1 q ?_
 replace h := guardBS h
 obtain ⟨hgg170, h⟩ := h
 apply RO [_, _, _, _, _, _, _, _, _, _, _, _, _, _, .u] [[], [0], [0, 1], [0, 1, 2], [], [4], [4, 5], [4, 5, 6], [4, 5, 6, 7], [4, 5, 6, 7, 8], [4, 5, 6, 7, 8, 9], [4, 5, 6, 7, 8, 9, 10], [0, 1, 2, 3, 4, 5, 6, 7, 8, 9, 10, 11], [0, 1, 2, 3, 4, 5, 6, 7, 8, 9, 10, 11, 12], [0, 1, 2, 3, 4, 5, 6, 7, 8, 9, 10, 11, 12, 13]] [14] [[.row 116 (([.pt 1 0] : List AV) ++ (vecA 16 (fun j => .n ((vset z163.1 (Int.toNat x1.d) x166) j)) ++ ([.n z163.2.1, .n z163.2.2.1, .n z163.2.2.2, .os 5 (va + 1)] : List AV) : List AV)), .row 90 [.l E45 mI, .l E108 mH, .l E101 mO, .n mE, .os 2 vo, .l E2 (sliceF mN 1 (List.length mN : Int)), .os 4 vu], .os 42 1 vo (famE 3 vf (List.length mS)), .fam 2 1 vf (famM E2 mS), .os 2 1 vu (eM E2 mU), .os 58 6 (va + 1) (eM R58 (tA ++ [(Act.mk 0 0 2 x168 0 0)]))]] [([], [0], [0]), ([0], [], [0]), ([1], [], [0]), ([2], [], [0]), ([], [0], [0]), ([4], [], [0]), ([5], [], [0]), ([6], [], [0]), ([7], [], [0]), ([8], [], [0]), ([9], [], [0]), ([10], [], [0]), ([3], [], [0]), ([12], [], [0]), ([13, 11], [], [0])] (by kernel_rfl) (by kernel_rfl) q q
 refine ⟨?_, ?_, ?_, ?_, ?_, ?_, ?_, ?_, ?_, ?_, ?_, ?_, ?_, ?_, ?_, Zt⟩
 exact O1 q (fun _ => q) q q
 exact O1 q (fun _ => q) q q
 exact O1 q (fun _ => q) q q
 exact O1 q (fun _ => q) q q
 exact O1 q (fun _ => q) q q
 exact O1 q (fun _ => q) q q
 exact O1 q (fun _ => q) q q
 exact O1 q (fun _ => q) q q
 exact O1 q (fun _ => q) q q
 exact O1 q (fun _ => q) q q
 exact O1 q (fun _ => q) q q
 refine ⟨fun F => ?_, Zt⟩
 exact Zq (y_sliceL E2 mN (l := 1) (h := (List.length mN : Int)) e42 q Zl ⟨_, q⟩ q hgg170 (fun _ => q)) q (Zd q q q)
 exact O1 q (fun _ => q) q q
 exact O1 q (fun _ => q) q q
 refine ⟨fun F => ?_, Zt⟩
 exact WL.s0 (d_store q q q q q q s42 q q) (Zw q) q (WL.done0 q q)
 refine Rxx 1 q (we_endP ?_)
 obtain rfl := Oi h
 exact WE.finP (we_ret_g (new := [.row 116 (([.pt 1 0] : List AV) ++ (vecA 16 (fun j => .n ((vset z163.1 (Int.toNat x1.d) x166) j)) ++ ([.n z163.2.1, .n z163.2.2.1, .n z163.2.2.2, .os 5 (va + 1)] : List AV) : List AV)), .row 90 [.l E45 mI, .l E108 mH, .l E101 mO, .n mE, .os 2 vo, .l E2 (sliceF mN 1 (List.length mN : Int)), .os 4 vu], .os 42 1 vo (famE 3 vf (List.length mS)), .fam 2 1 vf (famM E2 mS), .os 2 1 vu (eM E2 mU), .os 58 6 (va + 1) (eM R58 (tA ++ [(Act.mk 0 0 2 x168 0 0)]))]) (r0 := .d (.tu [])) (res0 q) (Le.tud Zt) q ⟨Zp, Zp, Zf, Zf, Zf, Zf, Zt⟩ ⟨_, vu, (va + 1), q, q, q⟩)
 obtain ⟨z9, hz, _⟩ := hS
 cases hz
 dsimp only [Rs.cs] at h
 refine WLP.wing [0, 1, 2, 3, 4, 5] q q q q (f131_c _ _ _ _ _ _ _ _ _ _ _ _ hr162) ⟨Zl, Zt⟩ q (by decide) (Re (Re (Rg (Rf (Ro (Ro q)))))) ⟨q, q, q, q, q, q, Zt⟩ Kv q (Zw q) q q (fun r' new hS => ?_) (fun c new hS => ?_)
 obtain ⟨z9, hz, _⟩ := hS
 cases hz
 obtain ⟨z9, hz, rfl, rfl⟩ := hS
 obtain rfl := Rs.bad.inj hz
 refine ⟨_, (Re (Re (Rg (Rf (Ro (Re q)))))), Kv, ?_⟩
 refine WE.sto (st' := (wD mI mH mO mE vo mN vu vf mS mU)) q (we_seq_pan (we_blk_pan ?_))
 obtain rfl := Oi h
 exact we_pan_g (new := (wD mI mH mO mE vo mN vu vf mS mU)) q ⟨Zt, Zp, Zf, Zf, Zf, Zt, Zt⟩ ⟨_, q, q, q⟩

theorem f87_c (tR : Nat → Int) (tP : Int) (tX : Int) (tD : Int) (mI : List Insn) (mH : List MHandler) (mO : List Obj) (mE : Int) (mN : List Int) (mS : List (List Int)) (mU : List Int) (tA : List Act) (x1 : Insn) {vo : Nat} {vf : Nat} {vu : Nat} {va : Nat} {r : Rs ((Nat → Int) × Int × Int × Int)} (h : f87 tR tP tX tD mI mH mO mE mN mS mU tA x1 = some r) : CtrP Tryz.prog 87 [.pt 0 0, .d (.ag (R45 x1))] (wT tR tP tX tD va mI mH mO mE vo mN vu vf mS mU tA) (WinG 6 (fun r' new => ∃ (z : (Nat → Int) × Int × Int × Int), r = .ok z ∧ r' = .d (.tu []) ∧ new = [.row 116 (([.pt 1 0] : List AV) ++ (vecA 16 (fun j => .n (z.1 j)) ++ ([.n z.2.1, .n z.2.2.1, .n z.2.2.2, .os 5 va] : List AV) : List AV)), .row 90 (mR mI mH mO mE 2 vo mN 4 vu), .os 42 1 vo (famE 3 vf (List.length mS)), .fam 2 1 vf (famM E2 mS), .os 2 1 vu (eM E2 mU), .os 58 6 va (eM R58 tA)])) (WinGP 6 (fun c new => ∃ (ee : Int), r = .bad ee ∧ c = wrongP ee ∧ new = (wD mI mH mO mE vo mN vu vf mS mU))) := by
 unfold f87 at h
 refine ctrP_intro Tryz.func87 (by kernel_rfl) q q q (fun mm φφ ww hmm => ?_)
 refine Rcl 2 q (Bd q q (Zs _) q (Rlc 2 q (Jn2 (fun _ _ => [(0, .pt 0 0)]) (fun c0190 c01991 => [.row 116 (tQ 1 c0190 tP tX c01991 5 va), .row 90 (mR mI mH mO mE 2 vo mN 4 vu), .os 42 1 vo (famE 3 vf (List.length mS)), .fam 2 1 vf (famM E2 mS), .os 2 1 vu (eM E2 mU), .os 58 6 va (eM R58 tA)]) h (fun _ h => ?_) (fun c0190 c01991 h => ?_))))
 refine Rcc 13 q (Ci h q (fun h => ?_) (fun h => ?_))
 replace h := guardBS h
 obtain ⟨hgg93, h⟩ := h
 apply RO [_, _, _, _, _, _, _, _, _, .u] [[], [], [1], [], [3], [0], [0, 5], [0, 5, 6], [0, 1, 2, 3, 4, 5, 6, 7], [0, 1, 2, 3, 4, 5, 6, 7, 8]] [9] [[.row 116 (([.pt 1 0] : List AV) ++ (vecA 16 (fun j => .n ((vset tR (Int.toNat x1.d) x1.n) j)) ++ ([.n tP, .n tX, .n tD, .os 5 va] : List AV) : List AV)), .row 90 (mR mI mH mO mE 2 vo mN 4 vu), .os 42 1 vo (famE 3 vf (List.length mS)), .fam 2 1 vf (famM E2 mS), .os 2 1 vu (eM E2 mU), .os 58 6 va (eM R58 tA)]] [([], [0], [0]), ([], [3], [0]), ([1], [], [0]), ([], [3], [0]), ([3], [], [0]), ([0], [], [0]), ([5], [], [0]), ([6], [], [0]), ([7, 2], [], [0]), ([8, 4], [], [0])] (by kernel_rfl) (by kernel_rfl) q q
 refine ⟨?_, ?_, ?_, ?_, ?_, ?_, ?_, ?_, ?_, ?_, Zt⟩
 exact O1 q (fun _ => q) q q
 exact O1 q (fun _ => q) q q
 exact O1 q (fun _ => q) q q
 exact O1 q (fun _ => q) q q
 exact O1 q (fun _ => q) q q
 exact O1 q (fun _ => q) q q
 exact O1 q (fun _ => q) q q
 exact O1 q (fun _ => q) q q
 refine ⟨fun F => ?_, Zt⟩
 exact Zq (y_indexAddra ar39 q q (vecOk_0 hgg93) (vecOk_1 hgg93)) q (Zd q q q)
 refine ⟨fun F => ?_, Zt⟩
 exact WL.s0 (d_storeV (off := 1) (n := 16) (cs' := (([.pt 1 0] : List AV) ++ (vecA 16 (fun j => .n ((vset tR (Int.toNat x1.d) x1.n) j)) ++ ([.n tP, .n tX, .n tD, .os 5 va] : List AV) : List AV))) (fun x => .n x) tR x1.n q q q (one_ok q) s2 q q hgg93 q) (Zw q) q (WL.done0 q q)
 exact Rxx 1 q (En2 h)
 refine Rcc 6 q (Ci h q (fun h => ?_) (fun h => ?_))
 replace h := guardBS h
 obtain ⟨hgg94, h⟩ := h
 replace h := guardBS h
 obtain ⟨hgg95, h⟩ := h
 apply RO [_, _, _, _, _, _, _, _, _, _, _, _, _, _, _, .u] [[], [], [1], [], [], [4], [3], [3, 6], [3, 6, 7], [3, 4, 5, 6, 7, 8], [3, 4, 5, 6, 7, 8, 9], [0], [0, 11], [0, 11, 12], [0, 1, 2, 3, 4, 5, 6, 7, 8, 9, 10, 11, 12, 13], [0, 1, 2, 3, 4, 5, 6, 7, 8, 9, 10, 11, 12, 13, 14]] [15] [[.row 116 (([.pt 1 0] : List AV) ++ (vecA 16 (fun j => .n ((vset tR (Int.toNat x1.d) (tR (Int.toNat x1.a))) j)) ++ ([.n tP, .n tX, .n tD, .os 5 va] : List AV) : List AV)), .row 90 (mR mI mH mO mE 2 vo mN 4 vu), .os 42 1 vo (famE 3 vf (List.length mS)), .fam 2 1 vf (famM E2 mS), .os 2 1 vu (eM E2 mU), .os 58 6 va (eM R58 tA)]] [([], [0], [0]), ([], [3], [0]), ([1], [], [0]), ([], [0], [0]), ([], [3], [0]), ([4], [], [0]), ([3], [], [0]), ([6], [], [0]), ([7], [], [0]), ([8, 5], [], [0]), ([9], [], [0]), ([0], [], [0]), ([11], [], [0]), ([12], [], [0]), ([13, 2], [], [0]), ([14, 10], [], [0])] (by kernel_rfl) (by kernel_rfl) q q
 refine ⟨?_, ?_, ?_, ?_, ?_, ?_, ?_, ?_, ?_, ?_, ?_, ?_, ?_, ?_, ?_, ?_, Zt⟩
 exact O1 q (fun _ => q) q q
 exact O1 q (fun _ => q) q q
 exact O1 q (fun _ => q) q q
 exact O1 q (fun _ => q) q q
 exact O1 q (fun _ => q) q q
 exact O1 q (fun _ => q) q q
 exact O1 q (fun _ => q) q q
 exact O1 q (fun _ => q) q q
 exact O1 q (fun _ => q) q q
 refine ⟨fun F => ?_, Zt⟩
 exact Zq (y_indexAddra ar39 q q (vecOk_0 hgg94) (vecOk_1 hgg94)) q (Zd q q q)
 refine ⟨fun F => ?_, Zt⟩
 exact Zq (y_loadV (off := 1) (n := 16) (fun j => .n (tR j)) q q a2 q hgg94) q (Zd q q q)
 exact O1 q (fun _ => q) q q
 exact O1 q (fun _ => q) q q
 exact O1 q (fun _ => q) q q
 refine ⟨fun F => ?_, Zt⟩
 exact Zq (y_indexAddra ar39 q q (vecOk_0 hgg95) (vecOk_1 hgg95)) q (Zd q q q)
 refine ⟨fun F => ?_, Zt⟩
 exact WL.s0 (d_storeV (off := 1) (n := 16) (cs' := (([.pt 1 0] : List AV) ++ (vecA 16 (fun j => .n ((vset tR (Int.toNat x1.d) (tR (Int.toNat x1.a))) j)) ++ ([.n tP, .n tX, .n tD, .os 5 va] : List AV) : List AV))) (fun x => .n x) tR (tR (Int.toNat x1.a)) q q q (one_ok q) s2 q q hgg95 q) (Zw q) q (WL.done0 q q)
 exact Rxx 1 q (En2 h)
 refine Rcc 6 q (Ci h q (fun h => ?_) (fun h => ?_))
 replace h := guardBS h
 obtain ⟨hgg96, h⟩ := h
 apply RO [_, _, _, _, _, _, _, _, _, _, _, _, .u] [[], [], [1], [], [3], [3, 4], [3, 4, 5], [3, 4, 5, 6], [0], [0, 8], [0, 8, 9], [0, 1, 2, 3, 4, 5, 6, 7, 8, 9, 10], [0, 1, 2, 3, 4, 5, 6, 7, 8, 9, 10, 11]] [12] [[.row 116 (([.pt 1 0] : List AV) ++ (vecA 16 (fun j => .n ((vset tR (Int.toNat x1.d) tX) j)) ++ ([.n tP, .n tX, .n tD, .os 5 va] : List AV) : List AV)), .row 90 (mR mI mH mO mE 2 vo mN 4 vu), .os 42 1 vo (famE 3 vf (List.length mS)), .fam 2 1 vf (famM E2 mS), .os 2 1 vu (eM E2 mU), .os 58 6 va (eM R58 tA)]] [([], [0], [0]), ([], [3], [0]), ([1], [], [0]), ([], [0], [0]), ([3], [], [0]), ([4], [], [0]), ([5], [], [0]), ([6], [], [0]), ([0], [], [0]), ([8], [], [0]), ([9], [], [0]), ([10, 2], [], [0]), ([11, 7], [], [0])] (by kernel_rfl) (by kernel_rfl) q q
 refine ⟨?_, ?_, ?_, ?_, ?_, ?_, ?_, ?_, ?_, ?_, ?_, ?_, ?_, Zt⟩
 exact O1 q (fun _ => q) q q
 exact O1 q (fun _ => q) q q
 exact O1 q (fun _ => q) q q
 exact O1 q (fun _ => q) q q
 exact O1 q (fun _ => q) q q
 exact O1 q (fun _ => q) q q
 exact O1 q (fun _ => q) q q
 exact O1 q (fun _ => q) q q
 exact O1 q (fun _ => q) q q
 exact O1 q (fun _ => q) q q
 exact O1 q (fun _ => q) q q
 refine ⟨fun F => ?_, Zt⟩
 exact Zq (y_indexAddra ar39 q q (vecOk_0 hgg96) (vecOk_1 hgg96)) q (Zd q q q)
 refine ⟨fun F => ?_, Zt⟩
 exact WL.s0 (d_storeV (off := 1) (n := 16) (cs' := (([.pt 1 0] : List AV) ++ (vecA 16 (fun j => .n ((vset tR (Int.toNat x1.d) tX) j)) ++ ([.n tP, .n tX, .n tD, .os 5 va] : List AV) : List AV))) (fun x => .n x) tR tX q q q (one_ok q) s2 q q hgg96 q) (Zw q) q (WL.done0 q q)
 exact Rxx 1 q (En2 h)
 refine Rcc 6 q (Ci h q (fun h => ?_) (fun h => ?_))
 exact Rcl 10 q (WL.s0 (d_store q q q q q q s3 q q) (Zw q) q (WL.st (st' := [.row 116 (([.pt 1 0] : List AV) ++ (vecA 16 (fun j => .n (tR j)) ++ ([.n tP, .n tX, .n (IntKind.i64.wrap (tD + 1)), .os 5 va] : List AV) : List AV)), .row 90 (mR mI mH mO mE 2 vo mN 4 vu), .os 42 1 vo (famE 3 vf (List.length mS)), .fam 2 1 vf (famM E2 mS), .os 2 1 vu (eM E2 mU), .os 58 6 va (eM R58 tA)]) q (Rlx 2 q (En2 h))))
 refine Rcc 6 q (Ci h q (fun h => ?_) (fun h => ?_))
 exact Rcl 10 q (WL.s0 (d_store q q q q q q s3 q q) (Zw q) q (WL.st (st' := [.row 116 (([.pt 1 0] : List AV) ++ (vecA 16 (fun j => .n (tR j)) ++ ([.n tP, .n tX, .n (IntKind.i64.wrap (tD - 1)), .os 5 va] : List AV) : List AV)), .row 90 (mR mI mH mO mE 2 vo mN 4 vu), .os 42 1 vo (famE 3 vf (List.length mS)), .fam 2 1 vf (famM E2 mS), .os 2 1 vu (eM E2 mU), .os 58 6 va (eM R58 tA)]) q (Rlx 2 q (En2 h))))
 exact Rcx 2 q (En2 h)
 refine Rcl 10 q ?_
 apply WL.or 7 (t := 76) (d := 83)
 exact q
 intro hg76
 exact Rl 7 q (WL.nil ⟨q, [_, _, _, _, _, _, _], q, q, q⟩)
 exact Rl 7 q (WL.nil ⟨q, [_, _, _, _, _, _, _], q, q, q⟩)
 refine Rlc 2 q (Ci h q (fun h => ?_) (fun h => ?_))
 refine wc_regionP (WLP.wing [] q q q q (f102_c  (r := Rs.bad 280) q) Zt q (by decide) q Zt q q (Zw q) q q (fun r' new hS => ?_) (fun c new hS => ?_))
 obtain ⟨z9, hz, _⟩ := hS
 cases hz
 obtain ⟨z9, hz, rfl, rfl⟩ := hS
 obtain rfl := Rs.bad.inj hz
 refine ⟨_, q, q, ?_⟩
 refine we_seq_pan ?_
 obtain rfl := Oi h
 exact we_pan_g (new := (wD mI mH mO mE vo mN vu vf mS mU)) q ⟨Zt, Zp, Zf, Zf, Zf, Zt, Zt⟩ ⟨_, q, q, q⟩
 refine Rcc 2 q (wc_regionP (WLP.pre 1 (Rl 1 q (WL.nil ?_))))
 obtain ⟨r101, hr101, h⟩ := bindS h
 rcases r101 with z102 | e103
 dsimp only [Rs.cs] at h
 refine WLP.wing [0, 1, 2, 3, 4, 5] q q q q (f131_c _ _ _ _ _ _ _ _ _ _ _ _ hr101) ⟨Zl, Zt⟩ q (by decide) (Re (Re (Rg (Rf (Ro (Ro q)))))) ⟨q, q, q, q, q, q, Zt⟩ Kv q (Zw q) q q (fun r' new hS => ?_) (fun c new hS => ?_)
 obtain ⟨z9, hz, rfl, rfl⟩ := hS
 obtain rfl := Rs.ok.inj hz
 refine ⟨_, _, q, (Re (Re (Rg (Rf (Ro (Ro q)))))), q, Kv, WLP.of ?_⟩
 refine WL.st (st' := [.row 116 (([.pt 1 0] : List AV) ++ (vecA 16 (fun j => .n (z102.1 j)) ++ ([.n z102.2.1, .n z102.2.2.1, .n z102.2.2.2, .os 5 va] : List AV) : List AV)), .row 90 (mR mI mH mO mE 2 vo mN 4 vu), .os 42 1 vo (famE 3 vf (List.length mS)), .fam 2 1 vf (famM E2 mS), .os 2 1 vu (eM E2 mU), .os 58 6 va (eM R58 tA)]) q (WL.nil (we_endP ?_))
 obtain rfl := Oi h
 exact WE.finP (we_ret_g (new := [.row 116 (([.pt 1 0] : List AV) ++ (vecA 16 (fun j => .n (z102.1 j)) ++ ([.n z102.2.1, .n z102.2.2.1, .n z102.2.2.2, .os 5 va] : List AV) : List AV)), .row 90 (mR mI mH mO mE 2 vo mN 4 vu), .os 42 1 vo (famE 3 vf (List.length mS)), .fam 2 1 vf (famM E2 mS), .os 2 1 vu (eM E2 mU), .os 58 6 va (eM R58 tA)]) (r0 := .d (.tu [])) (res0 q) (Le.tud Zt) q ⟨Zp, Zp, Zf, Zf, Zf, Zf, Zt⟩ ⟨_, q, q, q⟩)
 obtain ⟨z9, hz, _⟩ := hS
 cases hz
 dsimp only [Rs.cs] at h
 refine WLP.wing [0, 1, 2, 3, 4, 5] q q q q (f131_c _ _ _ _ _ _ _ _ _ _ _ _ hr101) ⟨Zl, Zt⟩ q (by decide) (Re (Re (Rg (Rf (Ro (Ro q)))))) ⟨q, q, q, q, q, q, Zt⟩ Kv q (Zw q) q q (fun r' new hS => ?_) (fun c new hS => ?_)
 obtain ⟨z9, hz, _⟩ := hS
 cases hz
 obtain ⟨z9, hz, rfl, rfl⟩ := hS
 obtain rfl := Rs.bad.inj hz
 refine ⟨_, (Re (Re (Rg (Rf (Ro (Re q)))))), Kv, ?_⟩
 refine WE.sto (st' := (wD mI mH mO mE vo mN vu vf mS mU)) q ?_
 obtain rfl := Oi h
 exact we_pan_g (new := (wD mI mH mO mE vo mN vu vf mS mU)) q ⟨Zt, Zp, Zf, Zf, Zf, Zt, Zt⟩ ⟨_, q, q, q⟩

theorem f181_c (a0 : Int) (b1 : Int) : Pu Tryz.prog 181 [.i .i64 a0, .i .i64 b1] (.i .i64 (f181 a0 b1)) := by
 generalize h : f181 a0 b1 = r
 unfold f181 at h
 refine fn_intro Tryz.func181 (by kernel_rfl) q q q (fun φφ ww => ?_)
 exact Rcx 14 q (FB h)

theorem f182_c (a0 : Int) (b1 : Int) : Pu Tryz.prog 182 [.i .i64 a0, .i .i64 b1] (.i .i64 (f182 a0 b1)) := by
 generalize h : f182 a0 b1 = r
 unfold f182 at h
 refine fn_intro Tryz.func182 (by kernel_rfl) q q q (fun φφ ww => ?_)
 exact Rcx 14 q (FB h)

theorem f183_c (a0 : Int) (b1 : Int) : Pu Tryz.prog 183 [.i .i64 a0, .i .i64 b1] (.i .i64 (f183 a0 b1)) := by
 generalize h : f183 a0 b1 = r
 unfold f183 at h
 refine fn_intro Tryz.func183 (by kernel_rfl) q q q (fun φφ ww => ?_)
 exact Rcx 14 q (FB h)

theorem f185_c (a0 : Int) (b1 : Int) {r : Int} (h : f185 a0 b1 = some r) : Pu Tryz.prog 185 [.i .i64 a0, .i .i64 b1] (.i .i64 r) := by
 unfold f185 at h
 refine fn_intro Tryz.func185 (by kernel_rfl) q q q (fun φφ ww => ?_)
 refine Rcl 9 q ?_
 replace h := guardBS h
 obtain ⟨hgg11, h⟩ := h
 exact Zq (y_quo q q (nz_ne hgg11) q) q (Rlx 4 q (FA h))

theorem f186_c (a0 : Int) (b1 : Int) {r : Int} (h : f186 a0 b1 = some r) : Pu Tryz.prog 186 [.i .i64 a0, .i .i64 b1] (.i .i64 r) := by
 unfold f186 at h
 refine fn_intro Tryz.func186 (by kernel_rfl) q q q (fun φφ ww => ?_)
 refine Rcl 9 q ?_
 replace h := guardBS h
 obtain ⟨hgg11, h⟩ := h
 exact Zq (y_rem q q (nz_ne hgg11)) q (Rlx 4 q (FA h))

theorem f187_c (a0 : Int) (b1 : Int) {r : Int} (h : f187 a0 b1 = some r) : Pu Tryz.prog 187 [.i .i64 a0, .i .i64 b1] (.i .i64 r) := by
 unfold f187 at h
 refine fn_intro Tryz.func187 (by kernel_rfl) q q q (fun φφ ww => ?_)
 refine Rcl 10 q ?_
 replace h := guardBS h
 obtain ⟨hgg26, h⟩ := h
 refine Zq (y_rem q q (nz_ne hgg26)) q (Rll 8 q ?_)
 apply WL.or 5 (t := 11) (d := 16)
 exact q
 intro hg11
 exact Rl 2 q (Zy (y_xor q q q) q q q (Rl 2 q (WL.nil ⟨q, [_, _, _, _, _], q, q, q⟩)))
 exact Rl 5 q (WL.nil ⟨q, [_, _, _, _, _], q, q, q⟩)
 refine Rlc 2 q (Ci h q (fun h => ?_) (fun h => ?_))
 exact Rcx 8 q (FA h)
 refine Rcl 6 q ?_
 replace h := guardBS h
 obtain ⟨hgg27, h⟩ := h
 exact Zq (y_rem q q (nz_ne hgg27)) q (Rlx 6 q (FA h))

theorem f217_c (is0 : Bool) : Pu Tryz.prog 217 [.b is0] (.i .i64 (f217 is0)) := by
 generalize h : f217 is0 = r
 unfold f217 at h
 refine fn_intro Tryz.func217 (by kernel_rfl) q q q (fun φφ ww => ?_)
 refine Rcc 11 q (Ci h q (fun h => ?_) (fun h => ?_))
 exact Rcx 7 q (FB h)
 exact Rcx 8 q (FB h)

theorem f189_c (a0 : Int) (b1 : Int) : Pu Tryz.prog 189 [.i .i64 a0, .i .i64 b1] (.b (f189 a0 b1)) := by
 generalize h : f189 a0 b1 = r
 unfold f189 at h
 refine fn_intro Tryz.func189 (by kernel_rfl) q q q (fun φφ ww => ?_)
 exact Rcx 14 q (FB h)

theorem f190_c (a0 : Int) (b1 : Int) : Pu Tryz.prog 190 [.i .i64 a0, .i .i64 b1] (.b (f190 a0 b1)) := by
 generalize h : f190 a0 b1 = r
 unfold f190 at h
 refine fn_intro Tryz.func190 (by kernel_rfl) q q q (fun φφ ww => ?_)
 exact Rcx 14 q (FB h)

theorem f191_c (a0 : Int) (b1 : Int) : Pu Tryz.prog 191 [.i .i64 a0, .i .i64 b1] (.b (f191 a0 b1)) := by
 generalize h : f191 a0 b1 = r
 unfold f191 at h
 refine fn_intro Tryz.func191 (by kernel_rfl) q q q (fun φφ ww => ?_)
 exact Rcx 14 q (FB h)

theorem f192_c (a0 : Int) (b1 : Int) : Pu Tryz.prog 192 [.i .i64 a0, .i .i64 b1] (.b (f192 a0 b1)) := by
 generalize h : f192 a0 b1 = r
 unfold f192 at h
 refine fn_intro Tryz.func192 (by kernel_rfl) q q q (fun φφ ww => ?_)
 exact Rcx 14 q (FB h)

theorem f193_c (a0 : Int) (b1 : Int) : Pu Tryz.prog 193 [.i .i64 a0, .i .i64 b1] (.b (f193 a0 b1)) := by
 generalize h : f193 a0 b1 = r
 unfold f193 at h
 refine fn_intro Tryz.func193 (by kernel_rfl) q q q (fun φφ ww => ?_)
 exact Rcx 14 q (FB h)

theorem f194_c (a0 : Int) (b1 : Int) : Pu Tryz.prog 194 [.i .i64 a0, .i .i64 b1] (.b (f194 a0 b1)) := by
 generalize h : f194 a0 b1 = r
 unfold f194 at h
 refine fn_intro Tryz.func194 (by kernel_rfl) q q q (fun φφ ww => ?_)
 exact Rcx 14 q (FB h)

theorem f195_c (a0 : Int) (b1 : Int) : Pu Tryz.prog 195 [.i .i64 a0, .i .i64 b1] (.i .i64 (f195 a0 b1)) := by
 generalize h : f195 a0 b1 = r
 unfold f195 at h
 refine fn_intro Tryz.func195 (by kernel_rfl) q q q (fun φφ ww => ?_)
 exact Rcl 9 q (Zq (y_and q q q) q (Rlx 4 q (FB h)))

theorem f196_c (a0 : Int) (b1 : Int) : Pu Tryz.prog 196 [.i .i64 a0, .i .i64 b1] (.i .i64 (f196 a0 b1)) := by
 generalize h : f196 a0 b1 = r
 unfold f196 at h
 refine fn_intro Tryz.func196 (by kernel_rfl) q q q (fun φφ ww => ?_)
 exact Rcl 9 q (Zq (y_or q q q) q (Rlx 4 q (FB h)))

theorem f197_c (a0 : Int) (b1 : Int) : Pu Tryz.prog 197 [.i .i64 a0, .i .i64 b1] (.i .i64 (f197 a0 b1)) := by
 generalize h : f197 a0 b1 = r
 unfold f197 at h
 refine fn_intro Tryz.func197 (by kernel_rfl) q q q (fun φφ ww => ?_)
 exact Rcl 9 q (Zq (y_xor q q q) q (Rlx 4 q (FB h)))

theorem f198_c (a0 : Int) (p1 : Int) : Pu Tryz.prog 198 [.i .i64 a0, .i .i64 p1] (.i .i64 (f198 a0 p1)) := by
 generalize h : f198 a0 p1 = r
 unfold f198 at h
 refine fn_intro Tryz.func198 (by kernel_rfl) q q q (fun φφ ww => ?_)
 exact Rcx 13 q (FB h)

theorem f199_c (a0 : Int) (p1 : Int) : Pu Tryz.prog 199 [.i .i64 a0, .i .i64 p1] (.i .i64 (f199 a0 p1)) := by
 generalize h : f199 a0 p1 = r
 unfold f199 at h
 refine fn_intro Tryz.func199 (by kernel_rfl) q q q (fun φφ ww => ?_)
 exact Rcl 10 q (Zq (y_max q q q) q (Rlx 4 q (FB h)))

theorem f200_c (a0 : Int) (p1 : Int) : Pu Tryz.prog 200 [.i .i64 a0, .i .i64 p1] (.i .i64 (f200 a0 p1)) := by
 generalize h : f200 a0 p1 = r
 unfold f200 at h
 refine fn_intro Tryz.func200 (by kernel_rfl) q q q (fun φφ ww => ?_)
 exact Rcx 13 q (FB h)

theorem f132_c (op0 : Int) (a1 : Int) (b2 : Int) {r : Int × Bool} (h : f132 op0 a1 b2 = some r) : Pu Tryz.prog 132 [.i .u8 op0, .i .i64 a1, .i .i64 b2] (.tu [.i .i64 r.1, .b r.2]) := by
 unfold f132 at h
 refine fn_intro Tryz.func132 (by kernel_rfl) q q q (fun φφ ww => ?_)
 refine Rcc 19 q (Ci h q (fun h => ?_) (fun h => ?_))
 exact Rcx 12 q (FA h)
 refine Rcc 6 q (Ci h q (fun h => ?_) (fun h => ?_))
 exact Rcx 12 q (FA h)
 refine Rcl 5 q ?_
 obtain ⟨k40, hk40, h⟩ := letkS h
 refine WL.inl (us := []) (fun rv st' => (k40 () = some r ∧ Le rv (.mp 0) ∧ SLe st' [mpO (fun x : Int => Value.int .u8 x) (fun x : AV => x) [fe 1 214 1, fe 2 214 2, fe 3 214 3, fe 4 215 4, fe 5 215 5, fe 6 215 6, fe 7 216 7, fe 8 216 8, fe 9 216 9, fe 10 216 10, fe 11 216 11, fe 12 216 12, fe 13 214 13, fe 14 214 14, fe 15 214 15, fe 16 214 16, fe 17 214 17, fe 18 214 18], rF 209 181, rF 209 182, rF 209 183, rF 209 185, rF 209 186, rF 209 187, rF 195 189, rF 195 190, rF 195 191, rF 195 192, rF 195 193, rF 195 194, rF 209 195, rF 209 196, rF 209 197, rF 209 198, rF 209 199, rF 209 200])) q q q q q ?_ (Zw q) q q ?_
 refine ctr_intro Tryz.func159 (by kernel_rfl) q q q (fun mm φφ ww hm39 => ?_)
 refine Rcl 7 q (WL.s ((b_makeMap (α := AV) (fun x : Int => Value.int .u8 x) (fun x : AV => x)).does) (Zw q) q q ?_)
 obtain ⟨k42, hk42, h⟩ := letkS h
 refine WL.inl (us := [.fn (.func 181) [] []]) (fun rv st' => (k42 () = some r ∧ Le rv (.fn (.func 214) [] [.pt 1 0]) ∧ SLe st' [mpO (fun x : Int => Value.int .u8 x) (fun x : AV => x) [], rF 209 181])) q q q q q ?_ (Zw q) q q ?_
 refine ctr_intro Tryz.func180 (by kernel_rfl) q q q (fun mm φφ ww hm41 => ?_)
 exact Rcl 2 q (Bx q q q (Rlx 10 q (we_ret (rs1 q (rv_t q)) ⟨h, Zl, ⟨q, Zp, Zt⟩⟩)))
 rintro rv st1 ⟨h, hr, hst⟩
 subst hk42
 dsimp only at h
 refine WL.cast 2 q hr (WL.weak hst (WL.s0 (d_mapUpdate (fun x : Int => Value.int .u8 x) (fun x : AV => x) [] (u := .fn (.func 214) [] [.pt 1 0]) (.inl q) Tryz.underlying237 Tryz.underlying146 (KeyF.int .u8) q q q q) (Zw q) q ?_))
 obtain ⟨k44, hk44, h⟩ := letkS h
 refine WL.inl (us := [.fn (.func 182) [] []]) (fun rv st' => (k44 () = some r ∧ Le rv (.fn (.func 214) [] [.pt 2 0]) ∧ SLe st' [mpO (fun x : Int => Value.int .u8 x) (fun x : AV => x) [fe 1 214 1], rF 209 181, rF 209 182])) q q q q q ?_ (Zw q) q q ?_
 refine ctr_intro Tryz.func180 (by kernel_rfl) q q q (fun mm φφ ww hm43 => ?_)
 exact Rcl 2 q (Bx q q q (Rlx 10 q (we_ret (rs1 q (rv_t q)) ⟨h, Zl, ⟨q, Zp, Zp, Zt⟩⟩)))
 rintro rv st1 ⟨h, hr, hst⟩
 subst hk44
 dsimp only at h
 refine WL.cast 3 q hr (WL.weak hst (WL.s0 (d_mapUpdate (fun x : Int => Value.int .u8 x) (fun x : AV => x) [fe 1 214 1] (u := .fn (.func 214) [] [.pt 2 0]) (.inl q) Tryz.underlying237 Tryz.underlying146 (KeyF.int .u8) q q q q) (Zw q) q ?_))
 obtain ⟨k46, hk46, h⟩ := letkS h
 refine WL.inl (us := [.fn (.func 183) [] []]) (fun rv st' => (k46 () = some r ∧ Le rv (.fn (.func 214) [] [.pt 3 0]) ∧ SLe st' [mpO (fun x : Int => Value.int .u8 x) (fun x : AV => x) [fe 1 214 1, fe 2 214 2], rF 209 181, rF 209 182, rF 209 183])) q q q q q ?_ (Zw q) q q ?_
 refine ctr_intro Tryz.func180 (by kernel_rfl) q q q (fun mm φφ ww hm45 => ?_)
 exact Rcl 2 q (Bx q q q (Rlx 10 q (we_ret (rs1 q (rv_t q)) ⟨h, Zl, ⟨q, Zp, Zp, Zp, Zt⟩⟩)))
 rintro rv st1 ⟨h, hr, hst⟩
 subst hk46
 dsimp only at h
 refine WL.cast 4 q hr (WL.weak hst (WL.s0 (d_mapUpdate (fun x : Int => Value.int .u8 x) (fun x : AV => x) [fe 1 214 1, fe 2 214 2] (u := .fn (.func 214) [] [.pt 3 0]) (.inl q) Tryz.underlying237 Tryz.underlying146 (KeyF.int .u8) q q q q) (Zw q) q ?_))
 obtain ⟨k48, hk48, h⟩ := letkS h
 refine WL.inl (us := [.fn (.func 185) [] []]) (fun rv st' => (k48 () = some r ∧ Le rv (.fn (.func 215) [] [.pt 4 0]) ∧ SLe st' [mpO (fun x : Int => Value.int .u8 x) (fun x : AV => x) [fe 1 214 1, fe 2 214 2, fe 3 214 3], rF 209 181, rF 209 182, rF 209 183, rF 209 185])) q q q q q ?_ (Zw q) q q ?_
 refine ctr_intro Tryz.func184 (by kernel_rfl) q q q (fun mm φφ ww hm47 => ?_)
 exact Rcl 2 q (Bx q q q (Rlx 10 q (we_ret (rs1 q (rv_t q)) ⟨h, Zl, ⟨q, Zp, Zp, Zp, Zp, Zt⟩⟩)))
 rintro rv st1 ⟨h, hr, hst⟩
 subst hk48
 dsimp only at h
 refine WL.cast 5 q hr (WL.weak hst (WL.s0 (d_mapUpdate (fun x : Int => Value.int .u8 x) (fun x : AV => x) [fe 1 214 1, fe 2 214 2, fe 3 214 3] (u := .fn (.func 215) [] [.pt 4 0]) (.inl q) Tryz.underlying237 Tryz.underlying146 (KeyF.int .u8) q q q q) (Zw q) q ?_))
 obtain ⟨k50, hk50, h⟩ := letkS h
 refine WL.inl (us := [.fn (.func 186) [] []]) (fun rv st' => (k50 () = some r ∧ Le rv (.fn (.func 215) [] [.pt 5 0]) ∧ SLe st' [mpO (fun x : Int => Value.int .u8 x) (fun x : AV => x) [fe 1 214 1, fe 2 214 2, fe 3 214 3, fe 4 215 4], rF 209 181, rF 209 182, rF 209 183, rF 209 185, rF 209 186])) q q q q q ?_ (Zw q) q q ?_
 refine ctr_intro Tryz.func184 (by kernel_rfl) q q q (fun mm φφ ww hm49 => ?_)
 exact Rcl 2 q (Bx q q q (Rlx 10 q (we_ret (rs1 q (rv_t q)) ⟨h, Zl, ⟨q, Zp, Zp, Zp, Zp, Zp, Zt⟩⟩)))
 rintro rv st1 ⟨h, hr, hst⟩
 subst hk50
 dsimp only at h
 refine WL.cast 6 q hr (WL.weak hst (WL.s0 (d_mapUpdate (fun x : Int => Value.int .u8 x) (fun x : AV => x) [fe 1 214 1, fe 2 214 2, fe 3 214 3, fe 4 215 4] (u := .fn (.func 215) [] [.pt 5 0]) (.inl q) Tryz.underlying237 Tryz.underlying146 (KeyF.int .u8) q q q q) (Zw q) q ?_))
 obtain ⟨k52, hk52, h⟩ := letkS h
 refine WL.inl (us := [.fn (.func 187) [] []]) (fun rv st' => (k52 () = some r ∧ Le rv (.fn (.func 215) [] [.pt 6 0]) ∧ SLe st' [mpO (fun x : Int => Value.int .u8 x) (fun x : AV => x) [fe 1 214 1, fe 2 214 2, fe 3 214 3, fe 4 215 4, fe 5 215 5], rF 209 181, rF 209 182, rF 209 183, rF 209 185, rF 209 186, rF 209 187])) q q q q q ?_ (Zw q) q q ?_
 refine ctr_intro Tryz.func184 (by kernel_rfl) q q q (fun mm φφ ww hm51 => ?_)
 exact Rcl 2 q (Bx q q q (Rlx 10 q (we_ret (rs1 q (rv_t q)) ⟨h, Zl, ⟨q, Zp, Zp, Zp, Zp, Zp, Zp, Zt⟩⟩)))
 rintro rv st1 ⟨h, hr, hst⟩
 subst hk52
 dsimp only at h
 refine WL.cast 7 q hr (WL.weak hst (WL.s0 (d_mapUpdate (fun x : Int => Value.int .u8 x) (fun x : AV => x) [fe 1 214 1, fe 2 214 2, fe 3 214 3, fe 4 215 4, fe 5 215 5] (u := .fn (.func 215) [] [.pt 6 0]) (.inl q) Tryz.underlying237 Tryz.underlying146 (KeyF.int .u8) q q q q) (Zw q) q ?_))
 obtain ⟨k54, hk54, h⟩ := letkS h
 refine WL.inl (us := [.fn (.func 189) [] []]) (fun rv st' => (k54 () = some r ∧ Le rv (.fn (.func 216) [] [.pt 7 0]) ∧ SLe st' [mpO (fun x : Int => Value.int .u8 x) (fun x : AV => x) [fe 1 214 1, fe 2 214 2, fe 3 214 3, fe 4 215 4, fe 5 215 5, fe 6 215 6], rF 209 181, rF 209 182, rF 209 183, rF 209 185, rF 209 186, rF 209 187, rF 195 189])) q q q q q ?_ (Zw q) q q ?_
 refine ctr_intro Tryz.func188 (by kernel_rfl) q q q (fun mm φφ ww hm53 => ?_)
 exact Rcl 2 q (Bx q q q (Rlx 10 q (we_ret (rs1 q (rv_t q)) ⟨h, Zl, ⟨q, Zp, Zp, Zp, Zp, Zp, Zp, Zp, Zt⟩⟩)))
 rintro rv st1 ⟨h, hr, hst⟩
 subst hk54
 dsimp only at h
 refine WL.cast 8 q hr (WL.weak hst (WL.s0 (d_mapUpdate (fun x : Int => Value.int .u8 x) (fun x : AV => x) [fe 1 214 1, fe 2 214 2, fe 3 214 3, fe 4 215 4, fe 5 215 5, fe 6 215 6] (u := .fn (.func 216) [] [.pt 7 0]) (.inl q) Tryz.underlying237 Tryz.underlying146 (KeyF.int .u8) q q q q) (Zw q) q ?_))
 obtain ⟨k56, hk56, h⟩ := letkS h
 refine WL.inl (us := [.fn (.func 190) [] []]) (fun rv st' => (k56 () = some r ∧ Le rv (.fn (.func 216) [] [.pt 8 0]) ∧ SLe st' [mpO (fun x : Int => Value.int .u8 x) (fun x : AV => x) [fe 1 214 1, fe 2 214 2, fe 3 214 3, fe 4 215 4, fe 5 215 5, fe 6 215 6, fe 7 216 7], rF 209 181, rF 209 182, rF 209 183, rF 209 185, rF 209 186, rF 209 187, rF 195 189, rF 195 190])) q q q q q ?_ (Zw q) q q ?_
 refine ctr_intro Tryz.func188 (by kernel_rfl) q q q (fun mm φφ ww hm55 => ?_)
 exact Rcl 2 q (Bx q q q (Rlx 10 q (we_ret (rs1 q (rv_t q)) ⟨h, Zl, ⟨q, Zp, Zp, Zp, Zp, Zp, Zp, Zp, Zp, Zt⟩⟩)))
 rintro rv st1 ⟨h, hr, hst⟩
 subst hk56
 dsimp only at h
 refine WL.cast 9 q hr (WL.weak hst (WL.s0 (d_mapUpdate (fun x : Int => Value.int .u8 x) (fun x : AV => x) [fe 1 214 1, fe 2 214 2, fe 3 214 3, fe 4 215 4, fe 5 215 5, fe 6 215 6, fe 7 216 7] (u := .fn (.func 216) [] [.pt 8 0]) (.inl q) Tryz.underlying237 Tryz.underlying146 (KeyF.int .u8) q q q q) (Zw q) q ?_))
 obtain ⟨k58, hk58, h⟩ := letkS h
 refine WL.inl (us := [.fn (.func 191) [] []]) (fun rv st' => (k58 () = some r ∧ Le rv (.fn (.func 216) [] [.pt 9 0]) ∧ SLe st' [mpO (fun x : Int => Value.int .u8 x) (fun x : AV => x) [fe 1 214 1, fe 2 214 2, fe 3 214 3, fe 4 215 4, fe 5 215 5, fe 6 215 6, fe 7 216 7, fe 8 216 8], rF 209 181, rF 209 182, rF 209 183, rF 209 185, rF 209 186, rF 209 187, rF 195 189, rF 195 190, rF 195 191])) q q q q q ?_ (Zw q) q q ?_
 refine ctr_intro Tryz.func188 (by kernel_rfl) q q q (fun mm φφ ww hm57 => ?_)
 exact Rcl 2 q (Bx q q q (Rlx 10 q (we_ret (rs1 q (rv_t q)) ⟨h, Zl, ⟨q, Zp, Zp, Zp, Zp, Zp, Zp, Zp, Zp, Zp, Zt⟩⟩)))
 rintro rv st1 ⟨h, hr, hst⟩
 subst hk58
 dsimp only at h
 refine WL.cast 10 q hr (WL.weak hst (WL.s0 (d_mapUpdate (fun x : Int => Value.int .u8 x) (fun x : AV => x) [fe 1 214 1, fe 2 214 2, fe 3 214 3, fe 4 215 4, fe 5 215 5, fe 6 215 6, fe 7 216 7, fe 8 216 8] (u := .fn (.func 216) [] [.pt 9 0]) (.inl q) Tryz.underlying237 Tryz.underlying146 (KeyF.int .u8) q q q q) (Zw q) q ?_))
 obtain ⟨k60, hk60, h⟩ := letkS h
 refine WL.inl (us := [.fn (.func 192) [] []]) (fun rv st' => (k60 () = some r ∧ Le rv (.fn (.func 216) [] [.pt 10 0]) ∧ SLe st' [mpO (fun x : Int => Value.int .u8 x) (fun x : AV => x) [fe 1 214 1, fe 2 214 2, fe 3 214 3, fe 4 215 4, fe 5 215 5, fe 6 215 6, fe 7 216 7, fe 8 216 8, fe 9 216 9], rF 209 181, rF 209 182, rF 209 183, rF 209 185, rF 209 186, rF 209 187, rF 195 189, rF 195 190, rF 195 191, rF 195 192])) q q q q q ?_ (Zw q) q q ?_
 refine ctr_intro Tryz.func188 (by kernel_rfl) q q q (fun mm φφ ww hm59 => ?_)
 exact Rcl 2 q (Bx q q q (Rlx 10 q (we_ret (rs1 q (rv_t q)) ⟨h, Zl, ⟨q, Zp, Zp, Zp, Zp, Zp, Zp, Zp, Zp, Zp, Zp, Zt⟩⟩)))
 rintro rv st1 ⟨h, hr, hst⟩
 subst hk60
 dsimp only at h
 refine WL.cast 11 q hr (WL.weak hst (WL.s0 (d_mapUpdate (fun x : Int => Value.int .u8 x) (fun x : AV => x) [fe 1 214 1, fe 2 214 2, fe 3 214 3, fe 4 215 4, fe 5 215 5, fe 6 215 6, fe 7 216 7, fe 8 216 8, fe 9 216 9] (u := .fn (.func 216) [] [.pt 10 0]) (.inl q) Tryz.underlying237 Tryz.underlying146 (KeyF.int .u8) q q q q) (Zw q) q ?_))
 obtain ⟨k62, hk62, h⟩ := letkS h
 refine WL.inl (us := [.fn (.func 193) [] []]) (fun rv st' => (k62 () = some r ∧ Le rv (.fn (.func 216) [] [.pt 11 0]) ∧ SLe st' [mpO (fun x : Int => Value.int .u8 x) (fun x : AV => x) [fe 1 214 1, fe 2 214 2, fe 3 214 3, fe 4 215 4, fe 5 215 5, fe 6 215 6, fe 7 216 7, fe 8 216 8, fe 9 216 9, fe 10 216 10], rF 209 181, rF 209 182, rF 209 183, rF 209 185, rF 209 186, rF 209 187, rF 195 189, rF 195 190, rF 195 191, rF 195 192, rF 195 193])) q q q q q ?_ (Zw q) q q ?_
 refine ctr_intro Tryz.func188 (by kernel_rfl) q q q (fun mm φφ ww hm61 => ?_)
 exact Rcl 2 q (Bx q q q (Rlx 10 q (we_ret (rs1 q (rv_t q)) ⟨h, Zl, ⟨q, Zp, Zp, Zp, Zp, Zp, Zp, Zp, Zp, Zp, Zp, Zp, Zt⟩⟩)))
 rintro rv st1 ⟨h, hr, hst⟩
 subst hk62
 dsimp only at h
 refine WL.cast 12 q hr (WL.weak hst (WL.s0 (d_mapUpdate (fun x : Int => Value.int .u8 x) (fun x : AV => x) [fe 1 214 1, fe 2 214 2, fe 3 214 3, fe 4 215 4, fe 5 215 5, fe 6 215 6, fe 7 216 7, fe 8 216 8, fe 9 216 9, fe 10 216 10] (u := .fn (.func 216) [] [.pt 11 0]) (.inl q) Tryz.underlying237 Tryz.underlying146 (KeyF.int .u8) q q q q) (Zw q) q ?_))
 obtain ⟨k64, hk64, h⟩ := letkS h
 refine WL.inl (us := [.fn (.func 194) [] []]) (fun rv st' => (k64 () = some r ∧ Le rv (.fn (.func 216) [] [.pt 12 0]) ∧ SLe st' [mpO (fun x : Int => Value.int .u8 x) (fun x : AV => x) [fe 1 214 1, fe 2 214 2, fe 3 214 3, fe 4 215 4, fe 5 215 5, fe 6 215 6, fe 7 216 7, fe 8 216 8, fe 9 216 9, fe 10 216 10, fe 11 216 11], rF 209 181, rF 209 182, rF 209 183, rF 209 185, rF 209 186, rF 209 187, rF 195 189, rF 195 190, rF 195 191, rF 195 192, rF 195 193, rF 195 194])) q q q q q ?_ (Zw q) q q ?_
 refine ctr_intro Tryz.func188 (by kernel_rfl) q q q (fun mm φφ ww hm63 => ?_)
 exact Rcl 2 q (Bx q q q (Rlx 10 q (we_ret (rs1 q (rv_t q)) ⟨h, Zl, ⟨q, Zp, Zp, Zp, Zp, Zp, Zp, Zp, Zp, Zp, Zp, Zp, Zp, Zt⟩⟩)))
 rintro rv st1 ⟨h, hr, hst⟩
 subst hk64
 dsimp only at h
 refine WL.cast 13 q hr (WL.weak hst (WL.s0 (d_mapUpdate (fun x : Int => Value.int .u8 x) (fun x : AV => x) [fe 1 214 1, fe 2 214 2, fe 3 214 3, fe 4 215 4, fe 5 215 5, fe 6 215 6, fe 7 216 7, fe 8 216 8, fe 9 216 9, fe 10 216 10, fe 11 216 11] (u := .fn (.func 216) [] [.pt 12 0]) (.inl q) Tryz.underlying237 Tryz.underlying146 (KeyF.int .u8) q q q q) (Zw q) q ?_))
 obtain ⟨k66, hk66, h⟩ := letkS h
 refine WL.inl (us := [.fn (.func 195) [] []]) (fun rv st' => (k66 () = some r ∧ Le rv (.fn (.func 214) [] [.pt 13 0]) ∧ SLe st' [mpO (fun x : Int => Value.int .u8 x) (fun x : AV => x) [fe 1 214 1, fe 2 214 2, fe 3 214 3, fe 4 215 4, fe 5 215 5, fe 6 215 6, fe 7 216 7, fe 8 216 8, fe 9 216 9, fe 10 216 10, fe 11 216 11, fe 12 216 12], rF 209 181, rF 209 182, rF 209 183, rF 209 185, rF 209 186, rF 209 187, rF 195 189, rF 195 190, rF 195 191, rF 195 192, rF 195 193, rF 195 194, rF 209 195])) q q q q q ?_ (Zw q) q q ?_
 refine ctr_intro Tryz.func180 (by kernel_rfl) q q q (fun mm φφ ww hm65 => ?_)
 exact Rcl 2 q (Bx q q q (Rlx 10 q (we_ret (rs1 q (rv_t q)) ⟨h, Zl, ⟨q, Zp, Zp, Zp, Zp, Zp, Zp, Zp, Zp, Zp, Zp, Zp, Zp, Zp, Zt⟩⟩)))
 rintro rv st1 ⟨h, hr, hst⟩
 subst hk66
 dsimp only at h
 refine WL.cast 14 q hr (WL.weak hst (WL.s0 (d_mapUpdate (fun x : Int => Value.int .u8 x) (fun x : AV => x) [fe 1 214 1, fe 2 214 2, fe 3 214 3, fe 4 215 4, fe 5 215 5, fe 6 215 6, fe 7 216 7, fe 8 216 8, fe 9 216 9, fe 10 216 10, fe 11 216 11, fe 12 216 12] (u := .fn (.func 214) [] [.pt 13 0]) (.inl q) Tryz.underlying237 Tryz.underlying146 (KeyF.int .u8) q q q q) (Zw q) q ?_))
 obtain ⟨k68, hk68, h⟩ := letkS h
 refine WL.inl (us := [.fn (.func 196) [] []]) (fun rv st' => (k68 () = some r ∧ Le rv (.fn (.func 214) [] [.pt 14 0]) ∧ SLe st' [mpO (fun x : Int => Value.int .u8 x) (fun x : AV => x) [fe 1 214 1, fe 2 214 2, fe 3 214 3, fe 4 215 4, fe 5 215 5, fe 6 215 6, fe 7 216 7, fe 8 216 8, fe 9 216 9, fe 10 216 10, fe 11 216 11, fe 12 216 12, fe 13 214 13], rF 209 181, rF 209 182, rF 209 183, rF 209 185, rF 209 186, rF 209 187, rF 195 189, rF 195 190, rF 195 191, rF 195 192, rF 195 193, rF 195 194, rF 209 195, rF 209 196])) q q q q q ?_ (Zw q) q q ?_
 refine ctr_intro Tryz.func180 (by kernel_rfl) q q q (fun mm φφ ww hm67 => ?_)
 exact Rcl 2 q (Bx q q q (Rlx 10 q (we_ret (rs1 q (rv_t q)) ⟨h, Zl, ⟨q, Zp, Zp, Zp, Zp, Zp, Zp, Zp, Zp, Zp, Zp, Zp, Zp, Zp, Zp, Zt⟩⟩)))
 rintro rv st1 ⟨h, hr, hst⟩
 subst hk68
 dsimp only at h
 refine WL.cast 15 q hr (WL.weak hst (WL.s0 (d_mapUpdate (fun x : Int => Value.int .u8 x) (fun x : AV => x) [fe 1 214 1, fe 2 214 2, fe 3 214 3, fe 4 215 4, fe 5 215 5, fe 6 215 6, fe 7 216 7, fe 8 216 8, fe 9 216 9, fe 10 216 10, fe 11 216 11, fe 12 216 12, fe 13 214 13] (u := .fn (.func 214) [] [.pt 14 0]) (.inl q) Tryz.underlying237 Tryz.underlying146 (KeyF.int .u8) q q q q) (Zw q) q ?_))
 obtain ⟨k70, hk70, h⟩ := letkS h
 refine WL.inl (us := [.fn (.func 197) [] []]) (fun rv st' => (k70 () = some r ∧ Le rv (.fn (.func 214) [] [.pt 15 0]) ∧ SLe st' [mpO (fun x : Int => Value.int .u8 x) (fun x : AV => x) [fe 1 214 1, fe 2 214 2, fe 3 214 3, fe 4 215 4, fe 5 215 5, fe 6 215 6, fe 7 216 7, fe 8 216 8, fe 9 216 9, fe 10 216 10, fe 11 216 11, fe 12 216 12, fe 13 214 13, fe 14 214 14], rF 209 181, rF 209 182, rF 209 183, rF 209 185, rF 209 186, rF 209 187, rF 195 189, rF 195 190, rF 195 191, rF 195 192, rF 195 193, rF 195 194, rF 209 195, rF 209 196, rF 209 197])) q q q q q ?_ (Zw q) q q ?_
 refine ctr_intro Tryz.func180 (by kernel_rfl) q q q (fun mm φφ ww hm69 => ?_)
 exact Rcl 2 q (Bx q q q (Rlx 10 q (we_ret (rs1 q (rv_t q)) ⟨h, Zl, ⟨q, Zp, Zp, Zp, Zp, Zp, Zp, Zp, Zp, Zp, Zp, Zp, Zp, Zp, Zp, Zp, Zt⟩⟩)))
 rintro rv st1 ⟨h, hr, hst⟩
 subst hk70
 dsimp only at h
 refine WL.cast 16 q hr (WL.weak hst (WL.s0 (d_mapUpdate (fun x : Int => Value.int .u8 x) (fun x : AV => x) [fe 1 214 1, fe 2 214 2, fe 3 214 3, fe 4 215 4, fe 5 215 5, fe 6 215 6, fe 7 216 7, fe 8 216 8, fe 9 216 9, fe 10 216 10, fe 11 216 11, fe 12 216 12, fe 13 214 13, fe 14 214 14] (u := .fn (.func 214) [] [.pt 15 0]) (.inl q) Tryz.underlying237 Tryz.underlying146 (KeyF.int .u8) q q q q) (Zw q) q ?_))
 obtain ⟨k72, hk72, h⟩ := letkS h
 refine WL.inl (us := [.fn (.func 198) [] []]) (fun rv st' => (k72 () = some r ∧ Le rv (.fn (.func 214) [] [.pt 16 0]) ∧ SLe st' [mpO (fun x : Int => Value.int .u8 x) (fun x : AV => x) [fe 1 214 1, fe 2 214 2, fe 3 214 3, fe 4 215 4, fe 5 215 5, fe 6 215 6, fe 7 216 7, fe 8 216 8, fe 9 216 9, fe 10 216 10, fe 11 216 11, fe 12 216 12, fe 13 214 13, fe 14 214 14, fe 15 214 15], rF 209 181, rF 209 182, rF 209 183, rF 209 185, rF 209 186, rF 209 187, rF 195 189, rF 195 190, rF 195 191, rF 195 192, rF 195 193, rF 195 194, rF 209 195, rF 209 196, rF 209 197, rF 209 198])) q q q q q ?_ (Zw q) q q ?_
 refine ctr_intro Tryz.func180 (by kernel_rfl) q q q (fun mm φφ ww hm71 => ?_)
 exact Rcl 2 q (Bx q q q (Rlx 10 q (we_ret (rs1 q (rv_t q)) ⟨h, Zl, ⟨q, Zp, Zp, Zp, Zp, Zp, Zp, Zp, Zp, Zp, Zp, Zp, Zp, Zp, Zp, Zp, Zp, Zt⟩⟩)))
 rintro rv st1 ⟨h, hr, hst⟩
 subst hk72
 dsimp only at h
 refine WL.cast 17 q hr (WL.weak hst (WL.s0 (d_mapUpdate (fun x : Int => Value.int .u8 x) (fun x : AV => x) [fe 1 214 1, fe 2 214 2, fe 3 214 3, fe 4 215 4, fe 5 215 5, fe 6 215 6, fe 7 216 7, fe 8 216 8, fe 9 216 9, fe 10 216 10, fe 11 216 11, fe 12 216 12, fe 13 214 13, fe 14 214 14, fe 15 214 15] (u := .fn (.func 214) [] [.pt 16 0]) (.inl q) Tryz.underlying237 Tryz.underlying146 (KeyF.int .u8) q q q q) (Zw q) q ?_))
 obtain ⟨k74, hk74, h⟩ := letkS h
 refine WL.inl (us := [.fn (.func 199) [] []]) (fun rv st' => (k74 () = some r ∧ Le rv (.fn (.func 214) [] [.pt 17 0]) ∧ SLe st' [mpO (fun x : Int => Value.int .u8 x) (fun x : AV => x) [fe 1 214 1, fe 2 214 2, fe 3 214 3, fe 4 215 4, fe 5 215 5, fe 6 215 6, fe 7 216 7, fe 8 216 8, fe 9 216 9, fe 10 216 10, fe 11 216 11, fe 12 216 12, fe 13 214 13, fe 14 214 14, fe 15 214 15, fe 16 214 16], rF 209 181, rF 209 182, rF 209 183, rF 209 185, rF 209 186, rF 209 187, rF 195 189, rF 195 190, rF 195 191, rF 195 192, rF 195 193, rF 195 194, rF 209 195, rF 209 196, rF 209 197, rF 209 198, rF 209 199])) q q q q q ?_ (Zw q) q q ?_
 refine ctr_intro Tryz.func180 (by kernel_rfl) q q q (fun mm φφ ww hm73 => ?_)
 exact Rcl 2 q (Bx q q q (Rlx 10 q (we_ret (rs1 q (rv_t q)) ⟨h, Zl, ⟨q, Zp, Zp, Zp, Zp, Zp, Zp, Zp, Zp, Zp, Zp, Zp, Zp, Zp, Zp, Zp, Zp, Zp, Zt⟩⟩)))
 rintro rv st1 ⟨h, hr, hst⟩
 subst hk74
 dsimp only at h
 refine WL.cast 18 q hr (WL.weak hst (WL.s0 (d_mapUpdate (fun x : Int => Value.int .u8 x) (fun x : AV => x) [fe 1 214 1, fe 2 214 2, fe 3 214 3, fe 4 215 4, fe 5 215 5, fe 6 215 6, fe 7 216 7, fe 8 216 8, fe 9 216 9, fe 10 216 10, fe 11 216 11, fe 12 216 12, fe 13 214 13, fe 14 214 14, fe 15 214 15, fe 16 214 16] (u := .fn (.func 214) [] [.pt 17 0]) (.inl q) Tryz.underlying237 Tryz.underlying146 (KeyF.int .u8) q q q q) (Zw q) q ?_))
 obtain ⟨k76, hk76, h⟩ := letkS h
 refine WL.inl (us := [.fn (.func 200) [] []]) (fun rv st' => (k76 () = some r ∧ Le rv (.fn (.func 214) [] [.pt 18 0]) ∧ SLe st' [mpO (fun x : Int => Value.int .u8 x) (fun x : AV => x) [fe 1 214 1, fe 2 214 2, fe 3 214 3, fe 4 215 4, fe 5 215 5, fe 6 215 6, fe 7 216 7, fe 8 216 8, fe 9 216 9, fe 10 216 10, fe 11 216 11, fe 12 216 12, fe 13 214 13, fe 14 214 14, fe 15 214 15, fe 16 214 16, fe 17 214 17], rF 209 181, rF 209 182, rF 209 183, rF 209 185, rF 209 186, rF 209 187, rF 195 189, rF 195 190, rF 195 191, rF 195 192, rF 195 193, rF 195 194, rF 209 195, rF 209 196, rF 209 197, rF 209 198, rF 209 199, rF 209 200])) q q q q q ?_ (Zw q) q q ?_
 refine ctr_intro Tryz.func180 (by kernel_rfl) q q q (fun mm φφ ww hm75 => ?_)
 exact Rcl 2 q (Bx q q q (Rlx 10 q (we_ret (rs1 q (rv_t q)) ⟨h, Zl, ⟨q, Zp, Zp, Zp, Zp, Zp, Zp, Zp, Zp, Zp, Zp, Zp, Zp, Zp, Zp, Zp, Zp, Zp, Zp, Zt⟩⟩)))
 rintro rv st1 ⟨h, hr, hst⟩
 subst hk76
 dsimp only at h
 exact WL.cast 19 q hr (WL.weak hst (WL.s0 (d_mapUpdate (fun x : Int => Value.int .u8 x) (fun x : AV => x) [fe 1 214 1, fe 2 214 2, fe 3 214 3, fe 4 215 4, fe 5 215 5, fe 6 215 6, fe 7 216 7, fe 8 216 8, fe 9 216 9, fe 10 216 10, fe 11 216 11, fe 12 216 12, fe 13 214 13, fe 14 214 14, fe 15 214 15, fe 16 214 16, fe 17 214 17] (u := .fn (.func 214) [] [.pt 18 0]) (.inl q) Tryz.underlying237 Tryz.underlying146 (KeyF.int .u8) q q q q) (Zw q) q (Rl 2 q (Zn (Rcx 1 q (we_ret (rs1 q (rv_t q)) ⟨h, Zl, ⟨q, Zp, Zp, Zp, Zp, Zp, Zp, Zp, Zp, Zp, Zp, Zp, Zp, Zp, Zp, Zp, Zp, Zp, Zp, Zt⟩⟩))))))
 rintro rv st1 ⟨h, hr, hst⟩
 subst hk40
 dsimp only at h
 refine WL.cast 22 q hr (WL.weak hst ?_)
 rcases condCases h with ⟨hk77, h⟩ | ⟨hn78, h⟩
 refine Rl 1 q (Zq (y_lookupok (fun x : Int => Value.int .u8 x) (fun x : AV => x) [fe 1 214 1, fe 2 214 2, fe 3 214 3, fe 4 215 4, fe 5 215 5, fe 6 215 6, fe 7 216 7, fe 8 216 8, fe 9 216 9, fe 10 216 10, fe 11 216 11, fe 12 216 12, fe 13 214 13, fe 14 214 14, fe 15 214 15, fe 16 214 16, fe 17 214 17, fe 18 214 18] (k := op0) (z := .d (.v .nilFunc)) Tryz.underlying237 Tryz.underlying146 (KeyF.int .u8) q q q (by kernel_rfl) q (by rw [hk77] <;> rfl) (by rw [hk77] <;> rfl)) q (Rl 5 q (Zn (Rcc 7 q (wc_false q (Rcc 3 q (WC.weak (st' := [.dead, rF 209 181, .dead, .dead, .dead, .dead, .dead, .dead, .dead, .dead, .dead, .dead, .dead, .dead, .dead, .dead, .dead, .dead, .dead]) ⟨Zt, OLe.refl _, Zt, Zt, Zt, Zt, Zt, Zt, Zt, Zt, Zt, Zt, Zt, Zt, Zt, Zt, Zt, Zt, Zt, Zt⟩ (WC.sub (env' := [(0, .d (D.i .u8 op0)), (1, .n a1), (2, .n b2), (8, .fn (.func 214) [] [.pt 1 0])]) (Sub.one q (Sub.one q (Sub.one q (Sub.one q (Sub.nil _))))) (Rcl 4 q ?_)))))))))
 obtain ⟨k80, hk80, h⟩ := letkS h
 refine WL.inl (us := [.n a1, .n b2, .pt 1 0]) (fun rv st' => (k80 () = some r ∧ Le rv (.tu [.n (f181 a1 b2), .d (D.b true)]) ∧ SLe st' [.dead, rF 209 181, .dead, .dead, .dead, .dead, .dead, .dead, .dead, .dead, .dead, .dead, .dead, .dead, .dead, .dead, .dead, .dead, .dead])) q q q q q ?_ (Zw q) q q ?_
 refine ctr_intro Tryz.func214 (by kernel_rfl) q q q (fun mm φφ ww hm79 => ?_)
 exact Rcl 11 q (WL.fn q q q q (f181_c _ _) ⟨Zl, Zl, Zt⟩ (Zw q) q q (Rlx 5 q (we_ret (rs2 q (rv_t q) (rv_t q)) ⟨h, (Le.tu ⟨Zl, Zl, Zt⟩), ⟨Zt, Zp, Zt, Zt, Zt, Zt, Zt, Zt, Zt, Zt, Zt, Zt, Zt, Zt, Zt, Zt, Zt, Zt, Zt, Zt⟩⟩)))
 rintro rv st1 ⟨h, hr, hst⟩
 subst hk80
 dsimp only at h
 exact WL.cast 32 q hr (WL.weak hst (Rl 4 q (Zn (Rcx 1 q (FA h)))))
 rcases condCases h with ⟨hk81, h⟩ | ⟨hn82, h⟩
 refine Rl 1 q (Zq (y_lookupok (fun x : Int => Value.int .u8 x) (fun x : AV => x) [fe 1 214 1, fe 2 214 2, fe 3 214 3, fe 4 215 4, fe 5 215 5, fe 6 215 6, fe 7 216 7, fe 8 216 8, fe 9 216 9, fe 10 216 10, fe 11 216 11, fe 12 216 12, fe 13 214 13, fe 14 214 14, fe 15 214 15, fe 16 214 16, fe 17 214 17, fe 18 214 18] (k := op0) (z := .d (.v .nilFunc)) Tryz.underlying237 Tryz.underlying146 (KeyF.int .u8) q q q (by kernel_rfl) q (by rw [hk81] <;> rfl) (by rw [hk81] <;> rfl)) q (Rl 5 q (Zn (Rcc 7 q (wc_false q (Rcc 3 q (WC.weak (st' := [.dead, .dead, rF 209 182, .dead, .dead, .dead, .dead, .dead, .dead, .dead, .dead, .dead, .dead, .dead, .dead, .dead, .dead, .dead, .dead]) ⟨Zt, Zt, OLe.refl _, Zt, Zt, Zt, Zt, Zt, Zt, Zt, Zt, Zt, Zt, Zt, Zt, Zt, Zt, Zt, Zt, Zt⟩ (WC.sub (env' := [(0, .d (D.i .u8 op0)), (1, .n a1), (2, .n b2), (8, .fn (.func 214) [] [.pt 2 0])]) (Sub.one q (Sub.one q (Sub.one q (Sub.one q (Sub.nil _))))) (Rcl 4 q ?_)))))))))
 obtain ⟨k84, hk84, h⟩ := letkS h
 refine WL.inl (us := [.n a1, .n b2, .pt 2 0]) (fun rv st' => (k84 () = some r ∧ Le rv (.tu [.n (f182 a1 b2), .d (D.b true)]) ∧ SLe st' [.dead, .dead, rF 209 182, .dead, .dead, .dead, .dead, .dead, .dead, .dead, .dead, .dead, .dead, .dead, .dead, .dead, .dead, .dead, .dead])) q q q q q ?_ (Zw q) q q ?_
 refine ctr_intro Tryz.func214 (by kernel_rfl) q q q (fun mm φφ ww hm83 => ?_)
 exact Rcl 11 q (WL.fn q q q q (f182_c _ _) ⟨Zl, Zl, Zt⟩ (Zw q) q q (Rlx 5 q (we_ret (rs2 q (rv_t q) (rv_t q)) ⟨h, (Le.tu ⟨Zl, Zl, Zt⟩), ⟨Zt, Zt, Zp, Zt, Zt, Zt, Zt, Zt, Zt, Zt, Zt, Zt, Zt, Zt, Zt, Zt, Zt, Zt, Zt, Zt⟩⟩)))
 rintro rv st1 ⟨h, hr, hst⟩
 subst hk84
 dsimp only at h
 exact WL.cast 32 q hr (WL.weak hst (Rl 4 q (Zn (Rcx 1 q (FA h)))))
 rcases condCases h with ⟨hk85, h⟩ | ⟨hn86, h⟩
 refine Rl 1 q (Zq (y_lookupok (fun x : Int => Value.int .u8 x) (fun x : AV => x) [fe 1 214 1, fe 2 214 2, fe 3 214 3, fe 4 215 4, fe 5 215 5, fe 6 215 6, fe 7 216 7, fe 8 216 8, fe 9 216 9, fe 10 216 10, fe 11 216 11, fe 12 216 12, fe 13 214 13, fe 14 214 14, fe 15 214 15, fe 16 214 16, fe 17 214 17, fe 18 214 18] (k := op0) (z := .d (.v .nilFunc)) Tryz.underlying237 Tryz.underlying146 (KeyF.int .u8) q q q (by kernel_rfl) q (by rw [hk85] <;> rfl) (by rw [hk85] <;> rfl)) q (Rl 5 q (Zn (Rcc 7 q (wc_false q (Rcc 3 q (WC.weak (st' := [.dead, .dead, .dead, rF 209 183, .dead, .dead, .dead, .dead, .dead, .dead, .dead, .dead, .dead, .dead, .dead, .dead, .dead, .dead, .dead]) ⟨Zt, Zt, Zt, OLe.refl _, Zt, Zt, Zt, Zt, Zt, Zt, Zt, Zt, Zt, Zt, Zt, Zt, Zt, Zt, Zt, Zt⟩ (WC.sub (env' := [(0, .d (D.i .u8 op0)), (1, .n a1), (2, .n b2), (8, .fn (.func 214) [] [.pt 3 0])]) (Sub.one q (Sub.one q (Sub.one q (Sub.one q (Sub.nil _))))) (Rcl 4 q ?_)))))))))
 obtain ⟨k88, hk88, h⟩ := letkS h
 refine WL.inl (us := [.n a1, .n b2, .pt 3 0]) (fun rv st' => (k88 () = some r ∧ Le rv (.tu [.n (f183 a1 b2), .d (D.b true)]) ∧ SLe st' [.dead, .dead, .dead, rF 209 183, .dead, .dead, .dead, .dead, .dead, .dead, .dead, .dead, .dead, .dead, .dead, .dead, .dead, .dead, .dead])) q q q q q ?_ (Zw q) q q ?_
 refine ctr_intro Tryz.func214 (by kernel_rfl) q q q (fun mm φφ ww hm87 => ?_)
 exact Rcl 11 q (WL.fn q q q q (f183_c _ _) ⟨Zl, Zl, Zt⟩ (Zw q) q q (Rlx 5 q (we_ret (rs2 q (rv_t q) (rv_t q)) ⟨h, (Le.tu ⟨Zl, Zl, Zt⟩), ⟨Zt, Zt, Zt, Zp, Zt, Zt, Zt, Zt, Zt, Zt, Zt, Zt, Zt, Zt, Zt, Zt, Zt, Zt, Zt, Zt⟩⟩)))
 rintro rv st1 ⟨h, hr, hst⟩
 subst hk88
 dsimp only at h
 exact WL.cast 32 q hr (WL.weak hst (Rl 4 q (Zn (Rcx 1 q (FA h)))))
 rcases condCases h with ⟨hk89, h⟩ | ⟨hn90, h⟩
 refine Rl 1 q (Zq (y_lookupok (fun x : Int => Value.int .u8 x) (fun x : AV => x) [fe 1 214 1, fe 2 214 2, fe 3 214 3, fe 4 215 4, fe 5 215 5, fe 6 215 6, fe 7 216 7, fe 8 216 8, fe 9 216 9, fe 10 216 10, fe 11 216 11, fe 12 216 12, fe 13 214 13, fe 14 214 14, fe 15 214 15, fe 16 214 16, fe 17 214 17, fe 18 214 18] (k := op0) (z := .d (.v .nilFunc)) Tryz.underlying237 Tryz.underlying146 (KeyF.int .u8) q q q (by kernel_rfl) q (by rw [hk89] <;> rfl) (by rw [hk89] <;> rfl)) q (Rl 5 q (Zn (Rcc 7 q (wc_false q (Rcc 3 q (WC.weak (st' := [.dead, .dead, .dead, .dead, rF 209 185, .dead, .dead, .dead, .dead, .dead, .dead, .dead, .dead, .dead, .dead, .dead, .dead, .dead, .dead]) ⟨Zt, Zt, Zt, Zt, OLe.refl _, Zt, Zt, Zt, Zt, Zt, Zt, Zt, Zt, Zt, Zt, Zt, Zt, Zt, Zt, Zt⟩ (WC.sub (env' := [(0, .d (D.i .u8 op0)), (1, .n a1), (2, .n b2), (8, .fn (.func 215) [] [.pt 4 0])]) (Sub.one q (Sub.one q (Sub.one q (Sub.one q (Sub.nil _))))) (Rcl 4 q ?_)))))))))
 obtain ⟨k94, hk94, h⟩ := letkS h
 refine WL.inl (us := [.n a1, .n b2, .pt 4 0]) (fun rv st' => (∃ (t92 : Bool), ∃ (t93 : Int), k94 t92 t93 = some r ∧ Le rv (.tu [.n t93, .d (D.b t92)]) ∧ SLe st' [.dead, .dead, .dead, .dead, rF 209 185, .dead, .dead, .dead, .dead, .dead, .dead, .dead, .dead, .dead, .dead, .dead, .dead, .dead, .dead])) q q q q q ?_ (Zw q) q q ?_
 refine ctr_intro Tryz.func215 (by kernel_rfl) q q q (fun mm φφ ww hm91 => ?_)
 refine Rcc 13 q (Ci h q (fun h => ?_) (fun h => ?_))
 exact Rcx 8 q (we_ret (rs2 q (rv_t q) (rv_t q)) ⟨false, 0, h, (Le.tu ⟨Zl, Zl, Zt⟩), ⟨Zt, Zt, Zt, Zt, Zp, Zt, Zt, Zt, Zt, Zt, Zt, Zt, Zt, Zt, Zt, Zt, Zt, Zt, Zt, Zt⟩⟩)
 refine Rcl 7 q ?_
 obtain ⟨r95, hr95, h⟩ := bindS h
 exact WL.fn q q q q (f185_c _ _ hr95) ⟨Zl, Zl, Zt⟩ (Zw q) q q (Rlx 5 q (we_ret (rs2 q (rv_t q) (rv_t q)) ⟨true, r95, h, (Le.tu ⟨Zl, Zl, Zt⟩), ⟨Zt, Zt, Zt, Zt, Zp, Zt, Zt, Zt, Zt, Zt, Zt, Zt, Zt, Zt, Zt, Zt, Zt, Zt, Zt, Zt⟩⟩))
 rintro rv st1 ⟨t92, t93, h, hr, hst⟩
 subst hk94
 dsimp only at h
 exact WL.cast 32 q hr (WL.weak hst (Rl 4 q (Zn (Rcx 1 q (FA h)))))
 rcases condCases h with ⟨hk96, h⟩ | ⟨hn97, h⟩
 refine Rl 1 q (Zq (y_lookupok (fun x : Int => Value.int .u8 x) (fun x : AV => x) [fe 1 214 1, fe 2 214 2, fe 3 214 3, fe 4 215 4, fe 5 215 5, fe 6 215 6, fe 7 216 7, fe 8 216 8, fe 9 216 9, fe 10 216 10, fe 11 216 11, fe 12 216 12, fe 13 214 13, fe 14 214 14, fe 15 214 15, fe 16 214 16, fe 17 214 17, fe 18 214 18] (k := op0) (z := .d (.v .nilFunc)) Tryz.underlying237 Tryz.underlying146 (KeyF.int .u8) q q q (by kernel_rfl) q (by rw [hk96] <;> rfl) (by rw [hk96] <;> rfl)) q (Rl 5 q (Zn (Rcc 7 q (wc_false q (Rcc 3 q (WC.weak (st' := [.dead, .dead, .dead, .dead, .dead, rF 209 186, .dead, .dead, .dead, .dead, .dead, .dead, .dead, .dead, .dead, .dead, .dead, .dead, .dead]) ⟨Zt, Zt, Zt, Zt, Zt, OLe.refl _, Zt, Zt, Zt, Zt, Zt, Zt, Zt, Zt, Zt, Zt, Zt, Zt, Zt, Zt⟩ (WC.sub (env' := [(0, .d (D.i .u8 op0)), (1, .n a1), (2, .n b2), (8, .fn (.func 215) [] [.pt 5 0])]) (Sub.one q (Sub.one q (Sub.one q (Sub.one q (Sub.nil _))))) (Rcl 4 q ?_)))))))))
 obtain ⟨k101, hk101, h⟩ := letkS h
 refine WL.inl (us := [.n a1, .n b2, .pt 5 0]) (fun rv st' => (∃ (t99 : Bool), ∃ (t100 : Int), k101 t99 t100 = some r ∧ Le rv (.tu [.n t100, .d (D.b t99)]) ∧ SLe st' [.dead, .dead, .dead, .dead, .dead, rF 209 186, .dead, .dead, .dead, .dead, .dead, .dead, .dead, .dead, .dead, .dead, .dead, .dead, .dead])) q q q q q ?_ (Zw q) q q ?_
 refine ctr_intro Tryz.func215 (by kernel_rfl) q q q (fun mm φφ ww hm98 => ?_)
 refine Rcc 13 q (Ci h q (fun h => ?_) (fun h => ?_))
 exact Rcx 8 q (we_ret (rs2 q (rv_t q) (rv_t q)) ⟨false, 0, h, (Le.tu ⟨Zl, Zl, Zt⟩), ⟨Zt, Zt, Zt, Zt, Zt, Zp, Zt, Zt, Zt, Zt, Zt, Zt, Zt, Zt, Zt, Zt, Zt, Zt, Zt, Zt⟩⟩)
 refine Rcl 7 q ?_
 obtain ⟨r102, hr102, h⟩ := bindS h
 exact WL.fn q q q q (f186_c _ _ hr102) ⟨Zl, Zl, Zt⟩ (Zw q) q q (Rlx 5 q (we_ret (rs2 q (rv_t q) (rv_t q)) ⟨true, r102, h, (Le.tu ⟨Zl, Zl, Zt⟩), ⟨Zt, Zt, Zt, Zt, Zt, Zp, Zt, Zt, Zt, Zt, Zt, Zt, Zt, Zt, Zt, Zt, Zt, Zt, Zt, Zt⟩⟩))
 rintro rv st1 ⟨t99, t100, h, hr, hst⟩
 subst hk101
 dsimp only at h
 exact WL.cast 32 q hr (WL.weak hst (Rl 4 q (Zn (Rcx 1 q (FA h)))))
 rcases condCases h with ⟨hk103, h⟩ | ⟨hn104, h⟩
 refine Rl 1 q (Zq (y_lookupok (fun x : Int => Value.int .u8 x) (fun x : AV => x) [fe 1 214 1, fe 2 214 2, fe 3 214 3, fe 4 215 4, fe 5 215 5, fe 6 215 6, fe 7 216 7, fe 8 216 8, fe 9 216 9, fe 10 216 10, fe 11 216 11, fe 12 216 12, fe 13 214 13, fe 14 214 14, fe 15 214 15, fe 16 214 16, fe 17 214 17, fe 18 214 18] (k := op0) (z := .d (.v .nilFunc)) Tryz.underlying237 Tryz.underlying146 (KeyF.int .u8) q q q (by kernel_rfl) q (by rw [hk103] <;> rfl) (by rw [hk103] <;> rfl)) q (Rl 5 q (Zn (Rcc 7 q (wc_false q (Rcc 3 q (WC.weak (st' := [.dead, .dead, .dead, .dead, .dead, .dead, rF 209 187, .dead, .dead, .dead, .dead, .dead, .dead, .dead, .dead, .dead, .dead, .dead, .dead]) ⟨Zt, Zt, Zt, Zt, Zt, Zt, OLe.refl _, Zt, Zt, Zt, Zt, Zt, Zt, Zt, Zt, Zt, Zt, Zt, Zt, Zt⟩ (WC.sub (env' := [(0, .d (D.i .u8 op0)), (1, .n a1), (2, .n b2), (8, .fn (.func 215) [] [.pt 6 0])]) (Sub.one q (Sub.one q (Sub.one q (Sub.one q (Sub.nil _))))) (Rcl 4 q ?_)))))))))
 obtain ⟨k108, hk108, h⟩ := letkS h
 refine WL.inl (us := [.n a1, .n b2, .pt 6 0]) (fun rv st' => (∃ (t106 : Bool), ∃ (t107 : Int), k108 t106 t107 = some r ∧ Le rv (.tu [.n t107, .d (D.b t106)]) ∧ SLe st' [.dead, .dead, .dead, .dead, .dead, .dead, rF 209 187, .dead, .dead, .dead, .dead, .dead, .dead, .dead, .dead, .dead, .dead, .dead, .dead])) q q q q q ?_ (Zw q) q q ?_
 refine ctr_intro Tryz.func215 (by kernel_rfl) q q q (fun mm φφ ww hm105 => ?_)
 refine Rcc 13 q (Ci h q (fun h => ?_) (fun h => ?_))
 exact Rcx 8 q (we_ret (rs2 q (rv_t q) (rv_t q)) ⟨false, 0, h, (Le.tu ⟨Zl, Zl, Zt⟩), ⟨Zt, Zt, Zt, Zt, Zt, Zt, Zp, Zt, Zt, Zt, Zt, Zt, Zt, Zt, Zt, Zt, Zt, Zt, Zt, Zt⟩⟩)
 refine Rcl 7 q ?_
 obtain ⟨r109, hr109, h⟩ := bindS h
 exact WL.fn q q q q (f187_c _ _ hr109) ⟨Zl, Zl, Zt⟩ (Zw q) q q (Rlx 5 q (we_ret (rs2 q (rv_t q) (rv_t q)) ⟨true, r109, h, (Le.tu ⟨Zl, Zl, Zt⟩), ⟨Zt, Zt, Zt, Zt, Zt, Zt, Zp, Zt, Zt, Zt, Zt, Zt, Zt, Zt, Zt, Zt, Zt, Zt, Zt, Zt⟩⟩))
 rintro rv st1 ⟨t106, t107, h, hr, hst⟩
 subst hk108
 dsimp only at h
 exact WL.cast 32 q hr (WL.weak hst (Rl 4 q (Zn (Rcx 1 q (FA h)))))
 rcases condCases h with ⟨hk110, h⟩ | ⟨hn111, h⟩
 refine Rl 1 q (Zq (y_lookupok (fun x : Int => Value.int .u8 x) (fun x : AV => x) [fe 1 214 1, fe 2 214 2, fe 3 214 3, fe 4 215 4, fe 5 215 5, fe 6 215 6, fe 7 216 7, fe 8 216 8, fe 9 216 9, fe 10 216 10, fe 11 216 11, fe 12 216 12, fe 13 214 13, fe 14 214 14, fe 15 214 15, fe 16 214 16, fe 17 214 17, fe 18 214 18] (k := op0) (z := .d (.v .nilFunc)) Tryz.underlying237 Tryz.underlying146 (KeyF.int .u8) q q q (by kernel_rfl) q (by rw [hk110] <;> rfl) (by rw [hk110] <;> rfl)) q (Rl 5 q (Zn (Rcc 7 q (wc_false q (Rcc 3 q (WC.weak (st' := [.dead, .dead, .dead, .dead, .dead, .dead, .dead, rF 195 189, .dead, .dead, .dead, .dead, .dead, .dead, .dead, .dead, .dead, .dead, .dead]) ⟨Zt, Zt, Zt, Zt, Zt, Zt, Zt, OLe.refl _, Zt, Zt, Zt, Zt, Zt, Zt, Zt, Zt, Zt, Zt, Zt, Zt⟩ (WC.sub (env' := [(0, .d (D.i .u8 op0)), (1, .n a1), (2, .n b2), (8, .fn (.func 216) [] [.pt 7 0])]) (Sub.one q (Sub.one q (Sub.one q (Sub.one q (Sub.nil _))))) (Rcl 4 q ?_)))))))))
 obtain ⟨k113, hk113, h⟩ := letkS h
 refine WL.inl (us := [.n a1, .n b2, .pt 7 0]) (fun rv st' => (k113 () = some r ∧ Le rv (.tu [.n (f217 (f189 a1 b2)), .d (D.b true)]) ∧ SLe st' [.dead, .dead, .dead, .dead, .dead, .dead, .dead, rF 195 189, .dead, .dead, .dead, .dead, .dead, .dead, .dead, .dead, .dead, .dead, .dead])) q q q q q ?_ (Zw q) q q ?_
 refine ctr_intro Tryz.func216 (by kernel_rfl) q q q (fun mm φφ ww hm112 => ?_)
 exact Rcl 11 q (WL.fn q q q q (f189_c _ _) ⟨Zl, Zl, Zt⟩ (Zw q) q q (WL.fn q q q q (f217_c _) ⟨Zl, Zt⟩ (Zw q) q q (Rlx 5 q (we_ret (rs2 q (rv_t q) (rv_t q)) ⟨h, (Le.tu ⟨Zl, Zl, Zt⟩), ⟨Zt, Zt, Zt, Zt, Zt, Zt, Zt, Zp, Zt, Zt, Zt, Zt, Zt, Zt, Zt, Zt, Zt, Zt, Zt, Zt⟩⟩))))
 rintro rv st1 ⟨h, hr, hst⟩
 subst hk113
 dsimp only at h
 exact WL.cast 32 q hr (WL.weak hst (Rl 4 q (Zn (Rcx 1 q (FA h)))))
 rcases condCases h with ⟨hk114, h⟩ | ⟨hn115, h⟩
 refine Rl 1 q (Zq (y_lookupok (fun x : Int => Value.int .u8 x) (fun x : AV => x) [fe 1 214 1, fe 2 214 2, fe 3 214 3, fe 4 215 4, fe 5 215 5, fe 6 215 6, fe 7 216 7, fe 8 216 8, fe 9 216 9, fe 10 216 10, fe 11 216 11, fe 12 216 12, fe 13 214 13, fe 14 214 14, fe 15 214 15, fe 16 214 16, fe 17 214 17, fe 18 214 18] (k := op0) (z := .d (.v .nilFunc)) Tryz.underlying237 Tryz.underlying146 (KeyF.int .u8) q q q (by kernel_rfl) q (by rw [hk114] <;> rfl) (by rw [hk114] <;> rfl)) q (Rl 5 q (Zn (Rcc 7 q (wc_false q (Rcc 3 q (WC.weak (st' := [.dead, .dead, .dead, .dead, .dead, .dead, .dead, .dead, rF 195 190, .dead, .dead, .dead, .dead, .dead, .dead, .dead, .dead, .dead, .dead]) ⟨Zt, Zt, Zt, Zt, Zt, Zt, Zt, Zt, OLe.refl _, Zt, Zt, Zt, Zt, Zt, Zt, Zt, Zt, Zt, Zt, Zt⟩ (WC.sub (env' := [(0, .d (D.i .u8 op0)), (1, .n a1), (2, .n b2), (8, .fn (.func 216) [] [.pt 8 0])]) (Sub.one q (Sub.one q (Sub.one q (Sub.one q (Sub.nil _))))) (Rcl 4 q ?_)))))))))
 obtain ⟨k117, hk117, h⟩ := letkS h
 refine WL.inl (us := [.n a1, .n b2, .pt 8 0]) (fun rv st' => (k117 () = some r ∧ Le rv (.tu [.n (f217 (f190 a1 b2)), .d (D.b true)]) ∧ SLe st' [.dead, .dead, .dead, .dead, .dead, .dead, .dead, .dead, rF 195 190, .dead, .dead, .dead, .dead, .dead, .dead, .dead, .dead, .dead, .dead])) q q q q q ?_ (Zw q) q q ?_
 refine ctr_intro Tryz.func216 (by kernel_rfl) q q q (fun mm φφ ww hm116 => ?_)
 exact Rcl 11 q (WL.fn q q q q (f190_c _ _) ⟨Zl, Zl, Zt⟩ (Zw q) q q (WL.fn q q q q (f217_c _) ⟨Zl, Zt⟩ (Zw q) q q (Rlx 5 q (we_ret (rs2 q (rv_t q) (rv_t q)) ⟨h, (Le.tu ⟨Zl, Zl, Zt⟩), ⟨Zt, Zt, Zt, Zt, Zt, Zt, Zt, Zt, Zp, Zt, Zt, Zt, Zt, Zt, Zt, Zt, Zt, Zt, Zt, Zt⟩⟩))))
 rintro rv st1 ⟨h, hr, hst⟩
 subst hk117
 dsimp only at h
 exact WL.cast 32 q hr (WL.weak hst (Rl 4 q (Zn (Rcx 1 q (FA h)))))
 rcases condCases h with ⟨hk118, h⟩ | ⟨hn119, h⟩
 refine Rl 1 q (Zq (y_lookupok (fun x : Int => Value.int .u8 x) (fun x : AV => x) [fe 1 214 1, fe 2 214 2, fe 3 214 3, fe 4 215 4, fe 5 215 5, fe 6 215 6, fe 7 216 7, fe 8 216 8, fe 9 216 9, fe 10 216 10, fe 11 216 11, fe 12 216 12, fe 13 214 13, fe 14 214 14, fe 15 214 15, fe 16 214 16, fe 17 214 17, fe 18 214 18] (k := op0) (z := .d (.v .nilFunc)) Tryz.underlying237 Tryz.underlying146 (KeyF.int .u8) q q q (by kernel_rfl) q (by rw [hk118] <;> rfl) (by rw [hk118] <;> rfl)) q (Rl 5 q (Zn (Rcc 7 q (wc_false q (Rcc 3 q (WC.weak (st' := [.dead, .dead, .dead, .dead, .dead, .dead, .dead, .dead, .dead, rF 195 191, .dead, .dead, .dead, .dead, .dead, .dead, .dead, .dead, .dead]) ⟨Zt, Zt, Zt, Zt, Zt, Zt, Zt, Zt, Zt, OLe.refl _, Zt, Zt, Zt, Zt, Zt, Zt, Zt, Zt, Zt, Zt⟩ (WC.sub (env' := [(0, .d (D.i .u8 op0)), (1, .n a1), (2, .n b2), (8, .fn (.func 216) [] [.pt 9 0])]) (Sub.one q (Sub.one q (Sub.one q (Sub.one q (Sub.nil _))))) (Rcl 4 q ?_)))))))))
 obtain ⟨k121, hk121, h⟩ := letkS h
 refine WL.inl (us := [.n a1, .n b2, .pt 9 0]) (fun rv st' => (k121 () = some r ∧ Le rv (.tu [.n (f217 (f191 a1 b2)), .d (D.b true)]) ∧ SLe st' [.dead, .dead, .dead, .dead, .dead, .dead, .dead, .dead, .dead, rF 195 191, .dead, .dead, .dead, .dead, .dead, .dead, .dead, .dead, .dead])) q q q q q ?_ (Zw q) q q ?_
 refine ctr_intro Tryz.func216 (by kernel_rfl) q q q (fun mm φφ ww hm120 => ?_)
 exact Rcl 11 q (WL.fn q q q q (f191_c _ _) ⟨Zl, Zl, Zt⟩ (Zw q) q q (WL.fn q q q q (f217_c _) ⟨Zl, Zt⟩ (Zw q) q q (Rlx 5 q (we_ret (rs2 q (rv_t q) (rv_t q)) ⟨h, (Le.tu ⟨Zl, Zl, Zt⟩), ⟨Zt, Zt, Zt, Zt, Zt, Zt, Zt, Zt, Zt, Zp, Zt, Zt, Zt, Zt, Zt, Zt, Zt, Zt, Zt, Zt⟩⟩))))
 rintro rv st1 ⟨h, hr, hst⟩
 subst hk121
 dsimp only at h
 exact WL.cast 32 q hr (WL.weak hst (Rl 4 q (Zn (Rcx 1 q (FA h)))))
 rcases condCases h with ⟨hk122, h⟩ | ⟨hn123, h⟩
 refine Rl 1 q (Zq (y_lookupok (fun x : Int => Value.int .u8 x) (fun x : AV => x) [fe 1 214 1, fe 2 214 2, fe 3 214 3, fe 4 215 4, fe 5 215 5, fe 6 215 6, fe 7 216 7, fe 8 216 8, fe 9 216 9, fe 10 216 10, fe 11 216 11, fe 12 216 12, fe 13 214 13, fe 14 214 14, fe 15 214 15, fe 16 214 16, fe 17 214 17, fe 18 214 18] (k := op0) (z := .d (.v .nilFunc)) Tryz.underlying237 Tryz.underlying146 (KeyF.int .u8) q q q (by kernel_rfl) q (by rw [hk122] <;> rfl) (by rw [hk122] <;> rfl)) q (Rl 5 q (Zn (Rcc 7 q (wc_false q (Rcc 3 q (WC.weak (st' := [.dead, .dead, .dead, .dead, .dead, .dead, .dead, .dead, .dead, .dead, rF 195 192, .dead, .dead, .dead, .dead, .dead, .dead, .dead, .dead]) ⟨Zt, Zt, Zt, Zt, Zt, Zt, Zt, Zt, Zt, Zt, OLe.refl _, Zt, Zt, Zt, Zt, Zt, Zt, Zt, Zt, Zt⟩ (WC.sub (env' := [(0, .d (D.i .u8 op0)), (1, .n a1), (2, .n b2), (8, .fn (.func 216) [] [.pt 10 0])]) (Sub.one q (Sub.one q (Sub.one q (Sub.one q (Sub.nil _))))) (Rcl 4 q ?_)))))))))
 obtain ⟨k125, hk125, h⟩ := letkS h
 refine WL.inl (us := [.n a1, .n b2, .pt 10 0]) (fun rv st' => (k125 () = some r ∧ Le rv (.tu [.n (f217 (f192 a1 b2)), .d (D.b true)]) ∧ SLe st' [.dead, .dead, .dead, .dead, .dead, .dead, .dead, .dead, .dead, .dead, rF 195 192, .dead, .dead, .dead, .dead, .dead, .dead, .dead, .dead])) q q q q q ?_ (Zw q) q q ?_
 refine ctr_intro Tryz.func216 (by kernel_rfl) q q q (fun mm φφ ww hm124 => ?_)
 exact Rcl 11 q (WL.fn q q q q (f192_c _ _) ⟨Zl, Zl, Zt⟩ (Zw q) q q (WL.fn q q q q (f217_c _) ⟨Zl, Zt⟩ (Zw q) q q (Rlx 5 q (we_ret (rs2 q (rv_t q) (rv_t q)) ⟨h, (Le.tu ⟨Zl, Zl, Zt⟩), ⟨Zt, Zt, Zt, Zt, Zt, Zt, Zt, Zt, Zt, Zt, Zp, Zt, Zt, Zt, Zt, Zt, Zt, Zt, Zt, Zt⟩⟩))))
 rintro rv st1 ⟨h, hr, hst⟩
 subst hk125
 dsimp only at h
 exact WL.cast 32 q hr (WL.weak hst (Rl 4 q (Zn (Rcx 1 q (FA h)))))
 rcases condCases h with ⟨hk126, h⟩ | ⟨hn127, h⟩
 refine Rl 1 q (Zq (y_lookupok (fun x : Int => Value.int .u8 x) (fun x : AV => x) [fe 1 214 1, fe 2 214 2, fe 3 214 3, fe 4 215 4, fe 5 215 5, fe 6 215 6, fe 7 216 7, fe 8 216 8, fe 9 216 9, fe 10 216 10, fe 11 216 11, fe 12 216 12, fe 13 214 13, fe 14 214 14, fe 15 214 15, fe 16 214 16, fe 17 214 17, fe 18 214 18] (k := op0) (z := .d (.v .nilFunc)) Tryz.underlying237 Tryz.underlying146 (KeyF.int .u8) q q q (by kernel_rfl) q (by rw [hk126] <;> rfl) (by rw [hk126] <;> rfl)) q (Rl 5 q (Zn (Rcc 7 q (wc_false q (Rcc 3 q (WC.weak (st' := [.dead, .dead, .dead, .dead, .dead, .dead, .dead, .dead, .dead, .dead, .dead, rF 195 193, .dead, .dead, .dead, .dead, .dead, .dead, .dead]) ⟨Zt, Zt, Zt, Zt, Zt, Zt, Zt, Zt, Zt, Zt, Zt, OLe.refl _, Zt, Zt, Zt, Zt, Zt, Zt, Zt, Zt⟩ (WC.sub (env' := [(0, .d (D.i .u8 op0)), (1, .n a1), (2, .n b2), (8, .fn (.func 216) [] [.pt 11 0])]) (Sub.one q (Sub.one q (Sub.one q (Sub.one q (Sub.nil _))))) (Rcl 4 q ?_)))))))))
 obtain ⟨k129, hk129, h⟩ := letkS h
 refine WL.inl (us := [.n a1, .n b2, .pt 11 0]) (fun rv st' => (k129 () = some r ∧ Le rv (.tu [.n (f217 (f193 a1 b2)), .d (D.b true)]) ∧ SLe st' [.dead, .dead, .dead, .dead, .dead, .dead, .dead, .dead, .dead, .dead, .dead, rF 195 193, .dead, .dead, .dead, .dead, .dead, .dead, .dead])) q q q q q ?_ (Zw q) q q ?_
 refine ctr_intro Tryz.func216 (by kernel_rfl) q q q (fun mm φφ ww hm128 => ?_)
 exact Rcl 11 q (WL.fn q q q q (f193_c _ _) ⟨Zl, Zl, Zt⟩ (Zw q) q q (WL.fn q q q q (f217_c _) ⟨Zl, Zt⟩ (Zw q) q q (Rlx 5 q (we_ret (rs2 q (rv_t q) (rv_t q)) ⟨h, (Le.tu ⟨Zl, Zl, Zt⟩), ⟨Zt, Zt, Zt, Zt, Zt, Zt, Zt, Zt, Zt, Zt, Zt, Zp, Zt, Zt, Zt, Zt, Zt, Zt, Zt, Zt⟩⟩))))
 rintro rv st1 ⟨h, hr, hst⟩
 subst hk129
 dsimp only at h
 exact WL.cast 32 q hr (WL.weak hst (Rl 4 q (Zn (Rcx 1 q (FA h)))))
 rcases condCases h with ⟨hk130, h⟩ | ⟨hn131, h⟩
 refine Rl 1 q (Zq (y_lookupok (fun x : Int => Value.int .u8 x) (fun x : AV => x) [fe 1 214 1, fe 2 214 2, fe 3 214 3, fe 4 215 4, fe 5 215 5, fe 6 215 6, fe 7 216 7, fe 8 216 8, fe 9 216 9, fe 10 216 10, fe 11 216 11, fe 12 216 12, fe 13 214 13, fe 14 214 14, fe 15 214 15, fe 16 214 16, fe 17 214 17, fe 18 214 18] (k := op0) (z := .d (.v .nilFunc)) Tryz.underlying237 Tryz.underlying146 (KeyF.int .u8) q q q (by kernel_rfl) q (by rw [hk130] <;> rfl) (by rw [hk130] <;> rfl)) q (Rl 5 q (Zn (Rcc 7 q (wc_false q (Rcc 3 q (WC.weak (st' := [.dead, .dead, .dead, .dead, .dead, .dead, .dead, .dead, .dead, .dead, .dead, .dead, rF 195 194, .dead, .dead, .dead, .dead, .dead, .dead]) ⟨Zt, Zt, Zt, Zt, Zt, Zt, Zt, Zt, Zt, Zt, Zt, Zt, OLe.refl _, Zt, Zt, Zt, Zt, Zt, Zt, Zt⟩ (WC.sub (env' := [(0, .d (D.i .u8 op0)), (1, .n a1), (2, .n b2), (8, .fn (.func 216) [] [.pt 12 0])]) (Sub.one q (Sub.one q (Sub.one q (Sub.one q (Sub.nil _))))) (Rcl 4 q ?_)))))))))
 obtain ⟨k133, hk133, h⟩ := letkS h
 refine WL.inl (us := [.n a1, .n b2, .pt 12 0]) (fun rv st' => (k133 () = some r ∧ Le rv (.tu [.n (f217 (f194 a1 b2)), .d (D.b true)]) ∧ SLe st' [.dead, .dead, .dead, .dead, .dead, .dead, .dead, .dead, .dead, .dead, .dead, .dead, rF 195 194, .dead, .dead, .dead, .dead, .dead, .dead])) q q q q q ?_ (Zw q) q q ?_
 refine ctr_intro Tryz.func216 (by kernel_rfl) q q q (fun mm φφ ww hm132 => ?_)
 exact Rcl 11 q (WL.fn q q q q (f194_c _ _) ⟨Zl, Zl, Zt⟩ (Zw q) q q (WL.fn q q q q (f217_c _) ⟨Zl, Zt⟩ (Zw q) q q (Rlx 5 q (we_ret (rs2 q (rv_t q) (rv_t q)) ⟨h, (Le.tu ⟨Zl, Zl, Zt⟩), ⟨Zt, Zt, Zt, Zt, Zt, Zt, Zt, Zt, Zt, Zt, Zt, Zt, Zp, Zt, Zt, Zt, Zt, Zt, Zt, Zt⟩⟩))))
 rintro rv st1 ⟨h, hr, hst⟩
 subst hk133
 dsimp only at h
 exact WL.cast 32 q hr (WL.weak hst (Rl 4 q (Zn (Rcx 1 q (FA h)))))
 rcases condCases h with ⟨hk134, h⟩ | ⟨hn135, h⟩
 refine Rl 1 q (Zq (y_lookupok (fun x : Int => Value.int .u8 x) (fun x : AV => x) [fe 1 214 1, fe 2 214 2, fe 3 214 3, fe 4 215 4, fe 5 215 5, fe 6 215 6, fe 7 216 7, fe 8 216 8, fe 9 216 9, fe 10 216 10, fe 11 216 11, fe 12 216 12, fe 13 214 13, fe 14 214 14, fe 15 214 15, fe 16 214 16, fe 17 214 17, fe 18 214 18] (k := op0) (z := .d (.v .nilFunc)) Tryz.underlying237 Tryz.underlying146 (KeyF.int .u8) q q q (by kernel_rfl) q (by rw [hk134] <;> rfl) (by rw [hk134] <;> rfl)) q (Rl 5 q (Zn (Rcc 7 q (wc_false q (Rcc 3 q (WC.weak (st' := [.dead, .dead, .dead, .dead, .dead, .dead, .dead, .dead, .dead, .dead, .dead, .dead, .dead, rF 209 195, .dead, .dead, .dead, .dead, .dead]) ⟨Zt, Zt, Zt, Zt, Zt, Zt, Zt, Zt, Zt, Zt, Zt, Zt, Zt, OLe.refl _, Zt, Zt, Zt, Zt, Zt, Zt⟩ (WC.sub (env' := [(0, .d (D.i .u8 op0)), (1, .n a1), (2, .n b2), (8, .fn (.func 214) [] [.pt 13 0])]) (Sub.one q (Sub.one q (Sub.one q (Sub.one q (Sub.nil _))))) (Rcl 4 q ?_)))))))))
 obtain ⟨k137, hk137, h⟩ := letkS h
 refine WL.inl (us := [.n a1, .n b2, .pt 13 0]) (fun rv st' => (k137 () = some r ∧ Le rv (.tu [.n (f195 a1 b2), .d (D.b true)]) ∧ SLe st' [.dead, .dead, .dead, .dead, .dead, .dead, .dead, .dead, .dead, .dead, .dead, .dead, .dead, rF 209 195, .dead, .dead, .dead, .dead, .dead])) q q q q q ?_ (Zw q) q q ?_
 refine ctr_intro Tryz.func214 (by kernel_rfl) q q q (fun mm φφ ww hm136 => ?_)
 exact Rcl 11 q (WL.fn q q q q (f195_c _ _) ⟨Zl, Zl, Zt⟩ (Zw q) q q (Rlx 5 q (we_ret (rs2 q (rv_t q) (rv_t q)) ⟨h, (Le.tu ⟨Zl, Zl, Zt⟩), ⟨Zt, Zt, Zt, Zt, Zt, Zt, Zt, Zt, Zt, Zt, Zt, Zt, Zt, Zp, Zt, Zt, Zt, Zt, Zt, Zt⟩⟩)))
 rintro rv st1 ⟨h, hr, hst⟩
 subst hk137
 dsimp only at h
 exact WL.cast 32 q hr (WL.weak hst (Rl 4 q (Zn (Rcx 1 q (FA h)))))
 rcases condCases h with ⟨hk138, h⟩ | ⟨hn139, h⟩
 refine Rl 1 q (Zq (y_lookupok (fun x : Int => Value.int .u8 x) (fun x : AV => x) [fe 1 214 1, fe 2 214 2, fe 3 214 3, fe 4 215 4, fe 5 215 5, fe 6 215 6, fe 7 216 7, fe 8 216 8, fe 9 216 9, fe 10 216 10, fe 11 216 11, fe 12 216 12, fe 13 214 13, fe 14 214 14, fe 15 214 15, fe 16 214 16, fe 17 214 17, fe 18 214 18] (k := op0) (z := .d (.v .nilFunc)) Tryz.underlying237 Tryz.underlying146 (KeyF.int .u8) q q q (by kernel_rfl) q (by rw [hk138] <;> rfl) (by rw [hk138] <;> rfl)) q (Rl 5 q (Zn (Rcc 7 q (wc_false q (Rcc 3 q (WC.weak (st' := [.dead, .dead, .dead, .dead, .dead, .dead, .dead, .dead, .dead, .dead, .dead, .dead, .dead, .dead, rF 209 196, .dead, .dead, .dead, .dead]) ⟨Zt, Zt, Zt, Zt, Zt, Zt, Zt, Zt, Zt, Zt, Zt, Zt, Zt, Zt, OLe.refl _, Zt, Zt, Zt, Zt, Zt⟩ (WC.sub (env' := [(0, .d (D.i .u8 op0)), (1, .n a1), (2, .n b2), (8, .fn (.func 214) [] [.pt 14 0])]) (Sub.one q (Sub.one q (Sub.one q (Sub.one q (Sub.nil _))))) (Rcl 4 q ?_)))))))))
 obtain ⟨k141, hk141, h⟩ := letkS h
 refine WL.inl (us := [.n a1, .n b2, .pt 14 0]) (fun rv st' => (k141 () = some r ∧ Le rv (.tu [.n (f196 a1 b2), .d (D.b true)]) ∧ SLe st' [.dead, .dead, .dead, .dead, .dead, .dead, .dead, .dead, .dead, .dead, .dead, .dead, .dead, .dead, rF 209 196, .dead, .dead, .dead, .dead])) q q q q q ?_ (Zw q) q q ?_
 refine ctr_intro Tryz.func214 (by kernel_rfl) q q q (fun mm φφ ww hm140 => ?_)
 exact Rcl 11 q (WL.fn q q q q (f196_c _ _) ⟨Zl, Zl, Zt⟩ (Zw q) q q (Rlx 5 q (we_ret (rs2 q (rv_t q) (rv_t q)) ⟨h, (Le.tu ⟨Zl, Zl, Zt⟩), ⟨Zt, Zt, Zt, Zt, Zt, Zt, Zt, Zt, Zt, Zt, Zt, Zt, Zt, Zt, Zp, Zt, Zt, Zt, Zt, Zt⟩⟩)))
 rintro rv st1 ⟨h, hr, hst⟩
 subst hk141
 dsimp only at h
 exact WL.cast 32 q hr (WL.weak hst (Rl 4 q (Zn (Rcx 1 q (FA h)))))
 rcases condCases h with ⟨hk142, h⟩ | ⟨hn143, h⟩
 refine Rl 1 q (Zq (y_lookupok (fun x : Int => Value.int .u8 x) (fun x : AV => x) [fe 1 214 1, fe 2 214 2, fe 3 214 3, fe 4 215 4, fe 5 215 5, fe 6 215 6, fe 7 216 7, fe 8 216 8, fe 9 216 9, fe 10 216 10, fe 11 216 11, fe 12 216 12, fe 13 214 13, fe 14 214 14, fe 15 214 15, fe 16 214 16, fe 17 214 17, fe 18 214 18] (k := op0) (z := .d (.v .nilFunc)) Tryz.underlying237 Tryz.underlying146 (KeyF.int .u8) q q q (by kernel_rfl) q (by rw [hk142] <;> rfl) (by rw [hk142] <;> rfl)) q (Rl 5 q (Zn (Rcc 7 q (wc_false q (Rcc 3 q (WC.weak (st' := [.dead, .dead, .dead, .dead, .dead, .dead, .dead, .dead, .dead, .dead, .dead, .dead, .dead, .dead, .dead, rF 209 197, .dead, .dead, .dead]) ⟨Zt, Zt, Zt, Zt, Zt, Zt, Zt, Zt, Zt, Zt, Zt, Zt, Zt, Zt, Zt, OLe.refl _, Zt, Zt, Zt, Zt⟩ (WC.sub (env' := [(0, .d (D.i .u8 op0)), (1, .n a1), (2, .n b2), (8, .fn (.func 214) [] [.pt 15 0])]) (Sub.one q (Sub.one q (Sub.one q (Sub.one q (Sub.nil _))))) (Rcl 4 q ?_)))))))))
 obtain ⟨k145, hk145, h⟩ := letkS h
 refine WL.inl (us := [.n a1, .n b2, .pt 15 0]) (fun rv st' => (k145 () = some r ∧ Le rv (.tu [.n (f197 a1 b2), .d (D.b true)]) ∧ SLe st' [.dead, .dead, .dead, .dead, .dead, .dead, .dead, .dead, .dead, .dead, .dead, .dead, .dead, .dead, .dead, rF 209 197, .dead, .dead, .dead])) q q q q q ?_ (Zw q) q q ?_
 refine ctr_intro Tryz.func214 (by kernel_rfl) q q q (fun mm φφ ww hm144 => ?_)
 exact Rcl 11 q (WL.fn q q q q (f197_c _ _) ⟨Zl, Zl, Zt⟩ (Zw q) q q (Rlx 5 q (we_ret (rs2 q (rv_t q) (rv_t q)) ⟨h, (Le.tu ⟨Zl, Zl, Zt⟩), ⟨Zt, Zt, Zt, Zt, Zt, Zt, Zt, Zt, Zt, Zt, Zt, Zt, Zt, Zt, Zt, Zp, Zt, Zt, Zt, Zt⟩⟩)))
 rintro rv st1 ⟨h, hr, hst⟩
 subst hk145
 dsimp only at h
 exact WL.cast 32 q hr (WL.weak hst (Rl 4 q (Zn (Rcx 1 q (FA h)))))
 rcases condCases h with ⟨hk146, h⟩ | ⟨hn147, h⟩
 refine Rl 1 q (Zq (y_lookupok (fun x : Int => Value.int .u8 x) (fun x : AV => x) [fe 1 214 1, fe 2 214 2, fe 3 214 3, fe 4 215 4, fe 5 215 5, fe 6 215 6, fe 7 216 7, fe 8 216 8, fe 9 216 9, fe 10 216 10, fe 11 216 11, fe 12 216 12, fe 13 214 13, fe 14 214 14, fe 15 214 15, fe 16 214 16, fe 17 214 17, fe 18 214 18] (k := op0) (z := .d (.v .nilFunc)) Tryz.underlying237 Tryz.underlying146 (KeyF.int .u8) q q q (by kernel_rfl) q (by rw [hk146] <;> rfl) (by rw [hk146] <;> rfl)) q (Rl 5 q (Zn (Rcc 7 q (wc_false q (Rcc 3 q (WC.weak (st' := [.dead, .dead, .dead, .dead, .dead, .dead, .dead, .dead, .dead, .dead, .dead, .dead, .dead, .dead, .dead, .dead, rF 209 198, .dead, .dead]) ⟨Zt, Zt, Zt, Zt, Zt, Zt, Zt, Zt, Zt, Zt, Zt, Zt, Zt, Zt, Zt, Zt, OLe.refl _, Zt, Zt, Zt⟩ (WC.sub (env' := [(0, .d (D.i .u8 op0)), (1, .n a1), (2, .n b2), (8, .fn (.func 214) [] [.pt 16 0])]) (Sub.one q (Sub.one q (Sub.one q (Sub.one q (Sub.nil _))))) (Rcl 4 q ?_)))))))))
 obtain ⟨k149, hk149, h⟩ := letkS h
 refine WL.inl (us := [.n a1, .n b2, .pt 16 0]) (fun rv st' => (k149 () = some r ∧ Le rv (.tu [.n (f198 a1 b2), .d (D.b true)]) ∧ SLe st' [.dead, .dead, .dead, .dead, .dead, .dead, .dead, .dead, .dead, .dead, .dead, .dead, .dead, .dead, .dead, .dead, rF 209 198, .dead, .dead])) q q q q q ?_ (Zw q) q q ?_
 refine ctr_intro Tryz.func214 (by kernel_rfl) q q q (fun mm φφ ww hm148 => ?_)
 exact Rcl 11 q (WL.fn q q q q (f198_c _ _) ⟨Zl, Zl, Zt⟩ (Zw q) q q (Rlx 5 q (we_ret (rs2 q (rv_t q) (rv_t q)) ⟨h, (Le.tu ⟨Zl, Zl, Zt⟩), ⟨Zt, Zt, Zt, Zt, Zt, Zt, Zt, Zt, Zt, Zt, Zt, Zt, Zt, Zt, Zt, Zt, Zp, Zt, Zt, Zt⟩⟩)))
 rintro rv st1 ⟨h, hr, hst⟩
 subst hk149
 dsimp only at h
 exact WL.cast 32 q hr (WL.weak hst (Rl 4 q (Zn (Rcx 1 q (FA h)))))
 rcases condCases h with ⟨hk150, h⟩ | ⟨hn151, h⟩
 refine Rl 1 q (Zq (y_lookupok (fun x : Int => Value.int .u8 x) (fun x : AV => x) [fe 1 214 1, fe 2 214 2, fe 3 214 3, fe 4 215 4, fe 5 215 5, fe 6 215 6, fe 7 216 7, fe 8 216 8, fe 9 216 9, fe 10 216 10, fe 11 216 11, fe 12 216 12, fe 13 214 13, fe 14 214 14, fe 15 214 15, fe 16 214 16, fe 17 214 17, fe 18 214 18] (k := op0) (z := .d (.v .nilFunc)) Tryz.underlying237 Tryz.underlying146 (KeyF.int .u8) q q q (by kernel_rfl) q (by rw [hk150] <;> rfl) (by rw [hk150] <;> rfl)) q (Rl 5 q (Zn (Rcc 7 q (wc_false q (Rcc 3 q (WC.weak (st' := [.dead, .dead, .dead, .dead, .dead, .dead, .dead, .dead, .dead, .dead, .dead, .dead, .dead, .dead, .dead, .dead, .dead, rF 209 199, .dead]) ⟨Zt, Zt, Zt, Zt, Zt, Zt, Zt, Zt, Zt, Zt, Zt, Zt, Zt, Zt, Zt, Zt, Zt, OLe.refl _, Zt, Zt⟩ (WC.sub (env' := [(0, .d (D.i .u8 op0)), (1, .n a1), (2, .n b2), (8, .fn (.func 214) [] [.pt 17 0])]) (Sub.one q (Sub.one q (Sub.one q (Sub.one q (Sub.nil _))))) (Rcl 4 q ?_)))))))))
 obtain ⟨k153, hk153, h⟩ := letkS h
 refine WL.inl (us := [.n a1, .n b2, .pt 17 0]) (fun rv st' => (k153 () = some r ∧ Le rv (.tu [.n (f199 a1 b2), .d (D.b true)]) ∧ SLe st' [.dead, .dead, .dead, .dead, .dead, .dead, .dead, .dead, .dead, .dead, .dead, .dead, .dead, .dead, .dead, .dead, .dead, rF 209 199, .dead])) q q q q q ?_ (Zw q) q q ?_
 refine ctr_intro Tryz.func214 (by kernel_rfl) q q q (fun mm φφ ww hm152 => ?_)
 exact Rcl 11 q (WL.fn q q q q (f199_c _ _) ⟨Zl, Zl, Zt⟩ (Zw q) q q (Rlx 5 q (we_ret (rs2 q (rv_t q) (rv_t q)) ⟨h, (Le.tu ⟨Zl, Zl, Zt⟩), ⟨Zt, Zt, Zt, Zt, Zt, Zt, Zt, Zt, Zt, Zt, Zt, Zt, Zt, Zt, Zt, Zt, Zt, Zp, Zt, Zt⟩⟩)))
 rintro rv st1 ⟨h, hr, hst⟩
 subst hk153
 dsimp only at h
 exact WL.cast 32 q hr (WL.weak hst (Rl 4 q (Zn (Rcx 1 q (FA h)))))
 rcases condCases h with ⟨hk154, h⟩ | ⟨hn155, h⟩
 refine Rl 1 q (Zq (y_lookupok (fun x : Int => Value.int .u8 x) (fun x : AV => x) [fe 1 214 1, fe 2 214 2, fe 3 214 3, fe 4 215 4, fe 5 215 5, fe 6 215 6, fe 7 216 7, fe 8 216 8, fe 9 216 9, fe 10 216 10, fe 11 216 11, fe 12 216 12, fe 13 214 13, fe 14 214 14, fe 15 214 15, fe 16 214 16, fe 17 214 17, fe 18 214 18] (k := op0) (z := .d (.v .nilFunc)) Tryz.underlying237 Tryz.underlying146 (KeyF.int .u8) q q q (by kernel_rfl) q (by rw [hk154] <;> rfl) (by rw [hk154] <;> rfl)) q (Rl 5 q (Zn (Rcc 7 q (wc_false q (Rcc 3 q (WC.weak (st' := [.dead, .dead, .dead, .dead, .dead, .dead, .dead, .dead, .dead, .dead, .dead, .dead, .dead, .dead, .dead, .dead, .dead, .dead, rF 209 200]) ⟨Zt, Zt, Zt, Zt, Zt, Zt, Zt, Zt, Zt, Zt, Zt, Zt, Zt, Zt, Zt, Zt, Zt, Zt, OLe.refl _, Zt⟩ (WC.sub (env' := [(0, .d (D.i .u8 op0)), (1, .n a1), (2, .n b2), (8, .fn (.func 214) [] [.pt 18 0])]) (Sub.one q (Sub.one q (Sub.one q (Sub.one q (Sub.nil _))))) (Rcl 4 q ?_)))))))))
 obtain ⟨k157, hk157, h⟩ := letkS h
 refine WL.inl (us := [.n a1, .n b2, .pt 18 0]) (fun rv st' => (k157 () = some r ∧ Le rv (.tu [.n (f200 a1 b2), .d (D.b true)]) ∧ SLe st' [.dead, .dead, .dead, .dead, .dead, .dead, .dead, .dead, .dead, .dead, .dead, .dead, .dead, .dead, .dead, .dead, .dead, .dead, rF 209 200])) q q q q q ?_ (Zw q) q q ?_
 refine ctr_intro Tryz.func214 (by kernel_rfl) q q q (fun mm φφ ww hm156 => ?_)
 exact Rcl 11 q (WL.fn q q q q (f200_c _ _) ⟨Zl, Zl, Zt⟩ (Zw q) q q (Rlx 5 q (we_ret (rs2 q (rv_t q) (rv_t q)) ⟨h, (Le.tu ⟨Zl, Zl, Zt⟩), ⟨Zt, Zt, Zt, Zt, Zt, Zt, Zt, Zt, Zt, Zt, Zt, Zt, Zt, Zt, Zt, Zt, Zt, Zt, Zp, Zt⟩⟩)))
 rintro rv st1 ⟨h, hr, hst⟩
 subst hk157
 dsimp only at h
 exact WL.cast 32 q hr (WL.weak hst (Rl 4 q (Zn (Rcx 1 q (FA h)))))
 refine Rl 1 q (Zq (y_lookupok (fun x : Int => Value.int .u8 x) (fun x : AV => x) [fe 1 214 1, fe 2 214 2, fe 3 214 3, fe 4 215 4, fe 5 215 5, fe 6 215 6, fe 7 216 7, fe 8 216 8, fe 9 216 9, fe 10 216 10, fe 11 216 11, fe 12 216 12, fe 13 214 13, fe 14 214 14, fe 15 214 15, fe 16 214 16, fe 17 214 17, fe 18 214 18] (k := op0) (z := .d (.v .nilFunc)) Tryz.underlying237 Tryz.underlying146 (KeyF.int .u8) q q q (by kernel_rfl) q (by rw [show mpGet _ op0 = none from (mpGet_ne hn78 (mpGet_ne hn82 (mpGet_ne hn86 (mpGet_ne hn90 (mpGet_ne hn97 (mpGet_ne hn104 (mpGet_ne hn111 (mpGet_ne hn115 (mpGet_ne hn119 (mpGet_ne hn123 (mpGet_ne hn127 (mpGet_ne hn131 (mpGet_ne hn135 (mpGet_ne hn139 (mpGet_ne hn143 (mpGet_ne hn147 (mpGet_ne hn151 (mpGet_ne hn155 mpGet_nil))))))))))))))))))] <;> rfl) (by rw [show mpGet _ op0 = none from (mpGet_ne hn78 (mpGet_ne hn82 (mpGet_ne hn86 (mpGet_ne hn90 (mpGet_ne hn97 (mpGet_ne hn104 (mpGet_ne hn111 (mpGet_ne hn115 (mpGet_ne hn119 (mpGet_ne hn123 (mpGet_ne hn127 (mpGet_ne hn131 (mpGet_ne hn135 (mpGet_ne hn139 (mpGet_ne hn143 (mpGet_ne hn147 (mpGet_ne hn151 (mpGet_ne hn155 mpGet_nil))))))))))))))))))] <;> rfl)) q (Rl 5 q ?_))
 exact Zn (Rcc 7 q (wc_true q (Rcx 8 q (FA h))))

theorem f88_c (tR : Nat → Int) (tP : Int) (tX : Int) (tD : Int) (mI : List Insn) (mH : List MHandler) (mO : List Obj) (mE : Int) (mN : List Int) (mS : List (List Int)) (mU : List Int) (tA : List Act) (x1 : Insn) {vo : Nat} {vf : Nat} {vu : Nat} {va : Nat} {r : Rs ((Nat → Int) × Int × Int × Int)} (h : f88 tR tP tX tD mI mH mO mE mN mS mU tA x1 = some r) : CtrP Tryz.prog 88 [.pt 0 0, .d (.ag (R45 x1))] (wT tR tP tX tD va mI mH mO mE vo mN vu vf mS mU tA) (WinG 6 (fun r' new => ∃ (z : (Nat → Int) × Int × Int × Int), r = .ok z ∧ r' = .d (.tu []) ∧ new = [.row 116 (([.pt 1 0] : List AV) ++ (vecA 16 (fun j => .n (z.1 j)) ++ ([.n z.2.1, .n z.2.2.1, .n z.2.2.2, .os 5 va] : List AV) : List AV)), .row 90 (mR mI mH mO mE 2 vo mN 4 vu), .os 42 1 vo (famE 3 vf (List.length mS)), .fam 2 1 vf (famM E2 mS), .os 2 1 vu (eM E2 mU), .os 58 6 va (eM R58 tA)])) (WinGP 6 (fun c new => ∃ (ee : Int), r = .bad ee ∧ c = wrongP ee ∧ new = (wD mI mH mO mE vo mN vu vf mS mU))) := by
 unfold f88 at h
 refine ctrP_intro Tryz.func88 (by kernel_rfl) q q q (fun mm φφ ww hmm => ?_)
 refine Rcl 2 q (Bd q q (Zs _) q (Rlc 3 q (wc_region_draw (by kernel_rfl) (by kernel_rfl) (Rq 10 q ?_))))
 replace h := guardBS h
 obtain ⟨hgg46, h⟩ := h
 refine WQ.qn (y_indexAddra ar39 q q (vecOk_0 hgg46) (vecOk_1 hgg46)) q (WQ.qn (y_loadV (off := 1) (n := 16) (fun j => .n (tR j)) q q a2 q hgg46) q (Rq 6 q ?_))
 replace h := guardBS h
 obtain ⟨hgg47, h⟩ := h
 refine WQ.qn (y_indexAddra ar39 q q (vecOk_0 hgg47) (vecOk_1 hgg47)) q (WQ.qn (y_loadV (off := 1) (n := 16) (fun j => .n (tR j)) q q a2 q hgg47) q ?_)
 obtain ⟨r48, hr48, h⟩ := bindS h
 refine WQ.q (YieldsQ.fn q q q q q (f132_c _ _ _ hr48) ⟨Zl, Zl, Zl, Zt⟩) (Zw q) q q (Rq 5 q (WQ.nil (Rxc 8 q (Ci h q (fun h => ?_) (fun h => ?_)))))
 refine wc_regionP (WLP.wing [] q q q q (f102_c  (r := Rs.bad 280) q) Zt q (by decide) q Zt q q (Zw q) q q (fun r' new hS => ?_) (fun c new hS => ?_))
 obtain ⟨z9, hz, _⟩ := hS
 cases hz
 obtain ⟨z9, hz, rfl, rfl⟩ := hS
 obtain rfl := Rs.bad.inj hz
 refine ⟨_, q, q, ?_⟩
 refine we_seq_pan ?_
 obtain rfl := Oi h
 exact we_pan_g (new := (wD mI mH mO mE vo mN vu vf mS mU)) q ⟨Zt, Zp, Zf, Zf, Zf, Zt, Zt⟩ ⟨_, q, q, q⟩
 refine Rcc 3 q ?_
 replace h := guardBS h
 obtain ⟨hgg53, h⟩ := h
 apply RO [_, _, _, _, _, _, _, _, .u] [[], [], [1], [], [0], [0, 4], [0, 4, 5], [0, 1, 2, 3, 4, 5, 6], [0, 1, 2, 3, 4, 5, 6, 7]] [8] [[.row 116 (([.pt 1 0] : List AV) ++ (vecA 16 (fun j => .n ((vset tR (Int.toNat x1.d) r48.1) j)) ++ ([.n tP, .n tX, .n tD, .os 5 va] : List AV) : List AV)), .row 90 (mR mI mH mO mE 2 vo mN 4 vu), .os 42 1 vo (famE 3 vf (List.length mS)), .fam 2 1 vf (famM E2 mS), .os 2 1 vu (eM E2 mU), .os 58 6 va (eM R58 tA)]] [([], [0], [0]), ([], [3], [0]), ([1], [], [0]), ([], [4], [0]), ([0], [], [0]), ([4], [], [0]), ([5], [], [0]), ([6, 2], [], [0]), ([7, 3], [], [0])] (by kernel_rfl) (by kernel_rfl) q q
 refine ⟨?_, ?_, ?_, ?_, ?_, ?_, ?_, ?_, ?_, Zt⟩
 exact O1 q (fun _ => q) q q
 exact O1 q (fun _ => q) q q
 exact O1 q (fun _ => q) q q
 exact O1 q (fun _ => q) q q
 exact O1 q (fun _ => q) q q
 exact O1 q (fun _ => q) q q
 exact O1 q (fun _ => q) q q
 refine ⟨fun F => ?_, Zt⟩
 exact Zq (y_indexAddra ar39 q q (vecOk_0 hgg53) (vecOk_1 hgg53)) q (Zd q q q)
 refine ⟨fun F => ?_, Zt⟩
 exact WL.s0 (d_storeV (off := 1) (n := 16) (cs' := (([.pt 1 0] : List AV) ++ (vecA 16 (fun j => .n ((vset tR (Int.toNat x1.d) r48.1) j)) ++ ([.n tP, .n tX, .n tD, .os 5 va] : List AV) : List AV))) (fun x => .n x) tR r48.1 q q q (one_ok q) s2 q q hgg53 q) (Zw q) q (WL.done0 q q)
 refine Rxc 1 q (wc_regionP (WLP.pre 1 (Rl 1 q (WL.nil ?_))))
 obtain ⟨r54, hr54, h⟩ := bindS h
 rcases r54 with z55 | e56
 dsimp only [Rs.cs] at h
 refine WLP.wing [0, 1, 2, 3, 4, 5] q q q q (f131_c _ _ _ _ _ _ _ _ _ _ _ _ hr54) ⟨Zl, Zt⟩ q (by decide) (Re (Re (Rg (Rf (Ro (Ro q)))))) ⟨q, q, q, q, q, q, Zt⟩ Kv q (Zw q) q q (fun r' new hS => ?_) (fun c new hS => ?_)
 obtain ⟨z9, hz, rfl, rfl⟩ := hS
 obtain rfl := Rs.ok.inj hz
 refine ⟨_, _, q, (Re (Re (Rg (Rf (Ro (Ro q)))))), q, Kv, WLP.of ?_⟩
 refine WL.st (st' := [.row 116 (([.pt 1 0] : List AV) ++ (vecA 16 (fun j => .n (z55.1 j)) ++ ([.n z55.2.1, .n z55.2.2.1, .n z55.2.2.2, .os 5 va] : List AV) : List AV)), .row 90 (mR mI mH mO mE 2 vo mN 4 vu), .os 42 1 vo (famE 3 vf (List.length mS)), .fam 2 1 vf (famM E2 mS), .os 2 1 vu (eM E2 mU), .os 58 6 va (eM R58 tA)]) q (WL.nil (we_endP ?_))
 obtain rfl := Oi h
 exact WE.finP (we_ret_g (new := [.row 116 (([.pt 1 0] : List AV) ++ (vecA 16 (fun j => .n (z55.1 j)) ++ ([.n z55.2.1, .n z55.2.2.1, .n z55.2.2.2, .os 5 va] : List AV) : List AV)), .row 90 (mR mI mH mO mE 2 vo mN 4 vu), .os 42 1 vo (famE 3 vf (List.length mS)), .fam 2 1 vf (famM E2 mS), .os 2 1 vu (eM E2 mU), .os 58 6 va (eM R58 tA)]) (r0 := .d (.tu [])) (res0 q) (Le.tud Zt) q ⟨Zp, Zp, Zf, Zf, Zf, Zf, Zt⟩ ⟨_, q, q, q⟩)
 obtain ⟨z9, hz, _⟩ := hS
 cases hz
 dsimp only [Rs.cs] at h
 refine WLP.wing [0, 1, 2, 3, 4, 5] q q q q (f131_c _ _ _ _ _ _ _ _ _ _ _ _ hr54) ⟨Zl, Zt⟩ q (by decide) (Re (Re (Rg (Rf (Ro (Ro q)))))) ⟨q, q, q, q, q, q, Zt⟩ Kv q (Zw q) q q (fun r' new hS => ?_) (fun c new hS => ?_)
 obtain ⟨z9, hz, _⟩ := hS
 cases hz
 obtain ⟨z9, hz, rfl, rfl⟩ := hS
 obtain rfl := Rs.bad.inj hz
 refine ⟨_, (Re (Re (Rg (Rf (Ro (Re q)))))), Kv, ?_⟩
 refine WE.sto (st' := (wD mI mH mO mE vo mN vu vf mS mU)) q ?_
 obtain rfl := Oi h
 exact we_pan_g (new := (wD mI mH mO mE vo mN vu vf mS mU)) q ⟨Zt, Zp, Zf, Zf, Zf, Zt, Zt⟩ ⟨_, q, q, q⟩

theorem f47_c (mI : List Insn) (mH : List MHandler) (mO : List Obj) (mE : Int) (mN : List Int) (mS : List (List Int)) (mU : List Int) {vo : Nat} {vf : Nat} {vu : Nat} {r : Bool} (h : f47 mI mH mO mE mN mS mU = some r) : Ctr Tryz.prog 47 [.pt 0 0] (wM mI mH mO mE vo mN vu vf mS mU) (WinG 4 (fun r' new => r' = .d (.b r) ∧ new = (wM mI mH mO mE vo mN vu vf mS mU))) := by
 unfold f47 at h
 refine ctr_intro Tryz.func47 (by kernel_rfl) q q q (fun mm φφ ww hmm => ?_)
 refine Rcl 8 q (Zq (y_eqpt Tryz.underlying46 q) q (Rl 5 q (Zy (y_len_map E45 mI e23 q q Zl) q q q (Rlx 6 q ?_))))
 obtain rfl := Oi h
 exact we_ret_g (new := (wM mI mH mO mE vo mN vu vf mS mU)) (r0 := .d (.b (decide ((List.length mI : Int) = 0)))) (rs1 q (rv_t q)) Zl q ⟨Zp, Zf, Zf, Zf, Zt⟩ ⟨q, q⟩

theorem f46_c (tR : Nat → Int) (tP : Int) (tX : Int) (tD : Int) (mI : List Insn) (mH : List MHandler) (mO : List Obj) (mE : Int) (mN : List Int) (mS : List (List Int)) (mU : List Int) (tA : List Act) (o1 : Int) {vo : Nat} {vf : Nat} {vu : Nat} {va : Nat} {r : Nat} (h : f46 tR tP tX tD mI mH mO mE mN mS mU tA o1 = some r) : Ctr Tryz.prog 46 [.pt 0 0, .d (D.i .u8 o1)] (wT tR tP tX tD va mI mH mO mE vo mN vu vf mS mU tA) (WinG 6 (fun r' new => r' = .fn (.func r) [.pt 0 0] [] ∧ new = (wT tR tP tX tD va mI mH mO mE vo mN vu vf mS mU tA))) := by
 unfold f46 at h
 refine ctr_intro Tryz.func46 (by kernel_rfl) q q q (fun mm φφ ww hmm => ?_)
 refine Rcc 12 q (Jn1 (fun t55 => [(0, .pt 0 0), (5, .d (D.i .u8 o1)), (6, .d (D.b t55))]) (fun _ => (wT tR tP tX tD va mI mH mO mE vo mN vu vf mS mU tA)) h (fun _ h => ?_) (fun t55 h => ?_))
 refine Rcc 6 q (Ci h q (fun h => ?_) (fun h => ?_))
 exact Rcx 1 q (En1 h)
 refine Rcc 6 q (Ci h q (fun h => ?_) (fun h => ?_))
 exact Rcx 1 q (En1 h)
 exact Rcx 4 q (En1 h)
 refine Ci h q (fun h => ?_) (fun h => ?_)
 refine Rcx 10 q ?_
 obtain rfl := Oi h
 exact we_ret_g (new := (wT tR tP tX tD va mI mH mO mE vo mN vu vf mS mU tA)) (r0 := .fn (.func 81) [.pt 0 0] []) (rs1 q (rv_t q)) Zl q ⟨Zp, Zp, Zf, Zf, Zf, Zf, Zt⟩ ⟨q, q⟩
 refine Jn1 (fun t57 => [(0, .pt 0 0), (5, .d (D.i .u8 o1)), (12, .d (D.b t57))]) (fun _ => (wT tR tP tX tD va mI mH mO mE vo mN vu vf mS mU tA)) h (fun _ h => ?_) (fun t57 h => ?_)
 refine Rcc 6 q (Ci h q (fun h => ?_) (fun h => ?_))
 exact Rcx 1 q (En1 h)
 refine Rcc 6 q (Ci h q (fun h => ?_) (fun h => ?_))
 exact Rcx 1 q (En1 h)
 exact Rcx 4 q (En1 h)
 refine Ci h q (fun h => ?_) (fun h => ?_)
 refine Rcx 10 q ?_
 obtain rfl := Oi h
 exact we_ret_g (new := (wT tR tP tX tD va mI mH mO mE vo mN vu vf mS mU tA)) (r0 := .fn (.func 82) [.pt 0 0] []) (rs1 q (rv_t q)) Zl q ⟨Zp, Zp, Zf, Zf, Zf, Zf, Zt⟩ ⟨q, q⟩
 refine Jn1 (fun t59 => [(0, .pt 0 0), (5, .d (D.i .u8 o1)), (18, .d (D.b t59))]) (fun _ => (wT tR tP tX tD va mI mH mO mE vo mN vu vf mS mU tA)) h (fun _ h => ?_) (fun t59 h => ?_)
 refine Rcc 6 q (Ci h q (fun h => ?_) (fun h => ?_))
 exact Rcx 1 q (En1 h)
 refine Rcc 6 q (Ci h q (fun h => ?_) (fun h => ?_))
 exact Rcx 1 q (En1 h)
 refine Rcc 6 q (Ci h q (fun h => ?_) (fun h => ?_))
 exact Rcx 1 q (En1 h)
 exact Rcx 4 q (En1 h)
 refine Ci h q (fun h => ?_) (fun h => ?_)
 refine Rcx 10 q ?_
 obtain rfl := Oi h
 exact we_ret_g (new := (wT tR tP tX tD va mI mH mO mE vo mN vu vf mS mU tA)) (r0 := .fn (.func 83) [.pt 0 0] []) (rs1 q (rv_t q)) Zl q ⟨Zp, Zp, Zf, Zf, Zf, Zf, Zt⟩ ⟨q, q⟩
 refine Jn1 (fun t61 => [(0, .pt 0 0), (5, .d (D.i .u8 o1)), (25, .d (D.b t61))]) (fun _ => (wT tR tP tX tD va mI mH mO mE vo mN vu vf mS mU tA)) h (fun _ h => ?_) (fun t61 h => ?_)
 refine Rcc 6 q (Ci h q (fun h => ?_) (fun h => ?_))
 exact Rcx 1 q (En1 h)
 exact Rcx 4 q (En1 h)
 refine Ci h q (fun h => ?_) (fun h => ?_)
 refine Rcx 10 q ?_
 obtain rfl := Oi h
 exact we_ret_g (new := (wT tR tP tX tD va mI mH mO mE vo mN vu vf mS mU tA)) (r0 := .fn (.func 84) [.pt 0 0] []) (rs1 q (rv_t q)) Zl q ⟨Zp, Zp, Zf, Zf, Zf, Zf, Zt⟩ ⟨q, q⟩
 refine Jn1 (fun t63 => [(0, .pt 0 0), (5, .d (D.i .u8 o1)), (30, .d (D.b t63))]) (fun _ => (wT tR tP tX tD va mI mH mO mE vo mN vu vf mS mU tA)) h (fun _ h => ?_) (fun t63 h => ?_)
 refine Rcc 6 q (Ci h q (fun h => ?_) (fun h => ?_))
 exact Rcx 1 q (En1 h)
 refine Rcc 6 q (Ci h q (fun h => ?_) (fun h => ?_))
 exact Rcx 1 q (En1 h)
 exact Rcx 4 q (En1 h)
 refine Ci h q (fun h => ?_) (fun h => ?_)
 refine Rcx 10 q ?_
 obtain rfl := Oi h
 exact we_ret_g (new := (wT tR tP tX tD va mI mH mO mE vo mN vu vf mS mU tA)) (r0 := .fn (.func 85) [.pt 0 0] []) (rs1 q (rv_t q)) Zl q ⟨Zp, Zp, Zf, Zf, Zf, Zf, Zt⟩ ⟨q, q⟩
 refine Jn1 (fun t65 => [(0, .pt 0 0), (5, .d (D.i .u8 o1)), (36, .d (D.b t65))]) (fun _ => (wT tR tP tX tD va mI mH mO mE vo mN vu vf mS mU tA)) h (fun _ h => ?_) (fun t65 h => ?_)
 refine Rcc 6 q (Ci h q (fun h => ?_) (fun h => ?_))
 exact Rcx 1 q (En1 h)
 refine Rcc 6 q (Ci h q (fun h => ?_) (fun h => ?_))
 exact Rcx 1 q (En1 h)
 exact Rcx 4 q (En1 h)
 refine Ci h q (fun h => ?_) (fun h => ?_)
 refine Rcx 10 q ?_
 obtain rfl := Oi h
 exact we_ret_g (new := (wT tR tP tX tD va mI mH mO mE vo mN vu vf mS mU tA)) (r0 := .fn (.func 86) [.pt 0 0] []) (rs1 q (rv_t q)) Zl q ⟨Zp, Zp, Zf, Zf, Zf, Zf, Zt⟩ ⟨q, q⟩
 refine Jn1 (fun t67 => [(0, .pt 0 0), (42, .d (D.b t67))]) (fun _ => (wT tR tP tX tD va mI mH mO mE vo mN vu vf mS mU tA)) h (fun _ h => ?_) (fun t67 h => ?_)
 refine Rcc 6 q (Ci h q (fun h => ?_) (fun h => ?_))
 exact Rcx 1 q (En1 h)
 refine Rcc 6 q (Ci h q (fun h => ?_) (fun h => ?_))
 exact Rcx 1 q (En1 h)
 refine Rcc 6 q (Ci h q (fun h => ?_) (fun h => ?_))
 exact Rcx 1 q (En1 h)
 refine Rcc 6 q (Ci h q (fun h => ?_) (fun h => ?_))
 exact Rcx 1 q (En1 h)
 exact Rcx 4 q (En1 h)
 refine Ci h q (fun h => ?_) (fun h => ?_)
 refine Rcx 10 q ?_
 obtain rfl := Oi h
 exact we_ret_g (new := (wT tR tP tX tD va mI mH mO mE vo mN vu vf mS mU tA)) (r0 := .fn (.func 87) [.pt 0 0] []) (rs1 q (rv_t q)) Zl q ⟨Zp, Zp, Zf, Zf, Zf, Zf, Zt⟩ ⟨q, q⟩
 refine Rcx 11 q ?_
 obtain rfl := Oi h
 exact we_ret_g (new := (wT tR tP tX tD va mI mH mO mE vo mN vu vf mS mU tA)) (r0 := .fn (.func 88) [.pt 0 0] []) (rs1 q (rv_t q)) Zl q ⟨Zp, Zp, Zf, Zf, Zf, Zf, Zt⟩ ⟨q, q⟩

theorem fm_c (n : Nat) (tR : Nat → Int) (tP : Int) (tX : Int) (tD : Int) (mI : List Insn) (mH : List MHandler) (mO : List Obj) (mE : Int) (mN : List Int) (mS : List (List Int)) (mU : List Int) (tA : List Act) (x : Insn) {vo vf vu va : Nat} {r : Rs ((Nat → Int) × Int × Int × Int × (List Int) × (List (List Int)) × (List Int) × (List Act))} (h : fm n tR tP tX tD mI mH mO mE mN mS mU tA x = some r) : CtrP Tryz.prog n [.pt 0 0, .d (.ag (R45 x))] (wT tR tP tX tD va mI mH mO mE vo mN vu vf mS mU tA) (WinG 6 (fun r' new => ∃ (z : (Nat → Int) × Int × Int × Int × (List Int) × (List (List Int)) × (List Int) × (List Act)) (i3 i4 i5 : Nat), r = .ok z ∧ r' = .d (.tu []) ∧ new = [.row 116 (([.pt 1 0] : List AV) ++ (vecA 16 (fun j => .n (z.1 j)) ++ ([.n z.2.1, .n z.2.2.1, .n z.2.2.2.1, .os 5 i5] : List AV) : List AV)), .row 90 (mR mI mH mO mE 2 vo z.2.2.2.2.1 4 i4), .os 42 1 vo (famE 3 i3 (List.length z.2.2.2.2.2.1)), .fam 2 1 i3 (famM E2 z.2.2.2.2.2.1), .os 2 1 i4 (eM E2 z.2.2.2.2.2.2.1), .os 58 6 i5 (eM R58 z.2.2.2.2.2.2.2)])) (WinGP 6 (fun c new => ∃ (ee : Int), r = .bad ee ∧ c = wrongP ee ∧ new = (wD mI mH mO mE vo mN vu vf mS mU))) := by
 unfold fm at h
 rcases condCases2 h with ⟨hn, h⟩ | ⟨_, h⟩
 have hn := Nat.eq_of_beq_eq_true hn
 subst hn
 obtain ⟨r0, hr, h⟩ := bindS h
 obtain rfl := Oi h
 refine CtrP.mono (f81_c _ _ _ _ _ _ _ _ _ _ _ _ _ hr) ?_ ?_
 rintro r1 st1 ⟨hk, z, hz, hr1, hst⟩
 subst hz
 exact ⟨hk, _, vf, vu, va, q, hr1, hst⟩
 rintro c st1 ⟨hk, ee, hz, hc, hst⟩
 subst hz
 exact ⟨hk, _, q, hc, hst⟩
 rcases condCases2 h with ⟨hn, h⟩ | ⟨_, h⟩
 have hn := Nat.eq_of_beq_eq_true hn
 subst hn
 obtain ⟨r0, hr, h⟩ := bindS h
 obtain rfl := Oi h
 refine CtrP.mono (f82_c _ _ _ _ _ _ _ _ _ _ _ _ _ hr) ?_ ?_
 rintro r1 st1 ⟨hk, z, j3, hz, hr1, hst⟩
 subst hz
 exact ⟨hk, _, j3, vu, va, q, hr1, hst⟩
 rintro c st1 ⟨hk, ee, hz, hc, hst⟩
 subst hz
 exact ⟨hk, _, q, hc, hst⟩
 rcases condCases2 h with ⟨hn, h⟩ | ⟨_, h⟩
 have hn := Nat.eq_of_beq_eq_true hn
 subst hn
 obtain ⟨r0, hr, h⟩ := bindS h
 obtain rfl := Oi h
 refine CtrP.mono (f83_c _ _ _ _ _ _ _ _ _ _ _ _ _ hr) ?_ ?_
 rintro r1 st1 ⟨hk, z, hz, hr1, hst⟩
 subst hz
 exact ⟨hk, _, vf, vu, va, q, hr1, hst⟩
 rintro c st1 ⟨hk, ee, hz, hc, hst⟩
 subst hz
 exact ⟨hk, _, q, hc, hst⟩
 rcases condCases2 h with ⟨hn, h⟩ | ⟨_, h⟩
 have hn := Nat.eq_of_beq_eq_true hn
 subst hn
 obtain ⟨r0, hr, h⟩ := bindS h
 obtain rfl := Oi h
 refine CtrP.mono (f84_c _ _ _ _ _ _ _ _ _ _ _ _ _ hr) ?_ ?_
 rintro r1 st1 ⟨hk, z, j5, hz, hr1, hst⟩
 subst hz
 exact ⟨hk, _, vf, vu, j5, q, hr1, hst⟩
 rintro c st1 ⟨hk, ee, hz, hc, hst⟩
 subst hz
 exact ⟨hk, _, q, hc, hst⟩
 rcases condCases2 h with ⟨hn, h⟩ | ⟨_, h⟩
 have hn := Nat.eq_of_beq_eq_true hn
 subst hn
 obtain ⟨r0, hr, h⟩ := bindS h
 obtain rfl := Oi h
 refine CtrP.mono (f85_c _ _ _ _ _ _ _ _ _ _ _ _ _ hr) ?_ ?_
 rintro r1 st1 ⟨hk, z, j5, hz, hr1, hst⟩
 subst hz
 exact ⟨hk, _, vf, vu, j5, q, hr1, hst⟩
 rintro c st1 ⟨hk, ee, hz, hc, hst⟩
 subst hz
 exact ⟨hk, _, q, hc, hst⟩
 rcases condCases2 h with ⟨hn, h⟩ | ⟨_, h⟩
 have hn := Nat.eq_of_beq_eq_true hn
 subst hn
 obtain ⟨r0, hr, h⟩ := bindS h
 obtain rfl := Oi h
 refine CtrP.mono (f86_c _ _ _ _ _ _ _ _ _ _ _ _ _ hr) ?_ ?_
 rintro r1 st1 ⟨hk, z, j4, j5, hz, hr1, hst⟩
 subst hz
 exact ⟨hk, _, vf, j4, j5, q, hr1, hst⟩
 rintro c st1 ⟨hk, ee, hz, hc, hst⟩
 subst hz
 exact ⟨hk, _, q, hc, hst⟩
 rcases condCases2 h with ⟨hn, h⟩ | ⟨_, h⟩
 have hn := Nat.eq_of_beq_eq_true hn
 subst hn
 obtain ⟨r0, hr, h⟩ := bindS h
 obtain rfl := Oi h
 refine CtrP.mono (f87_c _ _ _ _ _ _ _ _ _ _ _ _ _ hr) ?_ ?_
 rintro r1 st1 ⟨hk, z, hz, hr1, hst⟩
 subst hz
 exact ⟨hk, _, vf, vu, va, q, hr1, hst⟩
 rintro c st1 ⟨hk, ee, hz, hc, hst⟩
 subst hz
 exact ⟨hk, _, q, hc, hst⟩
 rcases condCases2 h with ⟨hn, h⟩ | ⟨_, h⟩
 have hn := Nat.eq_of_beq_eq_true hn
 subst hn
 obtain ⟨r0, hr, h⟩ := bindS h
 obtain rfl := Oi h
 refine CtrP.mono (f88_c _ _ _ _ _ _ _ _ _ _ _ _ _ hr) ?_ ?_
 rintro r1 st1 ⟨hk, z, hz, hr1, hst⟩
 subst hz
 exact ⟨hk, _, vf, vu, va, q, hr1, hst⟩
 rintro c st1 ⟨hk, ee, hz, hc, hst⟩
 subst hz
 exact ⟨hk, _, q, hc, hst⟩
 cases h

theorem f45_c (tR : Nat → Int) (tP : Int) (tX : Int) (tD : Int) (mI : List Insn) (mH : List MHandler) (mO : List Obj) (mE : Int) (mN : List Int) (mS : List (List Int)) (mU : List Int) (tA : List Act) {vo : Nat} {vf : Nat} {vu : Nat} {va : Nat} {r : Rs ((Nat → Int) × Int × Int × Int × (List Int) × (List (List Int)) × (List Int) × (List Act))} (h : f45 tR tP tX tD mI mH mO mE mN mS mU tA = some r) : CtrP Tryz.prog 45 [.pt 0 0] (wT tR tP tX tD va mI mH mO mE vo mN vu vf mS mU tA) (WinG 6 (fun r' new => ∃ (z : (Nat → Int) × Int × Int × Int × (List Int) × (List (List Int)) × (List Int) × (List Act)) (i3 i4 i5 : Nat), r = .ok z ∧ r' = .d (.tu []) ∧ new = [.row 116 (([.pt 1 0] : List AV) ++ (vecA 16 (fun j => .n (z.1 j)) ++ ([.n z.2.1, .n z.2.2.1, .n z.2.2.2.1, .os 5 i5] : List AV) : List AV)), .row 90 (mR mI mH mO mE 2 vo z.2.2.2.2.1 4 i4), .os 42 1 vo (famE 3 i3 (List.length z.2.2.2.2.2.1)), .fam 2 1 i3 (famM E2 z.2.2.2.2.2.1), .os 2 1 i4 (eM E2 z.2.2.2.2.2.2.1), .os 58 6 i5 (eM R58 z.2.2.2.2.2.2.2)])) (WinGP 6 (fun c new => ∃ (ee : Int), r = .bad ee ∧ c = wrongP ee ∧ new = (wD mI mH mO mE vo mN vu vf mS mU))) := by
 unfold f45 at h
 refine ctrP_intro Tryz.func45 (by kernel_rfl) q q q (fun mm φφ ww hmm => ?_)
 refine Rcc 1 q ?_
 obtain ⟨x31, hx31, h⟩ := bindS h
 apply RO [_, _, _, _, _, _, _, _, _, _, _, _, _, _, _, .u] [[], [0], [0, 1], [0, 1, 2], [0, 1, 2, 3], [0, 1, 2, 3, 4], [0, 1, 2, 3, 4, 5], [], [7], [7, 8], [7, 8, 9], [7, 8, 9, 10], [0, 1, 2, 3, 4, 5, 6, 7, 8, 9, 10, 11], [0, 1, 2, 3, 4, 5, 6, 7, 8, 9, 10, 11, 12], [], [0, 1, 2, 3, 4, 5, 6, 7, 8, 9, 10, 11, 12, 13, 14]] [14, 15] [[.row 116 (tQ 1 tR tP tX tD 5 va), .row 90 (mR mI mH mO mE 2 vo mN 4 vu), .os 42 1 vo (famE 3 vf (List.length mS)), .fam 2 1 vf (famM E2 mS), .os 2 1 vu (eM E2 mU), .os 58 6 va (eM R58 tA), .row 45 [.d (D.i .u8 0), .n 0, .n 0, .n 0, .n 0, .n 0, .n 0]], [.row 116 (tQ 1 tR tP tX tD 5 va), .row 90 (mR mI mH mO mE 2 vo mN 4 vu), .os 42 1 vo (famE 3 vf (List.length mS)), .fam 2 1 vf (famM E2 mS), .os 2 1 vu (eM E2 mU), .os 58 6 va (eM R58 tA), .row 45 [.d (D.i .u8 x31.op), .n x31.d, .n x31.a, .n x31.b, .n x31.n, .n x31.m, .n x31.to]]] [([], [0], [0, 1]), ([0], [], [0, 1]), ([1], [], [0, 1]), ([2], [], [0, 1]), ([3], [], [0, 1]), ([4], [], [0, 1]), ([5], [], [0, 1]), ([], [0], [0, 1]), ([7], [], [0, 1]), ([8], [], [0, 1]), ([9], [], [0, 1]), ([10], [], [0, 1]), ([6, 11], [], [0, 1]), ([12], [], [0, 1]), ([], [], [0]), ([14, 13], [], [1])] (by kernel_rfl) (by kernel_rfl) q q
 refine ⟨?_, ?_, ?_, ?_, ?_, ?_, ?_, ?_, ?_, ?_, ?_, ?_, ?_, ?_, ?_, ?_, Zt⟩
 exact ⟨O2 q (fun _ => q) q q, O2 q (fun _ => q) q q, Zt⟩
 exact ⟨O2 q (fun _ => q) q q, O2 q (fun _ => q) q q, Zt⟩
 exact ⟨O2 q (fun _ => q) q q, O2 q (fun _ => q) q q, Zt⟩
 exact ⟨O2 q (fun _ => q) q q, O2 q (fun _ => q) q q, Zt⟩
 exact ⟨O2 q (fun _ => q) q q, O2 q (fun _ => q) q q, Zt⟩
 exact ⟨O2 q (fun _ => q) q q, O2 q (fun _ => q) q q, Zt⟩
 exact ⟨O2 q (fun _ => q) q q, O2 q (fun _ => q) q q, Zt⟩
 exact ⟨O2 q (fun _ => q) q q, O2 q (fun _ => q) q q, Zt⟩
 exact ⟨O2 q (fun _ => q) q q, O2 q (fun _ => q) q q, Zt⟩
 exact ⟨O2 q (fun _ => q) q q, O2 q (fun _ => q) q q, Zt⟩
 exact ⟨O2 q (fun _ => q) q q, O2 q (fun _ => q) q q, Zt⟩
 exact ⟨O2 q (fun _ => q) q q, O2 q (fun _ => q) q q, Zt⟩
 refine ⟨fun F => ?_, fun F => ?_, Zt⟩
 exact Zq (y_indexAddr e23 q Zl q (idx_nonneg hx31) (idx_row E45_eq hx31) q) q (Zd q q q)
 exact Zq (y_indexAddr e23 q Zl q (idx_nonneg hx31) (idx_row E45_eq hx31) q) q (Zd q q q)
 exact ⟨O2 q (fun _ => q) q q, O2 q (fun _ => q) q q, Zt⟩
 refine ⟨fun F => ?_, Zt⟩
 exact Al z45 q (Zd q q q)
 refine ⟨fun F => ?_, Zt⟩
 exact WL.s0 (d_store q q q q q q s45 q q) (Zw q) q (WL.done0 q q)
 refine Rxl 6 q (WL.fn q q q q (f36_c _) ⟨Zl, Zt⟩ (Zw q) q q (Rlc 3 q (Ci h q (fun h => ?_) (fun h => ?_))))
 refine wc_regionP (WLP.pre 2 (Zq (y_build p118 z118 q q) q (Zq (y_makeInterface (p := .ag (R118 (Wrong.mk 8))) (by kernel_rfl) q (Le.agd ⟨Zl, Zt⟩)) q (WL.nil (WLP.pan q q (we_seq_pan ?_))))))
 obtain rfl := Oi h
 exact we_pan_g (new := (wD mI mH mO mE vo mN vu vf mS mU)) q ⟨Zt, Zp, Zf, Zf, Zf, Zt, Zt⟩ ⟨_, q, q, q⟩
 refine Rcc 2 q ?_
 obtain ⟨r32, hr32, h⟩ := bindS h
 apply wc_region_last [_, _, _, _, _, .u] [[], [], [1], [0, 1, 2], [], [0, 1, 2, 3, 4]] [] (fun c => List.getD [[.row 116 (tQ 1 tR tP tX tD 5 va), .row 90 (mR mI mH mO mE 2 vo mN 4 vu), .os 42 1 vo (famE 3 vf (List.length mS)), .fam 2 1 vf (famM E2 mS), .os 2 1 vu (eM E2 mU), .os 58 6 va (eM R58 tA), .row 45 [.d (D.i .u8 x31.op), .n x31.d, .n x31.a, .n x31.b, .n x31.n, .n x31.m, .n x31.to]]] c []) [([], [0], [0]), ([], [2], [0]), ([1], [], [0]), ([0, 2], [], [0]), ([], [2], [0]), ([3, 4], [], [0])] 5 (l0 := _) (o := _) (by exact (List.take_append_drop 5 _).symm) q (by kernel_rfl) (by kernel_rfl) q q q q
 refine ⟨?_, ?_, ?_, ?_, ?_, Zt⟩
 exact O1 q (fun _ => q) q q
 exact O1 q (fun _ => q) q q
 exact O1 q (fun _ => q) q q
 refine ⟨fun F => ?_, Zt⟩
 refine WL.wing [0, 1, 2, 3, 4, 5] q q q q (f46_c _ _ _ _ _ _ _ _ _ _ _ _ _ hr32) ⟨Zl, Zl, Zt⟩ q (by decide) (Re (Re (Rg (Rf (Ro (Ro q)))))) ⟨q, q, q, q, q, q, Zt⟩ Kv q (Zw q) q q (fun r' new hS => ?_)
 obtain ⟨rfl, rfl⟩ := hS
 refine ⟨_, _, q, (Re (Re (Rg (Rf (Ro (Ro q)))))), q, Kv, ?_⟩
 exact Zd q q q
 exact O1 q (fun _ => q) q q
 obtain ⟨r34, hr34, h⟩ := bindS h
 rcases r34 with z35 | e36
 dsimp only [Rs.cs] at h
 refine WLP.wing [0, 1, 2, 3, 4, 5] q q q q (fm_c _ _ _ _ _ _ _ _ _ _ _ _ _ _ hr34) ⟨Zl, (Le.agd ⟨Zl, Zl, Zl, Zl, Zl, Zl, Zl, Zt⟩), Zt⟩ q (by decide) (Re (Re (Rg (Rf (Ro (Ro q)))))) ⟨q, q, q, q, q, q, Zt⟩ Kv q (Zw q) q q (fun r' new hS => ?_) (fun c new hS => ?_)
 obtain ⟨z9, i3_37, i4_37, i5_37, hz, rfl, rfl⟩ := hS
 obtain rfl := Rs.ok.inj hz
 refine ⟨_, _, q, (Re (Re (Rg (Rf (Ro (Ro q)))))), q, Kv, WLP.of ?_⟩
 refine WL.st (st' := [.row 116 (([.pt 1 0] : List AV) ++ (vecA 16 (fun j => .n (z35.1 j)) ++ ([.n z35.2.1, .n z35.2.2.1, .n z35.2.2.2.1, .os 5 i5_37] : List AV) : List AV)), .row 90 (mR mI mH mO mE 2 vo z35.2.2.2.2.1 4 i4_37), .os 42 1 vo (famE 3 i3_37 (List.length z35.2.2.2.2.2.1)), .fam 2 1 i3_37 (famM E2 z35.2.2.2.2.2.1), .os 2 1 i4_37 (eM E2 z35.2.2.2.2.2.2.1), .os 58 6 i5_37 (eM R58 z35.2.2.2.2.2.2.2), .row 45 [.d (D.i .u8 x31.op), .n x31.d, .n x31.a, .n x31.b, .n x31.n, .n x31.m, .n x31.to]]) q (WL.nil (we_endP ?_))
 obtain rfl := Oi h
 exact WE.finP (we_ret_g (new := [.row 116 (([.pt 1 0] : List AV) ++ (vecA 16 (fun j => .n (z35.1 j)) ++ ([.n z35.2.1, .n z35.2.2.1, .n z35.2.2.2.1, .os 5 i5_37] : List AV) : List AV)), .row 90 (mR mI mH mO mE 2 vo z35.2.2.2.2.1 4 i4_37), .os 42 1 vo (famE 3 i3_37 (List.length z35.2.2.2.2.2.1)), .fam 2 1 i3_37 (famM E2 z35.2.2.2.2.2.1), .os 2 1 i4_37 (eM E2 z35.2.2.2.2.2.2.1), .os 58 6 i5_37 (eM R58 z35.2.2.2.2.2.2.2)]) (r0 := .d (.tu [])) (res0 q) (Le.tud Zt) q ⟨Zp, Zp, Zf, Zf, Zf, Zf, Zt⟩ ⟨_, i3_37, i4_37, i5_37, q, q, q⟩)
 obtain ⟨z9, hz, _⟩ := hS
 cases hz
 dsimp only [Rs.cs] at h
 refine WLP.wing [0, 1, 2, 3, 4, 5] q q q q (fm_c _ _ _ _ _ _ _ _ _ _ _ _ _ _ hr34) ⟨Zl, (Le.agd ⟨Zl, Zl, Zl, Zl, Zl, Zl, Zl, Zt⟩), Zt⟩ q (by decide) (Re (Re (Rg (Rf (Ro (Ro q)))))) ⟨q, q, q, q, q, q, Zt⟩ Kv q (Zw q) q q (fun r' new hS => ?_) (fun c new hS => ?_)
 obtain ⟨z9, i3_37, i4_37, i5_37, hz, _⟩ := hS
 cases hz
 obtain ⟨z9, hz, rfl, rfl⟩ := hS
 obtain rfl := Rs.bad.inj hz
 refine ⟨_, (Re (Re (Rg (Rf (Ro (Re q)))))), Kv, ?_⟩
 refine WE.sto (st' := [.dead, .row 90 (mR mI mH mO mE 2 vo mN 4 vu), .os 42 1 vo (famE 3 vf (List.length mS)), .fam 2 1 vf (famM E2 mS), .os 2 1 vu (eM E2 mU), .dead, .row 45 [.d (D.i .u8 x31.op), .n x31.d, .n x31.a, .n x31.b, .n x31.n, .n x31.m, .n x31.to]]) q ?_
 obtain rfl := Oi h
 exact we_pan_g (new := (wD mI mH mO mE vo mN vu vf mS mU)) q ⟨Zt, Zp, Zf, Zf, Zf, Zt, Zt⟩ ⟨_, q, q, q⟩

theorem tryD_ret {a b c : AV} {st : List AO} : DSp Tryz.prog 80 [a, b, c] st .returning .returning st := by
 refine dsp_intro (v := .nilIface) (va := .d (.v .nilIface)) Tryz.func80 (by kernel_rfl) q q q q q (fun c0 cs hu => ?_) (fun _ _ _ => by simp [RA, RD]) (fun mm φφ ww hmm => ?_)
 right
 refine ⟨?_, q, q⟩
 simp [recoverD, hu]
 exact WC.sub (env' := [(6, .d (.v .nilIface)), (0, .u), (1, .u), (2, .u)]) (Sx q (Sub.cons q (Le.u _) (Sub.cons q (Le.u _) (Sub.cons q (Le.u _) (Sub.nil _))))) (Rcl 3 q (Zq (y_eqifn (by kernel_rfl) q) q (Rlc 2 q (wc_true q (Rcx 4 q (we_lp (SLe.refl _)))))))

theorem tryD_pan {e : Int} : DSp Tryz.prog 80 [.pt 0 0, .pt 1 0, .pt 2 0] [.row 41 n19, .row 50 [sN], .row 47 [.n 0]] (.panicking (wrongP e)) (.panicking [{ v := .iface 118 (.agg ⟨[.int .i64 e]⟩), recovered := true }]) [.row 41 n19, .row 50 [sN], .row 47 [.n e]] := by
 refine dsp_intro (v := .iface 118 (.agg ⟨[.int .i64 e]⟩)) (va := .d (.ifc 118 (.ag [D.i .i64 e]))) Tryz.func80 (by kernel_rfl) q q q q q (fun c0 cs hu => ?_) (fun _ _ _ => gnd_ifc q) (fun mm φφ ww hmm => ?_)
 left
 refine ⟨_, ?_, q⟩
 simp [recoverD, hu, wrongP]
 refine Rcl 3 q (Zq (y_eqifc (by kernel_rfl) q) q (Rlc 2 q (wc_false q (Rcl 2 q (Zq (y_tassert (by kernel_rfl) q) q (Rlc 4 q (wc_true q (Rcl 2 q (Al z118 q (WL.s0 (d_store q q q q q q s118 q q) (Zw q) q (Rlc 2 q ?_)))))))))))
 apply RO [_, _, _, .u, .u, .u] [[], [], [1], [0], [0, 3], [0, 1, 2, 3, 4]] [5] [[.row 41 n19, .row 50 [sN], .row 47 [.n ((Wrong.mk e).e)], .row 118 [.n ((Wrong.mk e).e)]]] [([], [], [0]), ([], [4], [0]), ([1], [], [0]), ([0], [0], [0]), ([], [1], [0]), ([2], [2], [0])] (by kernel_rfl) (by kernel_rfl) q q
 refine ⟨?_, ?_, ?_, ?_, ?_, ?_, Zt⟩
 refine ⟨fun F => ?_, Zt⟩
 exact Zq (y_build p41 z41 q q) q (Zd q q q)
 exact O1 q (fun _ => q) q q
 exact O1 q (fun _ => q) q q
 refine ⟨fun F => ?_, Zt⟩
 exact WL.s0 (d_store q q q q q q s41 q q) (Zw q) q (WL.done0 q q)
 refine ⟨fun F => ?_, Zt⟩
 exact WL.s0 (d_store q q q q q q s50 q q) (Zw q) q (WL.done0 q q)
 refine ⟨fun F => ?_, Zt⟩
 exact WL.s0 (d_store q q q q q q s47 q q) (Zw q) q (WL.done0 q q)
 exact Rxx 1 q (WE.drop 3 (env' := []) (Sub.nil _) q q (Nat.le_trans (Nat.le_of_eq hmm) (Nat.le_of_ble_eq_true q)) (we_lp ⟨OLe.refl _, OLe.refl _, OLe.refl _, Zt⟩))

theorem f44_45_c (mI : List Insn) (mH : List MHandler) (mO : List Obj) (mE : Int) (mN : List Int) (mS : List (List Int)) (mU : List Int) (r1 : Regs) (fine2 : Bool) {vo : Nat} {vf : Nat} {vu : Nat} {r : Regs × (List Act) × Int × (List Int) × (List (List Int)) × (List Int)} (h : f44_45 mI mH mO mE mN mS mU r1 fine2 = some r) : Ctr Tryz.prog 44 [.pt 0 0, .d (.ag (R41 r1)), .d (D.b fine2), .fn (.func 45) [] []] (wM mI mH mO mE vo mN vu vf mS mU) (WinG 4 (fun r' new => ∃ i2 i3 : Nat, r' = .d (.tu [.ag (R41 r.1), .sl (List.map E58 r.2.1), .i .i64 r.2.2.1]) ∧ new = [.row 90 (mR mI mH mO mE 1 vo r.2.2.2.1 3 i3), .os 42 1 vo (famE 2 i2 (List.length r.2.2.2.2.1)), .fam 2 1 i2 (famM E2 r.2.2.2.2.1), .os 2 1 i3 (eM E2 r.2.2.2.2.2)])) := by
 unfold f44_45 at h
 refine ctr_intro0 Tryz.func44 (by kernel_rfl) q q q (fun mm φφ ww hmm => ?_)
 refine Rcl 2 q (Bd q q (Zs _) q (Al z41 q (Al z50 q (Al z47 q (Rll 7 q ?_)))))
 obtain ⟨r80, hr80, h⟩ := bindS h
 refine WL.wing [0, 1, 2, 3] q q q q (f47_c _ _ _ _ _ _ _ hr80) ⟨Zl, Zt⟩ q (by decide) (Re (Rg (Rf (Ro q)))) ⟨q, q, q, q, Zt⟩ Kv q (Zw q) q q (fun r' new hS => ?_)
 obtain ⟨rfl, rfl⟩ := hS
 refine ⟨_, _, q, (Re (Rg (Rf (Ro q)))), q, Kv, ?_⟩
 refine St q (Rlc 3 q (Ci h q (fun h => ?_) (fun h => ?_)))
 refine Rcl 2 q (Zq (y_build p41 z41 q q) q (WL.s0 (d_store q q q q q q s41 q q) (Zw q) q (St q (WL.s0 (d_store q q q q q q s50 q q) (Zw q) q (WL.s0 (d_store q q q q q q s47 q q) (Zw q) q (Rlx 5 q ?_))))))
 obtain rfl := Oi h
 exact we_ret_g (new := (wM mI mH mO mE vo mN vu vf mS mU)) (r0 := .d (.tu [.ag (R41 (Regs.mk (fun j => 0) 0 0 0)), .sl (List.map E58 []), .i .i64 1])) (rs3 q (rv_cN q q a41 s41 q) (rv_c q q a50 q) (rv_c q q a47 q)) (Le.tud ⟨(Le.agd ⟨Zl, Zl, Zl, Zl, Zl, Zl, Zl, Zl, Zl, Zl, Zl, Zl, Zl, Zl, Zl, Zl, Zl, Zl, Zl, Zt⟩), Le.nil, Zl, Zt⟩) q ⟨Zp, Zf, Zf, Zf, Zt⟩ ⟨vf, vu, q, q⟩
 refine Rcc 1 q (wc_region_draw (by kernel_rfl) (by kernel_rfl) (Rq 4 q ?_))
 apply WQ.or 9 (t := 20) (d := 29)
 exact q
 intro hg20
 exact Rq 6 q (WQ.qy (y_len_map E45 mI e23 q q Zl) q q q (Rq 2 q (WQ.nil ⟨[_, _, _, _, _, _, _, _, _], q, q, q⟩)))
 exact Rq 9 q (WQ.nil ⟨[_, _, _, _, _, _, _, _, _], q, q, q⟩)
 refine Rq 1 q ?_
 apply WQ.or 4 (t := 30) (d := 34)
 exact q
 intro hg30
 exact Rq 4 q (WQ.nil ⟨[_, _, _, _], q, q, q⟩)
 exact Rq 4 q (WQ.nil ⟨[_, _, _, _], q, q, q⟩)
 refine Rq 1 q ?_
 apply WQ.or 8 (t := 35) (d := 43)
 exact q
 intro hg35
 exact Rq 8 q (WQ.nil ⟨[_, _, _, _, _, _, _, _], q, q, q⟩)
 exact Rq 8 q (WQ.nil ⟨[_, _, _, _, _, _, _, _], q, q, q⟩)
 refine Rq 1 q ?_
 apply WQ.or 4 (t := 44) (d := 48)
 exact q
 intro hg44
 exact Rq 4 q (WQ.nil ⟨[_, _, _, _], q, q, q⟩)
 exact Rq 4 q (WQ.nil ⟨[_, _, _, _], q, q, q⟩)
 refine Rq 1 q ?_
 apply WQ.or 4 (t := 49) (d := 53)
 exact q
 intro hg49
 exact Rq 4 q (WQ.nil ⟨[_, _, _, _], q, q, q⟩)
 exact Rq 4 q (WQ.nil ⟨[_, _, _, _], q, q, q⟩)
 refine Rq 1 q ?_
 apply WQ.or 3 (t := 54) (d := 57)
 exact q
 intro hg54
 exact Rq 3 q (WQ.nil ⟨[_, _, _], q, q, q⟩)
 exact Rq 3 q (WQ.nil ⟨[_, _, _], q, q, q⟩)
 refine Rq 1 q (WQ.nil (Rxc 1 q (Ci h q (fun h => ?_) (fun h => ?_))))
 refine Rcl 2 q (Zq (y_build p41 z41 q q) q (WL.s0 (d_store q q q q q q s41 q q) (Zw q) q (St q (WL.s0 (d_store q q q q q q s50 q q) (Zw q) q (WL.s0 (d_store q q q q q q s47 q q) (Zw q) q (Rlx 5 q ?_))))))
 obtain rfl := Oi h
 exact we_ret_g (new := (wM mI mH mO mE vo mN vu vf mS mU)) (r0 := .d (.tu [.ag (R41 (Regs.mk (fun j => 0) 0 0 0)), .sl (List.map E58 []), .i .i64 2])) (rs3 q (rv_cN q q a41 s41 q) (rv_c q q a50 q) (rv_c q q a47 q)) (Le.tud ⟨(Le.agd ⟨Zl, Zl, Zl, Zl, Zl, Zl, Zl, Zl, Zl, Zl, Zl, Zl, Zl, Zl, Zl, Zl, Zl, Zl, Zl, Zt⟩), Le.nil, Zl, Zt⟩) q ⟨Zp, Zf, Zf, Zf, Zt⟩ ⟨vf, vu, q, q⟩
 refine Rcc 4 q (wc_defer' (f := 80) (caps := [.pt 4 0, .pt 5 0, .pt 6 0]) 1 q q q (Rl 1 q (WL.nil ⟨q, fun mD φD wD vsD hlenD hD1 => ?_⟩)))
 refine Rxl 5 q (Zq (y_build p116 z116 q q) q (Bx q q q (Rlc 4 q (wc_regionP (WLP.pre 2 (Rl 2 q (WL.nil_cell 7 20 58 6 q q (WL.nil ?_))))))))
 obtain ⟨r82, hr82, h⟩ := bindS h
 rcases r82 with z83 | e84
 dsimp only [Rs.cs] at h
 refine WLP.wing [7, 0, 1, 2, 3, 8] q q q q (f45_c _ _ _ _ _ _ _ _ _ _ _ _ hr82) ⟨Zl, Zt⟩ q (by decide) (Re (Re (Rg (Rf (Ro (Ro q)))))) ⟨q, q, q, q, q, q, Zt⟩ Kv q (Zw q) q q (fun r' new hS => ?_) (fun c new hS => ?_)
 obtain ⟨z9, i3_85, i4_85, i5_85, hz, rfl, rfl⟩ := hS
 obtain rfl := Rs.ok.inj hz
 refine ⟨_, _, q, (Re (Re (Rg (Rf (Ro (Ro q)))))), q, Kv, WLP.of ?_⟩
 refine WL.st (st' := [.row 90 (mR mI mH mO mE 1 vo z83.2.2.2.2.1 3 i4_85), .os 42 1 vo (famE 2 i3_85 (List.length z83.2.2.2.2.2.1)), .fam 2 1 i3_85 (famM E2 z83.2.2.2.2.2.1), .os 2 1 i4_85 (eM E2 z83.2.2.2.2.2.2.1), .row 41 n19, .row 50 [sN], .row 47 [.n 0], .row 116 (([.pt 0 0] : List AV) ++ (vecA 16 (fun j => .n (z83.1 j)) ++ ([.n z83.2.1, .n z83.2.2.1, .n z83.2.2.2.1, .os 8 i5_85] : List AV) : List AV)), .os 58 6 i5_85 (eM R58 z83.2.2.2.2.2.2.2)]) q (Zn (Rcc 1 q ?_))
 refine WC.freezeX [] [(7, 20)] 8 (List.map E58 z83.2.2.2.2.2.2.2) q (encA_map E58_eq z83.2.2.2.2.2.2.2) Zt ⟨_, _, q, q, Zt⟩ ?_
 apply RO [_, _, _, _, _, _, _, _, .u, .u, .u] [[], [0], [0, 1], [0, 1, 2], [], [4], [4, 5], [4, 5, 6], [0, 1, 2, 3], [0, 1, 2, 3, 4, 5, 6, 7, 8], [0, 1, 2, 3, 4, 5, 6, 7, 8, 9]] [8, 9] [[.row 90 (mR mI mH mO mE 1 vo z83.2.2.2.2.1 3 i4_85), .os 42 1 vo (famE 2 i3_85 (List.length z83.2.2.2.2.2.1)), .fam 2 1 i3_85 (famM E2 z83.2.2.2.2.2.1), .os 2 1 i4_85 (eM E2 z83.2.2.2.2.2.2.1), .row 41 (vecA 16 (fun j => .n (z83.1 j)) ++ ([.n z83.2.1, .n z83.2.2.1, .n z83.2.2.2.1] : List AV)), .row 50 [sN], .row 47 [.n 0], .row 116 (([.pt 0 0] : List AV) ++ (vecA 16 (fun j => .n (z83.1 j)) ++ ([.n z83.2.1, .n z83.2.2.1, .n z83.2.2.2.1, .l E58 z83.2.2.2.2.2.2.2] : List AV) : List AV)), .dead], [.row 90 (mR mI mH mO mE 1 vo z83.2.2.2.2.1 3 i4_85), .os 42 1 vo (famE 2 i3_85 (List.length z83.2.2.2.2.2.1)), .fam 2 1 i3_85 (famM E2 z83.2.2.2.2.2.1), .os 2 1 i4_85 (eM E2 z83.2.2.2.2.2.2.1), .row 41 (vecA 16 (fun j => .n (z83.1 j)) ++ ([.n z83.2.1, .n z83.2.2.1, .n z83.2.2.2.1] : List AV)), .row 50 [.l E58 z83.2.2.2.2.2.2.2], .row 47 [.n 0], .row 116 (([.pt 0 0] : List AV) ++ (vecA 16 (fun j => .n (z83.1 j)) ++ ([.n z83.2.1, .n z83.2.2.1, .n z83.2.2.2.1, .l E58 z83.2.2.2.2.2.2.2] : List AV) : List AV)), .dead]] [([], [11], [0]), ([0], [], [0]), ([1], [], [0]), ([2], [], [0]), ([], [11], [0, 1]), ([4], [], [0, 1]), ([5], [], [0, 1]), ([6], [], [0, 1]), ([3], [8], [0]), ([7], [9], [1]), ([], [10], [2])] (by kernel_rfl) (by kernel_rfl) q q
 refine ⟨?_, ?_, ?_, ?_, ?_, ?_, ?_, ?_, ?_, ?_, ?_, Zt⟩
 exact O1 q (fun _ => q) q q
 exact O1 q (fun _ => q) q q
 exact O1 q (fun _ => q) q q
 exact O1 q (fun _ => q) q q
 exact ⟨O2 q (fun _ => q) q q, O2 q (fun _ => q) q q, Zt⟩
 exact ⟨O2 q (fun _ => q) q q, O2 q (fun _ => q) q q, Zt⟩
 exact ⟨O2 q (fun _ => q) q q, O2 q (fun _ => q) q q, Zt⟩
 exact ⟨O2 q (fun _ => q) q q, O2 q (fun _ => q) q q, Zt⟩
 refine ⟨fun F => ?_, Zt⟩
 exact WL.s0 (d_store q q q q q q s41 q q) (Zw q) q (WL.done0 q q)
 refine ⟨fun F => ?_, Zt⟩
 exact WL.s0 (d_store q q q q q q s50 q q) (Zw q) q (WL.done0 q q)
 refine ⟨fun F => ?_, Zt⟩
 exact WL.s0 (d_store q q q q q q s47 q q) (Zw q) q (WL.done0 q q)
 refine Rxx 2 q ?_
 obtain rfl := Oi h
 exact we_ret_gdc (new := [.row 90 (mR mI mH mO mE 1 vo z83.2.2.2.2.1 3 i4_85), .os 42 1 vo (famE 2 i3_85 (List.length z83.2.2.2.2.2.1)), .fam 2 1 i3_85 (famM E2 z83.2.2.2.2.2.1), .os 2 1 i4_85 (eM E2 z83.2.2.2.2.2.2.1)]) (r0 := .d (.tu [.ag (R41 (Regs.mk z83.1 z83.2.1 z83.2.2.1 z83.2.2.2.1)), .sl (List.map E58 z83.2.2.2.2.2.2.2), .i .i64 0])) hD1 (tryD_ret) (rs3 q (rv_cN q q a41 s41 q) (rv_c q q a50 q) (rv_c q q a47 q)) (Le.tud ⟨(Le.agd ⟨Zl, Zl, Zl, Zl, Zl, Zl, Zl, Zl, Zl, Zl, Zl, Zl, Zl, Zl, Zl, Zl, Zl, Zl, Zl, Zt⟩), Zl, Zl, Zt⟩) q ⟨Zp, Zf, Zf, Zf, Zt⟩ ⟨i3_85, i4_85, q, q⟩
 obtain ⟨z9, hz, _⟩ := hS
 cases hz
 dsimp only [Rs.cs] at h
 refine WLP.wing [7, 0, 1, 2, 3, 8] q q q q (f45_c _ _ _ _ _ _ _ _ _ _ _ _ hr82) ⟨Zl, Zt⟩ q (by decide) (Re (Re (Rg (Rf (Ro (Ro q)))))) ⟨q, q, q, q, q, q, Zt⟩ Kv q (Zw q) q q (fun r' new hS => ?_) (fun c new hS => ?_)
 obtain ⟨z9, i3_85, i4_85, i5_85, hz, _⟩ := hS
 cases hz
 obtain ⟨z9, hz, rfl, rfl⟩ := hS
 obtain rfl := Rs.bad.inj hz
 refine ⟨_, (Re (Re (Rg (Rf (Ro (Re q)))))), Kv, ?_⟩
 refine WE.sto (st' := [.row 90 (mR mI mH mO mE 1 vo mN 3 vu), .os 42 1 vo (famE 2 vf (List.length mS)), .fam 2 1 vf (famM E2 mS), .os 2 1 vu (eM E2 mU), .row 41 n19, .row 50 [sN], .row 47 [.n 0], .dead, .dead]) q (we_seq_pan ?_)
 obtain rfl := Oi h
 exact we_pan_gdc (new := (wM mI mH mO mE vo mN vu vf mS mU)) (r0 := .d (.tu [.ag (R41 (Regs.mk (fun j => 0) 0 0 0)), .sl (List.map E58 []), .i .i64 e84])) hD1 (DSp.win [4, 5, 6] (tryD_pan (e := e84)) ⟨Zl, Zl, Zl, Zt⟩ q (by decide) q ⟨q, q, q, Zt⟩ q q q q q (st' := [.row 90 (mR mI mH mO mE 1 vo mN 3 vu), .os 42 1 vo (famE 2 vf (List.length mS)), .fam 2 1 vf (famM E2 mS), .os 2 1 vu (eM E2 mU), .row 41 n19, .row 50 [sN], .row 47 [.n e84], .dead, .dead]) q) q (rs3 q (rv_cN q q a41 s41 q) (rv_c q q a50 q) (rv_c q q a47 q)) (Le.tud ⟨(Le.agd ⟨Zl, Zl, Zl, Zl, Zl, Zl, Zl, Zl, Zl, Zl, Zl, Zl, Zl, Zl, Zl, Zl, Zl, Zl, Zl, Zt⟩), Le.nil, Zl, Zt⟩) q ⟨Zp, Zf, Zf, Zf, Zt⟩ ⟨vf, vu, q, q⟩

theorem f11_c (mI : List Insn) (mH : List MHandler) (mO : List Obj) (mE : Int) (mN : List Int) (mS : List (List Int)) (mU : List Int) (r1 : Regs) {vo : Nat} {vf : Nat} {vu : Nat} {r : Regs × (List Act) × Int × (List Int) × (List (List Int)) × (List Int)} (h : f11 mI mH mO mE mN mS mU r1 = some r) : Ctr Tryz.prog 11 [.pt 0 0, .d (.ag (R41 r1))] (wM mI mH mO mE vo mN vu vf mS mU) (WinG 4 (fun r' new => ∃ i2 i3 : Nat, r' = .d (.tu [.ag (R41 r.1), .sl (List.map E58 r.2.1), .i .i64 r.2.2.1]) ∧ new = [.row 90 (mR mI mH mO mE 1 vo r.2.2.2.1 3 i3), .os 42 1 vo (famE 2 i2 (List.length r.2.2.2.2.1)), .fam 2 1 i2 (famM E2 r.2.2.2.2.1), .os 2 1 i3 (eM E2 r.2.2.2.2.2)])) := by
 unfold f11 at h
 refine ctr_intro Tryz.func11 (by kernel_rfl) q q q (fun mm φφ ww hmm => ?_)
 refine Rcl 2 q (Bd q q (Zs _) q (Al z41 q (Rll 8 q ?_)))
 obtain ⟨r16, hr16, h⟩ := bindS h
 refine WL.wing [0, 1, 2, 3] q q q q (f44_45_c _ _ _ _ _ _ _ _ _ hr16) ⟨Zl, Zl, Zl, Zl, Zt⟩ q (by decide) (Re (Rg (Rf (Ro q)))) ⟨q, q, q, q, Zt⟩ Kv q (Zw q) q q (fun r' new hS => ?_)
 obtain ⟨i2_17, i3_17, rfl, rfl⟩ := hS
 refine ⟨_, _, q, (Re (Rg (Rf (Ro q)))), q, Kv, ?_⟩
 refine St q (Rl 3 q (WL.s0 (d_store q q q q q q s41 q q) (Zw q) q (WL.st (st' := [.row 90 (mR mI mH mO mE 1 vo r16.2.2.2.1 3 i3_17), .os 42 1 vo (famE 2 i2_17 (List.length r16.2.2.2.2.1)), .fam 2 1 i2_17 (famM E2 r16.2.2.2.2.1), .os 2 1 i3_17 (eM E2 r16.2.2.2.2.2), .row 41 (vecA 16 (fun j => .n (r16.1.r j)) ++ ([.n r16.1.pc, .n r16.1.exc, .n r16.1.defer] : List AV))]) q (Rlx 5 q ?_))))
 obtain rfl := Oi h
 exact we_ret_g (new := [.row 90 (mR mI mH mO mE 1 vo r16.2.2.2.1 3 i3_17), .os 42 1 vo (famE 2 i2_17 (List.length r16.2.2.2.2.1)), .fam 2 1 i2_17 (famM E2 r16.2.2.2.2.1), .os 2 1 i3_17 (eM E2 r16.2.2.2.2.2)]) (r0 := .d (.tu [.ag (R41 r16.1), .sl (List.map E58 r16.2.1), .i .i64 r16.2.2.1])) (rs3 q (rv_cN q q a41 s41 q) (rv_t q) (rv_t q)) (Le.tud ⟨(Le.agd ⟨Zl, Zl, Zl, Zl, Zl, Zl, Zl, Zl, Zl, Zl, Zl, Zl, Zl, Zl, Zl, Zl, Zl, Zl, Zl, Zt⟩), Zl, Zl, Zt⟩) q ⟨Zp, Zf, Zf, Zf, Zt⟩ ⟨i2_17, i3_17, q, q⟩

theorem f38_c (s0 : List Insn) {r : List Insn} (h : f38 s0 = some r) : Pu Tryz.prog 38 [.sl (List.map E45 s0)] (.sl (List.map E45 r)) := by
 unfold f38 at h
 replace h := guardBS h
 obtain ⟨hg, h⟩ := h
 obtain rfl := Oi h
 refine fn_intro Tryz.func38 (by kernel_rfl) q q q (fun φφ ww => ?_)
 refine Rcl 9 q (WL.isnil false q Tryz.underlying23 q Zl (Zw q) q (fun b hb => ?_))
 refine Rlc 2 q (wc_cond q (fun hc => ?_) (fun hc => ?_))
 have hb2 := hb (by cases b <;> first | rfl | cases hc)
 exact Rcx 7 q (we_ret_fn (rs1 q (rv_t q)) (by rw [hb2]; exact Le.nil))
 exact Rcl 4 q (WL.s ((b_buildNone l23).does) (Zw q) q q (Rl 1 q (WL.s ((b_appendFd ([] : List Insn) s0 E45_eq l23 z45 q (by decide) q q q (Src.dataL Zl E45_eq (fun _ => q)) (fun _ => q) hg).does) (Zw q) q q (Rlx 4 q (we_ret_fn (rs1 q (rv_t q)) Zl)))))

theorem f39_c (s0 : List MHandler) {r : List MHandler} (h : f39 s0 = some r) : Pu Tryz.prog 39 [.sl (List.map E108 s0)] (.sl (List.map E108 r)) := by
 unfold f39 at h
 replace h := guardBS h
 obtain ⟨hg, h⟩ := h
 obtain rfl := Oi h
 refine fn_intro Tryz.func39 (by kernel_rfl) q q q (fun φφ ww => ?_)
 refine Rcl 9 q (WL.isnil false q Tryz.underlying29 q Zl (Zw q) q (fun b hb => ?_))
 refine Rlc 2 q (wc_cond q (fun hc => ?_) (fun hc => ?_))
 have hb2 := hb (by cases b <;> first | rfl | cases hc)
 exact Rcx 7 q (we_ret_fn (rs1 q (rv_t q)) (by rw [hb2]; exact Le.nil))
 exact Rcl 4 q (WL.s ((b_buildNone l29).does) (Zw q) q q (Rl 1 q (WL.s ((b_appendFd ([] : List MHandler) s0 E108_eq l29 z108 q (by decide) q q q (Src.dataL Zl E108_eq (fun _ => q)) (fun _ => q) hg).does) (Zw q) q q (Rlx 4 q (we_ret_fn (rs1 q (rv_t q)) Zl)))))

theorem f43_c (s0 : List Int) {r : List Int} (h : f43 s0 = some r) : Pu Tryz.prog 43 [.sl (List.map E3 s0)] (.sl (List.map E3 r)) := by
 unfold f43 at h
 replace h := guardBS h
 obtain ⟨hg, h⟩ := h
 obtain rfl := Oi h
 refine fn_intro Tryz.func43 (by kernel_rfl) q q q (fun φφ ww => ?_)
 refine Rcl 9 q (WL.isnil false q Tryz.underlying96 q Zl (Zw q) q (fun b hb => ?_))
 refine Rlc 2 q (wc_cond q (fun hc => ?_) (fun hc => ?_))
 have hb2 := hb (by cases b <;> first | rfl | cases hc)
 exact Rcx 7 q (we_ret_fn (rs1 q (rv_t q)) (by rw [hb2]; exact Le.nil))
 exact Rcl 4 q (WL.s ((b_buildNone l96).does) (Zw q) q q (Rl 1 q (WL.s ((b_appendFd ([] : List Int) s0 E3_eq l96 z3 q (by decide) q q q (Src.dataL Zl E3_eq (fun _ => q)) (fun _ => q) hg).does) (Zw q) q q (Rlx 4 q (we_ret_fn (rs1 q (rv_t q)) Zl)))))

theorem f14_c (a0 : List Int) (b1 : List Int) {r : Bool} (h : f14 a0 b1 = some r) : Pu Tryz.prog 14 [.sl (List.map E2 a0), .sl (List.map E2 b1)] (.b r) := by
 unfold f14 at h
 refine fn_intro Tryz.func14 (by kernel_rfl) q q q (fun φφ ww => ?_)
 refine Rcl 9 q (Zq (y_len_map E2 a0 e42 q q Zl) q (Rl 1 q (Zq (y_len_map E2 b1 e42 q q Zl) q (Rlc 3 q (Ci h q (fun h => ?_) (fun h => ?_))))))
 exact Rcx 7 q (FA h)
 refine Rcc 2 q (Jn0 [] [] h (fun k29 h => ?_) (fun h => ?_))
 refine Rcc 6 q (Ln1 (fun iq31 => [(0, .l E2 a0), (1, .l E2 b1), (5, .n iq31)]) (fun _ => []) (f14_l1 a0 b1 k29) h (fun _ h => by rw [f14_l1] at h; cases h) (fun n iq31 h => ?_))
 rw [f14_l1] at h
 refine Rcl 5 q (Zq (y_len_map E2 a0 e42 q q Zl) q (Rlc 3 q (Ci h q (fun h => ?_) (fun h => ?_))))
 refine Rcc 5 q (wc_region_draw (by kernel_rfl) (by kernel_rfl) (Rq 2 q ?_))
 obtain ⟨x33, hx33, h⟩ := bindS h
 refine WQ.qn (y_indexAddr e42 q Zl q (idx_nonneg hx33) (idx_row E2_eq hx33) q) q (Rq 3 q ?_)
 obtain ⟨x34, hx34, h⟩ := bindS h
 refine WQ.qn (y_indexAddr e42 q Zl q (idx_nonneg hx34) (idx_row E2_eq hx34) q) q (Rq 2 q (WQ.nil (Rxc 1 q (Ci h q (fun h => ?_) (fun h => ?_)))))
 exact Rcx 11 q (FA h)
 exact Rcx 8 q (Fn1 h)
 exact Rcx 4 q (En0 h)
 exact Rcx 6 q (FA h)

theorem f12_c (t0 : Text) {r : Bool} (h : f12 t0 = some r) : Pu Tryz.prog 12 [.ag (R38 t0)] (.b r) := by
 unfold f12 at h
 refine fn_intro Tryz.func12 (by kernel_rfl) q q q (fun φφ ww => ?_)
 refine Rcl 2 q (Bd q q (Zs _) q (Rlc 8 q (Jn1 (fun n90 => [(1, .d (.pc (R38 t0))), (3, .n n90)]) (fun _ => []) h (fun k91 h => ?_) (fun n90 h => ?_))))
 refine Rcc 6 q (Ln2 (fun n94 iq95 => [(1, .d (.pc (R38 t0))), (3, .n n94), (4, .n iq95)]) (fun _ _ => []) (f12_l1 t0 k91) h (fun _ _ h => by rw [f12_l1] at h; cases h) (fun n n94 iq95 h => ?_))
 rw [f12_l1] at h
 refine Rcl 6 q (Zq (y_len_map E101 t0.objs e33 q q Zl) q (Rl 2 q ?_))
 apply WL.and 3 (t := 10) (d := 13)
 exact q
 intro hg10
 exact Rl 3 q (WL.nil ⟨q, [_, _, _], q, q, q⟩)
 exact Rl 3 q (WL.nil ⟨q, [_, _, _], q, q, q⟩)
 refine Rlc 2 q (Ci h q (fun h => ?_) (fun h => ?_))
 exact Rcl 9 q (Ix h e33 E101_eq q Zl q q fun x98 _ h => (Rl 2 q (Zq (y_min q q q) q (Zq (y_max q q q) q (Rlx 10 q (Fn2 h))))))
 exact Rcx 4 q (En1 h)
 refine Rcl 5 q ?_
 apply WL.or 5 (t := 28) (d := 33)
 exact q
 intro hg28
 exact Rl 2 q (Zy (y_len_map E45 t0.insns e23 q q Zl) q q q (Rl 2 q (WL.nil ⟨q, [_, _, _, _, _], q, q, q⟩)))
 exact Rl 5 q (WL.nil ⟨q, [_, _, _, _, _], q, q, q⟩)
 refine Rl 1 q ?_
 apply WL.or 5 (t := 34) (d := 39)
 exact q
 intro hg34
 exact Rl 2 q (Zy (y_len_map E108 t0.handlers e29 q q Zl) q q q (Rl 2 q (WL.nil ⟨q, [_, _, _, _, _], q, q, q⟩)))
 exact Rl 5 q (WL.nil ⟨q, [_, _, _, _, _], q, q, q⟩)
 refine Rl 1 q ?_
 apply WL.or 5 (t := 40) (d := 45)
 exact q
 intro hg40
 exact Rl 2 q (Zy (y_len_map E189 t0.loops e30 q q Zl) q q q (Rl 2 q (WL.nil ⟨q, [_, _, _, _, _], q, q, q⟩)))
 exact Rl 5 q (WL.nil ⟨q, [_, _, _, _, _], q, q, q⟩)
 refine Rl 1 q ?_
 apply WL.or 5 (t := 46) (d := 51)
 exact q
 intro hg46
 exact Rl 2 q (Zy (y_len_map E155 t0.selects e31 q q Zl) q q q (Rl 2 q (WL.nil ⟨q, [_, _, _, _, _], q, q, q⟩)))
 exact Rl 5 q (WL.nil ⟨q, [_, _, _, _, _], q, q, q⟩)
 refine Rl 1 q ?_
 apply WL.or 5 (t := 52) (d := 57)
 exact q
 intro hg52
 exact Rl 2 q (Zy (y_len_map E96 t0.lists e32 q q Zl) q q q (Rl 2 q (WL.nil ⟨q, [_, _, _, _, _], q, q, q⟩)))
 exact Rl 5 q (WL.nil ⟨q, [_, _, _, _, _], q, q, q⟩)
 refine Rl 1 q ?_
 apply WL.or 5 (t := 58) (d := 63)
 exact q
 intro hg58
 exact Rl 2 q (Zy (y_len_map E101 t0.objs e33 q q Zl) q q q (Rl 2 q (WL.nil ⟨q, [_, _, _, _, _], q, q, q⟩)))
 exact Rl 5 q (WL.nil ⟨q, [_, _, _, _, _], q, q, q⟩)
 refine Rl 1 q ?_
 apply WL.or 5 (t := 64) (d := 69)
 exact q
 intro hg64
 exact Rl 2 q (Zy (y_len_map E140 t0.inits e34 q q Zl) q q q (Rl 2 q (WL.nil ⟨q, [_, _, _, _, _], q, q, q⟩)))
 exact Rl 5 q (WL.nil ⟨q, [_, _, _, _, _], q, q, q⟩)
 refine Rl 1 q ?_
 apply WL.or 5 (t := 70) (d := 75)
 exact q
 intro hg70
 exact Rl 2 q (Zy (y_len_map E27 t0.tasks e28 q q Zl) q q q (Rl 2 q (WL.nil ⟨q, [_, _, _, _, _], q, q, q⟩)))
 exact Rl 5 q (WL.nil ⟨q, [_, _, _, _, _], q, q, q⟩)
 refine Rl 1 q ?_
 apply WL.or 5 (t := 76) (d := 81)
 exact q
 intro hg76
 exact Rl 2 q (Zy (y_len_map E164 t0.prots e35 q q Zl) q q q (Rl 2 q (WL.nil ⟨q, [_, _, _, _, _], q, q, q⟩)))
 exact Rl 5 q (WL.nil ⟨q, [_, _, _, _, _], q, q, q⟩)
 refine Rl 1 q ?_
 apply WL.or 5 (t := 82) (d := 87)
 exact q
 intro hg82
 exact Rl 2 q (Zy (y_len_map E192 t0.checks e36 q q Zl) q q q (Rl 2 q (WL.nil ⟨q, [_, _, _, _, _], q, q, q⟩)))
 exact Rl 5 q (WL.nil ⟨q, [_, _, _, _, _], q, q, q⟩)
 exact Rlx 4 q (FA h)

theorem f42_c (s0 : List Int) {r : List Int} (h : f42 s0 = some r) : Pu Tryz.prog 42 [.sl (List.map E2 s0)] (.sl (List.map E2 r)) := by
 unfold f42 at h
 replace h := guardBS h
 obtain ⟨hg, h⟩ := h
 obtain rfl := Oi h
 refine fn_intro Tryz.func42 (by kernel_rfl) q q q (fun φφ ww => ?_)
 refine Rcl 9 q (WL.isnil false q Tryz.underlying42 q Zl (Zw q) q (fun b hb => ?_))
 refine Rlc 2 q (wc_cond q (fun hc => ?_) (fun hc => ?_))
 have hb2 := hb (by cases b <;> first | rfl | cases hc)
 exact Rcx 7 q (we_ret_fn (rs1 q (rv_t q)) (by rw [hb2]; exact Le.nil))
 exact Rcl 4 q (WL.s ((b_buildNone l42).does) (Zw q) q q (Rl 1 q (WL.s ((b_appendFd ([] : List Int) s0 E2_eq l42 z2 q (by decide) q q q (Src.dataL Zl E2_eq (fun _ => q)) (fun _ => q) hg).does) (Zw q) q q (Rlx 4 q (we_ret_fn (rs1 q (rv_t q)) Zl)))))

theorem f42c_c (s0 : List Int) {v0 : Nat} {r : List Int} (h : f42c s0 = some r) : Ctr Tryz.prog 42 [.os 0 v0] [.os 2 1 v0 (eM E2 s0)] (WinG 1 (fun r' new => r' = .l E2 r ∧ new = [.os 2 1 v0 (eM E2 s0)])) := by
 unfold f42c at h
 replace h := guardBS h
 obtain ⟨hg, h⟩ := h
 obtain rfl := Oi h
 refine ctr_intro Tryz.func42 (by kernel_rfl) q q q (fun mm φφ ww hmm => ?_)
 refine Rcl 9 q (WL.isnilO Tryz.underlying42 q q (Zw q) q (fun b hb => ?_))
 refine Rlc 2 q (wc_cond q (fun hc => ?_) (fun hc => ?_))
 have hb2 := hb hc
 exact Rcx 7 q (we_ret_g (new := [.os 2 1 v0 (eM E2 s0)]) (r0 := .l E2 s0) (rs1 q (rv_t q)) (by rw [hb2]; exact Le.nil) q ⟨Zf, Zt⟩ ⟨q, q⟩)
 exact Rcl 4 q (WL.s ((b_buildNone l42).does) (Zw q) q q (Rl 1 q (WL.s ((b_appendFd ([] : List Int) s0 E2_eq l42 z2 q (by decide) q q q (Src.own q) (fun _ => q) hg).does) (Zw q) q q (Rlx 4 q (we_ret_g (new := [.os 2 1 v0 (eM E2 s0)]) (r0 := .l E2 s0) (rs1 q (rv_t q)) Zl q ⟨Zf, Zt⟩ ⟨q, q⟩)))))

theorem f13_c (mI : List Insn) (mH : List MHandler) (mO : List Obj) (mE : Int) (mN : List Int) (mS : List (List Int)) (mU : List Int) {vo : Nat} {vf : Nat} {vu : Nat} {r : List Int} (h : f13 mI mH mO mE mN mS mU = some r) : Ctr Tryz.prog 13 [.pt 0 0] (wM mI mH mO mE vo mN vu vf mS mU) (WinG 4 (fun r' new => r' = .l E2 r ∧ new = (wM mI mH mO mE vo mN vu vf mS mU))) := by
 unfold f13 at h
 refine ctr_intro Tryz.func13 (by kernel_rfl) q q q (fun mm φφ ww hmm => ?_)
 refine Rcl 9 q ?_
 obtain ⟨r12, hr12, h⟩ := bindS h
 refine WL.wing [0, 1, 2, 3] q q q q (f47_c _ _ _ _ _ _ _ hr12) ⟨Zl, Zt⟩ q (by decide) (Re (Rg (Rf (Ro q)))) ⟨q, q, q, q, Zt⟩ Kv q (Zw q) q q (fun r' new hS => ?_)
 obtain ⟨rfl, rfl⟩ := hS
 refine ⟨_, _, q, (Re (Rg (Rf (Ro q)))), q, Kv, ?_⟩
 refine St q (Rlc 2 q (Ci h q (fun h => ?_) (fun h => ?_)))
 refine Rcx 7 q ?_
 obtain rfl := Oi h
 exact we_ret_g (new := (wM mI mH mO mE vo mN vu vf mS mU)) (r0 := .l E2 []) (rs1 q (rv_t q)) Le.nil q ⟨Zp, Zf, Zf, Zf, Zt⟩ ⟨q, q⟩
 refine Rcl 8 q ?_
 obtain ⟨r14, hr14, h⟩ := bindS h
 refine WL.fn q q q q (f42_c _ hr14) ⟨Zl, Zt⟩ (Zw q) q q (Rlx 4 q ?_)
 obtain rfl := Oi h
 exact we_ret_g (new := (wM mI mH mO mE vo mN vu vf mS mU)) (r0 := .l E2 r14) (rs1 q (rv_t q)) Zl q ⟨Zp, Zf, Zf, Zf, Zt⟩ ⟨q, q⟩

theorem f15_c (mI : List Insn) (mH : List MHandler) (mO : List Obj) (mE : Int) (mN : List Int) (mS : List (List Int)) (mU : List Int) {vo : Nat} {vf : Nat} {vu : Nat} {r : List Int} (h : f15 mI mH mO mE mN mS mU = some r) : Ctr Tryz.prog 15 [.pt 0 0] (wM mI mH mO mE vo mN vu vf mS mU) (WinG 4 (fun r' new => r' = .l E2 r ∧ new = (wM mI mH mO mE vo mN vu vf mS mU))) := by
 unfold f15 at h
 refine ctr_intro Tryz.func15 (by kernel_rfl) q q q (fun mm φφ ww hmm => ?_)
 refine Rcl 9 q ?_
 obtain ⟨r12, hr12, h⟩ := bindS h
 refine WL.wing [0, 1, 2, 3] q q q q (f47_c _ _ _ _ _ _ _ hr12) ⟨Zl, Zt⟩ q (by decide) (Re (Rg (Rf (Ro q)))) ⟨q, q, q, q, Zt⟩ Kv q (Zw q) q q (fun r' new hS => ?_)
 obtain ⟨rfl, rfl⟩ := hS
 refine ⟨_, _, q, (Re (Rg (Rf (Ro q)))), q, Kv, ?_⟩
 refine St q (Rlc 2 q (Ci h q (fun h => ?_) (fun h => ?_)))
 refine Rcx 7 q ?_
 obtain rfl := Oi h
 exact we_ret_g (new := (wM mI mH mO mE vo mN vu vf mS mU)) (r0 := .l E2 []) (rs1 q (rv_t q)) Le.nil q ⟨Zp, Zf, Zf, Zf, Zt⟩ ⟨q, q⟩
 refine Rcl 8 q ?_
 obtain ⟨r14, hr14, h⟩ := bindS h
 refine WL.wing [3] q q q q (f42c_c _ hr14) ⟨Zl, Zt⟩ q (by decide) (Ro q) ⟨q, Zt⟩ Kv q (Zw q) q q (fun r' new hS => ?_)
 obtain ⟨rfl, rfl⟩ := hS
 refine ⟨_, _, q, (Ro q), q, Kv, ?_⟩
 refine St q (Rlx 4 q ?_)
 obtain rfl := Oi h
 exact we_ret_g (new := (wM mI mH mO mE vo mN vu vf mS mU)) (r0 := .l E2 r14) (rs1 q (rv_t q)) Zl q ⟨Zp, Zf, Zf, Zf, Zt⟩ ⟨q, q⟩

theorem f41_c (t0 : Text) {vo : Nat} {vf : Nat} {r : List (List Int)} (h : f41 t0 = some r) : Ctr Tryz.prog 41 [.d (.ag (R38 t0))] [.rsv, .rsv] (WinG 2 (fun r' new => r' = .os 0 vo ∧ new = [.os 42 1 vo (famE 1 vf (List.length r)), .fam 2 1 vf (famM E2 r)])) := by
 unfold f41 at h
 refine ctr_intro Tryz.func41 (by kernel_rfl) q q q (fun mm φφ ww hmm => ?_)
 refine Rcl 2 q (Bd q q (Zs _) q (Rll 7 q ?_))
 obtain ⟨r72, hr72, h⟩ := bindS h
 refine WL.fn q q q q (f37_c _ hr72) ⟨Zl, Zt⟩ (Zw q) q q (Rlc 3 q (Ci h q (fun h => ?_) (fun h => ?_)))
 refine Rcx 7 q ?_
 cases h
 refine Rcl 6 q (Zq (y_len_map E101 t0.objs e33 q q Zl) q ?_)
 replace h := guardBS h
 obtain ⟨hgg73, h⟩ := h
 refine WL.s ((NewOs.b (n_makeSlice l62 z42 q (Nat.succ_pos _) q q hgg73)).does) (Zw q) q q (Gh.wl (gh_fam_new E2 2 2 1 q) (Rlc 3 q ?_))
 replace h := letkS h
 obtain ⟨k76, hk76, h⟩ := h
 refine wc_cut (fun env' st' => ∃ (l74 : List (List Int)), ∃ (ver75 : Nat), k76 l74 = some r ∧ Sub [(1, .d (.pc (R38 t0))), (3, .os 2 0)] env' ∧ SLe st' [.rsv, .rsv, .os 42 1 0 (famE 3 ver75 (List.length l74)), .fam 2 1 ver75 (famM E2 l74)]) ?_ ?_
 refine Rcl 4 q (Zq (y_len_map E101 t0.objs e33 q q Zl) q (Rlc 4 q (wc_loop (fun n env' st' => ∃ (t80 : Int), ∃ (l81 : List (List Int)), ∃ (ver82 : Nat), f41_l1 t0 k76 n t80 l81 = some r ∧ Sub [(1, .d (.pc (R38 t0))), (3, .os 2 0), (17, .l E101 t0.objs), (18, .n (List.length t0.objs : Int)), (19, .n t80)] env' ∧ SLe st' [.rsv, .rsv, .os 42 1 0 (famE 3 ver82 (List.length l81)), .fam 2 1 ver82 (famM E2 l81)]) (fun n => n) (Int.toNat ((List.length t0.objs : Int) - 0) + 1) ⟨0, (List.replicate (Int.toNat (List.length t0.objs : Int)) ([] : List Int)), _, h, (Sx q (Sx q (Sx q (Sx q (Sx q (Sub.nil _)))))), ⟨Zt, Zt, Zf, Zf, Zt⟩⟩ ?_)))
 rintro n env1 st1 ⟨t80, l81, ver82, h, hsub, hst⟩
 rcases n with _ | n
 rw [f41_l1] at h; cases h
 rw [f41_l1] at h
 refine WC.sub hsub (WC.weak hst ?_)
 refine Rcc 6 q (Ci h q (fun h => ?_) (fun h => ?_))
 refine Rcc 2 q ?_
 replace h := letkS h
 obtain ⟨k88, hk88, h⟩ := h
 refine wc_cut (fun env' st' => ∃ (l86 : List (List Int)), ∃ (ver87 : Nat), k88 l86 = some r ∧ Sub [(1, .d (.pc (R38 t0))), (3, .os 2 0), (17, .l E101 t0.objs), (18, .n (List.length t0.objs : Int)), (19, .n t80)] env' ∧ SLe st' [.rsv, .rsv, .os 42 1 0 (famE 3 ver87 (List.length l86)), .fam 2 1 ver87 (famM E2 l86)]) ?_ ?_
 refine Rcl 4 q (Ix h e33 E101_eq q Zl q q fun x89 _ h => (Rl 1 q (Al z101 q (Rl 1 q (WL.s0 (d_store q q q q q q s101 q q) (Zw q) q (Rll 8 q ?_))))))
 replace h := guardBS h
 obtain ⟨hgg90, h⟩ := h
 refine WL.s ((NewOs.b (NewOs.cast (n_makeSlice l42 z2 q (Nat.succ_pos _) q q hgg90) (by exact replicate_encA (R := E2) (z := (0 : Int)) q))).does) (Zw q) q q ?_
 obtain ⟨x91, hx91, h⟩ := bindS h
 refine Zq (y_pe_fam e62 q q q (idx_nonneg hx91) (idx_lt hx91)) q (WL.s0 (d_store_fam (i := t80) (n := List.length l81) q q q q s42 (idx_toNat hx91)) (Zw q) q (Gh.wl (gh_fam_put (L := l81) (_x := []) (x' := (List.replicate (Int.toNat x89.size) (0 : Int))) (j := Int.toNat t80) 2 3 5 (List.set l81 (Int.toNat t80) (List.replicate (Int.toNat x89.size) (0 : Int))) q q q q q (idx_toNat hx91) q) (Rll 5 q ?_)))
 obtain ⟨r92, hr92, h⟩ := bindS h
 refine WL.fn q q q q (f79_c _ _ hr92) ⟨(Le.agd ⟨Zl, Zl, Zl, Zl, Zl, Zt⟩), Zl, Zt⟩ (Zw q) q q (Rlc 3 q (Ci h q (fun h => ?_) (fun h => ?_)))
 refine Rcl 4 q ?_
 obtain ⟨x93, hx93, h⟩ := bindS h
 refine Zq (y_pe_fam e62 q q q (idx_nonneg hx93) (idx_lt hx93)) q (Gh.wl (gh_fam_take (L := (List.set l81 (Int.toNat t80) (List.replicate (Int.toNat x89.size) (0 : Int)))) (x := x93) (i := t80) 2 3 q q q hx93) (Zq (y_load_fam (i := t80) q q a42 (idx_toNat hx93)) q (Zq (y_len_osmap (encA E2) x93 e42 q q q) q (Rlx 2 q (Gh.we (gh_fam_back (L0 := (List.set l81 (Int.toNat t80) (List.replicate (Int.toNat x89.size) (0 : Int)))) (x' := x93) 2 3 6 q q q q q (idx_toNat hx93)) ?_)))))
 refine WE.sto (st' := [.rsv, .rsv, .os 42 1 0 (famE 3 (((ver82 + 1) + 1) + 1) (List.length (List.set l81 (Int.toNat t80) (List.replicate (Int.toNat x89.size) (0 : Int))))), .fam 2 1 (((ver82 + 1) + 1) + 1) (famM E2 (List.set l81 (Int.toNat t80) (List.replicate (Int.toNat x89.size) (0 : Int)))), .row 101 [.n x89.size, .n x89.lo, .n x89.hi, .d (D.b x89.ptr), .l E3 x89.set_], .dead, .dead]) (by show ([.rsv, .rsv, .os 42 1 0 (famE 3 (((ver82 + 1) + 1) + 1) (List.length (List.set (List.set l81 (Int.toNat t80) (List.replicate (Int.toNat x89.size) (0 : Int))) (Int.toNat t80) x93))), .fam 2 1 (((ver82 + 1) + 1) + 1) (famM E2 (List.set (List.set l81 (Int.toNat t80) (List.replicate (Int.toNat x89.size) (0 : Int))) (Int.toNat t80) x93)), .row 101 [.n x89.size, .n x89.lo, .n x89.hi, .d (D.b x89.ptr), .l E3 x89.set_], .dead, .dead] : List AO) = _; rw [set_idx_self hx93]) (Rxc 2 q ?_)
 refine wc_loop (fun na env' st' => ∃ (t97 : Int), ∃ (l98 : List (List Int)), ∃ (ver99 : Nat), f41_l2 t80 k88 x89 x93 na t97 l98 = some r ∧ Sub [(1, .d (.pc (R38 t0))), (3, .os 2 0), (4, .n t80), (5, .pt 4 0), (17, .l E101 t0.objs), (18, .n (List.length t0.objs : Int)), (19, .n t80), (37, .n (List.length x93 : Int)), (38, .n t97)] env' ∧ SLe st' [.rsv, .rsv, .os 42 1 0 (famE 3 ver99 (List.length l98)), .fam 2 1 ver99 (famM E2 l98), .row 101 [.n x89.size, .n x89.lo, .n x89.hi, .d (D.b x89.ptr), .l E3 x89.set_], .dead, .dead]) (fun n => n) (Int.toNat ((List.length x93 : Int) - 0) + 1) ⟨0, (List.set l81 (Int.toNat t80) (List.replicate (Int.toNat x89.size) (0 : Int))), _, h, (Sx q (Sx q (Sx q (Sx q (Sx q (Sx q (Sx q (Sx q (Sx q (Sub.nil _)))))))))), ⟨Zt, Zt, Zf, Zf, Zp, Zt, Zt, Zt⟩⟩ ?_
 rintro na env1 st1 ⟨t97, l98, ver99, h, hsub, hst⟩
 rcases na with _ | na
 rw [f41_l2] at h; cases h
 rw [f41_l2] at h
 refine WC.sub hsub (WC.weak hst ?_)
 refine Rcc 6 q (Ci h q (fun h => ?_) (fun h => ?_))
 refine Rcc 10 q ?_
 obtain ⟨x103, hx103, h⟩ := bindS h
 obtain ⟨x104, hx104, h⟩ := bindS h
 apply RO [_, _, _, _, _, _, _, _, .u] [[], [], [0, 1], [0, 1, 2], [], [], [5], [0, 1, 2, 3, 4, 5, 6], [0, 1, 2, 3, 4, 5, 6, 7]] [3, 8] [[.rsv, .rsv, .os 42 1 0 (List.set (famE 3 (ver99 + 1) (List.length l98)) (Int.toNat t80) [.os 7 0]), .fam 2 1 (ver99 + 1) (famM E2 (List.set l98 (Int.toNat t80) [])), .row 101 [.n x89.size, .n x89.lo, .n x89.hi, .d (D.b x89.ptr), .l E3 x89.set_], .dead, .dead, .os 2 1 0 (eM E2 x103)], [.rsv, .rsv, .os 42 1 0 (List.set (famE 3 (ver99 + 1) (List.length l98)) (Int.toNat t80) [.os 7 0]), .fam 2 1 (ver99 + 1) (famM E2 (List.set l98 (Int.toNat t80) [])), .row 101 [.n x89.size, .n x89.lo, .n x89.hi, .d (D.b x89.ptr), .l E3 x89.set_], .dead, .dead, .os 2 1 0 (eM E2 (List.set x103 (Int.toNat t97) x89.lo))]] [([], [3], [0]), ([], [4], [0]), ([0, 1], [], [0]), ([2], [], [0]), ([], [6], [0, 1]), ([], [5], [0, 1]), ([5], [], [0, 1]), ([3, 4], [], [1]), ([7, 6], [], [1])] (by kernel_rfl) (by kernel_rfl) q q
 refine ⟨?_, ?_, ?_, ?_, ?_, ?_, ?_, ?_, ?_, Zt⟩
 exact O1 q (fun _ => q) q q
 exact O1 q (fun _ => q) q q
 refine ⟨fun F => ?_, Zt⟩
 exact Zq (y_pe_fam e62 q q q (idx_nonneg hx103) (idx_lt hx103)) q (Zd q q q)
 refine ⟨fun F => ?_, Zt⟩
 exact Gh.wl (gh_fam_take (L := l98) (x := x103) (i := t80) 2 3 q q q hx103) (Zq (y_load_fam (i := t80) q q a42 (idx_toNat hx103)) q (Zd q q q))
 exact ⟨O2 q (fun _ => q) q q, O2 q (fun _ => q) q q, Zt⟩
 exact ⟨O2 q (fun _ => q) q q, O2 q (fun _ => q) q q, Zt⟩
 exact ⟨O2 q (fun _ => q) q q, O2 q (fun _ => q) q q, Zt⟩
 refine ⟨fun F => ?_, Zt⟩
 exact Zq (y_pe e42 q q q hx104) q (Zd q q q)
 refine ⟨fun F => ?_, Zt⟩
 exact WL.s0 (d_store_peL (R := E2) (k := 1) (i := t97) (fo := 0) x89.lo q q q q Zl q q q s2 q (fun _ => q) hx104 q q) (Zw q) q (WL.done0 q q)
 exact Gh.we (gh_fam_back (L0 := l98) (x' := (List.set x103 (Int.toNat t97) x89.lo)) 2 3 7 q q q q q (idx_toNat hx103)) (Rxx 6 q (WE.drop 7 (env' := [(1, .d (.pc (R38 t0))), (3, .os 2 0), (4, .n t80), (5, .pt 4 0), (17, .l E101 t0.objs), (18, .n (List.length t0.objs : Int)), (19, .n t80), (37, .n (List.length x93 : Int)), (38, .n (IntKind.i64.wrap (t97 + 1)))]) (Sub.one q (Sub.one q (Sub.one q (Sub.one q (Sub.one q (Sub.one q (Sub.one q (Sub.one q (Sub.one q (Sub.nil _)))))))))) q Kv (Nat.le_trans (Nat.le_of_eq hmm) (Nat.le_of_ble_eq_true q)) (Fn3 h)))
 exact Rcx 5 q (WE.drop 4 (env' := [(1, .d (.pc (R38 t0))), (3, .os 2 0), (17, .l E101 t0.objs), (18, .n (List.length t0.objs : Int)), (19, .n t80)]) (Sub.one q (Sub.one q (Sub.one q (Sub.one q (Sub.one q (Sub.nil _)))))) q Kv (Nat.le_trans (Nat.le_of_eq hmm) (Nat.le_of_ble_eq_true q)) (En2 h))
 exact Rcx 2 q (WE.drop 4 (env' := [(1, .d (.pc (R38 t0))), (3, .os 2 0), (17, .l E101 t0.objs), (18, .n (List.length t0.objs : Int)), (19, .n t80)]) (Sub.one q (Sub.one q (Sub.one q (Sub.one q (Sub.one q (Sub.nil _)))))) q Kv (Nat.le_trans (Nat.le_of_eq hmm) (Nat.le_of_ble_eq_true q)) (En2 h))
 rintro env1 st1 ⟨l86, ver87, h, hsub, hst⟩
 subst hk88
 dsimp only at h
 refine WC.sub hsub (WC.weak hst ?_)
 exact Rcx 4 q (Fn3 h)
 exact Rcx 4 q (En2 h)
 rintro env1 st1 ⟨l74, ver75, h, hsub, hst⟩
 subst hk76
 dsimp only at h
 refine WC.sub hsub (WC.weak hst ?_)
 replace h := letkS h
 obtain ⟨k107, hk107, h⟩ := h
 refine wc_cut (fun env' st' => ∃ (l105 : List (List Int)), ∃ (ver106 : Nat), k107 l105 = some r ∧ Sub [(3, .os 2 0)] env' ∧ SLe st' [.rsv, .rsv, .os 42 1 0 (famE 3 ver106 (List.length l105)), .fam 2 1 ver106 (famM E2 l105)]) ?_ ?_
 refine Rcl 4 q (Zq (y_len_map E140 t0.inits e34 q q Zl) q (Rlc 4 q (wc_loop (fun n env' st' => ∃ (t111 : Int), ∃ (l112 : List (List Int)), ∃ (ver113 : Nat), f41_l3 t0 k107 n t111 l112 = some r ∧ Sub [(3, .os 2 0), (52, .l E140 t0.inits), (53, .n (List.length t0.inits : Int)), (54, .n t111)] env' ∧ SLe st' [.rsv, .rsv, .os 42 1 0 (famE 3 ver113 (List.length l112)), .fam 2 1 ver113 (famM E2 l112)]) (fun n => n) (Int.toNat ((List.length t0.inits : Int) - 0) + 1) ⟨0, l74, _, h, (Sx q (Sx q (Sx q (Sx q (Sub.nil _))))), ⟨Zt, Zt, Zf, Zf, Zt⟩⟩ ?_)))
 rintro n env1 st1 ⟨t111, l112, ver113, h, hsub, hst⟩
 rcases n with _ | n
 rw [f41_l3] at h; cases h
 rw [f41_l3] at h
 refine WC.sub hsub (WC.weak hst ?_)
 refine Rcc 6 q (Ci h q (fun h => ?_) (fun h => ?_))
 refine Rcl 6 q (Ix h e34 E140_eq q Zl q q fun x117 _ h => (Rl 1 q (Al z140 q (WL.s0 (d_store q q q q q q s140 q q) (Zw q) q (Rlc 2 q ?_)))))
 obtain ⟨x118, hx118, h⟩ := bindS h
 obtain ⟨x119, hx119, h⟩ := bindS h
 apply RO [_, _, _, _, _, _, _, _, _, _, .u] [[], [], [1], [0, 1, 2], [0, 1, 2, 3], [], [5], [], [7], [0, 1, 2, 3, 4, 5, 6, 7, 8], [0, 1, 2, 3, 4, 5, 6, 7, 8, 9]] [4, 10] [[.rsv, .rsv, .os 42 1 0 (List.set (famE 3 (ver113 + 1) (List.length l112)) (Int.toNat x117.o) [.os 5 0]), .fam 2 1 (ver113 + 1) (famM E2 (List.set l112 (Int.toNat x117.o) [])), .row 140 [.n x117.o, .n x117.slot, .n x117.v], .os 2 1 0 (eM E2 x118)], [.rsv, .rsv, .os 42 1 0 (List.set (famE 3 (ver113 + 1) (List.length l112)) (Int.toNat x117.o) [.os 5 0]), .fam 2 1 (ver113 + 1) (famM E2 (List.set l112 (Int.toNat x117.o) [])), .row 140 [.n x117.o, .n x117.slot, .n x117.v], .os 2 1 0 (eM E2 (List.set x118 (Int.toNat x117.slot) x117.v))]] [([], [3], [0]), ([], [8], [0]), ([1], [], [0]), ([0, 2], [], [0]), ([3], [], [0]), ([], [8], [0, 1]), ([5], [], [0, 1]), ([], [8], [0, 1]), ([7], [], [0, 1]), ([4, 6], [], [1]), ([9, 8], [], [1])] (by kernel_rfl) (by kernel_rfl) q q
 refine ⟨?_, ?_, ?_, ?_, ?_, ?_, ?_, ?_, ?_, ?_, ?_, Zt⟩
 exact O1 q (fun _ => q) q q
 exact O1 q (fun _ => q) q q
 exact O1 q (fun _ => q) q q
 refine ⟨fun F => ?_, Zt⟩
 exact Zq (y_pe_fam e62 q q q (idx_nonneg hx118) (idx_lt hx118)) q (Zd q q q)
 refine ⟨fun F => ?_, Zt⟩
 exact Gh.wl (gh_fam_take (L := l112) (x := x118) (i := x117.o) 2 3 q q q hx118) (Zq (y_load_fam (i := x117.o) q q a42 (idx_toNat hx118)) q (Zd q q q))
 exact ⟨O2 q (fun _ => q) q q, O2 q (fun _ => q) q q, Zt⟩
 exact ⟨O2 q (fun _ => q) q q, O2 q (fun _ => q) q q, Zt⟩
 exact ⟨O2 q (fun _ => q) q q, O2 q (fun _ => q) q q, Zt⟩
 exact ⟨O2 q (fun _ => q) q q, O2 q (fun _ => q) q q, Zt⟩
 refine ⟨fun F => ?_, Zt⟩
 exact Zq (y_pe e42 q q q hx119) q (Zd q q q)
 refine ⟨fun F => ?_, Zt⟩
 exact WL.s0 (d_store_peL (R := E2) (k := 1) (i := x117.slot) (fo := 0) x117.v q q q q Zl q q q s2 q (fun _ => q) hx119 q q) (Zw q) q (WL.done0 q q)
 exact Gh.we (gh_fam_back (L0 := l112) (x' := (List.set x118 (Int.toNat x117.slot) x117.v)) 2 3 5 q q q q q (idx_toNat hx118)) (Rxx 6 q (WE.drop 4 (env' := [(3, .os 2 0), (52, .l E140 t0.inits), (53, .n (List.length t0.inits : Int)), (54, .n (IntKind.i64.wrap (t111 + 1)))]) (Sub.one q (Sub.one q (Sub.one q (Sub.one q (Sub.nil _))))) q Kv (Nat.le_trans (Nat.le_of_eq hmm) (Nat.le_of_ble_eq_true q)) (Fn3 h)))
 exact Rcx 4 q (En2 h)
 rintro env1 st1 ⟨l105, ver106, h, hsub, hst⟩
 subst hk107
 dsimp only at h
 refine WC.sub hsub (WC.weak hst ?_)
 refine Rcx 7 q ?_
 obtain rfl := Oi h
 exact we_ret_newv (st1 := [.rsv, .rsv, .os 42 1 0 (famE 3 ver106 (List.length l105)), .fam 2 1 ver106 (famM E2 l105)]) [2, 3] (.os 0 0) [.os 42 1 0 (famE 1 ver106 (List.length l105)), .fam 2 1 ver106 (famM E2 l105)] (fun i => List.getD [0, ver106] i 0) (fun i => List.getD [vo, vf] i 0) (rs1 q (rv_t q)) q Zl ⟨OLe.refl _, OLe.refl _, OLe.refl _, OLe.refl _, Zt⟩ (by decide) (Rg (Rf q)) ⟨q, q, Zt⟩ Kv q hmm q q ⟨q, q, Zt⟩ q (cons_eq (rv_osf _ _ _ _ _ _ _ _ q) (cons_eq (rv_fam _ _ _ _ _ _ _ _) q)) (by simp [AV.rv, AV.rvs]) ⟨q, q⟩

theorem f40n_c (s0 : List Obj) {v0 : Nat} {r : List Obj} (h : f40n s0 = some r) : Ctr Tryz.prog 40 [.l E101 s0] [.rsv] (WinG 1 (fun r' new => r' = .os 0 v0 ∧ new = [.os 101 5 v0 (eM R101 r)])) := by
 unfold f40n at h
 replace h := guardBS h
 obtain ⟨hg, h⟩ := h
 obtain rfl := Oi h
 refine ctr_intro Tryz.func40 (by kernel_rfl) q q q (fun mm φφ ww hmm => ?_)
 refine Rcl 9 q (WL.isnil false q Tryz.underlying33 q Zl (Zw q) q (fun b hb => ?_))
 refine Rlc 2 q (wc_cond q (fun hc => ?_) (fun hc => ?_))
 have hb2 := hb (by cases b <;> first | rfl | cases hc)
 have hb3 : s0 = [] := by cases s0 <;> first | rfl | cases hb2
 subst hb3
 exact Rcx 7 q (Gh.we (gh_nil_os 2 101 5 q) (we_ret_newv (st1 := [.rsv, .os 101 5 0 (eM R101 ([] : List Obj))]) [1] (.os 0 0) [.os 101 5 0 (eM R101 ([] : List Obj))] (fun i => List.getD [0] i 0) (fun i => List.getD [v0] i 0) (rs1 q (rv_t q)) q Zl ⟨OLe.refl _, OLe.refl _, Zt⟩ (by decide) (Ro q) ⟨q, Zt⟩ Kv q hmm q q ⟨q, Zt⟩ q (cons_eq (rv_os _ _ _ _ _ _ _ _) q) (by simp [AV.rv]) ⟨q, q⟩))
 exact Rcl 4 q (WL.s (((n_buildNone l33).b).does) (Zw q) q q (Rl 1 q (WL.s (d_appendL R101 ([] : List Obj) s0 l33 z101 q (by decide) q q q q (Src.dataL Zl E101_eq (fun _ => q)) (fun _ => q) (fun _ => q) hg) (Zw q) q q (Rlx 4 q (we_ret_newv (st1 := [.rsv, .os 101 5 (0 + 1) (eM R101 (([] : List Obj) ++ s0))]) [1] (.os 0 (0 + 1)) [.os 101 5 (0 + 1) (eM R101 (([] : List Obj) ++ s0))] (fun i => List.getD [(0 + 1)] i 0) (fun i => List.getD [v0] i 0) (rs1 q (rv_t q)) q Zl ⟨OLe.refl _, OLe.refl _, Zt⟩ (by decide) (Ro q) ⟨q, Zt⟩ Kv q hmm q q ⟨q, Zt⟩ q (cons_eq (rv_os _ _ _ _ _ _ _ _) q) (by simp [AV.rv]) ⟨q, q⟩)))))

theorem f10_c (t0 : Text) (in1 : List Int) {vo : Nat} {vf : Nat} {vu : Nat} {r : Int × (List Insn) × (List MHandler) × (List Obj) × Int × (List Int) × (List (List Int)) × (List Int)} (h : f10 t0 in1 = some r) : Ctr Tryz.prog 10 [.d (.ag (R38 t0)), .l E2 in1] [.rsv, .rsv, .rsv, .rsv] (WinG 4 (fun r' new => r' = .tu [.pt 0 0, .d (.i .i64 r.1)] ∧ new = [.row 90 (mR r.2.1 r.2.2.1 r.2.2.2.1 r.2.2.2.2.1 1 vo r.2.2.2.2.2.1 3 vu), .os 42 1 vo (famE 2 vf (List.length r.2.2.2.2.2.2.1)), .fam 2 1 vf (famM E2 r.2.2.2.2.2.2.1), .os 2 1 vu (eM E2 r.2.2.2.2.2.2.2)])) := by
 unfold f10 at h
 refine ctr_intro Tryz.func10 (by kernel_rfl) q q q (fun mm φφ ww hmm => ?_)
 refine Rcl 2 q (Bd q q (Zs _) q (Rll 8 q ?_))
 obtain ⟨r57, hr57, h⟩ := bindS h
 refine WL.fn q q q q (f37_c _ hr57) ⟨Zl, Zt⟩ (Zw q) q q (Rlc 3 q (Ci h q (fun h => ?_) (fun h => ?_)))
 refine Rcx 8 q ?_
 cases h
 refine Rcc 3 q (Gh.wc gh_rsv (Gh.wc gh_rsv (Gh.wc gh_rsv ?_)))
 obtain ⟨r58, hr58, h⟩ := bindS h
 obtain ⟨r59, hr59, h⟩ := bindS h
 obtain ⟨r60, hr60, h⟩ := bindS h
 obtain ⟨r62, hr62, h⟩ := bindS h
 obtain ⟨r64, hr64, h⟩ := bindS h
 apply RO [_, _, _, _, _, _, _, _, _, _, _, _, _, _, _, _, _, _] [[], [0], [0, 1], [], [3], [0, 1, 2, 3, 4], [], [6], [0, 1, 2, 3, 4, 5, 6, 7], [], [9], [], [0, 1, 2, 3, 4, 5, 6, 7, 8, 11], [], [0, 1, 2, 3, 4, 5, 6, 7, 8, 11, 12, 13], [0, 1, 2, 3, 4, 5, 6, 7, 8, 9, 10, 11, 12, 13, 14], [0, 1, 2, 3, 4, 5, 6, 7, 8, 9, 10, 11, 12, 13, 14, 15], [0, 1, 2, 3, 4, 5, 6, 7, 8, 9, 10, 11, 12, 13, 14, 15, 16]] [8, 12, 16] [[.rsv, .rsv, .rsv, .rsv, .os 101 5 0 (eM R101 r60), .rsv, .rsv], [.rsv, .rsv, .rsv, .rsv, .os 101 5 0 (eM R101 r60), .os 42 1 0 (famE 6 0 (List.length r62)), .fam 2 1 0 (famM E2 r62)], [.rsv, .rsv, .rsv, .rsv, .os 101 5 0 (eM R101 r60), .os 42 1 0 (famE 6 0 (List.length r62)), .fam 2 1 0 (famM E2 r62), .row 90 [.l E45 r58, .l E108 r59, .os 4 0, .n t0.excs, .os 5 0, .l E2 r64, sN]]] [([], [2], [0]), ([0], [], [0]), ([1], [], [0]), ([], [2], [0]), ([3], [], [0]), ([4], [], [0]), ([], [2], [0]), ([6], [], [0]), ([7], [], [0]), ([], [2], [0, 1, 2]), ([9], [], [0, 1, 2]), ([], [2], [0, 1]), ([11], [], [1]), ([], [1], [0, 1, 2]), ([13], [], [2]), ([2, 5, 8, 10, 12, 14], [], [2]), ([15], [], [2]), ([16], [], [3])] (by kernel_rfl) (by kernel_rfl) q q
 refine ⟨?_, ?_, ?_, ?_, ?_, ?_, ?_, ?_, ?_, ?_, ?_, ?_, ?_, ?_, ?_, ?_, ?_, ?_, Zt⟩
 exact O1 q (fun _ => q) q q
 exact O1 q (fun _ => q) q q
 refine ⟨fun F => ?_, Zt⟩
 exact WL.fn q q q q (f38_c _ hr58) ⟨Zl, Zt⟩ (Zw q) q q (Zd q q q)
 exact O1 q (fun _ => q) q q
 exact O1 q (fun _ => q) q q
 refine ⟨fun F => ?_, Zt⟩
 exact WL.fn q q q q (f39_c _ hr59) ⟨Zl, Zt⟩ (Zw q) q q (Zd q q q)
 exact O1 q (fun _ => q) q q
 exact O1 q (fun _ => q) q q
 refine ⟨fun F => ?_, Zt⟩
 refine WL.wing [4] q q q q (f40n_c _ hr60 (v0 := 0)) ⟨Zl, Zt⟩ q (by decide) (Re q) ⟨q, Zt⟩ q q (Zw q) q q (fun r' new hS => ?_)
 obtain ⟨rfl, rfl⟩ := hS
 refine ⟨_, _, q, (Ro q), q, Kv, ?_⟩
 exact Zd q q q
 exact ⟨O2 q (fun _ => q) q q, O2 q (fun _ => q) q q, O2 q (fun _ => q) q q, Zt⟩
 exact ⟨O2 q (fun _ => q) q q, O2 q (fun _ => q) q q, O2 q (fun _ => q) q q, Zt⟩
 exact ⟨O2 q (fun _ => q) q q, O2 q (fun _ => q) q q, Zt⟩
 refine ⟨fun F => ?_, Zt⟩
 refine WL.wing [5, 6] q q q q (f41_c _ hr62 (vo := 0) (vf := 0)) ⟨Zl, Zt⟩ q (by decide) (Re (Re q)) ⟨q, q, Zt⟩ q q (Zw q) q q (fun r' new hS => ?_)
 obtain ⟨rfl, rfl⟩ := hS
 refine ⟨_, _, q, (Rg (Rf q)), q, Kv, ?_⟩
 exact Zd q q q
 exact ⟨O2 q (fun _ => q) q q, O2 q (fun _ => q) q q, O2 q (fun _ => q) q q, Zt⟩
 refine ⟨fun F => ?_, Zt⟩
 exact WL.fn q q q q (f42_c _ hr64) ⟨Zl, Zt⟩ (Zw q) q q (Zd q q q)
 refine ⟨fun F => ?_, Zt⟩
 exact Zq (y_buildS p90 z90 q q) q (Zd q q q)
 refine ⟨fun F => ?_, Zt⟩
 exact Bx q q q (Zd q q q)
 exact O1 q (fun _ => q) q q
 refine Rxc 1 q (Jn1 (fun _ => [(6, .pt 7 0)]) (fun l65 => [.rsv, .rsv, .rsv, .rsv, .os 101 5 0 (eM R101 l65), .os 42 1 0 (famE 6 0 (List.length r62)), .fam 2 1 0 (famM E2 r62), .row 90 [.l E45 r58, .l E108 r59, .os 4 0, .n t0.excs, .os 5 0, .l E2 r64, sN]]) h (fun k66 h => ?_) (fun l65 h => ?_))
 refine Rcl 6 q (Zq (y_len_osmap (encA R101) r60 e33 q q q) q (Rlc 4 q (Ln2 (fun t69 _ => [(6, .pt 7 0), (32, .n (List.length r60 : Int)), (33, .n t69)]) (fun _ l70 => [.rsv, .rsv, .rsv, .rsv, .os 101 5 0 (eM R101 l70), .os 42 1 0 (famE 6 0 (List.length r62)), .fam 2 1 0 (famM E2 r62), .row 90 [.l E45 r58, .l E108 r59, .os 4 0, .n t0.excs, .os 5 0, .l E2 r64, sN]]) (f10_l1 r60 k66) h (fun _ _ h => by rw [f10_l1] at h; cases h) (fun n t69 l70 h => ?_))))
 rw [f10_l1] at h
 refine Rcc 6 q (Ci h q (fun h => ?_) (fun h => ?_))
 refine Rcc 10 q ?_
 obtain ⟨x73, hx73, h⟩ := bindS h
 obtain ⟨r74, hr74, h⟩ := bindS h
 obtain ⟨x75, hx75, h⟩ := bindS h
 apply RO [_, _, _, _, _, _, _, _, _, _, _, _, _, _, _, _, .u] [[], [0], [0, 1], [0, 1, 2], [], [], [5], [5, 6], [5, 6, 7], [], [5, 6, 7, 8, 9], [5, 6, 7, 8, 9, 10], [5, 6, 7, 8, 9, 10, 11], [5, 6, 7, 8, 9, 10, 11, 12], [0, 1, 2, 3, 4, 5, 6, 7, 8, 9, 10, 11, 12, 13], [0, 1, 2, 3, 4, 5, 6, 7, 8, 9, 10, 11, 12, 13, 14], [0, 1, 2, 3, 4, 5, 6, 7, 8, 9, 10, 11, 12, 13, 14, 15]] [16] [[.rsv, .rsv, .rsv, .rsv, .os 101 5 0 (eM R101 (List.set l70 (Int.toNat t69) (Obj.mk x75.size x75.lo x75.hi x75.ptr r74))), .os 42 1 0 (famE 6 0 (List.length r62)), .fam 2 1 0 (famM E2 r62), .row 90 [.l E45 r58, .l E108 r59, .os 4 0, .n t0.excs, .os 5 0, .l E2 r64, sN]]] [([], [6], [0]), ([0], [], [0]), ([1], [], [0]), ([2], [], [0]), ([], [7], [0]), ([], [6], [0]), ([5], [], [0]), ([6], [], [0]), ([7], [], [0]), ([], [7], [0]), ([8, 9], [], [0]), ([10], [], [0]), ([11], [], [0]), ([12], [], [0]), ([3, 4], [], [0]), ([14], [], [0]), ([15, 13], [], [0])] (by kernel_rfl) (by kernel_rfl) q q
 refine ⟨?_, ?_, ?_, ?_, ?_, ?_, ?_, ?_, ?_, ?_, ?_, ?_, ?_, ?_, ?_, ?_, ?_, Zt⟩
 exact O1 q (fun _ => q) q q
 exact O1 q (fun _ => q) q q
 exact O1 q (fun _ => q) q q
 exact O1 q (fun _ => q) q q
 exact O1 q (fun _ => q) q q
 exact O1 q (fun _ => q) q q
 exact O1 q (fun _ => q) q q
 exact O1 q (fun _ => q) q q
 exact O1 q (fun _ => q) q q
 exact O1 q (fun _ => q) q q
 refine ⟨fun F => ?_, Zt⟩
 exact Zq (y_pe e33 q q q hx73) q (Zd q q q)
 refine ⟨fun F => ?_, Zt⟩
 exact Zq (y_fieldAddr_pe f101_4 q q) q (Zd q q q)
 refine ⟨fun F => ?_, Zt⟩
 exact Zq (y_load_peL (fo := 4) q q q a96 (fun _ => q) hx73 q) q (Zd q q q)
 refine ⟨fun F => ?_, Zt⟩
 exact WL.fn q q q q (f43_c _ hr74) ⟨Zl, Zt⟩ (Zw q) q q (Zd q q q)
 refine ⟨fun F => ?_, Zt⟩
 exact Zq (y_pe e33 q q q hx75) q (Zd q q q)
 refine ⟨fun F => ?_, Zt⟩
 exact Zq (y_fieldAddr_pe f101_4 q q) q (Zd q q q)
 refine ⟨fun F => ?_, Zt⟩
 exact WL.s0 (d_store_peL (R := R101) (k := 5) (i := t69) (fo := 4) (Obj.mk x75.size x75.lo x75.hi x75.ptr r74) q q q q Zl q q q s96 q (fun _ => q) hx75 q q) (Zw q) q (WL.done0 q q)
 exact Rxx 6 q (Fn2 h)
 exact Rcx 4 q (En1 h)
 refine Rcc 1 q (WC.nil_cell 7 6 2 1 q q (Rcx 7 q ?_))
 refine WE.freezeX [] [(7, 2)] 4 (List.map E101 l65) q (encA_map E101_eq l65) Zt ⟨_, _, q, q, Zt⟩ ?_
 obtain rfl := Oi h
 exact we_ret_newv (st1 := [.rsv, .rsv, .rsv, .rsv, .dead, .os 42 1 0 (famE 6 0 (List.length r62)), .fam 2 1 0 (famM E2 r62), .row 90 (mR r58 r59 l65 t0.excs 5 0 r64 8 0), .os 2 1 0 (eM E2 ([] : List Int))]) [7, 5, 6, 8] (.tu [.pt 0 0, .d (.i .i64 0)]) [.row 90 (mR r58 r59 l65 t0.excs 1 0 r64 3 0), .os 42 1 0 (famE 2 0 (List.length r62)), .fam 2 1 0 (famM E2 r62), .os 2 1 0 (eM E2 ([] : List Int))] (fun i => List.getD [0, 0, 0, 0] i 0) (fun i => List.getD [0, vo, vf, vu] i 0) (rs2 q (rv_t q) (rv_t q)) q (Le.tu ⟨Zl, Zl, Zt⟩) ⟨OLe.refl _, OLe.refl _, OLe.refl _, OLe.refl _, OLe.refl _, OLe.refl _, OLe.refl _, Zp, OLe.refl _, Zt⟩ (by decide) (Re (Rg (Rf (Ro q)))) ⟨q, q, q, q, Zt⟩ Kv q hmm q q ⟨Zt, q, q, q, Zt⟩ q (cons_eq (by simp [AO.rv, AV.rv]) (cons_eq (rv_osf _ _ _ _ _ _ _ _ q) (cons_eq (rv_fam _ _ _ _ _ _ _ _) (cons_eq (rv_os _ _ _ _ _ _ _ _) q)))) (by simp [AV.rv, AV.rvs]) ⟨q, q⟩

theorem f10b_c (t0 : Text) (in1 : List Int) {r : Unit × Int} (h : f10b t0 in1 = some r) : Pu Tryz.prog 10 [.ag (R38 t0), .sl (List.map E2 in1)] (.tu [.v (nilOf r.1), .i .i64 r.2]) := by
 unfold f10b at h
 refine fn_intro Tryz.func10 (by kernel_rfl) q q q (fun φφ ww => ?_)
 refine Rcl 2 q (Bd q q (Zs _) q (Rll 8 q ?_))
 obtain ⟨r57, hr57, h⟩ := bindS h
 refine WL.fn q q q q (f37_c _ hr57) ⟨Zl, Zt⟩ (Zw q) q q (Rlc 3 q (Ci h q (fun h => ?_) (fun h => ?_)))
 exact Rcx 8 q (FA h)
 refine Rcc 3 q ?_
 cases h

theorem f66_c (x0 : Insn) : Pu Tryz.prog 66 [.ag (R45 x0)] (.ag (R38 (f66 x0))) := by
 generalize h : f66 x0 = r
 unfold f66 at h
 refine fn_intro Tryz.func66 (by kernel_rfl) q q q (fun φφ ww => ?_)
 refine Rcl 2 q (Bd q q (Zs _) q (Al z38 q (Rll 5 q (Zq (y_build p45 z45 q q) q (Zq (y_build p45 z45 q q) q (WL.s ((NewOs.b (n_buildSlice l23 z45 q (by decide) (by decide) q q q (by decide))).does) (Zw q) q q (Zq (y_build p108 z108 q q) q (WL.s ((NewOs.b (n_buildSlice l29 z108 q (by decide) (by decide) q q q (by decide))).does) (Zw q) q q (Zq (y_build p101 z101 q q) q (WL.s ((NewOs.b (NewOs.weak (es' := List.map (encA R101) [(Obj.mk 1 0 9 false [])]) (n_buildSlice l33 z101 q (by decide) (by decide) q q q (by decide)) (by exact ⟨⟨Zl, Zl, Zl, Zl, Le.nil, Zt⟩, Zt⟩))).does) (Zw q) q q (Zq (y_build p164 z164 q q) q (WL.s ((NewOs.b (NewOs.weak (es' := List.map (encA R164) [(MProt.mk 0 [])]) (n_buildSlice l35 z164 q (by decide) (by decide) q q q (by decide)) (by exact ⟨⟨Zl, Le.nil, Zt⟩, Zt⟩))).does) (Zw q) q q (Zq (y_build p27 z27 q q) q ?_)))))))))))))
 refine WL.s ((NewOs.b (NewOs.weak (es' := List.map (encA R27) [(MTask.mk 0 0 [] 0)]) (n_buildSlice l28 z27 q (by decide) (by decide) q q q (by decide)) (by exact ⟨⟨Zl, Zl, Le.nil, Zl, Zt⟩, Zt⟩))).does) (Zw q) q q (Zq (y_buildS p38 z38 q q) q (WL.s0 (d_storeS q q q q q q s38 q q) (Zw q) q (St q (Rlx 3 q ?_))))
 refine WE.freezeX [6] [(0, 0)] 1 (List.map E45 [x0, (Insn.mk 57 0 0 0 0 0 0), (Insn.mk 57 0 0 0 0 0 0)]) q (encA_map E45_eq [x0, (Insn.mk 57 0 0 0 0 0 0), (Insn.mk 57 0 0 0 0 0 0)]) ⟨q, Zt⟩ ⟨_, _, q, q, Zt⟩ ?_
 refine WE.freezeX [8] [(0, 1)] 2 (List.map E108 [(MHandler.mk 0 1 2 false)]) q (encA_map E108_eq [(MHandler.mk 0 1 2 false)]) ⟨q, Zt⟩ ⟨_, _, q, q, Zt⟩ ?_
 refine WE.freezeX [10] [(0, 5)] 3 (List.map E101 [(Obj.mk 1 0 9 false [])]) q (encA_map E101_eq [(Obj.mk 1 0 9 false [])]) ⟨q, Zt⟩ ⟨_, _, q, q, Zt⟩ ?_
 refine WE.freezeX [14] [(0, 8)] 5 (List.map E27 [(MTask.mk 0 0 [] 0)]) q (encA_map E27_eq [(MTask.mk 0 0 [] 0)]) ⟨q, Zt⟩ ⟨_, _, q, q, Zt⟩ ?_
 refine WE.freezeX [12] [(0, 9)] 4 (List.map E164 [(MProt.mk 0 [])]) q (encA_map E164_eq [(MProt.mk 0 [])]) ⟨q, Zt⟩ ⟨_, _, q, q, Zt⟩ ?_
 subst h
 exact we_ret_fn (rs1 q (rv_cN q q a38 s38 q)) (Le.agd ⟨Zl, Zl, Le.nil, Le.nil, Le.nil, Zl, Le.nil, Zl, Zl, Zl, Le.nil, Zt⟩)

theorem f35_c (x0 : Insn) (v1 : Int) {r : Regs × (List Act) × Int} (h : f35 x0 v1 = some r) : Pu Tryz.prog 35 [.ag (R45 x0), .i .i64 v1] (.tu [.ag (R41 r.1), .sl (List.map E58 r.2.1), .i .i64 r.2.2]) := by
 unfold f35 at h
 refine fn_intro Tryz.func35 (by kernel_rfl) q q q (fun φφ ww => ?_)
 refine Rcl 2 q (Bd q q (Zs _) q (Al z41 q (Rll 7 q (WL.fn q q q q (f66_c _) ⟨Zl, Zt⟩ (Zw q) q q (WL.s ((NewOs.b (n_buildSlice l42 z2 q (by decide) (by decide) q q q (by decide))).does) (Zw q) q q ?_)))))
 refine WL.freezeX [12] [] 1 (List.map E2 [8]) q (encA_map E2_eq [8]) ⟨q, Zt⟩ Zt ?_
 obtain ⟨b31, hb31, h⟩ := bindS h
 rcases boolCases b31 with hb1 | hb1
 replace h := condT h hb1
 refine Gh.wl gh_rsv (Gh.wl gh_rsv (Gh.wl gh_rsv (Gh.wl gh_rsv ?_)))
 obtain ⟨r32, hr32, h⟩ := bindS h
 refine WL.wing [2, 3, 4, 5] q q q q (f10_c _ _ hr32 (vo := 0) (vf := 0) (vu := 0)) ⟨Zl, Zl, Zt⟩ q (by decide) (Re (Re (Re (Re q)))) ⟨q, q, q, q, Zt⟩ q q (Zw q) q q (fun r' new hS => ?_)
 obtain ⟨rfl, rfl⟩ := hS
 refine ⟨_, _, q, (Re (Rg (Rf (Ro q)))), q, Kv, ?_⟩
 refine St q (Rl 5 q (Zn (Rcc 7 q (Ci h q (fun h => ?_) (fun h => ?_)))))
 refine Rcl 2 q (Zq (y_build p41 z41 q q) q (Rl 1 q (WL.s0 (d_store q q q q q q s41 q q) (Zw q) q (St q (Rlx 6 q ?_)))))
 obtain rfl := Oi h
 exact we_ret_fn (rs3 q (rv_cN q q a41 s41 q) (rv_t q) (rv_t q)) (Le.tud ⟨(Le.agd ⟨Zl, Zl, Zl, Zl, Zl, Zl, Zl, Zl, Zl, Zl, Zl, Zl, Zl, Zl, Zl, Zl, Zl, Zl, Zl, Zt⟩), Le.nil, Zl, Zt⟩)
 refine Rcl 6 q (Zq (y_buildA ar39 z39 q q) q (Zq (y_build p41 z41 q q) q ?_))
 obtain ⟨r34, hr34, h⟩ := bindS h
 refine WL.wing [2, 3, 4, 5] q q q q (f11_c _ _ _ _ _ _ _ _ hr34) ⟨Zl, (Le.agd ⟨Zl, Zl, Zl, Zl, Zl, Zl, Zl, Zl, Zl, Zl, Zl, Zl, Zl, Zl, Zl, Zl, Zl, Zl, Zl, Zt⟩), Zt⟩ q (by decide) (Re (Rg (Rf (Ro q)))) ⟨q, q, q, q, Zt⟩ Kv q (Zw q) q q (fun r' new hS => ?_)
 obtain ⟨i2_35, i3_35, rfl, rfl⟩ := hS
 refine ⟨_, _, q, (Re (Rg (Rf (Ro q)))), q, Kv, ?_⟩
 refine St q (Rl 3 q (WL.s0 (d_store q q q q q q s41 q q) (Zw q) q (WL.st (st' := [.row 41 (vecA 16 (fun j => .n (r34.1.r j)) ++ ([.n r34.1.pc, .n r34.1.exc, .n r34.1.defer] : List AV)), .dead, .row 90 (mR r32.2.1 r32.2.2.1 r32.2.2.2.1 r32.2.2.2.2.1 3 0 r34.2.2.2.1 5 i3_35), .os 42 1 0 (famE 4 i2_35 (List.length r34.2.2.2.2.1)), .fam 2 1 i2_35 (famM E2 r34.2.2.2.2.1), .os 2 1 i3_35 (eM E2 r34.2.2.2.2.2)]) q (Rlx 5 q ?_))))
 obtain rfl := Oi h
 exact we_ret_fn (rs3 q (rv_cN q q a41 s41 q) (rv_t q) (rv_t q)) (Le.tud ⟨(Le.agd ⟨Zl, Zl, Zl, Zl, Zl, Zl, Zl, Zl, Zl, Zl, Zl, Zl, Zl, Zl, Zl, Zl, Zl, Zl, Zl, Zt⟩), Zl, Zl, Zt⟩)
 replace h := condF h hb1
 obtain ⟨r36, hr36, h⟩ := bindS h
 refine WL.fn q q q q (f10b_c _ _ hr36) ⟨Zl, Zl, Zt⟩ (Zw q) q q (Rl 5 q (Zn (Rcc 7 q (Ci h q (fun h => ?_) (fun h => ?_)))))
 refine Rcl 2 q (Zq (y_build p41 z41 q q) q (Rl 1 q (WL.s0 (d_store q q q q q q s41 q q) (Zw q) q (St q (Rlx 6 q ?_)))))
 obtain rfl := Oi h
 exact we_ret_fn (rs3 q (rv_cN q q a41 s41 q) (rv_t q) (rv_t q)) (Le.tud ⟨(Le.agd ⟨Zl, Zl, Zl, Zl, Zl, Zl, Zl, Zl, Zl, Zl, Zl, Zl, Zl, Zl, Zl, Zl, Zl, Zl, Zl, Zt⟩), Le.nil, Zl, Zt⟩)
 refine Rcc 3 q ?_
 cases h

theorem f9_c  {r : Bool} (h : f9  = some r) : Pu Tryz.prog 9 [] (.b r) := by
 unfold f9 at h
 refine fn_intro Tryz.func9 (by kernel_rfl) q q q (fun φφ ww => ?_)
 refine Rcl 7 q (Zq (y_build p45 z45 q q) q ?_)
 obtain ⟨r146, hr146, h⟩ := bindS h
 refine WL.fn q q q q (f35_c _ _ hr146) ⟨(Le.agd ⟨Zl, Zl, Zl, Zl, Zl, Zl, Zl, Zt⟩), Zl, Zt⟩ (Zw q) q q (Rl 4 q (Al z41 q (WL.s0 (d_store q q q q q q s41 q q) (Zw q) q (WL.st (st' := [.row 41 (vecA 16 (fun j => .n (r146.1.r j)) ++ ([.n r146.1.pc, .n r146.1.exc, .n r146.1.defer] : List AV))]) q (Rll 6 q (Zq (y_build p45 z45 q q) q ?_))))))
 obtain ⟨r147, hr147, h⟩ := bindS h
 refine WL.fn q q q q (f35_c _ _ hr147) ⟨(Le.agd ⟨Zl, Zl, Zl, Zl, Zl, Zl, Zl, Zt⟩), Zl, Zt⟩ (Zw q) q q (Rl 4 q (Al z41 q (WL.s0 (d_store q q q q q q s41 q q) (Zw q) q (WL.st (st' := [.row 41 (vecA 16 (fun j => .n (r146.1.r j)) ++ ([.n r146.1.pc, .n r146.1.exc, .n r146.1.defer] : List AV)), .row 41 (vecA 16 (fun j => .n (r147.1.r j)) ++ ([.n r147.1.pc, .n r147.1.exc, .n r147.1.defer] : List AV))]) q (Rll 6 q (Zq (y_build p45 z45 q q) q ?_))))))
 obtain ⟨r148, hr148, h⟩ := bindS h
 refine WL.fn q q q q (f35_c _ _ hr148) ⟨(Le.agd ⟨Zl, Zl, Zl, Zl, Zl, Zl, Zl, Zt⟩), Zl, Zt⟩ (Zw q) q q (Rl 4 q (Al z41 q (WL.s0 (d_store q q q q q q s41 q q) (Zw q) q (WL.st (st' := [.row 41 (vecA 16 (fun j => .n (r146.1.r j)) ++ ([.n r146.1.pc, .n r146.1.exc, .n r146.1.defer] : List AV)), .row 41 (vecA 16 (fun j => .n (r147.1.r j)) ++ ([.n r147.1.pc, .n r147.1.exc, .n r147.1.defer] : List AV)), .row 41 (vecA 16 (fun j => .n (r148.1.r j)) ++ ([.n r148.1.pc, .n r148.1.exc, .n r148.1.defer] : List AV))]) q (Rll 6 q (Zq (y_build p45 z45 q q) q ?_))))))
 obtain ⟨r149, hr149, h⟩ := bindS h
 refine WL.fn q q q q (f35_c _ _ hr149) ⟨(Le.agd ⟨Zl, Zl, Zl, Zl, Zl, Zl, Zl, Zt⟩), Zl, Zt⟩ (Zw q) q q (Rl 4 q (Al z41 q (WL.s0 (d_store q q q q q q s41 q q) (Zw q) q (WL.st (st' := [.row 41 (vecA 16 (fun j => .n (r146.1.r j)) ++ ([.n r146.1.pc, .n r146.1.exc, .n r146.1.defer] : List AV)), .row 41 (vecA 16 (fun j => .n (r147.1.r j)) ++ ([.n r147.1.pc, .n r147.1.exc, .n r147.1.defer] : List AV)), .row 41 (vecA 16 (fun j => .n (r148.1.r j)) ++ ([.n r148.1.pc, .n r148.1.exc, .n r148.1.defer] : List AV)), .row 41 (vecA 16 (fun j => .n (r149.1.r j)) ++ ([.n r149.1.pc, .n r149.1.exc, .n r149.1.defer] : List AV))]) q (Rll 6 q (Zq (y_build p45 z45 q q) q ?_))))))
 obtain ⟨r150, hr150, h⟩ := bindS h
 refine WL.fn q q q q (f35_c _ _ hr150) ⟨(Le.agd ⟨Zl, Zl, Zl, Zl, Zl, Zl, Zl, Zt⟩), Zl, Zt⟩ (Zw q) q q (Rl 4 q (Al z41 q (WL.s0 (d_store q q q q q q s41 q q) (Zw q) q (WL.st (st' := [.row 41 (vecA 16 (fun j => .n (r146.1.r j)) ++ ([.n r146.1.pc, .n r146.1.exc, .n r146.1.defer] : List AV)), .row 41 (vecA 16 (fun j => .n (r147.1.r j)) ++ ([.n r147.1.pc, .n r147.1.exc, .n r147.1.defer] : List AV)), .row 41 (vecA 16 (fun j => .n (r148.1.r j)) ++ ([.n r148.1.pc, .n r148.1.exc, .n r148.1.defer] : List AV)), .row 41 (vecA 16 (fun j => .n (r149.1.r j)) ++ ([.n r149.1.pc, .n r149.1.exc, .n r149.1.defer] : List AV)), .row 41 (vecA 16 (fun j => .n (r150.1.r j)) ++ ([.n r150.1.pc, .n r150.1.exc, .n r150.1.defer] : List AV))]) q (Rll 6 q (Zq (y_build p45 z45 q q) q ?_))))))
 obtain ⟨r151, hr151, h⟩ := bindS h
 refine WL.fn q q q q (f35_c _ _ hr151) ⟨(Le.agd ⟨Zl, Zl, Zl, Zl, Zl, Zl, Zl, Zt⟩), Zl, Zt⟩ (Zw q) q q (Rl 4 q (Al z41 q (WL.s0 (d_store q q q q q q s41 q q) (Zw q) q (WL.st (st' := [.row 41 (vecA 16 (fun j => .n (r146.1.r j)) ++ ([.n r146.1.pc, .n r146.1.exc, .n r146.1.defer] : List AV)), .row 41 (vecA 16 (fun j => .n (r147.1.r j)) ++ ([.n r147.1.pc, .n r147.1.exc, .n r147.1.defer] : List AV)), .row 41 (vecA 16 (fun j => .n (r148.1.r j)) ++ ([.n r148.1.pc, .n r148.1.exc, .n r148.1.defer] : List AV)), .row 41 (vecA 16 (fun j => .n (r149.1.r j)) ++ ([.n r149.1.pc, .n r149.1.exc, .n r149.1.defer] : List AV)), .row 41 (vecA 16 (fun j => .n (r150.1.r j)) ++ ([.n r150.1.pc, .n r150.1.exc, .n r150.1.defer] : List AV)), .row 41 (vecA 16 (fun j => .n (r151.1.r j)) ++ ([.n r151.1.pc, .n r151.1.exc, .n r151.1.defer] : List AV))]) q (Rll 6 q (Zq (y_build p45 z45 q q) q ?_))))))
 obtain ⟨r152, hr152, h⟩ := bindS h
 refine WL.fn q q q q (f35_c _ _ hr152) ⟨(Le.agd ⟨Zl, Zl, Zl, Zl, Zl, Zl, Zl, Zt⟩), Zl, Zt⟩ (Zw q) q q (Rl 4 q (Al z41 q (WL.s0 (d_store q q q q q q s41 q q) (Zw q) q (WL.st (st' := [.row 41 (vecA 16 (fun j => .n (r146.1.r j)) ++ ([.n r146.1.pc, .n r146.1.exc, .n r146.1.defer] : List AV)), .row 41 (vecA 16 (fun j => .n (r147.1.r j)) ++ ([.n r147.1.pc, .n r147.1.exc, .n r147.1.defer] : List AV)), .row 41 (vecA 16 (fun j => .n (r148.1.r j)) ++ ([.n r148.1.pc, .n r148.1.exc, .n r148.1.defer] : List AV)), .row 41 (vecA 16 (fun j => .n (r149.1.r j)) ++ ([.n r149.1.pc, .n r149.1.exc, .n r149.1.defer] : List AV)), .row 41 (vecA 16 (fun j => .n (r150.1.r j)) ++ ([.n r150.1.pc, .n r150.1.exc, .n r150.1.defer] : List AV)), .row 41 (vecA 16 (fun j => .n (r151.1.r j)) ++ ([.n r151.1.pc, .n r151.1.exc, .n r151.1.defer] : List AV)), .row 41 (vecA 16 (fun j => .n (r152.1.r j)) ++ ([.n r152.1.pc, .n r152.1.exc, .n r152.1.defer] : List AV))]) q (Rll 7 q (Zq (y_build p41 z41 q q) q ?_))))))
 refine Zq (y_eqst (xs := [.int .i64 (r146.1.r 0), .int .i64 (r146.1.r 1), .int .i64 (r146.1.r 2), .int .i64 (r146.1.r 3), .int .i64 (r146.1.r 4), .int .i64 (r146.1.r 5), .int .i64 (r146.1.r 6), .int .i64 (r146.1.r 7), .int .i64 (r146.1.r 8), .int .i64 (r146.1.r 9), .int .i64 (r146.1.r 10), .int .i64 (r146.1.r 11), .int .i64 (r146.1.r 12), .int .i64 (r146.1.r 13), .int .i64 (r146.1.r 14), .int .i64 (r146.1.r 15), .int .i64 r146.1.pc, .int .i64 r146.1.exc, .int .i64 r146.1.defer]) (ys := [.int .i64 0, .int .i64 0, .int .i64 0, .int .i64 0, .int .i64 0, .int .i64 0, .int .i64 0, .int .i64 0, .int .i64 0, .int .i64 0, .int .i64 0, .int .i64 0, .int .i64 0, .int .i64 0, .int .i64 0, .int .i64 0, .int .i64 2, .int .i64 1, .int .i64 0]) (b := ((decide ((r146.1.r 0) = 0)) && ((decide ((r146.1.r 1) = 0)) && ((decide ((r146.1.r 2) = 0)) && ((decide ((r146.1.r 3) = 0)) && ((decide ((r146.1.r 4) = 0)) && ((decide ((r146.1.r 5) = 0)) && ((decide ((r146.1.r 6) = 0)) && ((decide ((r146.1.r 7) = 0)) && ((decide ((r146.1.r 8) = 0)) && ((decide ((r146.1.r 9) = 0)) && ((decide ((r146.1.r 10) = 0)) && ((decide ((r146.1.r 11) = 0)) && ((decide ((r146.1.r 12) = 0)) && ((decide ((r146.1.r 13) = 0)) && ((decide ((r146.1.r 14) = 0)) && ((decide ((r146.1.r 15) = 0)) && ((decide (r146.1.pc = 2)) && ((decide (r146.1.exc = 1)) && ((decide (r146.1.defer = 0)) && true)))))))))))))))))))) q41 q (Le.agd ⟨Zl, Zl, Zl, Zl, Zl, Zl, Zl, Zl, Zl, Zl, Zl, Zl, Zl, Zl, Zl, Zl, Zl, Zl, Zl, Zt⟩) q (Le.agd ⟨Zl, Zl, Zl, Zl, Zl, Zl, Zl, Zl, Zl, Zl, Zl, Zl, Zl, Zl, Zl, Zl, Zl, Zl, Zl, Zt⟩) q q q) q ?_
 refine Rl 1 q ?_
 apply WL.and 4 (t := 68) (d := 72)
 exact q
 intro hg68
 exact Rl 1 q (Zy (y_len_map E58 r146.2.1 e50 q q Zl) q q q (Rl 2 q (WL.nil ⟨q, [_, _, _, _], q, q, q⟩)))
 exact Rl 4 q (WL.nil ⟨q, [_, _, _, _], q, q, q⟩)
 refine Rl 1 q ?_
 obtain ⟨b153, hb153, h⟩ := bindS h
 apply WL.grp 6 (t := 73) (d := 79) (z := b153)
 exact q
 intro hg73
 have h := condT hb153 hg73
 refine Rl 1 q ?_
 obtain ⟨x154, hx154, h⟩ := bindS h
 refine Zy (y_indexAddr e50 q Zl q (idx_nonneg hx154) (idx_row E58_eq hx154) q) q q q (Rl 1 q (Zy (y_build p58 z58 q q) q q q (Zy (y_eqst (xs := [.int .i64 x154.time, .int .i64 x154.task, .int .u8 x154.kind, .int .i64 x154.a, .int .i64 x154.b, .int .i64 x154.n]) (ys := [.int .i64 0, .int .i64 0, .int .u8 5, .int .i64 1, .int .i64 0, .int .i64 0]) (b := ((decide (x154.time = 0)) && ((decide (x154.task = 0)) && ((decide (x154.kind = 5)) && ((decide (x154.a = 1)) && ((decide (x154.b = 0)) && ((decide (x154.n = 0)) && true))))))) q58 q Zl q (Le.agd ⟨Zl, Zl, Zl, Zl, Zl, Zl, Zt⟩) q q q) q q q (Rl 1 q ?_))))
 obtain rfl := Oi h
 exact WL.nil ⟨q, [_, _, _, _, _, _], q, q, q⟩
 intro hg73
 have h := condF hb153 hg73
 refine Rl 6 q ?_
 obtain rfl := Oi h
 exact WL.nil ⟨q, [_, _, _, _, _, _], q, q, q⟩
 refine Rl 1 q ?_
 apply WL.and 3 (t := 80) (d := 83)
 exact q
 intro hg80
 exact Rl 3 q (WL.nil ⟨q, [_, _, _], q, q, q⟩)
 exact Rl 3 q (WL.nil ⟨q, [_, _, _], q, q, q⟩)
 refine Rl 1 q ?_
 apply WL.and 3 (t := 84) (d := 87)
 exact q
 intro hg84
 exact Rl 3 q (WL.nil ⟨q, [_, _, _], q, q, q⟩)
 exact Rl 3 q (WL.nil ⟨q, [_, _, _], q, q, q⟩)
 refine Rl 1 q ?_
 apply WL.and 3 (t := 88) (d := 91)
 exact q
 intro hg88
 exact Rl 3 q (WL.nil ⟨q, [_, _, _], q, q, q⟩)
 exact Rl 3 q (WL.nil ⟨q, [_, _, _], q, q, q⟩)
 refine Rl 1 q ?_
 apply WL.and 3 (t := 92) (d := 95)
 exact q
 intro hg92
 exact Rl 3 q (WL.nil ⟨q, [_, _, _], q, q, q⟩)
 exact Rl 3 q (WL.nil ⟨q, [_, _, _], q, q, q⟩)
 refine Rl 1 q ?_
 apply WL.and 3 (t := 96) (d := 99)
 exact q
 intro hg96
 exact Rl 3 q (WL.nil ⟨q, [_, _, _], q, q, q⟩)
 exact Rl 3 q (WL.nil ⟨q, [_, _, _], q, q, q⟩)
 refine Rll 7 q ?_
 apply WL.and 3 (t := 101) (d := 104)
 exact q
 intro hg101
 exact Rl 3 q (WL.nil ⟨q, [_, _, _], q, q, q⟩)
 exact Rl 3 q (WL.nil ⟨q, [_, _, _], q, q, q⟩)
 refine Rl 1 q ?_
 apply WL.and 5 (t := 105) (d := 110)
 exact q
 intro hg105
 exact Rl 1 q (Zy (y_indexAddra ar39 q q (by decide) (by decide)) q q q (Zy (y_loadV (off := 0) (n := 16) (fun j => .n (r151.1.r j)) q q a2 q (by decide)) q q q (Rl 2 q (WL.nil ⟨q, [_, _, _, _, _], q, q, q⟩))))
 exact Rl 5 q (WL.nil ⟨q, [_, _, _, _, _], q, q, q⟩)
 refine Rl 1 q ?_
 apply WL.and 4 (t := 111) (d := 115)
 exact q
 intro hg111
 exact Rl 1 q (Zy (y_len_map E58 r151.2.1 e50 q q Zl) q q q (Rl 2 q (WL.nil ⟨q, [_, _, _, _], q, q, q⟩)))
 exact Rl 4 q (WL.nil ⟨q, [_, _, _, _], q, q, q⟩)
 refine Rl 1 q ?_
 obtain ⟨b155, hb155, h⟩ := bindS h
 apply WL.grp 6 (t := 116) (d := 122) (z := b155)
 exact q
 intro hg116
 have h := condT hb155 hg116
 refine Rl 1 q ?_
 obtain ⟨x156, hx156, h⟩ := bindS h
 refine Zy (y_indexAddr e50 q Zl q (idx_nonneg hx156) (idx_row E58_eq hx156) q) q q q (Rl 1 q (Zy (y_build p58 z58 q q) q q q (Zy (y_eqst (xs := [.int .i64 x156.time, .int .i64 x156.task, .int .u8 x156.kind, .int .i64 x156.a, .int .i64 x156.b, .int .i64 x156.n]) (ys := [.int .i64 0, .int .i64 0, .int .u8 2, .int .i64 8, .int .i64 0, .int .i64 0]) (b := ((decide (x156.time = 0)) && ((decide (x156.task = 0)) && ((decide (x156.kind = 2)) && ((decide (x156.a = 8)) && ((decide (x156.b = 0)) && ((decide (x156.n = 0)) && true))))))) q58 q Zl q (Le.agd ⟨Zl, Zl, Zl, Zl, Zl, Zl, Zt⟩) q q q) q q q (Rl 1 q ?_))))
 obtain rfl := Oi h
 exact WL.nil ⟨q, [_, _, _, _, _, _], q, q, q⟩
 intro hg116
 have h := condF hb155 hg116
 refine Rl 6 q ?_
 obtain rfl := Oi h
 exact WL.nil ⟨q, [_, _, _, _, _, _], q, q, q⟩
 refine Rl 1 q ?_
 apply WL.and 3 (t := 123) (d := 126)
 exact q
 intro hg123
 exact Rl 3 q (WL.nil ⟨q, [_, _, _], q, q, q⟩)
 exact Rl 3 q (WL.nil ⟨q, [_, _, _], q, q, q⟩)
 refine Rl 1 q ?_
 apply WL.and 5 (t := 127) (d := 132)
 exact q
 intro hg127
 exact Rl 1 q (Zy (y_indexAddra ar39 q q (by decide) (by decide)) q q q (Zy (y_loadV (off := 0) (n := 16) (fun j => .n (r152.1.r j)) q q a2 q (by decide)) q q q (Rl 2 q (WL.nil ⟨q, [_, _, _, _, _], q, q, q⟩))))
 exact Rl 5 q (WL.nil ⟨q, [_, _, _, _, _], q, q, q⟩)
 refine Rl 1 q ?_
 apply WL.and 4 (t := 133) (d := 137)
 exact q
 intro hg133
 exact Rl 4 q (WL.nil ⟨q, [_, _, _, _], q, q, q⟩)
 exact Rl 4 q (WL.nil ⟨q, [_, _, _, _], q, q, q⟩)
 refine Rl 1 q ?_
 apply WL.and 2 (t := 138) (d := 140)
 exact q
 intro hg138
 exact WL.fn q q q q (f36_c _) ⟨Zl, Zt⟩ (Wt.yes q q q) q q (Rl 1 q (WL.nil ⟨q, [_, _], q, q, q⟩))
 exact Rl 2 q (WL.nil ⟨q, [_, _], q, q, q⟩)
 refine Rl 1 q ?_
 apply WL.and 3 (t := 141) (d := 144)
 exact q
 intro hg141
 exact WL.fn q q q q (f36_c _) ⟨Zl, Zt⟩ (Wt.yes q q q) q q (Rl 2 q (WL.nil ⟨q, [_, _, _], q, q, q⟩))
 exact Rl 3 q (WL.nil ⟨q, [_, _, _], q, q, q⟩)
 exact Rlx 4 q (FA h)

theorem f4_c (t0 : Text) (in1 : List Int) (at2 : Int) (steps3 : Int) {r : Bool} (h : f4 t0 in1 at2 steps3 = some r) : Pu Tryz.prog 4 [.ag (R38 t0), .sl (List.map E2 in1), .i .i64 at2, .i .u16 steps3] (.b r) := by
 unfold f4 at h
 refine fn_intro Tryz.func4 (by kernel_rfl) q q q (fun φφ ww => ?_)
 refine Rcl 2 q (Bd q q (Zs _) q (Rll 7 q ?_))
 obtain ⟨r114, hr114, h⟩ := bindS h
 refine WL.fn q q q q (f12_c _ hr114) ⟨Zl, Zt⟩ (Zw q) q q (Rl 1 q ?_)
 apply WL.or 4 (t := 22) (d := 26)
 exact q
 intro hg22
 exact Rl 1 q (Zy (y_len_map E2 in1 e42 q q Zl) q q q (Rl 2 q (WL.nil ⟨q, [_, _, _, _], q, q, q⟩)))
 exact Rl 4 q (WL.nil ⟨q, [_, _, _, _], q, q, q⟩)
 refine Rl 1 q ?_
 apply WL.or 3 (t := 27) (d := 30)
 exact q
 intro hg27
 exact Rl 3 q (WL.nil ⟨q, [_, _, _], q, q, q⟩)
 exact Rl 3 q (WL.nil ⟨q, [_, _, _], q, q, q⟩)
 refine Rlc 2 q (Ci h q (fun h => ?_) (fun h => ?_))
 refine Rcl 2 q ?_
 obtain ⟨r115, hr115, h⟩ := bindS h
 exact WL.fn q q q q (f9_c hr115) Zt (Zw q) q q (Rlx 5 q (FA h))
 refine Rcl 6 q ?_
 obtain ⟨b116, hb116, h⟩ := bindS h
 rcases boolCases b116 with hb1 | hb1
 replace h := condT h hb1
 refine Gh.wl gh_rsv (Gh.wl gh_rsv (Gh.wl gh_rsv (Gh.wl gh_rsv ?_)))
 obtain ⟨r117, hr117, h⟩ := bindS h
 refine WL.wing [0, 1, 2, 3] q q q q (f10_c _ _ hr117 (vo := 0) (vf := 0) (vu := 0)) ⟨Zl, Zl, Zt⟩ q (by decide) (Re (Re (Re (Re q)))) ⟨q, q, q, q, Zt⟩ q q (Zw q) q q (fun r' new hS => ?_)
 obtain ⟨rfl, rfl⟩ := hS
 refine ⟨_, _, q, (Re (Rg (Rf (Ro q)))), q, Kv, ?_⟩
 refine St q (Rl 5 q (Zn (Rcc 7 q (Ci h q (fun h => ?_) (fun h => ?_)))))
 refine Rcl 2 q ?_
 obtain ⟨r119, hr119, h⟩ := bindS h
 exact WL.fn q q q q (f9_c hr119) Zt (Zw q) q q (Rlx 5 q (FA h))
 refine Rcl 5 q (Zq (y_build p41 z41 q q) q (Al z41 q (WL.s0 (d_store q q q q q q s41 q q) (Zw q) q (St q (Rll 5 q (WL.nil_os 12 2 1 q (Rl 1 q (WL.nil_os 13 2 1 q (Rlc 2 q ?_)))))))))
 replace h := letkS h
 obtain ⟨k133, hk133, h⟩ := h
 refine wc_cut (fun env' st' => ∃ (l120 : List (List Int)), ∃ (ver121 : Nat), ∃ (l122 : List Int), ∃ (ver123 : Nat), ∃ (l124 : List Int), ∃ (ver125 : Nat), ∃ (l126 : List Int), ∃ (ver127 : Nat), ∃ (c05128 : List Int), ∃ (c40129 : Nat → Int), ∃ (c416130 : Int), ∃ (c417131 : Int), ∃ (c418132 : Int), k133 l120 l122 l124 l126 c05128 c40129 c416130 c417131 c418132 = some r ∧ Sub [(1, .l E2 in1), (9, .pt 0 0), (12, .os 5 ver125), (13, .os 6 ver127)] env' ∧ SLe st' [.row 90 (mR r117.2.1 r117.2.2.1 r117.2.2.2.1 r117.2.2.2.2.1 1 0 c05128 3 ver123), .os 42 1 0 (famE 2 ver121 (List.length l120)), .fam 2 1 ver121 (famM E2 l120), .os 2 1 ver123 (eM E2 l122), .row 41 (vecA 16 (fun j => .n (c40129 j)) ++ ([.n c416130, .n c417131, .n c418132] : List AV)), .os 2 1 ver125 (eM E2 l124), .os 2 1 ver127 (eM E2 l126)]) ?_ ?_
 refine Rcc 6 q ?_
 refine wc_loop (fun n env' st' => ∃ (iq148 : Int), ∃ (l149 : List (List Int)), ∃ (ver150 : Nat), ∃ (l151 : List Int), ∃ (ver152 : Nat), ∃ (l153 : List Int), ∃ (ver154 : Nat), ∃ (l155 : List Int), ∃ (ver156 : Nat), ∃ (c05157 : List Int), ∃ (c40158 : Nat → Int), ∃ (c416159 : Int), ∃ (c417160 : Int), ∃ (c418161 : Int), f4_l1 steps3 r117 k133 n iq148 l149 l151 l153 l155 c05157 c40158 c416159 c417160 c418161 = some r ∧ Sub [(1, .l E2 in1), (3, .d (D.i .u16 steps3)), (9, .pt 0 0), (11, .pt 4 0), (12, .os 5 ver154), (13, .os 6 ver156), (14, .n iq148)] env' ∧ SLe st' [.row 90 (mR r117.2.1 r117.2.2.1 r117.2.2.2.1 r117.2.2.2.2.1 1 0 c05157 3 ver152), .os 42 1 0 (famE 2 ver150 (List.length l149)), .fam 2 1 ver150 (famM E2 l149), .os 2 1 ver152 (eM E2 l151), .row 41 (vecA 16 (fun j => .n (c40158 j)) ++ ([.n c416159, .n c417160, .n c418161] : List AV)), .os 2 1 ver154 (eM E2 l153), .os 2 1 ver156 (eM E2 l155)]) (fun n => n) 9223372036854775808 ⟨0, r117.2.2.2.2.2.2.1, _, r117.2.2.2.2.2.2.2, _, [], _, [], _, r117.2.2.2.2.2.1, (fun j => 0), at2, 0, 0, h, (Sx q (Sx q (Sx q (Sx q (Sx q (Sx q (Sx q (Sub.nil _)))))))), ⟨Zp, Zf, Zf, Zf, Zp, Zf, Zf, Zt⟩⟩ ?_
 rintro n env1 st1 ⟨iq148, l149, ver150, l151, ver152, l153, ver154, l155, ver156, c05157, c40158, c416159, c417160, c418161, h, hsub, hst⟩
 rcases n with _ | n
 rw [f4_l1] at h; cases h
 rw [f4_l1] at h
 refine WC.sub hsub (WC.weak hst ?_)
 refine Rcc 9 q (Ci h q (fun h => ?_) (fun h => ?_))
 refine Rcc 2 q ?_
 replace h := letkS h
 obtain ⟨k193, hk193, h⟩ := h
 refine wc_cut (fun env' st' => ∃ (l176 : List (List Int)), ∃ (ver177 : Nat), ∃ (l178 : List Int), ∃ (ver179 : Nat), ∃ (l180 : List Int), ∃ (ver181 : Nat), ∃ (l182 : List Int), ∃ (ver183 : Nat), ∃ (c05184 : List Int), ∃ (c40185 : Nat → Int), ∃ (c416186 : Int), ∃ (c417187 : Int), ∃ (c418188 : Int), ∃ (c70189 : Nat → Int), ∃ (c716190 : Int), ∃ (c717191 : Int), ∃ (c718192 : Int), k193 l176 l178 l180 l182 c05184 c40185 c416186 c417187 c418188 c70189 c716190 c717191 c718192 = some r ∧ Sub [(1, .l E2 in1), (3, .d (D.i .u16 steps3)), (9, .pt 0 0), (11, .pt 4 0), (12, .os 5 ver181), (13, .os 6 ver183), (14, .n iq148)] env' ∧ SLe st' [.row 90 (mR r117.2.1 r117.2.2.1 r117.2.2.2.1 r117.2.2.2.2.1 1 0 c05184 3 ver179), .os 42 1 0 (famE 2 ver177 (List.length l176)), .fam 2 1 ver177 (famM E2 l176), .os 2 1 ver179 (eM E2 l178), .row 41 (vecA 16 (fun j => .n (c40185 j)) ++ ([.n c416186, .n c417187, .n c418188] : List AV)), .os 2 1 ver181 (eM E2 l180), .os 2 1 ver183 (eM E2 l182), .row 41 (vecA 16 (fun j => .n (c70189 j)) ++ ([.n c716190, .n c717191, .n c718192] : List AV))]) ?_ ?_
 refine Rcl 5 q ?_
 obtain ⟨r194, hr194, h⟩ := bindS h
 refine WL.wing [0, 1, 2, 3] q q q q (f11_c _ _ _ _ _ _ _ _ hr194) ⟨Zl, (Le.agd ⟨Zl, Zl, Zl, Zl, Zl, Zl, Zl, Zl, Zl, Zl, Zl, Zl, Zl, Zl, Zl, Zl, Zl, Zl, Zl, Zt⟩), Zt⟩ q (by decide) (Re (Rg (Rf (Ro q)))) ⟨q, q, q, q, Zt⟩ Kv q (Zw q) q q (fun r' new hS => ?_)
 obtain ⟨i2_195, i3_195, rfl, rfl⟩ := hS
 refine ⟨_, _, q, (Re (Rg (Rf (Ro q)))), q, Kv, ?_⟩
 refine WL.st (st' := [.row 90 (mR r117.2.1 r117.2.2.1 r117.2.2.2.1 r117.2.2.2.2.1 1 0 r194.2.2.2.1 3 i3_195), .os 42 1 0 (famE 2 i2_195 (List.length r194.2.2.2.2.1)), .fam 2 1 i2_195 (famM E2 r194.2.2.2.2.1), .os 2 1 i3_195 (eM E2 r194.2.2.2.2.2), .row 41 (vecA 16 (fun j => .n (c40158 j)) ++ ([.n c416159, .n c417160, .n c418161] : List AV)), .os 2 1 ver154 (eM E2 l153), .os 2 1 ver156 (eM E2 l155)]) q (Rl 4 q (Al z41 q (WL.s0 (d_store q q q q q q s41 q q) (Zw q) q (WL.st (st' := [.row 90 (mR r117.2.1 r117.2.2.1 r117.2.2.2.1 r117.2.2.2.2.1 1 0 r194.2.2.2.1 3 i3_195), .os 42 1 0 (famE 2 i2_195 (List.length r194.2.2.2.2.1)), .fam 2 1 i2_195 (famM E2 r194.2.2.2.2.1), .os 2 1 i3_195 (eM E2 r194.2.2.2.2.2), .row 41 (vecA 16 (fun j => .n (c40158 j)) ++ ([.n c416159, .n c417160, .n c418161] : List AV)), .os 2 1 ver154 (eM E2 l153), .os 2 1 ver156 (eM E2 l155), .row 41 (vecA 16 (fun j => .n (r194.1.r j)) ++ ([.n r194.1.pc, .n r194.1.exc, .n r194.1.defer] : List AV))]) q (Rlc 11 q (Ci h q (fun h => ?_) (fun h => ?_)))))))
 exact Rcx 6 q (WE.drop 7 (env' := [(1, .l E2 in1), (9, .pt 0 0), (12, .os 5 ver154), (13, .os 6 ver156)]) (Sub.one q (Sub.one q (Sub.one q (Sub.one q (Sub.nil _))))) q Kv (Nat.zero_le _) (En13 h))
 refine Rcc 2 q ?_
 replace h := letkS h
 obtain ⟨k201, hk201, h⟩ := h
 refine wc_cut (fun env' st' => ∃ (l196 : List Int), ∃ (ver197 : Nat), ∃ (l198 : List Int), ∃ (ver199 : Nat), ∃ (c40200 : Nat → Int), k201 l196 l198 c40200 = some r ∧ Sub [(1, .l E2 in1), (3, .d (D.i .u16 steps3)), (9, .pt 0 0), (11, .pt 4 0), (12, .os 5 ver197), (13, .os 6 ver199), (14, .n iq148), (15, .pt 7 0)] env' ∧ SLe st' [.row 90 (mR r117.2.1 r117.2.2.1 r117.2.2.2.1 r117.2.2.2.2.1 1 0 r194.2.2.2.1 3 i3_195), .os 42 1 0 (famE 2 i2_195 (List.length r194.2.2.2.2.1)), .fam 2 1 i2_195 (famM E2 r194.2.2.2.2.1), .os 2 1 i3_195 (eM E2 r194.2.2.2.2.2), .row 41 (vecA 16 (fun j => .n (c40200 j)) ++ ([.n c416159, .n c417160, .n c418161] : List AV)), .os 2 1 ver197 (eM E2 l196), .os 2 1 ver199 (eM E2 l198), .row 41 (vecA 16 (fun j => .n (r194.1.r j)) ++ ([.n r194.1.pc, .n r194.1.exc, .n r194.1.defer] : List AV))]) ?_ ?_
 refine Rcc 6 q ?_
 refine wc_loop (fun na env' st' => ∃ (k208 : Int), ∃ (l209 : List Int), ∃ (ver210 : Nat), ∃ (l211 : List Int), ∃ (ver212 : Nat), ∃ (c40213 : Nat → Int), f4_l2 r194 k201 na k208 l209 l211 c40213 = some r ∧ Sub [(1, .l E2 in1), (3, .d (D.i .u16 steps3)), (9, .pt 0 0), (11, .pt 4 0), (12, .os 5 ver210), (13, .os 6 ver212), (14, .n iq148), (15, .pt 7 0), (16, .l E58 r194.2.1), (18, .n k208)] env' ∧ SLe st' [.row 90 (mR r117.2.1 r117.2.2.1 r117.2.2.2.1 r117.2.2.2.2.1 1 0 r194.2.2.2.1 3 i3_195), .os 42 1 0 (famE 2 i2_195 (List.length r194.2.2.2.2.1)), .fam 2 1 i2_195 (famM E2 r194.2.2.2.2.1), .os 2 1 i3_195 (eM E2 r194.2.2.2.2.2), .row 41 (vecA 16 (fun j => .n (c40213 j)) ++ ([.n c416159, .n c417160, .n c418161] : List AV)), .os 2 1 ver210 (eM E2 l209), .os 2 1 ver212 (eM E2 l211), .row 41 (vecA 16 (fun j => .n (r194.1.r j)) ++ ([.n r194.1.pc, .n r194.1.exc, .n r194.1.defer] : List AV))]) (fun n => n) 9223372036854775808 ⟨0, l153, _, l155, _, c40158, h, (Sx q (Sx q (Sx q (Sx q (Sx q (Sx q (Sx q (Sx q (Sx q (Sx q (Sub.nil _))))))))))), ⟨Zp, Zf, Zf, Zf, Zp, Zf, Zf, Zp, Zt⟩⟩ ?_
 rintro na env1 st1 ⟨k208, l209, ver210, l211, ver212, c40213, h, hsub, hst⟩
 rcases na with _ | na
 rw [f4_l2] at h; cases h
 rw [f4_l2] at h
 refine WC.sub hsub (WC.weak hst ?_)
 refine Rcl 5 q (Zq (y_len_map E58 r194.2.1 e50 q q Zl) q (Rlc 3 q (Ci h q (fun h => ?_) (fun h => ?_))))
 refine Rcc 2 q ?_
 replace h := letkS h
 obtain ⟨k225, hk225, h⟩ := h
 refine wc_cut (fun env' st' => ∃ (l220 : List Int), ∃ (ver221 : Nat), ∃ (l222 : List Int), ∃ (ver223 : Nat), ∃ (c40224 : Nat → Int), k225 l220 l222 c40224 = some r ∧ Sub [(1, .l E2 in1), (3, .d (D.i .u16 steps3)), (9, .pt 0 0), (11, .pt 4 0), (12, .os 5 ver221), (13, .os 6 ver223), (14, .n iq148), (15, .pt 7 0), (16, .l E58 r194.2.1), (18, .n k208)] env' ∧ SLe st' [.row 90 (mR r117.2.1 r117.2.2.1 r117.2.2.2.1 r117.2.2.2.2.1 1 0 r194.2.2.2.1 3 i3_195), .os 42 1 0 (famE 2 i2_195 (List.length r194.2.2.2.2.1)), .fam 2 1 i2_195 (famM E2 r194.2.2.2.2.1), .os 2 1 i3_195 (eM E2 r194.2.2.2.2.2), .row 41 (vecA 16 (fun j => .n (c40224 j)) ++ ([.n c416159, .n c417160, .n c418161] : List AV)), .os 2 1 ver221 (eM E2 l220), .os 2 1 ver223 (eM E2 l222), .row 41 (vecA 16 (fun j => .n (r194.1.r j)) ++ ([.n r194.1.pc, .n r194.1.exc, .n r194.1.defer] : List AV))]) ?_ ?_
 refine Rcc 1 q ?_
 replace h := letkS h
 obtain ⟨k229, hk229, h⟩ := h
 refine wc_cut (fun env' st' => ∃ (l226 : List Int), ∃ (ver227 : Nat), ∃ (c40228 : Nat → Int), k229 l226 c40228 = some r ∧ Sub [(1, .l E2 in1), (3, .d (D.i .u16 steps3)), (9, .pt 0 0), (11, .pt 4 0), (12, .os 5 ver227), (13, .os 6 ver212), (14, .n iq148), (15, .pt 7 0), (16, .l E58 r194.2.1), (18, .n k208)] env' ∧ SLe st' [.row 90 (mR r117.2.1 r117.2.2.1 r117.2.2.2.1 r117.2.2.2.2.1 1 0 r194.2.2.2.1 3 i3_195), .os 42 1 0 (famE 2 i2_195 (List.length r194.2.2.2.2.1)), .fam 2 1 i2_195 (famM E2 r194.2.2.2.2.1), .os 2 1 i3_195 (eM E2 r194.2.2.2.2.2), .row 41 (vecA 16 (fun j => .n (c40228 j)) ++ ([.n c416159, .n c417160, .n c418161] : List AV)), .os 2 1 ver227 (eM E2 l226), .os 2 1 ver212 (eM E2 l211), .row 41 (vecA 16 (fun j => .n (r194.1.r j)) ++ ([.n r194.1.pc, .n r194.1.exc, .n r194.1.defer] : List AV))]) ?_ ?_
 refine Rcl 4 q (Ix h e50 E58_eq q Zl q q fun x230 _ h => (Rlc 5 q (Ci h q (fun h => ?_) (fun h => ?_))))
 refine Rcl 4 q (Ix h e50 E58_eq q Zl q q fun x231 _ h => (Rl 2 q (WL.s ((NewOs.b (n_buildSlice l42 z2 q (by decide) (by decide) q q q (by decide))).does) (Zw q) q q ?_)))
 replace h := guardBS h
 obtain ⟨hgg232, h⟩ := h
 exact WL.s (d_appendL E2 l209 [x231.a] l42 z2 q (by decide) q q q q (Src.own q) (fun _ => q) (fun _ => q) hgg232) (Zw q) q q (Rlx 2 q (WE.drop 8 (env' := [(1, .l E2 in1), (3, .d (D.i .u16 steps3)), (9, .pt 0 0), (11, .pt 4 0), (12, .os 5 (ver210 + 1)), (13, .os 6 ver212), (14, .n iq148), (15, .pt 7 0), (16, .l E58 r194.2.1), (18, .n k208)]) (Sub.one q (Sub.one q (Sub.one q (Sub.one q (Sub.one q (Sub.one q (Sub.one q (Sub.one q (Sub.one q (Sub.one q (Sub.nil _))))))))))) q Kv (Nat.zero_le _) (En3 h)))
 exact Rcx 1 q (En3 h)
 rintro env1 st1 ⟨l226, ver227, c40228, h, hsub, hst⟩
 subst hk229
 dsimp only at h
 refine WC.sub hsub (WC.weak hst ?_)
 refine Rcl 4 q (Ix h e50 E58_eq q Zl q q fun x233 _ h => (Rlc 5 q (Ci h q (fun h => ?_) (fun h => ?_))))
 refine Rcl 4 q (Ix h e50 E58_eq q Zl q q fun x234 _ h => (Rl 2 q (WL.s ((NewOs.b (n_buildSlice l42 z2 q (by decide) (by decide) q q q (by decide))).does) (Zw q) q q ?_)))
 replace h := guardBS h
 obtain ⟨hgg235, h⟩ := h
 exact WL.s (d_appendL E2 l211 [x234.a] l42 z2 q (by decide) q q q q (Src.own q) (fun _ => q) (fun _ => q) hgg235) (Zw q) q q (Rlx 3 q (WE.drop 8 (env' := [(1, .l E2 in1), (3, .d (D.i .u16 steps3)), (9, .pt 0 0), (11, .pt 4 0), (12, .os 5 ver227), (13, .os 6 (ver212 + 1)), (14, .n iq148), (15, .pt 7 0), (16, .l E58 r194.2.1), (18, .n k208)]) (Sub.one q (Sub.one q (Sub.one q (Sub.one q (Sub.one q (Sub.one q (Sub.one q (Sub.one q (Sub.one q (Sub.one q (Sub.nil _))))))))))) q Kv (Nat.zero_le _) (En5 h)))
 exact Rcx 2 q (En5 h)
 rintro env1 st1 ⟨l220, ver221, l222, ver223, c40224, h, hsub, hst⟩
 subst hk225
 dsimp only at h
 refine WC.sub hsub (WC.weak hst ?_)
 exact Rcx 5 q (Fn6 h)
 exact Rcx 4 q (En5 h)
 rintro env1 st1 ⟨l196, ver197, l198, ver199, c40200, h, hsub, hst⟩
 subst hk201
 dsimp only at h
 refine WC.sub hsub (WC.weak hst ?_)
 exact Rcl 2 q (WL.s0 (d_store q q q q q q s41 q q) (Zw q) q (WL.st (st' := [.row 90 (mR r117.2.1 r117.2.2.1 r117.2.2.2.1 r117.2.2.2.2.1 1 0 r194.2.2.2.1 3 i3_195), .os 42 1 0 (famE 2 i2_195 (List.length r194.2.2.2.2.1)), .fam 2 1 i2_195 (famM E2 r194.2.2.2.2.1), .os 2 1 i3_195 (eM E2 r194.2.2.2.2.2), .row 41 (vecA 16 (fun j => .n (r194.1.r j)) ++ ([.n r194.1.pc, .n r194.1.exc, .n r194.1.defer] : List AV)), .os 2 1 ver197 (eM E2 l196), .os 2 1 ver199 (eM E2 l198), .row 41 (vecA 16 (fun j => .n (r194.1.r j)) ++ ([.n r194.1.pc, .n r194.1.exc, .n r194.1.defer] : List AV))]) q (Rlx 2 q (En17 h))))
 rintro env1 st1 ⟨l176, ver177, l178, ver179, l180, ver181, l182, ver183, c05184, c40185, c416186, c417187, c418188, c70189, c716190, c717191, c718192, h, hsub, hst⟩
 subst hk193
 dsimp only at h
 refine WC.sub hsub (WC.weak hst ?_)
 exact Rcx 5 q (WE.drop 7 (env' := [(1, .l E2 in1), (3, .d (D.i .u16 steps3)), (9, .pt 0 0), (11, .pt 4 0), (12, .os 5 ver181), (13, .os 6 ver183), (14, .n (IntKind.i64.wrap (iq148 + 1)))]) (Sub.one q (Sub.one q (Sub.one q (Sub.one q (Sub.one q (Sub.one q (Sub.one q (Sub.nil _)))))))) q Kv (Nat.zero_le _) (Fn14 h))
 exact Rcx 4 q (En13 h)
 rintro env1 st1 ⟨l120, ver121, l122, ver123, l124, ver125, l126, ver127, c05128, c40129, c416130, c417131, c418132, h, hsub, hst⟩
 subst hk133
 dsimp only at h
 refine WC.sub hsub (WC.weak hst ?_)
 refine Rcl 4 q ?_
 obtain ⟨r236, hr236, h⟩ := bindS h
 refine WL.wing [0, 1, 2, 3] q q q q (f13_c _ _ _ _ _ _ _ hr236) ⟨Zl, Zt⟩ q (by decide) (Re (Rg (Rf (Ro q)))) ⟨q, q, q, q, Zt⟩ Kv q (Zw q) q q (fun r' new hS => ?_)
 obtain ⟨rfl, rfl⟩ := hS
 refine ⟨_, _, q, (Re (Rg (Rf (Ro q)))), q, Kv, ?_⟩
 refine WL.st (st' := [.row 90 (mR r117.2.1 r117.2.2.1 r117.2.2.2.1 r117.2.2.2.2.1 1 0 c05128 3 ver123), .os 42 1 0 (famE 2 ver121 (List.length l120)), .fam 2 1 ver121 (famM E2 l120), .os 2 1 ver123 (eM E2 l122), .row 41 (vecA 16 (fun j => .n (c40129 j)) ++ ([.n c416130, .n c417131, .n c418132] : List AV)), .os 2 1 ver125 (eM E2 l124), .os 2 1 ver127 (eM E2 l126)]) q ?_
 replace h := guardBS h
 obtain ⟨hgg238, h⟩ := h
 refine WL.s (d_appendL E2 l124 r236 l42 z2 q (by decide) q q q q (Src.dataL Zl E2_eq (fun _ => q)) (fun _ => q) (fun _ => q) hgg238) (Zw q) q q (Rll 7 q ?_)
 refine WL.freezeX [96, 19, 97] [] 5 (List.map E2 (l124 ++ r236)) q (encA_map E2_eq (l124 ++ r236)) ⟨q, q, q, Zt⟩ Zt ?_
 obtain ⟨r239, hr239, h⟩ := bindS h
 refine WL.fn q q q q (f14_c _ _ hr239) ⟨Zl, Zl, Zt⟩ (Zw q) q q (Rl 1 q (WL.split (t := 100) q (fun hb2 => ?_) (fun hb2 => ?_)))
 replace h := condT h hb2
 refine Rl 2 q ?_
 obtain ⟨r240, hr240, h⟩ := bindS h
 refine WL.wing [0, 1, 2, 3] q q q q (f15_c _ _ _ _ _ _ _ hr240) ⟨Zl, Zt⟩ q (by decide) (Re (Rg (Rf (Ro q)))) ⟨q, q, q, q, Zt⟩ Kv q (Wt.yes q q q) q q (fun r' new hS => ?_)
 obtain ⟨rfl, rfl⟩ := hS
 refine ⟨_, _, q, (Re (Rg (Rf (Ro q)))), q, Kv, ?_⟩
 refine WL.st (st' := [.row 90 (mR r117.2.1 r117.2.2.1 r117.2.2.2.1 r117.2.2.2.2.1 1 0 c05128 3 ver123), .os 42 1 0 (famE 2 ver121 (List.length l120)), .fam 2 1 ver121 (famM E2 l120), .os 2 1 ver123 (eM E2 l122), .row 41 (vecA 16 (fun j => .n (c40129 j)) ++ ([.n c416130, .n c417131, .n c418132] : List AV)), .dead, .os 2 1 ver127 (eM E2 l126)]) q ?_
 refine WL.freezeX [13, 101] [] 6 (List.map E2 l126) q (encA_map E2_eq l126) ⟨q, q, Zt⟩ Zt ?_
 obtain ⟨r242, hr242, h⟩ := bindS h
 refine WL.fn q q q q (f14_c _ _ hr242) ⟨Zl, Zl, Zt⟩ (Wt.yes q q q) q q (Rl 2 q ?_)
 obtain ⟨b243, hb243, h⟩ := bindS h
 apply WL.grp 2 (t := 106) (d := 108) (z := b243)
 exact q
 intro hg106
 have h := condT hb243 hg106
 obtain ⟨r244, hr244, h⟩ := bindS h
 refine WL.fn q q q q (f9_c hr244) Zt (Wt.yes q q q) q q (Rl 1 q ?_)
 obtain rfl := Oi h
 exact WL.nil ⟨q, [_, _], q, q, q⟩
 intro hg106
 have h := condF hb243 hg106
 refine Rl 2 q ?_
 obtain rfl := Oi h
 exact WL.nil ⟨q, [_, _], q, q, q⟩
 exact Rl 1 q (Zn (Rcx 1 q (FA h)))
 replace h := condF h hb2
 exact Rl 9 q (Zn (Rcx 1 q (FA h)))
 replace h := condF h hb1
 obtain ⟨r245, hr245, h⟩ := bindS h
 refine WL.fn q q q q (f10b_c _ _ hr245) ⟨Zl, Zl, Zt⟩ (Zw q) q q (Rl 5 q (Zn (Rcc 7 q (Ci h q (fun h => ?_) (fun h => ?_)))))
 refine Rcl 2 q ?_
 obtain ⟨r246, hr246, h⟩ := bindS h
 exact WL.fn q q q q (f9_c hr246) Zt (Zw q) q q (Rlx 5 q (FA h))
 refine Rcl 5 q (Zq (y_build p41 z41 q q) q (Al z41 q (WL.s0 (d_store q q q q q q s41 q q) (Zw q) q (St q (Rll 5 q (WL.nil_os 12 2 1 q (Rl 1 q (WL.nil_os 13 2 1 q (Rlc 2 q (Jn0 [(1, .l E2 in1), (9, .d (.v (.pointer none))), (12, .os 1 0), (13, .os 2 0)] [.row 41 [.n 0, .n 0, .n 0, .n 0, .n 0, .n 0, .n 0, .n 0, .n 0, .n 0, .n 0, .n 0, .n 0, .n 0, .n 0, .n 0, .n at2, .n 0, .n 0], .os 2 1 0 (eM E2 []), .os 2 1 0 (eM E2 [])] h (fun k247 h => ?_) (fun h => ?_)))))))))))
 refine Rcc 6 q (Ln0 [(1, .l E2 in1), (3, .d (D.i .u16 steps3)), (9, .d (.v (.pointer none))), (11, .pt 0 0), (12, .os 1 0), (13, .os 2 0), (14, .n 0)] [.row 41 [.n 0, .n 0, .n 0, .n 0, .n 0, .n 0, .n 0, .n 0, .n 0, .n 0, .n 0, .n 0, .n 0, .n 0, .n 0, .n 0, .n at2, .n 0, .n 0], .os 2 1 0 (eM E2 []), .os 2 1 0 (eM E2 [])] (f4_l3 steps3 k247) h (fun h => by rw [f4_l3] at h; cases h) (fun n h => ?_))
 rw [f4_l3] at h
 refine Rcc 9 q (Ci h q (fun h => ?_) (fun h => ?_))
 refine Rcc 5 q ?_
 cases h
 exact Rcx 4 q (En0 h)
 refine Rcc 1 q ?_
 cases h

end Go.Proofs.YtkbahggepncliaaGreatDoor
