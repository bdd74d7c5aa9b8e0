/- The walks of functions. -/
import Derived.Test.YtkbahggepncliaaGreatDoorX
import Derived.Test.YtkbahggepncliaaGreatDoorWa
set_option linter.unusedVariables false
set_option linter.unusedSimpArgs false
set_option linter.unusedSectionVars false
set_option linter.unnecessarySimpa false
set_option maxHeartbeats 4000000
set_option maxRecDepth 100000
namespace Go.Proofs.YtkbahggepncliaaGreatDoor
open Go Go.Sk

theorem f87_c (tR : Nat → Int) (tP : Int) (tX : Int) (tD : Int) (mI : List Insn) (mH : List MHandler) (mO : List Obj) (mE : Int) (mN : List Int) (mS : List (List Int)) (mU : List Int) (tA : List Act) (x1 : Insn) {vo : Nat} {vf : Nat} {vu : Nat} {va : Nat} {r : Rs ((Nat → Int) × Int × Int × Int)} (h : f87 tR tP tX tD mI mH mO mE mN mS mU tA x1 = some r) : CtrP Tryz.prog 87 [.pt 0 0,.d (.ag (R45 x1))] (wT tR tP tX tD va mI mH mO mE vo mN vu vf mS mU tA) (WinG 6 (fun r' new => ∃ (z : (Nat → Int) × Int × Int × Int),r = .ok z ∧ r' = .d (.tu []) ∧ new = [.row 116 (([.pt 1 0] : List AV) ++ (vecA 16 (fun j => .n (z.1 j)) ++ ([.n z.2.1,.n z.2.2.1,.n z.2.2.2,.os 5 va] : List AV) : List AV)),.row 90 (mR mI mH mO mE 2 vo mN 4 vu),.os 42 1 vo (famE 3 vf (List.length mS)),.fam 2 1 vf (famM E2 mS),.os 2 1 vu (eM E2 mU),.os 58 6 va (eM R58 tA)])) (WinGP 6 (fun c new => ∃ (ee : Int),r = .bad ee ∧ c = wrongP ee ∧ new = (wD mI mH mO mE vo mN vu vf mS mU))):=by
 unfold f87 at h
 refine ctrP_intro Tryz.func87 (by kernel_rfl) q q q (fun mm φφ ww hmm => ?_)
 refine Rcl 2 q (Bd q q (Zs _) q (Rlc 2 q (Jn2 (fun _ _ => [(0,.pt 0 0)]) (fun c0190 c01991 => [.row 116 (tQ 1 c0190 tP tX c01991 5 va),.row 90 (mR mI mH mO mE 2 vo mN 4 vu),.os 42 1 vo (famE 3 vf (List.length mS)),.fam 2 1 vf (famM E2 mS),.os 2 1 vu (eM E2 mU),.os 58 6 va (eM R58 tA)]) h (fun _ h => ?_) (fun c0190 c01991 h => ?_))))
 refine Rcc 13 q (Ci h q (fun h => ?_) (fun h => ?_))
 replace h:=guardBS h
 obtain ⟨hgg93,h⟩:=h
 apply RT [_,_,_,_,_,_,_,_,_,.u] [9] [[.row 116 (([.pt 1 0] : List AV) ++ (vecA 16 (fun j => .n ((vset tR (Int.toNat x1.d) x1.n) j)) ++ ([.n tP,.n tX,.n tD,.os 5 va] : List AV) : List AV)),.row 90 (mR mI mH mO mE 2 vo mN 4 vu),.os 42 1 vo (famE 3 vf (List.length mS)),.fam 2 1 vf (famM E2 mS),.os 2 1 vu (eM E2 mU),.os 58 6 va (eM R58 tA)]] [([],[0],[0]),([],[3],[0]),([1],[],[0]),([],[3],[0]),([3],[],[0]),([0],[],[0]),([5],[],[0]),([6],[],[0]),([7,2],[],[0]),([8,4],[],[0])] (by kernel_rfl) (by kernel_rfl) q q
 refine ⟨?_,?_,?_,?_,?_,?_,?_,?_,?_,?_,Zt⟩
 exact O1 q (fun _ => q) q q
 exact O1 q (fun _ => q) q q
 exact O1 q (fun _ => q) q q
 exact O1 q (fun _ => q) q q
 exact O1 q (fun _ => q) q q
 exact O1 q (fun _ => q) q q
 exact O1 q (fun _ => q) q q
 exact O1 q (fun _ => q) q q
 refine ⟨fun F => ?_,Zt⟩
 exact Zq (y_indexAddra ar39 q q (vecOk_0 hgg93) (vecOk_1 hgg93)) q (Zd q q q)
 refine ⟨fun F => ?_,Zt⟩
 exact WL.s0 (d_storeV (off:=1) (n:=16) (cs':=(([.pt 1 0] : List AV) ++ (vecA 16 (fun j => .n ((vset tR (Int.toNat x1.d) x1.n) j)) ++ ([.n tP,.n tX,.n tD,.os 5 va] : List AV) : List AV))) (fun x => .n x) tR x1.n q q q (one_ok q) s2 q q hgg93 q) (Zw q) q (WL.done0 q q)
 exact Rxx 1 q (En2 h)
 refine Rcc 6 q (Ci h q (fun h => ?_) (fun h => ?_))
 replace h:=guardBS h
 obtain ⟨hgg94,h⟩:=h
 replace h:=guardBS h
 obtain ⟨hgg95,h⟩:=h
 apply RT [_,_,_,_,_,_,_,_,_,_,_,_,_,_,_,.u] [15] [[.row 116 (([.pt 1 0] : List AV) ++ (vecA 16 (fun j => .n ((vset tR (Int.toNat x1.d) (tR (Int.toNat x1.a))) j)) ++ ([.n tP,.n tX,.n tD,.os 5 va] : List AV) : List AV)),.row 90 (mR mI mH mO mE 2 vo mN 4 vu),.os 42 1 vo (famE 3 vf (List.length mS)),.fam 2 1 vf (famM E2 mS),.os 2 1 vu (eM E2 mU),.os 58 6 va (eM R58 tA)]] [([],[0],[0]),([],[3],[0]),([1],[],[0]),([],[0],[0]),([],[3],[0]),([4],[],[0]),([3],[],[0]),([6],[],[0]),([7],[],[0]),([8,5],[],[0]),([9],[],[0]),([0],[],[0]),([11],[],[0]),([12],[],[0]),([13,2],[],[0]),([14,10],[],[0])] (by kernel_rfl) (by kernel_rfl) q q
 refine ⟨?_,?_,?_,?_,?_,?_,?_,?_,?_,?_,?_,?_,?_,?_,?_,?_,Zt⟩
 exact O1 q (fun _ => q) q q
 exact O1 q (fun _ => q) q q
 exact O1 q (fun _ => q) q q
 exact O1 q (fun _ => q) q q
 exact O1 q (fun _ => q) q q
 exact O1 q (fun _ => q) q q
 exact O1 q (fun _ => q) q q
 exact O1 q (fun _ => q) q q
 exact O1 q (fun _ => q) q q
 refine ⟨fun F => ?_,Zt⟩
 exact Zq (y_indexAddra ar39 q q (vecOk_0 hgg94) (vecOk_1 hgg94)) q (Zd q q q)
 refine ⟨fun F => ?_,Zt⟩
 exact Zq (y_loadV (off:=1) (n:=16) (fun j => .n (tR j)) q q a2 q hgg94) q (Zd q q q)
 exact O1 q (fun _ => q) q q
 exact O1 q (fun _ => q) q q
 exact O1 q (fun _ => q) q q
 refine ⟨fun F => ?_,Zt⟩
 exact Zq (y_indexAddra ar39 q q (vecOk_0 hgg95) (vecOk_1 hgg95)) q (Zd q q q)
 refine ⟨fun F => ?_,Zt⟩
 exact WL.s0 (d_storeV (off:=1) (n:=16) (cs':=(([.pt 1 0] : List AV) ++ (vecA 16 (fun j => .n ((vset tR (Int.toNat x1.d) (tR (Int.toNat x1.a))) j)) ++ ([.n tP,.n tX,.n tD,.os 5 va] : List AV) : List AV))) (fun x => .n x) tR (tR (Int.toNat x1.a)) q q q (one_ok q) s2 q q hgg95 q) (Zw q) q (WL.done0 q q)
 exact Rxx 1 q (En2 h)
 refine Rcc 6 q (Ci h q (fun h => ?_) (fun h => ?_))
 replace h:=guardBS h
 obtain ⟨hgg96,h⟩:=h
 apply RT [_,_,_,_,_,_,_,_,_,_,_,_,.u] [12] [[.row 116 (([.pt 1 0] : List AV) ++ (vecA 16 (fun j => .n ((vset tR (Int.toNat x1.d) tX) j)) ++ ([.n tP,.n tX,.n tD,.os 5 va] : List AV) : List AV)),.row 90 (mR mI mH mO mE 2 vo mN 4 vu),.os 42 1 vo (famE 3 vf (List.length mS)),.fam 2 1 vf (famM E2 mS),.os 2 1 vu (eM E2 mU),.os 58 6 va (eM R58 tA)]] [([],[0],[0]),([],[3],[0]),([1],[],[0]),([],[0],[0]),([3],[],[0]),([4],[],[0]),([5],[],[0]),([6],[],[0]),([0],[],[0]),([8],[],[0]),([9],[],[0]),([10,2],[],[0]),([11,7],[],[0])] (by kernel_rfl) (by kernel_rfl) q q
 refine ⟨?_,?_,?_,?_,?_,?_,?_,?_,?_,?_,?_,?_,?_,Zt⟩
 exact O1 q (fun _ => q) q q
 exact O1 q (fun _ => q) q q
 exact O1 q (fun _ => q) q q
 exact O1 q (fun _ => q) q q
 exact O1 q (fun _ => q) q q
 exact O1 q (fun _ => q) q q
 exact O1 q (fun _ => q) q q
 exact O1 q (fun _ => q) q q
 exact O1 q (fun _ => q) q q
 exact O1 q (fun _ => q) q q
 exact O1 q (fun _ => q) q q
 refine ⟨fun F => ?_,Zt⟩
 exact Zq (y_indexAddra ar39 q q (vecOk_0 hgg96) (vecOk_1 hgg96)) q (Zd q q q)
 refine ⟨fun F => ?_,Zt⟩
 exact WL.s0 (d_storeV (off:=1) (n:=16) (cs':=(([.pt 1 0] : List AV) ++ (vecA 16 (fun j => .n ((vset tR (Int.toNat x1.d) tX) j)) ++ ([.n tP,.n tX,.n tD,.os 5 va] : List AV) : List AV))) (fun x => .n x) tR tX q q q (one_ok q) s2 q q hgg96 q) (Zw q) q (WL.done0 q q)
 exact Rxx 1 q (En2 h)
 refine Rcc 6 q (Ci h q (fun h => ?_) (fun h => ?_))
 exact Rcl 10 q (WL.s0 (d_store q q q q q q s3 q q) (Zw q) q (St q (Rlx 2 q (En2 h))))
 refine Rcc 6 q (Ci h q (fun h => ?_) (fun h => ?_))
 exact Rcl 10 q (WL.s0 (d_store q q q q q q s3 q q) (Zw q) q (St q (Rlx 2 q (En2 h))))
 exact Rcx 2 q (En2 h)
 refine Rcl 10 q ?_
 apply WL.or 7 (t:=76) (d:=83)
 exact q
 intro hg76
 exact Rl 7 q (WL.nil ⟨q,[_,_,_,_,_,_,_],q,q,q⟩)
 exact Rl 7 q (WL.nil ⟨q,[_,_,_,_,_,_,_],q,q,q⟩)
 refine Rlc 2 q (Ci h q (fun h => ?_) (fun h => ?_))
 refine wc_regionP (WLP.wing [] q q q q (f102_c  (r:=Rs.bad 280) q) Zt q (by decide) q Zt q q (Zw q) q q (fun r' new hS => ?_) (fun c new hS => ?_))
 obtain ⟨z9,hz,_⟩:=hS
 cases hz
 obtain ⟨z9,hz,rfl,rfl⟩:=hS
 obtain rfl:=Rs.bad.inj hz
 refine ⟨_,q,q,?_⟩
 refine we_seq_pan ?_
 obtain rfl:=Oi h
 exact we_pan_g (new:=(wD mI mH mO mE vo mN vu vf mS mU)) q ⟨Zt,Zp,Zf,Zf,Zf,Zt,Zt⟩ ⟨_,q,q,q⟩
 refine Rcc 2 q (wc_regionP (WLP.pre 1 (Rl 1 q (WL.nil ?_))))
 obtain ⟨r101,hr101,h⟩:=bindS h
 rcases r101 with z102 | e103
 dsimp only [Rs.cs] at h
 refine WLP.wing [0,1,2,3,4,5] q q q q (f131_c _ _ _ _ _ _ _ _ _ _ _ _ hr101) ⟨Zl,Zt⟩ q (by decide) (Re (Re (Rg (Rf (Ro (Ro q)))))) ⟨q,q,q,q,q,q,Zt⟩ Kv q (Zw q) q q (fun r' new hS => ?_) (fun c new hS => ?_)
 obtain ⟨z9,hz,rfl,rfl⟩:=hS
 obtain rfl:=Rs.ok.inj hz
 refine ⟨_,_,q,(Re (Re (Rg (Rf (Ro (Ro q)))))),q,Kv,WLP.of ?_⟩
 refine St q (WL.nil (we_endP ?_))
 obtain rfl:=Oi h
 exact WE.finP (we_ret_g (new:=[.row 116 (([.pt 1 0] : List AV) ++ (vecA 16 (fun j => .n (z102.1 j)) ++ ([.n z102.2.1,.n z102.2.2.1,.n z102.2.2.2,.os 5 va] : List AV) : List AV)),.row 90 (mR mI mH mO mE 2 vo mN 4 vu),.os 42 1 vo (famE 3 vf (List.length mS)),.fam 2 1 vf (famM E2 mS),.os 2 1 vu (eM E2 mU),.os 58 6 va (eM R58 tA)]) (r0:=.d (.tu [])) (res0 q) (Le.tud Zt) q ⟨Zp,Zp,Zf,Zf,Zf,Zf,Zt⟩ ⟨_,q,q,q⟩)
 obtain ⟨z9,hz,_⟩:=hS
 cases hz
 dsimp only [Rs.cs] at h
 refine WLP.wing [0,1,2,3,4,5] q q q q (f131_c _ _ _ _ _ _ _ _ _ _ _ _ hr101) ⟨Zl,Zt⟩ q (by decide) (Re (Re (Rg (Rf (Ro (Ro q)))))) ⟨q,q,q,q,q,q,Zt⟩ Kv q (Zw q) q q (fun r' new hS => ?_) (fun c new hS => ?_)
 obtain ⟨z9,hz,_⟩:=hS
 cases hz
 obtain ⟨z9,hz,rfl,rfl⟩:=hS
 obtain rfl:=Rs.bad.inj hz
 refine ⟨_,(Re (Re (Rg (Rf (Ro (Re q)))))),Kv,?_⟩
 refine WE.sto (st':=(wD mI mH mO mE vo mN vu vf mS mU)) q ?_
 obtain rfl:=Oi h
 exact we_pan_g (new:=(wD mI mH mO mE vo mN vu vf mS mU)) q ⟨Zt,Zp,Zf,Zf,Zf,Zt,Zt⟩ ⟨_,q,q,q⟩

theorem f181_c (a0 : Int) (b1 : Int) : Pu Tryz.prog 181 [.i .i64 a0,.i .i64 b1] (.i .i64 (f181 a0 b1)):=by
 generalize h : f181 a0 b1 = r
 unfold f181 at h
 refine fn_intro Tryz.func181 (by kernel_rfl) q q q (fun φφ ww => ?_)
 exact Rcx 14 q (FB h)

theorem f182_c (a0 : Int) (b1 : Int) : Pu Tryz.prog 182 [.i .i64 a0,.i .i64 b1] (.i .i64 (f182 a0 b1)):=by
 generalize h : f182 a0 b1 = r
 unfold f182 at h
 refine fn_intro Tryz.func182 (by kernel_rfl) q q q (fun φφ ww => ?_)
 exact Rcx 14 q (FB h)

theorem f183_c (a0 : Int) (b1 : Int) : Pu Tryz.prog 183 [.i .i64 a0,.i .i64 b1] (.i .i64 (f183 a0 b1)):=by
 generalize h : f183 a0 b1 = r
 unfold f183 at h
 refine fn_intro Tryz.func183 (by kernel_rfl) q q q (fun φφ ww => ?_)
 exact Rcx 14 q (FB h)

theorem f185_c (a0 : Int) (b1 : Int) {r : Int} (h : f185 a0 b1 = some r) : Pu Tryz.prog 185 [.i .i64 a0,.i .i64 b1] (.i .i64 r):=by
 unfold f185 at h
 refine fn_intro Tryz.func185 (by kernel_rfl) q q q (fun φφ ww => ?_)
 refine Rcl 9 q ?_
 replace h:=guardBS h
 obtain ⟨hgg11,h⟩:=h
 exact Zq (y_quo q q (nz_ne hgg11) q) q (Rlx 4 q (FA h))

theorem f186_c (a0 : Int) (b1 : Int) {r : Int} (h : f186 a0 b1 = some r) : Pu Tryz.prog 186 [.i .i64 a0,.i .i64 b1] (.i .i64 r):=by
 unfold f186 at h
 refine fn_intro Tryz.func186 (by kernel_rfl) q q q (fun φφ ww => ?_)
 refine Rcl 9 q ?_
 replace h:=guardBS h
 obtain ⟨hgg11,h⟩:=h
 exact Zq (y_rem q q (nz_ne hgg11)) q (Rlx 4 q (FA h))

theorem f187_c (a0 : Int) (b1 : Int) {r : Int} (h : f187 a0 b1 = some r) : Pu Tryz.prog 187 [.i .i64 a0,.i .i64 b1] (.i .i64 r):=by
 unfold f187 at h
 refine fn_intro Tryz.func187 (by kernel_rfl) q q q (fun φφ ww => ?_)
 refine Rcl 10 q ?_
 replace h:=guardBS h
 obtain ⟨hgg26,h⟩:=h
 refine Zq (y_rem q q (nz_ne hgg26)) q (Rll 8 q ?_)
 apply WL.or 5 (t:=11) (d:=16)
 exact q
 intro hg11
 exact Rl 2 q (Zy (y_xor q q q) q q q (Rl 2 q (WL.nil ⟨q,[_,_,_,_,_],q,q,q⟩)))
 exact Rl 5 q (WL.nil ⟨q,[_,_,_,_,_],q,q,q⟩)
 refine Rlc 2 q (Ci h q (fun h => ?_) (fun h => ?_))
 exact Rcx 8 q (FA h)
 refine Rcl 6 q ?_
 replace h:=guardBS h
 obtain ⟨hgg27,h⟩:=h
 exact Zq (y_rem q q (nz_ne hgg27)) q (Rlx 6 q (FA h))

theorem f217_c (is0 : Bool) : Pu Tryz.prog 217 [.b is0] (.i .i64 (f217 is0)):=by
 generalize h : f217 is0 = r
 unfold f217 at h
 refine fn_intro Tryz.func217 (by kernel_rfl) q q q (fun φφ ww => ?_)
 refine Rcc 11 q (Ci h q (fun h => ?_) (fun h => ?_))
 exact Rcx 7 q (FB h)
 exact Rcx 8 q (FB h)

theorem f189_c (a0 : Int) (b1 : Int) : Pu Tryz.prog 189 [.i .i64 a0,.i .i64 b1] (.b (f189 a0 b1)):=by
 generalize h : f189 a0 b1 = r
 unfold f189 at h
 refine fn_intro Tryz.func189 (by kernel_rfl) q q q (fun φφ ww => ?_)
 exact Rcx 14 q (FB h)

theorem f190_c (a0 : Int) (b1 : Int) : Pu Tryz.prog 190 [.i .i64 a0,.i .i64 b1] (.b (f190 a0 b1)):=by
 generalize h : f190 a0 b1 = r
 unfold f190 at h
 refine fn_intro Tryz.func190 (by kernel_rfl) q q q (fun φφ ww => ?_)
 exact Rcx 14 q (FB h)

theorem f191_c (a0 : Int) (b1 : Int) : Pu Tryz.prog 191 [.i .i64 a0,.i .i64 b1] (.b (f191 a0 b1)):=by
 generalize h : f191 a0 b1 = r
 unfold f191 at h
 refine fn_intro Tryz.func191 (by kernel_rfl) q q q (fun φφ ww => ?_)
 exact Rcx 14 q (FB h)

theorem f192_c (a0 : Int) (b1 : Int) : Pu Tryz.prog 192 [.i .i64 a0,.i .i64 b1] (.b (f192 a0 b1)):=by
 generalize h : f192 a0 b1 = r
 unfold f192 at h
 refine fn_intro Tryz.func192 (by kernel_rfl) q q q (fun φφ ww => ?_)
 exact Rcx 14 q (FB h)

theorem f193_c (a0 : Int) (b1 : Int) : Pu Tryz.prog 193 [.i .i64 a0,.i .i64 b1] (.b (f193 a0 b1)):=by
 generalize h : f193 a0 b1 = r
 unfold f193 at h
 refine fn_intro Tryz.func193 (by kernel_rfl) q q q (fun φφ ww => ?_)
 exact Rcx 14 q (FB h)

theorem f194_c (a0 : Int) (b1 : Int) : Pu Tryz.prog 194 [.i .i64 a0,.i .i64 b1] (.b (f194 a0 b1)):=by
 generalize h : f194 a0 b1 = r
 unfold f194 at h
 refine fn_intro Tryz.func194 (by kernel_rfl) q q q (fun φφ ww => ?_)
 exact Rcx 14 q (FB h)

theorem f195_c (a0 : Int) (b1 : Int) : Pu Tryz.prog 195 [.i .i64 a0,.i .i64 b1] (.i .i64 (f195 a0 b1)):=by
 generalize h : f195 a0 b1 = r
 unfold f195 at h
 refine fn_intro Tryz.func195 (by kernel_rfl) q q q (fun φφ ww => ?_)
 exact Rcl 9 q (Zq (y_and q q q) q (Rlx 4 q (FB h)))

theorem f196_c (a0 : Int) (b1 : Int) : Pu Tryz.prog 196 [.i .i64 a0,.i .i64 b1] (.i .i64 (f196 a0 b1)):=by
 generalize h : f196 a0 b1 = r
 unfold f196 at h
 refine fn_intro Tryz.func196 (by kernel_rfl) q q q (fun φφ ww => ?_)
 exact Rcl 9 q (Zq (y_or q q q) q (Rlx 4 q (FB h)))

theorem f197_c (a0 : Int) (b1 : Int) : Pu Tryz.prog 197 [.i .i64 a0,.i .i64 b1] (.i .i64 (f197 a0 b1)):=by
 generalize h : f197 a0 b1 = r
 unfold f197 at h
 refine fn_intro Tryz.func197 (by kernel_rfl) q q q (fun φφ ww => ?_)
 exact Rcl 9 q (Zq (y_xor q q q) q (Rlx 4 q (FB h)))

theorem f198_c (a0 : Int) (p1 : Int) : Pu Tryz.prog 198 [.i .i64 a0,.i .i64 p1] (.i .i64 (f198 a0 p1)):=by
 generalize h : f198 a0 p1 = r
 unfold f198 at h
 refine fn_intro Tryz.func198 (by kernel_rfl) q q q (fun φφ ww => ?_)
 exact Rcx 13 q (FB h)

theorem f199_c (a0 : Int) (p1 : Int) : Pu Tryz.prog 199 [.i .i64 a0,.i .i64 p1] (.i .i64 (f199 a0 p1)):=by
 generalize h : f199 a0 p1 = r
 unfold f199 at h
 refine fn_intro Tryz.func199 (by kernel_rfl) q q q (fun φφ ww => ?_)
 exact Rcl 10 q (Zq (y_max q q q) q (Rlx 4 q (FB h)))

theorem f200_c (a0 : Int) (p1 : Int) : Pu Tryz.prog 200 [.i .i64 a0,.i .i64 p1] (.i .i64 (f200 a0 p1)):=by
 generalize h : f200 a0 p1 = r
 unfold f200 at h
 refine fn_intro Tryz.func200 (by kernel_rfl) q q q (fun φφ ww => ?_)
 exact Rcx 13 q (FB h)

theorem f132_c (op0 : Int) (a1 : Int) (b2 : Int) {r : Int × Bool} (h : f132 op0 a1 b2 = some r) : Pu Tryz.prog 132 [.i .u8 op0,.i .i64 a1,.i .i64 b2] (.tu [.i .i64 r.1,.b r.2]):=by
 unfold f132 at h
 refine fn_intro Tryz.func132 (by kernel_rfl) q q q (fun φφ ww => ?_)
 refine Rcc 19 q (Ci h q (fun h => ?_) (fun h => ?_))
 exact Rcx 12 q (FA h)
 refine Rcc 6 q (Ci h q (fun h => ?_) (fun h => ?_))
 exact Rcx 12 q (FA h)
 refine Rcl 5 q ?_
 obtain ⟨k40,hk40,h⟩:=letkS h
 refine WL.inl (us:=[]) (fun rv st' => (k40 () = some r ∧ Le rv (.mp 0) ∧ SLe st' [mpO (fun x : Int => Value.int .u8 x) (fun x : AV => x) [fe 1 214 1,fe 2 214 2,fe 3 214 3,fe 4 215 4,fe 5 215 5,fe 6 215 6,fe 7 216 7,fe 8 216 8,fe 9 216 9,fe 10 216 10,fe 11 216 11,fe 12 216 12,fe 13 214 13,fe 14 214 14,fe 15 214 15,fe 16 214 16,fe 17 214 17,fe 18 214 18],rF 209 181,rF 209 182,rF 209 183,rF 209 185,rF 209 186,rF 209 187,rF 195 189,rF 195 190,rF 195 191,rF 195 192,rF 195 193,rF 195 194,rF 209 195,rF 209 196,rF 209 197,rF 209 198,rF 209 199,rF 209 200])) q q q q q ?_ (Zw q) q q ?_
 refine ctr_intro Tryz.func159 (by kernel_rfl) q q q (fun mm φφ ww hm39 => ?_)
 refine Rcl 7 q (WL.s ((b_makeMap (α:=AV) (fun x : Int => Value.int .u8 x) (fun x : AV => x)).does) (Zw q) q q ?_)
 obtain ⟨k42,hk42,h⟩:=letkS h
 refine WL.inl (us:=[.fn (.func 181) [] []]) (fun rv st' => (k42 () = some r ∧ Le rv (.fn (.func 214) [] [.pt 1 0]) ∧ SLe st' [mpO (fun x : Int => Value.int .u8 x) (fun x : AV => x) [],rF 209 181])) q q q q q ?_ (Zw q) q q ?_
 refine ctr_intro Tryz.func180 (by kernel_rfl) q q q (fun mm φφ ww hm41 => ?_)
 exact Rcl 2 q (Bx q q q (Rlx 10 q (we_ret (rs1 q (rv_t q)) ⟨h,Zl,⟨q,Zp,Zt⟩⟩)))
 rintro rv st1 ⟨h,hr,hst⟩
 subst hk42
 dsimp only at h
 refine WL.cast 2 q hr (WL.weak hst (WL.s0 (d_mapUpdate (fun x : Int => Value.int .u8 x) (fun x : AV => x) [] (u:=.fn (.func 214) [] [.pt 1 0]) (.inl q) Tryz.underlying237 Tryz.underlying146 (KeyF.int .u8) q q q q) (Zw q) q ?_))
 obtain ⟨k44,hk44,h⟩:=letkS h
 refine WL.inl (us:=[.fn (.func 182) [] []]) (fun rv st' => (k44 () = some r ∧ Le rv (.fn (.func 214) [] [.pt 2 0]) ∧ SLe st' [mpO (fun x : Int => Value.int .u8 x) (fun x : AV => x) [fe 1 214 1],rF 209 181,rF 209 182])) q q q q q ?_ (Zw q) q q ?_
 refine ctr_intro Tryz.func180 (by kernel_rfl) q q q (fun mm φφ ww hm43 => ?_)
 exact Rcl 2 q (Bx q q q (Rlx 10 q (we_ret (rs1 q (rv_t q)) ⟨h,Zl,⟨q,Zp,Zp,Zt⟩⟩)))
 rintro rv st1 ⟨h,hr,hst⟩
 subst hk44
 dsimp only at h
 refine WL.cast 3 q hr (WL.weak hst (WL.s0 (d_mapUpdate (fun x : Int => Value.int .u8 x) (fun x : AV => x) [fe 1 214 1] (u:=.fn (.func 214) [] [.pt 2 0]) (.inl q) Tryz.underlying237 Tryz.underlying146 (KeyF.int .u8) q q q q) (Zw q) q ?_))
 obtain ⟨k46,hk46,h⟩:=letkS h
 refine WL.inl (us:=[.fn (.func 183) [] []]) (fun rv st' => (k46 () = some r ∧ Le rv (.fn (.func 214) [] [.pt 3 0]) ∧ SLe st' [mpO (fun x : Int => Value.int .u8 x) (fun x : AV => x) [fe 1 214 1,fe 2 214 2],rF 209 181,rF 209 182,rF 209 183])) q q q q q ?_ (Zw q) q q ?_
 refine ctr_intro Tryz.func180 (by kernel_rfl) q q q (fun mm φφ ww hm45 => ?_)
 exact Rcl 2 q (Bx q q q (Rlx 10 q (we_ret (rs1 q (rv_t q)) ⟨h,Zl,⟨q,Zp,Zp,Zp,Zt⟩⟩)))
 rintro rv st1 ⟨h,hr,hst⟩
 subst hk46
 dsimp only at h
 refine WL.cast 4 q hr (WL.weak hst (WL.s0 (d_mapUpdate (fun x : Int => Value.int .u8 x) (fun x : AV => x) [fe 1 214 1,fe 2 214 2] (u:=.fn (.func 214) [] [.pt 3 0]) (.inl q) Tryz.underlying237 Tryz.underlying146 (KeyF.int .u8) q q q q) (Zw q) q ?_))
 obtain ⟨k48,hk48,h⟩:=letkS h
 refine WL.inl (us:=[.fn (.func 185) [] []]) (fun rv st' => (k48 () = some r ∧ Le rv (.fn (.func 215) [] [.pt 4 0]) ∧ SLe st' [mpO (fun x : Int => Value.int .u8 x) (fun x : AV => x) [fe 1 214 1,fe 2 214 2,fe 3 214 3],rF 209 181,rF 209 182,rF 209 183,rF 209 185])) q q q q q ?_ (Zw q) q q ?_
 refine ctr_intro Tryz.func184 (by kernel_rfl) q q q (fun mm φφ ww hm47 => ?_)
 exact Rcl 2 q (Bx q q q (Rlx 10 q (we_ret (rs1 q (rv_t q)) ⟨h,Zl,⟨q,Zp,Zp,Zp,Zp,Zt⟩⟩)))
 rintro rv st1 ⟨h,hr,hst⟩
 subst hk48
 dsimp only at h
 refine WL.cast 5 q hr (WL.weak hst (WL.s0 (d_mapUpdate (fun x : Int => Value.int .u8 x) (fun x : AV => x) [fe 1 214 1,fe 2 214 2,fe 3 214 3] (u:=.fn (.func 215) [] [.pt 4 0]) (.inl q) Tryz.underlying237 Tryz.underlying146 (KeyF.int .u8) q q q q) (Zw q) q ?_))
 obtain ⟨k50,hk50,h⟩:=letkS h
 refine WL.inl (us:=[.fn (.func 186) [] []]) (fun rv st' => (k50 () = some r ∧ Le rv (.fn (.func 215) [] [.pt 5 0]) ∧ SLe st' [mpO (fun x : Int => Value.int .u8 x) (fun x : AV => x) [fe 1 214 1,fe 2 214 2,fe 3 214 3,fe 4 215 4],rF 209 181,rF 209 182,rF 209 183,rF 209 185,rF 209 186])) q q q q q ?_ (Zw q) q q ?_
 refine ctr_intro Tryz.func184 (by kernel_rfl) q q q (fun mm φφ ww hm49 => ?_)
 exact Rcl 2 q (Bx q q q (Rlx 10 q (we_ret (rs1 q (rv_t q)) ⟨h,Zl,⟨q,Zp,Zp,Zp,Zp,Zp,Zt⟩⟩)))
 rintro rv st1 ⟨h,hr,hst⟩
 subst hk50
 dsimp only at h
 refine WL.cast 6 q hr (WL.weak hst (WL.s0 (d_mapUpdate (fun x : Int => Value.int .u8 x) (fun x : AV => x) [fe 1 214 1,fe 2 214 2,fe 3 214 3,fe 4 215 4] (u:=.fn (.func 215) [] [.pt 5 0]) (.inl q) Tryz.underlying237 Tryz.underlying146 (KeyF.int .u8) q q q q) (Zw q) q ?_))
 obtain ⟨k52,hk52,h⟩:=letkS h
 refine WL.inl (us:=[.fn (.func 187) [] []]) (fun rv st' => (k52 () = some r ∧ Le rv (.fn (.func 215) [] [.pt 6 0]) ∧ SLe st' [mpO (fun x : Int => Value.int .u8 x) (fun x : AV => x) [fe 1 214 1,fe 2 214 2,fe 3 214 3,fe 4 215 4,fe 5 215 5],rF 209 181,rF 209 182,rF 209 183,rF 209 185,rF 209 186,rF 209 187])) q q q q q ?_ (Zw q) q q ?_
 refine ctr_intro Tryz.func184 (by kernel_rfl) q q q (fun mm φφ ww hm51 => ?_)
 exact Rcl 2 q (Bx q q q (Rlx 10 q (we_ret (rs1 q (rv_t q)) ⟨h,Zl,⟨q,Zp,Zp,Zp,Zp,Zp,Zp,Zt⟩⟩)))
 rintro rv st1 ⟨h,hr,hst⟩
 subst hk52
 dsimp only at h
 refine WL.cast 7 q hr (WL.weak hst (WL.s0 (d_mapUpdate (fun x : Int => Value.int .u8 x) (fun x : AV => x) [fe 1 214 1,fe 2 214 2,fe 3 214 3,fe 4 215 4,fe 5 215 5] (u:=.fn (.func 215) [] [.pt 6 0]) (.inl q) Tryz.underlying237 Tryz.underlying146 (KeyF.int .u8) q q q q) (Zw q) q ?_))
 obtain ⟨k54,hk54,h⟩:=letkS h
 refine WL.inl (us:=[.fn (.func 189) [] []]) (fun rv st' => (k54 () = some r ∧ Le rv (.fn (.func 216) [] [.pt 7 0]) ∧ SLe st' [mpO (fun x : Int => Value.int .u8 x) (fun x : AV => x) [fe 1 214 1,fe 2 214 2,fe 3 214 3,fe 4 215 4,fe 5 215 5,fe 6 215 6],rF 209 181,rF 209 182,rF 209 183,rF 209 185,rF 209 186,rF 209 187,rF 195 189])) q q q q q ?_ (Zw q) q q ?_
 refine ctr_intro Tryz.func188 (by kernel_rfl) q q q (fun mm φφ ww hm53 => ?_)
 exact Rcl 2 q (Bx q q q (Rlx 10 q (we_ret (rs1 q (rv_t q)) ⟨h,Zl,⟨q,Zp,Zp,Zp,Zp,Zp,Zp,Zp,Zt⟩⟩)))
 rintro rv st1 ⟨h,hr,hst⟩
 subst hk54
 dsimp only at h
 refine WL.cast 8 q hr (WL.weak hst (WL.s0 (d_mapUpdate (fun x : Int => Value.int .u8 x) (fun x : AV => x) [fe 1 214 1,fe 2 214 2,fe 3 214 3,fe 4 215 4,fe 5 215 5,fe 6 215 6] (u:=.fn (.func 216) [] [.pt 7 0]) (.inl q) Tryz.underlying237 Tryz.underlying146 (KeyF.int .u8) q q q q) (Zw q) q ?_))
 obtain ⟨k56,hk56,h⟩:=letkS h
 refine WL.inl (us:=[.fn (.func 190) [] []]) (fun rv st' => (k56 () = some r ∧ Le rv (.fn (.func 216) [] [.pt 8 0]) ∧ SLe st' [mpO (fun x : Int => Value.int .u8 x) (fun x : AV => x) [fe 1 214 1,fe 2 214 2,fe 3 214 3,fe 4 215 4,fe 5 215 5,fe 6 215 6,fe 7 216 7],rF 209 181,rF 209 182,rF 209 183,rF 209 185,rF 209 186,rF 209 187,rF 195 189,rF 195 190])) q q q q q ?_ (Zw q) q q ?_
 refine ctr_intro Tryz.func188 (by kernel_rfl) q q q (fun mm φφ ww hm55 => ?_)
 exact Rcl 2 q (Bx q q q (Rlx 10 q (we_ret (rs1 q (rv_t q)) ⟨h,Zl,⟨q,Zp,Zp,Zp,Zp,Zp,Zp,Zp,Zp,Zt⟩⟩)))
 rintro rv st1 ⟨h,hr,hst⟩
 subst hk56
 dsimp only at h
 refine WL.cast 9 q hr (WL.weak hst (WL.s0 (d_mapUpdate (fun x : Int => Value.int .u8 x) (fun x : AV => x) [fe 1 214 1,fe 2 214 2,fe 3 214 3,fe 4 215 4,fe 5 215 5,fe 6 215 6,fe 7 216 7] (u:=.fn (.func 216) [] [.pt 8 0]) (.inl q) Tryz.underlying237 Tryz.underlying146 (KeyF.int .u8) q q q q) (Zw q) q ?_))
 obtain ⟨k58,hk58,h⟩:=letkS h
 refine WL.inl (us:=[.fn (.func 191) [] []]) (fun rv st' => (k58 () = some r ∧ Le rv (.fn (.func 216) [] [.pt 9 0]) ∧ SLe st' [mpO (fun x : Int => Value.int .u8 x) (fun x : AV => x) [fe 1 214 1,fe 2 214 2,fe 3 214 3,fe 4 215 4,fe 5 215 5,fe 6 215 6,fe 7 216 7,fe 8 216 8],rF 209 181,rF 209 182,rF 209 183,rF 209 185,rF 209 186,rF 209 187,rF 195 189,rF 195 190,rF 195 191])) q q q q q ?_ (Zw q) q q ?_
 refine ctr_intro Tryz.func188 (by kernel_rfl) q q q (fun mm φφ ww hm57 => ?_)
 exact Rcl 2 q (Bx q q q (Rlx 10 q (we_ret (rs1 q (rv_t q)) ⟨h,Zl,⟨q,Zp,Zp,Zp,Zp,Zp,Zp,Zp,Zp,Zp,Zt⟩⟩)))
 rintro rv st1 ⟨h,hr,hst⟩
 subst hk58
 dsimp only at h
 refine WL.cast 10 q hr (WL.weak hst (WL.s0 (d_mapUpdate (fun x : Int => Value.int .u8 x) (fun x : AV => x) [fe 1 214 1,fe 2 214 2,fe 3 214 3,fe 4 215 4,fe 5 215 5,fe 6 215 6,fe 7 216 7,fe 8 216 8] (u:=.fn (.func 216) [] [.pt 9 0]) (.inl q) Tryz.underlying237 Tryz.underlying146 (KeyF.int .u8) q q q q) (Zw q) q ?_))
 obtain ⟨k60,hk60,h⟩:=letkS h
 refine WL.inl (us:=[.fn (.func 192) [] []]) (fun rv st' => (k60 () = some r ∧ Le rv (.fn (.func 216) [] [.pt 10 0]) ∧ SLe st' [mpO (fun x : Int => Value.int .u8 x) (fun x : AV => x) [fe 1 214 1,fe 2 214 2,fe 3 214 3,fe 4 215 4,fe 5 215 5,fe 6 215 6,fe 7 216 7,fe 8 216 8,fe 9 216 9],rF 209 181,rF 209 182,rF 209 183,rF 209 185,rF 209 186,rF 209 187,rF 195 189,rF 195 190,rF 195 191,rF 195 192])) q q q q q ?_ (Zw q) q q ?_
 refine ctr_intro Tryz.func188 (by kernel_rfl) q q q (fun mm φφ ww hm59 => ?_)
 exact Rcl 2 q (Bx q q q (Rlx 10 q (we_ret (rs1 q (rv_t q)) ⟨h,Zl,⟨q,Zp,Zp,Zp,Zp,Zp,Zp,Zp,Zp,Zp,Zp,Zt⟩⟩)))
 rintro rv st1 ⟨h,hr,hst⟩
 subst hk60
 dsimp only at h
 refine WL.cast 11 q hr (WL.weak hst (WL.s0 (d_mapUpdate (fun x : Int => Value.int .u8 x) (fun x : AV => x) [fe 1 214 1,fe 2 214 2,fe 3 214 3,fe 4 215 4,fe 5 215 5,fe 6 215 6,fe 7 216 7,fe 8 216 8,fe 9 216 9] (u:=.fn (.func 216) [] [.pt 10 0]) (.inl q) Tryz.underlying237 Tryz.underlying146 (KeyF.int .u8) q q q q) (Zw q) q ?_))
 obtain ⟨k62,hk62,h⟩:=letkS h
 refine WL.inl (us:=[.fn (.func 193) [] []]) (fun rv st' => (k62 () = some r ∧ Le rv (.fn (.func 216) [] [.pt 11 0]) ∧ SLe st' [mpO (fun x : Int => Value.int .u8 x) (fun x : AV => x) [fe 1 214 1,fe 2 214 2,fe 3 214 3,fe 4 215 4,fe 5 215 5,fe 6 215 6,fe 7 216 7,fe 8 216 8,fe 9 216 9,fe 10 216 10],rF 209 181,rF 209 182,rF 209 183,rF 209 185,rF 209 186,rF 209 187,rF 195 189,rF 195 190,rF 195 191,rF 195 192,rF 195 193])) q q q q q ?_ (Zw q) q q ?_
 refine ctr_intro Tryz.func188 (by kernel_rfl) q q q (fun mm φφ ww hm61 => ?_)
 exact Rcl 2 q (Bx q q q (Rlx 10 q (we_ret (rs1 q (rv_t q)) ⟨h,Zl,⟨q,Zp,Zp,Zp,Zp,Zp,Zp,Zp,Zp,Zp,Zp,Zp,Zt⟩⟩)))
 rintro rv st1 ⟨h,hr,hst⟩
 subst hk62
 dsimp only at h
 refine WL.cast 12 q hr (WL.weak hst (WL.s0 (d_mapUpdate (fun x : Int => Value.int .u8 x) (fun x : AV => x) [fe 1 214 1,fe 2 214 2,fe 3 214 3,fe 4 215 4,fe 5 215 5,fe 6 215 6,fe 7 216 7,fe 8 216 8,fe 9 216 9,fe 10 216 10] (u:=.fn (.func 216) [] [.pt 11 0]) (.inl q) Tryz.underlying237 Tryz.underlying146 (KeyF.int .u8) q q q q) (Zw q) q ?_))
 obtain ⟨k64,hk64,h⟩:=letkS h
 refine WL.inl (us:=[.fn (.func 194) [] []]) (fun rv st' => (k64 () = some r ∧ Le rv (.fn (.func 216) [] [.pt 12 0]) ∧ SLe st' [mpO (fun x : Int => Value.int .u8 x) (fun x : AV => x) [fe 1 214 1,fe 2 214 2,fe 3 214 3,fe 4 215 4,fe 5 215 5,fe 6 215 6,fe 7 216 7,fe 8 216 8,fe 9 216 9,fe 10 216 10,fe 11 216 11],rF 209 181,rF 209 182,rF 209 183,rF 209 185,rF 209 186,rF 209 187,rF 195 189,rF 195 190,rF 195 191,rF 195 192,rF 195 193,rF 195 194])) q q q q q ?_ (Zw q) q q ?_
 refine ctr_intro Tryz.func188 (by kernel_rfl) q q q (fun mm φφ ww hm63 => ?_)
 exact Rcl 2 q (Bx q q q (Rlx 10 q (we_ret (rs1 q (rv_t q)) ⟨h,Zl,⟨q,Zp,Zp,Zp,Zp,Zp,Zp,Zp,Zp,Zp,Zp,Zp,Zp,Zt⟩⟩)))
 rintro rv st1 ⟨h,hr,hst⟩
 subst hk64
 dsimp only at h
 refine WL.cast 13 q hr (WL.weak hst (WL.s0 (d_mapUpdate (fun x : Int => Value.int .u8 x) (fun x : AV => x) [fe 1 214 1,fe 2 214 2,fe 3 214 3,fe 4 215 4,fe 5 215 5,fe 6 215 6,fe 7 216 7,fe 8 216 8,fe 9 216 9,fe 10 216 10,fe 11 216 11] (u:=.fn (.func 216) [] [.pt 12 0]) (.inl q) Tryz.underlying237 Tryz.underlying146 (KeyF.int .u8) q q q q) (Zw q) q ?_))
 obtain ⟨k66,hk66,h⟩:=letkS h
 refine WL.inl (us:=[.fn (.func 195) [] []]) (fun rv st' => (k66 () = some r ∧ Le rv (.fn (.func 214) [] [.pt 13 0]) ∧ SLe st' [mpO (fun x : Int => Value.int .u8 x) (fun x : AV => x) [fe 1 214 1,fe 2 214 2,fe 3 214 3,fe 4 215 4,fe 5 215 5,fe 6 215 6,fe 7 216 7,fe 8 216 8,fe 9 216 9,fe 10 216 10,fe 11 216 11,fe 12 216 12],rF 209 181,rF 209 182,rF 209 183,rF 209 185,rF 209 186,rF 209 187,rF 195 189,rF 195 190,rF 195 191,rF 195 192,rF 195 193,rF 195 194,rF 209 195])) q q q q q ?_ (Zw q) q q ?_
 refine ctr_intro Tryz.func180 (by kernel_rfl) q q q (fun mm φφ ww hm65 => ?_)
 exact Rcl 2 q (Bx q q q (Rlx 10 q (we_ret (rs1 q (rv_t q)) ⟨h,Zl,⟨q,Zp,Zp,Zp,Zp,Zp,Zp,Zp,Zp,Zp,Zp,Zp,Zp,Zp,Zt⟩⟩)))
 rintro rv st1 ⟨h,hr,hst⟩
 subst hk66
 dsimp only at h
 refine WL.cast 14 q hr (WL.weak hst (WL.s0 (d_mapUpdate (fun x : Int => Value.int .u8 x) (fun x : AV => x) [fe 1 214 1,fe 2 214 2,fe 3 214 3,fe 4 215 4,fe 5 215 5,fe 6 215 6,fe 7 216 7,fe 8 216 8,fe 9 216 9,fe 10 216 10,fe 11 216 11,fe 12 216 12] (u:=.fn (.func 214) [] [.pt 13 0]) (.inl q) Tryz.underlying237 Tryz.underlying146 (KeyF.int .u8) q q q q) (Zw q) q ?_))
 obtain ⟨k68,hk68,h⟩:=letkS h
 refine WL.inl (us:=[.fn (.func 196) [] []]) (fun rv st' => (k68 () = some r ∧ Le rv (.fn (.func 214) [] [.pt 14 0]) ∧ SLe st' [mpO (fun x : Int => Value.int .u8 x) (fun x : AV => x) [fe 1 214 1,fe 2 214 2,fe 3 214 3,fe 4 215 4,fe 5 215 5,fe 6 215 6,fe 7 216 7,fe 8 216 8,fe 9 216 9,fe 10 216 10,fe 11 216 11,fe 12 216 12,fe 13 214 13],rF 209 181,rF 209 182,rF 209 183,rF 209 185,rF 209 186,rF 209 187,rF 195 189,rF 195 190,rF 195 191,rF 195 192,rF 195 193,rF 195 194,rF 209 195,rF 209 196])) q q q q q ?_ (Zw q) q q ?_
 refine ctr_intro Tryz.func180 (by kernel_rfl) q q q (fun mm φφ ww hm67 => ?_)
 exact Rcl 2 q (Bx q q q (Rlx 10 q (we_ret (rs1 q (rv_t q)) ⟨h,Zl,⟨q,Zp,Zp,Zp,Zp,Zp,Zp,Zp,Zp,Zp,Zp,Zp,Zp,Zp,Zp,Zt⟩⟩)))
 rintro rv st1 ⟨h,hr,hst⟩
 subst hk68
 dsimp only at h
 refine WL.cast 15 q hr (WL.weak hst (WL.s0 (d_mapUpdate (fun x : Int => Value.int .u8 x) (fun x : AV => x) [fe 1 214 1,fe 2 214 2,fe 3 214 3,fe 4 215 4,fe 5 215 5,fe 6 215 6,fe 7 216 7,fe 8 216 8,fe 9 216 9,fe 10 216 10,fe 11 216 11,fe 12 216 12,fe 13 214 13] (u:=.fn (.func 214) [] [.pt 14 0]) (.inl q) Tryz.underlying237 Tryz.underlying146 (KeyF.int .u8) q q q q) (Zw q) q ?_))
 obtain ⟨k70,hk70,h⟩:=letkS h
 refine WL.inl (us:=[.fn (.func 197) [] []]) (fun rv st' => (k70 () = some r ∧ Le rv (.fn (.func 214) [] [.pt 15 0]) ∧ SLe st' [mpO (fun x : Int => Value.int .u8 x) (fun x : AV => x) [fe 1 214 1,fe 2 214 2,fe 3 214 3,fe 4 215 4,fe 5 215 5,fe 6 215 6,fe 7 216 7,fe 8 216 8,fe 9 216 9,fe 10 216 10,fe 11 216 11,fe 12 216 12,fe 13 214 13,fe 14 214 14],rF 209 181,rF 209 182,rF 209 183,rF 209 185,rF 209 186,rF 209 187,rF 195 189,rF 195 190,rF 195 191,rF 195 192,rF 195 193,rF 195 194,rF 209 195,rF 209 196,rF 209 197])) q q q q q ?_ (Zw q) q q ?_
 refine ctr_intro Tryz.func180 (by kernel_rfl) q q q (fun mm φφ ww hm69 => ?_)
 exact Rcl 2 q (Bx q q q (Rlx 10 q (we_ret (rs1 q (rv_t q)) ⟨h,Zl,⟨q,Zp,Zp,Zp,Zp,Zp,Zp,Zp,Zp,Zp,Zp,Zp,Zp,Zp,Zp,Zp,Zt⟩⟩)))
 rintro rv st1 ⟨h,hr,hst⟩
 subst hk70
 dsimp only at h
 refine WL.cast 16 q hr (WL.weak hst (WL.s0 (d_mapUpdate (fun x : Int => Value.int .u8 x) (fun x : AV => x) [fe 1 214 1,fe 2 214 2,fe 3 214 3,fe 4 215 4,fe 5 215 5,fe 6 215 6,fe 7 216 7,fe 8 216 8,fe 9 216 9,fe 10 216 10,fe 11 216 11,fe 12 216 12,fe 13 214 13,fe 14 214 14] (u:=.fn (.func 214) [] [.pt 15 0]) (.inl q) Tryz.underlying237 Tryz.underlying146 (KeyF.int .u8) q q q q) (Zw q) q ?_))
 obtain ⟨k72,hk72,h⟩:=letkS h
 refine WL.inl (us:=[.fn (.func 198) [] []]) (fun rv st' => (k72 () = some r ∧ Le rv (.fn (.func 214) [] [.pt 16 0]) ∧ SLe st' [mpO (fun x : Int => Value.int .u8 x) (fun x : AV => x) [fe 1 214 1,fe 2 214 2,fe 3 214 3,fe 4 215 4,fe 5 215 5,fe 6 215 6,fe 7 216 7,fe 8 216 8,fe 9 216 9,fe 10 216 10,fe 11 216 11,fe 12 216 12,fe 13 214 13,fe 14 214 14,fe 15 214 15],rF 209 181,rF 209 182,rF 209 183,rF 209 185,rF 209 186,rF 209 187,rF 195 189,rF 195 190,rF 195 191,rF 195 192,rF 195 193,rF 195 194,rF 209 195,rF 209 196,rF 209 197,rF 209 198])) q q q q q ?_ (Zw q) q q ?_
 refine ctr_intro Tryz.func180 (by kernel_rfl) q q q (fun mm φφ ww hm71 => ?_)
 exact Rcl 2 q (Bx q q q (Rlx 10 q (we_ret (rs1 q (rv_t q)) ⟨h,Zl,⟨q,Zp,Zp,Zp,Zp,Zp,Zp,Zp,Zp,Zp,Zp,Zp,Zp,Zp,Zp,Zp,Zp,Zt⟩⟩)))
 rintro rv st1 ⟨h,hr,hst⟩
 subst hk72
 dsimp only at h
 refine WL.cast 17 q hr (WL.weak hst (WL.s0 (d_mapUpdate (fun x : Int => Value.int .u8 x) (fun x : AV => x) [fe 1 214 1,fe 2 214 2,fe 3 214 3,fe 4 215 4,fe 5 215 5,fe 6 215 6,fe 7 216 7,fe 8 216 8,fe 9 216 9,fe 10 216 10,fe 11 216 11,fe 12 216 12,fe 13 214 13,fe 14 214 14,fe 15 214 15] (u:=.fn (.func 214) [] [.pt 16 0]) (.inl q) Tryz.underlying237 Tryz.underlying146 (KeyF.int .u8) q q q q) (Zw q) q ?_))
 obtain ⟨k74,hk74,h⟩:=letkS h
 refine WL.inl (us:=[.fn (.func 199) [] []]) (fun rv st' => (k74 () = some r ∧ Le rv (.fn (.func 214) [] [.pt 17 0]) ∧ SLe st' [mpO (fun x : Int => Value.int .u8 x) (fun x : AV => x) [fe 1 214 1,fe 2 214 2,fe 3 214 3,fe 4 215 4,fe 5 215 5,fe 6 215 6,fe 7 216 7,fe 8 216 8,fe 9 216 9,fe 10 216 10,fe 11 216 11,fe 12 216 12,fe 13 214 13,fe 14 214 14,fe 15 214 15,fe 16 214 16],rF 209 181,rF 209 182,rF 209 183,rF 209 185,rF 209 186,rF 209 187,rF 195 189,rF 195 190,rF 195 191,rF 195 192,rF 195 193,rF 195 194,rF 209 195,rF 209 196,rF 209 197,rF 209 198,rF 209 199])) q q q q q ?_ (Zw q) q q ?_
 refine ctr_intro Tryz.func180 (by kernel_rfl) q q q (fun mm φφ ww hm73 => ?_)
 exact Rcl 2 q (Bx q q q (Rlx 10 q (we_ret (rs1 q (rv_t q)) ⟨h,Zl,⟨q,Zp,Zp,Zp,Zp,Zp,Zp,Zp,Zp,Zp,Zp,Zp,Zp,Zp,Zp,Zp,Zp,Zp,Zt⟩⟩)))
 rintro rv st1 ⟨h,hr,hst⟩
 subst hk74
 dsimp only at h
 refine WL.cast 18 q hr (WL.weak hst (WL.s0 (d_mapUpdate (fun x : Int => Value.int .u8 x) (fun x : AV => x) [fe 1 214 1,fe 2 214 2,fe 3 214 3,fe 4 215 4,fe 5 215 5,fe 6 215 6,fe 7 216 7,fe 8 216 8,fe 9 216 9,fe 10 216 10,fe 11 216 11,fe 12 216 12,fe 13 214 13,fe 14 214 14,fe 15 214 15,fe 16 214 16] (u:=.fn (.func 214) [] [.pt 17 0]) (.inl q) Tryz.underlying237 Tryz.underlying146 (KeyF.int .u8) q q q q) (Zw q) q ?_))
 obtain ⟨k76,hk76,h⟩:=letkS h
 refine WL.inl (us:=[.fn (.func 200) [] []]) (fun rv st' => (k76 () = some r ∧ Le rv (.fn (.func 214) [] [.pt 18 0]) ∧ SLe st' [mpO (fun x : Int => Value.int .u8 x) (fun x : AV => x) [fe 1 214 1,fe 2 214 2,fe 3 214 3,fe 4 215 4,fe 5 215 5,fe 6 215 6,fe 7 216 7,fe 8 216 8,fe 9 216 9,fe 10 216 10,fe 11 216 11,fe 12 216 12,fe 13 214 13,fe 14 214 14,fe 15 214 15,fe 16 214 16,fe 17 214 17],rF 209 181,rF 209 182,rF 209 183,rF 209 185,rF 209 186,rF 209 187,rF 195 189,rF 195 190,rF 195 191,rF 195 192,rF 195 193,rF 195 194,rF 209 195,rF 209 196,rF 209 197,rF 209 198,rF 209 199,rF 209 200])) q q q q q ?_ (Zw q) q q ?_
 refine ctr_intro Tryz.func180 (by kernel_rfl) q q q (fun mm φφ ww hm75 => ?_)
 exact Rcl 2 q (Bx q q q (Rlx 10 q (we_ret (rs1 q (rv_t q)) ⟨h,Zl,⟨q,Zp,Zp,Zp,Zp,Zp,Zp,Zp,Zp,Zp,Zp,Zp,Zp,Zp,Zp,Zp,Zp,Zp,Zp,Zt⟩⟩)))
 rintro rv st1 ⟨h,hr,hst⟩
 subst hk76
 dsimp only at h
 exact WL.cast 19 q hr (WL.weak hst (WL.s0 (d_mapUpdate (fun x : Int => Value.int .u8 x) (fun x : AV => x) [fe 1 214 1,fe 2 214 2,fe 3 214 3,fe 4 215 4,fe 5 215 5,fe 6 215 6,fe 7 216 7,fe 8 216 8,fe 9 216 9,fe 10 216 10,fe 11 216 11,fe 12 216 12,fe 13 214 13,fe 14 214 14,fe 15 214 15,fe 16 214 16,fe 17 214 17] (u:=.fn (.func 214) [] [.pt 18 0]) (.inl q) Tryz.underlying237 Tryz.underlying146 (KeyF.int .u8) q q q q) (Zw q) q (Rl 2 q (Zn (Rcx 1 q (we_ret (rs1 q (rv_t q)) ⟨h,Zl,⟨q,Zp,Zp,Zp,Zp,Zp,Zp,Zp,Zp,Zp,Zp,Zp,Zp,Zp,Zp,Zp,Zp,Zp,Zp,Zt⟩⟩))))))
 rintro rv st1 ⟨h,hr,hst⟩
 subst hk40
 dsimp only at h
 refine WL.cast 22 q hr (WL.weak hst ?_)
 rcases condCases h with ⟨hk77,h⟩ | ⟨hn78,h⟩
 refine Rl 1 q (Zq (y_lookupok (fun x : Int => Value.int .u8 x) (fun x : AV => x) [fe 1 214 1,fe 2 214 2,fe 3 214 3,fe 4 215 4,fe 5 215 5,fe 6 215 6,fe 7 216 7,fe 8 216 8,fe 9 216 9,fe 10 216 10,fe 11 216 11,fe 12 216 12,fe 13 214 13,fe 14 214 14,fe 15 214 15,fe 16 214 16,fe 17 214 17,fe 18 214 18] (k:=op0) (z:=.d (.v .nilFunc)) Tryz.underlying237 Tryz.underlying146 (KeyF.int .u8) q q q (by kernel_rfl) q (by rw [hk77] <;> rfl) (by rw [hk77] <;> rfl)) q (Rl 5 q (Zn (Rcc 7 q (wc_false q (Rcc 3 q (WC.weak (st':=[.dead,rF 209 181,.dead,.dead,.dead,.dead,.dead,.dead,.dead,.dead,.dead,.dead,.dead,.dead,.dead,.dead,.dead,.dead,.dead]) ⟨Zt,OLe.refl _,Zt,Zt,Zt,Zt,Zt,Zt,Zt,Zt,Zt,Zt,Zt,Zt,Zt,Zt,Zt,Zt,Zt,Zt⟩ (WC.sub (env':=[(0,.d (D.i .u8 op0)),(1,.n a1),(2,.n b2),(8,.fn (.func 214) [] [.pt 1 0])]) (Sub.one q (Sub.one q (Sub.one q (Sub.one q (Sub.nil _))))) (Rcl 4 q ?_)))))))))
 obtain ⟨k80,hk80,h⟩:=letkS h
 refine WL.inl (us:=[.n a1,.n b2,.pt 1 0]) (fun rv st' => (k80 () = some r ∧ Le rv (.tu [.n (f181 a1 b2),.d (D.b true)]) ∧ SLe st' [.dead,rF 209 181,.dead,.dead,.dead,.dead,.dead,.dead,.dead,.dead,.dead,.dead,.dead,.dead,.dead,.dead,.dead,.dead,.dead])) q q q q q ?_ (Zw q) q q ?_
 refine ctr_intro Tryz.func214 (by kernel_rfl) q q q (fun mm φφ ww hm79 => ?_)
 exact Rcl 11 q (WL.fn q q q q (f181_c _ _) ⟨Zl,Zl,Zt⟩ (Zw q) q q (Rlx 5 q (we_ret (rs2 q (rv_t q) (rv_t q)) ⟨h,(Le.tu ⟨Zl,Zl,Zt⟩),⟨Zt,Zp,Zt,Zt,Zt,Zt,Zt,Zt,Zt,Zt,Zt,Zt,Zt,Zt,Zt,Zt,Zt,Zt,Zt,Zt⟩⟩)))
 rintro rv st1 ⟨h,hr,hst⟩
 subst hk80
 dsimp only at h
 exact WL.cast 32 q hr (WL.weak hst (Rl 4 q (Zn (Rcx 1 q (FA h)))))
 rcases condCases h with ⟨hk81,h⟩ | ⟨hn82,h⟩
 refine Rl 1 q (Zq (y_lookupok (fun x : Int => Value.int .u8 x) (fun x : AV => x) [fe 1 214 1,fe 2 214 2,fe 3 214 3,fe 4 215 4,fe 5 215 5,fe 6 215 6,fe 7 216 7,fe 8 216 8,fe 9 216 9,fe 10 216 10,fe 11 216 11,fe 12 216 12,fe 13 214 13,fe 14 214 14,fe 15 214 15,fe 16 214 16,fe 17 214 17,fe 18 214 18] (k:=op0) (z:=.d (.v .nilFunc)) Tryz.underlying237 Tryz.underlying146 (KeyF.int .u8) q q q (by kernel_rfl) q (by rw [hk81] <;> rfl) (by rw [hk81] <;> rfl)) q (Rl 5 q (Zn (Rcc 7 q (wc_false q (Rcc 3 q (WC.weak (st':=[.dead,.dead,rF 209 182,.dead,.dead,.dead,.dead,.dead,.dead,.dead,.dead,.dead,.dead,.dead,.dead,.dead,.dead,.dead,.dead]) ⟨Zt,Zt,OLe.refl _,Zt,Zt,Zt,Zt,Zt,Zt,Zt,Zt,Zt,Zt,Zt,Zt,Zt,Zt,Zt,Zt,Zt⟩ (WC.sub (env':=[(0,.d (D.i .u8 op0)),(1,.n a1),(2,.n b2),(8,.fn (.func 214) [] [.pt 2 0])]) (Sub.one q (Sub.one q (Sub.one q (Sub.one q (Sub.nil _))))) (Rcl 4 q ?_)))))))))
 obtain ⟨k84,hk84,h⟩:=letkS h
 refine WL.inl (us:=[.n a1,.n b2,.pt 2 0]) (fun rv st' => (k84 () = some r ∧ Le rv (.tu [.n (f182 a1 b2),.d (D.b true)]) ∧ SLe st' [.dead,.dead,rF 209 182,.dead,.dead,.dead,.dead,.dead,.dead,.dead,.dead,.dead,.dead,.dead,.dead,.dead,.dead,.dead,.dead])) q q q q q ?_ (Zw q) q q ?_
 refine ctr_intro Tryz.func214 (by kernel_rfl) q q q (fun mm φφ ww hm83 => ?_)
 exact Rcl 11 q (WL.fn q q q q (f182_c _ _) ⟨Zl,Zl,Zt⟩ (Zw q) q q (Rlx 5 q (we_ret (rs2 q (rv_t q) (rv_t q)) ⟨h,(Le.tu ⟨Zl,Zl,Zt⟩),⟨Zt,Zt,Zp,Zt,Zt,Zt,Zt,Zt,Zt,Zt,Zt,Zt,Zt,Zt,Zt,Zt,Zt,Zt,Zt,Zt⟩⟩)))
 rintro rv st1 ⟨h,hr,hst⟩
 subst hk84
 dsimp only at h
 exact WL.cast 32 q hr (WL.weak hst (Rl 4 q (Zn (Rcx 1 q (FA h)))))
 rcases condCases h with ⟨hk85,h⟩ | ⟨hn86,h⟩
 refine Rl 1 q (Zq (y_lookupok (fun x : Int => Value.int .u8 x) (fun x : AV => x) [fe 1 214 1,fe 2 214 2,fe 3 214 3,fe 4 215 4,fe 5 215 5,fe 6 215 6,fe 7 216 7,fe 8 216 8,fe 9 216 9,fe 10 216 10,fe 11 216 11,fe 12 216 12,fe 13 214 13,fe 14 214 14,fe 15 214 15,fe 16 214 16,fe 17 214 17,fe 18 214 18] (k:=op0) (z:=.d (.v .nilFunc)) Tryz.underlying237 Tryz.underlying146 (KeyF.int .u8) q q q (by kernel_rfl) q (by rw [hk85] <;> rfl) (by rw [hk85] <;> rfl)) q (Rl 5 q (Zn (Rcc 7 q (wc_false q (Rcc 3 q (WC.weak (st':=[.dead,.dead,.dead,rF 209 183,.dead,.dead,.dead,.dead,.dead,.dead,.dead,.dead,.dead,.dead,.dead,.dead,.dead,.dead,.dead]) ⟨Zt,Zt,Zt,OLe.refl _,Zt,Zt,Zt,Zt,Zt,Zt,Zt,Zt,Zt,Zt,Zt,Zt,Zt,Zt,Zt,Zt⟩ (WC.sub (env':=[(0,.d (D.i .u8 op0)),(1,.n a1),(2,.n b2),(8,.fn (.func 214) [] [.pt 3 0])]) (Sub.one q (Sub.one q (Sub.one q (Sub.one q (Sub.nil _))))) (Rcl 4 q ?_)))))))))
 obtain ⟨k88,hk88,h⟩:=letkS h
 refine WL.inl (us:=[.n a1,.n b2,.pt 3 0]) (fun rv st' => (k88 () = some r ∧ Le rv (.tu [.n (f183 a1 b2),.d (D.b true)]) ∧ SLe st' [.dead,.dead,.dead,rF 209 183,.dead,.dead,.dead,.dead,.dead,.dead,.dead,.dead,.dead,.dead,.dead,.dead,.dead,.dead,.dead])) q q q q q ?_ (Zw q) q q ?_
 refine ctr_intro Tryz.func214 (by kernel_rfl) q q q (fun mm φφ ww hm87 => ?_)
 exact Rcl 11 q (WL.fn q q q q (f183_c _ _) ⟨Zl,Zl,Zt⟩ (Zw q) q q (Rlx 5 q (we_ret (rs2 q (rv_t q) (rv_t q)) ⟨h,(Le.tu ⟨Zl,Zl,Zt⟩),⟨Zt,Zt,Zt,Zp,Zt,Zt,Zt,Zt,Zt,Zt,Zt,Zt,Zt,Zt,Zt,Zt,Zt,Zt,Zt,Zt⟩⟩)))
 rintro rv st1 ⟨h,hr,hst⟩
 subst hk88
 dsimp only at h
 exact WL.cast 32 q hr (WL.weak hst (Rl 4 q (Zn (Rcx 1 q (FA h)))))
 rcases condCases h with ⟨hk89,h⟩ | ⟨hn90,h⟩
 refine Rl 1 q (Zq (y_lookupok (fun x : Int => Value.int .u8 x) (fun x : AV => x) [fe 1 214 1,fe 2 214 2,fe 3 214 3,fe 4 215 4,fe 5 215 5,fe 6 215 6,fe 7 216 7,fe 8 216 8,fe 9 216 9,fe 10 216 10,fe 11 216 11,fe 12 216 12,fe 13 214 13,fe 14 214 14,fe 15 214 15,fe 16 214 16,fe 17 214 17,fe 18 214 18] (k:=op0) (z:=.d (.v .nilFunc)) Tryz.underlying237 Tryz.underlying146 (KeyF.int .u8) q q q (by kernel_rfl) q (by rw [hk89] <;> rfl) (by rw [hk89] <;> rfl)) q (Rl 5 q (Zn (Rcc 7 q (wc_false q (Rcc 3 q (WC.weak (st':=[.dead,.dead,.dead,.dead,rF 209 185,.dead,.dead,.dead,.dead,.dead,.dead,.dead,.dead,.dead,.dead,.dead,.dead,.dead,.dead]) ⟨Zt,Zt,Zt,Zt,OLe.refl _,Zt,Zt,Zt,Zt,Zt,Zt,Zt,Zt,Zt,Zt,Zt,Zt,Zt,Zt,Zt⟩ (WC.sub (env':=[(0,.d (D.i .u8 op0)),(1,.n a1),(2,.n b2),(8,.fn (.func 215) [] [.pt 4 0])]) (Sub.one q (Sub.one q (Sub.one q (Sub.one q (Sub.nil _))))) (Rcl 4 q ?_)))))))))
 obtain ⟨k94,hk94,h⟩:=letkS h
 refine WL.inl (us:=[.n a1,.n b2,.pt 4 0]) (fun rv st' => (∃ (t92 : Bool),∃ (t93 : Int),k94 t92 t93 = some r ∧ Le rv (.tu [.n t93,.d (D.b t92)]) ∧ SLe st' [.dead,.dead,.dead,.dead,rF 209 185,.dead,.dead,.dead,.dead,.dead,.dead,.dead,.dead,.dead,.dead,.dead,.dead,.dead,.dead])) q q q q q ?_ (Zw q) q q ?_
 refine ctr_intro Tryz.func215 (by kernel_rfl) q q q (fun mm φφ ww hm91 => ?_)
 refine Rcc 13 q (Ci h q (fun h => ?_) (fun h => ?_))
 exact Rcx 8 q (we_ret (rs2 q (rv_t q) (rv_t q)) ⟨false,0,h,(Le.tu ⟨Zl,Zl,Zt⟩),⟨Zt,Zt,Zt,Zt,Zp,Zt,Zt,Zt,Zt,Zt,Zt,Zt,Zt,Zt,Zt,Zt,Zt,Zt,Zt,Zt⟩⟩)
 refine Rcl 7 q ?_
 obtain ⟨r95,hr95,h⟩:=bindS h
 exact WL.fn q q q q (f185_c _ _ hr95) ⟨Zl,Zl,Zt⟩ (Zw q) q q (Rlx 5 q (we_ret (rs2 q (rv_t q) (rv_t q)) ⟨true,r95,h,(Le.tu ⟨Zl,Zl,Zt⟩),⟨Zt,Zt,Zt,Zt,Zp,Zt,Zt,Zt,Zt,Zt,Zt,Zt,Zt,Zt,Zt,Zt,Zt,Zt,Zt,Zt⟩⟩))
 rintro rv st1 ⟨t92,t93,h,hr,hst⟩
 subst hk94
 dsimp only at h
 exact WL.cast 32 q hr (WL.weak hst (Rl 4 q (Zn (Rcx 1 q (FA h)))))
 rcases condCases h with ⟨hk96,h⟩ | ⟨hn97,h⟩
 refine Rl 1 q (Zq (y_lookupok (fun x : Int => Value.int .u8 x) (fun x : AV => x) [fe 1 214 1,fe 2 214 2,fe 3 214 3,fe 4 215 4,fe 5 215 5,fe 6 215 6,fe 7 216 7,fe 8 216 8,fe 9 216 9,fe 10 216 10,fe 11 216 11,fe 12 216 12,fe 13 214 13,fe 14 214 14,fe 15 214 15,fe 16 214 16,fe 17 214 17,fe 18 214 18] (k:=op0) (z:=.d (.v .nilFunc)) Tryz.underlying237 Tryz.underlying146 (KeyF.int .u8) q q q (by kernel_rfl) q (by rw [hk96] <;> rfl) (by rw [hk96] <;> rfl)) q (Rl 5 q (Zn (Rcc 7 q (wc_false q (Rcc 3 q (WC.weak (st':=[.dead,.dead,.dead,.dead,.dead,rF 209 186,.dead,.dead,.dead,.dead,.dead,.dead,.dead,.dead,.dead,.dead,.dead,.dead,.dead]) ⟨Zt,Zt,Zt,Zt,Zt,OLe.refl _,Zt,Zt,Zt,Zt,Zt,Zt,Zt,Zt,Zt,Zt,Zt,Zt,Zt,Zt⟩ (WC.sub (env':=[(0,.d (D.i .u8 op0)),(1,.n a1),(2,.n b2),(8,.fn (.func 215) [] [.pt 5 0])]) (Sub.one q (Sub.one q (Sub.one q (Sub.one q (Sub.nil _))))) (Rcl 4 q ?_)))))))))
 obtain ⟨k101,hk101,h⟩:=letkS h
 refine WL.inl (us:=[.n a1,.n b2,.pt 5 0]) (fun rv st' => (∃ (t99 : Bool),∃ (t100 : Int),k101 t99 t100 = some r ∧ Le rv (.tu [.n t100,.d (D.b t99)]) ∧ SLe st' [.dead,.dead,.dead,.dead,.dead,rF 209 186,.dead,.dead,.dead,.dead,.dead,.dead,.dead,.dead,.dead,.dead,.dead,.dead,.dead])) q q q q q ?_ (Zw q) q q ?_
 refine ctr_intro Tryz.func215 (by kernel_rfl) q q q (fun mm φφ ww hm98 => ?_)
 refine Rcc 13 q (Ci h q (fun h => ?_) (fun h => ?_))
 exact Rcx 8 q (we_ret (rs2 q (rv_t q) (rv_t q)) ⟨false,0,h,(Le.tu ⟨Zl,Zl,Zt⟩),⟨Zt,Zt,Zt,Zt,Zt,Zp,Zt,Zt,Zt,Zt,Zt,Zt,Zt,Zt,Zt,Zt,Zt,Zt,Zt,Zt⟩⟩)
 refine Rcl 7 q ?_
 obtain ⟨r102,hr102,h⟩:=bindS h
 exact WL.fn q q q q (f186_c _ _ hr102) ⟨Zl,Zl,Zt⟩ (Zw q) q q (Rlx 5 q (we_ret (rs2 q (rv_t q) (rv_t q)) ⟨true,r102,h,(Le.tu ⟨Zl,Zl,Zt⟩),⟨Zt,Zt,Zt,Zt,Zt,Zp,Zt,Zt,Zt,Zt,Zt,Zt,Zt,Zt,Zt,Zt,Zt,Zt,Zt,Zt⟩⟩))
 rintro rv st1 ⟨t99,t100,h,hr,hst⟩
 subst hk101
 dsimp only at h
 exact WL.cast 32 q hr (WL.weak hst (Rl 4 q (Zn (Rcx 1 q (FA h)))))
 rcases condCases h with ⟨hk103,h⟩ | ⟨hn104,h⟩
 refine Rl 1 q (Zq (y_lookupok (fun x : Int => Value.int .u8 x) (fun x : AV => x) [fe 1 214 1,fe 2 214 2,fe 3 214 3,fe 4 215 4,fe 5 215 5,fe 6 215 6,fe 7 216 7,fe 8 216 8,fe 9 216 9,fe 10 216 10,fe 11 216 11,fe 12 216 12,fe 13 214 13,fe 14 214 14,fe 15 214 15,fe 16 214 16,fe 17 214 17,fe 18 214 18] (k:=op0) (z:=.d (.v .nilFunc)) Tryz.underlying237 Tryz.underlying146 (KeyF.int .u8) q q q (by kernel_rfl) q (by rw [hk103] <;> rfl) (by rw [hk103] <;> rfl)) q (Rl 5 q (Zn (Rcc 7 q (wc_false q (Rcc 3 q (WC.weak (st':=[.dead,.dead,.dead,.dead,.dead,.dead,rF 209 187,.dead,.dead,.dead,.dead,.dead,.dead,.dead,.dead,.dead,.dead,.dead,.dead]) ⟨Zt,Zt,Zt,Zt,Zt,Zt,OLe.refl _,Zt,Zt,Zt,Zt,Zt,Zt,Zt,Zt,Zt,Zt,Zt,Zt,Zt⟩ (WC.sub (env':=[(0,.d (D.i .u8 op0)),(1,.n a1),(2,.n b2),(8,.fn (.func 215) [] [.pt 6 0])]) (Sub.one q (Sub.one q (Sub.one q (Sub.one q (Sub.nil _))))) (Rcl 4 q ?_)))))))))
 obtain ⟨k108,hk108,h⟩:=letkS h
 refine WL.inl (us:=[.n a1,.n b2,.pt 6 0]) (fun rv st' => (∃ (t106 : Bool),∃ (t107 : Int),k108 t106 t107 = some r ∧ Le rv (.tu [.n t107,.d (D.b t106)]) ∧ SLe st' [.dead,.dead,.dead,.dead,.dead,.dead,rF 209 187,.dead,.dead,.dead,.dead,.dead,.dead,.dead,.dead,.dead,.dead,.dead,.dead])) q q q q q ?_ (Zw q) q q ?_
 refine ctr_intro Tryz.func215 (by kernel_rfl) q q q (fun mm φφ ww hm105 => ?_)
 refine Rcc 13 q (Ci h q (fun h => ?_) (fun h => ?_))
 exact Rcx 8 q (we_ret (rs2 q (rv_t q) (rv_t q)) ⟨false,0,h,(Le.tu ⟨Zl,Zl,Zt⟩),⟨Zt,Zt,Zt,Zt,Zt,Zt,Zp,Zt,Zt,Zt,Zt,Zt,Zt,Zt,Zt,Zt,Zt,Zt,Zt,Zt⟩⟩)
 refine Rcl 7 q ?_
 obtain ⟨r109,hr109,h⟩:=bindS h
 exact WL.fn q q q q (f187_c _ _ hr109) ⟨Zl,Zl,Zt⟩ (Zw q) q q (Rlx 5 q (we_ret (rs2 q (rv_t q) (rv_t q)) ⟨true,r109,h,(Le.tu ⟨Zl,Zl,Zt⟩),⟨Zt,Zt,Zt,Zt,Zt,Zt,Zp,Zt,Zt,Zt,Zt,Zt,Zt,Zt,Zt,Zt,Zt,Zt,Zt,Zt⟩⟩))
 rintro rv st1 ⟨t106,t107,h,hr,hst⟩
 subst hk108
 dsimp only at h
 exact WL.cast 32 q hr (WL.weak hst (Rl 4 q (Zn (Rcx 1 q (FA h)))))
 rcases condCases h with ⟨hk110,h⟩ | ⟨hn111,h⟩
 refine Rl 1 q (Zq (y_lookupok (fun x : Int => Value.int .u8 x) (fun x : AV => x) [fe 1 214 1,fe 2 214 2,fe 3 214 3,fe 4 215 4,fe 5 215 5,fe 6 215 6,fe 7 216 7,fe 8 216 8,fe 9 216 9,fe 10 216 10,fe 11 216 11,fe 12 216 12,fe 13 214 13,fe 14 214 14,fe 15 214 15,fe 16 214 16,fe 17 214 17,fe 18 214 18] (k:=op0) (z:=.d (.v .nilFunc)) Tryz.underlying237 Tryz.underlying146 (KeyF.int .u8) q q q (by kernel_rfl) q (by rw [hk110] <;> rfl) (by rw [hk110] <;> rfl)) q (Rl 5 q (Zn (Rcc 7 q (wc_false q (Rcc 3 q (WC.weak (st':=[.dead,.dead,.dead,.dead,.dead,.dead,.dead,rF 195 189,.dead,.dead,.dead,.dead,.dead,.dead,.dead,.dead,.dead,.dead,.dead]) ⟨Zt,Zt,Zt,Zt,Zt,Zt,Zt,OLe.refl _,Zt,Zt,Zt,Zt,Zt,Zt,Zt,Zt,Zt,Zt,Zt,Zt⟩ (WC.sub (env':=[(0,.d (D.i .u8 op0)),(1,.n a1),(2,.n b2),(8,.fn (.func 216) [] [.pt 7 0])]) (Sub.one q (Sub.one q (Sub.one q (Sub.one q (Sub.nil _))))) (Rcl 4 q ?_)))))))))
 obtain ⟨k113,hk113,h⟩:=letkS h
 refine WL.inl (us:=[.n a1,.n b2,.pt 7 0]) (fun rv st' => (k113 () = some r ∧ Le rv (.tu [.n (f217 (f189 a1 b2)),.d (D.b true)]) ∧ SLe st' [.dead,.dead,.dead,.dead,.dead,.dead,.dead,rF 195 189,.dead,.dead,.dead,.dead,.dead,.dead,.dead,.dead,.dead,.dead,.dead])) q q q q q ?_ (Zw q) q q ?_
 refine ctr_intro Tryz.func216 (by kernel_rfl) q q q (fun mm φφ ww hm112 => ?_)
 exact Rcl 11 q (WL.fn q q q q (f189_c _ _) ⟨Zl,Zl,Zt⟩ (Zw q) q q (WL.fn q q q q (f217_c _) ⟨Zl,Zt⟩ (Zw q) q q (Rlx 5 q (we_ret (rs2 q (rv_t q) (rv_t q)) ⟨h,(Le.tu ⟨Zl,Zl,Zt⟩),⟨Zt,Zt,Zt,Zt,Zt,Zt,Zt,Zp,Zt,Zt,Zt,Zt,Zt,Zt,Zt,Zt,Zt,Zt,Zt,Zt⟩⟩))))
 rintro rv st1 ⟨h,hr,hst⟩
 subst hk113
 dsimp only at h
 exact WL.cast 32 q hr (WL.weak hst (Rl 4 q (Zn (Rcx 1 q (FA h)))))
 rcases condCases h with ⟨hk114,h⟩ | ⟨hn115,h⟩
 refine Rl 1 q (Zq (y_lookupok (fun x : Int => Value.int .u8 x) (fun x : AV => x) [fe 1 214 1,fe 2 214 2,fe 3 214 3,fe 4 215 4,fe 5 215 5,fe 6 215 6,fe 7 216 7,fe 8 216 8,fe 9 216 9,fe 10 216 10,fe 11 216 11,fe 12 216 12,fe 13 214 13,fe 14 214 14,fe 15 214 15,fe 16 214 16,fe 17 214 17,fe 18 214 18] (k:=op0) (z:=.d (.v .nilFunc)) Tryz.underlying237 Tryz.underlying146 (KeyF.int .u8) q q q (by kernel_rfl) q (by rw [hk114] <;> rfl) (by rw [hk114] <;> rfl)) q (Rl 5 q (Zn (Rcc 7 q (wc_false q (Rcc 3 q (WC.weak (st':=[.dead,.dead,.dead,.dead,.dead,.dead,.dead,.dead,rF 195 190,.dead,.dead,.dead,.dead,.dead,.dead,.dead,.dead,.dead,.dead]) ⟨Zt,Zt,Zt,Zt,Zt,Zt,Zt,Zt,OLe.refl _,Zt,Zt,Zt,Zt,Zt,Zt,Zt,Zt,Zt,Zt,Zt⟩ (WC.sub (env':=[(0,.d (D.i .u8 op0)),(1,.n a1),(2,.n b2),(8,.fn (.func 216) [] [.pt 8 0])]) (Sub.one q (Sub.one q (Sub.one q (Sub.one q (Sub.nil _))))) (Rcl 4 q ?_)))))))))
 obtain ⟨k117,hk117,h⟩:=letkS h
 refine WL.inl (us:=[.n a1,.n b2,.pt 8 0]) (fun rv st' => (k117 () = some r ∧ Le rv (.tu [.n (f217 (f190 a1 b2)),.d (D.b true)]) ∧ SLe st' [.dead,.dead,.dead,.dead,.dead,.dead,.dead,.dead,rF 195 190,.dead,.dead,.dead,.dead,.dead,.dead,.dead,.dead,.dead,.dead])) q q q q q ?_ (Zw q) q q ?_
 refine ctr_intro Tryz.func216 (by kernel_rfl) q q q (fun mm φφ ww hm116 => ?_)
 exact Rcl 11 q (WL.fn q q q q (f190_c _ _) ⟨Zl,Zl,Zt⟩ (Zw q) q q (WL.fn q q q q (f217_c _) ⟨Zl,Zt⟩ (Zw q) q q (Rlx 5 q (we_ret (rs2 q (rv_t q) (rv_t q)) ⟨h,(Le.tu ⟨Zl,Zl,Zt⟩),⟨Zt,Zt,Zt,Zt,Zt,Zt,Zt,Zt,Zp,Zt,Zt,Zt,Zt,Zt,Zt,Zt,Zt,Zt,Zt,Zt⟩⟩))))
 rintro rv st1 ⟨h,hr,hst⟩
 subst hk117
 dsimp only at h
 exact WL.cast 32 q hr (WL.weak hst (Rl 4 q (Zn (Rcx 1 q (FA h)))))
 rcases condCases h with ⟨hk118,h⟩ | ⟨hn119,h⟩
 refine Rl 1 q (Zq (y_lookupok (fun x : Int => Value.int .u8 x) (fun x : AV => x) [fe 1 214 1,fe 2 214 2,fe 3 214 3,fe 4 215 4,fe 5 215 5,fe 6 215 6,fe 7 216 7,fe 8 216 8,fe 9 216 9,fe 10 216 10,fe 11 216 11,fe 12 216 12,fe 13 214 13,fe 14 214 14,fe 15 214 15,fe 16 214 16,fe 17 214 17,fe 18 214 18] (k:=op0) (z:=.d (.v .nilFunc)) Tryz.underlying237 Tryz.underlying146 (KeyF.int .u8) q q q (by kernel_rfl) q (by rw [hk118] <;> rfl) (by rw [hk118] <;> rfl)) q (Rl 5 q (Zn (Rcc 7 q (wc_false q (Rcc 3 q (WC.weak (st':=[.dead,.dead,.dead,.dead,.dead,.dead,.dead,.dead,.dead,rF 195 191,.dead,.dead,.dead,.dead,.dead,.dead,.dead,.dead,.dead]) ⟨Zt,Zt,Zt,Zt,Zt,Zt,Zt,Zt,Zt,OLe.refl _,Zt,Zt,Zt,Zt,Zt,Zt,Zt,Zt,Zt,Zt⟩ (WC.sub (env':=[(0,.d (D.i .u8 op0)),(1,.n a1),(2,.n b2),(8,.fn (.func 216) [] [.pt 9 0])]) (Sub.one q (Sub.one q (Sub.one q (Sub.one q (Sub.nil _))))) (Rcl 4 q ?_)))))))))
 obtain ⟨k121,hk121,h⟩:=letkS h
 refine WL.inl (us:=[.n a1,.n b2,.pt 9 0]) (fun rv st' => (k121 () = some r ∧ Le rv (.tu [.n (f217 (f191 a1 b2)),.d (D.b true)]) ∧ SLe st' [.dead,.dead,.dead,.dead,.dead,.dead,.dead,.dead,.dead,rF 195 191,.dead,.dead,.dead,.dead,.dead,.dead,.dead,.dead,.dead])) q q q q q ?_ (Zw q) q q ?_
 refine ctr_intro Tryz.func216 (by kernel_rfl) q q q (fun mm φφ ww hm120 => ?_)
 exact Rcl 11 q (WL.fn q q q q (f191_c _ _) ⟨Zl,Zl,Zt⟩ (Zw q) q q (WL.fn q q q q (f217_c _) ⟨Zl,Zt⟩ (Zw q) q q (Rlx 5 q (we_ret (rs2 q (rv_t q) (rv_t q)) ⟨h,(Le.tu ⟨Zl,Zl,Zt⟩),⟨Zt,Zt,Zt,Zt,Zt,Zt,Zt,Zt,Zt,Zp,Zt,Zt,Zt,Zt,Zt,Zt,Zt,Zt,Zt,Zt⟩⟩))))
 rintro rv st1 ⟨h,hr,hst⟩
 subst hk121
 dsimp only at h
 exact WL.cast 32 q hr (WL.weak hst (Rl 4 q (Zn (Rcx 1 q (FA h)))))
 rcases condCases h with ⟨hk122,h⟩ | ⟨hn123,h⟩
 refine Rl 1 q (Zq (y_lookupok (fun x : Int => Value.int .u8 x) (fun x : AV => x) [fe 1 214 1,fe 2 214 2,fe 3 214 3,fe 4 215 4,fe 5 215 5,fe 6 215 6,fe 7 216 7,fe 8 216 8,fe 9 216 9,fe 10 216 10,fe 11 216 11,fe 12 216 12,fe 13 214 13,fe 14 214 14,fe 15 214 15,fe 16 214 16,fe 17 214 17,fe 18 214 18] (k:=op0) (z:=.d (.v .nilFunc)) Tryz.underlying237 Tryz.underlying146 (KeyF.int .u8) q q q (by kernel_rfl) q (by rw [hk122] <;> rfl) (by rw [hk122] <;> rfl)) q (Rl 5 q (Zn (Rcc 7 q (wc_false q (Rcc 3 q (WC.weak (st':=[.dead,.dead,.dead,.dead,.dead,.dead,.dead,.dead,.dead,.dead,rF 195 192,.dead,.dead,.dead,.dead,.dead,.dead,.dead,.dead]) ⟨Zt,Zt,Zt,Zt,Zt,Zt,Zt,Zt,Zt,Zt,OLe.refl _,Zt,Zt,Zt,Zt,Zt,Zt,Zt,Zt,Zt⟩ (WC.sub (env':=[(0,.d (D.i .u8 op0)),(1,.n a1),(2,.n b2),(8,.fn (.func 216) [] [.pt 10 0])]) (Sub.one q (Sub.one q (Sub.one q (Sub.one q (Sub.nil _))))) (Rcl 4 q ?_)))))))))
 obtain ⟨k125,hk125,h⟩:=letkS h
 refine WL.inl (us:=[.n a1,.n b2,.pt 10 0]) (fun rv st' => (k125 () = some r ∧ Le rv (.tu [.n (f217 (f192 a1 b2)),.d (D.b true)]) ∧ SLe st' [.dead,.dead,.dead,.dead,.dead,.dead,.dead,.dead,.dead,.dead,rF 195 192,.dead,.dead,.dead,.dead,.dead,.dead,.dead,.dead])) q q q q q ?_ (Zw q) q q ?_
 refine ctr_intro Tryz.func216 (by kernel_rfl) q q q (fun mm φφ ww hm124 => ?_)
 exact Rcl 11 q (WL.fn q q q q (f192_c _ _) ⟨Zl,Zl,Zt⟩ (Zw q) q q (WL.fn q q q q (f217_c _) ⟨Zl,Zt⟩ (Zw q) q q (Rlx 5 q (we_ret (rs2 q (rv_t q) (rv_t q)) ⟨h,(Le.tu ⟨Zl,Zl,Zt⟩),⟨Zt,Zt,Zt,Zt,Zt,Zt,Zt,Zt,Zt,Zt,Zp,Zt,Zt,Zt,Zt,Zt,Zt,Zt,Zt,Zt⟩⟩))))
 rintro rv st1 ⟨h,hr,hst⟩
 subst hk125
 dsimp only at h
 exact WL.cast 32 q hr (WL.weak hst (Rl 4 q (Zn (Rcx 1 q (FA h)))))
 rcases condCases h with ⟨hk126,h⟩ | ⟨hn127,h⟩
 refine Rl 1 q (Zq (y_lookupok (fun x : Int => Value.int .u8 x) (fun x : AV => x) [fe 1 214 1,fe 2 214 2,fe 3 214 3,fe 4 215 4,fe 5 215 5,fe 6 215 6,fe 7 216 7,fe 8 216 8,fe 9 216 9,fe 10 216 10,fe 11 216 11,fe 12 216 12,fe 13 214 13,fe 14 214 14,fe 15 214 15,fe 16 214 16,fe 17 214 17,fe 18 214 18] (k:=op0) (z:=.d (.v .nilFunc)) Tryz.underlying237 Tryz.underlying146 (KeyF.int .u8) q q q (by kernel_rfl) q (by rw [hk126] <;> rfl) (by rw [hk126] <;> rfl)) q (Rl 5 q (Zn (Rcc 7 q (wc_false q (Rcc 3 q (WC.weak (st':=[.dead,.dead,.dead,.dead,.dead,.dead,.dead,.dead,.dead,.dead,.dead,rF 195 193,.dead,.dead,.dead,.dead,.dead,.dead,.dead]) ⟨Zt,Zt,Zt,Zt,Zt,Zt,Zt,Zt,Zt,Zt,Zt,OLe.refl _,Zt,Zt,Zt,Zt,Zt,Zt,Zt,Zt⟩ (WC.sub (env':=[(0,.d (D.i .u8 op0)),(1,.n a1),(2,.n b2),(8,.fn (.func 216) [] [.pt 11 0])]) (Sub.one q (Sub.one q (Sub.one q (Sub.one q (Sub.nil _))))) (Rcl 4 q ?_)))))))))
 obtain ⟨k129,hk129,h⟩:=letkS h
 refine WL.inl (us:=[.n a1,.n b2,.pt 11 0]) (fun rv st' => (k129 () = some r ∧ Le rv (.tu [.n (f217 (f193 a1 b2)),.d (D.b true)]) ∧ SLe st' [.dead,.dead,.dead,.dead,.dead,.dead,.dead,.dead,.dead,.dead,.dead,rF 195 193,.dead,.dead,.dead,.dead,.dead,.dead,.dead])) q q q q q ?_ (Zw q) q q ?_
 refine ctr_intro Tryz.func216 (by kernel_rfl) q q q (fun mm φφ ww hm128 => ?_)
 exact Rcl 11 q (WL.fn q q q q (f193_c _ _) ⟨Zl,Zl,Zt⟩ (Zw q) q q (WL.fn q q q q (f217_c _) ⟨Zl,Zt⟩ (Zw q) q q (Rlx 5 q (we_ret (rs2 q (rv_t q) (rv_t q)) ⟨h,(Le.tu ⟨Zl,Zl,Zt⟩),⟨Zt,Zt,Zt,Zt,Zt,Zt,Zt,Zt,Zt,Zt,Zt,Zp,Zt,Zt,Zt,Zt,Zt,Zt,Zt,Zt⟩⟩))))
 rintro rv st1 ⟨h,hr,hst⟩
 subst hk129
 dsimp only at h
 exact WL.cast 32 q hr (WL.weak hst (Rl 4 q (Zn (Rcx 1 q (FA h)))))
 rcases condCases h with ⟨hk130,h⟩ | ⟨hn131,h⟩
 refine Rl 1 q (Zq (y_lookupok (fun x : Int => Value.int .u8 x) (fun x : AV => x) [fe 1 214 1,fe 2 214 2,fe 3 214 3,fe 4 215 4,fe 5 215 5,fe 6 215 6,fe 7 216 7,fe 8 216 8,fe 9 216 9,fe 10 216 10,fe 11 216 11,fe 12 216 12,fe 13 214 13,fe 14 214 14,fe 15 214 15,fe 16 214 16,fe 17 214 17,fe 18 214 18] (k:=op0) (z:=.d (.v .nilFunc)) Tryz.underlying237 Tryz.underlying146 (KeyF.int .u8) q q q (by kernel_rfl) q (by rw [hk130] <;> rfl) (by rw [hk130] <;> rfl)) q (Rl 5 q (Zn (Rcc 7 q (wc_false q (Rcc 3 q (WC.weak (st':=[.dead,.dead,.dead,.dead,.dead,.dead,.dead,.dead,.dead,.dead,.dead,.dead,rF 195 194,.dead,.dead,.dead,.dead,.dead,.dead]) ⟨Zt,Zt,Zt,Zt,Zt,Zt,Zt,Zt,Zt,Zt,Zt,Zt,OLe.refl _,Zt,Zt,Zt,Zt,Zt,Zt,Zt⟩ (WC.sub (env':=[(0,.d (D.i .u8 op0)),(1,.n a1),(2,.n b2),(8,.fn (.func 216) [] [.pt 12 0])]) (Sub.one q (Sub.one q (Sub.one q (Sub.one q (Sub.nil _))))) (Rcl 4 q ?_)))))))))
 obtain ⟨k133,hk133,h⟩:=letkS h
 refine WL.inl (us:=[.n a1,.n b2,.pt 12 0]) (fun rv st' => (k133 () = some r ∧ Le rv (.tu [.n (f217 (f194 a1 b2)),.d (D.b true)]) ∧ SLe st' [.dead,.dead,.dead,.dead,.dead,.dead,.dead,.dead,.dead,.dead,.dead,.dead,rF 195 194,.dead,.dead,.dead,.dead,.dead,.dead])) q q q q q ?_ (Zw q) q q ?_
 refine ctr_intro Tryz.func216 (by kernel_rfl) q q q (fun mm φφ ww hm132 => ?_)
 exact Rcl 11 q (WL.fn q q q q (f194_c _ _) ⟨Zl,Zl,Zt⟩ (Zw q) q q (WL.fn q q q q (f217_c _) ⟨Zl,Zt⟩ (Zw q) q q (Rlx 5 q (we_ret (rs2 q (rv_t q) (rv_t q)) ⟨h,(Le.tu ⟨Zl,Zl,Zt⟩),⟨Zt,Zt,Zt,Zt,Zt,Zt,Zt,Zt,Zt,Zt,Zt,Zt,Zp,Zt,Zt,Zt,Zt,Zt,Zt,Zt⟩⟩))))
 rintro rv st1 ⟨h,hr,hst⟩
 subst hk133
 dsimp only at h
 exact WL.cast 32 q hr (WL.weak hst (Rl 4 q (Zn (Rcx 1 q (FA h)))))
 rcases condCases h with ⟨hk134,h⟩ | ⟨hn135,h⟩
 refine Rl 1 q (Zq (y_lookupok (fun x : Int => Value.int .u8 x) (fun x : AV => x) [fe 1 214 1,fe 2 214 2,fe 3 214 3,fe 4 215 4,fe 5 215 5,fe 6 215 6,fe 7 216 7,fe 8 216 8,fe 9 216 9,fe 10 216 10,fe 11 216 11,fe 12 216 12,fe 13 214 13,fe 14 214 14,fe 15 214 15,fe 16 214 16,fe 17 214 17,fe 18 214 18] (k:=op0) (z:=.d (.v .nilFunc)) Tryz.underlying237 Tryz.underlying146 (KeyF.int .u8) q q q (by kernel_rfl) q (by rw [hk134] <;> rfl) (by rw [hk134] <;> rfl)) q (Rl 5 q (Zn (Rcc 7 q (wc_false q (Rcc 3 q (WC.weak (st':=[.dead,.dead,.dead,.dead,.dead,.dead,.dead,.dead,.dead,.dead,.dead,.dead,.dead,rF 209 195,.dead,.dead,.dead,.dead,.dead]) ⟨Zt,Zt,Zt,Zt,Zt,Zt,Zt,Zt,Zt,Zt,Zt,Zt,Zt,OLe.refl _,Zt,Zt,Zt,Zt,Zt,Zt⟩ (WC.sub (env':=[(0,.d (D.i .u8 op0)),(1,.n a1),(2,.n b2),(8,.fn (.func 214) [] [.pt 13 0])]) (Sub.one q (Sub.one q (Sub.one q (Sub.one q (Sub.nil _))))) (Rcl 4 q ?_)))))))))
 obtain ⟨k137,hk137,h⟩:=letkS h
 refine WL.inl (us:=[.n a1,.n b2,.pt 13 0]) (fun rv st' => (k137 () = some r ∧ Le rv (.tu [.n (f195 a1 b2),.d (D.b true)]) ∧ SLe st' [.dead,.dead,.dead,.dead,.dead,.dead,.dead,.dead,.dead,.dead,.dead,.dead,.dead,rF 209 195,.dead,.dead,.dead,.dead,.dead])) q q q q q ?_ (Zw q) q q ?_
 refine ctr_intro Tryz.func214 (by kernel_rfl) q q q (fun mm φφ ww hm136 => ?_)
 exact Rcl 11 q (WL.fn q q q q (f195_c _ _) ⟨Zl,Zl,Zt⟩ (Zw q) q q (Rlx 5 q (we_ret (rs2 q (rv_t q) (rv_t q)) ⟨h,(Le.tu ⟨Zl,Zl,Zt⟩),⟨Zt,Zt,Zt,Zt,Zt,Zt,Zt,Zt,Zt,Zt,Zt,Zt,Zt,Zp,Zt,Zt,Zt,Zt,Zt,Zt⟩⟩)))
 rintro rv st1 ⟨h,hr,hst⟩
 subst hk137
 dsimp only at h
 exact WL.cast 32 q hr (WL.weak hst (Rl 4 q (Zn (Rcx 1 q (FA h)))))
 rcases condCases h with ⟨hk138,h⟩ | ⟨hn139,h⟩
 refine Rl 1 q (Zq (y_lookupok (fun x : Int => Value.int .u8 x) (fun x : AV => x) [fe 1 214 1,fe 2 214 2,fe 3 214 3,fe 4 215 4,fe 5 215 5,fe 6 215 6,fe 7 216 7,fe 8 216 8,fe 9 216 9,fe 10 216 10,fe 11 216 11,fe 12 216 12,fe 13 214 13,fe 14 214 14,fe 15 214 15,fe 16 214 16,fe 17 214 17,fe 18 214 18] (k:=op0) (z:=.d (.v .nilFunc)) Tryz.underlying237 Tryz.underlying146 (KeyF.int .u8) q q q (by kernel_rfl) q (by rw [hk138] <;> rfl) (by rw [hk138] <;> rfl)) q (Rl 5 q (Zn (Rcc 7 q (wc_false q (Rcc 3 q (WC.weak (st':=[.dead,.dead,.dead,.dead,.dead,.dead,.dead,.dead,.dead,.dead,.dead,.dead,.dead,.dead,rF 209 196,.dead,.dead,.dead,.dead]) ⟨Zt,Zt,Zt,Zt,Zt,Zt,Zt,Zt,Zt,Zt,Zt,Zt,Zt,Zt,OLe.refl _,Zt,Zt,Zt,Zt,Zt⟩ (WC.sub (env':=[(0,.d (D.i .u8 op0)),(1,.n a1),(2,.n b2),(8,.fn (.func 214) [] [.pt 14 0])]) (Sub.one q (Sub.one q (Sub.one q (Sub.one q (Sub.nil _))))) (Rcl 4 q ?_)))))))))
 obtain ⟨k141,hk141,h⟩:=letkS h
 refine WL.inl (us:=[.n a1,.n b2,.pt 14 0]) (fun rv st' => (k141 () = some r ∧ Le rv (.tu [.n (f196 a1 b2),.d (D.b true)]) ∧ SLe st' [.dead,.dead,.dead,.dead,.dead,.dead,.dead,.dead,.dead,.dead,.dead,.dead,.dead,.dead,rF 209 196,.dead,.dead,.dead,.dead])) q q q q q ?_ (Zw q) q q ?_
 refine ctr_intro Tryz.func214 (by kernel_rfl) q q q (fun mm φφ ww hm140 => ?_)
 exact Rcl 11 q (WL.fn q q q q (f196_c _ _) ⟨Zl,Zl,Zt⟩ (Zw q) q q (Rlx 5 q (we_ret (rs2 q (rv_t q) (rv_t q)) ⟨h,(Le.tu ⟨Zl,Zl,Zt⟩),⟨Zt,Zt,Zt,Zt,Zt,Zt,Zt,Zt,Zt,Zt,Zt,Zt,Zt,Zt,Zp,Zt,Zt,Zt,Zt,Zt⟩⟩)))
 rintro rv st1 ⟨h,hr,hst⟩
 subst hk141
 dsimp only at h
 exact WL.cast 32 q hr (WL.weak hst (Rl 4 q (Zn (Rcx 1 q (FA h)))))
 rcases condCases h with ⟨hk142,h⟩ | ⟨hn143,h⟩
 refine Rl 1 q (Zq (y_lookupok (fun x : Int => Value.int .u8 x) (fun x : AV => x) [fe 1 214 1,fe 2 214 2,fe 3 214 3,fe 4 215 4,fe 5 215 5,fe 6 215 6,fe 7 216 7,fe 8 216 8,fe 9 216 9,fe 10 216 10,fe 11 216 11,fe 12 216 12,fe 13 214 13,fe 14 214 14,fe 15 214 15,fe 16 214 16,fe 17 214 17,fe 18 214 18] (k:=op0) (z:=.d (.v .nilFunc)) Tryz.underlying237 Tryz.underlying146 (KeyF.int .u8) q q q (by kernel_rfl) q (by rw [hk142] <;> rfl) (by rw [hk142] <;> rfl)) q (Rl 5 q (Zn (Rcc 7 q (wc_false q (Rcc 3 q (WC.weak (st':=[.dead,.dead,.dead,.dead,.dead,.dead,.dead,.dead,.dead,.dead,.dead,.dead,.dead,.dead,.dead,rF 209 197,.dead,.dead,.dead]) ⟨Zt,Zt,Zt,Zt,Zt,Zt,Zt,Zt,Zt,Zt,Zt,Zt,Zt,Zt,Zt,OLe.refl _,Zt,Zt,Zt,Zt⟩ (WC.sub (env':=[(0,.d (D.i .u8 op0)),(1,.n a1),(2,.n b2),(8,.fn (.func 214) [] [.pt 15 0])]) (Sub.one q (Sub.one q (Sub.one q (Sub.one q (Sub.nil _))))) (Rcl 4 q ?_)))))))))
 obtain ⟨k145,hk145,h⟩:=letkS h
 refine WL.inl (us:=[.n a1,.n b2,.pt 15 0]) (fun rv st' => (k145 () = some r ∧ Le rv (.tu [.n (f197 a1 b2),.d (D.b true)]) ∧ SLe st' [.dead,.dead,.dead,.dead,.dead,.dead,.dead,.dead,.dead,.dead,.dead,.dead,.dead,.dead,.dead,rF 209 197,.dead,.dead,.dead])) q q q q q ?_ (Zw q) q q ?_
 refine ctr_intro Tryz.func214 (by kernel_rfl) q q q (fun mm φφ ww hm144 => ?_)
 exact Rcl 11 q (WL.fn q q q q (f197_c _ _) ⟨Zl,Zl,Zt⟩ (Zw q) q q (Rlx 5 q (we_ret (rs2 q (rv_t q) (rv_t q)) ⟨h,(Le.tu ⟨Zl,Zl,Zt⟩),⟨Zt,Zt,Zt,Zt,Zt,Zt,Zt,Zt,Zt,Zt,Zt,Zt,Zt,Zt,Zt,Zp,Zt,Zt,Zt,Zt⟩⟩)))
 rintro rv st1 ⟨h,hr,hst⟩
 subst hk145
 dsimp only at h
 exact WL.cast 32 q hr (WL.weak hst (Rl 4 q (Zn (Rcx 1 q (FA h)))))
 rcases condCases h with ⟨hk146,h⟩ | ⟨hn147,h⟩
 refine Rl 1 q (Zq (y_lookupok (fun x : Int => Value.int .u8 x) (fun x : AV => x) [fe 1 214 1,fe 2 214 2,fe 3 214 3,fe 4 215 4,fe 5 215 5,fe 6 215 6,fe 7 216 7,fe 8 216 8,fe 9 216 9,fe 10 216 10,fe 11 216 11,fe 12 216 12,fe 13 214 13,fe 14 214 14,fe 15 214 15,fe 16 214 16,fe 17 214 17,fe 18 214 18] (k:=op0) (z:=.d (.v .nilFunc)) Tryz.underlying237 Tryz.underlying146 (KeyF.int .u8) q q q (by kernel_rfl) q (by rw [hk146] <;> rfl) (by rw [hk146] <;> rfl)) q (Rl 5 q (Zn (Rcc 7 q (wc_false q (Rcc 3 q (WC.weak (st':=[.dead,.dead,.dead,.dead,.dead,.dead,.dead,.dead,.dead,.dead,.dead,.dead,.dead,.dead,.dead,.dead,rF 209 198,.dead,.dead]) ⟨Zt,Zt,Zt,Zt,Zt,Zt,Zt,Zt,Zt,Zt,Zt,Zt,Zt,Zt,Zt,Zt,OLe.refl _,Zt,Zt,Zt⟩ (WC.sub (env':=[(0,.d (D.i .u8 op0)),(1,.n a1),(2,.n b2),(8,.fn (.func 214) [] [.pt 16 0])]) (Sub.one q (Sub.one q (Sub.one q (Sub.one q (Sub.nil _))))) (Rcl 4 q ?_)))))))))
 obtain ⟨k149,hk149,h⟩:=letkS h
 refine WL.inl (us:=[.n a1,.n b2,.pt 16 0]) (fun rv st' => (k149 () = some r ∧ Le rv (.tu [.n (f198 a1 b2),.d (D.b true)]) ∧ SLe st' [.dead,.dead,.dead,.dead,.dead,.dead,.dead,.dead,.dead,.dead,.dead,.dead,.dead,.dead,.dead,.dead,rF 209 198,.dead,.dead])) q q q q q ?_ (Zw q) q q ?_
 refine ctr_intro Tryz.func214 (by kernel_rfl) q q q (fun mm φφ ww hm148 => ?_)
 exact Rcl 11 q (WL.fn q q q q (f198_c _ _) ⟨Zl,Zl,Zt⟩ (Zw q) q q (Rlx 5 q (we_ret (rs2 q (rv_t q) (rv_t q)) ⟨h,(Le.tu ⟨Zl,Zl,Zt⟩),⟨Zt,Zt,Zt,Zt,Zt,Zt,Zt,Zt,Zt,Zt,Zt,Zt,Zt,Zt,Zt,Zt,Zp,Zt,Zt,Zt⟩⟩)))
 rintro rv st1 ⟨h,hr,hst⟩
 subst hk149
 dsimp only at h
 exact WL.cast 32 q hr (WL.weak hst (Rl 4 q (Zn (Rcx 1 q (FA h)))))
 rcases condCases h with ⟨hk150,h⟩ | ⟨hn151,h⟩
 refine Rl 1 q (Zq (y_lookupok (fun x : Int => Value.int .u8 x) (fun x : AV => x) [fe 1 214 1,fe 2 214 2,fe 3 214 3,fe 4 215 4,fe 5 215 5,fe 6 215 6,fe 7 216 7,fe 8 216 8,fe 9 216 9,fe 10 216 10,fe 11 216 11,fe 12 216 12,fe 13 214 13,fe 14 214 14,fe 15 214 15,fe 16 214 16,fe 17 214 17,fe 18 214 18] (k:=op0) (z:=.d (.v .nilFunc)) Tryz.underlying237 Tryz.underlying146 (KeyF.int .u8) q q q (by kernel_rfl) q (by rw [hk150] <;> rfl) (by rw [hk150] <;> rfl)) q (Rl 5 q (Zn (Rcc 7 q (wc_false q (Rcc 3 q (WC.weak (st':=[.dead,.dead,.dead,.dead,.dead,.dead,.dead,.dead,.dead,.dead,.dead,.dead,.dead,.dead,.dead,.dead,.dead,rF 209 199,.dead]) ⟨Zt,Zt,Zt,Zt,Zt,Zt,Zt,Zt,Zt,Zt,Zt,Zt,Zt,Zt,Zt,Zt,Zt,OLe.refl _,Zt,Zt⟩ (WC.sub (env':=[(0,.d (D.i .u8 op0)),(1,.n a1),(2,.n b2),(8,.fn (.func 214) [] [.pt 17 0])]) (Sub.one q (Sub.one q (Sub.one q (Sub.one q (Sub.nil _))))) (Rcl 4 q ?_)))))))))
 obtain ⟨k153,hk153,h⟩:=letkS h
 refine WL.inl (us:=[.n a1,.n b2,.pt 17 0]) (fun rv st' => (k153 () = some r ∧ Le rv (.tu [.n (f199 a1 b2),.d (D.b true)]) ∧ SLe st' [.dead,.dead,.dead,.dead,.dead,.dead,.dead,.dead,.dead,.dead,.dead,.dead,.dead,.dead,.dead,.dead,.dead,rF 209 199,.dead])) q q q q q ?_ (Zw q) q q ?_
 refine ctr_intro Tryz.func214 (by kernel_rfl) q q q (fun mm φφ ww hm152 => ?_)
 exact Rcl 11 q (WL.fn q q q q (f199_c _ _) ⟨Zl,Zl,Zt⟩ (Zw q) q q (Rlx 5 q (we_ret (rs2 q (rv_t q) (rv_t q)) ⟨h,(Le.tu ⟨Zl,Zl,Zt⟩),⟨Zt,Zt,Zt,Zt,Zt,Zt,Zt,Zt,Zt,Zt,Zt,Zt,Zt,Zt,Zt,Zt,Zt,Zp,Zt,Zt⟩⟩)))
 rintro rv st1 ⟨h,hr,hst⟩
 subst hk153
 dsimp only at h
 exact WL.cast 32 q hr (WL.weak hst (Rl 4 q (Zn (Rcx 1 q (FA h)))))
 rcases condCases h with ⟨hk154,h⟩ | ⟨hn155,h⟩
 refine Rl 1 q (Zq (y_lookupok (fun x : Int => Value.int .u8 x) (fun x : AV => x) [fe 1 214 1,fe 2 214 2,fe 3 214 3,fe 4 215 4,fe 5 215 5,fe 6 215 6,fe 7 216 7,fe 8 216 8,fe 9 216 9,fe 10 216 10,fe 11 216 11,fe 12 216 12,fe 13 214 13,fe 14 214 14,fe 15 214 15,fe 16 214 16,fe 17 214 17,fe 18 214 18] (k:=op0) (z:=.d (.v .nilFunc)) Tryz.underlying237 Tryz.underlying146 (KeyF.int .u8) q q q (by kernel_rfl) q (by rw [hk154] <;> rfl) (by rw [hk154] <;> rfl)) q (Rl 5 q (Zn (Rcc 7 q (wc_false q (Rcc 3 q (WC.weak (st':=[.dead,.dead,.dead,.dead,.dead,.dead,.dead,.dead,.dead,.dead,.dead,.dead,.dead,.dead,.dead,.dead,.dead,.dead,rF 209 200]) ⟨Zt,Zt,Zt,Zt,Zt,Zt,Zt,Zt,Zt,Zt,Zt,Zt,Zt,Zt,Zt,Zt,Zt,Zt,OLe.refl _,Zt⟩ (WC.sub (env':=[(0,.d (D.i .u8 op0)),(1,.n a1),(2,.n b2),(8,.fn (.func 214) [] [.pt 18 0])]) (Sub.one q (Sub.one q (Sub.one q (Sub.one q (Sub.nil _))))) (Rcl 4 q ?_)))))))))
 obtain ⟨k157,hk157,h⟩:=letkS h
 refine WL.inl (us:=[.n a1,.n b2,.pt 18 0]) (fun rv st' => (k157 () = some r ∧ Le rv (.tu [.n (f200 a1 b2),.d (D.b true)]) ∧ SLe st' [.dead,.dead,.dead,.dead,.dead,.dead,.dead,.dead,.dead,.dead,.dead,.dead,.dead,.dead,.dead,.dead,.dead,.dead,rF 209 200])) q q q q q ?_ (Zw q) q q ?_
 refine ctr_intro Tryz.func214 (by kernel_rfl) q q q (fun mm φφ ww hm156 => ?_)
 exact Rcl 11 q (WL.fn q q q q (f200_c _ _) ⟨Zl,Zl,Zt⟩ (Zw q) q q (Rlx 5 q (we_ret (rs2 q (rv_t q) (rv_t q)) ⟨h,(Le.tu ⟨Zl,Zl,Zt⟩),⟨Zt,Zt,Zt,Zt,Zt,Zt,Zt,Zt,Zt,Zt,Zt,Zt,Zt,Zt,Zt,Zt,Zt,Zt,Zp,Zt⟩⟩)))
 rintro rv st1 ⟨h,hr,hst⟩
 subst hk157
 dsimp only at h
 exact WL.cast 32 q hr (WL.weak hst (Rl 4 q (Zn (Rcx 1 q (FA h)))))
 refine Rl 1 q (Zq (y_lookupok (fun x : Int => Value.int .u8 x) (fun x : AV => x) [fe 1 214 1,fe 2 214 2,fe 3 214 3,fe 4 215 4,fe 5 215 5,fe 6 215 6,fe 7 216 7,fe 8 216 8,fe 9 216 9,fe 10 216 10,fe 11 216 11,fe 12 216 12,fe 13 214 13,fe 14 214 14,fe 15 214 15,fe 16 214 16,fe 17 214 17,fe 18 214 18] (k:=op0) (z:=.d (.v .nilFunc)) Tryz.underlying237 Tryz.underlying146 (KeyF.int .u8) q q q (by kernel_rfl) q (by rw [show mpGet _ op0 = none from (mpGet_ne hn78 (mpGet_ne hn82 (mpGet_ne hn86 (mpGet_ne hn90 (mpGet_ne hn97 (mpGet_ne hn104 (mpGet_ne hn111 (mpGet_ne hn115 (mpGet_ne hn119 (mpGet_ne hn123 (mpGet_ne hn127 (mpGet_ne hn131 (mpGet_ne hn135 (mpGet_ne hn139 (mpGet_ne hn143 (mpGet_ne hn147 (mpGet_ne hn151 (mpGet_ne hn155 mpGet_nil))))))))))))))))))] <;> rfl) (by rw [show mpGet _ op0 = none from (mpGet_ne hn78 (mpGet_ne hn82 (mpGet_ne hn86 (mpGet_ne hn90 (mpGet_ne hn97 (mpGet_ne hn104 (mpGet_ne hn111 (mpGet_ne hn115 (mpGet_ne hn119 (mpGet_ne hn123 (mpGet_ne hn127 (mpGet_ne hn131 (mpGet_ne hn135 (mpGet_ne hn139 (mpGet_ne hn143 (mpGet_ne hn147 (mpGet_ne hn151 (mpGet_ne hn155 mpGet_nil))))))))))))))))))] <;> rfl)) q (Rl 5 q ?_))
 exact Zn (Rcc 7 q (wc_true q (Rcx 8 q (FA h))))

theorem f88_c (tR : Nat → Int) (tP : Int) (tX : Int) (tD : Int) (mI : List Insn) (mH : List MHandler) (mO : List Obj) (mE : Int) (mN : List Int) (mS : List (List Int)) (mU : List Int) (tA : List Act) (x1 : Insn) {vo : Nat} {vf : Nat} {vu : Nat} {va : Nat} {r : Rs ((Nat → Int) × Int × Int × Int)} (h : f88 tR tP tX tD mI mH mO mE mN mS mU tA x1 = some r) : CtrP Tryz.prog 88 [.pt 0 0,.d (.ag (R45 x1))] (wT tR tP tX tD va mI mH mO mE vo mN vu vf mS mU tA) (WinG 6 (fun r' new => ∃ (z : (Nat → Int) × Int × Int × Int),r = .ok z ∧ r' = .d (.tu []) ∧ new = [.row 116 (([.pt 1 0] : List AV) ++ (vecA 16 (fun j => .n (z.1 j)) ++ ([.n z.2.1,.n z.2.2.1,.n z.2.2.2,.os 5 va] : List AV) : List AV)),.row 90 (mR mI mH mO mE 2 vo mN 4 vu),.os 42 1 vo (famE 3 vf (List.length mS)),.fam 2 1 vf (famM E2 mS),.os 2 1 vu (eM E2 mU),.os 58 6 va (eM R58 tA)])) (WinGP 6 (fun c new => ∃ (ee : Int),r = .bad ee ∧ c = wrongP ee ∧ new = (wD mI mH mO mE vo mN vu vf mS mU))):=by
 unfold f88 at h
 refine ctrP_intro Tryz.func88 (by kernel_rfl) q q q (fun mm φφ ww hmm => ?_)
 refine Rcl 2 q (Bd q q (Zs _) q (Rlc 3 q (wc_region_draw (by kernel_rfl) (by kernel_rfl) (Rq 10 q ?_))))
 replace h:=guardBS h
 obtain ⟨hgg46,h⟩:=h
 refine WQ.qn (y_indexAddra ar39 q q (vecOk_0 hgg46) (vecOk_1 hgg46)) q (WQ.qn (y_loadV (off:=1) (n:=16) (fun j => .n (tR j)) q q a2 q hgg46) q (Rq 6 q ?_))
 replace h:=guardBS h
 obtain ⟨hgg47,h⟩:=h
 refine WQ.qn (y_indexAddra ar39 q q (vecOk_0 hgg47) (vecOk_1 hgg47)) q (WQ.qn (y_loadV (off:=1) (n:=16) (fun j => .n (tR j)) q q a2 q hgg47) q ?_)
 obtain ⟨r48,hr48,h⟩:=bindS h
 refine WQ.q (YieldsQ.fn q q q q q (f132_c _ _ _ hr48) ⟨Zl,Zl,Zl,Zt⟩) (Zw q) q q (Rq 5 q (WQ.nil (Rxc 8 q (Ci h q (fun h => ?_) (fun h => ?_)))))
 refine wc_regionP (WLP.wing [] q q q q (f102_c  (r:=Rs.bad 280) q) Zt q (by decide) q Zt q q (Zw q) q q (fun r' new hS => ?_) (fun c new hS => ?_))
 obtain ⟨z9,hz,_⟩:=hS
 cases hz
 obtain ⟨z9,hz,rfl,rfl⟩:=hS
 obtain rfl:=Rs.bad.inj hz
 refine ⟨_,q,q,?_⟩
 refine we_seq_pan ?_
 obtain rfl:=Oi h
 exact we_pan_g (new:=(wD mI mH mO mE vo mN vu vf mS mU)) q ⟨Zt,Zp,Zf,Zf,Zf,Zt,Zt⟩ ⟨_,q,q,q⟩
 refine Rcc 3 q ?_
 replace h:=guardBS h
 obtain ⟨hgg53,h⟩:=h
 apply RT [_,_,_,_,_,_,_,_,.u] [8] [[.row 116 (([.pt 1 0] : List AV) ++ (vecA 16 (fun j => .n ((vset tR (Int.toNat x1.d) r48.1) j)) ++ ([.n tP,.n tX,.n tD,.os 5 va] : List AV) : List AV)),.row 90 (mR mI mH mO mE 2 vo mN 4 vu),.os 42 1 vo (famE 3 vf (List.length mS)),.fam 2 1 vf (famM E2 mS),.os 2 1 vu (eM E2 mU),.os 58 6 va (eM R58 tA)]] [([],[0],[0]),([],[3],[0]),([1],[],[0]),([],[4],[0]),([0],[],[0]),([4],[],[0]),([5],[],[0]),([6,2],[],[0]),([7,3],[],[0])] (by kernel_rfl) (by kernel_rfl) q q
 refine ⟨?_,?_,?_,?_,?_,?_,?_,?_,?_,Zt⟩
 exact O1 q (fun _ => q) q q
 exact O1 q (fun _ => q) q q
 exact O1 q (fun _ => q) q q
 exact O1 q (fun _ => q) q q
 exact O1 q (fun _ => q) q q
 exact O1 q (fun _ => q) q q
 exact O1 q (fun _ => q) q q
 refine ⟨fun F => ?_,Zt⟩
 exact Zq (y_indexAddra ar39 q q (vecOk_0 hgg53) (vecOk_1 hgg53)) q (Zd q q q)
 refine ⟨fun F => ?_,Zt⟩
 exact WL.s0 (d_storeV (off:=1) (n:=16) (cs':=(([.pt 1 0] : List AV) ++ (vecA 16 (fun j => .n ((vset tR (Int.toNat x1.d) r48.1) j)) ++ ([.n tP,.n tX,.n tD,.os 5 va] : List AV) : List AV))) (fun x => .n x) tR r48.1 q q q (one_ok q) s2 q q hgg53 q) (Zw q) q (WL.done0 q q)
 refine Rxc 1 q (wc_regionP (WLP.pre 1 (Rl 1 q (WL.nil ?_))))
 obtain ⟨r54,hr54,h⟩:=bindS h
 rcases r54 with z55 | e56
 dsimp only [Rs.cs] at h
 refine WLP.wing [0,1,2,3,4,5] q q q q (f131_c _ _ _ _ _ _ _ _ _ _ _ _ hr54) ⟨Zl,Zt⟩ q (by decide) (Re (Re (Rg (Rf (Ro (Ro q)))))) ⟨q,q,q,q,q,q,Zt⟩ Kv q (Zw q) q q (fun r' new hS => ?_) (fun c new hS => ?_)
 obtain ⟨z9,hz,rfl,rfl⟩:=hS
 obtain rfl:=Rs.ok.inj hz
 refine ⟨_,_,q,(Re (Re (Rg (Rf (Ro (Ro q)))))),q,Kv,WLP.of ?_⟩
 refine St q (WL.nil (we_endP ?_))
 obtain rfl:=Oi h
 exact WE.finP (we_ret_g (new:=[.row 116 (([.pt 1 0] : List AV) ++ (vecA 16 (fun j => .n (z55.1 j)) ++ ([.n z55.2.1,.n z55.2.2.1,.n z55.2.2.2,.os 5 va] : List AV) : List AV)),.row 90 (mR mI mH mO mE 2 vo mN 4 vu),.os 42 1 vo (famE 3 vf (List.length mS)),.fam 2 1 vf (famM E2 mS),.os 2 1 vu (eM E2 mU),.os 58 6 va (eM R58 tA)]) (r0:=.d (.tu [])) (res0 q) (Le.tud Zt) q ⟨Zp,Zp,Zf,Zf,Zf,Zf,Zt⟩ ⟨_,q,q,q⟩)
 obtain ⟨z9,hz,_⟩:=hS
 cases hz
 dsimp only [Rs.cs] at h
 refine WLP.wing [0,1,2,3,4,5] q q q q (f131_c _ _ _ _ _ _ _ _ _ _ _ _ hr54) ⟨Zl,Zt⟩ q (by decide) (Re (Re (Rg (Rf (Ro (Ro q)))))) ⟨q,q,q,q,q,q,Zt⟩ Kv q (Zw q) q q (fun r' new hS => ?_) (fun c new hS => ?_)
 obtain ⟨z9,hz,_⟩:=hS
 cases hz
 obtain ⟨z9,hz,rfl,rfl⟩:=hS
 obtain rfl:=Rs.bad.inj hz
 refine ⟨_,(Re (Re (Rg (Rf (Ro (Re q)))))),Kv,?_⟩
 refine WE.sto (st':=(wD mI mH mO mE vo mN vu vf mS mU)) q ?_
 obtain rfl:=Oi h
 exact we_pan_g (new:=(wD mI mH mO mE vo mN vu vf mS mU)) q ⟨Zt,Zp,Zf,Zf,Zf,Zt,Zt⟩ ⟨_,q,q,q⟩

theorem f47_c (mI : List Insn) (mH : List MHandler) (mO : List Obj) (mE : Int) (mN : List Int) (mS : List (List Int)) (mU : List Int) {vo : Nat} {vf : Nat} {vu : Nat} {r : Bool} (h : f47 mI mH mO mE mN mS mU = some r) : Ctr Tryz.prog 47 [.pt 0 0] (wM mI mH mO mE vo mN vu vf mS mU) (WinG 4 (fun r' new => r' = .d (.b r) ∧ new = (wM mI mH mO mE vo mN vu vf mS mU))):=by
 unfold f47 at h
 refine ctr_intro Tryz.func47 (by kernel_rfl) q q q (fun mm φφ ww hmm => ?_)
 refine Rcl 8 q (Zq (y_eqpt Tryz.underlying46 q) q (Rl 5 q (Zy (y_len_map E45 mI e23 q q Zl) q q q (Rlx 6 q ?_))))
 obtain rfl:=Oi h
 exact we_ret_g (new:=(wM mI mH mO mE vo mN vu vf mS mU)) (r0:=.d (.b (decide ((List.length mI : Int) = 0)))) (rs1 q (rv_t q)) Zl q ⟨Zp,Zf,Zf,Zf,Zt⟩ ⟨q,q⟩

theorem f46_c (tR : Nat → Int) (tP : Int) (tX : Int) (tD : Int) (mI : List Insn) (mH : List MHandler) (mO : List Obj) (mE : Int) (mN : List Int) (mS : List (List Int)) (mU : List Int) (tA : List Act) (o1 : Int) {vo : Nat} {vf : Nat} {vu : Nat} {va : Nat} {r : Nat} (h : f46 tR tP tX tD mI mH mO mE mN mS mU tA o1 = some r) : Ctr Tryz.prog 46 [.pt 0 0,.d (D.i .u8 o1)] (wT tR tP tX tD va mI mH mO mE vo mN vu vf mS mU tA) (WinG 6 (fun r' new => r' = .fn (.func r) [.pt 0 0] [] ∧ new = (wT tR tP tX tD va mI mH mO mE vo mN vu vf mS mU tA))):=by
 unfold f46 at h
 refine ctr_intro Tryz.func46 (by kernel_rfl) q q q (fun mm φφ ww hmm => ?_)
 refine Rcc 12 q (Jn1 (fun t55 => [(0,.pt 0 0),(5,.d (D.i .u8 o1)),(6,.d (D.b t55))]) (fun _ => (wT tR tP tX tD va mI mH mO mE vo mN vu vf mS mU tA)) h (fun _ h => ?_) (fun t55 h => ?_))
 refine Rcc 6 q (Ci h q (fun h => ?_) (fun h => ?_))
 exact Rcx 1 q (En1 h)
 refine Rcc 6 q (Ci h q (fun h => ?_) (fun h => ?_))
 exact Rcx 1 q (En1 h)
 exact Rcx 4 q (En1 h)
 refine Ci h q (fun h => ?_) (fun h => ?_)
 refine Rcx 10 q ?_
 obtain rfl:=Oi h
 exact we_ret_g (new:=(wT tR tP tX tD va mI mH mO mE vo mN vu vf mS mU tA)) (r0:=.fn (.func 81) [.pt 0 0] []) (rs1 q (rv_t q)) Zl q ⟨Zp,Zp,Zf,Zf,Zf,Zf,Zt⟩ ⟨q,q⟩
 refine Jn1 (fun t57 => [(0,.pt 0 0),(5,.d (D.i .u8 o1)),(12,.d (D.b t57))]) (fun _ => (wT tR tP tX tD va mI mH mO mE vo mN vu vf mS mU tA)) h (fun _ h => ?_) (fun t57 h => ?_)
 refine Rcc 6 q (Ci h q (fun h => ?_) (fun h => ?_))
 exact Rcx 1 q (En1 h)
 refine Rcc 6 q (Ci h q (fun h => ?_) (fun h => ?_))
 exact Rcx 1 q (En1 h)
 exact Rcx 4 q (En1 h)
 refine Ci h q (fun h => ?_) (fun h => ?_)
 refine Rcx 10 q ?_
 obtain rfl:=Oi h
 exact we_ret_g (new:=(wT tR tP tX tD va mI mH mO mE vo mN vu vf mS mU tA)) (r0:=.fn (.func 82) [.pt 0 0] []) (rs1 q (rv_t q)) Zl q ⟨Zp,Zp,Zf,Zf,Zf,Zf,Zt⟩ ⟨q,q⟩
 refine Jn1 (fun t59 => [(0,.pt 0 0),(5,.d (D.i .u8 o1)),(18,.d (D.b t59))]) (fun _ => (wT tR tP tX tD va mI mH mO mE vo mN vu vf mS mU tA)) h (fun _ h => ?_) (fun t59 h => ?_)
 refine Rcc 6 q (Ci h q (fun h => ?_) (fun h => ?_))
 exact Rcx 1 q (En1 h)
 refine Rcc 6 q (Ci h q (fun h => ?_) (fun h => ?_))
 exact Rcx 1 q (En1 h)
 refine Rcc 6 q (Ci h q (fun h => ?_) (fun h => ?_))
 exact Rcx 1 q (En1 h)
 exact Rcx 4 q (En1 h)
 refine Ci h q (fun h => ?_) (fun h => ?_)
 refine Rcx 10 q ?_
 obtain rfl:=Oi h
 exact we_ret_g (new:=(wT tR tP tX tD va mI mH mO mE vo mN vu vf mS mU tA)) (r0:=.fn (.func 83) [.pt 0 0] []) (rs1 q (rv_t q)) Zl q ⟨Zp,Zp,Zf,Zf,Zf,Zf,Zt⟩ ⟨q,q⟩
 refine Jn1 (fun t61 => [(0,.pt 0 0),(5,.d (D.i .u8 o1)),(25,.d (D.b t61))]) (fun _ => (wT tR tP tX tD va mI mH mO mE vo mN vu vf mS mU tA)) h (fun _ h => ?_) (fun t61 h => ?_)
 refine Rcc 6 q (Ci h q (fun h => ?_) (fun h => ?_))
 exact Rcx 1 q (En1 h)
 exact Rcx 4 q (En1 h)
 refine Ci h q (fun h => ?_) (fun h => ?_)
 refine Rcx 10 q ?_
 obtain rfl:=Oi h
 exact we_ret_g (new:=(wT tR tP tX tD va mI mH mO mE vo mN vu vf mS mU tA)) (r0:=.fn (.func 84) [.pt 0 0] []) (rs1 q (rv_t q)) Zl q ⟨Zp,Zp,Zf,Zf,Zf,Zf,Zt⟩ ⟨q,q⟩
 refine Jn1 (fun t63 => [(0,.pt 0 0),(5,.d (D.i .u8 o1)),(30,.d (D.b t63))]) (fun _ => (wT tR tP tX tD va mI mH mO mE vo mN vu vf mS mU tA)) h (fun _ h => ?_) (fun t63 h => ?_)
 refine Rcc 6 q (Ci h q (fun h => ?_) (fun h => ?_))
 exact Rcx 1 q (En1 h)
 refine Rcc 6 q (Ci h q (fun h => ?_) (fun h => ?_))
 exact Rcx 1 q (En1 h)
 exact Rcx 4 q (En1 h)
 refine Ci h q (fun h => ?_) (fun h => ?_)
 refine Rcx 10 q ?_
 obtain rfl:=Oi h
 exact we_ret_g (new:=(wT tR tP tX tD va mI mH mO mE vo mN vu vf mS mU tA)) (r0:=.fn (.func 85) [.pt 0 0] []) (rs1 q (rv_t q)) Zl q ⟨Zp,Zp,Zf,Zf,Zf,Zf,Zt⟩ ⟨q,q⟩
 refine Jn1 (fun t65 => [(0,.pt 0 0),(5,.d (D.i .u8 o1)),(36,.d (D.b t65))]) (fun _ => (wT tR tP tX tD va mI mH mO mE vo mN vu vf mS mU tA)) h (fun _ h => ?_) (fun t65 h => ?_)
 refine Rcc 6 q (Ci h q (fun h => ?_) (fun h => ?_))
 exact Rcx 1 q (En1 h)
 refine Rcc 6 q (Ci h q (fun h => ?_) (fun h => ?_))
 exact Rcx 1 q (En1 h)
 exact Rcx 4 q (En1 h)
 refine Ci h q (fun h => ?_) (fun h => ?_)
 refine Rcx 10 q ?_
 obtain rfl:=Oi h
 exact we_ret_g (new:=(wT tR tP tX tD va mI mH mO mE vo mN vu vf mS mU tA)) (r0:=.fn (.func 86) [.pt 0 0] []) (rs1 q (rv_t q)) Zl q ⟨Zp,Zp,Zf,Zf,Zf,Zf,Zt⟩ ⟨q,q⟩
 refine Jn1 (fun t67 => [(0,.pt 0 0),(42,.d (D.b t67))]) (fun _ => (wT tR tP tX tD va mI mH mO mE vo mN vu vf mS mU tA)) h (fun _ h => ?_) (fun t67 h => ?_)
 refine Rcc 6 q (Ci h q (fun h => ?_) (fun h => ?_))
 exact Rcx 1 q (En1 h)
 refine Rcc 6 q (Ci h q (fun h => ?_) (fun h => ?_))
 exact Rcx 1 q (En1 h)
 refine Rcc 6 q (Ci h q (fun h => ?_) (fun h => ?_))
 exact Rcx 1 q (En1 h)
 refine Rcc 6 q (Ci h q (fun h => ?_) (fun h => ?_))
 exact Rcx 1 q (En1 h)
 exact Rcx 4 q (En1 h)
 refine Ci h q (fun h => ?_) (fun h => ?_)
 refine Rcx 10 q ?_
 obtain rfl:=Oi h
 exact we_ret_g (new:=(wT tR tP tX tD va mI mH mO mE vo mN vu vf mS mU tA)) (r0:=.fn (.func 87) [.pt 0 0] []) (rs1 q (rv_t q)) Zl q ⟨Zp,Zp,Zf,Zf,Zf,Zf,Zt⟩ ⟨q,q⟩
 refine Rcx 11 q ?_
 obtain rfl:=Oi h
 exact we_ret_g (new:=(wT tR tP tX tD va mI mH mO mE vo mN vu vf mS mU tA)) (r0:=.fn (.func 88) [.pt 0 0] []) (rs1 q (rv_t q)) Zl q ⟨Zp,Zp,Zf,Zf,Zf,Zf,Zt⟩ ⟨q,q⟩

theorem fm_c (n : Nat) (tR : Nat → Int) (tP : Int) (tX : Int) (tD : Int) (mI : List Insn) (mH : List MHandler) (mO : List Obj) (mE : Int) (mN : List Int) (mS : List (List Int)) (mU : List Int) (tA : List Act) (x : Insn) {vo vf vu va : Nat} {r : Rs ((Nat → Int) × Int × Int × Int × (List Int) × (List (List Int)) × (List Int) × (List Act))} (h : fm n tR tP tX tD mI mH mO mE mN mS mU tA x = some r) : CtrP Tryz.prog n [.pt 0 0,.d (.ag (R45 x))] (wT tR tP tX tD va mI mH mO mE vo mN vu vf mS mU tA) (WinG 6 (fun r' new => ∃ (z : (Nat → Int) × Int × Int × Int × (List Int) × (List (List Int)) × (List Int) × (List Act)) (i3 i4 i5 : Nat),r = .ok z ∧ r' = .d (.tu []) ∧ new = [.row 116 (([.pt 1 0] : List AV) ++ (vecA 16 (fun j => .n (z.1 j)) ++ ([.n z.2.1,.n z.2.2.1,.n z.2.2.2.1,.os 5 i5] : List AV) : List AV)),.row 90 (mR mI mH mO mE 2 vo z.2.2.2.2.1 4 i4),.os 42 1 vo (famE 3 i3 (List.length z.2.2.2.2.2.1)),.fam 2 1 i3 (famM E2 z.2.2.2.2.2.1),.os 2 1 i4 (eM E2 z.2.2.2.2.2.2.1),.os 58 6 i5 (eM R58 z.2.2.2.2.2.2.2)])) (WinGP 6 (fun c new => ∃ (ee : Int),r = .bad ee ∧ c = wrongP ee ∧ new = (wD mI mH mO mE vo mN vu vf mS mU))):=by
 unfold fm at h
 rcases condCases2 h with ⟨hn,h⟩ | ⟨_,h⟩
 have hn:=Nat.eq_of_beq_eq_true hn
 subst hn
 obtain ⟨r0,hr,h⟩:=bindS h
 obtain rfl:=Oi h
 refine CtrP.mono (f81_c _ _ _ _ _ _ _ _ _ _ _ _ _ hr) ?_ ?_
 rintro r1 st1 ⟨hk,z,hz,hr1,hst⟩
 subst hz
 exact ⟨hk,_,vf,vu,va,q,hr1,hst⟩
 rintro c st1 ⟨hk,ee,hz,hc,hst⟩
 subst hz
 exact ⟨hk,_,q,hc,hst⟩
 rcases condCases2 h with ⟨hn,h⟩ | ⟨_,h⟩
 have hn:=Nat.eq_of_beq_eq_true hn
 subst hn
 obtain ⟨r0,hr,h⟩:=bindS h
 obtain rfl:=Oi h
 refine CtrP.mono (f82_c _ _ _ _ _ _ _ _ _ _ _ _ _ hr) ?_ ?_
 rintro r1 st1 ⟨hk,z,j3,hz,hr1,hst⟩
 subst hz
 exact ⟨hk,_,j3,vu,va,q,hr1,hst⟩
 rintro c st1 ⟨hk,ee,hz,hc,hst⟩
 subst hz
 exact ⟨hk,_,q,hc,hst⟩
 rcases condCases2 h with ⟨hn,h⟩ | ⟨_,h⟩
 have hn:=Nat.eq_of_beq_eq_true hn
 subst hn
 obtain ⟨r0,hr,h⟩:=bindS h
 obtain rfl:=Oi h
 refine CtrP.mono (f83_c _ _ _ _ _ _ _ _ _ _ _ _ _ hr) ?_ ?_
 rintro r1 st1 ⟨hk,z,hz,hr1,hst⟩
 subst hz
 exact ⟨hk,_,vf,vu,va,q,hr1,hst⟩
 rintro c st1 ⟨hk,ee,hz,hc,hst⟩
 subst hz
 exact ⟨hk,_,q,hc,hst⟩
 rcases condCases2 h with ⟨hn,h⟩ | ⟨_,h⟩
 have hn:=Nat.eq_of_beq_eq_true hn
 subst hn
 obtain ⟨r0,hr,h⟩:=bindS h
 obtain rfl:=Oi h
 refine CtrP.mono (f84_c _ _ _ _ _ _ _ _ _ _ _ _ _ hr) ?_ ?_
 rintro r1 st1 ⟨hk,z,j5,hz,hr1,hst⟩
 subst hz
 exact ⟨hk,_,vf,vu,j5,q,hr1,hst⟩
 rintro c st1 ⟨hk,ee,hz,hc,hst⟩
 subst hz
 exact ⟨hk,_,q,hc,hst⟩
 rcases condCases2 h with ⟨hn,h⟩ | ⟨_,h⟩
 have hn:=Nat.eq_of_beq_eq_true hn
 subst hn
 obtain ⟨r0,hr,h⟩:=bindS h
 obtain rfl:=Oi h
 refine CtrP.mono (f85_c _ _ _ _ _ _ _ _ _ _ _ _ _ hr) ?_ ?_
 rintro r1 st1 ⟨hk,z,j5,hz,hr1,hst⟩
 subst hz
 exact ⟨hk,_,vf,vu,j5,q,hr1,hst⟩
 rintro c st1 ⟨hk,ee,hz,hc,hst⟩
 subst hz
 exact ⟨hk,_,q,hc,hst⟩
 rcases condCases2 h with ⟨hn,h⟩ | ⟨_,h⟩
 have hn:=Nat.eq_of_beq_eq_true hn
 subst hn
 obtain ⟨r0,hr,h⟩:=bindS h
 obtain rfl:=Oi h
 refine CtrP.mono (f86_c _ _ _ _ _ _ _ _ _ _ _ _ _ hr) ?_ ?_
 rintro r1 st1 ⟨hk,z,j4,j5,hz,hr1,hst⟩
 subst hz
 exact ⟨hk,_,vf,j4,j5,q,hr1,hst⟩
 rintro c st1 ⟨hk,ee,hz,hc,hst⟩
 subst hz
 exact ⟨hk,_,q,hc,hst⟩
 rcases condCases2 h with ⟨hn,h⟩ | ⟨_,h⟩
 have hn:=Nat.eq_of_beq_eq_true hn
 subst hn
 obtain ⟨r0,hr,h⟩:=bindS h
 obtain rfl:=Oi h
 refine CtrP.mono (f87_c _ _ _ _ _ _ _ _ _ _ _ _ _ hr) ?_ ?_
 rintro r1 st1 ⟨hk,z,hz,hr1,hst⟩
 subst hz
 exact ⟨hk,_,vf,vu,va,q,hr1,hst⟩
 rintro c st1 ⟨hk,ee,hz,hc,hst⟩
 subst hz
 exact ⟨hk,_,q,hc,hst⟩
 rcases condCases2 h with ⟨hn,h⟩ | ⟨_,h⟩
 have hn:=Nat.eq_of_beq_eq_true hn
 subst hn
 obtain ⟨r0,hr,h⟩:=bindS h
 obtain rfl:=Oi h
 refine CtrP.mono (f88_c _ _ _ _ _ _ _ _ _ _ _ _ _ hr) ?_ ?_
 rintro r1 st1 ⟨hk,z,hz,hr1,hst⟩
 subst hz
 exact ⟨hk,_,vf,vu,va,q,hr1,hst⟩
 rintro c st1 ⟨hk,ee,hz,hc,hst⟩
 subst hz
 exact ⟨hk,_,q,hc,hst⟩
 cases h

theorem f45_c (tR : Nat → Int) (tP : Int) (tX : Int) (tD : Int) (mI : List Insn) (mH : List MHandler) (mO : List Obj) (mE : Int) (mN : List Int) (mS : List (List Int)) (mU : List Int) (tA : List Act) {vo : Nat} {vf : Nat} {vu : Nat} {va : Nat} {r : Rs ((Nat → Int) × Int × Int × Int × (List Int) × (List (List Int)) × (List Int) × (List Act))} (h : f45 tR tP tX tD mI mH mO mE mN mS mU tA = some r) : CtrP Tryz.prog 45 [.pt 0 0] (wT tR tP tX tD va mI mH mO mE vo mN vu vf mS mU tA) (WinG 6 (fun r' new => ∃ (z : (Nat → Int) × Int × Int × Int × (List Int) × (List (List Int)) × (List Int) × (List Act)) (i3 i4 i5 : Nat),r = .ok z ∧ r' = .d (.tu []) ∧ new = [.row 116 (([.pt 1 0] : List AV) ++ (vecA 16 (fun j => .n (z.1 j)) ++ ([.n z.2.1,.n z.2.2.1,.n z.2.2.2.1,.os 5 i5] : List AV) : List AV)),.row 90 (mR mI mH mO mE 2 vo z.2.2.2.2.1 4 i4),.os 42 1 vo (famE 3 i3 (List.length z.2.2.2.2.2.1)),.fam 2 1 i3 (famM E2 z.2.2.2.2.2.1),.os 2 1 i4 (eM E2 z.2.2.2.2.2.2.1),.os 58 6 i5 (eM R58 z.2.2.2.2.2.2.2)])) (WinGP 6 (fun c new => ∃ (ee : Int),r = .bad ee ∧ c = wrongP ee ∧ new = (wD mI mH mO mE vo mN vu vf mS mU))):=by
 unfold f45 at h
 refine ctrP_intro Tryz.func45 (by kernel_rfl) q q q (fun mm φφ ww hmm => ?_)
 refine Rcc 1 q ?_
 obtain ⟨x31,hx31,h⟩:=bindS h
 apply RT [_,_,_,_,_,_,_,_,_,_,_,_,_,_,_,.u] [14,15] [[.row 116 (tQ 1 tR tP tX tD 5 va),.row 90 (mR mI mH mO mE 2 vo mN 4 vu),.os 42 1 vo (famE 3 vf (List.length mS)),.fam 2 1 vf (famM E2 mS),.os 2 1 vu (eM E2 mU),.os 58 6 va (eM R58 tA),.row 45 [.d (D.i .u8 0),.n 0,.n 0,.n 0,.n 0,.n 0,.n 0]],[.row 116 (tQ 1 tR tP tX tD 5 va),.row 90 (mR mI mH mO mE 2 vo mN 4 vu),.os 42 1 vo (famE 3 vf (List.length mS)),.fam 2 1 vf (famM E2 mS),.os 2 1 vu (eM E2 mU),.os 58 6 va (eM R58 tA),.row 45 [.d (D.i .u8 x31.op),.n x31.d,.n x31.a,.n x31.b,.n x31.n,.n x31.m,.n x31.to]]] [([],[0],[0,1]),([0],[],[0,1]),([1],[],[0,1]),([2],[],[0,1]),([3],[],[0,1]),([4],[],[0,1]),([5],[],[0,1]),([],[0],[0,1]),([7],[],[0,1]),([8],[],[0,1]),([9],[],[0,1]),([10],[],[0,1]),([6,11],[],[0,1]),([12],[],[0,1]),([],[],[0]),([14,13],[],[1])] (by kernel_rfl) (by kernel_rfl) q q
 refine ⟨?_,?_,?_,?_,?_,?_,?_,?_,?_,?_,?_,?_,?_,?_,?_,?_,Zt⟩
 exact ⟨O2 q (fun _ => q) q q,O2 q (fun _ => q) q q,Zt⟩
 exact ⟨O2 q (fun _ => q) q q,O2 q (fun _ => q) q q,Zt⟩
 exact ⟨O2 q (fun _ => q) q q,O2 q (fun _ => q) q q,Zt⟩
 exact ⟨O2 q (fun _ => q) q q,O2 q (fun _ => q) q q,Zt⟩
 exact ⟨O2 q (fun _ => q) q q,O2 q (fun _ => q) q q,Zt⟩
 exact ⟨O2 q (fun _ => q) q q,O2 q (fun _ => q) q q,Zt⟩
 exact ⟨O2 q (fun _ => q) q q,O2 q (fun _ => q) q q,Zt⟩
 exact ⟨O2 q (fun _ => q) q q,O2 q (fun _ => q) q q,Zt⟩
 exact ⟨O2 q (fun _ => q) q q,O2 q (fun _ => q) q q,Zt⟩
 exact ⟨O2 q (fun _ => q) q q,O2 q (fun _ => q) q q,Zt⟩
 exact ⟨O2 q (fun _ => q) q q,O2 q (fun _ => q) q q,Zt⟩
 exact ⟨O2 q (fun _ => q) q q,O2 q (fun _ => q) q q,Zt⟩
 refine ⟨fun F => ?_,fun F => ?_,Zt⟩
 exact Zq (y_indexAddr e23 q Zl q (idx_nonneg hx31) (idx_row E45_eq hx31) q) q (Zd q q q)
 exact Zq (y_indexAddr e23 q Zl q (idx_nonneg hx31) (idx_row E45_eq hx31) q) q (Zd q q q)
 exact ⟨O2 q (fun _ => q) q q,O2 q (fun _ => q) q q,Zt⟩
 refine ⟨fun F => ?_,Zt⟩
 exact Al z45 q (Zd q q q)
 refine ⟨fun F => ?_,Zt⟩
 exact WL.s0 (d_store q q q q q q s45 q q) (Zw q) q (WL.done0 q q)
 refine Rxl 6 q (WL.fn q q q q (f36_c _) ⟨Zl,Zt⟩ (Zw q) q q (Rlc 3 q (Ci h q (fun h => ?_) (fun h => ?_))))
 refine wc_regionP (WLP.pre 2 (Zq (y_build p118 z118 q q) q (Zq (y_makeInterface (p:=.ag (R118 (Wrong.mk 8))) (by kernel_rfl) q (Le.agd (Zs _))) q (WL.nil (WLP.pan q q (we_seq_pan ?_))))))
 obtain rfl:=Oi h
 exact we_pan_g (new:=(wD mI mH mO mE vo mN vu vf mS mU)) q ⟨Zt,Zp,Zf,Zf,Zf,Zt,Zt⟩ ⟨_,q,q,q⟩
 refine Rcc 2 q ?_
 obtain ⟨r32,hr32,h⟩:=bindS h
 apply wc_region_last [_,_,_,_,_,.u] [[],[],[1],[0,1,2],[],[0,1,2,3,4]] [] (fun c => List.getD [[.row 116 (tQ 1 tR tP tX tD 5 va),.row 90 (mR mI mH mO mE 2 vo mN 4 vu),.os 42 1 vo (famE 3 vf (List.length mS)),.fam 2 1 vf (famM E2 mS),.os 2 1 vu (eM E2 mU),.os 58 6 va (eM R58 tA),.row 45 [.d (D.i .u8 x31.op),.n x31.d,.n x31.a,.n x31.b,.n x31.n,.n x31.m,.n x31.to]]] c []) [([],[0],[0]),([],[2],[0]),([1],[],[0]),([0,2],[],[0]),([],[2],[0]),([3,4],[],[0])] 5 (l0:=_) (o:=_) (by exact (List.take_append_drop 5 _).symm) q (by kernel_rfl) (by kernel_rfl) q q q q
 refine ⟨?_,?_,?_,?_,?_,Zt⟩
 exact O1 q (fun _ => q) q q
 exact O1 q (fun _ => q) q q
 exact O1 q (fun _ => q) q q
 refine ⟨fun F => ?_,Zt⟩
 refine WL.wing [0,1,2,3,4,5] q q q q (f46_c _ _ _ _ _ _ _ _ _ _ _ _ _ hr32) ⟨Zl,Zl,Zt⟩ q (by decide) (Re (Re (Rg (Rf (Ro (Ro q)))))) ⟨q,q,q,q,q,q,Zt⟩ Kv q (Zw q) q q (fun r' new hS => ?_)
 obtain ⟨rfl,rfl⟩:=hS
 refine ⟨_,_,q,(Re (Re (Rg (Rf (Ro (Ro q)))))),q,Kv,?_⟩
 exact Zd q q q
 exact O1 q (fun _ => q) q q
 obtain ⟨r34,hr34,h⟩:=bindS h
 rcases r34 with z35 | e36
 dsimp only [Rs.cs] at h
 refine WLP.wing [0,1,2,3,4,5] q q q q (fm_c _ _ _ _ _ _ _ _ _ _ _ _ _ _ hr34) ⟨Zl,(Le.agd (Zs _)),Zt⟩ q (by decide) (Re (Re (Rg (Rf (Ro (Ro q)))))) ⟨q,q,q,q,q,q,Zt⟩ Kv q (Zw q) q q (fun r' new hS => ?_) (fun c new hS => ?_)
 obtain ⟨z9,i3_37,i4_37,i5_37,hz,rfl,rfl⟩:=hS
 obtain rfl:=Rs.ok.inj hz
 refine ⟨_,_,q,(Re (Re (Rg (Rf (Ro (Ro q)))))),q,Kv,WLP.of ?_⟩
 refine St q (WL.nil (we_endP ?_))
 obtain rfl:=Oi h
 exact WE.finP (we_ret_g (new:=[.row 116 (([.pt 1 0] : List AV) ++ (vecA 16 (fun j => .n (z35.1 j)) ++ ([.n z35.2.1,.n z35.2.2.1,.n z35.2.2.2.1,.os 5 i5_37] : List AV) : List AV)),.row 90 (mR mI mH mO mE 2 vo z35.2.2.2.2.1 4 i4_37),.os 42 1 vo (famE 3 i3_37 (List.length z35.2.2.2.2.2.1)),.fam 2 1 i3_37 (famM E2 z35.2.2.2.2.2.1),.os 2 1 i4_37 (eM E2 z35.2.2.2.2.2.2.1),.os 58 6 i5_37 (eM R58 z35.2.2.2.2.2.2.2)]) (r0:=.d (.tu [])) (res0 q) (Le.tud Zt) q ⟨Zp,Zp,Zf,Zf,Zf,Zf,Zt⟩ ⟨_,i3_37,i4_37,i5_37,q,q,q⟩)
 obtain ⟨z9,hz,_⟩:=hS
 cases hz
 dsimp only [Rs.cs] at h
 refine WLP.wing [0,1,2,3,4,5] q q q q (fm_c _ _ _ _ _ _ _ _ _ _ _ _ _ _ hr34) ⟨Zl,(Le.agd (Zs _)),Zt⟩ q (by decide) (Re (Re (Rg (Rf (Ro (Ro q)))))) ⟨q,q,q,q,q,q,Zt⟩ Kv q (Zw q) q q (fun r' new hS => ?_) (fun c new hS => ?_)
 obtain ⟨z9,i3_37,i4_37,i5_37,hz,_⟩:=hS
 cases hz
 obtain ⟨z9,hz,rfl,rfl⟩:=hS
 obtain rfl:=Rs.bad.inj hz
 refine ⟨_,(Re (Re (Rg (Rf (Ro (Re q)))))),Kv,?_⟩
 refine WE.sto (st':=[.dead,.row 90 (mR mI mH mO mE 2 vo mN 4 vu),.os 42 1 vo (famE 3 vf (List.length mS)),.fam 2 1 vf (famM E2 mS),.os 2 1 vu (eM E2 mU),.dead,.row 45 [.d (D.i .u8 x31.op),.n x31.d,.n x31.a,.n x31.b,.n x31.n,.n x31.m,.n x31.to]]) q ?_
 obtain rfl:=Oi h
 exact we_pan_g (new:=(wD mI mH mO mE vo mN vu vf mS mU)) q ⟨Zt,Zp,Zf,Zf,Zf,Zt,Zt⟩ ⟨_,q,q,q⟩

theorem f55_c (tR : Nat → Int) (tP : Int) (tX : Int) (tD : Int) (mI : List Insn) (mH : List MHandler) (mO : List Obj) (mE : Int) (mN : List Int) (mS : List (List Int)) (mU : List Int) (tA : List Act) (cap1 : Int) {vo : Nat} {vf : Nat} {vu : Nat} {va : Nat} {r : Rs ((Nat → Int) × Int × Int × Int × (List Act))} (h : f55 tR tP tX tD mI mH mO mE mN mS mU tA cap1 = some r) : CtrP Tryz.prog 55 [.pt 0 0,.d (.pc (E2 cap1))] (wT tR tP tX tD va mI mH mO mE vo mN vu vf mS mU tA) (WinG 6 (fun r' new => ∃ (z : (Nat → Int) × Int × Int × Int × (List Act)) (i5 : Nat),r = .ok z ∧ r' = .d (.tu []) ∧ new = [.row 116 (([.pt 1 0] : List AV) ++ (vecA 16 (fun j => .n (z.1 j)) ++ ([.n z.2.1,.n z.2.2.1,.n z.2.2.2.1,.os 5 i5] : List AV) : List AV)),.row 90 (mR mI mH mO mE 2 vo mN 4 vu),.os 42 1 vo (famE 3 vf (List.length mS)),.fam 2 1 vf (famM E2 mS),.os 2 1 vu (eM E2 mU),.os 58 6 i5 (eM R58 z.2.2.2.2)])) (WinGP 6 (fun c new => ∃ (ee : Int),r = .bad ee ∧ c = wrongP ee ∧ new = (wD mI mH mO mE vo mN vu vf mS mU))):=by
 unfold f55 at h
 refine ctrP_intro Tryz.func55 (by kernel_rfl) q q q (fun mm φφ ww hmm => ?_)
 refine wc_regionP (WLP.pre 2 (Rl 2 q (WL.nil ?_)))
 obtain ⟨r8,hr8,h⟩:=bindS h
 rcases r8 with z9 | e10
 dsimp only [Rs.cs] at h
 refine WLP.wing [0,1,2,3,4,5] q q q q (f56_c _ _ _ _ _ _ _ _ _ _ _ _ _ hr8) ⟨Zl,Zl,Zt⟩ q (by decide) (Re (Re (Rg (Rf (Ro (Ro q)))))) ⟨q,q,q,q,q,q,Zt⟩ Kv q (Zw q) q q (fun r' new hS => ?_) (fun c new hS => ?_)
 obtain ⟨z9,i5_11,hz,rfl,rfl⟩:=hS
 obtain rfl:=Rs.ok.inj hz
 refine ⟨_,_,q,(Re (Re (Rg (Rf (Ro (Ro q)))))),q,Kv,WLP.of ?_⟩
 refine St q (WL.nil (we_endP ?_))
 obtain rfl:=Oi h
 exact WE.finP (we_ret_g (new:=[.row 116 (([.pt 1 0] : List AV) ++ (vecA 16 (fun j => .n (z9.1 j)) ++ ([.n z9.2.1,.n z9.2.2.1,.n z9.2.2.2.1,.os 5 i5_11] : List AV) : List AV)),.row 90 (mR mI mH mO mE 2 vo mN 4 vu),.os 42 1 vo (famE 3 vf (List.length mS)),.fam 2 1 vf (famM E2 mS),.os 2 1 vu (eM E2 mU),.os 58 6 i5_11 (eM R58 z9.2.2.2.2)]) (r0:=.d (.tu [])) (res0 q) (Le.tud Zt) q ⟨Zp,Zp,Zf,Zf,Zf,Zf,Zt⟩ ⟨_,i5_11,q,q,q⟩)
 obtain ⟨z9,hz,_⟩:=hS
 cases hz
 dsimp only [Rs.cs] at h
 refine WLP.wing [0,1,2,3,4,5] q q q q (f56_c _ _ _ _ _ _ _ _ _ _ _ _ _ hr8) ⟨Zl,Zl,Zt⟩ q (by decide) (Re (Re (Rg (Rf (Ro (Ro q)))))) ⟨q,q,q,q,q,q,Zt⟩ Kv q (Zw q) q q (fun r' new hS => ?_) (fun c new hS => ?_)
 obtain ⟨z9,i5_11,hz,_⟩:=hS
 cases hz
 obtain ⟨z9,hz,rfl,rfl⟩:=hS
 obtain rfl:=Rs.bad.inj hz
 refine ⟨_,(Re (Re (Rg (Rf (Ro (Re q)))))),Kv,?_⟩
 refine WE.sto (st':=(wD mI mH mO mE vo mN vu vf mS mU)) q ?_
 obtain rfl:=Oi h
 exact we_pan_g (new:=(wD mI mH mO mE vo mN vu vf mS mU)) q ⟨Zt,Zp,Zf,Zf,Zf,Zt,Zt⟩ ⟨_,q,q,q⟩

theorem f58_c (tR : Nat → Int) (tP : Int) (tX : Int) (tD : Int) (mI : List Insn) (mH : List MHandler) (mO : List Obj) (mE : Int) (mN : List Int) (mS : List (List Int)) (mU : List Int) (tA : List Act) (cap1 : Int) {vo : Nat} {vf : Nat} {vu : Nat} {va : Nat} {r : Rs ((Nat → Int) × Int × Int × Int)} (h : f58 tR tP tX tD mI mH mO mE mN mS mU tA cap1 = some r) : CtrP Tryz.prog 58 [.pt 0 0,.d (.pc (E2 cap1))] (wT tR tP tX tD va mI mH mO mE vo mN vu vf mS mU tA) (WinG 6 (fun r' new => ∃ (z : (Nat → Int) × Int × Int × Int),r = .ok z ∧ r' = .d (.tu []) ∧ new = [.row 116 (([.pt 1 0] : List AV) ++ (vecA 16 (fun j => .n (z.1 j)) ++ ([.n z.2.1,.n z.2.2.1,.n z.2.2.2,.os 5 va] : List AV) : List AV)),.row 90 (mR mI mH mO mE 2 vo mN 4 vu),.os 42 1 vo (famE 3 vf (List.length mS)),.fam 2 1 vf (famM E2 mS),.os 2 1 vu (eM E2 mU),.os 58 6 va (eM R58 tA)])) (WinGP 6 (fun c new => ∃ (ee : Int),r = .bad ee ∧ c = wrongP ee ∧ new = (wD mI mH mO mE vo mN vu vf mS mU))):=by
 unfold f58 at h
 refine ctrP_intro Tryz.func58 (by kernel_rfl) q q q (fun mm φφ ww hmm => ?_)
 refine wc_regionP (WLP.pre 2 (Rl 2 q (WL.nil ?_)))
 obtain ⟨r8,hr8,h⟩:=bindS h
 rcases r8 with z9 | e10
 dsimp only [Rs.cs] at h
 refine WLP.wing [0,1,2,3,4,5] q q q q (f59_c _ _ _ _ _ _ _ _ _ _ _ _ _ hr8) ⟨Zl,Zl,Zt⟩ q (by decide) (Re (Re (Rg (Rf (Ro (Ro q)))))) ⟨q,q,q,q,q,q,Zt⟩ Kv q (Zw q) q q (fun r' new hS => ?_) (fun c new hS => ?_)
 obtain ⟨z9,hz,rfl,rfl⟩:=hS
 obtain rfl:=Rs.ok.inj hz
 refine ⟨_,_,q,(Re (Re (Rg (Rf (Ro (Ro q)))))),q,Kv,WLP.of ?_⟩
 refine St q (WL.nil (we_endP ?_))
 obtain rfl:=Oi h
 exact WE.finP (we_ret_g (new:=[.row 116 (([.pt 1 0] : List AV) ++ (vecA 16 (fun j => .n (z9.1 j)) ++ ([.n z9.2.1,.n z9.2.2.1,.n z9.2.2.2,.os 5 va] : List AV) : List AV)),.row 90 (mR mI mH mO mE 2 vo mN 4 vu),.os 42 1 vo (famE 3 vf (List.length mS)),.fam 2 1 vf (famM E2 mS),.os 2 1 vu (eM E2 mU),.os 58 6 va (eM R58 tA)]) (r0:=.d (.tu [])) (res0 q) (Le.tud Zt) q ⟨Zp,Zp,Zf,Zf,Zf,Zf,Zt⟩ ⟨_,q,q,q⟩)
 obtain ⟨z9,hz,_⟩:=hS
 cases hz
 dsimp only [Rs.cs] at h
 refine WLP.wing [0,1,2,3,4,5] q q q q (f59_c _ _ _ _ _ _ _ _ _ _ _ _ _ hr8) ⟨Zl,Zl,Zt⟩ q (by decide) (Re (Re (Rg (Rf (Ro (Ro q)))))) ⟨q,q,q,q,q,q,Zt⟩ Kv q (Zw q) q q (fun r' new hS => ?_) (fun c new hS => ?_)
 obtain ⟨z9,hz,_⟩:=hS
 cases hz
 obtain ⟨z9,hz,rfl,rfl⟩:=hS
 obtain rfl:=Rs.bad.inj hz
 refine ⟨_,(Re (Re (Rg (Rf (Ro (Re q)))))),Kv,?_⟩
 refine WE.sto (st':=(wD mI mH mO mE vo mN vu vf mS mU)) q ?_
 obtain rfl:=Oi h
 exact we_pan_g (new:=(wD mI mH mO mE vo mN vu vf mS mU)) q ⟨Zt,Zp,Zf,Zf,Zf,Zt,Zt⟩ ⟨_,q,q,q⟩

theorem tryD_ret {a b c : AV} {st : List AO} : DSp Tryz.prog 80 [a,b,c] st .returning .returning st:=by
 refine dsp_intro (v:=.nilIface) (va:=.d (.v .nilIface)) Tryz.func80 (by kernel_rfl) q q q q q (fun c0 cs hu => ?_) (fun _ _ _ => by simp [RA,RD]) (fun mm φφ ww hmm => ?_)
 right
 refine ⟨?_,q,q⟩
 simp [recoverD,hu]
 exact WC.sub (env':=[(6,.d (.v .nilIface)),(0,.u),(1,.u),(2,.u)]) (Sx q (Sub.cons q (Le.u _) (Sub.cons q (Le.u _) (Sub.cons q (Le.u _) (Sub.nil _))))) (Rcl 3 q (Zq (y_eqifn (by kernel_rfl) q) q (Rlc 2 q (wc_true q (Rcx 4 q (we_lp (SLe.refl _)))))))

theorem tryD_pan {e : Int} : DSp Tryz.prog 80 [.pt 0 0,.pt 1 0,.pt 2 0] [.row 41 n19,.row 50 [sN],.row 47 [.n 0]] (.panicking (wrongP e)) (.panicking [{ v:=.iface 118 (.agg ⟨[.int .i64 e]⟩),recovered:=true }]) [.row 41 n19,.row 50 [sN],.row 47 [.n e]]:=by
 refine dsp_intro (v:=.iface 118 (.agg ⟨[.int .i64 e]⟩)) (va:=.d (.ifc 118 (.ag [D.i .i64 e]))) Tryz.func80 (by kernel_rfl) q q q q q (fun c0 cs hu => ?_) (fun _ _ _ => gnd_ifc q) (fun mm φφ ww hmm => ?_)
 left
 refine ⟨_,?_,q⟩
 simp [recoverD,hu,wrongP]
 refine Rcl 3 q (Zq (y_eqifc (by kernel_rfl) q) q (Rlc 2 q (wc_false q (Rcl 2 q (Zq (y_tassert (by kernel_rfl) q) q (Rlc 4 q (wc_true q (Rcl 2 q (Al z118 q (WL.s0 (d_store q q q q q q s118 q q) (Zw q) q (Rlc 2 q ?_)))))))))))
 apply RT [_,_,_,.u,.u,.u] [5] [[.row 41 n19,.row 50 [sN],.row 47 [.n ((Wrong.mk e).e)],.row 118 [.n ((Wrong.mk e).e)]]] [([],[],[0]),([],[4],[0]),([1],[],[0]),([0],[0],[0]),([],[1],[0]),([2],[2],[0])] (by kernel_rfl) (by kernel_rfl) q q
 refine ⟨?_,?_,?_,?_,?_,?_,Zt⟩
 refine ⟨fun F => ?_,Zt⟩
 exact Zq (y_build p41 z41 q q) q (Zd q q q)
 exact O1 q (fun _ => q) q q
 exact O1 q (fun _ => q) q q
 refine ⟨fun F => ?_,Zt⟩
 exact WL.s0 (d_store q q q q q q s41 q q) (Zw q) q (WL.done0 q q)
 refine ⟨fun F => ?_,Zt⟩
 exact WL.s0 (d_store q q q q q q s50 q q) (Zw q) q (WL.done0 q q)
 refine ⟨fun F => ?_,Zt⟩
 exact WL.s0 (d_store q q q q q q s47 q q) (Zw q) q (WL.done0 q q)
 exact Rxx 1 q (WE.drop 3 (env':=[]) (Sub.nil _) q q (Nat.le_trans (Nat.le_of_eq hmm) (Nat.le_of_ble_eq_true q)) (we_lp ⟨OLe.refl _,OLe.refl _,OLe.refl _,Zt⟩))

theorem f44_45_c (mI : List Insn) (mH : List MHandler) (mO : List Obj) (mE : Int) (mN : List Int) (mS : List (List Int)) (mU : List Int) (r1 : Regs) (fine2 : Bool) {vo : Nat} {vf : Nat} {vu : Nat} {r : Regs × (List Act) × Int × (List Int) × (List (List Int)) × (List Int)} (h : f44_45 mI mH mO mE mN mS mU r1 fine2 = some r) : Ctr Tryz.prog 44 [.pt 0 0,.d (.ag (R41 r1)),.d (D.b fine2),.fn (.func 45) [] []] (wM mI mH mO mE vo mN vu vf mS mU) (WinG 4 (fun r' new => ∃ i2 i3 : Nat,r' = .d (.tu [.ag (R41 r.1),.sl (List.map E58 r.2.1),.i .i64 r.2.2.1]) ∧ new = [.row 90 (mR mI mH mO mE 1 vo r.2.2.2.1 3 i3),.os 42 1 vo (famE 2 i2 (List.length r.2.2.2.2.1)),.fam 2 1 i2 (famM E2 r.2.2.2.2.1),.os 2 1 i3 (eM E2 r.2.2.2.2.2)])):=by
 unfold f44_45 at h
 refine ctr_intro0 Tryz.func44 (by kernel_rfl) q q q (fun mm φφ ww hmm => ?_)
 refine Rcl 2 q (Bd q q (Zs _) q (Al z41 q (Al z50 q (Al z47 q (Rll 7 q ?_)))))
 obtain ⟨r80,hr80,h⟩:=bindS h
 refine WL.wing [0,1,2,3] q q q q (f47_c _ _ _ _ _ _ _ hr80) ⟨Zl,Zt⟩ q (by decide) (Re (Rg (Rf (Ro q)))) ⟨q,q,q,q,Zt⟩ Kv q (Zw q) q q (fun r' new hS => ?_)
 obtain ⟨rfl,rfl⟩:=hS
 refine ⟨_,_,q,(Re (Rg (Rf (Ro q)))),q,Kv,?_⟩
 refine St q (Rlc 3 q (Ci h q (fun h => ?_) (fun h => ?_)))
 refine Rcl 2 q (Zq (y_build p41 z41 q q) q (WL.s0 (d_store q q q q q q s41 q q) (Zw q) q (St q (WL.s0 (d_store q q q q q q s50 q q) (Zw q) q (WL.s0 (d_store q q q q q q s47 q q) (Zw q) q (Rlx 5 q ?_))))))
 obtain rfl:=Oi h
 exact we_ret_g (new:=(wM mI mH mO mE vo mN vu vf mS mU)) (r0:=.d (.tu [.ag (R41 (Regs.mk (fun j => 0) 0 0 0)),.sl (List.map E58 []),.i .i64 1])) (rs3 q (rv_cN q q a41 s41 q) (rv_c q q a50 q) (rv_c q q a47 q)) (Le.tud ⟨(Le.agd (Zs _)),Le.nil,Zl,Zt⟩) q ⟨Zp,Zf,Zf,Zf,Zt⟩ ⟨vf,vu,q,q⟩
 refine Rcc 1 q (wc_region_draw (by kernel_rfl) (by kernel_rfl) (Rq 4 q ?_))
 apply WQ.or 9 (t:=20) (d:=29)
 exact q
 intro hg20
 exact Rq 6 q (WQ.qy (y_len_map E45 mI e23 q q Zl) q q q (Rq 2 q (WQ.nil ⟨[_,_,_,_,_,_,_,_,_],q,q,q⟩)))
 exact Rq 9 q (WQ.nil ⟨[_,_,_,_,_,_,_,_,_],q,q,q⟩)
 refine Rq 1 q ?_
 apply WQ.or 4 (t:=30) (d:=34)
 exact q
 intro hg30
 exact Rq 4 q (WQ.nil ⟨[_,_,_,_],q,q,q⟩)
 exact Rq 4 q (WQ.nil ⟨[_,_,_,_],q,q,q⟩)
 refine Rq 1 q ?_
 apply WQ.or 8 (t:=35) (d:=43)
 exact q
 intro hg35
 exact Rq 8 q (WQ.nil ⟨[_,_,_,_,_,_,_,_],q,q,q⟩)
 exact Rq 8 q (WQ.nil ⟨[_,_,_,_,_,_,_,_],q,q,q⟩)
 refine Rq 1 q ?_
 apply WQ.or 4 (t:=44) (d:=48)
 exact q
 intro hg44
 exact Rq 4 q (WQ.nil ⟨[_,_,_,_],q,q,q⟩)
 exact Rq 4 q (WQ.nil ⟨[_,_,_,_],q,q,q⟩)
 refine Rq 1 q ?_
 apply WQ.or 4 (t:=49) (d:=53)
 exact q
 intro hg49
 exact Rq 4 q (WQ.nil ⟨[_,_,_,_],q,q,q⟩)
 exact Rq 4 q (WQ.nil ⟨[_,_,_,_],q,q,q⟩)
 refine Rq 1 q ?_
 apply WQ.or 3 (t:=54) (d:=57)
 exact q
 intro hg54
 exact Rq 3 q (WQ.nil ⟨[_,_,_],q,q,q⟩)
 exact Rq 3 q (WQ.nil ⟨[_,_,_],q,q,q⟩)
 refine Rq 1 q (WQ.nil (Rxc 1 q (Ci h q (fun h => ?_) (fun h => ?_))))
 refine Rcl 2 q (Zq (y_build p41 z41 q q) q (WL.s0 (d_store q q q q q q s41 q q) (Zw q) q (St q (WL.s0 (d_store q q q q q q s50 q q) (Zw q) q (WL.s0 (d_store q q q q q q s47 q q) (Zw q) q (Rlx 5 q ?_))))))
 obtain rfl:=Oi h
 exact we_ret_g (new:=(wM mI mH mO mE vo mN vu vf mS mU)) (r0:=.d (.tu [.ag (R41 (Regs.mk (fun j => 0) 0 0 0)),.sl (List.map E58 []),.i .i64 2])) (rs3 q (rv_cN q q a41 s41 q) (rv_c q q a50 q) (rv_c q q a47 q)) (Le.tud ⟨(Le.agd (Zs _)),Le.nil,Zl,Zt⟩) q ⟨Zp,Zf,Zf,Zf,Zt⟩ ⟨vf,vu,q,q⟩
 refine Rcc 4 q (wc_defer' (f:=80) (caps:=[.pt 4 0,.pt 5 0,.pt 6 0]) 1 q q q (Rl 1 q (WL.nil ⟨q,fun mD φD wD vsD hlenD hD1 => ?_⟩)))
 refine Rxl 5 q (Zq (y_build p116 z116 q q) q (Bx q q q (Rlc 4 q (wc_regionP (WLP.pre 2 (Rl 2 q (WL.nil_cell 7 20 58 6 q q (WL.nil ?_))))))))
 obtain ⟨r82,hr82,h⟩:=bindS h
 rcases r82 with z83 | e84
 dsimp only [Rs.cs] at h
 refine WLP.wing [7,0,1,2,3,8] q q q q (f45_c _ _ _ _ _ _ _ _ _ _ _ _ hr82) ⟨Zl,Zt⟩ q (by decide) (Re (Re (Rg (Rf (Ro (Ro q)))))) ⟨q,q,q,q,q,q,Zt⟩ Kv q (Zw q) q q (fun r' new hS => ?_) (fun c new hS => ?_)
 obtain ⟨z9,i3_85,i4_85,i5_85,hz,rfl,rfl⟩:=hS
 obtain rfl:=Rs.ok.inj hz
 refine ⟨_,_,q,(Re (Re (Rg (Rf (Ro (Ro q)))))),q,Kv,WLP.of ?_⟩
 refine St q (Zn (Rcc 1 q ?_))
 refine WC.freezeX [] [(7,20)] 8 _ q (encA_map E58_eq _) Zt ⟨_,_,q,q,Zt⟩ ?_
 apply RT [_,_,_,_,_,_,_,_,.u,.u,.u] [8,9] [[.row 90 (mR mI mH mO mE 1 vo z83.2.2.2.2.1 3 i4_85),.os 42 1 vo (famE 2 i3_85 (List.length z83.2.2.2.2.2.1)),.fam 2 1 i3_85 (famM E2 z83.2.2.2.2.2.1),.os 2 1 i4_85 (eM E2 z83.2.2.2.2.2.2.1),.row 41 (vecA 16 (fun j => .n (z83.1 j)) ++ ([.n z83.2.1,.n z83.2.2.1,.n z83.2.2.2.1] : List AV)),.row 50 [sN],.row 47 [.n 0],.row 116 (([.pt 0 0] : List AV) ++ (vecA 16 (fun j => .n (z83.1 j)) ++ ([.n z83.2.1,.n z83.2.2.1,.n z83.2.2.2.1,.l E58 z83.2.2.2.2.2.2.2] : List AV) : List AV)),.dead],[.row 90 (mR mI mH mO mE 1 vo z83.2.2.2.2.1 3 i4_85),.os 42 1 vo (famE 2 i3_85 (List.length z83.2.2.2.2.2.1)),.fam 2 1 i3_85 (famM E2 z83.2.2.2.2.2.1),.os 2 1 i4_85 (eM E2 z83.2.2.2.2.2.2.1),.row 41 (vecA 16 (fun j => .n (z83.1 j)) ++ ([.n z83.2.1,.n z83.2.2.1,.n z83.2.2.2.1] : List AV)),.row 50 [.l E58 z83.2.2.2.2.2.2.2],.row 47 [.n 0],.row 116 (([.pt 0 0] : List AV) ++ (vecA 16 (fun j => .n (z83.1 j)) ++ ([.n z83.2.1,.n z83.2.2.1,.n z83.2.2.2.1,.l E58 z83.2.2.2.2.2.2.2] : List AV) : List AV)),.dead]] [([],[11],[0]),([0],[],[0]),([1],[],[0]),([2],[],[0]),([],[11],[0,1]),([4],[],[0,1]),([5],[],[0,1]),([6],[],[0,1]),([3],[8],[0]),([7],[9],[1]),([],[10],[2])] (by kernel_rfl) (by kernel_rfl) q q
 refine ⟨?_,?_,?_,?_,?_,?_,?_,?_,?_,?_,?_,Zt⟩
 exact O1 q (fun _ => q) q q
 exact O1 q (fun _ => q) q q
 exact O1 q (fun _ => q) q q
 exact O1 q (fun _ => q) q q
 exact ⟨O2 q (fun _ => q) q q,O2 q (fun _ => q) q q,Zt⟩
 exact ⟨O2 q (fun _ => q) q q,O2 q (fun _ => q) q q,Zt⟩
 exact ⟨O2 q (fun _ => q) q q,O2 q (fun _ => q) q q,Zt⟩
 exact ⟨O2 q (fun _ => q) q q,O2 q (fun _ => q) q q,Zt⟩
 refine ⟨fun F => ?_,Zt⟩
 exact WL.s0 (d_store q q q q q q s41 q q) (Zw q) q (WL.done0 q q)
 refine ⟨fun F => ?_,Zt⟩
 exact WL.s0 (d_store q q q q q q s50 q q) (Zw q) q (WL.done0 q q)
 refine ⟨fun F => ?_,Zt⟩
 exact WL.s0 (d_store q q q q q q s47 q q) (Zw q) q (WL.done0 q q)
 refine Rxx 2 q ?_
 obtain rfl:=Oi h
 exact we_ret_gdc (new:=[.row 90 (mR mI mH mO mE 1 vo z83.2.2.2.2.1 3 i4_85),.os 42 1 vo (famE 2 i3_85 (List.length z83.2.2.2.2.2.1)),.fam 2 1 i3_85 (famM E2 z83.2.2.2.2.2.1),.os 2 1 i4_85 (eM E2 z83.2.2.2.2.2.2.1)]) (r0:=.d (.tu [.ag (R41 (Regs.mk z83.1 z83.2.1 z83.2.2.1 z83.2.2.2.1)),.sl (List.map E58 z83.2.2.2.2.2.2.2),.i .i64 0])) hD1 (tryD_ret) (rs3 q (rv_cN q q a41 s41 q) (rv_c q q a50 q) (rv_c q q a47 q)) (Le.tud ⟨(Le.agd (Zs _)),Zl,Zl,Zt⟩) q ⟨Zp,Zf,Zf,Zf,Zt⟩ ⟨i3_85,i4_85,q,q⟩
 obtain ⟨z9,hz,_⟩:=hS
 cases hz
 dsimp only [Rs.cs] at h
 refine WLP.wing [7,0,1,2,3,8] q q q q (f45_c _ _ _ _ _ _ _ _ _ _ _ _ hr82) ⟨Zl,Zt⟩ q (by decide) (Re (Re (Rg (Rf (Ro (Ro q)))))) ⟨q,q,q,q,q,q,Zt⟩ Kv q (Zw q) q q (fun r' new hS => ?_) (fun c new hS => ?_)
 obtain ⟨z9,i3_85,i4_85,i5_85,hz,_⟩:=hS
 cases hz
 obtain ⟨z9,hz,rfl,rfl⟩:=hS
 obtain rfl:=Rs.bad.inj hz
 refine ⟨_,(Re (Re (Rg (Rf (Ro (Re q)))))),Kv,?_⟩
 refine WE.sto (st':=[.row 90 (mR mI mH mO mE 1 vo mN 3 vu),.os 42 1 vo (famE 2 vf (List.length mS)),.fam 2 1 vf (famM E2 mS),.os 2 1 vu (eM E2 mU),.row 41 n19,.row 50 [sN],.row 47 [.n 0],.dead,.dead]) q (we_seq_pan ?_)
 obtain rfl:=Oi h
 exact we_pan_gdc (new:=(wM mI mH mO mE vo mN vu vf mS mU)) (r0:=.d (.tu [.ag (R41 (Regs.mk (fun j => 0) 0 0 0)),.sl (List.map E58 []),.i .i64 e84])) hD1 (DSp.win [4,5,6] (tryD_pan (e:=e84)) ⟨Zl,Zl,Zl,Zt⟩ q (by decide) q ⟨q,q,q,Zt⟩ q q q q q (st':=[.row 90 (mR mI mH mO mE 1 vo mN 3 vu),.os 42 1 vo (famE 2 vf (List.length mS)),.fam 2 1 vf (famM E2 mS),.os 2 1 vu (eM E2 mU),.row 41 n19,.row 50 [sN],.row 47 [.n e84],.dead,.dead]) q) q (rs3 q (rv_cN q q a41 s41 q) (rv_c q q a50 q) (rv_c q q a47 q)) (Le.tud ⟨(Le.agd (Zs _)),Le.nil,Zl,Zt⟩) q ⟨Zp,Zf,Zf,Zf,Zt⟩ ⟨vf,vu,q,q⟩

theorem f44_55_c (mI : List Insn) (mH : List MHandler) (mO : List Obj) (mE : Int) (mN : List Int) (mS : List (List Int)) (mU : List Int) (r1 : Regs) (fine2 : Bool) (xn : Int) {vo : Nat} {vf : Nat} {vu : Nat} {r : Regs × (List Act) × Int} (h : f44_55 mI mH mO mE mN mS mU r1 fine2 xn = some r) : Ctr Tryz.prog 44 [.pt 0 0,.d (.ag (R41 r1)),.d (D.b fine2),.fn (.func 55) [] [.d (.pc (E2 xn))]] (wM mI mH mO mE vo mN vu vf mS mU) (WinG 4 (fun r' new => r' = .d (.tu [.ag (R41 r.1),.sl (List.map E58 r.2.1),.i .i64 r.2.2]) ∧ new = (wM mI mH mO mE vo mN vu vf mS mU))):=by
 unfold f44_55 at h
 refine ctr_intro0 Tryz.func44 (by kernel_rfl) q q q (fun mm φφ ww hmm => ?_)
 refine Rcl 2 q (Bd q q (Zs _) q (Al z41 q (Al z50 q (Al z47 q (Rll 7 q ?_)))))
 obtain ⟨r80,hr80,h⟩:=bindS h
 refine WL.wing [0,1,2,3] q q q q (f47_c _ _ _ _ _ _ _ hr80) ⟨Zl,Zt⟩ q (by decide) (Re (Rg (Rf (Ro q)))) ⟨q,q,q,q,Zt⟩ Kv q (Zw q) q q (fun r' new hS => ?_)
 obtain ⟨rfl,rfl⟩:=hS
 refine ⟨_,_,q,(Re (Rg (Rf (Ro q)))),q,Kv,?_⟩
 refine St q (Rlc 3 q (Ci h q (fun h => ?_) (fun h => ?_)))
 refine Rcl 2 q (Zq (y_build p41 z41 q q) q (WL.s0 (d_store q q q q q q s41 q q) (Zw q) q (St q (WL.s0 (d_store q q q q q q s50 q q) (Zw q) q (WL.s0 (d_store q q q q q q s47 q q) (Zw q) q (Rlx 5 q ?_))))))
 obtain rfl:=Oi h
 exact we_ret_g (new:=(wM mI mH mO mE vo mN vu vf mS mU)) (r0:=.d (.tu [.ag (R41 (Regs.mk (fun j => 0) 0 0 0)),.sl (List.map E58 []),.i .i64 1])) (rs3 q (rv_cN q q a41 s41 q) (rv_c q q a50 q) (rv_c q q a47 q)) (Le.tud ⟨(Le.agd (Zs _)),Le.nil,Zl,Zt⟩) q ⟨Zp,Zf,Zf,Zf,Zt⟩ ⟨q,q⟩
 refine Rcc 1 q (wc_region_draw (by kernel_rfl) (by kernel_rfl) (Rq 4 q ?_))
 apply WQ.or 9 (t:=20) (d:=29)
 exact q
 intro hg20
 exact Rq 6 q (WQ.qy (y_len_map E45 mI e23 q q Zl) q q q (Rq 2 q (WQ.nil ⟨[_,_,_,_,_,_,_,_,_],q,q,q⟩)))
 exact Rq 9 q (WQ.nil ⟨[_,_,_,_,_,_,_,_,_],q,q,q⟩)
 refine Rq 1 q ?_
 apply WQ.or 4 (t:=30) (d:=34)
 exact q
 intro hg30
 exact Rq 4 q (WQ.nil ⟨[_,_,_,_],q,q,q⟩)
 exact Rq 4 q (WQ.nil ⟨[_,_,_,_],q,q,q⟩)
 refine Rq 1 q ?_
 apply WQ.or 8 (t:=35) (d:=43)
 exact q
 intro hg35
 exact Rq 8 q (WQ.nil ⟨[_,_,_,_,_,_,_,_],q,q,q⟩)
 exact Rq 8 q (WQ.nil ⟨[_,_,_,_,_,_,_,_],q,q,q⟩)
 refine Rq 1 q ?_
 apply WQ.or 4 (t:=44) (d:=48)
 exact q
 intro hg44
 exact Rq 4 q (WQ.nil ⟨[_,_,_,_],q,q,q⟩)
 exact Rq 4 q (WQ.nil ⟨[_,_,_,_],q,q,q⟩)
 refine Rq 1 q ?_
 apply WQ.or 4 (t:=49) (d:=53)
 exact q
 intro hg49
 exact Rq 4 q (WQ.nil ⟨[_,_,_,_],q,q,q⟩)
 exact Rq 4 q (WQ.nil ⟨[_,_,_,_],q,q,q⟩)
 refine Rq 1 q ?_
 apply WQ.or 3 (t:=54) (d:=57)
 exact q
 intro hg54
 exact Rq 3 q (WQ.nil ⟨[_,_,_],q,q,q⟩)
 exact Rq 3 q (WQ.nil ⟨[_,_,_],q,q,q⟩)
 refine Rq 1 q (WQ.nil (Rxc 1 q (Ci h q (fun h => ?_) (fun h => ?_))))
 refine Rcl 2 q (Zq (y_build p41 z41 q q) q (WL.s0 (d_store q q q q q q s41 q q) (Zw q) q (St q (WL.s0 (d_store q q q q q q s50 q q) (Zw q) q (WL.s0 (d_store q q q q q q s47 q q) (Zw q) q (Rlx 5 q ?_))))))
 obtain rfl:=Oi h
 exact we_ret_g (new:=(wM mI mH mO mE vo mN vu vf mS mU)) (r0:=.d (.tu [.ag (R41 (Regs.mk (fun j => 0) 0 0 0)),.sl (List.map E58 []),.i .i64 2])) (rs3 q (rv_cN q q a41 s41 q) (rv_c q q a50 q) (rv_c q q a47 q)) (Le.tud ⟨(Le.agd (Zs _)),Le.nil,Zl,Zt⟩) q ⟨Zp,Zf,Zf,Zf,Zt⟩ ⟨q,q⟩
 refine Rcc 4 q (wc_defer' (f:=80) (caps:=[.pt 4 0,.pt 5 0,.pt 6 0]) 1 q q q (Rl 1 q (WL.nil ⟨q,fun mD φD wD vsD hlenD hD1 => ?_⟩)))
 refine Rxl 5 q (Zq (y_build p116 z116 q q) q (Bx q q q (Rlc 4 q (wc_regionP (WLP.pre 2 (Rl 2 q (WL.nil_cell 7 20 58 6 q q (WL.nil ?_))))))))
 obtain ⟨r82,hr82,h⟩:=bindS h
 rcases r82 with z83 | e84
 dsimp only [Rs.cs] at h
 refine WLP.wing [7,0,1,2,3,8] q q q q (f55_c _ _ _ _ _ _ _ _ _ _ _ _ _ hr82) ⟨Zl,Zl,Zt⟩ q (by decide) (Re (Re (Rg (Rf (Ro (Ro q)))))) ⟨q,q,q,q,q,q,Zt⟩ Kv q (Zw q) q q (fun r' new hS => ?_) (fun c new hS => ?_)
 obtain ⟨z9,i5_85,hz,rfl,rfl⟩:=hS
 obtain rfl:=Rs.ok.inj hz
 refine ⟨_,_,q,(Re (Re (Rg (Rf (Ro (Ro q)))))),q,Kv,WLP.of ?_⟩
 refine St q (Zn (Rcc 1 q ?_))
 refine WC.freezeX [] [(7,20)] 8 _ q (encA_map E58_eq _) Zt ⟨_,_,q,q,Zt⟩ ?_
 apply RT [_,_,_,_,_,_,_,_,.u,.u,.u] [8,9] [[.row 90 (mR mI mH mO mE 1 vo mN 3 vu),.os 42 1 vo (famE 2 vf (List.length mS)),.fam 2 1 vf (famM E2 mS),.os 2 1 vu (eM E2 mU),.row 41 (vecA 16 (fun j => .n (z83.1 j)) ++ ([.n z83.2.1,.n z83.2.2.1,.n z83.2.2.2.1] : List AV)),.row 50 [sN],.row 47 [.n 0],.row 116 (([.pt 0 0] : List AV) ++ (vecA 16 (fun j => .n (z83.1 j)) ++ ([.n z83.2.1,.n z83.2.2.1,.n z83.2.2.2.1,.l E58 z83.2.2.2.2] : List AV) : List AV)),.dead],[.row 90 (mR mI mH mO mE 1 vo mN 3 vu),.os 42 1 vo (famE 2 vf (List.length mS)),.fam 2 1 vf (famM E2 mS),.os 2 1 vu (eM E2 mU),.row 41 (vecA 16 (fun j => .n (z83.1 j)) ++ ([.n z83.2.1,.n z83.2.2.1,.n z83.2.2.2.1] : List AV)),.row 50 [.l E58 z83.2.2.2.2],.row 47 [.n 0],.row 116 (([.pt 0 0] : List AV) ++ (vecA 16 (fun j => .n (z83.1 j)) ++ ([.n z83.2.1,.n z83.2.2.1,.n z83.2.2.2.1,.l E58 z83.2.2.2.2] : List AV) : List AV)),.dead]] [([],[11],[0]),([0],[],[0]),([1],[],[0]),([2],[],[0]),([],[11],[0,1]),([4],[],[0,1]),([5],[],[0,1]),([6],[],[0,1]),([3],[8],[0]),([7],[9],[1]),([],[10],[2])] (by kernel_rfl) (by kernel_rfl) q q
 refine ⟨?_,?_,?_,?_,?_,?_,?_,?_,?_,?_,?_,Zt⟩
 exact O1 q (fun _ => q) q q
 exact O1 q (fun _ => q) q q
 exact O1 q (fun _ => q) q q
 exact O1 q (fun _ => q) q q
 exact ⟨O2 q (fun _ => q) q q,O2 q (fun _ => q) q q,Zt⟩
 exact ⟨O2 q (fun _ => q) q q,O2 q (fun _ => q) q q,Zt⟩
 exact ⟨O2 q (fun _ => q) q q,O2 q (fun _ => q) q q,Zt⟩
 exact ⟨O2 q (fun _ => q) q q,O2 q (fun _ => q) q q,Zt⟩
 refine ⟨fun F => ?_,Zt⟩
 exact WL.s0 (d_store q q q q q q s41 q q) (Zw q) q (WL.done0 q q)
 refine ⟨fun F => ?_,Zt⟩
 exact WL.s0 (d_store q q q q q q s50 q q) (Zw q) q (WL.done0 q q)
 refine ⟨fun F => ?_,Zt⟩
 exact WL.s0 (d_store q q q q q q s47 q q) (Zw q) q (WL.done0 q q)
 refine Rxx 2 q ?_
 obtain rfl:=Oi h
 exact we_ret_gdc (new:=(wM mI mH mO mE vo mN vu vf mS mU)) (r0:=.d (.tu [.ag (R41 (Regs.mk z83.1 z83.2.1 z83.2.2.1 z83.2.2.2.1)),.sl (List.map E58 z83.2.2.2.2),.i .i64 0])) hD1 (tryD_ret) (rs3 q (rv_cN q q a41 s41 q) (rv_c q q a50 q) (rv_c q q a47 q)) (Le.tud ⟨(Le.agd (Zs _)),Zl,Zl,Zt⟩) q ⟨Zp,Zf,Zf,Zf,Zt⟩ ⟨q,q⟩
 obtain ⟨z9,hz,_⟩:=hS
 cases hz
 dsimp only [Rs.cs] at h
 refine WLP.wing [7,0,1,2,3,8] q q q q (f55_c _ _ _ _ _ _ _ _ _ _ _ _ _ hr82) ⟨Zl,Zl,Zt⟩ q (by decide) (Re (Re (Rg (Rf (Ro (Ro q)))))) ⟨q,q,q,q,q,q,Zt⟩ Kv q (Zw q) q q (fun r' new hS => ?_) (fun c new hS => ?_)
 obtain ⟨z9,i5_85,hz,_⟩:=hS
 cases hz
 obtain ⟨z9,hz,rfl,rfl⟩:=hS
 obtain rfl:=Rs.bad.inj hz
 refine ⟨_,(Re (Re (Rg (Rf (Ro (Re q)))))),Kv,?_⟩
 refine WE.sto (st':=[.row 90 (mR mI mH mO mE 1 vo mN 3 vu),.os 42 1 vo (famE 2 vf (List.length mS)),.fam 2 1 vf (famM E2 mS),.os 2 1 vu (eM E2 mU),.row 41 n19,.row 50 [sN],.row 47 [.n 0],.dead,.dead]) q (we_seq_pan ?_)
 obtain rfl:=Oi h
 exact we_pan_gdc (new:=(wM mI mH mO mE vo mN vu vf mS mU)) (r0:=.d (.tu [.ag (R41 (Regs.mk (fun j => 0) 0 0 0)),.sl (List.map E58 []),.i .i64 e84])) hD1 (DSp.win [4,5,6] (tryD_pan (e:=e84)) ⟨Zl,Zl,Zl,Zt⟩ q (by decide) q ⟨q,q,q,Zt⟩ q q q q q (st':=[.row 90 (mR mI mH mO mE 1 vo mN 3 vu),.os 42 1 vo (famE 2 vf (List.length mS)),.fam 2 1 vf (famM E2 mS),.os 2 1 vu (eM E2 mU),.row 41 n19,.row 50 [sN],.row 47 [.n e84],.dead,.dead]) q) q (rs3 q (rv_cN q q a41 s41 q) (rv_c q q a50 q) (rv_c q q a47 q)) (Le.tud ⟨(Le.agd (Zs _)),Le.nil,Zl,Zt⟩) q ⟨Zp,Zf,Zf,Zf,Zt⟩ ⟨q,q⟩

theorem f44_58_c (mI : List Insn) (mH : List MHandler) (mO : List Obj) (mE : Int) (mN : List Int) (mS : List (List Int)) (mU : List Int) (r1 : Regs) (fine2 : Bool) (xn : Int) {vo : Nat} {vf : Nat} {vu : Nat} {r : Regs × (List Act) × Int} (h : f44_58 mI mH mO mE mN mS mU r1 fine2 xn = some r) : Ctr Tryz.prog 44 [.pt 0 0,.d (.ag (R41 r1)),.d (D.b fine2),.fn (.func 58) [] [.d (.pc (E2 xn))]] (wM mI mH mO mE vo mN vu vf mS mU) (WinG 4 (fun r' new => r' = .d (.tu [.ag (R41 r.1),.sl (List.map E58 r.2.1),.i .i64 r.2.2]) ∧ new = (wM mI mH mO mE vo mN vu vf mS mU))):=by
 unfold f44_58 at h
 refine ctr_intro0 Tryz.func44 (by kernel_rfl) q q q (fun mm φφ ww hmm => ?_)
 refine Rcl 2 q (Bd q q (Zs _) q (Al z41 q (Al z50 q (Al z47 q (Rll 7 q ?_)))))
 obtain ⟨r80,hr80,h⟩:=bindS h
 refine WL.wing [0,1,2,3] q q q q (f47_c _ _ _ _ _ _ _ hr80) ⟨Zl,Zt⟩ q (by decide) (Re (Rg (Rf (Ro q)))) ⟨q,q,q,q,Zt⟩ Kv q (Zw q) q q (fun r' new hS => ?_)
 obtain ⟨rfl,rfl⟩:=hS
 refine ⟨_,_,q,(Re (Rg (Rf (Ro q)))),q,Kv,?_⟩
 refine St q (Rlc 3 q (Ci h q (fun h => ?_) (fun h => ?_)))
 refine Rcl 2 q (Zq (y_build p41 z41 q q) q (WL.s0 (d_store q q q q q q s41 q q) (Zw q) q (St q (WL.s0 (d_store q q q q q q s50 q q) (Zw q) q (WL.s0 (d_store q q q q q q s47 q q) (Zw q) q (Rlx 5 q ?_))))))
 obtain rfl:=Oi h
 exact we_ret_g (new:=(wM mI mH mO mE vo mN vu vf mS mU)) (r0:=.d (.tu [.ag (R41 (Regs.mk (fun j => 0) 0 0 0)),.sl (List.map E58 []),.i .i64 1])) (rs3 q (rv_cN q q a41 s41 q) (rv_c q q a50 q) (rv_c q q a47 q)) (Le.tud ⟨(Le.agd (Zs _)),Le.nil,Zl,Zt⟩) q ⟨Zp,Zf,Zf,Zf,Zt⟩ ⟨q,q⟩
 refine Rcc 1 q (wc_region_draw (by kernel_rfl) (by kernel_rfl) (Rq 4 q ?_))
 apply WQ.or 9 (t:=20) (d:=29)
 exact q
 intro hg20
 exact Rq 6 q (WQ.qy (y_len_map E45 mI e23 q q Zl) q q q (Rq 2 q (WQ.nil ⟨[_,_,_,_,_,_,_,_,_],q,q,q⟩)))
 exact Rq 9 q (WQ.nil ⟨[_,_,_,_,_,_,_,_,_],q,q,q⟩)
 refine Rq 1 q ?_
 apply WQ.or 4 (t:=30) (d:=34)
 exact q
 intro hg30
 exact Rq 4 q (WQ.nil ⟨[_,_,_,_],q,q,q⟩)
 exact Rq 4 q (WQ.nil ⟨[_,_,_,_],q,q,q⟩)
 refine Rq 1 q ?_
 apply WQ.or 8 (t:=35) (d:=43)
 exact q
 intro hg35
 exact Rq 8 q (WQ.nil ⟨[_,_,_,_,_,_,_,_],q,q,q⟩)
 exact Rq 8 q (WQ.nil ⟨[_,_,_,_,_,_,_,_],q,q,q⟩)
 refine Rq 1 q ?_
 apply WQ.or 4 (t:=44) (d:=48)
 exact q
 intro hg44
 exact Rq 4 q (WQ.nil ⟨[_,_,_,_],q,q,q⟩)
 exact Rq 4 q (WQ.nil ⟨[_,_,_,_],q,q,q⟩)
 refine Rq 1 q ?_
 apply WQ.or 4 (t:=49) (d:=53)
 exact q
 intro hg49
 exact Rq 4 q (WQ.nil ⟨[_,_,_,_],q,q,q⟩)
 exact Rq 4 q (WQ.nil ⟨[_,_,_,_],q,q,q⟩)
 refine Rq 1 q ?_
 apply WQ.or 3 (t:=54) (d:=57)
 exact q
 intro hg54
 exact Rq 3 q (WQ.nil ⟨[_,_,_],q,q,q⟩)
 exact Rq 3 q (WQ.nil ⟨[_,_,_],q,q,q⟩)
 refine Rq 1 q (WQ.nil (Rxc 1 q (Ci h q (fun h => ?_) (fun h => ?_))))
 refine Rcl 2 q (Zq (y_build p41 z41 q q) q (WL.s0 (d_store q q q q q q s41 q q) (Zw q) q (St q (WL.s0 (d_store q q q q q q s50 q q) (Zw q) q (WL.s0 (d_store q q q q q q s47 q q) (Zw q) q (Rlx 5 q ?_))))))
 obtain rfl:=Oi h
 exact we_ret_g (new:=(wM mI mH mO mE vo mN vu vf mS mU)) (r0:=.d (.tu [.ag (R41 (Regs.mk (fun j => 0) 0 0 0)),.sl (List.map E58 []),.i .i64 2])) (rs3 q (rv_cN q q a41 s41 q) (rv_c q q a50 q) (rv_c q q a47 q)) (Le.tud ⟨(Le.agd (Zs _)),Le.nil,Zl,Zt⟩) q ⟨Zp,Zf,Zf,Zf,Zt⟩ ⟨q,q⟩
 refine Rcc 4 q (wc_defer' (f:=80) (caps:=[.pt 4 0,.pt 5 0,.pt 6 0]) 1 q q q (Rl 1 q (WL.nil ⟨q,fun mD φD wD vsD hlenD hD1 => ?_⟩)))
 refine Rxl 5 q (Zq (y_build p116 z116 q q) q (Bx q q q (Rlc 4 q (wc_regionP (WLP.pre 2 (Rl 2 q (WL.nil_cell 7 20 58 6 q q (WL.nil ?_))))))))
 obtain ⟨r82,hr82,h⟩:=bindS h
 rcases r82 with z83 | e84
 dsimp only [Rs.cs] at h
 refine WLP.wing [7,0,1,2,3,8] q q q q (f58_c _ _ _ _ _ _ _ _ _ _ _ _ _ hr82) ⟨Zl,Zl,Zt⟩ q (by decide) (Re (Re (Rg (Rf (Ro (Ro q)))))) ⟨q,q,q,q,q,q,Zt⟩ Kv q (Zw q) q q (fun r' new hS => ?_) (fun c new hS => ?_)
 obtain ⟨z9,hz,rfl,rfl⟩:=hS
 obtain rfl:=Rs.ok.inj hz
 refine ⟨_,_,q,(Re (Re (Rg (Rf (Ro (Ro q)))))),q,Kv,WLP.of ?_⟩
 refine St q (Zn (Rcc 1 q ?_))
 refine WC.freezeX [] [(7,20)] 8 _ q (encA_map E58_eq _) Zt ⟨_,_,q,q,Zt⟩ ?_
 apply RT [_,_,_,_,_,_,_,_,.u,.u,.u] [8,9] [[.row 90 (mR mI mH mO mE 1 vo mN 3 vu),.os 42 1 vo (famE 2 vf (List.length mS)),.fam 2 1 vf (famM E2 mS),.os 2 1 vu (eM E2 mU),.row 41 (vecA 16 (fun j => .n (z83.1 j)) ++ ([.n z83.2.1,.n z83.2.2.1,.n z83.2.2.2] : List AV)),.row 50 [sN],.row 47 [.n 0],.row 116 (([.pt 0 0] : List AV) ++ (vecA 16 (fun j => .n (z83.1 j)) ++ ([.n z83.2.1,.n z83.2.2.1,.n z83.2.2.2,.l E58 ([] : List Act)] : List AV) : List AV)),.dead],[.row 90 (mR mI mH mO mE 1 vo mN 3 vu),.os 42 1 vo (famE 2 vf (List.length mS)),.fam 2 1 vf (famM E2 mS),.os 2 1 vu (eM E2 mU),.row 41 (vecA 16 (fun j => .n (z83.1 j)) ++ ([.n z83.2.1,.n z83.2.2.1,.n z83.2.2.2] : List AV)),.row 50 [.l E58 ([] : List Act)],.row 47 [.n 0],.row 116 (([.pt 0 0] : List AV) ++ (vecA 16 (fun j => .n (z83.1 j)) ++ ([.n z83.2.1,.n z83.2.2.1,.n z83.2.2.2,.l E58 ([] : List Act)] : List AV) : List AV)),.dead]] [([],[11],[0]),([0],[],[0]),([1],[],[0]),([2],[],[0]),([],[11],[0,1]),([4],[],[0,1]),([5],[],[0,1]),([6],[],[0,1]),([3],[8],[0]),([7],[9],[1]),([],[10],[2])] (by kernel_rfl) (by kernel_rfl) q q
 refine ⟨?_,?_,?_,?_,?_,?_,?_,?_,?_,?_,?_,Zt⟩
 exact O1 q (fun _ => q) q q
 exact O1 q (fun _ => q) q q
 exact O1 q (fun _ => q) q q
 exact O1 q (fun _ => q) q q
 exact ⟨O2 q (fun _ => q) q q,O2 q (fun _ => q) q q,Zt⟩
 exact ⟨O2 q (fun _ => q) q q,O2 q (fun _ => q) q q,Zt⟩
 exact ⟨O2 q (fun _ => q) q q,O2 q (fun _ => q) q q,Zt⟩
 exact ⟨O2 q (fun _ => q) q q,O2 q (fun _ => q) q q,Zt⟩
 refine ⟨fun F => ?_,Zt⟩
 exact WL.s0 (d_store q q q q q q s41 q q) (Zw q) q (WL.done0 q q)
 refine ⟨fun F => ?_,Zt⟩
 exact WL.s0 (d_store q q q q q q s50 q q) (Zw q) q (WL.done0 q q)
 refine ⟨fun F => ?_,Zt⟩
 exact WL.s0 (d_store q q q q q q s47 q q) (Zw q) q (WL.done0 q q)
 refine Rxx 2 q ?_
 obtain rfl:=Oi h
 exact we_ret_gdc (new:=(wM mI mH mO mE vo mN vu vf mS mU)) (r0:=.d (.tu [.ag (R41 (Regs.mk z83.1 z83.2.1 z83.2.2.1 z83.2.2.2)),.sl (List.map E58 ([] : List Act)),.i .i64 0])) hD1 (tryD_ret) (rs3 q (rv_cN q q a41 s41 q) (rv_c q q a50 q) (rv_c q q a47 q)) (Le.tud ⟨(Le.agd (Zs _)),Zl,Zl,Zt⟩) q ⟨Zp,Zf,Zf,Zf,Zt⟩ ⟨q,q⟩
 obtain ⟨z9,hz,_⟩:=hS
 cases hz
 dsimp only [Rs.cs] at h
 refine WLP.wing [7,0,1,2,3,8] q q q q (f58_c _ _ _ _ _ _ _ _ _ _ _ _ _ hr82) ⟨Zl,Zl,Zt⟩ q (by decide) (Re (Re (Rg (Rf (Ro (Ro q)))))) ⟨q,q,q,q,q,q,Zt⟩ Kv q (Zw q) q q (fun r' new hS => ?_) (fun c new hS => ?_)
 obtain ⟨z9,hz,_⟩:=hS
 cases hz
 obtain ⟨z9,hz,rfl,rfl⟩:=hS
 obtain rfl:=Rs.bad.inj hz
 refine ⟨_,(Re (Re (Rg (Rf (Ro (Re q)))))),Kv,?_⟩
 refine WE.sto (st':=[.row 90 (mR mI mH mO mE 1 vo mN 3 vu),.os 42 1 vo (famE 2 vf (List.length mS)),.fam 2 1 vf (famM E2 mS),.os 2 1 vu (eM E2 mU),.row 41 n19,.row 50 [sN],.row 47 [.n 0],.dead,.dead]) q (we_seq_pan ?_)
 obtain rfl:=Oi h
 exact we_pan_gdc (new:=(wM mI mH mO mE vo mN vu vf mS mU)) (r0:=.d (.tu [.ag (R41 (Regs.mk (fun j => 0) 0 0 0)),.sl (List.map E58 []),.i .i64 e84])) hD1 (DSp.win [4,5,6] (tryD_pan (e:=e84)) ⟨Zl,Zl,Zl,Zt⟩ q (by decide) q ⟨q,q,q,Zt⟩ q q q q q (st':=[.row 90 (mR mI mH mO mE 1 vo mN 3 vu),.os 42 1 vo (famE 2 vf (List.length mS)),.fam 2 1 vf (famM E2 mS),.os 2 1 vu (eM E2 mU),.row 41 n19,.row 50 [sN],.row 47 [.n e84],.dead,.dead]) q) q (rs3 q (rv_cN q q a41 s41 q) (rv_c q q a50 q) (rv_c q q a47 q)) (Le.tud ⟨(Le.agd (Zs _)),Le.nil,Zl,Zt⟩) q ⟨Zp,Zf,Zf,Zf,Zt⟩ ⟨q,q⟩

theorem f11_c (mI : List Insn) (mH : List MHandler) (mO : List Obj) (mE : Int) (mN : List Int) (mS : List (List Int)) (mU : List Int) (r1 : Regs) {vo : Nat} {vf : Nat} {vu : Nat} {r : Regs × (List Act) × Int × (List Int) × (List (List Int)) × (List Int)} (h : f11 mI mH mO mE mN mS mU r1 = some r) : Ctr Tryz.prog 11 [.pt 0 0,.d (.ag (R41 r1))] (wM mI mH mO mE vo mN vu vf mS mU) (WinG 4 (fun r' new => ∃ i2 i3 : Nat,r' = .d (.tu [.ag (R41 r.1),.sl (List.map E58 r.2.1),.i .i64 r.2.2.1]) ∧ new = [.row 90 (mR mI mH mO mE 1 vo r.2.2.2.1 3 i3),.os 42 1 vo (famE 2 i2 (List.length r.2.2.2.2.1)),.fam 2 1 i2 (famM E2 r.2.2.2.2.1),.os 2 1 i3 (eM E2 r.2.2.2.2.2)])):=by
 unfold f11 at h
 refine ctr_intro Tryz.func11 (by kernel_rfl) q q q (fun mm φφ ww hmm => ?_)
 refine Rcl 2 q (Bd q q (Zs _) q (Al z41 q (Rll 8 q ?_)))
 obtain ⟨r16,hr16,h⟩:=bindS h
 refine WL.wing [0,1,2,3] q q q q (f44_45_c _ _ _ _ _ _ _ _ _ hr16) ⟨Zl,Zl,Zl,Zl,Zt⟩ q (by decide) (Re (Rg (Rf (Ro q)))) ⟨q,q,q,q,Zt⟩ Kv q (Zw q) q q (fun r' new hS => ?_)
 obtain ⟨i2_17,i3_17,rfl,rfl⟩:=hS
 refine ⟨_,_,q,(Re (Rg (Rf (Ro q)))),q,Kv,?_⟩
 refine St q (Rl 3 q (WL.s0 (d_store q q q q q q s41 q q) (Zw q) q (St q (Rlx 5 q ?_))))
 obtain rfl:=Oi h
 exact we_ret_g (new:=[.row 90 (mR mI mH mO mE 1 vo r16.2.2.2.1 3 i3_17),.os 42 1 vo (famE 2 i2_17 (List.length r16.2.2.2.2.1)),.fam 2 1 i2_17 (famM E2 r16.2.2.2.2.1),.os 2 1 i3_17 (eM E2 r16.2.2.2.2.2)]) (r0:=.d (.tu [.ag (R41 r16.1),.sl (List.map E58 r16.2.1),.i .i64 r16.2.2.1])) (rs3 q (rv_cN q q a41 s41 q) (rv_t q) (rv_t q)) (Le.tud ⟨(Le.agd (Zs _)),Zl,Zl,Zt⟩) q ⟨Zp,Zf,Zf,Zf,Zt⟩ ⟨i2_17,i3_17,q,q⟩

theorem f20_c (mI : List Insn) (mH : List MHandler) (mO : List Obj) (mE : Int) (mN : List Int) (mS : List (List Int)) (mU : List Int) (r1 : Regs) (n2 : Int) {vo : Nat} {vf : Nat} {vu : Nat} {r : Regs × (List Act) × Int} (h : f20 mI mH mO mE mN mS mU r1 n2 = some r) : Ctr Tryz.prog 20 [.pt 0 0,.d (.ag (R41 r1)),.n n2] (wM mI mH mO mE vo mN vu vf mS mU) (WinG 4 (fun r' new => r' = .d (.tu [.ag (R41 r.1),.sl (List.map E58 r.2.1),.i .i64 r.2.2]) ∧ new = (wM mI mH mO mE vo mN vu vf mS mU))):=by
 unfold f20 at h
 refine ctr_intro Tryz.func20 (by kernel_rfl) q q q (fun mm φφ ww hmm => ?_)
 refine Rcl 2 q (Bd q q (Zs _) q (WL.s ((b_boxd q q (by exact (show Les [.n n2] (List.map AV.d [.i .i64 n2]) from ⟨Zl,Zt⟩))).does) (Zw q) q q (Al z41 q (Rlc 4 q (Jn6 (fun t35 t36 _ _ _ _ => [(6,.pt 4 0),(7,.l E58 t35),(8,.n t36)]) (fun _ _ c4037 c41638 c41739 c41840 => [.row 90 (mR mI mH mO mE 1 vo mN 3 vu),.os 42 1 vo (famE 2 vf (List.length mS)),.fam 2 1 vf (famM E2 mS),.os 2 1 vu (eM E2 mU),.row 41 (vecA 16 (fun j => .n (c4037 j)) ++ ([.n c41638,.n c41739,.n c41840] : List AV))]) h (fun _ h => ?_) (fun t35 t36 c4037 c41638 c41739 c41840 h => ?_))))))
 rcases boolCases (decide (n2 ≥ 1)) with hb3 | hb3
 replace h:=condT h hb3
 obtain ⟨r42,hr42,h⟩:=bindS h
 rcases boolCases (!r42) with hb4 | hb4
 replace h:=condT h hb4
 obtain ⟨r44,hr44,h⟩:=bindS h
 apply RT [_,_,_,_,_,_,_,_,_,_,_,_,_,_,_,_,_,_,_,_,_,_,.u,_,_] [22] [[.row 90 (mR mI mH mO mE 1 vo mN 3 vu),.os 42 1 vo (famE 2 vf (List.length mS)),.fam 2 1 vf (famM E2 mS),.os 2 1 vu (eM E2 mU),.row 41 (vecA 16 (fun j => .n (r44.1.r j)) ++ ([.n r44.1.pc,.n r44.1.exc,.n r44.1.defer] : List AV))]] [([],[0],[0]),([],[4],[0]),([],[5],[0]),([2],[],[0]),([3],[],[0]),([4],[0],[0]),([5,4],[],[0]),([6,4],[],[0]),([4,7],[],[0]),([8],[],[0]),([9],[5],[0]),([9],[0],[0]),([11,9],[],[0]),([12,9],[],[0]),([13,9],[],[0]),([10,14,9],[],[0]),([9,15],[],[0]),([],[5],[0]),([0,1,16,17],[],[0]),([18],[],[0]),([18],[],[0]),([18],[],[0]),([19],[6],[0]),([20],[],[1]),([21],[],[1])] (by kernel_rfl) (by kernel_rfl) q q
 refine ⟨?_,?_,?_,?_,?_,?_,?_,?_,?_,?_,?_,?_,?_,?_,?_,?_,?_,?_,?_,?_,?_,?_,?_,?_,?_,Zt⟩
 exact O1 q (fun _ => q) q q
 exact O1 q (fun _ => q) q q
 exact O1 q (fun _ => q) q q
 exact O1 q (fun _ => q) q q
 refine ⟨fun F => ?_,Zt⟩
 exact Rl 1 q (WL.cast 13 q (Le.ofd (Cb hb3)) (WL.done2 q q q))
 exact O1 q (fun _ => q) q q
 refine ⟨fun F => ?_,Zt⟩
 refine WL.wing [0,1,2,3] q q q q (f47_c _ _ _ _ _ _ _ hr42) ⟨Zl,Zt⟩ q (by decide) (Re (Rg (Rf (Ro q)))) ⟨q,q,q,q,Zt⟩ Kv q (Wt.yes q q q) q q (fun r' new hS => ?_)
 obtain ⟨rfl,rfl⟩:=hS
 refine ⟨_,_,q,(Re (Rg (Rf (Ro q)))),q,Kv,?_⟩
 exact Zd q q q
 exact O1 q (fun _ => q) q q
 exact O1 q (fun _ => q) q q
 refine ⟨fun F => ?_,Zt⟩
 exact Rl 1 q (WL.cast 18 q (Le.ofd (Cb hb4)) (WL.done2 q q q))
 exact O1 q (fun _ => q) q q
 exact O1 q (fun _ => q) q q
 exact O1 q (fun _ => q) q q
 exact O1 q (fun _ => q) q q
 exact O1 q (fun _ => q) q q
 exact O1 q (fun _ => q) q q
 exact O1 q (fun _ => q) q q
 exact O1 q (fun _ => q) q q
 refine ⟨fun F => ?_,Zt⟩
 refine WL.wing [0,1,2,3] q q q q (f44_55_c _ _ _ _ _ _ _ _ _ _ hr44) ⟨Zl,Zl,Zl,Zl,Zt⟩ q (by decide) (Re (Rg (Rf (Ro q)))) ⟨q,q,q,q,Zt⟩ Kv q (Zw q) q q (fun r' new hS => ?_)
 obtain ⟨rfl,rfl⟩:=hS
 refine ⟨_,_,q,(Re (Rg (Rf (Ro q)))),q,Kv,?_⟩
 exact Zd q q q
 exact O1 q (fun _ => q) q q
 exact O1 q (fun _ => q) q q
 exact O1 q (fun _ => q) q q
 refine ⟨fun F => ?_,Zt⟩
 exact WL.s0 (d_store q q q q q q s41 q q) (Zw q) q (WL.done0 q q)
 exact O1 q (fun _ => q) q q
 exact O1 q (fun _ => q) q q
 exact En6 h
 replace h:=condF h hb4
 obtain ⟨r46,hr46,h⟩:=bindS h
 apply RT [_,_,_,_,_,_,_,_,_,_,_,_,_,_,_,_,_,_,_,_,_,_,.u,_,_] [22] [[.row 90 (mR mI mH mO mE 1 vo mN 3 vu),.os 42 1 vo (famE 2 vf (List.length mS)),.fam 2 1 vf (famM E2 mS),.os 2 1 vu (eM E2 mU),.row 41 (vecA 16 (fun j => .n (r46.1.r j)) ++ ([.n r46.1.pc,.n r46.1.exc,.n r46.1.defer] : List AV))]] [([],[0],[0]),([],[4],[0]),([],[5],[0]),([2],[],[0]),([3],[],[0]),([4],[0],[0]),([5,4],[],[0]),([6,4],[],[0]),([4,7],[],[0]),([8],[],[0]),([9],[],[0]),([9],[],[0]),([9],[],[0]),([9],[],[0]),([9],[],[0]),([9],[],[0]),([9,15],[],[0]),([],[5],[0]),([0,1,16,17],[],[0]),([18],[],[0]),([18],[],[0]),([18],[],[0]),([19],[6],[0]),([20],[],[1]),([21],[],[1])] (by kernel_rfl) (by kernel_rfl) q q
 refine ⟨?_,?_,?_,?_,?_,?_,?_,?_,?_,?_,?_,?_,?_,?_,?_,?_,?_,?_,?_,?_,?_,?_,?_,?_,?_,Zt⟩
 exact O1 q (fun _ => q) q q
 exact O1 q (fun _ => q) q q
 exact O1 q (fun _ => q) q q
 exact O1 q (fun _ => q) q q
 refine ⟨fun F => ?_,Zt⟩
 exact Rl 1 q (WL.cast 13 q (Le.ofd (Cb hb3)) (WL.done2 q q q))
 exact O1 q (fun _ => q) q q
 refine ⟨fun F => ?_,Zt⟩
 refine WL.wing [0,1,2,3] q q q q (f47_c _ _ _ _ _ _ _ hr42) ⟨Zl,Zt⟩ q (by decide) (Re (Rg (Rf (Ro q)))) ⟨q,q,q,q,Zt⟩ Kv q (Wt.yes q q q) q q (fun r' new hS => ?_)
 obtain ⟨rfl,rfl⟩:=hS
 refine ⟨_,_,q,(Re (Rg (Rf (Ro q)))),q,Kv,?_⟩
 exact Zd q q q
 exact O1 q (fun _ => q) q q
 exact O1 q (fun _ => q) q q
 refine ⟨fun F => ?_,Zt⟩
 exact Rl 1 q (WL.cast 18 q (Le.ofd (Cb hb4)) (WL.done2 q q q))
 exact O1 q (fun _ => q) q q
 exact O1 q (fun _ => q) q q
 exact O1 q (fun _ => q) q q
 exact O1 q (fun _ => q) q q
 exact O1 q (fun _ => q) q q
 exact O1 q (fun _ => q) q q
 exact O1 q (fun _ => q) q q
 exact O1 q (fun _ => q) q q
 refine ⟨fun F => ?_,Zt⟩
 refine WL.wing [0,1,2,3] q q q q (f44_55_c _ _ _ _ _ _ _ _ _ _ hr46) ⟨Zl,Zl,Zl,Zl,Zt⟩ q (by decide) (Re (Rg (Rf (Ro q)))) ⟨q,q,q,q,Zt⟩ Kv q (Zw q) q q (fun r' new hS => ?_)
 obtain ⟨rfl,rfl⟩:=hS
 refine ⟨_,_,q,(Re (Rg (Rf (Ro q)))),q,Kv,?_⟩
 exact Zd q q q
 exact O1 q (fun _ => q) q q
 exact O1 q (fun _ => q) q q
 exact O1 q (fun _ => q) q q
 refine ⟨fun F => ?_,Zt⟩
 exact WL.s0 (d_store q q q q q q s41 q q) (Zw q) q (WL.done0 q q)
 exact O1 q (fun _ => q) q q
 exact O1 q (fun _ => q) q q
 exact En6 h
 replace h:=condF h hb3
 obtain ⟨r48,hr48,h⟩:=bindS h
 apply RT [_,_,_,_,_,_,_,_,_,_,_,_,_,_,_,_,_,_,_,_,_,_,.u,_,_] [22] [[.row 90 (mR mI mH mO mE 1 vo mN 3 vu),.os 42 1 vo (famE 2 vf (List.length mS)),.fam 2 1 vf (famM E2 mS),.os 2 1 vu (eM E2 mU),.row 41 (vecA 16 (fun j => .n (r48.1.r j)) ++ ([.n r48.1.pc,.n r48.1.exc,.n r48.1.defer] : List AV))]] [([],[0],[0]),([],[4],[0]),([],[5],[0]),([2],[],[0]),([3],[],[0]),([4],[],[0]),([4],[],[0]),([4],[],[0]),([4,7],[],[0]),([8],[],[0]),([9],[],[0]),([9],[],[0]),([9],[],[0]),([9],[],[0]),([9],[],[0]),([9],[],[0]),([9,15],[],[0]),([],[5],[0]),([0,1,16,17],[],[0]),([18],[],[0]),([18],[],[0]),([18],[],[0]),([19],[6],[0]),([20],[],[1]),([21],[],[1])] (by kernel_rfl) (by kernel_rfl) q q
 refine ⟨?_,?_,?_,?_,?_,?_,?_,?_,?_,?_,?_,?_,?_,?_,?_,?_,?_,?_,?_,?_,?_,?_,?_,?_,?_,Zt⟩
 exact O1 q (fun _ => q) q q
 exact O1 q (fun _ => q) q q
 exact O1 q (fun _ => q) q q
 exact O1 q (fun _ => q) q q
 refine ⟨fun F => ?_,Zt⟩
 exact Rl 1 q (WL.cast 13 q (Le.ofd (Cb hb3)) (WL.done2 q q q))
 exact O1 q (fun _ => q) q q
 exact O1 q (fun _ => q) q q
 exact O1 q (fun _ => q) q q
 exact O1 q (fun _ => q) q q
 exact O1 q (fun _ => q) q q
 exact O1 q (fun _ => q) q q
 exact O1 q (fun _ => q) q q
 exact O1 q (fun _ => q) q q
 exact O1 q (fun _ => q) q q
 exact O1 q (fun _ => q) q q
 exact O1 q (fun _ => q) q q
 exact O1 q (fun _ => q) q q
 exact O1 q (fun _ => q) q q
 refine ⟨fun F => ?_,Zt⟩
 refine WL.wing [0,1,2,3] q q q q (f44_55_c _ _ _ _ _ _ _ _ _ _ hr48) ⟨Zl,Zl,Zl,Zl,Zt⟩ q (by decide) (Re (Rg (Rf (Ro q)))) ⟨q,q,q,q,Zt⟩ Kv q (Zw q) q q (fun r' new hS => ?_)
 obtain ⟨rfl,rfl⟩:=hS
 refine ⟨_,_,q,(Re (Rg (Rf (Ro q)))),q,Kv,?_⟩
 exact Zd q q q
 exact O1 q (fun _ => q) q q
 exact O1 q (fun _ => q) q q
 exact O1 q (fun _ => q) q q
 refine ⟨fun F => ?_,Zt⟩
 exact WL.s0 (d_store q q q q q q s41 q q) (Zw q) q (WL.done0 q q)
 exact O1 q (fun _ => q) q q
 exact O1 q (fun _ => q) q q
 exact En6 h
 refine Rcx 1 q ?_
 obtain rfl:=Oi h
 exact we_ret_g (new:=(wM mI mH mO mE vo mN vu vf mS mU)) (r0:=.d (.tu [.ag (R41 (Regs.mk c4037 c41638 c41739 c41840)),.sl (List.map E58 t35),.i .i64 t36])) (rs3 q (rv_cN q q a41 s41 q) (rv_t q) (rv_t q)) (Le.tud ⟨(Le.agd (Zs _)),Zl,Zl,Zt⟩) q ⟨Zp,Zf,Zf,Zf,Zt⟩ ⟨q,q⟩

theorem f22_c (mI : List Insn) (mH : List MHandler) (mO : List Obj) (mE : Int) (mN : List Int) (mS : List (List Int)) (mU : List Int) (r1 : Regs) (c2 : Int) {vo : Nat} {vf : Nat} {vu : Nat} {r : Regs × Int} (h : f22 mI mH mO mE mN mS mU r1 c2 = some r) : Ctr Tryz.prog 22 [.pt 0 0,.d (.ag (R41 r1)),.n c2] (wM mI mH mO mE vo mN vu vf mS mU) (WinG 4 (fun r' new => r' = .d (.tu [.ag (R41 r.1),.i .i64 r.2]) ∧ new = (wM mI mH mO mE vo mN vu vf mS mU))):=by
 unfold f22 at h
 refine ctr_intro Tryz.func22 (by kernel_rfl) q q q (fun mm φφ ww hmm => ?_)
 refine Rcl 2 q (Bd q q (Zs _) q (WL.s ((b_boxd q q (by exact (show Les [.n c2] (List.map AV.d [.i .i64 c2]) from ⟨Zl,Zt⟩))).does) (Zw q) q q (Al z41 q (Rlc 3 q (Jn5 (fun e44 _ _ _ _ => [(6,.pt 4 0),(8,.pt 5 0),(10,.n e44)]) (fun _ c5045 c51646 c51747 c51848 => [.row 90 (mR mI mH mO mE 1 vo mN 3 vu),.os 42 1 vo (famE 2 vf (List.length mS)),.fam 2 1 vf (famM E2 mS),.os 2 1 vu (eM E2 mU),.row 41 n19,.row 41 (vecA 16 (fun j => .n (c5045 j)) ++ ([.n c51646,.n c51747,.n c51848] : List AV))]) h (fun _ h => ?_) (fun e44 c5045 c51646 c51747 c51848 h => ?_))))))
 rcases boolCases (decide (c2 ≥ (-2))) with hb4 | hb4
 replace h:=condT h hb4
 rcases boolCases (!decide (c2 = 0)) with hb5 | hb5
 replace h:=condT h hb5
 obtain ⟨r50,hr50,h⟩:=bindS h
 rcases boolCases (!r50) with hb6 | hb6
 replace h:=condT h hb6
 obtain ⟨r52,hr52,h⟩:=bindS h
 apply RT [_,_,_,_,_,_,_,_,_,_,_,_,_,_,_,_,_,_,_,_,_,_,_,_,_,_,_,_,.u,_,_] [27,28] [[.row 90 (mR mI mH mO mE 1 vo mN 3 vu),.os 42 1 vo (famE 2 vf (List.length mS)),.fam 2 1 vf (famM E2 mS),.os 2 1 vu (eM E2 mU),.row 41 n19,.row 41 n19],[.row 90 (mR mI mH mO mE 1 vo mN 3 vu),.os 42 1 vo (famE 2 vf (List.length mS)),.fam 2 1 vf (famM E2 mS),.os 2 1 vu (eM E2 mU),.row 41 n19,.row 41 (vecA 16 (fun j => .n (r52.1.r j)) ++ ([.n r52.1.pc,.n r52.1.exc,.n r52.1.defer] : List AV))]] [([],[0],[0,1]),([],[4],[0,1]),([],[5],[0,1]),([2],[],[0,1]),([3],[],[0,1]),([4],[5],[0,1]),([5,4],[],[0,1]),([4,6],[],[0,1]),([7],[],[0,1]),([8],[0],[0,1]),([9,8],[],[0,1]),([10,8],[],[0,1]),([8,11],[],[0,1]),([12],[],[0,1]),([13],[5],[0,1]),([13],[0],[0,1]),([15,13],[],[0,1]),([16,13],[],[0,1]),([17,13],[],[0,1]),([14,18,13],[],[0,1]),([13,19],[],[0,1]),([],[5],[0,1]),([0,1,20,21],[],[0,1]),([22],[],[0,1]),([23],[],[0,1]),([23],[],[0,1,2]),([23],[],[0,1,2]),([],[],[0]),([27,24],[],[1]),([25],[],[2]),([26],[],[2])] (by kernel_rfl) (by kernel_rfl) q q
 refine ⟨?_,?_,?_,?_,?_,?_,?_,?_,?_,?_,?_,?_,?_,?_,?_,?_,?_,?_,?_,?_,?_,?_,?_,?_,?_,?_,?_,?_,?_,?_,?_,Zt⟩
 exact ⟨O2 q (fun _ => q) q q,O2 q (fun _ => q) q q,Zt⟩
 exact ⟨O2 q (fun _ => q) q q,O2 q (fun _ => q) q q,Zt⟩
 exact ⟨O2 q (fun _ => q) q q,O2 q (fun _ => q) q q,Zt⟩
 exact ⟨O2 q (fun _ => q) q q,O2 q (fun _ => q) q q,Zt⟩
 refine ⟨fun F => ?_,fun F => ?_,Zt⟩
 exact Rl 1 q (WL.cast 16 q (Le.ofd (Cb hb4)) (WL.done2 q q q))
 exact Rl 1 q (WL.cast 16 q (Le.ofd (Cb hb4)) (WL.done2 q q q))
 exact ⟨O2 q (fun _ => q) q q,O2 q (fun _ => q) q q,Zt⟩
 exact ⟨O2 q (fun _ => q) q q,O2 q (fun _ => q) q q,Zt⟩
 exact ⟨O2 q (fun _ => q) q q,O2 q (fun _ => q) q q,Zt⟩
 refine ⟨fun F => ?_,fun F => ?_,Zt⟩
 exact Rl 1 q (WL.cast 20 q (Le.ofd (Cb hb5)) (WL.done2 q q q))
 exact Rl 1 q (WL.cast 20 q (Le.ofd (Cb hb5)) (WL.done2 q q q))
 exact ⟨O2 q (fun _ => q) q q,O2 q (fun _ => q) q q,Zt⟩
 refine ⟨fun F => ?_,fun F => ?_,Zt⟩
 refine WL.wing [0,1,2,3] q q q q (f47_c _ _ _ _ _ _ _ hr50) ⟨Zl,Zt⟩ q (by decide) (Re (Rg (Rf (Ro q)))) ⟨q,q,q,q,Zt⟩ Kv q (Wt.yes q q q) q q (fun r' new hS => ?_)
 obtain ⟨rfl,rfl⟩:=hS
 refine ⟨_,_,q,(Re (Rg (Rf (Ro q)))),q,Kv,?_⟩
 exact Zd q q q
 refine WL.wing [0,1,2,3] q q q q (f47_c _ _ _ _ _ _ _ hr50) ⟨Zl,Zt⟩ q (by decide) (Re (Rg (Rf (Ro q)))) ⟨q,q,q,q,Zt⟩ Kv q (Wt.yes q q q) q q (fun r' new hS => ?_)
 obtain ⟨rfl,rfl⟩:=hS
 refine ⟨_,_,q,(Re (Rg (Rf (Ro q)))),q,Kv,?_⟩
 exact Zd q q q
 exact ⟨O2 q (fun _ => q) q q,O2 q (fun _ => q) q q,Zt⟩
 exact ⟨O2 q (fun _ => q) q q,O2 q (fun _ => q) q q,Zt⟩
 refine ⟨fun F => ?_,fun F => ?_,Zt⟩
 exact Rl 1 q (WL.cast 25 q (Le.ofd (Cb hb6)) (WL.done2 q q q))
 exact Rl 1 q (WL.cast 25 q (Le.ofd (Cb hb6)) (WL.done2 q q q))
 exact ⟨O2 q (fun _ => q) q q,O2 q (fun _ => q) q q,Zt⟩
 exact ⟨O2 q (fun _ => q) q q,O2 q (fun _ => q) q q,Zt⟩
 exact ⟨O2 q (fun _ => q) q q,O2 q (fun _ => q) q q,Zt⟩
 exact ⟨O2 q (fun _ => q) q q,O2 q (fun _ => q) q q,Zt⟩
 exact ⟨O2 q (fun _ => q) q q,O2 q (fun _ => q) q q,Zt⟩
 exact ⟨O2 q (fun _ => q) q q,O2 q (fun _ => q) q q,Zt⟩
 exact ⟨O2 q (fun _ => q) q q,O2 q (fun _ => q) q q,Zt⟩
 exact ⟨O2 q (fun _ => q) q q,O2 q (fun _ => q) q q,Zt⟩
 refine ⟨fun F => ?_,fun F => ?_,Zt⟩
 refine WL.wing [0,1,2,3] q q q q (f44_58_c _ _ _ _ _ _ _ _ _ _ hr52) ⟨Zl,Zl,Zl,Zl,Zt⟩ q (by decide) (Re (Rg (Rf (Ro q)))) ⟨q,q,q,q,Zt⟩ Kv q (Zw q) q q (fun r' new hS => ?_)
 obtain ⟨rfl,rfl⟩:=hS
 refine ⟨_,_,q,(Re (Rg (Rf (Ro q)))),q,Kv,?_⟩
 exact Zd q q q
 refine WL.wing [0,1,2,3] q q q q (f44_58_c _ _ _ _ _ _ _ _ _ _ hr52) ⟨Zl,Zl,Zl,Zl,Zt⟩ q (by decide) (Re (Rg (Rf (Ro q)))) ⟨q,q,q,q,Zt⟩ Kv q (Zw q) q q (fun r' new hS => ?_)
 obtain ⟨rfl,rfl⟩:=hS
 refine ⟨_,_,q,(Re (Rg (Rf (Ro q)))),q,Kv,?_⟩
 exact Zd q q q
 exact ⟨O2 q (fun _ => q) q q,O2 q (fun _ => q) q q,Zt⟩
 exact ⟨O2 q (fun _ => q) q q,O2 q (fun _ => q) q q,Zt⟩
 exact ⟨O2 q (fun _ => q) q q,O2 q (fun _ => q) q q,O2 q (fun _ => q) q q,Zt⟩
 exact ⟨O2 q (fun _ => q) q q,O2 q (fun _ => q) q q,O2 q (fun _ => q) q q,Zt⟩
 refine ⟨fun F => ?_,Zt⟩
 exact Al z41 q (Zd q q q)
 refine ⟨fun F => ?_,Zt⟩
 exact WL.s0 (d_store q q q q q q s41 q q) (Zw q) q (WL.done0 q q)
 exact O1 q (fun _ => q) q q
 exact O1 q (fun _ => q) q q
 exact En5 h
 replace h:=condF h hb6
 obtain ⟨r54,hr54,h⟩:=bindS h
 apply RT [_,_,_,_,_,_,_,_,_,_,_,_,_,_,_,_,_,_,_,_,_,_,_,_,_,_,_,_,.u,_,_] [27,28] [[.row 90 (mR mI mH mO mE 1 vo mN 3 vu),.os 42 1 vo (famE 2 vf (List.length mS)),.fam 2 1 vf (famM E2 mS),.os 2 1 vu (eM E2 mU),.row 41 n19,.row 41 n19],[.row 90 (mR mI mH mO mE 1 vo mN 3 vu),.os 42 1 vo (famE 2 vf (List.length mS)),.fam 2 1 vf (famM E2 mS),.os 2 1 vu (eM E2 mU),.row 41 n19,.row 41 (vecA 16 (fun j => .n (r54.1.r j)) ++ ([.n r54.1.pc,.n r54.1.exc,.n r54.1.defer] : List AV))]] [([],[0],[0,1]),([],[4],[0,1]),([],[5],[0,1]),([2],[],[0,1]),([3],[],[0,1]),([4],[5],[0,1]),([5,4],[],[0,1]),([4,6],[],[0,1]),([7],[],[0,1]),([8],[0],[0,1]),([9,8],[],[0,1]),([10,8],[],[0,1]),([8,11],[],[0,1]),([12],[],[0,1]),([13],[],[0,1]),([13],[],[0,1]),([13],[],[0,1]),([13],[],[0,1]),([13],[],[0,1]),([13],[],[0,1]),([13,19],[],[0,1]),([],[5],[0,1]),([0,1,20,21],[],[0,1]),([22],[],[0,1]),([23],[],[0,1]),([23],[],[0,1,2]),([23],[],[0,1,2]),([],[],[0]),([27,24],[],[1]),([25],[],[2]),([26],[],[2])] (by kernel_rfl) (by kernel_rfl) q q
 refine ⟨?_,?_,?_,?_,?_,?_,?_,?_,?_,?_,?_,?_,?_,?_,?_,?_,?_,?_,?_,?_,?_,?_,?_,?_,?_,?_,?_,?_,?_,?_,?_,Zt⟩
 exact ⟨O2 q (fun _ => q) q q,O2 q (fun _ => q) q q,Zt⟩
 exact ⟨O2 q (fun _ => q) q q,O2 q (fun _ => q) q q,Zt⟩
 exact ⟨O2 q (fun _ => q) q q,O2 q (fun _ => q) q q,Zt⟩
 exact ⟨O2 q (fun _ => q) q q,O2 q (fun _ => q) q q,Zt⟩
 refine ⟨fun F => ?_,fun F => ?_,Zt⟩
 exact Rl 1 q (WL.cast 16 q (Le.ofd (Cb hb4)) (WL.done2 q q q))
 exact Rl 1 q (WL.cast 16 q (Le.ofd (Cb hb4)) (WL.done2 q q q))
 exact ⟨O2 q (fun _ => q) q q,O2 q (fun _ => q) q q,Zt⟩
 exact ⟨O2 q (fun _ => q) q q,O2 q (fun _ => q) q q,Zt⟩
 exact ⟨O2 q (fun _ => q) q q,O2 q (fun _ => q) q q,Zt⟩
 refine ⟨fun F => ?_,fun F => ?_,Zt⟩
 exact Rl 1 q (WL.cast 20 q (Le.ofd (Cb hb5)) (WL.done2 q q q))
 exact Rl 1 q (WL.cast 20 q (Le.ofd (Cb hb5)) (WL.done2 q q q))
 exact ⟨O2 q (fun _ => q) q q,O2 q (fun _ => q) q q,Zt⟩
 refine ⟨fun F => ?_,fun F => ?_,Zt⟩
 refine WL.wing [0,1,2,3] q q q q (f47_c _ _ _ _ _ _ _ hr50) ⟨Zl,Zt⟩ q (by decide) (Re (Rg (Rf (Ro q)))) ⟨q,q,q,q,Zt⟩ Kv q (Wt.yes q q q) q q (fun r' new hS => ?_)
 obtain ⟨rfl,rfl⟩:=hS
 refine ⟨_,_,q,(Re (Rg (Rf (Ro q)))),q,Kv,?_⟩
 exact Zd q q q
 refine WL.wing [0,1,2,3] q q q q (f47_c _ _ _ _ _ _ _ hr50) ⟨Zl,Zt⟩ q (by decide) (Re (Rg (Rf (Ro q)))) ⟨q,q,q,q,Zt⟩ Kv q (Wt.yes q q q) q q (fun r' new hS => ?_)
 obtain ⟨rfl,rfl⟩:=hS
 refine ⟨_,_,q,(Re (Rg (Rf (Ro q)))),q,Kv,?_⟩
 exact Zd q q q
 exact ⟨O2 q (fun _ => q) q q,O2 q (fun _ => q) q q,Zt⟩
 exact ⟨O2 q (fun _ => q) q q,O2 q (fun _ => q) q q,Zt⟩
 refine ⟨fun F => ?_,fun F => ?_,Zt⟩
 exact Rl 1 q (WL.cast 25 q (Le.ofd (Cb hb6)) (WL.done2 q q q))
 exact Rl 1 q (WL.cast 25 q (Le.ofd (Cb hb6)) (WL.done2 q q q))
 exact ⟨O2 q (fun _ => q) q q,O2 q (fun _ => q) q q,Zt⟩
 exact ⟨O2 q (fun _ => q) q q,O2 q (fun _ => q) q q,Zt⟩
 exact ⟨O2 q (fun _ => q) q q,O2 q (fun _ => q) q q,Zt⟩
 exact ⟨O2 q (fun _ => q) q q,O2 q (fun _ => q) q q,Zt⟩
 exact ⟨O2 q (fun _ => q) q q,O2 q (fun _ => q) q q,Zt⟩
 exact ⟨O2 q (fun _ => q) q q,O2 q (fun _ => q) q q,Zt⟩
 exact ⟨O2 q (fun _ => q) q q,O2 q (fun _ => q) q q,Zt⟩
 exact ⟨O2 q (fun _ => q) q q,O2 q (fun _ => q) q q,Zt⟩
 refine ⟨fun F => ?_,fun F => ?_,Zt⟩
 refine WL.wing [0,1,2,3] q q q q (f44_58_c _ _ _ _ _ _ _ _ _ _ hr54) ⟨Zl,Zl,Zl,Zl,Zt⟩ q (by decide) (Re (Rg (Rf (Ro q)))) ⟨q,q,q,q,Zt⟩ Kv q (Zw q) q q (fun r' new hS => ?_)
 obtain ⟨rfl,rfl⟩:=hS
 refine ⟨_,_,q,(Re (Rg (Rf (Ro q)))),q,Kv,?_⟩
 exact Zd q q q
 refine WL.wing [0,1,2,3] q q q q (f44_58_c _ _ _ _ _ _ _ _ _ _ hr54) ⟨Zl,Zl,Zl,Zl,Zt⟩ q (by decide) (Re (Rg (Rf (Ro q)))) ⟨q,q,q,q,Zt⟩ Kv q (Zw q) q q (fun r' new hS => ?_)
 obtain ⟨rfl,rfl⟩:=hS
 refine ⟨_,_,q,(Re (Rg (Rf (Ro q)))),q,Kv,?_⟩
 exact Zd q q q
 exact ⟨O2 q (fun _ => q) q q,O2 q (fun _ => q) q q,Zt⟩
 exact ⟨O2 q (fun _ => q) q q,O2 q (fun _ => q) q q,Zt⟩
 exact ⟨O2 q (fun _ => q) q q,O2 q (fun _ => q) q q,O2 q (fun _ => q) q q,Zt⟩
 exact ⟨O2 q (fun _ => q) q q,O2 q (fun _ => q) q q,O2 q (fun _ => q) q q,Zt⟩
 refine ⟨fun F => ?_,Zt⟩
 exact Al z41 q (Zd q q q)
 refine ⟨fun F => ?_,Zt⟩
 exact WL.s0 (d_store q q q q q q s41 q q) (Zw q) q (WL.done0 q q)
 exact O1 q (fun _ => q) q q
 exact O1 q (fun _ => q) q q
 exact En5 h
 replace h:=condF h hb5
 obtain ⟨r56,hr56,h⟩:=bindS h
 apply RT [_,_,_,_,_,_,_,_,_,_,_,_,_,_,_,_,_,_,_,_,_,_,_,_,_,_,_,_,.u,_,_] [27,28] [[.row 90 (mR mI mH mO mE 1 vo mN 3 vu),.os 42 1 vo (famE 2 vf (List.length mS)),.fam 2 1 vf (famM E2 mS),.os 2 1 vu (eM E2 mU),.row 41 n19,.row 41 n19],[.row 90 (mR mI mH mO mE 1 vo mN 3 vu),.os 42 1 vo (famE 2 vf (List.length mS)),.fam 2 1 vf (famM E2 mS),.os 2 1 vu (eM E2 mU),.row 41 n19,.row 41 (vecA 16 (fun j => .n (r56.1.r j)) ++ ([.n r56.1.pc,.n r56.1.exc,.n r56.1.defer] : List AV))]] [([],[0],[0,1]),([],[4],[0,1]),([],[5],[0,1]),([2],[],[0,1]),([3],[],[0,1]),([4],[5],[0,1]),([5,4],[],[0,1]),([4,6],[],[0,1]),([7],[],[0,1]),([8],[],[0,1]),([8],[],[0,1]),([8],[],[0,1]),([8,11],[],[0,1]),([12],[],[0,1]),([13],[],[0,1]),([13],[],[0,1]),([13],[],[0,1]),([13],[],[0,1]),([13],[],[0,1]),([13],[],[0,1]),([13,19],[],[0,1]),([],[5],[0,1]),([0,1,20,21],[],[0,1]),([22],[],[0,1]),([23],[],[0,1]),([23],[],[0,1,2]),([23],[],[0,1,2]),([],[],[0]),([27,24],[],[1]),([25],[],[2]),([26],[],[2])] (by kernel_rfl) (by kernel_rfl) q q
 refine ⟨?_,?_,?_,?_,?_,?_,?_,?_,?_,?_,?_,?_,?_,?_,?_,?_,?_,?_,?_,?_,?_,?_,?_,?_,?_,?_,?_,?_,?_,?_,?_,Zt⟩
 exact ⟨O2 q (fun _ => q) q q,O2 q (fun _ => q) q q,Zt⟩
 exact ⟨O2 q (fun _ => q) q q,O2 q (fun _ => q) q q,Zt⟩
 exact ⟨O2 q (fun _ => q) q q,O2 q (fun _ => q) q q,Zt⟩
 exact ⟨O2 q (fun _ => q) q q,O2 q (fun _ => q) q q,Zt⟩
 refine ⟨fun F => ?_,fun F => ?_,Zt⟩
 exact Rl 1 q (WL.cast 16 q (Le.ofd (Cb hb4)) (WL.done2 q q q))
 exact Rl 1 q (WL.cast 16 q (Le.ofd (Cb hb4)) (WL.done2 q q q))
 exact ⟨O2 q (fun _ => q) q q,O2 q (fun _ => q) q q,Zt⟩
 exact ⟨O2 q (fun _ => q) q q,O2 q (fun _ => q) q q,Zt⟩
 exact ⟨O2 q (fun _ => q) q q,O2 q (fun _ => q) q q,Zt⟩
 refine ⟨fun F => ?_,fun F => ?_,Zt⟩
 exact Rl 1 q (WL.cast 20 q (Le.ofd (Cb hb5)) (WL.done2 q q q))
 exact Rl 1 q (WL.cast 20 q (Le.ofd (Cb hb5)) (WL.done2 q q q))
 exact ⟨O2 q (fun _ => q) q q,O2 q (fun _ => q) q q,Zt⟩
 exact ⟨O2 q (fun _ => q) q q,O2 q (fun _ => q) q q,Zt⟩
 exact ⟨O2 q (fun _ => q) q q,O2 q (fun _ => q) q q,Zt⟩
 exact ⟨O2 q (fun _ => q) q q,O2 q (fun _ => q) q q,Zt⟩
 exact ⟨O2 q (fun _ => q) q q,O2 q (fun _ => q) q q,Zt⟩
 exact ⟨O2 q (fun _ => q) q q,O2 q (fun _ => q) q q,Zt⟩
 exact ⟨O2 q (fun _ => q) q q,O2 q (fun _ => q) q q,Zt⟩
 exact ⟨O2 q (fun _ => q) q q,O2 q (fun _ => q) q q,Zt⟩
 exact ⟨O2 q (fun _ => q) q q,O2 q (fun _ => q) q q,Zt⟩
 exact ⟨O2 q (fun _ => q) q q,O2 q (fun _ => q) q q,Zt⟩
 exact ⟨O2 q (fun _ => q) q q,O2 q (fun _ => q) q q,Zt⟩
 exact ⟨O2 q (fun _ => q) q q,O2 q (fun _ => q) q q,Zt⟩
 exact ⟨O2 q (fun _ => q) q q,O2 q (fun _ => q) q q,Zt⟩
 refine ⟨fun F => ?_,fun F => ?_,Zt⟩
 refine WL.wing [0,1,2,3] q q q q (f44_58_c _ _ _ _ _ _ _ _ _ _ hr56) ⟨Zl,Zl,Zl,Zl,Zt⟩ q (by decide) (Re (Rg (Rf (Ro q)))) ⟨q,q,q,q,Zt⟩ Kv q (Zw q) q q (fun r' new hS => ?_)
 obtain ⟨rfl,rfl⟩:=hS
 refine ⟨_,_,q,(Re (Rg (Rf (Ro q)))),q,Kv,?_⟩
 exact Zd q q q
 refine WL.wing [0,1,2,3] q q q q (f44_58_c _ _ _ _ _ _ _ _ _ _ hr56) ⟨Zl,Zl,Zl,Zl,Zt⟩ q (by decide) (Re (Rg (Rf (Ro q)))) ⟨q,q,q,q,Zt⟩ Kv q (Zw q) q q (fun r' new hS => ?_)
 obtain ⟨rfl,rfl⟩:=hS
 refine ⟨_,_,q,(Re (Rg (Rf (Ro q)))),q,Kv,?_⟩
 exact Zd q q q
 exact ⟨O2 q (fun _ => q) q q,O2 q (fun _ => q) q q,Zt⟩
 exact ⟨O2 q (fun _ => q) q q,O2 q (fun _ => q) q q,Zt⟩
 exact ⟨O2 q (fun _ => q) q q,O2 q (fun _ => q) q q,O2 q (fun _ => q) q q,Zt⟩
 exact ⟨O2 q (fun _ => q) q q,O2 q (fun _ => q) q q,O2 q (fun _ => q) q q,Zt⟩
 refine ⟨fun F => ?_,Zt⟩
 exact Al z41 q (Zd q q q)
 refine ⟨fun F => ?_,Zt⟩
 exact WL.s0 (d_store q q q q q q s41 q q) (Zw q) q (WL.done0 q q)
 exact O1 q (fun _ => q) q q
 exact O1 q (fun _ => q) q q
 exact En5 h
 replace h:=condF h hb4
 obtain ⟨r58,hr58,h⟩:=bindS h
 apply RT [_,_,_,_,_,_,_,_,_,_,_,_,_,_,_,_,_,_,_,_,_,_,_,_,_,_,_,_,.u,_,_] [27,28] [[.row 90 (mR mI mH mO mE 1 vo mN 3 vu),.os 42 1 vo (famE 2 vf (List.length mS)),.fam 2 1 vf (famM E2 mS),.os 2 1 vu (eM E2 mU),.row 41 n19,.row 41 n19],[.row 90 (mR mI mH mO mE 1 vo mN 3 vu),.os 42 1 vo (famE 2 vf (List.length mS)),.fam 2 1 vf (famM E2 mS),.os 2 1 vu (eM E2 mU),.row 41 n19,.row 41 (vecA 16 (fun j => .n (r58.1.r j)) ++ ([.n r58.1.pc,.n r58.1.exc,.n r58.1.defer] : List AV))]] [([],[0],[0,1]),([],[4],[0,1]),([],[5],[0,1]),([2],[],[0,1]),([3],[],[0,1]),([4],[],[0,1]),([4],[],[0,1]),([4,6],[],[0,1]),([7],[],[0,1]),([8],[],[0,1]),([8],[],[0,1]),([8],[],[0,1]),([8,11],[],[0,1]),([12],[],[0,1]),([13],[],[0,1]),([13],[],[0,1]),([13],[],[0,1]),([13],[],[0,1]),([13],[],[0,1]),([13],[],[0,1]),([13,19],[],[0,1]),([],[5],[0,1]),([0,1,20,21],[],[0,1]),([22],[],[0,1]),([23],[],[0,1]),([23],[],[0,1,2]),([23],[],[0,1,2]),([],[],[0]),([27,24],[],[1]),([25],[],[2]),([26],[],[2])] (by kernel_rfl) (by kernel_rfl) q q
 refine ⟨?_,?_,?_,?_,?_,?_,?_,?_,?_,?_,?_,?_,?_,?_,?_,?_,?_,?_,?_,?_,?_,?_,?_,?_,?_,?_,?_,?_,?_,?_,?_,Zt⟩
 exact ⟨O2 q (fun _ => q) q q,O2 q (fun _ => q) q q,Zt⟩
 exact ⟨O2 q (fun _ => q) q q,O2 q (fun _ => q) q q,Zt⟩
 exact ⟨O2 q (fun _ => q) q q,O2 q (fun _ => q) q q,Zt⟩
 exact ⟨O2 q (fun _ => q) q q,O2 q (fun _ => q) q q,Zt⟩
 refine ⟨fun F => ?_,fun F => ?_,Zt⟩
 exact Rl 1 q (WL.cast 16 q (Le.ofd (Cb hb4)) (WL.done2 q q q))
 exact Rl 1 q (WL.cast 16 q (Le.ofd (Cb hb4)) (WL.done2 q q q))
 exact ⟨O2 q (fun _ => q) q q,O2 q (fun _ => q) q q,Zt⟩
 exact ⟨O2 q (fun _ => q) q q,O2 q (fun _ => q) q q,Zt⟩
 exact ⟨O2 q (fun _ => q) q q,O2 q (fun _ => q) q q,Zt⟩
 exact ⟨O2 q (fun _ => q) q q,O2 q (fun _ => q) q q,Zt⟩
 exact ⟨O2 q (fun _ => q) q q,O2 q (fun _ => q) q q,Zt⟩
 exact ⟨O2 q (fun _ => q) q q,O2 q (fun _ => q) q q,Zt⟩
 exact ⟨O2 q (fun _ => q) q q,O2 q (fun _ => q) q q,Zt⟩
 exact ⟨O2 q (fun _ => q) q q,O2 q (fun _ => q) q q,Zt⟩
 exact ⟨O2 q (fun _ => q) q q,O2 q (fun _ => q) q q,Zt⟩
 exact ⟨O2 q (fun _ => q) q q,O2 q (fun _ => q) q q,Zt⟩
 exact ⟨O2 q (fun _ => q) q q,O2 q (fun _ => q) q q,Zt⟩
 exact ⟨O2 q (fun _ => q) q q,O2 q (fun _ => q) q q,Zt⟩
 exact ⟨O2 q (fun _ => q) q q,O2 q (fun _ => q) q q,Zt⟩
 exact ⟨O2 q (fun _ => q) q q,O2 q (fun _ => q) q q,Zt⟩
 exact ⟨O2 q (fun _ => q) q q,O2 q (fun _ => q) q q,Zt⟩
 exact ⟨O2 q (fun _ => q) q q,O2 q (fun _ => q) q q,Zt⟩
 exact ⟨O2 q (fun _ => q) q q,O2 q (fun _ => q) q q,Zt⟩
 refine ⟨fun F => ?_,fun F => ?_,Zt⟩
 refine WL.wing [0,1,2,3] q q q q (f44_58_c _ _ _ _ _ _ _ _ _ _ hr58) ⟨Zl,Zl,Zl,Zl,Zt⟩ q (by decide) (Re (Rg (Rf (Ro q)))) ⟨q,q,q,q,Zt⟩ Kv q (Zw q) q q (fun r' new hS => ?_)
 obtain ⟨rfl,rfl⟩:=hS
 refine ⟨_,_,q,(Re (Rg (Rf (Ro q)))),q,Kv,?_⟩
 exact Zd q q q
 refine WL.wing [0,1,2,3] q q q q (f44_58_c _ _ _ _ _ _ _ _ _ _ hr58) ⟨Zl,Zl,Zl,Zl,Zt⟩ q (by decide) (Re (Rg (Rf (Ro q)))) ⟨q,q,q,q,Zt⟩ Kv q (Zw q) q q (fun r' new hS => ?_)
 obtain ⟨rfl,rfl⟩:=hS
 refine ⟨_,_,q,(Re (Rg (Rf (Ro q)))),q,Kv,?_⟩
 exact Zd q q q
 exact ⟨O2 q (fun _ => q) q q,O2 q (fun _ => q) q q,Zt⟩
 exact ⟨O2 q (fun _ => q) q q,O2 q (fun _ => q) q q,Zt⟩
 exact ⟨O2 q (fun _ => q) q q,O2 q (fun _ => q) q q,O2 q (fun _ => q) q q,Zt⟩
 exact ⟨O2 q (fun _ => q) q q,O2 q (fun _ => q) q q,O2 q (fun _ => q) q q,Zt⟩
 refine ⟨fun F => ?_,Zt⟩
 exact Al z41 q (Zd q q q)
 refine ⟨fun F => ?_,Zt⟩
 exact WL.s0 (d_store q q q q q q s41 q q) (Zw q) q (WL.done0 q q)
 exact O1 q (fun _ => q) q q
 exact O1 q (fun _ => q) q q
 exact En5 h
 refine Rcl 4 q (WL.s0 (d_store q q q q q q s41 q q) (Zw q) q (St q (Rlx 4 q ?_)))
 obtain rfl:=Oi h
 exact we_ret_g (new:=(wM mI mH mO mE vo mN vu vf mS mU)) (r0:=.d (.tu [.ag (R41 (Regs.mk c5045 c51646 c51747 c51848)),.i .i64 e44])) (rs2 q (rv_cN q q a41 s41 q) (rv_t q)) (Le.tud ⟨(Le.agd (Zs _)),Zl,Zt⟩) q ⟨Zp,Zf,Zf,Zf,Zt⟩ ⟨q,q⟩

theorem f24_c (mI : List Insn) (mH : List MHandler) (mO : List Obj) (mE : Int) (mN : List Int) (mS : List (List Int)) (mU : List Int) (o1 : Int) (k2 : Int) {vo : Nat} {vf : Nat} {vu : Nat} {r : Int × Int} (h : f24 mI mH mO mE mN mS mU o1 k2 = some r) : Ctr Tryz.prog 24 [.pt 0 0,.n o1,.n k2] (wM mI mH mO mE vo mN vu vf mS mU) (WinG 4 (fun r' new => r' = .d (.tu [.i .i64 r.1,.i .i64 r.2]) ∧ new = (wM mI mH mO mE vo mN vu vf mS mU))):=by
 unfold f24 at h
 refine ctr_intro Tryz.func24 (by kernel_rfl) q q q (fun mm φφ ww hmm => ?_)
 refine Rcl 10 q ?_
 obtain ⟨r24,hr24,h⟩:=bindS h
 refine WL.wing [0,1,2,3] q q q q (f47_c _ _ _ _ _ _ _ hr24) ⟨Zl,Zt⟩ q (by decide) (Re (Rg (Rf (Ro q)))) ⟨q,q,q,q,Zt⟩ Kv q (Zw q) q q (fun r' new hS => ?_)
 obtain ⟨rfl,rfl⟩:=hS
 refine ⟨_,_,q,(Re (Rg (Rf (Ro q)))),q,Kv,?_⟩
 refine St q (Rlc 2 q (Ci h q (fun h => ?_) (fun h => ?_)))
 refine Rcx 8 q ?_
 obtain rfl:=Oi h
 exact we_ret_g (new:=(wM mI mH mO mE vo mN vu vf mS mU)) (r0:=.d (.tu [.i .i64 0,.i .i64 1])) (rs2 q (rv_t q) (rv_t q)) (Le.tud ⟨Zl,Zl,Zt⟩) q ⟨Zp,Zf,Zf,Zf,Zt⟩ ⟨q,q⟩
 refine Rcl 8 q ?_
 obtain ⟨k27,hk27,h⟩:=letkS h
 obtain ⟨k28,hk28,h⟩:=letkS h
 refine WL.inl (us:=[.pt 0 0,.n o1,.n k2]) (fun rv st' => (k27 () = some r ∧ Le rv (.d (.v (.pointer none))) ∧ SLe st' (wM mI mH mO mE vo mN vu vf mS mU)) ∨ (k28 () = some r ∧ Le rv (.pem 2 (Int.toNat o1) vf (Int.toNat k2 * 1)) ∧ SLe st' (wM mI mH mO mE vo mN vu vf mS mU))) q q q q q ?_ (Zw q) q q ?_
 refine ctr_intro Tryz.func61 (by kernel_rfl) q q q (fun mm φφ ww hm26 => ?_)
 refine Rcl 11 q ?_
 apply WL.or 8 (t:=9) (d:=17)
 exact q
 intro hg9
 exact Rl 5 q (Zy (y_len_fam e62 q q q) q q q (Rl 2 q (WL.nil ⟨q,[_,_,_,_,_,_,_,_],q,q,q⟩)))
 exact Rl 8 q (WL.nil ⟨q,[_,_,_,_,_,_,_,_],q,q,q⟩)
 refine Rl 1 q ?_
 apply WL.or 3 (t:=18) (d:=21)
 exact q
 intro hg18
 exact Rl 3 q (WL.nil ⟨q,[_,_,_],q,q,q⟩)
 exact Rl 3 q (WL.nil ⟨q,[_,_,_],q,q,q⟩)
 refine Rl 1 q ?_
 obtain ⟨b29,hb29,h⟩:=bindS h
 apply WL.grp 11 (t:=22) (d:=33) (z:=b29)
 exact q
 intro hg22
 have h:=condT hb29 hg22
 refine Rl 11 q ?_
 obtain rfl:=Oi h
 exact WL.nil ⟨q,[_,_,_,_,_,_,_,_,_,_,_],q,q,q⟩
 intro hg22
 have h:=condF hb29 hg22
 refine Rl 6 q ?_
 obtain ⟨x30,hx30,h⟩:=bindS h
 refine Zy (y_pe_fam e62 q q q (idx_nonneg hx30) (idx_lt hx30)) q q q (Zy (y_load_mem (i:=o1) q q a42 (idx_toNat hx30)) q q q (Zy (y_len_mem e42 q q q (idx_get hx30)) q q q (Rl 2 q ?_)))
 obtain rfl:=Oi h
 exact WL.nil ⟨q,[_,_,_,_,_,_,_,_,_,_,_],q,q,q⟩
 refine Rlc 2 q (Ci h q (fun h => ?_) (fun h => ?_))
 exact Rcx 7 q (we_ret (rs1 q (rv_t q)) (.inl ⟨h,Zl,⟨Zp,Zf,Zf,Zf,Zt⟩⟩))
 refine Rcl 9 q ?_
 obtain ⟨x31,hx31,h⟩:=bindS h
 refine Zq (y_pe_fam e62 q q q (idx_nonneg hx31) (idx_lt hx31)) q (Zq (y_load_mem (i:=o1) q q a42 (idx_toNat hx31)) q (Rl 1 q ?_))
 obtain ⟨v32,hv32,h⟩:=bindS h
 exact Zq (y_idx_mem (E:=E2) (L:=mS) (M:=x31) (v:=v32) e42 q q (idx_get hx31) q hv32) q (Rlx 4 q (we_ret (rs1 q (rv_t q)) (.inr (⟨h,Zl,⟨Zp,Zf,Zf,Zf,Zt⟩⟩))))
 rintro rv st1 (⟨h,hr,hst⟩ | ⟨h,hr,hst⟩)
 subst hk27
 dsimp only at h
 refine WL.cast 14 q hr (WL.weak hst (Rl 1 q (Zn (Rcl 3 q (Zq (y_nenn Tryz.underlying128 q) q (Rlc 2 q (wc_false q (Rcx 9 q ?_))))))))
 obtain rfl:=Oi h
 exact we_ret_g (new:=(wM mI mH mO mE vo mN vu vf mS mU)) (r0:=.d (.tu [.i .i64 0,.i .i64 4])) (rs2 q (rv_t q) (rv_t q)) (Le.tud ⟨Zl,Zl,Zt⟩) q ⟨Zp,Zf,Zf,Zf,Zt⟩ ⟨q,q⟩
 subst hk28
 dsimp only at h
 refine WL.cast 14 q hr (WL.weak hst (Rl 1 q (Zn (Rcl 3 q (Zq (y_nepm Tryz.underlying128 q q) q (Rlc 2 q (wc_true q (Rcl 3 q (Zq (y_nilCheckm q q) q ?_)))))))))
 obtain ⟨x33,hx33,h⟩:=bindS h
 obtain ⟨v34,hv34,h⟩:=bindS h
 refine Zq (y_load_pem (E:=E2) (L:=mS) (M:=x33) (v:=v34) (i:=k2) q q (idx_get hx33) hv34 (fun _ => q) (by decide) q a2) q (Rlx 6 q ?_)
 obtain rfl:=Oi h
 exact we_ret_g (new:=(wM mI mH mO mE vo mN vu vf mS mU)) (r0:=.d (.tu [.i .i64 v34,.i .i64 0])) (rs2 q (rv_t q) (rv_t q)) (Le.tud ⟨Zl,Zl,Zt⟩) q ⟨Zp,Zf,Zf,Zf,Zt⟩ ⟨q,q⟩

theorem f26_c (mI : List Insn) (mH : List MHandler) (mO : List Obj) (mE : Int) (mN : List Int) (mS : List (List Int)) (mU : List Int) (o1 : Int) (k2 : Int) (v3 : Int) {vo : Nat} {vf : Nat} {vu : Nat} {r : Int × (List (List Int))} (h : f26 mI mH mO mE mN mS mU o1 k2 v3 = some r) : Ctr Tryz.prog 26 [.pt 0 0,.n o1,.n k2,.n v3] (wM mI mH mO mE vo mN vu vf mS mU) (WinG 4 (fun r' new => ∃ i2 : Nat,r' = .d (.i .i64 r.1) ∧ new = [.row 90 (mR mI mH mO mE 1 vo mN 3 vu),.os 42 1 vo (famE 2 i2 (List.length r.2)),.fam 2 1 i2 (famM E2 r.2),.os 2 1 vu (eM E2 mU)])):=by
 unfold f26 at h
 refine ctr_intro Tryz.func26 (by kernel_rfl) q q q (fun mm φφ ww hmm => ?_)
 refine Rcl 9 q ?_
 obtain ⟨r38,hr38,h⟩:=bindS h
 refine WL.wing [0,1,2,3] q q q q (f47_c _ _ _ _ _ _ _ hr38) ⟨Zl,Zt⟩ q (by decide) (Re (Rg (Rf (Ro q)))) ⟨q,q,q,q,Zt⟩ Kv q (Zw q) q q (fun r' new hS => ?_)
 obtain ⟨rfl,rfl⟩:=hS
 refine ⟨_,_,q,(Re (Rg (Rf (Ro q)))),q,Kv,?_⟩
 refine St q (Rlc 2 q (Ci h q (fun h => ?_) (fun h => ?_)))
 refine Rcx 7 q ?_
 obtain rfl:=Oi h
 exact we_ret_g (new:=(wM mI mH mO mE vo mN vu vf mS mU)) (r0:=.d (.i .i64 1)) (rs1 q (rv_t q)) Zl q ⟨Zp,Zf,Zf,Zf,Zt⟩ ⟨vf,q,q⟩
 refine Rcl 7 q ?_
 obtain ⟨k41,hk41,h⟩:=letkS h
 obtain ⟨k42,hk42,h⟩:=letkS h
 refine WL.inl (us:=[.pt 0 0,.n o1,.n k2]) (fun rv st' => (k41 () = some r ∧ Le rv (.d (.v (.pointer none))) ∧ SLe st' (wM mI mH mO mE vo mN vu vf mS mU)) ∨ (k42 () = some r ∧ Le rv (.pem 2 (Int.toNat o1) vf (Int.toNat k2 * 1)) ∧ SLe st' (wM mI mH mO mE vo mN vu vf mS mU))) q q q q q ?_ (Zw q) q q ?_
 refine ctr_intro Tryz.func61 (by kernel_rfl) q q q (fun mm φφ ww hm40 => ?_)
 refine Rcl 11 q ?_
 apply WL.or 8 (t:=9) (d:=17)
 exact q
 intro hg9
 exact Rl 5 q (Zy (y_len_fam e62 q q q) q q q (Rl 2 q (WL.nil ⟨q,[_,_,_,_,_,_,_,_],q,q,q⟩)))
 exact Rl 8 q (WL.nil ⟨q,[_,_,_,_,_,_,_,_],q,q,q⟩)
 refine Rl 1 q ?_
 apply WL.or 3 (t:=18) (d:=21)
 exact q
 intro hg18
 exact Rl 3 q (WL.nil ⟨q,[_,_,_],q,q,q⟩)
 exact Rl 3 q (WL.nil ⟨q,[_,_,_],q,q,q⟩)
 refine Rl 1 q ?_
 obtain ⟨b43,hb43,h⟩:=bindS h
 apply WL.grp 11 (t:=22) (d:=33) (z:=b43)
 exact q
 intro hg22
 have h:=condT hb43 hg22
 refine Rl 11 q ?_
 obtain rfl:=Oi h
 exact WL.nil ⟨q,[_,_,_,_,_,_,_,_,_,_,_],q,q,q⟩
 intro hg22
 have h:=condF hb43 hg22
 refine Rl 6 q ?_
 obtain ⟨x44,hx44,h⟩:=bindS h
 refine Zy (y_pe_fam e62 q q q (idx_nonneg hx44) (idx_lt hx44)) q q q (Zy (y_load_mem (i:=o1) q q a42 (idx_toNat hx44)) q q q (Zy (y_len_mem e42 q q q (idx_get hx44)) q q q (Rl 2 q ?_)))
 obtain rfl:=Oi h
 exact WL.nil ⟨q,[_,_,_,_,_,_,_,_,_,_,_],q,q,q⟩
 refine Rlc 2 q (Ci h q (fun h => ?_) (fun h => ?_))
 exact Rcx 7 q (we_ret (rs1 q (rv_t q)) (.inl ⟨h,Zl,⟨Zp,Zf,Zf,Zf,Zt⟩⟩))
 refine Rcl 9 q ?_
 obtain ⟨x45,hx45,h⟩:=bindS h
 refine Zq (y_pe_fam e62 q q q (idx_nonneg hx45) (idx_lt hx45)) q (Zq (y_load_mem (i:=o1) q q a42 (idx_toNat hx45)) q (Rl 1 q ?_))
 obtain ⟨v46,hv46,h⟩:=bindS h
 exact Zq (y_idx_mem (E:=E2) (L:=mS) (M:=x45) (v:=v46) e42 q q (idx_get hx45) q hv46) q (Rlx 4 q (we_ret (rs1 q (rv_t q)) (.inr (⟨h,Zl,⟨Zp,Zf,Zf,Zf,Zt⟩⟩))))
 rintro rv st1 (⟨h,hr,hst⟩ | ⟨h,hr,hst⟩)
 subst hk41
 dsimp only at h
 refine WL.cast 15 q hr (WL.weak hst (Rl 1 q (Zn (Rcl 5 q (Zq (y_eqnn Tryz.underlying128 q) q (Rlc 3 q (wc_true q (Rcx 8 q ?_))))))))
 obtain rfl:=Oi h
 exact we_ret_g (new:=(wM mI mH mO mE vo mN vu vf mS mU)) (r0:=.d (.i .i64 4)) (rs1 q (rv_t q)) Zl q ⟨Zp,Zf,Zf,Zf,Zt⟩ ⟨vf,q,q⟩
 subst hk42
 dsimp only at h
 refine WL.cast 15 q hr (WL.weak hst (Rl 1 q (Zn (Rcl 5 q (Zq (y_eqpm Tryz.underlying128 q q) q (Rlc 3 q (wc_false q (Rcl 7 q (Ix h e33 E101_eq q Zl q q fun x47 _ h => (Rl 2 q ?_))))))))))
 obtain ⟨r48,hr48,h⟩:=bindS h
 refine WL.fn q q q q (f63_c _ _ hr48) ⟨Zl,Zl,Zt⟩ (Zw q) q q (Rlc 4 q (Ci h q (fun h => ?_) (fun h => ?_)))
 refine Rcx 8 q ?_
 obtain rfl:=Oi h
 exact we_ret_g (new:=(wM mI mH mO mE vo mN vu vf mS mU)) (r0:=.d (.i .i64 280)) (rs1 q (rv_t q)) Zl q ⟨Zp,Zf,Zf,Zf,Zt⟩ ⟨vf,q,q⟩
 refine Rcl 7 q (Zq (y_nilCheckm q q) q ?_)
 obtain ⟨x49,hx49,h⟩:=bindS h
 obtain ⟨v50,hv50,h⟩:=bindS h
 refine WL.s0 (d_store_pem (E:=E2) (L:=mS) (M:=x49) (v:=v50) (z:=v3) (i:=k2) q q (idx_get hx49) hv50 (fun _ => q) q q ⟨Zl,Zt⟩ q s2) (Zw q) q (WL.st (st':=[.row 90 (mR mI mH mO mE 1 vo mN 3 vu),.os 42 1 vo (famE 2 vf (List.length (List.set mS (Int.toNat o1) (List.set x49 (Int.toNat k2) v3)))),.fam 2 1 vf (famM E2 (List.set mS (Int.toNat o1) (List.set x49 (Int.toNat k2) v3))),.os 2 1 vu (eM E2 mU)]) (by show ([.row 90 (mR mI mH mO mE 1 vo mN 3 vu),.os 42 1 vo (famE 2 vf (List.length mS)),.fam 2 1 vf (famM E2 (List.set mS (Int.toNat o1) (List.set x49 (Int.toNat k2) v3))),.os 2 1 vu (eM E2 mU)] : List AO) = _; rw [List.length_set]) (Rlx 8 q ?_))
 obtain rfl:=Oi h
 exact we_ret_g (new:=[.row 90 (mR mI mH mO mE 1 vo mN 3 vu),.os 42 1 vo (famE 2 vf (List.length (List.set mS (Int.toNat o1) (List.set x49 (Int.toNat k2) v3)))),.fam 2 1 vf (famM E2 (List.set mS (Int.toNat o1) (List.set x49 (Int.toNat k2) v3))),.os 2 1 vu (eM E2 mU)]) (r0:=.d (.i .i64 0)) (rs1 q (rv_t q)) Zl q ⟨Zp,Zf,Zf,Zf,Zt⟩ ⟨vf,q,q⟩

theorem f38_c (s0 : List Insn) {r : List Insn} (h : f38 s0 = some r) : Pu Tryz.prog 38 [.sl (List.map E45 s0)] (.sl (List.map E45 r)):=by
 unfold f38 at h
 replace h:=guardBS h
 obtain ⟨hg,h⟩:=h
 obtain rfl:=Oi h
 refine fn_intro Tryz.func38 (by kernel_rfl) q q q (fun φφ ww => ?_)
 refine Rcl 9 q (WL.isnil false q Tryz.underlying23 q Zl (Zw q) q (fun b hb => ?_))
 refine Rlc 2 q (wc_cond q (fun hc => ?_) (fun hc => ?_))
 have hb2:=hb (by cases b <;> first | rfl | cases hc)
 exact Rcx 7 q (we_ret_fn (rs1 q (rv_t q)) (by rw [hb2]; exact Le.nil))
 exact Rcl 4 q (WL.s ((b_buildNone l23).does) (Zw q) q q (Rl 1 q (WL.s ((b_appendFd ([] : List Insn) s0 E45_eq l23 z45 q (by decide) q q q (Src.dataL Zl E45_eq (fun _ => q)) (fun _ => q) hg).does) (Zw q) q q (Rlx 4 q (we_ret_fn (rs1 q (rv_t q)) Zl)))))

theorem f39_c (s0 : List MHandler) {r : List MHandler} (h : f39 s0 = some r) : Pu Tryz.prog 39 [.sl (List.map E108 s0)] (.sl (List.map E108 r)):=by
 unfold f39 at h
 replace h:=guardBS h
 obtain ⟨hg,h⟩:=h
 obtain rfl:=Oi h
 refine fn_intro Tryz.func39 (by kernel_rfl) q q q (fun φφ ww => ?_)
 refine Rcl 9 q (WL.isnil false q Tryz.underlying29 q Zl (Zw q) q (fun b hb => ?_))
 refine Rlc 2 q (wc_cond q (fun hc => ?_) (fun hc => ?_))
 have hb2:=hb (by cases b <;> first | rfl | cases hc)
 exact Rcx 7 q (we_ret_fn (rs1 q (rv_t q)) (by rw [hb2]; exact Le.nil))
 exact Rcl 4 q (WL.s ((b_buildNone l29).does) (Zw q) q q (Rl 1 q (WL.s ((b_appendFd ([] : List MHandler) s0 E108_eq l29 z108 q (by decide) q q q (Src.dataL Zl E108_eq (fun _ => q)) (fun _ => q) hg).does) (Zw q) q q (Rlx 4 q (we_ret_fn (rs1 q (rv_t q)) Zl)))))

theorem f43_c (s0 : List Int) {r : List Int} (h : f43 s0 = some r) : Pu Tryz.prog 43 [.sl (List.map E3 s0)] (.sl (List.map E3 r)):=by
 unfold f43 at h
 replace h:=guardBS h
 obtain ⟨hg,h⟩:=h
 obtain rfl:=Oi h
 refine fn_intro Tryz.func43 (by kernel_rfl) q q q (fun φφ ww => ?_)
 refine Rcl 9 q (WL.isnil false q Tryz.underlying96 q Zl (Zw q) q (fun b hb => ?_))
 refine Rlc 2 q (wc_cond q (fun hc => ?_) (fun hc => ?_))
 have hb2:=hb (by cases b <;> first | rfl | cases hc)
 exact Rcx 7 q (we_ret_fn (rs1 q (rv_t q)) (by rw [hb2]; exact Le.nil))
 exact Rcl 4 q (WL.s ((b_buildNone l96).does) (Zw q) q q (Rl 1 q (WL.s ((b_appendFd ([] : List Int) s0 E3_eq l96 z3 q (by decide) q q q (Src.dataL Zl E3_eq (fun _ => q)) (fun _ => q) hg).does) (Zw q) q q (Rlx 4 q (we_ret_fn (rs1 q (rv_t q)) Zl)))))

theorem f47z_c  {r : Bool} (h : f47z  = some r) : Ctr Tryz.prog 47 [.d (.v (.pointer none))] [] (WinG 0 (fun r' new => r' = .d (.b r) ∧ new = [])):=by
 unfold f47z at h
 refine ctr_intro Tryz.func47 (by kernel_rfl) q q q (fun mm φφ ww hmm => ?_)
 refine Rcl 8 q (Zq (y_eqnn Tryz.underlying46 q) q (Rlx 12 q ?_))
 obtain rfl:=Oi h
 exact we_ret_g (new:=[]) (r0:=.d (.b true)) (rs1 q (rv_t q)) Zl q Zt ⟨q,q⟩

theorem f44_45z_c (r1 : Regs) (fine2 : Bool) {r : Regs × (List Act) × Int} (h : f44_45z r1 fine2 = some r) : Ctr Tryz.prog 44 [.d (.v (.pointer none)),.d (.ag (R41 r1)),.d (D.b fine2),.fn (.func 45) [] []] [] (WinG 0 (fun r' new => r' = .d (.tu [.ag (R41 r.1),.sl (List.map E58 r.2.1),.i .i64 r.2.2]) ∧ new = [])):=by
 unfold f44_45z at h
 refine ctr_intro Tryz.func44 (by kernel_rfl) q q q (fun mm φφ ww hmm => ?_)
 refine Rcl 2 q (Bd q q (Zs _) q (Al z41 q (Al z50 q (Al z47 q (Rll 7 q (WL.wing [] q q q q (f47z_c  (r:=true) q) ⟨Zl,Zt⟩ q (by decide) q Zt q q (Zw q) q q (fun r' new hS => ?_)))))))
 obtain ⟨rfl,rfl⟩:=hS
 refine ⟨_,_,q,q,q,q,?_⟩
 refine St q (Rlc 3 q (wc_true q (Rcl 2 q (Zq (y_build p41 z41 q q) q (WL.s0 (d_store q q q q q q s41 q q) (Zw q) q (St q (WL.s0 (d_store q q q q q q s50 q q) (Zw q) q (WL.s0 (d_store q q q q q q s47 q q) (Zw q) q (Rlx 5 q ?_)))))))))
 obtain rfl:=Oi h
 exact we_ret_g (new:=[]) (r0:=.d (.tu [.ag (R41 (Regs.mk (fun j => 0) 0 0 0)),.sl (List.map E58 []),.i .i64 1])) (rs3 q (rv_cN q q a41 s41 q) (rv_c q q a50 q) (rv_c q q a47 q)) (Le.tud ⟨(Le.agd (Zs _)),Le.nil,Zl,Zt⟩) q Zt ⟨q,q⟩

theorem f44_55z_c (r1 : Regs) (fine2 : Bool) (xn : Int) {r : Regs × (List Act) × Int} (h : f44_55z r1 fine2 xn = some r) : Ctr Tryz.prog 44 [.d (.v (.pointer none)),.d (.ag (R41 r1)),.d (D.b fine2),.fn (.func 55) [] [.d (.pc (E2 xn))]] [] (WinG 0 (fun r' new => r' = .d (.tu [.ag (R41 r.1),.sl (List.map E58 r.2.1),.i .i64 r.2.2]) ∧ new = [])):=by
 unfold f44_55z at h
 refine ctr_intro Tryz.func44 (by kernel_rfl) q q q (fun mm φφ ww hmm => ?_)
 refine Rcl 2 q (Bd q q (Zs _) q (Al z41 q (Al z50 q (Al z47 q (Rll 7 q (WL.wing [] q q q q (f47z_c  (r:=true) q) ⟨Zl,Zt⟩ q (by decide) q Zt q q (Zw q) q q (fun r' new hS => ?_)))))))
 obtain ⟨rfl,rfl⟩:=hS
 refine ⟨_,_,q,q,q,q,?_⟩
 refine St q (Rlc 3 q (wc_true q (Rcl 2 q (Zq (y_build p41 z41 q q) q (WL.s0 (d_store q q q q q q s41 q q) (Zw q) q (St q (WL.s0 (d_store q q q q q q s50 q q) (Zw q) q (WL.s0 (d_store q q q q q q s47 q q) (Zw q) q (Rlx 5 q ?_)))))))))
 obtain rfl:=Oi h
 exact we_ret_g (new:=[]) (r0:=.d (.tu [.ag (R41 (Regs.mk (fun j => 0) 0 0 0)),.sl (List.map E58 []),.i .i64 1])) (rs3 q (rv_cN q q a41 s41 q) (rv_c q q a50 q) (rv_c q q a47 q)) (Le.tud ⟨(Le.agd (Zs _)),Le.nil,Zl,Zt⟩) q Zt ⟨q,q⟩

theorem f44_58z_c (r1 : Regs) (fine2 : Bool) (xn : Int) {r : Regs × (List Act) × Int} (h : f44_58z r1 fine2 xn = some r) : Ctr Tryz.prog 44 [.d (.v (.pointer none)),.d (.ag (R41 r1)),.d (D.b fine2),.fn (.func 58) [] [.d (.pc (E2 xn))]] [] (WinG 0 (fun r' new => r' = .d (.tu [.ag (R41 r.1),.sl (List.map E58 r.2.1),.i .i64 r.2.2]) ∧ new = [])):=by
 unfold f44_58z at h
 refine ctr_intro Tryz.func44 (by kernel_rfl) q q q (fun mm φφ ww hmm => ?_)
 refine Rcl 2 q (Bd q q (Zs _) q (Al z41 q (Al z50 q (Al z47 q (Rll 7 q (WL.wing [] q q q q (f47z_c  (r:=true) q) ⟨Zl,Zt⟩ q (by decide) q Zt q q (Zw q) q q (fun r' new hS => ?_)))))))
 obtain ⟨rfl,rfl⟩:=hS
 refine ⟨_,_,q,q,q,q,?_⟩
 refine St q (Rlc 3 q (wc_true q (Rcl 2 q (Zq (y_build p41 z41 q q) q (WL.s0 (d_store q q q q q q s41 q q) (Zw q) q (St q (WL.s0 (d_store q q q q q q s50 q q) (Zw q) q (WL.s0 (d_store q q q q q q s47 q q) (Zw q) q (Rlx 5 q ?_)))))))))
 obtain rfl:=Oi h
 exact we_ret_g (new:=[]) (r0:=.d (.tu [.ag (R41 (Regs.mk (fun j => 0) 0 0 0)),.sl (List.map E58 []),.i .i64 1])) (rs3 q (rv_cN q q a41 s41 q) (rv_c q q a50 q) (rv_c q q a47 q)) (Le.tud ⟨(Le.agd (Zs _)),Le.nil,Zl,Zt⟩) q Zt ⟨q,q⟩

theorem f11z_c (r1 : Regs) {r : Regs × (List Act) × Int} (h : f11z r1 = some r) : Ctr Tryz.prog 11 [.d (.v (.pointer none)),.d (.ag (R41 r1))] [] (WinG 0 (fun r' new => r' = .d (.tu [.ag (R41 r.1),.sl (List.map E58 r.2.1),.i .i64 r.2.2]) ∧ new = [])):=by
 unfold f11z at h
 refine ctr_intro Tryz.func11 (by kernel_rfl) q q q (fun mm φφ ww hmm => ?_)
 refine Rcl 2 q (Bd q q (Zs _) q (Al z41 q (Rll 8 q ?_)))
 obtain ⟨r16,hr16,h⟩:=bindS h
 refine WL.wing [] q q q q (f44_45z_c _ _ hr16) ⟨Zl,Zl,Zl,Zl,Zt⟩ q (by decide) q Zt q q (Zw q) q q (fun r' new hS => ?_)
 obtain ⟨rfl,rfl⟩:=hS
 refine ⟨_,_,q,q,q,q,?_⟩
 refine St q (Rl 3 q (WL.s0 (d_store q q q q q q s41 q q) (Zw q) q (St q (Rlx 5 q ?_))))
 obtain rfl:=Oi h
 exact we_ret_g (new:=[]) (r0:=.d (.tu [.ag (R41 r16.1),.sl (List.map E58 r16.2.1),.i .i64 r16.2.2])) (rs3 q (rv_cN q q a41 s41 q) (rv_t q) (rv_t q)) (Le.tud ⟨(Le.agd (Zs _)),Zl,Zl,Zt⟩) q Zt ⟨q,q⟩

theorem f20z_c (r1 : Regs) (n2 : Int) {r : Regs × (List Act) × Int} (h : f20z r1 n2 = some r) : Ctr Tryz.prog 20 [.d (.v (.pointer none)),.d (.ag (R41 r1)),.n n2] [] (WinG 0 (fun r' new => r' = .d (.tu [.ag (R41 r.1),.sl (List.map E58 r.2.1),.i .i64 r.2.2]) ∧ new = [])):=by
 unfold f20z at h
 refine ctr_intro Tryz.func20 (by kernel_rfl) q q q (fun mm φφ ww hmm => ?_)
 refine Rcl 2 q (Bd q q (Zs _) q (WL.s ((b_boxd q q (by exact (show Les [.n n2] (List.map AV.d [.i .i64 n2]) from ⟨Zl,Zt⟩))).does) (Zw q) q q (Al z41 q (Rlc 4 q (Jn6 (fun t35 t36 _ _ _ _ => [(6,.pt 0 0),(7,.l E58 t35),(8,.n t36)]) (fun _ _ c0037 c01638 c01739 c01840 => [.row 41 (vecA 16 (fun j => .n (c0037 j)) ++ ([.n c01638,.n c01739,.n c01840] : List AV))]) h (fun _ h => ?_) (fun t35 t36 c0037 c01638 c01739 c01840 h => ?_))))))
 rcases boolCases (decide (n2 ≥ 1)) with hb2 | hb2
 replace h:=condT h hb2
 obtain ⟨r43,hr43,h⟩:=bindS h
 apply RT [_,_,_,_,_,_,_,_,_,_,_,_,_,_,_,_,_,_,_,_,_,_,.u,_,_] [22] [[.row 41 (vecA 16 (fun j => .n (r43.1.r j)) ++ ([.n r43.1.pc,.n r43.1.exc,.n r43.1.defer] : List AV))]] [([],[0],[0]),([],[4],[0]),([],[5],[0]),([2],[],[0]),([3],[],[0]),([4],[0],[0]),([5,4],[],[0]),([6,4],[],[0]),([4,7],[],[0]),([8],[],[0]),([9],[],[0]),([9],[],[0]),([9],[],[0]),([9],[],[0]),([9],[],[0]),([9],[],[0]),([9,15],[],[0]),([],[5],[0]),([0,1,16,17],[],[0]),([18],[],[0]),([18],[],[0]),([18],[],[0]),([19],[6],[0]),([20],[],[1]),([21],[],[1])] (by kernel_rfl) (by kernel_rfl) q q
 refine ⟨?_,?_,?_,?_,?_,?_,?_,?_,?_,?_,?_,?_,?_,?_,?_,?_,?_,?_,?_,?_,?_,?_,?_,?_,?_,Zt⟩
 exact O1 q (fun _ => q) q q
 exact O1 q (fun _ => q) q q
 exact O1 q (fun _ => q) q q
 exact O1 q (fun _ => q) q q
 refine ⟨fun F => ?_,Zt⟩
 exact Rl 1 q (WL.cast 13 q (Le.ofd (Cb hb2)) (WL.done2 q q q))
 exact O1 q (fun _ => q) q q
 refine ⟨fun F => ?_,Zt⟩
 refine WL.wing [] q q q q (f47z_c  (r:=true) q) ⟨Zl,Zt⟩ q (by decide) q Zt q q (Wt.yes q q q) q q (fun r' new hS => ?_)
 obtain ⟨rfl,rfl⟩:=hS
 refine ⟨_,_,q,q,q,q,?_⟩
 exact Zd q q q
 exact O1 q (fun _ => q) q q
 exact O1 q (fun _ => q) q q
 exact O1 q (fun _ => q) q q
 exact O1 q (fun _ => q) q q
 exact O1 q (fun _ => q) q q
 exact O1 q (fun _ => q) q q
 exact O1 q (fun _ => q) q q
 exact O1 q (fun _ => q) q q
 exact O1 q (fun _ => q) q q
 exact O1 q (fun _ => q) q q
 exact O1 q (fun _ => q) q q
 refine ⟨fun F => ?_,Zt⟩
 refine WL.wing [] q q q q (f44_55z_c _ _ _ hr43) ⟨Zl,Zl,Zl,Zl,Zt⟩ q (by decide) q Zt q q (Zw q) q q (fun r' new hS => ?_)
 obtain ⟨rfl,rfl⟩:=hS
 refine ⟨_,_,q,q,q,q,?_⟩
 exact Zd q q q
 exact O1 q (fun _ => q) q q
 exact O1 q (fun _ => q) q q
 exact O1 q (fun _ => q) q q
 refine ⟨fun F => ?_,Zt⟩
 exact WL.s0 (d_store q q q q q q s41 q q) (Zw q) q (WL.done0 q q)
 exact O1 q (fun _ => q) q q
 exact O1 q (fun _ => q) q q
 exact En6 h
 replace h:=condF h hb2
 obtain ⟨r45,hr45,h⟩:=bindS h
 apply RT [_,_,_,_,_,_,_,_,_,_,_,_,_,_,_,_,_,_,_,_,_,_,.u,_,_] [22] [[.row 41 (vecA 16 (fun j => .n (r45.1.r j)) ++ ([.n r45.1.pc,.n r45.1.exc,.n r45.1.defer] : List AV))]] [([],[0],[0]),([],[4],[0]),([],[5],[0]),([2],[],[0]),([3],[],[0]),([4],[],[0]),([4],[],[0]),([4],[],[0]),([4,7],[],[0]),([8],[],[0]),([9],[],[0]),([9],[],[0]),([9],[],[0]),([9],[],[0]),([9],[],[0]),([9],[],[0]),([9,15],[],[0]),([],[5],[0]),([0,1,16,17],[],[0]),([18],[],[0]),([18],[],[0]),([18],[],[0]),([19],[6],[0]),([20],[],[1]),([21],[],[1])] (by kernel_rfl) (by kernel_rfl) q q
 refine ⟨?_,?_,?_,?_,?_,?_,?_,?_,?_,?_,?_,?_,?_,?_,?_,?_,?_,?_,?_,?_,?_,?_,?_,?_,?_,Zt⟩
 exact O1 q (fun _ => q) q q
 exact O1 q (fun _ => q) q q
 exact O1 q (fun _ => q) q q
 exact O1 q (fun _ => q) q q
 refine ⟨fun F => ?_,Zt⟩
 exact Rl 1 q (WL.cast 13 q (Le.ofd (Cb hb2)) (WL.done2 q q q))
 exact O1 q (fun _ => q) q q
 exact O1 q (fun _ => q) q q
 exact O1 q (fun _ => q) q q
 exact O1 q (fun _ => q) q q
 exact O1 q (fun _ => q) q q
 exact O1 q (fun _ => q) q q
 exact O1 q (fun _ => q) q q
 exact O1 q (fun _ => q) q q
 exact O1 q (fun _ => q) q q
 exact O1 q (fun _ => q) q q
 exact O1 q (fun _ => q) q q
 exact O1 q (fun _ => q) q q
 exact O1 q (fun _ => q) q q
 refine ⟨fun F => ?_,Zt⟩
 refine WL.wing [] q q q q (f44_55z_c _ _ _ hr45) ⟨Zl,Zl,Zl,Zl,Zt⟩ q (by decide) q Zt q q (Zw q) q q (fun r' new hS => ?_)
 obtain ⟨rfl,rfl⟩:=hS
 refine ⟨_,_,q,q,q,q,?_⟩
 exact Zd q q q
 exact O1 q (fun _ => q) q q
 exact O1 q (fun _ => q) q q
 exact O1 q (fun _ => q) q q
 refine ⟨fun F => ?_,Zt⟩
 exact WL.s0 (d_store q q q q q q s41 q q) (Zw q) q (WL.done0 q q)
 exact O1 q (fun _ => q) q q
 exact O1 q (fun _ => q) q q
 exact En6 h
 refine Rcx 1 q ?_
 obtain rfl:=Oi h
 exact we_ret_g (new:=[]) (r0:=.d (.tu [.ag (R41 (Regs.mk c0037 c01638 c01739 c01840)),.sl (List.map E58 t35),.i .i64 t36])) (rs3 q (rv_cN q q a41 s41 q) (rv_t q) (rv_t q)) (Le.tud ⟨(Le.agd (Zs _)),Zl,Zl,Zt⟩) q Zt ⟨q,q⟩

theorem f22z_c (r1 : Regs) (c2 : Int) {r : Regs × Int} (h : f22z r1 c2 = some r) : Ctr Tryz.prog 22 [.d (.v (.pointer none)),.d (.ag (R41 r1)),.n c2] [] (WinG 0 (fun r' new => r' = .d (.tu [.ag (R41 r.1),.i .i64 r.2]) ∧ new = [])):=by
 unfold f22z at h
 refine ctr_intro Tryz.func22 (by kernel_rfl) q q q (fun mm φφ ww hmm => ?_)
 refine Rcl 2 q (Bd q q (Zs _) q (WL.s ((b_boxd q q (by exact (show Les [.n c2] (List.map AV.d [.i .i64 c2]) from ⟨Zl,Zt⟩))).does) (Zw q) q q (Al z41 q (Rlc 3 q (Jn5 (fun e44 _ _ _ _ => [(6,.pt 0 0),(8,.pt 1 0),(10,.n e44)]) (fun _ c1045 c11646 c11747 c11848 => [.row 41 n19,.row 41 (vecA 16 (fun j => .n (c1045 j)) ++ ([.n c11646,.n c11747,.n c11848] : List AV))]) h (fun _ h => ?_) (fun e44 c1045 c11646 c11747 c11848 h => ?_))))))
 rcases boolCases (decide (c2 ≥ (-2))) with hb3 | hb3
 replace h:=condT h hb3
 rcases boolCases (!decide (c2 = 0)) with hb4 | hb4
 replace h:=condT h hb4
 obtain ⟨r51,hr51,h⟩:=bindS h
 apply RT [_,_,_,_,_,_,_,_,_,_,_,_,_,_,_,_,_,_,_,_,_,_,_,_,_,_,_,_,.u,_,_] [27,28] [[.row 41 n19,.row 41 n19],[.row 41 n19,.row 41 (vecA 16 (fun j => .n (r51.1.r j)) ++ ([.n r51.1.pc,.n r51.1.exc,.n r51.1.defer] : List AV))]] [([],[0],[0,1]),([],[4],[0,1]),([],[5],[0,1]),([2],[],[0,1]),([3],[],[0,1]),([4],[5],[0,1]),([5,4],[],[0,1]),([4,6],[],[0,1]),([7],[],[0,1]),([8],[0],[0,1]),([9,8],[],[0,1]),([10,8],[],[0,1]),([8,11],[],[0,1]),([12],[],[0,1]),([13],[],[0,1]),([13],[],[0,1]),([13],[],[0,1]),([13],[],[0,1]),([13],[],[0,1]),([13],[],[0,1]),([13,19],[],[0,1]),([],[5],[0,1]),([0,1,20,21],[],[0,1]),([22],[],[0,1]),([23],[],[0,1]),([23],[],[0,1,2]),([23],[],[0,1,2]),([],[],[0]),([27,24],[],[1]),([25],[],[2]),([26],[],[2])] (by kernel_rfl) (by kernel_rfl) q q
 refine ⟨?_,?_,?_,?_,?_,?_,?_,?_,?_,?_,?_,?_,?_,?_,?_,?_,?_,?_,?_,?_,?_,?_,?_,?_,?_,?_,?_,?_,?_,?_,?_,Zt⟩
 exact ⟨O2 q (fun _ => q) q q,O2 q (fun _ => q) q q,Zt⟩
 exact ⟨O2 q (fun _ => q) q q,O2 q (fun _ => q) q q,Zt⟩
 exact ⟨O2 q (fun _ => q) q q,O2 q (fun _ => q) q q,Zt⟩
 exact ⟨O2 q (fun _ => q) q q,O2 q (fun _ => q) q q,Zt⟩
 refine ⟨fun F => ?_,fun F => ?_,Zt⟩
 exact Rl 1 q (WL.cast 16 q (Le.ofd (Cb hb3)) (WL.done2 q q q))
 exact Rl 1 q (WL.cast 16 q (Le.ofd (Cb hb3)) (WL.done2 q q q))
 exact ⟨O2 q (fun _ => q) q q,O2 q (fun _ => q) q q,Zt⟩
 exact ⟨O2 q (fun _ => q) q q,O2 q (fun _ => q) q q,Zt⟩
 exact ⟨O2 q (fun _ => q) q q,O2 q (fun _ => q) q q,Zt⟩
 refine ⟨fun F => ?_,fun F => ?_,Zt⟩
 exact Rl 1 q (WL.cast 20 q (Le.ofd (Cb hb4)) (WL.done2 q q q))
 exact Rl 1 q (WL.cast 20 q (Le.ofd (Cb hb4)) (WL.done2 q q q))
 exact ⟨O2 q (fun _ => q) q q,O2 q (fun _ => q) q q,Zt⟩
 refine ⟨fun F => ?_,fun F => ?_,Zt⟩
 refine WL.wing [] q q q q (f47z_c  (r:=true) q) ⟨Zl,Zt⟩ q (by decide) q Zt q q (Wt.yes q q q) q q (fun r' new hS => ?_)
 obtain ⟨rfl,rfl⟩:=hS
 refine ⟨_,_,q,q,q,q,?_⟩
 exact Zd q q q
 refine WL.wing [] q q q q (f47z_c  (r:=true) q) ⟨Zl,Zt⟩ q (by decide) q Zt q q (Wt.yes q q q) q q (fun r' new hS => ?_)
 obtain ⟨rfl,rfl⟩:=hS
 refine ⟨_,_,q,q,q,q,?_⟩
 exact Zd q q q
 exact ⟨O2 q (fun _ => q) q q,O2 q (fun _ => q) q q,Zt⟩
 exact ⟨O2 q (fun _ => q) q q,O2 q (fun _ => q) q q,Zt⟩
 exact ⟨O2 q (fun _ => q) q q,O2 q (fun _ => q) q q,Zt⟩
 exact ⟨O2 q (fun _ => q) q q,O2 q (fun _ => q) q q,Zt⟩
 exact ⟨O2 q (fun _ => q) q q,O2 q (fun _ => q) q q,Zt⟩
 exact ⟨O2 q (fun _ => q) q q,O2 q (fun _ => q) q q,Zt⟩
 exact ⟨O2 q (fun _ => q) q q,O2 q (fun _ => q) q q,Zt⟩
 exact ⟨O2 q (fun _ => q) q q,O2 q (fun _ => q) q q,Zt⟩
 exact ⟨O2 q (fun _ => q) q q,O2 q (fun _ => q) q q,Zt⟩
 exact ⟨O2 q (fun _ => q) q q,O2 q (fun _ => q) q q,Zt⟩
 exact ⟨O2 q (fun _ => q) q q,O2 q (fun _ => q) q q,Zt⟩
 refine ⟨fun F => ?_,fun F => ?_,Zt⟩
 refine WL.wing [] q q q q (f44_58z_c _ _ _ hr51) ⟨Zl,Zl,Zl,Zl,Zt⟩ q (by decide) q Zt q q (Zw q) q q (fun r' new hS => ?_)
 obtain ⟨rfl,rfl⟩:=hS
 refine ⟨_,_,q,q,q,q,?_⟩
 exact Zd q q q
 refine WL.wing [] q q q q (f44_58z_c _ _ _ hr51) ⟨Zl,Zl,Zl,Zl,Zt⟩ q (by decide) q Zt q q (Zw q) q q (fun r' new hS => ?_)
 obtain ⟨rfl,rfl⟩:=hS
 refine ⟨_,_,q,q,q,q,?_⟩
 exact Zd q q q
 exact ⟨O2 q (fun _ => q) q q,O2 q (fun _ => q) q q,Zt⟩
 exact ⟨O2 q (fun _ => q) q q,O2 q (fun _ => q) q q,Zt⟩
 exact ⟨O2 q (fun _ => q) q q,O2 q (fun _ => q) q q,O2 q (fun _ => q) q q,Zt⟩
 exact ⟨O2 q (fun _ => q) q q,O2 q (fun _ => q) q q,O2 q (fun _ => q) q q,Zt⟩
 refine ⟨fun F => ?_,Zt⟩
 exact Al z41 q (Zd q q q)
 refine ⟨fun F => ?_,Zt⟩
 exact WL.s0 (d_store q q q q q q s41 q q) (Zw q) q (WL.done0 q q)
 exact O1 q (fun _ => q) q q
 exact O1 q (fun _ => q) q q
 exact En5 h
 replace h:=condF h hb4
 obtain ⟨r53,hr53,h⟩:=bindS h
 apply RT [_,_,_,_,_,_,_,_,_,_,_,_,_,_,_,_,_,_,_,_,_,_,_,_,_,_,_,_,.u,_,_] [27,28] [[.row 41 n19,.row 41 n19],[.row 41 n19,.row 41 (vecA 16 (fun j => .n (r53.1.r j)) ++ ([.n r53.1.pc,.n r53.1.exc,.n r53.1.defer] : List AV))]] [([],[0],[0,1]),([],[4],[0,1]),([],[5],[0,1]),([2],[],[0,1]),([3],[],[0,1]),([4],[5],[0,1]),([5,4],[],[0,1]),([4,6],[],[0,1]),([7],[],[0,1]),([8],[],[0,1]),([8],[],[0,1]),([8],[],[0,1]),([8,11],[],[0,1]),([12],[],[0,1]),([13],[],[0,1]),([13],[],[0,1]),([13],[],[0,1]),([13],[],[0,1]),([13],[],[0,1]),([13],[],[0,1]),([13,19],[],[0,1]),([],[5],[0,1]),([0,1,20,21],[],[0,1]),([22],[],[0,1]),([23],[],[0,1]),([23],[],[0,1,2]),([23],[],[0,1,2]),([],[],[0]),([27,24],[],[1]),([25],[],[2]),([26],[],[2])] (by kernel_rfl) (by kernel_rfl) q q
 refine ⟨?_,?_,?_,?_,?_,?_,?_,?_,?_,?_,?_,?_,?_,?_,?_,?_,?_,?_,?_,?_,?_,?_,?_,?_,?_,?_,?_,?_,?_,?_,?_,Zt⟩
 exact ⟨O2 q (fun _ => q) q q,O2 q (fun _ => q) q q,Zt⟩
 exact ⟨O2 q (fun _ => q) q q,O2 q (fun _ => q) q q,Zt⟩
 exact ⟨O2 q (fun _ => q) q q,O2 q (fun _ => q) q q,Zt⟩
 exact ⟨O2 q (fun _ => q) q q,O2 q (fun _ => q) q q,Zt⟩
 refine ⟨fun F => ?_,fun F => ?_,Zt⟩
 exact Rl 1 q (WL.cast 16 q (Le.ofd (Cb hb3)) (WL.done2 q q q))
 exact Rl 1 q (WL.cast 16 q (Le.ofd (Cb hb3)) (WL.done2 q q q))
 exact ⟨O2 q (fun _ => q) q q,O2 q (fun _ => q) q q,Zt⟩
 exact ⟨O2 q (fun _ => q) q q,O2 q (fun _ => q) q q,Zt⟩
 exact ⟨O2 q (fun _ => q) q q,O2 q (fun _ => q) q q,Zt⟩
 refine ⟨fun F => ?_,fun F => ?_,Zt⟩
 exact Rl 1 q (WL.cast 20 q (Le.ofd (Cb hb4)) (WL.done2 q q q))
 exact Rl 1 q (WL.cast 20 q (Le.ofd (Cb hb4)) (WL.done2 q q q))
 exact ⟨O2 q (fun _ => q) q q,O2 q (fun _ => q) q q,Zt⟩
 exact ⟨O2 q (fun _ => q) q q,O2 q (fun _ => q) q q,Zt⟩
 exact ⟨O2 q (fun _ => q) q q,O2 q (fun _ => q) q q,Zt⟩
 exact ⟨O2 q (fun _ => q) q q,O2 q (fun _ => q) q q,Zt⟩
 exact ⟨O2 q (fun _ => q) q q,O2 q (fun _ => q) q q,Zt⟩
 exact ⟨O2 q (fun _ => q) q q,O2 q (fun _ => q) q q,Zt⟩
 exact ⟨O2 q (fun _ => q) q q,O2 q (fun _ => q) q q,Zt⟩
 exact ⟨O2 q (fun _ => q) q q,O2 q (fun _ => q) q q,Zt⟩
 exact ⟨O2 q (fun _ => q) q q,O2 q (fun _ => q) q q,Zt⟩
 exact ⟨O2 q (fun _ => q) q q,O2 q (fun _ => q) q q,Zt⟩
 exact ⟨O2 q (fun _ => q) q q,O2 q (fun _ => q) q q,Zt⟩
 exact ⟨O2 q (fun _ => q) q q,O2 q (fun _ => q) q q,Zt⟩
 exact ⟨O2 q (fun _ => q) q q,O2 q (fun _ => q) q q,Zt⟩
 refine ⟨fun F => ?_,fun F => ?_,Zt⟩
 refine WL.wing [] q q q q (f44_58z_c _ _ _ hr53) ⟨Zl,Zl,Zl,Zl,Zt⟩ q (by decide) q Zt q q (Zw q) q q (fun r' new hS => ?_)
 obtain ⟨rfl,rfl⟩:=hS
 refine ⟨_,_,q,q,q,q,?_⟩
 exact Zd q q q
 refine WL.wing [] q q q q (f44_58z_c _ _ _ hr53) ⟨Zl,Zl,Zl,Zl,Zt⟩ q (by decide) q Zt q q (Zw q) q q (fun r' new hS => ?_)
 obtain ⟨rfl,rfl⟩:=hS
 refine ⟨_,_,q,q,q,q,?_⟩
 exact Zd q q q
 exact ⟨O2 q (fun _ => q) q q,O2 q (fun _ => q) q q,Zt⟩
 exact ⟨O2 q (fun _ => q) q q,O2 q (fun _ => q) q q,Zt⟩
 exact ⟨O2 q (fun _ => q) q q,O2 q (fun _ => q) q q,O2 q (fun _ => q) q q,Zt⟩
 exact ⟨O2 q (fun _ => q) q q,O2 q (fun _ => q) q q,O2 q (fun _ => q) q q,Zt⟩
 refine ⟨fun F => ?_,Zt⟩
 exact Al z41 q (Zd q q q)
 refine ⟨fun F => ?_,Zt⟩
 exact WL.s0 (d_store q q q q q q s41 q q) (Zw q) q (WL.done0 q q)
 exact O1 q (fun _ => q) q q
 exact O1 q (fun _ => q) q q
 exact En5 h
 replace h:=condF h hb3
 obtain ⟨r55,hr55,h⟩:=bindS h
 apply RT [_,_,_,_,_,_,_,_,_,_,_,_,_,_,_,_,_,_,_,_,_,_,_,_,_,_,_,_,.u,_,_] [27,28] [[.row 41 n19,.row 41 n19],[.row 41 n19,.row 41 (vecA 16 (fun j => .n (r55.1.r j)) ++ ([.n r55.1.pc,.n r55.1.exc,.n r55.1.defer] : List AV))]] [([],[0],[0,1]),([],[4],[0,1]),([],[5],[0,1]),([2],[],[0,1]),([3],[],[0,1]),([4],[],[0,1]),([4],[],[0,1]),([4,6],[],[0,1]),([7],[],[0,1]),([8],[],[0,1]),([8],[],[0,1]),([8],[],[0,1]),([8,11],[],[0,1]),([12],[],[0,1]),([13],[],[0,1]),([13],[],[0,1]),([13],[],[0,1]),([13],[],[0,1]),([13],[],[0,1]),([13],[],[0,1]),([13,19],[],[0,1]),([],[5],[0,1]),([0,1,20,21],[],[0,1]),([22],[],[0,1]),([23],[],[0,1]),([23],[],[0,1,2]),([23],[],[0,1,2]),([],[],[0]),([27,24],[],[1]),([25],[],[2]),([26],[],[2])] (by kernel_rfl) (by kernel_rfl) q q
 refine ⟨?_,?_,?_,?_,?_,?_,?_,?_,?_,?_,?_,?_,?_,?_,?_,?_,?_,?_,?_,?_,?_,?_,?_,?_,?_,?_,?_,?_,?_,?_,?_,Zt⟩
 exact ⟨O2 q (fun _ => q) q q,O2 q (fun _ => q) q q,Zt⟩
 exact ⟨O2 q (fun _ => q) q q,O2 q (fun _ => q) q q,Zt⟩
 exact ⟨O2 q (fun _ => q) q q,O2 q (fun _ => q) q q,Zt⟩
 exact ⟨O2 q (fun _ => q) q q,O2 q (fun _ => q) q q,Zt⟩
 refine ⟨fun F => ?_,fun F => ?_,Zt⟩
 exact Rl 1 q (WL.cast 16 q (Le.ofd (Cb hb3)) (WL.done2 q q q))
 exact Rl 1 q (WL.cast 16 q (Le.ofd (Cb hb3)) (WL.done2 q q q))
 exact ⟨O2 q (fun _ => q) q q,O2 q (fun _ => q) q q,Zt⟩
 exact ⟨O2 q (fun _ => q) q q,O2 q (fun _ => q) q q,Zt⟩
 exact ⟨O2 q (fun _ => q) q q,O2 q (fun _ => q) q q,Zt⟩
 exact ⟨O2 q (fun _ => q) q q,O2 q (fun _ => q) q q,Zt⟩
 exact ⟨O2 q (fun _ => q) q q,O2 q (fun _ => q) q q,Zt⟩
 exact ⟨O2 q (fun _ => q) q q,O2 q (fun _ => q) q q,Zt⟩
 exact ⟨O2 q (fun _ => q) q q,O2 q (fun _ => q) q q,Zt⟩
 exact ⟨O2 q (fun _ => q) q q,O2 q (fun _ => q) q q,Zt⟩
 exact ⟨O2 q (fun _ => q) q q,O2 q (fun _ => q) q q,Zt⟩
 exact ⟨O2 q (fun _ => q) q q,O2 q (fun _ => q) q q,Zt⟩
 exact ⟨O2 q (fun _ => q) q q,O2 q (fun _ => q) q q,Zt⟩
 exact ⟨O2 q (fun _ => q) q q,O2 q (fun _ => q) q q,Zt⟩
 exact ⟨O2 q (fun _ => q) q q,O2 q (fun _ => q) q q,Zt⟩
 exact ⟨O2 q (fun _ => q) q q,O2 q (fun _ => q) q q,Zt⟩
 exact ⟨O2 q (fun _ => q) q q,O2 q (fun _ => q) q q,Zt⟩
 exact ⟨O2 q (fun _ => q) q q,O2 q (fun _ => q) q q,Zt⟩
 exact ⟨O2 q (fun _ => q) q q,O2 q (fun _ => q) q q,Zt⟩
 refine ⟨fun F => ?_,fun F => ?_,Zt⟩
 refine WL.wing [] q q q q (f44_58z_c _ _ _ hr55) ⟨Zl,Zl,Zl,Zl,Zt⟩ q (by decide) q Zt q q (Zw q) q q (fun r' new hS => ?_)
 obtain ⟨rfl,rfl⟩:=hS
 refine ⟨_,_,q,q,q,q,?_⟩
 exact Zd q q q
 refine WL.wing [] q q q q (f44_58z_c _ _ _ hr55) ⟨Zl,Zl,Zl,Zl,Zt⟩ q (by decide) q Zt q q (Zw q) q q (fun r' new hS => ?_)
 obtain ⟨rfl,rfl⟩:=hS
 refine ⟨_,_,q,q,q,q,?_⟩
 exact Zd q q q
 exact ⟨O2 q (fun _ => q) q q,O2 q (fun _ => q) q q,Zt⟩
 exact ⟨O2 q (fun _ => q) q q,O2 q (fun _ => q) q q,Zt⟩
 exact ⟨O2 q (fun _ => q) q q,O2 q (fun _ => q) q q,O2 q (fun _ => q) q q,Zt⟩
 exact ⟨O2 q (fun _ => q) q q,O2 q (fun _ => q) q q,O2 q (fun _ => q) q q,Zt⟩
 refine ⟨fun F => ?_,Zt⟩
 exact Al z41 q (Zd q q q)
 refine ⟨fun F => ?_,Zt⟩
 exact WL.s0 (d_store q q q q q q s41 q q) (Zw q) q (WL.done0 q q)
 exact O1 q (fun _ => q) q q
 exact O1 q (fun _ => q) q q
 exact En5 h
 refine Rcl 4 q (WL.s0 (d_store q q q q q q s41 q q) (Zw q) q (St q (Rlx 4 q ?_)))
 obtain rfl:=Oi h
 exact we_ret_g (new:=[]) (r0:=.d (.tu [.ag (R41 (Regs.mk c1045 c11646 c11747 c11848)),.i .i64 e44])) (rs2 q (rv_cN q q a41 s41 q) (rv_t q)) (Le.tud ⟨(Le.agd (Zs _)),Zl,Zt⟩) q Zt ⟨q,q⟩

theorem f24z_c (o1 : Int) (k2 : Int) {r : Int × Int} (h : f24z o1 k2 = some r) : Ctr Tryz.prog 24 [.d (.v (.pointer none)),.n o1,.n k2] [] (WinG 0 (fun r' new => r' = .d (.tu [.i .i64 r.1,.i .i64 r.2]) ∧ new = [])):=by
 unfold f24z at h
 refine ctr_intro Tryz.func24 (by kernel_rfl) q q q (fun mm φφ ww hmm => ?_)
 refine Rcl 10 q (WL.wing [] q q q q (f47z_c  (r:=true) q) ⟨Zl,Zt⟩ q (by decide) q Zt q q (Zw q) q q (fun r' new hS => ?_))
 obtain ⟨rfl,rfl⟩:=hS
 refine ⟨_,_,q,q,q,q,?_⟩
 refine St q (Rlc 2 q (wc_true q (Rcx 8 q ?_)))
 obtain rfl:=Oi h
 exact we_ret_g (new:=[]) (r0:=.d (.tu [.i .i64 0,.i .i64 1])) (rs2 q (rv_t q) (rv_t q)) (Le.tud ⟨Zl,Zl,Zt⟩) q Zt ⟨q,q⟩

theorem f26z_c (o1 : Int) (k2 : Int) (v3 : Int) {r : Int} (h : f26z o1 k2 v3 = some r) : Ctr Tryz.prog 26 [.d (.v (.pointer none)),.n o1,.n k2,.n v3] [] (WinG 0 (fun r' new => r' = .d (.i .i64 r) ∧ new = [])):=by
 unfold f26z at h
 refine ctr_intro Tryz.func26 (by kernel_rfl) q q q (fun mm φφ ww hmm => ?_)
 refine Rcl 9 q (WL.wing [] q q q q (f47z_c  (r:=true) q) ⟨Zl,Zt⟩ q (by decide) q Zt q q (Zw q) q q (fun r' new hS => ?_))
 obtain ⟨rfl,rfl⟩:=hS
 refine ⟨_,_,q,q,q,q,?_⟩
 refine St q (Rlc 2 q (wc_true q (Rcx 7 q ?_)))
 obtain rfl:=Oi h
 exact we_ret_g (new:=[]) (r0:=.d (.i .i64 1)) (rs1 q (rv_t q)) Zl q Zt ⟨q,q⟩

theorem f42_c (s0 : List Int) {r : List Int} (h : f42 s0 = some r) : Pu Tryz.prog 42 [.sl (List.map E2 s0)] (.sl (List.map E2 r)):=by
 unfold f42 at h
 replace h:=guardBS h
 obtain ⟨hg,h⟩:=h
 obtain rfl:=Oi h
 refine fn_intro Tryz.func42 (by kernel_rfl) q q q (fun φφ ww => ?_)
 refine Rcl 9 q (WL.isnil false q Tryz.underlying42 q Zl (Zw q) q (fun b hb => ?_))
 refine Rlc 2 q (wc_cond q (fun hc => ?_) (fun hc => ?_))
 have hb2:=hb (by cases b <;> first | rfl | cases hc)
 exact Rcx 7 q (we_ret_fn (rs1 q (rv_t q)) (by rw [hb2]; exact Le.nil))
 exact Rcl 4 q (WL.s ((b_buildNone l42).does) (Zw q) q q (Rl 1 q (WL.s ((b_appendFd ([] : List Int) s0 E2_eq l42 z2 q (by decide) q q q (Src.dataL Zl E2_eq (fun _ => q)) (fun _ => q) hg).does) (Zw q) q q (Rlx 4 q (we_ret_fn (rs1 q (rv_t q)) Zl)))))

theorem f42c_c (s0 : List Int) {v0 : Nat} {r : List Int} (h : f42c s0 = some r) : Ctr Tryz.prog 42 [.os 0 v0] [.os 2 1 v0 (eM E2 s0)] (WinG 1 (fun r' new => r' = .l E2 r ∧ new = [.os 2 1 v0 (eM E2 s0)])):=by
 unfold f42c at h
 replace h:=guardBS h
 obtain ⟨hg,h⟩:=h
 obtain rfl:=Oi h
 refine ctr_intro Tryz.func42 (by kernel_rfl) q q q (fun mm φφ ww hmm => ?_)
 refine Rcl 9 q (WL.isnilO Tryz.underlying42 q q (Zw q) q (fun b hb => ?_))
 refine Rlc 2 q (wc_cond q (fun hc => ?_) (fun hc => ?_))
 have hb2:=hb hc
 exact Rcx 7 q (we_ret_g (new:=[.os 2 1 v0 (eM E2 s0)]) (r0:=.l E2 s0) (rs1 q (rv_t q)) (by rw [hb2]; exact Le.nil) q ⟨Zf,Zt⟩ ⟨q,q⟩)
 exact Rcl 4 q (WL.s ((b_buildNone l42).does) (Zw q) q q (Rl 1 q (WL.s ((b_appendFd ([] : List Int) s0 E2_eq l42 z2 q (by decide) q q q (Src.own q) (fun _ => q) hg).does) (Zw q) q q (Rlx 4 q (we_ret_g (new:=[.os 2 1 v0 (eM E2 s0)]) (r0:=.l E2 s0) (rs1 q (rv_t q)) Zl q ⟨Zf,Zt⟩ ⟨q,q⟩)))))

theorem f42m_c (s0 : List (List Int)) (j0 : Int) {v0 : Nat} {r : List Int} (h : f42m s0 j0 = some r) : Ctr Tryz.prog 42 [.osf 0 (Int.toNat j0) v0] [.fam 2 1 v0 (famM E2 s0)] (WinG 1 (fun r' new => r' = .l E2 r ∧ new = [.fam 2 1 v0 (famM E2 s0)])):=by
 unfold f42m at h
 obtain ⟨M,hM,h⟩:=bindS h
 replace h:=guardBS h
 obtain ⟨hg,h⟩:=h
 obtain rfl:=Oi h
 refine ctr_intro Tryz.func42 (by kernel_rfl) q q q (fun mm φφ ww hmm => ?_)
 refine Rcl 9 q (WL.isnilM Tryz.underlying42 q q (idx_get hM) (Zw q) q (fun b hb => ?_))
 refine Rlc 2 q (wc_cond q (fun hc => ?_) (fun hc => ?_))
 have hb2:=hb hc
 exact Rcx 7 q (we_ret_g (new:=[.fam 2 1 v0 (famM E2 s0)]) (r0:=.l E2 M) (rs1 q (rv_t q)) (by rw [hb2]; exact Le.nil) q ⟨Zf,Zt⟩ ⟨q,q⟩)
 exact Rcl 4 q (WL.s ((b_buildNone l42).does) (Zw q) q q (Rl 1 q (WL.s ((b_appendFd ([] : List Int) M E2_eq l42 z2 q (by decide) q q q (Src.mem q (idx_get hM)) (fun _ => q) hg).does) (Zw q) q q (Rlx 4 q (we_ret_g (new:=[.fam 2 1 v0 (famM E2 s0)]) (r0:=.l E2 M) (rs1 q (rv_t q)) Zl q ⟨Zf,Zt⟩ ⟨q,q⟩)))))

theorem f28_c (mI : List Insn) (mH : List MHandler) (mO : List Obj) (mE : Int) (mN : List Int) (mS : List (List Int)) (mU : List Int) {vo : Nat} {vf : Nat} {vu : Nat} {r : List (List Int)} (h : f28 mI mH mO mE mN mS mU = some r) : Ctr Tryz.prog 28 [.pt 0 0] (wM mI mH mO mE vo mN vu vf mS mU) (WinG 4 (fun r' new => r' = .l E42 r ∧ new = (wM mI mH mO mE vo mN vu vf mS mU))):=by
 unfold f28 at h
 refine ctr_intro Tryz.func28 (by kernel_rfl) q q q (fun mm φφ ww hmm => ?_)
 refine Rcl 9 q ?_
 obtain ⟨r33,hr33,h⟩:=bindS h
 refine WL.wing [0,1,2,3] q q q q (f47_c _ _ _ _ _ _ _ hr33) ⟨Zl,Zt⟩ q (by decide) (Re (Rg (Rf (Ro q)))) ⟨q,q,q,q,Zt⟩ Kv q (Zw q) q q (fun r' new hS => ?_)
 obtain ⟨rfl,rfl⟩:=hS
 refine ⟨_,_,q,(Re (Rg (Rf (Ro q)))),q,Kv,?_⟩
 refine St q (Rlc 2 q (Ci h q (fun h => ?_) (fun h => ?_)))
 refine Rcx 7 q ?_
 obtain rfl:=Oi h
 exact we_ret_g (new:=(wM mI mH mO mE vo mN vu vf mS mU)) (r0:=.l E42 []) (rs1 q (rv_t q)) Le.nil q ⟨Zp,Zf,Zf,Zf,Zt⟩ ⟨q,q⟩
 refine Rcl 8 q (Zq (y_len_fam e62 q q q) q ?_)
 replace h:=guardBS h
 obtain ⟨hgg35,h⟩:=h
 refine WL.s ((NewOs.b (NewOs.weak (n_makeSlice l62 z42 q (Nat.succ_pos _) q q hgg35) (by exact replicate_le (R:=E42) (z:=([] : List Int)) (show Les [sN] [AV.d (.sl [])] from ⟨Le.nil,Zt⟩) _))).does) (Zw q) q q (Rlc 3 q (Jn1 (fun _ => [(3,.os 4 0)]) (fun l36 => [.row 90 (mR mI mH mO mE 1 vo mN 3 vu),.os 42 1 vo (famE 2 vf (List.length mS)),.fam 2 1 vf (famM E2 mS),.os 2 1 vu (eM E2 mU),.os 42 1 0 (eM E42 l36)]) h (fun k37 h => ?_) (fun l36 h => ?_)))
 refine Rcl 6 q (Zq (y_len_fam e62 q q q) q (Rlc 4 q (Ln2 (fun t40 _ => [(3,.os 4 0),(17,.os 1 vo),(18,.n (List.length mS : Int)),(19,.n t40)]) (fun _ l41 => [.row 90 (mR mI mH mO mE 1 vo mN 3 vu),.os 42 1 vo (famE 2 vf (List.length mS)),.fam 2 1 vf (famM E2 mS),.os 2 1 vu (eM E2 mU),.os 42 1 0 (eM E42 l41)]) (f28_l1 mS k37) h (fun _ _ h => by rw [f28_l1] at h; cases h) (fun n t40 l41 h => ?_))))
 rw [f28_l1] at h
 refine Rcc 6 q (Ci h q (fun h => ?_) (fun h => ?_))
 refine Rcl 7 q ?_
 obtain ⟨x44,hx44,h⟩:=bindS h
 refine Zq (y_pe_fam e62 q q q (idx_nonneg hx44) (idx_lt hx44)) q (Zq (y_load_mem (i:=t40) q q a42 (idx_toNat hx44)) q (Rll 8 q ?_))
 obtain ⟨r45,hr45,h⟩:=bindS h
 refine WL.wing [2] q q q q (f42m_c _ _ hr45) ⟨Zl,Zt⟩ q (by decide) (Rf q) ⟨q,Zt⟩ Kv q (Zw q) q q (fun r' new hS => ?_)
 obtain ⟨rfl,rfl⟩:=hS
 refine ⟨_,_,q,(Rf q),q,Kv,?_⟩
 refine St q ?_
 obtain ⟨x47,hx47,h⟩:=bindS h
 exact Zq (y_pe e62 q q q hx47) q (WL.s0 (d_store_peL (R:=E42) (k:=1) (i:=t40) (fo:=0) r45 q q q q Zl q q q s42 q (fun _ => q) hx47 q q) (Zw q) q (Rlx 7 q (Fn2 h)))
 exact Rcx 4 q (En1 h)
 refine Rcx 7 q ?_
 refine WE.freezeX [3,30,2] [] 4 _ q (encA_map E42_eq _) ⟨q,q,q,Zt⟩ Zt ?_
 obtain rfl:=Oi h
 exact we_ret_g (new:=(wM mI mH mO mE vo mN vu vf mS mU)) (r0:=.l E42 l36) (rs1 q (rv_t q)) Zl q ⟨Zp,Zf,Zf,Zf,Zt⟩ ⟨q,q⟩

theorem f13_c (mI : List Insn) (mH : List MHandler) (mO : List Obj) (mE : Int) (mN : List Int) (mS : List (List Int)) (mU : List Int) {vo : Nat} {vf : Nat} {vu : Nat} {r : List Int} (h : f13 mI mH mO mE mN mS mU = some r) : Ctr Tryz.prog 13 [.pt 0 0] (wM mI mH mO mE vo mN vu vf mS mU) (WinG 4 (fun r' new => r' = .l E2 r ∧ new = (wM mI mH mO mE vo mN vu vf mS mU))):=by
 unfold f13 at h
 refine ctr_intro Tryz.func13 (by kernel_rfl) q q q (fun mm φφ ww hmm => ?_)
 refine Rcl 9 q ?_
 obtain ⟨r12,hr12,h⟩:=bindS h
 refine WL.wing [0,1,2,3] q q q q (f47_c _ _ _ _ _ _ _ hr12) ⟨Zl,Zt⟩ q (by decide) (Re (Rg (Rf (Ro q)))) ⟨q,q,q,q,Zt⟩ Kv q (Zw q) q q (fun r' new hS => ?_)
 obtain ⟨rfl,rfl⟩:=hS
 refine ⟨_,_,q,(Re (Rg (Rf (Ro q)))),q,Kv,?_⟩
 refine St q (Rlc 2 q (Ci h q (fun h => ?_) (fun h => ?_)))
 refine Rcx 7 q ?_
 obtain rfl:=Oi h
 exact we_ret_g (new:=(wM mI mH mO mE vo mN vu vf mS mU)) (r0:=.l E2 []) (rs1 q (rv_t q)) Le.nil q ⟨Zp,Zf,Zf,Zf,Zt⟩ ⟨q,q⟩
 refine Rcl 8 q ?_
 obtain ⟨r14,hr14,h⟩:=bindS h
 refine WL.fn q q q q (f42_c _ hr14) ⟨Zl,Zt⟩ (Zw q) q q (Rlx 4 q ?_)
 obtain rfl:=Oi h
 exact we_ret_g (new:=(wM mI mH mO mE vo mN vu vf mS mU)) (r0:=.l E2 r14) (rs1 q (rv_t q)) Zl q ⟨Zp,Zf,Zf,Zf,Zt⟩ ⟨q,q⟩

theorem f15_c (mI : List Insn) (mH : List MHandler) (mO : List Obj) (mE : Int) (mN : List Int) (mS : List (List Int)) (mU : List Int) {vo : Nat} {vf : Nat} {vu : Nat} {r : List Int} (h : f15 mI mH mO mE mN mS mU = some r) : Ctr Tryz.prog 15 [.pt 0 0] (wM mI mH mO mE vo mN vu vf mS mU) (WinG 4 (fun r' new => r' = .l E2 r ∧ new = (wM mI mH mO mE vo mN vu vf mS mU))):=by
 unfold f15 at h
 refine ctr_intro Tryz.func15 (by kernel_rfl) q q q (fun mm φφ ww hmm => ?_)
 refine Rcl 9 q ?_
 obtain ⟨r12,hr12,h⟩:=bindS h
 refine WL.wing [0,1,2,3] q q q q (f47_c _ _ _ _ _ _ _ hr12) ⟨Zl,Zt⟩ q (by decide) (Re (Rg (Rf (Ro q)))) ⟨q,q,q,q,Zt⟩ Kv q (Zw q) q q (fun r' new hS => ?_)
 obtain ⟨rfl,rfl⟩:=hS
 refine ⟨_,_,q,(Re (Rg (Rf (Ro q)))),q,Kv,?_⟩
 refine St q (Rlc 2 q (Ci h q (fun h => ?_) (fun h => ?_)))
 refine Rcx 7 q ?_
 obtain rfl:=Oi h
 exact we_ret_g (new:=(wM mI mH mO mE vo mN vu vf mS mU)) (r0:=.l E2 []) (rs1 q (rv_t q)) Le.nil q ⟨Zp,Zf,Zf,Zf,Zt⟩ ⟨q,q⟩
 refine Rcl 8 q ?_
 obtain ⟨r14,hr14,h⟩:=bindS h
 refine WL.wing [3] q q q q (f42c_c _ hr14) ⟨Zl,Zt⟩ q (by decide) (Ro q) ⟨q,Zt⟩ Kv q (Zw q) q q (fun r' new hS => ?_)
 obtain ⟨rfl,rfl⟩:=hS
 refine ⟨_,_,q,(Ro q),q,Kv,?_⟩
 refine St q (Rlx 4 q ?_)
 obtain rfl:=Oi h
 exact we_ret_g (new:=(wM mI mH mO mE vo mN vu vf mS mU)) (r0:=.l E2 r14) (rs1 q (rv_t q)) Zl q ⟨Zp,Zf,Zf,Zf,Zt⟩ ⟨q,q⟩

theorem f41_c (t0 : Text) {vo : Nat} {vf : Nat} {r : List (List Int)} (h : f41 t0 = some r) : Ctr Tryz.prog 41 [.d (.ag (R38 t0))] [.rsv,.rsv] (WinG 2 (fun r' new => r' = .os 0 vo ∧ new = [.os 42 1 vo (famE 1 vf (List.length r)),.fam 2 1 vf (famM E2 r)])):=by
 unfold f41 at h
 refine ctr_intro Tryz.func41 (by kernel_rfl) q q q (fun mm φφ ww hmm => ?_)
 refine Rcl 2 q (Bd q q (Zs _) q (Rll 7 q ?_))
 obtain ⟨r72,hr72,h⟩:=bindS h
 refine WL.fn q q q q (f37_c _ hr72) ⟨Zl,Zt⟩ (Zw q) q q (Rlc 3 q (Ci h q (fun h => ?_) (fun h => ?_)))
 refine Rcx 7 q ?_
 cases h
 refine Rcl 6 q (Zq (y_len_map E101 t0.objs e33 q q Zl) q ?_)
 replace h:=guardBS h
 obtain ⟨hgg73,h⟩:=h
 refine WL.s ((NewOs.b (n_makeSlice l62 z42 q (Nat.succ_pos _) q q hgg73)).does) (Zw q) q q (Gh.wl (gh_fam_new E2 2 2 1 q) (Rlc 3 q ?_))
 replace h:=letkS h
 obtain ⟨k76,hk76,h⟩:=h
 refine wc_cut (fun env' st' => ∃ (l74 : List (List Int)),∃ (ver75 : Nat),k76 l74 = some r ∧ Sub [(1,.d (.pc (R38 t0))),(3,.os 2 0)] env' ∧ SLe st' [.rsv,.rsv,.os 42 1 0 (famE 3 ver75 (List.length l74)),.fam 2 1 ver75 (famM E2 l74)]) ?_ ?_
 refine Rcl 4 q (Zq (y_len_map E101 t0.objs e33 q q Zl) q (Rlc 4 q (wc_loop (fun n env' st' => ∃ (t80 : Int),∃ (l81 : List (List Int)),∃ (ver82 : Nat),f41_l1 t0 k76 n t80 l81 = some r ∧ Sub [(1,.d (.pc (R38 t0))),(3,.os 2 0),(17,.l E101 t0.objs),(18,.n (List.length t0.objs : Int)),(19,.n t80)] env' ∧ SLe st' [.rsv,.rsv,.os 42 1 0 (famE 3 ver82 (List.length l81)),.fam 2 1 ver82 (famM E2 l81)]) (fun n => n) (Int.toNat ((List.length t0.objs : Int) - 0) + 1) ⟨0,(List.replicate (Int.toNat (List.length t0.objs : Int)) ([] : List Int)),_,h,(Sx q (Sx q (Sx q (Sx q (Sx q (Sub.nil _)))))),⟨Zt,Zt,Zf,Zf,Zt⟩⟩ ?_)))
 rintro n env1 st1 ⟨t80,l81,ver82,h,hsub,hst⟩
 rcases n with _ | n
 rw [f41_l1] at h; cases h
 rw [f41_l1] at h
 refine WC.sub hsub (WC.weak hst ?_)
 refine Rcc 6 q (Ci h q (fun h => ?_) (fun h => ?_))
 refine Rcc 2 q ?_
 replace h:=letkS h
 obtain ⟨k88,hk88,h⟩:=h
 refine wc_cut (fun env' st' => ∃ (l86 : List (List Int)),∃ (ver87 : Nat),k88 l86 = some r ∧ Sub [(1,.d (.pc (R38 t0))),(3,.os 2 0),(17,.l E101 t0.objs),(18,.n (List.length t0.objs : Int)),(19,.n t80)] env' ∧ SLe st' [.rsv,.rsv,.os 42 1 0 (famE 3 ver87 (List.length l86)),.fam 2 1 ver87 (famM E2 l86)]) ?_ ?_
 refine Rcl 4 q (Ix h e33 E101_eq q Zl q q fun x89 _ h => (Rl 1 q (Al z101 q (Rl 1 q (WL.s0 (d_store q q q q q q s101 q q) (Zw q) q (Rll 8 q ?_))))))
 replace h:=guardBS h
 obtain ⟨hgg90,h⟩:=h
 refine WL.s ((NewOs.b (NewOs.cast (n_makeSlice l42 z2 q (Nat.succ_pos _) q q hgg90) (by exact replicate_encA (R:=E2) (z:=(0 : Int)) q))).does) (Zw q) q q ?_
 obtain ⟨x91,hx91,h⟩:=bindS h
 refine Zq (y_pe_fam e62 q q q (idx_nonneg hx91) (idx_lt hx91)) q (WL.s0 (d_store_fam (i:=t80) (n:=List.length l81) q q q q s42 (idx_toNat hx91)) (Zw q) q (Gh.wl (gh_fam_put (L:=l81) (_x:=[]) (x':=(List.replicate (Int.toNat x89.size) (0 : Int))) (j:=Int.toNat t80) 2 3 5 (List.set l81 (Int.toNat t80) (List.replicate (Int.toNat x89.size) (0 : Int))) q q q q q (idx_toNat hx91) q) (Rll 5 q ?_)))
 obtain ⟨r92,hr92,h⟩:=bindS h
 refine WL.fn q q q q (f79_c _ _ hr92) ⟨(Le.agd (Zs _)),Zl,Zt⟩ (Zw q) q q (Rlc 3 q (Ci h q (fun h => ?_) (fun h => ?_)))
 refine Rcl 4 q ?_
 obtain ⟨x93,hx93,h⟩:=bindS h
 refine Zq (y_pe_fam e62 q q q (idx_nonneg hx93) (idx_lt hx93)) q (Gh.wl (gh_fam_take (L:=(List.set l81 (Int.toNat t80) (List.replicate (Int.toNat x89.size) (0 : Int)))) (x:=x93) (i:=t80) 2 3 q q q hx93) (Zq (y_load_fam (i:=t80) q q a42 (idx_toNat hx93)) q (Zq (y_len_osmap (encA E2) x93 e42 q q q) q (Rlx 2 q (Gh.we (gh_fam_back (L0:=(List.set l81 (Int.toNat t80) (List.replicate (Int.toNat x89.size) (0 : Int)))) (x':=x93) 2 3 6 q q q q q (idx_toNat hx93)) ?_)))))
 refine WE.sto (st':=[.rsv,.rsv,.os 42 1 0 (famE 3 (((ver82 + 1) + 1) + 1) (List.length (List.set l81 (Int.toNat t80) (List.replicate (Int.toNat x89.size) (0 : Int))))),.fam 2 1 (((ver82 + 1) + 1) + 1) (famM E2 (List.set l81 (Int.toNat t80) (List.replicate (Int.toNat x89.size) (0 : Int)))),.row 101 [.n x89.size,.n x89.lo,.n x89.hi,.d (D.b x89.ptr),.l E3 x89.set_],.dead,.dead]) (by show ([.rsv,.rsv,.os 42 1 0 (famE 3 (((ver82 + 1) + 1) + 1) (List.length (List.set (List.set l81 (Int.toNat t80) (List.replicate (Int.toNat x89.size) (0 : Int))) (Int.toNat t80) x93))),.fam 2 1 (((ver82 + 1) + 1) + 1) (famM E2 (List.set (List.set l81 (Int.toNat t80) (List.replicate (Int.toNat x89.size) (0 : Int))) (Int.toNat t80) x93)),.row 101 [.n x89.size,.n x89.lo,.n x89.hi,.d (D.b x89.ptr),.l E3 x89.set_],.dead,.dead] : List AO) = _; rw [set_idx_self hx93]) (Rxc 2 q ?_)
 refine wc_loop (fun na env' st' => ∃ (t97 : Int),∃ (l98 : List (List Int)),∃ (ver99 : Nat),f41_l2 t80 k88 x89 x93 na t97 l98 = some r ∧ Sub [(1,.d (.pc (R38 t0))),(3,.os 2 0),(4,.n t80),(5,.pt 4 0),(17,.l E101 t0.objs),(18,.n (List.length t0.objs : Int)),(19,.n t80),(37,.n (List.length x93 : Int)),(38,.n t97)] env' ∧ SLe st' [.rsv,.rsv,.os 42 1 0 (famE 3 ver99 (List.length l98)),.fam 2 1 ver99 (famM E2 l98),.row 101 [.n x89.size,.n x89.lo,.n x89.hi,.d (D.b x89.ptr),.l E3 x89.set_],.dead,.dead]) (fun n => n) (Int.toNat ((List.length x93 : Int) - 0) + 1) ⟨0,(List.set l81 (Int.toNat t80) (List.replicate (Int.toNat x89.size) (0 : Int))),_,h,(Sx q (Sx q (Sx q (Sx q (Sx q (Sx q (Sx q (Sx q (Sx q (Sub.nil _)))))))))),⟨Zt,Zt,Zf,Zf,Zp,Zt,Zt,Zt⟩⟩ ?_
 rintro na env1 st1 ⟨t97,l98,ver99,h,hsub,hst⟩
 rcases na with _ | na
 rw [f41_l2] at h; cases h
 rw [f41_l2] at h
 refine WC.sub hsub (WC.weak hst ?_)
 refine Rcc 6 q (Ci h q (fun h => ?_) (fun h => ?_))
 refine Rcc 10 q ?_
 obtain ⟨x103,hx103,h⟩:=bindS h
 obtain ⟨x104,hx104,h⟩:=bindS h
 apply RT [_,_,_,_,_,_,_,_,.u] [3,8] [[.rsv,.rsv,.os 42 1 0 (List.set (famE 3 (ver99 + 1) (List.length l98)) (Int.toNat t80) [.os 7 0]),.fam 2 1 (ver99 + 1) (famM E2 (List.set l98 (Int.toNat t80) [])),.row 101 [.n x89.size,.n x89.lo,.n x89.hi,.d (D.b x89.ptr),.l E3 x89.set_],.dead,.dead,.os 2 1 0 (eM E2 x103)],[.rsv,.rsv,.os 42 1 0 (List.set (famE 3 (ver99 + 1) (List.length l98)) (Int.toNat t80) [.os 7 0]),.fam 2 1 (ver99 + 1) (famM E2 (List.set l98 (Int.toNat t80) [])),.row 101 [.n x89.size,.n x89.lo,.n x89.hi,.d (D.b x89.ptr),.l E3 x89.set_],.dead,.dead,.os 2 1 0 (eM E2 (List.set x103 (Int.toNat t97) x89.lo))]] [([],[3],[0]),([],[4],[0]),([0,1],[],[0]),([2],[],[0]),([],[6],[0,1]),([],[5],[0,1]),([5],[],[0,1]),([3,4],[],[1]),([7,6],[],[1])] (by kernel_rfl) (by kernel_rfl) q q
 refine ⟨?_,?_,?_,?_,?_,?_,?_,?_,?_,Zt⟩
 exact O1 q (fun _ => q) q q
 exact O1 q (fun _ => q) q q
 refine ⟨fun F => ?_,Zt⟩
 exact Zq (y_pe_fam e62 q q q (idx_nonneg hx103) (idx_lt hx103)) q (Zd q q q)
 refine ⟨fun F => ?_,Zt⟩
 exact Gh.wl (gh_fam_take (L:=l98) (x:=x103) (i:=t80) 2 3 q q q hx103) (Zq (y_load_fam (i:=t80) q q a42 (idx_toNat hx103)) q (Zd q q q))
 exact ⟨O2 q (fun _ => q) q q,O2 q (fun _ => q) q q,Zt⟩
 exact ⟨O2 q (fun _ => q) q q,O2 q (fun _ => q) q q,Zt⟩
 exact ⟨O2 q (fun _ => q) q q,O2 q (fun _ => q) q q,Zt⟩
 refine ⟨fun F => ?_,Zt⟩
 exact Zq (y_pe e42 q q q hx104) q (Zd q q q)
 refine ⟨fun F => ?_,Zt⟩
 exact WL.s0 (d_store_peL (R:=E2) (k:=1) (i:=t97) (fo:=0) x89.lo q q q q Zl q q q s2 q (fun _ => q) hx104 q q) (Zw q) q (WL.done0 q q)
 exact Gh.we (gh_fam_back (L0:=l98) (x':=(List.set x103 (Int.toNat t97) x89.lo)) 2 3 7 q q q q q (idx_toNat hx103)) (Rxx 6 q (WE.drop 7 (env':=[(1,.d (.pc (R38 t0))),(3,.os 2 0),(4,.n t80),(5,.pt 4 0),(17,.l E101 t0.objs),(18,.n (List.length t0.objs : Int)),(19,.n t80),(37,.n (List.length x93 : Int)),(38,.n (IntKind.i64.wrap (t97 + 1)))]) (Sub.one q (Sub.one q (Sub.one q (Sub.one q (Sub.one q (Sub.one q (Sub.one q (Sub.one q (Sub.one q (Sub.nil _)))))))))) q Kv (Nat.le_trans (Nat.le_of_eq hmm) (Nat.le_of_ble_eq_true q)) (Fn3 h)))
 exact Rcx 5 q (WE.drop 4 (env':=[(1,.d (.pc (R38 t0))),(3,.os 2 0),(17,.l E101 t0.objs),(18,.n (List.length t0.objs : Int)),(19,.n t80)]) (Sub.one q (Sub.one q (Sub.one q (Sub.one q (Sub.one q (Sub.nil _)))))) q Kv (Nat.le_trans (Nat.le_of_eq hmm) (Nat.le_of_ble_eq_true q)) (En2 h))
 exact Rcx 2 q (WE.drop 4 (env':=[(1,.d (.pc (R38 t0))),(3,.os 2 0),(17,.l E101 t0.objs),(18,.n (List.length t0.objs : Int)),(19,.n t80)]) (Sub.one q (Sub.one q (Sub.one q (Sub.one q (Sub.one q (Sub.nil _)))))) q Kv (Nat.le_trans (Nat.le_of_eq hmm) (Nat.le_of_ble_eq_true q)) (En2 h))
 rintro env1 st1 ⟨l86,ver87,h,hsub,hst⟩
 subst hk88
 dsimp only at h
 refine WC.sub hsub (WC.weak hst ?_)
 exact Rcx 4 q (Fn3 h)
 exact Rcx 4 q (En2 h)
 rintro env1 st1 ⟨l74,ver75,h,hsub,hst⟩
 subst hk76
 dsimp only at h
 refine WC.sub hsub (WC.weak hst ?_)
 replace h:=letkS h
 obtain ⟨k107,hk107,h⟩:=h
 refine wc_cut (fun env' st' => ∃ (l105 : List (List Int)),∃ (ver106 : Nat),k107 l105 = some r ∧ Sub [(3,.os 2 0)] env' ∧ SLe st' [.rsv,.rsv,.os 42 1 0 (famE 3 ver106 (List.length l105)),.fam 2 1 ver106 (famM E2 l105)]) ?_ ?_
 refine Rcl 4 q (Zq (y_len_map E140 t0.inits e34 q q Zl) q (Rlc 4 q (wc_loop (fun n env' st' => ∃ (t111 : Int),∃ (l112 : List (List Int)),∃ (ver113 : Nat),f41_l3 t0 k107 n t111 l112 = some r ∧ Sub [(3,.os 2 0),(52,.l E140 t0.inits),(53,.n (List.length t0.inits : Int)),(54,.n t111)] env' ∧ SLe st' [.rsv,.rsv,.os 42 1 0 (famE 3 ver113 (List.length l112)),.fam 2 1 ver113 (famM E2 l112)]) (fun n => n) (Int.toNat ((List.length t0.inits : Int) - 0) + 1) ⟨0,l74,_,h,(Sx q (Sx q (Sx q (Sx q (Sub.nil _))))),⟨Zt,Zt,Zf,Zf,Zt⟩⟩ ?_)))
 rintro n env1 st1 ⟨t111,l112,ver113,h,hsub,hst⟩
 rcases n with _ | n
 rw [f41_l3] at h; cases h
 rw [f41_l3] at h
 refine WC.sub hsub (WC.weak hst ?_)
 refine Rcc 6 q (Ci h q (fun h => ?_) (fun h => ?_))
 refine Rcl 6 q (Ix h e34 E140_eq q Zl q q fun x117 _ h => (Rl 1 q (Al z140 q (WL.s0 (d_store q q q q q q s140 q q) (Zw q) q (Rlc 2 q ?_)))))
 obtain ⟨x118,hx118,h⟩:=bindS h
 obtain ⟨x119,hx119,h⟩:=bindS h
 apply RT [_,_,_,_,_,_,_,_,_,_,.u] [4,10] [[.rsv,.rsv,.os 42 1 0 (List.set (famE 3 (ver113 + 1) (List.length l112)) (Int.toNat x117.o) [.os 5 0]),.fam 2 1 (ver113 + 1) (famM E2 (List.set l112 (Int.toNat x117.o) [])),.row 140 [.n x117.o,.n x117.slot,.n x117.v],.os 2 1 0 (eM E2 x118)],[.rsv,.rsv,.os 42 1 0 (List.set (famE 3 (ver113 + 1) (List.length l112)) (Int.toNat x117.o) [.os 5 0]),.fam 2 1 (ver113 + 1) (famM E2 (List.set l112 (Int.toNat x117.o) [])),.row 140 [.n x117.o,.n x117.slot,.n x117.v],.os 2 1 0 (eM E2 (List.set x118 (Int.toNat x117.slot) x117.v))]] [([],[3],[0]),([],[8],[0]),([1],[],[0]),([0,2],[],[0]),([3],[],[0]),([],[8],[0,1]),([5],[],[0,1]),([],[8],[0,1]),([7],[],[0,1]),([4,6],[],[1]),([9,8],[],[1])] (by kernel_rfl) (by kernel_rfl) q q
 refine ⟨?_,?_,?_,?_,?_,?_,?_,?_,?_,?_,?_,Zt⟩
 exact O1 q (fun _ => q) q q
 exact O1 q (fun _ => q) q q
 exact O1 q (fun _ => q) q q
 refine ⟨fun F => ?_,Zt⟩
 exact Zq (y_pe_fam e62 q q q (idx_nonneg hx118) (idx_lt hx118)) q (Zd q q q)
 refine ⟨fun F => ?_,Zt⟩
 exact Gh.wl (gh_fam_take (L:=l112) (x:=x118) (i:=x117.o) 2 3 q q q hx118) (Zq (y_load_fam (i:=x117.o) q q a42 (idx_toNat hx118)) q (Zd q q q))
 exact ⟨O2 q (fun _ => q) q q,O2 q (fun _ => q) q q,Zt⟩
 exact ⟨O2 q (fun _ => q) q q,O2 q (fun _ => q) q q,Zt⟩
 exact ⟨O2 q (fun _ => q) q q,O2 q (fun _ => q) q q,Zt⟩
 exact ⟨O2 q (fun _ => q) q q,O2 q (fun _ => q) q q,Zt⟩
 refine ⟨fun F => ?_,Zt⟩
 exact Zq (y_pe e42 q q q hx119) q (Zd q q q)
 refine ⟨fun F => ?_,Zt⟩
 exact WL.s0 (d_store_peL (R:=E2) (k:=1) (i:=x117.slot) (fo:=0) x117.v q q q q Zl q q q s2 q (fun _ => q) hx119 q q) (Zw q) q (WL.done0 q q)
 exact Gh.we (gh_fam_back (L0:=l112) (x':=(List.set x118 (Int.toNat x117.slot) x117.v)) 2 3 5 q q q q q (idx_toNat hx118)) (Rxx 6 q (WE.drop 4 (env':=[(3,.os 2 0),(52,.l E140 t0.inits),(53,.n (List.length t0.inits : Int)),(54,.n (IntKind.i64.wrap (t111 + 1)))]) (Sub.one q (Sub.one q (Sub.one q (Sub.one q (Sub.nil _))))) q Kv (Nat.le_trans (Nat.le_of_eq hmm) (Nat.le_of_ble_eq_true q)) (Fn3 h)))
 exact Rcx 4 q (En2 h)
 rintro env1 st1 ⟨l105,ver106,h,hsub,hst⟩
 subst hk107
 dsimp only at h
 refine WC.sub hsub (WC.weak hst ?_)
 refine Rcx 7 q ?_
 obtain rfl:=Oi h
 exact we_ret_newv (st1:=[.rsv,.rsv,.os 42 1 0 (famE 3 ver106 (List.length l105)),.fam 2 1 ver106 (famM E2 l105)]) [2,3] (.os 0 0) [.os 42 1 0 (famE 1 ver106 (List.length l105)),.fam 2 1 ver106 (famM E2 l105)] (fun i => List.getD [0,ver106] i 0) (fun i => List.getD [vo,vf] i 0) (rs1 q (rv_t q)) q Zl ⟨OLe.refl _,OLe.refl _,OLe.refl _,OLe.refl _,Zt⟩ (by decide) (Rg (Rf q)) ⟨q,q,Zt⟩ Kv q hmm q q ⟨q,q,Zt⟩ q (cons_eq (rv_osf _ _ _ _ _ _ _ _ q) (cons_eq (rv_fam _ _ _ _ _ _ _ _) q)) (by simp [AV.rv,AV.rvs]) ⟨q,q⟩

theorem f40n_c (s0 : List Obj) {v0 : Nat} {r : List Obj} (h : f40n s0 = some r) : Ctr Tryz.prog 40 [.l E101 s0] [.rsv] (WinG 1 (fun r' new => r' = .os 0 v0 ∧ new = [.os 101 5 v0 (eM R101 r)])):=by
 unfold f40n at h
 replace h:=guardBS h
 obtain ⟨hg,h⟩:=h
 obtain rfl:=Oi h
 refine ctr_intro Tryz.func40 (by kernel_rfl) q q q (fun mm φφ ww hmm => ?_)
 refine Rcl 9 q (WL.isnil false q Tryz.underlying33 q Zl (Zw q) q (fun b hb => ?_))
 refine Rlc 2 q (wc_cond q (fun hc => ?_) (fun hc => ?_))
 have hb2:=hb (by cases b <;> first | rfl | cases hc)
 have hb3 : s0 = []:=by cases s0 <;> first | rfl | cases hb2
 subst hb3
 exact Rcx 7 q (Gh.we (gh_nil_os 2 101 5 q) (we_ret_newv (st1:=[.rsv,.os 101 5 0 (eM R101 ([] : List Obj))]) [1] (.os 0 0) [.os 101 5 0 (eM R101 ([] : List Obj))] (fun i => List.getD [0] i 0) (fun i => List.getD [v0] i 0) (rs1 q (rv_t q)) q Zl ⟨OLe.refl _,OLe.refl _,Zt⟩ (by decide) (Ro q) ⟨q,Zt⟩ Kv q hmm q q ⟨q,Zt⟩ q (cons_eq (rv_os _ _ _ _ _ _ _ _) q) (by simp [AV.rv]) ⟨q,q⟩))
 exact Rcl 4 q (WL.s (((n_buildNone l33).b).does) (Zw q) q q (Rl 1 q (WL.s (d_appendL R101 ([] : List Obj) s0 l33 z101 q (by decide) q q q q (Src.dataL Zl E101_eq (fun _ => q)) (fun _ => q) (fun _ => q) hg) (Zw q) q q (Rlx 4 q (we_ret_newv (st1:=[.rsv,.os 101 5 (0 + 1) (eM R101 (([] : List Obj) ++ s0))]) [1] (.os 0 (0 + 1)) [.os 101 5 (0 + 1) (eM R101 (([] : List Obj) ++ s0))] (fun i => List.getD [(0 + 1)] i 0) (fun i => List.getD [v0] i 0) (rs1 q (rv_t q)) q Zl ⟨OLe.refl _,OLe.refl _,Zt⟩ (by decide) (Ro q) ⟨q,Zt⟩ Kv q hmm q q ⟨q,Zt⟩ q (cons_eq (rv_os _ _ _ _ _ _ _ _) q) (by simp [AV.rv]) ⟨q,q⟩)))))

theorem f10_c (t0 : Text) (in1 : List Int) {vo : Nat} {vf : Nat} {vu : Nat} {r : Int × (List Insn) × (List MHandler) × (List Obj) × Int × (List Int) × (List (List Int)) × (List Int)} (h : f10 t0 in1 = some r) : Ctr Tryz.prog 10 [.d (.ag (R38 t0)),.l E2 in1] [.rsv,.rsv,.rsv,.rsv] (WinG 4 (fun r' new => r' = .tu [.pt 0 0,.d (.i .i64 r.1)] ∧ new = [.row 90 (mR r.2.1 r.2.2.1 r.2.2.2.1 r.2.2.2.2.1 1 vo r.2.2.2.2.2.1 3 vu),.os 42 1 vo (famE 2 vf (List.length r.2.2.2.2.2.2.1)),.fam 2 1 vf (famM E2 r.2.2.2.2.2.2.1),.os 2 1 vu (eM E2 r.2.2.2.2.2.2.2)])):=by
 unfold f10 at h
 refine ctr_intro Tryz.func10 (by kernel_rfl) q q q (fun mm φφ ww hmm => ?_)
 refine Rcl 2 q (Bd q q (Zs _) q (Rll 8 q ?_))
 obtain ⟨r57,hr57,h⟩:=bindS h
 refine WL.fn q q q q (f37_c _ hr57) ⟨Zl,Zt⟩ (Zw q) q q (Rlc 3 q (Ci h q (fun h => ?_) (fun h => ?_)))
 refine Rcx 8 q ?_
 cases h
 refine Rcc 3 q (Gh.wc gh_rsv (Gh.wc gh_rsv (Gh.wc gh_rsv ?_)))
 obtain ⟨r58,hr58,h⟩:=bindS h
 obtain ⟨r59,hr59,h⟩:=bindS h
 obtain ⟨r60,hr60,h⟩:=bindS h
 obtain ⟨r62,hr62,h⟩:=bindS h
 obtain ⟨r64,hr64,h⟩:=bindS h
 apply RT [_,_,_,_,_,_,_,_,_,_,_,_,_,_,_,_,_,_] [8,12,16] [[.rsv,.rsv,.rsv,.rsv,.os 101 5 0 (eM R101 r60),.rsv,.rsv],[.rsv,.rsv,.rsv,.rsv,.os 101 5 0 (eM R101 r60),.os 42 1 0 (famE 6 0 (List.length r62)),.fam 2 1 0 (famM E2 r62)],[.rsv,.rsv,.rsv,.rsv,.os 101 5 0 (eM R101 r60),.os 42 1 0 (famE 6 0 (List.length r62)),.fam 2 1 0 (famM E2 r62),.row 90 [.l E45 r58,.l E108 r59,.os 4 0,.n t0.excs,.os 5 0,.l E2 r64,sN]]] [([],[2],[0]),([0],[],[0]),([1],[],[0]),([],[2],[0]),([3],[],[0]),([4],[],[0]),([],[2],[0]),([6],[],[0]),([7],[],[0]),([],[2],[0,1,2]),([9],[],[0,1,2]),([],[2],[0,1]),([11],[],[1]),([],[1],[0,1,2]),([13],[],[2]),([2,5,8,10,12,14],[],[2]),([15],[],[2]),([16],[],[3])] (by kernel_rfl) (by kernel_rfl) q q
 refine ⟨?_,?_,?_,?_,?_,?_,?_,?_,?_,?_,?_,?_,?_,?_,?_,?_,?_,?_,Zt⟩
 exact O1 q (fun _ => q) q q
 exact O1 q (fun _ => q) q q
 refine ⟨fun F => ?_,Zt⟩
 exact WL.fn q q q q (f38_c _ hr58) ⟨Zl,Zt⟩ (Zw q) q q (Zd q q q)
 exact O1 q (fun _ => q) q q
 exact O1 q (fun _ => q) q q
 refine ⟨fun F => ?_,Zt⟩
 exact WL.fn q q q q (f39_c _ hr59) ⟨Zl,Zt⟩ (Zw q) q q (Zd q q q)
 exact O1 q (fun _ => q) q q
 exact O1 q (fun _ => q) q q
 refine ⟨fun F => ?_,Zt⟩
 refine WL.wing [4] q q q q (f40n_c _ hr60 (v0:=0)) ⟨Zl,Zt⟩ q (by decide) (Re q) ⟨q,Zt⟩ q q (Zw q) q q (fun r' new hS => ?_)
 obtain ⟨rfl,rfl⟩:=hS
 refine ⟨_,_,q,(Ro q),q,Kv,?_⟩
 exact Zd q q q
 exact ⟨O2 q (fun _ => q) q q,O2 q (fun _ => q) q q,O2 q (fun _ => q) q q,Zt⟩
 exact ⟨O2 q (fun _ => q) q q,O2 q (fun _ => q) q q,O2 q (fun _ => q) q q,Zt⟩
 exact ⟨O2 q (fun _ => q) q q,O2 q (fun _ => q) q q,Zt⟩
 refine ⟨fun F => ?_,Zt⟩
 refine WL.wing [5,6] q q q q (f41_c _ hr62 (vo:=0) (vf:=0)) ⟨Zl,Zt⟩ q (by decide) (Re (Re q)) ⟨q,q,Zt⟩ q q (Zw q) q q (fun r' new hS => ?_)
 obtain ⟨rfl,rfl⟩:=hS
 refine ⟨_,_,q,(Rg (Rf q)),q,Kv,?_⟩
 exact Zd q q q
 exact ⟨O2 q (fun _ => q) q q,O2 q (fun _ => q) q q,O2 q (fun _ => q) q q,Zt⟩
 refine ⟨fun F => ?_,Zt⟩
 exact WL.fn q q q q (f42_c _ hr64) ⟨Zl,Zt⟩ (Zw q) q q (Zd q q q)
 refine ⟨fun F => ?_,Zt⟩
 exact Zq (y_buildS p90 z90 q q) q (Zd q q q)
 refine ⟨fun F => ?_,Zt⟩
 exact Bx q q q (Zd q q q)
 exact O1 q (fun _ => q) q q
 refine Rxc 1 q (Jn1 (fun _ => [(6,.pt 7 0)]) (fun l65 => [.rsv,.rsv,.rsv,.rsv,.os 101 5 0 (eM R101 l65),.os 42 1 0 (famE 6 0 (List.length r62)),.fam 2 1 0 (famM E2 r62),.row 90 [.l E45 r58,.l E108 r59,.os 4 0,.n t0.excs,.os 5 0,.l E2 r64,sN]]) h (fun k66 h => ?_) (fun l65 h => ?_))
 refine Rcl 6 q (Zq (y_len_osmap (encA R101) r60 e33 q q q) q (Rlc 4 q (Ln2 (fun t69 _ => [(6,.pt 7 0),(32,.n (List.length r60 : Int)),(33,.n t69)]) (fun _ l70 => [.rsv,.rsv,.rsv,.rsv,.os 101 5 0 (eM R101 l70),.os 42 1 0 (famE 6 0 (List.length r62)),.fam 2 1 0 (famM E2 r62),.row 90 [.l E45 r58,.l E108 r59,.os 4 0,.n t0.excs,.os 5 0,.l E2 r64,sN]]) (f10_l1 r60 k66) h (fun _ _ h => by rw [f10_l1] at h; cases h) (fun n t69 l70 h => ?_))))
 rw [f10_l1] at h
 refine Rcc 6 q (Ci h q (fun h => ?_) (fun h => ?_))
 refine Rcc 10 q ?_
 obtain ⟨x73,hx73,h⟩:=bindS h
 obtain ⟨r74,hr74,h⟩:=bindS h
 obtain ⟨x75,hx75,h⟩:=bindS h
 apply RT [_,_,_,_,_,_,_,_,_,_,_,_,_,_,_,_,.u] [16] [[.rsv,.rsv,.rsv,.rsv,.os 101 5 0 (eM R101 (List.set l70 (Int.toNat t69) (Obj.mk x75.size x75.lo x75.hi x75.ptr r74))),.os 42 1 0 (famE 6 0 (List.length r62)),.fam 2 1 0 (famM E2 r62),.row 90 [.l E45 r58,.l E108 r59,.os 4 0,.n t0.excs,.os 5 0,.l E2 r64,sN]]] [([],[6],[0]),([0],[],[0]),([1],[],[0]),([2],[],[0]),([],[7],[0]),([],[6],[0]),([5],[],[0]),([6],[],[0]),([7],[],[0]),([],[7],[0]),([8,9],[],[0]),([10],[],[0]),([11],[],[0]),([12],[],[0]),([3,4],[],[0]),([14],[],[0]),([15,13],[],[0])] (by kernel_rfl) (by kernel_rfl) q q
 refine ⟨?_,?_,?_,?_,?_,?_,?_,?_,?_,?_,?_,?_,?_,?_,?_,?_,?_,Zt⟩
 exact O1 q (fun _ => q) q q
 exact O1 q (fun _ => q) q q
 exact O1 q (fun _ => q) q q
 exact O1 q (fun _ => q) q q
 exact O1 q (fun _ => q) q q
 exact O1 q (fun _ => q) q q
 exact O1 q (fun _ => q) q q
 exact O1 q (fun _ => q) q q
 exact O1 q (fun _ => q) q q
 exact O1 q (fun _ => q) q q
 refine ⟨fun F => ?_,Zt⟩
 exact Zq (y_pe e33 q q q hx73) q (Zd q q q)
 refine ⟨fun F => ?_,Zt⟩
 exact Zq (y_fieldAddr_pe f101_4 q q) q (Zd q q q)
 refine ⟨fun F => ?_,Zt⟩
 exact Zq (y_load_peL (fo:=4) q q q a96 (fun _ => q) hx73 q) q (Zd q q q)
 refine ⟨fun F => ?_,Zt⟩
 exact WL.fn q q q q (f43_c _ hr74) ⟨Zl,Zt⟩ (Zw q) q q (Zd q q q)
 refine ⟨fun F => ?_,Zt⟩
 exact Zq (y_pe e33 q q q hx75) q (Zd q q q)
 refine ⟨fun F => ?_,Zt⟩
 exact Zq (y_fieldAddr_pe f101_4 q q) q (Zd q q q)
 refine ⟨fun F => ?_,Zt⟩
 exact WL.s0 (d_store_peL (R:=R101) (k:=5) (i:=t69) (fo:=4) (Obj.mk x75.size x75.lo x75.hi x75.ptr r74) q q q q Zl q q q s96 q (fun _ => q) hx75 q q) (Zw q) q (WL.done0 q q)
 exact Rxx 6 q (Fn2 h)
 exact Rcx 4 q (En1 h)
 refine Rcc 1 q (WC.nil_cell 7 6 2 1 q q (Rcx 7 q ?_))
 refine WE.freezeX [] [(7,2)] 4 _ q (encA_map E101_eq _) Zt ⟨_,_,q,q,Zt⟩ ?_
 obtain rfl:=Oi h
 exact we_ret_newv (st1:=[.rsv,.rsv,.rsv,.rsv,.dead,.os 42 1 0 (famE 6 0 (List.length r62)),.fam 2 1 0 (famM E2 r62),.row 90 (mR r58 r59 l65 t0.excs 5 0 r64 8 0),.os 2 1 0 (eM E2 ([] : List Int))]) [7,5,6,8] (.tu [.pt 0 0,.d (.i .i64 0)]) [.row 90 (mR r58 r59 l65 t0.excs 1 0 r64 3 0),.os 42 1 0 (famE 2 0 (List.length r62)),.fam 2 1 0 (famM E2 r62),.os 2 1 0 (eM E2 ([] : List Int))] (fun i => List.getD [0,0,0,0] i 0) (fun i => List.getD [0,vo,vf,vu] i 0) (rs2 q (rv_t q) (rv_t q)) q (Le.tu ⟨Zl,Zl,Zt⟩) ⟨OLe.refl _,OLe.refl _,OLe.refl _,OLe.refl _,OLe.refl _,OLe.refl _,OLe.refl _,Zp,OLe.refl _,Zt⟩ (by decide) (Re (Rg (Rf (Ro q)))) ⟨q,q,q,q,Zt⟩ Kv q hmm q q ⟨Zt,q,q,q,Zt⟩ q (cons_eq (by simp [AO.rv,AV.rv]) (cons_eq (rv_osf _ _ _ _ _ _ _ _ q) (cons_eq (rv_fam _ _ _ _ _ _ _ _) (cons_eq (rv_os _ _ _ _ _ _ _ _) q)))) (by simp [AV.rv,AV.rvs]) ⟨q,q⟩

theorem f10b_c (t0 : Text) (in1 : List Int) {r : Unit × Int} (h : f10b t0 in1 = some r) : Pu Tryz.prog 10 [.ag (R38 t0),.sl (List.map E2 in1)] (.tu [.v (nilOf r.1),.i .i64 r.2]):=by
 unfold f10b at h
 refine fn_intro Tryz.func10 (by kernel_rfl) q q q (fun φφ ww => ?_)
 refine Rcl 2 q (Bd q q (Zs _) q (Rll 8 q ?_))
 obtain ⟨r57,hr57,h⟩:=bindS h
 refine WL.fn q q q q (f37_c _ hr57) ⟨Zl,Zt⟩ (Zw q) q q (Rlc 3 q (Ci h q (fun h => ?_) (fun h => ?_)))
 exact Rcx 8 q (FA h)
 refine Rcc 3 q ?_
 cases h

theorem f28z_c  {r : List (List Int)} (h : f28z  = some r) : Ctr Tryz.prog 28 [.d (.v (.pointer none))] [] (WinG 0 (fun r' new => r' = .l E42 r ∧ new = [])):=by
 unfold f28z at h
 refine ctr_intro Tryz.func28 (by kernel_rfl) q q q (fun mm φφ ww hmm => ?_)
 refine Rcl 9 q (WL.wing [] q q q q (f47z_c  (r:=true) q) ⟨Zl,Zt⟩ q (by decide) q Zt q q (Zw q) q q (fun r' new hS => ?_))
 obtain ⟨rfl,rfl⟩:=hS
 refine ⟨_,_,q,q,q,q,?_⟩
 refine St q (Rlc 2 q (wc_true q (Rcx 7 q ?_)))
 obtain rfl:=Oi h
 exact we_ret_g (new:=[]) (r0:=.l E42 []) (rs1 q (rv_t q)) Le.nil q Zt ⟨q,q⟩

theorem f13z_c  {r : List Int} (h : f13z  = some r) : Ctr Tryz.prog 13 [.d (.v (.pointer none))] [] (WinG 0 (fun r' new => r' = .l E2 r ∧ new = [])):=by
 unfold f13z at h
 refine ctr_intro Tryz.func13 (by kernel_rfl) q q q (fun mm φφ ww hmm => ?_)
 refine Rcl 9 q (WL.wing [] q q q q (f47z_c  (r:=true) q) ⟨Zl,Zt⟩ q (by decide) q Zt q q (Zw q) q q (fun r' new hS => ?_))
 obtain ⟨rfl,rfl⟩:=hS
 refine ⟨_,_,q,q,q,q,?_⟩
 refine St q (Rlc 2 q (wc_true q (Rcx 7 q ?_)))
 obtain rfl:=Oi h
 exact we_ret_g (new:=[]) (r0:=.l E2 []) (rs1 q (rv_t q)) Le.nil q Zt ⟨q,q⟩

theorem f15z_c  {r : List Int} (h : f15z  = some r) : Ctr Tryz.prog 15 [.d (.v (.pointer none))] [] (WinG 0 (fun r' new => r' = .l E2 r ∧ new = [])):=by
 unfold f15z at h
 refine ctr_intro Tryz.func15 (by kernel_rfl) q q q (fun mm φφ ww hmm => ?_)
 refine Rcl 9 q (WL.wing [] q q q q (f47z_c  (r:=true) q) ⟨Zl,Zt⟩ q (by decide) q Zt q q (Zw q) q q (fun r' new hS => ?_))
 obtain ⟨rfl,rfl⟩:=hS
 refine ⟨_,_,q,q,q,q,?_⟩
 refine St q (Rlc 2 q (wc_true q (Rcx 7 q ?_)))
 obtain rfl:=Oi h
 exact we_ret_g (new:=[]) (r0:=.l E2 []) (rs1 q (rv_t q)) Le.nil q Zt ⟨q,q⟩

theorem f66_c (x0 : Insn) : Pu Tryz.prog 66 [.ag (R45 x0)] (.ag (R38 (f66 x0))):=by
 generalize h : f66 x0 = r
 unfold f66 at h
 refine fn_intro Tryz.func66 (by kernel_rfl) q q q (fun φφ ww => ?_)
 refine Rcl 2 q (Bd q q (Zs _) q (Al z38 q (Rll 5 q (Zq (y_build p45 z45 q q) q (Zq (y_build p45 z45 q q) q (WL.s ((NewOs.b (n_buildSlice l23 z45 q (by decide) (by decide) q q q (by decide))).does) (Zw q) q q (Zq (y_build p108 z108 q q) q (WL.s ((NewOs.b (n_buildSlice l29 z108 q (by decide) (by decide) q q q (by decide))).does) (Zw q) q q (Zq (y_build p101 z101 q q) q (WL.s ((NewOs.b (NewOs.weak (es':=List.map (encA R101) [(Obj.mk 1 0 9 false [])]) (n_buildSlice l33 z101 q (by decide) (by decide) q q q (by decide)) (by exact ⟨⟨Zl,Zl,Zl,Zl,Le.nil,Zt⟩,Zt⟩))).does) (Zw q) q q (Zq (y_build p164 z164 q q) q (WL.s ((NewOs.b (NewOs.weak (es':=List.map (encA R164) [(MProt.mk 0 [])]) (n_buildSlice l35 z164 q (by decide) (by decide) q q q (by decide)) (by exact ⟨⟨Zl,Le.nil,Zt⟩,Zt⟩))).does) (Zw q) q q (Zq (y_build p27 z27 q q) q ?_)))))))))))))
 refine WL.s ((NewOs.b (NewOs.weak (es':=List.map (encA R27) [(MTask.mk 0 0 [] 0)]) (n_buildSlice l28 z27 q (by decide) (by decide) q q q (by decide)) (by exact ⟨⟨Zl,Zl,Le.nil,Zl,Zt⟩,Zt⟩))).does) (Zw q) q q (Zq (y_buildS p38 z38 q q) q (WL.s0 (d_storeS q q q q q q s38 q q) (Zw q) q (St q (Rlx 3 q ?_))))
 refine WE.freezeX [6] [(0,0)] 1 (List.map E45 [x0,(Insn.mk 57 0 0 0 0 0 0),(Insn.mk 57 0 0 0 0 0 0)]) q (encA_map E45_eq [x0,(Insn.mk 57 0 0 0 0 0 0),(Insn.mk 57 0 0 0 0 0 0)]) ⟨q,Zt⟩ ⟨_,_,q,q,Zt⟩ ?_
 refine WE.freezeX [8] [(0,1)] 2 (List.map E108 [(MHandler.mk 0 1 2 false)]) q (encA_map E108_eq [(MHandler.mk 0 1 2 false)]) ⟨q,Zt⟩ ⟨_,_,q,q,Zt⟩ ?_
 refine WE.freezeX [10] [(0,5)] 3 (List.map E101 [(Obj.mk 1 0 9 false [])]) q (encA_map E101_eq [(Obj.mk 1 0 9 false [])]) ⟨q,Zt⟩ ⟨_,_,q,q,Zt⟩ ?_
 refine WE.freezeX [14] [(0,8)] 5 (List.map E27 [(MTask.mk 0 0 [] 0)]) q (encA_map E27_eq [(MTask.mk 0 0 [] 0)]) ⟨q,Zt⟩ ⟨_,_,q,q,Zt⟩ ?_
 refine WE.freezeX [12] [(0,9)] 4 (List.map E164 [(MProt.mk 0 [])]) q (encA_map E164_eq [(MProt.mk 0 [])]) ⟨q,Zt⟩ ⟨_,_,q,q,Zt⟩ ?_
 subst h
 exact we_ret_fn (rs1 q (rv_cN q q a38 s38 q)) (Le.agd ⟨Zl,Zl,Le.nil,Le.nil,Le.nil,Zl,Le.nil,Zl,Zl,Zl,Le.nil,Zt⟩)

theorem f35_c (x0 : Insn) (v1 : Int) {r : Regs × (List Act) × Int} (h : f35 x0 v1 = some r) : Pu Tryz.prog 35 [.ag (R45 x0),.i .i64 v1] (.tu [.ag (R41 r.1),.sl (List.map E58 r.2.1),.i .i64 r.2.2]):=by
 unfold f35 at h
 refine fn_intro Tryz.func35 (by kernel_rfl) q q q (fun φφ ww => ?_)
 refine Rcl 2 q (Bd q q (Zs _) q (Al z41 q (Rll 7 q (WL.fn q q q q (f66_c _) ⟨Zl,Zt⟩ (Zw q) q q (WL.s ((NewOs.b (n_buildSlice l42 z2 q (by decide) (by decide) q q q (by decide))).does) (Zw q) q q ?_)))))
 refine WL.freezeX [12] [] 1 (List.map E2 [8]) q (encA_map E2_eq [8]) ⟨q,Zt⟩ Zt ?_
 obtain ⟨b31,hb31,h⟩:=bindS h
 rcases boolCases b31 with hb1 | hb1
 replace h:=condT h hb1
 refine Gh.wl gh_rsv (Gh.wl gh_rsv (Gh.wl gh_rsv (Gh.wl gh_rsv ?_)))
 obtain ⟨r32,hr32,h⟩:=bindS h
 refine WL.wing [2,3,4,5] q q q q (f10_c _ _ hr32 (vo:=0) (vf:=0) (vu:=0)) ⟨Zl,Zl,Zt⟩ q (by decide) (Re (Re (Re (Re q)))) ⟨q,q,q,q,Zt⟩ q q (Zw q) q q (fun r' new hS => ?_)
 obtain ⟨rfl,rfl⟩:=hS
 refine ⟨_,_,q,(Re (Rg (Rf (Ro q)))),q,Kv,?_⟩
 refine St q (Rl 5 q (Zn (Rcc 7 q (Ci h q (fun h => ?_) (fun h => ?_)))))
 refine Rcl 2 q (Zq (y_build p41 z41 q q) q (Rl 1 q (WL.s0 (d_store q q q q q q s41 q q) (Zw q) q (St q (Rlx 6 q ?_)))))
 obtain rfl:=Oi h
 exact we_ret_fn (rs3 q (rv_cN q q a41 s41 q) (rv_t q) (rv_t q)) (Le.tud ⟨(Le.agd (Zs _)),Le.nil,Zl,Zt⟩)
 refine Rcl 6 q (Zq (y_buildA ar39 z39 q q) q (Zq (y_build p41 z41 q q) q ?_))
 obtain ⟨r34,hr34,h⟩:=bindS h
 refine WL.wing [2,3,4,5] q q q q (f11_c _ _ _ _ _ _ _ _ hr34) ⟨Zl,(Le.agd (Zs _)),Zt⟩ q (by decide) (Re (Rg (Rf (Ro q)))) ⟨q,q,q,q,Zt⟩ Kv q (Zw q) q q (fun r' new hS => ?_)
 obtain ⟨i2_35,i3_35,rfl,rfl⟩:=hS
 refine ⟨_,_,q,(Re (Rg (Rf (Ro q)))),q,Kv,?_⟩
 refine St q (Rl 3 q (WL.s0 (d_store q q q q q q s41 q q) (Zw q) q (St q (Rlx 5 q ?_))))
 obtain rfl:=Oi h
 exact we_ret_fn (rs3 q (rv_cN q q a41 s41 q) (rv_t q) (rv_t q)) (Le.tud ⟨(Le.agd (Zs _)),Zl,Zl,Zt⟩)
 replace h:=condF h hb1
 obtain ⟨r36,hr36,h⟩:=bindS h
 refine WL.fn q q q q (f10b_c _ _ hr36) ⟨Zl,Zl,Zt⟩ (Zw q) q q (Rl 5 q (Zn (Rcc 7 q (Ci h q (fun h => ?_) (fun h => ?_)))))
 refine Rcl 2 q (Zq (y_build p41 z41 q q) q (Rl 1 q (WL.s0 (d_store q q q q q q s41 q q) (Zw q) q (St q (Rlx 6 q ?_)))))
 obtain rfl:=Oi h
 exact we_ret_fn (rs3 q (rv_cN q q a41 s41 q) (rv_t q) (rv_t q)) (Le.tud ⟨(Le.agd (Zs _)),Le.nil,Zl,Zt⟩)
 refine Rcc 3 q ?_
 cases h

theorem f9_c  {r : Bool} (h : f9  = some r) : Pu Tryz.prog 9 [] (.b r):=by
 unfold f9 at h
 refine fn_intro Tryz.func9 (by kernel_rfl) q q q (fun φφ ww => ?_)
 refine Rcl 7 q (Zq (y_build p45 z45 q q) q ?_)
 obtain ⟨r146,hr146,h⟩:=bindS h
 refine WL.fn q q q q (f35_c _ _ hr146) ⟨(Le.agd (Zs _)),Zl,Zt⟩ (Zw q) q q (Rl 4 q (Al z41 q (WL.s0 (d_store q q q q q q s41 q q) (Zw q) q (St q (Rll 6 q (Zq (y_build p45 z45 q q) q ?_))))))
 obtain ⟨r147,hr147,h⟩:=bindS h
 refine WL.fn q q q q (f35_c _ _ hr147) ⟨(Le.agd (Zs _)),Zl,Zt⟩ (Zw q) q q (Rl 4 q (Al z41 q (WL.s0 (d_store q q q q q q s41 q q) (Zw q) q (St q (Rll 6 q (Zq (y_build p45 z45 q q) q ?_))))))
 obtain ⟨r148,hr148,h⟩:=bindS h
 refine WL.fn q q q q (f35_c _ _ hr148) ⟨(Le.agd (Zs _)),Zl,Zt⟩ (Zw q) q q (Rl 4 q (Al z41 q (WL.s0 (d_store q q q q q q s41 q q) (Zw q) q (St q (Rll 6 q (Zq (y_build p45 z45 q q) q ?_))))))
 obtain ⟨r149,hr149,h⟩:=bindS h
 refine WL.fn q q q q (f35_c _ _ hr149) ⟨(Le.agd (Zs _)),Zl,Zt⟩ (Zw q) q q (Rl 4 q (Al z41 q (WL.s0 (d_store q q q q q q s41 q q) (Zw q) q (St q (Rll 6 q (Zq (y_build p45 z45 q q) q ?_))))))
 obtain ⟨r150,hr150,h⟩:=bindS h
 refine WL.fn q q q q (f35_c _ _ hr150) ⟨(Le.agd (Zs _)),Zl,Zt⟩ (Zw q) q q (Rl 4 q (Al z41 q (WL.s0 (d_store q q q q q q s41 q q) (Zw q) q (St q (Rll 6 q (Zq (y_build p45 z45 q q) q ?_))))))
 obtain ⟨r151,hr151,h⟩:=bindS h
 refine WL.fn q q q q (f35_c _ _ hr151) ⟨(Le.agd (Zs _)),Zl,Zt⟩ (Zw q) q q (Rl 4 q (Al z41 q (WL.s0 (d_store q q q q q q s41 q q) (Zw q) q (St q (Rll 6 q (Zq (y_build p45 z45 q q) q ?_))))))
 obtain ⟨r152,hr152,h⟩:=bindS h
 refine WL.fn q q q q (f35_c _ _ hr152) ⟨(Le.agd (Zs _)),Zl,Zt⟩ (Zw q) q q (Rl 4 q (Al z41 q (WL.s0 (d_store q q q q q q s41 q q) (Zw q) q (St q (Rll 7 q (Zq (y_build p41 z41 q q) q (Zq (y_eqst (xs:=(V41 r146.1)) (ys:=[.int .i64 0,.int .i64 0,.int .i64 0,.int .i64 0,.int .i64 0,.int .i64 0,.int .i64 0,.int .i64 0,.int .i64 0,.int .i64 0,.int .i64 0,.int .i64 0,.int .i64 0,.int .i64 0,.int .i64 0,.int .i64 0,.int .i64 2,.int .i64 1,.int .i64 0]) q41 q (Le.agd (Zs _)) q (Le.agd (Zs _)) q q q) q (Rl 1 q ?_))))))))
 apply WL.and 4 (t:=68) (d:=72)
 exact q
 intro hg68
 exact Rl 1 q (Zy (y_len_map E58 r146.2.1 e50 q q Zl) q q q (Rl 2 q (WL.nil ⟨q,[_,_,_,_],q,q,q⟩)))
 exact Rl 4 q (WL.nil ⟨q,[_,_,_,_],q,q,q⟩)
 refine Rl 1 q ?_
 obtain ⟨b153,hb153,h⟩:=bindS h
 apply WL.grp 6 (t:=73) (d:=79) (z:=b153)
 exact q
 intro hg73
 have h:=condT hb153 hg73
 refine Rl 1 q ?_
 obtain ⟨x154,hx154,h⟩:=bindS h
 refine Zy (y_indexAddr e50 q Zl q (idx_nonneg hx154) (idx_row E58_eq hx154) q) q q q (Rl 1 q (Zy (y_build p58 z58 q q) q q q (Zy (y_eqst (xs:=[.int .i64 x154.time,.int .i64 x154.task,.int .u8 x154.kind,.int .i64 x154.a,.int .i64 x154.b,.int .i64 x154.n]) (ys:=[.int .i64 0,.int .i64 0,.int .u8 5,.int .i64 1,.int .i64 0,.int .i64 0]) q58 q Zl q (Le.agd (Zs _)) q q q) q q q (Rl 1 q ?_))))
 obtain rfl:=Oi h
 exact WL.nil ⟨q,[_,_,_,_,_,_],q,q,q⟩
 intro hg73
 have h:=condF hb153 hg73
 refine Rl 6 q ?_
 obtain rfl:=Oi h
 exact WL.nil ⟨q,[_,_,_,_,_,_],q,q,q⟩
 refine Rl 1 q ?_
 apply WL.and 3 (t:=80) (d:=83)
 exact q
 intro hg80
 exact Rl 3 q (WL.nil ⟨q,[_,_,_],q,q,q⟩)
 exact Rl 3 q (WL.nil ⟨q,[_,_,_],q,q,q⟩)
 refine Rl 1 q ?_
 apply WL.and 3 (t:=84) (d:=87)
 exact q
 intro hg84
 exact Rl 3 q (WL.nil ⟨q,[_,_,_],q,q,q⟩)
 exact Rl 3 q (WL.nil ⟨q,[_,_,_],q,q,q⟩)
 refine Rl 1 q ?_
 apply WL.and 3 (t:=88) (d:=91)
 exact q
 intro hg88
 exact Rl 3 q (WL.nil ⟨q,[_,_,_],q,q,q⟩)
 exact Rl 3 q (WL.nil ⟨q,[_,_,_],q,q,q⟩)
 refine Rl 1 q ?_
 apply WL.and 3 (t:=92) (d:=95)
 exact q
 intro hg92
 exact Rl 3 q (WL.nil ⟨q,[_,_,_],q,q,q⟩)
 exact Rl 3 q (WL.nil ⟨q,[_,_,_],q,q,q⟩)
 refine Rl 1 q ?_
 apply WL.and 3 (t:=96) (d:=99)
 exact q
 intro hg96
 exact Rl 3 q (WL.nil ⟨q,[_,_,_],q,q,q⟩)
 exact Rl 3 q (WL.nil ⟨q,[_,_,_],q,q,q⟩)
 refine Rll 7 q ?_
 apply WL.and 3 (t:=101) (d:=104)
 exact q
 intro hg101
 exact Rl 3 q (WL.nil ⟨q,[_,_,_],q,q,q⟩)
 exact Rl 3 q (WL.nil ⟨q,[_,_,_],q,q,q⟩)
 refine Rl 1 q ?_
 apply WL.and 5 (t:=105) (d:=110)
 exact q
 intro hg105
 exact Rl 1 q (Zy (y_indexAddra ar39 q q (by decide) (by decide)) q q q (Zy (y_loadV (off:=0) (n:=16) (fun j => .n (r151.1.r j)) q q a2 q (by decide)) q q q (Rl 2 q (WL.nil ⟨q,[_,_,_,_,_],q,q,q⟩))))
 exact Rl 5 q (WL.nil ⟨q,[_,_,_,_,_],q,q,q⟩)
 refine Rl 1 q ?_
 apply WL.and 4 (t:=111) (d:=115)
 exact q
 intro hg111
 exact Rl 1 q (Zy (y_len_map E58 r151.2.1 e50 q q Zl) q q q (Rl 2 q (WL.nil ⟨q,[_,_,_,_],q,q,q⟩)))
 exact Rl 4 q (WL.nil ⟨q,[_,_,_,_],q,q,q⟩)
 refine Rl 1 q ?_
 obtain ⟨b155,hb155,h⟩:=bindS h
 apply WL.grp 6 (t:=116) (d:=122) (z:=b155)
 exact q
 intro hg116
 have h:=condT hb155 hg116
 refine Rl 1 q ?_
 obtain ⟨x156,hx156,h⟩:=bindS h
 refine Zy (y_indexAddr e50 q Zl q (idx_nonneg hx156) (idx_row E58_eq hx156) q) q q q (Rl 1 q (Zy (y_build p58 z58 q q) q q q (Zy (y_eqst (xs:=[.int .i64 x156.time,.int .i64 x156.task,.int .u8 x156.kind,.int .i64 x156.a,.int .i64 x156.b,.int .i64 x156.n]) (ys:=[.int .i64 0,.int .i64 0,.int .u8 2,.int .i64 8,.int .i64 0,.int .i64 0]) q58 q Zl q (Le.agd (Zs _)) q q q) q q q (Rl 1 q ?_))))
 obtain rfl:=Oi h
 exact WL.nil ⟨q,[_,_,_,_,_,_],q,q,q⟩
 intro hg116
 have h:=condF hb155 hg116
 refine Rl 6 q ?_
 obtain rfl:=Oi h
 exact WL.nil ⟨q,[_,_,_,_,_,_],q,q,q⟩
 refine Rl 1 q ?_
 apply WL.and 3 (t:=123) (d:=126)
 exact q
 intro hg123
 exact Rl 3 q (WL.nil ⟨q,[_,_,_],q,q,q⟩)
 exact Rl 3 q (WL.nil ⟨q,[_,_,_],q,q,q⟩)
 refine Rl 1 q ?_
 apply WL.and 5 (t:=127) (d:=132)
 exact q
 intro hg127
 exact Rl 1 q (Zy (y_indexAddra ar39 q q (by decide) (by decide)) q q q (Zy (y_loadV (off:=0) (n:=16) (fun j => .n (r152.1.r j)) q q a2 q (by decide)) q q q (Rl 2 q (WL.nil ⟨q,[_,_,_,_,_],q,q,q⟩))))
 exact Rl 5 q (WL.nil ⟨q,[_,_,_,_,_],q,q,q⟩)
 refine Rl 1 q ?_
 apply WL.and 4 (t:=133) (d:=137)
 exact q
 intro hg133
 exact Rl 4 q (WL.nil ⟨q,[_,_,_,_],q,q,q⟩)
 exact Rl 4 q (WL.nil ⟨q,[_,_,_,_],q,q,q⟩)
 refine Rl 1 q ?_
 apply WL.and 2 (t:=138) (d:=140)
 exact q
 intro hg138
 exact WL.fn q q q q (f36_c _) ⟨Zl,Zt⟩ (Wt.yes q q q) q q (Rl 1 q (WL.nil ⟨q,[_,_],q,q,q⟩))
 exact Rl 2 q (WL.nil ⟨q,[_,_],q,q,q⟩)
 refine Rl 1 q ?_
 apply WL.and 3 (t:=141) (d:=144)
 exact q
 intro hg141
 exact WL.fn q q q q (f36_c _) ⟨Zl,Zt⟩ (Wt.yes q q q) q q (Rl 2 q (WL.nil ⟨q,[_,_,_],q,q,q⟩))
 exact Rl 3 q (WL.nil ⟨q,[_,_,_],q,q,q⟩)
 exact Rlx 4 q (FA h)

end Go.Proofs.YtkbahggepncliaaGreatDoor
