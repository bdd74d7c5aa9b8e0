/- The walks of functions. -/
import Derived.Test.YtkbahggepncliaaGreatDoorX
set_option linter.unusedVariables false
set_option linter.unusedSimpArgs false
set_option linter.unusedSectionVars false
set_option linter.unnecessarySimpa false
set_option maxHeartbeats 4000000
set_option maxRecDepth 100000
namespace Go.Proofs.YtkbahggepncliaaGreatDoor
open Go Go.Sk

theorem f158_c (s0 : List Int) (cb1 : Int → Option (Bool)) (g1 : FuncId) (fi1 ca1 : List D) (hcb1 : ∀ (y0 : Int) (r : Bool),cb1 y0 = some r → Pu Tryz.prog g1 (fi1 ++ [.i .i64 y0] ++ ca1) (.b r)) {r : Int} (h : f158 s0 cb1 = some r) : Pu Tryz.prog 158 [.sl (List.map E3 s0),.fnc (.func g1) fi1 ca1] (.i .i64 r):=by
 unfold f158 at h
 refine fn_intro Tryz.func158 (by kernel_rfl) q q q (fun φφ ww => ?_)
 refine WC.cast 1 q (Le.fncd _ _ _) (Rcc 5 q (Jn0 [] [] h (fun k22 h => ?_) (fun h => ?_)))
 refine Rcl 3 q (Zq (y_len_map E3 s0 e96 q q Zl) q (Rlc 4 q (Ln1 (fun t24 => [(0,.l E3 s0),(1,.fn (.func g1) (List.map AV.d fi1) (List.map AV.d ca1)),(7,.n (List.length s0 : Int)),(8,.n t24)]) (fun _ => []) (f158_l1 s0 cb1 k22) h (fun _ h => by rw [f158_l1] at h; cases h) (fun n t24 h => ?_))))
 rw [f158_l1] at h
 refine Rcc 6 q (Ci h q (fun h => ?_) (fun h => ?_))
 refine Rcl 15 q (Ix h e96 E3_eq q Zl q q fun x26 _ h => (Rl 1 q ?_))
 obtain ⟨r27,hr27,h⟩:=bindS h
 refine WL.fn q q q q (hcb1 _ _ hr27) (Les.mid ⟨Zl,Zt⟩) (Zw q) q q (Rlc 2 q (Ci h q (fun h => ?_) (fun h => ?_)))
 exact Rcx 12 q (FA h)
 exact Rcx 7 q (Fn1 h)
 exact Rcx 4 q (En0 h)
 exact Rcx 6 q (FA h)

theorem f128_c (s0 : List Int) (cb1 : Int → Option (Bool)) (g1 : FuncId) (fi1 ca1 : List D) (hcb1 : ∀ (y0 : Int) (r : Bool),cb1 y0 = some r → Pu Tryz.prog g1 (fi1 ++ [.i .i64 y0] ++ ca1) (.b r)) {r : Bool} (h : f128 s0 cb1 = some r) : Pu Tryz.prog 128 [.sl (List.map E3 s0),.fnc (.func g1) fi1 ca1] (.b r):=by
 unfold f128 at h
 refine fn_intro Tryz.func128 (by kernel_rfl) q q q (fun φφ ww => ?_)
 refine WC.cast 1 q (Le.fncd _ _ _) (Rcl 9 q ?_)
 obtain ⟨r12,hr12,h⟩:=bindS h
 exact WL.fn q q q q (f158_c _ _ g1 fi1 ca1 hcb1 hr12) ⟨Zl,(Le.fnc (Zs _) (Zs _)),Zt⟩ (Zw q) q q (Rlx 5 q (FA h))

theorem f129_c (n0 : Int) (cap1 : Int) : Pu Tryz.prog 129 [.i .i64 n0,.pc (E2 cap1)] (.b (f129 n0 cap1)):=by
 generalize h : f129 n0 cap1 = r
 unfold f129 at h
 refine fn_intro Tryz.func129 (by kernel_rfl) q q q (fun φφ ww => ?_)
 exact Rcx 15 q (FB h)

theorem f79_c (o0 : Obj) (v1 : Int) {r : Bool} (h : f79 o0 v1 = some r) : Pu Tryz.prog 79 [.ag (R101 o0),.i .i64 v1] (.b r):=by
 unfold f79 at h
 refine fn_intro Tryz.func79 (by kernel_rfl) q q q (fun φφ ww => ?_)
 refine Rcl 2 q (Bd q q (Zs _) q (WL.s ((b_boxd q q (by exact (show Les [.n v1] (List.map AV.d [.i .i64 v1]) from ⟨Zl,Zt⟩))).does) (Zw q) q q (Rlc 10 q (Ci h q (fun h => ?_) (fun h => ?_)))))
 refine Rcl 5 q ?_
 obtain ⟨b28,hb28,h⟩:=bindS h
 apply WL.grp 5 (t:=9) (d:=14) (z:=b28)
 exact q
 intro hg9
 have h:=condT hb28 hg9
 refine Rl 5 q ?_
 obtain rfl:=Oi h
 exact WL.nil ⟨q,[_,_,_,_,_],q,q,q⟩
 intro hg9
 have h:=condF hb28 hg9
 refine Rl 3 q ?_
 obtain ⟨r29,hr29,h⟩:=bindS h
 refine WL.fn q q q q (f128_c _ _ 129 [] [(.pc (E2 v1))] (fun z0 _ h => by obtain rfl:=Option.some.inj h; exact f129_c z0 v1) hr29) ⟨Zl,(Le.fnc Zt ⟨Zl,Zt⟩),Zt⟩ (Wt.yes q q q) q q (Rl 1 q ?_)
 obtain rfl:=Oi h
 exact WL.nil ⟨q,[_,_,_,_,_],q,q,q⟩
 exact Rlx 5 q (FA h)
 refine Rcl 9 q ?_
 apply WL.and 5 (t:=19) (d:=24)
 exact q
 intro hg19
 exact Rl 5 q (WL.nil ⟨q,[_,_,_,_,_],q,q,q⟩)
 exact Rl 5 q (WL.nil ⟨q,[_,_,_,_,_],q,q,q⟩)
 exact Rlx 4 q (FA h)

theorem f110_c (t0 : View) (o1 : Obj) {r : Bool} (h : f110 t0 o1 = some r) : Pu Tryz.prog 110 [.ag (R135 t0),.ag (R101 o1)] (.b r):=by
 unfold f110 at h
 refine fn_intro Tryz.func110 (by kernel_rfl) q q q (fun φφ ww => ?_)
 refine Rcl 2 q (Bd q q (Zs _) q (Bd q q (Zs _) q (Rll 10 q ?_)))
 apply WL.or 4 (t:=11) (d:=15)
 exact q
 intro hg11
 exact Rl 4 q (WL.nil ⟨q,[_,_,_,_],q,q,q⟩)
 exact Rl 4 q (WL.nil ⟨q,[_,_,_,_],q,q,q⟩)
 refine Rl 1 q ?_
 apply WL.or 6 (t:=16) (d:=22)
 exact q
 intro hg16
 exact Rl 6 q (WL.nil ⟨q,[_,_,_,_,_,_],q,q,q⟩)
 exact Rl 6 q (WL.nil ⟨q,[_,_,_,_,_,_],q,q,q⟩)
 refine Rlc 2 q (Ci h q (fun h => ?_) (fun h => ?_))
 exact Rcx 7 q (FA h)
 refine Rcc 10 q (Ci h q (fun h => ?_) (fun h => ?_))
 exact Rcl 4 q (Zq (y_len_map E3 o1.set_ e96 q q Zl) q (Rlx 6 q (FA h)))
 refine Rcc 7 q (Jn0 [(3,.d (.pc (R101 o1)))] [] h (fun k80 h => ?_) (fun h => ?_))
 refine Rcl 4 q (Zq (y_len_map E3 o1.set_ e96 q q Zl) q (Rlc 4 q (Ln2 (fun last83 t84 => [(2,.d (.pc (R135 t0))),(3,.d (.pc (R101 o1))),(5,.n last83),(31,.l E3 o1.set_),(32,.n (List.length o1.set_ : Int)),(33,.n t84)]) (fun _ _ => []) (f110_l1 t0 o1 k80) h (fun _ _ h => by rw [f110_l1] at h; cases h) (fun n last83 t84 h => ?_))))
 rw [f110_l1] at h
 refine Rcc 6 q (Ci h q (fun h => ?_) (fun h => ?_))
 refine Rcl 6 q (Ix h e96 E3_eq q Zl q q fun x87 _ h => (Rll 11 q ?_))
 apply WL.or 7 (t:=40) (d:=47)
 exact q
 intro hg40
 exact Rl 4 q (Zy (y_len_map E101 t0.text.objs e33 q q Zl) q q q (Rl 2 q (WL.nil ⟨q,[_,_,_,_,_,_,_],q,q,q⟩)))
 exact Rl 7 q (WL.nil ⟨q,[_,_,_,_,_,_,_],q,q,q⟩)
 refine Rl 1 q ?_
 obtain ⟨b88,hb88,h⟩:=bindS h
 apply WL.grp 9 (t:=48) (d:=57) (z:=b88)
 exact q
 intro hg48
 have h:=condT hb88 hg48
 refine Rl 9 q ?_
 obtain rfl:=Oi h
 exact WL.nil ⟨q,[_,_,_,_,_,_,_,_,_],q,q,q⟩
 intro hg48
 have h:=condF hb88 hg48
 refine Rl 4 q ?_
 obtain ⟨x89,hx89,h⟩:=bindS h
 refine Zy (y_indexAddr e33 q Zl q (idx_nonneg hx89) (idx_row E101_eq hx89) q) q q q (Rl 4 q ?_)
 obtain rfl:=Oi h
 exact WL.nil ⟨q,[_,_,_,_,_,_,_,_,_],q,q,q⟩
 refine Rl 1 q ?_
 obtain ⟨b90,hb90,h⟩:=bindS h
 apply WL.grp 8 (t:=58) (d:=66) (z:=b90)
 exact q
 intro hg58
 have h:=condT hb90 hg58
 refine Rl 8 q ?_
 obtain rfl:=Oi h
 exact WL.nil ⟨q,[_,_,_,_,_,_,_,_],q,q,q⟩
 intro hg58
 have h:=condF hb90 hg58
 refine Rl 4 q ?_
 obtain ⟨x91,hx91,h⟩:=bindS h
 refine Zy (y_indexAddr e33 q Zl q (idx_nonneg hx91) (idx_row E101_eq hx91) q) q q q (Rl 3 q ?_)
 obtain rfl:=Oi h
 exact WL.nil ⟨q,[_,_,_,_,_,_,_,_],q,q,q⟩
 refine Rlc 2 q (Ci h q (fun h => ?_) (fun h => ?_))
 exact Rcx 12 q (FA h)
 exact Rcx 12 q (Fn2 h)
 exact Rcx 4 q (En0 h)
 refine Rcl 6 q ?_
 apply WL.and 4 (t:=72) (d:=76)
 exact q
 intro hg72
 exact Rl 4 q (WL.nil ⟨q,[_,_,_,_],q,q,q⟩)
 exact Rl 4 q (WL.nil ⟨q,[_,_,_,_],q,q,q⟩)
 exact Rlx 4 q (FA h)

theorem f111_c (t0 : View) (o1 : Int) (from2 : Int) (many3 : Int) {r : Bool} (h : f111 t0 o1 from2 many3 = some r) : Pu Tryz.prog 111 [.ag (R135 t0),.i .i64 o1,.i .i64 from2,.i .i64 many3] (.b r):=by
 unfold f111 at h
 refine fn_intro Tryz.func111 (by kernel_rfl) q q q (fun φφ ww => ?_)
 refine Rcl 2 q (Bd q q (Zs _) q (Rll 8 q ?_))
 apply WL.and 7 (t:=11) (d:=18)
 exact q
 intro hg11
 exact Rl 4 q (Zy (y_len_map E101 t0.text.objs e33 q q Zl) q q q (Rl 2 q (WL.nil ⟨q,[_,_,_,_,_,_,_],q,q,q⟩)))
 exact Rl 7 q (WL.nil ⟨q,[_,_,_,_,_,_,_],q,q,q⟩)
 refine Rl 1 q ?_
 apply WL.and 3 (t:=19) (d:=22)
 exact q
 intro hg19
 exact Rl 3 q (WL.nil ⟨q,[_,_,_],q,q,q⟩)
 exact Rl 3 q (WL.nil ⟨q,[_,_,_],q,q,q⟩)
 refine Rl 1 q ?_
 obtain ⟨b41,hb41,h⟩:=bindS h
 apply WL.grp 12 (t:=23) (d:=35) (z:=b41)
 exact q
 intro hg23
 have h:=condT hb41 hg23
 refine Rl 5 q ?_
 obtain ⟨x42,hx42,h⟩:=bindS h
 refine Zy (y_indexAddr e33 q Zl q (idx_nonneg hx42) (idx_row E101_eq hx42) q) q q q (Rl 6 q ?_)
 obtain rfl:=Oi h
 exact WL.nil ⟨q,[_,_,_,_,_,_,_,_,_,_,_,_],q,q,q⟩
 intro hg23
 have h:=condF hb41 hg23
 refine Rl 12 q ?_
 obtain rfl:=Oi h
 exact WL.nil ⟨q,[_,_,_,_,_,_,_,_,_,_,_,_],q,q,q⟩
 exact Rlx 4 q (FA h)

theorem f68_c (t0 : View) {r : Bool} (h : f68 t0 = some r) : Pu Tryz.prog 68 [.ag (R135 t0)] (.b r):=by
 unfold f68 at h
 refine fn_intro Tryz.func68 (by kernel_rfl) q q q (fun φφ ww => ?_)
 refine Rcl 2 q (Bd q q (Zs _) q (Rll 9 q (Zq (y_len_map E101 t0.text.objs e33 q q Zl) q (Rl 2 q ?_))))
 apply WL.or 5 (t:=15) (d:=20)
 exact q
 intro hg15
 exact Rl 5 q (WL.nil ⟨q,[_,_,_,_,_],q,q,q⟩)
 exact Rl 5 q (WL.nil ⟨q,[_,_,_,_,_],q,q,q⟩)
 refine Rl 1 q ?_
 apply WL.or 5 (t:=21) (d:=26)
 exact q
 intro hg21
 exact Rl 5 q (WL.nil ⟨q,[_,_,_,_,_],q,q,q⟩)
 exact Rl 5 q (WL.nil ⟨q,[_,_,_,_,_],q,q,q⟩)
 refine Rlc 2 q (Ci h q (fun h => ?_) (fun h => ?_))
 exact Rcx 7 q (FA h)
 refine Rcc 7 q (Jn1 (fun n90 => [(1,.d (.pc (R135 t0))),(3,.n n90)]) (fun _ => []) h (fun k91 h => ?_) (fun n90 h => ?_))
 refine Rcl 5 q (Zq (y_len_map E101 t0.text.objs e33 q q Zl) q (Rlc 4 q (Ln2 (fun n94 t95 => [(1,.d (.pc (R135 t0))),(3,.n n94),(29,.l E101 t0.text.objs),(30,.n (List.length t0.text.objs : Int)),(31,.n t95)]) (fun _ _ => []) (f68_l1 t0 k91) h (fun _ _ h => by rw [f68_l1] at h; cases h) (fun n n94 t95 h => ?_))))
 rw [f68_l1] at h
 refine Rcc 6 q (Ci h q (fun h => ?_) (fun h => ?_))
 refine Rcl 6 q (Ix h e33 E101_eq q Zl q q fun x98 _ h => (Rl 1 q (Al z101 q (WL.s0 (d_store q q q q q q s101 q q) (Zw q) q (Rll 7 q ?_)))))
 obtain ⟨r99,hr99,h⟩:=bindS h
 refine WL.fn q q q q (f110_c _ _ hr99) ⟨Zl,(Le.agd (Zs _)),Zt⟩ (Zw q) q q (Rlc 3 q (Ci h q (fun h => ?_) (fun h => ?_)))
 exact Rcx 12 q (FA h)
 exact Rcx 15 q (WE.drop 0 (env':=[(1,.d (.pc (R135 t0))),(3,.n (IntKind.i64.wrap (n94 + x98.size))),(29,.l E101 t0.text.objs),(30,.n (List.length t0.text.objs : Int)),(31,.n (IntKind.i64.wrap (t95 + 1)))]) (Sub.one q (Sub.one q (Sub.one q (Sub.one q (Sub.one q (Sub.nil _)))))) q q (Nat.zero_le _) (Fn2 h))
 exact Rcx 4 q (En1 h)
 refine Rcl 2 q (WL.s ((b_makeMap (α:=Bool) (fun x : Int × Int => Value.agg ⟨[Value.int .i64 x.1,Value.int .i64 x.2]⟩) (fun x : Bool => AV.d (.b x))).does) (Zw q) q q (Rlc 3 q (Jn1 (fun _ => [(3,.n n90)]) (fun m100 => [mpO (fun x : Int × Int => Value.agg ⟨[Value.int .i64 x.1,Value.int .i64 x.2]⟩) (fun x : Bool => AV.d (.b x)) m100]) h (fun k101 h => ?_) (fun m100 h => ?_))))
 refine Rcl 5 q (Zq (y_len_map E140 t0.text.inits e34 q q Zl) q (Rlc 4 q (Ln2 (fun t104 _ => [(1,.d (.pc (R135 t0))),(3,.n n90),(6,.mp 0),(47,.l E140 t0.text.inits),(48,.n (List.length t0.text.inits : Int)),(49,.n t104)]) (fun _ m105 => [mpO (fun x : Int × Int => Value.agg ⟨[Value.int .i64 x.1,Value.int .i64 x.2]⟩) (fun x : Bool => AV.d (.b x)) m105]) (f68_l2 t0 k101) h (fun _ _ h => by rw [f68_l2] at h; cases h) (fun n t104 m105 h => ?_))))
 rw [f68_l2] at h
 refine Rcc 6 q (Ci h q (fun h => ?_) (fun h => ?_))
 refine Rcl 6 q (Ix h e34 E140_eq q Zl q q fun x108 _ h => (Rl 1 q (Al z140 q (WL.s0 (d_store q q q q q q s140 q q) (Zw q) q (Rll 8 q (Zq (y_build p168 z168 q q) q (Al z168 q (WL.s0 (d_store q q q q q q s168 q q) (Zw q) q (Rlc 4 q (wc_region_draw (by kernel_rfl) (by kernel_rfl) (Rq 2 q (WQ.qn (y_lookup_s (fun x : Int × Int => Value.agg ⟨[Value.int .i64 x.1,Value.int .i64 x.2]⟩) (fun x : Bool => AV.d (.b x)) m105 (k:=(x108.o,x108.slot)) (z:=false) (vs:=[.int .i64 x108.o,.int .i64 x108.slot]) Tryz.underlying166 (KeyS.int2 Tryz.underlying168 Tryz.underlying3 Tryz.underlying3 q q (by kernel_rfl)) q q q (Le.agd (Zs _)) q (by kernel_rfl) q) q (Rq 1 q ?_)))))))))))))
 obtain ⟨b109,hb109,h⟩:=bindS h
 apply WQ.grp 8 (t:=61) (d:=69) (z:=b109)
 exact q
 intro hg61
 have h:=condT hb109 hg61
 refine Rq 8 q ?_
 obtain rfl:=Oi h
 exact WQ.nil ⟨[_,_,_,_,_,_,_,_],q,q,q⟩
 intro hg61
 have h:=condF hb109 hg61
 refine Rq 5 q ?_
 obtain ⟨r110,hr110,h⟩:=bindS h
 refine WQ.q (YieldsQ.fn q q q q q (f111_c _ _ _ _ hr110) ⟨Zl,Zl,Zl,Zl,Zt⟩) (Wt.yes q q q) q q (Rq 2 q ?_)
 obtain rfl:=Oi h
 exact WQ.nil ⟨[_,_,_,_,_,_,_,_],q,q,q⟩
 refine Rq 1 q ?_
 obtain ⟨b111,hb111,h⟩:=bindS h
 apply WQ.grp 12 (t:=70) (d:=82) (z:=b111)
 exact q
 intro hg70
 have h:=condT hb111 hg70
 refine Rq 12 q ?_
 obtain rfl:=Oi h
 exact WQ.nil ⟨[_,_,_,_,_,_,_,_,_,_,_,_],q,q,q⟩
 intro hg70
 have h:=condF hb111 hg70
 refine Rq 5 q ?_
 obtain ⟨x112,hx112,h⟩:=bindS h
 refine WQ.qy (y_indexAddr e33 q Zl q (idx_nonneg hx112) (idx_row E101_eq hx112) q) q q q (Rq 3 q ?_)
 obtain ⟨r113,hr113,h⟩:=bindS h
 refine WQ.q (YieldsQ.fn q q q q q (f79_c _ _ hr113) ⟨Zl,Zl,Zt⟩) (Wt.yes q q q) q q (Rq 2 q ?_)
 obtain rfl:=Oi h
 exact WQ.nil ⟨[_,_,_,_,_,_,_,_,_,_,_,_],q,q,q⟩
 refine WQ.nil (Rxc 1 q (Ci h q (fun h => ?_) (fun h => ?_)))
 exact Rcx 12 q (FA h)
 exact Rcl 5 q (WL.s0 (d_mapUpdate_s (fun x : Int × Int => Value.agg ⟨[Value.int .i64 x.1,Value.int .i64 x.2]⟩) (fun x : Bool => AV.d (.b x)) m105 (k:=(x108.o,x108.slot)) (vs:=[.int .i64 x108.o,.int .i64 x108.slot]) (.inr q) Tryz.underlying166 (KeyS.int2 Tryz.underlying168 Tryz.underlying3 Tryz.underlying3 q q (by kernel_rfl)) q q q (Le.agd (Zs _)) q q) (Zw q) q (Rlx 7 q (WE.drop 1 (env':=[(1,.d (.pc (R135 t0))),(3,.n n90),(6,.mp 0),(47,.l E140 t0.text.inits),(48,.n (List.length t0.text.inits : Int)),(49,.n (IntKind.i64.wrap (t104 + 1)))]) (Sub.one q (Sub.one q (Sub.one q (Sub.one q (Sub.one q (Sub.one q (Sub.nil _))))))) q (stLt_cons (lt_mp _ (fun x : Int × Int => Value.agg ⟨[Value.int .i64 x.1,Value.int .i64 x.2]⟩) (fun x : Bool => (.b x : D)) _) q) (Nat.zero_le _) (Fn2 h))))
 exact Rcx 4 q (En1 h)
 exact Rcx 8 q (FA h)

theorem f112_c (t0 : View) (a1 : Int) : Pu Tryz.prog 112 [.ag (R135 t0),.i .i64 a1] (.b (f112 t0 a1)):=by
 generalize h : f112 t0 a1 = r
 unfold f112 at h
 refine fn_intro Tryz.func112 (by kernel_rfl) q q q (fun φφ ww => ?_)
 refine Rcl 2 q (Bd q q (Zs _) q (Rll 8 q ?_))
 apply WL.and 7 (t:=7) (d:=14)
 exact q
 intro hg7
 exact Rl 4 q (Zy (y_len_map E45 t0.text.insns e23 q q Zl) q q q (Rl 2 q (WL.nil ⟨q,[_,_,_,_,_,_,_],q,q,q⟩)))
 exact Rl 7 q (WL.nil ⟨q,[_,_,_,_,_,_,_],q,q,q⟩)
 exact Rlx 4 q (FB h)

theorem f149_c (s0 : List Entry) (cb1 : Entry → Option (Bool)) (g1 : FuncId) (fi1 ca1 : List D) (hcb1 : ∀ (y0 : Entry) (r : Bool),cb1 y0 = some r → Pu Tryz.prog g1 (fi1 ++ [.ag (R173 y0)] ++ ca1) (.b r)) {r : Int} (h : f149 s0 cb1 = some r) : Pu Tryz.prog 149 [.sl (List.map E173 s0),.fnc (.func g1) fi1 ca1] (.i .i64 r):=by
 unfold f149 at h
 refine fn_intro Tryz.func149 (by kernel_rfl) q q q (fun φφ ww => ?_)
 refine WC.cast 1 q (Le.fncd _ _ _) (Rcc 5 q (Jn0 [] [] h (fun k22 h => ?_) (fun h => ?_)))
 refine Rcl 3 q (Zq (y_len_map E173 s0 e25 q q Zl) q (Rlc 4 q (Ln1 (fun t24 => [(0,.l E173 s0),(1,.fn (.func g1) (List.map AV.d fi1) (List.map AV.d ca1)),(7,.n (List.length s0 : Int)),(8,.n t24)]) (fun _ => []) (f149_l1 s0 cb1 k22) h (fun _ h => by rw [f149_l1] at h; cases h) (fun n t24 h => ?_))))
 rw [f149_l1] at h
 refine Rcc 6 q (Ci h q (fun h => ?_) (fun h => ?_))
 refine Rcl 15 q (Ix h e25 E173_eq q Zl q q fun x26 _ h => (Rl 1 q ?_))
 obtain ⟨r27,hr27,h⟩:=bindS h
 refine WL.fn q q q q (hcb1 _ _ hr27) (Les.mid ⟨Zl,Zt⟩) (Zw q) q q (Rlc 2 q (Ci h q (fun h => ?_) (fun h => ?_)))
 exact Rcx 12 q (FA h)
 exact Rcx 7 q (Fn1 h)
 exact Rcx 4 q (En0 h)
 exact Rcx 6 q (FA h)

theorem f113_c (s0 : List Entry) (cb1 : Entry → Option (Bool)) (g1 : FuncId) (fi1 ca1 : List D) (hcb1 : ∀ (y0 : Entry) (r : Bool),cb1 y0 = some r → Pu Tryz.prog g1 (fi1 ++ [.ag (R173 y0)] ++ ca1) (.b r)) {r : Bool} (h : f113 s0 cb1 = some r) : Pu Tryz.prog 113 [.sl (List.map E173 s0),.fnc (.func g1) fi1 ca1] (.b r):=by
 unfold f113 at h
 refine fn_intro Tryz.func113 (by kernel_rfl) q q q (fun φφ ww => ?_)
 refine WC.cast 1 q (Le.fncd _ _ _) (Rcl 9 q ?_)
 obtain ⟨r12,hr12,h⟩:=bindS h
 exact WL.fn q q q q (f149_c _ _ g1 fi1 ca1 hcb1 hr12) ⟨Zl,(Le.fnc (Zs _) (Zs _)),Zt⟩ (Zw q) q q (Rlx 5 q (FA h))

theorem f150_c (o0 : Int) (cap1 : View) {r : Bool} (h : f150 o0 cap1 = some r) : Pu Tryz.prog 150 [.i .i64 o0,.pc (R135 cap1)] (.b r):=by
 unfold f150 at h
 refine fn_intro Tryz.func150 (by kernel_rfl) q q q (fun φφ ww => ?_)
 refine Rcl 10 q ?_
 apply WL.or 7 (t:=6) (d:=13)
 exact q
 intro hg6
 exact Rl 4 q (Zy (y_len_map E101 cap1.text.objs e33 q q Zl) q q q (Rl 2 q (WL.nil ⟨q,[_,_,_,_,_,_,_],q,q,q⟩)))
 exact Rl 7 q (WL.nil ⟨q,[_,_,_,_,_,_,_],q,q,q⟩)
 refine Rl 1 q ?_
 obtain ⟨b26,hb26,h⟩:=bindS h
 apply WL.grp 9 (t:=14) (d:=23) (z:=b26)
 exact q
 intro hg14
 have h:=condT hb26 hg14
 refine Rl 9 q ?_
 obtain rfl:=Oi h
 exact WL.nil ⟨q,[_,_,_,_,_,_,_,_,_],q,q,q⟩
 intro hg14
 have h:=condF hb26 hg14
 refine Rl 4 q ?_
 obtain ⟨x27,hx27,h⟩:=bindS h
 refine Zy (y_indexAddr e33 q Zl q (idx_nonneg hx27) (idx_row E101_eq hx27) q) q q q (Rl 4 q ?_)
 obtain rfl:=Oi h
 exact WL.nil ⟨q,[_,_,_,_,_,_,_,_,_],q,q,q⟩
 exact Rlx 4 q (FA h)

theorem f115_c (t0 : View) (l1 : List Int) {r : Bool} (h : f115 t0 l1 = some r) : Pu Tryz.prog 115 [.ag (R135 t0),.sl (List.map E3 l1)] (.b r):=by
 unfold f115 at h
 refine fn_intro Tryz.func115 (by kernel_rfl) q q q (fun φφ ww => ?_)
 refine Rcl 2 q (Bd q q (Zs _) q (Rll 6 q (Zq (y_len_map E3 l1 e96 q q Zl) q (Rl 2 q ?_))))
 obtain ⟨b17,hb17,h⟩:=bindS h
 apply WL.grp 5 (t:=8) (d:=13) (z:=b17)
 exact q
 intro hg8
 have h:=condT hb17 hg8
 refine Rl 2 q ?_
 obtain ⟨r18,hr18,h⟩:=bindS h
 refine WL.fn q q q q (f128_c _ _ 150 [] [(.pc (R135 t0))] (fun z0 _ h => f150_c z0 t0 h) hr18) ⟨Zl,(Le.fnc Zt ⟨Zl,Zt⟩),Zt⟩ (Wt.yes q q q) q q (Rl 2 q ?_)
 obtain rfl:=Oi h
 exact WL.nil ⟨q,[_,_,_,_,_],q,q,q⟩
 intro hg8
 have h:=condF hb17 hg8
 refine Rl 5 q ?_
 obtain rfl:=Oi h
 exact WL.nil ⟨q,[_,_,_,_,_],q,q,q⟩
 exact Rlx 4 q (FA h)

theorem f114_c (e0 : Entry) (cap1 : View) {r : Bool} (h : f114 e0 cap1 = some r) : Pu Tryz.prog 114 [.ag (R173 e0),.pc (R135 cap1)] (.b r):=by
 unfold f114 at h
 refine fn_intro Tryz.func114 (by kernel_rfl) q q q (fun φφ ww => ?_)
 refine Rcl 2 q (Bd q q (Zs _) q (Rll 8 q ?_))
 obtain ⟨r18,hr18,h⟩:=bindS h
 refine WL.fn q q q q (f115_c _ _ hr18) ⟨Zl,Zl,Zt⟩ (Zw q) q q (Rl 2 q ?_)
 obtain ⟨b19,hb19,h⟩:=bindS h
 apply WL.grp 6 (t:=9) (d:=15) (z:=b19)
 exact q
 intro hg9
 have h:=condT hb19 hg9
 refine Rl 6 q ?_
 obtain rfl:=Oi h
 exact WL.nil ⟨q,[_,_,_,_,_,_],q,q,q⟩
 intro hg9
 have h:=condF hb19 hg9
 refine Rl 3 q ?_
 obtain ⟨r20,hr20,h⟩:=bindS h
 refine WL.fn q q q q (f115_c _ _ hr20) ⟨Zl,Zl,Zt⟩ (Wt.yes q q q) q q (Rl 2 q ?_)
 obtain rfl:=Oi h
 exact WL.nil ⟨q,[_,_,_,_,_,_],q,q,q⟩
 exact Rlx 4 q (FA h)

theorem f69_c (t0 : View) {r : Bool} (h : f69 t0 = some r) : Pu Tryz.prog 69 [.ag (R135 t0)] (.b r):=by
 unfold f69 at h
 refine fn_intro Tryz.func69 (by kernel_rfl) q q q (fun φφ ww => ?_)
 refine Rcl 2 q (Bd q q (Zs _) q (Rll 9 q (Zq (y_len_map E27 t0.text.tasks e28 q q Zl) q (Rl 2 q ?_))))
 apply WL.or 6 (t:=10) (d:=16)
 exact q
 intro hg10
 exact Rl 3 q (Zy (y_len_map E27 t0.text.tasks e28 q q Zl) q q q (Rl 2 q (WL.nil ⟨q,[_,_,_,_,_,_],q,q,q⟩)))
 exact Rl 6 q (WL.nil ⟨q,[_,_,_,_,_,_],q,q,q⟩)
 refine Rlc 2 q (Ci h q (fun h => ?_) (fun h => ?_))
 exact Rcx 7 q (FA h)
 refine Rcc 2 q (Jn0 [] [] h (fun k63 h => ?_) (fun h => ?_))
 refine Rcl 5 q (Zq (y_len_map E27 t0.text.tasks e28 q q Zl) q (Rlc 4 q (Ln1 (fun t65 => [(1,.d (.pc (R135 t0))),(19,.l E27 t0.text.tasks),(20,.n (List.length t0.text.tasks : Int)),(21,.n t65)]) (fun _ => []) (f69_l1 t0 k63) h (fun _ h => by rw [f69_l1] at h; cases h) (fun n t65 h => ?_))))
 rw [f69_l1] at h
 refine Rcc 6 q (Ci h q (fun h => ?_) (fun h => ?_))
 refine Rcl 6 q (Ix h e28 E27_eq q Zl q q fun x67 _ h => (Rl 1 q (Al z27 q (WL.s0 (d_store q q q q q q s27 q q) (Zw q) q (Rll 9 q ?_)))))
 apply WL.or 4 (t:=28) (d:=32)
 exact q
 intro hg28
 exact Rl 4 q (WL.nil ⟨q,[_,_,_,_],q,q,q⟩)
 exact Rl 4 q (WL.nil ⟨q,[_,_,_,_],q,q,q⟩)
 refine Rl 1 q ?_
 apply WL.or 6 (t:=33) (d:=39)
 exact q
 intro hg33
 exact Rl 3 q (WL.fn q q q q (f112_c _ _) ⟨Zl,Zl,Zt⟩ (Wt.yes q q q) q q (Rl 2 q (WL.nil ⟨q,[_,_,_,_,_,_],q,q,q⟩)))
 exact Rl 6 q (WL.nil ⟨q,[_,_,_,_,_,_],q,q,q⟩)
 refine Rl 1 q ?_
 apply WL.or 4 (t:=40) (d:=44)
 exact q
 intro hg40
 exact Rl 4 q (WL.nil ⟨q,[_,_,_,_],q,q,q⟩)
 exact Rl 4 q (WL.nil ⟨q,[_,_,_,_],q,q,q⟩)
 refine Rl 1 q ?_
 apply WL.or 4 (t:=45) (d:=49)
 exact q
 intro hg45
 exact Rl 4 q (WL.nil ⟨q,[_,_,_,_],q,q,q⟩)
 exact Rl 4 q (WL.nil ⟨q,[_,_,_,_],q,q,q⟩)
 refine Rl 1 q ?_
 apply WL.or 5 (t:=50) (d:=55)
 exact q
 intro hg50
 exact Rl 2 q (Zy (y_len_map E173 x67.entries e25 q q Zl) q q q (Rl 2 q (WL.nil ⟨q,[_,_,_,_,_],q,q,q⟩)))
 exact Rl 5 q (WL.nil ⟨q,[_,_,_,_,_],q,q,q⟩)
 refine Rlc 2 q (Ci h q (fun h => ?_) (fun h => ?_))
 exact Rcx 12 q (FA h)
 refine Rcl 7 q ?_
 obtain ⟨r68,hr68,h⟩:=bindS h
 refine WL.fn q q q q (f113_c _ _ 114 [] [(.pc (R135 t0))] (fun z0 _ h => f114_c z0 t0 h) hr68) ⟨Zl,(Le.fnc Zt ⟨Zl,Zt⟩),Zt⟩ (Zw q) q q (Rlc 2 q (Ci h q (fun h => ?_) (fun h => ?_)))
 exact Rcx 11 q (FA h)
 exact Rcx 7 q (WE.drop 0 (env':=[(1,.d (.pc (R135 t0))),(19,.l E27 t0.text.tasks),(20,.n (List.length t0.text.tasks : Int)),(21,.n (IntKind.i64.wrap (t65 + 1)))]) (Sub.one q (Sub.one q (Sub.one q (Sub.one q (Sub.nil _))))) q q (Nat.zero_le _) (Fn1 h))
 exact Rcx 4 q (En0 h)
 exact Rcx 6 q (FA h)

theorem f70_c (t0 : View) {r : Bool} (h : f70 t0 = some r) : Pu Tryz.prog 70 [.ag (R135 t0)] (.b r):=by
 unfold f70 at h
 refine fn_intro Tryz.func70 (by kernel_rfl) q q q (fun φφ ww => ?_)
 refine Rcl 2 q (Bd q q (Zs _) q (Rll 9 q (Zq (y_len_map E96 t0.text.lists e32 q q Zl) q (Rlc 3 q (Ci h q (fun h => ?_) (fun h => ?_))))))
 exact Rcx 7 q (FA h)
 refine Rcc 2 q (Jn0 [] [] h (fun k52 h => ?_) (fun h => ?_))
 refine Rcl 5 q (Zq (y_len_map E96 t0.text.lists e32 q q Zl) q (Rlc 4 q (Ln1 (fun t54 => [(1,.d (.pc (R135 t0))),(15,.l E96 t0.text.lists),(16,.n (List.length t0.text.lists : Int)),(17,.n t54)]) (fun _ => []) (f70_l1 t0 k52) h (fun _ h => by rw [f70_l1] at h; cases h) (fun n t54 h => ?_))))
 rw [f70_l1] at h
 refine Rcc 6 q (Ci h q (fun h => ?_) (fun h => ?_))
 refine Rcc 2 q (Jn1 (fun _ => [(1,.d (.pc (R135 t0))),(15,.l E96 t0.text.lists),(16,.n (List.length t0.text.lists : Int)),(17,.n t54)]) (fun m56 => [mpO (fun x : Int => Value.int .i64 x) (fun x : Bool => AV.d (.b x)) m56]) h (fun _ h => ?_) (fun m56 h => ?_))
 refine Rcl 3 q (Ix h e32 E96_eq q Zl q q fun x58 _ h => (Rll 6 q (WL.s ((b_makeMap (α:=Bool) (fun x : Int => Value.int .i64 x) (fun x : Bool => AV.d (.b x))).does) (Zw q) q q (Rlc 3 q (Jn1 (fun _ => [(1,.d (.pc (R135 t0))),(4,.l E3 x58),(15,.l E96 t0.text.lists),(16,.n (List.length t0.text.lists : Int)),(17,.n t54)]) (fun m59 => [mpO (fun x : Int => Value.int .i64 x) (fun x : Bool => AV.d (.b x)) m59]) h (fun k60 h => ?_) (fun m59 h => ?_))))))
 refine Rcl 3 q (Zq (y_len_map E3 x58 e96 q q Zl) q (Rlc 4 q (Ln2 (fun t63 _ => [(1,.d (.pc (R135 t0))),(4,.l E3 x58),(5,.mp 0),(15,.l E96 t0.text.lists),(16,.n (List.length t0.text.lists : Int)),(17,.n t54),(22,.l E3 x58),(23,.n (List.length x58 : Int)),(24,.n t63)]) (fun _ m64 => [mpO (fun x : Int => Value.int .i64 x) (fun x : Bool => AV.d (.b x)) m64]) (f70_l2 t0 x58 k60) h (fun _ _ h => by rw [f70_l2] at h; cases h) (fun na t63 m64 h => ?_))))
 rw [f70_l2] at h
 refine Rcc 6 q (Ci h q (fun h => ?_) (fun h => ?_))
 refine Rcl 6 q (Ix h e96 E3_eq q Zl q q fun x67 _ h => (Rll 10 q ?_))
 apply WL.or 7 (t:=30) (d:=37)
 exact q
 intro hg30
 exact Rl 4 q (Zy (y_len_map E27 t0.text.tasks e28 q q Zl) q q q (Rl 2 q (WL.nil ⟨q,[_,_,_,_,_,_,_],q,q,q⟩)))
 exact Rl 7 q (WL.nil ⟨q,[_,_,_,_,_,_,_],q,q,q⟩)
 refine Rl 1 q ?_
 apply WL.or 4 (t:=38) (d:=42)
 exact q
 intro hg38
 exact Rl 2 q (Zy (y_lookup (fun x : Int => Value.int .i64 x) (fun x : Bool => AV.d (.b x)) m64 (z:=false) Tryz.underlying176 Tryz.underlying3 (KeyF.int .i64) q q q (by kernel_rfl) q) q q q (Rl 1 q (WL.nil ⟨q,[_,_,_,_],q,q,q⟩)))
 exact Rl 4 q (WL.nil ⟨q,[_,_,_,_],q,q,q⟩)
 refine Rlc 2 q (Ci h q (fun h => ?_) (fun h => ?_))
 exact Rcx 17 q (FA h)
 exact Rcl 5 q (WL.s0 (d_mapUpdate (fun x : Int => Value.int .i64 x) (fun x : Bool => AV.d (.b x)) m64 (.inr q) Tryz.underlying176 Tryz.underlying3 (KeyF.int .i64) q q q q) (Zw q) q (Rlx 7 q (Fn2 h)))
 exact Rcx 4 q (En1 h)
 refine Rcl 3 q (Zq (y_len_map E3 x58 e96 q q Zl) q (Rlc 3 q (Ci h q (fun h => ?_) (fun h => ?_))))
 exact Rcx 11 q (FA h)
 exact Rcx 2 q (En1 h)
 exact Rcx 4 q (WE.drop 0 (env':=[(1,.d (.pc (R135 t0))),(15,.l E96 t0.text.lists),(16,.n (List.length t0.text.lists : Int)),(17,.n (IntKind.i64.wrap (t54 + 1)))]) (Sub.one q (Sub.one q (Sub.one q (Sub.one q (Sub.nil _))))) q q (Nat.zero_le _) (Fn1 h))
 exact Rcx 4 q (En0 h)
 exact Rcx 6 q (FA h)

theorem f116s_c (rec116 : (List Insn) → (List MHandler) → (List Loop) → (List Select) → (List (List Int)) → (List Obj) → (List Init) → Int → (List MTask) → (List MProt) → (List Check) → Int → Int → CExpr → Int → Option (Bool × (List Insn) × (List MHandler) × (List Loop) × (List Select) × (List (List Int)) × (List Obj) × (List Init) × Int × (List MTask) × (List MProt) × (List Check) × Int × Int)) (jv0 : List Insn) (jv1 : List MHandler) (jv2 : List Loop) (jv3 : List Select) (jv4 : List (List Int)) (jv5 : List Obj) (jv6 : List Init) (jv7 : Int) (jv8 : List MTask) (jv9 : List MProt) (jv10 : List Check) (jent : Int) (jleft : Int) (e1 : CExpr) (deep2 : Int) (hrec116 : ∀ (jv0 : List Insn) (jv1 : List MHandler) (jv2 : List Loop) (jv3 : List Select) (jv4 : List (List Int)) (jv5 : List Obj) (jv6 : List Init) (jv7 : Int) (jv8 : List MTask) (jv9 : List MProt) (jv10 : List Check) (jent : Int) (jleft : Int) (x1 : CExpr) (x2 : Int) (r : Bool × (List Insn) × (List MHandler) × (List Loop) × (List Select) × (List (List Int)) × (List Obj) × (List Init) × Int × (List MTask) × (List MProt) × (List Check) × Int × Int),rec116 jv0 jv1 jv2 jv3 jv4 jv5 jv6 jv7 jv8 jv9 jv10 jent jleft x1 x2 = some r → Ctr Tryz.prog 116 [.pt 0 0,.d (.ag (R179 x1)),.n x2] [.row 182 (txW jv0 jv1 jv2 jv3 jv4 jv5 jv6 jv7 jv8 jv9 jv10 jent jleft)] (WinX 1 (.b r.1) (fun _ => [.row 182 (txW r.2.1 r.2.2.1 r.2.2.2.1 r.2.2.2.2.1 r.2.2.2.2.2.1 r.2.2.2.2.2.2.1 r.2.2.2.2.2.2.2.1 r.2.2.2.2.2.2.2.2.1 r.2.2.2.2.2.2.2.2.2.1 r.2.2.2.2.2.2.2.2.2.2.1 r.2.2.2.2.2.2.2.2.2.2.2.1 r.2.2.2.2.2.2.2.2.2.2.2.2.1 r.2.2.2.2.2.2.2.2.2.2.2.2.2)]))) {r : Bool × (List Insn) × (List MHandler) × (List Loop) × (List Select) × (List (List Int)) × (List Obj) × (List Init) × Int × (List MTask) × (List MProt) × (List Check) × Int × Int} (h : f116s rec116 jv0 jv1 jv2 jv3 jv4 jv5 jv6 jv7 jv8 jv9 jv10 jent jleft e1 deep2 = some r) : Ctr Tryz.prog 116 [.pt 0 0,.d (.ag (R179 e1)),.n deep2] [.row 182 (txW jv0 jv1 jv2 jv3 jv4 jv5 jv6 jv7 jv8 jv9 jv10 jent jleft)] (WinX 1 (.b r.1) (fun _ => [.row 182 (txW r.2.1 r.2.2.1 r.2.2.2.1 r.2.2.2.2.1 r.2.2.2.2.2.1 r.2.2.2.2.2.2.1 r.2.2.2.2.2.2.2.1 r.2.2.2.2.2.2.2.2.1 r.2.2.2.2.2.2.2.2.2.1 r.2.2.2.2.2.2.2.2.2.2.1 r.2.2.2.2.2.2.2.2.2.2.2.1 r.2.2.2.2.2.2.2.2.2.2.2.2.1 r.2.2.2.2.2.2.2.2.2.2.2.2.2)])):=by
 unfold f116s at h
 refine ctr_intro Tryz.func116 (by kernel_rfl) q q q (fun mm φφ ww hmm => ?_)
 refine Rcl 2 q (Bx q q q (Bd q q (Zs _) q (WL.s ((b_boxd q q (by exact (show Les [.n deep2] (List.map AV.d [.i .i64 deep2]) from ⟨Zl,Zt⟩))).does) (Zw q) q q (Rll 12 q (WL.s0 (d_store q q q q q q s3 q q) (Zw q) q (St q (Rll 6 q ?_)))))))
 obtain ⟨k104,hk104,h⟩:=letkS h
 refine WL.inl (us:=[.pt 0 0,.d (.ag (R179 e1))]) (fun rv st' => (∃ (t97 : Bool),∃ (t98 : Int),∃ (t99 : CExpr),∃ (c21100 : Int),∃ (c22101 : Int),∃ (c23102 : Int),∃ (c24103 : Int),k104 t97 t98 t99 c21100 c22101 c23102 c24103 = some r ∧ Le rv (.tu [.d (.ag (R179 t99)),.n t98,.d (D.b t97)]) ∧ SLe st' [.row 182 (txW jv0 jv1 jv2 jv3 jv4 jv5 jv6 jv7 jv8 jv9 jv10 jent (IntKind.i64.wrap (jleft - 1))),.row 180 [.pt 0 0],.row 179 [.d (D.i .u8 e1.kind),.d (D.i .u8 c21100),.n c22101,.n c23102,.n c24103,.n 0,.n 0,.n 0,sN]])) q q q q q ?_ (Zw q) q q ?_
 refine ctr_intro Tryz.func151 (by kernel_rfl) q q q (fun mm φφ ww hm96 => ?_)
 refine Rcl 2 q (Bd q q (Zs _) q (Al z179 q (Rll 9 q (WL.s0 (d_store q q q q q q s177 q q) (Zw q) q (St q (Rlc 2 q (Jn5 (fun parts105 _ _ _ _ => [(4,.pt 2 0),(5,.n parts105)]) (fun _ c21106 c22107 c23108 c24109 => [.row 182 (txW jv0 jv1 jv2 jv3 jv4 jv5 jv6 jv7 jv8 jv9 jv10 jent (IntKind.i64.wrap (jleft - 1))),.row 180 [.pt 0 0],.row 179 [.d (D.i .u8 e1.kind),.d (D.i .u8 c21106),.n c22107,.n c23108,.n c24109,.n 0,.n 0,.n 0,sN]]) h (fun _ h => ?_) (fun parts105 c21106 c22107 c23108 c24109 h => ?_))))))))
 refine Rcc 13 q (Ci h q (fun h => ?_) (fun h => ?_))
 exact Rcl 4 q (WL.s0 (d_store q q q q q q s2 q q) (Zw q) q (St q (Rlx 2 q (En5 h))))
 refine Rcc 6 q (Ci h q (fun h => ?_) (fun h => ?_))
 refine Rcc 2 q (wc_region_draw (by kernel_rfl) (by kernel_rfl) (Rq 8 q ?_))
 obtain ⟨r111,hr111,h⟩:=bindS h
 refine WQ.q (YieldsQ.fn q q q q q (f111_c _ _ _ _ hr111) ⟨(Le.agd (Zs _)),Zl,Zl,Zl,Zt⟩) (Zw q) q q (Rq 2 q ?_)
 obtain ⟨b112,hb112,h⟩:=bindS h
 apply WQ.grp 12 (t:=30) (d:=42) (z:=b112)
 exact q
 intro hg30
 have h:=condT hb112 hg30
 refine Rq 12 q ?_
 obtain rfl:=Oi h
 exact WQ.nil ⟨[_,_,_,_,_,_,_,_,_,_,_,_],q,q,q⟩
 intro hg30
 have h:=condF hb112 hg30
 refine Rq 8 q ?_
 obtain ⟨x113,hx113,h⟩:=bindS h
 refine WQ.qy (y_indexAddr e33 q Zl q (idx_nonneg hx113) (idx_row E101_eq hx113) q) q q q (Rq 3 q ?_)
 obtain rfl:=Oi h
 exact WQ.nil ⟨[_,_,_,_,_,_,_,_,_,_,_,_],q,q,q⟩
 refine WQ.nil (Rxc 1 q (Ci h q (fun h => ?_) (fun h => ?_)))
 exact Rcl 3 q (WL.s0 (d_store q q q q q q s179 q q) (Zw q) q (St q (Rlx 8 q (we_ret (rs3 q (rv_cN q q a179 s179 q) (rv_t q) (rv_t q)) ⟨false,0,(CExpr.mk e1.kind 0 0 0 0 0 0 0 []),0,0,0,0,h,(Le.tu ⟨(Le.agd ⟨Zl,Zl,Zl,Zl,Zl,Zl,Zl,Zl,Le.nil,Zt⟩),Zl,Zl,Zt⟩),⟨Zp,Zp,Zp,Zt⟩⟩))))
 refine Rcc 2 q ?_
 apply RT [_,_,_,_,_,.u,_,.u] [5,7] [[.row 182 (txW jv0 jv1 jv2 jv3 jv4 jv5 jv6 jv7 jv8 jv9 jv10 jent (IntKind.i64.wrap (jleft - 1))),.row 180 [.pt 0 0],.row 179 [.d (D.i .u8 e1.kind),.d (D.i .u8 0),.n 0,.n e1.o,.n 0,.n 0,.n 0,.n 0,sN]],[.row 182 (txW jv0 jv1 jv2 jv3 jv4 jv5 jv6 jv7 jv8 jv9 jv10 jent (IntKind.i64.wrap (jleft - 1))),.row 180 [.pt 0 0],.row 179 [.d (D.i .u8 e1.kind),.d (D.i .u8 0),.n 0,.n e1.o,.n e1.off,.n 0,.n 0,.n 0,sN]]] [([],[3],[0]),([0],[],[0]),([],[3],[0,1]),([2],[],[0,1]),([],[4],[0]),([4,1],[],[0]),([],[4],[1]),([6,3],[],[1])] (by kernel_rfl) (by kernel_rfl) q q
 refine ⟨?_,?_,?_,?_,?_,?_,?_,?_,Zt⟩
 exact O1 q (fun _ => q) q q
 exact O1 q (fun _ => q) q q
 exact ⟨O2 q (fun _ => q) q q,O2 q (fun _ => q) q q,Zt⟩
 exact ⟨O2 q (fun _ => q) q q,O2 q (fun _ => q) q q,Zt⟩
 exact O1 q (fun _ => q) q q
 refine ⟨fun F => ?_,Zt⟩
 exact WL.s0 (d_store q q q q q q s3 q q) (Zw q) q (WL.done0 q q)
 exact O1 q (fun _ => q) q q
 refine ⟨fun F => ?_,Zt⟩
 exact WL.s0 (d_store q q q q q q s3 q q) (Zw q) q (WL.done0 q q)
 exact Rxx 1 q (En5 h)
 refine Rcc 6 q (Ci h q (fun h => ?_) (fun h => ?_))
 refine Rcl 5 q (WL.s0 (d_store q q q q q q s2 q q) (Zw q) q (St q (Rlc 2 q (Jn1 (fun ok114 => [(4,.pt 2 0),(5,.n 0),(6,.d (D.b ok114))]) (fun _ => [.row 182 (txW jv0 jv1 jv2 jv3 jv4 jv5 jv6 jv7 jv8 jv9 jv10 jent (IntKind.i64.wrap (jleft - 1))),.row 180 [.pt 0 0],.row 179 [.d (D.i .u8 e1.kind),.d (D.i .u8 0),.n e1.n,.n 0,.n 0,.n 0,.n 0,.n 0,sN]]) h (fun _ h => ?_) (fun ok114 h => ?_)))))
 rcases boolCases (decide (e1.n ≥ 0)) with hb2 | hb2
 replace h:=condT h hb2
 apply RT [_,_,_,_,_,_,_,_,_,_,_,_,_,.u,_,_] [] [] [([],[4],[0]),([],[3],[0]),([1],[],[0]),([2],[],[0]),([3],[],[0]),([4],[3],[0]),([5,4],[],[0]),([4],[0],[0]),([7,4],[],[0]),([8,4],[],[0]),([9,4],[],[0]),([6,10,4],[],[0]),([4,11],[],[0]),([0],[4],[0]),([],[],[0]),([12],[],[0])] (by kernel_rfl) (by kernel_rfl) q q
 refine ⟨?_,?_,?_,?_,?_,?_,?_,?_,?_,?_,?_,?_,?_,?_,?_,?_,Zt⟩
 exact O1 q (fun _ => q) q q
 exact O1 q (fun _ => q) q q
 exact O1 q (fun _ => q) q q
 exact O1 q (fun _ => q) q q
 refine ⟨fun F => ?_,Zt⟩
 exact Rl 1 q (WL.cast 59 q (Le.ofd (Cb hb2)) (WL.done2 q q q))
 exact O1 q (fun _ => q) q q
 exact O1 q (fun _ => q) q q
 exact O1 q (fun _ => q) q q
 exact O1 q (fun _ => q) q q
 exact O1 q (fun _ => q) q q
 exact O1 q (fun _ => q) q q
 exact O1 q (fun _ => q) q q
 exact O1 q (fun _ => q) q q
 refine ⟨fun F => ?_,Zt⟩
 exact WL.s0 (d_store q q q q q q s179 q q) (Zw q) q (WL.done0 q q)
 exact O1 q (fun _ => q) q q
 exact O1 q (fun _ => q) q q
 exact En1 h
 replace h:=condF h hb2
 apply RT [_,_,_,_,_,_,_,_,_,_,_,_,_,.u,_,_] [] [] [([],[4],[0]),([],[3],[0]),([1],[],[0]),([2],[],[0]),([3],[],[0]),([4],[],[0]),([4],[],[0]),([4],[],[0]),([4],[],[0]),([4],[],[0]),([4],[],[0]),([4],[],[0]),([4,11],[],[0]),([0],[4],[0]),([],[],[0]),([12],[],[0])] (by kernel_rfl) (by kernel_rfl) q q
 refine ⟨?_,?_,?_,?_,?_,?_,?_,?_,?_,?_,?_,?_,?_,?_,?_,?_,Zt⟩
 exact O1 q (fun _ => q) q q
 exact O1 q (fun _ => q) q q
 exact O1 q (fun _ => q) q q
 exact O1 q (fun _ => q) q q
 refine ⟨fun F => ?_,Zt⟩
 exact Rl 1 q (WL.cast 59 q (Le.ofd (Cb hb2)) (WL.done2 q q q))
 exact O1 q (fun _ => q) q q
 exact O1 q (fun _ => q) q q
 exact O1 q (fun _ => q) q q
 exact O1 q (fun _ => q) q q
 exact O1 q (fun _ => q) q q
 exact O1 q (fun _ => q) q q
 exact O1 q (fun _ => q) q q
 exact O1 q (fun _ => q) q q
 refine ⟨fun F => ?_,Zt⟩
 exact WL.s0 (d_store q q q q q q s179 q q) (Zw q) q (WL.done0 q q)
 exact O1 q (fun _ => q) q q
 exact O1 q (fun _ => q) q q
 exact En1 h
 exact Rcx 3 q (we_ret (rs3 q (rv_cN q q a179 s179 q) (rv_t q) (rv_t q)) ⟨ok114,0,(CExpr.mk e1.kind 0 e1.n 0 0 0 0 0 []),0,e1.n,0,0,h,(Le.tu ⟨(Le.agd ⟨Zl,Zl,Zl,Zl,Zl,Zl,Zl,Zl,Le.nil,Zt⟩),Zl,Zl,Zt⟩),⟨Zp,Zp,Zp,Zt⟩⟩)
 refine Rcc 6 q (Ci h q (fun h => ?_) (fun h => ?_))
 exact Rcl 2 q (WL.s0 (d_store q q q q q q s146 q q) (Zw q) q (St q (Rlx 3 q (En5 h))))
 refine Rcc 6 q (Ci h q (fun h => ?_) (fun h => ?_))
 exact Rcl 3 q (Zq (y_min q q q) q (Zq (y_max q q q) q (Rl 1 q (WL.s0 (d_store q q q q q q s146 q q) (Zw q) q (St q (Rlx 3 q (En5 h)))))))
 refine Jn1 (fun t116 => [(4,.pt 2 0),(78,.d (D.b t116))]) (fun _ => [.row 182 (txW jv0 jv1 jv2 jv3 jv4 jv5 jv6 jv7 jv8 jv9 jv10 jent (IntKind.i64.wrap (jleft - 1))),.row 180 [.pt 0 0],.row 179 [.d (D.i .u8 e1.kind),.d (D.i .u8 0),.n 0,.n 0,.n 0,.n 0,.n 0,.n 0,sN]]) h (fun _ h => ?_) (fun t116 h => ?_)
 refine Rcc 6 q (Ci h q (fun h => ?_) (fun h => ?_))
 exact Rcx 1 q (En1 h)
 exact Rcx 4 q (En1 h)
 refine Ci h q (fun h => ?_) (fun h => ?_)
 exact Rcx 4 q (En5 h)
 exact Rcl 3 q (WL.s0 (d_store q q q q q q s179 q q) (Zw q) q (St q (Rlx 7 q (we_ret (rs3 q (rv_cN q q a179 s179 q) (rv_t q) (rv_t q)) ⟨false,0,(CExpr.mk e1.kind 0 0 0 0 0 0 0 []),0,0,0,0,h,(Le.tu ⟨(Le.agd ⟨Zl,Zl,Zl,Zl,Zl,Zl,Zl,Zl,Le.nil,Zt⟩),Zl,Zl,Zt⟩),⟨Zp,Zp,Zp,Zt⟩⟩))))
 exact Rcl 4 q (WL.s0 (d_store q q q q q q s179 q q) (Zw q) q (St q (Rlx 5 q (we_ret (rs3 q (rv_cN q q a179 s179 q) (rv_t q) (rv_t q)) ⟨true,parts105,(CExpr.mk e1.kind c21106 c22107 c23108 c24109 0 0 0 []),c21106,c22107,c23108,c24109,h,(Le.tu ⟨(Le.agd ⟨Zl,Zl,Zl,Zl,Zl,Zl,Zl,Zl,Le.nil,Zt⟩),Zl,Zl,Zt⟩),⟨Zp,Zp,Zp,Zt⟩⟩))))
 rintro rv st1 ⟨t97,t98,t99,c21100,c22101,c23102,c24103,h,hr,hst⟩
 subst hk104
 dsimp only at h
 refine WL.cast 20 q hr (WL.weak hst (Rl 4 q (Al z179 q (WL.s0 (d_store q q q q q q s179 q q) (Zw q) q (St q (Rl 2 q (Zn (Rcl 9 q ?_))))))))
 apply WL.or 3 (t:=29) (d:=32)
 exact q
 intro hg29
 exact Rl 3 q (WL.nil ⟨q,[_,_,_],q,q,q⟩)
 exact Rl 3 q (WL.nil ⟨q,[_,_,_],q,q,q⟩)
 refine Rl 1 q ?_
 apply WL.or 3 (t:=33) (d:=36)
 exact q
 intro hg33
 exact Rl 3 q (WL.nil ⟨q,[_,_,_],q,q,q⟩)
 exact Rl 3 q (WL.nil ⟨q,[_,_,_],q,q,q⟩)
 refine Rl 1 q ?_
 apply WL.or 6 (t:=37) (d:=43)
 exact q
 intro hg37
 exact Rl 2 q (Zy (y_len_map E179 e1.l e162 q q Zl) q q q (Rl 3 q (WL.nil ⟨q,[_,_,_,_,_,_],q,q,q⟩)))
 exact Rl 6 q (WL.nil ⟨q,[_,_,_,_,_,_],q,q,q⟩)
 refine Rl 1 q ?_
 apply WL.or 6 (t:=44) (d:=50)
 exact q
 intro hg44
 exact Rl 6 q (WL.nil ⟨q,[_,_,_,_,_,_],q,q,q⟩)
 exact Rl 6 q (WL.nil ⟨q,[_,_,_,_,_,_],q,q,q⟩)
 refine Rl 1 q ?_
 apply WL.or 6 (t:=51) (d:=57)
 exact q
 intro hg51
 exact Rl 6 q (WL.nil ⟨q,[_,_,_,_,_,_],q,q,q⟩)
 exact Rl 6 q (WL.nil ⟨q,[_,_,_,_,_,_],q,q,q⟩)
 refine Rl 1 q ?_
 apply WL.or 6 (t:=58) (d:=64)
 exact q
 intro hg58
 exact Rl 6 q (WL.nil ⟨q,[_,_,_,_,_,_],q,q,q⟩)
 exact Rl 6 q (WL.nil ⟨q,[_,_,_,_,_,_],q,q,q⟩)
 refine Rl 1 q ?_
 apply WL.or 6 (t:=65) (d:=71)
 exact q
 intro hg65
 exact Rl 6 q (WL.nil ⟨q,[_,_,_,_,_,_],q,q,q⟩)
 exact Rl 6 q (WL.nil ⟨q,[_,_,_,_,_,_],q,q,q⟩)
 refine Rl 1 q ?_
 apply WL.or 4 (t:=72) (d:=76)
 exact q
 intro hg72
 exact Rl 4 q (WL.nil ⟨q,[_,_,_,_],q,q,q⟩)
 exact Rl 4 q (WL.nil ⟨q,[_,_,_,_],q,q,q⟩)
 refine Rl 1 q ?_
 apply WL.or 4 (t:=77) (d:=81)
 exact q
 intro hg77
 exact Rl 4 q (WL.nil ⟨q,[_,_,_,_],q,q,q⟩)
 exact Rl 4 q (WL.nil ⟨q,[_,_,_,_],q,q,q⟩)
 refine Rl 1 q ?_
 apply WL.or 4 (t:=82) (d:=86)
 exact q
 intro hg82
 exact Rl 4 q (WL.nil ⟨q,[_,_,_,_],q,q,q⟩)
 exact Rl 4 q (WL.nil ⟨q,[_,_,_,_],q,q,q⟩)
 refine Rlc 2 q (Ci h q (fun h => ?_) (fun h => ?_))
 refine Rcx 7 q ?_
 obtain rfl:=Oi h
 exact we_ret_winx 0 (rs1 q (rv_t q)) Zl q ⟨Zp,Zt⟩
 refine Rcl 7 q ?_
 obtain ⟨k133,hk133,h⟩:=letkS h
 refine WL.inl (us:=[.l E179 e1.l,.fn (.func 153) [] [.pt 1 0,.d (.pc (E3 deep2))]]) (fun rv st' => (∃ (t119 : Bool),∃ (c00120 : List Insn),∃ (c01121 : List MHandler),∃ (c02122 : List Loop),∃ (c03123 : List Select),∃ (c04124 : List (List Int)),∃ (c05125 : List Obj),∃ (c06126 : List Init),∃ (c07127 : Int),∃ (c08128 : List MTask),∃ (c09129 : List MProt),∃ (c010130 : List Check),∃ (c011131 : Int),∃ (c012132 : Int),k133 t119 c00120 c01121 c02122 c03123 c04124 c05125 c06126 c07127 c08128 c09129 c010130 c011131 c012132 = some r ∧ Le rv (.d (D.b t119)) ∧ SLe st' [.row 182 (txW c00120 c01121 c02122 c03123 c04124 c05125 c06126 c07127 c08128 c09129 c010130 c011131 c012132),.row 180 [.pt 0 0],.row 179 [.d (D.i .u8 e1.kind),.d (D.i .u8 c21100),.n c22101,.n c23102,.n c24103,.n 0,.n 0,.n 0,sN],.row 179 [.d (D.i .u8 t99.kind),.d (D.i .u8 t99.op),.n t99.n,.n t99.o,.n t99.off,.n t99.len,.n t99.lo,.n t99.hi,.l E179 t99.l]])) q q q q q ?_ (Zw q) q q ?_
 refine ctr_intro Tryz.func152 (by kernel_rfl) q q q (fun mm φφ ww hm118 => ?_)
 refine Rcl 9 q ?_
 obtain ⟨k149,hk149,h⟩:=letkS h
 refine WL.inl (us:=[.l E179 e1.l,.fn (.func 153) [] [.pt 1 0,.d (.pc (E3 deep2))]]) (fun rv st' => (∃ (t135 : Int),∃ (c00136 : List Insn),∃ (c01137 : List MHandler),∃ (c02138 : List Loop),∃ (c03139 : List Select),∃ (c04140 : List (List Int)),∃ (c05141 : List Obj),∃ (c06142 : List Init),∃ (c07143 : Int),∃ (c08144 : List MTask),∃ (c09145 : List MProt),∃ (c010146 : List Check),∃ (c011147 : Int),∃ (c012148 : Int),k149 t135 c00136 c01137 c02138 c03139 c04140 c05141 c06142 c07143 c08144 c09145 c010146 c011147 c012148 = some r ∧ Le rv (.n t135) ∧ SLe st' [.row 182 (txW c00136 c01137 c02138 c03139 c04140 c05141 c06142 c07143 c08144 c09145 c010146 c011147 c012148),.row 180 [.pt 0 0],.row 179 [.d (D.i .u8 e1.kind),.d (D.i .u8 c21100),.n c22101,.n c23102,.n c24103,.n 0,.n 0,.n 0,sN],.row 179 [.d (D.i .u8 t99.kind),.d (D.i .u8 t99.op),.n t99.n,.n t99.o,.n t99.off,.n t99.len,.n t99.lo,.n t99.hi,.l E179 t99.l]])) q q q q q ?_ (Zw q) q q ?_
 refine ctr_intro Tryz.func174 (by kernel_rfl) q q q (fun mm φφ ww hm134 => ?_)
 refine Rcc 5 q (Jn13 (fun _ _ _ _ _ _ _ _ _ _ _ _ _ => []) (fun c00150 c01151 c02152 c03153 c04154 c05155 c06156 c07157 c08158 c09159 c010160 c011161 c012162 => [.row 182 (txW c00150 c01151 c02152 c03153 c04154 c05155 c06156 c07157 c08158 c09159 c010160 c011161 c012162),.row 180 [.pt 0 0],.row 179 [.d (D.i .u8 e1.kind),.d (D.i .u8 c21100),.n c22101,.n c23102,.n c24103,.n 0,.n 0,.n 0,sN],.row 179 [.d (D.i .u8 t99.kind),.d (D.i .u8 t99.op),.n t99.n,.n t99.o,.n t99.off,.n t99.len,.n t99.lo,.n t99.hi,.l E179 t99.l]]) h (fun k163 h => ?_) (fun c00150 c01151 c02152 c03153 c04154 c05155 c06156 c07157 c08158 c09159 c010160 c011161 c012162 h => ?_))
 refine Rcl 3 q (Zq (y_len_map E179 e1.l e162 q q Zl) q (Rlc 4 q (Ln14 (fun t178 _ _ _ _ _ _ _ _ _ _ _ _ _ => [(0,.l E179 e1.l),(1,.fn (.func 153) [] [.pt 1 0,.d (.pc (E3 deep2))]),(7,.n (List.length e1.l : Int)),(8,.n t178)]) (fun _ c00179 c01180 c02181 c03182 c04183 c05184 c06185 c07186 c08187 c09188 c010189 c011190 c012191 => [.row 182 (txW c00179 c01180 c02181 c03182 c04183 c05184 c06185 c07186 c08187 c09188 c010189 c011190 c012191),.row 180 [.pt 0 0],.row 179 [.d (D.i .u8 e1.kind),.d (D.i .u8 c21100),.n c22101,.n c23102,.n c24103,.n 0,.n 0,.n 0,sN],.row 179 [.d (D.i .u8 t99.kind),.d (D.i .u8 t99.op),.n t99.n,.n t99.o,.n t99.off,.n t99.len,.n t99.lo,.n t99.hi,.l E179 t99.l]]) (f116s_l1 rec116 e1 deep2 k149 k163) h (fun _ _ _ _ _ _ _ _ _ _ _ _ _ _ h => by rw [f116s_l1] at h; cases h) (fun n t178 c00179 c01180 c02181 c03182 c04183 c05184 c06185 c07186 c08187 c09188 c010189 c011190 c012191 h => ?_))))
 rw [f116s_l1] at h
 refine Rcc 6 q (Ci h q (fun h => ?_) (fun h => ?_))
 refine Rcl 15 q (Ix h e162 E179_eq q Zl q q fun x206 _ h => (Rl 1 q ?_))
 obtain ⟨k222,hk222,h⟩:=letkS h
 refine WL.inl (us:=[.d (.ag (R179 x206)),.pt 1 0,.d (.pc (E3 deep2))]) (fun rv st' => (∃ (t208 : Bool),∃ (c00209 : List Insn),∃ (c01210 : List MHandler),∃ (c02211 : List Loop),∃ (c03212 : List Select),∃ (c04213 : List (List Int)),∃ (c05214 : List Obj),∃ (c06215 : List Init),∃ (c07216 : Int),∃ (c08217 : List MTask),∃ (c09218 : List MProt),∃ (c010219 : List Check),∃ (c011220 : Int),∃ (c012221 : Int),k222 t208 c00209 c01210 c02211 c03212 c04213 c05214 c06215 c07216 c08217 c09218 c010219 c011220 c012221 = some r ∧ Le rv (.d (D.b t208)) ∧ SLe st' [.row 182 (txW c00209 c01210 c02211 c03212 c04213 c05214 c06215 c07216 c08217 c09218 c010219 c011220 c012221),.row 180 [.pt 0 0],.row 179 [.d (D.i .u8 e1.kind),.d (D.i .u8 c21100),.n c22101,.n c23102,.n c24103,.n 0,.n 0,.n 0,sN],.row 179 [.d (D.i .u8 t99.kind),.d (D.i .u8 t99.op),.n t99.n,.n t99.o,.n t99.off,.n t99.len,.n t99.lo,.n t99.hi,.l E179 t99.l]])) q q q q q ?_ (Zw q) q q ?_
 refine ctr_intro Tryz.func153 (by kernel_rfl) q q q (fun mm φφ ww hm207 => ?_)
 refine Rcl 2 q (Bd q q (Zs _) q (Rll 9 q ?_))
 obtain ⟨r223,hr223,h⟩:=bindS h
 refine WL.winy [0] q q q q (hrec116 _ _ _ _ _ _ _ _ _ _ _ _ _ _ _ _ hr223) ⟨Zl,Zl,Zl,Zt⟩ q (by decide) (Re q) ⟨q,Zt⟩ q q (fun _ => q) (fun _ => (Re q)) (Zw q) q q (fun ver223 => ?_)
 exact Rlx 5 q (we_ret (rs1 q (rv_t q)) ⟨(!r223.1),r223.2.1,r223.2.2.1,r223.2.2.2.1,r223.2.2.2.2.1,r223.2.2.2.2.2.1,r223.2.2.2.2.2.2.1,r223.2.2.2.2.2.2.2.1,r223.2.2.2.2.2.2.2.2.1,r223.2.2.2.2.2.2.2.2.2.1,r223.2.2.2.2.2.2.2.2.2.2.1,r223.2.2.2.2.2.2.2.2.2.2.2.1,r223.2.2.2.2.2.2.2.2.2.2.2.2.1,r223.2.2.2.2.2.2.2.2.2.2.2.2.2,h,Zl,⟨Zp,Zp,Zp,Zp,Zt⟩⟩)
 rintro rv st1 ⟨t208,c00209,c01210,c02211,c03212,c04213,c05214,c06215,c07216,c08217,c09218,c010219,c011220,c012221,h,hr,hst⟩
 subst hk222
 dsimp only at h
 refine WL.cast 16 q hr (WL.weak hst (Zn (Ci h q (fun h => ?_) (fun h => ?_))))
 exact Rcx 12 q (we_ret (rs1 q (rv_t q)) ⟨t178,c00209,c01210,c02211,c03212,c04213,c05214,c06215,c07216,c08217,c09218,c010219,c011220,c012221,h,Zl,⟨Zp,Zp,Zp,Zp,Zt⟩⟩)
 exact Rcx 7 q (Fn14 h)
 exact Rcx 4 q (En13 h)
 exact Rcx 6 q (we_ret (rs1 q (rv_t q)) ⟨(-1),c00150,c01151,c02152,c03153,c04154,c05155,c06156,c07157,c08158,c09159,c010160,c011161,c012162,h,Zl,⟨Zp,Zp,Zp,Zp,Zt⟩⟩)
 rintro rv st1 ⟨t135,c00136,c01137,c02138,c03139,c04140,c05141,c06142,c07143,c08144,c09145,c010146,c011147,c012148,h,hr,hst⟩
 subst hk149
 dsimp only at h
 exact WL.cast 7 q hr (WL.weak hst (Rl 2 q (Zn (Rcx 1 q (we_ret (rs1 q (rv_t q)) ⟨(decide (t135 ≥ 0)),c00136,c01137,c02138,c03139,c04140,c05141,c06142,c07143,c08144,c09145,c010146,c011147,c012148,h,Zl,⟨Zp,Zp,Zp,Zp,Zt⟩⟩)))))
 rintro rv st1 ⟨t119,c00120,c01121,c02122,c03123,c04124,c05125,c06126,c07127,c08128,c09129,c010130,c011131,c012132,h,hr,hst⟩
 subst hk133
 dsimp only at h
 refine WL.cast 90 q hr (WL.weak hst (Rl 2 q (Zn (Rcx 1 q ?_))))
 obtain rfl:=Oi h
 exact we_ret_winx 0 (rs1 q (rv_t q)) Zl q ⟨Zp,Zt⟩

theorem f116_c : ∀ (n : Nat) (jv0 : List Insn) (jv1 : List MHandler) (jv2 : List Loop) (jv3 : List Select) (jv4 : List (List Int)) (jv5 : List Obj) (jv6 : List Init) (jv7 : Int) (jv8 : List MTask) (jv9 : List MProt) (jv10 : List Check) (jent : Int) (jleft : Int) (x1 : CExpr) (x2 : Int) {r : Bool × (List Insn) × (List MHandler) × (List Loop) × (List Select) × (List (List Int)) × (List Obj) × (List Init) × Int × (List MTask) × (List MProt) × (List Check) × Int × Int},f116 n jv0 jv1 jv2 jv3 jv4 jv5 jv6 jv7 jv8 jv9 jv10 jent jleft x1 x2 = some r → Ctr Tryz.prog 116 [.pt 0 0,.d (.ag (R179 x1)),.n x2] [.row 182 (txW jv0 jv1 jv2 jv3 jv4 jv5 jv6 jv7 jv8 jv9 jv10 jent jleft)] (WinX 1 (.b r.1) (fun _ => [.row 182 (txW r.2.1 r.2.2.1 r.2.2.2.1 r.2.2.2.2.1 r.2.2.2.2.2.1 r.2.2.2.2.2.2.1 r.2.2.2.2.2.2.2.1 r.2.2.2.2.2.2.2.2.1 r.2.2.2.2.2.2.2.2.2.1 r.2.2.2.2.2.2.2.2.2.2.1 r.2.2.2.2.2.2.2.2.2.2.2.1 r.2.2.2.2.2.2.2.2.2.2.2.2.1 r.2.2.2.2.2.2.2.2.2.2.2.2.2)]))
 | 0,_,_,_,_,_,_,_,_,_,_,_,_,_,_,_,_,h => by cases h
 | n + 1,jv0,jv1,jv2,jv3,jv4,jv5,jv6,jv7,jv8,jv9,jv10,jent,jleft,x1,x2,_,h => f116s_c (f116 n) jv0 jv1 jv2 jv3 jv4 jv5 jv6 jv7 jv8 jv9 jv10 jent jleft x1 x2 (fun jv0 jv1 jv2 jv3 jv4 jv5 jv6 jv7 jv8 jv9 jv10 jent jleft x1 x2 _ h => f116_c n jv0 jv1 jv2 jv3 jv4 jv5 jv6 jv7 jv8 jv9 jv10 jent jleft x1 x2 h) h

theorem f71_c (t0 : View) {r : Bool} (h : f71 t0 = some r) : Pu Tryz.prog 71 [.ag (R135 t0)] (.b r):=by
 unfold f71 at h
 refine fn_intro Tryz.func71 (by kernel_rfl) q q q (fun φφ ww => ?_)
 refine Rcl 2 q (Bd q q (Zs _) q (Rlc 3 q (Jn0 [(1,.d (.pc (R135 t0)))] [] h (fun k56 h => ?_) (fun h => ?_))))
 refine Rcl 5 q (Zq (y_len_map E164 t0.text.prots e35 q q Zl) q (Rlc 4 q (Ln1 (fun t58 => [(1,.d (.pc (R135 t0))),(10,.l E164 t0.text.prots),(11,.n (List.length t0.text.prots : Int)),(12,.n t58)]) (fun _ => []) (f71_l1 t0 k56) h (fun _ h => by rw [f71_l1] at h; cases h) (fun n t58 h => ?_))))
 rw [f71_l1] at h
 refine Rcc 6 q (Ci h q (fun h => ?_) (fun h => ?_))
 refine Rcc 2 q (Jn2 (fun _ _ => [(1,.d (.pc (R135 t0))),(10,.l E164 t0.text.prots),(11,.n (List.length t0.text.prots : Int)),(12,.n t58)]) (fun c0060 c0161 => [.row 164 [.n c0060,.l E179 c0161]]) h (fun k62 h => ?_) (fun c0060 c0161 h => ?_))
 refine Rcl 3 q (Ix h e35 E164_eq q Zl q q fun x63 _ h => (Rl 1 q (Al z164 q (WL.s0 (d_store q q q q q q s164 q q) (Zw q) q (Rll 9 q ?_)))))
 apply WL.or 4 (t:=19) (d:=23)
 exact q
 intro hg19
 exact Rl 4 q (WL.nil ⟨q,[_,_,_,_],q,q,q⟩)
 exact Rl 4 q (WL.nil ⟨q,[_,_,_,_],q,q,q⟩)
 refine Rl 1 q ?_
 apply WL.or 5 (t:=24) (d:=29)
 exact q
 intro hg24
 exact Rl 2 q (Zy (y_len_map E179 x63.barriers e162 q q Zl) q q q (Rl 2 q (WL.nil ⟨q,[_,_,_,_,_],q,q,q⟩)))
 exact Rl 5 q (WL.nil ⟨q,[_,_,_,_,_],q,q,q⟩)
 refine Rlc 2 q (Ci h q (fun h => ?_) (fun h => ?_))
 exact Rcx 12 q (FA h)
 refine Rcl 6 q (Zq (y_len_map E179 x63.barriers e162 q q Zl) q (Rlc 4 q (Ln1 (fun t65 => [(1,.d (.pc (R135 t0))),(4,.pt 0 0),(10,.l E164 t0.text.prots),(11,.n (List.length t0.text.prots : Int)),(12,.n t58),(31,.l E179 x63.barriers),(32,.n (List.length x63.barriers : Int)),(33,.n t65)]) (fun _ => [.row 164 [.n x63.ceiling,.l E179 x63.barriers]]) (f71_l2 t0 k62 x63) h (fun _ h => by rw [f71_l2] at h; cases h) (fun na t65 h => ?_))))
 rw [f71_l2] at h
 refine Rcc 6 q (Ci h q (fun h => ?_) (fun h => ?_))
 refine Rcl 6 q (Ix h e162 E179_eq q Zl q q fun x67 _ h => (Rl 1 q (Al z179 q (WL.s0 (d_store q q q q q q s179 q q) (Zw q) q (Rll 7 q (Zq (y_len_map E179 x63.barriers e162 q q Zl) q (Zq (y_build p182 z182 q q) q (Bx q q q (Rll 7 q ?_)))))))))
 obtain ⟨r68,hr68,h⟩:=bindS h
 refine WL.winy [2] q q q q (f116_c 66 _ _ _ _ _ _ _ _ _ _ _ _ _ _ _ hr68) ⟨Zl,(Le.agd (Zs _)),Zl,Zt⟩ q (by decide) (Re q) ⟨q,Zt⟩ q q (fun _ => q) (fun _ => (Re q)) (Zw q) q q (fun ver68 => ?_)
 refine Rlc 3 q (Ci h q (fun h => ?_) (fun h => ?_))
 exact Rcx 15 q (FA h)
 exact Rcx 7 q (WE.drop 1 (env':=[(1,.d (.pc (R135 t0))),(4,.pt 0 0),(10,.l E164 t0.text.prots),(11,.n (List.length t0.text.prots : Int)),(12,.n t58),(31,.l E179 x63.barriers),(32,.n (List.length x63.barriers : Int)),(33,.n (IntKind.i64.wrap (t65 + 1)))]) (Sub.one q (Sub.one q (Sub.one q (Sub.one q (Sub.one q (Sub.one q (Sub.one q (Sub.one q (Sub.nil _))))))))) q q (Nat.zero_le _) (Fn1 h))
 exact Rcx 5 q (En2 h)
 exact Rcx 4 q (WE.drop 0 (env':=[(1,.d (.pc (R135 t0))),(10,.l E164 t0.text.prots),(11,.n (List.length t0.text.prots : Int)),(12,.n (IntKind.i64.wrap (t58 + 1)))]) (Sub.one q (Sub.one q (Sub.one q (Sub.one q (Sub.nil _))))) q q (Nat.zero_le _) (Fn1 h))
 exact Rcx 4 q (En0 h)
 exact Rcl 5 q (Zq (y_len_map E164 t0.text.prots e35 q q Zl) q (Rlx 5 q (FA h)))

theorem f155_c (n0 : Int) (cap1 : View) (cap2 : Int) {r : Bool} (h : f155 n0 cap1 cap2 = some r) : Pu Tryz.prog 155 [.i .i64 n0,.pc (R135 cap1),.pc (E3 cap2)] (.b r):=by
 unfold f155 at h
 refine fn_intro Tryz.func155 (by kernel_rfl) q q q (fun φφ ww => ?_)
 refine Rcl 10 q ?_
 obtain ⟨r11,hr11,h⟩:=bindS h
 exact WL.fn q q q q (f111_c _ _ _ _ hr11) ⟨Zl,Zl,Zl,Zl,Zt⟩ (Zw q) q q (Rlx 4 q (FA h))

theorem f119_c (t0 : View) (obj1 : Int) (a2 : MAlt) {r : Bool} (h : f119 t0 obj1 a2 = some r) : Pu Tryz.prog 119 [.ag (R135 t0),.i .i64 obj1,.ag (R158 a2)] (.b r):=by
 unfold f119 at h
 refine fn_intro Tryz.func119 (by kernel_rfl) q q q (fun φφ ww => ?_)
 refine Rcl 2 q (Bd q q (Zs _) q (WL.s ((b_boxd q q (by exact (show Les [.n obj1] (List.map AV.d [.i .i64 obj1]) from ⟨Zl,Zt⟩))).does) (Zw q) q q (Bd q q (Zs _) q (Rll 15 q (WL.fn q q q q (f112_c _ _) ⟨Zl,Zl,Zt⟩ (Zw q) q q (Rl 2 q ?_))))))
 obtain ⟨b70,hb70,h⟩:=bindS h
 apply WL.grp 11 (t:=14) (d:=25) (z:=b70)
 exact q
 intro hg14
 have h:=condT hb70 hg14
 refine Rl 11 q ?_
 obtain rfl:=Oi h
 exact WL.nil ⟨q,[_,_,_,_,_,_,_,_,_,_,_],q,q,q⟩
 intro hg14
 have h:=condF hb70 hg14
 refine Rl 4 q ?_
 obtain ⟨b71,hb71,h⟩:=bindS h
 apply WL.grp 6 (t:=18) (d:=24) (z:=b71)
 exact q
 intro hg18
 have h:=condT hb71 hg18
 refine Rl 3 q ?_
 obtain ⟨r72,hr72,h⟩:=bindS h
 refine WL.fn q q q q (f155_c _ _ _ hr72) ⟨Zl,Zl,Zl,Zt⟩ (Wt.yes q q q) q q (Rl 2 q ?_)
 obtain rfl:=Oi h
 exact WL.nil ⟨q,[_,_,_,_,_,_],q,q,q⟩
 intro hg18
 have h:=condF hb71 hg18
 refine Rl 6 q ?_
 obtain rfl:=Oi h
 exact WL.nil ⟨q,[_,_,_,_,_,_],q,q,q⟩
 refine Rl 1 q ?_
 obtain rfl:=Oi h
 exact WL.nil ⟨q,[_,_,_,_,_,_],q,q,q⟩
 refine Rlc 2 q (Ci h q (fun h => ?_) (fun h => ?_))
 exact Rcx 7 q (FA h)
 refine Rcc 16 q (Ci h q (fun h => ?_) (fun h => ?_))
 refine Rcl 6 q ?_
 apply WL.and 4 (t:=33) (d:=37)
 exact q
 intro hg33
 exact Rl 4 q (WL.nil ⟨q,[_,_,_,_],q,q,q⟩)
 exact Rl 4 q (WL.nil ⟨q,[_,_,_,_],q,q,q⟩)
 refine Rl 1 q ?_
 apply WL.and 4 (t:=38) (d:=42)
 exact q
 intro hg38
 exact Rl 4 q (WL.nil ⟨q,[_,_,_,_],q,q,q⟩)
 exact Rl 4 q (WL.nil ⟨q,[_,_,_,_],q,q,q⟩)
 exact Rlx 6 q (FA h)
 refine Jn1 (fun t73 => [(5,.d (.pc (R158 a2))),(7,.fn (.func 155) [] [.d (.pc (R135 t0)),.d (.pc (E3 obj1))]),(43,.d (D.b t73))]) (fun _ => []) h (fun _ h => ?_) (fun t73 h => ?_)
 refine Rcc 6 q (Ci h q (fun h => ?_) (fun h => ?_))
 exact Rcx 1 q (En1 h)
 exact Rcx 4 q (En1 h)
 refine Ci h q (fun h => ?_) (fun h => ?_)
 refine Rcl 6 q ?_
 obtain ⟨b75,hb75,h⟩:=bindS h
 apply WL.grp 5 (t:=49) (d:=54) (z:=b75)
 exact q
 intro hg49
 have h:=condT hb75 hg49
 refine Rl 3 q ?_
 obtain ⟨r76,hr76,h⟩:=bindS h
 refine WL.fn q q q q (f155_c _ _ _ hr76) ⟨Zl,Zl,Zl,Zt⟩ (Wt.yes q q q) q q (Rl 1 q ?_)
 obtain rfl:=Oi h
 exact WL.nil ⟨q,[_,_,_,_,_],q,q,q⟩
 intro hg49
 have h:=condF hb75 hg49
 refine Rl 5 q ?_
 obtain rfl:=Oi h
 exact WL.nil ⟨q,[_,_,_,_,_],q,q,q⟩
 exact Rlx 6 q (FA h)
 refine Rcl 9 q ?_
 apply WL.and 7 (t:=58) (d:=65)
 exact q
 intro hg58
 exact Rl 4 q (Zy (y_or q q q) q q q (Rl 2 q (WL.nil ⟨q,[_,_,_,_,_,_,_],q,q,q⟩)))
 exact Rl 7 q (WL.nil ⟨q,[_,_,_,_,_,_,_],q,q,q⟩)
 exact Rlx 4 q (FA h)

theorem f72_c (t0 : View) {r : Bool} (h : f72 t0 = some r) : Pu Tryz.prog 72 [.ag (R135 t0)] (.b r):=by
 unfold f72 at h
 refine fn_intro Tryz.func72 (by kernel_rfl) q q q (fun φφ ww => ?_)
 refine Rcl 2 q (Bd q q (Zs _) q (Rll 9 q (Zq (y_len_map E155 t0.text.selects e31 q q Zl) q (Rlc 3 q (Ci h q (fun h => ?_) (fun h => ?_))))))
 exact Rcx 7 q (FA h)
 refine Rcc 2 q (Jn0 [] [] h (fun k61 h => ?_) (fun h => ?_))
 refine Rcl 5 q (Zq (y_len_map E155 t0.text.selects e31 q q Zl) q (Rlc 4 q (Ln1 (fun t63 => [(1,.d (.pc (R135 t0))),(12,.l E155 t0.text.selects),(13,.n (List.length t0.text.selects : Int)),(14,.n t63)]) (fun _ => []) (f72_l1 t0 k61) h (fun _ h => by rw [f72_l1] at h; cases h) (fun n t63 h => ?_))))
 rw [f72_l1] at h
 refine Rcc 6 q (Ci h q (fun h => ?_) (fun h => ?_))
 refine Rcl 6 q (Ix h e31 E155_eq q Zl q q fun x65 _ h => (Rl 1 q (Al z155 q (WL.s0 (d_store q q q q q q s155 q q) (Zw q) q (Rll 7 q (Zq (y_len_map E158 x65.alts e153 q q Zl) q (Rl 2 q ?_)))))))
 apply WL.or 5 (t:=22) (d:=27)
 exact q
 intro hg22
 exact Rl 2 q (Zy (y_len_map E158 x65.alts e153 q q Zl) q q q (Rl 2 q (WL.nil ⟨q,[_,_,_,_,_],q,q,q⟩)))
 exact Rl 5 q (WL.nil ⟨q,[_,_,_,_,_],q,q,q⟩)
 refine Rl 1 q ?_
 apply WL.or 4 (t:=28) (d:=32)
 exact q
 intro hg28
 exact Rl 4 q (WL.nil ⟨q,[_,_,_,_],q,q,q⟩)
 exact Rl 4 q (WL.nil ⟨q,[_,_,_,_],q,q,q⟩)
 refine Rl 1 q ?_
 apply WL.or 8 (t:=33) (d:=41)
 exact q
 intro hg33
 exact Rl 5 q (Zy (y_len_map E101 t0.text.objs e33 q q Zl) q q q (Rl 2 q (WL.nil ⟨q,[_,_,_,_,_,_,_,_],q,q,q⟩)))
 exact Rl 8 q (WL.nil ⟨q,[_,_,_,_,_,_,_,_],q,q,q⟩)
 refine Rl 1 q ?_
 apply WL.or 11 (t:=42) (d:=53)
 exact q
 intro hg42
 refine Rl 4 q ?_
 apply WL.and 6 (t:=46) (d:=52)
 exact q
 intro hg46
 exact Rl 3 q (WL.fn q q q q (f112_c _ _) ⟨Zl,Zl,Zt⟩ (Wt.yes q q q) q q (Rl 2 q (WL.nil ⟨q,[_,_,_,_,_,_],q,q,q⟩)))
 exact Rl 6 q (WL.nil ⟨q,[_,_,_,_,_,_],q,q,q⟩)
 exact Rl 1 q (WL.nil ⟨q,[_,_,_,_,_,_],q,q,q⟩)
 exact Rl 11 q (WL.nil ⟨q,[_,_,_,_,_,_,_,_,_,_,_],q,q,q⟩)
 refine Rlc 2 q (Ci h q (fun h => ?_) (fun h => ?_))
 exact Rcx 12 q (FA h)
 refine Rcl 7 q ?_
 obtain ⟨k68,hk68,h⟩:=letkS h
 refine WL.inl (us:=[.l E158 x65.alts,.fn (.func 118) [] [.d (.pc (R135 t0)),.pt 0 0]]) (fun rv st' => (∃ (t67 : Bool),k68 t67 = some r ∧ Le rv (.d (D.b t67)) ∧ SLe st' [.row 155 [.l E158 x65.alts,.n x65.obj,.n x65.else_]])) q q q q q ?_ (Zw q) q q ?_
 refine ctr_intro Tryz.func117 (by kernel_rfl) q q q (fun mm φφ ww hm66 => ?_)
 refine Rcl 9 q ?_
 obtain ⟨k71,hk71,h⟩:=letkS h
 refine WL.inl (us:=[.l E158 x65.alts,.fn (.func 118) [] [.d (.pc (R135 t0)),.pt 0 0]]) (fun rv st' => (∃ (t70 : Int),k71 t70 = some r ∧ Le rv (.n t70) ∧ SLe st' [.row 155 [.l E158 x65.alts,.n x65.obj,.n x65.else_]])) q q q q q ?_ (Zw q) q q ?_
 refine ctr_intro Tryz.func154 (by kernel_rfl) q q q (fun mm φφ ww hm69 => ?_)
 refine Rcc 5 q (Jn0 [] [.row 155 [.l E158 x65.alts,.n x65.obj,.n x65.else_]] h (fun k72 h => ?_) (fun h => ?_))
 refine Rcl 3 q (Zq (y_len_map E158 x65.alts e153 q q Zl) q (Rlc 4 q (Ln1 (fun t74 => [(0,.l E158 x65.alts),(1,.fn (.func 118) [] [.d (.pc (R135 t0)),.pt 0 0]),(7,.n (List.length x65.alts : Int)),(8,.n t74)]) (fun _ => [.row 155 [.l E158 x65.alts,.n x65.obj,.n x65.else_]]) (f72_l2 t0 x65 k71 k72) h (fun _ h => by rw [f72_l2] at h; cases h) (fun na t74 h => ?_))))
 rw [f72_l2] at h
 refine Rcc 6 q (Ci h q (fun h => ?_) (fun h => ?_))
 refine Rcl 15 q (Ix h e153 E158_eq q Zl q q fun x76 _ h => (Rl 1 q ?_))
 obtain ⟨k79,hk79,h⟩:=letkS h
 refine WL.inl (us:=[.d (.ag (R158 x76)),.d (.pc (R135 t0)),.pt 0 0]) (fun rv st' => (∃ (t78 : Bool),k79 t78 = some r ∧ Le rv (.d (D.b t78)) ∧ SLe st' [.row 155 [.l E158 x65.alts,.n x65.obj,.n x65.else_]])) q q q q q ?_ (Zw q) q q ?_
 refine ctr_intro Tryz.func118 (by kernel_rfl) q q q (fun mm φφ ww hm77 => ?_)
 refine Rcl 2 q (Bd q q (Zs _) q (Rll 9 q ?_))
 obtain ⟨r80,hr80,h⟩:=bindS h
 exact WL.fn q q q q (f119_c _ _ _ hr80) ⟨Zl,Zl,Zl,Zt⟩ (Zw q) q q (Rlx 5 q (we_ret (rs1 q (rv_t q)) ⟨(!r80),h,Zl,⟨Zp,Zt⟩⟩))
 rintro rv st1 ⟨t78,h,hr,hst⟩
 subst hk79
 dsimp only at h
 refine WL.cast 16 q hr (WL.weak hst (Zn (Ci h q (fun h => ?_) (fun h => ?_))))
 exact Rcx 12 q (we_ret (rs1 q (rv_t q)) ⟨t74,h,Zl,⟨Zp,Zt⟩⟩)
 exact Rcx 7 q (Fn1 h)
 exact Rcx 4 q (En0 h)
 exact Rcx 6 q (we_ret (rs1 q (rv_t q)) ⟨(-1),h,Zl,⟨Zp,Zt⟩⟩)
 rintro rv st1 ⟨t70,h,hr,hst⟩
 subst hk71
 dsimp only at h
 exact WL.cast 7 q hr (WL.weak hst (Rl 2 q (Zn (Rcx 1 q (we_ret (rs1 q (rv_t q)) ⟨(decide (t70 ≥ 0)),h,Zl,⟨Zp,Zt⟩⟩)))))
 rintro rv st1 ⟨t67,h,hr,hst⟩
 subst hk68
 dsimp only at h
 refine WL.cast 57 q hr (WL.weak hst (Zn (Ci h q (fun h => ?_) (fun h => ?_))))
 exact Rcx 11 q (FA h)
 exact Rcx 7 q (WE.drop 0 (env':=[(1,.d (.pc (R135 t0))),(12,.l E155 t0.text.selects),(13,.n (List.length t0.text.selects : Int)),(14,.n (IntKind.i64.wrap (t63 + 1)))]) (Sub.one q (Sub.one q (Sub.one q (Sub.one q (Sub.nil _))))) q q (Nat.zero_le _) (Fn1 h))
 exact Rcx 4 q (En0 h)
 exact Rcx 6 q (FA h)

theorem f120_c (h0 : MHandler) (a1 : Int) : Pu Tryz.prog 120 [.ag (R108 h0),.i .i64 a1] (.b (f120 h0 a1)):=by
 generalize h : f120 h0 a1 = r
 unfold f120 at h
 refine fn_intro Tryz.func120 (by kernel_rfl) q q q (fun φφ ww => ?_)
 refine Rcl 2 q (Bd q q (Zs _) q (Rll 10 q ?_))
 apply WL.and 5 (t:=9) (d:=14)
 exact q
 intro hg9
 exact Rl 5 q (WL.nil ⟨q,[_,_,_,_,_],q,q,q⟩)
 exact Rl 5 q (WL.nil ⟨q,[_,_,_,_,_],q,q,q⟩)
 exact Rlx 4 q (FB h)

theorem f73_c (t0 : View) {r : Bool} (h : f73 t0 = some r) : Pu Tryz.prog 73 [.ag (R135 t0)] (.b r):=by
 unfold f73 at h
 refine fn_intro Tryz.func73 (by kernel_rfl) q q q (fun φφ ww => ?_)
 refine Rcl 2 q (Bd q q (Zs _) q (Rll 9 q (Zq (y_len_map E108 t0.text.handlers e29 q q Zl) q (Rlc 3 q (Ci h q (fun h => ?_) (fun h => ?_))))))
 exact Rcx 7 q (FA h)
 refine Rcc 2 q (Jn0 [] [] h (fun k95 h => ?_) (fun h => ?_))
 refine Rcl 5 q (Zq (y_len_map E108 t0.text.handlers e29 q q Zl) q (Rlc 4 q (Ln1 (fun t97 => [(1,.d (.pc (R135 t0))),(15,.l E108 t0.text.handlers),(16,.n (List.length t0.text.handlers : Int)),(17,.n t97)]) (fun _ => []) (f73_l1 t0 k95) h (fun _ h => by rw [f73_l1] at h; cases h) (fun n t97 h => ?_))))
 rw [f73_l1] at h
 refine Rcc 6 q (Ci h q (fun h => ?_) (fun h => ?_))
 refine Rcc 2 q (Jn4 (fun _ _ _ _ => [(1,.d (.pc (R135 t0))),(15,.l E108 t0.text.handlers),(16,.n (List.length t0.text.handlers : Int)),(17,.n t97)]) (fun c0099 c01100 c02101 c03102 => [.row 108 [.n c0099,.n c01100,.n c02101,.d (D.b c03102)]]) h (fun k103 h => ?_) (fun c0099 c01100 c02101 c03102 h => ?_))
 refine Rcl 4 q (Ix h e29 E108_eq q Zl q q fun x104 _ h => (Rl 1 q (Al z108 q (Rl 1 q (WL.s0 (d_store q q q q q q s108 q q) (Zw q) q (Rll 9 q ?_))))))
 apply WL.or 6 (t:=25) (d:=31)
 exact q
 intro hg25
 exact Rl 6 q (WL.nil ⟨q,[_,_,_,_,_,_],q,q,q⟩)
 exact Rl 6 q (WL.nil ⟨q,[_,_,_,_,_,_],q,q,q⟩)
 refine Rl 1 q ?_
 apply WL.or 8 (t:=32) (d:=40)
 exact q
 intro hg32
 exact Rl 5 q (Zy (y_len_map E45 t0.text.insns e23 q q Zl) q q q (Rl 2 q (WL.nil ⟨q,[_,_,_,_,_,_,_,_],q,q,q⟩)))
 exact Rl 8 q (WL.nil ⟨q,[_,_,_,_,_,_,_,_],q,q,q⟩)
 refine Rl 1 q ?_
 apply WL.or 6 (t:=41) (d:=47)
 exact q
 intro hg41
 exact Rl 3 q (WL.fn q q q q (f112_c _ _) ⟨Zl,Zl,Zt⟩ (Wt.yes q q q) q q (Rl 2 q (WL.nil ⟨q,[_,_,_,_,_,_],q,q,q⟩)))
 exact Rl 6 q (WL.nil ⟨q,[_,_,_,_,_,_],q,q,q⟩)
 refine Rl 1 q ?_
 apply WL.or 5 (t:=48) (d:=53)
 exact q
 intro hg48
 exact Rl 3 q (WL.fn q q q q (f120_c _ _) ⟨(Le.agd (Zs _)),Zl,Zt⟩ (Wt.yes q q q) q q (Rl 1 q (WL.nil ⟨q,[_,_,_,_,_],q,q,q⟩)))
 exact Rl 5 q (WL.nil ⟨q,[_,_,_,_,_],q,q,q⟩)
 refine Rlc 2 q (Ci h q (fun h => ?_) (fun h => ?_))
 exact Rcx 12 q (FA h)
 refine Rcl 8 q ?_
 replace h:=guardBS h
 obtain ⟨hgg105,h⟩:=h
 refine Zq (y_sliceL E108 t0.text.handlers (l:=0) (h:=t97) e29 q Zl q ⟨_,q⟩ hgg105 (fun _ => q)) q (Zq (y_len_map E108 (sliceF t0.text.handlers 0 t97) e29 q q Zl) q (Rlc 4 q (Ln1 (fun t107 => [(1,.d (.pc (R135 t0))),(4,.pt 0 0),(15,.l E108 t0.text.handlers),(16,.n (List.length t0.text.handlers : Int)),(17,.n t97),(58,.l E108 (sliceF t0.text.handlers 0 t97)),(59,.n (List.length (sliceF t0.text.handlers 0 t97) : Int)),(60,.n t107)]) (fun _ => [.row 108 [.n x104.from_,.n x104.to,.n x104.at_,.d (D.b x104.clean)]]) (f73_l2 t0 t97 k103 x104) h (fun _ h => by rw [f73_l2] at h; cases h) (fun na t107 h => ?_))))
 rw [f73_l2] at h
 refine Rcc 6 q (Ci h q (fun h => ?_) (fun h => ?_))
 refine Rcl 6 q (Ix h e29 E108_eq q Zl q q fun x109 _ h => (Rl 1 q (Al z108 q (WL.s0 (d_store q q q q q q s108 q q) (Zw q) q (Rll 10 q ?_)))))
 apply WL.and 6 (t:=69) (d:=75)
 exact q
 intro hg69
 exact Rl 6 q (WL.nil ⟨q,[_,_,_,_,_,_],q,q,q⟩)
 exact Rl 6 q (WL.nil ⟨q,[_,_,_,_,_,_],q,q,q⟩)
 refine Rll 8 q ?_
 apply WL.and 12 (t:=78) (d:=90)
 exact q
 intro hg78
 exact Rl 4 q (Zy (y_max q q q) q q q (Rl 4 q (Zy (y_min q q q) q q q (Rl 2 q (WL.nil ⟨q,[_,_,_,_,_,_,_,_,_,_,_,_],q,q,q⟩)))))
 exact Rl 12 q (WL.nil ⟨q,[_,_,_,_,_,_,_,_,_,_,_,_],q,q,q⟩)
 refine Rlc 2 q (Ci h q (fun h => ?_) (fun h => ?_))
 exact Rcx 15 q (FA h)
 exact Rcx 7 q (WE.drop 1 (env':=[(1,.d (.pc (R135 t0))),(4,.pt 0 0),(15,.l E108 t0.text.handlers),(16,.n (List.length t0.text.handlers : Int)),(17,.n t97),(58,.l E108 (sliceF t0.text.handlers 0 t97)),(59,.n (List.length (sliceF t0.text.handlers 0 t97) : Int)),(60,.n (IntKind.i64.wrap (t107 + 1)))]) (Sub.one q (Sub.one q (Sub.one q (Sub.one q (Sub.one q (Sub.one q (Sub.one q (Sub.one q (Sub.nil _))))))))) q q (Nat.zero_le _) (Fn1 h))
 exact Rcx 5 q (En4 h)
 exact Rcx 4 q (WE.drop 0 (env':=[(1,.d (.pc (R135 t0))),(15,.l E108 t0.text.handlers),(16,.n (List.length t0.text.handlers : Int)),(17,.n (IntKind.i64.wrap (t97 + 1)))]) (Sub.one q (Sub.one q (Sub.one q (Sub.one q (Sub.nil _))))) q q (Nat.zero_le _) (Fn1 h))
 exact Rcx 4 q (En0 h)
 exact Rcx 6 q (FA h)

theorem f121_c (x0 : Insn) (head1 : Int) : Pu Tryz.prog 121 [.ag (R45 x0),.i .i64 head1] (.b (f121 x0 head1)):=by
 generalize h : f121 x0 head1 = r
 unfold f121 at h
 refine fn_intro Tryz.func121 (by kernel_rfl) q q q (fun φφ ww => ?_)
 refine Rcl 2 q (Bd q q (Zs _) q (Rll 9 q ?_))
 apply WL.or 4 (t:=8) (d:=12)
 exact q
 intro hg8
 exact Rl 4 q (WL.nil ⟨q,[_,_,_,_],q,q,q⟩)
 exact Rl 4 q (WL.nil ⟨q,[_,_,_,_],q,q,q⟩)
 refine Rl 1 q ?_
 apply WL.or 4 (t:=13) (d:=17)
 exact q
 intro hg13
 exact Rl 4 q (WL.nil ⟨q,[_,_,_,_],q,q,q⟩)
 exact Rl 4 q (WL.nil ⟨q,[_,_,_,_],q,q,q⟩)
 refine Rl 1 q ?_
 apply WL.and 5 (t:=18) (d:=23)
 exact q
 intro hg18
 exact Rl 5 q (WL.nil ⟨q,[_,_,_,_,_],q,q,q⟩)
 exact Rl 5 q (WL.nil ⟨q,[_,_,_,_,_],q,q,q⟩)
 exact Rlx 4 q (FB h)

theorem f74_c (t0 : View) {r : Bool} (h : f74 t0 = some r) : Pu Tryz.prog 74 [.ag (R135 t0)] (.b r):=by
 unfold f74 at h
 refine fn_intro Tryz.func74 (by kernel_rfl) q q q (fun φφ ww => ?_)
 refine Rcl 2 q (Bd q q (Zs _) q (Rll 9 q (Zq (y_len_map E189 t0.text.loops e30 q q Zl) q (Rlc 3 q (Ci h q (fun h => ?_) (fun h => ?_))))))
 exact Rcx 7 q (FA h)
 refine Rcl 4 q (WL.s ((b_makeMap (α:=Bool) (fun x : Int => Value.int .i64 x) (fun x : Bool => AV.d (.b x))).does) (Zw q) q q (Rlc 3 q (Jn1 (fun _ => []) (fun m72 => [mpO (fun x : Int => Value.int .i64 x) (fun x : Bool => AV.d (.b x)) m72]) h (fun k73 h => ?_) (fun m72 h => ?_))))
 refine Rcl 5 q (Zq (y_len_map E189 t0.text.loops e30 q q Zl) q (Rlc 4 q (Ln2 (fun t76 _ => [(1,.d (.pc (R135 t0))),(3,.mp 0),(14,.l E189 t0.text.loops),(15,.n (List.length t0.text.loops : Int)),(16,.n t76)]) (fun _ m77 => [mpO (fun x : Int => Value.int .i64 x) (fun x : Bool => AV.d (.b x)) m77]) (f74_l1 t0 k73) h (fun _ _ h => by rw [f74_l1] at h; cases h) (fun n t76 m77 h => ?_))))
 rw [f74_l1] at h
 refine Rcc 6 q (Ci h q (fun h => ?_) (fun h => ?_))
 refine Rcl 6 q (Ix h e30 E189_eq q Zl q q fun x80 _ h => (Rl 1 q (Al z189 q (WL.s0 (d_store q q q q q q s189 q q) (Zw q) q (Rlc 4 q (wc_region_draw (by kernel_rfl) (by kernel_rfl) (Rq 4 q ?_)))))))
 apply WQ.or 6 (t:=23) (d:=29)
 exact q
 intro hg23
 exact Rq 6 q (WQ.nil ⟨[_,_,_,_,_,_],q,q,q⟩)
 exact Rq 6 q (WQ.nil ⟨[_,_,_,_,_,_],q,q,q⟩)
 refine Rq 1 q ?_
 apply WQ.or 6 (t:=30) (d:=36)
 exact q
 intro hg30
 exact Rq 3 q (WQ.q (YieldsQ.fn q q q q q (f112_c _ _) ⟨Zl,Zl,Zt⟩) (Wt.yes q q q) q q (Rq 2 q (WQ.nil ⟨[_,_,_,_,_,_],q,q,q⟩)))
 exact Rq 6 q (WQ.nil ⟨[_,_,_,_,_,_],q,q,q⟩)
 refine Rq 1 q ?_
 apply WQ.or 5 (t:=37) (d:=42)
 exact q
 intro hg37
 exact Rq 3 q (WQ.qy (y_lookup (fun x : Int => Value.int .i64 x) (fun x : Bool => AV.d (.b x)) m77 (z:=false) Tryz.underlying176 Tryz.underlying3 (KeyF.int .i64) q q q (by kernel_rfl) q) q q q (Rq 1 q (WQ.nil ⟨[_,_,_,_,_],q,q,q⟩)))
 exact Rq 5 q (WQ.nil ⟨[_,_,_,_,_],q,q,q⟩)
 refine Rq 1 q ?_
 obtain ⟨b81,hb81,h⟩:=bindS h
 apply WQ.grp 12 (t:=43) (d:=55) (z:=b81)
 exact q
 intro hg43
 have h:=condT hb81 hg43
 refine Rq 12 q ?_
 obtain rfl:=Oi h
 exact WQ.nil ⟨[_,_,_,_,_,_,_,_,_,_,_,_],q,q,q⟩
 intro hg43
 have h:=condF hb81 hg43
 refine Rq 5 q ?_
 obtain ⟨x82,hx82,h⟩:=bindS h
 refine WQ.qy (y_indexAddr e23 q Zl q (idx_nonneg hx82) (idx_row E45_eq hx82) q) q q q (Rq 3 q (WQ.q (YieldsQ.fn q q q q q (f121_c _ _) ⟨Zl,Zl,Zt⟩) (Wt.yes q q q) q q (Rq 2 q ?_)))
 obtain rfl:=Oi h
 exact WQ.nil ⟨[_,_,_,_,_,_,_,_,_,_,_,_],q,q,q⟩
 refine Rq 1 q ?_
 apply WQ.or 4 (t:=56) (d:=60)
 exact q
 intro hg56
 exact Rq 4 q (WQ.nil ⟨[_,_,_,_],q,q,q⟩)
 exact Rq 4 q (WQ.nil ⟨[_,_,_,_],q,q,q⟩)
 refine Rq 1 q ?_
 apply WQ.or 4 (t:=61) (d:=65)
 exact q
 intro hg61
 exact Rq 4 q (WQ.nil ⟨[_,_,_,_],q,q,q⟩)
 exact Rq 4 q (WQ.nil ⟨[_,_,_,_],q,q,q⟩)
 refine WQ.nil (Rxc 1 q (Ci h q (fun h => ?_) (fun h => ?_)))
 exact Rcx 12 q (FA h)
 exact Rcl 6 q (WL.s0 (d_mapUpdate (fun x : Int => Value.int .i64 x) (fun x : Bool => AV.d (.b x)) m77 (.inr q) Tryz.underlying176 Tryz.underlying3 (KeyF.int .i64) q q q q) (Zw q) q (Rlx 7 q (WE.drop 1 (env':=[(1,.d (.pc (R135 t0))),(3,.mp 0),(14,.l E189 t0.text.loops),(15,.n (List.length t0.text.loops : Int)),(16,.n (IntKind.i64.wrap (t76 + 1)))]) (Sub.one q (Sub.one q (Sub.one q (Sub.one q (Sub.one q (Sub.nil _)))))) q (stLt_cons (lt_mp _ _ _ _) q) (Nat.zero_le _) (Fn2 h))))
 exact Rcx 4 q (En1 h)
 exact Rcx 6 q (FA h)

theorem f122_c (t0 : View) (a1 : Int) {r : Bool} (h : f122 t0 a1 = some r) : Pu Tryz.prog 122 [.ag (R135 t0),.i .i64 a1] (.b r):=by
 unfold f122 at h
 refine fn_intro Tryz.func122 (by kernel_rfl) q q q (fun φφ ww => ?_)
 refine Rcl 2 q (Bd q q (Zs _) q (Rll 7 q (WL.fn q q q q (f112_c _ _) ⟨Zl,Zl,Zt⟩ (Zw q) q q (Rl 1 q ?_))))
 obtain ⟨b31,hb31,h⟩:=bindS h
 apply WL.grp 19 (t:=8) (d:=27) (z:=b31)
 exact q
 intro hg8
 have h:=condT hb31 hg8
 refine Rl 4 q ?_
 obtain ⟨x32,hx32,h⟩:=bindS h
 refine Zy (y_indexAddr e23 q Zl q (idx_nonneg hx32) (idx_row E45_eq hx32) q) q q q (Rl 4 q ?_)
 obtain ⟨b33,hb33,h⟩:=bindS h
 apply WL.grp 9 (t:=17) (d:=26) (z:=b33)
 exact q
 intro hg17
 have h:=condT hb33 hg17
 refine Rl 9 q ?_
 obtain rfl:=Oi h
 exact WL.nil ⟨q,[_,_,_,_,_,_,_,_,_],q,q,q⟩
 intro hg17
 have h:=condF hb33 hg17
 refine Rl 4 q ?_
 obtain ⟨x34,hx34,h⟩:=bindS h
 refine Zy (y_indexAddr e23 q Zl q (idx_nonneg hx34) (idx_row E45_eq hx34) q) q q q (Rl 4 q ?_)
 obtain rfl:=Oi h
 exact WL.nil ⟨q,[_,_,_,_,_,_,_,_,_],q,q,q⟩
 refine Rl 1 q ?_
 obtain rfl:=Oi h
 exact WL.nil ⟨q,[_,_,_,_,_,_,_,_,_,_,_],q,q,q⟩
 intro hg8
 have h:=condF hb31 hg8
 refine Rl 19 q ?_
 obtain rfl:=Oi h
 exact WL.nil ⟨q,[_,_,_,_,_,_,_,_,_,_,_,_,_,_,_,_,_,_,_],q,q,q⟩
 exact Rlx 4 q (FA h)

theorem f75_c (t0 : View) {r : Bool} (h : f75 t0 = some r) : Pu Tryz.prog 75 [.ag (R135 t0)] (.b r):=by
 unfold f75 at h
 refine fn_intro Tryz.func75 (by kernel_rfl) q q q (fun φφ ww => ?_)
 refine Rcl 2 q (Bd q q (Zs _) q (Rlc 8 q (Jn0 [] [] h (fun k40 h => ?_) (fun h => ?_))))
 refine Rcl 5 q (Zq (y_len_map E192 t0.text.checks e36 q q Zl) q (Rlc 4 q (Ln2 (fun last43 t44 => [(1,.d (.pc (R135 t0))),(3,.n last43),(8,.l E192 t0.text.checks),(9,.n (List.length t0.text.checks : Int)),(10,.n t44)]) (fun _ _ => []) (f75_l1 t0 k40) h (fun _ _ h => by rw [f75_l1] at h; cases h) (fun n last43 t44 h => ?_))))
 rw [f75_l1] at h
 refine Rcc 6 q (Ci h q (fun h => ?_) (fun h => ?_))
 refine Rcl 6 q (Ix h e36 E192_eq q Zl q q fun x47 _ h => (Rl 1 q (Al z192 q (WL.s0 (d_store q q q q q q s192 q q) (Zw q) q (Rll 10 q ?_)))))
 obtain ⟨b48,hb48,h⟩:=bindS h
 apply WL.grp 6 (t:=18) (d:=24) (z:=b48)
 exact q
 intro hg18
 have h:=condT hb48 hg18
 refine Rl 6 q ?_
 obtain rfl:=Oi h
 exact WL.nil ⟨q,[_,_,_,_,_,_],q,q,q⟩
 intro hg18
 have h:=condF hb48 hg18
 refine Rl 3 q ?_
 obtain ⟨r49,hr49,h⟩:=bindS h
 refine WL.fn q q q q (f122_c _ _ hr49) ⟨Zl,Zl,Zt⟩ (Wt.yes q q q) q q (Rl 2 q ?_)
 obtain rfl:=Oi h
 exact WL.nil ⟨q,[_,_,_,_,_,_],q,q,q⟩
 refine Rl 1 q ?_
 apply WL.or 4 (t:=25) (d:=29)
 exact q
 intro hg25
 exact Rl 4 q (WL.nil ⟨q,[_,_,_,_],q,q,q⟩)
 exact Rl 4 q (WL.nil ⟨q,[_,_,_,_],q,q,q⟩)
 refine Rl 1 q ?_
 apply WL.or 4 (t:=30) (d:=34)
 exact q
 intro hg30
 exact Rl 4 q (WL.nil ⟨q,[_,_,_,_],q,q,q⟩)
 exact Rl 4 q (WL.nil ⟨q,[_,_,_,_],q,q,q⟩)
 refine Rlc 2 q (Ci h q (fun h => ?_) (fun h => ?_))
 exact Rcx 12 q (FA h)
 exact Rcx 13 q (WE.drop 0 (env':=[(1,.d (.pc (R135 t0))),(3,.n x47.at_),(8,.l E192 t0.text.checks),(9,.n (List.length t0.text.checks : Int)),(10,.n (IntKind.i64.wrap (t44 + 1)))]) (Sub.one q (Sub.one q (Sub.one q (Sub.one q (Sub.one q (Sub.nil _)))))) q q (Nat.zero_le _) (Fn2 h))
 exact Rcx 4 q (En0 h)
 exact Rcx 6 q (FA h)

theorem f123_c (s0 : List Insn) (cb1 : Insn → Option (Bool)) (g1 : FuncId) (fi1 ca1 : List D) (hcb1 : ∀ (y0 : Insn) (r : Bool),cb1 y0 = some r → Pu Tryz.prog g1 (fi1 ++ [.ag (R45 y0)] ++ ca1) (.b r)) {r : Int} (h : f123 s0 cb1 = some r) : Pu Tryz.prog 123 [.sl (List.map E45 s0),.fnc (.func g1) fi1 ca1] (.i .i64 r):=by
 unfold f123 at h
 refine fn_intro Tryz.func123 (by kernel_rfl) q q q (fun φφ ww => ?_)
 refine WC.cast 1 q (Le.fncd _ _ _) (Rcc 5 q (Jn0 [] [] h (fun k22 h => ?_) (fun h => ?_)))
 refine Rcl 3 q (Zq (y_len_map E45 s0 e23 q q Zl) q (Rlc 4 q (Ln1 (fun t24 => [(0,.l E45 s0),(1,.fn (.func g1) (List.map AV.d fi1) (List.map AV.d ca1)),(7,.n (List.length s0 : Int)),(8,.n t24)]) (fun _ => []) (f123_l1 s0 cb1 k22) h (fun _ h => by rw [f123_l1] at h; cases h) (fun n t24 h => ?_))))
 rw [f123_l1] at h
 refine Rcc 6 q (Ci h q (fun h => ?_) (fun h => ?_))
 refine Rcl 15 q (Ix h e23 E45_eq q Zl q q fun x26 _ h => (Rl 1 q ?_))
 obtain ⟨r27,hr27,h⟩:=bindS h
 refine WL.fn q q q q (hcb1 _ _ hr27) (Les.mid ⟨Zl,Zt⟩) (Zw q) q q (Rlc 2 q (Ci h q (fun h => ?_) (fun h => ?_)))
 exact Rcx 12 q (FA h)
 exact Rcx 7 q (Fn1 h)
 exact Rcx 4 q (En0 h)
 exact Rcx 6 q (FA h)

theorem f76_c (s0 : List Insn) (cb1 : Insn → Option (Bool)) (g1 : FuncId) (fi1 ca1 : List D) (hcb1 : ∀ (y0 : Insn) (r : Bool),cb1 y0 = some r → Pu Tryz.prog g1 (fi1 ++ [.ag (R45 y0)] ++ ca1) (.b r)) {r : Bool} (h : f76 s0 cb1 = some r) : Pu Tryz.prog 76 [.sl (List.map E45 s0),.fnc (.func g1) fi1 ca1] (.b r):=by
 unfold f76 at h
 refine fn_intro Tryz.func76 (by kernel_rfl) q q q (fun φφ ww => ?_)
 refine WC.cast 1 q (Le.fncd _ _ _) (Rcl 9 q ?_)
 obtain ⟨r12,hr12,h⟩:=bindS h
 exact WL.fn q q q q (f123_c _ _ g1 fi1 ca1 hcb1 hr12) ⟨Zl,(Le.fnc (Zs _) (Zs _)),Zt⟩ (Zw q) q q (Rlx 5 q (FA h))

theorem f156_c (o0 : Int) {r : Row224 × Bool} (h : f156 o0 = some r) : Pu Tryz.prog 156 [.i .u8 o0] (.tu [.ag (R224 r.1),.b r.2]):=by
 unfold f156 at h
 refine fn_intro Tryz.func156 (by kernel_rfl) q q q (fun φφ ww => ?_)
 refine Rcl 2 q (Al z224 q (Rll 9 q ?_))
 apply WL.or 4 (t:=6) (d:=10)
 exact q
 intro hg6
 exact Rl 4 q (WL.nil ⟨q,[_,_,_,_],q,q,q⟩)
 exact Rl 4 q (WL.nil ⟨q,[_,_,_,_],q,q,q⟩)
 refine Rlc 2 q (Ci h q (fun h => ?_) (fun h => ?_))
 refine Rcl 2 q (Zq (y_build p224 z224 q q) q (WL.s0 (d_store q q q q q q s224 q q) (Zw q) q (Rlx 5 q ?_)))
 obtain rfl:=Oi h
 exact we_ret_fn (rs2 q (rv_cN q q a224 s224 q) (rv_t q)) (Le.tud ⟨(Le.agd (Zs _)),Zl,Zt⟩)
 refine Rcl 6 q ?_
 obtain ⟨x18,hx18,h⟩:=bindS h
 refine Zq (y_tabN (R:=R224) insnRows (fun _ => q) ar259 (congrArg (Option.map fun ps => AV.d (.pc ps)) insnRows_gpc) q q hx18) q (Rl 1 q (WL.s0 (d_store q q q q q q s224 q q) (Zw q) q (Rlx 4 q ?_)))
 obtain rfl:=Oi h
 exact we_ret_fn (rs2 q (rv_cN q q a224 s224 q) (rv_t q)) (Le.tud ⟨(Le.agd (Zs _)),Zl,Zt⟩)

theorem f176_c (s0 : ByteArray) {r : List ByteArray} (h : f176 s0 = some r) : Pu Tryz.prog 176 [.s s0] (.sl (List.map E9 r)):=by
 unfold f176 at h
 refine fn_intro Tryz.func176 (by kernel_rfl) q q q (fun φφ ww => ?_)
 refine Rcc 20 q (Jn2 (fun n108 setBits109 => [(0,.d (D.s s0)),(3,.n n108),(5,.d (D.i .u8 setBits109))]) (fun _ _ => []) h (fun k110 h => ?_) (fun n108 setBits109 h => ?_))
 refine Rcc 6 q (Ln4 (fun n115 wasSpace116 setBits117 iq118 => [(0,.d (D.s s0)),(3,.n n115),(4,.n wasSpace116),(5,.d (D.i .u8 setBits117)),(6,.n iq118)]) (fun _ _ _ _ => []) (f176_l1 s0 k110) h (fun _ _ _ _ h => by rw [f176_l1] at h; cases h) (fun n n115 wasSpace116 setBits117 iq118 h => ?_))
 rw [f176_l1] at h
 refine Rcl 5 q (Zq (y_len_str Tryz.underlying9 q q) q (Rlc 3 q (Ci h q (fun h => ?_) (fun h => ?_))))
 refine Rcl 8 q ?_
 obtain ⟨x123,hx123,h⟩:=bindS h
 refine Zq (y_sindex Tryz.underlying9 q q hx123) q (Rll 7 q (Zq (y_or q q q) q (Rll 6 q ?_)))
 obtain ⟨x124,hx124,h⟩:=bindS h
 exact Zq (y_tab (E:=D.i .u8) asciiTab ar277 q q q hx124) q (Rll 10 q (Zq (y_com q q) q (Zq (y_and q q q) q (Rlx 15 q (Fn4 h)))))
 exact Rcx 4 q (En2 h)
 refine Rcc 7 q (Ci h q (fun h => ?_) (fun h => ?_))
 refine Rcc 1 q ?_
 cases h
 refine Rcl 5 q ?_
 replace h:=guardBS h
 obtain ⟨hgg125,h⟩:=h
 refine WL.s ((NewOs.b (NewOs.cast (n_makeSlice l261 z9 q (Nat.succ_pos _) q q hgg125) (by exact replicate_encA (R:=E9) (z:=(ByteArray.empty : ByteArray)) q))).does) (Zw q) q q (Rlc 18 q (Jn1 (fun iq126 => [(0,.d (D.s s0)),(9,.os 0 0),(10,.n 0),(12,.n iq126)]) (fun _ => [.os 9 1 0 (eM E9 (List.replicate (Int.toNat n108) (ByteArray.empty : ByteArray)))]) h (fun k127 h => ?_) (fun iq126 h => ?_)))
 refine Rcc 1 q (Ln1 (fun iq129 => [(0,.d (D.s s0)),(9,.os 0 0),(10,.n 0),(12,.n iq129)]) (fun _ => [.os 9 1 0 (eM E9 (List.replicate (Int.toNat n108) (ByteArray.empty : ByteArray)))]) (f176_l2 s0 k127) h (fun _ h => by rw [f176_l2] at h; cases h) (fun n iq129 h => ?_))
 rw [f176_l2] at h
 refine Rcl 5 q (Zq (y_len_str Tryz.underlying9 q q) q (Rl 2 q ?_))
 obtain ⟨b131,hb131,h⟩:=bindS h
 apply WL.grp 7 (t:=46) (d:=53) (z:=b131)
 exact q
 intro hg46
 have h:=condT hb131 hg46
 refine Rl 2 q ?_
 obtain ⟨x132,hx132,h⟩:=bindS h
 refine Zy (y_sindex Tryz.underlying9 q q hx132) q q q ?_
 obtain ⟨x133,hx133,h⟩:=bindS h
 refine Zy (y_tab (E:=D.i .u8) asciiTab ar277 q q q hx133) q q q (Rl 3 q ?_)
 obtain rfl:=Oi h
 exact WL.nil ⟨q,[_,_,_,_,_,_,_],q,q,q⟩
 intro hg46
 have h:=condF hb131 hg46
 refine Rl 7 q ?_
 obtain rfl:=Oi h
 exact WL.nil ⟨q,[_,_,_,_,_,_,_],q,q,q⟩
 refine Rlc 2 q (Ci h q (fun h => ?_) (fun h => ?_))
 exact Rcx 9 q (Fn1 h)
 exact Rcx 4 q (En1 h)
 refine Rcc 6 q (Jn3 (fun na134 fieldStart135 _ => [(0,.d (D.s s0)),(9,.os 0 0),(10,.n na134),(11,.n fieldStart135)]) (fun _ _ l136 => [.os 9 1 0 (eM E9 l136)]) h (fun k137 h => ?_) (fun na134 fieldStart135 l136 h => ?_))
 refine Rcc 1 q (Ln4 (fun na142 fieldStart143 iq144 _ => [(0,.d (D.s s0)),(9,.os 0 0),(10,.n na142),(11,.n fieldStart143),(12,.n iq144)]) (fun _ _ _ l145 => [.os 9 1 0 (eM E9 l145)]) (f176_l3 s0 k137) h (fun _ _ _ _ h => by rw [f176_l3] at h; cases h) (fun n na142 fieldStart143 iq144 l145 h => ?_))
 rw [f176_l3] at h
 refine Rcl 5 q (Zq (y_len_str Tryz.underlying9 q q) q (Rlc 3 q (Ci h q (fun h => ?_) (fun h => ?_))))
 refine Rcl 8 q ?_
 obtain ⟨x150,hx150,h⟩:=bindS h
 refine Zq (y_sindex Tryz.underlying9 q q hx150) q ?_
 obtain ⟨x151,hx151,h⟩:=bindS h
 refine Zq (y_tab (E:=D.i .u8) asciiTab ar277 q q q hx151) q (Rlc 4 q (Ci h q (fun h => ?_) (fun h => ?_)))
 exact Rcx 10 q (Fn4 h)
 refine Rcl 9 q ?_
 obtain ⟨s152,hs152,h⟩:=bindS h
 refine Zq (y_scut Tryz.underlying9 q q q hs152) q ?_
 obtain ⟨x153,hx153,h⟩:=bindS h
 refine Zq (y_pe e261 q q q hx153) q (WL.s0 (d_store_peL (R:=E9) (k:=1) (i:=na142) (fo:=0) s152 q q q q Zl q q q s9 q (fun _ => q) hx153 q q) (Zw q) q (Rlc 16 q (Jn1 (fun iq154 => [(0,.d (D.s s0)),(9,.os 0 0),(10,.n (IntKind.i64.wrap (na142 + 1))),(12,.n iq154)]) (fun _ => [.os 9 1 0 (eM E9 (List.set l145 (Int.toNat na142) s152))]) h (fun k155 h => ?_) (fun iq154 h => ?_))))
 refine Rcc 1 q (Ln1 (fun iq157 => [(0,.d (D.s s0)),(9,.os 0 0),(10,.n (IntKind.i64.wrap (na142 + 1))),(12,.n iq157)]) (fun _ => [.os 9 1 0 (eM E9 (List.set l145 (Int.toNat na142) s152))]) (f176_l4 s0 k155) h (fun _ h => by rw [f176_l4] at h; cases h) (fun na iq157 h => ?_))
 rw [f176_l4] at h
 refine Rcl 5 q (Zq (y_len_str Tryz.underlying9 q q) q (Rl 2 q ?_))
 obtain ⟨b159,hb159,h⟩:=bindS h
 apply WL.grp 7 (t:=84) (d:=91) (z:=b159)
 exact q
 intro hg84
 have h:=condT hb159 hg84
 refine Rl 2 q ?_
 obtain ⟨x160,hx160,h⟩:=bindS h
 refine Zy (y_sindex Tryz.underlying9 q q hx160) q q q ?_
 obtain ⟨x161,hx161,h⟩:=bindS h
 refine Zy (y_tab (E:=D.i .u8) asciiTab ar277 q q q hx161) q q q (Rl 3 q ?_)
 obtain rfl:=Oi h
 exact WL.nil ⟨q,[_,_,_,_,_,_,_],q,q,q⟩
 intro hg84
 have h:=condF hb159 hg84
 refine Rl 7 q ?_
 obtain rfl:=Oi h
 exact WL.nil ⟨q,[_,_,_,_,_,_,_],q,q,q⟩
 refine Rlc 2 q (Ci h q (fun h => ?_) (fun h => ?_))
 exact Rcx 9 q (Fn1 h)
 exact Rcx 4 q (En1 h)
 exact Rcx 5 q (Fn4 h)
 exact Rcx 4 q (En3 h)
 refine Jn1 (fun _ => [(9,.os 0 0)]) (fun l162 => [.os 9 1 0 (eM E9 l162)]) h (fun _ h => ?_) (fun l162 h => ?_)
 refine Rcl 4 q (Zq (y_len_str Tryz.underlying9 q q) q (Rlc 3 q (Ci h q (fun h => ?_) (fun h => ?_))))
 refine Rcl 5 q ?_
 obtain ⟨s164,hs164,h⟩:=bindS h
 refine Zq (y_scutl Tryz.underlying9 q q hs164) q ?_
 obtain ⟨x165,hx165,h⟩:=bindS h
 exact Zq (y_pe e261 q q q hx165) q (WL.s0 (d_store_peL (R:=E9) (k:=1) (i:=na134) (fo:=0) s164 q q q q Zl q q q s9 q (fun _ => q) hx165 q q) (Zw q) q (Rlx 1 q (En1 h)))
 exact Rcx 1 q (En1 h)
 refine Rcx 7 q ?_
 exact WE.freezeX [9,105,2] [] 0 _ q (encA_map E9_eq _) ⟨q,q,q,Zt⟩ Zt (FA h)

theorem f179_c (what0 : Int) : Pu Tryz.prog 179 [.i .u8 what0] (.tu [.i .i64 (f179 what0).1,.i .i64 (f179 what0).2]):=by
 generalize h : f179 what0 = r
 unfold f179 at h
 refine fn_intro Tryz.func179 (by kernel_rfl) q q q (fun φφ ww => ?_)
 refine Rcc 19 q (Ci h q (fun h => ?_) (fun h => ?_))
 exact Rcx 9 q (FB h)
 refine Rcc 6 q (Ci h q (fun h => ?_) (fun h => ?_))
 exact Rcx 9 q (FB h)
 refine Rcc 6 q (Ci h q (fun h => ?_) (fun h => ?_))
 exact Rcx 9 q (FB h)
 refine Rcc 6 q (Ci h q (fun h => ?_) (fun h => ?_))
 exact Rcx 9 q (FB h)
 refine Rcc 6 q (Ci h q (fun h => ?_) (fun h => ?_))
 exact Rcx 9 q (FB h)
 refine Rcc 6 q (Ci h q (fun h => ?_) (fun h => ?_))
 exact Rcx 9 q (FB h)
 refine Rcc 6 q (Ci h q (fun h => ?_) (fun h => ?_))
 exact Rcx 9 q (FB h)
 refine Rcc 6 q (Ci h q (fun h => ?_) (fun h => ?_))
 exact Rcx 9 q (FB h)
 refine Rcc 6 q (Ci h q (fun h => ?_) (fun h => ?_))
 exact Rcx 9 q (FB h)
 refine Rcc 6 q (Ci h q (fun h => ?_) (fun h => ?_))
 exact Rcx 9 q (FB h)
 refine Rcc 6 q (Ci h q (fun h => ?_) (fun h => ?_))
 exact Rcx 9 q (FB h)
 refine Rcc 6 q (Ci h q (fun h => ?_) (fun h => ?_))
 exact Rcx 9 q (FB h)
 exact Rcx 10 q (FB h)

theorem f124_c (x0 : Insn) {r : Bool} (h : f124 x0 = some r) : Pu Tryz.prog 124 [.ag (R45 x0)] (.b r):=by
 unfold f124 at h
 refine fn_intro Tryz.func124 (by kernel_rfl) q q q (fun φφ ww => ?_)
 refine Rcl 2 q (Bd q q (Zs _) q (Al z4 q (Rll 7 q ?_)))
 obtain ⟨r68,hr68,h⟩:=bindS h
 refine WL.fn q q q q (f156_c _ hr68) ⟨Zl,Zt⟩ (Zw q) q q (Rl 3 q (Al z224 q (WL.s0 (d_store q q q q q q s224 q q) (Zw q) q (Rll 8 q ?_))))
 apply WL.or 11 (t:=16) (d:=27)
 exact q
 intro hg16
 refine Rl 4 q ?_
 apply WL.and 6 (t:=20) (d:=26)
 exact q
 intro hg20
 exact Rl 6 q (WL.nil ⟨q,[_,_,_,_,_,_],q,q,q⟩)
 exact Rl 6 q (WL.nil ⟨q,[_,_,_,_,_,_],q,q,q⟩)
 exact Rl 1 q (WL.nil ⟨q,[_,_,_,_,_,_],q,q,q⟩)
 exact Rl 11 q (WL.nil ⟨q,[_,_,_,_,_,_,_,_,_,_,_],q,q,q⟩)
 refine Rlc 2 q (Ci h q (fun h => ?_) (fun h => ?_))
 refine Rcl 2 q (WL.s0 (d_store q q q q q q s4 q q) (Zw q) q (Rlx 4 q ?_))
 obtain rfl:=Oi h
 exact we_ret_fn (rs1 q (rv_c q q a4 q)) Zl
 refine Rcl 9 q ?_
 apply WL.and 5 (t:=31) (d:=36)
 exact q
 intro hg31
 exact Rl 5 q (WL.nil ⟨q,[_,_,_,_,_],q,q,q⟩)
 exact Rl 5 q (WL.nil ⟨q,[_,_,_,_,_],q,q,q⟩)
 refine Rl 1 q ?_
 apply WL.and 4 (t:=37) (d:=41)
 exact q
 intro hg37
 exact Rl 4 q (WL.nil ⟨q,[_,_,_,_],q,q,q⟩)
 exact Rl 4 q (WL.nil ⟨q,[_,_,_,_],q,q,q⟩)
 refine Rlc 2 q (Ci h q (fun h => ?_) (fun h => ?_))
 refine Rcl 2 q (WL.s0 (d_store q q q q q q s4 q q) (Zw q) q (Rlx 4 q ?_))
 obtain rfl:=Oi h
 exact we_ret_fn (rs1 q (rv_c q q a4 q)) Zl
 refine Rcl 5 q (Al z45 q (WL.s0 (d_store q q q q q q s45 q q) (Zw q) q (Rlc 2 q (Jn8 (fun _ _ _ _ _ _ _ _ => [(1,.d (.pc (R45 x0))),(2,.pt 0 0),(5,.pt 2 0)]) (fun c2169 c2270 c2371 c2472 c2573 c2674 c5075 c5176 => [.row 4 [.d (D.b false)],.row 224 [.d (D.s r68.1.name),.d (D.s r68.1.fields)],.row 45 [.d (D.i .u8 x0.op),.n c2169,.n c2270,.n c2371,.n c2472,.n c2573,.n c2674],.row 230 [.pt 2 0],.dead,.row 224 [.d (D.s c5075),.d (D.s c5176)]]) h (fun _ h => ?_) (fun c2169 c2270 c2371 c2472 c2573 c2674 c5075 c5176 h => ?_)))))
 refine Rcl 2 q ?_
 obtain ⟨k79,hk79,h⟩:=letkS h
 refine WL.inl (us:=[.pt 2 0]) (fun rv st' => (k79 () = some r ∧ Le rv (.fn (.func 175) [] [.pt 3 0]) ∧ SLe st' [.row 4 [.d (D.b false)],.row 224 [.d (D.s r68.1.name),.d (D.s r68.1.fields)],.row 45 [.d (D.i .u8 x0.op),.n x0.d,.n x0.a,.n x0.b,.n x0.n,.n x0.m,.n x0.to],.row 230 [.pt 2 0]])) q q q q q ?_ (Zw q) q q ?_
 refine ctr_intro Tryz.func157 (by kernel_rfl) q q q (fun mm φφ ww hm78 => ?_)
 exact Rcl 2 q (Bx q q q (Rlx 10 q (we_ret (rs1 q (rv_t q)) ⟨h,Zl,⟨Zp,Zp,Zp,Zp,Zt⟩⟩)))
 rintro rv st1 ⟨h,hr,hst⟩
 subst hk79
 dsimp only at h
 refine WL.cast 43 q hr (WL.weak hst (Zn (Rcc 1 q ?_)))
 obtain ⟨k93,hk93,h⟩:=letkS h
 obtain ⟨k106,hk106,h⟩:=letkS h
 obtain ⟨k119,hk119,h⟩:=letkS h
 obtain ⟨k132,hk132,h⟩:=letkS h
 obtain ⟨k145,hk145,h⟩:=letkS h
 obtain ⟨k158,hk158,h⟩:=letkS h
 obtain ⟨k167,hk167,h⟩:=letkS h
 refine wc_range (us:=[.yl 4,.pt 3 0]) [2] 4 (fun sl80 rv st' => (∃ (c2181 : Int),∃ (c2282 : Int),∃ (c2383 : Int),∃ (c2484 : Int),∃ (c2585 : Int),∃ (c2686 : Int),∃ (c5087 : ByteArray),∃ (c5188 : ByteArray),∃ (c6289 : Int),∃ (c6390 : Int),∃ (c9291 : Int),∃ (c9392 : Int),k93 c2181 c2282 c2383 c2484 c2585 c2686 c5087 c5188 c6289 c6390 c9291 c9392 = some r ∧ SLe st' [.row 4 [.d (D.b false)],.row 224 [.d (D.s r68.1.name),.d (D.s r68.1.fields)],.row 45 [.d (D.i .u8 x0.op),.n c2181,.n c2282,.n c2383,.n c2484,.n c2585,.n c2686],.row 230 [.pt 2 0],.lp sl80 [.pt 0 0] .done (some .ret),.row 224 [.d (D.s c5087),.d (D.s c5188)],.row 233 [.fn (.func 210) [] [.pt 7 0],.fn (.func 211) [] [.pt 7 0],.n c6289,.n c6390],.row 264 [.pt 2 1],.row 233 [.fn (.func 210) [] [.pt 7 0],.fn (.func 211) [] [.pt 7 0],.n 0,.n 0],.row 233 [.fn (.func 210) [] [.pt 7 0],.fn (.func 211) [] [.pt 7 0],.n c9291,.n c9392]]) ∨ (∃ (c2194 : Int),∃ (c2295 : Int),∃ (c2396 : Int),∃ (c2497 : Int),∃ (c2598 : Int),∃ (c2699 : Int),∃ (c50100 : ByteArray),∃ (c51101 : ByteArray),∃ (c62102 : Int),∃ (c63103 : Int),∃ (c92104 : Int),∃ (c93105 : Int),k106 c2194 c2295 c2396 c2497 c2598 c2699 c50100 c51101 c62102 c63103 c92104 c93105 = some r ∧ SLe st' [.row 4 [.d (D.b false)],.row 224 [.d (D.s r68.1.name),.d (D.s r68.1.fields)],.row 45 [.d (D.i .u8 x0.op),.n c2194,.n c2295,.n c2396,.n c2497,.n c2598,.n c2699],.row 230 [.pt 2 0],.lp sl80 [.pt 0 0] .done (some .ret),.row 224 [.d (D.s c50100),.d (D.s c51101)],.row 233 [.fn (.func 210) [] [.pt 7 0],.fn (.func 211) [] [.pt 7 0],.n c62102,.n c63103],.row 264 [.pt 2 2],.row 233 [.fn (.func 210) [] [.pt 7 0],.fn (.func 211) [] [.pt 7 0],.n 0,.n 0],.row 233 [.fn (.func 210) [] [.pt 7 0],.fn (.func 211) [] [.pt 7 0],.n c92104,.n c93105]]) ∨ (∃ (c21107 : Int),∃ (c22108 : Int),∃ (c23109 : Int),∃ (c24110 : Int),∃ (c25111 : Int),∃ (c26112 : Int),∃ (c50113 : ByteArray),∃ (c51114 : ByteArray),∃ (c62115 : Int),∃ (c63116 : Int),∃ (c92117 : Int),∃ (c93118 : Int),k119 c21107 c22108 c23109 c24110 c25111 c26112 c50113 c51114 c62115 c63116 c92117 c93118 = some r ∧ SLe st' [.row 4 [.d (D.b false)],.row 224 [.d (D.s r68.1.name),.d (D.s r68.1.fields)],.row 45 [.d (D.i .u8 x0.op),.n c21107,.n c22108,.n c23109,.n c24110,.n c25111,.n c26112],.row 230 [.pt 2 0],.lp sl80 [.pt 0 0] .done (some .ret),.row 224 [.d (D.s c50113),.d (D.s c51114)],.row 233 [.fn (.func 210) [] [.pt 7 0],.fn (.func 211) [] [.pt 7 0],.n c62115,.n c63116],.row 264 [.pt 2 3],.row 233 [.fn (.func 210) [] [.pt 7 0],.fn (.func 211) [] [.pt 7 0],.n 0,.n 0],.row 233 [.fn (.func 210) [] [.pt 7 0],.fn (.func 211) [] [.pt 7 0],.n c92117,.n c93118]]) ∨ (∃ (c21120 : Int),∃ (c22121 : Int),∃ (c23122 : Int),∃ (c24123 : Int),∃ (c25124 : Int),∃ (c26125 : Int),∃ (c50126 : ByteArray),∃ (c51127 : ByteArray),∃ (c62128 : Int),∃ (c63129 : Int),∃ (c92130 : Int),∃ (c93131 : Int),k132 c21120 c22121 c23122 c24123 c25124 c26125 c50126 c51127 c62128 c63129 c92130 c93131 = some r ∧ SLe st' [.row 4 [.d (D.b false)],.row 224 [.d (D.s r68.1.name),.d (D.s r68.1.fields)],.row 45 [.d (D.i .u8 x0.op),.n c21120,.n c22121,.n c23122,.n c24123,.n c25124,.n c26125],.row 230 [.pt 2 0],.lp sl80 [.pt 0 0] .done (some .ret),.row 224 [.d (D.s c50126),.d (D.s c51127)],.row 233 [.fn (.func 212) [] [.pt 7 0],.fn (.func 213) [] [.pt 7 0],.n c62128,.n c63129],.row 128 [.pt 2 4],.row 233 [.fn (.func 212) [] [.pt 7 0],.fn (.func 213) [] [.pt 7 0],.n 0,.n 0],.row 233 [.fn (.func 212) [] [.pt 7 0],.fn (.func 213) [] [.pt 7 0],.n c92130,.n c93131]]) ∨ (∃ (c21133 : Int),∃ (c22134 : Int),∃ (c23135 : Int),∃ (c24136 : Int),∃ (c25137 : Int),∃ (c26138 : Int),∃ (c50139 : ByteArray),∃ (c51140 : ByteArray),∃ (c62141 : Int),∃ (c63142 : Int),∃ (c92143 : Int),∃ (c93144 : Int),k145 c21133 c22134 c23135 c24136 c25137 c26138 c50139 c51140 c62141 c63142 c92143 c93144 = some r ∧ SLe st' [.row 4 [.d (D.b false)],.row 224 [.d (D.s r68.1.name),.d (D.s r68.1.fields)],.row 45 [.d (D.i .u8 x0.op),.n c21133,.n c22134,.n c23135,.n c24136,.n c25137,.n c26138],.row 230 [.pt 2 0],.lp sl80 [.pt 0 0] .done (some .ret),.row 224 [.d (D.s c50139),.d (D.s c51140)],.row 233 [.fn (.func 212) [] [.pt 7 0],.fn (.func 213) [] [.pt 7 0],.n c62141,.n c63142],.row 128 [.pt 2 5],.row 233 [.fn (.func 212) [] [.pt 7 0],.fn (.func 213) [] [.pt 7 0],.n 0,.n 0],.row 233 [.fn (.func 212) [] [.pt 7 0],.fn (.func 213) [] [.pt 7 0],.n c92143,.n c93144]]) ∨ (∃ (c21146 : Int),∃ (c22147 : Int),∃ (c23148 : Int),∃ (c24149 : Int),∃ (c25150 : Int),∃ (c26151 : Int),∃ (c50152 : ByteArray),∃ (c51153 : ByteArray),∃ (c62154 : Int),∃ (c63155 : Int),∃ (c92156 : Int),∃ (c93157 : Int),k158 c21146 c22147 c23148 c24149 c25150 c26151 c50152 c51153 c62154 c63155 c92156 c93157 = some r ∧ SLe st' [.row 4 [.d (D.b false)],.row 224 [.d (D.s r68.1.name),.d (D.s r68.1.fields)],.row 45 [.d (D.i .u8 x0.op),.n c21146,.n c22147,.n c23148,.n c24149,.n c25150,.n c26151],.row 230 [.pt 2 0],.lp sl80 [.pt 0 0] .done (some .ret),.row 224 [.d (D.s c50152),.d (D.s c51153)],.row 233 [.fn (.func 210) [] [.pt 7 0],.fn (.func 211) [] [.pt 7 0],.n c62154,.n c63155],.row 264 [.pt 2 6],.row 233 [.fn (.func 210) [] [.pt 7 0],.fn (.func 211) [] [.pt 7 0],.n 0,.n 0],.row 233 [.fn (.func 210) [] [.pt 7 0],.fn (.func 211) [] [.pt 7 0],.n c92156,.n c93157]]) ∨ (∃ (c21159 : Int),∃ (c22160 : Int),∃ (c23161 : Int),∃ (c24162 : Int),∃ (c25163 : Int),∃ (c26164 : Int),∃ (c50165 : ByteArray),∃ (c51166 : ByteArray),k167 c21159 c22160 c23161 c24162 c25163 c26164 c50165 c51166 = some r ∧ SLe st' [.row 4 [.d (D.b false)],.row 224 [.d (D.s r68.1.name),.d (D.s r68.1.fields)],.row 45 [.d (D.i .u8 x0.op),.n c21159,.n c22160,.n c23161,.n c24162,.n c25163,.n c26164],.row 230 [.pt 2 0],.lp sl80 [.pt 0 0] .ready none,.row 224 [.d (D.s c50165),.d (D.s c51166)]])) q q q q q (fun sl80 hsl80 => ?_) ?_
 refine ctr_intro Tryz.func175 (by kernel_rfl) q q q (fun mm φφ ww hm80 => ?_)
 refine Rcl 6 q ?_
 obtain ⟨r168,hr168,h⟩:=bindS h
 refine WL.fn q q q q (f156_c _ hr168) ⟨Zl,Zt⟩ (Zw q) q q (Rl 3 q (Al z224 q (WL.s0 (d_store q q q q q q s224 q q) (Zw q) q (Rll 7 q ?_))))
 obtain ⟨r169,hr169,h⟩:=bindS h
 refine WL.fn q q q q (f176_c _ hr169) ⟨Zl,Zt⟩ (Zw q) q q (Zq (y_len_map E9 r169 e261 q q Zl) q (Rlc 4 q (Ln7 (fun t177 _ _ _ _ _ _ => [(0,.yl 4),(1,.pt 3 0),(18,.l E9 r169),(19,.n (List.length r169 : Int)),(20,.n t177)]) (fun _ c21178 c22179 c23180 c24181 c25182 c26183 => [.row 4 [.d (D.b false)],.row 224 [.d (D.s r68.1.name),.d (D.s r68.1.fields)],.row 45 [.d (D.i .u8 x0.op),.n c21178,.n c22179,.n c23180,.n c24181,.n c25182,.n c26183],.row 230 [.pt 2 0],.lp sl80 [.pt 0 0] .ready none,.row 224 [.d (D.s r168.1.name),.d (D.s r168.1.fields)]]) (f124_l1 k93 k106 k119 k132 k145 k158 k167 r168 r169) h (fun _ _ _ _ _ _ _ h => by rw [f124_l1] at h; cases h) (fun n t177 c21178 c22179 c23180 c24181 c25182 c26183 h => ?_))))
 rw [f124_l1] at h
 refine Rcc 6 q (Ci h q (fun h => ?_) (fun h => ?_))
 refine Rcl 6 q (Ix h e261 E9_eq q Zl q q fun x191 _ h => (Rll 6 q (Al z233 q (Rll 6 q ?_))))
 obtain ⟨x192,hx192,h⟩:=bindS h
 refine Zq (y_sindex Tryz.underlying9 q q hx192) q (Rlc 9 q (Ci h q (fun h => ?_) (fun h => ?_)))
 refine Rcl 4 q ?_
 obtain ⟨k194,hk194,h⟩:=letkS h
 refine WL.inl (us:=[.pt 2 1]) (fun rv st' => (k194 () = some r ∧ Le rv (.ag [.fn (.func 210) [] [.pt 7 0],.fn (.func 211) [] [.pt 7 0],.n 0,.n 0]) ∧ SLe st' [.row 4 [.d (D.b false)],.row 224 [.d (D.s r68.1.name),.d (D.s r68.1.fields)],.row 45 [.d (D.i .u8 x0.op),.n c21178,.n c22179,.n c23180,.n c24181,.n c25182,.n c26183],.row 230 [.pt 2 0],.lp sl80 [.pt 0 0] .ready none,.row 224 [.d (D.s r168.1.name),.d (D.s r168.1.fields)],.row 233 [.d (.v .nilFunc),.d (.v .nilFunc),.n 0,.n 0],.row 264 [.pt 2 1],.row 233 [.fn (.func 210) [] [.pt 7 0],.fn (.func 211) [] [.pt 7 0],.n 0,.n 0]])) q q q q q ?_ (Zw q) q q ?_
 refine ctr_intro Tryz.func177 (by kernel_rfl) q q q (fun mm φφ ww hm193 => ?_)
 exact Rcl 2 q (Bx q q q (Al z233 q (Rll 6 q (Zq (y_build p233 z233 q q) q (WL.s0 (d_store q q q q q q s233 q q) (Zw q) q (Rlx 3 q (we_ret (rs1 q (rv_cN q q a233 s233 q)) ⟨h,Zl,⟨Zp,Zp,Zp,Zp,⟨q,Zs _,q,q⟩,Zp,Zp,Zp,Zp,Zt⟩⟩)))))))
 rintro rv st1 ⟨h,hr,hst⟩
 subst hk194
 dsimp only at h
 refine WL.cast 35 q hr (WL.weak hst (WL.s0 (d_store q q q q q q s233 q q) (Zw q) q (WL.nil (Rxl 5 q ?_))))
 obtain ⟨x195,hx195,h⟩:=bindS h
 refine Zq (y_sindex Tryz.underlying9 q q hx195) q (WL.fn q q q q (f179_c _) ⟨Zl,Zt⟩ (Zw q) q q (Rl 4 q (WL.s0 (d_store q q q q q q s2 q q) (Zw q) q (Rl 1 q (WL.s0 (d_store q q q q q q s2 q q) (Zw q) q (Rll 6 q ?_))))))
 obtain ⟨k197,hk197,h⟩:=letkS h
 obtain ⟨k198,hk198,h⟩:=letkS h
 refine WL.yield (env0:=[(44,.ag [.fn (.func 210) [] [.pt 7 0],.fn (.func 211) [] [.pt 7 0],.n ((f179 x195).1),.n ((f179 x195).2)]),(2,.pt 0 0)]) (fun rv st' => (k197 () = some r ∧ rv = .d (.v (.bool false)) ∧ SLe st' [.row 4 [.d (D.b false)],.row 224 [.d (D.s r68.1.name),.d (D.s r68.1.fields)],.row 45 [.d (D.i .u8 x0.op),.n c21178,.n c22179,.n c23180,.n c24181,.n c25182,.n c26183],.row 230 [.pt 2 0],.lp sl80 [.pt 0 0] .done (some .ret),.row 224 [.d (D.s r168.1.name),.d (D.s r168.1.fields)],.row 233 [.fn (.func 210) [] [.pt 7 0],.fn (.func 211) [] [.pt 7 0],.n ((f179 x195).1),.n ((f179 x195).2)],.row 264 [.pt 2 1],.row 233 [.fn (.func 210) [] [.pt 7 0],.fn (.func 211) [] [.pt 7 0],.n 0,.n 0],.row 233 [.fn (.func 210) [] [.pt 7 0],.fn (.func 211) [] [.pt 7 0],.n ((f179 x195).1),.n ((f179 x195).2)]]) ∨ (k198 () = some r ∧ rv = .d (.v (.bool true)) ∧ SLe st' [.row 4 [.d (D.b false)],.row 224 [.d (D.s r68.1.name),.d (D.s r68.1.fields)],.row 45 [.d (D.i .u8 x0.op),.n 0,.n c22179,.n c23180,.n c24181,.n c25182,.n c26183],.row 230 [.pt 2 0],.lp sl80 [.pt 0 0] .ready none,.row 224 [.d (D.s r168.1.name),.d (D.s r168.1.fields)],.row 233 [.fn (.func 210) [] [.pt 7 0],.fn (.func 211) [] [.pt 7 0],.n ((f179 x195).1),.n ((f179 x195).2)],.row 264 [.pt 2 1],.row 233 [.fn (.func 210) [] [.pt 7 0],.fn (.func 211) [] [.pt 7 0],.n 0,.n 0],.row 233 [.fn (.func 210) [] [.pt 7 0],.fn (.func 211) [] [.pt 7 0],.n ((f179 x195).1),.n ((f179 x195).2)]])) hsl80 q q q q q q q (fun ee hn hrd196 hm196 => ?_) (Zw q) q q ?_
 obtain ⟨em,eφ,ew,en,er⟩:=ee
 subst hn
 refine Rcl 1 q (Al z233 q (WL.s0 (d_store q q q q q q s233 q q) (Zw q) q (Rlx 1 q (we_asg hrd196 q (Rcl 6 q ?_)))))
 obtain ⟨k200,hk200,h⟩:=letkS h
 refine WL.inl (us:=[.pt 7 0]) (fun rv st' => (k200 () = some r ∧ Le rv (.n c21178) ∧ SLe st' [.row 4 [.d (D.b false)],.row 224 [.d (D.s r68.1.name),.d (D.s r68.1.fields)],.row 45 [.d (D.i .u8 x0.op),.n c21178,.n c22179,.n c23180,.n c24181,.n c25182,.n c26183],.row 230 [.pt 2 0],.lp sl80 [.pt 0 0] .busy none,.row 224 [.d (D.s r168.1.name),.d (D.s r168.1.fields)],.row 233 [.fn (.func 210) [] [.pt 7 0],.fn (.func 211) [] [.pt 7 0],.n ((f179 x195).1),.n ((f179 x195).2)],.row 264 [.pt 2 1],.row 233 [.fn (.func 210) [] [.pt 7 0],.fn (.func 211) [] [.pt 7 0],.n 0,.n 0],.row 233 [.fn (.func 210) [] [.pt 7 0],.fn (.func 211) [] [.pt 7 0],.n ((f179 x195).1),.n ((f179 x195).2)]])) q q q q q ?_ (Zw q) q q ?_
 refine ctr_intro Tryz.func210 (by kernel_rfl) q q q (fun mm φφ ww hm199 => ?_)
 exact Rcx 14 q (we_ret (rs1 q (rv_t q)) ⟨h,Zl,⟨Zp,Zp,Zp,Zp,⟨q,Zs _,q,q⟩,Zp,Zp,Zp,Zp,Zp,Zt⟩⟩)
 rintro rv st1 ⟨h,hr,hst⟩
 subst hk200
 dsimp only at h
 refine WL.cast 47 q hr (WL.weak hst (Rl 1 q (Zn (Rcl 7 q ?_))))
 apply WL.or 5 (t:=52) (d:=57)
 exact q
 intro hg52
 exact Rl 5 q (WL.nil ⟨q,[_,_,_,_,_],q,q,q⟩)
 exact Rl 5 q (WL.nil ⟨q,[_,_,_,_,_],q,q,q⟩)
 refine Rlc 2 q (Ci h q (fun h => ?_) (fun h => ?_))
 exact Rcl 2 q (WL.s0 (d_store q q q q q q s4 q q) (Zw q) q (Rlx 5 q (we_rend_ret hrd196 q (.inl ⟨h,q,⟨Zp,Zp,Zp,Zp,⟨q,Zs _,q,q⟩,Zp,Zp,Zp,Zp,Zp,Zt⟩⟩))))
 refine Rcl 5 q ?_
 obtain ⟨k202,hk202,h⟩:=letkS h
 refine WL.inl (us:=[.n 0,.pt 7 0]) (fun rv st' => (k202 () = some r ∧ Le rv (.tu []) ∧ SLe st' [.row 4 [.d (D.b false)],.row 224 [.d (D.s r68.1.name),.d (D.s r68.1.fields)],.row 45 [.d (D.i .u8 x0.op),.n 0,.n c22179,.n c23180,.n c24181,.n c25182,.n c26183],.row 230 [.pt 2 0],.lp sl80 [.pt 0 0] .busy none,.row 224 [.d (D.s r168.1.name),.d (D.s r168.1.fields)],.row 233 [.fn (.func 210) [] [.pt 7 0],.fn (.func 211) [] [.pt 7 0],.n ((f179 x195).1),.n ((f179 x195).2)],.row 264 [.pt 2 1],.row 233 [.fn (.func 210) [] [.pt 7 0],.fn (.func 211) [] [.pt 7 0],.n 0,.n 0],.row 233 [.fn (.func 210) [] [.pt 7 0],.fn (.func 211) [] [.pt 7 0],.n ((f179 x195).1),.n ((f179 x195).2)]])) q q q q q ?_ (Zw q) q q ?_
 refine ctr_intro Tryz.func211 (by kernel_rfl) q q q (fun mm φφ ww hm201 => ?_)
 exact Rcl 4 q (WL.s0 (d_store q q q q q q s3 q q) (Zw q) q (Rlx 1 q (we_end (we_ret (res0 q) ⟨h,Zl,⟨Zp,Zp,Zp,Zp,⟨q,Zs _,q,q⟩,Zp,Zp,Zp,Zp,Zp,Zt⟩⟩))))
 rintro rv st1 ⟨h,hr,hst⟩
 subst hk202
 dsimp only at h
 exact WL.cast 60 q hr (WL.weak hst (WL.nil (Rxx 1 q (we_rend hrd196 q (.inr (⟨h,q,⟨Zp,Zp,Zp,Zp,⟨q,Zs _,q,q⟩,Zp,Zp,Zp,Zp,Zp,Zt⟩⟩))))))
 rintro rv st1 (⟨h,rfl,hst⟩ | ⟨h,rfl,hst⟩)
 subst hk197
 dsimp only at h
 exact WL.weak hst (Rl 1 q (Zn (wc_true q (Rcx 5 q (we_ret (res0 q) (.inl ⟨c21178,c22179,c23180,c24181,c25182,c26183,r168.1.name,r168.1.fields,((f179 x195).1),((f179 x195).2),((f179 x195).1),((f179 x195).2),h,⟨Zp,Zp,Zp,Zp,⟨q,Zs _,q,q⟩,Zp,Zp,Zp,Zp,Zp,Zt⟩⟩))))))
 subst hk198
 dsimp only at h
 exact WL.weak hst (Rl 1 q (Zn (wc_false q (Rcx 7 q (WE.drop 6 (env':=[(0,.yl 4),(1,.pt 3 0),(18,.l E9 r169),(19,.n (List.length r169 : Int)),(20,.n (IntKind.i64.wrap (t177 + 1)))]) (Sub.one q (Sub.one q (Sub.one q (Sub.one q (Sub.one q (Sub.nil _)))))) q q (Nat.le_trans (Nat.le_of_eq hm80) (Nat.le_of_ble_eq_true q)) (Fn7 h))))))
 refine Rcc 6 q (Ci h q (fun h => ?_) (fun h => ?_))
 refine Rcl 4 q ?_
 obtain ⟨k204,hk204,h⟩:=letkS h
 refine WL.inl (us:=[.pt 2 2]) (fun rv st' => (k204 () = some r ∧ Le rv (.ag [.fn (.func 210) [] [.pt 7 0],.fn (.func 211) [] [.pt 7 0],.n 0,.n 0]) ∧ SLe st' [.row 4 [.d (D.b false)],.row 224 [.d (D.s r68.1.name),.d (D.s r68.1.fields)],.row 45 [.d (D.i .u8 x0.op),.n c21178,.n c22179,.n c23180,.n c24181,.n c25182,.n c26183],.row 230 [.pt 2 0],.lp sl80 [.pt 0 0] .ready none,.row 224 [.d (D.s r168.1.name),.d (D.s r168.1.fields)],.row 233 [.d (.v .nilFunc),.d (.v .nilFunc),.n 0,.n 0],.row 264 [.pt 2 2],.row 233 [.fn (.func 210) [] [.pt 7 0],.fn (.func 211) [] [.pt 7 0],.n 0,.n 0]])) q q q q q ?_ (Zw q) q q ?_
 refine ctr_intro Tryz.func177 (by kernel_rfl) q q q (fun mm φφ ww hm203 => ?_)
 exact Rcl 2 q (Bx q q q (Al z233 q (Rll 6 q (Zq (y_build p233 z233 q q) q (WL.s0 (d_store q q q q q q s233 q q) (Zw q) q (Rlx 3 q (we_ret (rs1 q (rv_cN q q a233 s233 q)) ⟨h,Zl,⟨Zp,Zp,Zp,Zp,⟨q,Zs _,q,q⟩,Zp,Zp,Zp,Zp,Zt⟩⟩)))))))
 rintro rv st1 ⟨h,hr,hst⟩
 subst hk204
 dsimp only at h
 refine WL.cast 41 q hr (WL.weak hst (WL.s0 (d_store q q q q q q s233 q q) (Zw q) q (WL.nil (Rxl 5 q ?_))))
 obtain ⟨x205,hx205,h⟩:=bindS h
 refine Zq (y_sindex Tryz.underlying9 q q hx205) q (WL.fn q q q q (f179_c _) ⟨Zl,Zt⟩ (Zw q) q q (Rl 4 q (WL.s0 (d_store q q q q q q s2 q q) (Zw q) q (Rl 1 q (WL.s0 (d_store q q q q q q s2 q q) (Zw q) q (Rll 6 q ?_))))))
 obtain ⟨k207,hk207,h⟩:=letkS h
 obtain ⟨k208,hk208,h⟩:=letkS h
 refine WL.yield (env0:=[(44,.ag [.fn (.func 210) [] [.pt 7 0],.fn (.func 211) [] [.pt 7 0],.n ((f179 x205).1),.n ((f179 x205).2)]),(2,.pt 0 0)]) (fun rv st' => (k207 () = some r ∧ rv = .d (.v (.bool false)) ∧ SLe st' [.row 4 [.d (D.b false)],.row 224 [.d (D.s r68.1.name),.d (D.s r68.1.fields)],.row 45 [.d (D.i .u8 x0.op),.n c21178,.n c22179,.n c23180,.n c24181,.n c25182,.n c26183],.row 230 [.pt 2 0],.lp sl80 [.pt 0 0] .done (some .ret),.row 224 [.d (D.s r168.1.name),.d (D.s r168.1.fields)],.row 233 [.fn (.func 210) [] [.pt 7 0],.fn (.func 211) [] [.pt 7 0],.n ((f179 x205).1),.n ((f179 x205).2)],.row 264 [.pt 2 2],.row 233 [.fn (.func 210) [] [.pt 7 0],.fn (.func 211) [] [.pt 7 0],.n 0,.n 0],.row 233 [.fn (.func 210) [] [.pt 7 0],.fn (.func 211) [] [.pt 7 0],.n ((f179 x205).1),.n ((f179 x205).2)]]) ∨ (k208 () = some r ∧ rv = .d (.v (.bool true)) ∧ SLe st' [.row 4 [.d (D.b false)],.row 224 [.d (D.s r68.1.name),.d (D.s r68.1.fields)],.row 45 [.d (D.i .u8 x0.op),.n c21178,.n 0,.n c23180,.n c24181,.n c25182,.n c26183],.row 230 [.pt 2 0],.lp sl80 [.pt 0 0] .ready none,.row 224 [.d (D.s r168.1.name),.d (D.s r168.1.fields)],.row 233 [.fn (.func 210) [] [.pt 7 0],.fn (.func 211) [] [.pt 7 0],.n ((f179 x205).1),.n ((f179 x205).2)],.row 264 [.pt 2 2],.row 233 [.fn (.func 210) [] [.pt 7 0],.fn (.func 211) [] [.pt 7 0],.n 0,.n 0],.row 233 [.fn (.func 210) [] [.pt 7 0],.fn (.func 211) [] [.pt 7 0],.n ((f179 x205).1),.n ((f179 x205).2)]])) hsl80 q q q q q q q (fun ee hn hrd206 hm206 => ?_) (Zw q) q q ?_
 obtain ⟨em,eφ,ew,en,er⟩:=ee
 subst hn
 refine Rcl 1 q (Al z233 q (WL.s0 (d_store q q q q q q s233 q q) (Zw q) q (Rlx 1 q (we_asg hrd206 q (Rcl 6 q ?_)))))
 obtain ⟨k210,hk210,h⟩:=letkS h
 refine WL.inl (us:=[.pt 7 0]) (fun rv st' => (k210 () = some r ∧ Le rv (.n c22179) ∧ SLe st' [.row 4 [.d (D.b false)],.row 224 [.d (D.s r68.1.name),.d (D.s r68.1.fields)],.row 45 [.d (D.i .u8 x0.op),.n c21178,.n c22179,.n c23180,.n c24181,.n c25182,.n c26183],.row 230 [.pt 2 0],.lp sl80 [.pt 0 0] .busy none,.row 224 [.d (D.s r168.1.name),.d (D.s r168.1.fields)],.row 233 [.fn (.func 210) [] [.pt 7 0],.fn (.func 211) [] [.pt 7 0],.n ((f179 x205).1),.n ((f179 x205).2)],.row 264 [.pt 2 2],.row 233 [.fn (.func 210) [] [.pt 7 0],.fn (.func 211) [] [.pt 7 0],.n 0,.n 0],.row 233 [.fn (.func 210) [] [.pt 7 0],.fn (.func 211) [] [.pt 7 0],.n ((f179 x205).1),.n ((f179 x205).2)]])) q q q q q ?_ (Zw q) q q ?_
 refine ctr_intro Tryz.func210 (by kernel_rfl) q q q (fun mm φφ ww hm209 => ?_)
 exact Rcx 14 q (we_ret (rs1 q (rv_t q)) ⟨h,Zl,⟨Zp,Zp,Zp,Zp,⟨q,Zs _,q,q⟩,Zp,Zp,Zp,Zp,Zp,Zt⟩⟩)
 rintro rv st1 ⟨h,hr,hst⟩
 subst hk210
 dsimp only at h
 refine WL.cast 47 q hr (WL.weak hst (Rl 1 q (Zn (Rcl 7 q ?_))))
 apply WL.or 5 (t:=52) (d:=57)
 exact q
 intro hg52
 exact Rl 5 q (WL.nil ⟨q,[_,_,_,_,_],q,q,q⟩)
 exact Rl 5 q (WL.nil ⟨q,[_,_,_,_,_],q,q,q⟩)
 refine Rlc 2 q (Ci h q (fun h => ?_) (fun h => ?_))
 exact Rcl 2 q (WL.s0 (d_store q q q q q q s4 q q) (Zw q) q (Rlx 5 q (we_rend_ret hrd206 q (.inl ⟨h,q,⟨Zp,Zp,Zp,Zp,⟨q,Zs _,q,q⟩,Zp,Zp,Zp,Zp,Zp,Zt⟩⟩))))
 refine Rcl 5 q ?_
 obtain ⟨k212,hk212,h⟩:=letkS h
 refine WL.inl (us:=[.n 0,.pt 7 0]) (fun rv st' => (k212 () = some r ∧ Le rv (.tu []) ∧ SLe st' [.row 4 [.d (D.b false)],.row 224 [.d (D.s r68.1.name),.d (D.s r68.1.fields)],.row 45 [.d (D.i .u8 x0.op),.n c21178,.n 0,.n c23180,.n c24181,.n c25182,.n c26183],.row 230 [.pt 2 0],.lp sl80 [.pt 0 0] .busy none,.row 224 [.d (D.s r168.1.name),.d (D.s r168.1.fields)],.row 233 [.fn (.func 210) [] [.pt 7 0],.fn (.func 211) [] [.pt 7 0],.n ((f179 x205).1),.n ((f179 x205).2)],.row 264 [.pt 2 2],.row 233 [.fn (.func 210) [] [.pt 7 0],.fn (.func 211) [] [.pt 7 0],.n 0,.n 0],.row 233 [.fn (.func 210) [] [.pt 7 0],.fn (.func 211) [] [.pt 7 0],.n ((f179 x205).1),.n ((f179 x205).2)]])) q q q q q ?_ (Zw q) q q ?_
 refine ctr_intro Tryz.func211 (by kernel_rfl) q q q (fun mm φφ ww hm211 => ?_)
 exact Rcl 4 q (WL.s0 (d_store q q q q q q s3 q q) (Zw q) q (Rlx 1 q (we_end (we_ret (res0 q) ⟨h,Zl,⟨Zp,Zp,Zp,Zp,⟨q,Zs _,q,q⟩,Zp,Zp,Zp,Zp,Zp,Zt⟩⟩))))
 rintro rv st1 ⟨h,hr,hst⟩
 subst hk212
 dsimp only at h
 exact WL.cast 60 q hr (WL.weak hst (WL.nil (Rxx 1 q (we_rend hrd206 q (.inr (⟨h,q,⟨Zp,Zp,Zp,Zp,⟨q,Zs _,q,q⟩,Zp,Zp,Zp,Zp,Zp,Zt⟩⟩))))))
 rintro rv st1 (⟨h,rfl,hst⟩ | ⟨h,rfl,hst⟩)
 subst hk207
 dsimp only at h
 exact WL.weak hst (Rl 1 q (Zn (wc_true q (Rcx 5 q (we_ret (res0 q) (.inr (.inl ⟨c21178,c22179,c23180,c24181,c25182,c26183,r168.1.name,r168.1.fields,((f179 x205).1),((f179 x205).2),((f179 x205).1),((f179 x205).2),h,⟨Zp,Zp,Zp,Zp,⟨q,Zs _,q,q⟩,Zp,Zp,Zp,Zp,Zp,Zt⟩⟩)))))))
 subst hk208
 dsimp only at h
 exact WL.weak hst (Rl 1 q (Zn (wc_false q (Rcx 7 q (WE.drop 6 (env':=[(0,.yl 4),(1,.pt 3 0),(18,.l E9 r169),(19,.n (List.length r169 : Int)),(20,.n (IntKind.i64.wrap (t177 + 1)))]) (Sub.one q (Sub.one q (Sub.one q (Sub.one q (Sub.one q (Sub.nil _)))))) q q (Nat.le_trans (Nat.le_of_eq hm80) (Nat.le_of_ble_eq_true q)) (Fn7 h))))))
 refine Rcc 6 q (Ci h q (fun h => ?_) (fun h => ?_))
 refine Rcl 4 q ?_
 obtain ⟨k214,hk214,h⟩:=letkS h
 refine WL.inl (us:=[.pt 2 3]) (fun rv st' => (k214 () = some r ∧ Le rv (.ag [.fn (.func 210) [] [.pt 7 0],.fn (.func 211) [] [.pt 7 0],.n 0,.n 0]) ∧ SLe st' [.row 4 [.d (D.b false)],.row 224 [.d (D.s r68.1.name),.d (D.s r68.1.fields)],.row 45 [.d (D.i .u8 x0.op),.n c21178,.n c22179,.n c23180,.n c24181,.n c25182,.n c26183],.row 230 [.pt 2 0],.lp sl80 [.pt 0 0] .ready none,.row 224 [.d (D.s r168.1.name),.d (D.s r168.1.fields)],.row 233 [.d (.v .nilFunc),.d (.v .nilFunc),.n 0,.n 0],.row 264 [.pt 2 3],.row 233 [.fn (.func 210) [] [.pt 7 0],.fn (.func 211) [] [.pt 7 0],.n 0,.n 0]])) q q q q q ?_ (Zw q) q q ?_
 refine ctr_intro Tryz.func177 (by kernel_rfl) q q q (fun mm φφ ww hm213 => ?_)
 exact Rcl 2 q (Bx q q q (Al z233 q (Rll 6 q (Zq (y_build p233 z233 q q) q (WL.s0 (d_store q q q q q q s233 q q) (Zw q) q (Rlx 3 q (we_ret (rs1 q (rv_cN q q a233 s233 q)) ⟨h,Zl,⟨Zp,Zp,Zp,Zp,⟨q,Zs _,q,q⟩,Zp,Zp,Zp,Zp,Zt⟩⟩)))))))
 rintro rv st1 ⟨h,hr,hst⟩
 subst hk214
 dsimp only at h
 refine WL.cast 47 q hr (WL.weak hst (WL.s0 (d_store q q q q q q s233 q q) (Zw q) q (WL.nil (Rxl 5 q ?_))))
 obtain ⟨x215,hx215,h⟩:=bindS h
 refine Zq (y_sindex Tryz.underlying9 q q hx215) q (WL.fn q q q q (f179_c _) ⟨Zl,Zt⟩ (Zw q) q q (Rl 4 q (WL.s0 (d_store q q q q q q s2 q q) (Zw q) q (Rl 1 q (WL.s0 (d_store q q q q q q s2 q q) (Zw q) q (Rll 6 q ?_))))))
 obtain ⟨k217,hk217,h⟩:=letkS h
 obtain ⟨k218,hk218,h⟩:=letkS h
 refine WL.yield (env0:=[(44,.ag [.fn (.func 210) [] [.pt 7 0],.fn (.func 211) [] [.pt 7 0],.n ((f179 x215).1),.n ((f179 x215).2)]),(2,.pt 0 0)]) (fun rv st' => (k217 () = some r ∧ rv = .d (.v (.bool false)) ∧ SLe st' [.row 4 [.d (D.b false)],.row 224 [.d (D.s r68.1.name),.d (D.s r68.1.fields)],.row 45 [.d (D.i .u8 x0.op),.n c21178,.n c22179,.n c23180,.n c24181,.n c25182,.n c26183],.row 230 [.pt 2 0],.lp sl80 [.pt 0 0] .done (some .ret),.row 224 [.d (D.s r168.1.name),.d (D.s r168.1.fields)],.row 233 [.fn (.func 210) [] [.pt 7 0],.fn (.func 211) [] [.pt 7 0],.n ((f179 x215).1),.n ((f179 x215).2)],.row 264 [.pt 2 3],.row 233 [.fn (.func 210) [] [.pt 7 0],.fn (.func 211) [] [.pt 7 0],.n 0,.n 0],.row 233 [.fn (.func 210) [] [.pt 7 0],.fn (.func 211) [] [.pt 7 0],.n ((f179 x215).1),.n ((f179 x215).2)]]) ∨ (k218 () = some r ∧ rv = .d (.v (.bool true)) ∧ SLe st' [.row 4 [.d (D.b false)],.row 224 [.d (D.s r68.1.name),.d (D.s r68.1.fields)],.row 45 [.d (D.i .u8 x0.op),.n c21178,.n c22179,.n 0,.n c24181,.n c25182,.n c26183],.row 230 [.pt 2 0],.lp sl80 [.pt 0 0] .ready none,.row 224 [.d (D.s r168.1.name),.d (D.s r168.1.fields)],.row 233 [.fn (.func 210) [] [.pt 7 0],.fn (.func 211) [] [.pt 7 0],.n ((f179 x215).1),.n ((f179 x215).2)],.row 264 [.pt 2 3],.row 233 [.fn (.func 210) [] [.pt 7 0],.fn (.func 211) [] [.pt 7 0],.n 0,.n 0],.row 233 [.fn (.func 210) [] [.pt 7 0],.fn (.func 211) [] [.pt 7 0],.n ((f179 x215).1),.n ((f179 x215).2)]])) hsl80 q q q q q q q (fun ee hn hrd216 hm216 => ?_) (Zw q) q q ?_
 obtain ⟨em,eφ,ew,en,er⟩:=ee
 subst hn
 refine Rcl 1 q (Al z233 q (WL.s0 (d_store q q q q q q s233 q q) (Zw q) q (Rlx 1 q (we_asg hrd216 q (Rcl 6 q ?_)))))
 obtain ⟨k220,hk220,h⟩:=letkS h
 refine WL.inl (us:=[.pt 7 0]) (fun rv st' => (k220 () = some r ∧ Le rv (.n c23180) ∧ SLe st' [.row 4 [.d (D.b false)],.row 224 [.d (D.s r68.1.name),.d (D.s r68.1.fields)],.row 45 [.d (D.i .u8 x0.op),.n c21178,.n c22179,.n c23180,.n c24181,.n c25182,.n c26183],.row 230 [.pt 2 0],.lp sl80 [.pt 0 0] .busy none,.row 224 [.d (D.s r168.1.name),.d (D.s r168.1.fields)],.row 233 [.fn (.func 210) [] [.pt 7 0],.fn (.func 211) [] [.pt 7 0],.n ((f179 x215).1),.n ((f179 x215).2)],.row 264 [.pt 2 3],.row 233 [.fn (.func 210) [] [.pt 7 0],.fn (.func 211) [] [.pt 7 0],.n 0,.n 0],.row 233 [.fn (.func 210) [] [.pt 7 0],.fn (.func 211) [] [.pt 7 0],.n ((f179 x215).1),.n ((f179 x215).2)]])) q q q q q ?_ (Zw q) q q ?_
 refine ctr_intro Tryz.func210 (by kernel_rfl) q q q (fun mm φφ ww hm219 => ?_)
 exact Rcx 14 q (we_ret (rs1 q (rv_t q)) ⟨h,Zl,⟨Zp,Zp,Zp,Zp,⟨q,Zs _,q,q⟩,Zp,Zp,Zp,Zp,Zp,Zt⟩⟩)
 rintro rv st1 ⟨h,hr,hst⟩
 subst hk220
 dsimp only at h
 refine WL.cast 47 q hr (WL.weak hst (Rl 1 q (Zn (Rcl 7 q ?_))))
 apply WL.or 5 (t:=52) (d:=57)
 exact q
 intro hg52
 exact Rl 5 q (WL.nil ⟨q,[_,_,_,_,_],q,q,q⟩)
 exact Rl 5 q (WL.nil ⟨q,[_,_,_,_,_],q,q,q⟩)
 refine Rlc 2 q (Ci h q (fun h => ?_) (fun h => ?_))
 exact Rcl 2 q (WL.s0 (d_store q q q q q q s4 q q) (Zw q) q (Rlx 5 q (we_rend_ret hrd216 q (.inl ⟨h,q,⟨Zp,Zp,Zp,Zp,⟨q,Zs _,q,q⟩,Zp,Zp,Zp,Zp,Zp,Zt⟩⟩))))
 refine Rcl 5 q ?_
 obtain ⟨k222,hk222,h⟩:=letkS h
 refine WL.inl (us:=[.n 0,.pt 7 0]) (fun rv st' => (k222 () = some r ∧ Le rv (.tu []) ∧ SLe st' [.row 4 [.d (D.b false)],.row 224 [.d (D.s r68.1.name),.d (D.s r68.1.fields)],.row 45 [.d (D.i .u8 x0.op),.n c21178,.n c22179,.n 0,.n c24181,.n c25182,.n c26183],.row 230 [.pt 2 0],.lp sl80 [.pt 0 0] .busy none,.row 224 [.d (D.s r168.1.name),.d (D.s r168.1.fields)],.row 233 [.fn (.func 210) [] [.pt 7 0],.fn (.func 211) [] [.pt 7 0],.n ((f179 x215).1),.n ((f179 x215).2)],.row 264 [.pt 2 3],.row 233 [.fn (.func 210) [] [.pt 7 0],.fn (.func 211) [] [.pt 7 0],.n 0,.n 0],.row 233 [.fn (.func 210) [] [.pt 7 0],.fn (.func 211) [] [.pt 7 0],.n ((f179 x215).1),.n ((f179 x215).2)]])) q q q q q ?_ (Zw q) q q ?_
 refine ctr_intro Tryz.func211 (by kernel_rfl) q q q (fun mm φφ ww hm221 => ?_)
 exact Rcl 4 q (WL.s0 (d_store q q q q q q s3 q q) (Zw q) q (Rlx 1 q (we_end (we_ret (res0 q) ⟨h,Zl,⟨Zp,Zp,Zp,Zp,⟨q,Zs _,q,q⟩,Zp,Zp,Zp,Zp,Zp,Zt⟩⟩))))
 rintro rv st1 ⟨h,hr,hst⟩
 subst hk222
 dsimp only at h
 exact WL.cast 60 q hr (WL.weak hst (WL.nil (Rxx 1 q (we_rend hrd216 q (.inr (⟨h,q,⟨Zp,Zp,Zp,Zp,⟨q,Zs _,q,q⟩,Zp,Zp,Zp,Zp,Zp,Zt⟩⟩))))))
 rintro rv st1 (⟨h,rfl,hst⟩ | ⟨h,rfl,hst⟩)
 subst hk217
 dsimp only at h
 exact WL.weak hst (Rl 1 q (Zn (wc_true q (Rcx 5 q (we_ret (res0 q) (.inr (.inr (.inl ⟨c21178,c22179,c23180,c24181,c25182,c26183,r168.1.name,r168.1.fields,((f179 x215).1),((f179 x215).2),((f179 x215).1),((f179 x215).2),h,⟨Zp,Zp,Zp,Zp,⟨q,Zs _,q,q⟩,Zp,Zp,Zp,Zp,Zp,Zt⟩⟩))))))))
 subst hk218
 dsimp only at h
 exact WL.weak hst (Rl 1 q (Zn (wc_false q (Rcx 7 q (WE.drop 6 (env':=[(0,.yl 4),(1,.pt 3 0),(18,.l E9 r169),(19,.n (List.length r169 : Int)),(20,.n (IntKind.i64.wrap (t177 + 1)))]) (Sub.one q (Sub.one q (Sub.one q (Sub.one q (Sub.one q (Sub.nil _)))))) q q (Nat.le_trans (Nat.le_of_eq hm80) (Nat.le_of_ble_eq_true q)) (Fn7 h))))))
 refine Rcc 6 q (Ci h q (fun h => ?_) (fun h => ?_))
 refine Rcl 4 q ?_
 obtain ⟨k224,hk224,h⟩:=letkS h
 refine WL.inl (us:=[.pt 2 4]) (fun rv st' => (k224 () = some r ∧ Le rv (.ag [.fn (.func 212) [] [.pt 7 0],.fn (.func 213) [] [.pt 7 0],.n 0,.n 0]) ∧ SLe st' [.row 4 [.d (D.b false)],.row 224 [.d (D.s r68.1.name),.d (D.s r68.1.fields)],.row 45 [.d (D.i .u8 x0.op),.n c21178,.n c22179,.n c23180,.n c24181,.n c25182,.n c26183],.row 230 [.pt 2 0],.lp sl80 [.pt 0 0] .ready none,.row 224 [.d (D.s r168.1.name),.d (D.s r168.1.fields)],.row 233 [.d (.v .nilFunc),.d (.v .nilFunc),.n 0,.n 0],.row 128 [.pt 2 4],.row 233 [.fn (.func 212) [] [.pt 7 0],.fn (.func 213) [] [.pt 7 0],.n 0,.n 0]])) q q q q q ?_ (Zw q) q q ?_
 refine ctr_intro Tryz.func178 (by kernel_rfl) q q q (fun mm φφ ww hm223 => ?_)
 exact Rcl 2 q (Bx q q q (Al z233 q (Rll 6 q (Zq (y_build p233 z233 q q) q (WL.s0 (d_store q q q q q q s233 q q) (Zw q) q (Rlx 3 q (we_ret (rs1 q (rv_cN q q a233 s233 q)) ⟨h,Zl,⟨Zp,Zp,Zp,Zp,⟨q,Zs _,q,q⟩,Zp,Zp,Zp,Zp,Zt⟩⟩)))))))
 rintro rv st1 ⟨h,hr,hst⟩
 subst hk224
 dsimp only at h
 refine WL.cast 53 q hr (WL.weak hst (WL.s0 (d_store q q q q q q s233 q q) (Zw q) q (WL.nil (Rxl 5 q ?_))))
 obtain ⟨x225,hx225,h⟩:=bindS h
 refine Zq (y_sindex Tryz.underlying9 q q hx225) q (WL.fn q q q q (f179_c _) ⟨Zl,Zt⟩ (Zw q) q q (Rl 4 q (WL.s0 (d_store q q q q q q s2 q q) (Zw q) q (Rl 1 q (WL.s0 (d_store q q q q q q s2 q q) (Zw q) q (Rll 6 q ?_))))))
 obtain ⟨k227,hk227,h⟩:=letkS h
 obtain ⟨k228,hk228,h⟩:=letkS h
 refine WL.yield (env0:=[(44,.ag [.fn (.func 212) [] [.pt 7 0],.fn (.func 213) [] [.pt 7 0],.n ((f179 x225).1),.n ((f179 x225).2)]),(2,.pt 0 0)]) (fun rv st' => (k227 () = some r ∧ rv = .d (.v (.bool false)) ∧ SLe st' [.row 4 [.d (D.b false)],.row 224 [.d (D.s r68.1.name),.d (D.s r68.1.fields)],.row 45 [.d (D.i .u8 x0.op),.n c21178,.n c22179,.n c23180,.n c24181,.n c25182,.n c26183],.row 230 [.pt 2 0],.lp sl80 [.pt 0 0] .done (some .ret),.row 224 [.d (D.s r168.1.name),.d (D.s r168.1.fields)],.row 233 [.fn (.func 212) [] [.pt 7 0],.fn (.func 213) [] [.pt 7 0],.n ((f179 x225).1),.n ((f179 x225).2)],.row 128 [.pt 2 4],.row 233 [.fn (.func 212) [] [.pt 7 0],.fn (.func 213) [] [.pt 7 0],.n 0,.n 0],.row 233 [.fn (.func 212) [] [.pt 7 0],.fn (.func 213) [] [.pt 7 0],.n ((f179 x225).1),.n ((f179 x225).2)]]) ∨ (k228 () = some r ∧ rv = .d (.v (.bool true)) ∧ SLe st' [.row 4 [.d (D.b false)],.row 224 [.d (D.s r68.1.name),.d (D.s r68.1.fields)],.row 45 [.d (D.i .u8 x0.op),.n c21178,.n c22179,.n c23180,.n 0,.n c25182,.n c26183],.row 230 [.pt 2 0],.lp sl80 [.pt 0 0] .ready none,.row 224 [.d (D.s r168.1.name),.d (D.s r168.1.fields)],.row 233 [.fn (.func 212) [] [.pt 7 0],.fn (.func 213) [] [.pt 7 0],.n ((f179 x225).1),.n ((f179 x225).2)],.row 128 [.pt 2 4],.row 233 [.fn (.func 212) [] [.pt 7 0],.fn (.func 213) [] [.pt 7 0],.n 0,.n 0],.row 233 [.fn (.func 212) [] [.pt 7 0],.fn (.func 213) [] [.pt 7 0],.n ((f179 x225).1),.n ((f179 x225).2)]])) hsl80 q q q q q q q (fun ee hn hrd226 hm226 => ?_) (Zw q) q q ?_
 obtain ⟨em,eφ,ew,en,er⟩:=ee
 subst hn
 refine Rcl 1 q (Al z233 q (WL.s0 (d_store q q q q q q s233 q q) (Zw q) q (Rlx 1 q (we_asg hrd226 q (Rcl 6 q ?_)))))
 obtain ⟨k230,hk230,h⟩:=letkS h
 refine WL.inl (us:=[.pt 7 0]) (fun rv st' => (k230 () = some r ∧ Le rv (.n c24181) ∧ SLe st' [.row 4 [.d (D.b false)],.row 224 [.d (D.s r68.1.name),.d (D.s r68.1.fields)],.row 45 [.d (D.i .u8 x0.op),.n c21178,.n c22179,.n c23180,.n c24181,.n c25182,.n c26183],.row 230 [.pt 2 0],.lp sl80 [.pt 0 0] .busy none,.row 224 [.d (D.s r168.1.name),.d (D.s r168.1.fields)],.row 233 [.fn (.func 212) [] [.pt 7 0],.fn (.func 213) [] [.pt 7 0],.n ((f179 x225).1),.n ((f179 x225).2)],.row 128 [.pt 2 4],.row 233 [.fn (.func 212) [] [.pt 7 0],.fn (.func 213) [] [.pt 7 0],.n 0,.n 0],.row 233 [.fn (.func 212) [] [.pt 7 0],.fn (.func 213) [] [.pt 7 0],.n ((f179 x225).1),.n ((f179 x225).2)]])) q q q q q ?_ (Zw q) q q ?_
 refine ctr_intro Tryz.func212 (by kernel_rfl) q q q (fun mm φφ ww hm229 => ?_)
 exact Rcx 14 q (we_ret (rs1 q (rv_t q)) ⟨h,Zl,⟨Zp,Zp,Zp,Zp,⟨q,Zs _,q,q⟩,Zp,Zp,Zp,Zp,Zp,Zt⟩⟩)
 rintro rv st1 ⟨h,hr,hst⟩
 subst hk230
 dsimp only at h
 refine WL.cast 47 q hr (WL.weak hst (Rl 1 q (Zn (Rcl 7 q ?_))))
 apply WL.or 5 (t:=52) (d:=57)
 exact q
 intro hg52
 exact Rl 5 q (WL.nil ⟨q,[_,_,_,_,_],q,q,q⟩)
 exact Rl 5 q (WL.nil ⟨q,[_,_,_,_,_],q,q,q⟩)
 refine Rlc 2 q (Ci h q (fun h => ?_) (fun h => ?_))
 exact Rcl 2 q (WL.s0 (d_store q q q q q q s4 q q) (Zw q) q (Rlx 5 q (we_rend_ret hrd226 q (.inl ⟨h,q,⟨Zp,Zp,Zp,Zp,⟨q,Zs _,q,q⟩,Zp,Zp,Zp,Zp,Zp,Zt⟩⟩))))
 refine Rcl 5 q ?_
 obtain ⟨k232,hk232,h⟩:=letkS h
 refine WL.inl (us:=[.n 0,.pt 7 0]) (fun rv st' => (k232 () = some r ∧ Le rv (.tu []) ∧ SLe st' [.row 4 [.d (D.b false)],.row 224 [.d (D.s r68.1.name),.d (D.s r68.1.fields)],.row 45 [.d (D.i .u8 x0.op),.n c21178,.n c22179,.n c23180,.n 0,.n c25182,.n c26183],.row 230 [.pt 2 0],.lp sl80 [.pt 0 0] .busy none,.row 224 [.d (D.s r168.1.name),.d (D.s r168.1.fields)],.row 233 [.fn (.func 212) [] [.pt 7 0],.fn (.func 213) [] [.pt 7 0],.n ((f179 x225).1),.n ((f179 x225).2)],.row 128 [.pt 2 4],.row 233 [.fn (.func 212) [] [.pt 7 0],.fn (.func 213) [] [.pt 7 0],.n 0,.n 0],.row 233 [.fn (.func 212) [] [.pt 7 0],.fn (.func 213) [] [.pt 7 0],.n ((f179 x225).1),.n ((f179 x225).2)]])) q q q q q ?_ (Zw q) q q ?_
 refine ctr_intro Tryz.func213 (by kernel_rfl) q q q (fun mm φφ ww hm231 => ?_)
 exact Rcl 4 q (WL.s0 (d_store q q q q q q s2 q q) (Zw q) q (Rlx 1 q (we_end (we_ret (res0 q) ⟨h,Zl,⟨Zp,Zp,Zp,Zp,⟨q,Zs _,q,q⟩,Zp,Zp,Zp,Zp,Zp,Zt⟩⟩))))
 rintro rv st1 ⟨h,hr,hst⟩
 subst hk232
 dsimp only at h
 exact WL.cast 60 q hr (WL.weak hst (WL.nil (Rxx 1 q (we_rend hrd226 q (.inr (⟨h,q,⟨Zp,Zp,Zp,Zp,⟨q,Zs _,q,q⟩,Zp,Zp,Zp,Zp,Zp,Zt⟩⟩))))))
 rintro rv st1 (⟨h,rfl,hst⟩ | ⟨h,rfl,hst⟩)
 subst hk227
 dsimp only at h
 exact WL.weak hst (Rl 1 q (Zn (wc_true q (Rcx 5 q (we_ret (res0 q) (.inr (.inr (.inr (.inl ⟨c21178,c22179,c23180,c24181,c25182,c26183,r168.1.name,r168.1.fields,((f179 x225).1),((f179 x225).2),((f179 x225).1),((f179 x225).2),h,⟨Zp,Zp,Zp,Zp,⟨q,Zs _,q,q⟩,Zp,Zp,Zp,Zp,Zp,Zt⟩⟩)))))))))
 subst hk228
 dsimp only at h
 exact WL.weak hst (Rl 1 q (Zn (wc_false q (Rcx 7 q (WE.drop 6 (env':=[(0,.yl 4),(1,.pt 3 0),(18,.l E9 r169),(19,.n (List.length r169 : Int)),(20,.n (IntKind.i64.wrap (t177 + 1)))]) (Sub.one q (Sub.one q (Sub.one q (Sub.one q (Sub.one q (Sub.nil _)))))) q q (Nat.le_trans (Nat.le_of_eq hm80) (Nat.le_of_ble_eq_true q)) (Fn7 h))))))
 refine Rcc 6 q (Ci h q (fun h => ?_) (fun h => ?_))
 refine Rcl 4 q ?_
 obtain ⟨k234,hk234,h⟩:=letkS h
 refine WL.inl (us:=[.pt 2 5]) (fun rv st' => (k234 () = some r ∧ Le rv (.ag [.fn (.func 212) [] [.pt 7 0],.fn (.func 213) [] [.pt 7 0],.n 0,.n 0]) ∧ SLe st' [.row 4 [.d (D.b false)],.row 224 [.d (D.s r68.1.name),.d (D.s r68.1.fields)],.row 45 [.d (D.i .u8 x0.op),.n c21178,.n c22179,.n c23180,.n c24181,.n c25182,.n c26183],.row 230 [.pt 2 0],.lp sl80 [.pt 0 0] .ready none,.row 224 [.d (D.s r168.1.name),.d (D.s r168.1.fields)],.row 233 [.d (.v .nilFunc),.d (.v .nilFunc),.n 0,.n 0],.row 128 [.pt 2 5],.row 233 [.fn (.func 212) [] [.pt 7 0],.fn (.func 213) [] [.pt 7 0],.n 0,.n 0]])) q q q q q ?_ (Zw q) q q ?_
 refine ctr_intro Tryz.func178 (by kernel_rfl) q q q (fun mm φφ ww hm233 => ?_)
 exact Rcl 2 q (Bx q q q (Al z233 q (Rll 6 q (Zq (y_build p233 z233 q q) q (WL.s0 (d_store q q q q q q s233 q q) (Zw q) q (Rlx 3 q (we_ret (rs1 q (rv_cN q q a233 s233 q)) ⟨h,Zl,⟨Zp,Zp,Zp,Zp,⟨q,Zs _,q,q⟩,Zp,Zp,Zp,Zp,Zt⟩⟩)))))))
 rintro rv st1 ⟨h,hr,hst⟩
 subst hk234
 dsimp only at h
 refine WL.cast 59 q hr (WL.weak hst (WL.s0 (d_store q q q q q q s233 q q) (Zw q) q (WL.nil (Rxl 5 q ?_))))
 obtain ⟨x235,hx235,h⟩:=bindS h
 refine Zq (y_sindex Tryz.underlying9 q q hx235) q (WL.fn q q q q (f179_c _) ⟨Zl,Zt⟩ (Zw q) q q (Rl 4 q (WL.s0 (d_store q q q q q q s2 q q) (Zw q) q (Rl 1 q (WL.s0 (d_store q q q q q q s2 q q) (Zw q) q (Rll 6 q ?_))))))
 obtain ⟨k237,hk237,h⟩:=letkS h
 obtain ⟨k238,hk238,h⟩:=letkS h
 refine WL.yield (env0:=[(44,.ag [.fn (.func 212) [] [.pt 7 0],.fn (.func 213) [] [.pt 7 0],.n ((f179 x235).1),.n ((f179 x235).2)]),(2,.pt 0 0)]) (fun rv st' => (k237 () = some r ∧ rv = .d (.v (.bool false)) ∧ SLe st' [.row 4 [.d (D.b false)],.row 224 [.d (D.s r68.1.name),.d (D.s r68.1.fields)],.row 45 [.d (D.i .u8 x0.op),.n c21178,.n c22179,.n c23180,.n c24181,.n c25182,.n c26183],.row 230 [.pt 2 0],.lp sl80 [.pt 0 0] .done (some .ret),.row 224 [.d (D.s r168.1.name),.d (D.s r168.1.fields)],.row 233 [.fn (.func 212) [] [.pt 7 0],.fn (.func 213) [] [.pt 7 0],.n ((f179 x235).1),.n ((f179 x235).2)],.row 128 [.pt 2 5],.row 233 [.fn (.func 212) [] [.pt 7 0],.fn (.func 213) [] [.pt 7 0],.n 0,.n 0],.row 233 [.fn (.func 212) [] [.pt 7 0],.fn (.func 213) [] [.pt 7 0],.n ((f179 x235).1),.n ((f179 x235).2)]]) ∨ (k238 () = some r ∧ rv = .d (.v (.bool true)) ∧ SLe st' [.row 4 [.d (D.b false)],.row 224 [.d (D.s r68.1.name),.d (D.s r68.1.fields)],.row 45 [.d (D.i .u8 x0.op),.n c21178,.n c22179,.n c23180,.n c24181,.n 0,.n c26183],.row 230 [.pt 2 0],.lp sl80 [.pt 0 0] .ready none,.row 224 [.d (D.s r168.1.name),.d (D.s r168.1.fields)],.row 233 [.fn (.func 212) [] [.pt 7 0],.fn (.func 213) [] [.pt 7 0],.n ((f179 x235).1),.n ((f179 x235).2)],.row 128 [.pt 2 5],.row 233 [.fn (.func 212) [] [.pt 7 0],.fn (.func 213) [] [.pt 7 0],.n 0,.n 0],.row 233 [.fn (.func 212) [] [.pt 7 0],.fn (.func 213) [] [.pt 7 0],.n ((f179 x235).1),.n ((f179 x235).2)]])) hsl80 q q q q q q q (fun ee hn hrd236 hm236 => ?_) (Zw q) q q ?_
 obtain ⟨em,eφ,ew,en,er⟩:=ee
 subst hn
 refine Rcl 1 q (Al z233 q (WL.s0 (d_store q q q q q q s233 q q) (Zw q) q (Rlx 1 q (we_asg hrd236 q (Rcl 6 q ?_)))))
 obtain ⟨k240,hk240,h⟩:=letkS h
 refine WL.inl (us:=[.pt 7 0]) (fun rv st' => (k240 () = some r ∧ Le rv (.n c25182) ∧ SLe st' [.row 4 [.d (D.b false)],.row 224 [.d (D.s r68.1.name),.d (D.s r68.1.fields)],.row 45 [.d (D.i .u8 x0.op),.n c21178,.n c22179,.n c23180,.n c24181,.n c25182,.n c26183],.row 230 [.pt 2 0],.lp sl80 [.pt 0 0] .busy none,.row 224 [.d (D.s r168.1.name),.d (D.s r168.1.fields)],.row 233 [.fn (.func 212) [] [.pt 7 0],.fn (.func 213) [] [.pt 7 0],.n ((f179 x235).1),.n ((f179 x235).2)],.row 128 [.pt 2 5],.row 233 [.fn (.func 212) [] [.pt 7 0],.fn (.func 213) [] [.pt 7 0],.n 0,.n 0],.row 233 [.fn (.func 212) [] [.pt 7 0],.fn (.func 213) [] [.pt 7 0],.n ((f179 x235).1),.n ((f179 x235).2)]])) q q q q q ?_ (Zw q) q q ?_
 refine ctr_intro Tryz.func212 (by kernel_rfl) q q q (fun mm φφ ww hm239 => ?_)
 exact Rcx 14 q (we_ret (rs1 q (rv_t q)) ⟨h,Zl,⟨Zp,Zp,Zp,Zp,⟨q,Zs _,q,q⟩,Zp,Zp,Zp,Zp,Zp,Zt⟩⟩)
 rintro rv st1 ⟨h,hr,hst⟩
 subst hk240
 dsimp only at h
 refine WL.cast 47 q hr (WL.weak hst (Rl 1 q (Zn (Rcl 7 q ?_))))
 apply WL.or 5 (t:=52) (d:=57)
 exact q
 intro hg52
 exact Rl 5 q (WL.nil ⟨q,[_,_,_,_,_],q,q,q⟩)
 exact Rl 5 q (WL.nil ⟨q,[_,_,_,_,_],q,q,q⟩)
 refine Rlc 2 q (Ci h q (fun h => ?_) (fun h => ?_))
 exact Rcl 2 q (WL.s0 (d_store q q q q q q s4 q q) (Zw q) q (Rlx 5 q (we_rend_ret hrd236 q (.inl ⟨h,q,⟨Zp,Zp,Zp,Zp,⟨q,Zs _,q,q⟩,Zp,Zp,Zp,Zp,Zp,Zt⟩⟩))))
 refine Rcl 5 q ?_
 obtain ⟨k242,hk242,h⟩:=letkS h
 refine WL.inl (us:=[.n 0,.pt 7 0]) (fun rv st' => (k242 () = some r ∧ Le rv (.tu []) ∧ SLe st' [.row 4 [.d (D.b false)],.row 224 [.d (D.s r68.1.name),.d (D.s r68.1.fields)],.row 45 [.d (D.i .u8 x0.op),.n c21178,.n c22179,.n c23180,.n c24181,.n 0,.n c26183],.row 230 [.pt 2 0],.lp sl80 [.pt 0 0] .busy none,.row 224 [.d (D.s r168.1.name),.d (D.s r168.1.fields)],.row 233 [.fn (.func 212) [] [.pt 7 0],.fn (.func 213) [] [.pt 7 0],.n ((f179 x235).1),.n ((f179 x235).2)],.row 128 [.pt 2 5],.row 233 [.fn (.func 212) [] [.pt 7 0],.fn (.func 213) [] [.pt 7 0],.n 0,.n 0],.row 233 [.fn (.func 212) [] [.pt 7 0],.fn (.func 213) [] [.pt 7 0],.n ((f179 x235).1),.n ((f179 x235).2)]])) q q q q q ?_ (Zw q) q q ?_
 refine ctr_intro Tryz.func213 (by kernel_rfl) q q q (fun mm φφ ww hm241 => ?_)
 exact Rcl 4 q (WL.s0 (d_store q q q q q q s2 q q) (Zw q) q (Rlx 1 q (we_end (we_ret (res0 q) ⟨h,Zl,⟨Zp,Zp,Zp,Zp,⟨q,Zs _,q,q⟩,Zp,Zp,Zp,Zp,Zp,Zt⟩⟩))))
 rintro rv st1 ⟨h,hr,hst⟩
 subst hk242
 dsimp only at h
 exact WL.cast 60 q hr (WL.weak hst (WL.nil (Rxx 1 q (we_rend hrd236 q (.inr (⟨h,q,⟨Zp,Zp,Zp,Zp,⟨q,Zs _,q,q⟩,Zp,Zp,Zp,Zp,Zp,Zt⟩⟩))))))
 rintro rv st1 (⟨h,rfl,hst⟩ | ⟨h,rfl,hst⟩)
 subst hk237
 dsimp only at h
 exact WL.weak hst (Rl 1 q (Zn (wc_true q (Rcx 5 q (we_ret (res0 q) (.inr (.inr (.inr (.inr (.inl ⟨c21178,c22179,c23180,c24181,c25182,c26183,r168.1.name,r168.1.fields,((f179 x235).1),((f179 x235).2),((f179 x235).1),((f179 x235).2),h,⟨Zp,Zp,Zp,Zp,⟨q,Zs _,q,q⟩,Zp,Zp,Zp,Zp,Zp,Zt⟩⟩))))))))))
 subst hk238
 dsimp only at h
 exact WL.weak hst (Rl 1 q (Zn (wc_false q (Rcx 7 q (WE.drop 6 (env':=[(0,.yl 4),(1,.pt 3 0),(18,.l E9 r169),(19,.n (List.length r169 : Int)),(20,.n (IntKind.i64.wrap (t177 + 1)))]) (Sub.one q (Sub.one q (Sub.one q (Sub.one q (Sub.one q (Sub.nil _)))))) q q (Nat.le_trans (Nat.le_of_eq hm80) (Nat.le_of_ble_eq_true q)) (Fn7 h))))))
 refine Rcl 4 q ?_
 obtain ⟨k244,hk244,h⟩:=letkS h
 refine WL.inl (us:=[.pt 2 6]) (fun rv st' => (k244 () = some r ∧ Le rv (.ag [.fn (.func 210) [] [.pt 7 0],.fn (.func 211) [] [.pt 7 0],.n 0,.n 0]) ∧ SLe st' [.row 4 [.d (D.b false)],.row 224 [.d (D.s r68.1.name),.d (D.s r68.1.fields)],.row 45 [.d (D.i .u8 x0.op),.n c21178,.n c22179,.n c23180,.n c24181,.n c25182,.n c26183],.row 230 [.pt 2 0],.lp sl80 [.pt 0 0] .ready none,.row 224 [.d (D.s r168.1.name),.d (D.s r168.1.fields)],.row 233 [.d (.v .nilFunc),.d (.v .nilFunc),.n 0,.n 0],.row 264 [.pt 2 6],.row 233 [.fn (.func 210) [] [.pt 7 0],.fn (.func 211) [] [.pt 7 0],.n 0,.n 0]])) q q q q q ?_ (Zw q) q q ?_
 refine ctr_intro Tryz.func177 (by kernel_rfl) q q q (fun mm φφ ww hm243 => ?_)
 exact Rcl 2 q (Bx q q q (Al z233 q (Rll 6 q (Zq (y_build p233 z233 q q) q (WL.s0 (d_store q q q q q q s233 q q) (Zw q) q (Rlx 3 q (we_ret (rs1 q (rv_cN q q a233 s233 q)) ⟨h,Zl,⟨Zp,Zp,Zp,Zp,⟨q,Zs _,q,q⟩,Zp,Zp,Zp,Zp,Zt⟩⟩)))))))
 rintro rv st1 ⟨h,hr,hst⟩
 subst hk244
 dsimp only at h
 refine WL.cast 29 q hr (WL.weak hst (WL.s0 (d_store q q q q q q s233 q q) (Zw q) q (WL.nil (Rxl 5 q ?_))))
 obtain ⟨x245,hx245,h⟩:=bindS h
 refine Zq (y_sindex Tryz.underlying9 q q hx245) q (WL.fn q q q q (f179_c _) ⟨Zl,Zt⟩ (Zw q) q q (Rl 4 q (WL.s0 (d_store q q q q q q s2 q q) (Zw q) q (Rl 1 q (WL.s0 (d_store q q q q q q s2 q q) (Zw q) q (Rll 6 q ?_))))))
 obtain ⟨k247,hk247,h⟩:=letkS h
 obtain ⟨k248,hk248,h⟩:=letkS h
 refine WL.yield (env0:=[(44,.ag [.fn (.func 210) [] [.pt 7 0],.fn (.func 211) [] [.pt 7 0],.n ((f179 x245).1),.n ((f179 x245).2)]),(2,.pt 0 0)]) (fun rv st' => (k247 () = some r ∧ rv = .d (.v (.bool false)) ∧ SLe st' [.row 4 [.d (D.b false)],.row 224 [.d (D.s r68.1.name),.d (D.s r68.1.fields)],.row 45 [.d (D.i .u8 x0.op),.n c21178,.n c22179,.n c23180,.n c24181,.n c25182,.n c26183],.row 230 [.pt 2 0],.lp sl80 [.pt 0 0] .done (some .ret),.row 224 [.d (D.s r168.1.name),.d (D.s r168.1.fields)],.row 233 [.fn (.func 210) [] [.pt 7 0],.fn (.func 211) [] [.pt 7 0],.n ((f179 x245).1),.n ((f179 x245).2)],.row 264 [.pt 2 6],.row 233 [.fn (.func 210) [] [.pt 7 0],.fn (.func 211) [] [.pt 7 0],.n 0,.n 0],.row 233 [.fn (.func 210) [] [.pt 7 0],.fn (.func 211) [] [.pt 7 0],.n ((f179 x245).1),.n ((f179 x245).2)]]) ∨ (k248 () = some r ∧ rv = .d (.v (.bool true)) ∧ SLe st' [.row 4 [.d (D.b false)],.row 224 [.d (D.s r68.1.name),.d (D.s r68.1.fields)],.row 45 [.d (D.i .u8 x0.op),.n c21178,.n c22179,.n c23180,.n c24181,.n c25182,.n 0],.row 230 [.pt 2 0],.lp sl80 [.pt 0 0] .ready none,.row 224 [.d (D.s r168.1.name),.d (D.s r168.1.fields)],.row 233 [.fn (.func 210) [] [.pt 7 0],.fn (.func 211) [] [.pt 7 0],.n ((f179 x245).1),.n ((f179 x245).2)],.row 264 [.pt 2 6],.row 233 [.fn (.func 210) [] [.pt 7 0],.fn (.func 211) [] [.pt 7 0],.n 0,.n 0],.row 233 [.fn (.func 210) [] [.pt 7 0],.fn (.func 211) [] [.pt 7 0],.n ((f179 x245).1),.n ((f179 x245).2)]])) hsl80 q q q q q q q (fun ee hn hrd246 hm246 => ?_) (Zw q) q q ?_
 obtain ⟨em,eφ,ew,en,er⟩:=ee
 subst hn
 refine Rcl 1 q (Al z233 q (WL.s0 (d_store q q q q q q s233 q q) (Zw q) q (Rlx 1 q (we_asg hrd246 q (Rcl 6 q ?_)))))
 obtain ⟨k250,hk250,h⟩:=letkS h
 refine WL.inl (us:=[.pt 7 0]) (fun rv st' => (k250 () = some r ∧ Le rv (.n c26183) ∧ SLe st' [.row 4 [.d (D.b false)],.row 224 [.d (D.s r68.1.name),.d (D.s r68.1.fields)],.row 45 [.d (D.i .u8 x0.op),.n c21178,.n c22179,.n c23180,.n c24181,.n c25182,.n c26183],.row 230 [.pt 2 0],.lp sl80 [.pt 0 0] .busy none,.row 224 [.d (D.s r168.1.name),.d (D.s r168.1.fields)],.row 233 [.fn (.func 210) [] [.pt 7 0],.fn (.func 211) [] [.pt 7 0],.n ((f179 x245).1),.n ((f179 x245).2)],.row 264 [.pt 2 6],.row 233 [.fn (.func 210) [] [.pt 7 0],.fn (.func 211) [] [.pt 7 0],.n 0,.n 0],.row 233 [.fn (.func 210) [] [.pt 7 0],.fn (.func 211) [] [.pt 7 0],.n ((f179 x245).1),.n ((f179 x245).2)]])) q q q q q ?_ (Zw q) q q ?_
 refine ctr_intro Tryz.func210 (by kernel_rfl) q q q (fun mm φφ ww hm249 => ?_)
 exact Rcx 14 q (we_ret (rs1 q (rv_t q)) ⟨h,Zl,⟨Zp,Zp,Zp,Zp,⟨q,Zs _,q,q⟩,Zp,Zp,Zp,Zp,Zp,Zt⟩⟩)
 rintro rv st1 ⟨h,hr,hst⟩
 subst hk250
 dsimp only at h
 refine WL.cast 47 q hr (WL.weak hst (Rl 1 q (Zn (Rcl 7 q ?_))))
 apply WL.or 5 (t:=52) (d:=57)
 exact q
 intro hg52
 exact Rl 5 q (WL.nil ⟨q,[_,_,_,_,_],q,q,q⟩)
 exact Rl 5 q (WL.nil ⟨q,[_,_,_,_,_],q,q,q⟩)
 refine Rlc 2 q (Ci h q (fun h => ?_) (fun h => ?_))
 exact Rcl 2 q (WL.s0 (d_store q q q q q q s4 q q) (Zw q) q (Rlx 5 q (we_rend_ret hrd246 q (.inl ⟨h,q,⟨Zp,Zp,Zp,Zp,⟨q,Zs _,q,q⟩,Zp,Zp,Zp,Zp,Zp,Zt⟩⟩))))
 refine Rcl 5 q ?_
 obtain ⟨k252,hk252,h⟩:=letkS h
 refine WL.inl (us:=[.n 0,.pt 7 0]) (fun rv st' => (k252 () = some r ∧ Le rv (.tu []) ∧ SLe st' [.row 4 [.d (D.b false)],.row 224 [.d (D.s r68.1.name),.d (D.s r68.1.fields)],.row 45 [.d (D.i .u8 x0.op),.n c21178,.n c22179,.n c23180,.n c24181,.n c25182,.n 0],.row 230 [.pt 2 0],.lp sl80 [.pt 0 0] .busy none,.row 224 [.d (D.s r168.1.name),.d (D.s r168.1.fields)],.row 233 [.fn (.func 210) [] [.pt 7 0],.fn (.func 211) [] [.pt 7 0],.n ((f179 x245).1),.n ((f179 x245).2)],.row 264 [.pt 2 6],.row 233 [.fn (.func 210) [] [.pt 7 0],.fn (.func 211) [] [.pt 7 0],.n 0,.n 0],.row 233 [.fn (.func 210) [] [.pt 7 0],.fn (.func 211) [] [.pt 7 0],.n ((f179 x245).1),.n ((f179 x245).2)]])) q q q q q ?_ (Zw q) q q ?_
 refine ctr_intro Tryz.func211 (by kernel_rfl) q q q (fun mm φφ ww hm251 => ?_)
 exact Rcl 4 q (WL.s0 (d_store q q q q q q s3 q q) (Zw q) q (Rlx 1 q (we_end (we_ret (res0 q) ⟨h,Zl,⟨Zp,Zp,Zp,Zp,⟨q,Zs _,q,q⟩,Zp,Zp,Zp,Zp,Zp,Zt⟩⟩))))
 rintro rv st1 ⟨h,hr,hst⟩
 subst hk252
 dsimp only at h
 exact WL.cast 60 q hr (WL.weak hst (WL.nil (Rxx 1 q (we_rend hrd246 q (.inr (⟨h,q,⟨Zp,Zp,Zp,Zp,⟨q,Zs _,q,q⟩,Zp,Zp,Zp,Zp,Zp,Zt⟩⟩))))))
 rintro rv st1 (⟨h,rfl,hst⟩ | ⟨h,rfl,hst⟩)
 subst hk247
 dsimp only at h
 exact WL.weak hst (Rl 1 q (Zn (wc_true q (Rcx 5 q (we_ret (res0 q) (.inr (.inr (.inr (.inr (.inr (.inl ⟨c21178,c22179,c23180,c24181,c25182,c26183,r168.1.name,r168.1.fields,((f179 x245).1),((f179 x245).2),((f179 x245).1),((f179 x245).2),h,⟨Zp,Zp,Zp,Zp,⟨q,Zs _,q,q⟩,Zp,Zp,Zp,Zp,Zp,Zt⟩⟩)))))))))))
 subst hk248
 dsimp only at h
 exact WL.weak hst (Rl 1 q (Zn (wc_false q (Rcx 7 q (WE.drop 6 (env':=[(0,.yl 4),(1,.pt 3 0),(18,.l E9 r169),(19,.n (List.length r169 : Int)),(20,.n (IntKind.i64.wrap (t177 + 1)))]) (Sub.one q (Sub.one q (Sub.one q (Sub.one q (Sub.one q (Sub.nil _)))))) q q (Nat.le_trans (Nat.le_of_eq hm80) (Nat.le_of_ble_eq_true q)) (Fn7 h))))))
 exact Rcx 4 q (we_end (we_ret (res0 q) (.inr (.inr (.inr (.inr (.inr (.inr (⟨c21178,c22179,c23180,c24181,c25182,c26183,r168.1.name,r168.1.fields,h,⟨Zp,Zp,Zp,Zp,⟨q,Zs _,q,q⟩,Zp,Zt⟩⟩)))))))))
 rintro sl80 rv st1 (⟨c2181,c2282,c2383,c2484,c2585,c2686,c5087,c5188,c6289,c6390,c9291,c9392,h,hst⟩ | ⟨c2194,c2295,c2396,c2497,c2598,c2699,c50100,c51101,c62102,c63103,c92104,c93105,h,hst⟩ | ⟨c21107,c22108,c23109,c24110,c25111,c26112,c50113,c51114,c62115,c63116,c92117,c93118,h,hst⟩ | ⟨c21120,c22121,c23122,c24123,c25124,c26125,c50126,c51127,c62128,c63129,c92130,c93131,h,hst⟩ | ⟨c21133,c22134,c23135,c24136,c25137,c26138,c50139,c51140,c62141,c63142,c92143,c93144,h,hst⟩ | ⟨c21146,c22147,c23148,c24149,c25150,c26151,c50152,c51153,c62154,c63155,c92156,c93157,h,hst⟩ | ⟨c21159,c22160,c23161,c24162,c25163,c26164,c50165,c51166,h,hst⟩)
 subst hk93
 dsimp only at h
 refine ⟨_,_,_,_,_,hst,q,(by intro h; cases h),?_⟩
 refine Rxx 2 q ?_
 obtain rfl:=Oi h
 exact we_ret_fn (rs1 q (rv_c q q a4 q)) Zl
 subst hk106
 dsimp only at h
 refine ⟨_,_,_,_,_,hst,q,(by intro h; cases h),?_⟩
 refine Rxx 2 q ?_
 obtain rfl:=Oi h
 exact we_ret_fn (rs1 q (rv_c q q a4 q)) Zl
 subst hk119
 dsimp only at h
 refine ⟨_,_,_,_,_,hst,q,(by intro h; cases h),?_⟩
 refine Rxx 2 q ?_
 obtain rfl:=Oi h
 exact we_ret_fn (rs1 q (rv_c q q a4 q)) Zl
 subst hk132
 dsimp only at h
 refine ⟨_,_,_,_,_,hst,q,(by intro h; cases h),?_⟩
 refine Rxx 2 q ?_
 obtain rfl:=Oi h
 exact we_ret_fn (rs1 q (rv_c q q a4 q)) Zl
 subst hk145
 dsimp only at h
 refine ⟨_,_,_,_,_,hst,q,(by intro h; cases h),?_⟩
 refine Rxx 2 q ?_
 obtain rfl:=Oi h
 exact we_ret_fn (rs1 q (rv_c q q a4 q)) Zl
 subst hk158
 dsimp only at h
 refine ⟨_,_,_,_,_,hst,q,(by intro h; cases h),?_⟩
 refine Rxx 2 q ?_
 obtain rfl:=Oi h
 exact we_ret_fn (rs1 q (rv_c q q a4 q)) Zl
 subst hk167
 dsimp only at h
 refine ⟨_,_,_,_,_,hst,q,(by intro h; cases h),?_⟩
 exact Rxx 1 q (En8 h)
 refine Rcl 5 q (Zq (y_build p45 z45 q q) q (Zq (y_eqst (xs:=[.int .u8 x0.op,.int .i64 c2169,.int .i64 c2270,.int .i64 c2371,.int .i64 c2472,.int .i64 c2573,.int .i64 c2674]) (ys:=[.int .u8 x0.op,.int .i64 0,.int .i64 0,.int .i64 0,.int .i64 0,.int .i64 0,.int .i64 0]) q45 q (Le.agd (Zs _)) q (Le.agd (Zs _)) q q q) q (WL.s0 (d_store q q q q q q s4 q q) (Zw q) q (Rlx 3 q ?_))))
 obtain rfl:=Oi h
 exact we_ret_fn (rs1 q (rv_c q q a4 q)) Zl

theorem f125_c (y0 : Insn) : Pu Tryz.prog 125 [.ag (R45 y0)] (.b (f125 y0)):=by
 generalize h : f125 y0 = r
 unfold f125 at h
 refine fn_intro Tryz.func125 (by kernel_rfl) q q q (fun φφ ww => ?_)
 exact Rcl 2 q (Bd q q (Zs _) q (Rlx 12 q (FB h)))

theorem f126_c (t0 : View) (task1 : Int) (n2 : Int) {r : Int × Bool} (h : f126 t0 task1 n2 = some r) : Pu Tryz.prog 126 [.ag (R135 t0),.i .i64 task1,.i .i64 n2] (.tu [.i .i64 r.1,.b r.2]):=by
 unfold f126 at h
 refine fn_intro Tryz.func126 (by kernel_rfl) q q q (fun φφ ww => ?_)
 refine Rcl 2 q (Bd q q (Zs _) q (Rll 10 q ?_))
 apply WL.or 7 (t:=11) (d:=18)
 exact q
 intro hg11
 exact Rl 4 q (Zy (y_len_map E27 t0.text.tasks e28 q q Zl) q q q (Rl 2 q (WL.nil ⟨q,[_,_,_,_,_,_,_],q,q,q⟩)))
 exact Rl 7 q (WL.nil ⟨q,[_,_,_,_,_,_,_],q,q,q⟩)
 refine Rl 1 q ?_
 apply WL.or 3 (t:=19) (d:=22)
 exact q
 intro hg19
 exact Rl 3 q (WL.nil ⟨q,[_,_,_],q,q,q⟩)
 exact Rl 3 q (WL.nil ⟨q,[_,_,_],q,q,q⟩)
 refine Rl 1 q ?_
 obtain ⟨b57,hb57,h⟩:=bindS h
 apply WL.grp 11 (t:=23) (d:=34) (z:=b57)
 exact q
 intro hg23
 have h:=condT hb57 hg23
 refine Rl 11 q ?_
 obtain rfl:=Oi h
 exact WL.nil ⟨q,[_,_,_,_,_,_,_,_,_,_,_],q,q,q⟩
 intro hg23
 have h:=condF hb57 hg23
 refine Rl 5 q ?_
 obtain ⟨x58,hx58,h⟩:=bindS h
 refine Zy (y_indexAddr e28 q Zl q (idx_nonneg hx58) (idx_row E27_eq hx58) q) q q q (Rl 2 q (Zy (y_len_map E173 x58.entries e25 q q Zl) q q q (Rl 2 q ?_)))
 obtain rfl:=Oi h
 exact WL.nil ⟨q,[_,_,_,_,_,_,_,_,_,_,_],q,q,q⟩
 refine Rlc 2 q (Ci h q (fun h => ?_) (fun h => ?_))
 exact Rcx 8 q (FA h)
 exact Rcl 8 q (Ix h e28 E27_eq q Zl q q fun x59 _ h => (Rl 3 q (Ix h e25 E173_eq q Zl q q fun x60 _ h => (Rl 1 q (Al z173 q (WL.s0 (d_store q q q q q q s173 q q) (Zw q) q (Rll 6 q (Zq (y_len_map E3 x60.ins e96 q q Zl) q (Rl 2 q (Zq (y_len_map E3 x60.outs e96 q q Zl) q (Rlx 7 q (FA h))))))))))))

theorem f127_c (t0 : View) (p1 : Int) (n2 : Int) {r : Bool} (h : f127 t0 p1 n2 = some r) : Pu Tryz.prog 127 [.ag (R135 t0),.i .i64 p1,.i .i64 n2] (.b r):=by
 unfold f127 at h
 refine fn_intro Tryz.func127 (by kernel_rfl) q q q (fun φφ ww => ?_)
 refine Rcl 2 q (Bd q q (Zs _) q (Rll 8 q ?_))
 apply WL.and 7 (t:=9) (d:=16)
 exact q
 intro hg9
 exact Rl 4 q (Zy (y_len_map E164 t0.text.prots e35 q q Zl) q q q (Rl 2 q (WL.nil ⟨q,[_,_,_,_,_,_,_],q,q,q⟩)))
 exact Rl 7 q (WL.nil ⟨q,[_,_,_,_,_,_,_],q,q,q⟩)
 refine Rl 1 q ?_
 apply WL.and 3 (t:=17) (d:=20)
 exact q
 intro hg17
 exact Rl 3 q (WL.nil ⟨q,[_,_,_],q,q,q⟩)
 exact Rl 3 q (WL.nil ⟨q,[_,_,_],q,q,q⟩)
 refine Rl 1 q ?_
 obtain ⟨b37,hb37,h⟩:=bindS h
 apply WL.grp 11 (t:=21) (d:=32) (z:=b37)
 exact q
 intro hg21
 have h:=condT hb37 hg21
 refine Rl 5 q ?_
 obtain ⟨x38,hx38,h⟩:=bindS h
 refine Zy (y_indexAddr e35 q Zl q (idx_nonneg hx38) (idx_row E164_eq hx38) q) q q q (Rl 2 q (Zy (y_len_map E179 x38.barriers e162 q q Zl) q q q (Rl 2 q ?_)))
 obtain rfl:=Oi h
 exact WL.nil ⟨q,[_,_,_,_,_,_,_,_,_,_,_],q,q,q⟩
 intro hg21
 have h:=condF hb37 hg21
 refine Rl 11 q ?_
 obtain rfl:=Oi h
 exact WL.nil ⟨q,[_,_,_,_,_,_,_,_,_,_,_],q,q,q⟩
 exact Rlx 4 q (FA h)

theorem f78_c (t0 : View) (x1 : Insn) {r : Bool} (h : f78 t0 x1 = some r) : Pu Tryz.prog 78 [.ag (R135 t0),.ag (R45 x1)] (.b r):=by
 unfold f78 at h
 refine fn_intro Tryz.func78 (by kernel_rfl) q q q (fun φφ ww => ?_)
 refine Rcl 2 q (Bd q q (Zs _) q (Bd q q (Zs _) q (Rll 7 q ?_)))
 obtain ⟨r170,hr170,h⟩:=bindS h
 refine WL.fn q q q q (f124_c _ hr170) ⟨Zl,Zt⟩ (Zw q) q q (Rlc 3 q (Ci h q (fun h => ?_) (fun h => ?_)))
 exact Rcx 7 q (FA h)
 refine Rcc 10 q (Jn1 (fun t171 => [(2,.d (.pc (R135 t0))),(3,.d (.pc (R45 x1))),(14,.d (D.i .u8 x1.op)),(15,.d (D.b t171))]) (fun _ => []) h (fun _ h => ?_) (fun t171 h => ?_))
 refine Rcc 6 q (Ci h q (fun h => ?_) (fun h => ?_))
 exact Rcx 1 q (En1 h)
 exact Rcx 4 q (En1 h)
 refine Ci h q (fun h => ?_) (fun h => ?_)
 refine Rcl 7 q ?_
 obtain ⟨r173,hr173,h⟩:=bindS h
 exact WL.fn q q q q (f111_c _ _ _ _ hr173) ⟨Zl,Zl,Zl,Zl,Zt⟩ (Zw q) q q (Rlx 6 q (FA h))
 refine Jn1 (fun t174 => [(2,.d (.pc (R135 t0))),(3,.d (.pc (R45 x1))),(14,.d (D.i .u8 x1.op)),(24,.d (D.b t174))]) (fun _ => []) h (fun _ h => ?_) (fun t174 h => ?_)
 refine Rcc 6 q (Ci h q (fun h => ?_) (fun h => ?_))
 exact Rcx 1 q (En1 h)
 exact Rcx 4 q (En1 h)
 refine Ci h q (fun h => ?_) (fun h => ?_)
 refine Rcl 9 q ?_
 obtain ⟨r176,hr176,h⟩:=bindS h
 exact WL.fn q q q q (f111_c _ _ _ _ hr176) ⟨Zl,Zl,Zl,Zl,Zt⟩ (Zw q) q q (Rlx 6 q (FA h))
 refine Jn1 (fun t177 => [(2,.d (.pc (R135 t0))),(3,.d (.pc (R45 x1))),(14,.d (D.i .u8 x1.op)),(35,.d (D.b t177))]) (fun _ => []) h (fun _ h => ?_) (fun t177 h => ?_)
 refine Rcc 6 q (Ci h q (fun h => ?_) (fun h => ?_))
 exact Rcx 1 q (En1 h)
 refine Rcc 6 q (Ci h q (fun h => ?_) (fun h => ?_))
 exact Rcx 1 q (En1 h)
 exact Rcx 4 q (En1 h)
 refine Ci h q (fun h => ?_) (fun h => ?_)
 exact Rcl 5 q (WL.fn q q q q (f112_c _ _) ⟨Zl,Zl,Zt⟩ (Zw q) q q (Rlx 6 q (FA h)))
 refine Rcc 6 q (Ci h q (fun h => ?_) (fun h => ?_))
 refine Rcl 16 q (Zq (y_len_map E45 t0.text.insns e23 q q Zl) q (Rl 2 q ?_))
 obtain ⟨b179,hb179,h⟩:=bindS h
 apply WL.grp 10 (t:=56) (d:=66) (z:=b179)
 exact q
 intro hg56
 have h:=condT hb179 hg56
 refine Rl 6 q ?_
 replace h:=guardBS h
 obtain ⟨hgg180,h⟩:=h
 refine Zy (y_sliceL E45 t0.text.insns (l:=x1.to) (h:=(IntKind.i64.wrap (x1.to + x1.m))) e23 q Zl ⟨_,q⟩ ⟨_,q⟩ hgg180 (fun _ => q)) q q q ?_
 obtain ⟨r181,hr181,h⟩:=bindS h
 refine WL.fn q q q q (f76_c _ _ 125 [] [] (fun z0 _ h => by obtain rfl:=Option.some.inj h; exact f125_c z0) hr181) ⟨Zl,(Le.fnc Zt Zt),Zt⟩ (Wt.yes q q q) q q (Rl 2 q ?_)
 obtain rfl:=Oi h
 exact WL.nil ⟨q,[_,_,_,_,_,_,_,_,_,_],q,q,q⟩
 intro hg56
 have h:=condF hb179 hg56
 refine Rl 10 q ?_
 obtain rfl:=Oi h
 exact WL.nil ⟨q,[_,_,_,_,_,_,_,_,_,_],q,q,q⟩
 exact Rlx 6 q (FA h)
 refine Rcc 6 q (Ci h q (fun h => ?_) (fun h => ?_))
 exact Rcx 14 q (FA h)
 refine Jn1 (fun t182 => [(2,.d (.pc (R135 t0))),(3,.d (.pc (R45 x1))),(14,.d (D.i .u8 x1.op)),(75,.d (D.b t182))]) (fun _ => []) h (fun _ h => ?_) (fun t182 h => ?_)
 refine Rcc 6 q (Ci h q (fun h => ?_) (fun h => ?_))
 exact Rcx 1 q (En1 h)
 refine Rcc 6 q (Ci h q (fun h => ?_) (fun h => ?_))
 exact Rcx 1 q (En1 h)
 refine Rcc 6 q (Ci h q (fun h => ?_) (fun h => ?_))
 exact Rcx 1 q (En1 h)
 exact Rcx 4 q (En1 h)
 refine Ci h q (fun h => ?_) (fun h => ?_)
 exact Rcl 7 q (Zq (y_len_map E96 t0.text.lists e32 q q Zl) q (Rlx 7 q (FA h)))
 refine Rcc 6 q (Ci h q (fun h => ?_) (fun h => ?_))
 exact Rcl 7 q (Zq (y_len_map E155 t0.text.selects e31 q q Zl) q (Rlx 7 q (FA h)))
 refine Rcc 6 q (Ci h q (fun h => ?_) (fun h => ?_))
 refine Rcl 7 q ?_
 obtain ⟨r184,hr184,h⟩:=bindS h
 refine WL.fn q q q q (f126_c _ _ _ hr184) ⟨Zl,Zl,Zl,Zt⟩ (Zw q) q q (Rll 11 q ?_)
 obtain ⟨b185,hb185,h⟩:=bindS h
 apply WL.grp 6 (t:=108) (d:=114) (z:=b185)
 exact q
 intro hg108
 have h:=condT hb185 hg108
 refine Rl 4 q ?_
 obtain ⟨r186,hr186,h⟩:=bindS h
 refine WL.fn q q q q (f111_c _ _ _ _ hr186) ⟨Zl,Zl,Zl,Zl,Zt⟩ (Wt.yes q q q) q q (Rl 1 q ?_)
 obtain rfl:=Oi h
 exact WL.nil ⟨q,[_,_,_,_,_,_],q,q,q⟩
 intro hg108
 have h:=condF hb185 hg108
 refine Rl 6 q ?_
 obtain rfl:=Oi h
 exact WL.nil ⟨q,[_,_,_,_,_,_],q,q,q⟩
 exact Rlx 6 q (FA h)
 refine Rcc 6 q (Ci h q (fun h => ?_) (fun h => ?_))
 refine Rcl 7 q ?_
 obtain ⟨r187,hr187,h⟩:=bindS h
 refine WL.fn q q q q (f126_c _ _ _ hr187) ⟨Zl,Zl,Zl,Zt⟩ (Zw q) q q (Rll 11 q ?_)
 apply WL.and 8 (t:=127) (d:=135)
 exact q
 intro hg127
 exact Rl 5 q (Zy (y_len_map E45 t0.text.insns e23 q q Zl) q q q (Rl 2 q (WL.nil ⟨q,[_,_,_,_,_,_,_,_],q,q,q⟩)))
 exact Rl 8 q (WL.nil ⟨q,[_,_,_,_,_,_,_,_],q,q,q⟩)
 exact Rlx 6 q (FA h)
 refine Jn1 (fun t188 => [(2,.d (.pc (R135 t0))),(3,.d (.pc (R45 x1))),(14,.d (D.i .u8 x1.op)),(136,.d (D.b t188))]) (fun _ => []) h (fun _ h => ?_) (fun t188 h => ?_)
 refine Rcc 6 q (Ci h q (fun h => ?_) (fun h => ?_))
 exact Rcx 1 q (En1 h)
 exact Rcx 4 q (En1 h)
 refine Ci h q (fun h => ?_) (fun h => ?_)
 exact Rcl 7 q (Zq (y_len_map E164 t0.text.prots e35 q q Zl) q (Rlx 7 q (FA h)))
 refine Rcc 6 q (Ci h q (fun h => ?_) (fun h => ?_))
 refine Rcl 7 q ?_
 obtain ⟨r190,hr190,h⟩:=bindS h
 exact WL.fn q q q q (f127_c _ _ _ hr190) ⟨Zl,Zl,Zl,Zt⟩ (Zw q) q q (Rlx 6 q (FA h))
 refine Rcc 6 q (Ci h q (fun h => ?_) (fun h => ?_))
 refine Rcl 6 q ?_
 obtain ⟨b191,hb191,h⟩:=bindS h
 apply WL.grp 7 (t:=159) (d:=166) (z:=b191)
 exact q
 intro hg159
 have h:=condT hb191 hg159
 refine Rl 7 q ?_
 obtain rfl:=Oi h
 exact WL.nil ⟨q,[_,_,_,_,_,_,_],q,q,q⟩
 intro hg159
 have h:=condF hb191 hg159
 refine Rl 5 q ?_
 obtain ⟨r192,hr192,h⟩:=bindS h
 refine WL.fn q q q q (f127_c _ _ _ hr192) ⟨Zl,Zl,Zl,Zt⟩ (Wt.yes q q q) q q (Rl 1 q ?_)
 obtain rfl:=Oi h
 exact WL.nil ⟨q,[_,_,_,_,_,_,_],q,q,q⟩
 exact Rlx 6 q (FA h)
 exact Rcx 9 q (FA h)

theorem f37_c (t0 : Text) {r : Bool} (h : f37 t0 = some r) : Pu Tryz.prog 37 [.ag (R38 t0)] (.b r):=by
 unfold f37 at h
 refine fn_intro Tryz.func37 (by kernel_rfl) q q q (fun φφ ww => ?_)
 refine Rcl 2 q (Bd q q (Zs _) q (Rll 6 q (Zq (y_build p135 z135 q q) q (Al z135 q (WL.s0 (d_store q q q q q q s135 q q) (Zw q) q (St q (Rll 7 q (Zq (y_len_map E45 t0.insns e23 q q Zl) q (Rl 2 q ?_)))))))))
 apply WL.or 5 (t:=12) (d:=17)
 exact q
 intro hg12
 exact Rl 2 q (Zy (y_len_map E45 t0.insns e23 q q Zl) q q q (Rl 2 q (WL.nil ⟨q,[_,_,_,_,_],q,q,q⟩)))
 exact Rl 5 q (WL.nil ⟨q,[_,_,_,_,_],q,q,q⟩)
 refine Rlc 2 q (Ci h q (fun h => ?_) (fun h => ?_))
 exact Rcx 7 q (FA h)
 refine Rcl 9 q (Zq (y_len_map E45 t0.insns e23 q q Zl) q (Rl 1 q (Ix h e23 E45_eq q Zl q q fun x65 _ h => (Rlc 5 q (Jn1 (fun t66 => [(1,.d (.pc (R38 t0))),(3,.pt 0 0),(27,.d (D.b t66))]) (fun _ => [.row 135 (txA t0)]) h (fun _ h => ?_) (fun t66 h => ?_))))))
 refine Rcc 6 q (Ci h q (fun h => ?_) (fun h => ?_))
 exact Rcx 1 q (En1 h)
 refine Rcc 6 q (Ci h q (fun h => ?_) (fun h => ?_))
 exact Rcx 1 q (En1 h)
 refine Rcc 6 q (Ci h q (fun h => ?_) (fun h => ?_))
 exact Rcx 1 q (En1 h)
 exact Rcx 4 q (En1 h)
 refine Ci h q (fun h => ?_) (fun h => ?_)
 refine Rcc 3 q (Jn0 [(1,.d (.pc (R38 t0))),(3,.pt 0 0)] [.row 135 (txA t0),.os 24 1 0 [[.fn (.func 68) [.ag (txA t0)] []],[.fn (.func 69) [.ag (txA t0)] []],[.fn (.func 70) [.ag (txA t0)] []],[.fn (.func 71) [.ag (txA t0)] []],[.fn (.func 72) [.ag (txA t0)] []],[.fn (.func 73) [.ag (txA t0)] []],[.fn (.func 74) [.ag (txA t0)] []],[.fn (.func 75) [.ag (txA t0)] []]]] h (fun _ h => ?_) (fun h => ?_))
 refine Rcl 18 q (WL.s ((NewOs.b (n_buildSlice l136 z24 q (by decide) (by decide) q q q (by decide))).does) (Zw q) q q (Zq (y_len_os e136 q q q) q (Rlc 4 q (wc_unroll 9 (Rcc 6 q (wc_true q (Rcl 6 q (Zq (y_indexAddr_os e136 q q q (by decide) (by show (0 : Int) < ((8 : Nat) : Int); decide)) q (Zq (y_load_pe q q a24 q) q (Rll 6 q ?_))))))))))
 obtain ⟨r69,hr69,h⟩:=bindS h
 refine WL.fn q q q q (f68_c _ hr69) ⟨(Le.agd (Zs _)),Zt⟩ (Zw q) q q (Rlc 3 q (Ci h q (fun h => ?_) (fun h => ?_)))
 exact Rcx 8 q (we_rl_ret (Rxx 2 q (FA h)))
 refine Rcl 4 q (Zq (y_add (c:=1) q q (by decide)) q (Rlx 2 q (we_rl (WC.sub (env':=[(1,.d (.pc (R38 t0))),(3,.pt 0 0),(48,.os 1 0),(49,.n 8),(50,.n 1)]) (Sub.one q (Sub.one q (Sub.one q (Sub.one q (Sub.one q (Sub.nil _)))))) (Rcc 6 q (wc_true q (Rcl 6 q (Zq (y_indexAddr_os e136 q q q (by decide) (by show (1 : Int) < ((8 : Nat) : Int); decide)) q (Zq (y_load_pe q q a24 q) q (Rll 6 q ?_))))))))))
 obtain ⟨r70,hr70,h⟩:=bindS h
 refine WL.fn q q q q (f69_c _ hr70) ⟨(Le.agd (Zs _)),Zt⟩ (Zw q) q q (Rlc 3 q (Ci h q (fun h => ?_) (fun h => ?_)))
 exact Rcx 8 q (we_rl_ret (Rxx 2 q (FA h)))
 refine Rcl 4 q (Zq (y_add (c:=2) q q (by decide)) q (Rlx 2 q (we_rl (WC.sub (env':=[(1,.d (.pc (R38 t0))),(3,.pt 0 0),(48,.os 1 0),(49,.n 8),(50,.n 2)]) (Sub.one q (Sub.one q (Sub.one q (Sub.one q (Sub.one q (Sub.nil _)))))) (Rcc 6 q (wc_true q (Rcl 6 q (Zq (y_indexAddr_os e136 q q q (by decide) (by show (2 : Int) < ((8 : Nat) : Int); decide)) q (Zq (y_load_pe q q a24 q) q (Rll 6 q ?_))))))))))
 obtain ⟨r71,hr71,h⟩:=bindS h
 refine WL.fn q q q q (f70_c _ hr71) ⟨(Le.agd (Zs _)),Zt⟩ (Zw q) q q (Rlc 3 q (Ci h q (fun h => ?_) (fun h => ?_)))
 exact Rcx 8 q (we_rl_ret (Rxx 2 q (FA h)))
 refine Rcl 4 q (Zq (y_add (c:=3) q q (by decide)) q (Rlx 2 q (we_rl (WC.sub (env':=[(1,.d (.pc (R38 t0))),(3,.pt 0 0),(48,.os 1 0),(49,.n 8),(50,.n 3)]) (Sub.one q (Sub.one q (Sub.one q (Sub.one q (Sub.one q (Sub.nil _)))))) (Rcc 6 q (wc_true q (Rcl 6 q (Zq (y_indexAddr_os e136 q q q (by decide) (by show (3 : Int) < ((8 : Nat) : Int); decide)) q (Zq (y_load_pe q q a24 q) q (Rll 6 q ?_))))))))))
 obtain ⟨r72,hr72,h⟩:=bindS h
 refine WL.fn q q q q (f71_c _ hr72) ⟨(Le.agd (Zs _)),Zt⟩ (Zw q) q q (Rlc 3 q (Ci h q (fun h => ?_) (fun h => ?_)))
 exact Rcx 8 q (we_rl_ret (Rxx 2 q (FA h)))
 refine Rcl 4 q (Zq (y_add (c:=4) q q (by decide)) q (Rlx 2 q (we_rl (WC.sub (env':=[(1,.d (.pc (R38 t0))),(3,.pt 0 0),(48,.os 1 0),(49,.n 8),(50,.n 4)]) (Sub.one q (Sub.one q (Sub.one q (Sub.one q (Sub.one q (Sub.nil _)))))) (Rcc 6 q (wc_true q (Rcl 6 q (Zq (y_indexAddr_os e136 q q q (by decide) (by show (4 : Int) < ((8 : Nat) : Int); decide)) q (Zq (y_load_pe q q a24 q) q (Rll 6 q ?_))))))))))
 obtain ⟨r73,hr73,h⟩:=bindS h
 refine WL.fn q q q q (f72_c _ hr73) ⟨(Le.agd (Zs _)),Zt⟩ (Zw q) q q (Rlc 3 q (Ci h q (fun h => ?_) (fun h => ?_)))
 exact Rcx 8 q (we_rl_ret (Rxx 2 q (FA h)))
 refine Rcl 4 q (Zq (y_add (c:=5) q q (by decide)) q (Rlx 2 q (we_rl (WC.sub (env':=[(1,.d (.pc (R38 t0))),(3,.pt 0 0),(48,.os 1 0),(49,.n 8),(50,.n 5)]) (Sub.one q (Sub.one q (Sub.one q (Sub.one q (Sub.one q (Sub.nil _)))))) (Rcc 6 q (wc_true q (Rcl 6 q (Zq (y_indexAddr_os e136 q q q (by decide) (by show (5 : Int) < ((8 : Nat) : Int); decide)) q (Zq (y_load_pe q q a24 q) q (Rll 6 q ?_))))))))))
 obtain ⟨r74,hr74,h⟩:=bindS h
 refine WL.fn q q q q (f73_c _ hr74) ⟨(Le.agd (Zs _)),Zt⟩ (Zw q) q q (Rlc 3 q (Ci h q (fun h => ?_) (fun h => ?_)))
 exact Rcx 8 q (we_rl_ret (Rxx 2 q (FA h)))
 refine Rcl 4 q (Zq (y_add (c:=6) q q (by decide)) q (Rlx 2 q (we_rl (WC.sub (env':=[(1,.d (.pc (R38 t0))),(3,.pt 0 0),(48,.os 1 0),(49,.n 8),(50,.n 6)]) (Sub.one q (Sub.one q (Sub.one q (Sub.one q (Sub.one q (Sub.nil _)))))) (Rcc 6 q (wc_true q (Rcl 6 q (Zq (y_indexAddr_os e136 q q q (by decide) (by show (6 : Int) < ((8 : Nat) : Int); decide)) q (Zq (y_load_pe q q a24 q) q (Rll 6 q ?_))))))))))
 obtain ⟨r75,hr75,h⟩:=bindS h
 refine WL.fn q q q q (f74_c _ hr75) ⟨(Le.agd (Zs _)),Zt⟩ (Zw q) q q (Rlc 3 q (Ci h q (fun h => ?_) (fun h => ?_)))
 exact Rcx 8 q (we_rl_ret (Rxx 2 q (FA h)))
 refine Rcl 4 q (Zq (y_add (c:=7) q q (by decide)) q (Rlx 2 q (we_rl (WC.sub (env':=[(1,.d (.pc (R38 t0))),(3,.pt 0 0),(48,.os 1 0),(49,.n 8),(50,.n 7)]) (Sub.one q (Sub.one q (Sub.one q (Sub.one q (Sub.one q (Sub.nil _)))))) (Rcc 6 q (wc_true q (Rcl 6 q (Zq (y_indexAddr_os e136 q q q (by decide) (by show (7 : Int) < ((8 : Nat) : Int); decide)) q (Zq (y_load_pe q q a24 q) q (Rll 6 q ?_))))))))))
 obtain ⟨r76,hr76,h⟩:=bindS h
 refine WL.fn q q q q (f75_c _ hr76) ⟨(Le.agd (Zs _)),Zt⟩ (Zw q) q q (Rlc 3 q (Ci h q (fun h => ?_) (fun h => ?_)))
 exact Rcx 8 q (we_rl_ret (Rxx 2 q (FA h)))
 exact Rcl 4 q (Zq (y_add (c:=8) q q (by decide)) q (Rlx 2 q (we_rl (WC.sub (env':=[(1,.d (.pc (R38 t0))),(3,.pt 0 0),(48,.os 1 0),(49,.n 8),(50,.n 8)]) (Sub.one q (Sub.one q (Sub.one q (Sub.one q (Sub.one q (Sub.nil _)))))) (Rcc 6 q (wc_false q (Rcx 2 q (we_rl_exit (Rxx 1 q (En0 h))))))))))
 refine Rcl 5 q ?_
 obtain ⟨k79,hk79,h⟩:=letkS h
 refine WL.inl (us:=[.l E45 t0.insns,.fn (.func 77) [] [.pt 0 0]]) (fun rv st' => (∃ (t78 : Bool),k79 t78 = some r ∧ Le rv (.d (D.b t78)) ∧ SLe st' [.row 135 (txA t0),.os 24 1 0 [[.fn (.func 68) [.ag (txA t0)] []],[.fn (.func 69) [.ag (txA t0)] []],[.fn (.func 70) [.ag (txA t0)] []],[.fn (.func 71) [.ag (txA t0)] []],[.fn (.func 72) [.ag (txA t0)] []],[.fn (.func 73) [.ag (txA t0)] []],[.fn (.func 74) [.ag (txA t0)] []],[.fn (.func 75) [.ag (txA t0)] []]]])) q q q q q ?_ (Zw q) q q ?_
 refine ctr_intro Tryz.func76 (by kernel_rfl) q q q (fun mm φφ ww hm77 => ?_)
 refine Rcl 9 q ?_
 obtain ⟨k82,hk82,h⟩:=letkS h
 refine WL.inl (us:=[.l E45 t0.insns,.fn (.func 77) [] [.pt 0 0]]) (fun rv st' => (∃ (t81 : Int),k82 t81 = some r ∧ Le rv (.n t81) ∧ SLe st' [.row 135 (txA t0),.os 24 1 0 [[.fn (.func 68) [.ag (txA t0)] []],[.fn (.func 69) [.ag (txA t0)] []],[.fn (.func 70) [.ag (txA t0)] []],[.fn (.func 71) [.ag (txA t0)] []],[.fn (.func 72) [.ag (txA t0)] []],[.fn (.func 73) [.ag (txA t0)] []],[.fn (.func 74) [.ag (txA t0)] []],[.fn (.func 75) [.ag (txA t0)] []]]])) q q q q q ?_ (Zw q) q q ?_
 refine ctr_intro Tryz.func123 (by kernel_rfl) q q q (fun mm φφ ww hm80 => ?_)
 refine Rcc 5 q (Jn0 [] [.row 135 (txA t0),.os 24 1 0 [[.fn (.func 68) [.ag (txA t0)] []],[.fn (.func 69) [.ag (txA t0)] []],[.fn (.func 70) [.ag (txA t0)] []],[.fn (.func 71) [.ag (txA t0)] []],[.fn (.func 72) [.ag (txA t0)] []],[.fn (.func 73) [.ag (txA t0)] []],[.fn (.func 74) [.ag (txA t0)] []],[.fn (.func 75) [.ag (txA t0)] []]]] h (fun k83 h => ?_) (fun h => ?_))
 refine Rcl 3 q (Zq (y_len_map E45 t0.insns e23 q q Zl) q (Rlc 4 q (Ln1 (fun t85 => [(0,.l E45 t0.insns),(1,.fn (.func 77) [] [.pt 0 0]),(7,.n (List.length t0.insns : Int)),(8,.n t85)]) (fun _ => [.row 135 (txA t0),.os 24 1 0 [[.fn (.func 68) [.ag (txA t0)] []],[.fn (.func 69) [.ag (txA t0)] []],[.fn (.func 70) [.ag (txA t0)] []],[.fn (.func 71) [.ag (txA t0)] []],[.fn (.func 72) [.ag (txA t0)] []],[.fn (.func 73) [.ag (txA t0)] []],[.fn (.func 74) [.ag (txA t0)] []],[.fn (.func 75) [.ag (txA t0)] []]]]) (f37_l1 t0 k82 k83) h (fun _ h => by rw [f37_l1] at h; cases h) (fun n t85 h => ?_))))
 rw [f37_l1] at h
 refine Rcc 6 q (Ci h q (fun h => ?_) (fun h => ?_))
 refine Rcl 15 q (Ix h e23 E45_eq q Zl q q fun x87 _ h => (Rl 1 q ?_))
 obtain ⟨k90,hk90,h⟩:=letkS h
 refine WL.inl (us:=[.d (.ag (R45 x87)),.pt 0 0]) (fun rv st' => (∃ (t89 : Bool),k90 t89 = some r ∧ Le rv (.d (D.b t89)) ∧ SLe st' [.row 135 (txA t0),.os 24 1 0 [[.fn (.func 68) [.ag (txA t0)] []],[.fn (.func 69) [.ag (txA t0)] []],[.fn (.func 70) [.ag (txA t0)] []],[.fn (.func 71) [.ag (txA t0)] []],[.fn (.func 72) [.ag (txA t0)] []],[.fn (.func 73) [.ag (txA t0)] []],[.fn (.func 74) [.ag (txA t0)] []],[.fn (.func 75) [.ag (txA t0)] []]]])) q q q q q ?_ (Zw q) q q ?_
 refine ctr_intro Tryz.func77 (by kernel_rfl) q q q (fun mm φφ ww hm88 => ?_)
 refine Rcl 2 q (Bd q q (Zs _) q (Rll 7 q ?_))
 obtain ⟨r91,hr91,h⟩:=bindS h
 exact WL.fn q q q q (f78_c _ _ hr91) ⟨(Le.agd (Zs _)),Zl,Zt⟩ (Zw q) q q (Rlx 5 q (we_ret (rs1 q (rv_t q)) ⟨(!r91),h,Zl,⟨Zp,Zf,Zt⟩⟩))
 rintro rv st1 ⟨t89,h,hr,hst⟩
 subst hk90
 dsimp only at h
 refine WL.cast 16 q hr (WL.weak hst (Zn (Ci h q (fun h => ?_) (fun h => ?_))))
 exact Rcx 12 q (we_ret (rs1 q (rv_t q)) ⟨t85,h,Zl,⟨Zp,Zf,Zt⟩⟩)
 exact Rcx 7 q (Fn1 h)
 exact Rcx 4 q (En0 h)
 exact Rcx 6 q (we_ret (rs1 q (rv_t q)) ⟨(-1),h,Zl,⟨Zp,Zf,Zt⟩⟩)
 rintro rv st1 ⟨t81,h,hr,hst⟩
 subst hk82
 dsimp only at h
 exact WL.cast 7 q hr (WL.weak hst (Rl 2 q (Zn (Rcx 1 q (we_ret (rs1 q (rv_t q)) ⟨(decide (t81 ≥ 0)),h,Zl,⟨Zp,Zf,Zt⟩⟩)))))
 rintro rv st1 ⟨t78,h,hr,hst⟩
 subst hk79
 dsimp only at h
 exact WL.cast 61 q hr (WL.weak hst (Rl 2 q (Zn (Rcx 1 q (FA h)))))
 exact Rcx 8 q (FA h)

theorem f102_c  {r : Rs Unit} (h : f102  = some r) : CtrP Tryz.prog 102 [] [] (WinG 0 (fun r' new => ∃ (z : Unit),r = .ok z ∧ r' = .d (.tu []) ∧ new = [])) (WinGP 0 (fun c new => ∃ (ee : Int),r = .bad ee ∧ c = wrongP ee ∧ new = [])):=by
 unfold f102 at h
 refine ctrP_intro Tryz.func102 (by kernel_rfl) q q q (fun mm φφ ww hmm => ?_)
 refine wc_regionP (WLP.pre 2 (Zq (y_build p118 z118 q q) q (Zq (y_makeInterface (p:=.ag (R118 (Wrong.mk 280))) (by kernel_rfl) q (Le.agd (Zs _))) q (WL.nil (WLP.pan q q ?_)))))
 obtain rfl:=Oi h
 exact we_pan_g (new:=[]) q Zt ⟨_,q,q,q⟩

theorem f145_c (s0 : List Int) (v1 : Int) {r : Int} (h : f145 s0 v1 = some r) : Pu Tryz.prog 145 [.sl (List.map E3 s0),.i .i64 v1] (.i .i64 r):=by
 unfold f145 at h
 refine fn_intro Tryz.func145 (by kernel_rfl) q q q (fun φφ ww => ?_)
 refine Rcc 5 q (Jn0 [] [] h (fun k22 h => ?_) (fun h => ?_))
 refine Rcl 3 q (Zq (y_len_map E3 s0 e96 q q Zl) q (Rlc 4 q (Ln1 (fun t24 => [(0,.l E3 s0),(1,.n v1),(7,.n (List.length s0 : Int)),(8,.n t24)]) (fun _ => []) (f145_l1 s0 v1 k22) h (fun _ h => by rw [f145_l1] at h; cases h) (fun n t24 h => ?_))))
 rw [f145_l1] at h
 refine Rcc 6 q (Ci h q (fun h => ?_) (fun h => ?_))
 refine Rcl 15 q (Ix h e96 E3_eq q Zl q q fun x26 _ h => (Rlc 4 q (Ci h q (fun h => ?_) (fun h => ?_))))
 exact Rcx 12 q (FA h)
 exact Rcx 7 q (Fn1 h)
 exact Rcx 4 q (En0 h)
 exact Rcx 6 q (FA h)

theorem f104_c (s0 : List Int) (v1 : Int) {r : Bool} (h : f104 s0 v1 = some r) : Pu Tryz.prog 104 [.sl (List.map E3 s0),.i .i64 v1] (.b r):=by
 unfold f104 at h
 refine fn_intro Tryz.func104 (by kernel_rfl) q q q (fun φφ ww => ?_)
 refine Rcl 9 q ?_
 obtain ⟨r12,hr12,h⟩:=bindS h
 exact WL.fn q q q q (f145_c _ _ hr12) ⟨Zl,Zl,Zt⟩ (Zw q) q q (Rlx 5 q (FA h))

theorem f63_c (o0 : Obj) (v1 : Int) {r : Bool} (h : f63 o0 v1 = some r) : Pu Tryz.prog 63 [.ag (R101 o0),.i .i64 v1] (.b r):=by
 unfold f63 at h
 refine fn_intro Tryz.func63 (by kernel_rfl) q q q (fun φφ ww => ?_)
 refine Rcl 2 q (Bd q q (Zs _) q (Rlc 10 q (Ci h q (fun h => ?_) (fun h => ?_))))
 refine Rcl 5 q ?_
 obtain ⟨b33,hb33,h⟩:=bindS h
 apply WL.grp 10 (t:=9) (d:=19) (z:=b33)
 exact q
 intro hg9
 have h:=condT hb33 hg9
 refine Rl 10 q ?_
 obtain rfl:=Oi h
 exact WL.nil ⟨q,[_,_,_,_,_,_,_,_,_,_],q,q,q⟩
 intro hg9
 have h:=condF hb33 hg9
 refine Rl 4 q ?_
 obtain ⟨r34,hr34,h⟩:=bindS h
 refine WL.fn q q q q (f104_c _ _ hr34) ⟨Zl,Zl,Zt⟩ (Wt.yes q q q) q q (Rl 1 q ?_)
 apply WL.and 3 (t:=15) (d:=18)
 exact q
 intro hg15
 exact Rl 3 q (WL.nil ⟨q,[_,_,_],q,q,q⟩)
 exact Rl 3 q (WL.nil ⟨q,[_,_,_],q,q,q⟩)
 refine Rl 1 q ?_
 obtain rfl:=Oi h
 exact WL.nil ⟨q,[_,_,_,_,_,_,_,_],q,q,q⟩
 exact Rlx 5 q (FA h)
 refine Rcl 9 q ?_
 apply WL.and 5 (t:=24) (d:=29)
 exact q
 intro hg24
 exact Rl 5 q (WL.nil ⟨q,[_,_,_,_,_],q,q,q⟩)
 exact Rl 5 q (WL.nil ⟨q,[_,_,_,_,_],q,q,q⟩)
 exact Rlx 4 q (FA h)

theorem f67_c (o0 : Int) : Pu Tryz.prog 67 [.i .u8 o0] (.b (f67 o0)):=by
 generalize h : f67 o0 = r
 unfold f67 at h
 refine fn_intro Tryz.func67 (by kernel_rfl) q q q (fun φφ ww => ?_)
 refine Rcl 10 q ?_
 apply WL.and 3 (t:=5) (d:=8)
 exact q
 intro hg5
 exact Rl 3 q (WL.nil ⟨q,[_,_,_],q,q,q⟩)
 exact Rl 3 q (WL.nil ⟨q,[_,_,_],q,q,q⟩)
 exact Rlx 4 q (FB h)

theorem f36_c (o0 : Int) : Pu Tryz.prog 36 [.i .u8 o0] (.b (f36 o0)):=by
 generalize h : f36 o0 = r
 unfold f36 at h
 refine fn_intro Tryz.func36 (by kernel_rfl) q q q (fun φφ ww => ?_)
 refine Rcl 10 q ?_
 apply WL.and 3 (t:=5) (d:=8)
 exact q
 intro hg5
 exact Rl 3 q (WL.nil ⟨q,[_,_,_],q,q,q⟩)
 exact Rl 3 q (WL.nil ⟨q,[_,_,_],q,q,q⟩)
 refine Rl 1 q ?_
 apply WL.and 4 (t:=9) (d:=13)
 exact q
 intro hg9
 exact Rl 1 q (WL.fn q q q q (f67_c _) ⟨Zl,Zt⟩ (Wt.yes q q q) q q (Rl 2 q (WL.nil ⟨q,[_,_,_,_],q,q,q⟩)))
 exact Rl 4 q (WL.nil ⟨q,[_,_,_,_],q,q,q⟩)
 exact Rlx 4 q (FB h)

theorem f131_c (tR : Nat → Int) (tP : Int) (tX : Int) (tD : Int) (mI : List Insn) (mH : List MHandler) (mO : List Obj) (mE : Int) (mN : List Int) (mS : List (List Int)) (mU : List Int) (tA : List Act) {vo : Nat} {vf : Nat} {vu : Nat} {va : Nat} {r : Rs ((Nat → Int) × Int × Int × Int)} (h : f131 tR tP tX tD mI mH mO mE mN mS mU tA = some r) : CtrP Tryz.prog 131 [.pt 0 0] (wT tR tP tX tD va mI mH mO mE vo mN vu vf mS mU tA) (WinG 6 (fun r' new => ∃ (z : (Nat → Int) × Int × Int × Int),r = .ok z ∧ r' = .d (.tu []) ∧ new = [.row 116 (([.pt 1 0] : List AV) ++ (vecA 16 (fun j => .n (z.1 j)) ++ ([.n z.2.1,.n z.2.2.1,.n z.2.2.2,.os 5 va] : List AV) : List AV)),.row 90 (mR mI mH mO mE 2 vo mN 4 vu),.os 42 1 vo (famE 3 vf (List.length mS)),.fam 2 1 vf (famM E2 mS),.os 2 1 vu (eM E2 mU),.os 58 6 va (eM R58 tA)])) (WinGP 6 (fun c new => ∃ (ee : Int),r = .bad ee ∧ c = wrongP ee ∧ new = (wD mI mH mO mE vo mN vu vf mS mU))):=by
 unfold f131 at h
 refine ctrP_intro Tryz.func131 (by kernel_rfl) q q q (fun mm φφ ww hmm => ?_)
 refine Rcl 11 q (WL.s0 (d_store q q q q q q s3 q q) (Zw q) q (St q (Rlc 3 q (wc_region_draw (by kernel_rfl) (by kernel_rfl) (Rq 12 q (WQ.qn (y_len_map E45 mI e23 q q Zl) q (Rq 1 q (WQ.nil (Rxc 1 q (Ci h q (fun h => ?_) (fun h => ?_)))))))))))
 refine wc_regionP (WLP.wing [] q q q q (f102_c  (r:=Rs.bad 280) q) Zt q (by decide) q Zt q q (Zw q) q q (fun r' new hS => ?_) (fun c new hS => ?_))
 obtain ⟨z9,hz,_⟩:=hS
 cases hz
 obtain ⟨z9,hz,rfl,rfl⟩:=hS
 obtain rfl:=Rs.bad.inj hz
 refine ⟨_,q,q,?_⟩
 obtain rfl:=Oi h
 exact we_pan_g (new:=(wD mI mH mO mE vo mN vu vf mS mU)) q ⟨Zt,Zp,Zf,Zf,Zf,Zt,Zt⟩ ⟨_,q,q,q⟩
 refine Rcx 1 q (we_endP ?_)
 obtain rfl:=Oi h
 exact WE.finP (we_ret_g (new:=[.row 116 (([.pt 1 0] : List AV) ++ (vecA 16 (fun j => .n (tR j)) ++ ([.n (IntKind.i64.wrap (tP + 1)),.n tX,.n tD,.os 5 va] : List AV) : List AV)),.row 90 (mR mI mH mO mE 2 vo mN 4 vu),.os 42 1 vo (famE 3 vf (List.length mS)),.fam 2 1 vf (famM E2 mS),.os 2 1 vu (eM E2 mU),.os 58 6 va (eM R58 tA)]) (r0:=.d (.tu [])) (res0 q) (Le.tud Zt) q ⟨Zp,Zp,Zf,Zf,Zf,Zf,Zt⟩ ⟨_,q,q,q⟩)

theorem f59_c (tR : Nat → Int) (tP : Int) (tX : Int) (tD : Int) (mI : List Insn) (mH : List MHandler) (mO : List Obj) (mE : Int) (mN : List Int) (mS : List (List Int)) (mU : List Int) (tA : List Act) (c1 : Int) {vo : Nat} {vf : Nat} {vu : Nat} {va : Nat} {r : Rs ((Nat → Int) × Int × Int × Int)} (h : f59 tR tP tX tD mI mH mO mE mN mS mU tA c1 = some r) : CtrP Tryz.prog 59 [.pt 0 0,.n c1] (wT tR tP tX tD va mI mH mO mE vo mN vu vf mS mU tA) (WinG 6 (fun r' new => ∃ (z : (Nat → Int) × Int × Int × Int),r = .ok z ∧ r' = .d (.tu []) ∧ new = [.row 116 (([.pt 1 0] : List AV) ++ (vecA 16 (fun j => .n (z.1 j)) ++ ([.n z.2.1,.n z.2.2.1,.n z.2.2.2,.os 5 va] : List AV) : List AV)),.row 90 (mR mI mH mO mE 2 vo mN 4 vu),.os 42 1 vo (famE 3 vf (List.length mS)),.fam 2 1 vf (famM E2 mS),.os 2 1 vu (eM E2 mU),.os 58 6 va (eM R58 tA)])) (WinGP 6 (fun c new => ∃ (ee : Int),r = .bad ee ∧ c = wrongP ee ∧ new = (wD mI mH mO mE vo mN vu vf mS mU))):=by
 unfold f59 at h
 refine ctrP_intro Tryz.func59 (by kernel_rfl) q q q (fun mm φφ ww hmm => ?_)
 refine Rcl 2 q (Bx q q q (WL.s ((b_boxd q q (by exact (show Les [.n c1] (List.map AV.d [.i .i64 c1]) from ⟨Zl,Zt⟩))).does) (Zw q) q q (Rll 12 q ?_)))
 obtain ⟨k63,hk63,h⟩:=letkS h
 refine WL.inl (us:=[.l E108 mH,.fn (.func 101) [] [.pt 6 0,.d (.pc (E2 c1))]]) (fun rv st' => (∃ (t62 : Int),k63 t62 = some r ∧ Le rv (.n t62) ∧ SLe st' [.row 116 (tQ 1 tR tP tX tD 5 va),.row 90 (mR mI mH mO mE 2 vo mN 4 vu),.os 42 1 vo (famE 3 vf (List.length mS)),.fam 2 1 vf (famM E2 mS),.os 2 1 vu (eM E2 mU),.os 58 6 va (eM R58 tA),.row 114 [.pt 0 0]])) q q q q q ?_ (Zw q) q q ?_
 refine ctr_intro Tryz.func100 (by kernel_rfl) q q q (fun mm φφ ww hm61 => ?_)
 refine Rcc 5 q (Jn0 [] [.row 116 (tQ 1 tR tP tX tD 5 va),.row 90 (mR mI mH mO mE 2 vo mN 4 vu),.os 42 1 vo (famE 3 vf (List.length mS)),.fam 2 1 vf (famM E2 mS),.os 2 1 vu (eM E2 mU),.os 58 6 va (eM R58 tA),.row 114 [.pt 0 0]] h (fun k64 h => ?_) (fun h => ?_))
 refine Rcl 3 q (Zq (y_len_map E108 mH e29 q q Zl) q (Rlc 4 q (Ln1 (fun t66 => [(0,.l E108 mH),(1,.fn (.func 101) [] [.pt 6 0,.d (.pc (E2 c1))]),(7,.n (List.length mH : Int)),(8,.n t66)]) (fun _ => [.row 116 (tQ 1 tR tP tX tD 5 va),.row 90 (mR mI mH mO mE 2 vo mN 4 vu),.os 42 1 vo (famE 3 vf (List.length mS)),.fam 2 1 vf (famM E2 mS),.os 2 1 vu (eM E2 mU),.os 58 6 va (eM R58 tA),.row 114 [.pt 0 0]]) (f59_l1 tP mH c1 k63 k64) h (fun _ h => by rw [f59_l1] at h; cases h) (fun n t66 h => ?_))))
 rw [f59_l1] at h
 refine Rcc 6 q (Ci h q (fun h => ?_) (fun h => ?_))
 refine Rcl 15 q (Ix h e29 E108_eq q Zl q q fun x68 _ h => (Rl 1 q ?_))
 obtain ⟨k70,hk70,h⟩:=letkS h
 refine WL.inl (us:=[.d (.ag (R108 x68)),.pt 6 0,.d (.pc (E2 c1))]) (fun rv st' => (k70 () = some r ∧ Le rv (.d (D.b (((decide (x68.from_ ≤ tP)) && (decide (tP < x68.to))) && (x68.clean || (decide (c1 > 0)))))) ∧ SLe st' [.row 116 (tQ 1 tR tP tX tD 5 va),.row 90 (mR mI mH mO mE 2 vo mN 4 vu),.os 42 1 vo (famE 3 vf (List.length mS)),.fam 2 1 vf (famM E2 mS),.os 2 1 vu (eM E2 mU),.os 58 6 va (eM R58 tA),.row 114 [.pt 0 0]])) q q q q q ?_ (Zw q) q q ?_
 refine ctr_intro Tryz.func101 (by kernel_rfl) q q q (fun mm φφ ww hm69 => ?_)
 refine Rcl 2 q (Bd q q (Zs _) q (Rlc 4 q (wc_region_draw (by kernel_rfl) (by kernel_rfl) (Rq 9 q ?_))))
 apply WQ.and 9 (t:=13) (d:=22)
 exact q
 intro hg13
 exact Rq 9 q (WQ.nil ⟨[_,_,_,_,_,_,_,_,_],q,q,q⟩)
 exact Rq 9 q (WQ.nil ⟨[_,_,_,_,_,_,_,_,_],q,q,q⟩)
 refine Rq 1 q ?_
 apply WQ.and 7 (t:=23) (d:=30)
 exact q
 intro hg23
 refine Rq 3 q ?_
 apply WQ.or 3 (t:=26) (d:=29)
 exact q
 intro hg26
 exact Rq 3 q (WQ.nil ⟨[_,_,_],q,q,q⟩)
 exact Rq 3 q (WQ.nil ⟨[_,_,_],q,q,q⟩)
 exact Rq 1 q (WQ.nil ⟨[_,_,_,_,_],q,q,q⟩)
 exact Rq 7 q (WQ.nil ⟨[_,_,_,_,_,_,_],q,q,q⟩)
 exact Rq 1 q (WQ.nil (Rxx 2 q (we_ret (rs1 q (rv_t q)) ⟨h,Zl,⟨Zp,Zp,Zf,Zf,Zf,Zf,Zp,Zt⟩⟩)))
 rintro rv st1 ⟨h,hr,hst⟩
 subst hk70
 dsimp only at h
 refine WL.cast 16 q hr (WL.weak hst (Zn (Ci h q (fun h => ?_) (fun h => ?_))))
 exact Rcx 12 q (we_ret (rs1 q (rv_t q)) ⟨t66,h,Zl,⟨Zp,Zp,Zf,Zf,Zf,Zf,Zp,Zt⟩⟩)
 exact Rcx 7 q (Fn1 h)
 exact Rcx 4 q (En0 h)
 exact Rcx 6 q (we_ret (rs1 q (rv_t q)) ⟨(-1),h,Zl,⟨Zp,Zp,Zf,Zf,Zf,Zf,Zp,Zt⟩⟩)
 rintro rv st1 ⟨t62,h,hr,hst⟩
 subst hk63
 dsimp only at h
 refine WL.cast 14 q hr (WL.weak hst (Rl 1 q (Zn (Rcc 7 q (Ci h q (fun h => ?_) (fun h => ?_))))))
 refine wc_regionP (WLP.wing [] q q q q (f102_c  (r:=Rs.bad 280) q) Zt q (by decide) q Zt q q (Zw q) q q (fun r' new hS => ?_) (fun c new hS => ?_))
 obtain ⟨z9,hz,_⟩:=hS
 cases hz
 obtain ⟨z9,hz,rfl,rfl⟩:=hS
 obtain rfl:=Rs.bad.inj hz
 refine ⟨_,q,q,?_⟩
 refine we_seq_pan ?_
 obtain rfl:=Oi h
 exact we_pan_g (new:=(wD mI mH mO mE vo mN vu vf mS mU)) q ⟨Zt,Zp,Zf,Zf,Zf,Zt,Zt⟩ ⟨_,q,q,q⟩
 refine Rcl 12 q (Ix h e29 E108_eq q Zl q q fun x75 _ h => (Rl 1 q (Al z108 q (WL.s0 (d_store q q q q q q s108 q q) (Zw q) q (St q (Rlc 3 q ?_))))))
 apply RT [_,_,_,_,_,_,_,_,_,_,_,_,.u] [12] [[.row 116 [.pt 1 0,.n 0,.n 0,.n 0,.n 0,.n 0,.n 0,.n 0,.n 0,.n 0,.n 0,.n 0,.n 0,.n 0,.n 0,.n 0,.n 0,.n x75.at_,.n c1,.n tD,.os 5 va],.row 90 (mR mI mH mO mE 2 vo mN 4 vu),.os 42 1 vo (famE 3 vf (List.length mS)),.fam 2 1 vf (famM E2 mS),.os 2 1 vu (eM E2 mU),.os 58 6 va (eM R58 tA),.row 114 [.pt 0 0],.row 108 [.n x75.from_,.n x75.to,.n x75.at_,.d (D.b x75.clean)]]] [([],[2],[0]),([],[5],[0]),([1],[],[0]),([],[3],[0]),([],[2],[0]),([4],[],[0]),([5],[],[0]),([6],[],[0]),([7],[],[0]),([2,3,8],[],[0]),([0],[],[0]),([10],[],[0]),([11,9],[],[0])] (by kernel_rfl) (by kernel_rfl) q q
 refine ⟨?_,?_,?_,?_,?_,?_,?_,?_,?_,?_,?_,?_,?_,Zt⟩
 exact O1 q (fun _ => q) q q
 exact O1 q (fun _ => q) q q
 exact O1 q (fun _ => q) q q
 exact O1 q (fun _ => q) q q
 exact O1 q (fun _ => q) q q
 exact O1 q (fun _ => q) q q
 exact O1 q (fun _ => q) q q
 exact O1 q (fun _ => q) q q
 exact O1 q (fun _ => q) q q
 refine ⟨fun F => ?_,Zt⟩
 exact Zq (y_build p41 z41 q q) q (Zd q q q)
 exact O1 q (fun _ => q) q q
 exact O1 q (fun _ => q) q q
 refine ⟨fun F => ?_,Zt⟩
 exact WL.s0 (d_store q q q q q q s41 q q) (Zw q) q (WL.done0 q q)
 refine Rxc 1 q (Jn1 (fun _ => [(2,.pt 6 0)]) (fun c01976 => [.row 116 [.pt 1 0,.n 0,.n 0,.n 0,.n 0,.n 0,.n 0,.n 0,.n 0,.n 0,.n 0,.n 0,.n 0,.n 0,.n 0,.n 0,.n 0,.n x75.at_,.n c1,.n c01976,.os 5 va],.row 90 (mR mI mH mO mE 2 vo mN 4 vu),.os 42 1 vo (famE 3 vf (List.length mS)),.fam 2 1 vf (famM E2 mS),.os 2 1 vu (eM E2 mU),.os 58 6 va (eM R58 tA),.row 114 [.pt 0 0],.row 108 [.n x75.from_,.n x75.to,.n x75.at_,.d (D.b x75.clean)]]) h (fun _ h => ?_) (fun c01976 h => ?_))
 refine Rcc 6 q (Ci h q (fun h => ?_) (fun h => ?_))
 exact Rcl 10 q (WL.s0 (d_store q q q q q q s3 q q) (Zw q) q (St q (Rlx 1 q (En1 h))))
 exact Rcx 1 q (En1 h)
 refine Rcc 10 q (Ci h q (fun h => ?_) (fun h => ?_))
 refine wc_regionP (WLP.wing [] q q q q (f102_c  (r:=Rs.bad 280) q) Zt q (by decide) q Zt q q (Zw q) q q (fun r' new hS => ?_) (fun c new hS => ?_))
 obtain ⟨z9,hz,_⟩:=hS
 cases hz
 obtain ⟨z9,hz,rfl,rfl⟩:=hS
 obtain rfl:=Rs.bad.inj hz
 refine ⟨_,q,q,?_⟩
 obtain rfl:=Oi h
 exact we_pan_g (new:=(wD mI mH mO mE vo mN vu vf mS mU)) q ⟨Zt,Zp,Zf,Zf,Zf,Zt,Zt⟩ ⟨_,q,q,q⟩
 refine Rcx 1 q (we_endP ?_)
 obtain rfl:=Oi h
 exact WE.finP (we_ret_g (new:=[.row 116 (([.pt 1 0] : List AV) ++ (vecA 16 (fun j => .n ((fun j => 0) j)) ++ ([.n x75.at_,.n c1,.n c01976,.os 5 va] : List AV) : List AV)),.row 90 (mR mI mH mO mE 2 vo mN 4 vu),.os 42 1 vo (famE 3 vf (List.length mS)),.fam 2 1 vf (famM E2 mS),.os 2 1 vu (eM E2 mU),.os 58 6 va (eM R58 tA)]) (r0:=.d (.tu [])) (res0 q) (Le.tud Zt) q ⟨Zp,Zp,Zf,Zf,Zf,Zf,Zt⟩ ⟨_,q,q,q⟩)

theorem f56_c (tR : Nat → Int) (tP : Int) (tX : Int) (tD : Int) (mI : List Insn) (mH : List MHandler) (mO : List Obj) (mE : Int) (mN : List Int) (mS : List (List Int)) (mU : List Int) (tA : List Act) (n1 : Int) {vo : Nat} {vf : Nat} {vu : Nat} {va : Nat} {r : Rs ((Nat → Int) × Int × Int × Int × (List Act))} (h : f56 tR tP tX tD mI mH mO mE mN mS mU tA n1 = some r) : CtrP Tryz.prog 56 [.pt 0 0,.n n1] (wT tR tP tX tD va mI mH mO mE vo mN vu vf mS mU tA) (WinG 6 (fun r' new => ∃ (z : (Nat → Int) × Int × Int × Int × (List Act)) (i5 : Nat),r = .ok z ∧ r' = .d (.tu []) ∧ new = [.row 116 (([.pt 1 0] : List AV) ++ (vecA 16 (fun j => .n (z.1 j)) ++ ([.n z.2.1,.n z.2.2.1,.n z.2.2.2.1,.os 5 i5] : List AV) : List AV)),.row 90 (mR mI mH mO mE 2 vo mN 4 vu),.os 42 1 vo (famE 3 vf (List.length mS)),.fam 2 1 vf (famM E2 mS),.os 2 1 vu (eM E2 mU),.os 58 6 i5 (eM R58 z.2.2.2.2)])) (WinGP 6 (fun c new => ∃ (ee : Int),r = .bad ee ∧ c = wrongP ee ∧ new = (wD mI mH mO mE vo mN vu vf mS mU))):=by
 unfold f56 at h
 refine ctrP_intro Tryz.func56 (by kernel_rfl) q q q (fun mm φφ ww hmm => ?_)
 refine Rcc 1 q (wc_regionP (WLP.pre 2 (Rl 2 q (WL.nil ?_))))
 obtain ⟨r21,hr21,h⟩:=bindS h
 rcases r21 with z22 | e23
 dsimp only [Rs.cs] at h
 refine WLP.wing [0,1,2,3,4,5] q q q q (f59_c _ _ _ _ _ _ _ _ _ _ _ _ _ hr21) ⟨Zl,Zl,Zt⟩ q (by decide) (Re (Re (Rg (Rf (Ro (Ro q)))))) ⟨q,q,q,q,q,q,Zt⟩ Kv q (Zw q) q q (fun r' new hS => ?_) (fun c new hS => ?_)
 obtain ⟨z9,hz,rfl,rfl⟩:=hS
 obtain rfl:=Rs.ok.inj hz
 refine ⟨_,_,q,(Re (Re (Rg (Rf (Ro (Ro q)))))),q,Kv,WLP.of ?_⟩
 refine St q (Zn (Rcl 7 q (Zq (y_build p58 z58 q q) q (WL.s ((NewOs.b (n_buildSlice l50 z58 q (by decide) (by decide) q q q (by decide))).does) (Zw q) q q ?_))))
 replace h:=guardBS h
 obtain ⟨hgg25,h⟩:=h
 refine WL.s (d_appendL R58 tA [(Act.mk 0 0 5 n1 0 0)] l50 z58 q (by decide) q q q q (Src.own q) (fun _ => q) (fun _ => q) hgg25) (Zw q) q q (Rl 2 q (WL.s0 (d_store1 q q q (one_os q) s50 q) (Zw q) q (St q (Rlx 1 q (we_endP ?_)))))
 obtain rfl:=Oi h
 exact WE.finP (we_ret_g (new:=[.row 116 (([.pt 1 0] : List AV) ++ (vecA 16 (fun j => .n (z22.1 j)) ++ ([.n z22.2.1,.n z22.2.2.1,.n z22.2.2.2,.os 5 (va + 1)] : List AV) : List AV)),.row 90 (mR mI mH mO mE 2 vo mN 4 vu),.os 42 1 vo (famE 3 vf (List.length mS)),.fam 2 1 vf (famM E2 mS),.os 2 1 vu (eM E2 mU),.os 58 6 (va + 1) (eM R58 (tA ++ [(Act.mk 0 0 5 n1 0 0)]))]) (r0:=.d (.tu [])) (res0 q) (Le.tud Zt) q ⟨Zp,Zp,Zf,Zf,Zf,Zf,Zt⟩ ⟨_,(va + 1),q,q,q⟩)
 obtain ⟨z9,hz,_⟩:=hS
 cases hz
 dsimp only [Rs.cs] at h
 refine WLP.wing [0,1,2,3,4,5] q q q q (f59_c _ _ _ _ _ _ _ _ _ _ _ _ _ hr21) ⟨Zl,Zl,Zt⟩ q (by decide) (Re (Re (Rg (Rf (Ro (Ro q)))))) ⟨q,q,q,q,q,q,Zt⟩ Kv q (Zw q) q q (fun r' new hS => ?_) (fun c new hS => ?_)
 obtain ⟨z9,hz,_⟩:=hS
 cases hz
 obtain ⟨z9,hz,rfl,rfl⟩:=hS
 obtain rfl:=Rs.bad.inj hz
 refine ⟨_,(Re (Re (Rg (Rf (Ro (Re q)))))),Kv,?_⟩
 refine WE.sto (st':=(wD mI mH mO mE vo mN vu vf mS mU)) q (we_seq_pan ?_)
 obtain rfl:=Oi h
 exact we_pan_g (new:=(wD mI mH mO mE vo mN vu vf mS mU)) q ⟨Zt,Zp,Zf,Zf,Zf,Zt,Zt⟩ ⟨_,q,q,q⟩

theorem f81_c (tR : Nat → Int) (tP : Int) (tX : Int) (tD : Int) (mI : List Insn) (mH : List MHandler) (mO : List Obj) (mE : Int) (mN : List Int) (mS : List (List Int)) (mU : List Int) (tA : List Act) (x1 : Insn) {vo : Nat} {vf : Nat} {vu : Nat} {va : Nat} {r : Rs ((Nat → Int) × Int × Int × Int)} (h : f81 tR tP tX tD mI mH mO mE mN mS mU tA x1 = some r) : CtrP Tryz.prog 81 [.pt 0 0,.d (.ag (R45 x1))] (wT tR tP tX tD va mI mH mO mE vo mN vu vf mS mU tA) (WinG 6 (fun r' new => ∃ (z : (Nat → Int) × Int × Int × Int),r = .ok z ∧ r' = .d (.tu []) ∧ new = [.row 116 (([.pt 1 0] : List AV) ++ (vecA 16 (fun j => .n (z.1 j)) ++ ([.n z.2.1,.n z.2.2.1,.n z.2.2.2,.os 5 va] : List AV) : List AV)),.row 90 (mR mI mH mO mE 2 vo mN 4 vu),.os 42 1 vo (famE 3 vf (List.length mS)),.fam 2 1 vf (famM E2 mS),.os 2 1 vu (eM E2 mU),.os 58 6 va (eM R58 tA)])) (WinGP 6 (fun c new => ∃ (ee : Int),r = .bad ee ∧ c = wrongP ee ∧ new = (wD mI mH mO mE vo mN vu vf mS mU))):=by
 unfold f81 at h
 refine ctrP_intro Tryz.func81 (by kernel_rfl) q q q (fun mm φφ ww hmm => ?_)
 refine Rcl 2 q (Bd q q (Zs _) q (Rlc 3 q (wc_regionP (WLP.pre 2 (Rl 2 q (WL.nil ?_))))))
 obtain ⟨k28,hk28,h⟩:=letkS h
 obtain ⟨k37,hk37,h⟩:=letkS h
 refine WLP.inl (us:=[.pt 0 0,.d (.ag (R45 x1))]) (fun rv st' => (∃ (t29 : Obj),∃ (o30 : Int),∃ (k31 : Int),∃ (c6032 : Int),∃ (c6133 : Int),∃ (c6234 : Int),∃ (c6335 : Bool),∃ (c6436 : List Int),k37 t29 o30 k31 c6032 c6133 c6234 c6335 c6436 = some r ∧ Le rv (.tu [.pem 3 (Int.toNat o30) vf (Int.toNat k31 * 1),.d (.ag (R101 t29))]) ∧ SLe st' [.row 116 (tQ 1 tR tP tX tD 5 va),.row 90 (mR mI mH mO mE 2 vo mN 4 vu),.os 42 1 vo (famE 3 vf (List.length mS)),.fam 2 1 vf (famM E2 mS),.os 2 1 vu (eM E2 mU),.os 58 6 va (eM R58 tA),.row 101 [.n c6032,.n c6133,.n c6234,.d (D.b c6335),.l E3 c6436]])) (fun c st' => (k28 () = some r ∧ c = wrongP 280 ∧ SLe st' [.row 116 (tQ 1 tR tP tX tD 5 va),.row 90 (mR mI mH mO mE 2 vo mN 4 vu),.os 42 1 vo (famE 3 vf (List.length mS)),.fam 2 1 vf (famM E2 mS),.os 2 1 vu (eM E2 mU),.os 58 6 va (eM R58 tA),.row 101 [.n 0,.n 0,.n 0,.d (D.b false),sN]])) q q q q q ?_ (Zw q) q q ?_ ?_
 refine ctrP_intro Tryz.func130 (by kernel_rfl) q q q (fun mm φφ ww hm27 => ?_)
 refine Rcl 2 q (Bd q q (Zs _) q (Rl 1 q (Al z101 q (Rlc 3 q (wc_region_draw (by kernel_rfl) (by kernel_rfl) (Rq 6 q (WQ.nil (Rxc 2 q (wc_region_draw (by kernel_rfl) (by kernel_rfl) (Rq 6 q ?_))))))))))
 replace h:=guardBS h
 obtain ⟨hgg38,h⟩:=h
 refine WQ.qn (y_indexAddra ar39 q q (vecOk_0 hgg38) (vecOk_1 hgg38)) q (WQ.qn (y_loadV (off:=1) (n:=16) (fun j => .n (tR j)) q q a2 q hgg38) q (Rq 1 q (WQ.nil (Rxc 1 q (Jn2 (fun o39 k40 => [(0,.pt 0 0),(5,.pt 6 0),(6,.n o39),(7,.n k40)]) (fun _ _ => [.row 116 (tQ 1 tR tP tX tD 5 va),.row 90 (mR mI mH mO mE 2 vo mN 4 vu),.os 42 1 vo (famE 3 vf (List.length mS)),.fam 2 1 vf (famM E2 mS),.os 2 1 vu (eM E2 mU),.os 58 6 va (eM R58 tA),.row 101 [.n 0,.n 0,.n 0,.d (D.b false),sN]]) h (fun _ h => ?_) (fun o39 k40 h => ?_))))))
 refine Rcc 7 q (Jn1 (fun t42 => [(0,.pt 0 0),(3,.d (.pc (R45 x1))),(5,.pt 6 0),(6,.n x1.n),(7,.n x1.m),(8,.n (tR (Int.toNat x1.a))),(23,.d (D.i .u8 x1.op)),(24,.d (D.b t42))]) (fun _ => [.row 116 (tQ 1 tR tP tX tD 5 va),.row 90 (mR mI mH mO mE 2 vo mN 4 vu),.os 42 1 vo (famE 3 vf (List.length mS)),.fam 2 1 vf (famM E2 mS),.os 2 1 vu (eM E2 mU),.os 58 6 va (eM R58 tA),.row 101 [.n 0,.n 0,.n 0,.d (D.b false),sN]]) h (fun _ h => ?_) (fun t42 h => ?_))
 refine Rcc 6 q (Ci h q (fun h => ?_) (fun h => ?_))
 exact Rcx 1 q (En1 h)
 exact Rcx 4 q (En1 h)
 refine Ci h q (fun h => ?_) (fun h => ?_)
 refine Rcl 6 q ?_
 apply WL.or 5 (t:=29) (d:=34)
 exact q
 intro hg29
 exact Rl 5 q (WL.nil ⟨q,[_,_,_,_,_],q,q,q⟩)
 exact Rl 5 q (WL.nil ⟨q,[_,_,_,_,_],q,q,q⟩)
 refine Rlc 2 q (Ci h q (fun h => ?_) (fun h => ?_))
 refine wc_regionP (WLP.wing [] q q q q (f102_c  (r:=Rs.bad 280) q) Zt q (by decide) q Zt q q (Zw q) q q (fun r' new hS => ?_) (fun c new hS => ?_))
 obtain ⟨z9,hz,_⟩:=hS
 cases hz
 obtain ⟨z9,hz,rfl,rfl⟩:=hS
 obtain rfl:=Rs.bad.inj hz
 refine ⟨_,q,q,?_⟩
 exact we_seq_pan (we_blk_pan (we_lp_pan (we_pan ⟨h,q,⟨Zp,Zp,Zf,Zf,Zf,Zf,Zp,Zt⟩⟩)))
 exact Rcx 9 q (En2 h)
 refine Jn1 (fun t48 => [(0,.pt 0 0),(5,.pt 6 0),(6,.n x1.n),(7,.n x1.m),(8,.n (tR (Int.toNat x1.a))),(39,.d (D.b t48))]) (fun _ => [.row 116 (tQ 1 tR tP tX tD 5 va),.row 90 (mR mI mH mO mE 2 vo mN 4 vu),.os 42 1 vo (famE 3 vf (List.length mS)),.fam 2 1 vf (famM E2 mS),.os 2 1 vu (eM E2 mU),.os 58 6 va (eM R58 tA),.row 101 [.n 0,.n 0,.n 0,.d (D.b false),sN]]) h (fun _ h => ?_) (fun t48 h => ?_)
 refine Rcc 6 q (Ci h q (fun h => ?_) (fun h => ?_))
 exact Rcx 1 q (En1 h)
 exact Rcx 4 q (En1 h)
 refine Ci h q (fun h => ?_) (fun h => ?_)
 refine Rcl 6 q ?_
 apply WL.or 11 (t:=44) (d:=55)
 exact q
 intro hg44
 exact Rl 8 q (Zy (y_len_map E101 mO e33 q q Zl) q q q (Rl 2 q (WL.nil ⟨q,[_,_,_,_,_,_,_,_,_,_,_],q,q,q⟩)))
 exact Rl 11 q (WL.nil ⟨q,[_,_,_,_,_,_,_,_,_,_,_],q,q,q⟩)
 refine Rlc 2 q (Ci h q (fun h => ?_) (fun h => ?_))
 refine wc_regionP (WLP.wing [] q q q q (f102_c  (r:=Rs.bad 280) q) Zt q (by decide) q Zt q q (Zw q) q q (fun r' new hS => ?_) (fun c new hS => ?_))
 obtain ⟨z9,hz,_⟩:=hS
 cases hz
 obtain ⟨z9,hz,rfl,rfl⟩:=hS
 obtain rfl:=Rs.bad.inj hz
 refine ⟨_,q,q,?_⟩
 exact we_seq_pan (we_blk_pan (we_lp_pan (we_pan ⟨h,q,⟨Zp,Zp,Zf,Zf,Zf,Zf,Zp,Zt⟩⟩)))
 exact Rcx 9 q (En2 h)
 exact Rcx 2 q (En2 h)
 refine Rcl 8 q ?_
 obtain ⟨k55,hk55,h⟩:=letkS h
 obtain ⟨k56,hk56,h⟩:=letkS h
 refine WL.inl (us:=[.pt 1 0,.n o39,.n k40]) (fun rv st' => (k55 () = some r ∧ Le rv (.d (.v (.pointer none))) ∧ SLe st' [.row 116 (tQ 1 tR tP tX tD 5 va),.row 90 (mR mI mH mO mE 2 vo mN 4 vu),.os 42 1 vo (famE 3 vf (List.length mS)),.fam 2 1 vf (famM E2 mS),.os 2 1 vu (eM E2 mU),.os 58 6 va (eM R58 tA),.row 101 [.n 0,.n 0,.n 0,.d (D.b false),sN]]) ∨ (k56 () = some r ∧ Le rv (.pem 3 (Int.toNat o39) vf (Int.toNat k40 * 1)) ∧ SLe st' [.row 116 (tQ 1 tR tP tX tD 5 va),.row 90 (mR mI mH mO mE 2 vo mN 4 vu),.os 42 1 vo (famE 3 vf (List.length mS)),.fam 2 1 vf (famM E2 mS),.os 2 1 vu (eM E2 mU),.os 58 6 va (eM R58 tA),.row 101 [.n 0,.n 0,.n 0,.d (D.b false),sN]])) q q q q q ?_ (Zw q) q q ?_
 refine ctr_intro Tryz.func61 (by kernel_rfl) q q q (fun mm φφ ww hm54 => ?_)
 refine Rcl 11 q ?_
 apply WL.or 8 (t:=9) (d:=17)
 exact q
 intro hg9
 exact Rl 5 q (Zy (y_len_fam e62 q q q) q q q (Rl 2 q (WL.nil ⟨q,[_,_,_,_,_,_,_,_],q,q,q⟩)))
 exact Rl 8 q (WL.nil ⟨q,[_,_,_,_,_,_,_,_],q,q,q⟩)
 refine Rl 1 q ?_
 apply WL.or 3 (t:=18) (d:=21)
 exact q
 intro hg18
 exact Rl 3 q (WL.nil ⟨q,[_,_,_],q,q,q⟩)
 exact Rl 3 q (WL.nil ⟨q,[_,_,_],q,q,q⟩)
 refine Rl 1 q ?_
 obtain ⟨b57,hb57,h⟩:=bindS h
 apply WL.grp 11 (t:=22) (d:=33) (z:=b57)
 exact q
 intro hg22
 have h:=condT hb57 hg22
 refine Rl 11 q ?_
 obtain rfl:=Oi h
 exact WL.nil ⟨q,[_,_,_,_,_,_,_,_,_,_,_],q,q,q⟩
 intro hg22
 have h:=condF hb57 hg22
 refine Rl 6 q ?_
 obtain ⟨x58,hx58,h⟩:=bindS h
 refine Zy (y_pe_fam e62 q q q (idx_nonneg hx58) (idx_lt hx58)) q q q (Zy (y_load_mem (i:=o39) q q a42 (idx_toNat hx58)) q q q (Zy (y_len_mem e42 q q q (idx_get hx58)) q q q (Rl 2 q ?_)))
 obtain rfl:=Oi h
 exact WL.nil ⟨q,[_,_,_,_,_,_,_,_,_,_,_],q,q,q⟩
 refine Rlc 2 q (Ci h q (fun h => ?_) (fun h => ?_))
 exact Rcx 7 q (we_ret (rs1 q (rv_t q)) (.inl ⟨h,Zl,⟨Zp,Zp,Zf,Zf,Zf,Zf,Zp,Zt⟩⟩))
 refine Rcl 9 q ?_
 obtain ⟨x59,hx59,h⟩:=bindS h
 refine Zq (y_pe_fam e62 q q q (idx_nonneg hx59) (idx_lt hx59)) q (Zq (y_load_mem (i:=o39) q q a42 (idx_toNat hx59)) q (Rl 1 q ?_))
 obtain ⟨v60,hv60,h⟩:=bindS h
 exact Zq (y_idx_mem (E:=E2) (L:=mS) (M:=x59) (v:=v60) e42 q q (idx_get hx59) q hv60) q (Rlx 4 q (we_ret (rs1 q (rv_t q)) (.inr (⟨h,Zl,⟨Zp,Zp,Zf,Zf,Zf,Zf,Zp,Zt⟩⟩))))
 rintro rv st1 (⟨h,hr,hst⟩ | ⟨h,hr,hst⟩)
 subst hk55
 dsimp only at h
 refine WL.cast 65 q hr (WL.weak hst (Rl 1 q (Zn (Rcl 4 q (Zq (y_eqnn Tryz.underlying128 q) q (Rlc 2 q (wc_true q (wc_regionP (WLP.wing [] q q q q (f102_c  (r:=Rs.bad 280) q) Zt q (by decide) q Zt q q (Zw q) q q (fun r' new hS => ?_) (fun c new hS => ?_))))))))))
 obtain ⟨z9,hz,_⟩:=hS
 cases hz
 obtain ⟨z9,hz,rfl,rfl⟩:=hS
 obtain rfl:=Rs.bad.inj hz
 refine ⟨_,q,q,?_⟩
 exact we_seq_pan (we_pan ⟨h,q,⟨Zp,Zp,Zf,Zf,Zf,Zf,Zp,Zt⟩⟩)
 subst hk56
 dsimp only at h
 refine WL.cast 65 q hr (WL.weak hst (Rl 1 q (Zn (Rcl 4 q (Zq (y_eqpm Tryz.underlying128 q q) q (Rlc 2 q (wc_false q (Rcc 3 q ?_))))))))
 obtain ⟨x65,hx65,h⟩:=bindS h
 apply RT [_,_,_,_,_,_,_,_,_,_,_,_,.u] [12] [[.row 116 (tQ 1 tR tP tX tD 5 va),.row 90 (mR mI mH mO mE 2 vo mN 4 vu),.os 42 1 vo (famE 3 vf (List.length mS)),.fam 2 1 vf (famM E2 mS),.os 2 1 vu (eM E2 mU),.os 58 6 va (eM R58 tA),.row 101 [.n x65.size,.n x65.lo,.n x65.hi,.d (D.b x65.ptr),.l E3 x65.set_]]] [([],[9],[0]),([],[0],[0]),([1],[],[0]),([2],[],[0]),([3],[],[0]),([4],[],[0]),([5],[],[0]),([6],[],[0]),([],[6],[0]),([7,8],[],[0]),([9],[],[0]),([0],[],[0]),([10],[5],[0])] (by kernel_rfl) (by kernel_rfl) q q
 refine ⟨?_,?_,?_,?_,?_,?_,?_,?_,?_,?_,?_,?_,?_,Zt⟩
 exact O1 q (fun _ => q) q q
 exact O1 q (fun _ => q) q q
 exact O1 q (fun _ => q) q q
 exact O1 q (fun _ => q) q q
 exact O1 q (fun _ => q) q q
 exact O1 q (fun _ => q) q q
 exact O1 q (fun _ => q) q q
 exact O1 q (fun _ => q) q q
 exact O1 q (fun _ => q) q q
 refine ⟨fun F => ?_,Zt⟩
 exact Zq (y_indexAddr e33 q Zl q (idx_nonneg hx65) (idx_row E101_eq hx65) q) q (Zd q q q)
 exact O1 q (fun _ => q) q q
 exact O1 q (fun _ => q) q q
 refine ⟨fun F => ?_,Zt⟩
 exact WL.s0 (d_store q q q q q q s101 q q) (Zw q) q (WL.done0 q q)
 exact Rxx 2 q (WE.finP (we_ret (rs2 q (rv_t q) (rv_cN q q a101 s101 q)) ⟨x65,o39,k40,x65.size,x65.lo,x65.hi,x65.ptr,x65.set_,h,(Le.tu ⟨Zl,(Le.agd (Zs _)),Zt⟩),⟨Zp,Zp,Zf,Zf,Zf,Zf,Zp,Zt⟩⟩))
 rintro rv st1 ⟨t29,o30,k31,c6032,c6133,c6234,c6335,c6436,h,hr,hst⟩
 subst hk37
 dsimp only at h
 refine WLP.of (WL.cast 9 q hr (WL.weak hst (Rl 3 q (Al z101 q (Rl 1 q (WL.s0 (d_store q q q q q q s101 q q) (Zw q) q (St q (Zn (Rcc 1 q ?_)))))))))
 obtain ⟨x66,hx66,h⟩:=bindS h
 obtain ⟨v67,hv67,h⟩:=bindS h
 replace h:=guardBS h
 obtain ⟨hgg68,h⟩:=h
 apply RT [_,_,_,_,_,_,_,_,_,_,.u] [10] [[.row 116 (([.pt 1 0] : List AV) ++ (vecA 16 (fun j => .n ((vset tR (Int.toNat x1.d) v67) j)) ++ ([.n tP,.n tX,.n tD,.os 5 va] : List AV) : List AV)),.row 90 (mR mI mH mO mE 2 vo mN 4 vu),.os 42 1 vo (famE 3 vf (List.length mS)),.fam 2 1 vf (famM E2 mS),.os 2 1 vu (eM E2 mU),.os 58 6 va (eM R58 tA),.row 101 [.n c6032,.n c6133,.n c6234,.d (D.b c6335),.l E3 c6436],.row 101 [.n t29.size,.n t29.lo,.n t29.hi,.d (D.b t29.ptr),.l E3 t29.set_]]] [([],[0],[0]),([],[3],[0]),([1],[],[0]),([],[4],[0]),([3],[],[0]),([4],[],[0]),([0],[],[0]),([6],[],[0]),([7],[],[0]),([8,2],[],[0]),([9,5],[],[0])] (by kernel_rfl) (by kernel_rfl) q q
 refine ⟨?_,?_,?_,?_,?_,?_,?_,?_,?_,?_,?_,Zt⟩
 exact O1 q (fun _ => q) q q
 exact O1 q (fun _ => q) q q
 exact O1 q (fun _ => q) q q
 exact O1 q (fun _ => q) q q
 refine ⟨fun F => ?_,Zt⟩
 exact Zq (y_nilCheckm q q) q (Zd q q q)
 refine ⟨fun F => ?_,Zt⟩
 exact Zq (y_load_pem (E:=E2) (L:=mS) (M:=x66) (v:=v67) (i:=k31) q q (idx_get hx66) hv67 (fun _ => q) (by decide) q a2) q (Zd q q q)
 exact O1 q (fun _ => q) q q
 exact O1 q (fun _ => q) q q
 exact O1 q (fun _ => q) q q
 refine ⟨fun F => ?_,Zt⟩
 exact Zq (y_indexAddra ar39 q q (vecOk_0 hgg68) (vecOk_1 hgg68)) q (Zd q q q)
 refine ⟨fun F => ?_,Zt⟩
 exact WL.s0 (d_storeV (off:=1) (n:=16) (cs':=(([.pt 1 0] : List AV) ++ (vecA 16 (fun j => .n ((vset tR (Int.toNat x1.d) v67) j)) ++ ([.n tP,.n tX,.n tD,.os 5 va] : List AV) : List AV))) (fun x => .n x) tR v67 q q q (one_ok q) s2 q q hgg68 q) (Zw q) q (WL.done0 q q)
 refine Rxc 1 q (wc_regionP (WLP.pre 1 (Rl 1 q (WL.nil ?_))))
 obtain ⟨r69,hr69,h⟩:=bindS h
 rcases r69 with z70 | e71
 dsimp only [Rs.cs] at h
 refine WLP.wing [0,1,2,3,4,5] q q q q (f131_c _ _ _ _ _ _ _ _ _ _ _ _ hr69) ⟨Zl,Zt⟩ q (by decide) (Re (Re (Rg (Rf (Ro (Ro q)))))) ⟨q,q,q,q,q,q,Zt⟩ Kv q (Zw q) q q (fun r' new hS => ?_) (fun c new hS => ?_)
 obtain ⟨z9,hz,rfl,rfl⟩:=hS
 obtain rfl:=Rs.ok.inj hz
 refine ⟨_,_,q,(Re (Re (Rg (Rf (Ro (Ro q)))))),q,Kv,WLP.of ?_⟩
 refine St q (WL.nil (we_endP ?_))
 obtain rfl:=Oi h
 exact WE.finP (we_ret_g (new:=[.row 116 (([.pt 1 0] : List AV) ++ (vecA 16 (fun j => .n (z70.1 j)) ++ ([.n z70.2.1,.n z70.2.2.1,.n z70.2.2.2,.os 5 va] : List AV) : List AV)),.row 90 (mR mI mH mO mE 2 vo mN 4 vu),.os 42 1 vo (famE 3 vf (List.length mS)),.fam 2 1 vf (famM E2 mS),.os 2 1 vu (eM E2 mU),.os 58 6 va (eM R58 tA)]) (r0:=.d (.tu [])) (res0 q) (Le.tud Zt) q ⟨Zp,Zp,Zf,Zf,Zf,Zf,Zt⟩ ⟨_,q,q,q⟩)
 obtain ⟨z9,hz,_⟩:=hS
 cases hz
 dsimp only [Rs.cs] at h
 refine WLP.wing [0,1,2,3,4,5] q q q q (f131_c _ _ _ _ _ _ _ _ _ _ _ _ hr69) ⟨Zl,Zt⟩ q (by decide) (Re (Re (Rg (Rf (Ro (Ro q)))))) ⟨q,q,q,q,q,q,Zt⟩ Kv q (Zw q) q q (fun r' new hS => ?_) (fun c new hS => ?_)
 obtain ⟨z9,hz,_⟩:=hS
 cases hz
 obtain ⟨z9,hz,rfl,rfl⟩:=hS
 obtain rfl:=Rs.bad.inj hz
 refine ⟨_,(Re (Re (Rg (Rf (Ro (Re q)))))),Kv,?_⟩
 refine WE.sto (st':=[.dead,.row 90 (mR mI mH mO mE 2 vo mN 4 vu),.os 42 1 vo (famE 3 vf (List.length mS)),.fam 2 1 vf (famM E2 mS),.os 2 1 vu (eM E2 mU),.dead,.row 101 [.n c6032,.n c6133,.n c6234,.d (D.b c6335),.l E3 c6436],.row 101 [.n t29.size,.n t29.lo,.n t29.hi,.d (D.b t29.ptr),.l E3 t29.set_]]) q ?_
 obtain rfl:=Oi h
 exact we_pan_g (new:=(wD mI mH mO mE vo mN vu vf mS mU)) q ⟨Zt,Zp,Zf,Zf,Zf,Zt,Zt⟩ ⟨_,q,q,q⟩
 rintro c st1 ⟨h,rfl,hst⟩
 subst hk28
 dsimp only at h
 refine WE.weak hst (we_seq_pan ?_)
 obtain rfl:=Oi h
 exact we_pan_g (new:=(wD mI mH mO mE vo mN vu vf mS mU)) q ⟨Zt,Zp,Zf,Zf,Zf,Zt,Zt⟩ ⟨_,q,q,q⟩

theorem f82_c (tR : Nat → Int) (tP : Int) (tX : Int) (tD : Int) (mI : List Insn) (mH : List MHandler) (mO : List Obj) (mE : Int) (mN : List Int) (mS : List (List Int)) (mU : List Int) (tA : List Act) (x1 : Insn) {vo : Nat} {vf : Nat} {vu : Nat} {va : Nat} {r : Rs ((Nat → Int) × Int × Int × Int × (List (List Int)))} (h : f82 tR tP tX tD mI mH mO mE mN mS mU tA x1 = some r) : CtrP Tryz.prog 82 [.pt 0 0,.d (.ag (R45 x1))] (wT tR tP tX tD va mI mH mO mE vo mN vu vf mS mU tA) (WinG 6 (fun r' new => ∃ (z : (Nat → Int) × Int × Int × Int × (List (List Int))) (i3 : Nat),r = .ok z ∧ r' = .d (.tu []) ∧ new = [.row 116 (([.pt 1 0] : List AV) ++ (vecA 16 (fun j => .n (z.1 j)) ++ ([.n z.2.1,.n z.2.2.1,.n z.2.2.2.1,.os 5 va] : List AV) : List AV)),.row 90 (mR mI mH mO mE 2 vo mN 4 vu),.os 42 1 vo (famE 3 i3 (List.length z.2.2.2.2)),.fam 2 1 i3 (famM E2 z.2.2.2.2),.os 2 1 vu (eM E2 mU),.os 58 6 va (eM R58 tA)])) (WinGP 6 (fun c new => ∃ (ee : Int),r = .bad ee ∧ c = wrongP ee ∧ new = (wD mI mH mO mE vo mN vu vf mS mU))):=by
 unfold f82 at h
 refine ctrP_intro Tryz.func82 (by kernel_rfl) q q q (fun mm φφ ww hmm => ?_)
 refine Rcl 2 q (Bd q q (Zs _) q (Rlc 3 q (wc_region_draw (by kernel_rfl) (by kernel_rfl) (Rq 6 q ?_))))
 replace h:=guardBS h
 obtain ⟨hgg45,h⟩:=h
 refine WQ.qn (y_indexAddra ar39 q q (vecOk_0 hgg45) (vecOk_1 hgg45)) q (WQ.qn (y_loadV (off:=1) (n:=16) (fun j => .n (tR j)) q q a2 q hgg45) q (Rq 1 q (WQ.nil (Rxc 1 q (Jn1 (fun v46 => [(0,.pt 0 0),(3,.d (.pc (R45 x1))),(4,.n v46)]) (fun _ => (wT tR tP tX tD va mI mH mO mE vo mN vu vf mS mU tA)) h (fun _ h => ?_) (fun v46 h => ?_))))))
 refine Rcc 7 q (Ci h q (fun h => ?_) (fun h => ?_))
 refine wc_region_draw (by kernel_rfl) (by kernel_rfl) (Rq 6 q ?_)
 replace h:=guardBS h
 obtain ⟨hgg48,h⟩:=h
 exact WQ.qn (y_indexAddra ar39 q q (vecOk_0 hgg48) (vecOk_1 hgg48)) q (WQ.qn (y_loadV (off:=1) (n:=16) (fun j => .n (tR j)) q q a2 q hgg48) q (Rq 1 q (WQ.nil (En1 h))))
 exact Rcx 1 q (En1 h)
 refine Rcc 1 q (wc_regionP (WLP.pre 2 (Rl 2 q (WL.nil ?_))))
 obtain ⟨k50,hk50,h⟩:=letkS h
 obtain ⟨k59,hk59,h⟩:=letkS h
 refine WLP.inl (us:=[.pt 0 0,.d (.ag (R45 x1))]) (fun rv st' => (∃ (t51 : Obj),∃ (o52 : Int),∃ (k53 : Int),∃ (c6054 : Int),∃ (c6155 : Int),∃ (c6256 : Int),∃ (c6357 : Bool),∃ (c6458 : List Int),k59 t51 o52 k53 c6054 c6155 c6256 c6357 c6458 = some r ∧ Le rv (.tu [.pem 3 (Int.toNat o52) vf (Int.toNat k53 * 1),.d (.ag (R101 t51))]) ∧ SLe st' [.row 116 (tQ 1 tR tP tX tD 5 va),.row 90 (mR mI mH mO mE 2 vo mN 4 vu),.os 42 1 vo (famE 3 vf (List.length mS)),.fam 2 1 vf (famM E2 mS),.os 2 1 vu (eM E2 mU),.os 58 6 va (eM R58 tA),.row 101 [.n c6054,.n c6155,.n c6256,.d (D.b c6357),.l E3 c6458]])) (fun c st' => (k50 () = some r ∧ c = wrongP 280 ∧ SLe st' [.row 116 (tQ 1 tR tP tX tD 5 va),.row 90 (mR mI mH mO mE 2 vo mN 4 vu),.os 42 1 vo (famE 3 vf (List.length mS)),.fam 2 1 vf (famM E2 mS),.os 2 1 vu (eM E2 mU),.os 58 6 va (eM R58 tA),.row 101 [.n 0,.n 0,.n 0,.d (D.b false),sN]])) q q q q q ?_ (Zw q) q q ?_ ?_
 refine ctrP_intro Tryz.func130 (by kernel_rfl) q q q (fun mm φφ ww hm49 => ?_)
 refine Rcl 2 q (Bd q q (Zs _) q (Rl 1 q (Al z101 q (Rlc 3 q (wc_region_draw (by kernel_rfl) (by kernel_rfl) (Rq 6 q (WQ.nil (Rxc 2 q (wc_region_draw (by kernel_rfl) (by kernel_rfl) (Rq 6 q ?_))))))))))
 replace h:=guardBS h
 obtain ⟨hgg60,h⟩:=h
 refine WQ.qn (y_indexAddra ar39 q q (vecOk_0 hgg60) (vecOk_1 hgg60)) q (WQ.qn (y_loadV (off:=1) (n:=16) (fun j => .n (tR j)) q q a2 q hgg60) q (Rq 1 q (WQ.nil (Rxc 1 q (Jn2 (fun o61 k62 => [(0,.pt 0 0),(5,.pt 6 0),(6,.n o61),(7,.n k62)]) (fun _ _ => [.row 116 (tQ 1 tR tP tX tD 5 va),.row 90 (mR mI mH mO mE 2 vo mN 4 vu),.os 42 1 vo (famE 3 vf (List.length mS)),.fam 2 1 vf (famM E2 mS),.os 2 1 vu (eM E2 mU),.os 58 6 va (eM R58 tA),.row 101 [.n 0,.n 0,.n 0,.d (D.b false),sN]]) h (fun _ h => ?_) (fun o61 k62 h => ?_))))))
 refine Rcc 7 q (Jn1 (fun t64 => [(0,.pt 0 0),(3,.d (.pc (R45 x1))),(5,.pt 6 0),(6,.n x1.n),(7,.n x1.m),(8,.n (tR (Int.toNat x1.a))),(23,.d (D.i .u8 x1.op)),(24,.d (D.b t64))]) (fun _ => [.row 116 (tQ 1 tR tP tX tD 5 va),.row 90 (mR mI mH mO mE 2 vo mN 4 vu),.os 42 1 vo (famE 3 vf (List.length mS)),.fam 2 1 vf (famM E2 mS),.os 2 1 vu (eM E2 mU),.os 58 6 va (eM R58 tA),.row 101 [.n 0,.n 0,.n 0,.d (D.b false),sN]]) h (fun _ h => ?_) (fun t64 h => ?_))
 refine Rcc 6 q (Ci h q (fun h => ?_) (fun h => ?_))
 exact Rcx 1 q (En1 h)
 exact Rcx 4 q (En1 h)
 refine Ci h q (fun h => ?_) (fun h => ?_)
 refine Rcl 6 q ?_
 apply WL.or 5 (t:=29) (d:=34)
 exact q
 intro hg29
 exact Rl 5 q (WL.nil ⟨q,[_,_,_,_,_],q,q,q⟩)
 exact Rl 5 q (WL.nil ⟨q,[_,_,_,_,_],q,q,q⟩)
 refine Rlc 2 q (Ci h q (fun h => ?_) (fun h => ?_))
 refine wc_regionP (WLP.wing [] q q q q (f102_c  (r:=Rs.bad 280) q) Zt q (by decide) q Zt q q (Zw q) q q (fun r' new hS => ?_) (fun c new hS => ?_))
 obtain ⟨z9,hz,_⟩:=hS
 cases hz
 obtain ⟨z9,hz,rfl,rfl⟩:=hS
 obtain rfl:=Rs.bad.inj hz
 refine ⟨_,q,q,?_⟩
 exact we_seq_pan (we_blk_pan (we_lp_pan (we_pan ⟨h,q,⟨Zp,Zp,Zf,Zf,Zf,Zf,Zp,Zt⟩⟩)))
 exact Rcx 9 q (En2 h)
 refine Jn1 (fun t70 => [(0,.pt 0 0),(5,.pt 6 0),(6,.n x1.n),(7,.n x1.m),(8,.n (tR (Int.toNat x1.a))),(39,.d (D.b t70))]) (fun _ => [.row 116 (tQ 1 tR tP tX tD 5 va),.row 90 (mR mI mH mO mE 2 vo mN 4 vu),.os 42 1 vo (famE 3 vf (List.length mS)),.fam 2 1 vf (famM E2 mS),.os 2 1 vu (eM E2 mU),.os 58 6 va (eM R58 tA),.row 101 [.n 0,.n 0,.n 0,.d (D.b false),sN]]) h (fun _ h => ?_) (fun t70 h => ?_)
 refine Rcc 6 q (Ci h q (fun h => ?_) (fun h => ?_))
 exact Rcx 1 q (En1 h)
 exact Rcx 4 q (En1 h)
 refine Ci h q (fun h => ?_) (fun h => ?_)
 refine Rcl 6 q ?_
 apply WL.or 11 (t:=44) (d:=55)
 exact q
 intro hg44
 exact Rl 8 q (Zy (y_len_map E101 mO e33 q q Zl) q q q (Rl 2 q (WL.nil ⟨q,[_,_,_,_,_,_,_,_,_,_,_],q,q,q⟩)))
 exact Rl 11 q (WL.nil ⟨q,[_,_,_,_,_,_,_,_,_,_,_],q,q,q⟩)
 refine Rlc 2 q (Ci h q (fun h => ?_) (fun h => ?_))
 refine wc_regionP (WLP.wing [] q q q q (f102_c  (r:=Rs.bad 280) q) Zt q (by decide) q Zt q q (Zw q) q q (fun r' new hS => ?_) (fun c new hS => ?_))
 obtain ⟨z9,hz,_⟩:=hS
 cases hz
 obtain ⟨z9,hz,rfl,rfl⟩:=hS
 obtain rfl:=Rs.bad.inj hz
 refine ⟨_,q,q,?_⟩
 exact we_seq_pan (we_blk_pan (we_lp_pan (we_pan ⟨h,q,⟨Zp,Zp,Zf,Zf,Zf,Zf,Zp,Zt⟩⟩)))
 exact Rcx 9 q (En2 h)
 exact Rcx 2 q (En2 h)
 refine Rcl 8 q ?_
 obtain ⟨k77,hk77,h⟩:=letkS h
 obtain ⟨k78,hk78,h⟩:=letkS h
 refine WL.inl (us:=[.pt 1 0,.n o61,.n k62]) (fun rv st' => (k77 () = some r ∧ Le rv (.d (.v (.pointer none))) ∧ SLe st' [.row 116 (tQ 1 tR tP tX tD 5 va),.row 90 (mR mI mH mO mE 2 vo mN 4 vu),.os 42 1 vo (famE 3 vf (List.length mS)),.fam 2 1 vf (famM E2 mS),.os 2 1 vu (eM E2 mU),.os 58 6 va (eM R58 tA),.row 101 [.n 0,.n 0,.n 0,.d (D.b false),sN]]) ∨ (k78 () = some r ∧ Le rv (.pem 3 (Int.toNat o61) vf (Int.toNat k62 * 1)) ∧ SLe st' [.row 116 (tQ 1 tR tP tX tD 5 va),.row 90 (mR mI mH mO mE 2 vo mN 4 vu),.os 42 1 vo (famE 3 vf (List.length mS)),.fam 2 1 vf (famM E2 mS),.os 2 1 vu (eM E2 mU),.os 58 6 va (eM R58 tA),.row 101 [.n 0,.n 0,.n 0,.d (D.b false),sN]])) q q q q q ?_ (Zw q) q q ?_
 refine ctr_intro Tryz.func61 (by kernel_rfl) q q q (fun mm φφ ww hm76 => ?_)
 refine Rcl 11 q ?_
 apply WL.or 8 (t:=9) (d:=17)
 exact q
 intro hg9
 exact Rl 5 q (Zy (y_len_fam e62 q q q) q q q (Rl 2 q (WL.nil ⟨q,[_,_,_,_,_,_,_,_],q,q,q⟩)))
 exact Rl 8 q (WL.nil ⟨q,[_,_,_,_,_,_,_,_],q,q,q⟩)
 refine Rl 1 q ?_
 apply WL.or 3 (t:=18) (d:=21)
 exact q
 intro hg18
 exact Rl 3 q (WL.nil ⟨q,[_,_,_],q,q,q⟩)
 exact Rl 3 q (WL.nil ⟨q,[_,_,_],q,q,q⟩)
 refine Rl 1 q ?_
 obtain ⟨b79,hb79,h⟩:=bindS h
 apply WL.grp 11 (t:=22) (d:=33) (z:=b79)
 exact q
 intro hg22
 have h:=condT hb79 hg22
 refine Rl 11 q ?_
 obtain rfl:=Oi h
 exact WL.nil ⟨q,[_,_,_,_,_,_,_,_,_,_,_],q,q,q⟩
 intro hg22
 have h:=condF hb79 hg22
 refine Rl 6 q ?_
 obtain ⟨x80,hx80,h⟩:=bindS h
 refine Zy (y_pe_fam e62 q q q (idx_nonneg hx80) (idx_lt hx80)) q q q (Zy (y_load_mem (i:=o61) q q a42 (idx_toNat hx80)) q q q (Zy (y_len_mem e42 q q q (idx_get hx80)) q q q (Rl 2 q ?_)))
 obtain rfl:=Oi h
 exact WL.nil ⟨q,[_,_,_,_,_,_,_,_,_,_,_],q,q,q⟩
 refine Rlc 2 q (Ci h q (fun h => ?_) (fun h => ?_))
 exact Rcx 7 q (we_ret (rs1 q (rv_t q)) (.inl ⟨h,Zl,⟨Zp,Zp,Zf,Zf,Zf,Zf,Zp,Zt⟩⟩))
 refine Rcl 9 q ?_
 obtain ⟨x81,hx81,h⟩:=bindS h
 refine Zq (y_pe_fam e62 q q q (idx_nonneg hx81) (idx_lt hx81)) q (Zq (y_load_mem (i:=o61) q q a42 (idx_toNat hx81)) q (Rl 1 q ?_))
 obtain ⟨v82,hv82,h⟩:=bindS h
 exact Zq (y_idx_mem (E:=E2) (L:=mS) (M:=x81) (v:=v82) e42 q q (idx_get hx81) q hv82) q (Rlx 4 q (we_ret (rs1 q (rv_t q)) (.inr (⟨h,Zl,⟨Zp,Zp,Zf,Zf,Zf,Zf,Zp,Zt⟩⟩))))
 rintro rv st1 (⟨h,hr,hst⟩ | ⟨h,hr,hst⟩)
 subst hk77
 dsimp only at h
 refine WL.cast 65 q hr (WL.weak hst (Rl 1 q (Zn (Rcl 4 q (Zq (y_eqnn Tryz.underlying128 q) q (Rlc 2 q (wc_true q (wc_regionP (WLP.wing [] q q q q (f102_c  (r:=Rs.bad 280) q) Zt q (by decide) q Zt q q (Zw q) q q (fun r' new hS => ?_) (fun c new hS => ?_))))))))))
 obtain ⟨z9,hz,_⟩:=hS
 cases hz
 obtain ⟨z9,hz,rfl,rfl⟩:=hS
 obtain rfl:=Rs.bad.inj hz
 refine ⟨_,q,q,?_⟩
 exact we_seq_pan (we_pan ⟨h,q,⟨Zp,Zp,Zf,Zf,Zf,Zf,Zp,Zt⟩⟩)
 subst hk78
 dsimp only at h
 refine WL.cast 65 q hr (WL.weak hst (Rl 1 q (Zn (Rcl 4 q (Zq (y_eqpm Tryz.underlying128 q q) q (Rlc 2 q (wc_false q (Rcc 3 q ?_))))))))
 obtain ⟨x87,hx87,h⟩:=bindS h
 apply RT [_,_,_,_,_,_,_,_,_,_,_,_,.u] [12] [[.row 116 (tQ 1 tR tP tX tD 5 va),.row 90 (mR mI mH mO mE 2 vo mN 4 vu),.os 42 1 vo (famE 3 vf (List.length mS)),.fam 2 1 vf (famM E2 mS),.os 2 1 vu (eM E2 mU),.os 58 6 va (eM R58 tA),.row 101 [.n x87.size,.n x87.lo,.n x87.hi,.d (D.b x87.ptr),.l E3 x87.set_]]] [([],[9],[0]),([],[0],[0]),([1],[],[0]),([2],[],[0]),([3],[],[0]),([4],[],[0]),([5],[],[0]),([6],[],[0]),([],[6],[0]),([7,8],[],[0]),([9],[],[0]),([0],[],[0]),([10],[5],[0])] (by kernel_rfl) (by kernel_rfl) q q
 refine ⟨?_,?_,?_,?_,?_,?_,?_,?_,?_,?_,?_,?_,?_,Zt⟩
 exact O1 q (fun _ => q) q q
 exact O1 q (fun _ => q) q q
 exact O1 q (fun _ => q) q q
 exact O1 q (fun _ => q) q q
 exact O1 q (fun _ => q) q q
 exact O1 q (fun _ => q) q q
 exact O1 q (fun _ => q) q q
 exact O1 q (fun _ => q) q q
 exact O1 q (fun _ => q) q q
 refine ⟨fun F => ?_,Zt⟩
 exact Zq (y_indexAddr e33 q Zl q (idx_nonneg hx87) (idx_row E101_eq hx87) q) q (Zd q q q)
 exact O1 q (fun _ => q) q q
 exact O1 q (fun _ => q) q q
 refine ⟨fun F => ?_,Zt⟩
 exact WL.s0 (d_store q q q q q q s101 q q) (Zw q) q (WL.done0 q q)
 exact Rxx 2 q (WE.finP (we_ret (rs2 q (rv_t q) (rv_cN q q a101 s101 q)) ⟨x87,o61,k62,x87.size,x87.lo,x87.hi,x87.ptr,x87.set_,h,(Le.tu ⟨Zl,(Le.agd (Zs _)),Zt⟩),⟨Zp,Zp,Zf,Zf,Zf,Zf,Zp,Zt⟩⟩))
 rintro rv st1 ⟨t51,o52,k53,c6054,c6155,c6256,c6357,c6458,h,hr,hst⟩
 subst hk59
 dsimp only at h
 refine WLP.of (WL.cast 29 q hr (WL.weak hst (Rl 3 q (Al z101 q (Rl 1 q (WL.s0 (d_store q q q q q q s101 q q) (Zw q) q (St q (Zn (Rcl 5 q ?_)))))))))
 obtain ⟨r88,hr88,h⟩:=bindS h
 refine WL.fn q q q q (f63_c _ _ hr88) ⟨(Le.agd (Zs _)),Zl,Zt⟩ (Zw q) q q (Rlc 3 q (Ci h q (fun h => ?_) (fun h => ?_)))
 refine wc_regionP (WLP.wing [] q q q q (f102_c  (r:=Rs.bad 280) q) Zt q (by decide) q Zt q q (Zw q) q q (fun r' new hS => ?_) (fun c new hS => ?_))
 obtain ⟨z9,hz,_⟩:=hS
 cases hz
 obtain ⟨z9,hz,rfl,rfl⟩:=hS
 obtain rfl:=Rs.bad.inj hz
 refine ⟨_,q,q,?_⟩
 refine we_seq_pan ?_
 obtain rfl:=Oi h
 exact we_pan_g (new:=(wD mI mH mO mE vo mN vu vf mS mU)) q ⟨Zt,Zp,Zf,Zf,Zf,Zt,Zt⟩ ⟨_,q,q,q⟩
 refine Rcc 3 q (wc_regionP (WLP.pre 1 (Rl 1 q (WL.nil ?_))))
 obtain ⟨r93,hr93,h⟩:=bindS h
 rcases r93 with z94 | e95
 dsimp only [Rs.cs] at h
 refine WLP.wing [0,1,2,3,4,5] q q q q (f131_c _ _ _ _ _ _ _ _ _ _ _ _ hr93) ⟨Zl,Zt⟩ q (by decide) (Re (Re (Rg (Rf (Ro (Ro q)))))) ⟨q,q,q,q,q,q,Zt⟩ Kv q (Zw q) q q (fun r' new hS => ?_) (fun c new hS => ?_)
 obtain ⟨z9,hz,rfl,rfl⟩:=hS
 obtain rfl:=Rs.ok.inj hz
 refine ⟨_,_,q,(Re (Re (Rg (Rf (Ro (Ro q)))))),q,Kv,WLP.of ?_⟩
 refine St q (Zn (Rcl 3 q (Zq (y_nilCheckm q q) q ?_)))
 obtain ⟨x97,hx97,h⟩:=bindS h
 obtain ⟨v98,hv98,h⟩:=bindS h
 refine WL.s0 (d_store_pem (E:=E2) (L:=mS) (M:=x97) (v:=v98) (z:=v46) (i:=k53) q q (idx_get hx97) hv98 (fun _ => q) q q ⟨Zl,Zt⟩ q s2) (Zw q) q ?_
 refine WL.st (st':=[.row 116 (([.pt 1 0] : List AV) ++ (vecA 16 (fun j => .n (z94.1 j)) ++ ([.n z94.2.1,.n z94.2.2.1,.n z94.2.2.2,.os 5 va] : List AV) : List AV)),.row 90 (mR mI mH mO mE 2 vo mN 4 vu),.os 42 1 vo (famE 3 vf (List.length (List.set mS (Int.toNat o52) (List.set x97 (Int.toNat k53) v46)))),.fam 2 1 vf (famM E2 (List.set mS (Int.toNat o52) (List.set x97 (Int.toNat k53) v46))),.os 2 1 vu (eM E2 mU),.os 58 6 va (eM R58 tA),.row 101 [.n c6054,.n c6155,.n c6256,.d (D.b c6357),.l E3 c6458],.row 101 [.n t51.size,.n t51.lo,.n t51.hi,.d (D.b t51.ptr),.l E3 t51.set_]]) (by show ([.row 116 (([.pt 1 0] : List AV) ++ (vecA 16 (fun j => .n (z94.1 j)) ++ ([.n z94.2.1,.n z94.2.2.1,.n z94.2.2.2,.os 5 va] : List AV) : List AV)),.row 90 (mR mI mH mO mE 2 vo mN 4 vu),.os 42 1 vo (famE 3 vf (List.length mS)),.fam 2 1 vf (famM E2 (List.set mS (Int.toNat o52) (List.set x97 (Int.toNat k53) v46))),.os 2 1 vu (eM E2 mU),.os 58 6 va (eM R58 tA),.row 101 [.n c6054,.n c6155,.n c6256,.d (D.b c6357),.l E3 c6458],.row 101 [.n t51.size,.n t51.lo,.n t51.hi,.d (D.b t51.ptr),.l E3 t51.set_]] : List AO) = _; rw [List.length_set]) (Rlx 1 q ?_)
 refine we_endP ?_
 obtain rfl:=Oi h
 exact WE.finP (we_ret_g (new:=[.row 116 (([.pt 1 0] : List AV) ++ (vecA 16 (fun j => .n (z94.1 j)) ++ ([.n z94.2.1,.n z94.2.2.1,.n z94.2.2.2,.os 5 va] : List AV) : List AV)),.row 90 (mR mI mH mO mE 2 vo mN 4 vu),.os 42 1 vo (famE 3 vf (List.length (List.set mS (Int.toNat o52) (List.set x97 (Int.toNat k53) v46)))),.fam 2 1 vf (famM E2 (List.set mS (Int.toNat o52) (List.set x97 (Int.toNat k53) v46))),.os 2 1 vu (eM E2 mU),.os 58 6 va (eM R58 tA)]) (r0:=.d (.tu [])) (res0 q) (Le.tud Zt) q ⟨Zp,Zp,Zf,Zf,Zf,Zf,Zt⟩ ⟨_,vf,q,q,q⟩)
 obtain ⟨z9,hz,_⟩:=hS
 cases hz
 dsimp only [Rs.cs] at h
 refine WLP.wing [0,1,2,3,4,5] q q q q (f131_c _ _ _ _ _ _ _ _ _ _ _ _ hr93) ⟨Zl,Zt⟩ q (by decide) (Re (Re (Rg (Rf (Ro (Ro q)))))) ⟨q,q,q,q,q,q,Zt⟩ Kv q (Zw q) q q (fun r' new hS => ?_) (fun c new hS => ?_)
 obtain ⟨z9,hz,_⟩:=hS
 cases hz
 obtain ⟨z9,hz,rfl,rfl⟩:=hS
 obtain rfl:=Rs.bad.inj hz
 refine ⟨_,(Re (Re (Rg (Rf (Ro (Re q)))))),Kv,?_⟩
 refine WE.sto (st':=[.dead,.row 90 (mR mI mH mO mE 2 vo mN 4 vu),.os 42 1 vo (famE 3 vf (List.length mS)),.fam 2 1 vf (famM E2 mS),.os 2 1 vu (eM E2 mU),.dead,.row 101 [.n c6054,.n c6155,.n c6256,.d (D.b c6357),.l E3 c6458],.row 101 [.n t51.size,.n t51.lo,.n t51.hi,.d (D.b t51.ptr),.l E3 t51.set_]]) q (we_seq_pan ?_)
 obtain rfl:=Oi h
 exact we_pan_g (new:=(wD mI mH mO mE vo mN vu vf mS mU)) q ⟨Zt,Zp,Zf,Zf,Zf,Zt,Zt⟩ ⟨_,q,q,q⟩
 rintro c st1 ⟨h,rfl,hst⟩
 subst hk50
 dsimp only at h
 refine WE.weak hst (we_seq_pan ?_)
 obtain rfl:=Oi h
 exact we_pan_g (new:=(wD mI mH mO mE vo mN vu vf mS mU)) q ⟨Zt,Zp,Zf,Zf,Zf,Zt,Zt⟩ ⟨_,q,q,q⟩

theorem f83_c (tR : Nat → Int) (tP : Int) (tX : Int) (tD : Int) (mI : List Insn) (mH : List MHandler) (mO : List Obj) (mE : Int) (mN : List Int) (mS : List (List Int)) (mU : List Int) (tA : List Act) (x1 : Insn) {vo : Nat} {vf : Nat} {vu : Nat} {va : Nat} {r : Rs ((Nat → Int) × Int × Int × Int)} (h : f83 tR tP tX tD mI mH mO mE mN mS mU tA x1 = some r) : CtrP Tryz.prog 83 [.pt 0 0,.d (.ag (R45 x1))] (wT tR tP tX tD va mI mH mO mE vo mN vu vf mS mU tA) (WinG 6 (fun r' new => ∃ (z : (Nat → Int) × Int × Int × Int),r = .ok z ∧ r' = .d (.tu []) ∧ new = [.row 116 (([.pt 1 0] : List AV) ++ (vecA 16 (fun j => .n (z.1 j)) ++ ([.n z.2.1,.n z.2.2.1,.n z.2.2.2,.os 5 va] : List AV) : List AV)),.row 90 (mR mI mH mO mE 2 vo mN 4 vu),.os 42 1 vo (famE 3 vf (List.length mS)),.fam 2 1 vf (famM E2 mS),.os 2 1 vu (eM E2 mU),.os 58 6 va (eM R58 tA)])) (WinGP 6 (fun c new => ∃ (ee : Int),r = .bad ee ∧ c = wrongP ee ∧ new = (wD mI mH mO mE vo mN vu vf mS mU))):=by
 unfold f83 at h
 refine ctrP_intro Tryz.func83 (by kernel_rfl) q q q (fun mm φφ ww hmm => ?_)
 refine Rcl 2 q (Bd q q (Zs _) q (Rlc 3 q (wc_region_draw (by kernel_rfl) (by kernel_rfl) (Rq 6 q ?_))))
 replace h:=guardBS h
 obtain ⟨hgg75,h⟩:=h
 refine WQ.qn (y_indexAddra ar39 q q (vecOk_0 hgg75) (vecOk_1 hgg75)) q (WQ.qn (y_loadV (off:=1) (n:=16) (fun j => .n (tR j)) q q a2 q hgg75) q (Rq 1 q (WQ.nil (Rxl 8 q ?_))))
 apply WL.and 5 (t:=19) (d:=24)
 exact q
 intro hg19
 exact Rl 5 q (WL.nil ⟨q,[_,_,_,_,_],q,q,q⟩)
 exact Rl 5 q (WL.nil ⟨q,[_,_,_,_,_],q,q,q⟩)
 refine Rl 1 q ?_
 apply WL.and 11 (t:=25) (d:=36)
 exact q
 intro hg25
 exact Rl 11 q (WL.nil ⟨q,[_,_,_,_,_,_,_,_,_,_,_],q,q,q⟩)
 exact Rl 11 q (WL.nil ⟨q,[_,_,_,_,_,_,_,_,_,_,_],q,q,q⟩)
 refine Rlc 3 q (Ci h q (fun h => ?_) (fun h => ?_))
 refine Rcl 12 q (WL.s0 (d_store q q q q q q s3 q q) (Zw q) q (St q (Rlx 2 q (we_endP ?_))))
 obtain rfl:=Oi h
 exact WE.finP (we_ret_g (new:=[.row 116 (([.pt 1 0] : List AV) ++ (vecA 16 (fun j => .n (tR j)) ++ ([.n (IntKind.i64.wrap (x1.to + (IntKind.i64.wrap ((tR (Int.toNat x1.a)) - x1.n)))),.n tX,.n tD,.os 5 va] : List AV) : List AV)),.row 90 (mR mI mH mO mE 2 vo mN 4 vu),.os 42 1 vo (famE 3 vf (List.length mS)),.fam 2 1 vf (famM E2 mS),.os 2 1 vu (eM E2 mU),.os 58 6 va (eM R58 tA)]) (r0:=.d (.tu [])) (res0 q) (Le.tud Zt) q ⟨Zp,Zp,Zf,Zf,Zf,Zf,Zt⟩ ⟨_,q,q,q⟩)
 refine Jn1 (fun t76 => [(0,.pt 0 0),(3,.d (.pc (R45 x1))),(48,.d (D.b t76))]) (fun _ => (wT tR tP tX tD va mI mH mO mE vo mN vu vf mS mU tA)) h (fun _ h => ?_) (fun t76 h => ?_)
 refine Rcc 8 q (Ci h q (fun h => ?_) (fun h => ?_))
 exact Rcx 1 q (En1 h)
 refine Rcl 6 q ?_
 apply WL.and 3 (t:=55) (d:=58)
 exact q
 intro hg55
 exact Rl 3 q (WL.nil ⟨q,[_,_,_],q,q,q⟩)
 exact Rl 3 q (WL.nil ⟨q,[_,_,_],q,q,q⟩)
 refine Rlc 3 q (Ci h q (fun h => ?_) (fun h => ?_))
 exact Rcx 1 q (En1 h)
 refine Rcl 5 q ?_
 apply WL.and 3 (t:=62) (d:=65)
 exact q
 intro hg62
 exact Rl 3 q (WL.nil ⟨q,[_,_,_],q,q,q⟩)
 exact Rl 3 q (WL.nil ⟨q,[_,_,_],q,q,q⟩)
 exact Rlx 2 q (En1 h)
 refine Ci h q (fun h => ?_) (fun h => ?_)
 refine Rcl 7 q (WL.s0 (d_store q q q q q q s3 q q) (Zw q) q (St q (Rlx 2 q (we_endP ?_))))
 obtain rfl:=Oi h
 exact WE.finP (we_ret_g (new:=[.row 116 (([.pt 1 0] : List AV) ++ (vecA 16 (fun j => .n (tR j)) ++ ([.n x1.to,.n tX,.n tD,.os 5 va] : List AV) : List AV)),.row 90 (mR mI mH mO mE 2 vo mN 4 vu),.os 42 1 vo (famE 3 vf (List.length mS)),.fam 2 1 vf (famM E2 mS),.os 2 1 vu (eM E2 mU),.os 58 6 va (eM R58 tA)]) (r0:=.d (.tu [])) (res0 q) (Le.tud Zt) q ⟨Zp,Zp,Zf,Zf,Zf,Zf,Zt⟩ ⟨_,q,q,q⟩)
 refine wc_regionP (WLP.pre 1 (Rl 1 q (WL.nil ?_)))
 obtain ⟨r78,hr78,h⟩:=bindS h
 rcases r78 with z79 | e80
 dsimp only [Rs.cs] at h
 refine WLP.wing [0,1,2,3,4,5] q q q q (f131_c _ _ _ _ _ _ _ _ _ _ _ _ hr78) ⟨Zl,Zt⟩ q (by decide) (Re (Re (Rg (Rf (Ro (Ro q)))))) ⟨q,q,q,q,q,q,Zt⟩ Kv q (Zw q) q q (fun r' new hS => ?_) (fun c new hS => ?_)
 obtain ⟨z9,hz,rfl,rfl⟩:=hS
 obtain rfl:=Rs.ok.inj hz
 refine ⟨_,_,q,(Re (Re (Rg (Rf (Ro (Ro q)))))),q,Kv,WLP.of ?_⟩
 refine St q (WL.nil (Rxx 1 q (we_endP ?_)))
 obtain rfl:=Oi h
 exact WE.finP (we_ret_g (new:=[.row 116 (([.pt 1 0] : List AV) ++ (vecA 16 (fun j => .n (z79.1 j)) ++ ([.n z79.2.1,.n z79.2.2.1,.n z79.2.2.2,.os 5 va] : List AV) : List AV)),.row 90 (mR mI mH mO mE 2 vo mN 4 vu),.os 42 1 vo (famE 3 vf (List.length mS)),.fam 2 1 vf (famM E2 mS),.os 2 1 vu (eM E2 mU),.os 58 6 va (eM R58 tA)]) (r0:=.d (.tu [])) (res0 q) (Le.tud Zt) q ⟨Zp,Zp,Zf,Zf,Zf,Zf,Zt⟩ ⟨_,q,q,q⟩)
 obtain ⟨z9,hz,_⟩:=hS
 cases hz
 dsimp only [Rs.cs] at h
 refine WLP.wing [0,1,2,3,4,5] q q q q (f131_c _ _ _ _ _ _ _ _ _ _ _ _ hr78) ⟨Zl,Zt⟩ q (by decide) (Re (Re (Rg (Rf (Ro (Ro q)))))) ⟨q,q,q,q,q,q,Zt⟩ Kv q (Zw q) q q (fun r' new hS => ?_) (fun c new hS => ?_)
 obtain ⟨z9,hz,_⟩:=hS
 cases hz
 obtain ⟨z9,hz,rfl,rfl⟩:=hS
 obtain rfl:=Rs.bad.inj hz
 refine ⟨_,(Re (Re (Rg (Rf (Ro (Re q)))))),Kv,?_⟩
 refine WE.sto (st':=(wD mI mH mO mE vo mN vu vf mS mU)) q (we_blk_pan ?_)
 obtain rfl:=Oi h
 exact we_pan_g (new:=(wD mI mH mO mE vo mN vu vf mS mU)) q ⟨Zt,Zp,Zf,Zf,Zf,Zt,Zt⟩ ⟨_,q,q,q⟩

theorem f84_c (tR : Nat → Int) (tP : Int) (tX : Int) (tD : Int) (mI : List Insn) (mH : List MHandler) (mO : List Obj) (mE : Int) (mN : List Int) (mS : List (List Int)) (mU : List Int) (tA : List Act) (x1 : Insn) {vo : Nat} {vf : Nat} {vu : Nat} {va : Nat} {r : Rs ((Nat → Int) × Int × Int × Int × (List Act))} (h : f84 tR tP tX tD mI mH mO mE mN mS mU tA x1 = some r) : CtrP Tryz.prog 84 [.pt 0 0,.d (.ag (R45 x1))] (wT tR tP tX tD va mI mH mO mE vo mN vu vf mS mU tA) (WinG 6 (fun r' new => ∃ (z : (Nat → Int) × Int × Int × Int × (List Act)) (i5 : Nat),r = .ok z ∧ r' = .d (.tu []) ∧ new = [.row 116 (([.pt 1 0] : List AV) ++ (vecA 16 (fun j => .n (z.1 j)) ++ ([.n z.2.1,.n z.2.2.1,.n z.2.2.2.1,.os 5 i5] : List AV) : List AV)),.row 90 (mR mI mH mO mE 2 vo mN 4 vu),.os 42 1 vo (famE 3 vf (List.length mS)),.fam 2 1 vf (famM E2 mS),.os 2 1 vu (eM E2 mU),.os 58 6 i5 (eM R58 z.2.2.2.2)])) (WinGP 6 (fun c new => ∃ (ee : Int),r = .bad ee ∧ c = wrongP ee ∧ new = (wD mI mH mO mE vo mN vu vf mS mU))):=by
 unfold f84 at h
 refine ctrP_intro Tryz.func84 (by kernel_rfl) q q q (fun mm φφ ww hmm => ?_)
 refine Rcl 2 q (Bd q q (Zs _) q (Rlc 3 q (wc_region_draw (by kernel_rfl) (by kernel_rfl) (Rq 6 q ?_))))
 replace h:=guardBS h
 obtain ⟨hgg44,h⟩:=h
 refine WQ.qn (y_indexAddra ar39 q q (vecOk_0 hgg44) (vecOk_1 hgg44)) q (WQ.qn (y_loadV (off:=1) (n:=16) (fun j => .n (tR j)) q q a2 q hgg44) q (Rq 1 q (WQ.nil (Rxl 8 q ?_))))
 apply WL.and 11 (t:=16) (d:=27)
 exact q
 intro hg16
 refine Rl 5 q ?_
 apply WL.or 5 (t:=21) (d:=26)
 exact q
 intro hg21
 exact Rl 5 q (WL.nil ⟨q,[_,_,_,_,_],q,q,q⟩)
 exact Rl 5 q (WL.nil ⟨q,[_,_,_,_,_],q,q,q⟩)
 exact Rl 1 q (WL.nil ⟨q,[_,_,_,_,_,_,_],q,q,q⟩)
 exact Rl 11 q (WL.nil ⟨q,[_,_,_,_,_,_,_,_,_,_,_],q,q,q⟩)
 refine Rl 1 q ?_
 apply WL.or 8 (t:=28) (d:=36)
 exact q
 intro hg28
 refine Rl 4 q ?_
 apply WL.and 3 (t:=32) (d:=35)
 exact q
 intro hg32
 exact Rl 3 q (WL.nil ⟨q,[_,_,_],q,q,q⟩)
 exact Rl 3 q (WL.nil ⟨q,[_,_,_],q,q,q⟩)
 exact Rl 1 q (WL.nil ⟨q,[_,_,_,_,_,_],q,q,q⟩)
 exact Rl 8 q (WL.nil ⟨q,[_,_,_,_,_,_,_,_],q,q,q⟩)
 refine Rlc 2 q (Ci h q (fun h => ?_) (fun h => ?_))
 refine Rcc 1 q (wc_regionP (WLP.pre 1 (Rl 1 q (WL.nil ?_))))
 obtain ⟨r45,hr45,h⟩:=bindS h
 rcases r45 with z46 | e47
 dsimp only [Rs.cs] at h
 refine WLP.wing [0,1,2,3,4,5] q q q q (f56_c _ _ _ _ _ _ _ _ _ _ _ _ _ hr45) ⟨Zl,Zl,Zt⟩ q (by decide) (Re (Re (Rg (Rf (Ro (Ro q)))))) ⟨q,q,q,q,q,q,Zt⟩ Kv q (Zw q) q q (fun r' new hS => ?_) (fun c new hS => ?_)
 obtain ⟨z9,i5_48,hz,rfl,rfl⟩:=hS
 obtain rfl:=Rs.ok.inj hz
 refine ⟨_,_,q,(Re (Re (Rg (Rf (Ro (Ro q)))))),q,Kv,WLP.of ?_⟩
 refine St q (Zn (Rcx 2 q ?_))
 obtain rfl:=Oi h
 exact WE.finP (we_ret_g (new:=[.row 116 (([.pt 1 0] : List AV) ++ (vecA 16 (fun j => .n (z46.1 j)) ++ ([.n z46.2.1,.n z46.2.2.1,.n z46.2.2.2.1,.os 5 i5_48] : List AV) : List AV)),.row 90 (mR mI mH mO mE 2 vo mN 4 vu),.os 42 1 vo (famE 3 vf (List.length mS)),.fam 2 1 vf (famM E2 mS),.os 2 1 vu (eM E2 mU),.os 58 6 i5_48 (eM R58 z46.2.2.2.2)]) (r0:=.d (.tu [])) (res0 q) (Le.tud Zt) q ⟨Zp,Zp,Zf,Zf,Zf,Zf,Zt⟩ ⟨_,i5_48,q,q,q⟩)
 obtain ⟨z9,hz,_⟩:=hS
 cases hz
 dsimp only [Rs.cs] at h
 refine WLP.wing [0,1,2,3,4,5] q q q q (f56_c _ _ _ _ _ _ _ _ _ _ _ _ _ hr45) ⟨Zl,Zl,Zt⟩ q (by decide) (Re (Re (Rg (Rf (Ro (Ro q)))))) ⟨q,q,q,q,q,q,Zt⟩ Kv q (Zw q) q q (fun r' new hS => ?_) (fun c new hS => ?_)
 obtain ⟨z9,i5_48,hz,_⟩:=hS
 cases hz
 obtain ⟨z9,hz,rfl,rfl⟩:=hS
 obtain rfl:=Rs.bad.inj hz
 refine ⟨_,(Re (Re (Rg (Rf (Ro (Re q)))))),Kv,?_⟩
 refine WE.sto (st':=(wD mI mH mO mE vo mN vu vf mS mU)) q (we_seq_pan (we_seq_pan ?_))
 obtain rfl:=Oi h
 exact we_pan_g (new:=(wD mI mH mO mE vo mN vu vf mS mU)) q ⟨Zt,Zp,Zf,Zf,Zf,Zt,Zt⟩ ⟨_,q,q,q⟩
 refine Rcc 2 q (wc_regionP (WLP.pre 1 (Rl 1 q (WL.nil ?_))))
 obtain ⟨r49,hr49,h⟩:=bindS h
 rcases r49 with z50 | e51
 dsimp only [Rs.cs] at h
 refine WLP.wing [0,1,2,3,4,5] q q q q (f131_c _ _ _ _ _ _ _ _ _ _ _ _ hr49) ⟨Zl,Zt⟩ q (by decide) (Re (Re (Rg (Rf (Ro (Ro q)))))) ⟨q,q,q,q,q,q,Zt⟩ Kv q (Zw q) q q (fun r' new hS => ?_) (fun c new hS => ?_)
 obtain ⟨z9,hz,rfl,rfl⟩:=hS
 obtain rfl:=Rs.ok.inj hz
 refine ⟨_,_,q,(Re (Re (Rg (Rf (Ro (Ro q)))))),q,Kv,WLP.of ?_⟩
 refine St q (WL.nil (we_endP ?_))
 obtain rfl:=Oi h
 exact WE.finP (we_ret_g (new:=[.row 116 (([.pt 1 0] : List AV) ++ (vecA 16 (fun j => .n (z50.1 j)) ++ ([.n z50.2.1,.n z50.2.2.1,.n z50.2.2.2,.os 5 va] : List AV) : List AV)),.row 90 (mR mI mH mO mE 2 vo mN 4 vu),.os 42 1 vo (famE 3 vf (List.length mS)),.fam 2 1 vf (famM E2 mS),.os 2 1 vu (eM E2 mU),.os 58 6 va (eM R58 tA)]) (r0:=.d (.tu [])) (res0 q) (Le.tud Zt) q ⟨Zp,Zp,Zf,Zf,Zf,Zf,Zt⟩ ⟨_,va,q,q,q⟩)
 obtain ⟨z9,hz,_⟩:=hS
 cases hz
 dsimp only [Rs.cs] at h
 refine WLP.wing [0,1,2,3,4,5] q q q q (f131_c _ _ _ _ _ _ _ _ _ _ _ _ hr49) ⟨Zl,Zt⟩ q (by decide) (Re (Re (Rg (Rf (Ro (Ro q)))))) ⟨q,q,q,q,q,q,Zt⟩ Kv q (Zw q) q q (fun r' new hS => ?_) (fun c new hS => ?_)
 obtain ⟨z9,hz,_⟩:=hS
 cases hz
 obtain ⟨z9,hz,rfl,rfl⟩:=hS
 obtain rfl:=Rs.bad.inj hz
 refine ⟨_,(Re (Re (Rg (Rf (Ro (Re q)))))),Kv,?_⟩
 refine WE.sto (st':=(wD mI mH mO mE vo mN vu vf mS mU)) q ?_
 obtain rfl:=Oi h
 exact we_pan_g (new:=(wD mI mH mO mE vo mN vu vf mS mU)) q ⟨Zt,Zp,Zf,Zf,Zf,Zt,Zt⟩ ⟨_,q,q,q⟩

theorem f85_c (tR : Nat → Int) (tP : Int) (tX : Int) (tD : Int) (mI : List Insn) (mH : List MHandler) (mO : List Obj) (mE : Int) (mN : List Int) (mS : List (List Int)) (mU : List Int) (tA : List Act) (x1 : Insn) {vo : Nat} {vf : Nat} {vu : Nat} {va : Nat} {r : Rs ((Nat → Int) × Int × Int × Int × (List Act))} (h : f85 tR tP tX tD mI mH mO mE mN mS mU tA x1 = some r) : CtrP Tryz.prog 85 [.pt 0 0,.d (.ag (R45 x1))] (wT tR tP tX tD va mI mH mO mE vo mN vu vf mS mU tA) (WinG 6 (fun r' new => ∃ (z : (Nat → Int) × Int × Int × Int × (List Act)) (i5 : Nat),r = .ok z ∧ r' = .d (.tu []) ∧ new = [.row 116 (([.pt 1 0] : List AV) ++ (vecA 16 (fun j => .n (z.1 j)) ++ ([.n z.2.1,.n z.2.2.1,.n z.2.2.2.1,.os 5 i5] : List AV) : List AV)),.row 90 (mR mI mH mO mE 2 vo mN 4 vu),.os 42 1 vo (famE 3 vf (List.length mS)),.fam 2 1 vf (famM E2 mS),.os 2 1 vu (eM E2 mU),.os 58 6 i5 (eM R58 z.2.2.2.2)])) (WinGP 6 (fun c new => ∃ (ee : Int),r = .bad ee ∧ c = wrongP ee ∧ new = (wD mI mH mO mE vo mN vu vf mS mU))):=by
 unfold f85 at h
 refine ctrP_intro Tryz.func85 (by kernel_rfl) q q q (fun mm φφ ww hmm => ?_)
 refine Rcl 2 q (Bd q q (Zs _) q (Rlc 3 q (wc_region_draw (by kernel_rfl) (by kernel_rfl) (Rq 6 q ?_))))
 replace h:=guardBS h
 obtain ⟨hgg68,h⟩:=h
 refine WQ.qn (y_indexAddra ar39 q q (vecOk_0 hgg68) (vecOk_1 hgg68)) q (WQ.qn (y_loadV (off:=1) (n:=16) (fun j => .n (tR j)) q q a2 q hgg68) q (Rq 1 q (WQ.nil (Rxc 10 q (Ci h q (fun h => ?_) (fun h => ?_))))))
 refine wc_regionP (WLP.pre 3 (Rl 3 q (WL.nil ?_)))
 obtain ⟨r69,hr69,h⟩:=bindS h
 rcases r69 with z70 | e71
 dsimp only [Rs.cs] at h
 refine WLP.wing [0,1,2,3,4,5] q q q q (f56_c _ _ _ _ _ _ _ _ _ _ _ _ _ hr69) ⟨Zl,Zl,Zt⟩ q (by decide) (Re (Re (Rg (Rf (Ro (Ro q)))))) ⟨q,q,q,q,q,q,Zt⟩ Kv q (Zw q) q q (fun r' new hS => ?_) (fun c new hS => ?_)
 obtain ⟨z9,i5_72,hz,rfl,rfl⟩:=hS
 obtain rfl:=Rs.ok.inj hz
 refine ⟨_,_,q,(Re (Re (Rg (Rf (Ro (Ro q)))))),q,Kv,WLP.of ?_⟩
 refine St q (WL.nil (Rxx 1 q (we_endP ?_)))
 obtain rfl:=Oi h
 exact WE.finP (we_ret_g (new:=[.row 116 (([.pt 1 0] : List AV) ++ (vecA 16 (fun j => .n (z70.1 j)) ++ ([.n z70.2.1,.n z70.2.2.1,.n z70.2.2.2.1,.os 5 i5_72] : List AV) : List AV)),.row 90 (mR mI mH mO mE 2 vo mN 4 vu),.os 42 1 vo (famE 3 vf (List.length mS)),.fam 2 1 vf (famM E2 mS),.os 2 1 vu (eM E2 mU),.os 58 6 i5_72 (eM R58 z70.2.2.2.2)]) (r0:=.d (.tu [])) (res0 q) (Le.tud Zt) q ⟨Zp,Zp,Zf,Zf,Zf,Zf,Zt⟩ ⟨_,i5_72,q,q,q⟩)
 obtain ⟨z9,hz,_⟩:=hS
 cases hz
 dsimp only [Rs.cs] at h
 refine WLP.wing [0,1,2,3,4,5] q q q q (f56_c _ _ _ _ _ _ _ _ _ _ _ _ _ hr69) ⟨Zl,Zl,Zt⟩ q (by decide) (Re (Re (Rg (Rf (Ro (Ro q)))))) ⟨q,q,q,q,q,q,Zt⟩ Kv q (Zw q) q q (fun r' new hS => ?_) (fun c new hS => ?_)
 obtain ⟨z9,i5_72,hz,_⟩:=hS
 cases hz
 obtain ⟨z9,hz,rfl,rfl⟩:=hS
 obtain rfl:=Rs.bad.inj hz
 refine ⟨_,(Re (Re (Rg (Rf (Ro (Re q)))))),Kv,?_⟩
 refine WE.sto (st':=(wD mI mH mO mE vo mN vu vf mS mU)) q (we_blk_pan ?_)
 obtain rfl:=Oi h
 exact we_pan_g (new:=(wD mI mH mO mE vo mN vu vf mS mU)) q ⟨Zt,Zp,Zf,Zf,Zf,Zt,Zt⟩ ⟨_,q,q,q⟩
 refine Rcl 6 q ?_
 apply WL.and 3 (t:=28) (d:=31)
 exact q
 intro hg28
 exact Rl 3 q (WL.nil ⟨q,[_,_,_],q,q,q⟩)
 exact Rl 3 q (WL.nil ⟨q,[_,_,_],q,q,q⟩)
 refine Rlc 3 q (Ci h q (fun h => ?_) (fun h => ?_))
 refine wc_regionP (WLP.pre 1 (Rl 1 q (WL.nil ?_)))
 obtain ⟨r73,hr73,h⟩:=bindS h
 rcases r73 with z74 | e75
 dsimp only [Rs.cs] at h
 refine WLP.wing [0,1,2,3,4,5] q q q q (f131_c _ _ _ _ _ _ _ _ _ _ _ _ hr73) ⟨Zl,Zt⟩ q (by decide) (Re (Re (Rg (Rf (Ro (Ro q)))))) ⟨q,q,q,q,q,q,Zt⟩ Kv q (Zw q) q q (fun r' new hS => ?_) (fun c new hS => ?_)
 obtain ⟨z9,hz,rfl,rfl⟩:=hS
 obtain rfl:=Rs.ok.inj hz
 refine ⟨_,_,q,(Re (Re (Rg (Rf (Ro (Ro q)))))),q,Kv,WLP.of ?_⟩
 refine St q (WL.nil (Rxx 1 q (we_endP ?_)))
 obtain rfl:=Oi h
 exact WE.finP (we_ret_g (new:=[.row 116 (([.pt 1 0] : List AV) ++ (vecA 16 (fun j => .n (z74.1 j)) ++ ([.n z74.2.1,.n z74.2.2.1,.n z74.2.2.2,.os 5 va] : List AV) : List AV)),.row 90 (mR mI mH mO mE 2 vo mN 4 vu),.os 42 1 vo (famE 3 vf (List.length mS)),.fam 2 1 vf (famM E2 mS),.os 2 1 vu (eM E2 mU),.os 58 6 va (eM R58 tA)]) (r0:=.d (.tu [])) (res0 q) (Le.tud Zt) q ⟨Zp,Zp,Zf,Zf,Zf,Zf,Zt⟩ ⟨_,va,q,q,q⟩)
 obtain ⟨z9,hz,_⟩:=hS
 cases hz
 dsimp only [Rs.cs] at h
 refine WLP.wing [0,1,2,3,4,5] q q q q (f131_c _ _ _ _ _ _ _ _ _ _ _ _ hr73) ⟨Zl,Zt⟩ q (by decide) (Re (Re (Rg (Rf (Ro (Ro q)))))) ⟨q,q,q,q,q,q,Zt⟩ Kv q (Zw q) q q (fun r' new hS => ?_) (fun c new hS => ?_)
 obtain ⟨z9,hz,_⟩:=hS
 cases hz
 obtain ⟨z9,hz,rfl,rfl⟩:=hS
 obtain rfl:=Rs.bad.inj hz
 refine ⟨_,(Re (Re (Rg (Rf (Ro (Re q)))))),Kv,?_⟩
 refine WE.sto (st':=(wD mI mH mO mE vo mN vu vf mS mU)) q (we_blk_pan ?_)
 obtain rfl:=Oi h
 exact we_pan_g (new:=(wD mI mH mO mE vo mN vu vf mS mU)) q ⟨Zt,Zp,Zf,Zf,Zf,Zt,Zt⟩ ⟨_,q,q,q⟩
 refine Rcl 12 q ?_
 apply WL.or 3 (t:=44) (d:=47)
 exact q
 intro hg44
 exact Rl 3 q (WL.nil ⟨q,[_,_,_],q,q,q⟩)
 exact Rl 3 q (WL.nil ⟨q,[_,_,_],q,q,q⟩)
 refine Rl 1 q ?_
 apply WL.or 8 (t:=48) (d:=56)
 exact q
 intro hg48
 refine Rl 4 q ?_
 apply WL.and 3 (t:=52) (d:=55)
 exact q
 intro hg52
 exact Rl 3 q (WL.nil ⟨q,[_,_,_],q,q,q⟩)
 exact Rl 3 q (WL.nil ⟨q,[_,_,_],q,q,q⟩)
 exact Rl 1 q (WL.nil ⟨q,[_,_,_,_,_,_],q,q,q⟩)
 exact Rl 8 q (WL.nil ⟨q,[_,_,_,_,_,_,_,_],q,q,q⟩)
 refine Rlc 3 q (Ci h q (fun h => ?_) (fun h => ?_))
 refine wc_regionP (WLP.wing [] q q q q (f102_c  (r:=Rs.bad 280) q) Zt q (by decide) q Zt q q (Zw q) q q (fun r' new hS => ?_) (fun c new hS => ?_))
 obtain ⟨z9,hz,_⟩:=hS
 cases hz
 obtain ⟨z9,hz,rfl,rfl⟩:=hS
 obtain rfl:=Rs.bad.inj hz
 refine ⟨_,q,q,?_⟩
 refine we_blk_pan ?_
 obtain rfl:=Oi h
 exact we_pan_g (new:=(wD mI mH mO mE vo mN vu vf mS mU)) q ⟨Zt,Zp,Zf,Zf,Zf,Zt,Zt⟩ ⟨_,q,q,q⟩
 refine Rcc 8 q (Ci h q (fun h => ?_) (fun h => ?_))
 refine wc_regionP (WLP.pre 2 (Rl 2 q (WL.nil ?_)))
 obtain ⟨r81,hr81,h⟩:=bindS h
 rcases r81 with z82 | e83
 dsimp only [Rs.cs] at h
 refine WLP.wing [0,1,2,3,4,5] q q q q (f59_c _ _ _ _ _ _ _ _ _ _ _ _ _ hr81) ⟨Zl,Zl,Zt⟩ q (by decide) (Re (Re (Rg (Rf (Ro (Ro q)))))) ⟨q,q,q,q,q,q,Zt⟩ Kv q (Zw q) q q (fun r' new hS => ?_) (fun c new hS => ?_)
 obtain ⟨z9,hz,rfl,rfl⟩:=hS
 obtain rfl:=Rs.ok.inj hz
 refine ⟨_,_,q,(Re (Re (Rg (Rf (Ro (Ro q)))))),q,Kv,WLP.of ?_⟩
 refine St q (WL.nil (Rxx 1 q (we_endP ?_)))
 obtain rfl:=Oi h
 exact WE.finP (we_ret_g (new:=[.row 116 (([.pt 1 0] : List AV) ++ (vecA 16 (fun j => .n (z82.1 j)) ++ ([.n z82.2.1,.n z82.2.2.1,.n z82.2.2.2,.os 5 va] : List AV) : List AV)),.row 90 (mR mI mH mO mE 2 vo mN 4 vu),.os 42 1 vo (famE 3 vf (List.length mS)),.fam 2 1 vf (famM E2 mS),.os 2 1 vu (eM E2 mU),.os 58 6 va (eM R58 tA)]) (r0:=.d (.tu [])) (res0 q) (Le.tud Zt) q ⟨Zp,Zp,Zf,Zf,Zf,Zf,Zt⟩ ⟨_,va,q,q,q⟩)
 obtain ⟨z9,hz,_⟩:=hS
 cases hz
 dsimp only [Rs.cs] at h
 refine WLP.wing [0,1,2,3,4,5] q q q q (f59_c _ _ _ _ _ _ _ _ _ _ _ _ _ hr81) ⟨Zl,Zl,Zt⟩ q (by decide) (Re (Re (Rg (Rf (Ro (Ro q)))))) ⟨q,q,q,q,q,q,Zt⟩ Kv q (Zw q) q q (fun r' new hS => ?_) (fun c new hS => ?_)
 obtain ⟨z9,hz,_⟩:=hS
 cases hz
 obtain ⟨z9,hz,rfl,rfl⟩:=hS
 obtain rfl:=Rs.bad.inj hz
 refine ⟨_,(Re (Re (Rg (Rf (Ro (Re q)))))),Kv,?_⟩
 refine WE.sto (st':=(wD mI mH mO mE vo mN vu vf mS mU)) q (we_blk_pan ?_)
 obtain rfl:=Oi h
 exact we_pan_g (new:=(wD mI mH mO mE vo mN vu vf mS mU)) q ⟨Zt,Zp,Zf,Zf,Zf,Zt,Zt⟩ ⟨_,q,q,q⟩
 refine wc_regionP (WLP.pre 2 (Rl 2 q (WL.nil ?_)))
 obtain ⟨r85,hr85,h⟩:=bindS h
 rcases r85 with z86 | e87
 dsimp only [Rs.cs] at h
 refine WLP.wing [0,1,2,3,4,5] q q q q (f56_c _ _ _ _ _ _ _ _ _ _ _ _ _ hr85) ⟨Zl,Zl,Zt⟩ q (by decide) (Re (Re (Rg (Rf (Ro (Ro q)))))) ⟨q,q,q,q,q,q,Zt⟩ Kv q (Zw q) q q (fun r' new hS => ?_) (fun c new hS => ?_)
 obtain ⟨z9,i5_88,hz,rfl,rfl⟩:=hS
 obtain rfl:=Rs.ok.inj hz
 refine ⟨_,_,q,(Re (Re (Rg (Rf (Ro (Ro q)))))),q,Kv,WLP.of ?_⟩
 refine St q (WL.nil (Rxx 1 q (we_endP ?_)))
 obtain rfl:=Oi h
 exact WE.finP (we_ret_g (new:=[.row 116 (([.pt 1 0] : List AV) ++ (vecA 16 (fun j => .n (z86.1 j)) ++ ([.n z86.2.1,.n z86.2.2.1,.n z86.2.2.2.1,.os 5 i5_88] : List AV) : List AV)),.row 90 (mR mI mH mO mE 2 vo mN 4 vu),.os 42 1 vo (famE 3 vf (List.length mS)),.fam 2 1 vf (famM E2 mS),.os 2 1 vu (eM E2 mU),.os 58 6 i5_88 (eM R58 z86.2.2.2.2)]) (r0:=.d (.tu [])) (res0 q) (Le.tud Zt) q ⟨Zp,Zp,Zf,Zf,Zf,Zf,Zt⟩ ⟨_,i5_88,q,q,q⟩)
 obtain ⟨z9,hz,_⟩:=hS
 cases hz
 dsimp only [Rs.cs] at h
 refine WLP.wing [0,1,2,3,4,5] q q q q (f56_c _ _ _ _ _ _ _ _ _ _ _ _ _ hr85) ⟨Zl,Zl,Zt⟩ q (by decide) (Re (Re (Rg (Rf (Ro (Ro q)))))) ⟨q,q,q,q,q,q,Zt⟩ Kv q (Zw q) q q (fun r' new hS => ?_) (fun c new hS => ?_)
 obtain ⟨z9,i5_88,hz,_⟩:=hS
 cases hz
 obtain ⟨z9,hz,rfl,rfl⟩:=hS
 obtain rfl:=Rs.bad.inj hz
 refine ⟨_,(Re (Re (Rg (Rf (Ro (Re q)))))),Kv,?_⟩
 refine WE.sto (st':=(wD mI mH mO mE vo mN vu vf mS mU)) q (we_blk_pan ?_)
 obtain rfl:=Oi h
 exact we_pan_g (new:=(wD mI mH mO mE vo mN vu vf mS mU)) q ⟨Zt,Zp,Zf,Zf,Zf,Zt,Zt⟩ ⟨_,q,q,q⟩

theorem f86_c (tR : Nat → Int) (tP : Int) (tX : Int) (tD : Int) (mI : List Insn) (mH : List MHandler) (mO : List Obj) (mE : Int) (mN : List Int) (mS : List (List Int)) (mU : List Int) (tA : List Act) (x1 : Insn) {vo : Nat} {vf : Nat} {vu : Nat} {va : Nat} {r : Rs ((Nat → Int) × Int × Int × Int × (List Int) × (List Int) × (List Act))} (h : f86 tR tP tX tD mI mH mO mE mN mS mU tA x1 = some r) : CtrP Tryz.prog 86 [.pt 0 0,.d (.ag (R45 x1))] (wT tR tP tX tD va mI mH mO mE vo mN vu vf mS mU tA) (WinG 6 (fun r' new => ∃ (z : (Nat → Int) × Int × Int × Int × (List Int) × (List Int) × (List Act)) (i4 i5 : Nat),r = .ok z ∧ r' = .d (.tu []) ∧ new = [.row 116 (([.pt 1 0] : List AV) ++ (vecA 16 (fun j => .n (z.1 j)) ++ ([.n z.2.1,.n z.2.2.1,.n z.2.2.2.1,.os 5 i5] : List AV) : List AV)),.row 90 (mR mI mH mO mE 2 vo z.2.2.2.2.1 4 i4),.os 42 1 vo (famE 3 vf (List.length mS)),.fam 2 1 vf (famM E2 mS),.os 2 1 i4 (eM E2 z.2.2.2.2.2.1),.os 58 6 i5 (eM R58 z.2.2.2.2.2.2)])) (WinGP 6 (fun c new => ∃ (ee : Int),r = .bad ee ∧ c = wrongP ee ∧ new = (wD mI mH mO mE vo mN vu vf mS mU))):=by
 unfold f86 at h
 refine ctrP_intro Tryz.func86 (by kernel_rfl) q q q (fun mm φφ ww hmm => ?_)
 refine Rcl 2 q (Bd q q (Zs _) q (Rlc 11 q (Ci h q (fun h => ?_) (fun h => ?_))))
 refine Rcc 1 q (wc_regionP (WLP.pre 1 (Rl 1 q (WL.nil ?_))))
 obtain ⟨r144,hr144,h⟩:=bindS h
 rcases r144 with z145 | e146
 dsimp only [Rs.cs] at h
 refine WLP.wing [0,1,2,3,4,5] q q q q (f131_c _ _ _ _ _ _ _ _ _ _ _ _ hr144) ⟨Zl,Zt⟩ q (by decide) (Re (Re (Rg (Rf (Ro (Ro q)))))) ⟨q,q,q,q,q,q,Zt⟩ Kv q (Zw q) q q (fun r' new hS => ?_) (fun c new hS => ?_)
 obtain ⟨z9,hz,rfl,rfl⟩:=hS
 obtain rfl:=Rs.ok.inj hz
 refine ⟨_,_,q,(Re (Re (Rg (Rf (Ro (Ro q)))))),q,Kv,WLP.of ?_⟩
 refine St q (Zn (Rcl 7 q (Zq (y_build p58 z58 q q) q (Al z58 q (WL.s0 (d_store q q q q q q s58 q q) (Zw q) q (St q (Rlc 2 q (Jn1 (fun _ => [(0,.pt 0 0),(4,.pt 6 0)]) (fun c63148 => [.row 116 (([.pt 1 0] : List AV) ++ (vecA 16 (fun j => .n (z145.1 j)) ++ ([.n z145.2.1,.n z145.2.2.1,.n z145.2.2.2,.os 5 va] : List AV) : List AV)),.row 90 (mR mI mH mO mE 2 vo mN 4 vu),.os 42 1 vo (famE 3 vf (List.length mS)),.fam 2 1 vf (famM E2 mS),.os 2 1 vu (eM E2 mU),.os 58 6 va (eM R58 tA),.row 58 [.n 0,.n 0,.d (D.i .u8 (IntKind.u8.wrap x1.n)),.n c63148,.n 0,.n 0]]) h (fun _ h => ?_) (fun c63148 h => ?_)))))))))
 refine Rcc 7 q (Ci h q (fun h => ?_) (fun h => ?_))
 exact Rcl 7 q (WL.s0 (d_store q q q q q q s2 q q) (Zw q) q (St q (Rlx 1 q (En1 h))))
 exact Rcx 1 q (En1 h)
 replace h:=guardBS h
 obtain ⟨hgg150,h⟩:=h
 apply RT [_,_,_,_,_,_,_,_,_,_,.u] [7,10] [[.row 116 (([.pt 1 0] : List AV) ++ (vecA 16 (fun j => .n (z145.1 j)) ++ ([.n z145.2.1,.n z145.2.2.1,.n z145.2.2.2,.os 5 va] : List AV) : List AV)),.row 90 (mR mI mH mO mE 2 vo mN 4 vu),.os 42 1 vo (famE 3 vf (List.length mS)),.fam 2 1 vf (famM E2 mS),.os 2 1 vu (eM E2 mU),.os 58 6 (va + 1) (eM R58 (tA ++ [(Act.mk 0 0 (IntKind.u8.wrap x1.n) c63148 0 0)])),.row 58 [.n 0,.n 0,.d (D.i .u8 (IntKind.u8.wrap x1.n)),.n c63148,.n 0,.n 0]],[.row 116 (([.pt 1 0] : List AV) ++ (vecA 16 (fun j => .n (z145.1 j)) ++ ([.n z145.2.1,.n z145.2.2.1,.n z145.2.2.2,.os 5 (va + 1)] : List AV) : List AV)),.row 90 (mR mI mH mO mE 2 vo mN 4 vu),.os 42 1 vo (famE 3 vf (List.length mS)),.fam 2 1 vf (famM E2 mS),.os 2 1 vu (eM E2 mU),.os 58 6 (va + 1) (eM R58 (tA ++ [(Act.mk 0 0 (IntKind.u8.wrap x1.n) c63148 0 0)])),.row 58 [.n 0,.n 0,.d (D.i .u8 (IntKind.u8.wrap x1.n)),.n c63148,.n 0,.n 0]]] [([],[0],[0,1]),([],[0],[0]),([1],[],[0]),([2],[],[0]),([3],[],[0]),([],[4],[0]),([5],[],[0]),([4,6],[],[0]),([0],[],[1]),([8],[],[1]),([9,7],[],[1])] (by kernel_rfl) (by kernel_rfl) q q
 refine ⟨?_,?_,?_,?_,?_,?_,?_,?_,?_,?_,?_,Zt⟩
 exact ⟨O2 q (fun _ => q) q q,O2 q (fun _ => q) q q,Zt⟩
 exact O1 q (fun _ => q) q q
 exact O1 q (fun _ => q) q q
 exact O1 q (fun _ => q) q q
 exact O1 q (fun _ => q) q q
 exact O1 q (fun _ => q) q q
 refine ⟨fun F => ?_,Zt⟩
 exact WL.s ((NewOs.data (n_buildSlice l50 z58 q (by decide) (by decide) q q q (by decide)) (by exact encA_map E58_eq [(Act.mk 0 0 (IntKind.u8.wrap x1.n) c63148 0 0)])).does) (Zw q) q q (Zd q q q)
 refine ⟨fun F => ?_,Zt⟩
 exact WL.s (d_appendL R58 tA [(Act.mk 0 0 (IntKind.u8.wrap x1.n) c63148 0 0)] l50 z58 q (by decide) q q q q (Src.dataL Zl E58_eq (fun _ => q)) (fun _ => q) (fun _ => q) hgg150) (Zw q) q q (Zd q q q)
 exact O1 q (fun _ => q) q q
 exact O1 q (fun _ => q) q q
 refine ⟨fun F => ?_,Zt⟩
 exact WL.s0 (d_store1 q q q (one_os q) s50 q) (Zw q) q (WL.done0 q q)
 refine Rxx 1 q (we_endP ?_)
 obtain rfl:=Oi h
 exact WE.finP (we_ret_g (new:=[.row 116 (([.pt 1 0] : List AV) ++ (vecA 16 (fun j => .n (z145.1 j)) ++ ([.n z145.2.1,.n z145.2.2.1,.n z145.2.2.2,.os 5 (va + 1)] : List AV) : List AV)),.row 90 (mR mI mH mO mE 2 vo mN 4 vu),.os 42 1 vo (famE 3 vf (List.length mS)),.fam 2 1 vf (famM E2 mS),.os 2 1 vu (eM E2 mU),.os 58 6 (va + 1) (eM R58 (tA ++ [(Act.mk 0 0 (IntKind.u8.wrap x1.n) c63148 0 0)]))]) (r0:=.d (.tu [])) (res0 q) (Le.tud Zt) q ⟨Zp,Zp,Zf,Zf,Zf,Zf,Zt⟩ ⟨_,vu,(va + 1),q,q,q⟩)
 obtain ⟨z9,hz,_⟩:=hS
 cases hz
 dsimp only [Rs.cs] at h
 refine WLP.wing [0,1,2,3,4,5] q q q q (f131_c _ _ _ _ _ _ _ _ _ _ _ _ hr144) ⟨Zl,Zt⟩ q (by decide) (Re (Re (Rg (Rf (Ro (Ro q)))))) ⟨q,q,q,q,q,q,Zt⟩ Kv q (Zw q) q q (fun r' new hS => ?_) (fun c new hS => ?_)
 obtain ⟨z9,hz,_⟩:=hS
 cases hz
 obtain ⟨z9,hz,rfl,rfl⟩:=hS
 obtain rfl:=Rs.bad.inj hz
 refine ⟨_,(Re (Re (Rg (Rf (Ro (Re q)))))),Kv,?_⟩
 refine WE.sto (st':=(wD mI mH mO mE vo mN vu vf mS mU)) q (we_seq_pan (we_blk_pan ?_))
 obtain rfl:=Oi h
 exact we_pan_g (new:=(wD mI mH mO mE vo mN vu vf mS mU)) q ⟨Zt,Zp,Zf,Zf,Zf,Zt,Zt⟩ ⟨_,q,q,q⟩
 refine Rcc 8 q (Ci h q (fun h => ?_) (fun h => ?_))
 refine Rcc 1 q (wc_region_draw (by kernel_rfl) (by kernel_rfl) (Rq 6 q ?_))
 replace h:=guardBS h
 obtain ⟨hgg151,h⟩:=h
 refine WQ.qn (y_indexAddra ar39 q q (vecOk_0 hgg151) (vecOk_1 hgg151)) q (WQ.qn (y_loadV (off:=1) (n:=16) (fun j => .n (tR j)) q q a2 q hgg151) q (Rq 1 q (WQ.nil (Rxc 2 q (wc_regionP (WLP.pre 1 (Rl 1 q (WL.nil ?_))))))))
 obtain ⟨r152,hr152,h⟩:=bindS h
 rcases r152 with z153 | e154
 dsimp only [Rs.cs] at h
 refine WLP.wing [0,1,2,3,4,5] q q q q (f131_c _ _ _ _ _ _ _ _ _ _ _ _ hr152) ⟨Zl,Zt⟩ q (by decide) (Re (Re (Rg (Rf (Ro (Ro q)))))) ⟨q,q,q,q,q,q,Zt⟩ Kv q (Zw q) q q (fun r' new hS => ?_) (fun c new hS => ?_)
 obtain ⟨z9,hz,rfl,rfl⟩:=hS
 obtain rfl:=Rs.ok.inj hz
 refine ⟨_,_,q,(Re (Re (Rg (Rf (Ro (Ro q)))))),q,Kv,WLP.of ?_⟩
 refine St q (Zn (Rcc 1 q ?_))
 replace h:=guardBS h
 obtain ⟨hgg156,h⟩:=h
 apply RT [_,_,_,_,_,_,_,_,_,_,_,_,_,_,_,_,.u] [13,16] [[.row 116 (([.pt 1 0] : List AV) ++ (vecA 16 (fun j => .n (z153.1 j)) ++ ([.n z153.2.1,.n z153.2.2.1,.n z153.2.2.2,.os 5 va] : List AV) : List AV)),.row 90 (mR mI mH mO mE 2 vo mN 4 vu),.os 42 1 vo (famE 3 vf (List.length mS)),.fam 2 1 vf (famM E2 mS),.os 2 1 (vu + 1) (eM E2 (mU ++ [(tR (Int.toNat x1.a))])),.os 58 6 va (eM R58 tA)],[.row 116 (([.pt 1 0] : List AV) ++ (vecA 16 (fun j => .n (z153.1 j)) ++ ([.n z153.2.1,.n z153.2.2.1,.n z153.2.2.2,.os 5 va] : List AV) : List AV)),.row 90 [.l E45 mI,.l E108 mH,.l E101 mO,.n mE,.os 2 vo,.l E2 mN,.os 4 (vu + 1)],.os 42 1 vo (famE 3 vf (List.length mS)),.fam 2 1 vf (famM E2 mS),.os 2 1 (vu + 1) (eM E2 (mU ++ [(tR (Int.toNat x1.a))])),.os 58 6 va (eM R58 tA)]] [([],[0],[0,1]),([0],[],[0,1]),([1],[],[0,1]),([2],[],[0,1]),([],[0],[0]),([4],[],[0]),([5],[],[0]),([6],[],[0]),([7],[],[0]),([8],[],[0]),([9],[],[0]),([],[5],[0]),([11],[],[0]),([10,12],[],[0]),([3],[],[1]),([14],[],[1]),([15,13],[],[1])] (by kernel_rfl) (by kernel_rfl) q q
 refine ⟨?_,?_,?_,?_,?_,?_,?_,?_,?_,?_,?_,?_,?_,?_,?_,?_,?_,Zt⟩
 exact ⟨O2 q (fun _ => q) q q,O2 q (fun _ => q) q q,Zt⟩
 exact ⟨O2 q (fun _ => q) q q,O2 q (fun _ => q) q q,Zt⟩
 exact ⟨O2 q (fun _ => q) q q,O2 q (fun _ => q) q q,Zt⟩
 exact ⟨O2 q (fun _ => q) q q,O2 q (fun _ => q) q q,Zt⟩
 exact O1 q (fun _ => q) q q
 exact O1 q (fun _ => q) q q
 exact O1 q (fun _ => q) q q
 exact O1 q (fun _ => q) q q
 exact O1 q (fun _ => q) q q
 exact O1 q (fun _ => q) q q
 exact O1 q (fun _ => q) q q
 exact O1 q (fun _ => q) q q
 refine ⟨fun F => ?_,Zt⟩
 exact WL.s ((NewOs.data (n_buildSlice l42 z2 q (by decide) (by decide) q q q (by decide)) (by exact encA_map E2_eq [(tR (Int.toNat x1.a))])).does) (Zw q) q q (Zd q q q)
 refine ⟨fun F => ?_,Zt⟩
 exact WL.s (d_appendL E2 mU [(tR (Int.toNat x1.a))] l42 z2 q (by decide) q q q q (Src.dataL Zl E2_eq (fun _ => q)) (fun _ => q) (fun _ => q) hgg156) (Zw q) q q (Zd q q q)
 exact O1 q (fun _ => q) q q
 exact O1 q (fun _ => q) q q
 refine ⟨fun F => ?_,Zt⟩
 exact WL.s0 (d_store1 q q q (one_os q) s42 q) (Zw q) q (WL.done0 q q)
 refine Rxl 8 q (Zq (y_build p58 z58 q q) q (WL.s ((NewOs.b (n_buildSlice l50 z58 q (by decide) (by decide) q q q (by decide))).does) (Zw q) q q ?_))
 replace h:=guardBS h
 obtain ⟨hgg157,h⟩:=h
 refine WL.s (d_appendL R58 tA [(Act.mk 0 0 1 (tR (Int.toNat x1.a)) 0 0)] l50 z58 q (by decide) q q q q (Src.own q) (fun _ => q) (fun _ => q) hgg157) (Zw q) q q (Rl 2 q (WL.s0 (d_store1 q q q (one_os q) s50 q) (Zw q) q (St q (Rlx 2 q (we_endP ?_)))))
 obtain rfl:=Oi h
 exact WE.finP (we_ret_g (new:=[.row 116 (([.pt 1 0] : List AV) ++ (vecA 16 (fun j => .n (z153.1 j)) ++ ([.n z153.2.1,.n z153.2.2.1,.n z153.2.2.2,.os 5 (va + 1)] : List AV) : List AV)),.row 90 [.l E45 mI,.l E108 mH,.l E101 mO,.n mE,.os 2 vo,.l E2 mN,.os 4 (vu + 1)],.os 42 1 vo (famE 3 vf (List.length mS)),.fam 2 1 vf (famM E2 mS),.os 2 1 (vu + 1) (eM E2 (mU ++ [(tR (Int.toNat x1.a))])),.os 58 6 (va + 1) (eM R58 (tA ++ [(Act.mk 0 0 1 (tR (Int.toNat x1.a)) 0 0)]))]) (r0:=.d (.tu [])) (res0 q) (Le.tud Zt) q ⟨Zp,Zp,Zf,Zf,Zf,Zf,Zt⟩ ⟨_,(vu + 1),(va + 1),q,q,q⟩)
 obtain ⟨z9,hz,_⟩:=hS
 cases hz
 dsimp only [Rs.cs] at h
 refine WLP.wing [0,1,2,3,4,5] q q q q (f131_c _ _ _ _ _ _ _ _ _ _ _ _ hr152) ⟨Zl,Zt⟩ q (by decide) (Re (Re (Rg (Rf (Ro (Ro q)))))) ⟨q,q,q,q,q,q,Zt⟩ Kv q (Zw q) q q (fun r' new hS => ?_) (fun c new hS => ?_)
 obtain ⟨z9,hz,_⟩:=hS
 cases hz
 obtain ⟨z9,hz,rfl,rfl⟩:=hS
 obtain rfl:=Rs.bad.inj hz
 refine ⟨_,(Re (Re (Rg (Rf (Ro (Re q)))))),Kv,?_⟩
 refine WE.sto (st':=(wD mI mH mO mE vo mN vu vf mS mU)) q (we_seq_pan (we_blk_pan ?_))
 obtain rfl:=Oi h
 exact we_pan_g (new:=(wD mI mH mO mE vo mN vu vf mS mU)) q ⟨Zt,Zp,Zf,Zf,Zf,Zt,Zt⟩ ⟨_,q,q,q⟩
 refine Rcl 9 q (Zq (y_len_map E2 mN e42 q q Zl) q (Rlc 4 q (Ci h q (fun h => ?_) (fun h => ?_))))
 refine wc_regionP (WLP.pre 1 (Rl 1 q (WL.nil ?_)))
 obtain ⟨r158,hr158,h⟩:=bindS h
 rcases r158 with z159 | e160
 dsimp only [Rs.cs] at h
 refine WLP.wing [0,1,2,3,4,5] q q q q (f56_c _ _ _ _ _ _ _ _ _ _ _ _ _ hr158) ⟨Zl,Zl,Zt⟩ q (by decide) (Re (Re (Rg (Rf (Ro (Ro q)))))) ⟨q,q,q,q,q,q,Zt⟩ Kv q (Zw q) q q (fun r' new hS => ?_) (fun c new hS => ?_)
 obtain ⟨z9,i5_161,hz,rfl,rfl⟩:=hS
 obtain rfl:=Rs.ok.inj hz
 refine ⟨_,_,q,(Re (Re (Rg (Rf (Ro (Ro q)))))),q,Kv,WLP.of ?_⟩
 refine St q (WL.nil (Rxx 1 q (we_endP ?_)))
 obtain rfl:=Oi h
 exact WE.finP (we_ret_g (new:=[.row 116 (([.pt 1 0] : List AV) ++ (vecA 16 (fun j => .n (z159.1 j)) ++ ([.n z159.2.1,.n z159.2.2.1,.n z159.2.2.2.1,.os 5 i5_161] : List AV) : List AV)),.row 90 (mR mI mH mO mE 2 vo mN 4 vu),.os 42 1 vo (famE 3 vf (List.length mS)),.fam 2 1 vf (famM E2 mS),.os 2 1 vu (eM E2 mU),.os 58 6 i5_161 (eM R58 z159.2.2.2.2)]) (r0:=.d (.tu [])) (res0 q) (Le.tud Zt) q ⟨Zp,Zp,Zf,Zf,Zf,Zf,Zt⟩ ⟨_,vu,i5_161,q,q,q⟩)
 obtain ⟨z9,hz,_⟩:=hS
 cases hz
 dsimp only [Rs.cs] at h
 refine WLP.wing [0,1,2,3,4,5] q q q q (f56_c _ _ _ _ _ _ _ _ _ _ _ _ _ hr158) ⟨Zl,Zl,Zt⟩ q (by decide) (Re (Re (Rg (Rf (Ro (Ro q)))))) ⟨q,q,q,q,q,q,Zt⟩ Kv q (Zw q) q q (fun r' new hS => ?_) (fun c new hS => ?_)
 obtain ⟨z9,i5_161,hz,_⟩:=hS
 cases hz
 obtain ⟨z9,hz,rfl,rfl⟩:=hS
 obtain rfl:=Rs.bad.inj hz
 refine ⟨_,(Re (Re (Rg (Rf (Ro (Re q)))))),Kv,?_⟩
 refine WE.sto (st':=(wD mI mH mO mE vo mN vu vf mS mU)) q (we_blk_pan ?_)
 obtain rfl:=Oi h
 exact we_pan_g (new:=(wD mI mH mO mE vo mN vu vf mS mU)) q ⟨Zt,Zp,Zf,Zf,Zf,Zt,Zt⟩ ⟨_,q,q,q⟩
 refine Rcc 1 q (wc_regionP (WLP.pre 1 (Rl 1 q (WL.nil ?_))))
 obtain ⟨r162,hr162,h⟩:=bindS h
 rcases r162 with z163 | e164
 dsimp only [Rs.cs] at h
 refine WLP.wing [0,1,2,3,4,5] q q q q (f131_c _ _ _ _ _ _ _ _ _ _ _ _ hr162) ⟨Zl,Zt⟩ q (by decide) (Re (Re (Rg (Rf (Ro (Ro q)))))) ⟨q,q,q,q,q,q,Zt⟩ Kv q (Zw q) q q (fun r' new hS => ?_) (fun c new hS => ?_)
 obtain ⟨z9,hz,rfl,rfl⟩:=hS
 obtain rfl:=Rs.ok.inj hz
 refine ⟨_,_,q,(Re (Re (Rg (Rf (Ro (Ro q)))))),q,Kv,WLP.of ?_⟩
 refine St q (Zn (Rcc 1 q ?_))
 obtain ⟨x166,hx166,h⟩:=bindS h
 replace h:=guardBS h
 obtain ⟨hgg167,h⟩:=h
 apply RT [_,_,_,_,_,_,_,_,_,_,_,_,_,_,_,_,.u] [16] [[.row 116 (([.pt 1 0] : List AV) ++ (vecA 16 (fun j => .n ((vset z163.1 (Int.toNat x1.d) x166) j)) ++ ([.n z163.2.1,.n z163.2.2.1,.n z163.2.2.2,.os 5 va] : List AV) : List AV)),.row 90 (mR mI mH mO mE 2 vo mN 4 vu),.os 42 1 vo (famE 3 vf (List.length mS)),.fam 2 1 vf (famM E2 mS),.os 2 1 vu (eM E2 mU),.os 58 6 va (eM R58 tA)]] [([],[0],[0]),([],[3],[0]),([1],[],[0]),([],[0],[0]),([3],[],[0]),([4],[],[0]),([5],[],[0]),([6],[],[0]),([7],[],[0]),([8],[],[0]),([9],[],[0]),([10],[],[0]),([0],[],[0]),([12],[],[0]),([13],[],[0]),([14,2],[],[0]),([15,11],[],[0])] (by kernel_rfl) (by kernel_rfl) q q
 refine ⟨?_,?_,?_,?_,?_,?_,?_,?_,?_,?_,?_,?_,?_,?_,?_,?_,?_,Zt⟩
 exact O1 q (fun _ => q) q q
 exact O1 q (fun _ => q) q q
 exact O1 q (fun _ => q) q q
 exact O1 q (fun _ => q) q q
 exact O1 q (fun _ => q) q q
 exact O1 q (fun _ => q) q q
 exact O1 q (fun _ => q) q q
 exact O1 q (fun _ => q) q q
 exact O1 q (fun _ => q) q q
 exact O1 q (fun _ => q) q q
 refine ⟨fun F => ?_,Zt⟩
 exact Zq (y_indexAddr e42 q Zl q (idx_nonneg hx166) (idx_row E2_eq hx166) q) q (Zd q q q)
 exact O1 q (fun _ => q) q q
 exact O1 q (fun _ => q) q q
 exact O1 q (fun _ => q) q q
 exact O1 q (fun _ => q) q q
 refine ⟨fun F => ?_,Zt⟩
 exact Zq (y_indexAddra ar39 q q (vecOk_0 hgg167) (vecOk_1 hgg167)) q (Zd q q q)
 refine ⟨fun F => ?_,Zt⟩
 exact WL.s0 (d_storeV (off:=1) (n:=16) (cs':=(([.pt 1 0] : List AV) ++ (vecA 16 (fun j => .n ((vset z163.1 (Int.toNat x1.d) x166) j)) ++ ([.n z163.2.1,.n z163.2.2.1,.n z163.2.2.2,.os 5 va] : List AV) : List AV))) (fun x => .n x) z163.1 x166 q q q (one_ok q) s2 q q hgg167 q) (Zw q) q (WL.done0 q q)
 refine Rxc 2 q ?_
 obtain ⟨x168,hx168,h⟩:=bindS h
 replace h:=guardBS h
 obtain ⟨hgg169,h⟩:=h
 apply RT [_,_,_,_,_,_,_,_,_,_,_,_,_,_,_,_,_,_,_,.u] [16,19] [[.row 116 (([.pt 1 0] : List AV) ++ (vecA 16 (fun j => .n ((vset z163.1 (Int.toNat x1.d) x166) j)) ++ ([.n z163.2.1,.n z163.2.2.1,.n z163.2.2.2,.os 5 va] : List AV) : List AV)),.row 90 (mR mI mH mO mE 2 vo mN 4 vu),.os 42 1 vo (famE 3 vf (List.length mS)),.fam 2 1 vf (famM E2 mS),.os 2 1 vu (eM E2 mU),.os 58 6 (va + 1) (eM R58 (tA ++ [(Act.mk 0 0 2 x168 0 0)]))],[.row 116 (([.pt 1 0] : List AV) ++ (vecA 16 (fun j => .n ((vset z163.1 (Int.toNat x1.d) x166) j)) ++ ([.n z163.2.1,.n z163.2.2.1,.n z163.2.2.2,.os 5 (va + 1)] : List AV) : List AV)),.row 90 (mR mI mH mO mE 2 vo mN 4 vu),.os 42 1 vo (famE 3 vf (List.length mS)),.fam 2 1 vf (famM E2 mS),.os 2 1 vu (eM E2 mU),.os 58 6 (va + 1) (eM R58 (tA ++ [(Act.mk 0 0 2 x168 0 0)]))]] [([],[0],[0,1]),([],[0],[0]),([1],[],[0]),([2],[],[0]),([3],[],[0]),([],[0],[0]),([5],[],[0]),([6],[],[0]),([7],[],[0]),([8],[],[0]),([9],[],[0]),([10],[],[0]),([11],[],[0]),([12],[],[0]),([13],[],[0]),([14],[],[0]),([4,15],[],[0]),([0],[],[1]),([17],[],[1]),([18,16],[],[1])] (by kernel_rfl) (by kernel_rfl) q q
 refine ⟨?_,?_,?_,?_,?_,?_,?_,?_,?_,?_,?_,?_,?_,?_,?_,?_,?_,?_,?_,?_,Zt⟩
 exact ⟨O2 q (fun _ => q) q q,O2 q (fun _ => q) q q,Zt⟩
 exact O1 q (fun _ => q) q q
 exact O1 q (fun _ => q) q q
 exact O1 q (fun _ => q) q q
 exact O1 q (fun _ => q) q q
 exact O1 q (fun _ => q) q q
 exact O1 q (fun _ => q) q q
 exact O1 q (fun _ => q) q q
 exact O1 q (fun _ => q) q q
 exact O1 q (fun _ => q) q q
 exact O1 q (fun _ => q) q q
 exact O1 q (fun _ => q) q q
 refine ⟨fun F => ?_,Zt⟩
 exact Zq (y_indexAddr e42 q Zl q (idx_nonneg hx168) (idx_row E2_eq hx168) q) q (Zd q q q)
 exact O1 q (fun _ => q) q q
 refine ⟨fun F => ?_,Zt⟩
 exact Zq (y_build p58 z58 q q) q (Zd q q q)
 refine ⟨fun F => ?_,Zt⟩
 exact WL.s ((NewOs.data (n_buildSlice l50 z58 q (by decide) (by decide) q q q (by decide)) (by exact encA_map E58_eq [(Act.mk 0 0 2 x168 0 0)])).does) (Zw q) q q (Zd q q q)
 refine ⟨fun F => ?_,Zt⟩
 exact WL.s (d_appendL R58 tA [(Act.mk 0 0 2 x168 0 0)] l50 z58 q (by decide) q q q q (Src.dataL Zl E58_eq (fun _ => q)) (fun _ => q) (fun _ => q) hgg169) (Zw q) q q (Zd q q q)
 exact O1 q (fun _ => q) q q
 exact O1 q (fun _ => q) q q
 refine ⟨fun F => ?_,Zt⟩
 exact WL.s0 (d_store1 q q q (one_os q) s50 q) (Zw q) q (WL.done0 q q)
 refine Rxc 1 q ?_
 replace h:=guardBS h
 obtain ⟨hgg170,h⟩:=h
 apply RT [_,_,_,_,_,_,_,_,_,_,_,_,_,_,.u] [14] [[.row 116 (([.pt 1 0] : List AV) ++ (vecA 16 (fun j => .n ((vset z163.1 (Int.toNat x1.d) x166) j)) ++ ([.n z163.2.1,.n z163.2.2.1,.n z163.2.2.2,.os 5 (va + 1)] : List AV) : List AV)),.row 90 [.l E45 mI,.l E108 mH,.l E101 mO,.n mE,.os 2 vo,.l E2 (sliceF mN 1 (List.length mN : Int)),.os 4 vu],.os 42 1 vo (famE 3 vf (List.length mS)),.fam 2 1 vf (famM E2 mS),.os 2 1 vu (eM E2 mU),.os 58 6 (va + 1) (eM R58 (tA ++ [(Act.mk 0 0 2 x168 0 0)]))]] [([],[0],[0]),([0],[],[0]),([1],[],[0]),([2],[],[0]),([],[0],[0]),([4],[],[0]),([5],[],[0]),([6],[],[0]),([7],[],[0]),([8],[],[0]),([9],[],[0]),([10],[],[0]),([3],[],[0]),([12],[],[0]),([13,11],[],[0])] (by kernel_rfl) (by kernel_rfl) q q
 refine ⟨?_,?_,?_,?_,?_,?_,?_,?_,?_,?_,?_,?_,?_,?_,?_,Zt⟩
 exact O1 q (fun _ => q) q q
 exact O1 q (fun _ => q) q q
 exact O1 q (fun _ => q) q q
 exact O1 q (fun _ => q) q q
 exact O1 q (fun _ => q) q q
 exact O1 q (fun _ => q) q q
 exact O1 q (fun _ => q) q q
 exact O1 q (fun _ => q) q q
 exact O1 q (fun _ => q) q q
 exact O1 q (fun _ => q) q q
 exact O1 q (fun _ => q) q q
 refine ⟨fun F => ?_,Zt⟩
 exact Zq (y_sliceL E2 mN (l:=1) (h:=(List.length mN : Int)) e42 q Zl ⟨_,q⟩ q hgg170 (fun _ => q)) q (Zd q q q)
 exact O1 q (fun _ => q) q q
 exact O1 q (fun _ => q) q q
 refine ⟨fun F => ?_,Zt⟩
 exact WL.s0 (d_store q q q q q q s42 q q) (Zw q) q (WL.done0 q q)
 refine Rxx 1 q (we_endP ?_)
 obtain rfl:=Oi h
 exact WE.finP (we_ret_g (new:=[.row 116 (([.pt 1 0] : List AV) ++ (vecA 16 (fun j => .n ((vset z163.1 (Int.toNat x1.d) x166) j)) ++ ([.n z163.2.1,.n z163.2.2.1,.n z163.2.2.2,.os 5 (va + 1)] : List AV) : List AV)),.row 90 [.l E45 mI,.l E108 mH,.l E101 mO,.n mE,.os 2 vo,.l E2 (sliceF mN 1 (List.length mN : Int)),.os 4 vu],.os 42 1 vo (famE 3 vf (List.length mS)),.fam 2 1 vf (famM E2 mS),.os 2 1 vu (eM E2 mU),.os 58 6 (va + 1) (eM R58 (tA ++ [(Act.mk 0 0 2 x168 0 0)]))]) (r0:=.d (.tu [])) (res0 q) (Le.tud Zt) q ⟨Zp,Zp,Zf,Zf,Zf,Zf,Zt⟩ ⟨_,vu,(va + 1),q,q,q⟩)
 obtain ⟨z9,hz,_⟩:=hS
 cases hz
 dsimp only [Rs.cs] at h
 refine WLP.wing [0,1,2,3,4,5] q q q q (f131_c _ _ _ _ _ _ _ _ _ _ _ _ hr162) ⟨Zl,Zt⟩ q (by decide) (Re (Re (Rg (Rf (Ro (Ro q)))))) ⟨q,q,q,q,q,q,Zt⟩ Kv q (Zw q) q q (fun r' new hS => ?_) (fun c new hS => ?_)
 obtain ⟨z9,hz,_⟩:=hS
 cases hz
 obtain ⟨z9,hz,rfl,rfl⟩:=hS
 obtain rfl:=Rs.bad.inj hz
 refine ⟨_,(Re (Re (Rg (Rf (Ro (Re q)))))),Kv,?_⟩
 refine WE.sto (st':=(wD mI mH mO mE vo mN vu vf mS mU)) q (we_seq_pan (we_blk_pan ?_))
 obtain rfl:=Oi h
 exact we_pan_g (new:=(wD mI mH mO mE vo mN vu vf mS mU)) q ⟨Zt,Zp,Zf,Zf,Zf,Zt,Zt⟩ ⟨_,q,q,q⟩

end Go.Proofs.YtkbahggepncliaaGreatDoor
