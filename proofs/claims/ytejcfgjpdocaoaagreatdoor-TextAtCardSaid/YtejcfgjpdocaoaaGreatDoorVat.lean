/- The walks of functions that this law reaches. -/
import Derived.Test.YtejcfgjpdocaoaaGreatDoorH
set_option linter.unusedVariables false
set_option linter.unusedSimpArgs false
set_option linter.unusedSectionVars false
set_option linter.unnecessarySimpa false
set_option maxHeartbeats 4000000
set_option maxRecDepth 100000
namespace Go.Proofs.YtejcfgjpdocaoaaGreatDoor
open Tryz
open Go Go.Sk

theorem f24s_c(a:aq→Option (Int))(e0:aq)(g:∀(x0:aq)(r:Int),a x0=some r→Pu prog 24 [.ag (R80 x0)] (.i .i64 r)){r:Int}(h:f24s a e0=some r):Pu prog 24 [.ag (R80 e0)] (.i .i64 r):=by
 unfold f24s at h
 refine fI func24 λ_ _=>?_
 refine Rcl 2 q (Bd q q (Zs _) q (Rlc 8 q (Jn1 (λc=> [(3, .n c)]) (λ_=> []) h (λj h=>?_) λc h=>?_)))
 refine Rcc 6 q (Ln2 (λe f=> [(1, .d (.pc (R80 e0))),(3, .n e),(4, .n f)]) (λ_ _=> []) (f24s_l1 a e0 j) h (λ_ _ h=>by rw[f24s_l1] at h;cases h) λn e f h=>?_)
 rw[f24s_l1] at h
 refine Rcl 6 q (Zq (ab E80 e0.l e73 q q Zl) q (Rl 2 q ?_))
 refine AG 3 10 13 3 3 ?_
 refine Rlc 2 q (Ci h q (λh=>?_) λh=>?_)
 refine Rcl 9 q (Ix h e73 eC q Zl q q λm _ h=>(Rl 1 q ?_))
 obtain⟨o,k,h⟩:=ac h
 exact wF Z4 (g _ _ k) Lw Z3 (Rlx 10 q (Fn2 h))
 exact Rcx 4 q (En1 h)
 exact Rcx 7 q (FA h)

theorem f24_c:∀(n:Nat)(x0:aq){r:Int},f24 n x0=some r→Pu prog 24 [.ag (R80 x0)] (.i .i64 r)
 |0,_,_,h=>by cases h
 |n+1,x0,_,h=>f24s_c (f24 n) x0 (λx0 _ h=>f24_c n x0 h) h

theorem f24w_c{x0:aq}{r:Int}(h:f24w x0=some r):Pu prog 24 [.ag (R80 x0)] (.i .i64 r):=f24_c (mv x0) x0 h

theorem f8_c{t0:af}{r:Bool}(h:f8 t0=some r):Pu prog 8 [.ag (R33 t0)] (.b r):=by
 unfold f8 at h
 refine fI func8 λ_ _=>?_
 refine Rcl 2 q (Bd q q (Zs _) q (Rll 7 q (Zq (ab E59 t0.insns e22 q q Zl) q (Rl 2 q (Zq (ab E83 t0.handlers e23 q q Zl) q (Rl 3 q (Zq (ab ce t0.loops e24 q q Zl) q (Rl 3 q (Zq (ab E65 t0.selects e25 q q Zl) q (Rl 3 q (Zq (ab E54 t0.lists e26 q q Zl) q (Rl 3 q (Zq (ab E67 t0.objs e27 q q Zl) q (Rl 3 q (Zq (ab E93 t0.inits e28 q q Zl) q (Rl 3 q (Zq (ab E70 t0.tasks e29 q q Zl) q (Rl 3 q (Zq (ab E75 t0.prots e30 q q Zl) q (Rl 3 q (Zq (ab cv t0.checks e31 q q Zl) q (Rlc 11 q (Ci h q (λh=>?_) λh=>?_)))))))))))))))))))))))
 exact Rcx 7 q (FA h)
 refine Rcc 2 q (Jn1 (λe=> [(1, .d (.pc (R33 t0))),(3, .n e)]) (λ_=> []) h (λP h=>?_) λe h=>?_)
 refine Rcc 6 q (Ln2 (λf g=> [(1, .d (.pc (R33 t0))),(3, .n f),(4, .n g)]) (λ_ _=> []) (f8_l1 t0 P) h (λ_ _ h=>by rw[f8_l1] at h;cases h) λn f g h=>?_)
 rw[f8_l1] at h
 refine Rcl 6 q (Zq (ab E65 t0.selects e25 q q Zl) q (Rlc 3 q (Ci h q (λh=>?_) λh=>?_)))
 exact Rcl 9 q (Ix h e25 mD q Zl q q λQ _ h=>(Rl 2 q (Zq (ab dy Q.alts e63 q q Zl) q (Rlx 10 q (Fn2 h)))))
 exact Rcx 4 q (En1 h)
 refine Jn1 (λj=> [(1, .d (.pc (R33 t0))),(3, .n j)]) (λ_=> []) h (λR h=>?_) (λj h=>?_)
 refine Rcc 6 q (Ln2 (λk m=> [(1, .d (.pc (R33 t0))),(3, .n k),(5, .n m)]) (λ_ _=> []) (f8_l2 t0 R) h (λ_ _ h=>by rw[f8_l2] at h;cases h) λn k m h=>?_)
 rw[f8_l2] at h
 refine Rcl 6 q (Zq (ab E54 t0.lists e26 q q Zl) q (Rlc 3 q (Ci h q (λh=>?_) λh=>?_)))
 exact Rcl 9 q (Ix h e26 mE q Zl q q λS _ h=>(Rl 1 q (Zq (ab E3 S e54 q q Zl) q (Rlx 10 q (Fn2 h)))))
 exact Rcx 4 q (En1 h)
 refine Jn1 (λo=> [(1, .d (.pc (R33 t0))),(3, .n o)]) (λ_=> []) h (λT h=>?_) (λo h=>?_)
 refine Rcc 6 q (Ln2 (λp t=> [(1, .d (.pc (R33 t0))),(3, .n p),(6, .n t)]) (λ_ _=> []) (f8_l3 t0 T) h (λ_ _ h=>by rw[f8_l3] at h;cases h) λn p t h=>?_)
 rw[f8_l3] at h
 refine Rcl 6 q (Zq (ab E67 t0.objs e27 q q Zl) q (Rlc 3 q (Ci h q (λh=>?_) λh=>?_)))
 refine Rcc 4 q (ax kR kR (Rq 4 q ?_))
 obtain⟨U,w,h⟩:=ac h
 refine WQ.qn (ah e27 q Zl q (ai w) (aw bJ w) q) q (Rq 2 q (WQ.qn (ab E3 U.set_ e54 q q Zl) q (Rq 4 q ?_)))
 obtain⟨bb,x,h⟩:=ac h
 exact WQ.qn (ah e27 q Zl q (ai x) (aw bJ x) q) q (Rq 2 q (WQ.qn (mI q q q) q (WQ.qn (ru q q dC q) q (WQ.qn (mJ q q q) q (Rq 2 q (WQ.nil (Rxx 7 q (Fn2 h))))))))
 exact Rcx 4 q (En1 h)
 refine Jn1 (λy=> [(1, .d (.pc (R33 t0))),(3, .n y)]) (λ_=> []) h (λV h=>?_) (λy h=>?_)
 refine Rcc 6 q (Ln2 (λA a=> [(1, .d (.pc (R33 t0))),(3, .n A),(7, .n a)]) (λ_ _=> []) (f8_l4 t0 V) h (λ_ _ h=>by rw[f8_l4] at h;cases h) λn A a h=>?_)
 rw[f8_l4] at h
 refine Rcl 6 q (Zq (ab E70 t0.tasks e29 q q Zl) q (Rl 2 q ?_))
 refine AG 3 114 117 3 3 ?_
 refine Rlc 2 q (Ci h q (λh=>?_) λh=>?_)
 refine Rcc 2 q (Jn1 (λB=> [(1, .d (.pc (R33 t0))),(3, .n B),(7, .n a)]) (λ_=> []) h (λ_ h=>?_) λB h=>?_)
 refine Rcc 1 q (Jn1 (λC=> [(1, .d (.pc (R33 t0))),(3, .n C),(7, .n a)]) (λ_=> []) h (λW h=>?_) λC h=>?_)
 refine Rcc 6 q (Ln2 (λE F=> [(1, .d (.pc (R33 t0))),(3, .n E),(7, .n a),(8, .n F)]) (λ_ _=> []) (f8_l5 t0 a W) h (λ_ _ h=>by rw[f8_l5] at h;cases h) λna E F h=>?_)
 rw[f8_l5] at h
 refine Rcl 7 q (Ix h e29 dx q Zl q q λX _ h=>(Rl 2 q (Zq (ab E72 X.entries e68 q q Zl) q (Rl 2 q ?_))))
 refine AG 3 129 132 3 3 ?_
 refine Rlc 2 q (Ci h q (λh=>?_) λh=>?_)
 refine Rcc 4 q (ax kR kR (Rq 4 q ?_))
 obtain⟨bk,G,h⟩:=ac h
 refine WQ.qn (ah e29 q Zl q (ai G) (aw dx G) q) q (Rq 3 q ?_)
 obtain⟨Y,H,h⟩:=ac h
 refine WQ.qn (ah e68 q Zl q (ai H) (aw fx H) q) q (Rq 2 q (WQ.qn (ab E3 Y.ins e54 q q Zl) q (Rq 4 q ?_)))
 obtain⟨bs,I,h⟩:=ac h
 refine WQ.qn (ah e29 q Zl q (ai I) (aw dx I) q) q (Rq 3 q ?_)
 obtain⟨Z,J,h⟩:=ac h
 exact WQ.qn (ah e68 q Zl q (ai J) (aw fx J) q) q (Rq 2 q (WQ.qn (ab E3 Z.outs e54 q q Zl) q (Rq 3 q (WQ.nil (Rxx 7 q (Fn2 h))))))
 exact Rcx 4 q (En1 h)
 exact Rcl 5 q (Ix h e29 dx q Zl q q λad _ h=>(Rl 2 q (Zq (ab E72 ad.entries e68 q q Zl) q (Rlx 4 q (En1 h)))))
 exact Rcx 5 q (Fn2 h)
 exact Rcx 4 q (En1 h)
 refine Jn1 (λK=> [(3, .n K)]) (λ_=> []) h (λa0 h=>?_) (λK h=>?_)
 refine Rcc 6 q (Ln2 (λL c=> [(1, .d (.pc (R33 t0))),(3, .n L),(9, .n c)]) (λ_ _=> []) (f8_l6 t0 a0) h (λ_ _ h=>by rw[f8_l6] at h;cases h) λn L c h=>?_)
 rw[f8_l6] at h
 refine Rcl 6 q (Zq (ab E75 t0.prots e30 q q Zl) q (Rl 2 q ?_))
 refine AG 3 175 178 3 3 ?_
 refine Rlc 2 q (Ci h q (λh=>?_) λh=>?_)
 refine Rcc 2 q (Jn1 (λM=> [(1, .d (.pc (R33 t0))),(3, .n M),(9, .n c)]) (λ_=> []) h (λa1 h=>?_) λM h=>?_)
 refine Rcl 7 q (Ix h e30 fw q Zl q q λa6 _ h=>(Rl 2 q (Zq (ab E80 a6.barriers e73 q q Zl) q (Rlc 10 q (Ln2 (λN O=> [(1, .d (.pc (R33 t0))),(3, .n N),(9, .n c),(10, .n O)]) (λ_ _=> []) (f8_l7 t0 c a1) h (λ_ _ h=>by rw[f8_l7] at h;cases h) λna N O h=>?_)))))
 rw[f8_l7] at h
 refine Rcl 7 q (Ix h e30 fw q Zl q q λa7 _ h=>(Rl 2 q (Zq (ab E80 a7.barriers e73 q q Zl) q (Rl 2 q ?_))))
 refine AG 3 199 202 3 3 ?_
 refine Rl 1 q ?_
 refine AG 3 203 206 3 3 ?_
 refine Rlc 2 q (Ci h q (λh=>?_) λh=>?_)
 refine Rcl 9 q (Ix h e30 fw q Zl q q λb0 _ h=>(Rl 3 q (Ix h e73 eC q Zl q q λb1 _ h=>(Rl 1 q ?_))))
 obtain⟨b2,a',h⟩:=ac h
 exact wF Z4 (f24w_c a') Lw Z3 (Rlx 10 q (Fn2 h))
 exact Rcx 5 q (En1 h)
 exact Rcx 5 q (Fn2 h)
 exact Rcx 4 q (En1 h)
 exact Rcx 8 q (FA h)

theorem f48_c(s0:lH)(a:az→oB)(g1:FuncId)(c e:lD)(g:∀(y0:az)(r:Bool),a y0=some r→Pu prog g1 (c++ [.ag (R83 y0)]++e) (.b r)){r:Int}(h:f48 s0 a=some r):Pu prog 48 [.sl (List.map E83 s0), .fnc (.func g1) c e] (.i .i64 r):=by
 unfold f48 at h
 refine fI func48 λ_ _=>?_
 refine WC.cast 1 q (dX _ _ _) (Rcc 5 q (Jn0 [] [] h (λj h=>?_) λh=>?_))
 refine Rcl 3 q (Zq (ab E83 s0 e23 q q Zl) q (Rlc 4 q (Ln1 (λf=> [(0, .l E83 s0),(1, .fn (.func g1) (List.map AV.d c) (List.map AV.d e)),(7, .n (List.length s0:Int)),(8, .n f)]) (λ_=> []) (f48_l1 s0 a j) h (λ_ h=>by rw[f48_l1] at h;cases h) λn f h=>?_)))
 rw[f48_l1] at h
 refine Rcc 6 q (Ci h q (λh=>?_) λh=>?_)
 refine Rcl 15 q (Ix h e23 eB q Zl q q λm _ h=>(Rl 1 q ?_))
 obtain⟨o,k,h⟩:=ac h
 refine WL.fn q q q q (g _ _ k) (g' Lw) (Zw q) q q (Rlc 2 q (Ci h q (λh=>?_) λh=>?_))
 exact Rcx 12 q (FA h)
 exact Rcx 7 q (Fn1 h)
 exact Rcx 4 q (En0 h)
 exact Rcx 6 q (FA h)

theorem f49_c(h0:az)(a:Int)(c:Int):Pu prog 49 [.ag (R83 h0), .pc (E3 a), .pc (E2 c)] (.b (f49 h0 a c)):=by
 generalize h:f49 h0 a c=r
 unfold f49 at h
 refine fI func49 λ_ _=>?_
 refine Rcl 2 q (Bd q q (Zs _) q (Rll 7 q (wF Z4 (f50_c) Lw Z3 (Rl 1 q ?_))))
 apply WL.and 7 (t:=8) (d:=15)
 exact q
 intro e
 refine Rl 3 q ?_
 refine OG 3 11 14 3 3 ?_
 exact Rn 1 5
 exact Rn 7 7
 exact Rlx 4 q (FB h)

theorem f15_c{t0:af}{a:Int}{c2:Int}{r:Int×Bool}(h:f15 t0 a c2=some r):Pu prog 15 [.ag (R33 t0), .i .i64 a, .i .i64 c2] (.tu [.i .i64 r.1, .b r.2]):=by
 unfold f15 at h
 refine fI func15 λ_ _=>?_
 refine Rcl 2 q (Bd q q (Zs _) q (WL.s ((gy q q (by exact(show Les [.n a] (List.map AV.d [.i .i64 a]) from Lw))).does) (Zw q) q q (WL.s ((gy q q (by exact(show Les [.n c2] (List.map AV.d [.i .i64 c2]) from Lw))).does) (Zw q) q q (Rll 10 q ?_))))
 obtain⟨c,e,h⟩:=ac h
 refine Gg 4 11 15 c e (λh=>?_) (λh=>?_) ?_
 exact On 4 4 h
 refine Rl 1 q ?_
 obtain⟨j,f,h⟩:=ac h
 exact WL.fn q q q q (f10_c _ f) Lw (aI q q q) q q (On 2 4 h)
 refine Rl 1 q ?_
 apply WL.or 6 (t:=16) (d:=22)
 exact q
 intro k
 exact Rl 1 q (Zy (aa p86 z86 q q) q q q (Rl 1 q (WL.fn q q q q (f47_c (aT.mk t0) _) ⟨(aP (Zs _)),Zl,Zt⟩ (aI q q q) q q (Rl 2 q (WL.nil ⟨q,[_,_,_,_,_,_],q,q,q⟩)))))
 exact Rn 6 6
 refine Rlc 2 q (Ci h q (λh=>Rcx 8 q (FA h)) λh=>?_)
 refine Rcl 7 q ?_
 obtain⟨m,g,h⟩:=ac h
 refine wF Z4 (f48_c _ _ 49 [] [(.pc (E3 a)),(.pc (E2 c2))] (λz0 _ h=>by obtain rfl:=inS h;exact f49_c z0 a c2) g) ⟨Zl,(Le.fnc Zt Lw),Zt⟩ Z3 (Rlc 10 q (Ci h q (λh=>?_) λh=>?_))
 exact Rcx 8 q (FA h)
 exact Rcl 7 q (Ix h e23 eB q Zl q q λo _ h=>(Rlx 7 q (FA h)))

theorem f114_c{t0:af}{a:Int}{c2:Int}{r:Int}(h:f114 t0 a c2=some r):Pu prog 114 [.ag (R33 t0), .i .i64 a, .i .i64 c2] (.i .i64 r):=by
 unfold f114 at h
 refine fI func114 λ_ _=>?_
 refine Rcl 2 q (Bd q q (Zs _) q (Rlc 3 q (Jn0 [] [] h (λe h=>?_) λh=>?_)))
 refine Rcc 6 q (Ln1 (λc=> [(1, .n a),(2, .n c2),(3, .d (.pc (R33 t0))),(7, .n c)]) (λ_=> []) (f114_l1 t0 a c2 e) h (λ_ h=>by rw[f114_l1] at h;cases h) λn c h=>?_)
 rw[f114_l1] at h
 refine Rcl 6 q (Zq (ab E83 t0.handlers e23 q q Zl) q (Rl 2 q ?_))
 refine AG 3 14 17 3 3 ?_
 refine Rlc 2 q (Ci h q (λh=>?_) λh=>?_)
 refine Rcl 9 q (Ix h e23 eB q Zl q q λf _ h=>(Rl 1 q (Al z83 q (sS Z6 s83 Z2 (Rll 9 q ?_)))))
 refine AG 5 29 34 5 5 ?_
 refine Rl 1 q ?_
 apply WL.and 7 (t:=35) (d:=42)
 exact q
 intro g
 refine Rl 3 q ?_
 refine OG 3 38 41 3 3 ?_
 exact Rn 1 5
 exact Rn 7 7
 refine Rlc 2 q (Ci h q (λh=>Rcx 12 q (FA h)) λh=>?_)
 exact Rcx 8 q (WE.drop 0 (env':=[(1, .n a),(2, .n c2),(3, .d (.pc (R33 t0))),(7, .n (IntKind.i64.wrap (c+1)))]) Sb q q (Nat.zero_le _) (Fn1 h))
 exact Rcx 4 q (En0 h)
 exact Rcx 6 q (FA h)

theorem f52_c{t0:af}{a:Int}{c2:Int}{r:Int×Bool}(h:f52 t0 a c2=some r):Pu prog 52 [.ag (R33 t0), .i .i64 a, .i .i64 c2] (.tu [.i .i64 r.1, .b r.2]):=by
 unfold f52 at h
 refine fI func52 λ_ _=>?_
 refine Rcl 2 q (Bd q q (Zs _) q (Rll 9 q ?_))
 obtain⟨d,c,h⟩:=ac h
 refine wF Z4 (f114_c c) Lw Z3 (Rlc 10 q (Ci h q (λh=>?_) λh=>?_))
 exact Rcx 8 q (FA h)
 exact Rcl 7 q (Ix h e23 eB q Zl q q λe _ h=>(Rlx 7 q (FA h)))

theorem f16_c{t0:af}{a:Int}{c2:Int}{r:Int×Bool}(h:f16 t0 a c2=some r):Pu prog 16 [.ag (R33 t0), .i .i64 a, .i .i64 c2] (.tu [.i .i64 r.1, .b r.2]):=by
 unfold f16 at h
 refine fI func16 λ_ _=>?_
 refine Rcl 2 q (Bd q q (Zs _) q (Rll 8 q ?_))
 obtain⟨f,c,h⟩:=ac h
 refine wF Z4 (f11_c c) Lw Z3 (Rl 2 q ?_)
 apply WL.or 5 (t:=11) (d:=16)
 exact q
 intro g
 exact Rl 2 q (WL.fn q q q q (f51_c) Lw (aI q q q) q q (Rl 2 q (WL.nil ⟨q,[_,_,_,_,_],q,q,q⟩)))
 exact Rn 5 5
 refine Rlc 2 q (Ci h q (λh=>Rcx 8 q (FA h)) λh=>?_)
 refine Rcl 7 q ?_
 obtain⟨j,e,h⟩:=ac h
 exact wF Z4 (f52_c e) Lw Z3 (Rlx 7 q (FA h))

theorem f9_c{r:Bool}(h:f9=some r):Pu prog 9 [] (.v (.bool r)):=by obtain rfl:=inS h;exact qQ

theorem f4_c(t0:af)(a:Int)(c2:Int){r:Bool}(h:f4 t0 a c2=some r):Pu prog 4 [.ag (R33 t0), .i .i64 a, .i .i64 c2] (.b r):=by
 unfold f4 at h
 refine fI func4 λ_ _=>?_
 refine Rcl 2 q (Bd q q (Zs _) q (Rll 7 q ?_))
 obtain⟨o,c,h⟩:=ac h
 refine wF Z4 (f8_c c) Lw Z3 (Rlc 2 q (Ci h q (λh=>?_) λh=>?_))
 refine Rcl 2 q ?_
 obtain⟨p,e,h⟩:=ac h
 exact WL.fn q q q q (f9_c e) Zt (Zw q) q q (Rlx 5 q (FA h))
 refine Rcl 7 q ?_
 obtain⟨w,f,h⟩:=ac h
 refine wF Z4 (f15_c f) Lw Z3 (Rll 12 q ?_)
 obtain⟨x,g,h⟩:=ac h
 refine wF Z4 (f16_c g) Lw Z3 (Rll 13 q ?_)
 apply WL.and 4 (t:=31) (d:=35)
 exact q
 intro y
 exact Rl 2 q (Zy (ry underlying4 q q) q q q (Rl 1 q (WL.nil ⟨q,[_,_,_,_],q,q,q⟩)))
 exact Rn 4 4
 refine Rl 1 q ?_
 obtain⟨j,k,h⟩:=ac h
 refine Gg 2 36 38 j k (λh=>?_) (λh=>?_) ?_
 obtain⟨A,m,h⟩:=ac h
 exact WL.fn q q q q (f9_c m) Zt (aI q q q) q q (On 1 2 h)
 exact On 2 2 h
 exact Rlx 4 q (FA h)

end Go.Proofs.YtejcfgjpdocaoaaGreatDoor
