/- The walks of functions that this law reaches. -/
import Derived.Test.YtkbpoeellidgeaaGreatDoorWk
import Derived.Test.YtkbpoeellidgeaaGreatDoorWr
set_option linter.unusedVariables false
set_option linter.unusedSimpArgs false
set_option linter.unusedSectionVars false
set_option linter.unnecessarySimpa false
set_option maxHeartbeats 4000000
set_option maxRecDepth 100000
namespace Go.Proofs.YtkbpoeellidgeaaGreatDoor
open Go.Proofs.Tryz
open Go Go.Sk

theorem f42_c{a0:lI}{b1:lI}{r:Bool}(h:f42 a0 b1=some r):Pu prog 42 [.sl (List.map E3 a0), .sl (List.map E3 b1)] (.b r):=by
 unfold f42 at h
 refine fI func42 λ_ _=>?_
 refine Rcl 9 q (Zq (ab E3 a0 e51 q q Zl) q (Rl 1 q (Zq (ab E3 b1 e51 q q Zl) q (Rlc 3 q (Ci h q (λh=>?_) λh=>?_)))))
 exact Rcx 7 q (FA h)
 refine Rcc 2 q (Jn0 [] [] h (λf h=>?_) λh=>?_)
 refine Rcc 6 q (Ln1 (λa=> [(0, .l E3 a0),(1, .l E3 b1),(5, .n a)]) (λ_=> []) (f42_l1 a0 b1 f) h (λ_ h=>by rw[f42_l1] at h;cases h) λn a h=>?_)
 rw[f42_l1] at h
 refine Rcl 5 q (Zq (ab E3 a0 e51 q q Zl) q (Rlc 3 q (Ci h q (λh=>?_) λh=>?_)))
 refine Rcc 5 q (av kR kR (Rq 2 q ?_))
 obtain⟨g,c,h⟩:=ae h
 refine WQ.qn (ah e51 q Zl q (af c) (an du c) q) q (Rq 3 q ?_)
 obtain⟨j,e,h⟩:=ae h
 refine WQ.qn (ah e51 q Zl q (af e) (an du e) q) q (Rq 2 q (WQ.nil (Rxc 1 q (Ci h q (λh=>?_) λh=>?_))))
 exact Rcx 11 q (FA h)
 exact Rcx 8 q (Fn1 h)
 exact Rcx 4 q (En0 h)
 exact Rcx 6 q (FA h)

theorem f20_c:Pu prog 20 [] (.ag (R42 (f20 ))):=by
 generalize h:f20=r
 unfold f20 at h
 refine fI func20 λ_ _=>?_
 refine Rcl 2 q (Al z42 q (Rll 4 q (Zq (ac p42 z42 q q) q (sS Z6 s42 Z2 (Rlx 3 q ?_)))))
 subst h
 exact am (rs1 q (aZ q q a42 s42 q)) (ak (Zs _))

theorem f18_c{a:Int}{c:Int}:Pu prog 18 [.i .i64 a, .i .i64 c] (.ag (R59 (f18 a c))):=by
 generalize h:f18 a c=r
 unfold f18 at h
 refine fI func18 λ_ _=>?_
 refine Rcl 2 q (Al z59 q (Rll 6 q (Zq (ac p59 z59 q q) q (sS Z6 s59 Z2 (Rlx 3 q ?_)))))
 subst h
 exact am (rs1 q (aZ q q a59 s59 q)) (ak (Zs _))

theorem f21_c{t0:al}{a:lI}{r:Bool}(h:f21 t0 a=some r):Pu prog 21 [.ag (R33 t0), .sl (List.map E3 a)] (.b r):=by
 unfold f21 at h
 refine fI func21 λ_ _=>?_
 refine Rcl 2 q (Bd q q (Zs _) q (Rll 6 q ?_))
 obtain⟨f,c,h⟩:=ae h
 refine wF Z4 (f43_c c) Lw Z3 (Rl 1 q ?_)
 obtain⟨g,e,h⟩:=ae h
 exact wF Z4 (f42_c e) Lw Z3 (Rlx 4 q (FA h))

theorem f6_c{r:Bool}(h:f6=some r):Pu prog 6 [] (.b r):=by
 unfold f6 at h
 refine fI func6 λ_ _=>?_
 refine Rcl 12 q (Zq (ac p59 z59 q q) q (Zq (ac p59 z59 q q) q (Zq (ac p59 z59 q q) q (Zq (ac p59 z59 q q) q (WL.s ((NewOs.b (ad l22 z59 q dC dC q q q dC)).does) (Zw q) q q ?_)))))
 obtain⟨N,O,h⟩:=aB h
 refine WL.inl (us:=[.os 0 0]) (λrv st'=>(N ()=some r∧Le rv (.ag [.l E59 ([(ao.mk 1 1 0 0 0 0 0),(ao.mk 1 2 0 0 1 0 0),(ao.mk 9 1 1 2 0 0 0),(ao.mk 29 0 0 0 0 0 2)]++ [(ao.mk 57 0 0 0 0 0 0)]),sN,sN,sN,sN, .l E53 hO, .l E80 [(bZ.mk 0 0 3)], .n 4, .l E48 [(bJ.mk 0 0 [] 0)],sN,sN])∧SLe st' [.z, .row 33 [.l E59 ([(ao.mk 1 1 0 0 0 0 0),(ao.mk 1 2 0 0 1 0 0),(ao.mk 9 1 1 2 0 0 0),(ao.mk 29 0 0 0 0 0 2)]++ [(ao.mk 57 0 0 0 0 0 0)]),sN,sN,sN,sN, .l E53 hO, .l E80 [(bZ.mk 0 0 3)], .n 4, .l E48 [(bJ.mk 0 0 [] 0)],sN,sN], .z, .z, .z, .z])) q q q q q ?_ (Zw q) q q ?_
 refine cI func19 λ_ _ _ _=>?_
 refine Rcl 2 q (Al z33 q (Rll 5 q (Zq (ac p59 z59 q q) q (WL.s ((NewOs.b (ad l22 z59 q dC dC q q q dC)).does) (Zw q) q q ?_))))
 replace h:=aD h
 obtain⟨P,h⟩:=h
 refine WL.s (dx R59 [(ao.mk 1 1 0 0 0 0 0),(ao.mk 1 2 0 0 1 0 0),(ao.mk 9 1 1 2 0 0 0),(ao.mk 29 0 0 0 0 0 2)] [(ao.mk 57 0 0 0 0 0 0)] l22 z59 q dC q q q q (Src.own q) (λ_=>q) (λ_=>q) P) (Zw q) q q (Zq (ac p53 z53 q q) q (Zq (ac p53 z53 q q) q (WL.s ((NewOs.b (NewOs.weak (es':=List.map (a9 R53) hO) (ad l27 z53 q dC dC q q q dC) (by exact⟨⟨Zl,Zl,Zl,Zl,Le.nil,Zt⟩,⟨Zl,Zl,Zl,Zl,Le.nil,Zt⟩,Zt⟩))).does) (Zw q) q q (Zq (ac p80 z80 q q) q (WL.s ((NewOs.b (ad l28 z80 q dC dC q q q dC)).does) (Zw q) q q (Zq (ac p48 z48 q q) q ?_))))))
 refine WL.s ((NewOs.b (NewOs.weak (es':=List.map (a9 R48) [(bJ.mk 0 0 [] 0)]) (ad l29 z48 q dC dC q q q dC) (by exact⟨⟨Zl,Zl,Le.nil,Zl,Zt⟩,Zt⟩))).does) (Zw q) q q (Zq (fM p33 z33 q q) q (WL.s0 (hY q q q q q q s33 q q) (Zw q) q (St q (Rlc 2 q ?_))))
 refine WC.freezeX [6] [(1,0)] 0 _ q (ai c9 _) ⟨q,Zt⟩ ⟨_,_,q,q,Zt⟩ ?_
 refine WC.freezeX [9] [(1,5)] 3 _ q (ai cA _) ⟨q,Zt⟩ ⟨_,_,q,q,Zt⟩ ?_
 refine WC.freezeX [11] [(1,6)] 4 _ q (ai fK [(bZ.mk 0 0 3)]) ⟨q,Zt⟩ ⟨_,_,q,q,Zt⟩ ?_
 exact WC.freezeX [13] [(1,8)] 5 _ q (ai dK [(bJ.mk 0 0 [] 0)]) ⟨q,Zt⟩ ⟨_,_,q,q,Zt⟩ (WC.weak (st':=[.z, .row 33 [.l E59 ([(ao.mk 1 1 0 0 0 0 0),(ao.mk 1 2 0 0 1 0 0),(ao.mk 9 1 1 2 0 0 0),(ao.mk 29 0 0 0 0 0 2)]++ [(ao.mk 57 0 0 0 0 0 0)]),sN,sN,sN,sN, .l E53 hO, .l E80 [(bZ.mk 0 0 3)], .n 4, .l E48 [(bJ.mk 0 0 [] 0)],sN,sN], .z, .z, .z, .z]) (by exact Tv) (Rcx 1 q (ax (rs1 q (aZ q q a33 s33 q)) ⟨h,Zl,Tv⟩)))
 rintro rv C ⟨h,hr,hst⟩
 subst O
 dsimp only at h
 refine WL.cast 15 q hr (WL.weak hst (Al z33 q (sS Z6 s33 Z2 (St q (Zn (Rcl 3 q ?_))))))
 obtain⟨a,Q,h⟩:=ae h
 refine WL.fn q q q q (f7_c Q) ⟨(ak ⟨Zl,Le.nil,Le.nil,Le.nil,Le.nil,Zl,Zl,Zl,Zl,Le.nil,Le.nil,Zt⟩),Zt⟩ (Zw q) q q (Rlc 10 q (Jn1 (λI=> [(1, .fn (.func 18) [] []),(73, .d (D.b I))]) (λ_=> [.z, .row 33 [.l E59 ([(ao.mk 1 1 0 0 0 0 0),(ao.mk 1 2 0 0 1 0 0),(ao.mk 9 1 1 2 0 0 0),(ao.mk 29 0 0 0 0 0 2)]++ [(ao.mk 57 0 0 0 0 0 0)]),sN,sN,sN,sN, .l E53 hO, .l E80 [(bZ.mk 0 0 3)], .n 4, .l E48 [(bJ.mk 0 0 [] 0)],sN,sN], .z, .z, .z, .z, .row 33 [.l E59 ([(ao.mk 1 1 0 0 0 0 0),(ao.mk 1 2 0 0 1 0 0),(ao.mk 9 1 1 2 0 0 0),(ao.mk 29 0 0 0 0 0 2)]++ [(ao.mk 57 0 0 0 0 0 0)]),sN,sN,sN,sN, .l E53 hO, .l E80 [(bZ.mk 0 0 3)], .n 4, .l E48 [(bJ.mk 0 0 [] 0)],sN,sN]]) h (λ_ h=>?_) λI h=>?_))
 rcases cy (!decide (a.2.2=0)) with c|c
 replace h:=cG h c
 apply RT [_,_,_,_,_,_,_,_,_,_,_,_,_,_,_,_,_,_,_,_,_,_,_,_,_,_,_,_,_,_,_,_,_,_,_,_,_,_,_,_,_,_,_,_,_,_,_,_,_,_,_,_] [] [] [p01 5,p10 0,p10 1,p10 2,p10 2,p10 2,p20 2 5,p10 6,p10 7,p10 7,p10 7,p20 7 10,p10 11,p10 12,p10 12,p10 12,p10 12,p10 12,p20 12 17,p10 18,p10 19,p10 19,p10 19,p10 19,p20 19 23,p10 24,p10 25,p10 25,p10 25,p10 25,p10 25,p10 25,p10 25,p20 25 32,p10 33,p10 34,p10 34,p10 34,p10 34,p10 34,p10 34,p10 34,p20 34 41,p10 42,p10 43,p10 43,p10 43,p10 43,p10 43,p10 43,p10 43,p20 43 50] kR kR q q
 refine Y2 ?_
 refine zo (rc c) ?_
 refine Y9 ?_
 refine Y9 ?_
 refine Y9 ?_
 refine Y9 ?_
 refine Y9 ?_
 exact Y4 Zt
 exact En1 h
 replace h:=cH h c
 rcases cy (!decide ((List.length a.1:Int)=5)) with f|f
 replace h:=cG h f
 apply RT [_,_,_,_,_,_,_,_,_,_,_,_,_,_,_,_,_,_,_,_,_,_,_,_,_,_,_,_,_,_,_,_,_,_,_,_,_,_,_,_,_,_,_,_,_,_,_,_,_,_,_,_] [] [] [p01 5,p10 0,p10 1,p11 2 3,p20 3 2,p20 4 2,p20 2 5,p10 6,p10 7,p10 7,p10 7,p20 7 10,p10 11,p10 12,p10 12,p10 12,p10 12,p10 12,p20 12 17,p10 18,p10 19,p10 19,p10 19,p10 19,p20 19 23,p10 24,p10 25,p10 25,p10 25,p10 25,p10 25,p10 25,p10 25,p20 25 32,p10 33,p10 34,p10 34,p10 34,p10 34,p10 34,p10 34,p10 34,p20 34 41,p10 42,p10 43,p10 43,p10 43,p10 43,p10 43,p10 43,p10 43,p20 43 50] kR kR q q
 refine Y2 ?_
 refine zo (rc c) ?_
 refine Y1 ?_
 refine zo (λ_=>Zy (ab E45 a.1 e36 q q Zl) q q q (Zd q q q)) ?_
 refine Y2 ?_
 refine zo (rc f) ?_
 refine Y9 ?_
 refine Y9 ?_
 refine Y9 ?_
 refine Y9 ?_
 exact Y8 Zt
 exact En1 h
 replace h:=cH h f
 rcases cy (!decide ((List.length a.2.1:Int)=2)) with j|j
 replace h:=cG h j
 apply RT [_,_,_,_,_,_,_,_,_,_,_,_,_,_,_,_,_,_,_,_,_,_,_,_,_,_,_,_,_,_,_,_,_,_,_,_,_,_,_,_,_,_,_,_,_,_,_,_,_,_,_,_] [] [] [p01 5,p10 0,p10 1,p11 2 3,p20 3 2,p20 4 2,p20 2 5,p10 6,p11 7 4,p20 8 7,p20 9 7,p20 7 10,p10 11,p10 12,p10 12,p10 12,p10 12,p10 12,p20 12 17,p10 18,p10 19,p10 19,p10 19,p10 19,p20 19 23,p10 24,p10 25,p10 25,p10 25,p10 25,p10 25,p10 25,p10 25,p20 25 32,p10 33,p10 34,p10 34,p10 34,p10 34,p10 34,p10 34,p10 34,p20 34 41,p10 42,p10 43,p10 43,p10 43,p10 43,p10 43,p10 43,p10 43,p20 43 50] kR kR q q
 refine Y2 ?_
 refine zo (rc c) ?_
 refine Y1 ?_
 refine zo (λ_=>Zy (ab E45 a.1 e36 q q Zl) q q q (Zd q q q)) ?_
 refine Y2 ?_
 refine zo (rc f) ?_
 refine Y1 ?_
 refine zo (λ_=>Zy (ab E50 a.2.1 e37 q q Zl) q q q (Zd q q q)) ?_
 refine Y2 ?_
 refine zo (rc j) ?_
 refine Y9 ?_
 refine Y9 ?_
 refine Y9 ?_
 refine Y9 ?_
 exact Y3 Zt
 exact En1 h
 replace h:=cH h j
 obtain⟨x,g,h⟩:=ae h
 rcases cy (!decide ((List.length x:Int)=1)) with k|k
 replace h:=cG h k
 apply RT [_,_,_,_,_,_,_,_,_,_,_,_,_,_,_,_,_,_,_,_,_,_,_,_,_,_,_,_,_,_,_,_,_,_,_,_,_,_,_,_,_,_,_,_,_,_,_,_,_,_,_,_] [] [] [p01 5,p10 0,p10 1,p11 2 3,p20 3 2,p20 4 2,p20 2 5,p10 6,p11 7 4,p20 8 7,p20 9 7,p20 7 10,p10 11,p11 12 4,p20 13 12,p20 14 12,p20 15 12,p20 16 12,p20 12 17,p10 18,p10 19,p10 19,p10 19,p10 19,p20 19 23,p10 24,p10 25,p10 25,p10 25,p10 25,p10 25,p10 25,p10 25,p20 25 32,p10 33,p10 34,p10 34,p10 34,p10 34,p10 34,p10 34,p10 34,p20 34 41,p10 42,p10 43,p10 43,p10 43,p10 43,p10 43,p10 43,p10 43,p20 43 50] kR kR q q
 refine Y2 ?_
 refine zo (rc c) ?_
 refine Y1 ?_
 refine zo (λ_=>Zy (ab E45 a.1 e36 q q Zl) q q q (Zd q q q)) ?_
 refine Y2 ?_
 refine zo (rc f) ?_
 refine Y1 ?_
 refine zo (λ_=>Zy (ab E50 a.2.1 e37 q q Zl) q q q (Zd q q q)) ?_
 refine Y2 ?_
 refine zo (rc j) ?_
 refine Y1 ?_
 refine zo (λ_=>Zy (ah e37 q Zl q (af g) (an c5 g) q) q q q (Zd q q q)) ?_
 refine Y1 ?_
 refine zo (λ_=>Zy (ab E42 x e50 q q Zl) q q q (Zd q q q)) ?_
 refine Y2 ?_
 refine zo (rc k) ?_
 refine Y9 ?_
 refine Y9 ?_
 refine Y9 ?_
 exact Y5 Zt
 exact En1 h
 replace h:=cH h k
 obtain⟨R,m,h⟩:=ae h
 rcases cy R.reached with w|w
 replace h:=cG h w
 apply RT [_,_,_,_,_,_,_,_,_,_,_,_,_,_,_,_,_,_,_,_,_,_,_,_,_,_,_,_,_,_,_,_,_,_,_,_,_,_,_,_,_,_,_,_,_,_,_,_,_,_,_,_] [] [] [p01 5,p10 0,p10 1,p11 2 3,p20 3 2,p20 4 2,p20 2 5,p10 6,p11 7 4,p20 8 7,p20 9 7,p20 7 10,p10 11,p11 12 4,p20 13 12,p20 14 12,p20 15 12,p20 16 12,p20 12 17,p10 18,p11 19 3,p20 20 19,p20 21 19,p20 22 19,p20 19 23,p10 24,p10 25,p10 25,p10 25,p10 25,p10 25,p10 25,p10 25,p20 25 32,p10 33,p10 34,p10 34,p10 34,p10 34,p10 34,p10 34,p10 34,p20 34 41,p10 42,p10 43,p10 43,p10 43,p10 43,p10 43,p10 43,p10 43,p20 43 50] kR kR q q
 refine Y2 ?_
 refine zo (rc c) ?_
 refine Y1 ?_
 refine zo (λ_=>Zy (ab E45 a.1 e36 q q Zl) q q q (Zd q q q)) ?_
 refine Y2 ?_
 refine zo (rc f) ?_
 refine Y1 ?_
 refine zo (λ_=>Zy (ab E50 a.2.1 e37 q q Zl) q q q (Zd q q q)) ?_
 refine Y2 ?_
 refine zo (rc j) ?_
 refine Y1 ?_
 refine zo (λ_=>Zy (ah e37 q Zl q (af g) (an c5 g) q) q q q (Zd q q q)) ?_
 refine Y1 ?_
 refine zo (λ_=>Zy (ab E42 x e50 q q Zl) q q q (Zd q q q)) ?_
 refine Y2 ?_
 refine zo (rc k) ?_
 refine Y1 ?_
 refine zo (λ_=>Zy (ah e36 q Zl q (af m) (an dL m) q) q q q (Zd q q q)) ?_
 refine Y3 ?_
 refine zo (rc w) ?_
 refine Y9 ?_
 refine Y9 ?_
 exact Y8 Zt
 exact En1 h
 replace h:=cH h w
 obtain⟨e,y,h⟩:=ae h
 rcases cy (!((decide (((e.r (Int.toNat 1)).lo)=f20.lo))&&((decide (((e.r (Int.toNat 1)).hi)=f20.hi))&&true))) with A|A
 replace h:=cG h A
 apply RT [_,_,_,_,_,_,_,_,_,_,_,_,_,_,_,_,_,_,_,_,_,_,_,_,_,_,_,_,_,_,_,_,_,_,_,_,_,_,_,_,_,_,_,_,_,_,_,_,_,_,_,_] [] [] [p01 5,p10 0,p10 1,p11 2 3,p20 3 2,p20 4 2,p20 2 5,p10 6,p11 7 4,p20 8 7,p20 9 7,p20 7 10,p10 11,p11 12 4,p20 13 12,p20 14 12,p20 15 12,p20 16 12,p20 12 17,p10 18,p11 19 3,p20 20 19,p20 21 19,p20 22 19,p20 19 23,p10 24,p11 25 3,p20 26 25,p20 27 25,p20 28 25,p20 29 25,p10 25,p30 30 31 25,p20 25 32,p10 33,p10 34,p10 34,p10 34,p10 34,p10 34,p10 34,p10 34,p20 34 41,p10 42,p10 43,p10 43,p10 43,p10 43,p10 43,p10 43,p10 43,p20 43 50] kR kR q q
 refine Y2 ?_
 refine zo (rc c) ?_
 refine Y1 ?_
 refine zo (λ_=>Zy (ab E45 a.1 e36 q q Zl) q q q (Zd q q q)) ?_
 refine Y2 ?_
 refine zo (rc f) ?_
 refine Y1 ?_
 refine zo (λ_=>Zy (ab E50 a.2.1 e37 q q Zl) q q q (Zd q q q)) ?_
 refine Y2 ?_
 refine zo (rc j) ?_
 refine Y1 ?_
 refine zo (λ_=>Zy (ah e37 q Zl q (af g) (an c5 g) q) q q q (Zd q q q)) ?_
 refine Y1 ?_
 refine zo (λ_=>Zy (ab E42 x e50 q q Zl) q q q (Zd q q q)) ?_
 refine Y2 ?_
 refine zo (rc k) ?_
 refine Y1 ?_
 refine zo (λ_=>Zy (ah e36 q Zl q (af m) (an dL m) q) q q q (Zd q q q)) ?_
 refine Y3 ?_
 refine zo (rc w) ?_
 refine Y1 ?_
 refine zo (λ_=>Zy (ah e36 q Zl q (af y) (an dL y) q) q q q (Zd q q q)) ?_
 refine Y1 ?_
 refine zo (λ_=>Zy (cX R42 e.r (λ_=>q) q cw q q q dC) q q q (Zd q q q)) ?_
 refine Y1 ?_
 refine zo (λ_=>WL.fn q q q q (f20_c) Zt (aG q q q) q q (Zd q q q)) ?_
 refine zo (λ_=>Zy (iH (xs:=[.int .i64 ((e.r (Int.toNat 1)).lo), .int .i64 ((e.r (Int.toNat 1)).hi)]) (ys:=[.int .i64 f20.lo, .int .i64 f20.hi]) q42 q Zl q Zl q q q) q q q (Zd q q q)) ?_
 refine Y1 ?_
 refine zo (rc A) ?_
 refine Y9 ?_
 exact Y8 Zt
 exact En1 h
 replace h:=cH h A
 obtain⟨p,E,h⟩:=ae h
 rcases cy (!((decide (((p.r (Int.toNat 2)).lo)=1))&&((decide (((p.r (Int.toNat 2)).hi)=1))&&true))) with B|B
 replace h:=cG h B
 apply RT [_,_,_,_,_,_,_,_,_,_,_,_,_,_,_,_,_,_,_,_,_,_,_,_,_,_,_,_,_,_,_,_,_,_,_,_,_,_,_,_,_,_,_,_,_,_,_,_,_,_,_,_] [] [] [p01 5,p10 0,p10 1,p11 2 3,p20 3 2,p20 4 2,p20 2 5,p10 6,p11 7 4,p20 8 7,p20 9 7,p20 7 10,p10 11,p11 12 4,p20 13 12,p20 14 12,p20 15 12,p20 16 12,p20 12 17,p10 18,p11 19 3,p20 20 19,p20 21 19,p20 22 19,p20 19 23,p10 24,p11 25 3,p20 26 25,p20 27 25,p20 28 25,p20 29 25,p10 25,p30 30 31 25,p20 25 32,p10 33,p11 34 3,p20 35 34,p20 36 34,p20 37 34,p20 38 34,p10 34,p30 39 40 34,p20 34 41,p10 42,p10 43,p10 43,p10 43,p10 43,p10 43,p10 43,p10 43,p20 43 50] kR kR q q
 refine Y2 ?_
 refine zo (rc c) ?_
 refine Y1 ?_
 refine zo (λ_=>Zy (ab E45 a.1 e36 q q Zl) q q q (Zd q q q)) ?_
 refine Y2 ?_
 refine zo (rc f) ?_
 refine Y1 ?_
 refine zo (λ_=>Zy (ab E50 a.2.1 e37 q q Zl) q q q (Zd q q q)) ?_
 refine Y2 ?_
 refine zo (rc j) ?_
 refine Y1 ?_
 refine zo (λ_=>Zy (ah e37 q Zl q (af g) (an c5 g) q) q q q (Zd q q q)) ?_
 refine Y1 ?_
 refine zo (λ_=>Zy (ab E42 x e50 q q Zl) q q q (Zd q q q)) ?_
 refine Y2 ?_
 refine zo (rc k) ?_
 refine Y1 ?_
 refine zo (λ_=>Zy (ah e36 q Zl q (af m) (an dL m) q) q q q (Zd q q q)) ?_
 refine Y3 ?_
 refine zo (rc w) ?_
 refine Y1 ?_
 refine zo (λ_=>Zy (ah e36 q Zl q (af y) (an dL y) q) q q q (Zd q q q)) ?_
 refine Y1 ?_
 refine zo (λ_=>Zy (cX R42 e.r (λ_=>q) q cw q q q dC) q q q (Zd q q q)) ?_
 refine Y1 ?_
 refine zo (λ_=>WL.fn q q q q (f20_c) Zt (aG q q q) q q (Zd q q q)) ?_
 refine zo (λ_=>Zy (iH (xs:=[.int .i64 ((e.r (Int.toNat 1)).lo), .int .i64 ((e.r (Int.toNat 1)).hi)]) (ys:=[.int .i64 f20.lo, .int .i64 f20.hi]) q42 q Zl q Zl q q q) q q q (Zd q q q)) ?_
 refine Y1 ?_
 refine zo (rc A) ?_
 refine Y1 ?_
 refine zo (λ_=>Zy (ah e36 q Zl q (af E) (an dL E) q) q q q (Zd q q q)) ?_
 refine Y1 ?_
 refine zo (λ_=>Zy (cX R42 p.r (λ_=>q) q cw q q q dC) q q q (Zd q q q)) ?_
 refine Y1 ?_
 refine zo (λ_=>Zy (ac p42 z42 q q) q q q (Zd q q q)) ?_
 refine zo (λ_=>Zy (iH (xs:=[.int .i64 ((p.r (Int.toNat 2)).lo), .int .i64 ((p.r (Int.toNat 2)).hi)]) (ys:=[.int .i64 1, .int .i64 1]) q42 q Zl q (ak (Zs _)) q q q) q q q (Zd q q q)) ?_
 refine Y1 ?_
 refine zo (rc B) ?_
 exact Y8 Zt
 exact En1 h
 replace h:=cH h B
 obtain⟨bs,K,h⟩:=ae h
 obtain⟨L,M,h⟩:=ae h
 apply RT [_,_,_,_,_,_,_,_,_,_,_,_,_,_,_,_,_,_,_,_,_,_,_,_,_,_,_,_,_,_,_,_,_,_,_,_,_,_,_,_,_,_,_,_,_,_,_,_,_,_,_,_] [] [] [p01 5,p10 0,p10 1,p11 2 3,p20 3 2,p20 4 2,p20 2 5,p10 6,p11 7 4,p20 8 7,p20 9 7,p20 7 10,p10 11,p11 12 4,p20 13 12,p20 14 12,p20 15 12,p20 16 12,p20 12 17,p10 18,p11 19 3,p20 20 19,p20 21 19,p20 22 19,p20 19 23,p10 24,p11 25 3,p20 26 25,p20 27 25,p20 28 25,p20 29 25,p10 25,p30 30 31 25,p20 25 32,p10 33,p11 34 3,p20 35 34,p20 36 34,p20 37 34,p20 38 34,p10 34,p30 39 40 34,p20 34 41,p10 42,p11 43 4,p20 44 43,p20 45 43,p20 46 43,p20 47 43,p10 43,p30 48 49 43,p20 43 50] kR kR q q
 refine Y2 ?_
 refine zo (rc c) ?_
 refine Y1 ?_
 refine zo (λ_=>Zy (ab E45 a.1 e36 q q Zl) q q q (Zd q q q)) ?_
 refine Y2 ?_
 refine zo (rc f) ?_
 refine Y1 ?_
 refine zo (λ_=>Zy (ab E50 a.2.1 e37 q q Zl) q q q (Zd q q q)) ?_
 refine Y2 ?_
 refine zo (rc j) ?_
 refine Y1 ?_
 refine zo (λ_=>Zy (ah e37 q Zl q (af g) (an c5 g) q) q q q (Zd q q q)) ?_
 refine Y1 ?_
 refine zo (λ_=>Zy (ab E42 x e50 q q Zl) q q q (Zd q q q)) ?_
 refine Y2 ?_
 refine zo (rc k) ?_
 refine Y1 ?_
 refine zo (λ_=>Zy (ah e36 q Zl q (af m) (an dL m) q) q q q (Zd q q q)) ?_
 refine Y3 ?_
 refine zo (rc w) ?_
 refine Y1 ?_
 refine zo (λ_=>Zy (ah e36 q Zl q (af y) (an dL y) q) q q q (Zd q q q)) ?_
 refine Y1 ?_
 refine zo (λ_=>Zy (cX R42 e.r (λ_=>q) q cw q q q dC) q q q (Zd q q q)) ?_
 refine Y1 ?_
 refine zo (λ_=>WL.fn q q q q (f20_c) Zt (aG q q q) q q (Zd q q q)) ?_
 refine zo (λ_=>Zy (iH (xs:=[.int .i64 ((e.r (Int.toNat 1)).lo), .int .i64 ((e.r (Int.toNat 1)).hi)]) (ys:=[.int .i64 f20.lo, .int .i64 f20.hi]) q42 q Zl q Zl q q q) q q q (Zd q q q)) ?_
 refine Y1 ?_
 refine zo (rc A) ?_
 refine Y1 ?_
 refine zo (λ_=>Zy (ah e36 q Zl q (af E) (an dL E) q) q q q (Zd q q q)) ?_
 refine Y1 ?_
 refine zo (λ_=>Zy (cX R42 p.r (λ_=>q) q cw q q q dC) q q q (Zd q q q)) ?_
 refine Y1 ?_
 refine zo (λ_=>Zy (ac p42 z42 q q) q q q (Zd q q q)) ?_
 refine zo (λ_=>Zy (iH (xs:=[.int .i64 ((p.r (Int.toNat 2)).lo), .int .i64 ((p.r (Int.toNat 2)).hi)]) (ys:=[.int .i64 1, .int .i64 1]) q42 q Zl q (ak (Zs _)) q q q) q q q (Zd q q q)) ?_
 refine Y1 ?_
 refine zo (rc B) ?_
 refine Y1 ?_
 refine zo (λ_=>Zy (ah e37 q Zl q (af K) (an c5 K) q) q q q (Zd q q q)) ?_
 refine Y1 ?_
 refine zo (λ_=>Zy (ah e50 q Zl q (af M) (an bL M) q) q q q (Zd q q q)) ?_
 refine Y1 ?_
 refine zo (λ_=>Zy (ac p42 z42 q q) q q q (Zd q q q)) ?_
 refine zo (λ_=>Zy (iH (xs:=[.int .i64 L.lo, .int .i64 L.hi]) (ys:=[.int .i64 3, .int .i64 3]) q42 q Zl q (ak (Zs _)) q q q) q q q (Zd q q q)) ?_
 exact Y1 Zt
 exact En1 h
 refine Ci h q (λh=>?_) (λh=>?_)
 exact Rcx 7 q (FA h)
 refine Rcl 4 q (Zq (ac p33 z33 q q) q ?_)
 obtain⟨b0,S,h⟩:=ae h
 refine WL.fn q q q q (f7_c S) ⟨(ak ⟨Le.nil,Le.nil,Le.nil,Le.nil,Le.nil,Le.nil,Le.nil,Zl,Le.nil,Le.nil,Le.nil,Zt⟩),Zt⟩ (Zw q) q q (Rll 11 q (Zq (ac p59 z59 q q) q (Rl 1 q (wF Z4 (f18_c) Lw Z3 (WL.s ((NewOs.b (ad l22 z59 q dC dC q q q dC)).does) (Zw q) q q ?_)))))
 obtain⟨T,U,h⟩:=aB h
 refine WL.inl (us:=[.os 7 0]) (λrv st'=>(T ()=some r∧Le rv (.ag [.l E59 ([(ao.mk 1 1 0 0 5 0 0),(f18 0 9)]++ [(ao.mk 57 0 0 0 0 0 0)]),sN,sN,sN,sN, .l E53 hO, .l E80 [(bZ.mk 0 0 3)], .n 4, .l E48 [(bJ.mk 0 0 [] 0)],sN,sN])∧SLe st' [.z, .z, .z, .z, .z, .z, .z, .z, .row 33 [.l E59 ([(ao.mk 1 1 0 0 5 0 0),(f18 0 9)]++ [(ao.mk 57 0 0 0 0 0 0)]),sN,sN,sN,sN, .l E53 hO, .l E80 [(bZ.mk 0 0 3)], .n 4, .l E48 [(bJ.mk 0 0 [] 0)],sN,sN], .z, .z, .z, .z])) q q q q q ?_ (Zw q) q q ?_
 refine cI func19 λ_ _ _ _=>?_
 refine Rcl 2 q (Al z33 q (Rll 5 q (Zq (ac p59 z59 q q) q (WL.s ((NewOs.b (ad l22 z59 q dC dC q q q dC)).does) (Zw q) q q ?_))))
 replace h:=aD h
 obtain⟨V,h⟩:=h
 refine WL.s (dx R59 [(ao.mk 1 1 0 0 5 0 0),(f18 0 9)] [(ao.mk 57 0 0 0 0 0 0)] l22 z59 q dC q q q q (Src.own q) (λ_=>q) (λ_=>q) V) (Zw q) q q (Zq (ac p53 z53 q q) q (Zq (ac p53 z53 q q) q (WL.s ((NewOs.b (NewOs.weak (es':=List.map (a9 R53) hO) (ad l27 z53 q dC dC q q q dC) (by exact⟨⟨Zl,Zl,Zl,Zl,Le.nil,Zt⟩,⟨Zl,Zl,Zl,Zl,Le.nil,Zt⟩,Zt⟩))).does) (Zw q) q q (Zq (ac p80 z80 q q) q (WL.s ((NewOs.b (ad l28 z80 q dC dC q q q dC)).does) (Zw q) q q (Zq (ac p48 z48 q q) q ?_))))))
 refine WL.s ((NewOs.b (NewOs.weak (es':=List.map (a9 R48) [(bJ.mk 0 0 [] 0)]) (ad l29 z48 q dC dC q q q dC) (by exact⟨⟨Zl,Zl,Le.nil,Zl,Zt⟩,Zt⟩))).does) (Zw q) q q (Zq (fM p33 z33 q q) q (WL.s0 (hY q q q q q q s33 q q) (Zw q) q (St q (Rlc 2 q ?_))))
 refine WC.freezeX [6] [(8,0)] 7 _ q (ai c9 _) ⟨q,Zt⟩ ⟨_,_,q,q,Zt⟩ ?_
 refine WC.freezeX [9] [(8,5)] 10 _ q (ai cA _) ⟨q,Zt⟩ ⟨_,_,q,q,Zt⟩ ?_
 refine WC.freezeX [11] [(8,6)] 11 _ q (ai fK [(bZ.mk 0 0 3)]) ⟨q,Zt⟩ ⟨_,_,q,q,Zt⟩ ?_
 exact WC.freezeX [13] [(8,8)] 12 _ q (ai dK [(bJ.mk 0 0 [] 0)]) ⟨q,Zt⟩ ⟨_,_,q,q,Zt⟩ (WC.weak (st':=[.z, .z, .z, .z, .z, .z, .z, .z, .row 33 [.l E59 ([(ao.mk 1 1 0 0 5 0 0),(f18 0 9)]++ [(ao.mk 57 0 0 0 0 0 0)]),sN,sN,sN,sN, .l E53 hO, .l E80 [(bZ.mk 0 0 3)], .n 4, .l E48 [(bJ.mk 0 0 [] 0)],sN,sN], .z, .z, .z, .z]) (by exact Tv) (Rcx 1 q (ax (rs1 q (aZ q q a33 s33 q)) ⟨h,Zl,Tv⟩)))
 rintro rv C ⟨h,hr,hst⟩
 subst U
 dsimp only at h
 refine WL.cast 84 q hr (WL.weak hst (WL.s ((NewOs.b (ad l51 z3 q dC dC q q q dC)).does) (Zw q) q q ?_))
 refine WL.freezeX [85] [] 13 _ q (ai du [1]) ⟨q,Zt⟩ Zt ?_
 obtain⟨b1,X,h⟩:=ae h
 refine WL.fn q q q q (f21_c X) ⟨(ak ⟨Zl,Le.nil,Le.nil,Le.nil,Le.nil,Zl,Zl,Zl,Zl,Le.nil,Le.nil,Zt⟩),Zl,Zt⟩ (Zw q) q q (Rl 1 q (WL.split (t:=87) q (λF=>?_) λF=>?_))
 replace h:=cG h F
 refine Zy (ac p59 z59 q q) q q q (Rl 1 q (WL.fn q q q q (f18_c) Lw (aG q q q) q q (Rl 1 q (WL.fn q q q q (f18_c) Lw (aG q q q) q q (WL.s ((NewOs.b (ad l22 z59 q dC dC q q q dC)).does) (aG q q q) q q ?_)))))
 obtain⟨Y,Z,h⟩:=aB h
 refine WL.inl (us:=[.os 14 0]) (λrv st'=>(Y ()=some r∧Le rv (.ag [.l E59 ([(ao.mk 38 1 0 0 0 0 0),(f18 0 9),(f18 0 9)]++ [(ao.mk 57 0 0 0 0 0 0)]),sN,sN,sN,sN, .l E53 hO, .l E80 [(bZ.mk 0 0 3)], .n 4, .l E48 [(bJ.mk 0 0 [] 0)],sN,sN])∧SLe st' [.z, .z, .z, .z, .z, .z, .z, .z, .z, .z, .z, .z, .z, .z, .z, .row 33 [.l E59 ([(ao.mk 38 1 0 0 0 0 0),(f18 0 9),(f18 0 9)]++ [(ao.mk 57 0 0 0 0 0 0)]),sN,sN,sN,sN, .l E53 hO, .l E80 [(bZ.mk 0 0 3)], .n 4, .l E48 [(bJ.mk 0 0 [] 0)],sN,sN], .z, .z, .z, .z])) q q q q q ?_ (aG q q q) q q ?_
 refine cI func19 λ_ _ _ _=>?_
 refine Rcl 2 q (Al z33 q (Rll 5 q (Zq (ac p59 z59 q q) q (WL.s ((NewOs.b (ad l22 z59 q dC dC q q q dC)).does) (Zw q) q q ?_))))
 replace h:=aD h
 obtain⟨a0,h⟩:=h
 refine WL.s (dx R59 [(ao.mk 38 1 0 0 0 0 0),(f18 0 9),(f18 0 9)] [(ao.mk 57 0 0 0 0 0 0)] l22 z59 q dC q q q q (Src.own q) (λ_=>q) (λ_=>q) a0) (Zw q) q q (Zq (ac p53 z53 q q) q (Zq (ac p53 z53 q q) q (WL.s ((NewOs.b (NewOs.weak (es':=List.map (a9 R53) hO) (ad l27 z53 q dC dC q q q dC) (by exact⟨⟨Zl,Zl,Zl,Zl,Le.nil,Zt⟩,⟨Zl,Zl,Zl,Zl,Le.nil,Zt⟩,Zt⟩))).does) (Zw q) q q (Zq (ac p80 z80 q q) q (WL.s ((NewOs.b (ad l28 z80 q dC dC q q q dC)).does) (Zw q) q q (Zq (ac p48 z48 q q) q ?_))))))
 refine WL.s ((NewOs.b (NewOs.weak (es':=List.map (a9 R48) [(bJ.mk 0 0 [] 0)]) (ad l29 z48 q dC dC q q q dC) (by exact⟨⟨Zl,Zl,Le.nil,Zl,Zt⟩,Zt⟩))).does) (Zw q) q q (Zq (fM p33 z33 q q) q (WL.s0 (hY q q q q q q s33 q q) (Zw q) q (St q (Rlc 2 q ?_))))
 refine WC.freezeX [6] [(15,0)] 14 _ q (ai c9 _) ⟨q,Zt⟩ ⟨_,_,q,q,Zt⟩ ?_
 refine WC.freezeX [9] [(15,5)] 17 _ q (ai cA _) ⟨q,Zt⟩ ⟨_,_,q,q,Zt⟩ ?_
 refine WC.freezeX [11] [(15,6)] 18 _ q (ai fK [(bZ.mk 0 0 3)]) ⟨q,Zt⟩ ⟨_,_,q,q,Zt⟩ ?_
 exact WC.freezeX [13] [(15,8)] 19 _ q (ai dK [(bJ.mk 0 0 [] 0)]) ⟨q,Zt⟩ ⟨_,_,q,q,Zt⟩ (WC.weak (st':=[.z, .z, .z, .z, .z, .z, .z, .z, .z, .z, .z, .z, .z, .z, .z, .row 33 [.l E59 ([(ao.mk 38 1 0 0 0 0 0),(f18 0 9),(f18 0 9)]++ [(ao.mk 57 0 0 0 0 0 0)]),sN,sN,sN,sN, .l E53 hO, .l E80 [(bZ.mk 0 0 3)], .n 4, .l E48 [(bJ.mk 0 0 [] 0)],sN,sN], .z, .z, .z, .z]) (by exact Tv) (Rcx 1 q (ax (rs1 q (aZ q q a33 s33 q)) ⟨h,Zl,Tv⟩)))
 rintro rv C ⟨h,hr,hst⟩
 subst Z
 dsimp only at h
 refine WL.cast 94 q hr (WL.weak hst (WL.s ((NewOs.b (ad l51 z3 q dC dC q q q dC)).does) (aG q q q) q q ?_))
 refine WL.freezeX [95] [] 20 _ q (ai du [2]) ⟨q,Zt⟩ Zt ?_
 obtain⟨b2,a1,h⟩:=ae h
 refine WL.fn q q q q (f21_c a1) ⟨(ak ⟨Zl,Le.nil,Le.nil,Le.nil,Le.nil,Zl,Zl,Zl,Zl,Le.nil,Le.nil,Zt⟩),Zl,Zt⟩ (aG q q q) q q (Rl 2 q (WL.split (t:=98) q (λG=>?_) λG=>?_))
 replace h:=cG h G
 refine Zy (ac p59 z59 q q) q q q (Rl 1 q (WL.fn q q q q (f18_c) Lw (aG q q q) q q (WL.s ((NewOs.b (ad l22 z59 q dC dC q q q dC)).does) (aG q q q) q q ?_)))
 obtain⟨a6,a7,h⟩:=aB h
 refine WL.inl (us:=[.os 21 0]) (λrv st'=>(a6 ()=some r∧Le rv (.ag [.l E59 ([(ao.mk 3 1 0 0 0 0 0),(f18 3 3)]++ [(ao.mk 57 0 0 0 0 0 0)]),sN,sN,sN,sN, .l E53 hO, .l E80 [(bZ.mk 0 0 3)], .n 4, .l E48 [(bJ.mk 0 0 [] 0)],sN,sN])∧SLe st' [.z, .z, .z, .z, .z, .z, .z, .z, .z, .z, .z, .z, .z, .z, .z, .z, .z, .z, .z, .z, .z, .z, .row 33 [.l E59 ([(ao.mk 3 1 0 0 0 0 0),(f18 3 3)]++ [(ao.mk 57 0 0 0 0 0 0)]),sN,sN,sN,sN, .l E53 hO, .l E80 [(bZ.mk 0 0 3)], .n 4, .l E48 [(bJ.mk 0 0 [] 0)],sN,sN], .z, .z, .z, .z])) q q q q q ?_ (aG q q q) q q ?_
 refine cI func19 λ_ _ _ _=>?_
 refine Rcl 2 q (Al z33 q (Rll 5 q (Zq (ac p59 z59 q q) q (WL.s ((NewOs.b (ad l22 z59 q dC dC q q q dC)).does) (Zw q) q q ?_))))
 replace h:=aD h
 obtain⟨a8,h⟩:=h
 refine WL.s (dx R59 [(ao.mk 3 1 0 0 0 0 0),(f18 3 3)] [(ao.mk 57 0 0 0 0 0 0)] l22 z59 q dC q q q q (Src.own q) (λ_=>q) (λ_=>q) a8) (Zw q) q q (Zq (ac p53 z53 q q) q (Zq (ac p53 z53 q q) q (WL.s ((NewOs.b (NewOs.weak (es':=List.map (a9 R53) hO) (ad l27 z53 q dC dC q q q dC) (by exact⟨⟨Zl,Zl,Zl,Zl,Le.nil,Zt⟩,⟨Zl,Zl,Zl,Zl,Le.nil,Zt⟩,Zt⟩))).does) (Zw q) q q (Zq (ac p80 z80 q q) q (WL.s ((NewOs.b (ad l28 z80 q dC dC q q q dC)).does) (Zw q) q q (Zq (ac p48 z48 q q) q ?_))))))
 refine WL.s ((NewOs.b (NewOs.weak (es':=List.map (a9 R48) [(bJ.mk 0 0 [] 0)]) (ad l29 z48 q dC dC q q q dC) (by exact⟨⟨Zl,Zl,Le.nil,Zl,Zt⟩,Zt⟩))).does) (Zw q) q q (Zq (fM p33 z33 q q) q (WL.s0 (hY q q q q q q s33 q q) (Zw q) q (St q (Rlc 2 q ?_))))
 refine WC.freezeX [6] [(22,0)] 21 _ q (ai c9 _) ⟨q,Zt⟩ ⟨_,_,q,q,Zt⟩ ?_
 refine WC.freezeX [9] [(22,5)] 24 _ q (ai cA _) ⟨q,Zt⟩ ⟨_,_,q,q,Zt⟩ ?_
 refine WC.freezeX [11] [(22,6)] 25 _ q (ai fK [(bZ.mk 0 0 3)]) ⟨q,Zt⟩ ⟨_,_,q,q,Zt⟩ ?_
 refine WC.freezeX [13] [(22,8)] 26 _ q (ai dK [(bJ.mk 0 0 [] 0)]) ⟨q,Zt⟩ ⟨_,_,q,q,Zt⟩ (WC.weak (st':=[.z, .z, .z, .z, .z, .z, .z, .z, .z, .z, .z, .z, .z, .z, .z, .z, .z, .z, .z, .z, .z, .z, .row 33 [.l E59 ([(ao.mk 3 1 0 0 0 0 0),(f18 3 3)]++ [(ao.mk 57 0 0 0 0 0 0)]),sN,sN,sN,sN, .l E53 hO, .l E80 [(bZ.mk 0 0 3)], .n 4, .l E48 [(bJ.mk 0 0 [] 0)],sN,sN], .z, .z, .z, .z]) (by exact Tv) (Rcx 1 q ?_))
 exact ax (rs1 q (aZ q q a33 s33 q)) ⟨h,Zl,Tv⟩
 rintro rv C ⟨h,hr,hst⟩
 subst a7
 dsimp only at h
 refine WL.cast 103 q hr (WL.weak hst (WL.s ((NewOs.b (ad l51 z3 q dC dC q q q dC)).does) (aG q q q) q q ?_))
 refine WL.freezeX [104] [] 27 _ q (ai du [1]) ⟨q,Zt⟩ Zt ?_
 obtain⟨b3,a',h⟩:=ae h
 refine WL.fn q q q q (f21_c a') ⟨(ak ⟨Zl,Le.nil,Le.nil,Le.nil,Le.nil,Zl,Zl,Zl,Zl,Le.nil,Le.nil,Zt⟩),Zl,Zt⟩ (aG q q q) q q (Rl 2 q (Zn (Rcl 4 q (WL.split (t:=108) q (λH=>?_) λH=>?_))))
 replace h:=cG h H
 refine Zy (ac p59 z59 q q) q q q (Zy (ac p59 z59 q q) q q q (Zy (ac p59 z59 q q) q q q (Rl 1 q (WL.fn q q q q (f18_c) Lw (aG q q q) q q (Rl 1 q (WL.fn q q q q (f18_c) Lw (aG q q q) q q (WL.s ((NewOs.b (ad l22 z59 q dC dC q q q dC)).does) (aG q q q) q q ?_)))))))
 obtain⟨bb,bd,h⟩:=aB h
 refine WL.inl (us:=[.os 28 0]) (λrv st'=>(bb ()=some r∧Le rv (.ag [.l E59 ([(ao.mk 38 1 0 0 0 0 0),(ao.mk 4 0 1 0 0 0 0),(ao.mk 3 1 0 0 0 0 0),(f18 0 9),(f18 1 9)]++ [(ao.mk 57 0 0 0 0 0 0)]),sN,sN,sN,sN, .l E53 hO, .l E80 [(bZ.mk 0 0 3)], .n 4, .l E48 [(bJ.mk 0 0 [] 0)],sN,sN])∧SLe st' [.z, .z, .z, .z, .z, .z, .z, .z, .z, .z, .z, .z, .z, .z, .z, .z, .z, .z, .z, .z, .z, .z, .z, .z, .z, .z, .z, .z, .z, .row 33 [.l E59 ([(ao.mk 38 1 0 0 0 0 0),(ao.mk 4 0 1 0 0 0 0),(ao.mk 3 1 0 0 0 0 0),(f18 0 9),(f18 1 9)]++ [(ao.mk 57 0 0 0 0 0 0)]),sN,sN,sN,sN, .l E53 hO, .l E80 [(bZ.mk 0 0 3)], .n 4, .l E48 [(bJ.mk 0 0 [] 0)],sN,sN], .z, .z, .z, .z])) q q q q q ?_ (aG q q q) q q ?_
 refine cI func19 λ_ _ _ _=>?_
 refine Rcl 2 q (Al z33 q (Rll 5 q (Zq (ac p59 z59 q q) q (WL.s ((NewOs.b (ad l22 z59 q dC dC q q q dC)).does) (Zw q) q q ?_))))
 replace h:=aD h
 obtain⟨bk,h⟩:=h
 refine WL.s (dx R59 [(ao.mk 38 1 0 0 0 0 0),(ao.mk 4 0 1 0 0 0 0),(ao.mk 3 1 0 0 0 0 0),(f18 0 9),(f18 1 9)] [(ao.mk 57 0 0 0 0 0 0)] l22 z59 q dC q q q q (Src.own q) (λ_=>q) (λ_=>q) bk) (Zw q) q q (Zq (ac p53 z53 q q) q (Zq (ac p53 z53 q q) q (WL.s ((NewOs.b (NewOs.weak (es':=List.map (a9 R53) hO) (ad l27 z53 q dC dC q q q dC) (by exact⟨⟨Zl,Zl,Zl,Zl,Le.nil,Zt⟩,⟨Zl,Zl,Zl,Zl,Le.nil,Zt⟩,Zt⟩))).does) (Zw q) q q (Zq (ac p80 z80 q q) q (WL.s ((NewOs.b (ad l28 z80 q dC dC q q q dC)).does) (Zw q) q q (Zq (ac p48 z48 q q) q ?_))))))
 refine WL.s ((NewOs.b (NewOs.weak (es':=List.map (a9 R48) [(bJ.mk 0 0 [] 0)]) (ad l29 z48 q dC dC q q q dC) (by exact⟨⟨Zl,Zl,Le.nil,Zl,Zt⟩,Zt⟩))).does) (Zw q) q q (Zq (fM p33 z33 q q) q (WL.s0 (hY q q q q q q s33 q q) (Zw q) q (St q (Rlc 2 q ?_))))
 refine WC.freezeX [6] [(29,0)] 28 _ q (ai c9 _) ⟨q,Zt⟩ ⟨_,_,q,q,Zt⟩ ?_
 refine WC.freezeX [9] [(29,5)] 31 _ q (ai cA _) ⟨q,Zt⟩ ⟨_,_,q,q,Zt⟩ ?_
 refine WC.freezeX [11] [(29,6)] 32 _ q (ai fK [(bZ.mk 0 0 3)]) ⟨q,Zt⟩ ⟨_,_,q,q,Zt⟩ ?_
 refine WC.freezeX [13] [(29,8)] 33 _ q (ai dK [(bJ.mk 0 0 [] 0)]) ⟨q,Zt⟩ ⟨_,_,q,q,Zt⟩ (WC.weak (st':=[.z, .z, .z, .z, .z, .z, .z, .z, .z, .z, .z, .z, .z, .z, .z, .z, .z, .z, .z, .z, .z, .z, .z, .z, .z, .z, .z, .z, .z, .row 33 [.l E59 ([(ao.mk 38 1 0 0 0 0 0),(ao.mk 4 0 1 0 0 0 0),(ao.mk 3 1 0 0 0 0 0),(f18 0 9),(f18 1 9)]++ [(ao.mk 57 0 0 0 0 0 0)]),sN,sN,sN,sN, .l E53 hO, .l E80 [(bZ.mk 0 0 3)], .n 4, .l E48 [(bJ.mk 0 0 [] 0)],sN,sN], .z, .z, .z, .z]) (by exact Tv) (Rcx 1 q ?_))
 exact ax (rs1 q (aZ q q a33 s33 q)) ⟨h,Zl,Tv⟩
 rintro rv C ⟨h,hr,hst⟩
 subst bd
 dsimp only at h
 refine WL.cast 117 q hr (WL.weak hst (WL.s ((NewOs.b (ad l51 z3 q dC dC q q q dC)).does) (aG q q q) q q ?_))
 refine WL.freezeX [118] [] 34 _ q (ai du [3]) ⟨q,Zt⟩ Zt ?_
 obtain⟨b4,bl,h⟩:=ae h
 refine WL.fn q q q q (f21_c bl) ⟨(ak ⟨Zl,Le.nil,Le.nil,Le.nil,Le.nil,Zl,Zl,Zl,Zl,Le.nil,Le.nil,Zt⟩),Zl,Zt⟩ (aG q q q) q q (Rl 2 q ?_)
 refine AG 3 121 124 3 3 ?_
 exact Rl 1 q (Zn (Rcx 1 q (FA h)))
 replace h:=cH h H
 exact Rl 17 q (Zn (Rcx 1 q (FA h)))
 replace h:=cH h G
 exact Rl 9 q (Zn (Rcx 24 q (FA h)))
 replace h:=cH h F
 exact Rl 20 q (Zn (Rcx 24 q (FA h)))

theorem f4_c{t0:al}{r:Bool}(h:f4 t0=some r):Pu prog 4 [.ag (R33 t0)] (.b r):=by
 unfold f4 at h
 refine fI func4 λ_ _=>?_
 refine Rcl 2 q (Bd q q (Zs _) q (Rlc 8 q (Jn1 (λa=> [(1, .d (.pc (R33 t0))),(3, .n a)]) (λ_=> []) h (λf h=>?_) λa h=>?_)))
 refine Rcc 6 q (Ln2 (λc e=> [(1, .d (.pc (R33 t0))),(3, .n c),(4, .n e)]) (λ_ _=> []) (f4_l1 t0 f) h (λ_ _ h=>by rw[f4_l1] at h;cases h) λn c e h=>?_)
 rw[f4_l1] at h
 refine Rcl 6 q (Zq (ab E53 t0.objs e27 q q Zl) q (Rl 2 q ?_))
 refine AG 3 10 13 3 3 ?_
 refine Rlc 2 q (Ci h q (λh=>?_) λh=>?_)
 exact Rcl 9 q (Ix h e27 cA q Zl q q λg _ h=>(Rl 2 q (Zq (gG q q q) q (Zq (eU q q q) q (Rlx 10 q (Fn2 h))))))
 exact Rcx 4 q (En1 h)
 refine Rcl 5 q ?_
 apply WL.or 5 (t:=28) (d:=33)
 exact q
 intro j
 exact Rl 2 q (Zy (ab E59 t0.insns e22 q q Zl) q q q (Rl 2 q (WL.nil ⟨q,[_,_,_,_,_],q,q,q⟩)))
 exact Rn 5 5
 refine Rl 1 q ?_
 apply WL.or 5 (t:=34) (d:=39)
 exact q
 intro k
 exact Rl 2 q (Zy (ab cq t0.handlers e23 q q Zl) q q q (Rl 2 q (WL.nil ⟨q,[_,_,_,_,_],q,q,q⟩)))
 exact Rn 5 5
 refine Rl 1 q ?_
 apply WL.or 5 (t:=40) (d:=45)
 exact q
 intro m
 exact Rl 2 q (Zy (ab cM t0.loops e24 q q Zl) q q q (Rl 2 q (WL.nil ⟨q,[_,_,_,_,_],q,q,q⟩)))
 exact Rn 5 5
 refine Rl 1 q ?_
 apply WL.or 5 (t:=46) (d:=51)
 exact q
 intro p
 exact Rl 2 q (Zy (ab E98 t0.selects e25 q q Zl) q q q (Rl 2 q (WL.nil ⟨q,[_,_,_,_,_],q,q,q⟩)))
 exact Rn 5 5
 refine Rl 1 q ?_
 apply WL.or 5 (t:=52) (d:=57)
 exact q
 intro w
 exact Rl 2 q (Zy (ab E51 t0.lists e26 q q Zl) q q q (Rl 2 q (WL.nil ⟨q,[_,_,_,_,_],q,q,q⟩)))
 exact Rn 5 5
 refine Rl 1 q ?_
 apply WL.or 5 (t:=58) (d:=63)
 exact q
 intro x
 exact Rl 2 q (Zy (ab E53 t0.objs e27 q q Zl) q q q (Rl 2 q (WL.nil ⟨q,[_,_,_,_,_],q,q,q⟩)))
 exact Rn 5 5
 refine Rl 1 q ?_
 apply WL.or 5 (t:=64) (d:=69)
 exact q
 intro y
 exact Rl 2 q (Zy (ab E80 t0.inits e28 q q Zl) q q q (Rl 2 q (WL.nil ⟨q,[_,_,_,_,_],q,q,q⟩)))
 exact Rn 5 5
 refine Rl 1 q ?_
 apply WL.or 5 (t:=70) (d:=75)
 exact q
 intro A
 exact Rl 2 q (Zy (ab E48 t0.tasks e29 q q Zl) q q q (Rl 2 q (WL.nil ⟨q,[_,_,_,_,_],q,q,q⟩)))
 exact Rn 5 5
 refine Rl 1 q ?_
 apply WL.or 5 (t:=76) (d:=81)
 exact q
 intro B
 exact Rl 2 q (Zy (ab E87 t0.prots e30 q q Zl) q q q (Rl 2 q (WL.nil ⟨q,[_,_,_,_,_],q,q,q⟩)))
 exact Rn 5 5
 refine Rl 1 q ?_
 apply WL.or 5 (t:=82) (d:=87)
 exact q
 intro C
 exact Rl 2 q (Zy (ab E95 t0.checks e31 q q Zl) q q q (Rl 2 q (WL.nil ⟨q,[_,_,_,_,_],q,q,q⟩)))
 exact Rn 5 5
 exact Rlx 4 q (FA h)

theorem f3_c(t0:al){r:Bool}(h:f3 t0=some r):Pu prog 3 [.ag (R33 t0)] (.b r):=by
 unfold f3 at h
 refine fI func3 λ_ _=>?_
 refine Rcl 2 q (Bd q q (Zs _) q (Rll 7 q ?_))
 obtain⟨a6,G,h⟩:=ae h
 refine wF Z4 (f4_c G) Lw Z3 (Rl 1 q ?_)
 obtain⟨H,I,h⟩:=ae h
 refine Gg 4 13 17 H I (λh=>?_) (λh=>?_) ?_
 exact On 4 4 h
 refine Rl 1 q ?_
 obtain⟨a7,K,h⟩:=ae h
 exact WL.fn q q q q (f5_c K) Lw (aG q q q) q q (On 2 4 h)
 refine Rlc 2 q (Ci h q (λh=>?_) λh=>?_)
 refine Rcl 2 q ?_
 obtain⟨a8,L,h⟩:=ae h
 exact WL.fn q q q q (f6_c L) Zt (Zw q) q q (Rlx 5 q (FA h))
 refine Rcl 5 q ?_
 obtain⟨c,M,h⟩:=ae h
 refine wF Z4 (f7_c M) Lw Z3 (Rll 15 q ?_)
 apply WL.or 7 (t:=27) (d:=34)
 exact q
 intro a'
 exact Rl 1 q (Zy (ab E45 c.1 e36 q q Zl) q q q (Rl 2 q (Zy (ab E59 t0.insns e22 q q Zl) q q q (Rl 2 q (WL.nil ⟨q,[_,_,_,_,_,_,_],q,q,q⟩)))))
 exact Rn 7 7
 refine Rl 1 q ?_
 apply WL.or 7 (t:=35) (d:=42)
 exact q
 intro bb
 exact Rl 1 q (Zy (ab E50 c.2.1 e37 q q Zl) q q q (Rl 2 q (Zy (ab E53 t0.objs e27 q q Zl) q q q (Rl 2 q (WL.nil ⟨q,[_,_,_,_,_,_,_],q,q,q⟩)))))
 exact Rn 7 7
 refine Rlc 2 q (Ci h q (λh=>Rcx 7 q (FA h)) λh=>?_)
 refine Rcc 2 q (Jn0 [(1, .d (.pc (R33 t0))),(3, .l E45 c.1),(4, .l E50 c.2.1)] [] h (λN h=>?_) λh=>?_)
 refine Rcc 6 q (Ln1 (λp=> [(1, .d (.pc (R33 t0))),(3, .l E45 c.1),(4, .l E50 c.2.1),(6, .n p)]) (λ_=> []) (f3_l1 t0 c N) h (λ_ h=>by rw[f3_l1] at h;cases h) λn p h=>?_)
 rw[f3_l1] at h
 refine Rcl 6 q (Zq (ab E48 t0.tasks e29 q q Zl) q (Rlc 3 q (Ci h q (λh=>?_) λh=>?_)))
 refine Rcl 10 q (Ix h e29 dK q Zl q q λbd _ h=>(Rl 2 q (Ix h e36 dL q Zl q q λbk _ h=>(Rlc 5 q (Ci h q (λh=>?_) λh=>?_)))))
 exact Rcx 11 q (FA h)
 exact Rcx 8 q (Fn1 h)
 exact Rcx 4 q (En0 h)
 refine Jn0 [(1, .d (.pc (R33 t0))),(4, .l E50 c.2.1)] [] h (λO h=>?_) (λh=>?_)
 refine Rcc 6 q (Ln1 (λf=> [(1, .d (.pc (R33 t0))),(3, .l E45 c.1),(4, .l E50 c.2.1),(7, .n f)]) (λ_=> []) (f3_l2 c O) h (λ_ h=>by rw[f3_l2] at h;cases h) λn f h=>?_)
 rw[f3_l2] at h
 refine Rcl 5 q (Zq (ab E45 c.1 e36 q q Zl) q (Rlc 3 q (Ci h q (λh=>?_) λh=>?_)))
 refine Rcc 2 q (Jn0 [(1, .d (.pc (R33 t0))),(3, .l E45 c.1),(4, .l E50 c.2.1),(7, .n f)] [] h (λP h=>?_) λh=>?_)
 refine Rcl 6 q (Ix h e36 dL q Zl q q λbl _ h=>(Rl 4 q ?_))
 obtain⟨Q,R,h⟩:=ae h
 refine Gg 7 73 80 Q R (λh=>?_) (λh=>?_) ?_
 refine Rl 2 q ?_
 obtain⟨a,w,h⟩:=ae h
 refine Zy (ah e36 q Zl q (af w) (an dL w) q) q q q (Rl 1 q (Zy (ac p45 z45 q q) q q q ?_))
 refine Zy (iH (xs:=[.bool a.reached, .int .i64 ((a.r 0).lo), .int .i64 ((a.r 0).hi), .int .i64 ((a.r 1).lo), .int .i64 ((a.r 1).hi), .int .i64 ((a.r 2).lo), .int .i64 ((a.r 2).hi), .int .i64 ((a.r 3).lo), .int .i64 ((a.r 3).hi), .int .i64 ((a.r 4).lo), .int .i64 ((a.r 4).hi), .int .i64 ((a.r 5).lo), .int .i64 ((a.r 5).hi), .int .i64 ((a.r 6).lo), .int .i64 ((a.r 6).hi), .int .i64 ((a.r 7).lo), .int .i64 ((a.r 7).hi), .int .i64 ((a.r 8).lo), .int .i64 ((a.r 8).hi), .int .i64 ((a.r 9).lo), .int .i64 ((a.r 9).hi), .int .i64 ((a.r 10).lo), .int .i64 ((a.r 10).hi), .int .i64 ((a.r 11).lo), .int .i64 ((a.r 11).hi), .int .i64 ((a.r 12).lo), .int .i64 ((a.r 12).hi), .int .i64 ((a.r 13).lo), .int .i64 ((a.r 13).hi), .int .i64 ((a.r 14).lo), .int .i64 ((a.r 14).hi), .int .i64 ((a.r 15).lo), .int .i64 ((a.r 15).hi)]) (ys:=[.bool false, .int .i64 0, .int .i64 0, .int .i64 0, .int .i64 0, .int .i64 0, .int .i64 0, .int .i64 0, .int .i64 0, .int .i64 0, .int .i64 0, .int .i64 0, .int .i64 0, .int .i64 0, .int .i64 0, .int .i64 0, .int .i64 0, .int .i64 0, .int .i64 0, .int .i64 0, .int .i64 0, .int .i64 0, .int .i64 0, .int .i64 0, .int .i64 0, .int .i64 0, .int .i64 0, .int .i64 0, .int .i64 0, .int .i64 0, .int .i64 0, .int .i64 0, .int .i64 0]) q45 q Zl q (ak (Zs _)) q q q) q q q ?_
 exact On 1 7 h
 exact On 7 7 h
 refine Rlc 2 q (Ci h q (λh=>Rcx 12 q (FA h)) λh=>?_)
 refine Rcc 8 q (Ln1 (λx=> [(1, .d (.pc (R33 t0))),(3, .l E45 c.1),(4, .l E50 c.2.1),(7, .n f),(8, .n x)]) (λ_=> []) (f3_l3 c f P) h (λ_ h=>by rw[f3_l3] at h;cases h) λna x h=>?_)
 rw[f3_l3] at h
 refine Rcc 7 q (Ci h q (λh=>?_) λh=>?_)
 refine Rcl 9 q (Ix h e36 dL q Zl q q λS _ h=>(Rl 1 q ?_))
 replace h:=aD h
 obtain⟨T,h⟩:=h
 refine Zq (cX R42 S.r (λ_=>q) q cw q q q T) q (Rl 1 q (wF Z4 (f8_c) Lw Z3 (Rlc 2 q (Ci h q (λh=>?_) λh=>?_))))
 exact Rcx 15 q (FA h)
 exact Rcx 8 q (Fn1 h)
 exact Rcx 5 q (En0 h)
 exact Rcx 5 q (Fn1 h)
 exact Rcx 4 q (En0 h)
 refine Jn0 [] [] h (λU h=>?_) (λh=>?_)
 refine Rcc 6 q (Ln1 (λe=> [(1, .d (.pc (R33 t0))),(4, .l E50 c.2.1),(9, .n e)]) (λ_=> []) (f3_l4 t0 c U) h (λ_ h=>by rw[f3_l4] at h;cases h) λn e h=>?_)
 rw[f3_l4] at h
 refine Rcl 5 q (Zq (ab E50 c.2.1 e37 q q Zl) q (Rlc 3 q (Ci h q (λh=>?_) λh=>?_)))
 refine Rcc 2 q (Jn0 [(1, .d (.pc (R33 t0))),(4, .l E50 c.2.1),(9, .n e)] [] h (λV h=>?_) λh=>?_)
 refine Rcc 3 q (av kR kR (Rq 2 q ?_))
 obtain⟨X,y,h⟩:=ae h
 refine WQ.qn (ah e37 q Zl q (af y) (an c5 y) q) q (Rq 1 q (WQ.qn (ab E42 X e50 q q Zl) q (Rq 3 q ?_)))
 obtain⟨bs,A,h⟩:=ae h
 refine WQ.qn (ah e27 q Zl q (af A) (an cA A) q) q (Rq 3 q (WQ.nil (Rxc 1 q (Ci h q (λh=>?_) λh=>?_))))
 exact Rcx 12 q (FA h)
 refine Rcc 8 q (Ln1 (λm=> [(1, .d (.pc (R33 t0))),(4, .l E50 c.2.1),(9, .n e),(10, .n m)]) (λ_=> []) (f3_l5 t0 c e V) h (λ_ h=>by rw[f3_l5] at h;cases h) λna m h=>?_)
 rw[f3_l5] at h
 refine Rcl 6 q (Ix h e37 c5 q Zl q q λY _ h=>(Rl 1 q (Zq (ab E42 Y e50 q q Zl) q (Rlc 3 q (Ci h q (λh=>?_) λh=>?_)))))
 refine Rcc 4 q (Jn1 (λB=> [(1, .d (.pc (R33 t0))),(4, .l E50 c.2.1),(9, .n e),(10, .n m),(144, .d (D.b B))]) (λ_=> []) h (λ_ h=>?_) λB h=>?_)
 obtain⟨b0,j,h⟩:=ae h
 obtain⟨Z,k,h⟩:=ae h
 rcases cy (f8 Z) with g|g
 replace h:=cG h g
 apply RT [_,_,_,_,_,_,_,_,_,_,_,_,_,_,_,_,_,_,_,_,_,_,_,_,_] [] [] [p01 4,p01 9,p20 0 1,p10 2,p01 10,p20 3 4,p10 5,p10 6,p10 7,p10 8,p10 8,p10 8,p10 8,p10 8,p10 8,p10 8,p10 8,p10 8,p10 8,p10 8,p10 8,p10 8,p10 8,p10 8,p20 8 23] kR kR q q
 refine Y2 ?_
 refine zo (λ_=>Zq (ah e37 q Zl q (af j) (an c5 j) q) q (Zd q q q)) ?_
 refine Y2 ?_
 refine zo (λ_=>Zq (ah e50 q Zl q (af k) (an bL k) q) q (Zd q q q)) ?_
 refine Y1 ?_
 refine zo (λ_=>wF Z4 (f8_c) Lw Z3 (Zd q q q)) ?_
 refine zo (rc g) ?_
 refine Y9 ?_
 exact Y7 Zt
 exact En1 h
 replace h:=cH h g
 obtain⟨b1,C,h⟩:=ae h
 obtain⟨b2,E,h⟩:=ae h
 obtain⟨b3,F,h⟩:=ae h
 obtain⟨b4,a0,h⟩:=ae h
 apply RT [_,_,_,_,_,_,_,_,_,_,_,_,_,_,_,_,_,_,_,_,_,_,_,_,_] [] [] [p01 4,p01 9,p20 0 1,p10 2,p01 10,p20 3 4,p10 5,p10 6,p10 7,p11 8 4,p11 8 9,p30 9 10 8,p20 11 8,p11 8 10,p30 12 13 8,p20 14 8,p11 8 1,p20 16 8,p11 8 9,p30 17 18 8,p20 19 8,p20 20 8,p30 15 21 8,p20 22 8,p20 8 23] kR kR q q
 refine Y2 ?_
 refine zo (λ_=>Zq (ah e37 q Zl q (af j) (an c5 j) q) q (Zd q q q)) ?_
 refine Y2 ?_
 refine zo (λ_=>Zq (ah e50 q Zl q (af k) (an bL k) q) q (Zd q q q)) ?_
 refine Y1 ?_
 refine zo (λ_=>wF Z4 (f8_c) Lw Z3 (Zd q q q)) ?_
 refine zo (rc g) ?_
 refine Y2 ?_
 refine zo (λ_=>Zy (ah e37 q Zl q (af C) (an c5 C) q) q q q (Zd q q q)) ?_
 refine Y2 ?_
 refine zo (λ_=>Zy (ah e50 q Zl q (af E) (an bL E) q) q q q (Zd q q q)) ?_
 refine Y4 ?_
 refine zo (λ_=>Zy (ah e27 q Zl q (af F) (an cA F) q) q q q (Zd q q q)) ?_
 refine Y1 ?_
 refine zo (λ_=>WL.fn q q q q (f10_c a0) Lw (aG q q q) q q (Zd q q q)) ?_
 refine zo (λ_=>WL.fn q q q q (f9_c) Lw (aG q q q) q q (Zd q q q)) ?_
 exact Y2 Zt
 exact En1 h
 refine Ci h q (λh=>?_) (λh=>?_)
 exact Rcx 15 q (FA h)
 exact Rcx 8 q (Fn1 h)
 exact Rcx 5 q (En0 h)
 exact Rcx 5 q (Fn1 h)
 exact Rcx 4 q (En0 h)
 refine Rcl 2 q ?_
 obtain⟨b5,a1,h⟩:=ae h
 exact WL.fn q q q q (f6_c a1) Zt (Zw q) q q (Rlx 4 q (FA h))

end Go.Proofs.YtkbpoeellidgeaaGreatDoor
