/- The walks of the finder. -/
import Derived.Test.YtkbpoeellidgeaaGreatDoorWn
set_option linter.unusedVariables false
set_option linter.unusedSimpArgs false
set_option linter.unusedSectionVars false
set_option linter.unnecessarySimpa false
set_option maxHeartbeats 4000000
set_option maxRecDepth 100000
namespace Go.Proofs.YtkbpoeellidgeaaGreatDoor
open Go.Proofs.Tryz
open Go Go.Sk

theorem f90_c{t:al}{rg:List aa}{fc:List aj}{sl:List (List aa)}{pc:Int}{rr:Nat→aa}{pl:List ((Int×Int)×aa)}{wy:List (Int×(Nat→aa))}{at1:Int}{r2:Nat→aa}{ky:Nat→Value}{r:List (Int×(Nat→aa))}(h:f90 t rg fc sl pc rr pl wy at1 r2=some r):Ctr prog 90 [.pt 0 0, .n at1, .d (.ag (R43 r2))] [fN ky t rg fc sl pc rr,mP pl,mW wy] (fa 3 (λr' new=>r'= .d (.tu [])∧new=[fN ky t rg fc sl pc rr,mP pl,mW r])):=by
 unfold f90 at h
 refine cI func90 λ_ _ _ hmm=>?_
 refine Rcl 2 q (Bx q q q (Rll 8 q ?_))
 apply WL.or 8 (t:=11) (d:=19)
 exact q
 intro w
 exact Rl 4 q (Zy (bm q q a36 q) q q q (Zy (ab E45 fc e36 q q Zl) q q q (Rl 2 q (WL.nil ⟨q,[_,_,_,_,_,_,_,_],q,q,q⟩))))
 exact Rn 8 8
 refine Rlc 2 q (Ci h q (λh=>?_) λh=>?_)
 refine Rcx 2 q ?_
 obtain rfl:=Oi h
 exact aw (new:=[fN ky t rg fc sl pc rr,mP pl,mW wy]) (r0:= .d (.tu [])) (bX q) (aY Zt) q ⟨Zp,q,q,Zt⟩ ⟨q,q⟩
 refine Rcc 2 q ?_
 refine Jn1 (λ_=> [(0, .pt 0 0),(1, .n at1),(5, .pt 3 0)]) (λc30v54=> [fN ky t rg fc sl pc rr,mP pl,mW wy, .row 43 (bg 32 (λj=> .d (aO R42 c30v54 j))), .row 43 (bg 32 (λj=> .d (aO R42 (Option.getD (bH wy at1) (λ_=>(aa.mk 0 0))) j)))]) h (λm h=>?_) (λc30v54 h=>?_)
 refine Rcl 7 q (Zq (nP kW aW wy (k:=at1) (z:=(λ_=>(aa.mk 0 0))) underlying66 underlying3 (KeyF.int .i64) q q q kR (λ_ _ _=>qr q) q q) q (Rl 3 q (Al z43 q (sS Z6 s43 Z2 (St q (Rlc 8 q (Ci h q (λh=>?_) λh=>?_)))))))
 refine Rcc 6 q ?_
 refine Ln2 (λa _=> [(0, .pt 0 0),(1, .n at1),(5, .pt 3 0),(6, .pt 4 0),(30, .n a)]) (λ_ c30v59=> [fN ky t rg fc sl pc rr,mP pl,mW wy, .row 43 (bg 32 (λj=> .d (aO R42 c30v59 j))), .row 43 (bg 32 (λj=> .d (aO R42 (Option.getD (bH wy at1) (λ_=>(aa.mk 0 0))) j)))]) (f90_l1 wy at1 m) h (λ_ _ h=>by rw[f90_l1] at h;cases h) (λn a c30v59 h=>?_)
 rw[f90_l1] at h
 refine Rcc 6 q (Ci h q (λh=>?_) λh=>?_)
 refine Rcc 10 q ?_
 replace h:=aD h
 obtain⟨c,h⟩:=h
 replace h:=aD h
 obtain⟨e,h⟩:=h
 obtain⟨f,p,h⟩:=ae h
 replace h:=aD h
 obtain⟨g,h⟩:=h
 apply RT [_,_,_,_,_,_,_,_,_,_, .u] [10] [[fN ky t rg fc sl pc rr,mP pl,mW wy, .row 43 (bg 32 (λj=> .d (aO R42 (be c30v59 (Int.toNat a) f) j))), .row 43 (bg 32 (λj=> .d (aO R42 (Option.getD (bH wy at1) (λ_=>(aa.mk 0 0))) j)))]] [p01 8,p01 8,p11 1 5,p10 2,p01 8,p11 4 6,p10 5,p10 6,p20 3 7,p11 0 5,p20 9 8] kR kR q q
 refine Y2 ?_
 refine zo (λ_=>Zq (ar cw q q (aT c) (aS c)) q (Zd q q q)) ?_
 refine zo (λ_=>Zq (bw (off:=0) (N:=32) (n:=16) R42 c30v59 (λ_=>q) q q q a42 s42 q q c) q (Zd q q q)) ?_
 refine Y1 ?_
 refine zo (λ_=>Zq (ar cw q q (aT e) (aS e)) q (Zd q q q)) ?_
 refine zo (λ_=>Zq (bw (off:=0) (N:=32) (n:=16) R42 (Option.getD (bH wy at1) (λ_=>(aa.mk 0 0))) (λ_=>q) q q q a42 s42 q q e) q (Zd q q q)) ?_
 refine zo (λ_=>WL.s ((NewOs.data (ad l50 z42 q dC dC q q q dC) (by exact ai bL [((Option.getD (bH wy at1) (λ_=>(aa.mk 0 0))) (Int.toNat a))])).does) (Zw q) q q (Zd q q q)) ?_
 refine zo (λ_=>wF Z4 (f57_c p) Lw Z3 (Zd q q q)) ?_
 refine zo (λ_=>Zq (ar cw q q (aT g) (aS g)) q (Zd q q q)) ?_
 exact zo (λ_=>WL.s0 (dT (off:=0) (N:=32) (n:=16) (cs':=(bg 32 (λj=> .d (aO R42 (be c30v59 (Int.toNat a) f) j)))) R42 c30v59 f (λ_=>q) q q q q Zl q s42 q q g q) (Zw q) q (aJ q q)) Zt
 exact Rxx 6 q (Fn2 h)
 exact Rcx 4 q (En1 h)
 exact Rcx 1 q (En1 h)
 apply RT [_,_,_,_,_,_, .u] [6] [[fN ky t rg fc sl pc rr,mP pl,mW (bI wy at1 c30v54), .row 43 (bg 32 (λj=> .d (aO R42 c30v54 j))), .row 43 (bg 32 (λj=> .d (aO R42 (Option.getD (bH wy at1) (λ_=>(aa.mk 0 0))) j)))]] [p01 0,p10 0,p10 1,p10 2,p01 1,p01 5,p30 3 4 5] kR kR q q
 refine Y5 ?_
 refine zo (λ_=>Zq (cN (off:=0) (N:=32) (aO R42 c30v54) q q a43 s43 q q) q (Zd q q q)) ?_
 exact zo (λ_=>WL.s0 (bq kW aW wy (.inr q) underlying66 underlying3 (KeyF.int .i64) q q q q) (Zw q) q (aJ q q)) Zt
 refine bo ?_
 obtain rfl:=Oi h
 exact aw (new:=[fN ky t rg fc sl pc rr,mP pl,mW (bI wy at1 c30v54)]) (r0:= .d (.tu [])) (bX q) (aY Zt) q ⟨Zp,q,q,Zt⟩ ⟨q,q⟩

theorem f119_c{t:al}{rg:List aa}{fc:List aj}{sl:List (List aa)}{pc:Int}{rr:Nat→aa}{pl:List ((Int×Int)×aa)}{wy:List (Int×(Nat→aa))}{o1:Int}{k2:Int}{v3:aa}{ky:Nat→Value}{r:List ((Int×Int)×aa)}(h:f119 t rg fc sl pc rr pl wy o1 k2 v3=some r):Ctr prog 119 [.pt 0 0, .n o1, .n k2, .d (.ag (R42 v3))] [fN ky t rg fc sl pc rr,mP pl,mW wy] (fa 3 (λr' new=>r'= .d (.tu [])∧new=[fN ky t rg fc sl pc rr,mP r,mW wy])):=by
 unfold f119 at h
 refine cI func119 λ_ _ _ hmm=>?_
 refine Rcl 2 q (Bx q q q (Rll 6 q (Zq (ac p123 vH q q) q (Al vH q (sS Z6 s123 Z2 (Rlc 2 q ?_))))))
 refine Jn2 (λ_ _=> [(0, .pt 0 0),(7, .pt 3 0),(8, .pt 4 0)]) (λc30v39 c31v40=> [fN ky t rg fc sl pc rr,mP pl,mW wy, .row 42 [.n c30v39, .n c31v40], .row 123 [.n o1, .n k2]]) h (λ_ h=>?_) (λc30v39 c31v40 h=>?_)
 refine Rcc 1 q ?_
 apply RT [_,_,_,_,_,_,_,_,_,_, .u,_] [9,10] [[fN ky t rg fc sl pc rr,mP pl,mW wy, .row 42 [.n v3.lo, .n v3.hi], .row 123 [.n o1, .n k2], .row 42 [.n 0, .n 0]],[fN ky t rg fc sl pc rr,mP pl,mW wy, .row 42 [.n v3.lo, .n v3.hi], .row 123 [.n o1, .n k2], .row 42 [.n ((Option.getD (bH pl (o1,k2)) (aa.mk 0 0)).lo), .n ((Option.getD (bH pl (o1,k2)) (aa.mk 0 0)).hi)]]] [u01 0,u10 0,u10 1,u10 2,u01 8,u20 3 4,u10 5,u10 6,([6],[],[0,1,2]),p00,q20 9 7 1,q10 8 2] kR kR q q
 refine X2d ?_
 refine X2a ?_
 refine⟨⟨λ_=>Zq (jY kP aP pl (k:=(o1,k2)) (z:=(aa.mk 0 0)) (vs:=[.int .i64 o1, .int .i64 k2]) underlying65 (fX underlying123 underlying3 underlying3 q q kR) q q q (ak (Zs _)) q kR (λ_ _ _=>qr q) q q) q (Zd q q q),λ_=>Zq (jY kP aP pl (k:=(o1,k2)) (z:=(aa.mk 0 0)) (vs:=[.int .i64 o1, .int .i64 k2]) underlying65 (fX underlying123 underlying3 underlying3 q q kR) q q q (ak (Zs _)) q kR (λ_ _ _=>qr q) q q) q (Zd q q q),Zt⟩,?_⟩
 refine X2b ?_
 refine X3a ?_
 refine zo (λ_=>Al z42 q (Zd q q q)) ?_
 refine zo (λ_=>sS Z6 s42 Z2 (aJ q q)) ?_
 exact Y1 Zt
 refine Rxc 6 q (Ci h q (λh=>?_) λh=>?_)
 refine Rcl 3 q (WL.s ((NewOs.b (ad l50 z42 q dC dC q q q dC)).does) (Zw q) q q ?_)
 refine WL.freezeX [26] [] 6 _ q (ai bL [(Option.getD (bH pl (o1,k2)) (aa.mk 0 0))]) ⟨q,Zt⟩ Zt ?_
 obtain⟨c,a,h⟩:=ae h
 exact wF Z4 (f57_c a) ⟨(ak (Zs _)),Zl,Zt⟩ Z3 (sS Z6 s42 Z2 (Rlx 1 q (WE.drop 5 (env':=[(0, .pt 0 0),(7, .pt 3 0),(8, .pt 4 0)]) Sb q (ay q (ay (cv _ kP dP _) (ay (cv _ kW dW _) Kv))) (Nat.le_trans (Nat.le_of_eq hmm) (nbT q)) (En2 h))))
 exact Rcx 1 q (WE.drop 5 (env':=[(0, .pt 0 0),(7, .pt 3 0),(8, .pt 4 0)]) Sb q (ay q (ay (cv _ kP dP _) (ay (cv _ kW dW _) Kv))) (Nat.le_trans (Nat.le_of_eq hmm) (nbT q)) (En2 h))
 apply RT [_,_,_,_,_,_, .u] [6] [[fN ky t rg fc sl pc rr,mP (bI pl (o1,k2) (aa.mk c30v39 c31v40)),mW wy, .row 42 [.n c30v39, .n c31v40], .row 123 [.n o1, .n k2]]] [p01 0,p10 0,p10 1,p10 2,p01 8,p01 7,p30 3 4 5] kR kR q q
 refine Y6 ?_
 exact zo (λ_=>WL.s0 (ln kP aP pl (k:=(o1,k2)) (u:=(aa.mk c30v39 c31v40)) (vs:=[.int .i64 o1, .int .i64 k2]) (.inr q) underlying65 (fX underlying123 underlying3 underlying3 q q kR) q q q (ak (Zs _)) q q (ak (Zs _))) (Zw q) q (aJ q q)) Zt
 refine bo ?_
 obtain rfl:=Oi h
 exact aw (new:=[fN ky t rg fc sl pc rr,mP (bI pl (o1,k2) (aa.mk c30v39 c31v40)),mW wy]) (r0:= .d (.tu [])) (bX q) (aY Zt) q ⟨Zp,q,q,Zt⟩ ⟨q,q⟩

theorem f58_c{t:al}{rg:List aa}{fc:List aj}{sl:List (List aa)}{pc:Int}{rr:Nat→aa}{pl:List ((Int×Int)×aa)}{wy:List (Int×(Nat→aa))}{a:Bool}{ky:Nat→Value}{r:List (Int×(Nat→aa))}(h:f58 t rg fc sl pc rr pl wy a=some r):Ctr prog 58 [.pt 0 0, .d (D.b a)] [fN ky t rg fc sl pc rr,mP pl,mW wy] (fa 3 (λr' new=>r'= .d (.tu [])∧new=[fN ky t rg fc sl pc rr,mP pl,mW r])):=by
 unfold f58 at h
 refine cI func58 λ_ _ _ hmm=>?_
 refine Rcl 2 q (Bx q q q (WL.s ((jU q q (by exact(show Les [.d (D.b a)] (List.map AV.d [.b a]) from Lw))).does) (Zw q) q q (Rll 8 q (Zq (bm q q a23 q) q (Rl 1 q ?_)))))
 obtain⟨g,m,h⟩:=aB h
 refine WL.inl (us:=[.l cq t.handlers, .fn (.func 89) [] [.pt 3 0, .d (.pc (E4 a))]]) (λrv st'=>(∃(e:Int),g e=some r∧Le rv (.n e)∧SLe st' [fN ky t rg fc sl pc rr,mP pl,mW wy, .row 64 [.pt 0 0]])) q q q q q ?_ (Zw q) q q ?_
 refine cI func88 λ_ _ _ _=>?_
 refine Rcc 5 q (Jn0 [] [fN ky t rg fc sl pc rr,mP pl,mW wy, .row 64 [.pt 0 0]] h (λp h=>?_) λh=>?_)
 refine Rcl 3 q (Zq (ab cq t.handlers e23 q q Zl) q (Rlc 4 q ?_))
 refine Ln1 (λf=> [(0, .l cq t.handlers),(1, .fn (.func 89) [] [.pt 3 0, .d (.pc (E4 a))]),(7, .n (List.length t.handlers:Int)),(8, .n f)]) (λ_=> [fN ky t rg fc sl pc rr,mP pl,mW wy, .row 64 [.pt 0 0]]) (f58_l1 t pc a g p) h (λ_ h=>by rw[f58_l1] at h;cases h) (λn f h=>?_)
 rw[f58_l1] at h
 refine Rcc 6 q (Ci h q (λh=>?_) λh=>?_)
 refine Rcl 15 q (Ix h e23 ir q Zl q q λc _ h=>(Rl 1 q ?_))
 obtain⟨w,x,h⟩:=aB h
 refine WL.inl (us:=[.d (.ag (u7 c)), .pt 3 0, .d (.pc (E4 a))]) (λrv st'=>(w ()=some r∧Le rv (.d (D.b (((decide (c.from_≤pc))&&(decide (pc<c.to)))&&(c.clean||(!a)))))∧SLe st' [fN ky t rg fc sl pc rr,mP pl,mW wy, .row 64 [.pt 0 0]])) q q q q q ?_ (Zw q) q q ?_
 refine cI func89 λ_ _ _ _=>?_
 refine Rcl 2 q (Bd q q (Zs _) q (Rlc 4 q (av kR kR (Rq 8 q ?_))))
 apply WQ.and 8 (t:=12) (d:=20)
 exact q
 intro B
 exact Rq 8 q (WQ.nil ⟨[_,_,_,_,_,_,_,_],q,q,q⟩)
 exact Rq 8 q (WQ.nil ⟨[_,_,_,_,_,_,_,_],q,q,q⟩)
 refine Rq 1 q ?_
 apply WQ.and 7 (t:=21) (d:=28)
 exact q
 intro C
 refine Rq 3 q ?_
 apply WQ.or 3 (t:=24) (d:=27)
 exact q
 intro E
 exact Rq 3 q (WQ.nil ⟨[_,_,_],q,q,q⟩)
 exact Rq 3 q (WQ.nil ⟨[_,_,_],q,q,q⟩)
 exact Rq 1 q (WQ.nil ⟨[_,_,_,_,_],q,q,q⟩)
 exact Rq 7 q (WQ.nil ⟨[_,_,_,_,_,_,_],q,q,q⟩)
 exact Rq 1 q (WQ.nil (Rxx 2 q (ax (rs1 q (aR q)) ⟨h,Zl,⟨Zp,q,q,Zp,Zt⟩⟩)))
 rintro rv y ⟨h,hr,hst⟩
 subst x
 dsimp only at h
 refine WL.cast 16 q hr (WL.weak hst (Zn (Ci h q (λh=>?_) λh=>?_)))
 exact Rcx 12 q (ax (rs1 q (aR q)) ⟨f,h,Zl,⟨Zp,q,q,Zp,Zt⟩⟩)
 exact Rcx 7 q (Fn1 h)
 exact Rcx 4 q (En0 h)
 exact Rcx 6 q (ax (rs1 q (aR q)) ⟨(-1),h,Zl,⟨Zp,q,q,Zp,Zt⟩⟩)
 rintro rv y ⟨e,h,hr,hst⟩
 subst m
 dsimp only at h
 refine WL.cast 11 q hr (WL.weak hst (Rl 1 q (Zn (Rcc 6 q (Ci h q (λh=>?_) λh=>?_)))))
 obtain⟨F,j,h⟩:=ae h
 obtain⟨k,A,h⟩:=ae h
 apply RT [_,_,_,_,_,_,_,_,_,_,_,_] [11] [[fN ky t rg fc sl pc rr,mP pl,mW k, .row 64 [.pt 0 0]]] [p01 2,p01 2,p10 1,p10 2,p10 3,p10 4,p01 4,p20 5 6,p10 7,p10 8,p00,p30 0 9 10] kR kR q q
 refine Y5 ?_
 refine zo (λ_=>Zq (bm q q a23 q) q (Zd q q q)) ?_
 refine Y1 ?_
 refine zo (λ_=>Zq (ah e23 q Zl q (af j) (an ir j) q) q (Zd q q q)) ?_
 refine Y2 ?_
 refine zo (λ_=>Zq (sE cw z43 q q) q (Zd q q q)) ?_
 refine zo (λ_=>?_) Zt
 refine aN [0,1,2] q q q q (f90_c A (ky:=ky)) ⟨Zl,Zl,(ak (Zs _)),Zt⟩ q dC reM ⟨q,q,q,Zt⟩ (ltM q) q (Zw q) q q (λr' new hS=>?_)
 obtain⟨rfl,rfl⟩:=hS
 refine⟨_,_,q,reM,q,(ltM q),?_⟩
 exact Zd q q q
 refine bo ?_
 obtain rfl:=Oi h
 exact aw (new:=[fN ky t rg fc sl pc rr,mP pl,mW k]) (r0:= .d (.tu [])) (bX q) (aY Zt) q ⟨Zp,q,q,Zt⟩ ⟨q,q⟩
 refine Rcx 1 q (bo ?_)
 obtain rfl:=Oi h
 exact aw (new:=[fN ky t rg fc sl pc rr,mP pl,mW wy]) (r0:= .d (.tu [])) (bX q) (aY Zt) q ⟨Zp,q,q,Zt⟩ ⟨q,q⟩

theorem f116_c{t:al}{rg:List aa}{fc:List aj}{sl:List (List aa)}{pc:Int}{rr:Nat→aa}{pl:List ((Int×Int)×aa)}{wy:List (Int×(Nat→aa))}{d1:Int}{v2:aa}{ky:Nat→Value}{r:List (Int×(Nat→aa))}(h:f116 t rg fc sl pc rr pl wy d1 v2=some r):Ctr prog 116 [.pt 0 0, .n d1, .d (.ag (R42 v2))] [fN ky t rg fc sl pc rr,mP pl,mW wy] (fa 3 (λr' new=>r'= .d (.tu [])∧new=[fN ky t rg fc sl pc rr,mP pl,mW r])):=by
 unfold f116 at h
 refine cI func116 λ_ _ _ hmm=>?_
 refine Rcl 2 q (Bd q q (Zs _) q (Rll 5 q (wF Z4 (f118_c) Lw Z3 (Rlc 3 q (Ci h q (λh=>?_) λh=>?_)))))
 refine Rcl 5 q (Zq (cN (off:=15) (N:=32) (aO R42 rr) q q a43 s43 q q) q (Al z43 q (sS Z6 s43 Z2 (St q (Rll 6 q ?_)))))
 replace h:=aD h
 obtain⟨a,h⟩:=h
 refine Zq (ar cw q q (aT a) (aS a)) q (WL.s0 (dT (off:=0) (N:=32) (n:=16) (cs':=(bg 32 (λj=> .d (aO R42 (be rr (Int.toNat d1) v2) j)))) R42 rr v2 (λ_=>q) q q q q Zl q s42 q q a q) (Zw q) q (St q (Rlc 2 q ?_)))
 obtain⟨c,e,h⟩:=ae h
 apply RT [_,_,_,_,_,_,_,_] [7] [[fN ky t rg fc sl pc rr,mP pl,mW c, .row 43 (bg 32 (λj=> .d (aO R42 (be rr (Int.toNat d1) v2) j)))]] [p01 0,p01 0,p10 1,p10 2,p10 3,p10 4,p01 6,p30 0 5 6] kR kR q q
 refine Y6 ?_
 refine zo (λ_=>Zq (cN (off:=0) (N:=32) (aO R42 (be rr (Int.toNat d1) v2)) q q a43 s43 q q) q (Zd q q q)) ?_
 refine zo (λ_=>?_) Zt
 refine aN [0,1,2] q q q q (f90_c e (ky:=ky)) Lw q dC reM ⟨q,q,q,Zt⟩ (ltM q) q (Zw q) q q (λr' new hS=>?_)
 obtain⟨rfl,rfl⟩:=hS
 refine⟨_,_,q,reM,q,(ltM q),?_⟩
 exact Zd q q q
 refine bo ?_
 obtain rfl:=Oi h
 exact aw (new:=[fN ky t rg fc sl pc rr,mP pl,mW c]) (r0:= .d (.tu [])) (bX q) (aY Zt) q ⟨Zp,q,q,Zt⟩ ⟨q,q⟩
 refine Rcx 1 q (bo ?_)
 obtain rfl:=Oi h
 exact aw (new:=[fN ky t rg fc sl pc rr,mP pl,mW wy]) (r0:= .d (.tu [])) (bX q) (aY Zt) q ⟨Zp,q,q,Zt⟩ ⟨q,q⟩

theorem f122_c{t:al}{rg:List aa}{fc:List aj}{sl:List (List aa)}{pc:Int}{rr:Nat→aa}{pl:List ((Int×Int)×aa)}{wy:List (Int×(Nat→aa))}{c:Int}{d2:Int}{v3:aa}{ky:Nat→Value}{r:List (Int×(Nat→aa))}(h:f122 t rg fc sl pc rr pl wy c d2 v3=some r):Ctr prog 122 [.pt 0 0, .n c, .n d2, .d (.ag (R42 v3))] [fN ky t rg fc sl pc rr,mP pl,mW wy] (fa 3 (λr' new=>r'= .d (.tu [])∧new=[fN ky t rg fc sl pc rr,mP pl,mW r])):=by
 unfold f122 at h
 refine cI func122 λ_ _ _ hmm=>?_
 refine Rcl 2 q (Bd q q (Zs _) q (Rll 5 q (wF Z4 (f118_c) Lw Z3 (Rlc 3 q (Ci h q (λh=>?_) λh=>?_)))))
 refine Rcl 5 q (Zq (cN (off:=15) (N:=32) (aO R42 rr) q q a43 s43 q q) q (Al z43 q (sS Z6 s43 Z2 (St q (Rll 6 q ?_)))))
 replace h:=aD h
 obtain⟨a,h⟩:=h
 refine Zq (ar cw q q (aT a) (aS a)) q (WL.s0 (dT (off:=0) (N:=32) (n:=16) (cs':=(bg 32 (λj=> .d (aO R42 (be rr (Int.toNat d2) v3) j)))) R42 rr v3 (λ_=>q) q q q q Zl q s42 q q a q) (Zw q) q (St q (Rll 5 q (Zq (cN (off:=0) (N:=32) (aO R42 (be rr (Int.toNat d2) v3)) q q a43 s43 q q) q ?_))))
 obtain⟨e,f,h⟩:=ae h
 refine aN [0,1,2] q q q q (f90_c f (ky:=ky)) Lw q dC reM ⟨q,q,q,Zt⟩ (ltM q) q (Zw q) q q (λr' new hS=>?_)
 obtain⟨rfl,rfl⟩:=hS
 refine⟨_,_,q,reM,q,(ltM q),?_⟩
 refine St q (Rlx 1 q (bo ?_))
 obtain rfl:=Oi h
 exact aw (new:=[fN ky t rg fc sl pc rr,mP pl,mW e]) (r0:= .d (.tu [])) (bX q) (aY Zt) q ⟨Zp,q,q,Zt⟩ ⟨q,q⟩
 refine Rcx 1 q (bo ?_)
 obtain rfl:=Oi h
 exact aw (new:=[fN ky t rg fc sl pc rr,mP pl,mW wy]) (r0:= .d (.tu [])) (bX q) (aY Zt) q ⟨Zp,q,q,Zt⟩ ⟨q,q⟩

theorem f91_c{t:al}{rg:List aa}{fc:List aj}{sl:List (List aa)}{pc:Int}{rr:Nat→aa}{pl:List ((Int×Int)×aa)}{wy:List (Int×(Nat→aa))}{x1:ao}{ky:Nat→Value}{r:(Nat→aa)×(List (Int×(Nat→aa)))}(h:f91 t rg fc sl pc rr pl wy x1=some r):Ctr prog 91 [.pt 0 0, .d (.ag (R59 x1))] [fN ky t rg fc sl pc rr,mP pl,mW wy] (fa 3 (λr' new=>r'= .d (.tu [])∧new=[fN ky t rg fc sl pc r.1,mP pl,mW r.2])):=by
 unfold f91 at h
 refine cI func91 λ_ _ _ hmm=>?_
 refine Rcl 2 q (Bd q q (Zs _) q (Rlc 3 q ?_))
 replace h:=aD h
 obtain⟨c,h⟩:=h
 apply RT [_,_,_,_,_,_,_,_, .u] [7,8] [[fN ky t rg fc sl pc rr,mP pl,mW wy, .row 42 [.n 0, .n 0]],[fN ky t rg fc sl pc rr,mP pl,mW wy, .row 42 [.n ((rr (Int.toNat x1.a)).lo), .n ((rr (Int.toNat x1.a)).hi)]]] [u01 0,u01 3,u10 1,u10 0,u10 3,u20 4 2,u10 5,p00,q20 7 6 1] kR kR q q
 refine X2d ?_
 refine X2a ?_
 refine⟨⟨λ_=>Zq (ar cw q q (aT c) (aS c)) q (Zd q q q),λ_=>Zq (ar cw q q (aT c) (aS c)) q (Zd q q q),Zt⟩,?_⟩
 refine⟨⟨λ_=>Zq (bw (off:=15) (N:=32) (n:=16) R42 rr (λ_=>q) q q q a42 s42 q q c) q (Zd q q q),λ_=>Zq (bw (off:=15) (N:=32) (n:=16) R42 rr (λ_=>q) q q q a42 s42 q q c) q (Zd q q q),Zt⟩,?_⟩
 refine zo (λ_=>Al z42 q (Zd q q q)) ?_
 exact zo (λ_=>sS Z6 s42 Z2 (aJ q q)) Zt
 refine Rxc 14 q (Ci h q (λh=>?_) λh=>?_)
 obtain⟨V,w,h⟩:=ae h
 obtain⟨X,x,h⟩:=ae h
 obtain⟨y,I,h⟩:=ae h
 apply RT [_,_,_,_,_,_,_,_,_,_,_,_,_,_,_,_] [15] [[fN ky t rg fc sl pc rr,mP pl,mW y, .row 42 [.n ((rr (Int.toNat x1.a)).lo), .n ((rr (Int.toNat x1.a)).hi)]]] [p01 0,p01 3,p10 1,p01 0,p10 3,p10 4,p10 5,p01 3,p10 7,p20 6 8,p10 9,p01 3,p10 11,p20 10 12,p10 13,p30 0 2 14] kR kR q q
 refine Y6 ?_
 refine zo (λ_=>Zq (bm q q a37 q) q (Zd q q q)) ?_
 refine Y2 ?_
 refine zo (λ_=>Zq (ah e37 q Zl q (af w) (an c5 w) q) q (Zd q q q)) ?_
 refine Y3 ?_
 refine zo (λ_=>Zq (ah e50 q Zl q (af x) (an bL x) q) q (Zd q q q)) ?_
 refine Y1 ?_
 refine zo (λ_=>?_) Zt
 refine aN [0,1,2] q q q q (f116_c I (ky:=ky)) Lw q dC reM ⟨q,q,q,Zt⟩ (ltM q) q (Zw q) q q (λr' new hS=>?_)
 obtain⟨rfl,rfl⟩:=hS
 refine⟨_,_,q,reM,q,(ltM q),?_⟩
 exact Zd q q q
 refine Rxx 1 q (bo ?_)
 obtain rfl:=Oi h
 exact aw (new:=[fN ky t rg fc sl pc rr,mP pl,mW y]) (r0:= .d (.tu [])) (bX q) (aY Zt) q ⟨Zp,q,q,Zt⟩ ⟨q,q⟩
 refine Rcc 6 q (Ci h q (λh=>?_) λh=>?_)
 refine Rcc 1 q ?_
 apply RT [_,_,_,_,_,_,_, .u] [6,7] [[fN ky t rg fc sl pc rr,mP pl,mW wy, .row 42 [.n ((rr (Int.toNat x1.a)).lo), .n ((rr (Int.toNat x1.a)).hi)], .row 42 [.n 0, .n 0]],[fN ky t rg fc sl pc rr,mP pl,mW wy, .row 42 [.n ((rr (Int.toNat x1.a)).lo), .n ((rr (Int.toNat x1.a)).hi)], .row 42 [.n ((f117 (rr (Int.toNat x1.a)) (f56 0 (IntKind.i64.wrap (x1.b - 1)))).lo), .n ((f117 (rr (Int.toNat x1.a)) (f56 0 (IntKind.i64.wrap (x1.b - 1)))).hi)]]] [u01 4,u01 3,u10 1,u10 2,u10 3,u20 0 4,p00,q20 6 5 1] kR kR q q
 refine X2d ?_
 refine⟨⟨λ_=>wF Z4 (f56_c) Lw Z3 (Zd q q q),λ_=>wF Z4 (f56_c) Lw Z3 (Zd q q q),Zt⟩,?_⟩
 refine⟨⟨λ_=>wF Z4 (f117_c) ⟨(ak (Zs _)),Zl,Zt⟩ Z3 (Zd q q q),λ_=>wF Z4 (f117_c) ⟨(ak (Zs _)),Zl,Zt⟩ Z3 (Zd q q q),Zt⟩,?_⟩
 refine zo (λ_=>Al z42 q (Zd q q q)) ?_
 exact zo (λ_=>sS Z6 s42 Z2 (aJ q q)) Zt
 refine Rxl 5 q (wF Z4 (f118_c) ⟨(ak (Zs _)),Zt⟩ Z3 (Rlc 2 q (Ci h q (λh=>?_) λh=>?_)))
 refine Rcx 3 q ?_
 obtain rfl:=Oi h
 exact aw (new:=[fN ky t rg fc sl pc rr,mP pl,mW wy]) (r0:= .d (.tu [])) (bX q) (aY Zt) q ⟨Zp,q,q,Zt⟩ ⟨q,q⟩
 refine Rcc 3 q (av kR kR (Rq 3 q (WQ.qn (bm q q a37 q) q (Rq 2 q ?_))))
 obtain⟨g,A,h⟩:=ae h
 refine WQ.qn (ah e37 q Zl q (af A) (an c5 A) q) q (Rq 12 q ?_)
 replace h:=aD h
 obtain⟨K,h⟩:=h
 refine WQ.qn (gF E42 g (l:=(IntKind.i64.wrap (x1.m+((f117 (rr (Int.toNat x1.a)) (f56 0 (IntKind.i64.wrap (x1.b - 1)))).lo)))) (h:=(IntKind.i64.wrap ((IntKind.i64.wrap (x1.m+((f117 (rr (Int.toNat x1.a)) (f56 0 (IntKind.i64.wrap (x1.b - 1)))).hi)))+1))) e50 q Zl ⟨_,q⟩ ⟨_,q⟩ K λ_=>q) q (Rq 1 q (WQ.nil (Rxc 2 q ?_)))
 replace h:=aD h
 obtain⟨k,h⟩:=h
 apply RT [_,_,_,_,_,_,_, .u] [7] [[fN ky t rg fc sl pc (be rr (Int.toNat x1.a) (f117 (rr (Int.toNat x1.a)) (f56 0 (IntKind.i64.wrap (x1.b - 1))))),mP pl,mW wy, .row 42 [.n ((rr (Int.toNat x1.a)).lo), .n ((rr (Int.toNat x1.a)).hi)], .row 42 [.n ((f117 (rr (Int.toNat x1.a)) (f56 0 (IntKind.i64.wrap (x1.b - 1)))).lo), .n ((f117 (rr (Int.toNat x1.a)) (f56 0 (IntKind.i64.wrap (x1.b - 1)))).hi)]]] [p01 0,p01 3,p10 1,p01 5,p10 0,p10 4,p20 5 2,p20 6 3] kR kR q q
 refine Y6 ?_
 refine zo (λ_=>Zq (ar cw q q (aT k) (aS k)) q (Zd q q q)) ?_
 exact zo (λ_=>WL.s0 (dT (off:=15) (N:=32) (n:=16) (cs':=(([.kv (ky 0) ((.sl (List.map E59 t.insns))), .kv (ky 1) ((.sl (List.map cq t.handlers))), .kv (ky 2) ((.sl (List.map cM t.loops))), .kv (ky 3) ((.sl (List.map E98 t.selects))), .kv (ky 4) ((.sl (List.map E51 t.lists))), .kv (ky 5) ((.sl (List.map E53 t.objs))), .kv (ky 6) ((.sl (List.map E80 t.inits))), .kv (ky 7) ((D.i .i64 t.excs)), .kv (ky 8) ((.sl (List.map E48 t.tasks))), .kv (ky 9) ((.sl (List.map E87 t.prots))), .kv (ky 10) ((.sl (List.map E95 t.checks))), .kv (ky 11) ((.sl (List.map E42 rg))), .kv (ky 12) ((.sl (List.map E45 fc))), .kv (ky 13) ((.sl (List.map E50 sl))), .n pc]:lV)++(bg 32 (λj=> .d (aO R42 (be rr (Int.toNat x1.a) (f117 (rr (Int.toNat x1.a)) (f56 0 (IntKind.i64.wrap (x1.b - 1))))) j))++([.mp 1, .mp 2]:lV):lV))) R42 rr (f117 (rr (Int.toNat x1.a)) (f56 0 (IntKind.i64.wrap (x1.b - 1)))) (λ_=>q) q q q q (ak (Zs _)) q s42 q q k q) (Zw q) q (aJ q q)) Zt
 refine Rxc 1 q ?_
 obtain⟨Y,B,h⟩:=ae h
 replace h:=aD h
 obtain⟨L,h⟩:=h
 obtain⟨Z,M,h⟩:=ae h
 obtain⟨C,O,h⟩:=ae h
 apply RT [_,_,_,_,_,_,_,_,_,_] [9] [[fN ky t rg fc sl pc (be rr (Int.toNat x1.a) (f117 (rr (Int.toNat x1.a)) (f56 0 (IntKind.i64.wrap (x1.b - 1))))),mP pl,mW C, .row 42 [.n ((rr (Int.toNat x1.a)).lo), .n ((rr (Int.toNat x1.a)).hi)], .row 42 [.n ((f117 (rr (Int.toNat x1.a)) (f56 0 (IntKind.i64.wrap (x1.b - 1)))).lo), .n ((f117 (rr (Int.toNat x1.a)) (f56 0 (IntKind.i64.wrap (x1.b - 1)))).hi)]]] [p01 0,p01 3,p10 1,p01 6,p10 3,p10 4,p01 6,p10 6,p20 5 7,p30 0 2 8] kR kR q q
 refine Y4 ?_
 refine zo (λ_=>Zq (ah e50 q Zl q (af B) (an bL B) q) q (Zd q q q)) ?_
 refine Y2 ?_
 refine zo (λ_=>Zq (gF E42 (bD g (IntKind.i64.wrap (x1.m+((f117 (rr (Int.toNat x1.a)) (f56 0 (IntKind.i64.wrap (x1.b - 1)))).lo))) (IntKind.i64.wrap ((IntKind.i64.wrap (x1.m+((f117 (rr (Int.toNat x1.a)) (f56 0 (IntKind.i64.wrap (x1.b - 1)))).hi)))+1))) (l:=1) (h:=(List.length (bD g (IntKind.i64.wrap (x1.m+((f117 (rr (Int.toNat x1.a)) (f56 0 (IntKind.i64.wrap (x1.b - 1)))).lo))) (IntKind.i64.wrap ((IntKind.i64.wrap (x1.m+((f117 (rr (Int.toNat x1.a)) (f56 0 (IntKind.i64.wrap (x1.b - 1)))).hi)))+1))):Int)) e50 q Zl ⟨_,q⟩ q L λ_=>q) q (Zd q q q)) ?_
 refine zo (λ_=>wF Z4 (f57_c M) Lw Z3 (Zd q q q)) ?_
 refine zo (λ_=>?_) Zt
 refine aN [0,1,2] q q q q (f116_c O (ky:=ky)) Lw q dC reM ⟨q,q,q,Zt⟩ (ltM q) q (Zw q) q q (λr' new hS=>?_)
 obtain⟨rfl,rfl⟩:=hS
 refine⟨_,_,q,reM,q,(ltM q),?_⟩
 exact Zd q q q
 refine Rxx 1 q (bo ?_)
 obtain rfl:=Oi h
 exact aw (new:=[fN ky t rg fc sl pc (be rr (Int.toNat x1.a) (f117 (rr (Int.toNat x1.a)) (f56 0 (IntKind.i64.wrap (x1.b - 1))))),mP pl,mW C]) (r0:= .d (.tu [])) (bX q) (aY Zt) q ⟨Zp,q,q,Zt⟩ ⟨q,q⟩
 refine Rcc 6 q (Ci h q (λh=>?_) λh=>?_)
 refine Rcc 1 q ?_
 apply RT [_,_,_,_,_,_,_,_,_, .u] [8,9] [[fN ky t rg fc sl pc rr,mP pl,mW wy, .row 42 [.n ((rr (Int.toNat x1.a)).lo), .n ((rr (Int.toNat x1.a)).hi)], .row 42 [.n 0, .n 0]],[fN ky t rg fc sl pc rr,mP pl,mW wy, .row 42 [.n ((rr (Int.toNat x1.a)).lo), .n ((rr (Int.toNat x1.a)).hi)], .row 42 [.n ((f117 (rr (Int.toNat x1.a)) (f56 1 (List.length sl:Int))).lo), .n ((f117 (rr (Int.toNat x1.a)) (f56 1 (List.length sl:Int))).hi)]]] [u01 4,u01 0,u10 1,u10 2,u10 3,u10 4,u10 5,u20 0 6,p00,q20 8 7 1] kR kR q q
 refine X2d ?_
 refine⟨⟨λ_=>Zq (bm q q a37 q) q (Zd q q q),λ_=>Zq (bm q q a37 q) q (Zd q q q),Zt⟩,?_⟩
 refine⟨⟨λ_=>Zq (ab E50 sl e37 q q Zl) q (Zd q q q),λ_=>Zq (ab E50 sl e37 q q Zl) q (Zd q q q),Zt⟩,?_⟩
 refine⟨⟨λ_=>wF Z4 (f56_c) Lw Z3 (Zd q q q),λ_=>wF Z4 (f56_c) Lw Z3 (Zd q q q),Zt⟩,?_⟩
 refine⟨⟨λ_=>wF Z4 (f117_c) ⟨(ak (Zs _)),Zl,Zt⟩ Z3 (Zd q q q),λ_=>wF Z4 (f117_c) ⟨(ak (Zs _)),Zl,Zt⟩ Z3 (Zd q q q),Zt⟩,?_⟩
 refine zo (λ_=>Al z42 q (Zd q q q)) ?_
 exact zo (λ_=>sS Z6 s42 Z2 (aJ q q)) Zt
 refine Rxl 5 q (wF Z4 (f118_c) ⟨(ak (Zs _)),Zt⟩ Z3 (Rlc 2 q (Ci h q (λh=>?_) λh=>?_)))
 refine Rcx 3 q ?_
 obtain rfl:=Oi h
 exact aw (new:=[fN ky t rg fc sl pc rr,mP pl,mW wy]) (r0:= .d (.tu [])) (bX q) (aY Zt) q ⟨Zp,q,q,Zt⟩ ⟨q,q⟩
 refine Rcc 3 q ?_
 obtain⟨a0,e,h⟩:=ae h
 obtain⟨E,f,h⟩:=ae h
 apply RT [_,_,_,_,_,_,_,_,_,_,_,_, .u] [11,12] [[fN ky t rg fc sl pc rr,mP pl,mW wy, .row 42 [.n ((rr (Int.toNat x1.a)).lo), .n ((rr (Int.toNat x1.a)).hi)], .row 42 [.n ((f117 (rr (Int.toNat x1.a)) (f56 1 (List.length sl:Int))).lo), .n ((f117 (rr (Int.toNat x1.a)) (f56 1 (List.length sl:Int))).hi)], .row 42 [.n 0, .n 0]],[fN ky t rg fc sl pc rr,mP pl,mW wy, .row 42 [.n ((rr (Int.toNat x1.a)).lo), .n ((rr (Int.toNat x1.a)).hi)], .row 42 [.n ((f117 (rr (Int.toNat x1.a)) (f56 1 (List.length sl:Int))).lo), .n ((f117 (rr (Int.toNat x1.a)) (f56 1 (List.length sl:Int))).hi)], .row 42 [.n E.lo, .n E.hi]]] [u01 0,u10 0,u10 1,u10 2,u01 7,u10 4,u10 5,u20 3 6,u10 7,u10 8,u10 9,p00,q20 11 10 1] kR kR q q
 refine X2c ?_
 refine⟨⟨λ_=>Zq (bm q q a37 q) q (Zd q q q),λ_=>Zq (bm q q a37 q) q (Zd q q q),Zt⟩,?_⟩
 refine X2c ?_
 refine⟨⟨λ_=>Zq (ah e37 q Zl q (af e) (an c5 e) q) q (Zd q q q),λ_=>Zq (ah e37 q Zl q (af e) (an c5 e) q) q (Zd q q q),Zt⟩,?_⟩
 refine X2a ?_
 refine⟨⟨λ_=>Zq (ah e50 q Zl q (af f) (an bL f) q) q (Zd q q q),λ_=>Zq (ah e50 q Zl q (af f) (an bL f) q) q (Zd q q q),Zt⟩,?_⟩
 refine X2a ?_
 refine zo (λ_=>Al z42 q (Zd q q q)) ?_
 exact zo (λ_=>sS Z6 s42 Z2 (aJ q q)) Zt
 refine Rxc 1 q ?_
 refine Jn2 (λ_ _=> [(0, .pt 0 0),(3, .d (.pc (R59 x1))),(7, .pt 4 0),(8, .pt 5 0)]) (λc50v159 c51v160=> [fN ky t rg fc sl pc rr,mP pl,mW wy, .row 42 [.n ((rr (Int.toNat x1.a)).lo), .n ((rr (Int.toNat x1.a)).hi)], .row 42 [.n ((f117 (rr (Int.toNat x1.a)) (f56 1 (List.length sl:Int))).lo), .n ((f117 (rr (Int.toNat x1.a)) (f56 1 (List.length sl:Int))).hi)], .row 42 [.n c50v159, .n c51v160]]) h (λP h=>?_) (λc50v159 c51v160 h=>?_)
 refine Rcc 1 q (av kR kR (Rq 3 q (WQ.qn (bm q q a37 q) q (Rq 4 q ?_))))
 replace h:=aD h
 obtain⟨Q,h⟩:=h
 refine WQ.qn (gF E50 sl (l:=((f117 (rr (Int.toNat x1.a)) (f56 1 (List.length sl:Int))).lo)) (h:=((f117 (rr (Int.toNat x1.a)) (f56 1 (List.length sl:Int))).hi)) e37 q Zl ⟨_,q⟩ ⟨_,q⟩ Q λ_=>q) q (WQ.qn (ab E50 (bD sl ((f117 (rr (Int.toNat x1.a)) (f56 1 (List.length sl:Int))).lo) ((f117 (rr (Int.toNat x1.a)) (f56 1 (List.length sl:Int))).hi)) e37 q q Zl) q (Rq 1 q (WQ.nil (Rxc 2 q ?_))))
 refine Ln3 (λF _ _=> [(0, .pt 0 0),(3, .d (.pc (R59 x1))),(7, .pt 4 0),(8, .pt 5 0),(116, .l E50 (bD sl ((f117 (rr (Int.toNat x1.a)) (f56 1 (List.length sl:Int))).lo) ((f117 (rr (Int.toNat x1.a)) (f56 1 (List.length sl:Int))).hi))),(117, .n (List.length (bD sl ((f117 (rr (Int.toNat x1.a)) (f56 1 (List.length sl:Int))).lo) ((f117 (rr (Int.toNat x1.a)) (f56 1 (List.length sl:Int))).hi)):Int)),(118, .n F)]) (λ_ c50v167 c51v168=> [fN ky t rg fc sl pc rr,mP pl,mW wy, .row 42 [.n ((rr (Int.toNat x1.a)).lo), .n ((rr (Int.toNat x1.a)).hi)], .row 42 [.n ((f117 (rr (Int.toNat x1.a)) (f56 1 (List.length sl:Int))).lo), .n ((f117 (rr (Int.toNat x1.a)) (f56 1 (List.length sl:Int))).hi)], .row 42 [.n c50v167, .n c51v168]]) (f91_l1 sl rr x1 P) h (λ_ _ _ h=>by rw[f91_l1] at h;cases h) (λn F c50v167 c51v168 h=>?_)
 rw[f91_l1] at h
 refine Rcc 6 q (Ci h q (λh=>?_) λh=>?_)
 refine Rcl 6 q (Ix h e37 c5 q Zl q q λa1 _ h=>(Rlc 4 q ?_))
 obtain⟨R,G,h⟩:=ae h
 obtain⟨H,S,h⟩:=ae h
 apply RT [_,_,_,_,_,_, .u] [6] [[fN ky t rg fc sl pc rr,mP pl,mW wy, .row 42 [.n ((rr (Int.toNat x1.a)).lo), .n ((rr (Int.toNat x1.a)).hi)], .row 42 [.n ((f117 (rr (Int.toNat x1.a)) (f56 1 (List.length sl:Int))).lo), .n ((f117 (rr (Int.toNat x1.a)) (f56 1 (List.length sl:Int))).hi)], .row 42 [.n H.lo, .n H.hi]]] [p01 8,p01 10,p10 1,p10 2,p10 3,p20 0 4,p11 5 8] kR kR q q
 refine Y2 ?_
 refine zo (λ_=>Zq (ah e50 q Zl q (af G) (an bL G) q) q (Zd q q q)) ?_
 refine Y1 ?_
 refine zo (λ_=>WL.s ((NewOs.data (ad l50 z42 q dC dC q q q dC) (by exact ai bL [R])).does) (Zw q) q q (Zd q q q)) ?_
 refine zo (λ_=>wF Z4 (f57_c S) ⟨(ak (Zs _)),Zl,Zt⟩ Z3 (Zd q q q)) ?_
 exact zo (λ_=>sS Z6 s42 Z2 (aJ q q)) Zt
 exact Rxx 6 q (Fn3 h)
 exact Rcx 4 q (En2 h)
 refine Rcc 1 q ?_
 replace h:=aD h
 obtain⟨p,h⟩:=h
 apply RT [_,_,_,_,_,_,_, .u] [7] [[fN ky t rg fc sl pc (be rr (Int.toNat x1.a) (f117 (rr (Int.toNat x1.a)) (f56 1 (List.length sl:Int)))),mP pl,mW wy, .row 42 [.n ((rr (Int.toNat x1.a)).lo), .n ((rr (Int.toNat x1.a)).hi)], .row 42 [.n ((f117 (rr (Int.toNat x1.a)) (f56 1 (List.length sl:Int))).lo), .n ((f117 (rr (Int.toNat x1.a)) (f56 1 (List.length sl:Int))).hi)], .row 42 [.n c50v159, .n c51v160]]] [p01 0,p01 3,p10 1,p01 7,p10 0,p10 4,p20 5 2,p20 6 3] kR kR q q
 refine Y6 ?_
 refine zo (λ_=>Zq (ar cw q q (aT p) (aS p)) q (Zd q q q)) ?_
 exact zo (λ_=>WL.s0 (dT (off:=15) (N:=32) (n:=16) (cs':=(([.kv (ky 0) ((.sl (List.map E59 t.insns))), .kv (ky 1) ((.sl (List.map cq t.handlers))), .kv (ky 2) ((.sl (List.map cM t.loops))), .kv (ky 3) ((.sl (List.map E98 t.selects))), .kv (ky 4) ((.sl (List.map E51 t.lists))), .kv (ky 5) ((.sl (List.map E53 t.objs))), .kv (ky 6) ((.sl (List.map E80 t.inits))), .kv (ky 7) ((D.i .i64 t.excs)), .kv (ky 8) ((.sl (List.map E48 t.tasks))), .kv (ky 9) ((.sl (List.map E87 t.prots))), .kv (ky 10) ((.sl (List.map E95 t.checks))), .kv (ky 11) ((.sl (List.map E42 rg))), .kv (ky 12) ((.sl (List.map E45 fc))), .kv (ky 13) ((.sl (List.map E50 sl))), .n pc]:lV)++(bg 32 (λj=> .d (aO R42 (be rr (Int.toNat x1.a) (f117 (rr (Int.toNat x1.a)) (f56 1 (List.length sl:Int)))) j))++([.mp 1, .mp 2]:lV):lV))) R42 rr (f117 (rr (Int.toNat x1.a)) (f56 1 (List.length sl:Int))) (λ_=>q) q q q q (ak (Zs _)) q s42 q q p q) (Zw q) q (aJ q q)) Zt
 refine Rxl 6 q ?_
 obtain⟨T,U,h⟩:=ae h
 refine aN [0,1,2] q q q q (f116_c U (ky:=ky)) ⟨Zl,Zl,(ak (Zs _)),Zt⟩ q dC reM ⟨q,q,q,Zt⟩ (ltM q) q (Zw q) q q (λr' new hS=>?_)
 obtain⟨rfl,rfl⟩:=hS
 refine⟨_,_,q,reM,q,(ltM q),?_⟩
 refine St q (Rlx 2 q (bo ?_))
 obtain rfl:=Oi h
 exact aw (new:=[fN ky t rg fc sl pc (be rr (Int.toNat x1.a) (f117 (rr (Int.toNat x1.a)) (f56 1 (List.length sl:Int)))),mP pl,mW T]) (r0:= .d (.tu [])) (bX q) (aY Zt) q ⟨Zp,q,q,Zt⟩ ⟨q,q⟩
 refine Rcx 2 q (bo ?_)
 obtain rfl:=Oi h
 exact aw (new:=[fN ky t rg fc sl pc rr,mP pl,mW wy]) (r0:= .d (.tu [])) (bX q) (aY Zt) q ⟨Zp,q,q,Zt⟩ ⟨q,q⟩

theorem f92_c{t:al}{rg:List aa}{fc:List aj}{sl:List (List aa)}{pc:Int}{rr:Nat→aa}{pl:List ((Int×Int)×aa)}{wy:List (Int×(Nat→aa))}{x1:ao}{ky:Nat→Value}{r:(Nat→aa)×(List ((Int×Int)×aa))×(List (Int×(Nat→aa)))}(h:f92 t rg fc sl pc rr pl wy x1=some r):Ctr prog 92 [.pt 0 0, .d (.ag (R59 x1))] [fN ky t rg fc sl pc rr,mP pl,mW wy] (fa 3 (λr' new=>r'= .d (.tu [])∧new=[fN ky t rg fc sl pc r.1,mP r.2.1,mW r.2.2])):=by
 unfold f92 at h
 refine cI func92 λ_ _ _ hmm=>?_
 refine Rcl 2 q (Bd q q (Zs _) q (Rlc 3 q ?_))
 replace h:=aD h
 obtain⟨e,h⟩:=h
 apply RT [_,_,_,_,_,_,_,_, .u] [7,8] [[fN ky t rg fc sl pc rr,mP pl,mW wy, .row 42 [.n 0, .n 0]],[fN ky t rg fc sl pc rr,mP pl,mW wy, .row 42 [.n ((rr (Int.toNat x1.a)).lo), .n ((rr (Int.toNat x1.a)).hi)]]] [u01 0,u01 3,u10 1,u10 0,u10 3,u20 4 2,u10 5,p00,q20 7 6 1] kR kR q q
 refine X2d ?_
 refine X2a ?_
 refine⟨⟨λ_=>Zq (ar cw q q (aT e) (aS e)) q (Zd q q q),λ_=>Zq (ar cw q q (aT e) (aS e)) q (Zd q q q),Zt⟩,?_⟩
 refine⟨⟨λ_=>Zq (bw (off:=15) (N:=32) (n:=16) R42 rr (λ_=>q) q q q a42 s42 q q e) q (Zd q q q),λ_=>Zq (bw (off:=15) (N:=32) (n:=16) R42 rr (λ_=>q) q q q a42 s42 q q e) q (Zd q q q),Zt⟩,?_⟩
 refine zo (λ_=>Al z42 q (Zd q q q)) ?_
 exact zo (λ_=>sS Z6 s42 Z2 (aJ q q)) Zt
 refine Rxc 14 q (Ci h q (λh=>?_) λh=>?_)
 refine Rcc 1 q ?_
 obtain⟨L,m,h⟩:=ae h
 apply RT [_,_,_,_,_,_,_,_,_,_,_, .u] [10,11] [[fN ky t rg fc sl pc rr,mP pl,mW wy, .row 42 [.n ((rr (Int.toNat x1.a)).lo), .n ((rr (Int.toNat x1.a)).hi)], .row 42 [.n 0, .n 0]],[fN ky t rg fc sl pc rr,mP pl,mW wy, .row 42 [.n ((rr (Int.toNat x1.a)).lo), .n ((rr (Int.toNat x1.a)).hi)], .row 42 [.n ((f117 (rr (Int.toNat x1.a)) L).lo), .n ((f117 (rr (Int.toNat x1.a)) L).hi)]]] [u01 4,u01 0,u10 1,u10 2,u10 3,u01 3,u10 5,u20 4 6,u10 7,u20 0 8,p00,q20 10 9 1] kR kR q q
 refine X2d ?_
 refine⟨⟨λ_=>Zq (bm q q a50 q) q (Zd q q q),λ_=>Zq (bm q q a50 q) q (Zd q q q),Zt⟩,?_⟩
 refine X2b ?_
 refine⟨⟨λ_=>Zq (ah e50 q Zl q (af m) (an bL m) q) q (Zd q q q),λ_=>Zq (ah e50 q Zl q (af m) (an bL m) q) q (Zd q q q),Zt⟩,?_⟩
 refine X2a ?_
 refine⟨⟨λ_=>wF Z4 (f117_c) ⟨(ak (Zs _)),Zl,Zt⟩ Z3 (Zd q q q),λ_=>wF Z4 (f117_c) ⟨(ak (Zs _)),Zl,Zt⟩ Z3 (Zd q q q),Zt⟩,?_⟩
 refine zo (λ_=>Al z42 q (Zd q q q)) ?_
 exact zo (λ_=>sS Z6 s42 Z2 (aJ q q)) Zt
 refine Rxl 4 q (wF Z4 (f118_c) ⟨(ak (Zs _)),Zt⟩ Z3 (Rlc 3 q (Ci h q (λh=>?_) λh=>?_)))
 refine Rcl 8 q ?_
 obtain⟨U,V,h⟩:=ae h
 refine aN [0,1,2] q q q q (f119_c V (ky:=ky)) ⟨Zl,Zl,Zl,(ak (Zs _)),Zt⟩ q dC reM ⟨q,q,q,Zt⟩ (ltM q) q (Zw q) q q (λr' new hS=>?_)
 obtain⟨rfl,rfl⟩:=hS
 refine⟨_,_,q,reM,q,(ltM q),?_⟩
 refine St q (Rll 7 q ?_)
 obtain⟨X,Y,h⟩:=ae h
 refine aN [0,1,2] q q q q (f116_c Y (ky:=ky)) ⟨Zl,Zl,(ak (Zs _)),Zt⟩ q dC reM ⟨q,q,q,Zt⟩ (ltM q) q (Zw q) q q (λr' new hS=>?_)
 obtain⟨rfl,rfl⟩:=hS
 refine⟨_,_,q,reM,q,(ltM q),?_⟩
 refine St q (Rlx 2 q (bo ?_))
 obtain rfl:=Oi h
 exact aw (new:=[fN ky t rg fc sl pc rr,mP U,mW X]) (r0:= .d (.tu [])) (bX q) (aY Zt) q ⟨Zp,q,q,Zt⟩ ⟨q,q⟩
 refine Rcx 2 q (bo ?_)
 obtain rfl:=Oi h
 exact aw (new:=[fN ky t rg fc sl pc rr,mP pl,mW wy]) (r0:= .d (.tu [])) (bX q) (aY Zt) q ⟨Zp,q,q,Zt⟩ ⟨q,q⟩
 refine Rcc 6 q (Ci h q (λh=>?_) λh=>?_)
 refine Rcc 1 q ?_
 replace h:=aD h
 obtain⟨A,h⟩:=h
 apply RT [_,_,_,_,_,_,_,_,_,_,_,_, .u] [12] [[fN ky t rg fc sl pc (be rr (Int.toNat x1.a) (f117 (rr (Int.toNat x1.a)) (f56 0 (IntKind.i64.wrap (x1.b - 1))))),mP pl,mW wy, .row 42 [.n ((rr (Int.toNat x1.a)).lo), .n ((rr (Int.toNat x1.a)).hi)]]] [p01 0,p01 3,p10 1,p01 4,p01 3,p10 4,p10 5,p10 6,p20 3 7,p10 0,p10 9,p20 10 2,p20 11 8] kR kR q q
 refine Y7 ?_
 refine zo (λ_=>wF Z4 (f56_c) Lw Z3 (Zd q q q)) ?_
 refine zo (λ_=>wF Z4 (f117_c) ⟨(ak (Zs _)),Zl,Zt⟩ Z3 (Zd q q q)) ?_
 refine Y2 ?_
 refine zo (λ_=>Zq (ar cw q q (aT A) (aS A)) q (Zd q q q)) ?_
 exact zo (λ_=>WL.s0 (dT (off:=15) (N:=32) (n:=16) (cs':=(([.kv (ky 0) ((.sl (List.map E59 t.insns))), .kv (ky 1) ((.sl (List.map cq t.handlers))), .kv (ky 2) ((.sl (List.map cM t.loops))), .kv (ky 3) ((.sl (List.map E98 t.selects))), .kv (ky 4) ((.sl (List.map E51 t.lists))), .kv (ky 5) ((.sl (List.map E53 t.objs))), .kv (ky 6) ((.sl (List.map E80 t.inits))), .kv (ky 7) ((D.i .i64 t.excs)), .kv (ky 8) ((.sl (List.map E48 t.tasks))), .kv (ky 9) ((.sl (List.map E87 t.prots))), .kv (ky 10) ((.sl (List.map E95 t.checks))), .kv (ky 11) ((.sl (List.map E42 rg))), .kv (ky 12) ((.sl (List.map E45 fc))), .kv (ky 13) ((.sl (List.map E50 sl))), .n pc]:lV)++(bg 32 (λj=> .d (aO R42 (be rr (Int.toNat x1.a) (f117 (rr (Int.toNat x1.a)) (f56 0 (IntKind.i64.wrap (x1.b - 1))))) j))++([.mp 1, .mp 2]:lV):lV))) R42 rr (f117 (rr (Int.toNat x1.a)) (f56 0 (IntKind.i64.wrap (x1.b - 1)))) (λ_=>q) q q q q Zl q s42 q q A q) (Zw q) q (aJ q q)) Zt
 refine Rxc 2 q ?_
 replace h:=aD h
 obtain⟨f,h⟩:=h
 obtain⟨c,p,h⟩:=ae h
 apply RT [_,_,_,_,_,_,_,_,_,_,_,_,_,_,_,_,_, .u] [16,17] [[fN ky t rg fc sl pc (be rr (Int.toNat x1.a) (f117 (rr (Int.toNat x1.a)) (f56 0 (IntKind.i64.wrap (x1.b - 1))))),mP pl,mW wy, .row 42 [.n ((rr (Int.toNat x1.a)).lo), .n ((rr (Int.toNat x1.a)).hi)], .row 42 [.n 0, .n 0]],[fN ky t rg fc sl pc (be rr (Int.toNat x1.a) (f117 (rr (Int.toNat x1.a)) (f56 0 (IntKind.i64.wrap (x1.b - 1))))),mP pl,mW wy, .row 42 [.n ((rr (Int.toNat x1.a)).lo), .n ((rr (Int.toNat x1.a)).hi)], .row 42 [.n ((f117 ((be rr (Int.toNat x1.a) (f117 (rr (Int.toNat x1.a)) (f56 0 (IntKind.i64.wrap (x1.b - 1))))) (Int.toNat x1.d)) c).lo), .n ((f117 ((be rr (Int.toNat x1.a) (f117 (rr (Int.toNat x1.a)) (f56 0 (IntKind.i64.wrap (x1.b - 1))))) (Int.toNat x1.d)) c).hi)]]] [u01 0,u01 3,u10 1,u10 0,u10 3,u20 4 2,u10 5,u01 0,u10 7,u10 8,u10 9,u01 3,u10 11,u20 10 12,u10 13,u20 6 14,p00,q20 16 15 1] kR kR q q
 refine X2d ?_
 refine X2a ?_
 refine⟨⟨λ_=>Zq (ar cw q q (aT f) (aS f)) q (Zd q q q),λ_=>Zq (ar cw q q (aT f) (aS f)) q (Zd q q q),Zt⟩,?_⟩
 refine⟨⟨λ_=>Zq (bw (off:=15) (N:=32) (n:=16) R42 (be rr (Int.toNat x1.a) (f117 (rr (Int.toNat x1.a)) (f56 0 (IntKind.i64.wrap (x1.b - 1))))) (λ_=>q) q q q a42 s42 q q f) q (Zd q q q),λ_=>Zq (bw (off:=15) (N:=32) (n:=16) R42 (be rr (Int.toNat x1.a) (f117 (rr (Int.toNat x1.a)) (f56 0 (IntKind.i64.wrap (x1.b - 1))))) (λ_=>q) q q q a42 s42 q q f) q (Zd q q q),Zt⟩,?_⟩
 refine X2c ?_
 refine⟨⟨λ_=>Zq (bm q q a50 q) q (Zd q q q),λ_=>Zq (bm q q a50 q) q (Zd q q q),Zt⟩,?_⟩
 refine X2b ?_
 refine⟨⟨λ_=>Zq (ah e50 q Zl q (af p) (an bL p) q) q (Zd q q q),λ_=>Zq (ah e50 q Zl q (af p) (an bL p) q) q (Zd q q q),Zt⟩,?_⟩
 refine X2a ?_
 refine⟨⟨λ_=>wF Z4 (f117_c) Lw Z3 (Zd q q q),λ_=>wF Z4 (f117_c) Lw Z3 (Zd q q q),Zt⟩,?_⟩
 refine zo (λ_=>Al z42 q (Zd q q q)) ?_
 exact zo (λ_=>sS Z6 s42 Z2 (aJ q q)) Zt
 refine Rxc 3 q (av kR kR (Rq 5 q ?_))
 replace h:=aD h
 obtain⟨B,h⟩:=h
 refine WQ.qn (ar cw q q (aT B) (aS B)) q (WQ.qn (bw (off:=15) (N:=32) (n:=16) R42 (be rr (Int.toNat x1.a) (f117 (rr (Int.toNat x1.a)) (f56 0 (IntKind.i64.wrap (x1.b - 1))))) (λ_=>q) q q q a42 s42 q q B) q (WQ.q (YieldsQ.fn q q q q q (f118_c) Lw) (Zw q) q q (Rq 1 q ?_)))
 apply WQ.or 3 (t:=85) (d:=88)
 exact q
 intro bb
 exact Rq 1 q (WQ.q (YieldsQ.fn q q q q q (f118_c) ⟨(ak (Zs _)),Zt⟩) (aG q q q) q q (Rq 1 q (WQ.nil ⟨[_,_,_],q,q,q⟩)))
 exact Rq 3 q (WQ.nil ⟨[_,_,_],q,q,q⟩)
 refine WQ.nil (Rxc 1 q (Ci h q (λh=>?_) λh=>?_))
 refine Rcx 3 q ?_
 obtain rfl:=Oi h
 exact aw (new:=[fN ky t rg fc sl pc (be rr (Int.toNat x1.a) (f117 (rr (Int.toNat x1.a)) (f56 0 (IntKind.i64.wrap (x1.b - 1))))),mP pl,mW wy]) (r0:= .d (.tu [])) (bX q) (aY Zt) q ⟨Zp,q,q,Zt⟩ ⟨q,q⟩
 refine Rcc 2 q ?_
 refine Jn1 (λ_=> [(0, .pt 0 0),(3, .d (.pc (R59 x1))),(6, .pt 4 0)]) (λC=> [fN ky t rg fc sl pc (be rr (Int.toNat x1.a) (f117 (rr (Int.toNat x1.a)) (f56 0 (IntKind.i64.wrap (x1.b - 1))))),mP C,mW wy, .row 42 [.n ((rr (Int.toNat x1.a)).lo), .n ((rr (Int.toNat x1.a)).hi)], .row 42 [.n ((f117 ((be rr (Int.toNat x1.a) (f117 (rr (Int.toNat x1.a)) (f56 0 (IntKind.i64.wrap (x1.b - 1))))) (Int.toNat x1.d)) c).lo), .n ((f117 ((be rr (Int.toNat x1.a) (f117 (rr (Int.toNat x1.a)) (f56 0 (IntKind.i64.wrap (x1.b - 1))))) (Int.toNat x1.d)) c).hi)]]) h (λZ h=>?_) (λC h=>?_)
 refine Rcc 1 q (av kR kR (Rq 5 q ?_))
 replace h:=aD h
 obtain⟨E,h⟩:=h
 refine WQ.qn (ar cw q q (aT E) (aS E)) q (Rq 1 q (WQ.qn (ic (off:=15) (N:=32) (n:=16) (fo:=0) R42 (be rr (Int.toNat x1.a) (f117 (rr (Int.toNat x1.a)) (f56 0 (IntKind.i64.wrap (x1.b - 1))))) (λ_=>q) q dC q q q a2 q q E) q (Rq 1 q (WQ.nil (Rxc 2 q ?_)))))
 refine Ln2 (λM _=> [(0, .pt 0 0),(3, .d (.pc (R59 x1))),(6, .pt 4 0),(7, .n M)]) (λ_ O=> [fN ky t rg fc sl pc (be rr (Int.toNat x1.a) (f117 (rr (Int.toNat x1.a)) (f56 0 (IntKind.i64.wrap (x1.b - 1))))),mP O,mW wy, .row 42 [.n ((rr (Int.toNat x1.a)).lo), .n ((rr (Int.toNat x1.a)).hi)], .row 42 [.n ((f117 ((be rr (Int.toNat x1.a) (f117 (rr (Int.toNat x1.a)) (f56 0 (IntKind.i64.wrap (x1.b - 1))))) (Int.toNat x1.d)) c).lo), .n ((f117 ((be rr (Int.toNat x1.a) (f117 (rr (Int.toNat x1.a)) (f56 0 (IntKind.i64.wrap (x1.b - 1))))) (Int.toNat x1.d)) c).hi)]]) (f92_l1 t rg fc sl pc rr wy x1 c Z) h (λ_ _ h=>by rw[f92_l1] at h;cases h) (λn M O h=>?_)
 rw[f92_l1] at h
 refine Rcc 2 q (av kR kR (Rq 6 q ?_))
 replace h:=aD h
 obtain⟨F,h⟩:=h
 refine WQ.qn (ar cw q q (aT F) (aS F)) q (Rq 1 q (WQ.qn (ic (off:=15) (N:=32) (n:=16) (fo:=1) R42 (be rr (Int.toNat x1.a) (f117 (rr (Int.toNat x1.a)) (f56 0 (IntKind.i64.wrap (x1.b - 1))))) (λ_=>q) q dC q q q a2 q q F) q (Rq 1 q (WQ.nil (Rxc 1 q (Ci h q (λh=>?_) λh=>?_))))))
 refine Rcl 13 q ?_
 obtain⟨bd,a0,h⟩:=ae h
 refine aN [0,1,2] q q q q (f119_c a0 (ky:=ky)) ⟨Zl,Zl,Zl,(ak (Zs _)),Zt⟩ q dC reM ⟨q,q,q,Zt⟩ (ltM q) q (Zw q) q q (λr' new hS=>?_)
 obtain⟨rfl,rfl⟩:=hS
 refine⟨_,_,q,reM,q,(ltM q),?_⟩
 exact St q (Rlx 8 q (Fn2 h))
 exact Rcx 4 q (En1 h)
 refine Rcl 5 q ?_
 obtain⟨a1,a6,h⟩:=ae h
 refine aN [0,1,2] q q q q (f116_c a6 (ky:=ky)) ⟨Zl,Zl,(ak (Zs _)),Zt⟩ q dC reM ⟨q,q,q,Zt⟩ (ltM q) q (Zw q) q q (λr' new hS=>?_)
 obtain⟨rfl,rfl⟩:=hS
 refine⟨_,_,q,reM,q,(ltM q),?_⟩
 refine St q (Rlx 2 q (bo ?_))
 obtain rfl:=Oi h
 exact aw (new:=[fN ky t rg fc sl pc (be rr (Int.toNat x1.a) (f117 (rr (Int.toNat x1.a)) (f56 0 (IntKind.i64.wrap (x1.b - 1))))),mP C,mW a1]) (r0:= .d (.tu [])) (bX q) (aY Zt) q ⟨Zp,q,q,Zt⟩ ⟨q,q⟩
 refine Rcc 6 q (Ci h q (λh=>?_) λh=>?_)
 refine Rcc 1 q ?_
 replace h:=aD h
 obtain⟨G,h⟩:=h
 apply RT [_,_,_,_,_,_,_,_,_,_,_,_,_,_, .u] [14] [[fN ky t rg fc sl pc (be rr (Int.toNat x1.a) (f117 (rr (Int.toNat x1.a)) (f56 1 (List.length sl:Int)))),mP pl,mW wy, .row 42 [.n ((rr (Int.toNat x1.a)).lo), .n ((rr (Int.toNat x1.a)).hi)]]] [p01 0,p01 3,p10 1,p01 4,p01 0,p10 4,p10 5,p10 6,p10 7,p10 8,p20 3 9,p10 0,p10 11,p20 12 2,p20 13 10] kR kR q q
 refine Y7 ?_
 refine zo (λ_=>Zq (bm q q a37 q) q (Zd q q q)) ?_
 refine zo (λ_=>Zq (ab E50 sl e37 q q Zl) q (Zd q q q)) ?_
 refine zo (λ_=>wF Z4 (f56_c) Lw Z3 (Zd q q q)) ?_
 refine zo (λ_=>wF Z4 (f117_c) ⟨(ak (Zs _)),Zl,Zt⟩ Z3 (Zd q q q)) ?_
 refine Y2 ?_
 refine zo (λ_=>Zq (ar cw q q (aT G) (aS G)) q (Zd q q q)) ?_
 exact zo (λ_=>WL.s0 (dT (off:=15) (N:=32) (n:=16) (cs':=(([.kv (ky 0) ((.sl (List.map E59 t.insns))), .kv (ky 1) ((.sl (List.map cq t.handlers))), .kv (ky 2) ((.sl (List.map cM t.loops))), .kv (ky 3) ((.sl (List.map E98 t.selects))), .kv (ky 4) ((.sl (List.map E51 t.lists))), .kv (ky 5) ((.sl (List.map E53 t.objs))), .kv (ky 6) ((.sl (List.map E80 t.inits))), .kv (ky 7) ((D.i .i64 t.excs)), .kv (ky 8) ((.sl (List.map E48 t.tasks))), .kv (ky 9) ((.sl (List.map E87 t.prots))), .kv (ky 10) ((.sl (List.map E95 t.checks))), .kv (ky 11) ((.sl (List.map E42 rg))), .kv (ky 12) ((.sl (List.map E45 fc))), .kv (ky 13) ((.sl (List.map E50 sl))), .n pc]:lV)++(bg 32 (λj=> .d (aO R42 (be rr (Int.toNat x1.a) (f117 (rr (Int.toNat x1.a)) (f56 1 (List.length sl:Int)))) j))++([.mp 1, .mp 2]:lV):lV))) R42 rr (f117 (rr (Int.toNat x1.a)) (f56 1 (List.length sl:Int))) (λ_=>q) q q q q Zl q s42 q q G q) (Zw q) q (aJ q q)) Zt
 refine Rxc 6 q ?_
 refine Jn2 (λP _=> [(0, .pt 0 0),(8, .d (D.b P))]) (λ_ k=> [fN ky t rg fc sl pc (be rr (Int.toNat x1.a) (f117 (rr (Int.toNat x1.a)) (f56 1 (List.length sl:Int)))),mP k,mW wy, .row 42 [.n ((rr (Int.toNat x1.a)).lo), .n ((rr (Int.toNat x1.a)).hi)]]) h (λa7 h=>?_) (λP k h=>?_)
 refine Rcc 1 q (av kR kR (Rq 5 q ?_))
 replace h:=aD h
 obtain⟨H,h⟩:=h
 refine WQ.qn (ar cw q q (aT H) (aS H)) q (Rq 1 q (WQ.qn (ic (off:=15) (N:=32) (n:=16) (fo:=0) R42 (be rr (Int.toNat x1.a) (f117 (rr (Int.toNat x1.a)) (f56 1 (List.length sl:Int)))) (λ_=>q) q dC q q q a2 q q H) q (Rq 1 q (WQ.nil (Rxc 2 q ?_)))))
 refine Ln3 (λQ w _=> [(0, .pt 0 0),(3, .d (.pc (R59 x1))),(8, .d (D.b Q)),(9, .n w)]) (λ_ _ x=> [fN ky t rg fc sl pc (be rr (Int.toNat x1.a) (f117 (rr (Int.toNat x1.a)) (f56 1 (List.length sl:Int)))),mP x,mW wy, .row 42 [.n ((rr (Int.toNat x1.a)).lo), .n ((rr (Int.toNat x1.a)).hi)]]) (f92_l2 t rg fc sl pc rr wy x1 a7) h (λ_ _ _ h=>by rw[f92_l2] at h;cases h) (λn Q w x h=>?_)
 rw[f92_l2] at h
 refine Rcc 2 q (av kR kR (Rq 6 q ?_))
 replace h:=aD h
 obtain⟨I,h⟩:=h
 refine WQ.qn (ar cw q q (aT I) (aS I)) q (Rq 1 q (WQ.qn (ic (off:=15) (N:=32) (n:=16) (fo:=1) R42 (be rr (Int.toNat x1.a) (f117 (rr (Int.toNat x1.a)) (f56 1 (List.length sl:Int)))) (λ_=>q) q dC q q q a2 q q I) q (Rq 1 q (WQ.nil (Rxc 1 q (Ci h q (λh=>?_) λh=>?_))))))
 refine Rcc 2 q ?_
 refine Jn4 (λK _ _ _=> [(0, .pt 0 0),(3, .d (.pc (R59 x1))),(8, .d (D.b K)),(9, .n w)]) (λ_ R c40v239 c41v240=> [fN ky t rg fc sl pc (be rr (Int.toNat x1.a) (f117 (rr (Int.toNat x1.a)) (f56 1 (List.length sl:Int)))),mP R,mW wy, .row 42 [.n ((rr (Int.toNat x1.a)).lo), .n ((rr (Int.toNat x1.a)).hi)], .row 42 [.n c40v239, .n c41v240]]) h (λ_ h=>?_) (λK R c40v239 c41v240 h=>?_)
 refine Rcc 2 q ?_
 replace h:=aD h
 obtain⟨g,h⟩:=h
 obtain⟨S,y,h⟩:=ae h
 apply RT [_,_,_,_,_,_,_,_,_,_,_,_,_,_,_,_,_, .u] [16,17] [[fN ky t rg fc sl pc (be rr (Int.toNat x1.a) (f117 (rr (Int.toNat x1.a)) (f56 1 (List.length sl:Int)))),mP x,mW wy, .row 42 [.n ((rr (Int.toNat x1.a)).lo), .n ((rr (Int.toNat x1.a)).hi)], .row 42 [.n 0, .n 0]],[fN ky t rg fc sl pc (be rr (Int.toNat x1.a) (f117 (rr (Int.toNat x1.a)) (f56 1 (List.length sl:Int)))),mP x,mW wy, .row 42 [.n ((rr (Int.toNat x1.a)).lo), .n ((rr (Int.toNat x1.a)).hi)], .row 42 [.n ((f117 ((be rr (Int.toNat x1.a) (f117 (rr (Int.toNat x1.a)) (f56 1 (List.length sl:Int)))) (Int.toNat x1.d)) S).lo), .n ((f117 ((be rr (Int.toNat x1.a) (f117 (rr (Int.toNat x1.a)) (f56 1 (List.length sl:Int)))) (Int.toNat x1.d)) S).hi)]]] [u01 0,u01 3,u10 1,u10 0,u10 3,u20 4 2,u10 5,u01 0,u10 7,u10 8,u10 9,u01 9,u10 11,u20 10 12,u10 13,u20 6 14,p00,q20 16 15 1] kR kR q q
 refine X2d ?_
 refine X2a ?_
 refine⟨⟨λ_=>Zq (ar cw q q (aT g) (aS g)) q (Zd q q q),λ_=>Zq (ar cw q q (aT g) (aS g)) q (Zd q q q),Zt⟩,?_⟩
 refine⟨⟨λ_=>Zq (bw (off:=15) (N:=32) (n:=16) R42 (be rr (Int.toNat x1.a) (f117 (rr (Int.toNat x1.a)) (f56 1 (List.length sl:Int)))) (λ_=>q) q q q a42 s42 q q g) q (Zd q q q),λ_=>Zq (bw (off:=15) (N:=32) (n:=16) R42 (be rr (Int.toNat x1.a) (f117 (rr (Int.toNat x1.a)) (f56 1 (List.length sl:Int)))) (λ_=>q) q q q a42 s42 q q g) q (Zd q q q),Zt⟩,?_⟩
 refine X2c ?_
 refine⟨⟨λ_=>Zq (bm q q a50 q) q (Zd q q q),λ_=>Zq (bm q q a50 q) q (Zd q q q),Zt⟩,?_⟩
 refine X2b ?_
 refine⟨⟨λ_=>Zq (ah e50 q Zl q (af y) (an bL y) q) q (Zd q q q),λ_=>Zq (ah e50 q Zl q (af y) (an bL y) q) q (Zd q q q),Zt⟩,?_⟩
 refine X2a ?_
 refine⟨⟨λ_=>wF Z4 (f117_c) Lw Z3 (Zd q q q),λ_=>wF Z4 (f117_c) Lw Z3 (Zd q q q),Zt⟩,?_⟩
 refine zo (λ_=>Al z42 q (Zd q q q)) ?_
 exact zo (λ_=>sS Z6 s42 Z2 (aJ q q)) Zt
 refine Rxl 4 q (wF Z4 (f118_c) ⟨(ak (Zs _)),Zt⟩ Z3 (Rlc 3 q (Ci h q (λh=>?_) λh=>?_)))
 refine Rcl 10 q ?_
 obtain⟨bk,a8,h⟩:=ae h
 refine aN [0,1,2] q q q q (f119_c a8 (ky:=ky)) ⟨Zl,Zl,Zl,(ak (Zs _)),Zt⟩ q dC reM ⟨q,q,q,Zt⟩ (ltM q) q (Zw q) q q (λr' new hS=>?_)
 obtain⟨rfl,rfl⟩:=hS
 refine⟨_,_,q,reM,q,(ltM q),?_⟩
 exact St q (Rlx 2 q (En4 h))
 exact Rcx 2 q (En4 h)
 exact Rcx 5 q (WE.drop 4 (env':=[(0, .pt 0 0),(3, .d (.pc (R59 x1))),(8, .d (D.b K)),(9, .n (IntKind.i64.wrap (w+1)))]) Sb q (ay q (ay (cv _ kP dP _) (ay (cv _ kW dW _) Kv))) (Nat.le_trans (Nat.le_of_eq hmm) (nbT q)) (Fn3 h))
 exact Rcx 4 q (En2 h)
 refine Rcc 5 q (Ci h q (λh=>?_) λh=>?_)
 obtain⟨T,a',h⟩:=ae h
 apply RT [_,_,_,_,_,_,_,_,_,_,_] [10] [[fN ky t rg fc sl pc (be rr (Int.toNat x1.a) (f117 (rr (Int.toNat x1.a)) (f56 1 (List.length sl:Int)))),mP k,mW T, .row 42 [.n ((rr (Int.toNat x1.a)).lo), .n ((rr (Int.toNat x1.a)).hi)]]] [p01 0,p01 0,p10 1,p10 2,p10 3,p10 4,p01 0,p10 6,p10 7,p10 8,p30 0 5 9] kR kR q q
 refine Y9 ?_
 refine zo (λ_=>Zq (cN (off:=15) (N:=32) (aO R42 (be rr (Int.toNat x1.a) (f117 (rr (Int.toNat x1.a)) (f56 1 (List.length sl:Int))))) q q a43 s43 q q) q (Zd q q q)) ?_
 refine zo (λ_=>?_) Zt
 refine aN [0,1,2] q q q q (f90_c a' (ky:=ky)) Lw q dC reM ⟨q,q,q,Zt⟩ (ltM q) q (Zw q) q q (λr' new hS=>?_)
 obtain⟨rfl,rfl⟩:=hS
 refine⟨_,_,q,reM,q,(ltM q),?_⟩
 exact Zd q q q
 refine Rxx 1 q (bo ?_)
 obtain rfl:=Oi h
 exact aw (new:=[fN ky t rg fc sl pc (be rr (Int.toNat x1.a) (f117 (rr (Int.toNat x1.a)) (f56 1 (List.length sl:Int)))),mP k,mW T]) (r0:= .d (.tu [])) (bX q) (aY Zt) q ⟨Zp,q,q,Zt⟩ ⟨q,q⟩
 refine Rcx 2 q (bo ?_)
 obtain rfl:=Oi h
 exact aw (new:=[fN ky t rg fc sl pc (be rr (Int.toNat x1.a) (f117 (rr (Int.toNat x1.a)) (f56 1 (List.length sl:Int)))),mP k,mW wy]) (r0:= .d (.tu [])) (bX q) (aY Zt) q ⟨Zp,q,q,Zt⟩ ⟨q,q⟩
 refine Rcx 2 q (bo ?_)
 obtain rfl:=Oi h
 exact aw (new:=[fN ky t rg fc sl pc rr,mP pl,mW wy]) (r0:= .d (.tu [])) (bX q) (aY Zt) q ⟨Zp,q,q,Zt⟩ ⟨q,q⟩

theorem f93_c{t:al}{rg:List aa}{fc:List aj}{sl:List (List aa)}{pc:Int}{rr:Nat→aa}{pl:List ((Int×Int)×aa)}{wy:List (Int×(Nat→aa))}{x1:ao}{ky:Nat→Value}{r:List (Int×(Nat→aa))}(h:f93 t rg fc sl pc rr pl wy x1=some r):Ctr prog 93 [.pt 0 0, .d (.ag (R59 x1))] [fN ky t rg fc sl pc rr,mP pl,mW wy] (fa 3 (λr' new=>r'= .d (.tu [])∧new=[fN ky t rg fc sl pc rr,mP pl,mW r])):=by
 unfold f93 at h
 refine cI func93 λ_ _ _ hmm=>?_
 refine Rcl 2 q (Bd q q (Zs _) q (Rlc 2 q ?_))
 replace h:=aD h
 obtain⟨a,h⟩:=h
 replace h:=aD h
 obtain⟨c,h⟩:=h
 obtain⟨j,f,h⟩:=ae h
 obtain⟨e,g,h⟩:=ae h
 apply RT [_,_,_,_,_,_,_,_,_,_,_,_,_,_,_,_,_,_,_,_,_,_,_] [22] [[fN ky t rg fc sl pc rr,mP pl,mW e]] [p01 0,p01 3,p10 1,p01 3,p10 3,p10 4,p10 5,p01 0,p01 3,p10 8,p10 7,p10 10,p20 11 9,p10 12,p01 0,p01 3,p10 15,p10 14,p10 17,p20 18 16,p10 19,p30 6 13 20,p30 0 2 21] kR kR q q
 refine Y9 ?_
 refine Y3 ?_
 refine zo (λ_=>Zq (ar cw q q (aT a) (aS a)) q (Zd q q q)) ?_
 refine zo (λ_=>Zq (bw (off:=15) (N:=32) (n:=16) R42 rr (λ_=>q) q q q a42 s42 q q a) q (Zd q q q)) ?_
 refine Y5 ?_
 refine zo (λ_=>Zq (ar cw q q (aT c) (aS c)) q (Zd q q q)) ?_
 refine zo (λ_=>Zq (bw (off:=15) (N:=32) (n:=16) R42 rr (λ_=>q) q q q a42 s42 q q c) q (Zd q q q)) ?_
 refine zo (λ_=>wF Z4 (f120_c f) Lw Z3 (Zd q q q)) ?_
 refine zo (λ_=>?_) Zt
 refine aN [0,1,2] q q q q (f116_c g (ky:=ky)) Lw q dC reM ⟨q,q,q,Zt⟩ (ltM q) q (Zw q) q q (λr' new hS=>?_)
 obtain⟨rfl,rfl⟩:=hS
 refine⟨_,_,q,reM,q,(ltM q),?_⟩
 exact Zd q q q
 refine bo ?_
 obtain rfl:=Oi h
 exact aw (new:=[fN ky t rg fc sl pc rr,mP pl,mW e]) (r0:= .d (.tu [])) (bX q) (aY Zt) q ⟨Zp,q,q,Zt⟩ ⟨q,q⟩

theorem f94_c{t:al}{rg:List aa}{fc:List aj}{sl:List (List aa)}{pc:Int}{rr:Nat→aa}{pl:List ((Int×Int)×aa)}{wy:List (Int×(Nat→aa))}{x1:ao}{ky:Nat→Value}{r:List (Int×(Nat→aa))}(h:f94 t rg fc sl pc rr pl wy x1=some r):Ctr prog 94 [.pt 0 0, .d (.ag (R59 x1))] [fN ky t rg fc sl pc rr,mP pl,mW wy] (fa 3 (λr' new=>r'= .d (.tu [])∧new=[fN ky t rg fc sl pc rr,mP pl,mW r])):=by
 unfold f94 at h
 refine cI func94 λ_ _ _ hmm=>?_
 refine Rcl 2 q (Bd q q (Zs _) q (Rlc 3 q ?_))
 replace h:=aD h
 obtain⟨c,h⟩:=h
 apply RT [_,_,_,_,_,_,_,_, .u] [7,8] [[fN ky t rg fc sl pc rr,mP pl,mW wy, .row 42 [.n 0, .n 0]],[fN ky t rg fc sl pc rr,mP pl,mW wy, .row 42 [.n ((rr (Int.toNat x1.a)).lo), .n ((rr (Int.toNat x1.a)).hi)]]] [u01 0,u01 3,u10 1,u10 0,u10 3,u20 4 2,u10 5,p00,q20 7 6 1] kR kR q q
 refine X2d ?_
 refine X2a ?_
 refine⟨⟨λ_=>Zq (ar cw q q (aT c) (aS c)) q (Zd q q q),λ_=>Zq (ar cw q q (aT c) (aS c)) q (Zd q q q),Zt⟩,?_⟩
 refine⟨⟨λ_=>Zq (bw (off:=15) (N:=32) (n:=16) R42 rr (λ_=>q) q q q a42 s42 q q c) q (Zd q q q),λ_=>Zq (bw (off:=15) (N:=32) (n:=16) R42 rr (λ_=>q) q q q a42 s42 q q c) q (Zd q q q),Zt⟩,?_⟩
 refine zo (λ_=>Al z42 q (Zd q q q)) ?_
 exact zo (λ_=>sS Z6 s42 Z2 (aJ q q)) Zt
 refine Rxc 2 q ?_
 apply RT [_,_,_,_,_,_, .u,_] [5,6] [[fN ky t rg fc sl pc rr,mP pl,mW wy, .row 42 [.n ((rr (Int.toNat x1.a)).lo), .n ((rr (Int.toNat x1.a)).hi)], .row 42 [.n 0, .n 0]],[fN ky t rg fc sl pc rr,mP pl,mW wy, .row 42 [.n ((rr (Int.toNat x1.a)).lo), .n ((rr (Int.toNat x1.a)).hi)], .row 42 [.n ((f121 (rr (Int.toNat x1.a))).lo), .n ((f121 (rr (Int.toNat x1.a))).hi)]]] [u01 4,u10 0,u01 4,u10 2,([3],[],[0,1,2]),p00,q20 5 1 1,q10 4 2] kR kR q q
 refine X2a ?_
 refine⟨⟨λ_=>wF Z4 (f121_c) ⟨(ak (Zs _)),Zt⟩ Z3 (Zd q q q),λ_=>wF Z4 (f121_c) ⟨(ak (Zs _)),Zt⟩ Z3 (Zd q q q),Zt⟩,?_⟩
 refine X2a ?_
 refine⟨⟨λ_=>wF Z4 (f66_c) ⟨(ak (Zs _)),Zl,Zt⟩ Z3 (Zd q q q),λ_=>wF Z4 (f66_c) ⟨(ak (Zs _)),Zl,Zt⟩ Z3 (Zd q q q),Zt⟩,?_⟩
 refine X3a ?_
 refine zo (λ_=>Al z42 q (Zd q q q)) ?_
 refine zo (λ_=>sS Z6 s42 Z2 (aJ q q)) ?_
 exact Y1 Zt
 refine Rxc 1 q ?_
 refine Jn3 (λe _ _=> [(0, .pt 0 0),(3, .d (.pc (R59 x1))),(5, .pt 4 0),(6, .d (D.b e))]) (λ_ c40v50 c41v51=> [fN ky t rg fc sl pc rr,mP pl,mW wy, .row 42 [.n ((rr (Int.toNat x1.a)).lo), .n ((rr (Int.toNat x1.a)).hi)], .row 42 [.n c40v50, .n c41v51]]) h (λ_ h=>?_) (λe c40v50 c41v51 h=>?_)
 refine Rcc 7 q (Ci h q (λh=>?_) λh=>?_)
 apply RT [_,_,_,_,_,_,_,_,_,_,_,_,_,_, .u,_] [14] [[fN ky t rg fc sl pc rr,mP pl,mW wy, .row 42 [.n ((rr (Int.toNat x1.a)).lo), .n ((rr (Int.toNat x1.a)).hi)], .row 42 [.n ((f117 (rr (Int.toNat x1.a)) (f56 x1.n x1.m)).lo), .n ((f117 (rr (Int.toNat x1.a)) (f56 x1.n x1.m)).hi)]]] [p01 4,p01 3,p10 1,p01 3,p10 3,p20 2 4,p20 0 5,p01 4,p01 3,p10 8,p01 3,p10 10,p20 9 11,p20 7 12,p11 6 5,q10 13 1] kR kR q q
 refine Y5 ?_
 refine zo (λ_=>wF Z4 (f56_c) Lw Z3 (Zd q q q)) ?_
 refine zo (λ_=>wF Z4 (f117_c) ⟨(ak (Zs _)),Zl,Zt⟩ Z3 (Zd q q q)) ?_
 refine Y5 ?_
 refine zo (λ_=>wF Z4 (f56_c) Lw Z3 (Zd q q q)) ?_
 refine zo (λ_=>wF Z4 (f65_c _ _) ⟨(ak (Zs _)),Zl,Zt⟩ Z3 (Zd q q q)) ?_
 refine zo (λ_=>sS Z6 s42 Z2 (aJ q q)) ?_
 exact Y1 Zt
 exact En3 h
 exact Rcx 1 q (En3 h)
 refine Jn1 (λ_=> [(0, .pt 0 0),(3, .d (.pc (R59 x1))),(5, .pt 4 0)]) (λf=> [fN ky t rg fc sl pc rr,mP pl,mW f, .row 42 [.n ((rr (Int.toNat x1.a)).lo), .n ((rr (Int.toNat x1.a)).hi)], .row 42 [.n c40v50, .n c41v51]]) h (λ_ h=>?_) (λf h=>?_)
 refine Rcc 6 q (Ci h q (λh=>?_) λh=>?_)
 refine Rcl 2 q ?_
 obtain⟨p,g,h⟩:=ae h
 refine aN [0,1,2] q q q q (f58_c g (ky:=ky)) Lw q dC reM ⟨q,q,q,Zt⟩ (ltM q) q (Zw q) q q (λr' new hS=>?_)
 obtain⟨rfl,rfl⟩:=hS
 refine⟨_,_,q,reM,q,(ltM q),?_⟩
 exact St q (Rlx 1 q (En1 h))
 exact Rcx 1 q (En1 h)
 refine Rcl 5 q ?_
 obtain⟨j,k,h⟩:=ae h
 refine aN [0,1,2] q q q q (f116_c k (ky:=ky)) ⟨Zl,Zl,(ak (Zs _)),Zt⟩ q dC reM ⟨q,q,q,Zt⟩ (ltM q) q (Zw q) q q (λr' new hS=>?_)
 obtain⟨rfl,rfl⟩:=hS
 refine⟨_,_,q,reM,q,(ltM q),?_⟩
 refine St q (Rlx 1 q (bo ?_))
 obtain rfl:=Oi h
 exact aw (new:=[fN ky t rg fc sl pc rr,mP pl,mW j]) (r0:= .d (.tu [])) (bX q) (aY Zt) q ⟨Zp,q,q,Zt⟩ ⟨q,q⟩

theorem f95_c{t:al}{rg:List aa}{fc:List aj}{sl:List (List aa)}{pc:Int}{rr:Nat→aa}{pl:List ((Int×Int)×aa)}{wy:List (Int×(Nat→aa))}{x1:ao}{ky:Nat→Value}{r:List (Int×(Nat→aa))}(h:f95 t rg fc sl pc rr pl wy x1=some r):Ctr prog 95 [.pt 0 0, .d (.ag (R59 x1))] [fN ky t rg fc sl pc rr,mP pl,mW wy] (fa 3 (λr' new=>r'= .d (.tu [])∧new=[fN ky t rg fc sl pc rr,mP pl,mW r])):=by
 unfold f95 at h
 refine cI func95 λ_ _ _ hmm=>?_
 refine Rcl 2 q (Bd q q (Zs _) q (Rlc 3 q ?_))
 replace h:=aD h
 obtain⟨e,h⟩:=h
 apply RT [_,_,_,_,_,_,_,_, .u] [7,8] [[fN ky t rg fc sl pc rr,mP pl,mW wy, .row 42 [.n 0, .n 0]],[fN ky t rg fc sl pc rr,mP pl,mW wy, .row 42 [.n ((rr (Int.toNat x1.a)).lo), .n ((rr (Int.toNat x1.a)).hi)]]] [u01 0,u01 3,u10 1,u10 0,u10 3,u20 4 2,u10 5,p00,q20 7 6 1] kR kR q q
 refine X2d ?_
 refine X2a ?_
 refine⟨⟨λ_=>Zq (ar cw q q (aT e) (aS e)) q (Zd q q q),λ_=>Zq (ar cw q q (aT e) (aS e)) q (Zd q q q),Zt⟩,?_⟩
 refine⟨⟨λ_=>Zq (bw (off:=15) (N:=32) (n:=16) R42 rr (λ_=>q) q q q a42 s42 q q e) q (Zd q q q),λ_=>Zq (bw (off:=15) (N:=32) (n:=16) R42 rr (λ_=>q) q q q a42 s42 q q e) q (Zd q q q),Zt⟩,?_⟩
 refine zo (λ_=>Al z42 q (Zd q q q)) ?_
 exact zo (λ_=>sS Z6 s42 Z2 (aJ q q)) Zt
 refine Rxc 2 q ?_
 apply RT [_,_,_,_, .u] [3,4] [[fN ky t rg fc sl pc rr,mP pl,mW wy, .row 42 [.n ((rr (Int.toNat x1.a)).lo), .n ((rr (Int.toNat x1.a)).hi)], .row 42 [.n 0, .n 0]],[fN ky t rg fc sl pc rr,mP pl,mW wy, .row 42 [.n ((rr (Int.toNat x1.a)).lo), .n ((rr (Int.toNat x1.a)).hi)], .row 42 [.n ((f117 (rr (Int.toNat x1.a)) (f24 0)).lo), .n ((f117 (rr (Int.toNat x1.a)) (f24 0)).hi)]]] [u01 4,u00,u20 0 1,p00,q20 3 2 1] kR kR q q
 refine X2a ?_
 refine⟨⟨λ_=>wF Z4 (f24_c) Lw Z3 (Zd q q q),λ_=>wF Z4 (f24_c) Lw Z3 (Zd q q q),Zt⟩,?_⟩
 refine⟨⟨λ_=>wF Z4 (f117_c) ⟨(ak (Zs _)),Zl,Zt⟩ Z3 (Zd q q q),λ_=>wF Z4 (f117_c) ⟨(ak (Zs _)),Zl,Zt⟩ Z3 (Zd q q q),Zt⟩,?_⟩
 refine zo (λ_=>Al z42 q (Zd q q q)) ?_
 exact zo (λ_=>sS Z6 s42 Z2 (aJ q q)) Zt
 refine Rxc 14 q (Ci h q (λh=>?_) λh=>?_)
 obtain⟨j,y,h⟩:=ae h
 apply RT [_,_,_,_,_,_,_,_] [7] [[fN ky t rg fc sl pc rr,mP pl,mW j, .row 42 [.n ((rr (Int.toNat x1.a)).lo), .n ((rr (Int.toNat x1.a)).hi)], .row 42 [.n ((f117 (rr (Int.toNat x1.a)) (f24 0)).lo), .n ((f117 (rr (Int.toNat x1.a)) (f24 0)).hi)]]] [p01 0,p01 3,p10 1,p01 0,p10 3,p10 4,p10 5,p30 0 2 6] kR kR q q
 refine Y6 ?_
 refine zo (λ_=>Zq (cN (off:=15) (N:=32) (aO R42 rr) q q a43 s43 q q) q (Zd q q q)) ?_
 refine zo (λ_=>?_) Zt
 refine aN [0,1,2] q q q q (f90_c y (ky:=ky)) Lw q dC reM ⟨q,q,q,Zt⟩ (ltM q) q (Zw q) q q (λr' new hS=>?_)
 obtain⟨rfl,rfl⟩:=hS
 refine⟨_,_,q,reM,q,(ltM q),?_⟩
 exact Zd q q q
 refine Rxx 1 q (bo ?_)
 obtain rfl:=Oi h
 exact aw (new:=[fN ky t rg fc sl pc rr,mP pl,mW j]) (r0:= .d (.tu [])) (bX q) (aY Zt) q ⟨Zp,q,q,Zt⟩ ⟨q,q⟩
 refine Rcc 6 q (Ci h q (λh=>?_) λh=>?_)
 refine Rcl 8 q ?_
 obtain⟨M,A,h⟩:=ae h
 refine aN [0,1,2] q q q q (f122_c A (ky:=ky)) ⟨Zl,Zl,Zl,(ak (Zs _)),Zt⟩ q dC reM ⟨q,q,q,Zt⟩ (ltM q) q (Zw q) q q (λr' new hS=>?_)
 obtain⟨rfl,rfl⟩:=hS
 refine⟨_,_,q,reM,q,(ltM q),?_⟩
 refine St q (Rlc 2 q ?_)
 obtain⟨k,B,h⟩:=ae h
 apply RT [_,_,_,_,_,_] [5] [[fN ky t rg fc sl pc rr,mP pl,mW k, .row 42 [.n ((rr (Int.toNat x1.a)).lo), .n ((rr (Int.toNat x1.a)).hi)], .row 42 [.n ((f117 (rr (Int.toNat x1.a)) (f24 0)).lo), .n ((f117 (rr (Int.toNat x1.a)) (f24 0)).hi)]]] [p01 0,p01 3,p10 1,p01 4,p10 3,p30 0 2 4] kR kR q q
 refine Y4 ?_
 refine zo (λ_=>wF Z4 (f121_c) ⟨(ak (Zs _)),Zt⟩ Z3 (Zd q q q)) ?_
 refine zo (λ_=>?_) Zt
 refine aN [0,1,2] q q q q (f116_c B (ky:=ky)) Lw q dC reM ⟨q,q,q,Zt⟩ (ltM q) q (Zw q) q q (λr' new hS=>?_)
 obtain⟨rfl,rfl⟩:=hS
 refine⟨_,_,q,reM,q,(ltM q),?_⟩
 exact Zd q q q
 refine Rxx 1 q (bo ?_)
 obtain rfl:=Oi h
 exact aw (new:=[fN ky t rg fc sl pc rr,mP pl,mW k]) (r0:= .d (.tu [])) (bX q) (aY Zt) q ⟨Zp,q,q,Zt⟩ ⟨q,q⟩
 refine Rcc 6 q (Ci h q (λh=>?_) λh=>?_)
 refine Rcc 1 q ?_
 obtain⟨C,E,h⟩:=ae h
 apply RT [_,_,_,_,_,_,_,_] [7] [[fN ky t rg fc sl pc rr,mP pl,mW C, .row 42 [.n ((rr (Int.toNat x1.a)).lo), .n ((rr (Int.toNat x1.a)).hi)], .row 42 [.n ((f117 (rr (Int.toNat x1.a)) (f24 0)).lo), .n ((f117 (rr (Int.toNat x1.a)) (f24 0)).hi)]]] [p01 0,p01 3,p10 1,p01 3,p10 3,p01 4,p10 5,([0,2,4,6],[],[0])] kR kR q q
 refine Y6 ?_
 refine zo (λ_=>wF Z4 (f121_c) ⟨(ak (Zs _)),Zt⟩ Z3 (Zd q q q)) ?_
 refine zo (λ_=>?_) Zt
 refine aN [0,1,2] q q q q (f122_c E (ky:=ky)) Lw q dC reM ⟨q,q,q,Zt⟩ (ltM q) q (Zw q) q q (λr' new hS=>?_)
 obtain⟨rfl,rfl⟩:=hS
 refine⟨_,_,q,reM,q,(ltM q),?_⟩
 exact Zd q q q
 refine Rxl 6 q ?_
 obtain⟨F,G,h⟩:=ae h
 refine aN [0,1,2] q q q q (f116_c G (ky:=ky)) ⟨Zl,Zl,(ak (Zs _)),Zt⟩ q dC reM ⟨q,q,q,Zt⟩ (ltM q) q (Zw q) q q (λr' new hS=>?_)
 obtain⟨rfl,rfl⟩:=hS
 refine⟨_,_,q,reM,q,(ltM q),?_⟩
 refine St q (Rlx 2 q (bo ?_))
 obtain rfl:=Oi h
 exact aw (new:=[fN ky t rg fc sl pc rr,mP pl,mW F]) (r0:= .d (.tu [])) (bX q) (aY Zt) q ⟨Zp,q,q,Zt⟩ ⟨q,q⟩
 refine Rcc 6 q (Ci h q (λh=>?_) λh=>?_)
 refine Rcc 11 q ?_
 refine Jn1 (λc=> [(0, .pt 0 0),(3, .d (.pc (R59 x1))),(4, .pt 3 0),(6, .n c)]) (λ_=> [fN ky t rg fc sl pc rr,mP pl,mW wy, .row 42 [.n ((rr (Int.toNat x1.a)).lo), .n ((rr (Int.toNat x1.a)).hi)], .row 42 [.n ((f117 (rr (Int.toNat x1.a)) (f24 0)).lo), .n ((f117 (rr (Int.toNat x1.a)) (f24 0)).hi)]]) h (λ_ h=>?_) (λc h=>?_)
 exact Rcc 8 q (Ci h q (λh=>Rcx 3 q (En1 h)) λh=>Rcx 1 q (En1 h))
 refine Rcc 1 q ?_
 apply RT [_,_,_,_,_,_,_, .u] [6,7] [[fN ky t rg fc sl pc rr,mP pl,mW wy, .row 42 [.n ((rr (Int.toNat x1.a)).lo), .n ((rr (Int.toNat x1.a)).hi)], .row 42 [.n ((f117 (rr (Int.toNat x1.a)) (f24 0)).lo), .n ((f117 (rr (Int.toNat x1.a)) (f24 0)).hi)], .row 42 [.n 0, .n 0]],[fN ky t rg fc sl pc rr,mP pl,mW wy, .row 42 [.n ((rr (Int.toNat x1.a)).lo), .n ((rr (Int.toNat x1.a)).hi)], .row 42 [.n ((f117 (rr (Int.toNat x1.a)) (f24 0)).lo), .n ((f117 (rr (Int.toNat x1.a)) (f24 0)).hi)], .row 42 [.n ((f117 (rr (Int.toNat x1.a)) (f56 x1.n c)).lo), .n ((f117 (rr (Int.toNat x1.a)) (f56 x1.n c)).hi)]]] [u01 4,u01 3,u10 1,u01 6,u20 2 3,u20 0 4,p00,q20 6 5 1] kR kR q q
 refine X2d ?_
 refine⟨⟨λ_=>wF Z4 (f56_c) Lw Z3 (Zd q q q),λ_=>wF Z4 (f56_c) Lw Z3 (Zd q q q),Zt⟩,?_⟩
 refine⟨⟨λ_=>wF Z4 (f117_c) ⟨(ak (Zs _)),Zl,Zt⟩ Z3 (Zd q q q),λ_=>wF Z4 (f117_c) ⟨(ak (Zs _)),Zl,Zt⟩ Z3 (Zd q q q),Zt⟩,?_⟩
 refine zo (λ_=>Al z42 q (Zd q q q)) ?_
 exact zo (λ_=>sS Z6 s42 Z2 (aJ q q)) Zt
 refine Rxc 1 q ?_
 refine Jn1 (λ_=> [(0, .pt 0 0),(3, .d (.pc (R59 x1))),(4, .pt 3 0),(6, .n c)]) (λf=> [fN ky t rg fc sl pc rr,mP pl,mW f, .row 42 [.n ((rr (Int.toNat x1.a)).lo), .n ((rr (Int.toNat x1.a)).hi)], .row 42 [.n ((f117 (rr (Int.toNat x1.a)) (f24 0)).lo), .n ((f117 (rr (Int.toNat x1.a)) (f24 0)).hi)], .row 42 [.n ((f117 (rr (Int.toNat x1.a)) (f56 x1.n c)).lo), .n ((f117 (rr (Int.toNat x1.a)) (f56 x1.n c)).hi)]]) h (λH h=>?_) (λf h=>?_)
 refine Rcc 8 q ?_
 refine Ln2 (λg _=> [(0, .pt 0 0),(3, .d (.pc (R59 x1))),(4, .pt 3 0),(6, .n c),(7, .pt 5 0),(81, .n x1.m),(82, .n g)]) (λ_ p=> [fN ky t rg fc sl pc rr,mP pl,mW p, .row 42 [.n ((rr (Int.toNat x1.a)).lo), .n ((rr (Int.toNat x1.a)).hi)], .row 42 [.n ((f117 (rr (Int.toNat x1.a)) (f24 0)).lo), .n ((f117 (rr (Int.toNat x1.a)) (f24 0)).hi)], .row 42 [.n ((f117 (rr (Int.toNat x1.a)) (f56 x1.n c)).lo), .n ((f117 (rr (Int.toNat x1.a)) (f56 x1.n c)).hi)]]) (f95_l1 t rg fc sl pc rr pl x1 c H) h (λ_ _ h=>by rw[f95_l1] at h;cases h) (λn g p h=>?_)
 rw[f95_l1] at h
 refine Rcc 6 q (Ci h q (λh=>?_) λh=>?_)
 refine Rcc 2 q ?_
 refine Jn1 (λ_=> [(0, .pt 0 0),(3, .d (.pc (R59 x1))),(4, .pt 3 0),(6, .n c),(7, .pt 5 0),(81, .n x1.m),(82, .n g)]) (λw=> [fN ky t rg fc sl pc rr,mP pl,mW w, .row 42 [.n ((rr (Int.toNat x1.a)).lo), .n ((rr (Int.toNat x1.a)).hi)], .row 42 [.n ((f117 (rr (Int.toNat x1.a)) (f24 0)).lo), .n ((f117 (rr (Int.toNat x1.a)) (f24 0)).hi)], .row 42 [.n ((f117 (rr (Int.toNat x1.a)) (f56 x1.n c)).lo), .n ((f117 (rr (Int.toNat x1.a)) (f56 x1.n c)).hi)]]) h (λ_ h=>?_) (λw h=>?_)
 refine Rcl 23 q ?_
 apply WL.and 4 (t:=93) (d:=97)
 exact q
 intro O
 exact Rl 2 q (WL.fn q q q q (f66_c) ⟨(ak (Zs _)),Zl,Zt⟩ (aG q q q) q q (Rl 1 q (WL.nil ⟨q,[_,_,_,_],q,q,q⟩)))
 exact Rn 4 4
 refine Rlc 2 q (Ci h q (λh=>?_) λh=>?_)
 obtain⟨I,K,h⟩:=ae h
 apply RT [_,_,_,_,_,_,_,_,_,_] [9] [[fN ky t rg fc sl pc rr,mP pl,mW I, .row 42 [.n ((rr (Int.toNat x1.a)).lo), .n ((rr (Int.toNat x1.a)).hi)], .row 42 [.n ((f117 (rr (Int.toNat x1.a)) (f24 0)).lo), .n ((f117 (rr (Int.toNat x1.a)) (f24 0)).hi)], .row 42 [.n ((f117 (rr (Int.toNat x1.a)) (f56 x1.n c)).lo), .n ((f117 (rr (Int.toNat x1.a)) (f56 x1.n c)).hi)]]] [p01 0,p01 3,p10 1,p01 8,p20 2 3,p01 3,p10 5,p01 9,p10 7,([0,4,6,8],[],[0])] kR kR q q
 refine Y8 ?_
 refine zo (λ_=>wF Z4 (f24_c) Lw Z3 (Zd q q q)) ?_
 refine zo (λ_=>?_) Zt
 refine aN [0,1,2] q q q q (f122_c K (ky:=ky)) Lw q dC reM ⟨q,q,q,Zt⟩ (ltM q) q (Zw q) q q (λr' new hS=>?_)
 obtain⟨rfl,rfl⟩:=hS
 refine⟨_,_,q,reM,q,(ltM q),?_⟩
 exact Zd q q q
 exact Rxx 1 q (En1 h)
 exact Rcx 2 q (En1 h)
 exact Rcx 4 q (Fn2 h)
 exact Rcx 4 q (En1 h)
 refine Rcc 1 q ?_
 apply RT [_,_,_,_,_,_,_] [] [] [p01 4,p01 3,p10 1,p01 6,p20 2 3,p20 0 4,p10 5] kR kR q q
 refine Y4 ?_
 refine zo (λ_=>wF Z4 (f56_c) Lw Z3 (Zd q q q)) ?_
 refine zo (λ_=>wF Z4 (f65_c _ _) ⟨(ak (Zs _)),Zl,Zt⟩ Z3 (Zd q q q)) ?_
 exact Y1 Zt
 refine Rxc 1 q (Ci h q (λh=>?_) λh=>?_)
 obtain⟨x,L,h⟩:=ae h
 apply RT [_,_,_,_,_,_,_,_,_,_,_] [10] [[fN ky t rg fc sl pc rr,mP pl,mW x, .row 42 [.n ((rr (Int.toNat x1.a)).lo), .n ((rr (Int.toNat x1.a)).hi)], .row 42 [.n ((f117 (rr (Int.toNat x1.a)) (f24 0)).lo), .n ((f117 (rr (Int.toNat x1.a)) (f24 0)).hi)], .row 42 [.n ((f117 (rr (Int.toNat x1.a)) (f56 x1.n c)).lo), .n ((f117 (rr (Int.toNat x1.a)) (f56 x1.n c)).hi)]]] [p01 0,p01 0,p10 1,p10 2,p10 3,p10 4,p01 0,p10 6,p10 7,p10 8,p30 0 5 9] kR kR q q
 refine Y9 ?_
 refine zo (λ_=>Zq (cN (off:=15) (N:=32) (aO R42 rr) q q a43 s43 q q) q (Zd q q q)) ?_
 refine zo (λ_=>?_) Zt
 refine aN [0,1,2] q q q q (f90_c L (ky:=ky)) Lw q dC reM ⟨q,q,q,Zt⟩ (ltM q) q (Zw q) q q (λr' new hS=>?_)
 obtain⟨rfl,rfl⟩:=hS
 refine⟨_,_,q,reM,q,(ltM q),?_⟩
 exact Zd q q q
 refine Rxx 1 q (bo ?_)
 obtain rfl:=Oi h
 exact aw (new:=[fN ky t rg fc sl pc rr,mP pl,mW x]) (r0:= .d (.tu [])) (bX q) (aY Zt) q ⟨Zp,q,q,Zt⟩ ⟨q,q⟩
 refine Rcx 2 q (bo ?_)
 obtain rfl:=Oi h
 exact aw (new:=[fN ky t rg fc sl pc rr,mP pl,mW f]) (r0:= .d (.tu [])) (bX q) (aY Zt) q ⟨Zp,q,q,Zt⟩ ⟨q,q⟩
 refine Rcx 2 q (bo ?_)
 obtain rfl:=Oi h
 exact aw (new:=[fN ky t rg fc sl pc rr,mP pl,mW wy]) (r0:= .d (.tu [])) (bX q) (aY Zt) q ⟨Zp,q,q,Zt⟩ ⟨q,q⟩

theorem f96_c{t:al}{rg:List aa}{fc:List aj}{sl:List (List aa)}{pc:Int}{rr:Nat→aa}{pl:List ((Int×Int)×aa)}{wy:List (Int×(Nat→aa))}{x1:ao}{ky:Nat→Value}{r:List (Int×(Nat→aa))}(h:f96 t rg fc sl pc rr pl wy x1=some r):Ctr prog 96 [.pt 0 0, .d (.ag (R59 x1))] [fN ky t rg fc sl pc rr,mP pl,mW wy] (fa 3 (λr' new=>r'= .d (.tu [])∧new=[fN ky t rg fc sl pc rr,mP pl,mW r])):=by
 unfold f96 at h
 refine cI func96 λ_ _ _ hmm=>?_
 refine Rcl 2 q (Bd q q (Zs _) q (Rlc 3 q ?_))
 replace h:=aD h
 obtain⟨c,h⟩:=h
 apply RT [_,_,_,_,_,_,_,_, .u] [7,8] [[fN ky t rg fc sl pc rr,mP pl,mW wy, .row 42 [.n 0, .n 0]],[fN ky t rg fc sl pc rr,mP pl,mW wy, .row 42 [.n ((rr (Int.toNat x1.a)).lo), .n ((rr (Int.toNat x1.a)).hi)]]] [u01 0,u01 3,u10 1,u10 0,u10 3,u20 4 2,u10 5,p00,q20 7 6 1] kR kR q q
 refine X2d ?_
 refine X2a ?_
 refine⟨⟨λ_=>Zq (ar cw q q (aT c) (aS c)) q (Zd q q q),λ_=>Zq (ar cw q q (aT c) (aS c)) q (Zd q q q),Zt⟩,?_⟩
 refine⟨⟨λ_=>Zq (bw (off:=15) (N:=32) (n:=16) R42 rr (λ_=>q) q q q a42 s42 q q c) q (Zd q q q),λ_=>Zq (bw (off:=15) (N:=32) (n:=16) R42 rr (λ_=>q) q q q a42 s42 q q c) q (Zd q q q),Zt⟩,?_⟩
 refine zo (λ_=>Al z42 q (Zd q q q)) ?_
 exact zo (λ_=>sS Z6 s42 Z2 (aJ q q)) Zt
 refine Rxc 2 q ?_
 apply RT [_,_,_,_,_,_,_,_,_,_,_] [] [] [p01 4,p01 0,p10 1,p10 2,p10 3,p10 4,p10 5,p20 0 6,p10 7,p10 8,p10 9] kR kR q q
 refine Y5 ?_
 refine zo (λ_=>Zq (bm q q a3 q) q (Zd q q q)) ?_
 refine zo (λ_=>wF Z4 (f56_c) Lw Z3 (Zd q q q)) ?_
 refine zo (λ_=>wF Z4 (f117_c) ⟨(ak (Zs _)),Zl,Zt⟩ Z3 (Zd q q q)) ?_
 refine zo (λ_=>wF Z4 (f118_c) Lw Z3 (Zd q q q)) ?_
 exact Y2 Zt
 refine Rxc 1 q (Jn1 (λ_=> [(0, .pt 0 0),(3, .d (.pc (R59 x1))),(5, .d (D.b (!(f118 (f117 (rr (Int.toNat x1.a)) (f56 1 t.excs))))))]) (λe=> [fN ky t rg fc sl pc rr,mP pl,mW e, .row 42 [.n ((rr (Int.toNat x1.a)).lo), .n ((rr (Int.toNat x1.a)).hi)]]) h (λ_ h=>?_) λe h=>?_)
 refine Rcc 7 q (Ci h q (λh=>?_) λh=>?_)
 obtain⟨f,g,h⟩:=ae h
 apply RT [_,_,_,_,_,_,_] [6] [[fN ky t rg fc sl pc rr,mP pl,mW f, .row 42 [.n ((rr (Int.toNat x1.a)).lo), .n ((rr (Int.toNat x1.a)).hi)]]] [p01 0,p01 3,p10 1,p01 4,p00,p20 3 4,p30 0 2 5] kR kR q q
 refine Y4 ?_
 refine zo (λ_=>wF Z4 (f24_c) Lw Z3 (Zd q q q)) ?_
 refine zo (λ_=>wF Z4 (f117_c) ⟨(ak (Zs _)),Zl,Zt⟩ Z3 (Zd q q q)) ?_
 refine zo (λ_=>?_) Zt
 refine aN [0,1,2] q q q q (f116_c g (ky:=ky)) Lw q dC reM ⟨q,q,q,Zt⟩ (ltM q) q (Zw q) q q (λr' new hS=>?_)
 obtain⟨rfl,rfl⟩:=hS
 refine⟨_,_,q,reM,q,(ltM q),?_⟩
 exact Zd q q q
 exact En1 h
 exact Rcx 1 q (En1 h)
 refine Rcl 6 q ?_
 refine OG 2 36 38 2 2 ?_
 refine Rlc 2 q (Ci h q (λh=>?_) λh=>?_)
 refine Rcl 2 q ?_
 obtain⟨j,k,h⟩:=ae h
 refine aN [0,1,2] q q q q (f58_c k (ky:=ky)) Lw q dC reM ⟨q,q,q,Zt⟩ (ltM q) q (Zw q) q q (λr' new hS=>?_)
 obtain⟨rfl,rfl⟩:=hS
 refine⟨_,_,q,reM,q,(ltM q),?_⟩
 refine St q (Rlx 1 q (bo ?_))
 obtain rfl:=Oi h
 exact aw (new:=[fN ky t rg fc sl pc rr,mP pl,mW j]) (r0:= .d (.tu [])) (bX q) (aY Zt) q ⟨Zp,q,q,Zt⟩ ⟨q,q⟩
 refine Rcx 1 q (bo ?_)
 obtain rfl:=Oi h
 exact aw (new:=[fN ky t rg fc sl pc rr,mP pl,mW e]) (r0:= .d (.tu [])) (bX q) (aY Zt) q ⟨Zp,q,q,Zt⟩ ⟨q,q⟩

theorem f98_c{t:al}{rg:List aa}{fc:List aj}{sl:List (List aa)}{pc:Int}{rr:Nat→aa}{pl:List ((Int×Int)×aa)}{wy:List (Int×(Nat→aa))}{x1:ao}{ky:Nat→Value}{r:List (Int×(Nat→aa))}(h:f98 t rg fc sl pc rr pl wy x1=some r):Ctr prog 98 [.pt 0 0, .d (.ag (R59 x1))] [fN ky t rg fc sl pc rr,mP pl,mW wy] (fa 3 (λr' new=>r'= .d (.tu [])∧new=[fN ky t rg fc sl pc rr,mP pl,mW r])):=by
 unfold f98 at h
 refine cI func98 λ_ _ _ hmm=>?_
 refine Rcl 2 q (Bd q q (Zs _) q (Rlc 15 q (Ci h q (λh=>?_) λh=>?_)))
 obtain⟨c,p,h⟩:=ae h
 apply RT [_,_,_,_,_,_,_] [6] [[fN ky t rg fc sl pc rr,mP pl,mW c]] [p01 0,p01 3,p10 1,p01 3,p10 3,p10 4,p30 0 2 5] kR kR q q
 refine Y5 ?_
 refine zo (λ_=>wF Z4 (f24_c) Lw Z3 (Zd q q q)) ?_
 refine zo (λ_=>?_) Zt
 refine aN [0,1,2] q q q q (f116_c p (ky:=ky)) Lw q dC reM ⟨q,q,q,Zt⟩ (ltM q) q (Zw q) q q (λr' new hS=>?_)
 obtain⟨rfl,rfl⟩:=hS
 refine⟨_,_,q,reM,q,(ltM q),?_⟩
 exact Zd q q q
 refine Rxx 1 q (bo ?_)
 obtain rfl:=Oi h
 exact aw (new:=[fN ky t rg fc sl pc rr,mP pl,mW c]) (r0:= .d (.tu [])) (bX q) (aY Zt) q ⟨Zp,q,q,Zt⟩ ⟨q,q⟩
 refine Rcc 6 q (Ci h q (λh=>?_) λh=>?_)
 replace h:=aD h
 obtain⟨a,h⟩:=h
 obtain⟨e,w,h⟩:=ae h
 apply RT [_,_,_,_,_,_,_,_,_,_,_] [10] [[fN ky t rg fc sl pc rr,mP pl,mW e]] [p01 0,p01 3,p10 1,p01 0,p01 3,p10 4,p10 3,p10 6,p20 7 5,p10 8,p30 0 2 9] kR kR q q
 refine Y8 ?_
 refine zo (λ_=>Zq (ar cw q q (aT a) (aS a)) q (Zd q q q)) ?_
 refine zo (λ_=>Zq (bw (off:=15) (N:=32) (n:=16) R42 rr (λ_=>q) q q q a42 s42 q q a) q (Zd q q q)) ?_
 refine zo (λ_=>?_) Zt
 refine aN [0,1,2] q q q q (f116_c w (ky:=ky)) Lw q dC reM ⟨q,q,q,Zt⟩ (ltM q) q (Zw q) q q (λr' new hS=>?_)
 obtain⟨rfl,rfl⟩:=hS
 refine⟨_,_,q,reM,q,(ltM q),?_⟩
 exact Zd q q q
 refine Rxx 1 q (bo ?_)
 obtain rfl:=Oi h
 exact aw (new:=[fN ky t rg fc sl pc rr,mP pl,mW e]) (r0:= .d (.tu [])) (bX q) (aY Zt) q ⟨Zp,q,q,Zt⟩ ⟨q,q⟩
 refine Rcc 6 q (Ci h q (λh=>?_) λh=>?_)
 obtain⟨f,x,h⟩:=ae h
 apply RT [_,_,_,_,_,_,_,_,_,_] [9] [[fN ky t rg fc sl pc rr,mP pl,mW f]] [p01 0,p01 3,p10 1,p01 0,p10 3,p10 4,p10 5,p10 6,p10 7,p30 0 2 8] kR kR q q
 refine Y7 ?_
 refine zo (λ_=>Zq (bm q q a3 q) q (Zd q q q)) ?_
 refine zo (λ_=>wF Z4 (f56_c) Lw Z3 (Zd q q q)) ?_
 refine zo (λ_=>?_) Zt
 refine aN [0,1,2] q q q q (f116_c x (ky:=ky)) Lw q dC reM ⟨q,q,q,Zt⟩ (ltM q) q (Zw q) q q (λr' new hS=>?_)
 obtain⟨rfl,rfl⟩:=hS
 refine⟨_,_,q,reM,q,(ltM q),?_⟩
 exact Zd q q q
 refine Rxx 1 q (bo ?_)
 obtain rfl:=Oi h
 exact aw (new:=[fN ky t rg fc sl pc rr,mP pl,mW f]) (r0:= .d (.tu [])) (bX q) (aY Zt) q ⟨Zp,q,q,Zt⟩ ⟨q,q⟩
 refine Rcc 6 q (Ci h q (λh=>?_) λh=>?_)
 refine Rcl 3 q ?_
 obtain⟨F,y,h⟩:=ae h
 refine aN [0,1,2] q q q q (f58_c y (ky:=ky)) Lw q dC reM ⟨q,q,q,Zt⟩ (ltM q) q (Zw q) q q (λr' new hS=>?_)
 obtain⟨rfl,rfl⟩:=hS
 refine⟨_,_,q,reM,q,(ltM q),?_⟩
 refine St q (Rlc 2 q ?_)
 obtain⟨g,A,h⟩:=ae h
 apply RT [_,_,_,_,_] [4] [[fN ky t rg fc sl pc rr,mP pl,mW g]] [p01 0,p01 3,p10 1,p00,p30 0 2 3] kR kR q q
 refine Y3 ?_
 refine zo (λ_=>wF Z4 (f56_c) Lw Z3 (Zd q q q)) ?_
 refine zo (λ_=>?_) Zt
 refine aN [0,1,2] q q q q (f116_c A (ky:=ky)) Lw q dC reM ⟨q,q,q,Zt⟩ (ltM q) q (Zw q) q q (λr' new hS=>?_)
 obtain⟨rfl,rfl⟩:=hS
 refine⟨_,_,q,reM,q,(ltM q),?_⟩
 exact Zd q q q
 refine Rxx 1 q (bo ?_)
 obtain rfl:=Oi h
 exact aw (new:=[fN ky t rg fc sl pc rr,mP pl,mW g]) (r0:= .d (.tu [])) (bX q) (aY Zt) q ⟨Zp,q,q,Zt⟩ ⟨q,q⟩
 refine Rcc 6 q (Ci h q (λh=>?_) λh=>?_)
 obtain⟨j,B,h⟩:=ae h
 apply RT [_,_,_,_,_] [4] [[fN ky t rg fc sl pc rr,mP pl,mW j]] [p01 0,p01 3,p10 1,p00,p30 0 2 3] kR kR q q
 refine Y3 ?_
 refine zo (λ_=>wF Z4 (f56_c) Lw Z3 (Zd q q q)) ?_
 refine zo (λ_=>?_) Zt
 refine aN [0,1,2] q q q q (f116_c B (ky:=ky)) Lw q dC reM ⟨q,q,q,Zt⟩ (ltM q) q (Zw q) q q (λr' new hS=>?_)
 obtain⟨rfl,rfl⟩:=hS
 refine⟨_,_,q,reM,q,(ltM q),?_⟩
 exact Zd q q q
 refine Rxx 1 q (bo ?_)
 obtain rfl:=Oi h
 exact aw (new:=[fN ky t rg fc sl pc rr,mP pl,mW j]) (r0:= .d (.tu [])) (bX q) (aY Zt) q ⟨Zp,q,q,Zt⟩ ⟨q,q⟩
 refine Rcc 6 q (Ci h q (λh=>?_) λh=>?_)
 obtain⟨k,C,h⟩:=ae h
 apply RT [_,_,_,_,_] [4] [[fN ky t rg fc sl pc rr,mP pl,mW k]] [p01 0,p01 3,p10 1,p00,p30 0 2 3] kR kR q q
 refine Y3 ?_
 refine zo (λ_=>wF Z4 (f56_c) Lw Z3 (Zd q q q)) ?_
 refine zo (λ_=>?_) Zt
 refine aN [0,1,2] q q q q (f116_c C (ky:=ky)) Lw q dC reM ⟨q,q,q,Zt⟩ (ltM q) q (Zw q) q q (λr' new hS=>?_)
 obtain⟨rfl,rfl⟩:=hS
 refine⟨_,_,q,reM,q,(ltM q),?_⟩
 exact Zd q q q
 refine Rxx 1 q (bo ?_)
 obtain rfl:=Oi h
 exact aw (new:=[fN ky t rg fc sl pc rr,mP pl,mW k]) (r0:= .d (.tu [])) (bX q) (aY Zt) q ⟨Zp,q,q,Zt⟩ ⟨q,q⟩
 obtain⟨m,E,h⟩:=ae h
 apply RT [_,_,_,_,_,_,_,_,_,_,_] [10] [[fN ky t rg fc sl pc rr,mP pl,mW m]] [p01 0,p01 0,p10 1,p10 2,p10 3,p10 4,p01 0,p10 6,p10 7,p10 8,p30 0 5 9] kR kR q q
 refine Y9 ?_
 refine zo (λ_=>Zq (cN (off:=15) (N:=32) (aO R42 rr) q q a43 s43 q q) q (Zd q q q)) ?_
 refine zo (λ_=>?_) Zt
 refine aN [0,1,2] q q q q (f90_c E (ky:=ky)) Lw q dC reM ⟨q,q,q,Zt⟩ (ltM q) q (Zw q) q q (λr' new hS=>?_)
 obtain⟨rfl,rfl⟩:=hS
 refine⟨_,_,q,reM,q,(ltM q),?_⟩
 exact Zd q q q
 refine Rxx 1 q (bo ?_)
 obtain rfl:=Oi h
 exact aw (new:=[fN ky t rg fc sl pc rr,mP pl,mW m]) (r0:= .d (.tu [])) (bX q) (aY Zt) q ⟨Zp,q,q,Zt⟩ ⟨q,q⟩

theorem f123_c{t:al}{rg:List aa}{fc:List aj}{sl:List (List aa)}{pc:Int}{rr:Nat→aa}{pl:List ((Int×Int)×aa)}{wy:List (Int×(Nat→aa))}{x1:ao}{ky:Nat→Value}{r:List ((Int×Int)×aa)}(h:f123 t rg fc sl pc rr pl wy x1=some r):Ctr prog 123 [.pt 0 0, .d (.ag (R59 x1))] [fN ky t rg fc sl pc rr,mP pl,mW wy] (fa 3 (λr' new=>r'= .d (.tu [])∧new=[fN ky t rg fc sl pc rr,mP r,mW wy])):=by
 unfold f123 at h
 refine cI func123 λ_ _ _ hmm=>?_
 refine Rcl 2 q (Bd q q (Zs _) q (Rlc 3 q ?_))
 obtain⟨H,j,h⟩:=ae h
 obtain⟨a,k,h⟩:=ae h
 apply RT [_,_,_,_,_,_,_,_,_,_,_,_,_,_,_, .u] [14,15] [[fN ky t rg fc sl pc rr,mP pl,mW wy, .row 74 [sN,sN]],[fN ky t rg fc sl pc rr,mP pl,mW wy, .row 74 [.l E3 a.ins, .l E3 a.outs]]] [u01 0,u10 0,u10 1,u10 2,u10 3,u01 3,u10 5,u20 4 6,u10 7,u10 8,u01 3,u10 10,u20 9 11,u10 12,p00,q20 14 13 1] kR kR q q
 refine X2d ?_
 refine⟨⟨λ_=>Zq (bm q q a29 q) q (Zd q q q),λ_=>Zq (bm q q a29 q) q (Zd q q q),Zt⟩,?_⟩
 refine X2b ?_
 refine⟨⟨λ_=>Zq (ah e29 q Zl q (af j) (an dK j) q) q (Zd q q q),λ_=>Zq (ah e29 q Zl q (af j) (an dK j) q) q (Zd q q q),Zt⟩,?_⟩
 refine X2d ?_
 refine⟨⟨λ_=>Zq (ah e46 q Zl q (af k) (an ib k) q) q (Zd q q q),λ_=>Zq (ah e46 q Zl q (af k) (an ib k) q) q (Zd q q q),Zt⟩,?_⟩
 refine X2a ?_
 refine zo (λ_=>Al z74 q (Zd q q q)) ?_
 exact zo (λ_=>sS Z6 s74 Z2 (aJ q q)) Zt
 refine Rxl 5 q (Zq (ab E3 a.outs e51 q q Zl) q (Rlc 4 q ?_))
 refine Ln2 (λe _=> [(0, .pt 0 0),(3, .d (.pc (R59 x1))),(4, .pt 3 0),(25, .n (List.length a.outs:Int)),(26, .n e)]) (λ_ f=> [fN ky t rg fc sl pc rr,mP f,mW wy, .row 74 [.l E3 a.ins, .l E3 a.outs]]) (f123_l1 t rg fc sl pc rr wy x1 a) h (λ_ _ h=>by rw[f123_l1] at h;cases h) (λn e f h=>?_)
 rw[f123_l1] at h
 refine Rcc 6 q (Ci h q (λh=>?_) λh=>?_)
 refine Rcc 2 q ?_
 refine Jn3 (λ_ _ _=> [(0, .pt 0 0),(3, .d (.pc (R59 x1))),(4, .pt 3 0),(25, .n (List.length a.outs:Int)),(26, .n e)]) (λx c40v98 c41v99=> [fN ky t rg fc sl pc rr,mP x,mW wy, .row 74 [.l E3 a.ins, .l E3 a.outs], .row 42 [.n c40v98, .n c41v99]]) h (λE h=>?_) (λx c40v98 c41v99 h=>?_)
 refine Rcc 8 q ?_
 obtain⟨I,m,h⟩:=ae h
 obtain⟨c,p,h⟩:=ae h
 apply RT [_,_,_,_,_,_,_,_,_,_,_,_,_,_,_,_, .u] [15,16] [[fN ky t rg fc sl pc rr,mP f,mW wy, .row 74 [.l E3 a.ins, .l E3 a.outs], .row 42 [.n 0, .n 0]],[fN ky t rg fc sl pc rr,mP f,mW wy, .row 74 [.l E3 a.ins, .l E3 a.outs], .row 42 [.n c.lo, .n c.hi]]] [u01 0,u10 0,u10 1,u10 2,u01 3,u10 4,u20 3 5,u10 6,u01 4,u10 8,u10 9,u01 5,u20 10 11,u20 7 12,u10 13,p00,q20 15 14 1] kR kR q q
 refine X2c ?_
 refine⟨⟨λ_=>Zq (bm q q a37 q) q (Zd q q q),λ_=>Zq (bm q q a37 q) q (Zd q q q),Zt⟩,?_⟩
 refine X2b ?_
 refine⟨⟨λ_=>Zq (ah e37 q Zl q (af m) (an c5 m) q) q (Zd q q q),λ_=>Zq (ah e37 q Zl q (af m) (an c5 m) q) q (Zd q q q),Zt⟩,?_⟩
 refine X2c ?_
 refine⟨⟨λ_=>Zq (ab E3 a.ins e51 q q Zl) q (Zd q q q),λ_=>Zq (ab E3 a.ins e51 q q Zl) q (Zd q q q),Zt⟩,?_⟩
 refine X2b ?_
 refine⟨⟨λ_=>Zq (ah e50 q Zl q (af p) (an bL p) q) q (Zd q q q),λ_=>Zq (ah e50 q Zl q (af p) (an bL p) q) q (Zd q q q),Zt⟩,?_⟩
 refine X2a ?_
 refine zo (λ_=>Al z42 q (Zd q q q)) ?_
 exact zo (λ_=>sS Z6 s42 Z2 (aJ q q)) Zt
 refine Rxl 5 q (Zq (kK q q dC) q (Zq (eU q q q) q (Rlc 4 q ?_)))
 refine Ln2 (λg _=> [(0, .pt 0 0),(3, .d (.pc (R59 x1))),(4, .pt 3 0),(6, .pt 4 0),(7, .n g),(25, .n (List.length a.outs:Int)),(26, .n e)]) (λ_ y=> [fN ky t rg fc sl pc rr,mP y,mW wy, .row 74 [.l E3 a.ins, .l E3 a.outs], .row 42 [.n c.lo, .n c.hi]]) (f123_l2 t rg fc sl pc rr wy E c) h (λ_ _ h=>by rw[f123_l2] at h;cases h) (λna g y h=>?_)
 rw[f123_l2] at h
 refine Rcc 2 q (av kR kR (Rq 4 q (WQ.qn (bm q q a37 q) q (WQ.qn (ab E50 sl e37 q q Zl) q (Rq 3 q (WQ.qn (kK q q dC) q (WQ.qn (gG q q q) q (Rq 1 q (WQ.nil (Rxc 1 q (Ci h q (λh=>?_) λh=>?_)))))))))))
 refine Rcc 2 q ?_
 refine Jn1 (λ_=> [(0, .pt 0 0),(3, .d (.pc (R59 x1))),(4, .pt 3 0),(6, .pt 4 0),(7, .n g),(25, .n (List.length a.outs:Int)),(26, .n e)]) (λA=> [fN ky t rg fc sl pc rr,mP A,mW wy, .row 74 [.l E3 a.ins, .l E3 a.outs], .row 42 [.n c.lo, .n c.hi]]) h (λF h=>?_) (λA h=>?_)
 refine Rcl 6 q (Zq (bm q q a37 q) q (Rl 1 q (Ix h e37 c5 q Zl q q λw _ h=>(Rl 1 q (Zq (ab E42 w e50 q q Zl) q (Rlc 4 q ?_))))))
 refine Ln2 (λB _=> [(0, .pt 0 0),(3, .d (.pc (R59 x1))),(4, .pt 3 0),(6, .pt 4 0),(7, .n g),(25, .n (List.length a.outs:Int)),(26, .n e),(69, .n (List.length w:Int)),(70, .n B)]) (λ_ C=> [fN ky t rg fc sl pc rr,mP C,mW wy, .row 74 [.l E3 a.ins, .l E3 a.outs], .row 42 [.n c.lo, .n c.hi]]) (f123_l3 t rg fc sl pc rr wy g F w) h (λ_ _ h=>by rw[f123_l3] at h;cases h) (λnb B C h=>?_)
 rw[f123_l3] at h
 refine Rcc 6 q (Ci h q (λh=>?_) λh=>?_)
 refine Rcl 17 q (Zq (bm q q a50 q) q (Rl 1 q (Ix h e50 bL q Zl q q λK _ h=>(Rl 1 q ?_))))
 obtain⟨L,G,h⟩:=ae h
 refine aN [0,1,2] q q q q (f119_c G (ky:=ky)) Lw q dC reM ⟨q,q,q,Zt⟩ (ltM q) q (Zw q) q q (λr' new hS=>?_)
 obtain⟨rfl,rfl⟩:=hS
 refine⟨_,_,q,reM,q,(ltM q),?_⟩
 exact St q (Rlx 7 q (Fn2 h))
 exact Rcx 5 q (En1 h)
 exact Rcx 5 q (Fn2 h)
 exact Rcx 5 q (En3 h)
 exact Rcx 4 q (WE.drop 4 (env':=[(0, .pt 0 0),(3, .d (.pc (R59 x1))),(4, .pt 3 0),(25, .n (List.length a.outs:Int)),(26, .n (IntKind.i64.wrap (e+1)))]) Sb q (ay q (ay (cv _ kP dP _) (ay (cv _ kW dW _) Kv))) (Nat.le_trans (Nat.le_of_eq hmm) (nbT q)) (Fn2 h))
 refine Rcx 4 q (bo ?_)
 obtain rfl:=Oi h
 exact aw (new:=[fN ky t rg fc sl pc rr,mP f,mW wy]) (r0:= .d (.tu [])) (bX q) (aY Zt) q ⟨Zp,q,q,Zt⟩ ⟨q,q⟩

theorem f99_c{t:al}{rg:List aa}{fc:List aj}{sl:List (List aa)}{pc:Int}{rr:Nat→aa}{pl:List ((Int×Int)×aa)}{wy:List (Int×(Nat→aa))}{x1:ao}{ky:Nat→Value}{r:(Nat→aa)×(List ((Int×Int)×aa))×(List (Int×(Nat→aa)))}(h:f99 t rg fc sl pc rr pl wy x1=some r):Ctr prog 99 [.pt 0 0, .d (.ag (R59 x1))] [fN ky t rg fc sl pc rr,mP pl,mW wy] (fa 3 (λr' new=>r'= .d (.tu [])∧new=[fN ky t rg fc sl pc r.1,mP r.2.1,mW r.2.2])):=by
 unfold f99 at h
 refine cI func99 λ_ _ _ hmm=>?_
 refine Rcl 2 q (Bd q q (Zs _) q (Rlc 3 q ?_))
 replace h:=aD h
 obtain⟨c,h⟩:=h
 apply RT [_,_,_,_,_,_,_,_,_, .u] [8,9] [[fN ky t rg fc sl pc rr,mP pl,mW wy, .row 42 [.n 0, .n 0]],[fN ky t rg fc sl pc rr,mP pl,mW wy, .row 42 [.n ((rr (Int.toNat (a15 x1))).lo), .n ((rr (Int.toNat (a15 x1))).hi)]]] [u01 0,u01 3,u10 1,u10 2,u10 0,u10 4,u20 5 3,u10 6,p00,q20 8 7 1] kR kR q q
 refine X2c ?_
 refine⟨⟨λ_=>Zq (jd q q q) q (Zd q q q),λ_=>Zq (jd q q q) q (Zd q q q),Zt⟩,?_⟩
 refine X2b ?_
 refine⟨⟨λ_=>Zq (ar cw q q (aT c) (aS c)) q (Zd q q q),λ_=>Zq (ar cw q q (aT c) (aS c)) q (Zd q q q),Zt⟩,?_⟩
 refine⟨⟨λ_=>Zq (bw (off:=15) (N:=32) (n:=16) R42 rr (λ_=>q) q q q a42 s42 q q c) q (Zd q q q),λ_=>Zq (bw (off:=15) (N:=32) (n:=16) R42 rr (λ_=>q) q q q a42 s42 q q c) q (Zd q q q),Zt⟩,?_⟩
 refine zo (λ_=>Al z42 q (Zd q q q)) ?_
 exact zo (λ_=>sS Z6 s42 Z2 (aJ q q)) Zt
 refine Rxc 1 q ?_
 refine Jn1 (λ_=> [(0, .pt 0 0),(3, .d (.pc (R59 x1))),(4, .pt 3 0)]) (λc015v135=> [fN ky t rg fc sl pc c015v135,mP pl,mW wy, .row 42 [.n ((rr (Int.toNat (a15 x1))).lo), .n ((rr (Int.toNat (a15 x1))).hi)]]) h (λI h=>?_) (λc015v135 h=>?_)
 refine Rcc 6 q ?_
 refine Ln2 (λf _=> [(0, .pt 0 0),(3, .d (.pc (R59 x1))),(4, .pt 3 0),(17, .n f)]) (λ_ c015v140=> [fN ky t rg fc sl pc c015v140,mP pl,mW wy, .row 42 [.n ((rr (Int.toNat (a15 x1))).lo), .n ((rr (Int.toNat (a15 x1))).hi)]]) (f99_l1 I) h (λ_ _ h=>by rw[f99_l1] at h;cases h) (λn f c015v140 h=>?_)
 rw[f99_l1] at h
 refine Rcc 6 q (Ci h q (λh=>?_) λh=>?_)
 refine Rcc 10 q ?_
 replace h:=aD h
 obtain⟨m,h⟩:=h
 obtain⟨p,K,h⟩:=ae h
 replace h:=aD h
 obtain⟨w,h⟩:=h
 apply RT [_,_,_,_,_,_,_,_,_,_,_,_,_,_, .u] [14] [[fN ky t rg fc sl pc (be c015v140 (Int.toNat f) p),mP pl,mW wy, .row 42 [.n ((rr (Int.toNat (a15 x1))).lo), .n ((rr (Int.toNat (a15 x1))).hi)]]] [p01 0,p01 5,p01 0,p01 5,p10 2,p10 4,p20 5 3,p10 6,p00,p10 8,p20 7 9,p10 0,p10 11,p20 12 1,p20 13 10] kR kR q q
 refine Y6 ?_
 refine zo (λ_=>Zq (ar cw q q (aT m) (aS m)) q (Zd q q q)) ?_
 refine zo (λ_=>Zq (bw (off:=15) (N:=32) (n:=16) R42 c015v140 (λ_=>q) q q q a42 s42 q q m) q (Zd q q q)) ?_
 refine zo (λ_=>wF Z4 (f24_c) Lw Z3 (Zd q q q)) ?_
 refine zo (λ_=>WL.s ((NewOs.data (ad l50 z42 q dC dC q q q dC) (by exact ai bL [(f24 0)])).does) (Zw q) q q (Zd q q q)) ?_
 refine zo (λ_=>wF Z4 (f57_c K) Lw Z3 (Zd q q q)) ?_
 refine Y2 ?_
 refine zo (λ_=>Zq (ar cw q q (aT w) (aS w)) q (Zd q q q)) ?_
 exact zo (λ_=>WL.s0 (dT (off:=15) (N:=32) (n:=16) (cs':=(([.kv (ky 0) ((.sl (List.map E59 t.insns))), .kv (ky 1) ((.sl (List.map cq t.handlers))), .kv (ky 2) ((.sl (List.map cM t.loops))), .kv (ky 3) ((.sl (List.map E98 t.selects))), .kv (ky 4) ((.sl (List.map E51 t.lists))), .kv (ky 5) ((.sl (List.map E53 t.objs))), .kv (ky 6) ((.sl (List.map E80 t.inits))), .kv (ky 7) ((D.i .i64 t.excs)), .kv (ky 8) ((.sl (List.map E48 t.tasks))), .kv (ky 9) ((.sl (List.map E87 t.prots))), .kv (ky 10) ((.sl (List.map E95 t.checks))), .kv (ky 11) ((.sl (List.map E42 rg))), .kv (ky 12) ((.sl (List.map E45 fc))), .kv (ky 13) ((.sl (List.map E50 sl))), .n pc]:lV)++(bg 32 (λj=> .d (aO R42 (be c015v140 (Int.toNat f) p) j))++([.mp 1, .mp 2]:lV):lV))) R42 c015v140 p (λ_=>q) q q q q Zl q s42 q q w q) (Zw q) q (aJ q q)) Zt
 exact Rxx 6 q (Fn2 h)
 exact Rcx 4 q (En1 h)
 refine Jn1 (λ_=> [(0, .pt 0 0),(3, .d (.pc (R59 x1))),(4, .pt 3 0)]) (λg=> [fN ky t rg fc sl pc c015v135,mP pl,mW g, .row 42 [.n ((rr (Int.toNat (a15 x1))).lo), .n ((rr (Int.toNat (a15 x1))).hi)]]) h (λ_ h=>?_) (λg h=>?_)
 refine Rcc 13 q (Ci h q (λh=>?_) λh=>?_)
 refine Rcx 3 q ?_
 obtain rfl:=Oi h
 exact aw (new:=[fN ky t rg fc sl pc c015v135,mP pl,mW wy]) (r0:= .d (.tu [])) (bX q) (aY Zt) q ⟨Zp,q,q,Zt⟩ ⟨q,q⟩
 refine Jn1 (λA=> [(0, .pt 0 0),(3, .d (.pc (R59 x1))),(4, .pt 3 0),(39, .d (D.b A))]) (λ_=> [fN ky t rg fc sl pc c015v135,mP pl,mW wy, .row 42 [.n ((rr (Int.toNat (a15 x1))).lo), .n ((rr (Int.toNat (a15 x1))).hi)]]) h (λ_ h=>?_) (λA h=>?_)
 refine Rcc 6 q (Ci h q (λh=>Rcx 1 q (En1 h)) λh=>?_)
 refine Rcc 6 q (Ci h q (λh=>Rcx 1 q (En1 h)) λh=>?_)
 exact Rcc 6 q (Ci h q (λh=>Rcx 1 q (En1 h)) λh=>Rcx 4 q (En1 h))
 refine Ci h q (λh=>?_) (λh=>?_)
 refine Rcl 2 q ?_
 obtain⟨Z,L,h⟩:=ae h
 refine aN [0,1,2] q q q q (f58_c L (ky:=ky)) Lw q dC reM ⟨q,q,q,Zt⟩ (ltM q) q (Zw q) q q (λr' new hS=>?_)
 obtain⟨rfl,rfl⟩:=hS
 refine⟨_,_,q,reM,q,(ltM q),?_⟩
 exact St q (Rlx 2 q (En1 h))
 exact Rcx 2 q (En1 h)
 refine Rcc 13 q (Ci h q (λh=>?_) λh=>?_)
 obtain⟨a0,M,h⟩:=ae h
 obtain⟨B,O,h⟩:=ae h
 apply RT [_,_,_,_,_,_,_,_] [7] [[fN ky t rg fc sl pc c015v135,mP pl,mW B, .row 42 [.n ((rr (Int.toNat (a15 x1))).lo), .n ((rr (Int.toNat (a15 x1))).hi)]]] [p01 0,p01 3,p10 1,p01 4,p00,p10 4,p20 3 5,p30 0 2 6] kR kR q q
 refine Y4 ?_
 refine zo (λ_=>wF Z4 (f56_c) Lw Z3 (Zd q q q)) ?_
 refine zo (λ_=>WL.s ((NewOs.data (ad l50 z42 q dC dC q q q dC) (by exact ai bL [(f56 (-1) 0)])).does) (Zw q) q q (Zd q q q)) ?_
 refine zo (λ_=>wF Z4 (f57_c M) ⟨(ak (Zs _)),Zl,Zt⟩ Z3 (Zd q q q)) ?_
 refine zo (λ_=>?_) Zt
 refine aN [0,1,2] q q q q (f116_c O (ky:=ky)) Lw q dC reM ⟨q,q,q,Zt⟩ (ltM q) q (Zw q) q q (λr' new hS=>?_)
 obtain⟨rfl,rfl⟩:=hS
 refine⟨_,_,q,reM,q,(ltM q),?_⟩
 exact Zd q q q
 refine Rxx 1 q (bo ?_)
 obtain rfl:=Oi h
 exact aw (new:=[fN ky t rg fc sl pc c015v135,mP pl,mW B]) (r0:= .d (.tu [])) (bX q) (aY Zt) q ⟨Zp,q,q,Zt⟩ ⟨q,q⟩
 refine Rcc 6 q (Ci h q (λh=>?_) λh=>?_)
 refine Rcl 4 q ?_
 obtain⟨C,P,h⟩:=ae h
 refine aN [0,1,2] q q q q (f123_c P (ky:=ky)) Lw q dC reM ⟨q,q,q,Zt⟩ (ltM q) q (Zw q) q q (λr' new hS=>?_)
 obtain⟨rfl,rfl⟩:=hS
 refine⟨_,_,q,reM,q,(ltM q),?_⟩
 refine St q (Rlc 2 q ?_)
 obtain⟨E,Q,h⟩:=ae h
 apply RT [_,_,_,_,_] [4] [[fN ky t rg fc sl pc c015v135,mP C,mW E, .row 42 [.n ((rr (Int.toNat (a15 x1))).lo), .n ((rr (Int.toNat (a15 x1))).hi)]]] [p01 0,p01 3,p10 1,p00,p30 0 2 3] kR kR q q
 refine Y3 ?_
 refine zo (λ_=>wF Z4 (f56_c) Lw Z3 (Zd q q q)) ?_
 refine zo (λ_=>?_) Zt
 refine aN [0,1,2] q q q q (f116_c Q (ky:=ky)) Lw q dC reM ⟨q,q,q,Zt⟩ (ltM q) q (Zw q) q q (λr' new hS=>?_)
 obtain⟨rfl,rfl⟩:=hS
 refine⟨_,_,q,reM,q,(ltM q),?_⟩
 exact Zd q q q
 refine Rxx 1 q (bo ?_)
 obtain rfl:=Oi h
 exact aw (new:=[fN ky t rg fc sl pc c015v135,mP C,mW E]) (r0:= .d (.tu [])) (bX q) (aY Zt) q ⟨Zp,q,q,Zt⟩ ⟨q,q⟩
 refine Rcc 6 q (Ci h q (λh=>?_) λh=>?_)
 obtain⟨F,R,h⟩:=ae h
 apply RT [_,_,_,_,_] [4] [[fN ky t rg fc sl pc c015v135,mP pl,mW F, .row 42 [.n ((rr (Int.toNat (a15 x1))).lo), .n ((rr (Int.toNat (a15 x1))).hi)]]] [p01 0,p01 3,p10 1,p00,p30 0 2 3] kR kR q q
 refine Y3 ?_
 refine zo (λ_=>wF Z4 (f56_c) Lw Z3 (Zd q q q)) ?_
 refine zo (λ_=>?_) Zt
 refine aN [0,1,2] q q q q (f116_c R (ky:=ky)) Lw q dC reM ⟨q,q,q,Zt⟩ (ltM q) q (Zw q) q q (λr' new hS=>?_)
 obtain⟨rfl,rfl⟩:=hS
 refine⟨_,_,q,reM,q,(ltM q),?_⟩
 exact Zd q q q
 refine Rxx 1 q (bo ?_)
 obtain rfl:=Oi h
 exact aw (new:=[fN ky t rg fc sl pc c015v135,mP pl,mW F]) (r0:= .d (.tu [])) (bX q) (aY Zt) q ⟨Zp,q,q,Zt⟩ ⟨q,q⟩
 refine Rcc 6 q (Ci h q (λh=>?_) λh=>?_)
 obtain⟨G,S,h⟩:=ae h
 apply RT [_,_,_,_,_,_,_,_] [7] [[fN ky t rg fc sl pc c015v135,mP pl,mW G, .row 42 [.n ((rr (Int.toNat (a15 x1))).lo), .n ((rr (Int.toNat (a15 x1))).hi)]]] [p01 0,p01 3,p10 1,p01 0,p10 3,p10 4,p10 5,p30 0 2 6] kR kR q q
 refine Y6 ?_
 refine zo (λ_=>Zq (cN (off:=15) (N:=32) (aO R42 c015v135) q q a43 s43 q q) q (Zd q q q)) ?_
 refine zo (λ_=>?_) Zt
 refine aN [0,1,2] q q q q (f90_c S (ky:=ky)) Lw q dC reM ⟨q,q,q,Zt⟩ (ltM q) q (Zw q) q q (λr' new hS=>?_)
 obtain⟨rfl,rfl⟩:=hS
 refine⟨_,_,q,reM,q,(ltM q),?_⟩
 exact Zd q q q
 refine Rxx 1 q (bo ?_)
 obtain rfl:=Oi h
 exact aw (new:=[fN ky t rg fc sl pc c015v135,mP pl,mW G]) (r0:= .d (.tu [])) (bX q) (aY Zt) q ⟨Zp,q,q,Zt⟩ ⟨q,q⟩
 refine Rcc 6 q (Ci h q (λh=>?_) λh=>?_)
 refine Rcc 1 q ?_
 obtain⟨a,k,h⟩:=ae h
 apply RT [_,_,_,_,_,_,_,_,_,_, .u] [9,10] [[fN ky t rg fc sl pc c015v135,mP pl,mW g, .row 42 [.n ((rr (Int.toNat (a15 x1))).lo), .n ((rr (Int.toNat (a15 x1))).hi)], .row 98 [sN, .n 0, .n 0]],[fN ky t rg fc sl pc c015v135,mP pl,mW g, .row 42 [.n ((rr (Int.toNat (a15 x1))).lo), .n ((rr (Int.toNat (a15 x1))).hi)], .row 98 [.l eo a.alts, .n a.obj, .n a.else_]]] [u01 0,u10 0,u10 1,u10 2,u10 3,u01 3,u10 5,u20 4 6,u10 7,p00,q20 9 8 1] kR kR q q
 refine X2d ?_
 refine⟨⟨λ_=>Zq (bm q q a25 q) q (Zd q q q),λ_=>Zq (bm q q a25 q) q (Zd q q q),Zt⟩,?_⟩
 refine X2b ?_
 refine⟨⟨λ_=>Zq (ah e25 q Zl q (af k) (an nF k) q) q (Zd q q q),λ_=>Zq (ah e25 q Zl q (af k) (an nF k) q) q (Zd q q q),Zt⟩,?_⟩
 refine X2a ?_
 refine zo (λ_=>Al z98 q (Zd q q q)) ?_
 exact zo (λ_=>sS Z6 s98 Z2 (aJ q q)) Zt
 refine Rxc 2 q ?_
 obtain⟨T,U,h⟩:=ae h
 apply RT [_,_,_,_,_,_,_,_] [7] [[fN ky t rg fc sl pc c015v135,mP pl,mW T, .row 42 [.n ((rr (Int.toNat (a15 x1))).lo), .n ((rr (Int.toNat (a15 x1))).hi)], .row 98 [.l eo a.alts, .n a.obj, .n a.else_]]] [p01 0,p01 6,p10 1,p01 0,p10 3,p10 4,p10 5,p30 0 2 6] kR kR q q
 refine Y6 ?_
 refine zo (λ_=>Zq (cN (off:=15) (N:=32) (aO R42 c015v135) q q a43 s43 q q) q (Zd q q q)) ?_
 refine zo (λ_=>?_) Zt
 refine aN [0,1,2] q q q q (f90_c U (ky:=ky)) Lw q dC reM ⟨q,q,q,Zt⟩ (ltM q) q (Zw q) q q (λr' new hS=>?_)
 obtain⟨rfl,rfl⟩:=hS
 refine⟨_,_,q,reM,q,(ltM q),?_⟩
 exact Zd q q q
 refine Rxl 5 q (Zq (ab eo a.alts e96 q q Zl) q (Rlc 4 q ?_))
 refine Ln2 (λx _=> [(0, .pt 0 0),(116, .l eo a.alts),(117, .n (List.length a.alts:Int)),(118, .n x)]) (λ_ y=> [fN ky t rg fc sl pc c015v135,mP pl,mW y, .row 42 [.n ((rr (Int.toNat (a15 x1))).lo), .n ((rr (Int.toNat (a15 x1))).hi)], .row 98 [.l eo a.alts, .n a.obj, .n a.else_]]) (f99_l2 t rg fc sl pc pl c015v135 a) h (λ_ _ h=>by rw[f99_l2] at h;cases h) (λn x y h=>?_)
 rw[f99_l2] at h
 refine Rcc 6 q (Ci h q (λh=>?_) λh=>?_)
 refine Rcl 6 q (Ix h e96 nJ q Zl q q λe _ h=>(Rl 1 q (Al z102 q (sS Z6 s102 Z2 (St q (Rlc 2 q ?_))))))
 obtain⟨V,X,h⟩:=ae h
 apply RT [_,_,_,_,_,_,_,_] [7] [[fN ky t rg fc sl pc c015v135,mP pl,mW V, .row 42 [.n ((rr (Int.toNat (a15 x1))).lo), .n ((rr (Int.toNat (a15 x1))).hi)], .row 98 [.l eo a.alts, .n a.obj, .n a.else_], .row 102 [.d (D.i .u8 e.kind), .n e.entry, .n e.guard, .n e.time, .n e.at_]]] [p01 0,p01 8,p10 1,p01 0,p10 3,p10 4,p10 5,p30 0 2 6] kR kR q q
 refine Y6 ?_
 refine zo (λ_=>Zq (cN (off:=15) (N:=32) (aO R42 c015v135) q q a43 s43 q q) q (Zd q q q)) ?_
 refine zo (λ_=>?_) Zt
 refine aN [0,1,2] q q q q (f90_c X (ky:=ky)) Lw q dC reM ⟨q,q,q,Zt⟩ (ltM q) q (Zw q) q q (λr' new hS=>?_)
 obtain⟨rfl,rfl⟩:=hS
 refine⟨_,_,q,reM,q,(ltM q),?_⟩
 exact Zd q q q
 exact Rxx 6 q (WE.drop 5 (env':=[(0, .pt 0 0),(116, .l eo a.alts),(117, .n (List.length a.alts:Int)),(118, .n (IntKind.i64.wrap (x+1)))]) Sb q (ay q (ay (cv _ kP dP _) (ay (cv _ kW dW _) Kv))) (Nat.le_trans (Nat.le_of_eq hmm) (nbT q)) (Fn2 h))
 refine Rcx 5 q (bo ?_)
 obtain rfl:=Oi h
 exact aw (new:=[fN ky t rg fc sl pc c015v135,mP pl,mW y]) (r0:= .d (.tu [])) (bX q) (aY Zt) q ⟨Zp,q,q,Zt⟩ ⟨q,q⟩
 obtain⟨H,Y,h⟩:=ae h
 apply RT [_,_,_,_,_,_,_,_,_,_,_] [10] [[fN ky t rg fc sl pc c015v135,mP pl,mW H, .row 42 [.n ((rr (Int.toNat (a15 x1))).lo), .n ((rr (Int.toNat (a15 x1))).hi)]]] [p01 0,p01 0,p10 1,p10 2,p10 3,p10 4,p01 0,p10 6,p10 7,p10 8,p30 0 5 9] kR kR q q
 refine Y9 ?_
 refine zo (λ_=>Zq (cN (off:=15) (N:=32) (aO R42 c015v135) q q a43 s43 q q) q (Zd q q q)) ?_
 refine zo (λ_=>?_) Zt
 refine aN [0,1,2] q q q q (f90_c Y (ky:=ky)) Lw q dC reM ⟨q,q,q,Zt⟩ (ltM q) q (Zw q) q q (λr' new hS=>?_)
 obtain⟨rfl,rfl⟩:=hS
 refine⟨_,_,q,reM,q,(ltM q),?_⟩
 exact Zd q q q
 refine Rxx 1 q (bo ?_)
 obtain rfl:=Oi h
 exact aw (new:=[fN ky t rg fc sl pc c015v135,mP pl,mW H]) (r0:= .d (.tu [])) (bX q) (aY Zt) q ⟨Zp,q,q,Zt⟩ ⟨q,q⟩

theorem f59_c{t:al}{rg:List aa}{fc:List aj}{sl:List (List aa)}{pc:Int}{rr:Nat→aa}{pl:List ((Int×Int)×aa)}{wy:List (Int×(Nat→aa))}{o1:Int}{ky:Nat→Value}{r:Nat}(h:f59 t rg fc sl pc rr pl wy o1=some r):Ctr prog 59 [.pt 0 0, .d (D.i .u8 o1)] [fN ky t rg fc sl pc rr,mP pl,mW wy] (fa 3 (λr' new=>r'= .fn (.func r) [.pt 0 0] []∧new=[fN ky t rg fc sl pc rr,mP pl,mW wy])):=by
 unfold f59 at h
 refine cI func59 λ_ _ _ hmm=>?_
 refine Rcl 12 q ?_
 refine OG 3 8 11 3 3 ?_
 refine Rl 1 q ?_
 refine OG 3 12 15 3 3 ?_
 refine Rlc 3 q (Ci h q (λh=>?_) λh=>?_)
 refine Rcx 10 q ?_
 obtain rfl:=Oi h
 exact aw (new:=[fN ky t rg fc sl pc rr,mP pl,mW wy]) (r0:= .fn (.func 91) [.pt 0 0] []) (rs1 q (aR q)) Zl q ⟨Zp,q,q,Zt⟩ ⟨q,q⟩
 refine Rcl 5 q ?_
 refine OG 3 21 24 3 3 ?_
 refine Rl 1 q ?_
 refine OG 3 25 28 3 3 ?_
 refine Rlc 3 q (Ci h q (λh=>?_) λh=>?_)
 refine Rcx 10 q ?_
 obtain rfl:=Oi h
 exact aw (new:=[fN ky t rg fc sl pc rr,mP pl,mW wy]) (r0:= .fn (.func 92) [.pt 0 0] []) (rs1 q (aR q)) Zl q ⟨Zp,q,q,Zt⟩ ⟨q,q⟩
 refine Rcl 5 q ?_
 refine AG 3 34 37 3 3 ?_
 refine Rlc 3 q (Ci h q (λh=>?_) λh=>?_)
 refine Rcx 10 q ?_
 obtain rfl:=Oi h
 exact aw (new:=[fN ky t rg fc sl pc rr,mP pl,mW wy]) (r0:= .fn (.func 93) [.pt 0 0] []) (rs1 q (aR q)) Zl q ⟨Zp,q,q,Zt⟩ ⟨q,q⟩
 refine Rcl 5 q ?_
 refine OG 3 43 46 3 3 ?_
 refine Rlc 3 q (Ci h q (λh=>?_) λh=>?_)
 refine Rcx 10 q ?_
 obtain rfl:=Oi h
 exact aw (new:=[fN ky t rg fc sl pc rr,mP pl,mW wy]) (r0:= .fn (.func 94) [.pt 0 0] []) (rs1 q (aR q)) Zl q ⟨Zp,q,q,Zt⟩ ⟨q,q⟩
 refine Rcl 5 q ?_
 refine AG 3 52 55 3 3 ?_
 refine Rlc 3 q (Ci h q (λh=>?_) λh=>?_)
 refine Rcx 10 q ?_
 obtain rfl:=Oi h
 exact aw (new:=[fN ky t rg fc sl pc rr,mP pl,mW wy]) (r0:= .fn (.func 95) [.pt 0 0] []) (rs1 q (aR q)) Zl q ⟨Zp,q,q,Zt⟩ ⟨q,q⟩
 refine Rcl 5 q ?_
 refine OG 3 61 64 3 3 ?_
 refine Rl 1 q ?_
 refine OG 3 65 68 3 3 ?_
 refine Rlc 3 q (Ci h q (λh=>?_) λh=>?_)
 refine Rcx 10 q ?_
 obtain rfl:=Oi h
 exact aw (new:=[fN ky t rg fc sl pc rr,mP pl,mW wy]) (r0:= .fn (.func 96) [.pt 0 0] []) (rs1 q (aR q)) Zl q ⟨Zp,q,q,Zt⟩ ⟨q,q⟩
 refine Rcl 3 q (wF Z4 (f97_c) Lw Z3 (Rl 2 q ?_))
 refine OG 3 75 78 3 3 ?_
 refine Rl 1 q ?_
 refine OG 3 79 82 3 3 ?_
 refine Rlc 3 q (Ci h q (λh=>?_) λh=>?_)
 refine Rcx 10 q ?_
 obtain rfl:=Oi h
 exact aw (new:=[fN ky t rg fc sl pc rr,mP pl,mW wy]) (r0:= .fn (.func 98) [.pt 0 0] []) (rs1 q (aR q)) Zl q ⟨Zp,q,q,Zt⟩ ⟨q,q⟩
 refine Rcx 11 q ?_
 obtain rfl:=Oi h
 exact aw (new:=[fN ky t rg fc sl pc rr,mP pl,mW wy]) (r0:= .fn (.func 99) [.pt 0 0] []) (rs1 q (aR q)) Zl q ⟨Zp,q,q,Zt⟩ ⟨q,q⟩

theorem fm_c{n:Nat}{t:al}{rg:List aa}{fc:List aj}{sl:List (List aa)}{pc:Int}{rr:Nat→aa}{pl:List ((Int×Int)×aa)}{wy:List (Int×(Nat→aa))}{x:ao}{ky:Nat→Value}{r:(Nat→aa)×(List ((Int×Int)×aa))×(List (Int×(Nat→aa)))}(h:fm n t rg fc sl pc rr pl wy x=some r):Ctr prog n [.pt 0 0, .d (.ag (R59 x))] [fN ky t rg fc sl pc rr,mP pl,mW wy] (fa 3 (λr' new=>r'= .d (.tu [])∧new=[fN ky t rg fc sl pc r.1,mP r.2.1,mW r.2.2])):=by
 unfold fm at h
 rcases dq h with⟨hn,h⟩|⟨_,h⟩
 have hn:=nbE hn
 subst hn
 obtain⟨r0,hr,h⟩:=ae h
 obtain rfl:=Oi h
 exact dU (f91_c hr (ky:=ky)) (λr1 a hk=>hk)
 rcases dq h with⟨hn,h⟩|⟨_,h⟩
 have hn:=nbE hn
 subst hn
 obtain⟨r0,hr,h⟩:=ae h
 obtain rfl:=Oi h
 exact dU (f92_c hr (ky:=ky)) (λr1 a hk=>hk)
 rcases dq h with⟨hn,h⟩|⟨_,h⟩
 have hn:=nbE hn
 subst hn
 obtain⟨r0,hr,h⟩:=ae h
 obtain rfl:=Oi h
 exact dU (f93_c hr (ky:=ky)) (λr1 a hk=>hk)
 rcases dq h with⟨hn,h⟩|⟨_,h⟩
 have hn:=nbE hn
 subst hn
 obtain⟨r0,hr,h⟩:=ae h
 obtain rfl:=Oi h
 exact dU (f94_c hr (ky:=ky)) (λr1 a hk=>hk)
 rcases dq h with⟨hn,h⟩|⟨_,h⟩
 have hn:=nbE hn
 subst hn
 obtain⟨r0,hr,h⟩:=ae h
 obtain rfl:=Oi h
 exact dU (f95_c hr (ky:=ky)) (λr1 a hk=>hk)
 rcases dq h with⟨hn,h⟩|⟨_,h⟩
 have hn:=nbE hn
 subst hn
 obtain⟨r0,hr,h⟩:=ae h
 obtain rfl:=Oi h
 exact dU (f96_c hr (ky:=ky)) (λr1 a hk=>hk)
 rcases dq h with⟨hn,h⟩|⟨_,h⟩
 have hn:=nbE hn
 subst hn
 obtain⟨r0,hr,h⟩:=ae h
 obtain rfl:=Oi h
 exact dU (f98_c hr (ky:=ky)) (λr1 a hk=>hk)
 rcases dq h with⟨hn,h⟩|⟨_,h⟩
 have hn:=nbE hn
 subst hn
 obtain⟨r0,hr,h⟩:=ae h
 obtain rfl:=Oi h
 exact dU (f99_c hr (ky:=ky)) (λr1 a hk=>hk)
 cases h

end Go.Proofs.YtkbpoeellidgeaaGreatDoor
