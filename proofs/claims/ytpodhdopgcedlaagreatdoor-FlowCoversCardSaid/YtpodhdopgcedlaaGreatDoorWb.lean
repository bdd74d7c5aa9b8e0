/- The walks of functions. -/
import Derived.Test.YtpodhdopgcedlaaGreatDoorX
import Derived.Test.YtpodhdopgcedlaaGreatDoorWa
set_option linter.unusedVariables false
set_option linter.unusedSimpArgs false
set_option linter.unusedSectionVars false
set_option linter.unnecessarySimpa false
set_option maxHeartbeats 4000000
set_option maxRecDepth 100000
namespace Go.Proofs.YtpodhdopgcedlaaGreatDoor
open Go.Proofs.Tryz
open Go Go.Sk

theorem f10_c{t0:ah}{a:Int}{r:(List al)×Int}(h:f10 t0 a=some r):Pu prog 10 [.ag (R33 t0), .i .i64 a] (.tu [.sl (List.map E55 r.1), .i .i64 r.2]):=by
 unfold f10 at h
 refine fI func10 λ_ _=>?_
 refine Rcl 2 q (Bd q q (Zs _) q (Rll 8 q ?_))
 obtain⟨e1,ci,h⟩:=ae h
 refine wF Z4 (f31_c _ ci) Lw Z3 (Rl 2 q ?_)
 refine OG 3 21 24 3 3 ?_
 refine Rl 1 q ?_
 apply WL.or 6 (t:=25) (d:=31)
 exact q
 intro e2
 exact Rl 3 q (Zy (ab E64 t0.insns e22 q q Zl) q q q (Rl 2 q (WL.nil ⟨q,[_,_,_,_,_,_],q,q,q⟩)))
 exact Rn 6 6
 refine Rlc 2 q (Ci h q (λh=>Rcx 8 q (FA h)) λh=>?_)
 refine Rcl 6 q ?_
 obtain⟨cj,ck,h⟩:=ay h
 refine WL.inl (us:=[.d (.ag (R33 t0)), .n a]) (λrv st'=>(∃(c:List (Int×lI)),∃(g:List (Int×Int)),∃(p:lI),∃(y:Nat),cj c g p=some r∧Le rv (.ag [.mp 1, .mp 2, .n a])∧SLe st' [.row 71 [.mp 1, .mp 2, .n a],mpO (λx:Int=>Value.int .i64 x) (λx:lI=>AV.d (.sl (List.map E3 x))) c,mpO (λx:Int=>Value.int .i64 x) (λx:Int=>AV.d (D.i .i64 x)) g, .row 71 [.mp 1, .mp 2, .n a], .os 3 1 y (eM E3 p)])) q q q q q ?_ (Zw q) q q ?_
 refine cI func32 λ_ _ _ _=>?_
 refine Rcl 2 q (Bd q q (Zs _) q (Al z71 q (Rll 4 q (WL.s ((dG (α:=lI) (λx:Int=>Value.int .i64 x) (λx:lI=>AV.d (.sl (List.map E3 x)))).does) (Zw q) q q (WL.s ((dG (α:=Int) (λx:Int=>Value.int .i64 x) (λx:Int=>AV.d (D.i .i64 x))).does) (Zw q) q q (Rl 1 q (Zq (ac p71 z71 q q) q (Al z71 q (sS Z6 s71 Z2 (Rlc 2 q ?_))))))))))
 replace h:=ay h
 obtain⟨bo,cl,h⟩:=h
 refine bf (λenv' st'=>∃(O:List (Int×lI)),∃(P:List (Int×Int)),∃(Q:lI),∃(bs:Nat),bo O P Q=some r∧Sub [(4, .pt 0 0),(5, .pt 3 0)] env'∧SLe st' [.row 71 [.d (.v (.map none)), .d (.v (.map none)), .n 0],mpO (λx:Int=>Value.int .i64 x) (λx:lI=>AV.d (.sl (List.map E3 x))) O,mpO (λx:Int=>Value.int .i64 x) (λx:Int=>AV.d (D.i .i64 x)) P, .row 71 [.mp 1, .mp 2, .n a], .os 3 1 bs (eM E3 Q)]) ?_ ?_
 refine Rcl 3 q (WL.s ((NewOs.b (af l43 z3 q dC dC q q q dC)).does) (Zw q) q q (Rlc 4 q ?_))
 refine bq (λn env' st'=>∃(A:List (Int×lI)),∃(R:List (Int×Int)),∃(w:lI),∃(I:Nat),f10_l1 t0 bo n A R w=some r∧Sub [(2, .d (.pc (R33 t0))),(4, .pt 0 0),(5, .pt 3 0),(6, .os 4 I)] env'∧SLe st' [.row 71 [.d (.v (.map none)), .d (.v (.map none)), .n 0],mpO (λx:Int=>Value.int .i64 x) (λx:lI=>AV.d (.sl (List.map E3 x))) A,mpO (λx:Int=>Value.int .i64 x) (λx:Int=>AV.d (D.i .i64 x)) R, .row 71 [.mp 1, .mp 2, .n a], .os 3 1 I (eM E3 w)]) (λn=>n) 9223372036854775808 ⟨([]:List (Int×lI)),([]:List (Int×Int)),[a],_,h,(Sx q (Sx q (Sx q (Sx q (Sub.nil _))))),⟨Zp,q,q,Zp,Zf,Zt⟩⟩ ?_
 rintro n env1 st1 ⟨A,R,w,I,h,hsub,hst⟩
 rcases n with _|n
 rw[f10_l1] at h;cases h
 rw[f10_l1] at h
 refine WC.sub hsub (WC.weak hst ?_)
 refine Rcl 4 q (Zq (bD (aY E3) w e43 q q q) q (Rlc 3 q (Ci h q (λh=>?_) λh=>?_)))
 refine Rcc 2 q ?_
 replace h:=ay h
 obtain⟨cp,cr,h⟩:=h
 refine rx (λenv' st'=>∃(W:List (Int×lI)),∃(X:List (Int×Int)),∃(Y:lI),∃(Z:Nat),cp W X Y=some r∧Sub [(2, .d (.pc (R33 t0))),(4, .pt 0 0),(5, .pt 3 0),(6, .os 4 Z)] env'∧SLe st' [.row 71 [.d (.v (.map none)), .d (.v (.map none)), .n 0],mpO (λx:Int=>Value.int .i64 x) (λx:lI=>AV.d (.sl (List.map E3 x))) W,mpO (λx:Int=>Value.int .i64 x) (λx:Int=>AV.d (D.i .i64 x)) X, .row 71 [.mp 1, .mp 2, .n a], .os 3 1 Z (eM E3 Y)]) ?_ ?_
 refine Rcl 5 q (Zq (bD (aY E3) w e43 q q q) q (Rl 1 q ?_))
 obtain⟨j,b0,h⟩:=ae h
 refine Zq (fk e43 q q q b0) q (Zq (bx (fo:=0) q q q a3 (λ_=>q) b0 q) q (Rll 7 q (Zq (bD (aY E3) w e43 q q q) q (Rl 1 q ?_))))
 replace h:=aT h
 obtain⟨c0,h⟩:=h
 refine WL.s (vD E3 w (h:=(IntKind.i64.wrap ((List.length w:Int) - 1))) e43 q q ⟨_,q⟩ c0) (Zw q) q q (Rll 9 q (Zq (gA (λx:Int=>Value.int .i64 x) (λx:lI=>AV.d (.sl (List.map E3 x))) A (k:=j) (z:=[]) underlying68 underlying3 (KeyF.int .i64) q q q kR (λ_ _ _=>fY) q q) q (Rlc 12 q (Ci h q (λh=>?_) λh=>?_))))
 exact Rcx 3 q (En4 h)
 refine Rcc 3 q ?_
 obtain⟨F,c5,h⟩:=ae h
 apply RT [_,_,_,_,_,_, .u] [6] [[.row 71 [.d (.v (.map none)), .d (.v (.map none)), .n 0],mpO (λx:Int=>Value.int .i64 x) (λx:lI=>AV.d (.sl (List.map E3 x))) (aS A j F),mpO (λx:Int=>Value.int .i64 x) (λx:Int=>AV.d (D.i .i64 x)) R, .row 71 [.mp 1, .mp 2, .n a], .os 3 1 (I+1) (eM E3 (List.take (Int.toNat (IntKind.i64.wrap ((List.length w:Int) - 1))) w))]] [p01 5,p10 0,p01 7,p01 2,p01 7,p20 3 4,p30 1 2 5] kR kR q q
 refine Y5 ?_
 refine zo (λ_=>wF Z4 (f39_c c5) Lw Z3 (Zd q q q)) ?_
 exact zo (λ_=>WL.s0 (cZ (λx:Int=>Value.int .i64 x) (λx:lI=>AV.d (.sl (List.map E3 x))) A (.inr q) underlying68 underlying3 (KeyF.int .i64) q q q q) (Zw q) q (du q q)) Zt
 refine Rxc 1 q (Jn1 (λ_=> [(2, .d (.pc (R33 t0))),(4, .pt 0 0),(5, .pt 3 0),(6, .os 4 (I+1)),(7, .n j)]) (λb1=> [.row 71 [.d (.v (.map none)), .d (.v (.map none)), .n 0],mpO (λx:Int=>Value.int .i64 x) (λx:lI=>AV.d (.sl (List.map E3 x))) (aS A j F),mpO (λx:Int=>Value.int .i64 x) (λx:Int=>AV.d (D.i .i64 x)) b1, .row 71 [.mp 1, .mp 2, .n a], .os 3 1 (I+1) (eM E3 (List.take (Int.toNat (IntKind.i64.wrap ((List.length w:Int) - 1))) w))]) h (λc6 h=>?_) λb1 h=>?_)
 refine Rcl 5 q (Zq (j8 (λx:Int=>Value.int .i64 x) (λx:lI=>AV.d (.sl (List.map E3 x))) (aS A j F) (z:=[]) underlying68 underlying3 (KeyF.int .i64) q q q kR λ_ _ _=>fY) q (Zq (ab E3 (Option.getD (aA (aS A j F) j) []) e43 q q Zl) q (Rlc 4 q (Ln2 (λb2 _=> [(2, .d (.pc (R33 t0))),(4, .pt 0 0),(5, .pt 3 0),(6, .os 4 (I+1)),(7, .n j),(49, .l E3 (Option.getD (aA (aS A j F) j) [])),(50, .n (List.length (Option.getD (aA (aS A j F) j) []):Int)),(51, .n b2)]) (λ_ S=> [.row 71 [.d (.v (.map none)), .d (.v (.map none)), .n 0],mpO (λx:Int=>Value.int .i64 x) (λx:lI=>AV.d (.sl (List.map E3 x))) (aS A j F),mpO (λx:Int=>Value.int .i64 x) (λx:Int=>AV.d (D.i .i64 x)) S, .row 71 [.mp 1, .mp 2, .n a], .os 3 1 (I+1) (eM E3 (List.take (Int.toNat (IntKind.i64.wrap ((List.length w:Int) - 1))) w))]) (f10_l2 A j F c6) h (λ_ _ h=>by rw[f10_l2] at h;cases h) λna b2 S h=>?_))))
 rw[f10_l2] at h
 refine Rcc 6 q (Ci h q (λh=>?_) λh=>?_)
 exact Rcl 6 q (Ix h e43 aZ q Zl q q λe3 _ h=>(Rll 8 q (Zq (eC (λx:Int=>Value.int .i64 x) (λx:Int=>AV.d (D.i .i64 x)) S (z:=0) underlying69 underlying3 (KeyF.int .i64) q q q kR q) q (Rl 1 q (WL.s0 (cZ (λx:Int=>Value.int .i64 x) (λx:Int=>AV.d (D.i .i64 x)) S (.inr q) underlying69 underlying3 (KeyF.int .i64) q q q q) (Zw q) q (Rlx 7 q (Fn2 h)))))))
 exact Rcx 4 q (En1 h)
 refine Rcl 5 q (Zq (j8 (λx:Int=>Value.int .i64 x) (λx:lI=>AV.d (.sl (List.map E3 x))) (aS A j F) (z:=[]) underlying68 underlying3 (KeyF.int .i64) q q q kR λ_ _ _=>fY) q ?_)
 replace h:=aT h
 obtain⟨c7,h⟩:=h
 exact WL.s (bj E3 (List.take (Int.toNat (IntKind.i64.wrap ((List.length w:Int) - 1))) w) (Option.getD (aA (aS A j F) j) []) l43 z3 q dC q q q q (fX Zl aZ λ_=>q) (λ_=>q) (λ_=>q) c7) (Zw q) q q (Rlx 3 q (En4 h))
 rintro env1 st1 ⟨W,X,Y,Z,h,hsub,hst⟩
 subst cr
 dsimp only at h
 refine WE.sub hsub (WE.weak hst ?_)
 exact Fn4 h
 exact Rcx 4 q (En4 h)
 rintro env1 st1 ⟨O,P,Q,bs,h,hsub,hst⟩
 subst cl
 dsimp only at h
 refine WC.sub hsub (WC.weak hst ?_)
 exact Rcl 3 q (sS Z6 s71 Z2 (Rlx 3 q (aG (rs1 q (dL q q a71 s71 q)) ⟨O,P,Q,_,h,Zl,⟨Zp,q,q,Zp,Zf,Zt⟩⟩)))
 rintro rv st1 ⟨c,g,p,y,h,hr,hst⟩
 subst ck
 dsimp only at h
 refine WL.cast 34 q hr (WL.weak hst (Al z71 q (sS Z6 s71 Z2 (Zn (Rcl 3 q (WL.s ((NewOs.b (af l43 z3 q dC dC q q q dC)).does) (Zw q) q q (Rlc 3 q ?_)))))))
 replace h:=ay h
 obtain⟨aa,c8,h⟩:=h
 refine bf (λenv' st'=>∃(N:lI),∃(e:Nat),∃(C:List Nat),aa N=some r∧Sub [(6, .pt 5 0),(7, .os 6 e)] env'∧SLe st' [.row 71 [.mp 1, .mp 2, .n a],mpO (λx:Int=>Value.int .i64 x) (λx:lI=>AV.d (.sl (List.map E3 x))) c,mpO (λx:Int=>Value.int .i64 x) (λx:Int=>AV.d (D.i .i64 x)) g, .row 71 [.mp 1, .mp 2, .n a], .os 3 1 y (eM E3 p), .row 71 [.mp 1, .mp 2, .n a], .os 3 1 e (eM E3 N), .it (.mp 1) (List.length c) C (List.length c)]) ?_ ?_
 refine Rcl 4 q (WL.s (vC (λx:Int=>Value.int .i64 x) (λx:lI=>AV.d (.sl (List.map E3 x))) c underlying68 q q) (Zw q) q q (Rlc 3 q ?_))
 replace h:=rp h
 refine bq (λn env' st'=>∃(G:lI),∃(K:Nat),∃(T:List Nat),AllN c T (f10_m3 a c g) (λ(c':lI)=>(aa c')) G r n∧Sub [(1, .n a),(6, .pt 5 0),(7, .os 6 K),(39, .pt 7 0)] env'∧SLe st' [.row 71 [.mp 1, .mp 2, .n a],mpO (λx:Int=>Value.int .i64 x) (λx:lI=>AV.d (.sl (List.map E3 x))) c,mpO (λx:Int=>Value.int .i64 x) (λx:Int=>AV.d (D.i .i64 x)) g, .row 71 [.mp 1, .mp 2, .n a], .os 3 1 y (eM E3 p), .row 71 [.mp 1, .mp 2, .n a], .os 3 1 K (eM E3 G), .it (.mp 1) (List.length c) T (List.length c)]) (λn=>n) (List.length c) ⟨[a],_,_,h,(Sx q (Sx q (Sx q (Sx q (Sub.nil _))))),⟨Zp,q,q,Zp,Zf,Zp,Zf,Zf,Zt⟩⟩ ?_
 rintro n env1 st1 ⟨G,K,T,h,hsub,hst⟩
 refine WC.sub hsub (WC.weak hst ?_)
 refine Rcl 2 q (vT (λx:Int=>Value.int .i64 x) (λx:lI=>AV.d (.sl (List.map E3 x))) c q q q q q (Zw q) q q (λdd=>?_) λdf J b3 dk=>?_)
 replace h:((aa G))=some r:=tU h dd
 exact Rl 1 q (Zn (Rcc 1 q (cU q (Rcx 4 q (En3 h)))))
 obtain⟨L,dr,rfl,h,hI⟩:=AllN.pick h b3 dk
 rw[f10_m3] at h
 refine Rl 1 q (Zn (Rcc 1 q (bW q (Rcl 5 q (Zq (uf (λx:Int=>Value.int .i64 x) (λx:lI=>AV.d (.sl (List.map E3 x))) c q q q q b3) q (Rll 10 q (WL.split (t:=47) q (λad=>?_) λad=>?_)))))))
 replace h:=dp h ad
 refine Rl 3 q ?_
 obtain⟨ds,dS,h⟩:=ay h
 refine WL.inl (us:=[.ag [.mp 1, .mp 2, .n a], .n (IntKind.i64.wrap (J.1 - 1))]) (λrv st'=>(∃(a0:Bool),ds a0=some dr∧Le rv (.d (D.b a0))∧SLe st' [.row 71 [.mp 1, .mp 2, .n a],mpO (λx:Int=>Value.int .i64 x) (λx:lI=>AV.d (.sl (List.map E3 x))) c,mpO (λx:Int=>Value.int .i64 x) (λx:Int=>AV.d (D.i .i64 x)) g, .row 71 [.mp 1, .mp 2, .n a], .os 3 1 y (eM E3 p), .row 71 [.mp 1, .mp 2, .n a], .os 3 1 K (eM E3 G), .it (.mp 1) (List.length c) (T++ [df]) (List.length c), .row 71 [.mp 1, .mp 2, .n a]])) q q q q q ?_ (Wt.yes q q q) q q ?_
 refine cI func33 λ_ _ _ _=>?_
 refine Rcl 2 q (Bx q q q (Rll 8 q (Zq (gA (λx:Int=>Value.int .i64 x) (λx:lI=>AV.d (.sl (List.map E3 x))) c (k:=(IntKind.i64.wrap (J.1 - 1))) (z:=[]) underlying68 underlying3 (KeyF.int .i64) q q q kR (λ_ _ _=>fY) q q) q (Rll 11 q ?_))))
 apply WL.and 4 (t:=15) (d:=19)
 exact q
 intro dT
 exact Rl 1 q (Zy (ab E3 (Option.getD (aA c (IntKind.i64.wrap (J.1 - 1))) []) e43 q q Zl) q q q (Rl 2 q (WL.nil ⟨q,[_,_,_,_],q,q,q⟩)))
 exact Rn 4 4
 refine Rl 1 q ?_
 obtain⟨b4,d0,h⟩:=ae h
 refine Gg 7 20 27 b4 d0 (λh=>?_) (λh=>?_) ?_
 refine Rl 1 q ?_
 obtain⟨e4,b5,h⟩:=ae h
 exact Zy (aj e43 q Zl q (ai b5) (av aZ b5) q) q q q (On 5 7 h)
 exact On 7 7 h
 refine Rl 1 q ?_
 refine AG 6 28 34 6 6 ?_
 refine Rl 1 q ?_
 apply WL.and 7 (t:=35) (d:=42)
 exact q
 intro d1
 exact Rl 4 q (Zy (eC (λx:Int=>Value.int .i64 x) (λx:Int=>AV.d (D.i .i64 x)) g (z:=0) underlying69 underlying3 (KeyF.int .i64) q q q kR q) q q q (Rl 2 q (WL.nil ⟨q,[_,_,_,_,_,_,_],q,q,q⟩)))
 exact Rn 7 7
 exact Rlx 4 q (aG (rs1 q (bR q)) ⟨((b4&&(!decide ((IntKind.i64.wrap ((IntKind.i64.wrap (J.1 - 1))+1))=a)))&&(decide ((Option.getD (aA g (IntKind.i64.wrap ((IntKind.i64.wrap (J.1 - 1))+1))) 0)=1))),h,Zl,⟨Zp,q,q,Zp,Zf,Zp,Zf,Zf,Zp,Zt⟩⟩)
 rintro rv st1 ⟨a0,h,hr,hst⟩
 subst dS
 dsimp only at h
 refine WL.cast 51 q hr (WL.weak hst (Rl 2 q (Zn (Ci h q (λh=>?_) λh=>?_))))
 refine Rcl 3 q (WL.s ((NewOs.b (af l43 z3 q dC dC q q q dC)).does) (Zw q) q q ?_)
 replace h:=aT h
 obtain⟨d',h⟩:=h
 refine WL.s (bj E3 G [J.1] l43 z3 q dC q q q q (Src.own q) (λ_=>q) (λ_=>q) d') (Zw q) q q (Rlx 3 q (WE.drop 8 (env':=[(1, .n a),(6, .pt 5 0),(7, .os 6 (K+1)),(39, .pt 7 0)]) Sb q (au q (au (dF _ (λx:Int=>Value.int .i64 x) (λx:lI=>(.sl (List.map E3 x):D)) _) (au (dF _ _ _ _) Kv))) (Nat.zero_le _) ?_))
 obtain rfl:=Oi h
 exact cw ⟨L,⟨(G++ [J.1]),_,_,hI,(Sx q (Sx q (Sx q (Sx q (Sub.nil _))))),⟨Zp,q,q,Zp,Zf,Zp,Zf,Zf,Zt⟩⟩,Nat.lt_succ_self L⟩
 refine Rcx 2 q (WE.drop 8 (env':=[(1, .n a),(6, .pt 5 0),(7, .os 6 K),(39, .pt 7 0)]) Sb q (au q (au (dF _ (λx:Int=>Value.int .i64 x) (λx:lI=>(.sl (List.map E3 x):D)) _) (au (dF _ _ _ _) Kv))) (Nat.zero_le _) ?_)
 obtain rfl:=Oi h
 exact cw ⟨L,⟨G,_,_,hI,(Sx q (Sx q (Sx q (Sx q (Sub.nil _))))),⟨Zp,q,q,Zp,Zf,Zp,Zf,Zf,Zt⟩⟩,Nat.lt_succ_self L⟩
 replace h:=dq h ad
 refine Rl 6 q (Zn (cU q (Rcx 2 q ?_)))
 obtain rfl:=Oi h
 exact cw ⟨L,⟨G,_,_,hI,(Sx q (Sx q (Sx q (Sx q (Sub.nil _))))),⟨Zp,q,q,Zp,Zf,Zp,Zf,Zf,Zt⟩⟩,Nat.lt_succ_self L⟩
 rintro env1 st1 ⟨N,e,C,h,hsub,hst⟩
 subst c8
 dsimp only at h
 refine WC.sub hsub (WC.weak hst ?_)
 refine Rcl 3 q ?_
 replace h:=aT h
 obtain⟨ec,h⟩:=h
 refine Zq (lE N (l:=1) (h:=(List.length N:Int)) e43 q q ⟨_,q⟩ q ec) q ?_
 obtain⟨f,ee,h⟩:=ae h
 refine dX [6] q q q q (f34t_c _ ee q) Lw q dC (Ro q) ⟨q,Zt⟩ Kv q (λ_=>Kv) (λ_=>(Ro q)) (Zw q) q q (λe5=>?_)
 refine Rll 4 q (WL.s ((dG (α:=Int) (λx:Int=>Value.int .i64 x) (λx:Int=>AV.d (D.i .i64 x))).does) (Zw q) q q (Rlc 3 q (Jn1 (λ_=> [(6, .pt 5 0),(7, .os 6 e),(9, .mp 8)]) (λB=> [.row 71 [.mp 1, .mp 2, .n a],mpO (λx:Int=>Value.int .i64 x) (λx:lI=>AV.d (.sl (List.map E3 x))) c,mpO (λx:Int=>Value.int .i64 x) (λx:Int=>AV.d (D.i .i64 x)) g, .row 71 [.mp 1, .mp 2, .n a], .os 3 1 y (eM E3 p), .row 71 [.mp 1, .mp 2, .n a], .os 3 1 e (eM E3 f), .it (.mp 1) (List.length c) C (List.length c),mpO (λx:Int=>Value.int .i64 x) (λx:Int=>AV.d (D.i .i64 x)) B]) h (λei h=>?_) λB h=>?_)))
 refine Rcl 3 q (Zq (bD (aY E3) f e43 q q q) q (Rlc 4 q (Ln2 (λb6 _=> [(6, .pt 5 0),(7, .os 6 e),(9, .mp 8),(62, .os 6 e),(63, .n (List.length f:Int)),(64, .n b6)]) (λ_ a1=> [.row 71 [.mp 1, .mp 2, .n a],mpO (λx:Int=>Value.int .i64 x) (λx:lI=>AV.d (.sl (List.map E3 x))) c,mpO (λx:Int=>Value.int .i64 x) (λx:Int=>AV.d (D.i .i64 x)) g, .row 71 [.mp 1, .mp 2, .n a], .os 3 1 y (eM E3 p), .row 71 [.mp 1, .mp 2, .n a], .os 3 1 e (eM E3 f), .it (.mp 1) (List.length c) C (List.length c),mpO (λx:Int=>Value.int .i64 x) (λx:Int=>AV.d (D.i .i64 x)) a1]) (f10_l4 f ei) h (λ_ _ h=>by rw[f10_l4] at h;cases h) λn b6 a1 h=>?_)))
 rw[f10_l4] at h
 refine Rcc 6 q (Ci h q (λh=>?_) λh=>?_)
 refine Rcl 7 q ?_
 obtain⟨e6,b7,h⟩:=ae h
 exact Zq (fk e43 q q q b7) q (Zq (bx (fo:=0) q q q a3 (λ_=>q) b7 q) q (Rll 8 q (WL.s0 (cZ (λx:Int=>Value.int .i64 x) (λx:Int=>AV.d (D.i .i64 x)) a1 (.inr q) underlying69 underlying3 (KeyF.int .i64) q q q q) (Zw q) q (Rlx 7 q (Fn2 h)))))
 exact Rcx 4 q (En1 h)
 refine Rcl 3 q (WL.nil_os 12 55 3 q (Rlc 2 q ?_))
 replace h:=ay h
 obtain⟨b8,ej,h⟩:=h
 refine bf (λenv' st'=>∃(a6:List al),∃(a7:Nat),b8 a6=some r∧Sub [(12, .os 9 a7)] env'∧SLe st' [.row 71 [.mp 1, .mp 2, .n a],mpO (λx:Int=>Value.int .i64 x) (λx:lI=>AV.d (.sl (List.map E3 x))) c,mpO (λx:Int=>Value.int .i64 x) (λx:Int=>AV.d (D.i .i64 x)) g, .row 71 [.mp 1, .mp 2, .n a], .os 3 1 y (eM E3 p), .row 71 [.mp 1, .mp 2, .n a], .os 3 1 e (eM E3 f), .it (.mp 1) (List.length c) C (List.length c),mpO (λx:Int=>Value.int .i64 x) (λx:Int=>AV.d (D.i .i64 x)) B, .os 55 3 a7 (eM R55 a6)]) ?_ ?_
 refine Rcl 3 q (Zq (bD (aY E3) f e43 q q q) q (Rlc 4 q ?_))
 refine bq (λn env' st'=>∃(E:Int),∃(H:List al),∃(m:Nat),f10_l5 a c g f B b8 n E H=some r∧Sub [(6, .pt 5 0),(9, .mp 8),(12, .os 9 m),(73, .os 6 e),(74, .n (List.length f:Int)),(75, .n E)] env'∧SLe st' [.row 71 [.mp 1, .mp 2, .n a],mpO (λx:Int=>Value.int .i64 x) (λx:lI=>AV.d (.sl (List.map E3 x))) c,mpO (λx:Int=>Value.int .i64 x) (λx:Int=>AV.d (D.i .i64 x)) g, .row 71 [.mp 1, .mp 2, .n a], .os 3 1 y (eM E3 p), .row 71 [.mp 1, .mp 2, .n a], .os 3 1 e (eM E3 f), .it (.mp 1) (List.length c) C (List.length c),mpO (λx:Int=>Value.int .i64 x) (λx:Int=>AV.d (D.i .i64 x)) B, .os 55 3 m (eM R55 H)]) (λn=>n) (Int.toNat ((List.length f:Int) - 0)+1) ⟨0,[],_,h,(Sx q (Sx q (Sx q (Sx q (Sx q (Sx q (Sub.nil _))))))),⟨Zp,q,q,Zp,Zf,Zp,Zf,Zf,q,Zf,Zt⟩⟩ ?_
 rintro n env1 st1 ⟨E,H,m,h,hsub,hst⟩
 rcases n with _|n
 rw[f10_l5] at h;cases h
 rw[f10_l5] at h
 refine WC.sub hsub (WC.weak hst ?_)
 refine Rcc 6 q (Ci h q (λh=>?_) λh=>?_)
 refine Rcc 2 q (Jn5 (λ_ _ _ _ _=> [(6, .pt 5 0),(9, .mp 8),(12, .os 9 (m+1)),(73, .os 6 e),(74, .n (List.length f:Int)),(75, .n E)]) (λb9 b' c100v218 c101v219 c102v220=> [.row 71 [.mp 1, .mp 2, .n a],mpO (λx:Int=>Value.int .i64 x) (λx:lI=>AV.d (.sl (List.map E3 x))) c,mpO (λx:Int=>Value.int .i64 x) (λx:Int=>AV.d (D.i .i64 x)) g, .row 71 [.mp 1, .mp 2, .n a], .os 3 1 y (eM E3 p), .row 71 [.mp 1, .mp 2, .n a], .os 3 1 e (eM E3 f), .it (.mp 1) (List.length c) C (List.length c),mpO (λx:Int=>Value.int .i64 x) (λx:Int=>AV.d (D.i .i64 x)) B, .os 55 3 (m+1) (eM R55 b9), .row 55 [.n c100v218, .n c101v219, .l E3 c102v220], .row 71 [.mp 1, .mp 2, .n a], .z, .os 55 3 0 (eM R55 b')]) h (λ_ h=>?_) λb9 b' c100v218 c101v219 c102v220 h=>?_)
 refine Rcl 3 q ?_
 obtain⟨M,ca,h⟩:=ae h
 refine Zq (fk e43 q q q ca) q (Zq (bx (fo:=0) q q q a3 (λ_=>q) ca q) q (Rll 8 q (Zq (ac p55 z55 q q) q (Al z55 q (sS Z6 s55 Z2 (Rlc 2 q (Jn1 (λ_=> [(6, .pt 5 0),(9, .mp 8),(12, .os 9 m),(15, .pt 10 0),(73, .os 6 e),(74, .n (List.length f:Int)),(75, .n E)]) (λc101v223=> [.row 71 [.mp 1, .mp 2, .n a],mpO (λx:Int=>Value.int .i64 x) (λx:lI=>AV.d (.sl (List.map E3 x))) c,mpO (λx:Int=>Value.int .i64 x) (λx:Int=>AV.d (D.i .i64 x)) g, .row 71 [.mp 1, .mp 2, .n a], .os 3 1 y (eM E3 p), .row 71 [.mp 1, .mp 2, .n a], .os 3 1 e (eM E3 f), .it (.mp 1) (List.length c) C (List.length c),mpO (λx:Int=>Value.int .i64 x) (λx:Int=>AV.d (D.i .i64 x)) B, .os 55 3 m (eM R55 H), .row 55 [.n M, .n c101v223,sN], .row 71 [.mp 1, .mp 2, .n a]]) h (λel h=>?_) λc101v223 h=>?_)))))))
 refine Rcc 1 q (Ln1 (λ_=> [(6, .pt 5 0),(9, .mp 8),(12, .os 9 m),(15, .pt 10 0),(73, .os 6 e),(74, .n (List.length f:Int)),(75, .n E)]) (λc101v226=> [.row 71 [.mp 1, .mp 2, .n a],mpO (λx:Int=>Value.int .i64 x) (λx:lI=>AV.d (.sl (List.map E3 x))) c,mpO (λx:Int=>Value.int .i64 x) (λx:Int=>AV.d (D.i .i64 x)) g, .row 71 [.mp 1, .mp 2, .n a], .os 3 1 y (eM E3 p), .row 71 [.mp 1, .mp 2, .n a], .os 3 1 e (eM E3 f), .it (.mp 1) (List.length c) C (List.length c),mpO (λx:Int=>Value.int .i64 x) (λx:Int=>AV.d (D.i .i64 x)) B, .os 55 3 m (eM R55 H), .row 55 [.n M, .n c101v226,sN]]) (f10_l6 a c g el) h (λ_ h=>by rw[f10_l6] at h;cases h) λna c101v226 h=>?_)
 rw[f10_l6] at h
 refine Rcl 7 q ?_
 obtain⟨em,en,h⟩:=ay h
 refine WL.inl (us:=[.ag [.mp 1, .mp 2, .n a], .n (IntKind.i64.wrap (c101v226 - 1))]) (λrv st'=>(∃(a8:Bool),em a8=some r∧Le rv (.d (D.b a8))∧SLe st' [.row 71 [.mp 1, .mp 2, .n a],mpO (λx:Int=>Value.int .i64 x) (λx:lI=>AV.d (.sl (List.map E3 x))) c,mpO (λx:Int=>Value.int .i64 x) (λx:Int=>AV.d (D.i .i64 x)) g, .row 71 [.mp 1, .mp 2, .n a], .os 3 1 y (eM E3 p), .row 71 [.mp 1, .mp 2, .n a], .os 3 1 e (eM E3 f), .it (.mp 1) (List.length c) C (List.length c),mpO (λx:Int=>Value.int .i64 x) (λx:Int=>AV.d (D.i .i64 x)) B, .os 55 3 m (eM R55 H), .row 55 [.n M, .n c101v226,sN], .row 71 [.mp 1, .mp 2, .n a]])) q q q q q ?_ (Zw q) q q ?_
 refine cI func33 λ_ _ _ _=>?_
 refine Rcl 2 q (Bx q q q (Rll 8 q (Zq (gA (λx:Int=>Value.int .i64 x) (λx:lI=>AV.d (.sl (List.map E3 x))) c (k:=(IntKind.i64.wrap (c101v226 - 1))) (z:=[]) underlying68 underlying3 (KeyF.int .i64) q q q kR (λ_ _ _=>fY) q q) q (Rll 11 q ?_))))
 apply WL.and 4 (t:=15) (d:=19)
 exact q
 intro dT
 exact Rl 1 q (Zy (ab E3 (Option.getD (aA c (IntKind.i64.wrap (c101v226 - 1))) []) e43 q q Zl) q q q (Rl 2 q (WL.nil ⟨q,[_,_,_,_],q,q,q⟩)))
 exact Rn 4 4
 refine Rl 1 q ?_
 obtain⟨cb,er,h⟩:=ae h
 refine Gg 7 20 27 cb er (λh=>?_) (λh=>?_) ?_
 refine Rl 1 q ?_
 obtain⟨e7,cc,h⟩:=ae h
 exact Zy (aj e43 q Zl q (ai cc) (av aZ cc) q) q q q (On 5 7 h)
 exact On 7 7 h
 refine Rl 1 q ?_
 refine AG 6 28 34 6 6 ?_
 refine Rl 1 q ?_
 apply WL.and 7 (t:=35) (d:=42)
 exact q
 intro d1
 exact Rl 4 q (Zy (eC (λx:Int=>Value.int .i64 x) (λx:Int=>AV.d (D.i .i64 x)) g (z:=0) underlying69 underlying3 (KeyF.int .i64) q q q kR q) q q q (Rl 2 q (WL.nil ⟨q,[_,_,_,_,_,_,_],q,q,q⟩)))
 exact Rn 7 7
 exact Rlx 4 q (aG (rs1 q (bR q)) ⟨((cb&&(!decide ((IntKind.i64.wrap ((IntKind.i64.wrap (c101v226 - 1))+1))=a)))&&(decide ((Option.getD (aA g (IntKind.i64.wrap ((IntKind.i64.wrap (c101v226 - 1))+1))) 0)=1))),h,Zl,⟨Zp,q,q,Zp,Zf,Zp,Zf,Zf,q,Zf,Zp,Zp,Zt⟩⟩)
 rintro rv st1 ⟨a8,h,hr,hst⟩
 subst en
 dsimp only at h
 refine WL.cast 87 q hr (WL.weak hst (Zn (Ci h q (λh=>?_) λh=>?_)))
 exact Rcl 8 q (sS Z6 s3 Z2 (Rlx 2 q (WE.drop 11 (env':=[(6, .pt 5 0),(9, .mp 8),(12, .os 9 m),(15, .pt 10 0),(73, .os 6 e),(74, .n (List.length f:Int)),(75, .n E)]) Sb q (au q (au (dF _ (λx:Int=>Value.int .i64 x) (λx:lI=>(.sl (List.map E3 x):D)) _) (au (dF _ _ _ _) (au q (Lo (au q (Lo (au q (au (dF _ _ _ _) Kv))))))))) (Nat.zero_le _) (Fn1 h))))
 exact Rcx 4 q (En1 h)
 replace h:=ay h
 obtain⟨cd,es,h⟩:=h
 refine bf (λenv' st'=>∃(a':lI),∃(bb:Nat),cd a'=some r∧Sub [(6, .pt 5 0),(9, .mp 8),(12, .os 9 m),(15, .pt 10 0),(73, .os 6 e),(74, .n (List.length f:Int)),(75, .n E)] env'∧SLe st' [.row 71 [.mp 1, .mp 2, .n a],mpO (λx:Int=>Value.int .i64 x) (λx:lI=>AV.d (.sl (List.map E3 x))) c,mpO (λx:Int=>Value.int .i64 x) (λx:Int=>AV.d (D.i .i64 x)) g, .row 71 [.mp 1, .mp 2, .n a], .os 3 1 y (eM E3 p), .row 71 [.mp 1, .mp 2, .n a], .os 3 1 e (eM E3 f), .it (.mp 1) (List.length c) C (List.length c),mpO (λx:Int=>Value.int .i64 x) (λx:Int=>AV.d (D.i .i64 x)) B, .os 55 3 m (eM R55 H), .row 55 [.n M, .n c101v223, .os 12 bb], .row 71 [.mp 1, .mp 2, .n a], .os 3 1 bb (eM E3 a')]) ?_ ?_
 refine Rcl 7 q (Zq (j8 (λx:Int=>Value.int .i64 x) (λx:lI=>AV.d (.sl (List.map E3 x))) c (z:=[]) underlying68 underlying3 (KeyF.int .i64) q q q kR λ_ _ _=>fY) q (Zq (ab E3 (Option.getD (aA c (IntKind.i64.wrap (c101v223 - 1))) []) e43 q q Zl) q (Rlc 4 q (WC.nil_cell 10 2 3 1 q q ?_))))
 refine bq (λna env' st'=>∃(U:Int),∃(V:lI),∃(bk:Nat),f10_l7 c B c101v223 cd na U V=some r∧Sub [(6, .pt 5 0),(9, .mp 8),(12, .os 9 m),(15, .pt 10 0),(73, .os 6 e),(74, .n (List.length f:Int)),(75, .n E),(97, .l E3 (Option.getD (aA c (IntKind.i64.wrap (c101v223 - 1))) [])),(98, .n (List.length (Option.getD (aA c (IntKind.i64.wrap (c101v223 - 1))) []):Int)),(99, .n U)] env'∧SLe st' [.row 71 [.mp 1, .mp 2, .n a],mpO (λx:Int=>Value.int .i64 x) (λx:lI=>AV.d (.sl (List.map E3 x))) c,mpO (λx:Int=>Value.int .i64 x) (λx:Int=>AV.d (D.i .i64 x)) g, .row 71 [.mp 1, .mp 2, .n a], .os 3 1 y (eM E3 p), .row 71 [.mp 1, .mp 2, .n a], .os 3 1 e (eM E3 f), .it (.mp 1) (List.length c) C (List.length c),mpO (λx:Int=>Value.int .i64 x) (λx:Int=>AV.d (D.i .i64 x)) B, .os 55 3 m (eM R55 H), .row 55 [.n M, .n c101v223, .os 12 bk], .row 71 [.mp 1, .mp 2, .n a], .os 3 1 bk (eM E3 V)]) (λn=>n) (Int.toNat ((List.length (Option.getD (aA c (IntKind.i64.wrap (c101v223 - 1))) []):Int) - 0)+1) ⟨0,[],_,h,(Sx q (Sx q (Sx q (Sx q (Sx q (Sx q (Sx q (Sx q (Sx q (Sx q (Sub.nil _))))))))))),⟨Zp,q,q,Zp,Zf,Zp,Zf,Zf,q,Zf,Zp,Zp,Zf,Zt⟩⟩ ?_
 rintro na env1 st1 ⟨U,V,bk,h,hsub,hst⟩
 rcases na with _|na
 rw[f10_l7] at h;cases h
 rw[f10_l7] at h
 refine WC.sub hsub (WC.weak hst ?_)
 refine Rcc 6 q (Ci h q (λh=>?_) λh=>?_)
 refine Rcl 6 q (Ix h e43 aZ q Zl q q λet _ h=>(Rll 9 q (Zq (eC (λx:Int=>Value.int .i64 x) (λx:Int=>AV.d (D.i .i64 x)) B (z:=0) underlying69 underlying3 (KeyF.int .i64) q q q kR q) q (WL.s ((NewOs.b (af l43 z3 q dC dC q q q dC)).does) (Zw q) q q ?_))))
 replace h:=aT h
 obtain⟨ew,h⟩:=h
 exact WL.s (bj E3 V [(Option.getD (aA B et) 0)] l43 z3 q dC q q q q (Src.own q) (λ_=>q) (λ_=>q) ew) (Zw q) q q (Rl 1 q (WL.s0 (bV q q q (cS q) s43 q) (Zw q) q (Rlx 7 q (WE.drop 13 (env':=[(6, .pt 5 0),(9, .mp 8),(12, .os 9 m),(15, .pt 10 0),(73, .os 6 e),(74, .n (List.length f:Int)),(75, .n E),(97, .l E3 (Option.getD (aA c (IntKind.i64.wrap (c101v223 - 1))) [])),(98, .n (List.length (Option.getD (aA c (IntKind.i64.wrap (c101v223 - 1))) []):Int)),(99, .n (IntKind.i64.wrap (U+1)))]) Sb q (au q (au (dF _ (λx:Int=>Value.int .i64 x) (λx:lI=>(.sl (List.map E3 x):D)) _) (au (dF _ _ _ _) (au q (Lo (au q (Lo (au q (au (dF _ _ _ _) Kv))))))))) (Nat.zero_le _) (Fn3 h)))))
 exact Rcx 4 q (En2 h)
 rintro env1 st1 ⟨a',bb,h,hsub,hst⟩
 subst es
 dsimp only at h
 refine WC.sub hsub (WC.weak hst ?_)
 refine Rcl 4 q ?_
 obtain⟨ex,ey,h⟩:=ae h
 refine dX [12] q q q q (f34_c _ ey) Lw q dC (Ro q) ⟨q,Zt⟩ Kv q (λ_=>Kv) (λ_=>(Ro q)) (Zw q) q q (λe'=>?_)
 refine Rll 4 q ?_
 refine WL.freezeX [113] [(10,2)] 12 _ q (an aZ _) ⟨q,Zt⟩ ⟨_,_,q,q,Zt⟩ (Rl 1 q (WL.s ((NewOs.b (af l36 z55 q dC dC q q q dC)).does) (Zw q) q q ?_))
 replace h:=aT h
 obtain⟨e0,h⟩:=h
 exact WL.s (bj R55 H [(al.mk M c101v223 ex)] l36 z55 q dC q q q q (Src.own q) (λ_=>q) (λ_=>q) e0) (Zw q) q q (Rlx 3 q (En5 h))
 exact Rcx 4 q (WE.drop 10 (env':=[(6, .pt 5 0),(9, .mp 8),(12, .os 9 (m+1)),(73, .os 6 e),(74, .n (List.length f:Int)),(75, .n (IntKind.i64.wrap (E+1)))]) Sb q (au q (au (dF _ (λx:Int=>Value.int .i64 x) (λx:lI=>(.sl (List.map E3 x):D)) _) (au (dF _ _ _ _) (au q (Lo (au q (Lo (au q (au (dF _ _ _ _) Kv))))))))) (Nat.zero_le _) (Fn3 h))
 exact Rcx 4 q (En2 h)
 rintro env1 st1 ⟨a6,a7,h,hsub,hst⟩
 subst ej
 dsimp only at h
 refine WC.sub hsub (WC.weak hst ?_)
 refine Rcx 8 q ?_
 exact WE.freezeX [12,120,4] [] 9 _ q (an cJ _) ⟨q,q,q,Zt⟩ Zt (FA h)

theorem f27_c{l0:lI}{n1:Int}{r:Bool}(h:f27 l0 n1=some r):Pu prog 27 [.sl (List.map E3 l0), .i .i64 n1] (.b r):=by
 unfold f27 at h
 refine fI func27 λ_ _=>?_
 refine Rcc 5 q (Jn0 [] [] h (λc h=>?_) λh=>?_)
 refine Rcc 6 q (Ln1 (λa=> [(0, .l E3 l0),(1, .n n1),(5, .n a)]) (λ_=> []) (f27_l1 l0 n1 c) h (λ_ h=>by rw[f27_l1] at h;cases h) λn a h=>?_)
 rw[f27_l1] at h
 refine Rcl 5 q (Zq (ab E3 l0 e43 q q Zl) q (Rlc 3 q (Ci h q (λh=>?_) λh=>?_)))
 refine Rcl 8 q (Ix h e43 aZ q Zl q q λd _ h=>(Rlc 5 q (Ci h q (λh=>?_) λh=>?_)))
 exact Rcx 11 q (FA h)
 exact Rcx 8 q (Fn1 h)
 exact Rcx 4 q (En0 h)
 exact Rcx 6 q (FA h)

theorem f27w_c{l:lI}{n1:Int}{ver:Nat}{r:Bool×lI}(h:f27w l n1=some r):Ctr prog 27 [.os 0 ver, .n n1] [.os 3 1 ver (eM E3 l)] (gy 1 (.b r.1) (λiv=> [.os 3 1 ver (eM E3 r.2)])):=by
 unfold f27w at h
 refine cI func27 λ_ _ _ hmm=>?_
 refine Rcc 5 q (Jn0 [] [.os 3 1 ver (eM E3 l)] h (λd h=>?_) λh=>?_)
 refine Rcc 6 q (Ln1 (λa=> [(0, .os 0 ver),(1, .n n1),(5, .n a)]) (λ_=> [.os 3 1 ver (eM E3 l)]) (f27w_l1 l n1 d) h (λ_ h=>by rw[f27w_l1] at h;cases h) λn a h=>?_)
 rw[f27w_l1] at h
 refine Rcl 5 q (Zq (bD (aY E3) l e43 q q q) q (Rlc 3 q (Ci h q (λh=>?_) λh=>?_)))
 refine Rcl 8 q ?_
 obtain⟨e,c,h⟩:=ae h
 refine Zq (fk e43 q q q c) q (Zq (bx (fo:=0) q q q a3 (λ_=>q) c q) q (Rlc 4 q (Ci h q (λh=>?_) λh=>?_)))
 refine Rcx 11 q ?_
 obtain rfl:=Oi h
 exact eD ver (rs1 q (bR q)) Zl q ⟨Zf,Zt⟩
 exact Rcx 8 q (Fn1 h)
 exact Rcx 4 q (En0 h)
 refine Rcx 6 q ?_
 obtain rfl:=Oi h
 exact eD ver (rs1 q (bR q)) Zl q ⟨Zf,Zt⟩

theorem f8_c{t0:ah}:Pu prog 8 [.ag (R33 t0)] (.b (f8 t0)):=by
 generalize h:f8 t0=r
 unfold f8 at h
 refine fI func8 λ_ _=>?_
 refine Rcl 2 q (Bd q q (Zs _) q (Rll 7 q (Zq (ab E64 t0.insns e22 q q Zl) q (Rl 2 q ?_))))
 apply WL.or 5 (t:=7) (d:=12)
 exact q
 intro a
 exact Rl 2 q (Zy (ab cB t0.handlers e23 q q Zl) q q q (Rl 2 q (WL.nil ⟨q,[_,_,_,_,_],q,q,q⟩)))
 exact Rn 5 5
 refine Rl 1 q ?_
 apply WL.or 5 (t:=13) (d:=18)
 exact q
 intro c
 exact Rl 2 q (Zy (ab dA t0.loops e24 q q Zl) q q q (Rl 2 q (WL.nil ⟨q,[_,_,_,_,_],q,q,q⟩)))
 exact Rn 5 5
 refine Rl 1 q ?_
 apply WL.or 5 (t:=19) (d:=24)
 exact q
 intro e
 exact Rl 2 q (Zy (ab dl t0.selects e25 q q Zl) q q q (Rl 2 q (WL.nil ⟨q,[_,_,_,_,_],q,q,q⟩)))
 exact Rn 5 5
 refine Rl 1 q ?_
 apply WL.or 5 (t:=25) (d:=30)
 exact q
 intro f
 exact Rl 2 q (Zy (ab E43 t0.lists e26 q q Zl) q q q (Rl 2 q (WL.nil ⟨q,[_,_,_,_,_],q,q,q⟩)))
 exact Rn 5 5
 refine Rl 1 q ?_
 apply WL.or 5 (t:=31) (d:=36)
 exact q
 intro g
 exact Rl 2 q (Zy (ab cN t0.objs e27 q q Zl) q q q (Rl 2 q (WL.nil ⟨q,[_,_,_,_,_],q,q,q⟩)))
 exact Rn 5 5
 refine Rl 1 q ?_
 apply WL.or 5 (t:=37) (d:=42)
 exact q
 intro j
 exact Rl 2 q (Zy (ab dI t0.inits e28 q q Zl) q q q (Rl 2 q (WL.nil ⟨q,[_,_,_,_,_],q,q,q⟩)))
 exact Rn 5 5
 refine Rl 1 q ?_
 apply WL.or 5 (t:=43) (d:=48)
 exact q
 intro k
 exact Rl 2 q (Zy (ab E67 t0.tasks e29 q q Zl) q q q (Rl 2 q (WL.nil ⟨q,[_,_,_,_,_],q,q,q⟩)))
 exact Rn 5 5
 refine Rl 1 q ?_
 apply WL.or 5 (t:=49) (d:=54)
 exact q
 intro m
 exact Rl 2 q (Zy (ab cM t0.prots e30 q q Zl) q q q (Rl 2 q (WL.nil ⟨q,[_,_,_,_,_],q,q,q⟩)))
 exact Rn 5 5
 refine Rl 1 q ?_
 apply WL.or 5 (t:=55) (d:=60)
 exact q
 intro p
 exact Rl 2 q (Zy (ab d2 t0.checks e31 q q Zl) q q q (Rl 2 q (WL.nil ⟨q,[_,_,_,_,_],q,q,q⟩)))
 exact Rn 5 5
 exact Rlx 4 q (FB h)

theorem f84_c{t0:ah}{o1:Obj}{r:Bool}(h:f84 t0 o1=some r):Pu prog 84 [.ag (R33 t0), .ag (mY o1)] (.b r):=by
 unfold f84 at h
 refine fI func84 λ_ _=>?_
 refine Rcl 2 q (Bd q q (Zs _) q (Bd q q (Zs _) q (Rll 10 q ?_)))
 refine OG 4 10 14 4 4 ?_
 refine Rl 1 q ?_
 refine OG 6 15 21 6 6 ?_
 refine Rl 1 q ?_
 apply WL.or 10 (t:=22) (d:=32)
 exact q
 intro B
 refine Rl 4 q ?_
 apply WL.and 5 (t:=26) (d:=31)
 exact q
 intro C
 exact Rl 2 q (Zy (ab E3 o1.set_ e43 q q Zl) q q q (Rl 2 q (WL.nil ⟨q,[_,_,_,_,_],q,q,q⟩)))
 exact Rn 5 5
 exact Rn 1 6
 exact Rn 10 10
 refine Rl 1 q ?_
 apply WL.or 13 (t:=33) (d:=46)
 exact q
 intro E
 refine Rl 3 q ?_
 apply WL.and 9 (t:=36) (d:=45)
 exact q
 intro F
 refine Rl 4 q ?_
 refine OG 4 40 44 4 4 ?_
 exact Rn 1 6
 exact Rn 9 9
 exact Rn 1 5
 exact Rn 13 13
 refine Rlc 2 q (Ci h q (λh=>Rcx 7 q (FA h)) λh=>?_)
 refine Rcc 2 q (Jn0 [] [] h (λg h=>?_) λh=>?_)
 refine Rcc 6 q (Ln1 (λa=> [(2, .d (.pc (R33 t0))),(3, .d (.pc (mY o1))),(5, .n a)]) (λ_=> []) (f84_l1 t0 o1 g) h (λ_ h=>by rw[f84_l1] at h;cases h) λn a h=>?_)
 rw[f84_l1] at h
 refine Rcl 6 q (Zq (ab E3 o1.set_ e43 q q Zl) q (Rlc 3 q (Ci h q (λh=>?_) λh=>?_)))
 refine Rcl 9 q (Ix h e43 aZ q Zl q q λG _ h=>(Rll 9 q ?_))
 apply WL.or 6 (t:=61) (d:=67)
 exact q
 intro H
 exact Rl 3 q (Zy (ab cN t0.objs e27 q q Zl) q q q (Rl 2 q (WL.nil ⟨q,[_,_,_,_,_,_],q,q,q⟩)))
 exact Rn 6 6
 refine Rl 1 q ?_
 obtain⟨j,k,h⟩:=ae h
 refine Gg 8 68 76 j k (λh=>?_) (λh=>?_) ?_
 exact On 8 8 h
 refine Rl 3 q ?_
 obtain⟨I,c,h⟩:=ae h
 exact Zy (aj e27 q Zl q (ai c) (av cK c) q) q q q (On 4 8 h)
 refine Rl 1 q ?_
 obtain⟨m,p,h⟩:=ae h
 refine Gg 7 77 84 m p (λh=>?_) (λh=>?_) ?_
 exact On 7 7 h
 refine Rl 3 q ?_
 obtain⟨J,e,h⟩:=ae h
 exact Zy (aj e27 q Zl q (ai e) (av cK e) q) q q q (On 3 7 h)
 refine Rl 1 q ?_
 obtain⟨w,x,h⟩:=ae h
 refine Gg 13 85 98 w x (λh=>?_) (λh=>?_) ?_
 exact On 13 13 h
 refine Rl 3 q ?_
 obtain⟨y,A,h⟩:=ae h
 refine Gg 9 88 97 y A (λh=>?_) (λh=>?_) ?_
 refine Rl 4 q ?_
 obtain⟨K,f,h⟩:=ae h
 exact Zy (aj e43 q Zl q (ai f) (av aZ f) q) q q q (On 4 9 h)
 exact On 9 9 h
 exact On 1 5 h
 exact Rlc 2 q (Ci h q (λh=>Rcx 11 q (FA h)) λh=>Rcx 8 q (Fn1 h))
 exact Rcx 4 q (En0 h)
 exact Rcx 6 q (FA h)

theorem f85_c{t0:ah}{o1:Int}{a:Int}{c:Int}{r:Bool}(h:f85 t0 o1 a c=some r):Pu prog 85 [.ag (R33 t0), .i .i64 o1, .i .i64 a, .i .i64 c] (.b r):=by
 unfold f85 at h
 refine fI func85 λ_ _=>?_
 refine Rcl 2 q (Bd q q (Zs _) q (Rll 8 q ?_))
 apply WL.and 6 (t:=11) (d:=17)
 exact q
 intro j
 exact Rl 3 q (Zy (ab cN t0.objs e27 q q Zl) q q q (Rl 2 q (WL.nil ⟨q,[_,_,_,_,_,_],q,q,q⟩)))
 exact Rn 6 6
 refine Rl 1 q ?_
 refine AG 3 18 21 3 3 ?_
 refine Rl 1 q ?_
 refine AG 3 22 25 3 3 ?_
 refine Rl 1 q ?_
 obtain⟨f,g,h⟩:=ae h
 refine Gg 11 26 37 f g (λh=>?_) (λh=>?_) ?_
 refine Rl 4 q ?_
 obtain⟨k,e,h⟩:=ae h
 exact Zy (aj e27 q Zl q (ai e) (av cK e) q) q q q (On 6 11 h)
 exact On 11 11 h
 exact Rlx 4 q (FA h)

theorem f86_c{o0:Obj}{v1:Int}{r:Bool}(h:f86 o0 v1=some r):Pu prog 86 [.ag (mY o0), .i .i64 v1] (.b r):=by
 unfold f86 at h
 refine fI func86 λ_ _=>?_
 refine Rcl 2 q (Bd q q (Zs _) q (Rlc 11 q (Ci h q (λh=>?_) λh=>?_)))
 refine Rcl 7 q ?_
 refine AG 5 13 18 5 5 ?_
 exact Rlx 5 q (FA h)
 refine Rcc 2 q (Jn0 [(1, .n v1)] [] h (λc h=>?_) λh=>?_)
 refine Rcc 6 q (Ln1 (λa=> [(1, .n v1),(2, .d (.pc (mY o0))),(5, .n a)]) (λ_=> []) (f86_l1 o0 v1 c) h (λ_ h=>by rw[f86_l1] at h;cases h) λn a h=>?_)
 rw[f86_l1] at h
 refine Rcl 6 q (Zq (ab E3 o0.set_ e43 q q Zl) q (Rlc 3 q (Ci h q (λh=>?_) λh=>?_)))
 refine Rcl 10 q (Ix h e43 aZ q Zl q q λe _ h=>(Rlc 5 q (Ci h q (λh=>?_) λh=>?_)))
 exact Rcx 11 q (FA h)
 exact Rcx 8 q (Fn1 h)
 exact Rcx 4 q (En0 h)
 exact Rcx 8 q (FA h)

theorem f50_c{t0:ah}{r:Bool}(h:f50 t0=some r):Pu prog 50 [.ag (R33 t0)] (.b r):=by
 unfold f50 at h
 refine fI func50 λ_ _=>?_
 refine Rcl 2 q (Bd q q (Zs _) q (Rll 8 q (Zq (ab cN t0.objs e27 q q Zl) q (Rl 2 q ?_))))
 refine OG 4 12 16 4 4 ?_
 refine Rl 1 q ?_
 refine OG 4 17 21 4 4 ?_
 refine Rl 1 q ?_
 apply WL.or 5 (t:=22) (d:=27)
 exact q
 intro L
 exact Rl 2 q (Zy (ab dI t0.inits e28 q q Zl) q q q (Rl 2 q (WL.nil ⟨q,[_,_,_,_,_],q,q,q⟩)))
 exact Rn 5 5
 refine Rlc 2 q (Ci h q (λh=>Rcx 7 q (FA h)) λh=>?_)
 refine Rcc 7 q (Jn1 (λa=> [(1, .d (.pc (R33 t0))),(3, .n a)]) (λ_=> []) h (λC h=>?_) λa h=>?_)
 refine Rcc 6 q (Ln2 (λj k=> [(1, .d (.pc (R33 t0))),(3, .n j),(4, .n k)]) (λ_ _=> []) (f50_l1 t0 C) h (λ_ _ h=>by rw[f50_l1] at h;cases h) λn j k h=>?_)
 rw[f50_l1] at h
 refine Rcl 6 q (Zq (ab cN t0.objs e27 q q Zl) q (Rlc 3 q (Ci h q (λh=>?_) λh=>?_)))
 refine Rcc 6 q (aD kR kR (Rq 4 q ?_))
 obtain⟨M,m,h⟩:=ae h
 refine WQ.qn (aj e27 q Zl q (ai m) (av cK m) q) q (Rq 1 q ?_)
 obtain⟨N,E,h⟩:=ae h
 refine WQ.q (YieldsQ.fn q q q q q (f84_c E) Lw) (Zw q) q q (Rq 1 q (WQ.nil (Rxc 1 q (Ci h q (λh=>?_) λh=>?_))))
 exact Rcx 12 q (FA h)
 exact Rcl 7 q (Ix h e27 cK q Zl q q λO _ h=>(Rlx 12 q (Fn2 h)))
 exact Rcx 4 q (En1 h)
 refine Jn0 [(3, .n a)] [] h (λF h=>?_) (λh=>?_)
 refine Rcc 6 q (Ln1 (λc=> [(1, .d (.pc (R33 t0))),(3, .n a),(5, .n c)]) (λ_=> []) (f50_l2 t0 F) h (λ_ h=>by rw[f50_l2] at h;cases h) λn c h=>?_)
 rw[f50_l2] at h
 refine Rcl 6 q (Zq (ab dI t0.inits e28 q q Zl) q (Rlc 3 q (Ci h q (λh=>?_) λh=>?_)))
 refine Rcc 2 q (Jn3 (λ_ _ _=> [(1, .d (.pc (R33 t0))),(3, .n a),(5, .n c)]) (λc00v126 c01v127 c02v128=> [.row 121 [.n c00v126, .n c01v127, .n c02v128]]) h (λG h=>?_) λc00v126 c01v127 c02v128 h=>?_)
 refine Rcl 6 q (Ix h e28 lA q Zl q q λe _ h=>(Rl 1 q (Al z121 q (sS Z6 s121 Z2 (Rlc 4 q (aD kR kR (Rq 5 q ?_)))))))
 obtain⟨P,H,h⟩:=ae h
 refine WQ.q (YieldsQ.fn q q q q q (f85_c H) Lw) (Zw q) q q (Rq 2 q ?_)
 obtain⟨I,p,h⟩:=ae h
 apply WQ.grp 11 (t:=70) (d:=81) (z:=I)
 exact q
 intro f
 have h:=dp p f
 refine Rq 11 q ?_
 obtain rfl:=Oi h
 exact WQ.nil ⟨[_,_,_,_,_,_,_,_,_,_,_],q,q,q⟩
 intro f
 have h:=dq p f
 refine Rq 4 q ?_
 obtain⟨Q,w,h⟩:=ae h
 refine WQ.qy (aj e27 q Zl q (ai w) (av cK w) q) q q q (Rq 3 q ?_)
 obtain⟨R,J,h⟩:=ae h
 refine WQ.q (YieldsQ.fn q q q q q (f86_c J) Lw) (Wt.yes q q q) q q (Rq 2 q ?_)
 obtain rfl:=Oi h
 exact WQ.nil ⟨[_,_,_,_,_,_,_,_,_,_,_],q,q,q⟩
 refine WQ.nil (Rxc 1 q (Ci h q (λh=>?_) λh=>?_))
 exact Rcx 12 q (FA h)
 refine Rcc 8 q (Ln1 (λx=> [(1, .d (.pc (R33 t0))),(3, .n a),(5, .n c),(6, .pt 0 0),(7, .n x)]) (λ_=> [.row 121 [.n e.o, .n e.slot, .n e.v]]) (f50_l3 t0 c G e) h (λ_ h=>by rw[f50_l3] at h;cases h) λna x h=>?_)
 rw[f50_l3] at h
 refine Rcc 8 q (Ci h q (λh=>?_) λh=>?_)
 refine Rcc 5 q (aD kR kR (Rq 3 q ?_))
 obtain⟨S,y,h⟩:=ae h
 refine WQ.qn (aj e28 q Zl q (ai y) (av lA y) q) q (Rq 6 q ?_)
 obtain⟨K,A,h⟩:=ae h
 apply WQ.grp 10 (t:=96) (d:=106) (z:=K)
 exact q
 intro g
 have h:=dp A g
 refine Rq 3 q ?_
 obtain⟨T,B,h⟩:=ae h
 refine WQ.qy (aj e28 q Zl q (ai B) (av lA B) q) q q q (Rq 6 q ?_)
 obtain rfl:=Oi h
 exact WQ.nil ⟨[_,_,_,_,_,_,_,_,_,_],q,q,q⟩
 intro g
 have h:=dq A g
 refine Rq 10 q ?_
 obtain rfl:=Oi h
 exact WQ.nil ⟨[_,_,_,_,_,_,_,_,_,_],q,q,q⟩
 refine WQ.nil (Rxc 1 q (Ci h q (λh=>?_) λh=>?_))
 exact Rcx 15 q (FA h)
 exact Rcx 8 q (Fn1 h)
 exact Rcx 5 q (En3 h)
 exact Rcx 5 q (WE.drop 0 (env':=[(1, .d (.pc (R33 t0))),(3, .n a),(5, .n (IntKind.i64.wrap (c+1)))]) Sb q q (Nat.zero_le _) (Fn1 h))
 exact Rcx 4 q (En0 h)
 exact Rcx 8 q (FA h)

theorem f26_c{t0:ah}{a1:Int}:Pu prog 26 [.ag (R33 t0), .i .i64 a1] (.b (f26 t0 a1)):=by
 generalize h:f26 t0 a1=r
 unfold f26 at h
 refine fI func26 λ_ _=>?_
 refine Rcl 2 q (Bd q q (Zs _) q (Rll 8 q ?_))
 apply WL.and 6 (t:=7) (d:=13)
 exact q
 intro a
 exact Rl 3 q (Zy (ab E64 t0.insns e22 q q Zl) q q q (Rl 2 q (WL.nil ⟨q,[_,_,_,_,_,_],q,q,q⟩)))
 exact Rn 6 6
 exact Rlx 4 q (FB h)

theorem f87_c{t0:ah}{l1:lI}{r:Bool}(h:f87 t0 l1=some r):Pu prog 87 [.ag (R33 t0), .sl (List.map E3 l1)] (.b r):=by
 unfold f87 at h
 refine fI func87 λ_ _=>?_
 refine Rcl 2 q (Bd q q (Zs _) q (Rll 7 q (Zq (ab E3 l1 e43 q q Zl) q (Rlc 3 q (Ci h q (λh=>?_) λh=>?_)))))
 exact Rcx 7 q (FA h)
 refine Rcc 2 q (Jn0 [] [] h (λw h=>?_) λh=>?_)
 refine Rcc 6 q (Ln1 (λe=> [(1, .l E3 l1),(2, .d (.pc (R33 t0))),(5, .n e)]) (λ_=> []) (f87_l1 t0 l1 w) h (λ_ h=>by rw[f87_l1] at h;cases h) λn e h=>?_)
 rw[f87_l1] at h
 refine Rcl 5 q (Zq (ab E3 l1 e43 q q Zl) q (Rlc 3 q (Ci h q (λh=>?_) λh=>?_)))
 refine Rcc 5 q (aD kR kR (Rq 2 q ?_))
 obtain⟨A,f,h⟩:=ae h
 refine WQ.qn (aj e43 q Zl q (ai f) (av aZ f) q) q (Rq 3 q ?_)
 obtain⟨x,g,h⟩:=ae h
 apply WQ.grp 9 (t:=20) (d:=29) (z:=x)
 exact q
 intro a
 have h:=dp g a
 refine Rq 9 q ?_
 obtain rfl:=Oi h
 exact WQ.nil ⟨[_,_,_,_,_,_,_,_,_],q,q,q⟩
 intro a
 have h:=dq g a
 refine Rq 2 q ?_
 obtain⟨B,j,h⟩:=ae h
 refine WQ.qy (aj e43 q Zl q (ai j) (av aZ j) q) q q q (Rq 3 q (WQ.qy (ab cN t0.objs e27 q q Zl) q q q (Rq 2 q ?_)))
 obtain rfl:=Oi h
 exact WQ.nil ⟨[_,_,_,_,_,_,_,_,_],q,q,q⟩
 refine Rq 1 q ?_
 obtain⟨y,k,h⟩:=ae h
 apply WQ.grp 11 (t:=30) (d:=41) (z:=y)
 exact q
 intro c
 have h:=dp k c
 refine Rq 11 q ?_
 obtain rfl:=Oi h
 exact WQ.nil ⟨[_,_,_,_,_,_,_,_,_,_,_],q,q,q⟩
 intro c
 have h:=dq k c
 refine Rq 4 q ?_
 obtain⟨C,m,h⟩:=ae h
 refine WQ.qy (aj e43 q Zl q (ai m) (av aZ m) q) q q q (Rq 1 q ?_)
 obtain⟨E,p,h⟩:=ae h
 refine WQ.qy (aj e27 q Zl q (ai p) (av cK p) q) q q q (Rq 4 q ?_)
 obtain rfl:=Oi h
 exact WQ.nil ⟨[_,_,_,_,_,_,_,_,_,_,_],q,q,q⟩
 refine WQ.nil (Rxc 1 q (Ci h q (λh=>?_) λh=>?_))
 exact Rcx 11 q (FA h)
 exact Rcx 8 q (Fn1 h)
 exact Rcx 4 q (En0 h)
 exact Rcx 6 q (FA h)

theorem f51_c{t0:ah}{r:Bool}(h:f51 t0=some r):Pu prog 51 [.ag (R33 t0)] (.b r):=by
 unfold f51 at h
 refine fI func51 λ_ _=>?_
 refine Rcl 2 q (Bd q q (Zs _) q (Rll 8 q (Zq (ab E67 t0.tasks e29 q q Zl) q (Rl 2 q ?_))))
 apply WL.or 5 (t:=10) (d:=15)
 exact q
 intro A
 exact Rl 2 q (Zy (ab E67 t0.tasks e29 q q Zl) q q q (Rl 2 q (WL.nil ⟨q,[_,_,_,_,_],q,q,q⟩)))
 exact Rn 5 5
 refine Rlc 2 q (Ci h q (λh=>Rcx 7 q (FA h)) λh=>?_)
 refine Rcc 2 q (Jn0 [] [] h (λm h=>?_) λh=>?_)
 refine Rcc 6 q (Ln1 (λc=> [(1, .d (.pc (R33 t0))),(3, .n c)]) (λ_=> []) (f51_l1 t0 m) h (λ_ h=>by rw[f51_l1] at h;cases h) λn c h=>?_)
 rw[f51_l1] at h
 refine Rcl 6 q (Zq (ab E67 t0.tasks e29 q q Zl) q (Rlc 3 q (Ci h q (λh=>?_) λh=>?_)))
 refine Rcc 2 q (Jn4 (λ_ _ _ _=> [(1, .d (.pc (R33 t0))),(3, .n c)]) (λc00v92 c01v93 c02v94 c03v95=> [.row 67 [.n c00v92, .n c01v93, .l jt c02v94, .n c03v95]]) h (λp h=>?_) λc00v92 c01v93 c02v94 c03v95 h=>?_)
 refine Rcl 6 q (Ix h e29 kN q Zl q q λa _ h=>(Rl 1 q (Al z67 q (sS Z6 s67 Z2 (Rll 9 q ?_)))))
 refine OG 4 31 35 4 4 ?_
 refine Rl 1 q ?_
 apply WL.or 6 (t:=36) (d:=42)
 exact q
 intro B
 exact Rl 3 q (WL.fn q q q q (f26_c) Lw (Wt.yes q q q) q q (Rl 2 q (WL.nil ⟨q,[_,_,_,_,_,_],q,q,q⟩)))
 exact Rn 6 6
 refine Rl 1 q ?_
 refine OG 4 43 47 4 4 ?_
 refine Rl 1 q ?_
 refine OG 4 48 52 4 4 ?_
 refine Rl 1 q ?_
 apply WL.or 5 (t:=53) (d:=58)
 exact q
 intro C
 exact Rl 2 q (Zy (ab jt a.entries e65 q q Zl) q q q (Rl 2 q (WL.nil ⟨q,[_,_,_,_,_],q,q,q⟩)))
 exact Rn 5 5
 refine Rlc 2 q (Ci h q (λh=>Rcx 12 q (FA h)) λh=>?_)
 refine Rcc 8 q (Ln1 (λf=> [(1, .d (.pc (R33 t0))),(3, .n c),(4, .pt 0 0),(5, .n f)]) (λ_=> [.row 67 [.n a.prio, .n a.at_, .l jt a.entries, .n a.deadline]]) (f51_l2 t0 p a) h (λ_ h=>by rw[f51_l2] at h;cases h) λna f h=>?_)
 rw[f51_l2] at h
 refine Rcl 6 q (Zq (ab jt a.entries e65 q q Zl) q (Rlc 3 q (Ci h q (λh=>?_) λh=>?_)))
 refine Rcc 5 q (aD kR kR (Rq 4 q ?_))
 obtain⟨E,g,h⟩:=ae h
 refine WQ.qn (aj e65 q Zl q (ai g) (av j6 g) q) q (Rq 2 q ?_)
 obtain⟨F,w,h⟩:=ae h
 refine WQ.q (YieldsQ.fn q q q q q (f87_c w) Lw) (Zw q) q q (Rq 2 q ?_)
 obtain⟨x,j,h⟩:=ae h
 apply WQ.grp 10 (t:=75) (d:=85) (z:=x)
 exact q
 intro e
 have h:=dp j e
 refine Rq 10 q ?_
 obtain rfl:=Oi h
 exact WQ.nil ⟨[_,_,_,_,_,_,_,_,_,_],q,q,q⟩
 intro e
 have h:=dq j e
 refine Rq 4 q ?_
 obtain⟨G,k,h⟩:=ae h
 refine WQ.qy (aj e65 q Zl q (ai k) (av j6 k) q) q q q (Rq 2 q ?_)
 obtain⟨H,y,h⟩:=ae h
 refine WQ.q (YieldsQ.fn q q q q q (f87_c y) Lw) (Wt.yes q q q) q q (Rq 2 q ?_)
 obtain rfl:=Oi h
 exact WQ.nil ⟨[_,_,_,_,_,_,_,_,_,_],q,q,q⟩
 refine WQ.nil (Rxc 1 q (Ci h q (λh=>?_) λh=>?_))
 exact Rcx 15 q (FA h)
 exact Rcx 8 q (Fn1 h)
 exact Rcx 5 q (En4 h)
 exact Rcx 5 q (WE.drop 0 (env':=[(1, .d (.pc (R33 t0))),(3, .n (IntKind.i64.wrap (c+1)))]) Sb q q (Nat.zero_le _) (Fn1 h))
 exact Rcx 4 q (En0 h)
 exact Rcx 6 q (FA h)

theorem f88s_c(e:ah→Int→aL→Int→Int→Option (Int))(t0:ah)(a:Int)(e2:aL)(c:Int)(n4:Int)(y:∀(x0:ah)(x1:Int)(x2:aL)(x3:Int)(x4:Int)(r:Int),e x0 x1 x2 x3 x4=some r→Pu prog 88 [.ag (R33 x0), .i .i64 x1, .ag (kL x2), .i .i64 x3, .i .i64 x4] (.i .i64 r)){r:Int}(h:f88s e t0 a e2 c n4=some r):Pu prog 88 [.ag (R33 t0), .i .i64 a, .ag (kL e2), .i .i64 c, .i .i64 n4] (.i .i64 r):=by
 unfold f88s at h
 refine fI func88 λ_ _=>?_
 refine Rcl 2 q (Bd q q (Zs _) q (Bd q q (Zs _) q (Rll 9 q ?_)))
 refine OG 3 18 21 3 3 ?_
 refine Rlc 2 q (Ci h q (λh=>Rcx 7 q (FA h)) λh=>?_)
 refine Rcl 6 q (Zq (ac p134 tW q q) q (Al tW q (sS Z6 lg Z2 (Rlc 12 q (Jn6 (λf g _ _ _ _=> [(1, .n a),(3, .n c),(4, .n n4),(5, .d (.pc (R33 t0))),(7, .d (.pc (kL e2))),(11, .pt 0 0),(12, .n f),(13, .d (D.b g))]) (λ_ _ c01v176 c02v177 c03v178 c04v179=> [.row 134 [.d (D.i .u8 e2.kind), .d (D.i .u8 c01v176), .n c02v177, .n c03v178, .n c04v179, .n 0, .n 0, .n 0,sN]]) h (λ_ h=>?_) λf g c01v176 c02v177 c03v178 c04v179 h=>?_)))))
 refine Rcc 13 q (Ci h q (λh=>Rcl 4 q (sS Z6 s2 Z2 (Rlx 2 q (En6 h)))) λh=>?_)
 refine Rcc 6 q (Ci h q (λh=>?_) λh=>?_)
 refine Rcl 5 q (sS Z6 s3 Z2 (Rll 7 q (sS Z6 s3 Z2 (Rll 8 q ?_))))
 obtain⟨G,A,h⟩:=ae h
 refine wF Z4 (f85_c A) Lw Z3 (Rl 1 q ?_)
 obtain⟨B,C,h⟩:=ae h
 refine Gg 9 46 55 B C (λh=>?_) (λh=>?_) ?_
 refine Rl 4 q ?_
 obtain⟨H,j,h⟩:=ae h
 exact Zy (aj e27 q Zl q (ai j) (av cK j) q) q q q (On 4 9 h)
 exact On 9 9 h
 exact Rlx 3 q (En6 h)
 refine Rcc 6 q (Ci h q (λh=>?_) λh=>?_)
 refine Rcl 5 q (sS Z6 s2 Z2 (Rll 7 q ?_))
 refine AG 5 64 69 5 5 ?_
 exact Rlx 3 q (En6 h)
 refine Rcc 6 q (Ci h q (λh=>Rcl 3 q (sS Z6 wy Z2 (Rlx 6 q (En6 h)))) λh=>?_)
 refine Rcc 6 q (Ci h q (λh=>?_) λh=>?_)
 refine Rcl 5 q (sS Z6 wy Z2 (Rll 12 q ?_))
 refine AG 4 81 85 4 4 ?_
 exact Rlx 3 q (En6 h)
 refine Jn1 (λk=> [(1, .n a),(3, .n c),(4, .n n4),(5, .d (.pc (R33 t0))),(7, .d (.pc (kL e2))),(11, .pt 0 0),(13, .d (D.b true)),(86, .d (D.b k))]) (λ_=> [.row 134 [.d (D.i .u8 e2.kind), .d (D.i .u8 0), .n 0, .n 0, .n 0, .n 0, .n 0, .n 0,sN]]) h (λ_ h=>?_) (λk h=>?_)
 exact Rcc 6 q (Ci h q (λh=>Rcx 1 q (En1 h)) λh=>Rcx 4 q (En1 h))
 refine Ci h q (λh=>?_) (λh=>?_)
 exact Rcx 4 q (En6 h)
 exact Rcx 8 q (FA h)
 refine Rcl 8 q ?_
 refine AG 6 94 100 6 6 ?_
 refine Rl 1 q ?_
 refine AG 6 101 107 6 6 ?_
 refine Rl 1 q ?_
 refine AG 6 108 114 6 6 ?_
 refine Rl 1 q ?_
 refine AG 4 115 119 4 4 ?_
 refine Rl 1 q ?_
 refine AG 4 120 124 4 4 ?_
 refine Rl 1 q ?_
 refine AG 4 125 129 4 4 ?_
 refine Rll 9 q ?_
 refine OG 3 132 135 3 3 ?_
 refine Rl 1 q ?_
 apply WL.or 6 (t:=136) (d:=142)
 exact q
 intro I
 exact Rl 2 q (Zy (ab dh e2.l iz q q Zl) q q q (Rl 3 q (WL.nil ⟨q,[_,_,_,_,_,_],q,q,q⟩)))
 exact Rn 6 6
 refine Rlc 2 q (Ci h q (λh=>Rcx 7 q (FA h)) λh=>?_)
 refine Rcc 9 q (Jn1 (λm=> [(4, .n m)]) (λ_=> [.row 134 [.d (D.i .u8 e2.kind), .d (D.i .u8 c01v176), .n c02v177, .n c03v178, .n c04v179, .n 0, .n 0, .n 0,sN]]) h (λE h=>?_) λm h=>?_)
 refine Rcc 6 q (Ln2 (λp w=> [(1, .n a),(3, .n c),(4, .n p),(5, .d (.pc (R33 t0))),(7, .d (.pc (kL e2))),(15, .n w)]) (λ_ _=> [.row 134 [.d (D.i .u8 e2.kind), .d (D.i .u8 c01v176), .n c02v177, .n c03v178, .n c04v179, .n 0, .n 0, .n 0,sN]]) (f88s_l1 e t0 a e2 c E) h (λ_ _ h=>by rw[f88s_l1] at h;cases h) λn p w h=>?_)
 rw[f88s_l1] at h
 refine Rcl 6 q (Zq (ab dh e2.l iz q q Zl) q (Rl 2 q ?_))
 refine AG 3 150 153 3 3 ?_
 refine Rlc 2 q (Ci h q (λh=>?_) λh=>?_)
 refine Rcc 4 q (aD kR kR (Rq 5 q ?_))
 obtain⟨J,x,h⟩:=ae h
 refine WQ.qn (aj iz q Zl q (ai x) (av iy x) q) q (Rq 4 q ?_)
 obtain⟨K,F,h⟩:=ae h
 exact WQ.q (YieldsQ.fn q q q q q (y _ _ _ _ _ _ F) Lw) (Zw q) q q (Rq 1 q (WQ.nil (Rxx 7 q (Fn2 h))))
 exact Rcx 4 q (En1 h)
 exact Rcx 7 q (FA h)

theorem f88_c:∀(n:Nat)(x0:ah)(x1:Int)(x2:aL)(x3:Int)(x4:Int){r:Int},f88 n x0 x1 x2 x3 x4=some r→Pu prog 88 [.ag (R33 x0), .i .i64 x1, .ag (kL x2), .i .i64 x3, .i .i64 x4] (.i .i64 r)
 |0,_,_,_,_,_,_,h=>by cases h
 |n+1,x0,x1,x2,x3,x4,_,h=>f88s_c (f88 n) x0 x1 x2 x3 x4 (λx0 x1 x2 x3 x4 _ h=>f88_c n x0 x1 x2 x3 x4 h) h

theorem f89_c{t0:ah}{a1:Int}{r:Bool}(h:f89 t0 a1=some r):Pu prog 89 [.ag (R33 t0), .i .i64 a1] (.b r):=by
 unfold f89 at h
 refine fI func89 λ_ _=>?_
 refine Rcl 2 q (Bd q q (Zs _) q (Rll 7 q (wF Z4 (f26_c) Lw Z3 (Rl 1 q ?_))))
 obtain⟨d,e,h⟩:=ae h
 refine Gg 17 8 25 d e (λh=>?_) (λh=>?_) ?_
 refine Rl 3 q ?_
 obtain⟨j,a,h⟩:=ae h
 refine Zy (aj e22 q Zl q (ai a) (av ef a) q) q q q (Rl 4 q ?_)
 obtain⟨f,g,h⟩:=ae h
 refine Gg 8 16 24 f g (λh=>?_) (λh=>?_) ?_
 exact On 8 8 h
 refine Rl 3 q ?_
 obtain⟨k,c,h⟩:=ae h
 exact Zy (aj e22 q Zl q (ai c) (av ef c) q) q q q (On 4 8 h)
 exact On 1 10 h
 exact On 17 17 h
 exact Rlx 4 q (FA h)

theorem f52_c{t0:ah}{r:Bool}(h:f52 t0=some r):Pu prog 52 [.ag (R33 t0)] (.b r):=by
 unfold f52 at h
 refine fI func52 λ_ _=>?_
 refine Rcl 2 q (Bd q q (Zs _) q (Rll 8 q (Zq (ab cM t0.prots e30 q q Zl) q (Rlc 3 q (Ci h q (λh=>?_) λh=>?_)))))
 exact Rcx 7 q (FA h)
 refine Rcc 2 q (Jn0 [(1, .d (.pc (R33 t0)))] [] h (λx h=>?_) λh=>?_)
 refine Rcc 6 q (Ln1 (λc=> [(1, .d (.pc (R33 t0))),(3, .n c)]) (λ_=> []) (f52_l1 t0 x) h (λ_ h=>by rw[f52_l1] at h;cases h) λn c h=>?_)
 rw[f52_l1] at h
 refine Rcl 6 q (Zq (ab cM t0.prots e30 q q Zl) q (Rlc 3 q (Ci h q (λh=>?_) λh=>?_)))
 refine Rcc 2 q (Jn2 (λ_ _=> [(1, .d (.pc (R33 t0))),(3, .n c)]) (λc00v105 c01v106=> [.row 129 [.n c00v105, .l dh c01v106]]) h (λy h=>?_) λc00v105 c01v106 h=>?_)
 refine Rcl 6 q (Ix h e30 lz q Zl q q λa _ h=>(Rl 1 q (Al z129 q (sS Z6 s129 Z2 (Rll 9 q ?_)))))
 refine OG 4 27 31 4 4 ?_
 refine Rl 1 q ?_
 apply WL.or 5 (t:=32) (d:=37)
 exact q
 intro G
 exact Rl 2 q (Zy (ab dh a.barriers iz q q Zl) q q q (Rl 2 q (WL.nil ⟨q,[_,_,_,_,_],q,q,q⟩)))
 exact Rn 5 5
 refine Rlc 2 q (Ci h q (λh=>Rcx 12 q (FA h)) λh=>?_)
 refine Rcc 8 q (Ln1 (λj=> [(1, .d (.pc (R33 t0))),(3, .n c),(4, .pt 0 0),(5, .n j)]) (λ_=> [.row 129 [.n a.ceiling, .l dh a.barriers]]) (f52_l2 t0 y a) h (λ_ h=>by rw[f52_l2] at h;cases h) λna j h=>?_)
 rw[f52_l2] at h
 refine Rcl 6 q (Zq (ab dh a.barriers iz q q Zl) q (Rlc 3 q (Ci h q (λh=>?_) λh=>?_)))
 refine Rcc 5 q (aD kR kR (Rq 3 q (WQ.qn (ab dh a.barriers iz q q Zl) q (Rq 3 q ?_))))
 obtain⟨H,k,h⟩:=ae h
 refine WQ.qn (aj iz q Zl q (ai k) (av iy k) q) q (Rq 1 q ?_)
 obtain⟨I,A,h⟩:=ae h
 refine WQ.q (YieldsQ.fn q q q q q (f88_c 67 _ _ _ _ _ A) Lw) (Zw q) q q (Rq 1 q (WQ.nil (Rxc 1 q (Ci h q (λh=>?_) λh=>?_))))
 exact Rcx 15 q (FA h)
 exact Rcx 8 q (Fn1 h)
 exact Rcx 5 q (En2 h)
 exact Rcx 5 q (WE.drop 0 (env':=[(1, .d (.pc (R33 t0))),(3, .n (IntKind.i64.wrap (c+1)))]) Sb q q (Nat.zero_le _) (Fn1 h))
 exact Rcx 4 q (En0 h)
 refine Jn0 [] [] h (λB h=>?_) (λh=>?_)
 refine Rcc 6 q (Ln1 (λe=> [(1, .d (.pc (R33 t0))),(6, .n e)]) (λ_=> []) (f52_l3 t0 B) h (λ_ h=>by rw[f52_l3] at h;cases h) λn e h=>?_)
 rw[f52_l3] at h
 refine Rcl 6 q (Zq (ab d2 t0.checks e31 q q Zl) q (Rlc 3 q (Ci h q (λh=>?_) λh=>?_)))
 refine Rcl 9 q (Ix h e31 oP q Zl q q λJ _ h=>(Rl 1 q (Al z137 q (sS Z6 s137 Z2 (Rlc 3 q (aD kR kR (Rq 3 q ?_)))))))
 obtain⟨K,C,h⟩:=ae h
 refine WQ.q (YieldsQ.fn q q q q q (f89_c C) Lw) (Zw q) q q (Rq 2 q ?_)
 obtain⟨E,m,h⟩:=ae h
 apply WQ.grp 15 (t:=73) (d:=88) (z:=E)
 exact q
 intro f
 have h:=dp m f
 refine Rq 15 q ?_
 obtain rfl:=Oi h
 exact WQ.nil ⟨[_,_,_,_,_,_,_,_,_,_,_,_,_,_,_],q,q,q⟩
 intro f
 have h:=dq m f
 refine Rq 3 q ?_
 obtain⟨F,p,h⟩:=ae h
 apply WQ.grp 11 (t:=76) (d:=87) (z:=F)
 exact q
 intro g
 have h:=dp p g
 refine Rq 4 q ?_
 obtain⟨L,w,h⟩:=ae h
 refine WQ.qy (aj e31 q Zl q (ai w) (av oP w) q) q q q (Rq 6 q ?_)
 obtain rfl:=Oi h
 exact WQ.nil ⟨[_,_,_,_,_,_,_,_,_,_,_],q,q,q⟩
 intro g
 have h:=dq p g
 refine Rq 11 q ?_
 obtain rfl:=Oi h
 exact WQ.nil ⟨[_,_,_,_,_,_,_,_,_,_,_],q,q,q⟩
 refine Rq 1 q ?_
 obtain rfl:=Oi h
 exact WQ.nil ⟨[_,_,_,_,_],q,q,q⟩
 refine Rq 1 q ?_
 apply WQ.or 4 (t:=89) (d:=93)
 exact q
 intro M
 exact Rq 4 q (WQ.nil ⟨[_,_,_,_],q,q,q⟩)
 exact Rq 4 q (WQ.nil ⟨[_,_,_,_],q,q,q⟩)
 refine Rq 1 q ?_
 apply WQ.or 4 (t:=94) (d:=98)
 exact q
 intro N
 exact Rq 4 q (WQ.nil ⟨[_,_,_,_],q,q,q⟩)
 exact Rq 4 q (WQ.nil ⟨[_,_,_,_],q,q,q⟩)
 refine WQ.nil (Rxc 1 q (Ci h q (λh=>?_) λh=>?_))
 exact Rcx 11 q (FA h)
 exact Rcx 8 q (WE.drop 0 (env':=[(1, .d (.pc (R33 t0))),(6, .n (IntKind.i64.wrap (e+1)))]) Sb q q (Nat.zero_le _) (Fn1 h))
 exact Rcx 4 q (En0 h)
 exact Rcx 6 q (FA h)

theorem f90_c{t0:ah}{a:Int}{a2:jq}{r:Bool}(h:f90 t0 a a2=some r):Pu prog 90 [.ag (R33 t0), .i .i64 a, .ag (rm a2)] (.b r):=by
 unfold f90 at h
 refine fI func90 λ_ _=>?_
 refine Rcl 2 q (Bd q q (Zs _) q (Bd q q (Zs _) q (Rll 9 q (wF Z4 (f26_c) Lw Z3 (Rl 2 q ?_)))))
 obtain⟨e,f,h⟩:=ae h
 refine Gg 12 12 24 e f (λh=>?_) (λh=>?_) ?_
 exact On 12 12 h
 refine Rl 4 q ?_
 obtain⟨g,j,h⟩:=ae h
 refine Gg 7 16 23 g j (λh=>?_) (λh=>?_) ?_
 refine Rl 4 q ?_
 obtain⟨w,k,h⟩:=ae h
 exact WL.fn q q q q (f85_c k) Lw (Wt.yes q q q) q q (On 2 7 h)
 exact On 7 7 h
 exact On 1 6 h
 refine Rlc 2 q (Ci h q (λh=>Rcx 7 q (FA h)) λh=>?_)
 refine Rcc 16 q (Ci h q (λh=>?_) λh=>?_)
 refine Rcl 6 q ?_
 refine AG 4 32 36 4 4 ?_
 refine Rl 1 q ?_
 refine AG 4 37 41 4 4 ?_
 exact Rlx 6 q (FA h)
 refine Jn1 (λc=> [(1, .n a),(3, .d (.pc (R33 t0))),(5, .d (.pc (rm a2))),(42, .d (D.b c))]) (λ_=> []) h (λ_ h=>?_) (λc h=>?_)
 exact Rcc 6 q (Ci h q (λh=>Rcx 1 q (En1 h)) λh=>Rcx 4 q (En1 h))
 refine Ci h q (λh=>?_) (λh=>?_)
 refine Rcl 6 q ?_
 obtain⟨m,p,h⟩:=ae h
 refine Gg 6 48 54 m p (λh=>?_) (λh=>?_) ?_
 refine Rl 4 q ?_
 obtain⟨x,t,h⟩:=ae h
 exact WL.fn q q q q (f85_c t) Lw (Wt.yes q q q) q q (On 1 6 h)
 exact On 6 6 h
 exact Rlx 6 q (FA h)
 refine Rcl 9 q ?_
 refine AG 4 58 62 4 4 ?_
 refine Rl 1 q ?_
 refine AG 4 63 67 4 4 ?_
 exact Rlx 4 q (FA h)

theorem f53_c{t0:ah}{r:Bool}(h:f53 t0=some r):Pu prog 53 [.ag (R33 t0)] (.b r):=by
 unfold f53 at h
 refine fI func53 λ_ _=>?_
 refine Rcl 2 q (Bd q q (Zs _) q (Rll 8 q (Zq (ab dl t0.selects e25 q q Zl) q (Rl 2 q ?_))))
 apply WL.or 5 (t:=14) (d:=19)
 exact q
 intro N
 exact Rl 2 q (Zy (ab E43 t0.lists e26 q q Zl) q q q (Rl 2 q (WL.nil ⟨q,[_,_,_,_,_],q,q,q⟩)))
 exact Rn 5 5
 refine Rlc 2 q (Ci h q (λh=>Rcx 7 q (FA h)) λh=>?_)
 refine Rcc 2 q (Jn0 [(1, .d (.pc (R33 t0)))] [] h (λC h=>?_) λh=>?_)
 refine Rcc 6 q (Ln1 (λf=> [(1, .d (.pc (R33 t0))),(3, .n f)]) (λ_=> []) (f53_l1 t0 C) h (λ_ h=>by rw[f53_l1] at h;cases h) λn f h=>?_)
 rw[f53_l1] at h
 refine Rcl 6 q (Zq (ab dl t0.selects e25 q q Zl) q (Rlc 3 q (Ci h q (λh=>?_) λh=>?_)))
 refine Rcc 2 q (Jn3 (λ_ _ _=> [(1, .d (.pc (R33 t0))),(3, .n f)]) (λc00v134 c01v135 c02v136=> [.row 101 [.l d4 c00v134, .n c01v135, .n c02v136]]) h (λE h=>?_) λc00v134 c01v135 c02v136 h=>?_)
 refine Rcl 6 q (Ix h e25 oR q Zl q q λa _ h=>(Rl 1 q (Al yN q (sS Z6 zf Z2 (Rll 7 q (Zq (ab d4 a.alts e99 q q Zl) q (Rl 2 q ?_)))))))
 apply WL.or 5 (t:=36) (d:=41)
 exact q
 intro O
 exact Rl 2 q (Zy (ab d4 a.alts e99 q q Zl) q q q (Rl 2 q (WL.nil ⟨q,[_,_,_,_,_],q,q,q⟩)))
 exact Rn 5 5
 refine Rl 1 q ?_
 obtain⟨F,G,h⟩:=ae h
 refine Gg 6 42 48 F G (λh=>?_) (λh=>?_) ?_
 exact On 6 6 h
 refine Rl 3 q ?_
 obtain⟨P,H,h⟩:=ae h
 exact WL.fn q q q q (f85_c H) Lw (Wt.yes q q q) q q (On 2 6 h)
 refine Rl 1 q ?_
 apply WL.or 11 (t:=49) (d:=60)
 exact q
 intro Q
 refine Rl 4 q ?_
 apply WL.and 6 (t:=53) (d:=59)
 exact q
 intro R
 exact Rl 3 q (WL.fn q q q q (f26_c) Lw (Wt.yes q q q) q q (Rl 2 q (WL.nil ⟨q,[_,_,_,_,_,_],q,q,q⟩)))
 exact Rn 6 6
 exact Rn 1 6
 exact Rn 11 11
 refine Rlc 2 q (Ci h q (λh=>Rcx 12 q (FA h)) λh=>?_)
 refine Rcc 8 q (Ln1 (λk=> [(1, .d (.pc (R33 t0))),(3, .n f),(4, .pt 0 0),(5, .n k)]) (λ_=> [.row 101 [.l d4 a.alts, .n a.obj, .n a.else_]]) (f53_l2 t0 E a) h (λ_ h=>by rw[f53_l2] at h;cases h) λna k h=>?_)
 rw[f53_l2] at h
 refine Rcl 6 q (Zq (ab d4 a.alts e99 q q Zl) q (Rlc 3 q (Ci h q (λh=>?_) λh=>?_)))
 refine Rcc 5 q (aD kR kR (Rq 6 q ?_))
 obtain⟨S,m,h⟩:=ae h
 refine WQ.qn (aj e99 q Zl q (ai m) (av oQ m) q) q (Rq 1 q ?_)
 obtain⟨T,I,h⟩:=ae h
 refine WQ.q (YieldsQ.fn q q q q q (f90_c I) Lw) (Zw q) q q (Rq 1 q (WQ.nil (Rxc 1 q (Ci h q (λh=>?_) λh=>?_))))
 exact Rcx 15 q (FA h)
 exact Rcx 8 q (Fn1 h)
 exact Rcx 5 q (En3 h)
 exact Rcx 5 q (WE.drop 0 (env':=[(1, .d (.pc (R33 t0))),(3, .n (IntKind.i64.wrap (f+1)))]) Sb q q (Nat.zero_le _) (Fn1 h))
 exact Rcx 4 q (En0 h)
 refine Jn0 [] [] h (λJ h=>?_) (λh=>?_)
 refine Rcc 6 q (Ln1 (λe=> [(1, .d (.pc (R33 t0))),(6, .n e)]) (λ_=> []) (f53_l3 t0 J) h (λ_ h=>by rw[f53_l3] at h;cases h) λn e h=>?_)
 rw[f53_l3] at h
 refine Rcl 6 q (Zq (ab E43 t0.lists e26 q q Zl) q (Rlc 3 q (Ci h q (λh=>?_) λh=>?_)))
 refine Rcc 2 q (Jn0 [(1, .d (.pc (R33 t0))),(6, .n e)] [] h (λK h=>?_) λh=>?_)
 refine Rcl 6 q (Ix h e26 kO q Zl q q λc _ h=>(Rll 8 q (Zq (ab E3 c e43 q q Zl) q (Rlc 3 q (Ci h q (λh=>?_) λh=>?_)))))
 exact Rcx 12 q (FA h)
 refine Rcc 8 q (Ln1 (λg=> [(1, .d (.pc (R33 t0))),(6, .n e),(7, .l E3 c),(8, .n g)]) (λ_=> []) (f53_l4 t0 K c) h (λ_ h=>by rw[f53_l4] at h;cases h) λna g h=>?_)
 rw[f53_l4] at h
 refine Rcl 5 q (Zq (ab E3 c e43 q q Zl) q (Rlc 3 q (Ci h q (λh=>?_) λh=>?_)))
 refine Rcc 2 q (Jn0 [(1, .d (.pc (R33 t0))),(6, .n e),(7, .l E3 c),(8, .n g)] [] h (λL h=>?_) λh=>?_)
 refine Rcc 3 q (aD kR kR (Rq 2 q ?_))
 obtain⟨U,p,h⟩:=ae h
 refine WQ.qn (aj e43 q Zl q (ai p) (av aZ p) q) q (Rq 3 q ?_)
 obtain⟨M,w,h⟩:=ae h
 apply WQ.grp 9 (t:=104) (d:=113) (z:=M)
 exact q
 intro j
 have h:=dp w j
 refine Rq 9 q ?_
 obtain rfl:=Oi h
 exact WQ.nil ⟨[_,_,_,_,_,_,_,_,_],q,q,q⟩
 intro j
 have h:=dq w j
 refine Rq 2 q ?_
 obtain⟨V,x,h⟩:=ae h
 refine WQ.qy (aj e43 q Zl q (ai x) (av aZ x) q) q q q (Rq 3 q (WQ.qy (ab E67 t0.tasks e29 q q Zl) q q q (Rq 2 q ?_)))
 obtain rfl:=Oi h
 exact WQ.nil ⟨[_,_,_,_,_,_,_,_,_],q,q,q⟩
 refine WQ.nil (Rxc 1 q (Ci h q (λh=>?_) λh=>?_))
 exact Rcx 16 q (FA h)
 refine Rcc 8 q (Ln1 (λy=> [(1, .d (.pc (R33 t0))),(6, .n e),(7, .l E3 c),(8, .n g),(9, .n y)]) (λ_=> []) (f53_l5 c g L) h (λ_ h=>by rw[f53_l5] at h;cases h) λnb y h=>?_)
 rw[f53_l5] at h
 refine Rcc 8 q (Ci h q (λh=>?_) λh=>?_)
 refine Rcc 5 q (aD kR kR (Rq 2 q ?_))
 obtain⟨W,A,h⟩:=ae h
 refine WQ.qn (aj e43 q Zl q (ai A) (av aZ A) q) q (Rq 3 q ?_)
 obtain⟨X,B,h⟩:=ae h
 refine WQ.qn (aj e43 q Zl q (ai B) (av aZ B) q) q (Rq 2 q (WQ.nil (Rxc 1 q (Ci h q (λh=>?_) λh=>?_))))
 exact Rcx 19 q (FA h)
 exact Rcx 8 q (Fn1 h)
 exact Rcx 5 q (En0 h)
 exact Rcx 5 q (Fn1 h)
 exact Rcx 5 q (En0 h)
 exact Rcx 5 q (Fn1 h)
 exact Rcx 4 q (En0 h)
 exact Rcx 6 q (FA h)

theorem f54_c{t0:ah}{r:Bool}(h:f54 t0=some r):Pu prog 54 [.ag (R33 t0)] (.b r):=by
 unfold f54 at h
 refine fI func54 λ_ _=>?_
 refine Rcl 2 q (Bd q q (Zs _) q (Rll 8 q (Zq (ab cB t0.handlers e23 q q Zl) q (Rlc 3 q (Ci h q (λh=>?_) λh=>?_)))))
 exact Rcx 7 q (FA h)
 refine Rcc 2 q (Jn0 [] [] h (λf h=>?_) λh=>?_)
 refine Rcc 6 q (Ln1 (λa=> [(1, .d (.pc (R33 t0))),(3, .n a)]) (λ_=> []) (f54_l1 t0 f) h (λ_ h=>by rw[f54_l1] at h;cases h) λn a h=>?_)
 rw[f54_l1] at h
 refine Rcl 6 q (Zq (ab cB t0.handlers e23 q q Zl) q (Rlc 3 q (Ci h q (λh=>?_) λh=>?_)))
 refine Rcc 2 q (Jn4 (λ_ _ _ _=> [(1, .d (.pc (R33 t0))),(3, .n a)]) (λc00v110 c01v111 c02v112 c03v113=> [.row 140 [.n c00v110, .n c01v111, .n c02v112, .d (D.b c03v113)]]) h (λg h=>?_) λc00v110 c01v111 c02v112 c03v113 h=>?_)
 refine Rcl 6 q (Ix h e23 iw q Zl q q λc _ h=>(Rl 1 q (Al wi q (sS Z6 wx Z2 (Rll 9 q ?_)))))
 refine OG 6 28 34 6 6 ?_
 refine Rl 1 q ?_
 apply WL.or 7 (t:=35) (d:=42)
 exact q
 intro j
 exact Rl 4 q (Zy (ab E64 t0.insns e22 q q Zl) q q q (Rl 2 q (WL.nil ⟨q,[_,_,_,_,_,_,_],q,q,q⟩)))
 exact Rn 7 7
 refine Rl 1 q ?_
 apply WL.or 6 (t:=43) (d:=49)
 exact q
 intro k
 exact Rl 3 q (WL.fn q q q q (f26_c) Lw (Wt.yes q q q) q q (Rl 2 q (WL.nil ⟨q,[_,_,_,_,_,_],q,q,q⟩)))
 exact Rn 6 6
 refine Rl 1 q ?_
 apply WL.or 13 (t:=50) (d:=63)
 exact q
 intro m
 refine Rl 6 q ?_
 refine AG 6 56 62 6 6 ?_
 exact Rn 1 8
 exact Rn 13 13
 refine Rlc 2 q (Ci h q (λh=>Rcx 12 q (FA h)) λh=>?_)
 refine Rcc 8 q (Ln1 (λe=> [(1, .d (.pc (R33 t0))),(3, .n a),(4, .pt 0 0),(5, .n e)]) (λ_=> [.row 140 [.n c.from_, .n c.to, .n c.at_, .d (D.b c.clean)]]) (f54_l2 t0 a g c) h (λ_ h=>by rw[f54_l2] at h;cases h) λna e h=>?_)
 rw[f54_l2] at h
 refine Rcc 8 q (Ci h q (λh=>?_) λh=>?_)
 refine Rcl 9 q (Ix h e23 iw q Zl q q λp _ h=>(Rl 1 q (Al wi q (sS Z6 wx Z2 (Rll 10 q ?_)))))
 refine AG 6 79 85 6 6 ?_
 refine Rll 11 q ?_
 refine OG 6 91 97 6 6 ?_
 refine Rll 8 q ?_
 refine AG 3 100 103 3 3 ?_
 refine Rlc 2 q (Ci h q (λh=>Rcx 15 q (FA h)) λh=>?_)
 exact Rcx 8 q (WE.drop 1 (env':=[(1, .d (.pc (R33 t0))),(3, .n a),(4, .pt 0 0),(5, .n (IntKind.i64.wrap (e+1)))]) Sb q q (Nat.zero_le _) (Fn1 h))
 exact Rcx 5 q (En4 h)
 exact Rcx 5 q (WE.drop 0 (env':=[(1, .d (.pc (R33 t0))),(3, .n (IntKind.i64.wrap (a+1)))]) Sb q q (Nat.zero_le _) (Fn1 h))
 exact Rcx 4 q (En0 h)
 exact Rcx 6 q (FA h)

theorem f55_c{t0:ah}{r:Bool}(h:f55 t0=some r):Pu prog 55 [.ag (R33 t0)] (.b r):=by
 unfold f55 at h
 refine fI func55 λ_ _=>?_
 refine Rcl 2 q (Bd q q (Zs _) q (Rll 8 q (Zq (ab dA t0.loops e24 q q Zl) q (Rlc 3 q (Ci h q (λh=>?_) λh=>?_)))))
 exact Rcx 7 q (FA h)
 refine Rcc 2 q (Jn0 [] [] h (λk h=>?_) λh=>?_)
 refine Rcc 6 q (Ln1 (λe=> [(1, .d (.pc (R33 t0))),(3, .n e)]) (λ_=> []) (f55_l1 t0 k) h (λ_ h=>by rw[f55_l1] at h;cases h) λn e h=>?_)
 rw[f55_l1] at h
 refine Rcl 6 q (Zq (ab dA t0.loops e24 q q Zl) q (Rlc 3 q (Ci h q (λh=>?_) λh=>?_)))
 refine Rcc 2 q (Jn10 (λ_ _ _ _ _ _ _ _ _ _=> [(1, .d (.pc (R33 t0))),(3, .n e)]) (λc00v98 c01v99 c02v100 c10v101 c11v102 c12v103 c13v104 c14v105 c15v106 c16v107=> [.row 142 [.n c00v98, .n c01v99, .n c02v100], .row 64 [.d (D.i .u8 c10v101), .n c11v102, .n c12v103, .n c13v104, .n c14v105, .n c15v106, .n c16v107]]) h (λp h=>?_) λc00v98 c01v99 c02v100 c10v101 c11v102 c12v103 c13v104 c14v105 c15v106 c16v107 h=>?_)
 refine Rcl 6 q (Ix h e24 oO q Zl q q λf _ h=>(Rl 1 q (Al z142 q (sS Z6 s142 Z2 (Rll 8 q (wF Z4 (f26_c) Lw Z3 (Rl 2 q ?_)))))))
 apply WL.or 6 (t:=28) (d:=34)
 exact q
 intro w
 exact Rl 3 q (WL.fn q q q q (f26_c) Lw (Wt.yes q q q) q q (Rl 2 q (WL.nil ⟨q,[_,_,_,_,_,_],q,q,q⟩)))
 exact Rn 6 6
 refine Rl 1 q ?_
 refine OG 6 35 41 6 6 ?_
 refine Rl 1 q ?_
 refine OG 4 42 46 4 4 ?_
 refine Rl 1 q ?_
 refine OG 4 47 51 4 4 ?_
 refine Rlc 2 q (Ci h q (λh=>Rcx 12 q (FA h)) λh=>?_)
 refine Rcl 8 q (Ix h e22 ef q Zl q q λc _ h=>(Rl 1 q (Al z64 q (sS Z6 s64 Z2 (Rll 9 q ?_)))))
 refine AG 4 61 65 4 4 ?_
 refine Rl 1 q ?_
 refine AG 4 66 70 4 4 ?_
 refine Rl 1 q ?_
 refine OG 6 71 77 6 6 ?_
 refine Rlc 2 q (Ci h q (λh=>Rcx 12 q (FA h)) λh=>?_)
 refine Rcc 8 q (Ln1 (λg=> [(1, .d (.pc (R33 t0))),(3, .n e),(4, .pt 0 0),(6, .n g)]) (λ_=> [.row 142 [.n f.head, .n f.back, .n f.bound], .row 64 [.d (D.i .u8 c.op), .n c.d, .n c.a, .n c.b, .n c.n, .n c.m, .n c.to]]) (f55_l2 t0 e n p f c) h (λ_ h=>by rw[f55_l2] at h;cases h) λna g h=>?_)
 rw[f55_l2] at h
 refine Rcc 8 q (Ci h q (λh=>?_) λh=>?_)
 refine Rcc 5 q (aD kR kR (Rq 3 q ?_))
 obtain⟨x,j,h⟩:=ae h
 refine WQ.qn (aj e24 q Zl q (ai j) (av oO j) q) q (Rq 5 q (WQ.nil (Rxc 1 q (Ci h q (λh=>?_) λh=>?_))))
 exact Rcx 15 q (FA h)
 exact Rcx 8 q (Fn1 h)
 exact Rcx 5 q (cw ⟨_,_,_,_,_,_,_,_,_,_,h,Sb,Tv⟩)
 exact Rcx 5 q (WE.drop 0 (env':=[(1, .d (.pc (R33 t0))),(3, .n (IntKind.i64.wrap (e+1)))]) Sb q q (Nat.zero_le _) (Fn1 h))
 exact Rcx 4 q (En0 h)
 exact Rcx 6 q (FA h)

theorem f151_c:Pu prog 151 [] (.sl (List.map yc (f151 ))):=by
 generalize h:f151=r
 unfold f151 at h
 refine fI func151 λ_ _=>?_
 refine Rcl 7 q (Zq (ac aF aq q q) q (Zq (ac aF aq q q) q (WL.s ((NewOs.b (af bL aq q dC dC q q q dC)).does) (Zw q) q q ?_)))
 refine WL.freezeX [3] [] 0 _ q (an aB [fD 68 0 15,fD 78 (-9223372036854775808) 9223372036854775807]) ⟨q,Zt⟩ Zt (Zq (ac bC bv q q) q (Zq (ac aF aq q q) q (Zq (ac aF aq q q) q (WL.s ((NewOs.b (af bL aq q dC dC q q q dC)).does) (Zw q) q q ?_))))
 refine WL.freezeX [7] [] 1 _ q (an aB [fD 68 0 15,fD 65 0 15]) ⟨q,Zt⟩ Zt (Zq (ac bC bv q q) q (Zq (ac aF aq q q) q (Zq (ac aF aq q q) q (Zq (ac aF aq q q) q (WL.s ((NewOs.b (af bL aq q dC dC q q q dC)).does) (Zw q) q q ?_)))))
 refine WL.freezeX [12] [] 2 _ q (an aB [fD 68 0 15,fD 78 0 4095,fD 77 0 65535]) ⟨q,Zt⟩ Zt (Zq (ac bC bv q q) q (Zq (ac aF aq q q) q (Zq (ac aF aq q q) q (Zq (ac aF aq q q) q (WL.s ((NewOs.b (af bL aq q dC dC q q q dC)).does) (Zw q) q q ?_)))))
 refine WL.freezeX [17] [] 3 _ q (an aB [fD 65 0 15,fD 78 0 4095,fD 77 0 65535]) ⟨q,Zt⟩ Zt (Zq (ac bC bv q q) q (Zq (ac aF aq q q) q (Zq (ac aF aq q q) q (Zq (ac aF aq q q) q (Zq (ac aF aq q q) q (Zq (ac aF aq q q) q (WL.s ((NewOs.b (af bL aq q dC dC q q q dC)).does) (Zw q) q q ?_)))))))
 refine WL.freezeX [24] [] 4 _ q (an aB [fD 68 0 15,fD 65 0 15,fD 66 1 65536,fD 78 0 4095,fD 77 0 65535]) ⟨q,Zt⟩ Zt (Zq (ac bC bv q q) q (Zq (ac aF aq q q) q (Zq (ac aF aq q q) q (Zq (ac aF aq q q) q (Zq (ac aF aq q q) q (Zq (ac aF aq q q) q (WL.s ((NewOs.b (af bL aq q dC dC q q q dC)).does) (Zw q) q q ?_)))))))
 refine WL.freezeX [31] [] 5 _ q (an aB [fD 68 0 15,fD 65 0 15,fD 66 1 65536,fD 78 0 4095,fD 77 0 65535]) ⟨q,Zt⟩ Zt (Zq (ac bC bv q q) q (Zq (ac aF aq q q) q (Zq (ac aF aq q q) q (WL.s ((NewOs.b (af bL aq q dC dC q q q dC)).does) (Zw q) q q ?_))))
 refine WL.freezeX [35] [] 6 _ q (an aB [fD 68 0 15,fD 65 0 15]) ⟨q,Zt⟩ Zt (Zq (ac bC bv q q) q (Zq (ac aF aq q q) q (Zq (ac aF aq q q) q (WL.s ((NewOs.b (af bL aq q dC dC q q q dC)).does) (Zw q) q q ?_))))
 refine WL.freezeX [39] [] 7 _ q (an aB [fD 68 0 15,fD 65 0 15]) ⟨q,Zt⟩ Zt (Zq (ac bC bv q q) q (Zq (ac aF aq q q) q (Zq (ac aF aq q q) q (Zq (ac aF aq q q) q (WL.s ((NewOs.b (af bL aq q dC dC q q q dC)).does) (Zw q) q q ?_)))))
 refine WL.freezeX [44] [] 8 _ q (an aB [fD 68 0 15,fD 65 0 15,fD 66 0 15]) ⟨q,Zt⟩ Zt (Zq (ac bC bv q q) q (Zq (ac aF aq q q) q (Zq (ac aF aq q q) q (Zq (ac aF aq q q) q (WL.s ((NewOs.b (af bL aq q dC dC q q q dC)).does) (Zw q) q q ?_)))))
 refine WL.freezeX [49] [] 9 _ q (an aB [fD 68 0 15,fD 65 0 15,fD 66 0 15]) ⟨q,Zt⟩ Zt (Zq (ac bC bv q q) q (Zq (ac aF aq q q) q (Zq (ac aF aq q q) q (Zq (ac aF aq q q) q (WL.s ((NewOs.b (af bL aq q dC dC q q q dC)).does) (Zw q) q q ?_)))))
 refine WL.freezeX [54] [] 10 _ q (an aB [fD 68 0 15,fD 65 0 15,fD 66 0 15]) ⟨q,Zt⟩ Zt (Zq (ac bC bv q q) q (Zq (ac aF aq q q) q (Zq (ac aF aq q q) q (Zq (ac aF aq q q) q (WL.s ((NewOs.b (af bL aq q dC dC q q q dC)).does) (Zw q) q q ?_)))))
 refine WL.freezeX [59] [] 11 _ q (an aB [fD 68 0 15,fD 65 0 15,fD 66 0 15]) ⟨q,Zt⟩ Zt (Zq (ac bC bv q q) q (Zq (ac aF aq q q) q (Zq (ac aF aq q q) q (Zq (ac aF aq q q) q (WL.s ((NewOs.b (af bL aq q dC dC q q q dC)).does) (Zw q) q q ?_)))))
 refine WL.freezeX [64] [] 12 _ q (an aB [fD 68 0 15,fD 65 0 15,fD 66 0 15]) ⟨q,Zt⟩ Zt (Zq (ac bC bv q q) q (Zq (ac aF aq q q) q (Zq (ac aF aq q q) q (Zq (ac aF aq q q) q (WL.s ((NewOs.b (af bL aq q dC dC q q q dC)).does) (Zw q) q q ?_)))))
 refine WL.freezeX [69] [] 13 _ q (an aB [fD 68 0 15,fD 65 0 15,fD 66 0 15]) ⟨q,Zt⟩ Zt (Zq (ac bC bv q q) q (Zq (ac aF aq q q) q (Zq (ac aF aq q q) q (Zq (ac aF aq q q) q (WL.s ((NewOs.b (af bL aq q dC dC q q q dC)).does) (Zw q) q q ?_)))))
 refine WL.freezeX [74] [] 14 _ q (an aB [fD 68 0 15,fD 65 0 15,fD 66 0 15]) ⟨q,Zt⟩ Zt (Zq (ac bC bv q q) q (Zq (ac aF aq q q) q (Zq (ac aF aq q q) q (Zq (ac aF aq q q) q (WL.s ((NewOs.b (af bL aq q dC dC q q q dC)).does) (Zw q) q q ?_)))))
 refine WL.freezeX [79] [] 15 _ q (an aB [fD 68 0 15,fD 65 0 15,fD 66 0 15]) ⟨q,Zt⟩ Zt (Zq (ac bC bv q q) q (Zq (ac aF aq q q) q (Zq (ac aF aq q q) q (Zq (ac aF aq q q) q (WL.s ((NewOs.b (af bL aq q dC dC q q q dC)).does) (Zw q) q q ?_)))))
 refine WL.freezeX [84] [] 16 _ q (an aB [fD 68 0 15,fD 65 0 15,fD 66 0 15]) ⟨q,Zt⟩ Zt (Zq (ac bC bv q q) q (Zq (ac aF aq q q) q (Zq (ac aF aq q q) q (Zq (ac aF aq q q) q (WL.s ((NewOs.b (af bL aq q dC dC q q q dC)).does) (Zw q) q q ?_)))))
 refine WL.freezeX [89] [] 17 _ q (an aB [fD 68 0 15,fD 65 0 15,fD 66 0 15]) ⟨q,Zt⟩ Zt (Zq (ac bC bv q q) q (Zq (ac aF aq q q) q (Zq (ac aF aq q q) q (Zq (ac aF aq q q) q (WL.s ((NewOs.b (af bL aq q dC dC q q q dC)).does) (Zw q) q q ?_)))))
 refine WL.freezeX [94] [] 18 _ q (an aB [fD 68 0 15,fD 65 0 15,fD 66 0 15]) ⟨q,Zt⟩ Zt (Zq (ac bC bv q q) q (Zq (ac aF aq q q) q (Zq (ac aF aq q q) q (Zq (ac aF aq q q) q (WL.s ((NewOs.b (af bL aq q dC dC q q q dC)).does) (Zw q) q q ?_)))))
 refine WL.freezeX [99] [] 19 _ q (an aB [fD 68 0 15,fD 65 0 15,fD 66 0 15]) ⟨q,Zt⟩ Zt (Zq (ac bC bv q q) q (Zq (ac aF aq q q) q (Zq (ac aF aq q q) q (Zq (ac aF aq q q) q (WL.s ((NewOs.b (af bL aq q dC dC q q q dC)).does) (Zw q) q q ?_)))))
 refine WL.freezeX [104] [] 20 _ q (an aB [fD 68 0 15,fD 65 0 15,fD 66 0 15]) ⟨q,Zt⟩ Zt (Zq (ac bC bv q q) q (Zq (ac aF aq q q) q (Zq (ac aF aq q q) q (Zq (ac aF aq q q) q (WL.s ((NewOs.b (af bL aq q dC dC q q q dC)).does) (Zw q) q q ?_)))))
 refine WL.freezeX [109] [] 21 _ q (an aB [fD 68 0 15,fD 65 0 15,fD 66 0 15]) ⟨q,Zt⟩ Zt (Zq (ac bC bv q q) q (Zq (ac aF aq q q) q (Zq (ac aF aq q q) q (Zq (ac aF aq q q) q (WL.s ((NewOs.b (af bL aq q dC dC q q q dC)).does) (Zw q) q q ?_)))))
 refine WL.freezeX [114] [] 22 _ q (an aB [fD 68 0 15,fD 65 0 15,fD 66 0 15]) ⟨q,Zt⟩ Zt (Zq (ac bC bv q q) q (Zq (ac aF aq q q) q (Zq (ac aF aq q q) q (WL.s ((NewOs.b (af bL aq q dC dC q q q dC)).does) (Zw q) q q ?_))))
 refine WL.freezeX [118] [] 23 _ q (an aB [fD 68 0 15,fD 65 0 15]) ⟨q,Zt⟩ Zt (Zq (ac bC bv q q) q (Zq (ac aF aq q q) q (Zq (ac aF aq q q) q (WL.s ((NewOs.b (af bL aq q dC dC q q q dC)).does) (Zw q) q q ?_))))
 refine WL.freezeX [122] [] 24 _ q (an aB [fD 68 0 15,fD 65 0 15]) ⟨q,Zt⟩ Zt (Zq (ac bC bv q q) q (Zq (ac aF aq q q) q (Zq (ac aF aq q q) q (WL.s ((NewOs.b (af bL aq q dC dC q q q dC)).does) (Zw q) q q ?_))))
 refine WL.freezeX [126] [] 25 _ q (an aB [fD 68 0 15,fD 65 0 15]) ⟨q,Zt⟩ Zt (Zq (ac bC bv q q) q (Zq (ac aF aq q q) q (Zq (ac aF aq q q) q (Zq (ac aF aq q q) q (WL.s ((NewOs.b (af bL aq q dC dC q q q dC)).does) (Zw q) q q ?_)))))
 refine WL.freezeX [131] [] 26 _ q (an aB [fD 65 0 15,fD 78 (-9223372036854775808) 9223372036854775807,fD 77 (-9223372036854775808) 9223372036854775807]) ⟨q,Zt⟩ Zt (Zq (ac bC bv q q) q (Zq (ac aF aq q q) q (WL.s ((NewOs.b (af bL aq q dC dC q q q dC)).does) (Zw q) q q ?_)))
 refine WL.freezeX [134] [] 27 _ q (an aB [fD 65 0 15]) ⟨q,Zt⟩ Zt (Zq (ac bC bv q q) q (Zq (ac aF aq q q) q (WL.s ((NewOs.b (af bL aq q dC dC q q q dC)).does) (Zw q) q q ?_)))
 refine WL.freezeX [137] [] 28 _ q (an aB [fD 84 0 65535]) ⟨q,Zt⟩ Zt (Zq (ac bC bv q q) q (Zq (ac aF aq q q) q (Zq (ac aF aq q q) q (WL.s ((NewOs.b (af bL aq q dC dC q q q dC)).does) (Zw q) q q ?_))))
 refine WL.freezeX [141] [] 29 _ q (an aB [fD 65 0 15,fD 84 0 65535]) ⟨q,Zt⟩ Zt (Zq (ac bC bv q q) q (Zq (ac aF aq q q) q (Zq (ac aF aq q q) q (WL.s ((NewOs.b (af bL aq q dC dC q q q dC)).does) (Zw q) q q ?_))))
 refine WL.freezeX [145] [] 30 _ q (an aB [fD 65 0 15,fD 84 0 65535]) ⟨q,Zt⟩ Zt (Zq (ac bC bv q q) q (Zq (ac aF aq q q) q (Zq (ac aF aq q q) q (Zq (ac aF aq q q) q (Zq (ac aF aq q q) q (WL.s ((NewOs.b (af bL aq q dC dC q q q dC)).does) (Zw q) q q ?_))))))
 refine WL.freezeX [151] [] 31 _ q (an aB [fD 65 0 15,fD 78 (-9223372036854775808) 9223372036854775807,fD 77 1 65536,fD 84 0 65535]) ⟨q,Zt⟩ Zt (Zq (ac bC bv q q) q (Zq (ac aF aq q q) q (WL.s ((NewOs.b (af bL aq q dC dC q q q dC)).does) (Zw q) q q ?_)))
 refine WL.freezeX [154] [] 32 _ q (an aB [fD 78 1 64]) ⟨q,Zt⟩ Zt (Zq (ac bC bv q q) q (Zq (ac aF aq q q) q (WL.s ((NewOs.b (af bL aq q dC dC q q q dC)).does) (Zw q) q q ?_)))
 refine WL.freezeX [157] [] 33 _ q (an aB [fD 65 0 15]) ⟨q,Zt⟩ Zt (Zq (ac bC bv q q) q (Zq (ac aF aq q q) q (WL.s ((NewOs.b (af bL aq q dC dC q q q dC)).does) (Zw q) q q ?_)))
 refine WL.freezeX [160] [] 34 _ q (an aB [fD 65 0 15]) ⟨q,Zt⟩ Zt (Zq (ac bC bv q q) q (Zq (ac aF aq q q) q (WL.s ((NewOs.b (af bL aq q dC dC q q q dC)).does) (Zw q) q q ?_)))
 refine WL.freezeX [163] [] 35 _ q (an aB [fD 68 0 15]) ⟨q,Zt⟩ Zt (Zq (ac bC bv q q) q (Zq (ac aF aq q q) q (Zq (ac aF aq q q) q (WL.s ((NewOs.b (af bL aq q dC dC q q q dC)).does) (Zw q) q q ?_))))
 refine WL.freezeX [167] [] 36 _ q (an aB [fD 78 6 7,fD 77 0 65535]) ⟨q,Zt⟩ Zt (Zq (ac bC bv q q) q (Zq (ac aF aq q q) q (WL.s ((NewOs.b (af bL aq q dC dC q q q dC)).does) (Zw q) q q ?_)))
 refine WL.freezeX [170] [] 37 _ q (an aB [fD 68 0 15]) ⟨q,Zt⟩ Zt (Zq (ac bC bv q q) q (Zq (ac aF aq q q) q (WL.s ((NewOs.b (af bL aq q dC dC q q q dC)).does) (Zw q) q q ?_)))
 refine WL.freezeX [173] [] 38 _ q (an aB [fD 65 0 15]) ⟨q,Zt⟩ Zt (Zq (ac bC bv q q) q (Zq (ac bC bv q q) q (Zq (ac bC bv q q) q (Zq (ac aF aq q q) q (WL.s ((NewOs.b (af bL aq q dC dC q q q dC)).does) (Zw q) q q ?_)))))
 refine WL.freezeX [178] [] 39 _ q (an aB [fD 68 0 15]) ⟨q,Zt⟩ Zt (Zq (ac bC bv q q) q (Zq (ac aF aq q q) q (Zq (ac aF aq q q) q (Zq (ac aF aq q q) q (WL.s ((NewOs.b (af bL aq q dC dC q q q dC)).does) (Zw q) q q ?_)))))
 refine WL.freezeX [183] [] 40 _ q (an aB [fD 68 0 15,fD 78 0 7,fD 77 (-1) 31]) ⟨q,Zt⟩ Zt (Zq (ac bC bv q q) q (Zq (ac aF aq q q) q (WL.s ((NewOs.b (af bL aq q dC dC q q q dC)).does) (Zw q) q q ?_)))
 refine WL.freezeX [186] [] 41 _ q (an aB [fD 78 0 65535]) ⟨q,Zt⟩ Zt (Zq (ac bC bv q q) q (Zq (ac aF aq q q) q (WL.s ((NewOs.b (af bL aq q dC dC q q q dC)).does) (Zw q) q q ?_)))
 refine WL.freezeX [189] [] 42 _ q (an aB [fD 78 0 65535]) ⟨q,Zt⟩ Zt (Zq (ac bC bv q q) q (Zq (ac aF aq q q) q (Zq (ac aF aq q q) q (WL.s ((NewOs.b (af bL aq q dC dC q q q dC)).does) (Zw q) q q ?_))))
 refine WL.freezeX [193] [] 43 _ q (an aB [fD 65 0 15,fD 78 0 65535]) ⟨q,Zt⟩ Zt (Zq (ac bC bv q q) q (Zq (ac aF aq q q) q (WL.s ((NewOs.b (af bL aq q dC dC q q q dC)).does) (Zw q) q q ?_)))
 refine WL.freezeX [196] [] 44 _ q (an aB [fD 65 0 15]) ⟨q,Zt⟩ Zt (Zq (ac bC bv q q) q (Zq (ac aF aq q q) q (WL.s ((NewOs.b (af bL aq q dC dC q q q dC)).does) (Zw q) q q ?_)))
 refine WL.freezeX [199] [] 45 _ q (an aB [fD 65 0 15]) ⟨q,Zt⟩ Zt (Zq (ac bC bv q q) q (Zq (ac aF aq q q) q (Zq (ac aF aq q q) q (Zq (ac aF aq q q) q (Zq (ac aF aq q q) q (Zq (ac aF aq q q) q (WL.s ((NewOs.b (af bL aq q dC dC q q q dC)).does) (Zw q) q q ?_)))))))
 refine WL.freezeX [206] [] 46 _ q (an aB [fD 68 0 15,fD 65 0 31,fD 66 0 7,fD 78 0 4095,fD 77 0 3]) ⟨q,Zt⟩ Zt (Zq (ac bC bv q q) q (Zq (ac aF aq q q) q (WL.s ((NewOs.b (af bL aq q dC dC q q q dC)).does) (Zw q) q q ?_)))
 refine WL.freezeX [209] [] 47 _ q (an aB [fD 78 0 1023]) ⟨q,Zt⟩ Zt (Zq (ac bC bv q q) q (Zq (ac aF aq q q) q (WL.s ((NewOs.b (af bL aq q dC dC q q q dC)).does) (Zw q) q q ?_)))
 refine WL.freezeX [212] [] 48 _ q (an aB [fD 78 0 1]) ⟨q,Zt⟩ Zt (Zq (ac bC bv q q) q (Zq (ac aF aq q q) q (Zq (ac aF aq q q) q (Zq (ac aF aq q q) q (Zq (ac aF aq q q) q (WL.s ((NewOs.b (af bL aq q dC dC q q q dC)).does) (Zw q) q q ?_))))))
 refine WL.freezeX [218] [] 49 _ q (an aB [fD 65 0 31,fD 66 0 7,fD 78 0 1,fD 84 0 65535]) ⟨q,Zt⟩ Zt (Zq (ac bC bv q q) q (Zq (ac aF aq q q) q (WL.s ((NewOs.b (af bL aq q dC dC q q q dC)).does) (Zw q) q q ?_)))
 refine WL.freezeX [221] [] 50 _ q (an aB [fD 78 0 31]) ⟨q,Zt⟩ Zt (Zq (ac bC bv q q) q (Zq (ac aF aq q q) q (Zq (ac aF aq q q) q (Zq (ac aF aq q q) q (Zq (ac aF aq q q) q (Zq (ac aF aq q q) q (WL.s ((NewOs.b (af bL aq q dC dC q q q dC)).does) (Zw q) q q ?_)))))))
 refine WL.freezeX [228] [] 51 _ q (an aB [fD 68 0 15,fD 65 0 15,fD 66 0 3,fD 78 0 31,fD 77 0 7]) ⟨q,Zt⟩ Zt (Zq (ac bC bv q q) q (Zq (ac aF aq q q) q (WL.s ((NewOs.b (af bL aq q dC dC q q q dC)).does) (Zw q) q q ?_)))
 refine WL.freezeX [231] [] 52 _ q (an aB [fD 78 0 31]) ⟨q,Zt⟩ Zt (Zq (ac bC bv q q) q (Zq (ac aF aq q q) q (WL.s ((NewOs.b (af bL aq q dC dC q q q dC)).does) (Zw q) q q ?_)))
 refine WL.freezeX [234] [] 53 _ q (an aB [fD 78 0 65535]) ⟨q,Zt⟩ Zt (Zq (ac bC bv q q) q (Zq (ac bC bv q q) q ?_))
 refine WL.s ((NewOs.b (NewOs.weak (es':=List.map (aY xY) [(Row.mk 1 (bA #[108,105]) [fD 68 0 15,fD 78 (-9223372036854775808) 9223372036854775807]),(Row.mk 2 (bA #[109,118]) [fD 68 0 15,fD 65 0 15]),(Row.mk 3 (bA #[108,100]) [fD 68 0 15,fD 78 0 4095,fD 77 0 65535]),(Row.mk 4 (bA #[115,116]) [fD 65 0 15,fD 78 0 4095,fD 77 0 65535]),(Row.mk 5 (bA #[108,100,120]) [fD 68 0 15,fD 65 0 15,fD 66 1 65536,fD 78 0 4095,fD 77 0 65535]),(Row.mk 6 (bA #[115,116,120]) [fD 68 0 15,fD 65 0 15,fD 66 1 65536,fD 78 0 4095,fD 77 0 65535]),(Row.mk 7 (bA #[108,100,97]) [fD 68 0 15,fD 65 0 15]),(Row.mk 8 (bA #[115,116,97]) [fD 68 0 15,fD 65 0 15]),(Row.mk 9 (bA #[97,100,100]) [fD 68 0 15,fD 65 0 15,fD 66 0 15]),(Row.mk 10 (bA #[115,117,98]) [fD 68 0 15,fD 65 0 15,fD 66 0 15]),(Row.mk 11 (bA #[109,117,108]) [fD 68 0 15,fD 65 0 15,fD 66 0 15]),(Row.mk 12 (bA #[100,105,118]) [fD 68 0 15,fD 65 0 15,fD 66 0 15]),(Row.mk 13 (bA #[114,101,109]) [fD 68 0 15,fD 65 0 15,fD 66 0 15]),(Row.mk 14 (bA #[109,111,100]) [fD 68 0 15,fD 65 0 15,fD 66 0 15]),(Row.mk 15 (bA #[101,113]) [fD 68 0 15,fD 65 0 15,fD 66 0 15]),(Row.mk 16 (bA #[110,101]) [fD 68 0 15,fD 65 0 15,fD 66 0 15]),(Row.mk 17 (bA #[108,116]) [fD 68 0 15,fD 65 0 15,fD 66 0 15]),(Row.mk 18 (bA #[108,101]) [fD 68 0 15,fD 65 0 15,fD 66 0 15]),(Row.mk 19 (bA #[103,116]) [fD 68 0 15,fD 65 0 15,fD 66 0 15]),(Row.mk 20 (bA #[103,101]) [fD 68 0 15,fD 65 0 15,fD 66 0 15]),(Row.mk 21 (bA #[97,110,100]) [fD 68 0 15,fD 65 0 15,fD 66 0 15]),(Row.mk 22 (bA #[111,114]) [fD 68 0 15,fD 65 0 15,fD 66 0 15]),(Row.mk 23 (bA #[120,111,114]) [fD 68 0 15,fD 65 0 15,fD 66 0 15]),(Row.mk 24 (bA #[110,101,103]) [fD 68 0 15,fD 65 0 15]),(Row.mk 25 (bA #[97,98,115]) [fD 68 0 15,fD 65 0 15]),(Row.mk 26 (bA #[110,111,116]) [fD 68 0 15,fD 65 0 15]),(Row.mk 27 (bA #[99,104,107]) [fD 65 0 15,fD 78 (-9223372036854775808) 9223372036854775807,fD 77 (-9223372036854775808) 9223372036854775807]),(Row.mk 28 (bA #[99,104,107,122]) [fD 65 0 15]),(Row.mk 29 (bA #[106,109,112]) [fD 84 0 65535]),(Row.mk 30 (bA #[106,122]) [fD 65 0 15,fD 84 0 65535]),(Row.mk 31 (bA #[106,110,122]) [fD 65 0 15,fD 84 0 65535]),(Row.mk 32 (bA #[106,116]) [fD 65 0 15,fD 78 (-9223372036854775808) 9223372036854775807,fD 77 1 65536,fD 84 0 65535]),(Row.mk 33 (bA #[114,97,105,115,101]) [fD 78 1 64]),(Row.mk 34 (bA #[114,97,105,115,101,114]) [fD 65 0 15]),(Row.mk 35 (bA #[99,111,110,116]) [fD 65 0 15]),(Row.mk 36 (bA #[101,120,99]) [fD 68 0 15]),(Row.mk 37 (bA #[109,97,114,107]) [fD 78 6 7,fD 77 0 65535]),(Row.mk 38 (bA #[103,101,116]) [fD 68 0 15]),(Row.mk 39 (bA #[112,117,116]) [fD 65 0 15]),(Row.mk 40 (bA #[100,101,102,101,114]) []),(Row.mk 41 (bA #[97,108,108,111,119]) []),(Row.mk 42 (bA #[99,108,111,99,107]) [fD 68 0 15]),(Row.mk 43 (bA #[99,111,117,110,116]) [fD 68 0 15,fD 78 0 7,fD 77 (-1) 31]),(Row.mk 44 (bA #[115,116,97,114,116]) [fD 78 0 65535]),(Row.mk 45 (bA #[110,101,118,101,114]) [fD 78 0 65535]),(Row.mk 46 (bA #[97,119,97,105,116]) [fD 65 0 15,fD 78 0 65535]),(Row.mk 47 (bA #[100,101,108,97,121]) [fD 65 0 15]),(Row.mk 48 (bA #[117,110,116,105,108]) [fD 65 0 15]),(Row.mk 49 (bA #[99,97,108,108]) [fD 68 0 15,fD 65 0 31,fD 66 0 7,fD 78 0 4095,fD 77 0 3]),(Row.mk 50 (bA #[115,101,108]) [fD 78 0 1023]),(Row.mk 51 (bA #[100,111,110,101]) [fD 78 0 1]),(Row.mk 52 (bA #[114,101,113]) [fD 65 0 31,fD 66 0 7,fD 78 0 1,fD 84 0 65535]),(Row.mk 53 (bA #[108,111,99,107]) [fD 78 0 31]),(Row.mk 54 (bA #[112,101,110,116]) [fD 68 0 15,fD 65 0 15,fD 66 0 3,fD 78 0 31,fD 77 0 7]),(Row.mk 55 (bA #[117,110,108,111,99,107]) [fD 78 0 31]),(Row.mk 56 (bA #[97,98,111,114,116]) [fD 78 0 65535]),(Row.mk 57 (bA #[101,110,100]) [])]) (af l222 bv q dC dC q q q dC) (by exact⟨Lw,Lw,Lw,Lw,Lw,Lw,Lw,Lw,Lw,Lw,Lw,Lw,Lw,Lw,Lw,Lw,Lw,Lw,Lw,Lw,Lw,Lw,Lw,Lw,Lw,Lw,Lw,Lw,Lw,Lw,Lw,Lw,Lw,Lw,Lw,Lw,Lw,Lw,Lw,⟨Zl,Zl,Le.nil,Zt⟩,⟨Zl,Zl,Le.nil,Zt⟩,Lw,Lw,Lw,Lw,Lw,Lw,Lw,Lw,Lw,Lw,Lw,Lw,Lw,Lw,Lw,⟨Zl,Zl,Le.nil,Zt⟩,Zt⟩))).does) (Zw q) q q ?_
 refine Rlx 4 q ?_
 refine WE.freezeX [0,237] [] 54 _ q (an oN [(Row.mk 1 (bA #[108,105]) [fD 68 0 15,fD 78 (-9223372036854775808) 9223372036854775807]),(Row.mk 2 (bA #[109,118]) [fD 68 0 15,fD 65 0 15]),(Row.mk 3 (bA #[108,100]) [fD 68 0 15,fD 78 0 4095,fD 77 0 65535]),(Row.mk 4 (bA #[115,116]) [fD 65 0 15,fD 78 0 4095,fD 77 0 65535]),(Row.mk 5 (bA #[108,100,120]) [fD 68 0 15,fD 65 0 15,fD 66 1 65536,fD 78 0 4095,fD 77 0 65535]),(Row.mk 6 (bA #[115,116,120]) [fD 68 0 15,fD 65 0 15,fD 66 1 65536,fD 78 0 4095,fD 77 0 65535]),(Row.mk 7 (bA #[108,100,97]) [fD 68 0 15,fD 65 0 15]),(Row.mk 8 (bA #[115,116,97]) [fD 68 0 15,fD 65 0 15]),(Row.mk 9 (bA #[97,100,100]) [fD 68 0 15,fD 65 0 15,fD 66 0 15]),(Row.mk 10 (bA #[115,117,98]) [fD 68 0 15,fD 65 0 15,fD 66 0 15]),(Row.mk 11 (bA #[109,117,108]) [fD 68 0 15,fD 65 0 15,fD 66 0 15]),(Row.mk 12 (bA #[100,105,118]) [fD 68 0 15,fD 65 0 15,fD 66 0 15]),(Row.mk 13 (bA #[114,101,109]) [fD 68 0 15,fD 65 0 15,fD 66 0 15]),(Row.mk 14 (bA #[109,111,100]) [fD 68 0 15,fD 65 0 15,fD 66 0 15]),(Row.mk 15 (bA #[101,113]) [fD 68 0 15,fD 65 0 15,fD 66 0 15]),(Row.mk 16 (bA #[110,101]) [fD 68 0 15,fD 65 0 15,fD 66 0 15]),(Row.mk 17 (bA #[108,116]) [fD 68 0 15,fD 65 0 15,fD 66 0 15]),(Row.mk 18 (bA #[108,101]) [fD 68 0 15,fD 65 0 15,fD 66 0 15]),(Row.mk 19 (bA #[103,116]) [fD 68 0 15,fD 65 0 15,fD 66 0 15]),(Row.mk 20 (bA #[103,101]) [fD 68 0 15,fD 65 0 15,fD 66 0 15]),(Row.mk 21 (bA #[97,110,100]) [fD 68 0 15,fD 65 0 15,fD 66 0 15]),(Row.mk 22 (bA #[111,114]) [fD 68 0 15,fD 65 0 15,fD 66 0 15]),(Row.mk 23 (bA #[120,111,114]) [fD 68 0 15,fD 65 0 15,fD 66 0 15]),(Row.mk 24 (bA #[110,101,103]) [fD 68 0 15,fD 65 0 15]),(Row.mk 25 (bA #[97,98,115]) [fD 68 0 15,fD 65 0 15]),(Row.mk 26 (bA #[110,111,116]) [fD 68 0 15,fD 65 0 15]),(Row.mk 27 (bA #[99,104,107]) [fD 65 0 15,fD 78 (-9223372036854775808) 9223372036854775807,fD 77 (-9223372036854775808) 9223372036854775807]),(Row.mk 28 (bA #[99,104,107,122]) [fD 65 0 15]),(Row.mk 29 (bA #[106,109,112]) [fD 84 0 65535]),(Row.mk 30 (bA #[106,122]) [fD 65 0 15,fD 84 0 65535]),(Row.mk 31 (bA #[106,110,122]) [fD 65 0 15,fD 84 0 65535]),(Row.mk 32 (bA #[106,116]) [fD 65 0 15,fD 78 (-9223372036854775808) 9223372036854775807,fD 77 1 65536,fD 84 0 65535]),(Row.mk 33 (bA #[114,97,105,115,101]) [fD 78 1 64]),(Row.mk 34 (bA #[114,97,105,115,101,114]) [fD 65 0 15]),(Row.mk 35 (bA #[99,111,110,116]) [fD 65 0 15]),(Row.mk 36 (bA #[101,120,99]) [fD 68 0 15]),(Row.mk 37 (bA #[109,97,114,107]) [fD 78 6 7,fD 77 0 65535]),(Row.mk 38 (bA #[103,101,116]) [fD 68 0 15]),(Row.mk 39 (bA #[112,117,116]) [fD 65 0 15]),(Row.mk 40 (bA #[100,101,102,101,114]) []),(Row.mk 41 (bA #[97,108,108,111,119]) []),(Row.mk 42 (bA #[99,108,111,99,107]) [fD 68 0 15]),(Row.mk 43 (bA #[99,111,117,110,116]) [fD 68 0 15,fD 78 0 7,fD 77 (-1) 31]),(Row.mk 44 (bA #[115,116,97,114,116]) [fD 78 0 65535]),(Row.mk 45 (bA #[110,101,118,101,114]) [fD 78 0 65535]),(Row.mk 46 (bA #[97,119,97,105,116]) [fD 65 0 15,fD 78 0 65535]),(Row.mk 47 (bA #[100,101,108,97,121]) [fD 65 0 15]),(Row.mk 48 (bA #[117,110,116,105,108]) [fD 65 0 15]),(Row.mk 49 (bA #[99,97,108,108]) [fD 68 0 15,fD 65 0 31,fD 66 0 7,fD 78 0 4095,fD 77 0 3]),(Row.mk 50 (bA #[115,101,108]) [fD 78 0 1023]),(Row.mk 51 (bA #[100,111,110,101]) [fD 78 0 1]),(Row.mk 52 (bA #[114,101,113]) [fD 65 0 31,fD 66 0 7,fD 78 0 1,fD 84 0 65535]),(Row.mk 53 (bA #[108,111,99,107]) [fD 78 0 31]),(Row.mk 54 (bA #[112,101,110,116]) [fD 68 0 15,fD 65 0 15,fD 66 0 3,fD 78 0 31,fD 77 0 7]),(Row.mk 55 (bA #[117,110,108,111,99,107]) [fD 78 0 31]),(Row.mk 56 (bA #[97,98,111,114,116]) [fD 78 0 65535]),(Row.mk 57 (bA #[101,110,100]) [])]) ⟨q,q,Zt⟩ Zt ?_
 exact FB h

theorem f132_c{o0:Int}{r:Row×Bool}(h:f132 o0=some r):Pu prog 132 [.i .u8 o0] (.tu [.ag (xY r.1), .b r.2]):=by
 unfold f132 at h
 refine fI func132 λ_ _=>?_
 refine Rcl 2 q (Al bv q (Rll 5 q (WL.fn q q q q (f151_c) Zt (Zw q) q q (Rlc 3 q (Jn0 [(2, .pt 0 0)] [.row 190 [.d (D.i .u8 0), .d (D.s ByteArray.empty),sN]] h (λc h=>?_) λh=>?_)))))
 refine Rcc 6 q (Ln1 (λa=> [(0, .d (D.i .u8 o0)),(2, .pt 0 0),(4, .l yc f151),(5, .n a)]) (λ_=> [.row 190 [.d (D.i .u8 0), .d (D.s ByteArray.empty),sN]]) (f132_l1 o0 c) h (λ_ h=>by rw[f132_l1] at h;cases h) λn a h=>?_)
 rw[f132_l1] at h
 refine Rcl 5 q (Zq (ab yc f151 An q q Zl) q (Rlc 3 q (Ci h q (λh=>?_) λh=>?_)))
 refine Rcl 8 q (Ix h An oN q Zl q q λe _ h=>(Rlc 6 q (Ci h q (λh=>?_) λh=>?_)))
 refine Rcl 4 q (Ix h An oN q Zl q q λf _ h=>(Rl 1 q (sS Z6 ut Z2 (Rlx 9 q ?_))))
 obtain rfl:=Oi h
 exact bm (rs2 q (dL q q a190 ut q) (bR q)) (eP ⟨(bc (Zs _)),Zl,Zt⟩)
 exact Rcx 8 q (Fn1 h)
 exact Rcx 4 q (En0 h)
 refine Rcl 2 q (Zq (ac bC bv q q) q (sS Z6 ut Z2 (Rlx 4 q ?_)))
 obtain rfl:=Oi h
 exact bm (rs2 q (dL q q a190 ut q) (bR q)) (eP ⟨(bc ⟨Zl,Zl,Le.nil,Zt⟩),Zl,Zt⟩)

theorem f133_c{x0:aR}{f1:Int}:Pu prog 133 [.ag (R64 x0), .i .u8 f1] (.i .i64 (f133 x0 f1)):=by
 generalize h:f133 x0 f1=r
 unfold f133 at h
 refine fI func133 λ_ _=>?_
 refine Rcl 2 q (Bd q q (Zs _) q (Rlc 16 q (Ci h q (λh=>?_) λh=>?_)))
 exact Rcx 10 q (FB h)
 refine Rcc 6 q (Ci h q (λh=>Rcx 10 q (FB h)) λh=>?_)
 refine Rcc 6 q (Ci h q (λh=>Rcx 10 q (FB h)) λh=>?_)
 refine Rcc 6 q (Ci h q (λh=>Rcx 10 q (FB h)) λh=>?_)
 exact Rcc 6 q (Ci h q (λh=>Rcx 10 q (FB h)) λh=>Rcx 11 q (FB h))

theorem f134_c(x0:aR)(f1:Int)(v2:Int):Pu prog 134 [.ag (R64 x0), .i .u8 f1, .i .i64 v2] (.ag (R64 (f134 x0 f1 v2))):=by
 generalize h:f134 x0 f1 v2=r
 unfold f134 at h
 refine fI func134 λ_ _=>?_
 refine Rcl 2 q (Bx q q q (Al z64 q (Rlc 2 q (Jn6 (λ_ _ _ _ _ _=> [(3, .pt 0 0),(6, .pt 1 0)]) (λc01v35 c02v36 c03v37 c04v38 c05v39 c06v40=> [.row 64 [.d (D.i .u8 x0.op), .n c01v35, .n c02v36, .n c03v37, .n c04v38, .n c05v39, .n c06v40], .row 64 [.d (D.i .u8 0), .n 0, .n 0, .n 0, .n 0, .n 0, .n 0]]) h (λ_ h=>?_) λc01v35 c02v36 c03v37 c04v38 c05v39 c06v40 h=>?_))))
 refine Rcc 12 q (Ci h q (λh=>Rcl 3 q (sS Z6 s3 Z2 (Rlx 2 q (En6 h)))) λh=>?_)
 refine Rcc 6 q (Ci h q (λh=>Rcl 3 q (sS Z6 s3 Z2 (Rlx 2 q (En6 h)))) λh=>?_)
 refine Rcc 6 q (Ci h q (λh=>Rcl 3 q (sS Z6 s3 Z2 (Rlx 2 q (En6 h)))) λh=>?_)
 refine Rcc 6 q (Ci h q (λh=>Rcl 3 q (sS Z6 s2 Z2 (Rlx 2 q (En6 h)))) λh=>?_)
 exact Rcc 6 q (Ci h q (λh=>Rcl 3 q (sS Z6 s2 Z2 (Rlx 2 q (En6 h)))) λh=>Rcl 3 q (sS Z6 s3 Z2 (Rlx 2 q (En6 h))))
 refine Rcl 3 q (sS Z6 s64 Z2 (Rlx 3 q ?_))
 subst h
 exact bm (rs1 q (dL q q a64 s64 q)) (bc (Zs _))

theorem f91_c{x0:aR}{r:Bool}(h:f91 x0=some r):Pu prog 91 [.ag (R64 x0)] (.b r):=by
 unfold f91 at h
 refine fI func91 λ_ _=>?_
 refine Rcl 2 q (Bd q q (Zs _) q (Rll 7 q ?_))
 obtain⟨a,e,h⟩:=ae h
 refine wF Z4 (f132_c e) Lw Z3 (Rl 3 q (Al bv q (sS Z6 ut Z2 (Rlc 10 q (Ci h q (λh=>?_) λh=>?_)))))
 exact Rcx 7 q (FA h)
 refine Rcl 5 q (Al z64 q (sS Z6 s64 Z2 (Rll 5 q (sS Z6 s62 Z2 (Rlc 2 q (Jn7 (λ_ _ _ _ _ _ _=> [(1, .d (.pc (R64 x0))),(5, .pt 1 0)]) (λc10v82 c11v83 c12v84 c13v85 c14v86 c15v87 c16v88=> [.row 190 [.d (D.i .u8 a.1.op), .d (D.s a.1.name), .l wg a.1.fields], .row 64 [.d (D.i .u8 c10v82), .n c11v83, .n c12v84, .n c13v85, .n c14v86, .n c15v87, .n c16v88]]) h (λf h=>?_) λc10v82 c11v83 c12v84 c13v85 c14v86 c15v87 c16v88 h=>?_))))))
 refine Rcc 6 q (Ln8 (λc _ _ _ _ _ _ _=> [(1, .d (.pc (R64 x0))),(3, .pt 0 0),(5, .pt 1 0),(6, .n c)]) (λ_ c10v99 c11v100 c12v101 c13v102 c14v103 c15v104 c16v105=> [.row 190 [.d (D.i .u8 a.1.op), .d (D.s a.1.name), .l wg a.1.fields], .row 64 [.d (D.i .u8 c10v99), .n c11v100, .n c12v101, .n c13v102, .n c14v103, .n c15v104, .n c16v105]]) (f91_l1 x0 a f) h (λ_ _ _ _ _ _ _ _ h=>by rw[f91_l1] at h;cases h) λn c c10v99 c11v100 c12v101 c13v102 c14v103 c15v104 c16v105 h=>?_)
 rw[f91_l1] at h
 refine Rcl 6 q (Zq (ab wg a.1.fields e188 q q Zl) q (Rlc 3 q (Ci h q (λh=>?_) λh=>?_)))
 refine Rcl 9 q (Ix h e188 aB q Zl q q λg _ h=>(Rl 1 q (Al aq q (sS Z6 s194 Z2 (Rll 7 q (wF Z4 (f133_c) Lw Z3 (Rll 11 q ?_)))))))
 refine OG 5 39 44 5 5 ?_
 refine Rlc 2 q (Ci h q (λh=>Rcx 12 q (FA h)) λh=>?_)
 exact Rcl 6 q (wF Z4 (f134_c (aR.mk c10v99 c11v100 c12v101 c13v102 c14v103 c15v104 c16v105) _ _) ⟨(bc (Zs _)),Zl,Zl,Zt⟩ Z3 (sS Z6 s64 Z2 (Rlx 8 q (WE.drop 2 (env':=[(1, .d (.pc (R64 x0))),(3, .pt 0 0),(5, .pt 1 0),(6, .n (IntKind.i64.wrap (c+1)))]) Sb q q (Nat.zero_le _) (cw ⟨_,⟨_,_,_,_,_,_,_,_,h,Sb,Tv⟩,Nat.lt_succ_self _⟩)))))
 exact Rcx 4 q (cw ⟨_,_,_,_,_,_,_,h,Sb,Tv⟩)
 refine Rcl 3 q (Zq (ac p64 z64 q q) q (Zq (qt (xs:=[.int .u8 c10v82, .int .i64 c11v83, .int .i64 c12v84, .int .i64 c13v85, .int .i64 c14v86, .int .i64 c15v87, .int .i64 c16v88]) (ys:=[.int .u8 0, .int .i64 0, .int .i64 0, .int .i64 0, .int .i64 0, .int .i64 0, .int .i64 0]) q64 q (bc (Zs _)) q (bc (Zs _)) q q q) q (Rl 1 q ?_)))
 apply WL.and 11 (t:=52) (d:=63)
 exact q
 intro j
 refine Rl 4 q ?_
 refine OG 6 56 62 6 6 ?_
 exact Rn 1 6
 exact Rn 11 11
 refine Rl 1 q ?_
 apply WL.and 14 (t:=64) (d:=78)
 exact q
 intro k
 refine Rl 4 q ?_
 refine OG 4 68 72 4 4 ?_
 refine Rl 1 q ?_
 refine OG 4 73 77 4 4 ?_
 exact Rn 1 8
 exact Rn 14 14
 exact Rlx 4 q (FA h)

theorem f92_c{t0:ah}{a:Int}{c:Int}{r:Bool}(h:f92 t0 a c=some r):Pu prog 92 [.ag (R33 t0), .i .i64 a, .i .i64 c] (.b r):=by
 unfold f92 at h
 refine fI func92 λ_ _=>?_
 refine Rcl 2 q (Bd q q (Zs _) q (Rll 11 q (Zq (ab E64 t0.insns e22 q q Zl) q (Rlc 3 q (Ci h q (λh=>?_) λh=>?_)))))
 exact Rcx 7 q (FA h)
 refine Rcc 2 q (Jn0 [] [] h (λf h=>?_) λh=>?_)
 refine Rcc 7 q (Ln1 (λe=> [(1, .n a),(2, .n c),(3, .d (.pc (R33 t0))),(7, .n e)]) (λ_=> []) (f92_l1 t0 a c f) h (λ_ h=>by rw[f92_l1] at h;cases h) λn e h=>?_)
 rw[f92_l1] at h
 refine Rcc 10 q (Ci h q (λh=>?_) λh=>?_)
 refine Rcl 9 q (Ix h e22 ef q Zl q q λg _ h=>(Rlc 5 q (Ci h q (λh=>?_) λh=>?_)))
 exact Rcx 11 q (FA h)
 exact Rcx 8 q (Fn1 h)
 exact Rcx 4 q (En0 h)
 exact Rcx 6 q (FA h)

theorem f93_c{t0:ah}{a:Int}{n2:Int}{r:bG×Bool}(h:f93 t0 a n2=some r):Pu prog 93 [.ag (R33 t0), .i .i64 a, .i .i64 n2] (.tu [.ag (tT r.1), .b r.2]):=by
 unfold f93 at h
 refine fI func93 λ_ _=>?_
 refine Rcl 2 q (Bd q q (Zs _) q (Al tX q (Rll 9 q ?_)))
 apply WL.or 6 (t:=10) (d:=16)
 exact q
 intro j
 exact Rl 3 q (Zy (ab E67 t0.tasks e29 q q Zl) q q q (Rl 2 q (WL.nil ⟨q,[_,_,_,_,_,_],q,q,q⟩)))
 exact Rn 6 6
 refine Rl 1 q ?_
 refine OG 3 17 20 3 3 ?_
 refine Rl 1 q ?_
 obtain⟨e,f,h⟩:=ae h
 refine Gg 10 21 31 e f (λh=>?_) (λh=>?_) ?_
 exact On 10 10 h
 refine Rl 4 q ?_
 obtain⟨g,c,h⟩:=ae h
 exact Zy (aj e29 q Zl q (ai c) (av kN c) q) q q q (Rl 2 q (Zy (ab jt g.entries e65 q q Zl) q q q (On 2 10 h)))
 refine Rlc 2 q (Ci h q (λh=>?_) λh=>?_)
 refine Rcl 2 q (Zq (ac p126 tX q q) q (sS Z6 qI Z2 (Rlx 5 q ?_)))
 obtain rfl:=Oi h
 exact bm (rs2 q (dL q q a126 qI q) (bR q)) (eP ⟨(bc ⟨Le.nil,Le.nil,Zt⟩),Zl,Zt⟩)
 refine Rcl 7 q (Ix h e29 kN q Zl q q λk _ h=>(Rl 3 q (Ix h e65 j6 q Zl q q λm _ h=>(Rl 1 q (sS Z6 qI Z2 (Rlx 4 q ?_))))))
 obtain rfl:=Oi h
 exact bm (rs2 q (dL q q a126 qI q) (bR q)) (eP ⟨(bc (Zs _)),Zl,Zt⟩)

theorem f94_c{t0:ah}{p1:Int}{n2:Int}{r:Bool}(h:f94 t0 p1 n2=some r):Pu prog 94 [.ag (R33 t0), .i .i64 p1, .i .i64 n2] (.b r):=by
 unfold f94 at h
 refine fI func94 λ_ _=>?_
 refine Rcl 2 q (Bd q q (Zs _) q (Rll 8 q ?_))
 apply WL.and 6 (t:=9) (d:=15)
 exact q
 intro g
 exact Rl 3 q (Zy (ab cM t0.prots e30 q q Zl) q q q (Rl 2 q (WL.nil ⟨q,[_,_,_,_,_,_],q,q,q⟩)))
 exact Rn 6 6
 refine Rl 1 q ?_
 refine AG 3 16 19 3 3 ?_
 refine Rl 1 q ?_
 obtain⟨c,e,h⟩:=ae h
 refine Gg 10 20 30 c e (λh=>?_) (λh=>?_) ?_
 refine Rl 4 q ?_
 obtain⟨f,a,h⟩:=ae h
 exact Zy (aj e30 q Zl q (ai a) (av lz a) q) q q q (Rl 2 q (Zy (ab dh f.barriers iz q q Zl) q q q (On 2 10 h)))
 exact On 10 10 h
 exact Rlx 4 q (FA h)

theorem f56_c{t0:ah}{x1:aR}{r:Bool}(h:f56 t0 x1=some r):Pu prog 56 [.ag (R33 t0), .ag (R64 x1)] (.b r):=by
 unfold f56 at h
 refine fI func56 λ_ _=>?_
 refine Rcl 2 q (Bd q q (Zs _) q (Bd q q (Zs _) q (Rll 7 q ?_)))
 obtain⟨I,k,h⟩:=ae h
 refine wF Z4 (f91_c k) Lw Z3 (Rlc 3 q (Ci h q (λh=>?_) λh=>?_))
 exact Rcx 7 q (FA h)
 refine Rcc 10 q (Jn1 (λa=> [(2, .d (.pc (R33 t0))),(3, .d (.pc (R64 x1))),(13, .d (D.i .u8 x1.op)),(14, .d (D.b a))]) (λ_=> []) h (λ_ h=>?_) λa h=>?_)
 exact Rcc 6 q (Ci h q (λh=>Rcx 1 q (En1 h)) λh=>Rcx 4 q (En1 h))
 refine Ci h q (λh=>?_) (λh=>?_)
 refine Rcl 7 q ?_
 obtain⟨J,m,h⟩:=ae h
 exact wF Z4 (f85_c m) Lw Z3 (Rlx 6 q (FA h))
 refine Jn1 (λc=> [(2, .d (.pc (R33 t0))),(3, .d (.pc (R64 x1))),(13, .d (D.i .u8 x1.op)),(23, .d (D.b c))]) (λ_=> []) h (λ_ h=>?_) (λc h=>?_)
 exact Rcc 6 q (Ci h q (λh=>Rcx 1 q (En1 h)) λh=>Rcx 4 q (En1 h))
 refine Ci h q (λh=>?_) (λh=>?_)
 refine Rcl 9 q ?_
 obtain⟨K,p,h⟩:=ae h
 exact wF Z4 (f85_c p) Lw Z3 (Rlx 6 q (FA h))
 refine Jn1 (λe=> [(2, .d (.pc (R33 t0))),(3, .d (.pc (R64 x1))),(13, .d (D.i .u8 x1.op)),(34, .d (D.b e))]) (λ_=> []) h (λ_ h=>?_) (λe h=>?_)
 refine Rcc 6 q (Ci h q (λh=>Rcx 1 q (En1 h)) λh=>?_)
 exact Rcc 6 q (Ci h q (λh=>Rcx 1 q (En1 h)) λh=>Rcx 4 q (En1 h))
 refine Ci h q (λh=>?_) (λh=>?_)
 exact Rcl 5 q (wF Z4 (f26_c) Lw Z3 (Rlx 6 q (FA h)))
 refine Rcc 6 q (Ci h q (λh=>?_) λh=>?_)
 refine Rcl 7 q ?_
 obtain⟨L,w,h⟩:=ae h
 exact wF Z4 (f92_c w) Lw Z3 (Rlx 6 q (FA h))
 refine Rcc 6 q (Ci h q (λh=>Rcx 13 q (FA h)) λh=>?_)
 refine Jn1 (λf=> [(2, .d (.pc (R33 t0))),(3, .d (.pc (R64 x1))),(13, .d (D.i .u8 x1.op)),(57, .d (D.b f))]) (λ_=> []) h (λ_ h=>?_) (λf h=>?_)
 refine Rcc 6 q (Ci h q (λh=>Rcx 1 q (En1 h)) λh=>?_)
 refine Rcc 6 q (Ci h q (λh=>Rcx 1 q (En1 h)) λh=>?_)
 exact Rcc 6 q (Ci h q (λh=>Rcx 1 q (En1 h)) λh=>Rcx 4 q (En1 h))
 refine Ci h q (λh=>?_) (λh=>?_)
 exact Rcl 6 q (Zq (ab E43 t0.lists e26 q q Zl) q (Rlx 7 q (FA h)))
 refine Rcc 6 q (Ci h q (λh=>Rcl 6 q (Zq (ab dl t0.selects e25 q q Zl) q (Rlx 7 q (FA h)))) λh=>?_)
 refine Rcc 6 q (Ci h q (λh=>?_) λh=>?_)
 refine Rcl 7 q ?_
 obtain⟨g,x,h⟩:=ae h
 refine wF Z4 (f93_c x) Lw Z3 (Rl 3 q (Al tX q (sS Z6 qI Z2 (Rll 7 q ?_))))
 obtain⟨y,A,h⟩:=ae h
 refine Gg 13 88 101 y A (λh=>?_) (λh=>?_) ?_
 refine Rl 5 q (Zy (ab E3 g.1.ins e43 q q Zl) q q q (Rl 2 q (Zy (ab E3 g.1.outs e43 q q Zl) q q q (Rl 2 q ?_))))
 obtain⟨M,B,h⟩:=ae h
 exact WL.fn q q q q (f85_c B) Lw (Wt.yes q q q) q q (On 1 13 h)
 exact On 13 13 h
 exact Rlx 6 q (FA h)
 refine Rcc 6 q (Ci h q (λh=>?_) λh=>?_)
 refine Rcl 7 q ?_
 obtain⟨N,C,h⟩:=ae h
 refine wF Z4 (f93_c C) Lw Z3 (Rl 3 q (Al tX q (sS Z6 qI Z2 (Rll 7 q ?_))))
 apply WL.and 5 (t:=114) (d:=119)
 exact q
 intro O
 exact Rl 3 q (WL.fn q q q q (f26_c) Lw (Wt.yes q q q) q q (Rl 1 q (WL.nil ⟨q,[_,_,_,_,_],q,q,q⟩)))
 exact Rn 5 5
 exact Rlx 6 q (FA h)
 refine Jn1 (λj=> [(2, .d (.pc (R33 t0))),(3, .d (.pc (R64 x1))),(13, .d (D.i .u8 x1.op)),(120, .d (D.b j))]) (λ_=> []) h (λ_ h=>?_) (λj h=>?_)
 exact Rcc 6 q (Ci h q (λh=>Rcx 1 q (En1 h)) λh=>Rcx 4 q (En1 h))
 refine Ci h q (λh=>?_) (λh=>?_)
 exact Rcl 6 q (Zq (ab cM t0.prots e30 q q Zl) q (Rlx 7 q (FA h)))
 refine Rcc 6 q (Ci h q (λh=>?_) λh=>?_)
 refine Rcl 7 q ?_
 obtain⟨P,E,h⟩:=ae h
 exact wF Z4 (f94_c E) Lw Z3 (Rlx 6 q (FA h))
 refine Rcc 6 q (Ci h q (λh=>?_) λh=>?_)
 refine Rcl 6 q ?_
 obtain⟨F,G,h⟩:=ae h
 refine Gg 7 142 149 F G (λh=>?_) (λh=>?_) ?_
 exact On 7 7 h
 refine Rl 5 q ?_
 obtain⟨Q,H,h⟩:=ae h
 exact WL.fn q q q q (f94_c H) Lw (Wt.yes q q q) q q (On 1 7 h)
 exact Rlx 6 q (FA h)
 exact Rcx 9 q (FA h)

theorem f25_c{t0:ah}{r:Bool}(h:f25 t0=some r):Pu prog 25 [.ag (R33 t0)] (.b r):=by
 unfold f25 at h
 refine fI func25 λ_ _=>?_
 refine Rcl 2 q (Bd q q (Zs _) q (Rll 7 q (Zq (ab E64 t0.insns e22 q q Zl) q (Rll 9 q ?_))))
 refine OG 3 11 14 3 3 ?_
 refine Rl 1 q ?_
 obtain⟨e,f,h⟩:=ae h
 refine Gg 4 15 19 e f (λh=>?_) (λh=>?_) ?_
 exact On 4 4 h
 refine Rl 1 q ?_
 obtain⟨K,g,h⟩:=ae h
 exact WL.fn q q q q (f50_c g) Lw (Wt.yes q q q) q q (On 2 4 h)
 refine Rl 1 q ?_
 obtain⟨j,k,h⟩:=ae h
 refine Gg 4 20 24 j k (λh=>?_) (λh=>?_) ?_
 exact On 4 4 h
 refine Rl 1 q ?_
 obtain⟨L,m,h⟩:=ae h
 exact WL.fn q q q q (f51_c m) Lw (Wt.yes q q q) q q (On 2 4 h)
 refine Rl 1 q ?_
 obtain⟨p,t,h⟩:=ae h
 refine Gg 4 25 29 p t (λh=>?_) (λh=>?_) ?_
 exact On 4 4 h
 refine Rl 1 q ?_
 obtain⟨M,w,h⟩:=ae h
 exact WL.fn q q q q (f52_c w) Lw (Wt.yes q q q) q q (On 2 4 h)
 refine Rl 1 q ?_
 obtain⟨x,y,h⟩:=ae h
 refine Gg 4 30 34 x y (λh=>?_) (λh=>?_) ?_
 exact On 4 4 h
 refine Rl 1 q ?_
 obtain⟨N,A,h⟩:=ae h
 exact WL.fn q q q q (f53_c A) Lw (Wt.yes q q q) q q (On 2 4 h)
 refine Rl 1 q ?_
 obtain⟨B,C,h⟩:=ae h
 refine Gg 4 35 39 B C (λh=>?_) (λh=>?_) ?_
 exact On 4 4 h
 refine Rl 1 q ?_
 obtain⟨O,E,h⟩:=ae h
 exact WL.fn q q q q (f54_c E) Lw (Wt.yes q q q) q q (On 2 4 h)
 refine Rl 1 q ?_
 obtain⟨F,G,h⟩:=ae h
 refine Gg 4 40 44 F G (λh=>?_) (λh=>?_) ?_
 exact On 4 4 h
 refine Rl 1 q ?_
 obtain⟨P,H,h⟩:=ae h
 exact WL.fn q q q q (f55_c H) Lw (Wt.yes q q q) q q (On 2 4 h)
 refine Rlc 2 q (Ci h q (λh=>Rcx 7 q (FA h)) λh=>?_)
 refine Rcc 2 q (Jn0 [(1, .d (.pc (R33 t0))),(3, .n (List.length t0.insns:Int))] [] h (λI h=>?_) λh=>?_)
 refine Rcc 6 q (Ln1 (λa=> [(1, .d (.pc (R33 t0))),(3, .n (List.length t0.insns:Int)),(4, .n a)]) (λ_=> []) (f25_l1 t0 I) h (λ_ h=>by rw[f25_l1] at h;cases h) λn a h=>?_)
 rw[f25_l1] at h
 refine Rcc 8 q (Ci h q (λh=>?_) λh=>?_)
 refine Rcc 5 q (aD kR kR (Rq 4 q ?_))
 obtain⟨Q,c,h⟩:=ae h
 refine WQ.qn (aj e22 q Zl q (ai c) (av ef c) q) q (Rq 1 q ?_)
 obtain⟨R,J,h⟩:=ae h
 refine WQ.q (YieldsQ.fn q q q q q (f56_c J) Lw) (Zw q) q q (Rq 1 q (WQ.nil (Rxc 1 q (Ci h q (λh=>?_) λh=>?_))))
 exact Rcx 11 q (FA h)
 exact Rcx 8 q (Fn1 h)
 exact Rcx 4 q (En0 h)
 refine Rcl 6 q (Ix h e22 ef q Zl q q λS _ h=>(Rll 10 q ?_))
 refine OG 3 67 70 3 3 ?_
 refine Rl 1 q ?_
 refine OG 3 71 74 3 3 ?_
 refine Rl 1 q ?_
 refine OG 3 75 78 3 3 ?_
 exact Rlx 4 q (FA h)

end Go.Proofs.YtpodhdopgcedlaaGreatDoor
