/- The walks of Make and Idle. -/
import Derived.Test.YtkbpoeellidgeaaGreatDoorWs
import Derived.Test.YtkbpoeellidgeaaGreatDoorWtb
set_option linter.unusedVariables false
set_option linter.unusedSimpArgs false
set_option linter.unusedSectionVars false
set_option linter.unnecessarySimpa false
set_option maxHeartbeats 4000000
set_option maxRecDepth 100000
namespace Go.Proofs.YtkbpoeellidgeaaGreatDoor
open Go.Proofs.Tryz
open Go Go.Sk

theorem f7_c{t0:al}{r:(List aj)×(List (List aa))×Int}(h:f7 t0=some r):Pu prog 7 [.ag (R33 t0)] (.tu [.sl (List.map E45 r.1), .sl (List.map E50 r.2.1), .i .i64 r.2.2]):=by
 unfold f7 at h
 refine fI func7 λ_ _=>?_
 refine Rcl 2 q (Bd q q (Zs _) q (Rll 9 q ?_))
 obtain⟨df,cc,h⟩:=ae h
 refine wF Z4 (f22_c cc) Lw Z3 (Rlc 3 q (Ci h q (λh=>?_) λh=>?_))
 exact Rcx 9 q (FA h)
 refine Rcc 3 q ?_
 replace h:=aD h
 obtain⟨cd,h⟩:=h
 apply RT [_,_,_,_,_,_,_,_] [4,6] [[.os 45 33 0 (eM R45 (List.replicate (Int.toNat (List.length t0.insns:Int)) ((aj.mk false (λ_=>(aa.mk 0 0))):aj)))],[.os 45 33 0 (eM R45 (List.replicate (Int.toNat (List.length t0.insns:Int)) ((aj.mk false (λ_=>(aa.mk 0 0))):aj))), .row 68 [.l E59 t0.insns, .l cq t0.handlers, .l cM t0.loops, .l E98 t0.selects, .l E51 t0.lists, .l E53 t0.objs, .l E80 t0.inits, .n t0.excs, .l E48 t0.tasks, .l E87 t0.prots, .l E95 t0.checks,sN, .os 0 0,sN, .n 0, .n 0, .n 0, .n 0, .n 0, .n 0, .n 0, .n 0, .n 0, .n 0, .n 0, .n 0, .n 0, .n 0, .n 0, .n 0, .n 0, .n 0, .n 0, .n 0, .n 0, .n 0, .n 0, .n 0, .n 0, .n 0, .n 0, .n 0, .n 0, .n 0, .n 0, .n 0, .n 0, .d (.v (.map none)), .d (.v (.map none))]]] [u01 1,p01 1,p10 1,p10 2,p10 3,q20 0 4 1,q10 5 1,q10 6 2] kR kR q q
 refine X2a ?_
 refine Y2 ?_
 refine zo (λ_=>Zq (ab E59 t0.insns e22 q q Zl) q (Zd q q q)) ?_
 refine zo (λ_=>WL.s ((NewOs.b (NewOs.cast (fB l36 z45 q (Nat.succ_pos _) q q cd) (by exact eY (R:=R45) (z:=((aj.mk false (λ_=>(aa.mk 0 0))):aj)) q))).does) (Zw q) q q (Zd q q q)) ?_
 refine zo (λ_=>Zq (fM p68 z68 q q) q (Zd q q q)) ?_
 refine zo (λ_=>Bx q q q (Zd q q q)) ?_
 exact Y1 Zt
 refine Rxc 1 q ?_
 replace h:=aB h
 obtain⟨b0,cf,h⟩:=h
 refine cT (λenv' st'=>∃(g:List aa),∃(f:Nat),∃(c:Nat),∃(X:List (List aa)),∃(e:Nat),b0 g X=some r∧Sub [(1, .d (.pc (R33 t0))),(5, .pt 1 0)] env'∧SLe st' [.os 45 33 0 (eM R45 (List.replicate (Int.toNat (List.length t0.insns:Int)) ((aj.mk false (λ_=>(aa.mk 0 0))):aj))), .row 68 ((tR t0 (.os 2 f) (.os 0 0) (.os 3 c) (.n 0))++(bg 32 (λj=> .d (aO R42 (λ_=>((aa.mk 0 0):aa)) j))++([.u, .u]:lV):lV)), .os 42 2 f (eM R42 g), .os 50 1 c (aX 4 e (List.length X)), .fam 42 2 e (bf R42 X)]) ?_ ?_
 refine Rcc 1 q (WC.nil_cell 1 11 42 2 q q (WC.nil_cell 1 13 50 1 q q (vF (oR 42 2) ?_)))
 refine WC.weak (st':=[.os 45 33 0 (eM R45 (List.replicate (Int.toNat (List.length t0.insns:Int)) ((aj.mk false (λ_=>(aa.mk 0 0))):aj))), .row 68 ((tR t0 (.os 2 0) (.os 0 0) (.os 3 0) (.n 0))++(bg 32 (λj=> .d (aO R42 (λ_=>((aa.mk 0 0):aa)) j))++([.u, .u]:lV):lV)), .os 42 2 0 (eM R42 ([]:List aa)), .os 50 1 0 (aX 4 0 (List.length ([]:List (List aa)))), .fam 42 2 0 (bf R42 ([]:List (List aa)))]) (by exact⟨OLe.refl _,⟨q,⟨Zl,Zl,Zl,Zl,Zl,Zl,Zl,Zl,Zl,Zl,Zl,Zl,Zl,Zl,Zl,Zl,Zl,Zl,Zl,Zl,Zl,Zl,Zl,Zl,Zl,Zl,Zl,Zl,Zl,Zl,Zl,Zl,Zl,Zl,Zl,Zl,Zl,Zl,Zl,Zl,Zl,Zl,Zl,Zl,Zl,Zl,Zl,Le.u _,Le.u _,Zt⟩⟩,OLe.refl _,OLe.refl _,OLe.refl _,Zt⟩) ?_
 refine Rcl 2 q ?_
 obtain⟨m,ci,h⟩:=ae h
 refine wF Z4 (f23_c ci) Lw Z3 (Zq (ab E71 m e69 q q Zl) q (Rlc 4 q ?_))
 refine cL (λn env' st'=>∃(A:Int),∃(H:List aa),∃(t:Nat),∃(w:Nat),∃(p:List (List aa)),∃(x:Nat),f7_l1 t0 b0 m n A H p=some r∧Sub [(1, .d (.pc (R33 t0))),(5, .pt 1 0),(29, .l E71 m),(30, .n (List.length m:Int)),(31, .n A)] env'∧SLe st' [.os 45 33 0 (eM R45 (List.replicate (Int.toNat (List.length t0.insns:Int)) ((aj.mk false (λ_=>(aa.mk 0 0))):aj))), .row 68 ((tR t0 (.os 2 t) (.os 0 0) (.os 3 w) (.n 0))++(bg 32 (λj=> .d (aO R42 (λ_=>((aa.mk 0 0):aa)) j))++([.u, .u]:lV):lV)), .os 42 2 t (eM R42 H), .os 50 1 w (aX 4 x (List.length p)), .fam 42 2 x (bf R42 p)]) (λn=>n) (Int.toNat ((List.length m:Int) - 0)+1) ⟨0,([]:List aa),_,_,([]:List (List aa)),_,h,(Sx q (Sx q (Sx q (Sx q (Sx q (Sub.nil _)))))),⟨Zf,⟨q,(Les.app Lw (Les.app (Zs _) ⟨(Le.u _),(Le.u _),Zt⟩))⟩,Zf,Zf,Zf,Zt⟩⟩ ?_
 rintro n a7 a8 ⟨A,H,t,w,p,x,h,hsub,hst⟩
 rcases n with _|n
 rw[f7_l1] at h;cases h
 rw[f7_l1] at h
 refine WC.sub hsub (WC.weak hst ?_)
 refine Rcc 6 q (Ci h q (λh=>?_) λh=>?_)
 refine Rcc 2 q (Jn2 (λ_ _=> [(1, .d (.pc (R33 t0))),(5, .pt 1 0),(29, .l E71 m),(30, .n (List.length m:Int)),(31, .n A)]) (λb1 a'=> [.os 45 33 0 (eM R45 (List.replicate (Int.toNat (List.length t0.insns:Int)) ((aj.mk false (λ_=>(aa.mk 0 0))):aj))), .row 68 ((tR t0 (.os 2 (t+1)) (.os 0 0) (.os 3 (w+1)) (.n 0))++(bg 32 (λj=> .d (aO R42 (λ_=>((aa.mk 0 0):aa)) j))++([.u, .u]:lV):lV)), .os 42 2 (t+1) (eM R42 b1), .os 50 1 (w+1) (aX 4 (x+2) (List.length a')), .fam 42 2 (x+2) (bf R42 a'), .z, .z]) h (λ_ h=>?_) λb1 a' h=>?_)
 refine Rcl 4 q (Ix h e69 t7 q Zl q q λK _ h=>(Rll 8 q (WL.nil_os 8 42 2 q (Rlc 2 q ?_))))
 replace h:=aB h
 obtain⟨b2,cj,h⟩:=h
 refine cT (λenv' st'=>∃(F:List aa),∃(Q:Nat),b2 F=some r∧Sub [(1, .d (.pc (R33 t0))),(5, .pt 1 0),(6, .n A),(8, .os 5 Q),(29, .l E71 m),(30, .n (List.length m:Int)),(31, .n A)] env'∧SLe st' [.os 45 33 0 (eM R45 (List.replicate (Int.toNat (List.length t0.insns:Int)) ((aj.mk false (λ_=>(aa.mk 0 0))):aj))), .row 68 ((tR t0 (.os 2 t) (.os 0 0) (.os 3 w) (.n 0))++(bg 32 (λj=> .d (aO R42 (λ_=>((aa.mk 0 0):aa)) j))++([.u, .u]:lV):lV)), .os 42 2 t (eM R42 H), .os 50 1 w (aX 4 x (List.length p)), .fam 42 2 x (bf R42 p), .os 42 2 Q (eM R42 F)]) ?_ ?_
 refine Rcl 3 q (Zq (ab E2 K e71 q q Zl) q (Rlc 4 q ?_))
 refine cL (λna env' st'=>∃(Y:Int),∃(Z:List aa),∃(a0:Nat),f7_l2 K b2 na Y Z=some r∧Sub [(1, .d (.pc (R33 t0))),(5, .pt 1 0),(6, .n A),(8, .os 5 a0),(29, .l E71 m),(30, .n (List.length m:Int)),(31, .n A),(36, .l E2 K),(37, .n (List.length K:Int)),(38, .n Y)] env'∧SLe st' [.os 45 33 0 (eM R45 (List.replicate (Int.toNat (List.length t0.insns:Int)) ((aj.mk false (λ_=>(aa.mk 0 0))):aj))), .row 68 ((tR t0 (.os 2 t) (.os 0 0) (.os 3 w) (.n 0))++(bg 32 (λj=> .d (aO R42 (λ_=>((aa.mk 0 0):aa)) j))++([.u, .u]:lV):lV)), .os 42 2 t (eM R42 H), .os 50 1 w (aX 4 x (List.length p)), .fam 42 2 x (bf R42 p), .os 42 2 a0 (eM R42 Z)]) (λn=>n) (Int.toNat ((List.length K:Int) - 0)+1) ⟨0,[],_,h,(Sx q (Sx q (Sx q (Sx q (Sx q (Sx q (Sx q (Sx q (Sx q (Sx q (Sub.nil _))))))))))),⟨Zf,⟨q,(Les.app Lw (Les.app (Zs _) ⟨(Le.u _),(Le.u _),Zt⟩))⟩,Zf,Zf,Zf,Zf,Zt⟩⟩ ?_
 rintro na a7 a8 ⟨Y,Z,a0,h,hsub,hst⟩
 rcases na with _|na
 rw[f7_l2] at h;cases h
 rw[f7_l2] at h
 refine WC.sub hsub (WC.weak hst ?_)
 refine Rcc 6 q (Ci h q (λh=>?_) λh=>?_)
 refine Rcl 6 q (Ix h e71 fg q Zl q q λcl _ h=>(Rll 7 q (wF Z4 (f24_c) Lw Z3 (WL.s ((NewOs.b (ad l50 z42 q dC dC q q q dC)).does) (Zw q) q q ?_))))
 replace h:=aD h
 obtain⟨cn,h⟩:=h
 exact WL.s (dx R42 Z [(f24 cl)] l50 z42 q dC q q q q (Src.own q) (λ_=>q) (λ_=>q) cn) (Zw q) q q (Rlx 8 q (WE.drop 6 (env':=[(1, .d (.pc (R33 t0))),(5, .pt 1 0),(6, .n A),(8, .os 5 (a0+1)),(29, .l E71 m),(30, .n (List.length m:Int)),(31, .n A),(36, .l E2 K),(37, .n (List.length K:Int)),(38, .n (IntKind.i64.wrap (Y+1)))]) Sb q Kv (Nat.zero_le _) (Fn3 h)))
 exact Rcx 4 q (En2 h)
 rintro a7 a8 ⟨F,Q,h,hsub,hst⟩
 subst cj
 dsimp only at h
 refine WC.sub hsub (WC.weak hst ?_)
 refine Rcl 8 q (WL.s (((NewOs.b (ma l37 z50 q dC dC q q (uy q) dC))).does) (Zw q) q q ?_)
 replace h:=aD h
 obtain⟨cp,h⟩:=h
 refine WL.s (wt p F l37 z50 q q q q q q q cp) (Zw q) q q (mQ (oS (E:=R42) (L:=p) (x':=F) 3 4 5 q q q q q q) (St q (Rl 2 q (WL.s0 (o6 q q q (kY q) s37 q) (Zw q) q (St q (Rlc 2 q ?_))))))
 obtain⟨ds,b3,h⟩:=ae h
 obtain⟨a1,cx,h⟩:=ae h
 replace h:=aD h
 obtain⟨cz,h⟩:=h
 apply RT [_,_,_,_,_,_,_,_,_,_,_,_,_,_,_, .u] [12,15] [[.os 45 33 0 (eM R45 (List.replicate (Int.toNat (List.length t0.insns:Int)) ((aj.mk false (λ_=>(aa.mk 0 0))):aj))), .row 68 ((tR t0 (.os 2 t) (.os 0 0) (.os 3 (w+1)) (.n 0))++(bg 32 (λj=> .d (aO R42 (λ_=>((aa.mk 0 0):aa)) j))++([.u, .u]:lV):lV)), .os 42 2 (t+1) (eM R42 (H++ [a1])), .os 50 1 (w+1) (aX 4 (x+2) (List.length (p++ [F]))), .fam 42 2 (x+2) (bf R42 (p++ [F])), .z, .os 50 1 0 [[.os 5 Q]]],[.os 45 33 0 (eM R45 (List.replicate (Int.toNat (List.length t0.insns:Int)) ((aj.mk false (λ_=>(aa.mk 0 0))):aj))), .row 68 ((tR t0 (.os 2 (t+1)) (.os 0 0) (.os 3 (w+1)) (.n 0))++(bg 32 (λj=> .d (aO R42 (λ_=>((aa.mk 0 0):aa)) j))++([.u, .u]:lV):lV)), .os 42 2 (t+1) (eM R42 (H++ [a1])), .os 50 1 (w+1) (aX 4 (x+2) (List.length (p++ [F]))), .fam 42 2 (x+2) (bf R42 (p++ [F])), .z, .os 50 1 0 [[.os 5 Q]]]] [u01 5,p01 5,p10 1,p10 2,p10 3,p01 1,p10 5,p01 6,p20 6 7,p10 8,p10 9,p10 10,p20 4 11,q10 0 1,q10 13 1,q20 14 12 1] kR kR q q
 refine X2a ?_
 refine Y7 ?_
 refine zo (λ_=>Zq (ah e27 q Zl q (af b3) (an cA b3) q) q (Zd q q q)) ?_
 refine Y1 ?_
 refine zo (λ_=>wF Z4 (f25_c cx) Lw Z3 (Zd q q q)) ?_
 refine zo (λ_=>WL.s ((NewOs.data (ad l50 z42 q dC dC q q q dC) (by exact ai bL [a1])).does) (Zw q) q q (Zd q q q)) ?_
 refine zo (λ_=>WL.s (dx R42 H [a1] l50 z42 q dC q q q q (sv Zl bL λ_=>q) (λ_=>q) (λ_=>q) cz) (Zw q) q q (Zd q q q)) ?_
 refine Y2 ?_
 exact zo (λ_=>WL.s0 (o6 q q q (kY q) s50 q) (Zw q) q (aJ q q)) Zt
 exact Rxx 1 q (En2 h)
 exact Rcx 4 q (WE.drop 5 (env':=[(1, .d (.pc (R33 t0))),(5, .pt 1 0),(29, .l E71 m),(30, .n (List.length m:Int)),(31, .n (IntKind.i64.wrap (A+1)))]) Sb q Kv (Nat.zero_le _) (Fn6 h))
 exact Rcx 4 q (En5 h)
 rintro a7 a8 ⟨g,f,c,X,e,h,hsub,hst⟩
 subst cf
 dsimp only at h
 refine WC.sub hsub (WC.weak hst ?_)
 refine Jn2 (λ_ _=> [(5, .pt 1 0)]) (λbb S=> [.os 45 33 0 (eM R45 bb), .row 68 ((tR t0 (.os 2 f) (.os 0 0) (.os 3 c) (.n 0))++(bg 32 (λj=> .d (aO R42 (λ_=>((aa.mk 0 0):aa)) j))++([.u, .u]:lV):lV)), .os 42 2 f (eM R42 g), .os 50 1 c (aX 4 e (List.length S)), .fam 42 2 e (bf R42 S)]) h (λc0 h=>?_) (λbb S h=>?_)
 refine Rcl 4 q (Zq (ab E48 t0.tasks e29 q q Zl) q (Rlc 4 q (Ln3 (λI _ _=> [(5, .pt 1 0),(75, .l E48 t0.tasks),(76, .n (List.length t0.tasks:Int)),(77, .n I)]) (λ_ C T=> [.os 45 33 0 (eM R45 C), .row 68 ((tR t0 (.os 2 f) (.os 0 0) (.os 3 c) (.n 0))++(bg 32 (λj=> .d (aO R42 (λ_=>((aa.mk 0 0):aa)) j))++([.u, .u]:lV):lV)), .os 42 2 f (eM R42 g), .os 50 1 c (aX 4 e (List.length T)), .fam 42 2 e (bf R42 T)]) (f7_l3 t0 g c0) h (λ_ _ _ h=>by rw[f7_l3] at h;cases h) λn I C T h=>?_)))
 rw[f7_l3] at h
 refine Rcc 6 q (Ci h q (λh=>?_) λh=>?_)
 refine Rcc 2 q (Jn6 (λ_ _ _ _ _ _=> [(5, .pt 1 0),(75, .l E48 t0.tasks),(76, .n (List.length t0.tasks:Int)),(77, .n I)]) (λb4 bd c50v200 c51v201 c52v202 c53v203=> [.os 45 33 0 (eM R45 b4), .row 68 ((tR t0 (.os 2 f) (.os 0 0) (.os 3 c) (.n 0))++(bg 32 (λj=> .d (aO R42 (λ_=>((aa.mk 0 0):aa)) j))++([.u, .u]:lV):lV)), .os 42 2 f (eM R42 g), .os 50 1 c (aX 4 e (List.length bd)), .fam 42 2 e (bf R42 bd), .row 48 [.n c50v200, .n c51v201, .l E74 c52v202, .n c53v203]]) h (λc1 h=>?_) λb4 bd c50v200 c51v201 c52v202 c53v203 h=>?_)
 refine Rcl 3 q (Ix h e29 dK q Zl q q λa _ h=>(Rl 1 q (Al z48 q (sS Z6 s48 Z2 (St q (Rlc 3 q ?_))))))
 obtain⟨G,b5,h⟩:=ae h
 apply RT [_,_,_,_,_,_,_,_, .u] [8] [[.os 45 33 0 (eM R45 (List.set C (Int.toNat a.at_) (aj.mk true G.r))), .row 68 ((tR t0 (.os 2 f) (.os 0 0) (.os 3 c) (.n 0))++(bg 32 (λj=> .d (aO R42 (λ_=>((aa.mk 0 0):aa)) j))++([.u, .u]:lV):lV)), .os 42 2 f (eM R42 g), .os 50 1 c (aX 4 e (List.length T)), .fam 42 2 e (bf R42 T), .row 48 [.n a.prio, .n a.at_, .l E74 a.entries, .n a.deadline]]] [p01 5,p10 0,p10 1,p10 2,p01 12,p10 4,p20 3 5,p10 6,p10 7] kR kR q q
 refine Y6 ?_
 refine zo (λ_=>Zq (lU e36 q q q b5) q (Zd q q q)) ?_
 refine zo (λ_=>Zq (cu f45_0 q q) q (Zd q q q)) ?_
 exact zo (λ_=>WL.s0 (dp (R:=R45) (k:=33) (i:=a.at_) (fo:=0) (aj.mk true G.r) q q q q Zl q q q s4 q (λ_=>q) b5 q q) (Zw q) q (aJ q q)) Zt
 refine Rxl 5 q (Zq (ab E74 a.entries e46 q q Zl) q (Rlc 4 q (Ln2 (λU _=> [(5, .pt 1 0),(75, .l E48 t0.tasks),(76, .n (List.length t0.tasks:Int)),(77, .n I),(90, .l E74 a.entries),(91, .n (List.length a.entries:Int)),(92, .n U)]) (λ_ bk=> [.os 45 33 0 (eM R45 (List.set C (Int.toNat a.at_) (aj.mk true G.r))), .row 68 ((tR t0 (.os 2 f) (.os 0 0) (.os 3 c) (.n 0))++(bg 32 (λj=> .d (aO R42 (λ_=>((aa.mk 0 0):aa)) j))++([.u, .u]:lV):lV)), .os 42 2 f (eM R42 g), .os 50 1 c (aX 4 e (List.length bk)), .fam 42 2 e (bf R42 bk), .row 48 [.n a.prio, .n a.at_, .l E74 a.entries, .n a.deadline]]) (f7_l4 g C c1 a G) h (λ_ _ h=>by rw[f7_l4] at h;cases h) λna U bk h=>?_)))
 rw[f7_l4] at h
 refine Rcc 6 q (Ci h q (λh=>?_) λh=>?_)
 refine Rcc 2 q (Jn3 (λ_ _ _=> [(5, .pt 1 0),(75, .l E48 t0.tasks),(76, .n (List.length t0.tasks:Int)),(77, .n I),(90, .l E74 a.entries),(91, .n (List.length a.entries:Int)),(92, .n U)]) (λbl c60v214 c61v215=> [.os 45 33 0 (eM R45 (List.set C (Int.toNat a.at_) (aj.mk true G.r))), .row 68 ((tR t0 (.os 2 f) (.os 0 0) (.os 3 c) (.n 0))++(bg 32 (λj=> .d (aO R42 (λ_=>((aa.mk 0 0):aa)) j))++([.u, .u]:lV):lV)), .os 42 2 f (eM R42 g), .os 50 1 c (aX 4 e (List.length bl)), .fam 42 2 e (bf R42 bl), .row 48 [.n a.prio, .n a.at_, .l E74 a.entries, .n a.deadline], .row 74 [.l E3 c60v214, .l E3 c61v215]]) h (λc2 h=>?_) λbl c60v214 c61v215 h=>?_)
 refine Rcl 3 q (Ix h e46 ib q Zl q q λy _ h=>(Rl 1 q (Al z74 q (sS Z6 s74 Z2 (Rll 6 q (Zq (ab E3 y.ins e51 q q Zl) q (Rlc 4 q ?_)))))))
 refine Ln2 (λb6 _=> [(5, .pt 1 0),(75, .l E48 t0.tasks),(76, .n (List.length t0.tasks:Int)),(77, .n I),(90, .l E74 a.entries),(91, .n (List.length a.entries:Int)),(92, .n U),(97, .l E3 y.ins),(98, .n (List.length y.ins:Int)),(99, .n b6)]) (λ_ B=> [.os 45 33 0 (eM R45 (List.set C (Int.toNat a.at_) (aj.mk true G.r))), .row 68 ((tR t0 (.os 2 f) (.os 0 0) (.os 3 c) (.n 0))++(bg 32 (λj=> .d (aO R42 (λ_=>((aa.mk 0 0):aa)) j))++([.u, .u]:lV):lV)), .os 42 2 f (eM R42 g), .os 50 1 c (aX 4 e (List.length B)), .fam 42 2 e (bf R42 B), .row 48 [.n a.prio, .n a.at_, .l E74 a.entries, .n a.deadline], .row 74 [.l E3 y.ins, .l E3 y.outs]]) (f7_l5 g c2 y) h (λ_ _ h=>by rw[f7_l5] at h;cases h) (λnb b6 B h=>?_)
 rw[f7_l5] at h
 refine Rcc 6 q (Ci h q (λh=>?_) λh=>?_)
 refine Rcl 6 q (Ix h e51 du q Zl q q λO _ h=>(Rlc 4 q ?_))
 obtain⟨N,V,h⟩:=ae h
 obtain⟨P,b7,h⟩:=ae h
 obtain⟨b8,b9,h⟩:=ae h
 apply RT [_,_,_,_,_,_,_,_,_,_,_,_,_,_,_, .u] [15] [[.os 45 33 0 (eM R45 (List.set C (Int.toNat a.at_) (aj.mk true G.r))), .row 68 ((tR t0 (.os 2 f) (.os 0 0) (.os 3 c) (.n 0))++(bg 32 (λj=> .d (aO R42 (λ_=>((aa.mk 0 0):aa)) j))++([.u, .u]:lV):lV)), .os 42 2 f (eM R42 g), .os 50 1 c (aX 4 e (List.length (List.set B (Int.toNat O) (List.set N (Int.toNat 0) P)))), .fam 42 2 e (bf R42 (List.set B (Int.toNat O) (List.set N (Int.toNat 0) P))), .row 48 [.n a.prio, .n a.at_, .l E74 a.entries, .n a.deadline], .row 74 [.l E3 y.ins, .l E3 y.outs]]] [p01 5,p10 0,p10 1,p10 2,p01 16,p20 3 4,p10 5,p01 5,p10 7,p10 8,p10 9,p01 16,p20 10 11,p10 12,p10 6,p20 14 13] kR kR q q
 refine Y5 ?_
 refine zo (λ_=>Zq (eT e37 q q q (af V) (eF V)) q (Zd q q q)) ?_
 refine zo (λ_=>Zq (iJ (i:=O) q q a50 (cZ V)) q (Zd q q q)) ?_
 refine Y5 ?_
 refine zo (λ_=>Zq (lU e50 q q q b7) q (Zd q q q)) ?_
 refine zo (λ_=>Zq (gH (fo:=0) q q q a42 s42 (λ_=>q) b7 q q) q (Zd q q q)) ?_
 refine zo (λ_=>Zq (jD (E:=R42) (L:=B) (M:=N) (v:=b8) e50 q q (aU V) q b9) q (Zd q q q)) ?_
 refine zo (λ_=>?_) Zt
 refine WL.s0 (kr (E:=R42) (L:=B) (M:=N) (v:=b8) (z:=P) (i:=0) q q (aU V) b9 (λ_=>q) q q Lw q s42) (Zw q) q ?_
 refine WL.st (st':=[.os 45 33 0 (eM R45 (List.set C (Int.toNat a.at_) (aj.mk true G.r))), .row 68 ((tR t0 (.os 2 f) (.os 0 0) (.os 3 c) (.n 0))++(bg 32 (λj=> .d (aO R42 (λ_=>((aa.mk 0 0):aa)) j))++([.u, .u]:lV):lV)), .os 42 2 f (eM R42 g), .os 50 1 c (aX 4 e (List.length (List.set B (Int.toNat O) (List.set N (Int.toNat 0) P)))), .fam 42 2 e (bf R42 (List.set B (Int.toNat O) (List.set N (Int.toNat 0) P))), .row 48 [.n a.prio, .n a.at_, .l E74 a.entries, .n a.deadline], .row 74 [.l E3 y.ins, .l E3 y.outs]]) (by show([.os 45 33 0 (eM R45 (List.set C (Int.toNat a.at_) (aj.mk true G.r))), .row 68 ((tR t0 (.os 2 f) (.os 0 0) (.os 3 c) (.n 0))++(bg 32 (λj=> .d (aO R42 (λ_=>((aa.mk 0 0):aa)) j))++([.u, .u]:lV):lV)), .os 42 2 f (eM R42 g), .os 50 1 c (aX 4 e (List.length B)), .fam 42 2 e (bf R42 (List.set B (Int.toNat O) (List.set N (Int.toNat 0) P))), .row 48 [.n a.prio, .n a.at_, .l E74 a.entries, .n a.deadline], .row 74 [.l E3 y.ins, .l E3 y.outs]]:lW)=_;rw[List.length_set]) ?_
 exact aJ q q
 exact Rxx 6 q (Fn2 h)
 exact Rcx 5 q (En3 h)
 exact Rcx 4 q (WE.drop 6 (env':=[(5, .pt 1 0),(75, .l E48 t0.tasks),(76, .n (List.length t0.tasks:Int)),(77, .n I),(90, .l E74 a.entries),(91, .n (List.length a.entries:Int)),(92, .n (IntKind.i64.wrap (U+1)))]) Sb q Kv (Nat.zero_le _) (Fn2 h))
 exact Rcx 5 q (En6 h)
 exact Rcx 4 q (WE.drop 5 (env':=[(5, .pt 1 0),(75, .l E48 t0.tasks),(76, .n (List.length t0.tasks:Int)),(77, .n (IntKind.i64.wrap (I+1)))]) Sb q Kv (Nat.zero_le _) (Fn3 h))
 exact Rcx 4 q (En2 h)
 refine Jn4 (λ_ _ _ _=> [(5, .pt 1 0)]) (λb' a6 c114v230 c115v231=> [.os 45 33 0 (eM R45 b'), .row 68 ((tR t0 (.l E42 g) (.os 0 0) (.os 3 c) (.n c114v230))++(bg 32 (λj=> .d (aO R42 c115v231 j))++([.u, .u]:lV):lV)), .z, .os 50 1 c (aX 4 e (List.length a6)), .fam 42 2 e (bf R42 a6)]) h (λc' h=>?_) (λb' a6 c114v230 c115v231 h=>?_)
 refine Rcc 1 q ?_
 refine WC.freezeX [] [(1,11)] 2 _ q (ai bL _) Zt ⟨_,_,q,q,Zt⟩ (WC.weak (st':=[.os 45 33 0 (eM R45 bb), .row 68 ((tR t0 (.l E42 g) (.os 0 0) (.os 3 c) (.n 0))++(bg 32 (λj=> .d (aO R42 (λ_=>((aa.mk 0 0):aa)) j))++([.u, .u]:lV):lV)), .z, .os 50 1 c (aX 4 e (List.length S)), .fam 42 2 e (bf R42 S)]) Tv (Rcc 5 q ?_))
 refine Ln5 (λca _ _ _ _=> [(5, .pt 1 0),(17, .n ca)]) (λ_ cb bs c114v241 c115v242=> [.os 45 33 0 (eM R45 cb), .row 68 ((tR t0 (.l E42 g) (.os 0 0) (.os 3 c) (.n c114v241))++(bg 32 (λj=> .d (aO R42 c115v242 j))++([.u, .u]:lV):lV)), .z, .os 50 1 c (aX 4 e (List.length bs)), .fam 42 2 e (bf R42 bs)]) (f7_l6 t0 g c') h (λ_ _ _ _ _ h=>by rw[f7_l6] at h;cases h) (λn ca cb bs c114v241 c115v242 h=>?_)
 rw[f7_l6] at h
 refine Rcl 6 q ?_
 obtain⟨dS,dd,h⟩:=ae h
 refine aN [1,0,3,4] q q q q (f26_c dd) Lw q dC (Re (Ro (Rg (Rf q)))) ⟨q,q,q,q,Zt⟩ Kv q (Zw q) q q (λr' new hS=>?_)
 obtain⟨rfl,rfl⟩:=hS
 refine⟨_,_,q,(Re (Ro (Rg (Rf q)))),q,Kv,?_⟩
 refine St q (Rlc 2 q (Ci h q (λh=>?_) λh=>?_))
 exact Rcx 12 q (Fn5 h)
 exact Rcx 4 q (En4 h)
 refine Rcc 1 q ?_
 refine WC.freezeX [] [(1,12)] 0 _ q (ai dL _) Zt ⟨_,_,q,q,Zt⟩ (vF (lg (E:=E42) (R':=R42) (L:=a6) 3 4 bL q q q) ?_)
 exact WC.freezeX [] [(1,13)] 3 _ q (ai c5 _) Zt ⟨_,_,q,q,Zt⟩ (av kR kR (Rq 11 q (WQ.nil (Rxx 2 q (FA h)))))

theorem f43_c{t0:al}{r:lI}(h:f43 t0=some r):Pu prog 43 [.ag (R33 t0)] (.sl (List.map E3 r)):=by
 unfold f43 at h
 refine fI func43 λ_ _=>?_
 refine Rcl 2 q (Bd q q (Zs _) q (Rll 6 q ?_))
 obtain⟨c,K,h⟩:=ae h
 refine wF Z4 (f7_c K) Lw Z3 (Rll 12 q (WL.nil_os 6 3 1 q (Rlc 2 q ?_)))
 replace h:=aB h
 obtain⟨E,L,h⟩:=h
 refine cT (λenv' st'=>∃(w:lI),∃(x:Nat),E w=some r∧Sub [(6, .os 0 x)] env'∧SLe st' [.os 3 1 x (eM E3 w)]) ?_ ?_
 refine Rcl 3 q (Zq (ab E45 c.1 e36 q q Zl) q (Rlc 4 q (cL (λn env' st'=>∃(f:Int),∃(k:lI),∃(g:Nat),f43_l1 t0 c E n f k=some r∧Sub [(1, .d (.pc (R33 t0))),(6, .os 0 g),(16, .l E45 c.1),(17, .n (List.length c.1:Int)),(18, .n f)] env'∧SLe st' [.os 3 1 g (eM E3 k)]) (λn=>n) (Int.toNat ((List.length c.1:Int) - 0)+1) ⟨0,[],_,h,(Sx q (Sx q (Sx q (Sx q (Sx q (Sub.nil _)))))),⟨Zf,Zt⟩⟩ ?_)))
 rintro n F G ⟨f,k,g,h,hsub,hst⟩
 rcases n with _|n
 rw[f43_l1] at h;cases h
 rw[f43_l1] at h
 refine WC.sub hsub (WC.weak hst ?_)
 refine Rcc 6 q (Ci h q (λh=>?_) λh=>?_)
 refine Rcc 2 q ?_
 replace h:=aB h
 obtain⟨M,O,h⟩:=h
 refine cT (λenv' st'=>∃(y:lI),∃(A:Nat),M y=some r∧Sub [(1, .d (.pc (R33 t0))),(6, .os 0 A),(16, .l E45 c.1),(17, .n (List.length c.1:Int)),(18, .n f)] env'∧SLe st' [.os 3 1 A (eM E3 y)]) ?_ ?_
 refine Rcl 4 q (Ix h e36 dL q Zl q q λp _ h=>(Rl 1 q (Al z45 q (Rl 1 q (sS Z6 s45 Z2 (St q (Rll 7 q (Ix h e22 c9 q Zl q q λe _ h=>(Rl 1 q (Al z59 q (sS Z6 s59 Z2 (St q (Rll 9 q ?_)))))))))))))
 refine AG 4 32 36 4 4 ?_
 refine Rlc 3 q (Ci h q (λh=>?_) λh=>?_)
 exact Rcx 3 q (WE.drop 1 (env':=[(1, .d (.pc (R33 t0))),(6, .os 0 g),(16, .l E45 c.1),(17, .n (List.length c.1:Int)),(18, .n f)]) Sb q Kv (Nat.zero_le _) (En2 h))
 refine Jn1 (λH=> [(1, .d (.pc (R33 t0))),(6, .os 0 g),(7, .n f),(16, .l E45 c.1),(17, .n (List.length c.1:Int)),(18, .n f),(37, .d (D.b H))]) (λ_=> [.os 3 1 g (eM E3 k), .row 45 (([.d (D.b p.reached)]:lV)++(bg 32 (λj=> .d (aO R42 p.r j)):lV)), .row 59 [.d (D.i .u8 e.op), .n e.d, .n e.a, .n e.b, .n e.n, .n e.m, .n e.to]]) h (λ_ h=>?_) (λH h=>?_)
 refine Rcc 8 q (Ci h q (λh=>Rcx 1 q (En1 h)) λh=>?_)
 refine Jn1 (λI=> [(1, .d (.pc (R33 t0))),(6, .os 0 g),(7, .n f),(8, .pt 1 0),(9, .pt 2 0),(16, .l E45 c.1),(17, .n (List.length c.1:Int)),(18, .n f),(37, .d (D.b I))]) (λ_=> [.os 3 1 g (eM E3 k), .row 45 (([.d (D.b p.reached)]:lV)++(bg 32 (λj=> .d (aO R42 p.r j)):lV)), .row 59 [.d (D.i .u8 e.op), .n e.d, .n e.a, .n e.b, .n e.n, .n e.m, .n e.to]]) h (λ_ h=>?_) (λI h=>?_)
 rcases cy (decide (e.op=27)) with t|t
 replace h:=cG h t
 replace h:=aD h
 obtain⟨B,h⟩:=h
 apply RT [_,_,_,_,_,_,_,_,_,_,_,_,_,_,_,_,_] [] [] [p01 9,p10 0,p10 1,p10 2,p11 3 9,p20 4 3,p11 3 8,p30 6 5 3,p20 7 3,p11 3 9,p20 9 3,p11 3 9,p20 11 3,p30 10 12 3,p30 8 13 3,p20 3 14,p10 15] kR kR q q
 refine Y3 ?_
 refine zo (rc t) ?_
 refine Y3 ?_
 refine zo (λ_=>Zy (ar cw q q (aT B) (aS B)) q q q (Zd q q q)) ?_
 refine zo (λ_=>Zy (bw (off:=1) (N:=32) (n:=16) R42 p.r (λ_=>q) q q q a42 s42 q q B) q q q (Zd q q q)) ?_
 refine Y4 ?_
 refine zo (λ_=>WL.fn q q q q (f56_c) Lw (aG q q q) q q (Zd q q q)) ?_
 refine zo (λ_=>WL.fn q q q q (f65_c _ _) Lw (aG q q q) q q (Zd q q q)) ?_
 exact Y2 Zt
 exact En1 h
 replace h:=cH h t
 apply RT [_,_,_,_,_,_,_,_,_,_,_,_,_,_,_,_,_] [] [] [p01 9,p10 0,p10 1,p10 2,p10 3,p10 3,p10 3,p10 3,p10 3,p10 3,p10 3,p10 3,p10 3,p10 3,p10 3,p20 3 14,p10 15] kR kR q q
 refine Y3 ?_
 refine zo (rc t) ?_
 refine Y9 ?_
 exact Y4 Zt
 exact En1 h
 refine Ci h q (λh=>?_) (λh=>?_)
 exact Rcx 1 q (En1 h)
 refine Rcl 5 q ?_
 obtain⟨P,Q,h⟩:=ae h
 refine Gg 8 60 68 P Q (λh=>?_) (λh=>?_) ?_
 refine Rl 3 q ?_
 replace h:=aD h
 obtain⟨C,h⟩:=h
 exact Zy (ar cw q q (aT C) (aS C)) q q q (Zy (bw (off:=1) (N:=32) (n:=16) R42 p.r (λ_=>q) q q q a42 s42 q q C) q q q (WL.fn q q q q (f66_c) Lw (aG q q q) q q (On 2 8 h)))
 exact On 8 8 h
 exact Rlx 2 q (En1 h)
 refine Ci h q (λh=>?_) (λh=>?_)
 refine Rcl 3 q (WL.s ((NewOs.b (ad l51 z3 q dC dC q q q dC)).does) (Zw q) q q ?_)
 replace h:=aD h
 obtain⟨R,h⟩:=h
 exact WL.s (dx E3 k [f] l51 z3 q dC q q q q (Src.own q) (λ_=>q) (λ_=>q) R) (Zw q) q q (Rlx 4 q (WE.drop 1 (env':=[(1, .d (.pc (R33 t0))),(6, .os 0 (g+1)),(16, .l E45 c.1),(17, .n (List.length c.1:Int)),(18, .n f)]) Sb q Kv (Nat.zero_le _) (En2 h)))
 exact Rcx 3 q (WE.drop 1 (env':=[(1, .d (.pc (R33 t0))),(6, .os 0 g),(16, .l E45 c.1),(17, .n (List.length c.1:Int)),(18, .n f)]) Sb q Kv (Nat.zero_le _) (En2 h))
 rintro F G ⟨y,A,h,hsub,hst⟩
 subst O
 dsimp only at h
 refine WC.sub hsub (WC.weak hst ?_)
 exact Rcx 4 q (Fn3 h)
 exact Rcx 4 q (En2 h)
 rintro F G ⟨w,x,h,hsub,hst⟩
 subst L
 dsimp only at h
 refine WC.sub hsub (WC.weak hst ?_)
 refine Rcx 7 q ?_
 exact WE.freezeX [6,74,2] [] 0 _ q (ai du _) ⟨q,q,q,Zt⟩ Zt (FA h)

end Go.Proofs.YtkbpoeellidgeaaGreatDoor
