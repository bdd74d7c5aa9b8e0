/- The walks of functions that this law reaches. -/
import Derived.Test.YtpodhdopgcedlaaGreatDoorH
set_option linter.unusedVariables false
set_option linter.unusedSimpArgs false
set_option linter.unusedSectionVars false
set_option linter.unnecessarySimpa false
set_option maxHeartbeats 4000000
set_option maxRecDepth 100000
namespace Go.Proofs.YtpodhdopgcedlaaGreatDoor
open Go.Proofs.Tryz
open Go Go.Sk

theorem f9_c{r:Bool}(h:f9=some r):Pu prog 9 [] (.v (.bool r)):=by obtain rfl:=inS h;exact xl

theorem f5_c(t0:ah)(g:Int){r:Bool}(h:f5 t0 g=some r):Pu prog 5 [.ag (R33 t0), .i .i64 g] (.b r):=by
 unfold f5 at h
 refine fI func5 λ_ _=>?_
 refine Rcl 2 q (Go.Sk.Bd q q (Zs _) q (Rll 7 q (wF Z4 (f8_c) Lw Z3 (Rl 1 q ?_))))
 obtain⟨b',ca,h⟩:=ae h
 refine Gg 4 23 27 b' ca (λh=>?_) (λh=>?_) ?_
 exact On 4 4 h
 refine Rl 1 q ?_
 obtain⟨e1,cb,h⟩:=ae h
 exact WL.fn q q q q (f25_c cb) Lw (Wt.yes q q q) q q (On 2 4 h)
 refine Rl 1 q ?_
 apply WL.or 5 (t:=28) (d:=33)
 exact q
 intro e2
 exact Rl 2 q (WL.fn q q q q (f26_c) Lw (Wt.yes q q q) q q (Rl 2 q (WL.nil ⟨q,[_,_,_,_,_],q,q,q⟩)))
 exact Rn 5 5
 refine Rlc 2 q (Ci h q (λh=>?_) λh=>?_)
 refine Rcl 2 q ?_
 obtain⟨e3,cc,h⟩:=ae h
 exact WL.fn q q q q (f9_c cc) Zt (Zw q) q q (Rlx 5 q (FA h))
 refine Rcl 6 q ?_
 obtain⟨a,cd,h⟩:=ae h
 refine wF Z4 (f10_c cd) Lw Z3 (Rll 13 q ?_)
 apply WL.or 4 (t:=43) (d:=47)
 exact q
 intro e4
 exact Rl 1 q (Zy (ab E55 a.1 e36 q q Zl) q q q (Rl 2 q (WL.nil ⟨q,[_,_,_,_],q,q,q⟩)))
 exact Rn 4 4
 refine Rl 1 q ?_
 obtain⟨ci,cj,h⟩:=ae h
 refine Gg 7 48 55 ci cj (λh=>?_) (λh=>?_) ?_
 exact On 7 7 h
 refine Rl 1 q ?_
 obtain⟨e5,S,h⟩:=ae h
 exact Zy (aj e36 q Zl q (ai S) (av cJ S) q) q q q (On 5 7 h)
 refine Rlc 2 q (Ci h q (λh=>Rcx 7 q (FA h)) λh=>?_)
 refine Rcl 6 q (Zq (ab E64 t0.insns e22 q q Zl) q ?_)
 replace h:=aT h
 obtain⟨ck,h⟩:=h
 refine WL.s ((NewOs.b (NewOs.cast (cY l43 z3 q (Nat.succ_pos _) q q ck) (by exact dO (R:=E3) (z:=(0:Int)) q))).does) (Zw q) q q (Rlc 3 q (Jn1 (λ_=> [(1, .n g),(2, .d (.pc (R33 t0))),(5, .l E55 a.1),(7, .os 0 0)]) (λc=> [.os 3 1 0 (eM E3 c)]) h (λcl h=>?_) λc h=>?_))
 refine Rcc 6 q (Ln2 (λp _=> [(1, .n g),(2, .d (.pc (R33 t0))),(5, .l E55 a.1),(7, .os 0 0),(8, .n p)]) (λ_ T=> [.os 3 1 0 (eM E3 T)]) (f5_l1 t0 a cl) h (λ_ _ h=>by rw[f5_l1] at h;cases h) λn p T h=>?_)
 rw[f5_l1] at h
 refine Rcl 5 q (Zq (ab E55 a.1 e36 q q Zl) q (Rlc 3 q (Ci h q (λh=>?_) λh=>?_)))
 refine Rcc 2 q (Jn1 (λ_=> [(1, .n g),(2, .d (.pc (R33 t0))),(5, .l E55 a.1),(7, .os 0 0),(8, .n p)]) (λU=> [.os 3 1 0 (eM E3 U)]) h (λcp h=>?_) λU h=>?_)
 refine Rcc 3 q (aD kR kR (Rq 2 q ?_))
 obtain⟨e6,V,h⟩:=ae h
 refine WQ.qn (aj e36 q Zl q (ai V) (av cJ V) q) q (Rq 4 q ?_)
 obtain⟨cr,W,h⟩:=ae h
 apply WQ.grp 12 (t:=72) (d:=84) (z:=cr)
 exact q
 intro E
 have h:=dp W E
 refine Rq 12 q ?_
 obtain rfl:=Oi h
 exact WQ.nil ⟨[_,_,_,_,_,_,_,_,_,_,_,_],q,q,q⟩
 intro E
 have h:=dq W E
 refine Rq 2 q ?_
 obtain⟨e7,X,h⟩:=ae h
 refine WQ.qy (aj e36 q Zl q (ai X) (av cJ X) q) q q q (Rq 4 q ?_)
 obtain⟨e',Y,h⟩:=ae h
 refine WQ.qy (aj e36 q Zl q (ai Y) (av cJ Y) q) q q q (Rq 4 q ?_)
 obtain rfl:=Oi h
 exact WQ.nil ⟨[_,_,_,_,_,_,_,_,_,_,_,_],q,q,q⟩
 refine Rq 1 q ?_
 obtain⟨c0,Z,h⟩:=ae h
 apply WQ.grp 10 (t:=85) (d:=95) (z:=c0)
 exact q
 intro F
 have h:=dp Z F
 refine Rq 10 q ?_
 obtain rfl:=Oi h
 exact WQ.nil ⟨[_,_,_,_,_,_,_,_,_,_],q,q,q⟩
 intro F
 have h:=dq Z F
 refine Rq 2 q ?_
 obtain⟨fi,aa,h⟩:=ae h
 refine WQ.qy (aj e36 q Zl q (ai aa) (av cJ aa) q) q q q (Rq 4 q (WQ.qy (ab E64 t0.insns e22 q q Zl) q q q (Rq 2 q ?_)))
 obtain rfl:=Oi h
 exact WQ.nil ⟨[_,_,_,_,_,_,_,_,_,_],q,q,q⟩
 refine WQ.nil (Rxc 1 q (Ci h q (λh=>?_) λh=>?_))
 exact Rcx 12 q (FA h)
 refine Rcl 6 q (Ix h e36 cJ q Zl q q λfr _ h=>(Rlc 6 q (Ln2 (λG _=> [(1, .n g),(2, .d (.pc (R33 t0))),(5, .l E55 a.1),(7, .os 0 0),(8, .n p),(9, .n G)]) (λ_ ad=> [.os 3 1 0 (eM E3 ad)]) (f5_l2 a p cp) h (λ_ _ h=>by rw[f5_l2] at h;cases h) λna G ad h=>?_)))
 rw[f5_l2] at h
 refine Rcl 6 q (Ix h e36 cJ q Zl q q λfv _ h=>(Rlc 5 q (Ci h q (λh=>?_) λh=>?_)))
 refine Rcl 7 q ?_
 obtain⟨c5,a0,h⟩:=ae h
 refine Zq (fk e43 q q q a0) q (Zq (bx (fo:=0) q q q a3 (λ_=>q) a0 q) q (Rl 1 q ?_))
 obtain⟨fz,a1,h⟩:=ae h
 exact Zq (fk e43 q q q a1) q (WL.s0 (cE (R:=E3) (k:=1) (i:=G) (fo:=0) (IntKind.i64.wrap (c5+1)) q q q q Zl q q q s3 q (λ_=>q) a1 q q) (Zw q) q (Rlx 8 q (Fn2 h)))
 exact Rcx 5 q (En1 h)
 exact Rcx 5 q (Fn2 h)
 exact Rcx 4 q (En1 h)
 refine Rcl 3 q (WL.s ((NewOs.b (af l43 z3 q dC dC q q q dC)).does) (Zw q) q q (Rlc 3 q ?_))
 replace h:=ay h
 obtain⟨a6,c6,h⟩:=h
 refine bf (λenv' st'=>∃(e:lI),∃(H:Nat),a6 e=some r∧Sub [(2, .d (.pc (R33 t0))),(5, .l E55 a.1),(7, .os 0 0),(10, .os 1 H)] env'∧SLe st' [.os 3 1 0 (eM E3 c), .os 3 1 H (eM E3 e)]) ?_ ?_
 refine Rcc 6 q (bq (λn env' st'=>∃(j:Int),∃(w:lI),∃(I:Nat),f5_l3 t0 a6 n j w=some r∧Sub [(2, .d (.pc (R33 t0))),(5, .l E55 a.1),(7, .os 0 0),(10, .os 1 I),(11, .n j)] env'∧SLe st' [.os 3 1 0 (eM E3 c), .os 3 1 I (eM E3 w)]) (λn=>n) 9223372036854775808 ⟨0,[g],_,h,(Sx q (Sx q (Sx q (Sx q (Sx q (Sub.nil _)))))),⟨Zf,Zf,Zt⟩⟩ ?_)
 rintro n env1 st1 ⟨j,w,I,h,hsub,hst⟩
 rcases n with _|n
 rw[f5_l3] at h;cases h
 rw[f5_l3] at h
 refine WC.sub hsub (WC.weak hst ?_)
 refine Rcl 5 q (Zq (bD (aY E3) w e43 q q q) q (Rlc 3 q (Ci h q (λh=>?_) λh=>?_)))
 refine Rcc 2 q ?_
 replace h:=ay h
 obtain⟨a7,c7,h⟩:=h
 refine bf (λenv' st'=>∃(J:lI),∃(K:Nat),a7 J=some r∧Sub [(2, .d (.pc (R33 t0))),(5, .l E55 a.1),(7, .os 0 0),(10, .os 1 K),(11, .n j)] env'∧SLe st' [.os 3 1 0 (eM E3 c), .os 3 1 K (eM E3 J)]) ?_ ?_
 refine Rcc 2 q ?_
 obtain⟨f0,a8,h⟩:=ae h
 obtain⟨x,c8,h⟩:=ae h
 apply RT [_,_,_,_,_,_,_] [] [] [p01 2,p01 10,p01 11,p20 1 2,p10 3,p20 0 4,p10 5] kR kR q q
 refine Y3 ?_
 refine zo (λ_=>Zq (fk e43 q q q a8) q (Zd q q q)) ?_
 refine zo (λ_=>Zq (bx (fo:=0) q q q a3 (λ_=>q) a8 q) q (Zd q q q)) ?_
 refine zo (λ_=>wF Z4 (f13_c c8) Lw Z3 (Zd q q q)) ?_
 exact Y1 Zt
 refine Rxc 7 q (bq (λna env' st'=>∃(y:Int),∃(L:lI),∃(B:Nat),f5_l4 t0 a7 x na y L=some r∧Sub [(2, .d (.pc (R33 t0))),(5, .l E55 a.1),(7, .os 0 0),(10, .os 1 B),(11, .n j),(12, .l E3 x),(13, .n y)] env'∧SLe st' [.os 3 1 0 (eM E3 c), .os 3 1 B (eM E3 L)]) (λn=>n) 9223372036854775808 ⟨0,w,_,h,(Sx q (Sx q (Sx q (Sx q (Sx q (Sx q (Sx q (Sub.nil _)))))))),⟨Zf,Zf,Zt⟩⟩ ?_)
 rintro na env1 st1 ⟨y,L,B,h,hsub,hst⟩
 rcases na with _|na
 rw[f5_l4] at h;cases h
 rw[f5_l4] at h
 refine WC.sub hsub (WC.weak hst ?_)
 refine Rcl 5 q (Zq (ab E3 x e43 q q Zl) q (Rlc 3 q (Ci h q (λh=>?_) λh=>?_)))
 refine Rcc 2 q ?_
 replace h:=ay h
 obtain⟨c',dd,h⟩:=h
 refine bf (λenv' st'=>∃(M:lI),∃(N:Nat),c' M=some r∧Sub [(2, .d (.pc (R33 t0))),(5, .l E55 a.1),(7, .os 0 0),(10, .os 1 N),(11, .n j),(12, .l E3 x),(13, .n y)] env'∧SLe st' [.os 3 1 0 (eM E3 c), .os 3 1 N (eM E3 M)]) ?_ ?_
 refine Rcc 3 q (aD kR kR (Rq 2 q ?_))
 obtain⟨f1,a',h⟩:=ae h
 refine WQ.qn (aj e43 q Zl q (ai a') (av aZ a') q) q (Rq 3 q ?_)
 obtain⟨df,bb,h⟩:=ae h
 apply WQ.grp 9 (t:=141) (d:=150) (z:=df)
 exact q
 intro O
 have h:=dp bb O
 refine Rq 9 q ?_
 obtain rfl:=Oi h
 exact WQ.nil ⟨[_,_,_,_,_,_,_,_,_],q,q,q⟩
 intro O
 have h:=dq bb O
 refine Rq 2 q ?_
 obtain⟨f2,bk,h⟩:=ae h
 refine WQ.qy (aj e43 q Zl q (ai bk) (av aZ bk) q) q q q (Rq 3 q (WQ.qy (ab E64 t0.insns e22 q q Zl) q q q (Rq 2 q ?_)))
 obtain rfl:=Oi h
 exact WQ.nil ⟨[_,_,_,_,_,_,_,_,_],q,q,q⟩
 refine WQ.nil (Rxc 1 q (Ci h q (λh=>?_) λh=>?_))
 exact Rcx 16 q (FA h)
 refine Rcl 7 q (Ix h e43 aZ q Zl q q λf4 _ h=>(Rl 1 q ?_))
 obtain⟨dk,dr,h⟩:=ae h
 refine dX [1] q q q q (f27w_c dr) Lw q dC (Ro q) ⟨q,Zt⟩ Kv q (λ_=>Kv) (λ_=>(Ro q)) (Zw q) q q (λf6=>?_)
 refine Rlc 3 q (Ci h q (λh=>?_) λh=>?_)
 refine Rcl 4 q (Ix h e43 aZ q Zl q q λds _ h=>(Rl 1 q (WL.s ((NewOs.b (af l43 z3 q dC dC q q q dC)).does) (Zw q) q q ?_)))
 replace h:=aT h
 obtain⟨dS,h⟩:=h
 exact WL.s (bj E3 dk.2 [ds] l43 z3 q dC q q q q (Src.own q) (λ_=>q) (λ_=>q) dS) (Zw q) q q (Rlx 3 q (WE.drop 2 (env':=[(2, .d (.pc (R33 t0))),(5, .l E55 a.1),(7, .os 0 0),(10, .os 1 (B+1)),(11, .n j),(12, .l E3 x),(13, .n y)]) Sb q Kv (Nat.zero_le _) (En2 h)))
 exact Rcx 2 q (En2 h)
 rintro env1 st1 ⟨M,N,h,hsub,hst⟩
 subst dd
 dsimp only at h
 refine WC.sub hsub (WC.weak hst ?_)
 exact Rcx 5 q (Fn3 h)
 exact Rcx 5 q (En2 h)
 rintro env1 st1 ⟨J,K,h,hsub,hst⟩
 subst c7
 dsimp only at h
 refine WC.sub hsub (WC.weak hst ?_)
 exact Rcx 5 q (Fn3 h)
 exact Rcx 4 q (En2 h)
 rintro env1 st1 ⟨e,H,h,hsub,hst⟩
 subst c6
 dsimp only at h
 refine WC.sub hsub (WC.weak hst ?_)
 refine Jn0 [(2, .d (.pc (R33 t0))),(5, .l E55 a.1),(10, .l E3 e)] [.os 3 1 0 (eM E3 c), .z] h (λdT h=>?_) (λh=>?_)
 refine Rcc 1 q ?_
 refine WC.freezeX [10] [] 1 _ q (an aZ _) ⟨q,Zt⟩ Zt (Rcc 5 q (Ln1 (λbo=> [(2, .d (.pc (R33 t0))),(5, .l E55 a.1),(7, .os 0 0),(10, .l E3 e),(14, .n bo)]) (λ_=> [.os 3 1 0 (eM E3 c), .z]) (f5_l5 t0 c e dT) h (λ_ h=>by rw[f5_l5] at h;cases h) λn bo h=>?_))
 rw[f5_l5] at h
 refine Rcl 6 q (Zq (ab E64 t0.insns e22 q q Zl) q (Rlc 3 q (Ci h q (λh=>?_) λh=>?_)))
 refine Rcc 5 q (aD kR kR (Rq 2 q ?_))
 obtain⟨f7,d0,h⟩:=ae h
 refine WQ.q (YieldsQ.fn q q q q q (f27_c d0) Lw) (Zw q) q q (Rq 2 q ?_)
 obtain⟨gl,bs,h⟩:=ae h
 refine WQ.qn (fk e43 q q q bs) q (WQ.qn (bx (fo:=0) q q q a3 (λ_=>q) bs q) q (Rq 1 q (WQ.qn (ye underlying4 q q) q (Rq 1 q ?_))))
 obtain⟨d1,b0,h⟩:=ae h
 apply WQ.grp 6 (t:=181) (d:=187) (z:=d1)
 exact q
 intro P
 have h:=dp b0 P
 refine Rq 6 q ?_
 obtain rfl:=Oi h
 exact WQ.nil ⟨[_,_,_,_,_,_],q,q,q⟩
 intro P
 have h:=dq b0 P
 refine Rq 2 q ?_
 obtain⟨gm,b1,h⟩:=ae h
 refine WQ.qy (fk e43 q q q b1) q q q (WQ.qy (bx (fo:=0) q q q a3 (λ_=>q) b1 q) q q q (Rq 2 q ?_))
 obtain rfl:=Oi h
 exact WQ.nil ⟨[_,_,_,_,_,_],q,q,q⟩
 refine WQ.nil (Rxc 1 q (Ci h q (λh=>?_) λh=>?_))
 exact Rcx 11 q (FA h)
 exact Rcx 8 q (Fn1 h)
 exact Rcx 4 q (En0 h)
 refine Jn0 [] [.os 3 1 0 (eM E3 c), .z] h (λd' h=>?_) (λh=>?_)
 refine Rcc 6 q (Ln1 (λf=> [(2, .d (.pc (R33 t0))),(5, .l E55 a.1),(10, .l E3 e),(15, .n f)]) (λ_=> [.os 3 1 0 (eM E3 c), .z]) (f5_l6 t0 a e d') h (λ_ h=>by rw[f5_l6] at h;cases h) λn f h=>?_)
 rw[f5_l6] at h
 refine Rcl 5 q (Zq (ab E55 a.1 e36 q q Zl) q (Rlc 3 q (Ci h q (λh=>?_) λh=>?_)))
 refine Rcc 2 q (Jn0 [(2, .d (.pc (R33 t0))),(5, .l E55 a.1),(10, .l E3 e),(15, .n f)] [.os 3 1 0 (eM E3 c), .z] h (λec h=>?_) λh=>?_)
 refine Rcc 1 q (Jn0 [(2, .d (.pc (R33 t0))),(5, .l E55 a.1),(10, .l E3 e),(15, .n f)] [.os 3 1 0 (eM E3 c), .z] h (λee h=>?_) λh=>?_)
 refine Rcl 4 q (Ix h e36 cJ q Zl q q λgs _ h=>(Rlc 6 q (Ln1 (λm=> [(2, .d (.pc (R33 t0))),(5, .l E55 a.1),(10, .l E3 e),(15, .n f),(16, .n m)]) (λ_=> [.os 3 1 0 (eM E3 c), .z]) (f5_l7 t0 a e f ee) h (λ_ h=>by rw[f5_l7] at h;cases h) λna m h=>?_)))
 rw[f5_l7] at h
 refine Rcl 7 q (Ix h e36 cJ q Zl q q λgx _ h=>(Rlc 5 q (Ci h q (λh=>?_) λh=>?_)))
 refine Rcc 2 q (Jn0 [(2, .d (.pc (R33 t0))),(5, .l E55 a.1),(10, .l E3 e),(15, .n f),(16, .n m)] [.os 3 1 0 (eM E3 c), .z] h (λei h=>?_) λh=>?_)
 refine Rcl 5 q ?_
 obtain⟨ej,el,h⟩:=ae h
 refine wF Z4 (f13_c el) Lw Z3 (Rll 7 q (Zq (ab E3 ej e43 q q Zl) q (Rl 2 q ?_)))
 obtain⟨em,en,h⟩:=ae h
 refine Gg 7 215 222 em en (λh=>?_) (λh=>?_) ?_
 exact On 7 7 h
 refine Rl 1 q ?_
 obtain⟨g0,b2,h⟩:=ae h
 exact Zy (aj e43 q Zl q (ai b2) (av aZ b2) q) q q q (On 5 7 h)
 refine Rlc 2 q (Ci h q (λh=>Rcx 17 q (FA h)) λh=>?_)
 refine Rcc 8 q (Ln1 (λQ=> [(2, .d (.pc (R33 t0))),(5, .l E55 a.1),(10, .l E3 e),(15, .n f),(16, .n m),(18, .n Q)]) (λ_=> [.os 3 1 0 (eM E3 c), .z]) (f5_l8 t0 e m ei) h (λ_ h=>by rw[f5_l8] at h;cases h) λnb Q h=>?_)
 rw[f5_l8] at h
 refine Rcl 5 q (Zq (ab E3 e e43 q q Zl) q (Rlc 3 q (Ci h q (λh=>?_) λh=>?_)))
 refine Rcc 4 q (Jn1 (λb3=> [(2, .d (.pc (R33 t0))),(5, .l E55 a.1),(10, .l E3 e),(15, .n f),(16, .n m),(18, .n Q),(245, .d (D.b b3))]) (λ_=> [.os 3 1 0 (eM E3 c), .z]) h (λ_ h=>?_) λb3 h=>?_)
 obtain⟨er,C,h⟩:=ae h
 rcases nD (!decide (er=m)) with A|A
 replace h:=dp h A
 obtain⟨g1,b4,h⟩:=ae h
 obtain⟨g2,es,h⟩:=ae h
 obtain⟨g3,et,h⟩:=ae h
 apply RT [_,_,_,_,_,_,_,_,_,_,_,_,_,_,_,_,_] [] [] [p01 10,p01 18,p20 0 1,p10 2,p01 16,p20 3 4,p10 5,p11 6 2,p11 6 10,p11 6 18,p30 8 9 6,p20 10 6,p30 7 11 6,p11 6 16,p20 13 6,p30 12 14 6,p20 6 15] kR kR q q
 refine Y2 ?_
 refine zo (λ_=>Zq (aj e43 q Zl q (ai C) (av aZ C) q) q (Zd q q q)) ?_
 refine Y3 ?_
 refine zo (rc A) ?_
 refine Y3 ?_
 refine zo (λ_=>Zy (aj e43 q Zl q (ai b4) (av aZ b4) q) q q q (Zd q q q)) ?_
 refine Y1 ?_
 refine zo (λ_=>WL.fn q q q q (f13_c es) Lw (Wt.yes q q q) q q (Zd q q q)) ?_
 refine Y2 ?_
 refine zo (λ_=>WL.fn q q q q (f27_c et) Lw (Wt.yes q q q) q q (Zd q q q)) ?_
 exact Y1 Zt
 exact En1 h
 replace h:=dq h A
 apply RT [_,_,_,_,_,_,_,_,_,_,_,_,_,_,_,_,_] [] [] [p01 10,p01 18,p20 0 1,p10 2,p01 16,p20 3 4,p10 5,p10 6,p10 6,p10 6,p10 6,p10 6,p10 6,p10 6,p10 6,p10 6,p20 6 15] kR kR q q
 refine Y2 ?_
 refine zo (λ_=>Zq (aj e43 q Zl q (ai C) (av aZ C) q) q (Zd q q q)) ?_
 refine Y3 ?_
 refine zo (rc A) ?_
 refine Y9 ?_
 exact Y1 Zt
 exact En1 h
 refine Ci h q (λh=>?_) (λh=>?_)
 exact Rcx 20 q (FA h)
 exact Rcx 8 q (Fn1 h)
 exact Rcx 5 q (En0 h)
 exact Rcx 5 q (Fn1 h)
 exact Rcx 4 q (En0 h)
 refine Rcc 1 q ?_
 obtain⟨g4,b5,h⟩:=ae h
 obtain⟨b6,ew,h⟩:=ae h
 apply RT [_,_,_,_,_,_,_,_,_] [] [] [p01 2,p01 5,p01 15,p20 1 2,p10 3,p10 4,p10 5,p20 0 6,p10 7] kR kR q q
 refine Y3 ?_
 refine zo (λ_=>Zq (aj e36 q Zl q (ai b5) (av cJ b5) q) q (Zd q q q)) ?_
 refine Y3 ?_
 refine zo (λ_=>wF Z4 (f13_c ew) Lw Z3 (Zd q q q)) ?_
 exact Y1 Zt
 refine Rxc 7 q (Ln1 (λb7=> [(2, .d (.pc (R33 t0))),(5, .l E55 a.1),(10, .l E3 e),(15, .n f),(19, .l E3 b6),(20, .n b7)]) (λ_=> [.os 3 1 0 (eM E3 c), .z]) (f5_l9 a f ec b6) h (λ_ h=>by rw[f5_l9] at h;cases h) λna b7 h=>?_)
 rw[f5_l9] at h
 refine Rcl 5 q (Zq (ab E55 a.1 e36 q q Zl) q (Rlc 3 q (Ci h q (λh=>?_) λh=>?_)))
 refine Rcc 5 q (aD kR kR (Rq 2 q ?_))
 obtain⟨g5,b8,h⟩:=ae h
 refine WQ.qn (aj e36 q Zl q (ai b8) (av cJ b8) q) q (Rq 3 q ?_)
 obtain⟨g6,ex,h⟩:=ae h
 refine WQ.q (YieldsQ.fn q q q q q (f27_c ex) Lw) (Zw q) q q (Rq 3 q ?_)
 obtain⟨g7,b9,h⟩:=ae h
 refine WQ.qn (aj e36 q Zl q (ai b9) (av cJ b9) q) q (Rq 2 q ?_)
 obtain⟨g8,ey,h⟩:=ae h
 refine WQ.q (YieldsQ.fn q q q q q (f27_c ey) Lw) (Zw q) q q (WQ.qn (ye underlying4 q q) q (WQ.nil (Rxc 1 q (Ci h q (λh=>?_) λh=>?_))))
 exact Rcx 15 q (FA h)
 exact Rcx 8 q (Fn1 h)
 exact Rcx 5 q (En0 h)
 exact Rcx 5 q (Fn1 h)
 exact Rcx 4 q (En0 h)
 refine Rcl 2 q ?_
 obtain⟨g9,e0,h⟩:=ae h
 exact WL.fn q q q q (f9_c e0) Zt (Zw q) q q (Rlx 4 q (FA h))

end Go.Proofs.YtpodhdopgcedlaaGreatDoor
