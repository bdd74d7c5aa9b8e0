/- The walks of functions. -/
import Derived.Test.YtkbahggepncliaaGreatDoorX
import Derived.Test.YtkbahggepncliaaGreatDoorWb
set_option linter.unusedVariables false
set_option linter.unusedSimpArgs false
set_option linter.unusedSectionVars false
set_option linter.unnecessarySimpa false
set_option maxHeartbeats 4000000
set_option maxRecDepth 100000
namespace Go.Proofs.YtkbahggepncliaaGreatDoor
open Tryz
open Go Go.Sk

theorem f49_c{t0:aj}{r:lL}(h:f49 t0=some r):Pu prog 49 [.ag (R38 t0)] (.sl (List.map E42 r)):=by
 unfold f49 at h
 refine fI func49 λ_ _=>?_
 refine Rcl 2 q (Bd q q (Zs _) q (Rll 7 q ?_))
 obtain⟨bk,X,h⟩:=ab h
 refine wF Z4 (f48_c X) Lw Z3 (Rlc 3 q (Ci h q (λh=>?_) λh=>?_))
 exact Rcx 7 q (FA h)
 refine Rcl 5 q (WL.nil_os 3 42 1 q (dK (kU 2 1) (St q (Rlc 2 q ?_))))
 replace h:=aC h
 obtain⟨Q,Y,h⟩:=h
 refine cB (λenv' st'=>∃(a:Nat),∃(p:lL),∃(I:Nat),Q p=some r∧Sub [(1, .d (.pc (R38 t0))),(3, .os 0 a)] env'∧SLe st' [oS a 1 I p,fS I p]) ?_ ?_
 refine Rcc 6 q (cX (λn env' st'=>∃(f:Int),∃(c:Nat),∃(l96:lL),∃(g:Nat),f49_l1 t0 Q n f l96=some r∧Sub [(1, .d (.pc (R38 t0))),(3, .os 0 c),(4, .n f)] env'∧SLe st' [oS c 1 g l96,fS g l96]) (λn=>n) 9223372036854775808 ⟨0,_,([]:lL),_,h,(Sx q (Sx q (Sx q (Sub.nil _)))),⟨Zf,Zf,Zt⟩⟩ ?_)
 rintro n y st1 ⟨f,c,l96,g,h,hsub,hst⟩
 rcases n with _|n
 rw[f49_l1] at h;cases h
 rw[f49_l1] at h
 refine WC.sub hsub (WC.weak hst ?_)
 refine Rcl 6 q (Zq (ac br t0.objs e33 q q Zl) q (Rlc 3 q (Ci h q (λh=>?_) λh=>?_)))
 refine Rcc 2 q ?_
 replace h:=aC h
 obtain⟨Z,ad,h⟩:=h
 refine cB (λenv' st'=>∃(A:lL),∃(J:Nat),Z A=some r∧Sub [(1, .d (.pc (R38 t0))),(3, .os 0 (c+1)),(4, .n f)] env'∧SLe st' [.os 42 1 (c+1) (bt 1 J (List.length A)),fS J A, .z, .z]) ?_ ?_
 refine Rcl 6 q (Ix h e33 bD q Zl q q λbo _ h=>(Rl 2 q ?_))
 replace h:=aD h
 obtain⟨ax,h⟩:=h
 refine WL.s ((NewOs.b (NewOs.cast (eh l42 z2 q (Nat.succ_pos _) q q ax) (by exact fF (R:=E2) (z:=(0:Int)) q))).does) (Zw q) q q (Rlc 3 q (Jn1 (λ_=> [(1, .d (.pc (R38 t0))),(3, .os 0 c),(4, .n f),(5, .os 2 0)]) (λB=> [oS c 1 g l96,fS g l96,uS 0 B]) h (λa0 h=>?_) λB h=>?_))
 refine Rcc 6 q (Ln2 (λK _=> [(1, .d (.pc (R38 t0))),(3, .os 0 c),(4, .n f),(5, .os 2 0),(6, .n K)]) (λ_ M=> [oS c 1 g l96,fS g l96,uS 0 M]) (f49_l2 t0 f a0) h (λ_ _ h=>by rw[f49_l2] at h;cases h) λna K M h=>?_)
 rw[f49_l2] at h
 refine Rcl 5 q (Zq (d8 (ba E2) M e42 q q q) q (Rl 2 q ?_))
 obtain⟨a1,a6,h⟩:=ab h
 refine Gg 8 29 37 a1 a6 (λh=>?_) (λh=>?_) ?_
 refine Rl 3 q ?_
 obtain⟨bs,S,h⟩:=ab h
 refine Zy (ai e33 q Zl q (ae S) (az bD S) q) q q q (Rl 1 q ?_)
 obtain⟨b0,a7,h⟩:=ab h
 exact WL.fn q q q q (f34_c a7) Lw (aU q q q) q q (On 2 8 h)
 exact On 8 8 h
 refine Rlc 2 q (Ci h q (λh=>?_) λh=>?_)
 refine Rcl 10 q (Ix h e33 bD q Zl q q λa8 _ h=>(Rl 2 q ?_))
 obtain⟨b1,T,h⟩:=ab h
 exact Zq (iX e42 q q q T) q (WL.s0 (cF (R:=E2) (k:=1) (i:=K) (fo:=0) a8.lo q q q q Zl q q q s2 q (λ_=>q) T q q) (Zw q) q (Rlx 8 q (Fn2 h)))
 exact Rcx 4 q (En1 h)
 refine Rcl 3 q (WL.s (((NewOs.b (iM l62 z42 q dC dC q q q dC))).does) (Zw q) q q ?_)
 replace h:=aD h
 obtain⟨a',h⟩:=h
 exact WL.s (tI l96 B l62 z42 q q q q q q q a') (Zw q) q q (dK (kV (E:=E2) (L:=l96) (x':=B) 0 1 2 q q q q q q) (St q (Rlx 3 q (En2 h))))
 rintro y st1 ⟨A,J,h,hsub,hst⟩
 subst ad
 dsimp only at h
 refine WC.sub hsub (WC.weak hst ?_)
 exact Rcx 5 q (WE.drop 2 (env':=[(1, .d (.pc (R38 t0))),(3, .os 0 (c+1)),(4, .n (IntKind.i64.wrap (f+1)))]) Sb q Kv (Nat.zero_le _) (Fn4 h))
 exact Rcx 4 q (En3 h)
 rintro y st1 ⟨a,p,I,h,hsub,hst⟩
 subst Y
 dsimp only at h
 refine WC.sub hsub (WC.weak hst ?_)
 replace h:=aC h
 obtain⟨U,bb,h⟩:=h
 refine cB (λenv' st'=>∃(t:lL),∃(N:Nat),U t=some r∧Sub [(3, .os 0 a)] env'∧SLe st' [oS a 1 N t,fS N t]) ?_ ?_
 refine Rcc 6 q (cX (λn env' st'=>∃(C:Int),∃(e:lL),∃(j:Nat),f49_l3 t0 U n C e=some r∧Sub [(1, .d (.pc (R38 t0))),(3, .os 0 a),(7, .n C)] env'∧SLe st' [oS a 1 j e,fS j e]) (λn=>n) 9223372036854775808 ⟨0,p,_,h,(Sx q (Sx q (Sx q (Sub.nil _)))),⟨Zf,Zf,Zt⟩⟩ ?_)
 rintro n y st1 ⟨C,e,j,h,hsub,hst⟩
 rcases n with _|n
 rw[f49_l3] at h;cases h
 rw[f49_l3] at h
 refine WC.sub hsub (WC.weak hst ?_)
 refine Rcl 6 q (Zq (ac bO t0.inits e34 q q Zl) q (Rlc 3 q (Ci h q (λh=>?_) λh=>?_)))
 refine Rcc 4 q ?_
 obtain⟨m,V,h⟩:=ab h
 obtain⟨F,w,h⟩:=ab h
 obtain⟨O,G,h⟩:=ab h
 obtain⟨P,H,h⟩:=ab h
 obtain⟨b2,W,h⟩:=ab h
 apply RT [_,_,_,_,_,_,_,_,_,_,_,_,_,_,_,_,_,_,_,_,_,_, .u] [8,22] [[.os 42 1 a (List.set (bt 1 (j+1) (List.length e)) (Int.toNat m.o) [.os 2 0]), .fam 2 1 (j+1) (bi E2 (List.set e (Int.toNat m.o) [])),uS 0 F],[.os 42 1 a (List.set (bt 1 (j+1) (List.length e)) (Int.toNat m.o) [.os 2 0]), .fam 2 1 (j+1) (bi E2 (List.set e (Int.toNat m.o) [])), .os 2 1 0 (eM E2 (List.set F (Int.toNat O.slot) P.v))]] [p01 3,p01 1,p10 1,p01 7,p20 2 3,p10 4,p10 5,p20 0 6,p10 7,u01 1,u10 9,u01 7,u20 10 11,u10 12,u10 13,u01 1,u10 15,u01 7,u20 16 17,u10 18,u10 19,q20 8 14 1,q20 21 20 1] kR kR q q
 refine Y4 ?_
 refine zo (λ_=>Zq (ai e34 q Zl q (ae V) (az eW V) q) q (Zd q q q)) ?_
 refine Y2 ?_
 refine zo (λ_=>Zq (bZ e62 q q q (ae w) (cD w)) q (Zd q q q)) ?_
 refine zo (λ_=>dK (fT (L:=e) (x:=F) (i:=m.o) 0 1 q q q w) (Zq (gt (i:=m.o) q q a42 (bm w)) q (Zd q q q))) ?_
 refine X2c ?_
 refine⟨⟨λ_=>Zq (ai e34 q Zl q (ae G) (az eW G) q) q (Zd q q q),λ_=>Zq (ai e34 q Zl q (ae G) (az eW G) q) q (Zd q q q),Zt⟩,?_⟩
 refine X2d ?_
 refine X2a ?_
 refine⟨⟨λ_=>Zq (ai e34 q Zl q (ae H) (az eW H) q) q (Zd q q q),λ_=>Zq (ai e34 q Zl q (ae H) (az eW H) q) q (Zd q q q),Zt⟩,?_⟩
 refine X2b ?_
 refine zo (λ_=>Zq (iX e42 q q q W) q (Zd q q q)) ?_
 exact zo (λ_=>WL.s0 (cF (R:=E2) (k:=1) (i:=O.slot) (fo:=0) P.v q q q q Zl q q q s2 q (λ_=>q) W q q) (Zw q) q (aJ q q)) Zt
 exact mM (fU (L0:=e) (x':=(List.set F (Int.toNat O.slot) P.v)) 0 1 2 q q q q q (bm w)) (Rxx 7 q (WE.drop 2 (env':=[(1, .d (.pc (R38 t0))),(3, .os 0 a),(7, .n (IntKind.i64.wrap (C+1)))]) Sb q Kv (Nat.zero_le _) (Fn3 h)))
 exact Rcx 4 q (En2 h)
 rintro y st1 ⟨t,N,h,hsub,hst⟩
 subst bb
 dsimp only at h
 refine WC.sub hsub (WC.weak hst ?_)
 refine Rcx 7 q (mM (mi (E:=E2) (R':=E2) (L:=t) 0 1 dx q q q) ?_)
 exact WE.freezeX [3,82,2] [] 0 _ q (al fc _) ⟨q,q,q,Zt⟩ Zt (FA h)

theorem f16_c{t0:aj}{a:lI}{r:Mem×Int}(h:f16 t0 a=some r):Pu prog 16 [.ag (R38 t0), .sl (List.map E2 a)] (.tu [.ag (R64 r.1), .i .i64 r.2]):=by
 unfold f16 at h
 refine fI func16 λ_ _=>?_
 refine Rcl 2 q (Bd q q (Zs _) q (Al z64 q (Rll 7 q ?_)))
 obtain⟨f,c,h⟩:=ab h
 refine wF Z4 (f48_c c) Lw Z3 (Rlc 3 q (Ci h q (λh=>?_) λh=>?_))
 refine Rcl 2 q (Zq (aa p64 z64 q q) q (sS Z6 s64 Z2 (St q (Rlx 5 q ?_))))
 obtain rfl:=Oi h
 exact am (rs2 q (aO q q a64 s64 q) (ap q)) (aK ⟨(ah ⟨Le.nil,Le.nil,Le.nil,Le.nil,Le.nil,Le.nil,Le.nil,Zl,Le.nil,Le.nil,Le.nil,Le.nil,Le.nil,Le.nil,Zt⟩),Zl,Zt⟩)
 refine Rcc 3 q ?_
 obtain⟨d,e,h⟩:=ab h
 apply RT [_,_,_,_,_, .u,_] [5] [[.row 64 [.l E45 t0.insns, .l bq t0.handlers, .l bT t0.loops, .l bS t0.selects, .l E96 t0.lists, .l br t0.objs, .l bO t0.inits, .n t0.excs, .l E27 t0.tasks, .l bI t0.prots, .l bY t0.checks, .l E42 d, .l E2 a,sN]]] [p01 2,p01 2,p10 1,p01 1,p30 0 2 3,p11 4 4,q00 1] kR kR q q
 refine Y2 ?_
 refine zo (λ_=>wF Z4 (f49_c e) Lw Z3 (Zd q q q)) ?_
 refine Y1 ?_
 refine zo (λ_=>Zq (aa p64 z64 q q) q (Zd q q q)) ?_
 refine zo (λ_=>sS Z6 s64 Z2 (aJ q q)) ?_
 exact Y1 Zt
 refine Rxx 2 q ?_
 obtain rfl:=Oi h
 exact am (rs2 q (aO q q a64 s64 q) (ap q)) (aK ⟨(ah ⟨Zl,Zl,Zl,Zl,Zl,Zl,Zl,Zl,Zl,Zl,Zl,Zl,Zl,Le.nil,Zt⟩),Zl,Zt⟩)

theorem f31_c{t0:aj}{r1:aq}:Pu prog 31 [.ag (R38 t0), .ag (R41 r1)] (.b (f31 t0 r1)):=by
 generalize h:f31 t0 r1=r
 unfold f31 at h
 refine fI func31 λ_ _=>?_
 refine Rcl 2 q (Bd q q (Zs _) q (Bd q q (Zs _) q (Rll 8 q (wF Z4 (f30_c) Lw Z3 (Rl 1 q ?_)))))
 refine AG 4 9 13 4 4 ?_
 refine Rl 1 q ?_
 refine AG 6 14 20 6 6 ?_
 refine Rl 1 q ?_
 refine AG 4 21 25 4 4 ?_
 refine Rl 1 q ?_
 refine AG 4 26 30 4 4 ?_
 exact Rlx 4 q (FB h)

theorem f50_c{o0:Int}:Pu prog 50 [.i .u8 o0] (.b (f50 o0)):=by
 generalize h:f50 o0=r
 unfold f50 at h
 refine fI func50 λ_ _=>?_
 refine Rcl 10 q ?_
 refine AG 3 5 8 3 3 ?_
 exact Rlx 4 q (FB h)

theorem f64_c{m0:Mem}{o1:Int}{k2:Int}{v3:Int}{r:Mem×Bool}(h:f64 m0 o1 k2 v3=some r):Pu prog 64 [.ag (R64 m0), .i .i64 o1, .i .i64 k2, .i .i64 v3] (.tu [.ag (R64 r.1), .b r.2]):=by
 unfold f64 at h
 refine fI func64 λ_ _=>?_
 refine Rcl 2 q (Bx q q q (Al z64 q (Rll 10 q (Ix h e33 bD q Zl q q λH _ h=>(Rl 2 q ?_)))))
 obtain⟨I,A,h⟩:=ab h
 refine wF Z4 (f34_c A) Lw Z3 (Rlc 3 q (Ci h q (λh=>?_) λh=>?_))
 refine Rcl 3 q (sS Z6 s64 Z2 (St q (Rlx 5 q ?_)))
 obtain rfl:=Oi h
 exact am (rs2 q (aO q q a64 s64 q) (ap q)) (aK ⟨(ah (Zs _)),Zl,Zt⟩)
 refine Rcl 5 q (WL.nil_os 10 42 1 q (dK (kU 2 1) (St q (Rlc 2 q ?_))))
 replace h:=aC h
 obtain⟨w,B,h⟩:=h
 refine cB (λenv' st'=>∃(f:Nat),∃(a:lL),∃(c:Nat),w a=some r∧Sub [(1, .n o1),(2, .n k2),(3, .n v3),(4, .pt 0 0),(8, .pt 1 0),(10, .os 2 f)] env'∧SLe st' [.row 64 [.l E45 m0.t.insns, .l bq m0.t.handlers, .l bT m0.t.loops, .l bS m0.t.selects, .l E96 m0.t.lists, .l br m0.t.objs, .l bO m0.t.inits, .n m0.t.excs, .l E27 m0.t.tasks, .l bI m0.t.prots, .l bY m0.t.checks, .l E42 m0.slots, .l E2 m0.in_, .l E2 m0.out], .row 64 [sN,sN,sN,sN,sN,sN,sN, .n 0,sN,sN,sN,sN,sN,sN],oS f 3 c a,fS c a]) ?_ ?_
 refine Rcc 6 q (cX (λn env' st'=>∃(j:Int),∃(k:Nat),∃(d:lL),∃(m:Nat),f64_l1 m0 w n j d=some r∧Sub [(1, .n o1),(2, .n k2),(3, .n v3),(4, .pt 0 0),(8, .pt 1 0),(10, .os 2 k),(11, .n j)] env'∧SLe st' [.row 64 [.l E45 m0.t.insns, .l bq m0.t.handlers, .l bT m0.t.loops, .l bS m0.t.selects, .l E96 m0.t.lists, .l br m0.t.objs, .l bO m0.t.inits, .n m0.t.excs, .l E27 m0.t.tasks, .l bI m0.t.prots, .l bY m0.t.checks, .l E42 m0.slots, .l E2 m0.in_, .l E2 m0.out], .row 64 [sN,sN,sN,sN,sN,sN,sN, .n 0,sN,sN,sN,sN,sN,sN],oS k 3 m d,fS m d]) (λn=>n) 9223372036854775808 ⟨0,_,([]:lL),_,h,(Sx q (Sx q (Sx q (Sx q (Sx q (Sx q (Sx q (Sub.nil _)))))))),⟨Zp,Zp,Zf,Zf,Zt⟩⟩ ?_)
 rintro n C st1 ⟨j,k,d,m,h,hsub,hst⟩
 rcases n with _|n
 rw[f64_l1] at h;cases h
 rw[f64_l1] at h
 refine WC.sub hsub (WC.weak hst ?_)
 refine Rcl 6 q (Zq (ac E42 m0.slots e62 q q Zl) q (Rlc 3 q (Ci h q (λh=>?_) λh=>?_)))
 refine Rcl 7 q (WL.nil_os 12 2 1 q (Rll 8 q (Ix h e62 fc q Zl q q λp _ h=>(Rl 1 q ?_))))
 replace h:=aD h
 obtain⟨F,h⟩:=h
 refine WL.s (db E2 [] p l42 z2 q dC q q q q (dc Zl dx λ_=>q) (λ_=>q) (λ_=>q) F) (Zw q) q q (WL.s (((NewOs.b (iM l62 z42 q dC dC q q q dC))).does) (Zw q) q q ?_)
 replace h:=aD h
 obtain⟨G,h⟩:=h
 exact WL.s (tI d ([]++p) l62 z42 q q q q q q q G) (Zw q) q q (dK (kV (E:=E2) (L:=d) (x':=([]++p)) 2 3 4 q q q q q q) (St q (Rlx 9 q (WE.drop 4 (env':=[(1, .n o1),(2, .n k2),(3, .n v3),(4, .pt 0 0),(8, .pt 1 0),(10, .os 2 (k+1)),(11, .n (IntKind.i64.wrap (j+1)))]) Sb q Kv (Nat.zero_le _) (Fn4 h)))))
 exact Rcx 4 q (En3 h)
 rintro C st1 ⟨f,a,c,h,hsub,hst⟩
 subst B
 dsimp only at h
 refine WC.sub hsub (WC.weak hst ?_)
 refine Rcl 4 q ?_
 obtain⟨e,g,h⟩:=ab h
 refine Zq (bZ e62 q q q (ae g) (cD g)) q (Zq (ct (i:=o1) q q a42 (bm g)) q (Rl 2 q ?_))
 obtain⟨x,y,h⟩:=ab h
 refine Zq (eN (E:=E2) (L:=a) (M:=e) (v:=x) e42 q q (bd g) q y) q (WL.s0 (fV (E:=E2) (L:=a) (M:=e) (v:=x) (z:=v3) (i:=k2) q q (bd g) y (λ_=>q) q q Lw q s2) (Zw q) q ?_)
 refine WL.st (st':=[.row 64 [.l E45 m0.t.insns, .l bq m0.t.handlers, .l bT m0.t.loops, .l bS m0.t.selects, .l E96 m0.t.lists, .l br m0.t.objs, .l bO m0.t.inits, .n m0.t.excs, .l E27 m0.t.tasks, .l bI m0.t.prots, .l bY m0.t.checks, .l E42 m0.slots, .l E2 m0.in_, .l E2 m0.out], .row 64 [sN,sN,sN,sN,sN,sN,sN, .n 0,sN,sN,sN,sN,sN,sN], .os 42 1 f (bt 3 c (List.length (List.set a (Int.toNat o1) (List.set e (Int.toNat k2) v3)))), .fam 2 1 c (bi E2 (List.set a (Int.toNat o1) (List.set e (Int.toNat k2) v3)))]) (by show([.row 64 [.l E45 m0.t.insns, .l bq m0.t.handlers, .l bT m0.t.loops, .l bS m0.t.selects, .l E96 m0.t.lists, .l br m0.t.objs, .l bO m0.t.inits, .n m0.t.excs, .l E27 m0.t.tasks, .l bI m0.t.prots, .l bY m0.t.checks, .l E42 m0.slots, .l E2 m0.in_, .l E2 m0.out], .row 64 [sN,sN,sN,sN,sN,sN,sN, .n 0,sN,sN,sN,sN,sN,sN],oS f 3 c a, .fam 2 1 c (bi E2 (List.set a (Int.toNat o1) (List.set e (Int.toNat k2) v3)))]:lW)=_;rw[List.length_set]) (Rlc 3 q ?_)
 refine mP (mi (E:=E2) (R':=E2) (L:=(List.set a (Int.toNat o1) (List.set e (Int.toNat k2) v3))) 2 3 dx q q q) ?_
 refine WC.freezeX [10,40] [] 2 _ q (al fc _) ⟨q,q,Zt⟩ Zt (Rcl 3 q (sS Z6 s62 Z2 (St q (Rll 5 q (sS Z6 s64 Z2 (St q (Rlx 4 q ?_)))))))
 obtain rfl:=Oi h
 exact am (rs2 q (aO q q a64 s64 q) (ap q)) (aK ⟨(ah (Zs _)),Zl,Zt⟩)

theorem f96_c{m0:Mem}:Pu prog 96 [.ag (R64 m0)] (.ag (mL (f96 m0))):=by
 generalize h:f96 m0=r
 unfold f96 at h
 refine fI func96 λ_ _=>?_
 refine Rcl 2 q (Bd q q (Zs _) q (Al nI q (Rll 5 q (Zq (aa p123 nI q q) q (sS Z6 cV Z2 (St q (Rlx 3 q ?_)))))))
 subst h
 exact am (rs1 q (aO q q gM cV q)) (ah ⟨Zl,Zl,Zl,Zl,Zl,Zl,Zl,Zl,Zl,Zl,Zl,Zl,Zl,Zl,Zl,Zl,Zl,Zl,Zl,Zl,Zl,Zl,Zl,Zl,Zl,Zl,Zl,Zl,Zl,Zl,Zl,Zl,Zl,Le.nil,Zl,Zt⟩)

theorem f97_c(s0:av):Pu prog 97 [.ag (mL s0)] (.ag (mL (f97 s0))):=by
 generalize h:f97 s0=r
 unfold f97 at h
 refine fI func97 λ_ _=>?_
 refine Rcl 2 q (Bx q q q (Al nI q (Rll 10 q (sS Z6 s3 Z2 (St q (Rlc 2 q (Jn1 (λ_=> [(1, .pt 0 0),(2, .pt 1 0)]) (λa=> [.row 123 (([.l E45 s0.m.t.insns, .l bq s0.m.t.handlers, .l bT s0.m.t.loops, .l bS s0.m.t.selects, .l E96 s0.m.t.lists, .l br s0.m.t.objs, .l bO s0.m.t.inits, .n s0.m.t.excs, .l E27 s0.m.t.tasks, .l bI s0.m.t.prots, .l bY s0.m.t.checks, .l E42 s0.m.slots, .l E2 s0.m.in_, .l E2 s0.m.out]:lV)++(aX 16 (λj=> .n (s0.r.r j))++([.n (IntKind.i64.wrap (s0.r.pc+1)), .n s0.r.exc, .n s0.r.defer, .l E58 s0.acts, .n a]:lV):lV)), .row 123 [sN,sN,sN,sN,sN,sN,sN, .n 0,sN,sN,sN,sN,sN,sN, .n 0, .n 0, .n 0, .n 0, .n 0, .n 0, .n 0, .n 0, .n 0, .n 0, .n 0, .n 0, .n 0, .n 0, .n 0, .n 0, .n 0, .n 0, .n 0,sN, .n 0]]) h (λ_ h=>?_) λa h=>?_)))))))
 refine Rcl 8 q (wF Z4 (f30_c) ⟨(ah (Zs _)),Zl,Zt⟩ Z3 (Rlc 3 q (Ci h q (λh=>?_) λh=>?_)))
 exact Rcl 2 q (sS Z6 s3 Z2 (St q (Rlx 1 q (En1 h))))
 exact Rcx 1 q (En1 h)
 refine Rcl 3 q (sS Z6 cV Z2 (St q (Rlx 3 q ?_)))
 subst h
 exact am (rs1 q (aO q q gM cV q)) (ah (Zs _))

theorem f51_c{s0:av}{x1:aB}{r:av}(h:f51 s0 x1=some r):Pu prog 51 [.ag (mL s0), .ag (R45 x1)] (.ag (mL r)):=by
 unfold f51 at h
 refine fI func51 λ_ _=>?_
 refine Rcl 2 q (Bx q q q (Bd q q (Zs _) q (Al nI q (Rll 6 q (Al z41 q (sS Z6 s41 Z2 (St q (Rlc 3 q (ao kR kR (Rq 6 q (WQ.nil (Rxl 6 q ?_))))))))))))
 replace h:=aD h
 obtain⟨g,h⟩:=h
 refine Zq (aE dZ q q (bB g) (bz g)) q (Zq (cA (off:=0) (n:=16) (λj=> .n (s0.r.r j)) q q a2 q g) q (Rll 8 q ?_))
 replace h:=aD h
 obtain⟨k,h⟩:=h
 refine Zq (aE dZ q q (bB k) (bz k)) q (Zq (cA (off:=0) (n:=16) (λj=> .n (s0.r.r j)) q q a2 q k) q (Rlc 3 q (Jn1 (λc=> [(2, .pt 0 0),(3, .d (.pc (R45 x1))),(4, .pt 1 0),(6, .n x1.n),(7, .n x1.m),(8, .n c),(9, .n (s0.r.r (Int.toNat x1.a)))]) (λ_=> [.row 123 (([.l E45 s0.m.t.insns, .l bq s0.m.t.handlers, .l bT s0.m.t.loops, .l bS s0.m.t.selects, .l E96 s0.m.t.lists, .l br s0.m.t.objs, .l bO s0.m.t.inits, .n s0.m.t.excs, .l E27 s0.m.t.tasks, .l bI s0.m.t.prots, .l bY s0.m.t.checks, .l E42 s0.m.slots, .l E2 s0.m.in_, .l E2 s0.m.out]:lV)++(aX 16 (λj=> .n (s0.r.r j))++([.n s0.r.pc, .n s0.r.exc, .n s0.r.defer, .l E58 s0.acts, .n s0.e]:lV):lV)), .row 123 [sN,sN,sN,sN,sN,sN,sN, .n 0,sN,sN,sN,sN,sN,sN, .n 0, .n 0, .n 0, .n 0, .n 0, .n 0, .n 0, .n 0, .n 0, .n 0, .n 0, .n 0, .n 0, .n 0, .n 0, .n 0, .n 0, .n 0, .n 0,sN, .n 0], .row 41 (rG s0.r)]) h (λ_ h=>?_) λc h=>?_)))
 exact Rcc 7 q (Ci h q (λh=>Rcx 4 q (En1 h)) λh=>Rcx 1 q (En1 h))
 refine Jn1 (λw=> [(2, .pt 0 0),(3, .d (.pc (R45 x1))),(4, .pt 1 0),(6, .n x1.n),(7, .n w),(8, .n c),(9, .n (s0.r.r (Int.toNat x1.a)))]) (λ_=> [.row 123 (([.l E45 s0.m.t.insns, .l bq s0.m.t.handlers, .l bT s0.m.t.loops, .l bS s0.m.t.selects, .l E96 s0.m.t.lists, .l br s0.m.t.objs, .l bO s0.m.t.inits, .n s0.m.t.excs, .l E27 s0.m.t.tasks, .l bI s0.m.t.prots, .l bY s0.m.t.checks, .l E42 s0.m.slots, .l E2 s0.m.in_, .l E2 s0.m.out]:lV)++(aX 16 (λj=> .n (s0.r.r j))++([.n s0.r.pc, .n s0.r.exc, .n s0.r.defer, .l E58 s0.acts, .n s0.e]:lV):lV)), .row 123 [sN,sN,sN,sN,sN,sN,sN, .n 0,sN,sN,sN,sN,sN,sN, .n 0, .n 0, .n 0, .n 0, .n 0, .n 0, .n 0, .n 0, .n 0, .n 0, .n 0, .n 0, .n 0, .n 0, .n 0, .n 0, .n 0, .n 0, .n 0,sN, .n 0], .row 41 (rG s0.r)]) h (λ_ h=>?_) (λw h=>?_)
 refine Rcl 6 q ?_
 refine OG 4 35 39 4 4 ?_
 refine Rlc 2 q (Ci h q (λh=>?_) λh=>?_)
 refine Rcl 6 q ?_
 refine OG 5 42 47 5 5 ?_
 refine Rlc 2 q (Ci h q (λh=>?_) λh=>?_)
 refine Rcl 4 q (wF Z4 (f96_c) ⟨(ah (Zs _)),Zt⟩ Z3 (sS Z6 cV Z2 (St q (Rlx 5 q ?_))))
 obtain rfl:=Oi h
 exact am (rs1 q (aO q q gM cV q)) (ah (Zs _))
 exact Rcx 8 q (En1 h)
 exact Rcx 1 q (En1 h)
 refine Jn2 (λy A=> [(2, .pt 0 0),(3, .d (.pc (R45 x1))),(4, .pt 1 0),(6, .n y),(7, .n A),(8, .n c)]) (λ_ _=> [.row 123 (([.l E45 s0.m.t.insns, .l bq s0.m.t.handlers, .l bT s0.m.t.loops, .l bS s0.m.t.selects, .l E96 s0.m.t.lists, .l br s0.m.t.objs, .l bO s0.m.t.inits, .n s0.m.t.excs, .l E27 s0.m.t.tasks, .l bI s0.m.t.prots, .l bY s0.m.t.checks, .l E42 s0.m.slots, .l E2 s0.m.in_, .l E2 s0.m.out]:lV)++(aX 16 (λj=> .n (s0.r.r j))++([.n s0.r.pc, .n s0.r.exc, .n s0.r.defer, .l E58 s0.acts, .n s0.e]:lV):lV)), .row 123 [sN,sN,sN,sN,sN,sN,sN, .n 0,sN,sN,sN,sN,sN,sN, .n 0, .n 0, .n 0, .n 0, .n 0, .n 0, .n 0, .n 0, .n 0, .n 0, .n 0, .n 0, .n 0, .n 0, .n 0, .n 0, .n 0, .n 0, .n 0,sN, .n 0], .row 41 (rG s0.r)]) h (λ_ h=>?_) (λy A h=>?_)
 refine Rcl 6 q ?_
 refine OG 4 57 61 4 4 ?_
 refine Rlc 2 q (Ci h q (λh=>?_) λh=>?_)
 refine Rcl 6 q ?_
 apply WL.or 7 (t:=64) (d:=71)
 exact q
 intro G
 exact Rl 4 q (Zy (ac E42 s0.m.slots e62 q q Zl) q q q (Rl 2 q (WL.nil ⟨q,[_,_,_,_,_,_,_],q,q,q⟩)))
 exact Rn 7 7
 refine Rlc 2 q (Ci h q (λh=>?_) λh=>?_)
 refine Rcl 4 q (wF Z4 (f96_c) ⟨(ah (Zs _)),Zt⟩ Z3 (sS Z6 cV Z2 (St q (Rlx 5 q ?_))))
 obtain rfl:=Oi h
 exact am (rs1 q (aO q q gM cV q)) (ah (Zs _))
 exact Rcx 12 q (En2 h)
 exact Rcx 1 q (En2 h)
 refine Rcl 7 q ?_
 refine OG 4 80 84 4 4 ?_
 refine Rl 1 q ?_
 refine OG 4 85 89 4 4 ?_
 refine Rlc 2 q (Ci h q (λh=>?_) λh=>?_)
 refine Rcc 1 q ?_
 obtain⟨H,B,h⟩:=ab h
 obtain⟨f,C,h⟩:=ab h
 replace h:=aD h
 obtain⟨p,h⟩:=h
 apply RT [_,_,_,_,_,_,_,_,_,_,_,_,_,_, .u] [14] [[.row 123 (([.l E45 s0.m.t.insns, .l bq s0.m.t.handlers, .l bT s0.m.t.loops, .l bS s0.m.t.selects, .l E96 s0.m.t.lists, .l br s0.m.t.objs, .l bO s0.m.t.inits, .n s0.m.t.excs, .l E27 s0.m.t.tasks, .l bI s0.m.t.prots, .l bY s0.m.t.checks, .l E42 s0.m.slots, .l E2 s0.m.in_, .l E2 s0.m.out]:lV)++(aX 16 (λj=> .n ((bW s0.r.r (Int.toNat x1.d) f) j))++([.n s0.r.pc, .n s0.r.exc, .n s0.r.defer, .l E58 s0.acts, .n s0.e]:lV):lV)), .row 123 [sN,sN,sN,sN,sN,sN,sN, .n 0,sN,sN,sN,sN,sN,sN, .n 0, .n 0, .n 0, .n 0, .n 0, .n 0, .n 0, .n 0, .n 0, .n 0, .n 0, .n 0, .n 0, .n 0, .n 0, .n 0, .n 0, .n 0, .n 0,sN, .n 0], .row 41 (rG s0.r)]] [p01 3,p10 0,p01 2,p10 2,p10 3,p01 6,p20 4 5,p10 6,p01 7,p20 7 8,p10 9,p01 2,p10 11,p20 12 1,p20 13 10] kR kR q q
 refine Y6 ?_
 refine zo (λ_=>Zq (ai e62 q Zl q (ae B) (az fc B) q) q (Zd q q q)) ?_
 refine Y2 ?_
 refine zo (λ_=>Zq (ai e42 q Zl q (ae C) (az dx C) q) q (Zd q q q)) ?_
 refine Y3 ?_
 refine zo (λ_=>Zq (aE dZ q q (bB p) (bz p)) q (Zd q q q)) ?_
 exact zo (λ_=>WL.s0 (di (off:=14) (n:=16) (cs':=(([.l E45 s0.m.t.insns, .l bq s0.m.t.handlers, .l bT s0.m.t.loops, .l bS s0.m.t.selects, .l E96 s0.m.t.lists, .l br s0.m.t.objs, .l bO s0.m.t.inits, .n s0.m.t.excs, .l E27 s0.m.t.tasks, .l bI s0.m.t.prots, .l bY s0.m.t.checks, .l E42 s0.m.slots, .l E2 s0.m.in_, .l E2 s0.m.out]:lV)++(aX 16 (λj=> .n ((bW s0.r.r (Int.toNat x1.d) f) j))++([.n s0.r.pc, .n s0.r.exc, .n s0.r.defer, .l E58 s0.acts, .n s0.e]:lV):lV))) (λx=> .n x) s0.r.r f q q q (fb q) s2 q q p q) (Zw q) q (aJ q q)) Zt
 refine Rxl 4 q (WL.fn q q q q (f97_c (av.mk s0.m (aq.mk (bW s0.r.r (Int.toNat x1.d) f) s0.r.pc s0.r.exc s0.r.defer) s0.acts s0.e)) ⟨(ah (Zs _)),Zt⟩ (Zw q) q q (sS Z6 cV Z2 (St q (Rlx 4 q ?_))))
 obtain rfl:=Oi h
 exact am (rs1 q (aO q q gM cV q)) (ah (Zs _))
 refine Rcl 9 q ?_
 obtain⟨E,F,h⟩:=ab h
 refine wF Z4 (f64_c F) ⟨(ah (Zs _)),Zl,Zl,Zl,Zt⟩ Z3 (Rl 3 q (Al z64 q (sS Z6 s64 Z2 (St q (Rlc 10 q (Ci h q (λh=>?_) λh=>?_))))))
 refine Rcl 4 q (wF Z4 (f96_c) ⟨(ah (Zs _)),Zt⟩ Z3 (sS Z6 cV Z2 (St q (Rlx 4 q ?_))))
 obtain rfl:=Oi h
 exact am (rs1 q (aO q q gM cV q)) (ah (Zs _))
 refine Rcl 6 q (sS Z6 s64 Z2 (St q (Rll 5 q (wF Z4 (f97_c (av.mk E.1 s0.r s0.acts s0.e)) ⟨(ah (Zs _)),Zt⟩ Z3 (sS Z6 cV Z2 (St q (Rlx 3 q ?_)))))))
 obtain rfl:=Oi h
 exact am (rs1 q (aO q q gM cV q)) (ah (Zs _))

theorem f52_c{s0:av}{x1:aB}{r:av}(h:f52 s0 x1=some r):Pu prog 52 [.ag (mL s0), .ag (R45 x1)] (.ag (mL r)):=by
 unfold f52 at h
 refine fI func52 λ_ _=>?_
 refine Rcl 2 q (Bx q q q (Bd q q (Zs _) q (Al nI q (Rll 8 q ?_))))
 replace h:=aD h
 obtain⟨c,h⟩:=h
 refine Zq (aE dZ q q (bB c) (bz c)) q (Zq (cA (off:=14) (n:=16) (λj=> .n (s0.r.r j)) q q a2 q c) q (Rlc 3 q (Jn0 [(2, .pt 0 0),(4, .pt 1 0)] [.row 123 (([.l E45 s0.m.t.insns, .l bq s0.m.t.handlers, .l bT s0.m.t.loops, .l bS s0.m.t.selects, .l E96 s0.m.t.lists, .l br s0.m.t.objs, .l bO s0.m.t.inits, .n s0.m.t.excs, .l E27 s0.m.t.tasks, .l bI s0.m.t.prots, .l bY s0.m.t.checks, .l E42 s0.m.slots, .l E2 s0.m.in_, .l E2 s0.m.out]:lV)++(aX 16 (λj=> .n (s0.r.r j))++([.n s0.r.pc, .n s0.r.exc, .n s0.r.defer, .l E58 s0.acts, .n s0.e]:lV):lV)), .row 123 [sN,sN,sN,sN,sN,sN,sN, .n 0,sN,sN,sN,sN,sN,sN, .n 0, .n 0, .n 0, .n 0, .n 0, .n 0, .n 0, .n 0, .n 0, .n 0, .n 0, .n 0, .n 0, .n 0, .n 0, .n 0, .n 0, .n 0, .n 0,sN, .n 0]] h (λk h=>?_) λh=>?_)))
 refine Rcc 13 q (Ci h q (λh=>?_) λh=>?_)
 refine Rcl 6 q (sS Z6 s3 Z2 (St q (Rll 5 q (sS Z6 cV Z2 (St q (Rlx 5 q ?_))))))
 obtain rfl:=Oi h
 exact am (rs1 q (aO q q gM cV q)) (ah (Zs _))
 refine Jn1 (λf=> [(2, .pt 0 0),(3, .d (.pc (R45 x1))),(4, .pt 1 0),(5, .n (s0.r.r (Int.toNat x1.a))),(14, .d (D.i .u8 x1.op)),(22, .d (D.b f))]) (λ_=> [.row 123 (([.l E45 s0.m.t.insns, .l bq s0.m.t.handlers, .l bT s0.m.t.loops, .l bS s0.m.t.selects, .l E96 s0.m.t.lists, .l br s0.m.t.objs, .l bO s0.m.t.inits, .n s0.m.t.excs, .l E27 s0.m.t.tasks, .l bI s0.m.t.prots, .l bY s0.m.t.checks, .l E42 s0.m.slots, .l E2 s0.m.in_, .l E2 s0.m.out]:lV)++(aX 16 (λj=> .n (s0.r.r j))++([.n s0.r.pc, .n s0.r.exc, .n s0.r.defer, .l E58 s0.acts, .n s0.e]:lV):lV)), .row 123 [sN,sN,sN,sN,sN,sN,sN, .n 0,sN,sN,sN,sN,sN,sN, .n 0, .n 0, .n 0, .n 0, .n 0, .n 0, .n 0, .n 0, .n 0, .n 0, .n 0, .n 0, .n 0, .n 0, .n 0, .n 0, .n 0, .n 0, .n 0,sN, .n 0]]) h (λ_ h=>?_) (λf h=>?_)
 exact Rcc 6 q (Ci h q (λh=>Rcx 1 q (En1 h)) λh=>Rcx 4 q (En1 h))
 refine Ci h q (λh=>?_) (λh=>?_)
 refine Rcl 7 q (Zq (y_eqb underlying4 q q) q (Rlc 2 q (Ci h q (λh=>?_) λh=>?_)))
 refine Rcl 6 q (sS Z6 s3 Z2 (St q (Rll 5 q (sS Z6 cV Z2 (St q (Rlx 5 q ?_))))))
 obtain rfl:=Oi h
 exact am (rs1 q (aO q q gM cV q)) (ah (Zs _))
 exact Rcx 2 q (En0 h)
 refine Rcc 6 q (Ci h q (λh=>?_) λh=>?_)
 refine Rcc 6 q (Ln1 (λg=> [(2, .pt 0 0),(3, .d (.pc (R45 x1))),(4, .pt 1 0),(5, .n (s0.r.r (Int.toNat x1.a))),(6, .n g)]) (λ_=> [.row 123 (([.l E45 s0.m.t.insns, .l bq s0.m.t.handlers, .l bT s0.m.t.loops, .l bS s0.m.t.selects, .l E96 s0.m.t.lists, .l br s0.m.t.objs, .l bO s0.m.t.inits, .n s0.m.t.excs, .l E27 s0.m.t.tasks, .l bI s0.m.t.prots, .l bY s0.m.t.checks, .l E42 s0.m.slots, .l E2 s0.m.in_, .l E2 s0.m.out]:lV)++(aX 16 (λj=> .n (s0.r.r j))++([.n s0.r.pc, .n s0.r.exc, .n s0.r.defer, .l E58 s0.acts, .n s0.e]:lV):lV)), .row 123 [sN,sN,sN,sN,sN,sN,sN, .n 0,sN,sN,sN,sN,sN,sN, .n 0, .n 0, .n 0, .n 0, .n 0, .n 0, .n 0, .n 0, .n 0, .n 0, .n 0, .n 0, .n 0, .n 0, .n 0, .n 0, .n 0, .n 0, .n 0,sN, .n 0]]) (f52_l1 s0 x1 k) h (λ_ h=>by rw[f52_l1] at h;cases h) λn g h=>?_)
 rw[f52_l1] at h
 refine Rcc 9 q (Ci h q (λh=>?_) λh=>?_)
 refine Rcl 14 q ?_
 refine AG 7 51 58 7 7 ?_
 refine Rlc 2 q (Ci h q (λh=>?_) λh=>?_)
 refine Rcl 8 q (sS Z6 s3 Z2 (St q (Rll 5 q (sS Z6 cV Z2 (St q (Rlx 9 q ?_))))))
 obtain rfl:=Oi h
 exact am (rs1 q (aO q q gM cV q)) (ah (Zs _))
 exact Rcx 8 q (Fn1 h)
 exact Rcx 5 q (En0 h)
 exact Rcx 2 q (En0 h)
 refine Rcl 3 q (wF Z4 (f97_c _) ⟨(ah (Zs _)),Zt⟩ Z3 (sS Z6 cV Z2 (St q (Rlx 3 q ?_))))
 obtain rfl:=Oi h
 exact am (rs1 q (aO q q gM cV q)) (ah (Zs _))

theorem f103_c{t0:aj}{a:Int}{c2:Int}{r:Int}(h:f103 t0 a c2=some r):Pu prog 103 [.ag (R38 t0), .i .i64 a, .i .i64 c2] (.i .i64 r):=by
 unfold f103 at h
 refine fI func103 λ_ _=>?_
 refine Rcl 2 q (Bd q q (Zs _) q (Rlc 3 q (Jn0 [] [] h (λe h=>?_) λh=>?_)))
 refine Rcc 6 q (Ln1 (λc=> [(1, .n a),(2, .n c2),(3, .d (.pc (R38 t0))),(7, .n c)]) (λ_=> []) (f103_l1 t0 a c2 e) h (λ_ h=>by rw[f103_l1] at h;cases h) λn c h=>?_)
 rw[f103_l1] at h
 refine Rcl 6 q (Zq (ac bq t0.handlers e29 q q Zl) q (Rl 2 q ?_))
 refine AG 3 14 17 3 3 ?_
 refine Rlc 2 q (Ci h q (λh=>?_) λh=>?_)
 refine Rcl 9 q (Ix h e29 eK q Zl q q λf _ h=>(Rl 1 q (Al mW q (sS Z6 qb Z2 (Rll 9 q ?_)))))
 refine AG 5 29 34 5 5 ?_
 refine Rl 1 q ?_
 apply WL.and 7 (t:=35) (d:=42)
 exact q
 intro g
 refine Rl 3 q ?_
 refine OG 3 38 41 3 3 ?_
 exact Rn 1 5
 exact Rn 7 7
 refine Rlc 2 q (Ci h q (λh=>Rcx 12 q (FA h)) λh=>?_)
 exact Rcx 8 q (WE.drop 0 (env':=[(1, .n a),(2, .n c2),(3, .d (.pc (R38 t0))),(7, .n (IntKind.i64.wrap (c+1)))]) Sb q q (Nat.zero_le _) (Fn1 h))
 exact Rcx 4 q (En0 h)
 exact Rcx 6 q (FA h)

theorem f60_c{t0:aj}{r1:aq}{c2:Int}{r:aq×Int}(h:f60 t0 r1 c2=some r):Pu prog 60 [.ag (R38 t0), .ag (R41 r1), .i .i64 c2] (.tu [.ag (R41 r.1), .i .i64 r.2]):=by
 unfold f60 at h
 refine fI func60 λ_ _=>?_
 refine Rcl 2 q (Bd q q (Zs _) q (Bd q q (Zs _) q (Al z41 q (Rll 9 q ?_))))
 obtain⟨f,e,h⟩:=ab h
 refine wF Z4 (f103_c e) Lw Z3 (Rlc 10 q (Ci h q (λh=>?_) λh=>?_))
 refine Rcl 2 q (Zq (aa p41 z41 q q) q (sS Z6 s41 Z2 (St q (Rlx 5 q ?_))))
 obtain rfl:=Oi h
 exact am (rs2 q (aO q q a41 s41 q) (ap q)) (aK ⟨(ah (Zs _)),Zl,Zt⟩)
 refine Rcl 7 q (Ix h e29 eK q Zl q q λa _ h=>(Rl 1 q (Al mW q (sS Z6 qb Z2 (St q (Rll 9 q (Zq (aa p41 z41 q q) q (Al z41 q (sS Z6 s41 Z2 (St q (Rlc 2 q (Jn1 (λ_=> [(6, .pt 0 0),(10, .pt 2 0)]) (λc=> [.row 41 n19, .row 108 [.n a.from_, .n a.to, .n a.at_, .d (D.b a.clean)], .row 41 [.n 0, .n 0, .n 0, .n 0, .n 0, .n 0, .n 0, .n 0, .n 0, .n 0, .n 0, .n 0, .n 0, .n 0, .n 0, .n 0, .n a.at_, .n c2, .n c]]) h (λ_ h=>?_) λc h=>?_))))))))))))
 exact Rcc 6 q (Ci h q (λh=>Rcl 5 q (sS Z6 s3 Z2 (St q (Rlx 1 q (En1 h))))) λh=>Rcx 1 q (En1 h))
 refine Rcc 8 q (Ci h q (λh=>?_) λh=>?_)
 refine Rcl 2 q (Zq (aa p41 z41 q q) q (sS Z6 s41 Z2 (St q (Rlx 5 q ?_))))
 obtain rfl:=Oi h
 exact am (rs2 q (aO q q a41 s41 q) (ap q)) (aK ⟨(ah (Zs _)),Zl,Zt⟩)
 refine Rcl 5 q (sS Z6 s41 Z2 (St q (Rlx 4 q ?_)))
 obtain rfl:=Oi h
 exact am (rs2 q (aO q q a41 s41 q) (ap q)) (aK ⟨(ah (Zs _)),Zl,Zt⟩)

theorem f57_c{t0:aj}{r1:aq}{n2:Int}{r:aq×lA×Int}(h:f57 t0 r1 n2=some r):Pu prog 57 [.ag (R38 t0), .ag (R41 r1), .i .i64 n2] (.tu [.ag (R41 r.1), .sl (List.map E58 r.2.1), .i .i64 r.2.2]):=by
 unfold f57 at h
 refine fI func57 λ_ _=>?_
 refine Rcl 2 q (Bd q q (Zs _) q (Bd q q (Zs _) q (Al z41 q (Rll 9 q ?_))))
 obtain⟨c,a,h⟩:=ab h
 refine wF Z4 (f60_c a) Lw Z3 (Rl 3 q (Al z41 q (sS Z6 s41 Z2 (St q (Rlc 10 q (Ci h q (λh=>?_) λh=>?_))))))
 refine Rcl 2 q (Zq (aa p41 z41 q q) q (Rl 1 q (sS Z6 s41 Z2 (St q (Rlx 6 q ?_)))))
 obtain rfl:=Oi h
 exact am (rs3 q (aO q q a41 s41 q) (ap q) (ap q)) (aK ⟨(ah (Zs _)),Le.nil,Zl,Zt⟩)
 refine Rcl 6 q (Zq (aa p58 z58 q q) q (WL.s ((NewOs.b (af l50 z58 q dC dC q q q dC)).does) (Zw q) q q (sS Z6 s41 Z2 (St q (Rlx 5 q ?_)))))
 refine WE.freezeX [7,25] [] 2 _ q (al d7 [(Act.mk 0 0 5 n2 0 0)]) ⟨q,q,Zt⟩ Zt ?_
 obtain rfl:=Oi h
 exact am (rs3 q (aO q q a41 s41 q) (ap q) (ap q)) (aK ⟨(ah (Zs _)),Zl,Zl,Zt⟩)

theorem f53_c{s0:av}{x1:aB}{r:av}(h:f53 s0 x1=some r):Pu prog 53 [.ag (mL s0), .ag (R45 x1)] (.ag (mL r)):=by
 unfold f53 at h
 refine fI func53 λ_ _=>?_
 refine Rcl 2 q (Bx q q q (Bd q q (Zs _) q (Al nI q (Rll 8 q ?_))))
 replace h:=aD h
 obtain⟨a,h⟩:=h
 refine Zq (aE dZ q q (bB a) (bz a)) q (Zq (cA (off:=14) (n:=16) (λj=> .n (s0.r.r j)) q q a2 q a) q (Rlc 8 q (Jn4 (λw _ _ _=> [(2, .pt 0 0),(4, .pt 1 0),(6, .n w)]) (λ_ c f g=> [.row 123 (([.l E45 s0.m.t.insns, .l bq s0.m.t.handlers, .l bT s0.m.t.loops, .l bS s0.m.t.selects, .l E96 s0.m.t.lists, .l br s0.m.t.objs, .l bO s0.m.t.inits, .n s0.m.t.excs, .l E27 s0.m.t.tasks, .l bI s0.m.t.prots, .l bY s0.m.t.checks, .l E42 s0.m.slots, .l E2 c, .l E2 s0.m.out]:lV)++(aX 16 (λj=> .n (f j))++([.n s0.r.pc, .n s0.r.exc, .n s0.r.defer, .l E58 g, .n s0.e]:lV):lV)), .row 123 [sN,sN,sN,sN,sN,sN,sN, .n 0,sN,sN,sN,sN,sN,sN, .n 0, .n 0, .n 0, .n 0, .n 0, .n 0, .n 0, .n 0, .n 0, .n 0, .n 0, .n 0, .n 0, .n 0, .n 0, .n 0, .n 0, .n 0, .n 0,sN, .n 0]]) h (λ_ h=>?_) λw c f g h=>?_)))
 refine Rcc 13 q (Ci h q (λh=>?_) λh=>?_)
 refine Rcl 7 q ?_
 refine OG 5 21 26 5 5 ?_
 exact Rlc 2 q (Ci h q (λh=>Rcx 4 q (En4 h)) λh=>Rcx 2 q (En4 h))
 refine Rcc 6 q (Ci h q (λh=>?_) λh=>?_)
 exact Rcc 6 q (Ci h q (λh=>Rcx 4 q (En4 h)) λh=>Rcx 2 q (En4 h))
 refine Rcc 6 q (Ci h q (λh=>Rcx 6 q (En4 h)) λh=>?_)
 refine Rcc 6 q (Ci h q (λh=>?_) λh=>?_)
 refine Rcl 6 q ?_
 refine OG 7 39 46 7 7 ?_
 refine Rlc 2 q (Ci h q (λh=>?_) λh=>?_)
 refine Rcl 4 q (wF Z4 (f96_c) ⟨(ah (Zs _)),Zt⟩ Z3 (sS Z6 cV Z2 (St q (Rlx 6 q ?_))))
 obtain rfl:=Oi h
 exact am (rs1 q (aO q q gM cV q)) (ah (Zs _))
 exact Rcx 7 q (En4 h)
 refine Rcc 6 q (Ci h q (λh=>?_) λh=>?_)
 refine Rcl 6 q ?_
 refine OG 7 55 62 7 7 ?_
 refine Rlc 2 q (Ci h q (λh=>?_) λh=>?_)
 refine Rcl 4 q (wF Z4 (f96_c) ⟨(ah (Zs _)),Zt⟩ Z3 (sS Z6 cV Z2 (St q (Rlx 6 q ?_))))
 obtain rfl:=Oi h
 exact am (rs1 q (aO q q gM cV q)) (ah (Zs _))
 refine Rcc 8 q (Ci h q (λh=>?_) λh=>?_)
 refine Rcl 8 q ?_
 obtain⟨F,A,h⟩:=ab h
 refine wF Z4 (f60_c A) ⟨(ah (Zs _)),(ah (Zs _)),Zl,Zt⟩ Z3 (Rl 4 q (sS Z6 s41 Z2 (St q (Rl 1 q (sS Z6 s3 Z2 (St q (Rll 5 q (sS Z6 cV Z2 (St q (Rlx 5 q ?_))))))))))
 obtain rfl:=Oi h
 exact am (rs1 q (aO q q gM cV q)) (ah (Zs _))
 exact Rcx 2 q (En4 h)
 refine Rcc 6 q (Ci h q (λh=>?_) λh=>?_)
 refine Rcl 5 q (Zq (ac E2 s0.m.in_ e42 q q Zl) q (Rlc 3 q (Ci h q (λh=>?_) λh=>?_)))
 exact Rcx 4 q (En4 h)
 refine Rcc 1 q ?_
 obtain⟨k,y,h⟩:=ab h
 replace h:=aD h
 obtain⟨p,h⟩:=h
 apply RT [_,_,_,_,_,_,_,_,_,_, .u] [10] [[.row 123 (([.l E45 s0.m.t.insns, .l bq s0.m.t.handlers, .l bT s0.m.t.loops, .l bS s0.m.t.selects, .l E96 s0.m.t.lists, .l br s0.m.t.objs, .l bO s0.m.t.inits, .n s0.m.t.excs, .l E27 s0.m.t.tasks, .l bI s0.m.t.prots, .l bY s0.m.t.checks, .l E42 s0.m.slots, .l E2 s0.m.in_, .l E2 s0.m.out]:lV)++(aX 16 (λj=> .n ((bW s0.r.r (Int.toNat x1.d) k) j))++([.n s0.r.pc, .n s0.r.exc, .n s0.r.defer, .l E58 s0.acts, .n s0.e]:lV):lV)), .row 123 [sN,sN,sN,sN,sN,sN,sN, .n 0,sN,sN,sN,sN,sN,sN, .n 0, .n 0, .n 0, .n 0, .n 0, .n 0, .n 0, .n 0, .n 0, .n 0, .n 0, .n 0, .n 0, .n 0, .n 0, .n 0, .n 0, .n 0, .n 0,sN, .n 0]]] [p01 3,p10 0,p01 2,p10 2,p10 3,p10 4,p10 5,p01 2,p10 7,p20 8 1,p20 9 6] kR kR q q
 refine Y5 ?_
 refine zo (λ_=>Zq (ai e42 q Zl q (ae y) (az dx y) q) q (Zd q q q)) ?_
 refine Y3 ?_
 refine zo (λ_=>Zq (aE dZ q q (bB p) (bz p)) q (Zd q q q)) ?_
 exact zo (λ_=>WL.s0 (di (off:=14) (n:=16) (cs':=(([.l E45 s0.m.t.insns, .l bq s0.m.t.handlers, .l bT s0.m.t.loops, .l bS s0.m.t.selects, .l E96 s0.m.t.lists, .l br s0.m.t.objs, .l bO s0.m.t.inits, .n s0.m.t.excs, .l E27 s0.m.t.tasks, .l bI s0.m.t.prots, .l bY s0.m.t.checks, .l E42 s0.m.slots, .l E2 s0.m.in_, .l E2 s0.m.out]:lV)++(aX 16 (λj=> .n ((bW s0.r.r (Int.toNat x1.d) k) j))++([.n s0.r.pc, .n s0.r.exc, .n s0.r.defer, .l E58 s0.acts, .n s0.e]:lV):lV))) (λx=> .n x) s0.r.r k q q q (fb q) s2 q q p q) (Zw q) q (aJ q q)) Zt
 refine Rxl 6 q (Ix h e42 dx q Zl q q λB _ h=>(Rl 1 q (Zq (aa p58 z58 q q) q (WL.s ((NewOs.b (af l50 z58 q dC dC q q q dC)).does) (Zw q) q q (Rl 1 q (WL.s0 (dX q q q (fa q) s50 q) (Zw q) q (St q (Rll 6 q ?_))))))))
 replace h:=aD h
 obtain⟨C,h⟩:=h
 refine Zq (jy E2 s0.m.in_ (l:=1) (h:=(List.length s0.m.in_:Int)) e42 q Zl ⟨_,q⟩ q C λ_=>q) q (Rl 2 q (sS Z6 s42 Z2 (St q (Rlx 2 q ?_))))
 exact WE.freezeX [104] [(0,33)] 2 _ q (al d7 [(Act.mk 0 0 2 B 0 0)]) ⟨q,Zt⟩ ⟨_,_,q,q,Zt⟩ (WE.drop 2 (env':=[(2, .pt 0 0),(4, .pt 1 0),(6, .n 0)]) Sb q q (Nat.zero_le _) (En4 h))
 exact Rcx 2 q (En4 h)
 refine Rcc 7 q (Ci h q (λh=>?_) λh=>?_)
 refine Rcl 8 q ?_
 obtain⟨G,E,h⟩:=ab h
 refine wF Z4 (f57_c E) ⟨(ah (Zs _)),(ah (Zs _)),Zl,Zt⟩ Z3 (Rl 5 q (sS Z6 s41 Z2 (St q (Rl 1 q (sS Z6 s50 Z2 (St q (Rl 1 q (sS Z6 s3 Z2 (St q (Rll 5 q (sS Z6 cV Z2 (St q (Rlx 4 q ?_)))))))))))))
 obtain rfl:=Oi h
 exact am (rs1 q (aO q q gM cV q)) (ah (Zs _))
 refine Rcl 5 q (wF Z4 (f97_c (av.mk (Mem.mk s0.m.t s0.m.slots c s0.m.out) (aq.mk f s0.r.pc s0.r.exc s0.r.defer) g s0.e)) ⟨(ah (Zs _)),Zt⟩ Z3 (sS Z6 cV Z2 (St q (Rlx 3 q ?_))))
 obtain rfl:=Oi h
 exact am (rs1 q (aO q q gM cV q)) (ah (Zs _))

theorem f143_c{a0:Int}{b1:Int}{r:Int}(h:f143 a0 b1=some r):Pu prog 143 [.i .i64 a0, .i .i64 b1] (.i .i64 r):=by
 unfold f143 at h
 refine fI func143 λ_ _=>?_
 refine Rcl 9 q ?_
 replace h:=aD h
 obtain⟨c,h⟩:=h
 refine Zq (ne q q (l9 c)) q (Rlc 3 q (Jn1 (λa=> [(5, .n a)]) (λ_=> []) h (λ_ h=>?_) λa h=>?_))
 refine Rcl 5 q ?_
 apply WL.and 6 (t:=11) (d:=17)
 exact q
 intro e
 exact Rl 4 q (Zy (ss underlying4 q q) q q q (Rl 1 q (WL.nil ⟨q,[_,_,_,_,_,_],q,q,q⟩)))
 exact Rn 6 6
 exact Rlc 2 q (Ci h q (λh=>Rcx 6 q (En1 h)) λh=>Rcx 1 q (En1 h))
 exact Rcx 7 q (FA h)

theorem f144_c{b0:Bool}:Pu prog 144 [.b b0] (.i .i64 (f144 b0)):=by
 generalize h:f144 b0=r
 unfold f144 at h
 refine fI func144 λ_ _=>?_
 exact Rcc 11 q (Ci h q (λh=>Rcx 7 q (FB h)) λh=>Rcx 8 q (FB h))

theorem f98_c{a:Int}{a1:Int}{b2:Int}{r:Int×Bool}(h:f98 a a1 b2=some r):Pu prog 98 [.i .u8 a, .i .i64 a1, .i .i64 b2] (.tu [.i .i64 r.1, .b r.2]):=by
 unfold f98 at h
 refine fI func98 λ_ _=>?_
 refine Rcc 19 q (Ci h q (λh=>Rcx 12 q (FA h)) λh=>?_)
 refine Rcc 6 q (Ci h q (λh=>Rcx 12 q (FA h)) λh=>?_)
 refine Rcc 6 q (Ci h q (λh=>Rcx 12 q (FA h)) λh=>?_)
 refine Jn1 (λc=> [(0, .d (D.i .u8 a)),(1, .n a1),(2, .n b2),(8, .d (D.i .u8 a)),(24, .d (D.b c))]) (λ_=> []) h (λ_ h=>?_) (λc h=>?_)
 refine Rcc 6 q (Ci h q (λh=>Rcx 1 q (En1 h)) λh=>?_)
 exact Rcc 6 q (Ci h q (λh=>Rcx 1 q (En1 h)) λh=>Rcx 4 q (En1 h))
 refine Ci h q (λh=>?_) (λh=>?_)
 refine Rcc 7 q (Ci h q (λh=>Rcx 10 q (FA h)) λh=>?_)
 refine Rcl 8 q ?_
 refine AG 3 32 35 3 3 ?_
 refine Rlc 2 q (Ci h q (λh=>Rcx 12 q (FA h)) λh=>?_)
 refine Rcc 9 q (Ci h q (λh=>Rcx 10 q (FA h)) λh=>?_)
 refine Rcc 9 q (Ci h q (λh=>?_) λh=>?_)
 refine Rcl 4 q ?_
 replace h:=aD h
 obtain⟨e,h⟩:=h
 exact Zq (u7 q q (l9 e) q) q (Rlx 8 q (FA h))
 refine Rcc 9 q (Ci h q (λh=>?_) λh=>?_)
 refine Rcl 4 q ?_
 replace h:=aD h
 obtain⟨f,h⟩:=h
 exact Zq (ne q q (l9 f)) q (Rlx 8 q (FA h))
 refine Rcl 6 q ?_
 obtain⟨j,g,h⟩:=ab h
 exact wF Z4 (f143_c g) Lw Z3 (Rlx 7 q (FA h))
 refine Rcc 6 q (Ci h q (λh=>Rcl 5 q (wF Z4 (f144_c) Lw Z3 (Rlx 7 q (FA h)))) λh=>?_)
 refine Rcc 6 q (Ci h q (λh=>Rcl 5 q (wF Z4 (f144_c) Lw Z3 (Rlx 7 q (FA h)))) λh=>?_)
 refine Rcc 6 q (Ci h q (λh=>Rcl 5 q (wF Z4 (f144_c) Lw Z3 (Rlx 7 q (FA h)))) λh=>?_)
 refine Rcc 6 q (Ci h q (λh=>Rcl 5 q (wF Z4 (f144_c) Lw Z3 (Rlx 7 q (FA h)))) λh=>?_)
 refine Rcc 6 q (Ci h q (λh=>Rcl 5 q (wF Z4 (f144_c) Lw Z3 (Rlx 7 q (FA h)))) λh=>?_)
 refine Rcc 6 q (Ci h q (λh=>Rcl 5 q (wF Z4 (f144_c) Lw Z3 (Rlx 7 q (FA h)))) λh=>?_)
 refine Rcc 6 q (Ci h q (λh=>Rcl 4 q (Zq (sE q q q) q (Rlx 7 q (FA h)))) λh=>?_)
 refine Rcc 6 q (Ci h q (λh=>Rcl 4 q (Zq (uc q q q) q (Rlx 7 q (FA h)))) λh=>?_)
 refine Rcc 6 q (Ci h q (λh=>Rcl 4 q (Zq (sk q q q) q (Rlx 7 q (FA h)))) λh=>?_)
 refine Rcc 6 q (Ci h q (λh=>Rcx 11 q (FA h)) λh=>?_)
 refine Rcc 6 q (Ci h q (λh=>?_) λh=>?_)
 exact Rcc 7 q (Ci h q (λh=>Rcx 12 q (FA h)) λh=>Rcx 12 q (FA h))
 exact Rcc 6 q (Ci h q (λh=>Rcx 11 q (FA h)) λh=>Rcx 10 q (FA h))

theorem f99_c{o0:Int}{r:Int}(h:f99 o0=some r):Pu prog 99 [.i .u8 o0] (.i .u8 r):=by
 unfold f99 at h
 refine fI func99 λ_ _=>?_
 refine Rcl 7 q (WL.s ((NewOs.b (af l211 z43 q dC dC q q q dC)).does) (Zw q) q q (Rll 5 q (WL.s ((NewOs.b (af l212 z146 q dC dC q q q dC)).does) (Zw q) q q (Rlc 3 q (Jn0 [] [.os 43 1 0 (eM E43 [9,10,11,12,13,14,15,16,17,18,19,20,21,22,23,24,25,26]), .os 146 1 0 (eM E146 [1,2,3,4,5,6,7,8,9,10,11,12,13,14,15,16,17,18])] h (λf h=>?_) λh=>?_)))))
 refine Rcc 6 q (Ln1 (λa=> [(0, .d (D.i .u8 o0)),(3, .os 0 0),(4, .os 1 0),(5, .n a)]) (λ_=> [.os 43 1 0 (eM E43 [9,10,11,12,13,14,15,16,17,18,19,20,21,22,23,24,25,26]), .os 146 1 0 (eM E146 [1,2,3,4,5,6,7,8,9,10,11,12,13,14,15,16,17,18])]) (f99_l1 o0 f) h (λ_ h=>by rw[f99_l1] at h;cases h) λn a h=>?_)
 rw[f99_l1] at h
 refine Rcl 5 q (Zq (d8 (ba E43) [9,10,11,12,13,14,15,16,17,18,19,20,21,22,23,24,25,26] e211 q q q) q (Rlc 3 q (Ci h q (λh=>?_) λh=>?_)))
 refine Rcl 8 q ?_
 obtain⟨g,c,h⟩:=ab h
 refine Zq (iX e211 q q q c) q (Zq (fx (fo:=0) q q q a43 (λ_=>q) c q) q (Rlc 4 q (Ci h q (λh=>?_) λh=>?_)))
 refine Rcl 4 q ?_
 obtain⟨j,e,h⟩:=ab h
 exact Zq (iX e212 q q q e) q (Zq (fx (fo:=0) q q q a146 (λ_=>q) e q) q (Rlx 9 q (FA h)))
 exact Rcx 8 q (Fn1 h)
 exact Rcx 4 q (En0 h)
 exact Rcx 6 q (FA h)

theorem f54_c{s0:av}{x1:aB}{r:av}(h:f54 s0 x1=some r):Pu prog 54 [.ag (mL s0), .ag (R45 x1)] (.ag (mL r)):=by
 unfold f54 at h
 refine fI func54 λ_ _=>?_
 refine Rcl 2 q (Bx q q q (Bd q q (Zs _) q (Al nI q (Rll 8 q ?_))))
 replace h:=aD h
 obtain⟨c,h⟩:=h
 refine Zq (aE dZ q q (bB c) (bz c)) q (Zq (cA (off:=14) (n:=16) (λj=> .n (s0.r.r j)) q q a2 q c) q (Rlc 3 q (Jn4 (λ_ _ _ _=> [(2, .pt 0 0),(4, .pt 1 0)]) (λf g k p=> [.row 123 (([.l E45 s0.m.t.insns, .l bq s0.m.t.handlers, .l bT s0.m.t.loops, .l bS s0.m.t.selects, .l E96 s0.m.t.lists, .l br s0.m.t.objs, .l bO s0.m.t.inits, .n s0.m.t.excs, .l E27 s0.m.t.tasks, .l bI s0.m.t.prots, .l bY s0.m.t.checks, .l E42 s0.m.slots, .l E2 s0.m.in_, .l E2 f]:lV)++(aX 16 (λj=> .n (g j))++([.n s0.r.pc, .n s0.r.exc, .n k, .l E58 p, .n s0.e]:lV):lV)), .row 123 [sN,sN,sN,sN,sN,sN,sN, .n 0,sN,sN,sN,sN,sN,sN, .n 0, .n 0, .n 0, .n 0, .n 0, .n 0, .n 0, .n 0, .n 0, .n 0, .n 0, .n 0, .n 0, .n 0, .n 0, .n 0, .n 0, .n 0, .n 0,sN, .n 0]]) h (λ_ h=>?_) λf g k p h=>?_)))
 refine Rcc 13 q (Ci h q (λh=>?_) λh=>?_)
 refine Rcl 7 q ?_
 replace h:=aD h
 obtain⟨w,h⟩:=h
 exact Zq (aE dZ q q (bB w) (bz w)) q (WL.s0 (di (off:=14) (n:=16) (cs':=(([.l E45 s0.m.t.insns, .l bq s0.m.t.handlers, .l bT s0.m.t.loops, .l bS s0.m.t.selects, .l E96 s0.m.t.lists, .l br s0.m.t.objs, .l bO s0.m.t.inits, .n s0.m.t.excs, .l E27 s0.m.t.tasks, .l bI s0.m.t.prots, .l bY s0.m.t.checks, .l E42 s0.m.slots, .l E2 s0.m.in_, .l E2 s0.m.out]:lV)++(aX 16 (λj=> .n ((bW s0.r.r (Int.toNat x1.d) x1.n) j))++([.n s0.r.pc, .n s0.r.exc, .n s0.r.defer, .l E58 s0.acts, .n s0.e]:lV):lV))) (λx=> .n x) s0.r.r x1.n q q q (fb q) s2 q q w q) (Zw q) q (St q (Rlx 2 q (En4 h))))
 refine Rcc 6 q (Ci h q (λh=>?_) λh=>?_)
 refine Rcl 6 q ?_
 replace h:=aD h
 obtain⟨y,h⟩:=h
 exact Zq (aE dZ q q (bB y) (bz y)) q (WL.s0 (di (off:=14) (n:=16) (cs':=(([.l E45 s0.m.t.insns, .l bq s0.m.t.handlers, .l bT s0.m.t.loops, .l bS s0.m.t.selects, .l E96 s0.m.t.lists, .l br s0.m.t.objs, .l bO s0.m.t.inits, .n s0.m.t.excs, .l E27 s0.m.t.tasks, .l bI s0.m.t.prots, .l bY s0.m.t.checks, .l E42 s0.m.slots, .l E2 s0.m.in_, .l E2 s0.m.out]:lV)++(aX 16 (λj=> .n ((bW s0.r.r (Int.toNat x1.d) (s0.r.r (Int.toNat x1.a))) j))++([.n s0.r.pc, .n s0.r.exc, .n s0.r.defer, .l E58 s0.acts, .n s0.e]:lV):lV))) (λx=> .n x) s0.r.r (s0.r.r (Int.toNat x1.a)) q q q (fb q) s2 q q y q) (Zw q) q (St q (Rlx 2 q (En4 h))))
 refine Rcc 6 q (Ci h q (λh=>?_) λh=>?_)
 refine Rcl 8 q ?_
 replace h:=aD h
 obtain⟨A,h⟩:=h
 exact Zq (aE dZ q q (bB A) (bz A)) q (WL.s0 (di (off:=14) (n:=16) (cs':=(([.l E45 s0.m.t.insns, .l bq s0.m.t.handlers, .l bT s0.m.t.loops, .l bS s0.m.t.selects, .l E96 s0.m.t.lists, .l br s0.m.t.objs, .l bO s0.m.t.inits, .n s0.m.t.excs, .l E27 s0.m.t.tasks, .l bI s0.m.t.prots, .l bY s0.m.t.checks, .l E42 s0.m.slots, .l E2 s0.m.in_, .l E2 s0.m.out]:lV)++(aX 16 (λj=> .n ((bW s0.r.r (Int.toNat x1.d) s0.r.exc) j))++([.n s0.r.pc, .n s0.r.exc, .n s0.r.defer, .l E58 s0.acts, .n s0.e]:lV):lV))) (λx=> .n x) s0.r.r s0.r.exc q q q (fb q) s2 q q A q) (Zw q) q (St q (Rlx 2 q (En4 h))))
 refine Rcc 6 q (Ci h q (λh=>?_) λh=>?_)
 refine Rcl 7 q (Zq (aa p58 z58 q q) q (Al z58 q (sS Z6 s58 Z2 (St q (Rlc 2 q (Jn1 (λ_=> [(2, .pt 0 0),(4, .pt 1 0),(6, .pt 2 0)]) (λB=> [.row 123 (([.l E45 s0.m.t.insns, .l bq s0.m.t.handlers, .l bT s0.m.t.loops, .l bS s0.m.t.selects, .l E96 s0.m.t.lists, .l br s0.m.t.objs, .l bO s0.m.t.inits, .n s0.m.t.excs, .l E27 s0.m.t.tasks, .l bI s0.m.t.prots, .l bY s0.m.t.checks, .l E42 s0.m.slots, .l E2 s0.m.in_, .l E2 s0.m.out]:lV)++(aX 16 (λj=> .n (s0.r.r j))++([.n s0.r.pc, .n s0.r.exc, .n s0.r.defer, .l E58 s0.acts, .n s0.e]:lV):lV)), .row 123 [sN,sN,sN,sN,sN,sN,sN, .n 0,sN,sN,sN,sN,sN,sN, .n 0, .n 0, .n 0, .n 0, .n 0, .n 0, .n 0, .n 0, .n 0, .n 0, .n 0, .n 0, .n 0, .n 0, .n 0, .n 0, .n 0, .n 0, .n 0,sN, .n 0], .row 58 [.n 0, .n 0, .d (D.i .u8 (IntKind.u8.wrap x1.n)), .n B, .n 0, .n 0]]) h (λ_ h=>?_) λB h=>?_))))))
 exact Rcc 7 q (Ci h q (λh=>Rcl 5 q (sS Z6 s2 Z2 (St q (Rlx 1 q (En1 h))))) λh=>Rcx 1 q (En1 h))
 refine Rcl 2 q (WL.s ((NewOs.b (af l50 z58 q dC dC q q q dC)).does) (Zw q) q q (Rl 1 q (WL.s0 (dX q q q (fa q) s50 q) (Zw q) q (St q (Rlx 2 q ?_)))))
 exact WE.freezeX [86] [(0,33)] 3 _ q (al d7 [(Act.mk 0 0 (IntKind.u8.wrap x1.n) B 0 0)]) ⟨q,Zt⟩ ⟨_,_,q,q,Zt⟩ (WE.drop 2 (env':=[(2, .pt 0 0),(4, .pt 1 0)]) Sb q q (Nat.zero_le _) (En4 h))
 refine Rcc 6 q (Ci h q (λh=>?_) λh=>?_)
 refine Rcl 3 q (Zq (aa p58 z58 q q) q (WL.s ((NewOs.b (af l50 z58 q dC dC q q q dC)).does) (Zw q) q q (Rl 1 q (WL.s0 (dX q q q (fa q) s50 q) (Zw q) q (St q (Rll 5 q (WL.nil_os 7 2 1 q (Rll 8 q ?_))))))))
 replace h:=aD h
 obtain⟨I,h⟩:=h
 refine WL.s (db E2 [] s0.m.out l42 z2 q dC q q q q (dc Zl dx λ_=>q) (λ_=>q) (λ_=>q) I) (Zw q) q q (Rll 6 q (WL.s ((NewOs.b (af l42 z2 q dC dC q q q dC)).does) (Zw q) q q ?_))
 replace h:=aD h
 obtain⟨J,h⟩:=h
 refine WL.s (db E2 ([]++s0.m.out) [(s0.r.r (Int.toNat x1.a))] l42 z2 q dC q q q q (Src.own q) (λ_=>q) (λ_=>q) J) (Zw q) q q (Rl 2 q (WL.s0 (dX q q q (fa q) s42 q) (Zw q) q (St q (Rlx 2 q ?_))))
 refine WE.freezeX [102] [(0,13)] 3 _ q (al dx _) ⟨q,Zt⟩ ⟨_,_,q,q,Zt⟩ ?_
 exact WE.freezeX [92] [(0,33)] 2 _ q (al d7 [(Act.mk 0 0 1 (s0.r.r (Int.toNat x1.a)) 0 0)]) ⟨q,Zt⟩ ⟨_,_,q,q,Zt⟩ (WE.drop 2 (env':=[(2, .pt 0 0),(4, .pt 1 0)]) Sb q q (Nat.zero_le _) (En4 h))
 refine Jn1 (λF=> [(2, .pt 0 0),(3, .d (.pc (R45 x1))),(4, .pt 1 0),(5, .n (s0.r.r (Int.toNat x1.a))),(105, .d (D.b F))]) (λ_=> [.row 123 (([.l E45 s0.m.t.insns, .l bq s0.m.t.handlers, .l bT s0.m.t.loops, .l bS s0.m.t.selects, .l E96 s0.m.t.lists, .l br s0.m.t.objs, .l bO s0.m.t.inits, .n s0.m.t.excs, .l E27 s0.m.t.tasks, .l bI s0.m.t.prots, .l bY s0.m.t.checks, .l E42 s0.m.slots, .l E2 s0.m.in_, .l E2 s0.m.out]:lV)++(aX 16 (λj=> .n (s0.r.r j))++([.n s0.r.pc, .n s0.r.exc, .n s0.r.defer, .l E58 s0.acts, .n s0.e]:lV):lV)), .row 123 [sN,sN,sN,sN,sN,sN,sN, .n 0,sN,sN,sN,sN,sN,sN, .n 0, .n 0, .n 0, .n 0, .n 0, .n 0, .n 0, .n 0, .n 0, .n 0, .n 0, .n 0, .n 0, .n 0, .n 0, .n 0, .n 0, .n 0, .n 0,sN, .n 0]]) h (λ_ h=>?_) (λF h=>?_)
 exact Rcc 6 q (Ci h q (λh=>Rcx 1 q (En1 h)) λh=>Rcx 4 q (En1 h))
 refine Ci h q (λh=>?_) (λh=>?_)
 refine Jn1 (λ_=> [(2, .pt 0 0),(4, .pt 1 0)]) (λG=> [.row 123 (([.l E45 s0.m.t.insns, .l bq s0.m.t.handlers, .l bT s0.m.t.loops, .l bS s0.m.t.selects, .l E96 s0.m.t.lists, .l br s0.m.t.objs, .l bO s0.m.t.inits, .n s0.m.t.excs, .l E27 s0.m.t.tasks, .l bI s0.m.t.prots, .l bY s0.m.t.checks, .l E42 s0.m.slots, .l E2 s0.m.in_, .l E2 s0.m.out]:lV)++(aX 16 (λj=> .n (s0.r.r j))++([.n s0.r.pc, .n s0.r.exc, .n G, .l E58 s0.acts, .n s0.e]:lV):lV)), .row 123 [sN,sN,sN,sN,sN,sN,sN, .n 0,sN,sN,sN,sN,sN,sN, .n 0, .n 0, .n 0, .n 0, .n 0, .n 0, .n 0, .n 0, .n 0, .n 0, .n 0, .n 0, .n 0, .n 0, .n 0, .n 0, .n 0, .n 0, .n 0,sN, .n 0]]) h (λ_ h=>?_) (λG h=>?_)
 exact Rcc 7 q (Ci h q (λh=>Rcl 7 q (sS Z6 s3 Z2 (St q (Rlx 1 q (En1 h))))) λh=>Rcl 7 q (sS Z6 s3 Z2 (St q (Rlx 1 q (En1 h)))))
 refine Rcl 7 q ?_
 refine OG 5 127 132 5 5 ?_
 refine Rlc 2 q (Ci h q (λh=>?_) λh=>?_)
 refine Rcl 4 q (wF Z4 (f96_c) ⟨(ah (Zs _)),Zt⟩ Z3 (sS Z6 cV Z2 (St q (Rlx 5 q ?_))))
 obtain rfl:=Oi h
 exact am (rs1 q (aO q q gM cV q)) (ah (Zs _))
 exact Rcx 2 q (En4 h)
 refine Rcc 1 q (ao kR kR (Rq 2 q ?_))
 obtain⟨M,K,h⟩:=ab h
 refine WQ.q (YieldsQ.fn q q q q q (f99_c K) Lw) (Zw q) q q (Rq 5 q ?_)
 replace h:=aD h
 obtain⟨C,h⟩:=h
 refine WQ.qn (aE dZ q q (bB C) (bz C)) q (WQ.qn (cA (off:=14) (n:=16) (λj=> .n (s0.r.r j)) q q a2 q C) q ?_)
 obtain⟨H,L,h⟩:=ab h
 refine WQ.q (YieldsQ.fn q q q q q (f98_c L) Lw) (Zw q) q q (Rq 5 q (WQ.nil (Rxc 8 q (Ci h q (λh=>?_) λh=>?_))))
 refine Rcl 4 q (wF Z4 (f96_c) ⟨(ah (Zs _)),Zt⟩ Z3 (sS Z6 cV Z2 (St q (Rlx 6 q ?_))))
 obtain rfl:=Oi h
 exact am (rs1 q (aO q q gM cV q)) (ah (Zs _))
 refine Rcl 8 q ?_
 replace h:=aD h
 obtain⟨E,h⟩:=h
 exact Zq (aE dZ q q (bB E) (bz E)) q (WL.s0 (di (off:=14) (n:=16) (cs':=(([.l E45 s0.m.t.insns, .l bq s0.m.t.handlers, .l bT s0.m.t.loops, .l bS s0.m.t.selects, .l E96 s0.m.t.lists, .l br s0.m.t.objs, .l bO s0.m.t.inits, .n s0.m.t.excs, .l E27 s0.m.t.tasks, .l bI s0.m.t.prots, .l bY s0.m.t.checks, .l E42 s0.m.slots, .l E2 s0.m.in_, .l E2 s0.m.out]:lV)++(aX 16 (λj=> .n ((bW s0.r.r (Int.toNat x1.d) H.1) j))++([.n s0.r.pc, .n s0.r.exc, .n s0.r.defer, .l E58 s0.acts, .n s0.e]:lV):lV))) (λx=> .n x) s0.r.r H.1 q q q (fb q) s2 q q E q) (Zw q) q (St q (Rlx 2 q (En4 h))))
 refine Rcl 3 q (wF Z4 (f97_c (av.mk (Mem.mk s0.m.t s0.m.slots s0.m.in_ f) (aq.mk g s0.r.pc s0.r.exc k) p s0.e)) ⟨(ah (Zs _)),Zt⟩ Z3 (sS Z6 cV Z2 (St q (Rlx 3 q ?_))))
 obtain rfl:=Oi h
 exact am (rs1 q (aO q q gM cV q)) (ah (Zs _))

theorem f17_c{m0:Mem}{r1:aq}{r:Mem×aq×lA×Int}(h:f17 m0 r1=some r):Pu prog 17 [.ag (R64 m0), .ag (R41 r1)] (.tu [.ag (R64 r.1), .ag (R41 r.2.1), .sl (List.map E58 r.2.2.1), .i .i64 r.2.2.2]):=by
 unfold f17 at h
 refine fI func17 λ_ _=>?_
 refine Rcl 2 q (Bd q q (Zs _) q (Bd q q (Zs _) q (Al z64 q (Al z41 q (Rll 10 q (wF Z4 (f31_c) Lw Z3 (Rlc 3 q (Ci h q (λh=>?_) λh=>?_))))))))
 refine Rcl 3 q (Zq (aa p41 z41 q q) q (sS Z6 s64 Z2 (St q (sS Z6 s41 Z2 (St q (Rlx 6 q ?_))))))
 obtain rfl:=Oi h
 exact am (rs4 q (aO q q a64 s64 q) (aO q q a41 s41 q) (ap q) (ap q)) (aK ⟨(ah (Zs _)),(ah (Zs _)),Le.nil,Zl,Zt⟩)
 refine Rcl 9 q (Ix h e23 dr q Zl q q λc _ h=>(Rl 1 q (Al z45 q (sS Z6 s45 Z2 (St q (Rll 7 q (wF Z4 (f50_c) Lw Z3 (Rlc 3 q (Ci h q (λh=>?_) λh=>?_)))))))))
 refine Rcl 3 q (Zq (aa p41 z41 q q) q (sS Z6 s64 Z2 (St q (sS Z6 s41 Z2 (St q (Rlx 6 q ?_))))))
 obtain rfl:=Oi h
 exact am (rs4 q (aO q q a64 s64 q) (aO q q a41 s41 q) (ap q) (ap q)) (aK ⟨(ah (Zs _)),(ah (Zs _)),Le.nil,Zl,Zt⟩)
 refine Rcl 6 q (Zq (aa p123 nI q q) q (Al nI q (sS Z6 cV Z2 (St q (Rlc 2 q (Jn20 (λ_ _ _ _ _ _ _ _ _ _ _ _ _ _ _ _ _ _ _ _=> [(2, .d (.pc (R64 m0))),(4, .pt 0 0),(5, .pt 1 0),(9, .pt 3 0)]) (λe f g k p w x y A B C E F G H I J K L M=> [.row 64 [sN,sN,sN,sN,sN,sN,sN, .n 0,sN,sN,sN,sN,sN,sN], .row 41 n19, .row 45 [.d (D.i .u8 c.op), .n c.d, .n c.a, .n c.b, .n c.n, .n c.m, .n c.to], .row 123 (([.l E45 e, .l bq f, .l bT g, .l bS k, .l E96 p, .l br w, .l bO x, .n y, .l E27 A, .l bI B, .l bY C, .l E42 E, .l E2 F, .l E2 G]:lV)++(aX 16 (λj=> .n (H j))++([.n I, .n J, .n K, .l E58 L, .n M]:lV):lV))]) h (λ_ h=>?_) λe f g k p w x y A B C E F G H I J K L M h=>?_))))))
 refine Rcc 7 q (Jn1 (λN=> [(2, .d (.pc (R64 m0))),(4, .pt 0 0),(5, .pt 1 0),(8, .pt 2 0),(9, .pt 3 0),(34, .d (D.i .u8 c.op)),(38, .d (D.b N))]) (λ_=> [.row 64 [sN,sN,sN,sN,sN,sN,sN, .n 0,sN,sN,sN,sN,sN,sN], .row 41 n19, .row 45 [.d (D.i .u8 c.op), .n c.d, .n c.a, .n c.b, .n c.n, .n c.m, .n c.to], .row 123 (([.l E45 m0.t.insns, .l bq m0.t.handlers, .l bT m0.t.loops, .l bS m0.t.selects, .l E96 m0.t.lists, .l br m0.t.objs, .l bO m0.t.inits, .n m0.t.excs, .l E27 m0.t.tasks, .l bI m0.t.prots, .l bY m0.t.checks, .l E42 m0.slots, .l E2 m0.in_, .l E2 m0.out]:lV)++(aX 16 (λj=> .n (r1.r j))++([.n r1.pc, .n r1.exc, .n r1.defer,sN, .n 0]:lV):lV))]) h (λ_ h=>?_) λN h=>?_)
 refine Rcc 6 q (Ci h q (λh=>Rcx 1 q (En1 h)) λh=>?_)
 refine Rcc 6 q (Ci h q (λh=>Rcx 1 q (En1 h)) λh=>?_)
 refine Rcc 6 q (Ci h q (λh=>Rcx 1 q (En1 h)) λh=>?_)
 refine Rcc 6 q (Ci h q (λh=>Rcx 1 q (En1 h)) λh=>?_)
 exact Rcc 6 q (Ci h q (λh=>Rcx 1 q (En1 h)) λh=>Rcx 4 q (En1 h))
 refine Ci h q (λh=>?_) (λh=>?_)
 refine Rcl 3 q ?_
 obtain⟨U,Q,h⟩:=ab h
 exact WL.fn q q q q (f51_c Q) ⟨(ah ⟨Zl,Zl,Zl,Zl,Zl,Zl,Zl,Zl,Zl,Zl,Zl,Zl,Zl,Zl,Zl,Zl,Zl,Zl,Zl,Zl,Zl,Zl,Zl,Zl,Zl,Zl,Zl,Zl,Zl,Zl,Zl,Zl,Zl,Le.nil,Zl,Zt⟩),(ah (Zs _)),Zt⟩ (Zw q) q q (sS Z6 cV Z2 (St q (Rlx 2 q (cG ⟨_,_,_,_,_,_,_,_,_,_,_,_,_,_,_,_,_,_,_,_,h,Sb,Tv⟩))))
 refine Jn1 (λO=> [(2, .d (.pc (R64 m0))),(4, .pt 0 0),(5, .pt 1 0),(8, .pt 2 0),(9, .pt 3 0),(34, .d (D.i .u8 c.op)),(48, .d (D.b O))]) (λ_=> [.row 64 [sN,sN,sN,sN,sN,sN,sN, .n 0,sN,sN,sN,sN,sN,sN], .row 41 n19, .row 45 [.d (D.i .u8 c.op), .n c.d, .n c.a, .n c.b, .n c.n, .n c.m, .n c.to], .row 123 (([.l E45 m0.t.insns, .l bq m0.t.handlers, .l bT m0.t.loops, .l bS m0.t.selects, .l E96 m0.t.lists, .l br m0.t.objs, .l bO m0.t.inits, .n m0.t.excs, .l E27 m0.t.tasks, .l bI m0.t.prots, .l bY m0.t.checks, .l E42 m0.slots, .l E2 m0.in_, .l E2 m0.out]:lV)++(aX 16 (λj=> .n (r1.r j))++([.n r1.pc, .n r1.exc, .n r1.defer,sN, .n 0]:lV):lV))]) h (λ_ h=>?_) (λO h=>?_)
 refine Rcc 6 q (Ci h q (λh=>Rcx 1 q (En1 h)) λh=>?_)
 refine Rcc 6 q (Ci h q (λh=>Rcx 1 q (En1 h)) λh=>?_)
 exact Rcc 6 q (Ci h q (λh=>Rcx 1 q (En1 h)) λh=>Rcx 4 q (En1 h))
 refine Ci h q (λh=>?_) (λh=>?_)
 refine Rcl 3 q ?_
 obtain⟨V,R,h⟩:=ab h
 exact WL.fn q q q q (f52_c R) ⟨(ah ⟨Zl,Zl,Zl,Zl,Zl,Zl,Zl,Zl,Zl,Zl,Zl,Zl,Zl,Zl,Zl,Zl,Zl,Zl,Zl,Zl,Zl,Zl,Zl,Zl,Zl,Zl,Zl,Zl,Zl,Zl,Zl,Zl,Zl,Le.nil,Zl,Zt⟩),(ah (Zs _)),Zt⟩ (Zw q) q q (sS Z6 cV Z2 (St q (Rlx 2 q (cG ⟨_,_,_,_,_,_,_,_,_,_,_,_,_,_,_,_,_,_,_,_,h,Sb,Tv⟩))))
 refine Jn1 (λP=> [(2, .d (.pc (R64 m0))),(4, .pt 0 0),(5, .pt 1 0),(8, .pt 2 0),(9, .pt 3 0),(56, .d (D.b P))]) (λ_=> [.row 64 [sN,sN,sN,sN,sN,sN,sN, .n 0,sN,sN,sN,sN,sN,sN], .row 41 n19, .row 45 [.d (D.i .u8 c.op), .n c.d, .n c.a, .n c.b, .n c.n, .n c.m, .n c.to], .row 123 (([.l E45 m0.t.insns, .l bq m0.t.handlers, .l bT m0.t.loops, .l bS m0.t.selects, .l E96 m0.t.lists, .l br m0.t.objs, .l bO m0.t.inits, .n m0.t.excs, .l E27 m0.t.tasks, .l bI m0.t.prots, .l bY m0.t.checks, .l E42 m0.slots, .l E2 m0.in_, .l E2 m0.out]:lV)++(aX 16 (λj=> .n (r1.r j))++([.n r1.pc, .n r1.exc, .n r1.defer,sN, .n 0]:lV):lV))]) h (λ_ h=>?_) (λP h=>?_)
 refine Rcc 6 q (Ci h q (λh=>Rcx 1 q (En1 h)) λh=>?_)
 refine Rcc 6 q (Ci h q (λh=>Rcx 1 q (En1 h)) λh=>?_)
 refine Rcc 6 q (Ci h q (λh=>Rcx 1 q (En1 h)) λh=>?_)
 refine Rcc 6 q (Ci h q (λh=>Rcx 1 q (En1 h)) λh=>?_)
 exact Rcc 6 q (Ci h q (λh=>Rcx 1 q (En1 h)) λh=>Rcx 4 q (En1 h))
 refine Ci h q (λh=>?_) (λh=>?_)
 refine Rcl 3 q ?_
 obtain⟨W,S,h⟩:=ab h
 exact WL.fn q q q q (f53_c S) ⟨(ah ⟨Zl,Zl,Zl,Zl,Zl,Zl,Zl,Zl,Zl,Zl,Zl,Zl,Zl,Zl,Zl,Zl,Zl,Zl,Zl,Zl,Zl,Zl,Zl,Zl,Zl,Zl,Zl,Zl,Zl,Zl,Zl,Zl,Zl,Le.nil,Zl,Zt⟩),(ah (Zs _)),Zt⟩ (Zw q) q q (sS Z6 cV Z2 (St q (Rlx 2 q (cG ⟨_,_,_,_,_,_,_,_,_,_,_,_,_,_,_,_,_,_,_,_,h,Sb,Tv⟩))))
 refine Rcl 3 q ?_
 obtain⟨X,T,h⟩:=ab h
 exact WL.fn q q q q (f54_c T) ⟨(ah ⟨Zl,Zl,Zl,Zl,Zl,Zl,Zl,Zl,Zl,Zl,Zl,Zl,Zl,Zl,Zl,Zl,Zl,Zl,Zl,Zl,Zl,Zl,Zl,Zl,Zl,Zl,Zl,Zl,Zl,Zl,Zl,Zl,Zl,Le.nil,Zl,Zt⟩),(ah (Zs _)),Zt⟩ (Zw q) q q (sS Z6 cV Z2 (St q (Rlx 2 q (cG ⟨_,_,_,_,_,_,_,_,_,_,_,_,_,_,_,_,_,_,_,_,h,Sb,Tv⟩))))
 refine Rcc 8 q (Ci h q (λh=>?_) λh=>?_)
 refine Rcc 1 q ?_
 apply RT [_,_,_,_, .u, .u,_,_] [4] [[.row 64 [.l E45 m0.t.insns, .l bq m0.t.handlers, .l bT m0.t.loops, .l bS m0.t.selects, .l E96 m0.t.lists, .l br m0.t.objs, .l bO m0.t.inits, .n m0.t.excs, .l E27 m0.t.tasks, .l bI m0.t.prots, .l bY m0.t.checks, .l E42 m0.slots, .l E2 m0.in_, .l E2 m0.out], .row 41 n19, .row 45 [.d (D.i .u8 c.op), .n c.d, .n c.a, .n c.b, .n c.n, .n c.m, .n c.to], .row 123 (([.l E45 e, .l bq f, .l bT g, .l bS k, .l E96 p, .l br w, .l bO x, .n y, .l E27 A, .l bI B, .l bY C, .l E42 E, .l E2 F, .l E2 G]:lV)++(aX 16 (λj=> .n (H j))++([.n I, .n J, .n K, .l E58 L, .n M]:lV):lV))]] [p01 2,u00,u01 9,u10 2,p11 0 4,q11 1 5 1,q00 1,q10 3 1] kR kR q q
 refine Y1 ?_
 refine⟨⟨λ_=>Zq (aa p41 z41 q q) q (Zd q q q),λ_=>Zq (aa p41 z41 q q) q (Zd q q q),Zt⟩,?_⟩
 refine X2b ?_
 refine zo (λ_=>sS Z6 s64 Z2 (aJ q q)) ?_
 refine zo (λ_=>sS Z6 s41 Z2 (aJ q q)) ?_
 exact Y2 Zt
 refine Rxx 3 q ?_
 obtain rfl:=Oi h
 exact am (rs4 q (aO q q a64 s64 q) (aO q q a41 s41 q) (ap q) (ap q)) (aK ⟨(ah (Zs _)),(ah (Zs _)),Le.nil,Zl,Zt⟩)
 refine Rcc 3 q ?_
 apply RT [_,_,_,_,_,_, .u, .u,_,_] [6,7] [[.row 64 [.l E45 e, .l bq f, .l bT g, .l bS k, .l E96 p, .l br w, .l bO x, .n y, .l E27 A, .l bI B, .l bY C, .l E42 E, .l E2 F, .l E2 G], .row 41 n19, .row 45 [.d (D.i .u8 c.op), .n c.d, .n c.a, .n c.b, .n c.n, .n c.m, .n c.to], .row 123 (([.l E45 e, .l bq f, .l bT g, .l bS k, .l E96 p, .l br w, .l bO x, .n y, .l E27 A, .l bI B, .l bY C, .l E42 E, .l E2 F, .l E2 G]:lV)++(aX 16 (λj=> .n (H j))++([.n I, .n J, .n K, .l E58 L, .n M]:lV):lV))],[.row 64 [.l E45 e, .l bq f, .l bT g, .l bS k, .l E96 p, .l br w, .l bO x, .n y, .l E27 A, .l bI B, .l bY C, .l E42 E, .l E2 F, .l E2 G], .row 41 (rg H I J K), .row 45 [.d (D.i .u8 c.op), .n c.d, .n c.a, .n c.b, .n c.n, .n c.m, .n c.to], .row 123 (([.l E45 e, .l bq f, .l bT g, .l bS k, .l E96 p, .l br w, .l bO x, .n y, .l E27 A, .l bI B, .l bY C, .l E42 E, .l E2 F, .l E2 G]:lV)++(aX 16 (λj=> .n (H j))++([.n I, .n J, .n K, .l E58 L, .n M]:lV):lV))]] [p01 9,p10 0,u01 9,u10 2,([],[9],[0,1,2]),([4],[],[0,1,2]),p11 1 4,q11 3 5 1,q10 5 2,q00 2] kR kR q q
 refine Y2 ?_
 refine X2b ?_
 refine X3b ?_
 refine zo (λ_=>sS Z6 s64 Z2 (aJ q q)) ?_
 refine zo (λ_=>sS Z6 s41 Z2 (aJ q q)) ?_
 exact Y2 Zt
 refine Rxx 2 q ?_
 obtain rfl:=Oi h
 exact am (rs4 q (aO q q a64 s64 q) (aO q q a41 s41 q) (ap q) (ap q)) (aK ⟨(ah (Zs _)),(ah (Zs _)),Zl,Zl,Zt⟩)

theorem f18_c{a0:lA}{b1:lA}{r:Bool}(h:f18 a0 b1=some r):Pu prog 18 [.sl (List.map E58 a0), .sl (List.map E58 b1)] (.b r):=by
 unfold f18 at h
 refine fI func18 λ_ _=>?_
 refine Rcl 9 q (Zq (ac E58 a0 e50 q q Zl) q (Rl 1 q (Zq (ac E58 b1 e50 q q Zl) q (Rlc 3 q (Ci h q (λh=>?_) λh=>?_)))))
 exact Rcx 7 q (FA h)
 refine Rcc 2 q (Jn0 [] [] h (λj h=>?_) λh=>?_)
 refine Rcc 6 q (Ln1 (λe=> [(0, .l E58 a0),(1, .l E58 b1),(5, .n e)]) (λ_=> []) (f18_l1 a0 b1 j) h (λ_ h=>by rw[f18_l1] at h;cases h) λn e h=>?_)
 rw[f18_l1] at h
 refine Rcl 5 q (Zq (ac E58 a0 e50 q q Zl) q (Rlc 3 q (Ci h q (λh=>?_) λh=>?_)))
 refine Rcc 5 q (ao kR kR (Rq 2 q ?_))
 obtain⟨c,f,h⟩:=ab h
 refine WQ.qn (ai e50 q Zl q (ae f) (az d7 f) q) q (Rq 3 q ?_)
 obtain⟨d,g,h⟩:=ab h
 refine WQ.qn (ai e50 q Zl q (ae g) (az d7 g) q) q (Rq 1 q (WQ.qn (sq (xs:=[.int .i64 c.time, .int .i64 c.task, .int .u8 c.kind, .int .i64 c.a, .int .i64 c.b, .int .i64 c.n]) (ys:=[.int .i64 d.time, .int .i64 d.task, .int .u8 d.kind, .int .i64 d.a, .int .i64 d.b, .int .i64 d.n]) q58 q Zl q Zl q q q) q (WQ.nil (Rxc 1 q (Ci h q (λh=>?_) λh=>?_)))))
 exact Rcx 11 q (FA h)
 exact Rcx 8 q (Fn1 h)
 exact Rcx 4 q (En0 h)
 exact Rcx 6 q (FA h)

theorem f29_c{a0:lL}{b1:lL}{r:Bool}(h:f29 a0 b1=some r):Pu prog 29 [.sl (List.map E42 a0), .sl (List.map E42 b1)] (.b r):=by
 unfold f29 at h
 refine fI func29 λ_ _=>?_
 refine Rcl 9 q (Zq (ac E42 a0 e62 q q Zl) q (Rl 1 q (Zq (ac E42 b1 e62 q q Zl) q (Rlc 3 q (Ci h q (λh=>?_) λh=>?_)))))
 exact Rcx 7 q (FA h)
 refine Rcc 2 q (Jn0 [] [] h (λm h=>?_) λh=>?_)
 refine Rcc 6 q (Ln1 (λa=> [(0, .l E42 a0),(1, .l E42 b1),(5, .n a)]) (λ_=> []) (f29_l1 a0 b1 m) h (λ_ h=>by rw[f29_l1] at h;cases h) λn a h=>?_)
 rw[f29_l1] at h
 refine Rcl 5 q (Zq (ac E42 a0 e62 q q Zl) q (Rlc 3 q (Ci h q (λh=>?_) λh=>?_)))
 refine Rcc 2 q (Jn0 [(0, .l E42 a0),(1, .l E42 b1),(5, .n a)] [] h (λp h=>?_) λh=>?_)
 refine Rcc 3 q (ao kR kR (Rq 2 q ?_))
 obtain⟨t,c,h⟩:=ab h
 refine WQ.qn (ai e62 q Zl q (ae c) (az fc c) q) q (Rq 1 q (WQ.qn (ac E2 t e42 q q Zl) q (Rq 2 q ?_)))
 obtain⟨w,d,h⟩:=ab h
 refine WQ.qn (ai e62 q Zl q (ae d) (az fc d) q) q (Rq 1 q (WQ.qn (ac E2 w e42 q q Zl) q (Rq 1 q (WQ.nil (Rxc 1 q (Ci h q (λh=>?_) λh=>?_))))))
 exact Rcx 12 q (FA h)
 refine Rcc 8 q (Ln1 (λe=> [(0, .l E42 a0),(1, .l E42 b1),(5, .n a),(6, .n e)]) (λ_=> []) (f29_l2 a0 b1 a p) h (λ_ h=>by rw[f29_l2] at h;cases h) λna e h=>?_)
 rw[f29_l2] at h
 refine Rcl 6 q (Ix h e62 fc q Zl q q λx _ h=>(Rl 1 q (Zq (ac E2 x e42 q q Zl) q (Rlc 3 q (Ci h q (λh=>?_) λh=>?_)))))
 refine Rcc 5 q (ao kR kR (Rq 2 q ?_))
 obtain⟨y,f,h⟩:=ab h
 refine WQ.qn (ai e62 q Zl q (ae f) (az fc f) q) q (Rq 2 q ?_)
 obtain⟨A,g,h⟩:=ab h
 refine WQ.qn (ai e42 q Zl q (ae g) (az dx g) q) q (Rq 3 q ?_)
 obtain⟨B,j,h⟩:=ab h
 refine WQ.qn (ai e62 q Zl q (ae j) (az fc j) q) q (Rq 2 q ?_)
 obtain⟨C,k,h⟩:=ab h
 refine WQ.qn (ai e42 q Zl q (ae k) (az dx k) q) q (Rq 2 q (WQ.nil (Rxc 1 q (Ci h q (λh=>?_) λh=>?_))))
 exact Rcx 15 q (FA h)
 exact Rcx 8 q (Fn1 h)
 exact Rcx 5 q (En0 h)
 exact Rcx 5 q (Fn1 h)
 exact Rcx 4 q (En0 h)
 exact Rcx 6 q (FA h)

theorem f19_c{mI:lN}{mH:lH}{mO:lO}{mE:Int}{mN:lI}{mS:lL}{mU:lI}{w1:Mem}{vo:Nat}{vf:Nat}{vu:Nat}{r:Bool}(h:f19 mI mH mO mE mN mS mU w1=some r):Ctr prog 19 [.pt 0 0, .d (.ag (R64 w1))] (wM mI mH mO mE vo mN vu vf mS mU) (cO 4 (λr' new=>r'= .d (.b r)∧new=(wM mI mH mO mE vo mN vu vf mS mU))):=by
 unfold f19 at h
 refine cI func19 λ_ _ _ hmm=>?_
 refine Rcl 2 q (Bd q q (Zs _) q (Rlc 3 q (Jn1 (λe=> [(4, .d (D.b e))]) (λ_=>(wM mI mH mO mE vo mN vu vf mS mU)) h (λ_ h=>?_) λe h=>?_)))
 obtain⟨x,f,h⟩:=ab h
 obtain⟨m,g,h⟩:=ab h
 rcases dn m with a|a
 replace h:=dv h a
 obtain⟨y,j,h⟩:=ab h
 obtain⟨p,k,h⟩:=ab h
 rcases dn p with c|c
 replace h:=dv h c
 obtain⟨A,t,h⟩:=ab h
 obtain⟨B,w,h⟩:=ab h
 apply RT [_,_,_,_,_,_,_,_,_,_,_,_,_,_,_,_,_,_,_,_] [] [] [p01 0,p10 0,p01 3,p10 2,p20 1 3,p10 4,p11 5 0,p20 6 5,p11 5 3,p20 8 5,p30 7 9 5,p20 5 10,p10 11,p11 12 0,p20 13 12,p11 12 3,p20 15 12,p30 14 16 12,p20 12 17,p10 18] kR kR q q
 refine Y1 ?_
 refine zo (λ_=>?_) ?_
 refine WL.wing [0,1,2,3] q q q q (f28_c f) Lw q dC (Re (Rg (Rf (Ro q)))) ⟨q,q,q,q,Zt⟩ Kv q (Zw q) q q (λr' new hS=>?_)
 obtain⟨rfl,rfl⟩:=hS
 refine⟨_,_,q,(Re (Rg (Rf (Ro q)))),q,Kv,?_⟩
 exact Zd q q q
 refine Y2 ?_
 refine zo (λ_=>wF Z4 (f29_c g) Lw Z3 (Zd q q q)) ?_
 refine zo (rc a) ?_
 refine Y1 ?_
 refine zo (λ_=>?_) ?_
 refine WL.wing [0,1,2,3] q q q q (f13_c j) Lw q dC (Re (Rg (Rf (Ro q)))) ⟨q,q,q,q,Zt⟩ Kv q (aU q q q) q q (λr' new hS=>?_)
 obtain⟨rfl,rfl⟩:=hS
 refine⟨_,_,q,(Re (Rg (Rf (Ro q)))),q,Kv,?_⟩
 exact Zd q q q
 refine Y2 ?_
 refine zo (λ_=>WL.fn q q q q (f14_c k) Lw (aU q q q) q q (Zd q q q)) ?_
 refine Y1 ?_
 refine zo (rc c) ?_
 refine Y1 ?_
 refine zo (λ_=>?_) ?_
 refine WL.wing [0,1,2,3] q q q q (f15_c t) Lw q dC (Re (Rg (Rf (Ro q)))) ⟨q,q,q,q,Zt⟩ Kv q (aU q q q) q q (λr' new hS=>?_)
 obtain⟨rfl,rfl⟩:=hS
 refine⟨_,_,q,(Re (Rg (Rf (Ro q)))),q,Kv,?_⟩
 exact Zd q q q
 refine Y2 ?_
 refine zo (λ_=>WL.fn q q q q (f14_c w) Lw (aU q q q) q q (Zd q q q)) ?_
 exact Y2 Zt
 exact En1 h
 replace h:=dw h c
 apply RT [_,_,_,_,_,_,_,_,_,_,_,_,_,_,_,_,_,_,_,_] [] [] [p01 0,p10 0,p01 3,p10 2,p20 1 3,p10 4,p11 5 0,p20 6 5,p11 5 3,p20 8 5,p30 7 9 5,p20 5 10,p10 11,p10 12,p10 12,p10 12,p10 12,p10 12,p20 12 17,p10 18] kR kR q q
 refine Y1 ?_
 refine zo (λ_=>?_) ?_
 refine WL.wing [0,1,2,3] q q q q (f28_c f) Lw q dC (Re (Rg (Rf (Ro q)))) ⟨q,q,q,q,Zt⟩ Kv q (Zw q) q q (λr' new hS=>?_)
 obtain⟨rfl,rfl⟩:=hS
 refine⟨_,_,q,(Re (Rg (Rf (Ro q)))),q,Kv,?_⟩
 exact Zd q q q
 refine Y2 ?_
 refine zo (λ_=>wF Z4 (f29_c g) Lw Z3 (Zd q q q)) ?_
 refine zo (rc a) ?_
 refine Y1 ?_
 refine zo (λ_=>?_) ?_
 refine WL.wing [0,1,2,3] q q q q (f13_c j) Lw q dC (Re (Rg (Rf (Ro q)))) ⟨q,q,q,q,Zt⟩ Kv q (aU q q q) q q (λr' new hS=>?_)
 obtain⟨rfl,rfl⟩:=hS
 refine⟨_,_,q,(Re (Rg (Rf (Ro q)))),q,Kv,?_⟩
 exact Zd q q q
 refine Y2 ?_
 refine zo (λ_=>WL.fn q q q q (f14_c k) Lw (aU q q q) q q (Zd q q q)) ?_
 refine Y1 ?_
 refine zo (rc c) ?_
 exact Y7 Zt
 exact En1 h
 replace h:=dw h a
 apply RT [_,_,_,_,_,_,_,_,_,_,_,_,_,_,_,_,_,_,_,_] [] [] [p01 0,p10 0,p01 3,p10 2,p20 1 3,p10 4,p10 5,p10 5,p10 5,p10 5,p10 5,p20 5 10,p10 11,p10 12,p10 12,p10 12,p10 12,p10 12,p20 12 17,p10 18] kR kR q q
 refine Y1 ?_
 refine zo (λ_=>?_) ?_
 refine WL.wing [0,1,2,3] q q q q (f28_c f) Lw q dC (Re (Rg (Rf (Ro q)))) ⟨q,q,q,q,Zt⟩ Kv q (Zw q) q q (λr' new hS=>?_)
 obtain⟨rfl,rfl⟩:=hS
 refine⟨_,_,q,(Re (Rg (Rf (Ro q)))),q,Kv,?_⟩
 exact Zd q q q
 refine Y2 ?_
 refine zo (λ_=>wF Z4 (f29_c g) Lw Z3 (Zd q q q)) ?_
 refine zo (rc a) ?_
 refine Y9 ?_
 exact Y5 Zt
 exact En1 h
 refine Rcx 1 q ?_
 obtain rfl:=Oi h
 exact ay (new:=(wM mI mH mO mE vo mN vu vf mS mU)) (r0:= .d (.b e)) (rs1 q (ap q)) Zl q ⟨Zp,Zf,Zf,Zf,Zt⟩ ⟨q,q⟩

theorem f21_c{m0:Mem}{r1:aq}{n2:Int}{r:aq×lA×Int}(h:f21 m0 r1 n2=some r):Pu prog 21 [.ag (R64 m0), .ag (R41 r1), .i .i64 n2] (.tu [.ag (R41 r.1), .sl (List.map E58 r.2.1), .i .i64 r.2.2]):=by
 unfold f21 at h
 refine fI func21 λ_ _=>?_
 refine Rcl 2 q (Bd q q (Zs _) q (Bd q q (Zs _) q (Al z41 q (Rll 10 q (wF Z4 (f31_c) Lw Z3 (Rl 2 q ?_))))))
 refine OG 3 14 17 3 3 ?_
 refine Rl 1 q ?_
 refine OG 6 18 24 6 6 ?_
 refine Rlc 2 q (Ci h q (λh=>?_) λh=>?_)
 refine Rcl 2 q (Zq (aa p41 z41 q q) q (sS Z6 s41 Z2 (St q (Rlx 6 q ?_))))
 obtain rfl:=Oi h
 exact am (rs3 q (aO q q a41 s41 q) (ap q) (ap q)) (aK ⟨(ah (Zs _)),Le.nil,Zl,Zt⟩)
 refine Rcl 8 q ?_
 obtain⟨c,a,h⟩:=ab h
 refine wF Z4 (f57_c a) Lw Z3 (Rl 3 q (sS Z6 s41 Z2 (St q (Rlx 5 q ?_))))
 obtain rfl:=Oi h
 exact am (rs3 q (aO q q a41 s41 q) (ap q) (ap q)) (aK ⟨(ah (Zs _)),Zl,Zl,Zt⟩)

theorem f23_c{m0:Mem}{r1:aq}{c2:Int}{r:aq×Int}(h:f23 m0 r1 c2=some r):Pu prog 23 [.ag (R64 m0), .ag (R41 r1), .i .i64 c2] (.tu [.ag (R41 r.1), .i .i64 r.2]):=by
 unfold f23 at h
 refine fI func23 λ_ _=>?_
 refine Rcl 2 q (Bd q q (Zs _) q (Bd q q (Zs _) q (Al z41 q (Rll 9 q (wF Z4 (f31_c) Lw Z3 (Rl 2 q ?_))))))
 refine OG 3 13 16 3 3 ?_
 refine Rl 1 q ?_
 refine OG 3 17 20 3 3 ?_
 refine Rl 1 q ?_
 refine OG 6 21 27 6 6 ?_
 refine Rlc 2 q (Ci h q (λh=>?_) λh=>?_)
 refine Rcl 2 q (Zq (aa p41 z41 q q) q (sS Z6 s41 Z2 (St q (Rlx 5 q ?_))))
 obtain rfl:=Oi h
 exact am (rs2 q (aO q q a41 s41 q) (ap q)) (aK ⟨(ah (Zs _)),Zl,Zt⟩)
 refine Rcl 8 q ?_
 obtain⟨c,a,h⟩:=ab h
 refine wF Z4 (f60_c a) Lw Z3 (Rl 2 q (sS Z6 s41 Z2 (St q (Rlx 4 q ?_))))
 obtain rfl:=Oi h
 exact am (rs2 q (aO q q a41 s41 q) (ap q)) (aK ⟨(ah (Zs _)),Zl,Zt⟩)

theorem f62_c{m0:Mem}{o1:Int}{k2:Int}{r:Bool}(h:f62 m0 o1 k2=some r):Pu prog 62 [.ag (R64 m0), .i .i64 o1, .i .i64 k2] (.b r):=by
 unfold f62 at h
 refine fI func62 λ_ _=>?_
 refine Rcl 2 q (Bd q q (Zs _) q (Rll 8 q ?_))
 apply WL.and 6 (t:=9) (d:=15)
 exact q
 intro g
 exact Rl 3 q (Zy (ac E42 m0.slots e62 q q Zl) q q q (Rl 2 q (WL.nil ⟨q,[_,_,_,_,_,_],q,q,q⟩)))
 exact Rn 6 6
 refine Rl 1 q ?_
 refine AG 3 16 19 3 3 ?_
 refine Rl 1 q ?_
 obtain⟨c,e,h⟩:=ab h
 refine Gg 9 20 29 c e (λh=>?_) (λh=>?_) ?_
 refine Rl 4 q ?_
 obtain⟨f,a,h⟩:=ab h
 exact Zy (ai e62 q Zl q (ae a) (az fc a) q) q q q (Rl 1 q (Zy (ac E2 f e42 q q Zl) q q q (On 2 9 h)))
 exact On 9 9 h
 exact Rlx 4 q (FA h)

theorem f25_c{m0:Mem}{o1:Int}{k2:Int}{r:Int×Int}(h:f25 m0 o1 k2=some r):Pu prog 25 [.ag (R64 m0), .i .i64 o1, .i .i64 k2] (.tu [.i .i64 r.1, .i .i64 r.2]):=by
 unfold f25 at h
 refine fI func25 λ_ _=>?_
 refine Rcl 2 q (Bd q q (Zs _) q (Rll 10 q ?_))
 obtain⟨c,a,h⟩:=ab h
 refine wF Z4 (f62_c a) Lw Z3 (Rlc 3 q (Ci h q (λh=>?_) λh=>?_))
 exact Rcx 8 q (FA h)
 exact Rcl 7 q (Ix h e62 fc q Zl q q λd _ h=>(Rl 2 q (Ix h e42 dx q Zl q q λe _ h=>(Rlx 6 q (FA h)))))

theorem f27_c{m0:Mem}{o1:Int}{k2:Int}{v3:Int}{r:Mem×Int}(h:f27 m0 o1 k2 v3=some r):Pu prog 27 [.ag (R64 m0), .i .i64 o1, .i .i64 k2, .i .i64 v3] (.tu [.ag (R64 r.1), .i .i64 r.2]):=by
 unfold f27 at h
 refine fI func27 λ_ _=>?_
 refine Rcl 2 q (Bd q q (Zs _) q (Al z64 q (Rll 9 q ?_)))
 obtain⟨d,a,h⟩:=ab h
 refine wF Z4 (f62_c a) Lw Z3 (Rlc 3 q (Ci h q (λh=>?_) λh=>?_))
 refine Rcl 3 q (sS Z6 s64 Z2 (St q (Rlx 5 q ?_)))
 obtain rfl:=Oi h
 exact am (rs2 q (aO q q a64 s64 q) (ap q)) (aK ⟨(ah (Zs _)),Zl,Zt⟩)
 refine Rcl 8 q ?_
 obtain⟨e,c,h⟩:=ab h
 refine wF Z4 (f64_c c) Lw Z3 (Rl 3 q (Al z64 q (sS Z6 s64 Z2 (St q (Rlc 10 q (Ci h q (λh=>?_) λh=>?_))))))
 refine Rcl 3 q (sS Z6 s64 Z2 (St q (Rlx 5 q ?_)))
 obtain rfl:=Oi h
 exact am (rs2 q (aO q q a64 s64 q) (ap q)) (aK ⟨(ah (Zs _)),Zl,Zt⟩)
 refine Rcl 5 q (sS Z6 s64 Z2 (St q (Rlx 4 q ?_)))
 obtain rfl:=Oi h
 exact am (rs2 q (aO q q a64 s64 q) (ap q)) (aK ⟨(ah (Zs _)),Zl,Zt⟩)

theorem f6_c(t0:aj)(a6:lI)(l2:List mA){r:Bool}(h:f6 t0 a6 l2=some r):Pu prog 6 [.ag (R38 t0), .sl (List.map E2 a6), .sl (List.map E73 l2)] (.b r):=by
 unfold f6 at h
 refine fI func6 λ_ _=>?_
 refine Rcl 2 q (Bd q q (Zs _) q (Rll 7 q ?_))
 obtain⟨hi,e7,h⟩:=ab h
 refine wF Z4 (f12_c e7) Lw Z3 (Rl 1 q ?_)
 apply WL.or 4 (t:=28) (d:=32)
 exact q
 intro hj
 exact Rl 1 q (Zy (ac E73 l2 e71 q q Zl) q q q (Rl 2 q (WL.nil ⟨q,[_,_,_,_],q,q,q⟩)))
 exact Rn 4 4
 refine Rl 1 q ?_
 apply WL.or 4 (t:=33) (d:=37)
 exact q
 intro hk
 exact Rl 1 q (Zy (ac E2 a6 e42 q q Zl) q q q (Rl 2 q (WL.nil ⟨q,[_,_,_,_],q,q,q⟩)))
 exact Rn 4 4
 refine Rlc 2 q (Ci h q (λh=>?_) λh=>?_)
 refine Rcl 2 q ?_
 obtain⟨hl,e8,h⟩:=ab h
 exact WL.fn q q q q (f9_c e8) Zt (Zw q) q q (Rlx 5 q (FA h))
 refine Rcl 4 q (WL.s (((ib l42).b).does) (Zw q) q q (Rl 1 q ?_))
 replace h:=aD h
 obtain⟨e',h⟩:=h
 refine WL.s (db E2 ([]:lI) a6 l42 z2 q dC q q q q (dc Zl dx λ_=>q) (λ_=>q) (λ_=>q) e') (Zw q) q q (Rll 7 q ?_)
 obtain⟨fr,hm,h⟩:=ab h
 rcases dn fr with b6|b6
 replace h:=dv h b6
 refine dK dF (dK dF (dK dF (dK dF ?_)))
 obtain⟨a,fu,h⟩:=ab h
 refine WL.wing [1,2,3,4,0] q q q q (f10o_c fu (vo:=0) (vf:=0) (vu:=0) (vi:=1)) Lw q dC (Re (Re (Re (Re (Ro q))))) ⟨q,q,q,q,q,Zt⟩ Kv q (Zw q) q q (λr' new hS=>?_)
 obtain⟨rfl,rfl⟩:=hS
 refine⟨_,_,q,(Re (Rg (Rf (Ro (Ro q))))),q,Kv,?_⟩
 refine St q (Rl 5 q (Zn (Rcl 4 q ?_)))
 obtain⟨c,fv,h⟩:=ab h
 refine wF Z4 (f16_c fv) Lw Z3 (Rl 3 q (Al z64 q (sS Z6 s64 Z2 (St q (Rll 10 q ?_)))))
 apply WL.or 6 (t:=57) (d:=63)
 exact q
 intro fz
 exact Rl 1 q (Zy (sB underlying46 q) q q q (Rl 2 q (Zy (ss underlying4 q q) q q q (Rl 1 q (WL.nil ⟨q,[_,_,_,_,_,_],q,q,q⟩)))))
 exact Rn 6 6
 refine Rlc 2 q (Ci h q (λh=>Rcx 7 q (FA h)) λh=>?_)
 refine Rcc 9 q (Ci h q (λh=>?_) λh=>?_)
 refine Rcl 2 q ?_
 obtain⟨hn,f0,h⟩:=ab h
 exact WL.fn q q q q (f9_c f0) Zt (Zw q) q q (Rlx 5 q (FA h))
 refine Rcc 2 q (Jn1 (λ_=> [(2, .l E73 l2),(8, .pt 1 0),(9, .n a.1),(10, .pt 5 0),(11, .n c.2)]) (λx=> [uS 1 x, .row 90 (mR a.2.1 a.2.2.1 a.2.2.2.1 a.2.2.2.2.1 2 0 a.2.2.2.2.2.1 4 0), .os 42 1 0 (bt 3 0 (List.length a.2.2.2.2.2.2.1)), .fam 2 1 0 (bi E2 a.2.2.2.2.2.2.1), .os 2 1 0 (eM E2 a.2.2.2.2.2.2.2), .row 64 [.l E45 c.1.t.insns, .l bq c.1.t.handlers, .l bT c.1.t.loops, .l bS c.1.t.selects, .l E96 c.1.t.lists, .l br c.1.t.objs, .l bO c.1.t.inits, .n c.1.t.excs, .l E27 c.1.t.tasks, .l bI c.1.t.prots, .l bY c.1.t.checks, .l E42 c.1.slots, .l E2 c.1.in_, .l E2 c.1.out]]) h (λf1 h=>?_) λx h=>?_)
 refine Rcc 6 q (Ln2 (λb7 _=> [(2, .l E73 l2),(7, .os 0 1),(8, .pt 1 0),(9, .n a.1),(10, .pt 5 0),(11, .n c.2),(12, .n b7)]) (λ_ b8=> [uS 1 b8, .row 90 (mR a.2.1 a.2.2.1 a.2.2.2.1 a.2.2.2.2.1 2 0 a.2.2.2.2.2.1 4 0), .os 42 1 0 (bt 3 0 (List.length a.2.2.2.2.2.2.1)), .fam 2 1 0 (bi E2 a.2.2.2.2.2.2.1), .os 2 1 0 (eM E2 a.2.2.2.2.2.2.2), .row 64 [.l E45 c.1.t.insns, .l bq c.1.t.handlers, .l bT c.1.t.loops, .l bS c.1.t.selects, .l E96 c.1.t.lists, .l br c.1.t.objs, .l bO c.1.t.inits, .n c.1.t.excs, .l E27 c.1.t.tasks, .l bI c.1.t.prots, .l bY c.1.t.checks, .l E42 c.1.slots, .l E2 c.1.in_, .l E2 c.1.out]]) (f6_l1 f1) h (λ_ _ h=>by rw[f6_l1] at h;cases h) λn b7 b8 h=>?_)
 rw[f6_l1] at h
 refine Rcl 5 q (Zq (d8 (ba E2) b8 e42 q q q) q (Rlc 3 q (Ci h q (λh=>?_) λh=>?_)))
 refine Rcl 7 q ?_
 obtain⟨f2,ey,h⟩:=ab h
 refine Zq (iX e42 q q q ey) q (Zq (fx (fo:=0) q q q a2 (λ_=>q) ey q) q (Rl 1 q ?_))
 obtain⟨ho,e0,h⟩:=ab h
 exact Zq (iX e42 q q q e0) q (WL.s0 (cF (R:=E2) (k:=1) (i:=b7) (fo:=0) (IntKind.i64.wrap (f2+1)) q q q q Zl q q q s2 q (λ_=>q) e0 q q) (Zw q) q (St q (Rlx 8 q (Fn2 h))))
 exact Rcx 4 q (En1 h)
 replace h:=aC h
 obtain⟨e1,f3,h⟩:=h
 refine cB (λenv' st'=>∃(g:lL),∃(m:Nat),∃(A:lI),∃(p:Nat),∃(B:lI),∃(C:lN),∃(F:lH),∃(G:lP),∃(H:lS),∃(I:lL),∃(J:lO),∃(K:lT),∃(N:Int),∃(O:lK),∃(P:lM),∃(Q:lC),∃(S:lL),∃(T:lI),∃(U:lI),e1 g A B C F G H I J K N O P Q S T U=some r∧Sub [(8, .pt 1 0),(10, .pt 5 0)] env'∧SLe st' [uS 1 x, .row 90 (mR a.2.1 a.2.2.1 a.2.2.2.1 a.2.2.2.2.1 2 0 B 4 p),oS 0 3 m g,fS m g,uS p A, .row 64 [.l E45 C, .l bq F, .l bT G, .l bS H, .l E96 I, .l br J, .l bO K, .n N, .l E27 O, .l bI P, .l bY Q, .l E42 S, .l E2 T, .l E2 U]]) ?_ ?_
 refine Rcc 6 q ?_
 refine cX (λn env' st'=>∃(b9:Int),∃(b':Int),∃(a0:Int),∃(a7:lL),∃(ca:Nat),∃(cb:lI),∃(cc:Nat),∃(cd:lI),∃(ci:lN),∃(cj:lH),∃(cl:lP),∃(cn:lS),∃(cp:lL),∃(cx:lO),∃(c0:lT),∃(c1:Int),∃(c2:lK),∃(c3:lM),∃(c4:lC),∃(c5:lL),∃(c6:lI),∃(c7:lI),f6_l2 l2 a e1 n b9 b' a0 a7 cb cd ci cj cl cn cp cx c0 c1 c2 c3 c4 c5 c6 c7=some r∧Sub [(2, .l E73 l2),(8, .pt 1 0),(9, .n b9),(10, .pt 5 0),(11, .n b'),(13, .n a0)] env'∧SLe st' [uS 1 x, .row 90 (mR a.2.1 a.2.2.1 a.2.2.2.1 a.2.2.2.2.1 2 0 cd 4 cc),oS 0 3 ca a7,fS ca a7,uS cc cb, .row 64 [.l E45 ci, .l bq cj, .l bT cl, .l bS cn, .l E96 cp, .l br cx, .l bO c0, .n c1, .l E27 c2, .l bI c3, .l bY c4, .l E42 c5, .l E2 c6, .l E2 c7]]) (λn=>n) 9223372036854775808 ⟨a.1,c.2,0,a.2.2.2.2.2.2.1,_,a.2.2.2.2.2.2.2,_,a.2.2.2.2.2.1,c.1.t.insns,c.1.t.handlers,c.1.t.loops,c.1.t.selects,c.1.t.lists,c.1.t.objs,c.1.t.inits,c.1.t.excs,c.1.t.tasks,c.1.t.prots,c.1.t.checks,c.1.slots,c.1.in_,c.1.out,h,(Sx q (Sx q (Sx q (Sx q (Sx q (Sx q (Sub.nil _))))))),⟨Zf,Zp,Zf,Zf,Zf,Zp,Zt⟩⟩ ?_
 rintro n ad st1 ⟨b9,b',a0,a7,ca,cb,cc,cd,ci,cj,cl,cn,cp,cx,c0,c1,c2,c3,c4,c5,c6,c7,h,hsub,hst⟩
 rcases n with _|n
 rw[f6_l2] at h;cases h
 rw[f6_l2] at h
 refine WC.sub hsub (WC.weak hst ?_)
 refine Rcl 5 q (Zq (ac E73 l2 e71 q q Zl) q (Rlc 3 q (Ci h q (λh=>?_) λh=>?_)))
 refine Rcl 8 q (Ix h e71 wN q Zl q q λV _ h=>(Rl 1 q (Al z73 q (sS Z6 s73 Z2 (St q (Rll 4 q (Al z41 q (Al z41 q (Rlc 8 q ?_)))))))))
 replace h:=aC h
 obtain⟨f4,f5,h⟩:=h
 refine cB (λenv' st'=>∃(a8:Int),∃(a':Int),∃(c8:lA),∃(c9:lA),∃(bb:lL),∃(c':Nat),∃(dd:lI),∃(df:Nat),∃(ds:lI),∃(dA:lN),∃(dS:lH),∃(d0:lP),∃(d1:lS),∃(d2:lL),∃(d':lO),∃(ec:lT),∃(ee:Int),∃(ei:lK),∃(el:lM),∃(em:lC),∃(en:lL),∃(er:lI),∃(es:lI),∃(e:Nat→Int),∃(bk:Int),∃(bo:Int),∃(bs:Int),∃(f:Nat→Int),∃(b0:Int),∃(b1:Int),∃(b2:Int),f4 a8 a' c8 c9 bb dd ds dA dS d0 d1 d2 d' ec ee ei el em en er es e bk bo bs f b0 b1 b2=some r∧Sub [(2, .l E73 l2),(8, .pt 1 0),(9, .n a8),(10, .pt 5 0),(11, .n a'),(13, .n a0),(15, .pt 7 0),(16, .pt 8 0),(17, .l E58 c8),(18, .l E58 c9)] env'∧SLe st' [uS 1 x, .row 90 (mR a.2.1 a.2.2.1 a.2.2.2.1 a.2.2.2.2.1 2 0 ds 4 df),oS 0 3 c' bb,fS c' bb,uS df dd, .row 64 [.l E45 dA, .l bq dS, .l bT d0, .l bS d1, .l E96 d2, .l br d', .l bO ec, .n ee, .l E27 ei, .l bI el, .l bY em, .l E42 en, .l E2 er, .l E2 es], .row 73 (([.d (D.i .u8 V.what)]:lV)++(aX 16 (λj=> .n (V.r.r j))++([.n V.r.pc, .n V.r.exc, .n V.r.defer, .n V.o, .n V.k, .n V.v]:lV):lV)), .row 41 (rg e bk bo bs), .row 41 (rg f b0 b1 b2)]) ?_ ?_
 refine Rcl 4 q (Zq (ne q q dC) q (Rlc 9 q (Ci h q (λh=>?_) λh=>?_)))
 refine Rcl 5 q ?_
 obtain⟨hp,f7,h⟩:=ab h
 refine WL.wing [1,2,3,4] q q q q (f11_c f7) ⟨Zl,(ah (Zs _)),Zt⟩ q dC (Re (Rg (Rf (Ro q)))) ⟨q,q,q,q,Zt⟩ Kv q (Zw q) q q (λr' new hS=>?_)
 obtain⟨i2_385,i3_385,rfl,rfl⟩:=hS
 refine⟨_,_,q,(Re (Rg (Rf (Ro q)))),q,Kv,?_⟩
 refine St q (Rl 4 q (sS Z6 s41 Z2 (St q (Rll 8 q ?_))))
 obtain⟨hq,f8,h⟩:=ab h
 exact wF Z4 (f17_c f8) ⟨(ah (Zs _)),(ah (Zs _)),Zt⟩ Z3 (Rl 5 q (sS Z6 s64 Z2 (St q (sS Z6 s41 Z2 (St q (Rlx 4 q (cG ⟨_,_,_,_,_,_,_,_,_,_,_,_,_,_,_,_,_,_,_,_,_,_,_,_,_,_,_,_,_,_,_,h,Sb,Tv⟩)))))))
 refine Rcc 6 q (Ci h q (λh=>?_) λh=>?_)
 refine Rcl 7 q ?_
 obtain⟨hr,gl,h⟩:=ab h
 refine WL.wing [1,2,3,4] q q q q (f20_c gl) ⟨Zl,(ah (Zs _)),Zl,Zt⟩ q dC (Re (Rg (Rf (Ro q)))) ⟨q,q,q,q,Zt⟩ Kv q (Zw q) q q (λr' new hS=>?_)
 obtain⟨rfl,rfl⟩:=hS
 refine⟨_,_,q,(Re (Rg (Rf (Ro q)))),q,Kv,?_⟩
 refine St q (Rl 4 q (sS Z6 s41 Z2 (St q (Rll 10 q ?_))))
 obtain⟨hs,gm,h⟩:=ab h
 exact wF Z4 (f21_c gm) ⟨(ah (Zs _)),(ah (Zs _)),Zl,Zt⟩ Z3 (Rl 4 q (sS Z6 s41 Z2 (St q (Rlx 4 q (cG ⟨_,_,_,_,_,_,_,_,_,_,_,_,_,_,_,_,_,_,_,_,_,_,_,_,_,_,_,_,_,_,_,h,Sb,Tv⟩)))))
 refine Rcc 6 q (Ci h q (λh=>?_) λh=>?_)
 refine Rcl 7 q ?_
 obtain⟨ht,gs,h⟩:=ab h
 refine WL.wing [1,2,3,4] q q q q (f22_c gs) ⟨Zl,(ah (Zs _)),Zl,Zt⟩ q dC (Re (Rg (Rf (Ro q)))) ⟨q,q,q,q,Zt⟩ Kv q (Zw q) q q (λr' new hS=>?_)
 obtain⟨rfl,rfl⟩:=hS
 refine⟨_,_,q,(Re (Rg (Rf (Ro q)))),q,Kv,?_⟩
 refine St q (Rl 3 q (sS Z6 s41 Z2 (St q (Rll 9 q ?_))))
 obtain⟨hu,gx,h⟩:=ab h
 exact wF Z4 (f23_c gx) ⟨(ah (Zs _)),(ah (Zs _)),Zl,Zt⟩ Z3 (Rl 3 q (sS Z6 s41 Z2 (St q (Rlx 3 q (cG ⟨_,_,_,_,_,_,_,_,_,_,_,_,_,_,_,_,_,_,_,_,_,_,_,_,_,_,_,_,_,_,_,h,Sb,Tv⟩)))))
 refine Rcc 6 q (Ci h q (λh=>?_) λh=>?_)
 refine Rcl 7 q ?_
 obtain⟨hv,g0,h⟩:=ab h
 refine WL.wing [1,2,3,4] q q q q (f24_c g0) Lw q dC (Re (Rg (Rf (Ro q)))) ⟨q,q,q,q,Zt⟩ Kv q (Zw q) q q (λr' new hS=>?_)
 obtain⟨rfl,rfl⟩:=hS
 refine⟨_,_,q,(Re (Rg (Rf (Ro q)))),q,Kv,?_⟩
 refine St q (Rll 14 q ?_)
 obtain⟨hw,g1,h⟩:=ab h
 refine wF Z4 (f25_c g1) ⟨(ah (Zs _)),Zl,Zl,Zt⟩ Z3 (Rlc 15 q (Ci h q (λh=>?_) λh=>?_))
 exact Rcx 14 q (FA h)
 exact Rcx 9 q (cG ⟨_,_,_,_,_,_,_,_,_,_,_,_,_,_,_,_,_,_,_,_,_,_,_,_,_,_,_,_,_,_,_,h,Sb,Tv⟩)
 refine Rcl 9 q ?_
 obtain⟨hx,g2,h⟩:=ab h
 refine WL.wing [1,2,3,4] q q q q (f26_c g2) Lw q dC (Re (Rg (Rf (Ro q)))) ⟨q,q,q,q,Zt⟩ Kv q (Zw q) q q (λr' new hS=>?_)
 obtain⟨i2_397,rfl,rfl⟩:=hS
 refine⟨_,_,q,(Re (Rg (Rf (Ro q)))),q,Kv,?_⟩
 refine St q (Rll 11 q ?_)
 obtain⟨hy,g3,h⟩:=ab h
 exact wF Z4 (f27_c g3) ⟨(ah (Zs _)),Zl,Zl,Zl,Zt⟩ Z3 (Rl 3 q (sS Z6 s64 Z2 (St q (Rlx 3 q (cG ⟨_,_,_,_,_,_,_,_,_,_,_,_,_,_,_,_,_,_,_,_,_,_,_,_,_,_,_,_,_,_,_,h,Sb,Tv⟩)))))
 rintro ad st1 ⟨a8,a',c8,c9,bb,c',dd,df,ds,dA,dS,d0,d1,d2,d',ec,ee,ei,el,em,en,er,es,e,bk,bo,bs,f,b0,b1,b2,h,hsub,hst⟩
 subst f5
 dsimp only at h
 refine WC.sub hsub (WC.weak hst ?_)
 refine Rcl 4 q (Zq (sq (xs:=[.int .i64 (e 0), .int .i64 (e 1), .int .i64 (e 2), .int .i64 (e 3), .int .i64 (e 4), .int .i64 (e 5), .int .i64 (e 6), .int .i64 (e 7), .int .i64 (e 8), .int .i64 (e 9), .int .i64 (e 10), .int .i64 (e 11), .int .i64 (e 12), .int .i64 (e 13), .int .i64 (e 14), .int .i64 (e 15), .int .i64 bk, .int .i64 bo, .int .i64 bs]) (ys:=[.int .i64 (f 0), .int .i64 (f 1), .int .i64 (f 2), .int .i64 (f 3), .int .i64 (f 4), .int .i64 (f 5), .int .i64 (f 6), .int .i64 (f 7), .int .i64 (f 8), .int .i64 (f 9), .int .i64 (f 10), .int .i64 (f 11), .int .i64 (f 12), .int .i64 (f 13), .int .i64 (f 14), .int .i64 (f 15), .int .i64 b0, .int .i64 b1, .int .i64 b2]) q41 q (ah (Zs _)) q (ah (Zs _)) q q q) q (Rl 1 q ?_))
 obtain⟨g4,g5,h⟩:=ab h
 refine Gg 5 200 205 g4 g5 (λh=>?_) (λh=>?_) ?_
 exact On 5 5 h
 refine Rl 2 q ?_
 obtain⟨hz,g6,h⟩:=ab h
 exact WL.fn q q q q (f18_c g6) Lw (aU q q q) q q (On 2 5 h)
 refine Rl 1 q ?_
 refine OG 4 206 210 4 4 ?_
 refine Rlc 2 q (Ci h q (λh=>Rcx 11 q (FA h)) λh=>?_)
 exact Rcx 8 q (WE.drop 6 (env':=[(2, .l E73 l2),(8, .pt 1 0),(9, .n a8),(10, .pt 5 0),(11, .n a'),(13, .n (IntKind.i64.wrap (a0+1)))]) Sb q Kv (Nat.zero_le _) (cG ⟨_,⟨_,_,_,_,_,_,_,_,_,_,_,_,_,_,_,_,_,_,_,_,_,_,h,Sb,Tv⟩,Nat.lt_succ_self _⟩))
 exact Rcx 4 q (cG ⟨_,_,_,_,_,_,_,_,_,_,_,_,_,_,_,_,_,_,_,h,Sb,Tv⟩)
 rintro ad st1 ⟨g,m,A,p,B,C,F,G,H,I,J,K,N,O,P,Q,S,T,U,h,hsub,hst⟩
 subst f3
 dsimp only at h
 refine WC.sub hsub (WC.weak hst ?_)
 refine Rcl 3 q (dK dF (dK dF ?_))
 obtain⟨g7,g8,h⟩:=ab h
 refine WL.wing [1,2,3,4,6,7] q q q q (f28o_c g8 (vo:=0) (vf:=m) (vu:=p) (vo2:=0) (vf2:=0)) Lw q dC (Re (Rg (Rf (Ro (Re (Re q)))))) ⟨q,q,q,q,q,q,Zt⟩ Kv q (Zw q) q q (λr' new hS=>?_)
 obtain⟨rfl,rfl⟩:=hS
 refine⟨_,_,q,(Re (Rg (Rf (Ro (Rg (Rf q)))))),q,Kv,?_⟩
 refine St q (Rlc 3 q ?_)
 replace h:=aC h
 obtain⟨e2,g9,h⟩:=h
 refine cB (λenv' st'=>∃(b3:lL),∃(et:Nat),e2 b3=some r∧Sub [(8, .pt 1 0),(10, .pt 5 0)] env'∧SLe st' [uS 1 x, .row 90 (mR a.2.1 a.2.2.1 a.2.2.2.1 a.2.2.2.2.1 2 0 B 4 p),oS 0 3 m g,fS m g,uS p A, .row 64 [.l E45 C, .l bq F, .l bT G, .l bS H, .l E96 I, .l br J, .l bO K, .n N, .l E27 O, .l bI P, .l bY Q, .l E42 S, .l E2 T, .l E2 U],oS 0 7 et b3,fS et b3]) ?_ ?_
 refine Rcc 6 q (cX (λn env' st'=>∃(y:Int),∃(a1:lL),∃(ew:Nat),f6_l3 e2 n y a1=some r∧Sub [(8, .pt 1 0),(10, .pt 5 0),(23, .os 6 0),(24, .n y)] env'∧SLe st' [uS 1 x, .row 90 (mR a.2.1 a.2.2.1 a.2.2.2.1 a.2.2.2.2.1 2 0 B 4 p),oS 0 3 m g,fS m g,uS p A, .row 64 [.l E45 C, .l bq F, .l bT G, .l bS H, .l E96 I, .l br J, .l bO K, .n N, .l E27 O, .l bI P, .l bY Q, .l E42 S, .l E2 T, .l E2 U],oS 0 7 ew a1,fS ew a1]) (λn=>n) 9223372036854775808 ⟨0,g7,_,h,(Sx q (Sx q (Sx q (Sx q (Sub.nil _))))),⟨Zf,Zp,Zf,Zf,Zf,Zp,Zf,Zf,Zt⟩⟩ ?_)
 rintro n ad st1 ⟨y,a1,ew,h,hsub,hst⟩
 rcases n with _|n
 rw[f6_l3] at h;cases h
 rw[f6_l3] at h
 refine WC.sub hsub (WC.weak hst ?_)
 refine Rcl 5 q (Zq (dM e62 q q q) q (Rlc 3 q (Ci h q (λh=>?_) λh=>?_)))
 refine Rcc 2 q ?_
 replace h:=aC h
 obtain⟨e3,ha,h⟩:=h
 refine cB (λenv' st'=>∃(b4:lL),∃(ex:Nat),e3 b4=some r∧Sub [(8, .pt 1 0),(10, .pt 5 0),(23, .os 6 0),(24, .n y)] env'∧SLe st' [uS 1 x, .row 90 (mR a.2.1 a.2.2.1 a.2.2.2.1 a.2.2.2.2.1 2 0 B 4 p),oS 0 3 m g,fS m g,uS p A, .row 64 [.l E45 C, .l bq F, .l bT G, .l bS H, .l E96 I, .l br J, .l bO K, .n N, .l E27 O, .l bI P, .l bY Q, .l E42 S, .l E2 T, .l E2 U],oS 0 7 ex b4,fS ex b4]) ?_ ?_
 refine Rcc 7 q (cX (λna env' st'=>∃(W:Int),∃(w:lL),∃(X:Nat),f6_l4 y e3 na W w=some r∧Sub [(8, .pt 1 0),(10, .pt 5 0),(23, .os 6 0),(24, .n y),(25, .n W)] env'∧SLe st' [uS 1 x, .row 90 (mR a.2.1 a.2.2.1 a.2.2.2.1 a.2.2.2.2.1 2 0 B 4 p),oS 0 3 m g,fS m g,uS p A, .row 64 [.l E45 C, .l bq F, .l bT G, .l bS H, .l E96 I, .l br J, .l bO K, .n N, .l E27 O, .l bI P, .l bY Q, .l E42 S, .l E2 T, .l E2 U],oS 0 7 X w,fS X w]) (λn=>n) 9223372036854775808 ⟨0,a1,_,h,(Sx q (Sx q (Sx q (Sx q (Sx q (Sub.nil _)))))),⟨Zf,Zp,Zf,Zf,Zf,Zp,Zf,Zf,Zt⟩⟩ ?_)
 rintro na ad st1 ⟨W,w,X,h,hsub,hst⟩
 rcases na with _|na
 rw[f6_l4] at h;cases h
 rw[f6_l4] at h
 refine WC.sub hsub (WC.weak hst ?_)
 refine Rcl 6 q ?_
 obtain⟨hA,b5,h⟩:=ab h
 refine Zq (bZ e62 q q q (ae b5) (cD b5)) q (Zq (ct (i:=y) q q a42 (bm b5)) q (Zq (ge e42 q q q (bd b5)) q (Rlc 3 q (Ci h q (λh=>?_) λh=>?_))))
 refine Rcl 7 q ?_
 obtain⟨Y,Z,h⟩:=ab h
 refine Zq (bZ e62 q q q (ae Z) (cD Z)) q (Zq (ct (i:=y) q q a42 (bm Z)) q (Rl 1 q ?_))
 obtain⟨ax,e4,h⟩:=ab h
 refine Zq (eN (E:=E2) (L:=w) (M:=Y) (v:=ax) e42 q q (bd Z) q e4) q (Zq (iY (E:=E2) (L:=w) (M:=Y) (v:=ax) (i:=W) q q (bd Z) e4 (λ_=>q) dC q a2) q (Rl 1 q ?_))
 obtain⟨e5,e6,h⟩:=ab h
 refine Zq (eN (E:=E2) (L:=w) (M:=Y) (v:=e5) e42 q q (bd Z) q e6) q (WL.s0 (fV (E:=E2) (L:=w) (M:=Y) (v:=e5) (z:=(IntKind.i64.wrap (ax+1))) (i:=W) q q (bd Z) e6 (λ_=>q) q q Lw q s2) (Zw q) q ?_)
 refine WL.st (st':=[uS 1 x, .row 90 (mR a.2.1 a.2.2.1 a.2.2.2.1 a.2.2.2.2.1 2 0 B 4 p),oS 0 3 m g,fS m g,uS p A, .row 64 [.l E45 C, .l bq F, .l bT G, .l bS H, .l E96 I, .l br J, .l bO K, .n N, .l E27 O, .l bI P, .l bY Q, .l E42 S, .l E2 T, .l E2 U], .os 42 1 0 (bt 7 X (List.length (List.set w (Int.toNat y) (List.set Y (Int.toNat W) (IntKind.i64.wrap (ax+1)))))), .fam 2 1 X (bi E2 (List.set w (Int.toNat y) (List.set Y (Int.toNat W) (IntKind.i64.wrap (ax+1)))))]) (by show([uS 1 x, .row 90 (mR a.2.1 a.2.2.1 a.2.2.2.1 a.2.2.2.2.1 2 0 B 4 p),oS 0 3 m g,fS m g,uS p A, .row 64 [.l E45 C, .l bq F, .l bT G, .l bS H, .l E96 I, .l br J, .l bO K, .n N, .l E27 O, .l bI P, .l bY Q, .l E42 S, .l E2 T, .l E2 U],oS 0 7 X w, .fam 2 1 X (bi E2 (List.set w (Int.toNat y) (List.set Y (Int.toNat W) (IntKind.i64.wrap (ax+1)))))]:lW)=_;rw[List.length_set]) ?_
 exact Rlx 8 q (Fn3 h)
 exact Rcx 5 q (En2 h)
 rintro ad st1 ⟨b4,ex,h,hsub,hst⟩
 subst ha
 dsimp only at h
 refine WC.sub hsub (WC.weak hst ?_)
 exact Rcx 5 q (Fn3 h)
 exact Rcx 4 q (En2 h)
 rintro ad st1 ⟨b3,et,h,hsub,hst⟩
 subst g9
 dsimp only at h
 refine WC.sub hsub (WC.weak hst ?_)
 refine Rcl 4 q ?_
 obtain⟨hB,hb,h⟩:=ab h
 refine WL.wing [1,2,3,4] q q q q (f19_c hb) ⟨Zl,(ah (Zs _)),Zt⟩ q dC (Re (Rg (Rf (Ro q)))) ⟨q,q,q,q,Zt⟩ Kv q (Zw q) q q (λr' new hS=>?_)
 obtain⟨rfl,rfl⟩:=hS
 refine⟨_,_,q,(Re (Rg (Rf (Ro q)))),q,Kv,?_⟩
 refine St q (Rl 1 q ?_)
 obtain⟨hc,hd,h⟩:=ab h
 refine Gg 2 240 242 hc hd (λh=>?_) (λh=>?_) ?_
 obtain⟨hC,he,h⟩:=ab h
 exact WL.fn q q q q (f9_c he) Zt (aU q q q) q q (On 1 2 h)
 exact On 2 2 h
 exact Rlx 4 q (FA h)
 replace h:=dw h b6
 refine WL.freezeX [41,7,44] [] 0 _ q (al dx _) ⟨q,q,q,Zt⟩ Zt ?_
 obtain⟨hD,hf,h⟩:=ab h
 refine wF Z4 (f10b_c hf) Lw Z3 (Rl 5 q (Zn (Rcl 4 q ?_)))
 obtain⟨hE,hg,h⟩:=ab h
 refine wF Z4 (f16_c hg) Lw Z3 (Rl 3 q (Al z64 q (sS Z6 s64 Z2 (St q (Rll 10 q ?_)))))
 apply WL.or 6 (t:=57) (d:=63)
 exact q
 intro fz
 exact Rl 1 q (Zy (nL underlying46 q) q q q (Rl 2 q (Zy (ss underlying4 q q) q q q (Rl 1 q (WL.nil ⟨q,[_,_,_,_,_,_],q,q,q⟩)))))
 exact Rn 6 6
 refine Rlc 2 q (Ci h q (λh=>Rcx 7 q (FA h)) λh=>?_)
 refine Rcc 9 q (Ci h q (λh=>?_) λh=>?_)
 refine Rcl 2 q ?_
 obtain⟨hF,hh,h⟩:=ab h
 exact WL.fn q q q q (f9_c hh) Zt (Zw q) q q (Rlx 5 q (FA h))
 refine Rcc 4 q ?_
 cases h

end Go.Proofs.YtkbahggepncliaaGreatDoor
