/- The walks of functions that this law reaches. -/
import Derived.Test.YtejcfgjpdocaoaaGreatDoorH
set_option linter.unusedVariables false
set_option linter.unusedSimpArgs false
set_option linter.unusedSectionVars false
set_option linter.unnecessarySimpa false
set_option maxHeartbeats 4000000
set_option maxRecDepth 100000
namespace Go.Proofs.YtejcfgjpdocaoaaGreatDoor
open Go.Proofs.Tryz
open Go Go.Sk

theorem f24s_c(a:ap→Option (Int))(e0:ap)(g:∀(x0:ap)(r:Int),a x0=some r→Pu prog 24 [.ag (R80 x0)] (.i .i64 r)){r:Int}(h:f24s a e0=some r):Pu prog 24 [.ag (R80 e0)] (.i .i64 r):=by
 unfold f24s at h
 refine fI func24 λ_ _=>?_
 refine Rcl 2 q (Bd q q (Zs _) q (Rlc 8 q (Jn1 (λc=> [(3, .n c)]) (λ_=> []) h (λj h=>?_) λc h=>?_)))
 refine Rcc 6 q (Ln2 (λe f=> [(1, .d (.pc (R80 e0))),(3, .n e),(4, .n f)]) (λ_ _=> []) (f24s_l1 a e0 j) h (λ_ _ h=>by rw[f24s_l1] at h;cases h) λn e f h=>?_)
 rw[f24s_l1] at h
 refine Rcl 6 q (Zq (aa E80 e0.l e73 q q Zl) q (Rl 2 q ?_))
 refine AG 3 10 13 3 3 ?_
 refine Rlc 2 q (Ci h q (λh=>?_) λh=>?_)
 refine Rcl 9 q (Ix h e73 fh q Zl q q λm _ h=>(Rl 1 q ?_))
 obtain⟨p,k,h⟩:=ac h
 exact wF Z4 (g _ _ k) Lw Z3 (Rlx 10 q (Fn2 h))
 exact Rcx 4 q (En1 h)
 exact Rcx 7 q (FA h)

theorem f24_c:∀(n:Nat)(x0:ap){r:Int},f24 n x0=some r→Pu prog 24 [.ag (R80 x0)] (.i .i64 r)
 |0,_,_,h=>by cases h
 |n+1,x0,_,h=>f24s_c (f24 n) x0 (λx0 _ h=>f24_c n x0 h) h

theorem f24w_c{x0:ap}{r:Int}(h:f24w x0=some r):Pu prog 24 [.ag (R80 x0)] (.i .i64 r):=f24_c (pY x0) x0 h

theorem f8_c{t0:af}{r:Bool}(h:f8 t0=some r):Pu prog 8 [.ag (R33 t0)] (.b r):=by
 unfold f8 at h
 refine fI func8 λ_ _=>?_
 refine Rcl 2 q (Bd q q (Zs _) q (Rll 7 q (Zq (aa E59 t0.insns e22 q q Zl) q (Rl 2 q (Zq (aa E83 t0.handlers e23 q q Zl) q (Rl 3 q (Zq (aa cm t0.loops e24 q q Zl) q (Rl 3 q (Zq (aa E65 t0.selects e25 q q Zl) q (Rl 3 q (Zq (aa E54 t0.lists e26 q q Zl) q (Rl 3 q (Zq (aa E67 t0.objs e27 q q Zl) q (Rl 3 q (Zq (aa E93 t0.inits e28 q q Zl) q (Rl 3 q (Zq (aa E70 t0.tasks e29 q q Zl) q (Rl 3 q (Zq (aa E75 t0.prots e30 q q Zl) q (Rl 3 q (Zq (aa cv t0.checks e31 q q Zl) q (Rlc 11 q (Ci h q (λh=>?_) λh=>?_)))))))))))))))))))))))
 exact Rcx 7 q (FA h)
 refine Rcc 2 q (Jn1 (λe=> [(1, .d (.pc (R33 t0))),(3, .n e)]) (λ_=> []) h (λQ h=>?_) λe h=>?_)
 refine Rcc 6 q (Ln2 (λf g=> [(1, .d (.pc (R33 t0))),(3, .n f),(4, .n g)]) (λ_ _=> []) (f8_l1 t0 Q) h (λ_ _ h=>by rw[f8_l1] at h;cases h) λn f g h=>?_)
 rw[f8_l1] at h
 refine Rcl 6 q (Zq (aa E65 t0.selects e25 q q Zl) q (Rlc 3 q (Ci h q (λh=>?_) λh=>?_)))
 exact Rcl 9 q (Ix h e25 jT q Zl q q λR _ h=>(Rl 2 q (Zq (aa dB R.alts e63 q q Zl) q (Rlx 10 q (Fn2 h)))))
 exact Rcx 4 q (En1 h)
 refine Jn1 (λj=> [(1, .d (.pc (R33 t0))),(3, .n j)]) (λ_=> []) h (λS h=>?_) (λj h=>?_)
 refine Rcc 6 q (Ln2 (λk m=> [(1, .d (.pc (R33 t0))),(3, .n k),(5, .n m)]) (λ_ _=> []) (f8_l2 t0 S) h (λ_ _ h=>by rw[f8_l2] at h;cases h) λn k m h=>?_)
 rw[f8_l2] at h
 refine Rcl 6 q (Zq (aa E54 t0.lists e26 q q Zl) q (Rlc 3 q (Ci h q (λh=>?_) λh=>?_)))
 exact Rcl 9 q (Ix h e26 nO q Zl q q λT _ h=>(Rl 1 q (Zq (aa E3 T e54 q q Zl) q (Rlx 10 q (Fn2 h)))))
 exact Rcx 4 q (En1 h)
 refine Jn1 (λp=> [(1, .d (.pc (R33 t0))),(3, .n p)]) (λ_=> []) h (λU h=>?_) (λp h=>?_)
 refine Rcc 6 q (Ln2 (λt w=> [(1, .d (.pc (R33 t0))),(3, .n t),(6, .n w)]) (λ_ _=> []) (f8_l3 t0 U) h (λ_ _ h=>by rw[f8_l3] at h;cases h) λn t w h=>?_)
 rw[f8_l3] at h
 refine Rcl 6 q (Zq (aa E67 t0.objs e27 q q Zl) q (Rlc 3 q (Ci h q (λh=>?_) λh=>?_)))
 refine Rcc 4 q (aB kR kR (Rq 4 q ?_))
 obtain⟨V,x,h⟩:=ac h
 refine WQ.qn (ai e27 q Zl q (aj x) (au cE x) q) q (Rq 2 q (WQ.qn (aa E3 V.set_ e54 q q Zl) q (Rq 4 q ?_)))
 obtain⟨a',y,h⟩:=ac h
 exact WQ.qn (ai e27 q Zl q (aj y) (au cE y) q) q (Rq 2 q (WQ.qn (qg q q q) q (WQ.qn (sB q q dC q) q (WQ.qn (qh q q q) q (Rq 2 q (WQ.nil (Rxx 7 q (Fn2 h))))))))
 exact Rcx 4 q (En1 h)
 refine Jn1 (λA=> [(1, .d (.pc (R33 t0))),(3, .n A)]) (λ_=> []) h (λW h=>?_) (λA h=>?_)
 refine Rcc 6 q (Ln2 (λB a=> [(1, .d (.pc (R33 t0))),(3, .n B),(7, .n a)]) (λ_ _=> []) (f8_l4 t0 W) h (λ_ _ h=>by rw[f8_l4] at h;cases h) λn B a h=>?_)
 rw[f8_l4] at h
 refine Rcl 6 q (Zq (aa E70 t0.tasks e29 q q Zl) q (Rl 2 q ?_))
 refine AG 3 114 117 3 3 ?_
 refine Rlc 2 q (Ci h q (λh=>?_) λh=>?_)
 refine Rcc 2 q (Jn1 (λC=> [(1, .d (.pc (R33 t0))),(3, .n C),(7, .n a)]) (λ_=> []) h (λ_ h=>?_) λC h=>?_)
 refine Rcc 1 q (Jn1 (λE=> [(1, .d (.pc (R33 t0))),(3, .n E),(7, .n a)]) (λ_=> []) h (λX h=>?_) λE h=>?_)
 refine Rcc 6 q (Ln2 (λF G=> [(1, .d (.pc (R33 t0))),(3, .n F),(7, .n a),(8, .n G)]) (λ_ _=> []) (f8_l5 t0 a X) h (λ_ _ h=>by rw[f8_l5] at h;cases h) λna F G h=>?_)
 rw[f8_l5] at h
 refine Rcl 7 q (Ix h e29 dN q Zl q q λY _ h=>(Rl 2 q (Zq (aa E72 Y.entries e68 q q Zl) q (Rl 2 q ?_))))
 refine AG 3 129 132 3 3 ?_
 refine Rlc 2 q (Ci h q (λh=>?_) λh=>?_)
 refine Rcc 4 q (aB kR kR (Rq 4 q ?_))
 obtain⟨bb,H,h⟩:=ac h
 refine WQ.qn (ai e29 q Zl q (aj H) (au dN H) q) q (Rq 3 q ?_)
 obtain⟨Z,I,h⟩:=ac h
 refine WQ.qn (ai e68 q Zl q (aj I) (au fS I) q) q (Rq 2 q (WQ.qn (aa E3 Z.ins e54 q q Zl) q (Rq 4 q ?_)))
 obtain⟨bk,J,h⟩:=ac h
 refine WQ.qn (ai e29 q Zl q (aj J) (au dN J) q) q (Rq 3 q ?_)
 obtain⟨ad,K,h⟩:=ac h
 exact WQ.qn (ai e68 q Zl q (aj K) (au fS K) q) q (Rq 2 q (WQ.qn (aa E3 ad.outs e54 q q Zl) q (Rq 3 q (WQ.nil (Rxx 7 q (Fn2 h))))))
 exact Rcx 4 q (En1 h)
 exact Rcl 5 q (Ix h e29 dN q Zl q q λal _ h=>(Rl 2 q (Zq (aa E72 al.entries e68 q q Zl) q (Rlx 4 q (En1 h)))))
 exact Rcx 5 q (Fn2 h)
 exact Rcx 4 q (En1 h)
 refine Jn1 (λL=> [(3, .n L)]) (λ_=> []) h (λa0 h=>?_) (λL h=>?_)
 refine Rcc 6 q (Ln2 (λM c=> [(1, .d (.pc (R33 t0))),(3, .n M),(9, .n c)]) (λ_ _=> []) (f8_l6 t0 a0) h (λ_ _ h=>by rw[f8_l6] at h;cases h) λn M c h=>?_)
 rw[f8_l6] at h
 refine Rcl 6 q (Zq (aa E75 t0.prots e30 q q Zl) q (Rl 2 q ?_))
 refine AG 3 175 178 3 3 ?_
 refine Rlc 2 q (Ci h q (λh=>?_) λh=>?_)
 refine Rcc 2 q (Jn1 (λN=> [(1, .d (.pc (R33 t0))),(3, .n N),(9, .n c)]) (λ_=> []) h (λa1 h=>?_) λN h=>?_)
 refine Rcl 7 q (Ix h e30 eJ q Zl q q λa6 _ h=>(Rl 2 q (Zq (aa E80 a6.barriers e73 q q Zl) q (Rlc 10 q (Ln2 (λO P=> [(1, .d (.pc (R33 t0))),(3, .n O),(9, .n c),(10, .n P)]) (λ_ _=> []) (f8_l7 t0 c a1) h (λ_ _ h=>by rw[f8_l7] at h;cases h) λna O P h=>?_)))))
 rw[f8_l7] at h
 refine Rcl 7 q (Ix h e30 eJ q Zl q q λa7 _ h=>(Rl 2 q (Zq (aa E80 a7.barriers e73 q q Zl) q (Rl 2 q ?_))))
 refine AG 3 199 202 3 3 ?_
 refine Rl 1 q ?_
 refine AG 3 203 206 3 3 ?_
 refine Rlc 2 q (Ci h q (λh=>?_) λh=>?_)
 refine Rcl 9 q (Ix h e30 eJ q Zl q q λbo _ h=>(Rl 3 q (Ix h e73 fh q Zl q q λbs _ h=>(Rl 1 q ?_))))
 obtain⟨b0,a8,h⟩:=ac h
 exact wF Z4 (f24w_c a8) Lw Z3 (Rlx 10 q (Fn2 h))
 exact Rcx 5 q (En1 h)
 exact Rcx 5 q (Fn2 h)
 exact Rcx 4 q (En1 h)
 exact Rcx 8 q (FA h)

theorem f23_c{x0:aE}{y1:aE}:Pu prog 23 [.ag (R59 x0), .ag (R59 y1)] (.b (f23 x0 y1)):=by
 generalize h:f23 x0 y1=r
 unfold f23 at h
 refine fI func23 λ_ _=>?_
 exact Rcl 2 q (Bx q q q (Bx q q q (Rll 6 q (sS Z6 s3 Z2 (Rl 1 q (sS Z6 s3 Z2 (Rll 6 q (Zq (mU (xs:=[.int .u8 x0.op, .int .i64 x0.d, .int .i64 x0.a, .int .i64 x0.b, .int .i64 x0.n, .int .i64 x0.m, .int .i64 0]) (ys:=[.int .u8 y1.op, .int .i64 y1.d, .int .i64 y1.a, .int .i64 y1.b, .int .i64 y1.n, .int .i64 y1.m, .int .i64 0]) q59 q (aK (Zs _)) q (aK (Zs _)) q q q) q (Rlx 4 q (FB h))))))))))

theorem f9_c{r:Bool}(h:f9=some r):Pu prog 9 [] (.v (.bool r)):=by obtain rfl:=inS h;exact wj

theorem f7_c(t0:af)(g:Int)(j:Int){r:Bool}(h:f7 t0 g j=some r):Pu prog 7 [.ag (R33 t0), .i .u64 g, .i .u64 j] (.b r):=by
 unfold f7 at h
 refine fI func7 λ_ _=>?_
 refine Rcl 2 q (Bd q q (Zs _) q (Rll 7 q ?_))
 obtain⟨el,b2,h⟩:=ac h
 refine wF Z4 (f8_c b2) Lw Z3 (Rl 1 q ?_)
 obtain⟨b3,b4,h⟩:=ac h
 refine Gg 4 26 30 b3 b4 (λh=>?_) (λh=>?_) ?_
 exact On 4 4 h
 refine Rl 1 q ?_
 obtain⟨em,b5,h⟩:=ac h
 exact WL.fn q q q q (f11_c b5) Lw (aR q q q) q q (On 2 4 h)
 refine Rlc 2 q (Ci h q (λh=>?_) λh=>?_)
 refine Rcl 2 q ?_
 obtain⟨en,b6,h⟩:=ac h
 exact WL.fn q q q q (f9_c b6) Zt (Zw q) q q (Rlx 5 q (FA h))
 refine Rcl 5 q (WL.nil_os 7 3 1 q (Rl 1 q (WL.nil_os 8 3 1 q (Rl 1 q (WL.nil_os 9 3 1 q (Rll 11 q (WL.nil_os 12 59 7 q (Rlc 2 q ?_))))))))
 replace h:=az h
 obtain⟨bo,b7,h⟩:=h
 refine aY (λenv' st'=>∃(Q:lI),∃(R:Nat),∃(S:lI),∃(T:Nat),∃(H:lI),∃(U:Nat),∃(p:lN),∃(y:Nat),bo Q S H p=some r∧Sub [(3, .d (.pc (R33 t0))),(7, .os 0 R),(8, .os 1 T),(9, .os 2 U),(12, .os 3 y)] env'∧SLe st' [.os 3 1 R (eM E3 Q), .os 3 1 T (eM E3 S), .os 3 1 U (eM E3 H), .os 59 7 y (eM R59 p)]) ?_ ?_
 refine Rcc 6 q (be (λn env' st'=>∃(f:Int),∃(removed212:Int),∃(k:Int),∃(I:lI),∃(C:Nat),∃(J:lI),∃(E:Nat),∃(F:lI),∃(w:Nat),∃(x:lN),∃(m:Nat),f7_l1 t0 g j bo n f removed212 k I J F x=some r∧Sub [(1, .d (D.i .u64 g)),(2, .d (D.i .u64 j)),(3, .d (.pc (R33 t0))),(7, .os 0 C),(8, .os 1 E),(9, .os 2 w),(10, .n f),(11, .n removed212),(12, .os 3 m),(13, .n k)] env'∧SLe st' [.os 3 1 C (eM E3 I), .os 3 1 E (eM E3 J), .os 3 1 w (eM E3 F), .os 59 7 m (eM R59 x)]) (λn=>n) 9223372036854775808 ⟨0,0,0,[],_,[],_,[],_,[],_,h,(Sx q (Sx q (Sx q (Sx q (Sx q (Sx q (Sx q (Sx q (Sx q (Sx q (Sub.nil _))))))))))),⟨Zf,Zf,Zf,Zf,Zt⟩⟩ ?_)
 rintro n G st1 ⟨f,removed212,k,I,C,J,E,F,w,x,m,h,hsub,hst⟩
 rcases n with _|n
 rw[f7_l1] at h;cases h
 rw[f7_l1] at h
 refine WC.sub hsub (WC.weak hst ?_)
 refine Rcl 6 q (Zq (aa E59 t0.insns e22 q q Zl) q (Rlc 3 q (Ci h q (λh=>?_) λh=>?_)))
 refine Rcc 2 q ?_
 replace h:=az h
 obtain⟨b8,b9,h⟩:=h
 refine aY (λenv' st'=>∃(V:Int),∃(removed234:Int),∃(W:lI),∃(X:Nat),∃(Y:lI),∃(Z:Nat),∃(ad:lI),∃(al:Nat),∃(a0:lN),∃(a1:Nat),b8 V removed234 W Y ad a0=some r∧Sub [(1, .d (D.i .u64 g)),(2, .d (D.i .u64 j)),(3, .d (.pc (R33 t0))),(7, .os 0 X),(8, .os 1 Z),(9, .os 2 al),(10, .n V),(11, .n removed234),(12, .os 3 a1),(13, .n k)] env'∧SLe st' [.os 3 1 X (eM E3 W), .os 3 1 Z (eM E3 Y), .os 3 1 al (eM E3 ad), .os 59 7 a1 (eM R59 a0)]) ?_ ?_
 refine Rcc 6 q ?_
 replace h:=az h
 obtain⟨b',ca,h⟩:=h
 refine aY (λenv' st'=>∃(K:Int),∃(removed245:Int),∃(a6:Bool),∃(a7:lI),∃(L:Nat),∃(a8:lI),∃(M:Nat),∃(a':lI),∃(N:Nat),b' K removed245 a6 a7 a8 a'=some r∧Sub [(1, .d (D.i .u64 g)),(2, .d (D.i .u64 j)),(3, .d (.pc (R33 t0))),(7, .os 0 L),(8, .os 1 M),(9, .os 2 N),(10, .n K),(11, .n removed245),(12, .os 3 m),(13, .n k),(14, .d (D.b a6))] env'∧SLe st' [.os 3 1 L (eM E3 a7), .os 3 1 M (eM E3 a8), .os 3 1 N (eM E3 a'), .os 59 7 m (eM R59 x)]) ?_ ?_
 refine Rcl 4 q ?_
 obtain⟨eq,cc,h⟩:=ac h
 refine wF Z4 (f21_c cc) Lw Z3 (Rl 1 q ?_)
 refine AG 3 42 45 3 3 ?_
 refine Rlc 2 q (Ci h q (λh=>?_) λh=>?_)
 refine Rcl 5 q ?_
 replace h:=bu h
 obtain⟨cd,h⟩:=h
 refine Zq (qf q q (th cd)) q (Zq (qi q q q) q (Rl 4 q ?_))
 replace h:=bu h
 obtain⟨ci,h⟩:=h
 refine Zq (qf q q (th ci)) q (Zq (qi q q q) q (Rlc 5 q ?_))
 replace h:=az h
 obtain⟨cj,ck,h⟩:=h
 refine aY (λenv' st'=>∃(removed257:Int),∃(O:lI),∃(A:Nat),∃(P:lI),∃(B:Nat),cj removed257 O P=some r∧Sub [(1, .d (D.i .u64 g)),(2, .d (D.i .u64 j)),(3, .d (.pc (R33 t0))),(7, .os 0 A),(8, .os 1 B),(9, .os 2 w),(10, .n f),(11, .n removed257),(12, .os 3 m),(13, .n k),(15, .d (D.b (decide ((IntKind.u64.wrap (BitVec.ofInt IntKind.u64.bits (Int.fdiv g (2^min (Int.toNat (IntKind.u64.wrap f)) IntKind.u64.bits))&&&BitVec.ofInt IntKind.u64.bits 1).toNat)=1)))),(16, .d (D.b (decide ((IntKind.u64.wrap (BitVec.ofInt IntKind.u64.bits (Int.fdiv j (2^min (Int.toNat (IntKind.u64.wrap f)) IntKind.u64.bits))&&&BitVec.ofInt IntKind.u64.bits 1).toNat)=1))))] env'∧SLe st' [.os 3 1 A (eM E3 O), .os 3 1 B (eM E3 P), .os 3 1 w (eM E3 F), .os 59 7 m (eM R59 x)]) ?_ ?_
 refine Rcc 5 q (Ci h q (λh=>?_) λh=>?_)
 refine Rcl 4 q (WL.s ((NewOs.b (ae l54 z3 q dC dC q q q dC)).does) (Zw q) q q ?_)
 replace h:=bu h
 obtain⟨cl,h⟩:=h
 exact WL.s (bG E3 I [k] l54 z3 q dC q q q q (Src.own q) (λ_=>q) (λ_=>q) cl) (Zw q) q q (Rlx 8 q (WE.drop 4 (env':=[(1, .d (D.i .u64 g)),(2, .d (D.i .u64 j)),(3, .d (.pc (R33 t0))),(7, .os 0 (C+1)),(8, .os 1 E),(9, .os 2 w),(10, .n f),(11, .n (IntKind.i64.wrap (removed212+1))),(12, .os 3 m),(13, .n k),(15, .d (D.b (decide ((IntKind.u64.wrap (BitVec.ofInt IntKind.u64.bits (Int.fdiv g (2^min (Int.toNat (IntKind.u64.wrap f)) IntKind.u64.bits))&&&BitVec.ofInt IntKind.u64.bits 1).toNat)=1)))),(16, .d (D.b (decide ((IntKind.u64.wrap (BitVec.ofInt IntKind.u64.bits (Int.fdiv j (2^min (Int.toNat (IntKind.u64.wrap f)) IntKind.u64.bits))&&&BitVec.ofInt IntKind.u64.bits 1).toNat)=1))))]) Sb q Kv (Nat.zero_le _) (En5 h)))
 refine Rcc 5 q (Ci h q (λh=>?_) λh=>?_)
 refine Rcl 5 q (WL.s ((NewOs.b (ae l54 z3 q dC dC q q q dC)).does) (Zw q) q q ?_)
 replace h:=bu h
 obtain⟨cp,h⟩:=h
 exact WL.s (bG E3 J [(IntKind.i64.wrap (k - removed212))] l54 z3 q dC q q q q (Src.own q) (λ_=>q) (λ_=>q) cp) (Zw q) q q (Rlx 2 q (WE.drop 4 (env':=[(1, .d (D.i .u64 g)),(2, .d (D.i .u64 j)),(3, .d (.pc (R33 t0))),(7, .os 0 C),(8, .os 1 (E+1)),(9, .os 2 w),(10, .n f),(11, .n removed212),(12, .os 3 m),(13, .n k),(15, .d (D.b (decide ((IntKind.u64.wrap (BitVec.ofInt IntKind.u64.bits (Int.fdiv g (2^min (Int.toNat (IntKind.u64.wrap f)) IntKind.u64.bits))&&&BitVec.ofInt IntKind.u64.bits 1).toNat)=1)))),(16, .d (D.b (decide ((IntKind.u64.wrap (BitVec.ofInt IntKind.u64.bits (Int.fdiv j (2^min (Int.toNat (IntKind.u64.wrap f)) IntKind.u64.bits))&&&BitVec.ofInt IntKind.u64.bits 1).toNat)=1))))]) Sb q Kv (Nat.zero_le _) (En5 h)))
 exact Rcx 1 q (En5 h)
 rintro G st1 ⟨removed257,O,A,P,B,h,hsub,hst⟩
 subst ck
 dsimp only at h
 refine WC.sub hsub (WC.weak hst ?_)
 refine Rcl 4 q ?_
 refine OG 2 73 75 2 2 ?_
 refine Rlc 3 q ?_
 replace h:=az h
 obtain⟨cr,c0,h⟩:=h
 refine aY (λenv' st'=>∃(bb:lI),∃(bk:Nat),cr bb=some r∧Sub [(1, .d (D.i .u64 g)),(2, .d (D.i .u64 j)),(3, .d (.pc (R33 t0))),(7, .os 0 A),(8, .os 1 B),(9, .os 2 bk),(10, .n f),(11, .n removed257),(12, .os 3 m),(13, .n k),(14, .d (D.b ((decide ((IntKind.u64.wrap (BitVec.ofInt IntKind.u64.bits (Int.fdiv g (2^min (Int.toNat (IntKind.u64.wrap f)) IntKind.u64.bits))&&&BitVec.ofInt IntKind.u64.bits 1).toNat)=1))||(decide ((IntKind.u64.wrap (BitVec.ofInt IntKind.u64.bits (Int.fdiv j (2^min (Int.toNat (IntKind.u64.wrap f)) IntKind.u64.bits))&&&BitVec.ofInt IntKind.u64.bits 1).toNat)=1)))))] env'∧SLe st' [.os 3 1 A (eM E3 O), .os 3 1 B (eM E3 P), .os 3 1 bk (eM E3 bb), .os 59 7 m (eM R59 x)]) ?_ ?_
 refine Rcc 5 q (Ci h q (λh=>?_) λh=>?_)
 refine Rcl 3 q (WL.s ((NewOs.b (ae l54 z3 q dC dC q q q dC)).does) (Zw q) q q ?_)
 replace h:=bu h
 obtain⟨c1,h⟩:=h
 exact WL.s (bG E3 F [k] l54 z3 q dC q q q q (Src.own q) (λ_=>q) (λ_=>q) c1) (Zw q) q q (Rlx 2 q (WE.drop 4 (env':=[(1, .d (D.i .u64 g)),(2, .d (D.i .u64 j)),(3, .d (.pc (R33 t0))),(7, .os 0 A),(8, .os 1 B),(9, .os 2 (w+1)),(10, .n f),(11, .n removed257),(12, .os 3 m),(13, .n k),(14, .d (D.b ((decide ((IntKind.u64.wrap (BitVec.ofInt IntKind.u64.bits (Int.fdiv g (2^min (Int.toNat (IntKind.u64.wrap f)) IntKind.u64.bits))&&&BitVec.ofInt IntKind.u64.bits 1).toNat)=1))||(decide ((IntKind.u64.wrap (BitVec.ofInt IntKind.u64.bits (Int.fdiv j (2^min (Int.toNat (IntKind.u64.wrap f)) IntKind.u64.bits))&&&BitVec.ofInt IntKind.u64.bits 1).toNat)=1)))))]) Sb q Kv (Nat.zero_le _) (En2 h)))
 exact Rcx 1 q (En2 h)
 rintro G st1 ⟨bb,bk,h,hsub,hst⟩
 subst c0
 dsimp only at h
 refine WC.sub hsub (WC.weak hst ?_)
 exact Rcx 5 q (cF ⟨_,_,_,_,_,_,_,_,_,h,Sb,Tv⟩)
 exact Rcx 1 q (cF ⟨_,_,_,_,_,_,_,_,_,h,Sb,Tv⟩)
 rintro G st1 ⟨K,removed245,a6,a7,L,a8,M,a',N,h,hsub,hst⟩
 subst ca
 dsimp only at h
 refine WC.sub hsub (WC.weak hst ?_)
 refine Rcc 6 q (Ci h q (λh=>?_) λh=>?_)
 refine Rcl 5 q (Ix h e22 cO q Zl q q λc2 _ h=>(Rl 1 q (WL.s ((NewOs.b (ae l22 z59 q dC dC q q q dC)).does) (Zw q) q q ?_)))
 replace h:=bu h
 obtain⟨c3,h⟩:=h
 exact WL.s (bG R59 x [c2] l22 z59 q dC q q q q (Src.own q) (λ_=>q) (λ_=>q) c3) (Zw q) q q (Rlx 3 q (WE.drop 4 (env':=[(1, .d (D.i .u64 g)),(2, .d (D.i .u64 j)),(3, .d (.pc (R33 t0))),(7, .os 0 L),(8, .os 1 M),(9, .os 2 N),(10, .n K),(11, .n removed245),(12, .os 3 (m+1)),(13, .n k)]) Sb q Kv (Nat.zero_le _) (cF ⟨_,_,_,_,_,_,_,_,_,_,h,Sb,Tv⟩)))
 exact Rcx 2 q (cF ⟨_,_,_,_,_,_,_,_,_,_,h,Sb,Tv⟩)
 rintro G st1 ⟨V,removed234,W,X,Y,Z,ad,al,a0,a1,h,hsub,hst⟩
 subst b9
 dsimp only at h
 refine WC.sub hsub (WC.weak hst ?_)
 exact Rcx 5 q (cF ⟨_,⟨_,_,_,_,_,_,_,_,_,_,_,h,Sb,Tv⟩,Nat.lt_succ_self _⟩)
 exact Rcx 4 q (cF ⟨_,_,_,_,_,_,_,_,h,Sb,Tv⟩)
 rintro G st1 ⟨Q,R,S,T,H,U,p,y,h,hsub,hst⟩
 subst b7
 dsimp only at h
 refine WC.sub hsub (WC.weak hst ?_)
 refine Rcl 4 q ?_
 refine WL.freezeX [7,95] [] 0 _ q (ah bd _) ⟨q,q,Zt⟩ Zt ?_
 obtain⟨c,c4,h⟩:=ac h
 refine wF Z4 (f22_c c4) Lw Z3 (Rl 3 q (Al z33 q (sS Z6 s33 Z2 (St q (Rll 7 q ?_)))))
 refine WL.freezeX [9,101] [] 2 _ q (ah bd _) ⟨q,q,Zt⟩ Zt ?_
 obtain⟨a,c5,h⟩:=ac h
 refine wF Z4 (f22_c c5) Lw Z3 (Rl 3 q (Al z33 q (sS Z6 s33 Z2 (St q (Rll 9 q ?_)))))
 refine OG 3 107 110 3 3 ?_
 refine Rlc 2 q (Ci h q (λh=>?_) λh=>?_)
 refine Rcl 5 q ?_
 refine OG 3 113 116 3 3 ?_
 refine Rl 1 q ?_
 apply WL.and 7 (t:=117) (d:=124)
 exact q
 intro er
 refine Rl 3 q ?_
 refine OG 3 120 123 3 3 ?_
 exact Rn 1 5
 exact Rn 7 7
 refine Rl 1 q ?_
 obtain⟨c6,c7,h⟩:=ac h
 refine Gg 2 125 127 c6 c7 (λh=>?_) (λh=>?_) ?_
 obtain⟨es,c8,h⟩:=ac h
 exact WL.fn q q q q (f9_c c8) Zt (aR q q q) q q (On 1 2 h)
 exact On 2 2 h
 exact Rlx 5 q (FA h)
 refine Rcl 6 q ?_
 refine WL.freezeX [8,130] [] 1 _ q (ah bd _) ⟨q,q,Zt⟩ Zt ?_
 obtain⟨e,c',h⟩:=ac h
 refine wF Z4 (f22_c c') ⟨(aK (Zs _)),Zl,Zt⟩ Z3 (Rl 3 q (Al z33 q (sS Z6 s33 Z2 (St q (Rll 9 q ?_)))))
 obtain⟨dd,df,h⟩:=ac h
 refine Gg 5 136 141 dd df (λh=>?_) (λh=>?_) ?_
 exact On 5 5 h
 refine Rl 2 q ?_
 obtain⟨et,dk,h⟩:=ac h
 exact WL.fn q q q q (f19_c dk) ⟨(aK (Zs _)),(aK (Zs _)),Zt⟩ (aR q q q) q q (On 2 5 h)
 refine Rl 1 q ?_
 apply WL.or 7 (t:=142) (d:=149)
 exact q
 intro ew
 exact Rl 2 q (Zy (aa E59 a.1.insns e22 q q Zl) q q q (Rl 1 q (Zy (dl (aT R59) p e22 q q q) q q q (Rl 2 q (WL.nil ⟨q,[_,_,_,_,_,_,_],q,q,q⟩)))))
 exact Rn 7 7
 refine Rl 1 q ?_
 obtain⟨ds,dS,h⟩:=ac h
 refine Gg 10 150 160 ds dS (λh=>?_) (λh=>?_) ?_
 exact On 10 10 h
 refine Rl 1 q (Zy (aa E3 H e54 q q Zl) q q q (Rl 2 q ?_))
 obtain⟨d0,d1,h⟩:=ac h
 refine Gg 5 154 159 d0 d1 (λh=>?_) (λh=>?_) ?_
 refine Rl 2 q ?_
 obtain⟨ex,d2,h⟩:=ac h
 exact WL.fn q q q q (f19_c d2) ⟨(aK (Zs _)),Zl,Zt⟩ (aR q q q) q q (On 2 5 h)
 exact On 5 5 h
 exact On 1 6 h
 refine Rlc 2 q (Ci h q (λh=>Rcx 7 q (FA h)) λh=>?_)
 refine Rcc 2 q (Jn0 [(19, .pt 5 0)] [.z, .z, .z, .os 59 7 y (eM R59 p), .row 33 (txV c.1.insns c.1.handlers c.1.loops c.1.selects c.1.lists c.1.objs c.1.inits c.1.excs c.1.tasks c.1.prots c.1.checks), .row 33 (txV a.1.insns a.1.handlers a.1.loops a.1.selects a.1.lists a.1.objs a.1.inits a.1.excs a.1.tasks a.1.prots a.1.checks), .row 33 (txV e.1.insns e.1.handlers e.1.loops e.1.selects e.1.lists e.1.objs e.1.inits e.1.excs e.1.tasks e.1.prots e.1.checks)] h (λd' h=>?_) λh=>?_)
 refine Rcc 6 q (Ln1 (λbs=> [(12, .os 3 y),(19, .pt 5 0),(23, .n bs)]) (λ_=> [.z, .z, .z, .os 59 7 y (eM R59 p), .row 33 (txV c.1.insns c.1.handlers c.1.loops c.1.selects c.1.lists c.1.objs c.1.inits c.1.excs c.1.tasks c.1.prots c.1.checks), .row 33 (txV a.1.insns a.1.handlers a.1.loops a.1.selects a.1.lists a.1.objs a.1.inits a.1.excs a.1.tasks a.1.prots a.1.checks), .row 33 (txV e.1.insns e.1.handlers e.1.loops e.1.selects e.1.lists e.1.objs e.1.inits e.1.excs e.1.tasks e.1.prots e.1.checks)]) (f7_l2 p a d') h (λ_ h=>by rw[f7_l2] at h;cases h) λn bs h=>?_)
 rw[f7_l2] at h
 refine Rcl 5 q (Zq (dl (aT R59) p e22 q q q) q (Rlc 3 q (Ci h q (λh=>?_) λh=>?_)))
 refine Rcc 5 q (aB kR kR (Rq 2 q ?_))
 obtain⟨ey,b0,h⟩:=ac h
 refine WQ.qn (ma e22 q q q b0) q (WQ.qn (nX (fo:=0) q q q a59 s59 (λ_=>q) b0 q q) q (Rq 3 q ?_))
 obtain⟨e0,b1,h⟩:=ac h
 refine WQ.qn (ai e22 q Zl q (aj b1) (au cO b1) q) q (Rq 1 q (WQ.q (YieldsQ.fn q q q q q (f23_c) ⟨(aK (Zs _)),Zl,Zt⟩) (Zw q) q q (Rq 1 q (WQ.nil (Rxc 1 q (Ci h q (λh=>?_) λh=>?_))))))
 exact Rcx 11 q (FA h)
 exact Rcx 8 q (Fn1 h)
 exact Rcx 4 q (En0 h)
 refine Rcl 3 q ?_
 obtain⟨e1,ea,h⟩:=ac h
 refine wF Z4 (f10_c _ ea) ⟨(aK (Zs _)),Zt⟩ Z3 (Rl 1 q ?_)
 obtain⟨ec,ee,h⟩:=ac h
 refine Gg 2 180 182 ec ee (λh=>?_) (λh=>?_) ?_
 obtain⟨e2,ei,h⟩:=ac h
 exact WL.fn q q q q (f9_c ei) Zt (aR q q q) q q (On 1 2 h)
 exact On 2 2 h
 exact Rlx 4 q (FA h)

end Go.Proofs.YtejcfgjpdocaoaaGreatDoor
