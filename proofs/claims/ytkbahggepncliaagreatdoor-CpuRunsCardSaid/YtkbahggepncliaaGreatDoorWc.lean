/- The walks of functions. -/
import Derived.Test.YtkbahggepncliaaGreatDoorX
import Derived.Test.YtkbahggepncliaaGreatDoorWb
set_option linter.unusedVariables false
set_option linter.unusedSimpArgs false
set_option linter.unusedSectionVars false
set_option linter.unnecessarySimpa false
set_option maxHeartbeats 4000000
set_option maxRecDepth 100000
namespace Go.Proofs.YtkbahggepncliaaGreatDoor
open Tryz
open Go Go.Sk

theorem f54_c(s0:aw)(x1:ap){r:aw}(h:f54 s0 x1=some r):Pu prog 54 [.ag (l5 s0), .ag (R45 x1)] (.ag (l5 r)):=by
 unfold f54 at h
 refine fI func54 λ_ _=>?_
 refine Rcl 2 q (Bx q q q (Bd q q (Zs _) q (Al mW q (Rll 8 q ?_))))
 replace h:=aE h
 obtain⟨c,h⟩:=h
 refine Zq (aB dI q q (bw c) (bv c)) q (Zq (cv (off:=14) (n:=16) (λj=> .n (s0.r.r j)) q q a2 q c) q (Rlc 3 q (Jn4 (λ_ _ _ _=> [(2, .pt 0 0),(4, .pt 1 0)]) (λf g k p=> [.row 123 (([.l E45 s0.m.t.insns, .l bu s0.m.t.handlers, .l cg s0.m.t.loops, .l bX s0.m.t.selects, .l E96 s0.m.t.lists, .l bp s0.m.t.objs, .l bU s0.m.t.inits, .n s0.m.t.excs, .l E27 s0.m.t.tasks, .l bN s0.m.t.prots, .l co s0.m.t.checks, .l E42 s0.m.slots, .l E2 s0.m.in_, .l E2 f]:List AV)++(aY 16 (λj=> .n (g j))++([.n s0.r.pc, .n s0.r.exc, .n k, .l E58 p, .n s0.e]:List AV):List AV)), .row 123 [sN,sN,sN,sN,sN,sN,sN, .n 0,sN,sN,sN,sN,sN,sN, .n 0, .n 0, .n 0, .n 0, .n 0, .n 0, .n 0, .n 0, .n 0, .n 0, .n 0, .n 0, .n 0, .n 0, .n 0, .n 0, .n 0, .n 0, .n 0,sN, .n 0]]) h (λ_ h=>?_) (λf g k p h=>?_))))
 refine Rcc 13 q (Ci h q (λh=>?_) (λh=>?_))
 refine Rcl 7 q ?_
 replace h:=aE h
 obtain⟨w,h⟩:=h
 exact Zq (aB dI q q (bw w) (bv w)) q (WL.s0 (cZ (off:=14) (n:=16) (cs':=(([.l E45 s0.m.t.insns, .l bu s0.m.t.handlers, .l cg s0.m.t.loops, .l bX s0.m.t.selects, .l E96 s0.m.t.lists, .l bp s0.m.t.objs, .l bU s0.m.t.inits, .n s0.m.t.excs, .l E27 s0.m.t.tasks, .l bN s0.m.t.prots, .l co s0.m.t.checks, .l E42 s0.m.slots, .l E2 s0.m.in_, .l E2 s0.m.out]:List AV)++(aY 16 (λj=> .n ((bz s0.r.r (Int.toNat x1.d) x1.n) j))++([.n s0.r.pc, .n s0.r.exc, .n s0.r.defer, .l E58 s0.acts, .n s0.e]:List AV):List AV))) (λx=> .n x) s0.r.r x1.n q q q (eT q) s2 q q w q) (Zw q) q (St q (Rlx 2 q (En4 h))))
 refine Rcc 6 q (Ci h q (λh=>?_) (λh=>?_))
 refine Rcl 6 q ?_
 replace h:=aE h
 obtain⟨y,h⟩:=h
 exact Zq (aB dI q q (bw y) (bv y)) q (WL.s0 (cZ (off:=14) (n:=16) (cs':=(([.l E45 s0.m.t.insns, .l bu s0.m.t.handlers, .l cg s0.m.t.loops, .l bX s0.m.t.selects, .l E96 s0.m.t.lists, .l bp s0.m.t.objs, .l bU s0.m.t.inits, .n s0.m.t.excs, .l E27 s0.m.t.tasks, .l bN s0.m.t.prots, .l co s0.m.t.checks, .l E42 s0.m.slots, .l E2 s0.m.in_, .l E2 s0.m.out]:List AV)++(aY 16 (λj=> .n ((bz s0.r.r (Int.toNat x1.d) (s0.r.r (Int.toNat x1.a))) j))++([.n s0.r.pc, .n s0.r.exc, .n s0.r.defer, .l E58 s0.acts, .n s0.e]:List AV):List AV))) (λx=> .n x) s0.r.r (s0.r.r (Int.toNat x1.a)) q q q (eT q) s2 q q y q) (Zw q) q (St q (Rlx 2 q (En4 h))))
 refine Rcc 6 q (Ci h q (λh=>?_) (λh=>?_))
 refine Rcl 8 q ?_
 replace h:=aE h
 obtain⟨A,h⟩:=h
 exact Zq (aB dI q q (bw A) (bv A)) q (WL.s0 (cZ (off:=14) (n:=16) (cs':=(([.l E45 s0.m.t.insns, .l bu s0.m.t.handlers, .l cg s0.m.t.loops, .l bX s0.m.t.selects, .l E96 s0.m.t.lists, .l bp s0.m.t.objs, .l bU s0.m.t.inits, .n s0.m.t.excs, .l E27 s0.m.t.tasks, .l bN s0.m.t.prots, .l co s0.m.t.checks, .l E42 s0.m.slots, .l E2 s0.m.in_, .l E2 s0.m.out]:List AV)++(aY 16 (λj=> .n ((bz s0.r.r (Int.toNat x1.d) s0.r.exc) j))++([.n s0.r.pc, .n s0.r.exc, .n s0.r.defer, .l E58 s0.acts, .n s0.e]:List AV):List AV))) (λx=> .n x) s0.r.r s0.r.exc q q q (eT q) s2 q q A q) (Zw q) q (St q (Rlx 2 q (En4 h))))
 refine Rcc 6 q (Ci h q (λh=>?_) (λh=>?_))
 refine Rcl 7 q (Zq (aa p58 z58 q q) q (Al z58 q (sS Z6 s58 Z2 (St q (Rlc 2 q (Jn1 (λ_=> [(2, .pt 0 0),(4, .pt 1 0),(6, .pt 2 0)]) (λB=> [.row 123 (([.l E45 s0.m.t.insns, .l bu s0.m.t.handlers, .l cg s0.m.t.loops, .l bX s0.m.t.selects, .l E96 s0.m.t.lists, .l bp s0.m.t.objs, .l bU s0.m.t.inits, .n s0.m.t.excs, .l E27 s0.m.t.tasks, .l bN s0.m.t.prots, .l co s0.m.t.checks, .l E42 s0.m.slots, .l E2 s0.m.in_, .l E2 s0.m.out]:List AV)++(aY 16 (λj=> .n (s0.r.r j))++([.n s0.r.pc, .n s0.r.exc, .n s0.r.defer, .l E58 s0.acts, .n s0.e]:List AV):List AV)), .row 123 [sN,sN,sN,sN,sN,sN,sN, .n 0,sN,sN,sN,sN,sN,sN, .n 0, .n 0, .n 0, .n 0, .n 0, .n 0, .n 0, .n 0, .n 0, .n 0, .n 0, .n 0, .n 0, .n 0, .n 0, .n 0, .n 0, .n 0, .n 0,sN, .n 0], .row 58 [.n 0, .n 0, .d (D.i .u8 (IntKind.u8.wrap x1.n)), .n B, .n 0, .n 0]]) h (λ_ h=>?_) (λB h=>?_)))))))
 refine Rcc 7 q (Ci h q (λh=>?_) (λh=>?_))
 exact Rcl 5 q (sS Z6 s2 Z2 (St q (Rlx 1 q (En1 h))))
 exact Rcx 1 q (En1 h)
 refine Rcl 2 q (WL.s ((NewOs.b (ae l50 z58 q dC dC q q q dC)).does) (Zw q) q q (Rl 1 q (WL.s0 (dG q q q (eS q) s50 q) (Zw q) q (St q (Rlx 2 q ?_)))))
 exact WE.freezeX [86] [(0,33)] 3 _ q (am eE [(Act.mk 0 0 (IntKind.u8.wrap x1.n) B 0 0)]) ⟨q,Zt⟩ ⟨_,_,q,q,Zt⟩ (WE.drop 2 (env':=[(2, .pt 0 0),(4, .pt 1 0)]) Sb q q (Nat.zero_le _) (En4 h))
 refine Rcc 6 q (Ci h q (λh=>?_) (λh=>?_))
 refine Rcl 3 q (Zq (aa p58 z58 q q) q (WL.s ((NewOs.b (ae l50 z58 q dC dC q q q dC)).does) (Zw q) q q (Rl 1 q (WL.s0 (dG q q q (eS q) s50 q) (Zw q) q (St q (Rll 5 q (WL.nil_os 7 2 1 q (Rll 8 q ?_))))))))
 replace h:=aE h
 obtain⟨I,h⟩:=h
 refine WL.s (dz E2 [] s0.m.out l42 z2 q dC q q q q (dc Zl dJ (λ_=>q)) (λ_=>q) (λ_=>q) I) (Zw q) q q (Rll 6 q (WL.s ((NewOs.b (ae l42 z2 q dC dC q q q dC)).does) (Zw q) q q ?_))
 replace h:=aE h
 obtain⟨J,h⟩:=h
 refine WL.s (dz E2 ([]++s0.m.out) [(s0.r.r (Int.toNat x1.a))] l42 z2 q dC q q q q (Src.own q) (λ_=>q) (λ_=>q) J) (Zw q) q q (Rl 2 q (WL.s0 (dG q q q (eS q) s42 q) (Zw q) q (St q (Rlx 2 q ?_))))
 refine WE.freezeX [102] [(0,13)] 3 _ q (am dJ _) ⟨q,Zt⟩ ⟨_,_,q,q,Zt⟩ ?_
 exact WE.freezeX [92] [(0,33)] 2 _ q (am eE [(Act.mk 0 0 1 (s0.r.r (Int.toNat x1.a)) 0 0)]) ⟨q,Zt⟩ ⟨_,_,q,q,Zt⟩ (WE.drop 2 (env':=[(2, .pt 0 0),(4, .pt 1 0)]) Sb q q (Nat.zero_le _) (En4 h))
 refine Jn1 (λF=> [(2, .pt 0 0),(3, .d (.pc (R45 x1))),(4, .pt 1 0),(5, .n (s0.r.r (Int.toNat x1.a))),(105, .d (D.b F))]) (λ_=> [.row 123 (([.l E45 s0.m.t.insns, .l bu s0.m.t.handlers, .l cg s0.m.t.loops, .l bX s0.m.t.selects, .l E96 s0.m.t.lists, .l bp s0.m.t.objs, .l bU s0.m.t.inits, .n s0.m.t.excs, .l E27 s0.m.t.tasks, .l bN s0.m.t.prots, .l co s0.m.t.checks, .l E42 s0.m.slots, .l E2 s0.m.in_, .l E2 s0.m.out]:List AV)++(aY 16 (λj=> .n (s0.r.r j))++([.n s0.r.pc, .n s0.r.exc, .n s0.r.defer, .l E58 s0.acts, .n s0.e]:List AV):List AV)), .row 123 [sN,sN,sN,sN,sN,sN,sN, .n 0,sN,sN,sN,sN,sN,sN, .n 0, .n 0, .n 0, .n 0, .n 0, .n 0, .n 0, .n 0, .n 0, .n 0, .n 0, .n 0, .n 0, .n 0, .n 0, .n 0, .n 0, .n 0, .n 0,sN, .n 0]]) h (λ_ h=>?_) (λF h=>?_)
 refine Rcc 6 q (Ci h q (λh=>?_) (λh=>?_))
 exact Rcx 1 q (En1 h)
 exact Rcx 4 q (En1 h)
 refine Ci h q (λh=>?_) (λh=>?_)
 refine Jn1 (λ_=> [(2, .pt 0 0),(4, .pt 1 0)]) (λG=> [.row 123 (([.l E45 s0.m.t.insns, .l bu s0.m.t.handlers, .l cg s0.m.t.loops, .l bX s0.m.t.selects, .l E96 s0.m.t.lists, .l bp s0.m.t.objs, .l bU s0.m.t.inits, .n s0.m.t.excs, .l E27 s0.m.t.tasks, .l bN s0.m.t.prots, .l co s0.m.t.checks, .l E42 s0.m.slots, .l E2 s0.m.in_, .l E2 s0.m.out]:List AV)++(aY 16 (λj=> .n (s0.r.r j))++([.n s0.r.pc, .n s0.r.exc, .n G, .l E58 s0.acts, .n s0.e]:List AV):List AV)), .row 123 [sN,sN,sN,sN,sN,sN,sN, .n 0,sN,sN,sN,sN,sN,sN, .n 0, .n 0, .n 0, .n 0, .n 0, .n 0, .n 0, .n 0, .n 0, .n 0, .n 0, .n 0, .n 0, .n 0, .n 0, .n 0, .n 0, .n 0, .n 0,sN, .n 0]]) h (λ_ h=>?_) (λG h=>?_)
 refine Rcc 7 q (Ci h q (λh=>?_) (λh=>?_))
 exact Rcl 7 q (sS Z6 s3 Z2 (St q (Rlx 1 q (En1 h))))
 exact Rcl 7 q (sS Z6 s3 Z2 (St q (Rlx 1 q (En1 h))))
 refine Rcl 7 q ?_
 refine Og 5 127 132 (λ_=>Rn 5 5) (Rn 5 5) ?_
 refine Rlc 2 q (Ci h q (λh=>?_) (λh=>?_))
 refine Rcl 4 q (wF Z4 (f96_c _) ⟨(aj (Zs _)),Zt⟩ Z3 (sS Z6 cM Z2 (St q (Rlx 5 q ?_))))
 obtain rfl:=Oi h
 exact ao (rs1 q (bc q q gq cM q)) (aj (Zs _))
 exact Rcx 2 q (En4 h)
 refine Rcc 1 q (an kR kR (Rq 2 q ?_))
 obtain⟨M,K,h⟩:=ac h
 refine WQ.q (YieldsQ.fn q q q q q (f99_c _ K) Lw) (Zw q) q q (Rq 5 q ?_)
 replace h:=aE h
 obtain⟨C,h⟩:=h
 refine WQ.qn (aB dI q q (bw C) (bv C)) q (WQ.qn (cv (off:=14) (n:=16) (λj=> .n (s0.r.r j)) q q a2 q C) q ?_)
 obtain⟨H,L,h⟩:=ac h
 refine WQ.q (YieldsQ.fn q q q q q (f98_c _ _ _ L) Lw) (Zw q) q q (Rq 5 q (WQ.nil (Rxc 8 q (Ci h q (λh=>?_) (λh=>?_)))))
 refine Rcl 4 q (wF Z4 (f96_c _) ⟨(aj (Zs _)),Zt⟩ Z3 (sS Z6 cM Z2 (St q (Rlx 6 q ?_))))
 obtain rfl:=Oi h
 exact ao (rs1 q (bc q q gq cM q)) (aj (Zs _))
 refine Rcl 8 q ?_
 replace h:=aE h
 obtain⟨E,h⟩:=h
 exact Zq (aB dI q q (bw E) (bv E)) q (WL.s0 (cZ (off:=14) (n:=16) (cs':=(([.l E45 s0.m.t.insns, .l bu s0.m.t.handlers, .l cg s0.m.t.loops, .l bX s0.m.t.selects, .l E96 s0.m.t.lists, .l bp s0.m.t.objs, .l bU s0.m.t.inits, .n s0.m.t.excs, .l E27 s0.m.t.tasks, .l bN s0.m.t.prots, .l co s0.m.t.checks, .l E42 s0.m.slots, .l E2 s0.m.in_, .l E2 s0.m.out]:List AV)++(aY 16 (λj=> .n ((bz s0.r.r (Int.toNat x1.d) H.1) j))++([.n s0.r.pc, .n s0.r.exc, .n s0.r.defer, .l E58 s0.acts, .n s0.e]:List AV):List AV))) (λx=> .n x) s0.r.r H.1 q q q (eT q) s2 q q E q) (Zw q) q (St q (Rlx 2 q (En4 h))))
 refine Rcl 3 q (wF Z4 (f97_c (aw.mk (Mem.mk s0.m.t s0.m.slots s0.m.in_ f) (aI.mk g s0.r.pc s0.r.exc k) p s0.e)) ⟨(aj (Zs _)),Zt⟩ Z3 (sS Z6 cM Z2 (St q (Rlx 3 q ?_))))
 obtain rfl:=Oi h
 exact ao (rs1 q (bc q q gq cM q)) (aj (Zs _))

theorem f17_c(m0:Mem)(r1:aI){r:Mem×aI×(List Act)×Int}(h:f17 m0 r1=some r):Pu prog 17 [.ag (R64 m0), .ag (R41 r1)] (.tu [.ag (R64 r.1), .ag (R41 r.2.1), .sl (List.map E58 r.2.2.1), .i .i64 r.2.2.2]):=by
 unfold f17 at h
 refine fI func17 λ_ _=>?_
 refine Rcl 2 q (Bd q q (Zs _) q (Bd q q (Zs _) q (Al z64 q (Al z41 q (Rll 10 q (wF Z4 (f31_c _ _) Lw Z3 (Rlc 3 q (Ci h q (λh=>?_) (λh=>?_)))))))))
 refine Rcl 3 q (Zq (aa p41 z41 q q) q (sS Z6 s64 Z2 (St q (sS Z6 s41 Z2 (St q (Rlx 6 q ?_))))))
 obtain rfl:=Oi h
 exact ao (rs4 q (bc q q a64 s64 q) (bc q q a41 s41 q) (ay q) (ay q)) (aV ⟨(aj (Zs _)),(aj (Zs _)),Le.nil,Zl,Zt⟩)
 refine Rcl 9 q (Ix h e23 dg q Zl q q λc _ h=>(Rl 1 q (Al z45 q (sS Z6 s45 Z2 (St q (Rll 7 q (wF Z4 (f50_c _) Lw Z3 (Rlc 3 q (Ci h q (λh=>?_) (λh=>?_))))))))))
 refine Rcl 3 q (Zq (aa p41 z41 q q) q (sS Z6 s64 Z2 (St q (sS Z6 s41 Z2 (St q (Rlx 6 q ?_))))))
 obtain rfl:=Oi h
 exact ao (rs4 q (bc q q a64 s64 q) (bc q q a41 s41 q) (ay q) (ay q)) (aV ⟨(aj (Zs _)),(aj (Zs _)),Le.nil,Zl,Zt⟩)
 refine Rcl 6 q (Zq (aa p123 mW q q) q (Al mW q (sS Z6 cM Z2 (St q (Rlc 2 q (Jn20 (λ_ _ _ _ _ _ _ _ _ _ _ _ _ _ _ _ _ _ _ _=> [(2, .d (.pc (R64 m0))),(4, .pt 0 0),(5, .pt 1 0),(9, .pt 3 0)]) (λe f g k p w x y A B C E F G H I J K L M=> [.row 64 [sN,sN,sN,sN,sN,sN,sN, .n 0,sN,sN,sN,sN,sN,sN], .row 41 n19, .row 45 [.d (D.i .u8 c.op), .n c.d, .n c.a, .n c.b, .n c.n, .n c.m, .n c.to], .row 123 (([.l E45 e, .l bu f, .l cg g, .l bX k, .l E96 p, .l bp w, .l bU x, .n y, .l E27 A, .l bN B, .l co C, .l E42 E, .l E2 F, .l E2 G]:List AV)++(aY 16 (λj=> .n (H j))++([.n I, .n J, .n K, .l E58 L, .n M]:List AV):List AV))]) h (λ_ h=>?_) (λe f g k p w x y A B C E F G H I J K L M h=>?_)))))))
 refine Rcc 7 q (Jn1 (λN=> [(2, .d (.pc (R64 m0))),(4, .pt 0 0),(5, .pt 1 0),(8, .pt 2 0),(9, .pt 3 0),(34, .d (D.i .u8 c.op)),(38, .d (D.b N))]) (λ_=> [.row 64 [sN,sN,sN,sN,sN,sN,sN, .n 0,sN,sN,sN,sN,sN,sN], .row 41 n19, .row 45 [.d (D.i .u8 c.op), .n c.d, .n c.a, .n c.b, .n c.n, .n c.m, .n c.to], .row 123 (([.l E45 m0.t.insns, .l bu m0.t.handlers, .l cg m0.t.loops, .l bX m0.t.selects, .l E96 m0.t.lists, .l bp m0.t.objs, .l bU m0.t.inits, .n m0.t.excs, .l E27 m0.t.tasks, .l bN m0.t.prots, .l co m0.t.checks, .l E42 m0.slots, .l E2 m0.in_, .l E2 m0.out]:List AV)++(aY 16 (λj=> .n (r1.r j))++([.n r1.pc, .n r1.exc, .n r1.defer,sN, .n 0]:List AV):List AV))]) h (λ_ h=>?_) (λN h=>?_))
 refine Rcc 6 q (Ci h q (λh=>?_) (λh=>?_))
 exact Rcx 1 q (En1 h)
 refine Rcc 6 q (Ci h q (λh=>?_) (λh=>?_))
 exact Rcx 1 q (En1 h)
 refine Rcc 6 q (Ci h q (λh=>?_) (λh=>?_))
 exact Rcx 1 q (En1 h)
 refine Rcc 6 q (Ci h q (λh=>?_) (λh=>?_))
 exact Rcx 1 q (En1 h)
 refine Rcc 6 q (Ci h q (λh=>?_) (λh=>?_))
 exact Rcx 1 q (En1 h)
 exact Rcx 4 q (En1 h)
 refine Ci h q (λh=>?_) (λh=>?_)
 refine Rcl 3 q ?_
 obtain⟨U,Q,h⟩:=ac h
 exact WL.fn q q q q (f51_c _ _ Q) ⟨(aj ⟨Zl,Zl,Zl,Zl,Zl,Zl,Zl,Zl,Zl,Zl,Zl,Zl,Zl,Zl,Zl,Zl,Zl,Zl,Zl,Zl,Zl,Zl,Zl,Zl,Zl,Zl,Zl,Zl,Zl,Zl,Zl,Zl,Zl,Le.nil,Zl,Zt⟩),(aj (Zs _)),Zt⟩ (Zw q) q q (sS Z6 cM Z2 (St q (Rlx 2 q (cQ ⟨_,_,_,_,_,_,_,_,_,_,_,_,_,_,_,_,_,_,_,_,h,Sb,Tv⟩))))
 refine Jn1 (λO=> [(2, .d (.pc (R64 m0))),(4, .pt 0 0),(5, .pt 1 0),(8, .pt 2 0),(9, .pt 3 0),(34, .d (D.i .u8 c.op)),(48, .d (D.b O))]) (λ_=> [.row 64 [sN,sN,sN,sN,sN,sN,sN, .n 0,sN,sN,sN,sN,sN,sN], .row 41 n19, .row 45 [.d (D.i .u8 c.op), .n c.d, .n c.a, .n c.b, .n c.n, .n c.m, .n c.to], .row 123 (([.l E45 m0.t.insns, .l bu m0.t.handlers, .l cg m0.t.loops, .l bX m0.t.selects, .l E96 m0.t.lists, .l bp m0.t.objs, .l bU m0.t.inits, .n m0.t.excs, .l E27 m0.t.tasks, .l bN m0.t.prots, .l co m0.t.checks, .l E42 m0.slots, .l E2 m0.in_, .l E2 m0.out]:List AV)++(aY 16 (λj=> .n (r1.r j))++([.n r1.pc, .n r1.exc, .n r1.defer,sN, .n 0]:List AV):List AV))]) h (λ_ h=>?_) (λO h=>?_)
 refine Rcc 6 q (Ci h q (λh=>?_) (λh=>?_))
 exact Rcx 1 q (En1 h)
 refine Rcc 6 q (Ci h q (λh=>?_) (λh=>?_))
 exact Rcx 1 q (En1 h)
 refine Rcc 6 q (Ci h q (λh=>?_) (λh=>?_))
 exact Rcx 1 q (En1 h)
 exact Rcx 4 q (En1 h)
 refine Ci h q (λh=>?_) (λh=>?_)
 refine Rcl 3 q ?_
 obtain⟨V,R,h⟩:=ac h
 exact WL.fn q q q q (f52_c _ _ R) ⟨(aj ⟨Zl,Zl,Zl,Zl,Zl,Zl,Zl,Zl,Zl,Zl,Zl,Zl,Zl,Zl,Zl,Zl,Zl,Zl,Zl,Zl,Zl,Zl,Zl,Zl,Zl,Zl,Zl,Zl,Zl,Zl,Zl,Zl,Zl,Le.nil,Zl,Zt⟩),(aj (Zs _)),Zt⟩ (Zw q) q q (sS Z6 cM Z2 (St q (Rlx 2 q (cQ ⟨_,_,_,_,_,_,_,_,_,_,_,_,_,_,_,_,_,_,_,_,h,Sb,Tv⟩))))
 refine Jn1 (λP=> [(2, .d (.pc (R64 m0))),(4, .pt 0 0),(5, .pt 1 0),(8, .pt 2 0),(9, .pt 3 0),(56, .d (D.b P))]) (λ_=> [.row 64 [sN,sN,sN,sN,sN,sN,sN, .n 0,sN,sN,sN,sN,sN,sN], .row 41 n19, .row 45 [.d (D.i .u8 c.op), .n c.d, .n c.a, .n c.b, .n c.n, .n c.m, .n c.to], .row 123 (([.l E45 m0.t.insns, .l bu m0.t.handlers, .l cg m0.t.loops, .l bX m0.t.selects, .l E96 m0.t.lists, .l bp m0.t.objs, .l bU m0.t.inits, .n m0.t.excs, .l E27 m0.t.tasks, .l bN m0.t.prots, .l co m0.t.checks, .l E42 m0.slots, .l E2 m0.in_, .l E2 m0.out]:List AV)++(aY 16 (λj=> .n (r1.r j))++([.n r1.pc, .n r1.exc, .n r1.defer,sN, .n 0]:List AV):List AV))]) h (λ_ h=>?_) (λP h=>?_)
 refine Rcc 6 q (Ci h q (λh=>?_) (λh=>?_))
 exact Rcx 1 q (En1 h)
 refine Rcc 6 q (Ci h q (λh=>?_) (λh=>?_))
 exact Rcx 1 q (En1 h)
 refine Rcc 6 q (Ci h q (λh=>?_) (λh=>?_))
 exact Rcx 1 q (En1 h)
 refine Rcc 6 q (Ci h q (λh=>?_) (λh=>?_))
 exact Rcx 1 q (En1 h)
 refine Rcc 6 q (Ci h q (λh=>?_) (λh=>?_))
 exact Rcx 1 q (En1 h)
 exact Rcx 4 q (En1 h)
 refine Ci h q (λh=>?_) (λh=>?_)
 refine Rcl 3 q ?_
 obtain⟨W,S,h⟩:=ac h
 exact WL.fn q q q q (f53_c _ _ S) ⟨(aj ⟨Zl,Zl,Zl,Zl,Zl,Zl,Zl,Zl,Zl,Zl,Zl,Zl,Zl,Zl,Zl,Zl,Zl,Zl,Zl,Zl,Zl,Zl,Zl,Zl,Zl,Zl,Zl,Zl,Zl,Zl,Zl,Zl,Zl,Le.nil,Zl,Zt⟩),(aj (Zs _)),Zt⟩ (Zw q) q q (sS Z6 cM Z2 (St q (Rlx 2 q (cQ ⟨_,_,_,_,_,_,_,_,_,_,_,_,_,_,_,_,_,_,_,_,h,Sb,Tv⟩))))
 refine Rcl 3 q ?_
 obtain⟨X,T,h⟩:=ac h
 exact WL.fn q q q q (f54_c _ _ T) ⟨(aj ⟨Zl,Zl,Zl,Zl,Zl,Zl,Zl,Zl,Zl,Zl,Zl,Zl,Zl,Zl,Zl,Zl,Zl,Zl,Zl,Zl,Zl,Zl,Zl,Zl,Zl,Zl,Zl,Zl,Zl,Zl,Zl,Zl,Zl,Le.nil,Zl,Zt⟩),(aj (Zs _)),Zt⟩ (Zw q) q q (sS Z6 cM Z2 (St q (Rlx 2 q (cQ ⟨_,_,_,_,_,_,_,_,_,_,_,_,_,_,_,_,_,_,_,_,h,Sb,Tv⟩))))
 refine Rcc 8 q (Ci h q (λh=>?_) (λh=>?_))
 refine Rcc 1 q ?_
 apply RT [_,_,_,_, .u, .u,_,_] [4] [[.row 64 [.l E45 m0.t.insns, .l bu m0.t.handlers, .l cg m0.t.loops, .l bX m0.t.selects, .l E96 m0.t.lists, .l bp m0.t.objs, .l bU m0.t.inits, .n m0.t.excs, .l E27 m0.t.tasks, .l bN m0.t.prots, .l co m0.t.checks, .l E42 m0.slots, .l E2 m0.in_, .l E2 m0.out], .row 41 n19, .row 45 [.d (D.i .u8 c.op), .n c.d, .n c.a, .n c.b, .n c.n, .n c.m, .n c.to], .row 123 (([.l E45 e, .l bu f, .l cg g, .l bX k, .l E96 p, .l bp w, .l bU x, .n y, .l E27 A, .l bN B, .l co C, .l E42 E, .l E2 F, .l E2 G]:List AV)++(aY 16 (λj=> .n (H j))++([.n I, .n J, .n K, .l E58 L, .n M]:List AV):List AV))]] [p01 2,u00,u01 9,u10 2,p11 0 4,q11 1 5 1,q00 1,q10 3 1] kR kR q q
 refine Y1 ?_
 refine⟨⟨λ_=>Zq (aa p41 z41 q q) q (Zd q q q),λ_=>Zq (aa p41 z41 q q) q (Zd q q q),Zt⟩,?_⟩
 refine X2b ?_
 refine zo (λ_=>sS Z6 s64 Z2 (aT q q)) ?_
 refine zo (λ_=>sS Z6 s41 Z2 (aT q q)) ?_
 exact Y2 Zt
 refine Rxx 3 q ?_
 obtain rfl:=Oi h
 exact ao (rs4 q (bc q q a64 s64 q) (bc q q a41 s41 q) (ay q) (ay q)) (aV ⟨(aj (Zs _)),(aj (Zs _)),Le.nil,Zl,Zt⟩)
 refine Rcc 3 q ?_
 apply RT [_,_,_,_,_,_, .u, .u,_,_] [6,7] [[.row 64 [.l E45 e, .l bu f, .l cg g, .l bX k, .l E96 p, .l bp w, .l bU x, .n y, .l E27 A, .l bN B, .l co C, .l E42 E, .l E2 F, .l E2 G], .row 41 n19, .row 45 [.d (D.i .u8 c.op), .n c.d, .n c.a, .n c.b, .n c.n, .n c.m, .n c.to], .row 123 (([.l E45 e, .l bu f, .l cg g, .l bX k, .l E96 p, .l bp w, .l bU x, .n y, .l E27 A, .l bN B, .l co C, .l E42 E, .l E2 F, .l E2 G]:List AV)++(aY 16 (λj=> .n (H j))++([.n I, .n J, .n K, .l E58 L, .n M]:List AV):List AV))],[.row 64 [.l E45 e, .l bu f, .l cg g, .l bX k, .l E96 p, .l bp w, .l bU x, .n y, .l E27 A, .l bN B, .l co C, .l E42 E, .l E2 F, .l E2 G], .row 41 (rg H I J K), .row 45 [.d (D.i .u8 c.op), .n c.d, .n c.a, .n c.b, .n c.n, .n c.m, .n c.to], .row 123 (([.l E45 e, .l bu f, .l cg g, .l bX k, .l E96 p, .l bp w, .l bU x, .n y, .l E27 A, .l bN B, .l co C, .l E42 E, .l E2 F, .l E2 G]:List AV)++(aY 16 (λj=> .n (H j))++([.n I, .n J, .n K, .l E58 L, .n M]:List AV):List AV))]] [p01 9,p10 0,u01 9,u10 2,([],[9],[0,1,2]),([4],[],[0,1,2]),p11 1 4,q11 3 5 1,q10 5 2,q00 2] kR kR q q
 refine Y2 ?_
 refine X2b ?_
 refine X3b ?_
 refine zo (λ_=>sS Z6 s64 Z2 (aT q q)) ?_
 refine zo (λ_=>sS Z6 s41 Z2 (aT q q)) ?_
 exact Y2 Zt
 refine Rxx 2 q ?_
 obtain rfl:=Oi h
 exact ao (rs4 q (bc q q a64 s64 q) (bc q q a41 s41 q) (ay q) (ay q)) (aV ⟨(aj (Zs _)),(aj (Zs _)),Zl,Zl,Zt⟩)

theorem f18_c(a0:List Act)(b1:List Act){r:Bool}(h:f18 a0 b1=some r):Pu prog 18 [.sl (List.map E58 a0), .sl (List.map E58 b1)] (.b r):=by
 unfold f18 at h
 refine fI func18 λ_ _=>?_
 refine Rcl 9 q (Zq (ab E58 a0 e50 q q Zl) q (Rl 1 q (Zq (ab E58 b1 e50 q q Zl) q (Rlc 3 q (Ci h q (λh=>?_) (λh=>?_))))))
 exact Rcx 7 q (FA h)
 refine Rcc 2 q (Jn0 [] [] h (λj h=>?_) (λh=>?_))
 refine Rcc 6 q (Ln1 (λe=> [(0, .l E58 a0),(1, .l E58 b1),(5, .n e)]) (λ_=> []) (f18_l1 a0 b1 j) h (λ_ h=>by rw[f18_l1] at h;cases h) (λn e h=>?_))
 rw[f18_l1] at h
 refine Rcl 5 q (Zq (ab E58 a0 e50 q q Zl) q (Rlc 3 q (Ci h q (λh=>?_) (λh=>?_))))
 refine Rcc 5 q (an kR kR (Rq 2 q ?_))
 obtain⟨c,f,h⟩:=ac h
 refine WQ.qn (ah e50 q Zl q (af f) (av eE f) q) q (Rq 3 q ?_)
 obtain⟨d,g,h⟩:=ac h
 refine WQ.qn (ah e50 q Zl q (af g) (av eE g) q) q (Rq 1 q (WQ.qn (rI (xs:=[.int .i64 c.time, .int .i64 c.task, .int .u8 c.kind, .int .i64 c.a, .int .i64 c.b, .int .i64 c.n]) (ys:=[.int .i64 d.time, .int .i64 d.task, .int .u8 d.kind, .int .i64 d.a, .int .i64 d.b, .int .i64 d.n]) q58 q Zl q Zl q q q) q (WQ.nil (Rxc 1 q (Ci h q (λh=>?_) (λh=>?_))))))
 exact Rcx 11 q (FA h)
 exact Rcx 8 q (Fn1 h)
 exact Rcx 4 q (En0 h)
 exact Rcx 6 q (FA h)

theorem f29_c(a0:List (List Int))(b1:List (List Int)){r:Bool}(h:f29 a0 b1=some r):Pu prog 29 [.sl (List.map E42 a0), .sl (List.map E42 b1)] (.b r):=by
 unfold f29 at h
 refine fI func29 λ_ _=>?_
 refine Rcl 9 q (Zq (ab E42 a0 e62 q q Zl) q (Rl 1 q (Zq (ab E42 b1 e62 q q Zl) q (Rlc 3 q (Ci h q (λh=>?_) (λh=>?_))))))
 exact Rcx 7 q (FA h)
 refine Rcc 2 q (Jn0 [] [] h (λm h=>?_) (λh=>?_))
 refine Rcc 6 q (Ln1 (λa=> [(0, .l E42 a0),(1, .l E42 b1),(5, .n a)]) (λ_=> []) (f29_l1 a0 b1 m) h (λ_ h=>by rw[f29_l1] at h;cases h) (λn a h=>?_))
 rw[f29_l1] at h
 refine Rcl 5 q (Zq (ab E42 a0 e62 q q Zl) q (Rlc 3 q (Ci h q (λh=>?_) (λh=>?_))))
 refine Rcc 2 q (Jn0 [(0, .l E42 a0),(1, .l E42 b1),(5, .n a)] [] h (λp h=>?_) (λh=>?_))
 refine Rcc 3 q (an kR kR (Rq 2 q ?_))
 obtain⟨t,c,h⟩:=ac h
 refine WQ.qn (ah e62 q Zl q (af c) (av fN c) q) q (Rq 1 q (WQ.qn (ab E2 t e42 q q Zl) q (Rq 2 q ?_)))
 obtain⟨w,d,h⟩:=ac h
 refine WQ.qn (ah e62 q Zl q (af d) (av fN d) q) q (Rq 1 q (WQ.qn (ab E2 w e42 q q Zl) q (Rq 1 q (WQ.nil (Rxc 1 q (Ci h q (λh=>?_) (λh=>?_)))))))
 exact Rcx 12 q (FA h)
 refine Rcc 8 q (Ln1 (λe=> [(0, .l E42 a0),(1, .l E42 b1),(5, .n a),(6, .n e)]) (λ_=> []) (f29_l2 a0 b1 a p) h (λ_ h=>by rw[f29_l2] at h;cases h) (λna e h=>?_))
 rw[f29_l2] at h
 refine Rcl 6 q (Ix h e62 fN q Zl q q λx _ h=>(Rl 1 q (Zq (ab E2 x e42 q q Zl) q (Rlc 3 q (Ci h q (λh=>?_) (λh=>?_))))))
 refine Rcc 5 q (an kR kR (Rq 2 q ?_))
 obtain⟨y,f,h⟩:=ac h
 refine WQ.qn (ah e62 q Zl q (af f) (av fN f) q) q (Rq 2 q ?_)
 obtain⟨A,g,h⟩:=ac h
 refine WQ.qn (ah e42 q Zl q (af g) (av dJ g) q) q (Rq 3 q ?_)
 obtain⟨B,j,h⟩:=ac h
 refine WQ.qn (ah e62 q Zl q (af j) (av fN j) q) q (Rq 2 q ?_)
 obtain⟨C,k,h⟩:=ac h
 refine WQ.qn (ah e42 q Zl q (af k) (av dJ k) q) q (Rq 2 q (WQ.nil (Rxc 1 q (Ci h q (λh=>?_) (λh=>?_)))))
 exact Rcx 15 q (FA h)
 exact Rcx 8 q (Fn1 h)
 exact Rcx 5 q (En0 h)
 exact Rcx 5 q (Fn1 h)
 exact Rcx 4 q (En0 h)
 exact Rcx 6 q (FA h)

theorem f19_c(mI:List ap)(mH:List ak)(mO:List Obj)(mE:Int)(mN:List Int)(mS:List (List Int))(mU:List Int)(w1:Mem){vo:Nat}{vf:Nat}{vu:Nat}{r:Bool}(h:f19 mI mH mO mE mN mS mU w1=some r):Ctr prog 19 [.pt 0 0, .d (.ag (R64 w1))] (wM mI mH mO mE vo mN vu vf mS mU) (dE 4 (λr' new=>r'= .d (.b r)∧new=(wM mI mH mO mE vo mN vu vf mS mU))):=by
 unfold f19 at h
 refine cI func19 λ_ _ _ hmm=>?_
 refine Rcl 2 q (Bd q q (Zs _) q (Rlc 3 q (Jn1 (λe=> [(4, .d (D.b e))]) (λ_=>(wM mI mH mO mE vo mN vu vf mS mU)) h (λ_ h=>?_) (λe h=>?_))))
 obtain⟨x,f,h⟩:=ac h
 obtain⟨m,g,h⟩:=ac h
 rcases fT m with a|a
 replace h:=eb h a
 obtain⟨y,j,h⟩:=ac h
 obtain⟨p,k,h⟩:=ac h
 rcases fT p with c|c
 replace h:=eb h c
 obtain⟨A,t,h⟩:=ac h
 obtain⟨B,w,h⟩:=ac h
 apply RT [_,_,_,_,_,_,_,_,_,_,_,_,_,_,_,_,_,_,_,_] [] [] [p01 0,p10 0,p01 3,p10 2,p20 1 3,p10 4,p11 5 0,p20 6 5,p11 5 3,p20 8 5,p30 7 9 5,p20 5 10,p10 11,p11 12 0,p20 13 12,p11 12 3,p20 15 12,p30 14 16 12,p20 12 17,p10 18] kR kR q q
 refine Y1 ?_
 refine zo (λ_=>?_) ?_
 refine WL.wing [0,1,2,3] q q q q (f28_c _ _ _ _ _ _ _ f) Lw q dC (Re (Rg (Rf (Ro q)))) ⟨q,q,q,q,Zt⟩ Kv q (Zw q) q q (λr' new hS=>?_)
 obtain⟨rfl,rfl⟩:=hS
 refine⟨_,_,q,(Re (Rg (Rf (Ro q)))),q,Kv,?_⟩
 exact Zd q q q
 refine Y2 ?_
 refine zo (λ_=>wF Z4 (f29_c _ _ g) Lw Z3 (Zd q q q)) ?_
 refine zo (rc a) ?_
 refine Y1 ?_
 refine zo (λ_=>?_) ?_
 refine WL.wing [0,1,2,3] q q q q (f13_c _ _ _ _ _ _ _ j) Lw q dC (Re (Rg (Rf (Ro q)))) ⟨q,q,q,q,Zt⟩ Kv q (aX q q q) q q (λr' new hS=>?_)
 obtain⟨rfl,rfl⟩:=hS
 refine⟨_,_,q,(Re (Rg (Rf (Ro q)))),q,Kv,?_⟩
 exact Zd q q q
 refine Y2 ?_
 refine zo (λ_=>WL.fn q q q q (f14_c _ _ k) Lw (aX q q q) q q (Zd q q q)) ?_
 refine Y1 ?_
 refine zo (rc c) ?_
 refine Y1 ?_
 refine zo (λ_=>?_) ?_
 refine WL.wing [0,1,2,3] q q q q (f15_c _ _ _ _ _ _ _ t) Lw q dC (Re (Rg (Rf (Ro q)))) ⟨q,q,q,q,Zt⟩ Kv q (aX q q q) q q (λr' new hS=>?_)
 obtain⟨rfl,rfl⟩:=hS
 refine⟨_,_,q,(Re (Rg (Rf (Ro q)))),q,Kv,?_⟩
 exact Zd q q q
 refine Y2 ?_
 refine zo (λ_=>WL.fn q q q q (f14_c _ _ w) Lw (aX q q q) q q (Zd q q q)) ?_
 exact Y2 Zt
 exact En1 h
 replace h:=ed h c
 apply RT [_,_,_,_,_,_,_,_,_,_,_,_,_,_,_,_,_,_,_,_] [] [] [p01 0,p10 0,p01 3,p10 2,p20 1 3,p10 4,p11 5 0,p20 6 5,p11 5 3,p20 8 5,p30 7 9 5,p20 5 10,p10 11,p10 12,p10 12,p10 12,p10 12,p10 12,p20 12 17,p10 18] kR kR q q
 refine Y1 ?_
 refine zo (λ_=>?_) ?_
 refine WL.wing [0,1,2,3] q q q q (f28_c _ _ _ _ _ _ _ f) Lw q dC (Re (Rg (Rf (Ro q)))) ⟨q,q,q,q,Zt⟩ Kv q (Zw q) q q (λr' new hS=>?_)
 obtain⟨rfl,rfl⟩:=hS
 refine⟨_,_,q,(Re (Rg (Rf (Ro q)))),q,Kv,?_⟩
 exact Zd q q q
 refine Y2 ?_
 refine zo (λ_=>wF Z4 (f29_c _ _ g) Lw Z3 (Zd q q q)) ?_
 refine zo (rc a) ?_
 refine Y1 ?_
 refine zo (λ_=>?_) ?_
 refine WL.wing [0,1,2,3] q q q q (f13_c _ _ _ _ _ _ _ j) Lw q dC (Re (Rg (Rf (Ro q)))) ⟨q,q,q,q,Zt⟩ Kv q (aX q q q) q q (λr' new hS=>?_)
 obtain⟨rfl,rfl⟩:=hS
 refine⟨_,_,q,(Re (Rg (Rf (Ro q)))),q,Kv,?_⟩
 exact Zd q q q
 refine Y2 ?_
 refine zo (λ_=>WL.fn q q q q (f14_c _ _ k) Lw (aX q q q) q q (Zd q q q)) ?_
 refine Y1 ?_
 refine zo (rc c) ?_
 exact Y7 Zt
 exact En1 h
 replace h:=ed h a
 apply RT [_,_,_,_,_,_,_,_,_,_,_,_,_,_,_,_,_,_,_,_] [] [] [p01 0,p10 0,p01 3,p10 2,p20 1 3,p10 4,p10 5,p10 5,p10 5,p10 5,p10 5,p20 5 10,p10 11,p10 12,p10 12,p10 12,p10 12,p10 12,p20 12 17,p10 18] kR kR q q
 refine Y1 ?_
 refine zo (λ_=>?_) ?_
 refine WL.wing [0,1,2,3] q q q q (f28_c _ _ _ _ _ _ _ f) Lw q dC (Re (Rg (Rf (Ro q)))) ⟨q,q,q,q,Zt⟩ Kv q (Zw q) q q (λr' new hS=>?_)
 obtain⟨rfl,rfl⟩:=hS
 refine⟨_,_,q,(Re (Rg (Rf (Ro q)))),q,Kv,?_⟩
 exact Zd q q q
 refine Y2 ?_
 refine zo (λ_=>wF Z4 (f29_c _ _ g) Lw Z3 (Zd q q q)) ?_
 refine zo (rc a) ?_
 refine Y9 ?_
 exact Y5 Zt
 exact En1 h
 refine Rcx 1 q ?_
 obtain rfl:=Oi h
 exact aJ (new:=(wM mI mH mO mE vo mN vu vf mS mU)) (r0:= .d (.b e)) (rs1 q (ay q)) Zl q ⟨Zp,Zf,Zf,Zf,Zt⟩ ⟨q,q⟩

theorem f5_c(t0:ai)(p:List Int)(f:Int)(g:Int){r:Bool}(h:f5 t0 p f g=some r):Pu prog 5 [.ag (R38 t0), .sl (List.map E2 p), .i .i64 f, .i .u16 g] (.b r):=by
 unfold f5 at h
 refine fI func5 λ_ _=>?_
 refine Rcl 2 q (Bd q q (Zs _) q (Rll 7 q ?_))
 obtain⟨d3,ci,h⟩:=ac h
 refine wF Z4 (f12_c _ ci) Lw Z3 (Rl 1 q ?_)
 apply WL.or 4 (t:=20) (d:=24)
 exact q
 intro d'
 exact Rl 1 q (Zy (ab E2 p e42 q q Zl) q q q (Rl 2 q (WL.nil ⟨q,[_,_,_,_],q,q,q⟩)))
 exact Rn 4 4
 refine Rl 1 q ?_
 refine Og 3 25 28 (λ_=>Rn 3 3) (Rn 3 3) ?_
 refine Rlc 2 q (Ci h q (λh=>?_) (λh=>?_))
 refine Rcl 2 q ?_
 obtain⟨ec,cj,h⟩:=ac h
 exact WL.fn q q q q (f9_c cj) Zt (Zw q) q q (Rlx 5 q (FA h))
 refine Rcl 6 q ?_
 obtain⟨cl,ee,h⟩:=ac h
 rcases fT cl with w|w
 replace h:=eb h w
 refine eo fh (eo fh (eo fh (eo fh ?_)))
 obtain⟨e,cn,h⟩:=ac h
 refine WL.wing [0,1,2,3] q q q q (f10_c _ _ cn (vo:=0) (vf:=0) (vu:=0)) Lw q dC (Re (Re (Re (Re q)))) ⟨q,q,q,q,Zt⟩ q q (Zw q) q q (λr' new hS=>?_)
 obtain⟨rfl,rfl⟩:=hS
 refine⟨_,_,q,(Re (Rg (Rf (Ro q)))),q,Kv,?_⟩
 refine St q (Rl 5 q (Zn (Rcl 4 q ?_)))
 obtain⟨c,cp,h⟩:=ac h
 refine wF Z4 (f16_c _ _ cp) Lw Z3 (Rl 3 q (Al z64 q (sS Z6 s64 Z2 (St q (Rlc 11 q (Ci h q (λh=>?_) (λh=>?_)))))))
 exact Rcx 7 q (FA h)
 refine Rcc 9 q (Ci h q (λh=>?_) (λh=>?_))
 refine Rcl 2 q ?_
 obtain⟨ei,cx,h⟩:=ac h
 exact WL.fn q q q q (f9_c cx) Zt (Zw q) q q (Rlx 5 q (FA h))
 refine Rcl 5 q (Zq (aa p41 z41 q q) q (Rl 1 q (Zq (aa p41 z41 q q) q (Al z41 q (Al z41 q (sS Z6 s41 Z2 (St q (sS Z6 s41 Z2 (St q (Rlc 2 q ?_))))))))))
 replace h:=aD h
 obtain⟨cd,c0,h⟩:=h
 refine cR (λenv' st'=>∃(k:List (List Int)),∃(x:Nat),∃(y:List Int),∃(A:Nat),∃(B:List Int),∃(C:List ap),∃(E:List ak),∃(F:List Loop),∃(G:List bS),∃(H:List (List Int)),∃(I:List Obj),∃(J:List cF),∃(K:Int),∃(L:List ct),∃(M:List cA),∃(N:List cL),∃(O:List (List Int)),∃(P:List Int),∃(Q:List Int),∃(R:Nat→Int),∃(S:Int),∃(T:Int),∃(U:Int),∃(V:Nat→Int),∃(W:Int),∃(X:Int),∃(Y:Int),cd k y B C E F G H I J K L M N O P Q R S T U V W X Y=some r∧Sub [(9, .pt 0 0),(11, .pt 4 0)] env'∧SLe st' [.row 90 (mR e.2.1 e.2.2.1 e.2.2.2.1 e.2.2.2.2.1 1 0 B 3 A),oS 0 2 x k,fS x k,uS A y, .row 64 [.l E45 C, .l bu E, .l cg F, .l bX G, .l E96 H, .l bp I, .l bU J, .n K, .l E27 L, .l bN M, .l co N, .l E42 O, .l E2 P, .l E2 Q], .row 41 (rg R S T U), .row 41 (rg V W X Y)]) ?_ ?_
 refine Rcc 6 q ?_
 refine dh (λn env' st'=>∃(Z:Int),∃(m:List (List Int)),∃(ad:Nat),∃(ax:List Int),∃(a0:Nat),∃(a1:List Int),∃(a6:List ap),∃(a7:List ak),∃(a8:List Loop),∃(a':List bS),∃(bb:List (List Int)),∃(bk:List Obj),∃(bo:List cF),∃(bs:Int),∃(b0:List ct),∃(b1:List cA),∃(b2:List cL),∃(b3:List (List Int)),∃(b4:List Int),∃(b5:List Int),∃(b6:Nat→Int),∃(b7:Int),∃(b8:Int),∃(b9:Int),∃(b':Nat→Int),∃(ca:Int),∃(cb:Int),∃(cc:Int),f5_l1 g e cd n Z m ax a1 a6 a7 a8 a' bb bk bo bs b0 b1 b2 b3 b4 b5 b6 b7 b8 b9 b' ca cb cc=some r∧Sub [(3, .d (D.i .u16 g)),(9, .pt 0 0),(11, .pt 4 0),(13, .pt 5 0),(14, .pt 6 0),(15, .n Z)] env'∧SLe st' [.row 90 (mR e.2.1 e.2.2.1 e.2.2.2.1 e.2.2.2.2.1 1 0 a1 3 a0),oS 0 2 ad m,fS ad m,uS a0 ax, .row 64 [.l E45 a6, .l bu a7, .l cg a8, .l bX a', .l E96 bb, .l bp bk, .l bU bo, .n bs, .l E27 b0, .l bN b1, .l co b2, .l E42 b3, .l E2 b4, .l E2 b5], .row 41 (rg b6 b7 b8 b9), .row 41 (rg b' ca cb cc)]) (λn=>n) 9223372036854775808 ⟨0,e.2.2.2.2.2.2.1,_,e.2.2.2.2.2.2.2,_,e.2.2.2.2.2.1,c.1.t.insns,c.1.t.handlers,c.1.t.loops,c.1.t.selects,c.1.t.lists,c.1.t.objs,c.1.t.inits,c.1.t.excs,c.1.t.tasks,c.1.t.prots,c.1.t.checks,c.1.slots,c.1.in_,c.1.out,(λj=>0),f,0,0,(λj=>0),f,0,0,h,(Sx q (Sx q (Sx q (Sx q (Sx q (Sx q (Sub.nil _))))))),⟨Zp,Zf,Zf,Zf,Zp,Zp,Zp,Zt⟩⟩ ?_
 rintro n c1 st1 ⟨Z,m,ad,ax,a0,a1,a6,a7,a8,a',bb,bk,bo,bs,b0,b1,b2,b3,b4,b5,b6,b7,b8,b9,b',ca,cb,cc,h,hsub,hst⟩
 rcases n with _|n
 rw[f5_l1] at h;cases h
 rw[f5_l1] at h
 refine WC.sub hsub (WC.weak hst ?_)
 refine Rcc 9 q (Ci h q (λh=>?_) (λh=>?_))
 refine Rcl 14 q ?_
 obtain⟨c2,c3,h⟩:=ac h
 refine WL.wing [0,1,2,3] q q q q (f11_c _ _ _ _ _ _ _ _ c3) ⟨Zl,(aj (Zs _)),Zt⟩ q dC (Re (Rg (Rf (Ro q)))) ⟨q,q,q,q,Zt⟩ Kv q (Zw q) q q (λr' new hS=>?_)
 obtain⟨i2_220,i3_220,rfl,rfl⟩:=hS
 refine⟨_,_,q,(Re (Rg (Rf (Ro q)))),q,Kv,?_⟩
 refine St q (Rl 4 q (sS Z6 s41 Z2 (St q (Rll 8 q ?_))))
 obtain⟨c4,c5,h⟩:=ac h
 refine wF Z4 (f17_c _ _ c5) ⟨(aj (Zs _)),(aj (Zs _)),Zt⟩ Z3 (Rl 5 q (sS Z6 s64 Z2 (St q (sS Z6 s41 Z2 (St q (Rll 9 q (Zq (rI (xs:=(V41 c2.1)) (ys:=(V41 c4.2.1)) q41 q (aj (Zs _)) q (aj (Zs _)) q q q) q (Rl 1 q ?_))))))))
 obtain⟨c6,c7,h⟩:=ac h
 refine Gg 5 76 81 c6 c7 (λh=>?_) (λh=>?_) ?_
 refine Rl 5 q ?_
 obtain rfl:=Oi h
 exact Nn 5
 refine Rl 2 q ?_
 obtain⟨el,c',h⟩:=ac h
 refine WL.fn q q q q (f18_c _ _ c') Lw (aX q q q) q q (Rl 2 q ?_)
 obtain rfl:=Oi h
 exact Nn 5
 refine Rl 1 q ?_
 refine Og 4 82 86 (λ_=>Rn 4 4) (Rn 4 4) ?_
 refine Rlc 2 q (Ci h q (λh=>?_) (λh=>?_))
 exact Rcx 12 q (FA h)
 refine Rcc 8 q (Ci h q (λh=>?_) (λh=>?_))
 exact Rcx 5 q (cQ ⟨_,_,_,_,_,_,_,_,_,_,_,_,_,_,_,_,_,_,_,_,_,_,_,_,_,_,_,h,Sb,Tv⟩)
 exact Rcx 8 q (cQ ⟨_,⟨_,_,_,_,_,_,_,_,_,_,_,_,_,_,_,_,_,_,_,_,_,_,_,_,_,_,_,_,h,Sb,Tv⟩,Nat.lt_succ_self _⟩)
 exact Rcx 4 q (cQ ⟨_,_,_,_,_,_,_,_,_,_,_,_,_,_,_,_,_,_,_,_,_,_,_,_,_,_,_,h,Sb,Tv⟩)
 rintro c1 st1 ⟨k,x,y,A,B,C,E,F,G,H,I,J,K,L,M,N,O,P,Q,R,S,T,U,V,W,X,Y,h,hsub,hst⟩
 subst c0
 dsimp only at h
 refine WC.sub hsub (WC.weak hst ?_)
 refine Rcl 4 q ?_
 obtain⟨em,dd,h⟩:=ac h
 refine WL.wing [0,1,2,3] q q q q (f19_c _ _ _ _ _ _ _ _ dd) ⟨Zl,(aj (Zs _)),Zt⟩ q dC (Re (Rg (Rf (Ro q)))) ⟨q,q,q,q,Zt⟩ Kv q (Zw q) q q (λr' new hS=>?_)
 obtain⟨rfl,rfl⟩:=hS
 refine⟨_,_,q,(Re (Rg (Rf (Ro q)))),q,Kv,?_⟩
 refine St q (Rl 1 q ?_)
 obtain⟨df,ds,h⟩:=ac h
 refine Gg 2 92 94 df ds (λh=>?_) (λh=>?_) ?_
 obtain⟨en,dA,h⟩:=ac h
 refine WL.fn q q q q (f9_c dA) Zt (aX q q q) q q (Rl 1 q ?_)
 obtain rfl:=Oi h
 exact Nn 2
 refine Rl 2 q ?_
 obtain rfl:=Oi h
 exact Nn 2
 exact Rlx 4 q (FA h)
 replace h:=ed h w
 obtain⟨er,dS,h⟩:=ac h
 refine wF Z4 (f10b_c _ _ dS) Lw Z3 (Rl 5 q (Zn (Rcl 4 q ?_)))
 obtain⟨a,d0,h⟩:=ac h
 refine wF Z4 (f16_c _ _ d0) Lw Z3 (Rl 3 q (Al z64 q (sS Z6 s64 Z2 (St q (Rlc 11 q (Ci h q (λh=>?_) (λh=>?_)))))))
 exact Rcx 7 q (FA h)
 refine Rcc 9 q (Ci h q (λh=>?_) (λh=>?_))
 refine Rcl 2 q ?_
 obtain⟨es,d1,h⟩:=ac h
 exact WL.fn q q q q (f9_c d1) Zt (Zw q) q q (Rlx 5 q (FA h))
 refine Rcl 5 q (Zq (aa p41 z41 q q) q (Rl 1 q (Zq (aa p41 z41 q q) q (Al z41 q (Al z41 q (sS Z6 s41 Z2 (St q (sS Z6 s41 Z2 (St q (Rlc 2 q (Jn0 [(9, .d (.v (.pointer none))),(11, .pt 0 0)] [.row 64 [.l E45 a.1.t.insns, .l bu a.1.t.handlers, .l cg a.1.t.loops, .l bX a.1.t.selects, .l E96 a.1.t.lists, .l bp a.1.t.objs, .l bU a.1.t.inits, .n a.1.t.excs, .l E27 a.1.t.tasks, .l bN a.1.t.prots, .l co a.1.t.checks, .l E42 a.1.slots, .l E2 a.1.in_, .l E2 a.1.out], .row 41 [.n 0, .n 0, .n 0, .n 0, .n 0, .n 0, .n 0, .n 0, .n 0, .n 0, .n 0, .n 0, .n 0, .n 0, .n 0, .n 0, .n f, .n 0, .n 0], .row 41 [.n 0, .n 0, .n 0, .n 0, .n 0, .n 0, .n 0, .n 0, .n 0, .n 0, .n 0, .n 0, .n 0, .n 0, .n 0, .n 0, .n f, .n 0, .n 0]] h (λd2 h=>?_) (λh=>?_))))))))))))
 refine Rcc 6 q (Ln0 [(3, .d (D.i .u16 g)),(9, .d (.v (.pointer none))),(11, .pt 0 0),(13, .pt 1 0),(14, .pt 2 0),(15, .n 0)] [.row 64 [.l E45 a.1.t.insns, .l bu a.1.t.handlers, .l cg a.1.t.loops, .l bX a.1.t.selects, .l E96 a.1.t.lists, .l bp a.1.t.objs, .l bU a.1.t.inits, .n a.1.t.excs, .l E27 a.1.t.tasks, .l bN a.1.t.prots, .l co a.1.t.checks, .l E42 a.1.slots, .l E2 a.1.in_, .l E2 a.1.out], .row 41 [.n 0, .n 0, .n 0, .n 0, .n 0, .n 0, .n 0, .n 0, .n 0, .n 0, .n 0, .n 0, .n 0, .n 0, .n 0, .n 0, .n f, .n 0, .n 0], .row 41 [.n 0, .n 0, .n 0, .n 0, .n 0, .n 0, .n 0, .n 0, .n 0, .n 0, .n 0, .n 0, .n 0, .n 0, .n 0, .n 0, .n f, .n 0, .n 0]] (f5_l2 g d2) h (λh=>by rw[f5_l2] at h;cases h) (λn h=>?_))
 rw[f5_l2] at h
 refine Rcc 9 q (Ci h q (λh=>?_) (λh=>?_))
 refine Rcc 11 q ?_
 cases h
 exact Rcx 4 q (En0 h)
 refine Rcc 1 q ?_
 cases h

end Go.Proofs.YtkbahggepncliaaGreatDoor
