/- The walks of functions. -/
import Derived.Test.YtejcfgjpdocaoaaGreatDoorX
import Derived.Test.YtejcfgjpdocaoaaGreatDoorWa
set_option linter.unusedVariables false
set_option linter.unusedSimpArgs false
set_option linter.unusedSectionVars false
set_option linter.unnecessarySimpa false
set_option maxHeartbeats 4000000
set_option maxRecDepth 100000
namespace Go.Proofs.YtejcfgjpdocaoaaGreatDoor
open Go.Proofs.Tryz
open Go Go.Sk

theorem f145_c{l:lI}{t1:af}{verl:Nat}{r:lI}(h:f145 l t1=some r):Ctr prog 145 [.pt 0 0, .d (.ag (R33 t1))] [.row 219 [.os 1 verl], .os 5 1 verl (eM E5 l)] (ga 2 (.tu []) (λiv=> [.row 219 [.os 1 iv], .os 5 1 iv (eM E5 r)])):=by
 unfold f145 at h
 refine cI func145 λ_ _ _ hmm=>?_
 refine Rcl 2 q (Bd q q (Zs _) q (Rll 7 q (Zq (aa E67 t1.objs e27 q q Zl) q (WL.s ((NewOs.b (ae l54 z3 q dC dC q q q dC)).does) (Zw q) q q ?_))))
 refine WL.freezeX [17] [] 2 _ q (ah bd [(List.length t1.objs:Int)]) ⟨q,Zt⟩ Zt ?_
 obtain⟨b6,b7,h⟩:=ac h
 refine aw [0,1] q q q q (f176_c b7) Lw q dC (Re (Ro q)) ⟨q,q,Zt⟩ Kv q (λ_=>Kv) (λ_=>(Re (Ro q))) (Zw q) q q (λes=>?_)
 refine Rlc 2 q ?_
 replace h:=az h
 obtain⟨al,b8,h⟩:=h
 refine aY (λenv' st'=>∃(k:lI),∃(m:Nat),al k=some r∧Sub [(0, .pt 0 0),(3, .d (.pc (R33 t1)))] env'∧SLe st' [.row 219 [.os 1 m], .os 5 1 m (eM E5 k), .z]) ?_ ?_
 refine Rcc 6 q (be (λn env' st'=>∃(g:Int),∃(p:lI),∃(t:Nat),f145_l1 t1 al n g p=some r∧Sub [(0, .pt 0 0),(3, .d (.pc (R33 t1))),(4, .n g)] env'∧SLe st' [.row 219 [.os 1 t], .os 5 1 t (eM E5 p), .z]) (λn=>n) 9223372036854775808 ⟨0,b6,_,h,(Sx q (Sx q (Sx q (Sub.nil _)))),⟨Zp,Zf,Zt,Zt⟩⟩ ?_)
 rintro n c st1 ⟨g,p,t,h,hsub,hst⟩
 rcases n with _|n
 rw[f145_l1] at h;cases h
 rw[f145_l1] at h
 refine WC.sub hsub (WC.weak hst ?_)
 refine Rcl 6 q (Zq (aa E67 t1.objs e27 q q Zl) q (Rlc 3 q (Ci h q (λh=>?_) λh=>?_)))
 refine Rcl 9 q (Ix h e27 cE q Zl q q λb9 _ h=>(Rl 1 q (Al z67 q (sS Z6 s67 Z2 (Rll 7 q (WL.s ((NewOs.b (ae l54 z3 q dC dC q q q dC)).does) (Zw q) q q ?_))))))
 refine WL.freezeX [34] [] 4 _ q (ah bd [b9.size]) ⟨q,Zt⟩ Zt ?_
 obtain⟨et,b',h⟩:=ac h
 refine aw [0,1] q q q q (f176_c b') Lw q dC (Re (Ro q)) ⟨q,q,Zt⟩ Kv q (λ_=>Kv) (λ_=>(Re (Ro q))) (Zw q) q q (λew=>?_)
 refine Rll 7 q ?_
 obtain⟨ex,ca,h⟩:=ac h
 refine aw [0,1] q q q q (f143_c ca) Lw q dC (Re (Ro q)) ⟨q,q,Zt⟩ Kv q (λ_=>Kv) (λ_=>(Re (Ro q))) (Zw q) q q (λey=>?_)
 refine Rll 7 q ?_
 obtain⟨e0,cc,h⟩:=ac h
 refine aw [0,1] q q q q (f143_c cc) Lw q dC (Re (Ro q)) ⟨q,q,Zt⟩ Kv q (λ_=>Kv) (λ_=>(Re (Ro q))) (Zw q) q q (λe1=>?_)
 refine Rll 7 q ?_
 obtain⟨e2,cd,h⟩:=ac h
 refine aw [0,1] q q q q (f177_c cd) Lw q dC (Re (Ro q)) ⟨q,q,Zt⟩ Kv q (λ_=>Kv) (λ_=>(Re (Ro q))) (Zw q) q q (λe3=>?_)
 refine Rll 6 q ?_
 obtain⟨e4,ci,h⟩:=ac h
 refine aw [0,1] q q q q (f178_c ci) Lw q dC (Re (Ro q)) ⟨q,q,Zt⟩ Kv q (λ_=>Kv) (λ_=>(Re (Ro q))) (Zw q) q q (λe5=>?_)
 exact Rlx 8 q (WE.drop 3 (env':=[(0, .pt 0 0),(3, .d (.pc (R33 t1))),(4, .n (IntKind.i64.wrap (g+1)))]) Sb q Kv (Nat.le_trans (Nat.le_of_eq hmm) (nbT q)) (Fn3 h))
 exact Rcx 4 q (En2 h)
 rintro c st1 ⟨k,m,h,hsub,hst⟩
 subst b8
 dsimp only at h
 refine WC.sub hsub (WC.weak hst ?_)
 refine Rcl 5 q (Zq (aa E93 t1.inits e28 q q Zl) q (WL.s ((NewOs.b (ae l54 z3 q dC dC q q q dC)).does) (Zw q) q q ?_))
 refine WL.freezeX [56] [] 3 _ q (ah bd [(List.length t1.inits:Int)]) ⟨q,Zt⟩ Zt ?_
 obtain⟨cj,ck,h⟩:=ac h
 refine aw [0,1] q q q q (f176_c ck) Lw q dC (Re (Ro q)) ⟨q,q,Zt⟩ Kv q (λ_=>Kv) (λ_=>(Re (Ro q))) (Zw q) q q (λe6=>?_)
 refine Rlc 2 q ?_
 replace h:=az h
 obtain⟨a0,cl,h⟩:=h
 refine aY (λenv' st'=>∃(w:lI),∃(y:Nat),a0 w=some r∧Sub [(0, .pt 0 0),(3, .d (.pc (R33 t1)))] env'∧SLe st' [.row 219 [.os 1 y], .os 5 1 y (eM E5 w), .z, .z]) ?_ ?_
 refine Rcc 6 q (be (λn env' st'=>∃(A:Int),∃(B:lI),∃(C:Nat),f145_l2 t1 a0 n A B=some r∧Sub [(0, .pt 0 0),(3, .d (.pc (R33 t1))),(6, .n A)] env'∧SLe st' [.row 219 [.os 1 C], .os 5 1 C (eM E5 B), .z, .z]) (λn=>n) 9223372036854775808 ⟨0,cj,_,h,(Sx q (Sx q (Sx q (Sub.nil _)))),⟨Zp,Zf,Zt,Zt,Zt⟩⟩ ?_)
 rintro n c st1 ⟨A,B,C,h,hsub,hst⟩
 rcases n with _|n
 rw[f145_l2] at h;cases h
 rw[f145_l2] at h
 refine WC.sub hsub (WC.weak hst ?_)
 refine Rcl 6 q (Zq (aa E93 t1.inits e28 q q Zl) q (Rlc 3 q (Ci h q (λh=>?_) λh=>?_)))
 refine Rcc 5 q ?_
 obtain⟨cp,a1,h⟩:=ac h
 obtain⟨cr,a6,h⟩:=ac h
 obtain⟨c0,c1,h⟩:=ac h
 apply R1x [_,_,_,_,_,_,_,_,_,_,_,_,_,_,_] 14 (0) (λ(x:Nat)=> [.row 219 [.os 1 x], .os 5 1 x (eM E5 c0), .z, .z]) [([],[0],[[false]]),([],[3],[[false]]),([1],[],[[false]]),([],[6],[[false]]),([2,3],[],[[false]]),([4],[],[[false]]),([5],[],[[false]]),([],[3],[[false]]),([7],[],[[false]]),([],[6],[[false]]),([8,9],[],[[false]]),([10],[],[[false]]),([11],[],[[false]]),([6,12],[],[[false]]),([0,13],[],[[false]])] kR kR q q
 refine⟨?_,?_,?_,?_,?_,?_,?_,?_,?_,?_,?_,?_,?_,?_,?_,Zt⟩
 exact⟨Ox λx=>O3 q (λ_=>q) q q,Zt⟩
 exact⟨Ox λx=>O3 q (λ_=>q) q q,Zt⟩
 exact⟨Ox λx=>O3 q (λ_=>q) q q,Zt⟩
 exact⟨Ox λx=>O3 q (λ_=>q) q q,Zt⟩
 refine⟨Ox λx F=>?_,Zt⟩
 exact Zq (ai e28 q Zl q (aj a1) (au iC a1) q) q (Zd q q q)
 exact⟨Ox λx=>O3 q (λ_=>q) q q,Zt⟩
 exact⟨Ox λx=>O3 q (λ_=>q) q q,Zt⟩
 exact⟨Ox λx=>O3 q (λ_=>q) q q,Zt⟩
 exact⟨Ox λx=>O3 q (λ_=>q) q q,Zt⟩
 exact⟨Ox λx=>O3 q (λ_=>q) q q,Zt⟩
 refine⟨Ox λx F=>?_,Zt⟩
 exact Zq (ai e28 q Zl q (aj a6) (au iC a6) q) q (Zd q q q)
 exact⟨Ox λx=>O3 q (λ_=>q) q q,Zt⟩
 exact⟨Ox λx=>O3 q (λ_=>q) q q,Zt⟩
 refine⟨Ox λx F=>?_,Zt⟩
 exact WL.s ((NewOs.data (ae l54 z3 q dC dC q q q dC) (by exact ah bd [cp.o,cr.slot])).does) (Zw q) q q (Zd q q q)
 refine⟨Oy λx F=>?_,Zt⟩
 refine aw [0,1] q q q q (f176_c c1) Lw q dC (Re (Ro q)) ⟨q,q,Zt⟩ Kv q (λ_=>Kv) (λ_=>(Re (Ro q))) (Zw q) q q (λa7=>?_)
 exact Zx (a7) q q q
 intro a7
 refine Rxl 6 q (Ix h e28 iC q Zl q q λe7 _ h=>(Rl 2 q ?_))
 obtain⟨e8,c2,h⟩:=ac h
 refine aw [0,1] q q q q (f143_c c2) Lw q dC (Re (Ro q)) ⟨q,q,Zt⟩ Kv q (λ_=>Kv) (λ_=>(Re (Ro q))) (Zw q) q q (λe'=>?_)
 exact Rlx 8 q (Fn3 h)
 exact Rcx 4 q (En2 h)
 rintro c st1 ⟨w,y,h,hsub,hst⟩
 subst cl
 dsimp only at h
 refine WC.sub hsub (WC.weak hst ?_)
 refine Rcl 7 q (Zq (aa E70 t1.tasks e29 q q Zl) q (WL.s ((NewOs.b (ae l54 z3 q dC dC q q q dC)).does) (Zw q) q q ?_))
 refine WL.freezeX [94] [] 4 _ q (ah bd [t1.excs,(List.length t1.tasks:Int)]) ⟨q,Zt⟩ Zt ?_
 obtain⟨c3,c4,h⟩:=ac h
 refine aw [0,1] q q q q (f176_c c4) Lw q dC (Re (Ro q)) ⟨q,q,Zt⟩ Kv q (λ_=>Kv) (λ_=>(Re (Ro q))) (Zw q) q q (λfi=>?_)
 refine Rlc 2 q ?_
 replace h:=az h
 obtain⟨a8,c5,h⟩:=h
 refine aY (λenv' st'=>∃(E:lI),∃(G:Nat),a8 E=some r∧Sub [(0, .pt 0 0),(3, .d (.pc (R33 t1)))] env'∧SLe st' [.row 219 [.os 1 G], .os 5 1 G (eM E5 E), .z, .z, .z]) ?_ ?_
 refine Rcc 6 q (be (λn env' st'=>∃(e:Int),∃(H:lI),∃(I:Nat),f145_l3 t1 a8 n e H=some r∧Sub [(0, .pt 0 0),(3, .d (.pc (R33 t1))),(7, .n e)] env'∧SLe st' [.row 219 [.os 1 I], .os 5 1 I (eM E5 H), .z, .z, .z]) (λn=>n) 9223372036854775808 ⟨0,c3,_,h,(Sx q (Sx q (Sx q (Sub.nil _)))),⟨Zp,Zf,Zt,Zt,Zt,Zt⟩⟩ ?_)
 rintro n c st1 ⟨e,H,I,h,hsub,hst⟩
 rcases n with _|n
 rw[f145_l3] at h;cases h
 rw[f145_l3] at h
 refine WC.sub hsub (WC.weak hst ?_)
 refine Rcl 6 q (Zq (aa E70 t1.tasks e29 q q Zl) q (Rlc 3 q (Ci h q (λh=>?_) λh=>?_)))
 refine Rcc 2 q ?_
 replace h:=az h
 obtain⟨c6,c7,h⟩:=h
 refine aY (λenv' st'=>∃(J:lI),∃(K:Nat),∃(c50v280:Int),∃(c51v281:Int),∃(c52v282:List bq),∃(c53v283:Int),c6 J c50v280 c51v281 c52v282 c53v283=some r∧Sub [(0, .pt 0 0),(3, .d (.pc (R33 t1))),(7, .n e)] env'∧SLe st' [.row 219 [.os 1 K], .os 5 1 K (eM E5 J), .z, .z, .z, .row 70 [.n c50v280, .n c51v281, .l E72 c52v282, .n c53v283], .z]) ?_ ?_
 refine Rcl 6 q (Ix h e29 dN q Zl q q λa _ h=>(Rl 1 q (Al z70 q (sS Z6 s70 Z2 (Rll 11 q (Zq (aa E72 a.entries e68 q q Zl) q (WL.s ((NewOs.b (ae l54 z3 q dC dC q q q dC)).does) (Zw q) q q ?_)))))))
 refine WL.freezeX [116] [] 6 _ q (ah bd [a.prio,a.at_,(List.length a.entries:Int)]) ⟨q,Zt⟩ Zt ?_
 obtain⟨c8,c',h⟩:=ac h
 refine aw [0,1] q q q q (f176_c c') Lw q dC (Re (Ro q)) ⟨q,q,Zt⟩ Kv q (λ_=>Kv) (λ_=>(Re (Ro q))) (Zw q) q q (λfo=>?_)
 refine Rlc 2 q ?_
 replace h:=az h
 obtain⟨a',dd,h⟩:=h
 refine aY (λenv' st'=>∃(L:lI),∃(M:Nat),a' L=some r∧Sub [(0, .pt 0 0),(3, .d (.pc (R33 t1))),(7, .n e),(8, .pt 5 0)] env'∧SLe st' [.row 219 [.os 1 M], .os 5 1 M (eM E5 L), .z, .z, .z, .row 70 [.n a.prio, .n a.at_, .l E72 a.entries, .n a.deadline], .z]) ?_ ?_
 refine Rcc 6 q (be (λna env' st'=>∃(N:Int),∃(O:lI),∃(P:Nat),f145_l4 a a' na N O=some r∧Sub [(0, .pt 0 0),(3, .d (.pc (R33 t1))),(7, .n e),(8, .pt 5 0),(9, .n N)] env'∧SLe st' [.row 219 [.os 1 P], .os 5 1 P (eM E5 O), .z, .z, .z, .row 70 [.n a.prio, .n a.at_, .l E72 a.entries, .n a.deadline], .z]) (λn=>n) 9223372036854775808 ⟨0,c8,_,h,(Sx q (Sx q (Sx q (Sx q (Sx q (Sub.nil _)))))),⟨Zp,Zf,Zt,Zt,Zt,Zp,Zt,Zt⟩⟩ ?_)
 rintro na c st1 ⟨N,O,P,h,hsub,hst⟩
 rcases na with _|na
 rw[f145_l4] at h;cases h
 rw[f145_l4] at h
 refine WC.sub hsub (WC.weak hst ?_)
 refine Rcl 6 q (Zq (aa E72 a.entries e68 q q Zl) q (Rlc 3 q (Ci h q (λh=>?_) λh=>?_)))
 refine Rcl 10 q (Ix h e68 fS q Zl q q λfr _ h=>(Rl 2 q ?_))
 obtain⟨fv,df,h⟩:=ac h
 refine aw [0,1] q q q q (f178_c df) Lw q dC (Re (Ro q)) ⟨q,q,Zt⟩ Kv q (λ_=>Kv) (λ_=>(Re (Ro q))) (Zw q) q q (λfz=>?_)
 refine Rll 7 q (Ix h e68 fS q Zl q q λf0 _ h=>(Rl 2 q ?_))
 obtain⟨f1,dk,h⟩:=ac h
 refine aw [0,1] q q q q (f178_c dk) Lw q dC (Re (Ro q)) ⟨q,q,Zt⟩ Kv q (λ_=>Kv) (λ_=>(Re (Ro q))) (Zw q) q q (λf2=>?_)
 exact Rlx 8 q (Fn3 h)
 exact Rcx 4 q (En2 h)
 rintro c st1 ⟨L,M,h,hsub,hst⟩
 subst dd
 dsimp only at h
 refine WC.sub hsub (WC.weak hst ?_)
 refine Rcl 4 q ?_
 obtain⟨f3,ds,h⟩:=ac h
 refine aw [0,1] q q q q (f143_c ds) Lw q dC (Re (Ro q)) ⟨q,q,Zt⟩ Kv q (λ_=>Kv) (λ_=>(Re (Ro q))) (Zw q) q q (λf4=>?_)
 exact Rlx 2 q (En6 h)
 rintro c st1 ⟨J,K,c50v280,c51v281,c52v282,c53v283,h,hsub,hst⟩
 subst c7
 dsimp only at h
 refine WC.sub hsub (WC.weak hst ?_)
 exact Rcx 5 q (WE.drop 5 (env':=[(0, .pt 0 0),(3, .d (.pc (R33 t1))),(7, .n (IntKind.i64.wrap (e+1)))]) Sb q Kv (Nat.le_trans (Nat.le_of_eq hmm) (nbT q)) (Fn3 h))
 exact Rcx 4 q (En2 h)
 rintro c st1 ⟨E,G,h,hsub,hst⟩
 subst c5
 dsimp only at h
 refine WC.sub hsub (WC.weak hst ?_)
 refine Rcl 5 q (Zq (aa E75 t1.prots e30 q q Zl) q (WL.s ((NewOs.b (ae l54 z3 q dC dC q q q dC)).does) (Zw q) q q ?_))
 refine WL.freezeX [149] [] 5 _ q (ah bd [(List.length t1.prots:Int)]) ⟨q,Zt⟩ Zt ?_
 obtain⟨dS,d0,h⟩:=ac h
 refine aw [0,1] q q q q (f176_c d0) Lw q dC (Re (Ro q)) ⟨q,q,Zt⟩ Kv q (λ_=>Kv) (λ_=>(Re (Ro q))) (Zw q) q q (λf5=>?_)
 refine Rlc 2 q ?_
 replace h:=az h
 obtain⟨bb,d1,h⟩:=h
 refine aY (λenv' st'=>∃(Q:lI),∃(R:Nat),bb Q=some r∧Sub [(0, .pt 0 0),(3, .d (.pc (R33 t1)))] env'∧SLe st' [.row 219 [.os 1 R], .os 5 1 R (eM E5 Q), .z, .z, .z, .z]) ?_ ?_
 refine Rcc 6 q (be (λn env' st'=>∃(f:Int),∃(S:lI),∃(T:Nat),f145_l5 t1 bb n f S=some r∧Sub [(0, .pt 0 0),(3, .d (.pc (R33 t1))),(10, .n f)] env'∧SLe st' [.row 219 [.os 1 T], .os 5 1 T (eM E5 S), .z, .z, .z, .z]) (λn=>n) 9223372036854775808 ⟨0,dS,_,h,(Sx q (Sx q (Sx q (Sub.nil _)))),⟨Zp,Zf,Zt,Zt,Zt,Zt,Zt⟩⟩ ?_)
 rintro n c st1 ⟨f,S,T,h,hsub,hst⟩
 rcases n with _|n
 rw[f145_l5] at h;cases h
 rw[f145_l5] at h
 refine WC.sub hsub (WC.weak hst ?_)
 refine Rcl 6 q (Zq (aa E75 t1.prots e30 q q Zl) q (Rlc 3 q (Ci h q (λh=>?_) λh=>?_)))
 refine Rcc 2 q ?_
 replace h:=az h
 obtain⟨bk,d2,h⟩:=h
 refine aY (λenv' st'=>∃(U:lI),∃(V:Nat),bk U=some r∧Sub [(0, .pt 0 0),(3, .d (.pc (R33 t1))),(10, .n f)] env'∧SLe st' [.row 219 [.os 1 V], .os 5 1 V (eM E5 U), .z, .z, .z, .z]) ?_ ?_
 refine Rcc 2 q ?_
 obtain⟨d',bo,h⟩:=ac h
 obtain⟨bs,b0,h⟩:=ac h
 obtain⟨b1,ea,h⟩:=ac h
 apply R1x [_,_,_,_,_,_,_,_,_,_,_,_,_,_,_,_] 15 (0) (λ(x:Nat)=> [.row 219 [.os 1 x], .os 5 1 x (eM E5 b1), .z, .z, .z, .z]) [([],[0],[[false]]),([],[3],[[false]]),([1],[],[[false]]),([],[10],[[false]]),([2,3],[],[[false]]),([4],[],[[false]]),([5],[],[[false]]),([],[3],[[false]]),([7],[],[[false]]),([],[10],[[false]]),([8,9],[],[[false]]),([10],[],[[false]]),([11],[],[[false]]),([12],[],[[false]]),([6,13],[],[[false]]),([0,14],[],[[false]])] kR kR q q
 refine⟨?_,?_,?_,?_,?_,?_,?_,?_,?_,?_,?_,?_,?_,?_,?_,?_,Zt⟩
 exact⟨Ox λx=>O3 q (λ_=>q) q q,Zt⟩
 exact⟨Ox λx=>O3 q (λ_=>q) q q,Zt⟩
 exact⟨Ox λx=>O3 q (λ_=>q) q q,Zt⟩
 exact⟨Ox λx=>O3 q (λ_=>q) q q,Zt⟩
 refine⟨Ox λx F=>?_,Zt⟩
 exact Zq (ai e30 q Zl q (aj bo) (au eJ bo) q) q (Zd q q q)
 exact⟨Ox λx=>O3 q (λ_=>q) q q,Zt⟩
 exact⟨Ox λx=>O3 q (λ_=>q) q q,Zt⟩
 exact⟨Ox λx=>O3 q (λ_=>q) q q,Zt⟩
 exact⟨Ox λx=>O3 q (λ_=>q) q q,Zt⟩
 exact⟨Ox λx=>O3 q (λ_=>q) q q,Zt⟩
 refine⟨Ox λx F=>?_,Zt⟩
 exact Zq (ai e30 q Zl q (aj b0) (au eJ b0) q) q (Zd q q q)
 exact⟨Ox λx=>O3 q (λ_=>q) q q,Zt⟩
 exact⟨Ox λx=>O3 q (λ_=>q) q q,Zt⟩
 refine⟨Ox λx F=>?_,Zt⟩
 exact Zq (aa E80 bs.barriers e73 q q Zl) q (Zd q q q)
 refine⟨Ox λx F=>?_,Zt⟩
 exact WL.s ((NewOs.data (ae l54 z3 q dC dC q q q dC) (by exact ah bd [d'.ceiling,(List.length bs.barriers:Int)])).does) (Zw q) q q (Zd q q q)
 refine⟨Oy λx F=>?_,Zt⟩
 refine aw [0,1] q q q q (f176_c ea) Lw q dC (Re (Ro q)) ⟨q,q,Zt⟩ Kv q (λ_=>Kv) (λ_=>(Re (Ro q))) (Zw q) q q (λb2=>?_)
 exact Zx (b2) q q q
 intro b2
 refine Rxc 7 q (be (λna env' st'=>∃(W:Int),∃(X:lI),∃(Y:Nat),f145_l6 t1 f bk na W X=some r∧Sub [(0, .pt 0 0),(3, .d (.pc (R33 t1))),(10, .n f),(11, .n W)] env'∧SLe st' [.row 219 [.os 1 Y], .os 5 1 Y (eM E5 X), .z, .z, .z, .z]) (λn=>n) 9223372036854775808 ⟨0,b1,_,h,(Sx q (Sx q (Sx q (Sx q (Sub.nil _))))),⟨Zp,Zf,Zt,Zt,Zt,Zt,Zt⟩⟩ ?_)
 rintro na c st1 ⟨W,X,Y,h,hsub,hst⟩
 rcases na with _|na
 rw[f145_l6] at h;cases h
 rw[f145_l6] at h
 refine WC.sub hsub (WC.weak hst ?_)
 refine Rcl 7 q (Ix h e30 eJ q Zl q q λec _ h=>(Rl 2 q (Zq (aa E80 ec.barriers e73 q q Zl) q (Rlc 3 q (Ci h q (λh=>?_) λh=>?_)))))
 refine Rcl 9 q (Ix h e30 eJ q Zl q q λf6 _ h=>(Rl 3 q (Ix h e73 fh q Zl q q λgl _ h=>(Rl 1 q ?_))))
 obtain⟨gm,ee,h⟩:=ac h
 refine aw [0,1] q q q q (f179_c 66 _ _ ee) Lw q dC (Re (Ro q)) ⟨q,q,Zt⟩ Kv q (λ_=>Kv) (λ_=>(Re (Ro q))) (Zw q) q q (λgs=>?_)
 exact Rlx 8 q (Fn3 h)
 exact Rcx 5 q (En2 h)
 rintro c st1 ⟨U,V,h,hsub,hst⟩
 subst d2
 dsimp only at h
 refine WC.sub hsub (WC.weak hst ?_)
 exact Rcx 5 q (Fn3 h)
 exact Rcx 4 q (En2 h)
 rintro c st1 ⟨Q,R,h,hsub,hst⟩
 subst d1
 dsimp only at h
 refine WC.sub hsub (WC.weak hst ?_)
 refine Rcl 5 q (Zq (aa cv t1.checks e31 q q Zl) q (WL.s ((NewOs.b (ae l54 z3 q dC dC q q q dC)).does) (Zw q) q q ?_))
 refine WL.freezeX [200] [] 6 _ q (ah bd [(List.length t1.checks:Int)]) ⟨q,Zt⟩ Zt ?_
 obtain⟨ei,el,h⟩:=ac h
 refine aw [0,1] q q q q (f176_c el) Lw q dC (Re (Ro q)) ⟨q,q,Zt⟩ Kv q (λ_=>Kv) (λ_=>(Re (Ro q))) (Zw q) q q (λgx=>?_)
 refine Rlc 8 q (be (λn env' st'=>∃(Z:Int),∃(ad:lI),∃(j:Nat),f145_l7 t1 n Z ad=some r∧Sub [(0, .pt 0 0),(3, .d (.pc (R33 t1))),(12, .n Z)] env'∧SLe st' [.row 219 [.os 1 j], .os 5 1 j (eM E5 ad), .z, .z, .z, .z, .z]) (λn=>n) 9223372036854775808 ⟨0,ei,_,h,(Sx q (Sx q (Sx q (Sub.nil _)))),⟨Zp,Zf,Zt,Zt,Zt,Zt,Zt,Zt⟩⟩ ?_)
 rintro n c st1 ⟨Z,ad,j,h,hsub,hst⟩
 rcases n with _|n
 rw[f145_l7] at h;cases h
 rw[f145_l7] at h
 refine WC.sub hsub (WC.weak hst ?_)
 refine Rcl 6 q (Zq (aa cv t1.checks e31 q q Zl) q (Rlc 3 q (Ci h q (λh=>?_) λh=>?_)))
 refine Rcc 4 q ?_
 obtain⟨em,b3,h⟩:=ac h
 obtain⟨en,b4,h⟩:=ac h
 obtain⟨eq,er,h⟩:=ac h
 apply R1x [_,_,_,_,_,_,_,_,_,_,_,_,_,_,_,_] 15 (0) (λ(x:Nat)=> [.row 219 [.os 1 x], .os 5 1 x (eM E5 eq), .z, .z, .z, .z, .z]) [([],[0],[[false]]),([],[3],[[false]]),([1],[],[[false]]),([],[12],[[false]]),([2,3],[],[[false]]),([4],[],[[false]]),([5],[],[[false]]),([],[3],[[false]]),([7],[],[[false]]),([],[12],[[false]]),([8,9],[],[[false]]),([10],[],[[false]]),([11],[],[[false]]),([12],[],[[false]]),([6,13],[],[[false]]),([0,14],[],[[false]])] kR kR q q
 refine⟨?_,?_,?_,?_,?_,?_,?_,?_,?_,?_,?_,?_,?_,?_,?_,?_,Zt⟩
 exact⟨Ox λx=>O3 q (λ_=>q) q q,Zt⟩
 exact⟨Ox λx=>O3 q (λ_=>q) q q,Zt⟩
 exact⟨Ox λx=>O3 q (λ_=>q) q q,Zt⟩
 exact⟨Ox λx=>O3 q (λ_=>q) q q,Zt⟩
 refine⟨Ox λx F=>?_,Zt⟩
 exact Zq (ai e31 q Zl q (aj b3) (au ek b3) q) q (Zd q q q)
 exact⟨Ox λx=>O3 q (λ_=>q) q q,Zt⟩
 exact⟨Ox λx=>O3 q (λ_=>q) q q,Zt⟩
 exact⟨Ox λx=>O3 q (λ_=>q) q q,Zt⟩
 exact⟨Ox λx=>O3 q (λ_=>q) q q,Zt⟩
 exact⟨Ox λx=>O3 q (λ_=>q) q q,Zt⟩
 refine⟨Ox λx F=>?_,Zt⟩
 exact Zq (ai e31 q Zl q (aj b4) (au ek b4) q) q (Zd q q q)
 exact⟨Ox λx=>O3 q (λ_=>q) q q,Zt⟩
 exact⟨Ox λx=>O3 q (λ_=>q) q q,Zt⟩
 exact⟨Ox λx=>O3 q (λ_=>q) q q,Zt⟩
 refine⟨Ox λx F=>?_,Zt⟩
 exact WL.s ((NewOs.data (ae l54 z3 q dC dC q q q dC) (by exact ah bd [em.at_,(IntKind.i64.wrap en.kind)])).does) (Zw q) q q (Zd q q q)
 refine⟨Oy λx F=>?_,Zt⟩
 refine aw [0,1] q q q q (f176_c er) Lw q dC (Re (Ro q)) ⟨q,q,Zt⟩ Kv q (λ_=>Kv) (λ_=>(Re (Ro q))) (Zw q) q q (λb5=>?_)
 exact Zx (b5) q q q
 intro b5
 exact Rxx 7 q (Fn3 h)
 refine Rcx 4 q (cJ ?_)
 obtain rfl:=Oi h
 exact bL j (eg q) (bQ Zt) q ⟨Zp,Zf,Zt⟩

theorem f58_c{t0:af}{r:lI}(h:f58 t0=some r):Pu prog 58 [.ag (R33 t0)] (.sl (List.map E5 r)):=by
 unfold f58 at h
 refine fI func58 λ_ _=>?_
 refine Rcl 2 q (Bd q q (Zs _) q (Rll 5 q (Zq (ab p219 z219 q q) q (Bx q q q (Rll 6 q (WL.nil_cell 0 0 5 1 q q ?_))))))
 obtain⟨e,a,h⟩:=ac h
 refine aw [0,1] q q q q (f143_c a) Lw q dC (Re (Ro q)) ⟨q,q,Zt⟩ Kv q (λ_=>Kv) (λ_=>(Re (Ro q))) (Zw q) q q (λf=>?_)
 refine Rll 6 q ?_
 obtain⟨g,c,h⟩:=ac h
 refine aw [0,1] q q q q (f144_c c) Lw q dC (Re (Ro q)) ⟨q,q,Zt⟩ Kv q (λ_=>Kv) (λ_=>(Re (Ro q))) (Zw q) q q (λj=>?_)
 refine Rll 6 q ?_
 obtain⟨k,d,h⟩:=ac h
 refine aw [0,1] q q q q (f145_c d) Lw q dC (Re (Ro q)) ⟨q,q,Zt⟩ Kv q (λ_=>Kv) (λ_=>(Re (Ro q))) (Zw q) q q (λm=>?_)
 refine Rlx 12 q ?_
 exact WE.freezeX [2,17] [(0,0)] 1 _ q (ah uX _) ⟨q,q,Zt⟩ ⟨_,_,q,q,Zt⟩ (FA h)

theorem f19_c{a0:af}{b1:af}{r:Bool}(h:f19 a0 b1=some r):Pu prog 19 [.ag (R33 a0), .ag (R33 b1)] (.b r):=by
 unfold f19 at h
 refine fI func19 λ_ _=>?_
 refine Rcl 2 q (Bd q q (Zs _) q (Bd q q (Zs _) q (Rlc 4 q ?_)))
 obtain⟨a,c,h⟩:=ac h
 replace h:=bu h
 obtain⟨d,h⟩:=h
 obtain⟨e,f,h⟩:=ac h
 replace h:=bu h
 obtain⟨g,h⟩:=h
 apply RT [_,_,_,_,_,_,_,_] [] [] [p01 2,p10 0,p10 1,p01 3,p10 3,p10 4,p20 2 5,p10 6] kR kR q q
 refine Y1 ?_
 refine zo (λ_=>wF Z4 (f58_c c) Lw Z3 (Zd q q q)) ?_
 refine zo (λ_=>Zq (sO (L:=a) underlying42 underlying5 underlying9 q Zl (λ_=>q) d) q (Zd q q q)) ?_
 refine Y1 ?_
 refine zo (λ_=>wF Z4 (f58_c f) Lw Z3 (Zd q q q)) ?_
 refine zo (λ_=>Zq (sO (L:=e) underlying42 underlying5 underlying9 q Zl (λ_=>q) g) q (Zd q q q)) ?_
 exact Y2 Zt
 exact Rxx 2 q (FA h)

theorem f147_c{ver:Nat}(l:lI){r:lI}(h:f147 l=some r):Ctr prog 147 [.os 0 ver] [.os 3 1 ver (eM E3 l)] (ga 1 (.tu []) (λ_=> [.os 3 1 ver (eM E3 r)])):=by
 unfold f147 at h
 obtain⟨h1,h⟩:=bu h
 obtain rfl:=Oi h
 exact uD ⟨Tryz.f147,func147,by kernel_rfl,by kernel_rfl⟩ (λblk off cap zs w a b c=>Go.Proofs.Any.slices_Sort_int hG blk off cap zs w a b c) (λp cap w=>Go.Proofs.Any.slices_Sort_int_none hG p cap w) (of_decide_eq_true h1)

theorem f183_c{x0:Int}:Pu prog 183 [.i .i64 x0] (.b (f183 x0)):=by
 generalize h:f183 x0=r
 unfold f183 at h
 refine fI func183 λ_ _=>?_
 exact Rcx 14 q (FB h)

theorem f149_c{x0:Int}{y1:Int}:Pu prog 149 [.i .i64 x0, .i .i64 y1] (.b (f149 x0 y1)):=by
 generalize h:f149 x0 y1=r
 unfold f149 at h
 refine fI func149 λ_ _=>?_
 refine Rcl 8 q (wF Z4 (f183_c) Lw Z3 (Rl 1 q ?_))
 apply WL.and 4 (t:=7) (d:=11)
 exact q
 intro a
 exact Rl 1 q (WL.fn q q q q (f183_c) Lw (aR q q q) q q (Rl 2 q (WL.nil ⟨q,[_,_,_,_],q,q,q⟩)))
 exact Rn 4 4
 refine Rl 1 q ?_
 refine OG 4 12 16 4 4 ?_
 exact Rlx 4 q (FB h)

theorem f150_c{x0:Int}:Pu prog 150 [.i .i64 x0] (.b (f150 x0)):=by
 generalize h:f150 x0=r
 unfold f150 at h
 refine fI func150 λ_ _=>?_
 exact Rcx 14 q (FB h)

theorem f63_c{x0:lI}{a:Int}{r:Int×Bool}(h:f63 x0 a=some r):Pu prog 63 [.sl (List.map E3 x0), .i .i64 a] (.tu [.i .i64 r.1, .b r.2]):=by
 unfold f63 at h
 refine fI func63 λ_ _=>?_
 refine Rcl 9 q (Zq (aa E3 x0 e54 q q Zl) q (Rlc 10 q (Jn1 (λc=> [(0, .l E3 x0),(1, .n a),(6, .n (List.length x0:Int)),(7, .n c)]) (λ_=> []) h (λk h=>?_) λc h=>?_)))
 refine Rcc 1 q (Ln2 (λe f=> [(0, .l E3 x0),(1, .n a),(6, .n (List.length x0:Int)),(7, .n e),(8, .n f)]) (λ_ _=> []) (f63_l1 x0 a k) h (λ_ _ h=>by rw[f63_l1] at h;cases h) λn e f h=>?_)
 rw[f63_l1] at h
 refine Rcc 8 q (Ci h q (λh=>?_) λh=>?_)
 refine Rcl 9 q (Zq (qf q q dC) q (Rll 8 q (Ix h e54 bd q Zl q q λy _ h=>(Rl 2 q (wF Z4 (f149_c) Lw Z3 (Rlc 2 q (Ci h q (λh=>?_) λh=>?_)))))))
 exact Rcx 6 q (Fn2 h)
 exact Rcx 5 q (Fn2 h)
 exact Rcx 4 q (En1 h)
 refine Rcl 7 q ?_
 obtain⟨m,p,h⟩:=ac h
 refine Gg 18 35 53 m p (λh=>?_) (λh=>?_) ?_
 refine Rl 2 q ?_
 obtain⟨A,g,h⟩:=ac h
 refine Zy (ai e54 q Zl q (aj g) (au bd g) q) q q q (Rl 4 q ?_)
 obtain⟨w,x,h⟩:=ac h
 refine Gg 10 42 52 w x (λh=>?_) (λh=>?_) ?_
 exact On 10 10 h
 refine Rl 2 q ?_
 obtain⟨B,j,h⟩:=ac h
 refine Zy (ai e54 q Zl q (aj j) (au bd j) q) q q q (Rl 1 q (WL.fn q q q q (f150_c) Lw (aR q q q) q q (Rl 1 q ?_)))
 apply WL.and 3 (t:=48) (d:=51)
 exact q
 intro C
 exact Rl 1 q (WL.fn q q q q (f150_c) Lw (aR q q q) q q (Rl 1 q (WL.nil ⟨q,[_,_,_],q,q,q⟩)))
 exact Rn 3 3
 exact On 1 8 h
 exact On 1 9 h
 exact On 18 18 h
 exact Rlx 5 q (FA h)

theorem f62_c{a0:Int}{a:lI}{r:Int}(h:f62 a0 a=some r):Pu prog 62 [.i .i64 a0, .pc (E54 a)] (.i .i64 r):=by
 unfold f62 at h
 refine fI func62 λ_ _=>?_
 refine Rcl 9 q ?_
 obtain⟨d,c,h⟩:=ac h
 exact wF Z4 (f63_c c) Lw Z3 (Rlx 16 q (FA h))

theorem f64_c{a0:Int}{a:lI}{r:Bool}(h:f64 a0 a=some r):Pu prog 64 [.i .i64 a0, .pc (E54 a)] (.b r):=by
 unfold f64 at h
 refine fI func64 λ_ _=>?_
 refine Rcl 9 q ?_
 obtain⟨d,c,h⟩:=ac h
 exact wF Z4 (f63_c c) Lw Z3 (Rlx 14 q (FA h))

theorem f65n_c{s0:lS}{v0:Nat}{r:lS}(h:f65n s0=some r):Ctr prog 65 [.l E65 s0] [.rsv] (wQ 1 (λr' new=>r'= .os 0 v0∧new=[.os 65 3 v0 (eM R65 r)])):=by
 unfold f65n at h
 replace h:=bu h
 obtain⟨hg,h⟩:=h
 obtain rfl:=Oi h
 refine cI func65 λ_ _ _ hmm=>?_
 refine Rcl 9 q (lY false q underlying25 q Zl (Zw q) q λb hb=>?_)
 refine Rlc 2 q (eP q (λhc=>?_) λhc=>?_)
 have a:=hb (by cases b<;>first|rfl|cases hc)
 have c:s0=[]:=by cases s0<;>first|rfl|cases a
 subst c
 exact Rcx 7 q (pp (jG 2 65 3 q) (eN (st1:=[.rsv, .os 65 3 0 (eM R65 ([]:lS))]) [1] (.os 0 0) [.os 65 3 0 (eM R65 ([]:lS))] (λi=>List.getD [0] i 0) (λi=>List.getD [v0] i 0) (rs1 q (bv q)) q Zl ⟨OLe.refl _,OLe.refl _,Zt⟩ dC (Ro q) ⟨q,Zt⟩ Kv q hmm q q ⟨q,Zt⟩ q (iZ (qu _ _ _ _ _ _ _ _) q) (by simp[AV.rv]) ⟨q,q⟩))
 exact Rcl 4 q (WL.s (((eT l25).b).does) (Zw q) q q (Rl 1 q (WL.s (bG R65 ([]:lS) s0 l25 z65 q dC q q q q (eu Zl jT λ_=>q) (λ_=>q) (λ_=>q) hg) (Zw q) q q (Rlx 4 q (eN (st1:=[.rsv, .os 65 3 (0+1) (eM R65 (([]:lS)++s0))]) [1] (.os 0 (0+1)) [.os 65 3 (0+1) (eM R65 (([]:lS)++s0))] (λi=>List.getD [(0+1)] i 0) (λi=>List.getD [v0] i 0) (rs1 q (bv q)) q Zl ⟨OLe.refl _,OLe.refl _,Zt⟩ dC (Ro q) ⟨q,Zt⟩ Kv q hmm q q ⟨q,Zt⟩ q (iZ (qu _ _ _ _ _ _ _ _) q) (by simp[AV.rv]) ⟨q,q⟩)))))

theorem f66n_c{s0:lK}{v0:Nat}{r:lK}(h:f66n s0=some r):Ctr prog 66 [.l E70 s0] [.rsv] (wQ 1 (λr' new=>r'= .os 0 v0∧new=[.os 70 4 v0 (eM R70 r)])):=by
 unfold f66n at h
 replace h:=bu h
 obtain⟨hg,h⟩:=h
 obtain rfl:=Oi h
 refine cI func66 λ_ _ _ hmm=>?_
 refine Rcl 9 q (lY false q underlying29 q Zl (Zw q) q λb hb=>?_)
 refine Rlc 2 q (eP q (λhc=>?_) λhc=>?_)
 have a:=hb (by cases b<;>first|rfl|cases hc)
 have c:s0=[]:=by cases s0<;>first|rfl|cases a
 subst c
 exact Rcx 7 q (pp (jG 2 70 4 q) (eN (st1:=[.rsv, .os 70 4 0 (eM R70 ([]:lK))]) [1] (.os 0 0) [.os 70 4 0 (eM R70 ([]:lK))] (λi=>List.getD [0] i 0) (λi=>List.getD [v0] i 0) (rs1 q (bv q)) q Zl ⟨OLe.refl _,OLe.refl _,Zt⟩ dC (Ro q) ⟨q,Zt⟩ Kv q hmm q q ⟨q,Zt⟩ q (iZ (qu _ _ _ _ _ _ _ _) q) (by simp[AV.rv]) ⟨q,q⟩))
 exact Rcl 4 q (WL.s (((eT l29).b).does) (Zw q) q q (Rl 1 q (WL.s (bG R70 ([]:lK) s0 l29 z70 q dC q q q q (eu Zl dN λ_=>q) (λ_=>q) (λ_=>q) hg) (Zw q) q q (Rlx 4 q (eN (st1:=[.rsv, .os 70 4 (0+1) (eM R70 (([]:lK)++s0))]) [1] (.os 0 (0+1)) [.os 70 4 (0+1) (eM R70 (([]:lK)++s0))] (λi=>List.getD [(0+1)] i 0) (λi=>List.getD [v0] i 0) (rs1 q (bv q)) q Zl ⟨OLe.refl _,OLe.refl _,Zt⟩ dC (Ro q) ⟨q,Zt⟩ Kv q hmm q q ⟨q,Zt⟩ q (iZ (qu _ _ _ _ _ _ _ _) q) (by simp[AV.rv]) ⟨q,q⟩)))))

theorem f67o_c{s0:List cD}{a:Nat}{r:List cD}(h:f67o s0=some r):Ctr prog 67 [.l dB s0] [.os 128 5 a (eM iz ([]:List cD))] (yN 1 (λiv=> .os 0 iv) (λiv=> [.os 128 5 iv (eM iz r)])):=by
 unfold f67o at h
 replace h:=bu h
 obtain⟨hg,h⟩:=h
 obtain rfl:=Oi h
 refine cI func67 λ_ _ _ hmm=>?_
 refine Rcl 9 q (lY false q underlying63 q Zl (Zw q) q λb hb=>?_)
 refine Rlc 2 q (eP q (λhc=>?_) λhc=>?_)
 have c:=hb (by cases b<;>first|rfl|cases hc)
 have d:s0=[]:=by cases s0<;>first|rfl|cases c
 subst d
 exact Rcx 7 q (pp (jG 2 128 5 q) (pp (qU [2] [] 1 0 q q q ⟨q,Zt⟩ Zt) (jV (a+0+1) (rs1 q (bv q)) Zl q ⟨Zf,Zt⟩)))
 exact Rcl 4 q (WL.s (((eT l63).b).does) (Zw q) q q (Rl 1 q (WL.s (bG iz ([]:List cD) s0 l63 z128 q dC q q q q (eu Zl jm λ_=>q) (λ_=>q) (λ_=>q) hg) (Zw q) q q (Rlx 4 q (pp (qU [2] [] 1 0 q q q ⟨q,Zt⟩ Zt) (jV (a+(0+1)+1) (rs1 q (bv q)) Zl q ⟨Zf,Zt⟩))))))

theorem f22_c{t0:af}{at1:lI}{r:af×Int}(h:f22 t0 at1=some r):Pu prog 22 [.ag (R33 t0), .sl (List.map E3 at1)] (.tu [.ag (R33 r.1), .i .i64 r.2]):=by
 unfold f22 at h
 refine fI func22 λ_ _=>?_
 refine Rcl 2 q (Bd q q (Zs _) q (Al z33 q (Rll 7 q ?_)))
 obtain⟨hF,eq,h⟩:=ac h
 refine wF Z4 (f10_c _ eq) Lw Z3 (Rlc 3 q (Ci h q (λh=>?_) λh=>?_))
 refine Rcl 2 q (Zq (ab p33 z33 q q) q (sS Z6 s33 Z2 (St q (Rlx 5 q ?_))))
 obtain rfl:=Oi h
 exact aW (rs2 q (cX q q a33 s33 q) (bv q)) (bQ ⟨(aK ⟨Le.nil,Le.nil,Le.nil,Le.nil,Le.nil,Le.nil,Le.nil,Zl,Le.nil,Le.nil,Le.nil,Zt⟩),Zl,Zt⟩)
 refine Rcl 5 q ?_
 obtain⟨es,et,h⟩:=az h
 refine WL.inl (us:=[.l E3 at1]) (λrv st'=>(es ()=some r∧Le rv (.fn (.func 148) [] [.d (.pc (E54 at1))])∧SLe st' [.row 33 [sN,sN,sN,sN,sN,sN,sN, .n 0,sN,sN,sN]])) q q q q q ?_ (Zw q) q q ?_
 refine cI func60 λ_ _ _ _=>?_
 exact Rcl 2 q (WL.s ((lR q q (by exact(show Les [.l E3 at1] (List.map AV.d [.sl (List.map E3 at1)]) from Lw))).does) (Zw q) q q (Rlx 10 q (aM (rs1 q (bv q)) ⟨h,Zl,⟨Zp,Zt⟩⟩)))
 rintro rv st1 ⟨h,hr,hst⟩
 subst et
 dsimp only at h
 refine WL.cast 29 q hr (WL.weak hst ?_)
 obtain⟨ex,ey,h⟩:=az h
 refine WL.inl (us:=[.fn (.func 148) [] [.d (.pc (E54 at1))]]) (λrv st'=>(∃(c:lI),∃(F:Nat),ex c=some r∧Le rv (.os 3 F)∧SLe st' [.row 33 [sN,sN,sN,sN,sN,sN,sN, .n 0,sN,sN,sN], .row 54 [.os 3 F], .z, .os 3 1 F (eM E3 c)])) q q q q q ?_ (Zw q) q q ?_
 refine cI func59 λ_ _ _ _=>?_
 refine Rcl 8 q ?_
 obtain⟨e0,e1,h⟩:=az h
 refine WL.inl (us:=[.fn (.func 148) [] [.d (.pc (E54 at1))]]) (λrv st'=>(∃(b9:lI),∃(bb:Nat),e0 b9=some r∧Le rv (.os 3 bb)∧SLe st' [.row 33 [sN,sN,sN,sN,sN,sN,sN, .n 0,sN,sN,sN], .row 54 [.os 3 bb], .z, .os 3 1 bb (eM E3 b9)])) q q q q q ?_ (Zw q) q q ?_
 refine cI func146 λ_ _ _ _=>?_
 refine Rcl 8 q ?_
 obtain⟨e2,e3,h⟩:=az h
 refine WL.inl (us:=[sN, .fn (.func 148) [] [.d (.pc (E54 at1))]]) (λrv st'=>(∃(bk:lI),∃(bo:Nat),e2 bk=some r∧Le rv (.os 3 bo)∧SLe st' [.row 33 [sN,sN,sN,sN,sN,sN,sN, .n 0,sN,sN,sN], .row 54 [.os 3 bo], .z, .os 3 1 bo (eM E3 bk)])) q q q q q ?_ (Zw q) q q ?_
 refine cI func180 λ_ _ _ _=>?_
 refine Rcl 2 q (Bx q q q (Rlc 3 q ?_))
 replace h:=az h
 obtain⟨e4,e5,h⟩:=h
 refine aY (λenv' st'=>∃(bs:lI),∃(b':Nat),e4 bs=some r∧Sub [(2, .pt 1 0)] env'∧SLe st' [.row 33 [sN,sN,sN,sN,sN,sN,sN, .n 0,sN,sN,sN], .row 54 [.os 3 b'], .z, .os 3 1 b' (eM E3 bs)]) ?_ ?_
 refine Rcc 6 q ?_
 obtain⟨c3,e6,h⟩:=az h
 refine n5 (us:=[.yl 2, .d (.pc (E54 at1))]) [2] 2 (λal rv st'=>(∃(ca:lI),∃(cc:Nat),c3 ca=some r∧SLe st' [.row 33 [sN,sN,sN,sN,sN,sN,sN, .n 0,sN,sN,sN], .row 54 [.os 3 cc], .lp al [.pt 1 0] .ready none, .os 3 1 cc (eM E3 ca)])) q q q q q (λal e7=>?_) ?_
 refine cI func148 λ_ _ _ e8=>?_
 refine Rcl 3 q (Zq (aa E3 at1 e54 q q Zl) q (Rlc 4 q (WC.nil_cell 1 0 3 1 q q (be (λn env' st'=>∃(b0:Int),∃(V:lI),∃(a0:Nat),f22_l1 at1 c3 n b0 V=some r∧Sub [(0, .yl 2),(5, .l E3 at1),(6, .n (List.length at1:Int)),(7, .n b0)] env'∧SLe st' [.row 33 [sN,sN,sN,sN,sN,sN,sN, .n 0,sN,sN,sN], .row 54 [.os 3 a0], .lp al [.pt 1 0] .ready none, .os 3 1 a0 (eM E3 V)]) (λn=>n) (Int.toNat ((List.length at1:Int) - 0)+1) ⟨0,[],_,h,(Sx q (Sx q (Sx q (Sx q (Sub.nil _))))),⟨Zp,Zp,⟨q,Zs _,q,q⟩,Zf,Zt⟩⟩ ?_))))
 rintro n B st1 ⟨b0,V,a0,h,hsub,hst⟩
 rcases n with _|n
 rw[f22_l1] at h;cases h
 rw[f22_l1] at h
 refine WC.sub hsub (WC.weak hst ?_)
 refine Rcc 6 q (Ci h q (λh=>?_) λh=>?_)
 refine Rcl 6 q (Ix h e54 bd q Zl q q λb1 _ h=>(Rll 8 q ?_))
 obtain⟨e',fi,h⟩:=az h
 refine WL.yield (env0:=[(7, .n b1),(2, .pt 1 0)]) (λrv st'=>(e' ()=some r∧rv= .d (.v (.bool true))∧SLe st' [.row 33 [sN,sN,sN,sN,sN,sN,sN, .n 0,sN,sN,sN], .row 54 [.os 3 (a0+1)], .lp al [.pt 1 0] .ready none, .os 3 1 (a0+1) (eM E3 (V++ [b1])), .os 3 1 0 (eM E3 [b1])])) e7 q q q q q q q (λee hn c4 hH=>?_) (Zw q) q q ?_
 obtain⟨em,eφ,ew,en,er⟩:=ee
 subst hn
 refine Rcx 3 q (gd c4 q (Rcl 4 q (WL.s ((NewOs.b (ae l54 z3 q dC dC q q q dC)).does) (Zw q) q q ?_)))
 replace h:=bu h
 obtain⟨fr,h⟩:=h
 exact WL.s (bG E3 V [b1] l54 z3 q dC q q q q (Src.own q) (λ_=>q) (λ_=>q) fr) (Zw q) q q (WL.s0 (dz q q q (d3 q) s54 q) (Zw q) q (Rlx 2 q (eO c4 q ⟨h,q,⟨Zp,Zp,⟨q,Zs _,q,q⟩,Zf,Zf,Zt⟩⟩)))
 rintro rv st1 ⟨h,rfl,hst⟩
 subst fi
 dsimp only at h
 exact WL.weak hst (Rl 1 q (Zn (dU q (Rcx 7 q (WE.drop 4 (env':=[(0, .yl 2),(5, .l E3 at1),(6, .n (List.length at1:Int)),(7, .n (IntKind.i64.wrap (b0+1)))]) Sb q Kv (Nat.le_trans (Nat.le_of_eq e8) (nbT q)) (Fn3 h))))))
 exact Rcx 4 q (cJ (aM (eg q) ⟨V,_,h,⟨Zp,Zp,⟨q,Zs _,q,q⟩,Zf,Zt⟩⟩))
 rintro al rv st1 ⟨ca,cc,h,hst⟩
 subst e6
 dsimp only at h
 refine⟨_,_,_,_,_,hst,q,(by intro h;cases h),?_⟩
 exact Rxx 1 q (En2 h)
 rintro B st1 ⟨bs,b',h,hsub,hst⟩
 subst e5
 dsimp only at h
 refine WC.sub hsub (WC.weak hst ?_)
 exact Rcx 7 q (aM (rs1 q (bv q)) ⟨bs,_,h,Zl,⟨Zp,Zp,Zt,Zf,Zt⟩⟩)
 rintro rv st1 ⟨bk,bo,h,hr,hst⟩
 subst e3
 dsimp only at h
 exact WL.cast 4 q hr (WL.weak hst (Rl 1 q (Zn (Rcx 1 q (aM (rs1 q (bv q)) ⟨bk,_,h,Zl,⟨Zp,Zp,Zt,Zf,Zt⟩⟩)))))
 rintro rv st1 ⟨b9,bb,h,hr,hst⟩
 subst e1
 dsimp only at h
 refine WL.cast 5 q hr (WL.weak hst (Rl 1 q (Zn (Rcl 3 q ?_))))
 obtain⟨fv,fz,h⟩:=ac h
 refine aw [3] q q q q (f147_c _ fz) Lw q dC (Ro q) ⟨q,Zt⟩ Kv q (λ_=>Kv) (λ_=>(Ro q)) (Zw q) q q (λhI=>?_)
 exact Rlx 9 q (aM (rs1 q (bv q)) ⟨fv,_,h,Zl,⟨Zp,Zp,Zt,Zf,Zt⟩⟩)
 rintro rv st1 ⟨c,F,h,hr,hst⟩
 subst ey
 dsimp only at h
 refine WL.cast 30 q hr (WL.weak hst (Al z54 q (WL.s0 (dz q q q (d3 q) s54 q) (Zw q) q (Zn (Jn0 [(2, .d (.pc (R33 t0))),(4, .pt 0 0),(6, .pt 4 0)] [.row 33 [sN,sN,sN,sN,sN,sN,sN, .n 0,sN,sN,sN], .row 54 [.os 3 F], .z, .os 3 1 F (eM E3 c), .row 54 [.os 3 F]] h (λf0 h=>?_) λh=>?_)))))
 refine Rcl 3 q (Zq (dl (aT E3) c e54 q q q) q (Rlc 4 q (Ln1 (λc5=> [(2, .d (.pc (R33 t0))),(4, .pt 0 0),(6, .pt 4 0),(31, .os 3 F),(32, .n (List.length c:Int)),(33, .n c5)]) (λ_=> [.row 33 [sN,sN,sN,sN,sN,sN,sN, .n 0,sN,sN,sN], .row 54 [.os 3 F], .z, .os 3 1 F (eM E3 c), .row 54 [.os 3 F]]) (f22_l2 t0 c f0) h (λ_ h=>by rw[f22_l2] at h;cases h) λn c5 h=>?_)))
 rw[f22_l2] at h
 refine Rcc 6 q (Ci h q (λh=>?_) λh=>?_)
 refine Rcl 7 q ?_
 obtain⟨hJ,c6,h⟩:=ac h
 refine Zq (ma e54 q q q c6) q (Zq (de (fo:=0) q q q a3 (λ_=>q) c6 q) q (Rll 7 q (Zq (ab p86 z86 q q) q (Rl 1 q ?_))))
 obtain⟨hK,f1,h⟩:=ac h
 refine wF Z4 (f61_c f1) ⟨(aK (Zs _)),Zl,Zt⟩ Z3 (Rl 2 q ?_)
 obtain⟨f2,f3,h⟩:=ac h
 refine Gg 12 43 55 f2 f3 (λh=>?_) (λh=>?_) ?_
 exact On 12 12 h
 refine Rl 3 q ?_
 obtain⟨f4,f5,h⟩:=ac h
 refine Gg 8 46 54 f4 f5 (λh=>?_) (λh=>?_) ?_
 refine Rl 3 q ?_
 obtain⟨hL,c7,h⟩:=ac h
 exact Zy (ma e54 q q q c7) q q q (Zy (de (fo:=0) q q q a3 (λ_=>q) c7 q) q q q (On 3 8 h))
 exact On 8 8 h
 exact On 1 5 h
 refine Rlc 2 q (Ci h q (λh=>?_) λh=>?_)
 refine Rcl 2 q (Zq (ab p33 z33 q q) q (sS Z6 s33 Z2 (St q (Rlx 9 q ?_))))
 obtain rfl:=Oi h
 exact aW (rs2 q (cX q q a33 s33 q) (bv q)) (bQ ⟨(aK ⟨Le.nil,Le.nil,Le.nil,Le.nil,Le.nil,Le.nil,Le.nil,Zl,Le.nil,Le.nil,Le.nil,Zt⟩),Zl,Zt⟩)
 exact Rcx 7 q (Fn1 h)
 exact Rcx 4 q (En0 h)
 refine Rcc 1 q ?_
 refine WC.freezeX [] [(1,0),(4,0)] 3 _ q (ah bd _) Zt ⟨_,_,q,q,⟨_,_,q,q,Zt⟩⟩ (rA (wm (ds:=[.sl (List.map E3 c)]) 6 4 q q q) (Rcl 14 q (Al z33 q (sS Z6 s33 Z2 (St q (Rll 5 q (sS Z6 s22 Z2 (St q (Rlc 2 q ?_)))))))))
 replace h:=az h
 obtain⟨c8,f6,h⟩:=h
 refine aY (λenv' st'=>∃(j:lN),∃(e:Nat),c8 j=some r∧Sub [(2, .d (.pc (R33 t0))),(4, .pt 0 0),(9, .fn (.func 62) [] [.d (.pc (E54 c))]),(10, .fn (.func 64) [] [.d (.pc (E54 c))]),(11, .pt 5 0)] env'∧SLe st' [.row 33 [sN,sN,sN,sN,sN,sN,sN, .n 0,sN,sN,sN], .row 54 [.l E3 c], .z, .z, .z, .row 33 [.os 6 e, .l E83 t0.handlers, .l cm t0.loops, .l E65 t0.selects, .l E54 t0.lists, .l E67 t0.objs, .l E93 t0.inits, .n t0.excs, .l E70 t0.tasks, .l E75 t0.prots, .l cv t0.checks], .os 59 7 e (eM R59 j)]) ?_ ?_
 refine Rcl 4 q (Zq (aa E59 t0.insns e22 q q Zl) q (Rlc 4 q (WC.nil_cell 5 0 59 7 q q (be (λn env' st'=>∃(M:Int),∃(a1:lN),∃(a6:Nat),f22_l3 t0 c c8 n M a1=some r∧Sub [(2, .d (.pc (R33 t0))),(4, .pt 0 0),(9, .fn (.func 62) [] [.d (.pc (E54 c))]),(10, .fn (.func 64) [] [.d (.pc (E54 c))]),(11, .pt 5 0),(63, .l E59 t0.insns),(64, .n (List.length t0.insns:Int)),(65, .n M)] env'∧SLe st' [.row 33 [sN,sN,sN,sN,sN,sN,sN, .n 0,sN,sN,sN], .row 54 [.l E3 c], .z, .z, .z, .row 33 [.os 6 a6, .l E83 t0.handlers, .l cm t0.loops, .l E65 t0.selects, .l E54 t0.lists, .l E67 t0.objs, .l E93 t0.inits, .n t0.excs, .l E70 t0.tasks, .l E75 t0.prots, .l cv t0.checks], .os 59 7 a6 (eM R59 a1)]) (λn=>n) (Int.toNat ((List.length t0.insns:Int) - 0)+1) ⟨0,[],_,h,(Sx q (Sx q (Sx q (Sx q (Sx q (Sx q (Sx q (Sx q (Sub.nil _))))))))),⟨Zp,Zp,Zt,Zt,Zt,Zp,Zf,Zt⟩⟩ ?_))))
 rintro n B st1 ⟨M,a1,a6,h,hsub,hst⟩
 rcases n with _|n
 rw[f22_l3] at h;cases h
 rw[f22_l3] at h
 refine WC.sub hsub (WC.weak hst ?_)
 refine Rcc 6 q (Ci h q (λh=>?_) λh=>?_)
 refine Rcc 2 q ?_
 replace h:=az h
 obtain⟨gl,gm,h⟩:=h
 refine aY (λenv' st'=>∃(cd:lN),∃(ci:Nat),gl cd=some r∧Sub [(2, .d (.pc (R33 t0))),(4, .pt 0 0),(9, .fn (.func 62) [] [.d (.pc (E54 c))]),(10, .fn (.func 64) [] [.d (.pc (E54 c))]),(11, .pt 5 0),(63, .l E59 t0.insns),(64, .n (List.length t0.insns:Int)),(65, .n M)] env'∧SLe st' [.row 33 [sN,sN,sN,sN,sN,sN,sN, .n 0,sN,sN,sN], .row 54 [.l E3 c], .z, .z, .z, .row 33 [.os 6 ci, .l E83 t0.handlers, .l cm t0.loops, .l E65 t0.selects, .l E54 t0.lists, .l E67 t0.objs, .l E93 t0.inits, .n t0.excs, .l E70 t0.tasks, .l E75 t0.prots, .l cv t0.checks], .os 59 7 ci (eM R59 cd)]) ?_ ?_
 refine Rcl 4 q (Ix h e22 cO q Zl q q λC _ h=>(Rl 1 q (Al z59 q (Rl 1 q (sS Z6 s59 Z2 (St q (Rll 7 q ?_)))))))
 obtain⟨hM,gs,h⟩:=ac h
 refine wF Z4 (f64_c gs) Lw Z3 (Rlc 2 q (Ci h q (λh=>?_) λh=>?_))
 exact Rcx 3 q (WE.drop 7 (env':=[(2, .d (.pc (R33 t0))),(4, .pt 0 0),(9, .fn (.func 62) [] [.d (.pc (E54 c))]),(10, .fn (.func 64) [] [.d (.pc (E54 c))]),(11, .pt 5 0),(63, .l E59 t0.insns),(64, .n (List.length t0.insns:Int)),(65, .n M)]) Sb q Kv (Nat.zero_le _) (En2 h))
 refine Rcc 2 q (Jn1 (λ_=> [(2, .d (.pc (R33 t0))),(4, .pt 0 0),(9, .fn (.func 62) [] [.d (.pc (E54 c))]),(10, .fn (.func 64) [] [.d (.pc (E54 c))]),(11, .pt 5 0),(13, .pt 7 0),(63, .l E59 t0.insns),(64, .n (List.length t0.insns:Int)),(65, .n M)]) (λc76v343=> [.row 33 [sN,sN,sN,sN,sN,sN,sN, .n 0,sN,sN,sN], .row 54 [.l E3 c], .z, .z, .z, .row 33 [.os 6 a6, .l E83 t0.handlers, .l cm t0.loops, .l E65 t0.selects, .l E54 t0.lists, .l E67 t0.objs, .l E93 t0.inits, .n t0.excs, .l E70 t0.tasks, .l E75 t0.prots, .l cv t0.checks], .os 59 7 a6 (eM R59 a1), .row 59 [.d (D.i .u8 C.op), .n C.d, .n C.a, .n C.b, .n C.n, .n C.m, .n c76v343]]) h (λ_ h=>?_) λc76v343 h=>?_)
 refine Rcl 6 q ?_
 refine AG 4 76 80 4 4 ?_
 refine Rl 1 q ?_
 refine OG 4 81 85 4 4 ?_
 refine Rlc 2 q (Ci h q (λh=>?_) λh=>?_)
 refine Rcl 4 q ?_
 obtain⟨hN,gx,h⟩:=ac h
 exact wF Z4 (f62_c gx) Lw Z3 (Rl 1 q (sS Z6 s3 Z2 (St q (Rlx 1 q (En1 h)))))
 exact Rcx 1 q (En1 h)
 refine Rcl 4 q (WL.s ((NewOs.b (ae l22 z59 q dC dC q q q dC)).does) (Zw q) q q ?_)
 replace h:=bu h
 obtain⟨g0,h⟩:=h
 exact WL.s (bG R59 a1 [(aE.mk C.op C.d C.a C.b C.n C.m c76v343)] l22 z59 q dC q q q q (Src.own q) (λ_=>q) (λ_=>q) g0) (Zw q) q q (Rl 1 q (WL.s0 (dz q q q (d3 q) s22 q) (Zw q) q (St q (Rlx 2 q (WE.drop 7 (env':=[(2, .d (.pc (R33 t0))),(4, .pt 0 0),(9, .fn (.func 62) [] [.d (.pc (E54 c))]),(10, .fn (.func 64) [] [.d (.pc (E54 c))]),(11, .pt 5 0),(63, .l E59 t0.insns),(64, .n (List.length t0.insns:Int)),(65, .n M)]) Sb q Kv (Nat.zero_le _) (En2 h))))))
 rintro B st1 ⟨cd,ci,h,hsub,hst⟩
 subst gm
 dsimp only at h
 refine WC.sub hsub (WC.weak hst ?_)
 exact Rcx 4 q (Fn3 h)
 exact Rcx 4 q (En2 h)
 rintro B st1 ⟨j,e,h,hsub,hst⟩
 subst f6
 dsimp only at h
 refine WC.sub hsub (WC.weak hst ?_)
 refine Rcl 3 q (sS Z6 s23 Z2 (St q (Rl 1 q (sS Z6 s24 Z2 (St q (Rl 1 q (sS Z6 s31 Z2 (St q (Rlc 2 q ?_)))))))))
 replace h:=az h
 obtain⟨c',g8,h⟩:=h
 refine aY (λenv' st'=>∃(t:lH),∃(f:Nat),c' t=some r∧Sub [(2, .d (.pc (R33 t0))),(4, .pt 0 0),(9, .fn (.func 62) [] [.d (.pc (E54 c))]),(10, .fn (.func 64) [] [.d (.pc (E54 c))]),(11, .pt 5 0)] env'∧SLe st' [.row 33 [sN,sN,sN,sN,sN,sN,sN, .n 0,sN,sN,sN], .row 54 [.l E3 c], .z, .z, .z, .row 33 [.os 6 e, .os 7 f,sN, .l E65 t0.selects, .l E54 t0.lists, .l E67 t0.objs, .l E93 t0.inits, .n t0.excs, .l E70 t0.tasks, .l E75 t0.prots,sN], .os 59 7 e (eM R59 j), .os 83 4 f (eM R83 t)]) ?_ ?_
 refine Rcl 4 q (Zq (aa E83 t0.handlers e23 q q Zl) q (Rlc 4 q (WC.nil_cell 5 1 83 4 q q (be (λn env' st'=>∃(W:Int),∃(N:lH),∃(I:Nat),f22_l4 t0 c c' n W N=some r∧Sub [(2, .d (.pc (R33 t0))),(4, .pt 0 0),(9, .fn (.func 62) [] [.d (.pc (E54 c))]),(10, .fn (.func 64) [] [.d (.pc (E54 c))]),(11, .pt 5 0),(102, .l E83 t0.handlers),(103, .n (List.length t0.handlers:Int)),(104, .n W)] env'∧SLe st' [.row 33 [sN,sN,sN,sN,sN,sN,sN, .n 0,sN,sN,sN], .row 54 [.l E3 c], .z, .z, .z, .row 33 [.os 6 e, .os 7 I,sN, .l E65 t0.selects, .l E54 t0.lists, .l E67 t0.objs, .l E93 t0.inits, .n t0.excs, .l E70 t0.tasks, .l E75 t0.prots,sN], .os 59 7 e (eM R59 j), .os 83 4 I (eM R83 N)]) (λn=>n) (Int.toNat ((List.length t0.handlers:Int) - 0)+1) ⟨0,[],_,h,(Sx q (Sx q (Sx q (Sx q (Sx q (Sx q (Sx q (Sx q (Sub.nil _))))))))),⟨Zp,Zp,Zt,Zt,Zt,Zp,Zf,Zf,Zt⟩⟩ ?_))))
 rintro n B st1 ⟨W,N,I,h,hsub,hst⟩
 rcases n with _|n
 rw[f22_l4] at h;cases h
 rw[f22_l4] at h
 refine WC.sub hsub (WC.weak hst ?_)
 refine Rcc 6 q (Ci h q (λh=>?_) λh=>?_)
 refine Rcc 2 q ?_
 replace h:=az h
 obtain⟨g9,g',h⟩:=h
 refine aY (λenv' st'=>∃(cj:lH),∃(ck:Nat),g9 cj=some r∧Sub [(2, .d (.pc (R33 t0))),(4, .pt 0 0),(9, .fn (.func 62) [] [.d (.pc (E54 c))]),(10, .fn (.func 64) [] [.d (.pc (E54 c))]),(11, .pt 5 0),(102, .l E83 t0.handlers),(103, .n (List.length t0.handlers:Int)),(104, .n W)] env'∧SLe st' [.row 33 [sN,sN,sN,sN,sN,sN,sN, .n 0,sN,sN,sN], .row 54 [.l E3 c], .z, .z, .z, .row 33 [.os 6 e, .os 7 ck,sN, .l E65 t0.selects, .l E54 t0.lists, .l E67 t0.objs, .l E93 t0.inits, .n t0.excs, .l E70 t0.tasks, .l E75 t0.prots,sN], .os 59 7 e (eM R59 j), .os 83 4 ck (eM R83 cj)]) ?_ ?_
 refine Rcl 3 q (Ix h e23 fg q Zl q q λO _ h=>(Rl 1 q (Al z83 q (sS Z6 s83 Z2 (St q (Rlc 3 q ?_))))))
 obtain⟨b2,ha,h⟩:=ac h
 obtain⟨cl,hb,h⟩:=ac h
 obtain⟨dd,hc,h⟩:=ac h
 apply RT [_,_,_,_,_,_,_,_,_,_,_,_,_, .u,_, .u,_, .u] [13,15,17] [[.row 33 [sN,sN,sN,sN,sN,sN,sN, .n 0,sN,sN,sN], .row 54 [.l E3 c], .z, .z, .z, .row 33 [.os 6 e, .os 7 I,sN, .l E65 t0.selects, .l E54 t0.lists, .l E67 t0.objs, .l E93 t0.inits, .n t0.excs, .l E70 t0.tasks, .l E75 t0.prots,sN], .os 59 7 e (eM R59 j), .os 83 4 I (eM R83 N), .row 83 [.n b2, .n O.to, .n O.at_, .d (D.b O.clean)]],[.row 33 [sN,sN,sN,sN,sN,sN,sN, .n 0,sN,sN,sN], .row 54 [.l E3 c], .z, .z, .z, .row 33 [.os 6 e, .os 7 I,sN, .l E65 t0.selects, .l E54 t0.lists, .l E67 t0.objs, .l E93 t0.inits, .n t0.excs, .l E70 t0.tasks, .l E75 t0.prots,sN], .os 59 7 e (eM R59 j), .os 83 4 I (eM R83 N), .row 83 [.n b2, .n cl, .n O.at_, .d (D.b O.clean)]],[.row 33 [sN,sN,sN,sN,sN,sN,sN, .n 0,sN,sN,sN], .row 54 [.l E3 c], .z, .z, .z, .row 33 [.os 6 e, .os 7 I,sN, .l E65 t0.selects, .l E54 t0.lists, .l E67 t0.objs, .l E93 t0.inits, .n t0.excs, .l E70 t0.tasks, .l E75 t0.prots,sN], .os 59 7 e (eM R59 j), .os 83 4 I (eM R83 N), .row 83 [.n b2, .n cl, .n dd, .d (D.b O.clean)]]] [p01 9,p01 15,p10 1,p20 0 2,p01 9,p01 15,p10 5,p20 4 6,p01 9,p01 15,p10 9,p20 8 10,p01 15,p20 12 3,q01 15 1,q20 14 7 1,q01 15 2,q20 16 11 2] kR kR q q
 refine Y3 ?_
 refine zo (λ_=>wF Z4 (f62_c ha) Lw Z3 (Zd q q q)) ?_
 refine Y3 ?_
 refine zo (λ_=>wF Z4 (f62_c hb) Lw Z3 (Zd q q q)) ?_
 refine Y3 ?_
 refine zo (λ_=>wF Z4 (f62_c hc) Lw Z3 (Zd q q q)) ?_
 refine Y1 ?_
 refine zo (λ_=>sS Z6 s3 Z2 (bJ q q)) ?_
 refine Y1 ?_
 refine zo (λ_=>sS Z6 s3 Z2 (bJ q q)) ?_
 refine Y1 ?_
 exact zo (λ_=>sS Z6 s3 Z2 (bJ q q)) Zt
 refine Rxc 10 q (Ci h q (λh=>?_) λh=>?_)
 refine Rcl 4 q (WL.s ((NewOs.b (ae l23 z83 q dC dC q q q dC)).does) (Zw q) q q ?_)
 replace h:=bu h
 obtain⟨hd,h⟩:=h
 exact WL.s (bG R83 N [(aD.mk b2 cl dd O.clean)] l23 z83 q dC q q q q (Src.own q) (λ_=>q) (λ_=>q) hd) (Zw q) q q (Rl 1 q (WL.s0 (dz q q q (d3 q) s23 q) (Zw q) q (St q (Rlx 2 q (WE.drop 8 (env':=[(2, .d (.pc (R33 t0))),(4, .pt 0 0),(9, .fn (.func 62) [] [.d (.pc (E54 c))]),(10, .fn (.func 64) [] [.d (.pc (E54 c))]),(11, .pt 5 0),(102, .l E83 t0.handlers),(103, .n (List.length t0.handlers:Int)),(104, .n W)]) Sb q Kv (Nat.zero_le _) (En2 h))))))
 exact Rcx 2 q (WE.drop 8 (env':=[(2, .d (.pc (R33 t0))),(4, .pt 0 0),(9, .fn (.func 62) [] [.d (.pc (E54 c))]),(10, .fn (.func 64) [] [.d (.pc (E54 c))]),(11, .pt 5 0),(102, .l E83 t0.handlers),(103, .n (List.length t0.handlers:Int)),(104, .n W)]) Sb q Kv (Nat.zero_le _) (En2 h))
 rintro B st1 ⟨cj,ck,h,hsub,hst⟩
 subst g'
 dsimp only at h
 refine WC.sub hsub (WC.weak hst ?_)
 exact Rcx 4 q (Fn3 h)
 exact Rcx 4 q (En2 h)
 rintro B st1 ⟨t,f,h,hsub,hst⟩
 subst g8
 dsimp only at h
 refine WC.sub hsub (WC.weak hst ?_)
 replace h:=az h
 obtain⟨df,he,h⟩:=h
 refine aY (λenv' st'=>∃(w:lP),∃(g:Nat),df w=some r∧Sub [(2, .d (.pc (R33 t0))),(4, .pt 0 0),(9, .fn (.func 62) [] [.d (.pc (E54 c))]),(10, .fn (.func 64) [] [.d (.pc (E54 c))]),(11, .pt 5 0)] env'∧SLe st' [.row 33 [sN,sN,sN,sN,sN,sN,sN, .n 0,sN,sN,sN], .row 54 [.l E3 c], .z, .z, .z, .row 33 [.os 6 e, .os 7 f, .os 8 g, .l E65 t0.selects, .l E54 t0.lists, .l E67 t0.objs, .l E93 t0.inits, .n t0.excs, .l E70 t0.tasks, .l E75 t0.prots,sN], .os 59 7 e (eM R59 j), .os 83 4 f (eM R83 t), .os 118 3 g (eM d6 w)]) ?_ ?_
 refine Rcl 4 q (Zq (aa cm t0.loops e24 q q Zl) q (Rlc 4 q (WC.nil_cell 5 2 118 3 q q ?_)))
 refine be (λn env' st'=>∃(b3:Int),∃(X:lP),∃(P:Nat),f22_l5 t0 c df n b3 X=some r∧Sub [(2, .d (.pc (R33 t0))),(4, .pt 0 0),(9, .fn (.func 62) [] [.d (.pc (E54 c))]),(10, .fn (.func 64) [] [.d (.pc (E54 c))]),(11, .pt 5 0),(136, .l cm t0.loops),(137, .n (List.length t0.loops:Int)),(138, .n b3)] env'∧SLe st' [.row 33 [sN,sN,sN,sN,sN,sN,sN, .n 0,sN,sN,sN], .row 54 [.l E3 c], .z, .z, .z, .row 33 [.os 6 e, .os 7 f, .os 8 P, .l E65 t0.selects, .l E54 t0.lists, .l E67 t0.objs, .l E93 t0.inits, .n t0.excs, .l E70 t0.tasks, .l E75 t0.prots,sN], .os 59 7 e (eM R59 j), .os 83 4 f (eM R83 t), .os 118 3 P (eM d6 X)]) (λn=>n) (Int.toNat ((List.length t0.loops:Int) - 0)+1) ⟨0,[],_,h,(Sx q (Sx q (Sx q (Sx q (Sx q (Sx q (Sx q (Sx q (Sub.nil _))))))))),⟨Zp,Zp,Zt,Zt,Zt,Zp,Zf,Zf,Zf,Zt⟩⟩ ?_
 rintro n B st1 ⟨b3,X,P,h,hsub,hst⟩
 rcases n with _|n
 rw[f22_l5] at h;cases h
 rw[f22_l5] at h
 refine WC.sub hsub (WC.weak hst ?_)
 refine Rcc 6 q (Ci h q (λh=>?_) λh=>?_)
 refine Rcl 6 q (Ix h e24 dT q Zl q q λH _ h=>(Rl 1 q (Al rD q (sS Z6 xJ Z2 (Rlc 2 q ?_)))))
 obtain⟨b4,hf,h⟩:=ac h
 obtain⟨b5,hg,h⟩:=ac h
 replace h:=bu h
 obtain⟨hh,h⟩:=h
 apply RT [_,_,_,_,_,_,_,_,_,_,_,_,_,_,_,_, .u] [14,16] [[.row 33 [sN,sN,sN,sN,sN,sN,sN, .n 0,sN,sN,sN], .row 54 [.l E3 c], .z, .z, .z, .row 33 [.os 6 e, .os 7 f, .os 8 P, .l E65 t0.selects, .l E54 t0.lists, .l E67 t0.objs, .l E93 t0.inits, .n t0.excs, .l E70 t0.tasks, .l E75 t0.prots,sN], .os 59 7 e (eM R59 j), .os 83 4 f (eM R83 t), .os 118 3 (P+1) (eM d6 (X++ [(Loop.mk b4 b5 H.bound)])), .row 118 [.n H.head, .n H.back, .n H.bound]],[.row 33 [sN,sN,sN,sN,sN,sN,sN, .n 0,sN,sN,sN], .row 54 [.l E3 c], .z, .z, .z, .row 33 [.os 6 e, .os 7 f, .os 8 (P+1), .l E65 t0.selects, .l E54 t0.lists, .l E67 t0.objs, .l E93 t0.inits, .n t0.excs, .l E70 t0.tasks, .l E75 t0.prots,sN], .os 59 7 e (eM R59 j), .os 83 4 f (eM R83 t), .os 118 3 (P+1) (eM d6 (X++ [(Loop.mk b4 b5 H.bound)])), .row 118 [.n H.head, .n H.back, .n H.bound]]] [p01 11,p10 0,p01 9,p01 17,p10 3,p20 2 4,p01 9,p01 17,p10 7,p20 6 8,p01 17,p10 10,p30 5 9 11,p10 12,p20 1 13,q01 11 1,q20 15 14 1] kR kR q q
 refine Y5 ?_
 refine zo (λ_=>wF Z4 (f62_c hf) Lw Z3 (Zd q q q)) ?_
 refine Y3 ?_
 refine zo (λ_=>wF Z4 (f62_c hg) Lw Z3 (Zd q q q)) ?_
 refine Y2 ?_
 refine zo (λ_=>Zq (ab p118 rD q q) q (Zd q q q)) ?_
 refine zo (λ_=>WL.s ((NewOs.data (ae l24 rD q dC dC q q q dC) (by exact ah dT [(Loop.mk b4 b5 H.bound)])).does) (Zw q) q q (Zd q q q)) ?_
 refine zo (λ_=>WL.s (bG d6 X [(Loop.mk b4 b5 H.bound)] l24 rD q dC q q q q (eu Zl dT λ_=>q) (λ_=>q) (λ_=>q) hh) (Zw q) q q (Zd q q q)) ?_
 refine Y1 ?_
 exact zo (λ_=>WL.s0 (dz q q q (d3 q) s24 q) (Zw q) q (bJ q q)) Zt
 exact Rxx 6 q (WE.drop 9 (env':=[(2, .d (.pc (R33 t0))),(4, .pt 0 0),(9, .fn (.func 62) [] [.d (.pc (E54 c))]),(10, .fn (.func 64) [] [.d (.pc (E54 c))]),(11, .pt 5 0),(136, .l cm t0.loops),(137, .n (List.length t0.loops:Int)),(138, .n (IntKind.i64.wrap (b3+1)))]) Sb q Kv (Nat.zero_le _) (Fn3 h))
 exact Rcx 4 q (En2 h)
 rintro B st1 ⟨w,g,h,hsub,hst⟩
 subst he
 dsimp only at h
 refine WC.sub hsub (WC.weak hst ?_)
 replace h:=az h
 obtain⟨dk,hi,h⟩:=h
 refine aY (λenv' st'=>∃(y:lC),∃(p:Nat),dk y=some r∧Sub [(2, .d (.pc (R33 t0))),(4, .pt 0 0),(9, .fn (.func 62) [] [.d (.pc (E54 c))]),(11, .pt 5 0)] env'∧SLe st' [.row 33 [sN,sN,sN,sN,sN,sN,sN, .n 0,sN,sN,sN], .row 54 [.l E3 c], .z, .z, .z, .row 33 [.os 6 e, .os 7 f, .os 8 g, .l E65 t0.selects, .l E54 t0.lists, .l E67 t0.objs, .l E93 t0.inits, .n t0.excs, .l E70 t0.tasks, .l E75 t0.prots, .os 9 p], .os 59 7 e (eM R59 j), .os 83 4 f (eM R83 t), .os 118 3 g (eM d6 w), .os 121 2 p (eM ff y)]) ?_ ?_
 refine Rcl 4 q (Zq (aa cv t0.checks e31 q q Zl) q (Rlc 4 q (WC.nil_cell 5 10 121 2 q q ?_)))
 refine be (λn env' st'=>∃(a7:Int),∃(Y:lC),∃(Q:Nat),f22_l6 t0 c dk n a7 Y=some r∧Sub [(2, .d (.pc (R33 t0))),(4, .pt 0 0),(9, .fn (.func 62) [] [.d (.pc (E54 c))]),(10, .fn (.func 64) [] [.d (.pc (E54 c))]),(11, .pt 5 0),(160, .l cv t0.checks),(161, .n (List.length t0.checks:Int)),(162, .n a7)] env'∧SLe st' [.row 33 [sN,sN,sN,sN,sN,sN,sN, .n 0,sN,sN,sN], .row 54 [.l E3 c], .z, .z, .z, .row 33 [.os 6 e, .os 7 f, .os 8 g, .l E65 t0.selects, .l E54 t0.lists, .l E67 t0.objs, .l E93 t0.inits, .n t0.excs, .l E70 t0.tasks, .l E75 t0.prots, .os 9 Q], .os 59 7 e (eM R59 j), .os 83 4 f (eM R83 t), .os 118 3 g (eM d6 w), .os 121 2 Q (eM ff Y)]) (λn=>n) (Int.toNat ((List.length t0.checks:Int) - 0)+1) ⟨0,[],_,h,(Sx q (Sx q (Sx q (Sx q (Sx q (Sx q (Sx q (Sx q (Sub.nil _))))))))),⟨Zp,Zp,Zt,Zt,Zt,Zp,Zf,Zf,Zf,Zf,Zt⟩⟩ ?_
 rintro n B st1 ⟨a7,Y,Q,h,hsub,hst⟩
 rcases n with _|n
 rw[f22_l6] at h;cases h
 rw[f22_l6] at h
 refine WC.sub hsub (WC.weak hst ?_)
 refine Rcc 6 q (Ci h q (λh=>?_) λh=>?_)
 refine Rcc 2 q ?_
 replace h:=az h
 obtain⟨hj,hk,h⟩:=h
 refine aY (λenv' st'=>∃(cp:lC),∃(cr:Nat),∃(c100v400:Int),∃(c101v401:Int),hj cp c100v400 c101v401=some r∧Sub [(2, .d (.pc (R33 t0))),(4, .pt 0 0),(9, .fn (.func 62) [] [.d (.pc (E54 c))]),(10, .fn (.func 64) [] [.d (.pc (E54 c))]),(11, .pt 5 0),(160, .l cv t0.checks),(161, .n (List.length t0.checks:Int)),(162, .n a7)] env'∧SLe st' [.row 33 [sN,sN,sN,sN,sN,sN,sN, .n 0,sN,sN,sN], .row 54 [.l E3 c], .z, .z, .z, .row 33 [.os 6 e, .os 7 f, .os 8 g, .l E65 t0.selects, .l E54 t0.lists, .l E67 t0.objs, .l E93 t0.inits, .n t0.excs, .l E70 t0.tasks, .l E75 t0.prots, .os 9 cr], .os 59 7 e (eM R59 j), .os 83 4 f (eM R83 t), .os 118 3 g (eM d6 w), .os 121 2 cr (eM ff cp), .row 121 [.n c100v400, .d (D.i .u8 c101v401)]]) ?_ ?_
 refine Rcl 3 q (Ix h e31 ek q Zl q q λJ _ h=>(Rl 1 q (Al rC q (sS Z6 xI Z2 (Rll 7 q ?_)))))
 obtain⟨hO,hl,h⟩:=ac h
 refine wF Z4 (f64_c hl) Lw Z3 (Rlc 3 q (Ci h q (λh=>?_) λh=>?_))
 obtain⟨b6,hm,h⟩:=ac h
 replace h:=bu h
 obtain⟨ho,h⟩:=h
 apply RT [_,_,_,_,_,_,_,_,_,_,_,_, .u] [10,12] [[.row 33 [sN,sN,sN,sN,sN,sN,sN, .n 0,sN,sN,sN], .row 54 [.l E3 c], .z, .z, .z, .row 33 [.os 6 e, .os 7 f, .os 8 g, .l E65 t0.selects, .l E54 t0.lists, .l E67 t0.objs, .l E93 t0.inits, .n t0.excs, .l E70 t0.tasks, .l E75 t0.prots, .os 9 Q], .os 59 7 e (eM R59 j), .os 83 4 f (eM R83 t), .os 118 3 g (eM d6 w), .os 121 2 (Q+1) (eM ff (Y++ [(bM.mk b6 J.kind)])), .row 121 [.n J.at_, .d (D.i .u8 J.kind)]],[.row 33 [sN,sN,sN,sN,sN,sN,sN, .n 0,sN,sN,sN], .row 54 [.l E3 c], .z, .z, .z, .row 33 [.os 6 e, .os 7 f, .os 8 g, .l E65 t0.selects, .l E54 t0.lists, .l E67 t0.objs, .l E93 t0.inits, .n t0.excs, .l E70 t0.tasks, .l E75 t0.prots, .os 9 (Q+1)], .os 59 7 e (eM R59 j), .os 83 4 f (eM R83 t), .os 118 3 g (eM d6 w), .os 121 2 (Q+1) (eM ff (Y++ [(bM.mk b6 J.kind)])), .row 121 [.n J.at_, .d (D.i .u8 J.kind)]]] [p01 11,p10 0,p01 9,p01 19,p10 3,p20 2 4,p01 19,p10 6,p20 5 7,p10 8,p20 1 9,q01 11 1,q20 11 10 1] kR kR q q
 refine Y5 ?_
 refine zo (λ_=>wF Z4 (f62_c hm) Lw Z3 (Zd q q q)) ?_
 refine Y2 ?_
 refine zo (λ_=>Zq (ab p121 rC q q) q (Zd q q q)) ?_
 refine zo (λ_=>WL.s ((NewOs.data (ae l31 rC q dC dC q q q dC) (by exact ah ek [(bM.mk b6 J.kind)])).does) (Zw q) q q (Zd q q q)) ?_
 refine zo (λ_=>WL.s (bG ff Y [(bM.mk b6 J.kind)] l31 rC q dC q q q q (eu Zl ek λ_=>q) (λ_=>q) (λ_=>q) ho) (Zw q) q q (Zd q q q)) ?_
 refine Y1 ?_
 exact zo (λ_=>WL.s0 (dz q q q (d3 q) s31 q) (Zw q) q (bJ q q)) Zt
 exact Rxx 1 q (En4 h)
 exact Rcx 2 q (En4 h)
 rintro B st1 ⟨cp,cr,c100v400,c101v401,h,hsub,hst⟩
 subst hk
 dsimp only at h
 refine WC.sub hsub (WC.weak hst ?_)
 exact Rcx 4 q (WE.drop 10 (env':=[(2, .d (.pc (R33 t0))),(4, .pt 0 0),(9, .fn (.func 62) [] [.d (.pc (E54 c))]),(10, .fn (.func 64) [] [.d (.pc (E54 c))]),(11, .pt 5 0),(160, .l cv t0.checks),(161, .n (List.length t0.checks:Int)),(162, .n (IntKind.i64.wrap (a7+1)))]) Sb q Kv (Nat.zero_le _) (Fn3 h))
 exact Rcx 4 q (En2 h)
 rintro B st1 ⟨y,p,h,hsub,hst⟩
 subst hi
 dsimp only at h
 refine WC.sub hsub (WC.weak hst ?_)
 refine Rcc 1 q (rA uf (rA uf ?_))
 obtain⟨G,hp,h⟩:=ac h
 obtain⟨E,hq,h⟩:=ac h
 apply RT [_,_,_,_,_,_,_, .u,_, .u] [2,5,7,9] [[.row 33 [sN,sN,sN,sN,sN,sN,sN, .n 0,sN,sN,sN], .row 54 [.l E3 c], .z, .z, .z, .row 33 [.os 6 e, .os 7 f, .os 8 g, .l E65 t0.selects, .l E54 t0.lists, .l E67 t0.objs, .l E93 t0.inits, .n t0.excs, .l E70 t0.tasks, .l E75 t0.prots, .os 9 p], .os 59 7 e (eM R59 j), .os 83 4 f (eM R83 t), .os 118 3 g (eM d6 w), .os 121 2 p (eM ff y), .os 65 3 0 (eM R65 G), .rsv],[.row 33 [sN,sN,sN,sN,sN,sN,sN, .n 0,sN,sN,sN], .row 54 [.l E3 c], .z, .z, .z, .row 33 [.os 6 e, .os 7 f, .os 8 g, .l E65 t0.selects, .l E54 t0.lists, .l E67 t0.objs, .l E93 t0.inits, .n t0.excs, .l E70 t0.tasks, .l E75 t0.prots, .os 9 p], .os 59 7 e (eM R59 j), .os 83 4 f (eM R83 t), .os 118 3 g (eM d6 w), .os 121 2 p (eM ff y), .os 65 3 0 (eM R65 G), .os 70 4 0 (eM R70 E)],[.row 33 [sN,sN,sN,sN,sN,sN,sN, .n 0,sN,sN,sN], .row 54 [.l E3 c], .z, .z, .z, .row 33 [.os 6 e, .os 7 f, .os 8 g, .os 10 0, .l E54 t0.lists, .l E67 t0.objs, .l E93 t0.inits, .n t0.excs, .l E70 t0.tasks, .l E75 t0.prots, .os 9 p], .os 59 7 e (eM R59 j), .os 83 4 f (eM R83 t), .os 118 3 g (eM d6 w), .os 121 2 p (eM ff y), .os 65 3 0 (eM R65 G), .os 70 4 0 (eM R70 E)],[.row 33 [sN,sN,sN,sN,sN,sN,sN, .n 0,sN,sN,sN], .row 54 [.l E3 c], .z, .z, .z, .row 33 [.os 6 e, .os 7 f, .os 8 g, .os 10 0, .l E54 t0.lists, .l E67 t0.objs, .l E93 t0.inits, .n t0.excs, .os 11 0, .l E75 t0.prots, .os 9 p], .os 59 7 e (eM R59 j), .os 83 4 f (eM R83 t), .os 118 3 g (eM d6 w), .os 121 2 p (eM ff y), .os 65 3 0 (eM R65 G), .os 70 4 0 (eM R70 E)]] [p01 2,p10 0,p10 1,u01 2,u10 3,q10 4 1,v01 11,q20 6 2 2,q01 11 3,q20 8 5 3] kR kR q q
 refine Y2 ?_
 refine zo (λ_=>?_) ?_
 refine rp [10] q q q q (f65n_c hp (v0:=0)) Lw q dC (Re q) ⟨q,Zt⟩ q q (Zw q) q q (λr' new hS=>?_)
 obtain⟨rfl,rfl⟩:=hS
 refine⟨_,_,q,(Ro q),q,Kv,?_⟩
 exact Zd q q q
 refine X2b ?_
 refine zo (λ_=>?_) ?_
 refine rp [11] q q q q (f66n_c hq (v0:=0)) Lw q dC (Re q) ⟨q,Zt⟩ q q (Zw q) q q (λr' new hS=>?_)
 obtain⟨rfl,rfl⟩:=hS
 refine⟨_,_,q,(Ro q),q,Kv,?_⟩
 exact Zd q q q
 refine X2a ?_
 refine zo (λ_=>WL.s0 (dz q q q (d3 q) s25 q) (Zw q) q (bJ q q)) ?_
 refine Y1 ?_
 exact zo (λ_=>WL.s0 (dz q q q (d3 q) s29 q) (Zw q) q (bJ q q)) Zt
 refine Rxc 1 q (Jn1 (λ_=> [(4, .pt 0 0),(9, .fn (.func 62) [] [.d (.pc (E54 c))]),(11, .pt 5 0)]) (λa8=> [.row 33 [sN,sN,sN,sN,sN,sN,sN, .n 0,sN,sN,sN], .row 54 [.l E3 c], .z, .z, .z, .row 33 [.os 6 e, .os 7 f, .os 8 g, .os 10 0, .l E54 t0.lists, .l E67 t0.objs, .l E93 t0.inits, .n t0.excs, .os 11 0, .l E75 t0.prots, .os 9 p], .os 59 7 e (eM R59 j), .os 83 4 f (eM R83 t), .os 118 3 g (eM d6 w), .os 121 2 p (eM ff y), .os 65 3 0 (eM R65 a8), .os 70 4 0 (eM R70 E)]) h (λhs h=>?_) λa8 h=>?_)
 refine Rcl 4 q (Zq (dl (aT R65) G e25 q q q) q (Rlc 4 q (Ln2 (λA _=> [(4, .pt 0 0),(9, .fn (.func 62) [] [.d (.pc (E54 c))]),(11, .pt 5 0),(194, .n (List.length G:Int)),(195, .n A)]) (λ_ S=> [.row 33 [sN,sN,sN,sN,sN,sN,sN, .n 0,sN,sN,sN], .row 54 [.l E3 c], .z, .z, .z, .row 33 [.os 6 e, .os 7 f, .os 8 g, .os 10 0, .l E54 t0.lists, .l E67 t0.objs, .l E93 t0.inits, .n t0.excs, .os 11 0, .l E75 t0.prots, .os 9 p], .os 59 7 e (eM R59 j), .os 83 4 f (eM R83 t), .os 118 3 g (eM d6 w), .os 121 2 p (eM ff y), .os 65 3 0 (eM R65 S), .os 70 4 0 (eM R70 E)]) (f22_l7 c G hs) h (λ_ _ h=>by rw[f22_l7] at h;cases h) λn A S h=>?_)))
 rw[f22_l7] at h
 refine Rcc 6 q (Ci h q (λh=>?_) λh=>?_)
 refine Rcc 2 q (Jn1 (λ_=> [(4, .pt 0 0),(9, .fn (.func 62) [] [.d (.pc (E54 c))]),(11, .pt 5 0),(194, .n (List.length G:Int)),(195, .n A)]) (λdS=> [.row 33 [sN,sN,sN,sN,sN,sN,sN, .n 0,sN,sN,sN], .row 54 [.l E3 c], .z, .z, .z, .row 33 [.os 6 e, .os 7 f, .os 8 g, .os 10 0, .l E54 t0.lists, .l E67 t0.objs, .l E93 t0.inits, .n t0.excs, .os 11 0, .l E75 t0.prots, .os 9 p], .os 59 7 e (eM R59 j), .os 83 4 f (eM R83 t), .os 118 3 g (eM d6 w), .os 121 2 p (eM ff y), .os 65 3 0 (eM R65 dS), .os 70 4 0 (eM R70 E), .z]) h (λ_ h=>?_) λdS h=>?_)
 refine Rcl 12 q ?_
 obtain⟨T,U,h⟩:=ac h
 refine Zq (ma e25 q q q U) q (Rll 7 q (Zq (bR q q) q (Zq (aU f65_0 q q) q (Zq (de (fo:=0) q q q a63 (λ_=>q) U q) q ?_))))
 obtain⟨c0,ht,h⟩:=ac h
 refine Gh.wl (pU 128 5) (wS [12] q q q q (f67o_c ht) Lw q dC q ⟨q,Zt⟩ q q (λ_=>Kv) (λ_=>(Ro q)) (λ_=>q) (λ_=>q) (Zw q) q q λZ=>?_)
 refine Zq (bR q q) q (Zq (aU f65_0 q q) q (WL.s0 (nA (Re:=R65) (L:=S) (i:=A) (x:=T) (fo:=0) q q q q q s63 (λ_=>q) U q) (Zw q) q (Rlc 2 q (Jn1 (λ_=> [(4, .pt 0 0),(9, .fn (.func 62) [] [.d (.pc (E54 c))]),(11, .pt 5 0),(21, .pe 10 0 (Int.toNat A*3)),(194, .n (List.length G:Int)),(195, .n A)]) (λa'=> [.row 33 [sN,sN,sN,sN,sN,sN,sN, .n 0,sN,sN,sN], .row 54 [.l E3 c], .z, .z, .z, .row 33 [.os 6 e, .os 7 f, .os 8 g, .os 10 0, .l E54 t0.lists, .l E67 t0.objs, .l E93 t0.inits, .n t0.excs, .os 11 0, .l E75 t0.prots, .os 9 p], .os 59 7 e (eM R59 j), .os 83 4 f (eM R83 t), .os 118 3 g (eM d6 w), .os 121 2 p (eM ff y), .os 65 3 0 (gn R65 S A T 0 12 Z), .os 70 4 0 (eM R70 E), .os 128 5 Z (eM iz a')]) h (λhu h=>?_) λa' h=>?_))))
 refine Rcl 3 q (Zq (bR q q) q (Zq (aU f65_0 q q) q (Zq (gc (fo:=0) q q q a63 (λ_=>q) U q) q (Zq (dl (aT iz) c0 e63 q q q) q (Rlc 4 q (Ln2 (λb7 _=> [(4, .pt 0 0),(9, .fn (.func 62) [] [.d (.pc (E54 c))]),(11, .pt 5 0),(21, .pe 10 0 (Int.toNat A*3)),(194, .n (List.length G:Int)),(195, .n A),(214, .n (List.length c0:Int)),(215, .n b7)]) (λ_ c1=> [.row 33 [sN,sN,sN,sN,sN,sN,sN, .n 0,sN,sN,sN], .row 54 [.l E3 c], .z, .z, .z, .row 33 [.os 6 e, .os 7 f, .os 8 g, .os 10 0, .l E54 t0.lists, .l E67 t0.objs, .l E93 t0.inits, .n t0.excs, .os 11 0, .l E75 t0.prots, .os 9 p], .os 59 7 e (eM R59 j), .os 83 4 f (eM R83 t), .os 118 3 g (eM d6 w), .os 121 2 p (eM ff y), .os 65 3 0 (gn R65 S A T 0 12 Z), .os 70 4 0 (eM R70 E), .os 128 5 Z (eM iz c1)]) (f22_l8 c c0 hu) h (λ_ _ h=>by rw[f22_l8] at h;cases h) λna b7 c1 h=>?_))))))
 rw[f22_l8] at h
 refine Rcc 6 q (Ci h q (λh=>?_) λh=>?_)
 refine Rcc 10 q ?_
 obtain⟨hP,d0,h⟩:=ac h
 obtain⟨d1,hv,h⟩:=ac h
 obtain⟨K,d2,h⟩:=ac h
 apply RT [_,_,_,_,_,_,_,_,_,_,_,_,_,_,_,_,_, .u] [17] [[.row 33 [sN,sN,sN,sN,sN,sN,sN, .n 0,sN,sN,sN], .row 54 [.l E3 c], .z, .z, .z, .row 33 [.os 6 e, .os 7 f, .os 8 g, .os 10 0, .l E54 t0.lists, .l E67 t0.objs, .l E93 t0.inits, .n t0.excs, .os 11 0, .l E75 t0.prots, .os 9 p], .os 59 7 e (eM R59 j), .os 83 4 f (eM R83 t), .os 118 3 g (eM d6 w), .os 121 2 p (eM ff y), .os 65 3 0 (gn R65 S A T 0 12 Z), .os 70 4 0 (eM R70 E), .os 128 5 Z (eM iz (List.set c1 (Int.toNat b7) (cD.mk K.kind K.entry K.guard K.time d1)))]] [p01 21,p10 0,p10 1,p10 2,p01 22,p01 9,p01 21,p10 6,p10 7,p10 8,p01 22,p20 9 10,p10 11,p10 12,p20 5 13,p20 3 4,p10 15,p20 16 14] kR kR q q
 refine Y1 ?_
 refine zo (λ_=>Zq (bR q q) q (Zd q q q)) ?_
 refine zo (λ_=>Zq (aU f65_0 q q) q (Zd q q q)) ?_
 refine zo (λ_=>Zq (gc (fo:=0) q q q a63 (λ_=>q) U q) q (Zd q q q)) ?_
 refine Y3 ?_
 refine zo (λ_=>Zq (bR q q) q (Zd q q q)) ?_
 refine zo (λ_=>Zq (aU f65_0 q q) q (Zd q q q)) ?_
 refine zo (λ_=>Zq (gc (fo:=0) q q q a63 (λ_=>q) U q) q (Zd q q q)) ?_
 refine Y1 ?_
 refine zo (λ_=>Zq (ma e63 q q q d0) q (Zd q q q)) ?_
 refine zo (λ_=>Zq (aU f128_4 q q) q (Zd q q q)) ?_
 refine zo (λ_=>Zq (de (fo:=4) q q q a3 (λ_=>q) d0 q) q (Zd q q q)) ?_
 refine zo (λ_=>wF Z4 (f62_c hv) Lw Z3 (Zd q q q)) ?_
 refine zo (λ_=>Zq (ma e63 q q q d2) q (Zd q q q)) ?_
 refine zo (λ_=>Zq (aU f128_4 q q) q (Zd q q q)) ?_
 exact zo (λ_=>WL.s0 (dY (R:=iz) (k:=5) (i:=b7) (fo:=4) (cD.mk K.kind K.entry K.guard K.time d1) q q q q Zl q q q s3 q (λ_=>q) d2 q q) (Zw q) q (bJ q q)) Zt
 exact Rxx 6 q (Fn2 h)
 exact Rcx 4 q (En1 h)
 refine Rcc 1 q (rA (ug (Re:=R65) (L:=S) (i:=A) (x:=T) (ds:=(List.map dB a')) (aZ.mk a' T.obj T.else_) 12 10 0 q (ah jm a') q q (λ_=>q) U q q) (Rcl 2 q (Zq (bR q q) q (Zq (aU f65_2 q q) q ?_))))
 obtain⟨hQ,hw,h⟩:=ac h
 refine Zq (de (fo:=2) q q q a3 (λ_=>q) hw q) q (Rlc 3 q (Ci h q (λh=>?_) λh=>?_))
 refine Rcl 4 q (Zq (bR q q) q (Zq (aU f65_2 q q) q ?_))
 obtain⟨hR,hx,h⟩:=ac h
 refine Zq (de (fo:=2) q q q a3 (λ_=>q) hx q) q ?_
 obtain⟨hy,hz,h⟩:=ac h
 refine wF Z4 (f62_c hz) Lw Z3 (Zq (bR q q) q (Zq (aU f65_2 q q) q ?_))
 obtain⟨d',hA,h⟩:=ac h
 exact WL.s0 (dY (R:=R65) (k:=3) (i:=A) (fo:=2) (aZ.mk d'.alts d'.obj hy) q q q q Zl q q q s3 q (λ_=>q) hA q q) (Zw q) q (St q (Rlx 2 q (En1 h)))
 exact Rcx 2 q (En1 h)
 exact Rcx 4 q (WE.drop 12 (env':=[(4, .pt 0 0),(9, .fn (.func 62) [] [.d (.pc (E54 c))]),(11, .pt 5 0),(194, .n (List.length G:Int)),(195, .n (IntKind.i64.wrap (A+1)))]) Sb q Kv (Nat.zero_le _) (Fn2 h))
 exact Rcx 4 q (En1 h)
 refine Jn1 (λ_=> [(4, .pt 0 0),(11, .pt 5 0)]) (λea=> [.row 33 [sN,sN,sN,sN,sN,sN,sN, .n 0,sN,sN,sN], .row 54 [.l E3 c], .z, .z, .z, .row 33 [.os 6 e, .os 7 f, .os 8 g, .os 10 0, .l E54 t0.lists, .l E67 t0.objs, .l E93 t0.inits, .n t0.excs, .os 11 0, .l E75 t0.prots, .os 9 p], .os 59 7 e (eM R59 j), .os 83 4 f (eM R83 t), .os 118 3 g (eM d6 w), .os 121 2 p (eM ff y), .os 65 3 0 (eM R65 a8), .os 70 4 0 (eM R70 ea)]) h (λhB h=>?_) (λea h=>?_)
 refine Rcl 4 q (Zq (dl (aT R70) E e29 q q q) q (Rlc 4 q (Ln2 (λb8 _=> [(4, .pt 0 0),(9, .fn (.func 62) [] [.d (.pc (E54 c))]),(11, .pt 5 0),(253, .n (List.length E:Int)),(254, .n b8)]) (λ_ c2=> [.row 33 [sN,sN,sN,sN,sN,sN,sN, .n 0,sN,sN,sN], .row 54 [.l E3 c], .z, .z, .z, .row 33 [.os 6 e, .os 7 f, .os 8 g, .os 10 0, .l E54 t0.lists, .l E67 t0.objs, .l E93 t0.inits, .n t0.excs, .os 11 0, .l E75 t0.prots, .os 9 p], .os 59 7 e (eM R59 j), .os 83 4 f (eM R83 t), .os 118 3 g (eM d6 w), .os 121 2 p (eM ff y), .os 65 3 0 (eM R65 a8), .os 70 4 0 (eM R70 c2)]) (f22_l9 c E hB) h (λ_ _ h=>by rw[f22_l9] at h;cases h) λn b8 c2 h=>?_)))
 rw[f22_l9] at h
 refine Rcc 6 q (Ci h q (λh=>?_) λh=>?_)
 refine Rcc 10 q ?_
 obtain⟨hT,ec,h⟩:=ac h
 obtain⟨ei,hC,h⟩:=ac h
 obtain⟨ad,el,h⟩:=ac h
 apply RT [_,_,_,_,_,_,_,_,_,_,_,_,_, .u] [13] [[.row 33 [sN,sN,sN,sN,sN,sN,sN, .n 0,sN,sN,sN], .row 54 [.l E3 c], .z, .z, .z, .row 33 [.os 6 e, .os 7 f, .os 8 g, .os 10 0, .l E54 t0.lists, .l E67 t0.objs, .l E93 t0.inits, .n t0.excs, .os 11 0, .l E75 t0.prots, .os 9 p], .os 59 7 e (eM R59 j), .os 83 4 f (eM R83 t), .os 118 3 g (eM d6 w), .os 121 2 p (eM ff y), .os 65 3 0 (eM R65 a8), .os 70 4 0 (eM R70 (List.set c2 (Int.toNat b8) (bX.mk ad.prio ei ad.entries ad.deadline)))]] [p01 11,p10 0,p01 23,p01 9,p01 11,p10 4,p01 23,p20 5 6,p10 7,p10 8,p20 3 9,p20 1 2,p10 11,p20 12 10] kR kR q q
 refine Y7 ?_
 refine zo (λ_=>Zq (ma e29 q q q ec) q (Zd q q q)) ?_
 refine zo (λ_=>Zq (aU f70_1 q q) q (Zd q q q)) ?_
 refine zo (λ_=>Zq (de (fo:=1) q q q a3 (λ_=>q) ec q) q (Zd q q q)) ?_
 refine zo (λ_=>wF Z4 (f62_c hC) Lw Z3 (Zd q q q)) ?_
 refine zo (λ_=>Zq (ma e29 q q q el) q (Zd q q q)) ?_
 refine zo (λ_=>Zq (aU f70_1 q q) q (Zd q q q)) ?_
 exact zo (λ_=>WL.s0 (dY (R:=R70) (k:=4) (i:=b8) (fo:=1) (bX.mk ad.prio ei ad.entries ad.deadline) q q q q Zl q q q s3 q (λ_=>q) el q q) (Zw q) q (bJ q q)) Zt
 exact Rxx 6 q (Fn2 h)
 exact Rcx 4 q (En1 h)
 refine Rcl 3 q ?_
 refine WL.freezeX [] [(5,0)] 6 _ q (ah cO _) Zt ⟨_,_,q,q,Zt⟩ (St q ?_)
 refine WL.freezeX [] [(5,1)] 7 _ q (ah fg _) Zt ⟨_,_,q,q,Zt⟩ (St q ?_)
 refine WL.freezeX [] [(5,2)] 8 _ q (ah dT _) Zt ⟨_,_,q,q,Zt⟩ (St q ?_)
 refine WL.freezeX [] [(5,3)] 10 _ q (ah jT _) Zt ⟨_,_,q,q,Zt⟩ (St q ?_)
 refine WL.freezeX [] [(5,8)] 11 _ q (ah dN _) Zt ⟨_,_,q,q,Zt⟩ (St q ?_)
 refine WL.freezeX [] [(5,10)] 9 _ q (ah ek _) Zt ⟨_,_,q,q,Zt⟩ (St q (Rl 1 q ?_))
 obtain⟨hV,hE,h⟩:=ac h
 refine wF Z4 (f10_c _ hE) ⟨(aK (Zs _)),Zt⟩ Z3 (Rlc 3 q (Ci h q (λh=>?_) λh=>?_))
 refine Rcl 2 q (Zq (ab p33 z33 q q) q (sS Z6 s33 Z2 (St q (Rlx 5 q ?_))))
 obtain rfl:=Oi h
 exact aW (rs2 q (cX q q a33 s33 q) (bv q)) (bQ ⟨(aK ⟨Le.nil,Le.nil,Le.nil,Le.nil,Le.nil,Le.nil,Le.nil,Zl,Le.nil,Le.nil,Le.nil,Zt⟩),Zl,Zt⟩)
 refine Rcl 5 q (sS Z6 s33 Z2 (St q (Rlx 4 q ?_)))
 obtain rfl:=Oi h
 exact aW (rs2 q (cX q q a33 s33 q) (bv q)) (bQ ⟨(aK (Zs _)),Zl,Zt⟩)

end Go.Proofs.YtejcfgjpdocaoaaGreatDoor
