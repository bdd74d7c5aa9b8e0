/- The walks of functions. -/
import Derived.Test.YtejcfgjpdocaoaaGreatDoorX
set_option linter.unusedVariables false
set_option linter.unusedSimpArgs false
set_option linter.unusedSectionVars false
set_option linter.unnecessarySimpa false
set_option maxHeartbeats 4000000
set_option maxRecDepth 100000
namespace Go.Proofs.YtejcfgjpdocaoaaGreatDoor
open Tryz
open Go Go.Sk

theorem f163_c(s0:lI)(a:Int→oB)(g1:FuncId)(c e:lD)(g:∀(y0:Int)(r:Bool),a y0=some r→Pu prog g1 (c++ [.i .i64 y0]++e) (.b r)){r:Int}(h:f163 s0 a=some r):Pu prog 163 [.sl (List.map E3 s0), .fnc (.func g1) c e] (.i .i64 r):=by
 unfold f163 at h
 refine fI func163 λ_ _=>?_
 refine WC.cast 1 q (dX _ _ _) (Rcc 5 q (Jn0 [] [] h (λj h=>?_) λh=>?_))
 refine Rcl 3 q (Zq (ab E3 s0 e54 q q Zl) q (Rlc 4 q (Ln1 (λf=> [(0, .l E3 s0),(1, .fn (.func g1) (List.map AV.d c) (List.map AV.d e)),(7, .n (List.length s0:Int)),(8, .n f)]) (λ_=> []) (f163_l1 s0 a j) h (λ_ h=>by rw[f163_l1] at h;cases h) λn f h=>?_)))
 rw[f163_l1] at h
 refine Rcc 6 q (Ci h q (λh=>?_) λh=>?_)
 refine Rcl 15 q (Ix h e54 dF q Zl q q λm _ h=>(Rl 1 q ?_))
 obtain⟨o,k,h⟩:=ac h
 refine WL.fn q q q q (g _ _ k) (g' Lw) (Zw q) q q (Rlc 2 q (Ci h q (λh=>?_) λh=>?_))
 exact Rcx 12 q (FA h)
 exact Rcx 7 q (Fn1 h)
 exact Rcx 4 q (En0 h)
 exact Rcx 6 q (FA h)

theorem f112_c(s0:lI)(d:Int→oB)(g1:FuncId)(a c:lD)(e:∀(y0:Int)(r:Bool),d y0=some r→Pu prog g1 (a++ [.i .i64 y0]++c) (.b r)){r:Bool}(h:f112 s0 d=some r):Pu prog 112 [.sl (List.map E3 s0), .fnc (.func g1) a c] (.b r):=by
 unfold f112 at h
 refine fI func112 λ_ _=>?_
 refine WC.cast 1 q (dX _ _ _) (Rcl 9 q ?_)
 obtain⟨g,f,h⟩:=ac h
 exact wF Z4 (f163_c _ _ g1 a c e f) ⟨Zl,(Le.fnc (Zs _) (Zs _)),Zt⟩ Z3 (Rlx 5 q (FA h))

theorem f113_c(n0:Int)(a:Int):Pu prog 113 [.i .i64 n0, .pc (E2 a)] (.b (f113 n0 a)):=by
 generalize h:f113 n0 a=r
 unfold f113 at h
 refine fI func113 λ_ _=>?_
 exact Rcx 15 q (FB h)

theorem f45_c{o0:Obj}{v1:Int}{r:Bool}(h:f45 o0 v1=some r):Pu prog 45 [.ag (R67 o0), .i .i64 v1] (.b r):=by
 unfold f45 at h
 refine fI func45 λ_ _=>?_
 refine Rcl 2 q (Bd q q (Zs _) q (WL.s ((gy q q (by exact(show Les [.n v1] (List.map AV.d [.i .i64 v1]) from Lw))).does) (Zw q) q q (Rlc 10 q (Ci h q (λh=>?_) λh=>?_))))
 refine Rcl 5 q ?_
 obtain⟨a,c,h⟩:=ac h
 refine Gg 5 9 14 a c (λh=>?_) (λh=>?_) ?_
 exact On 5 5 h
 refine Rl 3 q ?_
 obtain⟨f,e,h⟩:=ac h
 exact WL.fn q q q q (f112_c _ _ 113 [] [(.pc (E2 v1))] (λz0 _ h=>by obtain rfl:=inS h;exact f113_c z0 v1) e) ⟨Zl,(Le.fnc Zt Lw),Zt⟩ (aI q q q) q q (On 1 5 h)
 exact Rlx 5 q (FA h)
 refine Rcl 9 q ?_
 refine AG 5 19 24 5 5 ?_
 exact Rlx 4 q (FA h)

theorem f88_c{t0:aT}{o1:Obj}{r:Bool}(h:f88 t0 o1=some r):Pu prog 88 [.ag (R86 t0), .ag (R67 o1)] (.b r):=by
 unfold f88 at h
 refine fI func88 λ_ _=>?_
 refine Rcl 2 q (Bd q q (Zs _) q (Bd q q (Zs _) q (Rll 10 q ?_)))
 refine OG 4 11 15 4 4 ?_
 refine Rl 1 q ?_
 refine OG 6 16 22 6 6 ?_
 refine Rlc 2 q (Ci h q (λh=>Rcx 7 q (FA h)) λh=>?_)
 refine Rcc 10 q (Ci h q (λh=>Rcl 4 q (Zq (ab E3 o1.set_ e54 q q Zl) q (Rlx 6 q (FA h)))) λh=>?_)
 refine Rcc 7 q (Jn0 [(3, .d (.pc (R67 o1)))] [] h (λg h=>?_) λh=>?_)
 refine Rcl 4 q (Zq (ab E3 o1.set_ e54 q q Zl) q (Rlc 4 q (Ln2 (λa c=> [(2, .d (.pc (R86 t0))),(3, .d (.pc (R67 o1))),(5, .n a),(31, .l E3 o1.set_),(32, .n (List.length o1.set_:Int)),(33, .n c)]) (λ_ _=> []) (f88_l1 t0 o1 g) h (λ_ _ h=>by rw[f88_l1] at h;cases h) λn a c h=>?_)))
 rw[f88_l1] at h
 refine Rcc 6 q (Ci h q (λh=>?_) λh=>?_)
 refine Rcl 6 q (Ix h e54 dF q Zl q q λp _ h=>(Rll 11 q ?_))
 apply WL.or 7 (t:=40) (d:=47)
 exact q
 intro w
 exact Rl 4 q (Zy (ab E67 t0.text.objs e27 q q Zl) q q q (Rl 2 q (WL.nil ⟨q,[_,_,_,_,_,_,_],q,q,q⟩)))
 exact Rn 7 7
 refine Rl 1 q ?_
 obtain⟨j,k,h⟩:=ac h
 refine Gg 9 48 57 j k (λh=>?_) (λh=>?_) ?_
 exact On 9 9 h
 refine Rl 4 q ?_
 obtain⟨x,e,h⟩:=ac h
 exact Zy (ah e27 q Zl q (ai e) (aw bJ e) q) q q q (On 4 9 h)
 refine Rl 1 q ?_
 obtain⟨m,o,h⟩:=ac h
 refine Gg 8 58 66 m o (λh=>?_) (λh=>?_) ?_
 exact On 8 8 h
 refine Rl 4 q ?_
 obtain⟨y,f,h⟩:=ac h
 exact Zy (ah e27 q Zl q (ai f) (aw bJ f) q) q q q (On 3 8 h)
 exact Rlc 2 q (Ci h q (λh=>Rcx 12 q (FA h)) λh=>Rcx 12 q (Fn2 h))
 exact Rcx 4 q (En0 h)
 refine Rcl 6 q ?_
 refine AG 4 72 76 4 4 ?_
 exact Rlx 4 q (FA h)

theorem f89_c{t0:aT}{o1:Int}{a:Int}{c:Int}{r:Bool}(h:f89 t0 o1 a c=some r):Pu prog 89 [.ag (R86 t0), .i .i64 o1, .i .i64 a, .i .i64 c] (.b r):=by
 unfold f89 at h
 refine fI func89 λ_ _=>?_
 refine Rcl 2 q (Bd q q (Zs _) q (Rll 8 q ?_))
 apply WL.and 7 (t:=11) (d:=18)
 exact q
 intro j
 exact Rl 4 q (Zy (ab E67 t0.text.objs e27 q q Zl) q q q (Rl 2 q (WL.nil ⟨q,[_,_,_,_,_,_,_],q,q,q⟩)))
 exact Rn 7 7
 refine Rl 1 q ?_
 refine AG 3 19 22 3 3 ?_
 refine Rl 1 q ?_
 obtain⟨f,g,h⟩:=ac h
 refine Gg 12 23 35 f g (λh=>?_) (λh=>?_) ?_
 refine Rl 5 q ?_
 obtain⟨k,e,h⟩:=ac h
 exact Zy (ah e27 q Zl q (ai e) (aw bJ e) q) q q q (On 6 12 h)
 exact On 12 12 h
 exact Rlx 4 q (FA h)

theorem f27_c{t0:aT}{r:Bool}(h:f27 t0=some r):Pu prog 27 [.ag (R86 t0)] (.b r):=by
 unfold f27 at h
 refine fI func27 λ_ _=>?_
 refine Rcl 2 q (Bd q q (Zs _) q (Rll 9 q (Zq (ab E67 t0.text.objs e27 q q Zl) q (Rl 2 q ?_))))
 refine OG 5 15 20 5 5 ?_
 refine Rl 1 q ?_
 refine OG 5 21 26 5 5 ?_
 refine Rlc 2 q (Ci h q (λh=>Rcx 7 q (FA h)) λh=>?_)
 refine Rcc 7 q (Jn1 (λc=> [(1, .d (.pc (R86 t0))),(3, .n c)]) (λ_=> []) h (λC h=>?_) λc h=>?_)
 refine Rcl 5 q (Zq (ab E67 t0.text.objs e27 q q Zl) q (Rlc 4 q (Ln2 (λf g=> [(1, .d (.pc (R86 t0))),(3, .n f),(29, .l E67 t0.text.objs),(30, .n (List.length t0.text.objs:Int)),(31, .n g)]) (λ_ _=> []) (f27_l1 t0 C) h (λ_ _ h=>by rw[f27_l1] at h;cases h) λn f g h=>?_)))
 rw[f27_l1] at h
 refine Rcc 6 q (Ci h q (λh=>?_) λh=>?_)
 refine Rcl 6 q (Ix h e27 bJ q Zl q q λE _ h=>(Rl 1 q (Al z67 q (sS Z6 s67 Z2 (Rll 7 q ?_)))))
 obtain⟨L,F,h⟩:=ac h
 refine wF Z4 (f88_c F) ⟨Zl,(aP (Zs _)),Zt⟩ Z3 (Rlc 3 q (Ci h q (λh=>?_) λh=>?_))
 exact Rcx 12 q (FA h)
 exact Rcx 15 q (WE.drop 0 (env':=[(1, .d (.pc (R86 t0))),(3, .n (IntKind.i64.wrap (f+E.size))),(29, .l E67 t0.text.objs),(30, .n (List.length t0.text.objs:Int)),(31, .n (IntKind.i64.wrap (g+1)))]) Sb q q (Nat.zero_le _) (Fn2 h))
 exact Rcx 4 q (En1 h)
 refine Rcl 2 q (WL.s ((gw (α:=Bool) (λx:Int×Int=>Value.agg ⟨[Value.int .i64 x.1,Value.int .i64 x.2]⟩) (λx:Bool=>AV.d (.b x))).does) (Zw q) q q (Rlc 3 q (Jn1 (λ_=> [(3, .n c)]) (λw=> [mpO (λx:Int×Int=>Value.agg ⟨[Value.int .i64 x.1,Value.int .i64 x.2]⟩) (λx:Bool=>AV.d (.b x)) w]) h (λG h=>?_) λw h=>?_)))
 refine Rcl 5 q (Zq (ab E93 t0.text.inits e28 q q Zl) q (Rlc 4 q (Ln2 (λj _=> [(1, .d (.pc (R86 t0))),(3, .n c),(6, .mp 0),(47, .l E93 t0.text.inits),(48, .n (List.length t0.text.inits:Int)),(49, .n j)]) (λ_ e=> [mpO (λx:Int×Int=>Value.agg ⟨[Value.int .i64 x.1,Value.int .i64 x.2]⟩) (λx:Bool=>AV.d (.b x)) e]) (f27_l2 t0 G) h (λ_ _ h=>by rw[f27_l2] at h;cases h) λn j e h=>?_)))
 rw[f27_l2] at h
 refine Rcc 6 q (Ci h q (λh=>?_) λh=>?_)
 refine Rcl 6 q (Ix h e28 kq q Zl q q λa _ h=>(Rl 1 q (Al z93 q (sS Z6 s93 Z2 (Rll 8 q (Zq (aa p152 z152 q q) q (Al z152 q (sS Z6 s152 Z2 (Rlc 4 q (ax kR kR (Rq 2 q (WQ.qn (lR (λx:Int×Int=>Value.agg ⟨[Value.int .i64 x.1,Value.int .i64 x.2]⟩) (λx:Bool=>AV.d (.b x)) e (k:=(a.o,a.slot)) (z:=false) (vs:=[.int .i64 a.o, .int .i64 a.slot]) underlying150 (jE underlying152 underlying3 underlying3 q q kR) q q q (aP (Zs _)) q kR q) q (Rq 1 q ?_)))))))))))))
 obtain⟨H,y,h⟩:=ac h
 apply WQ.grp 8 (t:=61) (d:=69) (z:=H)
 exact q
 intro m
 have h:=c9 y m
 refine Rq 8 q ?_
 obtain rfl:=Oi h
 exact WQ.nil ⟨[_,_,_,_,_,_,_,_],q,q,q⟩
 intro m
 have h:=da y m
 refine Rq 5 q ?_
 obtain⟨M,I,h⟩:=ac h
 refine WQ.q (YieldsQ.fn q q q q q (f89_c I) Lw) (aI q q q) q q (Rq 2 q ?_)
 obtain rfl:=Oi h
 exact WQ.nil ⟨[_,_,_,_,_,_,_,_],q,q,q⟩
 refine Rq 1 q ?_
 obtain⟨J,A,h⟩:=ac h
 apply WQ.grp 12 (t:=70) (d:=82) (z:=J)
 exact q
 intro p
 have h:=c9 A p
 refine Rq 12 q ?_
 obtain rfl:=Oi h
 exact WQ.nil ⟨[_,_,_,_,_,_,_,_,_,_,_,_],q,q,q⟩
 intro p
 have h:=da A p
 refine Rq 5 q ?_
 obtain⟨N,B,h⟩:=ac h
 refine WQ.qy (ah e27 q Zl q (ai B) (aw bJ B) q) q q q (Rq 3 q ?_)
 obtain⟨O,K,h⟩:=ac h
 refine WQ.q (YieldsQ.fn q q q q q (f45_c K) Lw) (aI q q q) q q (Rq 2 q ?_)
 obtain rfl:=Oi h
 exact WQ.nil ⟨[_,_,_,_,_,_,_,_,_,_,_,_],q,q,q⟩
 refine WQ.nil (Rxc 1 q (Ci h q (λh=>?_) λh=>?_))
 exact Rcx 12 q (FA h)
 exact Rcl 5 q (WL.s0 (iZ (λx:Int×Int=>Value.agg ⟨[Value.int .i64 x.1,Value.int .i64 x.2]⟩) (λx:Bool=>AV.d (.b x)) e (k:=(a.o,a.slot)) (vs:=[.int .i64 a.o, .int .i64 a.slot]) (.inr q) underlying150 (jE underlying152 underlying3 underlying3 q q kR) q q q (aP (Zs _)) q q) (Zw q) q (Rlx 7 q (WE.drop 1 (env':=[(1, .d (.pc (R86 t0))),(3, .n c),(6, .mp 0),(47, .l E93 t0.text.inits),(48, .n (List.length t0.text.inits:Int)),(49, .n (IntKind.i64.wrap (j+1)))]) Sb q (jh (o4 _ (λx:Int×Int=>Value.agg ⟨[Value.int .i64 x.1,Value.int .i64 x.2]⟩) (λx:Bool=>(.b x:D)) _) q) (Nat.zero_le _) (Fn2 h))))
 exact Rcx 4 q (En1 h)
 exact Rcx 8 q (FA h)

theorem f47_c(t0:aT)(a1:Int):Pu prog 47 [.ag (R86 t0), .i .i64 a1] (.b (f47 t0 a1)):=by
 generalize h:f47 t0 a1=r
 unfold f47 at h
 refine fI func47 λ_ _=>?_
 refine Rcl 2 q (Bd q q (Zs _) q (Rll 8 q ?_))
 apply WL.and 7 (t:=7) (d:=14)
 exact q
 intro a
 exact Rl 4 q (Zy (ab E59 t0.text.insns e22 q q Zl) q q q (Rl 2 q (WL.nil ⟨q,[_,_,_,_,_,_,_],q,q,q⟩)))
 exact Rn 7 7
 exact Rlx 4 q (FB h)

theorem f151_c(s0:List bd)(a:bd→oB)(g1:FuncId)(c e:lD)(g:∀(y0:bd)(r:Bool),a y0=some r→Pu prog g1 (c++ [.ag (R72 y0)]++e) (.b r)){r:Int}(h:f151 s0 a=some r):Pu prog 151 [.sl (List.map E72 s0), .fnc (.func g1) c e] (.i .i64 r):=by
 unfold f151 at h
 refine fI func151 λ_ _=>?_
 refine WC.cast 1 q (dX _ _ _) (Rcc 5 q (Jn0 [] [] h (λj h=>?_) λh=>?_))
 refine Rcl 3 q (Zq (ab E72 s0 e68 q q Zl) q (Rlc 4 q (Ln1 (λf=> [(0, .l E72 s0),(1, .fn (.func g1) (List.map AV.d c) (List.map AV.d e)),(7, .n (List.length s0:Int)),(8, .n f)]) (λ_=> []) (f151_l1 s0 a j) h (λ_ h=>by rw[f151_l1] at h;cases h) λn f h=>?_)))
 rw[f151_l1] at h
 refine Rcc 6 q (Ci h q (λh=>?_) λh=>?_)
 refine Rcl 15 q (Ix h e68 fx q Zl q q λm _ h=>(Rl 1 q ?_))
 obtain⟨o,k,h⟩:=ac h
 refine WL.fn q q q q (g _ _ k) (g' Lw) (Zw q) q q (Rlc 2 q (Ci h q (λh=>?_) λh=>?_))
 exact Rcx 12 q (FA h)
 exact Rcx 7 q (Fn1 h)
 exact Rcx 4 q (En0 h)
 exact Rcx 6 q (FA h)

theorem f90_c(s0:List bd)(d:bd→oB)(g1:FuncId)(a c:lD)(e:∀(y0:bd)(r:Bool),d y0=some r→Pu prog g1 (a++ [.ag (R72 y0)]++c) (.b r)){r:Bool}(h:f90 s0 d=some r):Pu prog 90 [.sl (List.map E72 s0), .fnc (.func g1) a c] (.b r):=by
 unfold f90 at h
 refine fI func90 λ_ _=>?_
 refine WC.cast 1 q (dX _ _ _) (Rcl 9 q ?_)
 obtain⟨g,f,h⟩:=ac h
 exact wF Z4 (f151_c _ _ g1 a c e f) ⟨Zl,(Le.fnc (Zs _) (Zs _)),Zt⟩ Z3 (Rlx 5 q (FA h))

theorem f152_c(o0:Int)(a:aT){r:Bool}(h:f152 o0 a=some r):Pu prog 152 [.i .i64 o0, .pc (R86 a)] (.b r):=by
 unfold f152 at h
 refine fI func152 λ_ _=>?_
 refine Rcl 10 q ?_
 apply WL.or 7 (t:=6) (d:=13)
 exact q
 intro g
 exact Rl 4 q (Zy (ab E67 a.text.objs e27 q q Zl) q q q (Rl 2 q (WL.nil ⟨q,[_,_,_,_,_,_,_],q,q,q⟩)))
 exact Rn 7 7
 refine Rl 1 q ?_
 obtain⟨e,f,h⟩:=ac h
 refine Gg 9 14 23 e f (λh=>?_) (λh=>?_) ?_
 exact On 9 9 h
 refine Rl 4 q ?_
 obtain⟨j,c,h⟩:=ac h
 exact Zy (ah e27 q Zl q (ai c) (aw bJ c) q) q q q (On 4 9 h)
 exact Rlx 4 q (FA h)

theorem f92_c{t0:aT}{l1:lI}{r:Bool}(h:f92 t0 l1=some r):Pu prog 92 [.ag (R86 t0), .sl (List.map E3 l1)] (.b r):=by
 unfold f92 at h
 refine fI func92 λ_ _=>?_
 refine Rcl 2 q (Bd q q (Zs _) q (Rll 6 q (Zq (ab E3 l1 e54 q q Zl) q (Rl 2 q ?_))))
 obtain⟨a,c,h⟩:=ac h
 refine Gg 5 8 13 a c (λh=>?_) (λh=>?_) ?_
 refine Rl 2 q ?_
 obtain⟨e,d,h⟩:=ac h
 exact WL.fn q q q q (f112_c _ _ 152 [] [(.pc (R86 t0))] (λz0 _ h=>f152_c z0 t0 h) d) ⟨Zl,(Le.fnc Zt Lw),Zt⟩ (aI q q q) q q (On 2 5 h)
 exact On 5 5 h
 exact Rlx 4 q (FA h)

theorem f91_c(e0:bd)(a:aT){r:Bool}(h:f91 e0 a=some r):Pu prog 91 [.ag (R72 e0), .pc (R86 a)] (.b r):=by
 unfold f91 at h
 refine fI func91 λ_ _=>?_
 refine Rcl 2 q (Bd q q (Zs _) q (Rll 8 q ?_))
 obtain⟨g,c,h⟩:=ac h
 refine wF Z4 (f92_c c) Lw Z3 (Rl 2 q ?_)
 obtain⟨d,e,h⟩:=ac h
 refine Gg 6 9 15 d e (λh=>?_) (λh=>?_) ?_
 exact On 6 6 h
 refine Rl 3 q ?_
 obtain⟨j,f,h⟩:=ac h
 exact WL.fn q q q q (f92_c f) Lw (aI q q q) q q (On 2 6 h)
 exact Rlx 4 q (FA h)

theorem f28_c{t0:aT}{r:Bool}(h:f28 t0=some r):Pu prog 28 [.ag (R86 t0)] (.b r):=by
 unfold f28 at h
 refine fI func28 λ_ _=>?_
 refine Rcl 2 q (Bd q q (Zs _) q (Rll 9 q (Zq (ab E70 t0.text.tasks e29 q q Zl) q (Rl 2 q ?_))))
 apply WL.or 6 (t:=10) (d:=16)
 exact q
 intro g
 exact Rl 3 q (Zy (ab E70 t0.text.tasks e29 q q Zl) q q q (Rl 2 q (WL.nil ⟨q,[_,_,_,_,_,_],q,q,q⟩)))
 exact Rn 6 6
 refine Rlc 2 q (Ci h q (λh=>Rcx 7 q (FA h)) λh=>?_)
 refine Rcc 2 q (Jn0 [] [] h (λc h=>?_) λh=>?_)
 refine Rcl 5 q (Zq (ab E70 t0.text.tasks e29 q q Zl) q (Rlc 4 q (Ln1 (λa=> [(1, .d (.pc (R86 t0))),(19, .l E70 t0.text.tasks),(20, .n (List.length t0.text.tasks:Int)),(21, .n a)]) (λ_=> []) (f28_l1 t0 c) h (λ_ h=>by rw[f28_l1] at h;cases h) λn a h=>?_)))
 rw[f28_l1] at h
 refine Rcc 6 q (Ci h q (λh=>?_) λh=>?_)
 refine Rcl 6 q (Ix h e29 dx q Zl q q λe _ h=>(Rl 1 q (Al z70 q (sS Z6 s70 Z2 (Rll 9 q ?_)))))
 refine OG 4 28 32 4 4 ?_
 refine Rl 1 q ?_
 apply WL.or 6 (t:=33) (d:=39)
 exact q
 intro j
 exact Rl 3 q (WL.fn q q q q (f47_c _ _) Lw (aI q q q) q q (Rl 2 q (WL.nil ⟨q,[_,_,_,_,_,_],q,q,q⟩)))
 exact Rn 6 6
 refine Rl 1 q ?_
 refine OG 4 40 44 4 4 ?_
 refine Rl 1 q ?_
 refine OG 4 45 49 4 4 ?_
 refine Rl 1 q ?_
 apply WL.or 5 (t:=50) (d:=55)
 exact q
 intro k
 exact Rl 2 q (Zy (ab E72 e.entries e68 q q Zl) q q q (Rl 2 q (WL.nil ⟨q,[_,_,_,_,_],q,q,q⟩)))
 exact Rn 5 5
 refine Rlc 2 q (Ci h q (λh=>Rcx 12 q (FA h)) λh=>?_)
 refine Rcl 7 q ?_
 obtain⟨m,f,h⟩:=ac h
 refine wF Z4 (f90_c _ _ 91 [] [(.pc (R86 t0))] (λz0 _ h=>f91_c z0 t0 h) f) ⟨Zl,(Le.fnc Zt Lw),Zt⟩ Z3 (Rlc 2 q (Ci h q (λh=>?_) λh=>?_))
 exact Rcx 11 q (FA h)
 exact Rcx 7 q (WE.drop 0 (env':=[(1, .d (.pc (R86 t0))),(19, .l E70 t0.text.tasks),(20, .n (List.length t0.text.tasks:Int)),(21, .n (IntKind.i64.wrap (a+1)))]) Sb q q (Nat.zero_le _) (Fn1 h))
 exact Rcx 4 q (En0 h)
 exact Rcx 6 q (FA h)

theorem f29_c{t0:aT}{r:Bool}(h:f29 t0=some r):Pu prog 29 [.ag (R86 t0)] (.b r):=by
 unfold f29 at h
 refine fI func29 λ_ _=>?_
 refine Rcl 2 q (Bd q q (Zs _) q (Rll 9 q (Zq (ab E54 t0.text.lists e26 q q Zl) q (Rlc 3 q (Ci h q (λh=>?_) λh=>?_)))))
 exact Rcx 7 q (FA h)
 refine Rcc 2 q (Jn0 [] [] h (λk h=>?_) λh=>?_)
 refine Rcl 5 q (Zq (ab E54 t0.text.lists e26 q q Zl) q (Rlc 4 q (Ln1 (λc=> [(1, .d (.pc (R86 t0))),(15, .l E54 t0.text.lists),(16, .n (List.length t0.text.lists:Int)),(17, .n c)]) (λ_=> []) (f29_l1 t0 k) h (λ_ h=>by rw[f29_l1] at h;cases h) λn c h=>?_)))
 rw[f29_l1] at h
 refine Rcc 6 q (Ci h q (λh=>?_) λh=>?_)
 refine Rcc 2 q (Jn1 (λ_=> [(1, .d (.pc (R86 t0))),(15, .l E54 t0.text.lists),(16, .n (List.length t0.text.lists:Int)),(17, .n c)]) (λf=> [mpO (λx:Int=>Value.int .i64 x) (λx:Bool=>AV.d (.b x)) f]) h (λ_ h=>?_) λf h=>?_)
 refine Rcl 3 q (Ix h e26 mE q Zl q q λa _ h=>(Rll 6 q (WL.s ((gw (α:=Bool) (λx:Int=>Value.int .i64 x) (λx:Bool=>AV.d (.b x))).does) (Zw q) q q (Rlc 3 q (Jn1 (λ_=> [(1, .d (.pc (R86 t0))),(4, .l E3 a),(15, .l E54 t0.text.lists),(16, .n (List.length t0.text.lists:Int)),(17, .n c)]) (λg=> [mpO (λx:Int=>Value.int .i64 x) (λx:Bool=>AV.d (.b x)) g]) h (λm h=>?_) λg h=>?_)))))
 refine Rcl 3 q (Zq (ab E3 a e54 q q Zl) q (Rlc 4 q (Ln2 (λj _=> [(1, .d (.pc (R86 t0))),(4, .l E3 a),(5, .mp 0),(15, .l E54 t0.text.lists),(16, .n (List.length t0.text.lists:Int)),(17, .n c),(22, .l E3 a),(23, .n (List.length a:Int)),(24, .n j)]) (λ_ e=> [mpO (λx:Int=>Value.int .i64 x) (λx:Bool=>AV.d (.b x)) e]) (f29_l2 t0 a m) h (λ_ _ h=>by rw[f29_l2] at h;cases h) λna j e h=>?_)))
 rw[f29_l2] at h
 refine Rcc 6 q (Ci h q (λh=>?_) λh=>?_)
 refine Rcl 6 q (Ix h e54 dF q Zl q q λo _ h=>(Rll 10 q ?_))
 apply WL.or 7 (t:=30) (d:=37)
 exact q
 intro p
 exact Rl 4 q (Zy (ab E70 t0.text.tasks e29 q q Zl) q q q (Rl 2 q (WL.nil ⟨q,[_,_,_,_,_,_,_],q,q,q⟩)))
 exact Rn 7 7
 refine Rl 1 q ?_
 apply WL.or 4 (t:=38) (d:=42)
 exact q
 intro w
 exact Rl 2 q (Zy (kD (λx:Int=>Value.int .i64 x) (λx:Bool=>AV.d (.b x)) e (z:=false) underlying157 underlying3 (KeyF.int .i64) q q q kR q) q q q (Rl 1 q (WL.nil ⟨q,[_,_,_,_],q,q,q⟩)))
 exact Rn 4 4
 refine Rlc 2 q (Ci h q (λh=>Rcx 17 q (FA h)) λh=>?_)
 exact Rcl 5 q (WL.s0 (gO (λx:Int=>Value.int .i64 x) (λx:Bool=>AV.d (.b x)) e (.inr q) underlying157 underlying3 (KeyF.int .i64) q q q q) (Zw q) q (Rlx 7 q (Fn2 h)))
 exact Rcx 4 q (En1 h)
 refine Rcl 3 q (Zq (ab E3 a e54 q q Zl) q (Rlc 3 q (Ci h q (λh=>?_) λh=>?_)))
 exact Rcx 11 q (FA h)
 exact Rcx 2 q (En1 h)
 exact Rcx 4 q (WE.drop 0 (env':=[(1, .d (.pc (R86 t0))),(15, .l E54 t0.text.lists),(16, .n (List.length t0.text.lists:Int)),(17, .n (IntKind.i64.wrap (c+1)))]) Sb q q (Nat.zero_le _) (Fn1 h))
 exact Rcx 4 q (En0 h)
 exact Rcx 6 q (FA h)

theorem f93s_c(b4:lN→lH→lP→lS→lL→lO→lT→Int→lK→lM→lC→Int→Int→aq→Int→Option (Bool×lN×lH×lP×lS×lL×lO×lT×Int×lK×lM×lC×Int×Int))(e:lN)(f:lH)(g:lP)(j:lS)(k:lL)(m:lO)(p:lT)(w:Int)(x:lK)(y:lM)(A:lC)(jent:Int)(jleft:Int)(e1:aq)(B:Int)(fi:∀(e:lN)(f:lH)(g:lP)(j:lS)(k:lL)(m:lO)(p:lT)(w:Int)(x:lK)(y:lM)(A:lC)(jent:Int)(jleft:Int)(x1:aq)(x2:Int)(r:Bool×lN×lH×lP×lS×lL×lO×lT×Int×lK×lM×lC×Int×Int),b4 e f g j k m p w x y A jent jleft x1 x2=some r→Ctr prog 93 [.pt 0 0, .d (.ag (R80 x1)), .n x2] [.row 160 [.l E59 e, .l E83 f, .l ce g, .l E65 j, .l E54 k, .l E67 m, .l E93 p, .n w, .l E70 x, .l E75 y, .l cv A, .n jent, .n jleft]] (oq 1 (.b r.1) (λ_=> [.row 160 [.l E59 r.2.1, .l E83 r.2.2.1, .l ce r.2.2.2.1, .l E65 r.2.2.2.2.1, .l E54 r.2.2.2.2.2.1, .l E67 r.2.2.2.2.2.2.1, .l E93 r.2.2.2.2.2.2.2.1, .n r.2.2.2.2.2.2.2.2.1, .l E70 r.2.2.2.2.2.2.2.2.2.1, .l E75 r.2.2.2.2.2.2.2.2.2.2.1, .l cv r.2.2.2.2.2.2.2.2.2.2.2.1, .n r.2.2.2.2.2.2.2.2.2.2.2.2.1, .n r.2.2.2.2.2.2.2.2.2.2.2.2.2]]))){r:Bool×lN×lH×lP×lS×lL×lO×lT×Int×lK×lM×lC×Int×Int}(h:f93s b4 e f g j k m p w x y A jent jleft e1 B=some r):Ctr prog 93 [.pt 0 0, .d (.ag (R80 e1)), .n B] [.row 160 [.l E59 e, .l E83 f, .l ce g, .l E65 j, .l E54 k, .l E67 m, .l E93 p, .n w, .l E70 x, .l E75 y, .l cv A, .n jent, .n jleft]] (oq 1 (.b r.1) (λ_=> [.row 160 [.l E59 r.2.1, .l E83 r.2.2.1, .l ce r.2.2.2.1, .l E65 r.2.2.2.2.1, .l E54 r.2.2.2.2.2.1, .l E67 r.2.2.2.2.2.2.1, .l E93 r.2.2.2.2.2.2.2.1, .n r.2.2.2.2.2.2.2.2.1, .l E70 r.2.2.2.2.2.2.2.2.2.1, .l E75 r.2.2.2.2.2.2.2.2.2.2.1, .l cv r.2.2.2.2.2.2.2.2.2.2.2.1, .n r.2.2.2.2.2.2.2.2.2.2.2.2.1, .n r.2.2.2.2.2.2.2.2.2.2.2.2.2]])):=by
 unfold f93s at h
 refine cI func93 λ_ _ _ _=>?_
 refine Rcl 2 q (Bx q q q (Bd q q (Zs _) q (WL.s ((gy q q (by exact(show Les [.n B] (List.map AV.d [.i .i64 B]) from Lw))).does) (Zw q) q q (Rll 12 q (sS Z6 s3 Z2 (St q (Rll 6 q ?_)))))))
 obtain⟨fo,fr,h⟩:=aQ h
 refine WL.inl (us:=[.pt 0 0, .d (.ag (R80 e1))]) (λrv st'=>(∃(b5:Bool),∃(b6:Int),∃(a:aq),∃(C:Int),∃(E:Int),∃(F:Int),∃(G:Int),fo b5 b6 a C E F G=some r∧Le rv (.tu [.d (.ag (R80 a)), .n b6, .d (D.b b5)])∧SLe st' [.row 160 [.l E59 e, .l E83 f, .l ce g, .l E65 j, .l E54 k, .l E67 m, .l E93 p, .n w, .l E70 x, .l E75 y, .l cv A, .n jent, .n (IntKind.i64.wrap (jleft - 1))], .row 158 [.pt 0 0], .row 80 [.d (D.i .u8 e1.kind), .d (D.i .u8 C), .n E, .n F, .n G, .n 0, .n 0, .n 0,sN]])) q q q q q ?_ (Zw q) q q ?_
 refine cI func153 λ_ _ _ _=>?_
 refine Rcl 2 q (Bd q q (Zs _) q (Al z80 q (Rll 9 q (sS Z6 s77 Z2 (St q (Rlc 2 q (Jn5 (λb7 _ _ _ _=> [(4, .pt 2 0),(5, .n b7)]) (λ_ I J K L=> [.row 160 [.l E59 e, .l E83 f, .l ce g, .l E65 j, .l E54 k, .l E67 m, .l E93 p, .n w, .l E70 x, .l E75 y, .l cv A, .n jent, .n (IntKind.i64.wrap (jleft - 1))], .row 158 [.pt 0 0], .row 80 [.d (D.i .u8 e1.kind), .d (D.i .u8 I), .n J, .n K, .n L, .n 0, .n 0, .n 0,sN]]) h (λ_ h=>?_) λb7 I J K L h=>?_)))))))
 refine Rcc 13 q (Ci h q (λh=>Rcl 4 q (sS Z6 s2 Z2 (St q (Rlx 2 q (En5 h))))) λh=>?_)
 refine Rcc 6 q (Ci h q (λh=>?_) λh=>?_)
 refine Rcc 2 q (ax kR kR (Rq 8 q ?_))
 obtain⟨gm,fv,h⟩:=ac h
 refine WQ.q (YieldsQ.fn q q q q q (f89_c fv) ⟨(aP (Zs _)),Zl,Zl,Zl,Zt⟩) (Zw q) q q (Rq 2 q ?_)
 obtain⟨fz,el,h⟩:=ac h
 apply WQ.grp 12 (t:=30) (d:=42) (z:=fz)
 exact q
 intro b8
 have h:=c9 el b8
 refine Rq 12 q ?_
 obtain rfl:=Oi h
 exact WQ.nil ⟨[_,_,_,_,_,_,_,_,_,_,_,_],q,q,q⟩
 intro b8
 have h:=da el b8
 refine Rq 8 q ?_
 obtain⟨gs,em,h⟩:=ac h
 refine WQ.qy (ah e27 q Zl q (ai em) (aw bJ em) q) q q q (Rq 3 q ?_)
 obtain rfl:=Oi h
 exact WQ.nil ⟨[_,_,_,_,_,_,_,_,_,_,_,_],q,q,q⟩
 refine WQ.nil (Rxc 1 q (Ci h q (λh=>?_) λh=>?_))
 exact Rcl 3 q (sS Z6 s80 Z2 (St q (Rlx 8 q (aG (rs3 q (cx q q a80 s80 q) (bn q) (bn q)) ⟨false,0,(aq.mk e1.kind 0 0 0 0 0 0 0 []),0,0,0,0,h,(Le.tu ⟨(aP ⟨Zl,Zl,Zl,Zl,Zl,Zl,Zl,Zl,Le.nil,Zt⟩),Zl,Zl,Zt⟩),⟨Zp,Zp,Zp,Zt⟩⟩))))
 refine Rcc 2 q ?_
 apply RT [_,_,_,_,_, .u,_, .u] [5,7] [[.row 160 [.l E59 e, .l E83 f, .l ce g, .l E65 j, .l E54 k, .l E67 m, .l E93 p, .n w, .l E70 x, .l E75 y, .l cv A, .n jent, .n (IntKind.i64.wrap (jleft - 1))], .row 158 [.pt 0 0], .row 80 [.d (D.i .u8 e1.kind), .d (D.i .u8 0), .n 0, .n e1.o, .n 0, .n 0, .n 0, .n 0,sN]],[.row 160 [.l E59 e, .l E83 f, .l ce g, .l E65 j, .l E54 k, .l E67 m, .l E93 p, .n w, .l E70 x, .l E75 y, .l cv A, .n jent, .n (IntKind.i64.wrap (jleft - 1))], .row 158 [.pt 0 0], .row 80 [.d (D.i .u8 e1.kind), .d (D.i .u8 0), .n 0, .n e1.o, .n e1.off, .n 0, .n 0, .n 0,sN]]] [p01 3,p10 0,u01 3,u10 2,p01 4,p20 4 1,q01 4 1,q20 6 3 1] kR kR q q
 refine Y2 ?_
 refine X2b ?_
 refine Y1 ?_
 refine zo (λ_=>sS Z6 s3 Z2 (eu q q)) ?_
 refine Y1 ?_
 exact zo (λ_=>sS Z6 s3 Z2 (eu q q)) Zt
 exact Rxx 1 q (En5 h)
 refine Rcc 6 q (Ci h q (λh=>?_) λh=>?_)
 refine Rcl 5 q (sS Z6 s2 Z2 (St q (Rlc 2 q (Jn1 (λb9=> [(4, .pt 2 0),(5, .n 0),(6, .d (D.b b9))]) (λ_=> [.row 160 [.l E59 e, .l E83 f, .l ce g, .l E65 j, .l E54 k, .l E67 m, .l E93 p, .n w, .l E70 x, .l E75 y, .l cv A, .n jent, .n (IntKind.i64.wrap (jleft - 1))], .row 158 [.pt 0 0], .row 80 [.d (D.i .u8 e1.kind), .d (D.i .u8 0), .n e1.n, .n 0, .n 0, .n 0, .n 0, .n 0,sN]]) h (λ_ h=>?_) λb9 h=>?_))))
 rcases oh (decide (e1.n≥0)) with H|H
 replace h:=c9 h H
 apply RT [_,_,_,_,_,_,_,_,_,_,_,_,_, .u,_,_] [] [] [p01 4,p01 3,p10 1,p10 2,p10 3,p11 4 3,p20 5 4,p11 4 0,p20 7 4,p20 8 4,p20 9 4,p30 6 10 4,p20 4 11,p11 0 4,p00,p10 12] kR kR q q
 refine Y4 ?_
 refine zo (rc H) ?_
 refine Y8 ?_
 refine zo (λ_=>sS Z6 s80 Z2 (eu q q)) ?_
 exact Y2 Zt
 exact En1 h
 replace h:=da h H
 apply RT [_,_,_,_,_,_,_,_,_,_,_,_,_, .u,_,_] [] [] [p01 4,p01 3,p10 1,p10 2,p10 3,p10 4,p10 4,p10 4,p10 4,p10 4,p10 4,p10 4,p20 4 11,p11 0 4,p00,p10 12] kR kR q q
 refine Y4 ?_
 refine zo (rc H) ?_
 refine Y8 ?_
 refine zo (λ_=>sS Z6 s80 Z2 (eu q q)) ?_
 exact Y2 Zt
 exact En1 h
 exact Rcx 3 q (aG (rs3 q (cx q q a80 s80 q) (bn q) (bn q)) ⟨b9,0,(aq.mk e1.kind 0 e1.n 0 0 0 0 0 []),0,e1.n,0,0,h,(Le.tu ⟨(aP ⟨Zl,Zl,Zl,Zl,Zl,Zl,Zl,Zl,Le.nil,Zt⟩),Zl,Zl,Zt⟩),⟨Zp,Zp,Zp,Zt⟩⟩)
 refine Rcc 6 q (Ci h q (λh=>Rcl 2 q (sS Z6 s78 Z2 (St q (Rlx 3 q (En5 h))))) λh=>?_)
 refine Rcc 6 q (Ci h q (λh=>?_) λh=>?_)
 exact Rcl 3 q (Zq (mI q q q) q (Zq (mJ q q q) q (Rl 1 q (sS Z6 s78 Z2 (St q (Rlx 3 q (En5 h)))))))
 refine Jn1 (λen=> [(4, .pt 2 0),(78, .d (D.b en))]) (λ_=> [.row 160 [.l E59 e, .l E83 f, .l ce g, .l E65 j, .l E54 k, .l E67 m, .l E93 p, .n w, .l E70 x, .l E75 y, .l cv A, .n jent, .n (IntKind.i64.wrap (jleft - 1))], .row 158 [.pt 0 0], .row 80 [.d (D.i .u8 e1.kind), .d (D.i .u8 0), .n 0, .n 0, .n 0, .n 0, .n 0, .n 0,sN]]) h (λ_ h=>?_) (λen h=>?_)
 exact Rcc 6 q (Ci h q (λh=>Rcx 1 q (En1 h)) λh=>Rcx 4 q (En1 h))
 refine Ci h q (λh=>?_) (λh=>?_)
 exact Rcx 4 q (En5 h)
 exact Rcl 3 q (sS Z6 s80 Z2 (St q (Rlx 7 q (aG (rs3 q (cx q q a80 s80 q) (bn q) (bn q)) ⟨false,0,(aq.mk e1.kind 0 0 0 0 0 0 0 []),0,0,0,0,h,(Le.tu ⟨(aP ⟨Zl,Zl,Zl,Zl,Zl,Zl,Zl,Zl,Le.nil,Zt⟩),Zl,Zl,Zt⟩),⟨Zp,Zp,Zp,Zt⟩⟩))))
 exact Rcl 4 q (sS Z6 s80 Z2 (St q (Rlx 5 q (aG (rs3 q (cx q q a80 s80 q) (bn q) (bn q)) ⟨true,b7,(aq.mk e1.kind I J K L 0 0 0 []),I,J,K,L,h,(Le.tu ⟨(aP ⟨Zl,Zl,Zl,Zl,Zl,Zl,Zl,Zl,Le.nil,Zt⟩),Zl,Zl,Zt⟩),⟨Zp,Zp,Zp,Zt⟩⟩))))
 rintro rv st1 ⟨b5,b6,a,C,E,F,G,h,hr,hst⟩
 subst fr
 dsimp only at h
 refine WL.cast 20 q hr (WL.weak hst (Rl 4 q (Al z80 q (sS Z6 s80 Z2 (St q (Rl 2 q (Zn (Rcl 9 q ?_))))))))
 refine OG 3 29 32 3 3 ?_
 refine Rl 1 q ?_
 refine OG 3 33 36 3 3 ?_
 refine Rl 1 q ?_
 apply WL.or 6 (t:=37) (d:=43)
 exact q
 intro gx
 exact Rl 2 q (Zy (ab E80 e1.l e73 q q Zl) q q q (Rl 3 q (WL.nil ⟨q,[_,_,_,_,_,_],q,q,q⟩)))
 exact Rn 6 6
 refine Rl 1 q ?_
 refine OG 6 44 50 6 6 ?_
 refine Rl 1 q ?_
 refine OG 6 51 57 6 6 ?_
 refine Rl 1 q ?_
 refine OG 6 58 64 6 6 ?_
 refine Rl 1 q ?_
 refine OG 6 65 71 6 6 ?_
 refine Rl 1 q ?_
 refine OG 4 72 76 4 4 ?_
 refine Rl 1 q ?_
 refine OG 4 77 81 4 4 ?_
 refine Rl 1 q ?_
 refine OG 4 82 86 4 4 ?_
 refine Rlc 2 q (Ci h q (λh=>?_) λh=>?_)
 refine Rcx 7 q ?_
 obtain rfl:=Oi h
 exact gD 0 (rs1 q (bn q)) Zl q ⟨Zp,Zt⟩
 refine Rcl 7 q ?_
 obtain⟨f0,f1,h⟩:=aQ h
 refine WL.inl (us:=[.l E80 e1.l, .fn (.func 155) [] [.pt 1 0, .d (.pc (E3 B))]]) (λrv st'=>(∃(b':Bool),∃(ca:lN),∃(cc:lH),∃(cd:lP),∃(ci:lS),∃(cj:lL),∃(cl:lO),∃(cp:lT),∃(c0:Int),∃(c1:lK),∃(c2:lM),∃(c3:lC),∃(c4:Int),∃(c5:Int),f0 b' ca cc cd ci cj cl cp c0 c1 c2 c3 c4 c5=some r∧Le rv (.d (D.b b'))∧SLe st' [.row 160 [.l E59 ca, .l E83 cc, .l ce cd, .l E65 ci, .l E54 cj, .l E67 cl, .l E93 cp, .n c0, .l E70 c1, .l E75 c2, .l cv c3, .n c4, .n c5], .row 158 [.pt 0 0], .row 80 [.d (D.i .u8 e1.kind), .d (D.i .u8 C), .n E, .n F, .n G, .n 0, .n 0, .n 0,sN], .row 80 [.d (D.i .u8 a.kind), .d (D.i .u8 a.op), .n a.n, .n a.o, .n a.off, .n a.len, .n a.lo, .n a.hi, .l E80 a.l]])) q q q q q ?_ (Zw q) q q ?_
 refine cI func154 λ_ _ _ _=>?_
 refine Rcl 9 q ?_
 obtain⟨eq,f2,h⟩:=aQ h
 refine WL.inl (us:=[.l E80 e1.l, .fn (.func 155) [] [.pt 1 0, .d (.pc (E3 B))]]) (λrv st'=>(∃(M:Int),∃(N:lN),∃(O:lH),∃(P:lP),∃(Q:lS),∃(R:lL),∃(S:lO),∃(T:lT),∃(U:Int),∃(V:lK),∃(W:lM),∃(X:lC),∃(Y:Int),∃(Z:Int),eq M N O P Q R S T U V W X Y Z=some r∧Le rv (.n M)∧SLe st' [.row 160 [.l E59 N, .l E83 O, .l ce P, .l E65 Q, .l E54 R, .l E67 S, .l E93 T, .n U, .l E70 V, .l E75 W, .l cv X, .n Y, .n Z], .row 158 [.pt 0 0], .row 80 [.d (D.i .u8 e1.kind), .d (D.i .u8 C), .n E, .n F, .n G, .n 0, .n 0, .n 0,sN], .row 80 [.d (D.i .u8 a.kind), .d (D.i .u8 a.op), .n a.n, .n a.o, .n a.off, .n a.len, .n a.lo, .n a.hi, .l E80 a.l]])) q q q q q ?_ (Zw q) q q ?_
 refine cI func184 λ_ _ _ _=>?_
 refine Rcc 5 q (Jn13 (λ_ _ _ _ _ _ _ _ _ _ _ _ _=> []) (λc6 c7 c8 c' dd df ds dS d0 d1 d2 d' ec=> [.row 160 [.l E59 c6, .l E83 c7, .l ce c8, .l E65 c', .l E54 dd, .l E67 df, .l E93 ds, .n dS, .l E70 d0, .l E75 d1, .l cv d2, .n d', .n ec], .row 158 [.pt 0 0], .row 80 [.d (D.i .u8 e1.kind), .d (D.i .u8 C), .n E, .n F, .n G, .n 0, .n 0, .n 0,sN], .row 80 [.d (D.i .u8 a.kind), .d (D.i .u8 a.op), .n a.n, .n a.o, .n a.off, .n a.len, .n a.lo, .n a.hi, .l E80 a.l]]) h (λf3 h=>?_) λc6 c7 c8 c' dd df ds dS d0 d1 d2 d' ec h=>?_)
 refine Rcl 3 q (Zq (ab E80 e1.l e73 q q Zl) q (Rlc 4 q (Ln14 (λee _ _ _ _ _ _ _ _ _ _ _ _ _=> [(0, .l E80 e1.l),(1, .fn (.func 155) [] [.pt 1 0, .d (.pc (E3 B))]),(7, .n (List.length e1.l:Int)),(8, .n ee)]) (λ_ er es et ew ex ey e0 e2 e3 e4 e5 e6 e'=> [.row 160 [.l E59 er, .l E83 es, .l ce et, .l E65 ew, .l E54 ex, .l E67 ey, .l E93 e0, .n e2, .l E70 e3, .l E75 e4, .l cv e5, .n e6, .n e'], .row 158 [.pt 0 0], .row 80 [.d (D.i .u8 e1.kind), .d (D.i .u8 C), .n E, .n F, .n G, .n 0, .n 0, .n 0,sN], .row 80 [.d (D.i .u8 a.kind), .d (D.i .u8 a.op), .n a.n, .n a.o, .n a.off, .n a.len, .n a.lo, .n a.hi, .l E80 a.l]]) (f93s_l1 b4 e1 B eq f3) h (λ_ _ _ _ _ _ _ _ _ _ _ _ _ _ h=>by rw[f93s_l1] at h;cases h) λn ee er es et ew ex ey e0 e2 e3 e4 e5 e6 e' h=>?_)))
 rw[f93s_l1] at h
 refine Rcc 6 q (Ci h q (λh=>?_) λh=>?_)
 refine Rcl 15 q (Ix h e73 eC q Zl q q λf5 _ h=>(Rl 1 q ?_))
 obtain⟨f6,f7,h⟩:=aQ h
 refine WL.inl (us:=[.d (.ag (R80 f5)), .pt 1 0, .d (.pc (E3 B))]) (λrv st'=>(∃(ei:Bool),∃(ad:lN),∃(a0:lH),∃(a1:lP),∃(a6:lS),∃(a7:lL),∃(a':lO),∃(bb:lT),∃(bk:Int),∃(bs:lK),∃(b0:lM),∃(b1:lC),∃(b2:Int),∃(b3:Int),f6 ei ad a0 a1 a6 a7 a' bb bk bs b0 b1 b2 b3=some r∧Le rv (.d (D.b ei))∧SLe st' [.row 160 [.l E59 ad, .l E83 a0, .l ce a1, .l E65 a6, .l E54 a7, .l E67 a', .l E93 bb, .n bk, .l E70 bs, .l E75 b0, .l cv b1, .n b2, .n b3], .row 158 [.pt 0 0], .row 80 [.d (D.i .u8 e1.kind), .d (D.i .u8 C), .n E, .n F, .n G, .n 0, .n 0, .n 0,sN], .row 80 [.d (D.i .u8 a.kind), .d (D.i .u8 a.op), .n a.n, .n a.o, .n a.off, .n a.len, .n a.lo, .n a.hi, .l E80 a.l]])) q q q q q ?_ (Zw q) q q ?_
 refine cI func155 λ_ _ _ _=>?_
 refine Rcl 2 q (Bd q q (Zs _) q (Rll 9 q ?_))
 obtain⟨c,gl,h⟩:=ac h
 refine nA [0] q q q q (fi _ _ _ _ _ _ _ _ _ _ _ _ _ _ _ _ gl) Lw q dC (Re q) ⟨q,Zt⟩ q q (λ_=>q) (λ_=>(Re q)) (Zw q) q q (λg0=>?_)
 exact Rlx 5 q (aG (rs1 q (bn q)) ⟨(!c.1),c.2.1,c.2.2.1,c.2.2.2.1,c.2.2.2.2.1,c.2.2.2.2.2.1,c.2.2.2.2.2.2.1,c.2.2.2.2.2.2.2.1,c.2.2.2.2.2.2.2.2.1,c.2.2.2.2.2.2.2.2.2.1,c.2.2.2.2.2.2.2.2.2.2.1,c.2.2.2.2.2.2.2.2.2.2.2.1,c.2.2.2.2.2.2.2.2.2.2.2.2.1,c.2.2.2.2.2.2.2.2.2.2.2.2.2,h,Zl,⟨Zp,Zp,Zp,Zp,Zt⟩⟩)
 rintro rv st1 ⟨ei,ad,a0,a1,a6,a7,a',bb,bk,bs,b0,b1,b2,b3,h,hr,hst⟩
 subst f7
 dsimp only at h
 refine WL.cast 16 q hr (WL.weak hst (Zn (Ci h q (λh=>?_) λh=>?_)))
 exact Rcx 12 q (aG (rs1 q (bn q)) ⟨ee,ad,a0,a1,a6,a7,a',bb,bk,bs,b0,b1,b2,b3,h,Zl,⟨Zp,Zp,Zp,Zp,Zt⟩⟩)
 exact Rcx 7 q (cE ⟨_,⟨_,_,_,_,_,_,_,_,_,_,_,_,_,_,h,Sb,Tv⟩,Nat.lt_succ_self _⟩)
 exact Rcx 4 q (cE ⟨_,_,_,_,_,_,_,_,_,_,_,_,_,h,Sb,Tv⟩)
 exact Rcx 6 q (aG (rs1 q (bn q)) ⟨(-1),c6,c7,c8,c',dd,df,ds,dS,d0,d1,d2,d',ec,h,Zl,⟨Zp,Zp,Zp,Zp,Zt⟩⟩)
 rintro rv st1 ⟨M,N,O,P,Q,R,S,T,U,V,W,X,Y,Z,h,hr,hst⟩
 subst f2
 dsimp only at h
 exact WL.cast 7 q hr (WL.weak hst (Rl 2 q (Zn (Rcx 1 q (aG (rs1 q (bn q)) ⟨(decide (M≥0)),N,O,P,Q,R,S,T,U,V,W,X,Y,Z,h,Zl,⟨Zp,Zp,Zp,Zp,Zt⟩⟩)))))
 rintro rv st1 ⟨b',ca,cc,cd,ci,cj,cl,cp,c0,c1,c2,c3,c4,c5,h,hr,hst⟩
 subst f1
 dsimp only at h
 refine WL.cast 90 q hr (WL.weak hst (Rl 2 q (Zn (Rcx 1 q ?_))))
 obtain rfl:=Oi h
 exact gD 0 (rs1 q (bn q)) Zl q ⟨Zp,Zt⟩

theorem f93_c:∀(n:Nat)(a:lN)(c:lH)(e:lP)(f:lS)(g:lL)(j:lO)(k:lT)(m:Int)(o:lK)(p:lM)(t:lC)(jent:Int)(jleft:Int)(x1:aq)(x2:Int){r:Bool×lN×lH×lP×lS×lL×lO×lT×Int×lK×lM×lC×Int×Int},f93 n a c e f g j k m o p t jent jleft x1 x2=some r→Ctr prog 93 [.pt 0 0, .d (.ag (R80 x1)), .n x2] [.row 160 [.l E59 a, .l E83 c, .l ce e, .l E65 f, .l E54 g, .l E67 j, .l E93 k, .n m, .l E70 o, .l E75 p, .l cv t, .n jent, .n jleft]] (oq 1 (.b r.1) (λ_=> [.row 160 [.l E59 r.2.1, .l E83 r.2.2.1, .l ce r.2.2.2.1, .l E65 r.2.2.2.2.1, .l E54 r.2.2.2.2.2.1, .l E67 r.2.2.2.2.2.2.1, .l E93 r.2.2.2.2.2.2.2.1, .n r.2.2.2.2.2.2.2.2.1, .l E70 r.2.2.2.2.2.2.2.2.2.1, .l E75 r.2.2.2.2.2.2.2.2.2.2.1, .l cv r.2.2.2.2.2.2.2.2.2.2.2.1, .n r.2.2.2.2.2.2.2.2.2.2.2.2.1, .n r.2.2.2.2.2.2.2.2.2.2.2.2.2]]))
 |0,_,_,_,_,_,_,_,_,_,_,_,_,_,_,_,_,h=>by cases h
 |n+1,a,c,e,f,g,j,k,m,o,p,t,jent,jleft,x1,x2,_,h=>f93s_c (f93 n) a c e f g j k m o p t jent jleft x1 x2 (λa c e f g j k m o p t jent jleft x1 x2 _ h=>f93_c n a c e f g j k m o p t jent jleft x1 x2 h) h

theorem f30_c{t0:aT}{r:Bool}(h:f30 t0=some r):Pu prog 30 [.ag (R86 t0)] (.b r):=by
 unfold f30 at h
 refine fI func30 λ_ _=>?_
 refine Rcl 2 q (Bd q q (Zs _) q (Rlc 3 q (Jn0 [(1, .d (.pc (R86 t0)))] [] h (λj h=>?_) λh=>?_)))
 refine Rcl 5 q (Zq (ab E75 t0.text.prots e30 q q Zl) q (Rlc 4 q (Ln1 (λc=> [(1, .d (.pc (R86 t0))),(10, .l E75 t0.text.prots),(11, .n (List.length t0.text.prots:Int)),(12, .n c)]) (λ_=> []) (f30_l1 t0 j) h (λ_ h=>by rw[f30_l1] at h;cases h) λn c h=>?_)))
 rw[f30_l1] at h
 refine Rcc 6 q (Ci h q (λh=>?_) λh=>?_)
 refine Rcc 2 q (Jn2 (λ_ _=> [(1, .d (.pc (R86 t0))),(10, .l E75 t0.text.prots),(11, .n (List.length t0.text.prots:Int)),(12, .n c)]) (λf g=> [.row 75 [.n f, .l E80 g]]) h (λk h=>?_) λf g h=>?_)
 refine Rcl 3 q (Ix h e30 fw q Zl q q λa _ h=>(Rl 1 q (Al z75 q (sS Z6 s75 Z2 (Rll 9 q ?_)))))
 refine OG 4 19 23 4 4 ?_
 refine Rl 1 q ?_
 apply WL.or 5 (t:=24) (d:=29)
 exact q
 intro o
 exact Rl 2 q (Zy (ab E80 a.barriers e73 q q Zl) q q q (Rl 2 q (WL.nil ⟨q,[_,_,_,_,_],q,q,q⟩)))
 exact Rn 5 5
 refine Rlc 2 q (Ci h q (λh=>Rcx 12 q (FA h)) λh=>?_)
 refine Rcl 6 q (Zq (ab E80 a.barriers e73 q q Zl) q (Rlc 4 q (Ln1 (λe=> [(1, .d (.pc (R86 t0))),(4, .pt 0 0),(10, .l E75 t0.text.prots),(11, .n (List.length t0.text.prots:Int)),(12, .n c),(31, .l E80 a.barriers),(32, .n (List.length a.barriers:Int)),(33, .n e)]) (λ_=> [.row 75 [.n a.ceiling, .l E80 a.barriers]]) (f30_l2 t0 k a) h (λ_ h=>by rw[f30_l2] at h;cases h) λna e h=>?_)))
 rw[f30_l2] at h
 refine Rcc 6 q (Ci h q (λh=>?_) λh=>?_)
 refine Rcl 6 q (Ix h e73 eC q Zl q q λp _ h=>(Rl 1 q (Al z80 q (sS Z6 s80 Z2 (Rll 7 q (Zq (ab E80 a.barriers e73 q q Zl) q (Zq (aa p160 z160 q q) q (Bx q q q (Rll 7 q ?_)))))))))
 obtain⟨w,m,h⟩:=ac h
 refine nA [2] q q q q (f93_c 66 _ _ _ _ _ _ _ _ _ _ _ _ _ _ _ m) ⟨Zl,(aP (Zs _)),Zl,Zt⟩ q dC (Re q) ⟨q,Zt⟩ q q (λ_=>q) (λ_=>(Re q)) (Zw q) q q (λx=>?_)
 refine Rlc 3 q (Ci h q (λh=>Rcx 15 q (FA h)) λh=>?_)
 exact Rcx 7 q (WE.drop 1 (env':=[(1, .d (.pc (R86 t0))),(4, .pt 0 0),(10, .l E75 t0.text.prots),(11, .n (List.length t0.text.prots:Int)),(12, .n c),(31, .l E80 a.barriers),(32, .n (List.length a.barriers:Int)),(33, .n (IntKind.i64.wrap (e+1)))]) Sb q q (Nat.zero_le _) (Fn1 h))
 exact Rcx 5 q (En2 h)
 exact Rcx 4 q (WE.drop 0 (env':=[(1, .d (.pc (R86 t0))),(10, .l E75 t0.text.prots),(11, .n (List.length t0.text.prots:Int)),(12, .n (IntKind.i64.wrap (c+1)))]) Sb q q (Nat.zero_le _) (Fn1 h))
 exact Rcx 4 q (En0 h)
 exact Rcl 5 q (Zq (ab E75 t0.text.prots e30 q q Zl) q (Rlx 5 q (FA h)))

theorem f157_c{n0:Int}{a:aT}{c:Int}{r:Bool}(h:f157 n0 a c=some r):Pu prog 157 [.i .i64 n0, .pc (R86 a), .pc (E3 c)] (.b r):=by
 unfold f157 at h
 refine fI func157 λ_ _=>?_
 refine Rcl 10 q ?_
 obtain⟨e,d,h⟩:=ac h
 exact wF Z4 (f89_c d) Lw Z3 (Rlx 4 q (FA h))

theorem f96_c{t0:aT}{a:Int}{a2:fu}{r:Bool}(h:f96 t0 a a2=some r):Pu prog 96 [.ag (R86 t0), .i .i64 a, .ag (mB a2)] (.b r):=by
 unfold f96 at h
 refine fI func96 λ_ _=>?_
 refine Rcl 2 q (Bd q q (Zs _) q (WL.s ((gy q q (by exact(show Les [.n a] (List.map AV.d [.i .i64 a]) from Lw))).does) (Zw q) q q (Bd q q (Zs _) q (Rll 15 q (wF Z4 (f47_c _ _) Lw Z3 (Rl 2 q ?_))))))
 obtain⟨e,f,h⟩:=ac h
 refine Gg 11 14 25 e f (λh=>?_) (λh=>?_) ?_
 exact On 11 11 h
 refine Rl 4 q ?_
 obtain⟨g,j,h⟩:=ac h
 refine Gg 6 18 24 g j (λh=>?_) (λh=>?_) ?_
 refine Rl 3 q ?_
 obtain⟨w,k,h⟩:=ac h
 exact WL.fn q q q q (f157_c k) Lw (aI q q q) q q (On 2 6 h)
 exact On 6 6 h
 exact On 1 6 h
 refine Rlc 2 q (Ci h q (λh=>Rcx 7 q (FA h)) λh=>?_)
 refine Rcc 16 q (Ci h q (λh=>?_) λh=>?_)
 refine Rcl 6 q ?_
 refine AG 4 33 37 4 4 ?_
 refine Rl 1 q ?_
 refine AG 4 38 42 4 4 ?_
 exact Rlx 6 q (FA h)
 refine Jn1 (λc=> [(5, .d (.pc (mB a2))),(7, .fn (.func 157) [] [.d (.pc (R86 t0)), .d (.pc (E3 a))]),(43, .d (D.b c))]) (λ_=> []) h (λ_ h=>?_) (λc h=>?_)
 exact Rcc 6 q (Ci h q (λh=>Rcx 1 q (En1 h)) λh=>Rcx 4 q (En1 h))
 refine Ci h q (λh=>?_) (λh=>?_)
 refine Rcl 6 q ?_
 obtain⟨m,o,h⟩:=ac h
 refine Gg 5 49 54 m o (λh=>?_) (λh=>?_) ?_
 refine Rl 3 q ?_
 obtain⟨x,p,h⟩:=ac h
 exact WL.fn q q q q (f157_c p) Lw (aI q q q) q q (On 1 5 h)
 exact On 5 5 h
 exact Rlx 6 q (FA h)
 refine Rcl 9 q ?_
 apply WL.and 7 (t:=58) (d:=65)
 exact q
 intro y
 exact Rl 4 q (Zy (rO q q q) q q q (Rl 2 q (WL.nil ⟨q,[_,_,_,_,_,_,_],q,q,q⟩)))
 exact Rn 7 7
 exact Rlx 4 q (FA h)

theorem f31_c{t0:aT}{r:Bool}(h:f31 t0=some r):Pu prog 31 [.ag (R86 t0)] (.b r):=by
 unfold f31 at h
 refine fI func31 λ_ _=>?_
 refine Rcl 2 q (Bd q q (Zs _) q (Rll 9 q (Zq (ab E65 t0.text.selects e25 q q Zl) q (Rlc 3 q (Ci h q (λh=>?_) λh=>?_)))))
 exact Rcx 7 q (FA h)
 refine Rcc 2 q (Jn0 [] [] h (λm h=>?_) λh=>?_)
 refine Rcl 5 q (Zq (ab E65 t0.text.selects e25 q q Zl) q (Rlc 4 q (Ln1 (λe=> [(1, .d (.pc (R86 t0))),(12, .l E65 t0.text.selects),(13, .n (List.length t0.text.selects:Int)),(14, .n e)]) (λ_=> []) (f31_l1 t0 m) h (λ_ h=>by rw[f31_l1] at h;cases h) λn e h=>?_)))
 rw[f31_l1] at h
 refine Rcc 6 q (Ci h q (λh=>?_) λh=>?_)
 refine Rcl 6 q (Ix h e25 mD q Zl q q λa _ h=>(Rl 1 q (Al z65 q (sS Z6 s65 Z2 (Rll 7 q (Zq (ab dy a.alts e63 q q Zl) q (Rl 2 q ?_)))))))
 apply WL.or 5 (t:=22) (d:=27)
 exact q
 intro F
 exact Rl 2 q (Zy (ab dy a.alts e63 q q Zl) q q q (Rl 2 q (WL.nil ⟨q,[_,_,_,_,_],q,q,q⟩)))
 exact Rn 5 5
 refine Rl 1 q ?_
 refine OG 4 28 32 4 4 ?_
 refine Rl 1 q ?_
 apply WL.or 8 (t:=33) (d:=41)
 exact q
 intro G
 exact Rl 5 q (Zy (ab E67 t0.text.objs e27 q q Zl) q q q (Rl 2 q (WL.nil ⟨q,[_,_,_,_,_,_,_,_],q,q,q⟩)))
 exact Rn 8 8
 refine Rl 1 q ?_
 apply WL.or 11 (t:=42) (d:=53)
 exact q
 intro H
 refine Rl 4 q ?_
 apply WL.and 6 (t:=46) (d:=52)
 exact q
 intro I
 exact Rl 3 q (WL.fn q q q q (f47_c _ _) Lw (aI q q q) q q (Rl 2 q (WL.nil ⟨q,[_,_,_,_,_,_],q,q,q⟩)))
 exact Rn 6 6
 exact Rn 1 6
 exact Rn 11 11
 refine Rlc 2 q (Ci h q (λh=>Rcx 12 q (FA h)) λh=>?_)
 refine Rcl 7 q ?_
 obtain⟨o,p,h⟩:=aQ h
 refine WL.inl (us:=[.l dy a.alts, .fn (.func 95) [] [.d (.pc (R86 t0)), .pt 0 0]]) (λrv st'=>(∃(f:Bool),o f=some r∧Le rv (.d (D.b f))∧SLe st' [.row 65 [.l dy a.alts, .n a.obj, .n a.else_]])) q q q q q ?_ (Zw q) q q ?_
 refine cI func94 λ_ _ _ _=>?_
 refine Rcl 9 q ?_
 obtain⟨k,w,h⟩:=aQ h
 refine WL.inl (us:=[.l dy a.alts, .fn (.func 95) [] [.d (.pc (R86 t0)), .pt 0 0]]) (λrv st'=>(∃(c:Int),k c=some r∧Le rv (.n c)∧SLe st' [.row 65 [.l dy a.alts, .n a.obj, .n a.else_]])) q q q q q ?_ (Zw q) q q ?_
 refine cI func156 λ_ _ _ _=>?_
 refine Rcc 5 q (Jn0 [] [.row 65 [.l dy a.alts, .n a.obj, .n a.else_]] h (λx h=>?_) λh=>?_)
 refine Rcl 3 q (Zq (ab dy a.alts e63 q q Zl) q (Rlc 4 q (Ln1 (λg=> [(0, .l dy a.alts),(1, .fn (.func 95) [] [.d (.pc (R86 t0)), .pt 0 0]),(7, .n (List.length a.alts:Int)),(8, .n g)]) (λ_=> [.row 65 [.l dy a.alts, .n a.obj, .n a.else_]]) (f31_l2 t0 a k x) h (λ_ h=>by rw[f31_l2] at h;cases h) λna g h=>?_)))
 rw[f31_l2] at h
 refine Rcc 6 q (Ci h q (λh=>?_) λh=>?_)
 refine Rcl 15 q (Ix h e63 nK q Zl q q λy _ h=>(Rl 1 q ?_))
 obtain⟨A,B,h⟩:=aQ h
 refine WL.inl (us:=[.d (.ag (mB y)), .d (.pc (R86 t0)), .pt 0 0]) (λrv st'=>(∃(j:Bool),A j=some r∧Le rv (.d (D.b j))∧SLe st' [.row 65 [.l dy a.alts, .n a.obj, .n a.else_]])) q q q q q ?_ (Zw q) q q ?_
 refine cI func95 λ_ _ _ J=>?_
 refine Rcl 2 q (Bd q q (Zs _) q (Rll 9 q ?_))
 obtain⟨C,E,h⟩:=ac h
 exact wF Z4 (f96_c E) Lw Z3 (Rlx 5 q (aG (rs1 q (bn q)) ⟨(!C),h,Zl,⟨Zp,Zt⟩⟩))
 rintro rv st1 ⟨j,h,hr,hst⟩
 subst B
 dsimp only at h
 refine WL.cast 16 q hr (WL.weak hst (Zn (Ci h q (λh=>?_) λh=>?_)))
 exact Rcx 12 q (aG (rs1 q (bn q)) ⟨g,h,Zl,⟨Zp,Zt⟩⟩)
 exact Rcx 7 q (Fn1 h)
 exact Rcx 4 q (En0 h)
 exact Rcx 6 q (aG (rs1 q (bn q)) ⟨(-1),h,Zl,⟨Zp,Zt⟩⟩)
 rintro rv st1 ⟨c,h,hr,hst⟩
 subst w
 dsimp only at h
 exact WL.cast 7 q hr (WL.weak hst (Rl 2 q (Zn (Rcx 1 q (aG (rs1 q (bn q)) ⟨(decide (c≥0)),h,Zl,⟨Zp,Zt⟩⟩)))))
 rintro rv st1 ⟨f,h,hr,hst⟩
 subst p
 dsimp only at h
 refine WL.cast 57 q hr (WL.weak hst (Zn (Ci h q (λh=>?_) λh=>?_)))
 exact Rcx 11 q (FA h)
 exact Rcx 7 q (WE.drop 0 (env':=[(1, .d (.pc (R86 t0))),(12, .l E65 t0.text.selects),(13, .n (List.length t0.text.selects:Int)),(14, .n (IntKind.i64.wrap (e+1)))]) Sb q q (Nat.zero_le _) (Fn1 h))
 exact Rcx 4 q (En0 h)
 exact Rcx 6 q (FA h)

theorem f50_c{h0:az}{a1:Int}:Pu prog 50 [.ag (R83 h0), .i .i64 a1] (.b (f50 h0 a1)):=by
 generalize h:f50 h0 a1=r
 unfold f50 at h
 refine fI func50 λ_ _=>?_
 refine Rcl 2 q (Bd q q (Zs _) q (Rll 10 q ?_))
 refine AG 5 9 14 5 5 ?_
 exact Rlx 4 q (FB h)

theorem f32_c{t0:aT}{r:Bool}(h:f32 t0=some r):Pu prog 32 [.ag (R86 t0)] (.b r):=by
 unfold f32 at h
 refine fI func32 λ_ _=>?_
 refine Rcl 2 q (Bd q q (Zs _) q (Rll 9 q (Zq (ab E83 t0.text.handlers e23 q q Zl) q (Rlc 3 q (Ci h q (λh=>?_) λh=>?_)))))
 exact Rcx 7 q (FA h)
 refine Rcc 2 q (Jn0 [] [] h (λm h=>?_) λh=>?_)
 refine Rcl 5 q (Zq (ab E83 t0.text.handlers e23 q q Zl) q (Rlc 4 q (Ln1 (λa=> [(1, .d (.pc (R86 t0))),(15, .l E83 t0.text.handlers),(16, .n (List.length t0.text.handlers:Int)),(17, .n a)]) (λ_=> []) (f32_l1 t0 m) h (λ_ h=>by rw[f32_l1] at h;cases h) λn a h=>?_)))
 rw[f32_l1] at h
 refine Rcc 6 q (Ci h q (λh=>?_) λh=>?_)
 refine Rcc 2 q (Jn4 (λ_ _ _ _=> [(1, .d (.pc (R86 t0))),(15, .l E83 t0.text.handlers),(16, .n (List.length t0.text.handlers:Int)),(17, .n a)]) (λf g j k=> [.row 83 [.n f, .n g, .n j, .d (D.b k)]]) h (λo h=>?_) λf g j k h=>?_)
 refine Rcl 4 q (Ix h e23 eB q Zl q q λc _ h=>(Rl 1 q (Al z83 q (Rl 1 q (sS Z6 s83 Z2 (Rll 9 q ?_))))))
 refine OG 6 25 31 6 6 ?_
 refine Rl 1 q ?_
 apply WL.or 8 (t:=32) (d:=40)
 exact q
 intro w
 exact Rl 5 q (Zy (ab E59 t0.text.insns e22 q q Zl) q q q (Rl 2 q (WL.nil ⟨q,[_,_,_,_,_,_,_,_],q,q,q⟩)))
 exact Rn 8 8
 refine Rl 1 q ?_
 apply WL.or 6 (t:=41) (d:=47)
 exact q
 intro x
 exact Rl 3 q (WL.fn q q q q (f47_c _ _) Lw (aI q q q) q q (Rl 2 q (WL.nil ⟨q,[_,_,_,_,_,_],q,q,q⟩)))
 exact Rn 6 6
 refine Rl 1 q ?_
 apply WL.or 5 (t:=48) (d:=53)
 exact q
 intro y
 exact Rl 3 q (WL.fn q q q q (f50_c) ⟨(aP (Zs _)),Zl,Zt⟩ (aI q q q) q q (Rl 1 q (WL.nil ⟨q,[_,_,_,_,_],q,q,q⟩)))
 exact Rn 5 5
 refine Rlc 2 q (Ci h q (λh=>Rcx 12 q (FA h)) λh=>?_)
 refine Rcl 8 q ?_
 replace h:=jZ h
 obtain⟨p,h⟩:=h
 refine Zq (ky E83 t0.text.handlers (l:=0) (h:=a) e23 q Zl q ⟨_,q⟩ p λ_=>q) q (Zq (ab E83 (bC t0.text.handlers 0 a) e23 q q Zl) q (Rlc 4 q (Ln1 (λe=> [(1, .d (.pc (R86 t0))),(4, .pt 0 0),(15, .l E83 t0.text.handlers),(16, .n (List.length t0.text.handlers:Int)),(17, .n a),(58, .l E83 (bC t0.text.handlers 0 a)),(59, .n (List.length (bC t0.text.handlers 0 a):Int)),(60, .n e)]) (λ_=> [.row 83 [.n c.from_, .n c.to, .n c.at_, .d (D.b c.clean)]]) (f32_l2 t0 a o c) h (λ_ h=>by rw[f32_l2] at h;cases h) λna e h=>?_)))
 rw[f32_l2] at h
 refine Rcc 6 q (Ci h q (λh=>?_) λh=>?_)
 refine Rcl 6 q (Ix h e23 eB q Zl q q λA _ h=>(Rl 1 q (Al z83 q (sS Z6 s83 Z2 (Rll 10 q ?_)))))
 refine AG 6 69 75 6 6 ?_
 refine Rll 8 q ?_
 apply WL.and 12 (t:=78) (d:=90)
 exact q
 intro B
 exact Rl 4 q (Zy (mJ q q q) q q q (Rl 4 q (Zy (mI q q q) q q q (Rl 2 q (WL.nil ⟨q,[_,_,_,_,_,_,_,_,_,_,_,_],q,q,q⟩)))))
 exact Rn 12 12
 refine Rlc 2 q (Ci h q (λh=>Rcx 15 q (FA h)) λh=>?_)
 exact Rcx 7 q (WE.drop 1 (env':=[(1, .d (.pc (R86 t0))),(4, .pt 0 0),(15, .l E83 t0.text.handlers),(16, .n (List.length t0.text.handlers:Int)),(17, .n a),(58, .l E83 (bC t0.text.handlers 0 a)),(59, .n (List.length (bC t0.text.handlers 0 a):Int)),(60, .n (IntKind.i64.wrap (e+1)))]) Sb q q (Nat.zero_le _) (Fn1 h))
 exact Rcx 5 q (En4 h)
 exact Rcx 4 q (WE.drop 0 (env':=[(1, .d (.pc (R86 t0))),(15, .l E83 t0.text.handlers),(16, .n (List.length t0.text.handlers:Int)),(17, .n (IntKind.i64.wrap (a+1)))]) Sb q q (Nat.zero_le _) (Fn1 h))
 exact Rcx 4 q (En0 h)
 exact Rcx 6 q (FA h)

theorem f97_c{x0:aM}{a:Int}:Pu prog 97 [.ag (R59 x0), .i .i64 a] (.b (f97 x0 a)):=by
 generalize h:f97 x0 a=r
 unfold f97 at h
 refine fI func97 λ_ _=>?_
 refine Rcl 2 q (Bd q q (Zs _) q (Rll 9 q ?_))
 refine OG 4 8 12 4 4 ?_
 refine Rl 1 q ?_
 refine OG 4 13 17 4 4 ?_
 refine Rl 1 q ?_
 refine AG 5 18 23 5 5 ?_
 exact Rlx 4 q (FB h)

theorem f33_c{t0:aT}{r:Bool}(h:f33 t0=some r):Pu prog 33 [.ag (R86 t0)] (.b r):=by
 unfold f33 at h
 refine fI func33 λ_ _=>?_
 refine Rcl 2 q (Bd q q (Zs _) q (Rll 9 q (Zq (ab ce t0.text.loops e24 q q Zl) q (Rlc 3 q (Ci h q (λh=>?_) λh=>?_)))))
 exact Rcx 7 q (FA h)
 refine Rcl 4 q (WL.s ((gw (α:=Bool) (λx:Int=>Value.int .i64 x) (λx:Bool=>AV.d (.b x))).does) (Zw q) q q (Rlc 3 q (Jn1 (λ_=> []) (λf=> [mpO (λx:Int=>Value.int .i64 x) (λx:Bool=>AV.d (.b x)) f]) h (λk h=>?_) λf h=>?_)))
 refine Rcl 5 q (Zq (ab ce t0.text.loops e24 q q Zl) q (Rlc 4 q (Ln2 (λc _=> [(1, .d (.pc (R86 t0))),(3, .mp 0),(14, .l ce t0.text.loops),(15, .n (List.length t0.text.loops:Int)),(16, .n c)]) (λ_ a=> [mpO (λx:Int=>Value.int .i64 x) (λx:Bool=>AV.d (.b x)) a]) (f33_l1 t0 k) h (λ_ _ h=>by rw[f33_l1] at h;cases h) λn c a h=>?_)))
 rw[f33_l1] at h
 refine Rcc 6 q (Ci h q (λh=>?_) λh=>?_)
 refine Rcl 6 q (Ix h e24 kv q Zl q q λo _ h=>(Rl 1 q (Al z118 q (sS Z6 s118 Z2 (Rlc 4 q (ax kR kR (Rq 4 q ?_)))))))
 apply WQ.or 6 (t:=23) (d:=29)
 exact q
 intro p
 exact Rq 6 q (WQ.nil ⟨[_,_,_,_,_,_],q,q,q⟩)
 exact Rq 6 q (WQ.nil ⟨[_,_,_,_,_,_],q,q,q⟩)
 refine Rq 1 q ?_
 apply WQ.or 6 (t:=30) (d:=36)
 exact q
 intro w
 exact Rq 3 q (WQ.q (YieldsQ.fn q q q q q (f47_c _ _) Lw) (aI q q q) q q (Rq 2 q (WQ.nil ⟨[_,_,_,_,_,_],q,q,q⟩)))
 exact Rq 6 q (WQ.nil ⟨[_,_,_,_,_,_],q,q,q⟩)
 refine Rq 1 q ?_
 apply WQ.or 5 (t:=37) (d:=42)
 exact q
 intro y
 exact Rq 3 q (WQ.qy (kD (λx:Int=>Value.int .i64 x) (λx:Bool=>AV.d (.b x)) a (z:=false) underlying157 underlying3 (KeyF.int .i64) q q q kR q) q q q (Rq 1 q (WQ.nil ⟨[_,_,_,_,_],q,q,q⟩)))
 exact Rq 5 q (WQ.nil ⟨[_,_,_,_,_],q,q,q⟩)
 refine Rq 1 q ?_
 obtain⟨m,g,h⟩:=ac h
 apply WQ.grp 12 (t:=43) (d:=55) (z:=m)
 exact q
 intro e
 have h:=c9 g e
 refine Rq 12 q ?_
 obtain rfl:=Oi h
 exact WQ.nil ⟨[_,_,_,_,_,_,_,_,_,_,_,_],q,q,q⟩
 intro e
 have h:=da g e
 refine Rq 5 q ?_
 obtain⟨A,j,h⟩:=ac h
 refine WQ.qy (ah e22 q Zl q (ai j) (aw cL j) q) q q q (Rq 3 q (WQ.q (YieldsQ.fn q q q q q (f97_c) Lw) (aI q q q) q q (Rq 2 q ?_)))
 obtain rfl:=Oi h
 exact WQ.nil ⟨[_,_,_,_,_,_,_,_,_,_,_,_],q,q,q⟩
 refine Rq 1 q ?_
 apply WQ.or 4 (t:=56) (d:=60)
 exact q
 intro B
 exact Rq 4 q (WQ.nil ⟨[_,_,_,_],q,q,q⟩)
 exact Rq 4 q (WQ.nil ⟨[_,_,_,_],q,q,q⟩)
 refine Rq 1 q ?_
 apply WQ.or 4 (t:=61) (d:=65)
 exact q
 intro C
 exact Rq 4 q (WQ.nil ⟨[_,_,_,_],q,q,q⟩)
 exact Rq 4 q (WQ.nil ⟨[_,_,_,_],q,q,q⟩)
 refine WQ.nil (Rxc 1 q (Ci h q (λh=>?_) λh=>?_))
 exact Rcx 12 q (FA h)
 exact Rcl 6 q (WL.s0 (gO (λx:Int=>Value.int .i64 x) (λx:Bool=>AV.d (.b x)) a (.inr q) underlying157 underlying3 (KeyF.int .i64) q q q q) (Zw q) q (Rlx 7 q (WE.drop 1 (env':=[(1, .d (.pc (R86 t0))),(3, .mp 0),(14, .l ce t0.text.loops),(15, .n (List.length t0.text.loops:Int)),(16, .n (IntKind.i64.wrap (c+1)))]) Sb q (jh (o4 _ _ _ _) q) (Nat.zero_le _) (Fn2 h))))
 exact Rcx 4 q (En1 h)
 exact Rcx 6 q (FA h)

theorem f61_c{t0:aT}{a1:Int}{r:Bool}(h:f61 t0 a1=some r):Pu prog 61 [.ag (R86 t0), .i .i64 a1] (.b r):=by
 unfold f61 at h
 refine fI func61 λ_ _=>?_
 refine Rcl 2 q (Bd q q (Zs _) q (Rll 7 q (wF Z4 (f47_c _ _) Lw Z3 (Rl 1 q ?_))))
 obtain⟨d,e,h⟩:=ac h
 refine Gg 19 8 27 d e (λh=>?_) (λh=>?_) ?_
 refine Rl 4 q ?_
 obtain⟨j,a,h⟩:=ac h
 refine Zy (ah e22 q Zl q (ai a) (aw cL a) q) q q q (Rl 4 q ?_)
 obtain⟨f,g,h⟩:=ac h
 refine Gg 9 17 26 f g (λh=>?_) (λh=>?_) ?_
 exact On 9 9 h
 refine Rl 4 q ?_
 obtain⟨k,c,h⟩:=ac h
 exact Zy (ah e22 q Zl q (ai c) (aw cL c) q) q q q (On 4 9 h)
 exact On 1 11 h
 exact On 19 19 h
 exact Rlx 4 q (FA h)

theorem f34_c{t0:aT}{r:Bool}(h:f34 t0=some r):Pu prog 34 [.ag (R86 t0)] (.b r):=by
 unfold f34 at h
 refine fI func34 λ_ _=>?_
 refine Rcl 2 q (Bd q q (Zs _) q (Rlc 8 q (Jn0 [] [] h (λe h=>?_) λh=>?_)))
 refine Rcl 5 q (Zq (ab cv t0.text.checks e31 q q Zl) q (Rlc 4 q (Ln2 (λc a=> [(1, .d (.pc (R86 t0))),(3, .n c),(8, .l cv t0.text.checks),(9, .n (List.length t0.text.checks:Int)),(10, .n a)]) (λ_ _=> []) (f34_l1 t0 e) h (λ_ _ h=>by rw[f34_l1] at h;cases h) λn c a h=>?_)))
 rw[f34_l1] at h
 refine Rcc 6 q (Ci h q (λh=>?_) λh=>?_)
 refine Rcl 6 q (Ix h e31 ku q Zl q q λf _ h=>(Rl 1 q (Al z121 q (sS Z6 s121 Z2 (Rll 10 q ?_)))))
 obtain⟨g,j,h⟩:=ac h
 refine Gg 6 18 24 g j (λh=>?_) (λh=>?_) ?_
 exact On 6 6 h
 refine Rl 3 q ?_
 obtain⟨m,k,h⟩:=ac h
 exact WL.fn q q q q (f61_c k) Lw (aI q q q) q q (On 2 6 h)
 refine Rl 1 q ?_
 refine OG 4 25 29 4 4 ?_
 refine Rl 1 q ?_
 refine OG 4 30 34 4 4 ?_
 refine Rlc 2 q (Ci h q (λh=>Rcx 12 q (FA h)) λh=>?_)
 exact Rcx 13 q (WE.drop 0 (env':=[(1, .d (.pc (R86 t0))),(3, .n f.at_),(8, .l cv t0.text.checks),(9, .n (List.length t0.text.checks:Int)),(10, .n (IntKind.i64.wrap (a+1)))]) Sb q q (Nat.zero_le _) (Fn2 h))
 exact Rcx 4 q (En0 h)
 exact Rcx 6 q (FA h)

theorem f98_c(s0:lN)(a:aM→oB)(g1:FuncId)(c e:lD)(g:∀(y0:aM)(r:Bool),a y0=some r→Pu prog g1 (c++ [.ag (R59 y0)]++e) (.b r)){r:Int}(h:f98 s0 a=some r):Pu prog 98 [.sl (List.map E59 s0), .fnc (.func g1) c e] (.i .i64 r):=by
 unfold f98 at h
 refine fI func98 λ_ _=>?_
 refine WC.cast 1 q (dX _ _ _) (Rcc 5 q (Jn0 [] [] h (λj h=>?_) λh=>?_))
 refine Rcl 3 q (Zq (ab E59 s0 e22 q q Zl) q (Rlc 4 q (Ln1 (λf=> [(0, .l E59 s0),(1, .fn (.func g1) (List.map AV.d c) (List.map AV.d e)),(7, .n (List.length s0:Int)),(8, .n f)]) (λ_=> []) (f98_l1 s0 a j) h (λ_ h=>by rw[f98_l1] at h;cases h) λn f h=>?_)))
 rw[f98_l1] at h
 refine Rcc 6 q (Ci h q (λh=>?_) λh=>?_)
 refine Rcl 15 q (Ix h e22 cL q Zl q q λm _ h=>(Rl 1 q ?_))
 obtain⟨o,k,h⟩:=ac h
 refine WL.fn q q q q (g _ _ k) (g' Lw) (Zw q) q q (Rlc 2 q (Ci h q (λh=>?_) λh=>?_))
 exact Rcx 12 q (FA h)
 exact Rcx 7 q (Fn1 h)
 exact Rcx 4 q (En0 h)
 exact Rcx 6 q (FA h)

theorem f35_c(s0:lN)(d:aM→oB)(g1:FuncId)(a c:lD)(e:∀(y0:aM)(r:Bool),d y0=some r→Pu prog g1 (a++ [.ag (R59 y0)]++c) (.b r)){r:Bool}(h:f35 s0 d=some r):Pu prog 35 [.sl (List.map E59 s0), .fnc (.func g1) a c] (.b r):=by
 unfold f35 at h
 refine fI func35 λ_ _=>?_
 refine WC.cast 1 q (dX _ _ _) (Rcl 9 q ?_)
 obtain⟨g,f,h⟩:=ac h
 exact wF Z4 (f98_c _ _ g1 a c e f) ⟨Zl,(Le.fnc (Zs _) (Zs _)),Zt⟩ Z3 (Rlx 5 q (FA h))

theorem f158_c{o0:Int}{r:ez×Bool}(h:f158 o0=some r):Pu prog 158 [.i .u8 o0] (.tu [.ag (s6 r.1), .b r.2]):=by
 unfold f158 at h
 refine fI func158 λ_ _=>?_
 refine Rcl 2 q (Al pV q (Rll 9 q ?_))
 refine OG 4 6 10 4 4 ?_
 refine Rlc 2 q (Ci h q (λh=>?_) λh=>?_)
 refine Rcl 2 q (Zq (aa p231 pV q q) q (sS Z6 nU Z2 (Rlx 5 q ?_)))
 obtain rfl:=Oi h
 exact aU (rs2 q (cx q q a231 nU q) (bn q)) (dw ⟨(aP (Zs _)),Zl,Zt⟩)
 refine Rcl 6 q ?_
 obtain⟨c,a,h⟩:=ac h
 refine Zq (rM (R:=s6) fU (λ_=>q) ar284 (congrArg (Option.map λps=>AV.d (.pc ps)) jW) q q a) q (Rl 1 q (sS Z6 nU Z2 (Rlx 4 q ?_)))
 obtain rfl:=Oi h
 exact aU (rs2 q (cx q q a231 nU q) (bn q)) (dw ⟨(aP (Zs _)),Zl,Zt⟩)

theorem f186_c{s0:ByteArray}{r:List ByteArray}(h:f186 s0=some r):Pu prog 186 [.s s0] (.sl (List.map E9 r)):=by
 unfold f186 at h
 refine fI func186 λ_ _=>?_
 refine Rcc 20 q (Jn2 (λc setBits109=> [(0, .d (D.s s0)),(3, .n c),(5, .d (D.i .u8 setBits109))]) (λ_ _=> []) h (λC h=>?_) λc setBits109 h=>?_)
 refine Rcc 6 q (Ln4 (λg wasSpace116 setBits117 j=> [(0, .d (D.s s0)),(3, .n g),(4, .n wasSpace116),(5, .d (D.i .u8 setBits117)),(6, .n j)]) (λ_ _ _ _=> []) (f186_l1 s0 C) h (λ_ _ _ _ h=>by rw[f186_l1] at h;cases h) λn g wasSpace116 setBits117 j h=>?_)
 rw[f186_l1] at h
 refine Rcl 5 q (Zq (cW underlying9 q q) q (Rlc 3 q (Ci h q (λh=>?_) λh=>?_)))
 refine Rcl 8 q ?_
 obtain⟨Z,F,h⟩:=ac h
 refine Zq (bw underlying9 q q F) q (Rll 7 q (Zq (rO q q q) q (Rll 6 q ?_)))
 obtain⟨ad,G,h⟩:=ac h
 exact Zq (mG (E:=D.i .u8) bW nw q q q G) q (Rll 10 q (Zq (y_com q q) q (Zq (rz q q q) q (Rlx 15 q (Fn4 h)))))
 exact Rcx 4 q (En2 h)
 refine Rcc 7 q (Ci h q (λh=>?_) λh=>?_)
 refine Rcc 1 q ?_
 cases h
 refine Rcl 5 q ?_
 replace h:=jZ h
 obtain⟨H,h⟩:=h
 refine WL.s ((NewOs.b (NewOs.cast (gK l286 z9 q (Nat.succ_pos _) q q H) (by exact ig (R:=E9) (z:=(ByteArray.empty:ByteArray)) q))).does) (Zw q) q q (Rlc 18 q (Jn1 (λm=> [(0, .d (D.s s0)),(9, .os 0 0),(10, .n 0),(12, .n m)]) (λ_=> [.os 9 1 0 (eM E9 (List.replicate (Int.toNat c) (ByteArray.empty:ByteArray)))]) h (λI h=>?_) λm h=>?_))
 refine Rcc 1 q (Ln1 (λo=> [(0, .d (D.s s0)),(9, .os 0 0),(10, .n 0),(12, .n o)]) (λ_=> [.os 9 1 0 (eM E9 (List.replicate (Int.toNat c) (ByteArray.empty:ByteArray)))]) (f186_l2 s0 I) h (λ_ h=>by rw[f186_l2] at h;cases h) λn o h=>?_)
 rw[f186_l2] at h
 refine Rcl 5 q (Zq (cW underlying9 q q) q (Rl 2 q ?_))
 obtain⟨J,K,h⟩:=ac h
 refine Gg 7 46 53 J K (λh=>?_) (λh=>?_) ?_
 refine Rl 2 q ?_
 obtain⟨ag,L,h⟩:=ac h
 refine Zy (bw underlying9 q q L) q q q ?_
 obtain⟨a0,M,h⟩:=ac h
 exact Zy (mG (E:=D.i .u8) bW nw q q q M) q q q (On 3 7 h)
 exact On 7 7 h
 exact Rlc 2 q (Ci h q (λh=>Rcx 9 q (Fn1 h)) λh=>Rcx 4 q (En1 h))
 refine Rcc 6 q (Jn3 (λf fieldStart135 _=> [(0, .d (D.s s0)),(9, .os 0 0),(10, .n f),(11, .n fieldStart135)]) (λ_ _ p=> [.os 9 1 0 (eM E9 p)]) h (λN h=>?_) λf fieldStart135 p h=>?_)
 refine Rcc 1 q (Ln4 (λa fieldStart143 t _=> [(0, .d (D.s s0)),(9, .os 0 0),(10, .n a),(11, .n fieldStart143),(12, .n t)]) (λ_ _ _ e=> [.os 9 1 0 (eM E9 e)]) (f186_l3 s0 N) h (λ_ _ _ _ h=>by rw[f186_l3] at h;cases h) λn a fieldStart143 t e h=>?_)
 rw[f186_l3] at h
 refine Rcl 5 q (Zq (cW underlying9 q q) q (Rlc 3 q (Ci h q (λh=>?_) λh=>?_)))
 refine Rcl 8 q ?_
 obtain⟨a1,O,h⟩:=ac h
 refine Zq (bw underlying9 q q O) q ?_
 obtain⟨a6,P,h⟩:=ac h
 refine Zq (mG (E:=D.i .u8) bW nw q q q P) q (Rlc 4 q (Ci h q (λh=>?_) λh=>?_))
 exact Rcx 10 q (Fn4 h)
 refine Rcl 9 q ?_
 obtain⟨s152,Q,h⟩:=ac h
 refine Zq (rN underlying9 q q q Q) q ?_
 obtain⟨a7,w,h⟩:=ac h
 refine Zq (y_pe q7 q q q w) q (WL.s0 (gN (R:=E9) (k:=1) (i:=a) (fo:=0) s152 q q q q Zl q q q s9 q (λ_=>q) w q q) (Zw q) q (Rlc 16 q (Jn1 (λx=> [(0, .d (D.s s0)),(9, .os 0 0),(10, .n (IntKind.i64.wrap (a+1))),(12, .n x)]) (λ_=> [.os 9 1 0 (eM E9 (List.set e (Int.toNat a) s152))]) h (λS h=>?_) λx h=>?_)))
 refine Rcc 1 q (Ln1 (λy=> [(0, .d (D.s s0)),(9, .os 0 0),(10, .n (IntKind.i64.wrap (a+1))),(12, .n y)]) (λ_=> [.os 9 1 0 (eM E9 (List.set e (Int.toNat a) s152))]) (f186_l4 s0 S) h (λ_ h=>by rw[f186_l4] at h;cases h) λna y h=>?_)
 rw[f186_l4] at h
 refine Rcl 5 q (Zq (cW underlying9 q q) q (Rl 2 q ?_))
 obtain⟨T,U,h⟩:=ac h
 refine Gg 7 84 91 T U (λh=>?_) (λh=>?_) ?_
 refine Rl 2 q ?_
 obtain⟨a',V,h⟩:=ac h
 refine Zy (bw underlying9 q q V) q q q ?_
 obtain⟨bb,W,h⟩:=ac h
 exact Zy (mG (E:=D.i .u8) bW nw q q q W) q q q (On 3 7 h)
 exact On 7 7 h
 exact Rlc 2 q (Ci h q (λh=>Rcx 9 q (Fn1 h)) λh=>Rcx 4 q (En1 h))
 exact Rcx 5 q (Fn4 h)
 exact Rcx 4 q (En3 h)
 refine Jn1 (λ_=> [(9, .os 0 0)]) (λA=> [.os 9 1 0 (eM E9 A)]) h (λ_ h=>?_) (λA h=>?_)
 refine Rcl 4 q (Zq (cW underlying9 q q) q (Rlc 3 q (Ci h q (λh=>?_) λh=>?_)))
 refine Rcl 5 q ?_
 obtain⟨X,Y,h⟩:=ac h
 refine Zq (pW underlying9 q q Y) q ?_
 obtain⟨bk,B,h⟩:=ac h
 exact Zq (y_pe q7 q q q B) q (WL.s0 (gN (R:=E9) (k:=1) (i:=f) (fo:=0) X q q q q Zl q q q s9 q (λ_=>q) B q q) (Zw q) q (Rlx 1 q (En1 h)))
 exact Rcx 1 q (En1 h)
 refine Rcx 7 q ?_
 exact WE.freezeX [9,105,2] [] 0 _ q (an rK _) ⟨q,q,q,Zt⟩ Zt (FA h)

theorem f189_c{a:Int}:Pu prog 189 [.i .u8 a] (.tu [.i .i64 (f189 a).1, .i .i64 (f189 a).2]):=by
 generalize h:f189 a=r
 unfold f189 at h
 refine fI func189 λ_ _=>?_
 refine Rcc 19 q (Ci h q (λh=>Rcx 9 q (FB h)) λh=>?_)
 refine Rcc 6 q (Ci h q (λh=>Rcx 9 q (FB h)) λh=>?_)
 refine Rcc 6 q (Ci h q (λh=>Rcx 9 q (FB h)) λh=>?_)
 refine Rcc 6 q (Ci h q (λh=>Rcx 9 q (FB h)) λh=>?_)
 refine Rcc 6 q (Ci h q (λh=>Rcx 9 q (FB h)) λh=>?_)
 refine Rcc 6 q (Ci h q (λh=>Rcx 9 q (FB h)) λh=>?_)
 refine Rcc 6 q (Ci h q (λh=>Rcx 9 q (FB h)) λh=>?_)
 refine Rcc 6 q (Ci h q (λh=>Rcx 9 q (FB h)) λh=>?_)
 refine Rcc 6 q (Ci h q (λh=>Rcx 9 q (FB h)) λh=>?_)
 refine Rcc 6 q (Ci h q (λh=>Rcx 9 q (FB h)) λh=>?_)
 refine Rcc 6 q (Ci h q (λh=>Rcx 9 q (FB h)) λh=>?_)
 exact Rcc 6 q (Ci h q (λh=>Rcx 9 q (FB h)) λh=>Rcx 10 q (FB h))

theorem f99_c{x0:aM}{r:Bool}(h:f99 x0=some r):Pu prog 99 [.ag (R59 x0)] (.b r):=by
 unfold f99 at h
 refine fI func99 λ_ _=>?_
 refine Rcl 2 q (Bd q q (Zs _) q (Al z4 q (Rll 7 q ?_)))
 obtain⟨c,g7,h⟩:=ac h
 refine wF Z4 (f158_c g7) Lw Z3 (Rl 3 q (Al pV q (sS Z6 nU Z2 (Rll 8 q ?_))))
 apply WL.or 11 (t:=16) (d:=27)
 exact q
 intro kb
 refine Rl 4 q ?_
 refine AG 6 20 26 6 6 ?_
 exact Rn 1 6
 exact Rn 11 11
 refine Rlc 2 q (Ci h q (λh=>?_) λh=>?_)
 refine Rcl 2 q (sS Z6 s4 Z2 (Rlx 4 q ?_))
 obtain rfl:=Oi h
 exact aU (rs1 q (iT q q a4 q)) Zl
 refine Rcl 9 q ?_
 refine AG 5 31 36 5 5 ?_
 refine Rl 1 q ?_
 refine AG 4 37 41 4 4 ?_
 refine Rlc 2 q (Ci h q (λh=>?_) λh=>?_)
 refine Rcl 2 q (sS Z6 s4 Z2 (Rlx 4 q ?_))
 obtain rfl:=Oi h
 exact aU (rs1 q (iT q q a4 q)) Zl
 refine Rcl 5 q (Al z59 q (sS Z6 s59 Z2 (Rlc 2 q (Jn8 (λ_ _ _ _ _ _ _ _=> [(1, .d (.pc (R59 x0))),(2, .pt 0 0),(5, .pt 2 0)]) (λJ K L M N O gs gx=> [.row 4 [.d (D.b false)], .row 231 [.d (D.s c.1.name), .d (D.s c.1.fields)], .row 59 [.d (D.i .u8 x0.op), .n J, .n K, .n L, .n M, .n N, .n O], .row 238 [.pt 2 0], .z, .row 231 [.d (D.s gs), .d (D.s gx)]]) h (λ_ h=>?_) λJ K L M N O gs gx h=>?_))))
 refine Rcl 2 q ?_
 obtain⟨g8,g9,h⟩:=aQ h
 refine WL.inl (us:=[.pt 2 0]) (λrv st'=>(g8 ()=some r∧Le rv (.fn (.func 185) [] [.pt 3 0])∧SLe st' [.row 4 [.d (D.b false)], .row 231 [.d (D.s c.1.name), .d (D.s c.1.fields)], .row 59 [.d (D.i .u8 x0.op), .n x0.d, .n x0.a, .n x0.b, .n x0.n, .n x0.m, .n x0.to], .row 238 [.pt 2 0]])) q q q q q ?_ (Zw q) q q ?_
 refine cI func159 λ_ _ _ _=>?_
 exact Rcl 2 q (Bx q q q (Rlx 10 q (aG (rs1 q (bn q)) ⟨h,Zl,⟨Zp,Zp,Zp,Zp,Zt⟩⟩)))
 rintro rv st1 ⟨h,hr,hst⟩
 subst g9
 dsimp only at h
 refine WL.cast 43 q hr (WL.weak hst (Zn (Rcc 1 q ?_)))
 obtain⟨g0,ha,h⟩:=aQ h
 obtain⟨g1,hb,h⟩:=aQ h
 obtain⟨g2,hc,h⟩:=aQ h
 obtain⟨g3,hd,h⟩:=aQ h
 obtain⟨g4,he,h⟩:=aQ h
 obtain⟨g5,hf,h⟩:=aQ h
 obtain⟨g6,hg,h⟩:=aQ h
 refine oH (us:=[.yl 4, .pt 3 0]) [2] 4 (λf rv st'=>(∃(P:Int),∃(Q:Int),∃(R:Int),∃(S:Int),∃(T:Int),∃(U:Int),∃(V:ByteArray),∃(W:ByteArray),∃(X:Int),∃(Y:Int),∃(Z:Int),∃(ad:Int),g0 P Q R S T U V W X Y Z ad=some r∧SLe st' [.row 4 [.d (D.b false)], .row 231 [.d (D.s c.1.name), .d (D.s c.1.fields)], .row 59 [.d (D.i .u8 x0.op), .n P, .n Q, .n R, .n S, .n T, .n U], .row 238 [.pt 2 0], .lp f [.pt 0 0] .done (some .ret), .row 231 [.d (D.s V), .d (D.s W)], .row 240 [.fn (.func 206) [] [.pt 7 0], .fn (.func 207) [] [.pt 7 0], .n X, .n Y], .row 204 [.pt 2 1], .row 240 [.fn (.func 206) [] [.pt 7 0], .fn (.func 207) [] [.pt 7 0], .n 0, .n 0], .row 240 [.fn (.func 206) [] [.pt 7 0], .fn (.func 207) [] [.pt 7 0], .n Z, .n ad]])∨(∃(a0:Int),∃(a1:Int),∃(a6:Int),∃(a7:Int),∃(a':Int),∃(bb:Int),∃(bk:ByteArray),∃(bs:ByteArray),∃(b0:Int),∃(b1:Int),∃(b2:Int),∃(b3:Int),g1 a0 a1 a6 a7 a' bb bk bs b0 b1 b2 b3=some r∧SLe st' [.row 4 [.d (D.b false)], .row 231 [.d (D.s c.1.name), .d (D.s c.1.fields)], .row 59 [.d (D.i .u8 x0.op), .n a0, .n a1, .n a6, .n a7, .n a', .n bb], .row 238 [.pt 2 0], .lp f [.pt 0 0] .done (some .ret), .row 231 [.d (D.s bk), .d (D.s bs)], .row 240 [.fn (.func 206) [] [.pt 7 0], .fn (.func 207) [] [.pt 7 0], .n b0, .n b1], .row 204 [.pt 2 2], .row 240 [.fn (.func 206) [] [.pt 7 0], .fn (.func 207) [] [.pt 7 0], .n 0, .n 0], .row 240 [.fn (.func 206) [] [.pt 7 0], .fn (.func 207) [] [.pt 7 0], .n b2, .n b3]])∨(∃(b4:Int),∃(b5:Int),∃(b6:Int),∃(b7:Int),∃(b8:Int),∃(b9:Int),∃(b':ByteArray),∃(ca:ByteArray),∃(cc:Int),∃(cd:Int),∃(ci:Int),∃(cj:Int),g2 b4 b5 b6 b7 b8 b9 b' ca cc cd ci cj=some r∧SLe st' [.row 4 [.d (D.b false)], .row 231 [.d (D.s c.1.name), .d (D.s c.1.fields)], .row 59 [.d (D.i .u8 x0.op), .n b4, .n b5, .n b6, .n b7, .n b8, .n b9], .row 238 [.pt 2 0], .lp f [.pt 0 0] .done (some .ret), .row 231 [.d (D.s b'), .d (D.s ca)], .row 240 [.fn (.func 206) [] [.pt 7 0], .fn (.func 207) [] [.pt 7 0], .n cc, .n cd], .row 204 [.pt 2 3], .row 240 [.fn (.func 206) [] [.pt 7 0], .fn (.func 207) [] [.pt 7 0], .n 0, .n 0], .row 240 [.fn (.func 206) [] [.pt 7 0], .fn (.func 207) [] [.pt 7 0], .n ci, .n cj]])∨(∃(cl:Int),∃(cp:Int),∃(c0:Int),∃(c1:Int),∃(c2:Int),∃(c3:Int),∃(c4:ByteArray),∃(c5:ByteArray),∃(c6:Int),∃(c7:Int),∃(c8:Int),∃(c':Int),g3 cl cp c0 c1 c2 c3 c4 c5 c6 c7 c8 c'=some r∧SLe st' [.row 4 [.d (D.b false)], .row 231 [.d (D.s c.1.name), .d (D.s c.1.fields)], .row 59 [.d (D.i .u8 x0.op), .n cl, .n cp, .n c0, .n c1, .n c2, .n c3], .row 238 [.pt 2 0], .lp f [.pt 0 0] .done (some .ret), .row 231 [.d (D.s c4), .d (D.s c5)], .row 240 [.fn (.func 208) [] [.pt 7 0], .fn (.func 209) [] [.pt 7 0], .n c6, .n c7], .row 102 [.pt 2 4], .row 240 [.fn (.func 208) [] [.pt 7 0], .fn (.func 209) [] [.pt 7 0], .n 0, .n 0], .row 240 [.fn (.func 208) [] [.pt 7 0], .fn (.func 209) [] [.pt 7 0], .n c8, .n c']])∨(∃(dd:Int),∃(df:Int),∃(ds:Int),∃(dS:Int),∃(d0:Int),∃(d1:Int),∃(d2:ByteArray),∃(d':ByteArray),∃(ec:Int),∃(ei:Int),∃(el:Int),∃(eq:Int),g4 dd df ds dS d0 d1 d2 d' ec ei el eq=some r∧SLe st' [.row 4 [.d (D.b false)], .row 231 [.d (D.s c.1.name), .d (D.s c.1.fields)], .row 59 [.d (D.i .u8 x0.op), .n dd, .n df, .n ds, .n dS, .n d0, .n d1], .row 238 [.pt 2 0], .lp f [.pt 0 0] .done (some .ret), .row 231 [.d (D.s d2), .d (D.s d')], .row 240 [.fn (.func 208) [] [.pt 7 0], .fn (.func 209) [] [.pt 7 0], .n ec, .n ei], .row 102 [.pt 2 5], .row 240 [.fn (.func 208) [] [.pt 7 0], .fn (.func 209) [] [.pt 7 0], .n 0, .n 0], .row 240 [.fn (.func 208) [] [.pt 7 0], .fn (.func 209) [] [.pt 7 0], .n el, .n eq]])∨(∃(es:Int),∃(et:Int),∃(ex:Int),∃(ey:Int),∃(e0:Int),∃(e1:Int),∃(e2:ByteArray),∃(e3:ByteArray),∃(e4:Int),∃(e5:Int),∃(e6:Int),∃(e':Int),g5 es et ex ey e0 e1 e2 e3 e4 e5 e6 e'=some r∧SLe st' [.row 4 [.d (D.b false)], .row 231 [.d (D.s c.1.name), .d (D.s c.1.fields)], .row 59 [.d (D.i .u8 x0.op), .n es, .n et, .n ex, .n ey, .n e0, .n e1], .row 238 [.pt 2 0], .lp f [.pt 0 0] .done (some .ret), .row 231 [.d (D.s e2), .d (D.s e3)], .row 240 [.fn (.func 206) [] [.pt 7 0], .fn (.func 207) [] [.pt 7 0], .n e4, .n e5], .row 204 [.pt 2 6], .row 240 [.fn (.func 206) [] [.pt 7 0], .fn (.func 207) [] [.pt 7 0], .n 0, .n 0], .row 240 [.fn (.func 206) [] [.pt 7 0], .fn (.func 207) [] [.pt 7 0], .n e6, .n e']])∨(∃(fi:Int),∃(fo:Int),∃(fr:Int),∃(fv:Int),∃(fz:Int),∃(f0:Int),∃(f1:ByteArray),∃(f2:ByteArray),g6 fi fo fr fv fz f0 f1 f2=some r∧SLe st' [.row 4 [.d (D.b false)], .row 231 [.d (D.s c.1.name), .d (D.s c.1.fields)], .row 59 [.d (D.i .u8 x0.op), .n fi, .n fo, .n fr, .n fv, .n fz, .n f0], .row 238 [.pt 2 0], .lp f [.pt 0 0] .ready none, .row 231 [.d (D.s f1), .d (D.s f2)]])) q q q q q (λf H=>?_) ?_
 refine cI func185 λ_ _ _ I=>?_
 refine Rcl 6 q ?_
 obtain⟨e,hh,h⟩:=ac h
 refine wF Z4 (f158_c hh) Lw Z3 (Rl 3 q (Al pV q (sS Z6 nU Z2 (Rll 7 q ?_))))
 obtain⟨F,hi,h⟩:=ac h
 refine wF Z4 (f186_c hi) Lw Z3 (Zq (ab E9 F q7 q q Zl) q (Rlc 4 q (Ln7 (λG _ _ _ _ _ _=> [(0, .yl 4),(1, .pt 3 0),(18, .l E9 F),(19, .n (List.length F:Int)),(20, .n G)]) (λ_ g j k o p w=> [.row 4 [.d (D.b false)], .row 231 [.d (D.s c.1.name), .d (D.s c.1.fields)], .row 59 [.d (D.i .u8 x0.op), .n g, .n j, .n k, .n o, .n p, .n w], .row 238 [.pt 2 0], .lp f [.pt 0 0] .ready none, .row 231 [.d (D.s e.1.name), .d (D.s e.1.fields)]]) (f99_l1 g0 g1 g2 g3 g4 g5 g6 e F) h (λ_ _ _ _ _ _ _ h=>by rw[f99_l1] at h;cases h) λn G g j k o p w h=>?_)))
 rw[f99_l1] at h
 refine Rcc 6 q (Ci h q (λh=>?_) λh=>?_)
 refine Rcl 6 q (Ix h q7 rK q Zl q q λkc _ h=>(Rll 6 q (Al dH q (Rll 6 q ?_))))
 obtain⟨kf,hj,h⟩:=ac h
 refine Zq (bw underlying9 q q hj) q (Rlc 9 q (Ci h q (λh=>?_) λh=>?_))
 refine Rcl 4 q ?_
 obtain⟨hk,hl,h⟩:=aQ h
 refine WL.inl (us:=[.pt 2 1]) (λrv st'=>(hk ()=some r∧Le rv (.ag [.fn (.func 206) [] [.pt 7 0], .fn (.func 207) [] [.pt 7 0], .n 0, .n 0])∧SLe st' [.row 4 [.d (D.b false)], .row 231 [.d (D.s c.1.name), .d (D.s c.1.fields)], .row 59 [.d (D.i .u8 x0.op), .n g, .n j, .n k, .n o, .n p, .n w], .row 238 [.pt 2 0], .lp f [.pt 0 0] .ready none, .row 231 [.d (D.s e.1.name), .d (D.s e.1.fields)], .row 240 [.d (.v .nilFunc), .d (.v .nilFunc), .n 0, .n 0], .row 204 [.pt 2 1], .row 240 [.fn (.func 206) [] [.pt 7 0], .fn (.func 207) [] [.pt 7 0], .n 0, .n 0]])) q q q q q ?_ (Zw q) q q ?_
 refine cI func187 λ_ _ _ _=>?_
 exact Rcl 2 q (Bx q q q (Al dH q (Rll 6 q (Zq (aa nX dH q q) q (sS Z6 cQ Z2 (Rlx 3 q (aG (rs1 q (cx q q oo cQ q)) ⟨h,Zl,⟨Zp,Zp,Zp,Zp,⟨q,Zs _,q,q⟩,Zp,Zp,Zp,Zp,Zt⟩⟩)))))))
 rintro rv st1 ⟨h,hr,hst⟩
 subst hl
 dsimp only at h
 refine WL.cast 35 q hr (WL.weak hst (sS Z6 cQ Z2 (WL.nil (Rxl 5 q ?_))))
 obtain⟨x,hm,h⟩:=ac h
 refine Zq (bw underlying9 q q hm) q (wF Z4 (f189_c) Lw Z3 (Rl 4 q (sS Z6 s2 Z2 (Rl 1 q (sS Z6 s2 Z2 (Rll 6 q ?_))))))
 obtain⟨ho,hp,h⟩:=aQ h
 obtain⟨hq,hs,h⟩:=aQ h
 refine WL.yield (env0:=[(44, .ag [.fn (.func 206) [] [.pt 7 0], .fn (.func 207) [] [.pt 7 0], .n ((f189 x).1), .n ((f189 x).2)]),(2, .pt 0 0)]) (λrv st'=>(ho ()=some r∧rv= .d (.v (.bool false))∧SLe st' [.row 4 [.d (D.b false)], .row 231 [.d (D.s c.1.name), .d (D.s c.1.fields)], .row 59 [.d (D.i .u8 x0.op), .n g, .n j, .n k, .n o, .n p, .n w], .row 238 [.pt 2 0], .lp f [.pt 0 0] .done (some .ret), .row 231 [.d (D.s e.1.name), .d (D.s e.1.fields)], .row 240 [.fn (.func 206) [] [.pt 7 0], .fn (.func 207) [] [.pt 7 0], .n ((f189 x).1), .n ((f189 x).2)], .row 204 [.pt 2 1], .row 240 [.fn (.func 206) [] [.pt 7 0], .fn (.func 207) [] [.pt 7 0], .n 0, .n 0], .row 240 [.fn (.func 206) [] [.pt 7 0], .fn (.func 207) [] [.pt 7 0], .n ((f189 x).1), .n ((f189 x).2)]])∨(hq ()=some r∧rv= .d (.v (.bool true))∧SLe st' [.row 4 [.d (D.b false)], .row 231 [.d (D.s c.1.name), .d (D.s c.1.fields)], .row 59 [.d (D.i .u8 x0.op), .n 0, .n j, .n k, .n o, .n p, .n w], .row 238 [.pt 2 0], .lp f [.pt 0 0] .ready none, .row 231 [.d (D.s e.1.name), .d (D.s e.1.fields)], .row 240 [.fn (.func 206) [] [.pt 7 0], .fn (.func 207) [] [.pt 7 0], .n ((f189 x).1), .n ((f189 x).2)], .row 204 [.pt 2 1], .row 240 [.fn (.func 206) [] [.pt 7 0], .fn (.func 207) [] [.pt 7 0], .n 0, .n 0], .row 240 [.fn (.func 206) [] [.pt 7 0], .fn (.func 207) [] [.pt 7 0], .n ((f189 x).1), .n ((f189 x).2)]])) H q q q q q q q (λee hn f3 ki=>?_) (Zw q) q q ?_
 obtain⟨em,eφ,ew,en,er⟩:=ee
 subst hn
 refine Rcl 1 q (Al dH q (sS Z6 cQ Z2 (Rlx 1 q (e7 f3 q (Rcl 6 q ?_)))))
 obtain⟨ht,hu,h⟩:=aQ h
 refine WL.inl (us:=[.pt 7 0]) (λrv st'=>(ht ()=some r∧Le rv (.n g)∧SLe st' [.row 4 [.d (D.b false)], .row 231 [.d (D.s c.1.name), .d (D.s c.1.fields)], .row 59 [.d (D.i .u8 x0.op), .n g, .n j, .n k, .n o, .n p, .n w], .row 238 [.pt 2 0], .lp f [.pt 0 0] .busy none, .row 231 [.d (D.s e.1.name), .d (D.s e.1.fields)], .row 240 [.fn (.func 206) [] [.pt 7 0], .fn (.func 207) [] [.pt 7 0], .n ((f189 x).1), .n ((f189 x).2)], .row 204 [.pt 2 1], .row 240 [.fn (.func 206) [] [.pt 7 0], .fn (.func 207) [] [.pt 7 0], .n 0, .n 0], .row 240 [.fn (.func 206) [] [.pt 7 0], .fn (.func 207) [] [.pt 7 0], .n ((f189 x).1), .n ((f189 x).2)]])) q q q q q ?_ (Zw q) q q ?_
 refine cI func206 λ_ _ _ _=>?_
 exact Rcx 14 q (aG (rs1 q (bn q)) ⟨h,Zl,⟨Zp,Zp,Zp,Zp,⟨q,Zs _,q,q⟩,Zp,Zp,Zp,Zp,Zp,Zt⟩⟩)
 rintro rv st1 ⟨h,hr,hst⟩
 subst hu
 dsimp only at h
 refine WL.cast 47 q hr (WL.weak hst (Rl 1 q (Zn (Rcl 7 q ?_))))
 refine OG 5 52 57 5 5 ?_
 refine Rlc 2 q (Ci h q (λh=>?_) λh=>?_)
 exact Rcl 2 q (sS Z6 s4 Z2 (Rlx 5 q (bF f3 q (.inl ⟨h,q,⟨Zp,Zp,Zp,Zp,⟨q,Zs _,q,q⟩,Zp,Zp,Zp,Zp,Zp,Zt⟩⟩))))
 refine Rcl 5 q ?_
 obtain⟨hv,hw,h⟩:=aQ h
 refine WL.inl (us:=[.n 0, .pt 7 0]) (λrv st'=>(hv ()=some r∧Le rv (.tu [])∧SLe st' [.row 4 [.d (D.b false)], .row 231 [.d (D.s c.1.name), .d (D.s c.1.fields)], .row 59 [.d (D.i .u8 x0.op), .n 0, .n j, .n k, .n o, .n p, .n w], .row 238 [.pt 2 0], .lp f [.pt 0 0] .busy none, .row 231 [.d (D.s e.1.name), .d (D.s e.1.fields)], .row 240 [.fn (.func 206) [] [.pt 7 0], .fn (.func 207) [] [.pt 7 0], .n ((f189 x).1), .n ((f189 x).2)], .row 204 [.pt 2 1], .row 240 [.fn (.func 206) [] [.pt 7 0], .fn (.func 207) [] [.pt 7 0], .n 0, .n 0], .row 240 [.fn (.func 206) [] [.pt 7 0], .fn (.func 207) [] [.pt 7 0], .n ((f189 x).1), .n ((f189 x).2)]])) q q q q q ?_ (Zw q) q q ?_
 refine cI func207 λ_ _ _ _=>?_
 exact Rcl 4 q (sS Z6 s3 Z2 (Rlx 1 q (d6 (aG (fb q) ⟨h,Zl,⟨Zp,Zp,Zp,Zp,⟨q,Zs _,q,q⟩,Zp,Zp,Zp,Zp,Zp,Zt⟩⟩))))
 rintro rv st1 ⟨h,hr,hst⟩
 subst hw
 dsimp only at h
 exact WL.cast 60 q hr (WL.weak hst (WL.nil (Rxx 1 q (dJ f3 q (.inr (⟨h,q,⟨Zp,Zp,Zp,Zp,⟨q,Zs _,q,q⟩,Zp,Zp,Zp,Zp,Zp,Zt⟩⟩))))))
 rintro rv st1 (⟨h,rfl,hst⟩|⟨h,rfl,hst⟩)
 subst hp
 dsimp only at h
 exact WL.weak hst (Rl 1 q (Zn (bD q (Rcx 5 q (aG (fb q) (.inl ⟨g,j,k,o,p,w,e.1.name,e.1.fields,((f189 x).1),((f189 x).2),((f189 x).1),((f189 x).2),h,⟨Zp,Zp,Zp,Zp,⟨q,Zs _,q,q⟩,Zp,Zp,Zp,Zp,Zp,Zt⟩⟩))))))
 subst hs
 dsimp only at h
 exact WL.weak hst (Rl 1 q (Zn (cX q (Rcx 7 q (WE.drop 6 (env':=[(0, .yl 4),(1, .pt 3 0),(18, .l E9 F),(19, .n (List.length F:Int)),(20, .n (IntKind.i64.wrap (G+1)))]) Sb q q (Nat.le_trans (Nat.le_of_eq I) (nbT q)) (Fn7 h))))))
 refine Rcc 6 q (Ci h q (λh=>?_) λh=>?_)
 refine Rcl 4 q ?_
 obtain⟨hx,hy,h⟩:=aQ h
 refine WL.inl (us:=[.pt 2 2]) (λrv st'=>(hx ()=some r∧Le rv (.ag [.fn (.func 206) [] [.pt 7 0], .fn (.func 207) [] [.pt 7 0], .n 0, .n 0])∧SLe st' [.row 4 [.d (D.b false)], .row 231 [.d (D.s c.1.name), .d (D.s c.1.fields)], .row 59 [.d (D.i .u8 x0.op), .n g, .n j, .n k, .n o, .n p, .n w], .row 238 [.pt 2 0], .lp f [.pt 0 0] .ready none, .row 231 [.d (D.s e.1.name), .d (D.s e.1.fields)], .row 240 [.d (.v .nilFunc), .d (.v .nilFunc), .n 0, .n 0], .row 204 [.pt 2 2], .row 240 [.fn (.func 206) [] [.pt 7 0], .fn (.func 207) [] [.pt 7 0], .n 0, .n 0]])) q q q q q ?_ (Zw q) q q ?_
 refine cI func187 λ_ _ _ _=>?_
 exact Rcl 2 q (Bx q q q (Al dH q (Rll 6 q (Zq (aa nX dH q q) q (sS Z6 cQ Z2 (Rlx 3 q (aG (rs1 q (cx q q oo cQ q)) ⟨h,Zl,⟨Zp,Zp,Zp,Zp,⟨q,Zs _,q,q⟩,Zp,Zp,Zp,Zp,Zt⟩⟩)))))))
 rintro rv st1 ⟨h,hr,hst⟩
 subst hy
 dsimp only at h
 refine WL.cast 41 q hr (WL.weak hst (sS Z6 cQ Z2 (WL.nil (Rxl 5 q ?_))))
 obtain⟨y,hz,h⟩:=ac h
 refine Zq (bw underlying9 q q hz) q (wF Z4 (f189_c) Lw Z3 (Rl 4 q (sS Z6 s2 Z2 (Rl 1 q (sS Z6 s2 Z2 (Rll 6 q ?_))))))
 obtain⟨hA,hB,h⟩:=aQ h
 obtain⟨hC,hE,h⟩:=aQ h
 refine WL.yield (env0:=[(44, .ag [.fn (.func 206) [] [.pt 7 0], .fn (.func 207) [] [.pt 7 0], .n ((f189 y).1), .n ((f189 y).2)]),(2, .pt 0 0)]) (λrv st'=>(hA ()=some r∧rv= .d (.v (.bool false))∧SLe st' [.row 4 [.d (D.b false)], .row 231 [.d (D.s c.1.name), .d (D.s c.1.fields)], .row 59 [.d (D.i .u8 x0.op), .n g, .n j, .n k, .n o, .n p, .n w], .row 238 [.pt 2 0], .lp f [.pt 0 0] .done (some .ret), .row 231 [.d (D.s e.1.name), .d (D.s e.1.fields)], .row 240 [.fn (.func 206) [] [.pt 7 0], .fn (.func 207) [] [.pt 7 0], .n ((f189 y).1), .n ((f189 y).2)], .row 204 [.pt 2 2], .row 240 [.fn (.func 206) [] [.pt 7 0], .fn (.func 207) [] [.pt 7 0], .n 0, .n 0], .row 240 [.fn (.func 206) [] [.pt 7 0], .fn (.func 207) [] [.pt 7 0], .n ((f189 y).1), .n ((f189 y).2)]])∨(hC ()=some r∧rv= .d (.v (.bool true))∧SLe st' [.row 4 [.d (D.b false)], .row 231 [.d (D.s c.1.name), .d (D.s c.1.fields)], .row 59 [.d (D.i .u8 x0.op), .n g, .n 0, .n k, .n o, .n p, .n w], .row 238 [.pt 2 0], .lp f [.pt 0 0] .ready none, .row 231 [.d (D.s e.1.name), .d (D.s e.1.fields)], .row 240 [.fn (.func 206) [] [.pt 7 0], .fn (.func 207) [] [.pt 7 0], .n ((f189 y).1), .n ((f189 y).2)], .row 204 [.pt 2 2], .row 240 [.fn (.func 206) [] [.pt 7 0], .fn (.func 207) [] [.pt 7 0], .n 0, .n 0], .row 240 [.fn (.func 206) [] [.pt 7 0], .fn (.func 207) [] [.pt 7 0], .n ((f189 y).1), .n ((f189 y).2)]])) H q q q q q q q (λee hn f5 kk=>?_) (Zw q) q q ?_
 obtain⟨em,eφ,ew,en,er⟩:=ee
 subst hn
 refine Rcl 1 q (Al dH q (sS Z6 cQ Z2 (Rlx 1 q (e7 f5 q (Rcl 6 q ?_)))))
 obtain⟨hF,hI,h⟩:=aQ h
 refine WL.inl (us:=[.pt 7 0]) (λrv st'=>(hF ()=some r∧Le rv (.n j)∧SLe st' [.row 4 [.d (D.b false)], .row 231 [.d (D.s c.1.name), .d (D.s c.1.fields)], .row 59 [.d (D.i .u8 x0.op), .n g, .n j, .n k, .n o, .n p, .n w], .row 238 [.pt 2 0], .lp f [.pt 0 0] .busy none, .row 231 [.d (D.s e.1.name), .d (D.s e.1.fields)], .row 240 [.fn (.func 206) [] [.pt 7 0], .fn (.func 207) [] [.pt 7 0], .n ((f189 y).1), .n ((f189 y).2)], .row 204 [.pt 2 2], .row 240 [.fn (.func 206) [] [.pt 7 0], .fn (.func 207) [] [.pt 7 0], .n 0, .n 0], .row 240 [.fn (.func 206) [] [.pt 7 0], .fn (.func 207) [] [.pt 7 0], .n ((f189 y).1), .n ((f189 y).2)]])) q q q q q ?_ (Zw q) q q ?_
 refine cI func206 λ_ _ _ _=>?_
 exact Rcx 14 q (aG (rs1 q (bn q)) ⟨h,Zl,⟨Zp,Zp,Zp,Zp,⟨q,Zs _,q,q⟩,Zp,Zp,Zp,Zp,Zp,Zt⟩⟩)
 rintro rv st1 ⟨h,hr,hst⟩
 subst hI
 dsimp only at h
 refine WL.cast 47 q hr (WL.weak hst (Rl 1 q (Zn (Rcl 7 q ?_))))
 refine OG 5 52 57 5 5 ?_
 refine Rlc 2 q (Ci h q (λh=>?_) λh=>?_)
 exact Rcl 2 q (sS Z6 s4 Z2 (Rlx 5 q (bF f5 q (.inl ⟨h,q,⟨Zp,Zp,Zp,Zp,⟨q,Zs _,q,q⟩,Zp,Zp,Zp,Zp,Zp,Zt⟩⟩))))
 refine Rcl 5 q ?_
 obtain⟨hJ,hK,h⟩:=aQ h
 refine WL.inl (us:=[.n 0, .pt 7 0]) (λrv st'=>(hJ ()=some r∧Le rv (.tu [])∧SLe st' [.row 4 [.d (D.b false)], .row 231 [.d (D.s c.1.name), .d (D.s c.1.fields)], .row 59 [.d (D.i .u8 x0.op), .n g, .n 0, .n k, .n o, .n p, .n w], .row 238 [.pt 2 0], .lp f [.pt 0 0] .busy none, .row 231 [.d (D.s e.1.name), .d (D.s e.1.fields)], .row 240 [.fn (.func 206) [] [.pt 7 0], .fn (.func 207) [] [.pt 7 0], .n ((f189 y).1), .n ((f189 y).2)], .row 204 [.pt 2 2], .row 240 [.fn (.func 206) [] [.pt 7 0], .fn (.func 207) [] [.pt 7 0], .n 0, .n 0], .row 240 [.fn (.func 206) [] [.pt 7 0], .fn (.func 207) [] [.pt 7 0], .n ((f189 y).1), .n ((f189 y).2)]])) q q q q q ?_ (Zw q) q q ?_
 refine cI func207 λ_ _ _ _=>?_
 exact Rcl 4 q (sS Z6 s3 Z2 (Rlx 1 q (d6 (aG (fb q) ⟨h,Zl,⟨Zp,Zp,Zp,Zp,⟨q,Zs _,q,q⟩,Zp,Zp,Zp,Zp,Zp,Zt⟩⟩))))
 rintro rv st1 ⟨h,hr,hst⟩
 subst hK
 dsimp only at h
 exact WL.cast 60 q hr (WL.weak hst (WL.nil (Rxx 1 q (dJ f5 q (.inr (⟨h,q,⟨Zp,Zp,Zp,Zp,⟨q,Zs _,q,q⟩,Zp,Zp,Zp,Zp,Zp,Zt⟩⟩))))))
 rintro rv st1 (⟨h,rfl,hst⟩|⟨h,rfl,hst⟩)
 subst hB
 dsimp only at h
 exact WL.weak hst (Rl 1 q (Zn (bD q (Rcx 5 q (aG (fb q) (.inr (.inl ⟨g,j,k,o,p,w,e.1.name,e.1.fields,((f189 y).1),((f189 y).2),((f189 y).1),((f189 y).2),h,⟨Zp,Zp,Zp,Zp,⟨q,Zs _,q,q⟩,Zp,Zp,Zp,Zp,Zp,Zt⟩⟩)))))))
 subst hE
 dsimp only at h
 exact WL.weak hst (Rl 1 q (Zn (cX q (Rcx 7 q (WE.drop 6 (env':=[(0, .yl 4),(1, .pt 3 0),(18, .l E9 F),(19, .n (List.length F:Int)),(20, .n (IntKind.i64.wrap (G+1)))]) Sb q q (Nat.le_trans (Nat.le_of_eq I) (nbT q)) (Fn7 h))))))
 refine Rcc 6 q (Ci h q (λh=>?_) λh=>?_)
 refine Rcl 4 q ?_
 obtain⟨hL,hM,h⟩:=aQ h
 refine WL.inl (us:=[.pt 2 3]) (λrv st'=>(hL ()=some r∧Le rv (.ag [.fn (.func 206) [] [.pt 7 0], .fn (.func 207) [] [.pt 7 0], .n 0, .n 0])∧SLe st' [.row 4 [.d (D.b false)], .row 231 [.d (D.s c.1.name), .d (D.s c.1.fields)], .row 59 [.d (D.i .u8 x0.op), .n g, .n j, .n k, .n o, .n p, .n w], .row 238 [.pt 2 0], .lp f [.pt 0 0] .ready none, .row 231 [.d (D.s e.1.name), .d (D.s e.1.fields)], .row 240 [.d (.v .nilFunc), .d (.v .nilFunc), .n 0, .n 0], .row 204 [.pt 2 3], .row 240 [.fn (.func 206) [] [.pt 7 0], .fn (.func 207) [] [.pt 7 0], .n 0, .n 0]])) q q q q q ?_ (Zw q) q q ?_
 refine cI func187 λ_ _ _ _=>?_
 exact Rcl 2 q (Bx q q q (Al dH q (Rll 6 q (Zq (aa nX dH q q) q (sS Z6 cQ Z2 (Rlx 3 q (aG (rs1 q (cx q q oo cQ q)) ⟨h,Zl,⟨Zp,Zp,Zp,Zp,⟨q,Zs _,q,q⟩,Zp,Zp,Zp,Zp,Zt⟩⟩)))))))
 rintro rv st1 ⟨h,hr,hst⟩
 subst hM
 dsimp only at h
 refine WL.cast 47 q hr (WL.weak hst (sS Z6 cQ Z2 (WL.nil (Rxl 5 q ?_))))
 obtain⟨A,hO,h⟩:=ac h
 refine Zq (bw underlying9 q q hO) q (wF Z4 (f189_c) Lw Z3 (Rl 4 q (sS Z6 s2 Z2 (Rl 1 q (sS Z6 s2 Z2 (Rll 6 q ?_))))))
 obtain⟨hP,hQ,h⟩:=aQ h
 obtain⟨hR,hS,h⟩:=aQ h
 refine WL.yield (env0:=[(44, .ag [.fn (.func 206) [] [.pt 7 0], .fn (.func 207) [] [.pt 7 0], .n ((f189 A).1), .n ((f189 A).2)]),(2, .pt 0 0)]) (λrv st'=>(hP ()=some r∧rv= .d (.v (.bool false))∧SLe st' [.row 4 [.d (D.b false)], .row 231 [.d (D.s c.1.name), .d (D.s c.1.fields)], .row 59 [.d (D.i .u8 x0.op), .n g, .n j, .n k, .n o, .n p, .n w], .row 238 [.pt 2 0], .lp f [.pt 0 0] .done (some .ret), .row 231 [.d (D.s e.1.name), .d (D.s e.1.fields)], .row 240 [.fn (.func 206) [] [.pt 7 0], .fn (.func 207) [] [.pt 7 0], .n ((f189 A).1), .n ((f189 A).2)], .row 204 [.pt 2 3], .row 240 [.fn (.func 206) [] [.pt 7 0], .fn (.func 207) [] [.pt 7 0], .n 0, .n 0], .row 240 [.fn (.func 206) [] [.pt 7 0], .fn (.func 207) [] [.pt 7 0], .n ((f189 A).1), .n ((f189 A).2)]])∨(hR ()=some r∧rv= .d (.v (.bool true))∧SLe st' [.row 4 [.d (D.b false)], .row 231 [.d (D.s c.1.name), .d (D.s c.1.fields)], .row 59 [.d (D.i .u8 x0.op), .n g, .n j, .n 0, .n o, .n p, .n w], .row 238 [.pt 2 0], .lp f [.pt 0 0] .ready none, .row 231 [.d (D.s e.1.name), .d (D.s e.1.fields)], .row 240 [.fn (.func 206) [] [.pt 7 0], .fn (.func 207) [] [.pt 7 0], .n ((f189 A).1), .n ((f189 A).2)], .row 204 [.pt 2 3], .row 240 [.fn (.func 206) [] [.pt 7 0], .fn (.func 207) [] [.pt 7 0], .n 0, .n 0], .row 240 [.fn (.func 206) [] [.pt 7 0], .fn (.func 207) [] [.pt 7 0], .n ((f189 A).1), .n ((f189 A).2)]])) H q q q q q q q (λee hn f6 kl=>?_) (Zw q) q q ?_
 obtain⟨em,eφ,ew,en,er⟩:=ee
 subst hn
 refine Rcl 1 q (Al dH q (sS Z6 cQ Z2 (Rlx 1 q (e7 f6 q (Rcl 6 q ?_)))))
 obtain⟨hT,hV,h⟩:=aQ h
 refine WL.inl (us:=[.pt 7 0]) (λrv st'=>(hT ()=some r∧Le rv (.n k)∧SLe st' [.row 4 [.d (D.b false)], .row 231 [.d (D.s c.1.name), .d (D.s c.1.fields)], .row 59 [.d (D.i .u8 x0.op), .n g, .n j, .n k, .n o, .n p, .n w], .row 238 [.pt 2 0], .lp f [.pt 0 0] .busy none, .row 231 [.d (D.s e.1.name), .d (D.s e.1.fields)], .row 240 [.fn (.func 206) [] [.pt 7 0], .fn (.func 207) [] [.pt 7 0], .n ((f189 A).1), .n ((f189 A).2)], .row 204 [.pt 2 3], .row 240 [.fn (.func 206) [] [.pt 7 0], .fn (.func 207) [] [.pt 7 0], .n 0, .n 0], .row 240 [.fn (.func 206) [] [.pt 7 0], .fn (.func 207) [] [.pt 7 0], .n ((f189 A).1), .n ((f189 A).2)]])) q q q q q ?_ (Zw q) q q ?_
 refine cI func206 λ_ _ _ _=>?_
 exact Rcx 14 q (aG (rs1 q (bn q)) ⟨h,Zl,⟨Zp,Zp,Zp,Zp,⟨q,Zs _,q,q⟩,Zp,Zp,Zp,Zp,Zp,Zt⟩⟩)
 rintro rv st1 ⟨h,hr,hst⟩
 subst hV
 dsimp only at h
 refine WL.cast 47 q hr (WL.weak hst (Rl 1 q (Zn (Rcl 7 q ?_))))
 refine OG 5 52 57 5 5 ?_
 refine Rlc 2 q (Ci h q (λh=>?_) λh=>?_)
 exact Rcl 2 q (sS Z6 s4 Z2 (Rlx 5 q (bF f6 q (.inl ⟨h,q,⟨Zp,Zp,Zp,Zp,⟨q,Zs _,q,q⟩,Zp,Zp,Zp,Zp,Zp,Zt⟩⟩))))
 refine Rcl 5 q ?_
 obtain⟨hW,hX,h⟩:=aQ h
 refine WL.inl (us:=[.n 0, .pt 7 0]) (λrv st'=>(hW ()=some r∧Le rv (.tu [])∧SLe st' [.row 4 [.d (D.b false)], .row 231 [.d (D.s c.1.name), .d (D.s c.1.fields)], .row 59 [.d (D.i .u8 x0.op), .n g, .n j, .n 0, .n o, .n p, .n w], .row 238 [.pt 2 0], .lp f [.pt 0 0] .busy none, .row 231 [.d (D.s e.1.name), .d (D.s e.1.fields)], .row 240 [.fn (.func 206) [] [.pt 7 0], .fn (.func 207) [] [.pt 7 0], .n ((f189 A).1), .n ((f189 A).2)], .row 204 [.pt 2 3], .row 240 [.fn (.func 206) [] [.pt 7 0], .fn (.func 207) [] [.pt 7 0], .n 0, .n 0], .row 240 [.fn (.func 206) [] [.pt 7 0], .fn (.func 207) [] [.pt 7 0], .n ((f189 A).1), .n ((f189 A).2)]])) q q q q q ?_ (Zw q) q q ?_
 refine cI func207 λ_ _ _ _=>?_
 exact Rcl 4 q (sS Z6 s3 Z2 (Rlx 1 q (d6 (aG (fb q) ⟨h,Zl,⟨Zp,Zp,Zp,Zp,⟨q,Zs _,q,q⟩,Zp,Zp,Zp,Zp,Zp,Zt⟩⟩))))
 rintro rv st1 ⟨h,hr,hst⟩
 subst hX
 dsimp only at h
 exact WL.cast 60 q hr (WL.weak hst (WL.nil (Rxx 1 q (dJ f6 q (.inr (⟨h,q,⟨Zp,Zp,Zp,Zp,⟨q,Zs _,q,q⟩,Zp,Zp,Zp,Zp,Zp,Zt⟩⟩))))))
 rintro rv st1 (⟨h,rfl,hst⟩|⟨h,rfl,hst⟩)
 subst hQ
 dsimp only at h
 exact WL.weak hst (Rl 1 q (Zn (bD q (Rcx 5 q (aG (fb q) (.inr (.inr (.inl ⟨g,j,k,o,p,w,e.1.name,e.1.fields,((f189 A).1),((f189 A).2),((f189 A).1),((f189 A).2),h,⟨Zp,Zp,Zp,Zp,⟨q,Zs _,q,q⟩,Zp,Zp,Zp,Zp,Zp,Zt⟩⟩))))))))
 subst hS
 dsimp only at h
 exact WL.weak hst (Rl 1 q (Zn (cX q (Rcx 7 q (WE.drop 6 (env':=[(0, .yl 4),(1, .pt 3 0),(18, .l E9 F),(19, .n (List.length F:Int)),(20, .n (IntKind.i64.wrap (G+1)))]) Sb q q (Nat.le_trans (Nat.le_of_eq I) (nbT q)) (Fn7 h))))))
 refine Rcc 6 q (Ci h q (λh=>?_) λh=>?_)
 refine Rcl 4 q ?_
 obtain⟨h0,h1,h⟩:=aQ h
 refine WL.inl (us:=[.pt 2 4]) (λrv st'=>(h0 ()=some r∧Le rv (.ag [.fn (.func 208) [] [.pt 7 0], .fn (.func 209) [] [.pt 7 0], .n 0, .n 0])∧SLe st' [.row 4 [.d (D.b false)], .row 231 [.d (D.s c.1.name), .d (D.s c.1.fields)], .row 59 [.d (D.i .u8 x0.op), .n g, .n j, .n k, .n o, .n p, .n w], .row 238 [.pt 2 0], .lp f [.pt 0 0] .ready none, .row 231 [.d (D.s e.1.name), .d (D.s e.1.fields)], .row 240 [.d (.v .nilFunc), .d (.v .nilFunc), .n 0, .n 0], .row 102 [.pt 2 4], .row 240 [.fn (.func 208) [] [.pt 7 0], .fn (.func 209) [] [.pt 7 0], .n 0, .n 0]])) q q q q q ?_ (Zw q) q q ?_
 refine cI func188 λ_ _ _ _=>?_
 exact Rcl 2 q (Bx q q q (Al dH q (Rll 6 q (Zq (aa nX dH q q) q (sS Z6 cQ Z2 (Rlx 3 q (aG (rs1 q (cx q q oo cQ q)) ⟨h,Zl,⟨Zp,Zp,Zp,Zp,⟨q,Zs _,q,q⟩,Zp,Zp,Zp,Zp,Zt⟩⟩)))))))
 rintro rv st1 ⟨h,hr,hst⟩
 subst h1
 dsimp only at h
 refine WL.cast 53 q hr (WL.weak hst (sS Z6 cQ Z2 (WL.nil (Rxl 5 q ?_))))
 obtain⟨B,h2,h⟩:=ac h
 refine Zq (bw underlying9 q q h2) q (wF Z4 (f189_c) Lw Z3 (Rl 4 q (sS Z6 s2 Z2 (Rl 1 q (sS Z6 s2 Z2 (Rll 6 q ?_))))))
 obtain⟨h3,h4,h⟩:=aQ h
 obtain⟨h5,h6,h⟩:=aQ h
 refine WL.yield (env0:=[(44, .ag [.fn (.func 208) [] [.pt 7 0], .fn (.func 209) [] [.pt 7 0], .n ((f189 B).1), .n ((f189 B).2)]),(2, .pt 0 0)]) (λrv st'=>(h3 ()=some r∧rv= .d (.v (.bool false))∧SLe st' [.row 4 [.d (D.b false)], .row 231 [.d (D.s c.1.name), .d (D.s c.1.fields)], .row 59 [.d (D.i .u8 x0.op), .n g, .n j, .n k, .n o, .n p, .n w], .row 238 [.pt 2 0], .lp f [.pt 0 0] .done (some .ret), .row 231 [.d (D.s e.1.name), .d (D.s e.1.fields)], .row 240 [.fn (.func 208) [] [.pt 7 0], .fn (.func 209) [] [.pt 7 0], .n ((f189 B).1), .n ((f189 B).2)], .row 102 [.pt 2 4], .row 240 [.fn (.func 208) [] [.pt 7 0], .fn (.func 209) [] [.pt 7 0], .n 0, .n 0], .row 240 [.fn (.func 208) [] [.pt 7 0], .fn (.func 209) [] [.pt 7 0], .n ((f189 B).1), .n ((f189 B).2)]])∨(h5 ()=some r∧rv= .d (.v (.bool true))∧SLe st' [.row 4 [.d (D.b false)], .row 231 [.d (D.s c.1.name), .d (D.s c.1.fields)], .row 59 [.d (D.i .u8 x0.op), .n g, .n j, .n k, .n 0, .n p, .n w], .row 238 [.pt 2 0], .lp f [.pt 0 0] .ready none, .row 231 [.d (D.s e.1.name), .d (D.s e.1.fields)], .row 240 [.fn (.func 208) [] [.pt 7 0], .fn (.func 209) [] [.pt 7 0], .n ((f189 B).1), .n ((f189 B).2)], .row 102 [.pt 2 4], .row 240 [.fn (.func 208) [] [.pt 7 0], .fn (.func 209) [] [.pt 7 0], .n 0, .n 0], .row 240 [.fn (.func 208) [] [.pt 7 0], .fn (.func 209) [] [.pt 7 0], .n ((f189 B).1), .n ((f189 B).2)]])) H q q q q q q q (λee hn f7 kn=>?_) (Zw q) q q ?_
 obtain⟨em,eφ,ew,en,er⟩:=ee
 subst hn
 refine Rcl 1 q (Al dH q (sS Z6 cQ Z2 (Rlx 1 q (e7 f7 q (Rcl 6 q ?_)))))
 obtain⟨h7,h8,h⟩:=aQ h
 refine WL.inl (us:=[.pt 7 0]) (λrv st'=>(h7 ()=some r∧Le rv (.n o)∧SLe st' [.row 4 [.d (D.b false)], .row 231 [.d (D.s c.1.name), .d (D.s c.1.fields)], .row 59 [.d (D.i .u8 x0.op), .n g, .n j, .n k, .n o, .n p, .n w], .row 238 [.pt 2 0], .lp f [.pt 0 0] .busy none, .row 231 [.d (D.s e.1.name), .d (D.s e.1.fields)], .row 240 [.fn (.func 208) [] [.pt 7 0], .fn (.func 209) [] [.pt 7 0], .n ((f189 B).1), .n ((f189 B).2)], .row 102 [.pt 2 4], .row 240 [.fn (.func 208) [] [.pt 7 0], .fn (.func 209) [] [.pt 7 0], .n 0, .n 0], .row 240 [.fn (.func 208) [] [.pt 7 0], .fn (.func 209) [] [.pt 7 0], .n ((f189 B).1), .n ((f189 B).2)]])) q q q q q ?_ (Zw q) q q ?_
 refine cI func208 λ_ _ _ _=>?_
 exact Rcx 14 q (aG (rs1 q (bn q)) ⟨h,Zl,⟨Zp,Zp,Zp,Zp,⟨q,Zs _,q,q⟩,Zp,Zp,Zp,Zp,Zp,Zt⟩⟩)
 rintro rv st1 ⟨h,hr,hst⟩
 subst h8
 dsimp only at h
 refine WL.cast 47 q hr (WL.weak hst (Rl 1 q (Zn (Rcl 7 q ?_))))
 refine OG 5 52 57 5 5 ?_
 refine Rlc 2 q (Ci h q (λh=>?_) λh=>?_)
 exact Rcl 2 q (sS Z6 s4 Z2 (Rlx 5 q (bF f7 q (.inl ⟨h,q,⟨Zp,Zp,Zp,Zp,⟨q,Zs _,q,q⟩,Zp,Zp,Zp,Zp,Zp,Zt⟩⟩))))
 refine Rcl 5 q ?_
 obtain⟨h9,h',h⟩:=aQ h
 refine WL.inl (us:=[.n 0, .pt 7 0]) (λrv st'=>(h9 ()=some r∧Le rv (.tu [])∧SLe st' [.row 4 [.d (D.b false)], .row 231 [.d (D.s c.1.name), .d (D.s c.1.fields)], .row 59 [.d (D.i .u8 x0.op), .n g, .n j, .n k, .n 0, .n p, .n w], .row 238 [.pt 2 0], .lp f [.pt 0 0] .busy none, .row 231 [.d (D.s e.1.name), .d (D.s e.1.fields)], .row 240 [.fn (.func 208) [] [.pt 7 0], .fn (.func 209) [] [.pt 7 0], .n ((f189 B).1), .n ((f189 B).2)], .row 102 [.pt 2 4], .row 240 [.fn (.func 208) [] [.pt 7 0], .fn (.func 209) [] [.pt 7 0], .n 0, .n 0], .row 240 [.fn (.func 208) [] [.pt 7 0], .fn (.func 209) [] [.pt 7 0], .n ((f189 B).1), .n ((f189 B).2)]])) q q q q q ?_ (Zw q) q q ?_
 refine cI func209 λ_ _ _ _=>?_
 exact Rcl 4 q (sS Z6 s2 Z2 (Rlx 1 q (d6 (aG (fb q) ⟨h,Zl,⟨Zp,Zp,Zp,Zp,⟨q,Zs _,q,q⟩,Zp,Zp,Zp,Zp,Zp,Zt⟩⟩))))
 rintro rv st1 ⟨h,hr,hst⟩
 subst h'
 dsimp only at h
 exact WL.cast 60 q hr (WL.weak hst (WL.nil (Rxx 1 q (dJ f7 q (.inr (⟨h,q,⟨Zp,Zp,Zp,Zp,⟨q,Zs _,q,q⟩,Zp,Zp,Zp,Zp,Zp,Zt⟩⟩))))))
 rintro rv st1 (⟨h,rfl,hst⟩|⟨h,rfl,hst⟩)
 subst h4
 dsimp only at h
 exact WL.weak hst (Rl 1 q (Zn (bD q (Rcx 5 q (aG (fb q) (.inr (.inr (.inr (.inl ⟨g,j,k,o,p,w,e.1.name,e.1.fields,((f189 B).1),((f189 B).2),((f189 B).1),((f189 B).2),h,⟨Zp,Zp,Zp,Zp,⟨q,Zs _,q,q⟩,Zp,Zp,Zp,Zp,Zp,Zt⟩⟩)))))))))
 subst h6
 dsimp only at h
 exact WL.weak hst (Rl 1 q (Zn (cX q (Rcx 7 q (WE.drop 6 (env':=[(0, .yl 4),(1, .pt 3 0),(18, .l E9 F),(19, .n (List.length F:Int)),(20, .n (IntKind.i64.wrap (G+1)))]) Sb q q (Nat.le_trans (Nat.le_of_eq I) (nbT q)) (Fn7 h))))))
 refine Rcc 6 q (Ci h q (λh=>?_) λh=>?_)
 refine Rcl 4 q ?_
 obtain⟨ih,ix,h⟩:=aQ h
 refine WL.inl (us:=[.pt 2 5]) (λrv st'=>(ih ()=some r∧Le rv (.ag [.fn (.func 208) [] [.pt 7 0], .fn (.func 209) [] [.pt 7 0], .n 0, .n 0])∧SLe st' [.row 4 [.d (D.b false)], .row 231 [.d (D.s c.1.name), .d (D.s c.1.fields)], .row 59 [.d (D.i .u8 x0.op), .n g, .n j, .n k, .n o, .n p, .n w], .row 238 [.pt 2 0], .lp f [.pt 0 0] .ready none, .row 231 [.d (D.s e.1.name), .d (D.s e.1.fields)], .row 240 [.d (.v .nilFunc), .d (.v .nilFunc), .n 0, .n 0], .row 102 [.pt 2 5], .row 240 [.fn (.func 208) [] [.pt 7 0], .fn (.func 209) [] [.pt 7 0], .n 0, .n 0]])) q q q q q ?_ (Zw q) q q ?_
 refine cI func188 λ_ _ _ _=>?_
 exact Rcl 2 q (Bx q q q (Al dH q (Rll 6 q (Zq (aa nX dH q q) q (sS Z6 cQ Z2 (Rlx 3 q (aG (rs1 q (cx q q oo cQ q)) ⟨h,Zl,⟨Zp,Zp,Zp,Zp,⟨q,Zs _,q,q⟩,Zp,Zp,Zp,Zp,Zt⟩⟩)))))))
 rintro rv st1 ⟨h,hr,hst⟩
 subst ix
 dsimp only at h
 refine WL.cast 59 q hr (WL.weak hst (sS Z6 cQ Z2 (WL.nil (Rxl 5 q ?_))))
 obtain⟨C,iA,h⟩:=ac h
 refine Zq (bw underlying9 q q iA) q (wF Z4 (f189_c) Lw Z3 (Rl 4 q (sS Z6 s2 Z2 (Rl 1 q (sS Z6 s2 Z2 (Rll 6 q ?_))))))
 obtain⟨iB,i0,h⟩:=aQ h
 obtain⟨i1,i2,h⟩:=aQ h
 refine WL.yield (env0:=[(44, .ag [.fn (.func 208) [] [.pt 7 0], .fn (.func 209) [] [.pt 7 0], .n ((f189 C).1), .n ((f189 C).2)]),(2, .pt 0 0)]) (λrv st'=>(iB ()=some r∧rv= .d (.v (.bool false))∧SLe st' [.row 4 [.d (D.b false)], .row 231 [.d (D.s c.1.name), .d (D.s c.1.fields)], .row 59 [.d (D.i .u8 x0.op), .n g, .n j, .n k, .n o, .n p, .n w], .row 238 [.pt 2 0], .lp f [.pt 0 0] .done (some .ret), .row 231 [.d (D.s e.1.name), .d (D.s e.1.fields)], .row 240 [.fn (.func 208) [] [.pt 7 0], .fn (.func 209) [] [.pt 7 0], .n ((f189 C).1), .n ((f189 C).2)], .row 102 [.pt 2 5], .row 240 [.fn (.func 208) [] [.pt 7 0], .fn (.func 209) [] [.pt 7 0], .n 0, .n 0], .row 240 [.fn (.func 208) [] [.pt 7 0], .fn (.func 209) [] [.pt 7 0], .n ((f189 C).1), .n ((f189 C).2)]])∨(i1 ()=some r∧rv= .d (.v (.bool true))∧SLe st' [.row 4 [.d (D.b false)], .row 231 [.d (D.s c.1.name), .d (D.s c.1.fields)], .row 59 [.d (D.i .u8 x0.op), .n g, .n j, .n k, .n o, .n 0, .n w], .row 238 [.pt 2 0], .lp f [.pt 0 0] .ready none, .row 231 [.d (D.s e.1.name), .d (D.s e.1.fields)], .row 240 [.fn (.func 208) [] [.pt 7 0], .fn (.func 209) [] [.pt 7 0], .n ((f189 C).1), .n ((f189 C).2)], .row 102 [.pt 2 5], .row 240 [.fn (.func 208) [] [.pt 7 0], .fn (.func 209) [] [.pt 7 0], .n 0, .n 0], .row 240 [.fn (.func 208) [] [.pt 7 0], .fn (.func 209) [] [.pt 7 0], .n ((f189 C).1), .n ((f189 C).2)]])) H q q q q q q q (λee hn gl ks=>?_) (Zw q) q q ?_
 obtain⟨em,eφ,ew,en,er⟩:=ee
 subst hn
 refine Rcl 1 q (Al dH q (sS Z6 cQ Z2 (Rlx 1 q (e7 gl q (Rcl 6 q ?_)))))
 obtain⟨i3,i4,h⟩:=aQ h
 refine WL.inl (us:=[.pt 7 0]) (λrv st'=>(i3 ()=some r∧Le rv (.n p)∧SLe st' [.row 4 [.d (D.b false)], .row 231 [.d (D.s c.1.name), .d (D.s c.1.fields)], .row 59 [.d (D.i .u8 x0.op), .n g, .n j, .n k, .n o, .n p, .n w], .row 238 [.pt 2 0], .lp f [.pt 0 0] .busy none, .row 231 [.d (D.s e.1.name), .d (D.s e.1.fields)], .row 240 [.fn (.func 208) [] [.pt 7 0], .fn (.func 209) [] [.pt 7 0], .n ((f189 C).1), .n ((f189 C).2)], .row 102 [.pt 2 5], .row 240 [.fn (.func 208) [] [.pt 7 0], .fn (.func 209) [] [.pt 7 0], .n 0, .n 0], .row 240 [.fn (.func 208) [] [.pt 7 0], .fn (.func 209) [] [.pt 7 0], .n ((f189 C).1), .n ((f189 C).2)]])) q q q q q ?_ (Zw q) q q ?_
 refine cI func208 λ_ _ _ _=>?_
 exact Rcx 14 q (aG (rs1 q (bn q)) ⟨h,Zl,⟨Zp,Zp,Zp,Zp,⟨q,Zs _,q,q⟩,Zp,Zp,Zp,Zp,Zp,Zt⟩⟩)
 rintro rv st1 ⟨h,hr,hst⟩
 subst i4
 dsimp only at h
 refine WL.cast 47 q hr (WL.weak hst (Rl 1 q (Zn (Rcl 7 q ?_))))
 refine OG 5 52 57 5 5 ?_
 refine Rlc 2 q (Ci h q (λh=>?_) λh=>?_)
 exact Rcl 2 q (sS Z6 s4 Z2 (Rlx 5 q (bF gl q (.inl ⟨h,q,⟨Zp,Zp,Zp,Zp,⟨q,Zs _,q,q⟩,Zp,Zp,Zp,Zp,Zp,Zt⟩⟩))))
 refine Rcl 5 q ?_
 obtain⟨i5,i6,h⟩:=aQ h
 refine WL.inl (us:=[.n 0, .pt 7 0]) (λrv st'=>(i5 ()=some r∧Le rv (.tu [])∧SLe st' [.row 4 [.d (D.b false)], .row 231 [.d (D.s c.1.name), .d (D.s c.1.fields)], .row 59 [.d (D.i .u8 x0.op), .n g, .n j, .n k, .n o, .n 0, .n w], .row 238 [.pt 2 0], .lp f [.pt 0 0] .busy none, .row 231 [.d (D.s e.1.name), .d (D.s e.1.fields)], .row 240 [.fn (.func 208) [] [.pt 7 0], .fn (.func 209) [] [.pt 7 0], .n ((f189 C).1), .n ((f189 C).2)], .row 102 [.pt 2 5], .row 240 [.fn (.func 208) [] [.pt 7 0], .fn (.func 209) [] [.pt 7 0], .n 0, .n 0], .row 240 [.fn (.func 208) [] [.pt 7 0], .fn (.func 209) [] [.pt 7 0], .n ((f189 C).1), .n ((f189 C).2)]])) q q q q q ?_ (Zw q) q q ?_
 refine cI func209 λ_ _ _ _=>?_
 exact Rcl 4 q (sS Z6 s2 Z2 (Rlx 1 q (d6 (aG (fb q) ⟨h,Zl,⟨Zp,Zp,Zp,Zp,⟨q,Zs _,q,q⟩,Zp,Zp,Zp,Zp,Zp,Zt⟩⟩))))
 rintro rv st1 ⟨h,hr,hst⟩
 subst i6
 dsimp only at h
 exact WL.cast 60 q hr (WL.weak hst (WL.nil (Rxx 1 q (dJ gl q (.inr (⟨h,q,⟨Zp,Zp,Zp,Zp,⟨q,Zs _,q,q⟩,Zp,Zp,Zp,Zp,Zp,Zt⟩⟩))))))
 rintro rv st1 (⟨h,rfl,hst⟩|⟨h,rfl,hst⟩)
 subst i0
 dsimp only at h
 exact WL.weak hst (Rl 1 q (Zn (bD q (Rcx 5 q (aG (fb q) (.inr (.inr (.inr (.inr (.inl ⟨g,j,k,o,p,w,e.1.name,e.1.fields,((f189 C).1),((f189 C).2),((f189 C).1),((f189 C).2),h,⟨Zp,Zp,Zp,Zp,⟨q,Zs _,q,q⟩,Zp,Zp,Zp,Zp,Zp,Zt⟩⟩))))))))))
 subst i2
 dsimp only at h
 exact WL.weak hst (Rl 1 q (Zn (cX q (Rcx 7 q (WE.drop 6 (env':=[(0, .yl 4),(1, .pt 3 0),(18, .l E9 F),(19, .n (List.length F:Int)),(20, .n (IntKind.i64.wrap (G+1)))]) Sb q q (Nat.le_trans (Nat.le_of_eq I) (nbT q)) (Fn7 h))))))
 refine Rcl 4 q ?_
 obtain⟨i7,i8,h⟩:=aQ h
 refine WL.inl (us:=[.pt 2 6]) (λrv st'=>(i7 ()=some r∧Le rv (.ag [.fn (.func 206) [] [.pt 7 0], .fn (.func 207) [] [.pt 7 0], .n 0, .n 0])∧SLe st' [.row 4 [.d (D.b false)], .row 231 [.d (D.s c.1.name), .d (D.s c.1.fields)], .row 59 [.d (D.i .u8 x0.op), .n g, .n j, .n k, .n o, .n p, .n w], .row 238 [.pt 2 0], .lp f [.pt 0 0] .ready none, .row 231 [.d (D.s e.1.name), .d (D.s e.1.fields)], .row 240 [.d (.v .nilFunc), .d (.v .nilFunc), .n 0, .n 0], .row 204 [.pt 2 6], .row 240 [.fn (.func 206) [] [.pt 7 0], .fn (.func 207) [] [.pt 7 0], .n 0, .n 0]])) q q q q q ?_ (Zw q) q q ?_
 refine cI func187 λ_ _ _ _=>?_
 exact Rcl 2 q (Bx q q q (Al dH q (Rll 6 q (Zq (aa nX dH q q) q (sS Z6 cQ Z2 (Rlx 3 q (aG (rs1 q (cx q q oo cQ q)) ⟨h,Zl,⟨Zp,Zp,Zp,Zp,⟨q,Zs _,q,q⟩,Zp,Zp,Zp,Zp,Zt⟩⟩)))))))
 rintro rv st1 ⟨h,hr,hst⟩
 subst i8
 dsimp only at h
 refine WL.cast 29 q hr (WL.weak hst (sS Z6 cQ Z2 (WL.nil (Rxl 5 q ?_))))
 obtain⟨E,i9,h⟩:=ac h
 refine Zq (bw underlying9 q q i9) q (wF Z4 (f189_c) Lw Z3 (Rl 4 q (sS Z6 s2 Z2 (Rl 1 q (sS Z6 s2 Z2 (Rll 6 q ?_))))))
 obtain⟨i',js,h⟩:=aQ h
 obtain⟨j1,j2,h⟩:=aQ h
 refine WL.yield (env0:=[(44, .ag [.fn (.func 206) [] [.pt 7 0], .fn (.func 207) [] [.pt 7 0], .n ((f189 E).1), .n ((f189 E).2)]),(2, .pt 0 0)]) (λrv st'=>(i' ()=some r∧rv= .d (.v (.bool false))∧SLe st' [.row 4 [.d (D.b false)], .row 231 [.d (D.s c.1.name), .d (D.s c.1.fields)], .row 59 [.d (D.i .u8 x0.op), .n g, .n j, .n k, .n o, .n p, .n w], .row 238 [.pt 2 0], .lp f [.pt 0 0] .done (some .ret), .row 231 [.d (D.s e.1.name), .d (D.s e.1.fields)], .row 240 [.fn (.func 206) [] [.pt 7 0], .fn (.func 207) [] [.pt 7 0], .n ((f189 E).1), .n ((f189 E).2)], .row 204 [.pt 2 6], .row 240 [.fn (.func 206) [] [.pt 7 0], .fn (.func 207) [] [.pt 7 0], .n 0, .n 0], .row 240 [.fn (.func 206) [] [.pt 7 0], .fn (.func 207) [] [.pt 7 0], .n ((f189 E).1), .n ((f189 E).2)]])∨(j1 ()=some r∧rv= .d (.v (.bool true))∧SLe st' [.row 4 [.d (D.b false)], .row 231 [.d (D.s c.1.name), .d (D.s c.1.fields)], .row 59 [.d (D.i .u8 x0.op), .n g, .n j, .n k, .n o, .n p, .n 0], .row 238 [.pt 2 0], .lp f [.pt 0 0] .ready none, .row 231 [.d (D.s e.1.name), .d (D.s e.1.fields)], .row 240 [.fn (.func 206) [] [.pt 7 0], .fn (.func 207) [] [.pt 7 0], .n ((f189 E).1), .n ((f189 E).2)], .row 204 [.pt 2 6], .row 240 [.fn (.func 206) [] [.pt 7 0], .fn (.func 207) [] [.pt 7 0], .n 0, .n 0], .row 240 [.fn (.func 206) [] [.pt 7 0], .fn (.func 207) [] [.pt 7 0], .n ((f189 E).1), .n ((f189 E).2)]])) H q q q q q q q (λee hn gm kt=>?_) (Zw q) q q ?_
 obtain⟨em,eφ,ew,en,er⟩:=ee
 subst hn
 refine Rcl 1 q (Al dH q (sS Z6 cQ Z2 (Rlx 1 q (e7 gm q (Rcl 6 q ?_)))))
 obtain⟨j3,j4,h⟩:=aQ h
 refine WL.inl (us:=[.pt 7 0]) (λrv st'=>(j3 ()=some r∧Le rv (.n w)∧SLe st' [.row 4 [.d (D.b false)], .row 231 [.d (D.s c.1.name), .d (D.s c.1.fields)], .row 59 [.d (D.i .u8 x0.op), .n g, .n j, .n k, .n o, .n p, .n w], .row 238 [.pt 2 0], .lp f [.pt 0 0] .busy none, .row 231 [.d (D.s e.1.name), .d (D.s e.1.fields)], .row 240 [.fn (.func 206) [] [.pt 7 0], .fn (.func 207) [] [.pt 7 0], .n ((f189 E).1), .n ((f189 E).2)], .row 204 [.pt 2 6], .row 240 [.fn (.func 206) [] [.pt 7 0], .fn (.func 207) [] [.pt 7 0], .n 0, .n 0], .row 240 [.fn (.func 206) [] [.pt 7 0], .fn (.func 207) [] [.pt 7 0], .n ((f189 E).1), .n ((f189 E).2)]])) q q q q q ?_ (Zw q) q q ?_
 refine cI func206 λ_ _ _ _=>?_
 exact Rcx 14 q (aG (rs1 q (bn q)) ⟨h,Zl,⟨Zp,Zp,Zp,Zp,⟨q,Zs _,q,q⟩,Zp,Zp,Zp,Zp,Zp,Zt⟩⟩)
 rintro rv st1 ⟨h,hr,hst⟩
 subst j4
 dsimp only at h
 refine WL.cast 47 q hr (WL.weak hst (Rl 1 q (Zn (Rcl 7 q ?_))))
 refine OG 5 52 57 5 5 ?_
 refine Rlc 2 q (Ci h q (λh=>?_) λh=>?_)
 exact Rcl 2 q (sS Z6 s4 Z2 (Rlx 5 q (bF gm q (.inl ⟨h,q,⟨Zp,Zp,Zp,Zp,⟨q,Zs _,q,q⟩,Zp,Zp,Zp,Zp,Zp,Zt⟩⟩))))
 refine Rcl 5 q ?_
 obtain⟨j',ka,h⟩:=aQ h
 refine WL.inl (us:=[.n 0, .pt 7 0]) (λrv st'=>(j' ()=some r∧Le rv (.tu [])∧SLe st' [.row 4 [.d (D.b false)], .row 231 [.d (D.s c.1.name), .d (D.s c.1.fields)], .row 59 [.d (D.i .u8 x0.op), .n g, .n j, .n k, .n o, .n p, .n 0], .row 238 [.pt 2 0], .lp f [.pt 0 0] .busy none, .row 231 [.d (D.s e.1.name), .d (D.s e.1.fields)], .row 240 [.fn (.func 206) [] [.pt 7 0], .fn (.func 207) [] [.pt 7 0], .n ((f189 E).1), .n ((f189 E).2)], .row 204 [.pt 2 6], .row 240 [.fn (.func 206) [] [.pt 7 0], .fn (.func 207) [] [.pt 7 0], .n 0, .n 0], .row 240 [.fn (.func 206) [] [.pt 7 0], .fn (.func 207) [] [.pt 7 0], .n ((f189 E).1), .n ((f189 E).2)]])) q q q q q ?_ (Zw q) q q ?_
 refine cI func207 λ_ _ _ _=>?_
 exact Rcl 4 q (sS Z6 s3 Z2 (Rlx 1 q (d6 (aG (fb q) ⟨h,Zl,⟨Zp,Zp,Zp,Zp,⟨q,Zs _,q,q⟩,Zp,Zp,Zp,Zp,Zp,Zt⟩⟩))))
 rintro rv st1 ⟨h,hr,hst⟩
 subst ka
 dsimp only at h
 exact WL.cast 60 q hr (WL.weak hst (WL.nil (Rxx 1 q (dJ gm q (.inr (⟨h,q,⟨Zp,Zp,Zp,Zp,⟨q,Zs _,q,q⟩,Zp,Zp,Zp,Zp,Zp,Zt⟩⟩))))))
 rintro rv st1 (⟨h,rfl,hst⟩|⟨h,rfl,hst⟩)
 subst js
 dsimp only at h
 exact WL.weak hst (Rl 1 q (Zn (bD q (Rcx 5 q (aG (fb q) (.inr (.inr (.inr (.inr (.inr (.inl ⟨g,j,k,o,p,w,e.1.name,e.1.fields,((f189 E).1),((f189 E).2),((f189 E).1),((f189 E).2),h,⟨Zp,Zp,Zp,Zp,⟨q,Zs _,q,q⟩,Zp,Zp,Zp,Zp,Zp,Zt⟩⟩)))))))))))
 subst j2
 dsimp only at h
 exact WL.weak hst (Rl 1 q (Zn (cX q (Rcx 7 q (WE.drop 6 (env':=[(0, .yl 4),(1, .pt 3 0),(18, .l E9 F),(19, .n (List.length F:Int)),(20, .n (IntKind.i64.wrap (G+1)))]) Sb q q (Nat.le_trans (Nat.le_of_eq I) (nbT q)) (Fn7 h))))))
 exact Rcx 4 q (d6 (aG (fb q) (.inr (.inr (.inr (.inr (.inr (.inr (⟨g,j,k,o,p,w,e.1.name,e.1.fields,h,⟨Zp,Zp,Zp,Zp,⟨q,Zs _,q,q⟩,Zp,Zt⟩⟩)))))))))
 rintro f rv st1 (⟨P,Q,R,S,T,U,V,W,X,Y,Z,ad,h,hst⟩|⟨a0,a1,a6,a7,a',bb,bk,bs,b0,b1,b2,b3,h,hst⟩|⟨b4,b5,b6,b7,b8,b9,b',ca,cc,cd,ci,cj,h,hst⟩|⟨cl,cp,c0,c1,c2,c3,c4,c5,c6,c7,c8,c',h,hst⟩|⟨dd,df,ds,dS,d0,d1,d2,d',ec,ei,el,eq,h,hst⟩|⟨es,et,ex,ey,e0,e1,e2,e3,e4,e5,e6,e',h,hst⟩|⟨fi,fo,fr,fv,fz,f0,f1,f2,h,hst⟩)
 subst ha
 dsimp only at h
 refine⟨_,_,_,_,_,hst,q,(by intro h;cases h),?_⟩
 refine Rxx 2 q ?_
 obtain rfl:=Oi h
 exact aU (rs1 q (iT q q a4 q)) Zl
 subst hb
 dsimp only at h
 refine⟨_,_,_,_,_,hst,q,(by intro h;cases h),?_⟩
 refine Rxx 2 q ?_
 obtain rfl:=Oi h
 exact aU (rs1 q (iT q q a4 q)) Zl
 subst hc
 dsimp only at h
 refine⟨_,_,_,_,_,hst,q,(by intro h;cases h),?_⟩
 refine Rxx 2 q ?_
 obtain rfl:=Oi h
 exact aU (rs1 q (iT q q a4 q)) Zl
 subst hd
 dsimp only at h
 refine⟨_,_,_,_,_,hst,q,(by intro h;cases h),?_⟩
 refine Rxx 2 q ?_
 obtain rfl:=Oi h
 exact aU (rs1 q (iT q q a4 q)) Zl
 subst he
 dsimp only at h
 refine⟨_,_,_,_,_,hst,q,(by intro h;cases h),?_⟩
 refine Rxx 2 q ?_
 obtain rfl:=Oi h
 exact aU (rs1 q (iT q q a4 q)) Zl
 subst hf
 dsimp only at h
 refine⟨_,_,_,_,_,hst,q,(by intro h;cases h),?_⟩
 refine Rxx 2 q ?_
 obtain rfl:=Oi h
 exact aU (rs1 q (iT q q a4 q)) Zl
 subst hg
 dsimp only at h
 refine⟨_,_,_,_,_,hst,q,(by intro h;cases h),?_⟩
 exact Rxx 1 q (cE ⟨_,_,_,_,_,_,_,_,h,Sb,Tv⟩)
 refine Rcl 5 q (Zq (aa p59 z59 q q) q (Zq (lY (xs:=[.int .u8 x0.op, .int .i64 J, .int .i64 K, .int .i64 L, .int .i64 M, .int .i64 N, .int .i64 O]) (ys:=[.int .u8 x0.op, .int .i64 0, .int .i64 0, .int .i64 0, .int .i64 0, .int .i64 0, .int .i64 0]) q59 q (aP (Zs _)) q (aP (Zs _)) q q q) q (sS Z6 s4 Z2 (Rlx 3 q ?_))))
 obtain rfl:=Oi h
 exact aU (rs1 q (iT q q a4 q)) Zl

theorem f100_c(y0:aM):Pu prog 100 [.ag (R59 y0)] (.b (f100 y0)):=by
 generalize h:f100 y0=r
 unfold f100 at h
 refine fI func100 λ_ _=>?_
 exact Rcl 2 q (Bd q q (Zs _) q (Rlx 12 q (FB h)))

theorem f101_c{t0:aT}{a:Int}{n2:Int}{r:Int×Bool}(h:f101 t0 a n2=some r):Pu prog 101 [.ag (R86 t0), .i .i64 a, .i .i64 n2] (.tu [.i .i64 r.1, .b r.2]):=by
 unfold f101 at h
 refine fI func101 λ_ _=>?_
 refine Rcl 2 q (Bd q q (Zs _) q (Rll 10 q ?_))
 apply WL.or 7 (t:=11) (d:=18)
 exact q
 intro k
 exact Rl 4 q (Zy (ab E70 t0.text.tasks e29 q q Zl) q q q (Rl 2 q (WL.nil ⟨q,[_,_,_,_,_,_,_],q,q,q⟩)))
 exact Rn 7 7
 refine Rl 1 q ?_
 refine OG 3 19 22 3 3 ?_
 refine Rl 1 q ?_
 obtain⟨f,g,h⟩:=ac h
 refine Gg 11 23 34 f g (λh=>?_) (λh=>?_) ?_
 exact On 11 11 h
 refine Rl 5 q ?_
 obtain⟨j,c,h⟩:=ac h
 exact Zy (ah e29 q Zl q (ai c) (aw dx c) q) q q q (Rl 2 q (Zy (ab E72 j.entries e68 q q Zl) q q q (On 2 11 h)))
 refine Rlc 2 q (Ci h q (λh=>Rcx 8 q (FA h)) λh=>?_)
 exact Rcl 8 q (Ix h e29 dx q Zl q q λm _ h=>(Rl 3 q (Ix h e68 fx q Zl q q λe _ h=>(Rl 1 q (Al z72 q (sS Z6 s72 Z2 (Rll 6 q (Zq (ab E3 e.ins e54 q q Zl) q (Rl 2 q (Zq (ab E3 e.outs e54 q q Zl) q (Rlx 7 q (FA h))))))))))))

theorem f102_c{t0:aT}{p1:Int}{n2:Int}{r:Bool}(h:f102 t0 p1 n2=some r):Pu prog 102 [.ag (R86 t0), .i .i64 p1, .i .i64 n2] (.b r):=by
 unfold f102 at h
 refine fI func102 λ_ _=>?_
 refine Rcl 2 q (Bd q q (Zs _) q (Rll 8 q ?_))
 apply WL.and 7 (t:=9) (d:=16)
 exact q
 intro g
 exact Rl 4 q (Zy (ab E75 t0.text.prots e30 q q Zl) q q q (Rl 2 q (WL.nil ⟨q,[_,_,_,_,_,_,_],q,q,q⟩)))
 exact Rn 7 7
 refine Rl 1 q ?_
 refine AG 3 17 20 3 3 ?_
 refine Rl 1 q ?_
 obtain⟨c,e,h⟩:=ac h
 refine Gg 11 21 32 c e (λh=>?_) (λh=>?_) ?_
 refine Rl 5 q ?_
 obtain⟨f,a,h⟩:=ac h
 exact Zy (ah e30 q Zl q (ai a) (aw fw a) q) q q q (Rl 2 q (Zy (ab E80 f.barriers e73 q q Zl) q q q (On 2 11 h)))
 exact On 11 11 h
 exact Rlx 4 q (FA h)

theorem f37_c{t0:aT}{x1:aM}{r:Bool}(h:f37 t0 x1=some r):Pu prog 37 [.ag (R86 t0), .ag (R59 x1)] (.b r):=by
 unfold f37 at h
 refine fI func37 λ_ _=>?_
 refine Rcl 2 q (Bd q q (Zs _) q (Bd q q (Zs _) q (Rll 7 q ?_)))
 obtain⟨K,j,h⟩:=ac h
 refine wF Z4 (f99_c j) Lw Z3 (Rlc 3 q (Ci h q (λh=>?_) λh=>?_))
 exact Rcx 7 q (FA h)
 refine Rcc 10 q (Jn1 (λa=> [(2, .d (.pc (R86 t0))),(3, .d (.pc (R59 x1))),(14, .d (D.i .u8 x1.op)),(15, .d (D.b a))]) (λ_=> []) h (λ_ h=>?_) λa h=>?_)
 exact Rcc 6 q (Ci h q (λh=>Rcx 1 q (En1 h)) λh=>Rcx 4 q (En1 h))
 refine Ci h q (λh=>?_) (λh=>?_)
 refine Rcl 7 q ?_
 obtain⟨L,k,h⟩:=ac h
 exact wF Z4 (f89_c k) Lw Z3 (Rlx 6 q (FA h))
 refine Jn1 (λc=> [(2, .d (.pc (R86 t0))),(3, .d (.pc (R59 x1))),(14, .d (D.i .u8 x1.op)),(24, .d (D.b c))]) (λ_=> []) h (λ_ h=>?_) (λc h=>?_)
 exact Rcc 6 q (Ci h q (λh=>Rcx 1 q (En1 h)) λh=>Rcx 4 q (En1 h))
 refine Ci h q (λh=>?_) (λh=>?_)
 refine Rcl 9 q ?_
 obtain⟨M,o,h⟩:=ac h
 exact wF Z4 (f89_c o) Lw Z3 (Rlx 6 q (FA h))
 refine Jn1 (λe=> [(2, .d (.pc (R86 t0))),(3, .d (.pc (R59 x1))),(14, .d (D.i .u8 x1.op)),(35, .d (D.b e))]) (λ_=> []) h (λ_ h=>?_) (λe h=>?_)
 refine Rcc 6 q (Ci h q (λh=>Rcx 1 q (En1 h)) λh=>?_)
 exact Rcc 6 q (Ci h q (λh=>Rcx 1 q (En1 h)) λh=>Rcx 4 q (En1 h))
 refine Ci h q (λh=>?_) (λh=>?_)
 exact Rcl 5 q (wF Z4 (f47_c _ _) Lw Z3 (Rlx 6 q (FA h)))
 refine Rcc 6 q (Ci h q (λh=>?_) λh=>?_)
 refine Rcl 16 q (Zq (ab E59 t0.text.insns e22 q q Zl) q (Rl 2 q ?_))
 obtain⟨p,w,h⟩:=ac h
 refine Gg 10 56 66 p w (λh=>?_) (λh=>?_) ?_
 refine Rl 6 q ?_
 replace h:=jZ h
 obtain⟨x,h⟩:=h
 refine Zy (ky E59 t0.text.insns (l:=x1.to) (h:=(IntKind.i64.wrap (x1.to+x1.m))) e22 q Zl ⟨_,q⟩ ⟨_,q⟩ x λ_=>q) q q q ?_
 obtain⟨N,y,h⟩:=ac h
 exact WL.fn q q q q (f35_c _ _ 100 [] [] (λz0 _ h=>by obtain rfl:=inS h;exact f100_c z0) y) ⟨Zl,(Le.fnc Zt Zt),Zt⟩ (aI q q q) q q (On 2 10 h)
 exact On 10 10 h
 exact Rlx 6 q (FA h)
 refine Rcc 6 q (Ci h q (λh=>Rcx 14 q (FA h)) λh=>?_)
 refine Jn1 (λf=> [(2, .d (.pc (R86 t0))),(3, .d (.pc (R59 x1))),(14, .d (D.i .u8 x1.op)),(75, .d (D.b f))]) (λ_=> []) h (λ_ h=>?_) (λf h=>?_)
 refine Rcc 6 q (Ci h q (λh=>Rcx 1 q (En1 h)) λh=>?_)
 refine Rcc 6 q (Ci h q (λh=>Rcx 1 q (En1 h)) λh=>?_)
 exact Rcc 6 q (Ci h q (λh=>Rcx 1 q (En1 h)) λh=>Rcx 4 q (En1 h))
 refine Ci h q (λh=>?_) (λh=>?_)
 exact Rcl 7 q (Zq (ab E54 t0.text.lists e26 q q Zl) q (Rlx 7 q (FA h)))
 refine Rcc 6 q (Ci h q (λh=>Rcl 7 q (Zq (ab E65 t0.text.selects e25 q q Zl) q (Rlx 7 q (FA h)))) λh=>?_)
 refine Rcc 6 q (Ci h q (λh=>?_) λh=>?_)
 refine Rcl 7 q ?_
 obtain⟨O,A,h⟩:=ac h
 refine wF Z4 (f101_c A) Lw Z3 (Rll 11 q ?_)
 obtain⟨B,C,h⟩:=ac h
 refine Gg 6 108 114 B C (λh=>?_) (λh=>?_) ?_
 refine Rl 4 q ?_
 obtain⟨P,E,h⟩:=ac h
 exact WL.fn q q q q (f89_c E) Lw (aI q q q) q q (On 1 6 h)
 exact On 6 6 h
 exact Rlx 6 q (FA h)
 refine Rcc 6 q (Ci h q (λh=>?_) λh=>?_)
 refine Rcl 7 q ?_
 obtain⟨Q,F,h⟩:=ac h
 refine wF Z4 (f101_c F) Lw Z3 (Rll 11 q ?_)
 apply WL.and 8 (t:=127) (d:=135)
 exact q
 intro R
 exact Rl 5 q (Zy (ab E59 t0.text.insns e22 q q Zl) q q q (Rl 2 q (WL.nil ⟨q,[_,_,_,_,_,_,_,_],q,q,q⟩)))
 exact Rn 8 8
 exact Rlx 6 q (FA h)
 refine Jn1 (λg=> [(2, .d (.pc (R86 t0))),(3, .d (.pc (R59 x1))),(14, .d (D.i .u8 x1.op)),(136, .d (D.b g))]) (λ_=> []) h (λ_ h=>?_) (λg h=>?_)
 exact Rcc 6 q (Ci h q (λh=>Rcx 1 q (En1 h)) λh=>Rcx 4 q (En1 h))
 refine Ci h q (λh=>?_) (λh=>?_)
 exact Rcl 7 q (Zq (ab E75 t0.text.prots e30 q q Zl) q (Rlx 7 q (FA h)))
 refine Rcc 6 q (Ci h q (λh=>?_) λh=>?_)
 refine Rcl 7 q ?_
 obtain⟨S,G,h⟩:=ac h
 exact wF Z4 (f102_c G) Lw Z3 (Rlx 6 q (FA h))
 refine Rcc 6 q (Ci h q (λh=>?_) λh=>?_)
 refine Rcl 6 q ?_
 obtain⟨H,I,h⟩:=ac h
 refine Gg 7 159 166 H I (λh=>?_) (λh=>?_) ?_
 exact On 7 7 h
 refine Rl 5 q ?_
 obtain⟨T,J,h⟩:=ac h
 exact WL.fn q q q q (f102_c J) Lw (aI q q q) q q (On 1 7 h)
 exact Rlx 6 q (FA h)
 exact Rcx 9 q (FA h)

theorem f10_c(t0:af){r:Bool}(h:f10 t0=some r):Pu prog 10 [.ag (R33 t0)] (.b r):=by
 unfold f10 at h
 refine fI func10 λ_ _=>?_
 refine Rcl 2 q (Bd q q (Zs _) q (Rll 6 q (Zq (aa p86 z86 q q) q (Al z86 q (sS Z6 s86 Z2 (St q (Rll 7 q (Zq (ab E59 t0.insns e22 q q Zl) q (Rl 2 q ?_)))))))))
 apply WL.or 5 (t:=12) (d:=17)
 exact q
 intro M
 exact Rl 2 q (Zy (ab E59 t0.insns e22 q q Zl) q q q (Rl 2 q (WL.nil ⟨q,[_,_,_,_,_],q,q,q⟩)))
 exact Rn 5 5
 refine Rlc 2 q (Ci h q (λh=>Rcx 7 q (FA h)) λh=>?_)
 refine Rcl 9 q (Zq (ab E59 t0.insns e22 q q Zl) q (Rl 1 q (Ix h e22 cL q Zl q q λN _ h=>(Rlc 5 q (Jn1 (λj=> [(1, .d (.pc (R33 t0))),(3, .pt 0 0),(27, .d (D.b j))]) (λ_=> [.row 86 (txA t0)]) h (λ_ h=>?_) λj h=>?_)))))
 refine Rcc 6 q (Ci h q (λh=>Rcx 1 q (En1 h)) λh=>?_)
 refine Rcc 6 q (Ci h q (λh=>Rcx 1 q (En1 h)) λh=>?_)
 exact Rcc 6 q (Ci h q (λh=>Rcx 1 q (En1 h)) λh=>Rcx 4 q (En1 h))
 refine Ci h q (λh=>?_) (λh=>?_)
 refine Rcc 3 q ?_
 refine Jn0 [(1, .d (.pc (R33 t0))),(3, .pt 0 0)] [.row 86 (txA t0), .os 35 1 0 [[.fn (.func 27) [.ag (txA t0)] []],[.fn (.func 28) [.ag (txA t0)] []],[.fn (.func 29) [.ag (txA t0)] []],[.fn (.func 30) [.ag (txA t0)] []],[.fn (.func 31) [.ag (txA t0)] []],[.fn (.func 32) [.ag (txA t0)] []],[.fn (.func 33) [.ag (txA t0)] []],[.fn (.func 34) [.ag (txA t0)] []]]] h (λ_ h=>?_) (λh=>?_)
 refine Rcl 18 q (WL.s ((NewOs.b (ae l87 z35 q dC dC q q q dC)).does) (Zw q) q q (Zq (kE e87 q q q) q (Rlc 4 q (ja 9 (Rcc 6 q (bD q (Rcl 6 q (Zq (aV e87 q q q dC (by show(0:Int)<((8:Nat):Int);decide)) q (Zq (bM q q a35 q) q (Rll 6 q ?_))))))))))
 obtain⟨O,m,h⟩:=ac h
 refine wF Z4 (f27_c m) ⟨(aP (Zs _)),Zt⟩ Z3 (Rlc 3 q (Ci h q (λh=>?_) λh=>?_))
 exact Rcx 8 q (bN (Rxx 2 q (FA h)))
 refine Rcl 4 q (Zq (fy (c:=1) q q dC) q (Rlx 2 q (fA (WC.sub (env':=[(1, .d (.pc (R33 t0))),(3, .pt 0 0),(48, .os 1 0),(49, .n 8),(50, .n 1)]) Sb (Rcc 6 q (bD q (Rcl 6 q (Zq (aV e87 q q q dC (by show(1:Int)<((8:Nat):Int);decide)) q (Zq (bM q q a35 q) q (Rll 6 q ?_))))))))))
 obtain⟨P,o,h⟩:=ac h
 refine wF Z4 (f28_c o) ⟨(aP (Zs _)),Zt⟩ Z3 (Rlc 3 q (Ci h q (λh=>?_) λh=>?_))
 exact Rcx 8 q (bN (Rxx 2 q (FA h)))
 refine Rcl 4 q (Zq (fy (c:=2) q q dC) q (Rlx 2 q (fA (WC.sub (env':=[(1, .d (.pc (R33 t0))),(3, .pt 0 0),(48, .os 1 0),(49, .n 8),(50, .n 2)]) Sb (Rcc 6 q (bD q (Rcl 6 q (Zq (aV e87 q q q dC (by show(2:Int)<((8:Nat):Int);decide)) q (Zq (bM q q a35 q) q (Rll 6 q ?_))))))))))
 obtain⟨Q,p,h⟩:=ac h
 refine wF Z4 (f29_c p) ⟨(aP (Zs _)),Zt⟩ Z3 (Rlc 3 q (Ci h q (λh=>?_) λh=>?_))
 exact Rcx 8 q (bN (Rxx 2 q (FA h)))
 refine Rcl 4 q (Zq (fy (c:=3) q q dC) q (Rlx 2 q (fA (WC.sub (env':=[(1, .d (.pc (R33 t0))),(3, .pt 0 0),(48, .os 1 0),(49, .n 8),(50, .n 3)]) Sb (Rcc 6 q (bD q (Rcl 6 q (Zq (aV e87 q q q dC (by show(3:Int)<((8:Nat):Int);decide)) q (Zq (bM q q a35 q) q (Rll 6 q ?_))))))))))
 obtain⟨R,w,h⟩:=ac h
 refine wF Z4 (f30_c w) ⟨(aP (Zs _)),Zt⟩ Z3 (Rlc 3 q (Ci h q (λh=>?_) λh=>?_))
 exact Rcx 8 q (bN (Rxx 2 q (FA h)))
 refine Rcl 4 q (Zq (fy (c:=4) q q dC) q (Rlx 2 q (fA (WC.sub (env':=[(1, .d (.pc (R33 t0))),(3, .pt 0 0),(48, .os 1 0),(49, .n 8),(50, .n 4)]) Sb (Rcc 6 q (bD q (Rcl 6 q (Zq (aV e87 q q q dC (by show(4:Int)<((8:Nat):Int);decide)) q (Zq (bM q q a35 q) q (Rll 6 q ?_))))))))))
 obtain⟨S,x,h⟩:=ac h
 refine wF Z4 (f31_c x) ⟨(aP (Zs _)),Zt⟩ Z3 (Rlc 3 q (Ci h q (λh=>?_) λh=>?_))
 exact Rcx 8 q (bN (Rxx 2 q (FA h)))
 refine Rcl 4 q (Zq (fy (c:=5) q q dC) q (Rlx 2 q (fA (WC.sub (env':=[(1, .d (.pc (R33 t0))),(3, .pt 0 0),(48, .os 1 0),(49, .n 8),(50, .n 5)]) Sb (Rcc 6 q (bD q (Rcl 6 q (Zq (aV e87 q q q dC (by show(5:Int)<((8:Nat):Int);decide)) q (Zq (bM q q a35 q) q (Rll 6 q ?_))))))))))
 obtain⟨T,y,h⟩:=ac h
 refine wF Z4 (f32_c y) ⟨(aP (Zs _)),Zt⟩ Z3 (Rlc 3 q (Ci h q (λh=>?_) λh=>?_))
 exact Rcx 8 q (bN (Rxx 2 q (FA h)))
 refine Rcl 4 q (Zq (fy (c:=6) q q dC) q (Rlx 2 q (fA (WC.sub (env':=[(1, .d (.pc (R33 t0))),(3, .pt 0 0),(48, .os 1 0),(49, .n 8),(50, .n 6)]) Sb (Rcc 6 q (bD q (Rcl 6 q (Zq (aV e87 q q q dC (by show(6:Int)<((8:Nat):Int);decide)) q (Zq (bM q q a35 q) q (Rll 6 q ?_))))))))))
 obtain⟨U,A,h⟩:=ac h
 refine wF Z4 (f33_c A) ⟨(aP (Zs _)),Zt⟩ Z3 (Rlc 3 q (Ci h q (λh=>?_) λh=>?_))
 exact Rcx 8 q (bN (Rxx 2 q (FA h)))
 refine Rcl 4 q (Zq (fy (c:=7) q q dC) q (Rlx 2 q (fA (WC.sub (env':=[(1, .d (.pc (R33 t0))),(3, .pt 0 0),(48, .os 1 0),(49, .n 8),(50, .n 7)]) Sb (Rcc 6 q (bD q (Rcl 6 q (Zq (aV e87 q q q dC (by show(7:Int)<((8:Nat):Int);decide)) q (Zq (bM q q a35 q) q (Rll 6 q ?_))))))))))
 obtain⟨V,B,h⟩:=ac h
 refine wF Z4 (f34_c B) ⟨(aP (Zs _)),Zt⟩ Z3 (Rlc 3 q (Ci h q (λh=>?_) λh=>?_))
 exact Rcx 8 q (bN (Rxx 2 q (FA h)))
 exact Rcl 4 q (Zq (fy (c:=8) q q dC) q (Rlx 2 q (fA (WC.sub (env':=[(1, .d (.pc (R33 t0))),(3, .pt 0 0),(48, .os 1 0),(49, .n 8),(50, .n 8)]) Sb (Rcc 6 q (cX q (Rcx 2 q (hY (Rxx 1 q (En0 h))))))))))
 refine Rcl 5 q ?_
 obtain⟨C,E,h⟩:=aQ h
 refine WL.inl (us:=[.l E59 t0.insns, .fn (.func 36) [] [.pt 0 0]]) (λrv st'=>(∃(e:Bool),C e=some r∧Le rv (.d (D.b e))∧SLe st' [.row 86 (txA t0), .os 35 1 0 [[.fn (.func 27) [.ag (txA t0)] []],[.fn (.func 28) [.ag (txA t0)] []],[.fn (.func 29) [.ag (txA t0)] []],[.fn (.func 30) [.ag (txA t0)] []],[.fn (.func 31) [.ag (txA t0)] []],[.fn (.func 32) [.ag (txA t0)] []],[.fn (.func 33) [.ag (txA t0)] []],[.fn (.func 34) [.ag (txA t0)] []]]])) q q q q q ?_ (Zw q) q q ?_
 refine cI func35 λ_ _ _ W=>?_
 refine Rcl 9 q ?_
 obtain⟨k,F,h⟩:=aQ h
 refine WL.inl (us:=[.l E59 t0.insns, .fn (.func 36) [] [.pt 0 0]]) (λrv st'=>(∃(a:Int),k a=some r∧Le rv (.n a)∧SLe st' [.row 86 (txA t0), .os 35 1 0 [[.fn (.func 27) [.ag (txA t0)] []],[.fn (.func 28) [.ag (txA t0)] []],[.fn (.func 29) [.ag (txA t0)] []],[.fn (.func 30) [.ag (txA t0)] []],[.fn (.func 31) [.ag (txA t0)] []],[.fn (.func 32) [.ag (txA t0)] []],[.fn (.func 33) [.ag (txA t0)] []],[.fn (.func 34) [.ag (txA t0)] []]]])) q q q q q ?_ (Zw q) q q ?_
 refine cI func98 λ_ _ _ X=>?_
 refine Rcc 5 q ?_
 refine Jn0 [] [.row 86 (txA t0), .os 35 1 0 [[.fn (.func 27) [.ag (txA t0)] []],[.fn (.func 28) [.ag (txA t0)] []],[.fn (.func 29) [.ag (txA t0)] []],[.fn (.func 30) [.ag (txA t0)] []],[.fn (.func 31) [.ag (txA t0)] []],[.fn (.func 32) [.ag (txA t0)] []],[.fn (.func 33) [.ag (txA t0)] []],[.fn (.func 34) [.ag (txA t0)] []]]] h (λG h=>?_) (λh=>?_)
 refine Rcl 3 q (Zq (ab E59 t0.insns e22 q q Zl) q (Rlc 4 q ?_))
 refine Ln1 (λf=> [(0, .l E59 t0.insns),(1, .fn (.func 36) [] [.pt 0 0]),(7, .n (List.length t0.insns:Int)),(8, .n f)]) (λ_=> [.row 86 (txA t0), .os 35 1 0 [[.fn (.func 27) [.ag (txA t0)] []],[.fn (.func 28) [.ag (txA t0)] []],[.fn (.func 29) [.ag (txA t0)] []],[.fn (.func 30) [.ag (txA t0)] []],[.fn (.func 31) [.ag (txA t0)] []],[.fn (.func 32) [.ag (txA t0)] []],[.fn (.func 33) [.ag (txA t0)] []],[.fn (.func 34) [.ag (txA t0)] []]]]) (f10_l1 t0 k G) h (λ_ h=>by rw[f10_l1] at h;cases h) (λn f h=>?_)
 rw[f10_l1] at h
 refine Rcc 6 q (Ci h q (λh=>?_) λh=>?_)
 refine Rcl 15 q (Ix h e22 cL q Zl q q λH _ h=>(Rl 1 q ?_))
 obtain⟨I,J,h⟩:=aQ h
 refine WL.inl (us:=[.d (.ag (R59 H)), .pt 0 0]) (λrv st'=>(∃(g:Bool),I g=some r∧Le rv (.d (D.b g))∧SLe st' [.row 86 (txA t0), .os 35 1 0 [[.fn (.func 27) [.ag (txA t0)] []],[.fn (.func 28) [.ag (txA t0)] []],[.fn (.func 29) [.ag (txA t0)] []],[.fn (.func 30) [.ag (txA t0)] []],[.fn (.func 31) [.ag (txA t0)] []],[.fn (.func 32) [.ag (txA t0)] []],[.fn (.func 33) [.ag (txA t0)] []],[.fn (.func 34) [.ag (txA t0)] []]]])) q q q q q ?_ (Zw q) q q ?_
 refine cI func36 λ_ _ _ _=>?_
 refine Rcl 2 q (Bd q q (Zs _) q (Rll 7 q ?_))
 obtain⟨K,L,h⟩:=ac h
 exact wF Z4 (f37_c L) ⟨(aP (Zs _)),Zl,Zt⟩ Z3 (Rlx 5 q (aG (rs1 q (bn q)) ⟨(!K),h,Zl,⟨Zp,Zf,Zt⟩⟩))
 rintro rv st1 ⟨g,h,hr,hst⟩
 subst J
 dsimp only at h
 refine WL.cast 16 q hr (WL.weak hst (Zn (Ci h q (λh=>?_) λh=>?_)))
 exact Rcx 12 q (aG (rs1 q (bn q)) ⟨f,h,Zl,⟨Zp,Zf,Zt⟩⟩)
 exact Rcx 7 q (Fn1 h)
 exact Rcx 4 q (En0 h)
 exact Rcx 6 q (aG (rs1 q (bn q)) ⟨(-1),h,Zl,⟨Zp,Zf,Zt⟩⟩)
 rintro rv st1 ⟨a,h,hr,hst⟩
 subst F
 dsimp only at h
 exact WL.cast 7 q hr (WL.weak hst (Rl 2 q (Zn (Rcx 1 q (aG (rs1 q (bn q)) ⟨(decide (a≥0)),h,Zl,⟨Zp,Zf,Zt⟩⟩)))))
 rintro rv st1 ⟨e,h,hr,hst⟩
 subst E
 dsimp only at h
 exact WL.cast 61 q hr (WL.weak hst (Rl 2 q (Zn (Rcx 1 q (FA h)))))
 exact Rcx 8 q (FA h)

theorem f46_c{o0:Obj}{v1:Int}{r:Bool}(h:f46 o0 v1=some r):Pu prog 46 [.ag (R67 o0), .i .i64 v1] (.b r):=by
 unfold f46 at h
 refine fI func46 λ_ _=>?_
 refine Rcl 2 q (Bd q q (Zs _) q (Rlc 11 q (Ci h q (λh=>?_) λh=>?_)))
 refine Rcl 7 q ?_
 refine AG 5 13 18 5 5 ?_
 exact Rlx 5 q (FA h)
 refine Rcc 2 q (Jn0 [(1, .n v1)] [] h (λc h=>?_) λh=>?_)
 refine Rcc 6 q (Ln1 (λa=> [(1, .n v1),(2, .d (.pc (R67 o0))),(5, .n a)]) (λ_=> []) (f46_l1 o0 v1 c) h (λ_ h=>by rw[f46_l1] at h;cases h) λn a h=>?_)
 rw[f46_l1] at h
 refine Rcl 6 q (Zq (ab E3 o0.set_ e54 q q Zl) q (Rlc 3 q (Ci h q (λh=>?_) λh=>?_)))
 refine Rcl 10 q (Ix h e54 dF q Zl q q λe _ h=>(Rlc 5 q (Ci h q (λh=>?_) λh=>?_)))
 exact Rcx 11 q (FA h)
 exact Rcx 8 q (Fn1 h)
 exact Rcx 4 q (En0 h)
 exact Rcx 8 q (FA h)

theorem f103_c{t0:af}{o1:Obj}{r:Bool}(h:f103 t0 o1=some r):Pu prog 103 [.ag (R33 t0), .ag (R67 o1)] (.b r):=by
 unfold f103 at h
 refine fI func103 λ_ _=>?_
 refine Rcl 2 q (Bd q q (Zs _) q (Bd q q (Zs _) q (Rll 10 q ?_)))
 refine OG 4 10 14 4 4 ?_
 refine Rl 1 q ?_
 refine OG 6 15 21 6 6 ?_
 refine Rl 1 q ?_
 apply WL.or 10 (t:=22) (d:=32)
 exact q
 intro A
 refine Rl 4 q ?_
 apply WL.and 5 (t:=26) (d:=31)
 exact q
 intro B
 exact Rl 2 q (Zy (ab E3 o1.set_ e54 q q Zl) q q q (Rl 2 q (WL.nil ⟨q,[_,_,_,_,_],q,q,q⟩)))
 exact Rn 5 5
 exact Rn 1 6
 exact Rn 10 10
 refine Rl 1 q ?_
 apply WL.or 13 (t:=33) (d:=46)
 exact q
 intro C
 refine Rl 3 q ?_
 apply WL.and 9 (t:=36) (d:=45)
 exact q
 intro E
 refine Rl 4 q ?_
 refine OG 4 40 44 4 4 ?_
 exact Rn 1 6
 exact Rn 9 9
 exact Rn 1 5
 exact Rn 13 13
 refine Rlc 2 q (Ci h q (λh=>Rcx 7 q (FA h)) λh=>?_)
 refine Rcc 2 q (Jn0 [] [] h (λg h=>?_) λh=>?_)
 refine Rcc 6 q (Ln1 (λa=> [(2, .d (.pc (R33 t0))),(3, .d (.pc (R67 o1))),(5, .n a)]) (λ_=> []) (f103_l1 t0 o1 g) h (λ_ h=>by rw[f103_l1] at h;cases h) λn a h=>?_)
 rw[f103_l1] at h
 refine Rcl 6 q (Zq (ab E3 o1.set_ e54 q q Zl) q (Rlc 3 q (Ci h q (λh=>?_) λh=>?_)))
 refine Rcl 9 q (Ix h e54 dF q Zl q q λF _ h=>(Rll 9 q ?_))
 apply WL.or 6 (t:=61) (d:=67)
 exact q
 intro G
 exact Rl 3 q (Zy (ab E67 t0.objs e27 q q Zl) q q q (Rl 2 q (WL.nil ⟨q,[_,_,_,_,_,_],q,q,q⟩)))
 exact Rn 6 6
 refine Rl 1 q ?_
 obtain⟨j,k,h⟩:=ac h
 refine Gg 8 68 76 j k (λh=>?_) (λh=>?_) ?_
 exact On 8 8 h
 refine Rl 3 q ?_
 obtain⟨H,c,h⟩:=ac h
 exact Zy (ah e27 q Zl q (ai c) (aw bJ c) q) q q q (On 4 8 h)
 refine Rl 1 q ?_
 obtain⟨m,o,h⟩:=ac h
 refine Gg 7 77 84 m o (λh=>?_) (λh=>?_) ?_
 exact On 7 7 h
 refine Rl 3 q ?_
 obtain⟨I,e,h⟩:=ac h
 exact Zy (ah e27 q Zl q (ai e) (aw bJ e) q) q q q (On 3 7 h)
 refine Rl 1 q ?_
 obtain⟨p,w,h⟩:=ac h
 refine Gg 13 85 98 p w (λh=>?_) (λh=>?_) ?_
 exact On 13 13 h
 refine Rl 3 q ?_
 obtain⟨x,y,h⟩:=ac h
 refine Gg 9 88 97 x y (λh=>?_) (λh=>?_) ?_
 refine Rl 4 q ?_
 obtain⟨J,f,h⟩:=ac h
 exact Zy (ah e54 q Zl q (ai f) (aw dF f) q) q q q (On 4 9 h)
 exact On 9 9 h
 exact On 1 5 h
 exact Rlc 2 q (Ci h q (λh=>Rcx 11 q (FA h)) λh=>Rcx 8 q (Fn1 h))
 exact Rcx 4 q (En0 h)
 exact Rcx 6 q (FA h)

theorem f104_c{t0:af}{o1:Int}{a:Int}{c:Int}{r:Bool}(h:f104 t0 o1 a c=some r):Pu prog 104 [.ag (R33 t0), .i .i64 o1, .i .i64 a, .i .i64 c] (.b r):=by
 unfold f104 at h
 refine fI func104 λ_ _=>?_
 refine Rcl 2 q (Bd q q (Zs _) q (Rll 8 q ?_))
 apply WL.and 6 (t:=11) (d:=17)
 exact q
 intro j
 exact Rl 3 q (Zy (ab E67 t0.objs e27 q q Zl) q q q (Rl 2 q (WL.nil ⟨q,[_,_,_,_,_,_],q,q,q⟩)))
 exact Rn 6 6
 refine Rl 1 q ?_
 refine AG 3 18 21 3 3 ?_
 refine Rl 1 q ?_
 refine AG 3 22 25 3 3 ?_
 refine Rl 1 q ?_
 obtain⟨f,g,h⟩:=ac h
 refine Gg 11 26 37 f g (λh=>?_) (λh=>?_) ?_
 refine Rl 4 q ?_
 obtain⟨k,e,h⟩:=ac h
 exact Zy (ah e27 q Zl q (ai e) (aw bJ e) q) q q q (On 6 11 h)
 exact On 11 11 h
 exact Rlx 4 q (FA h)

theorem f38_c{t0:af}{r:Bool}(h:f38 t0=some r):Pu prog 38 [.ag (R33 t0)] (.b r):=by
 unfold f38 at h
 refine fI func38 λ_ _=>?_
 refine Rcl 2 q (Bd q q (Zs _) q (Rll 8 q (Zq (ab E67 t0.objs e27 q q Zl) q (Rl 2 q ?_))))
 refine OG 4 12 16 4 4 ?_
 refine Rl 1 q ?_
 refine OG 4 17 21 4 4 ?_
 refine Rl 1 q ?_
 apply WL.or 5 (t:=22) (d:=27)
 exact q
 intro O
 exact Rl 2 q (Zy (ab E93 t0.inits e28 q q Zl) q q q (Rl 2 q (WL.nil ⟨q,[_,_,_,_,_],q,q,q⟩)))
 exact Rn 5 5
 refine Rlc 2 q (Ci h q (λh=>Rcx 7 q (FA h)) λh=>?_)
 refine Rcc 7 q (Jn1 (λa=> [(1, .d (.pc (R33 t0))),(3, .n a)]) (λ_=> []) h (λG h=>?_) λa h=>?_)
 refine Rcc 6 q (Ln2 (λj k=> [(1, .d (.pc (R33 t0))),(3, .n j),(4, .n k)]) (λ_ _=> []) (f38_l1 t0 G) h (λ_ _ h=>by rw[f38_l1] at h;cases h) λn j k h=>?_)
 rw[f38_l1] at h
 refine Rcl 6 q (Zq (ab E67 t0.objs e27 q q Zl) q (Rlc 3 q (Ci h q (λh=>?_) λh=>?_)))
 refine Rcc 6 q (ax kR kR (Rq 4 q ?_))
 obtain⟨P,m,h⟩:=ac h
 refine WQ.qn (ah e27 q Zl q (ai m) (aw bJ m) q) q (Rq 1 q ?_)
 obtain⟨Q,H,h⟩:=ac h
 refine WQ.q (YieldsQ.fn q q q q q (f103_c H) Lw) (Zw q) q q (Rq 1 q (WQ.nil (Rxc 1 q (Ci h q (λh=>?_) λh=>?_))))
 exact Rcx 12 q (FA h)
 exact Rcl 7 q (Ix h e27 bJ q Zl q q λR _ h=>(Rlx 12 q (Fn2 h)))
 exact Rcx 4 q (En1 h)
 refine Jn0 [(3, .n a)] [] h (λI h=>?_) (λh=>?_)
 refine Rcc 6 q (Ln1 (λc=> [(1, .d (.pc (R33 t0))),(3, .n a),(5, .n c)]) (λ_=> []) (f38_l2 t0 I) h (λ_ h=>by rw[f38_l2] at h;cases h) λn c h=>?_)
 rw[f38_l2] at h
 refine Rcl 6 q (Zq (ab E93 t0.inits e28 q q Zl) q (Rlc 3 q (Ci h q (λh=>?_) λh=>?_)))
 refine Rcc 2 q (Jn3 (λ_ _ _=> [(1, .d (.pc (R33 t0))),(3, .n a),(5, .n c)]) (λp w x=> [.row 93 [.n p, .n w, .n x]]) h (λJ h=>?_) λp w x h=>?_)
 refine Rcl 6 q (Ix h e28 kq q Zl q q λe _ h=>(Rl 1 q (Al z93 q (sS Z6 s93 Z2 (Rlc 4 q (ax kR kR (Rq 5 q ?_)))))))
 obtain⟨S,K,h⟩:=ac h
 refine WQ.q (YieldsQ.fn q q q q q (f104_c K) Lw) (Zw q) q q (Rq 2 q ?_)
 obtain⟨L,y,h⟩:=ac h
 apply WQ.grp 11 (t:=70) (d:=81) (z:=L)
 exact q
 intro f
 have h:=c9 y f
 refine Rq 11 q ?_
 obtain rfl:=Oi h
 exact WQ.nil ⟨[_,_,_,_,_,_,_,_,_,_,_],q,q,q⟩
 intro f
 have h:=da y f
 refine Rq 4 q ?_
 obtain⟨T,A,h⟩:=ac h
 refine WQ.qy (ah e27 q Zl q (ai A) (aw bJ A) q) q q q (Rq 3 q ?_)
 obtain⟨U,M,h⟩:=ac h
 refine WQ.q (YieldsQ.fn q q q q q (f46_c M) Lw) (aI q q q) q q (Rq 2 q ?_)
 obtain rfl:=Oi h
 exact WQ.nil ⟨[_,_,_,_,_,_,_,_,_,_,_],q,q,q⟩
 refine WQ.nil (Rxc 1 q (Ci h q (λh=>?_) λh=>?_))
 exact Rcx 12 q (FA h)
 refine Rcc 8 q (Ln1 (λB=> [(1, .d (.pc (R33 t0))),(3, .n a),(5, .n c),(6, .pt 0 0),(7, .n B)]) (λ_=> [.row 93 [.n e.o, .n e.slot, .n e.v]]) (f38_l3 t0 c J e) h (λ_ h=>by rw[f38_l3] at h;cases h) λna B h=>?_)
 rw[f38_l3] at h
 refine Rcc 8 q (Ci h q (λh=>?_) λh=>?_)
 refine Rcc 5 q (ax kR kR (Rq 3 q ?_))
 obtain⟨V,C,h⟩:=ac h
 refine WQ.qn (ah e28 q Zl q (ai C) (aw kq C) q) q (Rq 6 q ?_)
 obtain⟨N,E,h⟩:=ac h
 apply WQ.grp 10 (t:=96) (d:=106) (z:=N)
 exact q
 intro g
 have h:=c9 E g
 refine Rq 3 q ?_
 obtain⟨W,F,h⟩:=ac h
 refine WQ.qy (ah e28 q Zl q (ai F) (aw kq F) q) q q q (Rq 6 q ?_)
 obtain rfl:=Oi h
 exact WQ.nil ⟨[_,_,_,_,_,_,_,_,_,_],q,q,q⟩
 intro g
 have h:=da E g
 refine Rq 10 q ?_
 obtain rfl:=Oi h
 exact WQ.nil ⟨[_,_,_,_,_,_,_,_,_,_],q,q,q⟩
 refine WQ.nil (Rxc 1 q (Ci h q (λh=>?_) λh=>?_))
 exact Rcx 15 q (FA h)
 exact Rcx 8 q (Fn1 h)
 exact Rcx 5 q (En3 h)
 exact Rcx 5 q (WE.drop 0 (env':=[(1, .d (.pc (R33 t0))),(3, .n a),(5, .n (IntKind.i64.wrap (c+1)))]) Sb q q (Nat.zero_le _) (Fn1 h))
 exact Rcx 4 q (En0 h)
 exact Rcx 8 q (FA h)

theorem f51_c{t0:af}{a1:Int}:Pu prog 51 [.ag (R33 t0), .i .i64 a1] (.b (f51 t0 a1)):=by
 generalize h:f51 t0 a1=r
 unfold f51 at h
 refine fI func51 λ_ _=>?_
 refine Rcl 2 q (Bd q q (Zs _) q (Rll 8 q ?_))
 apply WL.and 6 (t:=7) (d:=13)
 exact q
 intro a
 exact Rl 3 q (Zy (ab E59 t0.insns e22 q q Zl) q q q (Rl 2 q (WL.nil ⟨q,[_,_,_,_,_,_],q,q,q⟩)))
 exact Rn 6 6
 exact Rlx 4 q (FB h)

theorem f105_c{t0:af}{l1:lI}{r:Bool}(h:f105 t0 l1=some r):Pu prog 105 [.ag (R33 t0), .sl (List.map E3 l1)] (.b r):=by
 unfold f105 at h
 refine fI func105 λ_ _=>?_
 refine Rcl 2 q (Bd q q (Zs _) q (Rll 7 q (Zq (ab E3 l1 e54 q q Zl) q (Rlc 3 q (Ci h q (λh=>?_) λh=>?_)))))
 exact Rcx 7 q (FA h)
 refine Rcc 2 q (Jn0 [] [] h (λp h=>?_) λh=>?_)
 refine Rcc 6 q (Ln1 (λe=> [(1, .l E3 l1),(2, .d (.pc (R33 t0))),(5, .n e)]) (λ_=> []) (f105_l1 t0 l1 p) h (λ_ h=>by rw[f105_l1] at h;cases h) λn e h=>?_)
 rw[f105_l1] at h
 refine Rcl 5 q (Zq (ab E3 l1 e54 q q Zl) q (Rlc 3 q (Ci h q (λh=>?_) λh=>?_)))
 refine Rcc 5 q (ax kR kR (Rq 2 q ?_))
 obtain⟨y,f,h⟩:=ac h
 refine WQ.qn (ah e54 q Zl q (ai f) (aw dF f) q) q (Rq 3 q ?_)
 obtain⟨w,g,h⟩:=ac h
 apply WQ.grp 9 (t:=20) (d:=29) (z:=w)
 exact q
 intro a
 have h:=c9 g a
 refine Rq 9 q ?_
 obtain rfl:=Oi h
 exact WQ.nil ⟨[_,_,_,_,_,_,_,_,_],q,q,q⟩
 intro a
 have h:=da g a
 refine Rq 2 q ?_
 obtain⟨A,j,h⟩:=ac h
 refine WQ.qy (ah e54 q Zl q (ai j) (aw dF j) q) q q q (Rq 3 q (WQ.qy (ab E67 t0.objs e27 q q Zl) q q q (Rq 2 q ?_)))
 obtain rfl:=Oi h
 exact WQ.nil ⟨[_,_,_,_,_,_,_,_,_],q,q,q⟩
 refine Rq 1 q ?_
 obtain⟨x,k,h⟩:=ac h
 apply WQ.grp 11 (t:=30) (d:=41) (z:=x)
 exact q
 intro c
 have h:=c9 k c
 refine Rq 11 q ?_
 obtain rfl:=Oi h
 exact WQ.nil ⟨[_,_,_,_,_,_,_,_,_,_,_],q,q,q⟩
 intro c
 have h:=da k c
 refine Rq 4 q ?_
 obtain⟨B,m,h⟩:=ac h
 refine WQ.qy (ah e54 q Zl q (ai m) (aw dF m) q) q q q (Rq 1 q ?_)
 obtain⟨C,o,h⟩:=ac h
 refine WQ.qy (ah e27 q Zl q (ai o) (aw bJ o) q) q q q (Rq 4 q ?_)
 obtain rfl:=Oi h
 exact WQ.nil ⟨[_,_,_,_,_,_,_,_,_,_,_],q,q,q⟩
 refine WQ.nil (Rxc 1 q (Ci h q (λh=>?_) λh=>?_))
 exact Rcx 11 q (FA h)
 exact Rcx 8 q (Fn1 h)
 exact Rcx 4 q (En0 h)
 exact Rcx 6 q (FA h)

theorem f39_c{t0:af}{r:Bool}(h:f39 t0=some r):Pu prog 39 [.ag (R33 t0)] (.b r):=by
 unfold f39 at h
 refine fI func39 λ_ _=>?_
 refine Rcl 2 q (Bd q q (Zs _) q (Rll 8 q (Zq (ab E70 t0.tasks e29 q q Zl) q (Rl 2 q ?_))))
 apply WL.or 5 (t:=10) (d:=15)
 exact q
 intro E
 exact Rl 2 q (Zy (ab E70 t0.tasks e29 q q Zl) q q q (Rl 2 q (WL.nil ⟨q,[_,_,_,_,_],q,q,q⟩)))
 exact Rn 5 5
 refine Rlc 2 q (Ci h q (λh=>Rcx 7 q (FA h)) λh=>?_)
 refine Rcc 2 q (Jn0 [] [] h (λx h=>?_) λh=>?_)
 refine Rcc 6 q (Ln1 (λc=> [(1, .d (.pc (R33 t0))),(3, .n c)]) (λ_=> []) (f39_l1 t0 x) h (λ_ h=>by rw[f39_l1] at h;cases h) λn c h=>?_)
 rw[f39_l1] at h
 refine Rcl 6 q (Zq (ab E70 t0.tasks e29 q q Zl) q (Rlc 3 q (Ci h q (λh=>?_) λh=>?_)))
 refine Rcc 2 q (Jn4 (λ_ _ _ _=> [(1, .d (.pc (R33 t0))),(3, .n c)]) (λf g j k=> [.row 70 [.n f, .n g, .l E72 j, .n k]]) h (λy h=>?_) λf g j k h=>?_)
 refine Rcl 6 q (Ix h e29 dx q Zl q q λa _ h=>(Rl 1 q (Al z70 q (sS Z6 s70 Z2 (Rll 9 q ?_)))))
 refine OG 4 31 35 4 4 ?_
 refine Rl 1 q ?_
 apply WL.or 6 (t:=36) (d:=42)
 exact q
 intro F
 exact Rl 3 q (WL.fn q q q q (f51_c) Lw (aI q q q) q q (Rl 2 q (WL.nil ⟨q,[_,_,_,_,_,_],q,q,q⟩)))
 exact Rn 6 6
 refine Rl 1 q ?_
 refine OG 4 43 47 4 4 ?_
 refine Rl 1 q ?_
 refine OG 4 48 52 4 4 ?_
 refine Rl 1 q ?_
 apply WL.or 5 (t:=53) (d:=58)
 exact q
 intro G
 exact Rl 2 q (Zy (ab E72 a.entries e68 q q Zl) q q q (Rl 2 q (WL.nil ⟨q,[_,_,_,_,_],q,q,q⟩)))
 exact Rn 5 5
 refine Rlc 2 q (Ci h q (λh=>Rcx 12 q (FA h)) λh=>?_)
 refine Rcc 8 q (Ln1 (λm=> [(1, .d (.pc (R33 t0))),(3, .n c),(4, .pt 0 0),(5, .n m)]) (λ_=> [.row 70 [.n a.prio, .n a.at_, .l E72 a.entries, .n a.deadline]]) (f39_l2 t0 y a) h (λ_ h=>by rw[f39_l2] at h;cases h) λna m h=>?_)
 rw[f39_l2] at h
 refine Rcl 6 q (Zq (ab E72 a.entries e68 q q Zl) q (Rlc 3 q (Ci h q (λh=>?_) λh=>?_)))
 refine Rcc 5 q (ax kR kR (Rq 4 q ?_))
 obtain⟨H,o,h⟩:=ac h
 refine WQ.qn (ah e68 q Zl q (ai o) (aw fx o) q) q (Rq 2 q ?_)
 obtain⟨I,A,h⟩:=ac h
 refine WQ.q (YieldsQ.fn q q q q q (f105_c A) Lw) (Zw q) q q (Rq 2 q ?_)
 obtain⟨B,p,h⟩:=ac h
 apply WQ.grp 10 (t:=75) (d:=85) (z:=B)
 exact q
 intro e
 have h:=c9 p e
 refine Rq 10 q ?_
 obtain rfl:=Oi h
 exact WQ.nil ⟨[_,_,_,_,_,_,_,_,_,_],q,q,q⟩
 intro e
 have h:=da p e
 refine Rq 4 q ?_
 obtain⟨J,w,h⟩:=ac h
 refine WQ.qy (ah e68 q Zl q (ai w) (aw fx w) q) q q q (Rq 2 q ?_)
 obtain⟨K,C,h⟩:=ac h
 refine WQ.q (YieldsQ.fn q q q q q (f105_c C) Lw) (aI q q q) q q (Rq 2 q ?_)
 obtain rfl:=Oi h
 exact WQ.nil ⟨[_,_,_,_,_,_,_,_,_,_],q,q,q⟩
 refine WQ.nil (Rxc 1 q (Ci h q (λh=>?_) λh=>?_))
 exact Rcx 15 q (FA h)
 exact Rcx 8 q (Fn1 h)
 exact Rcx 5 q (En4 h)
 exact Rcx 5 q (WE.drop 0 (env':=[(1, .d (.pc (R33 t0))),(3, .n (IntKind.i64.wrap (c+1)))]) Sb q q (Nat.zero_le _) (Fn1 h))
 exact Rcx 4 q (En0 h)
 exact Rcx 6 q (FA h)

theorem f21_c{t0:af}{a1:Int}{r:Bool}(h:f21 t0 a1=some r):Pu prog 21 [.ag (R33 t0), .i .i64 a1] (.b r):=by
 unfold f21 at h
 refine fI func21 λ_ _=>?_
 refine Rcl 2 q (Bd q q (Zs _) q (Rll 7 q (wF Z4 (f51_c) Lw Z3 (Rl 1 q ?_))))
 obtain⟨d,e,h⟩:=ac h
 refine Gg 17 8 25 d e (λh=>?_) (λh=>?_) ?_
 refine Rl 3 q ?_
 obtain⟨j,a,h⟩:=ac h
 refine Zy (ah e22 q Zl q (ai a) (aw cL a) q) q q q (Rl 4 q ?_)
 obtain⟨f,g,h⟩:=ac h
 refine Gg 8 16 24 f g (λh=>?_) (λh=>?_) ?_
 exact On 8 8 h
 refine Rl 3 q ?_
 obtain⟨k,c,h⟩:=ac h
 exact Zy (ah e22 q Zl q (ai c) (aw cL c) q) q q q (On 4 8 h)
 exact On 1 10 h
 exact On 17 17 h
 exact Rlx 4 q (FA h)

theorem f106s_c(k:af→Int→aq→Int→Int→Option (Int))(t0:af)(a:Int)(e2:aq)(c:Int)(n4:Int)(C:∀(x0:af)(x1:Int)(x2:aq)(x3:Int)(x4:Int)(r:Int),k x0 x1 x2 x3 x4=some r→Pu prog 106 [.ag (R33 x0), .i .i64 x1, .ag (R80 x2), .i .i64 x3, .i .i64 x4] (.i .i64 r)){r:Int}(h:f106s k t0 a e2 c n4=some r):Pu prog 106 [.ag (R33 t0), .i .i64 a, .ag (R80 e2), .i .i64 c, .i .i64 n4] (.i .i64 r):=by
 unfold f106s at h
 refine fI func106 λ_ _=>?_
 refine Rcl 2 q (Bd q q (Zs _) q (Bd q q (Zs _) q (Rll 9 q ?_)))
 refine OG 3 18 21 3 3 ?_
 refine Rlc 2 q (Ci h q (λh=>Rcx 7 q (FA h)) λh=>?_)
 refine Rcl 6 q (Zq (aa p80 z80 q q) q (Al z80 q (sS Z6 s80 Z2 (Rlc 12 q (Jn6 (λm o _ _ _ _=> [(1, .n a),(3, .n c),(4, .n n4),(5, .d (.pc (R33 t0))),(7, .d (.pc (R80 e2))),(11, .pt 0 0),(12, .n m),(13, .d (D.b o))]) (λ_ _ e f g j=> [.row 80 [.d (D.i .u8 e2.kind), .d (D.i .u8 e), .n f, .n g, .n j, .n 0, .n 0, .n 0,sN]]) h (λ_ h=>?_) λm o e f g j h=>?_)))))
 refine Rcc 13 q (Ci h q (λh=>Rcl 4 q (sS Z6 s2 Z2 (Rlx 2 q (En6 h)))) λh=>?_)
 refine Rcc 6 q (Ci h q (λh=>?_) λh=>?_)
 refine Rcl 5 q (sS Z6 s3 Z2 (Rll 7 q (sS Z6 s3 Z2 (Rll 8 q ?_))))
 obtain⟨J,E,h⟩:=ac h
 refine wF Z4 (f104_c E) Lw Z3 (Rl 1 q ?_)
 obtain⟨F,G,h⟩:=ac h
 refine Gg 9 46 55 F G (λh=>?_) (λh=>?_) ?_
 refine Rl 4 q ?_
 obtain⟨K,p,h⟩:=ac h
 exact Zy (ah e27 q Zl q (ai p) (aw bJ p) q) q q q (On 4 9 h)
 exact On 9 9 h
 exact Rlx 3 q (En6 h)
 refine Rcc 6 q (Ci h q (λh=>?_) λh=>?_)
 refine Rcl 5 q (sS Z6 s2 Z2 (Rll 7 q ?_))
 refine AG 5 64 69 5 5 ?_
 exact Rlx 3 q (En6 h)
 refine Rcc 6 q (Ci h q (λh=>Rcl 3 q (sS Z6 s78 Z2 (Rlx 6 q (En6 h)))) λh=>?_)
 refine Rcc 6 q (Ci h q (λh=>?_) λh=>?_)
 refine Rcl 5 q (sS Z6 s78 Z2 (Rll 12 q ?_))
 refine AG 4 81 85 4 4 ?_
 exact Rlx 3 q (En6 h)
 refine Jn1 (λw=> [(1, .n a),(3, .n c),(4, .n n4),(5, .d (.pc (R33 t0))),(7, .d (.pc (R80 e2))),(11, .pt 0 0),(13, .d (D.b true)),(86, .d (D.b w))]) (λ_=> [.row 80 [.d (D.i .u8 e2.kind), .d (D.i .u8 0), .n 0, .n 0, .n 0, .n 0, .n 0, .n 0,sN]]) h (λ_ h=>?_) (λw h=>?_)
 exact Rcc 6 q (Ci h q (λh=>Rcx 1 q (En1 h)) λh=>Rcx 4 q (En1 h))
 refine Ci h q (λh=>?_) (λh=>?_)
 exact Rcx 4 q (En6 h)
 exact Rcx 8 q (FA h)
 refine Rcl 8 q ?_
 refine AG 6 94 100 6 6 ?_
 refine Rl 1 q ?_
 refine AG 6 101 107 6 6 ?_
 refine Rl 1 q ?_
 refine AG 6 108 114 6 6 ?_
 refine Rl 1 q ?_
 refine AG 4 115 119 4 4 ?_
 refine Rl 1 q ?_
 refine AG 4 120 124 4 4 ?_
 refine Rl 1 q ?_
 refine AG 4 125 129 4 4 ?_
 refine Rll 9 q ?_
 refine OG 3 132 135 3 3 ?_
 refine Rl 1 q ?_
 apply WL.or 6 (t:=136) (d:=142)
 exact q
 intro L
 exact Rl 2 q (Zy (ab E80 e2.l e73 q q Zl) q q q (Rl 3 q (WL.nil ⟨q,[_,_,_,_,_,_],q,q,q⟩)))
 exact Rn 6 6
 refine Rlc 2 q (Ci h q (λh=>Rcx 7 q (FA h)) λh=>?_)
 refine Rcc 9 q (Jn1 (λx=> [(4, .n x)]) (λ_=> [.row 80 [.d (D.i .u8 e2.kind), .d (D.i .u8 e), .n f, .n g, .n j, .n 0, .n 0, .n 0,sN]]) h (λH h=>?_) λx h=>?_)
 refine Rcc 6 q (Ln2 (λy A=> [(1, .n a),(3, .n c),(4, .n y),(5, .d (.pc (R33 t0))),(7, .d (.pc (R80 e2))),(15, .n A)]) (λ_ _=> [.row 80 [.d (D.i .u8 e2.kind), .d (D.i .u8 e), .n f, .n g, .n j, .n 0, .n 0, .n 0,sN]]) (f106s_l1 k t0 a e2 c H) h (λ_ _ h=>by rw[f106s_l1] at h;cases h) λn y A h=>?_)
 rw[f106s_l1] at h
 refine Rcl 6 q (Zq (ab E80 e2.l e73 q q Zl) q (Rl 2 q ?_))
 refine AG 3 150 153 3 3 ?_
 refine Rlc 2 q (Ci h q (λh=>?_) λh=>?_)
 refine Rcc 4 q (ax kR kR (Rq 5 q ?_))
 obtain⟨M,B,h⟩:=ac h
 refine WQ.qn (ah e73 q Zl q (ai B) (aw eC B) q) q (Rq 4 q ?_)
 obtain⟨N,I,h⟩:=ac h
 exact WQ.q (YieldsQ.fn q q q q q (C _ _ _ _ _ _ I) Lw) (Zw q) q q (Rq 1 q (WQ.nil (Rxx 7 q (Fn2 h))))
 exact Rcx 4 q (En1 h)
 exact Rcx 7 q (FA h)

theorem f106_c:∀(n:Nat)(x0:af)(x1:Int)(x2:aq)(x3:Int)(x4:Int){r:Int},f106 n x0 x1 x2 x3 x4=some r→Pu prog 106 [.ag (R33 x0), .i .i64 x1, .ag (R80 x2), .i .i64 x3, .i .i64 x4] (.i .i64 r)
 |0,_,_,_,_,_,_,h=>by cases h
 |n+1,x0,x1,x2,x3,x4,_,h=>f106s_c (f106 n) x0 x1 x2 x3 x4 (λx0 x1 x2 x3 x4 _ h=>f106_c n x0 x1 x2 x3 x4 h) h

theorem f40_c{t0:af}{r:Bool}(h:f40 t0=some r):Pu prog 40 [.ag (R33 t0)] (.b r):=by
 unfold f40 at h
 refine fI func40 λ_ _=>?_
 refine Rcl 2 q (Bd q q (Zs _) q (Rll 8 q (Zq (ab E75 t0.prots e30 q q Zl) q (Rlc 3 q (Ci h q (λh=>?_) λh=>?_)))))
 exact Rcx 7 q (FA h)
 refine Rcc 2 q (Jn0 [(1, .d (.pc (R33 t0)))] [] h (λy h=>?_) λh=>?_)
 refine Rcc 6 q (Ln1 (λc=> [(1, .d (.pc (R33 t0))),(3, .n c)]) (λ_=> []) (f40_l1 t0 y) h (λ_ h=>by rw[f40_l1] at h;cases h) λn c h=>?_)
 rw[f40_l1] at h
 refine Rcl 6 q (Zq (ab E75 t0.prots e30 q q Zl) q (Rlc 3 q (Ci h q (λh=>?_) λh=>?_)))
 refine Rcc 2 q (Jn2 (λ_ _=> [(1, .d (.pc (R33 t0))),(3, .n c)]) (λj k=> [.row 75 [.n j, .l E80 k]]) h (λA h=>?_) λj k h=>?_)
 refine Rcl 6 q (Ix h e30 fw q Zl q q λa _ h=>(Rl 1 q (Al z75 q (sS Z6 s75 Z2 (Rll 9 q ?_)))))
 refine OG 4 27 31 4 4 ?_
 refine Rl 1 q ?_
 apply WL.or 5 (t:=32) (d:=37)
 exact q
 intro H
 exact Rl 2 q (Zy (ab E80 a.barriers e73 q q Zl) q q q (Rl 2 q (WL.nil ⟨q,[_,_,_,_,_],q,q,q⟩)))
 exact Rn 5 5
 refine Rlc 2 q (Ci h q (λh=>Rcx 12 q (FA h)) λh=>?_)
 refine Rcc 8 q (Ln1 (λm=> [(1, .d (.pc (R33 t0))),(3, .n c),(4, .pt 0 0),(5, .n m)]) (λ_=> [.row 75 [.n a.ceiling, .l E80 a.barriers]]) (f40_l2 t0 A a) h (λ_ h=>by rw[f40_l2] at h;cases h) λna m h=>?_)
 rw[f40_l2] at h
 refine Rcl 6 q (Zq (ab E80 a.barriers e73 q q Zl) q (Rlc 3 q (Ci h q (λh=>?_) λh=>?_)))
 refine Rcc 5 q (ax kR kR (Rq 3 q (WQ.qn (ab E80 a.barriers e73 q q Zl) q (Rq 3 q ?_))))
 obtain⟨I,o,h⟩:=ac h
 refine WQ.qn (ah e73 q Zl q (ai o) (aw eC o) q) q (Rq 1 q ?_)
 obtain⟨J,B,h⟩:=ac h
 refine WQ.q (YieldsQ.fn q q q q q (f106_c 67 _ _ _ _ _ B) Lw) (Zw q) q q (Rq 1 q (WQ.nil (Rxc 1 q (Ci h q (λh=>?_) λh=>?_))))
 exact Rcx 15 q (FA h)
 exact Rcx 8 q (Fn1 h)
 exact Rcx 5 q (En2 h)
 exact Rcx 5 q (WE.drop 0 (env':=[(1, .d (.pc (R33 t0))),(3, .n (IntKind.i64.wrap (c+1)))]) Sb q q (Nat.zero_le _) (Fn1 h))
 exact Rcx 4 q (En0 h)
 refine Jn0 [] [] h (λC h=>?_) (λh=>?_)
 refine Rcc 6 q (Ln1 (λe=> [(1, .d (.pc (R33 t0))),(6, .n e)]) (λ_=> []) (f40_l3 t0 C) h (λ_ h=>by rw[f40_l3] at h;cases h) λn e h=>?_)
 rw[f40_l3] at h
 refine Rcl 6 q (Zq (ab cv t0.checks e31 q q Zl) q (Rlc 3 q (Ci h q (λh=>?_) λh=>?_)))
 refine Rcl 9 q (Ix h e31 ku q Zl q q λK _ h=>(Rl 1 q (Al z121 q (sS Z6 s121 Z2 (Rlc 3 q (ax kR kR (Rq 3 q ?_)))))))
 obtain⟨L,E,h⟩:=ac h
 refine WQ.q (YieldsQ.fn q q q q q (f21_c E) Lw) (Zw q) q q (Rq 2 q ?_)
 obtain⟨F,p,h⟩:=ac h
 apply WQ.grp 15 (t:=73) (d:=88) (z:=F)
 exact q
 intro f
 have h:=c9 p f
 refine Rq 15 q ?_
 obtain rfl:=Oi h
 exact WQ.nil ⟨[_,_,_,_,_,_,_,_,_,_,_,_,_,_,_],q,q,q⟩
 intro f
 have h:=da p f
 refine Rq 3 q ?_
 obtain⟨G,w,h⟩:=ac h
 apply WQ.grp 11 (t:=76) (d:=87) (z:=G)
 exact q
 intro g
 have h:=c9 w g
 refine Rq 4 q ?_
 obtain⟨M,x,h⟩:=ac h
 refine WQ.qy (ah e31 q Zl q (ai x) (aw ku x) q) q q q (Rq 6 q ?_)
 obtain rfl:=Oi h
 exact WQ.nil ⟨[_,_,_,_,_,_,_,_,_,_,_],q,q,q⟩
 intro g
 have h:=da w g
 refine Rq 11 q ?_
 obtain rfl:=Oi h
 exact WQ.nil ⟨[_,_,_,_,_,_,_,_,_,_,_],q,q,q⟩
 refine Rq 1 q ?_
 obtain rfl:=Oi h
 exact WQ.nil ⟨[_,_,_,_,_],q,q,q⟩
 refine Rq 1 q ?_
 apply WQ.or 4 (t:=89) (d:=93)
 exact q
 intro N
 exact Rq 4 q (WQ.nil ⟨[_,_,_,_],q,q,q⟩)
 exact Rq 4 q (WQ.nil ⟨[_,_,_,_],q,q,q⟩)
 refine Rq 1 q ?_
 apply WQ.or 4 (t:=94) (d:=98)
 exact q
 intro O
 exact Rq 4 q (WQ.nil ⟨[_,_,_,_],q,q,q⟩)
 exact Rq 4 q (WQ.nil ⟨[_,_,_,_],q,q,q⟩)
 refine WQ.nil (Rxc 1 q (Ci h q (λh=>?_) λh=>?_))
 exact Rcx 11 q (FA h)
 exact Rcx 8 q (WE.drop 0 (env':=[(1, .d (.pc (R33 t0))),(6, .n (IntKind.i64.wrap (e+1)))]) Sb q q (Nat.zero_le _) (Fn1 h))
 exact Rcx 4 q (En0 h)
 exact Rcx 6 q (FA h)

theorem f107_c{t0:af}{a:Int}{a2:fu}{r:Bool}(h:f107 t0 a a2=some r):Pu prog 107 [.ag (R33 t0), .i .i64 a, .ag (mB a2)] (.b r):=by
 unfold f107 at h
 refine fI func107 λ_ _=>?_
 refine Rcl 2 q (Bd q q (Zs _) q (Bd q q (Zs _) q (Rll 9 q (wF Z4 (f51_c) Lw Z3 (Rl 2 q ?_)))))
 obtain⟨e,f,h⟩:=ac h
 refine Gg 12 12 24 e f (λh=>?_) (λh=>?_) ?_
 exact On 12 12 h
 refine Rl 4 q ?_
 obtain⟨g,j,h⟩:=ac h
 refine Gg 7 16 23 g j (λh=>?_) (λh=>?_) ?_
 refine Rl 4 q ?_
 obtain⟨t,k,h⟩:=ac h
 exact WL.fn q q q q (f104_c k) Lw (aI q q q) q q (On 2 7 h)
 exact On 7 7 h
 exact On 1 6 h
 refine Rlc 2 q (Ci h q (λh=>Rcx 7 q (FA h)) λh=>?_)
 refine Rcc 16 q (Ci h q (λh=>?_) λh=>?_)
 refine Rcl 6 q ?_
 refine AG 4 32 36 4 4 ?_
 refine Rl 1 q ?_
 refine AG 4 37 41 4 4 ?_
 exact Rlx 6 q (FA h)
 refine Jn1 (λc=> [(1, .n a),(3, .d (.pc (R33 t0))),(5, .d (.pc (mB a2))),(42, .d (D.b c))]) (λ_=> []) h (λ_ h=>?_) (λc h=>?_)
 exact Rcc 6 q (Ci h q (λh=>Rcx 1 q (En1 h)) λh=>Rcx 4 q (En1 h))
 refine Ci h q (λh=>?_) (λh=>?_)
 refine Rcl 6 q ?_
 obtain⟨m,o,h⟩:=ac h
 refine Gg 6 48 54 m o (λh=>?_) (λh=>?_) ?_
 refine Rl 4 q ?_
 obtain⟨w,p,h⟩:=ac h
 exact WL.fn q q q q (f104_c p) Lw (aI q q q) q q (On 1 6 h)
 exact On 6 6 h
 exact Rlx 6 q (FA h)
 refine Rcl 9 q ?_
 refine AG 4 58 62 4 4 ?_
 refine Rl 1 q ?_
 refine AG 4 63 67 4 4 ?_
 exact Rlx 4 q (FA h)

theorem f41_c{t0:af}{r:Bool}(h:f41 t0=some r):Pu prog 41 [.ag (R33 t0)] (.b r):=by
 unfold f41 at h
 refine fI func41 λ_ _=>?_
 refine Rcl 2 q (Bd q q (Zs _) q (Rll 8 q (Zq (ab E65 t0.selects e25 q q Zl) q (Rl 2 q ?_))))
 apply WL.or 5 (t:=14) (d:=19)
 exact q
 intro P
 exact Rl 2 q (Zy (ab E54 t0.lists e26 q q Zl) q q q (Rl 2 q (WL.nil ⟨q,[_,_,_,_,_],q,q,q⟩)))
 exact Rn 5 5
 refine Rlc 2 q (Ci h q (λh=>Rcx 7 q (FA h)) λh=>?_)
 refine Rcc 2 q (Jn0 [(1, .d (.pc (R33 t0)))] [] h (λF h=>?_) λh=>?_)
 refine Rcc 6 q (Ln1 (λf=> [(1, .d (.pc (R33 t0))),(3, .n f)]) (λ_=> []) (f41_l1 t0 F) h (λ_ h=>by rw[f41_l1] at h;cases h) λn f h=>?_)
 rw[f41_l1] at h
 refine Rcl 6 q (Zq (ab E65 t0.selects e25 q q Zl) q (Rlc 3 q (Ci h q (λh=>?_) λh=>?_)))
 refine Rcc 2 q (Jn3 (λ_ _ _=> [(1, .d (.pc (R33 t0))),(3, .n f)]) (λk m o=> [.row 65 [.l dy k, .n m, .n o]]) h (λG h=>?_) λk m o h=>?_)
 refine Rcl 6 q (Ix h e25 mD q Zl q q λa _ h=>(Rl 1 q (Al z65 q (sS Z6 s65 Z2 (Rll 7 q (Zq (ab dy a.alts e63 q q Zl) q (Rl 2 q ?_)))))))
 apply WL.or 5 (t:=36) (d:=41)
 exact q
 intro Q
 exact Rl 2 q (Zy (ab dy a.alts e63 q q Zl) q q q (Rl 2 q (WL.nil ⟨q,[_,_,_,_,_],q,q,q⟩)))
 exact Rn 5 5
 refine Rl 1 q ?_
 obtain⟨H,I,h⟩:=ac h
 refine Gg 6 42 48 H I (λh=>?_) (λh=>?_) ?_
 exact On 6 6 h
 refine Rl 3 q ?_
 obtain⟨R,J,h⟩:=ac h
 exact WL.fn q q q q (f104_c J) Lw (aI q q q) q q (On 2 6 h)
 refine Rl 1 q ?_
 apply WL.or 11 (t:=49) (d:=60)
 exact q
 intro S
 refine Rl 4 q ?_
 apply WL.and 6 (t:=53) (d:=59)
 exact q
 intro T
 exact Rl 3 q (WL.fn q q q q (f51_c) Lw (aI q q q) q q (Rl 2 q (WL.nil ⟨q,[_,_,_,_,_,_],q,q,q⟩)))
 exact Rn 6 6
 exact Rn 1 6
 exact Rn 11 11
 refine Rlc 2 q (Ci h q (λh=>Rcx 12 q (FA h)) λh=>?_)
 refine Rcc 8 q (Ln1 (λp=> [(1, .d (.pc (R33 t0))),(3, .n f),(4, .pt 0 0),(5, .n p)]) (λ_=> [.row 65 [.l dy a.alts, .n a.obj, .n a.else_]]) (f41_l2 t0 G a) h (λ_ h=>by rw[f41_l2] at h;cases h) λna p h=>?_)
 rw[f41_l2] at h
 refine Rcl 6 q (Zq (ab dy a.alts e63 q q Zl) q (Rlc 3 q (Ci h q (λh=>?_) λh=>?_)))
 refine Rcc 5 q (ax kR kR (Rq 6 q ?_))
 obtain⟨U,w,h⟩:=ac h
 refine WQ.qn (ah e63 q Zl q (ai w) (aw nK w) q) q (Rq 1 q ?_)
 obtain⟨V,K,h⟩:=ac h
 refine WQ.q (YieldsQ.fn q q q q q (f107_c K) Lw) (Zw q) q q (Rq 1 q (WQ.nil (Rxc 1 q (Ci h q (λh=>?_) λh=>?_))))
 exact Rcx 15 q (FA h)
 exact Rcx 8 q (Fn1 h)
 exact Rcx 5 q (En3 h)
 exact Rcx 5 q (WE.drop 0 (env':=[(1, .d (.pc (R33 t0))),(3, .n (IntKind.i64.wrap (f+1)))]) Sb q q (Nat.zero_le _) (Fn1 h))
 exact Rcx 4 q (En0 h)
 refine Jn0 [] [] h (λL h=>?_) (λh=>?_)
 refine Rcc 6 q (Ln1 (λe=> [(1, .d (.pc (R33 t0))),(6, .n e)]) (λ_=> []) (f41_l3 t0 L) h (λ_ h=>by rw[f41_l3] at h;cases h) λn e h=>?_)
 rw[f41_l3] at h
 refine Rcl 6 q (Zq (ab E54 t0.lists e26 q q Zl) q (Rlc 3 q (Ci h q (λh=>?_) λh=>?_)))
 refine Rcc 2 q (Jn0 [(1, .d (.pc (R33 t0))),(6, .n e)] [] h (λM h=>?_) λh=>?_)
 refine Rcl 6 q (Ix h e26 mE q Zl q q λc _ h=>(Rll 8 q (Zq (ab E3 c e54 q q Zl) q (Rlc 3 q (Ci h q (λh=>?_) λh=>?_)))))
 exact Rcx 12 q (FA h)
 refine Rcc 8 q (Ln1 (λg=> [(1, .d (.pc (R33 t0))),(6, .n e),(7, .l E3 c),(8, .n g)]) (λ_=> []) (f41_l4 t0 M c) h (λ_ h=>by rw[f41_l4] at h;cases h) λna g h=>?_)
 rw[f41_l4] at h
 refine Rcl 5 q (Zq (ab E3 c e54 q q Zl) q (Rlc 3 q (Ci h q (λh=>?_) λh=>?_)))
 refine Rcc 2 q (Jn0 [(1, .d (.pc (R33 t0))),(6, .n e),(7, .l E3 c),(8, .n g)] [] h (λN h=>?_) λh=>?_)
 refine Rcc 3 q (ax kR kR (Rq 2 q ?_))
 obtain⟨W,x,h⟩:=ac h
 refine WQ.qn (ah e54 q Zl q (ai x) (aw dF x) q) q (Rq 3 q ?_)
 obtain⟨O,y,h⟩:=ac h
 apply WQ.grp 9 (t:=104) (d:=113) (z:=O)
 exact q
 intro j
 have h:=c9 y j
 refine Rq 9 q ?_
 obtain rfl:=Oi h
 exact WQ.nil ⟨[_,_,_,_,_,_,_,_,_],q,q,q⟩
 intro j
 have h:=da y j
 refine Rq 2 q ?_
 obtain⟨X,A,h⟩:=ac h
 refine WQ.qy (ah e54 q Zl q (ai A) (aw dF A) q) q q q (Rq 3 q (WQ.qy (ab E70 t0.tasks e29 q q Zl) q q q (Rq 2 q ?_)))
 obtain rfl:=Oi h
 exact WQ.nil ⟨[_,_,_,_,_,_,_,_,_],q,q,q⟩
 refine WQ.nil (Rxc 1 q (Ci h q (λh=>?_) λh=>?_))
 exact Rcx 16 q (FA h)
 refine Rcc 8 q (Ln1 (λB=> [(1, .d (.pc (R33 t0))),(6, .n e),(7, .l E3 c),(8, .n g),(9, .n B)]) (λ_=> []) (f41_l5 c g N) h (λ_ h=>by rw[f41_l5] at h;cases h) λnb B h=>?_)
 rw[f41_l5] at h
 refine Rcc 8 q (Ci h q (λh=>?_) λh=>?_)
 refine Rcc 5 q (ax kR kR (Rq 2 q ?_))
 obtain⟨Y,C,h⟩:=ac h
 refine WQ.qn (ah e54 q Zl q (ai C) (aw dF C) q) q (Rq 3 q ?_)
 obtain⟨Z,E,h⟩:=ac h
 refine WQ.qn (ah e54 q Zl q (ai E) (aw dF E) q) q (Rq 2 q (WQ.nil (Rxc 1 q (Ci h q (λh=>?_) λh=>?_))))
 exact Rcx 19 q (FA h)
 exact Rcx 8 q (Fn1 h)
 exact Rcx 5 q (En0 h)
 exact Rcx 5 q (Fn1 h)
 exact Rcx 5 q (En0 h)
 exact Rcx 5 q (Fn1 h)
 exact Rcx 4 q (En0 h)
 exact Rcx 6 q (FA h)

theorem f42_c{t0:af}{r:Bool}(h:f42 t0=some r):Pu prog 42 [.ag (R33 t0)] (.b r):=by
 unfold f42 at h
 refine fI func42 λ_ _=>?_
 refine Rcl 2 q (Bd q q (Zs _) q (Rll 8 q (Zq (ab E83 t0.handlers e23 q q Zl) q (Rlc 3 q (Ci h q (λh=>?_) λh=>?_)))))
 exact Rcx 7 q (FA h)
 refine Rcc 2 q (Jn0 [] [] h (λm h=>?_) λh=>?_)
 refine Rcc 6 q (Ln1 (λa=> [(1, .d (.pc (R33 t0))),(3, .n a)]) (λ_=> []) (f42_l1 t0 m) h (λ_ h=>by rw[f42_l1] at h;cases h) λn a h=>?_)
 rw[f42_l1] at h
 refine Rcl 6 q (Zq (ab E83 t0.handlers e23 q q Zl) q (Rlc 3 q (Ci h q (λh=>?_) λh=>?_)))
 refine Rcc 2 q (Jn4 (λ_ _ _ _=> [(1, .d (.pc (R33 t0))),(3, .n a)]) (λf g j k=> [.row 83 [.n f, .n g, .n j, .d (D.b k)]]) h (λo h=>?_) λf g j k h=>?_)
 refine Rcl 6 q (Ix h e23 eB q Zl q q λc _ h=>(Rl 1 q (Al z83 q (sS Z6 s83 Z2 (Rll 9 q ?_)))))
 refine OG 6 28 34 6 6 ?_
 refine Rl 1 q ?_
 apply WL.or 7 (t:=35) (d:=42)
 exact q
 intro p
 exact Rl 4 q (Zy (ab E59 t0.insns e22 q q Zl) q q q (Rl 2 q (WL.nil ⟨q,[_,_,_,_,_,_,_],q,q,q⟩)))
 exact Rn 7 7
 refine Rl 1 q ?_
 apply WL.or 6 (t:=43) (d:=49)
 exact q
 intro w
 exact Rl 3 q (WL.fn q q q q (f51_c) Lw (aI q q q) q q (Rl 2 q (WL.nil ⟨q,[_,_,_,_,_,_],q,q,q⟩)))
 exact Rn 6 6
 refine Rl 1 q ?_
 apply WL.or 13 (t:=50) (d:=63)
 exact q
 intro x
 refine Rl 6 q ?_
 refine AG 6 56 62 6 6 ?_
 exact Rn 1 8
 exact Rn 13 13
 refine Rlc 2 q (Ci h q (λh=>Rcx 12 q (FA h)) λh=>?_)
 refine Rcc 8 q (Ln1 (λe=> [(1, .d (.pc (R33 t0))),(3, .n a),(4, .pt 0 0),(5, .n e)]) (λ_=> [.row 83 [.n c.from_, .n c.to, .n c.at_, .d (D.b c.clean)]]) (f42_l2 t0 a o c) h (λ_ h=>by rw[f42_l2] at h;cases h) λna e h=>?_)
 rw[f42_l2] at h
 refine Rcc 8 q (Ci h q (λh=>?_) λh=>?_)
 refine Rcl 9 q (Ix h e23 eB q Zl q q λy _ h=>(Rl 1 q (Al z83 q (sS Z6 s83 Z2 (Rll 10 q ?_)))))
 refine AG 6 79 85 6 6 ?_
 refine Rll 11 q ?_
 refine OG 6 91 97 6 6 ?_
 refine Rll 8 q ?_
 refine AG 3 100 103 3 3 ?_
 refine Rlc 2 q (Ci h q (λh=>Rcx 15 q (FA h)) λh=>?_)
 exact Rcx 8 q (WE.drop 1 (env':=[(1, .d (.pc (R33 t0))),(3, .n a),(4, .pt 0 0),(5, .n (IntKind.i64.wrap (e+1)))]) Sb q q (Nat.zero_le _) (Fn1 h))
 exact Rcx 5 q (En4 h)
 exact Rcx 5 q (WE.drop 0 (env':=[(1, .d (.pc (R33 t0))),(3, .n (IntKind.i64.wrap (a+1)))]) Sb q q (Nat.zero_le _) (Fn1 h))
 exact Rcx 4 q (En0 h)
 exact Rcx 6 q (FA h)

theorem f43_c{t0:af}{r:Bool}(h:f43 t0=some r):Pu prog 43 [.ag (R33 t0)] (.b r):=by
 unfold f43 at h
 refine fI func43 λ_ _=>?_
 refine Rcl 2 q (Bd q q (Zs _) q (Rll 8 q (Zq (ab ce t0.loops e24 q q Zl) q (Rlc 3 q (Ci h q (λh=>?_) λh=>?_)))))
 exact Rcx 7 q (FA h)
 refine Rcc 2 q (Jn0 [] [] h (λF h=>?_) λh=>?_)
 refine Rcc 6 q (Ln1 (λe=> [(1, .d (.pc (R33 t0))),(3, .n e)]) (λ_=> []) (f43_l1 t0 F) h (λ_ h=>by rw[f43_l1] at h;cases h) λn e h=>?_)
 rw[f43_l1] at h
 refine Rcl 6 q (Zq (ab ce t0.loops e24 q q Zl) q (Rlc 3 q (Ci h q (λh=>?_) λh=>?_)))
 refine Rcc 2 q (Jn10 (λ_ _ _ _ _ _ _ _ _ _=> [(1, .d (.pc (R33 t0))),(3, .n e)]) (λg j k o p w x y A B=> [.row 118 [.n g, .n j, .n k], .row 59 [.d (D.i .u8 o), .n p, .n w, .n x, .n y, .n A, .n B]]) h (λG h=>?_) λg j k o p w x y A B h=>?_)
 refine Rcl 6 q (Ix h e24 kv q Zl q q λf _ h=>(Rl 1 q (Al z118 q (sS Z6 s118 Z2 (Rll 8 q (wF Z4 (f51_c) Lw Z3 (Rl 2 q ?_)))))))
 apply WL.or 6 (t:=28) (d:=34)
 exact q
 intro H
 exact Rl 3 q (WL.fn q q q q (f51_c) Lw (aI q q q) q q (Rl 2 q (WL.nil ⟨q,[_,_,_,_,_,_],q,q,q⟩)))
 exact Rn 6 6
 refine Rl 1 q ?_
 refine OG 6 35 41 6 6 ?_
 refine Rl 1 q ?_
 refine OG 4 42 46 4 4 ?_
 refine Rl 1 q ?_
 refine OG 4 47 51 4 4 ?_
 refine Rlc 2 q (Ci h q (λh=>Rcx 12 q (FA h)) λh=>?_)
 refine Rcl 8 q (Ix h e22 cL q Zl q q λc _ h=>(Rl 1 q (Al z59 q (sS Z6 s59 Z2 (Rll 9 q ?_)))))
 refine AG 4 61 65 4 4 ?_
 refine Rl 1 q ?_
 refine AG 4 66 70 4 4 ?_
 refine Rl 1 q ?_
 refine OG 6 71 77 6 6 ?_
 refine Rlc 2 q (Ci h q (λh=>Rcx 12 q (FA h)) λh=>?_)
 refine Rcc 8 q (Ln1 (λC=> [(1, .d (.pc (R33 t0))),(3, .n e),(4, .pt 0 0),(6, .n C)]) (λ_=> [.row 118 [.n f.head, .n f.back, .n f.bound], .row 59 [.d (D.i .u8 c.op), .n c.d, .n c.a, .n c.b, .n c.n, .n c.m, .n c.to]]) (f43_l2 t0 e n G f c) h (λ_ h=>by rw[f43_l2] at h;cases h) λna C h=>?_)
 rw[f43_l2] at h
 refine Rcc 8 q (Ci h q (λh=>?_) λh=>?_)
 refine Rcc 5 q (ax kR kR (Rq 3 q ?_))
 obtain⟨I,E,h⟩:=ac h
 refine WQ.qn (ah e24 q Zl q (ai E) (aw kv E) q) q (Rq 5 q (WQ.nil (Rxc 1 q (Ci h q (λh=>?_) λh=>?_))))
 exact Rcx 15 q (FA h)
 exact Rcx 8 q (Fn1 h)
 exact Rcx 5 q (cE ⟨_,_,_,_,_,_,_,_,_,_,h,Sb,Tv⟩)
 exact Rcx 5 q (WE.drop 0 (env':=[(1, .d (.pc (R33 t0))),(3, .n (IntKind.i64.wrap (e+1)))]) Sb q q (Nat.zero_le _) (Fn1 h))
 exact Rcx 4 q (En0 h)
 exact Rcx 6 q (FA h)

theorem f190_c:Pu prog 190 [] (.sl (List.map rq (f190 ))):=by
 generalize h:f190=r
 unfold f190 at h
 refine fI func190 λ_ _=>?_
 refine Rcl 7 q (Zq (aa av al q q) q (Zq (aa av al q q) q (WL.s ((NewOs.b (ae bf al q dC dC q q q dC)).does) (Zw q) q q ?_)))
 refine WL.freezeX [3] [] 0 _ q (an ar [fD 68 0 15,fD 78 (-9223372036854775808) 9223372036854775807]) ⟨q,Zt⟩ Zt (Zq (aa a9 aY q q) q (Zq (aa av al q q) q (Zq (aa av al q q) q (WL.s ((NewOs.b (ae bf al q dC dC q q q dC)).does) (Zw q) q q ?_))))
 refine WL.freezeX [7] [] 1 _ q (an ar [fD 68 0 15,fD 65 0 15]) ⟨q,Zt⟩ Zt (Zq (aa a9 aY q q) q (Zq (aa av al q q) q (Zq (aa av al q q) q (Zq (aa av al q q) q (WL.s ((NewOs.b (ae bf al q dC dC q q q dC)).does) (Zw q) q q ?_)))))
 refine WL.freezeX [12] [] 2 _ q (an ar [fD 68 0 15,fD 78 0 4095,fD 77 0 65535]) ⟨q,Zt⟩ Zt (Zq (aa a9 aY q q) q (Zq (aa av al q q) q (Zq (aa av al q q) q (Zq (aa av al q q) q (WL.s ((NewOs.b (ae bf al q dC dC q q q dC)).does) (Zw q) q q ?_)))))
 refine WL.freezeX [17] [] 3 _ q (an ar [fD 65 0 15,fD 78 0 4095,fD 77 0 65535]) ⟨q,Zt⟩ Zt (Zq (aa a9 aY q q) q (Zq (aa av al q q) q (Zq (aa av al q q) q (Zq (aa av al q q) q (Zq (aa av al q q) q (Zq (aa av al q q) q (WL.s ((NewOs.b (ae bf al q dC dC q q q dC)).does) (Zw q) q q ?_)))))))
 refine WL.freezeX [24] [] 4 _ q (an ar [fD 68 0 15,fD 65 0 15,fD 66 1 65536,fD 78 0 4095,fD 77 0 65535]) ⟨q,Zt⟩ Zt (Zq (aa a9 aY q q) q (Zq (aa av al q q) q (Zq (aa av al q q) q (Zq (aa av al q q) q (Zq (aa av al q q) q (Zq (aa av al q q) q (WL.s ((NewOs.b (ae bf al q dC dC q q q dC)).does) (Zw q) q q ?_)))))))
 refine WL.freezeX [31] [] 5 _ q (an ar [fD 68 0 15,fD 65 0 15,fD 66 1 65536,fD 78 0 4095,fD 77 0 65535]) ⟨q,Zt⟩ Zt (Zq (aa a9 aY q q) q (Zq (aa av al q q) q (Zq (aa av al q q) q (WL.s ((NewOs.b (ae bf al q dC dC q q q dC)).does) (Zw q) q q ?_))))
 refine WL.freezeX [35] [] 6 _ q (an ar [fD 68 0 15,fD 65 0 15]) ⟨q,Zt⟩ Zt (Zq (aa a9 aY q q) q (Zq (aa av al q q) q (Zq (aa av al q q) q (WL.s ((NewOs.b (ae bf al q dC dC q q q dC)).does) (Zw q) q q ?_))))
 refine WL.freezeX [39] [] 7 _ q (an ar [fD 68 0 15,fD 65 0 15]) ⟨q,Zt⟩ Zt (Zq (aa a9 aY q q) q (Zq (aa av al q q) q (Zq (aa av al q q) q (Zq (aa av al q q) q (WL.s ((NewOs.b (ae bf al q dC dC q q q dC)).does) (Zw q) q q ?_)))))
 refine WL.freezeX [44] [] 8 _ q (an ar [fD 68 0 15,fD 65 0 15,fD 66 0 15]) ⟨q,Zt⟩ Zt (Zq (aa a9 aY q q) q (Zq (aa av al q q) q (Zq (aa av al q q) q (Zq (aa av al q q) q (WL.s ((NewOs.b (ae bf al q dC dC q q q dC)).does) (Zw q) q q ?_)))))
 refine WL.freezeX [49] [] 9 _ q (an ar [fD 68 0 15,fD 65 0 15,fD 66 0 15]) ⟨q,Zt⟩ Zt (Zq (aa a9 aY q q) q (Zq (aa av al q q) q (Zq (aa av al q q) q (Zq (aa av al q q) q (WL.s ((NewOs.b (ae bf al q dC dC q q q dC)).does) (Zw q) q q ?_)))))
 refine WL.freezeX [54] [] 10 _ q (an ar [fD 68 0 15,fD 65 0 15,fD 66 0 15]) ⟨q,Zt⟩ Zt (Zq (aa a9 aY q q) q (Zq (aa av al q q) q (Zq (aa av al q q) q (Zq (aa av al q q) q (WL.s ((NewOs.b (ae bf al q dC dC q q q dC)).does) (Zw q) q q ?_)))))
 refine WL.freezeX [59] [] 11 _ q (an ar [fD 68 0 15,fD 65 0 15,fD 66 0 15]) ⟨q,Zt⟩ Zt (Zq (aa a9 aY q q) q (Zq (aa av al q q) q (Zq (aa av al q q) q (Zq (aa av al q q) q (WL.s ((NewOs.b (ae bf al q dC dC q q q dC)).does) (Zw q) q q ?_)))))
 refine WL.freezeX [64] [] 12 _ q (an ar [fD 68 0 15,fD 65 0 15,fD 66 0 15]) ⟨q,Zt⟩ Zt (Zq (aa a9 aY q q) q (Zq (aa av al q q) q (Zq (aa av al q q) q (Zq (aa av al q q) q (WL.s ((NewOs.b (ae bf al q dC dC q q q dC)).does) (Zw q) q q ?_)))))
 refine WL.freezeX [69] [] 13 _ q (an ar [fD 68 0 15,fD 65 0 15,fD 66 0 15]) ⟨q,Zt⟩ Zt (Zq (aa a9 aY q q) q (Zq (aa av al q q) q (Zq (aa av al q q) q (Zq (aa av al q q) q (WL.s ((NewOs.b (ae bf al q dC dC q q q dC)).does) (Zw q) q q ?_)))))
 refine WL.freezeX [74] [] 14 _ q (an ar [fD 68 0 15,fD 65 0 15,fD 66 0 15]) ⟨q,Zt⟩ Zt (Zq (aa a9 aY q q) q (Zq (aa av al q q) q (Zq (aa av al q q) q (Zq (aa av al q q) q (WL.s ((NewOs.b (ae bf al q dC dC q q q dC)).does) (Zw q) q q ?_)))))
 refine WL.freezeX [79] [] 15 _ q (an ar [fD 68 0 15,fD 65 0 15,fD 66 0 15]) ⟨q,Zt⟩ Zt (Zq (aa a9 aY q q) q (Zq (aa av al q q) q (Zq (aa av al q q) q (Zq (aa av al q q) q (WL.s ((NewOs.b (ae bf al q dC dC q q q dC)).does) (Zw q) q q ?_)))))
 refine WL.freezeX [84] [] 16 _ q (an ar [fD 68 0 15,fD 65 0 15,fD 66 0 15]) ⟨q,Zt⟩ Zt (Zq (aa a9 aY q q) q (Zq (aa av al q q) q (Zq (aa av al q q) q (Zq (aa av al q q) q (WL.s ((NewOs.b (ae bf al q dC dC q q q dC)).does) (Zw q) q q ?_)))))
 refine WL.freezeX [89] [] 17 _ q (an ar [fD 68 0 15,fD 65 0 15,fD 66 0 15]) ⟨q,Zt⟩ Zt (Zq (aa a9 aY q q) q (Zq (aa av al q q) q (Zq (aa av al q q) q (Zq (aa av al q q) q (WL.s ((NewOs.b (ae bf al q dC dC q q q dC)).does) (Zw q) q q ?_)))))
 refine WL.freezeX [94] [] 18 _ q (an ar [fD 68 0 15,fD 65 0 15,fD 66 0 15]) ⟨q,Zt⟩ Zt (Zq (aa a9 aY q q) q (Zq (aa av al q q) q (Zq (aa av al q q) q (Zq (aa av al q q) q (WL.s ((NewOs.b (ae bf al q dC dC q q q dC)).does) (Zw q) q q ?_)))))
 refine WL.freezeX [99] [] 19 _ q (an ar [fD 68 0 15,fD 65 0 15,fD 66 0 15]) ⟨q,Zt⟩ Zt (Zq (aa a9 aY q q) q (Zq (aa av al q q) q (Zq (aa av al q q) q (Zq (aa av al q q) q (WL.s ((NewOs.b (ae bf al q dC dC q q q dC)).does) (Zw q) q q ?_)))))
 refine WL.freezeX [104] [] 20 _ q (an ar [fD 68 0 15,fD 65 0 15,fD 66 0 15]) ⟨q,Zt⟩ Zt (Zq (aa a9 aY q q) q (Zq (aa av al q q) q (Zq (aa av al q q) q (Zq (aa av al q q) q (WL.s ((NewOs.b (ae bf al q dC dC q q q dC)).does) (Zw q) q q ?_)))))
 refine WL.freezeX [109] [] 21 _ q (an ar [fD 68 0 15,fD 65 0 15,fD 66 0 15]) ⟨q,Zt⟩ Zt (Zq (aa a9 aY q q) q (Zq (aa av al q q) q (Zq (aa av al q q) q (Zq (aa av al q q) q (WL.s ((NewOs.b (ae bf al q dC dC q q q dC)).does) (Zw q) q q ?_)))))
 refine WL.freezeX [114] [] 22 _ q (an ar [fD 68 0 15,fD 65 0 15,fD 66 0 15]) ⟨q,Zt⟩ Zt (Zq (aa a9 aY q q) q (Zq (aa av al q q) q (Zq (aa av al q q) q (WL.s ((NewOs.b (ae bf al q dC dC q q q dC)).does) (Zw q) q q ?_))))
 refine WL.freezeX [118] [] 23 _ q (an ar [fD 68 0 15,fD 65 0 15]) ⟨q,Zt⟩ Zt (Zq (aa a9 aY q q) q (Zq (aa av al q q) q (Zq (aa av al q q) q (WL.s ((NewOs.b (ae bf al q dC dC q q q dC)).does) (Zw q) q q ?_))))
 refine WL.freezeX [122] [] 24 _ q (an ar [fD 68 0 15,fD 65 0 15]) ⟨q,Zt⟩ Zt (Zq (aa a9 aY q q) q (Zq (aa av al q q) q (Zq (aa av al q q) q (WL.s ((NewOs.b (ae bf al q dC dC q q q dC)).does) (Zw q) q q ?_))))
 refine WL.freezeX [126] [] 25 _ q (an ar [fD 68 0 15,fD 65 0 15]) ⟨q,Zt⟩ Zt (Zq (aa a9 aY q q) q (Zq (aa av al q q) q (Zq (aa av al q q) q (Zq (aa av al q q) q (WL.s ((NewOs.b (ae bf al q dC dC q q q dC)).does) (Zw q) q q ?_)))))
 refine WL.freezeX [131] [] 26 _ q (an ar [fD 65 0 15,fD 78 (-9223372036854775808) 9223372036854775807,fD 77 (-9223372036854775808) 9223372036854775807]) ⟨q,Zt⟩ Zt (Zq (aa a9 aY q q) q (Zq (aa av al q q) q (WL.s ((NewOs.b (ae bf al q dC dC q q q dC)).does) (Zw q) q q ?_)))
 refine WL.freezeX [134] [] 27 _ q (an ar [fD 65 0 15]) ⟨q,Zt⟩ Zt (Zq (aa a9 aY q q) q (Zq (aa av al q q) q (WL.s ((NewOs.b (ae bf al q dC dC q q q dC)).does) (Zw q) q q ?_)))
 refine WL.freezeX [137] [] 28 _ q (an ar [fD 84 0 65535]) ⟨q,Zt⟩ Zt (Zq (aa a9 aY q q) q (Zq (aa av al q q) q (Zq (aa av al q q) q (WL.s ((NewOs.b (ae bf al q dC dC q q q dC)).does) (Zw q) q q ?_))))
 refine WL.freezeX [141] [] 29 _ q (an ar [fD 65 0 15,fD 84 0 65535]) ⟨q,Zt⟩ Zt (Zq (aa a9 aY q q) q (Zq (aa av al q q) q (Zq (aa av al q q) q (WL.s ((NewOs.b (ae bf al q dC dC q q q dC)).does) (Zw q) q q ?_))))
 refine WL.freezeX [145] [] 30 _ q (an ar [fD 65 0 15,fD 84 0 65535]) ⟨q,Zt⟩ Zt (Zq (aa a9 aY q q) q (Zq (aa av al q q) q (Zq (aa av al q q) q (Zq (aa av al q q) q (Zq (aa av al q q) q (WL.s ((NewOs.b (ae bf al q dC dC q q q dC)).does) (Zw q) q q ?_))))))
 refine WL.freezeX [151] [] 31 _ q (an ar [fD 65 0 15,fD 78 (-9223372036854775808) 9223372036854775807,fD 77 1 65536,fD 84 0 65535]) ⟨q,Zt⟩ Zt (Zq (aa a9 aY q q) q (Zq (aa av al q q) q (WL.s ((NewOs.b (ae bf al q dC dC q q q dC)).does) (Zw q) q q ?_)))
 refine WL.freezeX [154] [] 32 _ q (an ar [fD 78 1 64]) ⟨q,Zt⟩ Zt (Zq (aa a9 aY q q) q (Zq (aa av al q q) q (WL.s ((NewOs.b (ae bf al q dC dC q q q dC)).does) (Zw q) q q ?_)))
 refine WL.freezeX [157] [] 33 _ q (an ar [fD 65 0 15]) ⟨q,Zt⟩ Zt (Zq (aa a9 aY q q) q (Zq (aa av al q q) q (WL.s ((NewOs.b (ae bf al q dC dC q q q dC)).does) (Zw q) q q ?_)))
 refine WL.freezeX [160] [] 34 _ q (an ar [fD 65 0 15]) ⟨q,Zt⟩ Zt (Zq (aa a9 aY q q) q (Zq (aa av al q q) q (WL.s ((NewOs.b (ae bf al q dC dC q q q dC)).does) (Zw q) q q ?_)))
 refine WL.freezeX [163] [] 35 _ q (an ar [fD 68 0 15]) ⟨q,Zt⟩ Zt (Zq (aa a9 aY q q) q (Zq (aa av al q q) q (Zq (aa av al q q) q (WL.s ((NewOs.b (ae bf al q dC dC q q q dC)).does) (Zw q) q q ?_))))
 refine WL.freezeX [167] [] 36 _ q (an ar [fD 78 6 7,fD 77 0 65535]) ⟨q,Zt⟩ Zt (Zq (aa a9 aY q q) q (Zq (aa av al q q) q (WL.s ((NewOs.b (ae bf al q dC dC q q q dC)).does) (Zw q) q q ?_)))
 refine WL.freezeX [170] [] 37 _ q (an ar [fD 68 0 15]) ⟨q,Zt⟩ Zt (Zq (aa a9 aY q q) q (Zq (aa av al q q) q (WL.s ((NewOs.b (ae bf al q dC dC q q q dC)).does) (Zw q) q q ?_)))
 refine WL.freezeX [173] [] 38 _ q (an ar [fD 65 0 15]) ⟨q,Zt⟩ Zt (Zq (aa a9 aY q q) q (Zq (aa a9 aY q q) q (Zq (aa a9 aY q q) q (Zq (aa av al q q) q (WL.s ((NewOs.b (ae bf al q dC dC q q q dC)).does) (Zw q) q q ?_)))))
 refine WL.freezeX [178] [] 39 _ q (an ar [fD 68 0 15]) ⟨q,Zt⟩ Zt (Zq (aa a9 aY q q) q (Zq (aa av al q q) q (Zq (aa av al q q) q (Zq (aa av al q q) q (WL.s ((NewOs.b (ae bf al q dC dC q q q dC)).does) (Zw q) q q ?_)))))
 refine WL.freezeX [183] [] 40 _ q (an ar [fD 68 0 15,fD 78 0 7,fD 77 (-1) 31]) ⟨q,Zt⟩ Zt (Zq (aa a9 aY q q) q (Zq (aa av al q q) q (WL.s ((NewOs.b (ae bf al q dC dC q q q dC)).does) (Zw q) q q ?_)))
 refine WL.freezeX [186] [] 41 _ q (an ar [fD 78 0 65535]) ⟨q,Zt⟩ Zt (Zq (aa a9 aY q q) q (Zq (aa av al q q) q (WL.s ((NewOs.b (ae bf al q dC dC q q q dC)).does) (Zw q) q q ?_)))
 refine WL.freezeX [189] [] 42 _ q (an ar [fD 78 0 65535]) ⟨q,Zt⟩ Zt (Zq (aa a9 aY q q) q (Zq (aa av al q q) q (Zq (aa av al q q) q (WL.s ((NewOs.b (ae bf al q dC dC q q q dC)).does) (Zw q) q q ?_))))
 refine WL.freezeX [193] [] 43 _ q (an ar [fD 65 0 15,fD 78 0 65535]) ⟨q,Zt⟩ Zt (Zq (aa a9 aY q q) q (Zq (aa av al q q) q (WL.s ((NewOs.b (ae bf al q dC dC q q q dC)).does) (Zw q) q q ?_)))
 refine WL.freezeX [196] [] 44 _ q (an ar [fD 65 0 15]) ⟨q,Zt⟩ Zt (Zq (aa a9 aY q q) q (Zq (aa av al q q) q (WL.s ((NewOs.b (ae bf al q dC dC q q q dC)).does) (Zw q) q q ?_)))
 refine WL.freezeX [199] [] 45 _ q (an ar [fD 65 0 15]) ⟨q,Zt⟩ Zt (Zq (aa a9 aY q q) q (Zq (aa av al q q) q (Zq (aa av al q q) q (Zq (aa av al q q) q (Zq (aa av al q q) q (Zq (aa av al q q) q (WL.s ((NewOs.b (ae bf al q dC dC q q q dC)).does) (Zw q) q q ?_)))))))
 refine WL.freezeX [206] [] 46 _ q (an ar [fD 68 0 15,fD 65 0 31,fD 66 0 7,fD 78 0 4095,fD 77 0 3]) ⟨q,Zt⟩ Zt (Zq (aa a9 aY q q) q (Zq (aa av al q q) q (WL.s ((NewOs.b (ae bf al q dC dC q q q dC)).does) (Zw q) q q ?_)))
 refine WL.freezeX [209] [] 47 _ q (an ar [fD 78 0 1023]) ⟨q,Zt⟩ Zt (Zq (aa a9 aY q q) q (Zq (aa av al q q) q (WL.s ((NewOs.b (ae bf al q dC dC q q q dC)).does) (Zw q) q q ?_)))
 refine WL.freezeX [212] [] 48 _ q (an ar [fD 78 0 1]) ⟨q,Zt⟩ Zt (Zq (aa a9 aY q q) q (Zq (aa av al q q) q (Zq (aa av al q q) q (Zq (aa av al q q) q (Zq (aa av al q q) q (WL.s ((NewOs.b (ae bf al q dC dC q q q dC)).does) (Zw q) q q ?_))))))
 refine WL.freezeX [218] [] 49 _ q (an ar [fD 65 0 31,fD 66 0 7,fD 78 0 1,fD 84 0 65535]) ⟨q,Zt⟩ Zt (Zq (aa a9 aY q q) q (Zq (aa av al q q) q (WL.s ((NewOs.b (ae bf al q dC dC q q q dC)).does) (Zw q) q q ?_)))
 refine WL.freezeX [221] [] 50 _ q (an ar [fD 78 0 31]) ⟨q,Zt⟩ Zt (Zq (aa a9 aY q q) q (Zq (aa av al q q) q (Zq (aa av al q q) q (Zq (aa av al q q) q (Zq (aa av al q q) q (Zq (aa av al q q) q (WL.s ((NewOs.b (ae bf al q dC dC q q q dC)).does) (Zw q) q q ?_)))))))
 refine WL.freezeX [228] [] 51 _ q (an ar [fD 68 0 15,fD 65 0 15,fD 66 0 3,fD 78 0 31,fD 77 0 7]) ⟨q,Zt⟩ Zt (Zq (aa a9 aY q q) q (Zq (aa av al q q) q (WL.s ((NewOs.b (ae bf al q dC dC q q q dC)).does) (Zw q) q q ?_)))
 refine WL.freezeX [231] [] 52 _ q (an ar [fD 78 0 31]) ⟨q,Zt⟩ Zt (Zq (aa a9 aY q q) q (Zq (aa av al q q) q (WL.s ((NewOs.b (ae bf al q dC dC q q q dC)).does) (Zw q) q q ?_)))
 refine WL.freezeX [234] [] 53 _ q (an ar [fD 78 0 65535]) ⟨q,Zt⟩ Zt (Zq (aa a9 aY q q) q (Zq (aa a9 aY q q) q ?_))
 refine WL.s ((NewOs.b (NewOs.weak (es':=List.map (cG ro) [(Row.mk 1 (bA #[108,105]) [fD 68 0 15,fD 78 (-9223372036854775808) 9223372036854775807]),(Row.mk 2 (bA #[109,118]) [fD 68 0 15,fD 65 0 15]),(Row.mk 3 (bA #[108,100]) [fD 68 0 15,fD 78 0 4095,fD 77 0 65535]),(Row.mk 4 (bA #[115,116]) [fD 65 0 15,fD 78 0 4095,fD 77 0 65535]),(Row.mk 5 (bA #[108,100,120]) [fD 68 0 15,fD 65 0 15,fD 66 1 65536,fD 78 0 4095,fD 77 0 65535]),(Row.mk 6 (bA #[115,116,120]) [fD 68 0 15,fD 65 0 15,fD 66 1 65536,fD 78 0 4095,fD 77 0 65535]),(Row.mk 7 (bA #[108,100,97]) [fD 68 0 15,fD 65 0 15]),(Row.mk 8 (bA #[115,116,97]) [fD 68 0 15,fD 65 0 15]),(Row.mk 9 (bA #[97,100,100]) [fD 68 0 15,fD 65 0 15,fD 66 0 15]),(Row.mk 10 (bA #[115,117,98]) [fD 68 0 15,fD 65 0 15,fD 66 0 15]),(Row.mk 11 (bA #[109,117,108]) [fD 68 0 15,fD 65 0 15,fD 66 0 15]),(Row.mk 12 (bA #[100,105,118]) [fD 68 0 15,fD 65 0 15,fD 66 0 15]),(Row.mk 13 (bA #[114,101,109]) [fD 68 0 15,fD 65 0 15,fD 66 0 15]),(Row.mk 14 (bA #[109,111,100]) [fD 68 0 15,fD 65 0 15,fD 66 0 15]),(Row.mk 15 (bA #[101,113]) [fD 68 0 15,fD 65 0 15,fD 66 0 15]),(Row.mk 16 (bA #[110,101]) [fD 68 0 15,fD 65 0 15,fD 66 0 15]),(Row.mk 17 (bA #[108,116]) [fD 68 0 15,fD 65 0 15,fD 66 0 15]),(Row.mk 18 (bA #[108,101]) [fD 68 0 15,fD 65 0 15,fD 66 0 15]),(Row.mk 19 (bA #[103,116]) [fD 68 0 15,fD 65 0 15,fD 66 0 15]),(Row.mk 20 (bA #[103,101]) [fD 68 0 15,fD 65 0 15,fD 66 0 15]),(Row.mk 21 (bA #[97,110,100]) [fD 68 0 15,fD 65 0 15,fD 66 0 15]),(Row.mk 22 (bA #[111,114]) [fD 68 0 15,fD 65 0 15,fD 66 0 15]),(Row.mk 23 (bA #[120,111,114]) [fD 68 0 15,fD 65 0 15,fD 66 0 15]),(Row.mk 24 (bA #[110,101,103]) [fD 68 0 15,fD 65 0 15]),(Row.mk 25 (bA #[97,98,115]) [fD 68 0 15,fD 65 0 15]),(Row.mk 26 (bA #[110,111,116]) [fD 68 0 15,fD 65 0 15]),(Row.mk 27 (bA #[99,104,107]) [fD 65 0 15,fD 78 (-9223372036854775808) 9223372036854775807,fD 77 (-9223372036854775808) 9223372036854775807]),(Row.mk 28 (bA #[99,104,107,122]) [fD 65 0 15]),(Row.mk 29 (bA #[106,109,112]) [fD 84 0 65535]),(Row.mk 30 (bA #[106,122]) [fD 65 0 15,fD 84 0 65535]),(Row.mk 31 (bA #[106,110,122]) [fD 65 0 15,fD 84 0 65535]),(Row.mk 32 (bA #[106,116]) [fD 65 0 15,fD 78 (-9223372036854775808) 9223372036854775807,fD 77 1 65536,fD 84 0 65535]),(Row.mk 33 (bA #[114,97,105,115,101]) [fD 78 1 64]),(Row.mk 34 (bA #[114,97,105,115,101,114]) [fD 65 0 15]),(Row.mk 35 (bA #[99,111,110,116]) [fD 65 0 15]),(Row.mk 36 (bA #[101,120,99]) [fD 68 0 15]),(Row.mk 37 (bA #[109,97,114,107]) [fD 78 6 7,fD 77 0 65535]),(Row.mk 38 (bA #[103,101,116]) [fD 68 0 15]),(Row.mk 39 (bA #[112,117,116]) [fD 65 0 15]),(Row.mk 40 (bA #[100,101,102,101,114]) []),(Row.mk 41 (bA #[97,108,108,111,119]) []),(Row.mk 42 (bA #[99,108,111,99,107]) [fD 68 0 15]),(Row.mk 43 (bA #[99,111,117,110,116]) [fD 68 0 15,fD 78 0 7,fD 77 (-1) 31]),(Row.mk 44 (bA #[115,116,97,114,116]) [fD 78 0 65535]),(Row.mk 45 (bA #[110,101,118,101,114]) [fD 78 0 65535]),(Row.mk 46 (bA #[97,119,97,105,116]) [fD 65 0 15,fD 78 0 65535]),(Row.mk 47 (bA #[100,101,108,97,121]) [fD 65 0 15]),(Row.mk 48 (bA #[117,110,116,105,108]) [fD 65 0 15]),(Row.mk 49 (bA #[99,97,108,108]) [fD 68 0 15,fD 65 0 31,fD 66 0 7,fD 78 0 4095,fD 77 0 3]),(Row.mk 50 (bA #[115,101,108]) [fD 78 0 1023]),(Row.mk 51 (bA #[100,111,110,101]) [fD 78 0 1]),(Row.mk 52 (bA #[114,101,113]) [fD 65 0 31,fD 66 0 7,fD 78 0 1,fD 84 0 65535]),(Row.mk 53 (bA #[108,111,99,107]) [fD 78 0 31]),(Row.mk 54 (bA #[112,101,110,116]) [fD 68 0 15,fD 65 0 15,fD 66 0 3,fD 78 0 31,fD 77 0 7]),(Row.mk 55 (bA #[117,110,108,111,99,107]) [fD 78 0 31]),(Row.mk 56 (bA #[97,98,111,114,116]) [fD 78 0 65535]),(Row.mk 57 (bA #[101,110,100]) [])]) (ae l292 aY q dC dC q q q dC) (by exact⟨Lw,Lw,Lw,Lw,Lw,Lw,Lw,Lw,Lw,Lw,Lw,Lw,Lw,Lw,Lw,Lw,Lw,Lw,Lw,Lw,Lw,Lw,Lw,Lw,Lw,Lw,Lw,Lw,Lw,Lw,Lw,Lw,Lw,Lw,Lw,Lw,Lw,Lw,Lw,⟨Zl,Zl,Le.nil,Zt⟩,⟨Zl,Zl,Le.nil,Zt⟩,Lw,Lw,Lw,Lw,Lw,Lw,Lw,Lw,Lw,Lw,Lw,Lw,Lw,Lw,Lw,⟨Zl,Zl,Le.nil,Zt⟩,Zt⟩))).does) (Zw q) q q ?_
 refine Rlx 4 q ?_
 refine WE.freezeX [0,237] [] 54 _ q (an kr [(Row.mk 1 (bA #[108,105]) [fD 68 0 15,fD 78 (-9223372036854775808) 9223372036854775807]),(Row.mk 2 (bA #[109,118]) [fD 68 0 15,fD 65 0 15]),(Row.mk 3 (bA #[108,100]) [fD 68 0 15,fD 78 0 4095,fD 77 0 65535]),(Row.mk 4 (bA #[115,116]) [fD 65 0 15,fD 78 0 4095,fD 77 0 65535]),(Row.mk 5 (bA #[108,100,120]) [fD 68 0 15,fD 65 0 15,fD 66 1 65536,fD 78 0 4095,fD 77 0 65535]),(Row.mk 6 (bA #[115,116,120]) [fD 68 0 15,fD 65 0 15,fD 66 1 65536,fD 78 0 4095,fD 77 0 65535]),(Row.mk 7 (bA #[108,100,97]) [fD 68 0 15,fD 65 0 15]),(Row.mk 8 (bA #[115,116,97]) [fD 68 0 15,fD 65 0 15]),(Row.mk 9 (bA #[97,100,100]) [fD 68 0 15,fD 65 0 15,fD 66 0 15]),(Row.mk 10 (bA #[115,117,98]) [fD 68 0 15,fD 65 0 15,fD 66 0 15]),(Row.mk 11 (bA #[109,117,108]) [fD 68 0 15,fD 65 0 15,fD 66 0 15]),(Row.mk 12 (bA #[100,105,118]) [fD 68 0 15,fD 65 0 15,fD 66 0 15]),(Row.mk 13 (bA #[114,101,109]) [fD 68 0 15,fD 65 0 15,fD 66 0 15]),(Row.mk 14 (bA #[109,111,100]) [fD 68 0 15,fD 65 0 15,fD 66 0 15]),(Row.mk 15 (bA #[101,113]) [fD 68 0 15,fD 65 0 15,fD 66 0 15]),(Row.mk 16 (bA #[110,101]) [fD 68 0 15,fD 65 0 15,fD 66 0 15]),(Row.mk 17 (bA #[108,116]) [fD 68 0 15,fD 65 0 15,fD 66 0 15]),(Row.mk 18 (bA #[108,101]) [fD 68 0 15,fD 65 0 15,fD 66 0 15]),(Row.mk 19 (bA #[103,116]) [fD 68 0 15,fD 65 0 15,fD 66 0 15]),(Row.mk 20 (bA #[103,101]) [fD 68 0 15,fD 65 0 15,fD 66 0 15]),(Row.mk 21 (bA #[97,110,100]) [fD 68 0 15,fD 65 0 15,fD 66 0 15]),(Row.mk 22 (bA #[111,114]) [fD 68 0 15,fD 65 0 15,fD 66 0 15]),(Row.mk 23 (bA #[120,111,114]) [fD 68 0 15,fD 65 0 15,fD 66 0 15]),(Row.mk 24 (bA #[110,101,103]) [fD 68 0 15,fD 65 0 15]),(Row.mk 25 (bA #[97,98,115]) [fD 68 0 15,fD 65 0 15]),(Row.mk 26 (bA #[110,111,116]) [fD 68 0 15,fD 65 0 15]),(Row.mk 27 (bA #[99,104,107]) [fD 65 0 15,fD 78 (-9223372036854775808) 9223372036854775807,fD 77 (-9223372036854775808) 9223372036854775807]),(Row.mk 28 (bA #[99,104,107,122]) [fD 65 0 15]),(Row.mk 29 (bA #[106,109,112]) [fD 84 0 65535]),(Row.mk 30 (bA #[106,122]) [fD 65 0 15,fD 84 0 65535]),(Row.mk 31 (bA #[106,110,122]) [fD 65 0 15,fD 84 0 65535]),(Row.mk 32 (bA #[106,116]) [fD 65 0 15,fD 78 (-9223372036854775808) 9223372036854775807,fD 77 1 65536,fD 84 0 65535]),(Row.mk 33 (bA #[114,97,105,115,101]) [fD 78 1 64]),(Row.mk 34 (bA #[114,97,105,115,101,114]) [fD 65 0 15]),(Row.mk 35 (bA #[99,111,110,116]) [fD 65 0 15]),(Row.mk 36 (bA #[101,120,99]) [fD 68 0 15]),(Row.mk 37 (bA #[109,97,114,107]) [fD 78 6 7,fD 77 0 65535]),(Row.mk 38 (bA #[103,101,116]) [fD 68 0 15]),(Row.mk 39 (bA #[112,117,116]) [fD 65 0 15]),(Row.mk 40 (bA #[100,101,102,101,114]) []),(Row.mk 41 (bA #[97,108,108,111,119]) []),(Row.mk 42 (bA #[99,108,111,99,107]) [fD 68 0 15]),(Row.mk 43 (bA #[99,111,117,110,116]) [fD 68 0 15,fD 78 0 7,fD 77 (-1) 31]),(Row.mk 44 (bA #[115,116,97,114,116]) [fD 78 0 65535]),(Row.mk 45 (bA #[110,101,118,101,114]) [fD 78 0 65535]),(Row.mk 46 (bA #[97,119,97,105,116]) [fD 65 0 15,fD 78 0 65535]),(Row.mk 47 (bA #[100,101,108,97,121]) [fD 65 0 15]),(Row.mk 48 (bA #[117,110,116,105,108]) [fD 65 0 15]),(Row.mk 49 (bA #[99,97,108,108]) [fD 68 0 15,fD 65 0 31,fD 66 0 7,fD 78 0 4095,fD 77 0 3]),(Row.mk 50 (bA #[115,101,108]) [fD 78 0 1023]),(Row.mk 51 (bA #[100,111,110,101]) [fD 78 0 1]),(Row.mk 52 (bA #[114,101,113]) [fD 65 0 31,fD 66 0 7,fD 78 0 1,fD 84 0 65535]),(Row.mk 53 (bA #[108,111,99,107]) [fD 78 0 31]),(Row.mk 54 (bA #[112,101,110,116]) [fD 68 0 15,fD 65 0 15,fD 66 0 3,fD 78 0 31,fD 77 0 7]),(Row.mk 55 (bA #[117,110,108,111,99,107]) [fD 78 0 31]),(Row.mk 56 (bA #[97,98,111,114,116]) [fD 78 0 65535]),(Row.mk 57 (bA #[101,110,100]) [])]) ⟨q,q,Zt⟩ Zt ?_
 exact FB h

theorem f160_c{o0:Int}{r:Row×Bool}(h:f160 o0=some r):Pu prog 160 [.i .u8 o0] (.tu [.ag (ro r.1), .b r.2]):=by
 unfold f160 at h
 refine fI func160 λ_ _=>?_
 refine Rcl 2 q (Al aY q (Rll 5 q (WL.fn q q q q (f190_c) Zt (Zw q) q q (Rlc 3 q (Jn0 [(2, .pt 0 0)] [.row 243 [.d (D.i .u8 0), .d (D.s ByteArray.empty),sN]] h (λc h=>?_) λh=>?_)))))
 refine Rcc 6 q (Ln1 (λa=> [(0, .d (D.i .u8 o0)),(2, .pt 0 0),(4, .l rq f190),(5, .n a)]) (λ_=> [.row 243 [.d (D.i .u8 0), .d (D.s ByteArray.empty),sN]]) (f160_l1 o0 c) h (λ_ h=>by rw[f160_l1] at h;cases h) λn a h=>?_)
 rw[f160_l1] at h
 refine Rcl 5 q (Zq (ab rq f190 sP q q Zl) q (Rlc 3 q (Ci h q (λh=>?_) λh=>?_)))
 refine Rcl 8 q (Ix h sP kr q Zl q q λe _ h=>(Rlc 6 q (Ci h q (λh=>?_) λh=>?_)))
 refine Rcl 4 q (Ix h sP kr q Zl q q λf _ h=>(Rl 1 q (sS Z6 oR Z2 (Rlx 9 q ?_))))
 obtain rfl:=Oi h
 exact aU (rs2 q (cx q q a243 oR q) (bn q)) (dw ⟨(aP (Zs _)),Zl,Zt⟩)
 exact Rcx 8 q (Fn1 h)
 exact Rcx 4 q (En0 h)
 refine Rcl 2 q (Zq (aa a9 aY q q) q (sS Z6 oR Z2 (Rlx 4 q ?_)))
 obtain rfl:=Oi h
 exact aU (rs2 q (cx q q a243 oR q) (bn q)) (dw ⟨(aP ⟨Zl,Zl,Le.nil,Zt⟩),Zl,Zt⟩)

theorem f161_c{x0:aM}{f1:Int}:Pu prog 161 [.ag (R59 x0), .i .u8 f1] (.i .i64 (f161 x0 f1)):=by
 generalize h:f161 x0 f1=r
 unfold f161 at h
 refine fI func161 λ_ _=>?_
 refine Rcl 2 q (Bd q q (Zs _) q (Rlc 16 q (Ci h q (λh=>?_) λh=>?_)))
 exact Rcx 10 q (FB h)
 refine Rcc 6 q (Ci h q (λh=>Rcx 10 q (FB h)) λh=>?_)
 refine Rcc 6 q (Ci h q (λh=>Rcx 10 q (FB h)) λh=>?_)
 refine Rcc 6 q (Ci h q (λh=>Rcx 10 q (FB h)) λh=>?_)
 exact Rcc 6 q (Ci h q (λh=>Rcx 10 q (FB h)) λh=>Rcx 11 q (FB h))

theorem f162_c(x0:aM)(f1:Int)(v2:Int):Pu prog 162 [.ag (R59 x0), .i .u8 f1, .i .i64 v2] (.ag (R59 (f162 x0 f1 v2))):=by
 generalize h:f162 x0 f1 v2=r
 unfold f162 at h
 refine fI func162 λ_ _=>?_
 refine Rcl 2 q (Bx q q q (Al z59 q (Rlc 2 q (Jn6 (λ_ _ _ _ _ _=> [(3, .pt 0 0),(6, .pt 1 0)]) (λa c e f g j=> [.row 59 [.d (D.i .u8 x0.op), .n a, .n c, .n e, .n f, .n g, .n j], .row 59 [.d (D.i .u8 0), .n 0, .n 0, .n 0, .n 0, .n 0, .n 0]]) h (λ_ h=>?_) λa c e f g j h=>?_))))
 refine Rcc 12 q (Ci h q (λh=>Rcl 3 q (sS Z6 s3 Z2 (Rlx 2 q (En6 h)))) λh=>?_)
 refine Rcc 6 q (Ci h q (λh=>Rcl 3 q (sS Z6 s3 Z2 (Rlx 2 q (En6 h)))) λh=>?_)
 refine Rcc 6 q (Ci h q (λh=>Rcl 3 q (sS Z6 s3 Z2 (Rlx 2 q (En6 h)))) λh=>?_)
 refine Rcc 6 q (Ci h q (λh=>Rcl 3 q (sS Z6 s2 Z2 (Rlx 2 q (En6 h)))) λh=>?_)
 exact Rcc 6 q (Ci h q (λh=>Rcl 3 q (sS Z6 s2 Z2 (Rlx 2 q (En6 h)))) λh=>Rcl 3 q (sS Z6 s3 Z2 (Rlx 2 q (En6 h))))
 refine Rcl 3 q (sS Z6 s59 Z2 (Rlx 3 q ?_))
 subst h
 exact aU (rs1 q (cx q q a59 s59 q)) (aP (Zs _))

theorem f108_c{x0:aM}{r:Bool}(h:f108 x0=some r):Pu prog 108 [.ag (R59 x0)] (.b r):=by
 unfold f108 at h
 refine fI func108 λ_ _=>?_
 refine Rcl 2 q (Bd q q (Zs _) q (Rll 7 q ?_))
 obtain⟨a,E,h⟩:=ac h
 refine wF Z4 (f160_c E) Lw Z3 (Rl 3 q (Al aY q (sS Z6 oR Z2 (Rlc 10 q (Ci h q (λh=>?_) λh=>?_)))))
 exact Rcx 7 q (FA h)
 refine Rcl 5 q (Al z59 q (sS Z6 s59 Z2 (Rll 5 q (sS Z6 s57 Z2 (Rlc 2 q (Jn7 (λ_ _ _ _ _ _ _=> [(1, .d (.pc (R59 x0))),(5, .pt 1 0)]) (λc e f g j k m=> [.row 243 [.d (D.i .u8 a.1.op), .d (D.s a.1.name), .l pU a.1.fields], .row 59 [.d (D.i .u8 c), .n e, .n f, .n g, .n j, .n k, .n m]]) h (λF h=>?_) λc e f g j k m h=>?_))))))
 refine Rcc 6 q (Ln8 (λo _ _ _ _ _ _ _=> [(1, .d (.pc (R59 x0))),(3, .pt 0 0),(5, .pt 1 0),(6, .n o)]) (λ_ p w x y A B C=> [.row 243 [.d (D.i .u8 a.1.op), .d (D.s a.1.name), .l pU a.1.fields], .row 59 [.d (D.i .u8 p), .n w, .n x, .n y, .n A, .n B, .n C]]) (f108_l1 x0 a F) h (λ_ _ _ _ _ _ _ _ h=>by rw[f108_l1] at h;cases h) λn o p w x y A B C h=>?_)
 rw[f108_l1] at h
 refine Rcl 6 q (Zq (ab pU a.1.fields e241 q q Zl) q (Rlc 3 q (Ci h q (λh=>?_) λh=>?_)))
 refine Rcl 9 q (Ix h e241 ar q Zl q q λG _ h=>(Rl 1 q (Al al q (sS Z6 s247 Z2 (Rll 7 q (wF Z4 (f161_c) Lw Z3 (Rll 11 q ?_)))))))
 refine OG 5 39 44 5 5 ?_
 refine Rlc 2 q (Ci h q (λh=>Rcx 12 q (FA h)) λh=>?_)
 exact Rcl 6 q (wF Z4 (f162_c (aM.mk p w x y A B C) _ _) ⟨(aP (Zs _)),Zl,Zl,Zt⟩ Z3 (sS Z6 s59 Z2 (Rlx 8 q (WE.drop 2 (env':=[(1, .d (.pc (R59 x0))),(3, .pt 0 0),(5, .pt 1 0),(6, .n (IntKind.i64.wrap (o+1)))]) Sb q q (Nat.zero_le _) (cE ⟨_,⟨_,_,_,_,_,_,_,_,h,Sb,Tv⟩,Nat.lt_succ_self _⟩)))))
 exact Rcx 4 q (cE ⟨_,_,_,_,_,_,_,h,Sb,Tv⟩)
 refine Rcl 3 q (Zq (aa p59 z59 q q) q (Zq (lY (xs:=[.int .u8 c, .int .i64 e, .int .i64 f, .int .i64 g, .int .i64 j, .int .i64 k, .int .i64 m]) (ys:=[.int .u8 0, .int .i64 0, .int .i64 0, .int .i64 0, .int .i64 0, .int .i64 0, .int .i64 0]) q59 q (aP (Zs _)) q (aP (Zs _)) q q q) q (Rl 1 q ?_)))
 apply WL.and 11 (t:=52) (d:=63)
 exact q
 intro H
 refine Rl 4 q ?_
 refine OG 6 56 62 6 6 ?_
 exact Rn 1 6
 exact Rn 11 11
 refine Rl 1 q ?_
 apply WL.and 14 (t:=64) (d:=78)
 exact q
 intro I
 refine Rl 4 q ?_
 refine OG 4 68 72 4 4 ?_
 refine Rl 1 q ?_
 refine OG 4 73 77 4 4 ?_
 exact Rn 1 8
 exact Rn 14 14
 exact Rlx 4 q (FA h)

theorem f109_c{t0:af}{a:Int}{c:Int}{r:Bool}(h:f109 t0 a c=some r):Pu prog 109 [.ag (R33 t0), .i .i64 a, .i .i64 c] (.b r):=by
 unfold f109 at h
 refine fI func109 λ_ _=>?_
 refine Rcl 2 q (Bd q q (Zs _) q (Rll 11 q (Zq (ab E59 t0.insns e22 q q Zl) q (Rlc 3 q (Ci h q (λh=>?_) λh=>?_)))))
 exact Rcx 7 q (FA h)
 refine Rcc 2 q (Jn0 [] [] h (λf h=>?_) λh=>?_)
 refine Rcc 7 q (Ln1 (λe=> [(1, .n a),(2, .n c),(3, .d (.pc (R33 t0))),(7, .n e)]) (λ_=> []) (f109_l1 t0 a c f) h (λ_ h=>by rw[f109_l1] at h;cases h) λn e h=>?_)
 rw[f109_l1] at h
 refine Rcc 10 q (Ci h q (λh=>?_) λh=>?_)
 refine Rcl 9 q (Ix h e22 cL q Zl q q λg _ h=>(Rlc 5 q (Ci h q (λh=>?_) λh=>?_)))
 exact Rcx 11 q (FA h)
 exact Rcx 8 q (Fn1 h)
 exact Rcx 4 q (En0 h)
 exact Rcx 6 q (FA h)

theorem f110_c{t0:af}{a:Int}{n2:Int}{r:bd×Bool}(h:f110 t0 a n2=some r):Pu prog 110 [.ag (R33 t0), .i .i64 a, .i .i64 n2] (.tu [.ag (R72 r.1), .b r.2]):=by
 unfold f110 at h
 refine fI func110 λ_ _=>?_
 refine Rcl 2 q (Bd q q (Zs _) q (Al z72 q (Rll 9 q ?_)))
 apply WL.or 6 (t:=10) (d:=16)
 exact q
 intro j
 exact Rl 3 q (Zy (ab E70 t0.tasks e29 q q Zl) q q q (Rl 2 q (WL.nil ⟨q,[_,_,_,_,_,_],q,q,q⟩)))
 exact Rn 6 6
 refine Rl 1 q ?_
 refine OG 3 17 20 3 3 ?_
 refine Rl 1 q ?_
 obtain⟨e,f,h⟩:=ac h
 refine Gg 10 21 31 e f (λh=>?_) (λh=>?_) ?_
 exact On 10 10 h
 refine Rl 4 q ?_
 obtain⟨g,c,h⟩:=ac h
 exact Zy (ah e29 q Zl q (ai c) (aw dx c) q) q q q (Rl 2 q (Zy (ab E72 g.entries e68 q q Zl) q q q (On 2 10 h)))
 refine Rlc 2 q (Ci h q (λh=>?_) λh=>?_)
 refine Rcl 2 q (Zq (aa p72 z72 q q) q (sS Z6 s72 Z2 (Rlx 5 q ?_)))
 obtain rfl:=Oi h
 exact aU (rs2 q (cx q q a72 s72 q) (bn q)) (dw ⟨(aP ⟨Le.nil,Le.nil,Zt⟩),Zl,Zt⟩)
 refine Rcl 7 q (Ix h e29 dx q Zl q q λk _ h=>(Rl 3 q (Ix h e68 fx q Zl q q λm _ h=>(Rl 1 q (sS Z6 s72 Z2 (Rlx 4 q ?_))))))
 obtain rfl:=Oi h
 exact aU (rs2 q (cx q q a72 s72 q) (bn q)) (dw ⟨(aP (Zs _)),Zl,Zt⟩)

theorem f111_c{t0:af}{p1:Int}{n2:Int}{r:Bool}(h:f111 t0 p1 n2=some r):Pu prog 111 [.ag (R33 t0), .i .i64 p1, .i .i64 n2] (.b r):=by
 unfold f111 at h
 refine fI func111 λ_ _=>?_
 refine Rcl 2 q (Bd q q (Zs _) q (Rll 8 q ?_))
 apply WL.and 6 (t:=9) (d:=15)
 exact q
 intro g
 exact Rl 3 q (Zy (ab E75 t0.prots e30 q q Zl) q q q (Rl 2 q (WL.nil ⟨q,[_,_,_,_,_,_],q,q,q⟩)))
 exact Rn 6 6
 refine Rl 1 q ?_
 refine AG 3 16 19 3 3 ?_
 refine Rl 1 q ?_
 obtain⟨c,e,h⟩:=ac h
 refine Gg 10 20 30 c e (λh=>?_) (λh=>?_) ?_
 refine Rl 4 q ?_
 obtain⟨f,a,h⟩:=ac h
 exact Zy (ah e30 q Zl q (ai a) (aw fw a) q) q q q (Rl 2 q (Zy (ab E80 f.barriers e73 q q Zl) q q q (On 2 10 h)))
 exact On 10 10 h
 exact Rlx 4 q (FA h)

theorem f44_c{t0:af}{x1:aM}{r:Bool}(h:f44 t0 x1=some r):Pu prog 44 [.ag (R33 t0), .ag (R59 x1)] (.b r):=by
 unfold f44 at h
 refine fI func44 λ_ _=>?_
 refine Rcl 2 q (Bd q q (Zs _) q (Bd q q (Zs _) q (Rll 7 q ?_)))
 obtain⟨H,k,h⟩:=ac h
 refine wF Z4 (f108_c k) Lw Z3 (Rlc 3 q (Ci h q (λh=>?_) λh=>?_))
 exact Rcx 7 q (FA h)
 refine Rcc 10 q (Jn1 (λa=> [(2, .d (.pc (R33 t0))),(3, .d (.pc (R59 x1))),(13, .d (D.i .u8 x1.op)),(14, .d (D.b a))]) (λ_=> []) h (λ_ h=>?_) λa h=>?_)
 exact Rcc 6 q (Ci h q (λh=>Rcx 1 q (En1 h)) λh=>Rcx 4 q (En1 h))
 refine Ci h q (λh=>?_) (λh=>?_)
 refine Rcl 7 q ?_
 obtain⟨I,m,h⟩:=ac h
 exact wF Z4 (f104_c m) Lw Z3 (Rlx 6 q (FA h))
 refine Jn1 (λc=> [(2, .d (.pc (R33 t0))),(3, .d (.pc (R59 x1))),(13, .d (D.i .u8 x1.op)),(23, .d (D.b c))]) (λ_=> []) h (λ_ h=>?_) (λc h=>?_)
 exact Rcc 6 q (Ci h q (λh=>Rcx 1 q (En1 h)) λh=>Rcx 4 q (En1 h))
 refine Ci h q (λh=>?_) (λh=>?_)
 refine Rcl 9 q ?_
 obtain⟨J,o,h⟩:=ac h
 exact wF Z4 (f104_c o) Lw Z3 (Rlx 6 q (FA h))
 refine Jn1 (λe=> [(2, .d (.pc (R33 t0))),(3, .d (.pc (R59 x1))),(13, .d (D.i .u8 x1.op)),(34, .d (D.b e))]) (λ_=> []) h (λ_ h=>?_) (λe h=>?_)
 refine Rcc 6 q (Ci h q (λh=>Rcx 1 q (En1 h)) λh=>?_)
 exact Rcc 6 q (Ci h q (λh=>Rcx 1 q (En1 h)) λh=>Rcx 4 q (En1 h))
 refine Ci h q (λh=>?_) (λh=>?_)
 exact Rcl 5 q (wF Z4 (f51_c) Lw Z3 (Rlx 6 q (FA h)))
 refine Rcc 6 q (Ci h q (λh=>?_) λh=>?_)
 refine Rcl 7 q ?_
 obtain⟨K,p,h⟩:=ac h
 exact wF Z4 (f109_c p) Lw Z3 (Rlx 6 q (FA h))
 refine Rcc 6 q (Ci h q (λh=>Rcx 13 q (FA h)) λh=>?_)
 refine Jn1 (λf=> [(2, .d (.pc (R33 t0))),(3, .d (.pc (R59 x1))),(13, .d (D.i .u8 x1.op)),(57, .d (D.b f))]) (λ_=> []) h (λ_ h=>?_) (λf h=>?_)
 refine Rcc 6 q (Ci h q (λh=>Rcx 1 q (En1 h)) λh=>?_)
 refine Rcc 6 q (Ci h q (λh=>Rcx 1 q (En1 h)) λh=>?_)
 exact Rcc 6 q (Ci h q (λh=>Rcx 1 q (En1 h)) λh=>Rcx 4 q (En1 h))
 refine Ci h q (λh=>?_) (λh=>?_)
 exact Rcl 6 q (Zq (ab E54 t0.lists e26 q q Zl) q (Rlx 7 q (FA h)))
 refine Rcc 6 q (Ci h q (λh=>Rcl 6 q (Zq (ab E65 t0.selects e25 q q Zl) q (Rlx 7 q (FA h)))) λh=>?_)
 refine Rcc 6 q (Ci h q (λh=>?_) λh=>?_)
 refine Rcl 7 q ?_
 obtain⟨g,w,h⟩:=ac h
 refine wF Z4 (f110_c w) Lw Z3 (Rl 3 q (Al z72 q (sS Z6 s72 Z2 (Rll 7 q ?_))))
 obtain⟨x,y,h⟩:=ac h
 refine Gg 13 88 101 x y (λh=>?_) (λh=>?_) ?_
 refine Rl 5 q (Zy (ab E3 g.1.ins e54 q q Zl) q q q (Rl 2 q (Zy (ab E3 g.1.outs e54 q q Zl) q q q (Rl 2 q ?_))))
 obtain⟨L,A,h⟩:=ac h
 exact WL.fn q q q q (f104_c A) Lw (aI q q q) q q (On 1 13 h)
 exact On 13 13 h
 exact Rlx 6 q (FA h)
 refine Rcc 6 q (Ci h q (λh=>?_) λh=>?_)
 refine Rcl 7 q ?_
 obtain⟨M,B,h⟩:=ac h
 refine wF Z4 (f110_c B) Lw Z3 (Rl 3 q (Al z72 q (sS Z6 s72 Z2 (Rll 7 q ?_))))
 apply WL.and 5 (t:=114) (d:=119)
 exact q
 intro N
 exact Rl 3 q (WL.fn q q q q (f51_c) Lw (aI q q q) q q (Rl 1 q (WL.nil ⟨q,[_,_,_,_,_],q,q,q⟩)))
 exact Rn 5 5
 exact Rlx 6 q (FA h)
 refine Jn1 (λj=> [(2, .d (.pc (R33 t0))),(3, .d (.pc (R59 x1))),(13, .d (D.i .u8 x1.op)),(120, .d (D.b j))]) (λ_=> []) h (λ_ h=>?_) (λj h=>?_)
 exact Rcc 6 q (Ci h q (λh=>Rcx 1 q (En1 h)) λh=>Rcx 4 q (En1 h))
 refine Ci h q (λh=>?_) (λh=>?_)
 exact Rcl 6 q (Zq (ab E75 t0.prots e30 q q Zl) q (Rlx 7 q (FA h)))
 refine Rcc 6 q (Ci h q (λh=>?_) λh=>?_)
 refine Rcl 7 q ?_
 obtain⟨O,C,h⟩:=ac h
 exact wF Z4 (f111_c C) Lw Z3 (Rlx 6 q (FA h))
 refine Rcc 6 q (Ci h q (λh=>?_) λh=>?_)
 refine Rcl 6 q ?_
 obtain⟨E,F,h⟩:=ac h
 refine Gg 7 142 149 E F (λh=>?_) (λh=>?_) ?_
 exact On 7 7 h
 refine Rl 5 q ?_
 obtain⟨P,G,h⟩:=ac h
 exact WL.fn q q q q (f111_c G) Lw (aI q q q) q q (On 1 7 h)
 exact Rlx 6 q (FA h)
 exact Rcx 9 q (FA h)

theorem f11_c{t0:af}{r:Bool}(h:f11 t0=some r):Pu prog 11 [.ag (R33 t0)] (.b r):=by
 unfold f11 at h
 refine fI func11 λ_ _=>?_
 refine Rcl 2 q (Bd q q (Zs _) q (Rll 7 q (Zq (ab E59 t0.insns e22 q q Zl) q (Rll 9 q ?_))))
 refine OG 3 11 14 3 3 ?_
 refine Rl 1 q ?_
 obtain⟨e,f,h⟩:=ac h
 refine Gg 4 15 19 e f (λh=>?_) (λh=>?_) ?_
 exact On 4 4 h
 refine Rl 1 q ?_
 obtain⟨J,g,h⟩:=ac h
 exact WL.fn q q q q (f38_c g) Lw (aI q q q) q q (On 2 4 h)
 refine Rl 1 q ?_
 obtain⟨j,k,h⟩:=ac h
 refine Gg 4 20 24 j k (λh=>?_) (λh=>?_) ?_
 exact On 4 4 h
 refine Rl 1 q ?_
 obtain⟨K,m,h⟩:=ac h
 exact WL.fn q q q q (f39_c m) Lw (aI q q q) q q (On 2 4 h)
 refine Rl 1 q ?_
 obtain⟨o,p,h⟩:=ac h
 refine Gg 4 25 29 o p (λh=>?_) (λh=>?_) ?_
 exact On 4 4 h
 refine Rl 1 q ?_
 obtain⟨L,t,h⟩:=ac h
 exact WL.fn q q q q (f40_c t) Lw (aI q q q) q q (On 2 4 h)
 refine Rl 1 q ?_
 obtain⟨w,x,h⟩:=ac h
 refine Gg 4 30 34 w x (λh=>?_) (λh=>?_) ?_
 exact On 4 4 h
 refine Rl 1 q ?_
 obtain⟨M,y,h⟩:=ac h
 exact WL.fn q q q q (f41_c y) Lw (aI q q q) q q (On 2 4 h)
 refine Rl 1 q ?_
 obtain⟨A,B,h⟩:=ac h
 refine Gg 4 35 39 A B (λh=>?_) (λh=>?_) ?_
 exact On 4 4 h
 refine Rl 1 q ?_
 obtain⟨N,C,h⟩:=ac h
 exact WL.fn q q q q (f42_c C) Lw (aI q q q) q q (On 2 4 h)
 refine Rl 1 q ?_
 obtain⟨E,F,h⟩:=ac h
 refine Gg 4 40 44 E F (λh=>?_) (λh=>?_) ?_
 exact On 4 4 h
 refine Rl 1 q ?_
 obtain⟨O,G,h⟩:=ac h
 exact WL.fn q q q q (f43_c G) Lw (aI q q q) q q (On 2 4 h)
 refine Rlc 2 q (Ci h q (λh=>Rcx 7 q (FA h)) λh=>?_)
 refine Rcc 2 q (Jn0 [(1, .d (.pc (R33 t0))),(3, .n (List.length t0.insns:Int))] [] h (λH h=>?_) λh=>?_)
 refine Rcc 6 q (Ln1 (λa=> [(1, .d (.pc (R33 t0))),(3, .n (List.length t0.insns:Int)),(4, .n a)]) (λ_=> []) (f11_l1 t0 H) h (λ_ h=>by rw[f11_l1] at h;cases h) λn a h=>?_)
 rw[f11_l1] at h
 refine Rcc 8 q (Ci h q (λh=>?_) λh=>?_)
 refine Rcc 5 q (ax kR kR (Rq 4 q ?_))
 obtain⟨P,c,h⟩:=ac h
 refine WQ.qn (ah e22 q Zl q (ai c) (aw cL c) q) q (Rq 1 q ?_)
 obtain⟨Q,I,h⟩:=ac h
 refine WQ.q (YieldsQ.fn q q q q q (f44_c I) Lw) (Zw q) q q (Rq 1 q (WQ.nil (Rxc 1 q (Ci h q (λh=>?_) λh=>?_))))
 exact Rcx 11 q (FA h)
 exact Rcx 8 q (Fn1 h)
 exact Rcx 4 q (En0 h)
 refine Rcl 6 q (Ix h e22 cL q Zl q q λR _ h=>(Rll 10 q ?_))
 refine OG 3 67 70 3 3 ?_
 refine Rl 1 q ?_
 refine OG 3 71 74 3 3 ?_
 refine Rl 1 q ?_
 refine OG 3 75 78 3 3 ?_
 exact Rlx 4 q (FA h)

end Go.Proofs.YtejcfgjpdocaoaaGreatDoor
