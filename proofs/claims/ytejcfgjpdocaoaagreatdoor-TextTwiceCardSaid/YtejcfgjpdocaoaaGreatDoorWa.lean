/- The walks of functions. -/
import Derived.Test.YtejcfgjpdocaoaaGreatDoorX
set_option linter.unusedVariables false
set_option linter.unusedSimpArgs false
set_option linter.unusedSectionVars false
set_option linter.unnecessarySimpa false
set_option maxHeartbeats 4000000
set_option maxRecDepth 100000
namespace Go.Proofs.YtejcfgjpdocaoaaGreatDoor
open Go.Proofs.Tryz
open Go Go.Sk

theorem f163_c(s0:lI)(a:Int→oB)(g1:FuncId)(c e:lD)(g:∀(y0:Int)(r:Bool),a y0=some r→Pu prog g1 (c++ [.i .i64 y0]++e) (.b r)){r:Int}(h:f163 s0 a=some r):Pu prog 163 [.sl (List.map E3 s0), .fnc (.func g1) c e] (.i .i64 r):=by
 unfold f163 at h
 refine fI func163 λ_ _=>?_
 refine WC.cast 1 q (gO _ _ _) (Rcc 5 q (Jn0 [] [] h (λj h=>?_) λh=>?_))
 refine Rcl 3 q (Zq (aa E3 s0 e54 q q Zl) q (Rlc 4 q (Ln1 (λf=> [(0, .l E3 s0),(1, .fn (.func g1) (List.map AV.d c) (List.map AV.d e)),(7, .n (List.length s0:Int)),(8, .n f)]) (λ_=> []) (f163_l1 s0 a j) h (λ_ h=>by rw[f163_l1] at h;cases h) λn f h=>?_)))
 rw[f163_l1] at h
 refine Rcc 6 q (Ci h q (λh=>?_) λh=>?_)
 refine Rcl 15 q (Ix h e54 bd q Zl q q λm _ h=>(Rl 1 q ?_))
 obtain⟨p,k,h⟩:=ac h
 refine WL.fn q q q q (g _ _ k) (nL Lw) (Zw q) q q (Rlc 2 q (Ci h q (λh=>?_) λh=>?_))
 exact Rcx 12 q (FA h)
 exact Rcx 7 q (Fn1 h)
 exact Rcx 4 q (En0 h)
 exact Rcx 6 q (FA h)

theorem f112_c(s0:lI)(d:Int→oB)(g1:FuncId)(a c:lD)(e:∀(y0:Int)(r:Bool),d y0=some r→Pu prog g1 (a++ [.i .i64 y0]++c) (.b r)){r:Bool}(h:f112 s0 d=some r):Pu prog 112 [.sl (List.map E3 s0), .fnc (.func g1) a c] (.b r):=by
 unfold f112 at h
 refine fI func112 λ_ _=>?_
 refine WC.cast 1 q (gO _ _ _) (Rcl 9 q ?_)
 obtain⟨g,f,h⟩:=ac h
 exact wF Z4 (f163_c _ _ g1 a c e f) ⟨Zl,(Le.fnc (Zs _) (Zs _)),Zt⟩ Z3 (Rlx 5 q (FA h))

theorem f113_c(n0:Int)(a:Int):Pu prog 113 [.i .i64 n0, .pc (E2 a)] (.b (f113 n0 a)):=by
 generalize h:f113 n0 a=r
 unfold f113 at h
 refine fI func113 λ_ _=>?_
 exact Rcx 15 q (FB h)

theorem f45_c{o0:Obj}{v1:Int}{r:Bool}(h:f45 o0 v1=some r):Pu prog 45 [.ag (R67 o0), .i .i64 v1] (.b r):=by
 unfold f45 at h
 refine fI func45 λ_ _=>?_
 refine Rcl 2 q (Bd q q (Zs _) q (WL.s ((lR q q (by exact(show Les [.n v1] (List.map AV.d [.i .i64 v1]) from Lw))).does) (Zw q) q q (Rlc 10 q (Ci h q (λh=>?_) λh=>?_))))
 refine Rcl 5 q ?_
 obtain⟨a,c,h⟩:=ac h
 refine Gg 5 9 14 a c (λh=>?_) (λh=>?_) ?_
 exact On 5 5 h
 refine Rl 3 q ?_
 obtain⟨f,e,h⟩:=ac h
 exact WL.fn q q q q (f112_c _ _ 113 [] [(.pc (E2 v1))] (λz0 _ h=>by obtain rfl:=inS h;exact f113_c z0 v1) e) ⟨Zl,(Le.fnc Zt Lw),Zt⟩ (aR q q q) q q (On 1 5 h)
 exact Rlx 5 q (FA h)
 refine Rcl 9 q ?_
 refine AG 5 19 24 5 5 ?_
 exact Rlx 4 q (FA h)

theorem f88_c{t0:bg}{o1:Obj}{r:Bool}(h:f88 t0 o1=some r):Pu prog 88 [.ag (R86 t0), .ag (R67 o1)] (.b r):=by
 unfold f88 at h
 refine fI func88 λ_ _=>?_
 refine Rcl 2 q (Bd q q (Zs _) q (Bd q q (Zs _) q (Rll 10 q ?_)))
 refine OG 4 11 15 4 4 ?_
 refine Rl 1 q ?_
 refine OG 6 16 22 6 6 ?_
 refine Rlc 2 q (Ci h q (λh=>Rcx 7 q (FA h)) λh=>?_)
 refine Rcc 10 q (Ci h q (λh=>Rcl 4 q (Zq (aa E3 o1.set_ e54 q q Zl) q (Rlx 6 q (FA h)))) λh=>?_)
 refine Rcc 7 q (Jn0 [(3, .d (.pc (R67 o1)))] [] h (λg h=>?_) λh=>?_)
 refine Rcl 4 q (Zq (aa E3 o1.set_ e54 q q Zl) q (Rlc 4 q (Ln2 (λa c=> [(2, .d (.pc (R86 t0))),(3, .d (.pc (R67 o1))),(5, .n a),(31, .l E3 o1.set_),(32, .n (List.length o1.set_:Int)),(33, .n c)]) (λ_ _=> []) (f88_l1 t0 o1 g) h (λ_ _ h=>by rw[f88_l1] at h;cases h) λn a c h=>?_)))
 rw[f88_l1] at h
 refine Rcc 6 q (Ci h q (λh=>?_) λh=>?_)
 refine Rcl 6 q (Ix h e54 bd q Zl q q λw _ h=>(Rll 11 q ?_))
 apply WL.or 7 (t:=40) (d:=47)
 exact q
 intro x
 exact Rl 4 q (Zy (aa E67 t0.text.objs e27 q q Zl) q q q (Rl 2 q (WL.nil ⟨q,[_,_,_,_,_,_,_],q,q,q⟩)))
 exact Rn 7 7
 refine Rl 1 q ?_
 obtain⟨j,k,h⟩:=ac h
 refine Gg 9 48 57 j k (λh=>?_) (λh=>?_) ?_
 exact On 9 9 h
 refine Rl 4 q ?_
 obtain⟨y,e,h⟩:=ac h
 exact Zy (ai e27 q Zl q (aj e) (au cE e) q) q q q (On 4 9 h)
 refine Rl 1 q ?_
 obtain⟨m,p,h⟩:=ac h
 refine Gg 8 58 66 m p (λh=>?_) (λh=>?_) ?_
 exact On 8 8 h
 refine Rl 4 q ?_
 obtain⟨A,f,h⟩:=ac h
 exact Zy (ai e27 q Zl q (aj f) (au cE f) q) q q q (On 3 8 h)
 exact Rlc 2 q (Ci h q (λh=>Rcx 12 q (FA h)) λh=>Rcx 12 q (Fn2 h))
 exact Rcx 4 q (En0 h)
 refine Rcl 6 q ?_
 refine AG 4 72 76 4 4 ?_
 exact Rlx 4 q (FA h)

theorem f89_c{t0:bg}{o1:Int}{a:Int}{c:Int}{r:Bool}(h:f89 t0 o1 a c=some r):Pu prog 89 [.ag (R86 t0), .i .i64 o1, .i .i64 a, .i .i64 c] (.b r):=by
 unfold f89 at h
 refine fI func89 λ_ _=>?_
 refine Rcl 2 q (Bd q q (Zs _) q (Rll 8 q ?_))
 apply WL.and 7 (t:=11) (d:=18)
 exact q
 intro j
 exact Rl 4 q (Zy (aa E67 t0.text.objs e27 q q Zl) q q q (Rl 2 q (WL.nil ⟨q,[_,_,_,_,_,_,_],q,q,q⟩)))
 exact Rn 7 7
 refine Rl 1 q ?_
 refine AG 3 19 22 3 3 ?_
 refine Rl 1 q ?_
 obtain⟨f,g,h⟩:=ac h
 refine Gg 12 23 35 f g (λh=>?_) (λh=>?_) ?_
 refine Rl 5 q ?_
 obtain⟨k,e,h⟩:=ac h
 exact Zy (ai e27 q Zl q (aj e) (au cE e) q) q q q (On 6 12 h)
 exact On 12 12 h
 exact Rlx 4 q (FA h)

theorem f27_c{t0:bg}{r:Bool}(h:f27 t0=some r):Pu prog 27 [.ag (R86 t0)] (.b r):=by
 unfold f27 at h
 refine fI func27 λ_ _=>?_
 refine Rcl 2 q (Bd q q (Zs _) q (Rll 9 q (Zq (aa E67 t0.text.objs e27 q q Zl) q (Rl 2 q ?_))))
 refine OG 5 15 20 5 5 ?_
 refine Rl 1 q ?_
 refine OG 5 21 26 5 5 ?_
 refine Rlc 2 q (Ci h q (λh=>Rcx 7 q (FA h)) λh=>?_)
 refine Rcc 7 q (Jn1 (λc=> [(1, .d (.pc (R86 t0))),(3, .n c)]) (λ_=> []) h (λC h=>?_) λc h=>?_)
 refine Rcl 5 q (Zq (aa E67 t0.text.objs e27 q q Zl) q (Rlc 4 q (Ln2 (λf g=> [(1, .d (.pc (R86 t0))),(3, .n f),(29, .l E67 t0.text.objs),(30, .n (List.length t0.text.objs:Int)),(31, .n g)]) (λ_ _=> []) (f27_l1 t0 C) h (λ_ _ h=>by rw[f27_l1] at h;cases h) λn f g h=>?_)))
 rw[f27_l1] at h
 refine Rcc 6 q (Ci h q (λh=>?_) λh=>?_)
 refine Rcl 6 q (Ix h e27 cE q Zl q q λE _ h=>(Rl 1 q (Al z67 q (sS Z6 s67 Z2 (Rll 7 q ?_)))))
 obtain⟨L,F,h⟩:=ac h
 refine wF Z4 (f88_c F) ⟨Zl,(aK (Zs _)),Zt⟩ Z3 (Rlc 3 q (Ci h q (λh=>?_) λh=>?_))
 exact Rcx 12 q (FA h)
 exact Rcx 15 q (WE.drop 0 (env':=[(1, .d (.pc (R86 t0))),(3, .n (IntKind.i64.wrap (f+E.size))),(29, .l E67 t0.text.objs),(30, .n (List.length t0.text.objs:Int)),(31, .n (IntKind.i64.wrap (g+1)))]) Sb q q (Nat.zero_le _) (Fn2 h))
 exact Rcx 4 q (En1 h)
 refine Rcl 2 q (WL.s ((jN (α:=Bool) (λx:Int×Int=>Value.agg ⟨[Value.int .i64 x.1,Value.int .i64 x.2]⟩) (λx:Bool=>AV.d (.b x))).does) (Zw q) q q (Rlc 3 q (Jn1 (λ_=> [(3, .n c)]) (λw=> [mpO (λx:Int×Int=>Value.agg ⟨[Value.int .i64 x.1,Value.int .i64 x.2]⟩) (λx:Bool=>AV.d (.b x)) w]) h (λG h=>?_) λw h=>?_)))
 refine Rcl 5 q (Zq (aa E93 t0.text.inits e28 q q Zl) q (Rlc 4 q (Ln2 (λj _=> [(1, .d (.pc (R86 t0))),(3, .n c),(6, .mp 0),(47, .l E93 t0.text.inits),(48, .n (List.length t0.text.inits:Int)),(49, .n j)]) (λ_ e=> [mpO (λx:Int×Int=>Value.agg ⟨[Value.int .i64 x.1,Value.int .i64 x.2]⟩) (λx:Bool=>AV.d (.b x)) e]) (f27_l2 t0 G) h (λ_ _ h=>by rw[f27_l2] at h;cases h) λn j e h=>?_)))
 rw[f27_l2] at h
 refine Rcc 6 q (Ci h q (λh=>?_) λh=>?_)
 refine Rcl 6 q (Ix h e28 iC q Zl q q λa _ h=>(Rl 1 q (Al z93 q (sS Z6 s93 Z2 (Rll 8 q (Zq (ab p152 z152 q q) q (Al z152 q (sS Z6 s152 Z2 (Rlc 4 q (aB kR kR (Rq 2 q (WQ.qn (pw (λx:Int×Int=>Value.agg ⟨[Value.int .i64 x.1,Value.int .i64 x.2]⟩) (λx:Bool=>AV.d (.b x)) e (k:=(a.o,a.slot)) (z:=false) (vs:=[.int .i64 a.o, .int .i64 a.slot]) underlying150 (jR underlying152 underlying3 underlying3 q q kR) q q q (aK (Zs _)) q kR q) q (Rq 1 q ?_)))))))))))))
 obtain⟨H,y,h⟩:=ac h
 apply WQ.grp 8 (t:=61) (d:=69) (z:=H)
 exact q
 intro m
 have h:=eD y m
 refine Rq 8 q ?_
 obtain rfl:=Oi h
 exact WQ.nil ⟨[_,_,_,_,_,_,_,_],q,q,q⟩
 intro m
 have h:=eE y m
 refine Rq 5 q ?_
 obtain⟨M,I,h⟩:=ac h
 refine WQ.q (YieldsQ.fn q q q q q (f89_c I) Lw) (aR q q q) q q (Rq 2 q ?_)
 obtain rfl:=Oi h
 exact WQ.nil ⟨[_,_,_,_,_,_,_,_],q,q,q⟩
 refine Rq 1 q ?_
 obtain⟨J,A,h⟩:=ac h
 apply WQ.grp 12 (t:=70) (d:=82) (z:=J)
 exact q
 intro p
 have h:=eD A p
 refine Rq 12 q ?_
 obtain rfl:=Oi h
 exact WQ.nil ⟨[_,_,_,_,_,_,_,_,_,_,_,_],q,q,q⟩
 intro p
 have h:=eE A p
 refine Rq 5 q ?_
 obtain⟨N,B,h⟩:=ac h
 refine WQ.qy (ai e27 q Zl q (aj B) (au cE B) q) q q q (Rq 3 q ?_)
 obtain⟨O,K,h⟩:=ac h
 refine WQ.q (YieldsQ.fn q q q q q (f45_c K) Lw) (aR q q q) q q (Rq 2 q ?_)
 obtain rfl:=Oi h
 exact WQ.nil ⟨[_,_,_,_,_,_,_,_,_,_,_,_],q,q,q⟩
 refine WQ.nil (Rxc 1 q (Ci h q (λh=>?_) λh=>?_))
 exact Rcx 12 q (FA h)
 exact Rcl 5 q (WL.s0 (mm (λx:Int×Int=>Value.agg ⟨[Value.int .i64 x.1,Value.int .i64 x.2]⟩) (λx:Bool=>AV.d (.b x)) e (k:=(a.o,a.slot)) (vs:=[.int .i64 a.o, .int .i64 a.slot]) (.inr q) underlying150 (jR underlying152 underlying3 underlying3 q q kR) q q q (aK (Zs _)) q q) (Zw q) q (Rlx 7 q (WE.drop 1 (env':=[(1, .d (.pc (R86 t0))),(3, .n c),(6, .mp 0),(47, .l E93 t0.text.inits),(48, .n (List.length t0.text.inits:Int)),(49, .n (IntKind.i64.wrap (j+1)))]) Sb q (ep (tE _ (λx:Int×Int=>Value.agg ⟨[Value.int .i64 x.1,Value.int .i64 x.2]⟩) (λx:Bool=>(.b x:D)) _) q) (Nat.zero_le _) (Fn2 h))))
 exact Rcx 4 q (En1 h)
 exact Rcx 8 q (FA h)

theorem f47_c{t0:bg}{a1:Int}:Pu prog 47 [.ag (R86 t0), .i .i64 a1] (.b (f47 t0 a1)):=by
 generalize h:f47 t0 a1=r
 unfold f47 at h
 refine fI func47 λ_ _=>?_
 refine Rcl 2 q (Bd q q (Zs _) q (Rll 8 q ?_))
 apply WL.and 7 (t:=7) (d:=14)
 exact q
 intro a
 exact Rl 4 q (Zy (aa E59 t0.text.insns e22 q q Zl) q q q (Rl 2 q (WL.nil ⟨q,[_,_,_,_,_,_,_],q,q,q⟩)))
 exact Rn 7 7
 exact Rlx 4 q (FB h)

theorem f151_c(s0:List bq)(a:bq→oB)(g1:FuncId)(c e:lD)(g:∀(y0:bq)(r:Bool),a y0=some r→Pu prog g1 (c++ [.ag (R72 y0)]++e) (.b r)){r:Int}(h:f151 s0 a=some r):Pu prog 151 [.sl (List.map E72 s0), .fnc (.func g1) c e] (.i .i64 r):=by
 unfold f151 at h
 refine fI func151 λ_ _=>?_
 refine WC.cast 1 q (gO _ _ _) (Rcc 5 q (Jn0 [] [] h (λj h=>?_) λh=>?_))
 refine Rcl 3 q (Zq (aa E72 s0 e68 q q Zl) q (Rlc 4 q (Ln1 (λf=> [(0, .l E72 s0),(1, .fn (.func g1) (List.map AV.d c) (List.map AV.d e)),(7, .n (List.length s0:Int)),(8, .n f)]) (λ_=> []) (f151_l1 s0 a j) h (λ_ h=>by rw[f151_l1] at h;cases h) λn f h=>?_)))
 rw[f151_l1] at h
 refine Rcc 6 q (Ci h q (λh=>?_) λh=>?_)
 refine Rcl 15 q (Ix h e68 fS q Zl q q λm _ h=>(Rl 1 q ?_))
 obtain⟨p,k,h⟩:=ac h
 refine WL.fn q q q q (g _ _ k) (nL Lw) (Zw q) q q (Rlc 2 q (Ci h q (λh=>?_) λh=>?_))
 exact Rcx 12 q (FA h)
 exact Rcx 7 q (Fn1 h)
 exact Rcx 4 q (En0 h)
 exact Rcx 6 q (FA h)

theorem f90_c(s0:List bq)(d:bq→oB)(g1:FuncId)(a c:lD)(e:∀(y0:bq)(r:Bool),d y0=some r→Pu prog g1 (a++ [.ag (R72 y0)]++c) (.b r)){r:Bool}(h:f90 s0 d=some r):Pu prog 90 [.sl (List.map E72 s0), .fnc (.func g1) a c] (.b r):=by
 unfold f90 at h
 refine fI func90 λ_ _=>?_
 refine WC.cast 1 q (gO _ _ _) (Rcl 9 q ?_)
 obtain⟨g,f,h⟩:=ac h
 exact wF Z4 (f151_c _ _ g1 a c e f) ⟨Zl,(Le.fnc (Zs _) (Zs _)),Zt⟩ Z3 (Rlx 5 q (FA h))

theorem f152_c(o0:Int)(a:bg){r:Bool}(h:f152 o0 a=some r):Pu prog 152 [.i .i64 o0, .pc (R86 a)] (.b r):=by
 unfold f152 at h
 refine fI func152 λ_ _=>?_
 refine Rcl 10 q ?_
 apply WL.or 7 (t:=6) (d:=13)
 exact q
 intro g
 exact Rl 4 q (Zy (aa E67 a.text.objs e27 q q Zl) q q q (Rl 2 q (WL.nil ⟨q,[_,_,_,_,_,_,_],q,q,q⟩)))
 exact Rn 7 7
 refine Rl 1 q ?_
 obtain⟨e,f,h⟩:=ac h
 refine Gg 9 14 23 e f (λh=>?_) (λh=>?_) ?_
 exact On 9 9 h
 refine Rl 4 q ?_
 obtain⟨j,c,h⟩:=ac h
 exact Zy (ai e27 q Zl q (aj c) (au cE c) q) q q q (On 4 9 h)
 exact Rlx 4 q (FA h)

theorem f92_c{t0:bg}{l1:lI}{r:Bool}(h:f92 t0 l1=some r):Pu prog 92 [.ag (R86 t0), .sl (List.map E3 l1)] (.b r):=by
 unfold f92 at h
 refine fI func92 λ_ _=>?_
 refine Rcl 2 q (Bd q q (Zs _) q (Rll 6 q (Zq (aa E3 l1 e54 q q Zl) q (Rl 2 q ?_))))
 obtain⟨a,c,h⟩:=ac h
 refine Gg 5 8 13 a c (λh=>?_) (λh=>?_) ?_
 refine Rl 2 q ?_
 obtain⟨e,d,h⟩:=ac h
 exact WL.fn q q q q (f112_c _ _ 152 [] [(.pc (R86 t0))] (λz0 _ h=>f152_c z0 t0 h) d) ⟨Zl,(Le.fnc Zt Lw),Zt⟩ (aR q q q) q q (On 2 5 h)
 exact On 5 5 h
 exact Rlx 4 q (FA h)

theorem f91_c(e0:bq)(a:bg){r:Bool}(h:f91 e0 a=some r):Pu prog 91 [.ag (R72 e0), .pc (R86 a)] (.b r):=by
 unfold f91 at h
 refine fI func91 λ_ _=>?_
 refine Rcl 2 q (Bd q q (Zs _) q (Rll 8 q ?_))
 obtain⟨g,c,h⟩:=ac h
 refine wF Z4 (f92_c c) Lw Z3 (Rl 2 q ?_)
 obtain⟨d,e,h⟩:=ac h
 refine Gg 6 9 15 d e (λh=>?_) (λh=>?_) ?_
 exact On 6 6 h
 refine Rl 3 q ?_
 obtain⟨j,f,h⟩:=ac h
 exact WL.fn q q q q (f92_c f) Lw (aR q q q) q q (On 2 6 h)
 exact Rlx 4 q (FA h)

theorem f28_c{t0:bg}{r:Bool}(h:f28 t0=some r):Pu prog 28 [.ag (R86 t0)] (.b r):=by
 unfold f28 at h
 refine fI func28 λ_ _=>?_
 refine Rcl 2 q (Bd q q (Zs _) q (Rll 9 q (Zq (aa E70 t0.text.tasks e29 q q Zl) q (Rl 2 q ?_))))
 apply WL.or 6 (t:=10) (d:=16)
 exact q
 intro g
 exact Rl 3 q (Zy (aa E70 t0.text.tasks e29 q q Zl) q q q (Rl 2 q (WL.nil ⟨q,[_,_,_,_,_,_],q,q,q⟩)))
 exact Rn 6 6
 refine Rlc 2 q (Ci h q (λh=>Rcx 7 q (FA h)) λh=>?_)
 refine Rcc 2 q (Jn0 [] [] h (λc h=>?_) λh=>?_)
 refine Rcl 5 q (Zq (aa E70 t0.text.tasks e29 q q Zl) q (Rlc 4 q (Ln1 (λa=> [(1, .d (.pc (R86 t0))),(19, .l E70 t0.text.tasks),(20, .n (List.length t0.text.tasks:Int)),(21, .n a)]) (λ_=> []) (f28_l1 t0 c) h (λ_ h=>by rw[f28_l1] at h;cases h) λn a h=>?_)))
 rw[f28_l1] at h
 refine Rcc 6 q (Ci h q (λh=>?_) λh=>?_)
 refine Rcl 6 q (Ix h e29 dN q Zl q q λe _ h=>(Rl 1 q (Al z70 q (sS Z6 s70 Z2 (Rll 9 q ?_)))))
 refine OG 4 28 32 4 4 ?_
 refine Rl 1 q ?_
 apply WL.or 6 (t:=33) (d:=39)
 exact q
 intro j
 exact Rl 3 q (WL.fn q q q q (f47_c) Lw (aR q q q) q q (Rl 2 q (WL.nil ⟨q,[_,_,_,_,_,_],q,q,q⟩)))
 exact Rn 6 6
 refine Rl 1 q ?_
 refine OG 4 40 44 4 4 ?_
 refine Rl 1 q ?_
 refine OG 4 45 49 4 4 ?_
 refine Rl 1 q ?_
 apply WL.or 5 (t:=50) (d:=55)
 exact q
 intro k
 exact Rl 2 q (Zy (aa E72 e.entries e68 q q Zl) q q q (Rl 2 q (WL.nil ⟨q,[_,_,_,_,_],q,q,q⟩)))
 exact Rn 5 5
 refine Rlc 2 q (Ci h q (λh=>Rcx 12 q (FA h)) λh=>?_)
 refine Rcl 7 q ?_
 obtain⟨m,f,h⟩:=ac h
 refine wF Z4 (f90_c _ _ 91 [] [(.pc (R86 t0))] (λz0 _ h=>f91_c z0 t0 h) f) ⟨Zl,(Le.fnc Zt Lw),Zt⟩ Z3 (Rlc 2 q (Ci h q (λh=>?_) λh=>?_))
 exact Rcx 11 q (FA h)
 exact Rcx 7 q (WE.drop 0 (env':=[(1, .d (.pc (R86 t0))),(19, .l E70 t0.text.tasks),(20, .n (List.length t0.text.tasks:Int)),(21, .n (IntKind.i64.wrap (a+1)))]) Sb q q (Nat.zero_le _) (Fn1 h))
 exact Rcx 4 q (En0 h)
 exact Rcx 6 q (FA h)

theorem f29_c{t0:bg}{r:Bool}(h:f29 t0=some r):Pu prog 29 [.ag (R86 t0)] (.b r):=by
 unfold f29 at h
 refine fI func29 λ_ _=>?_
 refine Rcl 2 q (Bd q q (Zs _) q (Rll 9 q (Zq (aa E54 t0.text.lists e26 q q Zl) q (Rlc 3 q (Ci h q (λh=>?_) λh=>?_)))))
 exact Rcx 7 q (FA h)
 refine Rcc 2 q (Jn0 [] [] h (λk h=>?_) λh=>?_)
 refine Rcl 5 q (Zq (aa E54 t0.text.lists e26 q q Zl) q (Rlc 4 q (Ln1 (λc=> [(1, .d (.pc (R86 t0))),(15, .l E54 t0.text.lists),(16, .n (List.length t0.text.lists:Int)),(17, .n c)]) (λ_=> []) (f29_l1 t0 k) h (λ_ h=>by rw[f29_l1] at h;cases h) λn c h=>?_)))
 rw[f29_l1] at h
 refine Rcc 6 q (Ci h q (λh=>?_) λh=>?_)
 refine Rcc 2 q (Jn1 (λ_=> [(1, .d (.pc (R86 t0))),(15, .l E54 t0.text.lists),(16, .n (List.length t0.text.lists:Int)),(17, .n c)]) (λf=> [mpO (λx:Int=>Value.int .i64 x) (λx:Bool=>AV.d (.b x)) f]) h (λ_ h=>?_) λf h=>?_)
 refine Rcl 3 q (Ix h e26 nO q Zl q q λa _ h=>(Rll 6 q (WL.s ((jN (α:=Bool) (λx:Int=>Value.int .i64 x) (λx:Bool=>AV.d (.b x))).does) (Zw q) q q (Rlc 3 q (Jn1 (λ_=> [(1, .d (.pc (R86 t0))),(4, .l E3 a),(15, .l E54 t0.text.lists),(16, .n (List.length t0.text.lists:Int)),(17, .n c)]) (λg=> [mpO (λx:Int=>Value.int .i64 x) (λx:Bool=>AV.d (.b x)) g]) h (λm h=>?_) λg h=>?_)))))
 refine Rcl 3 q (Zq (aa E3 a e54 q q Zl) q (Rlc 4 q (Ln2 (λj _=> [(1, .d (.pc (R86 t0))),(4, .l E3 a),(5, .mp 0),(15, .l E54 t0.text.lists),(16, .n (List.length t0.text.lists:Int)),(17, .n c),(22, .l E3 a),(23, .n (List.length a:Int)),(24, .n j)]) (λ_ e=> [mpO (λx:Int=>Value.int .i64 x) (λx:Bool=>AV.d (.b x)) e]) (f29_l2 t0 a m) h (λ_ _ h=>by rw[f29_l2] at h;cases h) λna j e h=>?_)))
 rw[f29_l2] at h
 refine Rcc 6 q (Ci h q (λh=>?_) λh=>?_)
 refine Rcl 6 q (Ix h e54 bd q Zl q q λp _ h=>(Rll 10 q ?_))
 apply WL.or 7 (t:=30) (d:=37)
 exact q
 intro w
 exact Rl 4 q (Zy (aa E70 t0.text.tasks e29 q q Zl) q q q (Rl 2 q (WL.nil ⟨q,[_,_,_,_,_,_,_],q,q,q⟩)))
 exact Rn 7 7
 refine Rl 1 q ?_
 apply WL.or 4 (t:=38) (d:=42)
 exact q
 intro y
 exact Rl 2 q (Zy (nW (λx:Int=>Value.int .i64 x) (λx:Bool=>AV.d (.b x)) e (z:=false) underlying157 underlying3 (KeyF.int .i64) q q q kR q) q q q (Rl 1 q (WL.nil ⟨q,[_,_,_,_],q,q,q⟩)))
 exact Rn 4 4
 refine Rlc 2 q (Ci h q (λh=>Rcx 17 q (FA h)) λh=>?_)
 exact Rcl 5 q (WL.s0 (ke (λx:Int=>Value.int .i64 x) (λx:Bool=>AV.d (.b x)) e (.inr q) underlying157 underlying3 (KeyF.int .i64) q q q q) (Zw q) q (Rlx 7 q (Fn2 h)))
 exact Rcx 4 q (En1 h)
 refine Rcl 3 q (Zq (aa E3 a e54 q q Zl) q (Rlc 3 q (Ci h q (λh=>?_) λh=>?_)))
 exact Rcx 11 q (FA h)
 exact Rcx 2 q (En1 h)
 exact Rcx 4 q (WE.drop 0 (env':=[(1, .d (.pc (R86 t0))),(15, .l E54 t0.text.lists),(16, .n (List.length t0.text.lists:Int)),(17, .n (IntKind.i64.wrap (c+1)))]) Sb q q (Nat.zero_le _) (Fn1 h))
 exact Rcx 4 q (En0 h)
 exact Rcx 6 q (FA h)

theorem f93s_c(F:lN→lH→lP→lS→lL→lO→lT→Int→lK→lM→lC→Int→Int→ap→Int→Option (Bool×lN×lH×lP×lS×lL×lO×lT×Int×lK×lM×lC×Int×Int))(e:lN)(f:lH)(g:lP)(j:lS)(k:lL)(m:lO)(p:lT)(w:Int)(x:lK)(y:lM)(A:lC)(jent:Int)(jleft:Int)(e1:ap)(B:Int)(S:∀(e:lN)(f:lH)(g:lP)(j:lS)(k:lL)(m:lO)(p:lT)(w:Int)(x:lK)(y:lM)(A:lC)(jent:Int)(jleft:Int)(x1:ap)(x2:Int)(r:Bool×lN×lH×lP×lS×lL×lO×lT×Int×lK×lM×lC×Int×Int),F e f g j k m p w x y A jent jleft x1 x2=some r→Ctr prog 93 [.pt 0 0, .d (.ag (R80 x1)), .n x2] [.row 160 [.l E59 e, .l E83 f, .l cm g, .l E65 j, .l E54 k, .l E67 m, .l E93 p, .n w, .l E70 x, .l E75 y, .l cv A, .n jent, .n jleft]] (ga 1 (.b r.1) (λiv=> [.row 160 [.l E59 r.2.1, .l E83 r.2.2.1, .l cm r.2.2.2.1, .l E65 r.2.2.2.2.1, .l E54 r.2.2.2.2.2.1, .l E67 r.2.2.2.2.2.2.1, .l E93 r.2.2.2.2.2.2.2.1, .n r.2.2.2.2.2.2.2.2.1, .l E70 r.2.2.2.2.2.2.2.2.2.1, .l E75 r.2.2.2.2.2.2.2.2.2.2.1, .l cv r.2.2.2.2.2.2.2.2.2.2.2.1, .n r.2.2.2.2.2.2.2.2.2.2.2.2.1, .n r.2.2.2.2.2.2.2.2.2.2.2.2.2]]))){r:Bool×lN×lH×lP×lS×lL×lO×lT×Int×lK×lM×lC×Int×Int}(h:f93s F e f g j k m p w x y A jent jleft e1 B=some r):Ctr prog 93 [.pt 0 0, .d (.ag (R80 e1)), .n B] [.row 160 [.l E59 e, .l E83 f, .l cm g, .l E65 j, .l E54 k, .l E67 m, .l E93 p, .n w, .l E70 x, .l E75 y, .l cv A, .n jent, .n jleft]] (ga 1 (.b r.1) (λiv=> [.row 160 [.l E59 r.2.1, .l E83 r.2.2.1, .l cm r.2.2.2.1, .l E65 r.2.2.2.2.1, .l E54 r.2.2.2.2.2.1, .l E67 r.2.2.2.2.2.2.1, .l E93 r.2.2.2.2.2.2.2.1, .n r.2.2.2.2.2.2.2.2.1, .l E70 r.2.2.2.2.2.2.2.2.2.1, .l E75 r.2.2.2.2.2.2.2.2.2.2.1, .l cv r.2.2.2.2.2.2.2.2.2.2.2.1, .n r.2.2.2.2.2.2.2.2.2.2.2.2.1, .n r.2.2.2.2.2.2.2.2.2.2.2.2.2]])):=by
 unfold f93s at h
 refine cI func93 λ_ _ _ hmm=>?_
 refine Rcl 2 q (Bx q q q (Bd q q (Zs _) q (WL.s ((lR q q (by exact(show Les [.n B] (List.map AV.d [.i .i64 B]) from Lw))).does) (Zw q) q q (Rll 12 q (sS Z6 s3 Z2 (St q (Rll 6 q ?_)))))))
 obtain⟨T,U,h⟩:=az h
 refine WL.inl (us:=[.pt 0 0, .d (.ag (R80 e1))]) (λrv st'=>(∃(G:Bool),∃(H:Int),∃(a:ap),∃(c21v100:Int),∃(c22v101:Int),∃(c23v102:Int),∃(c24v103:Int),T G H a c21v100 c22v101 c23v102 c24v103=some r∧Le rv (.tu [.d (.ag (R80 a)), .n H, .d (D.b G)])∧SLe st' [.row 160 [.l E59 e, .l E83 f, .l cm g, .l E65 j, .l E54 k, .l E67 m, .l E93 p, .n w, .l E70 x, .l E75 y, .l cv A, .n jent, .n (IntKind.i64.wrap (jleft - 1))], .row 158 [.pt 0 0], .row 80 [.d (D.i .u8 e1.kind), .d (D.i .u8 c21v100), .n c22v101, .n c23v102, .n c24v103, .n 0, .n 0, .n 0,sN]])) q q q q q ?_ (Zw q) q q ?_
 refine cI func153 λ_ _ _ _=>?_
 refine Rcl 2 q (Bd q q (Zs _) q (Al z80 q (Rll 9 q (sS Z6 s77 Z2 (St q (Rlc 2 q (Jn5 (λI _ _ _ _=> [(4, .pt 2 0),(5, .n I)]) (λ_ c21v106 c22v107 c23v108 c24v109=> [.row 160 [.l E59 e, .l E83 f, .l cm g, .l E65 j, .l E54 k, .l E67 m, .l E93 p, .n w, .l E70 x, .l E75 y, .l cv A, .n jent, .n (IntKind.i64.wrap (jleft - 1))], .row 158 [.pt 0 0], .row 80 [.d (D.i .u8 e1.kind), .d (D.i .u8 c21v106), .n c22v107, .n c23v108, .n c24v109, .n 0, .n 0, .n 0,sN]]) h (λ_ h=>?_) λI c21v106 c22v107 c23v108 c24v109 h=>?_)))))))
 refine Rcc 13 q (Ci h q (λh=>Rcl 4 q (sS Z6 s2 Z2 (St q (Rlx 2 q (En5 h))))) λh=>?_)
 refine Rcc 6 q (Ci h q (λh=>?_) λh=>?_)
 refine Rcc 2 q (aB kR kR (Rq 8 q ?_))
 obtain⟨a7,V,h⟩:=ac h
 refine WQ.q (YieldsQ.fn q q q q q (f89_c V) ⟨(aK (Zs _)),Zl,Zl,Zl,Zt⟩) (Zw q) q q (Rq 2 q ?_)
 obtain⟨W,O,h⟩:=ac h
 apply WQ.grp 12 (t:=30) (d:=42) (z:=W)
 exact q
 intro J
 have h:=eD O J
 refine Rq 12 q ?_
 obtain rfl:=Oi h
 exact WQ.nil ⟨[_,_,_,_,_,_,_,_,_,_,_,_],q,q,q⟩
 intro J
 have h:=eE O J
 refine Rq 8 q ?_
 obtain⟨a8,P,h⟩:=ac h
 refine WQ.qy (ai e27 q Zl q (aj P) (au cE P) q) q q q (Rq 3 q ?_)
 obtain rfl:=Oi h
 exact WQ.nil ⟨[_,_,_,_,_,_,_,_,_,_,_,_],q,q,q⟩
 refine WQ.nil (Rxc 1 q (Ci h q (λh=>?_) λh=>?_))
 exact Rcl 3 q (sS Z6 s80 Z2 (St q (Rlx 8 q (aM (rs3 q (cX q q a80 s80 q) (bv q) (bv q)) ⟨false,0,(ap.mk e1.kind 0 0 0 0 0 0 0 []),0,0,0,0,h,(Le.tu ⟨(aK ⟨Zl,Zl,Zl,Zl,Zl,Zl,Zl,Zl,Le.nil,Zt⟩),Zl,Zl,Zt⟩),⟨Zp,Zp,Zp,Zt⟩⟩))))
 refine Rcc 2 q ?_
 apply RT [_,_,_,_,_, .u,_, .u] [5,7] [[.row 160 [.l E59 e, .l E83 f, .l cm g, .l E65 j, .l E54 k, .l E67 m, .l E93 p, .n w, .l E70 x, .l E75 y, .l cv A, .n jent, .n (IntKind.i64.wrap (jleft - 1))], .row 158 [.pt 0 0], .row 80 [.d (D.i .u8 e1.kind), .d (D.i .u8 0), .n 0, .n e1.o, .n 0, .n 0, .n 0, .n 0,sN]],[.row 160 [.l E59 e, .l E83 f, .l cm g, .l E65 j, .l E54 k, .l E67 m, .l E93 p, .n w, .l E70 x, .l E75 y, .l cv A, .n jent, .n (IntKind.i64.wrap (jleft - 1))], .row 158 [.pt 0 0], .row 80 [.d (D.i .u8 e1.kind), .d (D.i .u8 0), .n 0, .n e1.o, .n e1.off, .n 0, .n 0, .n 0,sN]]] [p01 3,p10 0,u01 3,u10 2,p01 4,p20 4 1,q01 4 1,q20 6 3 1] kR kR q q
 refine Y2 ?_
 refine X2b ?_
 refine Y1 ?_
 refine zo (λ_=>sS Z6 s3 Z2 (bJ q q)) ?_
 refine Y1 ?_
 exact zo (λ_=>sS Z6 s3 Z2 (bJ q q)) Zt
 exact Rxx 1 q (En5 h)
 refine Rcc 6 q (Ci h q (λh=>?_) λh=>?_)
 refine Rcl 5 q (sS Z6 s2 Z2 (St q (Rlc 2 q (Jn1 (λK=> [(4, .pt 2 0),(5, .n 0),(6, .d (D.b K))]) (λ_=> [.row 160 [.l E59 e, .l E83 f, .l cm g, .l E65 j, .l E54 k, .l E67 m, .l E93 p, .n w, .l E70 x, .l E75 y, .l cv A, .n jent, .n (IntKind.i64.wrap (jleft - 1))], .row 158 [.pt 0 0], .row 80 [.d (D.i .u8 e1.kind), .d (D.i .u8 0), .n e1.n, .n 0, .n 0, .n 0, .n 0, .n 0,sN]]) h (λ_ h=>?_) λK h=>?_))))
 rcases su (decide (e1.n≥0)) with C|C
 replace h:=eD h C
 apply RT [_,_,_,_,_,_,_,_,_,_,_,_,_, .u,_,_] [] [] [p01 4,p01 3,p10 1,p10 2,p10 3,p11 4 3,p20 5 4,p11 4 0,p20 7 4,p20 8 4,p20 9 4,p30 6 10 4,p20 4 11,p11 0 4,p00,p10 12] kR kR q q
 refine Y4 ?_
 refine zo (rc C) ?_
 refine Y8 ?_
 refine zo (λ_=>sS Z6 s80 Z2 (bJ q q)) ?_
 exact Y2 Zt
 exact En1 h
 replace h:=eE h C
 apply RT [_,_,_,_,_,_,_,_,_,_,_,_,_, .u,_,_] [] [] [p01 4,p01 3,p10 1,p10 2,p10 3,p10 4,p10 4,p10 4,p10 4,p10 4,p10 4,p10 4,p20 4 11,p11 0 4,p00,p10 12] kR kR q q
 refine Y4 ?_
 refine zo (rc C) ?_
 refine Y8 ?_
 refine zo (λ_=>sS Z6 s80 Z2 (bJ q q)) ?_
 exact Y2 Zt
 exact En1 h
 exact Rcx 3 q (aM (rs3 q (cX q q a80 s80 q) (bv q) (bv q)) ⟨K,0,(ap.mk e1.kind 0 e1.n 0 0 0 0 0 []),0,e1.n,0,0,h,(Le.tu ⟨(aK ⟨Zl,Zl,Zl,Zl,Zl,Zl,Zl,Zl,Le.nil,Zt⟩),Zl,Zl,Zt⟩),⟨Zp,Zp,Zp,Zt⟩⟩)
 refine Rcc 6 q (Ci h q (λh=>Rcl 2 q (sS Z6 s78 Z2 (St q (Rlx 3 q (En5 h))))) λh=>?_)
 refine Rcc 6 q (Ci h q (λh=>?_) λh=>?_)
 exact Rcl 3 q (Zq (qg q q q) q (Zq (qh q q q) q (Rl 1 q (sS Z6 s78 Z2 (St q (Rlx 3 q (En5 h)))))))
 refine Jn1 (λQ=> [(4, .pt 2 0),(78, .d (D.b Q))]) (λ_=> [.row 160 [.l E59 e, .l E83 f, .l cm g, .l E65 j, .l E54 k, .l E67 m, .l E93 p, .n w, .l E70 x, .l E75 y, .l cv A, .n jent, .n (IntKind.i64.wrap (jleft - 1))], .row 158 [.pt 0 0], .row 80 [.d (D.i .u8 e1.kind), .d (D.i .u8 0), .n 0, .n 0, .n 0, .n 0, .n 0, .n 0,sN]]) h (λ_ h=>?_) (λQ h=>?_)
 exact Rcc 6 q (Ci h q (λh=>Rcx 1 q (En1 h)) λh=>Rcx 4 q (En1 h))
 refine Ci h q (λh=>?_) (λh=>?_)
 exact Rcx 4 q (En5 h)
 exact Rcl 3 q (sS Z6 s80 Z2 (St q (Rlx 7 q (aM (rs3 q (cX q q a80 s80 q) (bv q) (bv q)) ⟨false,0,(ap.mk e1.kind 0 0 0 0 0 0 0 []),0,0,0,0,h,(Le.tu ⟨(aK ⟨Zl,Zl,Zl,Zl,Zl,Zl,Zl,Zl,Le.nil,Zt⟩),Zl,Zl,Zt⟩),⟨Zp,Zp,Zp,Zt⟩⟩))))
 exact Rcl 4 q (sS Z6 s80 Z2 (St q (Rlx 5 q (aM (rs3 q (cX q q a80 s80 q) (bv q) (bv q)) ⟨true,I,(ap.mk e1.kind c21v106 c22v107 c23v108 c24v109 0 0 0 []),c21v106,c22v107,c23v108,c24v109,h,(Le.tu ⟨(aK ⟨Zl,Zl,Zl,Zl,Zl,Zl,Zl,Zl,Le.nil,Zt⟩),Zl,Zl,Zt⟩),⟨Zp,Zp,Zp,Zt⟩⟩))))
 rintro rv st1 ⟨G,H,a,c21v100,c22v101,c23v102,c24v103,h,hr,hst⟩
 subst U
 dsimp only at h
 refine WL.cast 20 q hr (WL.weak hst (Rl 4 q (Al z80 q (sS Z6 s80 Z2 (St q (Rl 2 q (Zn (Rcl 9 q ?_))))))))
 refine OG 3 29 32 3 3 ?_
 refine Rl 1 q ?_
 refine OG 3 33 36 3 3 ?_
 refine Rl 1 q ?_
 apply WL.or 6 (t:=37) (d:=43)
 exact q
 intro a'
 exact Rl 2 q (Zy (aa E80 e1.l e73 q q Zl) q q q (Rl 3 q (WL.nil ⟨q,[_,_,_,_,_,_],q,q,q⟩)))
 exact Rn 6 6
 refine Rl 1 q ?_
 refine OG 6 44 50 6 6 ?_
 refine Rl 1 q ?_
 refine OG 6 51 57 6 6 ?_
 refine Rl 1 q ?_
 refine OG 6 58 64 6 6 ?_
 refine Rl 1 q ?_
 refine OG 6 65 71 6 6 ?_
 refine Rl 1 q ?_
 refine OG 4 72 76 4 4 ?_
 refine Rl 1 q ?_
 refine OG 4 77 81 4 4 ?_
 refine Rl 1 q ?_
 refine OG 4 82 86 4 4 ?_
 refine Rlc 2 q (Ci h q (λh=>?_) λh=>?_)
 refine Rcx 7 q ?_
 obtain rfl:=Oi h
 exact bL 0 (rs1 q (bv q)) Zl q ⟨Zp,Zt⟩
 refine Rcl 7 q ?_
 obtain⟨X,Y,h⟩:=az h
 refine WL.inl (us:=[.l E80 e1.l, .fn (.func 155) [] [.pt 1 0, .d (.pc (E3 B))]]) (λrv st'=>(∃(L:Bool),∃(c00v120:lN),∃(c01v121:lH),∃(c02v122:lP),∃(c03v123:lS),∃(c04v124:lL),∃(c05v125:lO),∃(c06v126:lT),∃(c07v127:Int),∃(c08v128:lK),∃(c09v129:lM),∃(c010v130:lC),∃(c011v131:Int),∃(c012v132:Int),X L c00v120 c01v121 c02v122 c03v123 c04v124 c05v125 c06v126 c07v127 c08v128 c09v129 c010v130 c011v131 c012v132=some r∧Le rv (.d (D.b L))∧SLe st' [.row 160 [.l E59 c00v120, .l E83 c01v121, .l cm c02v122, .l E65 c03v123, .l E54 c04v124, .l E67 c05v125, .l E93 c06v126, .n c07v127, .l E70 c08v128, .l E75 c09v129, .l cv c010v130, .n c011v131, .n c012v132], .row 158 [.pt 0 0], .row 80 [.d (D.i .u8 e1.kind), .d (D.i .u8 c21v100), .n c22v101, .n c23v102, .n c24v103, .n 0, .n 0, .n 0,sN], .row 80 [.d (D.i .u8 a.kind), .d (D.i .u8 a.op), .n a.n, .n a.o, .n a.off, .n a.len, .n a.lo, .n a.hi, .l E80 a.l]])) q q q q q ?_ (Zw q) q q ?_
 refine cI func154 λ_ _ _ _=>?_
 refine Rcl 9 q ?_
 obtain⟨R,Z,h⟩:=az h
 refine WL.inl (us:=[.l E80 e1.l, .fn (.func 155) [] [.pt 1 0, .d (.pc (E3 B))]]) (λrv st'=>(∃(E:Int),∃(c00v136:lN),∃(c01v137:lH),∃(c02v138:lP),∃(c03v139:lS),∃(c04v140:lL),∃(c05v141:lO),∃(c06v142:lT),∃(c07v143:Int),∃(c08v144:lK),∃(c09v145:lM),∃(c010v146:lC),∃(c011v147:Int),∃(c012v148:Int),R E c00v136 c01v137 c02v138 c03v139 c04v140 c05v141 c06v142 c07v143 c08v144 c09v145 c010v146 c011v147 c012v148=some r∧Le rv (.n E)∧SLe st' [.row 160 [.l E59 c00v136, .l E83 c01v137, .l cm c02v138, .l E65 c03v139, .l E54 c04v140, .l E67 c05v141, .l E93 c06v142, .n c07v143, .l E70 c08v144, .l E75 c09v145, .l cv c010v146, .n c011v147, .n c012v148], .row 158 [.pt 0 0], .row 80 [.d (D.i .u8 e1.kind), .d (D.i .u8 c21v100), .n c22v101, .n c23v102, .n c24v103, .n 0, .n 0, .n 0,sN], .row 80 [.d (D.i .u8 a.kind), .d (D.i .u8 a.op), .n a.n, .n a.o, .n a.off, .n a.len, .n a.lo, .n a.hi, .l E80 a.l]])) q q q q q ?_ (Zw q) q q ?_
 refine cI func184 λ_ _ _ _=>?_
 refine Rcc 5 q (Jn13 (λ_ _ _ _ _ _ _ _ _ _ _ _ _=> []) (λc00v150 c01v151 c02v152 c03v153 c04v154 c05v155 c06v156 c07v157 c08v158 c09v159 c010v160 c011v161 c012v162=> [.row 160 [.l E59 c00v150, .l E83 c01v151, .l cm c02v152, .l E65 c03v153, .l E54 c04v154, .l E67 c05v155, .l E93 c06v156, .n c07v157, .l E70 c08v158, .l E75 c09v159, .l cv c010v160, .n c011v161, .n c012v162], .row 158 [.pt 0 0], .row 80 [.d (D.i .u8 e1.kind), .d (D.i .u8 c21v100), .n c22v101, .n c23v102, .n c24v103, .n 0, .n 0, .n 0,sN], .row 80 [.d (D.i .u8 a.kind), .d (D.i .u8 a.op), .n a.n, .n a.o, .n a.off, .n a.len, .n a.lo, .n a.hi, .l E80 a.l]]) h (λad h=>?_) λc00v150 c01v151 c02v152 c03v153 c04v154 c05v155 c06v156 c07v157 c08v158 c09v159 c010v160 c011v161 c012v162 h=>?_)
 refine Rcl 3 q (Zq (aa E80 e1.l e73 q q Zl) q (Rlc 4 q (Ln14 (λM _ _ _ _ _ _ _ _ _ _ _ _ _=> [(0, .l E80 e1.l),(1, .fn (.func 155) [] [.pt 1 0, .d (.pc (E3 B))]),(7, .n (List.length e1.l:Int)),(8, .n M)]) (λ_ c00v179 c01v180 c02v181 c03v182 c04v183 c05v184 c06v185 c07v186 c08v187 c09v188 c010v189 c011v190 c012v191=> [.row 160 [.l E59 c00v179, .l E83 c01v180, .l cm c02v181, .l E65 c03v182, .l E54 c04v183, .l E67 c05v184, .l E93 c06v185, .n c07v186, .l E70 c08v187, .l E75 c09v188, .l cv c010v189, .n c011v190, .n c012v191], .row 158 [.pt 0 0], .row 80 [.d (D.i .u8 e1.kind), .d (D.i .u8 c21v100), .n c22v101, .n c23v102, .n c24v103, .n 0, .n 0, .n 0,sN], .row 80 [.d (D.i .u8 a.kind), .d (D.i .u8 a.op), .n a.n, .n a.o, .n a.off, .n a.len, .n a.lo, .n a.hi, .l E80 a.l]]) (f93s_l1 F e1 B R ad) h (λ_ _ _ _ _ _ _ _ _ _ _ _ _ _ h=>by rw[f93s_l1] at h;cases h) λn M c00v179 c01v180 c02v181 c03v182 c04v183 c05v184 c06v185 c07v186 c08v187 c09v188 c010v189 c011v190 c012v191 h=>?_)))
 rw[f93s_l1] at h
 refine Rcc 6 q (Ci h q (λh=>?_) λh=>?_)
 refine Rcl 15 q (Ix h e73 fh q Zl q q λal _ h=>(Rl 1 q ?_))
 obtain⟨a0,a1,h⟩:=az h
 refine WL.inl (us:=[.d (.ag (R80 al)), .pt 1 0, .d (.pc (E3 B))]) (λrv st'=>(∃(N:Bool),∃(c00v209:lN),∃(c01v210:lH),∃(c02v211:lP),∃(c03v212:lS),∃(c04v213:lL),∃(c05v214:lO),∃(c06v215:lT),∃(c07v216:Int),∃(c08v217:lK),∃(c09v218:lM),∃(c010v219:lC),∃(c011v220:Int),∃(c012v221:Int),a0 N c00v209 c01v210 c02v211 c03v212 c04v213 c05v214 c06v215 c07v216 c08v217 c09v218 c010v219 c011v220 c012v221=some r∧Le rv (.d (D.b N))∧SLe st' [.row 160 [.l E59 c00v209, .l E83 c01v210, .l cm c02v211, .l E65 c03v212, .l E54 c04v213, .l E67 c05v214, .l E93 c06v215, .n c07v216, .l E70 c08v217, .l E75 c09v218, .l cv c010v219, .n c011v220, .n c012v221], .row 158 [.pt 0 0], .row 80 [.d (D.i .u8 e1.kind), .d (D.i .u8 c21v100), .n c22v101, .n c23v102, .n c24v103, .n 0, .n 0, .n 0,sN], .row 80 [.d (D.i .u8 a.kind), .d (D.i .u8 a.op), .n a.n, .n a.o, .n a.off, .n a.len, .n a.lo, .n a.hi, .l E80 a.l]])) q q q q q ?_ (Zw q) q q ?_
 refine cI func155 λ_ _ _ _=>?_
 refine Rcl 2 q (Bd q q (Zs _) q (Rll 9 q ?_))
 obtain⟨c,a6,h⟩:=ac h
 refine aw [0] q q q q (S _ _ _ _ _ _ _ _ _ _ _ _ _ _ _ _ a6) Lw q dC (Re q) ⟨q,Zt⟩ q q (λ_=>q) (λ_=>(Re q)) (Zw q) q q (λbb=>?_)
 exact Rlx 5 q (aM (rs1 q (bv q)) ⟨(!c.1),c.2.1,c.2.2.1,c.2.2.2.1,c.2.2.2.2.1,c.2.2.2.2.2.1,c.2.2.2.2.2.2.1,c.2.2.2.2.2.2.2.1,c.2.2.2.2.2.2.2.2.1,c.2.2.2.2.2.2.2.2.2.1,c.2.2.2.2.2.2.2.2.2.2.1,c.2.2.2.2.2.2.2.2.2.2.2.1,c.2.2.2.2.2.2.2.2.2.2.2.2.1,c.2.2.2.2.2.2.2.2.2.2.2.2.2,h,Zl,⟨Zp,Zp,Zp,Zp,Zt⟩⟩)
 rintro rv st1 ⟨N,c00v209,c01v210,c02v211,c03v212,c04v213,c05v214,c06v215,c07v216,c08v217,c09v218,c010v219,c011v220,c012v221,h,hr,hst⟩
 subst a1
 dsimp only at h
 refine WL.cast 16 q hr (WL.weak hst (Zn (Ci h q (λh=>?_) λh=>?_)))
 exact Rcx 12 q (aM (rs1 q (bv q)) ⟨M,c00v209,c01v210,c02v211,c03v212,c04v213,c05v214,c06v215,c07v216,c08v217,c09v218,c010v219,c011v220,c012v221,h,Zl,⟨Zp,Zp,Zp,Zp,Zt⟩⟩)
 exact Rcx 7 q (cF ⟨_,⟨_,_,_,_,_,_,_,_,_,_,_,_,_,_,h,Sb,Tv⟩,Nat.lt_succ_self _⟩)
 exact Rcx 4 q (cF ⟨_,_,_,_,_,_,_,_,_,_,_,_,_,h,Sb,Tv⟩)
 exact Rcx 6 q (aM (rs1 q (bv q)) ⟨(-1),c00v150,c01v151,c02v152,c03v153,c04v154,c05v155,c06v156,c07v157,c08v158,c09v159,c010v160,c011v161,c012v162,h,Zl,⟨Zp,Zp,Zp,Zp,Zt⟩⟩)
 rintro rv st1 ⟨E,c00v136,c01v137,c02v138,c03v139,c04v140,c05v141,c06v142,c07v143,c08v144,c09v145,c010v146,c011v147,c012v148,h,hr,hst⟩
 subst Z
 dsimp only at h
 exact WL.cast 7 q hr (WL.weak hst (Rl 2 q (Zn (Rcx 1 q (aM (rs1 q (bv q)) ⟨(decide (E≥0)),c00v136,c01v137,c02v138,c03v139,c04v140,c05v141,c06v142,c07v143,c08v144,c09v145,c010v146,c011v147,c012v148,h,Zl,⟨Zp,Zp,Zp,Zp,Zt⟩⟩)))))
 rintro rv st1 ⟨L,c00v120,c01v121,c02v122,c03v123,c04v124,c05v125,c06v126,c07v127,c08v128,c09v129,c010v130,c011v131,c012v132,h,hr,hst⟩
 subst Y
 dsimp only at h
 refine WL.cast 90 q hr (WL.weak hst (Rl 2 q (Zn (Rcx 1 q ?_))))
 obtain rfl:=Oi h
 exact bL 0 (rs1 q (bv q)) Zl q ⟨Zp,Zt⟩

theorem f93_c:∀(n:Nat)(a:lN)(c:lH)(e:lP)(f:lS)(g:lL)(j:lO)(k:lT)(m:Int)(p:lK)(t:lM)(w:lC)(jent:Int)(jleft:Int)(x1:ap)(x2:Int){r:Bool×lN×lH×lP×lS×lL×lO×lT×Int×lK×lM×lC×Int×Int},f93 n a c e f g j k m p t w jent jleft x1 x2=some r→Ctr prog 93 [.pt 0 0, .d (.ag (R80 x1)), .n x2] [.row 160 [.l E59 a, .l E83 c, .l cm e, .l E65 f, .l E54 g, .l E67 j, .l E93 k, .n m, .l E70 p, .l E75 t, .l cv w, .n jent, .n jleft]] (ga 1 (.b r.1) (λiv=> [.row 160 [.l E59 r.2.1, .l E83 r.2.2.1, .l cm r.2.2.2.1, .l E65 r.2.2.2.2.1, .l E54 r.2.2.2.2.2.1, .l E67 r.2.2.2.2.2.2.1, .l E93 r.2.2.2.2.2.2.2.1, .n r.2.2.2.2.2.2.2.2.1, .l E70 r.2.2.2.2.2.2.2.2.2.1, .l E75 r.2.2.2.2.2.2.2.2.2.2.1, .l cv r.2.2.2.2.2.2.2.2.2.2.2.1, .n r.2.2.2.2.2.2.2.2.2.2.2.2.1, .n r.2.2.2.2.2.2.2.2.2.2.2.2.2]]))
 |0,_,_,_,_,_,_,_,_,_,_,_,_,_,_,_,_,h=>by cases h
 |n+1,a,c,e,f,g,j,k,m,p,t,w,jent,jleft,x1,x2,_,h=>f93s_c (f93 n) a c e f g j k m p t w jent jleft x1 x2 (λa c e f g j k m p t w jent jleft x1 x2 _ h=>f93_c n a c e f g j k m p t w jent jleft x1 x2 h) h

theorem f30_c{t0:bg}{r:Bool}(h:f30 t0=some r):Pu prog 30 [.ag (R86 t0)] (.b r):=by
 unfold f30 at h
 refine fI func30 λ_ _=>?_
 refine Rcl 2 q (Bd q q (Zs _) q (Rlc 3 q (Jn0 [(1, .d (.pc (R86 t0)))] [] h (λf h=>?_) λh=>?_)))
 refine Rcl 5 q (Zq (aa E75 t0.text.prots e30 q q Zl) q (Rlc 4 q (Ln1 (λc=> [(1, .d (.pc (R86 t0))),(10, .l E75 t0.text.prots),(11, .n (List.length t0.text.prots:Int)),(12, .n c)]) (λ_=> []) (f30_l1 t0 f) h (λ_ h=>by rw[f30_l1] at h;cases h) λn c h=>?_)))
 rw[f30_l1] at h
 refine Rcc 6 q (Ci h q (λh=>?_) λh=>?_)
 refine Rcc 2 q (Jn2 (λ_ _=> [(1, .d (.pc (R86 t0))),(10, .l E75 t0.text.prots),(11, .n (List.length t0.text.prots:Int)),(12, .n c)]) (λc00v60 c01v61=> [.row 75 [.n c00v60, .l E80 c01v61]]) h (λg h=>?_) λc00v60 c01v61 h=>?_)
 refine Rcl 3 q (Ix h e30 eJ q Zl q q λa _ h=>(Rl 1 q (Al z75 q (sS Z6 s75 Z2 (Rll 9 q ?_)))))
 refine OG 4 19 23 4 4 ?_
 refine Rl 1 q ?_
 apply WL.or 5 (t:=24) (d:=29)
 exact q
 intro k
 exact Rl 2 q (Zy (aa E80 a.barriers e73 q q Zl) q q q (Rl 2 q (WL.nil ⟨q,[_,_,_,_,_],q,q,q⟩)))
 exact Rn 5 5
 refine Rlc 2 q (Ci h q (λh=>Rcx 12 q (FA h)) λh=>?_)
 refine Rcl 6 q (Zq (aa E80 a.barriers e73 q q Zl) q (Rlc 4 q (Ln1 (λe=> [(1, .d (.pc (R86 t0))),(4, .pt 0 0),(10, .l E75 t0.text.prots),(11, .n (List.length t0.text.prots:Int)),(12, .n c),(31, .l E80 a.barriers),(32, .n (List.length a.barriers:Int)),(33, .n e)]) (λ_=> [.row 75 [.n a.ceiling, .l E80 a.barriers]]) (f30_l2 t0 g a) h (λ_ h=>by rw[f30_l2] at h;cases h) λna e h=>?_)))
 rw[f30_l2] at h
 refine Rcc 6 q (Ci h q (λh=>?_) λh=>?_)
 refine Rcl 6 q (Ix h e73 fh q Zl q q λm _ h=>(Rl 1 q (Al z80 q (sS Z6 s80 Z2 (Rll 7 q (Zq (aa E80 a.barriers e73 q q Zl) q (Zq (ab p160 z160 q q) q (Bx q q q (Rll 7 q ?_)))))))))
 obtain⟨p,j,h⟩:=ac h
 refine aw [2] q q q q (f93_c 66 _ _ _ _ _ _ _ _ _ _ _ _ _ _ _ j) ⟨Zl,(aK (Zs _)),Zl,Zt⟩ q dC (Re q) ⟨q,Zt⟩ q q (λ_=>q) (λ_=>(Re q)) (Zw q) q q (λw=>?_)
 refine Rlc 3 q (Ci h q (λh=>Rcx 15 q (FA h)) λh=>?_)
 exact Rcx 7 q (WE.drop 1 (env':=[(1, .d (.pc (R86 t0))),(4, .pt 0 0),(10, .l E75 t0.text.prots),(11, .n (List.length t0.text.prots:Int)),(12, .n c),(31, .l E80 a.barriers),(32, .n (List.length a.barriers:Int)),(33, .n (IntKind.i64.wrap (e+1)))]) Sb q q (Nat.zero_le _) (Fn1 h))
 exact Rcx 5 q (En2 h)
 exact Rcx 4 q (WE.drop 0 (env':=[(1, .d (.pc (R86 t0))),(10, .l E75 t0.text.prots),(11, .n (List.length t0.text.prots:Int)),(12, .n (IntKind.i64.wrap (c+1)))]) Sb q q (Nat.zero_le _) (Fn1 h))
 exact Rcx 4 q (En0 h)
 exact Rcl 5 q (Zq (aa E75 t0.text.prots e30 q q Zl) q (Rlx 5 q (FA h)))

theorem f157_c{n0:Int}{a:bg}{c:Int}{r:Bool}(h:f157 n0 a c=some r):Pu prog 157 [.i .i64 n0, .pc (R86 a), .pc (E3 c)] (.b r):=by
 unfold f157 at h
 refine fI func157 λ_ _=>?_
 refine Rcl 10 q ?_
 obtain⟨e,d,h⟩:=ac h
 exact wF Z4 (f89_c d) Lw Z3 (Rlx 4 q (FA h))

theorem f96_c{t0:bg}{a:Int}{a2:cD}{r:Bool}(h:f96 t0 a a2=some r):Pu prog 96 [.ag (R86 t0), .i .i64 a, .ag (iz a2)] (.b r):=by
 unfold f96 at h
 refine fI func96 λ_ _=>?_
 refine Rcl 2 q (Bd q q (Zs _) q (WL.s ((lR q q (by exact(show Les [.n a] (List.map AV.d [.i .i64 a]) from Lw))).does) (Zw q) q q (Bd q q (Zs _) q (Rll 15 q (wF Z4 (f47_c) Lw Z3 (Rl 2 q ?_))))))
 obtain⟨e,f,h⟩:=ac h
 refine Gg 11 14 25 e f (λh=>?_) (λh=>?_) ?_
 exact On 11 11 h
 refine Rl 4 q ?_
 obtain⟨g,j,h⟩:=ac h
 refine Gg 6 18 24 g j (λh=>?_) (λh=>?_) ?_
 refine Rl 3 q ?_
 obtain⟨x,k,h⟩:=ac h
 exact WL.fn q q q q (f157_c k) Lw (aR q q q) q q (On 2 6 h)
 exact On 6 6 h
 exact On 1 6 h
 refine Rlc 2 q (Ci h q (λh=>Rcx 7 q (FA h)) λh=>?_)
 refine Rcc 16 q (Ci h q (λh=>?_) λh=>?_)
 refine Rcl 6 q ?_
 refine AG 4 33 37 4 4 ?_
 refine Rl 1 q ?_
 refine AG 4 38 42 4 4 ?_
 exact Rlx 6 q (FA h)
 refine Jn1 (λc=> [(5, .d (.pc (iz a2))),(7, .fn (.func 157) [] [.d (.pc (R86 t0)), .d (.pc (E3 a))]),(43, .d (D.b c))]) (λ_=> []) h (λ_ h=>?_) (λc h=>?_)
 exact Rcc 6 q (Ci h q (λh=>Rcx 1 q (En1 h)) λh=>Rcx 4 q (En1 h))
 refine Ci h q (λh=>?_) (λh=>?_)
 refine Rcl 6 q ?_
 obtain⟨m,p,h⟩:=ac h
 refine Gg 5 49 54 m p (λh=>?_) (λh=>?_) ?_
 refine Rl 3 q ?_
 obtain⟨y,w,h⟩:=ac h
 exact WL.fn q q q q (f157_c w) Lw (aR q q q) q q (On 1 5 h)
 exact On 5 5 h
 exact Rlx 6 q (FA h)
 refine Rcl 9 q ?_
 apply WL.and 7 (t:=58) (d:=65)
 exact q
 intro A
 exact Rl 4 q (Zy (xv q q q) q q q (Rl 2 q (WL.nil ⟨q,[_,_,_,_,_,_,_],q,q,q⟩)))
 exact Rn 7 7
 exact Rlx 4 q (FA h)

theorem f31_c{t0:bg}{r:Bool}(h:f31 t0=some r):Pu prog 31 [.ag (R86 t0)] (.b r):=by
 unfold f31 at h
 refine fI func31 λ_ _=>?_
 refine Rcl 2 q (Bd q q (Zs _) q (Rll 9 q (Zq (aa E65 t0.text.selects e25 q q Zl) q (Rlc 3 q (Ci h q (λh=>?_) λh=>?_)))))
 exact Rcx 7 q (FA h)
 refine Rcc 2 q (Jn0 [] [] h (λm h=>?_) λh=>?_)
 refine Rcl 5 q (Zq (aa E65 t0.text.selects e25 q q Zl) q (Rlc 4 q (Ln1 (λe=> [(1, .d (.pc (R86 t0))),(12, .l E65 t0.text.selects),(13, .n (List.length t0.text.selects:Int)),(14, .n e)]) (λ_=> []) (f31_l1 t0 m) h (λ_ h=>by rw[f31_l1] at h;cases h) λn e h=>?_)))
 rw[f31_l1] at h
 refine Rcc 6 q (Ci h q (λh=>?_) λh=>?_)
 refine Rcl 6 q (Ix h e25 jT q Zl q q λa _ h=>(Rl 1 q (Al z65 q (sS Z6 s65 Z2 (Rll 7 q (Zq (aa dB a.alts e63 q q Zl) q (Rl 2 q ?_)))))))
 apply WL.or 5 (t:=22) (d:=27)
 exact q
 intro G
 exact Rl 2 q (Zy (aa dB a.alts e63 q q Zl) q q q (Rl 2 q (WL.nil ⟨q,[_,_,_,_,_],q,q,q⟩)))
 exact Rn 5 5
 refine Rl 1 q ?_
 refine OG 4 28 32 4 4 ?_
 refine Rl 1 q ?_
 apply WL.or 8 (t:=33) (d:=41)
 exact q
 intro H
 exact Rl 5 q (Zy (aa E67 t0.text.objs e27 q q Zl) q q q (Rl 2 q (WL.nil ⟨q,[_,_,_,_,_,_,_,_],q,q,q⟩)))
 exact Rn 8 8
 refine Rl 1 q ?_
 apply WL.or 11 (t:=42) (d:=53)
 exact q
 intro I
 refine Rl 4 q ?_
 apply WL.and 6 (t:=46) (d:=52)
 exact q
 intro J
 exact Rl 3 q (WL.fn q q q q (f47_c) Lw (aR q q q) q q (Rl 2 q (WL.nil ⟨q,[_,_,_,_,_,_],q,q,q⟩)))
 exact Rn 6 6
 exact Rn 1 6
 exact Rn 11 11
 refine Rlc 2 q (Ci h q (λh=>Rcx 12 q (FA h)) λh=>?_)
 refine Rcl 7 q ?_
 obtain⟨p,w,h⟩:=az h
 refine WL.inl (us:=[.l dB a.alts, .fn (.func 95) [] [.d (.pc (R86 t0)), .pt 0 0]]) (λrv st'=>(∃(f:Bool),p f=some r∧Le rv (.d (D.b f))∧SLe st' [.row 65 [.l dB a.alts, .n a.obj, .n a.else_]])) q q q q q ?_ (Zw q) q q ?_
 refine cI func94 λ_ _ _ _=>?_
 refine Rcl 9 q ?_
 obtain⟨k,x,h⟩:=az h
 refine WL.inl (us:=[.l dB a.alts, .fn (.func 95) [] [.d (.pc (R86 t0)), .pt 0 0]]) (λrv st'=>(∃(c:Int),k c=some r∧Le rv (.n c)∧SLe st' [.row 65 [.l dB a.alts, .n a.obj, .n a.else_]])) q q q q q ?_ (Zw q) q q ?_
 refine cI func156 λ_ _ _ _=>?_
 refine Rcc 5 q (Jn0 [] [.row 65 [.l dB a.alts, .n a.obj, .n a.else_]] h (λy h=>?_) λh=>?_)
 refine Rcl 3 q (Zq (aa dB a.alts e63 q q Zl) q (Rlc 4 q (Ln1 (λg=> [(0, .l dB a.alts),(1, .fn (.func 95) [] [.d (.pc (R86 t0)), .pt 0 0]),(7, .n (List.length a.alts:Int)),(8, .n g)]) (λ_=> [.row 65 [.l dB a.alts, .n a.obj, .n a.else_]]) (f31_l2 t0 a k y) h (λ_ h=>by rw[f31_l2] at h;cases h) λna g h=>?_)))
 rw[f31_l2] at h
 refine Rcc 6 q (Ci h q (λh=>?_) λh=>?_)
 refine Rcl 15 q (Ix h e63 jm q Zl q q λA _ h=>(Rl 1 q ?_))
 obtain⟨B,C,h⟩:=az h
 refine WL.inl (us:=[.d (.ag (iz A)), .d (.pc (R86 t0)), .pt 0 0]) (λrv st'=>(∃(j:Bool),B j=some r∧Le rv (.d (D.b j))∧SLe st' [.row 65 [.l dB a.alts, .n a.obj, .n a.else_]])) q q q q q ?_ (Zw q) q q ?_
 refine cI func95 λ_ _ _ K=>?_
 refine Rcl 2 q (Bd q q (Zs _) q (Rll 9 q ?_))
 obtain⟨E,F,h⟩:=ac h
 exact wF Z4 (f96_c F) Lw Z3 (Rlx 5 q (aM (rs1 q (bv q)) ⟨(!E),h,Zl,⟨Zp,Zt⟩⟩))
 rintro rv st1 ⟨j,h,hr,hst⟩
 subst C
 dsimp only at h
 refine WL.cast 16 q hr (WL.weak hst (Zn (Ci h q (λh=>?_) λh=>?_)))
 exact Rcx 12 q (aM (rs1 q (bv q)) ⟨g,h,Zl,⟨Zp,Zt⟩⟩)
 exact Rcx 7 q (Fn1 h)
 exact Rcx 4 q (En0 h)
 exact Rcx 6 q (aM (rs1 q (bv q)) ⟨(-1),h,Zl,⟨Zp,Zt⟩⟩)
 rintro rv st1 ⟨c,h,hr,hst⟩
 subst x
 dsimp only at h
 exact WL.cast 7 q hr (WL.weak hst (Rl 2 q (Zn (Rcx 1 q (aM (rs1 q (bv q)) ⟨(decide (c≥0)),h,Zl,⟨Zp,Zt⟩⟩)))))
 rintro rv st1 ⟨f,h,hr,hst⟩
 subst w
 dsimp only at h
 refine WL.cast 57 q hr (WL.weak hst (Zn (Ci h q (λh=>?_) λh=>?_)))
 exact Rcx 11 q (FA h)
 exact Rcx 7 q (WE.drop 0 (env':=[(1, .d (.pc (R86 t0))),(12, .l E65 t0.text.selects),(13, .n (List.length t0.text.selects:Int)),(14, .n (IntKind.i64.wrap (e+1)))]) Sb q q (Nat.zero_le _) (Fn1 h))
 exact Rcx 4 q (En0 h)
 exact Rcx 6 q (FA h)

theorem f50_c{h0:aD}{a1:Int}:Pu prog 50 [.ag (R83 h0), .i .i64 a1] (.b (f50 h0 a1)):=by
 generalize h:f50 h0 a1=r
 unfold f50 at h
 refine fI func50 λ_ _=>?_
 refine Rcl 2 q (Bd q q (Zs _) q (Rll 10 q ?_))
 refine AG 5 9 14 5 5 ?_
 exact Rlx 4 q (FB h)

theorem f32_c{t0:bg}{r:Bool}(h:f32 t0=some r):Pu prog 32 [.ag (R86 t0)] (.b r):=by
 unfold f32 at h
 refine fI func32 λ_ _=>?_
 refine Rcl 2 q (Bd q q (Zs _) q (Rll 9 q (Zq (aa E83 t0.text.handlers e23 q q Zl) q (Rlc 3 q (Ci h q (λh=>?_) λh=>?_)))))
 exact Rcx 7 q (FA h)
 refine Rcc 2 q (Jn0 [] [] h (λf h=>?_) λh=>?_)
 refine Rcl 5 q (Zq (aa E83 t0.text.handlers e23 q q Zl) q (Rlc 4 q (Ln1 (λa=> [(1, .d (.pc (R86 t0))),(15, .l E83 t0.text.handlers),(16, .n (List.length t0.text.handlers:Int)),(17, .n a)]) (λ_=> []) (f32_l1 t0 f) h (λ_ h=>by rw[f32_l1] at h;cases h) λn a h=>?_)))
 rw[f32_l1] at h
 refine Rcc 6 q (Ci h q (λh=>?_) λh=>?_)
 refine Rcc 2 q (Jn4 (λ_ _ _ _=> [(1, .d (.pc (R86 t0))),(15, .l E83 t0.text.handlers),(16, .n (List.length t0.text.handlers:Int)),(17, .n a)]) (λc00v99 c01v100 c02v101 c03v102=> [.row 83 [.n c00v99, .n c01v100, .n c02v101, .d (D.b c03v102)]]) h (λg h=>?_) λc00v99 c01v100 c02v101 c03v102 h=>?_)
 refine Rcl 4 q (Ix h e23 fg q Zl q q λc _ h=>(Rl 1 q (Al z83 q (Rl 1 q (sS Z6 s83 Z2 (Rll 9 q ?_))))))
 refine OG 6 25 31 6 6 ?_
 refine Rl 1 q ?_
 apply WL.or 8 (t:=32) (d:=40)
 exact q
 intro k
 exact Rl 5 q (Zy (aa E59 t0.text.insns e22 q q Zl) q q q (Rl 2 q (WL.nil ⟨q,[_,_,_,_,_,_,_,_],q,q,q⟩)))
 exact Rn 8 8
 refine Rl 1 q ?_
 apply WL.or 6 (t:=41) (d:=47)
 exact q
 intro m
 exact Rl 3 q (WL.fn q q q q (f47_c) Lw (aR q q q) q q (Rl 2 q (WL.nil ⟨q,[_,_,_,_,_,_],q,q,q⟩)))
 exact Rn 6 6
 refine Rl 1 q ?_
 apply WL.or 5 (t:=48) (d:=53)
 exact q
 intro p
 exact Rl 3 q (WL.fn q q q q (f50_c) ⟨(aK (Zs _)),Zl,Zt⟩ (aR q q q) q q (Rl 1 q (WL.nil ⟨q,[_,_,_,_,_],q,q,q⟩)))
 exact Rn 5 5
 refine Rlc 2 q (Ci h q (λh=>Rcx 12 q (FA h)) λh=>?_)
 refine Rcl 8 q ?_
 replace h:=bu h
 obtain⟨j,h⟩:=h
 refine Zq (nR E83 t0.text.handlers (l:=0) (h:=a) e23 q Zl q ⟨_,q⟩ j λ_=>q) q (Zq (aa E83 (cB t0.text.handlers 0 a) e23 q q Zl) q (Rlc 4 q (Ln1 (λe=> [(1, .d (.pc (R86 t0))),(4, .pt 0 0),(15, .l E83 t0.text.handlers),(16, .n (List.length t0.text.handlers:Int)),(17, .n a),(58, .l E83 (cB t0.text.handlers 0 a)),(59, .n (List.length (cB t0.text.handlers 0 a):Int)),(60, .n e)]) (λ_=> [.row 83 [.n c.from_, .n c.to, .n c.at_, .d (D.b c.clean)]]) (f32_l2 t0 a g c) h (λ_ h=>by rw[f32_l2] at h;cases h) λna e h=>?_)))
 rw[f32_l2] at h
 refine Rcc 6 q (Ci h q (λh=>?_) λh=>?_)
 refine Rcl 6 q (Ix h e23 fg q Zl q q λw _ h=>(Rl 1 q (Al z83 q (sS Z6 s83 Z2 (Rll 10 q ?_)))))
 refine AG 6 69 75 6 6 ?_
 refine Rll 8 q ?_
 apply WL.and 12 (t:=78) (d:=90)
 exact q
 intro x
 exact Rl 4 q (Zy (qh q q q) q q q (Rl 4 q (Zy (qg q q q) q q q (Rl 2 q (WL.nil ⟨q,[_,_,_,_,_,_,_,_,_,_,_,_],q,q,q⟩)))))
 exact Rn 12 12
 refine Rlc 2 q (Ci h q (λh=>Rcx 15 q (FA h)) λh=>?_)
 exact Rcx 7 q (WE.drop 1 (env':=[(1, .d (.pc (R86 t0))),(4, .pt 0 0),(15, .l E83 t0.text.handlers),(16, .n (List.length t0.text.handlers:Int)),(17, .n a),(58, .l E83 (cB t0.text.handlers 0 a)),(59, .n (List.length (cB t0.text.handlers 0 a):Int)),(60, .n (IntKind.i64.wrap (e+1)))]) Sb q q (Nat.zero_le _) (Fn1 h))
 exact Rcx 5 q (En4 h)
 exact Rcx 4 q (WE.drop 0 (env':=[(1, .d (.pc (R86 t0))),(15, .l E83 t0.text.handlers),(16, .n (List.length t0.text.handlers:Int)),(17, .n (IntKind.i64.wrap (a+1)))]) Sb q q (Nat.zero_le _) (Fn1 h))
 exact Rcx 4 q (En0 h)
 exact Rcx 6 q (FA h)

theorem f97_c{x0:aE}{a:Int}:Pu prog 97 [.ag (R59 x0), .i .i64 a] (.b (f97 x0 a)):=by
 generalize h:f97 x0 a=r
 unfold f97 at h
 refine fI func97 λ_ _=>?_
 refine Rcl 2 q (Bd q q (Zs _) q (Rll 9 q ?_))
 refine OG 4 8 12 4 4 ?_
 refine Rl 1 q ?_
 refine OG 4 13 17 4 4 ?_
 refine Rl 1 q ?_
 refine AG 5 18 23 5 5 ?_
 exact Rlx 4 q (FB h)

theorem f33_c{t0:bg}{r:Bool}(h:f33 t0=some r):Pu prog 33 [.ag (R86 t0)] (.b r):=by
 unfold f33 at h
 refine fI func33 λ_ _=>?_
 refine Rcl 2 q (Bd q q (Zs _) q (Rll 9 q (Zq (aa cm t0.text.loops e24 q q Zl) q (Rlc 3 q (Ci h q (λh=>?_) λh=>?_)))))
 exact Rcx 7 q (FA h)
 refine Rcl 4 q (WL.s ((jN (α:=Bool) (λx:Int=>Value.int .i64 x) (λx:Bool=>AV.d (.b x))).does) (Zw q) q q (Rlc 3 q (Jn1 (λ_=> []) (λf=> [mpO (λx:Int=>Value.int .i64 x) (λx:Bool=>AV.d (.b x)) f]) h (λk h=>?_) λf h=>?_)))
 refine Rcl 5 q (Zq (aa cm t0.text.loops e24 q q Zl) q (Rlc 4 q (Ln2 (λc _=> [(1, .d (.pc (R86 t0))),(3, .mp 0),(14, .l cm t0.text.loops),(15, .n (List.length t0.text.loops:Int)),(16, .n c)]) (λ_ a=> [mpO (λx:Int=>Value.int .i64 x) (λx:Bool=>AV.d (.b x)) a]) (f33_l1 t0 k) h (λ_ _ h=>by rw[f33_l1] at h;cases h) λn c a h=>?_)))
 rw[f33_l1] at h
 refine Rcc 6 q (Ci h q (λh=>?_) λh=>?_)
 refine Rcl 6 q (Ix h e24 dT q Zl q q λp _ h=>(Rl 1 q (Al rD q (sS Z6 xJ Z2 (Rlc 4 q (aB kR kR (Rq 4 q ?_)))))))
 apply WQ.or 6 (t:=23) (d:=29)
 exact q
 intro w
 exact Rq 6 q (WQ.nil ⟨[_,_,_,_,_,_],q,q,q⟩)
 exact Rq 6 q (WQ.nil ⟨[_,_,_,_,_,_],q,q,q⟩)
 refine Rq 1 q ?_
 apply WQ.or 6 (t:=30) (d:=36)
 exact q
 intro y
 exact Rq 3 q (WQ.q (YieldsQ.fn q q q q q (f47_c) Lw) (aR q q q) q q (Rq 2 q (WQ.nil ⟨[_,_,_,_,_,_],q,q,q⟩)))
 exact Rq 6 q (WQ.nil ⟨[_,_,_,_,_,_],q,q,q⟩)
 refine Rq 1 q ?_
 apply WQ.or 5 (t:=37) (d:=42)
 exact q
 intro A
 exact Rq 3 q (WQ.qy (nW (λx:Int=>Value.int .i64 x) (λx:Bool=>AV.d (.b x)) a (z:=false) underlying157 underlying3 (KeyF.int .i64) q q q kR q) q q q (Rq 1 q (WQ.nil ⟨[_,_,_,_,_],q,q,q⟩)))
 exact Rq 5 q (WQ.nil ⟨[_,_,_,_,_],q,q,q⟩)
 refine Rq 1 q ?_
 obtain⟨m,g,h⟩:=ac h
 apply WQ.grp 12 (t:=43) (d:=55) (z:=m)
 exact q
 intro e
 have h:=eD g e
 refine Rq 12 q ?_
 obtain rfl:=Oi h
 exact WQ.nil ⟨[_,_,_,_,_,_,_,_,_,_,_,_],q,q,q⟩
 intro e
 have h:=eE g e
 refine Rq 5 q ?_
 obtain⟨B,j,h⟩:=ac h
 refine WQ.qy (ai e22 q Zl q (aj j) (au cO j) q) q q q (Rq 3 q (WQ.q (YieldsQ.fn q q q q q (f97_c) Lw) (aR q q q) q q (Rq 2 q ?_)))
 obtain rfl:=Oi h
 exact WQ.nil ⟨[_,_,_,_,_,_,_,_,_,_,_,_],q,q,q⟩
 refine Rq 1 q ?_
 apply WQ.or 4 (t:=56) (d:=60)
 exact q
 intro C
 exact Rq 4 q (WQ.nil ⟨[_,_,_,_],q,q,q⟩)
 exact Rq 4 q (WQ.nil ⟨[_,_,_,_],q,q,q⟩)
 refine Rq 1 q ?_
 apply WQ.or 4 (t:=61) (d:=65)
 exact q
 intro E
 exact Rq 4 q (WQ.nil ⟨[_,_,_,_],q,q,q⟩)
 exact Rq 4 q (WQ.nil ⟨[_,_,_,_],q,q,q⟩)
 refine WQ.nil (Rxc 1 q (Ci h q (λh=>?_) λh=>?_))
 exact Rcx 12 q (FA h)
 exact Rcl 6 q (WL.s0 (ke (λx:Int=>Value.int .i64 x) (λx:Bool=>AV.d (.b x)) a (.inr q) underlying157 underlying3 (KeyF.int .i64) q q q q) (Zw q) q (Rlx 7 q (WE.drop 1 (env':=[(1, .d (.pc (R86 t0))),(3, .mp 0),(14, .l cm t0.text.loops),(15, .n (List.length t0.text.loops:Int)),(16, .n (IntKind.i64.wrap (c+1)))]) Sb q (ep (tE _ _ _ _) q) (Nat.zero_le _) (Fn2 h))))
 exact Rcx 4 q (En1 h)
 exact Rcx 6 q (FA h)

theorem f61_c{t0:bg}{a1:Int}{r:Bool}(h:f61 t0 a1=some r):Pu prog 61 [.ag (R86 t0), .i .i64 a1] (.b r):=by
 unfold f61 at h
 refine fI func61 λ_ _=>?_
 refine Rcl 2 q (Bd q q (Zs _) q (Rll 7 q (wF Z4 (f47_c) Lw Z3 (Rl 1 q ?_))))
 obtain⟨d,e,h⟩:=ac h
 refine Gg 19 8 27 d e (λh=>?_) (λh=>?_) ?_
 refine Rl 4 q ?_
 obtain⟨j,a,h⟩:=ac h
 refine Zy (ai e22 q Zl q (aj a) (au cO a) q) q q q (Rl 4 q ?_)
 obtain⟨f,g,h⟩:=ac h
 refine Gg 9 17 26 f g (λh=>?_) (λh=>?_) ?_
 exact On 9 9 h
 refine Rl 4 q ?_
 obtain⟨k,c,h⟩:=ac h
 exact Zy (ai e22 q Zl q (aj c) (au cO c) q) q q q (On 4 9 h)
 exact On 1 11 h
 exact On 19 19 h
 exact Rlx 4 q (FA h)

theorem f34_c{t0:bg}{r:Bool}(h:f34 t0=some r):Pu prog 34 [.ag (R86 t0)] (.b r):=by
 unfold f34 at h
 refine fI func34 λ_ _=>?_
 refine Rcl 2 q (Bd q q (Zs _) q (Rlc 8 q (Jn0 [] [] h (λe h=>?_) λh=>?_)))
 refine Rcl 5 q (Zq (aa cv t0.text.checks e31 q q Zl) q (Rlc 4 q (Ln2 (λc a=> [(1, .d (.pc (R86 t0))),(3, .n c),(8, .l cv t0.text.checks),(9, .n (List.length t0.text.checks:Int)),(10, .n a)]) (λ_ _=> []) (f34_l1 t0 e) h (λ_ _ h=>by rw[f34_l1] at h;cases h) λn c a h=>?_)))
 rw[f34_l1] at h
 refine Rcc 6 q (Ci h q (λh=>?_) λh=>?_)
 refine Rcl 6 q (Ix h e31 ek q Zl q q λf _ h=>(Rl 1 q (Al rC q (sS Z6 xI Z2 (Rll 10 q ?_)))))
 obtain⟨g,j,h⟩:=ac h
 refine Gg 6 18 24 g j (λh=>?_) (λh=>?_) ?_
 exact On 6 6 h
 refine Rl 3 q ?_
 obtain⟨m,k,h⟩:=ac h
 exact WL.fn q q q q (f61_c k) Lw (aR q q q) q q (On 2 6 h)
 refine Rl 1 q ?_
 refine OG 4 25 29 4 4 ?_
 refine Rl 1 q ?_
 refine OG 4 30 34 4 4 ?_
 refine Rlc 2 q (Ci h q (λh=>Rcx 12 q (FA h)) λh=>?_)
 exact Rcx 13 q (WE.drop 0 (env':=[(1, .d (.pc (R86 t0))),(3, .n f.at_),(8, .l cv t0.text.checks),(9, .n (List.length t0.text.checks:Int)),(10, .n (IntKind.i64.wrap (a+1)))]) Sb q q (Nat.zero_le _) (Fn2 h))
 exact Rcx 4 q (En0 h)
 exact Rcx 6 q (FA h)

theorem f98_c(s0:lN)(a:aE→oB)(g1:FuncId)(c e:lD)(g:∀(y0:aE)(r:Bool),a y0=some r→Pu prog g1 (c++ [.ag (R59 y0)]++e) (.b r)){r:Int}(h:f98 s0 a=some r):Pu prog 98 [.sl (List.map E59 s0), .fnc (.func g1) c e] (.i .i64 r):=by
 unfold f98 at h
 refine fI func98 λ_ _=>?_
 refine WC.cast 1 q (gO _ _ _) (Rcc 5 q (Jn0 [] [] h (λj h=>?_) λh=>?_))
 refine Rcl 3 q (Zq (aa E59 s0 e22 q q Zl) q (Rlc 4 q (Ln1 (λf=> [(0, .l E59 s0),(1, .fn (.func g1) (List.map AV.d c) (List.map AV.d e)),(7, .n (List.length s0:Int)),(8, .n f)]) (λ_=> []) (f98_l1 s0 a j) h (λ_ h=>by rw[f98_l1] at h;cases h) λn f h=>?_)))
 rw[f98_l1] at h
 refine Rcc 6 q (Ci h q (λh=>?_) λh=>?_)
 refine Rcl 15 q (Ix h e22 cO q Zl q q λm _ h=>(Rl 1 q ?_))
 obtain⟨p,k,h⟩:=ac h
 refine WL.fn q q q q (g _ _ k) (nL Lw) (Zw q) q q (Rlc 2 q (Ci h q (λh=>?_) λh=>?_))
 exact Rcx 12 q (FA h)
 exact Rcx 7 q (Fn1 h)
 exact Rcx 4 q (En0 h)
 exact Rcx 6 q (FA h)

theorem f35_c(s0:lN)(d:aE→oB)(g1:FuncId)(a c:lD)(e:∀(y0:aE)(r:Bool),d y0=some r→Pu prog g1 (a++ [.ag (R59 y0)]++c) (.b r)){r:Bool}(h:f35 s0 d=some r):Pu prog 35 [.sl (List.map E59 s0), .fnc (.func g1) a c] (.b r):=by
 unfold f35 at h
 refine fI func35 λ_ _=>?_
 refine WC.cast 1 q (gO _ _ _) (Rcl 9 q ?_)
 obtain⟨g,f,h⟩:=ac h
 exact wF Z4 (f98_c _ _ g1 a c e f) ⟨Zl,(Le.fnc (Zs _) (Zs _)),Zt⟩ Z3 (Rlx 5 q (FA h))

theorem f158_c{o0:Int}{r:gD×Bool}(h:f158 o0=some r):Pu prog 158 [.i .u8 o0] (.tu [.ag (yQ r.1), .b r.2]):=by
 unfold f158 at h
 refine fI func158 λ_ _=>?_
 refine Rcl 2 q (Al uZ q (Rll 9 q ?_))
 refine OG 4 6 10 4 4 ?_
 refine Rlc 2 q (Ci h q (λh=>?_) λh=>?_)
 refine Rcl 2 q (Zq (ab p231 uZ q q) q (sS Z6 rQ Z2 (Rlx 5 q ?_)))
 obtain rfl:=Oi h
 exact aW (rs2 q (cX q q a231 rQ q) (bv q)) (bQ ⟨(aK (Zs _)),Zl,Zt⟩)
 refine Rcl 6 q ?_
 obtain⟨c,a,h⟩:=ac h
 refine Zq (xt (R:=yQ) iU (λ_=>q) ar284 (congrArg (Option.map λps=>AV.d (.pc ps)) np) q q a) q (Rl 1 q (sS Z6 rQ Z2 (Rlx 4 q ?_)))
 obtain rfl:=Oi h
 exact aW (rs2 q (cX q q a231 rQ q) (bv q)) (bQ ⟨(aK (Zs _)),Zl,Zt⟩)

theorem f186_c{s0:ByteArray}{r:List ByteArray}(h:f186 s0=some r):Pu prog 186 [.s s0] (.sl (List.map E9 r)):=by
 unfold f186 at h
 refine fI func186 λ_ _=>?_
 refine Rcc 20 q (Jn2 (λc setBits109=> [(0, .d (D.s s0)),(3, .n c),(5, .d (D.i .u8 setBits109))]) (λ_ _=> []) h (λJ h=>?_) λc setBits109 h=>?_)
 refine Rcc 6 q (Ln4 (λt wasSpace116 setBits117 w=> [(0, .d (D.s s0)),(3, .n t),(4, .n wasSpace116),(5, .d (D.i .u8 setBits117)),(6, .n w)]) (λ_ _ _ _=> []) (f186_l1 s0 J) h (λ_ _ _ _ h=>by rw[f186_l1] at h;cases h) λn t wasSpace116 setBits117 w h=>?_)
 rw[f186_l1] at h
 refine Rcl 5 q (Zq (eo underlying9 q q) q (Rlc 3 q (Ci h q (λh=>?_) λh=>?_)))
 refine Rcl 8 q ?_
 obtain⟨a7,K,h⟩:=ac h
 refine Zq (cx underlying9 q q K) q (Rll 7 q (Zq (xv q q q) q (Rll 6 q ?_)))
 obtain⟨a8,L,h⟩:=ac h
 exact Zq (qd (E:=D.i .u8) da rk q q q L) q (Rll 10 q (Zq (y_com q q) q (Zq (qi q q q) q (Rlx 15 q (Fn4 h)))))
 exact Rcx 4 q (En2 h)
 refine Rcc 7 q (Ci h q (λh=>?_) λh=>?_)
 refine Rcc 1 q ?_
 cases h
 refine Rcl 5 q ?_
 replace h:=bu h
 obtain⟨M,h⟩:=h
 refine WL.s ((NewOs.b (NewOs.cast (j8 l286 z9 q (Nat.succ_pos _) q q M) (by exact kY (R:=E9) (z:=(ByteArray.empty:ByteArray)) q))).does) (Zw q) q q (Rlc 18 q (Jn1 (λx=> [(0, .d (D.s s0)),(9, .os 0 0),(10, .n 0),(12, .n x)]) (λ_=> [.os 9 1 0 (eM E9 (List.replicate (Int.toNat c) (ByteArray.empty:ByteArray)))]) h (λN h=>?_) λx h=>?_))
 refine Rcc 1 q (Ln1 (λy=> [(0, .d (D.s s0)),(9, .os 0 0),(10, .n 0),(12, .n y)]) (λ_=> [.os 9 1 0 (eM E9 (List.replicate (Int.toNat c) (ByteArray.empty:ByteArray)))]) (f186_l2 s0 N) h (λ_ h=>by rw[f186_l2] at h;cases h) λn y h=>?_)
 rw[f186_l2] at h
 refine Rcl 5 q (Zq (eo underlying9 q q) q (Rl 2 q ?_))
 obtain⟨O,P,h⟩:=ac h
 refine Gg 7 46 53 O P (λh=>?_) (λh=>?_) ?_
 refine Rl 2 q ?_
 obtain⟨a',Q,h⟩:=ac h
 refine Zy (cx underlying9 q q Q) q q q ?_
 obtain⟨bb,S,h⟩:=ac h
 exact Zy (qd (E:=D.i .u8) da rk q q q S) q q q (On 3 7 h)
 exact On 7 7 h
 exact Rlc 2 q (Ci h q (λh=>Rcx 9 q (Fn1 h)) λh=>Rcx 4 q (En1 h))
 refine Rcc 6 q (Jn3 (λf fieldStart135 _=> [(0, .d (D.s s0)),(9, .os 0 0),(10, .n f),(11, .n fieldStart135)]) (λ_ _ A=> [.os 9 1 0 (eM E9 A)]) h (λT h=>?_) λf fieldStart135 A h=>?_)
 refine Rcc 1 q (Ln4 (λa fieldStart143 B _=> [(0, .d (D.s s0)),(9, .os 0 0),(10, .n a),(11, .n fieldStart143),(12, .n B)]) (λ_ _ _ e=> [.os 9 1 0 (eM E9 e)]) (f186_l3 s0 T) h (λ_ _ _ _ h=>by rw[f186_l3] at h;cases h) λn a fieldStart143 B e h=>?_)
 rw[f186_l3] at h
 refine Rcl 5 q (Zq (eo underlying9 q q) q (Rlc 3 q (Ci h q (λh=>?_) λh=>?_)))
 refine Rcc 2 q ?_
 replace h:=az h
 obtain⟨U,V,h⟩:=h
 refine u9 (λenv' st'=>∃(g:Int),∃(fieldStart151:Int),∃(j:Int),∃(m:List ByteArray),U g fieldStart151 j m=some r∧Sub [(0, .d (D.s s0)),(9, .os 0 0),(10, .n g),(11, .n fieldStart151),(12, .n j)] env'∧SLe st' [.os 9 1 0 (eM E9 m)]) ?_ ?_
 refine Rcl 6 q ?_
 obtain⟨bk,W,h⟩:=ac h
 refine Zq (cx underlying9 q q W) q ?_
 obtain⟨bo,X,h⟩:=ac h
 refine Zq (qd (E:=D.i .u8) da rk q q q X) q (Rlc 4 q (Ci h q (λh=>?_) λh=>?_))
 exact Rcx 10 q (En4 h)
 refine Rcl 9 q ?_
 obtain⟨p,Y,h⟩:=ac h
 refine Zq (xu underlying9 q q q Y) q ?_
 obtain⟨bs,C,h⟩:=ac h
 refine Zq (ma wB q q q C) q (WL.s0 (dY (R:=E9) (k:=1) (i:=a) (fo:=0) p q q q q Zl q q q s9 q (λ_=>q) C q q) (Zw q) q (Rlc 16 q (Jn1 (λF=> [(0, .d (D.s s0)),(9, .os 0 0),(10, .n (IntKind.i64.wrap (a+1))),(12, .n F)]) (λ_=> [.os 9 1 0 (eM E9 (List.set e (Int.toNat a) p))]) h (λZ h=>?_) λF h=>?_)))
 refine Rcc 1 q (Ln1 (λG=> [(0, .d (D.s s0)),(9, .os 0 0),(10, .n (IntKind.i64.wrap (a+1))),(12, .n G)]) (λ_=> [.os 9 1 0 (eM E9 (List.set e (Int.toNat a) p))]) (f186_l4 s0 Z) h (λ_ h=>by rw[f186_l4] at h;cases h) λna G h=>?_)
 rw[f186_l4] at h
 refine Rcl 5 q (Zq (eo underlying9 q q) q (Rl 2 q ?_))
 obtain⟨ad,ag,h⟩:=ac h
 refine Gg 7 84 91 ad ag (λh=>?_) (λh=>?_) ?_
 refine Rl 2 q ?_
 obtain⟨b0,al,h⟩:=ac h
 refine Zy (cx underlying9 q q al) q q q ?_
 obtain⟨b1,a0,h⟩:=ac h
 exact Zy (qd (E:=D.i .u8) da rk q q q a0) q q q (On 3 7 h)
 exact On 7 7 h
 exact Rlc 2 q (Ci h q (λh=>Rcx 9 q (Fn1 h)) λh=>Rcx 4 q (En1 h))
 exact Rcx 5 q (En4 h)
 rintro b2 st1 ⟨g,fieldStart151,j,m,h,hsub,hst⟩
 subst V
 dsimp only at h
 refine WE.sub hsub (WE.weak hst ?_)
 exact Fn4 h
 exact Rcx 4 q (En3 h)
 refine Jn1 (λ_=> [(9, .os 0 0)]) (λH=> [.os 9 1 0 (eM E9 H)]) h (λ_ h=>?_) (λH h=>?_)
 refine Rcl 4 q (Zq (eo underlying9 q q) q (Rlc 3 q (Ci h q (λh=>?_) λh=>?_)))
 refine Rcl 5 q ?_
 obtain⟨a1,a6,h⟩:=ac h
 refine Zq (u0 underlying9 q q a6) q ?_
 obtain⟨b3,I,h⟩:=ac h
 exact Zq (ma wB q q q I) q (WL.s0 (dY (R:=E9) (k:=1) (i:=f) (fo:=0) a1 q q q q Zl q q q s9 q (λ_=>q) I q q) (Zw q) q (Rlx 1 q (En1 h)))
 exact Rcx 1 q (En1 h)
 refine Rcx 7 q ?_
 exact WE.freezeX [9,105,2] [] 0 _ q (ah xp _) ⟨q,q,q,Zt⟩ Zt (FA h)

theorem f189_c{a:Int}:Pu prog 189 [.i .u8 a] (.tu [.i .i64 (f189 a).1, .i .i64 (f189 a).2]):=by
 generalize h:f189 a=r
 unfold f189 at h
 refine fI func189 λ_ _=>?_
 refine Rcc 19 q (Ci h q (λh=>Rcx 9 q (FB h)) λh=>?_)
 refine Rcc 6 q (Ci h q (λh=>Rcx 9 q (FB h)) λh=>?_)
 refine Rcc 6 q (Ci h q (λh=>Rcx 9 q (FB h)) λh=>?_)
 refine Rcc 6 q (Ci h q (λh=>Rcx 9 q (FB h)) λh=>?_)
 refine Rcc 6 q (Ci h q (λh=>Rcx 9 q (FB h)) λh=>?_)
 refine Rcc 6 q (Ci h q (λh=>Rcx 9 q (FB h)) λh=>?_)
 refine Rcc 6 q (Ci h q (λh=>Rcx 9 q (FB h)) λh=>?_)
 refine Rcc 6 q (Ci h q (λh=>Rcx 9 q (FB h)) λh=>?_)
 refine Rcc 6 q (Ci h q (λh=>Rcx 9 q (FB h)) λh=>?_)
 refine Rcc 6 q (Ci h q (λh=>Rcx 9 q (FB h)) λh=>?_)
 refine Rcc 6 q (Ci h q (λh=>Rcx 9 q (FB h)) λh=>?_)
 exact Rcc 6 q (Ci h q (λh=>Rcx 9 q (FB h)) λh=>Rcx 10 q (FB h))

theorem f99_c{x0:aE}{r:Bool}(h:f99 x0=some r):Pu prog 99 [.ag (R59 x0)] (.b r):=by
 unfold f99 at h
 refine fI func99 λ_ _=>?_
 refine Rcl 2 q (Bd q q (Zs _) q (Al z4 q (Rll 7 q ?_)))
 obtain⟨c,R,h⟩:=ac h
 refine wF Z4 (f158_c R) Lw Z3 (Rl 3 q (Al uZ q (sS Z6 rQ Z2 (Rll 8 q ?_))))
 apply WL.or 11 (t:=16) (d:=27)
 exact q
 intro fi
 refine Rl 4 q ?_
 refine AG 6 20 26 6 6 ?_
 exact Rn 1 6
 exact Rn 11 11
 refine Rlc 2 q (Ci h q (λh=>?_) λh=>?_)
 refine Rcl 2 q (sS Z6 s4 Z2 (Rlx 4 q ?_))
 obtain rfl:=Oi h
 exact aW (rs1 q (mf q q a4 q)) Zl
 refine Rcl 9 q ?_
 refine AG 5 31 36 5 5 ?_
 refine Rl 1 q ?_
 refine AG 4 37 41 4 4 ?_
 refine Rlc 2 q (Ci h q (λh=>?_) λh=>?_)
 refine Rcl 2 q (sS Z6 s4 Z2 (Rlx 4 q ?_))
 obtain rfl:=Oi h
 exact aW (rs1 q (mf q q a4 q)) Zl
 refine Rcl 5 q (Al z59 q (sS Z6 s59 Z2 (Rlc 2 q (Jn8 (λ_ _ _ _ _ _ _ _=> [(1, .d (.pc (R59 x0))),(2, .pt 0 0),(5, .pt 2 0)]) (λc21v69 c22v70 c23v71 c24v72 c25v73 c26v74 c50v75 c51v76=> [.row 4 [.d (D.b false)], .row 231 [.d (D.s c.1.name), .d (D.s c.1.fields)], .row 59 [.d (D.i .u8 x0.op), .n c21v69, .n c22v70, .n c23v71, .n c24v72, .n c25v73, .n c26v74], .row 238 [.pt 2 0], .z, .row 231 [.d (D.s c50v75), .d (D.s c51v76)]]) h (λ_ h=>?_) λc21v69 c22v70 c23v71 c24v72 c25v73 c26v74 c50v75 c51v76 h=>?_))))
 refine Rcl 2 q ?_
 obtain⟨S,T,h⟩:=az h
 refine WL.inl (us:=[.pt 2 0]) (λrv st'=>(S ()=some r∧Le rv (.fn (.func 185) [] [.pt 3 0])∧SLe st' [.row 4 [.d (D.b false)], .row 231 [.d (D.s c.1.name), .d (D.s c.1.fields)], .row 59 [.d (D.i .u8 x0.op), .n x0.d, .n x0.a, .n x0.b, .n x0.n, .n x0.m, .n x0.to], .row 238 [.pt 2 0]])) q q q q q ?_ (Zw q) q q ?_
 refine cI func159 λ_ _ _ _=>?_
 exact Rcl 2 q (Bx q q q (Rlx 10 q (aM (rs1 q (bv q)) ⟨h,Zl,⟨Zp,Zp,Zp,Zp,Zt⟩⟩)))
 rintro rv st1 ⟨h,hr,hst⟩
 subst T
 dsimp only at h
 refine WL.cast 43 q hr (WL.weak hst (Zn (Rcc 1 q ?_)))
 obtain⟨K,U,h⟩:=az h
 obtain⟨L,V,h⟩:=az h
 obtain⟨M,W,h⟩:=az h
 obtain⟨N,X,h⟩:=az h
 obtain⟨O,Y,h⟩:=az h
 obtain⟨P,Z,h⟩:=az h
 obtain⟨Q,ad,h⟩:=az h
 refine n5 (us:=[.yl 4, .pt 3 0]) [2] 4 (λf rv st'=>(∃(c21v81:Int),∃(c22v82:Int),∃(c23v83:Int),∃(c24v84:Int),∃(c25v85:Int),∃(c26v86:Int),∃(c50v87:ByteArray),∃(c51v88:ByteArray),∃(c62v89:Int),∃(c63v90:Int),∃(c92v91:Int),∃(c93v92:Int),K c21v81 c22v82 c23v83 c24v84 c25v85 c26v86 c50v87 c51v88 c62v89 c63v90 c92v91 c93v92=some r∧SLe st' [.row 4 [.d (D.b false)], .row 231 [.d (D.s c.1.name), .d (D.s c.1.fields)], .row 59 [.d (D.i .u8 x0.op), .n c21v81, .n c22v82, .n c23v83, .n c24v84, .n c25v85, .n c26v86], .row 238 [.pt 2 0], .lp f [.pt 0 0] .done (some .ret), .row 231 [.d (D.s c50v87), .d (D.s c51v88)], .row 240 [.fn (.func 206) [] [.pt 7 0], .fn (.func 207) [] [.pt 7 0], .n c62v89, .n c63v90], .row 204 [.pt 2 1], .row 240 [.fn (.func 206) [] [.pt 7 0], .fn (.func 207) [] [.pt 7 0], .n 0, .n 0], .row 240 [.fn (.func 206) [] [.pt 7 0], .fn (.func 207) [] [.pt 7 0], .n c92v91, .n c93v92]])∨(∃(c21v94:Int),∃(c22v95:Int),∃(c23v96:Int),∃(c24v97:Int),∃(c25v98:Int),∃(c26v99:Int),∃(c50v100:ByteArray),∃(c51v101:ByteArray),∃(c62v102:Int),∃(c63v103:Int),∃(c92v104:Int),∃(c93v105:Int),L c21v94 c22v95 c23v96 c24v97 c25v98 c26v99 c50v100 c51v101 c62v102 c63v103 c92v104 c93v105=some r∧SLe st' [.row 4 [.d (D.b false)], .row 231 [.d (D.s c.1.name), .d (D.s c.1.fields)], .row 59 [.d (D.i .u8 x0.op), .n c21v94, .n c22v95, .n c23v96, .n c24v97, .n c25v98, .n c26v99], .row 238 [.pt 2 0], .lp f [.pt 0 0] .done (some .ret), .row 231 [.d (D.s c50v100), .d (D.s c51v101)], .row 240 [.fn (.func 206) [] [.pt 7 0], .fn (.func 207) [] [.pt 7 0], .n c62v102, .n c63v103], .row 204 [.pt 2 2], .row 240 [.fn (.func 206) [] [.pt 7 0], .fn (.func 207) [] [.pt 7 0], .n 0, .n 0], .row 240 [.fn (.func 206) [] [.pt 7 0], .fn (.func 207) [] [.pt 7 0], .n c92v104, .n c93v105]])∨(∃(c21v107:Int),∃(c22v108:Int),∃(c23v109:Int),∃(c24v110:Int),∃(c25v111:Int),∃(c26v112:Int),∃(c50v113:ByteArray),∃(c51v114:ByteArray),∃(c62v115:Int),∃(c63v116:Int),∃(c92v117:Int),∃(c93v118:Int),M c21v107 c22v108 c23v109 c24v110 c25v111 c26v112 c50v113 c51v114 c62v115 c63v116 c92v117 c93v118=some r∧SLe st' [.row 4 [.d (D.b false)], .row 231 [.d (D.s c.1.name), .d (D.s c.1.fields)], .row 59 [.d (D.i .u8 x0.op), .n c21v107, .n c22v108, .n c23v109, .n c24v110, .n c25v111, .n c26v112], .row 238 [.pt 2 0], .lp f [.pt 0 0] .done (some .ret), .row 231 [.d (D.s c50v113), .d (D.s c51v114)], .row 240 [.fn (.func 206) [] [.pt 7 0], .fn (.func 207) [] [.pt 7 0], .n c62v115, .n c63v116], .row 204 [.pt 2 3], .row 240 [.fn (.func 206) [] [.pt 7 0], .fn (.func 207) [] [.pt 7 0], .n 0, .n 0], .row 240 [.fn (.func 206) [] [.pt 7 0], .fn (.func 207) [] [.pt 7 0], .n c92v117, .n c93v118]])∨(∃(c21v120:Int),∃(c22v121:Int),∃(c23v122:Int),∃(c24v123:Int),∃(c25v124:Int),∃(c26v125:Int),∃(c50v126:ByteArray),∃(c51v127:ByteArray),∃(c62v128:Int),∃(c63v129:Int),∃(c92v130:Int),∃(c93v131:Int),N c21v120 c22v121 c23v122 c24v123 c25v124 c26v125 c50v126 c51v127 c62v128 c63v129 c92v130 c93v131=some r∧SLe st' [.row 4 [.d (D.b false)], .row 231 [.d (D.s c.1.name), .d (D.s c.1.fields)], .row 59 [.d (D.i .u8 x0.op), .n c21v120, .n c22v121, .n c23v122, .n c24v123, .n c25v124, .n c26v125], .row 238 [.pt 2 0], .lp f [.pt 0 0] .done (some .ret), .row 231 [.d (D.s c50v126), .d (D.s c51v127)], .row 240 [.fn (.func 208) [] [.pt 7 0], .fn (.func 209) [] [.pt 7 0], .n c62v128, .n c63v129], .row 102 [.pt 2 4], .row 240 [.fn (.func 208) [] [.pt 7 0], .fn (.func 209) [] [.pt 7 0], .n 0, .n 0], .row 240 [.fn (.func 208) [] [.pt 7 0], .fn (.func 209) [] [.pt 7 0], .n c92v130, .n c93v131]])∨(∃(c21v133:Int),∃(c22v134:Int),∃(c23v135:Int),∃(c24v136:Int),∃(c25v137:Int),∃(c26v138:Int),∃(c50v139:ByteArray),∃(c51v140:ByteArray),∃(c62v141:Int),∃(c63v142:Int),∃(c92v143:Int),∃(c93v144:Int),O c21v133 c22v134 c23v135 c24v136 c25v137 c26v138 c50v139 c51v140 c62v141 c63v142 c92v143 c93v144=some r∧SLe st' [.row 4 [.d (D.b false)], .row 231 [.d (D.s c.1.name), .d (D.s c.1.fields)], .row 59 [.d (D.i .u8 x0.op), .n c21v133, .n c22v134, .n c23v135, .n c24v136, .n c25v137, .n c26v138], .row 238 [.pt 2 0], .lp f [.pt 0 0] .done (some .ret), .row 231 [.d (D.s c50v139), .d (D.s c51v140)], .row 240 [.fn (.func 208) [] [.pt 7 0], .fn (.func 209) [] [.pt 7 0], .n c62v141, .n c63v142], .row 102 [.pt 2 5], .row 240 [.fn (.func 208) [] [.pt 7 0], .fn (.func 209) [] [.pt 7 0], .n 0, .n 0], .row 240 [.fn (.func 208) [] [.pt 7 0], .fn (.func 209) [] [.pt 7 0], .n c92v143, .n c93v144]])∨(∃(c21v146:Int),∃(c22v147:Int),∃(c23v148:Int),∃(c24v149:Int),∃(c25v150:Int),∃(c26v151:Int),∃(c50v152:ByteArray),∃(c51v153:ByteArray),∃(c62v154:Int),∃(c63v155:Int),∃(c92v156:Int),∃(c93v157:Int),P c21v146 c22v147 c23v148 c24v149 c25v150 c26v151 c50v152 c51v153 c62v154 c63v155 c92v156 c93v157=some r∧SLe st' [.row 4 [.d (D.b false)], .row 231 [.d (D.s c.1.name), .d (D.s c.1.fields)], .row 59 [.d (D.i .u8 x0.op), .n c21v146, .n c22v147, .n c23v148, .n c24v149, .n c25v150, .n c26v151], .row 238 [.pt 2 0], .lp f [.pt 0 0] .done (some .ret), .row 231 [.d (D.s c50v152), .d (D.s c51v153)], .row 240 [.fn (.func 206) [] [.pt 7 0], .fn (.func 207) [] [.pt 7 0], .n c62v154, .n c63v155], .row 204 [.pt 2 6], .row 240 [.fn (.func 206) [] [.pt 7 0], .fn (.func 207) [] [.pt 7 0], .n 0, .n 0], .row 240 [.fn (.func 206) [] [.pt 7 0], .fn (.func 207) [] [.pt 7 0], .n c92v156, .n c93v157]])∨(∃(c21v159:Int),∃(c22v160:Int),∃(c23v161:Int),∃(c24v162:Int),∃(c25v163:Int),∃(c26v164:Int),∃(c50v165:ByteArray),∃(c51v166:ByteArray),Q c21v159 c22v160 c23v161 c24v162 c25v163 c26v164 c50v165 c51v166=some r∧SLe st' [.row 4 [.d (D.b false)], .row 231 [.d (D.s c.1.name), .d (D.s c.1.fields)], .row 59 [.d (D.i .u8 x0.op), .n c21v159, .n c22v160, .n c23v161, .n c24v162, .n c25v163, .n c26v164], .row 238 [.pt 2 0], .lp f [.pt 0 0] .ready none, .row 231 [.d (D.s c50v165), .d (D.s c51v166)]])) q q q q q (λf B=>?_) ?_
 refine cI func185 λ_ _ _ C=>?_
 refine Rcl 6 q ?_
 obtain⟨e,al,h⟩:=ac h
 refine wF Z4 (f158_c al) Lw Z3 (Rl 3 q (Al uZ q (sS Z6 rQ Z2 (Rll 7 q ?_))))
 obtain⟨y,a0,h⟩:=ac h
 refine wF Z4 (f186_c a0) Lw Z3 (Zq (aa E9 y wB q q Zl) q (Rlc 4 q (Ln7 (λA _ _ _ _ _ _=> [(0, .yl 4),(1, .pt 3 0),(18, .l E9 y),(19, .n (List.length y:Int)),(20, .n A)]) (λ_ c21v178 c22v179 c23v180 c24v181 c25v182 c26v183=> [.row 4 [.d (D.b false)], .row 231 [.d (D.s c.1.name), .d (D.s c.1.fields)], .row 59 [.d (D.i .u8 x0.op), .n c21v178, .n c22v179, .n c23v180, .n c24v181, .n c25v182, .n c26v183], .row 238 [.pt 2 0], .lp f [.pt 0 0] .ready none, .row 231 [.d (D.s e.1.name), .d (D.s e.1.fields)]]) (f99_l1 K L M N O P Q e y) h (λ_ _ _ _ _ _ _ h=>by rw[f99_l1] at h;cases h) λn A c21v178 c22v179 c23v180 c24v181 c25v182 c26v183 h=>?_)))
 rw[f99_l1] at h
 refine Rcc 6 q (Ci h q (λh=>?_) λh=>?_)
 refine Rcl 6 q (Ix h wB xp q Zl q q λfo _ h=>(Rll 6 q (Al fy q (Rll 6 q ?_))))
 obtain⟨fr,a1,h⟩:=ac h
 refine Zq (cx underlying9 q q a1) q (Rlc 9 q (Ci h q (λh=>?_) λh=>?_))
 refine Rcl 4 q ?_
 obtain⟨a6,a7,h⟩:=az h
 refine WL.inl (us:=[.pt 2 1]) (λrv st'=>(a6 ()=some r∧Le rv (.ag [.fn (.func 206) [] [.pt 7 0], .fn (.func 207) [] [.pt 7 0], .n 0, .n 0])∧SLe st' [.row 4 [.d (D.b false)], .row 231 [.d (D.s c.1.name), .d (D.s c.1.fields)], .row 59 [.d (D.i .u8 x0.op), .n c21v178, .n c22v179, .n c23v180, .n c24v181, .n c25v182, .n c26v183], .row 238 [.pt 2 0], .lp f [.pt 0 0] .ready none, .row 231 [.d (D.s e.1.name), .d (D.s e.1.fields)], .row 240 [.d (.v .nilFunc), .d (.v .nilFunc), .n 0, .n 0], .row 204 [.pt 2 1], .row 240 [.fn (.func 206) [] [.pt 7 0], .fn (.func 207) [] [.pt 7 0], .n 0, .n 0]])) q q q q q ?_ (Zw q) q q ?_
 refine cI func187 λ_ _ _ _=>?_
 exact Rcl 2 q (Bx q q q (Al fy q (Rll 6 q (Zq (ab rT fy q q) q (sS Z6 eb Z2 (Rlx 3 q (aM (rs1 q (cX q q sx eb q)) ⟨h,Zl,⟨Zp,Zp,Zp,Zp,⟨q,Zs _,q,q⟩,Zp,Zp,Zp,Zp,Zt⟩⟩)))))))
 rintro rv st1 ⟨h,hr,hst⟩
 subst a7
 dsimp only at h
 refine WL.cast 35 q hr (WL.weak hst (sS Z6 eb Z2 (WL.nil (Rxl 5 q ?_))))
 obtain⟨g,a8,h⟩:=ac h
 refine Zq (cx underlying9 q q a8) q (wF Z4 (f189_c) Lw Z3 (Rl 4 q (sS Z6 s2 Z2 (Rl 1 q (sS Z6 s2 Z2 (Rll 6 q ?_))))))
 obtain⟨a',bb,h⟩:=az h
 obtain⟨bk,bo,h⟩:=az h
 refine WL.yield (env0:=[(44, .ag [.fn (.func 206) [] [.pt 7 0], .fn (.func 207) [] [.pt 7 0], .n ((f189 g).1), .n ((f189 g).2)]),(2, .pt 0 0)]) (λrv st'=>(a' ()=some r∧rv= .d (.v (.bool false))∧SLe st' [.row 4 [.d (D.b false)], .row 231 [.d (D.s c.1.name), .d (D.s c.1.fields)], .row 59 [.d (D.i .u8 x0.op), .n c21v178, .n c22v179, .n c23v180, .n c24v181, .n c25v182, .n c26v183], .row 238 [.pt 2 0], .lp f [.pt 0 0] .done (some .ret), .row 231 [.d (D.s e.1.name), .d (D.s e.1.fields)], .row 240 [.fn (.func 206) [] [.pt 7 0], .fn (.func 207) [] [.pt 7 0], .n ((f189 g).1), .n ((f189 g).2)], .row 204 [.pt 2 1], .row 240 [.fn (.func 206) [] [.pt 7 0], .fn (.func 207) [] [.pt 7 0], .n 0, .n 0], .row 240 [.fn (.func 206) [] [.pt 7 0], .fn (.func 207) [] [.pt 7 0], .n ((f189 g).1), .n ((f189 g).2)]])∨(bk ()=some r∧rv= .d (.v (.bool true))∧SLe st' [.row 4 [.d (D.b false)], .row 231 [.d (D.s c.1.name), .d (D.s c.1.fields)], .row 59 [.d (D.i .u8 x0.op), .n 0, .n c22v179, .n c23v180, .n c24v181, .n c25v182, .n c26v183], .row 238 [.pt 2 0], .lp f [.pt 0 0] .ready none, .row 231 [.d (D.s e.1.name), .d (D.s e.1.fields)], .row 240 [.fn (.func 206) [] [.pt 7 0], .fn (.func 207) [] [.pt 7 0], .n ((f189 g).1), .n ((f189 g).2)], .row 204 [.pt 2 1], .row 240 [.fn (.func 206) [] [.pt 7 0], .fn (.func 207) [] [.pt 7 0], .n 0, .n 0], .row 240 [.fn (.func 206) [] [.pt 7 0], .fn (.func 207) [] [.pt 7 0], .n ((f189 g).1), .n ((f189 g).2)]])) B q q q q q q q (λee hn E fv=>?_) (Zw q) q q ?_
 obtain⟨em,eφ,ew,en,er⟩:=ee
 subst hn
 refine Rcl 1 q (Al fy q (sS Z6 eb Z2 (Rlx 1 q (gd E q (Rcl 6 q ?_)))))
 obtain⟨bs,b0,h⟩:=az h
 refine WL.inl (us:=[.pt 7 0]) (λrv st'=>(bs ()=some r∧Le rv (.n c21v178)∧SLe st' [.row 4 [.d (D.b false)], .row 231 [.d (D.s c.1.name), .d (D.s c.1.fields)], .row 59 [.d (D.i .u8 x0.op), .n c21v178, .n c22v179, .n c23v180, .n c24v181, .n c25v182, .n c26v183], .row 238 [.pt 2 0], .lp f [.pt 0 0] .busy none, .row 231 [.d (D.s e.1.name), .d (D.s e.1.fields)], .row 240 [.fn (.func 206) [] [.pt 7 0], .fn (.func 207) [] [.pt 7 0], .n ((f189 g).1), .n ((f189 g).2)], .row 204 [.pt 2 1], .row 240 [.fn (.func 206) [] [.pt 7 0], .fn (.func 207) [] [.pt 7 0], .n 0, .n 0], .row 240 [.fn (.func 206) [] [.pt 7 0], .fn (.func 207) [] [.pt 7 0], .n ((f189 g).1), .n ((f189 g).2)]])) q q q q q ?_ (Zw q) q q ?_
 refine cI func206 λ_ _ _ _=>?_
 exact Rcx 14 q (aM (rs1 q (bv q)) ⟨h,Zl,⟨Zp,Zp,Zp,Zp,⟨q,Zs _,q,q⟩,Zp,Zp,Zp,Zp,Zp,Zt⟩⟩)
 rintro rv st1 ⟨h,hr,hst⟩
 subst b0
 dsimp only at h
 refine WL.cast 47 q hr (WL.weak hst (Rl 1 q (Zn (Rcl 7 q ?_))))
 refine OG 5 52 57 5 5 ?_
 refine Rlc 2 q (Ci h q (λh=>?_) λh=>?_)
 exact Rcl 2 q (sS Z6 s4 Z2 (Rlx 5 q (cH E q (.inl ⟨h,q,⟨Zp,Zp,Zp,Zp,⟨q,Zs _,q,q⟩,Zp,Zp,Zp,Zp,Zp,Zt⟩⟩))))
 refine Rcl 5 q ?_
 obtain⟨b1,b2,h⟩:=az h
 refine WL.inl (us:=[.n 0, .pt 7 0]) (λrv st'=>(b1 ()=some r∧Le rv (.tu [])∧SLe st' [.row 4 [.d (D.b false)], .row 231 [.d (D.s c.1.name), .d (D.s c.1.fields)], .row 59 [.d (D.i .u8 x0.op), .n 0, .n c22v179, .n c23v180, .n c24v181, .n c25v182, .n c26v183], .row 238 [.pt 2 0], .lp f [.pt 0 0] .busy none, .row 231 [.d (D.s e.1.name), .d (D.s e.1.fields)], .row 240 [.fn (.func 206) [] [.pt 7 0], .fn (.func 207) [] [.pt 7 0], .n ((f189 g).1), .n ((f189 g).2)], .row 204 [.pt 2 1], .row 240 [.fn (.func 206) [] [.pt 7 0], .fn (.func 207) [] [.pt 7 0], .n 0, .n 0], .row 240 [.fn (.func 206) [] [.pt 7 0], .fn (.func 207) [] [.pt 7 0], .n ((f189 g).1), .n ((f189 g).2)]])) q q q q q ?_ (Zw q) q q ?_
 refine cI func207 λ_ _ _ _=>?_
 exact Rcl 4 q (sS Z6 s3 Z2 (Rlx 1 q (cJ (aM (eg q) ⟨h,Zl,⟨Zp,Zp,Zp,Zp,⟨q,Zs _,q,q⟩,Zp,Zp,Zp,Zp,Zp,Zt⟩⟩))))
 rintro rv st1 ⟨h,hr,hst⟩
 subst b2
 dsimp only at h
 exact WL.cast 60 q hr (WL.weak hst (WL.nil (Rxx 1 q (eO E q (.inr (⟨h,q,⟨Zp,Zp,Zp,Zp,⟨q,Zs _,q,q⟩,Zp,Zp,Zp,Zp,Zp,Zt⟩⟩))))))
 rintro rv st1 (⟨h,rfl,hst⟩|⟨h,rfl,hst⟩)
 subst bb
 dsimp only at h
 exact WL.weak hst (Rl 1 q (Zn (cG q (Rcx 5 q (aM (eg q) (.inl ⟨c21v178,c22v179,c23v180,c24v181,c25v182,c26v183,e.1.name,e.1.fields,((f189 g).1),((f189 g).2),((f189 g).1),((f189 g).2),h,⟨Zp,Zp,Zp,Zp,⟨q,Zs _,q,q⟩,Zp,Zp,Zp,Zp,Zp,Zt⟩⟩))))))
 subst bo
 dsimp only at h
 exact WL.weak hst (Rl 1 q (Zn (dU q (Rcx 7 q (WE.drop 6 (env':=[(0, .yl 4),(1, .pt 3 0),(18, .l E9 y),(19, .n (List.length y:Int)),(20, .n (IntKind.i64.wrap (A+1)))]) Sb q q (Nat.le_trans (Nat.le_of_eq C) (nbT q)) (Fn7 h))))))
 refine Rcc 6 q (Ci h q (λh=>?_) λh=>?_)
 refine Rcl 4 q ?_
 obtain⟨b3,b4,h⟩:=az h
 refine WL.inl (us:=[.pt 2 2]) (λrv st'=>(b3 ()=some r∧Le rv (.ag [.fn (.func 206) [] [.pt 7 0], .fn (.func 207) [] [.pt 7 0], .n 0, .n 0])∧SLe st' [.row 4 [.d (D.b false)], .row 231 [.d (D.s c.1.name), .d (D.s c.1.fields)], .row 59 [.d (D.i .u8 x0.op), .n c21v178, .n c22v179, .n c23v180, .n c24v181, .n c25v182, .n c26v183], .row 238 [.pt 2 0], .lp f [.pt 0 0] .ready none, .row 231 [.d (D.s e.1.name), .d (D.s e.1.fields)], .row 240 [.d (.v .nilFunc), .d (.v .nilFunc), .n 0, .n 0], .row 204 [.pt 2 2], .row 240 [.fn (.func 206) [] [.pt 7 0], .fn (.func 207) [] [.pt 7 0], .n 0, .n 0]])) q q q q q ?_ (Zw q) q q ?_
 refine cI func187 λ_ _ _ _=>?_
 exact Rcl 2 q (Bx q q q (Al fy q (Rll 6 q (Zq (ab rT fy q q) q (sS Z6 eb Z2 (Rlx 3 q (aM (rs1 q (cX q q sx eb q)) ⟨h,Zl,⟨Zp,Zp,Zp,Zp,⟨q,Zs _,q,q⟩,Zp,Zp,Zp,Zp,Zt⟩⟩)))))))
 rintro rv st1 ⟨h,hr,hst⟩
 subst b4
 dsimp only at h
 refine WL.cast 41 q hr (WL.weak hst (sS Z6 eb Z2 (WL.nil (Rxl 5 q ?_))))
 obtain⟨j,b5,h⟩:=ac h
 refine Zq (cx underlying9 q q b5) q (wF Z4 (f189_c) Lw Z3 (Rl 4 q (sS Z6 s2 Z2 (Rl 1 q (sS Z6 s2 Z2 (Rll 6 q ?_))))))
 obtain⟨b6,b7,h⟩:=az h
 obtain⟨b8,b9,h⟩:=az h
 refine WL.yield (env0:=[(44, .ag [.fn (.func 206) [] [.pt 7 0], .fn (.func 207) [] [.pt 7 0], .n ((f189 j).1), .n ((f189 j).2)]),(2, .pt 0 0)]) (λrv st'=>(b6 ()=some r∧rv= .d (.v (.bool false))∧SLe st' [.row 4 [.d (D.b false)], .row 231 [.d (D.s c.1.name), .d (D.s c.1.fields)], .row 59 [.d (D.i .u8 x0.op), .n c21v178, .n c22v179, .n c23v180, .n c24v181, .n c25v182, .n c26v183], .row 238 [.pt 2 0], .lp f [.pt 0 0] .done (some .ret), .row 231 [.d (D.s e.1.name), .d (D.s e.1.fields)], .row 240 [.fn (.func 206) [] [.pt 7 0], .fn (.func 207) [] [.pt 7 0], .n ((f189 j).1), .n ((f189 j).2)], .row 204 [.pt 2 2], .row 240 [.fn (.func 206) [] [.pt 7 0], .fn (.func 207) [] [.pt 7 0], .n 0, .n 0], .row 240 [.fn (.func 206) [] [.pt 7 0], .fn (.func 207) [] [.pt 7 0], .n ((f189 j).1), .n ((f189 j).2)]])∨(b8 ()=some r∧rv= .d (.v (.bool true))∧SLe st' [.row 4 [.d (D.b false)], .row 231 [.d (D.s c.1.name), .d (D.s c.1.fields)], .row 59 [.d (D.i .u8 x0.op), .n c21v178, .n 0, .n c23v180, .n c24v181, .n c25v182, .n c26v183], .row 238 [.pt 2 0], .lp f [.pt 0 0] .ready none, .row 231 [.d (D.s e.1.name), .d (D.s e.1.fields)], .row 240 [.fn (.func 206) [] [.pt 7 0], .fn (.func 207) [] [.pt 7 0], .n ((f189 j).1), .n ((f189 j).2)], .row 204 [.pt 2 2], .row 240 [.fn (.func 206) [] [.pt 7 0], .fn (.func 207) [] [.pt 7 0], .n 0, .n 0], .row 240 [.fn (.func 206) [] [.pt 7 0], .fn (.func 207) [] [.pt 7 0], .n ((f189 j).1), .n ((f189 j).2)]])) B q q q q q q q (λee hn F fz=>?_) (Zw q) q q ?_
 obtain⟨em,eφ,ew,en,er⟩:=ee
 subst hn
 refine Rcl 1 q (Al fy q (sS Z6 eb Z2 (Rlx 1 q (gd F q (Rcl 6 q ?_)))))
 obtain⟨b',ca,h⟩:=az h
 refine WL.inl (us:=[.pt 7 0]) (λrv st'=>(b' ()=some r∧Le rv (.n c22v179)∧SLe st' [.row 4 [.d (D.b false)], .row 231 [.d (D.s c.1.name), .d (D.s c.1.fields)], .row 59 [.d (D.i .u8 x0.op), .n c21v178, .n c22v179, .n c23v180, .n c24v181, .n c25v182, .n c26v183], .row 238 [.pt 2 0], .lp f [.pt 0 0] .busy none, .row 231 [.d (D.s e.1.name), .d (D.s e.1.fields)], .row 240 [.fn (.func 206) [] [.pt 7 0], .fn (.func 207) [] [.pt 7 0], .n ((f189 j).1), .n ((f189 j).2)], .row 204 [.pt 2 2], .row 240 [.fn (.func 206) [] [.pt 7 0], .fn (.func 207) [] [.pt 7 0], .n 0, .n 0], .row 240 [.fn (.func 206) [] [.pt 7 0], .fn (.func 207) [] [.pt 7 0], .n ((f189 j).1), .n ((f189 j).2)]])) q q q q q ?_ (Zw q) q q ?_
 refine cI func206 λ_ _ _ _=>?_
 exact Rcx 14 q (aM (rs1 q (bv q)) ⟨h,Zl,⟨Zp,Zp,Zp,Zp,⟨q,Zs _,q,q⟩,Zp,Zp,Zp,Zp,Zp,Zt⟩⟩)
 rintro rv st1 ⟨h,hr,hst⟩
 subst ca
 dsimp only at h
 refine WL.cast 47 q hr (WL.weak hst (Rl 1 q (Zn (Rcl 7 q ?_))))
 refine OG 5 52 57 5 5 ?_
 refine Rlc 2 q (Ci h q (λh=>?_) λh=>?_)
 exact Rcl 2 q (sS Z6 s4 Z2 (Rlx 5 q (cH F q (.inl ⟨h,q,⟨Zp,Zp,Zp,Zp,⟨q,Zs _,q,q⟩,Zp,Zp,Zp,Zp,Zp,Zt⟩⟩))))
 refine Rcl 5 q ?_
 obtain⟨cc,cd,h⟩:=az h
 refine WL.inl (us:=[.n 0, .pt 7 0]) (λrv st'=>(cc ()=some r∧Le rv (.tu [])∧SLe st' [.row 4 [.d (D.b false)], .row 231 [.d (D.s c.1.name), .d (D.s c.1.fields)], .row 59 [.d (D.i .u8 x0.op), .n c21v178, .n 0, .n c23v180, .n c24v181, .n c25v182, .n c26v183], .row 238 [.pt 2 0], .lp f [.pt 0 0] .busy none, .row 231 [.d (D.s e.1.name), .d (D.s e.1.fields)], .row 240 [.fn (.func 206) [] [.pt 7 0], .fn (.func 207) [] [.pt 7 0], .n ((f189 j).1), .n ((f189 j).2)], .row 204 [.pt 2 2], .row 240 [.fn (.func 206) [] [.pt 7 0], .fn (.func 207) [] [.pt 7 0], .n 0, .n 0], .row 240 [.fn (.func 206) [] [.pt 7 0], .fn (.func 207) [] [.pt 7 0], .n ((f189 j).1), .n ((f189 j).2)]])) q q q q q ?_ (Zw q) q q ?_
 refine cI func207 λ_ _ _ _=>?_
 exact Rcl 4 q (sS Z6 s3 Z2 (Rlx 1 q (cJ (aM (eg q) ⟨h,Zl,⟨Zp,Zp,Zp,Zp,⟨q,Zs _,q,q⟩,Zp,Zp,Zp,Zp,Zp,Zt⟩⟩))))
 rintro rv st1 ⟨h,hr,hst⟩
 subst cd
 dsimp only at h
 exact WL.cast 60 q hr (WL.weak hst (WL.nil (Rxx 1 q (eO F q (.inr (⟨h,q,⟨Zp,Zp,Zp,Zp,⟨q,Zs _,q,q⟩,Zp,Zp,Zp,Zp,Zp,Zt⟩⟩))))))
 rintro rv st1 (⟨h,rfl,hst⟩|⟨h,rfl,hst⟩)
 subst b7
 dsimp only at h
 exact WL.weak hst (Rl 1 q (Zn (cG q (Rcx 5 q (aM (eg q) (.inr (.inl ⟨c21v178,c22v179,c23v180,c24v181,c25v182,c26v183,e.1.name,e.1.fields,((f189 j).1),((f189 j).2),((f189 j).1),((f189 j).2),h,⟨Zp,Zp,Zp,Zp,⟨q,Zs _,q,q⟩,Zp,Zp,Zp,Zp,Zp,Zt⟩⟩)))))))
 subst b9
 dsimp only at h
 exact WL.weak hst (Rl 1 q (Zn (dU q (Rcx 7 q (WE.drop 6 (env':=[(0, .yl 4),(1, .pt 3 0),(18, .l E9 y),(19, .n (List.length y:Int)),(20, .n (IntKind.i64.wrap (A+1)))]) Sb q q (Nat.le_trans (Nat.le_of_eq C) (nbT q)) (Fn7 h))))))
 refine Rcc 6 q (Ci h q (λh=>?_) λh=>?_)
 refine Rcl 4 q ?_
 obtain⟨ci,cj,h⟩:=az h
 refine WL.inl (us:=[.pt 2 3]) (λrv st'=>(ci ()=some r∧Le rv (.ag [.fn (.func 206) [] [.pt 7 0], .fn (.func 207) [] [.pt 7 0], .n 0, .n 0])∧SLe st' [.row 4 [.d (D.b false)], .row 231 [.d (D.s c.1.name), .d (D.s c.1.fields)], .row 59 [.d (D.i .u8 x0.op), .n c21v178, .n c22v179, .n c23v180, .n c24v181, .n c25v182, .n c26v183], .row 238 [.pt 2 0], .lp f [.pt 0 0] .ready none, .row 231 [.d (D.s e.1.name), .d (D.s e.1.fields)], .row 240 [.d (.v .nilFunc), .d (.v .nilFunc), .n 0, .n 0], .row 204 [.pt 2 3], .row 240 [.fn (.func 206) [] [.pt 7 0], .fn (.func 207) [] [.pt 7 0], .n 0, .n 0]])) q q q q q ?_ (Zw q) q q ?_
 refine cI func187 λ_ _ _ _=>?_
 exact Rcl 2 q (Bx q q q (Al fy q (Rll 6 q (Zq (ab rT fy q q) q (sS Z6 eb Z2 (Rlx 3 q (aM (rs1 q (cX q q sx eb q)) ⟨h,Zl,⟨Zp,Zp,Zp,Zp,⟨q,Zs _,q,q⟩,Zp,Zp,Zp,Zp,Zt⟩⟩)))))))
 rintro rv st1 ⟨h,hr,hst⟩
 subst cj
 dsimp only at h
 refine WL.cast 47 q hr (WL.weak hst (sS Z6 eb Z2 (WL.nil (Rxl 5 q ?_))))
 obtain⟨k,ck,h⟩:=ac h
 refine Zq (cx underlying9 q q ck) q (wF Z4 (f189_c) Lw Z3 (Rl 4 q (sS Z6 s2 Z2 (Rl 1 q (sS Z6 s2 Z2 (Rll 6 q ?_))))))
 obtain⟨cl,cp,h⟩:=az h
 obtain⟨cr,c0,h⟩:=az h
 refine WL.yield (env0:=[(44, .ag [.fn (.func 206) [] [.pt 7 0], .fn (.func 207) [] [.pt 7 0], .n ((f189 k).1), .n ((f189 k).2)]),(2, .pt 0 0)]) (λrv st'=>(cl ()=some r∧rv= .d (.v (.bool false))∧SLe st' [.row 4 [.d (D.b false)], .row 231 [.d (D.s c.1.name), .d (D.s c.1.fields)], .row 59 [.d (D.i .u8 x0.op), .n c21v178, .n c22v179, .n c23v180, .n c24v181, .n c25v182, .n c26v183], .row 238 [.pt 2 0], .lp f [.pt 0 0] .done (some .ret), .row 231 [.d (D.s e.1.name), .d (D.s e.1.fields)], .row 240 [.fn (.func 206) [] [.pt 7 0], .fn (.func 207) [] [.pt 7 0], .n ((f189 k).1), .n ((f189 k).2)], .row 204 [.pt 2 3], .row 240 [.fn (.func 206) [] [.pt 7 0], .fn (.func 207) [] [.pt 7 0], .n 0, .n 0], .row 240 [.fn (.func 206) [] [.pt 7 0], .fn (.func 207) [] [.pt 7 0], .n ((f189 k).1), .n ((f189 k).2)]])∨(cr ()=some r∧rv= .d (.v (.bool true))∧SLe st' [.row 4 [.d (D.b false)], .row 231 [.d (D.s c.1.name), .d (D.s c.1.fields)], .row 59 [.d (D.i .u8 x0.op), .n c21v178, .n c22v179, .n 0, .n c24v181, .n c25v182, .n c26v183], .row 238 [.pt 2 0], .lp f [.pt 0 0] .ready none, .row 231 [.d (D.s e.1.name), .d (D.s e.1.fields)], .row 240 [.fn (.func 206) [] [.pt 7 0], .fn (.func 207) [] [.pt 7 0], .n ((f189 k).1), .n ((f189 k).2)], .row 204 [.pt 2 3], .row 240 [.fn (.func 206) [] [.pt 7 0], .fn (.func 207) [] [.pt 7 0], .n 0, .n 0], .row 240 [.fn (.func 206) [] [.pt 7 0], .fn (.func 207) [] [.pt 7 0], .n ((f189 k).1), .n ((f189 k).2)]])) B q q q q q q q (λee hn G f0=>?_) (Zw q) q q ?_
 obtain⟨em,eφ,ew,en,er⟩:=ee
 subst hn
 refine Rcl 1 q (Al fy q (sS Z6 eb Z2 (Rlx 1 q (gd G q (Rcl 6 q ?_)))))
 obtain⟨c1,c2,h⟩:=az h
 refine WL.inl (us:=[.pt 7 0]) (λrv st'=>(c1 ()=some r∧Le rv (.n c23v180)∧SLe st' [.row 4 [.d (D.b false)], .row 231 [.d (D.s c.1.name), .d (D.s c.1.fields)], .row 59 [.d (D.i .u8 x0.op), .n c21v178, .n c22v179, .n c23v180, .n c24v181, .n c25v182, .n c26v183], .row 238 [.pt 2 0], .lp f [.pt 0 0] .busy none, .row 231 [.d (D.s e.1.name), .d (D.s e.1.fields)], .row 240 [.fn (.func 206) [] [.pt 7 0], .fn (.func 207) [] [.pt 7 0], .n ((f189 k).1), .n ((f189 k).2)], .row 204 [.pt 2 3], .row 240 [.fn (.func 206) [] [.pt 7 0], .fn (.func 207) [] [.pt 7 0], .n 0, .n 0], .row 240 [.fn (.func 206) [] [.pt 7 0], .fn (.func 207) [] [.pt 7 0], .n ((f189 k).1), .n ((f189 k).2)]])) q q q q q ?_ (Zw q) q q ?_
 refine cI func206 λ_ _ _ _=>?_
 exact Rcx 14 q (aM (rs1 q (bv q)) ⟨h,Zl,⟨Zp,Zp,Zp,Zp,⟨q,Zs _,q,q⟩,Zp,Zp,Zp,Zp,Zp,Zt⟩⟩)
 rintro rv st1 ⟨h,hr,hst⟩
 subst c2
 dsimp only at h
 refine WL.cast 47 q hr (WL.weak hst (Rl 1 q (Zn (Rcl 7 q ?_))))
 refine OG 5 52 57 5 5 ?_
 refine Rlc 2 q (Ci h q (λh=>?_) λh=>?_)
 exact Rcl 2 q (sS Z6 s4 Z2 (Rlx 5 q (cH G q (.inl ⟨h,q,⟨Zp,Zp,Zp,Zp,⟨q,Zs _,q,q⟩,Zp,Zp,Zp,Zp,Zp,Zt⟩⟩))))
 refine Rcl 5 q ?_
 obtain⟨c3,c4,h⟩:=az h
 refine WL.inl (us:=[.n 0, .pt 7 0]) (λrv st'=>(c3 ()=some r∧Le rv (.tu [])∧SLe st' [.row 4 [.d (D.b false)], .row 231 [.d (D.s c.1.name), .d (D.s c.1.fields)], .row 59 [.d (D.i .u8 x0.op), .n c21v178, .n c22v179, .n 0, .n c24v181, .n c25v182, .n c26v183], .row 238 [.pt 2 0], .lp f [.pt 0 0] .busy none, .row 231 [.d (D.s e.1.name), .d (D.s e.1.fields)], .row 240 [.fn (.func 206) [] [.pt 7 0], .fn (.func 207) [] [.pt 7 0], .n ((f189 k).1), .n ((f189 k).2)], .row 204 [.pt 2 3], .row 240 [.fn (.func 206) [] [.pt 7 0], .fn (.func 207) [] [.pt 7 0], .n 0, .n 0], .row 240 [.fn (.func 206) [] [.pt 7 0], .fn (.func 207) [] [.pt 7 0], .n ((f189 k).1), .n ((f189 k).2)]])) q q q q q ?_ (Zw q) q q ?_
 refine cI func207 λ_ _ _ _=>?_
 exact Rcl 4 q (sS Z6 s3 Z2 (Rlx 1 q (cJ (aM (eg q) ⟨h,Zl,⟨Zp,Zp,Zp,Zp,⟨q,Zs _,q,q⟩,Zp,Zp,Zp,Zp,Zp,Zt⟩⟩))))
 rintro rv st1 ⟨h,hr,hst⟩
 subst c4
 dsimp only at h
 exact WL.cast 60 q hr (WL.weak hst (WL.nil (Rxx 1 q (eO G q (.inr (⟨h,q,⟨Zp,Zp,Zp,Zp,⟨q,Zs _,q,q⟩,Zp,Zp,Zp,Zp,Zp,Zt⟩⟩))))))
 rintro rv st1 (⟨h,rfl,hst⟩|⟨h,rfl,hst⟩)
 subst cp
 dsimp only at h
 exact WL.weak hst (Rl 1 q (Zn (cG q (Rcx 5 q (aM (eg q) (.inr (.inr (.inl ⟨c21v178,c22v179,c23v180,c24v181,c25v182,c26v183,e.1.name,e.1.fields,((f189 k).1),((f189 k).2),((f189 k).1),((f189 k).2),h,⟨Zp,Zp,Zp,Zp,⟨q,Zs _,q,q⟩,Zp,Zp,Zp,Zp,Zp,Zt⟩⟩))))))))
 subst c0
 dsimp only at h
 exact WL.weak hst (Rl 1 q (Zn (dU q (Rcx 7 q (WE.drop 6 (env':=[(0, .yl 4),(1, .pt 3 0),(18, .l E9 y),(19, .n (List.length y:Int)),(20, .n (IntKind.i64.wrap (A+1)))]) Sb q q (Nat.le_trans (Nat.le_of_eq C) (nbT q)) (Fn7 h))))))
 refine Rcc 6 q (Ci h q (λh=>?_) λh=>?_)
 refine Rcl 4 q ?_
 obtain⟨c5,c6,h⟩:=az h
 refine WL.inl (us:=[.pt 2 4]) (λrv st'=>(c5 ()=some r∧Le rv (.ag [.fn (.func 208) [] [.pt 7 0], .fn (.func 209) [] [.pt 7 0], .n 0, .n 0])∧SLe st' [.row 4 [.d (D.b false)], .row 231 [.d (D.s c.1.name), .d (D.s c.1.fields)], .row 59 [.d (D.i .u8 x0.op), .n c21v178, .n c22v179, .n c23v180, .n c24v181, .n c25v182, .n c26v183], .row 238 [.pt 2 0], .lp f [.pt 0 0] .ready none, .row 231 [.d (D.s e.1.name), .d (D.s e.1.fields)], .row 240 [.d (.v .nilFunc), .d (.v .nilFunc), .n 0, .n 0], .row 102 [.pt 2 4], .row 240 [.fn (.func 208) [] [.pt 7 0], .fn (.func 209) [] [.pt 7 0], .n 0, .n 0]])) q q q q q ?_ (Zw q) q q ?_
 refine cI func188 λ_ _ _ _=>?_
 exact Rcl 2 q (Bx q q q (Al fy q (Rll 6 q (Zq (ab rT fy q q) q (sS Z6 eb Z2 (Rlx 3 q (aM (rs1 q (cX q q sx eb q)) ⟨h,Zl,⟨Zp,Zp,Zp,Zp,⟨q,Zs _,q,q⟩,Zp,Zp,Zp,Zp,Zt⟩⟩)))))))
 rintro rv st1 ⟨h,hr,hst⟩
 subst c6
 dsimp only at h
 refine WL.cast 53 q hr (WL.weak hst (sS Z6 eb Z2 (WL.nil (Rxl 5 q ?_))))
 obtain⟨p,c7,h⟩:=ac h
 refine Zq (cx underlying9 q q c7) q (wF Z4 (f189_c) Lw Z3 (Rl 4 q (sS Z6 s2 Z2 (Rl 1 q (sS Z6 s2 Z2 (Rll 6 q ?_))))))
 obtain⟨c8,c',h⟩:=az h
 obtain⟨dd,df,h⟩:=az h
 refine WL.yield (env0:=[(44, .ag [.fn (.func 208) [] [.pt 7 0], .fn (.func 209) [] [.pt 7 0], .n ((f189 p).1), .n ((f189 p).2)]),(2, .pt 0 0)]) (λrv st'=>(c8 ()=some r∧rv= .d (.v (.bool false))∧SLe st' [.row 4 [.d (D.b false)], .row 231 [.d (D.s c.1.name), .d (D.s c.1.fields)], .row 59 [.d (D.i .u8 x0.op), .n c21v178, .n c22v179, .n c23v180, .n c24v181, .n c25v182, .n c26v183], .row 238 [.pt 2 0], .lp f [.pt 0 0] .done (some .ret), .row 231 [.d (D.s e.1.name), .d (D.s e.1.fields)], .row 240 [.fn (.func 208) [] [.pt 7 0], .fn (.func 209) [] [.pt 7 0], .n ((f189 p).1), .n ((f189 p).2)], .row 102 [.pt 2 4], .row 240 [.fn (.func 208) [] [.pt 7 0], .fn (.func 209) [] [.pt 7 0], .n 0, .n 0], .row 240 [.fn (.func 208) [] [.pt 7 0], .fn (.func 209) [] [.pt 7 0], .n ((f189 p).1), .n ((f189 p).2)]])∨(dd ()=some r∧rv= .d (.v (.bool true))∧SLe st' [.row 4 [.d (D.b false)], .row 231 [.d (D.s c.1.name), .d (D.s c.1.fields)], .row 59 [.d (D.i .u8 x0.op), .n c21v178, .n c22v179, .n c23v180, .n 0, .n c25v182, .n c26v183], .row 238 [.pt 2 0], .lp f [.pt 0 0] .ready none, .row 231 [.d (D.s e.1.name), .d (D.s e.1.fields)], .row 240 [.fn (.func 208) [] [.pt 7 0], .fn (.func 209) [] [.pt 7 0], .n ((f189 p).1), .n ((f189 p).2)], .row 102 [.pt 2 4], .row 240 [.fn (.func 208) [] [.pt 7 0], .fn (.func 209) [] [.pt 7 0], .n 0, .n 0], .row 240 [.fn (.func 208) [] [.pt 7 0], .fn (.func 209) [] [.pt 7 0], .n ((f189 p).1), .n ((f189 p).2)]])) B q q q q q q q (λee hn H f1=>?_) (Zw q) q q ?_
 obtain⟨em,eφ,ew,en,er⟩:=ee
 subst hn
 refine Rcl 1 q (Al fy q (sS Z6 eb Z2 (Rlx 1 q (gd H q (Rcl 6 q ?_)))))
 obtain⟨dk,ds,h⟩:=az h
 refine WL.inl (us:=[.pt 7 0]) (λrv st'=>(dk ()=some r∧Le rv (.n c24v181)∧SLe st' [.row 4 [.d (D.b false)], .row 231 [.d (D.s c.1.name), .d (D.s c.1.fields)], .row 59 [.d (D.i .u8 x0.op), .n c21v178, .n c22v179, .n c23v180, .n c24v181, .n c25v182, .n c26v183], .row 238 [.pt 2 0], .lp f [.pt 0 0] .busy none, .row 231 [.d (D.s e.1.name), .d (D.s e.1.fields)], .row 240 [.fn (.func 208) [] [.pt 7 0], .fn (.func 209) [] [.pt 7 0], .n ((f189 p).1), .n ((f189 p).2)], .row 102 [.pt 2 4], .row 240 [.fn (.func 208) [] [.pt 7 0], .fn (.func 209) [] [.pt 7 0], .n 0, .n 0], .row 240 [.fn (.func 208) [] [.pt 7 0], .fn (.func 209) [] [.pt 7 0], .n ((f189 p).1), .n ((f189 p).2)]])) q q q q q ?_ (Zw q) q q ?_
 refine cI func208 λ_ _ _ _=>?_
 exact Rcx 14 q (aM (rs1 q (bv q)) ⟨h,Zl,⟨Zp,Zp,Zp,Zp,⟨q,Zs _,q,q⟩,Zp,Zp,Zp,Zp,Zp,Zt⟩⟩)
 rintro rv st1 ⟨h,hr,hst⟩
 subst ds
 dsimp only at h
 refine WL.cast 47 q hr (WL.weak hst (Rl 1 q (Zn (Rcl 7 q ?_))))
 refine OG 5 52 57 5 5 ?_
 refine Rlc 2 q (Ci h q (λh=>?_) λh=>?_)
 exact Rcl 2 q (sS Z6 s4 Z2 (Rlx 5 q (cH H q (.inl ⟨h,q,⟨Zp,Zp,Zp,Zp,⟨q,Zs _,q,q⟩,Zp,Zp,Zp,Zp,Zp,Zt⟩⟩))))
 refine Rcl 5 q ?_
 obtain⟨dS,d0,h⟩:=az h
 refine WL.inl (us:=[.n 0, .pt 7 0]) (λrv st'=>(dS ()=some r∧Le rv (.tu [])∧SLe st' [.row 4 [.d (D.b false)], .row 231 [.d (D.s c.1.name), .d (D.s c.1.fields)], .row 59 [.d (D.i .u8 x0.op), .n c21v178, .n c22v179, .n c23v180, .n 0, .n c25v182, .n c26v183], .row 238 [.pt 2 0], .lp f [.pt 0 0] .busy none, .row 231 [.d (D.s e.1.name), .d (D.s e.1.fields)], .row 240 [.fn (.func 208) [] [.pt 7 0], .fn (.func 209) [] [.pt 7 0], .n ((f189 p).1), .n ((f189 p).2)], .row 102 [.pt 2 4], .row 240 [.fn (.func 208) [] [.pt 7 0], .fn (.func 209) [] [.pt 7 0], .n 0, .n 0], .row 240 [.fn (.func 208) [] [.pt 7 0], .fn (.func 209) [] [.pt 7 0], .n ((f189 p).1), .n ((f189 p).2)]])) q q q q q ?_ (Zw q) q q ?_
 refine cI func209 λ_ _ _ _=>?_
 exact Rcl 4 q (sS Z6 s2 Z2 (Rlx 1 q (cJ (aM (eg q) ⟨h,Zl,⟨Zp,Zp,Zp,Zp,⟨q,Zs _,q,q⟩,Zp,Zp,Zp,Zp,Zp,Zt⟩⟩))))
 rintro rv st1 ⟨h,hr,hst⟩
 subst d0
 dsimp only at h
 exact WL.cast 60 q hr (WL.weak hst (WL.nil (Rxx 1 q (eO H q (.inr (⟨h,q,⟨Zp,Zp,Zp,Zp,⟨q,Zs _,q,q⟩,Zp,Zp,Zp,Zp,Zp,Zt⟩⟩))))))
 rintro rv st1 (⟨h,rfl,hst⟩|⟨h,rfl,hst⟩)
 subst c'
 dsimp only at h
 exact WL.weak hst (Rl 1 q (Zn (cG q (Rcx 5 q (aM (eg q) (.inr (.inr (.inr (.inl ⟨c21v178,c22v179,c23v180,c24v181,c25v182,c26v183,e.1.name,e.1.fields,((f189 p).1),((f189 p).2),((f189 p).1),((f189 p).2),h,⟨Zp,Zp,Zp,Zp,⟨q,Zs _,q,q⟩,Zp,Zp,Zp,Zp,Zp,Zt⟩⟩)))))))))
 subst df
 dsimp only at h
 exact WL.weak hst (Rl 1 q (Zn (dU q (Rcx 7 q (WE.drop 6 (env':=[(0, .yl 4),(1, .pt 3 0),(18, .l E9 y),(19, .n (List.length y:Int)),(20, .n (IntKind.i64.wrap (A+1)))]) Sb q q (Nat.le_trans (Nat.le_of_eq C) (nbT q)) (Fn7 h))))))
 refine Rcc 6 q (Ci h q (λh=>?_) λh=>?_)
 refine Rcl 4 q ?_
 obtain⟨d1,d2,h⟩:=az h
 refine WL.inl (us:=[.pt 2 5]) (λrv st'=>(d1 ()=some r∧Le rv (.ag [.fn (.func 208) [] [.pt 7 0], .fn (.func 209) [] [.pt 7 0], .n 0, .n 0])∧SLe st' [.row 4 [.d (D.b false)], .row 231 [.d (D.s c.1.name), .d (D.s c.1.fields)], .row 59 [.d (D.i .u8 x0.op), .n c21v178, .n c22v179, .n c23v180, .n c24v181, .n c25v182, .n c26v183], .row 238 [.pt 2 0], .lp f [.pt 0 0] .ready none, .row 231 [.d (D.s e.1.name), .d (D.s e.1.fields)], .row 240 [.d (.v .nilFunc), .d (.v .nilFunc), .n 0, .n 0], .row 102 [.pt 2 5], .row 240 [.fn (.func 208) [] [.pt 7 0], .fn (.func 209) [] [.pt 7 0], .n 0, .n 0]])) q q q q q ?_ (Zw q) q q ?_
 refine cI func188 λ_ _ _ _=>?_
 exact Rcl 2 q (Bx q q q (Al fy q (Rll 6 q (Zq (ab rT fy q q) q (sS Z6 eb Z2 (Rlx 3 q (aM (rs1 q (cX q q sx eb q)) ⟨h,Zl,⟨Zp,Zp,Zp,Zp,⟨q,Zs _,q,q⟩,Zp,Zp,Zp,Zp,Zt⟩⟩)))))))
 rintro rv st1 ⟨h,hr,hst⟩
 subst d2
 dsimp only at h
 refine WL.cast 59 q hr (WL.weak hst (sS Z6 eb Z2 (WL.nil (Rxl 5 q ?_))))
 obtain⟨w,d',h⟩:=ac h
 refine Zq (cx underlying9 q q d') q (wF Z4 (f189_c) Lw Z3 (Rl 4 q (sS Z6 s2 Z2 (Rl 1 q (sS Z6 s2 Z2 (Rll 6 q ?_))))))
 obtain⟨ea,ec,h⟩:=az h
 obtain⟨ei,el,h⟩:=az h
 refine WL.yield (env0:=[(44, .ag [.fn (.func 208) [] [.pt 7 0], .fn (.func 209) [] [.pt 7 0], .n ((f189 w).1), .n ((f189 w).2)]),(2, .pt 0 0)]) (λrv st'=>(ea ()=some r∧rv= .d (.v (.bool false))∧SLe st' [.row 4 [.d (D.b false)], .row 231 [.d (D.s c.1.name), .d (D.s c.1.fields)], .row 59 [.d (D.i .u8 x0.op), .n c21v178, .n c22v179, .n c23v180, .n c24v181, .n c25v182, .n c26v183], .row 238 [.pt 2 0], .lp f [.pt 0 0] .done (some .ret), .row 231 [.d (D.s e.1.name), .d (D.s e.1.fields)], .row 240 [.fn (.func 208) [] [.pt 7 0], .fn (.func 209) [] [.pt 7 0], .n ((f189 w).1), .n ((f189 w).2)], .row 102 [.pt 2 5], .row 240 [.fn (.func 208) [] [.pt 7 0], .fn (.func 209) [] [.pt 7 0], .n 0, .n 0], .row 240 [.fn (.func 208) [] [.pt 7 0], .fn (.func 209) [] [.pt 7 0], .n ((f189 w).1), .n ((f189 w).2)]])∨(ei ()=some r∧rv= .d (.v (.bool true))∧SLe st' [.row 4 [.d (D.b false)], .row 231 [.d (D.s c.1.name), .d (D.s c.1.fields)], .row 59 [.d (D.i .u8 x0.op), .n c21v178, .n c22v179, .n c23v180, .n c24v181, .n 0, .n c26v183], .row 238 [.pt 2 0], .lp f [.pt 0 0] .ready none, .row 231 [.d (D.s e.1.name), .d (D.s e.1.fields)], .row 240 [.fn (.func 208) [] [.pt 7 0], .fn (.func 209) [] [.pt 7 0], .n ((f189 w).1), .n ((f189 w).2)], .row 102 [.pt 2 5], .row 240 [.fn (.func 208) [] [.pt 7 0], .fn (.func 209) [] [.pt 7 0], .n 0, .n 0], .row 240 [.fn (.func 208) [] [.pt 7 0], .fn (.func 209) [] [.pt 7 0], .n ((f189 w).1), .n ((f189 w).2)]])) B q q q q q q q (λee hn I f2=>?_) (Zw q) q q ?_
 obtain⟨em,eφ,ew,en,er⟩:=ee
 subst hn
 refine Rcl 1 q (Al fy q (sS Z6 eb Z2 (Rlx 1 q (gd I q (Rcl 6 q ?_)))))
 obtain⟨eq,es,h⟩:=az h
 refine WL.inl (us:=[.pt 7 0]) (λrv st'=>(eq ()=some r∧Le rv (.n c25v182)∧SLe st' [.row 4 [.d (D.b false)], .row 231 [.d (D.s c.1.name), .d (D.s c.1.fields)], .row 59 [.d (D.i .u8 x0.op), .n c21v178, .n c22v179, .n c23v180, .n c24v181, .n c25v182, .n c26v183], .row 238 [.pt 2 0], .lp f [.pt 0 0] .busy none, .row 231 [.d (D.s e.1.name), .d (D.s e.1.fields)], .row 240 [.fn (.func 208) [] [.pt 7 0], .fn (.func 209) [] [.pt 7 0], .n ((f189 w).1), .n ((f189 w).2)], .row 102 [.pt 2 5], .row 240 [.fn (.func 208) [] [.pt 7 0], .fn (.func 209) [] [.pt 7 0], .n 0, .n 0], .row 240 [.fn (.func 208) [] [.pt 7 0], .fn (.func 209) [] [.pt 7 0], .n ((f189 w).1), .n ((f189 w).2)]])) q q q q q ?_ (Zw q) q q ?_
 refine cI func208 λ_ _ _ _=>?_
 exact Rcx 14 q (aM (rs1 q (bv q)) ⟨h,Zl,⟨Zp,Zp,Zp,Zp,⟨q,Zs _,q,q⟩,Zp,Zp,Zp,Zp,Zp,Zt⟩⟩)
 rintro rv st1 ⟨h,hr,hst⟩
 subst es
 dsimp only at h
 refine WL.cast 47 q hr (WL.weak hst (Rl 1 q (Zn (Rcl 7 q ?_))))
 refine OG 5 52 57 5 5 ?_
 refine Rlc 2 q (Ci h q (λh=>?_) λh=>?_)
 exact Rcl 2 q (sS Z6 s4 Z2 (Rlx 5 q (cH I q (.inl ⟨h,q,⟨Zp,Zp,Zp,Zp,⟨q,Zs _,q,q⟩,Zp,Zp,Zp,Zp,Zp,Zt⟩⟩))))
 refine Rcl 5 q ?_
 obtain⟨et,ex,h⟩:=az h
 refine WL.inl (us:=[.n 0, .pt 7 0]) (λrv st'=>(et ()=some r∧Le rv (.tu [])∧SLe st' [.row 4 [.d (D.b false)], .row 231 [.d (D.s c.1.name), .d (D.s c.1.fields)], .row 59 [.d (D.i .u8 x0.op), .n c21v178, .n c22v179, .n c23v180, .n c24v181, .n 0, .n c26v183], .row 238 [.pt 2 0], .lp f [.pt 0 0] .busy none, .row 231 [.d (D.s e.1.name), .d (D.s e.1.fields)], .row 240 [.fn (.func 208) [] [.pt 7 0], .fn (.func 209) [] [.pt 7 0], .n ((f189 w).1), .n ((f189 w).2)], .row 102 [.pt 2 5], .row 240 [.fn (.func 208) [] [.pt 7 0], .fn (.func 209) [] [.pt 7 0], .n 0, .n 0], .row 240 [.fn (.func 208) [] [.pt 7 0], .fn (.func 209) [] [.pt 7 0], .n ((f189 w).1), .n ((f189 w).2)]])) q q q q q ?_ (Zw q) q q ?_
 refine cI func209 λ_ _ _ _=>?_
 exact Rcl 4 q (sS Z6 s2 Z2 (Rlx 1 q (cJ (aM (eg q) ⟨h,Zl,⟨Zp,Zp,Zp,Zp,⟨q,Zs _,q,q⟩,Zp,Zp,Zp,Zp,Zp,Zt⟩⟩))))
 rintro rv st1 ⟨h,hr,hst⟩
 subst ex
 dsimp only at h
 exact WL.cast 60 q hr (WL.weak hst (WL.nil (Rxx 1 q (eO I q (.inr (⟨h,q,⟨Zp,Zp,Zp,Zp,⟨q,Zs _,q,q⟩,Zp,Zp,Zp,Zp,Zp,Zt⟩⟩))))))
 rintro rv st1 (⟨h,rfl,hst⟩|⟨h,rfl,hst⟩)
 subst ec
 dsimp only at h
 exact WL.weak hst (Rl 1 q (Zn (cG q (Rcx 5 q (aM (eg q) (.inr (.inr (.inr (.inr (.inl ⟨c21v178,c22v179,c23v180,c24v181,c25v182,c26v183,e.1.name,e.1.fields,((f189 w).1),((f189 w).2),((f189 w).1),((f189 w).2),h,⟨Zp,Zp,Zp,Zp,⟨q,Zs _,q,q⟩,Zp,Zp,Zp,Zp,Zp,Zt⟩⟩))))))))))
 subst el
 dsimp only at h
 exact WL.weak hst (Rl 1 q (Zn (dU q (Rcx 7 q (WE.drop 6 (env':=[(0, .yl 4),(1, .pt 3 0),(18, .l E9 y),(19, .n (List.length y:Int)),(20, .n (IntKind.i64.wrap (A+1)))]) Sb q q (Nat.le_trans (Nat.le_of_eq C) (nbT q)) (Fn7 h))))))
 refine Rcl 4 q ?_
 obtain⟨ey,e0,h⟩:=az h
 refine WL.inl (us:=[.pt 2 6]) (λrv st'=>(ey ()=some r∧Le rv (.ag [.fn (.func 206) [] [.pt 7 0], .fn (.func 207) [] [.pt 7 0], .n 0, .n 0])∧SLe st' [.row 4 [.d (D.b false)], .row 231 [.d (D.s c.1.name), .d (D.s c.1.fields)], .row 59 [.d (D.i .u8 x0.op), .n c21v178, .n c22v179, .n c23v180, .n c24v181, .n c25v182, .n c26v183], .row 238 [.pt 2 0], .lp f [.pt 0 0] .ready none, .row 231 [.d (D.s e.1.name), .d (D.s e.1.fields)], .row 240 [.d (.v .nilFunc), .d (.v .nilFunc), .n 0, .n 0], .row 204 [.pt 2 6], .row 240 [.fn (.func 206) [] [.pt 7 0], .fn (.func 207) [] [.pt 7 0], .n 0, .n 0]])) q q q q q ?_ (Zw q) q q ?_
 refine cI func187 λ_ _ _ _=>?_
 exact Rcl 2 q (Bx q q q (Al fy q (Rll 6 q (Zq (ab rT fy q q) q (sS Z6 eb Z2 (Rlx 3 q (aM (rs1 q (cX q q sx eb q)) ⟨h,Zl,⟨Zp,Zp,Zp,Zp,⟨q,Zs _,q,q⟩,Zp,Zp,Zp,Zp,Zt⟩⟩)))))))
 rintro rv st1 ⟨h,hr,hst⟩
 subst e0
 dsimp only at h
 refine WL.cast 29 q hr (WL.weak hst (sS Z6 eb Z2 (WL.nil (Rxl 5 q ?_))))
 obtain⟨x,e1,h⟩:=ac h
 refine Zq (cx underlying9 q q e1) q (wF Z4 (f189_c) Lw Z3 (Rl 4 q (sS Z6 s2 Z2 (Rl 1 q (sS Z6 s2 Z2 (Rll 6 q ?_))))))
 obtain⟨e2,e3,h⟩:=az h
 obtain⟨e4,e5,h⟩:=az h
 refine WL.yield (env0:=[(44, .ag [.fn (.func 206) [] [.pt 7 0], .fn (.func 207) [] [.pt 7 0], .n ((f189 x).1), .n ((f189 x).2)]),(2, .pt 0 0)]) (λrv st'=>(e2 ()=some r∧rv= .d (.v (.bool false))∧SLe st' [.row 4 [.d (D.b false)], .row 231 [.d (D.s c.1.name), .d (D.s c.1.fields)], .row 59 [.d (D.i .u8 x0.op), .n c21v178, .n c22v179, .n c23v180, .n c24v181, .n c25v182, .n c26v183], .row 238 [.pt 2 0], .lp f [.pt 0 0] .done (some .ret), .row 231 [.d (D.s e.1.name), .d (D.s e.1.fields)], .row 240 [.fn (.func 206) [] [.pt 7 0], .fn (.func 207) [] [.pt 7 0], .n ((f189 x).1), .n ((f189 x).2)], .row 204 [.pt 2 6], .row 240 [.fn (.func 206) [] [.pt 7 0], .fn (.func 207) [] [.pt 7 0], .n 0, .n 0], .row 240 [.fn (.func 206) [] [.pt 7 0], .fn (.func 207) [] [.pt 7 0], .n ((f189 x).1), .n ((f189 x).2)]])∨(e4 ()=some r∧rv= .d (.v (.bool true))∧SLe st' [.row 4 [.d (D.b false)], .row 231 [.d (D.s c.1.name), .d (D.s c.1.fields)], .row 59 [.d (D.i .u8 x0.op), .n c21v178, .n c22v179, .n c23v180, .n c24v181, .n c25v182, .n 0], .row 238 [.pt 2 0], .lp f [.pt 0 0] .ready none, .row 231 [.d (D.s e.1.name), .d (D.s e.1.fields)], .row 240 [.fn (.func 206) [] [.pt 7 0], .fn (.func 207) [] [.pt 7 0], .n ((f189 x).1), .n ((f189 x).2)], .row 204 [.pt 2 6], .row 240 [.fn (.func 206) [] [.pt 7 0], .fn (.func 207) [] [.pt 7 0], .n 0, .n 0], .row 240 [.fn (.func 206) [] [.pt 7 0], .fn (.func 207) [] [.pt 7 0], .n ((f189 x).1), .n ((f189 x).2)]])) B q q q q q q q (λee hn J f3=>?_) (Zw q) q q ?_
 obtain⟨em,eφ,ew,en,er⟩:=ee
 subst hn
 refine Rcl 1 q (Al fy q (sS Z6 eb Z2 (Rlx 1 q (gd J q (Rcl 6 q ?_)))))
 obtain⟨e6,e7,h⟩:=az h
 refine WL.inl (us:=[.pt 7 0]) (λrv st'=>(e6 ()=some r∧Le rv (.n c26v183)∧SLe st' [.row 4 [.d (D.b false)], .row 231 [.d (D.s c.1.name), .d (D.s c.1.fields)], .row 59 [.d (D.i .u8 x0.op), .n c21v178, .n c22v179, .n c23v180, .n c24v181, .n c25v182, .n c26v183], .row 238 [.pt 2 0], .lp f [.pt 0 0] .busy none, .row 231 [.d (D.s e.1.name), .d (D.s e.1.fields)], .row 240 [.fn (.func 206) [] [.pt 7 0], .fn (.func 207) [] [.pt 7 0], .n ((f189 x).1), .n ((f189 x).2)], .row 204 [.pt 2 6], .row 240 [.fn (.func 206) [] [.pt 7 0], .fn (.func 207) [] [.pt 7 0], .n 0, .n 0], .row 240 [.fn (.func 206) [] [.pt 7 0], .fn (.func 207) [] [.pt 7 0], .n ((f189 x).1), .n ((f189 x).2)]])) q q q q q ?_ (Zw q) q q ?_
 refine cI func206 λ_ _ _ _=>?_
 exact Rcx 14 q (aM (rs1 q (bv q)) ⟨h,Zl,⟨Zp,Zp,Zp,Zp,⟨q,Zs _,q,q⟩,Zp,Zp,Zp,Zp,Zp,Zt⟩⟩)
 rintro rv st1 ⟨h,hr,hst⟩
 subst e7
 dsimp only at h
 refine WL.cast 47 q hr (WL.weak hst (Rl 1 q (Zn (Rcl 7 q ?_))))
 refine OG 5 52 57 5 5 ?_
 refine Rlc 2 q (Ci h q (λh=>?_) λh=>?_)
 exact Rcl 2 q (sS Z6 s4 Z2 (Rlx 5 q (cH J q (.inl ⟨h,q,⟨Zp,Zp,Zp,Zp,⟨q,Zs _,q,q⟩,Zp,Zp,Zp,Zp,Zp,Zt⟩⟩))))
 refine Rcl 5 q ?_
 obtain⟨e8,e',h⟩:=az h
 refine WL.inl (us:=[.n 0, .pt 7 0]) (λrv st'=>(e8 ()=some r∧Le rv (.tu [])∧SLe st' [.row 4 [.d (D.b false)], .row 231 [.d (D.s c.1.name), .d (D.s c.1.fields)], .row 59 [.d (D.i .u8 x0.op), .n c21v178, .n c22v179, .n c23v180, .n c24v181, .n c25v182, .n 0], .row 238 [.pt 2 0], .lp f [.pt 0 0] .busy none, .row 231 [.d (D.s e.1.name), .d (D.s e.1.fields)], .row 240 [.fn (.func 206) [] [.pt 7 0], .fn (.func 207) [] [.pt 7 0], .n ((f189 x).1), .n ((f189 x).2)], .row 204 [.pt 2 6], .row 240 [.fn (.func 206) [] [.pt 7 0], .fn (.func 207) [] [.pt 7 0], .n 0, .n 0], .row 240 [.fn (.func 206) [] [.pt 7 0], .fn (.func 207) [] [.pt 7 0], .n ((f189 x).1), .n ((f189 x).2)]])) q q q q q ?_ (Zw q) q q ?_
 refine cI func207 λ_ _ _ _=>?_
 exact Rcl 4 q (sS Z6 s3 Z2 (Rlx 1 q (cJ (aM (eg q) ⟨h,Zl,⟨Zp,Zp,Zp,Zp,⟨q,Zs _,q,q⟩,Zp,Zp,Zp,Zp,Zp,Zt⟩⟩))))
 rintro rv st1 ⟨h,hr,hst⟩
 subst e'
 dsimp only at h
 exact WL.cast 60 q hr (WL.weak hst (WL.nil (Rxx 1 q (eO J q (.inr (⟨h,q,⟨Zp,Zp,Zp,Zp,⟨q,Zs _,q,q⟩,Zp,Zp,Zp,Zp,Zp,Zt⟩⟩))))))
 rintro rv st1 (⟨h,rfl,hst⟩|⟨h,rfl,hst⟩)
 subst e3
 dsimp only at h
 exact WL.weak hst (Rl 1 q (Zn (cG q (Rcx 5 q (aM (eg q) (.inr (.inr (.inr (.inr (.inr (.inl ⟨c21v178,c22v179,c23v180,c24v181,c25v182,c26v183,e.1.name,e.1.fields,((f189 x).1),((f189 x).2),((f189 x).1),((f189 x).2),h,⟨Zp,Zp,Zp,Zp,⟨q,Zs _,q,q⟩,Zp,Zp,Zp,Zp,Zp,Zt⟩⟩)))))))))))
 subst e5
 dsimp only at h
 exact WL.weak hst (Rl 1 q (Zn (dU q (Rcx 7 q (WE.drop 6 (env':=[(0, .yl 4),(1, .pt 3 0),(18, .l E9 y),(19, .n (List.length y:Int)),(20, .n (IntKind.i64.wrap (A+1)))]) Sb q q (Nat.le_trans (Nat.le_of_eq C) (nbT q)) (Fn7 h))))))
 exact Rcx 4 q (cJ (aM (eg q) (.inr (.inr (.inr (.inr (.inr (.inr (⟨c21v178,c22v179,c23v180,c24v181,c25v182,c26v183,e.1.name,e.1.fields,h,⟨Zp,Zp,Zp,Zp,⟨q,Zs _,q,q⟩,Zp,Zt⟩⟩)))))))))
 rintro f rv st1 (⟨c21v81,c22v82,c23v83,c24v84,c25v85,c26v86,c50v87,c51v88,c62v89,c63v90,c92v91,c93v92,h,hst⟩|⟨c21v94,c22v95,c23v96,c24v97,c25v98,c26v99,c50v100,c51v101,c62v102,c63v103,c92v104,c93v105,h,hst⟩|⟨c21v107,c22v108,c23v109,c24v110,c25v111,c26v112,c50v113,c51v114,c62v115,c63v116,c92v117,c93v118,h,hst⟩|⟨c21v120,c22v121,c23v122,c24v123,c25v124,c26v125,c50v126,c51v127,c62v128,c63v129,c92v130,c93v131,h,hst⟩|⟨c21v133,c22v134,c23v135,c24v136,c25v137,c26v138,c50v139,c51v140,c62v141,c63v142,c92v143,c93v144,h,hst⟩|⟨c21v146,c22v147,c23v148,c24v149,c25v150,c26v151,c50v152,c51v153,c62v154,c63v155,c92v156,c93v157,h,hst⟩|⟨c21v159,c22v160,c23v161,c24v162,c25v163,c26v164,c50v165,c51v166,h,hst⟩)
 subst U
 dsimp only at h
 refine⟨_,_,_,_,_,hst,q,(by intro h;cases h),?_⟩
 refine Rxx 2 q ?_
 obtain rfl:=Oi h
 exact aW (rs1 q (mf q q a4 q)) Zl
 subst V
 dsimp only at h
 refine⟨_,_,_,_,_,hst,q,(by intro h;cases h),?_⟩
 refine Rxx 2 q ?_
 obtain rfl:=Oi h
 exact aW (rs1 q (mf q q a4 q)) Zl
 subst W
 dsimp only at h
 refine⟨_,_,_,_,_,hst,q,(by intro h;cases h),?_⟩
 refine Rxx 2 q ?_
 obtain rfl:=Oi h
 exact aW (rs1 q (mf q q a4 q)) Zl
 subst X
 dsimp only at h
 refine⟨_,_,_,_,_,hst,q,(by intro h;cases h),?_⟩
 refine Rxx 2 q ?_
 obtain rfl:=Oi h
 exact aW (rs1 q (mf q q a4 q)) Zl
 subst Y
 dsimp only at h
 refine⟨_,_,_,_,_,hst,q,(by intro h;cases h),?_⟩
 refine Rxx 2 q ?_
 obtain rfl:=Oi h
 exact aW (rs1 q (mf q q a4 q)) Zl
 subst Z
 dsimp only at h
 refine⟨_,_,_,_,_,hst,q,(by intro h;cases h),?_⟩
 refine Rxx 2 q ?_
 obtain rfl:=Oi h
 exact aW (rs1 q (mf q q a4 q)) Zl
 subst ad
 dsimp only at h
 refine⟨_,_,_,_,_,hst,q,(by intro h;cases h),?_⟩
 exact Rxx 1 q (cF ⟨_,_,_,_,_,_,_,_,h,Sb,Tv⟩)
 refine Rcl 5 q (Zq (ab p59 z59 q q) q (Zq (mU (xs:=[.int .u8 x0.op, .int .i64 c21v69, .int .i64 c22v70, .int .i64 c23v71, .int .i64 c24v72, .int .i64 c25v73, .int .i64 c26v74]) (ys:=[.int .u8 x0.op, .int .i64 0, .int .i64 0, .int .i64 0, .int .i64 0, .int .i64 0, .int .i64 0]) q59 q (aK (Zs _)) q (aK (Zs _)) q q q) q (sS Z6 s4 Z2 (Rlx 3 q ?_))))
 obtain rfl:=Oi h
 exact aW (rs1 q (mf q q a4 q)) Zl

theorem f100_c(y0:aE):Pu prog 100 [.ag (R59 y0)] (.b (f100 y0)):=by
 generalize h:f100 y0=r
 unfold f100 at h
 refine fI func100 λ_ _=>?_
 exact Rcl 2 q (Bd q q (Zs _) q (Rlx 12 q (FB h)))

theorem f101_c{t0:bg}{a:Int}{n2:Int}{r:Int×Bool}(h:f101 t0 a n2=some r):Pu prog 101 [.ag (R86 t0), .i .i64 a, .i .i64 n2] (.tu [.i .i64 r.1, .b r.2]):=by
 unfold f101 at h
 refine fI func101 λ_ _=>?_
 refine Rcl 2 q (Bd q q (Zs _) q (Rll 10 q ?_))
 apply WL.or 7 (t:=11) (d:=18)
 exact q
 intro k
 exact Rl 4 q (Zy (aa E70 t0.text.tasks e29 q q Zl) q q q (Rl 2 q (WL.nil ⟨q,[_,_,_,_,_,_,_],q,q,q⟩)))
 exact Rn 7 7
 refine Rl 1 q ?_
 refine OG 3 19 22 3 3 ?_
 refine Rl 1 q ?_
 obtain⟨f,g,h⟩:=ac h
 refine Gg 11 23 34 f g (λh=>?_) (λh=>?_) ?_
 exact On 11 11 h
 refine Rl 5 q ?_
 obtain⟨j,c,h⟩:=ac h
 exact Zy (ai e29 q Zl q (aj c) (au dN c) q) q q q (Rl 2 q (Zy (aa E72 j.entries e68 q q Zl) q q q (On 2 11 h)))
 refine Rlc 2 q (Ci h q (λh=>Rcx 8 q (FA h)) λh=>?_)
 exact Rcl 8 q (Ix h e29 dN q Zl q q λm _ h=>(Rl 3 q (Ix h e68 fS q Zl q q λe _ h=>(Rl 1 q (Al z72 q (sS Z6 s72 Z2 (Rll 6 q (Zq (aa E3 e.ins e54 q q Zl) q (Rl 2 q (Zq (aa E3 e.outs e54 q q Zl) q (Rlx 7 q (FA h))))))))))))

theorem f102_c{t0:bg}{p1:Int}{n2:Int}{r:Bool}(h:f102 t0 p1 n2=some r):Pu prog 102 [.ag (R86 t0), .i .i64 p1, .i .i64 n2] (.b r):=by
 unfold f102 at h
 refine fI func102 λ_ _=>?_
 refine Rcl 2 q (Bd q q (Zs _) q (Rll 8 q ?_))
 apply WL.and 7 (t:=9) (d:=16)
 exact q
 intro g
 exact Rl 4 q (Zy (aa E75 t0.text.prots e30 q q Zl) q q q (Rl 2 q (WL.nil ⟨q,[_,_,_,_,_,_,_],q,q,q⟩)))
 exact Rn 7 7
 refine Rl 1 q ?_
 refine AG 3 17 20 3 3 ?_
 refine Rl 1 q ?_
 obtain⟨c,e,h⟩:=ac h
 refine Gg 11 21 32 c e (λh=>?_) (λh=>?_) ?_
 refine Rl 5 q ?_
 obtain⟨f,a,h⟩:=ac h
 exact Zy (ai e30 q Zl q (aj a) (au eJ a) q) q q q (Rl 2 q (Zy (aa E80 f.barriers e73 q q Zl) q q q (On 2 11 h)))
 exact On 11 11 h
 exact Rlx 4 q (FA h)

theorem f37_c{t0:bg}{x1:aE}{r:Bool}(h:f37 t0 x1=some r):Pu prog 37 [.ag (R86 t0), .ag (R59 x1)] (.b r):=by
 unfold f37 at h
 refine fI func37 λ_ _=>?_
 refine Rcl 2 q (Bd q q (Zs _) q (Bd q q (Zs _) q (Rll 7 q ?_)))
 obtain⟨L,j,h⟩:=ac h
 refine wF Z4 (f99_c j) Lw Z3 (Rlc 3 q (Ci h q (λh=>?_) λh=>?_))
 exact Rcx 7 q (FA h)
 refine Rcc 10 q (Jn1 (λa=> [(2, .d (.pc (R86 t0))),(3, .d (.pc (R59 x1))),(14, .d (D.i .u8 x1.op)),(15, .d (D.b a))]) (λ_=> []) h (λ_ h=>?_) λa h=>?_)
 exact Rcc 6 q (Ci h q (λh=>Rcx 1 q (En1 h)) λh=>Rcx 4 q (En1 h))
 refine Ci h q (λh=>?_) (λh=>?_)
 refine Rcl 7 q ?_
 obtain⟨M,k,h⟩:=ac h
 exact wF Z4 (f89_c k) Lw Z3 (Rlx 6 q (FA h))
 refine Jn1 (λc=> [(2, .d (.pc (R86 t0))),(3, .d (.pc (R59 x1))),(14, .d (D.i .u8 x1.op)),(24, .d (D.b c))]) (λ_=> []) h (λ_ h=>?_) (λc h=>?_)
 exact Rcc 6 q (Ci h q (λh=>Rcx 1 q (En1 h)) λh=>Rcx 4 q (En1 h))
 refine Ci h q (λh=>?_) (λh=>?_)
 refine Rcl 9 q ?_
 obtain⟨N,p,h⟩:=ac h
 exact wF Z4 (f89_c p) Lw Z3 (Rlx 6 q (FA h))
 refine Jn1 (λe=> [(2, .d (.pc (R86 t0))),(3, .d (.pc (R59 x1))),(14, .d (D.i .u8 x1.op)),(35, .d (D.b e))]) (λ_=> []) h (λ_ h=>?_) (λe h=>?_)
 refine Rcc 6 q (Ci h q (λh=>Rcx 1 q (En1 h)) λh=>?_)
 exact Rcc 6 q (Ci h q (λh=>Rcx 1 q (En1 h)) λh=>Rcx 4 q (En1 h))
 refine Ci h q (λh=>?_) (λh=>?_)
 exact Rcl 5 q (wF Z4 (f47_c) Lw Z3 (Rlx 6 q (FA h)))
 refine Rcc 6 q (Ci h q (λh=>?_) λh=>?_)
 refine Rcl 16 q (Zq (aa E59 t0.text.insns e22 q q Zl) q (Rl 2 q ?_))
 obtain⟨w,x,h⟩:=ac h
 refine Gg 10 56 66 w x (λh=>?_) (λh=>?_) ?_
 refine Rl 6 q ?_
 replace h:=bu h
 obtain⟨y,h⟩:=h
 refine Zy (nR E59 t0.text.insns (l:=x1.to) (h:=(IntKind.i64.wrap (x1.to+x1.m))) e22 q Zl ⟨_,q⟩ ⟨_,q⟩ y λ_=>q) q q q ?_
 obtain⟨O,A,h⟩:=ac h
 exact WL.fn q q q q (f35_c _ _ 100 [] [] (λz0 _ h=>by obtain rfl:=inS h;exact f100_c z0) A) ⟨Zl,(Le.fnc Zt Zt),Zt⟩ (aR q q q) q q (On 2 10 h)
 exact On 10 10 h
 exact Rlx 6 q (FA h)
 refine Rcc 6 q (Ci h q (λh=>Rcx 14 q (FA h)) λh=>?_)
 refine Jn1 (λf=> [(2, .d (.pc (R86 t0))),(3, .d (.pc (R59 x1))),(14, .d (D.i .u8 x1.op)),(75, .d (D.b f))]) (λ_=> []) h (λ_ h=>?_) (λf h=>?_)
 refine Rcc 6 q (Ci h q (λh=>Rcx 1 q (En1 h)) λh=>?_)
 refine Rcc 6 q (Ci h q (λh=>Rcx 1 q (En1 h)) λh=>?_)
 exact Rcc 6 q (Ci h q (λh=>Rcx 1 q (En1 h)) λh=>Rcx 4 q (En1 h))
 refine Ci h q (λh=>?_) (λh=>?_)
 exact Rcl 7 q (Zq (aa E54 t0.text.lists e26 q q Zl) q (Rlx 7 q (FA h)))
 refine Rcc 6 q (Ci h q (λh=>Rcl 7 q (Zq (aa E65 t0.text.selects e25 q q Zl) q (Rlx 7 q (FA h)))) λh=>?_)
 refine Rcc 6 q (Ci h q (λh=>?_) λh=>?_)
 refine Rcl 7 q ?_
 obtain⟨P,B,h⟩:=ac h
 refine wF Z4 (f101_c B) Lw Z3 (Rll 11 q ?_)
 obtain⟨C,E,h⟩:=ac h
 refine Gg 6 108 114 C E (λh=>?_) (λh=>?_) ?_
 refine Rl 4 q ?_
 obtain⟨Q,F,h⟩:=ac h
 exact WL.fn q q q q (f89_c F) Lw (aR q q q) q q (On 1 6 h)
 exact On 6 6 h
 exact Rlx 6 q (FA h)
 refine Rcc 6 q (Ci h q (λh=>?_) λh=>?_)
 refine Rcl 7 q ?_
 obtain⟨R,G,h⟩:=ac h
 refine wF Z4 (f101_c G) Lw Z3 (Rll 11 q ?_)
 apply WL.and 8 (t:=127) (d:=135)
 exact q
 intro S
 exact Rl 5 q (Zy (aa E59 t0.text.insns e22 q q Zl) q q q (Rl 2 q (WL.nil ⟨q,[_,_,_,_,_,_,_,_],q,q,q⟩)))
 exact Rn 8 8
 exact Rlx 6 q (FA h)
 refine Jn1 (λg=> [(2, .d (.pc (R86 t0))),(3, .d (.pc (R59 x1))),(14, .d (D.i .u8 x1.op)),(136, .d (D.b g))]) (λ_=> []) h (λ_ h=>?_) (λg h=>?_)
 exact Rcc 6 q (Ci h q (λh=>Rcx 1 q (En1 h)) λh=>Rcx 4 q (En1 h))
 refine Ci h q (λh=>?_) (λh=>?_)
 exact Rcl 7 q (Zq (aa E75 t0.text.prots e30 q q Zl) q (Rlx 7 q (FA h)))
 refine Rcc 6 q (Ci h q (λh=>?_) λh=>?_)
 refine Rcl 7 q ?_
 obtain⟨T,H,h⟩:=ac h
 exact wF Z4 (f102_c H) Lw Z3 (Rlx 6 q (FA h))
 refine Rcc 6 q (Ci h q (λh=>?_) λh=>?_)
 refine Rcl 6 q ?_
 obtain⟨I,J,h⟩:=ac h
 refine Gg 7 159 166 I J (λh=>?_) (λh=>?_) ?_
 exact On 7 7 h
 refine Rl 5 q ?_
 obtain⟨U,K,h⟩:=ac h
 exact WL.fn q q q q (f102_c K) Lw (aR q q q) q q (On 1 7 h)
 exact Rlx 6 q (FA h)
 exact Rcx 9 q (FA h)

theorem f10_c(t0:af){r:Bool}(h:f10 t0=some r):Pu prog 10 [.ag (R33 t0)] (.b r):=by
 unfold f10 at h
 refine fI func10 λ_ _=>?_
 refine Rcl 2 q (Bd q q (Zs _) q (Rll 6 q (Zq (ab p86 z86 q q) q (Al z86 q (sS Z6 s86 Z2 (St q (Rll 7 q (Zq (aa E59 t0.insns e22 q q Zl) q (Rl 2 q ?_)))))))))
 apply WL.or 5 (t:=12) (d:=17)
 exact q
 intro N
 exact Rl 2 q (Zy (aa E59 t0.insns e22 q q Zl) q q q (Rl 2 q (WL.nil ⟨q,[_,_,_,_,_],q,q,q⟩)))
 exact Rn 5 5
 refine Rlc 2 q (Ci h q (λh=>Rcx 7 q (FA h)) λh=>?_)
 refine Rcl 9 q (Zq (aa E59 t0.insns e22 q q Zl) q (Rl 1 q (Ix h e22 cO q Zl q q λO _ h=>(Rlc 5 q (Jn1 (λj=> [(1, .d (.pc (R33 t0))),(3, .pt 0 0),(27, .d (D.b j))]) (λ_=> [.row 86 (txA t0)]) h (λ_ h=>?_) λj h=>?_)))))
 refine Rcc 6 q (Ci h q (λh=>Rcx 1 q (En1 h)) λh=>?_)
 refine Rcc 6 q (Ci h q (λh=>Rcx 1 q (En1 h)) λh=>?_)
 exact Rcc 6 q (Ci h q (λh=>Rcx 1 q (En1 h)) λh=>Rcx 4 q (En1 h))
 refine Ci h q (λh=>?_) (λh=>?_)
 refine Rcc 3 q ?_
 refine Jn0 [(1, .d (.pc (R33 t0))),(3, .pt 0 0)] [.row 86 (txA t0), .os 35 1 0 [[.fn (.func 27) [.ag (txA t0)] []],[.fn (.func 28) [.ag (txA t0)] []],[.fn (.func 29) [.ag (txA t0)] []],[.fn (.func 30) [.ag (txA t0)] []],[.fn (.func 31) [.ag (txA t0)] []],[.fn (.func 32) [.ag (txA t0)] []],[.fn (.func 33) [.ag (txA t0)] []],[.fn (.func 34) [.ag (txA t0)] []]]] h (λ_ h=>?_) (λh=>?_)
 refine Rcl 18 q (WL.s ((NewOs.b (ae l87 z35 q dC dC q q q dC)).does) (Zw q) q q (Zq (kL e87 q q q) q (Rlc 4 q (mn 9 (Rcc 6 q (cG q (Rcl 6 q (Zq (bh e87 q q q dC (by show(0:Int)<((8:Nat):Int);decide)) q (Zq (bY q q a35 q) q (Rll 6 q ?_))))))))))
 obtain⟨P,m,h⟩:=ac h
 refine wF Z4 (f27_c m) ⟨(aK (Zs _)),Zt⟩ Z3 (Rlc 3 q (Ci h q (λh=>?_) λh=>?_))
 exact Rcx 8 q (cR (Rxx 2 q (FA h)))
 refine Rcl 4 q (Zq (iE (c:=1) q q dC) q (Rlx 2 q (iF (WC.sub (env':=[(1, .d (.pc (R33 t0))),(3, .pt 0 0),(48, .os 1 0),(49, .n 8),(50, .n 1)]) Sb (Rcc 6 q (cG q (Rcl 6 q (Zq (bh e87 q q q dC (by show(1:Int)<((8:Nat):Int);decide)) q (Zq (bY q q a35 q) q (Rll 6 q ?_))))))))))
 obtain⟨Q,p,h⟩:=ac h
 refine wF Z4 (f28_c p) ⟨(aK (Zs _)),Zt⟩ Z3 (Rlc 3 q (Ci h q (λh=>?_) λh=>?_))
 exact Rcx 8 q (cR (Rxx 2 q (FA h)))
 refine Rcl 4 q (Zq (iE (c:=2) q q dC) q (Rlx 2 q (iF (WC.sub (env':=[(1, .d (.pc (R33 t0))),(3, .pt 0 0),(48, .os 1 0),(49, .n 8),(50, .n 2)]) Sb (Rcc 6 q (cG q (Rcl 6 q (Zq (bh e87 q q q dC (by show(2:Int)<((8:Nat):Int);decide)) q (Zq (bY q q a35 q) q (Rll 6 q ?_))))))))))
 obtain⟨R,w,h⟩:=ac h
 refine wF Z4 (f29_c w) ⟨(aK (Zs _)),Zt⟩ Z3 (Rlc 3 q (Ci h q (λh=>?_) λh=>?_))
 exact Rcx 8 q (cR (Rxx 2 q (FA h)))
 refine Rcl 4 q (Zq (iE (c:=3) q q dC) q (Rlx 2 q (iF (WC.sub (env':=[(1, .d (.pc (R33 t0))),(3, .pt 0 0),(48, .os 1 0),(49, .n 8),(50, .n 3)]) Sb (Rcc 6 q (cG q (Rcl 6 q (Zq (bh e87 q q q dC (by show(3:Int)<((8:Nat):Int);decide)) q (Zq (bY q q a35 q) q (Rll 6 q ?_))))))))))
 obtain⟨S,x,h⟩:=ac h
 refine wF Z4 (f30_c x) ⟨(aK (Zs _)),Zt⟩ Z3 (Rlc 3 q (Ci h q (λh=>?_) λh=>?_))
 exact Rcx 8 q (cR (Rxx 2 q (FA h)))
 refine Rcl 4 q (Zq (iE (c:=4) q q dC) q (Rlx 2 q (iF (WC.sub (env':=[(1, .d (.pc (R33 t0))),(3, .pt 0 0),(48, .os 1 0),(49, .n 8),(50, .n 4)]) Sb (Rcc 6 q (cG q (Rcl 6 q (Zq (bh e87 q q q dC (by show(4:Int)<((8:Nat):Int);decide)) q (Zq (bY q q a35 q) q (Rll 6 q ?_))))))))))
 obtain⟨T,y,h⟩:=ac h
 refine wF Z4 (f31_c y) ⟨(aK (Zs _)),Zt⟩ Z3 (Rlc 3 q (Ci h q (λh=>?_) λh=>?_))
 exact Rcx 8 q (cR (Rxx 2 q (FA h)))
 refine Rcl 4 q (Zq (iE (c:=5) q q dC) q (Rlx 2 q (iF (WC.sub (env':=[(1, .d (.pc (R33 t0))),(3, .pt 0 0),(48, .os 1 0),(49, .n 8),(50, .n 5)]) Sb (Rcc 6 q (cG q (Rcl 6 q (Zq (bh e87 q q q dC (by show(5:Int)<((8:Nat):Int);decide)) q (Zq (bY q q a35 q) q (Rll 6 q ?_))))))))))
 obtain⟨U,A,h⟩:=ac h
 refine wF Z4 (f32_c A) ⟨(aK (Zs _)),Zt⟩ Z3 (Rlc 3 q (Ci h q (λh=>?_) λh=>?_))
 exact Rcx 8 q (cR (Rxx 2 q (FA h)))
 refine Rcl 4 q (Zq (iE (c:=6) q q dC) q (Rlx 2 q (iF (WC.sub (env':=[(1, .d (.pc (R33 t0))),(3, .pt 0 0),(48, .os 1 0),(49, .n 8),(50, .n 6)]) Sb (Rcc 6 q (cG q (Rcl 6 q (Zq (bh e87 q q q dC (by show(6:Int)<((8:Nat):Int);decide)) q (Zq (bY q q a35 q) q (Rll 6 q ?_))))))))))
 obtain⟨V,B,h⟩:=ac h
 refine wF Z4 (f33_c B) ⟨(aK (Zs _)),Zt⟩ Z3 (Rlc 3 q (Ci h q (λh=>?_) λh=>?_))
 exact Rcx 8 q (cR (Rxx 2 q (FA h)))
 refine Rcl 4 q (Zq (iE (c:=7) q q dC) q (Rlx 2 q (iF (WC.sub (env':=[(1, .d (.pc (R33 t0))),(3, .pt 0 0),(48, .os 1 0),(49, .n 8),(50, .n 7)]) Sb (Rcc 6 q (cG q (Rcl 6 q (Zq (bh e87 q q q dC (by show(7:Int)<((8:Nat):Int);decide)) q (Zq (bY q q a35 q) q (Rll 6 q ?_))))))))))
 obtain⟨W,C,h⟩:=ac h
 refine wF Z4 (f34_c C) ⟨(aK (Zs _)),Zt⟩ Z3 (Rlc 3 q (Ci h q (λh=>?_) λh=>?_))
 exact Rcx 8 q (cR (Rxx 2 q (FA h)))
 exact Rcl 4 q (Zq (iE (c:=8) q q dC) q (Rlx 2 q (iF (WC.sub (env':=[(1, .d (.pc (R33 t0))),(3, .pt 0 0),(48, .os 1 0),(49, .n 8),(50, .n 8)]) Sb (Rcc 6 q (dU q (Rcx 2 q (kO (Rxx 1 q (En0 h))))))))))
 refine Rcl 5 q ?_
 obtain⟨E,F,h⟩:=az h
 refine WL.inl (us:=[.l E59 t0.insns, .fn (.func 36) [] [.pt 0 0]]) (λrv st'=>(∃(e:Bool),E e=some r∧Le rv (.d (D.b e))∧SLe st' [.row 86 (txA t0), .os 35 1 0 [[.fn (.func 27) [.ag (txA t0)] []],[.fn (.func 28) [.ag (txA t0)] []],[.fn (.func 29) [.ag (txA t0)] []],[.fn (.func 30) [.ag (txA t0)] []],[.fn (.func 31) [.ag (txA t0)] []],[.fn (.func 32) [.ag (txA t0)] []],[.fn (.func 33) [.ag (txA t0)] []],[.fn (.func 34) [.ag (txA t0)] []]]])) q q q q q ?_ (Zw q) q q ?_
 refine cI func35 λ_ _ _ X=>?_
 refine Rcl 9 q ?_
 obtain⟨k,G,h⟩:=az h
 refine WL.inl (us:=[.l E59 t0.insns, .fn (.func 36) [] [.pt 0 0]]) (λrv st'=>(∃(a:Int),k a=some r∧Le rv (.n a)∧SLe st' [.row 86 (txA t0), .os 35 1 0 [[.fn (.func 27) [.ag (txA t0)] []],[.fn (.func 28) [.ag (txA t0)] []],[.fn (.func 29) [.ag (txA t0)] []],[.fn (.func 30) [.ag (txA t0)] []],[.fn (.func 31) [.ag (txA t0)] []],[.fn (.func 32) [.ag (txA t0)] []],[.fn (.func 33) [.ag (txA t0)] []],[.fn (.func 34) [.ag (txA t0)] []]]])) q q q q q ?_ (Zw q) q q ?_
 refine cI func98 λ_ _ _ Y=>?_
 refine Rcc 5 q ?_
 refine Jn0 [] [.row 86 (txA t0), .os 35 1 0 [[.fn (.func 27) [.ag (txA t0)] []],[.fn (.func 28) [.ag (txA t0)] []],[.fn (.func 29) [.ag (txA t0)] []],[.fn (.func 30) [.ag (txA t0)] []],[.fn (.func 31) [.ag (txA t0)] []],[.fn (.func 32) [.ag (txA t0)] []],[.fn (.func 33) [.ag (txA t0)] []],[.fn (.func 34) [.ag (txA t0)] []]]] h (λH h=>?_) (λh=>?_)
 refine Rcl 3 q (Zq (aa E59 t0.insns e22 q q Zl) q (Rlc 4 q ?_))
 refine Ln1 (λf=> [(0, .l E59 t0.insns),(1, .fn (.func 36) [] [.pt 0 0]),(7, .n (List.length t0.insns:Int)),(8, .n f)]) (λ_=> [.row 86 (txA t0), .os 35 1 0 [[.fn (.func 27) [.ag (txA t0)] []],[.fn (.func 28) [.ag (txA t0)] []],[.fn (.func 29) [.ag (txA t0)] []],[.fn (.func 30) [.ag (txA t0)] []],[.fn (.func 31) [.ag (txA t0)] []],[.fn (.func 32) [.ag (txA t0)] []],[.fn (.func 33) [.ag (txA t0)] []],[.fn (.func 34) [.ag (txA t0)] []]]]) (f10_l1 t0 k H) h (λ_ h=>by rw[f10_l1] at h;cases h) (λn f h=>?_)
 rw[f10_l1] at h
 refine Rcc 6 q (Ci h q (λh=>?_) λh=>?_)
 refine Rcl 15 q (Ix h e22 cO q Zl q q λI _ h=>(Rl 1 q ?_))
 obtain⟨J,K,h⟩:=az h
 refine WL.inl (us:=[.d (.ag (R59 I)), .pt 0 0]) (λrv st'=>(∃(g:Bool),J g=some r∧Le rv (.d (D.b g))∧SLe st' [.row 86 (txA t0), .os 35 1 0 [[.fn (.func 27) [.ag (txA t0)] []],[.fn (.func 28) [.ag (txA t0)] []],[.fn (.func 29) [.ag (txA t0)] []],[.fn (.func 30) [.ag (txA t0)] []],[.fn (.func 31) [.ag (txA t0)] []],[.fn (.func 32) [.ag (txA t0)] []],[.fn (.func 33) [.ag (txA t0)] []],[.fn (.func 34) [.ag (txA t0)] []]]])) q q q q q ?_ (Zw q) q q ?_
 refine cI func36 λ_ _ _ _=>?_
 refine Rcl 2 q (Bd q q (Zs _) q (Rll 7 q ?_))
 obtain⟨L,M,h⟩:=ac h
 exact wF Z4 (f37_c M) ⟨(aK (Zs _)),Zl,Zt⟩ Z3 (Rlx 5 q (aM (rs1 q (bv q)) ⟨(!L),h,Zl,⟨Zp,Zf,Zt⟩⟩))
 rintro rv st1 ⟨g,h,hr,hst⟩
 subst K
 dsimp only at h
 refine WL.cast 16 q hr (WL.weak hst (Zn (Ci h q (λh=>?_) λh=>?_)))
 exact Rcx 12 q (aM (rs1 q (bv q)) ⟨f,h,Zl,⟨Zp,Zf,Zt⟩⟩)
 exact Rcx 7 q (Fn1 h)
 exact Rcx 4 q (En0 h)
 exact Rcx 6 q (aM (rs1 q (bv q)) ⟨(-1),h,Zl,⟨Zp,Zf,Zt⟩⟩)
 rintro rv st1 ⟨a,h,hr,hst⟩
 subst G
 dsimp only at h
 exact WL.cast 7 q hr (WL.weak hst (Rl 2 q (Zn (Rcx 1 q (aM (rs1 q (bv q)) ⟨(decide (a≥0)),h,Zl,⟨Zp,Zf,Zt⟩⟩)))))
 rintro rv st1 ⟨e,h,hr,hst⟩
 subst F
 dsimp only at h
 exact WL.cast 61 q hr (WL.weak hst (Rl 2 q (Zn (Rcx 1 q (FA h)))))
 exact Rcx 8 q (FA h)

theorem f46_c{o0:Obj}{v1:Int}{r:Bool}(h:f46 o0 v1=some r):Pu prog 46 [.ag (R67 o0), .i .i64 v1] (.b r):=by
 unfold f46 at h
 refine fI func46 λ_ _=>?_
 refine Rcl 2 q (Bd q q (Zs _) q (Rlc 11 q (Ci h q (λh=>?_) λh=>?_)))
 refine Rcl 7 q ?_
 refine AG 5 13 18 5 5 ?_
 exact Rlx 5 q (FA h)
 refine Rcc 2 q (Jn0 [(1, .n v1)] [] h (λc h=>?_) λh=>?_)
 refine Rcc 6 q (Ln1 (λa=> [(1, .n v1),(2, .d (.pc (R67 o0))),(5, .n a)]) (λ_=> []) (f46_l1 o0 v1 c) h (λ_ h=>by rw[f46_l1] at h;cases h) λn a h=>?_)
 rw[f46_l1] at h
 refine Rcl 6 q (Zq (aa E3 o0.set_ e54 q q Zl) q (Rlc 3 q (Ci h q (λh=>?_) λh=>?_)))
 refine Rcl 10 q (Ix h e54 bd q Zl q q λe _ h=>(Rlc 5 q (Ci h q (λh=>?_) λh=>?_)))
 exact Rcx 11 q (FA h)
 exact Rcx 8 q (Fn1 h)
 exact Rcx 4 q (En0 h)
 exact Rcx 8 q (FA h)

theorem f103_c{t0:af}{o1:Obj}{r:Bool}(h:f103 t0 o1=some r):Pu prog 103 [.ag (R33 t0), .ag (R67 o1)] (.b r):=by
 unfold f103 at h
 refine fI func103 λ_ _=>?_
 refine Rcl 2 q (Bd q q (Zs _) q (Bd q q (Zs _) q (Rll 10 q ?_)))
 refine OG 4 10 14 4 4 ?_
 refine Rl 1 q ?_
 refine OG 6 15 21 6 6 ?_
 refine Rl 1 q ?_
 apply WL.or 10 (t:=22) (d:=32)
 exact q
 intro B
 refine Rl 4 q ?_
 apply WL.and 5 (t:=26) (d:=31)
 exact q
 intro C
 exact Rl 2 q (Zy (aa E3 o1.set_ e54 q q Zl) q q q (Rl 2 q (WL.nil ⟨q,[_,_,_,_,_],q,q,q⟩)))
 exact Rn 5 5
 exact Rn 1 6
 exact Rn 10 10
 refine Rl 1 q ?_
 apply WL.or 13 (t:=33) (d:=46)
 exact q
 intro E
 refine Rl 3 q ?_
 apply WL.and 9 (t:=36) (d:=45)
 exact q
 intro F
 refine Rl 4 q ?_
 refine OG 4 40 44 4 4 ?_
 exact Rn 1 6
 exact Rn 9 9
 exact Rn 1 5
 exact Rn 13 13
 refine Rlc 2 q (Ci h q (λh=>Rcx 7 q (FA h)) λh=>?_)
 refine Rcc 2 q (Jn0 [] [] h (λg h=>?_) λh=>?_)
 refine Rcc 6 q (Ln1 (λa=> [(2, .d (.pc (R33 t0))),(3, .d (.pc (R67 o1))),(5, .n a)]) (λ_=> []) (f103_l1 t0 o1 g) h (λ_ h=>by rw[f103_l1] at h;cases h) λn a h=>?_)
 rw[f103_l1] at h
 refine Rcl 6 q (Zq (aa E3 o1.set_ e54 q q Zl) q (Rlc 3 q (Ci h q (λh=>?_) λh=>?_)))
 refine Rcl 9 q (Ix h e54 bd q Zl q q λG _ h=>(Rll 9 q ?_))
 apply WL.or 6 (t:=61) (d:=67)
 exact q
 intro H
 exact Rl 3 q (Zy (aa E67 t0.objs e27 q q Zl) q q q (Rl 2 q (WL.nil ⟨q,[_,_,_,_,_,_],q,q,q⟩)))
 exact Rn 6 6
 refine Rl 1 q ?_
 obtain⟨j,k,h⟩:=ac h
 refine Gg 8 68 76 j k (λh=>?_) (λh=>?_) ?_
 exact On 8 8 h
 refine Rl 3 q ?_
 obtain⟨I,c,h⟩:=ac h
 exact Zy (ai e27 q Zl q (aj c) (au cE c) q) q q q (On 4 8 h)
 refine Rl 1 q ?_
 obtain⟨m,p,h⟩:=ac h
 refine Gg 7 77 84 m p (λh=>?_) (λh=>?_) ?_
 exact On 7 7 h
 refine Rl 3 q ?_
 obtain⟨J,e,h⟩:=ac h
 exact Zy (ai e27 q Zl q (aj e) (au cE e) q) q q q (On 3 7 h)
 refine Rl 1 q ?_
 obtain⟨w,x,h⟩:=ac h
 refine Gg 13 85 98 w x (λh=>?_) (λh=>?_) ?_
 exact On 13 13 h
 refine Rl 3 q ?_
 obtain⟨y,A,h⟩:=ac h
 refine Gg 9 88 97 y A (λh=>?_) (λh=>?_) ?_
 refine Rl 4 q ?_
 obtain⟨K,f,h⟩:=ac h
 exact Zy (ai e54 q Zl q (aj f) (au bd f) q) q q q (On 4 9 h)
 exact On 9 9 h
 exact On 1 5 h
 exact Rlc 2 q (Ci h q (λh=>Rcx 11 q (FA h)) λh=>Rcx 8 q (Fn1 h))
 exact Rcx 4 q (En0 h)
 exact Rcx 6 q (FA h)

theorem f104_c{t0:af}{o1:Int}{a:Int}{c:Int}{r:Bool}(h:f104 t0 o1 a c=some r):Pu prog 104 [.ag (R33 t0), .i .i64 o1, .i .i64 a, .i .i64 c] (.b r):=by
 unfold f104 at h
 refine fI func104 λ_ _=>?_
 refine Rcl 2 q (Bd q q (Zs _) q (Rll 8 q ?_))
 apply WL.and 6 (t:=11) (d:=17)
 exact q
 intro j
 exact Rl 3 q (Zy (aa E67 t0.objs e27 q q Zl) q q q (Rl 2 q (WL.nil ⟨q,[_,_,_,_,_,_],q,q,q⟩)))
 exact Rn 6 6
 refine Rl 1 q ?_
 refine AG 3 18 21 3 3 ?_
 refine Rl 1 q ?_
 refine AG 3 22 25 3 3 ?_
 refine Rl 1 q ?_
 obtain⟨f,g,h⟩:=ac h
 refine Gg 11 26 37 f g (λh=>?_) (λh=>?_) ?_
 refine Rl 4 q ?_
 obtain⟨k,e,h⟩:=ac h
 exact Zy (ai e27 q Zl q (aj e) (au cE e) q) q q q (On 6 11 h)
 exact On 11 11 h
 exact Rlx 4 q (FA h)

theorem f38_c{t0:af}{r:Bool}(h:f38 t0=some r):Pu prog 38 [.ag (R33 t0)] (.b r):=by
 unfold f38 at h
 refine fI func38 λ_ _=>?_
 refine Rcl 2 q (Bd q q (Zs _) q (Rll 8 q (Zq (aa E67 t0.objs e27 q q Zl) q (Rl 2 q ?_))))
 refine OG 4 12 16 4 4 ?_
 refine Rl 1 q ?_
 refine OG 4 17 21 4 4 ?_
 refine Rl 1 q ?_
 apply WL.or 5 (t:=22) (d:=27)
 exact q
 intro L
 exact Rl 2 q (Zy (aa E93 t0.inits e28 q q Zl) q q q (Rl 2 q (WL.nil ⟨q,[_,_,_,_,_],q,q,q⟩)))
 exact Rn 5 5
 refine Rlc 2 q (Ci h q (λh=>Rcx 7 q (FA h)) λh=>?_)
 refine Rcc 7 q (Jn1 (λa=> [(1, .d (.pc (R33 t0))),(3, .n a)]) (λ_=> []) h (λC h=>?_) λa h=>?_)
 refine Rcc 6 q (Ln2 (λj k=> [(1, .d (.pc (R33 t0))),(3, .n j),(4, .n k)]) (λ_ _=> []) (f38_l1 t0 C) h (λ_ _ h=>by rw[f38_l1] at h;cases h) λn j k h=>?_)
 rw[f38_l1] at h
 refine Rcl 6 q (Zq (aa E67 t0.objs e27 q q Zl) q (Rlc 3 q (Ci h q (λh=>?_) λh=>?_)))
 refine Rcc 6 q (aB kR kR (Rq 4 q ?_))
 obtain⟨M,m,h⟩:=ac h
 refine WQ.qn (ai e27 q Zl q (aj m) (au cE m) q) q (Rq 1 q ?_)
 obtain⟨N,E,h⟩:=ac h
 refine WQ.q (YieldsQ.fn q q q q q (f103_c E) Lw) (Zw q) q q (Rq 1 q (WQ.nil (Rxc 1 q (Ci h q (λh=>?_) λh=>?_))))
 exact Rcx 12 q (FA h)
 exact Rcl 7 q (Ix h e27 cE q Zl q q λO _ h=>(Rlx 12 q (Fn2 h)))
 exact Rcx 4 q (En1 h)
 refine Jn0 [(3, .n a)] [] h (λF h=>?_) (λh=>?_)
 refine Rcc 6 q (Ln1 (λc=> [(1, .d (.pc (R33 t0))),(3, .n a),(5, .n c)]) (λ_=> []) (f38_l2 t0 F) h (λ_ h=>by rw[f38_l2] at h;cases h) λn c h=>?_)
 rw[f38_l2] at h
 refine Rcl 6 q (Zq (aa E93 t0.inits e28 q q Zl) q (Rlc 3 q (Ci h q (λh=>?_) λh=>?_)))
 refine Rcc 2 q (Jn3 (λ_ _ _=> [(1, .d (.pc (R33 t0))),(3, .n a),(5, .n c)]) (λc00v126 c01v127 c02v128=> [.row 93 [.n c00v126, .n c01v127, .n c02v128]]) h (λG h=>?_) λc00v126 c01v127 c02v128 h=>?_)
 refine Rcl 6 q (Ix h e28 iC q Zl q q λe _ h=>(Rl 1 q (Al z93 q (sS Z6 s93 Z2 (Rlc 4 q (aB kR kR (Rq 5 q ?_)))))))
 obtain⟨P,H,h⟩:=ac h
 refine WQ.q (YieldsQ.fn q q q q q (f104_c H) Lw) (Zw q) q q (Rq 2 q ?_)
 obtain⟨I,p,h⟩:=ac h
 apply WQ.grp 11 (t:=70) (d:=81) (z:=I)
 exact q
 intro f
 have h:=eD p f
 refine Rq 11 q ?_
 obtain rfl:=Oi h
 exact WQ.nil ⟨[_,_,_,_,_,_,_,_,_,_,_],q,q,q⟩
 intro f
 have h:=eE p f
 refine Rq 4 q ?_
 obtain⟨Q,w,h⟩:=ac h
 refine WQ.qy (ai e27 q Zl q (aj w) (au cE w) q) q q q (Rq 3 q ?_)
 obtain⟨R,J,h⟩:=ac h
 refine WQ.q (YieldsQ.fn q q q q q (f46_c J) Lw) (aR q q q) q q (Rq 2 q ?_)
 obtain rfl:=Oi h
 exact WQ.nil ⟨[_,_,_,_,_,_,_,_,_,_,_],q,q,q⟩
 refine WQ.nil (Rxc 1 q (Ci h q (λh=>?_) λh=>?_))
 exact Rcx 12 q (FA h)
 refine Rcc 8 q (Ln1 (λx=> [(1, .d (.pc (R33 t0))),(3, .n a),(5, .n c),(6, .pt 0 0),(7, .n x)]) (λ_=> [.row 93 [.n e.o, .n e.slot, .n e.v]]) (f38_l3 t0 c G e) h (λ_ h=>by rw[f38_l3] at h;cases h) λna x h=>?_)
 rw[f38_l3] at h
 refine Rcc 8 q (Ci h q (λh=>?_) λh=>?_)
 refine Rcc 5 q (aB kR kR (Rq 3 q ?_))
 obtain⟨S,y,h⟩:=ac h
 refine WQ.qn (ai e28 q Zl q (aj y) (au iC y) q) q (Rq 6 q ?_)
 obtain⟨K,A,h⟩:=ac h
 apply WQ.grp 10 (t:=96) (d:=106) (z:=K)
 exact q
 intro g
 have h:=eD A g
 refine Rq 3 q ?_
 obtain⟨T,B,h⟩:=ac h
 refine WQ.qy (ai e28 q Zl q (aj B) (au iC B) q) q q q (Rq 6 q ?_)
 obtain rfl:=Oi h
 exact WQ.nil ⟨[_,_,_,_,_,_,_,_,_,_],q,q,q⟩
 intro g
 have h:=eE A g
 refine Rq 10 q ?_
 obtain rfl:=Oi h
 exact WQ.nil ⟨[_,_,_,_,_,_,_,_,_,_],q,q,q⟩
 refine WQ.nil (Rxc 1 q (Ci h q (λh=>?_) λh=>?_))
 exact Rcx 15 q (FA h)
 exact Rcx 8 q (Fn1 h)
 exact Rcx 5 q (En3 h)
 exact Rcx 5 q (WE.drop 0 (env':=[(1, .d (.pc (R33 t0))),(3, .n a),(5, .n (IntKind.i64.wrap (c+1)))]) Sb q q (Nat.zero_le _) (Fn1 h))
 exact Rcx 4 q (En0 h)
 exact Rcx 8 q (FA h)

theorem f51_c{t0:af}{a1:Int}:Pu prog 51 [.ag (R33 t0), .i .i64 a1] (.b (f51 t0 a1)):=by
 generalize h:f51 t0 a1=r
 unfold f51 at h
 refine fI func51 λ_ _=>?_
 refine Rcl 2 q (Bd q q (Zs _) q (Rll 8 q ?_))
 apply WL.and 6 (t:=7) (d:=13)
 exact q
 intro a
 exact Rl 3 q (Zy (aa E59 t0.insns e22 q q Zl) q q q (Rl 2 q (WL.nil ⟨q,[_,_,_,_,_,_],q,q,q⟩)))
 exact Rn 6 6
 exact Rlx 4 q (FB h)

theorem f105_c{t0:af}{l1:lI}{r:Bool}(h:f105 t0 l1=some r):Pu prog 105 [.ag (R33 t0), .sl (List.map E3 l1)] (.b r):=by
 unfold f105 at h
 refine fI func105 λ_ _=>?_
 refine Rcl 2 q (Bd q q (Zs _) q (Rll 7 q (Zq (aa E3 l1 e54 q q Zl) q (Rlc 3 q (Ci h q (λh=>?_) λh=>?_)))))
 exact Rcx 7 q (FA h)
 refine Rcc 2 q (Jn0 [] [] h (λw h=>?_) λh=>?_)
 refine Rcc 6 q (Ln1 (λe=> [(1, .l E3 l1),(2, .d (.pc (R33 t0))),(5, .n e)]) (λ_=> []) (f105_l1 t0 l1 w) h (λ_ h=>by rw[f105_l1] at h;cases h) λn e h=>?_)
 rw[f105_l1] at h
 refine Rcl 5 q (Zq (aa E3 l1 e54 q q Zl) q (Rlc 3 q (Ci h q (λh=>?_) λh=>?_)))
 refine Rcc 5 q (aB kR kR (Rq 2 q ?_))
 obtain⟨A,f,h⟩:=ac h
 refine WQ.qn (ai e54 q Zl q (aj f) (au bd f) q) q (Rq 3 q ?_)
 obtain⟨x,g,h⟩:=ac h
 apply WQ.grp 9 (t:=20) (d:=29) (z:=x)
 exact q
 intro a
 have h:=eD g a
 refine Rq 9 q ?_
 obtain rfl:=Oi h
 exact WQ.nil ⟨[_,_,_,_,_,_,_,_,_],q,q,q⟩
 intro a
 have h:=eE g a
 refine Rq 2 q ?_
 obtain⟨B,j,h⟩:=ac h
 refine WQ.qy (ai e54 q Zl q (aj j) (au bd j) q) q q q (Rq 3 q (WQ.qy (aa E67 t0.objs e27 q q Zl) q q q (Rq 2 q ?_)))
 obtain rfl:=Oi h
 exact WQ.nil ⟨[_,_,_,_,_,_,_,_,_],q,q,q⟩
 refine Rq 1 q ?_
 obtain⟨y,k,h⟩:=ac h
 apply WQ.grp 11 (t:=30) (d:=41) (z:=y)
 exact q
 intro c
 have h:=eD k c
 refine Rq 11 q ?_
 obtain rfl:=Oi h
 exact WQ.nil ⟨[_,_,_,_,_,_,_,_,_,_,_],q,q,q⟩
 intro c
 have h:=eE k c
 refine Rq 4 q ?_
 obtain⟨C,m,h⟩:=ac h
 refine WQ.qy (ai e54 q Zl q (aj m) (au bd m) q) q q q (Rq 1 q ?_)
 obtain⟨E,p,h⟩:=ac h
 refine WQ.qy (ai e27 q Zl q (aj p) (au cE p) q) q q q (Rq 4 q ?_)
 obtain rfl:=Oi h
 exact WQ.nil ⟨[_,_,_,_,_,_,_,_,_,_,_],q,q,q⟩
 refine WQ.nil (Rxc 1 q (Ci h q (λh=>?_) λh=>?_))
 exact Rcx 11 q (FA h)
 exact Rcx 8 q (Fn1 h)
 exact Rcx 4 q (En0 h)
 exact Rcx 6 q (FA h)

theorem f39_c{t0:af}{r:Bool}(h:f39 t0=some r):Pu prog 39 [.ag (R33 t0)] (.b r):=by
 unfold f39 at h
 refine fI func39 λ_ _=>?_
 refine Rcl 2 q (Bd q q (Zs _) q (Rll 8 q (Zq (aa E70 t0.tasks e29 q q Zl) q (Rl 2 q ?_))))
 apply WL.or 5 (t:=10) (d:=15)
 exact q
 intro A
 exact Rl 2 q (Zy (aa E70 t0.tasks e29 q q Zl) q q q (Rl 2 q (WL.nil ⟨q,[_,_,_,_,_],q,q,q⟩)))
 exact Rn 5 5
 refine Rlc 2 q (Ci h q (λh=>Rcx 7 q (FA h)) λh=>?_)
 refine Rcc 2 q (Jn0 [] [] h (λm h=>?_) λh=>?_)
 refine Rcc 6 q (Ln1 (λc=> [(1, .d (.pc (R33 t0))),(3, .n c)]) (λ_=> []) (f39_l1 t0 m) h (λ_ h=>by rw[f39_l1] at h;cases h) λn c h=>?_)
 rw[f39_l1] at h
 refine Rcl 6 q (Zq (aa E70 t0.tasks e29 q q Zl) q (Rlc 3 q (Ci h q (λh=>?_) λh=>?_)))
 refine Rcc 2 q (Jn4 (λ_ _ _ _=> [(1, .d (.pc (R33 t0))),(3, .n c)]) (λc00v92 c01v93 c02v94 c03v95=> [.row 70 [.n c00v92, .n c01v93, .l E72 c02v94, .n c03v95]]) h (λp h=>?_) λc00v92 c01v93 c02v94 c03v95 h=>?_)
 refine Rcl 6 q (Ix h e29 dN q Zl q q λa _ h=>(Rl 1 q (Al z70 q (sS Z6 s70 Z2 (Rll 9 q ?_)))))
 refine OG 4 31 35 4 4 ?_
 refine Rl 1 q ?_
 apply WL.or 6 (t:=36) (d:=42)
 exact q
 intro B
 exact Rl 3 q (WL.fn q q q q (f51_c) Lw (aR q q q) q q (Rl 2 q (WL.nil ⟨q,[_,_,_,_,_,_],q,q,q⟩)))
 exact Rn 6 6
 refine Rl 1 q ?_
 refine OG 4 43 47 4 4 ?_
 refine Rl 1 q ?_
 refine OG 4 48 52 4 4 ?_
 refine Rl 1 q ?_
 apply WL.or 5 (t:=53) (d:=58)
 exact q
 intro C
 exact Rl 2 q (Zy (aa E72 a.entries e68 q q Zl) q q q (Rl 2 q (WL.nil ⟨q,[_,_,_,_,_],q,q,q⟩)))
 exact Rn 5 5
 refine Rlc 2 q (Ci h q (λh=>Rcx 12 q (FA h)) λh=>?_)
 refine Rcc 8 q (Ln1 (λf=> [(1, .d (.pc (R33 t0))),(3, .n c),(4, .pt 0 0),(5, .n f)]) (λ_=> [.row 70 [.n a.prio, .n a.at_, .l E72 a.entries, .n a.deadline]]) (f39_l2 t0 p a) h (λ_ h=>by rw[f39_l2] at h;cases h) λna f h=>?_)
 rw[f39_l2] at h
 refine Rcl 6 q (Zq (aa E72 a.entries e68 q q Zl) q (Rlc 3 q (Ci h q (λh=>?_) λh=>?_)))
 refine Rcc 5 q (aB kR kR (Rq 4 q ?_))
 obtain⟨E,g,h⟩:=ac h
 refine WQ.qn (ai e68 q Zl q (aj g) (au fS g) q) q (Rq 2 q ?_)
 obtain⟨F,w,h⟩:=ac h
 refine WQ.q (YieldsQ.fn q q q q q (f105_c w) Lw) (Zw q) q q (Rq 2 q ?_)
 obtain⟨x,j,h⟩:=ac h
 apply WQ.grp 10 (t:=75) (d:=85) (z:=x)
 exact q
 intro e
 have h:=eD j e
 refine Rq 10 q ?_
 obtain rfl:=Oi h
 exact WQ.nil ⟨[_,_,_,_,_,_,_,_,_,_],q,q,q⟩
 intro e
 have h:=eE j e
 refine Rq 4 q ?_
 obtain⟨G,k,h⟩:=ac h
 refine WQ.qy (ai e68 q Zl q (aj k) (au fS k) q) q q q (Rq 2 q ?_)
 obtain⟨H,y,h⟩:=ac h
 refine WQ.q (YieldsQ.fn q q q q q (f105_c y) Lw) (aR q q q) q q (Rq 2 q ?_)
 obtain rfl:=Oi h
 exact WQ.nil ⟨[_,_,_,_,_,_,_,_,_,_],q,q,q⟩
 refine WQ.nil (Rxc 1 q (Ci h q (λh=>?_) λh=>?_))
 exact Rcx 15 q (FA h)
 exact Rcx 8 q (Fn1 h)
 exact Rcx 5 q (En4 h)
 exact Rcx 5 q (WE.drop 0 (env':=[(1, .d (.pc (R33 t0))),(3, .n (IntKind.i64.wrap (c+1)))]) Sb q q (Nat.zero_le _) (Fn1 h))
 exact Rcx 4 q (En0 h)
 exact Rcx 6 q (FA h)

theorem f21_c{t0:af}{a1:Int}{r:Bool}(h:f21 t0 a1=some r):Pu prog 21 [.ag (R33 t0), .i .i64 a1] (.b r):=by
 unfold f21 at h
 refine fI func21 λ_ _=>?_
 refine Rcl 2 q (Bd q q (Zs _) q (Rll 7 q (wF Z4 (f51_c) Lw Z3 (Rl 1 q ?_))))
 obtain⟨d,e,h⟩:=ac h
 refine Gg 17 8 25 d e (λh=>?_) (λh=>?_) ?_
 refine Rl 3 q ?_
 obtain⟨j,a,h⟩:=ac h
 refine Zy (ai e22 q Zl q (aj a) (au cO a) q) q q q (Rl 4 q ?_)
 obtain⟨f,g,h⟩:=ac h
 refine Gg 8 16 24 f g (λh=>?_) (λh=>?_) ?_
 exact On 8 8 h
 refine Rl 3 q ?_
 obtain⟨k,c,h⟩:=ac h
 exact Zy (ai e22 q Zl q (aj c) (au cO c) q) q q q (On 4 8 h)
 exact On 1 10 h
 exact On 17 17 h
 exact Rlx 4 q (FA h)

theorem f106s_c(e:af→Int→ap→Int→Int→Option (Int))(t0:af)(a:Int)(e2:ap)(c:Int)(n4:Int)(y:∀(x0:af)(x1:Int)(x2:ap)(x3:Int)(x4:Int)(r:Int),e x0 x1 x2 x3 x4=some r→Pu prog 106 [.ag (R33 x0), .i .i64 x1, .ag (R80 x2), .i .i64 x3, .i .i64 x4] (.i .i64 r)){r:Int}(h:f106s e t0 a e2 c n4=some r):Pu prog 106 [.ag (R33 t0), .i .i64 a, .ag (R80 e2), .i .i64 c, .i .i64 n4] (.i .i64 r):=by
 unfold f106s at h
 refine fI func106 λ_ _=>?_
 refine Rcl 2 q (Bd q q (Zs _) q (Bd q q (Zs _) q (Rll 9 q ?_)))
 refine OG 3 18 21 3 3 ?_
 refine Rlc 2 q (Ci h q (λh=>Rcx 7 q (FA h)) λh=>?_)
 refine Rcl 6 q (Zq (ab p80 z80 q q) q (Al z80 q (sS Z6 s80 Z2 (Rlc 12 q (Jn6 (λf g _ _ _ _=> [(1, .n a),(3, .n c),(4, .n n4),(5, .d (.pc (R33 t0))),(7, .d (.pc (R80 e2))),(11, .pt 0 0),(12, .n f),(13, .d (D.b g))]) (λ_ _ c01v176 c02v177 c03v178 c04v179=> [.row 80 [.d (D.i .u8 e2.kind), .d (D.i .u8 c01v176), .n c02v177, .n c03v178, .n c04v179, .n 0, .n 0, .n 0,sN]]) h (λ_ h=>?_) λf g c01v176 c02v177 c03v178 c04v179 h=>?_)))))
 refine Rcc 13 q (Ci h q (λh=>Rcl 4 q (sS Z6 s2 Z2 (Rlx 2 q (En6 h)))) λh=>?_)
 refine Rcc 6 q (Ci h q (λh=>?_) λh=>?_)
 refine Rcl 5 q (sS Z6 s3 Z2 (Rll 7 q (sS Z6 s3 Z2 (Rll 8 q ?_))))
 obtain⟨G,A,h⟩:=ac h
 refine wF Z4 (f104_c A) Lw Z3 (Rl 1 q ?_)
 obtain⟨B,C,h⟩:=ac h
 refine Gg 9 46 55 B C (λh=>?_) (λh=>?_) ?_
 refine Rl 4 q ?_
 obtain⟨H,j,h⟩:=ac h
 exact Zy (ai e27 q Zl q (aj j) (au cE j) q) q q q (On 4 9 h)
 exact On 9 9 h
 exact Rlx 3 q (En6 h)
 refine Rcc 6 q (Ci h q (λh=>?_) λh=>?_)
 refine Rcl 5 q (sS Z6 s2 Z2 (Rll 7 q ?_))
 refine AG 5 64 69 5 5 ?_
 exact Rlx 3 q (En6 h)
 refine Rcc 6 q (Ci h q (λh=>Rcl 3 q (sS Z6 s78 Z2 (Rlx 6 q (En6 h)))) λh=>?_)
 refine Rcc 6 q (Ci h q (λh=>?_) λh=>?_)
 refine Rcl 5 q (sS Z6 s78 Z2 (Rll 12 q ?_))
 refine AG 4 81 85 4 4 ?_
 exact Rlx 3 q (En6 h)
 refine Jn1 (λk=> [(1, .n a),(3, .n c),(4, .n n4),(5, .d (.pc (R33 t0))),(7, .d (.pc (R80 e2))),(11, .pt 0 0),(13, .d (D.b true)),(86, .d (D.b k))]) (λ_=> [.row 80 [.d (D.i .u8 e2.kind), .d (D.i .u8 0), .n 0, .n 0, .n 0, .n 0, .n 0, .n 0,sN]]) h (λ_ h=>?_) (λk h=>?_)
 exact Rcc 6 q (Ci h q (λh=>Rcx 1 q (En1 h)) λh=>Rcx 4 q (En1 h))
 refine Ci h q (λh=>?_) (λh=>?_)
 exact Rcx 4 q (En6 h)
 exact Rcx 8 q (FA h)
 refine Rcl 8 q ?_
 refine AG 6 94 100 6 6 ?_
 refine Rl 1 q ?_
 refine AG 6 101 107 6 6 ?_
 refine Rl 1 q ?_
 refine AG 6 108 114 6 6 ?_
 refine Rl 1 q ?_
 refine AG 4 115 119 4 4 ?_
 refine Rl 1 q ?_
 refine AG 4 120 124 4 4 ?_
 refine Rl 1 q ?_
 refine AG 4 125 129 4 4 ?_
 refine Rll 9 q ?_
 refine OG 3 132 135 3 3 ?_
 refine Rl 1 q ?_
 apply WL.or 6 (t:=136) (d:=142)
 exact q
 intro I
 exact Rl 2 q (Zy (aa E80 e2.l e73 q q Zl) q q q (Rl 3 q (WL.nil ⟨q,[_,_,_,_,_,_],q,q,q⟩)))
 exact Rn 6 6
 refine Rlc 2 q (Ci h q (λh=>Rcx 7 q (FA h)) λh=>?_)
 refine Rcc 9 q (Jn1 (λm=> [(4, .n m)]) (λ_=> [.row 80 [.d (D.i .u8 e2.kind), .d (D.i .u8 c01v176), .n c02v177, .n c03v178, .n c04v179, .n 0, .n 0, .n 0,sN]]) h (λE h=>?_) λm h=>?_)
 refine Rcc 6 q (Ln2 (λp w=> [(1, .n a),(3, .n c),(4, .n p),(5, .d (.pc (R33 t0))),(7, .d (.pc (R80 e2))),(15, .n w)]) (λ_ _=> [.row 80 [.d (D.i .u8 e2.kind), .d (D.i .u8 c01v176), .n c02v177, .n c03v178, .n c04v179, .n 0, .n 0, .n 0,sN]]) (f106s_l1 e t0 a e2 c E) h (λ_ _ h=>by rw[f106s_l1] at h;cases h) λn p w h=>?_)
 rw[f106s_l1] at h
 refine Rcl 6 q (Zq (aa E80 e2.l e73 q q Zl) q (Rl 2 q ?_))
 refine AG 3 150 153 3 3 ?_
 refine Rlc 2 q (Ci h q (λh=>?_) λh=>?_)
 refine Rcc 4 q (aB kR kR (Rq 5 q ?_))
 obtain⟨J,x,h⟩:=ac h
 refine WQ.qn (ai e73 q Zl q (aj x) (au fh x) q) q (Rq 4 q ?_)
 obtain⟨K,F,h⟩:=ac h
 exact WQ.q (YieldsQ.fn q q q q q (y _ _ _ _ _ _ F) Lw) (Zw q) q q (Rq 1 q (WQ.nil (Rxx 7 q (Fn2 h))))
 exact Rcx 4 q (En1 h)
 exact Rcx 7 q (FA h)

theorem f106_c:∀(n:Nat)(x0:af)(x1:Int)(x2:ap)(x3:Int)(x4:Int){r:Int},f106 n x0 x1 x2 x3 x4=some r→Pu prog 106 [.ag (R33 x0), .i .i64 x1, .ag (R80 x2), .i .i64 x3, .i .i64 x4] (.i .i64 r)
 |0,_,_,_,_,_,_,h=>by cases h
 |n+1,x0,x1,x2,x3,x4,_,h=>f106s_c (f106 n) x0 x1 x2 x3 x4 (λx0 x1 x2 x3 x4 _ h=>f106_c n x0 x1 x2 x3 x4 h) h

theorem f40_c{t0:af}{r:Bool}(h:f40 t0=some r):Pu prog 40 [.ag (R33 t0)] (.b r):=by
 unfold f40 at h
 refine fI func40 λ_ _=>?_
 refine Rcl 2 q (Bd q q (Zs _) q (Rll 8 q (Zq (aa E75 t0.prots e30 q q Zl) q (Rlc 3 q (Ci h q (λh=>?_) λh=>?_)))))
 exact Rcx 7 q (FA h)
 refine Rcc 2 q (Jn0 [(1, .d (.pc (R33 t0)))] [] h (λx h=>?_) λh=>?_)
 refine Rcc 6 q (Ln1 (λc=> [(1, .d (.pc (R33 t0))),(3, .n c)]) (λ_=> []) (f40_l1 t0 x) h (λ_ h=>by rw[f40_l1] at h;cases h) λn c h=>?_)
 rw[f40_l1] at h
 refine Rcl 6 q (Zq (aa E75 t0.prots e30 q q Zl) q (Rlc 3 q (Ci h q (λh=>?_) λh=>?_)))
 refine Rcc 2 q (Jn2 (λ_ _=> [(1, .d (.pc (R33 t0))),(3, .n c)]) (λc00v105 c01v106=> [.row 75 [.n c00v105, .l E80 c01v106]]) h (λy h=>?_) λc00v105 c01v106 h=>?_)
 refine Rcl 6 q (Ix h e30 eJ q Zl q q λa _ h=>(Rl 1 q (Al z75 q (sS Z6 s75 Z2 (Rll 9 q ?_)))))
 refine OG 4 27 31 4 4 ?_
 refine Rl 1 q ?_
 apply WL.or 5 (t:=32) (d:=37)
 exact q
 intro G
 exact Rl 2 q (Zy (aa E80 a.barriers e73 q q Zl) q q q (Rl 2 q (WL.nil ⟨q,[_,_,_,_,_],q,q,q⟩)))
 exact Rn 5 5
 refine Rlc 2 q (Ci h q (λh=>Rcx 12 q (FA h)) λh=>?_)
 refine Rcc 8 q (Ln1 (λj=> [(1, .d (.pc (R33 t0))),(3, .n c),(4, .pt 0 0),(5, .n j)]) (λ_=> [.row 75 [.n a.ceiling, .l E80 a.barriers]]) (f40_l2 t0 y a) h (λ_ h=>by rw[f40_l2] at h;cases h) λna j h=>?_)
 rw[f40_l2] at h
 refine Rcl 6 q (Zq (aa E80 a.barriers e73 q q Zl) q (Rlc 3 q (Ci h q (λh=>?_) λh=>?_)))
 refine Rcc 5 q (aB kR kR (Rq 3 q (WQ.qn (aa E80 a.barriers e73 q q Zl) q (Rq 3 q ?_))))
 obtain⟨H,k,h⟩:=ac h
 refine WQ.qn (ai e73 q Zl q (aj k) (au fh k) q) q (Rq 1 q ?_)
 obtain⟨I,A,h⟩:=ac h
 refine WQ.q (YieldsQ.fn q q q q q (f106_c 67 _ _ _ _ _ A) Lw) (Zw q) q q (Rq 1 q (WQ.nil (Rxc 1 q (Ci h q (λh=>?_) λh=>?_))))
 exact Rcx 15 q (FA h)
 exact Rcx 8 q (Fn1 h)
 exact Rcx 5 q (En2 h)
 exact Rcx 5 q (WE.drop 0 (env':=[(1, .d (.pc (R33 t0))),(3, .n (IntKind.i64.wrap (c+1)))]) Sb q q (Nat.zero_le _) (Fn1 h))
 exact Rcx 4 q (En0 h)
 refine Jn0 [] [] h (λB h=>?_) (λh=>?_)
 refine Rcc 6 q (Ln1 (λe=> [(1, .d (.pc (R33 t0))),(6, .n e)]) (λ_=> []) (f40_l3 t0 B) h (λ_ h=>by rw[f40_l3] at h;cases h) λn e h=>?_)
 rw[f40_l3] at h
 refine Rcl 6 q (Zq (aa cv t0.checks e31 q q Zl) q (Rlc 3 q (Ci h q (λh=>?_) λh=>?_)))
 refine Rcl 9 q (Ix h e31 ek q Zl q q λJ _ h=>(Rl 1 q (Al rC q (sS Z6 xI Z2 (Rlc 3 q (aB kR kR (Rq 3 q ?_)))))))
 obtain⟨K,C,h⟩:=ac h
 refine WQ.q (YieldsQ.fn q q q q q (f21_c C) Lw) (Zw q) q q (Rq 2 q ?_)
 obtain⟨E,m,h⟩:=ac h
 apply WQ.grp 15 (t:=73) (d:=88) (z:=E)
 exact q
 intro f
 have h:=eD m f
 refine Rq 15 q ?_
 obtain rfl:=Oi h
 exact WQ.nil ⟨[_,_,_,_,_,_,_,_,_,_,_,_,_,_,_],q,q,q⟩
 intro f
 have h:=eE m f
 refine Rq 3 q ?_
 obtain⟨F,p,h⟩:=ac h
 apply WQ.grp 11 (t:=76) (d:=87) (z:=F)
 exact q
 intro g
 have h:=eD p g
 refine Rq 4 q ?_
 obtain⟨L,w,h⟩:=ac h
 refine WQ.qy (ai e31 q Zl q (aj w) (au ek w) q) q q q (Rq 6 q ?_)
 obtain rfl:=Oi h
 exact WQ.nil ⟨[_,_,_,_,_,_,_,_,_,_,_],q,q,q⟩
 intro g
 have h:=eE p g
 refine Rq 11 q ?_
 obtain rfl:=Oi h
 exact WQ.nil ⟨[_,_,_,_,_,_,_,_,_,_,_],q,q,q⟩
 refine Rq 1 q ?_
 obtain rfl:=Oi h
 exact WQ.nil ⟨[_,_,_,_,_],q,q,q⟩
 refine Rq 1 q ?_
 apply WQ.or 4 (t:=89) (d:=93)
 exact q
 intro M
 exact Rq 4 q (WQ.nil ⟨[_,_,_,_],q,q,q⟩)
 exact Rq 4 q (WQ.nil ⟨[_,_,_,_],q,q,q⟩)
 refine Rq 1 q ?_
 apply WQ.or 4 (t:=94) (d:=98)
 exact q
 intro N
 exact Rq 4 q (WQ.nil ⟨[_,_,_,_],q,q,q⟩)
 exact Rq 4 q (WQ.nil ⟨[_,_,_,_],q,q,q⟩)
 refine WQ.nil (Rxc 1 q (Ci h q (λh=>?_) λh=>?_))
 exact Rcx 11 q (FA h)
 exact Rcx 8 q (WE.drop 0 (env':=[(1, .d (.pc (R33 t0))),(6, .n (IntKind.i64.wrap (e+1)))]) Sb q q (Nat.zero_le _) (Fn1 h))
 exact Rcx 4 q (En0 h)
 exact Rcx 6 q (FA h)

theorem f107_c{t0:af}{a:Int}{a2:cD}{r:Bool}(h:f107 t0 a a2=some r):Pu prog 107 [.ag (R33 t0), .i .i64 a, .ag (iz a2)] (.b r):=by
 unfold f107 at h
 refine fI func107 λ_ _=>?_
 refine Rcl 2 q (Bd q q (Zs _) q (Bd q q (Zs _) q (Rll 9 q (wF Z4 (f51_c) Lw Z3 (Rl 2 q ?_)))))
 obtain⟨e,f,h⟩:=ac h
 refine Gg 12 12 24 e f (λh=>?_) (λh=>?_) ?_
 exact On 12 12 h
 refine Rl 4 q ?_
 obtain⟨g,j,h⟩:=ac h
 refine Gg 7 16 23 g j (λh=>?_) (λh=>?_) ?_
 refine Rl 4 q ?_
 obtain⟨w,k,h⟩:=ac h
 exact WL.fn q q q q (f104_c k) Lw (aR q q q) q q (On 2 7 h)
 exact On 7 7 h
 exact On 1 6 h
 refine Rlc 2 q (Ci h q (λh=>Rcx 7 q (FA h)) λh=>?_)
 refine Rcc 16 q (Ci h q (λh=>?_) λh=>?_)
 refine Rcl 6 q ?_
 refine AG 4 32 36 4 4 ?_
 refine Rl 1 q ?_
 refine AG 4 37 41 4 4 ?_
 exact Rlx 6 q (FA h)
 refine Jn1 (λc=> [(1, .n a),(3, .d (.pc (R33 t0))),(5, .d (.pc (iz a2))),(42, .d (D.b c))]) (λ_=> []) h (λ_ h=>?_) (λc h=>?_)
 exact Rcc 6 q (Ci h q (λh=>Rcx 1 q (En1 h)) λh=>Rcx 4 q (En1 h))
 refine Ci h q (λh=>?_) (λh=>?_)
 refine Rcl 6 q ?_
 obtain⟨m,p,h⟩:=ac h
 refine Gg 6 48 54 m p (λh=>?_) (λh=>?_) ?_
 refine Rl 4 q ?_
 obtain⟨x,t,h⟩:=ac h
 exact WL.fn q q q q (f104_c t) Lw (aR q q q) q q (On 1 6 h)
 exact On 6 6 h
 exact Rlx 6 q (FA h)
 refine Rcl 9 q ?_
 refine AG 4 58 62 4 4 ?_
 refine Rl 1 q ?_
 refine AG 4 63 67 4 4 ?_
 exact Rlx 4 q (FA h)

theorem f41_c{t0:af}{r:Bool}(h:f41 t0=some r):Pu prog 41 [.ag (R33 t0)] (.b r):=by
 unfold f41 at h
 refine fI func41 λ_ _=>?_
 refine Rcl 2 q (Bd q q (Zs _) q (Rll 8 q (Zq (aa E65 t0.selects e25 q q Zl) q (Rl 2 q ?_))))
 apply WL.or 5 (t:=14) (d:=19)
 exact q
 intro N
 exact Rl 2 q (Zy (aa E54 t0.lists e26 q q Zl) q q q (Rl 2 q (WL.nil ⟨q,[_,_,_,_,_],q,q,q⟩)))
 exact Rn 5 5
 refine Rlc 2 q (Ci h q (λh=>Rcx 7 q (FA h)) λh=>?_)
 refine Rcc 2 q (Jn0 [(1, .d (.pc (R33 t0)))] [] h (λC h=>?_) λh=>?_)
 refine Rcc 6 q (Ln1 (λf=> [(1, .d (.pc (R33 t0))),(3, .n f)]) (λ_=> []) (f41_l1 t0 C) h (λ_ h=>by rw[f41_l1] at h;cases h) λn f h=>?_)
 rw[f41_l1] at h
 refine Rcl 6 q (Zq (aa E65 t0.selects e25 q q Zl) q (Rlc 3 q (Ci h q (λh=>?_) λh=>?_)))
 refine Rcc 2 q (Jn3 (λ_ _ _=> [(1, .d (.pc (R33 t0))),(3, .n f)]) (λc00v134 c01v135 c02v136=> [.row 65 [.l dB c00v134, .n c01v135, .n c02v136]]) h (λE h=>?_) λc00v134 c01v135 c02v136 h=>?_)
 refine Rcl 6 q (Ix h e25 jT q Zl q q λa _ h=>(Rl 1 q (Al z65 q (sS Z6 s65 Z2 (Rll 7 q (Zq (aa dB a.alts e63 q q Zl) q (Rl 2 q ?_)))))))
 apply WL.or 5 (t:=36) (d:=41)
 exact q
 intro O
 exact Rl 2 q (Zy (aa dB a.alts e63 q q Zl) q q q (Rl 2 q (WL.nil ⟨q,[_,_,_,_,_],q,q,q⟩)))
 exact Rn 5 5
 refine Rl 1 q ?_
 obtain⟨F,G,h⟩:=ac h
 refine Gg 6 42 48 F G (λh=>?_) (λh=>?_) ?_
 exact On 6 6 h
 refine Rl 3 q ?_
 obtain⟨P,H,h⟩:=ac h
 exact WL.fn q q q q (f104_c H) Lw (aR q q q) q q (On 2 6 h)
 refine Rl 1 q ?_
 apply WL.or 11 (t:=49) (d:=60)
 exact q
 intro Q
 refine Rl 4 q ?_
 apply WL.and 6 (t:=53) (d:=59)
 exact q
 intro R
 exact Rl 3 q (WL.fn q q q q (f51_c) Lw (aR q q q) q q (Rl 2 q (WL.nil ⟨q,[_,_,_,_,_,_],q,q,q⟩)))
 exact Rn 6 6
 exact Rn 1 6
 exact Rn 11 11
 refine Rlc 2 q (Ci h q (λh=>Rcx 12 q (FA h)) λh=>?_)
 refine Rcc 8 q (Ln1 (λk=> [(1, .d (.pc (R33 t0))),(3, .n f),(4, .pt 0 0),(5, .n k)]) (λ_=> [.row 65 [.l dB a.alts, .n a.obj, .n a.else_]]) (f41_l2 t0 E a) h (λ_ h=>by rw[f41_l2] at h;cases h) λna k h=>?_)
 rw[f41_l2] at h
 refine Rcl 6 q (Zq (aa dB a.alts e63 q q Zl) q (Rlc 3 q (Ci h q (λh=>?_) λh=>?_)))
 refine Rcc 5 q (aB kR kR (Rq 6 q ?_))
 obtain⟨S,m,h⟩:=ac h
 refine WQ.qn (ai e63 q Zl q (aj m) (au jm m) q) q (Rq 1 q ?_)
 obtain⟨T,I,h⟩:=ac h
 refine WQ.q (YieldsQ.fn q q q q q (f107_c I) Lw) (Zw q) q q (Rq 1 q (WQ.nil (Rxc 1 q (Ci h q (λh=>?_) λh=>?_))))
 exact Rcx 15 q (FA h)
 exact Rcx 8 q (Fn1 h)
 exact Rcx 5 q (En3 h)
 exact Rcx 5 q (WE.drop 0 (env':=[(1, .d (.pc (R33 t0))),(3, .n (IntKind.i64.wrap (f+1)))]) Sb q q (Nat.zero_le _) (Fn1 h))
 exact Rcx 4 q (En0 h)
 refine Jn0 [] [] h (λJ h=>?_) (λh=>?_)
 refine Rcc 6 q (Ln1 (λe=> [(1, .d (.pc (R33 t0))),(6, .n e)]) (λ_=> []) (f41_l3 t0 J) h (λ_ h=>by rw[f41_l3] at h;cases h) λn e h=>?_)
 rw[f41_l3] at h
 refine Rcl 6 q (Zq (aa E54 t0.lists e26 q q Zl) q (Rlc 3 q (Ci h q (λh=>?_) λh=>?_)))
 refine Rcc 2 q (Jn0 [(1, .d (.pc (R33 t0))),(6, .n e)] [] h (λK h=>?_) λh=>?_)
 refine Rcl 6 q (Ix h e26 nO q Zl q q λc _ h=>(Rll 8 q (Zq (aa E3 c e54 q q Zl) q (Rlc 3 q (Ci h q (λh=>?_) λh=>?_)))))
 exact Rcx 12 q (FA h)
 refine Rcc 8 q (Ln1 (λg=> [(1, .d (.pc (R33 t0))),(6, .n e),(7, .l E3 c),(8, .n g)]) (λ_=> []) (f41_l4 t0 K c) h (λ_ h=>by rw[f41_l4] at h;cases h) λna g h=>?_)
 rw[f41_l4] at h
 refine Rcl 5 q (Zq (aa E3 c e54 q q Zl) q (Rlc 3 q (Ci h q (λh=>?_) λh=>?_)))
 refine Rcc 2 q (Jn0 [(1, .d (.pc (R33 t0))),(6, .n e),(7, .l E3 c),(8, .n g)] [] h (λL h=>?_) λh=>?_)
 refine Rcc 3 q (aB kR kR (Rq 2 q ?_))
 obtain⟨U,p,h⟩:=ac h
 refine WQ.qn (ai e54 q Zl q (aj p) (au bd p) q) q (Rq 3 q ?_)
 obtain⟨M,w,h⟩:=ac h
 apply WQ.grp 9 (t:=104) (d:=113) (z:=M)
 exact q
 intro j
 have h:=eD w j
 refine Rq 9 q ?_
 obtain rfl:=Oi h
 exact WQ.nil ⟨[_,_,_,_,_,_,_,_,_],q,q,q⟩
 intro j
 have h:=eE w j
 refine Rq 2 q ?_
 obtain⟨V,x,h⟩:=ac h
 refine WQ.qy (ai e54 q Zl q (aj x) (au bd x) q) q q q (Rq 3 q (WQ.qy (aa E70 t0.tasks e29 q q Zl) q q q (Rq 2 q ?_)))
 obtain rfl:=Oi h
 exact WQ.nil ⟨[_,_,_,_,_,_,_,_,_],q,q,q⟩
 refine WQ.nil (Rxc 1 q (Ci h q (λh=>?_) λh=>?_))
 exact Rcx 16 q (FA h)
 refine Rcc 8 q (Ln1 (λy=> [(1, .d (.pc (R33 t0))),(6, .n e),(7, .l E3 c),(8, .n g),(9, .n y)]) (λ_=> []) (f41_l5 c g L) h (λ_ h=>by rw[f41_l5] at h;cases h) λnb y h=>?_)
 rw[f41_l5] at h
 refine Rcc 8 q (Ci h q (λh=>?_) λh=>?_)
 refine Rcc 5 q (aB kR kR (Rq 2 q ?_))
 obtain⟨W,A,h⟩:=ac h
 refine WQ.qn (ai e54 q Zl q (aj A) (au bd A) q) q (Rq 3 q ?_)
 obtain⟨X,B,h⟩:=ac h
 refine WQ.qn (ai e54 q Zl q (aj B) (au bd B) q) q (Rq 2 q (WQ.nil (Rxc 1 q (Ci h q (λh=>?_) λh=>?_))))
 exact Rcx 19 q (FA h)
 exact Rcx 8 q (Fn1 h)
 exact Rcx 5 q (En0 h)
 exact Rcx 5 q (Fn1 h)
 exact Rcx 5 q (En0 h)
 exact Rcx 5 q (Fn1 h)
 exact Rcx 4 q (En0 h)
 exact Rcx 6 q (FA h)

theorem f42_c{t0:af}{r:Bool}(h:f42 t0=some r):Pu prog 42 [.ag (R33 t0)] (.b r):=by
 unfold f42 at h
 refine fI func42 λ_ _=>?_
 refine Rcl 2 q (Bd q q (Zs _) q (Rll 8 q (Zq (aa E83 t0.handlers e23 q q Zl) q (Rlc 3 q (Ci h q (λh=>?_) λh=>?_)))))
 exact Rcx 7 q (FA h)
 refine Rcc 2 q (Jn0 [] [] h (λf h=>?_) λh=>?_)
 refine Rcc 6 q (Ln1 (λa=> [(1, .d (.pc (R33 t0))),(3, .n a)]) (λ_=> []) (f42_l1 t0 f) h (λ_ h=>by rw[f42_l1] at h;cases h) λn a h=>?_)
 rw[f42_l1] at h
 refine Rcl 6 q (Zq (aa E83 t0.handlers e23 q q Zl) q (Rlc 3 q (Ci h q (λh=>?_) λh=>?_)))
 refine Rcc 2 q (Jn4 (λ_ _ _ _=> [(1, .d (.pc (R33 t0))),(3, .n a)]) (λc00v110 c01v111 c02v112 c03v113=> [.row 83 [.n c00v110, .n c01v111, .n c02v112, .d (D.b c03v113)]]) h (λg h=>?_) λc00v110 c01v111 c02v112 c03v113 h=>?_)
 refine Rcl 6 q (Ix h e23 fg q Zl q q λc _ h=>(Rl 1 q (Al z83 q (sS Z6 s83 Z2 (Rll 9 q ?_)))))
 refine OG 6 28 34 6 6 ?_
 refine Rl 1 q ?_
 apply WL.or 7 (t:=35) (d:=42)
 exact q
 intro j
 exact Rl 4 q (Zy (aa E59 t0.insns e22 q q Zl) q q q (Rl 2 q (WL.nil ⟨q,[_,_,_,_,_,_,_],q,q,q⟩)))
 exact Rn 7 7
 refine Rl 1 q ?_
 apply WL.or 6 (t:=43) (d:=49)
 exact q
 intro k
 exact Rl 3 q (WL.fn q q q q (f51_c) Lw (aR q q q) q q (Rl 2 q (WL.nil ⟨q,[_,_,_,_,_,_],q,q,q⟩)))
 exact Rn 6 6
 refine Rl 1 q ?_
 apply WL.or 13 (t:=50) (d:=63)
 exact q
 intro m
 refine Rl 6 q ?_
 refine AG 6 56 62 6 6 ?_
 exact Rn 1 8
 exact Rn 13 13
 refine Rlc 2 q (Ci h q (λh=>Rcx 12 q (FA h)) λh=>?_)
 refine Rcc 8 q (Ln1 (λe=> [(1, .d (.pc (R33 t0))),(3, .n a),(4, .pt 0 0),(5, .n e)]) (λ_=> [.row 83 [.n c.from_, .n c.to, .n c.at_, .d (D.b c.clean)]]) (f42_l2 t0 a g c) h (λ_ h=>by rw[f42_l2] at h;cases h) λna e h=>?_)
 rw[f42_l2] at h
 refine Rcc 8 q (Ci h q (λh=>?_) λh=>?_)
 refine Rcl 9 q (Ix h e23 fg q Zl q q λp _ h=>(Rl 1 q (Al z83 q (sS Z6 s83 Z2 (Rll 10 q ?_)))))
 refine AG 6 79 85 6 6 ?_
 refine Rll 11 q ?_
 refine OG 6 91 97 6 6 ?_
 refine Rll 8 q ?_
 refine AG 3 100 103 3 3 ?_
 refine Rlc 2 q (Ci h q (λh=>Rcx 15 q (FA h)) λh=>?_)
 exact Rcx 8 q (WE.drop 1 (env':=[(1, .d (.pc (R33 t0))),(3, .n a),(4, .pt 0 0),(5, .n (IntKind.i64.wrap (e+1)))]) Sb q q (Nat.zero_le _) (Fn1 h))
 exact Rcx 5 q (En4 h)
 exact Rcx 5 q (WE.drop 0 (env':=[(1, .d (.pc (R33 t0))),(3, .n (IntKind.i64.wrap (a+1)))]) Sb q q (Nat.zero_le _) (Fn1 h))
 exact Rcx 4 q (En0 h)
 exact Rcx 6 q (FA h)

theorem f43_c{t0:af}{r:Bool}(h:f43 t0=some r):Pu prog 43 [.ag (R33 t0)] (.b r):=by
 unfold f43 at h
 refine fI func43 λ_ _=>?_
 refine Rcl 2 q (Bd q q (Zs _) q (Rll 8 q (Zq (aa cm t0.loops e24 q q Zl) q (Rlc 3 q (Ci h q (λh=>?_) λh=>?_)))))
 exact Rcx 7 q (FA h)
 refine Rcc 2 q (Jn0 [] [] h (λk h=>?_) λh=>?_)
 refine Rcc 6 q (Ln1 (λe=> [(1, .d (.pc (R33 t0))),(3, .n e)]) (λ_=> []) (f43_l1 t0 k) h (λ_ h=>by rw[f43_l1] at h;cases h) λn e h=>?_)
 rw[f43_l1] at h
 refine Rcl 6 q (Zq (aa cm t0.loops e24 q q Zl) q (Rlc 3 q (Ci h q (λh=>?_) λh=>?_)))
 refine Rcc 2 q (Jn10 (λ_ _ _ _ _ _ _ _ _ _=> [(1, .d (.pc (R33 t0))),(3, .n e)]) (λc00v98 c01v99 c02v100 c10v101 c11v102 c12v103 c13v104 c14v105 c15v106 c16v107=> [.row 118 [.n c00v98, .n c01v99, .n c02v100], .row 59 [.d (D.i .u8 c10v101), .n c11v102, .n c12v103, .n c13v104, .n c14v105, .n c15v106, .n c16v107]]) h (λp h=>?_) λc00v98 c01v99 c02v100 c10v101 c11v102 c12v103 c13v104 c14v105 c15v106 c16v107 h=>?_)
 refine Rcl 6 q (Ix h e24 dT q Zl q q λf _ h=>(Rl 1 q (Al rD q (sS Z6 xJ Z2 (Rll 8 q (wF Z4 (f51_c) Lw Z3 (Rl 2 q ?_)))))))
 apply WL.or 6 (t:=28) (d:=34)
 exact q
 intro w
 exact Rl 3 q (WL.fn q q q q (f51_c) Lw (aR q q q) q q (Rl 2 q (WL.nil ⟨q,[_,_,_,_,_,_],q,q,q⟩)))
 exact Rn 6 6
 refine Rl 1 q ?_
 refine OG 6 35 41 6 6 ?_
 refine Rl 1 q ?_
 refine OG 4 42 46 4 4 ?_
 refine Rl 1 q ?_
 refine OG 4 47 51 4 4 ?_
 refine Rlc 2 q (Ci h q (λh=>Rcx 12 q (FA h)) λh=>?_)
 refine Rcl 8 q (Ix h e22 cO q Zl q q λc _ h=>(Rl 1 q (Al z59 q (sS Z6 s59 Z2 (Rll 9 q ?_)))))
 refine AG 4 61 65 4 4 ?_
 refine Rl 1 q ?_
 refine AG 4 66 70 4 4 ?_
 refine Rl 1 q ?_
 refine OG 6 71 77 6 6 ?_
 refine Rlc 2 q (Ci h q (λh=>Rcx 12 q (FA h)) λh=>?_)
 refine Rcc 8 q (Ln1 (λg=> [(1, .d (.pc (R33 t0))),(3, .n e),(4, .pt 0 0),(6, .n g)]) (λ_=> [.row 118 [.n f.head, .n f.back, .n f.bound], .row 59 [.d (D.i .u8 c.op), .n c.d, .n c.a, .n c.b, .n c.n, .n c.m, .n c.to]]) (f43_l2 t0 e n p f c) h (λ_ h=>by rw[f43_l2] at h;cases h) λna g h=>?_)
 rw[f43_l2] at h
 refine Rcc 8 q (Ci h q (λh=>?_) λh=>?_)
 refine Rcc 5 q (aB kR kR (Rq 3 q ?_))
 obtain⟨x,j,h⟩:=ac h
 refine WQ.qn (ai e24 q Zl q (aj j) (au dT j) q) q (Rq 5 q (WQ.nil (Rxc 1 q (Ci h q (λh=>?_) λh=>?_))))
 exact Rcx 15 q (FA h)
 exact Rcx 8 q (Fn1 h)
 exact Rcx 5 q (cF ⟨_,_,_,_,_,_,_,_,_,_,h,Sb,Tv⟩)
 exact Rcx 5 q (WE.drop 0 (env':=[(1, .d (.pc (R33 t0))),(3, .n (IntKind.i64.wrap (e+1)))]) Sb q q (Nat.zero_le _) (Fn1 h))
 exact Rcx 4 q (En0 h)
 exact Rcx 6 q (FA h)

theorem f190_c:Pu prog 190 [] (.sl (List.map wX (f190 ))):=by
 generalize h:f190=r
 unfold f190 at h
 refine fI func190 λ_ _=>?_
 refine Rcl 7 q (Zq (ab ay ao q q) q (Zq (ab ay ao q q) q (WL.s ((NewOs.b (ae bD ao q dC dC q q q dC)).does) (Zw q) q q ?_)))
 refine WL.freezeX [3] [] 0 _ q (ah av [fD 68 0 15,fD 78 (-9223372036854775808) 9223372036854775807]) ⟨q,Zt⟩ Zt (Zq (ab br bl q q) q (Zq (ab ay ao q q) q (Zq (ab ay ao q q) q (WL.s ((NewOs.b (ae bD ao q dC dC q q q dC)).does) (Zw q) q q ?_))))
 refine WL.freezeX [7] [] 1 _ q (ah av [fD 68 0 15,fD 65 0 15]) ⟨q,Zt⟩ Zt (Zq (ab br bl q q) q (Zq (ab ay ao q q) q (Zq (ab ay ao q q) q (Zq (ab ay ao q q) q (WL.s ((NewOs.b (ae bD ao q dC dC q q q dC)).does) (Zw q) q q ?_)))))
 refine WL.freezeX [12] [] 2 _ q (ah av [fD 68 0 15,fD 78 0 4095,fD 77 0 65535]) ⟨q,Zt⟩ Zt (Zq (ab br bl q q) q (Zq (ab ay ao q q) q (Zq (ab ay ao q q) q (Zq (ab ay ao q q) q (WL.s ((NewOs.b (ae bD ao q dC dC q q q dC)).does) (Zw q) q q ?_)))))
 refine WL.freezeX [17] [] 3 _ q (ah av [fD 65 0 15,fD 78 0 4095,fD 77 0 65535]) ⟨q,Zt⟩ Zt (Zq (ab br bl q q) q (Zq (ab ay ao q q) q (Zq (ab ay ao q q) q (Zq (ab ay ao q q) q (Zq (ab ay ao q q) q (Zq (ab ay ao q q) q (WL.s ((NewOs.b (ae bD ao q dC dC q q q dC)).does) (Zw q) q q ?_)))))))
 refine WL.freezeX [24] [] 4 _ q (ah av [fD 68 0 15,fD 65 0 15,fD 66 1 65536,fD 78 0 4095,fD 77 0 65535]) ⟨q,Zt⟩ Zt (Zq (ab br bl q q) q (Zq (ab ay ao q q) q (Zq (ab ay ao q q) q (Zq (ab ay ao q q) q (Zq (ab ay ao q q) q (Zq (ab ay ao q q) q (WL.s ((NewOs.b (ae bD ao q dC dC q q q dC)).does) (Zw q) q q ?_)))))))
 refine WL.freezeX [31] [] 5 _ q (ah av [fD 68 0 15,fD 65 0 15,fD 66 1 65536,fD 78 0 4095,fD 77 0 65535]) ⟨q,Zt⟩ Zt (Zq (ab br bl q q) q (Zq (ab ay ao q q) q (Zq (ab ay ao q q) q (WL.s ((NewOs.b (ae bD ao q dC dC q q q dC)).does) (Zw q) q q ?_))))
 refine WL.freezeX [35] [] 6 _ q (ah av [fD 68 0 15,fD 65 0 15]) ⟨q,Zt⟩ Zt (Zq (ab br bl q q) q (Zq (ab ay ao q q) q (Zq (ab ay ao q q) q (WL.s ((NewOs.b (ae bD ao q dC dC q q q dC)).does) (Zw q) q q ?_))))
 refine WL.freezeX [39] [] 7 _ q (ah av [fD 68 0 15,fD 65 0 15]) ⟨q,Zt⟩ Zt (Zq (ab br bl q q) q (Zq (ab ay ao q q) q (Zq (ab ay ao q q) q (Zq (ab ay ao q q) q (WL.s ((NewOs.b (ae bD ao q dC dC q q q dC)).does) (Zw q) q q ?_)))))
 refine WL.freezeX [44] [] 8 _ q (ah av [fD 68 0 15,fD 65 0 15,fD 66 0 15]) ⟨q,Zt⟩ Zt (Zq (ab br bl q q) q (Zq (ab ay ao q q) q (Zq (ab ay ao q q) q (Zq (ab ay ao q q) q (WL.s ((NewOs.b (ae bD ao q dC dC q q q dC)).does) (Zw q) q q ?_)))))
 refine WL.freezeX [49] [] 9 _ q (ah av [fD 68 0 15,fD 65 0 15,fD 66 0 15]) ⟨q,Zt⟩ Zt (Zq (ab br bl q q) q (Zq (ab ay ao q q) q (Zq (ab ay ao q q) q (Zq (ab ay ao q q) q (WL.s ((NewOs.b (ae bD ao q dC dC q q q dC)).does) (Zw q) q q ?_)))))
 refine WL.freezeX [54] [] 10 _ q (ah av [fD 68 0 15,fD 65 0 15,fD 66 0 15]) ⟨q,Zt⟩ Zt (Zq (ab br bl q q) q (Zq (ab ay ao q q) q (Zq (ab ay ao q q) q (Zq (ab ay ao q q) q (WL.s ((NewOs.b (ae bD ao q dC dC q q q dC)).does) (Zw q) q q ?_)))))
 refine WL.freezeX [59] [] 11 _ q (ah av [fD 68 0 15,fD 65 0 15,fD 66 0 15]) ⟨q,Zt⟩ Zt (Zq (ab br bl q q) q (Zq (ab ay ao q q) q (Zq (ab ay ao q q) q (Zq (ab ay ao q q) q (WL.s ((NewOs.b (ae bD ao q dC dC q q q dC)).does) (Zw q) q q ?_)))))
 refine WL.freezeX [64] [] 12 _ q (ah av [fD 68 0 15,fD 65 0 15,fD 66 0 15]) ⟨q,Zt⟩ Zt (Zq (ab br bl q q) q (Zq (ab ay ao q q) q (Zq (ab ay ao q q) q (Zq (ab ay ao q q) q (WL.s ((NewOs.b (ae bD ao q dC dC q q q dC)).does) (Zw q) q q ?_)))))
 refine WL.freezeX [69] [] 13 _ q (ah av [fD 68 0 15,fD 65 0 15,fD 66 0 15]) ⟨q,Zt⟩ Zt (Zq (ab br bl q q) q (Zq (ab ay ao q q) q (Zq (ab ay ao q q) q (Zq (ab ay ao q q) q (WL.s ((NewOs.b (ae bD ao q dC dC q q q dC)).does) (Zw q) q q ?_)))))
 refine WL.freezeX [74] [] 14 _ q (ah av [fD 68 0 15,fD 65 0 15,fD 66 0 15]) ⟨q,Zt⟩ Zt (Zq (ab br bl q q) q (Zq (ab ay ao q q) q (Zq (ab ay ao q q) q (Zq (ab ay ao q q) q (WL.s ((NewOs.b (ae bD ao q dC dC q q q dC)).does) (Zw q) q q ?_)))))
 refine WL.freezeX [79] [] 15 _ q (ah av [fD 68 0 15,fD 65 0 15,fD 66 0 15]) ⟨q,Zt⟩ Zt (Zq (ab br bl q q) q (Zq (ab ay ao q q) q (Zq (ab ay ao q q) q (Zq (ab ay ao q q) q (WL.s ((NewOs.b (ae bD ao q dC dC q q q dC)).does) (Zw q) q q ?_)))))
 refine WL.freezeX [84] [] 16 _ q (ah av [fD 68 0 15,fD 65 0 15,fD 66 0 15]) ⟨q,Zt⟩ Zt (Zq (ab br bl q q) q (Zq (ab ay ao q q) q (Zq (ab ay ao q q) q (Zq (ab ay ao q q) q (WL.s ((NewOs.b (ae bD ao q dC dC q q q dC)).does) (Zw q) q q ?_)))))
 refine WL.freezeX [89] [] 17 _ q (ah av [fD 68 0 15,fD 65 0 15,fD 66 0 15]) ⟨q,Zt⟩ Zt (Zq (ab br bl q q) q (Zq (ab ay ao q q) q (Zq (ab ay ao q q) q (Zq (ab ay ao q q) q (WL.s ((NewOs.b (ae bD ao q dC dC q q q dC)).does) (Zw q) q q ?_)))))
 refine WL.freezeX [94] [] 18 _ q (ah av [fD 68 0 15,fD 65 0 15,fD 66 0 15]) ⟨q,Zt⟩ Zt (Zq (ab br bl q q) q (Zq (ab ay ao q q) q (Zq (ab ay ao q q) q (Zq (ab ay ao q q) q (WL.s ((NewOs.b (ae bD ao q dC dC q q q dC)).does) (Zw q) q q ?_)))))
 refine WL.freezeX [99] [] 19 _ q (ah av [fD 68 0 15,fD 65 0 15,fD 66 0 15]) ⟨q,Zt⟩ Zt (Zq (ab br bl q q) q (Zq (ab ay ao q q) q (Zq (ab ay ao q q) q (Zq (ab ay ao q q) q (WL.s ((NewOs.b (ae bD ao q dC dC q q q dC)).does) (Zw q) q q ?_)))))
 refine WL.freezeX [104] [] 20 _ q (ah av [fD 68 0 15,fD 65 0 15,fD 66 0 15]) ⟨q,Zt⟩ Zt (Zq (ab br bl q q) q (Zq (ab ay ao q q) q (Zq (ab ay ao q q) q (Zq (ab ay ao q q) q (WL.s ((NewOs.b (ae bD ao q dC dC q q q dC)).does) (Zw q) q q ?_)))))
 refine WL.freezeX [109] [] 21 _ q (ah av [fD 68 0 15,fD 65 0 15,fD 66 0 15]) ⟨q,Zt⟩ Zt (Zq (ab br bl q q) q (Zq (ab ay ao q q) q (Zq (ab ay ao q q) q (Zq (ab ay ao q q) q (WL.s ((NewOs.b (ae bD ao q dC dC q q q dC)).does) (Zw q) q q ?_)))))
 refine WL.freezeX [114] [] 22 _ q (ah av [fD 68 0 15,fD 65 0 15,fD 66 0 15]) ⟨q,Zt⟩ Zt (Zq (ab br bl q q) q (Zq (ab ay ao q q) q (Zq (ab ay ao q q) q (WL.s ((NewOs.b (ae bD ao q dC dC q q q dC)).does) (Zw q) q q ?_))))
 refine WL.freezeX [118] [] 23 _ q (ah av [fD 68 0 15,fD 65 0 15]) ⟨q,Zt⟩ Zt (Zq (ab br bl q q) q (Zq (ab ay ao q q) q (Zq (ab ay ao q q) q (WL.s ((NewOs.b (ae bD ao q dC dC q q q dC)).does) (Zw q) q q ?_))))
 refine WL.freezeX [122] [] 24 _ q (ah av [fD 68 0 15,fD 65 0 15]) ⟨q,Zt⟩ Zt (Zq (ab br bl q q) q (Zq (ab ay ao q q) q (Zq (ab ay ao q q) q (WL.s ((NewOs.b (ae bD ao q dC dC q q q dC)).does) (Zw q) q q ?_))))
 refine WL.freezeX [126] [] 25 _ q (ah av [fD 68 0 15,fD 65 0 15]) ⟨q,Zt⟩ Zt (Zq (ab br bl q q) q (Zq (ab ay ao q q) q (Zq (ab ay ao q q) q (Zq (ab ay ao q q) q (WL.s ((NewOs.b (ae bD ao q dC dC q q q dC)).does) (Zw q) q q ?_)))))
 refine WL.freezeX [131] [] 26 _ q (ah av [fD 65 0 15,fD 78 (-9223372036854775808) 9223372036854775807,fD 77 (-9223372036854775808) 9223372036854775807]) ⟨q,Zt⟩ Zt (Zq (ab br bl q q) q (Zq (ab ay ao q q) q (WL.s ((NewOs.b (ae bD ao q dC dC q q q dC)).does) (Zw q) q q ?_)))
 refine WL.freezeX [134] [] 27 _ q (ah av [fD 65 0 15]) ⟨q,Zt⟩ Zt (Zq (ab br bl q q) q (Zq (ab ay ao q q) q (WL.s ((NewOs.b (ae bD ao q dC dC q q q dC)).does) (Zw q) q q ?_)))
 refine WL.freezeX [137] [] 28 _ q (ah av [fD 84 0 65535]) ⟨q,Zt⟩ Zt (Zq (ab br bl q q) q (Zq (ab ay ao q q) q (Zq (ab ay ao q q) q (WL.s ((NewOs.b (ae bD ao q dC dC q q q dC)).does) (Zw q) q q ?_))))
 refine WL.freezeX [141] [] 29 _ q (ah av [fD 65 0 15,fD 84 0 65535]) ⟨q,Zt⟩ Zt (Zq (ab br bl q q) q (Zq (ab ay ao q q) q (Zq (ab ay ao q q) q (WL.s ((NewOs.b (ae bD ao q dC dC q q q dC)).does) (Zw q) q q ?_))))
 refine WL.freezeX [145] [] 30 _ q (ah av [fD 65 0 15,fD 84 0 65535]) ⟨q,Zt⟩ Zt (Zq (ab br bl q q) q (Zq (ab ay ao q q) q (Zq (ab ay ao q q) q (Zq (ab ay ao q q) q (Zq (ab ay ao q q) q (WL.s ((NewOs.b (ae bD ao q dC dC q q q dC)).does) (Zw q) q q ?_))))))
 refine WL.freezeX [151] [] 31 _ q (ah av [fD 65 0 15,fD 78 (-9223372036854775808) 9223372036854775807,fD 77 1 65536,fD 84 0 65535]) ⟨q,Zt⟩ Zt (Zq (ab br bl q q) q (Zq (ab ay ao q q) q (WL.s ((NewOs.b (ae bD ao q dC dC q q q dC)).does) (Zw q) q q ?_)))
 refine WL.freezeX [154] [] 32 _ q (ah av [fD 78 1 64]) ⟨q,Zt⟩ Zt (Zq (ab br bl q q) q (Zq (ab ay ao q q) q (WL.s ((NewOs.b (ae bD ao q dC dC q q q dC)).does) (Zw q) q q ?_)))
 refine WL.freezeX [157] [] 33 _ q (ah av [fD 65 0 15]) ⟨q,Zt⟩ Zt (Zq (ab br bl q q) q (Zq (ab ay ao q q) q (WL.s ((NewOs.b (ae bD ao q dC dC q q q dC)).does) (Zw q) q q ?_)))
 refine WL.freezeX [160] [] 34 _ q (ah av [fD 65 0 15]) ⟨q,Zt⟩ Zt (Zq (ab br bl q q) q (Zq (ab ay ao q q) q (WL.s ((NewOs.b (ae bD ao q dC dC q q q dC)).does) (Zw q) q q ?_)))
 refine WL.freezeX [163] [] 35 _ q (ah av [fD 68 0 15]) ⟨q,Zt⟩ Zt (Zq (ab br bl q q) q (Zq (ab ay ao q q) q (Zq (ab ay ao q q) q (WL.s ((NewOs.b (ae bD ao q dC dC q q q dC)).does) (Zw q) q q ?_))))
 refine WL.freezeX [167] [] 36 _ q (ah av [fD 78 6 7,fD 77 0 65535]) ⟨q,Zt⟩ Zt (Zq (ab br bl q q) q (Zq (ab ay ao q q) q (WL.s ((NewOs.b (ae bD ao q dC dC q q q dC)).does) (Zw q) q q ?_)))
 refine WL.freezeX [170] [] 37 _ q (ah av [fD 68 0 15]) ⟨q,Zt⟩ Zt (Zq (ab br bl q q) q (Zq (ab ay ao q q) q (WL.s ((NewOs.b (ae bD ao q dC dC q q q dC)).does) (Zw q) q q ?_)))
 refine WL.freezeX [173] [] 38 _ q (ah av [fD 65 0 15]) ⟨q,Zt⟩ Zt (Zq (ab br bl q q) q (Zq (ab br bl q q) q (Zq (ab br bl q q) q (Zq (ab ay ao q q) q (WL.s ((NewOs.b (ae bD ao q dC dC q q q dC)).does) (Zw q) q q ?_)))))
 refine WL.freezeX [178] [] 39 _ q (ah av [fD 68 0 15]) ⟨q,Zt⟩ Zt (Zq (ab br bl q q) q (Zq (ab ay ao q q) q (Zq (ab ay ao q q) q (Zq (ab ay ao q q) q (WL.s ((NewOs.b (ae bD ao q dC dC q q q dC)).does) (Zw q) q q ?_)))))
 refine WL.freezeX [183] [] 40 _ q (ah av [fD 68 0 15,fD 78 0 7,fD 77 (-1) 31]) ⟨q,Zt⟩ Zt (Zq (ab br bl q q) q (Zq (ab ay ao q q) q (WL.s ((NewOs.b (ae bD ao q dC dC q q q dC)).does) (Zw q) q q ?_)))
 refine WL.freezeX [186] [] 41 _ q (ah av [fD 78 0 65535]) ⟨q,Zt⟩ Zt (Zq (ab br bl q q) q (Zq (ab ay ao q q) q (WL.s ((NewOs.b (ae bD ao q dC dC q q q dC)).does) (Zw q) q q ?_)))
 refine WL.freezeX [189] [] 42 _ q (ah av [fD 78 0 65535]) ⟨q,Zt⟩ Zt (Zq (ab br bl q q) q (Zq (ab ay ao q q) q (Zq (ab ay ao q q) q (WL.s ((NewOs.b (ae bD ao q dC dC q q q dC)).does) (Zw q) q q ?_))))
 refine WL.freezeX [193] [] 43 _ q (ah av [fD 65 0 15,fD 78 0 65535]) ⟨q,Zt⟩ Zt (Zq (ab br bl q q) q (Zq (ab ay ao q q) q (WL.s ((NewOs.b (ae bD ao q dC dC q q q dC)).does) (Zw q) q q ?_)))
 refine WL.freezeX [196] [] 44 _ q (ah av [fD 65 0 15]) ⟨q,Zt⟩ Zt (Zq (ab br bl q q) q (Zq (ab ay ao q q) q (WL.s ((NewOs.b (ae bD ao q dC dC q q q dC)).does) (Zw q) q q ?_)))
 refine WL.freezeX [199] [] 45 _ q (ah av [fD 65 0 15]) ⟨q,Zt⟩ Zt (Zq (ab br bl q q) q (Zq (ab ay ao q q) q (Zq (ab ay ao q q) q (Zq (ab ay ao q q) q (Zq (ab ay ao q q) q (Zq (ab ay ao q q) q (WL.s ((NewOs.b (ae bD ao q dC dC q q q dC)).does) (Zw q) q q ?_)))))))
 refine WL.freezeX [206] [] 46 _ q (ah av [fD 68 0 15,fD 65 0 31,fD 66 0 7,fD 78 0 4095,fD 77 0 3]) ⟨q,Zt⟩ Zt (Zq (ab br bl q q) q (Zq (ab ay ao q q) q (WL.s ((NewOs.b (ae bD ao q dC dC q q q dC)).does) (Zw q) q q ?_)))
 refine WL.freezeX [209] [] 47 _ q (ah av [fD 78 0 1023]) ⟨q,Zt⟩ Zt (Zq (ab br bl q q) q (Zq (ab ay ao q q) q (WL.s ((NewOs.b (ae bD ao q dC dC q q q dC)).does) (Zw q) q q ?_)))
 refine WL.freezeX [212] [] 48 _ q (ah av [fD 78 0 1]) ⟨q,Zt⟩ Zt (Zq (ab br bl q q) q (Zq (ab ay ao q q) q (Zq (ab ay ao q q) q (Zq (ab ay ao q q) q (Zq (ab ay ao q q) q (WL.s ((NewOs.b (ae bD ao q dC dC q q q dC)).does) (Zw q) q q ?_))))))
 refine WL.freezeX [218] [] 49 _ q (ah av [fD 65 0 31,fD 66 0 7,fD 78 0 1,fD 84 0 65535]) ⟨q,Zt⟩ Zt (Zq (ab br bl q q) q (Zq (ab ay ao q q) q (WL.s ((NewOs.b (ae bD ao q dC dC q q q dC)).does) (Zw q) q q ?_)))
 refine WL.freezeX [221] [] 50 _ q (ah av [fD 78 0 31]) ⟨q,Zt⟩ Zt (Zq (ab br bl q q) q (Zq (ab ay ao q q) q (Zq (ab ay ao q q) q (Zq (ab ay ao q q) q (Zq (ab ay ao q q) q (Zq (ab ay ao q q) q (WL.s ((NewOs.b (ae bD ao q dC dC q q q dC)).does) (Zw q) q q ?_)))))))
 refine WL.freezeX [228] [] 51 _ q (ah av [fD 68 0 15,fD 65 0 15,fD 66 0 3,fD 78 0 31,fD 77 0 7]) ⟨q,Zt⟩ Zt (Zq (ab br bl q q) q (Zq (ab ay ao q q) q (WL.s ((NewOs.b (ae bD ao q dC dC q q q dC)).does) (Zw q) q q ?_)))
 refine WL.freezeX [231] [] 52 _ q (ah av [fD 78 0 31]) ⟨q,Zt⟩ Zt (Zq (ab br bl q q) q (Zq (ab ay ao q q) q (WL.s ((NewOs.b (ae bD ao q dC dC q q q dC)).does) (Zw q) q q ?_)))
 refine WL.freezeX [234] [] 53 _ q (ah av [fD 78 0 65535]) ⟨q,Zt⟩ Zt (Zq (ab br bl q q) q (Zq (ab br bl q q) q ?_))
 refine WL.s ((NewOs.b (NewOs.weak (es':=List.map (aT wU) [(Row.mk 1 (bA #[108,105]) [fD 68 0 15,fD 78 (-9223372036854775808) 9223372036854775807]),(Row.mk 2 (bA #[109,118]) [fD 68 0 15,fD 65 0 15]),(Row.mk 3 (bA #[108,100]) [fD 68 0 15,fD 78 0 4095,fD 77 0 65535]),(Row.mk 4 (bA #[115,116]) [fD 65 0 15,fD 78 0 4095,fD 77 0 65535]),(Row.mk 5 (bA #[108,100,120]) [fD 68 0 15,fD 65 0 15,fD 66 1 65536,fD 78 0 4095,fD 77 0 65535]),(Row.mk 6 (bA #[115,116,120]) [fD 68 0 15,fD 65 0 15,fD 66 1 65536,fD 78 0 4095,fD 77 0 65535]),(Row.mk 7 (bA #[108,100,97]) [fD 68 0 15,fD 65 0 15]),(Row.mk 8 (bA #[115,116,97]) [fD 68 0 15,fD 65 0 15]),(Row.mk 9 (bA #[97,100,100]) [fD 68 0 15,fD 65 0 15,fD 66 0 15]),(Row.mk 10 (bA #[115,117,98]) [fD 68 0 15,fD 65 0 15,fD 66 0 15]),(Row.mk 11 (bA #[109,117,108]) [fD 68 0 15,fD 65 0 15,fD 66 0 15]),(Row.mk 12 (bA #[100,105,118]) [fD 68 0 15,fD 65 0 15,fD 66 0 15]),(Row.mk 13 (bA #[114,101,109]) [fD 68 0 15,fD 65 0 15,fD 66 0 15]),(Row.mk 14 (bA #[109,111,100]) [fD 68 0 15,fD 65 0 15,fD 66 0 15]),(Row.mk 15 (bA #[101,113]) [fD 68 0 15,fD 65 0 15,fD 66 0 15]),(Row.mk 16 (bA #[110,101]) [fD 68 0 15,fD 65 0 15,fD 66 0 15]),(Row.mk 17 (bA #[108,116]) [fD 68 0 15,fD 65 0 15,fD 66 0 15]),(Row.mk 18 (bA #[108,101]) [fD 68 0 15,fD 65 0 15,fD 66 0 15]),(Row.mk 19 (bA #[103,116]) [fD 68 0 15,fD 65 0 15,fD 66 0 15]),(Row.mk 20 (bA #[103,101]) [fD 68 0 15,fD 65 0 15,fD 66 0 15]),(Row.mk 21 (bA #[97,110,100]) [fD 68 0 15,fD 65 0 15,fD 66 0 15]),(Row.mk 22 (bA #[111,114]) [fD 68 0 15,fD 65 0 15,fD 66 0 15]),(Row.mk 23 (bA #[120,111,114]) [fD 68 0 15,fD 65 0 15,fD 66 0 15]),(Row.mk 24 (bA #[110,101,103]) [fD 68 0 15,fD 65 0 15]),(Row.mk 25 (bA #[97,98,115]) [fD 68 0 15,fD 65 0 15]),(Row.mk 26 (bA #[110,111,116]) [fD 68 0 15,fD 65 0 15]),(Row.mk 27 (bA #[99,104,107]) [fD 65 0 15,fD 78 (-9223372036854775808) 9223372036854775807,fD 77 (-9223372036854775808) 9223372036854775807]),(Row.mk 28 (bA #[99,104,107,122]) [fD 65 0 15]),(Row.mk 29 (bA #[106,109,112]) [fD 84 0 65535]),(Row.mk 30 (bA #[106,122]) [fD 65 0 15,fD 84 0 65535]),(Row.mk 31 (bA #[106,110,122]) [fD 65 0 15,fD 84 0 65535]),(Row.mk 32 (bA #[106,116]) [fD 65 0 15,fD 78 (-9223372036854775808) 9223372036854775807,fD 77 1 65536,fD 84 0 65535]),(Row.mk 33 (bA #[114,97,105,115,101]) [fD 78 1 64]),(Row.mk 34 (bA #[114,97,105,115,101,114]) [fD 65 0 15]),(Row.mk 35 (bA #[99,111,110,116]) [fD 65 0 15]),(Row.mk 36 (bA #[101,120,99]) [fD 68 0 15]),(Row.mk 37 (bA #[109,97,114,107]) [fD 78 6 7,fD 77 0 65535]),(Row.mk 38 (bA #[103,101,116]) [fD 68 0 15]),(Row.mk 39 (bA #[112,117,116]) [fD 65 0 15]),(Row.mk 40 (bA #[100,101,102,101,114]) []),(Row.mk 41 (bA #[97,108,108,111,119]) []),(Row.mk 42 (bA #[99,108,111,99,107]) [fD 68 0 15]),(Row.mk 43 (bA #[99,111,117,110,116]) [fD 68 0 15,fD 78 0 7,fD 77 (-1) 31]),(Row.mk 44 (bA #[115,116,97,114,116]) [fD 78 0 65535]),(Row.mk 45 (bA #[110,101,118,101,114]) [fD 78 0 65535]),(Row.mk 46 (bA #[97,119,97,105,116]) [fD 65 0 15,fD 78 0 65535]),(Row.mk 47 (bA #[100,101,108,97,121]) [fD 65 0 15]),(Row.mk 48 (bA #[117,110,116,105,108]) [fD 65 0 15]),(Row.mk 49 (bA #[99,97,108,108]) [fD 68 0 15,fD 65 0 31,fD 66 0 7,fD 78 0 4095,fD 77 0 3]),(Row.mk 50 (bA #[115,101,108]) [fD 78 0 1023]),(Row.mk 51 (bA #[100,111,110,101]) [fD 78 0 1]),(Row.mk 52 (bA #[114,101,113]) [fD 65 0 31,fD 66 0 7,fD 78 0 1,fD 84 0 65535]),(Row.mk 53 (bA #[108,111,99,107]) [fD 78 0 31]),(Row.mk 54 (bA #[112,101,110,116]) [fD 68 0 15,fD 65 0 15,fD 66 0 3,fD 78 0 31,fD 77 0 7]),(Row.mk 55 (bA #[117,110,108,111,99,107]) [fD 78 0 31]),(Row.mk 56 (bA #[97,98,111,114,116]) [fD 78 0 65535]),(Row.mk 57 (bA #[101,110,100]) [])]) (ae l292 bl q dC dC q q q dC) (by exact⟨Lw,Lw,Lw,Lw,Lw,Lw,Lw,Lw,Lw,Lw,Lw,Lw,Lw,Lw,Lw,Lw,Lw,Lw,Lw,Lw,Lw,Lw,Lw,Lw,Lw,Lw,Lw,Lw,Lw,Lw,Lw,Lw,Lw,Lw,Lw,Lw,Lw,Lw,Lw,⟨Zl,Zl,Le.nil,Zt⟩,⟨Zl,Zl,Le.nil,Zt⟩,Lw,Lw,Lw,Lw,Lw,Lw,Lw,Lw,Lw,Lw,Lw,Lw,Lw,Lw,Lw,⟨Zl,Zl,Le.nil,Zt⟩,Zt⟩))).does) (Zw q) q q ?_
 refine Rlx 4 q ?_
 refine WE.freezeX [0,237] [] 54 _ q (ah nP [(Row.mk 1 (bA #[108,105]) [fD 68 0 15,fD 78 (-9223372036854775808) 9223372036854775807]),(Row.mk 2 (bA #[109,118]) [fD 68 0 15,fD 65 0 15]),(Row.mk 3 (bA #[108,100]) [fD 68 0 15,fD 78 0 4095,fD 77 0 65535]),(Row.mk 4 (bA #[115,116]) [fD 65 0 15,fD 78 0 4095,fD 77 0 65535]),(Row.mk 5 (bA #[108,100,120]) [fD 68 0 15,fD 65 0 15,fD 66 1 65536,fD 78 0 4095,fD 77 0 65535]),(Row.mk 6 (bA #[115,116,120]) [fD 68 0 15,fD 65 0 15,fD 66 1 65536,fD 78 0 4095,fD 77 0 65535]),(Row.mk 7 (bA #[108,100,97]) [fD 68 0 15,fD 65 0 15]),(Row.mk 8 (bA #[115,116,97]) [fD 68 0 15,fD 65 0 15]),(Row.mk 9 (bA #[97,100,100]) [fD 68 0 15,fD 65 0 15,fD 66 0 15]),(Row.mk 10 (bA #[115,117,98]) [fD 68 0 15,fD 65 0 15,fD 66 0 15]),(Row.mk 11 (bA #[109,117,108]) [fD 68 0 15,fD 65 0 15,fD 66 0 15]),(Row.mk 12 (bA #[100,105,118]) [fD 68 0 15,fD 65 0 15,fD 66 0 15]),(Row.mk 13 (bA #[114,101,109]) [fD 68 0 15,fD 65 0 15,fD 66 0 15]),(Row.mk 14 (bA #[109,111,100]) [fD 68 0 15,fD 65 0 15,fD 66 0 15]),(Row.mk 15 (bA #[101,113]) [fD 68 0 15,fD 65 0 15,fD 66 0 15]),(Row.mk 16 (bA #[110,101]) [fD 68 0 15,fD 65 0 15,fD 66 0 15]),(Row.mk 17 (bA #[108,116]) [fD 68 0 15,fD 65 0 15,fD 66 0 15]),(Row.mk 18 (bA #[108,101]) [fD 68 0 15,fD 65 0 15,fD 66 0 15]),(Row.mk 19 (bA #[103,116]) [fD 68 0 15,fD 65 0 15,fD 66 0 15]),(Row.mk 20 (bA #[103,101]) [fD 68 0 15,fD 65 0 15,fD 66 0 15]),(Row.mk 21 (bA #[97,110,100]) [fD 68 0 15,fD 65 0 15,fD 66 0 15]),(Row.mk 22 (bA #[111,114]) [fD 68 0 15,fD 65 0 15,fD 66 0 15]),(Row.mk 23 (bA #[120,111,114]) [fD 68 0 15,fD 65 0 15,fD 66 0 15]),(Row.mk 24 (bA #[110,101,103]) [fD 68 0 15,fD 65 0 15]),(Row.mk 25 (bA #[97,98,115]) [fD 68 0 15,fD 65 0 15]),(Row.mk 26 (bA #[110,111,116]) [fD 68 0 15,fD 65 0 15]),(Row.mk 27 (bA #[99,104,107]) [fD 65 0 15,fD 78 (-9223372036854775808) 9223372036854775807,fD 77 (-9223372036854775808) 9223372036854775807]),(Row.mk 28 (bA #[99,104,107,122]) [fD 65 0 15]),(Row.mk 29 (bA #[106,109,112]) [fD 84 0 65535]),(Row.mk 30 (bA #[106,122]) [fD 65 0 15,fD 84 0 65535]),(Row.mk 31 (bA #[106,110,122]) [fD 65 0 15,fD 84 0 65535]),(Row.mk 32 (bA #[106,116]) [fD 65 0 15,fD 78 (-9223372036854775808) 9223372036854775807,fD 77 1 65536,fD 84 0 65535]),(Row.mk 33 (bA #[114,97,105,115,101]) [fD 78 1 64]),(Row.mk 34 (bA #[114,97,105,115,101,114]) [fD 65 0 15]),(Row.mk 35 (bA #[99,111,110,116]) [fD 65 0 15]),(Row.mk 36 (bA #[101,120,99]) [fD 68 0 15]),(Row.mk 37 (bA #[109,97,114,107]) [fD 78 6 7,fD 77 0 65535]),(Row.mk 38 (bA #[103,101,116]) [fD 68 0 15]),(Row.mk 39 (bA #[112,117,116]) [fD 65 0 15]),(Row.mk 40 (bA #[100,101,102,101,114]) []),(Row.mk 41 (bA #[97,108,108,111,119]) []),(Row.mk 42 (bA #[99,108,111,99,107]) [fD 68 0 15]),(Row.mk 43 (bA #[99,111,117,110,116]) [fD 68 0 15,fD 78 0 7,fD 77 (-1) 31]),(Row.mk 44 (bA #[115,116,97,114,116]) [fD 78 0 65535]),(Row.mk 45 (bA #[110,101,118,101,114]) [fD 78 0 65535]),(Row.mk 46 (bA #[97,119,97,105,116]) [fD 65 0 15,fD 78 0 65535]),(Row.mk 47 (bA #[100,101,108,97,121]) [fD 65 0 15]),(Row.mk 48 (bA #[117,110,116,105,108]) [fD 65 0 15]),(Row.mk 49 (bA #[99,97,108,108]) [fD 68 0 15,fD 65 0 31,fD 66 0 7,fD 78 0 4095,fD 77 0 3]),(Row.mk 50 (bA #[115,101,108]) [fD 78 0 1023]),(Row.mk 51 (bA #[100,111,110,101]) [fD 78 0 1]),(Row.mk 52 (bA #[114,101,113]) [fD 65 0 31,fD 66 0 7,fD 78 0 1,fD 84 0 65535]),(Row.mk 53 (bA #[108,111,99,107]) [fD 78 0 31]),(Row.mk 54 (bA #[112,101,110,116]) [fD 68 0 15,fD 65 0 15,fD 66 0 3,fD 78 0 31,fD 77 0 7]),(Row.mk 55 (bA #[117,110,108,111,99,107]) [fD 78 0 31]),(Row.mk 56 (bA #[97,98,111,114,116]) [fD 78 0 65535]),(Row.mk 57 (bA #[101,110,100]) [])]) ⟨q,q,Zt⟩ Zt ?_
 exact FB h

theorem f160_c{o0:Int}{r:Row×Bool}(h:f160 o0=some r):Pu prog 160 [.i .u8 o0] (.tu [.ag (wU r.1), .b r.2]):=by
 unfold f160 at h
 refine fI func160 λ_ _=>?_
 refine Rcl 2 q (Al bl q (Rll 5 q (WL.fn q q q q (f190_c) Zt (Zw q) q q (Rlc 3 q (Jn0 [(2, .pt 0 0)] [.row 243 [.d (D.i .u8 0), .d (D.s ByteArray.empty),sN]] h (λc h=>?_) λh=>?_)))))
 refine Rcc 6 q (Ln1 (λa=> [(0, .d (D.i .u8 o0)),(2, .pt 0 0),(4, .l wX f190),(5, .n a)]) (λ_=> [.row 243 [.d (D.i .u8 0), .d (D.s ByteArray.empty),sN]]) (f160_l1 o0 c) h (λ_ h=>by rw[f160_l1] at h;cases h) λn a h=>?_)
 rw[f160_l1] at h
 refine Rcl 5 q (Zq (aa wX f190 yD q q Zl) q (Rlc 3 q (Ci h q (λh=>?_) λh=>?_)))
 refine Rcl 8 q (Ix h yD nP q Zl q q λe _ h=>(Rlc 6 q (Ci h q (λh=>?_) λh=>?_)))
 refine Rcl 4 q (Ix h yD nP q Zl q q λf _ h=>(Rl 1 q (sS Z6 tk Z2 (Rlx 9 q ?_))))
 obtain rfl:=Oi h
 exact aW (rs2 q (cX q q a243 tk q) (bv q)) (bQ ⟨(aK (Zs _)),Zl,Zt⟩)
 exact Rcx 8 q (Fn1 h)
 exact Rcx 4 q (En0 h)
 refine Rcl 2 q (Zq (ab br bl q q) q (sS Z6 tk Z2 (Rlx 4 q ?_)))
 obtain rfl:=Oi h
 exact aW (rs2 q (cX q q a243 tk q) (bv q)) (bQ ⟨(aK ⟨Zl,Zl,Le.nil,Zt⟩),Zl,Zt⟩)

theorem f161_c{x0:aE}{f1:Int}:Pu prog 161 [.ag (R59 x0), .i .u8 f1] (.i .i64 (f161 x0 f1)):=by
 generalize h:f161 x0 f1=r
 unfold f161 at h
 refine fI func161 λ_ _=>?_
 refine Rcl 2 q (Bd q q (Zs _) q (Rlc 16 q (Ci h q (λh=>?_) λh=>?_)))
 exact Rcx 10 q (FB h)
 refine Rcc 6 q (Ci h q (λh=>Rcx 10 q (FB h)) λh=>?_)
 refine Rcc 6 q (Ci h q (λh=>Rcx 10 q (FB h)) λh=>?_)
 refine Rcc 6 q (Ci h q (λh=>Rcx 10 q (FB h)) λh=>?_)
 exact Rcc 6 q (Ci h q (λh=>Rcx 10 q (FB h)) λh=>Rcx 11 q (FB h))

theorem f162_c(x0:aE)(f1:Int)(v2:Int):Pu prog 162 [.ag (R59 x0), .i .u8 f1, .i .i64 v2] (.ag (R59 (f162 x0 f1 v2))):=by
 generalize h:f162 x0 f1 v2=r
 unfold f162 at h
 refine fI func162 λ_ _=>?_
 refine Rcl 2 q (Bx q q q (Al z59 q (Rlc 2 q (Jn6 (λ_ _ _ _ _ _=> [(3, .pt 0 0),(6, .pt 1 0)]) (λc01v35 c02v36 c03v37 c04v38 c05v39 c06v40=> [.row 59 [.d (D.i .u8 x0.op), .n c01v35, .n c02v36, .n c03v37, .n c04v38, .n c05v39, .n c06v40], .row 59 [.d (D.i .u8 0), .n 0, .n 0, .n 0, .n 0, .n 0, .n 0]]) h (λ_ h=>?_) λc01v35 c02v36 c03v37 c04v38 c05v39 c06v40 h=>?_))))
 refine Rcc 12 q (Ci h q (λh=>Rcl 3 q (sS Z6 s3 Z2 (Rlx 2 q (En6 h)))) λh=>?_)
 refine Rcc 6 q (Ci h q (λh=>Rcl 3 q (sS Z6 s3 Z2 (Rlx 2 q (En6 h)))) λh=>?_)
 refine Rcc 6 q (Ci h q (λh=>Rcl 3 q (sS Z6 s3 Z2 (Rlx 2 q (En6 h)))) λh=>?_)
 refine Rcc 6 q (Ci h q (λh=>Rcl 3 q (sS Z6 s2 Z2 (Rlx 2 q (En6 h)))) λh=>?_)
 exact Rcc 6 q (Ci h q (λh=>Rcl 3 q (sS Z6 s2 Z2 (Rlx 2 q (En6 h)))) λh=>Rcl 3 q (sS Z6 s3 Z2 (Rlx 2 q (En6 h))))
 refine Rcl 3 q (sS Z6 s59 Z2 (Rlx 3 q ?_))
 subst h
 exact aW (rs1 q (cX q q a59 s59 q)) (aK (Zs _))

theorem f108_c{x0:aE}{r:Bool}(h:f108 x0=some r):Pu prog 108 [.ag (R59 x0)] (.b r):=by
 unfold f108 at h
 refine fI func108 λ_ _=>?_
 refine Rcl 2 q (Bd q q (Zs _) q (Rll 7 q ?_))
 obtain⟨a,e,h⟩:=ac h
 refine wF Z4 (f160_c e) Lw Z3 (Rl 3 q (Al bl q (sS Z6 tk Z2 (Rlc 10 q (Ci h q (λh=>?_) λh=>?_)))))
 exact Rcx 7 q (FA h)
 refine Rcl 5 q (Al z59 q (sS Z6 s59 Z2 (Rll 5 q (sS Z6 s57 Z2 (Rlc 2 q (Jn7 (λ_ _ _ _ _ _ _=> [(1, .d (.pc (R59 x0))),(5, .pt 1 0)]) (λc10v82 c11v83 c12v84 c13v85 c14v86 c15v87 c16v88=> [.row 243 [.d (D.i .u8 a.1.op), .d (D.s a.1.name), .l uY a.1.fields], .row 59 [.d (D.i .u8 c10v82), .n c11v83, .n c12v84, .n c13v85, .n c14v86, .n c15v87, .n c16v88]]) h (λf h=>?_) λc10v82 c11v83 c12v84 c13v85 c14v86 c15v87 c16v88 h=>?_))))))
 refine Rcc 6 q (Ln8 (λc _ _ _ _ _ _ _=> [(1, .d (.pc (R59 x0))),(3, .pt 0 0),(5, .pt 1 0),(6, .n c)]) (λ_ c10v99 c11v100 c12v101 c13v102 c14v103 c15v104 c16v105=> [.row 243 [.d (D.i .u8 a.1.op), .d (D.s a.1.name), .l uY a.1.fields], .row 59 [.d (D.i .u8 c10v99), .n c11v100, .n c12v101, .n c13v102, .n c14v103, .n c15v104, .n c16v105]]) (f108_l1 x0 a f) h (λ_ _ _ _ _ _ _ _ h=>by rw[f108_l1] at h;cases h) λn c c10v99 c11v100 c12v101 c13v102 c14v103 c15v104 c16v105 h=>?_)
 rw[f108_l1] at h
 refine Rcl 6 q (Zq (aa uY a.1.fields e241 q q Zl) q (Rlc 3 q (Ci h q (λh=>?_) λh=>?_)))
 refine Rcl 9 q (Ix h e241 av q Zl q q λg _ h=>(Rl 1 q (Al ao q (sS Z6 s247 Z2 (Rll 7 q (wF Z4 (f161_c) Lw Z3 (Rll 11 q ?_)))))))
 refine OG 5 39 44 5 5 ?_
 refine Rlc 2 q (Ci h q (λh=>Rcx 12 q (FA h)) λh=>?_)
 exact Rcl 6 q (wF Z4 (f162_c (aE.mk c10v99 c11v100 c12v101 c13v102 c14v103 c15v104 c16v105) _ _) ⟨(aK (Zs _)),Zl,Zl,Zt⟩ Z3 (sS Z6 s59 Z2 (Rlx 8 q (WE.drop 2 (env':=[(1, .d (.pc (R59 x0))),(3, .pt 0 0),(5, .pt 1 0),(6, .n (IntKind.i64.wrap (c+1)))]) Sb q q (Nat.zero_le _) (cF ⟨_,⟨_,_,_,_,_,_,_,_,h,Sb,Tv⟩,Nat.lt_succ_self _⟩)))))
 exact Rcx 4 q (cF ⟨_,_,_,_,_,_,_,h,Sb,Tv⟩)
 refine Rcl 3 q (Zq (ab p59 z59 q q) q (Zq (mU (xs:=[.int .u8 c10v82, .int .i64 c11v83, .int .i64 c12v84, .int .i64 c13v85, .int .i64 c14v86, .int .i64 c15v87, .int .i64 c16v88]) (ys:=[.int .u8 0, .int .i64 0, .int .i64 0, .int .i64 0, .int .i64 0, .int .i64 0, .int .i64 0]) q59 q (aK (Zs _)) q (aK (Zs _)) q q q) q (Rl 1 q ?_)))
 apply WL.and 11 (t:=52) (d:=63)
 exact q
 intro j
 refine Rl 4 q ?_
 refine OG 6 56 62 6 6 ?_
 exact Rn 1 6
 exact Rn 11 11
 refine Rl 1 q ?_
 apply WL.and 14 (t:=64) (d:=78)
 exact q
 intro k
 refine Rl 4 q ?_
 refine OG 4 68 72 4 4 ?_
 refine Rl 1 q ?_
 refine OG 4 73 77 4 4 ?_
 exact Rn 1 8
 exact Rn 14 14
 exact Rlx 4 q (FA h)

theorem f109_c{t0:af}{a:Int}{c:Int}{r:Bool}(h:f109 t0 a c=some r):Pu prog 109 [.ag (R33 t0), .i .i64 a, .i .i64 c] (.b r):=by
 unfold f109 at h
 refine fI func109 λ_ _=>?_
 refine Rcl 2 q (Bd q q (Zs _) q (Rll 11 q (Zq (aa E59 t0.insns e22 q q Zl) q (Rlc 3 q (Ci h q (λh=>?_) λh=>?_)))))
 exact Rcx 7 q (FA h)
 refine Rcc 2 q (Jn0 [] [] h (λf h=>?_) λh=>?_)
 refine Rcc 7 q (Ln1 (λe=> [(1, .n a),(2, .n c),(3, .d (.pc (R33 t0))),(7, .n e)]) (λ_=> []) (f109_l1 t0 a c f) h (λ_ h=>by rw[f109_l1] at h;cases h) λn e h=>?_)
 rw[f109_l1] at h
 refine Rcc 10 q (Ci h q (λh=>?_) λh=>?_)
 refine Rcl 9 q (Ix h e22 cO q Zl q q λg _ h=>(Rlc 5 q (Ci h q (λh=>?_) λh=>?_)))
 exact Rcx 11 q (FA h)
 exact Rcx 8 q (Fn1 h)
 exact Rcx 4 q (En0 h)
 exact Rcx 6 q (FA h)

theorem f110_c{t0:af}{a:Int}{n2:Int}{r:bq×Bool}(h:f110 t0 a n2=some r):Pu prog 110 [.ag (R33 t0), .i .i64 a, .i .i64 n2] (.tu [.ag (R72 r.1), .b r.2]):=by
 unfold f110 at h
 refine fI func110 λ_ _=>?_
 refine Rcl 2 q (Bd q q (Zs _) q (Al z72 q (Rll 9 q ?_)))
 apply WL.or 6 (t:=10) (d:=16)
 exact q
 intro j
 exact Rl 3 q (Zy (aa E70 t0.tasks e29 q q Zl) q q q (Rl 2 q (WL.nil ⟨q,[_,_,_,_,_,_],q,q,q⟩)))
 exact Rn 6 6
 refine Rl 1 q ?_
 refine OG 3 17 20 3 3 ?_
 refine Rl 1 q ?_
 obtain⟨e,f,h⟩:=ac h
 refine Gg 10 21 31 e f (λh=>?_) (λh=>?_) ?_
 exact On 10 10 h
 refine Rl 4 q ?_
 obtain⟨g,c,h⟩:=ac h
 exact Zy (ai e29 q Zl q (aj c) (au dN c) q) q q q (Rl 2 q (Zy (aa E72 g.entries e68 q q Zl) q q q (On 2 10 h)))
 refine Rlc 2 q (Ci h q (λh=>?_) λh=>?_)
 refine Rcl 2 q (Zq (ab p72 z72 q q) q (sS Z6 s72 Z2 (Rlx 5 q ?_)))
 obtain rfl:=Oi h
 exact aW (rs2 q (cX q q a72 s72 q) (bv q)) (bQ ⟨(aK ⟨Le.nil,Le.nil,Zt⟩),Zl,Zt⟩)
 refine Rcl 7 q (Ix h e29 dN q Zl q q λk _ h=>(Rl 3 q (Ix h e68 fS q Zl q q λm _ h=>(Rl 1 q (sS Z6 s72 Z2 (Rlx 4 q ?_))))))
 obtain rfl:=Oi h
 exact aW (rs2 q (cX q q a72 s72 q) (bv q)) (bQ ⟨(aK (Zs _)),Zl,Zt⟩)

theorem f111_c{t0:af}{p1:Int}{n2:Int}{r:Bool}(h:f111 t0 p1 n2=some r):Pu prog 111 [.ag (R33 t0), .i .i64 p1, .i .i64 n2] (.b r):=by
 unfold f111 at h
 refine fI func111 λ_ _=>?_
 refine Rcl 2 q (Bd q q (Zs _) q (Rll 8 q ?_))
 apply WL.and 6 (t:=9) (d:=15)
 exact q
 intro g
 exact Rl 3 q (Zy (aa E75 t0.prots e30 q q Zl) q q q (Rl 2 q (WL.nil ⟨q,[_,_,_,_,_,_],q,q,q⟩)))
 exact Rn 6 6
 refine Rl 1 q ?_
 refine AG 3 16 19 3 3 ?_
 refine Rl 1 q ?_
 obtain⟨c,e,h⟩:=ac h
 refine Gg 10 20 30 c e (λh=>?_) (λh=>?_) ?_
 refine Rl 4 q ?_
 obtain⟨f,a,h⟩:=ac h
 exact Zy (ai e30 q Zl q (aj a) (au eJ a) q) q q q (Rl 2 q (Zy (aa E80 f.barriers e73 q q Zl) q q q (On 2 10 h)))
 exact On 10 10 h
 exact Rlx 4 q (FA h)

theorem f44_c{t0:af}{x1:aE}{r:Bool}(h:f44 t0 x1=some r):Pu prog 44 [.ag (R33 t0), .ag (R59 x1)] (.b r):=by
 unfold f44 at h
 refine fI func44 λ_ _=>?_
 refine Rcl 2 q (Bd q q (Zs _) q (Bd q q (Zs _) q (Rll 7 q ?_)))
 obtain⟨I,k,h⟩:=ac h
 refine wF Z4 (f108_c k) Lw Z3 (Rlc 3 q (Ci h q (λh=>?_) λh=>?_))
 exact Rcx 7 q (FA h)
 refine Rcc 10 q (Jn1 (λa=> [(2, .d (.pc (R33 t0))),(3, .d (.pc (R59 x1))),(13, .d (D.i .u8 x1.op)),(14, .d (D.b a))]) (λ_=> []) h (λ_ h=>?_) λa h=>?_)
 exact Rcc 6 q (Ci h q (λh=>Rcx 1 q (En1 h)) λh=>Rcx 4 q (En1 h))
 refine Ci h q (λh=>?_) (λh=>?_)
 refine Rcl 7 q ?_
 obtain⟨J,m,h⟩:=ac h
 exact wF Z4 (f104_c m) Lw Z3 (Rlx 6 q (FA h))
 refine Jn1 (λc=> [(2, .d (.pc (R33 t0))),(3, .d (.pc (R59 x1))),(13, .d (D.i .u8 x1.op)),(23, .d (D.b c))]) (λ_=> []) h (λ_ h=>?_) (λc h=>?_)
 exact Rcc 6 q (Ci h q (λh=>Rcx 1 q (En1 h)) λh=>Rcx 4 q (En1 h))
 refine Ci h q (λh=>?_) (λh=>?_)
 refine Rcl 9 q ?_
 obtain⟨K,p,h⟩:=ac h
 exact wF Z4 (f104_c p) Lw Z3 (Rlx 6 q (FA h))
 refine Jn1 (λe=> [(2, .d (.pc (R33 t0))),(3, .d (.pc (R59 x1))),(13, .d (D.i .u8 x1.op)),(34, .d (D.b e))]) (λ_=> []) h (λ_ h=>?_) (λe h=>?_)
 refine Rcc 6 q (Ci h q (λh=>Rcx 1 q (En1 h)) λh=>?_)
 exact Rcc 6 q (Ci h q (λh=>Rcx 1 q (En1 h)) λh=>Rcx 4 q (En1 h))
 refine Ci h q (λh=>?_) (λh=>?_)
 exact Rcl 5 q (wF Z4 (f51_c) Lw Z3 (Rlx 6 q (FA h)))
 refine Rcc 6 q (Ci h q (λh=>?_) λh=>?_)
 refine Rcl 7 q ?_
 obtain⟨L,w,h⟩:=ac h
 exact wF Z4 (f109_c w) Lw Z3 (Rlx 6 q (FA h))
 refine Rcc 6 q (Ci h q (λh=>Rcx 13 q (FA h)) λh=>?_)
 refine Jn1 (λf=> [(2, .d (.pc (R33 t0))),(3, .d (.pc (R59 x1))),(13, .d (D.i .u8 x1.op)),(57, .d (D.b f))]) (λ_=> []) h (λ_ h=>?_) (λf h=>?_)
 refine Rcc 6 q (Ci h q (λh=>Rcx 1 q (En1 h)) λh=>?_)
 refine Rcc 6 q (Ci h q (λh=>Rcx 1 q (En1 h)) λh=>?_)
 exact Rcc 6 q (Ci h q (λh=>Rcx 1 q (En1 h)) λh=>Rcx 4 q (En1 h))
 refine Ci h q (λh=>?_) (λh=>?_)
 exact Rcl 6 q (Zq (aa E54 t0.lists e26 q q Zl) q (Rlx 7 q (FA h)))
 refine Rcc 6 q (Ci h q (λh=>Rcl 6 q (Zq (aa E65 t0.selects e25 q q Zl) q (Rlx 7 q (FA h)))) λh=>?_)
 refine Rcc 6 q (Ci h q (λh=>?_) λh=>?_)
 refine Rcl 7 q ?_
 obtain⟨g,x,h⟩:=ac h
 refine wF Z4 (f110_c x) Lw Z3 (Rl 3 q (Al z72 q (sS Z6 s72 Z2 (Rll 7 q ?_))))
 obtain⟨y,A,h⟩:=ac h
 refine Gg 13 88 101 y A (λh=>?_) (λh=>?_) ?_
 refine Rl 5 q (Zy (aa E3 g.1.ins e54 q q Zl) q q q (Rl 2 q (Zy (aa E3 g.1.outs e54 q q Zl) q q q (Rl 2 q ?_))))
 obtain⟨M,B,h⟩:=ac h
 exact WL.fn q q q q (f104_c B) Lw (aR q q q) q q (On 1 13 h)
 exact On 13 13 h
 exact Rlx 6 q (FA h)
 refine Rcc 6 q (Ci h q (λh=>?_) λh=>?_)
 refine Rcl 7 q ?_
 obtain⟨N,C,h⟩:=ac h
 refine wF Z4 (f110_c C) Lw Z3 (Rl 3 q (Al z72 q (sS Z6 s72 Z2 (Rll 7 q ?_))))
 apply WL.and 5 (t:=114) (d:=119)
 exact q
 intro O
 exact Rl 3 q (WL.fn q q q q (f51_c) Lw (aR q q q) q q (Rl 1 q (WL.nil ⟨q,[_,_,_,_,_],q,q,q⟩)))
 exact Rn 5 5
 exact Rlx 6 q (FA h)
 refine Jn1 (λj=> [(2, .d (.pc (R33 t0))),(3, .d (.pc (R59 x1))),(13, .d (D.i .u8 x1.op)),(120, .d (D.b j))]) (λ_=> []) h (λ_ h=>?_) (λj h=>?_)
 exact Rcc 6 q (Ci h q (λh=>Rcx 1 q (En1 h)) λh=>Rcx 4 q (En1 h))
 refine Ci h q (λh=>?_) (λh=>?_)
 exact Rcl 6 q (Zq (aa E75 t0.prots e30 q q Zl) q (Rlx 7 q (FA h)))
 refine Rcc 6 q (Ci h q (λh=>?_) λh=>?_)
 refine Rcl 7 q ?_
 obtain⟨P,E,h⟩:=ac h
 exact wF Z4 (f111_c E) Lw Z3 (Rlx 6 q (FA h))
 refine Rcc 6 q (Ci h q (λh=>?_) λh=>?_)
 refine Rcl 6 q ?_
 obtain⟨F,G,h⟩:=ac h
 refine Gg 7 142 149 F G (λh=>?_) (λh=>?_) ?_
 exact On 7 7 h
 refine Rl 5 q ?_
 obtain⟨Q,H,h⟩:=ac h
 exact WL.fn q q q q (f111_c H) Lw (aR q q q) q q (On 1 7 h)
 exact Rlx 6 q (FA h)
 exact Rcx 9 q (FA h)

theorem f11_c{t0:af}{r:Bool}(h:f11 t0=some r):Pu prog 11 [.ag (R33 t0)] (.b r):=by
 unfold f11 at h
 refine fI func11 λ_ _=>?_
 refine Rcl 2 q (Bd q q (Zs _) q (Rll 7 q (Zq (aa E59 t0.insns e22 q q Zl) q (Rll 9 q ?_))))
 refine OG 3 11 14 3 3 ?_
 refine Rl 1 q ?_
 obtain⟨e,f,h⟩:=ac h
 refine Gg 4 15 19 e f (λh=>?_) (λh=>?_) ?_
 exact On 4 4 h
 refine Rl 1 q ?_
 obtain⟨K,g,h⟩:=ac h
 exact WL.fn q q q q (f38_c g) Lw (aR q q q) q q (On 2 4 h)
 refine Rl 1 q ?_
 obtain⟨j,k,h⟩:=ac h
 refine Gg 4 20 24 j k (λh=>?_) (λh=>?_) ?_
 exact On 4 4 h
 refine Rl 1 q ?_
 obtain⟨L,m,h⟩:=ac h
 exact WL.fn q q q q (f39_c m) Lw (aR q q q) q q (On 2 4 h)
 refine Rl 1 q ?_
 obtain⟨p,t,h⟩:=ac h
 refine Gg 4 25 29 p t (λh=>?_) (λh=>?_) ?_
 exact On 4 4 h
 refine Rl 1 q ?_
 obtain⟨M,w,h⟩:=ac h
 exact WL.fn q q q q (f40_c w) Lw (aR q q q) q q (On 2 4 h)
 refine Rl 1 q ?_
 obtain⟨x,y,h⟩:=ac h
 refine Gg 4 30 34 x y (λh=>?_) (λh=>?_) ?_
 exact On 4 4 h
 refine Rl 1 q ?_
 obtain⟨N,A,h⟩:=ac h
 exact WL.fn q q q q (f41_c A) Lw (aR q q q) q q (On 2 4 h)
 refine Rl 1 q ?_
 obtain⟨B,C,h⟩:=ac h
 refine Gg 4 35 39 B C (λh=>?_) (λh=>?_) ?_
 exact On 4 4 h
 refine Rl 1 q ?_
 obtain⟨O,E,h⟩:=ac h
 exact WL.fn q q q q (f42_c E) Lw (aR q q q) q q (On 2 4 h)
 refine Rl 1 q ?_
 obtain⟨F,G,h⟩:=ac h
 refine Gg 4 40 44 F G (λh=>?_) (λh=>?_) ?_
 exact On 4 4 h
 refine Rl 1 q ?_
 obtain⟨P,H,h⟩:=ac h
 exact WL.fn q q q q (f43_c H) Lw (aR q q q) q q (On 2 4 h)
 refine Rlc 2 q (Ci h q (λh=>Rcx 7 q (FA h)) λh=>?_)
 refine Rcc 2 q (Jn0 [(1, .d (.pc (R33 t0))),(3, .n (List.length t0.insns:Int))] [] h (λI h=>?_) λh=>?_)
 refine Rcc 6 q (Ln1 (λa=> [(1, .d (.pc (R33 t0))),(3, .n (List.length t0.insns:Int)),(4, .n a)]) (λ_=> []) (f11_l1 t0 I) h (λ_ h=>by rw[f11_l1] at h;cases h) λn a h=>?_)
 rw[f11_l1] at h
 refine Rcc 8 q (Ci h q (λh=>?_) λh=>?_)
 refine Rcc 5 q (aB kR kR (Rq 4 q ?_))
 obtain⟨Q,c,h⟩:=ac h
 refine WQ.qn (ai e22 q Zl q (aj c) (au cO c) q) q (Rq 1 q ?_)
 obtain⟨R,J,h⟩:=ac h
 refine WQ.q (YieldsQ.fn q q q q q (f44_c J) Lw) (Zw q) q q (Rq 1 q (WQ.nil (Rxc 1 q (Ci h q (λh=>?_) λh=>?_))))
 exact Rcx 11 q (FA h)
 exact Rcx 8 q (Fn1 h)
 exact Rcx 4 q (En0 h)
 refine Rcl 6 q (Ix h e22 cO q Zl q q λS _ h=>(Rll 10 q ?_))
 refine OG 3 67 70 3 3 ?_
 refine Rl 1 q ?_
 refine OG 3 71 74 3 3 ?_
 refine Rl 1 q ?_
 refine OG 3 75 78 3 3 ?_
 exact Rlx 4 q (FA h)

theorem f175_c{v0:Int}{r:lI}(h:f175 v0=some r):Pu prog 175 [.i .i64 v0] (.sl (List.map E5 r)):=by
 unfold f175 at h
 refine fI func175 λ_ _=>?_
 refine Rcl 8 q (WL.nil_os 3 5 1 q (Rlc 9 q ?_))
 replace h:=az h
 obtain⟨k,m,h⟩:=h
 refine aY (λenv' st'=>∃(g:lI),∃(j:Nat),k g=some r∧Sub [(3, .os 0 j)] env'∧SLe st' [.os 5 1 j (eM E5 g)]) ?_ ?_
 refine Rcc 6 q (be (λn env' st'=>∃(a:Int),∃(c:Int),∃(e:lI),∃(f:Nat),f175_l1 k n a c e=some r∧Sub [(3, .os 0 f),(4, .d (D.i .u64 a)),(5, .n c)] env'∧SLe st' [.os 5 1 f (eM E5 e)]) (λn=>n) 9223372036854775808 ⟨(IntKind.u64.wrap v0),0,[],_,h,(Sx q (Sx q (Sx q (Sub.nil _)))),⟨Zf,Zt⟩⟩ ?_)
 rintro n p st1 ⟨a,c,e,f,h,hsub,hst⟩
 rcases n with _|n
 rw[f175_l1] at h;cases h
 rw[f175_l1] at h
 refine WC.sub hsub (WC.weak hst ?_)
 refine Rcc 7 q (Ci h q (λh=>?_) λh=>?_)
 refine Rcl 8 q (Zq (wZ q q dC) q (Rl 1 q (WL.s ((NewOs.b (ae l42 z5 q dC dC q q q dC)).does) (Zw q) q q ?_)))
 replace h:=bu h
 obtain⟨t,h⟩:=h
 exact WL.s (bG E5 e [(IntKind.u8.wrap (Int.tmod a 256))] l42 z5 q dC q q q q (Src.own q) (λ_=>q) (λ_=>q) t) (Zw q) q q (Rll 5 q (Zq (sB q q dC q) q (Rlx 9 q (WE.drop 1 (env':=[(3, .os 0 (f+1)),(4, .d (D.i .u64 (IntKind.u64.wrap (Int.tdiv a 256)))),(5, .n (IntKind.i64.wrap (c+1)))]) Sb q Kv (Nat.zero_le _) (Fn4 h)))))
 exact Rcx 4 q (En2 h)
 rintro p st1 ⟨g,j,h,hsub,hst⟩
 subst m
 dsimp only at h
 refine WC.sub hsub (WC.weak hst ?_)
 refine Rcx 7 q ?_
 exact WE.freezeX [3,20,2] [] 0 _ q (ah uX _) ⟨q,q,q,Zt⟩ Zt (FA h)

theorem f143_c{l:lI}{v1:Int}{verl:Nat}{r:lI}(h:f143 l v1=some r):Ctr prog 143 [.pt 0 0, .n v1] [.row 219 [.os 1 verl], .os 5 1 verl (eM E5 l)] (ga 2 (.tu []) (λiv=> [.row 219 [.os 1 iv], .os 5 1 iv (eM E5 r)])):=by
 unfold f143 at h
 refine cI func143 λ_ _ _ hmm=>?_
 obtain⟨a,c,h⟩:=ac h
 replace h:=bu h
 obtain⟨d,h⟩:=h
 apply RT [_,_,_,_,_,_,_,_,_,_, .u] [7,10] [[.row 219 [.os 1 verl], .os 5 1 (verl+1) (eM E5 (l++a))],[.row 219 [.os 1 (verl+1)], .os 5 1 (verl+1) (eM E5 (l++a))]] [u01 0,p01 0,p10 1,p10 2,p10 3,p01 1,p10 5,p20 4 6,q10 0 1,q10 8 1,q20 9 7 1] kR kR q q
 refine X2a ?_
 refine Y5 ?_
 refine zo (λ_=>wF Z4 (f175_c c) Lw Z3 (Zd q q q)) ?_
 refine zo (λ_=>WL.s (bG E5 l a l42 z5 q dC q q q q (eu Zl uX λ_=>q) (λ_=>q) (λ_=>q) d) (Zw q) q q (Zd q q q)) ?_
 refine Y2 ?_
 exact zo (λ_=>WL.s0 (dz q q q (d3 q) s42 q) (Zw q) q (bJ q q)) Zt
 refine cJ ?_
 obtain rfl:=Oi h
 exact bL (verl+1) (eg q) (bQ Zt) q ⟨Zp,Zf,Zt⟩

theorem f176_c{l:lI}{l1:lI}{verl:Nat}{r:lI}(h:f176 l l1=some r):Ctr prog 176 [.pt 0 0, .l E3 l1] [.row 219 [.os 1 verl], .os 5 1 verl (eM E5 l)] (ga 2 (.tu []) (λiv=> [.row 219 [.os 1 iv], .os 5 1 iv (eM E5 r)])):=by
 unfold f176 at h
 refine cI func176 λ_ _ _ hmm=>?_
 refine Rcc 6 q (be (λn env' st'=>∃(c:Int),∃(d:lI),∃(a:Nat),f176_l1 l1 n c d=some r∧Sub [(0, .pt 0 0),(1, .l E3 l1),(4, .n c)] env'∧SLe st' [.row 219 [.os 1 a], .os 5 1 a (eM E5 d)]) (λn=>n) 9223372036854775808 ⟨0,l,_,h,(Sx q (Sx q (Sx q (Sub.nil _)))),⟨Zp,Zf,Zt⟩⟩ ?_)
 rintro n f st1 ⟨c,d,a,h,hsub,hst⟩
 rcases n with _|n
 rw[f176_l1] at h;cases h
 rw[f176_l1] at h
 refine WC.sub hsub (WC.weak hst ?_)
 refine Rcl 5 q (Zq (aa E3 l1 e54 q q Zl) q (Rlc 3 q (Ci h q (λh=>?_) λh=>?_)))
 refine Rcl 8 q (Ix h e54 bd q Zl q q λg _ h=>(Rl 1 q ?_))
 obtain⟨j,e,h⟩:=ac h
 refine aw [0,1] q q q q (f143_c e) Lw q dC (Re (Ro q)) ⟨q,q,Zt⟩ Kv q (λ_=>Kv) (λ_=>(Re (Ro q))) (Zw q) q q (λk=>?_)
 exact Rlx 8 q (Fn3 h)
 refine Rcx 4 q (cJ ?_)
 obtain rfl:=Oi h
 exact bL a (eg q) (bQ Zt) q ⟨Zp,Zf,Zt⟩

theorem f177_c{l:lI}{a:Bool}{verl:Nat}{r:lI}(h:f177 l a=some r):Ctr prog 177 [.pt 0 0, .d (D.b a)] [.row 219 [.os 1 verl], .os 5 1 verl (eM E5 l)] (ga 2 (.tu []) (λiv=> [.row 219 [.os 1 iv], .os 5 1 iv (eM E5 r)])):=by
 unfold f177 at h
 refine cI func177 λ_ _ _ hmm=>?_
 refine Rcc 5 q (Ci h q (λh=>?_) λh=>?_)
 refine Rcl 2 q ?_
 obtain⟨j,c,h⟩:=ac h
 refine aw [0,1] q q q q (f143_c c) Lw q dC (Re (Ro q)) ⟨q,q,Zt⟩ Kv q (λ_=>Kv) (λ_=>(Re (Ro q))) (Zw q) q q (λe=>?_)
 refine Rlx 1 q (cJ ?_)
 obtain rfl:=Oi h
 exact bL e (eg q) (bQ Zt) q ⟨Zp,Zf,Zt⟩
 refine Rcl 2 q ?_
 obtain⟨k,f,h⟩:=ac h
 refine aw [0,1] q q q q (f143_c f) Lw q dC (Re (Ro q)) ⟨q,q,Zt⟩ Kv q (λ_=>Kv) (λ_=>(Re (Ro q))) (Zw q) q q (λg=>?_)
 refine Rlx 1 q (cJ ?_)
 obtain rfl:=Oi h
 exact bL g (eg q) (bQ Zt) q ⟨Zp,Zf,Zt⟩

theorem f178_c{l:lI}{l1:lI}{verl:Nat}{r:lI}(h:f178 l l1=some r):Ctr prog 178 [.pt 0 0, .l E3 l1] [.row 219 [.os 1 verl], .os 5 1 verl (eM E5 l)] (ga 2 (.tu []) (λiv=> [.row 219 [.os 1 iv], .os 5 1 iv (eM E5 r)])):=by
 unfold f178 at h
 refine cI func178 λ_ _ _ hmm=>?_
 refine Rcl 4 q (Zq (aa E3 l1 e54 q q Zl) q (WL.s ((NewOs.b (ae l54 z3 q dC dC q q q dC)).does) (Zw q) q q ?_))
 refine WL.freezeX [7] [] 2 _ q (ah bd [(List.length l1:Int)]) ⟨q,Zt⟩ Zt ?_
 obtain⟨e,a,h⟩:=ac h
 refine aw [0,1] q q q q (f176_c a) Lw q dC (Re (Ro q)) ⟨q,q,Zt⟩ Kv q (λ_=>Kv) (λ_=>(Re (Ro q))) (Zw q) q q (λf=>?_)
 refine Rll 5 q ?_
 obtain⟨g,c,h⟩:=ac h
 refine aw [0,1] q q q q (f176_c c) Lw q dC (Re (Ro q)) ⟨q,q,Zt⟩ Kv q (λ_=>Kv) (λ_=>(Re (Ro q))) (Zw q) q q (λd=>?_)
 refine Rlx 1 q (cJ ?_)
 obtain rfl:=Oi h
 exact bL d (eg q) (bQ Zt) q ⟨Zp,Zf,Zt⟩

theorem f144_c{l:lI}{t1:af}{verl:Nat}{r:lI}(h:f144 l t1=some r):Ctr prog 144 [.pt 0 0, .d (.ag (R33 t1))] [.row 219 [.os 1 verl], .os 5 1 verl (eM E5 l)] (ga 2 (.tu []) (λiv=> [.row 219 [.os 1 iv], .os 5 1 iv (eM E5 r)])):=by
 unfold f144 at h
 refine cI func144 λ_ _ _ hmm=>?_
 refine Rcl 2 q (Bd q q (Zs _) q (Rll 7 q (Zq (aa E59 t1.insns e22 q q Zl) q (WL.s ((NewOs.b (ae l54 z3 q dC dC q q q dC)).does) (Zw q) q q ?_))))
 refine WL.freezeX [17] [] 2 _ q (ah bd [(List.length t1.insns:Int)]) ⟨q,Zt⟩ Zt ?_
 obtain⟨bs,b0,h⟩:=ac h
 refine aw [0,1] q q q q (f176_c b0) Lw q dC (Re (Ro q)) ⟨q,q,Zt⟩ Kv q (λ_=>Kv) (λ_=>(Re (Ro q))) (Zw q) q q (λd1=>?_)
 refine Rlc 2 q ?_
 replace h:=az h
 obtain⟨Z,b1,h⟩:=h
 refine aY (λenv' st'=>∃(t:lI),∃(w:Nat),Z t=some r∧Sub [(0, .pt 0 0),(3, .d (.pc (R33 t1)))] env'∧SLe st' [.row 219 [.os 1 w], .os 5 1 w (eM E5 t), .z]) ?_ ?_
 refine Rcc 6 q (be (λn env' st'=>∃(k:Int),∃(y:lI),∃(A:Nat),f144_l1 t1 Z n k y=some r∧Sub [(0, .pt 0 0),(3, .d (.pc (R33 t1))),(4, .n k)] env'∧SLe st' [.row 219 [.os 1 A], .os 5 1 A (eM E5 y), .z]) (λn=>n) 9223372036854775808 ⟨0,bs,_,h,(Sx q (Sx q (Sx q (Sub.nil _)))),⟨Zp,Zf,Zt,Zt⟩⟩ ?_)
 rintro n e st1 ⟨k,y,A,h,hsub,hst⟩
 rcases n with _|n
 rw[f144_l1] at h;cases h
 rw[f144_l1] at h
 refine WC.sub hsub (WC.weak hst ?_)
 refine Rcl 6 q (Zq (aa E59 t1.insns e22 q q Zl) q (Rlc 3 q (Ci h q (λh=>?_) λh=>?_)))
 refine Rcl 9 q (Ix h e22 cO q Zl q q λg _ h=>(Rl 1 q (Al z59 q (sS Z6 s59 Z2 (Rll 14 q (WL.s ((NewOs.b (ae l54 z3 q dC dC q q q dC)).does) (Zw q) q q ?_))))))
 refine WL.freezeX [41] [] 4 _ q (ah bd [(IntKind.i64.wrap g.op),g.d,g.a,g.b]) ⟨q,Zt⟩ Zt ?_
 obtain⟨d2,b2,h⟩:=ac h
 refine aw [0,1] q q q q (f176_c b2) Lw q dC (Re (Ro q)) ⟨q,q,Zt⟩ Kv q (λ_=>Kv) (λ_=>(Re (Ro q))) (Zw q) q q (λd'=>?_)
 refine Rll 7 q ?_
 obtain⟨ea,b3,h⟩:=ac h
 refine aw [0,1] q q q q (f143_c b3) Lw q dC (Re (Ro q)) ⟨q,q,Zt⟩ Kv q (λ_=>Kv) (λ_=>(Re (Ro q))) (Zw q) q q (λec=>?_)
 refine Rll 7 q ?_
 obtain⟨ee,b4,h⟩:=ac h
 refine aw [0,1] q q q q (f143_c b4) Lw q dC (Re (Ro q)) ⟨q,q,Zt⟩ Kv q (λ_=>Kv) (λ_=>(Re (Ro q))) (Zw q) q q (λei=>?_)
 refine Rll 6 q (WL.s ((NewOs.b (ae l54 z3 q dC dC q q q dC)).does) (Zw q) q q ?_)
 refine WL.freezeX [54] [] 5 _ q (ah bd [g.to]) ⟨q,Zt⟩ Zt ?_
 obtain⟨el,b5,h⟩:=ac h
 refine aw [0,1] q q q q (f176_c b5) Lw q dC (Re (Ro q)) ⟨q,q,Zt⟩ Kv q (λ_=>Kv) (λ_=>(Re (Ro q))) (Zw q) q q (λem=>?_)
 exact Rlx 8 q (WE.drop 3 (env':=[(0, .pt 0 0),(3, .d (.pc (R33 t1))),(4, .n (IntKind.i64.wrap (k+1)))]) Sb q Kv (Nat.le_trans (Nat.le_of_eq hmm) (nbT q)) (Fn3 h))
 exact Rcx 4 q (En2 h)
 rintro e st1 ⟨t,w,h,hsub,hst⟩
 subst b1
 dsimp only at h
 refine WC.sub hsub (WC.weak hst ?_)
 refine Rcl 5 q (Zq (aa E83 t1.handlers e23 q q Zl) q (WL.s ((NewOs.b (ae l54 z3 q dC dC q q q dC)).does) (Zw q) q q ?_))
 refine WL.freezeX [60] [] 3 _ q (ah bd [(List.length t1.handlers:Int)]) ⟨q,Zt⟩ Zt ?_
 obtain⟨b6,b7,h⟩:=ac h
 refine aw [0,1] q q q q (f176_c b7) Lw q dC (Re (Ro q)) ⟨q,q,Zt⟩ Kv q (λ_=>Kv) (λ_=>(Re (Ro q))) (Zw q) q q (λen=>?_)
 refine Rlc 2 q ?_
 replace h:=az h
 obtain⟨ad,b8,h⟩:=h
 refine aY (λenv' st'=>∃(B:lI),∃(C:Nat),ad B=some r∧Sub [(0, .pt 0 0),(3, .d (.pc (R33 t1)))] env'∧SLe st' [.row 219 [.os 1 C], .os 5 1 C (eM E5 B), .z, .z]) ?_ ?_
 refine Rcc 6 q (be (λn env' st'=>∃(E:Int),∃(G:lI),∃(H:Nat),f144_l2 t1 ad n E G=some r∧Sub [(0, .pt 0 0),(3, .d (.pc (R33 t1))),(6, .n E)] env'∧SLe st' [.row 219 [.os 1 H], .os 5 1 H (eM E5 G), .z, .z]) (λn=>n) 9223372036854775808 ⟨0,b6,_,h,(Sx q (Sx q (Sx q (Sub.nil _)))),⟨Zp,Zf,Zt,Zt,Zt⟩⟩ ?_)
 rintro n e st1 ⟨E,G,H,h,hsub,hst⟩
 rcases n with _|n
 rw[f144_l2] at h;cases h
 rw[f144_l2] at h
 refine WC.sub hsub (WC.weak hst ?_)
 refine Rcl 6 q (Zq (aa E83 t1.handlers e23 q q Zl) q (Rlc 3 q (Ci h q (λh=>?_) λh=>?_)))
 refine Rcc 5 q ?_
 obtain⟨b9,al,h⟩:=ac h
 obtain⟨b',a0,h⟩:=ac h
 obtain⟨ca,a1,h⟩:=ac h
 obtain⟨cc,cd,h⟩:=ac h
 apply R1x [_,_,_,_,_,_,_,_,_,_,_,_,_,_,_,_,_,_,_,_,_] 20 (0) (λ(x:Nat)=> [.row 219 [.os 1 x], .os 5 1 x (eM E5 cc), .z, .z]) [([],[0],[[false]]),([],[3],[[false]]),([1],[],[[false]]),([],[6],[[false]]),([2,3],[],[[false]]),([4],[],[[false]]),([5],[],[[false]]),([],[3],[[false]]),([7],[],[[false]]),([],[6],[[false]]),([8,9],[],[[false]]),([10],[],[[false]]),([11],[],[[false]]),([],[3],[[false]]),([13],[],[[false]]),([],[6],[[false]]),([14,15],[],[[false]]),([16],[],[[false]]),([17],[],[[false]]),([6,12,18],[],[[false]]),([0,19],[],[[false]])] kR kR q q
 refine⟨?_,?_,?_,?_,?_,?_,?_,?_,?_,?_,?_,?_,?_,?_,?_,?_,?_,?_,?_,?_,?_,Zt⟩
 exact⟨Ox λx=>O3 q (λ_=>q) q q,Zt⟩
 exact⟨Ox λx=>O3 q (λ_=>q) q q,Zt⟩
 exact⟨Ox λx=>O3 q (λ_=>q) q q,Zt⟩
 exact⟨Ox λx=>O3 q (λ_=>q) q q,Zt⟩
 refine⟨Ox λx F=>?_,Zt⟩
 exact Zq (ai e23 q Zl q (aj al) (au fg al) q) q (Zd q q q)
 exact⟨Ox λx=>O3 q (λ_=>q) q q,Zt⟩
 exact⟨Ox λx=>O3 q (λ_=>q) q q,Zt⟩
 exact⟨Ox λx=>O3 q (λ_=>q) q q,Zt⟩
 exact⟨Ox λx=>O3 q (λ_=>q) q q,Zt⟩
 exact⟨Ox λx=>O3 q (λ_=>q) q q,Zt⟩
 refine⟨Ox λx F=>?_,Zt⟩
 exact Zq (ai e23 q Zl q (aj a0) (au fg a0) q) q (Zd q q q)
 exact⟨Ox λx=>O3 q (λ_=>q) q q,Zt⟩
 exact⟨Ox λx=>O3 q (λ_=>q) q q,Zt⟩
 exact⟨Ox λx=>O3 q (λ_=>q) q q,Zt⟩
 exact⟨Ox λx=>O3 q (λ_=>q) q q,Zt⟩
 exact⟨Ox λx=>O3 q (λ_=>q) q q,Zt⟩
 refine⟨Ox λx F=>?_,Zt⟩
 exact Zq (ai e23 q Zl q (aj a1) (au fg a1) q) q (Zd q q q)
 exact⟨Ox λx=>O3 q (λ_=>q) q q,Zt⟩
 exact⟨Ox λx=>O3 q (λ_=>q) q q,Zt⟩
 refine⟨Ox λx F=>?_,Zt⟩
 exact WL.s ((NewOs.data (ae l54 z3 q dC dC q q q dC) (by exact ah bd [b9.from_,b'.to,ca.at_])).does) (Zw q) q q (Zd q q q)
 refine⟨Oy λx F=>?_,Zt⟩
 refine aw [0,1] q q q q (f176_c cd) Lw q dC (Re (Ro q)) ⟨q,q,Zt⟩ Kv q (λ_=>Kv) (λ_=>(Re (Ro q))) (Zw q) q q (λa6=>?_)
 exact Zx (a6) q q q
 intro a6
 refine Rxl 6 q (Ix h e23 fg q Zl q q λeq _ h=>(Rl 2 q ?_))
 obtain⟨er,ci,h⟩:=ac h
 refine aw [0,1] q q q q (f177_c ci) Lw q dC (Re (Ro q)) ⟨q,q,Zt⟩ Kv q (λ_=>Kv) (λ_=>(Re (Ro q))) (Zw q) q q (λes=>?_)
 exact Rlx 8 q (Fn3 h)
 exact Rcx 4 q (En2 h)
 rintro e st1 ⟨B,C,h,hsub,hst⟩
 subst b8
 dsimp only at h
 refine WC.sub hsub (WC.weak hst ?_)
 refine Rcl 5 q (Zq (aa cm t1.loops e24 q q Zl) q (WL.s ((NewOs.b (ae l54 z3 q dC dC q q q dC)).does) (Zw q) q q ?_))
 refine WL.freezeX [102] [] 4 _ q (ah bd [(List.length t1.loops:Int)]) ⟨q,Zt⟩ Zt ?_
 obtain⟨cj,ck,h⟩:=ac h
 refine aw [0,1] q q q q (f176_c ck) Lw q dC (Re (Ro q)) ⟨q,q,Zt⟩ Kv q (λ_=>Kv) (λ_=>(Re (Ro q))) (Zw q) q q (λet=>?_)
 refine Rlc 2 q ?_
 replace h:=az h
 obtain⟨a7,cl,h⟩:=h
 refine aY (λenv' st'=>∃(I:lI),∃(J:Nat),a7 I=some r∧Sub [(0, .pt 0 0),(3, .d (.pc (R33 t1)))] env'∧SLe st' [.row 219 [.os 1 J], .os 5 1 J (eM E5 I), .z, .z, .z]) ?_ ?_
 refine Rcc 6 q (be (λn env' st'=>∃(K:Int),∃(L:lI),∃(M:Nat),f144_l3 t1 a7 n K L=some r∧Sub [(0, .pt 0 0),(3, .d (.pc (R33 t1))),(7, .n K)] env'∧SLe st' [.row 219 [.os 1 M], .os 5 1 M (eM E5 L), .z, .z, .z]) (λn=>n) 9223372036854775808 ⟨0,cj,_,h,(Sx q (Sx q (Sx q (Sub.nil _)))),⟨Zp,Zf,Zt,Zt,Zt,Zt⟩⟩ ?_)
 rintro n e st1 ⟨K,L,M,h,hsub,hst⟩
 rcases n with _|n
 rw[f144_l3] at h;cases h
 rw[f144_l3] at h
 refine WC.sub hsub (WC.weak hst ?_)
 refine Rcl 6 q (Zq (aa cm t1.loops e24 q q Zl) q (Rlc 3 q (Ci h q (λh=>?_) λh=>?_)))
 refine Rcc 5 q ?_
 obtain⟨cp,a8,h⟩:=ac h
 obtain⟨cr,a',h⟩:=ac h
 obtain⟨c0,c1,h⟩:=ac h
 apply R1x [_,_,_,_,_,_,_,_,_,_,_,_,_,_,_] 14 (0) (λ(x:Nat)=> [.row 219 [.os 1 x], .os 5 1 x (eM E5 c0), .z, .z, .z]) [([],[0],[[false]]),([],[3],[[false]]),([1],[],[[false]]),([],[7],[[false]]),([2,3],[],[[false]]),([4],[],[[false]]),([5],[],[[false]]),([],[3],[[false]]),([7],[],[[false]]),([],[7],[[false]]),([8,9],[],[[false]]),([10],[],[[false]]),([11],[],[[false]]),([6,12],[],[[false]]),([0,13],[],[[false]])] kR kR q q
 refine⟨?_,?_,?_,?_,?_,?_,?_,?_,?_,?_,?_,?_,?_,?_,?_,Zt⟩
 exact⟨Ox λx=>O3 q (λ_=>q) q q,Zt⟩
 exact⟨Ox λx=>O3 q (λ_=>q) q q,Zt⟩
 exact⟨Ox λx=>O3 q (λ_=>q) q q,Zt⟩
 exact⟨Ox λx=>O3 q (λ_=>q) q q,Zt⟩
 refine⟨Ox λx F=>?_,Zt⟩
 exact Zq (ai e24 q Zl q (aj a8) (au dT a8) q) q (Zd q q q)
 exact⟨Ox λx=>O3 q (λ_=>q) q q,Zt⟩
 exact⟨Ox λx=>O3 q (λ_=>q) q q,Zt⟩
 exact⟨Ox λx=>O3 q (λ_=>q) q q,Zt⟩
 exact⟨Ox λx=>O3 q (λ_=>q) q q,Zt⟩
 exact⟨Ox λx=>O3 q (λ_=>q) q q,Zt⟩
 refine⟨Ox λx F=>?_,Zt⟩
 exact Zq (ai e24 q Zl q (aj a') (au dT a') q) q (Zd q q q)
 exact⟨Ox λx=>O3 q (λ_=>q) q q,Zt⟩
 exact⟨Ox λx=>O3 q (λ_=>q) q q,Zt⟩
 refine⟨Ox λx F=>?_,Zt⟩
 exact WL.s ((NewOs.data (ae l54 z3 q dC dC q q q dC) (by exact ah bd [cp.head,cr.back])).does) (Zw q) q q (Zd q q q)
 refine⟨Oy λx F=>?_,Zt⟩
 refine aw [0,1] q q q q (f176_c c1) Lw q dC (Re (Ro q)) ⟨q,q,Zt⟩ Kv q (λ_=>Kv) (λ_=>(Re (Ro q))) (Zw q) q q (λbb=>?_)
 exact Zx (bb) q q q
 intro bb
 refine Rxl 6 q (Ix h e24 dT q Zl q q λew _ h=>(Rl 2 q ?_))
 obtain⟨ex,c2,h⟩:=ac h
 refine aw [0,1] q q q q (f143_c c2) Lw q dC (Re (Ro q)) ⟨q,q,Zt⟩ Kv q (λ_=>Kv) (λ_=>(Re (Ro q))) (Zw q) q q (λey=>?_)
 exact Rlx 8 q (Fn3 h)
 exact Rcx 4 q (En2 h)
 rintro e st1 ⟨I,J,h,hsub,hst⟩
 subst cl
 dsimp only at h
 refine WC.sub hsub (WC.weak hst ?_)
 refine Rcl 5 q (Zq (aa E65 t1.selects e25 q q Zl) q (WL.s ((NewOs.b (ae l54 z3 q dC dC q q q dC)).does) (Zw q) q q ?_))
 refine WL.freezeX [138] [] 5 _ q (ah bd [(List.length t1.selects:Int)]) ⟨q,Zt⟩ Zt ?_
 obtain⟨c3,c4,h⟩:=ac h
 refine aw [0,1] q q q q (f176_c c4) Lw q dC (Re (Ro q)) ⟨q,q,Zt⟩ Kv q (λ_=>Kv) (λ_=>(Re (Ro q))) (Zw q) q q (λe0=>?_)
 refine Rlc 2 q ?_
 replace h:=az h
 obtain⟨bk,c5,h⟩:=h
 refine aY (λenv' st'=>∃(N:lI),∃(O:Nat),bk N=some r∧Sub [(0, .pt 0 0),(3, .d (.pc (R33 t1)))] env'∧SLe st' [.row 219 [.os 1 O], .os 5 1 O (eM E5 N), .z, .z, .z, .z]) ?_ ?_
 refine Rcc 6 q (be (λn env' st'=>∃(f:Int),∃(P:lI),∃(Q:Nat),f144_l4 t1 bk n f P=some r∧Sub [(0, .pt 0 0),(3, .d (.pc (R33 t1))),(8, .n f)] env'∧SLe st' [.row 219 [.os 1 Q], .os 5 1 Q (eM E5 P), .z, .z, .z, .z]) (λn=>n) 9223372036854775808 ⟨0,c3,_,h,(Sx q (Sx q (Sx q (Sub.nil _)))),⟨Zp,Zf,Zt,Zt,Zt,Zt,Zt⟩⟩ ?_)
 rintro n e st1 ⟨f,P,Q,h,hsub,hst⟩
 rcases n with _|n
 rw[f144_l4] at h;cases h
 rw[f144_l4] at h
 refine WC.sub hsub (WC.weak hst ?_)
 refine Rcl 6 q (Zq (aa E65 t1.selects e25 q q Zl) q (Rlc 3 q (Ci h q (λh=>?_) λh=>?_)))
 refine Rcc 2 q ?_
 replace h:=az h
 obtain⟨c6,c7,h⟩:=h
 refine aY (λenv' st'=>∃(R:lI),∃(S:Nat),∃(c60v284:List cD),∃(c61v285:Int),∃(c62v286:Int),c6 R c60v284 c61v285 c62v286=some r∧Sub [(0, .pt 0 0),(3, .d (.pc (R33 t1))),(8, .n f)] env'∧SLe st' [.row 219 [.os 1 S], .os 5 1 S (eM E5 R), .z, .z, .z, .z, .row 65 [.l dB c60v284, .n c61v285, .n c62v286], .z, .z]) ?_ ?_
 refine Rcl 6 q (Ix h e25 jT q Zl q q λc _ h=>(Rl 1 q (Al z65 q (sS Z6 s65 Z2 (Rll 7 q (Zq (aa dB c.alts e63 q q Zl) q (WL.s ((NewOs.b (ae l54 z3 q dC dC q q q dC)).does) (Zw q) q q ?_)))))))
 refine WL.freezeX [156] [] 7 _ q (ah bd [(List.length c.alts:Int)]) ⟨q,Zt⟩ Zt ?_
 obtain⟨c8,c',h⟩:=ac h
 refine aw [0,1] q q q q (f176_c c') Lw q dC (Re (Ro q)) ⟨q,q,Zt⟩ Kv q (λ_=>Kv) (λ_=>(Re (Ro q))) (Zw q) q q (λe1=>?_)
 refine Rlc 2 q ?_
 replace h:=az h
 obtain⟨bo,dd,h⟩:=h
 refine aY (λenv' st'=>∃(T:lI),∃(U:Nat),bo T=some r∧Sub [(0, .pt 0 0),(3, .d (.pc (R33 t1))),(8, .n f),(9, .pt 6 0)] env'∧SLe st' [.row 219 [.os 1 U], .os 5 1 U (eM E5 T), .z, .z, .z, .z, .row 65 [.l dB c.alts, .n c.obj, .n c.else_], .z]) ?_ ?_
 refine Rcc 6 q (be (λna env' st'=>∃(m:Int),∃(V:lI),∃(W:Nat),f144_l5 c bo na m V=some r∧Sub [(0, .pt 0 0),(3, .d (.pc (R33 t1))),(8, .n f),(9, .pt 6 0),(10, .n m)] env'∧SLe st' [.row 219 [.os 1 W], .os 5 1 W (eM E5 V), .z, .z, .z, .z, .row 65 [.l dB c.alts, .n c.obj, .n c.else_], .z]) (λn=>n) 9223372036854775808 ⟨0,c8,_,h,(Sx q (Sx q (Sx q (Sx q (Sx q (Sub.nil _)))))),⟨Zp,Zf,Zt,Zt,Zt,Zt,Zp,Zt,Zt⟩⟩ ?_)
 rintro na e st1 ⟨m,V,W,h,hsub,hst⟩
 rcases na with _|na
 rw[f144_l5] at h;cases h
 rw[f144_l5] at h
 refine WC.sub hsub (WC.weak hst ?_)
 refine Rcl 6 q (Zq (aa dB c.alts e63 q q Zl) q (Rlc 3 q (Ci h q (λh=>?_) λh=>?_)))
 refine Rcl 9 q (Ix h e63 jm q Zl q q λj _ h=>(Rl 1 q (Al z128 q (sS Z6 s128 Z2 (Rll 15 q (WL.s ((NewOs.b (ae l54 z3 q dC dC q q q dC)).does) (Zw q) q q ?_))))))
 refine WL.freezeX [182] [] 9 _ q (ah bd [(IntKind.i64.wrap j.kind),j.entry,j.guard,j.time,j.at_]) ⟨q,Zt⟩ Zt ?_
 obtain⟨e2,df,h⟩:=ac h
 refine aw [0,1] q q q q (f176_c df) Lw q dC (Re (Ro q)) ⟨q,q,Zt⟩ Kv q (λ_=>Kv) (λ_=>(Re (Ro q))) (Zw q) q q (λe3=>?_)
 exact Rlx 8 q (WE.drop 8 (env':=[(0, .pt 0 0),(3, .d (.pc (R33 t1))),(8, .n f),(9, .pt 6 0),(10, .n (IntKind.i64.wrap (m+1)))]) Sb q Kv (Nat.le_trans (Nat.le_of_eq hmm) (nbT q)) (Fn3 h))
 exact Rcx 4 q (En2 h)
 rintro e st1 ⟨T,U,h,hsub,hst⟩
 subst dd
 dsimp only at h
 refine WC.sub hsub (WC.weak hst ?_)
 refine Rcl 6 q (WL.s ((NewOs.b (ae l54 z3 q dC dC q q q dC)).does) (Zw q) q q ?_)
 refine WL.freezeX [189] [] 8 _ q (ah bd [c.obj,c.else_]) ⟨q,Zt⟩ Zt ?_
 obtain⟨e4,dk,h⟩:=ac h
 refine aw [0,1] q q q q (f176_c dk) Lw q dC (Re (Ro q)) ⟨q,q,Zt⟩ Kv q (λ_=>Kv) (λ_=>(Re (Ro q))) (Zw q) q q (λe5=>?_)
 exact Rlx 2 q (En5 h)
 rintro e st1 ⟨R,S,c60v284,c61v285,c62v286,h,hsub,hst⟩
 subst c7
 dsimp only at h
 refine WC.sub hsub (WC.weak hst ?_)
 exact Rcx 5 q (WE.drop 6 (env':=[(0, .pt 0 0),(3, .d (.pc (R33 t1))),(8, .n (IntKind.i64.wrap (f+1)))]) Sb q Kv (Nat.le_trans (Nat.le_of_eq hmm) (nbT q)) (Fn3 h))
 exact Rcx 4 q (En2 h)
 rintro e st1 ⟨N,O,h,hsub,hst⟩
 subst c5
 dsimp only at h
 refine WC.sub hsub (WC.weak hst ?_)
 refine Rcl 5 q (Zq (aa E54 t1.lists e26 q q Zl) q (WL.s ((NewOs.b (ae l54 z3 q dC dC q q q dC)).does) (Zw q) q q ?_))
 refine WL.freezeX [195] [] 6 _ q (ah bd [(List.length t1.lists:Int)]) ⟨q,Zt⟩ Zt ?_
 obtain⟨ds,dS,h⟩:=ac h
 refine aw [0,1] q q q q (f176_c dS) Lw q dC (Re (Ro q)) ⟨q,q,Zt⟩ Kv q (λ_=>Kv) (λ_=>(Re (Ro q))) (Zw q) q q (λe6=>?_)
 refine Rlc 8 q (be (λn env' st'=>∃(X:Int),∃(Y:lI),∃(p:Nat),f144_l6 t1 n X Y=some r∧Sub [(0, .pt 0 0),(3, .d (.pc (R33 t1))),(12, .n X)] env'∧SLe st' [.row 219 [.os 1 p], .os 5 1 p (eM E5 Y), .z, .z, .z, .z, .z]) (λn=>n) 9223372036854775808 ⟨0,ds,_,h,(Sx q (Sx q (Sx q (Sub.nil _)))),⟨Zp,Zf,Zt,Zt,Zt,Zt,Zt,Zt⟩⟩ ?_)
 rintro n e st1 ⟨X,Y,p,h,hsub,hst⟩
 rcases n with _|n
 rw[f144_l6] at h;cases h
 rw[f144_l6] at h
 refine WC.sub hsub (WC.weak hst ?_)
 refine Rcl 6 q (Zq (aa E54 t1.lists e26 q q Zl) q (Rlc 3 q (Ci h q (λh=>?_) λh=>?_)))
 refine Rcl 9 q (Ix h e26 nO q Zl q q λe7 _ h=>(Rl 1 q ?_))
 obtain⟨e8,d0,h⟩:=ac h
 refine aw [0,1] q q q q (f178_c d0) Lw q dC (Re (Ro q)) ⟨q,q,Zt⟩ Kv q (λ_=>Kv) (λ_=>(Re (Ro q))) (Zw q) q q (λe'=>?_)
 exact Rlx 8 q (Fn3 h)
 refine Rcx 4 q (cJ ?_)
 obtain rfl:=Oi h
 exact bL p (eg q) (bQ Zt) q ⟨Zp,Zf,Zt⟩

theorem f179s_c(c:lI→ap→Option lI)(l:lI)(e1:ap)(g:∀{verl:Nat}(l:lI)(x1:ap)(r:lI),c l x1=some r→Ctr prog 179 [.pt 0 0, .d (.ag (R80 x1))] [.row 219 [.os 1 verl], .os 5 1 verl (eM E5 l)] (ga 2 (.tu []) (λiv=> [.row 219 [.os 1 iv], .os 5 1 iv (eM E5 r)]))){verl:Nat}{r:lI}(h:f179s c l e1=some r):Ctr prog 179 [.pt 0 0, .d (.ag (R80 e1))] [.row 219 [.os 1 verl], .os 5 1 verl (eM E5 l)] (ga 2 (.tu []) (λiv=> [.row 219 [.os 1 iv], .os 5 1 iv (eM E5 r)])):=by
 unfold f179s at h
 refine cI func179 λ_ _ _ hmm=>?_
 refine Rcl 2 q (Bd q q (Zs _) q (Rll 11 q (WL.s ((NewOs.b (ae l54 z3 q dC dC q q q dC)).does) (Zw q) q q ?_)))
 refine WL.freezeX [12] [] 2 _ q (ah bd [(IntKind.i64.wrap e1.kind),(IntKind.i64.wrap e1.op)]) ⟨q,Zt⟩ Zt ?_
 obtain⟨A,j,h⟩:=ac h
 refine aw [0,1] q q q q (f176_c j) Lw q dC (Re (Ro q)) ⟨q,q,Zt⟩ Kv q (λ_=>Kv) (λ_=>(Re (Ro q))) (Zw q) q q (λB=>?_)
 refine Rll 7 q ?_
 obtain⟨C,k,h⟩:=ac h
 refine aw [0,1] q q q q (f143_c k) Lw q dC (Re (Ro q)) ⟨q,q,Zt⟩ Kv q (λ_=>Kv) (λ_=>(Re (Ro q))) (Zw q) q q (λE=>?_)
 refine Rll 11 q (WL.s ((NewOs.b (ae l54 z3 q dC dC q q q dC)).does) (Zw q) q q ?_)
 refine WL.freezeX [25] [] 3 _ q (ah bd [e1.o,e1.off,e1.len]) ⟨q,Zt⟩ Zt ?_
 obtain⟨F,m,h⟩:=ac h
 refine aw [0,1] q q q q (f176_c m) Lw q dC (Re (Ro q)) ⟨q,q,Zt⟩ Kv q (λ_=>Kv) (λ_=>(Re (Ro q))) (Zw q) q q (λG=>?_)
 refine Rll 7 q ?_
 obtain⟨H,p,h⟩:=ac h
 refine aw [0,1] q q q q (f143_c p) Lw q dC (Re (Ro q)) ⟨q,q,Zt⟩ Kv q (λ_=>Kv) (λ_=>(Re (Ro q))) (Zw q) q q (λI=>?_)
 refine Rll 7 q ?_
 obtain⟨J,t,h⟩:=ac h
 refine aw [0,1] q q q q (f143_c t) Lw q dC (Re (Ro q)) ⟨q,q,Zt⟩ Kv q (λ_=>Kv) (λ_=>(Re (Ro q))) (Zw q) q q (λK=>?_)
 refine Rll 7 q (Zq (aa E80 e1.l e73 q q Zl) q (WL.s ((NewOs.b (ae l54 z3 q dC dC q q q dC)).does) (Zw q) q q ?_))
 refine WL.freezeX [39] [] 4 _ q (ah bd [(List.length e1.l:Int)]) ⟨q,Zt⟩ Zt ?_
 obtain⟨w,x,h⟩:=ac h
 refine aw [0,1] q q q q (f176_c x) Lw q dC (Re (Ro q)) ⟨q,q,Zt⟩ Kv q (λ_=>Kv) (λ_=>(Re (Ro q))) (Zw q) q q (λL=>?_)
 refine Rlc 8 q (be (λn env' st'=>∃(e:Int),∃(f:lI),∃(a:Nat),f179s_l1 c l e1 n e f=some r∧Sub [(0, .pt 0 0),(3, .d (.pc (R80 e1))),(4, .n e)] env'∧SLe st' [.row 219 [.os 1 a], .os 5 1 a (eM E5 f), .z, .z, .z]) (λn=>n) 9223372036854775808 ⟨0,w,_,h,(Sx q (Sx q (Sx q (Sub.nil _)))),⟨Zp,Zf,Zt,Zt,Zt,Zt⟩⟩ ?_)
 rintro n M st1 ⟨e,f,a,h,hsub,hst⟩
 rcases n with _|n
 rw[f179s_l1] at h;cases h
 rw[f179s_l1] at h
 refine WC.sub hsub (WC.weak hst ?_)
 refine Rcl 6 q (Zq (aa E80 e1.l e73 q q Zl) q (Rlc 3 q (Ci h q (λh=>?_) λh=>?_)))
 refine Rcl 9 q (Ix h e73 fh q Zl q q λN _ h=>(Rl 1 q ?_))
 obtain⟨O,y,h⟩:=ac h
 refine aw [0,1] q q q q (g _ _ _ y) Lw q dC (Re (Ro q)) ⟨q,q,Zt⟩ Kv q (λ_=>Kv) (λ_=>(Re (Ro q))) (Zw q) q q (λP=>?_)
 exact Rlx 8 q (Fn3 h)
 refine Rcx 4 q (cJ ?_)
 obtain rfl:=Oi h
 exact bL a (eg q) (bQ Zt) q ⟨Zp,Zf,Zt⟩

theorem f179_c:∀(n:Nat){verl:Nat}(l:lI)(x1:ap){r:lI},f179 n l x1=some r→Ctr prog 179 [.pt 0 0, .d (.ag (R80 x1))] [.row 219 [.os 1 verl], .os 5 1 verl (eM E5 l)] (ga 2 (.tu []) (λiv=> [.row 219 [.os 1 iv], .os 5 1 iv (eM E5 r)]))
 |0,_,_,_,_,h=>by cases h
 |n+1,_,l,x1,_,h=>f179s_c (f179 n) l x1 (λl x1 _ h=>f179_c n l x1 h) h

end Go.Proofs.YtejcfgjpdocaoaaGreatDoor
