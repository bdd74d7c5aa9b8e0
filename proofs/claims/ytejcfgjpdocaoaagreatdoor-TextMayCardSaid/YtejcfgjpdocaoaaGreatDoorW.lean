/- The walks of functions. -/
import Derived.Test.YtejcfgjpdocaoaaGreatDoorX
set_option linter.unusedVariables false
set_option linter.unusedSimpArgs false
set_option linter.unusedSectionVars false
set_option linter.unnecessarySimpa false
set_option maxHeartbeats 4000000
set_option maxRecDepth 100000
namespace Go.Proofs.YtejcfgjpdocaoaaGreatDoor
open Tryz
open Go Go.Sk

theorem f163_c(s0:lI)(a:Int→oB)(g1:FuncId)(c e:lD)(g:∀(y0:Int)(r:Bool),a y0=some r→Pu prog g1 (c++ [.i .i64 y0]++e) (.b r)){r:Int}(h:f163 s0 a=some r):Pu prog 163 [.sl (List.map E3 s0), .fnc (.func g1) c e] (.i .i64 r):=by
 unfold f163 at h
 refine fI func163 λ_ _=>?_
 refine WC.cast 1 q (fp _ _ _) (Rcc 5 q (Jn0 [] [] h (λj h=>?_) λh=>?_))
 refine Rcl 3 q (Zq (aa E3 s0 e54 q q Zl) q (Rlc 4 q (Ln1 (λf=> [(0, .l E3 s0),(1, .fn (.func g1) (List.map AV.d c) (List.map AV.d e)),(7, .n (List.length s0:Int)),(8, .n f)]) (λ_=> []) (f163_l1 s0 a j) h (λ_ h=>by rw[f163_l1] at h;cases h) λn f h=>?_)))
 rw[f163_l1] at h
 refine Rcc 6 q (Ci h q (λh=>?_) λh=>?_)
 refine Rcl 15 q (Ix h e54 d6 q Zl q q λm _ h=>(Rl 1 q ?_))
 obtain⟨p,k,h⟩:=ac h
 refine WL.fn q q q q (g _ _ k) (la Lw) (Zw q) q q (Rlc 2 q (Ci h q (λh=>?_) λh=>?_))
 exact Rcx 12 q (FA h)
 exact Rcx 7 q (Fn1 h)
 exact Rcx 4 q (En0 h)
 exact Rcx 6 q (FA h)

theorem f112_c(s0:lI)(d:Int→oB)(g1:FuncId)(a c:lD)(e:∀(y0:Int)(r:Bool),d y0=some r→Pu prog g1 (a++ [.i .i64 y0]++c) (.b r)){r:Bool}(h:f112 s0 d=some r):Pu prog 112 [.sl (List.map E3 s0), .fnc (.func g1) a c] (.b r):=by
 unfold f112 at h
 refine fI func112 λ_ _=>?_
 refine WC.cast 1 q (fp _ _ _) (Rcl 9 q ?_)
 obtain⟨g,f,h⟩:=ac h
 exact wF Z4 (f163_c _ _ g1 a c e f) ⟨Zl,(Le.fnc (Zs _) (Zs _)),Zt⟩ Z3 (Rlx 5 q (FA h))

theorem f113_c(n0:Int)(a:Int):Pu prog 113 [.i .i64 n0, .pc (E2 a)] (.b (f113 n0 a)):=by
 generalize h:f113 n0 a=r
 unfold f113 at h
 refine fI func113 λ_ _=>?_
 exact Rcx 15 q (FB h)

theorem f45_c{o0:Obj}{v1:Int}{r:Bool}(h:f45 o0 v1=some r):Pu prog 45 [.ag (R67 o0), .i .i64 v1] (.b r):=by
 unfold f45 at h
 refine fI func45 λ_ _=>?_
 refine Rcl 2 q (Bd q q (Zs _) q (WL.s ((kT q q (by exact(show Les [.n v1] (List.map AV.d [.i .i64 v1]) from Lw))).does) (Zw q) q q (Rlc 10 q (Ci h q (λh=>?_) λh=>?_))))
 refine Rcl 5 q ?_
 obtain⟨a,c,h⟩:=ac h
 refine Gg 5 9 14 a c (λh=>?_) (λh=>?_) ?_
 exact On 5 5 h
 refine Rl 3 q ?_
 obtain⟨f,e,h⟩:=ac h
 exact WL.fn q q q q (f112_c _ _ 113 [] [(.pc (E2 v1))] (λz0 _ h=>by obtain rfl:=inS h;exact f113_c z0 v1) e) ⟨Zl,(Le.fnc Zt Lw),Zt⟩ (aG q q q) q q (On 1 5 h)
 exact Rlx 5 q (FA h)
 refine Rcl 9 q ?_
 refine AG 5 19 24 5 5 ?_
 exact Rlx 4 q (FA h)

theorem f88_c{t0:aV}{o1:Obj}{r:Bool}(h:f88 t0 o1=some r):Pu prog 88 [.ag (R86 t0), .ag (R67 o1)] (.b r):=by
 unfold f88 at h
 refine fI func88 λ_ _=>?_
 refine Rcl 2 q (Bd q q (Zs _) q (Bd q q (Zs _) q (Rll 10 q ?_)))
 refine OG 4 11 15 4 4 ?_
 refine Rl 1 q ?_
 refine OG 6 16 22 6 6 ?_
 refine Rlc 2 q (Ci h q (λh=>Rcx 7 q (FA h)) λh=>?_)
 refine Rcc 10 q (Ci h q (λh=>Rcl 4 q (Zq (aa E3 o1.set_ e54 q q Zl) q (Rlx 6 q (FA h)))) λh=>?_)
 refine Rcc 7 q (Jn0 [(3, .d (.pc (R67 o1)))] [] h (λg h=>?_) λh=>?_)
 refine Rcl 4 q (Zq (aa E3 o1.set_ e54 q q Zl) q (Rlc 4 q (Ln2 (λa c=> [(2, .d (.pc (R86 t0))),(3, .d (.pc (R67 o1))),(5, .n a),(31, .l E3 o1.set_),(32, .n (List.length o1.set_:Int)),(33, .n c)]) (λ_ _=> []) (f88_l1 t0 o1 g) h (λ_ _ h=>by rw[f88_l1] at h;cases h) λn a c h=>?_)))
 rw[f88_l1] at h
 refine Rcc 6 q (Ci h q (λh=>?_) λh=>?_)
 refine Rcl 6 q (Ix h e54 d6 q Zl q q λw _ h=>(Rll 11 q ?_))
 apply WL.or 7 (t:=40) (d:=47)
 exact q
 intro x
 exact Rl 4 q (Zy (aa E67 t0.text.objs e27 q q Zl) q q q (Rl 2 q (WL.nil ⟨q,[_,_,_,_,_,_,_],q,q,q⟩)))
 exact Rn 7 7
 refine Rl 1 q ?_
 obtain⟨j,k,h⟩:=ac h
 refine Gg 9 48 57 j k (λh=>?_) (λh=>?_) ?_
 exact On 9 9 h
 refine Rl 4 q ?_
 obtain⟨y,e,h⟩:=ac h
 exact Zy (ah e27 q Zl q (af e) (ar bu e) q) q q q (On 4 9 h)
 refine Rl 1 q ?_
 obtain⟨m,p,h⟩:=ac h
 refine Gg 8 58 66 m p (λh=>?_) (λh=>?_) ?_
 exact On 8 8 h
 refine Rl 4 q ?_
 obtain⟨A,f,h⟩:=ac h
 exact Zy (ah e27 q Zl q (af f) (ar bu f) q) q q q (On 3 8 h)
 exact Rlc 2 q (Ci h q (λh=>Rcx 12 q (FA h)) λh=>Rcx 12 q (Fn2 h))
 exact Rcx 4 q (En0 h)
 refine Rcl 6 q ?_
 refine AG 4 72 76 4 4 ?_
 exact Rlx 4 q (FA h)

theorem f89_c{t0:aV}{o1:Int}{a:Int}{c:Int}{r:Bool}(h:f89 t0 o1 a c=some r):Pu prog 89 [.ag (R86 t0), .i .i64 o1, .i .i64 a, .i .i64 c] (.b r):=by
 unfold f89 at h
 refine fI func89 λ_ _=>?_
 refine Rcl 2 q (Bd q q (Zs _) q (Rll 8 q ?_))
 apply WL.and 7 (t:=11) (d:=18)
 exact q
 intro j
 exact Rl 4 q (Zy (aa E67 t0.text.objs e27 q q Zl) q q q (Rl 2 q (WL.nil ⟨q,[_,_,_,_,_,_,_],q,q,q⟩)))
 exact Rn 7 7
 refine Rl 1 q ?_
 refine AG 3 19 22 3 3 ?_
 refine Rl 1 q ?_
 obtain⟨f,g,h⟩:=ac h
 refine Gg 12 23 35 f g (λh=>?_) (λh=>?_) ?_
 refine Rl 5 q ?_
 obtain⟨k,e,h⟩:=ac h
 exact Zy (ah e27 q Zl q (af e) (ar bu e) q) q q q (On 6 12 h)
 exact On 12 12 h
 exact Rlx 4 q (FA h)

theorem f27_c{t0:aV}{r:Bool}(h:f27 t0=some r):Pu prog 27 [.ag (R86 t0)] (.b r):=by
 unfold f27 at h
 refine fI func27 λ_ _=>?_
 refine Rcl 2 q (Bd q q (Zs _) q (Rll 9 q (Zq (aa E67 t0.text.objs e27 q q Zl) q (Rl 2 q ?_))))
 refine OG 5 15 20 5 5 ?_
 refine Rl 1 q ?_
 refine OG 5 21 26 5 5 ?_
 refine Rlc 2 q (Ci h q (λh=>Rcx 7 q (FA h)) λh=>?_)
 refine Rcc 7 q (Jn1 (λc=> [(1, .d (.pc (R86 t0))),(3, .n c)]) (λ_=> []) h (λC h=>?_) λc h=>?_)
 refine Rcl 5 q (Zq (aa E67 t0.text.objs e27 q q Zl) q (Rlc 4 q (Ln2 (λf g=> [(1, .d (.pc (R86 t0))),(3, .n f),(29, .l E67 t0.text.objs),(30, .n (List.length t0.text.objs:Int)),(31, .n g)]) (λ_ _=> []) (f27_l1 t0 C) h (λ_ _ h=>by rw[f27_l1] at h;cases h) λn f g h=>?_)))
 rw[f27_l1] at h
 refine Rcc 6 q (Ci h q (λh=>?_) λh=>?_)
 refine Rcl 6 q (Ix h e27 bu q Zl q q λE _ h=>(Rl 1 q (Al z67 q (sS Z6 s67 Z2 (Rll 7 q ?_)))))
 obtain⟨L,F,h⟩:=ac h
 refine wF Z4 (f88_c F) ⟨Zl,(aR (Zs _)),Zt⟩ Z3 (Rlc 3 q (Ci h q (λh=>?_) λh=>?_))
 exact Rcx 12 q (FA h)
 exact Rcx 15 q (WE.drop 0 (env':=[(1, .d (.pc (R86 t0))),(3, .n (IntKind.i64.wrap (f+E.size))),(29, .l E67 t0.text.objs),(30, .n (List.length t0.text.objs:Int)),(31, .n (IntKind.i64.wrap (g+1)))]) Sb q q (Nat.zero_le _) (Fn2 h))
 exact Rcx 4 q (En1 h)
 refine Rcl 2 q (WL.s ((hZ (α:=Bool) (λx:Int×Int=>Value.agg ⟨[Value.int .i64 x.1,Value.int .i64 x.2]⟩) (λx:Bool=>AV.d (.b x))).does) (Zw q) q q (Rlc 3 q (Jn1 (λ_=> [(3, .n c)]) (λw=> [mpO (λx:Int×Int=>Value.agg ⟨[Value.int .i64 x.1,Value.int .i64 x.2]⟩) (λx:Bool=>AV.d (.b x)) w]) h (λG h=>?_) λw h=>?_)))
 refine Rcl 5 q (Zq (aa E93 t0.text.inits e28 q q Zl) q (Rlc 4 q (Ln2 (λj _=> [(1, .d (.pc (R86 t0))),(3, .n c),(6, .mp 0),(47, .l E93 t0.text.inits),(48, .n (List.length t0.text.inits:Int)),(49, .n j)]) (λ_ e=> [mpO (λx:Int×Int=>Value.agg ⟨[Value.int .i64 x.1,Value.int .i64 x.2]⟩) (λx:Bool=>AV.d (.b x)) e]) (f27_l2 t0 G) h (λ_ _ h=>by rw[f27_l2] at h;cases h) λn j e h=>?_)))
 rw[f27_l2] at h
 refine Rcc 6 q (Ci h q (λh=>?_) λh=>?_)
 refine Rcl 6 q (Ix h e28 dU q Zl q q λa _ h=>(Rl 1 q (Al z93 q (sS Z6 s93 Z2 (Rll 8 q (Zq (ab p152 z152 q q) q (Al z152 q (sS Z6 s152 Z2 (Rlc 4 q (aw kR kR (Rq 2 q (WQ.qn (mM (λx:Int×Int=>Value.agg ⟨[Value.int .i64 x.1,Value.int .i64 x.2]⟩) (λx:Bool=>AV.d (.b x)) e (k:=(a.o,a.slot)) (z:=false) (vs:=[.int .i64 a.o, .int .i64 a.slot]) underlying150 (kj underlying152 underlying3 underlying3 q q kR) q q q (aR (Zs _)) q kR q) q (Rq 1 q ?_)))))))))))))
 obtain⟨H,y,h⟩:=ac h
 apply WQ.grp 8 (t:=61) (d:=69) (z:=H)
 exact q
 intro m
 have h:=cX y m
 refine Rq 8 q ?_
 obtain rfl:=Oi h
 exact WQ.nil ⟨[_,_,_,_,_,_,_,_],q,q,q⟩
 intro m
 have h:=cY y m
 refine Rq 5 q ?_
 obtain⟨M,I,h⟩:=ac h
 refine WQ.q (YieldsQ.fn q q q q q (f89_c I) Lw) (aG q q q) q q (Rq 2 q ?_)
 obtain rfl:=Oi h
 exact WQ.nil ⟨[_,_,_,_,_,_,_,_],q,q,q⟩
 refine Rq 1 q ?_
 obtain⟨J,A,h⟩:=ac h
 apply WQ.grp 12 (t:=70) (d:=82) (z:=J)
 exact q
 intro p
 have h:=cX A p
 refine Rq 12 q ?_
 obtain rfl:=Oi h
 exact WQ.nil ⟨[_,_,_,_,_,_,_,_,_,_,_,_],q,q,q⟩
 intro p
 have h:=cY A p
 refine Rq 5 q ?_
 obtain⟨N,B,h⟩:=ac h
 refine WQ.qy (ah e27 q Zl q (af B) (ar bu B) q) q q q (Rq 3 q ?_)
 obtain⟨O,K,h⟩:=ac h
 refine WQ.q (YieldsQ.fn q q q q q (f45_c K) Lw) (aG q q q) q q (Rq 2 q ?_)
 obtain rfl:=Oi h
 exact WQ.nil ⟨[_,_,_,_,_,_,_,_,_,_,_,_],q,q,q⟩
 refine WQ.nil (Rxc 1 q (Ci h q (λh=>?_) λh=>?_))
 exact Rcx 12 q (FA h)
 exact Rcl 5 q (WL.s0 (jG (λx:Int×Int=>Value.agg ⟨[Value.int .i64 x.1,Value.int .i64 x.2]⟩) (λx:Bool=>AV.d (.b x)) e (k:=(a.o,a.slot)) (vs:=[.int .i64 a.o, .int .i64 a.slot]) (.inr q) underlying150 (kj underlying152 underlying3 underlying3 q q kR) q q q (aR (Zs _)) q q) (Zw q) q (Rlx 7 q (WE.drop 1 (env':=[(1, .d (.pc (R86 t0))),(3, .n c),(6, .mp 0),(47, .l E93 t0.text.inits),(48, .n (List.length t0.text.inits:Int)),(49, .n (IntKind.i64.wrap (j+1)))]) Sb q (dr (qg _ (λx:Int×Int=>Value.agg ⟨[Value.int .i64 x.1,Value.int .i64 x.2]⟩) (λx:Bool=>(.b x:D)) _) q) (Nat.zero_le _) (Fn2 h))))
 exact Rcx 4 q (En1 h)
 exact Rcx 8 q (FA h)

theorem f47_c{t0:aV}{a1:Int}:Pu prog 47 [.ag (R86 t0), .i .i64 a1] (.b (f47 t0 a1)):=by
 generalize h:f47 t0 a1=r
 unfold f47 at h
 refine fI func47 λ_ _=>?_
 refine Rcl 2 q (Bd q q (Zs _) q (Rll 8 q ?_))
 apply WL.and 7 (t:=7) (d:=14)
 exact q
 intro a
 exact Rl 4 q (Zy (aa E59 t0.text.insns e22 q q Zl) q q q (Rl 2 q (WL.nil ⟨q,[_,_,_,_,_,_,_],q,q,q⟩)))
 exact Rn 7 7
 exact Rlx 4 q (FB h)

theorem f151_c(s0:List bg)(a:bg→oB)(g1:FuncId)(c e:lD)(g:∀(y0:bg)(r:Bool),a y0=some r→Pu prog g1 (c++ [.ag (R72 y0)]++e) (.b r)){r:Int}(h:f151 s0 a=some r):Pu prog 151 [.sl (List.map E72 s0), .fnc (.func g1) c e] (.i .i64 r):=by
 unfold f151 at h
 refine fI func151 λ_ _=>?_
 refine WC.cast 1 q (fp _ _ _) (Rcc 5 q (Jn0 [] [] h (λj h=>?_) λh=>?_))
 refine Rcl 3 q (Zq (aa E72 s0 e68 q q Zl) q (Rlc 4 q (Ln1 (λf=> [(0, .l E72 s0),(1, .fn (.func g1) (List.map AV.d c) (List.map AV.d e)),(7, .n (List.length s0:Int)),(8, .n f)]) (λ_=> []) (f151_l1 s0 a j) h (λ_ h=>by rw[f151_l1] at h;cases h) λn f h=>?_)))
 rw[f151_l1] at h
 refine Rcc 6 q (Ci h q (λh=>?_) λh=>?_)
 refine Rcl 15 q (Ix h e68 gf q Zl q q λm _ h=>(Rl 1 q ?_))
 obtain⟨p,k,h⟩:=ac h
 refine WL.fn q q q q (g _ _ k) (la Lw) (Zw q) q q (Rlc 2 q (Ci h q (λh=>?_) λh=>?_))
 exact Rcx 12 q (FA h)
 exact Rcx 7 q (Fn1 h)
 exact Rcx 4 q (En0 h)
 exact Rcx 6 q (FA h)

theorem f90_c(s0:List bg)(d:bg→oB)(g1:FuncId)(a c:lD)(e:∀(y0:bg)(r:Bool),d y0=some r→Pu prog g1 (a++ [.ag (R72 y0)]++c) (.b r)){r:Bool}(h:f90 s0 d=some r):Pu prog 90 [.sl (List.map E72 s0), .fnc (.func g1) a c] (.b r):=by
 unfold f90 at h
 refine fI func90 λ_ _=>?_
 refine WC.cast 1 q (fp _ _ _) (Rcl 9 q ?_)
 obtain⟨g,f,h⟩:=ac h
 exact wF Z4 (f151_c _ _ g1 a c e f) ⟨Zl,(Le.fnc (Zs _) (Zs _)),Zt⟩ Z3 (Rlx 5 q (FA h))

theorem f152_c(o0:Int)(a:aV){r:Bool}(h:f152 o0 a=some r):Pu prog 152 [.i .i64 o0, .pc (R86 a)] (.b r):=by
 unfold f152 at h
 refine fI func152 λ_ _=>?_
 refine Rcl 10 q ?_
 apply WL.or 7 (t:=6) (d:=13)
 exact q
 intro g
 exact Rl 4 q (Zy (aa E67 a.text.objs e27 q q Zl) q q q (Rl 2 q (WL.nil ⟨q,[_,_,_,_,_,_,_],q,q,q⟩)))
 exact Rn 7 7
 refine Rl 1 q ?_
 obtain⟨e,f,h⟩:=ac h
 refine Gg 9 14 23 e f (λh=>?_) (λh=>?_) ?_
 exact On 9 9 h
 refine Rl 4 q ?_
 obtain⟨j,c,h⟩:=ac h
 exact Zy (ah e27 q Zl q (af c) (ar bu c) q) q q q (On 4 9 h)
 exact Rlx 4 q (FA h)

theorem f92_c{t0:aV}{l1:lI}{r:Bool}(h:f92 t0 l1=some r):Pu prog 92 [.ag (R86 t0), .sl (List.map E3 l1)] (.b r):=by
 unfold f92 at h
 refine fI func92 λ_ _=>?_
 refine Rcl 2 q (Bd q q (Zs _) q (Rll 6 q (Zq (aa E3 l1 e54 q q Zl) q (Rl 2 q ?_))))
 obtain⟨a,c,h⟩:=ac h
 refine Gg 5 8 13 a c (λh=>?_) (λh=>?_) ?_
 refine Rl 2 q ?_
 obtain⟨e,d,h⟩:=ac h
 exact WL.fn q q q q (f112_c _ _ 152 [] [(.pc (R86 t0))] (λz0 _ h=>f152_c z0 t0 h) d) ⟨Zl,(Le.fnc Zt Lw),Zt⟩ (aG q q q) q q (On 2 5 h)
 exact On 5 5 h
 exact Rlx 4 q (FA h)

theorem f91_c(e0:bg)(a:aV){r:Bool}(h:f91 e0 a=some r):Pu prog 91 [.ag (R72 e0), .pc (R86 a)] (.b r):=by
 unfold f91 at h
 refine fI func91 λ_ _=>?_
 refine Rcl 2 q (Bd q q (Zs _) q (Rll 8 q ?_))
 obtain⟨g,c,h⟩:=ac h
 refine wF Z4 (f92_c c) Lw Z3 (Rl 2 q ?_)
 obtain⟨d,e,h⟩:=ac h
 refine Gg 6 9 15 d e (λh=>?_) (λh=>?_) ?_
 exact On 6 6 h
 refine Rl 3 q ?_
 obtain⟨j,f,h⟩:=ac h
 exact WL.fn q q q q (f92_c f) Lw (aG q q q) q q (On 2 6 h)
 exact Rlx 4 q (FA h)

theorem f28_c{t0:aV}{r:Bool}(h:f28 t0=some r):Pu prog 28 [.ag (R86 t0)] (.b r):=by
 unfold f28 at h
 refine fI func28 λ_ _=>?_
 refine Rcl 2 q (Bd q q (Zs _) q (Rll 9 q (Zq (aa E70 t0.text.tasks e29 q q Zl) q (Rl 2 q ?_))))
 apply WL.or 6 (t:=10) (d:=16)
 exact q
 intro g
 exact Rl 3 q (Zy (aa E70 t0.text.tasks e29 q q Zl) q q q (Rl 2 q (WL.nil ⟨q,[_,_,_,_,_,_],q,q,q⟩)))
 exact Rn 6 6
 refine Rlc 2 q (Ci h q (λh=>Rcx 7 q (FA h)) λh=>?_)
 refine Rcc 2 q (Jn0 [] [] h (λc h=>?_) λh=>?_)
 refine Rcl 5 q (Zq (aa E70 t0.text.tasks e29 q q Zl) q (Rlc 4 q (Ln1 (λa=> [(1, .d (.pc (R86 t0))),(19, .l E70 t0.text.tasks),(20, .n (List.length t0.text.tasks:Int)),(21, .n a)]) (λ_=> []) (f28_l1 t0 c) h (λ_ h=>by rw[f28_l1] at h;cases h) λn a h=>?_)))
 rw[f28_l1] at h
 refine Rcc 6 q (Ci h q (λh=>?_) λh=>?_)
 refine Rcl 6 q (Ix h e29 dV q Zl q q λe _ h=>(Rl 1 q (Al z70 q (sS Z6 s70 Z2 (Rll 9 q ?_)))))
 refine OG 4 28 32 4 4 ?_
 refine Rl 1 q ?_
 apply WL.or 6 (t:=33) (d:=39)
 exact q
 intro j
 exact Rl 3 q (WL.fn q q q q (f47_c) Lw (aG q q q) q q (Rl 2 q (WL.nil ⟨q,[_,_,_,_,_,_],q,q,q⟩)))
 exact Rn 6 6
 refine Rl 1 q ?_
 refine OG 4 40 44 4 4 ?_
 refine Rl 1 q ?_
 refine OG 4 45 49 4 4 ?_
 refine Rl 1 q ?_
 apply WL.or 5 (t:=50) (d:=55)
 exact q
 intro k
 exact Rl 2 q (Zy (aa E72 e.entries e68 q q Zl) q q q (Rl 2 q (WL.nil ⟨q,[_,_,_,_,_],q,q,q⟩)))
 exact Rn 5 5
 refine Rlc 2 q (Ci h q (λh=>Rcx 12 q (FA h)) λh=>?_)
 refine Rcl 7 q ?_
 obtain⟨m,f,h⟩:=ac h
 refine wF Z4 (f90_c _ _ 91 [] [(.pc (R86 t0))] (λz0 _ h=>f91_c z0 t0 h) f) ⟨Zl,(Le.fnc Zt Lw),Zt⟩ Z3 (Rlc 2 q (Ci h q (λh=>?_) λh=>?_))
 exact Rcx 11 q (FA h)
 exact Rcx 7 q (WE.drop 0 (env':=[(1, .d (.pc (R86 t0))),(19, .l E70 t0.text.tasks),(20, .n (List.length t0.text.tasks:Int)),(21, .n (IntKind.i64.wrap (a+1)))]) Sb q q (Nat.zero_le _) (Fn1 h))
 exact Rcx 4 q (En0 h)
 exact Rcx 6 q (FA h)

theorem f29_c{t0:aV}{r:Bool}(h:f29 t0=some r):Pu prog 29 [.ag (R86 t0)] (.b r):=by
 unfold f29 at h
 refine fI func29 λ_ _=>?_
 refine Rcl 2 q (Bd q q (Zs _) q (Rll 9 q (Zq (aa E54 t0.text.lists e26 q q Zl) q (Rlc 3 q (Ci h q (λh=>?_) λh=>?_)))))
 exact Rcx 7 q (FA h)
 refine Rcc 2 q (Jn0 [] [] h (λk h=>?_) λh=>?_)
 refine Rcl 5 q (Zq (aa E54 t0.text.lists e26 q q Zl) q (Rlc 4 q (Ln1 (λc=> [(1, .d (.pc (R86 t0))),(15, .l E54 t0.text.lists),(16, .n (List.length t0.text.lists:Int)),(17, .n c)]) (λ_=> []) (f29_l1 t0 k) h (λ_ h=>by rw[f29_l1] at h;cases h) λn c h=>?_)))
 rw[f29_l1] at h
 refine Rcc 6 q (Ci h q (λh=>?_) λh=>?_)
 refine Rcc 2 q (Jn1 (λ_=> [(1, .d (.pc (R86 t0))),(15, .l E54 t0.text.lists),(16, .n (List.length t0.text.lists:Int)),(17, .n c)]) (λf=> [mpO (λx:Int=>Value.int .i64 x) (λx:Bool=>AV.d (.b x)) f]) h (λ_ h=>?_) λf h=>?_)
 refine Rcl 3 q (Ix h e26 nG q Zl q q λa _ h=>(Rll 6 q (WL.s ((hZ (α:=Bool) (λx:Int=>Value.int .i64 x) (λx:Bool=>AV.d (.b x))).does) (Zw q) q q (Rlc 3 q (Jn1 (λ_=> [(1, .d (.pc (R86 t0))),(4, .l E3 a),(15, .l E54 t0.text.lists),(16, .n (List.length t0.text.lists:Int)),(17, .n c)]) (λg=> [mpO (λx:Int=>Value.int .i64 x) (λx:Bool=>AV.d (.b x)) g]) h (λm h=>?_) λg h=>?_)))))
 refine Rcl 3 q (Zq (aa E3 a e54 q q Zl) q (Rlc 4 q (Ln2 (λj _=> [(1, .d (.pc (R86 t0))),(4, .l E3 a),(5, .mp 0),(15, .l E54 t0.text.lists),(16, .n (List.length t0.text.lists:Int)),(17, .n c),(22, .l E3 a),(23, .n (List.length a:Int)),(24, .n j)]) (λ_ e=> [mpO (λx:Int=>Value.int .i64 x) (λx:Bool=>AV.d (.b x)) e]) (f29_l2 t0 a m) h (λ_ _ h=>by rw[f29_l2] at h;cases h) λna j e h=>?_)))
 rw[f29_l2] at h
 refine Rcc 6 q (Ci h q (λh=>?_) λh=>?_)
 refine Rcl 6 q (Ix h e54 d6 q Zl q q λp _ h=>(Rll 10 q ?_))
 apply WL.or 7 (t:=30) (d:=37)
 exact q
 intro w
 exact Rl 4 q (Zy (aa E70 t0.text.tasks e29 q q Zl) q q q (Rl 2 q (WL.nil ⟨q,[_,_,_,_,_,_,_],q,q,q⟩)))
 exact Rn 7 7
 refine Rl 1 q ?_
 apply WL.or 4 (t:=38) (d:=42)
 exact q
 intro y
 exact Rl 2 q (Zy (lr (λx:Int=>Value.int .i64 x) (λx:Bool=>AV.d (.b x)) e (z:=false) underlying157 underlying3 (KeyF.int .i64) q q q kR q) q q q (Rl 1 q (WL.nil ⟨q,[_,_,_,_],q,q,q⟩)))
 exact Rn 4 4
 refine Rlc 2 q (Ci h q (λh=>Rcx 17 q (FA h)) λh=>?_)
 exact Rcl 5 q (WL.s0 (iu (λx:Int=>Value.int .i64 x) (λx:Bool=>AV.d (.b x)) e (.inr q) underlying157 underlying3 (KeyF.int .i64) q q q q) (Zw q) q (Rlx 7 q (Fn2 h)))
 exact Rcx 4 q (En1 h)
 refine Rcl 3 q (Zq (aa E3 a e54 q q Zl) q (Rlc 3 q (Ci h q (λh=>?_) λh=>?_)))
 exact Rcx 11 q (FA h)
 exact Rcx 2 q (En1 h)
 exact Rcx 4 q (WE.drop 0 (env':=[(1, .d (.pc (R86 t0))),(15, .l E54 t0.text.lists),(16, .n (List.length t0.text.lists:Int)),(17, .n (IntKind.i64.wrap (c+1)))]) Sb q q (Nat.zero_le _) (Fn1 h))
 exact Rcx 4 q (En0 h)
 exact Rcx 6 q (FA h)

theorem f93s_c(b3:lN→lH→lP→lS→lL→lO→lT→Int→lK→lM→lC→Int→Int→au→Int→Option (Bool×lN×lH×lP×lS×lL×lO×lT×Int×lK×lM×lC×Int×Int))(e:lN)(f:lH)(g:lP)(j:lS)(k:lL)(m:lO)(p:lT)(w:Int)(x:lK)(y:lM)(A:lC)(jent:Int)(jleft:Int)(e1:au)(B:Int)(e':∀(e:lN)(f:lH)(g:lP)(j:lS)(k:lL)(m:lO)(p:lT)(w:Int)(x:lK)(y:lM)(A:lC)(jent:Int)(jleft:Int)(x1:au)(x2:Int)(r:Bool×lN×lH×lP×lS×lL×lO×lT×Int×lK×lM×lC×Int×Int),b3 e f g j k m p w x y A jent jleft x1 x2=some r→Ctr prog 93 [.pt 0 0, .d (.ag (R80 x1)), .n x2] [.row 160 [.l E59 e, .l E83 f, .l cw g, .l E65 j, .l E54 k, .l E67 m, .l E93 p, .n w, .l E70 x, .l E75 y, .l cM A, .n jent, .n jleft]] (pF 1 (.b r.1) (λ_=> [.row 160 [.l E59 r.2.1, .l E83 r.2.2.1, .l cw r.2.2.2.1, .l E65 r.2.2.2.2.1, .l E54 r.2.2.2.2.2.1, .l E67 r.2.2.2.2.2.2.1, .l E93 r.2.2.2.2.2.2.2.1, .n r.2.2.2.2.2.2.2.2.1, .l E70 r.2.2.2.2.2.2.2.2.2.1, .l E75 r.2.2.2.2.2.2.2.2.2.2.1, .l cM r.2.2.2.2.2.2.2.2.2.2.2.1, .n r.2.2.2.2.2.2.2.2.2.2.2.2.1, .n r.2.2.2.2.2.2.2.2.2.2.2.2.2]]))){r:Bool×lN×lH×lP×lS×lL×lO×lT×Int×lK×lM×lC×Int×Int}(h:f93s b3 e f g j k m p w x y A jent jleft e1 B=some r):Ctr prog 93 [.pt 0 0, .d (.ag (R80 e1)), .n B] [.row 160 [.l E59 e, .l E83 f, .l cw g, .l E65 j, .l E54 k, .l E67 m, .l E93 p, .n w, .l E70 x, .l E75 y, .l cM A, .n jent, .n jleft]] (pF 1 (.b r.1) (λ_=> [.row 160 [.l E59 r.2.1, .l E83 r.2.2.1, .l cw r.2.2.2.1, .l E65 r.2.2.2.2.1, .l E54 r.2.2.2.2.2.1, .l E67 r.2.2.2.2.2.2.1, .l E93 r.2.2.2.2.2.2.2.1, .n r.2.2.2.2.2.2.2.2.1, .l E70 r.2.2.2.2.2.2.2.2.2.1, .l E75 r.2.2.2.2.2.2.2.2.2.2.1, .l cM r.2.2.2.2.2.2.2.2.2.2.2.1, .n r.2.2.2.2.2.2.2.2.2.2.2.2.1, .n r.2.2.2.2.2.2.2.2.2.2.2.2.2]])):=by
 unfold f93s at h
 refine cI func93 λ_ _ _ _=>?_
 refine Rcl 2 q (Bx q q q (Bd q q (Zs _) q (WL.s ((kT q q (by exact(show Les [.n B] (List.map AV.d [.i .i64 B]) from Lw))).does) (Zw q) q q (Rll 12 q (sS Z6 s3 Z2 (St q (Rll 6 q ?_)))))))
 obtain⟨fi,fo,h⟩:=aL h
 refine WL.inl (us:=[.pt 0 0, .d (.ag (R80 e1))]) (λrv st'=>(∃(b4:Bool),∃(b5:Int),∃(a:au),∃(C:Int),∃(E:Int),∃(F:Int),∃(G:Int),fi b4 b5 a C E F G=some r∧Le rv (.tu [.d (.ag (R80 a)), .n b5, .d (D.b b4)])∧SLe st' [.row 160 [.l E59 e, .l E83 f, .l cw g, .l E65 j, .l E54 k, .l E67 m, .l E93 p, .n w, .l E70 x, .l E75 y, .l cM A, .n jent, .n (IntKind.i64.wrap (jleft - 1))], .row 158 [.pt 0 0], .row 80 [.d (D.i .u8 e1.kind), .d (D.i .u8 C), .n E, .n F, .n G, .n 0, .n 0, .n 0,sN]])) q q q q q ?_ (Zw q) q q ?_
 refine cI func153 λ_ _ _ _=>?_
 refine Rcl 2 q (Bd q q (Zs _) q (Al z80 q (Rll 9 q (sS Z6 s77 Z2 (St q (Rlc 2 q (Jn5 (λb6 _ _ _ _=> [(4, .pt 2 0),(5, .n b6)]) (λ_ I J K L=> [.row 160 [.l E59 e, .l E83 f, .l cw g, .l E65 j, .l E54 k, .l E67 m, .l E93 p, .n w, .l E70 x, .l E75 y, .l cM A, .n jent, .n (IntKind.i64.wrap (jleft - 1))], .row 158 [.pt 0 0], .row 80 [.d (D.i .u8 e1.kind), .d (D.i .u8 I), .n J, .n K, .n L, .n 0, .n 0, .n 0,sN]]) h (λ_ h=>?_) λb6 I J K L h=>?_)))))))
 refine Rcc 13 q (Ci h q (λh=>Rcl 4 q (sS Z6 s2 Z2 (St q (Rlx 2 q (En5 h))))) λh=>?_)
 refine Rcc 6 q (Ci h q (λh=>?_) λh=>?_)
 refine Rcc 2 q (aw kR kR (Rq 8 q ?_))
 obtain⟨gl,fr,h⟩:=ac h
 refine WQ.q (YieldsQ.fn q q q q q (f89_c fr) ⟨(aR (Zs _)),Zl,Zl,Zl,Zt⟩) (Zw q) q q (Rq 2 q ?_)
 obtain⟨fv,ei,h⟩:=ac h
 apply WQ.grp 12 (t:=30) (d:=42) (z:=fv)
 exact q
 intro b7
 have h:=cX ei b7
 refine Rq 12 q ?_
 obtain rfl:=Oi h
 exact WQ.nil ⟨[_,_,_,_,_,_,_,_,_,_,_,_],q,q,q⟩
 intro b7
 have h:=cY ei b7
 refine Rq 8 q ?_
 obtain⟨gm,el,h⟩:=ac h
 refine WQ.qy (ah e27 q Zl q (af el) (ar bu el) q) q q q (Rq 3 q ?_)
 obtain rfl:=Oi h
 exact WQ.nil ⟨[_,_,_,_,_,_,_,_,_,_,_,_],q,q,q⟩
 refine WQ.nil (Rxc 1 q (Ci h q (λh=>?_) λh=>?_))
 exact Rcl 3 q (sS Z6 s80 Z2 (St q (Rlx 8 q (aH (rs3 q (cO q q a80 s80 q) (bv q) (bv q)) ⟨false,0,(au.mk e1.kind 0 0 0 0 0 0 0 []),0,0,0,0,h,(Le.tu ⟨(aR ⟨Zl,Zl,Zl,Zl,Zl,Zl,Zl,Zl,Le.nil,Zt⟩),Zl,Zl,Zt⟩),⟨Zp,Zp,Zp,Zt⟩⟩))))
 refine Rcc 2 q ?_
 apply RT [_,_,_,_,_, .u,_, .u] [5,7] [[.row 160 [.l E59 e, .l E83 f, .l cw g, .l E65 j, .l E54 k, .l E67 m, .l E93 p, .n w, .l E70 x, .l E75 y, .l cM A, .n jent, .n (IntKind.i64.wrap (jleft - 1))], .row 158 [.pt 0 0], .row 80 [.d (D.i .u8 e1.kind), .d (D.i .u8 0), .n 0, .n e1.o, .n 0, .n 0, .n 0, .n 0,sN]],[.row 160 [.l E59 e, .l E83 f, .l cw g, .l E65 j, .l E54 k, .l E67 m, .l E93 p, .n w, .l E70 x, .l E75 y, .l cM A, .n jent, .n (IntKind.i64.wrap (jleft - 1))], .row 158 [.pt 0 0], .row 80 [.d (D.i .u8 e1.kind), .d (D.i .u8 0), .n 0, .n e1.o, .n e1.off, .n 0, .n 0, .n 0,sN]]] [p01 3,p10 0,u01 3,u10 2,p01 4,p20 4 1,q01 4 1,q20 6 3 1] kR kR q q
 refine Y2 ?_
 refine X2b ?_
 refine Y1 ?_
 refine zo (λ_=>sS Z6 s3 Z2 (cZ q q)) ?_
 refine Y1 ?_
 exact zo (λ_=>sS Z6 s3 Z2 (cZ q q)) Zt
 exact Rxx 1 q (En5 h)
 refine Rcc 6 q (Ci h q (λh=>?_) λh=>?_)
 refine Rcl 5 q (sS Z6 s2 Z2 (St q (Rlc 2 q (Jn1 (λb8=> [(4, .pt 2 0),(5, .n 0),(6, .d (D.b b8))]) (λ_=> [.row 160 [.l E59 e, .l E83 f, .l cw g, .l E65 j, .l E54 k, .l E67 m, .l E93 p, .n w, .l E70 x, .l E75 y, .l cM A, .n jent, .n (IntKind.i64.wrap (jleft - 1))], .row 158 [.pt 0 0], .row 80 [.d (D.i .u8 e1.kind), .d (D.i .u8 0), .n e1.n, .n 0, .n 0, .n 0, .n 0, .n 0,sN]]) h (λ_ h=>?_) λb8 h=>?_))))
 rcases hY (decide (e1.n≥0)) with H|H
 replace h:=cX h H
 apply RT [_,_,_,_,_,_,_,_,_,_,_,_,_, .u,_,_] [] [] [p01 4,p01 3,p10 1,p10 2,p10 3,p11 4 3,p20 5 4,p11 4 0,p20 7 4,p20 8 4,p20 9 4,p30 6 10 4,p20 4 11,p11 0 4,p00,p10 12] kR kR q q
 refine Y4 ?_
 refine zo (rc H) ?_
 refine Y8 ?_
 refine zo (λ_=>sS Z6 s80 Z2 (cZ q q)) ?_
 exact Y2 Zt
 exact En1 h
 replace h:=cY h H
 apply RT [_,_,_,_,_,_,_,_,_,_,_,_,_, .u,_,_] [] [] [p01 4,p01 3,p10 1,p10 2,p10 3,p10 4,p10 4,p10 4,p10 4,p10 4,p10 4,p10 4,p20 4 11,p11 0 4,p00,p10 12] kR kR q q
 refine Y4 ?_
 refine zo (rc H) ?_
 refine Y8 ?_
 refine zo (λ_=>sS Z6 s80 Z2 (cZ q q)) ?_
 exact Y2 Zt
 exact En1 h
 exact Rcx 3 q (aH (rs3 q (cO q q a80 s80 q) (bv q) (bv q)) ⟨b8,0,(au.mk e1.kind 0 e1.n 0 0 0 0 0 []),0,e1.n,0,0,h,(Le.tu ⟨(aR ⟨Zl,Zl,Zl,Zl,Zl,Zl,Zl,Zl,Le.nil,Zt⟩),Zl,Zl,Zt⟩),⟨Zp,Zp,Zp,Zt⟩⟩)
 refine Rcc 6 q (Ci h q (λh=>Rcl 2 q (sS Z6 s78 Z2 (St q (Rlx 3 q (En5 h))))) λh=>?_)
 refine Rcc 6 q (Ci h q (λh=>?_) λh=>?_)
 exact Rcl 3 q (Zq (nK q q q) q (Zq (nL q q q) q (Rl 1 q (sS Z6 s78 Z2 (St q (Rlx 3 q (En5 h)))))))
 refine Jn1 (λem=> [(4, .pt 2 0),(78, .d (D.b em))]) (λ_=> [.row 160 [.l E59 e, .l E83 f, .l cw g, .l E65 j, .l E54 k, .l E67 m, .l E93 p, .n w, .l E70 x, .l E75 y, .l cM A, .n jent, .n (IntKind.i64.wrap (jleft - 1))], .row 158 [.pt 0 0], .row 80 [.d (D.i .u8 e1.kind), .d (D.i .u8 0), .n 0, .n 0, .n 0, .n 0, .n 0, .n 0,sN]]) h (λ_ h=>?_) (λem h=>?_)
 exact Rcc 6 q (Ci h q (λh=>Rcx 1 q (En1 h)) λh=>Rcx 4 q (En1 h))
 refine Ci h q (λh=>?_) (λh=>?_)
 exact Rcx 4 q (En5 h)
 exact Rcl 3 q (sS Z6 s80 Z2 (St q (Rlx 7 q (aH (rs3 q (cO q q a80 s80 q) (bv q) (bv q)) ⟨false,0,(au.mk e1.kind 0 0 0 0 0 0 0 []),0,0,0,0,h,(Le.tu ⟨(aR ⟨Zl,Zl,Zl,Zl,Zl,Zl,Zl,Zl,Le.nil,Zt⟩),Zl,Zl,Zt⟩),⟨Zp,Zp,Zp,Zt⟩⟩))))
 exact Rcl 4 q (sS Z6 s80 Z2 (St q (Rlx 5 q (aH (rs3 q (cO q q a80 s80 q) (bv q) (bv q)) ⟨true,b6,(au.mk e1.kind I J K L 0 0 0 []),I,J,K,L,h,(Le.tu ⟨(aR ⟨Zl,Zl,Zl,Zl,Zl,Zl,Zl,Zl,Le.nil,Zt⟩),Zl,Zl,Zt⟩),⟨Zp,Zp,Zp,Zt⟩⟩))))
 rintro rv st1 ⟨b4,b5,a,C,E,F,G,h,hr,hst⟩
 subst fo
 dsimp only at h
 refine WL.cast 20 q hr (WL.weak hst (Rl 4 q (Al z80 q (sS Z6 s80 Z2 (St q (Rl 2 q (Zn (Rcl 9 q ?_))))))))
 refine OG 3 29 32 3 3 ?_
 refine Rl 1 q ?_
 refine OG 3 33 36 3 3 ?_
 refine Rl 1 q ?_
 apply WL.or 6 (t:=37) (d:=43)
 exact q
 intro gs
 exact Rl 2 q (Zy (aa E80 e1.l e73 q q Zl) q q q (Rl 3 q (WL.nil ⟨q,[_,_,_,_,_,_],q,q,q⟩)))
 exact Rn 6 6
 refine Rl 1 q ?_
 refine OG 6 44 50 6 6 ?_
 refine Rl 1 q ?_
 refine OG 6 51 57 6 6 ?_
 refine Rl 1 q ?_
 refine OG 6 58 64 6 6 ?_
 refine Rl 1 q ?_
 refine OG 6 65 71 6 6 ?_
 refine Rl 1 q ?_
 refine OG 4 72 76 4 4 ?_
 refine Rl 1 q ?_
 refine OG 4 77 81 4 4 ?_
 refine Rl 1 q ?_
 refine OG 4 82 86 4 4 ?_
 refine Rlc 2 q (Ci h q (λh=>?_) λh=>?_)
 refine Rcx 7 q ?_
 obtain rfl:=Oi h
 exact ii 0 (rs1 q (bv q)) Zl q ⟨Zp,Zt⟩
 refine Rcl 7 q ?_
 obtain⟨fz,f0,h⟩:=aL h
 refine WL.inl (us:=[.l E80 e1.l, .fn (.func 155) [] [.pt 1 0, .d (.pc (E3 B))]]) (λrv st'=>(∃(b9:Bool),∃(b':lN),∃(ca:lH),∃(cc:lP),∃(cd:lS),∃(ci:lL),∃(cj:lO),∃(cl:lT),∃(cn:Int),∃(cp:lK),∃(c0:lM),∃(c1:lC),∃(c2:Int),∃(c3:Int),fz b9 b' ca cc cd ci cj cl cn cp c0 c1 c2 c3=some r∧Le rv (.d (D.b b9))∧SLe st' [.row 160 [.l E59 b', .l E83 ca, .l cw cc, .l E65 cd, .l E54 ci, .l E67 cj, .l E93 cl, .n cn, .l E70 cp, .l E75 c0, .l cM c1, .n c2, .n c3], .row 158 [.pt 0 0], .row 80 [.d (D.i .u8 e1.kind), .d (D.i .u8 C), .n E, .n F, .n G, .n 0, .n 0, .n 0,sN], .row 80 [.d (D.i .u8 a.kind), .d (D.i .u8 a.op), .n a.n, .n a.o, .n a.off, .n a.len, .n a.lo, .n a.hi, .l E80 a.l]])) q q q q q ?_ (Zw q) q q ?_
 refine cI func154 λ_ _ _ _=>?_
 refine Rcl 9 q ?_
 obtain⟨en,f1,h⟩:=aL h
 refine WL.inl (us:=[.l E80 e1.l, .fn (.func 155) [] [.pt 1 0, .d (.pc (E3 B))]]) (λrv st'=>(∃(M:Int),∃(N:lN),∃(O:lH),∃(P:lP),∃(Q:lS),∃(R:lL),∃(S:lO),∃(T:lT),∃(U:Int),∃(V:lK),∃(W:lM),∃(X:lC),∃(Y:Int),∃(Z:Int),en M N O P Q R S T U V W X Y Z=some r∧Le rv (.n M)∧SLe st' [.row 160 [.l E59 N, .l E83 O, .l cw P, .l E65 Q, .l E54 R, .l E67 S, .l E93 T, .n U, .l E70 V, .l E75 W, .l cM X, .n Y, .n Z], .row 158 [.pt 0 0], .row 80 [.d (D.i .u8 e1.kind), .d (D.i .u8 C), .n E, .n F, .n G, .n 0, .n 0, .n 0,sN], .row 80 [.d (D.i .u8 a.kind), .d (D.i .u8 a.op), .n a.n, .n a.o, .n a.off, .n a.len, .n a.lo, .n a.hi, .l E80 a.l]])) q q q q q ?_ (Zw q) q q ?_
 refine cI func184 λ_ _ _ _=>?_
 refine Rcc 5 q (Jn13 (λ_ _ _ _ _ _ _ _ _ _ _ _ _=> []) (λc4 c5 c6 c7 c8 c' dd df ds dS d0 d1 d'=> [.row 160 [.l E59 c4, .l E83 c5, .l cw c6, .l E65 c7, .l E54 c8, .l E67 c', .l E93 dd, .n df, .l E70 ds, .l E75 dS, .l cM d0, .n d1, .n d'], .row 158 [.pt 0 0], .row 80 [.d (D.i .u8 e1.kind), .d (D.i .u8 C), .n E, .n F, .n G, .n 0, .n 0, .n 0,sN], .row 80 [.d (D.i .u8 a.kind), .d (D.i .u8 a.op), .n a.n, .n a.o, .n a.off, .n a.len, .n a.lo, .n a.hi, .l E80 a.l]]) h (λf2 h=>?_) λc4 c5 c6 c7 c8 c' dd df ds dS d0 d1 d' h=>?_)
 refine Rcl 3 q (Zq (aa E80 e1.l e73 q q Zl) q (Rlc 4 q (Ln14 (λec _ _ _ _ _ _ _ _ _ _ _ _ _=> [(0, .l E80 e1.l),(1, .fn (.func 155) [] [.pt 1 0, .d (.pc (E3 B))]),(7, .n (List.length e1.l:Int)),(8, .n ec)]) (λ_ eq er es et ew ex ey e0 e2 e3 e4 e5 e6=> [.row 160 [.l E59 eq, .l E83 er, .l cw es, .l E65 et, .l E54 ew, .l E67 ex, .l E93 ey, .n e0, .l E70 e2, .l E75 e3, .l cM e4, .n e5, .n e6], .row 158 [.pt 0 0], .row 80 [.d (D.i .u8 e1.kind), .d (D.i .u8 C), .n E, .n F, .n G, .n 0, .n 0, .n 0,sN], .row 80 [.d (D.i .u8 a.kind), .d (D.i .u8 a.op), .n a.n, .n a.o, .n a.off, .n a.len, .n a.lo, .n a.hi, .l E80 a.l]]) (f93s_l1 b3 e1 B en f2) h (λ_ _ _ _ _ _ _ _ _ _ _ _ _ _ h=>by rw[f93s_l1] at h;cases h) λn ec eq er es et ew ex ey e0 e2 e3 e4 e5 e6 h=>?_)))
 rw[f93s_l1] at h
 refine Rcc 6 q (Ci h q (λh=>?_) λh=>?_)
 refine Rcl 15 q (Ix h e73 fe q Zl q q λf4 _ h=>(Rl 1 q ?_))
 obtain⟨f5,f6,h⟩:=aL h
 refine WL.inl (us:=[.d (.ag (R80 f4)), .pt 1 0, .d (.pc (E3 B))]) (λrv st'=>(∃(ee:Bool),∃(ad:lN),∃(a0:lH),∃(a1:lP),∃(a6:lS),∃(a7:lL),∃(a8:lO),∃(a':lT),∃(bb:Int),∃(bk:lK),∃(bs:lM),∃(b0:lC),∃(b1:Int),∃(b2:Int),f5 ee ad a0 a1 a6 a7 a8 a' bb bk bs b0 b1 b2=some r∧Le rv (.d (D.b ee))∧SLe st' [.row 160 [.l E59 ad, .l E83 a0, .l cw a1, .l E65 a6, .l E54 a7, .l E67 a8, .l E93 a', .n bb, .l E70 bk, .l E75 bs, .l cM b0, .n b1, .n b2], .row 158 [.pt 0 0], .row 80 [.d (D.i .u8 e1.kind), .d (D.i .u8 C), .n E, .n F, .n G, .n 0, .n 0, .n 0,sN], .row 80 [.d (D.i .u8 a.kind), .d (D.i .u8 a.op), .n a.n, .n a.o, .n a.off, .n a.len, .n a.lo, .n a.hi, .l E80 a.l]])) q q q q q ?_ (Zw q) q q ?_
 refine cI func155 λ_ _ _ _=>?_
 refine Rcl 2 q (Bd q q (Zs _) q (Rll 9 q ?_))
 obtain⟨c,f7,h⟩:=ac h
 refine oK [0] q q q q (e' _ _ _ _ _ _ _ _ _ _ _ _ _ _ _ _ f7) Lw q dC (Re q) ⟨q,Zt⟩ q q (λ_=>q) (λ_=>(Re q)) (Zw q) q q (λgx=>?_)
 exact Rlx 5 q (aH (rs1 q (bv q)) ⟨(!c.1),c.2.1,c.2.2.1,c.2.2.2.1,c.2.2.2.2.1,c.2.2.2.2.2.1,c.2.2.2.2.2.2.1,c.2.2.2.2.2.2.2.1,c.2.2.2.2.2.2.2.2.1,c.2.2.2.2.2.2.2.2.2.1,c.2.2.2.2.2.2.2.2.2.2.1,c.2.2.2.2.2.2.2.2.2.2.2.1,c.2.2.2.2.2.2.2.2.2.2.2.2.1,c.2.2.2.2.2.2.2.2.2.2.2.2.2,h,Zl,⟨Zp,Zp,Zp,Zp,Zt⟩⟩)
 rintro rv st1 ⟨ee,ad,a0,a1,a6,a7,a8,a',bb,bk,bs,b0,b1,b2,h,hr,hst⟩
 subst f6
 dsimp only at h
 refine WL.cast 16 q hr (WL.weak hst (Zn (Ci h q (λh=>?_) λh=>?_)))
 exact Rcx 12 q (aH (rs1 q (bv q)) ⟨ec,ad,a0,a1,a6,a7,a8,a',bb,bk,bs,b0,b1,b2,h,Zl,⟨Zp,Zp,Zp,Zp,Zt⟩⟩)
 exact Rcx 7 q (cN ⟨_,⟨_,_,_,_,_,_,_,_,_,_,_,_,_,_,h,Sb,Tv⟩,Nat.lt_succ_self _⟩)
 exact Rcx 4 q (cN ⟨_,_,_,_,_,_,_,_,_,_,_,_,_,h,Sb,Tv⟩)
 exact Rcx 6 q (aH (rs1 q (bv q)) ⟨(-1),c4,c5,c6,c7,c8,c',dd,df,ds,dS,d0,d1,d',h,Zl,⟨Zp,Zp,Zp,Zp,Zt⟩⟩)
 rintro rv st1 ⟨M,N,O,P,Q,R,S,T,U,V,W,X,Y,Z,h,hr,hst⟩
 subst f1
 dsimp only at h
 exact WL.cast 7 q hr (WL.weak hst (Rl 2 q (Zn (Rcx 1 q (aH (rs1 q (bv q)) ⟨(decide (M≥0)),N,O,P,Q,R,S,T,U,V,W,X,Y,Z,h,Zl,⟨Zp,Zp,Zp,Zp,Zt⟩⟩)))))
 rintro rv st1 ⟨b9,b',ca,cc,cd,ci,cj,cl,cn,cp,c0,c1,c2,c3,h,hr,hst⟩
 subst f0
 dsimp only at h
 refine WL.cast 90 q hr (WL.weak hst (Rl 2 q (Zn (Rcx 1 q ?_))))
 obtain rfl:=Oi h
 exact ii 0 (rs1 q (bv q)) Zl q ⟨Zp,Zt⟩

theorem f93_c:∀(n:Nat)(a:lN)(c:lH)(e:lP)(f:lS)(g:lL)(j:lO)(k:lT)(m:Int)(p:lK)(t:lM)(w:lC)(jent:Int)(jleft:Int)(x1:au)(x2:Int){r:Bool×lN×lH×lP×lS×lL×lO×lT×Int×lK×lM×lC×Int×Int},f93 n a c e f g j k m p t w jent jleft x1 x2=some r→Ctr prog 93 [.pt 0 0, .d (.ag (R80 x1)), .n x2] [.row 160 [.l E59 a, .l E83 c, .l cw e, .l E65 f, .l E54 g, .l E67 j, .l E93 k, .n m, .l E70 p, .l E75 t, .l cM w, .n jent, .n jleft]] (pF 1 (.b r.1) (λ_=> [.row 160 [.l E59 r.2.1, .l E83 r.2.2.1, .l cw r.2.2.2.1, .l E65 r.2.2.2.2.1, .l E54 r.2.2.2.2.2.1, .l E67 r.2.2.2.2.2.2.1, .l E93 r.2.2.2.2.2.2.2.1, .n r.2.2.2.2.2.2.2.2.1, .l E70 r.2.2.2.2.2.2.2.2.2.1, .l E75 r.2.2.2.2.2.2.2.2.2.2.1, .l cM r.2.2.2.2.2.2.2.2.2.2.2.1, .n r.2.2.2.2.2.2.2.2.2.2.2.2.1, .n r.2.2.2.2.2.2.2.2.2.2.2.2.2]]))
 |0,_,_,_,_,_,_,_,_,_,_,_,_,_,_,_,_,h=>by cases h
 |n+1,a,c,e,f,g,j,k,m,p,t,w,jent,jleft,x1,x2,_,h=>f93s_c (f93 n) a c e f g j k m p t w jent jleft x1 x2 (λa c e f g j k m p t w jent jleft x1 x2 _ h=>f93_c n a c e f g j k m p t w jent jleft x1 x2 h) h

theorem f30_c{t0:aV}{r:Bool}(h:f30 t0=some r):Pu prog 30 [.ag (R86 t0)] (.b r):=by
 unfold f30 at h
 refine fI func30 λ_ _=>?_
 refine Rcl 2 q (Bd q q (Zs _) q (Rlc 3 q (Jn0 [(1, .d (.pc (R86 t0)))] [] h (λj h=>?_) λh=>?_)))
 refine Rcl 5 q (Zq (aa E75 t0.text.prots e30 q q Zl) q (Rlc 4 q (Ln1 (λc=> [(1, .d (.pc (R86 t0))),(10, .l E75 t0.text.prots),(11, .n (List.length t0.text.prots:Int)),(12, .n c)]) (λ_=> []) (f30_l1 t0 j) h (λ_ h=>by rw[f30_l1] at h;cases h) λn c h=>?_)))
 rw[f30_l1] at h
 refine Rcc 6 q (Ci h q (λh=>?_) λh=>?_)
 refine Rcc 2 q (Jn2 (λ_ _=> [(1, .d (.pc (R86 t0))),(10, .l E75 t0.text.prots),(11, .n (List.length t0.text.prots:Int)),(12, .n c)]) (λf g=> [.row 75 [.n f, .l E80 g]]) h (λk h=>?_) λf g h=>?_)
 refine Rcl 3 q (Ix h e30 ge q Zl q q λa _ h=>(Rl 1 q (Al z75 q (sS Z6 s75 Z2 (Rll 9 q ?_)))))
 refine OG 4 19 23 4 4 ?_
 refine Rl 1 q ?_
 apply WL.or 5 (t:=24) (d:=29)
 exact q
 intro p
 exact Rl 2 q (Zy (aa E80 a.barriers e73 q q Zl) q q q (Rl 2 q (WL.nil ⟨q,[_,_,_,_,_],q,q,q⟩)))
 exact Rn 5 5
 refine Rlc 2 q (Ci h q (λh=>Rcx 12 q (FA h)) λh=>?_)
 refine Rcl 6 q (Zq (aa E80 a.barriers e73 q q Zl) q (Rlc 4 q (Ln1 (λe=> [(1, .d (.pc (R86 t0))),(4, .pt 0 0),(10, .l E75 t0.text.prots),(11, .n (List.length t0.text.prots:Int)),(12, .n c),(31, .l E80 a.barriers),(32, .n (List.length a.barriers:Int)),(33, .n e)]) (λ_=> [.row 75 [.n a.ceiling, .l E80 a.barriers]]) (f30_l2 t0 k a) h (λ_ h=>by rw[f30_l2] at h;cases h) λna e h=>?_)))
 rw[f30_l2] at h
 refine Rcc 6 q (Ci h q (λh=>?_) λh=>?_)
 refine Rcl 6 q (Ix h e73 fe q Zl q q λw _ h=>(Rl 1 q (Al z80 q (sS Z6 s80 Z2 (Rll 7 q (Zq (aa E80 a.barriers e73 q q Zl) q (Zq (ab p160 z160 q q) q (Bx q q q (Rll 7 q ?_)))))))))
 obtain⟨x,m,h⟩:=ac h
 refine oK [2] q q q q (f93_c 66 _ _ _ _ _ _ _ _ _ _ _ _ _ _ _ m) ⟨Zl,(aR (Zs _)),Zl,Zt⟩ q dC (Re q) ⟨q,Zt⟩ q q (λ_=>q) (λ_=>(Re q)) (Zw q) q q (λy=>?_)
 refine Rlc 3 q (Ci h q (λh=>Rcx 15 q (FA h)) λh=>?_)
 exact Rcx 7 q (WE.drop 1 (env':=[(1, .d (.pc (R86 t0))),(4, .pt 0 0),(10, .l E75 t0.text.prots),(11, .n (List.length t0.text.prots:Int)),(12, .n c),(31, .l E80 a.barriers),(32, .n (List.length a.barriers:Int)),(33, .n (IntKind.i64.wrap (e+1)))]) Sb q q (Nat.zero_le _) (Fn1 h))
 exact Rcx 5 q (En2 h)
 exact Rcx 4 q (WE.drop 0 (env':=[(1, .d (.pc (R86 t0))),(10, .l E75 t0.text.prots),(11, .n (List.length t0.text.prots:Int)),(12, .n (IntKind.i64.wrap (c+1)))]) Sb q q (Nat.zero_le _) (Fn1 h))
 exact Rcx 4 q (En0 h)
 exact Rcl 5 q (Zq (aa E75 t0.text.prots e30 q q Zl) q (Rlx 5 q (FA h)))

theorem f157_c{n0:Int}{a:aV}{c:Int}{r:Bool}(h:f157 n0 a c=some r):Pu prog 157 [.i .i64 n0, .pc (R86 a), .pc (E3 c)] (.b r):=by
 unfold f157 at h
 refine fI func157 λ_ _=>?_
 refine Rcl 10 q ?_
 obtain⟨e,d,h⟩:=ac h
 exact wF Z4 (f89_c d) Lw Z3 (Rlx 4 q (FA h))

theorem f96_c{t0:aV}{a:Int}{a2:gc}{r:Bool}(h:f96 t0 a a2=some r):Pu prog 96 [.ag (R86 t0), .i .i64 a, .ag (nD a2)] (.b r):=by
 unfold f96 at h
 refine fI func96 λ_ _=>?_
 refine Rcl 2 q (Bd q q (Zs _) q (WL.s ((kT q q (by exact(show Les [.n a] (List.map AV.d [.i .i64 a]) from Lw))).does) (Zw q) q q (Bd q q (Zs _) q (Rll 15 q (wF Z4 (f47_c) Lw Z3 (Rl 2 q ?_))))))
 obtain⟨e,f,h⟩:=ac h
 refine Gg 11 14 25 e f (λh=>?_) (λh=>?_) ?_
 exact On 11 11 h
 refine Rl 4 q ?_
 obtain⟨g,j,h⟩:=ac h
 refine Gg 6 18 24 g j (λh=>?_) (λh=>?_) ?_
 refine Rl 3 q ?_
 obtain⟨x,k,h⟩:=ac h
 exact WL.fn q q q q (f157_c k) Lw (aG q q q) q q (On 2 6 h)
 exact On 6 6 h
 exact On 1 6 h
 refine Rlc 2 q (Ci h q (λh=>Rcx 7 q (FA h)) λh=>?_)
 refine Rcc 16 q (Ci h q (λh=>?_) λh=>?_)
 refine Rcl 6 q ?_
 refine AG 4 33 37 4 4 ?_
 refine Rl 1 q ?_
 refine AG 4 38 42 4 4 ?_
 exact Rlx 6 q (FA h)
 refine Jn1 (λc=> [(5, .d (.pc (nD a2))),(7, .fn (.func 157) [] [.d (.pc (R86 t0)), .d (.pc (E3 a))]),(43, .d (D.b c))]) (λ_=> []) h (λ_ h=>?_) (λc h=>?_)
 exact Rcc 6 q (Ci h q (λh=>Rcx 1 q (En1 h)) λh=>Rcx 4 q (En1 h))
 refine Ci h q (λh=>?_) (λh=>?_)
 refine Rcl 6 q ?_
 obtain⟨m,p,h⟩:=ac h
 refine Gg 5 49 54 m p (λh=>?_) (λh=>?_) ?_
 refine Rl 3 q ?_
 obtain⟨y,w,h⟩:=ac h
 exact WL.fn q q q q (f157_c w) Lw (aG q q q) q q (On 1 5 h)
 exact On 5 5 h
 exact Rlx 6 q (FA h)
 refine Rcl 9 q ?_
 apply WL.and 7 (t:=58) (d:=65)
 exact q
 intro A
 exact Rl 4 q (Zy (tq q q q) q q q (Rl 2 q (WL.nil ⟨q,[_,_,_,_,_,_,_],q,q,q⟩)))
 exact Rn 7 7
 exact Rlx 4 q (FA h)

theorem f31_c{t0:aV}{r:Bool}(h:f31 t0=some r):Pu prog 31 [.ag (R86 t0)] (.b r):=by
 unfold f31 at h
 refine fI func31 λ_ _=>?_
 refine Rcl 2 q (Bd q q (Zs _) q (Rll 9 q (Zq (aa E65 t0.text.selects e25 q q Zl) q (Rlc 3 q (Ci h q (λh=>?_) λh=>?_)))))
 exact Rcx 7 q (FA h)
 refine Rcc 2 q (Jn0 [] [] h (λm h=>?_) λh=>?_)
 refine Rcl 5 q (Zq (aa E65 t0.text.selects e25 q q Zl) q (Rlc 4 q (Ln1 (λe=> [(1, .d (.pc (R86 t0))),(12, .l E65 t0.text.selects),(13, .n (List.length t0.text.selects:Int)),(14, .n e)]) (λ_=> []) (f31_l1 t0 m) h (λ_ h=>by rw[f31_l1] at h;cases h) λn e h=>?_)))
 rw[f31_l1] at h
 refine Rcc 6 q (Ci h q (λh=>?_) λh=>?_)
 refine Rcl 6 q (Ix h e25 nF q Zl q q λa _ h=>(Rl 1 q (Al z65 q (sS Z6 s65 Z2 (Rll 7 q (Zq (aa dW a.alts e63 q q Zl) q (Rl 2 q ?_)))))))
 apply WL.or 5 (t:=22) (d:=27)
 exact q
 intro G
 exact Rl 2 q (Zy (aa dW a.alts e63 q q Zl) q q q (Rl 2 q (WL.nil ⟨q,[_,_,_,_,_],q,q,q⟩)))
 exact Rn 5 5
 refine Rl 1 q ?_
 refine OG 4 28 32 4 4 ?_
 refine Rl 1 q ?_
 apply WL.or 8 (t:=33) (d:=41)
 exact q
 intro H
 exact Rl 5 q (Zy (aa E67 t0.text.objs e27 q q Zl) q q q (Rl 2 q (WL.nil ⟨q,[_,_,_,_,_,_,_,_],q,q,q⟩)))
 exact Rn 8 8
 refine Rl 1 q ?_
 apply WL.or 11 (t:=42) (d:=53)
 exact q
 intro I
 refine Rl 4 q ?_
 apply WL.and 6 (t:=46) (d:=52)
 exact q
 intro J
 exact Rl 3 q (WL.fn q q q q (f47_c) Lw (aG q q q) q q (Rl 2 q (WL.nil ⟨q,[_,_,_,_,_,_],q,q,q⟩)))
 exact Rn 6 6
 exact Rn 1 6
 exact Rn 11 11
 refine Rlc 2 q (Ci h q (λh=>Rcx 12 q (FA h)) λh=>?_)
 refine Rcl 7 q ?_
 obtain⟨p,w,h⟩:=aL h
 refine WL.inl (us:=[.l dW a.alts, .fn (.func 95) [] [.d (.pc (R86 t0)), .pt 0 0]]) (λrv st'=>(∃(f:Bool),p f=some r∧Le rv (.d (D.b f))∧SLe st' [.row 65 [.l dW a.alts, .n a.obj, .n a.else_]])) q q q q q ?_ (Zw q) q q ?_
 refine cI func94 λ_ _ _ _=>?_
 refine Rcl 9 q ?_
 obtain⟨k,x,h⟩:=aL h
 refine WL.inl (us:=[.l dW a.alts, .fn (.func 95) [] [.d (.pc (R86 t0)), .pt 0 0]]) (λrv st'=>(∃(c:Int),k c=some r∧Le rv (.n c)∧SLe st' [.row 65 [.l dW a.alts, .n a.obj, .n a.else_]])) q q q q q ?_ (Zw q) q q ?_
 refine cI func156 λ_ _ _ _=>?_
 refine Rcc 5 q (Jn0 [] [.row 65 [.l dW a.alts, .n a.obj, .n a.else_]] h (λy h=>?_) λh=>?_)
 refine Rcl 3 q (Zq (aa dW a.alts e63 q q Zl) q (Rlc 4 q (Ln1 (λg=> [(0, .l dW a.alts),(1, .fn (.func 95) [] [.d (.pc (R86 t0)), .pt 0 0]),(7, .n (List.length a.alts:Int)),(8, .n g)]) (λ_=> [.row 65 [.l dW a.alts, .n a.obj, .n a.else_]]) (f31_l2 t0 a k y) h (λ_ h=>by rw[f31_l2] at h;cases h) λna g h=>?_)))
 rw[f31_l2] at h
 refine Rcc 6 q (Ci h q (λh=>?_) λh=>?_)
 refine Rcl 15 q (Ix h e63 oW q Zl q q λA _ h=>(Rl 1 q ?_))
 obtain⟨B,C,h⟩:=aL h
 refine WL.inl (us:=[.d (.ag (nD A)), .d (.pc (R86 t0)), .pt 0 0]) (λrv st'=>(∃(j:Bool),B j=some r∧Le rv (.d (D.b j))∧SLe st' [.row 65 [.l dW a.alts, .n a.obj, .n a.else_]])) q q q q q ?_ (Zw q) q q ?_
 refine cI func95 λ_ _ _ K=>?_
 refine Rcl 2 q (Bd q q (Zs _) q (Rll 9 q ?_))
 obtain⟨E,F,h⟩:=ac h
 exact wF Z4 (f96_c F) Lw Z3 (Rlx 5 q (aH (rs1 q (bv q)) ⟨(!E),h,Zl,⟨Zp,Zt⟩⟩))
 rintro rv st1 ⟨j,h,hr,hst⟩
 subst C
 dsimp only at h
 refine WL.cast 16 q hr (WL.weak hst (Zn (Ci h q (λh=>?_) λh=>?_)))
 exact Rcx 12 q (aH (rs1 q (bv q)) ⟨g,h,Zl,⟨Zp,Zt⟩⟩)
 exact Rcx 7 q (Fn1 h)
 exact Rcx 4 q (En0 h)
 exact Rcx 6 q (aH (rs1 q (bv q)) ⟨(-1),h,Zl,⟨Zp,Zt⟩⟩)
 rintro rv st1 ⟨c,h,hr,hst⟩
 subst x
 dsimp only at h
 exact WL.cast 7 q hr (WL.weak hst (Rl 2 q (Zn (Rcx 1 q (aH (rs1 q (bv q)) ⟨(decide (c≥0)),h,Zl,⟨Zp,Zt⟩⟩)))))
 rintro rv st1 ⟨f,h,hr,hst⟩
 subst w
 dsimp only at h
 refine WL.cast 57 q hr (WL.weak hst (Zn (Ci h q (λh=>?_) λh=>?_)))
 exact Rcx 11 q (FA h)
 exact Rcx 7 q (WE.drop 0 (env':=[(1, .d (.pc (R86 t0))),(12, .l E65 t0.text.selects),(13, .n (List.length t0.text.selects:Int)),(14, .n (IntKind.i64.wrap (e+1)))]) Sb q q (Nat.zero_le _) (Fn1 h))
 exact Rcx 4 q (En0 h)
 exact Rcx 6 q (FA h)

theorem f50_c{h0:aN}{a1:Int}:Pu prog 50 [.ag (R83 h0), .i .i64 a1] (.b (f50 h0 a1)):=by
 generalize h:f50 h0 a1=r
 unfold f50 at h
 refine fI func50 λ_ _=>?_
 refine Rcl 2 q (Bd q q (Zs _) q (Rll 10 q ?_))
 refine AG 5 9 14 5 5 ?_
 exact Rlx 4 q (FB h)

theorem f32_c{t0:aV}{r:Bool}(h:f32 t0=some r):Pu prog 32 [.ag (R86 t0)] (.b r):=by
 unfold f32 at h
 refine fI func32 λ_ _=>?_
 refine Rcl 2 q (Bd q q (Zs _) q (Rll 9 q (Zq (aa E83 t0.text.handlers e23 q q Zl) q (Rlc 3 q (Ci h q (λh=>?_) λh=>?_)))))
 exact Rcx 7 q (FA h)
 refine Rcc 2 q (Jn0 [] [] h (λm h=>?_) λh=>?_)
 refine Rcl 5 q (Zq (aa E83 t0.text.handlers e23 q q Zl) q (Rlc 4 q (Ln1 (λa=> [(1, .d (.pc (R86 t0))),(15, .l E83 t0.text.handlers),(16, .n (List.length t0.text.handlers:Int)),(17, .n a)]) (λ_=> []) (f32_l1 t0 m) h (λ_ h=>by rw[f32_l1] at h;cases h) λn a h=>?_)))
 rw[f32_l1] at h
 refine Rcc 6 q (Ci h q (λh=>?_) λh=>?_)
 refine Rcc 2 q (Jn4 (λ_ _ _ _=> [(1, .d (.pc (R86 t0))),(15, .l E83 t0.text.handlers),(16, .n (List.length t0.text.handlers:Int)),(17, .n a)]) (λf g j k=> [.row 83 [.n f, .n g, .n j, .d (D.b k)]]) h (λp h=>?_) λf g j k h=>?_)
 refine Rcl 4 q (Ix h e23 lb q Zl q q λc _ h=>(Rl 1 q (Al z83 q (Rl 1 q (sS Z6 s83 Z2 (Rll 9 q ?_))))))
 refine OG 6 25 31 6 6 ?_
 refine Rl 1 q ?_
 apply WL.or 8 (t:=32) (d:=40)
 exact q
 intro x
 exact Rl 5 q (Zy (aa E59 t0.text.insns e22 q q Zl) q q q (Rl 2 q (WL.nil ⟨q,[_,_,_,_,_,_,_,_],q,q,q⟩)))
 exact Rn 8 8
 refine Rl 1 q ?_
 apply WL.or 6 (t:=41) (d:=47)
 exact q
 intro y
 exact Rl 3 q (WL.fn q q q q (f47_c) Lw (aG q q q) q q (Rl 2 q (WL.nil ⟨q,[_,_,_,_,_,_],q,q,q⟩)))
 exact Rn 6 6
 refine Rl 1 q ?_
 apply WL.or 5 (t:=48) (d:=53)
 exact q
 intro A
 exact Rl 3 q (WL.fn q q q q (f50_c) ⟨(aR (Zs _)),Zl,Zt⟩ (aG q q q) q q (Rl 1 q (WL.nil ⟨q,[_,_,_,_,_],q,q,q⟩)))
 exact Rn 5 5
 refine Rlc 2 q (Ci h q (λh=>Rcx 12 q (FA h)) λh=>?_)
 refine Rcl 8 q ?_
 replace h:=eo h
 obtain⟨w,h⟩:=h
 refine Zq (lj E83 t0.text.handlers (l:=0) (h:=a) e23 q Zl q ⟨_,q⟩ w λ_=>q) q (Zq (aa E83 (bL t0.text.handlers 0 a) e23 q q Zl) q (Rlc 4 q (Ln1 (λe=> [(1, .d (.pc (R86 t0))),(4, .pt 0 0),(15, .l E83 t0.text.handlers),(16, .n (List.length t0.text.handlers:Int)),(17, .n a),(58, .l E83 (bL t0.text.handlers 0 a)),(59, .n (List.length (bL t0.text.handlers 0 a):Int)),(60, .n e)]) (λ_=> [.row 83 [.n c.from_, .n c.to, .n c.at_, .d (D.b c.clean)]]) (f32_l2 t0 a p c) h (λ_ h=>by rw[f32_l2] at h;cases h) λna e h=>?_)))
 rw[f32_l2] at h
 refine Rcc 6 q (Ci h q (λh=>?_) λh=>?_)
 refine Rcl 6 q (Ix h e23 lb q Zl q q λB _ h=>(Rl 1 q (Al z83 q (sS Z6 s83 Z2 (Rll 10 q ?_)))))
 refine AG 6 69 75 6 6 ?_
 refine Rll 8 q ?_
 apply WL.and 12 (t:=78) (d:=90)
 exact q
 intro C
 exact Rl 4 q (Zy (nL q q q) q q q (Rl 4 q (Zy (nK q q q) q q q (Rl 2 q (WL.nil ⟨q,[_,_,_,_,_,_,_,_,_,_,_,_],q,q,q⟩)))))
 exact Rn 12 12
 refine Rlc 2 q (Ci h q (λh=>Rcx 15 q (FA h)) λh=>?_)
 exact Rcx 7 q (WE.drop 1 (env':=[(1, .d (.pc (R86 t0))),(4, .pt 0 0),(15, .l E83 t0.text.handlers),(16, .n (List.length t0.text.handlers:Int)),(17, .n a),(58, .l E83 (bL t0.text.handlers 0 a)),(59, .n (List.length (bL t0.text.handlers 0 a):Int)),(60, .n (IntKind.i64.wrap (e+1)))]) Sb q q (Nat.zero_le _) (Fn1 h))
 exact Rcx 5 q (En4 h)
 exact Rcx 4 q (WE.drop 0 (env':=[(1, .d (.pc (R86 t0))),(15, .l E83 t0.text.handlers),(16, .n (List.length t0.text.handlers:Int)),(17, .n (IntKind.i64.wrap (a+1)))]) Sb q q (Nat.zero_le _) (Fn1 h))
 exact Rcx 4 q (En0 h)
 exact Rcx 6 q (FA h)

theorem f97_c{x0:aO}{a:Int}:Pu prog 97 [.ag (R59 x0), .i .i64 a] (.b (f97 x0 a)):=by
 generalize h:f97 x0 a=r
 unfold f97 at h
 refine fI func97 λ_ _=>?_
 refine Rcl 2 q (Bd q q (Zs _) q (Rll 9 q ?_))
 refine OG 4 8 12 4 4 ?_
 refine Rl 1 q ?_
 refine OG 4 13 17 4 4 ?_
 refine Rl 1 q ?_
 refine AG 5 18 23 5 5 ?_
 exact Rlx 4 q (FB h)

theorem f33_c{t0:aV}{r:Bool}(h:f33 t0=some r):Pu prog 33 [.ag (R86 t0)] (.b r):=by
 unfold f33 at h
 refine fI func33 λ_ _=>?_
 refine Rcl 2 q (Bd q q (Zs _) q (Rll 9 q (Zq (aa cw t0.text.loops e24 q q Zl) q (Rlc 3 q (Ci h q (λh=>?_) λh=>?_)))))
 exact Rcx 7 q (FA h)
 refine Rcl 4 q (WL.s ((hZ (α:=Bool) (λx:Int=>Value.int .i64 x) (λx:Bool=>AV.d (.b x))).does) (Zw q) q q (Rlc 3 q (Jn1 (λ_=> []) (λf=> [mpO (λx:Int=>Value.int .i64 x) (λx:Bool=>AV.d (.b x)) f]) h (λk h=>?_) λf h=>?_)))
 refine Rcl 5 q (Zq (aa cw t0.text.loops e24 q q Zl) q (Rlc 4 q (Ln2 (λc _=> [(1, .d (.pc (R86 t0))),(3, .mp 0),(14, .l cw t0.text.loops),(15, .n (List.length t0.text.loops:Int)),(16, .n c)]) (λ_ a=> [mpO (λx:Int=>Value.int .i64 x) (λx:Bool=>AV.d (.b x)) a]) (f33_l1 t0 k) h (λ_ _ h=>by rw[f33_l1] at h;cases h) λn c a h=>?_)))
 rw[f33_l1] at h
 refine Rcc 6 q (Ci h q (λh=>?_) λh=>?_)
 refine Rcl 6 q (Ix h e24 lg q Zl q q λp _ h=>(Rl 1 q (Al z118 q (sS Z6 s118 Z2 (Rlc 4 q (aw kR kR (Rq 4 q ?_)))))))
 apply WQ.or 6 (t:=23) (d:=29)
 exact q
 intro w
 exact Rq 6 q (WQ.nil ⟨[_,_,_,_,_,_],q,q,q⟩)
 exact Rq 6 q (WQ.nil ⟨[_,_,_,_,_,_],q,q,q⟩)
 refine Rq 1 q ?_
 apply WQ.or 6 (t:=30) (d:=36)
 exact q
 intro y
 exact Rq 3 q (WQ.q (YieldsQ.fn q q q q q (f47_c) Lw) (aG q q q) q q (Rq 2 q (WQ.nil ⟨[_,_,_,_,_,_],q,q,q⟩)))
 exact Rq 6 q (WQ.nil ⟨[_,_,_,_,_,_],q,q,q⟩)
 refine Rq 1 q ?_
 apply WQ.or 5 (t:=37) (d:=42)
 exact q
 intro A
 exact Rq 3 q (WQ.qy (lr (λx:Int=>Value.int .i64 x) (λx:Bool=>AV.d (.b x)) a (z:=false) underlying157 underlying3 (KeyF.int .i64) q q q kR q) q q q (Rq 1 q (WQ.nil ⟨[_,_,_,_,_],q,q,q⟩)))
 exact Rq 5 q (WQ.nil ⟨[_,_,_,_,_],q,q,q⟩)
 refine Rq 1 q ?_
 obtain⟨m,g,h⟩:=ac h
 apply WQ.grp 12 (t:=43) (d:=55) (z:=m)
 exact q
 intro e
 have h:=cX g e
 refine Rq 12 q ?_
 obtain rfl:=Oi h
 exact WQ.nil ⟨[_,_,_,_,_,_,_,_,_,_,_,_],q,q,q⟩
 intro e
 have h:=cY g e
 refine Rq 5 q ?_
 obtain⟨B,j,h⟩:=ac h
 refine WQ.qy (ah e22 q Zl q (af j) (ar dc j) q) q q q (Rq 3 q (WQ.q (YieldsQ.fn q q q q q (f97_c) Lw) (aG q q q) q q (Rq 2 q ?_)))
 obtain rfl:=Oi h
 exact WQ.nil ⟨[_,_,_,_,_,_,_,_,_,_,_,_],q,q,q⟩
 refine Rq 1 q ?_
 apply WQ.or 4 (t:=56) (d:=60)
 exact q
 intro C
 exact Rq 4 q (WQ.nil ⟨[_,_,_,_],q,q,q⟩)
 exact Rq 4 q (WQ.nil ⟨[_,_,_,_],q,q,q⟩)
 refine Rq 1 q ?_
 apply WQ.or 4 (t:=61) (d:=65)
 exact q
 intro E
 exact Rq 4 q (WQ.nil ⟨[_,_,_,_],q,q,q⟩)
 exact Rq 4 q (WQ.nil ⟨[_,_,_,_],q,q,q⟩)
 refine WQ.nil (Rxc 1 q (Ci h q (λh=>?_) λh=>?_))
 exact Rcx 12 q (FA h)
 exact Rcl 6 q (WL.s0 (iu (λx:Int=>Value.int .i64 x) (λx:Bool=>AV.d (.b x)) a (.inr q) underlying157 underlying3 (KeyF.int .i64) q q q q) (Zw q) q (Rlx 7 q (WE.drop 1 (env':=[(1, .d (.pc (R86 t0))),(3, .mp 0),(14, .l cw t0.text.loops),(15, .n (List.length t0.text.loops:Int)),(16, .n (IntKind.i64.wrap (c+1)))]) Sb q (dr (qg _ _ _ _) q) (Nat.zero_le _) (Fn2 h))))
 exact Rcx 4 q (En1 h)
 exact Rcx 6 q (FA h)

theorem f61_c{t0:aV}{a1:Int}{r:Bool}(h:f61 t0 a1=some r):Pu prog 61 [.ag (R86 t0), .i .i64 a1] (.b r):=by
 unfold f61 at h
 refine fI func61 λ_ _=>?_
 refine Rcl 2 q (Bd q q (Zs _) q (Rll 7 q (wF Z4 (f47_c) Lw Z3 (Rl 1 q ?_))))
 obtain⟨d,e,h⟩:=ac h
 refine Gg 19 8 27 d e (λh=>?_) (λh=>?_) ?_
 refine Rl 4 q ?_
 obtain⟨j,a,h⟩:=ac h
 refine Zy (ah e22 q Zl q (af a) (ar dc a) q) q q q (Rl 4 q ?_)
 obtain⟨f,g,h⟩:=ac h
 refine Gg 9 17 26 f g (λh=>?_) (λh=>?_) ?_
 exact On 9 9 h
 refine Rl 4 q ?_
 obtain⟨k,c,h⟩:=ac h
 exact Zy (ah e22 q Zl q (af c) (ar dc c) q) q q q (On 4 9 h)
 exact On 1 11 h
 exact On 19 19 h
 exact Rlx 4 q (FA h)

theorem f34_c{t0:aV}{r:Bool}(h:f34 t0=some r):Pu prog 34 [.ag (R86 t0)] (.b r):=by
 unfold f34 at h
 refine fI func34 λ_ _=>?_
 refine Rcl 2 q (Bd q q (Zs _) q (Rlc 8 q (Jn0 [] [] h (λe h=>?_) λh=>?_)))
 refine Rcl 5 q (Zq (aa cM t0.text.checks e31 q q Zl) q (Rlc 4 q (Ln2 (λc a=> [(1, .d (.pc (R86 t0))),(3, .n c),(8, .l cM t0.text.checks),(9, .n (List.length t0.text.checks:Int)),(10, .n a)]) (λ_ _=> []) (f34_l1 t0 e) h (λ_ _ h=>by rw[f34_l1] at h;cases h) λn c a h=>?_)))
 rw[f34_l1] at h
 refine Rcc 6 q (Ci h q (λh=>?_) λh=>?_)
 refine Rcl 6 q (Ix h e31 ld q Zl q q λf _ h=>(Rl 1 q (Al z121 q (sS Z6 s121 Z2 (Rll 10 q ?_)))))
 obtain⟨g,j,h⟩:=ac h
 refine Gg 6 18 24 g j (λh=>?_) (λh=>?_) ?_
 exact On 6 6 h
 refine Rl 3 q ?_
 obtain⟨m,k,h⟩:=ac h
 exact WL.fn q q q q (f61_c k) Lw (aG q q q) q q (On 2 6 h)
 refine Rl 1 q ?_
 refine OG 4 25 29 4 4 ?_
 refine Rl 1 q ?_
 refine OG 4 30 34 4 4 ?_
 refine Rlc 2 q (Ci h q (λh=>Rcx 12 q (FA h)) λh=>?_)
 exact Rcx 13 q (WE.drop 0 (env':=[(1, .d (.pc (R86 t0))),(3, .n f.at_),(8, .l cM t0.text.checks),(9, .n (List.length t0.text.checks:Int)),(10, .n (IntKind.i64.wrap (a+1)))]) Sb q q (Nat.zero_le _) (Fn2 h))
 exact Rcx 4 q (En0 h)
 exact Rcx 6 q (FA h)

theorem f98_c(s0:lN)(a:aO→oB)(g1:FuncId)(c e:lD)(g:∀(y0:aO)(r:Bool),a y0=some r→Pu prog g1 (c++ [.ag (R59 y0)]++e) (.b r)){r:Int}(h:f98 s0 a=some r):Pu prog 98 [.sl (List.map E59 s0), .fnc (.func g1) c e] (.i .i64 r):=by
 unfold f98 at h
 refine fI func98 λ_ _=>?_
 refine WC.cast 1 q (fp _ _ _) (Rcc 5 q (Jn0 [] [] h (λj h=>?_) λh=>?_))
 refine Rcl 3 q (Zq (aa E59 s0 e22 q q Zl) q (Rlc 4 q (Ln1 (λf=> [(0, .l E59 s0),(1, .fn (.func g1) (List.map AV.d c) (List.map AV.d e)),(7, .n (List.length s0:Int)),(8, .n f)]) (λ_=> []) (f98_l1 s0 a j) h (λ_ h=>by rw[f98_l1] at h;cases h) λn f h=>?_)))
 rw[f98_l1] at h
 refine Rcc 6 q (Ci h q (λh=>?_) λh=>?_)
 refine Rcl 15 q (Ix h e22 dc q Zl q q λm _ h=>(Rl 1 q ?_))
 obtain⟨p,k,h⟩:=ac h
 refine WL.fn q q q q (g _ _ k) (la Lw) (Zw q) q q (Rlc 2 q (Ci h q (λh=>?_) λh=>?_))
 exact Rcx 12 q (FA h)
 exact Rcx 7 q (Fn1 h)
 exact Rcx 4 q (En0 h)
 exact Rcx 6 q (FA h)

theorem f35_c(s0:lN)(d:aO→oB)(g1:FuncId)(a c:lD)(e:∀(y0:aO)(r:Bool),d y0=some r→Pu prog g1 (a++ [.ag (R59 y0)]++c) (.b r)){r:Bool}(h:f35 s0 d=some r):Pu prog 35 [.sl (List.map E59 s0), .fnc (.func g1) a c] (.b r):=by
 unfold f35 at h
 refine fI func35 λ_ _=>?_
 refine WC.cast 1 q (fp _ _ _) (Rcl 9 q ?_)
 obtain⟨g,f,h⟩:=ac h
 exact wF Z4 (f98_c _ _ g1 a c e f) ⟨Zl,(Le.fnc (Zs _) (Zs _)),Zt⟩ Z3 (Rlx 5 q (FA h))

theorem f158_c{o0:Int}{r:fc×Bool}(h:f158 o0=some r):Pu prog 158 [.i .u8 o0] (.tu [.ag (uq r.1), .b r.2]):=by
 unfold f158 at h
 refine fI func158 λ_ _=>?_
 refine Rcl 2 q (Al re q (Rll 9 q ?_))
 refine OG 4 6 10 4 4 ?_
 refine Rlc 2 q (Ci h q (λh=>?_) λh=>?_)
 refine Rcl 2 q (Zq (ab p231 re q q) q (sS Z6 pa Z2 (Rlx 5 q ?_)))
 obtain rfl:=Oi h
 exact aW (rs2 q (cO q q a231 pa q) (bv q)) (dT ⟨(aR (Zs _)),Zl,Zt⟩)
 refine Rcl 6 q ?_
 obtain⟨c,a,h⟩:=ac h
 refine Zq (tn (R:=uq) gD (λ_=>q) ar284 (congrArg (Option.map λps=>AV.d (.pc ps)) kJ) q q a) q (Rl 1 q (sS Z6 pa Z2 (Rlx 4 q ?_)))
 obtain rfl:=Oi h
 exact aW (rs2 q (cO q q a231 pa q) (bv q)) (dT ⟨(aR (Zs _)),Zl,Zt⟩)

theorem f186_c{s0:ByteArray}{r:List ByteArray}(h:f186 s0=some r):Pu prog 186 [.s s0] (.sl (List.map E9 r)):=by
 unfold f186 at h
 refine fI func186 λ_ _=>?_
 refine Rcc 20 q (Jn2 (λc setBits109=> [(0, .d (D.s s0)),(3, .n c),(5, .d (D.i .u8 setBits109))]) (λ_ _=> []) h (λF h=>?_) λc setBits109 h=>?_)
 refine Rcc 6 q (Ln4 (λg wasSpace116 setBits117 j=> [(0, .d (D.s s0)),(3, .n g),(4, .n wasSpace116),(5, .d (D.i .u8 setBits117)),(6, .n j)]) (λ_ _ _ _=> []) (f186_l1 s0 F) h (λ_ _ _ _ h=>by rw[f186_l1] at h;cases h) λn g wasSpace116 setBits117 j h=>?_)
 rw[f186_l1] at h
 refine Rcl 5 q (Zq (dq underlying9 q q) q (Rlc 3 q (Ci h q (λh=>?_) λh=>?_)))
 refine Rcl 8 q ?_
 obtain⟨ad,G,h⟩:=ac h
 refine Zq (bH underlying9 q q G) q (Rll 7 q (Zq (tq q q q) q (Rll 6 q ?_)))
 obtain⟨ag,H,h⟩:=ac h
 exact Zq (nI (E:=D.i .u8) cr oH q q q H) q (Rll 10 q (Zq (y_com q q) q (Zq (s5 q q q) q (Rlx 15 q (Fn4 h)))))
 exact Rcx 4 q (En2 h)
 refine Rcc 7 q (Ci h q (λh=>?_) λh=>?_)
 refine Rcc 1 q ?_
 cases h
 refine Rcl 5 q ?_
 replace h:=eo h
 obtain⟨I,h⟩:=h
 refine WL.s ((NewOs.b (NewOs.cast (cW l286 z9 q (Nat.succ_pos _) q q I) (by exact du (R:=E9) (z:=(ByteArray.empty:ByteArray)) q))).does) (Zw q) q q (Rlc 18 q (Jn1 (λm=> [(0, .d (D.s s0)),(9, .os 0 0),(10, .n 0),(12, .n m)]) (λ_=> [.os 9 1 0 (eM E9 (List.replicate (Int.toNat c) (ByteArray.empty:ByteArray)))]) h (λJ h=>?_) λm h=>?_))
 refine Rcc 1 q (Ln1 (λp=> [(0, .d (D.s s0)),(9, .os 0 0),(10, .n 0),(12, .n p)]) (λ_=> [.os 9 1 0 (eM E9 (List.replicate (Int.toNat c) (ByteArray.empty:ByteArray)))]) (f186_l2 s0 J) h (λ_ h=>by rw[f186_l2] at h;cases h) λn p h=>?_)
 rw[f186_l2] at h
 refine Rcl 5 q (Zq (dq underlying9 q q) q (Rl 2 q ?_))
 obtain⟨K,L,h⟩:=ac h
 refine Gg 7 46 53 K L (λh=>?_) (λh=>?_) ?_
 refine Rl 2 q ?_
 obtain⟨a0,M,h⟩:=ac h
 refine Zy (bH underlying9 q q M) q q q ?_
 obtain⟨a1,N,h⟩:=ac h
 exact Zy (nI (E:=D.i .u8) cr oH q q q N) q q q (On 3 7 h)
 exact On 7 7 h
 exact Rlc 2 q (Ci h q (λh=>Rcx 9 q (Fn1 h)) λh=>Rcx 4 q (En1 h))
 refine Rcc 6 q (Jn3 (λf fieldStart135 _=> [(0, .d (D.s s0)),(9, .os 0 0),(10, .n f),(11, .n fieldStart135)]) (λ_ _ t=> [.os 9 1 0 (eM E9 t)]) h (λO h=>?_) λf fieldStart135 t h=>?_)
 refine Rcc 1 q (Ln4 (λa fieldStart143 w _=> [(0, .d (D.s s0)),(9, .os 0 0),(10, .n a),(11, .n fieldStart143),(12, .n w)]) (λ_ _ _ e=> [.os 9 1 0 (eM E9 e)]) (f186_l3 s0 O) h (λ_ _ _ _ h=>by rw[f186_l3] at h;cases h) λn a fieldStart143 w e h=>?_)
 rw[f186_l3] at h
 refine Rcl 5 q (Zq (dq underlying9 q q) q (Rlc 3 q (Ci h q (λh=>?_) λh=>?_)))
 refine Rcl 8 q ?_
 obtain⟨a6,P,h⟩:=ac h
 refine Zq (bH underlying9 q q P) q ?_
 obtain⟨a7,Q,h⟩:=ac h
 refine Zq (nI (E:=D.i .u8) cr oH q q q Q) q (Rlc 4 q (Ci h q (λh=>?_) λh=>?_))
 exact Rcx 10 q (Fn4 h)
 refine Rcl 9 q ?_
 obtain⟨s152,S,h⟩:=ac h
 refine Zq (tp underlying9 q q q S) q ?_
 obtain⟨a8,x,h⟩:=ac h
 refine Zq (oX sC q q q x) q (WL.s0 (cz (R:=E9) (k:=1) (i:=a) (fo:=0) s152 q q q q Zl q q q s9 q (λ_=>q) x q q) (Zw q) q (Rlc 16 q (Jn1 (λy=> [(0, .d (D.s s0)),(9, .os 0 0),(10, .n (IntKind.i64.wrap (a+1))),(12, .n y)]) (λ_=> [.os 9 1 0 (eM E9 (List.set e (Int.toNat a) s152))]) h (λT h=>?_) λy h=>?_)))
 refine Rcc 1 q (Ln1 (λA=> [(0, .d (D.s s0)),(9, .os 0 0),(10, .n (IntKind.i64.wrap (a+1))),(12, .n A)]) (λ_=> [.os 9 1 0 (eM E9 (List.set e (Int.toNat a) s152))]) (f186_l4 s0 T) h (λ_ h=>by rw[f186_l4] at h;cases h) λna A h=>?_)
 rw[f186_l4] at h
 refine Rcl 5 q (Zq (dq underlying9 q q) q (Rl 2 q ?_))
 obtain⟨U,V,h⟩:=ac h
 refine Gg 7 84 91 U V (λh=>?_) (λh=>?_) ?_
 refine Rl 2 q ?_
 obtain⟨a',W,h⟩:=ac h
 refine Zy (bH underlying9 q q W) q q q ?_
 obtain⟨bb,X,h⟩:=ac h
 exact Zy (nI (E:=D.i .u8) cr oH q q q X) q q q (On 3 7 h)
 exact On 7 7 h
 exact Rlc 2 q (Ci h q (λh=>Rcx 9 q (Fn1 h)) λh=>Rcx 4 q (En1 h))
 exact Rcx 5 q (Fn4 h)
 exact Rcx 4 q (En3 h)
 refine Jn1 (λ_=> [(9, .os 0 0)]) (λB=> [.os 9 1 0 (eM E9 B)]) h (λ_ h=>?_) (λB h=>?_)
 refine Rcl 4 q (Zq (dq underlying9 q q) q (Rlc 3 q (Ci h q (λh=>?_) λh=>?_)))
 refine Rcl 5 q ?_
 obtain⟨Y,Z,h⟩:=ac h
 refine Zq (rf underlying9 q q Z) q ?_
 obtain⟨bk,C,h⟩:=ac h
 exact Zq (oX sC q q q C) q (WL.s0 (cz (R:=E9) (k:=1) (i:=f) (fo:=0) Y q q q q Zl q q q s9 q (λ_=>q) C q q) (Zw q) q (Rlx 1 q (En1 h)))
 exact Rcx 1 q (En1 h)
 refine Rcx 7 q ?_
 exact WE.freezeX [9,105,2] [] 0 _ q (an tk _) ⟨q,q,q,Zt⟩ Zt (FA h)

theorem f189_c{a:Int}:Pu prog 189 [.i .u8 a] (.tu [.i .i64 (f189 a).1, .i .i64 (f189 a).2]):=by
 generalize h:f189 a=r
 unfold f189 at h
 refine fI func189 λ_ _=>?_
 refine Rcc 19 q (Ci h q (λh=>Rcx 9 q (FB h)) λh=>?_)
 refine Rcc 6 q (Ci h q (λh=>Rcx 9 q (FB h)) λh=>?_)
 refine Rcc 6 q (Ci h q (λh=>Rcx 9 q (FB h)) λh=>?_)
 refine Rcc 6 q (Ci h q (λh=>Rcx 9 q (FB h)) λh=>?_)
 refine Rcc 6 q (Ci h q (λh=>Rcx 9 q (FB h)) λh=>?_)
 refine Rcc 6 q (Ci h q (λh=>Rcx 9 q (FB h)) λh=>?_)
 refine Rcc 6 q (Ci h q (λh=>Rcx 9 q (FB h)) λh=>?_)
 refine Rcc 6 q (Ci h q (λh=>Rcx 9 q (FB h)) λh=>?_)
 refine Rcc 6 q (Ci h q (λh=>Rcx 9 q (FB h)) λh=>?_)
 refine Rcc 6 q (Ci h q (λh=>Rcx 9 q (FB h)) λh=>?_)
 refine Rcc 6 q (Ci h q (λh=>Rcx 9 q (FB h)) λh=>?_)
 exact Rcc 6 q (Ci h q (λh=>Rcx 9 q (FB h)) λh=>Rcx 10 q (FB h))

theorem f99_c{x0:aO}{r:Bool}(h:f99 x0=some r):Pu prog 99 [.ag (R59 x0)] (.b r):=by
 unfold f99 at h
 refine fI func99 λ_ _=>?_
 refine Rcl 2 q (Bd q q (Zs _) q (Al z4 q (Rll 7 q ?_)))
 obtain⟨c,g7,h⟩:=ac h
 refine wF Z4 (f158_c g7) Lw Z3 (Rl 3 q (Al re q (sS Z6 pa Z2 (Rll 8 q ?_))))
 apply WL.or 11 (t:=16) (d:=27)
 exact q
 intro ka
 refine Rl 4 q ?_
 refine AG 6 20 26 6 6 ?_
 exact Rn 1 6
 exact Rn 11 11
 refine Rlc 2 q (Ci h q (λh=>?_) λh=>?_)
 refine Rcl 2 q (sS Z6 s4 Z2 (Rlx 4 q ?_))
 obtain rfl:=Oi h
 exact aW (rs1 q (jA q q a4 q)) Zl
 refine Rcl 9 q ?_
 refine AG 5 31 36 5 5 ?_
 refine Rl 1 q ?_
 refine AG 4 37 41 4 4 ?_
 refine Rlc 2 q (Ci h q (λh=>?_) λh=>?_)
 refine Rcl 2 q (sS Z6 s4 Z2 (Rlx 4 q ?_))
 obtain rfl:=Oi h
 exact aW (rs1 q (jA q q a4 q)) Zl
 refine Rcl 5 q (Al z59 q (sS Z6 s59 Z2 (Rlc 2 q (Jn8 (λ_ _ _ _ _ _ _ _=> [(1, .d (.pc (R59 x0))),(2, .pt 0 0),(5, .pt 2 0)]) (λK L M N O P gs gx=> [.row 4 [.d (D.b false)], .row 231 [.d (D.s c.1.name), .d (D.s c.1.fields)], .row 59 [.d (D.i .u8 x0.op), .n K, .n L, .n M, .n N, .n O, .n P], .row 238 [.pt 2 0], .z, .row 231 [.d (D.s gs), .d (D.s gx)]]) h (λ_ h=>?_) λK L M N O P gs gx h=>?_))))
 refine Rcl 2 q ?_
 obtain⟨g8,g9,h⟩:=aL h
 refine WL.inl (us:=[.pt 2 0]) (λrv st'=>(g8 ()=some r∧Le rv (.fn (.func 185) [] [.pt 3 0])∧SLe st' [.row 4 [.d (D.b false)], .row 231 [.d (D.s c.1.name), .d (D.s c.1.fields)], .row 59 [.d (D.i .u8 x0.op), .n x0.d, .n x0.a, .n x0.b, .n x0.n, .n x0.m, .n x0.to], .row 238 [.pt 2 0]])) q q q q q ?_ (Zw q) q q ?_
 refine cI func159 λ_ _ _ _=>?_
 exact Rcl 2 q (Bx q q q (Rlx 10 q (aH (rs1 q (bv q)) ⟨h,Zl,⟨Zp,Zp,Zp,Zp,Zt⟩⟩)))
 rintro rv st1 ⟨h,hr,hst⟩
 subst g9
 dsimp only at h
 refine WL.cast 43 q hr (WL.weak hst (Zn (Rcc 1 q ?_)))
 obtain⟨g0,ha,h⟩:=aL h
 obtain⟨g1,hb,h⟩:=aL h
 obtain⟨g2,hc,h⟩:=aL h
 obtain⟨g3,hd,h⟩:=aL h
 obtain⟨g4,he,h⟩:=aL h
 obtain⟨g5,hf,h⟩:=aL h
 obtain⟨g6,hg,h⟩:=aL h
 refine pR (us:=[.yl 4, .pt 3 0]) [2] 4 (λf rv st'=>(∃(Q:Int),∃(R:Int),∃(S:Int),∃(T:Int),∃(U:Int),∃(V:Int),∃(W:ByteArray),∃(X:ByteArray),∃(Y:Int),∃(Z:Int),∃(ad:Int),∃(a0:Int),g0 Q R S T U V W X Y Z ad a0=some r∧SLe st' [.row 4 [.d (D.b false)], .row 231 [.d (D.s c.1.name), .d (D.s c.1.fields)], .row 59 [.d (D.i .u8 x0.op), .n Q, .n R, .n S, .n T, .n U, .n V], .row 238 [.pt 2 0], .lp f [.pt 0 0] .done (some .ret), .row 231 [.d (D.s W), .d (D.s X)], .row 240 [.fn (.func 206) [] [.pt 7 0], .fn (.func 207) [] [.pt 7 0], .n Y, .n Z], .row 204 [.pt 2 1], .row 240 [.fn (.func 206) [] [.pt 7 0], .fn (.func 207) [] [.pt 7 0], .n 0, .n 0], .row 240 [.fn (.func 206) [] [.pt 7 0], .fn (.func 207) [] [.pt 7 0], .n ad, .n a0]])∨(∃(a1:Int),∃(a6:Int),∃(a7:Int),∃(a8:Int),∃(a':Int),∃(bb:Int),∃(bk:ByteArray),∃(bs:ByteArray),∃(b0:Int),∃(b1:Int),∃(b2:Int),∃(b3:Int),g1 a1 a6 a7 a8 a' bb bk bs b0 b1 b2 b3=some r∧SLe st' [.row 4 [.d (D.b false)], .row 231 [.d (D.s c.1.name), .d (D.s c.1.fields)], .row 59 [.d (D.i .u8 x0.op), .n a1, .n a6, .n a7, .n a8, .n a', .n bb], .row 238 [.pt 2 0], .lp f [.pt 0 0] .done (some .ret), .row 231 [.d (D.s bk), .d (D.s bs)], .row 240 [.fn (.func 206) [] [.pt 7 0], .fn (.func 207) [] [.pt 7 0], .n b0, .n b1], .row 204 [.pt 2 2], .row 240 [.fn (.func 206) [] [.pt 7 0], .fn (.func 207) [] [.pt 7 0], .n 0, .n 0], .row 240 [.fn (.func 206) [] [.pt 7 0], .fn (.func 207) [] [.pt 7 0], .n b2, .n b3]])∨(∃(b4:Int),∃(b5:Int),∃(b6:Int),∃(b7:Int),∃(b8:Int),∃(b9:Int),∃(b':ByteArray),∃(ca:ByteArray),∃(cc:Int),∃(cd:Int),∃(ci:Int),∃(cj:Int),g2 b4 b5 b6 b7 b8 b9 b' ca cc cd ci cj=some r∧SLe st' [.row 4 [.d (D.b false)], .row 231 [.d (D.s c.1.name), .d (D.s c.1.fields)], .row 59 [.d (D.i .u8 x0.op), .n b4, .n b5, .n b6, .n b7, .n b8, .n b9], .row 238 [.pt 2 0], .lp f [.pt 0 0] .done (some .ret), .row 231 [.d (D.s b'), .d (D.s ca)], .row 240 [.fn (.func 206) [] [.pt 7 0], .fn (.func 207) [] [.pt 7 0], .n cc, .n cd], .row 204 [.pt 2 3], .row 240 [.fn (.func 206) [] [.pt 7 0], .fn (.func 207) [] [.pt 7 0], .n 0, .n 0], .row 240 [.fn (.func 206) [] [.pt 7 0], .fn (.func 207) [] [.pt 7 0], .n ci, .n cj]])∨(∃(cl:Int),∃(cn:Int),∃(cp:Int),∃(c0:Int),∃(c1:Int),∃(c2:Int),∃(c3:ByteArray),∃(c4:ByteArray),∃(c5:Int),∃(c6:Int),∃(c7:Int),∃(c8:Int),g3 cl cn cp c0 c1 c2 c3 c4 c5 c6 c7 c8=some r∧SLe st' [.row 4 [.d (D.b false)], .row 231 [.d (D.s c.1.name), .d (D.s c.1.fields)], .row 59 [.d (D.i .u8 x0.op), .n cl, .n cn, .n cp, .n c0, .n c1, .n c2], .row 238 [.pt 2 0], .lp f [.pt 0 0] .done (some .ret), .row 231 [.d (D.s c3), .d (D.s c4)], .row 240 [.fn (.func 208) [] [.pt 7 0], .fn (.func 209) [] [.pt 7 0], .n c5, .n c6], .row 102 [.pt 2 4], .row 240 [.fn (.func 208) [] [.pt 7 0], .fn (.func 209) [] [.pt 7 0], .n 0, .n 0], .row 240 [.fn (.func 208) [] [.pt 7 0], .fn (.func 209) [] [.pt 7 0], .n c7, .n c8]])∨(∃(c':Int),∃(dd:Int),∃(df:Int),∃(ds:Int),∃(dS:Int),∃(d0:Int),∃(d1:ByteArray),∃(d':ByteArray),∃(ec:Int),∃(ei:Int),∃(el:Int),∃(eq:Int),g4 c' dd df ds dS d0 d1 d' ec ei el eq=some r∧SLe st' [.row 4 [.d (D.b false)], .row 231 [.d (D.s c.1.name), .d (D.s c.1.fields)], .row 59 [.d (D.i .u8 x0.op), .n c', .n dd, .n df, .n ds, .n dS, .n d0], .row 238 [.pt 2 0], .lp f [.pt 0 0] .done (some .ret), .row 231 [.d (D.s d1), .d (D.s d')], .row 240 [.fn (.func 208) [] [.pt 7 0], .fn (.func 209) [] [.pt 7 0], .n ec, .n ei], .row 102 [.pt 2 5], .row 240 [.fn (.func 208) [] [.pt 7 0], .fn (.func 209) [] [.pt 7 0], .n 0, .n 0], .row 240 [.fn (.func 208) [] [.pt 7 0], .fn (.func 209) [] [.pt 7 0], .n el, .n eq]])∨(∃(es:Int),∃(et:Int),∃(ex:Int),∃(ey:Int),∃(e0:Int),∃(e1:Int),∃(e2:ByteArray),∃(e3:ByteArray),∃(e4:Int),∃(e5:Int),∃(e6:Int),∃(e':Int),g5 es et ex ey e0 e1 e2 e3 e4 e5 e6 e'=some r∧SLe st' [.row 4 [.d (D.b false)], .row 231 [.d (D.s c.1.name), .d (D.s c.1.fields)], .row 59 [.d (D.i .u8 x0.op), .n es, .n et, .n ex, .n ey, .n e0, .n e1], .row 238 [.pt 2 0], .lp f [.pt 0 0] .done (some .ret), .row 231 [.d (D.s e2), .d (D.s e3)], .row 240 [.fn (.func 206) [] [.pt 7 0], .fn (.func 207) [] [.pt 7 0], .n e4, .n e5], .row 204 [.pt 2 6], .row 240 [.fn (.func 206) [] [.pt 7 0], .fn (.func 207) [] [.pt 7 0], .n 0, .n 0], .row 240 [.fn (.func 206) [] [.pt 7 0], .fn (.func 207) [] [.pt 7 0], .n e6, .n e']])∨(∃(fi:Int),∃(fo:Int),∃(fr:Int),∃(fv:Int),∃(fz:Int),∃(f0:Int),∃(f1:ByteArray),∃(f2:ByteArray),g6 fi fo fr fv fz f0 f1 f2=some r∧SLe st' [.row 4 [.d (D.b false)], .row 231 [.d (D.s c.1.name), .d (D.s c.1.fields)], .row 59 [.d (D.i .u8 x0.op), .n fi, .n fo, .n fr, .n fv, .n fz, .n f0], .row 238 [.pt 2 0], .lp f [.pt 0 0] .ready none, .row 231 [.d (D.s f1), .d (D.s f2)]])) q q q q q (λf I=>?_) ?_
 refine cI func185 λ_ _ _ J=>?_
 refine Rcl 6 q ?_
 obtain⟨e,hh,h⟩:=ac h
 refine wF Z4 (f158_c hh) Lw Z3 (Rl 3 q (Al re q (sS Z6 pa Z2 (Rll 7 q ?_))))
 obtain⟨G,hi,h⟩:=ac h
 refine wF Z4 (f186_c hi) Lw Z3 (Zq (aa E9 G sC q q Zl) q (Rlc 4 q (Ln7 (λH _ _ _ _ _ _=> [(0, .yl 4),(1, .pt 3 0),(18, .l E9 G),(19, .n (List.length G:Int)),(20, .n H)]) (λ_ g j k p w x=> [.row 4 [.d (D.b false)], .row 231 [.d (D.s c.1.name), .d (D.s c.1.fields)], .row 59 [.d (D.i .u8 x0.op), .n g, .n j, .n k, .n p, .n w, .n x], .row 238 [.pt 2 0], .lp f [.pt 0 0] .ready none, .row 231 [.d (D.s e.1.name), .d (D.s e.1.fields)]]) (f99_l1 g0 g1 g2 g3 g4 g5 g6 e G) h (λ_ _ _ _ _ _ _ h=>by rw[f99_l1] at h;cases h) λn H g j k p w x h=>?_)))
 rw[f99_l1] at h
 refine Rcc 6 q (Ci h q (λh=>?_) λh=>?_)
 refine Rcl 6 q (Ix h sC tk q Zl q q λkb _ h=>(Rll 6 q (Al d8 q (Rll 6 q ?_))))
 obtain⟨kc,hj,h⟩:=ac h
 refine Zq (bH underlying9 q q hj) q (Rlc 9 q (Ci h q (λh=>?_) λh=>?_))
 refine Rcl 4 q ?_
 obtain⟨hk,hl,h⟩:=aL h
 refine WL.inl (us:=[.pt 2 1]) (λrv st'=>(hk ()=some r∧Le rv (.ag [.fn (.func 206) [] [.pt 7 0], .fn (.func 207) [] [.pt 7 0], .n 0, .n 0])∧SLe st' [.row 4 [.d (D.b false)], .row 231 [.d (D.s c.1.name), .d (D.s c.1.fields)], .row 59 [.d (D.i .u8 x0.op), .n g, .n j, .n k, .n p, .n w, .n x], .row 238 [.pt 2 0], .lp f [.pt 0 0] .ready none, .row 231 [.d (D.s e.1.name), .d (D.s e.1.fields)], .row 240 [.d (.v .nilFunc), .d (.v .nilFunc), .n 0, .n 0], .row 204 [.pt 2 1], .row 240 [.fn (.func 206) [] [.pt 7 0], .fn (.func 207) [] [.pt 7 0], .n 0, .n 0]])) q q q q q ?_ (Zw q) q q ?_
 refine cI func187 λ_ _ _ _=>?_
 exact Rcl 2 q (Bx q q q (Al d8 q (Rll 6 q (Zq (ab ph d8 q q) q (sS Z6 di Z2 (Rlx 3 q (aH (rs1 q (cO q q pE di q)) ⟨h,Zl,⟨Zp,Zp,Zp,Zp,⟨q,Zs _,q,q⟩,Zp,Zp,Zp,Zp,Zt⟩⟩)))))))
 rintro rv st1 ⟨h,hr,hst⟩
 subst hl
 dsimp only at h
 refine WL.cast 35 q hr (WL.weak hst (sS Z6 di Z2 (WL.nil (Rxl 5 q ?_))))
 obtain⟨y,hm,h⟩:=ac h
 refine Zq (bH underlying9 q q hm) q (wF Z4 (f189_c) Lw Z3 (Rl 4 q (sS Z6 s2 Z2 (Rl 1 q (sS Z6 s2 Z2 (Rll 6 q ?_))))))
 obtain⟨ho,hp,h⟩:=aL h
 obtain⟨hq,hs,h⟩:=aL h
 refine WL.yield (env0:=[(44, .ag [.fn (.func 206) [] [.pt 7 0], .fn (.func 207) [] [.pt 7 0], .n ((f189 y).1), .n ((f189 y).2)]),(2, .pt 0 0)]) (λrv st'=>(ho ()=some r∧rv= .d (.v (.bool false))∧SLe st' [.row 4 [.d (D.b false)], .row 231 [.d (D.s c.1.name), .d (D.s c.1.fields)], .row 59 [.d (D.i .u8 x0.op), .n g, .n j, .n k, .n p, .n w, .n x], .row 238 [.pt 2 0], .lp f [.pt 0 0] .done (some .ret), .row 231 [.d (D.s e.1.name), .d (D.s e.1.fields)], .row 240 [.fn (.func 206) [] [.pt 7 0], .fn (.func 207) [] [.pt 7 0], .n ((f189 y).1), .n ((f189 y).2)], .row 204 [.pt 2 1], .row 240 [.fn (.func 206) [] [.pt 7 0], .fn (.func 207) [] [.pt 7 0], .n 0, .n 0], .row 240 [.fn (.func 206) [] [.pt 7 0], .fn (.func 207) [] [.pt 7 0], .n ((f189 y).1), .n ((f189 y).2)]])∨(hq ()=some r∧rv= .d (.v (.bool true))∧SLe st' [.row 4 [.d (D.b false)], .row 231 [.d (D.s c.1.name), .d (D.s c.1.fields)], .row 59 [.d (D.i .u8 x0.op), .n 0, .n j, .n k, .n p, .n w, .n x], .row 238 [.pt 2 0], .lp f [.pt 0 0] .ready none, .row 231 [.d (D.s e.1.name), .d (D.s e.1.fields)], .row 240 [.fn (.func 206) [] [.pt 7 0], .fn (.func 207) [] [.pt 7 0], .n ((f189 y).1), .n ((f189 y).2)], .row 204 [.pt 2 1], .row 240 [.fn (.func 206) [] [.pt 7 0], .fn (.func 207) [] [.pt 7 0], .n 0, .n 0], .row 240 [.fn (.func 206) [] [.pt 7 0], .fn (.func 207) [] [.pt 7 0], .n ((f189 y).1), .n ((f189 y).2)]])) I q q q q q q q (λee hn f4 kf=>?_) (Zw q) q q ?_
 obtain⟨em,eφ,ew,en,er⟩:=ee
 subst hn
 refine Rcl 1 q (Al d8 q (sS Z6 di Z2 (Rlx 1 q (fL f4 q (Rcl 6 q ?_)))))
 obtain⟨ht,hu,h⟩:=aL h
 refine WL.inl (us:=[.pt 7 0]) (λrv st'=>(ht ()=some r∧Le rv (.n g)∧SLe st' [.row 4 [.d (D.b false)], .row 231 [.d (D.s c.1.name), .d (D.s c.1.fields)], .row 59 [.d (D.i .u8 x0.op), .n g, .n j, .n k, .n p, .n w, .n x], .row 238 [.pt 2 0], .lp f [.pt 0 0] .busy none, .row 231 [.d (D.s e.1.name), .d (D.s e.1.fields)], .row 240 [.fn (.func 206) [] [.pt 7 0], .fn (.func 207) [] [.pt 7 0], .n ((f189 y).1), .n ((f189 y).2)], .row 204 [.pt 2 1], .row 240 [.fn (.func 206) [] [.pt 7 0], .fn (.func 207) [] [.pt 7 0], .n 0, .n 0], .row 240 [.fn (.func 206) [] [.pt 7 0], .fn (.func 207) [] [.pt 7 0], .n ((f189 y).1), .n ((f189 y).2)]])) q q q q q ?_ (Zw q) q q ?_
 refine cI func206 λ_ _ _ _=>?_
 exact Rcx 14 q (aH (rs1 q (bv q)) ⟨h,Zl,⟨Zp,Zp,Zp,Zp,⟨q,Zs _,q,q⟩,Zp,Zp,Zp,Zp,Zp,Zt⟩⟩)
 rintro rv st1 ⟨h,hr,hst⟩
 subst hu
 dsimp only at h
 refine WL.cast 47 q hr (WL.weak hst (Rl 1 q (Zn (Rcl 7 q ?_))))
 refine OG 5 52 57 5 5 ?_
 refine Rlc 2 q (Ci h q (λh=>?_) λh=>?_)
 exact Rcl 2 q (sS Z6 s4 Z2 (Rlx 5 q (bP f4 q (.inl ⟨h,q,⟨Zp,Zp,Zp,Zp,⟨q,Zs _,q,q⟩,Zp,Zp,Zp,Zp,Zp,Zt⟩⟩))))
 refine Rcl 5 q ?_
 obtain⟨hv,hw,h⟩:=aL h
 refine WL.inl (us:=[.n 0, .pt 7 0]) (λrv st'=>(hv ()=some r∧Le rv (.tu [])∧SLe st' [.row 4 [.d (D.b false)], .row 231 [.d (D.s c.1.name), .d (D.s c.1.fields)], .row 59 [.d (D.i .u8 x0.op), .n 0, .n j, .n k, .n p, .n w, .n x], .row 238 [.pt 2 0], .lp f [.pt 0 0] .busy none, .row 231 [.d (D.s e.1.name), .d (D.s e.1.fields)], .row 240 [.fn (.func 206) [] [.pt 7 0], .fn (.func 207) [] [.pt 7 0], .n ((f189 y).1), .n ((f189 y).2)], .row 204 [.pt 2 1], .row 240 [.fn (.func 206) [] [.pt 7 0], .fn (.func 207) [] [.pt 7 0], .n 0, .n 0], .row 240 [.fn (.func 206) [] [.pt 7 0], .fn (.func 207) [] [.pt 7 0], .n ((f189 y).1), .n ((f189 y).2)]])) q q q q q ?_ (Zw q) q q ?_
 refine cI func207 λ_ _ _ _=>?_
 exact Rcl 4 q (sS Z6 s3 Z2 (Rlx 1 q (eO (aH (fO q) ⟨h,Zl,⟨Zp,Zp,Zp,Zp,⟨q,Zs _,q,q⟩,Zp,Zp,Zp,Zp,Zp,Zt⟩⟩))))
 rintro rv st1 ⟨h,hr,hst⟩
 subst hw
 dsimp only at h
 exact WL.cast 60 q hr (WL.weak hst (WL.nil (Rxx 1 q (eb f4 q (.inr (⟨h,q,⟨Zp,Zp,Zp,Zp,⟨q,Zs _,q,q⟩,Zp,Zp,Zp,Zp,Zp,Zt⟩⟩))))))
 rintro rv st1 (⟨h,rfl,hst⟩|⟨h,rfl,hst⟩)
 subst hp
 dsimp only at h
 exact WL.weak hst (Rl 1 q (Zn (bN q (Rcx 5 q (aH (fO q) (.inl ⟨g,j,k,p,w,x,e.1.name,e.1.fields,((f189 y).1),((f189 y).2),((f189 y).1),((f189 y).2),h,⟨Zp,Zp,Zp,Zp,⟨q,Zs _,q,q⟩,Zp,Zp,Zp,Zp,Zp,Zt⟩⟩))))))
 subst hs
 dsimp only at h
 exact WL.weak hst (Rl 1 q (Zn (dt q (Rcx 7 q (WE.drop 6 (env':=[(0, .yl 4),(1, .pt 3 0),(18, .l E9 G),(19, .n (List.length G:Int)),(20, .n (IntKind.i64.wrap (H+1)))]) Sb q q (Nat.le_trans (Nat.le_of_eq J) (nbT q)) (Fn7 h))))))
 refine Rcc 6 q (Ci h q (λh=>?_) λh=>?_)
 refine Rcl 4 q ?_
 obtain⟨hx,hy,h⟩:=aL h
 refine WL.inl (us:=[.pt 2 2]) (λrv st'=>(hx ()=some r∧Le rv (.ag [.fn (.func 206) [] [.pt 7 0], .fn (.func 207) [] [.pt 7 0], .n 0, .n 0])∧SLe st' [.row 4 [.d (D.b false)], .row 231 [.d (D.s c.1.name), .d (D.s c.1.fields)], .row 59 [.d (D.i .u8 x0.op), .n g, .n j, .n k, .n p, .n w, .n x], .row 238 [.pt 2 0], .lp f [.pt 0 0] .ready none, .row 231 [.d (D.s e.1.name), .d (D.s e.1.fields)], .row 240 [.d (.v .nilFunc), .d (.v .nilFunc), .n 0, .n 0], .row 204 [.pt 2 2], .row 240 [.fn (.func 206) [] [.pt 7 0], .fn (.func 207) [] [.pt 7 0], .n 0, .n 0]])) q q q q q ?_ (Zw q) q q ?_
 refine cI func187 λ_ _ _ _=>?_
 exact Rcl 2 q (Bx q q q (Al d8 q (Rll 6 q (Zq (ab ph d8 q q) q (sS Z6 di Z2 (Rlx 3 q (aH (rs1 q (cO q q pE di q)) ⟨h,Zl,⟨Zp,Zp,Zp,Zp,⟨q,Zs _,q,q⟩,Zp,Zp,Zp,Zp,Zt⟩⟩)))))))
 rintro rv st1 ⟨h,hr,hst⟩
 subst hy
 dsimp only at h
 refine WL.cast 41 q hr (WL.weak hst (sS Z6 di Z2 (WL.nil (Rxl 5 q ?_))))
 obtain⟨A,hz,h⟩:=ac h
 refine Zq (bH underlying9 q q hz) q (wF Z4 (f189_c) Lw Z3 (Rl 4 q (sS Z6 s2 Z2 (Rl 1 q (sS Z6 s2 Z2 (Rll 6 q ?_))))))
 obtain⟨hA,hB,h⟩:=aL h
 obtain⟨hC,hE,h⟩:=aL h
 refine WL.yield (env0:=[(44, .ag [.fn (.func 206) [] [.pt 7 0], .fn (.func 207) [] [.pt 7 0], .n ((f189 A).1), .n ((f189 A).2)]),(2, .pt 0 0)]) (λrv st'=>(hA ()=some r∧rv= .d (.v (.bool false))∧SLe st' [.row 4 [.d (D.b false)], .row 231 [.d (D.s c.1.name), .d (D.s c.1.fields)], .row 59 [.d (D.i .u8 x0.op), .n g, .n j, .n k, .n p, .n w, .n x], .row 238 [.pt 2 0], .lp f [.pt 0 0] .done (some .ret), .row 231 [.d (D.s e.1.name), .d (D.s e.1.fields)], .row 240 [.fn (.func 206) [] [.pt 7 0], .fn (.func 207) [] [.pt 7 0], .n ((f189 A).1), .n ((f189 A).2)], .row 204 [.pt 2 2], .row 240 [.fn (.func 206) [] [.pt 7 0], .fn (.func 207) [] [.pt 7 0], .n 0, .n 0], .row 240 [.fn (.func 206) [] [.pt 7 0], .fn (.func 207) [] [.pt 7 0], .n ((f189 A).1), .n ((f189 A).2)]])∨(hC ()=some r∧rv= .d (.v (.bool true))∧SLe st' [.row 4 [.d (D.b false)], .row 231 [.d (D.s c.1.name), .d (D.s c.1.fields)], .row 59 [.d (D.i .u8 x0.op), .n g, .n 0, .n k, .n p, .n w, .n x], .row 238 [.pt 2 0], .lp f [.pt 0 0] .ready none, .row 231 [.d (D.s e.1.name), .d (D.s e.1.fields)], .row 240 [.fn (.func 206) [] [.pt 7 0], .fn (.func 207) [] [.pt 7 0], .n ((f189 A).1), .n ((f189 A).2)], .row 204 [.pt 2 2], .row 240 [.fn (.func 206) [] [.pt 7 0], .fn (.func 207) [] [.pt 7 0], .n 0, .n 0], .row 240 [.fn (.func 206) [] [.pt 7 0], .fn (.func 207) [] [.pt 7 0], .n ((f189 A).1), .n ((f189 A).2)]])) I q q q q q q q (λee hn f5 ki=>?_) (Zw q) q q ?_
 obtain⟨em,eφ,ew,en,er⟩:=ee
 subst hn
 refine Rcl 1 q (Al d8 q (sS Z6 di Z2 (Rlx 1 q (fL f5 q (Rcl 6 q ?_)))))
 obtain⟨hF,hI,h⟩:=aL h
 refine WL.inl (us:=[.pt 7 0]) (λrv st'=>(hF ()=some r∧Le rv (.n j)∧SLe st' [.row 4 [.d (D.b false)], .row 231 [.d (D.s c.1.name), .d (D.s c.1.fields)], .row 59 [.d (D.i .u8 x0.op), .n g, .n j, .n k, .n p, .n w, .n x], .row 238 [.pt 2 0], .lp f [.pt 0 0] .busy none, .row 231 [.d (D.s e.1.name), .d (D.s e.1.fields)], .row 240 [.fn (.func 206) [] [.pt 7 0], .fn (.func 207) [] [.pt 7 0], .n ((f189 A).1), .n ((f189 A).2)], .row 204 [.pt 2 2], .row 240 [.fn (.func 206) [] [.pt 7 0], .fn (.func 207) [] [.pt 7 0], .n 0, .n 0], .row 240 [.fn (.func 206) [] [.pt 7 0], .fn (.func 207) [] [.pt 7 0], .n ((f189 A).1), .n ((f189 A).2)]])) q q q q q ?_ (Zw q) q q ?_
 refine cI func206 λ_ _ _ _=>?_
 exact Rcx 14 q (aH (rs1 q (bv q)) ⟨h,Zl,⟨Zp,Zp,Zp,Zp,⟨q,Zs _,q,q⟩,Zp,Zp,Zp,Zp,Zp,Zt⟩⟩)
 rintro rv st1 ⟨h,hr,hst⟩
 subst hI
 dsimp only at h
 refine WL.cast 47 q hr (WL.weak hst (Rl 1 q (Zn (Rcl 7 q ?_))))
 refine OG 5 52 57 5 5 ?_
 refine Rlc 2 q (Ci h q (λh=>?_) λh=>?_)
 exact Rcl 2 q (sS Z6 s4 Z2 (Rlx 5 q (bP f5 q (.inl ⟨h,q,⟨Zp,Zp,Zp,Zp,⟨q,Zs _,q,q⟩,Zp,Zp,Zp,Zp,Zp,Zt⟩⟩))))
 refine Rcl 5 q ?_
 obtain⟨hJ,hK,h⟩:=aL h
 refine WL.inl (us:=[.n 0, .pt 7 0]) (λrv st'=>(hJ ()=some r∧Le rv (.tu [])∧SLe st' [.row 4 [.d (D.b false)], .row 231 [.d (D.s c.1.name), .d (D.s c.1.fields)], .row 59 [.d (D.i .u8 x0.op), .n g, .n 0, .n k, .n p, .n w, .n x], .row 238 [.pt 2 0], .lp f [.pt 0 0] .busy none, .row 231 [.d (D.s e.1.name), .d (D.s e.1.fields)], .row 240 [.fn (.func 206) [] [.pt 7 0], .fn (.func 207) [] [.pt 7 0], .n ((f189 A).1), .n ((f189 A).2)], .row 204 [.pt 2 2], .row 240 [.fn (.func 206) [] [.pt 7 0], .fn (.func 207) [] [.pt 7 0], .n 0, .n 0], .row 240 [.fn (.func 206) [] [.pt 7 0], .fn (.func 207) [] [.pt 7 0], .n ((f189 A).1), .n ((f189 A).2)]])) q q q q q ?_ (Zw q) q q ?_
 refine cI func207 λ_ _ _ _=>?_
 exact Rcl 4 q (sS Z6 s3 Z2 (Rlx 1 q (eO (aH (fO q) ⟨h,Zl,⟨Zp,Zp,Zp,Zp,⟨q,Zs _,q,q⟩,Zp,Zp,Zp,Zp,Zp,Zt⟩⟩))))
 rintro rv st1 ⟨h,hr,hst⟩
 subst hK
 dsimp only at h
 exact WL.cast 60 q hr (WL.weak hst (WL.nil (Rxx 1 q (eb f5 q (.inr (⟨h,q,⟨Zp,Zp,Zp,Zp,⟨q,Zs _,q,q⟩,Zp,Zp,Zp,Zp,Zp,Zt⟩⟩))))))
 rintro rv st1 (⟨h,rfl,hst⟩|⟨h,rfl,hst⟩)
 subst hB
 dsimp only at h
 exact WL.weak hst (Rl 1 q (Zn (bN q (Rcx 5 q (aH (fO q) (.inr (.inl ⟨g,j,k,p,w,x,e.1.name,e.1.fields,((f189 A).1),((f189 A).2),((f189 A).1),((f189 A).2),h,⟨Zp,Zp,Zp,Zp,⟨q,Zs _,q,q⟩,Zp,Zp,Zp,Zp,Zp,Zt⟩⟩)))))))
 subst hE
 dsimp only at h
 exact WL.weak hst (Rl 1 q (Zn (dt q (Rcx 7 q (WE.drop 6 (env':=[(0, .yl 4),(1, .pt 3 0),(18, .l E9 G),(19, .n (List.length G:Int)),(20, .n (IntKind.i64.wrap (H+1)))]) Sb q q (Nat.le_trans (Nat.le_of_eq J) (nbT q)) (Fn7 h))))))
 refine Rcc 6 q (Ci h q (λh=>?_) λh=>?_)
 refine Rcl 4 q ?_
 obtain⟨hL,hM,h⟩:=aL h
 refine WL.inl (us:=[.pt 2 3]) (λrv st'=>(hL ()=some r∧Le rv (.ag [.fn (.func 206) [] [.pt 7 0], .fn (.func 207) [] [.pt 7 0], .n 0, .n 0])∧SLe st' [.row 4 [.d (D.b false)], .row 231 [.d (D.s c.1.name), .d (D.s c.1.fields)], .row 59 [.d (D.i .u8 x0.op), .n g, .n j, .n k, .n p, .n w, .n x], .row 238 [.pt 2 0], .lp f [.pt 0 0] .ready none, .row 231 [.d (D.s e.1.name), .d (D.s e.1.fields)], .row 240 [.d (.v .nilFunc), .d (.v .nilFunc), .n 0, .n 0], .row 204 [.pt 2 3], .row 240 [.fn (.func 206) [] [.pt 7 0], .fn (.func 207) [] [.pt 7 0], .n 0, .n 0]])) q q q q q ?_ (Zw q) q q ?_
 refine cI func187 λ_ _ _ _=>?_
 exact Rcl 2 q (Bx q q q (Al d8 q (Rll 6 q (Zq (ab ph d8 q q) q (sS Z6 di Z2 (Rlx 3 q (aH (rs1 q (cO q q pE di q)) ⟨h,Zl,⟨Zp,Zp,Zp,Zp,⟨q,Zs _,q,q⟩,Zp,Zp,Zp,Zp,Zt⟩⟩)))))))
 rintro rv st1 ⟨h,hr,hst⟩
 subst hM
 dsimp only at h
 refine WL.cast 47 q hr (WL.weak hst (sS Z6 di Z2 (WL.nil (Rxl 5 q ?_))))
 obtain⟨B,hN,h⟩:=ac h
 refine Zq (bH underlying9 q q hN) q (wF Z4 (f189_c) Lw Z3 (Rl 4 q (sS Z6 s2 Z2 (Rl 1 q (sS Z6 s2 Z2 (Rll 6 q ?_))))))
 obtain⟨hO,hP,h⟩:=aL h
 obtain⟨hQ,hR,h⟩:=aL h
 refine WL.yield (env0:=[(44, .ag [.fn (.func 206) [] [.pt 7 0], .fn (.func 207) [] [.pt 7 0], .n ((f189 B).1), .n ((f189 B).2)]),(2, .pt 0 0)]) (λrv st'=>(hO ()=some r∧rv= .d (.v (.bool false))∧SLe st' [.row 4 [.d (D.b false)], .row 231 [.d (D.s c.1.name), .d (D.s c.1.fields)], .row 59 [.d (D.i .u8 x0.op), .n g, .n j, .n k, .n p, .n w, .n x], .row 238 [.pt 2 0], .lp f [.pt 0 0] .done (some .ret), .row 231 [.d (D.s e.1.name), .d (D.s e.1.fields)], .row 240 [.fn (.func 206) [] [.pt 7 0], .fn (.func 207) [] [.pt 7 0], .n ((f189 B).1), .n ((f189 B).2)], .row 204 [.pt 2 3], .row 240 [.fn (.func 206) [] [.pt 7 0], .fn (.func 207) [] [.pt 7 0], .n 0, .n 0], .row 240 [.fn (.func 206) [] [.pt 7 0], .fn (.func 207) [] [.pt 7 0], .n ((f189 B).1), .n ((f189 B).2)]])∨(hQ ()=some r∧rv= .d (.v (.bool true))∧SLe st' [.row 4 [.d (D.b false)], .row 231 [.d (D.s c.1.name), .d (D.s c.1.fields)], .row 59 [.d (D.i .u8 x0.op), .n g, .n j, .n 0, .n p, .n w, .n x], .row 238 [.pt 2 0], .lp f [.pt 0 0] .ready none, .row 231 [.d (D.s e.1.name), .d (D.s e.1.fields)], .row 240 [.fn (.func 206) [] [.pt 7 0], .fn (.func 207) [] [.pt 7 0], .n ((f189 B).1), .n ((f189 B).2)], .row 204 [.pt 2 3], .row 240 [.fn (.func 206) [] [.pt 7 0], .fn (.func 207) [] [.pt 7 0], .n 0, .n 0], .row 240 [.fn (.func 206) [] [.pt 7 0], .fn (.func 207) [] [.pt 7 0], .n ((f189 B).1), .n ((f189 B).2)]])) I q q q q q q q (λee hn f6 kk=>?_) (Zw q) q q ?_
 obtain⟨em,eφ,ew,en,er⟩:=ee
 subst hn
 refine Rcl 1 q (Al d8 q (sS Z6 di Z2 (Rlx 1 q (fL f6 q (Rcl 6 q ?_)))))
 obtain⟨hS,hT,h⟩:=aL h
 refine WL.inl (us:=[.pt 7 0]) (λrv st'=>(hS ()=some r∧Le rv (.n k)∧SLe st' [.row 4 [.d (D.b false)], .row 231 [.d (D.s c.1.name), .d (D.s c.1.fields)], .row 59 [.d (D.i .u8 x0.op), .n g, .n j, .n k, .n p, .n w, .n x], .row 238 [.pt 2 0], .lp f [.pt 0 0] .busy none, .row 231 [.d (D.s e.1.name), .d (D.s e.1.fields)], .row 240 [.fn (.func 206) [] [.pt 7 0], .fn (.func 207) [] [.pt 7 0], .n ((f189 B).1), .n ((f189 B).2)], .row 204 [.pt 2 3], .row 240 [.fn (.func 206) [] [.pt 7 0], .fn (.func 207) [] [.pt 7 0], .n 0, .n 0], .row 240 [.fn (.func 206) [] [.pt 7 0], .fn (.func 207) [] [.pt 7 0], .n ((f189 B).1), .n ((f189 B).2)]])) q q q q q ?_ (Zw q) q q ?_
 refine cI func206 λ_ _ _ _=>?_
 exact Rcx 14 q (aH (rs1 q (bv q)) ⟨h,Zl,⟨Zp,Zp,Zp,Zp,⟨q,Zs _,q,q⟩,Zp,Zp,Zp,Zp,Zp,Zt⟩⟩)
 rintro rv st1 ⟨h,hr,hst⟩
 subst hT
 dsimp only at h
 refine WL.cast 47 q hr (WL.weak hst (Rl 1 q (Zn (Rcl 7 q ?_))))
 refine OG 5 52 57 5 5 ?_
 refine Rlc 2 q (Ci h q (λh=>?_) λh=>?_)
 exact Rcl 2 q (sS Z6 s4 Z2 (Rlx 5 q (bP f6 q (.inl ⟨h,q,⟨Zp,Zp,Zp,Zp,⟨q,Zs _,q,q⟩,Zp,Zp,Zp,Zp,Zp,Zt⟩⟩))))
 refine Rcl 5 q ?_
 obtain⟨hV,hW,h⟩:=aL h
 refine WL.inl (us:=[.n 0, .pt 7 0]) (λrv st'=>(hV ()=some r∧Le rv (.tu [])∧SLe st' [.row 4 [.d (D.b false)], .row 231 [.d (D.s c.1.name), .d (D.s c.1.fields)], .row 59 [.d (D.i .u8 x0.op), .n g, .n j, .n 0, .n p, .n w, .n x], .row 238 [.pt 2 0], .lp f [.pt 0 0] .busy none, .row 231 [.d (D.s e.1.name), .d (D.s e.1.fields)], .row 240 [.fn (.func 206) [] [.pt 7 0], .fn (.func 207) [] [.pt 7 0], .n ((f189 B).1), .n ((f189 B).2)], .row 204 [.pt 2 3], .row 240 [.fn (.func 206) [] [.pt 7 0], .fn (.func 207) [] [.pt 7 0], .n 0, .n 0], .row 240 [.fn (.func 206) [] [.pt 7 0], .fn (.func 207) [] [.pt 7 0], .n ((f189 B).1), .n ((f189 B).2)]])) q q q q q ?_ (Zw q) q q ?_
 refine cI func207 λ_ _ _ _=>?_
 exact Rcl 4 q (sS Z6 s3 Z2 (Rlx 1 q (eO (aH (fO q) ⟨h,Zl,⟨Zp,Zp,Zp,Zp,⟨q,Zs _,q,q⟩,Zp,Zp,Zp,Zp,Zp,Zt⟩⟩))))
 rintro rv st1 ⟨h,hr,hst⟩
 subst hW
 dsimp only at h
 exact WL.cast 60 q hr (WL.weak hst (WL.nil (Rxx 1 q (eb f6 q (.inr (⟨h,q,⟨Zp,Zp,Zp,Zp,⟨q,Zs _,q,q⟩,Zp,Zp,Zp,Zp,Zp,Zt⟩⟩))))))
 rintro rv st1 (⟨h,rfl,hst⟩|⟨h,rfl,hst⟩)
 subst hP
 dsimp only at h
 exact WL.weak hst (Rl 1 q (Zn (bN q (Rcx 5 q (aH (fO q) (.inr (.inr (.inl ⟨g,j,k,p,w,x,e.1.name,e.1.fields,((f189 B).1),((f189 B).2),((f189 B).1),((f189 B).2),h,⟨Zp,Zp,Zp,Zp,⟨q,Zs _,q,q⟩,Zp,Zp,Zp,Zp,Zp,Zt⟩⟩))))))))
 subst hR
 dsimp only at h
 exact WL.weak hst (Rl 1 q (Zn (dt q (Rcx 7 q (WE.drop 6 (env':=[(0, .yl 4),(1, .pt 3 0),(18, .l E9 G),(19, .n (List.length G:Int)),(20, .n (IntKind.i64.wrap (H+1)))]) Sb q q (Nat.le_trans (Nat.le_of_eq J) (nbT q)) (Fn7 h))))))
 refine Rcc 6 q (Ci h q (λh=>?_) λh=>?_)
 refine Rcl 4 q ?_
 obtain⟨hX,h0,h⟩:=aL h
 refine WL.inl (us:=[.pt 2 4]) (λrv st'=>(hX ()=some r∧Le rv (.ag [.fn (.func 208) [] [.pt 7 0], .fn (.func 209) [] [.pt 7 0], .n 0, .n 0])∧SLe st' [.row 4 [.d (D.b false)], .row 231 [.d (D.s c.1.name), .d (D.s c.1.fields)], .row 59 [.d (D.i .u8 x0.op), .n g, .n j, .n k, .n p, .n w, .n x], .row 238 [.pt 2 0], .lp f [.pt 0 0] .ready none, .row 231 [.d (D.s e.1.name), .d (D.s e.1.fields)], .row 240 [.d (.v .nilFunc), .d (.v .nilFunc), .n 0, .n 0], .row 102 [.pt 2 4], .row 240 [.fn (.func 208) [] [.pt 7 0], .fn (.func 209) [] [.pt 7 0], .n 0, .n 0]])) q q q q q ?_ (Zw q) q q ?_
 refine cI func188 λ_ _ _ _=>?_
 exact Rcl 2 q (Bx q q q (Al d8 q (Rll 6 q (Zq (ab ph d8 q q) q (sS Z6 di Z2 (Rlx 3 q (aH (rs1 q (cO q q pE di q)) ⟨h,Zl,⟨Zp,Zp,Zp,Zp,⟨q,Zs _,q,q⟩,Zp,Zp,Zp,Zp,Zt⟩⟩)))))))
 rintro rv st1 ⟨h,hr,hst⟩
 subst h0
 dsimp only at h
 refine WL.cast 53 q hr (WL.weak hst (sS Z6 di Z2 (WL.nil (Rxl 5 q ?_))))
 obtain⟨C,h1,h⟩:=ac h
 refine Zq (bH underlying9 q q h1) q (wF Z4 (f189_c) Lw Z3 (Rl 4 q (sS Z6 s2 Z2 (Rl 1 q (sS Z6 s2 Z2 (Rll 6 q ?_))))))
 obtain⟨h2,h3,h⟩:=aL h
 obtain⟨h4,h5,h⟩:=aL h
 refine WL.yield (env0:=[(44, .ag [.fn (.func 208) [] [.pt 7 0], .fn (.func 209) [] [.pt 7 0], .n ((f189 C).1), .n ((f189 C).2)]),(2, .pt 0 0)]) (λrv st'=>(h2 ()=some r∧rv= .d (.v (.bool false))∧SLe st' [.row 4 [.d (D.b false)], .row 231 [.d (D.s c.1.name), .d (D.s c.1.fields)], .row 59 [.d (D.i .u8 x0.op), .n g, .n j, .n k, .n p, .n w, .n x], .row 238 [.pt 2 0], .lp f [.pt 0 0] .done (some .ret), .row 231 [.d (D.s e.1.name), .d (D.s e.1.fields)], .row 240 [.fn (.func 208) [] [.pt 7 0], .fn (.func 209) [] [.pt 7 0], .n ((f189 C).1), .n ((f189 C).2)], .row 102 [.pt 2 4], .row 240 [.fn (.func 208) [] [.pt 7 0], .fn (.func 209) [] [.pt 7 0], .n 0, .n 0], .row 240 [.fn (.func 208) [] [.pt 7 0], .fn (.func 209) [] [.pt 7 0], .n ((f189 C).1), .n ((f189 C).2)]])∨(h4 ()=some r∧rv= .d (.v (.bool true))∧SLe st' [.row 4 [.d (D.b false)], .row 231 [.d (D.s c.1.name), .d (D.s c.1.fields)], .row 59 [.d (D.i .u8 x0.op), .n g, .n j, .n k, .n 0, .n w, .n x], .row 238 [.pt 2 0], .lp f [.pt 0 0] .ready none, .row 231 [.d (D.s e.1.name), .d (D.s e.1.fields)], .row 240 [.fn (.func 208) [] [.pt 7 0], .fn (.func 209) [] [.pt 7 0], .n ((f189 C).1), .n ((f189 C).2)], .row 102 [.pt 2 4], .row 240 [.fn (.func 208) [] [.pt 7 0], .fn (.func 209) [] [.pt 7 0], .n 0, .n 0], .row 240 [.fn (.func 208) [] [.pt 7 0], .fn (.func 209) [] [.pt 7 0], .n ((f189 C).1), .n ((f189 C).2)]])) I q q q q q q q (λee hn f7 kl=>?_) (Zw q) q q ?_
 obtain⟨em,eφ,ew,en,er⟩:=ee
 subst hn
 refine Rcl 1 q (Al d8 q (sS Z6 di Z2 (Rlx 1 q (fL f7 q (Rcl 6 q ?_)))))
 obtain⟨h6,h7,h⟩:=aL h
 refine WL.inl (us:=[.pt 7 0]) (λrv st'=>(h6 ()=some r∧Le rv (.n p)∧SLe st' [.row 4 [.d (D.b false)], .row 231 [.d (D.s c.1.name), .d (D.s c.1.fields)], .row 59 [.d (D.i .u8 x0.op), .n g, .n j, .n k, .n p, .n w, .n x], .row 238 [.pt 2 0], .lp f [.pt 0 0] .busy none, .row 231 [.d (D.s e.1.name), .d (D.s e.1.fields)], .row 240 [.fn (.func 208) [] [.pt 7 0], .fn (.func 209) [] [.pt 7 0], .n ((f189 C).1), .n ((f189 C).2)], .row 102 [.pt 2 4], .row 240 [.fn (.func 208) [] [.pt 7 0], .fn (.func 209) [] [.pt 7 0], .n 0, .n 0], .row 240 [.fn (.func 208) [] [.pt 7 0], .fn (.func 209) [] [.pt 7 0], .n ((f189 C).1), .n ((f189 C).2)]])) q q q q q ?_ (Zw q) q q ?_
 refine cI func208 λ_ _ _ _=>?_
 exact Rcx 14 q (aH (rs1 q (bv q)) ⟨h,Zl,⟨Zp,Zp,Zp,Zp,⟨q,Zs _,q,q⟩,Zp,Zp,Zp,Zp,Zp,Zt⟩⟩)
 rintro rv st1 ⟨h,hr,hst⟩
 subst h7
 dsimp only at h
 refine WL.cast 47 q hr (WL.weak hst (Rl 1 q (Zn (Rcl 7 q ?_))))
 refine OG 5 52 57 5 5 ?_
 refine Rlc 2 q (Ci h q (λh=>?_) λh=>?_)
 exact Rcl 2 q (sS Z6 s4 Z2 (Rlx 5 q (bP f7 q (.inl ⟨h,q,⟨Zp,Zp,Zp,Zp,⟨q,Zs _,q,q⟩,Zp,Zp,Zp,Zp,Zp,Zt⟩⟩))))
 refine Rcl 5 q ?_
 obtain⟨h8,h9,h⟩:=aL h
 refine WL.inl (us:=[.n 0, .pt 7 0]) (λrv st'=>(h8 ()=some r∧Le rv (.tu [])∧SLe st' [.row 4 [.d (D.b false)], .row 231 [.d (D.s c.1.name), .d (D.s c.1.fields)], .row 59 [.d (D.i .u8 x0.op), .n g, .n j, .n k, .n 0, .n w, .n x], .row 238 [.pt 2 0], .lp f [.pt 0 0] .busy none, .row 231 [.d (D.s e.1.name), .d (D.s e.1.fields)], .row 240 [.fn (.func 208) [] [.pt 7 0], .fn (.func 209) [] [.pt 7 0], .n ((f189 C).1), .n ((f189 C).2)], .row 102 [.pt 2 4], .row 240 [.fn (.func 208) [] [.pt 7 0], .fn (.func 209) [] [.pt 7 0], .n 0, .n 0], .row 240 [.fn (.func 208) [] [.pt 7 0], .fn (.func 209) [] [.pt 7 0], .n ((f189 C).1), .n ((f189 C).2)]])) q q q q q ?_ (Zw q) q q ?_
 refine cI func209 λ_ _ _ _=>?_
 exact Rcl 4 q (sS Z6 s2 Z2 (Rlx 1 q (eO (aH (fO q) ⟨h,Zl,⟨Zp,Zp,Zp,Zp,⟨q,Zs _,q,q⟩,Zp,Zp,Zp,Zp,Zp,Zt⟩⟩))))
 rintro rv st1 ⟨h,hr,hst⟩
 subst h9
 dsimp only at h
 exact WL.cast 60 q hr (WL.weak hst (WL.nil (Rxx 1 q (eb f7 q (.inr (⟨h,q,⟨Zp,Zp,Zp,Zp,⟨q,Zs _,q,q⟩,Zp,Zp,Zp,Zp,Zp,Zt⟩⟩))))))
 rintro rv st1 (⟨h,rfl,hst⟩|⟨h,rfl,hst⟩)
 subst h3
 dsimp only at h
 exact WL.weak hst (Rl 1 q (Zn (bN q (Rcx 5 q (aH (fO q) (.inr (.inr (.inr (.inl ⟨g,j,k,p,w,x,e.1.name,e.1.fields,((f189 C).1),((f189 C).2),((f189 C).1),((f189 C).2),h,⟨Zp,Zp,Zp,Zp,⟨q,Zs _,q,q⟩,Zp,Zp,Zp,Zp,Zp,Zt⟩⟩)))))))))
 subst h5
 dsimp only at h
 exact WL.weak hst (Rl 1 q (Zn (dt q (Rcx 7 q (WE.drop 6 (env':=[(0, .yl 4),(1, .pt 3 0),(18, .l E9 G),(19, .n (List.length G:Int)),(20, .n (IntKind.i64.wrap (H+1)))]) Sb q q (Nat.le_trans (Nat.le_of_eq J) (nbT q)) (Fn7 h))))))
 refine Rcc 6 q (Ci h q (λh=>?_) λh=>?_)
 refine Rcl 4 q ?_
 obtain⟨h',ih,h⟩:=aL h
 refine WL.inl (us:=[.pt 2 5]) (λrv st'=>(h' ()=some r∧Le rv (.ag [.fn (.func 208) [] [.pt 7 0], .fn (.func 209) [] [.pt 7 0], .n 0, .n 0])∧SLe st' [.row 4 [.d (D.b false)], .row 231 [.d (D.s c.1.name), .d (D.s c.1.fields)], .row 59 [.d (D.i .u8 x0.op), .n g, .n j, .n k, .n p, .n w, .n x], .row 238 [.pt 2 0], .lp f [.pt 0 0] .ready none, .row 231 [.d (D.s e.1.name), .d (D.s e.1.fields)], .row 240 [.d (.v .nilFunc), .d (.v .nilFunc), .n 0, .n 0], .row 102 [.pt 2 5], .row 240 [.fn (.func 208) [] [.pt 7 0], .fn (.func 209) [] [.pt 7 0], .n 0, .n 0]])) q q q q q ?_ (Zw q) q q ?_
 refine cI func188 λ_ _ _ _=>?_
 exact Rcl 2 q (Bx q q q (Al d8 q (Rll 6 q (Zq (ab ph d8 q q) q (sS Z6 di Z2 (Rlx 3 q (aH (rs1 q (cO q q pE di q)) ⟨h,Zl,⟨Zp,Zp,Zp,Zp,⟨q,Zs _,q,q⟩,Zp,Zp,Zp,Zp,Zt⟩⟩)))))))
 rintro rv st1 ⟨h,hr,hst⟩
 subst ih
 dsimp only at h
 refine WL.cast 59 q hr (WL.weak hst (sS Z6 di Z2 (WL.nil (Rxl 5 q ?_))))
 obtain⟨E,ix,h⟩:=ac h
 refine Zq (bH underlying9 q q ix) q (wF Z4 (f189_c) Lw Z3 (Rl 4 q (sS Z6 s2 Z2 (Rl 1 q (sS Z6 s2 Z2 (Rll 6 q ?_))))))
 obtain⟨iA,iB,h⟩:=aL h
 obtain⟨i0,i1,h⟩:=aL h
 refine WL.yield (env0:=[(44, .ag [.fn (.func 208) [] [.pt 7 0], .fn (.func 209) [] [.pt 7 0], .n ((f189 E).1), .n ((f189 E).2)]),(2, .pt 0 0)]) (λrv st'=>(iA ()=some r∧rv= .d (.v (.bool false))∧SLe st' [.row 4 [.d (D.b false)], .row 231 [.d (D.s c.1.name), .d (D.s c.1.fields)], .row 59 [.d (D.i .u8 x0.op), .n g, .n j, .n k, .n p, .n w, .n x], .row 238 [.pt 2 0], .lp f [.pt 0 0] .done (some .ret), .row 231 [.d (D.s e.1.name), .d (D.s e.1.fields)], .row 240 [.fn (.func 208) [] [.pt 7 0], .fn (.func 209) [] [.pt 7 0], .n ((f189 E).1), .n ((f189 E).2)], .row 102 [.pt 2 5], .row 240 [.fn (.func 208) [] [.pt 7 0], .fn (.func 209) [] [.pt 7 0], .n 0, .n 0], .row 240 [.fn (.func 208) [] [.pt 7 0], .fn (.func 209) [] [.pt 7 0], .n ((f189 E).1), .n ((f189 E).2)]])∨(i0 ()=some r∧rv= .d (.v (.bool true))∧SLe st' [.row 4 [.d (D.b false)], .row 231 [.d (D.s c.1.name), .d (D.s c.1.fields)], .row 59 [.d (D.i .u8 x0.op), .n g, .n j, .n k, .n p, .n 0, .n x], .row 238 [.pt 2 0], .lp f [.pt 0 0] .ready none, .row 231 [.d (D.s e.1.name), .d (D.s e.1.fields)], .row 240 [.fn (.func 208) [] [.pt 7 0], .fn (.func 209) [] [.pt 7 0], .n ((f189 E).1), .n ((f189 E).2)], .row 102 [.pt 2 5], .row 240 [.fn (.func 208) [] [.pt 7 0], .fn (.func 209) [] [.pt 7 0], .n 0, .n 0], .row 240 [.fn (.func 208) [] [.pt 7 0], .fn (.func 209) [] [.pt 7 0], .n ((f189 E).1), .n ((f189 E).2)]])) I q q q q q q q (λee hn gl kn=>?_) (Zw q) q q ?_
 obtain⟨em,eφ,ew,en,er⟩:=ee
 subst hn
 refine Rcl 1 q (Al d8 q (sS Z6 di Z2 (Rlx 1 q (fL gl q (Rcl 6 q ?_)))))
 obtain⟨i2,i3,h⟩:=aL h
 refine WL.inl (us:=[.pt 7 0]) (λrv st'=>(i2 ()=some r∧Le rv (.n w)∧SLe st' [.row 4 [.d (D.b false)], .row 231 [.d (D.s c.1.name), .d (D.s c.1.fields)], .row 59 [.d (D.i .u8 x0.op), .n g, .n j, .n k, .n p, .n w, .n x], .row 238 [.pt 2 0], .lp f [.pt 0 0] .busy none, .row 231 [.d (D.s e.1.name), .d (D.s e.1.fields)], .row 240 [.fn (.func 208) [] [.pt 7 0], .fn (.func 209) [] [.pt 7 0], .n ((f189 E).1), .n ((f189 E).2)], .row 102 [.pt 2 5], .row 240 [.fn (.func 208) [] [.pt 7 0], .fn (.func 209) [] [.pt 7 0], .n 0, .n 0], .row 240 [.fn (.func 208) [] [.pt 7 0], .fn (.func 209) [] [.pt 7 0], .n ((f189 E).1), .n ((f189 E).2)]])) q q q q q ?_ (Zw q) q q ?_
 refine cI func208 λ_ _ _ _=>?_
 exact Rcx 14 q (aH (rs1 q (bv q)) ⟨h,Zl,⟨Zp,Zp,Zp,Zp,⟨q,Zs _,q,q⟩,Zp,Zp,Zp,Zp,Zp,Zt⟩⟩)
 rintro rv st1 ⟨h,hr,hst⟩
 subst i3
 dsimp only at h
 refine WL.cast 47 q hr (WL.weak hst (Rl 1 q (Zn (Rcl 7 q ?_))))
 refine OG 5 52 57 5 5 ?_
 refine Rlc 2 q (Ci h q (λh=>?_) λh=>?_)
 exact Rcl 2 q (sS Z6 s4 Z2 (Rlx 5 q (bP gl q (.inl ⟨h,q,⟨Zp,Zp,Zp,Zp,⟨q,Zs _,q,q⟩,Zp,Zp,Zp,Zp,Zp,Zt⟩⟩))))
 refine Rcl 5 q ?_
 obtain⟨i4,i5,h⟩:=aL h
 refine WL.inl (us:=[.n 0, .pt 7 0]) (λrv st'=>(i4 ()=some r∧Le rv (.tu [])∧SLe st' [.row 4 [.d (D.b false)], .row 231 [.d (D.s c.1.name), .d (D.s c.1.fields)], .row 59 [.d (D.i .u8 x0.op), .n g, .n j, .n k, .n p, .n 0, .n x], .row 238 [.pt 2 0], .lp f [.pt 0 0] .busy none, .row 231 [.d (D.s e.1.name), .d (D.s e.1.fields)], .row 240 [.fn (.func 208) [] [.pt 7 0], .fn (.func 209) [] [.pt 7 0], .n ((f189 E).1), .n ((f189 E).2)], .row 102 [.pt 2 5], .row 240 [.fn (.func 208) [] [.pt 7 0], .fn (.func 209) [] [.pt 7 0], .n 0, .n 0], .row 240 [.fn (.func 208) [] [.pt 7 0], .fn (.func 209) [] [.pt 7 0], .n ((f189 E).1), .n ((f189 E).2)]])) q q q q q ?_ (Zw q) q q ?_
 refine cI func209 λ_ _ _ _=>?_
 exact Rcl 4 q (sS Z6 s2 Z2 (Rlx 1 q (eO (aH (fO q) ⟨h,Zl,⟨Zp,Zp,Zp,Zp,⟨q,Zs _,q,q⟩,Zp,Zp,Zp,Zp,Zp,Zt⟩⟩))))
 rintro rv st1 ⟨h,hr,hst⟩
 subst i5
 dsimp only at h
 exact WL.cast 60 q hr (WL.weak hst (WL.nil (Rxx 1 q (eb gl q (.inr (⟨h,q,⟨Zp,Zp,Zp,Zp,⟨q,Zs _,q,q⟩,Zp,Zp,Zp,Zp,Zp,Zt⟩⟩))))))
 rintro rv st1 (⟨h,rfl,hst⟩|⟨h,rfl,hst⟩)
 subst iB
 dsimp only at h
 exact WL.weak hst (Rl 1 q (Zn (bN q (Rcx 5 q (aH (fO q) (.inr (.inr (.inr (.inr (.inl ⟨g,j,k,p,w,x,e.1.name,e.1.fields,((f189 E).1),((f189 E).2),((f189 E).1),((f189 E).2),h,⟨Zp,Zp,Zp,Zp,⟨q,Zs _,q,q⟩,Zp,Zp,Zp,Zp,Zp,Zt⟩⟩))))))))))
 subst i1
 dsimp only at h
 exact WL.weak hst (Rl 1 q (Zn (dt q (Rcx 7 q (WE.drop 6 (env':=[(0, .yl 4),(1, .pt 3 0),(18, .l E9 G),(19, .n (List.length G:Int)),(20, .n (IntKind.i64.wrap (H+1)))]) Sb q q (Nat.le_trans (Nat.le_of_eq J) (nbT q)) (Fn7 h))))))
 refine Rcl 4 q ?_
 obtain⟨i6,i7,h⟩:=aL h
 refine WL.inl (us:=[.pt 2 6]) (λrv st'=>(i6 ()=some r∧Le rv (.ag [.fn (.func 206) [] [.pt 7 0], .fn (.func 207) [] [.pt 7 0], .n 0, .n 0])∧SLe st' [.row 4 [.d (D.b false)], .row 231 [.d (D.s c.1.name), .d (D.s c.1.fields)], .row 59 [.d (D.i .u8 x0.op), .n g, .n j, .n k, .n p, .n w, .n x], .row 238 [.pt 2 0], .lp f [.pt 0 0] .ready none, .row 231 [.d (D.s e.1.name), .d (D.s e.1.fields)], .row 240 [.d (.v .nilFunc), .d (.v .nilFunc), .n 0, .n 0], .row 204 [.pt 2 6], .row 240 [.fn (.func 206) [] [.pt 7 0], .fn (.func 207) [] [.pt 7 0], .n 0, .n 0]])) q q q q q ?_ (Zw q) q q ?_
 refine cI func187 λ_ _ _ _=>?_
 exact Rcl 2 q (Bx q q q (Al d8 q (Rll 6 q (Zq (ab ph d8 q q) q (sS Z6 di Z2 (Rlx 3 q (aH (rs1 q (cO q q pE di q)) ⟨h,Zl,⟨Zp,Zp,Zp,Zp,⟨q,Zs _,q,q⟩,Zp,Zp,Zp,Zp,Zt⟩⟩)))))))
 rintro rv st1 ⟨h,hr,hst⟩
 subst i7
 dsimp only at h
 refine WL.cast 29 q hr (WL.weak hst (sS Z6 di Z2 (WL.nil (Rxl 5 q ?_))))
 obtain⟨F,i8,h⟩:=ac h
 refine Zq (bH underlying9 q q i8) q (wF Z4 (f189_c) Lw Z3 (Rl 4 q (sS Z6 s2 Z2 (Rl 1 q (sS Z6 s2 Z2 (Rll 6 q ?_))))))
 obtain⟨i9,i',h⟩:=aL h
 obtain⟨js,j1,h⟩:=aL h
 refine WL.yield (env0:=[(44, .ag [.fn (.func 206) [] [.pt 7 0], .fn (.func 207) [] [.pt 7 0], .n ((f189 F).1), .n ((f189 F).2)]),(2, .pt 0 0)]) (λrv st'=>(i9 ()=some r∧rv= .d (.v (.bool false))∧SLe st' [.row 4 [.d (D.b false)], .row 231 [.d (D.s c.1.name), .d (D.s c.1.fields)], .row 59 [.d (D.i .u8 x0.op), .n g, .n j, .n k, .n p, .n w, .n x], .row 238 [.pt 2 0], .lp f [.pt 0 0] .done (some .ret), .row 231 [.d (D.s e.1.name), .d (D.s e.1.fields)], .row 240 [.fn (.func 206) [] [.pt 7 0], .fn (.func 207) [] [.pt 7 0], .n ((f189 F).1), .n ((f189 F).2)], .row 204 [.pt 2 6], .row 240 [.fn (.func 206) [] [.pt 7 0], .fn (.func 207) [] [.pt 7 0], .n 0, .n 0], .row 240 [.fn (.func 206) [] [.pt 7 0], .fn (.func 207) [] [.pt 7 0], .n ((f189 F).1), .n ((f189 F).2)]])∨(js ()=some r∧rv= .d (.v (.bool true))∧SLe st' [.row 4 [.d (D.b false)], .row 231 [.d (D.s c.1.name), .d (D.s c.1.fields)], .row 59 [.d (D.i .u8 x0.op), .n g, .n j, .n k, .n p, .n w, .n 0], .row 238 [.pt 2 0], .lp f [.pt 0 0] .ready none, .row 231 [.d (D.s e.1.name), .d (D.s e.1.fields)], .row 240 [.fn (.func 206) [] [.pt 7 0], .fn (.func 207) [] [.pt 7 0], .n ((f189 F).1), .n ((f189 F).2)], .row 204 [.pt 2 6], .row 240 [.fn (.func 206) [] [.pt 7 0], .fn (.func 207) [] [.pt 7 0], .n 0, .n 0], .row 240 [.fn (.func 206) [] [.pt 7 0], .fn (.func 207) [] [.pt 7 0], .n ((f189 F).1), .n ((f189 F).2)]])) I q q q q q q q (λee hn gm ks=>?_) (Zw q) q q ?_
 obtain⟨em,eφ,ew,en,er⟩:=ee
 subst hn
 refine Rcl 1 q (Al d8 q (sS Z6 di Z2 (Rlx 1 q (fL gm q (Rcl 6 q ?_)))))
 obtain⟨j2,j3,h⟩:=aL h
 refine WL.inl (us:=[.pt 7 0]) (λrv st'=>(j2 ()=some r∧Le rv (.n x)∧SLe st' [.row 4 [.d (D.b false)], .row 231 [.d (D.s c.1.name), .d (D.s c.1.fields)], .row 59 [.d (D.i .u8 x0.op), .n g, .n j, .n k, .n p, .n w, .n x], .row 238 [.pt 2 0], .lp f [.pt 0 0] .busy none, .row 231 [.d (D.s e.1.name), .d (D.s e.1.fields)], .row 240 [.fn (.func 206) [] [.pt 7 0], .fn (.func 207) [] [.pt 7 0], .n ((f189 F).1), .n ((f189 F).2)], .row 204 [.pt 2 6], .row 240 [.fn (.func 206) [] [.pt 7 0], .fn (.func 207) [] [.pt 7 0], .n 0, .n 0], .row 240 [.fn (.func 206) [] [.pt 7 0], .fn (.func 207) [] [.pt 7 0], .n ((f189 F).1), .n ((f189 F).2)]])) q q q q q ?_ (Zw q) q q ?_
 refine cI func206 λ_ _ _ _=>?_
 exact Rcx 14 q (aH (rs1 q (bv q)) ⟨h,Zl,⟨Zp,Zp,Zp,Zp,⟨q,Zs _,q,q⟩,Zp,Zp,Zp,Zp,Zp,Zt⟩⟩)
 rintro rv st1 ⟨h,hr,hst⟩
 subst j3
 dsimp only at h
 refine WL.cast 47 q hr (WL.weak hst (Rl 1 q (Zn (Rcl 7 q ?_))))
 refine OG 5 52 57 5 5 ?_
 refine Rlc 2 q (Ci h q (λh=>?_) λh=>?_)
 exact Rcl 2 q (sS Z6 s4 Z2 (Rlx 5 q (bP gm q (.inl ⟨h,q,⟨Zp,Zp,Zp,Zp,⟨q,Zs _,q,q⟩,Zp,Zp,Zp,Zp,Zp,Zt⟩⟩))))
 refine Rcl 5 q ?_
 obtain⟨j4,j',h⟩:=aL h
 refine WL.inl (us:=[.n 0, .pt 7 0]) (λrv st'=>(j4 ()=some r∧Le rv (.tu [])∧SLe st' [.row 4 [.d (D.b false)], .row 231 [.d (D.s c.1.name), .d (D.s c.1.fields)], .row 59 [.d (D.i .u8 x0.op), .n g, .n j, .n k, .n p, .n w, .n 0], .row 238 [.pt 2 0], .lp f [.pt 0 0] .busy none, .row 231 [.d (D.s e.1.name), .d (D.s e.1.fields)], .row 240 [.fn (.func 206) [] [.pt 7 0], .fn (.func 207) [] [.pt 7 0], .n ((f189 F).1), .n ((f189 F).2)], .row 204 [.pt 2 6], .row 240 [.fn (.func 206) [] [.pt 7 0], .fn (.func 207) [] [.pt 7 0], .n 0, .n 0], .row 240 [.fn (.func 206) [] [.pt 7 0], .fn (.func 207) [] [.pt 7 0], .n ((f189 F).1), .n ((f189 F).2)]])) q q q q q ?_ (Zw q) q q ?_
 refine cI func207 λ_ _ _ _=>?_
 exact Rcl 4 q (sS Z6 s3 Z2 (Rlx 1 q (eO (aH (fO q) ⟨h,Zl,⟨Zp,Zp,Zp,Zp,⟨q,Zs _,q,q⟩,Zp,Zp,Zp,Zp,Zp,Zt⟩⟩))))
 rintro rv st1 ⟨h,hr,hst⟩
 subst j'
 dsimp only at h
 exact WL.cast 60 q hr (WL.weak hst (WL.nil (Rxx 1 q (eb gm q (.inr (⟨h,q,⟨Zp,Zp,Zp,Zp,⟨q,Zs _,q,q⟩,Zp,Zp,Zp,Zp,Zp,Zt⟩⟩))))))
 rintro rv st1 (⟨h,rfl,hst⟩|⟨h,rfl,hst⟩)
 subst i'
 dsimp only at h
 exact WL.weak hst (Rl 1 q (Zn (bN q (Rcx 5 q (aH (fO q) (.inr (.inr (.inr (.inr (.inr (.inl ⟨g,j,k,p,w,x,e.1.name,e.1.fields,((f189 F).1),((f189 F).2),((f189 F).1),((f189 F).2),h,⟨Zp,Zp,Zp,Zp,⟨q,Zs _,q,q⟩,Zp,Zp,Zp,Zp,Zp,Zt⟩⟩)))))))))))
 subst j1
 dsimp only at h
 exact WL.weak hst (Rl 1 q (Zn (dt q (Rcx 7 q (WE.drop 6 (env':=[(0, .yl 4),(1, .pt 3 0),(18, .l E9 G),(19, .n (List.length G:Int)),(20, .n (IntKind.i64.wrap (H+1)))]) Sb q q (Nat.le_trans (Nat.le_of_eq J) (nbT q)) (Fn7 h))))))
 exact Rcx 4 q (eO (aH (fO q) (.inr (.inr (.inr (.inr (.inr (.inr (⟨g,j,k,p,w,x,e.1.name,e.1.fields,h,⟨Zp,Zp,Zp,Zp,⟨q,Zs _,q,q⟩,Zp,Zt⟩⟩)))))))))
 rintro f rv st1 (⟨Q,R,S,T,U,V,W,X,Y,Z,ad,a0,h,hst⟩|⟨a1,a6,a7,a8,a',bb,bk,bs,b0,b1,b2,b3,h,hst⟩|⟨b4,b5,b6,b7,b8,b9,b',ca,cc,cd,ci,cj,h,hst⟩|⟨cl,cn,cp,c0,c1,c2,c3,c4,c5,c6,c7,c8,h,hst⟩|⟨c',dd,df,ds,dS,d0,d1,d',ec,ei,el,eq,h,hst⟩|⟨es,et,ex,ey,e0,e1,e2,e3,e4,e5,e6,e',h,hst⟩|⟨fi,fo,fr,fv,fz,f0,f1,f2,h,hst⟩)
 subst ha
 dsimp only at h
 refine⟨_,_,_,_,_,hst,q,(by intro h;cases h),?_⟩
 refine Rxx 2 q ?_
 obtain rfl:=Oi h
 exact aW (rs1 q (jA q q a4 q)) Zl
 subst hb
 dsimp only at h
 refine⟨_,_,_,_,_,hst,q,(by intro h;cases h),?_⟩
 refine Rxx 2 q ?_
 obtain rfl:=Oi h
 exact aW (rs1 q (jA q q a4 q)) Zl
 subst hc
 dsimp only at h
 refine⟨_,_,_,_,_,hst,q,(by intro h;cases h),?_⟩
 refine Rxx 2 q ?_
 obtain rfl:=Oi h
 exact aW (rs1 q (jA q q a4 q)) Zl
 subst hd
 dsimp only at h
 refine⟨_,_,_,_,_,hst,q,(by intro h;cases h),?_⟩
 refine Rxx 2 q ?_
 obtain rfl:=Oi h
 exact aW (rs1 q (jA q q a4 q)) Zl
 subst he
 dsimp only at h
 refine⟨_,_,_,_,_,hst,q,(by intro h;cases h),?_⟩
 refine Rxx 2 q ?_
 obtain rfl:=Oi h
 exact aW (rs1 q (jA q q a4 q)) Zl
 subst hf
 dsimp only at h
 refine⟨_,_,_,_,_,hst,q,(by intro h;cases h),?_⟩
 refine Rxx 2 q ?_
 obtain rfl:=Oi h
 exact aW (rs1 q (jA q q a4 q)) Zl
 subst hg
 dsimp only at h
 refine⟨_,_,_,_,_,hst,q,(by intro h;cases h),?_⟩
 exact Rxx 1 q (cN ⟨_,_,_,_,_,_,_,_,h,Sb,Tv⟩)
 refine Rcl 5 q (Zq (ab p59 z59 q q) q (Zq (mP (xs:=[.int .u8 x0.op, .int .i64 K, .int .i64 L, .int .i64 M, .int .i64 N, .int .i64 O, .int .i64 P]) (ys:=[.int .u8 x0.op, .int .i64 0, .int .i64 0, .int .i64 0, .int .i64 0, .int .i64 0, .int .i64 0]) q59 q (aR (Zs _)) q (aR (Zs _)) q q q) q (sS Z6 s4 Z2 (Rlx 3 q ?_))))
 obtain rfl:=Oi h
 exact aW (rs1 q (jA q q a4 q)) Zl

theorem f100_c(y0:aO):Pu prog 100 [.ag (R59 y0)] (.b (f100 y0)):=by
 generalize h:f100 y0=r
 unfold f100 at h
 refine fI func100 λ_ _=>?_
 exact Rcl 2 q (Bd q q (Zs _) q (Rlx 12 q (FB h)))

theorem f101_c{t0:aV}{a:Int}{n2:Int}{r:Int×Bool}(h:f101 t0 a n2=some r):Pu prog 101 [.ag (R86 t0), .i .i64 a, .i .i64 n2] (.tu [.i .i64 r.1, .b r.2]):=by
 unfold f101 at h
 refine fI func101 λ_ _=>?_
 refine Rcl 2 q (Bd q q (Zs _) q (Rll 10 q ?_))
 apply WL.or 7 (t:=11) (d:=18)
 exact q
 intro k
 exact Rl 4 q (Zy (aa E70 t0.text.tasks e29 q q Zl) q q q (Rl 2 q (WL.nil ⟨q,[_,_,_,_,_,_,_],q,q,q⟩)))
 exact Rn 7 7
 refine Rl 1 q ?_
 refine OG 3 19 22 3 3 ?_
 refine Rl 1 q ?_
 obtain⟨f,g,h⟩:=ac h
 refine Gg 11 23 34 f g (λh=>?_) (λh=>?_) ?_
 exact On 11 11 h
 refine Rl 5 q ?_
 obtain⟨j,c,h⟩:=ac h
 exact Zy (ah e29 q Zl q (af c) (ar dV c) q) q q q (Rl 2 q (Zy (aa E72 j.entries e68 q q Zl) q q q (On 2 11 h)))
 refine Rlc 2 q (Ci h q (λh=>Rcx 8 q (FA h)) λh=>?_)
 exact Rcl 8 q (Ix h e29 dV q Zl q q λm _ h=>(Rl 3 q (Ix h e68 gf q Zl q q λe _ h=>(Rl 1 q (Al z72 q (sS Z6 s72 Z2 (Rll 6 q (Zq (aa E3 e.ins e54 q q Zl) q (Rl 2 q (Zq (aa E3 e.outs e54 q q Zl) q (Rlx 7 q (FA h))))))))))))

theorem f102_c{t0:aV}{p1:Int}{n2:Int}{r:Bool}(h:f102 t0 p1 n2=some r):Pu prog 102 [.ag (R86 t0), .i .i64 p1, .i .i64 n2] (.b r):=by
 unfold f102 at h
 refine fI func102 λ_ _=>?_
 refine Rcl 2 q (Bd q q (Zs _) q (Rll 8 q ?_))
 apply WL.and 7 (t:=9) (d:=16)
 exact q
 intro g
 exact Rl 4 q (Zy (aa E75 t0.text.prots e30 q q Zl) q q q (Rl 2 q (WL.nil ⟨q,[_,_,_,_,_,_,_],q,q,q⟩)))
 exact Rn 7 7
 refine Rl 1 q ?_
 refine AG 3 17 20 3 3 ?_
 refine Rl 1 q ?_
 obtain⟨c,e,h⟩:=ac h
 refine Gg 11 21 32 c e (λh=>?_) (λh=>?_) ?_
 refine Rl 5 q ?_
 obtain⟨f,a,h⟩:=ac h
 exact Zy (ah e30 q Zl q (af a) (ar ge a) q) q q q (Rl 2 q (Zy (aa E80 f.barriers e73 q q Zl) q q q (On 2 11 h)))
 exact On 11 11 h
 exact Rlx 4 q (FA h)

theorem f37_c{t0:aV}{x1:aO}{r:Bool}(h:f37 t0 x1=some r):Pu prog 37 [.ag (R86 t0), .ag (R59 x1)] (.b r):=by
 unfold f37 at h
 refine fI func37 λ_ _=>?_
 refine Rcl 2 q (Bd q q (Zs _) q (Bd q q (Zs _) q (Rll 7 q ?_)))
 obtain⟨L,j,h⟩:=ac h
 refine wF Z4 (f99_c j) Lw Z3 (Rlc 3 q (Ci h q (λh=>?_) λh=>?_))
 exact Rcx 7 q (FA h)
 refine Rcc 10 q (Jn1 (λa=> [(2, .d (.pc (R86 t0))),(3, .d (.pc (R59 x1))),(14, .d (D.i .u8 x1.op)),(15, .d (D.b a))]) (λ_=> []) h (λ_ h=>?_) λa h=>?_)
 exact Rcc 6 q (Ci h q (λh=>Rcx 1 q (En1 h)) λh=>Rcx 4 q (En1 h))
 refine Ci h q (λh=>?_) (λh=>?_)
 refine Rcl 7 q ?_
 obtain⟨M,k,h⟩:=ac h
 exact wF Z4 (f89_c k) Lw Z3 (Rlx 6 q (FA h))
 refine Jn1 (λc=> [(2, .d (.pc (R86 t0))),(3, .d (.pc (R59 x1))),(14, .d (D.i .u8 x1.op)),(24, .d (D.b c))]) (λ_=> []) h (λ_ h=>?_) (λc h=>?_)
 exact Rcc 6 q (Ci h q (λh=>Rcx 1 q (En1 h)) λh=>Rcx 4 q (En1 h))
 refine Ci h q (λh=>?_) (λh=>?_)
 refine Rcl 9 q ?_
 obtain⟨N,p,h⟩:=ac h
 exact wF Z4 (f89_c p) Lw Z3 (Rlx 6 q (FA h))
 refine Jn1 (λe=> [(2, .d (.pc (R86 t0))),(3, .d (.pc (R59 x1))),(14, .d (D.i .u8 x1.op)),(35, .d (D.b e))]) (λ_=> []) h (λ_ h=>?_) (λe h=>?_)
 refine Rcc 6 q (Ci h q (λh=>Rcx 1 q (En1 h)) λh=>?_)
 exact Rcc 6 q (Ci h q (λh=>Rcx 1 q (En1 h)) λh=>Rcx 4 q (En1 h))
 refine Ci h q (λh=>?_) (λh=>?_)
 exact Rcl 5 q (wF Z4 (f47_c) Lw Z3 (Rlx 6 q (FA h)))
 refine Rcc 6 q (Ci h q (λh=>?_) λh=>?_)
 refine Rcl 16 q (Zq (aa E59 t0.text.insns e22 q q Zl) q (Rl 2 q ?_))
 obtain⟨w,x,h⟩:=ac h
 refine Gg 10 56 66 w x (λh=>?_) (λh=>?_) ?_
 refine Rl 6 q ?_
 replace h:=eo h
 obtain⟨y,h⟩:=h
 refine Zy (lj E59 t0.text.insns (l:=x1.to) (h:=(IntKind.i64.wrap (x1.to+x1.m))) e22 q Zl ⟨_,q⟩ ⟨_,q⟩ y λ_=>q) q q q ?_
 obtain⟨O,A,h⟩:=ac h
 exact WL.fn q q q q (f35_c _ _ 100 [] [] (λz0 _ h=>by obtain rfl:=inS h;exact f100_c z0) A) ⟨Zl,(Le.fnc Zt Zt),Zt⟩ (aG q q q) q q (On 2 10 h)
 exact On 10 10 h
 exact Rlx 6 q (FA h)
 refine Rcc 6 q (Ci h q (λh=>Rcx 14 q (FA h)) λh=>?_)
 refine Jn1 (λf=> [(2, .d (.pc (R86 t0))),(3, .d (.pc (R59 x1))),(14, .d (D.i .u8 x1.op)),(75, .d (D.b f))]) (λ_=> []) h (λ_ h=>?_) (λf h=>?_)
 refine Rcc 6 q (Ci h q (λh=>Rcx 1 q (En1 h)) λh=>?_)
 refine Rcc 6 q (Ci h q (λh=>Rcx 1 q (En1 h)) λh=>?_)
 exact Rcc 6 q (Ci h q (λh=>Rcx 1 q (En1 h)) λh=>Rcx 4 q (En1 h))
 refine Ci h q (λh=>?_) (λh=>?_)
 exact Rcl 7 q (Zq (aa E54 t0.text.lists e26 q q Zl) q (Rlx 7 q (FA h)))
 refine Rcc 6 q (Ci h q (λh=>Rcl 7 q (Zq (aa E65 t0.text.selects e25 q q Zl) q (Rlx 7 q (FA h)))) λh=>?_)
 refine Rcc 6 q (Ci h q (λh=>?_) λh=>?_)
 refine Rcl 7 q ?_
 obtain⟨P,B,h⟩:=ac h
 refine wF Z4 (f101_c B) Lw Z3 (Rll 11 q ?_)
 obtain⟨C,E,h⟩:=ac h
 refine Gg 6 108 114 C E (λh=>?_) (λh=>?_) ?_
 refine Rl 4 q ?_
 obtain⟨Q,F,h⟩:=ac h
 exact WL.fn q q q q (f89_c F) Lw (aG q q q) q q (On 1 6 h)
 exact On 6 6 h
 exact Rlx 6 q (FA h)
 refine Rcc 6 q (Ci h q (λh=>?_) λh=>?_)
 refine Rcl 7 q ?_
 obtain⟨R,G,h⟩:=ac h
 refine wF Z4 (f101_c G) Lw Z3 (Rll 11 q ?_)
 apply WL.and 8 (t:=127) (d:=135)
 exact q
 intro S
 exact Rl 5 q (Zy (aa E59 t0.text.insns e22 q q Zl) q q q (Rl 2 q (WL.nil ⟨q,[_,_,_,_,_,_,_,_],q,q,q⟩)))
 exact Rn 8 8
 exact Rlx 6 q (FA h)
 refine Jn1 (λg=> [(2, .d (.pc (R86 t0))),(3, .d (.pc (R59 x1))),(14, .d (D.i .u8 x1.op)),(136, .d (D.b g))]) (λ_=> []) h (λ_ h=>?_) (λg h=>?_)
 exact Rcc 6 q (Ci h q (λh=>Rcx 1 q (En1 h)) λh=>Rcx 4 q (En1 h))
 refine Ci h q (λh=>?_) (λh=>?_)
 exact Rcl 7 q (Zq (aa E75 t0.text.prots e30 q q Zl) q (Rlx 7 q (FA h)))
 refine Rcc 6 q (Ci h q (λh=>?_) λh=>?_)
 refine Rcl 7 q ?_
 obtain⟨T,H,h⟩:=ac h
 exact wF Z4 (f102_c H) Lw Z3 (Rlx 6 q (FA h))
 refine Rcc 6 q (Ci h q (λh=>?_) λh=>?_)
 refine Rcl 6 q ?_
 obtain⟨I,J,h⟩:=ac h
 refine Gg 7 159 166 I J (λh=>?_) (λh=>?_) ?_
 exact On 7 7 h
 refine Rl 5 q ?_
 obtain⟨U,K,h⟩:=ac h
 exact WL.fn q q q q (f102_c K) Lw (aG q q q) q q (On 1 7 h)
 exact Rlx 6 q (FA h)
 exact Rcx 9 q (FA h)

theorem f10_c(t0:ai){r:Bool}(h:f10 t0=some r):Pu prog 10 [.ag (R33 t0)] (.b r):=by
 unfold f10 at h
 refine fI func10 λ_ _=>?_
 refine Rcl 2 q (Bd q q (Zs _) q (Rll 6 q (Zq (ab p86 z86 q q) q (Al z86 q (sS Z6 s86 Z2 (St q (Rll 7 q (Zq (aa E59 t0.insns e22 q q Zl) q (Rl 2 q ?_)))))))))
 apply WL.or 5 (t:=12) (d:=17)
 exact q
 intro N
 exact Rl 2 q (Zy (aa E59 t0.insns e22 q q Zl) q q q (Rl 2 q (WL.nil ⟨q,[_,_,_,_,_],q,q,q⟩)))
 exact Rn 5 5
 refine Rlc 2 q (Ci h q (λh=>Rcx 7 q (FA h)) λh=>?_)
 refine Rcl 9 q (Zq (aa E59 t0.insns e22 q q Zl) q (Rl 1 q (Ix h e22 dc q Zl q q λO _ h=>(Rlc 5 q (Jn1 (λj=> [(1, .d (.pc (R33 t0))),(3, .pt 0 0),(27, .d (D.b j))]) (λ_=> [.row 86 (txA t0)]) h (λ_ h=>?_) λj h=>?_)))))
 refine Rcc 6 q (Ci h q (λh=>Rcx 1 q (En1 h)) λh=>?_)
 refine Rcc 6 q (Ci h q (λh=>Rcx 1 q (En1 h)) λh=>?_)
 exact Rcc 6 q (Ci h q (λh=>Rcx 1 q (En1 h)) λh=>Rcx 4 q (En1 h))
 refine Ci h q (λh=>?_) (λh=>?_)
 refine Rcc 3 q ?_
 refine Jn0 [(1, .d (.pc (R33 t0))),(3, .pt 0 0)] [.row 86 (txA t0), .os 35 1 0 [[.fn (.func 27) [.ag (txA t0)] []],[.fn (.func 28) [.ag (txA t0)] []],[.fn (.func 29) [.ag (txA t0)] []],[.fn (.func 30) [.ag (txA t0)] []],[.fn (.func 31) [.ag (txA t0)] []],[.fn (.func 32) [.ag (txA t0)] []],[.fn (.func 33) [.ag (txA t0)] []],[.fn (.func 34) [.ag (txA t0)] []]]] h (λ_ h=>?_) (λh=>?_)
 refine Rcl 18 q (WL.s ((NewOs.b (ae l87 z35 q dC dC q q q dC)).does) (Zw q) q q (Zq (iL e87 q q q) q (Rlc 4 q (jH 9 (Rcc 6 q (bN q (Rcl 6 q (Zq (aS e87 q q q dC (by show(0:Int)<((8:Nat):Int);decide)) q (Zq (bI q q a35 q) q (Rll 6 q ?_))))))))))
 obtain⟨P,m,h⟩:=ac h
 refine wF Z4 (f27_c m) ⟨(aR (Zs _)),Zt⟩ Z3 (Rlc 3 q (Ci h q (λh=>?_) λh=>?_))
 exact Rcx 8 q (bW (Rxx 2 q (FA h)))
 refine Rcl 4 q (Zq (gg (c:=1) q q dC) q (Rlx 2 q (gh (WC.sub (env':=[(1, .d (.pc (R33 t0))),(3, .pt 0 0),(48, .os 1 0),(49, .n 8),(50, .n 1)]) Sb (Rcc 6 q (bN q (Rcl 6 q (Zq (aS e87 q q q dC (by show(1:Int)<((8:Nat):Int);decide)) q (Zq (bI q q a35 q) q (Rll 6 q ?_))))))))))
 obtain⟨Q,p,h⟩:=ac h
 refine wF Z4 (f28_c p) ⟨(aR (Zs _)),Zt⟩ Z3 (Rlc 3 q (Ci h q (λh=>?_) λh=>?_))
 exact Rcx 8 q (bW (Rxx 2 q (FA h)))
 refine Rcl 4 q (Zq (gg (c:=2) q q dC) q (Rlx 2 q (gh (WC.sub (env':=[(1, .d (.pc (R33 t0))),(3, .pt 0 0),(48, .os 1 0),(49, .n 8),(50, .n 2)]) Sb (Rcc 6 q (bN q (Rcl 6 q (Zq (aS e87 q q q dC (by show(2:Int)<((8:Nat):Int);decide)) q (Zq (bI q q a35 q) q (Rll 6 q ?_))))))))))
 obtain⟨R,w,h⟩:=ac h
 refine wF Z4 (f29_c w) ⟨(aR (Zs _)),Zt⟩ Z3 (Rlc 3 q (Ci h q (λh=>?_) λh=>?_))
 exact Rcx 8 q (bW (Rxx 2 q (FA h)))
 refine Rcl 4 q (Zq (gg (c:=3) q q dC) q (Rlx 2 q (gh (WC.sub (env':=[(1, .d (.pc (R33 t0))),(3, .pt 0 0),(48, .os 1 0),(49, .n 8),(50, .n 3)]) Sb (Rcc 6 q (bN q (Rcl 6 q (Zq (aS e87 q q q dC (by show(3:Int)<((8:Nat):Int);decide)) q (Zq (bI q q a35 q) q (Rll 6 q ?_))))))))))
 obtain⟨S,x,h⟩:=ac h
 refine wF Z4 (f30_c x) ⟨(aR (Zs _)),Zt⟩ Z3 (Rlc 3 q (Ci h q (λh=>?_) λh=>?_))
 exact Rcx 8 q (bW (Rxx 2 q (FA h)))
 refine Rcl 4 q (Zq (gg (c:=4) q q dC) q (Rlx 2 q (gh (WC.sub (env':=[(1, .d (.pc (R33 t0))),(3, .pt 0 0),(48, .os 1 0),(49, .n 8),(50, .n 4)]) Sb (Rcc 6 q (bN q (Rcl 6 q (Zq (aS e87 q q q dC (by show(4:Int)<((8:Nat):Int);decide)) q (Zq (bI q q a35 q) q (Rll 6 q ?_))))))))))
 obtain⟨T,y,h⟩:=ac h
 refine wF Z4 (f31_c y) ⟨(aR (Zs _)),Zt⟩ Z3 (Rlc 3 q (Ci h q (λh=>?_) λh=>?_))
 exact Rcx 8 q (bW (Rxx 2 q (FA h)))
 refine Rcl 4 q (Zq (gg (c:=5) q q dC) q (Rlx 2 q (gh (WC.sub (env':=[(1, .d (.pc (R33 t0))),(3, .pt 0 0),(48, .os 1 0),(49, .n 8),(50, .n 5)]) Sb (Rcc 6 q (bN q (Rcl 6 q (Zq (aS e87 q q q dC (by show(5:Int)<((8:Nat):Int);decide)) q (Zq (bI q q a35 q) q (Rll 6 q ?_))))))))))
 obtain⟨U,A,h⟩:=ac h
 refine wF Z4 (f32_c A) ⟨(aR (Zs _)),Zt⟩ Z3 (Rlc 3 q (Ci h q (λh=>?_) λh=>?_))
 exact Rcx 8 q (bW (Rxx 2 q (FA h)))
 refine Rcl 4 q (Zq (gg (c:=6) q q dC) q (Rlx 2 q (gh (WC.sub (env':=[(1, .d (.pc (R33 t0))),(3, .pt 0 0),(48, .os 1 0),(49, .n 8),(50, .n 6)]) Sb (Rcc 6 q (bN q (Rcl 6 q (Zq (aS e87 q q q dC (by show(6:Int)<((8:Nat):Int);decide)) q (Zq (bI q q a35 q) q (Rll 6 q ?_))))))))))
 obtain⟨V,B,h⟩:=ac h
 refine wF Z4 (f33_c B) ⟨(aR (Zs _)),Zt⟩ Z3 (Rlc 3 q (Ci h q (λh=>?_) λh=>?_))
 exact Rcx 8 q (bW (Rxx 2 q (FA h)))
 refine Rcl 4 q (Zq (gg (c:=7) q q dC) q (Rlx 2 q (gh (WC.sub (env':=[(1, .d (.pc (R33 t0))),(3, .pt 0 0),(48, .os 1 0),(49, .n 8),(50, .n 7)]) Sb (Rcc 6 q (bN q (Rcl 6 q (Zq (aS e87 q q q dC (by show(7:Int)<((8:Nat):Int);decide)) q (Zq (bI q q a35 q) q (Rll 6 q ?_))))))))))
 obtain⟨W,C,h⟩:=ac h
 refine wF Z4 (f34_c C) ⟨(aR (Zs _)),Zt⟩ Z3 (Rlc 3 q (Ci h q (λh=>?_) λh=>?_))
 exact Rcx 8 q (bW (Rxx 2 q (FA h)))
 exact Rcl 4 q (Zq (gg (c:=8) q q dC) q (Rlx 2 q (gh (WC.sub (env':=[(1, .d (.pc (R33 t0))),(3, .pt 0 0),(48, .os 1 0),(49, .n 8),(50, .n 8)]) Sb (Rcc 6 q (dt q (Rcx 2 q (iP (Rxx 1 q (En0 h))))))))))
 refine Rcl 5 q ?_
 obtain⟨E,F,h⟩:=aL h
 refine WL.inl (us:=[.l E59 t0.insns, .fn (.func 36) [] [.pt 0 0]]) (λrv st'=>(∃(e:Bool),E e=some r∧Le rv (.d (D.b e))∧SLe st' [.row 86 (txA t0), .os 35 1 0 [[.fn (.func 27) [.ag (txA t0)] []],[.fn (.func 28) [.ag (txA t0)] []],[.fn (.func 29) [.ag (txA t0)] []],[.fn (.func 30) [.ag (txA t0)] []],[.fn (.func 31) [.ag (txA t0)] []],[.fn (.func 32) [.ag (txA t0)] []],[.fn (.func 33) [.ag (txA t0)] []],[.fn (.func 34) [.ag (txA t0)] []]]])) q q q q q ?_ (Zw q) q q ?_
 refine cI func35 λ_ _ _ X=>?_
 refine Rcl 9 q ?_
 obtain⟨k,G,h⟩:=aL h
 refine WL.inl (us:=[.l E59 t0.insns, .fn (.func 36) [] [.pt 0 0]]) (λrv st'=>(∃(a:Int),k a=some r∧Le rv (.n a)∧SLe st' [.row 86 (txA t0), .os 35 1 0 [[.fn (.func 27) [.ag (txA t0)] []],[.fn (.func 28) [.ag (txA t0)] []],[.fn (.func 29) [.ag (txA t0)] []],[.fn (.func 30) [.ag (txA t0)] []],[.fn (.func 31) [.ag (txA t0)] []],[.fn (.func 32) [.ag (txA t0)] []],[.fn (.func 33) [.ag (txA t0)] []],[.fn (.func 34) [.ag (txA t0)] []]]])) q q q q q ?_ (Zw q) q q ?_
 refine cI func98 λ_ _ _ Y=>?_
 refine Rcc 5 q ?_
 refine Jn0 [] [.row 86 (txA t0), .os 35 1 0 [[.fn (.func 27) [.ag (txA t0)] []],[.fn (.func 28) [.ag (txA t0)] []],[.fn (.func 29) [.ag (txA t0)] []],[.fn (.func 30) [.ag (txA t0)] []],[.fn (.func 31) [.ag (txA t0)] []],[.fn (.func 32) [.ag (txA t0)] []],[.fn (.func 33) [.ag (txA t0)] []],[.fn (.func 34) [.ag (txA t0)] []]]] h (λH h=>?_) (λh=>?_)
 refine Rcl 3 q (Zq (aa E59 t0.insns e22 q q Zl) q (Rlc 4 q ?_))
 refine Ln1 (λf=> [(0, .l E59 t0.insns),(1, .fn (.func 36) [] [.pt 0 0]),(7, .n (List.length t0.insns:Int)),(8, .n f)]) (λ_=> [.row 86 (txA t0), .os 35 1 0 [[.fn (.func 27) [.ag (txA t0)] []],[.fn (.func 28) [.ag (txA t0)] []],[.fn (.func 29) [.ag (txA t0)] []],[.fn (.func 30) [.ag (txA t0)] []],[.fn (.func 31) [.ag (txA t0)] []],[.fn (.func 32) [.ag (txA t0)] []],[.fn (.func 33) [.ag (txA t0)] []],[.fn (.func 34) [.ag (txA t0)] []]]]) (f10_l1 t0 k H) h (λ_ h=>by rw[f10_l1] at h;cases h) (λn f h=>?_)
 rw[f10_l1] at h
 refine Rcc 6 q (Ci h q (λh=>?_) λh=>?_)
 refine Rcl 15 q (Ix h e22 dc q Zl q q λI _ h=>(Rl 1 q ?_))
 obtain⟨J,K,h⟩:=aL h
 refine WL.inl (us:=[.d (.ag (R59 I)), .pt 0 0]) (λrv st'=>(∃(g:Bool),J g=some r∧Le rv (.d (D.b g))∧SLe st' [.row 86 (txA t0), .os 35 1 0 [[.fn (.func 27) [.ag (txA t0)] []],[.fn (.func 28) [.ag (txA t0)] []],[.fn (.func 29) [.ag (txA t0)] []],[.fn (.func 30) [.ag (txA t0)] []],[.fn (.func 31) [.ag (txA t0)] []],[.fn (.func 32) [.ag (txA t0)] []],[.fn (.func 33) [.ag (txA t0)] []],[.fn (.func 34) [.ag (txA t0)] []]]])) q q q q q ?_ (Zw q) q q ?_
 refine cI func36 λ_ _ _ _=>?_
 refine Rcl 2 q (Bd q q (Zs _) q (Rll 7 q ?_))
 obtain⟨L,M,h⟩:=ac h
 exact wF Z4 (f37_c M) ⟨(aR (Zs _)),Zl,Zt⟩ Z3 (Rlx 5 q (aH (rs1 q (bv q)) ⟨(!L),h,Zl,⟨Zp,Zf,Zt⟩⟩))
 rintro rv st1 ⟨g,h,hr,hst⟩
 subst K
 dsimp only at h
 refine WL.cast 16 q hr (WL.weak hst (Zn (Ci h q (λh=>?_) λh=>?_)))
 exact Rcx 12 q (aH (rs1 q (bv q)) ⟨f,h,Zl,⟨Zp,Zf,Zt⟩⟩)
 exact Rcx 7 q (Fn1 h)
 exact Rcx 4 q (En0 h)
 exact Rcx 6 q (aH (rs1 q (bv q)) ⟨(-1),h,Zl,⟨Zp,Zf,Zt⟩⟩)
 rintro rv st1 ⟨a,h,hr,hst⟩
 subst G
 dsimp only at h
 exact WL.cast 7 q hr (WL.weak hst (Rl 2 q (Zn (Rcx 1 q (aH (rs1 q (bv q)) ⟨(decide (a≥0)),h,Zl,⟨Zp,Zf,Zt⟩⟩)))))
 rintro rv st1 ⟨e,h,hr,hst⟩
 subst F
 dsimp only at h
 exact WL.cast 61 q hr (WL.weak hst (Rl 2 q (Zn (Rcx 1 q (FA h)))))
 exact Rcx 8 q (FA h)

theorem f13_c{t0:ai}{r:lL}(h:f13 t0=some r):Pu prog 13 [.ag (R33 t0)] (.sl (List.map E84 r)):=by
 unfold f13 at h
 refine fI func13 λ_ _=>?_
 refine Rcl 2 q (Bd q q (Zs _) q (Rll 7 q ?_))
 obtain⟨a8,Y,h⟩:=ac h
 refine wF Z4 (f10_c _ Y) Lw Z3 (Rlc 3 q (Ci h q (λh=>?_) λh=>?_))
 exact Rcx 7 q (FA h)
 refine Rcl 6 q (Zq (aa E67 t0.objs e27 q q Zl) q ?_)
 replace h:=eo h
 obtain⟨Z,h⟩:=h
 refine WL.s ((NewOs.b (cW l37 z84 q (Nat.succ_pos _) q q Z)).does) (Zw q) q q (Gh.wl (nm E2 0 2 1 q) (Rlc 3 q ?_))
 replace h:=aL h
 obtain⟨T,ad,h⟩:=h
 refine bQ (λenv' st'=>∃(C:lL),∃(P:Nat),T C=some r∧Sub [(1, .d (.pc (R33 t0))),(3, .os 0 0)] env'∧SLe st' [.os 84 1 0 (aX 1 P (List.length C)), .fam 2 1 P (br E2 C)]) ?_ ?_
 refine Rcl 4 q (Zq (aa E67 t0.objs e27 q q Zl) q (Rlc 4 q (cB (λn env' st'=>∃(c:Int),∃(f:lL),∃(t:Nat),f13_l1 t0 T n c f=some r∧Sub [(1, .d (.pc (R33 t0))),(3, .os 0 0),(17, .l E67 t0.objs),(18, .n (List.length t0.objs:Int)),(19, .n c)] env'∧SLe st' [.os 84 1 0 (aX 1 t (List.length f)), .fam 2 1 t (br E2 f)]) (λn=>n) (Int.toNat ((List.length t0.objs:Int) - 0)+1) ⟨0,(List.replicate (Int.toNat (List.length t0.objs:Int)) ([]:lI)),_,h,(Sx q (Sx q (Sx q (Sx q (Sx q (Sub.nil _)))))),⟨Zf,Zf,Zt⟩⟩ ?_)))
 rintro n F st1 ⟨c,f,t,h,hsub,hst⟩
 rcases n with _|n
 rw[f13_l1] at h;cases h
 rw[f13_l1] at h
 refine WC.sub hsub (WC.weak hst ?_)
 refine Rcc 6 q (Ci h q (λh=>?_) λh=>?_)
 refine Rcc 2 q ?_
 replace h:=aL h
 obtain⟨U,a0,h⟩:=h
 refine bQ (λenv' st'=>∃(J:lL),∃(Q:Nat),U J=some r∧Sub [(1, .d (.pc (R33 t0))),(3, .os 0 0),(17, .l E67 t0.objs),(18, .n (List.length t0.objs:Int)),(19, .n c)] env'∧SLe st' [.os 84 1 0 (aX 1 Q (List.length J)), .fam 2 1 Q (br E2 J)]) ?_ ?_
 refine Rcl 4 q (Ix h e27 bu q Zl q q λa _ h=>(Rl 1 q (Al z67 q (Rl 1 q (sS Z6 s67 Z2 (Rll 8 q ?_))))))
 replace h:=eo h
 obtain⟨a1,h⟩:=h
 refine WL.s ((NewOs.b (NewOs.cast (cW l84 z2 q (Nat.succ_pos _) q q a1) (by exact du (R:=E2) (z:=(0:Int)) q))).does) (Zw q) q q ?_
 obtain⟨a',K,h⟩:=ac h
 refine Zq (eN e37 q q q (af K) (eh K)) q (WL.s0 (mq (i:=c) (n:=List.length f) q q q q s84 (bJ K)) (Zw q) q (Gh.wl (fY (L:=f) (_x:=[]) (x':=(List.replicate (Int.toNat a.size) (0:Int))) (j:=Int.toNat c) 0 1 3 (List.set f (Int.toNat c) (List.replicate (Int.toNat a.size) (0:Int))) q q q q q (bJ K) q) (Rll 5 q ?_)))
 obtain⟨bb,a6,h⟩:=ac h
 refine wF Z4 (f45_c a6) ⟨(aR (Zs _)),Zl,Zt⟩ Z3 (Rlc 3 q (Ci h q (λh=>?_) λh=>?_))
 refine Rcl 4 q ?_
 obtain⟨p,B,h⟩:=ac h
 refine Zq (eN e37 q q q (af B) (eh B)) q (Gh.wl (dJ (L:=(List.set f (Int.toNat c) (List.replicate (Int.toNat a.size) (0:Int)))) (x:=p) (i:=c) 0 1 q q q B) (Zq (d9 (i:=c) q q a84 (bJ B)) q (Zq (ie (bM E2) p e84 q q q) q (Rlx 2 q (km (dK (L0:=(List.set f (Int.toNat c) (List.replicate (Int.toNat a.size) (0:Int)))) (x':=p) 0 1 4 q q q q q (bJ B)) ?_)))))
 refine uk (st':=[.os 84 1 0 (aX 1 (((t+1)+1)+1) (List.length (List.set f (Int.toNat c) (List.replicate (Int.toNat a.size) (0:Int))))), .fam 2 1 (((t+1)+1)+1) (br E2 (List.set f (Int.toNat c) (List.replicate (Int.toNat a.size) (0:Int)))), .row 67 [.n a.size, .n a.lo, .n a.hi, .d (D.b a.ptr), .l E3 a.set_], .z, .z]) (by show([.os 84 1 0 (aX 1 (((t+1)+1)+1) (List.length (List.set (List.set f (Int.toNat c) (List.replicate (Int.toNat a.size) (0:Int))) (Int.toNat c) p))), .fam 2 1 (((t+1)+1)+1) (br E2 (List.set (List.set f (Int.toNat c) (List.replicate (Int.toNat a.size) (0:Int))) (Int.toNat c) p)), .row 67 [.n a.size, .n a.lo, .n a.hi, .d (D.b a.ptr), .l E3 a.set_], .z, .z]:lW)=_;rw[kz B]) (Rxc 2 q ?_)
 refine cB (λna env' st'=>∃(w:Int),∃(g:lL),∃(y:Nat),f13_l2 c U a p na w g=some r∧Sub [(1, .d (.pc (R33 t0))),(3, .os 0 0),(4, .n c),(5, .pt 2 0),(17, .l E67 t0.objs),(18, .n (List.length t0.objs:Int)),(19, .n c),(37, .n (List.length p:Int)),(38, .n w)] env'∧SLe st' [.os 84 1 0 (aX 1 y (List.length g)), .fam 2 1 y (br E2 g), .row 67 [.n a.size, .n a.lo, .n a.hi, .d (D.b a.ptr), .l E3 a.set_], .z, .z]) (λn=>n) (Int.toNat ((List.length p:Int) - 0)+1) ⟨0,(List.set f (Int.toNat c) (List.replicate (Int.toNat a.size) (0:Int))),_,h,(Sx q (Sx q (Sx q (Sx q (Sx q (Sx q (Sx q (Sx q (Sx q (Sub.nil _)))))))))),⟨Zf,Zf,Zp,Zt,Zt,Zt⟩⟩ ?_
 rintro na F st1 ⟨w,g,y,h,hsub,hst⟩
 rcases na with _|na
 rw[f13_l2] at h;cases h
 rw[f13_l2] at h
 refine WC.sub hsub (WC.weak hst ?_)
 refine Rcc 6 q (Ci h q (λh=>?_) λh=>?_)
 refine Rcc 10 q ?_
 obtain⟨M,G,h⟩:=ac h
 obtain⟨bk,V,h⟩:=ac h
 apply RT [_,_,_,_,_,_,_,_, .u] [3,8] [[.os 84 1 0 (List.set (aX 1 (y+1) (List.length g)) (Int.toNat c) [.os 5 0]), .fam 2 1 (y+1) (br E2 (List.set g (Int.toNat c) [])), .row 67 [.n a.size, .n a.lo, .n a.hi, .d (D.b a.ptr), .l E3 a.set_], .z, .z, .os 2 1 0 (eM E2 M)],[.os 84 1 0 (List.set (aX 1 (y+1) (List.length g)) (Int.toNat c) [.os 5 0]), .fam 2 1 (y+1) (br E2 (List.set g (Int.toNat c) [])), .row 67 [.n a.size, .n a.lo, .n a.hi, .d (D.b a.ptr), .l E3 a.set_], .z, .z, .os 2 1 0 (eM E2 (List.set M (Int.toNat w) a.lo))]] [p01 3,p01 4,p20 0 1,p10 2,u01 6,u01 5,u10 5,q20 3 4 1,q20 7 6 1] kR kR q q
 refine Y2 ?_
 refine zo (λ_=>Zq (eN e37 q q q (af G) (eh G)) q (Zd q q q)) ?_
 refine zo (λ_=>Gh.wl (dJ (L:=g) (x:=M) (i:=c) 0 1 q q q G) (Zq (d9 (i:=c) q q a84 (bJ G)) q (Zd q q q))) ?_
 refine X2c ?_
 refine zo (λ_=>Zq (oX e84 q q q V) q (Zd q q q)) ?_
 exact zo (λ_=>WL.s0 (cz (R:=E2) (k:=1) (i:=w) (fo:=0) a.lo q q q q Zl q q q s2 q (λ_=>q) V q q) (Zw q) q (cZ q q)) Zt
 exact km (dK (L0:=g) (x':=(List.set M (Int.toNat w) a.lo)) 0 1 5 q q q q q (bJ G)) (Rxx 6 q (WE.drop 5 (env':=[(1, .d (.pc (R33 t0))),(3, .os 0 0),(4, .n c),(5, .pt 2 0),(17, .l E67 t0.objs),(18, .n (List.length t0.objs:Int)),(19, .n c),(37, .n (List.length p:Int)),(38, .n (IntKind.i64.wrap (w+1)))]) Sb q Kv (Nat.zero_le _) (Fn3 h)))
 exact Rcx 5 q (WE.drop 2 (env':=[(1, .d (.pc (R33 t0))),(3, .os 0 0),(17, .l E67 t0.objs),(18, .n (List.length t0.objs:Int)),(19, .n c)]) Sb q Kv (Nat.zero_le _) (En2 h))
 exact Rcx 2 q (WE.drop 2 (env':=[(1, .d (.pc (R33 t0))),(3, .os 0 0),(17, .l E67 t0.objs),(18, .n (List.length t0.objs:Int)),(19, .n c)]) Sb q Kv (Nat.zero_le _) (En2 h))
 rintro F st1 ⟨J,Q,h,hsub,hst⟩
 subst a0
 dsimp only at h
 refine WC.sub hsub (WC.weak hst ?_)
 exact Rcx 4 q (Fn3 h)
 exact Rcx 4 q (En2 h)
 rintro F st1 ⟨C,P,h,hsub,hst⟩
 subst ad
 dsimp only at h
 refine WC.sub hsub (WC.weak hst ?_)
 replace h:=aL h
 obtain⟨W,a7,h⟩:=h
 refine bQ (λenv' st'=>∃(H:lL),∃(S:Nat),W H=some r∧Sub [(3, .os 0 0)] env'∧SLe st' [.os 84 1 0 (aX 1 S (List.length H)), .fam 2 1 S (br E2 H)]) ?_ ?_
 refine Rcl 4 q (Zq (aa E93 t0.inits e28 q q Zl) q (Rlc 4 q (cB (λn env' st'=>∃(N:Int),∃(m:lL),∃(A:Nat),f13_l3 t0 W n N m=some r∧Sub [(3, .os 0 0),(52, .l E93 t0.inits),(53, .n (List.length t0.inits:Int)),(54, .n N)] env'∧SLe st' [.os 84 1 0 (aX 1 A (List.length m)), .fam 2 1 A (br E2 m)]) (λn=>n) (Int.toNat ((List.length t0.inits:Int) - 0)+1) ⟨0,C,_,h,(Sx q (Sx q (Sx q (Sx q (Sub.nil _))))),⟨Zf,Zf,Zt⟩⟩ ?_)))
 rintro n F st1 ⟨N,m,A,h,hsub,hst⟩
 rcases n with _|n
 rw[f13_l3] at h;cases h
 rw[f13_l3] at h
 refine WC.sub hsub (WC.weak hst ?_)
 refine Rcc 6 q (Ci h q (λh=>?_) λh=>?_)
 refine Rcl 6 q (Ix h e28 dU q Zl q q λe _ h=>(Rl 1 q (Al z93 q (sS Z6 s93 Z2 (Rlc 2 q ?_)))))
 obtain⟨O,I,h⟩:=ac h
 obtain⟨bs,X,h⟩:=ac h
 apply RT [_,_,_,_,_,_,_,_,_,_, .u] [4,10] [[.os 84 1 0 (List.set (aX 1 (A+1) (List.length m)) (Int.toNat e.o) [.os 3 0]), .fam 2 1 (A+1) (br E2 (List.set m (Int.toNat e.o) [])), .row 93 [.n e.o, .n e.slot, .n e.v], .os 2 1 0 (eM E2 O)],[.os 84 1 0 (List.set (aX 1 (A+1) (List.length m)) (Int.toNat e.o) [.os 3 0]), .fam 2 1 (A+1) (br E2 (List.set m (Int.toNat e.o) [])), .row 93 [.n e.o, .n e.slot, .n e.v], .os 2 1 0 (eM E2 (List.set O (Int.toNat e.slot) e.v))]] [p01 3,p01 8,p10 1,p20 0 2,p10 3,u01 8,u10 5,u01 8,u10 7,q20 4 6 1,q20 9 8 1] kR kR q q
 refine Y3 ?_
 refine zo (λ_=>Zq (eN e37 q q q (af I) (eh I)) q (Zd q q q)) ?_
 refine zo (λ_=>Gh.wl (dJ (L:=m) (x:=O) (i:=e.o) 0 1 q q q I) (Zq (d9 (i:=e.o) q q a84 (bJ I)) q (Zd q q q))) ?_
 refine X2d ?_
 refine zo (λ_=>Zq (oX e84 q q q X) q (Zd q q q)) ?_
 exact zo (λ_=>WL.s0 (cz (R:=E2) (k:=1) (i:=e.slot) (fo:=0) e.v q q q q Zl q q q s2 q (λ_=>q) X q q) (Zw q) q (cZ q q)) Zt
 exact km (dK (L0:=m) (x':=(List.set O (Int.toNat e.slot) e.v)) 0 1 3 q q q q q (bJ I)) (Rxx 6 q (WE.drop 2 (env':=[(3, .os 0 0),(52, .l E93 t0.inits),(53, .n (List.length t0.inits:Int)),(54, .n (IntKind.i64.wrap (N+1)))]) Sb q Kv (Nat.zero_le _) (Fn3 h)))
 exact Rcx 4 q (En2 h)
 rintro F st1 ⟨H,S,h,hsub,hst⟩
 subst a7
 dsimp only at h
 refine WC.sub hsub (WC.weak hst ?_)
 refine Rcx 7 q (km (jg (E:=E2) (R':=E2) (L:=H) 0 1 oV q q q) ?_)
 exact WE.freezeX [3,69,2] [] 0 _ q (an gd _) ⟨q,q,q,Zt⟩ Zt (FA h)

theorem f46_c{o0:Obj}{v1:Int}{r:Bool}(h:f46 o0 v1=some r):Pu prog 46 [.ag (R67 o0), .i .i64 v1] (.b r):=by
 unfold f46 at h
 refine fI func46 λ_ _=>?_
 refine Rcl 2 q (Bd q q (Zs _) q (Rlc 11 q (Ci h q (λh=>?_) λh=>?_)))
 refine Rcl 7 q ?_
 refine AG 5 13 18 5 5 ?_
 exact Rlx 5 q (FA h)
 refine Rcc 2 q (Jn0 [(1, .n v1)] [] h (λc h=>?_) λh=>?_)
 refine Rcc 6 q (Ln1 (λa=> [(1, .n v1),(2, .d (.pc (R67 o0))),(5, .n a)]) (λ_=> []) (f46_l1 o0 v1 c) h (λ_ h=>by rw[f46_l1] at h;cases h) λn a h=>?_)
 rw[f46_l1] at h
 refine Rcl 6 q (Zq (aa E3 o0.set_ e54 q q Zl) q (Rlc 3 q (Ci h q (λh=>?_) λh=>?_)))
 refine Rcl 10 q (Ix h e54 d6 q Zl q q λe _ h=>(Rlc 5 q (Ci h q (λh=>?_) λh=>?_)))
 exact Rcx 11 q (FA h)
 exact Rcx 8 q (Fn1 h)
 exact Rcx 4 q (En0 h)
 exact Rcx 8 q (FA h)

theorem f103_c{t0:ai}{o1:Obj}{r:Bool}(h:f103 t0 o1=some r):Pu prog 103 [.ag (R33 t0), .ag (R67 o1)] (.b r):=by
 unfold f103 at h
 refine fI func103 λ_ _=>?_
 refine Rcl 2 q (Bd q q (Zs _) q (Bd q q (Zs _) q (Rll 10 q ?_)))
 refine OG 4 10 14 4 4 ?_
 refine Rl 1 q ?_
 refine OG 6 15 21 6 6 ?_
 refine Rl 1 q ?_
 apply WL.or 10 (t:=22) (d:=32)
 exact q
 intro B
 refine Rl 4 q ?_
 apply WL.and 5 (t:=26) (d:=31)
 exact q
 intro C
 exact Rl 2 q (Zy (aa E3 o1.set_ e54 q q Zl) q q q (Rl 2 q (WL.nil ⟨q,[_,_,_,_,_],q,q,q⟩)))
 exact Rn 5 5
 exact Rn 1 6
 exact Rn 10 10
 refine Rl 1 q ?_
 apply WL.or 13 (t:=33) (d:=46)
 exact q
 intro E
 refine Rl 3 q ?_
 apply WL.and 9 (t:=36) (d:=45)
 exact q
 intro F
 refine Rl 4 q ?_
 refine OG 4 40 44 4 4 ?_
 exact Rn 1 6
 exact Rn 9 9
 exact Rn 1 5
 exact Rn 13 13
 refine Rlc 2 q (Ci h q (λh=>Rcx 7 q (FA h)) λh=>?_)
 refine Rcc 2 q (Jn0 [] [] h (λg h=>?_) λh=>?_)
 refine Rcc 6 q (Ln1 (λa=> [(2, .d (.pc (R33 t0))),(3, .d (.pc (R67 o1))),(5, .n a)]) (λ_=> []) (f103_l1 t0 o1 g) h (λ_ h=>by rw[f103_l1] at h;cases h) λn a h=>?_)
 rw[f103_l1] at h
 refine Rcl 6 q (Zq (aa E3 o1.set_ e54 q q Zl) q (Rlc 3 q (Ci h q (λh=>?_) λh=>?_)))
 refine Rcl 9 q (Ix h e54 d6 q Zl q q λG _ h=>(Rll 9 q ?_))
 apply WL.or 6 (t:=61) (d:=67)
 exact q
 intro H
 exact Rl 3 q (Zy (aa E67 t0.objs e27 q q Zl) q q q (Rl 2 q (WL.nil ⟨q,[_,_,_,_,_,_],q,q,q⟩)))
 exact Rn 6 6
 refine Rl 1 q ?_
 obtain⟨j,k,h⟩:=ac h
 refine Gg 8 68 76 j k (λh=>?_) (λh=>?_) ?_
 exact On 8 8 h
 refine Rl 3 q ?_
 obtain⟨I,c,h⟩:=ac h
 exact Zy (ah e27 q Zl q (af c) (ar bu c) q) q q q (On 4 8 h)
 refine Rl 1 q ?_
 obtain⟨m,p,h⟩:=ac h
 refine Gg 7 77 84 m p (λh=>?_) (λh=>?_) ?_
 exact On 7 7 h
 refine Rl 3 q ?_
 obtain⟨J,e,h⟩:=ac h
 exact Zy (ah e27 q Zl q (af e) (ar bu e) q) q q q (On 3 7 h)
 refine Rl 1 q ?_
 obtain⟨w,x,h⟩:=ac h
 refine Gg 13 85 98 w x (λh=>?_) (λh=>?_) ?_
 exact On 13 13 h
 refine Rl 3 q ?_
 obtain⟨y,A,h⟩:=ac h
 refine Gg 9 88 97 y A (λh=>?_) (λh=>?_) ?_
 refine Rl 4 q ?_
 obtain⟨K,f,h⟩:=ac h
 exact Zy (ah e54 q Zl q (af f) (ar d6 f) q) q q q (On 4 9 h)
 exact On 9 9 h
 exact On 1 5 h
 exact Rlc 2 q (Ci h q (λh=>Rcx 11 q (FA h)) λh=>Rcx 8 q (Fn1 h))
 exact Rcx 4 q (En0 h)
 exact Rcx 6 q (FA h)

theorem f104_c{t0:ai}{o1:Int}{a:Int}{c:Int}{r:Bool}(h:f104 t0 o1 a c=some r):Pu prog 104 [.ag (R33 t0), .i .i64 o1, .i .i64 a, .i .i64 c] (.b r):=by
 unfold f104 at h
 refine fI func104 λ_ _=>?_
 refine Rcl 2 q (Bd q q (Zs _) q (Rll 8 q ?_))
 apply WL.and 6 (t:=11) (d:=17)
 exact q
 intro j
 exact Rl 3 q (Zy (aa E67 t0.objs e27 q q Zl) q q q (Rl 2 q (WL.nil ⟨q,[_,_,_,_,_,_],q,q,q⟩)))
 exact Rn 6 6
 refine Rl 1 q ?_
 refine AG 3 18 21 3 3 ?_
 refine Rl 1 q ?_
 refine AG 3 22 25 3 3 ?_
 refine Rl 1 q ?_
 obtain⟨f,g,h⟩:=ac h
 refine Gg 11 26 37 f g (λh=>?_) (λh=>?_) ?_
 refine Rl 4 q ?_
 obtain⟨k,e,h⟩:=ac h
 exact Zy (ah e27 q Zl q (af e) (ar bu e) q) q q q (On 6 11 h)
 exact On 11 11 h
 exact Rlx 4 q (FA h)

theorem f38_c{t0:ai}{r:Bool}(h:f38 t0=some r):Pu prog 38 [.ag (R33 t0)] (.b r):=by
 unfold f38 at h
 refine fI func38 λ_ _=>?_
 refine Rcl 2 q (Bd q q (Zs _) q (Rll 8 q (Zq (aa E67 t0.objs e27 q q Zl) q (Rl 2 q ?_))))
 refine OG 4 12 16 4 4 ?_
 refine Rl 1 q ?_
 refine OG 4 17 21 4 4 ?_
 refine Rl 1 q ?_
 apply WL.or 5 (t:=22) (d:=27)
 exact q
 intro O
 exact Rl 2 q (Zy (aa E93 t0.inits e28 q q Zl) q q q (Rl 2 q (WL.nil ⟨q,[_,_,_,_,_],q,q,q⟩)))
 exact Rn 5 5
 refine Rlc 2 q (Ci h q (λh=>Rcx 7 q (FA h)) λh=>?_)
 refine Rcc 7 q (Jn1 (λa=> [(1, .d (.pc (R33 t0))),(3, .n a)]) (λ_=> []) h (λG h=>?_) λa h=>?_)
 refine Rcc 6 q (Ln2 (λj k=> [(1, .d (.pc (R33 t0))),(3, .n j),(4, .n k)]) (λ_ _=> []) (f38_l1 t0 G) h (λ_ _ h=>by rw[f38_l1] at h;cases h) λn j k h=>?_)
 rw[f38_l1] at h
 refine Rcl 6 q (Zq (aa E67 t0.objs e27 q q Zl) q (Rlc 3 q (Ci h q (λh=>?_) λh=>?_)))
 refine Rcc 6 q (aw kR kR (Rq 4 q ?_))
 obtain⟨P,m,h⟩:=ac h
 refine WQ.qn (ah e27 q Zl q (af m) (ar bu m) q) q (Rq 1 q ?_)
 obtain⟨Q,H,h⟩:=ac h
 refine WQ.q (YieldsQ.fn q q q q q (f103_c H) Lw) (Zw q) q q (Rq 1 q (WQ.nil (Rxc 1 q (Ci h q (λh=>?_) λh=>?_))))
 exact Rcx 12 q (FA h)
 exact Rcl 7 q (Ix h e27 bu q Zl q q λR _ h=>(Rlx 12 q (Fn2 h)))
 exact Rcx 4 q (En1 h)
 refine Jn0 [(3, .n a)] [] h (λI h=>?_) (λh=>?_)
 refine Rcc 6 q (Ln1 (λc=> [(1, .d (.pc (R33 t0))),(3, .n a),(5, .n c)]) (λ_=> []) (f38_l2 t0 I) h (λ_ h=>by rw[f38_l2] at h;cases h) λn c h=>?_)
 rw[f38_l2] at h
 refine Rcl 6 q (Zq (aa E93 t0.inits e28 q q Zl) q (Rlc 3 q (Ci h q (λh=>?_) λh=>?_)))
 refine Rcc 2 q (Jn3 (λ_ _ _=> [(1, .d (.pc (R33 t0))),(3, .n a),(5, .n c)]) (λp w x=> [.row 93 [.n p, .n w, .n x]]) h (λJ h=>?_) λp w x h=>?_)
 refine Rcl 6 q (Ix h e28 dU q Zl q q λe _ h=>(Rl 1 q (Al z93 q (sS Z6 s93 Z2 (Rlc 4 q (aw kR kR (Rq 5 q ?_)))))))
 obtain⟨S,K,h⟩:=ac h
 refine WQ.q (YieldsQ.fn q q q q q (f104_c K) Lw) (Zw q) q q (Rq 2 q ?_)
 obtain⟨L,y,h⟩:=ac h
 apply WQ.grp 11 (t:=70) (d:=81) (z:=L)
 exact q
 intro f
 have h:=cX y f
 refine Rq 11 q ?_
 obtain rfl:=Oi h
 exact WQ.nil ⟨[_,_,_,_,_,_,_,_,_,_,_],q,q,q⟩
 intro f
 have h:=cY y f
 refine Rq 4 q ?_
 obtain⟨T,A,h⟩:=ac h
 refine WQ.qy (ah e27 q Zl q (af A) (ar bu A) q) q q q (Rq 3 q ?_)
 obtain⟨U,M,h⟩:=ac h
 refine WQ.q (YieldsQ.fn q q q q q (f46_c M) Lw) (aG q q q) q q (Rq 2 q ?_)
 obtain rfl:=Oi h
 exact WQ.nil ⟨[_,_,_,_,_,_,_,_,_,_,_],q,q,q⟩
 refine WQ.nil (Rxc 1 q (Ci h q (λh=>?_) λh=>?_))
 exact Rcx 12 q (FA h)
 refine Rcc 8 q (Ln1 (λB=> [(1, .d (.pc (R33 t0))),(3, .n a),(5, .n c),(6, .pt 0 0),(7, .n B)]) (λ_=> [.row 93 [.n e.o, .n e.slot, .n e.v]]) (f38_l3 t0 c J e) h (λ_ h=>by rw[f38_l3] at h;cases h) λna B h=>?_)
 rw[f38_l3] at h
 refine Rcc 8 q (Ci h q (λh=>?_) λh=>?_)
 refine Rcc 5 q (aw kR kR (Rq 3 q ?_))
 obtain⟨V,C,h⟩:=ac h
 refine WQ.qn (ah e28 q Zl q (af C) (ar dU C) q) q (Rq 6 q ?_)
 obtain⟨N,E,h⟩:=ac h
 apply WQ.grp 10 (t:=96) (d:=106) (z:=N)
 exact q
 intro g
 have h:=cX E g
 refine Rq 3 q ?_
 obtain⟨W,F,h⟩:=ac h
 refine WQ.qy (ah e28 q Zl q (af F) (ar dU F) q) q q q (Rq 6 q ?_)
 obtain rfl:=Oi h
 exact WQ.nil ⟨[_,_,_,_,_,_,_,_,_,_],q,q,q⟩
 intro g
 have h:=cY E g
 refine Rq 10 q ?_
 obtain rfl:=Oi h
 exact WQ.nil ⟨[_,_,_,_,_,_,_,_,_,_],q,q,q⟩
 refine WQ.nil (Rxc 1 q (Ci h q (λh=>?_) λh=>?_))
 exact Rcx 15 q (FA h)
 exact Rcx 8 q (Fn1 h)
 exact Rcx 5 q (En3 h)
 exact Rcx 5 q (WE.drop 0 (env':=[(1, .d (.pc (R33 t0))),(3, .n a),(5, .n (IntKind.i64.wrap (c+1)))]) Sb q q (Nat.zero_le _) (Fn1 h))
 exact Rcx 4 q (En0 h)
 exact Rcx 8 q (FA h)

theorem f51_c{t0:ai}{a1:Int}:Pu prog 51 [.ag (R33 t0), .i .i64 a1] (.b (f51 t0 a1)):=by
 generalize h:f51 t0 a1=r
 unfold f51 at h
 refine fI func51 λ_ _=>?_
 refine Rcl 2 q (Bd q q (Zs _) q (Rll 8 q ?_))
 apply WL.and 6 (t:=7) (d:=13)
 exact q
 intro a
 exact Rl 3 q (Zy (aa E59 t0.insns e22 q q Zl) q q q (Rl 2 q (WL.nil ⟨q,[_,_,_,_,_,_],q,q,q⟩)))
 exact Rn 6 6
 exact Rlx 4 q (FB h)

theorem f105_c{t0:ai}{l1:lI}{r:Bool}(h:f105 t0 l1=some r):Pu prog 105 [.ag (R33 t0), .sl (List.map E3 l1)] (.b r):=by
 unfold f105 at h
 refine fI func105 λ_ _=>?_
 refine Rcl 2 q (Bd q q (Zs _) q (Rll 7 q (Zq (aa E3 l1 e54 q q Zl) q (Rlc 3 q (Ci h q (λh=>?_) λh=>?_)))))
 exact Rcx 7 q (FA h)
 refine Rcc 2 q (Jn0 [] [] h (λw h=>?_) λh=>?_)
 refine Rcc 6 q (Ln1 (λe=> [(1, .l E3 l1),(2, .d (.pc (R33 t0))),(5, .n e)]) (λ_=> []) (f105_l1 t0 l1 w) h (λ_ h=>by rw[f105_l1] at h;cases h) λn e h=>?_)
 rw[f105_l1] at h
 refine Rcl 5 q (Zq (aa E3 l1 e54 q q Zl) q (Rlc 3 q (Ci h q (λh=>?_) λh=>?_)))
 refine Rcc 5 q (aw kR kR (Rq 2 q ?_))
 obtain⟨A,f,h⟩:=ac h
 refine WQ.qn (ah e54 q Zl q (af f) (ar d6 f) q) q (Rq 3 q ?_)
 obtain⟨x,g,h⟩:=ac h
 apply WQ.grp 9 (t:=20) (d:=29) (z:=x)
 exact q
 intro a
 have h:=cX g a
 refine Rq 9 q ?_
 obtain rfl:=Oi h
 exact WQ.nil ⟨[_,_,_,_,_,_,_,_,_],q,q,q⟩
 intro a
 have h:=cY g a
 refine Rq 2 q ?_
 obtain⟨B,j,h⟩:=ac h
 refine WQ.qy (ah e54 q Zl q (af j) (ar d6 j) q) q q q (Rq 3 q (WQ.qy (aa E67 t0.objs e27 q q Zl) q q q (Rq 2 q ?_)))
 obtain rfl:=Oi h
 exact WQ.nil ⟨[_,_,_,_,_,_,_,_,_],q,q,q⟩
 refine Rq 1 q ?_
 obtain⟨y,k,h⟩:=ac h
 apply WQ.grp 11 (t:=30) (d:=41) (z:=y)
 exact q
 intro c
 have h:=cX k c
 refine Rq 11 q ?_
 obtain rfl:=Oi h
 exact WQ.nil ⟨[_,_,_,_,_,_,_,_,_,_,_],q,q,q⟩
 intro c
 have h:=cY k c
 refine Rq 4 q ?_
 obtain⟨C,m,h⟩:=ac h
 refine WQ.qy (ah e54 q Zl q (af m) (ar d6 m) q) q q q (Rq 1 q ?_)
 obtain⟨E,p,h⟩:=ac h
 refine WQ.qy (ah e27 q Zl q (af p) (ar bu p) q) q q q (Rq 4 q ?_)
 obtain rfl:=Oi h
 exact WQ.nil ⟨[_,_,_,_,_,_,_,_,_,_,_],q,q,q⟩
 refine WQ.nil (Rxc 1 q (Ci h q (λh=>?_) λh=>?_))
 exact Rcx 11 q (FA h)
 exact Rcx 8 q (Fn1 h)
 exact Rcx 4 q (En0 h)
 exact Rcx 6 q (FA h)

theorem f39_c{t0:ai}{r:Bool}(h:f39 t0=some r):Pu prog 39 [.ag (R33 t0)] (.b r):=by
 unfold f39 at h
 refine fI func39 λ_ _=>?_
 refine Rcl 2 q (Bd q q (Zs _) q (Rll 8 q (Zq (aa E70 t0.tasks e29 q q Zl) q (Rl 2 q ?_))))
 apply WL.or 5 (t:=10) (d:=15)
 exact q
 intro F
 exact Rl 2 q (Zy (aa E70 t0.tasks e29 q q Zl) q q q (Rl 2 q (WL.nil ⟨q,[_,_,_,_,_],q,q,q⟩)))
 exact Rn 5 5
 refine Rlc 2 q (Ci h q (λh=>Rcx 7 q (FA h)) λh=>?_)
 refine Rcc 2 q (Jn0 [] [] h (λy h=>?_) λh=>?_)
 refine Rcc 6 q (Ln1 (λc=> [(1, .d (.pc (R33 t0))),(3, .n c)]) (λ_=> []) (f39_l1 t0 y) h (λ_ h=>by rw[f39_l1] at h;cases h) λn c h=>?_)
 rw[f39_l1] at h
 refine Rcl 6 q (Zq (aa E70 t0.tasks e29 q q Zl) q (Rlc 3 q (Ci h q (λh=>?_) λh=>?_)))
 refine Rcc 2 q (Jn4 (λ_ _ _ _=> [(1, .d (.pc (R33 t0))),(3, .n c)]) (λf g j k=> [.row 70 [.n f, .n g, .l E72 j, .n k]]) h (λA h=>?_) λf g j k h=>?_)
 refine Rcl 6 q (Ix h e29 dV q Zl q q λa _ h=>(Rl 1 q (Al z70 q (sS Z6 s70 Z2 (Rll 9 q ?_)))))
 refine OG 4 31 35 4 4 ?_
 refine Rl 1 q ?_
 apply WL.or 6 (t:=36) (d:=42)
 exact q
 intro G
 exact Rl 3 q (WL.fn q q q q (f51_c) Lw (aG q q q) q q (Rl 2 q (WL.nil ⟨q,[_,_,_,_,_,_],q,q,q⟩)))
 exact Rn 6 6
 refine Rl 1 q ?_
 refine OG 4 43 47 4 4 ?_
 refine Rl 1 q ?_
 refine OG 4 48 52 4 4 ?_
 refine Rl 1 q ?_
 apply WL.or 5 (t:=53) (d:=58)
 exact q
 intro H
 exact Rl 2 q (Zy (aa E72 a.entries e68 q q Zl) q q q (Rl 2 q (WL.nil ⟨q,[_,_,_,_,_],q,q,q⟩)))
 exact Rn 5 5
 refine Rlc 2 q (Ci h q (λh=>Rcx 12 q (FA h)) λh=>?_)
 refine Rcc 8 q (Ln1 (λm=> [(1, .d (.pc (R33 t0))),(3, .n c),(4, .pt 0 0),(5, .n m)]) (λ_=> [.row 70 [.n a.prio, .n a.at_, .l E72 a.entries, .n a.deadline]]) (f39_l2 t0 A a) h (λ_ h=>by rw[f39_l2] at h;cases h) λna m h=>?_)
 rw[f39_l2] at h
 refine Rcl 6 q (Zq (aa E72 a.entries e68 q q Zl) q (Rlc 3 q (Ci h q (λh=>?_) λh=>?_)))
 refine Rcc 5 q (aw kR kR (Rq 4 q ?_))
 obtain⟨I,p,h⟩:=ac h
 refine WQ.qn (ah e68 q Zl q (af p) (ar gf p) q) q (Rq 2 q ?_)
 obtain⟨J,B,h⟩:=ac h
 refine WQ.q (YieldsQ.fn q q q q q (f105_c B) Lw) (Zw q) q q (Rq 2 q ?_)
 obtain⟨C,w,h⟩:=ac h
 apply WQ.grp 10 (t:=75) (d:=85) (z:=C)
 exact q
 intro e
 have h:=cX w e
 refine Rq 10 q ?_
 obtain rfl:=Oi h
 exact WQ.nil ⟨[_,_,_,_,_,_,_,_,_,_],q,q,q⟩
 intro e
 have h:=cY w e
 refine Rq 4 q ?_
 obtain⟨K,x,h⟩:=ac h
 refine WQ.qy (ah e68 q Zl q (af x) (ar gf x) q) q q q (Rq 2 q ?_)
 obtain⟨L,E,h⟩:=ac h
 refine WQ.q (YieldsQ.fn q q q q q (f105_c E) Lw) (aG q q q) q q (Rq 2 q ?_)
 obtain rfl:=Oi h
 exact WQ.nil ⟨[_,_,_,_,_,_,_,_,_,_],q,q,q⟩
 refine WQ.nil (Rxc 1 q (Ci h q (λh=>?_) λh=>?_))
 exact Rcx 15 q (FA h)
 exact Rcx 8 q (Fn1 h)
 exact Rcx 5 q (En4 h)
 exact Rcx 5 q (WE.drop 0 (env':=[(1, .d (.pc (R33 t0))),(3, .n (IntKind.i64.wrap (c+1)))]) Sb q q (Nat.zero_le _) (Fn1 h))
 exact Rcx 4 q (En0 h)
 exact Rcx 6 q (FA h)

theorem f21_c{t0:ai}{a1:Int}{r:Bool}(h:f21 t0 a1=some r):Pu prog 21 [.ag (R33 t0), .i .i64 a1] (.b r):=by
 unfold f21 at h
 refine fI func21 λ_ _=>?_
 refine Rcl 2 q (Bd q q (Zs _) q (Rll 7 q (wF Z4 (f51_c) Lw Z3 (Rl 1 q ?_))))
 obtain⟨d,e,h⟩:=ac h
 refine Gg 17 8 25 d e (λh=>?_) (λh=>?_) ?_
 refine Rl 3 q ?_
 obtain⟨j,a,h⟩:=ac h
 refine Zy (ah e22 q Zl q (af a) (ar dc a) q) q q q (Rl 4 q ?_)
 obtain⟨f,g,h⟩:=ac h
 refine Gg 8 16 24 f g (λh=>?_) (λh=>?_) ?_
 exact On 8 8 h
 refine Rl 3 q ?_
 obtain⟨k,c,h⟩:=ac h
 exact Zy (ah e22 q Zl q (af c) (ar dc c) q) q q q (On 4 8 h)
 exact On 1 10 h
 exact On 17 17 h
 exact Rlx 4 q (FA h)

theorem f106s_c(k:ai→Int→au→Int→Int→Option (Int))(t0:ai)(a:Int)(e2:au)(c:Int)(n4:Int)(E:∀(x0:ai)(x1:Int)(x2:au)(x3:Int)(x4:Int)(r:Int),k x0 x1 x2 x3 x4=some r→Pu prog 106 [.ag (R33 x0), .i .i64 x1, .ag (R80 x2), .i .i64 x3, .i .i64 x4] (.i .i64 r)){r:Int}(h:f106s k t0 a e2 c n4=some r):Pu prog 106 [.ag (R33 t0), .i .i64 a, .ag (R80 e2), .i .i64 c, .i .i64 n4] (.i .i64 r):=by
 unfold f106s at h
 refine fI func106 λ_ _=>?_
 refine Rcl 2 q (Bd q q (Zs _) q (Bd q q (Zs _) q (Rll 9 q ?_)))
 refine OG 3 18 21 3 3 ?_
 refine Rlc 2 q (Ci h q (λh=>Rcx 7 q (FA h)) λh=>?_)
 refine Rcl 6 q (Zq (ab p80 z80 q q) q (Al z80 q (sS Z6 s80 Z2 (Rlc 12 q (Jn6 (λm p _ _ _ _=> [(1, .n a),(3, .n c),(4, .n n4),(5, .d (.pc (R33 t0))),(7, .d (.pc (R80 e2))),(11, .pt 0 0),(12, .n m),(13, .d (D.b p))]) (λ_ _ e f g j=> [.row 80 [.d (D.i .u8 e2.kind), .d (D.i .u8 e), .n f, .n g, .n j, .n 0, .n 0, .n 0,sN]]) h (λ_ h=>?_) λm p e f g j h=>?_)))))
 refine Rcc 13 q (Ci h q (λh=>Rcl 4 q (sS Z6 s2 Z2 (Rlx 2 q (En6 h)))) λh=>?_)
 refine Rcc 6 q (Ci h q (λh=>?_) λh=>?_)
 refine Rcl 5 q (sS Z6 s3 Z2 (Rll 7 q (sS Z6 s3 Z2 (Rll 8 q ?_))))
 obtain⟨K,F,h⟩:=ac h
 refine wF Z4 (f104_c F) Lw Z3 (Rl 1 q ?_)
 obtain⟨G,H,h⟩:=ac h
 refine Gg 9 46 55 G H (λh=>?_) (λh=>?_) ?_
 refine Rl 4 q ?_
 obtain⟨L,w,h⟩:=ac h
 exact Zy (ah e27 q Zl q (af w) (ar bu w) q) q q q (On 4 9 h)
 exact On 9 9 h
 exact Rlx 3 q (En6 h)
 refine Rcc 6 q (Ci h q (λh=>?_) λh=>?_)
 refine Rcl 5 q (sS Z6 s2 Z2 (Rll 7 q ?_))
 refine AG 5 64 69 5 5 ?_
 exact Rlx 3 q (En6 h)
 refine Rcc 6 q (Ci h q (λh=>Rcl 3 q (sS Z6 s78 Z2 (Rlx 6 q (En6 h)))) λh=>?_)
 refine Rcc 6 q (Ci h q (λh=>?_) λh=>?_)
 refine Rcl 5 q (sS Z6 s78 Z2 (Rll 12 q ?_))
 refine AG 4 81 85 4 4 ?_
 exact Rlx 3 q (En6 h)
 refine Jn1 (λx=> [(1, .n a),(3, .n c),(4, .n n4),(5, .d (.pc (R33 t0))),(7, .d (.pc (R80 e2))),(11, .pt 0 0),(13, .d (D.b true)),(86, .d (D.b x))]) (λ_=> [.row 80 [.d (D.i .u8 e2.kind), .d (D.i .u8 0), .n 0, .n 0, .n 0, .n 0, .n 0, .n 0,sN]]) h (λ_ h=>?_) (λx h=>?_)
 exact Rcc 6 q (Ci h q (λh=>Rcx 1 q (En1 h)) λh=>Rcx 4 q (En1 h))
 refine Ci h q (λh=>?_) (λh=>?_)
 exact Rcx 4 q (En6 h)
 exact Rcx 8 q (FA h)
 refine Rcl 8 q ?_
 refine AG 6 94 100 6 6 ?_
 refine Rl 1 q ?_
 refine AG 6 101 107 6 6 ?_
 refine Rl 1 q ?_
 refine AG 6 108 114 6 6 ?_
 refine Rl 1 q ?_
 refine AG 4 115 119 4 4 ?_
 refine Rl 1 q ?_
 refine AG 4 120 124 4 4 ?_
 refine Rl 1 q ?_
 refine AG 4 125 129 4 4 ?_
 refine Rll 9 q ?_
 refine OG 3 132 135 3 3 ?_
 refine Rl 1 q ?_
 apply WL.or 6 (t:=136) (d:=142)
 exact q
 intro M
 exact Rl 2 q (Zy (aa E80 e2.l e73 q q Zl) q q q (Rl 3 q (WL.nil ⟨q,[_,_,_,_,_,_],q,q,q⟩)))
 exact Rn 6 6
 refine Rlc 2 q (Ci h q (λh=>Rcx 7 q (FA h)) λh=>?_)
 refine Rcc 9 q (Jn1 (λy=> [(4, .n y)]) (λ_=> [.row 80 [.d (D.i .u8 e2.kind), .d (D.i .u8 e), .n f, .n g, .n j, .n 0, .n 0, .n 0,sN]]) h (λI h=>?_) λy h=>?_)
 refine Rcc 6 q (Ln2 (λA B=> [(1, .n a),(3, .n c),(4, .n A),(5, .d (.pc (R33 t0))),(7, .d (.pc (R80 e2))),(15, .n B)]) (λ_ _=> [.row 80 [.d (D.i .u8 e2.kind), .d (D.i .u8 e), .n f, .n g, .n j, .n 0, .n 0, .n 0,sN]]) (f106s_l1 k t0 a e2 c I) h (λ_ _ h=>by rw[f106s_l1] at h;cases h) λn A B h=>?_)
 rw[f106s_l1] at h
 refine Rcl 6 q (Zq (aa E80 e2.l e73 q q Zl) q (Rl 2 q ?_))
 refine AG 3 150 153 3 3 ?_
 refine Rlc 2 q (Ci h q (λh=>?_) λh=>?_)
 refine Rcc 4 q (aw kR kR (Rq 5 q ?_))
 obtain⟨N,C,h⟩:=ac h
 refine WQ.qn (ah e73 q Zl q (af C) (ar fe C) q) q (Rq 4 q ?_)
 obtain⟨O,J,h⟩:=ac h
 exact WQ.q (YieldsQ.fn q q q q q (E _ _ _ _ _ _ J) Lw) (Zw q) q q (Rq 1 q (WQ.nil (Rxx 7 q (Fn2 h))))
 exact Rcx 4 q (En1 h)
 exact Rcx 7 q (FA h)

theorem f106_c:∀(n:Nat)(x0:ai)(x1:Int)(x2:au)(x3:Int)(x4:Int){r:Int},f106 n x0 x1 x2 x3 x4=some r→Pu prog 106 [.ag (R33 x0), .i .i64 x1, .ag (R80 x2), .i .i64 x3, .i .i64 x4] (.i .i64 r)
 |0,_,_,_,_,_,_,h=>by cases h
 |n+1,x0,x1,x2,x3,x4,_,h=>f106s_c (f106 n) x0 x1 x2 x3 x4 (λx0 x1 x2 x3 x4 _ h=>f106_c n x0 x1 x2 x3 x4 h) h

theorem f40_c{t0:ai}{r:Bool}(h:f40 t0=some r):Pu prog 40 [.ag (R33 t0)] (.b r):=by
 unfold f40 at h
 refine fI func40 λ_ _=>?_
 refine Rcl 2 q (Bd q q (Zs _) q (Rll 8 q (Zq (aa E75 t0.prots e30 q q Zl) q (Rlc 3 q (Ci h q (λh=>?_) λh=>?_)))))
 exact Rcx 7 q (FA h)
 refine Rcc 2 q (Jn0 [(1, .d (.pc (R33 t0)))] [] h (λA h=>?_) λh=>?_)
 refine Rcc 6 q (Ln1 (λc=> [(1, .d (.pc (R33 t0))),(3, .n c)]) (λ_=> []) (f40_l1 t0 A) h (λ_ h=>by rw[f40_l1] at h;cases h) λn c h=>?_)
 rw[f40_l1] at h
 refine Rcl 6 q (Zq (aa E75 t0.prots e30 q q Zl) q (Rlc 3 q (Ci h q (λh=>?_) λh=>?_)))
 refine Rcc 2 q (Jn2 (λ_ _=> [(1, .d (.pc (R33 t0))),(3, .n c)]) (λj k=> [.row 75 [.n j, .l E80 k]]) h (λB h=>?_) λj k h=>?_)
 refine Rcl 6 q (Ix h e30 ge q Zl q q λa _ h=>(Rl 1 q (Al z75 q (sS Z6 s75 Z2 (Rll 9 q ?_)))))
 refine OG 4 27 31 4 4 ?_
 refine Rl 1 q ?_
 apply WL.or 5 (t:=32) (d:=37)
 exact q
 intro I
 exact Rl 2 q (Zy (aa E80 a.barriers e73 q q Zl) q q q (Rl 2 q (WL.nil ⟨q,[_,_,_,_,_],q,q,q⟩)))
 exact Rn 5 5
 refine Rlc 2 q (Ci h q (λh=>Rcx 12 q (FA h)) λh=>?_)
 refine Rcc 8 q (Ln1 (λm=> [(1, .d (.pc (R33 t0))),(3, .n c),(4, .pt 0 0),(5, .n m)]) (λ_=> [.row 75 [.n a.ceiling, .l E80 a.barriers]]) (f40_l2 t0 B a) h (λ_ h=>by rw[f40_l2] at h;cases h) λna m h=>?_)
 rw[f40_l2] at h
 refine Rcl 6 q (Zq (aa E80 a.barriers e73 q q Zl) q (Rlc 3 q (Ci h q (λh=>?_) λh=>?_)))
 refine Rcc 5 q (aw kR kR (Rq 3 q (WQ.qn (aa E80 a.barriers e73 q q Zl) q (Rq 3 q ?_))))
 obtain⟨J,p,h⟩:=ac h
 refine WQ.qn (ah e73 q Zl q (af p) (ar fe p) q) q (Rq 1 q ?_)
 obtain⟨K,C,h⟩:=ac h
 refine WQ.q (YieldsQ.fn q q q q q (f106_c 67 _ _ _ _ _ C) Lw) (Zw q) q q (Rq 1 q (WQ.nil (Rxc 1 q (Ci h q (λh=>?_) λh=>?_))))
 exact Rcx 15 q (FA h)
 exact Rcx 8 q (Fn1 h)
 exact Rcx 5 q (En2 h)
 exact Rcx 5 q (WE.drop 0 (env':=[(1, .d (.pc (R33 t0))),(3, .n (IntKind.i64.wrap (c+1)))]) Sb q q (Nat.zero_le _) (Fn1 h))
 exact Rcx 4 q (En0 h)
 refine Jn0 [] [] h (λE h=>?_) (λh=>?_)
 refine Rcc 6 q (Ln1 (λe=> [(1, .d (.pc (R33 t0))),(6, .n e)]) (λ_=> []) (f40_l3 t0 E) h (λ_ h=>by rw[f40_l3] at h;cases h) λn e h=>?_)
 rw[f40_l3] at h
 refine Rcl 6 q (Zq (aa cM t0.checks e31 q q Zl) q (Rlc 3 q (Ci h q (λh=>?_) λh=>?_)))
 refine Rcl 9 q (Ix h e31 ld q Zl q q λL _ h=>(Rl 1 q (Al z121 q (sS Z6 s121 Z2 (Rlc 3 q (aw kR kR (Rq 3 q ?_)))))))
 obtain⟨M,F,h⟩:=ac h
 refine WQ.q (YieldsQ.fn q q q q q (f21_c F) Lw) (Zw q) q q (Rq 2 q ?_)
 obtain⟨G,w,h⟩:=ac h
 apply WQ.grp 15 (t:=73) (d:=88) (z:=G)
 exact q
 intro f
 have h:=cX w f
 refine Rq 15 q ?_
 obtain rfl:=Oi h
 exact WQ.nil ⟨[_,_,_,_,_,_,_,_,_,_,_,_,_,_,_],q,q,q⟩
 intro f
 have h:=cY w f
 refine Rq 3 q ?_
 obtain⟨H,x,h⟩:=ac h
 apply WQ.grp 11 (t:=76) (d:=87) (z:=H)
 exact q
 intro g
 have h:=cX x g
 refine Rq 4 q ?_
 obtain⟨N,y,h⟩:=ac h
 refine WQ.qy (ah e31 q Zl q (af y) (ar ld y) q) q q q (Rq 6 q ?_)
 obtain rfl:=Oi h
 exact WQ.nil ⟨[_,_,_,_,_,_,_,_,_,_,_],q,q,q⟩
 intro g
 have h:=cY x g
 refine Rq 11 q ?_
 obtain rfl:=Oi h
 exact WQ.nil ⟨[_,_,_,_,_,_,_,_,_,_,_],q,q,q⟩
 refine Rq 1 q ?_
 obtain rfl:=Oi h
 exact WQ.nil ⟨[_,_,_,_,_],q,q,q⟩
 refine Rq 1 q ?_
 apply WQ.or 4 (t:=89) (d:=93)
 exact q
 intro O
 exact Rq 4 q (WQ.nil ⟨[_,_,_,_],q,q,q⟩)
 exact Rq 4 q (WQ.nil ⟨[_,_,_,_],q,q,q⟩)
 refine Rq 1 q ?_
 apply WQ.or 4 (t:=94) (d:=98)
 exact q
 intro P
 exact Rq 4 q (WQ.nil ⟨[_,_,_,_],q,q,q⟩)
 exact Rq 4 q (WQ.nil ⟨[_,_,_,_],q,q,q⟩)
 refine WQ.nil (Rxc 1 q (Ci h q (λh=>?_) λh=>?_))
 exact Rcx 11 q (FA h)
 exact Rcx 8 q (WE.drop 0 (env':=[(1, .d (.pc (R33 t0))),(6, .n (IntKind.i64.wrap (e+1)))]) Sb q q (Nat.zero_le _) (Fn1 h))
 exact Rcx 4 q (En0 h)
 exact Rcx 6 q (FA h)

theorem f107_c{t0:ai}{a:Int}{a2:gc}{r:Bool}(h:f107 t0 a a2=some r):Pu prog 107 [.ag (R33 t0), .i .i64 a, .ag (nD a2)] (.b r):=by
 unfold f107 at h
 refine fI func107 λ_ _=>?_
 refine Rcl 2 q (Bd q q (Zs _) q (Bd q q (Zs _) q (Rll 9 q (wF Z4 (f51_c) Lw Z3 (Rl 2 q ?_)))))
 obtain⟨e,f,h⟩:=ac h
 refine Gg 12 12 24 e f (λh=>?_) (λh=>?_) ?_
 exact On 12 12 h
 refine Rl 4 q ?_
 obtain⟨g,j,h⟩:=ac h
 refine Gg 7 16 23 g j (λh=>?_) (λh=>?_) ?_
 refine Rl 4 q ?_
 obtain⟨w,k,h⟩:=ac h
 exact WL.fn q q q q (f104_c k) Lw (aG q q q) q q (On 2 7 h)
 exact On 7 7 h
 exact On 1 6 h
 refine Rlc 2 q (Ci h q (λh=>Rcx 7 q (FA h)) λh=>?_)
 refine Rcc 16 q (Ci h q (λh=>?_) λh=>?_)
 refine Rcl 6 q ?_
 refine AG 4 32 36 4 4 ?_
 refine Rl 1 q ?_
 refine AG 4 37 41 4 4 ?_
 exact Rlx 6 q (FA h)
 refine Jn1 (λc=> [(1, .n a),(3, .d (.pc (R33 t0))),(5, .d (.pc (nD a2))),(42, .d (D.b c))]) (λ_=> []) h (λ_ h=>?_) (λc h=>?_)
 exact Rcc 6 q (Ci h q (λh=>Rcx 1 q (En1 h)) λh=>Rcx 4 q (En1 h))
 refine Ci h q (λh=>?_) (λh=>?_)
 refine Rcl 6 q ?_
 obtain⟨m,p,h⟩:=ac h
 refine Gg 6 48 54 m p (λh=>?_) (λh=>?_) ?_
 refine Rl 4 q ?_
 obtain⟨x,t,h⟩:=ac h
 exact WL.fn q q q q (f104_c t) Lw (aG q q q) q q (On 1 6 h)
 exact On 6 6 h
 exact Rlx 6 q (FA h)
 refine Rcl 9 q ?_
 refine AG 4 58 62 4 4 ?_
 refine Rl 1 q ?_
 refine AG 4 63 67 4 4 ?_
 exact Rlx 4 q (FA h)

theorem f41_c{t0:ai}{r:Bool}(h:f41 t0=some r):Pu prog 41 [.ag (R33 t0)] (.b r):=by
 unfold f41 at h
 refine fI func41 λ_ _=>?_
 refine Rcl 2 q (Bd q q (Zs _) q (Rll 8 q (Zq (aa E65 t0.selects e25 q q Zl) q (Rl 2 q ?_))))
 apply WL.or 5 (t:=14) (d:=19)
 exact q
 intro Q
 exact Rl 2 q (Zy (aa E54 t0.lists e26 q q Zl) q q q (Rl 2 q (WL.nil ⟨q,[_,_,_,_,_],q,q,q⟩)))
 exact Rn 5 5
 refine Rlc 2 q (Ci h q (λh=>Rcx 7 q (FA h)) λh=>?_)
 refine Rcc 2 q (Jn0 [(1, .d (.pc (R33 t0)))] [] h (λG h=>?_) λh=>?_)
 refine Rcc 6 q (Ln1 (λf=> [(1, .d (.pc (R33 t0))),(3, .n f)]) (λ_=> []) (f41_l1 t0 G) h (λ_ h=>by rw[f41_l1] at h;cases h) λn f h=>?_)
 rw[f41_l1] at h
 refine Rcl 6 q (Zq (aa E65 t0.selects e25 q q Zl) q (Rlc 3 q (Ci h q (λh=>?_) λh=>?_)))
 refine Rcc 2 q (Jn3 (λ_ _ _=> [(1, .d (.pc (R33 t0))),(3, .n f)]) (λk m p=> [.row 65 [.l dW k, .n m, .n p]]) h (λH h=>?_) λk m p h=>?_)
 refine Rcl 6 q (Ix h e25 nF q Zl q q λa _ h=>(Rl 1 q (Al z65 q (sS Z6 s65 Z2 (Rll 7 q (Zq (aa dW a.alts e63 q q Zl) q (Rl 2 q ?_)))))))
 apply WL.or 5 (t:=36) (d:=41)
 exact q
 intro R
 exact Rl 2 q (Zy (aa dW a.alts e63 q q Zl) q q q (Rl 2 q (WL.nil ⟨q,[_,_,_,_,_],q,q,q⟩)))
 exact Rn 5 5
 refine Rl 1 q ?_
 obtain⟨I,J,h⟩:=ac h
 refine Gg 6 42 48 I J (λh=>?_) (λh=>?_) ?_
 exact On 6 6 h
 refine Rl 3 q ?_
 obtain⟨S,K,h⟩:=ac h
 exact WL.fn q q q q (f104_c K) Lw (aG q q q) q q (On 2 6 h)
 refine Rl 1 q ?_
 apply WL.or 11 (t:=49) (d:=60)
 exact q
 intro T
 refine Rl 4 q ?_
 apply WL.and 6 (t:=53) (d:=59)
 exact q
 intro U
 exact Rl 3 q (WL.fn q q q q (f51_c) Lw (aG q q q) q q (Rl 2 q (WL.nil ⟨q,[_,_,_,_,_,_],q,q,q⟩)))
 exact Rn 6 6
 exact Rn 1 6
 exact Rn 11 11
 refine Rlc 2 q (Ci h q (λh=>Rcx 12 q (FA h)) λh=>?_)
 refine Rcc 8 q (Ln1 (λw=> [(1, .d (.pc (R33 t0))),(3, .n f),(4, .pt 0 0),(5, .n w)]) (λ_=> [.row 65 [.l dW a.alts, .n a.obj, .n a.else_]]) (f41_l2 t0 H a) h (λ_ h=>by rw[f41_l2] at h;cases h) λna w h=>?_)
 rw[f41_l2] at h
 refine Rcl 6 q (Zq (aa dW a.alts e63 q q Zl) q (Rlc 3 q (Ci h q (λh=>?_) λh=>?_)))
 refine Rcc 5 q (aw kR kR (Rq 6 q ?_))
 obtain⟨V,x,h⟩:=ac h
 refine WQ.qn (ah e63 q Zl q (af x) (ar oW x) q) q (Rq 1 q ?_)
 obtain⟨W,L,h⟩:=ac h
 refine WQ.q (YieldsQ.fn q q q q q (f107_c L) Lw) (Zw q) q q (Rq 1 q (WQ.nil (Rxc 1 q (Ci h q (λh=>?_) λh=>?_))))
 exact Rcx 15 q (FA h)
 exact Rcx 8 q (Fn1 h)
 exact Rcx 5 q (En3 h)
 exact Rcx 5 q (WE.drop 0 (env':=[(1, .d (.pc (R33 t0))),(3, .n (IntKind.i64.wrap (f+1)))]) Sb q q (Nat.zero_le _) (Fn1 h))
 exact Rcx 4 q (En0 h)
 refine Jn0 [] [] h (λM h=>?_) (λh=>?_)
 refine Rcc 6 q (Ln1 (λe=> [(1, .d (.pc (R33 t0))),(6, .n e)]) (λ_=> []) (f41_l3 t0 M) h (λ_ h=>by rw[f41_l3] at h;cases h) λn e h=>?_)
 rw[f41_l3] at h
 refine Rcl 6 q (Zq (aa E54 t0.lists e26 q q Zl) q (Rlc 3 q (Ci h q (λh=>?_) λh=>?_)))
 refine Rcc 2 q (Jn0 [(1, .d (.pc (R33 t0))),(6, .n e)] [] h (λN h=>?_) λh=>?_)
 refine Rcl 6 q (Ix h e26 nG q Zl q q λc _ h=>(Rll 8 q (Zq (aa E3 c e54 q q Zl) q (Rlc 3 q (Ci h q (λh=>?_) λh=>?_)))))
 exact Rcx 12 q (FA h)
 refine Rcc 8 q (Ln1 (λg=> [(1, .d (.pc (R33 t0))),(6, .n e),(7, .l E3 c),(8, .n g)]) (λ_=> []) (f41_l4 t0 N c) h (λ_ h=>by rw[f41_l4] at h;cases h) λna g h=>?_)
 rw[f41_l4] at h
 refine Rcl 5 q (Zq (aa E3 c e54 q q Zl) q (Rlc 3 q (Ci h q (λh=>?_) λh=>?_)))
 refine Rcc 2 q (Jn0 [(1, .d (.pc (R33 t0))),(6, .n e),(7, .l E3 c),(8, .n g)] [] h (λO h=>?_) λh=>?_)
 refine Rcc 3 q (aw kR kR (Rq 2 q ?_))
 obtain⟨X,y,h⟩:=ac h
 refine WQ.qn (ah e54 q Zl q (af y) (ar d6 y) q) q (Rq 3 q ?_)
 obtain⟨P,A,h⟩:=ac h
 apply WQ.grp 9 (t:=104) (d:=113) (z:=P)
 exact q
 intro j
 have h:=cX A j
 refine Rq 9 q ?_
 obtain rfl:=Oi h
 exact WQ.nil ⟨[_,_,_,_,_,_,_,_,_],q,q,q⟩
 intro j
 have h:=cY A j
 refine Rq 2 q ?_
 obtain⟨Y,B,h⟩:=ac h
 refine WQ.qy (ah e54 q Zl q (af B) (ar d6 B) q) q q q (Rq 3 q (WQ.qy (aa E70 t0.tasks e29 q q Zl) q q q (Rq 2 q ?_)))
 obtain rfl:=Oi h
 exact WQ.nil ⟨[_,_,_,_,_,_,_,_,_],q,q,q⟩
 refine WQ.nil (Rxc 1 q (Ci h q (λh=>?_) λh=>?_))
 exact Rcx 16 q (FA h)
 refine Rcc 8 q (Ln1 (λC=> [(1, .d (.pc (R33 t0))),(6, .n e),(7, .l E3 c),(8, .n g),(9, .n C)]) (λ_=> []) (f41_l5 c g O) h (λ_ h=>by rw[f41_l5] at h;cases h) λnb C h=>?_)
 rw[f41_l5] at h
 refine Rcc 8 q (Ci h q (λh=>?_) λh=>?_)
 refine Rcc 5 q (aw kR kR (Rq 2 q ?_))
 obtain⟨Z,E,h⟩:=ac h
 refine WQ.qn (ah e54 q Zl q (af E) (ar d6 E) q) q (Rq 3 q ?_)
 obtain⟨ad,F,h⟩:=ac h
 refine WQ.qn (ah e54 q Zl q (af F) (ar d6 F) q) q (Rq 2 q (WQ.nil (Rxc 1 q (Ci h q (λh=>?_) λh=>?_))))
 exact Rcx 19 q (FA h)
 exact Rcx 8 q (Fn1 h)
 exact Rcx 5 q (En0 h)
 exact Rcx 5 q (Fn1 h)
 exact Rcx 5 q (En0 h)
 exact Rcx 5 q (Fn1 h)
 exact Rcx 4 q (En0 h)
 exact Rcx 6 q (FA h)

theorem f42_c{t0:ai}{r:Bool}(h:f42 t0=some r):Pu prog 42 [.ag (R33 t0)] (.b r):=by
 unfold f42 at h
 refine fI func42 λ_ _=>?_
 refine Rcl 2 q (Bd q q (Zs _) q (Rll 8 q (Zq (aa E83 t0.handlers e23 q q Zl) q (Rlc 3 q (Ci h q (λh=>?_) λh=>?_)))))
 exact Rcx 7 q (FA h)
 refine Rcc 2 q (Jn0 [] [] h (λm h=>?_) λh=>?_)
 refine Rcc 6 q (Ln1 (λa=> [(1, .d (.pc (R33 t0))),(3, .n a)]) (λ_=> []) (f42_l1 t0 m) h (λ_ h=>by rw[f42_l1] at h;cases h) λn a h=>?_)
 rw[f42_l1] at h
 refine Rcl 6 q (Zq (aa E83 t0.handlers e23 q q Zl) q (Rlc 3 q (Ci h q (λh=>?_) λh=>?_)))
 refine Rcc 2 q (Jn4 (λ_ _ _ _=> [(1, .d (.pc (R33 t0))),(3, .n a)]) (λf g j k=> [.row 83 [.n f, .n g, .n j, .d (D.b k)]]) h (λp h=>?_) λf g j k h=>?_)
 refine Rcl 6 q (Ix h e23 lb q Zl q q λc _ h=>(Rl 1 q (Al z83 q (sS Z6 s83 Z2 (Rll 9 q ?_)))))
 refine OG 6 28 34 6 6 ?_
 refine Rl 1 q ?_
 apply WL.or 7 (t:=35) (d:=42)
 exact q
 intro w
 exact Rl 4 q (Zy (aa E59 t0.insns e22 q q Zl) q q q (Rl 2 q (WL.nil ⟨q,[_,_,_,_,_,_,_],q,q,q⟩)))
 exact Rn 7 7
 refine Rl 1 q ?_
 apply WL.or 6 (t:=43) (d:=49)
 exact q
 intro x
 exact Rl 3 q (WL.fn q q q q (f51_c) Lw (aG q q q) q q (Rl 2 q (WL.nil ⟨q,[_,_,_,_,_,_],q,q,q⟩)))
 exact Rn 6 6
 refine Rl 1 q ?_
 apply WL.or 13 (t:=50) (d:=63)
 exact q
 intro y
 refine Rl 6 q ?_
 refine AG 6 56 62 6 6 ?_
 exact Rn 1 8
 exact Rn 13 13
 refine Rlc 2 q (Ci h q (λh=>Rcx 12 q (FA h)) λh=>?_)
 refine Rcc 8 q (Ln1 (λe=> [(1, .d (.pc (R33 t0))),(3, .n a),(4, .pt 0 0),(5, .n e)]) (λ_=> [.row 83 [.n c.from_, .n c.to, .n c.at_, .d (D.b c.clean)]]) (f42_l2 t0 a p c) h (λ_ h=>by rw[f42_l2] at h;cases h) λna e h=>?_)
 rw[f42_l2] at h
 refine Rcc 8 q (Ci h q (λh=>?_) λh=>?_)
 refine Rcl 9 q (Ix h e23 lb q Zl q q λA _ h=>(Rl 1 q (Al z83 q (sS Z6 s83 Z2 (Rll 10 q ?_)))))
 refine AG 6 79 85 6 6 ?_
 refine Rll 11 q ?_
 refine OG 6 91 97 6 6 ?_
 refine Rll 8 q ?_
 refine AG 3 100 103 3 3 ?_
 refine Rlc 2 q (Ci h q (λh=>Rcx 15 q (FA h)) λh=>?_)
 exact Rcx 8 q (WE.drop 1 (env':=[(1, .d (.pc (R33 t0))),(3, .n a),(4, .pt 0 0),(5, .n (IntKind.i64.wrap (e+1)))]) Sb q q (Nat.zero_le _) (Fn1 h))
 exact Rcx 5 q (En4 h)
 exact Rcx 5 q (WE.drop 0 (env':=[(1, .d (.pc (R33 t0))),(3, .n (IntKind.i64.wrap (a+1)))]) Sb q q (Nat.zero_le _) (Fn1 h))
 exact Rcx 4 q (En0 h)
 exact Rcx 6 q (FA h)

theorem f43_c{t0:ai}{r:Bool}(h:f43 t0=some r):Pu prog 43 [.ag (R33 t0)] (.b r):=by
 unfold f43 at h
 refine fI func43 λ_ _=>?_
 refine Rcl 2 q (Bd q q (Zs _) q (Rll 8 q (Zq (aa cw t0.loops e24 q q Zl) q (Rlc 3 q (Ci h q (λh=>?_) λh=>?_)))))
 exact Rcx 7 q (FA h)
 refine Rcc 2 q (Jn0 [] [] h (λG h=>?_) λh=>?_)
 refine Rcc 6 q (Ln1 (λe=> [(1, .d (.pc (R33 t0))),(3, .n e)]) (λ_=> []) (f43_l1 t0 G) h (λ_ h=>by rw[f43_l1] at h;cases h) λn e h=>?_)
 rw[f43_l1] at h
 refine Rcl 6 q (Zq (aa cw t0.loops e24 q q Zl) q (Rlc 3 q (Ci h q (λh=>?_) λh=>?_)))
 refine Rcc 2 q (Jn10 (λ_ _ _ _ _ _ _ _ _ _=> [(1, .d (.pc (R33 t0))),(3, .n e)]) (λg j k p w x y A B C=> [.row 118 [.n g, .n j, .n k], .row 59 [.d (D.i .u8 p), .n w, .n x, .n y, .n A, .n B, .n C]]) h (λH h=>?_) λg j k p w x y A B C h=>?_)
 refine Rcl 6 q (Ix h e24 lg q Zl q q λf _ h=>(Rl 1 q (Al z118 q (sS Z6 s118 Z2 (Rll 8 q (wF Z4 (f51_c) Lw Z3 (Rl 2 q ?_)))))))
 apply WL.or 6 (t:=28) (d:=34)
 exact q
 intro I
 exact Rl 3 q (WL.fn q q q q (f51_c) Lw (aG q q q) q q (Rl 2 q (WL.nil ⟨q,[_,_,_,_,_,_],q,q,q⟩)))
 exact Rn 6 6
 refine Rl 1 q ?_
 refine OG 6 35 41 6 6 ?_
 refine Rl 1 q ?_
 refine OG 4 42 46 4 4 ?_
 refine Rl 1 q ?_
 refine OG 4 47 51 4 4 ?_
 refine Rlc 2 q (Ci h q (λh=>Rcx 12 q (FA h)) λh=>?_)
 refine Rcl 8 q (Ix h e22 dc q Zl q q λc _ h=>(Rl 1 q (Al z59 q (sS Z6 s59 Z2 (Rll 9 q ?_)))))
 refine AG 4 61 65 4 4 ?_
 refine Rl 1 q ?_
 refine AG 4 66 70 4 4 ?_
 refine Rl 1 q ?_
 refine OG 6 71 77 6 6 ?_
 refine Rlc 2 q (Ci h q (λh=>Rcx 12 q (FA h)) λh=>?_)
 refine Rcc 8 q (Ln1 (λE=> [(1, .d (.pc (R33 t0))),(3, .n e),(4, .pt 0 0),(6, .n E)]) (λ_=> [.row 118 [.n f.head, .n f.back, .n f.bound], .row 59 [.d (D.i .u8 c.op), .n c.d, .n c.a, .n c.b, .n c.n, .n c.m, .n c.to]]) (f43_l2 t0 e n H f c) h (λ_ h=>by rw[f43_l2] at h;cases h) λna E h=>?_)
 rw[f43_l2] at h
 refine Rcc 8 q (Ci h q (λh=>?_) λh=>?_)
 refine Rcc 5 q (aw kR kR (Rq 3 q ?_))
 obtain⟨J,F,h⟩:=ac h
 refine WQ.qn (ah e24 q Zl q (af F) (ar lg F) q) q (Rq 5 q (WQ.nil (Rxc 1 q (Ci h q (λh=>?_) λh=>?_))))
 exact Rcx 15 q (FA h)
 exact Rcx 8 q (Fn1 h)
 exact Rcx 5 q (cN ⟨_,_,_,_,_,_,_,_,_,_,h,Sb,Tv⟩)
 exact Rcx 5 q (WE.drop 0 (env':=[(1, .d (.pc (R33 t0))),(3, .n (IntKind.i64.wrap (e+1)))]) Sb q q (Nat.zero_le _) (Fn1 h))
 exact Rcx 4 q (En0 h)
 exact Rcx 6 q (FA h)

theorem f190_c:Pu prog 190 [] (.sl (List.map sW (f190 ))):=by
 generalize h:f190=r
 unfold f190 at h
 refine fI func190 λ_ _=>?_
 refine Rcl 7 q (Zq (ab ax am q q) q (Zq (ab ax am q q) q (WL.s ((NewOs.b (ae bi am q dC dC q q q dC)).does) (Zw q) q q ?_)))
 refine WL.freezeX [3] [] 0 _ q (an av [fD 68 0 15,fD 78 (-9223372036854775808) 9223372036854775807]) ⟨q,Zt⟩ Zt (Zq (ab bd aZ q q) q (Zq (ab ax am q q) q (Zq (ab ax am q q) q (WL.s ((NewOs.b (ae bi am q dC dC q q q dC)).does) (Zw q) q q ?_))))
 refine WL.freezeX [7] [] 1 _ q (an av [fD 68 0 15,fD 65 0 15]) ⟨q,Zt⟩ Zt (Zq (ab bd aZ q q) q (Zq (ab ax am q q) q (Zq (ab ax am q q) q (Zq (ab ax am q q) q (WL.s ((NewOs.b (ae bi am q dC dC q q q dC)).does) (Zw q) q q ?_)))))
 refine WL.freezeX [12] [] 2 _ q (an av [fD 68 0 15,fD 78 0 4095,fD 77 0 65535]) ⟨q,Zt⟩ Zt (Zq (ab bd aZ q q) q (Zq (ab ax am q q) q (Zq (ab ax am q q) q (Zq (ab ax am q q) q (WL.s ((NewOs.b (ae bi am q dC dC q q q dC)).does) (Zw q) q q ?_)))))
 refine WL.freezeX [17] [] 3 _ q (an av [fD 65 0 15,fD 78 0 4095,fD 77 0 65535]) ⟨q,Zt⟩ Zt (Zq (ab bd aZ q q) q (Zq (ab ax am q q) q (Zq (ab ax am q q) q (Zq (ab ax am q q) q (Zq (ab ax am q q) q (Zq (ab ax am q q) q (WL.s ((NewOs.b (ae bi am q dC dC q q q dC)).does) (Zw q) q q ?_)))))))
 refine WL.freezeX [24] [] 4 _ q (an av [fD 68 0 15,fD 65 0 15,fD 66 1 65536,fD 78 0 4095,fD 77 0 65535]) ⟨q,Zt⟩ Zt (Zq (ab bd aZ q q) q (Zq (ab ax am q q) q (Zq (ab ax am q q) q (Zq (ab ax am q q) q (Zq (ab ax am q q) q (Zq (ab ax am q q) q (WL.s ((NewOs.b (ae bi am q dC dC q q q dC)).does) (Zw q) q q ?_)))))))
 refine WL.freezeX [31] [] 5 _ q (an av [fD 68 0 15,fD 65 0 15,fD 66 1 65536,fD 78 0 4095,fD 77 0 65535]) ⟨q,Zt⟩ Zt (Zq (ab bd aZ q q) q (Zq (ab ax am q q) q (Zq (ab ax am q q) q (WL.s ((NewOs.b (ae bi am q dC dC q q q dC)).does) (Zw q) q q ?_))))
 refine WL.freezeX [35] [] 6 _ q (an av [fD 68 0 15,fD 65 0 15]) ⟨q,Zt⟩ Zt (Zq (ab bd aZ q q) q (Zq (ab ax am q q) q (Zq (ab ax am q q) q (WL.s ((NewOs.b (ae bi am q dC dC q q q dC)).does) (Zw q) q q ?_))))
 refine WL.freezeX [39] [] 7 _ q (an av [fD 68 0 15,fD 65 0 15]) ⟨q,Zt⟩ Zt (Zq (ab bd aZ q q) q (Zq (ab ax am q q) q (Zq (ab ax am q q) q (Zq (ab ax am q q) q (WL.s ((NewOs.b (ae bi am q dC dC q q q dC)).does) (Zw q) q q ?_)))))
 refine WL.freezeX [44] [] 8 _ q (an av [fD 68 0 15,fD 65 0 15,fD 66 0 15]) ⟨q,Zt⟩ Zt (Zq (ab bd aZ q q) q (Zq (ab ax am q q) q (Zq (ab ax am q q) q (Zq (ab ax am q q) q (WL.s ((NewOs.b (ae bi am q dC dC q q q dC)).does) (Zw q) q q ?_)))))
 refine WL.freezeX [49] [] 9 _ q (an av [fD 68 0 15,fD 65 0 15,fD 66 0 15]) ⟨q,Zt⟩ Zt (Zq (ab bd aZ q q) q (Zq (ab ax am q q) q (Zq (ab ax am q q) q (Zq (ab ax am q q) q (WL.s ((NewOs.b (ae bi am q dC dC q q q dC)).does) (Zw q) q q ?_)))))
 refine WL.freezeX [54] [] 10 _ q (an av [fD 68 0 15,fD 65 0 15,fD 66 0 15]) ⟨q,Zt⟩ Zt (Zq (ab bd aZ q q) q (Zq (ab ax am q q) q (Zq (ab ax am q q) q (Zq (ab ax am q q) q (WL.s ((NewOs.b (ae bi am q dC dC q q q dC)).does) (Zw q) q q ?_)))))
 refine WL.freezeX [59] [] 11 _ q (an av [fD 68 0 15,fD 65 0 15,fD 66 0 15]) ⟨q,Zt⟩ Zt (Zq (ab bd aZ q q) q (Zq (ab ax am q q) q (Zq (ab ax am q q) q (Zq (ab ax am q q) q (WL.s ((NewOs.b (ae bi am q dC dC q q q dC)).does) (Zw q) q q ?_)))))
 refine WL.freezeX [64] [] 12 _ q (an av [fD 68 0 15,fD 65 0 15,fD 66 0 15]) ⟨q,Zt⟩ Zt (Zq (ab bd aZ q q) q (Zq (ab ax am q q) q (Zq (ab ax am q q) q (Zq (ab ax am q q) q (WL.s ((NewOs.b (ae bi am q dC dC q q q dC)).does) (Zw q) q q ?_)))))
 refine WL.freezeX [69] [] 13 _ q (an av [fD 68 0 15,fD 65 0 15,fD 66 0 15]) ⟨q,Zt⟩ Zt (Zq (ab bd aZ q q) q (Zq (ab ax am q q) q (Zq (ab ax am q q) q (Zq (ab ax am q q) q (WL.s ((NewOs.b (ae bi am q dC dC q q q dC)).does) (Zw q) q q ?_)))))
 refine WL.freezeX [74] [] 14 _ q (an av [fD 68 0 15,fD 65 0 15,fD 66 0 15]) ⟨q,Zt⟩ Zt (Zq (ab bd aZ q q) q (Zq (ab ax am q q) q (Zq (ab ax am q q) q (Zq (ab ax am q q) q (WL.s ((NewOs.b (ae bi am q dC dC q q q dC)).does) (Zw q) q q ?_)))))
 refine WL.freezeX [79] [] 15 _ q (an av [fD 68 0 15,fD 65 0 15,fD 66 0 15]) ⟨q,Zt⟩ Zt (Zq (ab bd aZ q q) q (Zq (ab ax am q q) q (Zq (ab ax am q q) q (Zq (ab ax am q q) q (WL.s ((NewOs.b (ae bi am q dC dC q q q dC)).does) (Zw q) q q ?_)))))
 refine WL.freezeX [84] [] 16 _ q (an av [fD 68 0 15,fD 65 0 15,fD 66 0 15]) ⟨q,Zt⟩ Zt (Zq (ab bd aZ q q) q (Zq (ab ax am q q) q (Zq (ab ax am q q) q (Zq (ab ax am q q) q (WL.s ((NewOs.b (ae bi am q dC dC q q q dC)).does) (Zw q) q q ?_)))))
 refine WL.freezeX [89] [] 17 _ q (an av [fD 68 0 15,fD 65 0 15,fD 66 0 15]) ⟨q,Zt⟩ Zt (Zq (ab bd aZ q q) q (Zq (ab ax am q q) q (Zq (ab ax am q q) q (Zq (ab ax am q q) q (WL.s ((NewOs.b (ae bi am q dC dC q q q dC)).does) (Zw q) q q ?_)))))
 refine WL.freezeX [94] [] 18 _ q (an av [fD 68 0 15,fD 65 0 15,fD 66 0 15]) ⟨q,Zt⟩ Zt (Zq (ab bd aZ q q) q (Zq (ab ax am q q) q (Zq (ab ax am q q) q (Zq (ab ax am q q) q (WL.s ((NewOs.b (ae bi am q dC dC q q q dC)).does) (Zw q) q q ?_)))))
 refine WL.freezeX [99] [] 19 _ q (an av [fD 68 0 15,fD 65 0 15,fD 66 0 15]) ⟨q,Zt⟩ Zt (Zq (ab bd aZ q q) q (Zq (ab ax am q q) q (Zq (ab ax am q q) q (Zq (ab ax am q q) q (WL.s ((NewOs.b (ae bi am q dC dC q q q dC)).does) (Zw q) q q ?_)))))
 refine WL.freezeX [104] [] 20 _ q (an av [fD 68 0 15,fD 65 0 15,fD 66 0 15]) ⟨q,Zt⟩ Zt (Zq (ab bd aZ q q) q (Zq (ab ax am q q) q (Zq (ab ax am q q) q (Zq (ab ax am q q) q (WL.s ((NewOs.b (ae bi am q dC dC q q q dC)).does) (Zw q) q q ?_)))))
 refine WL.freezeX [109] [] 21 _ q (an av [fD 68 0 15,fD 65 0 15,fD 66 0 15]) ⟨q,Zt⟩ Zt (Zq (ab bd aZ q q) q (Zq (ab ax am q q) q (Zq (ab ax am q q) q (Zq (ab ax am q q) q (WL.s ((NewOs.b (ae bi am q dC dC q q q dC)).does) (Zw q) q q ?_)))))
 refine WL.freezeX [114] [] 22 _ q (an av [fD 68 0 15,fD 65 0 15,fD 66 0 15]) ⟨q,Zt⟩ Zt (Zq (ab bd aZ q q) q (Zq (ab ax am q q) q (Zq (ab ax am q q) q (WL.s ((NewOs.b (ae bi am q dC dC q q q dC)).does) (Zw q) q q ?_))))
 refine WL.freezeX [118] [] 23 _ q (an av [fD 68 0 15,fD 65 0 15]) ⟨q,Zt⟩ Zt (Zq (ab bd aZ q q) q (Zq (ab ax am q q) q (Zq (ab ax am q q) q (WL.s ((NewOs.b (ae bi am q dC dC q q q dC)).does) (Zw q) q q ?_))))
 refine WL.freezeX [122] [] 24 _ q (an av [fD 68 0 15,fD 65 0 15]) ⟨q,Zt⟩ Zt (Zq (ab bd aZ q q) q (Zq (ab ax am q q) q (Zq (ab ax am q q) q (WL.s ((NewOs.b (ae bi am q dC dC q q q dC)).does) (Zw q) q q ?_))))
 refine WL.freezeX [126] [] 25 _ q (an av [fD 68 0 15,fD 65 0 15]) ⟨q,Zt⟩ Zt (Zq (ab bd aZ q q) q (Zq (ab ax am q q) q (Zq (ab ax am q q) q (Zq (ab ax am q q) q (WL.s ((NewOs.b (ae bi am q dC dC q q q dC)).does) (Zw q) q q ?_)))))
 refine WL.freezeX [131] [] 26 _ q (an av [fD 65 0 15,fD 78 (-9223372036854775808) 9223372036854775807,fD 77 (-9223372036854775808) 9223372036854775807]) ⟨q,Zt⟩ Zt (Zq (ab bd aZ q q) q (Zq (ab ax am q q) q (WL.s ((NewOs.b (ae bi am q dC dC q q q dC)).does) (Zw q) q q ?_)))
 refine WL.freezeX [134] [] 27 _ q (an av [fD 65 0 15]) ⟨q,Zt⟩ Zt (Zq (ab bd aZ q q) q (Zq (ab ax am q q) q (WL.s ((NewOs.b (ae bi am q dC dC q q q dC)).does) (Zw q) q q ?_)))
 refine WL.freezeX [137] [] 28 _ q (an av [fD 84 0 65535]) ⟨q,Zt⟩ Zt (Zq (ab bd aZ q q) q (Zq (ab ax am q q) q (Zq (ab ax am q q) q (WL.s ((NewOs.b (ae bi am q dC dC q q q dC)).does) (Zw q) q q ?_))))
 refine WL.freezeX [141] [] 29 _ q (an av [fD 65 0 15,fD 84 0 65535]) ⟨q,Zt⟩ Zt (Zq (ab bd aZ q q) q (Zq (ab ax am q q) q (Zq (ab ax am q q) q (WL.s ((NewOs.b (ae bi am q dC dC q q q dC)).does) (Zw q) q q ?_))))
 refine WL.freezeX [145] [] 30 _ q (an av [fD 65 0 15,fD 84 0 65535]) ⟨q,Zt⟩ Zt (Zq (ab bd aZ q q) q (Zq (ab ax am q q) q (Zq (ab ax am q q) q (Zq (ab ax am q q) q (Zq (ab ax am q q) q (WL.s ((NewOs.b (ae bi am q dC dC q q q dC)).does) (Zw q) q q ?_))))))
 refine WL.freezeX [151] [] 31 _ q (an av [fD 65 0 15,fD 78 (-9223372036854775808) 9223372036854775807,fD 77 1 65536,fD 84 0 65535]) ⟨q,Zt⟩ Zt (Zq (ab bd aZ q q) q (Zq (ab ax am q q) q (WL.s ((NewOs.b (ae bi am q dC dC q q q dC)).does) (Zw q) q q ?_)))
 refine WL.freezeX [154] [] 32 _ q (an av [fD 78 1 64]) ⟨q,Zt⟩ Zt (Zq (ab bd aZ q q) q (Zq (ab ax am q q) q (WL.s ((NewOs.b (ae bi am q dC dC q q q dC)).does) (Zw q) q q ?_)))
 refine WL.freezeX [157] [] 33 _ q (an av [fD 65 0 15]) ⟨q,Zt⟩ Zt (Zq (ab bd aZ q q) q (Zq (ab ax am q q) q (WL.s ((NewOs.b (ae bi am q dC dC q q q dC)).does) (Zw q) q q ?_)))
 refine WL.freezeX [160] [] 34 _ q (an av [fD 65 0 15]) ⟨q,Zt⟩ Zt (Zq (ab bd aZ q q) q (Zq (ab ax am q q) q (WL.s ((NewOs.b (ae bi am q dC dC q q q dC)).does) (Zw q) q q ?_)))
 refine WL.freezeX [163] [] 35 _ q (an av [fD 68 0 15]) ⟨q,Zt⟩ Zt (Zq (ab bd aZ q q) q (Zq (ab ax am q q) q (Zq (ab ax am q q) q (WL.s ((NewOs.b (ae bi am q dC dC q q q dC)).does) (Zw q) q q ?_))))
 refine WL.freezeX [167] [] 36 _ q (an av [fD 78 6 7,fD 77 0 65535]) ⟨q,Zt⟩ Zt (Zq (ab bd aZ q q) q (Zq (ab ax am q q) q (WL.s ((NewOs.b (ae bi am q dC dC q q q dC)).does) (Zw q) q q ?_)))
 refine WL.freezeX [170] [] 37 _ q (an av [fD 68 0 15]) ⟨q,Zt⟩ Zt (Zq (ab bd aZ q q) q (Zq (ab ax am q q) q (WL.s ((NewOs.b (ae bi am q dC dC q q q dC)).does) (Zw q) q q ?_)))
 refine WL.freezeX [173] [] 38 _ q (an av [fD 65 0 15]) ⟨q,Zt⟩ Zt (Zq (ab bd aZ q q) q (Zq (ab bd aZ q q) q (Zq (ab bd aZ q q) q (Zq (ab ax am q q) q (WL.s ((NewOs.b (ae bi am q dC dC q q q dC)).does) (Zw q) q q ?_)))))
 refine WL.freezeX [178] [] 39 _ q (an av [fD 68 0 15]) ⟨q,Zt⟩ Zt (Zq (ab bd aZ q q) q (Zq (ab ax am q q) q (Zq (ab ax am q q) q (Zq (ab ax am q q) q (WL.s ((NewOs.b (ae bi am q dC dC q q q dC)).does) (Zw q) q q ?_)))))
 refine WL.freezeX [183] [] 40 _ q (an av [fD 68 0 15,fD 78 0 7,fD 77 (-1) 31]) ⟨q,Zt⟩ Zt (Zq (ab bd aZ q q) q (Zq (ab ax am q q) q (WL.s ((NewOs.b (ae bi am q dC dC q q q dC)).does) (Zw q) q q ?_)))
 refine WL.freezeX [186] [] 41 _ q (an av [fD 78 0 65535]) ⟨q,Zt⟩ Zt (Zq (ab bd aZ q q) q (Zq (ab ax am q q) q (WL.s ((NewOs.b (ae bi am q dC dC q q q dC)).does) (Zw q) q q ?_)))
 refine WL.freezeX [189] [] 42 _ q (an av [fD 78 0 65535]) ⟨q,Zt⟩ Zt (Zq (ab bd aZ q q) q (Zq (ab ax am q q) q (Zq (ab ax am q q) q (WL.s ((NewOs.b (ae bi am q dC dC q q q dC)).does) (Zw q) q q ?_))))
 refine WL.freezeX [193] [] 43 _ q (an av [fD 65 0 15,fD 78 0 65535]) ⟨q,Zt⟩ Zt (Zq (ab bd aZ q q) q (Zq (ab ax am q q) q (WL.s ((NewOs.b (ae bi am q dC dC q q q dC)).does) (Zw q) q q ?_)))
 refine WL.freezeX [196] [] 44 _ q (an av [fD 65 0 15]) ⟨q,Zt⟩ Zt (Zq (ab bd aZ q q) q (Zq (ab ax am q q) q (WL.s ((NewOs.b (ae bi am q dC dC q q q dC)).does) (Zw q) q q ?_)))
 refine WL.freezeX [199] [] 45 _ q (an av [fD 65 0 15]) ⟨q,Zt⟩ Zt (Zq (ab bd aZ q q) q (Zq (ab ax am q q) q (Zq (ab ax am q q) q (Zq (ab ax am q q) q (Zq (ab ax am q q) q (Zq (ab ax am q q) q (WL.s ((NewOs.b (ae bi am q dC dC q q q dC)).does) (Zw q) q q ?_)))))))
 refine WL.freezeX [206] [] 46 _ q (an av [fD 68 0 15,fD 65 0 31,fD 66 0 7,fD 78 0 4095,fD 77 0 3]) ⟨q,Zt⟩ Zt (Zq (ab bd aZ q q) q (Zq (ab ax am q q) q (WL.s ((NewOs.b (ae bi am q dC dC q q q dC)).does) (Zw q) q q ?_)))
 refine WL.freezeX [209] [] 47 _ q (an av [fD 78 0 1023]) ⟨q,Zt⟩ Zt (Zq (ab bd aZ q q) q (Zq (ab ax am q q) q (WL.s ((NewOs.b (ae bi am q dC dC q q q dC)).does) (Zw q) q q ?_)))
 refine WL.freezeX [212] [] 48 _ q (an av [fD 78 0 1]) ⟨q,Zt⟩ Zt (Zq (ab bd aZ q q) q (Zq (ab ax am q q) q (Zq (ab ax am q q) q (Zq (ab ax am q q) q (Zq (ab ax am q q) q (WL.s ((NewOs.b (ae bi am q dC dC q q q dC)).does) (Zw q) q q ?_))))))
 refine WL.freezeX [218] [] 49 _ q (an av [fD 65 0 31,fD 66 0 7,fD 78 0 1,fD 84 0 65535]) ⟨q,Zt⟩ Zt (Zq (ab bd aZ q q) q (Zq (ab ax am q q) q (WL.s ((NewOs.b (ae bi am q dC dC q q q dC)).does) (Zw q) q q ?_)))
 refine WL.freezeX [221] [] 50 _ q (an av [fD 78 0 31]) ⟨q,Zt⟩ Zt (Zq (ab bd aZ q q) q (Zq (ab ax am q q) q (Zq (ab ax am q q) q (Zq (ab ax am q q) q (Zq (ab ax am q q) q (Zq (ab ax am q q) q (WL.s ((NewOs.b (ae bi am q dC dC q q q dC)).does) (Zw q) q q ?_)))))))
 refine WL.freezeX [228] [] 51 _ q (an av [fD 68 0 15,fD 65 0 15,fD 66 0 3,fD 78 0 31,fD 77 0 7]) ⟨q,Zt⟩ Zt (Zq (ab bd aZ q q) q (Zq (ab ax am q q) q (WL.s ((NewOs.b (ae bi am q dC dC q q q dC)).does) (Zw q) q q ?_)))
 refine WL.freezeX [231] [] 52 _ q (an av [fD 78 0 31]) ⟨q,Zt⟩ Zt (Zq (ab bd aZ q q) q (Zq (ab ax am q q) q (WL.s ((NewOs.b (ae bi am q dC dC q q q dC)).does) (Zw q) q q ?_)))
 refine WL.freezeX [234] [] 53 _ q (an av [fD 78 0 65535]) ⟨q,Zt⟩ Zt (Zq (ab bd aZ q q) q (Zq (ab bd aZ q q) q ?_))
 refine WL.s ((NewOs.b (NewOs.weak (es':=List.map (bM sU) [(Row.mk 1 (bA #[108,105]) [fD 68 0 15,fD 78 (-9223372036854775808) 9223372036854775807]),(Row.mk 2 (bA #[109,118]) [fD 68 0 15,fD 65 0 15]),(Row.mk 3 (bA #[108,100]) [fD 68 0 15,fD 78 0 4095,fD 77 0 65535]),(Row.mk 4 (bA #[115,116]) [fD 65 0 15,fD 78 0 4095,fD 77 0 65535]),(Row.mk 5 (bA #[108,100,120]) [fD 68 0 15,fD 65 0 15,fD 66 1 65536,fD 78 0 4095,fD 77 0 65535]),(Row.mk 6 (bA #[115,116,120]) [fD 68 0 15,fD 65 0 15,fD 66 1 65536,fD 78 0 4095,fD 77 0 65535]),(Row.mk 7 (bA #[108,100,97]) [fD 68 0 15,fD 65 0 15]),(Row.mk 8 (bA #[115,116,97]) [fD 68 0 15,fD 65 0 15]),(Row.mk 9 (bA #[97,100,100]) [fD 68 0 15,fD 65 0 15,fD 66 0 15]),(Row.mk 10 (bA #[115,117,98]) [fD 68 0 15,fD 65 0 15,fD 66 0 15]),(Row.mk 11 (bA #[109,117,108]) [fD 68 0 15,fD 65 0 15,fD 66 0 15]),(Row.mk 12 (bA #[100,105,118]) [fD 68 0 15,fD 65 0 15,fD 66 0 15]),(Row.mk 13 (bA #[114,101,109]) [fD 68 0 15,fD 65 0 15,fD 66 0 15]),(Row.mk 14 (bA #[109,111,100]) [fD 68 0 15,fD 65 0 15,fD 66 0 15]),(Row.mk 15 (bA #[101,113]) [fD 68 0 15,fD 65 0 15,fD 66 0 15]),(Row.mk 16 (bA #[110,101]) [fD 68 0 15,fD 65 0 15,fD 66 0 15]),(Row.mk 17 (bA #[108,116]) [fD 68 0 15,fD 65 0 15,fD 66 0 15]),(Row.mk 18 (bA #[108,101]) [fD 68 0 15,fD 65 0 15,fD 66 0 15]),(Row.mk 19 (bA #[103,116]) [fD 68 0 15,fD 65 0 15,fD 66 0 15]),(Row.mk 20 (bA #[103,101]) [fD 68 0 15,fD 65 0 15,fD 66 0 15]),(Row.mk 21 (bA #[97,110,100]) [fD 68 0 15,fD 65 0 15,fD 66 0 15]),(Row.mk 22 (bA #[111,114]) [fD 68 0 15,fD 65 0 15,fD 66 0 15]),(Row.mk 23 (bA #[120,111,114]) [fD 68 0 15,fD 65 0 15,fD 66 0 15]),(Row.mk 24 (bA #[110,101,103]) [fD 68 0 15,fD 65 0 15]),(Row.mk 25 (bA #[97,98,115]) [fD 68 0 15,fD 65 0 15]),(Row.mk 26 (bA #[110,111,116]) [fD 68 0 15,fD 65 0 15]),(Row.mk 27 (bA #[99,104,107]) [fD 65 0 15,fD 78 (-9223372036854775808) 9223372036854775807,fD 77 (-9223372036854775808) 9223372036854775807]),(Row.mk 28 (bA #[99,104,107,122]) [fD 65 0 15]),(Row.mk 29 (bA #[106,109,112]) [fD 84 0 65535]),(Row.mk 30 (bA #[106,122]) [fD 65 0 15,fD 84 0 65535]),(Row.mk 31 (bA #[106,110,122]) [fD 65 0 15,fD 84 0 65535]),(Row.mk 32 (bA #[106,116]) [fD 65 0 15,fD 78 (-9223372036854775808) 9223372036854775807,fD 77 1 65536,fD 84 0 65535]),(Row.mk 33 (bA #[114,97,105,115,101]) [fD 78 1 64]),(Row.mk 34 (bA #[114,97,105,115,101,114]) [fD 65 0 15]),(Row.mk 35 (bA #[99,111,110,116]) [fD 65 0 15]),(Row.mk 36 (bA #[101,120,99]) [fD 68 0 15]),(Row.mk 37 (bA #[109,97,114,107]) [fD 78 6 7,fD 77 0 65535]),(Row.mk 38 (bA #[103,101,116]) [fD 68 0 15]),(Row.mk 39 (bA #[112,117,116]) [fD 65 0 15]),(Row.mk 40 (bA #[100,101,102,101,114]) []),(Row.mk 41 (bA #[97,108,108,111,119]) []),(Row.mk 42 (bA #[99,108,111,99,107]) [fD 68 0 15]),(Row.mk 43 (bA #[99,111,117,110,116]) [fD 68 0 15,fD 78 0 7,fD 77 (-1) 31]),(Row.mk 44 (bA #[115,116,97,114,116]) [fD 78 0 65535]),(Row.mk 45 (bA #[110,101,118,101,114]) [fD 78 0 65535]),(Row.mk 46 (bA #[97,119,97,105,116]) [fD 65 0 15,fD 78 0 65535]),(Row.mk 47 (bA #[100,101,108,97,121]) [fD 65 0 15]),(Row.mk 48 (bA #[117,110,116,105,108]) [fD 65 0 15]),(Row.mk 49 (bA #[99,97,108,108]) [fD 68 0 15,fD 65 0 31,fD 66 0 7,fD 78 0 4095,fD 77 0 3]),(Row.mk 50 (bA #[115,101,108]) [fD 78 0 1023]),(Row.mk 51 (bA #[100,111,110,101]) [fD 78 0 1]),(Row.mk 52 (bA #[114,101,113]) [fD 65 0 31,fD 66 0 7,fD 78 0 1,fD 84 0 65535]),(Row.mk 53 (bA #[108,111,99,107]) [fD 78 0 31]),(Row.mk 54 (bA #[112,101,110,116]) [fD 68 0 15,fD 65 0 15,fD 66 0 3,fD 78 0 31,fD 77 0 7]),(Row.mk 55 (bA #[117,110,108,111,99,107]) [fD 78 0 31]),(Row.mk 56 (bA #[97,98,111,114,116]) [fD 78 0 65535]),(Row.mk 57 (bA #[101,110,100]) [])]) (ae l292 aZ q dC dC q q q dC) (by exact⟨Lw,Lw,Lw,Lw,Lw,Lw,Lw,Lw,Lw,Lw,Lw,Lw,Lw,Lw,Lw,Lw,Lw,Lw,Lw,Lw,Lw,Lw,Lw,Lw,Lw,Lw,Lw,Lw,Lw,Lw,Lw,Lw,Lw,Lw,Lw,Lw,Lw,Lw,Lw,⟨Zl,Zl,Le.nil,Zt⟩,⟨Zl,Zl,Le.nil,Zt⟩,Lw,Lw,Lw,Lw,Lw,Lw,Lw,Lw,Lw,Lw,Lw,Lw,Lw,Lw,Lw,⟨Zl,Zl,Le.nil,Zt⟩,Zt⟩))).does) (Zw q) q q ?_
 refine Rlx 4 q ?_
 refine WE.freezeX [0,237] [] 54 _ q (an lc [(Row.mk 1 (bA #[108,105]) [fD 68 0 15,fD 78 (-9223372036854775808) 9223372036854775807]),(Row.mk 2 (bA #[109,118]) [fD 68 0 15,fD 65 0 15]),(Row.mk 3 (bA #[108,100]) [fD 68 0 15,fD 78 0 4095,fD 77 0 65535]),(Row.mk 4 (bA #[115,116]) [fD 65 0 15,fD 78 0 4095,fD 77 0 65535]),(Row.mk 5 (bA #[108,100,120]) [fD 68 0 15,fD 65 0 15,fD 66 1 65536,fD 78 0 4095,fD 77 0 65535]),(Row.mk 6 (bA #[115,116,120]) [fD 68 0 15,fD 65 0 15,fD 66 1 65536,fD 78 0 4095,fD 77 0 65535]),(Row.mk 7 (bA #[108,100,97]) [fD 68 0 15,fD 65 0 15]),(Row.mk 8 (bA #[115,116,97]) [fD 68 0 15,fD 65 0 15]),(Row.mk 9 (bA #[97,100,100]) [fD 68 0 15,fD 65 0 15,fD 66 0 15]),(Row.mk 10 (bA #[115,117,98]) [fD 68 0 15,fD 65 0 15,fD 66 0 15]),(Row.mk 11 (bA #[109,117,108]) [fD 68 0 15,fD 65 0 15,fD 66 0 15]),(Row.mk 12 (bA #[100,105,118]) [fD 68 0 15,fD 65 0 15,fD 66 0 15]),(Row.mk 13 (bA #[114,101,109]) [fD 68 0 15,fD 65 0 15,fD 66 0 15]),(Row.mk 14 (bA #[109,111,100]) [fD 68 0 15,fD 65 0 15,fD 66 0 15]),(Row.mk 15 (bA #[101,113]) [fD 68 0 15,fD 65 0 15,fD 66 0 15]),(Row.mk 16 (bA #[110,101]) [fD 68 0 15,fD 65 0 15,fD 66 0 15]),(Row.mk 17 (bA #[108,116]) [fD 68 0 15,fD 65 0 15,fD 66 0 15]),(Row.mk 18 (bA #[108,101]) [fD 68 0 15,fD 65 0 15,fD 66 0 15]),(Row.mk 19 (bA #[103,116]) [fD 68 0 15,fD 65 0 15,fD 66 0 15]),(Row.mk 20 (bA #[103,101]) [fD 68 0 15,fD 65 0 15,fD 66 0 15]),(Row.mk 21 (bA #[97,110,100]) [fD 68 0 15,fD 65 0 15,fD 66 0 15]),(Row.mk 22 (bA #[111,114]) [fD 68 0 15,fD 65 0 15,fD 66 0 15]),(Row.mk 23 (bA #[120,111,114]) [fD 68 0 15,fD 65 0 15,fD 66 0 15]),(Row.mk 24 (bA #[110,101,103]) [fD 68 0 15,fD 65 0 15]),(Row.mk 25 (bA #[97,98,115]) [fD 68 0 15,fD 65 0 15]),(Row.mk 26 (bA #[110,111,116]) [fD 68 0 15,fD 65 0 15]),(Row.mk 27 (bA #[99,104,107]) [fD 65 0 15,fD 78 (-9223372036854775808) 9223372036854775807,fD 77 (-9223372036854775808) 9223372036854775807]),(Row.mk 28 (bA #[99,104,107,122]) [fD 65 0 15]),(Row.mk 29 (bA #[106,109,112]) [fD 84 0 65535]),(Row.mk 30 (bA #[106,122]) [fD 65 0 15,fD 84 0 65535]),(Row.mk 31 (bA #[106,110,122]) [fD 65 0 15,fD 84 0 65535]),(Row.mk 32 (bA #[106,116]) [fD 65 0 15,fD 78 (-9223372036854775808) 9223372036854775807,fD 77 1 65536,fD 84 0 65535]),(Row.mk 33 (bA #[114,97,105,115,101]) [fD 78 1 64]),(Row.mk 34 (bA #[114,97,105,115,101,114]) [fD 65 0 15]),(Row.mk 35 (bA #[99,111,110,116]) [fD 65 0 15]),(Row.mk 36 (bA #[101,120,99]) [fD 68 0 15]),(Row.mk 37 (bA #[109,97,114,107]) [fD 78 6 7,fD 77 0 65535]),(Row.mk 38 (bA #[103,101,116]) [fD 68 0 15]),(Row.mk 39 (bA #[112,117,116]) [fD 65 0 15]),(Row.mk 40 (bA #[100,101,102,101,114]) []),(Row.mk 41 (bA #[97,108,108,111,119]) []),(Row.mk 42 (bA #[99,108,111,99,107]) [fD 68 0 15]),(Row.mk 43 (bA #[99,111,117,110,116]) [fD 68 0 15,fD 78 0 7,fD 77 (-1) 31]),(Row.mk 44 (bA #[115,116,97,114,116]) [fD 78 0 65535]),(Row.mk 45 (bA #[110,101,118,101,114]) [fD 78 0 65535]),(Row.mk 46 (bA #[97,119,97,105,116]) [fD 65 0 15,fD 78 0 65535]),(Row.mk 47 (bA #[100,101,108,97,121]) [fD 65 0 15]),(Row.mk 48 (bA #[117,110,116,105,108]) [fD 65 0 15]),(Row.mk 49 (bA #[99,97,108,108]) [fD 68 0 15,fD 65 0 31,fD 66 0 7,fD 78 0 4095,fD 77 0 3]),(Row.mk 50 (bA #[115,101,108]) [fD 78 0 1023]),(Row.mk 51 (bA #[100,111,110,101]) [fD 78 0 1]),(Row.mk 52 (bA #[114,101,113]) [fD 65 0 31,fD 66 0 7,fD 78 0 1,fD 84 0 65535]),(Row.mk 53 (bA #[108,111,99,107]) [fD 78 0 31]),(Row.mk 54 (bA #[112,101,110,116]) [fD 68 0 15,fD 65 0 15,fD 66 0 3,fD 78 0 31,fD 77 0 7]),(Row.mk 55 (bA #[117,110,108,111,99,107]) [fD 78 0 31]),(Row.mk 56 (bA #[97,98,111,114,116]) [fD 78 0 65535]),(Row.mk 57 (bA #[101,110,100]) [])]) ⟨q,q,Zt⟩ Zt ?_
 exact FB h

theorem f160_c{o0:Int}{r:Row×Bool}(h:f160 o0=some r):Pu prog 160 [.i .u8 o0] (.tu [.ag (sU r.1), .b r.2]):=by
 unfold f160 at h
 refine fI func160 λ_ _=>?_
 refine Rcl 2 q (Al aZ q (Rll 5 q (WL.fn q q q q (f190_c) Zt (Zw q) q q (Rlc 3 q (Jn0 [(2, .pt 0 0)] [.row 243 [.d (D.i .u8 0), .d (D.s ByteArray.empty),sN]] h (λc h=>?_) λh=>?_)))))
 refine Rcc 6 q (Ln1 (λa=> [(0, .d (D.i .u8 o0)),(2, .pt 0 0),(4, .l sW f190),(5, .n a)]) (λ_=> [.row 243 [.d (D.i .u8 0), .d (D.s ByteArray.empty),sN]]) (f160_l1 o0 c) h (λ_ h=>by rw[f160_l1] at h;cases h) λn a h=>?_)
 rw[f160_l1] at h
 refine Rcl 5 q (Zq (aa sW f190 uc q q Zl) q (Rlc 3 q (Ci h q (λh=>?_) λh=>?_)))
 refine Rcl 8 q (Ix h uc lc q Zl q q λe _ h=>(Rlc 6 q (Ci h q (λh=>?_) λh=>?_)))
 refine Rcl 4 q (Ix h uc lc q Zl q q λf _ h=>(Rl 1 q (sS Z6 pZ Z2 (Rlx 9 q ?_))))
 obtain rfl:=Oi h
 exact aW (rs2 q (cO q q a243 pZ q) (bv q)) (dT ⟨(aR (Zs _)),Zl,Zt⟩)
 exact Rcx 8 q (Fn1 h)
 exact Rcx 4 q (En0 h)
 refine Rcl 2 q (Zq (ab bd aZ q q) q (sS Z6 pZ Z2 (Rlx 4 q ?_)))
 obtain rfl:=Oi h
 exact aW (rs2 q (cO q q a243 pZ q) (bv q)) (dT ⟨(aR ⟨Zl,Zl,Le.nil,Zt⟩),Zl,Zt⟩)

theorem f161_c{x0:aO}{f1:Int}:Pu prog 161 [.ag (R59 x0), .i .u8 f1] (.i .i64 (f161 x0 f1)):=by
 generalize h:f161 x0 f1=r
 unfold f161 at h
 refine fI func161 λ_ _=>?_
 refine Rcl 2 q (Bd q q (Zs _) q (Rlc 16 q (Ci h q (λh=>?_) λh=>?_)))
 exact Rcx 10 q (FB h)
 refine Rcc 6 q (Ci h q (λh=>Rcx 10 q (FB h)) λh=>?_)
 refine Rcc 6 q (Ci h q (λh=>Rcx 10 q (FB h)) λh=>?_)
 refine Rcc 6 q (Ci h q (λh=>Rcx 10 q (FB h)) λh=>?_)
 exact Rcc 6 q (Ci h q (λh=>Rcx 10 q (FB h)) λh=>Rcx 11 q (FB h))

theorem f162_c(x0:aO)(f1:Int)(v2:Int):Pu prog 162 [.ag (R59 x0), .i .u8 f1, .i .i64 v2] (.ag (R59 (f162 x0 f1 v2))):=by
 generalize h:f162 x0 f1 v2=r
 unfold f162 at h
 refine fI func162 λ_ _=>?_
 refine Rcl 2 q (Bx q q q (Al z59 q (Rlc 2 q (Jn6 (λ_ _ _ _ _ _=> [(3, .pt 0 0),(6, .pt 1 0)]) (λa c e f g j=> [.row 59 [.d (D.i .u8 x0.op), .n a, .n c, .n e, .n f, .n g, .n j], .row 59 [.d (D.i .u8 0), .n 0, .n 0, .n 0, .n 0, .n 0, .n 0]]) h (λ_ h=>?_) λa c e f g j h=>?_))))
 refine Rcc 12 q (Ci h q (λh=>Rcl 3 q (sS Z6 s3 Z2 (Rlx 2 q (En6 h)))) λh=>?_)
 refine Rcc 6 q (Ci h q (λh=>Rcl 3 q (sS Z6 s3 Z2 (Rlx 2 q (En6 h)))) λh=>?_)
 refine Rcc 6 q (Ci h q (λh=>Rcl 3 q (sS Z6 s3 Z2 (Rlx 2 q (En6 h)))) λh=>?_)
 refine Rcc 6 q (Ci h q (λh=>Rcl 3 q (sS Z6 s2 Z2 (Rlx 2 q (En6 h)))) λh=>?_)
 exact Rcc 6 q (Ci h q (λh=>Rcl 3 q (sS Z6 s2 Z2 (Rlx 2 q (En6 h)))) λh=>Rcl 3 q (sS Z6 s3 Z2 (Rlx 2 q (En6 h))))
 refine Rcl 3 q (sS Z6 s59 Z2 (Rlx 3 q ?_))
 subst h
 exact aW (rs1 q (cO q q a59 s59 q)) (aR (Zs _))

theorem f108_c{x0:aO}{r:Bool}(h:f108 x0=some r):Pu prog 108 [.ag (R59 x0)] (.b r):=by
 unfold f108 at h
 refine fI func108 λ_ _=>?_
 refine Rcl 2 q (Bd q q (Zs _) q (Rll 7 q ?_))
 obtain⟨a,F,h⟩:=ac h
 refine wF Z4 (f160_c F) Lw Z3 (Rl 3 q (Al aZ q (sS Z6 pZ Z2 (Rlc 10 q (Ci h q (λh=>?_) λh=>?_)))))
 exact Rcx 7 q (FA h)
 refine Rcl 5 q (Al z59 q (sS Z6 s59 Z2 (Rll 5 q (sS Z6 s57 Z2 (Rlc 2 q (Jn7 (λ_ _ _ _ _ _ _=> [(1, .d (.pc (R59 x0))),(5, .pt 1 0)]) (λc e f g j k m=> [.row 243 [.d (D.i .u8 a.1.op), .d (D.s a.1.name), .l rb a.1.fields], .row 59 [.d (D.i .u8 c), .n e, .n f, .n g, .n j, .n k, .n m]]) h (λG h=>?_) λc e f g j k m h=>?_))))))
 refine Rcc 6 q (Ln8 (λp _ _ _ _ _ _ _=> [(1, .d (.pc (R59 x0))),(3, .pt 0 0),(5, .pt 1 0),(6, .n p)]) (λ_ w x y A B C E=> [.row 243 [.d (D.i .u8 a.1.op), .d (D.s a.1.name), .l rb a.1.fields], .row 59 [.d (D.i .u8 w), .n x, .n y, .n A, .n B, .n C, .n E]]) (f108_l1 x0 a G) h (λ_ _ _ _ _ _ _ _ h=>by rw[f108_l1] at h;cases h) λn p w x y A B C E h=>?_)
 rw[f108_l1] at h
 refine Rcl 6 q (Zq (aa rb a.1.fields e241 q q Zl) q (Rlc 3 q (Ci h q (λh=>?_) λh=>?_)))
 refine Rcl 9 q (Ix h e241 av q Zl q q λH _ h=>(Rl 1 q (Al am q (sS Z6 s247 Z2 (Rll 7 q (wF Z4 (f161_c) Lw Z3 (Rll 11 q ?_)))))))
 refine OG 5 39 44 5 5 ?_
 refine Rlc 2 q (Ci h q (λh=>Rcx 12 q (FA h)) λh=>?_)
 exact Rcl 6 q (wF Z4 (f162_c (aO.mk w x y A B C E) _ _) ⟨(aR (Zs _)),Zl,Zl,Zt⟩ Z3 (sS Z6 s59 Z2 (Rlx 8 q (WE.drop 2 (env':=[(1, .d (.pc (R59 x0))),(3, .pt 0 0),(5, .pt 1 0),(6, .n (IntKind.i64.wrap (p+1)))]) Sb q q (Nat.zero_le _) (cN ⟨_,⟨_,_,_,_,_,_,_,_,h,Sb,Tv⟩,Nat.lt_succ_self _⟩)))))
 exact Rcx 4 q (cN ⟨_,_,_,_,_,_,_,h,Sb,Tv⟩)
 refine Rcl 3 q (Zq (ab p59 z59 q q) q (Zq (mP (xs:=[.int .u8 c, .int .i64 e, .int .i64 f, .int .i64 g, .int .i64 j, .int .i64 k, .int .i64 m]) (ys:=[.int .u8 0, .int .i64 0, .int .i64 0, .int .i64 0, .int .i64 0, .int .i64 0, .int .i64 0]) q59 q (aR (Zs _)) q (aR (Zs _)) q q q) q (Rl 1 q ?_)))
 apply WL.and 11 (t:=52) (d:=63)
 exact q
 intro I
 refine Rl 4 q ?_
 refine OG 6 56 62 6 6 ?_
 exact Rn 1 6
 exact Rn 11 11
 refine Rl 1 q ?_
 apply WL.and 14 (t:=64) (d:=78)
 exact q
 intro J
 refine Rl 4 q ?_
 refine OG 4 68 72 4 4 ?_
 refine Rl 1 q ?_
 refine OG 4 73 77 4 4 ?_
 exact Rn 1 8
 exact Rn 14 14
 exact Rlx 4 q (FA h)

theorem f109_c{t0:ai}{a:Int}{c:Int}{r:Bool}(h:f109 t0 a c=some r):Pu prog 109 [.ag (R33 t0), .i .i64 a, .i .i64 c] (.b r):=by
 unfold f109 at h
 refine fI func109 λ_ _=>?_
 refine Rcl 2 q (Bd q q (Zs _) q (Rll 11 q (Zq (aa E59 t0.insns e22 q q Zl) q (Rlc 3 q (Ci h q (λh=>?_) λh=>?_)))))
 exact Rcx 7 q (FA h)
 refine Rcc 2 q (Jn0 [] [] h (λf h=>?_) λh=>?_)
 refine Rcc 7 q (Ln1 (λe=> [(1, .n a),(2, .n c),(3, .d (.pc (R33 t0))),(7, .n e)]) (λ_=> []) (f109_l1 t0 a c f) h (λ_ h=>by rw[f109_l1] at h;cases h) λn e h=>?_)
 rw[f109_l1] at h
 refine Rcc 10 q (Ci h q (λh=>?_) λh=>?_)
 refine Rcl 9 q (Ix h e22 dc q Zl q q λg _ h=>(Rlc 5 q (Ci h q (λh=>?_) λh=>?_)))
 exact Rcx 11 q (FA h)
 exact Rcx 8 q (Fn1 h)
 exact Rcx 4 q (En0 h)
 exact Rcx 6 q (FA h)

theorem f110_c{t0:ai}{a:Int}{n2:Int}{r:bg×Bool}(h:f110 t0 a n2=some r):Pu prog 110 [.ag (R33 t0), .i .i64 a, .i .i64 n2] (.tu [.ag (R72 r.1), .b r.2]):=by
 unfold f110 at h
 refine fI func110 λ_ _=>?_
 refine Rcl 2 q (Bd q q (Zs _) q (Al z72 q (Rll 9 q ?_)))
 apply WL.or 6 (t:=10) (d:=16)
 exact q
 intro j
 exact Rl 3 q (Zy (aa E70 t0.tasks e29 q q Zl) q q q (Rl 2 q (WL.nil ⟨q,[_,_,_,_,_,_],q,q,q⟩)))
 exact Rn 6 6
 refine Rl 1 q ?_
 refine OG 3 17 20 3 3 ?_
 refine Rl 1 q ?_
 obtain⟨e,f,h⟩:=ac h
 refine Gg 10 21 31 e f (λh=>?_) (λh=>?_) ?_
 exact On 10 10 h
 refine Rl 4 q ?_
 obtain⟨g,c,h⟩:=ac h
 exact Zy (ah e29 q Zl q (af c) (ar dV c) q) q q q (Rl 2 q (Zy (aa E72 g.entries e68 q q Zl) q q q (On 2 10 h)))
 refine Rlc 2 q (Ci h q (λh=>?_) λh=>?_)
 refine Rcl 2 q (Zq (ab p72 z72 q q) q (sS Z6 s72 Z2 (Rlx 5 q ?_)))
 obtain rfl:=Oi h
 exact aW (rs2 q (cO q q a72 s72 q) (bv q)) (dT ⟨(aR ⟨Le.nil,Le.nil,Zt⟩),Zl,Zt⟩)
 refine Rcl 7 q (Ix h e29 dV q Zl q q λk _ h=>(Rl 3 q (Ix h e68 gf q Zl q q λm _ h=>(Rl 1 q (sS Z6 s72 Z2 (Rlx 4 q ?_))))))
 obtain rfl:=Oi h
 exact aW (rs2 q (cO q q a72 s72 q) (bv q)) (dT ⟨(aR (Zs _)),Zl,Zt⟩)

theorem f111_c{t0:ai}{p1:Int}{n2:Int}{r:Bool}(h:f111 t0 p1 n2=some r):Pu prog 111 [.ag (R33 t0), .i .i64 p1, .i .i64 n2] (.b r):=by
 unfold f111 at h
 refine fI func111 λ_ _=>?_
 refine Rcl 2 q (Bd q q (Zs _) q (Rll 8 q ?_))
 apply WL.and 6 (t:=9) (d:=15)
 exact q
 intro g
 exact Rl 3 q (Zy (aa E75 t0.prots e30 q q Zl) q q q (Rl 2 q (WL.nil ⟨q,[_,_,_,_,_,_],q,q,q⟩)))
 exact Rn 6 6
 refine Rl 1 q ?_
 refine AG 3 16 19 3 3 ?_
 refine Rl 1 q ?_
 obtain⟨c,e,h⟩:=ac h
 refine Gg 10 20 30 c e (λh=>?_) (λh=>?_) ?_
 refine Rl 4 q ?_
 obtain⟨f,a,h⟩:=ac h
 exact Zy (ah e30 q Zl q (af a) (ar ge a) q) q q q (Rl 2 q (Zy (aa E80 f.barriers e73 q q Zl) q q q (On 2 10 h)))
 exact On 10 10 h
 exact Rlx 4 q (FA h)

theorem f44_c{t0:ai}{x1:aO}{r:Bool}(h:f44 t0 x1=some r):Pu prog 44 [.ag (R33 t0), .ag (R59 x1)] (.b r):=by
 unfold f44 at h
 refine fI func44 λ_ _=>?_
 refine Rcl 2 q (Bd q q (Zs _) q (Bd q q (Zs _) q (Rll 7 q ?_)))
 obtain⟨I,k,h⟩:=ac h
 refine wF Z4 (f108_c k) Lw Z3 (Rlc 3 q (Ci h q (λh=>?_) λh=>?_))
 exact Rcx 7 q (FA h)
 refine Rcc 10 q (Jn1 (λa=> [(2, .d (.pc (R33 t0))),(3, .d (.pc (R59 x1))),(13, .d (D.i .u8 x1.op)),(14, .d (D.b a))]) (λ_=> []) h (λ_ h=>?_) λa h=>?_)
 exact Rcc 6 q (Ci h q (λh=>Rcx 1 q (En1 h)) λh=>Rcx 4 q (En1 h))
 refine Ci h q (λh=>?_) (λh=>?_)
 refine Rcl 7 q ?_
 obtain⟨J,m,h⟩:=ac h
 exact wF Z4 (f104_c m) Lw Z3 (Rlx 6 q (FA h))
 refine Jn1 (λc=> [(2, .d (.pc (R33 t0))),(3, .d (.pc (R59 x1))),(13, .d (D.i .u8 x1.op)),(23, .d (D.b c))]) (λ_=> []) h (λ_ h=>?_) (λc h=>?_)
 exact Rcc 6 q (Ci h q (λh=>Rcx 1 q (En1 h)) λh=>Rcx 4 q (En1 h))
 refine Ci h q (λh=>?_) (λh=>?_)
 refine Rcl 9 q ?_
 obtain⟨K,p,h⟩:=ac h
 exact wF Z4 (f104_c p) Lw Z3 (Rlx 6 q (FA h))
 refine Jn1 (λe=> [(2, .d (.pc (R33 t0))),(3, .d (.pc (R59 x1))),(13, .d (D.i .u8 x1.op)),(34, .d (D.b e))]) (λ_=> []) h (λ_ h=>?_) (λe h=>?_)
 refine Rcc 6 q (Ci h q (λh=>Rcx 1 q (En1 h)) λh=>?_)
 exact Rcc 6 q (Ci h q (λh=>Rcx 1 q (En1 h)) λh=>Rcx 4 q (En1 h))
 refine Ci h q (λh=>?_) (λh=>?_)
 exact Rcl 5 q (wF Z4 (f51_c) Lw Z3 (Rlx 6 q (FA h)))
 refine Rcc 6 q (Ci h q (λh=>?_) λh=>?_)
 refine Rcl 7 q ?_
 obtain⟨L,w,h⟩:=ac h
 exact wF Z4 (f109_c w) Lw Z3 (Rlx 6 q (FA h))
 refine Rcc 6 q (Ci h q (λh=>Rcx 13 q (FA h)) λh=>?_)
 refine Jn1 (λf=> [(2, .d (.pc (R33 t0))),(3, .d (.pc (R59 x1))),(13, .d (D.i .u8 x1.op)),(57, .d (D.b f))]) (λ_=> []) h (λ_ h=>?_) (λf h=>?_)
 refine Rcc 6 q (Ci h q (λh=>Rcx 1 q (En1 h)) λh=>?_)
 refine Rcc 6 q (Ci h q (λh=>Rcx 1 q (En1 h)) λh=>?_)
 exact Rcc 6 q (Ci h q (λh=>Rcx 1 q (En1 h)) λh=>Rcx 4 q (En1 h))
 refine Ci h q (λh=>?_) (λh=>?_)
 exact Rcl 6 q (Zq (aa E54 t0.lists e26 q q Zl) q (Rlx 7 q (FA h)))
 refine Rcc 6 q (Ci h q (λh=>Rcl 6 q (Zq (aa E65 t0.selects e25 q q Zl) q (Rlx 7 q (FA h)))) λh=>?_)
 refine Rcc 6 q (Ci h q (λh=>?_) λh=>?_)
 refine Rcl 7 q ?_
 obtain⟨g,x,h⟩:=ac h
 refine wF Z4 (f110_c x) Lw Z3 (Rl 3 q (Al z72 q (sS Z6 s72 Z2 (Rll 7 q ?_))))
 obtain⟨y,A,h⟩:=ac h
 refine Gg 13 88 101 y A (λh=>?_) (λh=>?_) ?_
 refine Rl 5 q (Zy (aa E3 g.1.ins e54 q q Zl) q q q (Rl 2 q (Zy (aa E3 g.1.outs e54 q q Zl) q q q (Rl 2 q ?_))))
 obtain⟨M,B,h⟩:=ac h
 exact WL.fn q q q q (f104_c B) Lw (aG q q q) q q (On 1 13 h)
 exact On 13 13 h
 exact Rlx 6 q (FA h)
 refine Rcc 6 q (Ci h q (λh=>?_) λh=>?_)
 refine Rcl 7 q ?_
 obtain⟨N,C,h⟩:=ac h
 refine wF Z4 (f110_c C) Lw Z3 (Rl 3 q (Al z72 q (sS Z6 s72 Z2 (Rll 7 q ?_))))
 apply WL.and 5 (t:=114) (d:=119)
 exact q
 intro O
 exact Rl 3 q (WL.fn q q q q (f51_c) Lw (aG q q q) q q (Rl 1 q (WL.nil ⟨q,[_,_,_,_,_],q,q,q⟩)))
 exact Rn 5 5
 exact Rlx 6 q (FA h)
 refine Jn1 (λj=> [(2, .d (.pc (R33 t0))),(3, .d (.pc (R59 x1))),(13, .d (D.i .u8 x1.op)),(120, .d (D.b j))]) (λ_=> []) h (λ_ h=>?_) (λj h=>?_)
 exact Rcc 6 q (Ci h q (λh=>Rcx 1 q (En1 h)) λh=>Rcx 4 q (En1 h))
 refine Ci h q (λh=>?_) (λh=>?_)
 exact Rcl 6 q (Zq (aa E75 t0.prots e30 q q Zl) q (Rlx 7 q (FA h)))
 refine Rcc 6 q (Ci h q (λh=>?_) λh=>?_)
 refine Rcl 7 q ?_
 obtain⟨P,E,h⟩:=ac h
 exact wF Z4 (f111_c E) Lw Z3 (Rlx 6 q (FA h))
 refine Rcc 6 q (Ci h q (λh=>?_) λh=>?_)
 refine Rcl 6 q ?_
 obtain⟨F,G,h⟩:=ac h
 refine Gg 7 142 149 F G (λh=>?_) (λh=>?_) ?_
 exact On 7 7 h
 refine Rl 5 q ?_
 obtain⟨Q,H,h⟩:=ac h
 exact WL.fn q q q q (f111_c H) Lw (aG q q q) q q (On 1 7 h)
 exact Rlx 6 q (FA h)
 exact Rcx 9 q (FA h)

theorem f11_c{t0:ai}{r:Bool}(h:f11 t0=some r):Pu prog 11 [.ag (R33 t0)] (.b r):=by
 unfold f11 at h
 refine fI func11 λ_ _=>?_
 refine Rcl 2 q (Bd q q (Zs _) q (Rll 7 q (Zq (aa E59 t0.insns e22 q q Zl) q (Rll 9 q ?_))))
 refine OG 3 11 14 3 3 ?_
 refine Rl 1 q ?_
 obtain⟨e,f,h⟩:=ac h
 refine Gg 4 15 19 e f (λh=>?_) (λh=>?_) ?_
 exact On 4 4 h
 refine Rl 1 q ?_
 obtain⟨K,g,h⟩:=ac h
 exact WL.fn q q q q (f38_c g) Lw (aG q q q) q q (On 2 4 h)
 refine Rl 1 q ?_
 obtain⟨j,k,h⟩:=ac h
 refine Gg 4 20 24 j k (λh=>?_) (λh=>?_) ?_
 exact On 4 4 h
 refine Rl 1 q ?_
 obtain⟨L,m,h⟩:=ac h
 exact WL.fn q q q q (f39_c m) Lw (aG q q q) q q (On 2 4 h)
 refine Rl 1 q ?_
 obtain⟨p,t,h⟩:=ac h
 refine Gg 4 25 29 p t (λh=>?_) (λh=>?_) ?_
 exact On 4 4 h
 refine Rl 1 q ?_
 obtain⟨M,w,h⟩:=ac h
 exact WL.fn q q q q (f40_c w) Lw (aG q q q) q q (On 2 4 h)
 refine Rl 1 q ?_
 obtain⟨x,y,h⟩:=ac h
 refine Gg 4 30 34 x y (λh=>?_) (λh=>?_) ?_
 exact On 4 4 h
 refine Rl 1 q ?_
 obtain⟨N,A,h⟩:=ac h
 exact WL.fn q q q q (f41_c A) Lw (aG q q q) q q (On 2 4 h)
 refine Rl 1 q ?_
 obtain⟨B,C,h⟩:=ac h
 refine Gg 4 35 39 B C (λh=>?_) (λh=>?_) ?_
 exact On 4 4 h
 refine Rl 1 q ?_
 obtain⟨O,E,h⟩:=ac h
 exact WL.fn q q q q (f42_c E) Lw (aG q q q) q q (On 2 4 h)
 refine Rl 1 q ?_
 obtain⟨F,G,h⟩:=ac h
 refine Gg 4 40 44 F G (λh=>?_) (λh=>?_) ?_
 exact On 4 4 h
 refine Rl 1 q ?_
 obtain⟨P,H,h⟩:=ac h
 exact WL.fn q q q q (f43_c H) Lw (aG q q q) q q (On 2 4 h)
 refine Rlc 2 q (Ci h q (λh=>Rcx 7 q (FA h)) λh=>?_)
 refine Rcc 2 q (Jn0 [(1, .d (.pc (R33 t0))),(3, .n (List.length t0.insns:Int))] [] h (λI h=>?_) λh=>?_)
 refine Rcc 6 q (Ln1 (λa=> [(1, .d (.pc (R33 t0))),(3, .n (List.length t0.insns:Int)),(4, .n a)]) (λ_=> []) (f11_l1 t0 I) h (λ_ h=>by rw[f11_l1] at h;cases h) λn a h=>?_)
 rw[f11_l1] at h
 refine Rcc 8 q (Ci h q (λh=>?_) λh=>?_)
 refine Rcc 5 q (aw kR kR (Rq 4 q ?_))
 obtain⟨Q,c,h⟩:=ac h
 refine WQ.qn (ah e22 q Zl q (af c) (ar dc c) q) q (Rq 1 q ?_)
 obtain⟨R,J,h⟩:=ac h
 refine WQ.q (YieldsQ.fn q q q q q (f44_c J) Lw) (Zw q) q q (Rq 1 q (WQ.nil (Rxc 1 q (Ci h q (λh=>?_) λh=>?_))))
 exact Rcx 11 q (FA h)
 exact Rcx 8 q (Fn1 h)
 exact Rcx 4 q (En0 h)
 refine Rcl 6 q (Ix h e22 dc q Zl q q λS _ h=>(Rll 10 q ?_))
 refine OG 3 67 70 3 3 ?_
 refine Rl 1 q ?_
 refine OG 3 71 74 3 3 ?_
 refine Rl 1 q ?_
 refine OG 3 75 78 3 3 ?_
 exact Rlx 4 q (FA h)

theorem f14_c{t0:ai}{r:lL}(h:f14 t0=some r):Pu prog 14 [.ag (R33 t0)] (.sl (List.map E84 r)):=by
 unfold f14 at h
 refine fI func14 λ_ _=>?_
 refine Rcl 2 q (Bd q q (Zs _) q (Rll 7 q ?_))
 obtain⟨bs,X,h⟩:=ac h
 refine wF Z4 (f11_c X) Lw Z3 (Rlc 3 q (Ci h q (λh=>?_) λh=>?_))
 exact Rcx 7 q (FA h)
 refine Rcl 5 q (WL.nil_os 3 84 1 q (Gh.wl (mc 2 1) (St q (Rlc 2 q ?_))))
 replace h:=aL h
 obtain⟨Q,Y,h⟩:=h
 refine bQ (λenv' st'=>∃(a:Nat),∃(l87:lL),∃(I:Nat),Q l87=some r∧Sub [(1, .d (.pc (R33 t0))),(3, .os 0 a)] env'∧SLe st' [.os 84 1 a (aX 1 I (List.length l87)), .fam 2 1 I (br E2 l87)]) ?_ ?_
 refine Rcc 6 q (cB (λn env' st'=>∃(g:Int),∃(c:Nat),∃(e:lL),∃(j:Nat),f14_l1 t0 Q n g e=some r∧Sub [(1, .d (.pc (R33 t0))),(3, .os 0 c),(4, .n g)] env'∧SLe st' [.os 84 1 c (aX 1 j (List.length e)), .fam 2 1 j (br E2 e)]) (λn=>n) 9223372036854775808 ⟨0,_,([]:lL),_,h,(Sx q (Sx q (Sx q (Sub.nil _)))),⟨Zf,Zf,Zt⟩⟩ ?_)
 rintro n y st1 ⟨g,c,e,j,h,hsub,hst⟩
 rcases n with _|n
 rw[f14_l1] at h;cases h
 rw[f14_l1] at h
 refine WC.sub hsub (WC.weak hst ?_)
 refine Rcl 6 q (Zq (aa E67 t0.objs e27 q q Zl) q (Rlc 3 q (Ci h q (λh=>?_) λh=>?_)))
 refine Rcc 2 q ?_
 replace h:=aL h
 obtain⟨Z,ad,h⟩:=h
 refine bQ (λenv' st'=>∃(A:lL),∃(J:Nat),Z A=some r∧Sub [(1, .d (.pc (R33 t0))),(3, .os 0 (c+1)),(4, .n g)] env'∧SLe st' [.os 84 1 (c+1) (aX 1 J (List.length A)), .fam 2 1 J (br E2 A), .z, .z]) ?_ ?_
 refine Rcl 6 q (Ix h e27 bu q Zl q q λb0 _ h=>(Rl 2 q ?_))
 replace h:=eo h
 obtain⟨a0,h⟩:=h
 refine WL.s ((NewOs.b (NewOs.cast (cW l84 z2 q (Nat.succ_pos _) q q a0) (by exact du (R:=E2) (z:=(0:Int)) q))).does) (Zw q) q q (Rlc 3 q (Jn1 (λ_=> [(1, .d (.pc (R33 t0))),(3, .os 0 c),(4, .n g),(5, .os 2 0)]) (λB=> [.os 84 1 c (aX 1 j (List.length e)), .fam 2 1 j (br E2 e), .os 2 1 0 (eM E2 B)]) h (λa1 h=>?_) λB h=>?_))
 refine Rcc 6 q (Ln2 (λK _=> [(1, .d (.pc (R33 t0))),(3, .os 0 c),(4, .n g),(5, .os 2 0),(6, .n K)]) (λ_ M=> [.os 84 1 c (aX 1 j (List.length e)), .fam 2 1 j (br E2 e), .os 2 1 0 (eM E2 M)]) (f14_l2 t0 g a1) h (λ_ _ h=>by rw[f14_l2] at h;cases h) λna K M h=>?_)
 rw[f14_l2] at h
 refine Rcl 5 q (Zq (ie (bM E2) M e84 q q q) q (Rl 2 q ?_))
 obtain⟨a6,a7,h⟩:=ac h
 refine Gg 8 29 37 a6 a7 (λh=>?_) (λh=>?_) ?_
 refine Rl 3 q ?_
 obtain⟨b1,S,h⟩:=ac h
 refine Zy (ah e27 q Zl q (af S) (ar bu S) q) q q q (Rl 1 q ?_)
 obtain⟨b2,a8,h⟩:=ac h
 exact WL.fn q q q q (f46_c a8) Lw (aG q q q) q q (On 2 8 h)
 exact On 8 8 h
 refine Rlc 2 q (Ci h q (λh=>?_) λh=>?_)
 refine Rcl 10 q (Ix h e27 bu q Zl q q λa' _ h=>(Rl 2 q ?_))
 obtain⟨b3,T,h⟩:=ac h
 exact Zq (oX e84 q q q T) q (WL.s0 (cz (R:=E2) (k:=1) (i:=K) (fo:=0) a'.lo q q q q Zl q q q s2 q (λ_=>q) T q q) (Zw q) q (Rlx 8 q (Fn2 h)))
 exact Rcx 4 q (En1 h)
 refine Rcl 3 q (WL.s (((NewOs.b (fA l37 z84 q dC dC q q q dC))).does) (Zw q) q q ?_)
 replace h:=eo h
 obtain⟨bb,h⟩:=h
 exact WL.s (ud e B l37 z84 q q q q q q q bb) (Zw q) q q (Gh.wl (me (E:=E2) (L:=e) (x':=B) 0 1 2 q q q q q q) (St q (Rlx 3 q (En2 h))))
 rintro y st1 ⟨A,J,h,hsub,hst⟩
 subst ad
 dsimp only at h
 refine WC.sub hsub (WC.weak hst ?_)
 exact Rcx 5 q (WE.drop 2 (env':=[(1, .d (.pc (R33 t0))),(3, .os 0 (c+1)),(4, .n (IntKind.i64.wrap (g+1)))]) Sb q Kv (Nat.zero_le _) (Fn4 h))
 exact Rcx 4 q (En3 h)
 rintro y st1 ⟨a,l87,I,h,hsub,hst⟩
 subst Y
 dsimp only at h
 refine WC.sub hsub (WC.weak hst ?_)
 replace h:=aL h
 obtain⟨U,bk,h⟩:=h
 refine bQ (λenv' st'=>∃(t:lL),∃(N:Nat),U t=some r∧Sub [(3, .os 0 a)] env'∧SLe st' [.os 84 1 a (aX 1 N (List.length t)), .fam 2 1 N (br E2 t)]) ?_ ?_
 refine Rcc 6 q (cB (λn env' st'=>∃(C:Int),∃(f:lL),∃(m:Nat),f14_l3 t0 U n C f=some r∧Sub [(1, .d (.pc (R33 t0))),(3, .os 0 a),(7, .n C)] env'∧SLe st' [.os 84 1 a (aX 1 m (List.length f)), .fam 2 1 m (br E2 f)]) (λn=>n) 9223372036854775808 ⟨0,l87,_,h,(Sx q (Sx q (Sx q (Sub.nil _)))),⟨Zf,Zf,Zt⟩⟩ ?_)
 rintro n y st1 ⟨C,f,m,h,hsub,hst⟩
 rcases n with _|n
 rw[f14_l3] at h;cases h
 rw[f14_l3] at h
 refine WC.sub hsub (WC.weak hst ?_)
 refine Rcl 6 q (Zq (aa E93 t0.inits e28 q q Zl) q (Rlc 3 q (Ci h q (λh=>?_) λh=>?_)))
 refine Rcc 4 q ?_
 obtain⟨p,V,h⟩:=ac h
 obtain⟨F,w,h⟩:=ac h
 obtain⟨O,G,h⟩:=ac h
 obtain⟨P,H,h⟩:=ac h
 obtain⟨b4,W,h⟩:=ac h
 apply RT [_,_,_,_,_,_,_,_,_,_,_,_,_,_,_,_,_,_,_,_,_,_, .u] [8,22] [[.os 84 1 a (List.set (aX 1 (m+1) (List.length f)) (Int.toNat p.o) [.os 2 0]), .fam 2 1 (m+1) (br E2 (List.set f (Int.toNat p.o) [])), .os 2 1 0 (eM E2 F)],[.os 84 1 a (List.set (aX 1 (m+1) (List.length f)) (Int.toNat p.o) [.os 2 0]), .fam 2 1 (m+1) (br E2 (List.set f (Int.toNat p.o) [])), .os 2 1 0 (eM E2 (List.set F (Int.toNat O.slot) P.v))]] [p01 3,p01 1,p10 1,p01 7,p20 2 3,p10 4,p10 5,p20 0 6,p10 7,u01 1,u10 9,u01 7,u20 10 11,u10 12,u10 13,u01 1,u10 15,u01 7,u20 16 17,u10 18,u10 19,q20 8 14 1,q20 21 20 1] kR kR q q
 refine Y4 ?_
 refine zo (λ_=>Zq (ah e28 q Zl q (af V) (ar dU V) q) q (Zd q q q)) ?_
 refine Y2 ?_
 refine zo (λ_=>Zq (eN e37 q q q (af w) (eh w)) q (Zd q q q)) ?_
 refine zo (λ_=>Gh.wl (dJ (L:=f) (x:=F) (i:=p.o) 0 1 q q q w) (Zq (d9 (i:=p.o) q q a84 (bJ w)) q (Zd q q q))) ?_
 refine X2c ?_
 refine⟨⟨λ_=>Zq (ah e28 q Zl q (af G) (ar dU G) q) q (Zd q q q),λ_=>Zq (ah e28 q Zl q (af G) (ar dU G) q) q (Zd q q q),Zt⟩,?_⟩
 refine X2d ?_
 refine X2a ?_
 refine⟨⟨λ_=>Zq (ah e28 q Zl q (af H) (ar dU H) q) q (Zd q q q),λ_=>Zq (ah e28 q Zl q (af H) (ar dU H) q) q (Zd q q q),Zt⟩,?_⟩
 refine X2b ?_
 refine zo (λ_=>Zq (oX e84 q q q W) q (Zd q q q)) ?_
 exact zo (λ_=>WL.s0 (cz (R:=E2) (k:=1) (i:=O.slot) (fo:=0) P.v q q q q Zl q q q s2 q (λ_=>q) W q q) (Zw q) q (cZ q q)) Zt
 exact km (dK (L0:=f) (x':=(List.set F (Int.toNat O.slot) P.v)) 0 1 2 q q q q q (bJ w)) (Rxx 7 q (WE.drop 2 (env':=[(1, .d (.pc (R33 t0))),(3, .os 0 a),(7, .n (IntKind.i64.wrap (C+1)))]) Sb q Kv (Nat.zero_le _) (Fn3 h)))
 exact Rcx 4 q (En2 h)
 rintro y st1 ⟨t,N,h,hsub,hst⟩
 subst bk
 dsimp only at h
 refine WC.sub hsub (WC.weak hst ?_)
 refine Rcx 7 q (km (jg (E:=E2) (R':=E2) (L:=t) 0 1 oV q q q) ?_)
 exact WE.freezeX [3,82,2] [] 0 _ q (an gd _) ⟨q,q,q,Zt⟩ Zt (FA h)

theorem f12_c{a0:lL}{b1:lL}{r:Bool}(h:f12 a0 b1=some r):Pu prog 12 [.sl (List.map E84 a0), .sl (List.map E84 b1)] (.b r):=by
 unfold f12 at h
 refine fI func12 λ_ _=>?_
 refine Rcl 9 q (Zq (aa E84 a0 e37 q q Zl) q (Rl 1 q (Zq (aa E84 b1 e37 q q Zl) q (Rlc 3 q (Ci h q (λh=>?_) λh=>?_)))))
 exact Rcx 7 q (FA h)
 refine Rcc 2 q (Jn0 [] [] h (λm h=>?_) λh=>?_)
 refine Rcc 6 q (Ln1 (λa=> [(0, .l E84 a0),(1, .l E84 b1),(5, .n a)]) (λ_=> []) (f12_l1 a0 b1 m) h (λ_ h=>by rw[f12_l1] at h;cases h) λn a h=>?_)
 rw[f12_l1] at h
 refine Rcl 5 q (Zq (aa E84 a0 e37 q q Zl) q (Rlc 3 q (Ci h q (λh=>?_) λh=>?_)))
 refine Rcc 2 q (Jn0 [(0, .l E84 a0),(1, .l E84 b1),(5, .n a)] [] h (λp h=>?_) λh=>?_)
 refine Rcc 3 q (aw kR kR (Rq 2 q ?_))
 obtain⟨t,c,h⟩:=ac h
 refine WQ.qn (ah e37 q Zl q (af c) (ar gd c) q) q (Rq 1 q (WQ.qn (aa E2 t e84 q q Zl) q (Rq 2 q ?_)))
 obtain⟨w,d,h⟩:=ac h
 refine WQ.qn (ah e37 q Zl q (af d) (ar gd d) q) q (Rq 1 q (WQ.qn (aa E2 w e84 q q Zl) q (Rq 1 q (WQ.nil (Rxc 1 q (Ci h q (λh=>?_) λh=>?_))))))
 exact Rcx 12 q (FA h)
 refine Rcc 8 q (Ln1 (λe=> [(0, .l E84 a0),(1, .l E84 b1),(5, .n a),(6, .n e)]) (λ_=> []) (f12_l2 a0 b1 a p) h (λ_ h=>by rw[f12_l2] at h;cases h) λna e h=>?_)
 rw[f12_l2] at h
 refine Rcl 6 q (Ix h e37 gd q Zl q q λx _ h=>(Rl 1 q (Zq (aa E2 x e84 q q Zl) q (Rlc 3 q (Ci h q (λh=>?_) λh=>?_)))))
 refine Rcc 5 q (aw kR kR (Rq 2 q ?_))
 obtain⟨y,f,h⟩:=ac h
 refine WQ.qn (ah e37 q Zl q (af f) (ar gd f) q) q (Rq 2 q ?_)
 obtain⟨A,g,h⟩:=ac h
 refine WQ.qn (ah e84 q Zl q (af g) (ar oV g) q) q (Rq 3 q ?_)
 obtain⟨B,j,h⟩:=ac h
 refine WQ.qn (ah e37 q Zl q (af j) (ar gd j) q) q (Rq 2 q ?_)
 obtain⟨C,k,h⟩:=ac h
 refine WQ.qn (ah e84 q Zl q (af k) (ar oV k) q) q (Rq 2 q (WQ.nil (Rxc 1 q (Ci h q (λh=>?_) λh=>?_))))
 exact Rcx 15 q (FA h)
 exact Rcx 8 q (Fn1 h)
 exact Rcx 5 q (En0 h)
 exact Rcx 5 q (Fn1 h)
 exact Rcx 4 q (En0 h)
 exact Rcx 6 q (FA h)

end Go.Proofs.YtejcfgjpdocaoaaGreatDoor
