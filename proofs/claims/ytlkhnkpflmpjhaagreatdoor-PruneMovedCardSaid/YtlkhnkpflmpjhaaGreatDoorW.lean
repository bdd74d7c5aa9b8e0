/- The walks of functions. -/
import Derived.Test.YtlkhnkpflmpjhaaGreatDoorX
set_option linter.unusedVariables false
set_option linter.unusedSimpArgs false
set_option linter.unusedSectionVars false
set_option linter.unnecessarySimpa false
set_option maxHeartbeats 4000000
set_option maxRecDepth 100000
namespace Go.Proofs.YtlkhnkpflmpjhaaGreatDoor
open Tryz
open Go Go.Sk

theorem f78_c{t0:aC}{o1:Obj}{r:Bool}(h:f78 t0 o1=some r):Pu prog 78 [.ag (aF t0), .ag (R50 o1)] (.b r):=by
 unfold f78 at h
 refine fI func78 λ_ _=>?_
 refine Rcl 2 q (Bd q q (Zs _) q (Bd q q (Zs _) q (Rll 10 q ?_)))
 refine OG 4 11 15 4 4 ?_
 refine Rl 1 q ?_
 refine OG 6 16 22 6 6 ?_
 refine Rlc 2 q (Ci h q (λh=>Rcx 7 q (FA h)) λh=>?_)
 refine Rcc 10 q (Ci h q (λh=>Rcl 4 q (Zq (aa E3 o1.set_ e22 q q Zl) q (Rlx 6 q (FA h)))) λh=>?_)
 refine Rcc 7 q (Jn0 [(3, .d (.pc (R50 o1)))] [] h (λg h=>?_) λh=>?_)
 refine Rcl 4 q (Zq (aa E3 o1.set_ e22 q q Zl) q (Rlc 4 q (Ln2 (λa c=> [(2, .d (.pc (aF t0))),(3, .d (.pc (R50 o1))),(5, .n a),(31, .l E3 o1.set_),(32, .n (List.length o1.set_:Int)),(33, .n c)]) (λ_ _=> []) (f78_l1 t0 o1 g) h (λ_ _ h=>by rw[f78_l1] at h;cases h) λn a c h=>?_)))
 rw[f78_l1] at h
 refine Rcc 6 q (Ci h q (λh=>?_) λh=>?_)
 refine Rcl 6 q (Ix h e22 dN q Zl q q λp _ h=>(Rll 11 q ?_))
 apply WL.or 7 (t:=40) (d:=47)
 exact q
 intro w
 exact Rl 4 q (Zy (aa E50 t0.text.objs e32 q q Zl) q q q (Rl 2 q (WL.nil ⟨q,[_,_,_,_,_,_,_],q,q,q⟩)))
 exact Rn 7 7
 refine Rl 1 q ?_
 obtain⟨j,k,h⟩:=ac h
 refine Gg 9 48 57 j k (λh=>?_) (λh=>?_) ?_
 exact On 9 9 h
 refine Rl 4 q ?_
 obtain⟨x,e,h⟩:=ac h
 exact Zy (az e32 q Zl q (aq e) (aV eK e) q) q q q (On 4 9 h)
 refine Rl 1 q ?_
 obtain⟨m,o,h⟩:=ac h
 refine Gg 8 58 66 m o (λh=>?_) (λh=>?_) ?_
 exact On 8 8 h
 refine Rl 4 q ?_
 obtain⟨y,f,h⟩:=ac h
 exact Zy (az e32 q Zl q (aq f) (aV eK f) q) q q q (On 3 8 h)
 exact Rlc 2 q (Ci h q (λh=>Rcx 12 q (FA h)) λh=>Rcx 12 q (Fn2 h))
 exact Rcx 4 q (En0 h)
 refine Rcl 6 q ?_
 refine AG 4 72 76 4 4 ?_
 exact Rlx 4 q (FA h)

theorem f79_c{t0:aC}{o1:Int}{a:Int}{c:Int}{r:Bool}(h:f79 t0 o1 a c=some r):Pu prog 79 [.ag (aF t0), .i .i64 o1, .i .i64 a, .i .i64 c] (.b r):=by
 unfold f79 at h
 refine fI func79 λ_ _=>?_
 refine Rcl 2 q (Bd q q (Zs _) q (Rll 8 q ?_))
 apply WL.and 7 (t:=11) (d:=18)
 exact q
 intro j
 exact Rl 4 q (Zy (aa E50 t0.text.objs e32 q q Zl) q q q (Rl 2 q (WL.nil ⟨q,[_,_,_,_,_,_,_],q,q,q⟩)))
 exact Rn 7 7
 refine Rl 1 q ?_
 refine AG 3 19 22 3 3 ?_
 refine Rl 1 q ?_
 obtain⟨f,g,h⟩:=ac h
 refine Gg 12 23 35 f g (λh=>?_) (λh=>?_) ?_
 refine Rl 5 q ?_
 obtain⟨k,e,h⟩:=ac h
 exact Zy (az e32 q Zl q (aq e) (aV eK e) q) q q q (On 6 12 h)
 exact On 12 12 h
 exact Rlx 4 q (FA h)

theorem f144_c(s0:lI)(a:Int→oB)(g1:FuncId)(c e:lD)(g:∀(y0:Int)(r:Bool),a y0=some r→Pu prog g1 (c++ [.i .i64 y0]++e) (.b r)){r:Int}(h:f144 s0 a=some r):Pu prog 144 [.sl (List.map E3 s0), .fnc (.func g1) c e] (.i .i64 r):=by
 unfold f144 at h
 refine fI func144 λ_ _=>?_
 refine WC.cast 1 q (d2 _ _ _) (Rcc 5 q (Jn0 [] [] h (λj h=>?_) λh=>?_))
 refine Rcl 3 q (Zq (aa E3 s0 e22 q q Zl) q (Rlc 4 q (Ln1 (λf=> [(0, .l E3 s0),(1, .fn (.func g1) (List.map AV.d c) (List.map AV.d e)),(7, .n (List.length s0:Int)),(8, .n f)]) (λ_=> []) (f144_l1 s0 a j) h (λ_ h=>by rw[f144_l1] at h;cases h) λn f h=>?_)))
 rw[f144_l1] at h
 refine Rcc 6 q (Ci h q (λh=>?_) λh=>?_)
 refine Rcl 15 q (Ix h e22 dN q Zl q q λm _ h=>(Rl 1 q ?_))
 obtain⟨o,k,h⟩:=ac h
 refine WL.fn q q q q (g _ _ k) (jC Lw) (Zw q) q q (Rlc 2 q (Ci h q (λh=>?_) λh=>?_))
 exact Rcx 12 q (FA h)
 exact Rcx 7 q (Fn1 h)
 exact Rcx 4 q (En0 h)
 exact Rcx 6 q (FA h)

theorem f109_c(s0:lI)(d:Int→oB)(g1:FuncId)(a c:lD)(e:∀(y0:Int)(r:Bool),d y0=some r→Pu prog g1 (a++ [.i .i64 y0]++c) (.b r)){r:Bool}(h:f109 s0 d=some r):Pu prog 109 [.sl (List.map E3 s0), .fnc (.func g1) a c] (.b r):=by
 unfold f109 at h
 refine fI func109 λ_ _=>?_
 refine WC.cast 1 q (d2 _ _ _) (Rcl 9 q ?_)
 obtain⟨g,f,h⟩:=ac h
 exact wF Z4 (f144_c _ _ g1 a c e f) ⟨Zl,(Le.fnc (Zs _) (Zs _)),Zt⟩ Z3 (Rlx 5 q (FA h))

theorem f110_c(n0:Int)(a:Int):Pu prog 110 [.i .i64 n0, .pc (E2 a)] (.b (f110 n0 a)):=by
 generalize h:f110 n0 a=r
 unfold f110 at h
 refine fI func110 λ_ _=>?_
 exact Rcx 15 q (FB h)

theorem f80_c{o0:Obj}{v1:Int}{r:Bool}(h:f80 o0 v1=some r):Pu prog 80 [.ag (R50 o0), .i .i64 v1] (.b r):=by
 unfold f80 at h
 refine fI func80 λ_ _=>?_
 refine Rcl 2 q (Bd q q (Zs _) q (WL.s ((jx q q (by exact(show Les [.n v1] (List.map AV.d [.i .i64 v1]) from Lw))).does) (Zw q) q q (Rlc 10 q (Ci h q (λh=>?_) λh=>?_))))
 refine Rcl 5 q ?_
 obtain⟨a,c,h⟩:=ac h
 refine Gg 5 9 14 a c (λh=>?_) (λh=>?_) ?_
 exact On 5 5 h
 refine Rl 3 q ?_
 obtain⟨f,e,h⟩:=ac h
 exact WL.fn q q q q (f109_c _ _ 110 [] [(.pc (E2 v1))] (λz0 _ h=>by obtain rfl:=inS h;exact f110_c z0 v1) e) ⟨Zl,(Le.fnc Zt Lw),Zt⟩ (aP q q q) q q (On 1 5 h)
 exact Rlx 5 q (FA h)
 refine Rcl 9 q ?_
 refine AG 5 19 24 5 5 ?_
 exact Rlx 4 q (FA h)

theorem f50_c{t0:aC}{r:Bool}(h:f50 t0=some r):Pu prog 50 [.ag (aF t0)] (.b r):=by
 unfold f50 at h
 refine fI func50 λ_ _=>?_
 refine Rcl 2 q (Bd q q (Zs _) q (Rll 9 q (Zq (aa E50 t0.text.objs e32 q q Zl) q (Rl 2 q ?_))))
 refine OG 5 15 20 5 5 ?_
 refine Rl 1 q ?_
 refine OG 5 21 26 5 5 ?_
 refine Rlc 2 q (Ci h q (λh=>Rcx 7 q (FA h)) λh=>?_)
 refine Rcc 7 q (Jn1 (λc=> [(1, .d (.pc (aF t0))),(3, .n c)]) (λ_=> []) h (λC h=>?_) λc h=>?_)
 refine Rcl 5 q (Zq (aa E50 t0.text.objs e32 q q Zl) q (Rlc 4 q (Ln2 (λf g=> [(1, .d (.pc (aF t0))),(3, .n f),(29, .l E50 t0.text.objs),(30, .n (List.length t0.text.objs:Int)),(31, .n g)]) (λ_ _=> []) (f50_l1 t0 C) h (λ_ _ h=>by rw[f50_l1] at h;cases h) λn f g h=>?_)))
 rw[f50_l1] at h
 refine Rcc 6 q (Ci h q (λh=>?_) λh=>?_)
 refine Rcl 6 q (Ix h e32 eK q Zl q q λE _ h=>(Rl 1 q (Al z50 q (sS Z6 s50 Z2 (Rll 7 q ?_)))))
 obtain⟨L,F,h⟩:=ac h
 refine wF Z4 (f78_c F) ⟨Zl,(ay (Zs _)),Zt⟩ Z3 (Rlc 3 q (Ci h q (λh=>?_) λh=>?_))
 exact Rcx 12 q (FA h)
 exact Rcx 15 q (WE.drop 0 (env':=[(1, .d (.pc (aF t0))),(3, .n (IntKind.i64.wrap (f+E.size))),(29, .l E50 t0.text.objs),(30, .n (List.length t0.text.objs:Int)),(31, .n (IntKind.i64.wrap (g+1)))]) Sb q q (Nat.zero_le _) (Fn2 h))
 exact Rcx 4 q (En1 h)
 refine Rcl 2 q (WL.s ((dY (α:=Bool) (λx:Int×Int=>Value.agg ⟨[Value.int .i64 x.1,Value.int .i64 x.2]⟩) (λx:Bool=>AV.d (.b x))).does) (Zw q) q q (Rlc 3 q (Jn1 (λ_=> [(3, .n c)]) (λw=> [mpO (λx:Int×Int=>Value.agg ⟨[Value.int .i64 x.1,Value.int .i64 x.2]⟩) (λx:Bool=>AV.d (.b x)) w]) h (λG h=>?_) λw h=>?_)))
 refine Rcl 5 q (Zq (aa E62 t0.text.inits e33 q q Zl) q (Rlc 4 q (Ln2 (λj _=> [(1, .d (.pc (aF t0))),(3, .n c),(6, .mp 0),(47, .l E62 t0.text.inits),(48, .n (List.length t0.text.inits:Int)),(49, .n j)]) (λ_ e=> [mpO (λx:Int×Int=>Value.agg ⟨[Value.int .i64 x.1,Value.int .i64 x.2]⟩) (λx:Bool=>AV.d (.b x)) e]) (f50_l2 t0 G) h (λ_ _ h=>by rw[f50_l2] at h;cases h) λn j e h=>?_)))
 rw[f50_l2] at h
 refine Rcc 6 q (Ci h q (λh=>?_) λh=>?_)
 refine Rcl 6 q (Ix h e33 r7 q Zl q q λa _ h=>(Rl 1 q (Al z62 q (sS Z6 s62 Z2 (Rll 8 q (Zq (aU p157 z157 q q) q (Al z157 q (sS Z6 s157 Z2 (Rlc 4 q (br kR kR (Rq 2 q (WQ.qn (kT (λx:Int×Int=>Value.agg ⟨[Value.int .i64 x.1,Value.int .i64 x.2]⟩) (λx:Bool=>AV.d (.b x)) e (k:=(a.o,a.slot)) (z:=false) (vs:=[.int .i64 a.o, .int .i64 a.slot]) underlying155 (fR underlying157 underlying3 underlying3 q q kR) q q q (ay (Zs _)) q kR q) q (Rq 1 q ?_)))))))))))))
 obtain⟨H,y,h⟩:=ac h
 apply WQ.grp 8 (t:=61) (d:=69) (z:=H)
 exact q
 intro m
 have h:=gc y m
 refine Rq 8 q ?_
 obtain rfl:=Oi h
 exact WQ.nil ⟨[_,_,_,_,_,_,_,_],q,q,q⟩
 intro m
 have h:=gd y m
 refine Rq 5 q ?_
 obtain⟨M,I,h⟩:=ac h
 refine WQ.q (YieldsQ.fn q q q q q (f79_c I) Lw) (aP q q q) q q (Rq 2 q ?_)
 obtain rfl:=Oi h
 exact WQ.nil ⟨[_,_,_,_,_,_,_,_],q,q,q⟩
 refine Rq 1 q ?_
 obtain⟨J,A,h⟩:=ac h
 apply WQ.grp 12 (t:=70) (d:=82) (z:=J)
 exact q
 intro p
 have h:=gc A p
 refine Rq 12 q ?_
 obtain rfl:=Oi h
 exact WQ.nil ⟨[_,_,_,_,_,_,_,_,_,_,_,_],q,q,q⟩
 intro p
 have h:=gd A p
 refine Rq 5 q ?_
 obtain⟨N,B,h⟩:=ac h
 refine WQ.qy (az e32 q Zl q (aq B) (aV eK B) q) q q q (Rq 3 q ?_)
 obtain⟨O,K,h⟩:=ac h
 refine WQ.q (YieldsQ.fn q q q q q (f80_c K) Lw) (aP q q q) q q (Rq 2 q ?_)
 obtain rfl:=Oi h
 exact WQ.nil ⟨[_,_,_,_,_,_,_,_,_,_,_,_],q,q,q⟩
 refine WQ.nil (Rxc 1 q (Ci h q (λh=>?_) λh=>?_))
 exact Rcx 12 q (FA h)
 exact Rcl 5 q (WL.s0 (ij (λx:Int×Int=>Value.agg ⟨[Value.int .i64 x.1,Value.int .i64 x.2]⟩) (λx:Bool=>AV.d (.b x)) e (k:=(a.o,a.slot)) (vs:=[.int .i64 a.o, .int .i64 a.slot]) (.inr q) underlying155 (fR underlying157 underlying3 underlying3 q q kR) q q q (ay (Zs _)) q q) (Zw q) q (Rlx 7 q (WE.drop 1 (env':=[(1, .d (.pc (aF t0))),(3, .n c),(6, .mp 0),(47, .l E62 t0.text.inits),(48, .n (List.length t0.text.inits:Int)),(49, .n (IntKind.i64.wrap (j+1)))]) Sb q (iq (n8 _ (λx:Int×Int=>Value.agg ⟨[Value.int .i64 x.1,Value.int .i64 x.2]⟩) (λx:Bool=>(.b x:D)) _) q) (Nat.zero_le _) (Fn2 h))))
 exact Rcx 4 q (En1 h)
 exact Rcx 8 q (FA h)

theorem f75_c{t0:aC}{a1:Int}:Pu prog 75 [.ag (aF t0), .i .i64 a1] (.b (f75 t0 a1)):=by
 generalize h:f75 t0 a1=r
 unfold f75 at h
 refine fI func75 λ_ _=>?_
 refine Rcl 2 q (Bd q q (Zs _) q (Rll 8 q ?_))
 apply WL.and 7 (t:=7) (d:=14)
 exact q
 intro a
 exact Rl 4 q (Zy (aa E45 t0.text.insns e27 q q Zl) q q q (Rl 2 q (WL.nil ⟨q,[_,_,_,_,_,_,_],q,q,q⟩)))
 exact Rn 7 7
 exact Rlx 4 q (FB h)

theorem f111_c(s0:List bS)(a:bS→oB)(g1:FuncId)(c e:lD)(g:∀(y0:bS)(r:Bool),a y0=some r→Pu prog g1 (c++ [.ag (R68 y0)]++e) (.b r)){r:Int}(h:f111 s0 a=some r):Pu prog 111 [.sl (List.map E68 s0), .fnc (.func g1) c e] (.i .i64 r):=by
 unfold f111 at h
 refine fI func111 λ_ _=>?_
 refine WC.cast 1 q (d2 _ _ _) (Rcc 5 q (Jn0 [] [] h (λj h=>?_) λh=>?_))
 refine Rcl 3 q (Zq (aa E68 s0 e55 q q Zl) q (Rlc 4 q (Ln1 (λf=> [(0, .l E68 s0),(1, .fn (.func g1) (List.map AV.d c) (List.map AV.d e)),(7, .n (List.length s0:Int)),(8, .n f)]) (λ_=> []) (f111_l1 s0 a j) h (λ_ h=>by rw[f111_l1] at h;cases h) λn f h=>?_)))
 rw[f111_l1] at h
 refine Rcc 6 q (Ci h q (λh=>?_) λh=>?_)
 refine Rcl 15 q (Ix h e55 o7 q Zl q q λm _ h=>(Rl 1 q ?_))
 obtain⟨o,k,h⟩:=ac h
 refine WL.fn q q q q (g _ _ k) (jC Lw) (Zw q) q q (Rlc 2 q (Ci h q (λh=>?_) λh=>?_))
 exact Rcx 12 q (FA h)
 exact Rcx 7 q (Fn1 h)
 exact Rcx 4 q (En0 h)
 exact Rcx 6 q (FA h)

theorem f81_c(s0:List bS)(d:bS→oB)(g1:FuncId)(a c:lD)(e:∀(y0:bS)(r:Bool),d y0=some r→Pu prog g1 (a++ [.ag (R68 y0)]++c) (.b r)){r:Bool}(h:f81 s0 d=some r):Pu prog 81 [.sl (List.map E68 s0), .fnc (.func g1) a c] (.b r):=by
 unfold f81 at h
 refine fI func81 λ_ _=>?_
 refine WC.cast 1 q (d2 _ _ _) (Rcl 9 q ?_)
 obtain⟨g,f,h⟩:=ac h
 exact wF Z4 (f111_c _ _ g1 a c e f) ⟨Zl,(Le.fnc (Zs _) (Zs _)),Zt⟩ Z3 (Rlx 5 q (FA h))

theorem f112_c(o0:Int)(a:aC){r:Bool}(h:f112 o0 a=some r):Pu prog 112 [.i .i64 o0, .pc (aF a)] (.b r):=by
 unfold f112 at h
 refine fI func112 λ_ _=>?_
 refine Rcl 10 q ?_
 apply WL.or 7 (t:=6) (d:=13)
 exact q
 intro g
 exact Rl 4 q (Zy (aa E50 a.text.objs e32 q q Zl) q q q (Rl 2 q (WL.nil ⟨q,[_,_,_,_,_,_,_],q,q,q⟩)))
 exact Rn 7 7
 refine Rl 1 q ?_
 obtain⟨e,f,h⟩:=ac h
 refine Gg 9 14 23 e f (λh=>?_) (λh=>?_) ?_
 exact On 9 9 h
 refine Rl 4 q ?_
 obtain⟨j,c,h⟩:=ac h
 exact Zy (az e32 q Zl q (aq c) (aV eK c) q) q q q (On 4 9 h)
 exact Rlx 4 q (FA h)

theorem f83_c{t0:aC}{l1:lI}{r:Bool}(h:f83 t0 l1=some r):Pu prog 83 [.ag (aF t0), .sl (List.map E3 l1)] (.b r):=by
 unfold f83 at h
 refine fI func83 λ_ _=>?_
 refine Rcl 2 q (Bd q q (Zs _) q (Rll 6 q (Zq (aa E3 l1 e22 q q Zl) q (Rl 2 q ?_))))
 obtain⟨a,c,h⟩:=ac h
 refine Gg 5 8 13 a c (λh=>?_) (λh=>?_) ?_
 refine Rl 2 q ?_
 obtain⟨e,d,h⟩:=ac h
 exact WL.fn q q q q (f109_c _ _ 112 [] [(.pc (aF t0))] (λz0 _ h=>f112_c z0 t0 h) d) ⟨Zl,(Le.fnc Zt Lw),Zt⟩ (aP q q q) q q (On 2 5 h)
 exact On 5 5 h
 exact Rlx 4 q (FA h)

theorem f82_c(e0:bS)(a:aC){r:Bool}(h:f82 e0 a=some r):Pu prog 82 [.ag (R68 e0), .pc (aF a)] (.b r):=by
 unfold f82 at h
 refine fI func82 λ_ _=>?_
 refine Rcl 2 q (Bd q q (Zs _) q (Rll 8 q ?_))
 obtain⟨g,c,h⟩:=ac h
 refine wF Z4 (f83_c c) Lw Z3 (Rl 2 q ?_)
 obtain⟨d,e,h⟩:=ac h
 refine Gg 6 9 15 d e (λh=>?_) (λh=>?_) ?_
 exact On 6 6 h
 refine Rl 3 q ?_
 obtain⟨j,f,h⟩:=ac h
 exact WL.fn q q q q (f83_c f) Lw (aP q q q) q q (On 2 6 h)
 exact Rlx 4 q (FA h)

theorem f51_c{t0:aC}{r:Bool}(h:f51 t0=some r):Pu prog 51 [.ag (aF t0)] (.b r):=by
 unfold f51 at h
 refine fI func51 λ_ _=>?_
 refine Rcl 2 q (Bd q q (Zs _) q (Rll 9 q (Zq (aa E57 t0.text.tasks e34 q q Zl) q (Rl 2 q ?_))))
 apply WL.or 6 (t:=10) (d:=16)
 exact q
 intro g
 exact Rl 3 q (Zy (aa E57 t0.text.tasks e34 q q Zl) q q q (Rl 2 q (WL.nil ⟨q,[_,_,_,_,_,_],q,q,q⟩)))
 exact Rn 6 6
 refine Rlc 2 q (Ci h q (λh=>Rcx 7 q (FA h)) λh=>?_)
 refine Rcc 2 q (Jn0 [] [] h (λc h=>?_) λh=>?_)
 refine Rcl 5 q (Zq (aa E57 t0.text.tasks e34 q q Zl) q (Rlc 4 q (Ln1 (λa=> [(1, .d (.pc (aF t0))),(19, .l E57 t0.text.tasks),(20, .n (List.length t0.text.tasks:Int)),(21, .n a)]) (λ_=> []) (f51_l1 t0 c) h (λ_ h=>by rw[f51_l1] at h;cases h) λn a h=>?_)))
 rw[f51_l1] at h
 refine Rcc 6 q (Ci h q (λh=>?_) λh=>?_)
 refine Rcl 6 q (Ix h e34 lv q Zl q q λe _ h=>(Rl 1 q (Al z57 q (sS Z6 s57 Z2 (Rll 9 q ?_)))))
 refine OG 4 28 32 4 4 ?_
 refine Rl 1 q ?_
 apply WL.or 6 (t:=33) (d:=39)
 exact q
 intro j
 exact Rl 3 q (WL.fn q q q q (f75_c) Lw (aP q q q) q q (Rl 2 q (WL.nil ⟨q,[_,_,_,_,_,_],q,q,q⟩)))
 exact Rn 6 6
 refine Rl 1 q ?_
 refine OG 4 40 44 4 4 ?_
 refine Rl 1 q ?_
 refine OG 4 45 49 4 4 ?_
 refine Rl 1 q ?_
 apply WL.or 5 (t:=50) (d:=55)
 exact q
 intro k
 exact Rl 2 q (Zy (aa E68 e.entries e55 q q Zl) q q q (Rl 2 q (WL.nil ⟨q,[_,_,_,_,_],q,q,q⟩)))
 exact Rn 5 5
 refine Rlc 2 q (Ci h q (λh=>Rcx 12 q (FA h)) λh=>?_)
 refine Rcl 7 q ?_
 obtain⟨m,f,h⟩:=ac h
 refine wF Z4 (f81_c _ _ 82 [] [(.pc (aF t0))] (λz0 _ h=>f82_c z0 t0 h) f) ⟨Zl,(Le.fnc Zt Lw),Zt⟩ Z3 (Rlc 2 q (Ci h q (λh=>?_) λh=>?_))
 exact Rcx 11 q (FA h)
 exact Rcx 7 q (WE.drop 0 (env':=[(1, .d (.pc (aF t0))),(19, .l E57 t0.text.tasks),(20, .n (List.length t0.text.tasks:Int)),(21, .n (IntKind.i64.wrap (a+1)))]) Sb q q (Nat.zero_le _) (Fn1 h))
 exact Rcx 4 q (En0 h)
 exact Rcx 6 q (FA h)

theorem f52_c{t0:aC}{r:Bool}(h:f52 t0=some r):Pu prog 52 [.ag (aF t0)] (.b r):=by
 unfold f52 at h
 refine fI func52 λ_ _=>?_
 refine Rcl 2 q (Bd q q (Zs _) q (Rll 9 q (Zq (aa E22 t0.text.lists e31 q q Zl) q (Rlc 3 q (Ci h q (λh=>?_) λh=>?_)))))
 exact Rcx 7 q (FA h)
 refine Rcc 2 q (Jn0 [] [] h (λk h=>?_) λh=>?_)
 refine Rcl 5 q (Zq (aa E22 t0.text.lists e31 q q Zl) q (Rlc 4 q (Ln1 (λc=> [(1, .d (.pc (aF t0))),(15, .l E22 t0.text.lists),(16, .n (List.length t0.text.lists:Int)),(17, .n c)]) (λ_=> []) (f52_l1 t0 k) h (λ_ h=>by rw[f52_l1] at h;cases h) λn c h=>?_)))
 rw[f52_l1] at h
 refine Rcc 6 q (Ci h q (λh=>?_) λh=>?_)
 refine Rcc 2 q (Jn1 (λ_=> [(1, .d (.pc (aF t0))),(15, .l E22 t0.text.lists),(16, .n (List.length t0.text.lists:Int)),(17, .n c)]) (λf=> [mpO (λx:Int=>Value.int .i64 x) (λx:Bool=>AV.d (.b x)) f]) h (λ_ h=>?_) λf h=>?_)
 refine Rcl 3 q (Ix h e31 r8 q Zl q q λa _ h=>(Rll 6 q (WL.s ((dY (α:=Bool) (λx:Int=>Value.int .i64 x) (λx:Bool=>AV.d (.b x))).does) (Zw q) q q (Rlc 3 q (Jn1 (λ_=> [(1, .d (.pc (aF t0))),(4, .l E3 a),(15, .l E22 t0.text.lists),(16, .n (List.length t0.text.lists:Int)),(17, .n c)]) (λg=> [mpO (λx:Int=>Value.int .i64 x) (λx:Bool=>AV.d (.b x)) g]) h (λm h=>?_) λg h=>?_)))))
 refine Rcl 3 q (Zq (aa E3 a e22 q q Zl) q (Rlc 4 q (Ln2 (λj _=> [(1, .d (.pc (aF t0))),(4, .l E3 a),(5, .mp 0),(15, .l E22 t0.text.lists),(16, .n (List.length t0.text.lists:Int)),(17, .n c),(22, .l E3 a),(23, .n (List.length a:Int)),(24, .n j)]) (λ_ e=> [mpO (λx:Int=>Value.int .i64 x) (λx:Bool=>AV.d (.b x)) e]) (f52_l2 t0 a m) h (λ_ _ h=>by rw[f52_l2] at h;cases h) λna j e h=>?_)))
 rw[f52_l2] at h
 refine Rcc 6 q (Ci h q (λh=>?_) λh=>?_)
 refine Rcl 6 q (Ix h e22 dN q Zl q q λo _ h=>(Rll 10 q ?_))
 apply WL.or 7 (t:=30) (d:=37)
 exact q
 intro p
 exact Rl 4 q (Zy (aa E57 t0.text.tasks e34 q q Zl) q q q (Rl 2 q (WL.nil ⟨q,[_,_,_,_,_,_,_],q,q,q⟩)))
 exact Rn 7 7
 refine Rl 1 q ?_
 apply WL.or 4 (t:=38) (d:=42)
 exact q
 intro w
 exact Rl 2 q (Zy (jM (λx:Int=>Value.int .i64 x) (λx:Bool=>AV.d (.b x)) e (z:=false) underlying48 underlying3 (KeyF.int .i64) q q q kR q) q q q (Rl 1 q (WL.nil ⟨q,[_,_,_,_],q,q,q⟩)))
 exact Rn 4 4
 refine Rlc 2 q (Ci h q (λh=>Rcx 17 q (FA h)) λh=>?_)
 exact Rcl 5 q (WL.s0 (dH (λx:Int=>Value.int .i64 x) (λx:Bool=>AV.d (.b x)) e (.inr q) underlying48 underlying3 (KeyF.int .i64) q q q q) (Zw q) q (Rlx 7 q (Fn2 h)))
 exact Rcx 4 q (En1 h)
 refine Rcl 3 q (Zq (aa E3 a e22 q q Zl) q (Rlc 3 q (Ci h q (λh=>?_) λh=>?_)))
 exact Rcx 11 q (FA h)
 exact Rcx 2 q (En1 h)
 exact Rcx 4 q (WE.drop 0 (env':=[(1, .d (.pc (aF t0))),(15, .l E22 t0.text.lists),(16, .n (List.length t0.text.lists:Int)),(17, .n (IntKind.i64.wrap (c+1)))]) Sb q q (Nat.zero_le _) (Fn1 h))
 exact Rcx 4 q (En0 h)
 exact Rcx 6 q (FA h)

theorem f84s_c(b3:lN→lH→lP→lS→lL→lO→lT→Int→lK→lM→lC→Int→Int→a9→Int→Option (Bool×lN×lH×lP×lS×lL×lO×lT×Int×lK×lM×lC×Int×Int))(e:lN)(f:lH)(g:lP)(j:lS)(k:lL)(m:lO)(p:lT)(w:Int)(x:lK)(y:lM)(A:lC)(jent:Int)(jleft:Int)(e1:a9)(B:Int)(fz:∀(e:lN)(f:lH)(g:lP)(j:lS)(k:lL)(m:lO)(p:lT)(w:Int)(x:lK)(y:lM)(A:lC)(jent:Int)(jleft:Int)(x1:a9)(x2:Int)(r:Bool×lN×lH×lP×lS×lL×lO×lT×Int×lK×lM×lC×Int×Int),b3 e f g j k m p w x y A jent jleft x1 x2=some r→Ctr prog 84 [.pt 0 0, .d (.ag (R76 x1)), .n x2] [.row 164 [.l E45 e, .l E88 f, .l E90 g, .l E82 j, .l E22 k, .l E50 m, .l E62 p, .n w, .l E57 x, .l E71 y, .l E79 A, .n jent, .n jleft]] (nl 1 (.b r.1) (λ_=> [.row 164 [.l E45 r.2.1, .l E88 r.2.2.1, .l E90 r.2.2.2.1, .l E82 r.2.2.2.2.1, .l E22 r.2.2.2.2.2.1, .l E50 r.2.2.2.2.2.2.1, .l E62 r.2.2.2.2.2.2.2.1, .n r.2.2.2.2.2.2.2.2.1, .l E57 r.2.2.2.2.2.2.2.2.2.1, .l E71 r.2.2.2.2.2.2.2.2.2.2.1, .l E79 r.2.2.2.2.2.2.2.2.2.2.2.1, .n r.2.2.2.2.2.2.2.2.2.2.2.2.1, .n r.2.2.2.2.2.2.2.2.2.2.2.2.2]]))){r:Bool×lN×lH×lP×lS×lL×lO×lT×Int×lK×lM×lC×Int×Int}(h:f84s b3 e f g j k m p w x y A jent jleft e1 B=some r):Ctr prog 84 [.pt 0 0, .d (.ag (R76 e1)), .n B] [.row 164 [.l E45 e, .l E88 f, .l E90 g, .l E82 j, .l E22 k, .l E50 m, .l E62 p, .n w, .l E57 x, .l E71 y, .l E79 A, .n jent, .n jleft]] (nl 1 (.b r.1) (λ_=> [.row 164 [.l E45 r.2.1, .l E88 r.2.2.1, .l E90 r.2.2.2.1, .l E82 r.2.2.2.2.1, .l E22 r.2.2.2.2.2.1, .l E50 r.2.2.2.2.2.2.1, .l E62 r.2.2.2.2.2.2.2.1, .n r.2.2.2.2.2.2.2.2.1, .l E57 r.2.2.2.2.2.2.2.2.2.1, .l E71 r.2.2.2.2.2.2.2.2.2.2.1, .l E79 r.2.2.2.2.2.2.2.2.2.2.2.1, .n r.2.2.2.2.2.2.2.2.2.2.2.2.1, .n r.2.2.2.2.2.2.2.2.2.2.2.2.2]])):=by
 unfold f84s at h
 refine cI func84 λ_ _ _ _=>?_
 refine Rcl 2 q (Bx q q q (Bd q q (Zs _) q (WL.s ((jx q q (by exact(show Les [.n B] (List.map AV.d [.i .i64 B]) from Lw))).does) (Zw q) q q (Rll 12 q (sS Z6 s3 Z2 (St q (Rll 6 q ?_)))))))
 obtain⟨f0,f1,h⟩:=aA h
 refine WL.inl (us:=[.pt 0 0, .d (.ag (R76 e1))]) (λrv st'=>(∃(b':Bool),∃(ca:Int),∃(a:a9),∃(C:Int),∃(E:Int),∃(F:Int),∃(G:Int),f0 b' ca a C E F G=some r∧Le rv (.tu [.d (.ag (R76 a)), .n ca, .d (D.b b')])∧SLe st' [.row 164 [.l E45 e, .l E88 f, .l E90 g, .l E82 j, .l E22 k, .l E50 m, .l E62 p, .n w, .l E57 x, .l E71 y, .l E79 A, .n jent, .n (IntKind.i64.wrap (jleft - 1))], .row 162 [.pt 0 0], .row 76 [.d (D.i .u8 e1.kind), .d (D.i .u8 C), .n E, .n F, .n G, .n 0, .n 0, .n 0,sN]])) q q q q q ?_ (Zw q) q q ?_
 refine cI func113 λ_ _ _ _=>?_
 refine Rcl 2 q (Bd q q (Zs _) q (Al z76 q (Rll 9 q (sS Z6 s73 Z2 (St q (Rlc 2 q (Jn5 (λcc _ _ _ _=> [(4, .pt 2 0),(5, .n cc)]) (λ_ I J K L=> [.row 164 [.l E45 e, .l E88 f, .l E90 g, .l E82 j, .l E22 k, .l E50 m, .l E62 p, .n w, .l E57 x, .l E71 y, .l E79 A, .n jent, .n (IntKind.i64.wrap (jleft - 1))], .row 162 [.pt 0 0], .row 76 [.d (D.i .u8 e1.kind), .d (D.i .u8 I), .n J, .n K, .n L, .n 0, .n 0, .n 0,sN]]) h (λ_ h=>?_) λcc I J K L h=>?_)))))))
 refine Rcc 13 q (Ci h q (λh=>Rcl 4 q (sS Z6 s2 Z2 (St q (Rlx 2 q (En5 h))))) λh=>?_)
 refine Rcc 6 q (Ci h q (λh=>?_) λh=>?_)
 refine Rcc 2 q (br kR kR (Rq 8 q ?_))
 obtain⟨g3,f2,h⟩:=ac h
 refine WQ.q (YieldsQ.fn q q q q q (f79_c f2) ⟨(ay (Zs _)),Zl,Zl,Zl,Zt⟩) (Zw q) q q (Rq 2 q ?_)
 obtain⟨f4,et,h⟩:=ac h
 apply WQ.grp 12 (t:=30) (d:=42) (z:=f4)
 exact q
 intro cd
 have h:=gc et cd
 refine Rq 12 q ?_
 obtain rfl:=Oi h
 exact WQ.nil ⟨[_,_,_,_,_,_,_,_,_,_,_,_],q,q,q⟩
 intro cd
 have h:=gd et cd
 refine Rq 8 q ?_
 obtain⟨g4,ew,h⟩:=ac h
 refine WQ.qy (az e32 q Zl q (aq ew) (aV eK ew) q) q q q (Rq 3 q ?_)
 obtain rfl:=Oi h
 exact WQ.nil ⟨[_,_,_,_,_,_,_,_,_,_,_,_],q,q,q⟩
 refine WQ.nil (Rxc 1 q (Ci h q (λh=>?_) λh=>?_))
 exact Rcl 3 q (sS Z6 s76 Z2 (St q (Rlx 8 q (ao (rs3 q (bp q q a76 s76 q) (bj q) (bj q)) ⟨false,0,(a9.mk e1.kind 0 0 0 0 0 0 0 []),0,0,0,0,h,(Le.tu ⟨(ay ⟨Zl,Zl,Zl,Zl,Zl,Zl,Zl,Zl,Le.nil,Zt⟩),Zl,Zl,Zt⟩),⟨Zp,Zp,Zp,Zt⟩⟩))))
 refine Rcc 2 q ?_
 apply RT [_,_,_,_,_, .u,_, .u] [5,7] [[.row 164 [.l E45 e, .l E88 f, .l E90 g, .l E82 j, .l E22 k, .l E50 m, .l E62 p, .n w, .l E57 x, .l E71 y, .l E79 A, .n jent, .n (IntKind.i64.wrap (jleft - 1))], .row 162 [.pt 0 0], .row 76 [.d (D.i .u8 e1.kind), .d (D.i .u8 0), .n 0, .n e1.o, .n 0, .n 0, .n 0, .n 0,sN]],[.row 164 [.l E45 e, .l E88 f, .l E90 g, .l E82 j, .l E22 k, .l E50 m, .l E62 p, .n w, .l E57 x, .l E71 y, .l E79 A, .n jent, .n (IntKind.i64.wrap (jleft - 1))], .row 162 [.pt 0 0], .row 76 [.d (D.i .u8 e1.kind), .d (D.i .u8 0), .n 0, .n e1.o, .n e1.off, .n 0, .n 0, .n 0,sN]]] [p01 3,p10 0,u01 3,u10 2,p01 4,p20 4 1,q01 4 1,q20 6 3 1] kR kR q q
 refine Y2 ?_
 refine X2b ?_
 refine Y1 ?_
 refine zo (λ_=>sS Z6 s3 Z2 (cU q q)) ?_
 refine Y1 ?_
 exact zo (λ_=>sS Z6 s3 Z2 (cU q q)) Zt
 exact Rxx 1 q (En5 h)
 refine Rcc 6 q (Ci h q (λh=>?_) λh=>?_)
 refine Rcl 5 q (sS Z6 s2 Z2 (St q (Rlc 2 q (Jn1 (λci=> [(4, .pt 2 0),(5, .n 0),(6, .d (D.b ci))]) (λ_=> [.row 164 [.l E45 e, .l E88 f, .l E90 g, .l E82 j, .l E22 k, .l E50 m, .l E62 p, .n w, .l E57 x, .l E71 y, .l E79 A, .n jent, .n (IntKind.i64.wrap (jleft - 1))], .row 162 [.pt 0 0], .row 76 [.d (D.i .u8 e1.kind), .d (D.i .u8 0), .n e1.n, .n 0, .n 0, .n 0, .n 0, .n 0,sN]]) h (λ_ h=>?_) λci h=>?_))))
 rcases ni (decide (e1.n≥0)) with H|H
 replace h:=gc h H
 apply RT [_,_,_,_,_,_,_,_,_,_,_,_,_, .u,_,_] [] [] [p01 4,p01 3,p10 1,p10 2,p10 3,p11 4 3,p20 5 4,p11 4 0,p20 7 4,p20 8 4,p20 9 4,p30 6 10 4,p20 4 11,p11 0 4,p00,p10 12] kR kR q q
 refine Y4 ?_
 refine zo (rc H) ?_
 refine Y8 ?_
 refine zo (λ_=>sS Z6 s76 Z2 (cU q q)) ?_
 exact Y2 Zt
 exact En1 h
 replace h:=gd h H
 apply RT [_,_,_,_,_,_,_,_,_,_,_,_,_, .u,_,_] [] [] [p01 4,p01 3,p10 1,p10 2,p10 3,p10 4,p10 4,p10 4,p10 4,p10 4,p10 4,p10 4,p20 4 11,p11 0 4,p00,p10 12] kR kR q q
 refine Y4 ?_
 refine zo (rc H) ?_
 refine Y8 ?_
 refine zo (λ_=>sS Z6 s76 Z2 (cU q q)) ?_
 exact Y2 Zt
 exact En1 h
 exact Rcx 3 q (ao (rs3 q (bp q q a76 s76 q) (bj q) (bj q)) ⟨ci,0,(a9.mk e1.kind 0 e1.n 0 0 0 0 0 []),0,e1.n,0,0,h,(Le.tu ⟨(ay ⟨Zl,Zl,Zl,Zl,Zl,Zl,Zl,Zl,Le.nil,Zt⟩),Zl,Zl,Zt⟩),⟨Zp,Zp,Zp,Zt⟩⟩)
 refine Rcc 6 q (Ci h q (λh=>Rcl 2 q (sS Z6 s74 Z2 (St q (Rlx 3 q (En5 h))))) λh=>?_)
 refine Rcc 6 q (Ci h q (λh=>?_) λh=>?_)
 exact Rcl 3 q (Zq (jK q q q) q (Zq (jL q q q) q (Rl 1 q (sS Z6 s74 Z2 (St q (Rlx 3 q (En5 h)))))))
 refine Jn1 (λex=> [(4, .pt 2 0),(78, .d (D.b ex))]) (λ_=> [.row 164 [.l E45 e, .l E88 f, .l E90 g, .l E82 j, .l E22 k, .l E50 m, .l E62 p, .n w, .l E57 x, .l E71 y, .l E79 A, .n jent, .n (IntKind.i64.wrap (jleft - 1))], .row 162 [.pt 0 0], .row 76 [.d (D.i .u8 e1.kind), .d (D.i .u8 0), .n 0, .n 0, .n 0, .n 0, .n 0, .n 0,sN]]) h (λ_ h=>?_) (λex h=>?_)
 exact Rcc 6 q (Ci h q (λh=>Rcx 1 q (En1 h)) λh=>Rcx 4 q (En1 h))
 refine Ci h q (λh=>?_) (λh=>?_)
 exact Rcx 4 q (En5 h)
 exact Rcl 3 q (sS Z6 s76 Z2 (St q (Rlx 7 q (ao (rs3 q (bp q q a76 s76 q) (bj q) (bj q)) ⟨false,0,(a9.mk e1.kind 0 0 0 0 0 0 0 []),0,0,0,0,h,(Le.tu ⟨(ay ⟨Zl,Zl,Zl,Zl,Zl,Zl,Zl,Zl,Le.nil,Zt⟩),Zl,Zl,Zt⟩),⟨Zp,Zp,Zp,Zt⟩⟩))))
 exact Rcl 4 q (sS Z6 s76 Z2 (St q (Rlx 5 q (ao (rs3 q (bp q q a76 s76 q) (bj q) (bj q)) ⟨true,cc,(a9.mk e1.kind I J K L 0 0 0 []),I,J,K,L,h,(Le.tu ⟨(ay ⟨Zl,Zl,Zl,Zl,Zl,Zl,Zl,Zl,Le.nil,Zt⟩),Zl,Zl,Zt⟩),⟨Zp,Zp,Zp,Zt⟩⟩))))
 rintro rv st1 ⟨b',ca,a,C,E,F,G,h,hr,hst⟩
 subst f1
 dsimp only at h
 refine WL.cast 20 q hr (WL.weak hst (Rl 4 q (Al z76 q (sS Z6 s76 Z2 (St q (Rl 2 q (Zn (Rcl 9 q ?_))))))))
 refine OG 3 29 32 3 3 ?_
 refine Rl 1 q ?_
 refine OG 3 33 36 3 3 ?_
 refine Rl 1 q ?_
 apply WL.or 6 (t:=37) (d:=43)
 exact q
 intro g5
 exact Rl 2 q (Zy (aa E76 e1.l e69 q q Zl) q q q (Rl 3 q (WL.nil ⟨q,[_,_,_,_,_,_],q,q,q⟩)))
 exact Rn 6 6
 refine Rl 1 q ?_
 refine OG 6 44 50 6 6 ?_
 refine Rl 1 q ?_
 refine OG 6 51 57 6 6 ?_
 refine Rl 1 q ?_
 refine OG 6 58 64 6 6 ?_
 refine Rl 1 q ?_
 refine OG 6 65 71 6 6 ?_
 refine Rl 1 q ?_
 refine OG 4 72 76 4 4 ?_
 refine Rl 1 q ?_
 refine OG 4 77 81 4 4 ?_
 refine Rl 1 q ?_
 refine OG 4 82 86 4 4 ?_
 refine Rlc 2 q (Ci h q (λh=>?_) λh=>?_)
 refine Rcx 7 q ?_
 obtain rfl:=Oi h
 exact fU 0 (rs1 q (bj q)) Zl q ⟨Zp,Zt⟩
 refine Rcl 7 q ?_
 obtain⟨f9,gl,h⟩:=aA h
 refine WL.inl (us:=[.l E76 e1.l, .fn (.func 115) [] [.pt 1 0, .d (.pc (E3 B))]]) (λrv st'=>(∃(cj:Bool),∃(cl:lN),∃(cp:lH),∃(cx:lP),∃(c0:lS),∃(c1:lL),∃(c2:lO),∃(c3:lT),∃(c4:Int),∃(c5:lK),∃(c6:lM),∃(c7:lC),∃(c8:Int),∃(c':Int),f9 cj cl cp cx c0 c1 c2 c3 c4 c5 c6 c7 c8 c'=some r∧Le rv (.d (D.b cj))∧SLe st' [.row 164 [.l E45 cl, .l E88 cp, .l E90 cx, .l E82 c0, .l E22 c1, .l E50 c2, .l E62 c3, .n c4, .l E57 c5, .l E71 c6, .l E79 c7, .n c8, .n c'], .row 162 [.pt 0 0], .row 76 [.d (D.i .u8 e1.kind), .d (D.i .u8 C), .n E, .n F, .n G, .n 0, .n 0, .n 0,sN], .row 76 [.d (D.i .u8 a.kind), .d (D.i .u8 a.op), .n a.n, .n a.o, .n a.off, .n a.len, .n a.lo, .n a.hi, .l E76 a.l]])) q q q q q ?_ (Zw q) q q ?_
 refine cI func114 λ_ _ _ _=>?_
 refine Rcl 9 q ?_
 obtain⟨ey,gm,h⟩:=aA h
 refine WL.inl (us:=[.l E76 e1.l, .fn (.func 115) [] [.pt 1 0, .d (.pc (E3 B))]]) (λrv st'=>(∃(M:Int),∃(N:lN),∃(O:lH),∃(P:lP),∃(Q:lS),∃(R:lL),∃(S:lO),∃(T:lT),∃(U:Int),∃(V:lK),∃(W:lM),∃(X:lC),∃(Y:Int),∃(Z:Int),ey M N O P Q R S T U V W X Y Z=some r∧Le rv (.n M)∧SLe st' [.row 164 [.l E45 N, .l E88 O, .l E90 P, .l E82 Q, .l E22 R, .l E50 S, .l E62 T, .n U, .l E57 V, .l E71 W, .l E79 X, .n Y, .n Z], .row 162 [.pt 0 0], .row 76 [.d (D.i .u8 e1.kind), .d (D.i .u8 C), .n E, .n F, .n G, .n 0, .n 0, .n 0,sN], .row 76 [.d (D.i .u8 a.kind), .d (D.i .u8 a.op), .n a.n, .n a.o, .n a.off, .n a.len, .n a.lo, .n a.hi, .l E76 a.l]])) q q q q q ?_ (Zw q) q q ?_
 refine cI func145 λ_ _ _ _=>?_
 refine Rcc 5 q (Jn13 (λ_ _ _ _ _ _ _ _ _ _ _ _ _=> []) (λdd df dk ds dS d0 d1 d' ee el em en eq=> [.row 164 [.l E45 dd, .l E88 df, .l E90 dk, .l E82 ds, .l E22 dS, .l E50 d0, .l E62 d1, .n d', .l E57 ee, .l E71 el, .l E79 em, .n en, .n eq], .row 162 [.pt 0 0], .row 76 [.d (D.i .u8 e1.kind), .d (D.i .u8 C), .n E, .n F, .n G, .n 0, .n 0, .n 0,sN], .row 76 [.d (D.i .u8 a.kind), .d (D.i .u8 a.op), .n a.n, .n a.o, .n a.off, .n a.len, .n a.lo, .n a.hi, .l E76 a.l]]) h (λgs h=>?_) λdd df dk ds dS d0 d1 d' ee el em en eq h=>?_)
 refine Rcl 3 q (Zq (aa E76 e1.l e69 q q Zl) q (Rlc 4 q (Ln14 (λer _ _ _ _ _ _ _ _ _ _ _ _ _=> [(0, .l E76 e1.l),(1, .fn (.func 115) [] [.pt 1 0, .d (.pc (E3 B))]),(7, .n (List.length e1.l:Int)),(8, .n er)]) (λ_ e0 e2 e3 e4 e5 e6 e7 e' fi fl fo fr fv=> [.row 164 [.l E45 e0, .l E88 e2, .l E90 e3, .l E82 e4, .l E22 e5, .l E50 e6, .l E62 e7, .n e', .l E57 fi, .l E71 fl, .l E79 fo, .n fr, .n fv], .row 162 [.pt 0 0], .row 76 [.d (D.i .u8 e1.kind), .d (D.i .u8 C), .n E, .n F, .n G, .n 0, .n 0, .n 0,sN], .row 76 [.d (D.i .u8 a.kind), .d (D.i .u8 a.op), .n a.n, .n a.o, .n a.off, .n a.len, .n a.lo, .n a.hi, .l E76 a.l]]) (f84s_l1 b3 e1 B ey gs) h (λ_ _ _ _ _ _ _ _ _ _ _ _ _ _ h=>by rw[f84s_l1] at h;cases h) λn er e0 e2 e3 e4 e5 e6 e7 e' fi fl fo fr fv h=>?_)))
 rw[f84s_l1] at h
 refine Rcc 6 q (Ci h q (λh=>?_) λh=>?_)
 refine Rcl 15 q (Ix h e69 o5 q Zl q q λgx _ h=>(Rl 1 q ?_))
 obtain⟨g0,g1,h⟩:=aA h
 refine WL.inl (us:=[.d (.ag (R76 gx)), .pt 1 0, .d (.pc (E3 B))]) (λrv st'=>(∃(es:Bool),∃(ad:lN),∃(ax:lH),∃(a0:lP),∃(a1:lS),∃(a6:lL),∃(a7:lO),∃(a':lT),∃(bb:Int),∃(bk:lK),∃(bs:lM),∃(b0:lC),∃(b1:Int),∃(b2:Int),g0 es ad ax a0 a1 a6 a7 a' bb bk bs b0 b1 b2=some r∧Le rv (.d (D.b es))∧SLe st' [.row 164 [.l E45 ad, .l E88 ax, .l E90 a0, .l E82 a1, .l E22 a6, .l E50 a7, .l E62 a', .n bb, .l E57 bk, .l E71 bs, .l E79 b0, .n b1, .n b2], .row 162 [.pt 0 0], .row 76 [.d (D.i .u8 e1.kind), .d (D.i .u8 C), .n E, .n F, .n G, .n 0, .n 0, .n 0,sN], .row 76 [.d (D.i .u8 a.kind), .d (D.i .u8 a.op), .n a.n, .n a.o, .n a.off, .n a.len, .n a.lo, .n a.hi, .l E76 a.l]])) q q q q q ?_ (Zw q) q q ?_
 refine cI func115 λ_ _ _ _=>?_
 refine Rcl 2 q (Bd q q (Zs _) q (Rll 9 q ?_))
 obtain⟨c,g2,h⟩:=ac h
 refine mC [0] q q q q (fz _ _ _ _ _ _ _ _ _ _ _ _ _ _ _ _ g2) Lw q dC (Re q) ⟨q,Zt⟩ q q (λ_=>q) (λ_=>(Re q)) (Zw q) q q (λg6=>?_)
 exact Rlx 5 q (ao (rs1 q (bj q)) ⟨(!c.1),c.2.1,c.2.2.1,c.2.2.2.1,c.2.2.2.2.1,c.2.2.2.2.2.1,c.2.2.2.2.2.2.1,c.2.2.2.2.2.2.2.1,c.2.2.2.2.2.2.2.2.1,c.2.2.2.2.2.2.2.2.2.1,c.2.2.2.2.2.2.2.2.2.2.1,c.2.2.2.2.2.2.2.2.2.2.2.1,c.2.2.2.2.2.2.2.2.2.2.2.2.1,c.2.2.2.2.2.2.2.2.2.2.2.2.2,h,Zl,⟨Zp,Zp,Zp,Zp,Zt⟩⟩)
 rintro rv st1 ⟨es,ad,ax,a0,a1,a6,a7,a',bb,bk,bs,b0,b1,b2,h,hr,hst⟩
 subst g1
 dsimp only at h
 refine WL.cast 16 q hr (WL.weak hst (Zn (Ci h q (λh=>?_) λh=>?_)))
 exact Rcx 12 q (ao (rs1 q (bj q)) ⟨er,ad,ax,a0,a1,a6,a7,a',bb,bk,bs,b0,b1,b2,h,Zl,⟨Zp,Zp,Zp,Zp,Zt⟩⟩)
 exact Rcx 7 q (cD ⟨_,⟨_,_,_,_,_,_,_,_,_,_,_,_,_,_,h,Sb,Tv⟩,Nat.lt_succ_self _⟩)
 exact Rcx 4 q (cD ⟨_,_,_,_,_,_,_,_,_,_,_,_,_,h,Sb,Tv⟩)
 exact Rcx 6 q (ao (rs1 q (bj q)) ⟨(-1),dd,df,dk,ds,dS,d0,d1,d',ee,el,em,en,eq,h,Zl,⟨Zp,Zp,Zp,Zp,Zt⟩⟩)
 rintro rv st1 ⟨M,N,O,P,Q,R,S,T,U,V,W,X,Y,Z,h,hr,hst⟩
 subst gm
 dsimp only at h
 exact WL.cast 7 q hr (WL.weak hst (Rl 2 q (Zn (Rcx 1 q (ao (rs1 q (bj q)) ⟨(decide (M≥0)),N,O,P,Q,R,S,T,U,V,W,X,Y,Z,h,Zl,⟨Zp,Zp,Zp,Zp,Zt⟩⟩)))))
 rintro rv st1 ⟨cj,cl,cp,cx,c0,c1,c2,c3,c4,c5,c6,c7,c8,c',h,hr,hst⟩
 subst gl
 dsimp only at h
 refine WL.cast 90 q hr (WL.weak hst (Rl 2 q (Zn (Rcx 1 q ?_))))
 obtain rfl:=Oi h
 exact fU 0 (rs1 q (bj q)) Zl q ⟨Zp,Zt⟩

theorem f84_c:∀(n:Nat)(a:lN)(c:lH)(e:lP)(f:lS)(g:lL)(j:lO)(k:lT)(m:Int)(o:lK)(p:lM)(t:lC)(jent:Int)(jleft:Int)(x1:a9)(x2:Int){r:Bool×lN×lH×lP×lS×lL×lO×lT×Int×lK×lM×lC×Int×Int},f84 n a c e f g j k m o p t jent jleft x1 x2=some r→Ctr prog 84 [.pt 0 0, .d (.ag (R76 x1)), .n x2] [.row 164 [.l E45 a, .l E88 c, .l E90 e, .l E82 f, .l E22 g, .l E50 j, .l E62 k, .n m, .l E57 o, .l E71 p, .l E79 t, .n jent, .n jleft]] (nl 1 (.b r.1) (λ_=> [.row 164 [.l E45 r.2.1, .l E88 r.2.2.1, .l E90 r.2.2.2.1, .l E82 r.2.2.2.2.1, .l E22 r.2.2.2.2.2.1, .l E50 r.2.2.2.2.2.2.1, .l E62 r.2.2.2.2.2.2.2.1, .n r.2.2.2.2.2.2.2.2.1, .l E57 r.2.2.2.2.2.2.2.2.2.1, .l E71 r.2.2.2.2.2.2.2.2.2.2.1, .l E79 r.2.2.2.2.2.2.2.2.2.2.2.1, .n r.2.2.2.2.2.2.2.2.2.2.2.2.1, .n r.2.2.2.2.2.2.2.2.2.2.2.2.2]]))
 |0,_,_,_,_,_,_,_,_,_,_,_,_,_,_,_,_,h=>by cases h
 |n+1,a,c,e,f,g,j,k,m,o,p,t,jent,jleft,x1,x2,_,h=>f84s_c (f84 n) a c e f g j k m o p t jent jleft x1 x2 (λa c e f g j k m o p t jent jleft x1 x2 _ h=>f84_c n a c e f g j k m o p t jent jleft x1 x2 h) h

theorem f53_c{t0:aC}{r:Bool}(h:f53 t0=some r):Pu prog 53 [.ag (aF t0)] (.b r):=by
 unfold f53 at h
 refine fI func53 λ_ _=>?_
 refine Rcl 2 q (Bd q q (Zs _) q (Rlc 3 q (Jn0 [(1, .d (.pc (aF t0)))] [] h (λj h=>?_) λh=>?_)))
 refine Rcl 5 q (Zq (aa E71 t0.text.prots e35 q q Zl) q (Rlc 4 q (Ln1 (λc=> [(1, .d (.pc (aF t0))),(10, .l E71 t0.text.prots),(11, .n (List.length t0.text.prots:Int)),(12, .n c)]) (λ_=> []) (f53_l1 t0 j) h (λ_ h=>by rw[f53_l1] at h;cases h) λn c h=>?_)))
 rw[f53_l1] at h
 refine Rcc 6 q (Ci h q (λh=>?_) λh=>?_)
 refine Rcc 2 q (Jn2 (λ_ _=> [(1, .d (.pc (aF t0))),(10, .l E71 t0.text.prots),(11, .n (List.length t0.text.prots:Int)),(12, .n c)]) (λf g=> [.row 71 [.n f, .l E76 g]]) h (λk h=>?_) λf g h=>?_)
 refine Rcl 3 q (Ix h e35 o6 q Zl q q λa _ h=>(Rl 1 q (Al z71 q (sS Z6 s71 Z2 (Rll 9 q ?_)))))
 refine OG 4 19 23 4 4 ?_
 refine Rl 1 q ?_
 apply WL.or 5 (t:=24) (d:=29)
 exact q
 intro o
 exact Rl 2 q (Zy (aa E76 a.barriers e69 q q Zl) q q q (Rl 2 q (WL.nil ⟨q,[_,_,_,_,_],q,q,q⟩)))
 exact Rn 5 5
 refine Rlc 2 q (Ci h q (λh=>Rcx 12 q (FA h)) λh=>?_)
 refine Rcl 6 q (Zq (aa E76 a.barriers e69 q q Zl) q (Rlc 4 q (Ln1 (λe=> [(1, .d (.pc (aF t0))),(4, .pt 0 0),(10, .l E71 t0.text.prots),(11, .n (List.length t0.text.prots:Int)),(12, .n c),(31, .l E76 a.barriers),(32, .n (List.length a.barriers:Int)),(33, .n e)]) (λ_=> [.row 71 [.n a.ceiling, .l E76 a.barriers]]) (f53_l2 t0 k a) h (λ_ h=>by rw[f53_l2] at h;cases h) λna e h=>?_)))
 rw[f53_l2] at h
 refine Rcc 6 q (Ci h q (λh=>?_) λh=>?_)
 refine Rcl 6 q (Ix h e69 o5 q Zl q q λp _ h=>(Rl 1 q (Al z76 q (sS Z6 s76 Z2 (Rll 7 q (Zq (aa E76 a.barriers e69 q q Zl) q (Zq (aU p164 z164 q q) q (Bx q q q (Rll 7 q ?_)))))))))
 obtain⟨w,m,h⟩:=ac h
 refine mC [2] q q q q (f84_c 66 _ _ _ _ _ _ _ _ _ _ _ _ _ _ _ m) ⟨Zl,(ay (Zs _)),Zl,Zt⟩ q dC (Re q) ⟨q,Zt⟩ q q (λ_=>q) (λ_=>(Re q)) (Zw q) q q (λx=>?_)
 refine Rlc 3 q (Ci h q (λh=>Rcx 15 q (FA h)) λh=>?_)
 exact Rcx 7 q (WE.drop 1 (env':=[(1, .d (.pc (aF t0))),(4, .pt 0 0),(10, .l E71 t0.text.prots),(11, .n (List.length t0.text.prots:Int)),(12, .n c),(31, .l E76 a.barriers),(32, .n (List.length a.barriers:Int)),(33, .n (IntKind.i64.wrap (e+1)))]) Sb q q (Nat.zero_le _) (Fn1 h))
 exact Rcx 5 q (En2 h)
 exact Rcx 4 q (WE.drop 0 (env':=[(1, .d (.pc (aF t0))),(10, .l E71 t0.text.prots),(11, .n (List.length t0.text.prots:Int)),(12, .n (IntKind.i64.wrap (c+1)))]) Sb q q (Nat.zero_le _) (Fn1 h))
 exact Rcx 4 q (En0 h)
 exact Rcl 5 q (Zq (aa E71 t0.text.prots e35 q q Zl) q (Rlx 5 q (FA h)))

theorem f117_c{n0:Int}{a:aC}{c:Int}{r:Bool}(h:f117 n0 a c=some r):Pu prog 117 [.i .i64 n0, .pc (aF a), .pc (E3 c)] (.b r):=by
 unfold f117 at h
 refine fI func117 λ_ _=>?_
 refine Rcl 10 q ?_
 obtain⟨e,d,h⟩:=ac h
 exact wF Z4 (f79_c d) Lw Z3 (Rlx 4 q (FA h))

theorem f87_c{t0:aC}{a:Int}{a2:np}{r:Bool}(h:f87 t0 a a2=some r):Pu prog 87 [.ag (aF t0), .i .i64 a, .ag (R86 a2)] (.b r):=by
 unfold f87 at h
 refine fI func87 λ_ _=>?_
 refine Rcl 2 q (Bd q q (Zs _) q (WL.s ((jx q q (by exact(show Les [.n a] (List.map AV.d [.i .i64 a]) from Lw))).does) (Zw q) q q (Bd q q (Zs _) q (Rll 15 q (wF Z4 (f75_c) Lw Z3 (Rl 2 q ?_))))))
 obtain⟨e,f,h⟩:=ac h
 refine Gg 11 14 25 e f (λh=>?_) (λh=>?_) ?_
 exact On 11 11 h
 refine Rl 4 q ?_
 obtain⟨g,j,h⟩:=ac h
 refine Gg 6 18 24 g j (λh=>?_) (λh=>?_) ?_
 refine Rl 3 q ?_
 obtain⟨w,k,h⟩:=ac h
 exact WL.fn q q q q (f117_c k) Lw (aP q q q) q q (On 2 6 h)
 exact On 6 6 h
 exact On 1 6 h
 refine Rlc 2 q (Ci h q (λh=>Rcx 7 q (FA h)) λh=>?_)
 refine Rcc 16 q (Ci h q (λh=>?_) λh=>?_)
 refine Rcl 6 q ?_
 refine AG 4 33 37 4 4 ?_
 refine Rl 1 q ?_
 refine AG 4 38 42 4 4 ?_
 exact Rlx 6 q (FA h)
 refine Jn1 (λc=> [(5, .d (.pc (R86 a2))),(7, .fn (.func 117) [] [.d (.pc (aF t0)), .d (.pc (E3 a))]),(43, .d (D.b c))]) (λ_=> []) h (λ_ h=>?_) (λc h=>?_)
 exact Rcc 6 q (Ci h q (λh=>Rcx 1 q (En1 h)) λh=>Rcx 4 q (En1 h))
 refine Ci h q (λh=>?_) (λh=>?_)
 refine Rcl 6 q ?_
 obtain⟨m,o,h⟩:=ac h
 refine Gg 5 49 54 m o (λh=>?_) (λh=>?_) ?_
 refine Rl 3 q ?_
 obtain⟨x,p,h⟩:=ac h
 exact WL.fn q q q q (f117_c p) Lw (aP q q q) q q (On 1 5 h)
 exact On 5 5 h
 exact Rlx 6 q (FA h)
 refine Rcl 9 q ?_
 apply WL.and 7 (t:=58) (d:=65)
 exact q
 intro y
 exact Rl 4 q (Zy (qW q q q) q q q (Rl 2 q (WL.nil ⟨q,[_,_,_,_,_,_,_],q,q,q⟩)))
 exact Rn 7 7
 exact Rlx 4 q (FA h)

theorem f54_c{t0:aC}{r:Bool}(h:f54 t0=some r):Pu prog 54 [.ag (aF t0)] (.b r):=by
 unfold f54 at h
 refine fI func54 λ_ _=>?_
 refine Rcl 2 q (Bd q q (Zs _) q (Rll 9 q (Zq (aa E82 t0.text.selects e30 q q Zl) q (Rlc 3 q (Ci h q (λh=>?_) λh=>?_)))))
 exact Rcx 7 q (FA h)
 refine Rcc 2 q (Jn0 [] [] h (λm h=>?_) λh=>?_)
 refine Rcl 5 q (Zq (aa E82 t0.text.selects e30 q q Zl) q (Rlc 4 q (Ln1 (λe=> [(1, .d (.pc (aF t0))),(12, .l E82 t0.text.selects),(13, .n (List.length t0.text.selects:Int)),(14, .n e)]) (λ_=> []) (f54_l1 t0 m) h (λ_ h=>by rw[f54_l1] at h;cases h) λn e h=>?_)))
 rw[f54_l1] at h
 refine Rcc 6 q (Ci h q (λh=>?_) λh=>?_)
 refine Rcl 6 q (Ix h e30 r5 q Zl q q λa _ h=>(Rl 1 q (Al z82 q (sS Z6 s82 Z2 (Rll 7 q (Zq (aa E86 a.alts e80 q q Zl) q (Rl 2 q ?_)))))))
 apply WL.or 5 (t:=22) (d:=27)
 exact q
 intro F
 exact Rl 2 q (Zy (aa E86 a.alts e80 q q Zl) q q q (Rl 2 q (WL.nil ⟨q,[_,_,_,_,_],q,q,q⟩)))
 exact Rn 5 5
 refine Rl 1 q ?_
 refine OG 4 28 32 4 4 ?_
 refine Rl 1 q ?_
 apply WL.or 8 (t:=33) (d:=41)
 exact q
 intro G
 exact Rl 5 q (Zy (aa E50 t0.text.objs e32 q q Zl) q q q (Rl 2 q (WL.nil ⟨q,[_,_,_,_,_,_,_,_],q,q,q⟩)))
 exact Rn 8 8
 refine Rl 1 q ?_
 apply WL.or 11 (t:=42) (d:=53)
 exact q
 intro H
 refine Rl 4 q ?_
 apply WL.and 6 (t:=46) (d:=52)
 exact q
 intro I
 exact Rl 3 q (WL.fn q q q q (f75_c) Lw (aP q q q) q q (Rl 2 q (WL.nil ⟨q,[_,_,_,_,_,_],q,q,q⟩)))
 exact Rn 6 6
 exact Rn 1 6
 exact Rn 11 11
 refine Rlc 2 q (Ci h q (λh=>Rcx 12 q (FA h)) λh=>?_)
 refine Rcl 7 q ?_
 obtain⟨o,p,h⟩:=aA h
 refine WL.inl (us:=[.l E86 a.alts, .fn (.func 86) [] [.d (.pc (aF t0)), .pt 0 0]]) (λrv st'=>(∃(f:Bool),o f=some r∧Le rv (.d (D.b f))∧SLe st' [.row 82 [.l E86 a.alts, .n a.obj, .n a.else_]])) q q q q q ?_ (Zw q) q q ?_
 refine cI func85 λ_ _ _ _=>?_
 refine Rcl 9 q ?_
 obtain⟨k,w,h⟩:=aA h
 refine WL.inl (us:=[.l E86 a.alts, .fn (.func 86) [] [.d (.pc (aF t0)), .pt 0 0]]) (λrv st'=>(∃(c:Int),k c=some r∧Le rv (.n c)∧SLe st' [.row 82 [.l E86 a.alts, .n a.obj, .n a.else_]])) q q q q q ?_ (Zw q) q q ?_
 refine cI func116 λ_ _ _ _=>?_
 refine Rcc 5 q (Jn0 [] [.row 82 [.l E86 a.alts, .n a.obj, .n a.else_]] h (λx h=>?_) λh=>?_)
 refine Rcl 3 q (Zq (aa E86 a.alts e80 q q Zl) q (Rlc 4 q (Ln1 (λg=> [(0, .l E86 a.alts),(1, .fn (.func 86) [] [.d (.pc (aF t0)), .pt 0 0]),(7, .n (List.length a.alts:Int)),(8, .n g)]) (λ_=> [.row 82 [.l E86 a.alts, .n a.obj, .n a.else_]]) (f54_l2 t0 a k x) h (λ_ h=>by rw[f54_l2] at h;cases h) λna g h=>?_)))
 rw[f54_l2] at h
 refine Rcc 6 q (Ci h q (λh=>?_) λh=>?_)
 refine Rcl 15 q (Ix h e80 rZ q Zl q q λy _ h=>(Rl 1 q ?_))
 obtain⟨A,B,h⟩:=aA h
 refine WL.inl (us:=[.d (.ag (R86 y)), .d (.pc (aF t0)), .pt 0 0]) (λrv st'=>(∃(j:Bool),A j=some r∧Le rv (.d (D.b j))∧SLe st' [.row 82 [.l E86 a.alts, .n a.obj, .n a.else_]])) q q q q q ?_ (Zw q) q q ?_
 refine cI func86 λ_ _ _ J=>?_
 refine Rcl 2 q (Bd q q (Zs _) q (Rll 9 q ?_))
 obtain⟨C,E,h⟩:=ac h
 exact wF Z4 (f87_c E) Lw Z3 (Rlx 5 q (ao (rs1 q (bj q)) ⟨(!C),h,Zl,⟨Zp,Zt⟩⟩))
 rintro rv st1 ⟨j,h,hr,hst⟩
 subst B
 dsimp only at h
 refine WL.cast 16 q hr (WL.weak hst (Zn (Ci h q (λh=>?_) λh=>?_)))
 exact Rcx 12 q (ao (rs1 q (bj q)) ⟨g,h,Zl,⟨Zp,Zt⟩⟩)
 exact Rcx 7 q (Fn1 h)
 exact Rcx 4 q (En0 h)
 exact Rcx 6 q (ao (rs1 q (bj q)) ⟨(-1),h,Zl,⟨Zp,Zt⟩⟩)
 rintro rv st1 ⟨c,h,hr,hst⟩
 subst w
 dsimp only at h
 exact WL.cast 7 q hr (WL.weak hst (Rl 2 q (Zn (Rcx 1 q (ao (rs1 q (bj q)) ⟨(decide (c≥0)),h,Zl,⟨Zp,Zt⟩⟩)))))
 rintro rv st1 ⟨f,h,hr,hst⟩
 subst p
 dsimp only at h
 refine WL.cast 57 q hr (WL.weak hst (Zn (Ci h q (λh=>?_) λh=>?_)))
 exact Rcx 11 q (FA h)
 exact Rcx 7 q (WE.drop 0 (env':=[(1, .d (.pc (aF t0))),(12, .l E82 t0.text.selects),(13, .n (List.length t0.text.selects:Int)),(14, .n (IntKind.i64.wrap (e+1)))]) Sb q q (Nat.zero_le _) (Fn1 h))
 exact Rcx 4 q (En0 h)
 exact Rcx 6 q (FA h)

theorem f88_c{h0:bY}{a1:Int}:Pu prog 88 [.ag (R88 h0), .i .i64 a1] (.b (f88 h0 a1)):=by
 generalize h:f88 h0 a1=r
 unfold f88 at h
 refine fI func88 λ_ _=>?_
 refine Rcl 2 q (Bd q q (Zs _) q (Rll 10 q ?_))
 refine AG 5 9 14 5 5 ?_
 exact Rlx 4 q (FB h)

theorem f55_c{t0:aC}{r:Bool}(h:f55 t0=some r):Pu prog 55 [.ag (aF t0)] (.b r):=by
 unfold f55 at h
 refine fI func55 λ_ _=>?_
 refine Rcl 2 q (Bd q q (Zs _) q (Rll 9 q (Zq (aa E88 t0.text.handlers e28 q q Zl) q (Rlc 3 q (Ci h q (λh=>?_) λh=>?_)))))
 exact Rcx 7 q (FA h)
 refine Rcc 2 q (Jn0 [] [] h (λm h=>?_) λh=>?_)
 refine Rcl 5 q (Zq (aa E88 t0.text.handlers e28 q q Zl) q (Rlc 4 q (Ln1 (λa=> [(1, .d (.pc (aF t0))),(15, .l E88 t0.text.handlers),(16, .n (List.length t0.text.handlers:Int)),(17, .n a)]) (λ_=> []) (f55_l1 t0 m) h (λ_ h=>by rw[f55_l1] at h;cases h) λn a h=>?_)))
 rw[f55_l1] at h
 refine Rcc 6 q (Ci h q (λh=>?_) λh=>?_)
 refine Rcc 2 q (Jn4 (λ_ _ _ _=> [(1, .d (.pc (aF t0))),(15, .l E88 t0.text.handlers),(16, .n (List.length t0.text.handlers:Int)),(17, .n a)]) (λf g j k=> [.row 88 [.n f, .n g, .n j, .d (D.b k)]]) h (λo h=>?_) λf g j k h=>?_)
 refine Rcl 4 q (Ix h e28 o4 q Zl q q λc _ h=>(Rl 1 q (Al z88 q (Rl 1 q (sS Z6 s88 Z2 (Rll 9 q ?_))))))
 refine OG 6 25 31 6 6 ?_
 refine Rl 1 q ?_
 apply WL.or 8 (t:=32) (d:=40)
 exact q
 intro w
 exact Rl 5 q (Zy (aa E45 t0.text.insns e27 q q Zl) q q q (Rl 2 q (WL.nil ⟨q,[_,_,_,_,_,_,_,_],q,q,q⟩)))
 exact Rn 8 8
 refine Rl 1 q ?_
 apply WL.or 6 (t:=41) (d:=47)
 exact q
 intro x
 exact Rl 3 q (WL.fn q q q q (f75_c) Lw (aP q q q) q q (Rl 2 q (WL.nil ⟨q,[_,_,_,_,_,_],q,q,q⟩)))
 exact Rn 6 6
 refine Rl 1 q ?_
 apply WL.or 5 (t:=48) (d:=53)
 exact q
 intro y
 exact Rl 3 q (WL.fn q q q q (f88_c) ⟨(ay (Zs _)),Zl,Zt⟩ (aP q q q) q q (Rl 1 q (WL.nil ⟨q,[_,_,_,_,_],q,q,q⟩)))
 exact Rn 5 5
 refine Rlc 2 q (Ci h q (λh=>Rcx 12 q (FA h)) λh=>?_)
 refine Rcl 8 q ?_
 replace h:=gt h
 obtain⟨p,h⟩:=h
 refine Zq (jF E88 t0.text.handlers (l:=0) (h:=a) e28 q Zl q ⟨_,q⟩ p λ_=>q) q (Zq (aa E88 (cv t0.text.handlers 0 a) e28 q q Zl) q (Rlc 4 q (Ln1 (λe=> [(1, .d (.pc (aF t0))),(4, .pt 0 0),(15, .l E88 t0.text.handlers),(16, .n (List.length t0.text.handlers:Int)),(17, .n a),(58, .l E88 (cv t0.text.handlers 0 a)),(59, .n (List.length (cv t0.text.handlers 0 a):Int)),(60, .n e)]) (λ_=> [.row 88 [.n c.from_, .n c.to, .n c.at_, .d (D.b c.clean)]]) (f55_l2 t0 a o c) h (λ_ h=>by rw[f55_l2] at h;cases h) λna e h=>?_)))
 rw[f55_l2] at h
 refine Rcc 6 q (Ci h q (λh=>?_) λh=>?_)
 refine Rcl 6 q (Ix h e28 o4 q Zl q q λA _ h=>(Rl 1 q (Al z88 q (sS Z6 s88 Z2 (Rll 10 q ?_)))))
 refine AG 6 69 75 6 6 ?_
 refine Rll 8 q ?_
 apply WL.and 12 (t:=78) (d:=90)
 exact q
 intro B
 exact Rl 4 q (Zy (jL q q q) q q q (Rl 4 q (Zy (jK q q q) q q q (Rl 2 q (WL.nil ⟨q,[_,_,_,_,_,_,_,_,_,_,_,_],q,q,q⟩)))))
 exact Rn 12 12
 refine Rlc 2 q (Ci h q (λh=>Rcx 15 q (FA h)) λh=>?_)
 exact Rcx 7 q (WE.drop 1 (env':=[(1, .d (.pc (aF t0))),(4, .pt 0 0),(15, .l E88 t0.text.handlers),(16, .n (List.length t0.text.handlers:Int)),(17, .n a),(58, .l E88 (cv t0.text.handlers 0 a)),(59, .n (List.length (cv t0.text.handlers 0 a):Int)),(60, .n (IntKind.i64.wrap (e+1)))]) Sb q q (Nat.zero_le _) (Fn1 h))
 exact Rcx 5 q (En4 h)
 exact Rcx 4 q (WE.drop 0 (env':=[(1, .d (.pc (aF t0))),(15, .l E88 t0.text.handlers),(16, .n (List.length t0.text.handlers:Int)),(17, .n (IntKind.i64.wrap (a+1)))]) Sb q q (Nat.zero_le _) (Fn1 h))
 exact Rcx 4 q (En0 h)
 exact Rcx 6 q (FA h)

theorem f89_c{x0:cQ}{a:Int}:Pu prog 89 [.ag (R45 x0), .i .i64 a] (.b (f89 x0 a)):=by
 generalize h:f89 x0 a=r
 unfold f89 at h
 refine fI func89 λ_ _=>?_
 refine Rcl 2 q (Bd q q (Zs _) q (Rll 9 q ?_))
 refine OG 4 8 12 4 4 ?_
 refine Rl 1 q ?_
 refine OG 4 13 17 4 4 ?_
 refine Rl 1 q ?_
 refine AG 5 18 23 5 5 ?_
 exact Rlx 4 q (FB h)

theorem f56_c{t0:aC}{r:Bool}(h:f56 t0=some r):Pu prog 56 [.ag (aF t0)] (.b r):=by
 unfold f56 at h
 refine fI func56 λ_ _=>?_
 refine Rcl 2 q (Bd q q (Zs _) q (Rll 9 q (Zq (aa E90 t0.text.loops e29 q q Zl) q (Rlc 3 q (Ci h q (λh=>?_) λh=>?_)))))
 exact Rcx 7 q (FA h)
 refine Rcl 4 q (WL.s ((dY (α:=Bool) (λx:Int=>Value.int .i64 x) (λx:Bool=>AV.d (.b x))).does) (Zw q) q q (Rlc 3 q (Jn1 (λ_=> []) (λf=> [mpO (λx:Int=>Value.int .i64 x) (λx:Bool=>AV.d (.b x)) f]) h (λk h=>?_) λf h=>?_)))
 refine Rcl 5 q (Zq (aa E90 t0.text.loops e29 q q Zl) q (Rlc 4 q (Ln2 (λc _=> [(1, .d (.pc (aF t0))),(3, .mp 0),(14, .l E90 t0.text.loops),(15, .n (List.length t0.text.loops:Int)),(16, .n c)]) (λ_ a=> [mpO (λx:Int=>Value.int .i64 x) (λx:Bool=>AV.d (.b x)) a]) (f56_l1 t0 k) h (λ_ _ h=>by rw[f56_l1] at h;cases h) λn c a h=>?_)))
 rw[f56_l1] at h
 refine Rcc 6 q (Ci h q (λh=>?_) λh=>?_)
 refine Rcl 6 q (Ix h e29 rY q Zl q q λo _ h=>(Rl 1 q (Al z90 q (sS Z6 s90 Z2 (Rlc 4 q (br kR kR (Rq 4 q ?_)))))))
 apply WQ.or 6 (t:=23) (d:=29)
 exact q
 intro p
 exact Rq 6 q (WQ.nil ⟨[_,_,_,_,_,_],q,q,q⟩)
 exact Rq 6 q (WQ.nil ⟨[_,_,_,_,_,_],q,q,q⟩)
 refine Rq 1 q ?_
 apply WQ.or 6 (t:=30) (d:=36)
 exact q
 intro w
 exact Rq 3 q (WQ.q (YieldsQ.fn q q q q q (f75_c) Lw) (aP q q q) q q (Rq 2 q (WQ.nil ⟨[_,_,_,_,_,_],q,q,q⟩)))
 exact Rq 6 q (WQ.nil ⟨[_,_,_,_,_,_],q,q,q⟩)
 refine Rq 1 q ?_
 apply WQ.or 5 (t:=37) (d:=42)
 exact q
 intro y
 exact Rq 3 q (WQ.qy (jM (λx:Int=>Value.int .i64 x) (λx:Bool=>AV.d (.b x)) a (z:=false) underlying48 underlying3 (KeyF.int .i64) q q q kR q) q q q (Rq 1 q (WQ.nil ⟨[_,_,_,_,_],q,q,q⟩)))
 exact Rq 5 q (WQ.nil ⟨[_,_,_,_,_],q,q,q⟩)
 refine Rq 1 q ?_
 obtain⟨m,g,h⟩:=ac h
 apply WQ.grp 12 (t:=43) (d:=55) (z:=m)
 exact q
 intro e
 have h:=gc g e
 refine Rq 12 q ?_
 obtain rfl:=Oi h
 exact WQ.nil ⟨[_,_,_,_,_,_,_,_,_,_,_,_],q,q,q⟩
 intro e
 have h:=gd g e
 refine Rq 5 q ?_
 obtain⟨A,j,h⟩:=ac h
 refine WQ.qy (az e27 q Zl q (aq j) (aV fS j) q) q q q (Rq 3 q (WQ.q (YieldsQ.fn q q q q q (f89_c) Lw) (aP q q q) q q (Rq 2 q ?_)))
 obtain rfl:=Oi h
 exact WQ.nil ⟨[_,_,_,_,_,_,_,_,_,_,_,_],q,q,q⟩
 refine Rq 1 q ?_
 apply WQ.or 4 (t:=56) (d:=60)
 exact q
 intro B
 exact Rq 4 q (WQ.nil ⟨[_,_,_,_],q,q,q⟩)
 exact Rq 4 q (WQ.nil ⟨[_,_,_,_],q,q,q⟩)
 refine Rq 1 q ?_
 apply WQ.or 4 (t:=61) (d:=65)
 exact q
 intro C
 exact Rq 4 q (WQ.nil ⟨[_,_,_,_],q,q,q⟩)
 exact Rq 4 q (WQ.nil ⟨[_,_,_,_],q,q,q⟩)
 refine WQ.nil (Rxc 1 q (Ci h q (λh=>?_) λh=>?_))
 exact Rcx 12 q (FA h)
 exact Rcl 6 q (WL.s0 (dH (λx:Int=>Value.int .i64 x) (λx:Bool=>AV.d (.b x)) a (.inr q) underlying48 underlying3 (KeyF.int .i64) q q q q) (Zw q) q (Rlx 7 q (WE.drop 1 (env':=[(1, .d (.pc (aF t0))),(3, .mp 0),(14, .l E90 t0.text.loops),(15, .n (List.length t0.text.loops:Int)),(16, .n (IntKind.i64.wrap (c+1)))]) Sb q (iq (n8 _ _ _ _) q) (Nat.zero_le _) (Fn2 h))))
 exact Rcx 4 q (En1 h)
 exact Rcx 6 q (FA h)

theorem f43_c{t0:aC}{a1:Int}{r:Bool}(h:f43 t0 a1=some r):Pu prog 43 [.ag (aF t0), .i .i64 a1] (.b r):=by
 unfold f43 at h
 refine fI func43 λ_ _=>?_
 refine Rcl 2 q (Bd q q (Zs _) q (Rll 7 q (wF Z4 (f75_c) Lw Z3 (Rl 1 q ?_))))
 obtain⟨d,e,h⟩:=ac h
 refine Gg 19 8 27 d e (λh=>?_) (λh=>?_) ?_
 refine Rl 4 q ?_
 obtain⟨j,a,h⟩:=ac h
 refine Zy (az e27 q Zl q (aq a) (aV fS a) q) q q q (Rl 4 q ?_)
 obtain⟨f,g,h⟩:=ac h
 refine Gg 9 17 26 f g (λh=>?_) (λh=>?_) ?_
 exact On 9 9 h
 refine Rl 4 q ?_
 obtain⟨k,c,h⟩:=ac h
 exact Zy (az e27 q Zl q (aq c) (aV fS c) q) q q q (On 4 9 h)
 exact On 1 11 h
 exact On 19 19 h
 exact Rlx 4 q (FA h)

theorem f57_c{t0:aC}{r:Bool}(h:f57 t0=some r):Pu prog 57 [.ag (aF t0)] (.b r):=by
 unfold f57 at h
 refine fI func57 λ_ _=>?_
 refine Rcl 2 q (Bd q q (Zs _) q (Rlc 8 q (Jn0 [] [] h (λe h=>?_) λh=>?_)))
 refine Rcl 5 q (Zq (aa E79 t0.text.checks e36 q q Zl) q (Rlc 4 q (Ln2 (λc a=> [(1, .d (.pc (aF t0))),(3, .n c),(8, .l E79 t0.text.checks),(9, .n (List.length t0.text.checks:Int)),(10, .n a)]) (λ_ _=> []) (f57_l1 t0 e) h (λ_ _ h=>by rw[f57_l1] at h;cases h) λn c a h=>?_)))
 rw[f57_l1] at h
 refine Rcc 6 q (Ci h q (λh=>?_) λh=>?_)
 refine Rcl 6 q (Ix h e36 r6 q Zl q q λf _ h=>(Rl 1 q (Al z79 q (sS Z6 s79 Z2 (Rll 10 q ?_)))))
 obtain⟨g,j,h⟩:=ac h
 refine Gg 6 18 24 g j (λh=>?_) (λh=>?_) ?_
 exact On 6 6 h
 refine Rl 3 q ?_
 obtain⟨m,k,h⟩:=ac h
 exact WL.fn q q q q (f43_c k) Lw (aP q q q) q q (On 2 6 h)
 refine Rl 1 q ?_
 refine OG 4 25 29 4 4 ?_
 refine Rl 1 q ?_
 refine OG 4 30 34 4 4 ?_
 refine Rlc 2 q (Ci h q (λh=>Rcx 12 q (FA h)) λh=>?_)
 exact Rcx 13 q (WE.drop 0 (env':=[(1, .d (.pc (aF t0))),(3, .n f.at_),(8, .l E79 t0.text.checks),(9, .n (List.length t0.text.checks:Int)),(10, .n (IntKind.i64.wrap (a+1)))]) Sb q q (Nat.zero_le _) (Fn2 h))
 exact Rcx 4 q (En0 h)
 exact Rcx 6 q (FA h)

theorem f90_c(s0:lN)(a:cQ→oB)(g1:FuncId)(c e:lD)(g:∀(y0:cQ)(r:Bool),a y0=some r→Pu prog g1 (c++ [.ag (R45 y0)]++e) (.b r)){r:Int}(h:f90 s0 a=some r):Pu prog 90 [.sl (List.map E45 s0), .fnc (.func g1) c e] (.i .i64 r):=by
 unfold f90 at h
 refine fI func90 λ_ _=>?_
 refine WC.cast 1 q (d2 _ _ _) (Rcc 5 q (Jn0 [] [] h (λj h=>?_) λh=>?_))
 refine Rcl 3 q (Zq (aa E45 s0 e27 q q Zl) q (Rlc 4 q (Ln1 (λf=> [(0, .l E45 s0),(1, .fn (.func g1) (List.map AV.d c) (List.map AV.d e)),(7, .n (List.length s0:Int)),(8, .n f)]) (λ_=> []) (f90_l1 s0 a j) h (λ_ h=>by rw[f90_l1] at h;cases h) λn f h=>?_)))
 rw[f90_l1] at h
 refine Rcc 6 q (Ci h q (λh=>?_) λh=>?_)
 refine Rcl 15 q (Ix h e27 fS q Zl q q λm _ h=>(Rl 1 q ?_))
 obtain⟨o,k,h⟩:=ac h
 refine WL.fn q q q q (g _ _ k) (jC Lw) (Zw q) q q (Rlc 2 q (Ci h q (λh=>?_) λh=>?_))
 exact Rcx 12 q (FA h)
 exact Rcx 7 q (Fn1 h)
 exact Rcx 4 q (En0 h)
 exact Rcx 6 q (FA h)

theorem f58_c(s0:lN)(d:cQ→oB)(g1:FuncId)(a c:lD)(e:∀(y0:cQ)(r:Bool),d y0=some r→Pu prog g1 (a++ [.ag (R45 y0)]++c) (.b r)){r:Bool}(h:f58 s0 d=some r):Pu prog 58 [.sl (List.map E45 s0), .fnc (.func g1) a c] (.b r):=by
 unfold f58 at h
 refine fI func58 λ_ _=>?_
 refine WC.cast 1 q (d2 _ _ _) (Rcl 9 q ?_)
 obtain⟨g,f,h⟩:=ac h
 exact wF Z4 (f90_c _ _ g1 a c e f) ⟨Zl,(Le.fnc (Zs _) (Zs _)),Zt⟩ Z3 (Rlx 5 q (FA h))

theorem f118_c{o0:Int}{r:fN×Bool}(h:f118 o0=some r):Pu prog 118 [.i .u8 o0] (.tu [.ag (rW r.1), .b r.2]):=by
 unfold f118 at h
 refine fI func118 λ_ _=>?_
 refine Rcl 2 q (Al o8 q (Rll 9 q ?_))
 refine OG 4 6 10 4 4 ?_
 refine Rlc 2 q (Ci h q (λh=>?_) λh=>?_)
 refine Rcl 2 q (Zq (aU p200 o8 q q) q (sS Z6 mW Z2 (Rlx 5 q ?_)))
 obtain rfl:=Oi h
 exact au (rs2 q (bp q q a200 mW q) (bj q)) (fQ ⟨(ay (Zs _)),Zl,Zt⟩)
 refine Rcl 6 q ?_
 obtain⟨c,a,h⟩:=ac h
 refine Zq (qU (R:=rW) e9 (λ_=>q) ar230 (congrArg (Option.map λps=>AV.d (.pc ps)) jk) q q a) q (Rl 1 q (sS Z6 mW Z2 (Rlx 4 q ?_)))
 obtain rfl:=Oi h
 exact au (rs2 q (bp q q a200 mW q) (bj q)) (fQ ⟨(ay (Zs _)),Zl,Zt⟩)

theorem f147_c{s0:ByteArray}{r:List ByteArray}(h:f147 s0=some r):Pu prog 147 [.s s0] (.sl (List.map E9 r)):=by
 unfold f147 at h
 refine fI func147 λ_ _=>?_
 refine Rcc 20 q (Jn2 (λc setBits109=> [(0, .d (D.s s0)),(3, .n c),(5, .d (D.i .u8 setBits109))]) (λ_ _=> []) h (λF h=>?_) λc setBits109 h=>?_)
 refine Rcc 6 q (Ln4 (λj wasSpace116 setBits117 m=> [(0, .d (D.s s0)),(3, .n j),(4, .n wasSpace116),(5, .d (D.i .u8 setBits117)),(6, .n m)]) (λ_ _ _ _=> []) (f147_l1 s0 F) h (λ_ _ _ _ h=>by rw[f147_l1] at h;cases h) λn j wasSpace116 setBits117 m h=>?_)
 rw[f147_l1] at h
 refine Rcl 5 q (Zq (cr underlying9 q q) q (Rlc 3 q (Ci h q (λh=>?_) λh=>?_)))
 refine Rcl 8 q ?_
 obtain⟨ad,G,h⟩:=ac h
 refine Zq (bi underlying9 q q G) q (Rll 7 q (Zq (qW q q q) q (Rll 6 q ?_)))
 obtain⟨ag,H,h⟩:=ac h
 exact Zq (lz (E:=D.i .u8) bH mA q q q H) q (Rll 10 q (Zq (y_com q q) q (Zq (qH q q q) q (Rlx 15 q (Fn4 h)))))
 exact Rcx 4 q (En2 h)
 refine Rcc 7 q (Ci h q (λh=>?_) λh=>?_)
 refine Rcc 1 q ?_
 cases h
 refine Rcl 5 q ?_
 replace h:=gt h
 obtain⟨I,h⟩:=h
 refine WL.s ((NewOs.b (NewOs.cast (f' l232 z9 q (Nat.succ_pos _) q q I) (by exact gD (R:=E9) (z:=(ByteArray.empty:ByteArray)) q))).does) (Zw q) q q (Rlc 18 q (Jn1 (λo=> [(0, .d (D.s s0)),(9, .os 0 0),(10, .n 0),(12, .n o)]) (λ_=> [.os 9 1 0 (eM E9 (List.replicate (Int.toNat c) (ByteArray.empty:ByteArray)))]) h (λJ h=>?_) λo h=>?_))
 refine Rcc 1 q (Ln1 (λp=> [(0, .d (D.s s0)),(9, .os 0 0),(10, .n 0),(12, .n p)]) (λ_=> [.os 9 1 0 (eM E9 (List.replicate (Int.toNat c) (ByteArray.empty:ByteArray)))]) (f147_l2 s0 J) h (λ_ h=>by rw[f147_l2] at h;cases h) λn p h=>?_)
 rw[f147_l2] at h
 refine Rcl 5 q (Zq (cr underlying9 q q) q (Rl 2 q ?_))
 obtain⟨K,L,h⟩:=ac h
 refine Gg 7 46 53 K L (λh=>?_) (λh=>?_) ?_
 refine Rl 2 q ?_
 obtain⟨ax,M,h⟩:=ac h
 refine Zy (bi underlying9 q q M) q q q ?_
 obtain⟨a0,N,h⟩:=ac h
 exact Zy (lz (E:=D.i .u8) bH mA q q q N) q q q (On 3 7 h)
 exact On 7 7 h
 exact Rlc 2 q (Ci h q (λh=>Rcx 9 q (Fn1 h)) λh=>Rcx 4 q (En1 h))
 refine Rcc 6 q (Jn3 (λf fieldStart135 _=> [(0, .d (D.s s0)),(9, .os 0 0),(10, .n f),(11, .n fieldStart135)]) (λ_ _ t=> [.os 9 1 0 (eM E9 t)]) h (λO h=>?_) λf fieldStart135 t h=>?_)
 refine Rcc 1 q (Ln4 (λa fieldStart143 w _=> [(0, .d (D.s s0)),(9, .os 0 0),(10, .n a),(11, .n fieldStart143),(12, .n w)]) (λ_ _ _ e=> [.os 9 1 0 (eM E9 e)]) (f147_l3 s0 O) h (λ_ _ _ _ h=>by rw[f147_l3] at h;cases h) λn a fieldStart143 w e h=>?_)
 rw[f147_l3] at h
 refine Rcl 5 q (Zq (cr underlying9 q q) q (Rlc 3 q (Ci h q (λh=>?_) λh=>?_)))
 refine Rcl 8 q ?_
 obtain⟨a1,P,h⟩:=ac h
 refine Zq (bi underlying9 q q P) q ?_
 obtain⟨a6,Q,h⟩:=ac h
 refine Zq (lz (E:=D.i .u8) bH mA q q q Q) q (Rlc 4 q (Ci h q (λh=>?_) λh=>?_))
 exact Rcx 10 q (Fn4 h)
 refine Rcl 9 q ?_
 obtain⟨g,S,h⟩:=ac h
 refine Zq (qV underlying9 q q q S) q ?_
 obtain⟨a7,x,h⟩:=ac h
 refine Zq (y_pe qs q q q x) q (WL.s0 (gb (R:=E9) (k:=1) (i:=a) (fo:=0) g q q q q Zl q q q s9 q (λ_=>q) x q q) (Zw q) q (Rlc 16 q (Jn1 (λy=> [(0, .d (D.s s0)),(9, .os 0 0),(10, .n (IntKind.i64.wrap (a+1))),(12, .n y)]) (λ_=> [.os 9 1 0 (eM E9 (List.set e (Int.toNat a) g))]) h (λT h=>?_) λy h=>?_)))
 refine Rcc 1 q (Ln1 (λA=> [(0, .d (D.s s0)),(9, .os 0 0),(10, .n (IntKind.i64.wrap (a+1))),(12, .n A)]) (λ_=> [.os 9 1 0 (eM E9 (List.set e (Int.toNat a) g))]) (f147_l4 s0 T) h (λ_ h=>by rw[f147_l4] at h;cases h) λna A h=>?_)
 rw[f147_l4] at h
 refine Rcl 5 q (Zq (cr underlying9 q q) q (Rl 2 q ?_))
 obtain⟨U,V,h⟩:=ac h
 refine Gg 7 84 91 U V (λh=>?_) (λh=>?_) ?_
 refine Rl 2 q ?_
 obtain⟨a',W,h⟩:=ac h
 refine Zy (bi underlying9 q q W) q q q ?_
 obtain⟨bb,X,h⟩:=ac h
 exact Zy (lz (E:=D.i .u8) bH mA q q q X) q q q (On 3 7 h)
 exact On 7 7 h
 exact Rlc 2 q (Ci h q (λh=>Rcx 9 q (Fn1 h)) λh=>Rcx 4 q (En1 h))
 exact Rcx 5 q (Fn4 h)
 exact Rcx 4 q (En3 h)
 refine Jn1 (λ_=> [(9, .os 0 0)]) (λB=> [.os 9 1 0 (eM E9 B)]) h (λ_ h=>?_) (λB h=>?_)
 refine Rcl 4 q (Zq (cr underlying9 q q) q (Rlc 3 q (Ci h q (λh=>?_) λh=>?_)))
 refine Rcl 5 q ?_
 obtain⟨Y,Z,h⟩:=ac h
 refine Zq (pa underlying9 q q Z) q ?_
 obtain⟨bk,C,h⟩:=ac h
 exact Zq (y_pe qs q q q C) q (WL.s0 (gb (R:=E9) (k:=1) (i:=f) (fo:=0) Y q q q q Zl q q q s9 q (λ_=>q) C q q) (Zw q) q (Rlx 1 q (En1 h)))
 exact Rcx 1 q (En1 h)
 refine Rcx 7 q ?_
 exact WE.freezeX [9,105,2] [] 0 _ q (dF qR _) ⟨q,q,q,Zt⟩ Zt (FA h)

theorem f150_c{a:Int}:Pu prog 150 [.i .u8 a] (.tu [.i .i64 (f150 a).1, .i .i64 (f150 a).2]):=by
 generalize h:f150 a=r
 unfold f150 at h
 refine fI func150 λ_ _=>?_
 refine Rcc 19 q (Ci h q (λh=>Rcx 9 q (FB h)) λh=>?_)
 refine Rcc 6 q (Ci h q (λh=>Rcx 9 q (FB h)) λh=>?_)
 refine Rcc 6 q (Ci h q (λh=>Rcx 9 q (FB h)) λh=>?_)
 refine Rcc 6 q (Ci h q (λh=>Rcx 9 q (FB h)) λh=>?_)
 refine Rcc 6 q (Ci h q (λh=>Rcx 9 q (FB h)) λh=>?_)
 refine Rcc 6 q (Ci h q (λh=>Rcx 9 q (FB h)) λh=>?_)
 refine Rcc 6 q (Ci h q (λh=>Rcx 9 q (FB h)) λh=>?_)
 refine Rcc 6 q (Ci h q (λh=>Rcx 9 q (FB h)) λh=>?_)
 refine Rcc 6 q (Ci h q (λh=>Rcx 9 q (FB h)) λh=>?_)
 refine Rcc 6 q (Ci h q (λh=>Rcx 9 q (FB h)) λh=>?_)
 refine Rcc 6 q (Ci h q (λh=>Rcx 9 q (FB h)) λh=>?_)
 exact Rcc 6 q (Ci h q (λh=>Rcx 9 q (FB h)) λh=>Rcx 10 q (FB h))

theorem f91_c{x0:cQ}{r:Bool}(h:f91 x0=some r):Pu prog 91 [.ag (R45 x0)] (.b r):=by
 unfold f91 at h
 refine fI func91 λ_ _=>?_
 refine Rcl 2 q (Bd q q (Zs _) q (Al z4 q (Rll 7 q ?_)))
 obtain⟨c,hd,h⟩:=ac h
 refine wF Z4 (f118_c hd) Lw Z3 (Rl 3 q (Al o8 q (sS Z6 mW Z2 (Rll 8 q ?_))))
 apply WL.or 11 (t:=16) (d:=27)
 exact q
 intro ks
 refine Rl 4 q ?_
 refine AG 6 20 26 6 6 ?_
 exact Rn 1 6
 exact Rn 11 11
 refine Rlc 2 q (Ci h q (λh=>?_) λh=>?_)
 refine Rcl 2 q (sS Z6 s4 Z2 (Rlx 4 q ?_))
 obtain rfl:=Oi h
 exact au (rs1 q (ia q q a4 q)) Zl
 refine Rcl 9 q ?_
 refine AG 5 31 36 5 5 ?_
 refine Rl 1 q ?_
 refine AG 4 37 41 4 4 ?_
 refine Rlc 2 q (Ci h q (λh=>?_) λh=>?_)
 refine Rcl 2 q (sS Z6 s4 Z2 (Rlx 4 q ?_))
 obtain rfl:=Oi h
 exact au (rs1 q (ia q q a4 q)) Zl
 refine Rcl 5 q (Al z45 q (sS Z6 s45 Z2 (Rlc 2 q (Jn8 (λ_ _ _ _ _ _ _ _=> [(1, .d (.pc (R45 x0))),(2, .pt 0 0),(5, .pt 2 0)]) (λJ K L M N O g4 g5=> [.row 4 [.d (D.b false)], .row 200 [.d (D.s c.1.name), .d (D.s c.1.fields)], .row 45 [.d (D.i .u8 x0.op), .n J, .n K, .n L, .n M, .n N, .n O], .row 207 [.pt 2 0], .z, .row 200 [.d (D.s g4), .d (D.s g5)]]) h (λ_ h=>?_) λJ K L M N O g4 g5 h=>?_))))
 refine Rcl 2 q ?_
 obtain⟨he,hf,h⟩:=aA h
 refine WL.inl (us:=[.pt 2 0]) (λrv st'=>(he ()=some r∧Le rv (.fn (.func 146) [] [.pt 3 0])∧SLe st' [.row 4 [.d (D.b false)], .row 200 [.d (D.s c.1.name), .d (D.s c.1.fields)], .row 45 [.d (D.i .u8 x0.op), .n x0.d, .n x0.a, .n x0.b, .n x0.n, .n x0.m, .n x0.to], .row 207 [.pt 2 0]])) q q q q q ?_ (Zw q) q q ?_
 refine cI func119 λ_ _ _ _=>?_
 exact Rcl 2 q (Bx q q q (Rlx 10 q (ao (rs1 q (bj q)) ⟨h,Zl,⟨Zp,Zp,Zp,Zp,Zt⟩⟩)))
 rintro rv st1 ⟨h,hr,hst⟩
 subst hf
 dsimp only at h
 refine WL.cast 43 q hr (WL.weak hst (Zn (Rcc 1 q ?_)))
 obtain⟨g6,hg,h⟩:=aA h
 obtain⟨g7,hh,h⟩:=aA h
 obtain⟨g8,hi,h⟩:=aA h
 obtain⟨g9,hj,h⟩:=aA h
 obtain⟨ha,hk,h⟩:=aA h
 obtain⟨hb,hl,h⟩:=aA h
 obtain⟨hc,hm,h⟩:=aA h
 refine nG (us:=[.yl 4, .pt 3 0]) [2] 4 (λf rv st'=>(∃(P:Int),∃(Q:Int),∃(R:Int),∃(S:Int),∃(T:Int),∃(U:Int),∃(V:ByteArray),∃(W:ByteArray),∃(X:Int),∃(Y:Int),∃(Z:Int),∃(ad:Int),g6 P Q R S T U V W X Y Z ad=some r∧SLe st' [.row 4 [.d (D.b false)], .row 200 [.d (D.s c.1.name), .d (D.s c.1.fields)], .row 45 [.d (D.i .u8 x0.op), .n P, .n Q, .n R, .n S, .n T, .n U], .row 207 [.pt 2 0], .lp f [.pt 0 0] .done (some .ret), .row 200 [.d (D.s V), .d (D.s W)], .row 210 [.fn (.func 169) [] [.pt 7 0], .fn (.func 170) [] [.pt 7 0], .n X, .n Y], .row 235 [.pt 2 1], .row 210 [.fn (.func 169) [] [.pt 7 0], .fn (.func 170) [] [.pt 7 0], .n 0, .n 0], .row 210 [.fn (.func 169) [] [.pt 7 0], .fn (.func 170) [] [.pt 7 0], .n Z, .n ad]])∨(∃(ax:Int),∃(a0:Int),∃(a1:Int),∃(a6:Int),∃(a7:Int),∃(a':Int),∃(bb:ByteArray),∃(bk:ByteArray),∃(bs:Int),∃(b0:Int),∃(b1:Int),∃(b2:Int),g7 ax a0 a1 a6 a7 a' bb bk bs b0 b1 b2=some r∧SLe st' [.row 4 [.d (D.b false)], .row 200 [.d (D.s c.1.name), .d (D.s c.1.fields)], .row 45 [.d (D.i .u8 x0.op), .n ax, .n a0, .n a1, .n a6, .n a7, .n a'], .row 207 [.pt 2 0], .lp f [.pt 0 0] .done (some .ret), .row 200 [.d (D.s bb), .d (D.s bk)], .row 210 [.fn (.func 169) [] [.pt 7 0], .fn (.func 170) [] [.pt 7 0], .n bs, .n b0], .row 235 [.pt 2 2], .row 210 [.fn (.func 169) [] [.pt 7 0], .fn (.func 170) [] [.pt 7 0], .n 0, .n 0], .row 210 [.fn (.func 169) [] [.pt 7 0], .fn (.func 170) [] [.pt 7 0], .n b1, .n b2]])∨(∃(b3:Int),∃(b':Int),∃(ca:Int),∃(cc:Int),∃(cd:Int),∃(ci:Int),∃(cj:ByteArray),∃(cl:ByteArray),∃(cp:Int),∃(cx:Int),∃(c0:Int),∃(c1:Int),g8 b3 b' ca cc cd ci cj cl cp cx c0 c1=some r∧SLe st' [.row 4 [.d (D.b false)], .row 200 [.d (D.s c.1.name), .d (D.s c.1.fields)], .row 45 [.d (D.i .u8 x0.op), .n b3, .n b', .n ca, .n cc, .n cd, .n ci], .row 207 [.pt 2 0], .lp f [.pt 0 0] .done (some .ret), .row 200 [.d (D.s cj), .d (D.s cl)], .row 210 [.fn (.func 169) [] [.pt 7 0], .fn (.func 170) [] [.pt 7 0], .n cp, .n cx], .row 235 [.pt 2 3], .row 210 [.fn (.func 169) [] [.pt 7 0], .fn (.func 170) [] [.pt 7 0], .n 0, .n 0], .row 210 [.fn (.func 169) [] [.pt 7 0], .fn (.func 170) [] [.pt 7 0], .n c0, .n c1]])∨(∃(c2:Int),∃(c3:Int),∃(c4:Int),∃(c5:Int),∃(c6:Int),∃(c7:Int),∃(c8:ByteArray),∃(c':ByteArray),∃(dd:Int),∃(df:Int),∃(dk:Int),∃(ds:Int),g9 c2 c3 c4 c5 c6 c7 c8 c' dd df dk ds=some r∧SLe st' [.row 4 [.d (D.b false)], .row 200 [.d (D.s c.1.name), .d (D.s c.1.fields)], .row 45 [.d (D.i .u8 x0.op), .n c2, .n c3, .n c4, .n c5, .n c6, .n c7], .row 207 [.pt 2 0], .lp f [.pt 0 0] .done (some .ret), .row 200 [.d (D.s c8), .d (D.s c')], .row 210 [.fn (.func 171) [] [.pt 7 0], .fn (.func 172) [] [.pt 7 0], .n dd, .n df], .row 237 [.pt 2 4], .row 210 [.fn (.func 171) [] [.pt 7 0], .fn (.func 172) [] [.pt 7 0], .n 0, .n 0], .row 210 [.fn (.func 171) [] [.pt 7 0], .fn (.func 172) [] [.pt 7 0], .n dk, .n ds]])∨(∃(dS:Int),∃(d0:Int),∃(d1:Int),∃(d':Int),∃(el:Int),∃(eq:Int),∃(es:ByteArray),∃(et:ByteArray),∃(ex:Int),∃(ey:Int),∃(e0:Int),∃(e1:Int),ha dS d0 d1 d' el eq es et ex ey e0 e1=some r∧SLe st' [.row 4 [.d (D.b false)], .row 200 [.d (D.s c.1.name), .d (D.s c.1.fields)], .row 45 [.d (D.i .u8 x0.op), .n dS, .n d0, .n d1, .n d', .n el, .n eq], .row 207 [.pt 2 0], .lp f [.pt 0 0] .done (some .ret), .row 200 [.d (D.s es), .d (D.s et)], .row 210 [.fn (.func 171) [] [.pt 7 0], .fn (.func 172) [] [.pt 7 0], .n ex, .n ey], .row 237 [.pt 2 5], .row 210 [.fn (.func 171) [] [.pt 7 0], .fn (.func 172) [] [.pt 7 0], .n 0, .n 0], .row 210 [.fn (.func 171) [] [.pt 7 0], .fn (.func 172) [] [.pt 7 0], .n e0, .n e1]])∨(∃(e2:Int),∃(e3:Int),∃(e4:Int),∃(e5:Int),∃(e6:Int),∃(e7:Int),∃(e':ByteArray),∃(fi:ByteArray),∃(fl:Int),∃(fo:Int),∃(fr:Int),∃(fv:Int),hb e2 e3 e4 e5 e6 e7 e' fi fl fo fr fv=some r∧SLe st' [.row 4 [.d (D.b false)], .row 200 [.d (D.s c.1.name), .d (D.s c.1.fields)], .row 45 [.d (D.i .u8 x0.op), .n e2, .n e3, .n e4, .n e5, .n e6, .n e7], .row 207 [.pt 2 0], .lp f [.pt 0 0] .done (some .ret), .row 200 [.d (D.s e'), .d (D.s fi)], .row 210 [.fn (.func 169) [] [.pt 7 0], .fn (.func 170) [] [.pt 7 0], .n fl, .n fo], .row 235 [.pt 2 6], .row 210 [.fn (.func 169) [] [.pt 7 0], .fn (.func 170) [] [.pt 7 0], .n 0, .n 0], .row 210 [.fn (.func 169) [] [.pt 7 0], .fn (.func 170) [] [.pt 7 0], .n fr, .n fv]])∨(∃(fz:Int),∃(f0:Int),∃(f1:Int),∃(f2:Int),∃(f4:Int),∃(f9:Int),∃(gl:ByteArray),∃(gm:ByteArray),hc fz f0 f1 f2 f4 f9 gl gm=some r∧SLe st' [.row 4 [.d (D.b false)], .row 200 [.d (D.s c.1.name), .d (D.s c.1.fields)], .row 45 [.d (D.i .u8 x0.op), .n fz, .n f0, .n f1, .n f2, .n f4, .n f9], .row 207 [.pt 2 0], .lp f [.pt 0 0] .ready none, .row 200 [.d (D.s gl), .d (D.s gm)]])) q q q q q (λf H=>?_) ?_
 refine cI func146 λ_ _ _ I=>?_
 refine Rcl 6 q ?_
 obtain⟨e,ho,h⟩:=ac h
 refine wF Z4 (f118_c ho) Lw Z3 (Rl 3 q (Al o8 q (sS Z6 mW Z2 (Rll 7 q ?_))))
 obtain⟨F,hp,h⟩:=ac h
 refine wF Z4 (f147_c hp) Lw Z3 (Zq (aa E9 F qs q q Zl) q (Rlc 4 q (Ln7 (λG _ _ _ _ _ _=> [(0, .yl 4),(1, .pt 3 0),(18, .l E9 F),(19, .n (List.length F:Int)),(20, .n G)]) (λ_ g j k o p w=> [.row 4 [.d (D.b false)], .row 200 [.d (D.s c.1.name), .d (D.s c.1.fields)], .row 45 [.d (D.i .u8 x0.op), .n g, .n j, .n k, .n o, .n p, .n w], .row 207 [.pt 2 0], .lp f [.pt 0 0] .ready none, .row 200 [.d (D.s e.1.name), .d (D.s e.1.fields)]]) (f91_l1 g6 g7 g8 g9 ha hb hc e F) h (λ_ _ _ _ _ _ _ h=>by rw[f91_l1] at h;cases h) λn G g j k o p w h=>?_)))
 rw[f91_l1] at h
 refine Rcc 6 q (Ci h q (λh=>?_) λh=>?_)
 refine Rcl 6 q (Ix h qs qR q Zl q q λkt _ h=>(Rll 6 q (Al cY q (Rll 6 q ?_))))
 obtain⟨kv,hq,h⟩:=ac h
 refine Zq (bi underlying9 q q hq) q (Rlc 9 q (Ci h q (λh=>?_) λh=>?_))
 refine Rcl 4 q ?_
 obtain⟨hs,ht,h⟩:=aA h
 refine WL.inl (us:=[.pt 2 1]) (λrv st'=>(hs ()=some r∧Le rv (.ag [.fn (.func 169) [] [.pt 7 0], .fn (.func 170) [] [.pt 7 0], .n 0, .n 0])∧SLe st' [.row 4 [.d (D.b false)], .row 200 [.d (D.s c.1.name), .d (D.s c.1.fields)], .row 45 [.d (D.i .u8 x0.op), .n g, .n j, .n k, .n o, .n p, .n w], .row 207 [.pt 2 0], .lp f [.pt 0 0] .ready none, .row 200 [.d (D.s e.1.name), .d (D.s e.1.fields)], .row 210 [.d (.v .nilFunc), .d (.v .nilFunc), .n 0, .n 0], .row 235 [.pt 2 1], .row 210 [.fn (.func 169) [] [.pt 7 0], .fn (.func 170) [] [.pt 7 0], .n 0, .n 0]])) q q q q q ?_ (Zw q) q q ?_
 refine cI func148 λ_ _ _ _=>?_
 exact Rcl 2 q (Bx q q q (Al cY q (Rll 6 q (Zq (aU mZ cY q q) q (sS Z6 ce Z2 (Rlx 3 q (ao (rs1 q (bp q q nk ce q)) ⟨h,Zl,⟨Zp,Zp,Zp,Zp,⟨q,Zs _,q,q⟩,Zp,Zp,Zp,Zp,Zt⟩⟩)))))))
 rintro rv st1 ⟨h,hr,hst⟩
 subst ht
 dsimp only at h
 refine WL.cast 35 q hr (WL.weak hst (sS Z6 ce Z2 (WL.nil (Rxl 5 q ?_))))
 obtain⟨x,hu,h⟩:=ac h
 refine Zq (bi underlying9 q q hu) q (wF Z4 (f150_c) Lw Z3 (Rl 4 q (sS Z6 s2 Z2 (Rl 1 q (sS Z6 s2 Z2 (Rll 6 q ?_))))))
 obtain⟨hv,hw,h⟩:=aA h
 obtain⟨hx,hy,h⟩:=aA h
 refine WL.yield (env0:=[(44, .ag [.fn (.func 169) [] [.pt 7 0], .fn (.func 170) [] [.pt 7 0], .n ((f150 x).1), .n ((f150 x).2)]),(2, .pt 0 0)]) (λrv st'=>(hv ()=some r∧rv= .d (.v (.bool false))∧SLe st' [.row 4 [.d (D.b false)], .row 200 [.d (D.s c.1.name), .d (D.s c.1.fields)], .row 45 [.d (D.i .u8 x0.op), .n g, .n j, .n k, .n o, .n p, .n w], .row 207 [.pt 2 0], .lp f [.pt 0 0] .done (some .ret), .row 200 [.d (D.s e.1.name), .d (D.s e.1.fields)], .row 210 [.fn (.func 169) [] [.pt 7 0], .fn (.func 170) [] [.pt 7 0], .n ((f150 x).1), .n ((f150 x).2)], .row 235 [.pt 2 1], .row 210 [.fn (.func 169) [] [.pt 7 0], .fn (.func 170) [] [.pt 7 0], .n 0, .n 0], .row 210 [.fn (.func 169) [] [.pt 7 0], .fn (.func 170) [] [.pt 7 0], .n ((f150 x).1), .n ((f150 x).2)]])∨(hx ()=some r∧rv= .d (.v (.bool true))∧SLe st' [.row 4 [.d (D.b false)], .row 200 [.d (D.s c.1.name), .d (D.s c.1.fields)], .row 45 [.d (D.i .u8 x0.op), .n 0, .n j, .n k, .n o, .n p, .n w], .row 207 [.pt 2 0], .lp f [.pt 0 0] .ready none, .row 200 [.d (D.s e.1.name), .d (D.s e.1.fields)], .row 210 [.fn (.func 169) [] [.pt 7 0], .fn (.func 170) [] [.pt 7 0], .n ((f150 x).1), .n ((f150 x).2)], .row 235 [.pt 2 1], .row 210 [.fn (.func 169) [] [.pt 7 0], .fn (.func 170) [] [.pt 7 0], .n 0, .n 0], .row 210 [.fn (.func 169) [] [.pt 7 0], .fn (.func 170) [] [.pt 7 0], .n ((f150 x).1), .n ((f150 x).2)]])) H q q q q q q q (λee hn gs k0=>?_) (Zw q) q q ?_
 obtain⟨em,eφ,ew,en,er⟩:=ee
 subst hn
 refine Rcl 1 q (Al cY q (sS Z6 ce Z2 (Rlx 1 q (eB gs q (Rcl 6 q ?_)))))
 obtain⟨hz,hA,h⟩:=aA h
 refine WL.inl (us:=[.pt 7 0]) (λrv st'=>(hz ()=some r∧Le rv (.n g)∧SLe st' [.row 4 [.d (D.b false)], .row 200 [.d (D.s c.1.name), .d (D.s c.1.fields)], .row 45 [.d (D.i .u8 x0.op), .n g, .n j, .n k, .n o, .n p, .n w], .row 207 [.pt 2 0], .lp f [.pt 0 0] .busy none, .row 200 [.d (D.s e.1.name), .d (D.s e.1.fields)], .row 210 [.fn (.func 169) [] [.pt 7 0], .fn (.func 170) [] [.pt 7 0], .n ((f150 x).1), .n ((f150 x).2)], .row 235 [.pt 2 1], .row 210 [.fn (.func 169) [] [.pt 7 0], .fn (.func 170) [] [.pt 7 0], .n 0, .n 0], .row 210 [.fn (.func 169) [] [.pt 7 0], .fn (.func 170) [] [.pt 7 0], .n ((f150 x).1), .n ((f150 x).2)]])) q q q q q ?_ (Zw q) q q ?_
 refine cI func169 λ_ _ _ _=>?_
 exact Rcx 14 q (ao (rs1 q (bj q)) ⟨h,Zl,⟨Zp,Zp,Zp,Zp,⟨q,Zs _,q,q⟩,Zp,Zp,Zp,Zp,Zp,Zt⟩⟩)
 rintro rv st1 ⟨h,hr,hst⟩
 subst hA
 dsimp only at h
 refine WL.cast 47 q hr (WL.weak hst (Rl 1 q (Zn (Rcl 7 q ?_))))
 refine OG 5 52 57 5 5 ?_
 refine Rlc 2 q (Ci h q (λh=>?_) λh=>?_)
 exact Rcl 2 q (sS Z6 s4 Z2 (Rlx 5 q (bq gs q (.inl ⟨h,q,⟨Zp,Zp,Zp,Zp,⟨q,Zs _,q,q⟩,Zp,Zp,Zp,Zp,Zp,Zt⟩⟩))))
 refine Rcl 5 q ?_
 obtain⟨hB,hC,h⟩:=aA h
 refine WL.inl (us:=[.n 0, .pt 7 0]) (λrv st'=>(hB ()=some r∧Le rv (.tu [])∧SLe st' [.row 4 [.d (D.b false)], .row 200 [.d (D.s c.1.name), .d (D.s c.1.fields)], .row 45 [.d (D.i .u8 x0.op), .n 0, .n j, .n k, .n o, .n p, .n w], .row 207 [.pt 2 0], .lp f [.pt 0 0] .busy none, .row 200 [.d (D.s e.1.name), .d (D.s e.1.fields)], .row 210 [.fn (.func 169) [] [.pt 7 0], .fn (.func 170) [] [.pt 7 0], .n ((f150 x).1), .n ((f150 x).2)], .row 235 [.pt 2 1], .row 210 [.fn (.func 169) [] [.pt 7 0], .fn (.func 170) [] [.pt 7 0], .n 0, .n 0], .row 210 [.fn (.func 169) [] [.pt 7 0], .fn (.func 170) [] [.pt 7 0], .n ((f150 x).1), .n ((f150 x).2)]])) q q q q q ?_ (Zw q) q q ?_
 refine cI func170 λ_ _ _ _=>?_
 exact Rcl 4 q (sS Z6 s3 Z2 (Rlx 1 q (dq (ao (eE q) ⟨h,Zl,⟨Zp,Zp,Zp,Zp,⟨q,Zs _,q,q⟩,Zp,Zp,Zp,Zp,Zp,Zt⟩⟩))))
 rintro rv st1 ⟨h,hr,hst⟩
 subst hC
 dsimp only at h
 exact WL.cast 60 q hr (WL.weak hst (WL.nil (Rxx 1 q (c9 gs q (.inr (⟨h,q,⟨Zp,Zp,Zp,Zp,⟨q,Zs _,q,q⟩,Zp,Zp,Zp,Zp,Zp,Zt⟩⟩))))))
 rintro rv st1 (⟨h,rfl,hst⟩|⟨h,rfl,hst⟩)
 subst hw
 dsimp only at h
 exact WL.weak hst (Rl 1 q (Zn (bo q (Rcx 5 q (ao (eE q) (.inl ⟨g,j,k,o,p,w,e.1.name,e.1.fields,((f150 x).1),((f150 x).2),((f150 x).1),((f150 x).2),h,⟨Zp,Zp,Zp,Zp,⟨q,Zs _,q,q⟩,Zp,Zp,Zp,Zp,Zp,Zt⟩⟩))))))
 subst hy
 dsimp only at h
 exact WL.weak hst (Rl 1 q (Zn (cu q (Rcx 7 q (WE.drop 6 (env':=[(0, .yl 4),(1, .pt 3 0),(18, .l E9 F),(19, .n (List.length F:Int)),(20, .n (IntKind.i64.wrap (G+1)))]) Sb q q (Nat.le_trans (Nat.le_of_eq I) (nbT q)) (Fn7 h))))))
 refine Rcc 6 q (Ci h q (λh=>?_) λh=>?_)
 refine Rcl 4 q ?_
 obtain⟨hE,hF,h⟩:=aA h
 refine WL.inl (us:=[.pt 2 2]) (λrv st'=>(hE ()=some r∧Le rv (.ag [.fn (.func 169) [] [.pt 7 0], .fn (.func 170) [] [.pt 7 0], .n 0, .n 0])∧SLe st' [.row 4 [.d (D.b false)], .row 200 [.d (D.s c.1.name), .d (D.s c.1.fields)], .row 45 [.d (D.i .u8 x0.op), .n g, .n j, .n k, .n o, .n p, .n w], .row 207 [.pt 2 0], .lp f [.pt 0 0] .ready none, .row 200 [.d (D.s e.1.name), .d (D.s e.1.fields)], .row 210 [.d (.v .nilFunc), .d (.v .nilFunc), .n 0, .n 0], .row 235 [.pt 2 2], .row 210 [.fn (.func 169) [] [.pt 7 0], .fn (.func 170) [] [.pt 7 0], .n 0, .n 0]])) q q q q q ?_ (Zw q) q q ?_
 refine cI func148 λ_ _ _ _=>?_
 exact Rcl 2 q (Bx q q q (Al cY q (Rll 6 q (Zq (aU mZ cY q q) q (sS Z6 ce Z2 (Rlx 3 q (ao (rs1 q (bp q q nk ce q)) ⟨h,Zl,⟨Zp,Zp,Zp,Zp,⟨q,Zs _,q,q⟩,Zp,Zp,Zp,Zp,Zt⟩⟩)))))))
 rintro rv st1 ⟨h,hr,hst⟩
 subst hF
 dsimp only at h
 refine WL.cast 41 q hr (WL.weak hst (sS Z6 ce Z2 (WL.nil (Rxl 5 q ?_))))
 obtain⟨y,hI,h⟩:=ac h
 refine Zq (bi underlying9 q q hI) q (wF Z4 (f150_c) Lw Z3 (Rl 4 q (sS Z6 s2 Z2 (Rl 1 q (sS Z6 s2 Z2 (Rll 6 q ?_))))))
 obtain⟨hJ,hK,h⟩:=aA h
 obtain⟨hL,hM,h⟩:=aA h
 refine WL.yield (env0:=[(44, .ag [.fn (.func 169) [] [.pt 7 0], .fn (.func 170) [] [.pt 7 0], .n ((f150 y).1), .n ((f150 y).2)]),(2, .pt 0 0)]) (λrv st'=>(hJ ()=some r∧rv= .d (.v (.bool false))∧SLe st' [.row 4 [.d (D.b false)], .row 200 [.d (D.s c.1.name), .d (D.s c.1.fields)], .row 45 [.d (D.i .u8 x0.op), .n g, .n j, .n k, .n o, .n p, .n w], .row 207 [.pt 2 0], .lp f [.pt 0 0] .done (some .ret), .row 200 [.d (D.s e.1.name), .d (D.s e.1.fields)], .row 210 [.fn (.func 169) [] [.pt 7 0], .fn (.func 170) [] [.pt 7 0], .n ((f150 y).1), .n ((f150 y).2)], .row 235 [.pt 2 2], .row 210 [.fn (.func 169) [] [.pt 7 0], .fn (.func 170) [] [.pt 7 0], .n 0, .n 0], .row 210 [.fn (.func 169) [] [.pt 7 0], .fn (.func 170) [] [.pt 7 0], .n ((f150 y).1), .n ((f150 y).2)]])∨(hL ()=some r∧rv= .d (.v (.bool true))∧SLe st' [.row 4 [.d (D.b false)], .row 200 [.d (D.s c.1.name), .d (D.s c.1.fields)], .row 45 [.d (D.i .u8 x0.op), .n g, .n 0, .n k, .n o, .n p, .n w], .row 207 [.pt 2 0], .lp f [.pt 0 0] .ready none, .row 200 [.d (D.s e.1.name), .d (D.s e.1.fields)], .row 210 [.fn (.func 169) [] [.pt 7 0], .fn (.func 170) [] [.pt 7 0], .n ((f150 y).1), .n ((f150 y).2)], .row 235 [.pt 2 2], .row 210 [.fn (.func 169) [] [.pt 7 0], .fn (.func 170) [] [.pt 7 0], .n 0, .n 0], .row 210 [.fn (.func 169) [] [.pt 7 0], .fn (.func 170) [] [.pt 7 0], .n ((f150 y).1), .n ((f150 y).2)]])) H q q q q q q q (λee hn gx k1=>?_) (Zw q) q q ?_
 obtain⟨em,eφ,ew,en,er⟩:=ee
 subst hn
 refine Rcl 1 q (Al cY q (sS Z6 ce Z2 (Rlx 1 q (eB gx q (Rcl 6 q ?_)))))
 obtain⟨hN,hQ,h⟩:=aA h
 refine WL.inl (us:=[.pt 7 0]) (λrv st'=>(hN ()=some r∧Le rv (.n j)∧SLe st' [.row 4 [.d (D.b false)], .row 200 [.d (D.s c.1.name), .d (D.s c.1.fields)], .row 45 [.d (D.i .u8 x0.op), .n g, .n j, .n k, .n o, .n p, .n w], .row 207 [.pt 2 0], .lp f [.pt 0 0] .busy none, .row 200 [.d (D.s e.1.name), .d (D.s e.1.fields)], .row 210 [.fn (.func 169) [] [.pt 7 0], .fn (.func 170) [] [.pt 7 0], .n ((f150 y).1), .n ((f150 y).2)], .row 235 [.pt 2 2], .row 210 [.fn (.func 169) [] [.pt 7 0], .fn (.func 170) [] [.pt 7 0], .n 0, .n 0], .row 210 [.fn (.func 169) [] [.pt 7 0], .fn (.func 170) [] [.pt 7 0], .n ((f150 y).1), .n ((f150 y).2)]])) q q q q q ?_ (Zw q) q q ?_
 refine cI func169 λ_ _ _ _=>?_
 exact Rcx 14 q (ao (rs1 q (bj q)) ⟨h,Zl,⟨Zp,Zp,Zp,Zp,⟨q,Zs _,q,q⟩,Zp,Zp,Zp,Zp,Zp,Zt⟩⟩)
 rintro rv st1 ⟨h,hr,hst⟩
 subst hQ
 dsimp only at h
 refine WL.cast 47 q hr (WL.weak hst (Rl 1 q (Zn (Rcl 7 q ?_))))
 refine OG 5 52 57 5 5 ?_
 refine Rlc 2 q (Ci h q (λh=>?_) λh=>?_)
 exact Rcl 2 q (sS Z6 s4 Z2 (Rlx 5 q (bq gx q (.inl ⟨h,q,⟨Zp,Zp,Zp,Zp,⟨q,Zs _,q,q⟩,Zp,Zp,Zp,Zp,Zp,Zt⟩⟩))))
 refine Rcl 5 q ?_
 obtain⟨hR,hS,h⟩:=aA h
 refine WL.inl (us:=[.n 0, .pt 7 0]) (λrv st'=>(hR ()=some r∧Le rv (.tu [])∧SLe st' [.row 4 [.d (D.b false)], .row 200 [.d (D.s c.1.name), .d (D.s c.1.fields)], .row 45 [.d (D.i .u8 x0.op), .n g, .n 0, .n k, .n o, .n p, .n w], .row 207 [.pt 2 0], .lp f [.pt 0 0] .busy none, .row 200 [.d (D.s e.1.name), .d (D.s e.1.fields)], .row 210 [.fn (.func 169) [] [.pt 7 0], .fn (.func 170) [] [.pt 7 0], .n ((f150 y).1), .n ((f150 y).2)], .row 235 [.pt 2 2], .row 210 [.fn (.func 169) [] [.pt 7 0], .fn (.func 170) [] [.pt 7 0], .n 0, .n 0], .row 210 [.fn (.func 169) [] [.pt 7 0], .fn (.func 170) [] [.pt 7 0], .n ((f150 y).1), .n ((f150 y).2)]])) q q q q q ?_ (Zw q) q q ?_
 refine cI func170 λ_ _ _ _=>?_
 exact Rcl 4 q (sS Z6 s3 Z2 (Rlx 1 q (dq (ao (eE q) ⟨h,Zl,⟨Zp,Zp,Zp,Zp,⟨q,Zs _,q,q⟩,Zp,Zp,Zp,Zp,Zp,Zt⟩⟩))))
 rintro rv st1 ⟨h,hr,hst⟩
 subst hS
 dsimp only at h
 exact WL.cast 60 q hr (WL.weak hst (WL.nil (Rxx 1 q (c9 gx q (.inr (⟨h,q,⟨Zp,Zp,Zp,Zp,⟨q,Zs _,q,q⟩,Zp,Zp,Zp,Zp,Zp,Zt⟩⟩))))))
 rintro rv st1 (⟨h,rfl,hst⟩|⟨h,rfl,hst⟩)
 subst hK
 dsimp only at h
 exact WL.weak hst (Rl 1 q (Zn (bo q (Rcx 5 q (ao (eE q) (.inr (.inl ⟨g,j,k,o,p,w,e.1.name,e.1.fields,((f150 y).1),((f150 y).2),((f150 y).1),((f150 y).2),h,⟨Zp,Zp,Zp,Zp,⟨q,Zs _,q,q⟩,Zp,Zp,Zp,Zp,Zp,Zt⟩⟩)))))))
 subst hM
 dsimp only at h
 exact WL.weak hst (Rl 1 q (Zn (cu q (Rcx 7 q (WE.drop 6 (env':=[(0, .yl 4),(1, .pt 3 0),(18, .l E9 F),(19, .n (List.length F:Int)),(20, .n (IntKind.i64.wrap (G+1)))]) Sb q q (Nat.le_trans (Nat.le_of_eq I) (nbT q)) (Fn7 h))))))
 refine Rcc 6 q (Ci h q (λh=>?_) λh=>?_)
 refine Rcl 4 q ?_
 obtain⟨hT,hV,h⟩:=aA h
 refine WL.inl (us:=[.pt 2 3]) (λrv st'=>(hT ()=some r∧Le rv (.ag [.fn (.func 169) [] [.pt 7 0], .fn (.func 170) [] [.pt 7 0], .n 0, .n 0])∧SLe st' [.row 4 [.d (D.b false)], .row 200 [.d (D.s c.1.name), .d (D.s c.1.fields)], .row 45 [.d (D.i .u8 x0.op), .n g, .n j, .n k, .n o, .n p, .n w], .row 207 [.pt 2 0], .lp f [.pt 0 0] .ready none, .row 200 [.d (D.s e.1.name), .d (D.s e.1.fields)], .row 210 [.d (.v .nilFunc), .d (.v .nilFunc), .n 0, .n 0], .row 235 [.pt 2 3], .row 210 [.fn (.func 169) [] [.pt 7 0], .fn (.func 170) [] [.pt 7 0], .n 0, .n 0]])) q q q q q ?_ (Zw q) q q ?_
 refine cI func148 λ_ _ _ _=>?_
 exact Rcl 2 q (Bx q q q (Al cY q (Rll 6 q (Zq (aU mZ cY q q) q (sS Z6 ce Z2 (Rlx 3 q (ao (rs1 q (bp q q nk ce q)) ⟨h,Zl,⟨Zp,Zp,Zp,Zp,⟨q,Zs _,q,q⟩,Zp,Zp,Zp,Zp,Zt⟩⟩)))))))
 rintro rv st1 ⟨h,hr,hst⟩
 subst hV
 dsimp only at h
 refine WL.cast 47 q hr (WL.weak hst (sS Z6 ce Z2 (WL.nil (Rxl 5 q ?_))))
 obtain⟨A,hW,h⟩:=ac h
 refine Zq (bi underlying9 q q hW) q (wF Z4 (f150_c) Lw Z3 (Rl 4 q (sS Z6 s2 Z2 (Rl 1 q (sS Z6 s2 Z2 (Rll 6 q ?_))))))
 obtain⟨hX,h0,h⟩:=aA h
 obtain⟨h1,h2,h⟩:=aA h
 refine WL.yield (env0:=[(44, .ag [.fn (.func 169) [] [.pt 7 0], .fn (.func 170) [] [.pt 7 0], .n ((f150 A).1), .n ((f150 A).2)]),(2, .pt 0 0)]) (λrv st'=>(hX ()=some r∧rv= .d (.v (.bool false))∧SLe st' [.row 4 [.d (D.b false)], .row 200 [.d (D.s c.1.name), .d (D.s c.1.fields)], .row 45 [.d (D.i .u8 x0.op), .n g, .n j, .n k, .n o, .n p, .n w], .row 207 [.pt 2 0], .lp f [.pt 0 0] .done (some .ret), .row 200 [.d (D.s e.1.name), .d (D.s e.1.fields)], .row 210 [.fn (.func 169) [] [.pt 7 0], .fn (.func 170) [] [.pt 7 0], .n ((f150 A).1), .n ((f150 A).2)], .row 235 [.pt 2 3], .row 210 [.fn (.func 169) [] [.pt 7 0], .fn (.func 170) [] [.pt 7 0], .n 0, .n 0], .row 210 [.fn (.func 169) [] [.pt 7 0], .fn (.func 170) [] [.pt 7 0], .n ((f150 A).1), .n ((f150 A).2)]])∨(h1 ()=some r∧rv= .d (.v (.bool true))∧SLe st' [.row 4 [.d (D.b false)], .row 200 [.d (D.s c.1.name), .d (D.s c.1.fields)], .row 45 [.d (D.i .u8 x0.op), .n g, .n j, .n 0, .n o, .n p, .n w], .row 207 [.pt 2 0], .lp f [.pt 0 0] .ready none, .row 200 [.d (D.s e.1.name), .d (D.s e.1.fields)], .row 210 [.fn (.func 169) [] [.pt 7 0], .fn (.func 170) [] [.pt 7 0], .n ((f150 A).1), .n ((f150 A).2)], .row 235 [.pt 2 3], .row 210 [.fn (.func 169) [] [.pt 7 0], .fn (.func 170) [] [.pt 7 0], .n 0, .n 0], .row 210 [.fn (.func 169) [] [.pt 7 0], .fn (.func 170) [] [.pt 7 0], .n ((f150 A).1), .n ((f150 A).2)]])) H q q q q q q q (λee hn g0 k2=>?_) (Zw q) q q ?_
 obtain⟨em,eφ,ew,en,er⟩:=ee
 subst hn
 refine Rcl 1 q (Al cY q (sS Z6 ce Z2 (Rlx 1 q (eB g0 q (Rcl 6 q ?_)))))
 obtain⟨h3,h4,h⟩:=aA h
 refine WL.inl (us:=[.pt 7 0]) (λrv st'=>(h3 ()=some r∧Le rv (.n k)∧SLe st' [.row 4 [.d (D.b false)], .row 200 [.d (D.s c.1.name), .d (D.s c.1.fields)], .row 45 [.d (D.i .u8 x0.op), .n g, .n j, .n k, .n o, .n p, .n w], .row 207 [.pt 2 0], .lp f [.pt 0 0] .busy none, .row 200 [.d (D.s e.1.name), .d (D.s e.1.fields)], .row 210 [.fn (.func 169) [] [.pt 7 0], .fn (.func 170) [] [.pt 7 0], .n ((f150 A).1), .n ((f150 A).2)], .row 235 [.pt 2 3], .row 210 [.fn (.func 169) [] [.pt 7 0], .fn (.func 170) [] [.pt 7 0], .n 0, .n 0], .row 210 [.fn (.func 169) [] [.pt 7 0], .fn (.func 170) [] [.pt 7 0], .n ((f150 A).1), .n ((f150 A).2)]])) q q q q q ?_ (Zw q) q q ?_
 refine cI func169 λ_ _ _ _=>?_
 exact Rcx 14 q (ao (rs1 q (bj q)) ⟨h,Zl,⟨Zp,Zp,Zp,Zp,⟨q,Zs _,q,q⟩,Zp,Zp,Zp,Zp,Zp,Zt⟩⟩)
 rintro rv st1 ⟨h,hr,hst⟩
 subst h4
 dsimp only at h
 refine WL.cast 47 q hr (WL.weak hst (Rl 1 q (Zn (Rcl 7 q ?_))))
 refine OG 5 52 57 5 5 ?_
 refine Rlc 2 q (Ci h q (λh=>?_) λh=>?_)
 exact Rcl 2 q (sS Z6 s4 Z2 (Rlx 5 q (bq g0 q (.inl ⟨h,q,⟨Zp,Zp,Zp,Zp,⟨q,Zs _,q,q⟩,Zp,Zp,Zp,Zp,Zp,Zt⟩⟩))))
 refine Rcl 5 q ?_
 obtain⟨h5,h6,h⟩:=aA h
 refine WL.inl (us:=[.n 0, .pt 7 0]) (λrv st'=>(h5 ()=some r∧Le rv (.tu [])∧SLe st' [.row 4 [.d (D.b false)], .row 200 [.d (D.s c.1.name), .d (D.s c.1.fields)], .row 45 [.d (D.i .u8 x0.op), .n g, .n j, .n 0, .n o, .n p, .n w], .row 207 [.pt 2 0], .lp f [.pt 0 0] .busy none, .row 200 [.d (D.s e.1.name), .d (D.s e.1.fields)], .row 210 [.fn (.func 169) [] [.pt 7 0], .fn (.func 170) [] [.pt 7 0], .n ((f150 A).1), .n ((f150 A).2)], .row 235 [.pt 2 3], .row 210 [.fn (.func 169) [] [.pt 7 0], .fn (.func 170) [] [.pt 7 0], .n 0, .n 0], .row 210 [.fn (.func 169) [] [.pt 7 0], .fn (.func 170) [] [.pt 7 0], .n ((f150 A).1), .n ((f150 A).2)]])) q q q q q ?_ (Zw q) q q ?_
 refine cI func170 λ_ _ _ _=>?_
 exact Rcl 4 q (sS Z6 s3 Z2 (Rlx 1 q (dq (ao (eE q) ⟨h,Zl,⟨Zp,Zp,Zp,Zp,⟨q,Zs _,q,q⟩,Zp,Zp,Zp,Zp,Zp,Zt⟩⟩))))
 rintro rv st1 ⟨h,hr,hst⟩
 subst h6
 dsimp only at h
 exact WL.cast 60 q hr (WL.weak hst (WL.nil (Rxx 1 q (c9 g0 q (.inr (⟨h,q,⟨Zp,Zp,Zp,Zp,⟨q,Zs _,q,q⟩,Zp,Zp,Zp,Zp,Zp,Zt⟩⟩))))))
 rintro rv st1 (⟨h,rfl,hst⟩|⟨h,rfl,hst⟩)
 subst h0
 dsimp only at h
 exact WL.weak hst (Rl 1 q (Zn (bo q (Rcx 5 q (ao (eE q) (.inr (.inr (.inl ⟨g,j,k,o,p,w,e.1.name,e.1.fields,((f150 A).1),((f150 A).2),((f150 A).1),((f150 A).2),h,⟨Zp,Zp,Zp,Zp,⟨q,Zs _,q,q⟩,Zp,Zp,Zp,Zp,Zp,Zt⟩⟩))))))))
 subst h2
 dsimp only at h
 exact WL.weak hst (Rl 1 q (Zn (cu q (Rcx 7 q (WE.drop 6 (env':=[(0, .yl 4),(1, .pt 3 0),(18, .l E9 F),(19, .n (List.length F:Int)),(20, .n (IntKind.i64.wrap (G+1)))]) Sb q q (Nat.le_trans (Nat.le_of_eq I) (nbT q)) (Fn7 h))))))
 refine Rcc 6 q (Ci h q (λh=>?_) λh=>?_)
 refine Rcl 4 q ?_
 obtain⟨h7,h8,h⟩:=aA h
 refine WL.inl (us:=[.pt 2 4]) (λrv st'=>(h7 ()=some r∧Le rv (.ag [.fn (.func 171) [] [.pt 7 0], .fn (.func 172) [] [.pt 7 0], .n 0, .n 0])∧SLe st' [.row 4 [.d (D.b false)], .row 200 [.d (D.s c.1.name), .d (D.s c.1.fields)], .row 45 [.d (D.i .u8 x0.op), .n g, .n j, .n k, .n o, .n p, .n w], .row 207 [.pt 2 0], .lp f [.pt 0 0] .ready none, .row 200 [.d (D.s e.1.name), .d (D.s e.1.fields)], .row 210 [.d (.v .nilFunc), .d (.v .nilFunc), .n 0, .n 0], .row 237 [.pt 2 4], .row 210 [.fn (.func 171) [] [.pt 7 0], .fn (.func 172) [] [.pt 7 0], .n 0, .n 0]])) q q q q q ?_ (Zw q) q q ?_
 refine cI func149 λ_ _ _ _=>?_
 exact Rcl 2 q (Bx q q q (Al cY q (Rll 6 q (Zq (aU mZ cY q q) q (sS Z6 ce Z2 (Rlx 3 q (ao (rs1 q (bp q q nk ce q)) ⟨h,Zl,⟨Zp,Zp,Zp,Zp,⟨q,Zs _,q,q⟩,Zp,Zp,Zp,Zp,Zt⟩⟩)))))))
 rintro rv st1 ⟨h,hr,hst⟩
 subst h8
 dsimp only at h
 refine WL.cast 53 q hr (WL.weak hst (sS Z6 ce Z2 (WL.nil (Rxl 5 q ?_))))
 obtain⟨B,h9,h⟩:=ac h
 refine Zq (bi underlying9 q q h9) q (wF Z4 (f150_c) Lw Z3 (Rl 4 q (sS Z6 s2 Z2 (Rl 1 q (sS Z6 s2 Z2 (Rll 6 q ?_))))))
 obtain⟨h',ih,h⟩:=aA h
 obtain⟨it,ix,h⟩:=aA h
 refine WL.yield (env0:=[(44, .ag [.fn (.func 171) [] [.pt 7 0], .fn (.func 172) [] [.pt 7 0], .n ((f150 B).1), .n ((f150 B).2)]),(2, .pt 0 0)]) (λrv st'=>(h' ()=some r∧rv= .d (.v (.bool false))∧SLe st' [.row 4 [.d (D.b false)], .row 200 [.d (D.s c.1.name), .d (D.s c.1.fields)], .row 45 [.d (D.i .u8 x0.op), .n g, .n j, .n k, .n o, .n p, .n w], .row 207 [.pt 2 0], .lp f [.pt 0 0] .done (some .ret), .row 200 [.d (D.s e.1.name), .d (D.s e.1.fields)], .row 210 [.fn (.func 171) [] [.pt 7 0], .fn (.func 172) [] [.pt 7 0], .n ((f150 B).1), .n ((f150 B).2)], .row 237 [.pt 2 4], .row 210 [.fn (.func 171) [] [.pt 7 0], .fn (.func 172) [] [.pt 7 0], .n 0, .n 0], .row 210 [.fn (.func 171) [] [.pt 7 0], .fn (.func 172) [] [.pt 7 0], .n ((f150 B).1), .n ((f150 B).2)]])∨(it ()=some r∧rv= .d (.v (.bool true))∧SLe st' [.row 4 [.d (D.b false)], .row 200 [.d (D.s c.1.name), .d (D.s c.1.fields)], .row 45 [.d (D.i .u8 x0.op), .n g, .n j, .n k, .n 0, .n p, .n w], .row 207 [.pt 2 0], .lp f [.pt 0 0] .ready none, .row 200 [.d (D.s e.1.name), .d (D.s e.1.fields)], .row 210 [.fn (.func 171) [] [.pt 7 0], .fn (.func 172) [] [.pt 7 0], .n ((f150 B).1), .n ((f150 B).2)], .row 237 [.pt 2 4], .row 210 [.fn (.func 171) [] [.pt 7 0], .fn (.func 172) [] [.pt 7 0], .n 0, .n 0], .row 210 [.fn (.func 171) [] [.pt 7 0], .fn (.func 172) [] [.pt 7 0], .n ((f150 B).1), .n ((f150 B).2)]])) H q q q q q q q (λee hn g1 k3=>?_) (Zw q) q q ?_
 obtain⟨em,eφ,ew,en,er⟩:=ee
 subst hn
 refine Rcl 1 q (Al cY q (sS Z6 ce Z2 (Rlx 1 q (eB g1 q (Rcl 6 q ?_)))))
 obtain⟨iA,iB,h⟩:=aA h
 refine WL.inl (us:=[.pt 7 0]) (λrv st'=>(iA ()=some r∧Le rv (.n o)∧SLe st' [.row 4 [.d (D.b false)], .row 200 [.d (D.s c.1.name), .d (D.s c.1.fields)], .row 45 [.d (D.i .u8 x0.op), .n g, .n j, .n k, .n o, .n p, .n w], .row 207 [.pt 2 0], .lp f [.pt 0 0] .busy none, .row 200 [.d (D.s e.1.name), .d (D.s e.1.fields)], .row 210 [.fn (.func 171) [] [.pt 7 0], .fn (.func 172) [] [.pt 7 0], .n ((f150 B).1), .n ((f150 B).2)], .row 237 [.pt 2 4], .row 210 [.fn (.func 171) [] [.pt 7 0], .fn (.func 172) [] [.pt 7 0], .n 0, .n 0], .row 210 [.fn (.func 171) [] [.pt 7 0], .fn (.func 172) [] [.pt 7 0], .n ((f150 B).1), .n ((f150 B).2)]])) q q q q q ?_ (Zw q) q q ?_
 refine cI func171 λ_ _ _ _=>?_
 exact Rcx 14 q (ao (rs1 q (bj q)) ⟨h,Zl,⟨Zp,Zp,Zp,Zp,⟨q,Zs _,q,q⟩,Zp,Zp,Zp,Zp,Zp,Zt⟩⟩)
 rintro rv st1 ⟨h,hr,hst⟩
 subst iB
 dsimp only at h
 refine WL.cast 47 q hr (WL.weak hst (Rl 1 q (Zn (Rcl 7 q ?_))))
 refine OG 5 52 57 5 5 ?_
 refine Rlc 2 q (Ci h q (λh=>?_) λh=>?_)
 exact Rcl 2 q (sS Z6 s4 Z2 (Rlx 5 q (bq g1 q (.inl ⟨h,q,⟨Zp,Zp,Zp,Zp,⟨q,Zs _,q,q⟩,Zp,Zp,Zp,Zp,Zp,Zt⟩⟩))))
 refine Rcl 5 q ?_
 obtain⟨i0,i1,h⟩:=aA h
 refine WL.inl (us:=[.n 0, .pt 7 0]) (λrv st'=>(i0 ()=some r∧Le rv (.tu [])∧SLe st' [.row 4 [.d (D.b false)], .row 200 [.d (D.s c.1.name), .d (D.s c.1.fields)], .row 45 [.d (D.i .u8 x0.op), .n g, .n j, .n k, .n 0, .n p, .n w], .row 207 [.pt 2 0], .lp f [.pt 0 0] .busy none, .row 200 [.d (D.s e.1.name), .d (D.s e.1.fields)], .row 210 [.fn (.func 171) [] [.pt 7 0], .fn (.func 172) [] [.pt 7 0], .n ((f150 B).1), .n ((f150 B).2)], .row 237 [.pt 2 4], .row 210 [.fn (.func 171) [] [.pt 7 0], .fn (.func 172) [] [.pt 7 0], .n 0, .n 0], .row 210 [.fn (.func 171) [] [.pt 7 0], .fn (.func 172) [] [.pt 7 0], .n ((f150 B).1), .n ((f150 B).2)]])) q q q q q ?_ (Zw q) q q ?_
 refine cI func172 λ_ _ _ _=>?_
 exact Rcl 4 q (sS Z6 s2 Z2 (Rlx 1 q (dq (ao (eE q) ⟨h,Zl,⟨Zp,Zp,Zp,Zp,⟨q,Zs _,q,q⟩,Zp,Zp,Zp,Zp,Zp,Zt⟩⟩))))
 rintro rv st1 ⟨h,hr,hst⟩
 subst i1
 dsimp only at h
 exact WL.cast 60 q hr (WL.weak hst (WL.nil (Rxx 1 q (c9 g1 q (.inr (⟨h,q,⟨Zp,Zp,Zp,Zp,⟨q,Zs _,q,q⟩,Zp,Zp,Zp,Zp,Zp,Zt⟩⟩))))))
 rintro rv st1 (⟨h,rfl,hst⟩|⟨h,rfl,hst⟩)
 subst ih
 dsimp only at h
 exact WL.weak hst (Rl 1 q (Zn (bo q (Rcx 5 q (ao (eE q) (.inr (.inr (.inr (.inl ⟨g,j,k,o,p,w,e.1.name,e.1.fields,((f150 B).1),((f150 B).2),((f150 B).1),((f150 B).2),h,⟨Zp,Zp,Zp,Zp,⟨q,Zs _,q,q⟩,Zp,Zp,Zp,Zp,Zp,Zt⟩⟩)))))))))
 subst ix
 dsimp only at h
 exact WL.weak hst (Rl 1 q (Zn (cu q (Rcx 7 q (WE.drop 6 (env':=[(0, .yl 4),(1, .pt 3 0),(18, .l E9 F),(19, .n (List.length F:Int)),(20, .n (IntKind.i64.wrap (G+1)))]) Sb q q (Nat.le_trans (Nat.le_of_eq I) (nbT q)) (Fn7 h))))))
 refine Rcc 6 q (Ci h q (λh=>?_) λh=>?_)
 refine Rcl 4 q ?_
 obtain⟨i2,i3,h⟩:=aA h
 refine WL.inl (us:=[.pt 2 5]) (λrv st'=>(i2 ()=some r∧Le rv (.ag [.fn (.func 171) [] [.pt 7 0], .fn (.func 172) [] [.pt 7 0], .n 0, .n 0])∧SLe st' [.row 4 [.d (D.b false)], .row 200 [.d (D.s c.1.name), .d (D.s c.1.fields)], .row 45 [.d (D.i .u8 x0.op), .n g, .n j, .n k, .n o, .n p, .n w], .row 207 [.pt 2 0], .lp f [.pt 0 0] .ready none, .row 200 [.d (D.s e.1.name), .d (D.s e.1.fields)], .row 210 [.d (.v .nilFunc), .d (.v .nilFunc), .n 0, .n 0], .row 237 [.pt 2 5], .row 210 [.fn (.func 171) [] [.pt 7 0], .fn (.func 172) [] [.pt 7 0], .n 0, .n 0]])) q q q q q ?_ (Zw q) q q ?_
 refine cI func149 λ_ _ _ _=>?_
 exact Rcl 2 q (Bx q q q (Al cY q (Rll 6 q (Zq (aU mZ cY q q) q (sS Z6 ce Z2 (Rlx 3 q (ao (rs1 q (bp q q nk ce q)) ⟨h,Zl,⟨Zp,Zp,Zp,Zp,⟨q,Zs _,q,q⟩,Zp,Zp,Zp,Zp,Zt⟩⟩)))))))
 rintro rv st1 ⟨h,hr,hst⟩
 subst i3
 dsimp only at h
 refine WL.cast 59 q hr (WL.weak hst (sS Z6 ce Z2 (WL.nil (Rxl 5 q ?_))))
 obtain⟨C,i4,h⟩:=ac h
 refine Zq (bi underlying9 q q i4) q (wF Z4 (f150_c) Lw Z3 (Rl 4 q (sS Z6 s2 Z2 (Rl 1 q (sS Z6 s2 Z2 (Rll 6 q ?_))))))
 obtain⟨i5,i6,h⟩:=aA h
 obtain⟨i7,i8,h⟩:=aA h
 refine WL.yield (env0:=[(44, .ag [.fn (.func 171) [] [.pt 7 0], .fn (.func 172) [] [.pt 7 0], .n ((f150 C).1), .n ((f150 C).2)]),(2, .pt 0 0)]) (λrv st'=>(i5 ()=some r∧rv= .d (.v (.bool false))∧SLe st' [.row 4 [.d (D.b false)], .row 200 [.d (D.s c.1.name), .d (D.s c.1.fields)], .row 45 [.d (D.i .u8 x0.op), .n g, .n j, .n k, .n o, .n p, .n w], .row 207 [.pt 2 0], .lp f [.pt 0 0] .done (some .ret), .row 200 [.d (D.s e.1.name), .d (D.s e.1.fields)], .row 210 [.fn (.func 171) [] [.pt 7 0], .fn (.func 172) [] [.pt 7 0], .n ((f150 C).1), .n ((f150 C).2)], .row 237 [.pt 2 5], .row 210 [.fn (.func 171) [] [.pt 7 0], .fn (.func 172) [] [.pt 7 0], .n 0, .n 0], .row 210 [.fn (.func 171) [] [.pt 7 0], .fn (.func 172) [] [.pt 7 0], .n ((f150 C).1), .n ((f150 C).2)]])∨(i7 ()=some r∧rv= .d (.v (.bool true))∧SLe st' [.row 4 [.d (D.b false)], .row 200 [.d (D.s c.1.name), .d (D.s c.1.fields)], .row 45 [.d (D.i .u8 x0.op), .n g, .n j, .n k, .n o, .n 0, .n w], .row 207 [.pt 2 0], .lp f [.pt 0 0] .ready none, .row 200 [.d (D.s e.1.name), .d (D.s e.1.fields)], .row 210 [.fn (.func 171) [] [.pt 7 0], .fn (.func 172) [] [.pt 7 0], .n ((f150 C).1), .n ((f150 C).2)], .row 237 [.pt 2 5], .row 210 [.fn (.func 171) [] [.pt 7 0], .fn (.func 172) [] [.pt 7 0], .n 0, .n 0], .row 210 [.fn (.func 171) [] [.pt 7 0], .fn (.func 172) [] [.pt 7 0], .n ((f150 C).1), .n ((f150 C).2)]])) H q q q q q q q (λee hn g2 k4=>?_) (Zw q) q q ?_
 obtain⟨em,eφ,ew,en,er⟩:=ee
 subst hn
 refine Rcl 1 q (Al cY q (sS Z6 ce Z2 (Rlx 1 q (eB g2 q (Rcl 6 q ?_)))))
 obtain⟨i9,i',h⟩:=aA h
 refine WL.inl (us:=[.pt 7 0]) (λrv st'=>(i9 ()=some r∧Le rv (.n p)∧SLe st' [.row 4 [.d (D.b false)], .row 200 [.d (D.s c.1.name), .d (D.s c.1.fields)], .row 45 [.d (D.i .u8 x0.op), .n g, .n j, .n k, .n o, .n p, .n w], .row 207 [.pt 2 0], .lp f [.pt 0 0] .busy none, .row 200 [.d (D.s e.1.name), .d (D.s e.1.fields)], .row 210 [.fn (.func 171) [] [.pt 7 0], .fn (.func 172) [] [.pt 7 0], .n ((f150 C).1), .n ((f150 C).2)], .row 237 [.pt 2 5], .row 210 [.fn (.func 171) [] [.pt 7 0], .fn (.func 172) [] [.pt 7 0], .n 0, .n 0], .row 210 [.fn (.func 171) [] [.pt 7 0], .fn (.func 172) [] [.pt 7 0], .n ((f150 C).1), .n ((f150 C).2)]])) q q q q q ?_ (Zw q) q q ?_
 refine cI func171 λ_ _ _ _=>?_
 exact Rcx 14 q (ao (rs1 q (bj q)) ⟨h,Zl,⟨Zp,Zp,Zp,Zp,⟨q,Zs _,q,q⟩,Zp,Zp,Zp,Zp,Zp,Zt⟩⟩)
 rintro rv st1 ⟨h,hr,hst⟩
 subst i'
 dsimp only at h
 refine WL.cast 47 q hr (WL.weak hst (Rl 1 q (Zn (Rcl 7 q ?_))))
 refine OG 5 52 57 5 5 ?_
 refine Rlc 2 q (Ci h q (λh=>?_) λh=>?_)
 exact Rcl 2 q (sS Z6 s4 Z2 (Rlx 5 q (bq g2 q (.inl ⟨h,q,⟨Zp,Zp,Zp,Zp,⟨q,Zs _,q,q⟩,Zp,Zp,Zp,Zp,Zp,Zt⟩⟩))))
 refine Rcl 5 q ?_
 obtain⟨js,j1,h⟩:=aA h
 refine WL.inl (us:=[.n 0, .pt 7 0]) (λrv st'=>(js ()=some r∧Le rv (.tu [])∧SLe st' [.row 4 [.d (D.b false)], .row 200 [.d (D.s c.1.name), .d (D.s c.1.fields)], .row 45 [.d (D.i .u8 x0.op), .n g, .n j, .n k, .n o, .n 0, .n w], .row 207 [.pt 2 0], .lp f [.pt 0 0] .busy none, .row 200 [.d (D.s e.1.name), .d (D.s e.1.fields)], .row 210 [.fn (.func 171) [] [.pt 7 0], .fn (.func 172) [] [.pt 7 0], .n ((f150 C).1), .n ((f150 C).2)], .row 237 [.pt 2 5], .row 210 [.fn (.func 171) [] [.pt 7 0], .fn (.func 172) [] [.pt 7 0], .n 0, .n 0], .row 210 [.fn (.func 171) [] [.pt 7 0], .fn (.func 172) [] [.pt 7 0], .n ((f150 C).1), .n ((f150 C).2)]])) q q q q q ?_ (Zw q) q q ?_
 refine cI func172 λ_ _ _ _=>?_
 exact Rcl 4 q (sS Z6 s2 Z2 (Rlx 1 q (dq (ao (eE q) ⟨h,Zl,⟨Zp,Zp,Zp,Zp,⟨q,Zs _,q,q⟩,Zp,Zp,Zp,Zp,Zp,Zt⟩⟩))))
 rintro rv st1 ⟨h,hr,hst⟩
 subst j1
 dsimp only at h
 exact WL.cast 60 q hr (WL.weak hst (WL.nil (Rxx 1 q (c9 g2 q (.inr (⟨h,q,⟨Zp,Zp,Zp,Zp,⟨q,Zs _,q,q⟩,Zp,Zp,Zp,Zp,Zp,Zt⟩⟩))))))
 rintro rv st1 (⟨h,rfl,hst⟩|⟨h,rfl,hst⟩)
 subst i6
 dsimp only at h
 exact WL.weak hst (Rl 1 q (Zn (bo q (Rcx 5 q (ao (eE q) (.inr (.inr (.inr (.inr (.inl ⟨g,j,k,o,p,w,e.1.name,e.1.fields,((f150 C).1),((f150 C).2),((f150 C).1),((f150 C).2),h,⟨Zp,Zp,Zp,Zp,⟨q,Zs _,q,q⟩,Zp,Zp,Zp,Zp,Zp,Zt⟩⟩))))))))))
 subst i8
 dsimp only at h
 exact WL.weak hst (Rl 1 q (Zn (cu q (Rcx 7 q (WE.drop 6 (env':=[(0, .yl 4),(1, .pt 3 0),(18, .l E9 F),(19, .n (List.length F:Int)),(20, .n (IntKind.i64.wrap (G+1)))]) Sb q q (Nat.le_trans (Nat.le_of_eq I) (nbT q)) (Fn7 h))))))
 refine Rcl 4 q ?_
 obtain⟨j2,j3,h⟩:=aA h
 refine WL.inl (us:=[.pt 2 6]) (λrv st'=>(j2 ()=some r∧Le rv (.ag [.fn (.func 169) [] [.pt 7 0], .fn (.func 170) [] [.pt 7 0], .n 0, .n 0])∧SLe st' [.row 4 [.d (D.b false)], .row 200 [.d (D.s c.1.name), .d (D.s c.1.fields)], .row 45 [.d (D.i .u8 x0.op), .n g, .n j, .n k, .n o, .n p, .n w], .row 207 [.pt 2 0], .lp f [.pt 0 0] .ready none, .row 200 [.d (D.s e.1.name), .d (D.s e.1.fields)], .row 210 [.d (.v .nilFunc), .d (.v .nilFunc), .n 0, .n 0], .row 235 [.pt 2 6], .row 210 [.fn (.func 169) [] [.pt 7 0], .fn (.func 170) [] [.pt 7 0], .n 0, .n 0]])) q q q q q ?_ (Zw q) q q ?_
 refine cI func148 λ_ _ _ _=>?_
 exact Rcl 2 q (Bx q q q (Al cY q (Rll 6 q (Zq (aU mZ cY q q) q (sS Z6 ce Z2 (Rlx 3 q (ao (rs1 q (bp q q nk ce q)) ⟨h,Zl,⟨Zp,Zp,Zp,Zp,⟨q,Zs _,q,q⟩,Zp,Zp,Zp,Zp,Zt⟩⟩)))))))
 rintro rv st1 ⟨h,hr,hst⟩
 subst j3
 dsimp only at h
 refine WL.cast 29 q hr (WL.weak hst (sS Z6 ce Z2 (WL.nil (Rxl 5 q ?_))))
 obtain⟨E,j4,h⟩:=ac h
 refine Zq (bi underlying9 q q j4) q (wF Z4 (f150_c) Lw Z3 (Rl 4 q (sS Z6 s2 Z2 (Rl 1 q (sS Z6 s2 Z2 (Rll 6 q ?_))))))
 obtain⟨j',ka,h⟩:=aA h
 obtain⟨kc,kf,h⟩:=aA h
 refine WL.yield (env0:=[(44, .ag [.fn (.func 169) [] [.pt 7 0], .fn (.func 170) [] [.pt 7 0], .n ((f150 E).1), .n ((f150 E).2)]),(2, .pt 0 0)]) (λrv st'=>(j' ()=some r∧rv= .d (.v (.bool false))∧SLe st' [.row 4 [.d (D.b false)], .row 200 [.d (D.s c.1.name), .d (D.s c.1.fields)], .row 45 [.d (D.i .u8 x0.op), .n g, .n j, .n k, .n o, .n p, .n w], .row 207 [.pt 2 0], .lp f [.pt 0 0] .done (some .ret), .row 200 [.d (D.s e.1.name), .d (D.s e.1.fields)], .row 210 [.fn (.func 169) [] [.pt 7 0], .fn (.func 170) [] [.pt 7 0], .n ((f150 E).1), .n ((f150 E).2)], .row 235 [.pt 2 6], .row 210 [.fn (.func 169) [] [.pt 7 0], .fn (.func 170) [] [.pt 7 0], .n 0, .n 0], .row 210 [.fn (.func 169) [] [.pt 7 0], .fn (.func 170) [] [.pt 7 0], .n ((f150 E).1), .n ((f150 E).2)]])∨(kc ()=some r∧rv= .d (.v (.bool true))∧SLe st' [.row 4 [.d (D.b false)], .row 200 [.d (D.s c.1.name), .d (D.s c.1.fields)], .row 45 [.d (D.i .u8 x0.op), .n g, .n j, .n k, .n o, .n p, .n 0], .row 207 [.pt 2 0], .lp f [.pt 0 0] .ready none, .row 200 [.d (D.s e.1.name), .d (D.s e.1.fields)], .row 210 [.fn (.func 169) [] [.pt 7 0], .fn (.func 170) [] [.pt 7 0], .n ((f150 E).1), .n ((f150 E).2)], .row 235 [.pt 2 6], .row 210 [.fn (.func 169) [] [.pt 7 0], .fn (.func 170) [] [.pt 7 0], .n 0, .n 0], .row 210 [.fn (.func 169) [] [.pt 7 0], .fn (.func 170) [] [.pt 7 0], .n ((f150 E).1), .n ((f150 E).2)]])) H q q q q q q q (λee hn g3 k'=>?_) (Zw q) q q ?_
 obtain⟨em,eφ,ew,en,er⟩:=ee
 subst hn
 refine Rcl 1 q (Al cY q (sS Z6 ce Z2 (Rlx 1 q (eB g3 q (Rcl 6 q ?_)))))
 obtain⟨ki,kk,h⟩:=aA h
 refine WL.inl (us:=[.pt 7 0]) (λrv st'=>(ki ()=some r∧Le rv (.n w)∧SLe st' [.row 4 [.d (D.b false)], .row 200 [.d (D.s c.1.name), .d (D.s c.1.fields)], .row 45 [.d (D.i .u8 x0.op), .n g, .n j, .n k, .n o, .n p, .n w], .row 207 [.pt 2 0], .lp f [.pt 0 0] .busy none, .row 200 [.d (D.s e.1.name), .d (D.s e.1.fields)], .row 210 [.fn (.func 169) [] [.pt 7 0], .fn (.func 170) [] [.pt 7 0], .n ((f150 E).1), .n ((f150 E).2)], .row 235 [.pt 2 6], .row 210 [.fn (.func 169) [] [.pt 7 0], .fn (.func 170) [] [.pt 7 0], .n 0, .n 0], .row 210 [.fn (.func 169) [] [.pt 7 0], .fn (.func 170) [] [.pt 7 0], .n ((f150 E).1), .n ((f150 E).2)]])) q q q q q ?_ (Zw q) q q ?_
 refine cI func169 λ_ _ _ _=>?_
 exact Rcx 14 q (ao (rs1 q (bj q)) ⟨h,Zl,⟨Zp,Zp,Zp,Zp,⟨q,Zs _,q,q⟩,Zp,Zp,Zp,Zp,Zp,Zt⟩⟩)
 rintro rv st1 ⟨h,hr,hst⟩
 subst kk
 dsimp only at h
 refine WL.cast 47 q hr (WL.weak hst (Rl 1 q (Zn (Rcl 7 q ?_))))
 refine OG 5 52 57 5 5 ?_
 refine Rlc 2 q (Ci h q (λh=>?_) λh=>?_)
 exact Rcl 2 q (sS Z6 s4 Z2 (Rlx 5 q (bq g3 q (.inl ⟨h,q,⟨Zp,Zp,Zp,Zp,⟨q,Zs _,q,q⟩,Zp,Zp,Zp,Zp,Zp,Zt⟩⟩))))
 refine Rcl 5 q ?_
 obtain⟨kl,kn,h⟩:=aA h
 refine WL.inl (us:=[.n 0, .pt 7 0]) (λrv st'=>(kl ()=some r∧Le rv (.tu [])∧SLe st' [.row 4 [.d (D.b false)], .row 200 [.d (D.s c.1.name), .d (D.s c.1.fields)], .row 45 [.d (D.i .u8 x0.op), .n g, .n j, .n k, .n o, .n p, .n 0], .row 207 [.pt 2 0], .lp f [.pt 0 0] .busy none, .row 200 [.d (D.s e.1.name), .d (D.s e.1.fields)], .row 210 [.fn (.func 169) [] [.pt 7 0], .fn (.func 170) [] [.pt 7 0], .n ((f150 E).1), .n ((f150 E).2)], .row 235 [.pt 2 6], .row 210 [.fn (.func 169) [] [.pt 7 0], .fn (.func 170) [] [.pt 7 0], .n 0, .n 0], .row 210 [.fn (.func 169) [] [.pt 7 0], .fn (.func 170) [] [.pt 7 0], .n ((f150 E).1), .n ((f150 E).2)]])) q q q q q ?_ (Zw q) q q ?_
 refine cI func170 λ_ _ _ _=>?_
 exact Rcl 4 q (sS Z6 s3 Z2 (Rlx 1 q (dq (ao (eE q) ⟨h,Zl,⟨Zp,Zp,Zp,Zp,⟨q,Zs _,q,q⟩,Zp,Zp,Zp,Zp,Zp,Zt⟩⟩))))
 rintro rv st1 ⟨h,hr,hst⟩
 subst kn
 dsimp only at h
 exact WL.cast 60 q hr (WL.weak hst (WL.nil (Rxx 1 q (c9 g3 q (.inr (⟨h,q,⟨Zp,Zp,Zp,Zp,⟨q,Zs _,q,q⟩,Zp,Zp,Zp,Zp,Zp,Zt⟩⟩))))))
 rintro rv st1 (⟨h,rfl,hst⟩|⟨h,rfl,hst⟩)
 subst ka
 dsimp only at h
 exact WL.weak hst (Rl 1 q (Zn (bo q (Rcx 5 q (ao (eE q) (.inr (.inr (.inr (.inr (.inr (.inl ⟨g,j,k,o,p,w,e.1.name,e.1.fields,((f150 E).1),((f150 E).2),((f150 E).1),((f150 E).2),h,⟨Zp,Zp,Zp,Zp,⟨q,Zs _,q,q⟩,Zp,Zp,Zp,Zp,Zp,Zt⟩⟩)))))))))))
 subst kf
 dsimp only at h
 exact WL.weak hst (Rl 1 q (Zn (cu q (Rcx 7 q (WE.drop 6 (env':=[(0, .yl 4),(1, .pt 3 0),(18, .l E9 F),(19, .n (List.length F:Int)),(20, .n (IntKind.i64.wrap (G+1)))]) Sb q q (Nat.le_trans (Nat.le_of_eq I) (nbT q)) (Fn7 h))))))
 exact Rcx 4 q (dq (ao (eE q) (.inr (.inr (.inr (.inr (.inr (.inr (⟨g,j,k,o,p,w,e.1.name,e.1.fields,h,⟨Zp,Zp,Zp,Zp,⟨q,Zs _,q,q⟩,Zp,Zt⟩⟩)))))))))
 rintro f rv st1 (⟨P,Q,R,S,T,U,V,W,X,Y,Z,ad,h,hst⟩|⟨ax,a0,a1,a6,a7,a',bb,bk,bs,b0,b1,b2,h,hst⟩|⟨b3,b',ca,cc,cd,ci,cj,cl,cp,cx,c0,c1,h,hst⟩|⟨c2,c3,c4,c5,c6,c7,c8,c',dd,df,dk,ds,h,hst⟩|⟨dS,d0,d1,d',el,eq,es,et,ex,ey,e0,e1,h,hst⟩|⟨e2,e3,e4,e5,e6,e7,e',fi,fl,fo,fr,fv,h,hst⟩|⟨fz,f0,f1,f2,f4,f9,gl,gm,h,hst⟩)
 subst hg
 dsimp only at h
 refine⟨_,_,_,_,_,hst,q,(by intro h;cases h),?_⟩
 refine Rxx 2 q ?_
 obtain rfl:=Oi h
 exact au (rs1 q (ia q q a4 q)) Zl
 subst hh
 dsimp only at h
 refine⟨_,_,_,_,_,hst,q,(by intro h;cases h),?_⟩
 refine Rxx 2 q ?_
 obtain rfl:=Oi h
 exact au (rs1 q (ia q q a4 q)) Zl
 subst hi
 dsimp only at h
 refine⟨_,_,_,_,_,hst,q,(by intro h;cases h),?_⟩
 refine Rxx 2 q ?_
 obtain rfl:=Oi h
 exact au (rs1 q (ia q q a4 q)) Zl
 subst hj
 dsimp only at h
 refine⟨_,_,_,_,_,hst,q,(by intro h;cases h),?_⟩
 refine Rxx 2 q ?_
 obtain rfl:=Oi h
 exact au (rs1 q (ia q q a4 q)) Zl
 subst hk
 dsimp only at h
 refine⟨_,_,_,_,_,hst,q,(by intro h;cases h),?_⟩
 refine Rxx 2 q ?_
 obtain rfl:=Oi h
 exact au (rs1 q (ia q q a4 q)) Zl
 subst hl
 dsimp only at h
 refine⟨_,_,_,_,_,hst,q,(by intro h;cases h),?_⟩
 refine Rxx 2 q ?_
 obtain rfl:=Oi h
 exact au (rs1 q (ia q q a4 q)) Zl
 subst hm
 dsimp only at h
 refine⟨_,_,_,_,_,hst,q,(by intro h;cases h),?_⟩
 exact Rxx 1 q (cD ⟨_,_,_,_,_,_,_,_,h,Sb,Tv⟩)
 refine Rcl 5 q (Zq (aU p45 z45 q q) q (Zq (nC (xs:=[.int .u8 x0.op, .int .i64 J, .int .i64 K, .int .i64 L, .int .i64 M, .int .i64 N, .int .i64 O]) (ys:=[.int .u8 x0.op, .int .i64 0, .int .i64 0, .int .i64 0, .int .i64 0, .int .i64 0, .int .i64 0]) q45 q (ay (Zs _)) q (ay (Zs _)) q q q) q (sS Z6 s4 Z2 (Rlx 3 q ?_))))
 obtain rfl:=Oi h
 exact au (rs1 q (ia q q a4 q)) Zl

theorem f92_c(y0:cQ):Pu prog 92 [.ag (R45 y0)] (.b (f92 y0)):=by
 generalize h:f92 y0=r
 unfold f92 at h
 refine fI func92 λ_ _=>?_
 exact Rcl 2 q (Bd q q (Zs _) q (Rlx 12 q (FB h)))

theorem f93_c{t0:aC}{a:Int}{n2:Int}{r:Int×Bool}(h:f93 t0 a n2=some r):Pu prog 93 [.ag (aF t0), .i .i64 a, .i .i64 n2] (.tu [.i .i64 r.1, .b r.2]):=by
 unfold f93 at h
 refine fI func93 λ_ _=>?_
 refine Rcl 2 q (Bd q q (Zs _) q (Rll 10 q ?_))
 apply WL.or 7 (t:=11) (d:=18)
 exact q
 intro k
 exact Rl 4 q (Zy (aa E57 t0.text.tasks e34 q q Zl) q q q (Rl 2 q (WL.nil ⟨q,[_,_,_,_,_,_,_],q,q,q⟩)))
 exact Rn 7 7
 refine Rl 1 q ?_
 refine OG 3 19 22 3 3 ?_
 refine Rl 1 q ?_
 obtain⟨f,g,h⟩:=ac h
 refine Gg 11 23 34 f g (λh=>?_) (λh=>?_) ?_
 exact On 11 11 h
 refine Rl 5 q ?_
 obtain⟨j,c,h⟩:=ac h
 exact Zy (az e34 q Zl q (aq c) (aV lv c) q) q q q (Rl 2 q (Zy (aa E68 j.entries e55 q q Zl) q q q (On 2 11 h)))
 refine Rlc 2 q (Ci h q (λh=>Rcx 8 q (FA h)) λh=>?_)
 exact Rcl 8 q (Ix h e34 lv q Zl q q λm _ h=>(Rl 3 q (Ix h e55 o7 q Zl q q λe _ h=>(Rl 1 q (Al z68 q (sS Z6 s68 Z2 (Rll 6 q (Zq (aa E3 e.ins e22 q q Zl) q (Rl 2 q (Zq (aa E3 e.outs e22 q q Zl) q (Rlx 7 q (FA h))))))))))))

theorem f94_c{t0:aC}{p1:Int}{n2:Int}{r:Bool}(h:f94 t0 p1 n2=some r):Pu prog 94 [.ag (aF t0), .i .i64 p1, .i .i64 n2] (.b r):=by
 unfold f94 at h
 refine fI func94 λ_ _=>?_
 refine Rcl 2 q (Bd q q (Zs _) q (Rll 8 q ?_))
 apply WL.and 7 (t:=9) (d:=16)
 exact q
 intro g
 exact Rl 4 q (Zy (aa E71 t0.text.prots e35 q q Zl) q q q (Rl 2 q (WL.nil ⟨q,[_,_,_,_,_,_,_],q,q,q⟩)))
 exact Rn 7 7
 refine Rl 1 q ?_
 refine AG 3 17 20 3 3 ?_
 refine Rl 1 q ?_
 obtain⟨c,e,h⟩:=ac h
 refine Gg 11 21 32 c e (λh=>?_) (λh=>?_) ?_
 refine Rl 5 q ?_
 obtain⟨f,a,h⟩:=ac h
 exact Zy (az e35 q Zl q (aq a) (aV o6 a) q) q q q (Rl 2 q (Zy (aa E76 f.barriers e69 q q Zl) q q q (On 2 11 h)))
 exact On 11 11 h
 exact Rlx 4 q (FA h)

theorem f60_c{t0:aC}{x1:cQ}{r:Bool}(h:f60 t0 x1=some r):Pu prog 60 [.ag (aF t0), .ag (R45 x1)] (.b r):=by
 unfold f60 at h
 refine fI func60 λ_ _=>?_
 refine Rcl 2 q (Bd q q (Zs _) q (Bd q q (Zs _) q (Rll 7 q ?_)))
 obtain⟨K,j,h⟩:=ac h
 refine wF Z4 (f91_c j) Lw Z3 (Rlc 3 q (Ci h q (λh=>?_) λh=>?_))
 exact Rcx 7 q (FA h)
 refine Rcc 10 q (Jn1 (λa=> [(2, .d (.pc (aF t0))),(3, .d (.pc (R45 x1))),(14, .d (D.i .u8 x1.op)),(15, .d (D.b a))]) (λ_=> []) h (λ_ h=>?_) λa h=>?_)
 exact Rcc 6 q (Ci h q (λh=>Rcx 1 q (En1 h)) λh=>Rcx 4 q (En1 h))
 refine Ci h q (λh=>?_) (λh=>?_)
 refine Rcl 7 q ?_
 obtain⟨L,k,h⟩:=ac h
 exact wF Z4 (f79_c k) Lw Z3 (Rlx 6 q (FA h))
 refine Jn1 (λc=> [(2, .d (.pc (aF t0))),(3, .d (.pc (R45 x1))),(14, .d (D.i .u8 x1.op)),(24, .d (D.b c))]) (λ_=> []) h (λ_ h=>?_) (λc h=>?_)
 exact Rcc 6 q (Ci h q (λh=>Rcx 1 q (En1 h)) λh=>Rcx 4 q (En1 h))
 refine Ci h q (λh=>?_) (λh=>?_)
 refine Rcl 9 q ?_
 obtain⟨M,o,h⟩:=ac h
 exact wF Z4 (f79_c o) Lw Z3 (Rlx 6 q (FA h))
 refine Jn1 (λe=> [(2, .d (.pc (aF t0))),(3, .d (.pc (R45 x1))),(14, .d (D.i .u8 x1.op)),(35, .d (D.b e))]) (λ_=> []) h (λ_ h=>?_) (λe h=>?_)
 refine Rcc 6 q (Ci h q (λh=>Rcx 1 q (En1 h)) λh=>?_)
 exact Rcc 6 q (Ci h q (λh=>Rcx 1 q (En1 h)) λh=>Rcx 4 q (En1 h))
 refine Ci h q (λh=>?_) (λh=>?_)
 exact Rcl 5 q (wF Z4 (f75_c) Lw Z3 (Rlx 6 q (FA h)))
 refine Rcc 6 q (Ci h q (λh=>?_) λh=>?_)
 refine Rcl 16 q (Zq (aa E45 t0.text.insns e27 q q Zl) q (Rl 2 q ?_))
 obtain⟨p,w,h⟩:=ac h
 refine Gg 10 56 66 p w (λh=>?_) (λh=>?_) ?_
 refine Rl 6 q ?_
 replace h:=gt h
 obtain⟨x,h⟩:=h
 refine Zy (jF E45 t0.text.insns (l:=x1.to) (h:=(IntKind.i64.wrap (x1.to+x1.m))) e27 q Zl ⟨_,q⟩ ⟨_,q⟩ x λ_=>q) q q q ?_
 obtain⟨N,y,h⟩:=ac h
 exact WL.fn q q q q (f58_c _ _ 92 [] [] (λz0 _ h=>by obtain rfl:=inS h;exact f92_c z0) y) ⟨Zl,(Le.fnc Zt Zt),Zt⟩ (aP q q q) q q (On 2 10 h)
 exact On 10 10 h
 exact Rlx 6 q (FA h)
 refine Rcc 6 q (Ci h q (λh=>Rcx 14 q (FA h)) λh=>?_)
 refine Jn1 (λf=> [(2, .d (.pc (aF t0))),(3, .d (.pc (R45 x1))),(14, .d (D.i .u8 x1.op)),(75, .d (D.b f))]) (λ_=> []) h (λ_ h=>?_) (λf h=>?_)
 refine Rcc 6 q (Ci h q (λh=>Rcx 1 q (En1 h)) λh=>?_)
 refine Rcc 6 q (Ci h q (λh=>Rcx 1 q (En1 h)) λh=>?_)
 exact Rcc 6 q (Ci h q (λh=>Rcx 1 q (En1 h)) λh=>Rcx 4 q (En1 h))
 refine Ci h q (λh=>?_) (λh=>?_)
 exact Rcl 7 q (Zq (aa E22 t0.text.lists e31 q q Zl) q (Rlx 7 q (FA h)))
 refine Rcc 6 q (Ci h q (λh=>Rcl 7 q (Zq (aa E82 t0.text.selects e30 q q Zl) q (Rlx 7 q (FA h)))) λh=>?_)
 refine Rcc 6 q (Ci h q (λh=>?_) λh=>?_)
 refine Rcl 7 q ?_
 obtain⟨O,A,h⟩:=ac h
 refine wF Z4 (f93_c A) Lw Z3 (Rll 11 q ?_)
 obtain⟨B,C,h⟩:=ac h
 refine Gg 6 108 114 B C (λh=>?_) (λh=>?_) ?_
 refine Rl 4 q ?_
 obtain⟨P,E,h⟩:=ac h
 exact WL.fn q q q q (f79_c E) Lw (aP q q q) q q (On 1 6 h)
 exact On 6 6 h
 exact Rlx 6 q (FA h)
 refine Rcc 6 q (Ci h q (λh=>?_) λh=>?_)
 refine Rcl 7 q ?_
 obtain⟨Q,F,h⟩:=ac h
 refine wF Z4 (f93_c F) Lw Z3 (Rll 11 q ?_)
 apply WL.and 8 (t:=127) (d:=135)
 exact q
 intro R
 exact Rl 5 q (Zy (aa E45 t0.text.insns e27 q q Zl) q q q (Rl 2 q (WL.nil ⟨q,[_,_,_,_,_,_,_,_],q,q,q⟩)))
 exact Rn 8 8
 exact Rlx 6 q (FA h)
 refine Jn1 (λg=> [(2, .d (.pc (aF t0))),(3, .d (.pc (R45 x1))),(14, .d (D.i .u8 x1.op)),(136, .d (D.b g))]) (λ_=> []) h (λ_ h=>?_) (λg h=>?_)
 exact Rcc 6 q (Ci h q (λh=>Rcx 1 q (En1 h)) λh=>Rcx 4 q (En1 h))
 refine Ci h q (λh=>?_) (λh=>?_)
 exact Rcl 7 q (Zq (aa E71 t0.text.prots e35 q q Zl) q (Rlx 7 q (FA h)))
 refine Rcc 6 q (Ci h q (λh=>?_) λh=>?_)
 refine Rcl 7 q ?_
 obtain⟨S,G,h⟩:=ac h
 exact wF Z4 (f94_c G) Lw Z3 (Rlx 6 q (FA h))
 refine Rcc 6 q (Ci h q (λh=>?_) λh=>?_)
 refine Rcl 6 q ?_
 obtain⟨H,I,h⟩:=ac h
 refine Gg 7 159 166 H I (λh=>?_) (λh=>?_) ?_
 exact On 7 7 h
 refine Rl 5 q ?_
 obtain⟨T,J,h⟩:=ac h
 exact WL.fn q q q q (f94_c J) Lw (aP q q q) q q (On 1 7 h)
 exact Rlx 6 q (FA h)
 exact Rcx 9 q (FA h)

theorem f23_c(t0:gp){r:Bool}(h:f23 t0=some r):Pu prog 23 [.ag (R38 t0)] (.b r):=by
 unfold f23 at h
 refine fI func23 λ_ _=>?_
 refine Rcl 2 q (Bd q q (Zs _) q (Rll 6 q (Zq (aU p113 z113 q q) q (Al z113 q (sS Z6 s113 Z2 (St q (Rll 7 q (Zq (aa E45 t0.insns e27 q q Zl) q (Rl 2 q ?_)))))))))
 apply WL.or 5 (t:=12) (d:=17)
 exact q
 intro M
 exact Rl 2 q (Zy (aa E45 t0.insns e27 q q Zl) q q q (Rl 2 q (WL.nil ⟨q,[_,_,_,_,_],q,q,q⟩)))
 exact Rn 5 5
 refine Rlc 2 q (Ci h q (λh=>Rcx 7 q (FA h)) λh=>?_)
 refine Rcl 9 q (Zq (aa E45 t0.insns e27 q q Zl) q (Rl 1 q (Ix h e27 fS q Zl q q λN _ h=>(Rlc 5 q (Jn1 (λj=> [(1, .d (.pc (R38 t0))),(3, .pt 0 0),(27, .d (D.b j))]) (λ_=> [.row 113 (txA t0)]) h (λ_ h=>?_) λj h=>?_)))))
 refine Rcc 6 q (Ci h q (λh=>Rcx 1 q (En1 h)) λh=>?_)
 refine Rcc 6 q (Ci h q (λh=>Rcx 1 q (En1 h)) λh=>?_)
 exact Rcc 6 q (Ci h q (λh=>Rcx 1 q (En1 h)) λh=>Rcx 4 q (En1 h))
 refine Ci h q (λh=>?_) (λh=>?_)
 refine Rcc 3 q ?_
 refine Jn0 [(1, .d (.pc (R38 t0))),(3, .pt 0 0)] [.row 113 (txA t0), .os 23 1 0 [[.fn (.func 50) [.ag (txA t0)] []],[.fn (.func 51) [.ag (txA t0)] []],[.fn (.func 52) [.ag (txA t0)] []],[.fn (.func 53) [.ag (txA t0)] []],[.fn (.func 54) [.ag (txA t0)] []],[.fn (.func 55) [.ag (txA t0)] []],[.fn (.func 56) [.ag (txA t0)] []],[.fn (.func 57) [.ag (txA t0)] []]]] h (λ_ h=>?_) (λh=>?_)
 refine Rcl 18 q (WL.s ((NewOs.b (eZ l122 z23 q dC dC q q q dC)).does) (Zw q) q q (Zq (jN ju q q q) q (Rlc 4 q (fm 9 (Rcc 6 q (bo q (Rcl 6 q (Zq (aD ju q q q dC (by show(0:Int)<((8:Nat):Int);decide)) q (Zq (bw q q a23 q) q (Rll 6 q ?_))))))))))
 obtain⟨O,m,h⟩:=ac h
 refine wF Z4 (f50_c m) ⟨(ay (Zs _)),Zt⟩ Z3 (Rlc 3 q (Ci h q (λh=>?_) λh=>?_))
 exact Rcx 8 q (bm (Rxx 2 q (FA h)))
 refine Rcl 4 q (Zq (eN (c:=1) q q dC) q (Rlx 2 q (d4 (WC.sub (env':=[(1, .d (.pc (R38 t0))),(3, .pt 0 0),(48, .os 1 0),(49, .n 8),(50, .n 1)]) Sb (Rcc 6 q (bo q (Rcl 6 q (Zq (aD ju q q q dC (by show(1:Int)<((8:Nat):Int);decide)) q (Zq (bw q q a23 q) q (Rll 6 q ?_))))))))))
 obtain⟨P,o,h⟩:=ac h
 refine wF Z4 (f51_c o) ⟨(ay (Zs _)),Zt⟩ Z3 (Rlc 3 q (Ci h q (λh=>?_) λh=>?_))
 exact Rcx 8 q (bm (Rxx 2 q (FA h)))
 refine Rcl 4 q (Zq (eN (c:=2) q q dC) q (Rlx 2 q (d4 (WC.sub (env':=[(1, .d (.pc (R38 t0))),(3, .pt 0 0),(48, .os 1 0),(49, .n 8),(50, .n 2)]) Sb (Rcc 6 q (bo q (Rcl 6 q (Zq (aD ju q q q dC (by show(2:Int)<((8:Nat):Int);decide)) q (Zq (bw q q a23 q) q (Rll 6 q ?_))))))))))
 obtain⟨Q,p,h⟩:=ac h
 refine wF Z4 (f52_c p) ⟨(ay (Zs _)),Zt⟩ Z3 (Rlc 3 q (Ci h q (λh=>?_) λh=>?_))
 exact Rcx 8 q (bm (Rxx 2 q (FA h)))
 refine Rcl 4 q (Zq (eN (c:=3) q q dC) q (Rlx 2 q (d4 (WC.sub (env':=[(1, .d (.pc (R38 t0))),(3, .pt 0 0),(48, .os 1 0),(49, .n 8),(50, .n 3)]) Sb (Rcc 6 q (bo q (Rcl 6 q (Zq (aD ju q q q dC (by show(3:Int)<((8:Nat):Int);decide)) q (Zq (bw q q a23 q) q (Rll 6 q ?_))))))))))
 obtain⟨R,w,h⟩:=ac h
 refine wF Z4 (f53_c w) ⟨(ay (Zs _)),Zt⟩ Z3 (Rlc 3 q (Ci h q (λh=>?_) λh=>?_))
 exact Rcx 8 q (bm (Rxx 2 q (FA h)))
 refine Rcl 4 q (Zq (eN (c:=4) q q dC) q (Rlx 2 q (d4 (WC.sub (env':=[(1, .d (.pc (R38 t0))),(3, .pt 0 0),(48, .os 1 0),(49, .n 8),(50, .n 4)]) Sb (Rcc 6 q (bo q (Rcl 6 q (Zq (aD ju q q q dC (by show(4:Int)<((8:Nat):Int);decide)) q (Zq (bw q q a23 q) q (Rll 6 q ?_))))))))))
 obtain⟨S,x,h⟩:=ac h
 refine wF Z4 (f54_c x) ⟨(ay (Zs _)),Zt⟩ Z3 (Rlc 3 q (Ci h q (λh=>?_) λh=>?_))
 exact Rcx 8 q (bm (Rxx 2 q (FA h)))
 refine Rcl 4 q (Zq (eN (c:=5) q q dC) q (Rlx 2 q (d4 (WC.sub (env':=[(1, .d (.pc (R38 t0))),(3, .pt 0 0),(48, .os 1 0),(49, .n 8),(50, .n 5)]) Sb (Rcc 6 q (bo q (Rcl 6 q (Zq (aD ju q q q dC (by show(5:Int)<((8:Nat):Int);decide)) q (Zq (bw q q a23 q) q (Rll 6 q ?_))))))))))
 obtain⟨T,y,h⟩:=ac h
 refine wF Z4 (f55_c y) ⟨(ay (Zs _)),Zt⟩ Z3 (Rlc 3 q (Ci h q (λh=>?_) λh=>?_))
 exact Rcx 8 q (bm (Rxx 2 q (FA h)))
 refine Rcl 4 q (Zq (eN (c:=6) q q dC) q (Rlx 2 q (d4 (WC.sub (env':=[(1, .d (.pc (R38 t0))),(3, .pt 0 0),(48, .os 1 0),(49, .n 8),(50, .n 6)]) Sb (Rcc 6 q (bo q (Rcl 6 q (Zq (aD ju q q q dC (by show(6:Int)<((8:Nat):Int);decide)) q (Zq (bw q q a23 q) q (Rll 6 q ?_))))))))))
 obtain⟨U,A,h⟩:=ac h
 refine wF Z4 (f56_c A) ⟨(ay (Zs _)),Zt⟩ Z3 (Rlc 3 q (Ci h q (λh=>?_) λh=>?_))
 exact Rcx 8 q (bm (Rxx 2 q (FA h)))
 refine Rcl 4 q (Zq (eN (c:=7) q q dC) q (Rlx 2 q (d4 (WC.sub (env':=[(1, .d (.pc (R38 t0))),(3, .pt 0 0),(48, .os 1 0),(49, .n 8),(50, .n 7)]) Sb (Rcc 6 q (bo q (Rcl 6 q (Zq (aD ju q q q dC (by show(7:Int)<((8:Nat):Int);decide)) q (Zq (bw q q a23 q) q (Rll 6 q ?_))))))))))
 obtain⟨V,B,h⟩:=ac h
 refine wF Z4 (f57_c B) ⟨(ay (Zs _)),Zt⟩ Z3 (Rlc 3 q (Ci h q (λh=>?_) λh=>?_))
 exact Rcx 8 q (bm (Rxx 2 q (FA h)))
 exact Rcl 4 q (Zq (eN (c:=8) q q dC) q (Rlx 2 q (d4 (WC.sub (env':=[(1, .d (.pc (R38 t0))),(3, .pt 0 0),(48, .os 1 0),(49, .n 8),(50, .n 8)]) Sb (Rcc 6 q (cu q (Rcx 2 q (eu (Rxx 1 q (En0 h))))))))))
 refine Rcl 5 q ?_
 obtain⟨C,E,h⟩:=aA h
 refine WL.inl (us:=[.l E45 t0.insns, .fn (.func 59) [] [.pt 0 0]]) (λrv st'=>(∃(e:Bool),C e=some r∧Le rv (.d (D.b e))∧SLe st' [.row 113 (txA t0), .os 23 1 0 [[.fn (.func 50) [.ag (txA t0)] []],[.fn (.func 51) [.ag (txA t0)] []],[.fn (.func 52) [.ag (txA t0)] []],[.fn (.func 53) [.ag (txA t0)] []],[.fn (.func 54) [.ag (txA t0)] []],[.fn (.func 55) [.ag (txA t0)] []],[.fn (.func 56) [.ag (txA t0)] []],[.fn (.func 57) [.ag (txA t0)] []]]])) q q q q q ?_ (Zw q) q q ?_
 refine cI func58 λ_ _ _ W=>?_
 refine Rcl 9 q ?_
 obtain⟨k,F,h⟩:=aA h
 refine WL.inl (us:=[.l E45 t0.insns, .fn (.func 59) [] [.pt 0 0]]) (λrv st'=>(∃(a:Int),k a=some r∧Le rv (.n a)∧SLe st' [.row 113 (txA t0), .os 23 1 0 [[.fn (.func 50) [.ag (txA t0)] []],[.fn (.func 51) [.ag (txA t0)] []],[.fn (.func 52) [.ag (txA t0)] []],[.fn (.func 53) [.ag (txA t0)] []],[.fn (.func 54) [.ag (txA t0)] []],[.fn (.func 55) [.ag (txA t0)] []],[.fn (.func 56) [.ag (txA t0)] []],[.fn (.func 57) [.ag (txA t0)] []]]])) q q q q q ?_ (Zw q) q q ?_
 refine cI func90 λ_ _ _ X=>?_
 refine Rcc 5 q ?_
 refine Jn0 [] [.row 113 (txA t0), .os 23 1 0 [[.fn (.func 50) [.ag (txA t0)] []],[.fn (.func 51) [.ag (txA t0)] []],[.fn (.func 52) [.ag (txA t0)] []],[.fn (.func 53) [.ag (txA t0)] []],[.fn (.func 54) [.ag (txA t0)] []],[.fn (.func 55) [.ag (txA t0)] []],[.fn (.func 56) [.ag (txA t0)] []],[.fn (.func 57) [.ag (txA t0)] []]]] h (λG h=>?_) (λh=>?_)
 refine Rcl 3 q (Zq (aa E45 t0.insns e27 q q Zl) q (Rlc 4 q ?_))
 refine Ln1 (λf=> [(0, .l E45 t0.insns),(1, .fn (.func 59) [] [.pt 0 0]),(7, .n (List.length t0.insns:Int)),(8, .n f)]) (λ_=> [.row 113 (txA t0), .os 23 1 0 [[.fn (.func 50) [.ag (txA t0)] []],[.fn (.func 51) [.ag (txA t0)] []],[.fn (.func 52) [.ag (txA t0)] []],[.fn (.func 53) [.ag (txA t0)] []],[.fn (.func 54) [.ag (txA t0)] []],[.fn (.func 55) [.ag (txA t0)] []],[.fn (.func 56) [.ag (txA t0)] []],[.fn (.func 57) [.ag (txA t0)] []]]]) (f23_l1 t0 k G) h (λ_ h=>by rw[f23_l1] at h;cases h) (λn f h=>?_)
 rw[f23_l1] at h
 refine Rcc 6 q (Ci h q (λh=>?_) λh=>?_)
 refine Rcl 15 q (Ix h e27 fS q Zl q q λH _ h=>(Rl 1 q ?_))
 obtain⟨I,J,h⟩:=aA h
 refine WL.inl (us:=[.d (.ag (R45 H)), .pt 0 0]) (λrv st'=>(∃(g:Bool),I g=some r∧Le rv (.d (D.b g))∧SLe st' [.row 113 (txA t0), .os 23 1 0 [[.fn (.func 50) [.ag (txA t0)] []],[.fn (.func 51) [.ag (txA t0)] []],[.fn (.func 52) [.ag (txA t0)] []],[.fn (.func 53) [.ag (txA t0)] []],[.fn (.func 54) [.ag (txA t0)] []],[.fn (.func 55) [.ag (txA t0)] []],[.fn (.func 56) [.ag (txA t0)] []],[.fn (.func 57) [.ag (txA t0)] []]]])) q q q q q ?_ (Zw q) q q ?_
 refine cI func59 λ_ _ _ _=>?_
 refine Rcl 2 q (Bd q q (Zs _) q (Rll 7 q ?_))
 obtain⟨K,L,h⟩:=ac h
 exact wF Z4 (f60_c L) ⟨(ay (Zs _)),Zl,Zt⟩ Z3 (Rlx 5 q (ao (rs1 q (bj q)) ⟨(!K),h,Zl,⟨Zp,Zf,Zt⟩⟩))
 rintro rv st1 ⟨g,h,hr,hst⟩
 subst J
 dsimp only at h
 refine WL.cast 16 q hr (WL.weak hst (Zn (Ci h q (λh=>?_) λh=>?_)))
 exact Rcx 12 q (ao (rs1 q (bj q)) ⟨f,h,Zl,⟨Zp,Zf,Zt⟩⟩)
 exact Rcx 7 q (Fn1 h)
 exact Rcx 4 q (En0 h)
 exact Rcx 6 q (ao (rs1 q (bj q)) ⟨(-1),h,Zl,⟨Zp,Zf,Zt⟩⟩)
 rintro rv st1 ⟨a,h,hr,hst⟩
 subst F
 dsimp only at h
 exact WL.cast 7 q hr (WL.weak hst (Rl 2 q (Zn (Rcx 1 q (ao (rs1 q (bj q)) ⟨(decide (a≥0)),h,Zl,⟨Zp,Zf,Zt⟩⟩)))))
 rintro rv st1 ⟨e,h,hr,hst⟩
 subst E
 dsimp only at h
 exact WL.cast 61 q hr (WL.weak hst (Rl 2 q (Zn (Rcx 1 q (FA h)))))
 exact Rcx 8 q (FA h)

theorem f71_c(a0:aS):Pu prog 71 [.ag (cC a0)] (.b (f71 a0)):=by
 generalize h:f71 a0=r
 unfold f71 at h
 refine fI func71 λ_ _=>?_
 exact Rcl 2 q (Bd q q (Zs _) q (Rlx 14 q (FB h)))

theorem f39_c(a:Int)(c:Int):Pu prog 39 [.i .i64 a, .i .i64 c] (.ag (cC (f39 a c))):=by
 generalize h:f39 a c=r
 unfold f39 at h
 refine fI func39 λ_ _=>?_
 refine Rcl 2 q (Al eL q (Rll 6 q (Zq (aU nT eL q q) q (sS Z6 cf Z2 (Rlx 3 q ?_)))))
 subst h
 exact au (rs1 q (bp q q hG cf q)) (ay (Zs _))

theorem f68_c(v0:Int):Pu prog 68 [.i .i64 v0] (.ag (cC (f68 v0))):=by
 generalize h:f68 v0=r
 unfold f68 at h
 refine fI func68 λ_ _=>?_
 refine Rcl 2 q (Al eL q (Rll 6 q (Zq (aU nT eL q q) q (sS Z6 cf Z2 (Rlx 3 q ?_)))))
 subst h
 exact au (rs1 q (bp q q hG cf q)) (ay (Zs _))

theorem f38_c(a0:aS)(b1:aS):Pu prog 38 [.ag (cC a0), .ag (cC b1)] (.b (f38 a0 b1)):=by
 generalize h:f38 a0 b1=r
 unfold f38 at h
 refine fI func38 λ_ _=>?_
 refine Rcl 2 q (Bd q q (Zs _) q (Bd q q (Zs _) q (Rll 6 q (wF Z4 (f71_c _) Lw Z3 (Rl 1 q ?_)))))
 apply WL.or 13 (t:=7) (d:=20)
 exact q
 intro a
 refine Rl 6 q ?_
 refine AG 6 13 19 6 6 ?_
 exact Rn 1 8
 exact Rn 13 13
 exact Rlx 4 q (FB h)

theorem f151_c:Pu prog 151 [] (.ag (cC (f151 ))):=by
 generalize h:f151=r
 unfold f151 at h
 refine fI func151 λ_ _=>?_
 refine Rcl 2 q (Al eL q (Rll 4 q (Zq (aU nT eL q q) q (sS Z6 cf Z2 (Rlx 3 q ?_)))))
 subst h
 exact au (rs1 q (bp q q hG cf q)) (ay (Zs _))

theorem f154_c(a0:aS)(b1:aS):Pu prog 154 [.ag (cC a0), .ag (cC b1)] (.ag (cC (f154 a0 b1))):=by
 generalize h:f154 a0 b1=r
 unfold f154 at h
 refine fI func154 λ_ _=>?_
 refine Rcl 2 q (Bd q q (Zs _) q (Bd q q (Zs _) q (Al eL q (Rll 9 q (Zq (jL q q q) q (Rl 4 q (Zq (jK q q q) q (Zq (aU nT eL q q) q (Al eL q (sS Z6 cf Z2 (Rll 5 q (wF Z4 (f71_c (aS.mk (if b1.lo>a0.lo then b1.lo else a0.lo) (if b1.hi<a0.hi then b1.hi else a0.hi))) ⟨(ay (Zs _)),Zt⟩ Z3 (Rlc 3 q (Ci h q (λh=>?_) λh=>?_))))))))))))))
 refine Rcl 3 q (sS Z6 cf Z2 (Rlx 4 q ?_))
 subst h
 exact au (rs1 q (bp q q hG cf q)) (ay (Zs _))
 refine Rcl 4 q (WL.fn q q q q (f151_c) Zt (Zw q) q q (sS Z6 cf Z2 (Rlx 3 q ?_)))
 subst h
 exact au (rs1 q (bp q q hG cf q)) (ay (Zs _))

theorem f40_c(a0:aS)(v1:Int):Pu prog 40 [.ag (cC a0), .i .i64 v1] (.b (f40 a0 v1)):=by
 generalize h:f40 a0 v1=r
 unfold f40 at h
 refine fI func40 λ_ _=>?_
 refine Rcl 2 q (Bd q q (Zs _) q (Rll 10 q ?_))
 refine AG 5 9 14 5 5 ?_
 exact Rlx 4 q (FB h)

theorem f158_c(v0:aS):Pu prog 158 [.ag (cC v0)] (.ag (cC (f158 v0))):=by
 generalize h:f158 v0=r
 unfold f158 at h
 refine fI func158 λ_ _=>?_
 refine Rcl 2 q (Bx q q q (Al eL q (Rlc 2 q (Jn1 (λ_=> [(1, .pt 0 0),(2, .pt 1 0)]) (λa=> [.row 101 [.n a, .n v0.hi], .row 101 [.n 0, .n 0]]) h (λ_ h=>?_) λa h=>?_))))
 exact Rcc 7 q (Ci h q (λh=>Rcl 5 q (sS Z6 s2 Z2 (Rlx 1 q (En1 h)))) λh=>Rcx 1 q (En1 h))
 refine Jn1 (λ_=> [(1, .pt 0 0),(2, .pt 1 0)]) (λc=> [.row 101 [.n a, .n c], .row 101 [.n 0, .n 0]]) h (λ_ h=>?_) (λc h=>?_)
 exact Rcc 7 q (Ci h q (λh=>Rcl 5 q (sS Z6 s2 Z2 (Rlx 1 q (En1 h)))) λh=>Rcx 1 q (En1 h))
 refine Rcl 3 q (sS Z6 cf Z2 (Rlx 3 q ?_))
 subst h
 exact au (rs1 q (bp q q hG cf q)) (ay (Zs _))

theorem f155_c(v0:aS):Pu prog 155 [.ag (cC v0)] (.b (f155 v0)):=by
 generalize h:f155 v0=r
 unfold f155 at h
 refine fI func155 λ_ _=>?_
 exact Rcl 2 q (Bd q q (Zs _) q (Rlx 14 q (FB h)))

theorem f152_c{c:Int}{a:lI}{r:aS}(h:f152 c a=some r):Pu prog 152 [.i .i64 c, .sl (List.map E2 a)] (.ag (cC r)):=by
 unfold f152 at h
 refine fI func152 λ_ _=>?_
 refine Rcl 2 q (Al eL q (Rll 6 q (Zq (aU nT eL q q) q (Al eL q (sS Z6 cf Z2 (Rlc 2 q (Jn2 (λ_ _=> [(4, .pt 0 0),(5, .pt 1 0)]) (λd e=> [.row 101 [.n 0, .n 0], .row 101 [.n d, .n e]]) h (λk h=>?_) λd e h=>?_)))))))
 refine Rcl 3 q (Zq (aa E2 a e146 q q Zl) q (Rlc 4 q (Ln3 (λf _ _=> [(4, .pt 0 0),(5, .pt 1 0),(11, .l E2 a),(12, .n (List.length a:Int)),(13, .n f)]) (λ_ g j=> [.row 101 [.n 0, .n 0], .row 101 [.n g, .n j]]) (f152_l1 a k) h (λ_ _ _ h=>by rw[f152_l1] at h;cases h) λn f g j h=>?_)))
 rw[f152_l1] at h
 refine Rcc 6 q (Ci h q (λh=>?_) λh=>?_)
 exact Rcl 6 q (Ix h e146 qS q Zl q q λm _ h=>(Rll 8 q (Zq (jK q q q) q (Rl 3 q (Zq (jL q q q) q (Rl 1 q (sS Z6 s2 Z2 (Rl 1 q (sS Z6 s2 Z2 (Rlx 7 q (Fn3 h)))))))))))
 exact Rcx 4 q (En2 h)
 refine Rcl 3 q (sS Z6 cf Z2 (Rlx 3 q ?_))
 obtain rfl:=Oi h
 exact au (rs1 q (bp q q hG cf q)) (ay (Zs _))

theorem f120_c(a0:aS)(b1:aS){r:aS}(h:f120 a0 b1=some r):Pu prog 120 [.ag (cC a0), .ag (cC b1)] (.ag (cC r)):=by
 unfold f120 at h
 refine fI func120 λ_ _=>?_
 refine Rcl 2 q (Bd q q (Zs _) q (Bd q q (Zs _) q (Al eL q (Rll 7 q (wF Z4 (f71_c _) Lw Z3 (Rl 1 q ?_))))))
 apply WL.and 3 (t:=8) (d:=11)
 exact q
 intro c
 exact Rl 1 q (WL.fn q q q q (f71_c _) Lw (aP q q q) q q (Rl 1 q (WL.nil ⟨q,[_,_,_],q,q,q⟩)))
 exact Rn 3 3
 refine Rlc 3 q (Ci h q (λh=>?_) λh=>?_)
 refine Rcl 2 q (WL.fn q q q q (f151_c) Zt (Zw q) q q (sS Z6 cf Z2 (Rlx 5 q ?_)))
 obtain rfl:=Oi h
 exact au (rs1 q (bp q q hG cf q)) (ay (Zs _))
 refine Rcl 3 q (wF Z4 (f71_c _) Lw Z3 (Rlc 3 q (Ci h q (λh=>?_) λh=>?_)))
 refine Rcl 3 q (sS Z6 cf Z2 (Rlx 5 q ?_))
 obtain rfl:=Oi h
 exact au (rs1 q (bp q q hG cf q)) (ay (Zs _))
 refine Rcl 3 q (wF Z4 (f71_c _) Lw Z3 (Rlc 3 q (Ci h q (λh=>?_) λh=>?_)))
 refine Rcl 3 q (sS Z6 cf Z2 (Rlx 5 q ?_))
 obtain rfl:=Oi h
 exact au (rs1 q (bp q q hG cf q)) (ay (Zs _))
 refine Rcl 13 q (WL.s ((NewOs.b (eZ l146 z2 q dC dC q q q dC)).does) (Zw q) q q ?_)
 refine WL.freezeX [29] [] 1 _ q (dF qS [a0.hi,b1.lo,b1.hi]) ⟨q,Zt⟩ Zt ?_
 obtain⟨e,a,h⟩:=ac h
 refine wF Z4 (f152_c a) Lw Z3 (sS Z6 cf Z2 (Rlx 3 q ?_))
 obtain rfl:=Oi h
 exact au (rs1 q (bp q q hG cf q)) (ay (Zs _))

end Go.Proofs.YtlkhnkpflmpjhaaGreatDoor
