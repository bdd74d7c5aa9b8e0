/- The walks of functions. -/
import Derived.Test.YtlkhnkpflmpjhaaGreatDoorX
set_option linter.unusedVariables false
set_option linter.unusedSimpArgs false
set_option linter.unusedSectionVars false
set_option linter.unnecessarySimpa false
set_option maxHeartbeats 4000000
set_option maxRecDepth 100000
namespace Go.Proofs.YtlkhnkpflmpjhaaGreatDoor
open Tryz
open Go Go.Sk

theorem f78_c{t0:aC}{o1:Obj}{r:Bool}(h:f78 t0 o1=some r):Pu prog 78 [.ag (aF t0), .ag (R50 o1)] (.b r):=by
 unfold f78 at h
 refine fI func78 λ_ _=>?_
 refine Rcl 2 q (Bd q q (Zs _) q (Bd q q (Zs _) q (Rll 10 q ?_)))
 refine OG 4 11 15 4 4 ?_
 refine Rl 1 q ?_
 refine OG 6 16 22 6 6 ?_
 refine Rlc 2 q (Ci h q (λh=>Rcx 7 q (FA h)) λh=>?_)
 refine Rcc 10 q (Ci h q (λh=>Rcl 4 q (Zq (aa E3 o1.set_ e22 q q Zl) q (Rlx 6 q (FA h)))) λh=>?_)
 refine Rcc 7 q (Jn0 [(3, .d (.pc (R50 o1)))] [] h (λg h=>?_) λh=>?_)
 refine Rcl 4 q (Zq (aa E3 o1.set_ e22 q q Zl) q (Rlc 4 q (Ln2 (λa c=> [(2, .d (.pc (aF t0))),(3, .d (.pc (R50 o1))),(5, .n a),(31, .l E3 o1.set_),(32, .n (List.length o1.set_:Int)),(33, .n c)]) (λ_ _=> []) (f78_l1 t0 o1 g) h (λ_ _ h=>by rw[f78_l1] at h;cases h) λn a c h=>?_)))
 rw[f78_l1] at h
 refine Rcc 6 q (Ci h q (λh=>?_) λh=>?_)
 refine Rcl 6 q (Ix h e22 dN q Zl q q λp _ h=>(Rll 11 q ?_))
 apply WL.or 7 (t:=40) (d:=47)
 exact q
 intro w
 exact Rl 4 q (Zy (aa E50 t0.text.objs e32 q q Zl) q q q (Rl 2 q (WL.nil ⟨q,[_,_,_,_,_,_,_],q,q,q⟩)))
 exact Rn 7 7
 refine Rl 1 q ?_
 obtain⟨j,k,h⟩:=ac h
 refine Gg 9 48 57 j k (λh=>?_) (λh=>?_) ?_
 exact On 9 9 h
 refine Rl 4 q ?_
 obtain⟨x,e,h⟩:=ac h
 exact Zy (az e32 q Zl q (aq e) (aV eK e) q) q q q (On 4 9 h)
 refine Rl 1 q ?_
 obtain⟨m,o,h⟩:=ac h
 refine Gg 8 58 66 m o (λh=>?_) (λh=>?_) ?_
 exact On 8 8 h
 refine Rl 4 q ?_
 obtain⟨y,f,h⟩:=ac h
 exact Zy (az e32 q Zl q (aq f) (aV eK f) q) q q q (On 3 8 h)
 exact Rlc 2 q (Ci h q (λh=>Rcx 12 q (FA h)) λh=>Rcx 12 q (Fn2 h))
 exact Rcx 4 q (En0 h)
 refine Rcl 6 q ?_
 refine AG 4 72 76 4 4 ?_
 exact Rlx 4 q (FA h)

theorem f79_c{t0:aC}{o1:Int}{a:Int}{c:Int}{r:Bool}(h:f79 t0 o1 a c=some r):Pu prog 79 [.ag (aF t0), .i .i64 o1, .i .i64 a, .i .i64 c] (.b r):=by
 unfold f79 at h
 refine fI func79 λ_ _=>?_
 refine Rcl 2 q (Bd q q (Zs _) q (Rll 8 q ?_))
 apply WL.and 7 (t:=11) (d:=18)
 exact q
 intro j
 exact Rl 4 q (Zy (aa E50 t0.text.objs e32 q q Zl) q q q (Rl 2 q (WL.nil ⟨q,[_,_,_,_,_,_,_],q,q,q⟩)))
 exact Rn 7 7
 refine Rl 1 q ?_
 refine AG 3 19 22 3 3 ?_
 refine Rl 1 q ?_
 obtain⟨f,g,h⟩:=ac h
 refine Gg 12 23 35 f g (λh=>?_) (λh=>?_) ?_
 refine Rl 5 q ?_
 obtain⟨k,e,h⟩:=ac h
 exact Zy (az e32 q Zl q (aq e) (aV eK e) q) q q q (On 6 12 h)
 exact On 12 12 h
 exact Rlx 4 q (FA h)

theorem f144_c(s0:lI)(a:Int→oB)(g1:FuncId)(c e:lD)(g:∀(y0:Int)(r:Bool),a y0=some r→Pu prog g1 (c++ [.i .i64 y0]++e) (.b r)){r:Int}(h:f144 s0 a=some r):Pu prog 144 [.sl (List.map E3 s0), .fnc (.func g1) c e] (.i .i64 r):=by
 unfold f144 at h
 refine fI func144 λ_ _=>?_
 refine WC.cast 1 q (d2 _ _ _) (Rcc 5 q (Jn0 [] [] h (λj h=>?_) λh=>?_))
 refine Rcl 3 q (Zq (aa E3 s0 e22 q q Zl) q (Rlc 4 q (Ln1 (λf=> [(0, .l E3 s0),(1, .fn (.func g1) (List.map AV.d c) (List.map AV.d e)),(7, .n (List.length s0:Int)),(8, .n f)]) (λ_=> []) (f144_l1 s0 a j) h (λ_ h=>by rw[f144_l1] at h;cases h) λn f h=>?_)))
 rw[f144_l1] at h
 refine Rcc 6 q (Ci h q (λh=>?_) λh=>?_)
 refine Rcl 15 q (Ix h e22 dN q Zl q q λm _ h=>(Rl 1 q ?_))
 obtain⟨o,k,h⟩:=ac h
 refine WL.fn q q q q (g _ _ k) (jC Lw) (Zw q) q q (Rlc 2 q (Ci h q (λh=>?_) λh=>?_))
 exact Rcx 12 q (FA h)
 exact Rcx 7 q (Fn1 h)
 exact Rcx 4 q (En0 h)
 exact Rcx 6 q (FA h)

theorem f109_c(s0:lI)(d:Int→oB)(g1:FuncId)(a c:lD)(e:∀(y0:Int)(r:Bool),d y0=some r→Pu prog g1 (a++ [.i .i64 y0]++c) (.b r)){r:Bool}(h:f109 s0 d=some r):Pu prog 109 [.sl (List.map E3 s0), .fnc (.func g1) a c] (.b r):=by
 unfold f109 at h
 refine fI func109 λ_ _=>?_
 refine WC.cast 1 q (d2 _ _ _) (Rcl 9 q ?_)
 obtain⟨g,f,h⟩:=ac h
 exact wF Z4 (f144_c _ _ g1 a c e f) ⟨Zl,(Le.fnc (Zs _) (Zs _)),Zt⟩ Z3 (Rlx 5 q (FA h))

theorem f110_c(n0:Int)(a:Int):Pu prog 110 [.i .i64 n0, .pc (E2 a)] (.b (f110 n0 a)):=by
 generalize h:f110 n0 a=r
 unfold f110 at h
 refine fI func110 λ_ _=>?_
 exact Rcx 15 q (FB h)

theorem f80_c{o0:Obj}{v1:Int}{r:Bool}(h:f80 o0 v1=some r):Pu prog 80 [.ag (R50 o0), .i .i64 v1] (.b r):=by
 unfold f80 at h
 refine fI func80 λ_ _=>?_
 refine Rcl 2 q (Bd q q (Zs _) q (WL.s ((jx q q (by exact(show Les [.n v1] (List.map AV.d [.i .i64 v1]) from Lw))).does) (Zw q) q q (Rlc 10 q (Ci h q (λh=>?_) λh=>?_))))
 refine Rcl 5 q ?_
 obtain⟨a,c,h⟩:=ac h
 refine Gg 5 9 14 a c (λh=>?_) (λh=>?_) ?_
 exact On 5 5 h
 refine Rl 3 q ?_
 obtain⟨f,e,h⟩:=ac h
 exact WL.fn q q q q (f109_c _ _ 110 [] [(.pc (E2 v1))] (λz0 _ h=>by obtain rfl:=inS h;exact f110_c z0 v1) e) ⟨Zl,(Le.fnc Zt Lw),Zt⟩ (aP q q q) q q (On 1 5 h)
 exact Rlx 5 q (FA h)
 refine Rcl 9 q ?_
 refine AG 5 19 24 5 5 ?_
 exact Rlx 4 q (FA h)

theorem f50_c{t0:aC}{r:Bool}(h:f50 t0=some r):Pu prog 50 [.ag (aF t0)] (.b r):=by
 unfold f50 at h
 refine fI func50 λ_ _=>?_
 refine Rcl 2 q (Bd q q (Zs _) q (Rll 9 q (Zq (aa E50 t0.text.objs e32 q q Zl) q (Rl 2 q ?_))))
 refine OG 5 15 20 5 5 ?_
 refine Rl 1 q ?_
 refine OG 5 21 26 5 5 ?_
 refine Rlc 2 q (Ci h q (λh=>Rcx 7 q (FA h)) λh=>?_)
 refine Rcc 7 q (Jn1 (λc=> [(1, .d (.pc (aF t0))),(3, .n c)]) (λ_=> []) h (λC h=>?_) λc h=>?_)
 refine Rcl 5 q (Zq (aa E50 t0.text.objs e32 q q Zl) q (Rlc 4 q (Ln2 (λf g=> [(1, .d (.pc (aF t0))),(3, .n f),(29, .l E50 t0.text.objs),(30, .n (List.length t0.text.objs:Int)),(31, .n g)]) (λ_ _=> []) (f50_l1 t0 C) h (λ_ _ h=>by rw[f50_l1] at h;cases h) λn f g h=>?_)))
 rw[f50_l1] at h
 refine Rcc 6 q (Ci h q (λh=>?_) λh=>?_)
 refine Rcl 6 q (Ix h e32 eK q Zl q q λE _ h=>(Rl 1 q (Al z50 q (sS Z6 s50 Z2 (Rll 7 q ?_)))))
 obtain⟨L,F,h⟩:=ac h
 refine wF Z4 (f78_c F) ⟨Zl,(ay (Zs _)),Zt⟩ Z3 (Rlc 3 q (Ci h q (λh=>?_) λh=>?_))
 exact Rcx 12 q (FA h)
 exact Rcx 15 q (WE.drop 0 (env':=[(1, .d (.pc (aF t0))),(3, .n (IntKind.i64.wrap (f+E.size))),(29, .l E50 t0.text.objs),(30, .n (List.length t0.text.objs:Int)),(31, .n (IntKind.i64.wrap (g+1)))]) Sb q q (Nat.zero_le _) (Fn2 h))
 exact Rcx 4 q (En1 h)
 refine Rcl 2 q (WL.s ((dY (α:=Bool) (λx:Int×Int=>Value.agg ⟨[Value.int .i64 x.1,Value.int .i64 x.2]⟩) (λx:Bool=>AV.d (.b x))).does) (Zw q) q q (Rlc 3 q (Jn1 (λ_=> [(3, .n c)]) (λw=> [mpO (λx:Int×Int=>Value.agg ⟨[Value.int .i64 x.1,Value.int .i64 x.2]⟩) (λx:Bool=>AV.d (.b x)) w]) h (λG h=>?_) λw h=>?_)))
 refine Rcl 5 q (Zq (aa E62 t0.text.inits e33 q q Zl) q (Rlc 4 q (Ln2 (λj _=> [(1, .d (.pc (aF t0))),(3, .n c),(6, .mp 0),(47, .l E62 t0.text.inits),(48, .n (List.length t0.text.inits:Int)),(49, .n j)]) (λ_ e=> [mpO (λx:Int×Int=>Value.agg ⟨[Value.int .i64 x.1,Value.int .i64 x.2]⟩) (λx:Bool=>AV.d (.b x)) e]) (f50_l2 t0 G) h (λ_ _ h=>by rw[f50_l2] at h;cases h) λn j e h=>?_)))
 rw[f50_l2] at h
 refine Rcc 6 q (Ci h q (λh=>?_) λh=>?_)
 refine Rcl 6 q (Ix h e33 r7 q Zl q q λa _ h=>(Rl 1 q (Al z62 q (sS Z6 s62 Z2 (Rll 8 q (Zq (aU p157 z157 q q) q (Al z157 q (sS Z6 s157 Z2 (Rlc 4 q (br kR kR (Rq 2 q (WQ.qn (kT (λx:Int×Int=>Value.agg ⟨[Value.int .i64 x.1,Value.int .i64 x.2]⟩) (λx:Bool=>AV.d (.b x)) e (k:=(a.o,a.slot)) (z:=false) (vs:=[.int .i64 a.o, .int .i64 a.slot]) underlying155 (fR underlying157 underlying3 underlying3 q q kR) q q q (ay (Zs _)) q kR q) q (Rq 1 q ?_)))))))))))))
 obtain⟨H,y,h⟩:=ac h
 apply WQ.grp 8 (t:=61) (d:=69) (z:=H)
 exact q
 intro m
 have h:=gc y m
 refine Rq 8 q ?_
 obtain rfl:=Oi h
 exact WQ.nil ⟨[_,_,_,_,_,_,_,_],q,q,q⟩
 intro m
 have h:=gd y m
 refine Rq 5 q ?_
 obtain⟨M,I,h⟩:=ac h
 refine WQ.q (YieldsQ.fn q q q q q (f79_c I) Lw) (aP q q q) q q (Rq 2 q ?_)
 obtain rfl:=Oi h
 exact WQ.nil ⟨[_,_,_,_,_,_,_,_],q,q,q⟩
 refine Rq 1 q ?_
 obtain⟨J,A,h⟩:=ac h
 apply WQ.grp 12 (t:=70) (d:=82) (z:=J)
 exact q
 intro p
 have h:=gc A p
 refine Rq 12 q ?_
 obtain rfl:=Oi h
 exact WQ.nil ⟨[_,_,_,_,_,_,_,_,_,_,_,_],q,q,q⟩
 intro p
 have h:=gd A p
 refine Rq 5 q ?_
 obtain⟨N,B,h⟩:=ac h
 refine WQ.qy (az e32 q Zl q (aq B) (aV eK B) q) q q q (Rq 3 q ?_)
 obtain⟨O,K,h⟩:=ac h
 refine WQ.q (YieldsQ.fn q q q q q (f80_c K) Lw) (aP q q q) q q (Rq 2 q ?_)
 obtain rfl:=Oi h
 exact WQ.nil ⟨[_,_,_,_,_,_,_,_,_,_,_,_],q,q,q⟩
 refine WQ.nil (Rxc 1 q (Ci h q (λh=>?_) λh=>?_))
 exact Rcx 12 q (FA h)
 exact Rcl 5 q (WL.s0 (ij (λx:Int×Int=>Value.agg ⟨[Value.int .i64 x.1,Value.int .i64 x.2]⟩) (λx:Bool=>AV.d (.b x)) e (k:=(a.o,a.slot)) (vs:=[.int .i64 a.o, .int .i64 a.slot]) (.inr q) underlying155 (fR underlying157 underlying3 underlying3 q q kR) q q q (ay (Zs _)) q q) (Zw q) q (Rlx 7 q (WE.drop 1 (env':=[(1, .d (.pc (aF t0))),(3, .n c),(6, .mp 0),(47, .l E62 t0.text.inits),(48, .n (List.length t0.text.inits:Int)),(49, .n (IntKind.i64.wrap (j+1)))]) Sb q (iq (n8 _ (λx:Int×Int=>Value.agg ⟨[Value.int .i64 x.1,Value.int .i64 x.2]⟩) (λx:Bool=>(.b x:D)) _) q) (Nat.zero_le _) (Fn2 h))))
 exact Rcx 4 q (En1 h)
 exact Rcx 8 q (FA h)

theorem f75_c{t0:aC}{a1:Int}:Pu prog 75 [.ag (aF t0), .i .i64 a1] (.b (f75 t0 a1)):=by
 generalize h:f75 t0 a1=r
 unfold f75 at h
 refine fI func75 λ_ _=>?_
 refine Rcl 2 q (Bd q q (Zs _) q (Rll 8 q ?_))
 apply WL.and 7 (t:=7) (d:=14)
 exact q
 intro a
 exact Rl 4 q (Zy (aa E45 t0.text.insns e27 q q Zl) q q q (Rl 2 q (WL.nil ⟨q,[_,_,_,_,_,_,_],q,q,q⟩)))
 exact Rn 7 7
 exact Rlx 4 q (FB h)

theorem f111_c(s0:List bS)(a:bS→oB)(g1:FuncId)(c e:lD)(g:∀(y0:bS)(r:Bool),a y0=some r→Pu prog g1 (c++ [.ag (R68 y0)]++e) (.b r)){r:Int}(h:f111 s0 a=some r):Pu prog 111 [.sl (List.map E68 s0), .fnc (.func g1) c e] (.i .i64 r):=by
 unfold f111 at h
 refine fI func111 λ_ _=>?_
 refine WC.cast 1 q (d2 _ _ _) (Rcc 5 q (Jn0 [] [] h (λj h=>?_) λh=>?_))
 refine Rcl 3 q (Zq (aa E68 s0 e55 q q Zl) q (Rlc 4 q (Ln1 (λf=> [(0, .l E68 s0),(1, .fn (.func g1) (List.map AV.d c) (List.map AV.d e)),(7, .n (List.length s0:Int)),(8, .n f)]) (λ_=> []) (f111_l1 s0 a j) h (λ_ h=>by rw[f111_l1] at h;cases h) λn f h=>?_)))
 rw[f111_l1] at h
 refine Rcc 6 q (Ci h q (λh=>?_) λh=>?_)
 refine Rcl 15 q (Ix h e55 o7 q Zl q q λm _ h=>(Rl 1 q ?_))
 obtain⟨o,k,h⟩:=ac h
 refine WL.fn q q q q (g _ _ k) (jC Lw) (Zw q) q q (Rlc 2 q (Ci h q (λh=>?_) λh=>?_))
 exact Rcx 12 q (FA h)
 exact Rcx 7 q (Fn1 h)
 exact Rcx 4 q (En0 h)
 exact Rcx 6 q (FA h)

theorem f81_c(s0:List bS)(d:bS→oB)(g1:FuncId)(a c:lD)(e:∀(y0:bS)(r:Bool),d y0=some r→Pu prog g1 (a++ [.ag (R68 y0)]++c) (.b r)){r:Bool}(h:f81 s0 d=some r):Pu prog 81 [.sl (List.map E68 s0), .fnc (.func g1) a c] (.b r):=by
 unfold f81 at h
 refine fI func81 λ_ _=>?_
 refine WC.cast 1 q (d2 _ _ _) (Rcl 9 q ?_)
 obtain⟨g,f,h⟩:=ac h
 exact wF Z4 (f111_c _ _ g1 a c e f) ⟨Zl,(Le.fnc (Zs _) (Zs _)),Zt⟩ Z3 (Rlx 5 q (FA h))

theorem f112_c(o0:Int)(a:aC){r:Bool}(h:f112 o0 a=some r):Pu prog 112 [.i .i64 o0, .pc (aF a)] (.b r):=by
 unfold f112 at h
 refine fI func112 λ_ _=>?_
 refine Rcl 10 q ?_
 apply WL.or 7 (t:=6) (d:=13)
 exact q
 intro g
 exact Rl 4 q (Zy (aa E50 a.text.objs e32 q q Zl) q q q (Rl 2 q (WL.nil ⟨q,[_,_,_,_,_,_,_],q,q,q⟩)))
 exact Rn 7 7
 refine Rl 1 q ?_
 obtain⟨e,f,h⟩:=ac h
 refine Gg 9 14 23 e f (λh=>?_) (λh=>?_) ?_
 exact On 9 9 h
 refine Rl 4 q ?_
 obtain⟨j,c,h⟩:=ac h
 exact Zy (az e32 q Zl q (aq c) (aV eK c) q) q q q (On 4 9 h)
 exact Rlx 4 q (FA h)

theorem f83_c{t0:aC}{l1:lI}{r:Bool}(h:f83 t0 l1=some r):Pu prog 83 [.ag (aF t0), .sl (List.map E3 l1)] (.b r):=by
 unfold f83 at h
 refine fI func83 λ_ _=>?_
 refine Rcl 2 q (Bd q q (Zs _) q (Rll 6 q (Zq (aa E3 l1 e22 q q Zl) q (Rl 2 q ?_))))
 obtain⟨a,c,h⟩:=ac h
 refine Gg 5 8 13 a c (λh=>?_) (λh=>?_) ?_
 refine Rl 2 q ?_
 obtain⟨e,d,h⟩:=ac h
 exact WL.fn q q q q (f109_c _ _ 112 [] [(.pc (aF t0))] (λz0 _ h=>f112_c z0 t0 h) d) ⟨Zl,(Le.fnc Zt Lw),Zt⟩ (aP q q q) q q (On 2 5 h)
 exact On 5 5 h
 exact Rlx 4 q (FA h)

theorem f82_c(e0:bS)(a:aC){r:Bool}(h:f82 e0 a=some r):Pu prog 82 [.ag (R68 e0), .pc (aF a)] (.b r):=by
 unfold f82 at h
 refine fI func82 λ_ _=>?_
 refine Rcl 2 q (Bd q q (Zs _) q (Rll 8 q ?_))
 obtain⟨g,c,h⟩:=ac h
 refine wF Z4 (f83_c c) Lw Z3 (Rl 2 q ?_)
 obtain⟨d,e,h⟩:=ac h
 refine Gg 6 9 15 d e (λh=>?_) (λh=>?_) ?_
 exact On 6 6 h
 refine Rl 3 q ?_
 obtain⟨j,f,h⟩:=ac h
 exact WL.fn q q q q (f83_c f) Lw (aP q q q) q q (On 2 6 h)
 exact Rlx 4 q (FA h)

theorem f51_c{t0:aC}{r:Bool}(h:f51 t0=some r):Pu prog 51 [.ag (aF t0)] (.b r):=by
 unfold f51 at h
 refine fI func51 λ_ _=>?_
 refine Rcl 2 q (Bd q q (Zs _) q (Rll 9 q (Zq (aa E57 t0.text.tasks e34 q q Zl) q (Rl 2 q ?_))))
 apply WL.or 6 (t:=10) (d:=16)
 exact q
 intro g
 exact Rl 3 q (Zy (aa E57 t0.text.tasks e34 q q Zl) q q q (Rl 2 q (WL.nil ⟨q,[_,_,_,_,_,_],q,q,q⟩)))
 exact Rn 6 6
 refine Rlc 2 q (Ci h q (λh=>Rcx 7 q (FA h)) λh=>?_)
 refine Rcc 2 q (Jn0 [] [] h (λc h=>?_) λh=>?_)
 refine Rcl 5 q (Zq (aa E57 t0.text.tasks e34 q q Zl) q (Rlc 4 q (Ln1 (λa=> [(1, .d (.pc (aF t0))),(19, .l E57 t0.text.tasks),(20, .n (List.length t0.text.tasks:Int)),(21, .n a)]) (λ_=> []) (f51_l1 t0 c) h (λ_ h=>by rw[f51_l1] at h;cases h) λn a h=>?_)))
 rw[f51_l1] at h
 refine Rcc 6 q (Ci h q (λh=>?_) λh=>?_)
 refine Rcl 6 q (Ix h e34 lv q Zl q q λe _ h=>(Rl 1 q (Al z57 q (sS Z6 s57 Z2 (Rll 9 q ?_)))))
 refine OG 4 28 32 4 4 ?_
 refine Rl 1 q ?_
 apply WL.or 6 (t:=33) (d:=39)
 exact q
 intro j
 exact Rl 3 q (WL.fn q q q q (f75_c) Lw (aP q q q) q q (Rl 2 q (WL.nil ⟨q,[_,_,_,_,_,_],q,q,q⟩)))
 exact Rn 6 6
 refine Rl 1 q ?_
 refine OG 4 40 44 4 4 ?_
 refine Rl 1 q ?_
 refine OG 4 45 49 4 4 ?_
 refine Rl 1 q ?_
 apply WL.or 5 (t:=50) (d:=55)
 exact q
 intro k
 exact Rl 2 q (Zy (aa E68 e.entries e55 q q Zl) q q q (Rl 2 q (WL.nil ⟨q,[_,_,_,_,_],q,q,q⟩)))
 exact Rn 5 5
 refine Rlc 2 q (Ci h q (λh=>Rcx 12 q (FA h)) λh=>?_)
 refine Rcl 7 q ?_
 obtain⟨m,f,h⟩:=ac h
 refine wF Z4 (f81_c _ _ 82 [] [(.pc (aF t0))] (λz0 _ h=>f82_c z0 t0 h) f) ⟨Zl,(Le.fnc Zt Lw),Zt⟩ Z3 (Rlc 2 q (Ci h q (λh=>?_) λh=>?_))
 exact Rcx 11 q (FA h)
 exact Rcx 7 q (WE.drop 0 (env':=[(1, .d (.pc (aF t0))),(19, .l E57 t0.text.tasks),(20, .n (List.length t0.text.tasks:Int)),(21, .n (IntKind.i64.wrap (a+1)))]) Sb q q (Nat.zero_le _) (Fn1 h))
 exact Rcx 4 q (En0 h)
 exact Rcx 6 q (FA h)

theorem f52_c{t0:aC}{r:Bool}(h:f52 t0=some r):Pu prog 52 [.ag (aF t0)] (.b r):=by
 unfold f52 at h
 refine fI func52 λ_ _=>?_
 refine Rcl 2 q (Bd q q (Zs _) q (Rll 9 q (Zq (aa E22 t0.text.lists e31 q q Zl) q (Rlc 3 q (Ci h q (λh=>?_) λh=>?_)))))
 exact Rcx 7 q (FA h)
 refine Rcc 2 q (Jn0 [] [] h (λk h=>?_) λh=>?_)
 refine Rcl 5 q (Zq (aa E22 t0.text.lists e31 q q Zl) q (Rlc 4 q (Ln1 (λc=> [(1, .d (.pc (aF t0))),(15, .l E22 t0.text.lists),(16, .n (List.length t0.text.lists:Int)),(17, .n c)]) (λ_=> []) (f52_l1 t0 k) h (λ_ h=>by rw[f52_l1] at h;cases h) λn c h=>?_)))
 rw[f52_l1] at h
 refine Rcc 6 q (Ci h q (λh=>?_) λh=>?_)
 refine Rcc 2 q (Jn1 (λ_=> [(1, .d (.pc (aF t0))),(15, .l E22 t0.text.lists),(16, .n (List.length t0.text.lists:Int)),(17, .n c)]) (λf=> [mpO (λx:Int=>Value.int .i64 x) (λx:Bool=>AV.d (.b x)) f]) h (λ_ h=>?_) λf h=>?_)
 refine Rcl 3 q (Ix h e31 r8 q Zl q q λa _ h=>(Rll 6 q (WL.s ((dY (α:=Bool) (λx:Int=>Value.int .i64 x) (λx:Bool=>AV.d (.b x))).does) (Zw q) q q (Rlc 3 q (Jn1 (λ_=> [(1, .d (.pc (aF t0))),(4, .l E3 a),(15, .l E22 t0.text.lists),(16, .n (List.length t0.text.lists:Int)),(17, .n c)]) (λg=> [mpO (λx:Int=>Value.int .i64 x) (λx:Bool=>AV.d (.b x)) g]) h (λm h=>?_) λg h=>?_)))))
 refine Rcl 3 q (Zq (aa E3 a e22 q q Zl) q (Rlc 4 q (Ln2 (λj _=> [(1, .d (.pc (aF t0))),(4, .l E3 a),(5, .mp 0),(15, .l E22 t0.text.lists),(16, .n (List.length t0.text.lists:Int)),(17, .n c),(22, .l E3 a),(23, .n (List.length a:Int)),(24, .n j)]) (λ_ e=> [mpO (λx:Int=>Value.int .i64 x) (λx:Bool=>AV.d (.b x)) e]) (f52_l2 t0 a m) h (λ_ _ h=>by rw[f52_l2] at h;cases h) λna j e h=>?_)))
 rw[f52_l2] at h
 refine Rcc 6 q (Ci h q (λh=>?_) λh=>?_)
 refine Rcl 6 q (Ix h e22 dN q Zl q q λo _ h=>(Rll 10 q ?_))
 apply WL.or 7 (t:=30) (d:=37)
 exact q
 intro p
 exact Rl 4 q (Zy (aa E57 t0.text.tasks e34 q q Zl) q q q (Rl 2 q (WL.nil ⟨q,[_,_,_,_,_,_,_],q,q,q⟩)))
 exact Rn 7 7
 refine Rl 1 q ?_
 apply WL.or 4 (t:=38) (d:=42)
 exact q
 intro w
 exact Rl 2 q (Zy (jM (λx:Int=>Value.int .i64 x) (λx:Bool=>AV.d (.b x)) e (z:=false) underlying48 underlying3 (KeyF.int .i64) q q q kR q) q q q (Rl 1 q (WL.nil ⟨q,[_,_,_,_],q,q,q⟩)))
 exact Rn 4 4
 refine Rlc 2 q (Ci h q (λh=>Rcx 17 q (FA h)) λh=>?_)
 exact Rcl 5 q (WL.s0 (dH (λx:Int=>Value.int .i64 x) (λx:Bool=>AV.d (.b x)) e (.inr q) underlying48 underlying3 (KeyF.int .i64) q q q q) (Zw q) q (Rlx 7 q (Fn2 h)))
 exact Rcx 4 q (En1 h)
 refine Rcl 3 q (Zq (aa E3 a e22 q q Zl) q (Rlc 3 q (Ci h q (λh=>?_) λh=>?_)))
 exact Rcx 11 q (FA h)
 exact Rcx 2 q (En1 h)
 exact Rcx 4 q (WE.drop 0 (env':=[(1, .d (.pc (aF t0))),(15, .l E22 t0.text.lists),(16, .n (List.length t0.text.lists:Int)),(17, .n (IntKind.i64.wrap (c+1)))]) Sb q q (Nat.zero_le _) (Fn1 h))
 exact Rcx 4 q (En0 h)
 exact Rcx 6 q (FA h)

theorem f84s_c(F:lN→lH→lP→lS→lL→lO→lT→Int→lK→lM→lC→Int→Int→a9→Int→Option (Bool×lN×lH×lP×lS×lL×lO×lT×Int×lK×lM×lC×Int×Int))(e:lN)(f:lH)(g:lP)(j:lS)(k:lL)(m:lO)(p:lT)(w:Int)(x:lK)(y:lM)(A:lC)(jent:Int)(jleft:Int)(e1:a9)(B:Int)(S:∀(e:lN)(f:lH)(g:lP)(j:lS)(k:lL)(m:lO)(p:lT)(w:Int)(x:lK)(y:lM)(A:lC)(jent:Int)(jleft:Int)(x1:a9)(x2:Int)(r:Bool×lN×lH×lP×lS×lL×lO×lT×Int×lK×lM×lC×Int×Int),F e f g j k m p w x y A jent jleft x1 x2=some r→Ctr prog 84 [.pt 0 0, .d (.ag (R76 x1)), .n x2] [.row 164 [.l E45 e, .l E88 f, .l E90 g, .l E82 j, .l E22 k, .l E50 m, .l E62 p, .n w, .l E57 x, .l E71 y, .l E79 A, .n jent, .n jleft]] (nl 1 (.b r.1) (λ_=> [.row 164 [.l E45 r.2.1, .l E88 r.2.2.1, .l E90 r.2.2.2.1, .l E82 r.2.2.2.2.1, .l E22 r.2.2.2.2.2.1, .l E50 r.2.2.2.2.2.2.1, .l E62 r.2.2.2.2.2.2.2.1, .n r.2.2.2.2.2.2.2.2.1, .l E57 r.2.2.2.2.2.2.2.2.2.1, .l E71 r.2.2.2.2.2.2.2.2.2.2.1, .l E79 r.2.2.2.2.2.2.2.2.2.2.2.1, .n r.2.2.2.2.2.2.2.2.2.2.2.2.1, .n r.2.2.2.2.2.2.2.2.2.2.2.2.2]]))){r:Bool×lN×lH×lP×lS×lL×lO×lT×Int×lK×lM×lC×Int×Int}(h:f84s F e f g j k m p w x y A jent jleft e1 B=some r):Ctr prog 84 [.pt 0 0, .d (.ag (R76 e1)), .n B] [.row 164 [.l E45 e, .l E88 f, .l E90 g, .l E82 j, .l E22 k, .l E50 m, .l E62 p, .n w, .l E57 x, .l E71 y, .l E79 A, .n jent, .n jleft]] (nl 1 (.b r.1) (λ_=> [.row 164 [.l E45 r.2.1, .l E88 r.2.2.1, .l E90 r.2.2.2.1, .l E82 r.2.2.2.2.1, .l E22 r.2.2.2.2.2.1, .l E50 r.2.2.2.2.2.2.1, .l E62 r.2.2.2.2.2.2.2.1, .n r.2.2.2.2.2.2.2.2.1, .l E57 r.2.2.2.2.2.2.2.2.2.1, .l E71 r.2.2.2.2.2.2.2.2.2.2.1, .l E79 r.2.2.2.2.2.2.2.2.2.2.2.1, .n r.2.2.2.2.2.2.2.2.2.2.2.2.1, .n r.2.2.2.2.2.2.2.2.2.2.2.2.2]])):=by
 unfold f84s at h
 refine cI func84 λ_ _ _ _=>?_
 refine Rcl 2 q (Bx q q q (Bd q q (Zs _) q (WL.s ((jx q q (by exact(show Les [.n B] (List.map AV.d [.i .i64 B]) from Lw))).does) (Zw q) q q (Rll 12 q (sS Z6 s3 Z2 (St q (Rll 6 q ?_)))))))
 obtain⟨T,U,h⟩:=aA h
 refine WL.inl (us:=[.pt 0 0, .d (.ag (R76 e1))]) (λrv st'=>(∃(G:Bool),∃(H:Int),∃(a:a9),∃(c21v100:Int),∃(c22v101:Int),∃(c23v102:Int),∃(c24v103:Int),T G H a c21v100 c22v101 c23v102 c24v103=some r∧Le rv (.tu [.d (.ag (R76 a)), .n H, .d (D.b G)])∧SLe st' [.row 164 [.l E45 e, .l E88 f, .l E90 g, .l E82 j, .l E22 k, .l E50 m, .l E62 p, .n w, .l E57 x, .l E71 y, .l E79 A, .n jent, .n (IntKind.i64.wrap (jleft - 1))], .row 162 [.pt 0 0], .row 76 [.d (D.i .u8 e1.kind), .d (D.i .u8 c21v100), .n c22v101, .n c23v102, .n c24v103, .n 0, .n 0, .n 0,sN]])) q q q q q ?_ (Zw q) q q ?_
 refine cI func113 λ_ _ _ _=>?_
 refine Rcl 2 q (Bd q q (Zs _) q (Al z76 q (Rll 9 q (sS Z6 s73 Z2 (St q (Rlc 2 q (Jn5 (λI _ _ _ _=> [(4, .pt 2 0),(5, .n I)]) (λ_ c21v106 c22v107 c23v108 c24v109=> [.row 164 [.l E45 e, .l E88 f, .l E90 g, .l E82 j, .l E22 k, .l E50 m, .l E62 p, .n w, .l E57 x, .l E71 y, .l E79 A, .n jent, .n (IntKind.i64.wrap (jleft - 1))], .row 162 [.pt 0 0], .row 76 [.d (D.i .u8 e1.kind), .d (D.i .u8 c21v106), .n c22v107, .n c23v108, .n c24v109, .n 0, .n 0, .n 0,sN]]) h (λ_ h=>?_) λI c21v106 c22v107 c23v108 c24v109 h=>?_)))))))
 refine Rcc 13 q (Ci h q (λh=>Rcl 4 q (sS Z6 s2 Z2 (St q (Rlx 2 q (En5 h))))) λh=>?_)
 refine Rcc 6 q (Ci h q (λh=>?_) λh=>?_)
 refine Rcc 2 q (br kR kR (Rq 8 q ?_))
 obtain⟨a7,V,h⟩:=ac h
 refine WQ.q (YieldsQ.fn q q q q q (f79_c V) ⟨(ay (Zs _)),Zl,Zl,Zl,Zt⟩) (Zw q) q q (Rq 2 q ?_)
 obtain⟨W,O,h⟩:=ac h
 apply WQ.grp 12 (t:=30) (d:=42) (z:=W)
 exact q
 intro J
 have h:=gc O J
 refine Rq 12 q ?_
 obtain rfl:=Oi h
 exact WQ.nil ⟨[_,_,_,_,_,_,_,_,_,_,_,_],q,q,q⟩
 intro J
 have h:=gd O J
 refine Rq 8 q ?_
 obtain⟨a',P,h⟩:=ac h
 refine WQ.qy (az e32 q Zl q (aq P) (aV eK P) q) q q q (Rq 3 q ?_)
 obtain rfl:=Oi h
 exact WQ.nil ⟨[_,_,_,_,_,_,_,_,_,_,_,_],q,q,q⟩
 refine WQ.nil (Rxc 1 q (Ci h q (λh=>?_) λh=>?_))
 exact Rcl 3 q (sS Z6 s76 Z2 (St q (Rlx 8 q (ao (rs3 q (bp q q a76 s76 q) (bj q) (bj q)) ⟨false,0,(a9.mk e1.kind 0 0 0 0 0 0 0 []),0,0,0,0,h,(Le.tu ⟨(ay ⟨Zl,Zl,Zl,Zl,Zl,Zl,Zl,Zl,Le.nil,Zt⟩),Zl,Zl,Zt⟩),⟨Zp,Zp,Zp,Zt⟩⟩))))
 refine Rcc 2 q ?_
 apply RT [_,_,_,_,_, .u,_, .u] [5,7] [[.row 164 [.l E45 e, .l E88 f, .l E90 g, .l E82 j, .l E22 k, .l E50 m, .l E62 p, .n w, .l E57 x, .l E71 y, .l E79 A, .n jent, .n (IntKind.i64.wrap (jleft - 1))], .row 162 [.pt 0 0], .row 76 [.d (D.i .u8 e1.kind), .d (D.i .u8 0), .n 0, .n e1.o, .n 0, .n 0, .n 0, .n 0,sN]],[.row 164 [.l E45 e, .l E88 f, .l E90 g, .l E82 j, .l E22 k, .l E50 m, .l E62 p, .n w, .l E57 x, .l E71 y, .l E79 A, .n jent, .n (IntKind.i64.wrap (jleft - 1))], .row 162 [.pt 0 0], .row 76 [.d (D.i .u8 e1.kind), .d (D.i .u8 0), .n 0, .n e1.o, .n e1.off, .n 0, .n 0, .n 0,sN]]] [p01 3,p10 0,u01 3,u10 2,p01 4,p20 4 1,q01 4 1,q20 6 3 1] kR kR q q
 refine Y2 ?_
 refine X2b ?_
 refine Y1 ?_
 refine zo (λ_=>sS Z6 s3 Z2 (cU q q)) ?_
 refine Y1 ?_
 exact zo (λ_=>sS Z6 s3 Z2 (cU q q)) Zt
 exact Rxx 1 q (En5 h)
 refine Rcc 6 q (Ci h q (λh=>?_) λh=>?_)
 refine Rcl 5 q (sS Z6 s2 Z2 (St q (Rlc 2 q (Jn1 (λK=> [(4, .pt 2 0),(5, .n 0),(6, .d (D.b K))]) (λ_=> [.row 164 [.l E45 e, .l E88 f, .l E90 g, .l E82 j, .l E22 k, .l E50 m, .l E62 p, .n w, .l E57 x, .l E71 y, .l E79 A, .n jent, .n (IntKind.i64.wrap (jleft - 1))], .row 162 [.pt 0 0], .row 76 [.d (D.i .u8 e1.kind), .d (D.i .u8 0), .n e1.n, .n 0, .n 0, .n 0, .n 0, .n 0,sN]]) h (λ_ h=>?_) λK h=>?_))))
 rcases ni (decide (e1.n≥0)) with C|C
 replace h:=gc h C
 apply RT [_,_,_,_,_,_,_,_,_,_,_,_,_, .u,_,_] [] [] [p01 4,p01 3,p10 1,p10 2,p10 3,p11 4 3,p20 5 4,p11 4 0,p20 7 4,p20 8 4,p20 9 4,p30 6 10 4,p20 4 11,p11 0 4,p00,p10 12] kR kR q q
 refine Y4 ?_
 refine zo (rc C) ?_
 refine Y8 ?_
 refine zo (λ_=>sS Z6 s76 Z2 (cU q q)) ?_
 exact Y2 Zt
 exact En1 h
 replace h:=gd h C
 apply RT [_,_,_,_,_,_,_,_,_,_,_,_,_, .u,_,_] [] [] [p01 4,p01 3,p10 1,p10 2,p10 3,p10 4,p10 4,p10 4,p10 4,p10 4,p10 4,p10 4,p20 4 11,p11 0 4,p00,p10 12] kR kR q q
 refine Y4 ?_
 refine zo (rc C) ?_
 refine Y8 ?_
 refine zo (λ_=>sS Z6 s76 Z2 (cU q q)) ?_
 exact Y2 Zt
 exact En1 h
 exact Rcx 3 q (ao (rs3 q (bp q q a76 s76 q) (bj q) (bj q)) ⟨K,0,(a9.mk e1.kind 0 e1.n 0 0 0 0 0 []),0,e1.n,0,0,h,(Le.tu ⟨(ay ⟨Zl,Zl,Zl,Zl,Zl,Zl,Zl,Zl,Le.nil,Zt⟩),Zl,Zl,Zt⟩),⟨Zp,Zp,Zp,Zt⟩⟩)
 refine Rcc 6 q (Ci h q (λh=>Rcl 2 q (sS Z6 s74 Z2 (St q (Rlx 3 q (En5 h))))) λh=>?_)
 refine Rcc 6 q (Ci h q (λh=>?_) λh=>?_)
 exact Rcl 3 q (Zq (jK q q q) q (Zq (jL q q q) q (Rl 1 q (sS Z6 s74 Z2 (St q (Rlx 3 q (En5 h)))))))
 refine Jn1 (λQ=> [(4, .pt 2 0),(78, .d (D.b Q))]) (λ_=> [.row 164 [.l E45 e, .l E88 f, .l E90 g, .l E82 j, .l E22 k, .l E50 m, .l E62 p, .n w, .l E57 x, .l E71 y, .l E79 A, .n jent, .n (IntKind.i64.wrap (jleft - 1))], .row 162 [.pt 0 0], .row 76 [.d (D.i .u8 e1.kind), .d (D.i .u8 0), .n 0, .n 0, .n 0, .n 0, .n 0, .n 0,sN]]) h (λ_ h=>?_) (λQ h=>?_)
 exact Rcc 6 q (Ci h q (λh=>Rcx 1 q (En1 h)) λh=>Rcx 4 q (En1 h))
 refine Ci h q (λh=>?_) (λh=>?_)
 exact Rcx 4 q (En5 h)
 exact Rcl 3 q (sS Z6 s76 Z2 (St q (Rlx 7 q (ao (rs3 q (bp q q a76 s76 q) (bj q) (bj q)) ⟨false,0,(a9.mk e1.kind 0 0 0 0 0 0 0 []),0,0,0,0,h,(Le.tu ⟨(ay ⟨Zl,Zl,Zl,Zl,Zl,Zl,Zl,Zl,Le.nil,Zt⟩),Zl,Zl,Zt⟩),⟨Zp,Zp,Zp,Zt⟩⟩))))
 exact Rcl 4 q (sS Z6 s76 Z2 (St q (Rlx 5 q (ao (rs3 q (bp q q a76 s76 q) (bj q) (bj q)) ⟨true,I,(a9.mk e1.kind c21v106 c22v107 c23v108 c24v109 0 0 0 []),c21v106,c22v107,c23v108,c24v109,h,(Le.tu ⟨(ay ⟨Zl,Zl,Zl,Zl,Zl,Zl,Zl,Zl,Le.nil,Zt⟩),Zl,Zl,Zt⟩),⟨Zp,Zp,Zp,Zt⟩⟩))))
 rintro rv st1 ⟨G,H,a,c21v100,c22v101,c23v102,c24v103,h,hr,hst⟩
 subst U
 dsimp only at h
 refine WL.cast 20 q hr (WL.weak hst (Rl 4 q (Al z76 q (sS Z6 s76 Z2 (St q (Rl 2 q (Zn (Rcl 9 q ?_))))))))
 refine OG 3 29 32 3 3 ?_
 refine Rl 1 q ?_
 refine OG 3 33 36 3 3 ?_
 refine Rl 1 q ?_
 apply WL.or 6 (t:=37) (d:=43)
 exact q
 intro bb
 exact Rl 2 q (Zy (aa E76 e1.l e69 q q Zl) q q q (Rl 3 q (WL.nil ⟨q,[_,_,_,_,_,_],q,q,q⟩)))
 exact Rn 6 6
 refine Rl 1 q ?_
 refine OG 6 44 50 6 6 ?_
 refine Rl 1 q ?_
 refine OG 6 51 57 6 6 ?_
 refine Rl 1 q ?_
 refine OG 6 58 64 6 6 ?_
 refine Rl 1 q ?_
 refine OG 6 65 71 6 6 ?_
 refine Rl 1 q ?_
 refine OG 4 72 76 4 4 ?_
 refine Rl 1 q ?_
 refine OG 4 77 81 4 4 ?_
 refine Rl 1 q ?_
 refine OG 4 82 86 4 4 ?_
 refine Rlc 2 q (Ci h q (λh=>?_) λh=>?_)
 refine Rcx 7 q ?_
 obtain rfl:=Oi h
 exact fU 0 (rs1 q (bj q)) Zl q ⟨Zp,Zt⟩
 refine Rcl 7 q ?_
 obtain⟨X,Y,h⟩:=aA h
 refine WL.inl (us:=[.l E76 e1.l, .fn (.func 115) [] [.pt 1 0, .d (.pc (E3 B))]]) (λrv st'=>(∃(L:Bool),∃(c00v120:lN),∃(c01v121:lH),∃(c02v122:lP),∃(c03v123:lS),∃(c04v124:lL),∃(c05v125:lO),∃(c06v126:lT),∃(c07v127:Int),∃(c08v128:lK),∃(c09v129:lM),∃(c010v130:lC),∃(c011v131:Int),∃(c012v132:Int),X L c00v120 c01v121 c02v122 c03v123 c04v124 c05v125 c06v126 c07v127 c08v128 c09v129 c010v130 c011v131 c012v132=some r∧Le rv (.d (D.b L))∧SLe st' [.row 164 [.l E45 c00v120, .l E88 c01v121, .l E90 c02v122, .l E82 c03v123, .l E22 c04v124, .l E50 c05v125, .l E62 c06v126, .n c07v127, .l E57 c08v128, .l E71 c09v129, .l E79 c010v130, .n c011v131, .n c012v132], .row 162 [.pt 0 0], .row 76 [.d (D.i .u8 e1.kind), .d (D.i .u8 c21v100), .n c22v101, .n c23v102, .n c24v103, .n 0, .n 0, .n 0,sN], .row 76 [.d (D.i .u8 a.kind), .d (D.i .u8 a.op), .n a.n, .n a.o, .n a.off, .n a.len, .n a.lo, .n a.hi, .l E76 a.l]])) q q q q q ?_ (Zw q) q q ?_
 refine cI func114 λ_ _ _ _=>?_
 refine Rcl 9 q ?_
 obtain⟨R,Z,h⟩:=aA h
 refine WL.inl (us:=[.l E76 e1.l, .fn (.func 115) [] [.pt 1 0, .d (.pc (E3 B))]]) (λrv st'=>(∃(E:Int),∃(c00v136:lN),∃(c01v137:lH),∃(c02v138:lP),∃(c03v139:lS),∃(c04v140:lL),∃(c05v141:lO),∃(c06v142:lT),∃(c07v143:Int),∃(c08v144:lK),∃(c09v145:lM),∃(c010v146:lC),∃(c011v147:Int),∃(c012v148:Int),R E c00v136 c01v137 c02v138 c03v139 c04v140 c05v141 c06v142 c07v143 c08v144 c09v145 c010v146 c011v147 c012v148=some r∧Le rv (.n E)∧SLe st' [.row 164 [.l E45 c00v136, .l E88 c01v137, .l E90 c02v138, .l E82 c03v139, .l E22 c04v140, .l E50 c05v141, .l E62 c06v142, .n c07v143, .l E57 c08v144, .l E71 c09v145, .l E79 c010v146, .n c011v147, .n c012v148], .row 162 [.pt 0 0], .row 76 [.d (D.i .u8 e1.kind), .d (D.i .u8 c21v100), .n c22v101, .n c23v102, .n c24v103, .n 0, .n 0, .n 0,sN], .row 76 [.d (D.i .u8 a.kind), .d (D.i .u8 a.op), .n a.n, .n a.o, .n a.off, .n a.len, .n a.lo, .n a.hi, .l E76 a.l]])) q q q q q ?_ (Zw q) q q ?_
 refine cI func145 λ_ _ _ _=>?_
 refine Rcc 5 q (Jn13 (λ_ _ _ _ _ _ _ _ _ _ _ _ _=> []) (λc00v150 c01v151 c02v152 c03v153 c04v154 c05v155 c06v156 c07v157 c08v158 c09v159 c010v160 c011v161 c012v162=> [.row 164 [.l E45 c00v150, .l E88 c01v151, .l E90 c02v152, .l E82 c03v153, .l E22 c04v154, .l E50 c05v155, .l E62 c06v156, .n c07v157, .l E57 c08v158, .l E71 c09v159, .l E79 c010v160, .n c011v161, .n c012v162], .row 162 [.pt 0 0], .row 76 [.d (D.i .u8 e1.kind), .d (D.i .u8 c21v100), .n c22v101, .n c23v102, .n c24v103, .n 0, .n 0, .n 0,sN], .row 76 [.d (D.i .u8 a.kind), .d (D.i .u8 a.op), .n a.n, .n a.o, .n a.off, .n a.len, .n a.lo, .n a.hi, .l E76 a.l]]) h (λad h=>?_) λc00v150 c01v151 c02v152 c03v153 c04v154 c05v155 c06v156 c07v157 c08v158 c09v159 c010v160 c011v161 c012v162 h=>?_)
 refine Rcl 3 q (Zq (aa E76 e1.l e69 q q Zl) q (Rlc 4 q (Ln14 (λM _ _ _ _ _ _ _ _ _ _ _ _ _=> [(0, .l E76 e1.l),(1, .fn (.func 115) [] [.pt 1 0, .d (.pc (E3 B))]),(7, .n (List.length e1.l:Int)),(8, .n M)]) (λ_ c00v179 c01v180 c02v181 c03v182 c04v183 c05v184 c06v185 c07v186 c08v187 c09v188 c010v189 c011v190 c012v191=> [.row 164 [.l E45 c00v179, .l E88 c01v180, .l E90 c02v181, .l E82 c03v182, .l E22 c04v183, .l E50 c05v184, .l E62 c06v185, .n c07v186, .l E57 c08v187, .l E71 c09v188, .l E79 c010v189, .n c011v190, .n c012v191], .row 162 [.pt 0 0], .row 76 [.d (D.i .u8 e1.kind), .d (D.i .u8 c21v100), .n c22v101, .n c23v102, .n c24v103, .n 0, .n 0, .n 0,sN], .row 76 [.d (D.i .u8 a.kind), .d (D.i .u8 a.op), .n a.n, .n a.o, .n a.off, .n a.len, .n a.lo, .n a.hi, .l E76 a.l]]) (f84s_l1 F e1 B R ad) h (λ_ _ _ _ _ _ _ _ _ _ _ _ _ _ h=>by rw[f84s_l1] at h;cases h) λn M c00v179 c01v180 c02v181 c03v182 c04v183 c05v184 c06v185 c07v186 c08v187 c09v188 c010v189 c011v190 c012v191 h=>?_)))
 rw[f84s_l1] at h
 refine Rcc 6 q (Ci h q (λh=>?_) λh=>?_)
 refine Rcl 15 q (Ix h e69 o5 q Zl q q λax _ h=>(Rl 1 q ?_))
 obtain⟨a0,a1,h⟩:=aA h
 refine WL.inl (us:=[.d (.ag (R76 ax)), .pt 1 0, .d (.pc (E3 B))]) (λrv st'=>(∃(N:Bool),∃(c00v209:lN),∃(c01v210:lH),∃(c02v211:lP),∃(c03v212:lS),∃(c04v213:lL),∃(c05v214:lO),∃(c06v215:lT),∃(c07v216:Int),∃(c08v217:lK),∃(c09v218:lM),∃(c010v219:lC),∃(c011v220:Int),∃(c012v221:Int),a0 N c00v209 c01v210 c02v211 c03v212 c04v213 c05v214 c06v215 c07v216 c08v217 c09v218 c010v219 c011v220 c012v221=some r∧Le rv (.d (D.b N))∧SLe st' [.row 164 [.l E45 c00v209, .l E88 c01v210, .l E90 c02v211, .l E82 c03v212, .l E22 c04v213, .l E50 c05v214, .l E62 c06v215, .n c07v216, .l E57 c08v217, .l E71 c09v218, .l E79 c010v219, .n c011v220, .n c012v221], .row 162 [.pt 0 0], .row 76 [.d (D.i .u8 e1.kind), .d (D.i .u8 c21v100), .n c22v101, .n c23v102, .n c24v103, .n 0, .n 0, .n 0,sN], .row 76 [.d (D.i .u8 a.kind), .d (D.i .u8 a.op), .n a.n, .n a.o, .n a.off, .n a.len, .n a.lo, .n a.hi, .l E76 a.l]])) q q q q q ?_ (Zw q) q q ?_
 refine cI func115 λ_ _ _ _=>?_
 refine Rcl 2 q (Bd q q (Zs _) q (Rll 9 q ?_))
 obtain⟨c,a6,h⟩:=ac h
 refine mC [0] q q q q (S _ _ _ _ _ _ _ _ _ _ _ _ _ _ _ _ a6) Lw q dC (Re q) ⟨q,Zt⟩ q q (λ_=>q) (λ_=>(Re q)) (Zw q) q q (λbk=>?_)
 exact Rlx 5 q (ao (rs1 q (bj q)) ⟨(!c.1),c.2.1,c.2.2.1,c.2.2.2.1,c.2.2.2.2.1,c.2.2.2.2.2.1,c.2.2.2.2.2.2.1,c.2.2.2.2.2.2.2.1,c.2.2.2.2.2.2.2.2.1,c.2.2.2.2.2.2.2.2.2.1,c.2.2.2.2.2.2.2.2.2.2.1,c.2.2.2.2.2.2.2.2.2.2.2.1,c.2.2.2.2.2.2.2.2.2.2.2.2.1,c.2.2.2.2.2.2.2.2.2.2.2.2.2,h,Zl,⟨Zp,Zp,Zp,Zp,Zt⟩⟩)
 rintro rv st1 ⟨N,c00v209,c01v210,c02v211,c03v212,c04v213,c05v214,c06v215,c07v216,c08v217,c09v218,c010v219,c011v220,c012v221,h,hr,hst⟩
 subst a1
 dsimp only at h
 refine WL.cast 16 q hr (WL.weak hst (Zn (Ci h q (λh=>?_) λh=>?_)))
 exact Rcx 12 q (ao (rs1 q (bj q)) ⟨M,c00v209,c01v210,c02v211,c03v212,c04v213,c05v214,c06v215,c07v216,c08v217,c09v218,c010v219,c011v220,c012v221,h,Zl,⟨Zp,Zp,Zp,Zp,Zt⟩⟩)
 exact Rcx 7 q (cD ⟨_,⟨_,_,_,_,_,_,_,_,_,_,_,_,_,_,h,Sb,Tv⟩,Nat.lt_succ_self _⟩)
 exact Rcx 4 q (cD ⟨_,_,_,_,_,_,_,_,_,_,_,_,_,h,Sb,Tv⟩)
 exact Rcx 6 q (ao (rs1 q (bj q)) ⟨(-1),c00v150,c01v151,c02v152,c03v153,c04v154,c05v155,c06v156,c07v157,c08v158,c09v159,c010v160,c011v161,c012v162,h,Zl,⟨Zp,Zp,Zp,Zp,Zt⟩⟩)
 rintro rv st1 ⟨E,c00v136,c01v137,c02v138,c03v139,c04v140,c05v141,c06v142,c07v143,c08v144,c09v145,c010v146,c011v147,c012v148,h,hr,hst⟩
 subst Z
 dsimp only at h
 exact WL.cast 7 q hr (WL.weak hst (Rl 2 q (Zn (Rcx 1 q (ao (rs1 q (bj q)) ⟨(decide (E≥0)),c00v136,c01v137,c02v138,c03v139,c04v140,c05v141,c06v142,c07v143,c08v144,c09v145,c010v146,c011v147,c012v148,h,Zl,⟨Zp,Zp,Zp,Zp,Zt⟩⟩)))))
 rintro rv st1 ⟨L,c00v120,c01v121,c02v122,c03v123,c04v124,c05v125,c06v126,c07v127,c08v128,c09v129,c010v130,c011v131,c012v132,h,hr,hst⟩
 subst Y
 dsimp only at h
 refine WL.cast 90 q hr (WL.weak hst (Rl 2 q (Zn (Rcx 1 q ?_))))
 obtain rfl:=Oi h
 exact fU 0 (rs1 q (bj q)) Zl q ⟨Zp,Zt⟩

theorem f84_c:∀(n:Nat)(a:lN)(c:lH)(e:lP)(f:lS)(g:lL)(j:lO)(k:lT)(m:Int)(o:lK)(p:lM)(t:lC)(jent:Int)(jleft:Int)(x1:a9)(x2:Int){r:Bool×lN×lH×lP×lS×lL×lO×lT×Int×lK×lM×lC×Int×Int},f84 n a c e f g j k m o p t jent jleft x1 x2=some r→Ctr prog 84 [.pt 0 0, .d (.ag (R76 x1)), .n x2] [.row 164 [.l E45 a, .l E88 c, .l E90 e, .l E82 f, .l E22 g, .l E50 j, .l E62 k, .n m, .l E57 o, .l E71 p, .l E79 t, .n jent, .n jleft]] (nl 1 (.b r.1) (λ_=> [.row 164 [.l E45 r.2.1, .l E88 r.2.2.1, .l E90 r.2.2.2.1, .l E82 r.2.2.2.2.1, .l E22 r.2.2.2.2.2.1, .l E50 r.2.2.2.2.2.2.1, .l E62 r.2.2.2.2.2.2.2.1, .n r.2.2.2.2.2.2.2.2.1, .l E57 r.2.2.2.2.2.2.2.2.2.1, .l E71 r.2.2.2.2.2.2.2.2.2.2.1, .l E79 r.2.2.2.2.2.2.2.2.2.2.2.1, .n r.2.2.2.2.2.2.2.2.2.2.2.2.1, .n r.2.2.2.2.2.2.2.2.2.2.2.2.2]]))
 |0,_,_,_,_,_,_,_,_,_,_,_,_,_,_,_,_,h=>by cases h
 |n+1,a,c,e,f,g,j,k,m,o,p,t,jent,jleft,x1,x2,_,h=>f84s_c (f84 n) a c e f g j k m o p t jent jleft x1 x2 (λa c e f g j k m o p t jent jleft x1 x2 _ h=>f84_c n a c e f g j k m o p t jent jleft x1 x2 h) h

theorem f53_c{t0:aC}{r:Bool}(h:f53 t0=some r):Pu prog 53 [.ag (aF t0)] (.b r):=by
 unfold f53 at h
 refine fI func53 λ_ _=>?_
 refine Rcl 2 q (Bd q q (Zs _) q (Rlc 3 q (Jn0 [(1, .d (.pc (aF t0)))] [] h (λf h=>?_) λh=>?_)))
 refine Rcl 5 q (Zq (aa E71 t0.text.prots e35 q q Zl) q (Rlc 4 q (Ln1 (λc=> [(1, .d (.pc (aF t0))),(10, .l E71 t0.text.prots),(11, .n (List.length t0.text.prots:Int)),(12, .n c)]) (λ_=> []) (f53_l1 t0 f) h (λ_ h=>by rw[f53_l1] at h;cases h) λn c h=>?_)))
 rw[f53_l1] at h
 refine Rcc 6 q (Ci h q (λh=>?_) λh=>?_)
 refine Rcc 2 q (Jn2 (λ_ _=> [(1, .d (.pc (aF t0))),(10, .l E71 t0.text.prots),(11, .n (List.length t0.text.prots:Int)),(12, .n c)]) (λc00v60 c01v61=> [.row 71 [.n c00v60, .l E76 c01v61]]) h (λg h=>?_) λc00v60 c01v61 h=>?_)
 refine Rcl 3 q (Ix h e35 o6 q Zl q q λa _ h=>(Rl 1 q (Al z71 q (sS Z6 s71 Z2 (Rll 9 q ?_)))))
 refine OG 4 19 23 4 4 ?_
 refine Rl 1 q ?_
 apply WL.or 5 (t:=24) (d:=29)
 exact q
 intro k
 exact Rl 2 q (Zy (aa E76 a.barriers e69 q q Zl) q q q (Rl 2 q (WL.nil ⟨q,[_,_,_,_,_],q,q,q⟩)))
 exact Rn 5 5
 refine Rlc 2 q (Ci h q (λh=>Rcx 12 q (FA h)) λh=>?_)
 refine Rcl 6 q (Zq (aa E76 a.barriers e69 q q Zl) q (Rlc 4 q (Ln1 (λe=> [(1, .d (.pc (aF t0))),(4, .pt 0 0),(10, .l E71 t0.text.prots),(11, .n (List.length t0.text.prots:Int)),(12, .n c),(31, .l E76 a.barriers),(32, .n (List.length a.barriers:Int)),(33, .n e)]) (λ_=> [.row 71 [.n a.ceiling, .l E76 a.barriers]]) (f53_l2 t0 g a) h (λ_ h=>by rw[f53_l2] at h;cases h) λna e h=>?_)))
 rw[f53_l2] at h
 refine Rcc 6 q (Ci h q (λh=>?_) λh=>?_)
 refine Rcl 6 q (Ix h e69 o5 q Zl q q λm _ h=>(Rl 1 q (Al z76 q (sS Z6 s76 Z2 (Rll 7 q (Zq (aa E76 a.barriers e69 q q Zl) q (Zq (aU p164 z164 q q) q (Bx q q q (Rll 7 q ?_)))))))))
 obtain⟨o,j,h⟩:=ac h
 refine mC [2] q q q q (f84_c 66 _ _ _ _ _ _ _ _ _ _ _ _ _ _ _ j) ⟨Zl,(ay (Zs _)),Zl,Zt⟩ q dC (Re q) ⟨q,Zt⟩ q q (λ_=>q) (λ_=>(Re q)) (Zw q) q q (λp=>?_)
 refine Rlc 3 q (Ci h q (λh=>Rcx 15 q (FA h)) λh=>?_)
 exact Rcx 7 q (WE.drop 1 (env':=[(1, .d (.pc (aF t0))),(4, .pt 0 0),(10, .l E71 t0.text.prots),(11, .n (List.length t0.text.prots:Int)),(12, .n c),(31, .l E76 a.barriers),(32, .n (List.length a.barriers:Int)),(33, .n (IntKind.i64.wrap (e+1)))]) Sb q q (Nat.zero_le _) (Fn1 h))
 exact Rcx 5 q (En2 h)
 exact Rcx 4 q (WE.drop 0 (env':=[(1, .d (.pc (aF t0))),(10, .l E71 t0.text.prots),(11, .n (List.length t0.text.prots:Int)),(12, .n (IntKind.i64.wrap (c+1)))]) Sb q q (Nat.zero_le _) (Fn1 h))
 exact Rcx 4 q (En0 h)
 exact Rcl 5 q (Zq (aa E71 t0.text.prots e35 q q Zl) q (Rlx 5 q (FA h)))

theorem f117_c{n0:Int}{a:aC}{c:Int}{r:Bool}(h:f117 n0 a c=some r):Pu prog 117 [.i .i64 n0, .pc (aF a), .pc (E3 c)] (.b r):=by
 unfold f117 at h
 refine fI func117 λ_ _=>?_
 refine Rcl 10 q ?_
 obtain⟨e,d,h⟩:=ac h
 exact wF Z4 (f79_c d) Lw Z3 (Rlx 4 q (FA h))

theorem f87_c{t0:aC}{a:Int}{a2:np}{r:Bool}(h:f87 t0 a a2=some r):Pu prog 87 [.ag (aF t0), .i .i64 a, .ag (R86 a2)] (.b r):=by
 unfold f87 at h
 refine fI func87 λ_ _=>?_
 refine Rcl 2 q (Bd q q (Zs _) q (WL.s ((jx q q (by exact(show Les [.n a] (List.map AV.d [.i .i64 a]) from Lw))).does) (Zw q) q q (Bd q q (Zs _) q (Rll 15 q (wF Z4 (f75_c) Lw Z3 (Rl 2 q ?_))))))
 obtain⟨e,f,h⟩:=ac h
 refine Gg 11 14 25 e f (λh=>?_) (λh=>?_) ?_
 exact On 11 11 h
 refine Rl 4 q ?_
 obtain⟨g,j,h⟩:=ac h
 refine Gg 6 18 24 g j (λh=>?_) (λh=>?_) ?_
 refine Rl 3 q ?_
 obtain⟨w,k,h⟩:=ac h
 exact WL.fn q q q q (f117_c k) Lw (aP q q q) q q (On 2 6 h)
 exact On 6 6 h
 exact On 1 6 h
 refine Rlc 2 q (Ci h q (λh=>Rcx 7 q (FA h)) λh=>?_)
 refine Rcc 16 q (Ci h q (λh=>?_) λh=>?_)
 refine Rcl 6 q ?_
 refine AG 4 33 37 4 4 ?_
 refine Rl 1 q ?_
 refine AG 4 38 42 4 4 ?_
 exact Rlx 6 q (FA h)
 refine Jn1 (λc=> [(5, .d (.pc (R86 a2))),(7, .fn (.func 117) [] [.d (.pc (aF t0)), .d (.pc (E3 a))]),(43, .d (D.b c))]) (λ_=> []) h (λ_ h=>?_) (λc h=>?_)
 exact Rcc 6 q (Ci h q (λh=>Rcx 1 q (En1 h)) λh=>Rcx 4 q (En1 h))
 refine Ci h q (λh=>?_) (λh=>?_)
 refine Rcl 6 q ?_
 obtain⟨m,o,h⟩:=ac h
 refine Gg 5 49 54 m o (λh=>?_) (λh=>?_) ?_
 refine Rl 3 q ?_
 obtain⟨x,p,h⟩:=ac h
 exact WL.fn q q q q (f117_c p) Lw (aP q q q) q q (On 1 5 h)
 exact On 5 5 h
 exact Rlx 6 q (FA h)
 refine Rcl 9 q ?_
 apply WL.and 7 (t:=58) (d:=65)
 exact q
 intro y
 exact Rl 4 q (Zy (qW q q q) q q q (Rl 2 q (WL.nil ⟨q,[_,_,_,_,_,_,_],q,q,q⟩)))
 exact Rn 7 7
 exact Rlx 4 q (FA h)

theorem f54_c{t0:aC}{r:Bool}(h:f54 t0=some r):Pu prog 54 [.ag (aF t0)] (.b r):=by
 unfold f54 at h
 refine fI func54 λ_ _=>?_
 refine Rcl 2 q (Bd q q (Zs _) q (Rll 9 q (Zq (aa E82 t0.text.selects e30 q q Zl) q (Rlc 3 q (Ci h q (λh=>?_) λh=>?_)))))
 exact Rcx 7 q (FA h)
 refine Rcc 2 q (Jn0 [] [] h (λm h=>?_) λh=>?_)
 refine Rcl 5 q (Zq (aa E82 t0.text.selects e30 q q Zl) q (Rlc 4 q (Ln1 (λe=> [(1, .d (.pc (aF t0))),(12, .l E82 t0.text.selects),(13, .n (List.length t0.text.selects:Int)),(14, .n e)]) (λ_=> []) (f54_l1 t0 m) h (λ_ h=>by rw[f54_l1] at h;cases h) λn e h=>?_)))
 rw[f54_l1] at h
 refine Rcc 6 q (Ci h q (λh=>?_) λh=>?_)
 refine Rcl 6 q (Ix h e30 r5 q Zl q q λa _ h=>(Rl 1 q (Al z82 q (sS Z6 s82 Z2 (Rll 7 q (Zq (aa E86 a.alts e80 q q Zl) q (Rl 2 q ?_)))))))
 apply WL.or 5 (t:=22) (d:=27)
 exact q
 intro F
 exact Rl 2 q (Zy (aa E86 a.alts e80 q q Zl) q q q (Rl 2 q (WL.nil ⟨q,[_,_,_,_,_],q,q,q⟩)))
 exact Rn 5 5
 refine Rl 1 q ?_
 refine OG 4 28 32 4 4 ?_
 refine Rl 1 q ?_
 apply WL.or 8 (t:=33) (d:=41)
 exact q
 intro G
 exact Rl 5 q (Zy (aa E50 t0.text.objs e32 q q Zl) q q q (Rl 2 q (WL.nil ⟨q,[_,_,_,_,_,_,_,_],q,q,q⟩)))
 exact Rn 8 8
 refine Rl 1 q ?_
 apply WL.or 11 (t:=42) (d:=53)
 exact q
 intro H
 refine Rl 4 q ?_
 apply WL.and 6 (t:=46) (d:=52)
 exact q
 intro I
 exact Rl 3 q (WL.fn q q q q (f75_c) Lw (aP q q q) q q (Rl 2 q (WL.nil ⟨q,[_,_,_,_,_,_],q,q,q⟩)))
 exact Rn 6 6
 exact Rn 1 6
 exact Rn 11 11
 refine Rlc 2 q (Ci h q (λh=>Rcx 12 q (FA h)) λh=>?_)
 refine Rcl 7 q ?_
 obtain⟨o,p,h⟩:=aA h
 refine WL.inl (us:=[.l E86 a.alts, .fn (.func 86) [] [.d (.pc (aF t0)), .pt 0 0]]) (λrv st'=>(∃(f:Bool),o f=some r∧Le rv (.d (D.b f))∧SLe st' [.row 82 [.l E86 a.alts, .n a.obj, .n a.else_]])) q q q q q ?_ (Zw q) q q ?_
 refine cI func85 λ_ _ _ _=>?_
 refine Rcl 9 q ?_
 obtain⟨k,w,h⟩:=aA h
 refine WL.inl (us:=[.l E86 a.alts, .fn (.func 86) [] [.d (.pc (aF t0)), .pt 0 0]]) (λrv st'=>(∃(c:Int),k c=some r∧Le rv (.n c)∧SLe st' [.row 82 [.l E86 a.alts, .n a.obj, .n a.else_]])) q q q q q ?_ (Zw q) q q ?_
 refine cI func116 λ_ _ _ _=>?_
 refine Rcc 5 q (Jn0 [] [.row 82 [.l E86 a.alts, .n a.obj, .n a.else_]] h (λx h=>?_) λh=>?_)
 refine Rcl 3 q (Zq (aa E86 a.alts e80 q q Zl) q (Rlc 4 q (Ln1 (λg=> [(0, .l E86 a.alts),(1, .fn (.func 86) [] [.d (.pc (aF t0)), .pt 0 0]),(7, .n (List.length a.alts:Int)),(8, .n g)]) (λ_=> [.row 82 [.l E86 a.alts, .n a.obj, .n a.else_]]) (f54_l2 t0 a k x) h (λ_ h=>by rw[f54_l2] at h;cases h) λna g h=>?_)))
 rw[f54_l2] at h
 refine Rcc 6 q (Ci h q (λh=>?_) λh=>?_)
 refine Rcl 15 q (Ix h e80 rZ q Zl q q λy _ h=>(Rl 1 q ?_))
 obtain⟨A,B,h⟩:=aA h
 refine WL.inl (us:=[.d (.ag (R86 y)), .d (.pc (aF t0)), .pt 0 0]) (λrv st'=>(∃(j:Bool),A j=some r∧Le rv (.d (D.b j))∧SLe st' [.row 82 [.l E86 a.alts, .n a.obj, .n a.else_]])) q q q q q ?_ (Zw q) q q ?_
 refine cI func86 λ_ _ _ J=>?_
 refine Rcl 2 q (Bd q q (Zs _) q (Rll 9 q ?_))
 obtain⟨C,E,h⟩:=ac h
 exact wF Z4 (f87_c E) Lw Z3 (Rlx 5 q (ao (rs1 q (bj q)) ⟨(!C),h,Zl,⟨Zp,Zt⟩⟩))
 rintro rv st1 ⟨j,h,hr,hst⟩
 subst B
 dsimp only at h
 refine WL.cast 16 q hr (WL.weak hst (Zn (Ci h q (λh=>?_) λh=>?_)))
 exact Rcx 12 q (ao (rs1 q (bj q)) ⟨g,h,Zl,⟨Zp,Zt⟩⟩)
 exact Rcx 7 q (Fn1 h)
 exact Rcx 4 q (En0 h)
 exact Rcx 6 q (ao (rs1 q (bj q)) ⟨(-1),h,Zl,⟨Zp,Zt⟩⟩)
 rintro rv st1 ⟨c,h,hr,hst⟩
 subst w
 dsimp only at h
 exact WL.cast 7 q hr (WL.weak hst (Rl 2 q (Zn (Rcx 1 q (ao (rs1 q (bj q)) ⟨(decide (c≥0)),h,Zl,⟨Zp,Zt⟩⟩)))))
 rintro rv st1 ⟨f,h,hr,hst⟩
 subst p
 dsimp only at h
 refine WL.cast 57 q hr (WL.weak hst (Zn (Ci h q (λh=>?_) λh=>?_)))
 exact Rcx 11 q (FA h)
 exact Rcx 7 q (WE.drop 0 (env':=[(1, .d (.pc (aF t0))),(12, .l E82 t0.text.selects),(13, .n (List.length t0.text.selects:Int)),(14, .n (IntKind.i64.wrap (e+1)))]) Sb q q (Nat.zero_le _) (Fn1 h))
 exact Rcx 4 q (En0 h)
 exact Rcx 6 q (FA h)

theorem f88_c{h0:bY}{a1:Int}:Pu prog 88 [.ag (R88 h0), .i .i64 a1] (.b (f88 h0 a1)):=by
 generalize h:f88 h0 a1=r
 unfold f88 at h
 refine fI func88 λ_ _=>?_
 refine Rcl 2 q (Bd q q (Zs _) q (Rll 10 q ?_))
 refine AG 5 9 14 5 5 ?_
 exact Rlx 4 q (FB h)

theorem f55_c{t0:aC}{r:Bool}(h:f55 t0=some r):Pu prog 55 [.ag (aF t0)] (.b r):=by
 unfold f55 at h
 refine fI func55 λ_ _=>?_
 refine Rcl 2 q (Bd q q (Zs _) q (Rll 9 q (Zq (aa E88 t0.text.handlers e28 q q Zl) q (Rlc 3 q (Ci h q (λh=>?_) λh=>?_)))))
 exact Rcx 7 q (FA h)
 refine Rcc 2 q (Jn0 [] [] h (λf h=>?_) λh=>?_)
 refine Rcl 5 q (Zq (aa E88 t0.text.handlers e28 q q Zl) q (Rlc 4 q (Ln1 (λa=> [(1, .d (.pc (aF t0))),(15, .l E88 t0.text.handlers),(16, .n (List.length t0.text.handlers:Int)),(17, .n a)]) (λ_=> []) (f55_l1 t0 f) h (λ_ h=>by rw[f55_l1] at h;cases h) λn a h=>?_)))
 rw[f55_l1] at h
 refine Rcc 6 q (Ci h q (λh=>?_) λh=>?_)
 refine Rcc 2 q (Jn4 (λ_ _ _ _=> [(1, .d (.pc (aF t0))),(15, .l E88 t0.text.handlers),(16, .n (List.length t0.text.handlers:Int)),(17, .n a)]) (λc00v99 c01v100 c02v101 c03v102=> [.row 88 [.n c00v99, .n c01v100, .n c02v101, .d (D.b c03v102)]]) h (λg h=>?_) λc00v99 c01v100 c02v101 c03v102 h=>?_)
 refine Rcl 4 q (Ix h e28 o4 q Zl q q λc _ h=>(Rl 1 q (Al z88 q (Rl 1 q (sS Z6 s88 Z2 (Rll 9 q ?_))))))
 refine OG 6 25 31 6 6 ?_
 refine Rl 1 q ?_
 apply WL.or 8 (t:=32) (d:=40)
 exact q
 intro k
 exact Rl 5 q (Zy (aa E45 t0.text.insns e27 q q Zl) q q q (Rl 2 q (WL.nil ⟨q,[_,_,_,_,_,_,_,_],q,q,q⟩)))
 exact Rn 8 8
 refine Rl 1 q ?_
 apply WL.or 6 (t:=41) (d:=47)
 exact q
 intro m
 exact Rl 3 q (WL.fn q q q q (f75_c) Lw (aP q q q) q q (Rl 2 q (WL.nil ⟨q,[_,_,_,_,_,_],q,q,q⟩)))
 exact Rn 6 6
 refine Rl 1 q ?_
 apply WL.or 5 (t:=48) (d:=53)
 exact q
 intro o
 exact Rl 3 q (WL.fn q q q q (f88_c) ⟨(ay (Zs _)),Zl,Zt⟩ (aP q q q) q q (Rl 1 q (WL.nil ⟨q,[_,_,_,_,_],q,q,q⟩)))
 exact Rn 5 5
 refine Rlc 2 q (Ci h q (λh=>Rcx 12 q (FA h)) λh=>?_)
 refine Rcl 8 q ?_
 replace h:=gt h
 obtain⟨j,h⟩:=h
 refine Zq (jF E88 t0.text.handlers (l:=0) (h:=a) e28 q Zl q ⟨_,q⟩ j λ_=>q) q (Zq (aa E88 (cv t0.text.handlers 0 a) e28 q q Zl) q (Rlc 4 q (Ln1 (λe=> [(1, .d (.pc (aF t0))),(4, .pt 0 0),(15, .l E88 t0.text.handlers),(16, .n (List.length t0.text.handlers:Int)),(17, .n a),(58, .l E88 (cv t0.text.handlers 0 a)),(59, .n (List.length (cv t0.text.handlers 0 a):Int)),(60, .n e)]) (λ_=> [.row 88 [.n c.from_, .n c.to, .n c.at_, .d (D.b c.clean)]]) (f55_l2 t0 a g c) h (λ_ h=>by rw[f55_l2] at h;cases h) λna e h=>?_)))
 rw[f55_l2] at h
 refine Rcc 6 q (Ci h q (λh=>?_) λh=>?_)
 refine Rcl 6 q (Ix h e28 o4 q Zl q q λp _ h=>(Rl 1 q (Al z88 q (sS Z6 s88 Z2 (Rll 10 q ?_)))))
 refine AG 6 69 75 6 6 ?_
 refine Rll 8 q ?_
 apply WL.and 12 (t:=78) (d:=90)
 exact q
 intro w
 exact Rl 4 q (Zy (jL q q q) q q q (Rl 4 q (Zy (jK q q q) q q q (Rl 2 q (WL.nil ⟨q,[_,_,_,_,_,_,_,_,_,_,_,_],q,q,q⟩)))))
 exact Rn 12 12
 refine Rlc 2 q (Ci h q (λh=>Rcx 15 q (FA h)) λh=>?_)
 exact Rcx 7 q (WE.drop 1 (env':=[(1, .d (.pc (aF t0))),(4, .pt 0 0),(15, .l E88 t0.text.handlers),(16, .n (List.length t0.text.handlers:Int)),(17, .n a),(58, .l E88 (cv t0.text.handlers 0 a)),(59, .n (List.length (cv t0.text.handlers 0 a):Int)),(60, .n (IntKind.i64.wrap (e+1)))]) Sb q q (Nat.zero_le _) (Fn1 h))
 exact Rcx 5 q (En4 h)
 exact Rcx 4 q (WE.drop 0 (env':=[(1, .d (.pc (aF t0))),(15, .l E88 t0.text.handlers),(16, .n (List.length t0.text.handlers:Int)),(17, .n (IntKind.i64.wrap (a+1)))]) Sb q q (Nat.zero_le _) (Fn1 h))
 exact Rcx 4 q (En0 h)
 exact Rcx 6 q (FA h)

theorem f89_c{x0:cQ}{a:Int}:Pu prog 89 [.ag (R45 x0), .i .i64 a] (.b (f89 x0 a)):=by
 generalize h:f89 x0 a=r
 unfold f89 at h
 refine fI func89 λ_ _=>?_
 refine Rcl 2 q (Bd q q (Zs _) q (Rll 9 q ?_))
 refine OG 4 8 12 4 4 ?_
 refine Rl 1 q ?_
 refine OG 4 13 17 4 4 ?_
 refine Rl 1 q ?_
 refine AG 5 18 23 5 5 ?_
 exact Rlx 4 q (FB h)

theorem f56_c{t0:aC}{r:Bool}(h:f56 t0=some r):Pu prog 56 [.ag (aF t0)] (.b r):=by
 unfold f56 at h
 refine fI func56 λ_ _=>?_
 refine Rcl 2 q (Bd q q (Zs _) q (Rll 9 q (Zq (aa E90 t0.text.loops e29 q q Zl) q (Rlc 3 q (Ci h q (λh=>?_) λh=>?_)))))
 exact Rcx 7 q (FA h)
 refine Rcl 4 q (WL.s ((dY (α:=Bool) (λx:Int=>Value.int .i64 x) (λx:Bool=>AV.d (.b x))).does) (Zw q) q q (Rlc 3 q (Jn1 (λ_=> []) (λf=> [mpO (λx:Int=>Value.int .i64 x) (λx:Bool=>AV.d (.b x)) f]) h (λk h=>?_) λf h=>?_)))
 refine Rcl 5 q (Zq (aa E90 t0.text.loops e29 q q Zl) q (Rlc 4 q (Ln2 (λc _=> [(1, .d (.pc (aF t0))),(3, .mp 0),(14, .l E90 t0.text.loops),(15, .n (List.length t0.text.loops:Int)),(16, .n c)]) (λ_ a=> [mpO (λx:Int=>Value.int .i64 x) (λx:Bool=>AV.d (.b x)) a]) (f56_l1 t0 k) h (λ_ _ h=>by rw[f56_l1] at h;cases h) λn c a h=>?_)))
 rw[f56_l1] at h
 refine Rcc 6 q (Ci h q (λh=>?_) λh=>?_)
 refine Rcl 6 q (Ix h e29 rY q Zl q q λo _ h=>(Rl 1 q (Al z90 q (sS Z6 s90 Z2 (Rlc 4 q (br kR kR (Rq 4 q ?_)))))))
 apply WQ.or 6 (t:=23) (d:=29)
 exact q
 intro p
 exact Rq 6 q (WQ.nil ⟨[_,_,_,_,_,_],q,q,q⟩)
 exact Rq 6 q (WQ.nil ⟨[_,_,_,_,_,_],q,q,q⟩)
 refine Rq 1 q ?_
 apply WQ.or 6 (t:=30) (d:=36)
 exact q
 intro w
 exact Rq 3 q (WQ.q (YieldsQ.fn q q q q q (f75_c) Lw) (aP q q q) q q (Rq 2 q (WQ.nil ⟨[_,_,_,_,_,_],q,q,q⟩)))
 exact Rq 6 q (WQ.nil ⟨[_,_,_,_,_,_],q,q,q⟩)
 refine Rq 1 q ?_
 apply WQ.or 5 (t:=37) (d:=42)
 exact q
 intro y
 exact Rq 3 q (WQ.qy (jM (λx:Int=>Value.int .i64 x) (λx:Bool=>AV.d (.b x)) a (z:=false) underlying48 underlying3 (KeyF.int .i64) q q q kR q) q q q (Rq 1 q (WQ.nil ⟨[_,_,_,_,_],q,q,q⟩)))
 exact Rq 5 q (WQ.nil ⟨[_,_,_,_,_],q,q,q⟩)
 refine Rq 1 q ?_
 obtain⟨m,g,h⟩:=ac h
 apply WQ.grp 12 (t:=43) (d:=55) (z:=m)
 exact q
 intro e
 have h:=gc g e
 refine Rq 12 q ?_
 obtain rfl:=Oi h
 exact WQ.nil ⟨[_,_,_,_,_,_,_,_,_,_,_,_],q,q,q⟩
 intro e
 have h:=gd g e
 refine Rq 5 q ?_
 obtain⟨A,j,h⟩:=ac h
 refine WQ.qy (az e27 q Zl q (aq j) (aV fS j) q) q q q (Rq 3 q (WQ.q (YieldsQ.fn q q q q q (f89_c) Lw) (aP q q q) q q (Rq 2 q ?_)))
 obtain rfl:=Oi h
 exact WQ.nil ⟨[_,_,_,_,_,_,_,_,_,_,_,_],q,q,q⟩
 refine Rq 1 q ?_
 apply WQ.or 4 (t:=56) (d:=60)
 exact q
 intro B
 exact Rq 4 q (WQ.nil ⟨[_,_,_,_],q,q,q⟩)
 exact Rq 4 q (WQ.nil ⟨[_,_,_,_],q,q,q⟩)
 refine Rq 1 q ?_
 apply WQ.or 4 (t:=61) (d:=65)
 exact q
 intro C
 exact Rq 4 q (WQ.nil ⟨[_,_,_,_],q,q,q⟩)
 exact Rq 4 q (WQ.nil ⟨[_,_,_,_],q,q,q⟩)
 refine WQ.nil (Rxc 1 q (Ci h q (λh=>?_) λh=>?_))
 exact Rcx 12 q (FA h)
 exact Rcl 6 q (WL.s0 (dH (λx:Int=>Value.int .i64 x) (λx:Bool=>AV.d (.b x)) a (.inr q) underlying48 underlying3 (KeyF.int .i64) q q q q) (Zw q) q (Rlx 7 q (WE.drop 1 (env':=[(1, .d (.pc (aF t0))),(3, .mp 0),(14, .l E90 t0.text.loops),(15, .n (List.length t0.text.loops:Int)),(16, .n (IntKind.i64.wrap (c+1)))]) Sb q (iq (n8 _ _ _ _) q) (Nat.zero_le _) (Fn2 h))))
 exact Rcx 4 q (En1 h)
 exact Rcx 6 q (FA h)

theorem f43_c{t0:aC}{a1:Int}{r:Bool}(h:f43 t0 a1=some r):Pu prog 43 [.ag (aF t0), .i .i64 a1] (.b r):=by
 unfold f43 at h
 refine fI func43 λ_ _=>?_
 refine Rcl 2 q (Bd q q (Zs _) q (Rll 7 q (wF Z4 (f75_c) Lw Z3 (Rl 1 q ?_))))
 obtain⟨d,e,h⟩:=ac h
 refine Gg 19 8 27 d e (λh=>?_) (λh=>?_) ?_
 refine Rl 4 q ?_
 obtain⟨j,a,h⟩:=ac h
 refine Zy (az e27 q Zl q (aq a) (aV fS a) q) q q q (Rl 4 q ?_)
 obtain⟨f,g,h⟩:=ac h
 refine Gg 9 17 26 f g (λh=>?_) (λh=>?_) ?_
 exact On 9 9 h
 refine Rl 4 q ?_
 obtain⟨k,c,h⟩:=ac h
 exact Zy (az e27 q Zl q (aq c) (aV fS c) q) q q q (On 4 9 h)
 exact On 1 11 h
 exact On 19 19 h
 exact Rlx 4 q (FA h)

theorem f57_c{t0:aC}{r:Bool}(h:f57 t0=some r):Pu prog 57 [.ag (aF t0)] (.b r):=by
 unfold f57 at h
 refine fI func57 λ_ _=>?_
 refine Rcl 2 q (Bd q q (Zs _) q (Rlc 8 q (Jn0 [] [] h (λe h=>?_) λh=>?_)))
 refine Rcl 5 q (Zq (aa E79 t0.text.checks e36 q q Zl) q (Rlc 4 q (Ln2 (λc a=> [(1, .d (.pc (aF t0))),(3, .n c),(8, .l E79 t0.text.checks),(9, .n (List.length t0.text.checks:Int)),(10, .n a)]) (λ_ _=> []) (f57_l1 t0 e) h (λ_ _ h=>by rw[f57_l1] at h;cases h) λn c a h=>?_)))
 rw[f57_l1] at h
 refine Rcc 6 q (Ci h q (λh=>?_) λh=>?_)
 refine Rcl 6 q (Ix h e36 r6 q Zl q q λf _ h=>(Rl 1 q (Al z79 q (sS Z6 s79 Z2 (Rll 10 q ?_)))))
 obtain⟨g,j,h⟩:=ac h
 refine Gg 6 18 24 g j (λh=>?_) (λh=>?_) ?_
 exact On 6 6 h
 refine Rl 3 q ?_
 obtain⟨m,k,h⟩:=ac h
 exact WL.fn q q q q (f43_c k) Lw (aP q q q) q q (On 2 6 h)
 refine Rl 1 q ?_
 refine OG 4 25 29 4 4 ?_
 refine Rl 1 q ?_
 refine OG 4 30 34 4 4 ?_
 refine Rlc 2 q (Ci h q (λh=>Rcx 12 q (FA h)) λh=>?_)
 exact Rcx 13 q (WE.drop 0 (env':=[(1, .d (.pc (aF t0))),(3, .n f.at_),(8, .l E79 t0.text.checks),(9, .n (List.length t0.text.checks:Int)),(10, .n (IntKind.i64.wrap (a+1)))]) Sb q q (Nat.zero_le _) (Fn2 h))
 exact Rcx 4 q (En0 h)
 exact Rcx 6 q (FA h)

theorem f90_c(s0:lN)(a:cQ→oB)(g1:FuncId)(c e:lD)(g:∀(y0:cQ)(r:Bool),a y0=some r→Pu prog g1 (c++ [.ag (R45 y0)]++e) (.b r)){r:Int}(h:f90 s0 a=some r):Pu prog 90 [.sl (List.map E45 s0), .fnc (.func g1) c e] (.i .i64 r):=by
 unfold f90 at h
 refine fI func90 λ_ _=>?_
 refine WC.cast 1 q (d2 _ _ _) (Rcc 5 q (Jn0 [] [] h (λj h=>?_) λh=>?_))
 refine Rcl 3 q (Zq (aa E45 s0 e27 q q Zl) q (Rlc 4 q (Ln1 (λf=> [(0, .l E45 s0),(1, .fn (.func g1) (List.map AV.d c) (List.map AV.d e)),(7, .n (List.length s0:Int)),(8, .n f)]) (λ_=> []) (f90_l1 s0 a j) h (λ_ h=>by rw[f90_l1] at h;cases h) λn f h=>?_)))
 rw[f90_l1] at h
 refine Rcc 6 q (Ci h q (λh=>?_) λh=>?_)
 refine Rcl 15 q (Ix h e27 fS q Zl q q λm _ h=>(Rl 1 q ?_))
 obtain⟨o,k,h⟩:=ac h
 refine WL.fn q q q q (g _ _ k) (jC Lw) (Zw q) q q (Rlc 2 q (Ci h q (λh=>?_) λh=>?_))
 exact Rcx 12 q (FA h)
 exact Rcx 7 q (Fn1 h)
 exact Rcx 4 q (En0 h)
 exact Rcx 6 q (FA h)

theorem f58_c(s0:lN)(d:cQ→oB)(g1:FuncId)(a c:lD)(e:∀(y0:cQ)(r:Bool),d y0=some r→Pu prog g1 (a++ [.ag (R45 y0)]++c) (.b r)){r:Bool}(h:f58 s0 d=some r):Pu prog 58 [.sl (List.map E45 s0), .fnc (.func g1) a c] (.b r):=by
 unfold f58 at h
 refine fI func58 λ_ _=>?_
 refine WC.cast 1 q (d2 _ _ _) (Rcl 9 q ?_)
 obtain⟨g,f,h⟩:=ac h
 exact wF Z4 (f90_c _ _ g1 a c e f) ⟨Zl,(Le.fnc (Zs _) (Zs _)),Zt⟩ Z3 (Rlx 5 q (FA h))

theorem f118_c{o0:Int}{r:fN×Bool}(h:f118 o0=some r):Pu prog 118 [.i .u8 o0] (.tu [.ag (rW r.1), .b r.2]):=by
 unfold f118 at h
 refine fI func118 λ_ _=>?_
 refine Rcl 2 q (Al o8 q (Rll 9 q ?_))
 refine OG 4 6 10 4 4 ?_
 refine Rlc 2 q (Ci h q (λh=>?_) λh=>?_)
 refine Rcl 2 q (Zq (aU p200 o8 q q) q (sS Z6 mW Z2 (Rlx 5 q ?_)))
 obtain rfl:=Oi h
 exact au (rs2 q (bp q q a200 mW q) (bj q)) (fQ ⟨(ay (Zs _)),Zl,Zt⟩)
 refine Rcl 6 q ?_
 obtain⟨c,a,h⟩:=ac h
 refine Zq (qU (R:=rW) e9 (λ_=>q) ar230 (congrArg (Option.map λps=>AV.d (.pc ps)) jk) q q a) q (Rl 1 q (sS Z6 mW Z2 (Rlx 4 q ?_)))
 obtain rfl:=Oi h
 exact au (rs2 q (bp q q a200 mW q) (bj q)) (fQ ⟨(ay (Zs _)),Zl,Zt⟩)

theorem f147_c{s0:ByteArray}{r:List ByteArray}(h:f147 s0=some r):Pu prog 147 [.s s0] (.sl (List.map E9 r)):=by
 unfold f147 at h
 refine fI func147 λ_ _=>?_
 refine Rcc 20 q (Jn2 (λc setBits109=> [(0, .d (D.s s0)),(3, .n c),(5, .d (D.i .u8 setBits109))]) (λ_ _=> []) h (λF h=>?_) λc setBits109 h=>?_)
 refine Rcc 6 q (Ln4 (λj wasSpace116 setBits117 m=> [(0, .d (D.s s0)),(3, .n j),(4, .n wasSpace116),(5, .d (D.i .u8 setBits117)),(6, .n m)]) (λ_ _ _ _=> []) (f147_l1 s0 F) h (λ_ _ _ _ h=>by rw[f147_l1] at h;cases h) λn j wasSpace116 setBits117 m h=>?_)
 rw[f147_l1] at h
 refine Rcl 5 q (Zq (cr underlying9 q q) q (Rlc 3 q (Ci h q (λh=>?_) λh=>?_)))
 refine Rcl 8 q ?_
 obtain⟨ad,G,h⟩:=ac h
 refine Zq (bi underlying9 q q G) q (Rll 7 q (Zq (qW q q q) q (Rll 6 q ?_)))
 obtain⟨ag,H,h⟩:=ac h
 exact Zq (lz (E:=D.i .u8) bH mA q q q H) q (Rll 10 q (Zq (y_com q q) q (Zq (qH q q q) q (Rlx 15 q (Fn4 h)))))
 exact Rcx 4 q (En2 h)
 refine Rcc 7 q (Ci h q (λh=>?_) λh=>?_)
 refine Rcc 1 q ?_
 cases h
 refine Rcl 5 q ?_
 replace h:=gt h
 obtain⟨I,h⟩:=h
 refine WL.s ((NewOs.b (NewOs.cast (f' l232 z9 q (Nat.succ_pos _) q q I) (by exact gD (R:=E9) (z:=(ByteArray.empty:ByteArray)) q))).does) (Zw q) q q (Rlc 18 q (Jn1 (λo=> [(0, .d (D.s s0)),(9, .os 0 0),(10, .n 0),(12, .n o)]) (λ_=> [.os 9 1 0 (eM E9 (List.replicate (Int.toNat c) (ByteArray.empty:ByteArray)))]) h (λJ h=>?_) λo h=>?_))
 refine Rcc 1 q (Ln1 (λp=> [(0, .d (D.s s0)),(9, .os 0 0),(10, .n 0),(12, .n p)]) (λ_=> [.os 9 1 0 (eM E9 (List.replicate (Int.toNat c) (ByteArray.empty:ByteArray)))]) (f147_l2 s0 J) h (λ_ h=>by rw[f147_l2] at h;cases h) λn p h=>?_)
 rw[f147_l2] at h
 refine Rcl 5 q (Zq (cr underlying9 q q) q (Rl 2 q ?_))
 obtain⟨K,L,h⟩:=ac h
 refine Gg 7 46 53 K L (λh=>?_) (λh=>?_) ?_
 refine Rl 2 q ?_
 obtain⟨ax,M,h⟩:=ac h
 refine Zy (bi underlying9 q q M) q q q ?_
 obtain⟨a0,N,h⟩:=ac h
 exact Zy (lz (E:=D.i .u8) bH mA q q q N) q q q (On 3 7 h)
 exact On 7 7 h
 exact Rlc 2 q (Ci h q (λh=>Rcx 9 q (Fn1 h)) λh=>Rcx 4 q (En1 h))
 refine Rcc 6 q (Jn3 (λf fieldStart135 _=> [(0, .d (D.s s0)),(9, .os 0 0),(10, .n f),(11, .n fieldStart135)]) (λ_ _ t=> [.os 9 1 0 (eM E9 t)]) h (λO h=>?_) λf fieldStart135 t h=>?_)
 refine Rcc 1 q (Ln4 (λa fieldStart143 w _=> [(0, .d (D.s s0)),(9, .os 0 0),(10, .n a),(11, .n fieldStart143),(12, .n w)]) (λ_ _ _ e=> [.os 9 1 0 (eM E9 e)]) (f147_l3 s0 O) h (λ_ _ _ _ h=>by rw[f147_l3] at h;cases h) λn a fieldStart143 w e h=>?_)
 rw[f147_l3] at h
 refine Rcl 5 q (Zq (cr underlying9 q q) q (Rlc 3 q (Ci h q (λh=>?_) λh=>?_)))
 refine Rcl 8 q ?_
 obtain⟨a1,P,h⟩:=ac h
 refine Zq (bi underlying9 q q P) q ?_
 obtain⟨a6,Q,h⟩:=ac h
 refine Zq (lz (E:=D.i .u8) bH mA q q q Q) q (Rlc 4 q (Ci h q (λh=>?_) λh=>?_))
 exact Rcx 10 q (Fn4 h)
 refine Rcl 9 q ?_
 obtain⟨g,S,h⟩:=ac h
 refine Zq (qV underlying9 q q q S) q ?_
 obtain⟨a7,x,h⟩:=ac h
 refine Zq (y_pe qs q q q x) q (WL.s0 (gb (R:=E9) (k:=1) (i:=a) (fo:=0) g q q q q Zl q q q s9 q (λ_=>q) x q q) (Zw q) q (Rlc 16 q (Jn1 (λy=> [(0, .d (D.s s0)),(9, .os 0 0),(10, .n (IntKind.i64.wrap (a+1))),(12, .n y)]) (λ_=> [.os 9 1 0 (eM E9 (List.set e (Int.toNat a) g))]) h (λT h=>?_) λy h=>?_)))
 refine Rcc 1 q (Ln1 (λA=> [(0, .d (D.s s0)),(9, .os 0 0),(10, .n (IntKind.i64.wrap (a+1))),(12, .n A)]) (λ_=> [.os 9 1 0 (eM E9 (List.set e (Int.toNat a) g))]) (f147_l4 s0 T) h (λ_ h=>by rw[f147_l4] at h;cases h) λna A h=>?_)
 rw[f147_l4] at h
 refine Rcl 5 q (Zq (cr underlying9 q q) q (Rl 2 q ?_))
 obtain⟨U,V,h⟩:=ac h
 refine Gg 7 84 91 U V (λh=>?_) (λh=>?_) ?_
 refine Rl 2 q ?_
 obtain⟨a',W,h⟩:=ac h
 refine Zy (bi underlying9 q q W) q q q ?_
 obtain⟨bb,X,h⟩:=ac h
 exact Zy (lz (E:=D.i .u8) bH mA q q q X) q q q (On 3 7 h)
 exact On 7 7 h
 exact Rlc 2 q (Ci h q (λh=>Rcx 9 q (Fn1 h)) λh=>Rcx 4 q (En1 h))
 exact Rcx 5 q (Fn4 h)
 exact Rcx 4 q (En3 h)
 refine Jn1 (λ_=> [(9, .os 0 0)]) (λB=> [.os 9 1 0 (eM E9 B)]) h (λ_ h=>?_) (λB h=>?_)
 refine Rcl 4 q (Zq (cr underlying9 q q) q (Rlc 3 q (Ci h q (λh=>?_) λh=>?_)))
 refine Rcl 5 q ?_
 obtain⟨Y,Z,h⟩:=ac h
 refine Zq (pa underlying9 q q Z) q ?_
 obtain⟨bk,C,h⟩:=ac h
 exact Zq (y_pe qs q q q C) q (WL.s0 (gb (R:=E9) (k:=1) (i:=f) (fo:=0) Y q q q q Zl q q q s9 q (λ_=>q) C q q) (Zw q) q (Rlx 1 q (En1 h)))
 exact Rcx 1 q (En1 h)
 refine Rcx 7 q ?_
 exact WE.freezeX [9,105,2] [] 0 _ q (dF qR _) ⟨q,q,q,Zt⟩ Zt (FA h)

theorem f150_c{a:Int}:Pu prog 150 [.i .u8 a] (.tu [.i .i64 (f150 a).1, .i .i64 (f150 a).2]):=by
 generalize h:f150 a=r
 unfold f150 at h
 refine fI func150 λ_ _=>?_
 refine Rcc 19 q (Ci h q (λh=>Rcx 9 q (FB h)) λh=>?_)
 refine Rcc 6 q (Ci h q (λh=>Rcx 9 q (FB h)) λh=>?_)
 refine Rcc 6 q (Ci h q (λh=>Rcx 9 q (FB h)) λh=>?_)
 refine Rcc 6 q (Ci h q (λh=>Rcx 9 q (FB h)) λh=>?_)
 refine Rcc 6 q (Ci h q (λh=>Rcx 9 q (FB h)) λh=>?_)
 refine Rcc 6 q (Ci h q (λh=>Rcx 9 q (FB h)) λh=>?_)
 refine Rcc 6 q (Ci h q (λh=>Rcx 9 q (FB h)) λh=>?_)
 refine Rcc 6 q (Ci h q (λh=>Rcx 9 q (FB h)) λh=>?_)
 refine Rcc 6 q (Ci h q (λh=>Rcx 9 q (FB h)) λh=>?_)
 refine Rcc 6 q (Ci h q (λh=>Rcx 9 q (FB h)) λh=>?_)
 refine Rcc 6 q (Ci h q (λh=>Rcx 9 q (FB h)) λh=>?_)
 exact Rcc 6 q (Ci h q (λh=>Rcx 9 q (FB h)) λh=>Rcx 10 q (FB h))

theorem f91_c{x0:cQ}{r:Bool}(h:f91 x0=some r):Pu prog 91 [.ag (R45 x0)] (.b r):=by
 unfold f91 at h
 refine fI func91 λ_ _=>?_
 refine Rcl 2 q (Bd q q (Zs _) q (Al z4 q (Rll 7 q ?_)))
 obtain⟨c,Q,h⟩:=ac h
 refine wF Z4 (f118_c Q) Lw Z3 (Rl 3 q (Al o8 q (sS Z6 mW Z2 (Rll 8 q ?_))))
 apply WL.or 11 (t:=16) (d:=27)
 exact q
 intro gs
 refine Rl 4 q ?_
 refine AG 6 20 26 6 6 ?_
 exact Rn 1 6
 exact Rn 11 11
 refine Rlc 2 q (Ci h q (λh=>?_) λh=>?_)
 refine Rcl 2 q (sS Z6 s4 Z2 (Rlx 4 q ?_))
 obtain rfl:=Oi h
 exact au (rs1 q (ia q q a4 q)) Zl
 refine Rcl 9 q ?_
 refine AG 5 31 36 5 5 ?_
 refine Rl 1 q ?_
 refine AG 4 37 41 4 4 ?_
 refine Rlc 2 q (Ci h q (λh=>?_) λh=>?_)
 refine Rcl 2 q (sS Z6 s4 Z2 (Rlx 4 q ?_))
 obtain rfl:=Oi h
 exact au (rs1 q (ia q q a4 q)) Zl
 refine Rcl 5 q (Al z45 q (sS Z6 s45 Z2 (Rlc 2 q (Jn8 (λ_ _ _ _ _ _ _ _=> [(1, .d (.pc (R45 x0))),(2, .pt 0 0),(5, .pt 2 0)]) (λc21v69 c22v70 c23v71 c24v72 c25v73 c26v74 c50v75 c51v76=> [.row 4 [.d (D.b false)], .row 200 [.d (D.s c.1.name), .d (D.s c.1.fields)], .row 45 [.d (D.i .u8 x0.op), .n c21v69, .n c22v70, .n c23v71, .n c24v72, .n c25v73, .n c26v74], .row 207 [.pt 2 0], .z, .row 200 [.d (D.s c50v75), .d (D.s c51v76)]]) h (λ_ h=>?_) λc21v69 c22v70 c23v71 c24v72 c25v73 c26v74 c50v75 c51v76 h=>?_))))
 refine Rcl 2 q ?_
 obtain⟨R,S,h⟩:=aA h
 refine WL.inl (us:=[.pt 2 0]) (λrv st'=>(R ()=some r∧Le rv (.fn (.func 146) [] [.pt 3 0])∧SLe st' [.row 4 [.d (D.b false)], .row 200 [.d (D.s c.1.name), .d (D.s c.1.fields)], .row 45 [.d (D.i .u8 x0.op), .n x0.d, .n x0.a, .n x0.b, .n x0.n, .n x0.m, .n x0.to], .row 207 [.pt 2 0]])) q q q q q ?_ (Zw q) q q ?_
 refine cI func119 λ_ _ _ _=>?_
 exact Rcl 2 q (Bx q q q (Rlx 10 q (ao (rs1 q (bj q)) ⟨h,Zl,⟨Zp,Zp,Zp,Zp,Zt⟩⟩)))
 rintro rv st1 ⟨h,hr,hst⟩
 subst S
 dsimp only at h
 refine WL.cast 43 q hr (WL.weak hst (Zn (Rcc 1 q ?_)))
 obtain⟨J,T,h⟩:=aA h
 obtain⟨K,U,h⟩:=aA h
 obtain⟨L,V,h⟩:=aA h
 obtain⟨M,W,h⟩:=aA h
 obtain⟨N,X,h⟩:=aA h
 obtain⟨O,Y,h⟩:=aA h
 obtain⟨P,Z,h⟩:=aA h
 refine nG (us:=[.yl 4, .pt 3 0]) [2] 4 (λf rv st'=>(∃(c21v81:Int),∃(c22v82:Int),∃(c23v83:Int),∃(c24v84:Int),∃(c25v85:Int),∃(c26v86:Int),∃(c50v87:ByteArray),∃(c51v88:ByteArray),∃(c62v89:Int),∃(c63v90:Int),∃(c92v91:Int),∃(c93v92:Int),J c21v81 c22v82 c23v83 c24v84 c25v85 c26v86 c50v87 c51v88 c62v89 c63v90 c92v91 c93v92=some r∧SLe st' [.row 4 [.d (D.b false)], .row 200 [.d (D.s c.1.name), .d (D.s c.1.fields)], .row 45 [.d (D.i .u8 x0.op), .n c21v81, .n c22v82, .n c23v83, .n c24v84, .n c25v85, .n c26v86], .row 207 [.pt 2 0], .lp f [.pt 0 0] .done (some .ret), .row 200 [.d (D.s c50v87), .d (D.s c51v88)], .row 210 [.fn (.func 169) [] [.pt 7 0], .fn (.func 170) [] [.pt 7 0], .n c62v89, .n c63v90], .row 235 [.pt 2 1], .row 210 [.fn (.func 169) [] [.pt 7 0], .fn (.func 170) [] [.pt 7 0], .n 0, .n 0], .row 210 [.fn (.func 169) [] [.pt 7 0], .fn (.func 170) [] [.pt 7 0], .n c92v91, .n c93v92]])∨(∃(c21v94:Int),∃(c22v95:Int),∃(c23v96:Int),∃(c24v97:Int),∃(c25v98:Int),∃(c26v99:Int),∃(c50v100:ByteArray),∃(c51v101:ByteArray),∃(c62v102:Int),∃(c63v103:Int),∃(c92v104:Int),∃(c93v105:Int),K c21v94 c22v95 c23v96 c24v97 c25v98 c26v99 c50v100 c51v101 c62v102 c63v103 c92v104 c93v105=some r∧SLe st' [.row 4 [.d (D.b false)], .row 200 [.d (D.s c.1.name), .d (D.s c.1.fields)], .row 45 [.d (D.i .u8 x0.op), .n c21v94, .n c22v95, .n c23v96, .n c24v97, .n c25v98, .n c26v99], .row 207 [.pt 2 0], .lp f [.pt 0 0] .done (some .ret), .row 200 [.d (D.s c50v100), .d (D.s c51v101)], .row 210 [.fn (.func 169) [] [.pt 7 0], .fn (.func 170) [] [.pt 7 0], .n c62v102, .n c63v103], .row 235 [.pt 2 2], .row 210 [.fn (.func 169) [] [.pt 7 0], .fn (.func 170) [] [.pt 7 0], .n 0, .n 0], .row 210 [.fn (.func 169) [] [.pt 7 0], .fn (.func 170) [] [.pt 7 0], .n c92v104, .n c93v105]])∨(∃(c21v107:Int),∃(c22v108:Int),∃(c23v109:Int),∃(c24v110:Int),∃(c25v111:Int),∃(c26v112:Int),∃(c50v113:ByteArray),∃(c51v114:ByteArray),∃(c62v115:Int),∃(c63v116:Int),∃(c92v117:Int),∃(c93v118:Int),L c21v107 c22v108 c23v109 c24v110 c25v111 c26v112 c50v113 c51v114 c62v115 c63v116 c92v117 c93v118=some r∧SLe st' [.row 4 [.d (D.b false)], .row 200 [.d (D.s c.1.name), .d (D.s c.1.fields)], .row 45 [.d (D.i .u8 x0.op), .n c21v107, .n c22v108, .n c23v109, .n c24v110, .n c25v111, .n c26v112], .row 207 [.pt 2 0], .lp f [.pt 0 0] .done (some .ret), .row 200 [.d (D.s c50v113), .d (D.s c51v114)], .row 210 [.fn (.func 169) [] [.pt 7 0], .fn (.func 170) [] [.pt 7 0], .n c62v115, .n c63v116], .row 235 [.pt 2 3], .row 210 [.fn (.func 169) [] [.pt 7 0], .fn (.func 170) [] [.pt 7 0], .n 0, .n 0], .row 210 [.fn (.func 169) [] [.pt 7 0], .fn (.func 170) [] [.pt 7 0], .n c92v117, .n c93v118]])∨(∃(c21v120:Int),∃(c22v121:Int),∃(c23v122:Int),∃(c24v123:Int),∃(c25v124:Int),∃(c26v125:Int),∃(c50v126:ByteArray),∃(c51v127:ByteArray),∃(c62v128:Int),∃(c63v129:Int),∃(c92v130:Int),∃(c93v131:Int),M c21v120 c22v121 c23v122 c24v123 c25v124 c26v125 c50v126 c51v127 c62v128 c63v129 c92v130 c93v131=some r∧SLe st' [.row 4 [.d (D.b false)], .row 200 [.d (D.s c.1.name), .d (D.s c.1.fields)], .row 45 [.d (D.i .u8 x0.op), .n c21v120, .n c22v121, .n c23v122, .n c24v123, .n c25v124, .n c26v125], .row 207 [.pt 2 0], .lp f [.pt 0 0] .done (some .ret), .row 200 [.d (D.s c50v126), .d (D.s c51v127)], .row 210 [.fn (.func 171) [] [.pt 7 0], .fn (.func 172) [] [.pt 7 0], .n c62v128, .n c63v129], .row 237 [.pt 2 4], .row 210 [.fn (.func 171) [] [.pt 7 0], .fn (.func 172) [] [.pt 7 0], .n 0, .n 0], .row 210 [.fn (.func 171) [] [.pt 7 0], .fn (.func 172) [] [.pt 7 0], .n c92v130, .n c93v131]])∨(∃(c21v133:Int),∃(c22v134:Int),∃(c23v135:Int),∃(c24v136:Int),∃(c25v137:Int),∃(c26v138:Int),∃(c50v139:ByteArray),∃(c51v140:ByteArray),∃(c62v141:Int),∃(c63v142:Int),∃(c92v143:Int),∃(c93v144:Int),N c21v133 c22v134 c23v135 c24v136 c25v137 c26v138 c50v139 c51v140 c62v141 c63v142 c92v143 c93v144=some r∧SLe st' [.row 4 [.d (D.b false)], .row 200 [.d (D.s c.1.name), .d (D.s c.1.fields)], .row 45 [.d (D.i .u8 x0.op), .n c21v133, .n c22v134, .n c23v135, .n c24v136, .n c25v137, .n c26v138], .row 207 [.pt 2 0], .lp f [.pt 0 0] .done (some .ret), .row 200 [.d (D.s c50v139), .d (D.s c51v140)], .row 210 [.fn (.func 171) [] [.pt 7 0], .fn (.func 172) [] [.pt 7 0], .n c62v141, .n c63v142], .row 237 [.pt 2 5], .row 210 [.fn (.func 171) [] [.pt 7 0], .fn (.func 172) [] [.pt 7 0], .n 0, .n 0], .row 210 [.fn (.func 171) [] [.pt 7 0], .fn (.func 172) [] [.pt 7 0], .n c92v143, .n c93v144]])∨(∃(c21v146:Int),∃(c22v147:Int),∃(c23v148:Int),∃(c24v149:Int),∃(c25v150:Int),∃(c26v151:Int),∃(c50v152:ByteArray),∃(c51v153:ByteArray),∃(c62v154:Int),∃(c63v155:Int),∃(c92v156:Int),∃(c93v157:Int),O c21v146 c22v147 c23v148 c24v149 c25v150 c26v151 c50v152 c51v153 c62v154 c63v155 c92v156 c93v157=some r∧SLe st' [.row 4 [.d (D.b false)], .row 200 [.d (D.s c.1.name), .d (D.s c.1.fields)], .row 45 [.d (D.i .u8 x0.op), .n c21v146, .n c22v147, .n c23v148, .n c24v149, .n c25v150, .n c26v151], .row 207 [.pt 2 0], .lp f [.pt 0 0] .done (some .ret), .row 200 [.d (D.s c50v152), .d (D.s c51v153)], .row 210 [.fn (.func 169) [] [.pt 7 0], .fn (.func 170) [] [.pt 7 0], .n c62v154, .n c63v155], .row 235 [.pt 2 6], .row 210 [.fn (.func 169) [] [.pt 7 0], .fn (.func 170) [] [.pt 7 0], .n 0, .n 0], .row 210 [.fn (.func 169) [] [.pt 7 0], .fn (.func 170) [] [.pt 7 0], .n c92v156, .n c93v157]])∨(∃(c21v159:Int),∃(c22v160:Int),∃(c23v161:Int),∃(c24v162:Int),∃(c25v163:Int),∃(c26v164:Int),∃(c50v165:ByteArray),∃(c51v166:ByteArray),P c21v159 c22v160 c23v161 c24v162 c25v163 c26v164 c50v165 c51v166=some r∧SLe st' [.row 4 [.d (D.b false)], .row 200 [.d (D.s c.1.name), .d (D.s c.1.fields)], .row 45 [.d (D.i .u8 x0.op), .n c21v159, .n c22v160, .n c23v161, .n c24v162, .n c25v163, .n c26v164], .row 207 [.pt 2 0], .lp f [.pt 0 0] .ready none, .row 200 [.d (D.s c50v165), .d (D.s c51v166)]])) q q q q q (λf A=>?_) ?_
 refine cI func146 λ_ _ _ B=>?_
 refine Rcl 6 q ?_
 obtain⟨e,ad,h⟩:=ac h
 refine wF Z4 (f118_c ad) Lw Z3 (Rl 3 q (Al o8 q (sS Z6 mW Z2 (Rll 7 q ?_))))
 obtain⟨x,ax,h⟩:=ac h
 refine wF Z4 (f147_c ax) Lw Z3 (Zq (aa E9 x qs q q Zl) q (Rlc 4 q (Ln7 (λy _ _ _ _ _ _=> [(0, .yl 4),(1, .pt 3 0),(18, .l E9 x),(19, .n (List.length x:Int)),(20, .n y)]) (λ_ c21v178 c22v179 c23v180 c24v181 c25v182 c26v183=> [.row 4 [.d (D.b false)], .row 200 [.d (D.s c.1.name), .d (D.s c.1.fields)], .row 45 [.d (D.i .u8 x0.op), .n c21v178, .n c22v179, .n c23v180, .n c24v181, .n c25v182, .n c26v183], .row 207 [.pt 2 0], .lp f [.pt 0 0] .ready none, .row 200 [.d (D.s e.1.name), .d (D.s e.1.fields)]]) (f91_l1 J K L M N O P e x) h (λ_ _ _ _ _ _ _ h=>by rw[f91_l1] at h;cases h) λn y c21v178 c22v179 c23v180 c24v181 c25v182 c26v183 h=>?_)))
 rw[f91_l1] at h
 refine Rcc 6 q (Ci h q (λh=>?_) λh=>?_)
 refine Rcl 6 q (Ix h qs qR q Zl q q λgx _ h=>(Rll 6 q (Al cY q (Rll 6 q ?_))))
 obtain⟨g0,a0,h⟩:=ac h
 refine Zq (bi underlying9 q q a0) q (Rlc 9 q (Ci h q (λh=>?_) λh=>?_))
 refine Rcl 4 q ?_
 obtain⟨a1,a6,h⟩:=aA h
 refine WL.inl (us:=[.pt 2 1]) (λrv st'=>(a1 ()=some r∧Le rv (.ag [.fn (.func 169) [] [.pt 7 0], .fn (.func 170) [] [.pt 7 0], .n 0, .n 0])∧SLe st' [.row 4 [.d (D.b false)], .row 200 [.d (D.s c.1.name), .d (D.s c.1.fields)], .row 45 [.d (D.i .u8 x0.op), .n c21v178, .n c22v179, .n c23v180, .n c24v181, .n c25v182, .n c26v183], .row 207 [.pt 2 0], .lp f [.pt 0 0] .ready none, .row 200 [.d (D.s e.1.name), .d (D.s e.1.fields)], .row 210 [.d (.v .nilFunc), .d (.v .nilFunc), .n 0, .n 0], .row 235 [.pt 2 1], .row 210 [.fn (.func 169) [] [.pt 7 0], .fn (.func 170) [] [.pt 7 0], .n 0, .n 0]])) q q q q q ?_ (Zw q) q q ?_
 refine cI func148 λ_ _ _ _=>?_
 exact Rcl 2 q (Bx q q q (Al cY q (Rll 6 q (Zq (aU mZ cY q q) q (sS Z6 ce Z2 (Rlx 3 q (ao (rs1 q (bp q q nk ce q)) ⟨h,Zl,⟨Zp,Zp,Zp,Zp,⟨q,Zs _,q,q⟩,Zp,Zp,Zp,Zp,Zt⟩⟩)))))))
 rintro rv st1 ⟨h,hr,hst⟩
 subst a6
 dsimp only at h
 refine WL.cast 35 q hr (WL.weak hst (sS Z6 ce Z2 (WL.nil (Rxl 5 q ?_))))
 obtain⟨g,a7,h⟩:=ac h
 refine Zq (bi underlying9 q q a7) q (wF Z4 (f150_c) Lw Z3 (Rl 4 q (sS Z6 s2 Z2 (Rl 1 q (sS Z6 s2 Z2 (Rll 6 q ?_))))))
 obtain⟨a',bb,h⟩:=aA h
 obtain⟨bk,bs,h⟩:=aA h
 refine WL.yield (env0:=[(44, .ag [.fn (.func 169) [] [.pt 7 0], .fn (.func 170) [] [.pt 7 0], .n ((f150 g).1), .n ((f150 g).2)]),(2, .pt 0 0)]) (λrv st'=>(a' ()=some r∧rv= .d (.v (.bool false))∧SLe st' [.row 4 [.d (D.b false)], .row 200 [.d (D.s c.1.name), .d (D.s c.1.fields)], .row 45 [.d (D.i .u8 x0.op), .n c21v178, .n c22v179, .n c23v180, .n c24v181, .n c25v182, .n c26v183], .row 207 [.pt 2 0], .lp f [.pt 0 0] .done (some .ret), .row 200 [.d (D.s e.1.name), .d (D.s e.1.fields)], .row 210 [.fn (.func 169) [] [.pt 7 0], .fn (.func 170) [] [.pt 7 0], .n ((f150 g).1), .n ((f150 g).2)], .row 235 [.pt 2 1], .row 210 [.fn (.func 169) [] [.pt 7 0], .fn (.func 170) [] [.pt 7 0], .n 0, .n 0], .row 210 [.fn (.func 169) [] [.pt 7 0], .fn (.func 170) [] [.pt 7 0], .n ((f150 g).1), .n ((f150 g).2)]])∨(bk ()=some r∧rv= .d (.v (.bool true))∧SLe st' [.row 4 [.d (D.b false)], .row 200 [.d (D.s c.1.name), .d (D.s c.1.fields)], .row 45 [.d (D.i .u8 x0.op), .n 0, .n c22v179, .n c23v180, .n c24v181, .n c25v182, .n c26v183], .row 207 [.pt 2 0], .lp f [.pt 0 0] .ready none, .row 200 [.d (D.s e.1.name), .d (D.s e.1.fields)], .row 210 [.fn (.func 169) [] [.pt 7 0], .fn (.func 170) [] [.pt 7 0], .n ((f150 g).1), .n ((f150 g).2)], .row 235 [.pt 2 1], .row 210 [.fn (.func 169) [] [.pt 7 0], .fn (.func 170) [] [.pt 7 0], .n 0, .n 0], .row 210 [.fn (.func 169) [] [.pt 7 0], .fn (.func 170) [] [.pt 7 0], .n ((f150 g).1), .n ((f150 g).2)]])) A q q q q q q q (λee hn C g1=>?_) (Zw q) q q ?_
 obtain⟨em,eφ,ew,en,er⟩:=ee
 subst hn
 refine Rcl 1 q (Al cY q (sS Z6 ce Z2 (Rlx 1 q (eB C q (Rcl 6 q ?_)))))
 obtain⟨b0,b1,h⟩:=aA h
 refine WL.inl (us:=[.pt 7 0]) (λrv st'=>(b0 ()=some r∧Le rv (.n c21v178)∧SLe st' [.row 4 [.d (D.b false)], .row 200 [.d (D.s c.1.name), .d (D.s c.1.fields)], .row 45 [.d (D.i .u8 x0.op), .n c21v178, .n c22v179, .n c23v180, .n c24v181, .n c25v182, .n c26v183], .row 207 [.pt 2 0], .lp f [.pt 0 0] .busy none, .row 200 [.d (D.s e.1.name), .d (D.s e.1.fields)], .row 210 [.fn (.func 169) [] [.pt 7 0], .fn (.func 170) [] [.pt 7 0], .n ((f150 g).1), .n ((f150 g).2)], .row 235 [.pt 2 1], .row 210 [.fn (.func 169) [] [.pt 7 0], .fn (.func 170) [] [.pt 7 0], .n 0, .n 0], .row 210 [.fn (.func 169) [] [.pt 7 0], .fn (.func 170) [] [.pt 7 0], .n ((f150 g).1), .n ((f150 g).2)]])) q q q q q ?_ (Zw q) q q ?_
 refine cI func169 λ_ _ _ _=>?_
 exact Rcx 14 q (ao (rs1 q (bj q)) ⟨h,Zl,⟨Zp,Zp,Zp,Zp,⟨q,Zs _,q,q⟩,Zp,Zp,Zp,Zp,Zp,Zt⟩⟩)
 rintro rv st1 ⟨h,hr,hst⟩
 subst b1
 dsimp only at h
 refine WL.cast 47 q hr (WL.weak hst (Rl 1 q (Zn (Rcl 7 q ?_))))
 refine OG 5 52 57 5 5 ?_
 refine Rlc 2 q (Ci h q (λh=>?_) λh=>?_)
 exact Rcl 2 q (sS Z6 s4 Z2 (Rlx 5 q (bq C q (.inl ⟨h,q,⟨Zp,Zp,Zp,Zp,⟨q,Zs _,q,q⟩,Zp,Zp,Zp,Zp,Zp,Zt⟩⟩))))
 refine Rcl 5 q ?_
 obtain⟨b2,b3,h⟩:=aA h
 refine WL.inl (us:=[.n 0, .pt 7 0]) (λrv st'=>(b2 ()=some r∧Le rv (.tu [])∧SLe st' [.row 4 [.d (D.b false)], .row 200 [.d (D.s c.1.name), .d (D.s c.1.fields)], .row 45 [.d (D.i .u8 x0.op), .n 0, .n c22v179, .n c23v180, .n c24v181, .n c25v182, .n c26v183], .row 207 [.pt 2 0], .lp f [.pt 0 0] .busy none, .row 200 [.d (D.s e.1.name), .d (D.s e.1.fields)], .row 210 [.fn (.func 169) [] [.pt 7 0], .fn (.func 170) [] [.pt 7 0], .n ((f150 g).1), .n ((f150 g).2)], .row 235 [.pt 2 1], .row 210 [.fn (.func 169) [] [.pt 7 0], .fn (.func 170) [] [.pt 7 0], .n 0, .n 0], .row 210 [.fn (.func 169) [] [.pt 7 0], .fn (.func 170) [] [.pt 7 0], .n ((f150 g).1), .n ((f150 g).2)]])) q q q q q ?_ (Zw q) q q ?_
 refine cI func170 λ_ _ _ _=>?_
 exact Rcl 4 q (sS Z6 s3 Z2 (Rlx 1 q (dq (ao (eE q) ⟨h,Zl,⟨Zp,Zp,Zp,Zp,⟨q,Zs _,q,q⟩,Zp,Zp,Zp,Zp,Zp,Zt⟩⟩))))
 rintro rv st1 ⟨h,hr,hst⟩
 subst b3
 dsimp only at h
 exact WL.cast 60 q hr (WL.weak hst (WL.nil (Rxx 1 q (c9 C q (.inr (⟨h,q,⟨Zp,Zp,Zp,Zp,⟨q,Zs _,q,q⟩,Zp,Zp,Zp,Zp,Zp,Zt⟩⟩))))))
 rintro rv st1 (⟨h,rfl,hst⟩|⟨h,rfl,hst⟩)
 subst bb
 dsimp only at h
 exact WL.weak hst (Rl 1 q (Zn (bo q (Rcx 5 q (ao (eE q) (.inl ⟨c21v178,c22v179,c23v180,c24v181,c25v182,c26v183,e.1.name,e.1.fields,((f150 g).1),((f150 g).2),((f150 g).1),((f150 g).2),h,⟨Zp,Zp,Zp,Zp,⟨q,Zs _,q,q⟩,Zp,Zp,Zp,Zp,Zp,Zt⟩⟩))))))
 subst bs
 dsimp only at h
 exact WL.weak hst (Rl 1 q (Zn (cu q (Rcx 7 q (WE.drop 6 (env':=[(0, .yl 4),(1, .pt 3 0),(18, .l E9 x),(19, .n (List.length x:Int)),(20, .n (IntKind.i64.wrap (y+1)))]) Sb q q (Nat.le_trans (Nat.le_of_eq B) (nbT q)) (Fn7 h))))))
 refine Rcc 6 q (Ci h q (λh=>?_) λh=>?_)
 refine Rcl 4 q ?_
 obtain⟨b',ca,h⟩:=aA h
 refine WL.inl (us:=[.pt 2 2]) (λrv st'=>(b' ()=some r∧Le rv (.ag [.fn (.func 169) [] [.pt 7 0], .fn (.func 170) [] [.pt 7 0], .n 0, .n 0])∧SLe st' [.row 4 [.d (D.b false)], .row 200 [.d (D.s c.1.name), .d (D.s c.1.fields)], .row 45 [.d (D.i .u8 x0.op), .n c21v178, .n c22v179, .n c23v180, .n c24v181, .n c25v182, .n c26v183], .row 207 [.pt 2 0], .lp f [.pt 0 0] .ready none, .row 200 [.d (D.s e.1.name), .d (D.s e.1.fields)], .row 210 [.d (.v .nilFunc), .d (.v .nilFunc), .n 0, .n 0], .row 235 [.pt 2 2], .row 210 [.fn (.func 169) [] [.pt 7 0], .fn (.func 170) [] [.pt 7 0], .n 0, .n 0]])) q q q q q ?_ (Zw q) q q ?_
 refine cI func148 λ_ _ _ _=>?_
 exact Rcl 2 q (Bx q q q (Al cY q (Rll 6 q (Zq (aU mZ cY q q) q (sS Z6 ce Z2 (Rlx 3 q (ao (rs1 q (bp q q nk ce q)) ⟨h,Zl,⟨Zp,Zp,Zp,Zp,⟨q,Zs _,q,q⟩,Zp,Zp,Zp,Zp,Zt⟩⟩)))))))
 rintro rv st1 ⟨h,hr,hst⟩
 subst ca
 dsimp only at h
 refine WL.cast 41 q hr (WL.weak hst (sS Z6 ce Z2 (WL.nil (Rxl 5 q ?_))))
 obtain⟨j,cc,h⟩:=ac h
 refine Zq (bi underlying9 q q cc) q (wF Z4 (f150_c) Lw Z3 (Rl 4 q (sS Z6 s2 Z2 (Rl 1 q (sS Z6 s2 Z2 (Rll 6 q ?_))))))
 obtain⟨cd,ci,h⟩:=aA h
 obtain⟨cj,cl,h⟩:=aA h
 refine WL.yield (env0:=[(44, .ag [.fn (.func 169) [] [.pt 7 0], .fn (.func 170) [] [.pt 7 0], .n ((f150 j).1), .n ((f150 j).2)]),(2, .pt 0 0)]) (λrv st'=>(cd ()=some r∧rv= .d (.v (.bool false))∧SLe st' [.row 4 [.d (D.b false)], .row 200 [.d (D.s c.1.name), .d (D.s c.1.fields)], .row 45 [.d (D.i .u8 x0.op), .n c21v178, .n c22v179, .n c23v180, .n c24v181, .n c25v182, .n c26v183], .row 207 [.pt 2 0], .lp f [.pt 0 0] .done (some .ret), .row 200 [.d (D.s e.1.name), .d (D.s e.1.fields)], .row 210 [.fn (.func 169) [] [.pt 7 0], .fn (.func 170) [] [.pt 7 0], .n ((f150 j).1), .n ((f150 j).2)], .row 235 [.pt 2 2], .row 210 [.fn (.func 169) [] [.pt 7 0], .fn (.func 170) [] [.pt 7 0], .n 0, .n 0], .row 210 [.fn (.func 169) [] [.pt 7 0], .fn (.func 170) [] [.pt 7 0], .n ((f150 j).1), .n ((f150 j).2)]])∨(cj ()=some r∧rv= .d (.v (.bool true))∧SLe st' [.row 4 [.d (D.b false)], .row 200 [.d (D.s c.1.name), .d (D.s c.1.fields)], .row 45 [.d (D.i .u8 x0.op), .n c21v178, .n 0, .n c23v180, .n c24v181, .n c25v182, .n c26v183], .row 207 [.pt 2 0], .lp f [.pt 0 0] .ready none, .row 200 [.d (D.s e.1.name), .d (D.s e.1.fields)], .row 210 [.fn (.func 169) [] [.pt 7 0], .fn (.func 170) [] [.pt 7 0], .n ((f150 j).1), .n ((f150 j).2)], .row 235 [.pt 2 2], .row 210 [.fn (.func 169) [] [.pt 7 0], .fn (.func 170) [] [.pt 7 0], .n 0, .n 0], .row 210 [.fn (.func 169) [] [.pt 7 0], .fn (.func 170) [] [.pt 7 0], .n ((f150 j).1), .n ((f150 j).2)]])) A q q q q q q q (λee hn E g2=>?_) (Zw q) q q ?_
 obtain⟨em,eφ,ew,en,er⟩:=ee
 subst hn
 refine Rcl 1 q (Al cY q (sS Z6 ce Z2 (Rlx 1 q (eB E q (Rcl 6 q ?_)))))
 obtain⟨cp,cx,h⟩:=aA h
 refine WL.inl (us:=[.pt 7 0]) (λrv st'=>(cp ()=some r∧Le rv (.n c22v179)∧SLe st' [.row 4 [.d (D.b false)], .row 200 [.d (D.s c.1.name), .d (D.s c.1.fields)], .row 45 [.d (D.i .u8 x0.op), .n c21v178, .n c22v179, .n c23v180, .n c24v181, .n c25v182, .n c26v183], .row 207 [.pt 2 0], .lp f [.pt 0 0] .busy none, .row 200 [.d (D.s e.1.name), .d (D.s e.1.fields)], .row 210 [.fn (.func 169) [] [.pt 7 0], .fn (.func 170) [] [.pt 7 0], .n ((f150 j).1), .n ((f150 j).2)], .row 235 [.pt 2 2], .row 210 [.fn (.func 169) [] [.pt 7 0], .fn (.func 170) [] [.pt 7 0], .n 0, .n 0], .row 210 [.fn (.func 169) [] [.pt 7 0], .fn (.func 170) [] [.pt 7 0], .n ((f150 j).1), .n ((f150 j).2)]])) q q q q q ?_ (Zw q) q q ?_
 refine cI func169 λ_ _ _ _=>?_
 exact Rcx 14 q (ao (rs1 q (bj q)) ⟨h,Zl,⟨Zp,Zp,Zp,Zp,⟨q,Zs _,q,q⟩,Zp,Zp,Zp,Zp,Zp,Zt⟩⟩)
 rintro rv st1 ⟨h,hr,hst⟩
 subst cx
 dsimp only at h
 refine WL.cast 47 q hr (WL.weak hst (Rl 1 q (Zn (Rcl 7 q ?_))))
 refine OG 5 52 57 5 5 ?_
 refine Rlc 2 q (Ci h q (λh=>?_) λh=>?_)
 exact Rcl 2 q (sS Z6 s4 Z2 (Rlx 5 q (bq E q (.inl ⟨h,q,⟨Zp,Zp,Zp,Zp,⟨q,Zs _,q,q⟩,Zp,Zp,Zp,Zp,Zp,Zt⟩⟩))))
 refine Rcl 5 q ?_
 obtain⟨c0,c1,h⟩:=aA h
 refine WL.inl (us:=[.n 0, .pt 7 0]) (λrv st'=>(c0 ()=some r∧Le rv (.tu [])∧SLe st' [.row 4 [.d (D.b false)], .row 200 [.d (D.s c.1.name), .d (D.s c.1.fields)], .row 45 [.d (D.i .u8 x0.op), .n c21v178, .n 0, .n c23v180, .n c24v181, .n c25v182, .n c26v183], .row 207 [.pt 2 0], .lp f [.pt 0 0] .busy none, .row 200 [.d (D.s e.1.name), .d (D.s e.1.fields)], .row 210 [.fn (.func 169) [] [.pt 7 0], .fn (.func 170) [] [.pt 7 0], .n ((f150 j).1), .n ((f150 j).2)], .row 235 [.pt 2 2], .row 210 [.fn (.func 169) [] [.pt 7 0], .fn (.func 170) [] [.pt 7 0], .n 0, .n 0], .row 210 [.fn (.func 169) [] [.pt 7 0], .fn (.func 170) [] [.pt 7 0], .n ((f150 j).1), .n ((f150 j).2)]])) q q q q q ?_ (Zw q) q q ?_
 refine cI func170 λ_ _ _ _=>?_
 exact Rcl 4 q (sS Z6 s3 Z2 (Rlx 1 q (dq (ao (eE q) ⟨h,Zl,⟨Zp,Zp,Zp,Zp,⟨q,Zs _,q,q⟩,Zp,Zp,Zp,Zp,Zp,Zt⟩⟩))))
 rintro rv st1 ⟨h,hr,hst⟩
 subst c1
 dsimp only at h
 exact WL.cast 60 q hr (WL.weak hst (WL.nil (Rxx 1 q (c9 E q (.inr (⟨h,q,⟨Zp,Zp,Zp,Zp,⟨q,Zs _,q,q⟩,Zp,Zp,Zp,Zp,Zp,Zt⟩⟩))))))
 rintro rv st1 (⟨h,rfl,hst⟩|⟨h,rfl,hst⟩)
 subst ci
 dsimp only at h
 exact WL.weak hst (Rl 1 q (Zn (bo q (Rcx 5 q (ao (eE q) (.inr (.inl ⟨c21v178,c22v179,c23v180,c24v181,c25v182,c26v183,e.1.name,e.1.fields,((f150 j).1),((f150 j).2),((f150 j).1),((f150 j).2),h,⟨Zp,Zp,Zp,Zp,⟨q,Zs _,q,q⟩,Zp,Zp,Zp,Zp,Zp,Zt⟩⟩)))))))
 subst cl
 dsimp only at h
 exact WL.weak hst (Rl 1 q (Zn (cu q (Rcx 7 q (WE.drop 6 (env':=[(0, .yl 4),(1, .pt 3 0),(18, .l E9 x),(19, .n (List.length x:Int)),(20, .n (IntKind.i64.wrap (y+1)))]) Sb q q (Nat.le_trans (Nat.le_of_eq B) (nbT q)) (Fn7 h))))))
 refine Rcc 6 q (Ci h q (λh=>?_) λh=>?_)
 refine Rcl 4 q ?_
 obtain⟨c2,c3,h⟩:=aA h
 refine WL.inl (us:=[.pt 2 3]) (λrv st'=>(c2 ()=some r∧Le rv (.ag [.fn (.func 169) [] [.pt 7 0], .fn (.func 170) [] [.pt 7 0], .n 0, .n 0])∧SLe st' [.row 4 [.d (D.b false)], .row 200 [.d (D.s c.1.name), .d (D.s c.1.fields)], .row 45 [.d (D.i .u8 x0.op), .n c21v178, .n c22v179, .n c23v180, .n c24v181, .n c25v182, .n c26v183], .row 207 [.pt 2 0], .lp f [.pt 0 0] .ready none, .row 200 [.d (D.s e.1.name), .d (D.s e.1.fields)], .row 210 [.d (.v .nilFunc), .d (.v .nilFunc), .n 0, .n 0], .row 235 [.pt 2 3], .row 210 [.fn (.func 169) [] [.pt 7 0], .fn (.func 170) [] [.pt 7 0], .n 0, .n 0]])) q q q q q ?_ (Zw q) q q ?_
 refine cI func148 λ_ _ _ _=>?_
 exact Rcl 2 q (Bx q q q (Al cY q (Rll 6 q (Zq (aU mZ cY q q) q (sS Z6 ce Z2 (Rlx 3 q (ao (rs1 q (bp q q nk ce q)) ⟨h,Zl,⟨Zp,Zp,Zp,Zp,⟨q,Zs _,q,q⟩,Zp,Zp,Zp,Zp,Zt⟩⟩)))))))
 rintro rv st1 ⟨h,hr,hst⟩
 subst c3
 dsimp only at h
 refine WL.cast 47 q hr (WL.weak hst (sS Z6 ce Z2 (WL.nil (Rxl 5 q ?_))))
 obtain⟨k,c4,h⟩:=ac h
 refine Zq (bi underlying9 q q c4) q (wF Z4 (f150_c) Lw Z3 (Rl 4 q (sS Z6 s2 Z2 (Rl 1 q (sS Z6 s2 Z2 (Rll 6 q ?_))))))
 obtain⟨c5,c6,h⟩:=aA h
 obtain⟨c7,c8,h⟩:=aA h
 refine WL.yield (env0:=[(44, .ag [.fn (.func 169) [] [.pt 7 0], .fn (.func 170) [] [.pt 7 0], .n ((f150 k).1), .n ((f150 k).2)]),(2, .pt 0 0)]) (λrv st'=>(c5 ()=some r∧rv= .d (.v (.bool false))∧SLe st' [.row 4 [.d (D.b false)], .row 200 [.d (D.s c.1.name), .d (D.s c.1.fields)], .row 45 [.d (D.i .u8 x0.op), .n c21v178, .n c22v179, .n c23v180, .n c24v181, .n c25v182, .n c26v183], .row 207 [.pt 2 0], .lp f [.pt 0 0] .done (some .ret), .row 200 [.d (D.s e.1.name), .d (D.s e.1.fields)], .row 210 [.fn (.func 169) [] [.pt 7 0], .fn (.func 170) [] [.pt 7 0], .n ((f150 k).1), .n ((f150 k).2)], .row 235 [.pt 2 3], .row 210 [.fn (.func 169) [] [.pt 7 0], .fn (.func 170) [] [.pt 7 0], .n 0, .n 0], .row 210 [.fn (.func 169) [] [.pt 7 0], .fn (.func 170) [] [.pt 7 0], .n ((f150 k).1), .n ((f150 k).2)]])∨(c7 ()=some r∧rv= .d (.v (.bool true))∧SLe st' [.row 4 [.d (D.b false)], .row 200 [.d (D.s c.1.name), .d (D.s c.1.fields)], .row 45 [.d (D.i .u8 x0.op), .n c21v178, .n c22v179, .n 0, .n c24v181, .n c25v182, .n c26v183], .row 207 [.pt 2 0], .lp f [.pt 0 0] .ready none, .row 200 [.d (D.s e.1.name), .d (D.s e.1.fields)], .row 210 [.fn (.func 169) [] [.pt 7 0], .fn (.func 170) [] [.pt 7 0], .n ((f150 k).1), .n ((f150 k).2)], .row 235 [.pt 2 3], .row 210 [.fn (.func 169) [] [.pt 7 0], .fn (.func 170) [] [.pt 7 0], .n 0, .n 0], .row 210 [.fn (.func 169) [] [.pt 7 0], .fn (.func 170) [] [.pt 7 0], .n ((f150 k).1), .n ((f150 k).2)]])) A q q q q q q q (λee hn F g3=>?_) (Zw q) q q ?_
 obtain⟨em,eφ,ew,en,er⟩:=ee
 subst hn
 refine Rcl 1 q (Al cY q (sS Z6 ce Z2 (Rlx 1 q (eB F q (Rcl 6 q ?_)))))
 obtain⟨c',dd,h⟩:=aA h
 refine WL.inl (us:=[.pt 7 0]) (λrv st'=>(c' ()=some r∧Le rv (.n c23v180)∧SLe st' [.row 4 [.d (D.b false)], .row 200 [.d (D.s c.1.name), .d (D.s c.1.fields)], .row 45 [.d (D.i .u8 x0.op), .n c21v178, .n c22v179, .n c23v180, .n c24v181, .n c25v182, .n c26v183], .row 207 [.pt 2 0], .lp f [.pt 0 0] .busy none, .row 200 [.d (D.s e.1.name), .d (D.s e.1.fields)], .row 210 [.fn (.func 169) [] [.pt 7 0], .fn (.func 170) [] [.pt 7 0], .n ((f150 k).1), .n ((f150 k).2)], .row 235 [.pt 2 3], .row 210 [.fn (.func 169) [] [.pt 7 0], .fn (.func 170) [] [.pt 7 0], .n 0, .n 0], .row 210 [.fn (.func 169) [] [.pt 7 0], .fn (.func 170) [] [.pt 7 0], .n ((f150 k).1), .n ((f150 k).2)]])) q q q q q ?_ (Zw q) q q ?_
 refine cI func169 λ_ _ _ _=>?_
 exact Rcx 14 q (ao (rs1 q (bj q)) ⟨h,Zl,⟨Zp,Zp,Zp,Zp,⟨q,Zs _,q,q⟩,Zp,Zp,Zp,Zp,Zp,Zt⟩⟩)
 rintro rv st1 ⟨h,hr,hst⟩
 subst dd
 dsimp only at h
 refine WL.cast 47 q hr (WL.weak hst (Rl 1 q (Zn (Rcl 7 q ?_))))
 refine OG 5 52 57 5 5 ?_
 refine Rlc 2 q (Ci h q (λh=>?_) λh=>?_)
 exact Rcl 2 q (sS Z6 s4 Z2 (Rlx 5 q (bq F q (.inl ⟨h,q,⟨Zp,Zp,Zp,Zp,⟨q,Zs _,q,q⟩,Zp,Zp,Zp,Zp,Zp,Zt⟩⟩))))
 refine Rcl 5 q ?_
 obtain⟨df,dk,h⟩:=aA h
 refine WL.inl (us:=[.n 0, .pt 7 0]) (λrv st'=>(df ()=some r∧Le rv (.tu [])∧SLe st' [.row 4 [.d (D.b false)], .row 200 [.d (D.s c.1.name), .d (D.s c.1.fields)], .row 45 [.d (D.i .u8 x0.op), .n c21v178, .n c22v179, .n 0, .n c24v181, .n c25v182, .n c26v183], .row 207 [.pt 2 0], .lp f [.pt 0 0] .busy none, .row 200 [.d (D.s e.1.name), .d (D.s e.1.fields)], .row 210 [.fn (.func 169) [] [.pt 7 0], .fn (.func 170) [] [.pt 7 0], .n ((f150 k).1), .n ((f150 k).2)], .row 235 [.pt 2 3], .row 210 [.fn (.func 169) [] [.pt 7 0], .fn (.func 170) [] [.pt 7 0], .n 0, .n 0], .row 210 [.fn (.func 169) [] [.pt 7 0], .fn (.func 170) [] [.pt 7 0], .n ((f150 k).1), .n ((f150 k).2)]])) q q q q q ?_ (Zw q) q q ?_
 refine cI func170 λ_ _ _ _=>?_
 exact Rcl 4 q (sS Z6 s3 Z2 (Rlx 1 q (dq (ao (eE q) ⟨h,Zl,⟨Zp,Zp,Zp,Zp,⟨q,Zs _,q,q⟩,Zp,Zp,Zp,Zp,Zp,Zt⟩⟩))))
 rintro rv st1 ⟨h,hr,hst⟩
 subst dk
 dsimp only at h
 exact WL.cast 60 q hr (WL.weak hst (WL.nil (Rxx 1 q (c9 F q (.inr (⟨h,q,⟨Zp,Zp,Zp,Zp,⟨q,Zs _,q,q⟩,Zp,Zp,Zp,Zp,Zp,Zt⟩⟩))))))
 rintro rv st1 (⟨h,rfl,hst⟩|⟨h,rfl,hst⟩)
 subst c6
 dsimp only at h
 exact WL.weak hst (Rl 1 q (Zn (bo q (Rcx 5 q (ao (eE q) (.inr (.inr (.inl ⟨c21v178,c22v179,c23v180,c24v181,c25v182,c26v183,e.1.name,e.1.fields,((f150 k).1),((f150 k).2),((f150 k).1),((f150 k).2),h,⟨Zp,Zp,Zp,Zp,⟨q,Zs _,q,q⟩,Zp,Zp,Zp,Zp,Zp,Zt⟩⟩))))))))
 subst c8
 dsimp only at h
 exact WL.weak hst (Rl 1 q (Zn (cu q (Rcx 7 q (WE.drop 6 (env':=[(0, .yl 4),(1, .pt 3 0),(18, .l E9 x),(19, .n (List.length x:Int)),(20, .n (IntKind.i64.wrap (y+1)))]) Sb q q (Nat.le_trans (Nat.le_of_eq B) (nbT q)) (Fn7 h))))))
 refine Rcc 6 q (Ci h q (λh=>?_) λh=>?_)
 refine Rcl 4 q ?_
 obtain⟨ds,dS,h⟩:=aA h
 refine WL.inl (us:=[.pt 2 4]) (λrv st'=>(ds ()=some r∧Le rv (.ag [.fn (.func 171) [] [.pt 7 0], .fn (.func 172) [] [.pt 7 0], .n 0, .n 0])∧SLe st' [.row 4 [.d (D.b false)], .row 200 [.d (D.s c.1.name), .d (D.s c.1.fields)], .row 45 [.d (D.i .u8 x0.op), .n c21v178, .n c22v179, .n c23v180, .n c24v181, .n c25v182, .n c26v183], .row 207 [.pt 2 0], .lp f [.pt 0 0] .ready none, .row 200 [.d (D.s e.1.name), .d (D.s e.1.fields)], .row 210 [.d (.v .nilFunc), .d (.v .nilFunc), .n 0, .n 0], .row 237 [.pt 2 4], .row 210 [.fn (.func 171) [] [.pt 7 0], .fn (.func 172) [] [.pt 7 0], .n 0, .n 0]])) q q q q q ?_ (Zw q) q q ?_
 refine cI func149 λ_ _ _ _=>?_
 exact Rcl 2 q (Bx q q q (Al cY q (Rll 6 q (Zq (aU mZ cY q q) q (sS Z6 ce Z2 (Rlx 3 q (ao (rs1 q (bp q q nk ce q)) ⟨h,Zl,⟨Zp,Zp,Zp,Zp,⟨q,Zs _,q,q⟩,Zp,Zp,Zp,Zp,Zt⟩⟩)))))))
 rintro rv st1 ⟨h,hr,hst⟩
 subst dS
 dsimp only at h
 refine WL.cast 53 q hr (WL.weak hst (sS Z6 ce Z2 (WL.nil (Rxl 5 q ?_))))
 obtain⟨o,d0,h⟩:=ac h
 refine Zq (bi underlying9 q q d0) q (wF Z4 (f150_c) Lw Z3 (Rl 4 q (sS Z6 s2 Z2 (Rl 1 q (sS Z6 s2 Z2 (Rll 6 q ?_))))))
 obtain⟨d1,d',h⟩:=aA h
 obtain⟨el,eq,h⟩:=aA h
 refine WL.yield (env0:=[(44, .ag [.fn (.func 171) [] [.pt 7 0], .fn (.func 172) [] [.pt 7 0], .n ((f150 o).1), .n ((f150 o).2)]),(2, .pt 0 0)]) (λrv st'=>(d1 ()=some r∧rv= .d (.v (.bool false))∧SLe st' [.row 4 [.d (D.b false)], .row 200 [.d (D.s c.1.name), .d (D.s c.1.fields)], .row 45 [.d (D.i .u8 x0.op), .n c21v178, .n c22v179, .n c23v180, .n c24v181, .n c25v182, .n c26v183], .row 207 [.pt 2 0], .lp f [.pt 0 0] .done (some .ret), .row 200 [.d (D.s e.1.name), .d (D.s e.1.fields)], .row 210 [.fn (.func 171) [] [.pt 7 0], .fn (.func 172) [] [.pt 7 0], .n ((f150 o).1), .n ((f150 o).2)], .row 237 [.pt 2 4], .row 210 [.fn (.func 171) [] [.pt 7 0], .fn (.func 172) [] [.pt 7 0], .n 0, .n 0], .row 210 [.fn (.func 171) [] [.pt 7 0], .fn (.func 172) [] [.pt 7 0], .n ((f150 o).1), .n ((f150 o).2)]])∨(el ()=some r∧rv= .d (.v (.bool true))∧SLe st' [.row 4 [.d (D.b false)], .row 200 [.d (D.s c.1.name), .d (D.s c.1.fields)], .row 45 [.d (D.i .u8 x0.op), .n c21v178, .n c22v179, .n c23v180, .n 0, .n c25v182, .n c26v183], .row 207 [.pt 2 0], .lp f [.pt 0 0] .ready none, .row 200 [.d (D.s e.1.name), .d (D.s e.1.fields)], .row 210 [.fn (.func 171) [] [.pt 7 0], .fn (.func 172) [] [.pt 7 0], .n ((f150 o).1), .n ((f150 o).2)], .row 237 [.pt 2 4], .row 210 [.fn (.func 171) [] [.pt 7 0], .fn (.func 172) [] [.pt 7 0], .n 0, .n 0], .row 210 [.fn (.func 171) [] [.pt 7 0], .fn (.func 172) [] [.pt 7 0], .n ((f150 o).1), .n ((f150 o).2)]])) A q q q q q q q (λee hn G g4=>?_) (Zw q) q q ?_
 obtain⟨em,eφ,ew,en,er⟩:=ee
 subst hn
 refine Rcl 1 q (Al cY q (sS Z6 ce Z2 (Rlx 1 q (eB G q (Rcl 6 q ?_)))))
 obtain⟨es,et,h⟩:=aA h
 refine WL.inl (us:=[.pt 7 0]) (λrv st'=>(es ()=some r∧Le rv (.n c24v181)∧SLe st' [.row 4 [.d (D.b false)], .row 200 [.d (D.s c.1.name), .d (D.s c.1.fields)], .row 45 [.d (D.i .u8 x0.op), .n c21v178, .n c22v179, .n c23v180, .n c24v181, .n c25v182, .n c26v183], .row 207 [.pt 2 0], .lp f [.pt 0 0] .busy none, .row 200 [.d (D.s e.1.name), .d (D.s e.1.fields)], .row 210 [.fn (.func 171) [] [.pt 7 0], .fn (.func 172) [] [.pt 7 0], .n ((f150 o).1), .n ((f150 o).2)], .row 237 [.pt 2 4], .row 210 [.fn (.func 171) [] [.pt 7 0], .fn (.func 172) [] [.pt 7 0], .n 0, .n 0], .row 210 [.fn (.func 171) [] [.pt 7 0], .fn (.func 172) [] [.pt 7 0], .n ((f150 o).1), .n ((f150 o).2)]])) q q q q q ?_ (Zw q) q q ?_
 refine cI func171 λ_ _ _ _=>?_
 exact Rcx 14 q (ao (rs1 q (bj q)) ⟨h,Zl,⟨Zp,Zp,Zp,Zp,⟨q,Zs _,q,q⟩,Zp,Zp,Zp,Zp,Zp,Zt⟩⟩)
 rintro rv st1 ⟨h,hr,hst⟩
 subst et
 dsimp only at h
 refine WL.cast 47 q hr (WL.weak hst (Rl 1 q (Zn (Rcl 7 q ?_))))
 refine OG 5 52 57 5 5 ?_
 refine Rlc 2 q (Ci h q (λh=>?_) λh=>?_)
 exact Rcl 2 q (sS Z6 s4 Z2 (Rlx 5 q (bq G q (.inl ⟨h,q,⟨Zp,Zp,Zp,Zp,⟨q,Zs _,q,q⟩,Zp,Zp,Zp,Zp,Zp,Zt⟩⟩))))
 refine Rcl 5 q ?_
 obtain⟨ex,ey,h⟩:=aA h
 refine WL.inl (us:=[.n 0, .pt 7 0]) (λrv st'=>(ex ()=some r∧Le rv (.tu [])∧SLe st' [.row 4 [.d (D.b false)], .row 200 [.d (D.s c.1.name), .d (D.s c.1.fields)], .row 45 [.d (D.i .u8 x0.op), .n c21v178, .n c22v179, .n c23v180, .n 0, .n c25v182, .n c26v183], .row 207 [.pt 2 0], .lp f [.pt 0 0] .busy none, .row 200 [.d (D.s e.1.name), .d (D.s e.1.fields)], .row 210 [.fn (.func 171) [] [.pt 7 0], .fn (.func 172) [] [.pt 7 0], .n ((f150 o).1), .n ((f150 o).2)], .row 237 [.pt 2 4], .row 210 [.fn (.func 171) [] [.pt 7 0], .fn (.func 172) [] [.pt 7 0], .n 0, .n 0], .row 210 [.fn (.func 171) [] [.pt 7 0], .fn (.func 172) [] [.pt 7 0], .n ((f150 o).1), .n ((f150 o).2)]])) q q q q q ?_ (Zw q) q q ?_
 refine cI func172 λ_ _ _ _=>?_
 exact Rcl 4 q (sS Z6 s2 Z2 (Rlx 1 q (dq (ao (eE q) ⟨h,Zl,⟨Zp,Zp,Zp,Zp,⟨q,Zs _,q,q⟩,Zp,Zp,Zp,Zp,Zp,Zt⟩⟩))))
 rintro rv st1 ⟨h,hr,hst⟩
 subst ey
 dsimp only at h
 exact WL.cast 60 q hr (WL.weak hst (WL.nil (Rxx 1 q (c9 G q (.inr (⟨h,q,⟨Zp,Zp,Zp,Zp,⟨q,Zs _,q,q⟩,Zp,Zp,Zp,Zp,Zp,Zt⟩⟩))))))
 rintro rv st1 (⟨h,rfl,hst⟩|⟨h,rfl,hst⟩)
 subst d'
 dsimp only at h
 exact WL.weak hst (Rl 1 q (Zn (bo q (Rcx 5 q (ao (eE q) (.inr (.inr (.inr (.inl ⟨c21v178,c22v179,c23v180,c24v181,c25v182,c26v183,e.1.name,e.1.fields,((f150 o).1),((f150 o).2),((f150 o).1),((f150 o).2),h,⟨Zp,Zp,Zp,Zp,⟨q,Zs _,q,q⟩,Zp,Zp,Zp,Zp,Zp,Zt⟩⟩)))))))))
 subst eq
 dsimp only at h
 exact WL.weak hst (Rl 1 q (Zn (cu q (Rcx 7 q (WE.drop 6 (env':=[(0, .yl 4),(1, .pt 3 0),(18, .l E9 x),(19, .n (List.length x:Int)),(20, .n (IntKind.i64.wrap (y+1)))]) Sb q q (Nat.le_trans (Nat.le_of_eq B) (nbT q)) (Fn7 h))))))
 refine Rcc 6 q (Ci h q (λh=>?_) λh=>?_)
 refine Rcl 4 q ?_
 obtain⟨e0,e1,h⟩:=aA h
 refine WL.inl (us:=[.pt 2 5]) (λrv st'=>(e0 ()=some r∧Le rv (.ag [.fn (.func 171) [] [.pt 7 0], .fn (.func 172) [] [.pt 7 0], .n 0, .n 0])∧SLe st' [.row 4 [.d (D.b false)], .row 200 [.d (D.s c.1.name), .d (D.s c.1.fields)], .row 45 [.d (D.i .u8 x0.op), .n c21v178, .n c22v179, .n c23v180, .n c24v181, .n c25v182, .n c26v183], .row 207 [.pt 2 0], .lp f [.pt 0 0] .ready none, .row 200 [.d (D.s e.1.name), .d (D.s e.1.fields)], .row 210 [.d (.v .nilFunc), .d (.v .nilFunc), .n 0, .n 0], .row 237 [.pt 2 5], .row 210 [.fn (.func 171) [] [.pt 7 0], .fn (.func 172) [] [.pt 7 0], .n 0, .n 0]])) q q q q q ?_ (Zw q) q q ?_
 refine cI func149 λ_ _ _ _=>?_
 exact Rcl 2 q (Bx q q q (Al cY q (Rll 6 q (Zq (aU mZ cY q q) q (sS Z6 ce Z2 (Rlx 3 q (ao (rs1 q (bp q q nk ce q)) ⟨h,Zl,⟨Zp,Zp,Zp,Zp,⟨q,Zs _,q,q⟩,Zp,Zp,Zp,Zp,Zt⟩⟩)))))))
 rintro rv st1 ⟨h,hr,hst⟩
 subst e1
 dsimp only at h
 refine WL.cast 59 q hr (WL.weak hst (sS Z6 ce Z2 (WL.nil (Rxl 5 q ?_))))
 obtain⟨p,e2,h⟩:=ac h
 refine Zq (bi underlying9 q q e2) q (wF Z4 (f150_c) Lw Z3 (Rl 4 q (sS Z6 s2 Z2 (Rl 1 q (sS Z6 s2 Z2 (Rll 6 q ?_))))))
 obtain⟨e3,e4,h⟩:=aA h
 obtain⟨e5,e6,h⟩:=aA h
 refine WL.yield (env0:=[(44, .ag [.fn (.func 171) [] [.pt 7 0], .fn (.func 172) [] [.pt 7 0], .n ((f150 p).1), .n ((f150 p).2)]),(2, .pt 0 0)]) (λrv st'=>(e3 ()=some r∧rv= .d (.v (.bool false))∧SLe st' [.row 4 [.d (D.b false)], .row 200 [.d (D.s c.1.name), .d (D.s c.1.fields)], .row 45 [.d (D.i .u8 x0.op), .n c21v178, .n c22v179, .n c23v180, .n c24v181, .n c25v182, .n c26v183], .row 207 [.pt 2 0], .lp f [.pt 0 0] .done (some .ret), .row 200 [.d (D.s e.1.name), .d (D.s e.1.fields)], .row 210 [.fn (.func 171) [] [.pt 7 0], .fn (.func 172) [] [.pt 7 0], .n ((f150 p).1), .n ((f150 p).2)], .row 237 [.pt 2 5], .row 210 [.fn (.func 171) [] [.pt 7 0], .fn (.func 172) [] [.pt 7 0], .n 0, .n 0], .row 210 [.fn (.func 171) [] [.pt 7 0], .fn (.func 172) [] [.pt 7 0], .n ((f150 p).1), .n ((f150 p).2)]])∨(e5 ()=some r∧rv= .d (.v (.bool true))∧SLe st' [.row 4 [.d (D.b false)], .row 200 [.d (D.s c.1.name), .d (D.s c.1.fields)], .row 45 [.d (D.i .u8 x0.op), .n c21v178, .n c22v179, .n c23v180, .n c24v181, .n 0, .n c26v183], .row 207 [.pt 2 0], .lp f [.pt 0 0] .ready none, .row 200 [.d (D.s e.1.name), .d (D.s e.1.fields)], .row 210 [.fn (.func 171) [] [.pt 7 0], .fn (.func 172) [] [.pt 7 0], .n ((f150 p).1), .n ((f150 p).2)], .row 237 [.pt 2 5], .row 210 [.fn (.func 171) [] [.pt 7 0], .fn (.func 172) [] [.pt 7 0], .n 0, .n 0], .row 210 [.fn (.func 171) [] [.pt 7 0], .fn (.func 172) [] [.pt 7 0], .n ((f150 p).1), .n ((f150 p).2)]])) A q q q q q q q (λee hn H g5=>?_) (Zw q) q q ?_
 obtain⟨em,eφ,ew,en,er⟩:=ee
 subst hn
 refine Rcl 1 q (Al cY q (sS Z6 ce Z2 (Rlx 1 q (eB H q (Rcl 6 q ?_)))))
 obtain⟨e7,e',h⟩:=aA h
 refine WL.inl (us:=[.pt 7 0]) (λrv st'=>(e7 ()=some r∧Le rv (.n c25v182)∧SLe st' [.row 4 [.d (D.b false)], .row 200 [.d (D.s c.1.name), .d (D.s c.1.fields)], .row 45 [.d (D.i .u8 x0.op), .n c21v178, .n c22v179, .n c23v180, .n c24v181, .n c25v182, .n c26v183], .row 207 [.pt 2 0], .lp f [.pt 0 0] .busy none, .row 200 [.d (D.s e.1.name), .d (D.s e.1.fields)], .row 210 [.fn (.func 171) [] [.pt 7 0], .fn (.func 172) [] [.pt 7 0], .n ((f150 p).1), .n ((f150 p).2)], .row 237 [.pt 2 5], .row 210 [.fn (.func 171) [] [.pt 7 0], .fn (.func 172) [] [.pt 7 0], .n 0, .n 0], .row 210 [.fn (.func 171) [] [.pt 7 0], .fn (.func 172) [] [.pt 7 0], .n ((f150 p).1), .n ((f150 p).2)]])) q q q q q ?_ (Zw q) q q ?_
 refine cI func171 λ_ _ _ _=>?_
 exact Rcx 14 q (ao (rs1 q (bj q)) ⟨h,Zl,⟨Zp,Zp,Zp,Zp,⟨q,Zs _,q,q⟩,Zp,Zp,Zp,Zp,Zp,Zt⟩⟩)
 rintro rv st1 ⟨h,hr,hst⟩
 subst e'
 dsimp only at h
 refine WL.cast 47 q hr (WL.weak hst (Rl 1 q (Zn (Rcl 7 q ?_))))
 refine OG 5 52 57 5 5 ?_
 refine Rlc 2 q (Ci h q (λh=>?_) λh=>?_)
 exact Rcl 2 q (sS Z6 s4 Z2 (Rlx 5 q (bq H q (.inl ⟨h,q,⟨Zp,Zp,Zp,Zp,⟨q,Zs _,q,q⟩,Zp,Zp,Zp,Zp,Zp,Zt⟩⟩))))
 refine Rcl 5 q ?_
 obtain⟨fi,fl,h⟩:=aA h
 refine WL.inl (us:=[.n 0, .pt 7 0]) (λrv st'=>(fi ()=some r∧Le rv (.tu [])∧SLe st' [.row 4 [.d (D.b false)], .row 200 [.d (D.s c.1.name), .d (D.s c.1.fields)], .row 45 [.d (D.i .u8 x0.op), .n c21v178, .n c22v179, .n c23v180, .n c24v181, .n 0, .n c26v183], .row 207 [.pt 2 0], .lp f [.pt 0 0] .busy none, .row 200 [.d (D.s e.1.name), .d (D.s e.1.fields)], .row 210 [.fn (.func 171) [] [.pt 7 0], .fn (.func 172) [] [.pt 7 0], .n ((f150 p).1), .n ((f150 p).2)], .row 237 [.pt 2 5], .row 210 [.fn (.func 171) [] [.pt 7 0], .fn (.func 172) [] [.pt 7 0], .n 0, .n 0], .row 210 [.fn (.func 171) [] [.pt 7 0], .fn (.func 172) [] [.pt 7 0], .n ((f150 p).1), .n ((f150 p).2)]])) q q q q q ?_ (Zw q) q q ?_
 refine cI func172 λ_ _ _ _=>?_
 exact Rcl 4 q (sS Z6 s2 Z2 (Rlx 1 q (dq (ao (eE q) ⟨h,Zl,⟨Zp,Zp,Zp,Zp,⟨q,Zs _,q,q⟩,Zp,Zp,Zp,Zp,Zp,Zt⟩⟩))))
 rintro rv st1 ⟨h,hr,hst⟩
 subst fl
 dsimp only at h
 exact WL.cast 60 q hr (WL.weak hst (WL.nil (Rxx 1 q (c9 H q (.inr (⟨h,q,⟨Zp,Zp,Zp,Zp,⟨q,Zs _,q,q⟩,Zp,Zp,Zp,Zp,Zp,Zt⟩⟩))))))
 rintro rv st1 (⟨h,rfl,hst⟩|⟨h,rfl,hst⟩)
 subst e4
 dsimp only at h
 exact WL.weak hst (Rl 1 q (Zn (bo q (Rcx 5 q (ao (eE q) (.inr (.inr (.inr (.inr (.inl ⟨c21v178,c22v179,c23v180,c24v181,c25v182,c26v183,e.1.name,e.1.fields,((f150 p).1),((f150 p).2),((f150 p).1),((f150 p).2),h,⟨Zp,Zp,Zp,Zp,⟨q,Zs _,q,q⟩,Zp,Zp,Zp,Zp,Zp,Zt⟩⟩))))))))))
 subst e6
 dsimp only at h
 exact WL.weak hst (Rl 1 q (Zn (cu q (Rcx 7 q (WE.drop 6 (env':=[(0, .yl 4),(1, .pt 3 0),(18, .l E9 x),(19, .n (List.length x:Int)),(20, .n (IntKind.i64.wrap (y+1)))]) Sb q q (Nat.le_trans (Nat.le_of_eq B) (nbT q)) (Fn7 h))))))
 refine Rcl 4 q ?_
 obtain⟨fo,fr,h⟩:=aA h
 refine WL.inl (us:=[.pt 2 6]) (λrv st'=>(fo ()=some r∧Le rv (.ag [.fn (.func 169) [] [.pt 7 0], .fn (.func 170) [] [.pt 7 0], .n 0, .n 0])∧SLe st' [.row 4 [.d (D.b false)], .row 200 [.d (D.s c.1.name), .d (D.s c.1.fields)], .row 45 [.d (D.i .u8 x0.op), .n c21v178, .n c22v179, .n c23v180, .n c24v181, .n c25v182, .n c26v183], .row 207 [.pt 2 0], .lp f [.pt 0 0] .ready none, .row 200 [.d (D.s e.1.name), .d (D.s e.1.fields)], .row 210 [.d (.v .nilFunc), .d (.v .nilFunc), .n 0, .n 0], .row 235 [.pt 2 6], .row 210 [.fn (.func 169) [] [.pt 7 0], .fn (.func 170) [] [.pt 7 0], .n 0, .n 0]])) q q q q q ?_ (Zw q) q q ?_
 refine cI func148 λ_ _ _ _=>?_
 exact Rcl 2 q (Bx q q q (Al cY q (Rll 6 q (Zq (aU mZ cY q q) q (sS Z6 ce Z2 (Rlx 3 q (ao (rs1 q (bp q q nk ce q)) ⟨h,Zl,⟨Zp,Zp,Zp,Zp,⟨q,Zs _,q,q⟩,Zp,Zp,Zp,Zp,Zt⟩⟩)))))))
 rintro rv st1 ⟨h,hr,hst⟩
 subst fr
 dsimp only at h
 refine WL.cast 29 q hr (WL.weak hst (sS Z6 ce Z2 (WL.nil (Rxl 5 q ?_))))
 obtain⟨w,fv,h⟩:=ac h
 refine Zq (bi underlying9 q q fv) q (wF Z4 (f150_c) Lw Z3 (Rl 4 q (sS Z6 s2 Z2 (Rl 1 q (sS Z6 s2 Z2 (Rll 6 q ?_))))))
 obtain⟨fz,f0,h⟩:=aA h
 obtain⟨f1,f2,h⟩:=aA h
 refine WL.yield (env0:=[(44, .ag [.fn (.func 169) [] [.pt 7 0], .fn (.func 170) [] [.pt 7 0], .n ((f150 w).1), .n ((f150 w).2)]),(2, .pt 0 0)]) (λrv st'=>(fz ()=some r∧rv= .d (.v (.bool false))∧SLe st' [.row 4 [.d (D.b false)], .row 200 [.d (D.s c.1.name), .d (D.s c.1.fields)], .row 45 [.d (D.i .u8 x0.op), .n c21v178, .n c22v179, .n c23v180, .n c24v181, .n c25v182, .n c26v183], .row 207 [.pt 2 0], .lp f [.pt 0 0] .done (some .ret), .row 200 [.d (D.s e.1.name), .d (D.s e.1.fields)], .row 210 [.fn (.func 169) [] [.pt 7 0], .fn (.func 170) [] [.pt 7 0], .n ((f150 w).1), .n ((f150 w).2)], .row 235 [.pt 2 6], .row 210 [.fn (.func 169) [] [.pt 7 0], .fn (.func 170) [] [.pt 7 0], .n 0, .n 0], .row 210 [.fn (.func 169) [] [.pt 7 0], .fn (.func 170) [] [.pt 7 0], .n ((f150 w).1), .n ((f150 w).2)]])∨(f1 ()=some r∧rv= .d (.v (.bool true))∧SLe st' [.row 4 [.d (D.b false)], .row 200 [.d (D.s c.1.name), .d (D.s c.1.fields)], .row 45 [.d (D.i .u8 x0.op), .n c21v178, .n c22v179, .n c23v180, .n c24v181, .n c25v182, .n 0], .row 207 [.pt 2 0], .lp f [.pt 0 0] .ready none, .row 200 [.d (D.s e.1.name), .d (D.s e.1.fields)], .row 210 [.fn (.func 169) [] [.pt 7 0], .fn (.func 170) [] [.pt 7 0], .n ((f150 w).1), .n ((f150 w).2)], .row 235 [.pt 2 6], .row 210 [.fn (.func 169) [] [.pt 7 0], .fn (.func 170) [] [.pt 7 0], .n 0, .n 0], .row 210 [.fn (.func 169) [] [.pt 7 0], .fn (.func 170) [] [.pt 7 0], .n ((f150 w).1), .n ((f150 w).2)]])) A q q q q q q q (λee hn I g6=>?_) (Zw q) q q ?_
 obtain⟨em,eφ,ew,en,er⟩:=ee
 subst hn
 refine Rcl 1 q (Al cY q (sS Z6 ce Z2 (Rlx 1 q (eB I q (Rcl 6 q ?_)))))
 obtain⟨f4,f9,h⟩:=aA h
 refine WL.inl (us:=[.pt 7 0]) (λrv st'=>(f4 ()=some r∧Le rv (.n c26v183)∧SLe st' [.row 4 [.d (D.b false)], .row 200 [.d (D.s c.1.name), .d (D.s c.1.fields)], .row 45 [.d (D.i .u8 x0.op), .n c21v178, .n c22v179, .n c23v180, .n c24v181, .n c25v182, .n c26v183], .row 207 [.pt 2 0], .lp f [.pt 0 0] .busy none, .row 200 [.d (D.s e.1.name), .d (D.s e.1.fields)], .row 210 [.fn (.func 169) [] [.pt 7 0], .fn (.func 170) [] [.pt 7 0], .n ((f150 w).1), .n ((f150 w).2)], .row 235 [.pt 2 6], .row 210 [.fn (.func 169) [] [.pt 7 0], .fn (.func 170) [] [.pt 7 0], .n 0, .n 0], .row 210 [.fn (.func 169) [] [.pt 7 0], .fn (.func 170) [] [.pt 7 0], .n ((f150 w).1), .n ((f150 w).2)]])) q q q q q ?_ (Zw q) q q ?_
 refine cI func169 λ_ _ _ _=>?_
 exact Rcx 14 q (ao (rs1 q (bj q)) ⟨h,Zl,⟨Zp,Zp,Zp,Zp,⟨q,Zs _,q,q⟩,Zp,Zp,Zp,Zp,Zp,Zt⟩⟩)
 rintro rv st1 ⟨h,hr,hst⟩
 subst f9
 dsimp only at h
 refine WL.cast 47 q hr (WL.weak hst (Rl 1 q (Zn (Rcl 7 q ?_))))
 refine OG 5 52 57 5 5 ?_
 refine Rlc 2 q (Ci h q (λh=>?_) λh=>?_)
 exact Rcl 2 q (sS Z6 s4 Z2 (Rlx 5 q (bq I q (.inl ⟨h,q,⟨Zp,Zp,Zp,Zp,⟨q,Zs _,q,q⟩,Zp,Zp,Zp,Zp,Zp,Zt⟩⟩))))
 refine Rcl 5 q ?_
 obtain⟨gl,gm,h⟩:=aA h
 refine WL.inl (us:=[.n 0, .pt 7 0]) (λrv st'=>(gl ()=some r∧Le rv (.tu [])∧SLe st' [.row 4 [.d (D.b false)], .row 200 [.d (D.s c.1.name), .d (D.s c.1.fields)], .row 45 [.d (D.i .u8 x0.op), .n c21v178, .n c22v179, .n c23v180, .n c24v181, .n c25v182, .n 0], .row 207 [.pt 2 0], .lp f [.pt 0 0] .busy none, .row 200 [.d (D.s e.1.name), .d (D.s e.1.fields)], .row 210 [.fn (.func 169) [] [.pt 7 0], .fn (.func 170) [] [.pt 7 0], .n ((f150 w).1), .n ((f150 w).2)], .row 235 [.pt 2 6], .row 210 [.fn (.func 169) [] [.pt 7 0], .fn (.func 170) [] [.pt 7 0], .n 0, .n 0], .row 210 [.fn (.func 169) [] [.pt 7 0], .fn (.func 170) [] [.pt 7 0], .n ((f150 w).1), .n ((f150 w).2)]])) q q q q q ?_ (Zw q) q q ?_
 refine cI func170 λ_ _ _ _=>?_
 exact Rcl 4 q (sS Z6 s3 Z2 (Rlx 1 q (dq (ao (eE q) ⟨h,Zl,⟨Zp,Zp,Zp,Zp,⟨q,Zs _,q,q⟩,Zp,Zp,Zp,Zp,Zp,Zt⟩⟩))))
 rintro rv st1 ⟨h,hr,hst⟩
 subst gm
 dsimp only at h
 exact WL.cast 60 q hr (WL.weak hst (WL.nil (Rxx 1 q (c9 I q (.inr (⟨h,q,⟨Zp,Zp,Zp,Zp,⟨q,Zs _,q,q⟩,Zp,Zp,Zp,Zp,Zp,Zt⟩⟩))))))
 rintro rv st1 (⟨h,rfl,hst⟩|⟨h,rfl,hst⟩)
 subst f0
 dsimp only at h
 exact WL.weak hst (Rl 1 q (Zn (bo q (Rcx 5 q (ao (eE q) (.inr (.inr (.inr (.inr (.inr (.inl ⟨c21v178,c22v179,c23v180,c24v181,c25v182,c26v183,e.1.name,e.1.fields,((f150 w).1),((f150 w).2),((f150 w).1),((f150 w).2),h,⟨Zp,Zp,Zp,Zp,⟨q,Zs _,q,q⟩,Zp,Zp,Zp,Zp,Zp,Zt⟩⟩)))))))))))
 subst f2
 dsimp only at h
 exact WL.weak hst (Rl 1 q (Zn (cu q (Rcx 7 q (WE.drop 6 (env':=[(0, .yl 4),(1, .pt 3 0),(18, .l E9 x),(19, .n (List.length x:Int)),(20, .n (IntKind.i64.wrap (y+1)))]) Sb q q (Nat.le_trans (Nat.le_of_eq B) (nbT q)) (Fn7 h))))))
 exact Rcx 4 q (dq (ao (eE q) (.inr (.inr (.inr (.inr (.inr (.inr (⟨c21v178,c22v179,c23v180,c24v181,c25v182,c26v183,e.1.name,e.1.fields,h,⟨Zp,Zp,Zp,Zp,⟨q,Zs _,q,q⟩,Zp,Zt⟩⟩)))))))))
 rintro f rv st1 (⟨c21v81,c22v82,c23v83,c24v84,c25v85,c26v86,c50v87,c51v88,c62v89,c63v90,c92v91,c93v92,h,hst⟩|⟨c21v94,c22v95,c23v96,c24v97,c25v98,c26v99,c50v100,c51v101,c62v102,c63v103,c92v104,c93v105,h,hst⟩|⟨c21v107,c22v108,c23v109,c24v110,c25v111,c26v112,c50v113,c51v114,c62v115,c63v116,c92v117,c93v118,h,hst⟩|⟨c21v120,c22v121,c23v122,c24v123,c25v124,c26v125,c50v126,c51v127,c62v128,c63v129,c92v130,c93v131,h,hst⟩|⟨c21v133,c22v134,c23v135,c24v136,c25v137,c26v138,c50v139,c51v140,c62v141,c63v142,c92v143,c93v144,h,hst⟩|⟨c21v146,c22v147,c23v148,c24v149,c25v150,c26v151,c50v152,c51v153,c62v154,c63v155,c92v156,c93v157,h,hst⟩|⟨c21v159,c22v160,c23v161,c24v162,c25v163,c26v164,c50v165,c51v166,h,hst⟩)
 subst T
 dsimp only at h
 refine⟨_,_,_,_,_,hst,q,(by intro h;cases h),?_⟩
 refine Rxx 2 q ?_
 obtain rfl:=Oi h
 exact au (rs1 q (ia q q a4 q)) Zl
 subst U
 dsimp only at h
 refine⟨_,_,_,_,_,hst,q,(by intro h;cases h),?_⟩
 refine Rxx 2 q ?_
 obtain rfl:=Oi h
 exact au (rs1 q (ia q q a4 q)) Zl
 subst V
 dsimp only at h
 refine⟨_,_,_,_,_,hst,q,(by intro h;cases h),?_⟩
 refine Rxx 2 q ?_
 obtain rfl:=Oi h
 exact au (rs1 q (ia q q a4 q)) Zl
 subst W
 dsimp only at h
 refine⟨_,_,_,_,_,hst,q,(by intro h;cases h),?_⟩
 refine Rxx 2 q ?_
 obtain rfl:=Oi h
 exact au (rs1 q (ia q q a4 q)) Zl
 subst X
 dsimp only at h
 refine⟨_,_,_,_,_,hst,q,(by intro h;cases h),?_⟩
 refine Rxx 2 q ?_
 obtain rfl:=Oi h
 exact au (rs1 q (ia q q a4 q)) Zl
 subst Y
 dsimp only at h
 refine⟨_,_,_,_,_,hst,q,(by intro h;cases h),?_⟩
 refine Rxx 2 q ?_
 obtain rfl:=Oi h
 exact au (rs1 q (ia q q a4 q)) Zl
 subst Z
 dsimp only at h
 refine⟨_,_,_,_,_,hst,q,(by intro h;cases h),?_⟩
 exact Rxx 1 q (cD ⟨_,_,_,_,_,_,_,_,h,Sb,Tv⟩)
 refine Rcl 5 q (Zq (aU p45 z45 q q) q (Zq (nC (xs:=[.int .u8 x0.op, .int .i64 c21v69, .int .i64 c22v70, .int .i64 c23v71, .int .i64 c24v72, .int .i64 c25v73, .int .i64 c26v74]) (ys:=[.int .u8 x0.op, .int .i64 0, .int .i64 0, .int .i64 0, .int .i64 0, .int .i64 0, .int .i64 0]) q45 q (ay (Zs _)) q (ay (Zs _)) q q q) q (sS Z6 s4 Z2 (Rlx 3 q ?_))))
 obtain rfl:=Oi h
 exact au (rs1 q (ia q q a4 q)) Zl

theorem f92_c(y0:cQ):Pu prog 92 [.ag (R45 y0)] (.b (f92 y0)):=by
 generalize h:f92 y0=r
 unfold f92 at h
 refine fI func92 λ_ _=>?_
 exact Rcl 2 q (Bd q q (Zs _) q (Rlx 12 q (FB h)))

theorem f93_c{t0:aC}{a:Int}{n2:Int}{r:Int×Bool}(h:f93 t0 a n2=some r):Pu prog 93 [.ag (aF t0), .i .i64 a, .i .i64 n2] (.tu [.i .i64 r.1, .b r.2]):=by
 unfold f93 at h
 refine fI func93 λ_ _=>?_
 refine Rcl 2 q (Bd q q (Zs _) q (Rll 10 q ?_))
 apply WL.or 7 (t:=11) (d:=18)
 exact q
 intro k
 exact Rl 4 q (Zy (aa E57 t0.text.tasks e34 q q Zl) q q q (Rl 2 q (WL.nil ⟨q,[_,_,_,_,_,_,_],q,q,q⟩)))
 exact Rn 7 7
 refine Rl 1 q ?_
 refine OG 3 19 22 3 3 ?_
 refine Rl 1 q ?_
 obtain⟨f,g,h⟩:=ac h
 refine Gg 11 23 34 f g (λh=>?_) (λh=>?_) ?_
 exact On 11 11 h
 refine Rl 5 q ?_
 obtain⟨j,c,h⟩:=ac h
 exact Zy (az e34 q Zl q (aq c) (aV lv c) q) q q q (Rl 2 q (Zy (aa E68 j.entries e55 q q Zl) q q q (On 2 11 h)))
 refine Rlc 2 q (Ci h q (λh=>Rcx 8 q (FA h)) λh=>?_)
 exact Rcl 8 q (Ix h e34 lv q Zl q q λm _ h=>(Rl 3 q (Ix h e55 o7 q Zl q q λe _ h=>(Rl 1 q (Al z68 q (sS Z6 s68 Z2 (Rll 6 q (Zq (aa E3 e.ins e22 q q Zl) q (Rl 2 q (Zq (aa E3 e.outs e22 q q Zl) q (Rlx 7 q (FA h))))))))))))

theorem f94_c{t0:aC}{p1:Int}{n2:Int}{r:Bool}(h:f94 t0 p1 n2=some r):Pu prog 94 [.ag (aF t0), .i .i64 p1, .i .i64 n2] (.b r):=by
 unfold f94 at h
 refine fI func94 λ_ _=>?_
 refine Rcl 2 q (Bd q q (Zs _) q (Rll 8 q ?_))
 apply WL.and 7 (t:=9) (d:=16)
 exact q
 intro g
 exact Rl 4 q (Zy (aa E71 t0.text.prots e35 q q Zl) q q q (Rl 2 q (WL.nil ⟨q,[_,_,_,_,_,_,_],q,q,q⟩)))
 exact Rn 7 7
 refine Rl 1 q ?_
 refine AG 3 17 20 3 3 ?_
 refine Rl 1 q ?_
 obtain⟨c,e,h⟩:=ac h
 refine Gg 11 21 32 c e (λh=>?_) (λh=>?_) ?_
 refine Rl 5 q ?_
 obtain⟨f,a,h⟩:=ac h
 exact Zy (az e35 q Zl q (aq a) (aV o6 a) q) q q q (Rl 2 q (Zy (aa E76 f.barriers e69 q q Zl) q q q (On 2 11 h)))
 exact On 11 11 h
 exact Rlx 4 q (FA h)

theorem f60_c{t0:aC}{x1:cQ}{r:Bool}(h:f60 t0 x1=some r):Pu prog 60 [.ag (aF t0), .ag (R45 x1)] (.b r):=by
 unfold f60 at h
 refine fI func60 λ_ _=>?_
 refine Rcl 2 q (Bd q q (Zs _) q (Bd q q (Zs _) q (Rll 7 q ?_)))
 obtain⟨K,j,h⟩:=ac h
 refine wF Z4 (f91_c j) Lw Z3 (Rlc 3 q (Ci h q (λh=>?_) λh=>?_))
 exact Rcx 7 q (FA h)
 refine Rcc 10 q (Jn1 (λa=> [(2, .d (.pc (aF t0))),(3, .d (.pc (R45 x1))),(14, .d (D.i .u8 x1.op)),(15, .d (D.b a))]) (λ_=> []) h (λ_ h=>?_) λa h=>?_)
 exact Rcc 6 q (Ci h q (λh=>Rcx 1 q (En1 h)) λh=>Rcx 4 q (En1 h))
 refine Ci h q (λh=>?_) (λh=>?_)
 refine Rcl 7 q ?_
 obtain⟨L,k,h⟩:=ac h
 exact wF Z4 (f79_c k) Lw Z3 (Rlx 6 q (FA h))
 refine Jn1 (λc=> [(2, .d (.pc (aF t0))),(3, .d (.pc (R45 x1))),(14, .d (D.i .u8 x1.op)),(24, .d (D.b c))]) (λ_=> []) h (λ_ h=>?_) (λc h=>?_)
 exact Rcc 6 q (Ci h q (λh=>Rcx 1 q (En1 h)) λh=>Rcx 4 q (En1 h))
 refine Ci h q (λh=>?_) (λh=>?_)
 refine Rcl 9 q ?_
 obtain⟨M,o,h⟩:=ac h
 exact wF Z4 (f79_c o) Lw Z3 (Rlx 6 q (FA h))
 refine Jn1 (λe=> [(2, .d (.pc (aF t0))),(3, .d (.pc (R45 x1))),(14, .d (D.i .u8 x1.op)),(35, .d (D.b e))]) (λ_=> []) h (λ_ h=>?_) (λe h=>?_)
 refine Rcc 6 q (Ci h q (λh=>Rcx 1 q (En1 h)) λh=>?_)
 exact Rcc 6 q (Ci h q (λh=>Rcx 1 q (En1 h)) λh=>Rcx 4 q (En1 h))
 refine Ci h q (λh=>?_) (λh=>?_)
 exact Rcl 5 q (wF Z4 (f75_c) Lw Z3 (Rlx 6 q (FA h)))
 refine Rcc 6 q (Ci h q (λh=>?_) λh=>?_)
 refine Rcl 16 q (Zq (aa E45 t0.text.insns e27 q q Zl) q (Rl 2 q ?_))
 obtain⟨p,w,h⟩:=ac h
 refine Gg 10 56 66 p w (λh=>?_) (λh=>?_) ?_
 refine Rl 6 q ?_
 replace h:=gt h
 obtain⟨x,h⟩:=h
 refine Zy (jF E45 t0.text.insns (l:=x1.to) (h:=(IntKind.i64.wrap (x1.to+x1.m))) e27 q Zl ⟨_,q⟩ ⟨_,q⟩ x λ_=>q) q q q ?_
 obtain⟨N,y,h⟩:=ac h
 exact WL.fn q q q q (f58_c _ _ 92 [] [] (λz0 _ h=>by obtain rfl:=inS h;exact f92_c z0) y) ⟨Zl,(Le.fnc Zt Zt),Zt⟩ (aP q q q) q q (On 2 10 h)
 exact On 10 10 h
 exact Rlx 6 q (FA h)
 refine Rcc 6 q (Ci h q (λh=>Rcx 14 q (FA h)) λh=>?_)
 refine Jn1 (λf=> [(2, .d (.pc (aF t0))),(3, .d (.pc (R45 x1))),(14, .d (D.i .u8 x1.op)),(75, .d (D.b f))]) (λ_=> []) h (λ_ h=>?_) (λf h=>?_)
 refine Rcc 6 q (Ci h q (λh=>Rcx 1 q (En1 h)) λh=>?_)
 refine Rcc 6 q (Ci h q (λh=>Rcx 1 q (En1 h)) λh=>?_)
 exact Rcc 6 q (Ci h q (λh=>Rcx 1 q (En1 h)) λh=>Rcx 4 q (En1 h))
 refine Ci h q (λh=>?_) (λh=>?_)
 exact Rcl 7 q (Zq (aa E22 t0.text.lists e31 q q Zl) q (Rlx 7 q (FA h)))
 refine Rcc 6 q (Ci h q (λh=>Rcl 7 q (Zq (aa E82 t0.text.selects e30 q q Zl) q (Rlx 7 q (FA h)))) λh=>?_)
 refine Rcc 6 q (Ci h q (λh=>?_) λh=>?_)
 refine Rcl 7 q ?_
 obtain⟨O,A,h⟩:=ac h
 refine wF Z4 (f93_c A) Lw Z3 (Rll 11 q ?_)
 obtain⟨B,C,h⟩:=ac h
 refine Gg 6 108 114 B C (λh=>?_) (λh=>?_) ?_
 refine Rl 4 q ?_
 obtain⟨P,E,h⟩:=ac h
 exact WL.fn q q q q (f79_c E) Lw (aP q q q) q q (On 1 6 h)
 exact On 6 6 h
 exact Rlx 6 q (FA h)
 refine Rcc 6 q (Ci h q (λh=>?_) λh=>?_)
 refine Rcl 7 q ?_
 obtain⟨Q,F,h⟩:=ac h
 refine wF Z4 (f93_c F) Lw Z3 (Rll 11 q ?_)
 apply WL.and 8 (t:=127) (d:=135)
 exact q
 intro R
 exact Rl 5 q (Zy (aa E45 t0.text.insns e27 q q Zl) q q q (Rl 2 q (WL.nil ⟨q,[_,_,_,_,_,_,_,_],q,q,q⟩)))
 exact Rn 8 8
 exact Rlx 6 q (FA h)
 refine Jn1 (λg=> [(2, .d (.pc (aF t0))),(3, .d (.pc (R45 x1))),(14, .d (D.i .u8 x1.op)),(136, .d (D.b g))]) (λ_=> []) h (λ_ h=>?_) (λg h=>?_)
 exact Rcc 6 q (Ci h q (λh=>Rcx 1 q (En1 h)) λh=>Rcx 4 q (En1 h))
 refine Ci h q (λh=>?_) (λh=>?_)
 exact Rcl 7 q (Zq (aa E71 t0.text.prots e35 q q Zl) q (Rlx 7 q (FA h)))
 refine Rcc 6 q (Ci h q (λh=>?_) λh=>?_)
 refine Rcl 7 q ?_
 obtain⟨S,G,h⟩:=ac h
 exact wF Z4 (f94_c G) Lw Z3 (Rlx 6 q (FA h))
 refine Rcc 6 q (Ci h q (λh=>?_) λh=>?_)
 refine Rcl 6 q ?_
 obtain⟨H,I,h⟩:=ac h
 refine Gg 7 159 166 H I (λh=>?_) (λh=>?_) ?_
 exact On 7 7 h
 refine Rl 5 q ?_
 obtain⟨T,J,h⟩:=ac h
 exact WL.fn q q q q (f94_c J) Lw (aP q q q) q q (On 1 7 h)
 exact Rlx 6 q (FA h)
 exact Rcx 9 q (FA h)

theorem f23_c(t0:gp){r:Bool}(h:f23 t0=some r):Pu prog 23 [.ag (R38 t0)] (.b r):=by
 unfold f23 at h
 refine fI func23 λ_ _=>?_
 refine Rcl 2 q (Bd q q (Zs _) q (Rll 6 q (Zq (aU p113 z113 q q) q (Al z113 q (sS Z6 s113 Z2 (St q (Rll 7 q (Zq (aa E45 t0.insns e27 q q Zl) q (Rl 2 q ?_)))))))))
 apply WL.or 5 (t:=12) (d:=17)
 exact q
 intro M
 exact Rl 2 q (Zy (aa E45 t0.insns e27 q q Zl) q q q (Rl 2 q (WL.nil ⟨q,[_,_,_,_,_],q,q,q⟩)))
 exact Rn 5 5
 refine Rlc 2 q (Ci h q (λh=>Rcx 7 q (FA h)) λh=>?_)
 refine Rcl 9 q (Zq (aa E45 t0.insns e27 q q Zl) q (Rl 1 q (Ix h e27 fS q Zl q q λN _ h=>(Rlc 5 q (Jn1 (λj=> [(1, .d (.pc (R38 t0))),(3, .pt 0 0),(27, .d (D.b j))]) (λ_=> [.row 113 (txA t0)]) h (λ_ h=>?_) λj h=>?_)))))
 refine Rcc 6 q (Ci h q (λh=>Rcx 1 q (En1 h)) λh=>?_)
 refine Rcc 6 q (Ci h q (λh=>Rcx 1 q (En1 h)) λh=>?_)
 exact Rcc 6 q (Ci h q (λh=>Rcx 1 q (En1 h)) λh=>Rcx 4 q (En1 h))
 refine Ci h q (λh=>?_) (λh=>?_)
 refine Rcc 3 q ?_
 refine Jn0 [(1, .d (.pc (R38 t0))),(3, .pt 0 0)] [.row 113 (txA t0), .os 23 1 0 [[.fn (.func 50) [.ag (txA t0)] []],[.fn (.func 51) [.ag (txA t0)] []],[.fn (.func 52) [.ag (txA t0)] []],[.fn (.func 53) [.ag (txA t0)] []],[.fn (.func 54) [.ag (txA t0)] []],[.fn (.func 55) [.ag (txA t0)] []],[.fn (.func 56) [.ag (txA t0)] []],[.fn (.func 57) [.ag (txA t0)] []]]] h (λ_ h=>?_) (λh=>?_)
 refine Rcl 18 q (WL.s ((NewOs.b (eZ l122 z23 q dC dC q q q dC)).does) (Zw q) q q (Zq (jN ju q q q) q (Rlc 4 q (fm 9 (Rcc 6 q (bo q (Rcl 6 q (Zq (aD ju q q q dC (by show(0:Int)<((8:Nat):Int);decide)) q (Zq (bw q q a23 q) q (Rll 6 q ?_))))))))))
 obtain⟨O,m,h⟩:=ac h
 refine wF Z4 (f50_c m) ⟨(ay (Zs _)),Zt⟩ Z3 (Rlc 3 q (Ci h q (λh=>?_) λh=>?_))
 exact Rcx 8 q (bm (Rxx 2 q (FA h)))
 refine Rcl 4 q (Zq (eN (c:=1) q q dC) q (Rlx 2 q (d4 (WC.sub (env':=[(1, .d (.pc (R38 t0))),(3, .pt 0 0),(48, .os 1 0),(49, .n 8),(50, .n 1)]) Sb (Rcc 6 q (bo q (Rcl 6 q (Zq (aD ju q q q dC (by show(1:Int)<((8:Nat):Int);decide)) q (Zq (bw q q a23 q) q (Rll 6 q ?_))))))))))
 obtain⟨P,o,h⟩:=ac h
 refine wF Z4 (f51_c o) ⟨(ay (Zs _)),Zt⟩ Z3 (Rlc 3 q (Ci h q (λh=>?_) λh=>?_))
 exact Rcx 8 q (bm (Rxx 2 q (FA h)))
 refine Rcl 4 q (Zq (eN (c:=2) q q dC) q (Rlx 2 q (d4 (WC.sub (env':=[(1, .d (.pc (R38 t0))),(3, .pt 0 0),(48, .os 1 0),(49, .n 8),(50, .n 2)]) Sb (Rcc 6 q (bo q (Rcl 6 q (Zq (aD ju q q q dC (by show(2:Int)<((8:Nat):Int);decide)) q (Zq (bw q q a23 q) q (Rll 6 q ?_))))))))))
 obtain⟨Q,p,h⟩:=ac h
 refine wF Z4 (f52_c p) ⟨(ay (Zs _)),Zt⟩ Z3 (Rlc 3 q (Ci h q (λh=>?_) λh=>?_))
 exact Rcx 8 q (bm (Rxx 2 q (FA h)))
 refine Rcl 4 q (Zq (eN (c:=3) q q dC) q (Rlx 2 q (d4 (WC.sub (env':=[(1, .d (.pc (R38 t0))),(3, .pt 0 0),(48, .os 1 0),(49, .n 8),(50, .n 3)]) Sb (Rcc 6 q (bo q (Rcl 6 q (Zq (aD ju q q q dC (by show(3:Int)<((8:Nat):Int);decide)) q (Zq (bw q q a23 q) q (Rll 6 q ?_))))))))))
 obtain⟨R,w,h⟩:=ac h
 refine wF Z4 (f53_c w) ⟨(ay (Zs _)),Zt⟩ Z3 (Rlc 3 q (Ci h q (λh=>?_) λh=>?_))
 exact Rcx 8 q (bm (Rxx 2 q (FA h)))
 refine Rcl 4 q (Zq (eN (c:=4) q q dC) q (Rlx 2 q (d4 (WC.sub (env':=[(1, .d (.pc (R38 t0))),(3, .pt 0 0),(48, .os 1 0),(49, .n 8),(50, .n 4)]) Sb (Rcc 6 q (bo q (Rcl 6 q (Zq (aD ju q q q dC (by show(4:Int)<((8:Nat):Int);decide)) q (Zq (bw q q a23 q) q (Rll 6 q ?_))))))))))
 obtain⟨S,x,h⟩:=ac h
 refine wF Z4 (f54_c x) ⟨(ay (Zs _)),Zt⟩ Z3 (Rlc 3 q (Ci h q (λh=>?_) λh=>?_))
 exact Rcx 8 q (bm (Rxx 2 q (FA h)))
 refine Rcl 4 q (Zq (eN (c:=5) q q dC) q (Rlx 2 q (d4 (WC.sub (env':=[(1, .d (.pc (R38 t0))),(3, .pt 0 0),(48, .os 1 0),(49, .n 8),(50, .n 5)]) Sb (Rcc 6 q (bo q (Rcl 6 q (Zq (aD ju q q q dC (by show(5:Int)<((8:Nat):Int);decide)) q (Zq (bw q q a23 q) q (Rll 6 q ?_))))))))))
 obtain⟨T,y,h⟩:=ac h
 refine wF Z4 (f55_c y) ⟨(ay (Zs _)),Zt⟩ Z3 (Rlc 3 q (Ci h q (λh=>?_) λh=>?_))
 exact Rcx 8 q (bm (Rxx 2 q (FA h)))
 refine Rcl 4 q (Zq (eN (c:=6) q q dC) q (Rlx 2 q (d4 (WC.sub (env':=[(1, .d (.pc (R38 t0))),(3, .pt 0 0),(48, .os 1 0),(49, .n 8),(50, .n 6)]) Sb (Rcc 6 q (bo q (Rcl 6 q (Zq (aD ju q q q dC (by show(6:Int)<((8:Nat):Int);decide)) q (Zq (bw q q a23 q) q (Rll 6 q ?_))))))))))
 obtain⟨U,A,h⟩:=ac h
 refine wF Z4 (f56_c A) ⟨(ay (Zs _)),Zt⟩ Z3 (Rlc 3 q (Ci h q (λh=>?_) λh=>?_))
 exact Rcx 8 q (bm (Rxx 2 q (FA h)))
 refine Rcl 4 q (Zq (eN (c:=7) q q dC) q (Rlx 2 q (d4 (WC.sub (env':=[(1, .d (.pc (R38 t0))),(3, .pt 0 0),(48, .os 1 0),(49, .n 8),(50, .n 7)]) Sb (Rcc 6 q (bo q (Rcl 6 q (Zq (aD ju q q q dC (by show(7:Int)<((8:Nat):Int);decide)) q (Zq (bw q q a23 q) q (Rll 6 q ?_))))))))))
 obtain⟨V,B,h⟩:=ac h
 refine wF Z4 (f57_c B) ⟨(ay (Zs _)),Zt⟩ Z3 (Rlc 3 q (Ci h q (λh=>?_) λh=>?_))
 exact Rcx 8 q (bm (Rxx 2 q (FA h)))
 exact Rcl 4 q (Zq (eN (c:=8) q q dC) q (Rlx 2 q (d4 (WC.sub (env':=[(1, .d (.pc (R38 t0))),(3, .pt 0 0),(48, .os 1 0),(49, .n 8),(50, .n 8)]) Sb (Rcc 6 q (cu q (Rcx 2 q (eu (Rxx 1 q (En0 h))))))))))
 refine Rcl 5 q ?_
 obtain⟨C,E,h⟩:=aA h
 refine WL.inl (us:=[.l E45 t0.insns, .fn (.func 59) [] [.pt 0 0]]) (λrv st'=>(∃(e:Bool),C e=some r∧Le rv (.d (D.b e))∧SLe st' [.row 113 (txA t0), .os 23 1 0 [[.fn (.func 50) [.ag (txA t0)] []],[.fn (.func 51) [.ag (txA t0)] []],[.fn (.func 52) [.ag (txA t0)] []],[.fn (.func 53) [.ag (txA t0)] []],[.fn (.func 54) [.ag (txA t0)] []],[.fn (.func 55) [.ag (txA t0)] []],[.fn (.func 56) [.ag (txA t0)] []],[.fn (.func 57) [.ag (txA t0)] []]]])) q q q q q ?_ (Zw q) q q ?_
 refine cI func58 λ_ _ _ W=>?_
 refine Rcl 9 q ?_
 obtain⟨k,F,h⟩:=aA h
 refine WL.inl (us:=[.l E45 t0.insns, .fn (.func 59) [] [.pt 0 0]]) (λrv st'=>(∃(a:Int),k a=some r∧Le rv (.n a)∧SLe st' [.row 113 (txA t0), .os 23 1 0 [[.fn (.func 50) [.ag (txA t0)] []],[.fn (.func 51) [.ag (txA t0)] []],[.fn (.func 52) [.ag (txA t0)] []],[.fn (.func 53) [.ag (txA t0)] []],[.fn (.func 54) [.ag (txA t0)] []],[.fn (.func 55) [.ag (txA t0)] []],[.fn (.func 56) [.ag (txA t0)] []],[.fn (.func 57) [.ag (txA t0)] []]]])) q q q q q ?_ (Zw q) q q ?_
 refine cI func90 λ_ _ _ X=>?_
 refine Rcc 5 q ?_
 refine Jn0 [] [.row 113 (txA t0), .os 23 1 0 [[.fn (.func 50) [.ag (txA t0)] []],[.fn (.func 51) [.ag (txA t0)] []],[.fn (.func 52) [.ag (txA t0)] []],[.fn (.func 53) [.ag (txA t0)] []],[.fn (.func 54) [.ag (txA t0)] []],[.fn (.func 55) [.ag (txA t0)] []],[.fn (.func 56) [.ag (txA t0)] []],[.fn (.func 57) [.ag (txA t0)] []]]] h (λG h=>?_) (λh=>?_)
 refine Rcl 3 q (Zq (aa E45 t0.insns e27 q q Zl) q (Rlc 4 q ?_))
 refine Ln1 (λf=> [(0, .l E45 t0.insns),(1, .fn (.func 59) [] [.pt 0 0]),(7, .n (List.length t0.insns:Int)),(8, .n f)]) (λ_=> [.row 113 (txA t0), .os 23 1 0 [[.fn (.func 50) [.ag (txA t0)] []],[.fn (.func 51) [.ag (txA t0)] []],[.fn (.func 52) [.ag (txA t0)] []],[.fn (.func 53) [.ag (txA t0)] []],[.fn (.func 54) [.ag (txA t0)] []],[.fn (.func 55) [.ag (txA t0)] []],[.fn (.func 56) [.ag (txA t0)] []],[.fn (.func 57) [.ag (txA t0)] []]]]) (f23_l1 t0 k G) h (λ_ h=>by rw[f23_l1] at h;cases h) (λn f h=>?_)
 rw[f23_l1] at h
 refine Rcc 6 q (Ci h q (λh=>?_) λh=>?_)
 refine Rcl 15 q (Ix h e27 fS q Zl q q λH _ h=>(Rl 1 q ?_))
 obtain⟨I,J,h⟩:=aA h
 refine WL.inl (us:=[.d (.ag (R45 H)), .pt 0 0]) (λrv st'=>(∃(g:Bool),I g=some r∧Le rv (.d (D.b g))∧SLe st' [.row 113 (txA t0), .os 23 1 0 [[.fn (.func 50) [.ag (txA t0)] []],[.fn (.func 51) [.ag (txA t0)] []],[.fn (.func 52) [.ag (txA t0)] []],[.fn (.func 53) [.ag (txA t0)] []],[.fn (.func 54) [.ag (txA t0)] []],[.fn (.func 55) [.ag (txA t0)] []],[.fn (.func 56) [.ag (txA t0)] []],[.fn (.func 57) [.ag (txA t0)] []]]])) q q q q q ?_ (Zw q) q q ?_
 refine cI func59 λ_ _ _ _=>?_
 refine Rcl 2 q (Bd q q (Zs _) q (Rll 7 q ?_))
 obtain⟨K,L,h⟩:=ac h
 exact wF Z4 (f60_c L) ⟨(ay (Zs _)),Zl,Zt⟩ Z3 (Rlx 5 q (ao (rs1 q (bj q)) ⟨(!K),h,Zl,⟨Zp,Zf,Zt⟩⟩))
 rintro rv st1 ⟨g,h,hr,hst⟩
 subst J
 dsimp only at h
 refine WL.cast 16 q hr (WL.weak hst (Zn (Ci h q (λh=>?_) λh=>?_)))
 exact Rcx 12 q (ao (rs1 q (bj q)) ⟨f,h,Zl,⟨Zp,Zf,Zt⟩⟩)
 exact Rcx 7 q (Fn1 h)
 exact Rcx 4 q (En0 h)
 exact Rcx 6 q (ao (rs1 q (bj q)) ⟨(-1),h,Zl,⟨Zp,Zf,Zt⟩⟩)
 rintro rv st1 ⟨a,h,hr,hst⟩
 subst F
 dsimp only at h
 exact WL.cast 7 q hr (WL.weak hst (Rl 2 q (Zn (Rcx 1 q (ao (rs1 q (bj q)) ⟨(decide (a≥0)),h,Zl,⟨Zp,Zf,Zt⟩⟩)))))
 rintro rv st1 ⟨e,h,hr,hst⟩
 subst E
 dsimp only at h
 exact WL.cast 61 q hr (WL.weak hst (Rl 2 q (Zn (Rcx 1 q (FA h)))))
 exact Rcx 8 q (FA h)

theorem f71_c(a0:aS):Pu prog 71 [.ag (cC a0)] (.b (f71 a0)):=by
 generalize h:f71 a0=r
 unfold f71 at h
 refine fI func71 λ_ _=>?_
 exact Rcl 2 q (Bd q q (Zs _) q (Rlx 14 q (FB h)))

theorem f39_c(a:Int)(c:Int):Pu prog 39 [.i .i64 a, .i .i64 c] (.ag (cC (f39 a c))):=by
 generalize h:f39 a c=r
 unfold f39 at h
 refine fI func39 λ_ _=>?_
 refine Rcl 2 q (Al eL q (Rll 6 q (Zq (aU nT eL q q) q (sS Z6 cf Z2 (Rlx 3 q ?_)))))
 subst h
 exact au (rs1 q (bp q q hG cf q)) (ay (Zs _))

theorem f68_c(v0:Int):Pu prog 68 [.i .i64 v0] (.ag (cC (f68 v0))):=by
 generalize h:f68 v0=r
 unfold f68 at h
 refine fI func68 λ_ _=>?_
 refine Rcl 2 q (Al eL q (Rll 6 q (Zq (aU nT eL q q) q (sS Z6 cf Z2 (Rlx 3 q ?_)))))
 subst h
 exact au (rs1 q (bp q q hG cf q)) (ay (Zs _))

theorem f38_c(a0:aS)(b1:aS):Pu prog 38 [.ag (cC a0), .ag (cC b1)] (.b (f38 a0 b1)):=by
 generalize h:f38 a0 b1=r
 unfold f38 at h
 refine fI func38 λ_ _=>?_
 refine Rcl 2 q (Bd q q (Zs _) q (Bd q q (Zs _) q (Rll 6 q (wF Z4 (f71_c _) Lw Z3 (Rl 1 q ?_)))))
 apply WL.or 13 (t:=7) (d:=20)
 exact q
 intro a
 refine Rl 6 q ?_
 refine AG 6 13 19 6 6 ?_
 exact Rn 1 8
 exact Rn 13 13
 exact Rlx 4 q (FB h)

theorem f151_c:Pu prog 151 [] (.ag (cC (f151 ))):=by
 generalize h:f151=r
 unfold f151 at h
 refine fI func151 λ_ _=>?_
 refine Rcl 2 q (Al eL q (Rll 4 q (Zq (aU nT eL q q) q (sS Z6 cf Z2 (Rlx 3 q ?_)))))
 subst h
 exact au (rs1 q (bp q q hG cf q)) (ay (Zs _))

theorem f154_c(a0:aS)(b1:aS):Pu prog 154 [.ag (cC a0), .ag (cC b1)] (.ag (cC (f154 a0 b1))):=by
 generalize h:f154 a0 b1=r
 unfold f154 at h
 refine fI func154 λ_ _=>?_
 refine Rcl 2 q (Bd q q (Zs _) q (Bd q q (Zs _) q (Al eL q (Rll 9 q (Zq (jL q q q) q (Rl 4 q (Zq (jK q q q) q (Zq (aU nT eL q q) q (Al eL q (sS Z6 cf Z2 (Rll 5 q (wF Z4 (f71_c (aS.mk (if b1.lo>a0.lo then b1.lo else a0.lo) (if b1.hi<a0.hi then b1.hi else a0.hi))) ⟨(ay (Zs _)),Zt⟩ Z3 (Rlc 3 q (Ci h q (λh=>?_) λh=>?_))))))))))))))
 refine Rcl 3 q (sS Z6 cf Z2 (Rlx 4 q ?_))
 subst h
 exact au (rs1 q (bp q q hG cf q)) (ay (Zs _))
 refine Rcl 4 q (WL.fn q q q q (f151_c) Zt (Zw q) q q (sS Z6 cf Z2 (Rlx 3 q ?_)))
 subst h
 exact au (rs1 q (bp q q hG cf q)) (ay (Zs _))

theorem f40_c(a0:aS)(v1:Int):Pu prog 40 [.ag (cC a0), .i .i64 v1] (.b (f40 a0 v1)):=by
 generalize h:f40 a0 v1=r
 unfold f40 at h
 refine fI func40 λ_ _=>?_
 refine Rcl 2 q (Bd q q (Zs _) q (Rll 10 q ?_))
 refine AG 5 9 14 5 5 ?_
 exact Rlx 4 q (FB h)

theorem f158_c(v0:aS):Pu prog 158 [.ag (cC v0)] (.ag (cC (f158 v0))):=by
 generalize h:f158 v0=r
 unfold f158 at h
 refine fI func158 λ_ _=>?_
 refine Rcl 2 q (Bx q q q (Al eL q (Rlc 2 q (Jn1 (λ_=> [(1, .pt 0 0),(2, .pt 1 0)]) (λc00v20=> [.row 101 [.n c00v20, .n v0.hi], .row 101 [.n 0, .n 0]]) h (λ_ h=>?_) λc00v20 h=>?_))))
 exact Rcc 7 q (Ci h q (λh=>Rcl 5 q (sS Z6 s2 Z2 (Rlx 1 q (En1 h)))) λh=>Rcx 1 q (En1 h))
 refine Jn1 (λ_=> [(1, .pt 0 0),(2, .pt 1 0)]) (λc01v22=> [.row 101 [.n c00v20, .n c01v22], .row 101 [.n 0, .n 0]]) h (λ_ h=>?_) (λc01v22 h=>?_)
 exact Rcc 7 q (Ci h q (λh=>Rcl 5 q (sS Z6 s2 Z2 (Rlx 1 q (En1 h)))) λh=>Rcx 1 q (En1 h))
 refine Rcl 3 q (sS Z6 cf Z2 (Rlx 3 q ?_))
 subst h
 exact au (rs1 q (bp q q hG cf q)) (ay (Zs _))

theorem f155_c(v0:aS):Pu prog 155 [.ag (cC v0)] (.b (f155 v0)):=by
 generalize h:f155 v0=r
 unfold f155 at h
 refine fI func155 λ_ _=>?_
 exact Rcl 2 q (Bd q q (Zs _) q (Rlx 14 q (FB h)))

theorem f152_c{c:Int}{a:lI}{r:aS}(h:f152 c a=some r):Pu prog 152 [.i .i64 c, .sl (List.map E2 a)] (.ag (cC r)):=by
 unfold f152 at h
 refine fI func152 λ_ _=>?_
 refine Rcl 2 q (Al eL q (Rll 6 q (Zq (aU nT eL q q) q (Al eL q (sS Z6 cf Z2 (Rlc 2 q (Jn2 (λ_ _=> [(4, .pt 0 0),(5, .pt 1 0)]) (λc10v32 c11v33=> [.row 101 [.n 0, .n 0], .row 101 [.n c10v32, .n c11v33]]) h (λe h=>?_) λc10v32 c11v33 h=>?_)))))))
 refine Rcl 3 q (Zq (aa E2 a e146 q q Zl) q (Rlc 4 q (Ln3 (λd _ _=> [(4, .pt 0 0),(5, .pt 1 0),(11, .l E2 a),(12, .n (List.length a:Int)),(13, .n d)]) (λ_ c10v39 c11v40=> [.row 101 [.n 0, .n 0], .row 101 [.n c10v39, .n c11v40]]) (f152_l1 a e) h (λ_ _ _ h=>by rw[f152_l1] at h;cases h) λn d c10v39 c11v40 h=>?_)))
 rw[f152_l1] at h
 refine Rcc 6 q (Ci h q (λh=>?_) λh=>?_)
 exact Rcl 6 q (Ix h e146 qS q Zl q q λf _ h=>(Rll 8 q (Zq (jK q q q) q (Rl 3 q (Zq (jL q q q) q (Rl 1 q (sS Z6 s2 Z2 (Rl 1 q (sS Z6 s2 Z2 (Rlx 7 q (Fn3 h)))))))))))
 exact Rcx 4 q (En2 h)
 refine Rcl 3 q (sS Z6 cf Z2 (Rlx 3 q ?_))
 obtain rfl:=Oi h
 exact au (rs1 q (bp q q hG cf q)) (ay (Zs _))

theorem f120_c(a0:aS)(b1:aS){r:aS}(h:f120 a0 b1=some r):Pu prog 120 [.ag (cC a0), .ag (cC b1)] (.ag (cC r)):=by
 unfold f120 at h
 refine fI func120 λ_ _=>?_
 refine Rcl 2 q (Bd q q (Zs _) q (Bd q q (Zs _) q (Al eL q (Rll 7 q (wF Z4 (f71_c _) Lw Z3 (Rl 1 q ?_))))))
 apply WL.and 3 (t:=8) (d:=11)
 exact q
 intro c
 exact Rl 1 q (WL.fn q q q q (f71_c _) Lw (aP q q q) q q (Rl 1 q (WL.nil ⟨q,[_,_,_],q,q,q⟩)))
 exact Rn 3 3
 refine Rlc 3 q (Ci h q (λh=>?_) λh=>?_)
 refine Rcl 2 q (WL.fn q q q q (f151_c) Zt (Zw q) q q (sS Z6 cf Z2 (Rlx 5 q ?_)))
 obtain rfl:=Oi h
 exact au (rs1 q (bp q q hG cf q)) (ay (Zs _))
 refine Rcl 3 q (wF Z4 (f71_c _) Lw Z3 (Rlc 3 q (Ci h q (λh=>?_) λh=>?_)))
 refine Rcl 3 q (sS Z6 cf Z2 (Rlx 5 q ?_))
 obtain rfl:=Oi h
 exact au (rs1 q (bp q q hG cf q)) (ay (Zs _))
 refine Rcl 3 q (wF Z4 (f71_c _) Lw Z3 (Rlc 3 q (Ci h q (λh=>?_) λh=>?_)))
 refine Rcl 3 q (sS Z6 cf Z2 (Rlx 5 q ?_))
 obtain rfl:=Oi h
 exact au (rs1 q (bp q q hG cf q)) (ay (Zs _))
 refine Rcl 13 q (WL.s ((NewOs.b (eZ l146 z2 q dC dC q q q dC)).does) (Zw q) q q ?_)
 refine WL.freezeX [29] [] 1 _ q (dF qS [a0.hi,b1.lo,b1.hi]) ⟨q,Zt⟩ Zt ?_
 obtain⟨e,a,h⟩:=ac h
 refine wF Z4 (f152_c a) Lw Z3 (sS Z6 cf Z2 (Rlx 3 q ?_))
 obtain rfl:=Oi h
 exact au (rs1 q (bp q q hG cf q)) (ay (Zs _))

end Go.Proofs.YtlkhnkpflmpjhaaGreatDoor
