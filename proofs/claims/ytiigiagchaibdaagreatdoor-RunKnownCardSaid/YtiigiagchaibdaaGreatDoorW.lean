/- The walks of functions. -/
import Derived.Test.YtiigiagchaibdaaGreatDoorX
set_option linter.unusedVariables false
set_option linter.unusedSimpArgs false
set_option linter.unusedSectionVars false
set_option linter.unnecessarySimpa false
set_option maxHeartbeats 4000000
set_option maxRecDepth 100000
namespace Go.Proofs.YtiigiagchaibdaaGreatDoor
open Go.Proofs.Tryz
open Go Go.Sk

theorem f277_c(s0:lI)(a:Int→oB)(g1:FuncId)(c e:lD)(g:∀(y0:Int)(r:Bool),a y0=some r→Pu prog g1 (c++ [.i .i64 y0]++e) (.b r)){r:Int}(h:f277 s0 a=some r):Pu prog 277 [.sl (List.map E3 s0), .fnc (.func g1) c e] (.i .i64 r):=by
 unfold f277 at h
 refine fI func277 λ_ _=>?_
 refine WC.cast 1 q (eE _ _ _) (Rcc 5 q (Jn0 [] [] h (λj h=>?_) λh=>?_))
 refine Rcl 3 q (Zq (ab E3 s0 e31 q q Zl) q (Rlc 4 q (Ln1 (λf=> [(0, .l E3 s0),(1, .fn (.func g1) (List.map AV.d c) (List.map AV.d e)),(7, .n (List.length s0:Int)),(8, .n f)]) (λ_=> []) (f277_l1 s0 a j) h (λ_ h=>by rw[f277_l1] at h;cases h) λn f h=>?_)))
 rw[f277_l1] at h
 refine Rcc 6 q (Ci h q (λh=>?_) λh=>?_)
 refine Rcl 15 q (Ix h e31 rK q Zl q q λm _ h=>(Rl 1 q ?_))
 obtain⟨o,k,h⟩:=ac h
 refine WL.fn q q q q (g _ _ k) (kY Lw) (Zw q) q q (Rlc 2 q (Ci h q (λh=>?_) λh=>?_))
 exact Rcx 12 q (FA h)
 exact Rcx 7 q (Fn1 h)
 exact Rcx 4 q (En0 h)
 exact Rcx 6 q (FA h)

theorem f186_c(s0:lI)(d:Int→oB)(g1:FuncId)(a c:lD)(e:∀(y0:Int)(r:Bool),d y0=some r→Pu prog g1 (a++ [.i .i64 y0]++c) (.b r)){r:Bool}(h:f186 s0 d=some r):Pu prog 186 [.sl (List.map E3 s0), .fnc (.func g1) a c] (.b r):=by
 unfold f186 at h
 refine fI func186 λ_ _=>?_
 refine WC.cast 1 q (eE _ _ _) (Rcl 9 q ?_)
 obtain⟨g,f,h⟩:=ac h
 exact wF Z4 (f277_c _ _ g1 a c e f) ⟨Zl,(Le.fnc (Zs _) (Zs _)),Zt⟩ Z3 (Rlx 5 q (FA h))

theorem f187_c(n0:Int)(a:Int):Pu prog 187 [.i .i64 n0, .pc (E2 a)] (.b (f187 n0 a)):=by
 generalize h:f187 n0 a=r
 unfold f187 at h
 refine fI func187 λ_ _=>?_
 exact Rcx 15 q (FB h)

theorem f95_c{o0:Obj}{v1:Int}{r:Bool}(h:f95 o0 v1=some r):Pu prog 95 [.ag (R80 o0), .i .i64 v1] (.b r):=by
 unfold f95 at h
 refine fI func95 λ_ _=>?_
 refine Rcl 2 q (Bd q q (Zs _) q (WL.s ((kO q q (by exact(show Les [.n v1] (List.map AV.d [.i .i64 v1]) from Lw))).does) (Zw q) q q (Rlc 10 q (Ci h q (λh=>?_) λh=>?_))))
 refine Rcl 5 q ?_
 obtain⟨a,c,h⟩:=ac h
 refine Gg 5 9 14 a c (λh=>?_) (λh=>?_) ?_
 exact On 5 5 h
 refine Rl 3 q ?_
 obtain⟨f,e,h⟩:=ac h
 exact WL.fn q q q q (f186_c _ _ 187 [] [(.pc (E2 v1))] (λz0 _ h=>by obtain rfl:=inS h;exact f187_c z0 v1) e) ⟨Zl,(Le.fnc Zt Lw),Zt⟩ (bd q q q) q q (On 1 5 h)
 exact Rlx 5 q (FA h)
 refine Rcl 9 q ?_
 refine AG 5 19 24 5 5 ?_
 exact Rlx 4 q (FA h)

theorem f96_c{t0:aB}{o1:Obj}{r:Bool}(h:f96 t0 o1=some r):Pu prog 96 [.ag (aI t0), .ag (R80 o1)] (.b r):=by
 unfold f96 at h
 refine fI func96 λ_ _=>?_
 refine Rcl 2 q (Bd q q (Zs _) q (Bd q q (Zs _) q (Rll 10 q ?_)))
 refine OG 4 11 15 4 4 ?_
 refine Rl 1 q ?_
 refine OG 6 16 22 6 6 ?_
 refine Rlc 2 q (Ci h q (λh=>Rcx 7 q (FA h)) λh=>?_)
 refine Rcc 10 q (Ci h q (λh=>Rcl 4 q (Zq (ab E3 o1.set_ e31 q q Zl) q (Rlx 6 q (FA h)))) λh=>?_)
 refine Rcc 7 q (Jn0 [(3, .d (.pc (R80 o1)))] [] h (λg h=>?_) λh=>?_)
 refine Rcl 4 q (Zq (ab E3 o1.set_ e31 q q Zl) q (Rlc 4 q (Ln2 (λa c=> [(2, .d (.pc (aI t0))),(3, .d (.pc (R80 o1))),(5, .n a),(31, .l E3 o1.set_),(32, .n (List.length o1.set_:Int)),(33, .n c)]) (λ_ _=> []) (f96_l1 t0 o1 g) h (λ_ _ h=>by rw[f96_l1] at h;cases h) λn a c h=>?_)))
 rw[f96_l1] at h
 refine Rcc 6 q (Ci h q (λh=>?_) λh=>?_)
 refine Rcl 6 q (Ix h e31 rK q Zl q q λp _ h=>(Rll 11 q ?_))
 apply WL.or 7 (t:=40) (d:=47)
 exact q
 intro w
 exact Rl 4 q (Zy (ab E80 t0.text.objs e38 q q Zl) q q q (Rl 2 q (WL.nil ⟨q,[_,_,_,_,_,_,_],q,q,q⟩)))
 exact Rn 7 7
 refine Rl 1 q ?_
 obtain⟨j,k,h⟩:=ac h
 refine Gg 9 48 57 j k (λh=>?_) (λh=>?_) ?_
 exact On 9 9 h
 refine Rl 4 q ?_
 obtain⟨x,e,h⟩:=ac h
 exact Zy (aG e38 q Zl q (az e) (bO fh e) q) q q q (On 4 9 h)
 refine Rl 1 q ?_
 obtain⟨m,o,h⟩:=ac h
 refine Gg 8 58 66 m o (λh=>?_) (λh=>?_) ?_
 exact On 8 8 h
 refine Rl 4 q ?_
 obtain⟨y,f,h⟩:=ac h
 exact Zy (aG e38 q Zl q (az f) (bO fh f) q) q q q (On 3 8 h)
 exact Rlc 2 q (Ci h q (λh=>Rcx 12 q (FA h)) λh=>Rcx 12 q (Fn2 h))
 exact Rcx 4 q (En0 h)
 refine Rcl 6 q ?_
 refine AG 4 72 76 4 4 ?_
 exact Rlx 4 q (FA h)

theorem f97_c{t0:aB}{o1:Int}{a:Int}{c:Int}{r:Bool}(h:f97 t0 o1 a c=some r):Pu prog 97 [.ag (aI t0), .i .i64 o1, .i .i64 a, .i .i64 c] (.b r):=by
 unfold f97 at h
 refine fI func97 λ_ _=>?_
 refine Rcl 2 q (Bd q q (Zs _) q (Rll 8 q ?_))
 apply WL.and 7 (t:=11) (d:=18)
 exact q
 intro j
 exact Rl 4 q (Zy (ab E80 t0.text.objs e38 q q Zl) q q q (Rl 2 q (WL.nil ⟨q,[_,_,_,_,_,_,_],q,q,q⟩)))
 exact Rn 7 7
 refine Rl 1 q ?_
 refine AG 3 19 22 3 3 ?_
 refine Rl 1 q ?_
 obtain⟨f,g,h⟩:=ac h
 refine Gg 12 23 35 f g (λh=>?_) (λh=>?_) ?_
 refine Rl 5 q ?_
 obtain⟨k,e,h⟩:=ac h
 exact Zy (aG e38 q Zl q (az e) (bO fh e) q) q q q (On 6 12 h)
 exact On 12 12 h
 exact Rlx 4 q (FA h)

theorem f50_c{t0:aB}{r:Bool}(h:f50 t0=some r):Pu prog 50 [.ag (aI t0)] (.b r):=by
 unfold f50 at h
 refine fI func50 λ_ _=>?_
 refine Rcl 2 q (Bd q q (Zs _) q (Rll 9 q (Zq (ab E80 t0.text.objs e38 q q Zl) q (Rl 2 q ?_))))
 refine OG 5 15 20 5 5 ?_
 refine Rl 1 q ?_
 refine OG 5 21 26 5 5 ?_
 refine Rlc 2 q (Ci h q (λh=>Rcx 7 q (FA h)) λh=>?_)
 refine Rcc 7 q (Jn1 (λc=> [(1, .d (.pc (aI t0))),(3, .n c)]) (λ_=> []) h (λC h=>?_) λc h=>?_)
 refine Rcl 5 q (Zq (ab E80 t0.text.objs e38 q q Zl) q (Rlc 4 q (Ln2 (λf g=> [(1, .d (.pc (aI t0))),(3, .n f),(29, .l E80 t0.text.objs),(30, .n (List.length t0.text.objs:Int)),(31, .n g)]) (λ_ _=> []) (f50_l1 t0 C) h (λ_ _ h=>by rw[f50_l1] at h;cases h) λn f g h=>?_)))
 rw[f50_l1] at h
 refine Rcc 6 q (Ci h q (λh=>?_) λh=>?_)
 refine Rcl 6 q (Ix h e38 fh q Zl q q λE _ h=>(Rl 1 q (Al z80 q (sS Z6 s80 Z2 (Rll 7 q ?_)))))
 obtain⟨L,F,h⟩:=ac h
 refine wF Z4 (f96_c F) ⟨Zl,(aK (Zs _)),Zt⟩ Z3 (Rlc 3 q (Ci h q (λh=>?_) λh=>?_))
 exact Rcx 12 q (FA h)
 exact Rcx 15 q (WE.drop 0 (env':=[(1, .d (.pc (aI t0))),(3, .n (IntKind.i64.wrap (f+E.size))),(29, .l E80 t0.text.objs),(30, .n (List.length t0.text.objs:Int)),(31, .n (IntKind.i64.wrap (g+1)))]) Sb q q (Nat.zero_le _) (Fn2 h))
 exact Rcx 4 q (En1 h)
 refine Rcl 2 q (WL.s ((gF (α:=Bool) (λx:Int×Int=>Value.agg ⟨[Value.int .i64 x.1,Value.int .i64 x.2]⟩) (λx:Bool=>AV.d (.b x))).does) (Zw q) q q (Rlc 3 q (Jn1 (λ_=> [(3, .n c)]) (λw=> [mpO (λx:Int×Int=>Value.agg ⟨[Value.int .i64 x.1,Value.int .i64 x.2]⟩) (λx:Bool=>AV.d (.b x)) w]) h (λG h=>?_) λw h=>?_)))
 refine Rcl 5 q (Zq (ab cG t0.text.inits e50 q q Zl) q (Rlc 4 q (Ln2 (λj _=> [(1, .d (.pc (aI t0))),(3, .n c),(6, .mp 0),(47, .l cG t0.text.inits),(48, .n (List.length t0.text.inits:Int)),(49, .n j)]) (λ_ e=> [mpO (λx:Int×Int=>Value.agg ⟨[Value.int .i64 x.1,Value.int .i64 x.2]⟩) (λx:Bool=>AV.d (.b x)) e]) (f50_l2 t0 G) h (λ_ _ h=>by rw[f50_l2] at h;cases h) λn j e h=>?_)))
 rw[f50_l2] at h
 refine Rcc 6 q (Ci h q (λh=>?_) λh=>?_)
 refine Rcl 6 q (Ix h e50 ul q Zl q q λa _ h=>(Rl 1 q (Al z221 q (sS Z6 s221 Z2 (Rll 8 q (Zq (bX p225 z225 q q) q (Al z225 q (sS Z6 s225 Z2 (Rlc 4 q (cU kR kR (Rq 2 q (WQ.qn (mB (λx:Int×Int=>Value.agg ⟨[Value.int .i64 x.1,Value.int .i64 x.2]⟩) (λx:Bool=>AV.d (.b x)) e (k:=(a.o,a.slot)) (z:=false) (vs:=[.int .i64 a.o, .int .i64 a.slot]) underlying223 (gM underlying225 underlying3 underlying3 q q kR) q q q (aK (Zs _)) q kR q) q (Rq 1 q ?_)))))))))))))
 obtain⟨H,y,h⟩:=ac h
 apply WQ.grp 8 (t:=61) (d:=69) (z:=H)
 exact q
 intro m
 have h:=ja y m
 refine Rq 8 q ?_
 obtain rfl:=Oi h
 exact WQ.nil ⟨[_,_,_,_,_,_,_,_],q,q,q⟩
 intro m
 have h:=jb y m
 refine Rq 5 q ?_
 obtain⟨M,I,h⟩:=ac h
 refine WQ.q (YieldsQ.fn q q q q q (f97_c I) Lw) (bd q q q) q q (Rq 2 q ?_)
 obtain rfl:=Oi h
 exact WQ.nil ⟨[_,_,_,_,_,_,_,_],q,q,q⟩
 refine Rq 1 q ?_
 obtain⟨J,A,h⟩:=ac h
 apply WQ.grp 12 (t:=70) (d:=82) (z:=J)
 exact q
 intro p
 have h:=ja A p
 refine Rq 12 q ?_
 obtain rfl:=Oi h
 exact WQ.nil ⟨[_,_,_,_,_,_,_,_,_,_,_,_],q,q,q⟩
 intro p
 have h:=jb A p
 refine Rq 5 q ?_
 obtain⟨N,B,h⟩:=ac h
 refine WQ.qy (aG e38 q Zl q (az B) (bO fh B) q) q q q (Rq 3 q ?_)
 obtain⟨O,K,h⟩:=ac h
 refine WQ.q (YieldsQ.fn q q q q q (f95_c K) Lw) (bd q q q) q q (Rq 2 q ?_)
 obtain rfl:=Oi h
 exact WQ.nil ⟨[_,_,_,_,_,_,_,_,_,_,_,_],q,q,q⟩
 refine WQ.nil (Rxc 1 q (Ci h q (λh=>?_) λh=>?_))
 exact Rcx 12 q (FA h)
 exact Rcl 5 q (WL.s0 (ju (λx:Int×Int=>Value.agg ⟨[Value.int .i64 x.1,Value.int .i64 x.2]⟩) (λx:Bool=>AV.d (.b x)) e (k:=(a.o,a.slot)) (vs:=[.int .i64 a.o, .int .i64 a.slot]) (.inr q) underlying223 (gM underlying225 underlying3 underlying3 q q kR) q q q (aK (Zs _)) q q) (Zw q) q (Rlx 7 q (WE.drop 1 (env':=[(1, .d (.pc (aI t0))),(3, .n c),(6, .mp 0),(47, .l cG t0.text.inits),(48, .n (List.length t0.text.inits:Int)),(49, .n (IntKind.i64.wrap (j+1)))]) Sb q (jC (qz _ (λx:Int×Int=>Value.agg ⟨[Value.int .i64 x.1,Value.int .i64 x.2]⟩) (λx:Bool=>(.b x:D)) _) q) (Nat.zero_le _) (Fn2 h))))
 exact Rcx 4 q (En1 h)
 exact Rcx 8 q (FA h)

theorem f98_c{t0:aB}{a1:Int}:Pu prog 98 [.ag (aI t0), .i .i64 a1] (.b (f98 t0 a1)):=by
 generalize h:f98 t0 a1=r
 unfold f98 at h
 refine fI func98 λ_ _=>?_
 refine Rcl 2 q (Bd q q (Zs _) q (Rll 8 q ?_))
 apply WL.and 7 (t:=7) (d:=14)
 exact q
 intro a
 exact Rl 4 q (Zy (ab bj t0.text.insns e45 q q Zl) q q q (Rl 2 q (WL.nil ⟨q,[_,_,_,_,_,_,_],q,q,q⟩)))
 exact Rn 7 7
 exact Rlx 4 q (FB h)

theorem f188_c(s0:List cg)(a:cg→oB)(g1:FuncId)(c e:lD)(g:∀(y0:cg)(r:Bool),a y0=some r→Pu prog g1 (c++ [.ag (rE y0)]++e) (.b r)){r:Int}(h:f188 s0 a=some r):Pu prog 188 [.sl (List.map mv s0), .fnc (.func g1) c e] (.i .i64 r):=by
 unfold f188 at h
 refine fI func188 λ_ _=>?_
 refine WC.cast 1 q (eE _ _ _) (Rcc 5 q (Jn0 [] [] h (λj h=>?_) λh=>?_))
 refine Rcl 3 q (Zq (ab mv s0 e81 q q Zl) q (Rlc 4 q (Ln1 (λf=> [(0, .l mv s0),(1, .fn (.func g1) (List.map AV.d c) (List.map AV.d e)),(7, .n (List.length s0:Int)),(8, .n f)]) (λ_=> []) (f188_l1 s0 a j) h (λ_ h=>by rw[f188_l1] at h;cases h) λn f h=>?_)))
 rw[f188_l1] at h
 refine Rcc 6 q (Ci h q (λh=>?_) λh=>?_)
 refine Rcl 15 q (Ix h e81 oG q Zl q q λm _ h=>(Rl 1 q ?_))
 obtain⟨o,k,h⟩:=ac h
 refine WL.fn q q q q (g _ _ k) (kY Lw) (Zw q) q q (Rlc 2 q (Ci h q (λh=>?_) λh=>?_))
 exact Rcx 12 q (FA h)
 exact Rcx 7 q (Fn1 h)
 exact Rcx 4 q (En0 h)
 exact Rcx 6 q (FA h)

theorem f99_c(s0:List cg)(d:cg→oB)(g1:FuncId)(a c:lD)(e:∀(y0:cg)(r:Bool),d y0=some r→Pu prog g1 (a++ [.ag (rE y0)]++c) (.b r)){r:Bool}(h:f99 s0 d=some r):Pu prog 99 [.sl (List.map mv s0), .fnc (.func g1) a c] (.b r):=by
 unfold f99 at h
 refine fI func99 λ_ _=>?_
 refine WC.cast 1 q (eE _ _ _) (Rcl 9 q ?_)
 obtain⟨g,f,h⟩:=ac h
 exact wF Z4 (f188_c _ _ g1 a c e f) ⟨Zl,(Le.fnc (Zs _) (Zs _)),Zt⟩ Z3 (Rlx 5 q (FA h))

theorem f189_c(o0:Int)(a:aB){r:Bool}(h:f189 o0 a=some r):Pu prog 189 [.i .i64 o0, .pc (aI a)] (.b r):=by
 unfold f189 at h
 refine fI func189 λ_ _=>?_
 refine Rcl 10 q ?_
 apply WL.or 7 (t:=6) (d:=13)
 exact q
 intro g
 exact Rl 4 q (Zy (ab E80 a.text.objs e38 q q Zl) q q q (Rl 2 q (WL.nil ⟨q,[_,_,_,_,_,_,_],q,q,q⟩)))
 exact Rn 7 7
 refine Rl 1 q ?_
 obtain⟨e,f,h⟩:=ac h
 refine Gg 9 14 23 e f (λh=>?_) (λh=>?_) ?_
 exact On 9 9 h
 refine Rl 4 q ?_
 obtain⟨j,c,h⟩:=ac h
 exact Zy (aG e38 q Zl q (az c) (bO fh c) q) q q q (On 4 9 h)
 exact Rlx 4 q (FA h)

theorem f101_c{t0:aB}{l1:lI}{r:Bool}(h:f101 t0 l1=some r):Pu prog 101 [.ag (aI t0), .sl (List.map E3 l1)] (.b r):=by
 unfold f101 at h
 refine fI func101 λ_ _=>?_
 refine Rcl 2 q (Bd q q (Zs _) q (Rll 6 q (Zq (ab E3 l1 e31 q q Zl) q (Rl 2 q ?_))))
 obtain⟨a,c,h⟩:=ac h
 refine Gg 5 8 13 a c (λh=>?_) (λh=>?_) ?_
 refine Rl 2 q ?_
 obtain⟨e,d,h⟩:=ac h
 exact WL.fn q q q q (f186_c _ _ 189 [] [(.pc (aI t0))] (λz0 _ h=>f189_c z0 t0 h) d) ⟨Zl,(Le.fnc Zt Lw),Zt⟩ (bd q q q) q q (On 2 5 h)
 exact On 5 5 h
 exact Rlx 4 q (FA h)

theorem f100_c(e0:cg)(a:aB){r:Bool}(h:f100 e0 a=some r):Pu prog 100 [.ag (rE e0), .pc (aI a)] (.b r):=by
 unfold f100 at h
 refine fI func100 λ_ _=>?_
 refine Rcl 2 q (Bd q q (Zs _) q (Rll 8 q ?_))
 obtain⟨g,c,h⟩:=ac h
 refine wF Z4 (f101_c c) Lw Z3 (Rl 2 q ?_)
 obtain⟨d,e,h⟩:=ac h
 refine Gg 6 9 15 d e (λh=>?_) (λh=>?_) ?_
 exact On 6 6 h
 refine Rl 3 q ?_
 obtain⟨j,f,h⟩:=ac h
 exact WL.fn q q q q (f101_c f) Lw (bd q q q) q q (On 2 6 h)
 exact Rlx 4 q (FA h)

theorem f51_c{t0:aB}{r:Bool}(h:f51 t0=some r):Pu prog 51 [.ag (aI t0)] (.b r):=by
 unfold f51 at h
 refine fI func51 λ_ _=>?_
 refine Rcl 2 q (Bd q q (Zs _) q (Rll 9 q (Zq (ab cf t0.text.tasks e51 q q Zl) q (Rl 2 q ?_))))
 apply WL.or 6 (t:=10) (d:=16)
 exact q
 intro g
 exact Rl 3 q (Zy (ab cf t0.text.tasks e51 q q Zl) q q q (Rl 2 q (WL.nil ⟨q,[_,_,_,_,_,_],q,q,q⟩)))
 exact Rn 6 6
 refine Rlc 2 q (Ci h q (λh=>Rcx 7 q (FA h)) λh=>?_)
 refine Rcc 2 q (Jn0 [] [] h (λc h=>?_) λh=>?_)
 refine Rcl 5 q (Zq (ab cf t0.text.tasks e51 q q Zl) q (Rlc 4 q (Ln1 (λa=> [(1, .d (.pc (aI t0))),(19, .l cf t0.text.tasks),(20, .n (List.length t0.text.tasks:Int)),(21, .n a)]) (λ_=> []) (f51_l1 t0 c) h (λ_ h=>by rw[f51_l1] at h;cases h) λn a h=>?_)))
 rw[f51_l1] at h
 refine Rcc 6 q (Ci h q (λh=>?_) λh=>?_)
 refine Rcl 6 q (Ix h e51 k6 q Zl q q λe _ h=>(Rl 1 q (Al z109 q (sS Z6 s109 Z2 (Rll 9 q ?_)))))
 refine OG 4 28 32 4 4 ?_
 refine Rl 1 q ?_
 apply WL.or 6 (t:=33) (d:=39)
 exact q
 intro j
 exact Rl 3 q (WL.fn q q q q (f98_c) Lw (bd q q q) q q (Rl 2 q (WL.nil ⟨q,[_,_,_,_,_,_],q,q,q⟩)))
 exact Rn 6 6
 refine Rl 1 q ?_
 refine OG 4 40 44 4 4 ?_
 refine Rl 1 q ?_
 refine OG 4 45 49 4 4 ?_
 refine Rl 1 q ?_
 apply WL.or 5 (t:=50) (d:=55)
 exact q
 intro k
 exact Rl 2 q (Zy (ab mv e.entries e81 q q Zl) q q q (Rl 2 q (WL.nil ⟨q,[_,_,_,_,_],q,q,q⟩)))
 exact Rn 5 5
 refine Rlc 2 q (Ci h q (λh=>Rcx 12 q (FA h)) λh=>?_)
 refine Rcl 7 q ?_
 obtain⟨m,f,h⟩:=ac h
 refine wF Z4 (f99_c _ _ 100 [] [(.pc (aI t0))] (λz0 _ h=>f100_c z0 t0 h) f) ⟨Zl,(Le.fnc Zt Lw),Zt⟩ Z3 (Rlc 2 q (Ci h q (λh=>?_) λh=>?_))
 exact Rcx 11 q (FA h)
 exact Rcx 7 q (WE.drop 0 (env':=[(1, .d (.pc (aI t0))),(19, .l cf t0.text.tasks),(20, .n (List.length t0.text.tasks:Int)),(21, .n (IntKind.i64.wrap (a+1)))]) Sb q q (Nat.zero_le _) (Fn1 h))
 exact Rcx 4 q (En0 h)
 exact Rcx 6 q (FA h)

theorem f52_c{t0:aB}{r:Bool}(h:f52 t0=some r):Pu prog 52 [.ag (aI t0)] (.b r):=by
 unfold f52 at h
 refine fI func52 λ_ _=>?_
 refine Rcl 2 q (Bd q q (Zs _) q (Rll 9 q (Zq (ab E31 t0.text.lists e49 q q Zl) q (Rlc 3 q (Ci h q (λh=>?_) λh=>?_)))))
 exact Rcx 7 q (FA h)
 refine Rcc 2 q (Jn0 [] [] h (λk h=>?_) λh=>?_)
 refine Rcl 5 q (Zq (ab E31 t0.text.lists e49 q q Zl) q (Rlc 4 q (Ln1 (λc=> [(1, .d (.pc (aI t0))),(15, .l E31 t0.text.lists),(16, .n (List.length t0.text.lists:Int)),(17, .n c)]) (λ_=> []) (f52_l1 t0 k) h (λ_ h=>by rw[f52_l1] at h;cases h) λn c h=>?_)))
 rw[f52_l1] at h
 refine Rcc 6 q (Ci h q (λh=>?_) λh=>?_)
 refine Rcc 2 q (Jn1 (λ_=> [(1, .d (.pc (aI t0))),(15, .l E31 t0.text.lists),(16, .n (List.length t0.text.lists:Int)),(17, .n c)]) (λf=> [mpO (λx:Int=>Value.int .i64 x) (λx:Bool=>AV.d (.b x)) f]) h (λ_ h=>?_) λf h=>?_)
 refine Rcl 3 q (Ix h e49 wd q Zl q q λa _ h=>(Rll 6 q (WL.s ((gF (α:=Bool) (λx:Int=>Value.int .i64 x) (λx:Bool=>AV.d (.b x))).does) (Zw q) q q (Rlc 3 q (Jn1 (λ_=> [(1, .d (.pc (aI t0))),(4, .l E3 a),(15, .l E31 t0.text.lists),(16, .n (List.length t0.text.lists:Int)),(17, .n c)]) (λg=> [mpO (λx:Int=>Value.int .i64 x) (λx:Bool=>AV.d (.b x)) g]) h (λm h=>?_) λg h=>?_)))))
 refine Rcl 3 q (Zq (ab E3 a e31 q q Zl) q (Rlc 4 q (Ln2 (λj _=> [(1, .d (.pc (aI t0))),(4, .l E3 a),(5, .mp 0),(15, .l E31 t0.text.lists),(16, .n (List.length t0.text.lists:Int)),(17, .n c),(22, .l E3 a),(23, .n (List.length a:Int)),(24, .n j)]) (λ_ e=> [mpO (λx:Int=>Value.int .i64 x) (λx:Bool=>AV.d (.b x)) e]) (f52_l2 t0 a m) h (λ_ _ h=>by rw[f52_l2] at h;cases h) λna j e h=>?_)))
 rw[f52_l2] at h
 refine Rcc 6 q (Ci h q (λh=>?_) λh=>?_)
 refine Rcl 6 q (Ix h e31 rK q Zl q q λo _ h=>(Rll 10 q ?_))
 apply WL.or 7 (t:=30) (d:=37)
 exact q
 intro p
 exact Rl 4 q (Zy (ab cf t0.text.tasks e51 q q Zl) q q q (Rl 2 q (WL.nil ⟨q,[_,_,_,_,_,_,_],q,q,q⟩)))
 exact Rn 7 7
 refine Rl 1 q ?_
 apply WL.or 4 (t:=38) (d:=42)
 exact q
 intro w
 exact Rl 2 q (Zy (ld (λx:Int=>Value.int .i64 x) (λx:Bool=>AV.d (.b x)) e (z:=false) underlying231 underlying3 (KeyF.int .i64) q q q kR q) q q q (Rl 1 q (WL.nil ⟨q,[_,_,_,_],q,q,q⟩)))
 exact Rn 4 4
 refine Rlc 2 q (Ci h q (λh=>Rcx 17 q (FA h)) λh=>?_)
 exact Rcl 5 q (WL.s0 (gY (λx:Int=>Value.int .i64 x) (λx:Bool=>AV.d (.b x)) e (.inr q) underlying231 underlying3 (KeyF.int .i64) q q q q) (Zw q) q (Rlx 7 q (Fn2 h)))
 exact Rcx 4 q (En1 h)
 refine Rcl 3 q (Zq (ab E3 a e31 q q Zl) q (Rlc 3 q (Ci h q (λh=>?_) λh=>?_)))
 exact Rcx 11 q (FA h)
 exact Rcx 2 q (En1 h)
 exact Rcx 4 q (WE.drop 0 (env':=[(1, .d (.pc (aI t0))),(15, .l E31 t0.text.lists),(16, .n (List.length t0.text.lists:Int)),(17, .n (IntKind.i64.wrap (c+1)))]) Sb q q (Nat.zero_le _) (Fn1 h))
 exact Rcx 4 q (En0 h)
 exact Rcx 6 q (FA h)

theorem f102s_c(F:lN→lH→lP→lS→lL→lO→lT→Int→lK→lM→lC→Int→Int→be→Int→Option (Bool×lN×lH×lP×lS×lL×lO×lT×Int×lK×lM×lC×Int×Int))(e:lN)(f:lH)(g:lP)(j:lS)(k:lL)(m:lO)(p:lT)(w:Int)(x:lK)(y:lM)(A:lC)(jent:Int)(jleft:Int)(e1:be)(B:Int)(S:∀(e:lN)(f:lH)(g:lP)(j:lS)(k:lL)(m:lO)(p:lT)(w:Int)(x:lK)(y:lM)(A:lC)(jent:Int)(jleft:Int)(x1:be)(x2:Int)(r:Bool×lN×lH×lP×lS×lL×lO×lT×Int×lK×lM×lC×Int×Int),F e f g j k m p w x y A jent jleft x1 x2=some r→Ctr prog 102 [.pt 0 0, .d (.ag (R27 x1)), .n x2] [.row 234 [.l bj e, .l bJ f, .l cz g, .l cq j, .l E31 k, .l E80 m, .l cG p, .n w, .l cf x, .l bR y, .l cF A, .n jent, .n jleft]] (pr 1 (.b r.1) (λ_=> [.row 234 [.l bj r.2.1, .l bJ r.2.2.1, .l cz r.2.2.2.1, .l cq r.2.2.2.2.1, .l E31 r.2.2.2.2.2.1, .l E80 r.2.2.2.2.2.2.1, .l cG r.2.2.2.2.2.2.2.1, .n r.2.2.2.2.2.2.2.2.1, .l cf r.2.2.2.2.2.2.2.2.2.1, .l bR r.2.2.2.2.2.2.2.2.2.2.1, .l cF r.2.2.2.2.2.2.2.2.2.2.2.1, .n r.2.2.2.2.2.2.2.2.2.2.2.2.1, .n r.2.2.2.2.2.2.2.2.2.2.2.2.2]]))){r:Bool×lN×lH×lP×lS×lL×lO×lT×Int×lK×lM×lC×Int×Int}(h:f102s F e f g j k m p w x y A jent jleft e1 B=some r):Ctr prog 102 [.pt 0 0, .d (.ag (R27 e1)), .n B] [.row 234 [.l bj e, .l bJ f, .l cz g, .l cq j, .l E31 k, .l E80 m, .l cG p, .n w, .l cf x, .l bR y, .l cF A, .n jent, .n jleft]] (pr 1 (.b r.1) (λ_=> [.row 234 [.l bj r.2.1, .l bJ r.2.2.1, .l cz r.2.2.2.1, .l cq r.2.2.2.2.1, .l E31 r.2.2.2.2.2.1, .l E80 r.2.2.2.2.2.2.1, .l cG r.2.2.2.2.2.2.2.1, .n r.2.2.2.2.2.2.2.2.1, .l cf r.2.2.2.2.2.2.2.2.2.1, .l bR r.2.2.2.2.2.2.2.2.2.2.1, .l cF r.2.2.2.2.2.2.2.2.2.2.2.1, .n r.2.2.2.2.2.2.2.2.2.2.2.2.1, .n r.2.2.2.2.2.2.2.2.2.2.2.2.2]])):=by
 unfold f102s at h
 refine cI func102 λ_ _ _ _=>?_
 refine Rcl 2 q (Bx q q q (Bd q q (Zs _) q (WL.s ((kO q q (by exact(show Les [.n B] (List.map AV.d [.i .i64 B]) from Lw))).does) (Zw q) q q (Rll 12 q (sS Z6 s3 Z2 (St q (Rll 6 q ?_)))))))
 obtain⟨T,U,h⟩:=ax h
 refine WL.inl (us:=[.pt 0 0, .d (.ag (R27 e1))]) (λrv st'=>(∃(G:Bool),∃(H:Int),∃(a:be),∃(c21v100:Int),∃(c22v101:Int),∃(c23v102:Int),∃(c24v103:Int),T G H a c21v100 c22v101 c23v102 c24v103=some r∧Le rv (.tu [.d (.ag (R27 a)), .n H, .d (D.b G)])∧SLe st' [.row 234 [.l bj e, .l bJ f, .l cz g, .l cq j, .l E31 k, .l E80 m, .l cG p, .n w, .l cf x, .l bR y, .l cF A, .n jent, .n (IntKind.i64.wrap (jleft - 1))], .row 232 [.pt 0 0], .row 27 [.d (D.i .u8 e1.kind), .d (D.i .u8 c21v100), .n c22v101, .n c23v102, .n c24v103, .n 0, .n 0, .n 0,sN]])) q q q q q ?_ (Zw q) q q ?_
 refine cI func190 λ_ _ _ _=>?_
 refine Rcl 2 q (Bd q q (Zs _) q (Al z27 q (Rll 9 q (sS Z6 s23 Z2 (St q (Rlc 2 q (Jn5 (λI _ _ _ _=> [(4, .pt 2 0),(5, .n I)]) (λ_ c21v106 c22v107 c23v108 c24v109=> [.row 234 [.l bj e, .l bJ f, .l cz g, .l cq j, .l E31 k, .l E80 m, .l cG p, .n w, .l cf x, .l bR y, .l cF A, .n jent, .n (IntKind.i64.wrap (jleft - 1))], .row 232 [.pt 0 0], .row 27 [.d (D.i .u8 e1.kind), .d (D.i .u8 c21v106), .n c22v107, .n c23v108, .n c24v109, .n 0, .n 0, .n 0,sN]]) h (λ_ h=>?_) λI c21v106 c22v107 c23v108 c24v109 h=>?_)))))))
 refine Rcc 13 q (Ci h q (λh=>Rcl 4 q (sS Z6 s2 Z2 (St q (Rlx 2 q (En5 h))))) λh=>?_)
 refine Rcc 6 q (Ci h q (λh=>?_) λh=>?_)
 refine Rcc 2 q (cU kR kR (Rq 8 q ?_))
 obtain⟨a7,V,h⟩:=ac h
 refine WQ.q (YieldsQ.fn q q q q q (f97_c V) ⟨(aK (Zs _)),Zl,Zl,Zl,Zt⟩) (Zw q) q q (Rq 2 q ?_)
 obtain⟨W,O,h⟩:=ac h
 apply WQ.grp 12 (t:=30) (d:=42) (z:=W)
 exact q
 intro J
 have h:=ja O J
 refine Rq 12 q ?_
 obtain rfl:=Oi h
 exact WQ.nil ⟨[_,_,_,_,_,_,_,_,_,_,_,_],q,q,q⟩
 intro J
 have h:=jb O J
 refine Rq 8 q ?_
 obtain⟨a',P,h⟩:=ac h
 refine WQ.qy (aG e38 q Zl q (az P) (bO fh P) q) q q q (Rq 3 q ?_)
 obtain rfl:=Oi h
 exact WQ.nil ⟨[_,_,_,_,_,_,_,_,_,_,_,_],q,q,q⟩
 refine WQ.nil (Rxc 1 q (Ci h q (λh=>?_) λh=>?_))
 exact Rcl 3 q (sS Z6 s27 Z2 (St q (Rlx 8 q (al (rs3 q (dq q q a27 s27 q) (bh q) (bh q)) ⟨false,0,(be.mk e1.kind 0 0 0 0 0 0 0 []),0,0,0,0,h,(Le.tu ⟨(aK ⟨Zl,Zl,Zl,Zl,Zl,Zl,Zl,Zl,Le.nil,Zt⟩),Zl,Zl,Zt⟩),⟨Zp,Zp,Zp,Zt⟩⟩))))
 refine Rcc 2 q ?_
 apply RT [_,_,_,_,_, .u,_, .u] [5,7] [[.row 234 [.l bj e, .l bJ f, .l cz g, .l cq j, .l E31 k, .l E80 m, .l cG p, .n w, .l cf x, .l bR y, .l cF A, .n jent, .n (IntKind.i64.wrap (jleft - 1))], .row 232 [.pt 0 0], .row 27 [.d (D.i .u8 e1.kind), .d (D.i .u8 0), .n 0, .n e1.o, .n 0, .n 0, .n 0, .n 0,sN]],[.row 234 [.l bj e, .l bJ f, .l cz g, .l cq j, .l E31 k, .l E80 m, .l cG p, .n w, .l cf x, .l bR y, .l cF A, .n jent, .n (IntKind.i64.wrap (jleft - 1))], .row 232 [.pt 0 0], .row 27 [.d (D.i .u8 e1.kind), .d (D.i .u8 0), .n 0, .n e1.o, .n e1.off, .n 0, .n 0, .n 0,sN]]] [p01 3,p10 0,u01 3,u10 2,p01 4,p20 4 1,q01 4 1,q20 6 3 1] kR kR q q
 refine Y2 ?_
 refine X2b ?_
 refine Y1 ?_
 refine zo (λ_=>sS Z6 s3 Z2 (dw q q)) ?_
 refine Y1 ?_
 exact zo (λ_=>sS Z6 s3 Z2 (dw q q)) Zt
 exact Rxx 1 q (En5 h)
 refine Rcc 6 q (Ci h q (λh=>?_) λh=>?_)
 refine Rcl 5 q (sS Z6 s2 Z2 (St q (Rlc 2 q (Jn1 (λK=> [(4, .pt 2 0),(5, .n 0),(6, .d (D.b K))]) (λ_=> [.row 234 [.l bj e, .l bJ f, .l cz g, .l cq j, .l E31 k, .l E80 m, .l cG p, .n w, .l cf x, .l bR y, .l cF A, .n jent, .n (IntKind.i64.wrap (jleft - 1))], .row 232 [.pt 0 0], .row 27 [.d (D.i .u8 e1.kind), .d (D.i .u8 0), .n e1.n, .n 0, .n 0, .n 0, .n 0, .n 0,sN]]) h (λ_ h=>?_) λK h=>?_))))
 rcases pn (decide (e1.n≥0)) with C|C
 replace h:=ja h C
 apply RT [_,_,_,_,_,_,_,_,_,_,_,_,_, .u,_,_] [] [] [p01 4,p01 3,p10 1,p10 2,p10 3,p11 4 3,p20 5 4,p11 4 0,p20 7 4,p20 8 4,p20 9 4,p30 6 10 4,p20 4 11,p11 0 4,p00,p10 12] kR kR q q
 refine Y4 ?_
 refine zo (rc C) ?_
 refine Y8 ?_
 refine zo (λ_=>sS Z6 s27 Z2 (dw q q)) ?_
 exact Y2 Zt
 exact En1 h
 replace h:=jb h C
 apply RT [_,_,_,_,_,_,_,_,_,_,_,_,_, .u,_,_] [] [] [p01 4,p01 3,p10 1,p10 2,p10 3,p10 4,p10 4,p10 4,p10 4,p10 4,p10 4,p10 4,p20 4 11,p11 0 4,p00,p10 12] kR kR q q
 refine Y4 ?_
 refine zo (rc C) ?_
 refine Y8 ?_
 refine zo (λ_=>sS Z6 s27 Z2 (dw q q)) ?_
 exact Y2 Zt
 exact En1 h
 exact Rcx 3 q (al (rs3 q (dq q q a27 s27 q) (bh q) (bh q)) ⟨K,0,(be.mk e1.kind 0 e1.n 0 0 0 0 0 []),0,e1.n,0,0,h,(Le.tu ⟨(aK ⟨Zl,Zl,Zl,Zl,Zl,Zl,Zl,Zl,Le.nil,Zt⟩),Zl,Zl,Zt⟩),⟨Zp,Zp,Zp,Zt⟩⟩)
 refine Rcc 6 q (Ci h q (λh=>Rcl 2 q (sS Z6 s24 Z2 (St q (Rlx 3 q (En5 h))))) λh=>?_)
 refine Rcc 6 q (Ci h q (λh=>?_) λh=>?_)
 exact Rcl 3 q (Zq (pC q q q) q (Zq (pD q q q) q (Rl 1 q (sS Z6 s24 Z2 (St q (Rlx 3 q (En5 h)))))))
 refine Jn1 (λQ=> [(4, .pt 2 0),(78, .d (D.b Q))]) (λ_=> [.row 234 [.l bj e, .l bJ f, .l cz g, .l cq j, .l E31 k, .l E80 m, .l cG p, .n w, .l cf x, .l bR y, .l cF A, .n jent, .n (IntKind.i64.wrap (jleft - 1))], .row 232 [.pt 0 0], .row 27 [.d (D.i .u8 e1.kind), .d (D.i .u8 0), .n 0, .n 0, .n 0, .n 0, .n 0, .n 0,sN]]) h (λ_ h=>?_) (λQ h=>?_)
 exact Rcc 6 q (Ci h q (λh=>Rcx 1 q (En1 h)) λh=>Rcx 4 q (En1 h))
 refine Ci h q (λh=>?_) (λh=>?_)
 exact Rcx 4 q (En5 h)
 exact Rcl 3 q (sS Z6 s27 Z2 (St q (Rlx 7 q (al (rs3 q (dq q q a27 s27 q) (bh q) (bh q)) ⟨false,0,(be.mk e1.kind 0 0 0 0 0 0 0 []),0,0,0,0,h,(Le.tu ⟨(aK ⟨Zl,Zl,Zl,Zl,Zl,Zl,Zl,Zl,Le.nil,Zt⟩),Zl,Zl,Zt⟩),⟨Zp,Zp,Zp,Zt⟩⟩))))
 exact Rcl 4 q (sS Z6 s27 Z2 (St q (Rlx 5 q (al (rs3 q (dq q q a27 s27 q) (bh q) (bh q)) ⟨true,I,(be.mk e1.kind c21v106 c22v107 c23v108 c24v109 0 0 0 []),c21v106,c22v107,c23v108,c24v109,h,(Le.tu ⟨(aK ⟨Zl,Zl,Zl,Zl,Zl,Zl,Zl,Zl,Le.nil,Zt⟩),Zl,Zl,Zt⟩),⟨Zp,Zp,Zp,Zt⟩⟩))))
 rintro rv st1 ⟨G,H,a,c21v100,c22v101,c23v102,c24v103,h,hr,hst⟩
 subst U
 dsimp only at h
 refine WL.cast 20 q hr (WL.weak hst (Rl 4 q (Al z27 q (sS Z6 s27 Z2 (St q (Rl 2 q (Zn (Rcl 9 q ?_))))))))
 refine OG 3 29 32 3 3 ?_
 refine Rl 1 q ?_
 refine OG 3 33 36 3 3 ?_
 refine Rl 1 q ?_
 apply WL.or 6 (t:=37) (d:=43)
 exact q
 intro bb
 exact Rl 2 q (Zy (ab E27 e1.l e25 q q Zl) q q q (Rl 3 q (WL.nil ⟨q,[_,_,_,_,_,_],q,q,q⟩)))
 exact Rn 6 6
 refine Rl 1 q ?_
 refine OG 6 44 50 6 6 ?_
 refine Rl 1 q ?_
 refine OG 6 51 57 6 6 ?_
 refine Rl 1 q ?_
 refine OG 6 58 64 6 6 ?_
 refine Rl 1 q ?_
 refine OG 6 65 71 6 6 ?_
 refine Rl 1 q ?_
 refine OG 4 72 76 4 4 ?_
 refine Rl 1 q ?_
 refine OG 4 77 81 4 4 ?_
 refine Rl 1 q ?_
 refine OG 4 82 86 4 4 ?_
 refine Rlc 2 q (Ci h q (λh=>?_) λh=>?_)
 refine Rcx 7 q ?_
 obtain rfl:=Oi h
 exact gP 0 (rs1 q (bh q)) Zl q ⟨Zp,Zt⟩
 refine Rcl 7 q ?_
 obtain⟨X,Y,h⟩:=ax h
 refine WL.inl (us:=[.l E27 e1.l, .fn (.func 192) [] [.pt 1 0, .d (.pc (E3 B))]]) (λrv st'=>(∃(L:Bool),∃(c00v120:lN),∃(c01v121:lH),∃(c02v122:lP),∃(c03v123:lS),∃(c04v124:lL),∃(c05v125:lO),∃(c06v126:lT),∃(c07v127:Int),∃(c08v128:lK),∃(c09v129:lM),∃(c010v130:lC),∃(c011v131:Int),∃(c012v132:Int),X L c00v120 c01v121 c02v122 c03v123 c04v124 c05v125 c06v126 c07v127 c08v128 c09v129 c010v130 c011v131 c012v132=some r∧Le rv (.d (D.b L))∧SLe st' [.row 234 [.l bj c00v120, .l bJ c01v121, .l cz c02v122, .l cq c03v123, .l E31 c04v124, .l E80 c05v125, .l cG c06v126, .n c07v127, .l cf c08v128, .l bR c09v129, .l cF c010v130, .n c011v131, .n c012v132], .row 232 [.pt 0 0], .row 27 [.d (D.i .u8 e1.kind), .d (D.i .u8 c21v100), .n c22v101, .n c23v102, .n c24v103, .n 0, .n 0, .n 0,sN], .row 27 [.d (D.i .u8 a.kind), .d (D.i .u8 a.op), .n a.n, .n a.o, .n a.off, .n a.len, .n a.lo, .n a.hi, .l E27 a.l]])) q q q q q ?_ (Zw q) q q ?_
 refine cI func191 λ_ _ _ _=>?_
 refine Rcl 9 q ?_
 obtain⟨R,Z,h⟩:=ax h
 refine WL.inl (us:=[.l E27 e1.l, .fn (.func 192) [] [.pt 1 0, .d (.pc (E3 B))]]) (λrv st'=>(∃(E:Int),∃(c00v136:lN),∃(c01v137:lH),∃(c02v138:lP),∃(c03v139:lS),∃(c04v140:lL),∃(c05v141:lO),∃(c06v142:lT),∃(c07v143:Int),∃(c08v144:lK),∃(c09v145:lM),∃(c010v146:lC),∃(c011v147:Int),∃(c012v148:Int),R E c00v136 c01v137 c02v138 c03v139 c04v140 c05v141 c06v142 c07v143 c08v144 c09v145 c010v146 c011v147 c012v148=some r∧Le rv (.n E)∧SLe st' [.row 234 [.l bj c00v136, .l bJ c01v137, .l cz c02v138, .l cq c03v139, .l E31 c04v140, .l E80 c05v141, .l cG c06v142, .n c07v143, .l cf c08v144, .l bR c09v145, .l cF c010v146, .n c011v147, .n c012v148], .row 232 [.pt 0 0], .row 27 [.d (D.i .u8 e1.kind), .d (D.i .u8 c21v100), .n c22v101, .n c23v102, .n c24v103, .n 0, .n 0, .n 0,sN], .row 27 [.d (D.i .u8 a.kind), .d (D.i .u8 a.op), .n a.n, .n a.o, .n a.off, .n a.len, .n a.lo, .n a.hi, .l E27 a.l]])) q q q q q ?_ (Zw q) q q ?_
 refine cI func278 λ_ _ _ _=>?_
 refine Rcc 5 q (Jn13 (λ_ _ _ _ _ _ _ _ _ _ _ _ _=> []) (λc00v150 c01v151 c02v152 c03v153 c04v154 c05v155 c06v156 c07v157 c08v158 c09v159 c010v160 c011v161 c012v162=> [.row 234 [.l bj c00v150, .l bJ c01v151, .l cz c02v152, .l cq c03v153, .l E31 c04v154, .l E80 c05v155, .l cG c06v156, .n c07v157, .l cf c08v158, .l bR c09v159, .l cF c010v160, .n c011v161, .n c012v162], .row 232 [.pt 0 0], .row 27 [.d (D.i .u8 e1.kind), .d (D.i .u8 c21v100), .n c22v101, .n c23v102, .n c24v103, .n 0, .n 0, .n 0,sN], .row 27 [.d (D.i .u8 a.kind), .d (D.i .u8 a.op), .n a.n, .n a.o, .n a.off, .n a.len, .n a.lo, .n a.hi, .l E27 a.l]]) h (λad h=>?_) λc00v150 c01v151 c02v152 c03v153 c04v154 c05v155 c06v156 c07v157 c08v158 c09v159 c010v160 c011v161 c012v162 h=>?_)
 refine Rcl 3 q (Zq (ab E27 e1.l e25 q q Zl) q (Rlc 4 q (Ln14 (λM _ _ _ _ _ _ _ _ _ _ _ _ _=> [(0, .l E27 e1.l),(1, .fn (.func 192) [] [.pt 1 0, .d (.pc (E3 B))]),(7, .n (List.length e1.l:Int)),(8, .n M)]) (λ_ c00v179 c01v180 c02v181 c03v182 c04v183 c05v184 c06v185 c07v186 c08v187 c09v188 c010v189 c011v190 c012v191=> [.row 234 [.l bj c00v179, .l bJ c01v180, .l cz c02v181, .l cq c03v182, .l E31 c04v183, .l E80 c05v184, .l cG c06v185, .n c07v186, .l cf c08v187, .l bR c09v188, .l cF c010v189, .n c011v190, .n c012v191], .row 232 [.pt 0 0], .row 27 [.d (D.i .u8 e1.kind), .d (D.i .u8 c21v100), .n c22v101, .n c23v102, .n c24v103, .n 0, .n 0, .n 0,sN], .row 27 [.d (D.i .u8 a.kind), .d (D.i .u8 a.op), .n a.n, .n a.o, .n a.off, .n a.len, .n a.lo, .n a.hi, .l E27 a.l]]) (f102s_l1 F e1 B R ad) h (λ_ _ _ _ _ _ _ _ _ _ _ _ _ _ h=>by rw[f102s_l1] at h;cases h) λn M c00v179 c01v180 c02v181 c03v182 c04v183 c05v184 c06v185 c07v186 c08v187 c09v188 c010v189 c011v190 c012v191 h=>?_)))
 rw[f102s_l1] at h
 refine Rcc 6 q (Ci h q (λh=>?_) λh=>?_)
 refine Rcl 15 q (Ix h e25 rL q Zl q q λar _ h=>(Rl 1 q ?_))
 obtain⟨a0,a1,h⟩:=ax h
 refine WL.inl (us:=[.d (.ag (R27 ar)), .pt 1 0, .d (.pc (E3 B))]) (λrv st'=>(∃(N:Bool),∃(c00v209:lN),∃(c01v210:lH),∃(c02v211:lP),∃(c03v212:lS),∃(c04v213:lL),∃(c05v214:lO),∃(c06v215:lT),∃(c07v216:Int),∃(c08v217:lK),∃(c09v218:lM),∃(c010v219:lC),∃(c011v220:Int),∃(c012v221:Int),a0 N c00v209 c01v210 c02v211 c03v212 c04v213 c05v214 c06v215 c07v216 c08v217 c09v218 c010v219 c011v220 c012v221=some r∧Le rv (.d (D.b N))∧SLe st' [.row 234 [.l bj c00v209, .l bJ c01v210, .l cz c02v211, .l cq c03v212, .l E31 c04v213, .l E80 c05v214, .l cG c06v215, .n c07v216, .l cf c08v217, .l bR c09v218, .l cF c010v219, .n c011v220, .n c012v221], .row 232 [.pt 0 0], .row 27 [.d (D.i .u8 e1.kind), .d (D.i .u8 c21v100), .n c22v101, .n c23v102, .n c24v103, .n 0, .n 0, .n 0,sN], .row 27 [.d (D.i .u8 a.kind), .d (D.i .u8 a.op), .n a.n, .n a.o, .n a.off, .n a.len, .n a.lo, .n a.hi, .l E27 a.l]])) q q q q q ?_ (Zw q) q q ?_
 refine cI func192 λ_ _ _ _=>?_
 refine Rcl 2 q (Bd q q (Zs _) q (Rll 9 q ?_))
 obtain⟨c,a6,h⟩:=ac h
 refine oz [0] q q q q (S _ _ _ _ _ _ _ _ _ _ _ _ _ _ _ _ a6) Lw q dC (Re q) ⟨q,Zt⟩ q q (λ_=>q) (λ_=>(Re q)) (Zw q) q q (λbk=>?_)
 exact Rlx 5 q (al (rs1 q (bh q)) ⟨(!c.1),c.2.1,c.2.2.1,c.2.2.2.1,c.2.2.2.2.1,c.2.2.2.2.2.1,c.2.2.2.2.2.2.1,c.2.2.2.2.2.2.2.1,c.2.2.2.2.2.2.2.2.1,c.2.2.2.2.2.2.2.2.2.1,c.2.2.2.2.2.2.2.2.2.2.1,c.2.2.2.2.2.2.2.2.2.2.2.1,c.2.2.2.2.2.2.2.2.2.2.2.2.1,c.2.2.2.2.2.2.2.2.2.2.2.2.2,h,Zl,⟨Zp,Zp,Zp,Zp,Zt⟩⟩)
 rintro rv st1 ⟨N,c00v209,c01v210,c02v211,c03v212,c04v213,c05v214,c06v215,c07v216,c08v217,c09v218,c010v219,c011v220,c012v221,h,hr,hst⟩
 subst a1
 dsimp only at h
 refine WL.cast 16 q hr (WL.weak hst (Zn (Ci h q (λh=>?_) λh=>?_)))
 exact Rcx 12 q (al (rs1 q (bh q)) ⟨M,c00v209,c01v210,c02v211,c03v212,c04v213,c05v214,c06v215,c07v216,c08v217,c09v218,c010v219,c011v220,c012v221,h,Zl,⟨Zp,Zp,Zp,Zp,Zt⟩⟩)
 exact Rcx 7 q (dm ⟨_,⟨_,_,_,_,_,_,_,_,_,_,_,_,_,_,h,Sb,Tv⟩,Nat.lt_succ_self _⟩)
 exact Rcx 4 q (dm ⟨_,_,_,_,_,_,_,_,_,_,_,_,_,h,Sb,Tv⟩)
 exact Rcx 6 q (al (rs1 q (bh q)) ⟨(-1),c00v150,c01v151,c02v152,c03v153,c04v154,c05v155,c06v156,c07v157,c08v158,c09v159,c010v160,c011v161,c012v162,h,Zl,⟨Zp,Zp,Zp,Zp,Zt⟩⟩)
 rintro rv st1 ⟨E,c00v136,c01v137,c02v138,c03v139,c04v140,c05v141,c06v142,c07v143,c08v144,c09v145,c010v146,c011v147,c012v148,h,hr,hst⟩
 subst Z
 dsimp only at h
 exact WL.cast 7 q hr (WL.weak hst (Rl 2 q (Zn (Rcx 1 q (al (rs1 q (bh q)) ⟨(decide (E≥0)),c00v136,c01v137,c02v138,c03v139,c04v140,c05v141,c06v142,c07v143,c08v144,c09v145,c010v146,c011v147,c012v148,h,Zl,⟨Zp,Zp,Zp,Zp,Zt⟩⟩)))))
 rintro rv st1 ⟨L,c00v120,c01v121,c02v122,c03v123,c04v124,c05v125,c06v126,c07v127,c08v128,c09v129,c010v130,c011v131,c012v132,h,hr,hst⟩
 subst Y
 dsimp only at h
 refine WL.cast 90 q hr (WL.weak hst (Rl 2 q (Zn (Rcx 1 q ?_))))
 obtain rfl:=Oi h
 exact gP 0 (rs1 q (bh q)) Zl q ⟨Zp,Zt⟩

theorem f102_c:∀(n:Nat)(a:lN)(c:lH)(e:lP)(f:lS)(g:lL)(j:lO)(k:lT)(m:Int)(o:lK)(p:lM)(t:lC)(jent:Int)(jleft:Int)(x1:be)(x2:Int){r:Bool×lN×lH×lP×lS×lL×lO×lT×Int×lK×lM×lC×Int×Int},f102 n a c e f g j k m o p t jent jleft x1 x2=some r→Ctr prog 102 [.pt 0 0, .d (.ag (R27 x1)), .n x2] [.row 234 [.l bj a, .l bJ c, .l cz e, .l cq f, .l E31 g, .l E80 j, .l cG k, .n m, .l cf o, .l bR p, .l cF t, .n jent, .n jleft]] (pr 1 (.b r.1) (λ_=> [.row 234 [.l bj r.2.1, .l bJ r.2.2.1, .l cz r.2.2.2.1, .l cq r.2.2.2.2.1, .l E31 r.2.2.2.2.2.1, .l E80 r.2.2.2.2.2.2.1, .l cG r.2.2.2.2.2.2.2.1, .n r.2.2.2.2.2.2.2.2.1, .l cf r.2.2.2.2.2.2.2.2.2.1, .l bR r.2.2.2.2.2.2.2.2.2.2.1, .l cF r.2.2.2.2.2.2.2.2.2.2.2.1, .n r.2.2.2.2.2.2.2.2.2.2.2.2.1, .n r.2.2.2.2.2.2.2.2.2.2.2.2.2]]))
 |0,_,_,_,_,_,_,_,_,_,_,_,_,_,_,_,_,h=>by cases h
 |n+1,a,c,e,f,g,j,k,m,o,p,t,jent,jleft,x1,x2,_,h=>f102s_c (f102 n) a c e f g j k m o p t jent jleft x1 x2 (λa c e f g j k m o p t jent jleft x1 x2 _ h=>f102_c n a c e f g j k m o p t jent jleft x1 x2 h) h

theorem f53_c{t0:aB}{r:Bool}(h:f53 t0=some r):Pu prog 53 [.ag (aI t0)] (.b r):=by
 unfold f53 at h
 refine fI func53 λ_ _=>?_
 refine Rcl 2 q (Bd q q (Zs _) q (Rlc 3 q (Jn0 [(1, .d (.pc (aI t0)))] [] h (λf h=>?_) λh=>?_)))
 refine Rcl 5 q (Zq (ab bR t0.text.prots e52 q q Zl) q (Rlc 4 q (Ln1 (λc=> [(1, .d (.pc (aI t0))),(10, .l bR t0.text.prots),(11, .n (List.length t0.text.prots:Int)),(12, .n c)]) (λ_=> []) (f53_l1 t0 f) h (λ_ h=>by rw[f53_l1] at h;cases h) λn c h=>?_)))
 rw[f53_l1] at h
 refine Rcc 6 q (Ci h q (λh=>?_) λh=>?_)
 refine Rcc 2 q (Jn2 (λ_ _=> [(1, .d (.pc (aI t0))),(10, .l bR t0.text.prots),(11, .n (List.length t0.text.prots:Int)),(12, .n c)]) (λc00v60 c01v61=> [.row 111 [.n c00v60, .l E27 c01v61]]) h (λg h=>?_) λc00v60 c01v61 h=>?_)
 refine Rcl 3 q (Ix h e52 oI q Zl q q λa _ h=>(Rl 1 q (Al z111 q (sS Z6 s111 Z2 (Rll 9 q ?_)))))
 refine OG 4 19 23 4 4 ?_
 refine Rl 1 q ?_
 apply WL.or 5 (t:=24) (d:=29)
 exact q
 intro k
 exact Rl 2 q (Zy (ab E27 a.barriers e25 q q Zl) q q q (Rl 2 q (WL.nil ⟨q,[_,_,_,_,_],q,q,q⟩)))
 exact Rn 5 5
 refine Rlc 2 q (Ci h q (λh=>Rcx 12 q (FA h)) λh=>?_)
 refine Rcl 6 q (Zq (ab E27 a.barriers e25 q q Zl) q (Rlc 4 q (Ln1 (λe=> [(1, .d (.pc (aI t0))),(4, .pt 0 0),(10, .l bR t0.text.prots),(11, .n (List.length t0.text.prots:Int)),(12, .n c),(31, .l E27 a.barriers),(32, .n (List.length a.barriers:Int)),(33, .n e)]) (λ_=> [.row 111 [.n a.ceiling, .l E27 a.barriers]]) (f53_l2 t0 g a) h (λ_ h=>by rw[f53_l2] at h;cases h) λna e h=>?_)))
 rw[f53_l2] at h
 refine Rcc 6 q (Ci h q (λh=>?_) λh=>?_)
 refine Rcl 6 q (Ix h e25 rL q Zl q q λm _ h=>(Rl 1 q (Al z27 q (sS Z6 s27 Z2 (Rll 7 q (Zq (ab E27 a.barriers e25 q q Zl) q (Zq (bX p234 z234 q q) q (Bx q q q (Rll 7 q ?_)))))))))
 obtain⟨o,j,h⟩:=ac h
 refine oz [2] q q q q (f102_c 66 _ _ _ _ _ _ _ _ _ _ _ _ _ _ _ j) ⟨Zl,(aK (Zs _)),Zl,Zt⟩ q dC (Re q) ⟨q,Zt⟩ q q (λ_=>q) (λ_=>(Re q)) (Zw q) q q (λp=>?_)
 refine Rlc 3 q (Ci h q (λh=>Rcx 15 q (FA h)) λh=>?_)
 exact Rcx 7 q (WE.drop 1 (env':=[(1, .d (.pc (aI t0))),(4, .pt 0 0),(10, .l bR t0.text.prots),(11, .n (List.length t0.text.prots:Int)),(12, .n c),(31, .l E27 a.barriers),(32, .n (List.length a.barriers:Int)),(33, .n (IntKind.i64.wrap (e+1)))]) Sb q q (Nat.zero_le _) (Fn1 h))
 exact Rcx 5 q (En2 h)
 exact Rcx 4 q (WE.drop 0 (env':=[(1, .d (.pc (aI t0))),(10, .l bR t0.text.prots),(11, .n (List.length t0.text.prots:Int)),(12, .n (IntKind.i64.wrap (c+1)))]) Sb q q (Nat.zero_le _) (Fn1 h))
 exact Rcx 4 q (En0 h)
 exact Rcl 5 q (Zq (ab bR t0.text.prots e52 q q Zl) q (Rlx 5 q (FA h)))

theorem f193_c{n0:Int}{a:aB}{c:Int}{r:Bool}(h:f193 n0 a c=some r):Pu prog 193 [.i .i64 n0, .pc (aI a), .pc (E3 c)] (.b r):=by
 unfold f193 at h
 refine fI func193 λ_ _=>?_
 refine Rcl 10 q ?_
 obtain⟨e,d,h⟩:=ac h
 exact wF Z4 (f97_c d) Lw Z3 (Rlx 4 q (FA h))

theorem f105_c{t0:aB}{a:Int}{a2:px}{r:Bool}(h:f105 t0 a a2=some r):Pu prog 105 [.ag (aI t0), .i .i64 a, .ag (rD a2)] (.b r):=by
 unfold f105 at h
 refine fI func105 λ_ _=>?_
 refine Rcl 2 q (Bd q q (Zs _) q (WL.s ((kO q q (by exact(show Les [.n a] (List.map AV.d [.i .i64 a]) from Lw))).does) (Zw q) q q (Bd q q (Zs _) q (Rll 15 q (wF Z4 (f98_c) Lw Z3 (Rl 2 q ?_))))))
 obtain⟨e,f,h⟩:=ac h
 refine Gg 11 14 25 e f (λh=>?_) (λh=>?_) ?_
 exact On 11 11 h
 refine Rl 4 q ?_
 obtain⟨g,j,h⟩:=ac h
 refine Gg 6 18 24 g j (λh=>?_) (λh=>?_) ?_
 refine Rl 3 q ?_
 obtain⟨w,k,h⟩:=ac h
 exact WL.fn q q q q (f193_c k) Lw (bd q q q) q q (On 2 6 h)
 exact On 6 6 h
 exact On 1 6 h
 refine Rlc 2 q (Ci h q (λh=>Rcx 7 q (FA h)) λh=>?_)
 refine Rcc 16 q (Ci h q (λh=>?_) λh=>?_)
 refine Rcl 6 q ?_
 refine AG 4 33 37 4 4 ?_
 refine Rl 1 q ?_
 refine AG 4 38 42 4 4 ?_
 exact Rlx 6 q (FA h)
 refine Jn1 (λc=> [(5, .d (.pc (rD a2))),(7, .fn (.func 193) [] [.d (.pc (aI t0)), .d (.pc (E3 a))]),(43, .d (D.b c))]) (λ_=> []) h (λ_ h=>?_) (λc h=>?_)
 exact Rcc 6 q (Ci h q (λh=>Rcx 1 q (En1 h)) λh=>Rcx 4 q (En1 h))
 refine Ci h q (λh=>?_) (λh=>?_)
 refine Rcl 6 q ?_
 obtain⟨m,o,h⟩:=ac h
 refine Gg 5 49 54 m o (λh=>?_) (λh=>?_) ?_
 refine Rl 3 q ?_
 obtain⟨x,p,h⟩:=ac h
 exact WL.fn q q q q (f193_c p) Lw (bd q q q) q q (On 1 5 h)
 exact On 5 5 h
 exact Rlx 6 q (FA h)
 refine Rcl 9 q ?_
 apply WL.and 7 (t:=58) (d:=65)
 exact q
 intro y
 exact Rl 4 q (Zy (uF q q q) q q q (Rl 2 q (WL.nil ⟨q,[_,_,_,_,_,_,_],q,q,q⟩)))
 exact Rn 7 7
 exact Rlx 4 q (FA h)

theorem f54_c{t0:aB}{r:Bool}(h:f54 t0=some r):Pu prog 54 [.ag (aI t0)] (.b r):=by
 unfold f54 at h
 refine fI func54 λ_ _=>?_
 refine Rcl 2 q (Bd q q (Zs _) q (Rll 9 q (Zq (ab cq t0.text.selects e48 q q Zl) q (Rlc 3 q (Ci h q (λh=>?_) λh=>?_)))))
 exact Rcx 7 q (FA h)
 refine Rcc 2 q (Jn0 [] [] h (λm h=>?_) λh=>?_)
 refine Rcl 5 q (Zq (ab cq t0.text.selects e48 q q Zl) q (Rlc 4 q (Ln1 (λe=> [(1, .d (.pc (aI t0))),(12, .l cq t0.text.selects),(13, .n (List.length t0.text.selects:Int)),(14, .n e)]) (λ_=> []) (f54_l1 t0 m) h (λ_ h=>by rw[f54_l1] at h;cases h) λn e h=>?_)))
 rw[f54_l1] at h
 refine Rcc 6 q (Ci h q (λh=>?_) λh=>?_)
 refine Rcl 6 q (Ix h e48 uk q Zl q q λa _ h=>(Rl 1 q (Al z238 q (sS Z6 s238 Z2 (Rll 7 q (Zq (ab gN a.alts t3 q q Zl) q (Rl 2 q ?_)))))))
 apply WL.or 5 (t:=22) (d:=27)
 exact q
 intro F
 exact Rl 2 q (Zy (ab gN a.alts t3 q q Zl) q q q (Rl 2 q (WL.nil ⟨q,[_,_,_,_,_],q,q,q⟩)))
 exact Rn 5 5
 refine Rl 1 q ?_
 refine OG 4 28 32 4 4 ?_
 refine Rl 1 q ?_
 apply WL.or 8 (t:=33) (d:=41)
 exact q
 intro G
 exact Rl 5 q (Zy (ab E80 t0.text.objs e38 q q Zl) q q q (Rl 2 q (WL.nil ⟨q,[_,_,_,_,_,_,_,_],q,q,q⟩)))
 exact Rn 8 8
 refine Rl 1 q ?_
 apply WL.or 11 (t:=42) (d:=53)
 exact q
 intro H
 refine Rl 4 q ?_
 apply WL.and 6 (t:=46) (d:=52)
 exact q
 intro I
 exact Rl 3 q (WL.fn q q q q (f98_c) Lw (bd q q q) q q (Rl 2 q (WL.nil ⟨q,[_,_,_,_,_,_],q,q,q⟩)))
 exact Rn 6 6
 exact Rn 1 6
 exact Rn 11 11
 refine Rlc 2 q (Ci h q (λh=>Rcx 12 q (FA h)) λh=>?_)
 refine Rcl 7 q ?_
 obtain⟨o,p,h⟩:=ax h
 refine WL.inl (us:=[.l gN a.alts, .fn (.func 104) [] [.d (.pc (aI t0)), .pt 0 0]]) (λrv st'=>(∃(f:Bool),o f=some r∧Le rv (.d (D.b f))∧SLe st' [.row 238 [.l gN a.alts, .n a.obj, .n a.else_]])) q q q q q ?_ (Zw q) q q ?_
 refine cI func103 λ_ _ _ _=>?_
 refine Rcl 9 q ?_
 obtain⟨k,w,h⟩:=ax h
 refine WL.inl (us:=[.l gN a.alts, .fn (.func 104) [] [.d (.pc (aI t0)), .pt 0 0]]) (λrv st'=>(∃(c:Int),k c=some r∧Le rv (.n c)∧SLe st' [.row 238 [.l gN a.alts, .n a.obj, .n a.else_]])) q q q q q ?_ (Zw q) q q ?_
 refine cI func119 λ_ _ _ _=>?_
 refine Rcc 5 q (Jn0 [] [.row 238 [.l gN a.alts, .n a.obj, .n a.else_]] h (λx h=>?_) λh=>?_)
 refine Rcl 3 q (Zq (ab gN a.alts t3 q q Zl) q (Rlc 4 q (Ln1 (λg=> [(0, .l gN a.alts),(1, .fn (.func 104) [] [.d (.pc (aI t0)), .pt 0 0]),(7, .n (List.length a.alts:Int)),(8, .n g)]) (λ_=> [.row 238 [.l gN a.alts, .n a.obj, .n a.else_]]) (f54_l2 t0 a k x) h (λ_ h=>by rw[f54_l2] at h;cases h) λna g h=>?_)))
 rw[f54_l2] at h
 refine Rcc 6 q (Ci h q (λh=>?_) λh=>?_)
 refine Rcl 15 q (Ix h t3 uj q Zl q q λy _ h=>(Rl 1 q ?_))
 obtain⟨A,B,h⟩:=ax h
 refine WL.inl (us:=[.d (.ag (rD y)), .d (.pc (aI t0)), .pt 0 0]) (λrv st'=>(∃(j:Bool),A j=some r∧Le rv (.d (D.b j))∧SLe st' [.row 238 [.l gN a.alts, .n a.obj, .n a.else_]])) q q q q q ?_ (Zw q) q q ?_
 refine cI func104 λ_ _ _ J=>?_
 refine Rcl 2 q (Bd q q (Zs _) q (Rll 9 q ?_))
 obtain⟨C,E,h⟩:=ac h
 exact wF Z4 (f105_c E) Lw Z3 (Rlx 5 q (al (rs1 q (bh q)) ⟨(!C),h,Zl,⟨Zp,Zt⟩⟩))
 rintro rv st1 ⟨j,h,hr,hst⟩
 subst B
 dsimp only at h
 refine WL.cast 16 q hr (WL.weak hst (Zn (Ci h q (λh=>?_) λh=>?_)))
 exact Rcx 12 q (al (rs1 q (bh q)) ⟨g,h,Zl,⟨Zp,Zt⟩⟩)
 exact Rcx 7 q (Fn1 h)
 exact Rcx 4 q (En0 h)
 exact Rcx 6 q (al (rs1 q (bh q)) ⟨(-1),h,Zl,⟨Zp,Zt⟩⟩)
 rintro rv st1 ⟨c,h,hr,hst⟩
 subst w
 dsimp only at h
 exact WL.cast 7 q hr (WL.weak hst (Rl 2 q (Zn (Rcx 1 q (al (rs1 q (bh q)) ⟨(decide (c≥0)),h,Zl,⟨Zp,Zt⟩⟩)))))
 rintro rv st1 ⟨f,h,hr,hst⟩
 subst p
 dsimp only at h
 refine WL.cast 57 q hr (WL.weak hst (Zn (Ci h q (λh=>?_) λh=>?_)))
 exact Rcx 11 q (FA h)
 exact Rcx 7 q (WE.drop 0 (env':=[(1, .d (.pc (aI t0))),(12, .l cq t0.text.selects),(13, .n (List.length t0.text.selects:Int)),(14, .n (IntKind.i64.wrap (e+1)))]) Sb q q (Nat.zero_le _) (Fn1 h))
 exact Rcx 4 q (En0 h)
 exact Rcx 6 q (FA h)

theorem f106_c{h0:cb}{a1:Int}:Pu prog 106 [.ag (v9 h0), .i .i64 a1] (.b (f106 h0 a1)):=by
 generalize h:f106 h0 a1=r
 unfold f106 at h
 refine fI func106 λ_ _=>?_
 refine Rcl 2 q (Bd q q (Zs _) q (Rll 10 q ?_))
 refine AG 5 9 14 5 5 ?_
 exact Rlx 4 q (FB h)

theorem f55_c{t0:aB}{r:Bool}(h:f55 t0=some r):Pu prog 55 [.ag (aI t0)] (.b r):=by
 unfold f55 at h
 refine fI func55 λ_ _=>?_
 refine Rcl 2 q (Bd q q (Zs _) q (Rll 9 q (Zq (ab bJ t0.text.handlers e46 q q Zl) q (Rlc 3 q (Ci h q (λh=>?_) λh=>?_)))))
 exact Rcx 7 q (FA h)
 refine Rcc 2 q (Jn0 [] [] h (λf h=>?_) λh=>?_)
 refine Rcl 5 q (Zq (ab bJ t0.text.handlers e46 q q Zl) q (Rlc 4 q (Ln1 (λa=> [(1, .d (.pc (aI t0))),(15, .l bJ t0.text.handlers),(16, .n (List.length t0.text.handlers:Int)),(17, .n a)]) (λ_=> []) (f55_l1 t0 f) h (λ_ h=>by rw[f55_l1] at h;cases h) λn a h=>?_)))
 rw[f55_l1] at h
 refine Rcc 6 q (Ci h q (λh=>?_) λh=>?_)
 refine Rcc 2 q (Jn4 (λ_ _ _ _=> [(1, .d (.pc (aI t0))),(15, .l bJ t0.text.handlers),(16, .n (List.length t0.text.handlers:Int)),(17, .n a)]) (λc00v99 c01v100 c02v101 c03v102=> [.row 156 [.n c00v99, .n c01v100, .n c02v101, .d (D.b c03v102)]]) h (λg h=>?_) λc00v99 c01v100 c02v101 c03v102 h=>?_)
 refine Rcl 4 q (Ix h e46 oH q Zl q q λc _ h=>(Rl 1 q (Al z156 q (Rl 1 q (sS Z6 s156 Z2 (Rll 9 q ?_))))))
 refine OG 6 25 31 6 6 ?_
 refine Rl 1 q ?_
 apply WL.or 8 (t:=32) (d:=40)
 exact q
 intro k
 exact Rl 5 q (Zy (ab bj t0.text.insns e45 q q Zl) q q q (Rl 2 q (WL.nil ⟨q,[_,_,_,_,_,_,_,_],q,q,q⟩)))
 exact Rn 8 8
 refine Rl 1 q ?_
 apply WL.or 6 (t:=41) (d:=47)
 exact q
 intro m
 exact Rl 3 q (WL.fn q q q q (f98_c) Lw (bd q q q) q q (Rl 2 q (WL.nil ⟨q,[_,_,_,_,_,_],q,q,q⟩)))
 exact Rn 6 6
 refine Rl 1 q ?_
 apply WL.or 5 (t:=48) (d:=53)
 exact q
 intro o
 exact Rl 3 q (WL.fn q q q q (f106_c) ⟨(aK (Zs _)),Zl,Zt⟩ (bd q q q) q q (Rl 1 q (WL.nil ⟨q,[_,_,_,_,_],q,q,q⟩)))
 exact Rn 5 5
 refine Rlc 2 q (Ci h q (λh=>Rcx 12 q (FA h)) λh=>?_)
 refine Rcl 8 q ?_
 replace h:=kB h
 obtain⟨j,h⟩:=h
 refine Zq (k8 bJ t0.text.handlers (l:=0) (h:=a) e46 q Zl q ⟨_,q⟩ j λ_=>q) q (Zq (ab bJ (cW t0.text.handlers 0 a) e46 q q Zl) q (Rlc 4 q (Ln1 (λe=> [(1, .d (.pc (aI t0))),(4, .pt 0 0),(15, .l bJ t0.text.handlers),(16, .n (List.length t0.text.handlers:Int)),(17, .n a),(58, .l bJ (cW t0.text.handlers 0 a)),(59, .n (List.length (cW t0.text.handlers 0 a):Int)),(60, .n e)]) (λ_=> [.row 156 [.n c.from_, .n c.to, .n c.at_, .d (D.b c.clean)]]) (f55_l2 t0 a g c) h (λ_ h=>by rw[f55_l2] at h;cases h) λna e h=>?_)))
 rw[f55_l2] at h
 refine Rcc 6 q (Ci h q (λh=>?_) λh=>?_)
 refine Rcl 6 q (Ix h e46 oH q Zl q q λp _ h=>(Rl 1 q (Al z156 q (sS Z6 s156 Z2 (Rll 10 q ?_)))))
 refine AG 6 69 75 6 6 ?_
 refine Rll 8 q ?_
 apply WL.and 12 (t:=78) (d:=90)
 exact q
 intro w
 exact Rl 4 q (Zy (pD q q q) q q q (Rl 4 q (Zy (pC q q q) q q q (Rl 2 q (WL.nil ⟨q,[_,_,_,_,_,_,_,_,_,_,_,_],q,q,q⟩)))))
 exact Rn 12 12
 refine Rlc 2 q (Ci h q (λh=>Rcx 15 q (FA h)) λh=>?_)
 exact Rcx 7 q (WE.drop 1 (env':=[(1, .d (.pc (aI t0))),(4, .pt 0 0),(15, .l bJ t0.text.handlers),(16, .n (List.length t0.text.handlers:Int)),(17, .n a),(58, .l bJ (cW t0.text.handlers 0 a)),(59, .n (List.length (cW t0.text.handlers 0 a):Int)),(60, .n (IntKind.i64.wrap (e+1)))]) Sb q q (Nat.zero_le _) (Fn1 h))
 exact Rcx 5 q (En4 h)
 exact Rcx 4 q (WE.drop 0 (env':=[(1, .d (.pc (aI t0))),(15, .l bJ t0.text.handlers),(16, .n (List.length t0.text.handlers:Int)),(17, .n (IntKind.i64.wrap (a+1)))]) Sb q q (Nat.zero_le _) (Fn1 h))
 exact Rcx 4 q (En0 h)
 exact Rcx 6 q (FA h)

theorem f107_c{x0:dl}{a:Int}:Pu prog 107 [.ag (fg x0), .i .i64 a] (.b (f107 x0 a)):=by
 generalize h:f107 x0 a=r
 unfold f107 at h
 refine fI func107 λ_ _=>?_
 refine Rcl 2 q (Bd q q (Zs _) q (Rll 9 q ?_))
 refine OG 4 8 12 4 4 ?_
 refine Rl 1 q ?_
 refine OG 4 13 17 4 4 ?_
 refine Rl 1 q ?_
 refine AG 5 18 23 5 5 ?_
 exact Rlx 4 q (FB h)

theorem f56_c{t0:aB}{r:Bool}(h:f56 t0=some r):Pu prog 56 [.ag (aI t0)] (.b r):=by
 unfold f56 at h
 refine fI func56 λ_ _=>?_
 refine Rcl 2 q (Bd q q (Zs _) q (Rll 9 q (Zq (ab cz t0.text.loops e47 q q Zl) q (Rlc 3 q (Ci h q (λh=>?_) λh=>?_)))))
 exact Rcx 7 q (FA h)
 refine Rcl 4 q (WL.s ((gF (α:=Bool) (λx:Int=>Value.int .i64 x) (λx:Bool=>AV.d (.b x))).does) (Zw q) q q (Rlc 3 q (Jn1 (λ_=> []) (λf=> [mpO (λx:Int=>Value.int .i64 x) (λx:Bool=>AV.d (.b x)) f]) h (λk h=>?_) λf h=>?_)))
 refine Rcl 5 q (Zq (ab cz t0.text.loops e47 q q Zl) q (Rlc 4 q (Ln2 (λc _=> [(1, .d (.pc (aI t0))),(3, .mp 0),(14, .l cz t0.text.loops),(15, .n (List.length t0.text.loops:Int)),(16, .n c)]) (λ_ a=> [mpO (λx:Int=>Value.int .i64 x) (λx:Bool=>AV.d (.b x)) a]) (f56_l1 t0 k) h (λ_ _ h=>by rw[f56_l1] at h;cases h) λn c a h=>?_)))
 rw[f56_l1] at h
 refine Rcc 6 q (Ci h q (λh=>?_) λh=>?_)
 refine Rcl 6 q (Ix h e47 ui q Zl q q λo _ h=>(Rl 1 q (Al z247 q (sS Z6 s247 Z2 (Rlc 4 q (cU kR kR (Rq 4 q ?_)))))))
 apply WQ.or 6 (t:=23) (d:=29)
 exact q
 intro p
 exact Rq 6 q (WQ.nil ⟨[_,_,_,_,_,_],q,q,q⟩)
 exact Rq 6 q (WQ.nil ⟨[_,_,_,_,_,_],q,q,q⟩)
 refine Rq 1 q ?_
 apply WQ.or 6 (t:=30) (d:=36)
 exact q
 intro w
 exact Rq 3 q (WQ.q (YieldsQ.fn q q q q q (f98_c) Lw) (bd q q q) q q (Rq 2 q (WQ.nil ⟨[_,_,_,_,_,_],q,q,q⟩)))
 exact Rq 6 q (WQ.nil ⟨[_,_,_,_,_,_],q,q,q⟩)
 refine Rq 1 q ?_
 apply WQ.or 5 (t:=37) (d:=42)
 exact q
 intro y
 exact Rq 3 q (WQ.qy (ld (λx:Int=>Value.int .i64 x) (λx:Bool=>AV.d (.b x)) a (z:=false) underlying231 underlying3 (KeyF.int .i64) q q q kR q) q q q (Rq 1 q (WQ.nil ⟨[_,_,_,_,_],q,q,q⟩)))
 exact Rq 5 q (WQ.nil ⟨[_,_,_,_,_],q,q,q⟩)
 refine Rq 1 q ?_
 obtain⟨m,g,h⟩:=ac h
 apply WQ.grp 12 (t:=43) (d:=55) (z:=m)
 exact q
 intro e
 have h:=ja g e
 refine Rq 12 q ?_
 obtain rfl:=Oi h
 exact WQ.nil ⟨[_,_,_,_,_,_,_,_,_,_,_,_],q,q,q⟩
 intro e
 have h:=jb g e
 refine Rq 5 q ?_
 obtain⟨A,j,h⟩:=ac h
 refine WQ.qy (aG e45 q Zl q (az j) (bO eF j) q) q q q (Rq 3 q (WQ.q (YieldsQ.fn q q q q q (f107_c) Lw) (bd q q q) q q (Rq 2 q ?_)))
 obtain rfl:=Oi h
 exact WQ.nil ⟨[_,_,_,_,_,_,_,_,_,_,_,_],q,q,q⟩
 refine Rq 1 q ?_
 apply WQ.or 4 (t:=56) (d:=60)
 exact q
 intro B
 exact Rq 4 q (WQ.nil ⟨[_,_,_,_],q,q,q⟩)
 exact Rq 4 q (WQ.nil ⟨[_,_,_,_],q,q,q⟩)
 refine Rq 1 q ?_
 apply WQ.or 4 (t:=61) (d:=65)
 exact q
 intro C
 exact Rq 4 q (WQ.nil ⟨[_,_,_,_],q,q,q⟩)
 exact Rq 4 q (WQ.nil ⟨[_,_,_,_],q,q,q⟩)
 refine WQ.nil (Rxc 1 q (Ci h q (λh=>?_) λh=>?_))
 exact Rcx 12 q (FA h)
 exact Rcl 6 q (WL.s0 (gY (λx:Int=>Value.int .i64 x) (λx:Bool=>AV.d (.b x)) a (.inr q) underlying231 underlying3 (KeyF.int .i64) q q q q) (Zw q) q (Rlx 7 q (WE.drop 1 (env':=[(1, .d (.pc (aI t0))),(3, .mp 0),(14, .l cz t0.text.loops),(15, .n (List.length t0.text.loops:Int)),(16, .n (IntKind.i64.wrap (c+1)))]) Sb q (jC (qz _ _ _ _) q) (Nat.zero_le _) (Fn2 h))))
 exact Rcx 4 q (En1 h)
 exact Rcx 6 q (FA h)

theorem f108_c{t0:aB}{a1:Int}{r:Bool}(h:f108 t0 a1=some r):Pu prog 108 [.ag (aI t0), .i .i64 a1] (.b r):=by
 unfold f108 at h
 refine fI func108 λ_ _=>?_
 refine Rcl 2 q (Bd q q (Zs _) q (Rll 7 q (wF Z4 (f98_c) Lw Z3 (Rl 1 q ?_))))
 obtain⟨d,e,h⟩:=ac h
 refine Gg 19 8 27 d e (λh=>?_) (λh=>?_) ?_
 refine Rl 4 q ?_
 obtain⟨j,a,h⟩:=ac h
 refine Zy (aG e45 q Zl q (az a) (bO eF a) q) q q q (Rl 4 q ?_)
 obtain⟨f,g,h⟩:=ac h
 refine Gg 9 17 26 f g (λh=>?_) (λh=>?_) ?_
 exact On 9 9 h
 refine Rl 4 q ?_
 obtain⟨k,c,h⟩:=ac h
 exact Zy (aG e45 q Zl q (az c) (bO eF c) q) q q q (On 4 9 h)
 exact On 1 11 h
 exact On 19 19 h
 exact Rlx 4 q (FA h)

theorem f57_c{t0:aB}{r:Bool}(h:f57 t0=some r):Pu prog 57 [.ag (aI t0)] (.b r):=by
 unfold f57 at h
 refine fI func57 λ_ _=>?_
 refine Rcl 2 q (Bd q q (Zs _) q (Rlc 8 q (Jn0 [] [] h (λe h=>?_) λh=>?_)))
 refine Rcl 5 q (Zq (ab cF t0.text.checks e53 q q Zl) q (Rlc 4 q (Ln2 (λc a=> [(1, .d (.pc (aI t0))),(3, .n c),(8, .l cF t0.text.checks),(9, .n (List.length t0.text.checks:Int)),(10, .n a)]) (λ_ _=> []) (f57_l1 t0 e) h (λ_ _ h=>by rw[f57_l1] at h;cases h) λn c a h=>?_)))
 rw[f57_l1] at h
 refine Rcc 6 q (Ci h q (λh=>?_) λh=>?_)
 refine Rcl 6 q (Ix h e53 uh q Zl q q λf _ h=>(Rl 1 q (Al z251 q (sS Z6 s251 Z2 (Rll 10 q ?_)))))
 obtain⟨g,j,h⟩:=ac h
 refine Gg 6 18 24 g j (λh=>?_) (λh=>?_) ?_
 exact On 6 6 h
 refine Rl 3 q ?_
 obtain⟨m,k,h⟩:=ac h
 exact WL.fn q q q q (f108_c k) Lw (bd q q q) q q (On 2 6 h)
 refine Rl 1 q ?_
 refine OG 4 25 29 4 4 ?_
 refine Rl 1 q ?_
 refine OG 4 30 34 4 4 ?_
 refine Rlc 2 q (Ci h q (λh=>Rcx 12 q (FA h)) λh=>?_)
 exact Rcx 13 q (WE.drop 0 (env':=[(1, .d (.pc (aI t0))),(3, .n f.at_),(8, .l cF t0.text.checks),(9, .n (List.length t0.text.checks:Int)),(10, .n (IntKind.i64.wrap (a+1)))]) Sb q q (Nat.zero_le _) (Fn2 h))
 exact Rcx 4 q (En0 h)
 exact Rcx 6 q (FA h)

theorem f109_c(s0:lN)(a:dl→oB)(g1:FuncId)(c e:lD)(g:∀(y0:dl)(r:Bool),a y0=some r→Pu prog g1 (c++ [.ag (fg y0)]++e) (.b r)){r:Int}(h:f109 s0 a=some r):Pu prog 109 [.sl (List.map bj s0), .fnc (.func g1) c e] (.i .i64 r):=by
 unfold f109 at h
 refine fI func109 λ_ _=>?_
 refine WC.cast 1 q (eE _ _ _) (Rcc 5 q (Jn0 [] [] h (λj h=>?_) λh=>?_))
 refine Rcl 3 q (Zq (ab bj s0 e45 q q Zl) q (Rlc 4 q (Ln1 (λf=> [(0, .l bj s0),(1, .fn (.func g1) (List.map AV.d c) (List.map AV.d e)),(7, .n (List.length s0:Int)),(8, .n f)]) (λ_=> []) (f109_l1 s0 a j) h (λ_ h=>by rw[f109_l1] at h;cases h) λn f h=>?_)))
 rw[f109_l1] at h
 refine Rcc 6 q (Ci h q (λh=>?_) λh=>?_)
 refine Rcl 15 q (Ix h e45 eF q Zl q q λm _ h=>(Rl 1 q ?_))
 obtain⟨o,k,h⟩:=ac h
 refine WL.fn q q q q (g _ _ k) (kY Lw) (Zw q) q q (Rlc 2 q (Ci h q (λh=>?_) λh=>?_))
 exact Rcx 12 q (FA h)
 exact Rcx 7 q (Fn1 h)
 exact Rcx 4 q (En0 h)
 exact Rcx 6 q (FA h)

theorem f58_c(s0:lN)(d:dl→oB)(g1:FuncId)(a c:lD)(e:∀(y0:dl)(r:Bool),d y0=some r→Pu prog g1 (a++ [.ag (fg y0)]++c) (.b r)){r:Bool}(h:f58 s0 d=some r):Pu prog 58 [.sl (List.map bj s0), .fnc (.func g1) a c] (.b r):=by
 unfold f58 at h
 refine fI func58 λ_ _=>?_
 refine WC.cast 1 q (eE _ _ _) (Rcl 9 q ?_)
 obtain⟨g,f,h⟩:=ac h
 exact wF Z4 (f109_c _ _ g1 a c e f) ⟨Zl,(Le.fnc (Zs _) (Zs _)),Zt⟩ Z3 (Rlx 5 q (FA h))

theorem f194_c{o0:Int}{r:gJ×Bool}(h:f194 o0=some r):Pu prog 194 [.i .u8 o0] (.tu [.ag (v8 r.1), .b r.2]):=by
 unfold f194 at h
 refine fI func194 λ_ _=>?_
 refine Rcl 2 q (Al rM q (Rll 9 q ?_))
 refine OG 4 6 10 4 4 ?_
 refine Rlc 2 q (Ci h q (λh=>?_) λh=>?_)
 refine Rcl 2 q (Zq (bX p331 rM q q) q (sS Z6 oW Z2 (Rlx 5 q ?_)))
 obtain rfl:=Oi h
 exact aT (rs2 q (dq q q a331 oW q) (bh q)) (gL ⟨(aK (Zs _)),Zl,Zt⟩)
 refine Rcl 6 q ?_
 obtain⟨c,a,h⟩:=ac h
 refine Zq (uD (R:=v8) fO (λ_=>q) ar395 (congrArg (Option.map λps=>AV.d (.pc ps)) kA) q q a) q (Rl 1 q (sS Z6 oW Z2 (Rlx 4 q ?_)))
 obtain rfl:=Oi h
 exact aT (rs2 q (dq q q a331 oW q) (bh q)) (gL ⟨(aK (Zs _)),Zl,Zt⟩)

theorem f280_c{s0:ByteArray}{r:List ByteArray}(h:f280 s0=some r):Pu prog 280 [.s s0] (.sl (List.map E9 r)):=by
 unfold f280 at h
 refine fI func280 λ_ _=>?_
 refine Rcc 20 q (Jn2 (λc setBits109=> [(0, .d (D.s s0)),(3, .n c),(5, .d (D.i .u8 setBits109))]) (λ_ _=> []) h (λI h=>?_) λc setBits109 h=>?_)
 refine Rcc 6 q (Ln4 (λp wasSpace116 setBits117 t=> [(0, .d (D.s s0)),(3, .n p),(4, .n wasSpace116),(5, .d (D.i .u8 setBits117)),(6, .n t)]) (λ_ _ _ _=> []) (f280_l1 s0 I) h (λ_ _ _ _ h=>by rw[f280_l1] at h;cases h) λn p wasSpace116 setBits117 t h=>?_)
 rw[f280_l1] at h
 refine Rcl 5 q (Zq (cR underlying9 q q) q (Rlc 3 q (Ci h q (λh=>?_) λh=>?_)))
 refine Rcl 8 q ?_
 obtain⟨a6,J,h⟩:=ac h
 refine Zq (bg underlying9 q q J) q (Rll 7 q (Zq (uF q q q) q (Rll 6 q ?_)))
 obtain⟨a7,K,h⟩:=ac h
 exact Zq (nh (E:=D.i .u8) bK ov q q q K) q (Rll 10 q (Zq (y_com q q) q (Zq (uo q q q) q (Rlx 15 q (Fn4 h)))))
 exact Rcx 4 q (En2 h)
 refine Rcc 7 q (Ci h q (λh=>?_) λh=>?_)
 refine Rcc 1 q ?_
 cases h
 refine Rcl 5 q ?_
 replace h:=kB h
 obtain⟨L,h⟩:=h
 refine WL.s ((NewOs.b (NewOs.cast (gW l397 z9 q (Nat.succ_pos _) q q L) (by exact iC (R:=E9) (z:=(ByteArray.empty:ByteArray)) q))).does) (Zw q) q q (Rlc 18 q (Jn1 (λw=> [(0, .d (D.s s0)),(9, .os 0 0),(10, .n 0),(12, .n w)]) (λ_=> [.os 9 1 0 (eM E9 (List.replicate (Int.toNat c) (ByteArray.empty:ByteArray)))]) h (λM h=>?_) λw h=>?_))
 refine Rcc 1 q (Ln1 (λx=> [(0, .d (D.s s0)),(9, .os 0 0),(10, .n 0),(12, .n x)]) (λ_=> [.os 9 1 0 (eM E9 (List.replicate (Int.toNat c) (ByteArray.empty:ByteArray)))]) (f280_l2 s0 M) h (λ_ h=>by rw[f280_l2] at h;cases h) λn x h=>?_)
 rw[f280_l2] at h
 refine Rcl 5 q (Zq (cR underlying9 q q) q (Rl 2 q ?_))
 obtain⟨N,O,h⟩:=ac h
 refine Gg 7 46 53 N O (λh=>?_) (λh=>?_) ?_
 refine Rl 2 q ?_
 obtain⟨a',P,h⟩:=ac h
 refine Zy (bg underlying9 q q P) q q q ?_
 obtain⟨bb,Q,h⟩:=ac h
 exact Zy (nh (E:=D.i .u8) bK ov q q q Q) q q q (On 3 7 h)
 exact On 7 7 h
 exact Rlc 2 q (Ci h q (λh=>Rcx 9 q (Fn1 h)) λh=>Rcx 4 q (En1 h))
 refine Rcc 6 q (Jn3 (λf fieldStart135 _=> [(0, .d (D.s s0)),(9, .os 0 0),(10, .n f),(11, .n fieldStart135)]) (λ_ _ y=> [.os 9 1 0 (eM E9 y)]) h (λS h=>?_) λf fieldStart135 y h=>?_)
 refine Rcc 1 q (Ln4 (λa fieldStart143 A _=> [(0, .d (D.s s0)),(9, .os 0 0),(10, .n a),(11, .n fieldStart143),(12, .n A)]) (λ_ _ _ e=> [.os 9 1 0 (eM E9 e)]) (f280_l3 s0 S) h (λ_ _ _ _ h=>by rw[f280_l3] at h;cases h) λn a fieldStart143 A e h=>?_)
 rw[f280_l3] at h
 refine Rcl 5 q (Zq (cR underlying9 q q) q (Rlc 3 q (Ci h q (λh=>?_) λh=>?_)))
 refine Rcc 2 q ?_
 replace h:=ax h
 obtain⟨T,U,h⟩:=h
 refine rU (λenv' st'=>∃(g:Int),∃(fieldStart151:Int),∃(j:Int),∃(m:List ByteArray),T g fieldStart151 j m=some r∧Sub [(0, .d (D.s s0)),(9, .os 0 0),(10, .n g),(11, .n fieldStart151),(12, .n j)] env'∧SLe st' [.os 9 1 0 (eM E9 m)]) ?_ ?_
 refine Rcl 6 q ?_
 obtain⟨bk,V,h⟩:=ac h
 refine Zq (bg underlying9 q q V) q ?_
 obtain⟨bs,W,h⟩:=ac h
 refine Zq (nh (E:=D.i .u8) bK ov q q q W) q (Rlc 4 q (Ci h q (λh=>?_) λh=>?_))
 exact Rcx 10 q (En4 h)
 refine Rcl 9 q ?_
 obtain⟨o,X,h⟩:=ac h
 refine Zq (uE underlying9 q q q X) q ?_
 obtain⟨b0,B,h⟩:=ac h
 refine Zq (y_pe tZ q q q B) q (WL.s0 (gX (R:=E9) (k:=1) (i:=a) (fo:=0) o q q q q Zl q q q s9 q (λ_=>q) B q q) (Zw q) q (Rlc 16 q (Jn1 (λC=> [(0, .d (D.s s0)),(9, .os 0 0),(10, .n (IntKind.i64.wrap (a+1))),(12, .n C)]) (λ_=> [.os 9 1 0 (eM E9 (List.set e (Int.toNat a) o))]) h (λY h=>?_) λC h=>?_)))
 refine Rcc 1 q (Ln1 (λF=> [(0, .d (D.s s0)),(9, .os 0 0),(10, .n (IntKind.i64.wrap (a+1))),(12, .n F)]) (λ_=> [.os 9 1 0 (eM E9 (List.set e (Int.toNat a) o))]) (f280_l4 s0 Y) h (λ_ h=>by rw[f280_l4] at h;cases h) λna F h=>?_)
 rw[f280_l4] at h
 refine Rcl 5 q (Zq (cR underlying9 q q) q (Rl 2 q ?_))
 obtain⟨Z,ad,h⟩:=ac h
 refine Gg 7 84 91 Z ad (λh=>?_) (λh=>?_) ?_
 refine Rl 2 q ?_
 obtain⟨b1,ag,h⟩:=ac h
 refine Zy (bg underlying9 q q ag) q q q ?_
 obtain⟨b2,ar,h⟩:=ac h
 exact Zy (nh (E:=D.i .u8) bK ov q q q ar) q q q (On 3 7 h)
 exact On 7 7 h
 exact Rlc 2 q (Ci h q (λh=>Rcx 9 q (Fn1 h)) λh=>Rcx 4 q (En1 h))
 exact Rcx 5 q (En4 h)
 rintro b3 st1 ⟨g,fieldStart151,j,m,h,hsub,hst⟩
 subst U
 dsimp only at h
 refine WE.sub hsub (WE.weak hst ?_)
 exact Fn4 h
 exact Rcx 4 q (En3 h)
 refine Jn1 (λ_=> [(9, .os 0 0)]) (λG=> [.os 9 1 0 (eM E9 G)]) h (λ_ h=>?_) (λG h=>?_)
 refine Rcl 4 q (Zq (cR underlying9 q q) q (Rlc 3 q (Ci h q (λh=>?_) λh=>?_)))
 refine Rcl 5 q ?_
 obtain⟨a0,a1,h⟩:=ac h
 refine Zq (rN underlying9 q q a1) q ?_
 obtain⟨b',H,h⟩:=ac h
 exact Zq (y_pe tZ q q q H) q (WL.s0 (gX (R:=E9) (k:=1) (i:=f) (fo:=0) a0 q q q q Zl q q q s9 q (λ_=>q) H q q) (Zw q) q (Rlx 1 q (En1 h)))
 exact Rcx 1 q (En1 h)
 refine Rcx 7 q ?_
 exact WE.freezeX [9,105,2] [] 0 _ q (q' uC _) ⟨q,q,q,Zt⟩ Zt (FA h)

theorem f283_c{a:Int}:Pu prog 283 [.i .u8 a] (.tu [.i .i64 (f283 a).1, .i .i64 (f283 a).2]):=by
 generalize h:f283 a=r
 unfold f283 at h
 refine fI func283 λ_ _=>?_
 refine Rcc 19 q (Ci h q (λh=>Rcx 9 q (FB h)) λh=>?_)
 refine Rcc 6 q (Ci h q (λh=>Rcx 9 q (FB h)) λh=>?_)
 refine Rcc 6 q (Ci h q (λh=>Rcx 9 q (FB h)) λh=>?_)
 refine Rcc 6 q (Ci h q (λh=>Rcx 9 q (FB h)) λh=>?_)
 refine Rcc 6 q (Ci h q (λh=>Rcx 9 q (FB h)) λh=>?_)
 refine Rcc 6 q (Ci h q (λh=>Rcx 9 q (FB h)) λh=>?_)
 refine Rcc 6 q (Ci h q (λh=>Rcx 9 q (FB h)) λh=>?_)
 refine Rcc 6 q (Ci h q (λh=>Rcx 9 q (FB h)) λh=>?_)
 refine Rcc 6 q (Ci h q (λh=>Rcx 9 q (FB h)) λh=>?_)
 refine Rcc 6 q (Ci h q (λh=>Rcx 9 q (FB h)) λh=>?_)
 refine Rcc 6 q (Ci h q (λh=>Rcx 9 q (FB h)) λh=>?_)
 exact Rcc 6 q (Ci h q (λh=>Rcx 9 q (FB h)) λh=>Rcx 10 q (FB h))

theorem f110_c{x0:dl}{r:Bool}(h:f110 x0=some r):Pu prog 110 [.ag (fg x0)] (.b r):=by
 unfold f110 at h
 refine fI func110 λ_ _=>?_
 refine Rcl 2 q (Bd q q (Zs _) q (Al z4 q (Rll 7 q ?_)))
 obtain⟨c,Q,h⟩:=ac h
 refine wF Z4 (f194_c Q) Lw Z3 (Rl 3 q (Al rM q (sS Z6 oW Z2 (Rll 8 q ?_))))
 apply WL.or 11 (t:=16) (d:=27)
 exact q
 intro f1
 refine Rl 4 q ?_
 refine AG 6 20 26 6 6 ?_
 exact Rn 1 6
 exact Rn 11 11
 refine Rlc 2 q (Ci h q (λh=>?_) λh=>?_)
 refine Rcl 2 q (sS Z6 s4 Z2 (Rlx 4 q ?_))
 obtain rfl:=Oi h
 exact aT (rs1 q (jo q q a4 q)) Zl
 refine Rcl 9 q ?_
 refine AG 5 31 36 5 5 ?_
 refine Rl 1 q ?_
 refine AG 4 37 41 4 4 ?_
 refine Rlc 2 q (Ci h q (λh=>?_) λh=>?_)
 refine Rcl 2 q (sS Z6 s4 Z2 (Rlx 4 q ?_))
 obtain rfl:=Oi h
 exact aT (rs1 q (jo q q a4 q)) Zl
 refine Rcl 5 q (Al z154 q (sS Z6 s154 Z2 (Rlc 2 q (Jn8 (λ_ _ _ _ _ _ _ _=> [(1, .d (.pc (fg x0))),(2, .pt 0 0),(5, .pt 2 0)]) (λc21v69 c22v70 c23v71 c24v72 c25v73 c26v74 c50v75 c51v76=> [.row 4 [.d (D.b false)], .row 331 [.d (D.s c.1.name), .d (D.s c.1.fields)], .row 154 [.d (D.i .u8 x0.op), .n c21v69, .n c22v70, .n c23v71, .n c24v72, .n c25v73, .n c26v74], .row 337 [.pt 2 0], .z, .row 331 [.d (D.s c50v75), .d (D.s c51v76)]]) h (λ_ h=>?_) λc21v69 c22v70 c23v71 c24v72 c25v73 c26v74 c50v75 c51v76 h=>?_))))
 refine Rcl 2 q ?_
 obtain⟨R,S,h⟩:=ax h
 refine WL.inl (us:=[.pt 2 0]) (λrv st'=>(R ()=some r∧Le rv (.fn (.func 279) [] [.pt 3 0])∧SLe st' [.row 4 [.d (D.b false)], .row 331 [.d (D.s c.1.name), .d (D.s c.1.fields)], .row 154 [.d (D.i .u8 x0.op), .n x0.d, .n x0.a, .n x0.b, .n x0.n, .n x0.m, .n x0.to], .row 337 [.pt 2 0]])) q q q q q ?_ (Zw q) q q ?_
 refine cI func195 λ_ _ _ _=>?_
 exact Rcl 2 q (Bx q q q (Rlx 10 q (al (rs1 q (bh q)) ⟨h,Zl,⟨Zp,Zp,Zp,Zp,Zt⟩⟩)))
 rintro rv st1 ⟨h,hr,hst⟩
 subst S
 dsimp only at h
 refine WL.cast 43 q hr (WL.weak hst (Zn (Rcc 1 q ?_)))
 obtain⟨J,T,h⟩:=ax h
 obtain⟨K,U,h⟩:=ax h
 obtain⟨L,V,h⟩:=ax h
 obtain⟨M,W,h⟩:=ax h
 obtain⟨N,X,h⟩:=ax h
 obtain⟨O,Y,h⟩:=ax h
 obtain⟨P,Z,h⟩:=ax h
 refine pU (us:=[.yl 4, .pt 3 0]) [2] 4 (λf rv st'=>(∃(c21v81:Int),∃(c22v82:Int),∃(c23v83:Int),∃(c24v84:Int),∃(c25v85:Int),∃(c26v86:Int),∃(c50v87:ByteArray),∃(c51v88:ByteArray),∃(c62v89:Int),∃(c63v90:Int),∃(c92v91:Int),∃(c93v92:Int),J c21v81 c22v82 c23v83 c24v84 c25v85 c26v86 c50v87 c51v88 c62v89 c63v90 c92v91 c93v92=some r∧SLe st' [.row 4 [.d (D.b false)], .row 331 [.d (D.s c.1.name), .d (D.s c.1.fields)], .row 154 [.d (D.i .u8 x0.op), .n c21v81, .n c22v82, .n c23v83, .n c24v84, .n c25v85, .n c26v86], .row 337 [.pt 2 0], .lp f [.pt 0 0] .done (some .ret), .row 331 [.d (D.s c50v87), .d (D.s c51v88)], .row 340 [.fn (.func 355) [] [.pt 7 0], .fn (.func 356) [] [.pt 7 0], .n c62v89, .n c63v90], .row 400 [.pt 2 1], .row 340 [.fn (.func 355) [] [.pt 7 0], .fn (.func 356) [] [.pt 7 0], .n 0, .n 0], .row 340 [.fn (.func 355) [] [.pt 7 0], .fn (.func 356) [] [.pt 7 0], .n c92v91, .n c93v92]])∨(∃(c21v94:Int),∃(c22v95:Int),∃(c23v96:Int),∃(c24v97:Int),∃(c25v98:Int),∃(c26v99:Int),∃(c50v100:ByteArray),∃(c51v101:ByteArray),∃(c62v102:Int),∃(c63v103:Int),∃(c92v104:Int),∃(c93v105:Int),K c21v94 c22v95 c23v96 c24v97 c25v98 c26v99 c50v100 c51v101 c62v102 c63v103 c92v104 c93v105=some r∧SLe st' [.row 4 [.d (D.b false)], .row 331 [.d (D.s c.1.name), .d (D.s c.1.fields)], .row 154 [.d (D.i .u8 x0.op), .n c21v94, .n c22v95, .n c23v96, .n c24v97, .n c25v98, .n c26v99], .row 337 [.pt 2 0], .lp f [.pt 0 0] .done (some .ret), .row 331 [.d (D.s c50v100), .d (D.s c51v101)], .row 340 [.fn (.func 355) [] [.pt 7 0], .fn (.func 356) [] [.pt 7 0], .n c62v102, .n c63v103], .row 400 [.pt 2 2], .row 340 [.fn (.func 355) [] [.pt 7 0], .fn (.func 356) [] [.pt 7 0], .n 0, .n 0], .row 340 [.fn (.func 355) [] [.pt 7 0], .fn (.func 356) [] [.pt 7 0], .n c92v104, .n c93v105]])∨(∃(c21v107:Int),∃(c22v108:Int),∃(c23v109:Int),∃(c24v110:Int),∃(c25v111:Int),∃(c26v112:Int),∃(c50v113:ByteArray),∃(c51v114:ByteArray),∃(c62v115:Int),∃(c63v116:Int),∃(c92v117:Int),∃(c93v118:Int),L c21v107 c22v108 c23v109 c24v110 c25v111 c26v112 c50v113 c51v114 c62v115 c63v116 c92v117 c93v118=some r∧SLe st' [.row 4 [.d (D.b false)], .row 331 [.d (D.s c.1.name), .d (D.s c.1.fields)], .row 154 [.d (D.i .u8 x0.op), .n c21v107, .n c22v108, .n c23v109, .n c24v110, .n c25v111, .n c26v112], .row 337 [.pt 2 0], .lp f [.pt 0 0] .done (some .ret), .row 331 [.d (D.s c50v113), .d (D.s c51v114)], .row 340 [.fn (.func 355) [] [.pt 7 0], .fn (.func 356) [] [.pt 7 0], .n c62v115, .n c63v116], .row 400 [.pt 2 3], .row 340 [.fn (.func 355) [] [.pt 7 0], .fn (.func 356) [] [.pt 7 0], .n 0, .n 0], .row 340 [.fn (.func 355) [] [.pt 7 0], .fn (.func 356) [] [.pt 7 0], .n c92v117, .n c93v118]])∨(∃(c21v120:Int),∃(c22v121:Int),∃(c23v122:Int),∃(c24v123:Int),∃(c25v124:Int),∃(c26v125:Int),∃(c50v126:ByteArray),∃(c51v127:ByteArray),∃(c62v128:Int),∃(c63v129:Int),∃(c92v130:Int),∃(c93v131:Int),M c21v120 c22v121 c23v122 c24v123 c25v124 c26v125 c50v126 c51v127 c62v128 c63v129 c92v130 c93v131=some r∧SLe st' [.row 4 [.d (D.b false)], .row 331 [.d (D.s c.1.name), .d (D.s c.1.fields)], .row 154 [.d (D.i .u8 x0.op), .n c21v120, .n c22v121, .n c23v122, .n c24v123, .n c25v124, .n c26v125], .row 337 [.pt 2 0], .lp f [.pt 0 0] .done (some .ret), .row 331 [.d (D.s c50v126), .d (D.s c51v127)], .row 340 [.fn (.func 357) [] [.pt 7 0], .fn (.func 358) [] [.pt 7 0], .n c62v128, .n c63v129], .row 275 [.pt 2 4], .row 340 [.fn (.func 357) [] [.pt 7 0], .fn (.func 358) [] [.pt 7 0], .n 0, .n 0], .row 340 [.fn (.func 357) [] [.pt 7 0], .fn (.func 358) [] [.pt 7 0], .n c92v130, .n c93v131]])∨(∃(c21v133:Int),∃(c22v134:Int),∃(c23v135:Int),∃(c24v136:Int),∃(c25v137:Int),∃(c26v138:Int),∃(c50v139:ByteArray),∃(c51v140:ByteArray),∃(c62v141:Int),∃(c63v142:Int),∃(c92v143:Int),∃(c93v144:Int),N c21v133 c22v134 c23v135 c24v136 c25v137 c26v138 c50v139 c51v140 c62v141 c63v142 c92v143 c93v144=some r∧SLe st' [.row 4 [.d (D.b false)], .row 331 [.d (D.s c.1.name), .d (D.s c.1.fields)], .row 154 [.d (D.i .u8 x0.op), .n c21v133, .n c22v134, .n c23v135, .n c24v136, .n c25v137, .n c26v138], .row 337 [.pt 2 0], .lp f [.pt 0 0] .done (some .ret), .row 331 [.d (D.s c50v139), .d (D.s c51v140)], .row 340 [.fn (.func 357) [] [.pt 7 0], .fn (.func 358) [] [.pt 7 0], .n c62v141, .n c63v142], .row 275 [.pt 2 5], .row 340 [.fn (.func 357) [] [.pt 7 0], .fn (.func 358) [] [.pt 7 0], .n 0, .n 0], .row 340 [.fn (.func 357) [] [.pt 7 0], .fn (.func 358) [] [.pt 7 0], .n c92v143, .n c93v144]])∨(∃(c21v146:Int),∃(c22v147:Int),∃(c23v148:Int),∃(c24v149:Int),∃(c25v150:Int),∃(c26v151:Int),∃(c50v152:ByteArray),∃(c51v153:ByteArray),∃(c62v154:Int),∃(c63v155:Int),∃(c92v156:Int),∃(c93v157:Int),O c21v146 c22v147 c23v148 c24v149 c25v150 c26v151 c50v152 c51v153 c62v154 c63v155 c92v156 c93v157=some r∧SLe st' [.row 4 [.d (D.b false)], .row 331 [.d (D.s c.1.name), .d (D.s c.1.fields)], .row 154 [.d (D.i .u8 x0.op), .n c21v146, .n c22v147, .n c23v148, .n c24v149, .n c25v150, .n c26v151], .row 337 [.pt 2 0], .lp f [.pt 0 0] .done (some .ret), .row 331 [.d (D.s c50v152), .d (D.s c51v153)], .row 340 [.fn (.func 355) [] [.pt 7 0], .fn (.func 356) [] [.pt 7 0], .n c62v154, .n c63v155], .row 400 [.pt 2 6], .row 340 [.fn (.func 355) [] [.pt 7 0], .fn (.func 356) [] [.pt 7 0], .n 0, .n 0], .row 340 [.fn (.func 355) [] [.pt 7 0], .fn (.func 356) [] [.pt 7 0], .n c92v156, .n c93v157]])∨(∃(c21v159:Int),∃(c22v160:Int),∃(c23v161:Int),∃(c24v162:Int),∃(c25v163:Int),∃(c26v164:Int),∃(c50v165:ByteArray),∃(c51v166:ByteArray),P c21v159 c22v160 c23v161 c24v162 c25v163 c26v164 c50v165 c51v166=some r∧SLe st' [.row 4 [.d (D.b false)], .row 331 [.d (D.s c.1.name), .d (D.s c.1.fields)], .row 154 [.d (D.i .u8 x0.op), .n c21v159, .n c22v160, .n c23v161, .n c24v162, .n c25v163, .n c26v164], .row 337 [.pt 2 0], .lp f [.pt 0 0] .ready none, .row 331 [.d (D.s c50v165), .d (D.s c51v166)]])) q q q q q (λf A=>?_) ?_
 refine cI func279 λ_ _ _ B=>?_
 refine Rcl 6 q ?_
 obtain⟨e,ad,h⟩:=ac h
 refine wF Z4 (f194_c ad) Lw Z3 (Rl 3 q (Al rM q (sS Z6 oW Z2 (Rll 7 q ?_))))
 obtain⟨x,ar,h⟩:=ac h
 refine wF Z4 (f280_c ar) Lw Z3 (Zq (ab E9 x tZ q q Zl) q (Rlc 4 q (Ln7 (λy _ _ _ _ _ _=> [(0, .yl 4),(1, .pt 3 0),(18, .l E9 x),(19, .n (List.length x:Int)),(20, .n y)]) (λ_ c21v178 c22v179 c23v180 c24v181 c25v182 c26v183=> [.row 4 [.d (D.b false)], .row 331 [.d (D.s c.1.name), .d (D.s c.1.fields)], .row 154 [.d (D.i .u8 x0.op), .n c21v178, .n c22v179, .n c23v180, .n c24v181, .n c25v182, .n c26v183], .row 337 [.pt 2 0], .lp f [.pt 0 0] .ready none, .row 331 [.d (D.s e.1.name), .d (D.s e.1.fields)]]) (f110_l1 J K L M N O P e x) h (λ_ _ _ _ _ _ _ h=>by rw[f110_l1] at h;cases h) λn y c21v178 c22v179 c23v180 c24v181 c25v182 c26v183 h=>?_)))
 rw[f110_l1] at h
 refine Rcc 6 q (Ci h q (λh=>?_) λh=>?_)
 refine Rcl 6 q (Ix h tZ uC q Zl q q λf2 _ h=>(Rll 6 q (Al dz q (Rll 6 q ?_))))
 obtain⟨f3,a0,h⟩:=ac h
 refine Zq (bg underlying9 q q a0) q (Rlc 9 q (Ci h q (λh=>?_) λh=>?_))
 refine Rcl 4 q ?_
 obtain⟨a1,a6,h⟩:=ax h
 refine WL.inl (us:=[.pt 2 1]) (λrv st'=>(a1 ()=some r∧Le rv (.ag [.fn (.func 355) [] [.pt 7 0], .fn (.func 356) [] [.pt 7 0], .n 0, .n 0])∧SLe st' [.row 4 [.d (D.b false)], .row 331 [.d (D.s c.1.name), .d (D.s c.1.fields)], .row 154 [.d (D.i .u8 x0.op), .n c21v178, .n c22v179, .n c23v180, .n c24v181, .n c25v182, .n c26v183], .row 337 [.pt 2 0], .lp f [.pt 0 0] .ready none, .row 331 [.d (D.s e.1.name), .d (D.s e.1.fields)], .row 340 [.d (.v .nilFunc), .d (.v .nilFunc), .n 0, .n 0], .row 400 [.pt 2 1], .row 340 [.fn (.func 355) [] [.pt 7 0], .fn (.func 356) [] [.pt 7 0], .n 0, .n 0]])) q q q q q ?_ (Zw q) q q ?_
 refine cI func281 λ_ _ _ _=>?_
 exact Rcl 2 q (Bx q q q (Al dz q (Rll 6 q (Zq (bX oY dz q q) q (sS Z6 cK Z2 (Rlx 3 q (al (rs1 q (dq q q pq cK q)) ⟨h,Zl,⟨Zp,Zp,Zp,Zp,⟨q,Zs _,q,q⟩,Zp,Zp,Zp,Zp,Zt⟩⟩)))))))
 rintro rv st1 ⟨h,hr,hst⟩
 subst a6
 dsimp only at h
 refine WL.cast 35 q hr (WL.weak hst (sS Z6 cK Z2 (WL.nil (Rxl 5 q ?_))))
 obtain⟨g,a7,h⟩:=ac h
 refine Zq (bg underlying9 q q a7) q (wF Z4 (f283_c) Lw Z3 (Rl 4 q (sS Z6 s2 Z2 (Rl 1 q (sS Z6 s2 Z2 (Rll 6 q ?_))))))
 obtain⟨a',bb,h⟩:=ax h
 obtain⟨bk,bs,h⟩:=ax h
 refine WL.yield (env0:=[(44, .ag [.fn (.func 355) [] [.pt 7 0], .fn (.func 356) [] [.pt 7 0], .n ((f283 g).1), .n ((f283 g).2)]),(2, .pt 0 0)]) (λrv st'=>(a' ()=some r∧rv= .d (.v (.bool false))∧SLe st' [.row 4 [.d (D.b false)], .row 331 [.d (D.s c.1.name), .d (D.s c.1.fields)], .row 154 [.d (D.i .u8 x0.op), .n c21v178, .n c22v179, .n c23v180, .n c24v181, .n c25v182, .n c26v183], .row 337 [.pt 2 0], .lp f [.pt 0 0] .done (some .ret), .row 331 [.d (D.s e.1.name), .d (D.s e.1.fields)], .row 340 [.fn (.func 355) [] [.pt 7 0], .fn (.func 356) [] [.pt 7 0], .n ((f283 g).1), .n ((f283 g).2)], .row 400 [.pt 2 1], .row 340 [.fn (.func 355) [] [.pt 7 0], .fn (.func 356) [] [.pt 7 0], .n 0, .n 0], .row 340 [.fn (.func 355) [] [.pt 7 0], .fn (.func 356) [] [.pt 7 0], .n ((f283 g).1), .n ((f283 g).2)]])∨(bk ()=some r∧rv= .d (.v (.bool true))∧SLe st' [.row 4 [.d (D.b false)], .row 331 [.d (D.s c.1.name), .d (D.s c.1.fields)], .row 154 [.d (D.i .u8 x0.op), .n 0, .n c22v179, .n c23v180, .n c24v181, .n c25v182, .n c26v183], .row 337 [.pt 2 0], .lp f [.pt 0 0] .ready none, .row 331 [.d (D.s e.1.name), .d (D.s e.1.fields)], .row 340 [.fn (.func 355) [] [.pt 7 0], .fn (.func 356) [] [.pt 7 0], .n ((f283 g).1), .n ((f283 g).2)], .row 400 [.pt 2 1], .row 340 [.fn (.func 355) [] [.pt 7 0], .fn (.func 356) [] [.pt 7 0], .n 0, .n 0], .row 340 [.fn (.func 355) [] [.pt 7 0], .fn (.func 356) [] [.pt 7 0], .n ((f283 g).1), .n ((f283 g).2)]])) A q q q q q q q (λee hn C f4=>?_) (Zw q) q q ?_
 obtain⟨em,eφ,ew,en,er⟩:=ee
 subst hn
 refine Rcl 1 q (Al dz q (sS Z6 cK Z2 (Rlx 1 q (eU C q (Rcl 6 q ?_)))))
 obtain⟨b0,b1,h⟩:=ax h
 refine WL.inl (us:=[.pt 7 0]) (λrv st'=>(b0 ()=some r∧Le rv (.n c21v178)∧SLe st' [.row 4 [.d (D.b false)], .row 331 [.d (D.s c.1.name), .d (D.s c.1.fields)], .row 154 [.d (D.i .u8 x0.op), .n c21v178, .n c22v179, .n c23v180, .n c24v181, .n c25v182, .n c26v183], .row 337 [.pt 2 0], .lp f [.pt 0 0] .busy none, .row 331 [.d (D.s e.1.name), .d (D.s e.1.fields)], .row 340 [.fn (.func 355) [] [.pt 7 0], .fn (.func 356) [] [.pt 7 0], .n ((f283 g).1), .n ((f283 g).2)], .row 400 [.pt 2 1], .row 340 [.fn (.func 355) [] [.pt 7 0], .fn (.func 356) [] [.pt 7 0], .n 0, .n 0], .row 340 [.fn (.func 355) [] [.pt 7 0], .fn (.func 356) [] [.pt 7 0], .n ((f283 g).1), .n ((f283 g).2)]])) q q q q q ?_ (Zw q) q q ?_
 refine cI func355 λ_ _ _ _=>?_
 exact Rcx 14 q (al (rs1 q (bh q)) ⟨h,Zl,⟨Zp,Zp,Zp,Zp,⟨q,Zs _,q,q⟩,Zp,Zp,Zp,Zp,Zp,Zt⟩⟩)
 rintro rv st1 ⟨h,hr,hst⟩
 subst b1
 dsimp only at h
 refine WL.cast 47 q hr (WL.weak hst (Rl 1 q (Zn (Rcl 7 q ?_))))
 refine OG 5 52 57 5 5 ?_
 refine Rlc 2 q (Ci h q (λh=>?_) λh=>?_)
 exact Rcl 2 q (sS Z6 s4 Z2 (Rlx 5 q (br C q (.inl ⟨h,q,⟨Zp,Zp,Zp,Zp,⟨q,Zs _,q,q⟩,Zp,Zp,Zp,Zp,Zp,Zt⟩⟩))))
 refine Rcl 5 q ?_
 obtain⟨b2,b3,h⟩:=ax h
 refine WL.inl (us:=[.n 0, .pt 7 0]) (λrv st'=>(b2 ()=some r∧Le rv (.tu [])∧SLe st' [.row 4 [.d (D.b false)], .row 331 [.d (D.s c.1.name), .d (D.s c.1.fields)], .row 154 [.d (D.i .u8 x0.op), .n 0, .n c22v179, .n c23v180, .n c24v181, .n c25v182, .n c26v183], .row 337 [.pt 2 0], .lp f [.pt 0 0] .busy none, .row 331 [.d (D.s e.1.name), .d (D.s e.1.fields)], .row 340 [.fn (.func 355) [] [.pt 7 0], .fn (.func 356) [] [.pt 7 0], .n ((f283 g).1), .n ((f283 g).2)], .row 400 [.pt 2 1], .row 340 [.fn (.func 355) [] [.pt 7 0], .fn (.func 356) [] [.pt 7 0], .n 0, .n 0], .row 340 [.fn (.func 355) [] [.pt 7 0], .fn (.func 356) [] [.pt 7 0], .n ((f283 g).1), .n ((f283 g).2)]])) q q q q q ?_ (Zw q) q q ?_
 refine cI func356 λ_ _ _ _=>?_
 exact Rcl 4 q (sS Z6 s3 Z2 (Rlx 1 q (dG (al (eX q) ⟨h,Zl,⟨Zp,Zp,Zp,Zp,⟨q,Zs _,q,q⟩,Zp,Zp,Zp,Zp,Zp,Zt⟩⟩))))
 rintro rv st1 ⟨h,hr,hst⟩
 subst b3
 dsimp only at h
 exact WL.cast 60 q hr (WL.weak hst (WL.nil (Rxx 1 q (dF C q (.inr (⟨h,q,⟨Zp,Zp,Zp,Zp,⟨q,Zs _,q,q⟩,Zp,Zp,Zp,Zp,Zp,Zt⟩⟩))))))
 rintro rv st1 (⟨h,rfl,hst⟩|⟨h,rfl,hst⟩)
 subst bb
 dsimp only at h
 exact WL.weak hst (Rl 1 q (Zn (bm q (Rcx 5 q (al (eX q) (.inl ⟨c21v178,c22v179,c23v180,c24v181,c25v182,c26v183,e.1.name,e.1.fields,((f283 g).1),((f283 g).2),((f283 g).1),((f283 g).2),h,⟨Zp,Zp,Zp,Zp,⟨q,Zs _,q,q⟩,Zp,Zp,Zp,Zp,Zp,Zt⟩⟩))))))
 subst bs
 dsimp only at h
 exact WL.weak hst (Rl 1 q (Zn (cV q (Rcx 7 q (WE.drop 6 (env':=[(0, .yl 4),(1, .pt 3 0),(18, .l E9 x),(19, .n (List.length x:Int)),(20, .n (IntKind.i64.wrap (y+1)))]) Sb q q (Nat.le_trans (Nat.le_of_eq B) (nbT q)) (Fn7 h))))))
 refine Rcc 6 q (Ci h q (λh=>?_) λh=>?_)
 refine Rcl 4 q ?_
 obtain⟨b',ca,h⟩:=ax h
 refine WL.inl (us:=[.pt 2 2]) (λrv st'=>(b' ()=some r∧Le rv (.ag [.fn (.func 355) [] [.pt 7 0], .fn (.func 356) [] [.pt 7 0], .n 0, .n 0])∧SLe st' [.row 4 [.d (D.b false)], .row 331 [.d (D.s c.1.name), .d (D.s c.1.fields)], .row 154 [.d (D.i .u8 x0.op), .n c21v178, .n c22v179, .n c23v180, .n c24v181, .n c25v182, .n c26v183], .row 337 [.pt 2 0], .lp f [.pt 0 0] .ready none, .row 331 [.d (D.s e.1.name), .d (D.s e.1.fields)], .row 340 [.d (.v .nilFunc), .d (.v .nilFunc), .n 0, .n 0], .row 400 [.pt 2 2], .row 340 [.fn (.func 355) [] [.pt 7 0], .fn (.func 356) [] [.pt 7 0], .n 0, .n 0]])) q q q q q ?_ (Zw q) q q ?_
 refine cI func281 λ_ _ _ _=>?_
 exact Rcl 2 q (Bx q q q (Al dz q (Rll 6 q (Zq (bX oY dz q q) q (sS Z6 cK Z2 (Rlx 3 q (al (rs1 q (dq q q pq cK q)) ⟨h,Zl,⟨Zp,Zp,Zp,Zp,⟨q,Zs _,q,q⟩,Zp,Zp,Zp,Zp,Zt⟩⟩)))))))
 rintro rv st1 ⟨h,hr,hst⟩
 subst ca
 dsimp only at h
 refine WL.cast 41 q hr (WL.weak hst (sS Z6 cK Z2 (WL.nil (Rxl 5 q ?_))))
 obtain⟨j,cc,h⟩:=ac h
 refine Zq (bg underlying9 q q cc) q (wF Z4 (f283_c) Lw Z3 (Rl 4 q (sS Z6 s2 Z2 (Rl 1 q (sS Z6 s2 Z2 (Rll 6 q ?_))))))
 obtain⟨cd,ce,h⟩:=ax h
 obtain⟨ch,ci,h⟩:=ax h
 refine WL.yield (env0:=[(44, .ag [.fn (.func 355) [] [.pt 7 0], .fn (.func 356) [] [.pt 7 0], .n ((f283 j).1), .n ((f283 j).2)]),(2, .pt 0 0)]) (λrv st'=>(cd ()=some r∧rv= .d (.v (.bool false))∧SLe st' [.row 4 [.d (D.b false)], .row 331 [.d (D.s c.1.name), .d (D.s c.1.fields)], .row 154 [.d (D.i .u8 x0.op), .n c21v178, .n c22v179, .n c23v180, .n c24v181, .n c25v182, .n c26v183], .row 337 [.pt 2 0], .lp f [.pt 0 0] .done (some .ret), .row 331 [.d (D.s e.1.name), .d (D.s e.1.fields)], .row 340 [.fn (.func 355) [] [.pt 7 0], .fn (.func 356) [] [.pt 7 0], .n ((f283 j).1), .n ((f283 j).2)], .row 400 [.pt 2 2], .row 340 [.fn (.func 355) [] [.pt 7 0], .fn (.func 356) [] [.pt 7 0], .n 0, .n 0], .row 340 [.fn (.func 355) [] [.pt 7 0], .fn (.func 356) [] [.pt 7 0], .n ((f283 j).1), .n ((f283 j).2)]])∨(ch ()=some r∧rv= .d (.v (.bool true))∧SLe st' [.row 4 [.d (D.b false)], .row 331 [.d (D.s c.1.name), .d (D.s c.1.fields)], .row 154 [.d (D.i .u8 x0.op), .n c21v178, .n 0, .n c23v180, .n c24v181, .n c25v182, .n c26v183], .row 337 [.pt 2 0], .lp f [.pt 0 0] .ready none, .row 331 [.d (D.s e.1.name), .d (D.s e.1.fields)], .row 340 [.fn (.func 355) [] [.pt 7 0], .fn (.func 356) [] [.pt 7 0], .n ((f283 j).1), .n ((f283 j).2)], .row 400 [.pt 2 2], .row 340 [.fn (.func 355) [] [.pt 7 0], .fn (.func 356) [] [.pt 7 0], .n 0, .n 0], .row 340 [.fn (.func 355) [] [.pt 7 0], .fn (.func 356) [] [.pt 7 0], .n ((f283 j).1), .n ((f283 j).2)]])) A q q q q q q q (λee hn E f5=>?_) (Zw q) q q ?_
 obtain⟨em,eφ,ew,en,er⟩:=ee
 subst hn
 refine Rcl 1 q (Al dz q (sS Z6 cK Z2 (Rlx 1 q (eU E q (Rcl 6 q ?_)))))
 obtain⟨cj,cl,h⟩:=ax h
 refine WL.inl (us:=[.pt 7 0]) (λrv st'=>(cj ()=some r∧Le rv (.n c22v179)∧SLe st' [.row 4 [.d (D.b false)], .row 331 [.d (D.s c.1.name), .d (D.s c.1.fields)], .row 154 [.d (D.i .u8 x0.op), .n c21v178, .n c22v179, .n c23v180, .n c24v181, .n c25v182, .n c26v183], .row 337 [.pt 2 0], .lp f [.pt 0 0] .busy none, .row 331 [.d (D.s e.1.name), .d (D.s e.1.fields)], .row 340 [.fn (.func 355) [] [.pt 7 0], .fn (.func 356) [] [.pt 7 0], .n ((f283 j).1), .n ((f283 j).2)], .row 400 [.pt 2 2], .row 340 [.fn (.func 355) [] [.pt 7 0], .fn (.func 356) [] [.pt 7 0], .n 0, .n 0], .row 340 [.fn (.func 355) [] [.pt 7 0], .fn (.func 356) [] [.pt 7 0], .n ((f283 j).1), .n ((f283 j).2)]])) q q q q q ?_ (Zw q) q q ?_
 refine cI func355 λ_ _ _ _=>?_
 exact Rcx 14 q (al (rs1 q (bh q)) ⟨h,Zl,⟨Zp,Zp,Zp,Zp,⟨q,Zs _,q,q⟩,Zp,Zp,Zp,Zp,Zp,Zt⟩⟩)
 rintro rv st1 ⟨h,hr,hst⟩
 subst cl
 dsimp only at h
 refine WL.cast 47 q hr (WL.weak hst (Rl 1 q (Zn (Rcl 7 q ?_))))
 refine OG 5 52 57 5 5 ?_
 refine Rlc 2 q (Ci h q (λh=>?_) λh=>?_)
 exact Rcl 2 q (sS Z6 s4 Z2 (Rlx 5 q (br E q (.inl ⟨h,q,⟨Zp,Zp,Zp,Zp,⟨q,Zs _,q,q⟩,Zp,Zp,Zp,Zp,Zp,Zt⟩⟩))))
 refine Rcl 5 q ?_
 obtain⟨cp,cL,h⟩:=ax h
 refine WL.inl (us:=[.n 0, .pt 7 0]) (λrv st'=>(cp ()=some r∧Le rv (.tu [])∧SLe st' [.row 4 [.d (D.b false)], .row 331 [.d (D.s c.1.name), .d (D.s c.1.fields)], .row 154 [.d (D.i .u8 x0.op), .n c21v178, .n 0, .n c23v180, .n c24v181, .n c25v182, .n c26v183], .row 337 [.pt 2 0], .lp f [.pt 0 0] .busy none, .row 331 [.d (D.s e.1.name), .d (D.s e.1.fields)], .row 340 [.fn (.func 355) [] [.pt 7 0], .fn (.func 356) [] [.pt 7 0], .n ((f283 j).1), .n ((f283 j).2)], .row 400 [.pt 2 2], .row 340 [.fn (.func 355) [] [.pt 7 0], .fn (.func 356) [] [.pt 7 0], .n 0, .n 0], .row 340 [.fn (.func 355) [] [.pt 7 0], .fn (.func 356) [] [.pt 7 0], .n ((f283 j).1), .n ((f283 j).2)]])) q q q q q ?_ (Zw q) q q ?_
 refine cI func356 λ_ _ _ _=>?_
 exact Rcl 4 q (sS Z6 s3 Z2 (Rlx 1 q (dG (al (eX q) ⟨h,Zl,⟨Zp,Zp,Zp,Zp,⟨q,Zs _,q,q⟩,Zp,Zp,Zp,Zp,Zp,Zt⟩⟩))))
 rintro rv st1 ⟨h,hr,hst⟩
 subst cL
 dsimp only at h
 exact WL.cast 60 q hr (WL.weak hst (WL.nil (Rxx 1 q (dF E q (.inr (⟨h,q,⟨Zp,Zp,Zp,Zp,⟨q,Zs _,q,q⟩,Zp,Zp,Zp,Zp,Zp,Zt⟩⟩))))))
 rintro rv st1 (⟨h,rfl,hst⟩|⟨h,rfl,hst⟩)
 subst ce
 dsimp only at h
 exact WL.weak hst (Rl 1 q (Zn (bm q (Rcx 5 q (al (eX q) (.inr (.inl ⟨c21v178,c22v179,c23v180,c24v181,c25v182,c26v183,e.1.name,e.1.fields,((f283 j).1),((f283 j).2),((f283 j).1),((f283 j).2),h,⟨Zp,Zp,Zp,Zp,⟨q,Zs _,q,q⟩,Zp,Zp,Zp,Zp,Zp,Zt⟩⟩)))))))
 subst ci
 dsimp only at h
 exact WL.weak hst (Rl 1 q (Zn (cV q (Rcx 7 q (WE.drop 6 (env':=[(0, .yl 4),(1, .pt 3 0),(18, .l E9 x),(19, .n (List.length x:Int)),(20, .n (IntKind.i64.wrap (y+1)))]) Sb q q (Nat.le_trans (Nat.le_of_eq B) (nbT q)) (Fn7 h))))))
 refine Rcc 6 q (Ci h q (λh=>?_) λh=>?_)
 refine Rcl 4 q ?_
 obtain⟨c0,c1,h⟩:=ax h
 refine WL.inl (us:=[.pt 2 3]) (λrv st'=>(c0 ()=some r∧Le rv (.ag [.fn (.func 355) [] [.pt 7 0], .fn (.func 356) [] [.pt 7 0], .n 0, .n 0])∧SLe st' [.row 4 [.d (D.b false)], .row 331 [.d (D.s c.1.name), .d (D.s c.1.fields)], .row 154 [.d (D.i .u8 x0.op), .n c21v178, .n c22v179, .n c23v180, .n c24v181, .n c25v182, .n c26v183], .row 337 [.pt 2 0], .lp f [.pt 0 0] .ready none, .row 331 [.d (D.s e.1.name), .d (D.s e.1.fields)], .row 340 [.d (.v .nilFunc), .d (.v .nilFunc), .n 0, .n 0], .row 400 [.pt 2 3], .row 340 [.fn (.func 355) [] [.pt 7 0], .fn (.func 356) [] [.pt 7 0], .n 0, .n 0]])) q q q q q ?_ (Zw q) q q ?_
 refine cI func281 λ_ _ _ _=>?_
 exact Rcl 2 q (Bx q q q (Al dz q (Rll 6 q (Zq (bX oY dz q q) q (sS Z6 cK Z2 (Rlx 3 q (al (rs1 q (dq q q pq cK q)) ⟨h,Zl,⟨Zp,Zp,Zp,Zp,⟨q,Zs _,q,q⟩,Zp,Zp,Zp,Zp,Zt⟩⟩)))))))
 rintro rv st1 ⟨h,hr,hst⟩
 subst c1
 dsimp only at h
 refine WL.cast 47 q hr (WL.weak hst (sS Z6 cK Z2 (WL.nil (Rxl 5 q ?_))))
 obtain⟨k,c2,h⟩:=ac h
 refine Zq (bg underlying9 q q c2) q (wF Z4 (f283_c) Lw Z3 (Rl 4 q (sS Z6 s2 Z2 (Rl 1 q (sS Z6 s2 Z2 (Rll 6 q ?_))))))
 obtain⟨c3,c4,h⟩:=ax h
 obtain⟨c5,c6,h⟩:=ax h
 refine WL.yield (env0:=[(44, .ag [.fn (.func 355) [] [.pt 7 0], .fn (.func 356) [] [.pt 7 0], .n ((f283 k).1), .n ((f283 k).2)]),(2, .pt 0 0)]) (λrv st'=>(c3 ()=some r∧rv= .d (.v (.bool false))∧SLe st' [.row 4 [.d (D.b false)], .row 331 [.d (D.s c.1.name), .d (D.s c.1.fields)], .row 154 [.d (D.i .u8 x0.op), .n c21v178, .n c22v179, .n c23v180, .n c24v181, .n c25v182, .n c26v183], .row 337 [.pt 2 0], .lp f [.pt 0 0] .done (some .ret), .row 331 [.d (D.s e.1.name), .d (D.s e.1.fields)], .row 340 [.fn (.func 355) [] [.pt 7 0], .fn (.func 356) [] [.pt 7 0], .n ((f283 k).1), .n ((f283 k).2)], .row 400 [.pt 2 3], .row 340 [.fn (.func 355) [] [.pt 7 0], .fn (.func 356) [] [.pt 7 0], .n 0, .n 0], .row 340 [.fn (.func 355) [] [.pt 7 0], .fn (.func 356) [] [.pt 7 0], .n ((f283 k).1), .n ((f283 k).2)]])∨(c5 ()=some r∧rv= .d (.v (.bool true))∧SLe st' [.row 4 [.d (D.b false)], .row 331 [.d (D.s c.1.name), .d (D.s c.1.fields)], .row 154 [.d (D.i .u8 x0.op), .n c21v178, .n c22v179, .n 0, .n c24v181, .n c25v182, .n c26v183], .row 337 [.pt 2 0], .lp f [.pt 0 0] .ready none, .row 331 [.d (D.s e.1.name), .d (D.s e.1.fields)], .row 340 [.fn (.func 355) [] [.pt 7 0], .fn (.func 356) [] [.pt 7 0], .n ((f283 k).1), .n ((f283 k).2)], .row 400 [.pt 2 3], .row 340 [.fn (.func 355) [] [.pt 7 0], .fn (.func 356) [] [.pt 7 0], .n 0, .n 0], .row 340 [.fn (.func 355) [] [.pt 7 0], .fn (.func 356) [] [.pt 7 0], .n ((f283 k).1), .n ((f283 k).2)]])) A q q q q q q q (λee hn F f6=>?_) (Zw q) q q ?_
 obtain⟨em,eφ,ew,en,er⟩:=ee
 subst hn
 refine Rcl 1 q (Al dz q (sS Z6 cK Z2 (Rlx 1 q (eU F q (Rcl 6 q ?_)))))
 obtain⟨c7,c8,h⟩:=ax h
 refine WL.inl (us:=[.pt 7 0]) (λrv st'=>(c7 ()=some r∧Le rv (.n c23v180)∧SLe st' [.row 4 [.d (D.b false)], .row 331 [.d (D.s c.1.name), .d (D.s c.1.fields)], .row 154 [.d (D.i .u8 x0.op), .n c21v178, .n c22v179, .n c23v180, .n c24v181, .n c25v182, .n c26v183], .row 337 [.pt 2 0], .lp f [.pt 0 0] .busy none, .row 331 [.d (D.s e.1.name), .d (D.s e.1.fields)], .row 340 [.fn (.func 355) [] [.pt 7 0], .fn (.func 356) [] [.pt 7 0], .n ((f283 k).1), .n ((f283 k).2)], .row 400 [.pt 2 3], .row 340 [.fn (.func 355) [] [.pt 7 0], .fn (.func 356) [] [.pt 7 0], .n 0, .n 0], .row 340 [.fn (.func 355) [] [.pt 7 0], .fn (.func 356) [] [.pt 7 0], .n ((f283 k).1), .n ((f283 k).2)]])) q q q q q ?_ (Zw q) q q ?_
 refine cI func355 λ_ _ _ _=>?_
 exact Rcx 14 q (al (rs1 q (bh q)) ⟨h,Zl,⟨Zp,Zp,Zp,Zp,⟨q,Zs _,q,q⟩,Zp,Zp,Zp,Zp,Zp,Zt⟩⟩)
 rintro rv st1 ⟨h,hr,hst⟩
 subst c8
 dsimp only at h
 refine WL.cast 47 q hr (WL.weak hst (Rl 1 q (Zn (Rcl 7 q ?_))))
 refine OG 5 52 57 5 5 ?_
 refine Rlc 2 q (Ci h q (λh=>?_) λh=>?_)
 exact Rcl 2 q (sS Z6 s4 Z2 (Rlx 5 q (br F q (.inl ⟨h,q,⟨Zp,Zp,Zp,Zp,⟨q,Zs _,q,q⟩,Zp,Zp,Zp,Zp,Zp,Zt⟩⟩))))
 refine Rcl 5 q ?_
 obtain⟨c',dd,h⟩:=ax h
 refine WL.inl (us:=[.n 0, .pt 7 0]) (λrv st'=>(c' ()=some r∧Le rv (.tu [])∧SLe st' [.row 4 [.d (D.b false)], .row 331 [.d (D.s c.1.name), .d (D.s c.1.fields)], .row 154 [.d (D.i .u8 x0.op), .n c21v178, .n c22v179, .n 0, .n c24v181, .n c25v182, .n c26v183], .row 337 [.pt 2 0], .lp f [.pt 0 0] .busy none, .row 331 [.d (D.s e.1.name), .d (D.s e.1.fields)], .row 340 [.fn (.func 355) [] [.pt 7 0], .fn (.func 356) [] [.pt 7 0], .n ((f283 k).1), .n ((f283 k).2)], .row 400 [.pt 2 3], .row 340 [.fn (.func 355) [] [.pt 7 0], .fn (.func 356) [] [.pt 7 0], .n 0, .n 0], .row 340 [.fn (.func 355) [] [.pt 7 0], .fn (.func 356) [] [.pt 7 0], .n ((f283 k).1), .n ((f283 k).2)]])) q q q q q ?_ (Zw q) q q ?_
 refine cI func356 λ_ _ _ _=>?_
 exact Rcl 4 q (sS Z6 s3 Z2 (Rlx 1 q (dG (al (eX q) ⟨h,Zl,⟨Zp,Zp,Zp,Zp,⟨q,Zs _,q,q⟩,Zp,Zp,Zp,Zp,Zp,Zt⟩⟩))))
 rintro rv st1 ⟨h,hr,hst⟩
 subst dd
 dsimp only at h
 exact WL.cast 60 q hr (WL.weak hst (WL.nil (Rxx 1 q (dF F q (.inr (⟨h,q,⟨Zp,Zp,Zp,Zp,⟨q,Zs _,q,q⟩,Zp,Zp,Zp,Zp,Zp,Zt⟩⟩))))))
 rintro rv st1 (⟨h,rfl,hst⟩|⟨h,rfl,hst⟩)
 subst c4
 dsimp only at h
 exact WL.weak hst (Rl 1 q (Zn (bm q (Rcx 5 q (al (eX q) (.inr (.inr (.inl ⟨c21v178,c22v179,c23v180,c24v181,c25v182,c26v183,e.1.name,e.1.fields,((f283 k).1),((f283 k).2),((f283 k).1),((f283 k).2),h,⟨Zp,Zp,Zp,Zp,⟨q,Zs _,q,q⟩,Zp,Zp,Zp,Zp,Zp,Zt⟩⟩))))))))
 subst c6
 dsimp only at h
 exact WL.weak hst (Rl 1 q (Zn (cV q (Rcx 7 q (WE.drop 6 (env':=[(0, .yl 4),(1, .pt 3 0),(18, .l E9 x),(19, .n (List.length x:Int)),(20, .n (IntKind.i64.wrap (y+1)))]) Sb q q (Nat.le_trans (Nat.le_of_eq B) (nbT q)) (Fn7 h))))))
 refine Rcc 6 q (Ci h q (λh=>?_) λh=>?_)
 refine Rcl 4 q ?_
 obtain⟨df,dk,h⟩:=ax h
 refine WL.inl (us:=[.pt 2 4]) (λrv st'=>(df ()=some r∧Le rv (.ag [.fn (.func 357) [] [.pt 7 0], .fn (.func 358) [] [.pt 7 0], .n 0, .n 0])∧SLe st' [.row 4 [.d (D.b false)], .row 331 [.d (D.s c.1.name), .d (D.s c.1.fields)], .row 154 [.d (D.i .u8 x0.op), .n c21v178, .n c22v179, .n c23v180, .n c24v181, .n c25v182, .n c26v183], .row 337 [.pt 2 0], .lp f [.pt 0 0] .ready none, .row 331 [.d (D.s e.1.name), .d (D.s e.1.fields)], .row 340 [.d (.v .nilFunc), .d (.v .nilFunc), .n 0, .n 0], .row 275 [.pt 2 4], .row 340 [.fn (.func 357) [] [.pt 7 0], .fn (.func 358) [] [.pt 7 0], .n 0, .n 0]])) q q q q q ?_ (Zw q) q q ?_
 refine cI func282 λ_ _ _ _=>?_
 exact Rcl 2 q (Bx q q q (Al dz q (Rll 6 q (Zq (bX oY dz q q) q (sS Z6 cK Z2 (Rlx 3 q (al (rs1 q (dq q q pq cK q)) ⟨h,Zl,⟨Zp,Zp,Zp,Zp,⟨q,Zs _,q,q⟩,Zp,Zp,Zp,Zp,Zt⟩⟩)))))))
 rintro rv st1 ⟨h,hr,hst⟩
 subst dk
 dsimp only at h
 refine WL.cast 53 q hr (WL.weak hst (sS Z6 cK Z2 (WL.nil (Rxl 5 q ?_))))
 obtain⟨o,ds,h⟩:=ac h
 refine Zq (bg underlying9 q q ds) q (wF Z4 (f283_c) Lw Z3 (Rl 4 q (sS Z6 s2 Z2 (Rl 1 q (sS Z6 s2 Z2 (Rll 6 q ?_))))))
 obtain⟨dA,dL,h⟩:=ax h
 obtain⟨dS,d0,h⟩:=ax h
 refine WL.yield (env0:=[(44, .ag [.fn (.func 357) [] [.pt 7 0], .fn (.func 358) [] [.pt 7 0], .n ((f283 o).1), .n ((f283 o).2)]),(2, .pt 0 0)]) (λrv st'=>(dA ()=some r∧rv= .d (.v (.bool false))∧SLe st' [.row 4 [.d (D.b false)], .row 331 [.d (D.s c.1.name), .d (D.s c.1.fields)], .row 154 [.d (D.i .u8 x0.op), .n c21v178, .n c22v179, .n c23v180, .n c24v181, .n c25v182, .n c26v183], .row 337 [.pt 2 0], .lp f [.pt 0 0] .done (some .ret), .row 331 [.d (D.s e.1.name), .d (D.s e.1.fields)], .row 340 [.fn (.func 357) [] [.pt 7 0], .fn (.func 358) [] [.pt 7 0], .n ((f283 o).1), .n ((f283 o).2)], .row 275 [.pt 2 4], .row 340 [.fn (.func 357) [] [.pt 7 0], .fn (.func 358) [] [.pt 7 0], .n 0, .n 0], .row 340 [.fn (.func 357) [] [.pt 7 0], .fn (.func 358) [] [.pt 7 0], .n ((f283 o).1), .n ((f283 o).2)]])∨(dS ()=some r∧rv= .d (.v (.bool true))∧SLe st' [.row 4 [.d (D.b false)], .row 331 [.d (D.s c.1.name), .d (D.s c.1.fields)], .row 154 [.d (D.i .u8 x0.op), .n c21v178, .n c22v179, .n c23v180, .n 0, .n c25v182, .n c26v183], .row 337 [.pt 2 0], .lp f [.pt 0 0] .ready none, .row 331 [.d (D.s e.1.name), .d (D.s e.1.fields)], .row 340 [.fn (.func 357) [] [.pt 7 0], .fn (.func 358) [] [.pt 7 0], .n ((f283 o).1), .n ((f283 o).2)], .row 275 [.pt 2 4], .row 340 [.fn (.func 357) [] [.pt 7 0], .fn (.func 358) [] [.pt 7 0], .n 0, .n 0], .row 340 [.fn (.func 357) [] [.pt 7 0], .fn (.func 358) [] [.pt 7 0], .n ((f283 o).1), .n ((f283 o).2)]])) A q q q q q q q (λee hn G f7=>?_) (Zw q) q q ?_
 obtain⟨em,eφ,ew,en,er⟩:=ee
 subst hn
 refine Rcl 1 q (Al dz q (sS Z6 cK Z2 (Rlx 1 q (eU G q (Rcl 6 q ?_)))))
 obtain⟨d2,d3,h⟩:=ax h
 refine WL.inl (us:=[.pt 7 0]) (λrv st'=>(d2 ()=some r∧Le rv (.n c24v181)∧SLe st' [.row 4 [.d (D.b false)], .row 331 [.d (D.s c.1.name), .d (D.s c.1.fields)], .row 154 [.d (D.i .u8 x0.op), .n c21v178, .n c22v179, .n c23v180, .n c24v181, .n c25v182, .n c26v183], .row 337 [.pt 2 0], .lp f [.pt 0 0] .busy none, .row 331 [.d (D.s e.1.name), .d (D.s e.1.fields)], .row 340 [.fn (.func 357) [] [.pt 7 0], .fn (.func 358) [] [.pt 7 0], .n ((f283 o).1), .n ((f283 o).2)], .row 275 [.pt 2 4], .row 340 [.fn (.func 357) [] [.pt 7 0], .fn (.func 358) [] [.pt 7 0], .n 0, .n 0], .row 340 [.fn (.func 357) [] [.pt 7 0], .fn (.func 358) [] [.pt 7 0], .n ((f283 o).1), .n ((f283 o).2)]])) q q q q q ?_ (Zw q) q q ?_
 refine cI func357 λ_ _ _ _=>?_
 exact Rcx 14 q (al (rs1 q (bh q)) ⟨h,Zl,⟨Zp,Zp,Zp,Zp,⟨q,Zs _,q,q⟩,Zp,Zp,Zp,Zp,Zp,Zt⟩⟩)
 rintro rv st1 ⟨h,hr,hst⟩
 subst d3
 dsimp only at h
 refine WL.cast 47 q hr (WL.weak hst (Rl 1 q (Zn (Rcl 7 q ?_))))
 refine OG 5 52 57 5 5 ?_
 refine Rlc 2 q (Ci h q (λh=>?_) λh=>?_)
 exact Rcl 2 q (sS Z6 s4 Z2 (Rlx 5 q (br G q (.inl ⟨h,q,⟨Zp,Zp,Zp,Zp,⟨q,Zs _,q,q⟩,Zp,Zp,Zp,Zp,Zp,Zt⟩⟩))))
 refine Rcl 5 q ?_
 obtain⟨d',el,h⟩:=ax h
 refine WL.inl (us:=[.n 0, .pt 7 0]) (λrv st'=>(d' ()=some r∧Le rv (.tu [])∧SLe st' [.row 4 [.d (D.b false)], .row 331 [.d (D.s c.1.name), .d (D.s c.1.fields)], .row 154 [.d (D.i .u8 x0.op), .n c21v178, .n c22v179, .n c23v180, .n 0, .n c25v182, .n c26v183], .row 337 [.pt 2 0], .lp f [.pt 0 0] .busy none, .row 331 [.d (D.s e.1.name), .d (D.s e.1.fields)], .row 340 [.fn (.func 357) [] [.pt 7 0], .fn (.func 358) [] [.pt 7 0], .n ((f283 o).1), .n ((f283 o).2)], .row 275 [.pt 2 4], .row 340 [.fn (.func 357) [] [.pt 7 0], .fn (.func 358) [] [.pt 7 0], .n 0, .n 0], .row 340 [.fn (.func 357) [] [.pt 7 0], .fn (.func 358) [] [.pt 7 0], .n ((f283 o).1), .n ((f283 o).2)]])) q q q q q ?_ (Zw q) q q ?_
 refine cI func358 λ_ _ _ _=>?_
 exact Rcl 4 q (sS Z6 s2 Z2 (Rlx 1 q (dG (al (eX q) ⟨h,Zl,⟨Zp,Zp,Zp,Zp,⟨q,Zs _,q,q⟩,Zp,Zp,Zp,Zp,Zp,Zt⟩⟩))))
 rintro rv st1 ⟨h,hr,hst⟩
 subst el
 dsimp only at h
 exact WL.cast 60 q hr (WL.weak hst (WL.nil (Rxx 1 q (dF G q (.inr (⟨h,q,⟨Zp,Zp,Zp,Zp,⟨q,Zs _,q,q⟩,Zp,Zp,Zp,Zp,Zp,Zt⟩⟩))))))
 rintro rv st1 (⟨h,rfl,hst⟩|⟨h,rfl,hst⟩)
 subst dL
 dsimp only at h
 exact WL.weak hst (Rl 1 q (Zn (bm q (Rcx 5 q (al (eX q) (.inr (.inr (.inr (.inl ⟨c21v178,c22v179,c23v180,c24v181,c25v182,c26v183,e.1.name,e.1.fields,((f283 o).1),((f283 o).2),((f283 o).1),((f283 o).2),h,⟨Zp,Zp,Zp,Zp,⟨q,Zs _,q,q⟩,Zp,Zp,Zp,Zp,Zp,Zt⟩⟩)))))))))
 subst d0
 dsimp only at h
 exact WL.weak hst (Rl 1 q (Zn (cV q (Rcx 7 q (WE.drop 6 (env':=[(0, .yl 4),(1, .pt 3 0),(18, .l E9 x),(19, .n (List.length x:Int)),(20, .n (IntKind.i64.wrap (y+1)))]) Sb q q (Nat.le_trans (Nat.le_of_eq B) (nbT q)) (Fn7 h))))))
 refine Rcc 6 q (Ci h q (λh=>?_) λh=>?_)
 refine Rcl 4 q ?_
 obtain⟨eq,es,h⟩:=ax h
 refine WL.inl (us:=[.pt 2 5]) (λrv st'=>(eq ()=some r∧Le rv (.ag [.fn (.func 357) [] [.pt 7 0], .fn (.func 358) [] [.pt 7 0], .n 0, .n 0])∧SLe st' [.row 4 [.d (D.b false)], .row 331 [.d (D.s c.1.name), .d (D.s c.1.fields)], .row 154 [.d (D.i .u8 x0.op), .n c21v178, .n c22v179, .n c23v180, .n c24v181, .n c25v182, .n c26v183], .row 337 [.pt 2 0], .lp f [.pt 0 0] .ready none, .row 331 [.d (D.s e.1.name), .d (D.s e.1.fields)], .row 340 [.d (.v .nilFunc), .d (.v .nilFunc), .n 0, .n 0], .row 275 [.pt 2 5], .row 340 [.fn (.func 357) [] [.pt 7 0], .fn (.func 358) [] [.pt 7 0], .n 0, .n 0]])) q q q q q ?_ (Zw q) q q ?_
 refine cI func282 λ_ _ _ _=>?_
 exact Rcl 2 q (Bx q q q (Al dz q (Rll 6 q (Zq (bX oY dz q q) q (sS Z6 cK Z2 (Rlx 3 q (al (rs1 q (dq q q pq cK q)) ⟨h,Zl,⟨Zp,Zp,Zp,Zp,⟨q,Zs _,q,q⟩,Zp,Zp,Zp,Zp,Zt⟩⟩)))))))
 rintro rv st1 ⟨h,hr,hst⟩
 subst es
 dsimp only at h
 refine WL.cast 59 q hr (WL.weak hst (sS Z6 cK Z2 (WL.nil (Rxl 5 q ?_))))
 obtain⟨p,et,h⟩:=ac h
 refine Zq (bg underlying9 q q et) q (wF Z4 (f283_c) Lw Z3 (Rl 4 q (sS Z6 s2 Z2 (Rl 1 q (sS Z6 s2 Z2 (Rll 6 q ?_))))))
 obtain⟨ex,ey,h⟩:=ax h
 obtain⟨e0,e1,h⟩:=ax h
 refine WL.yield (env0:=[(44, .ag [.fn (.func 357) [] [.pt 7 0], .fn (.func 358) [] [.pt 7 0], .n ((f283 p).1), .n ((f283 p).2)]),(2, .pt 0 0)]) (λrv st'=>(ex ()=some r∧rv= .d (.v (.bool false))∧SLe st' [.row 4 [.d (D.b false)], .row 331 [.d (D.s c.1.name), .d (D.s c.1.fields)], .row 154 [.d (D.i .u8 x0.op), .n c21v178, .n c22v179, .n c23v180, .n c24v181, .n c25v182, .n c26v183], .row 337 [.pt 2 0], .lp f [.pt 0 0] .done (some .ret), .row 331 [.d (D.s e.1.name), .d (D.s e.1.fields)], .row 340 [.fn (.func 357) [] [.pt 7 0], .fn (.func 358) [] [.pt 7 0], .n ((f283 p).1), .n ((f283 p).2)], .row 275 [.pt 2 5], .row 340 [.fn (.func 357) [] [.pt 7 0], .fn (.func 358) [] [.pt 7 0], .n 0, .n 0], .row 340 [.fn (.func 357) [] [.pt 7 0], .fn (.func 358) [] [.pt 7 0], .n ((f283 p).1), .n ((f283 p).2)]])∨(e0 ()=some r∧rv= .d (.v (.bool true))∧SLe st' [.row 4 [.d (D.b false)], .row 331 [.d (D.s c.1.name), .d (D.s c.1.fields)], .row 154 [.d (D.i .u8 x0.op), .n c21v178, .n c22v179, .n c23v180, .n c24v181, .n 0, .n c26v183], .row 337 [.pt 2 0], .lp f [.pt 0 0] .ready none, .row 331 [.d (D.s e.1.name), .d (D.s e.1.fields)], .row 340 [.fn (.func 357) [] [.pt 7 0], .fn (.func 358) [] [.pt 7 0], .n ((f283 p).1), .n ((f283 p).2)], .row 275 [.pt 2 5], .row 340 [.fn (.func 357) [] [.pt 7 0], .fn (.func 358) [] [.pt 7 0], .n 0, .n 0], .row 340 [.fn (.func 357) [] [.pt 7 0], .fn (.func 358) [] [.pt 7 0], .n ((f283 p).1), .n ((f283 p).2)]])) A q q q q q q q (λee hn H f8=>?_) (Zw q) q q ?_
 obtain⟨em,eφ,ew,en,er⟩:=ee
 subst hn
 refine Rcl 1 q (Al dz q (sS Z6 cK Z2 (Rlx 1 q (eU H q (Rcl 6 q ?_)))))
 obtain⟨e2,e3,h⟩:=ax h
 refine WL.inl (us:=[.pt 7 0]) (λrv st'=>(e2 ()=some r∧Le rv (.n c25v182)∧SLe st' [.row 4 [.d (D.b false)], .row 331 [.d (D.s c.1.name), .d (D.s c.1.fields)], .row 154 [.d (D.i .u8 x0.op), .n c21v178, .n c22v179, .n c23v180, .n c24v181, .n c25v182, .n c26v183], .row 337 [.pt 2 0], .lp f [.pt 0 0] .busy none, .row 331 [.d (D.s e.1.name), .d (D.s e.1.fields)], .row 340 [.fn (.func 357) [] [.pt 7 0], .fn (.func 358) [] [.pt 7 0], .n ((f283 p).1), .n ((f283 p).2)], .row 275 [.pt 2 5], .row 340 [.fn (.func 357) [] [.pt 7 0], .fn (.func 358) [] [.pt 7 0], .n 0, .n 0], .row 340 [.fn (.func 357) [] [.pt 7 0], .fn (.func 358) [] [.pt 7 0], .n ((f283 p).1), .n ((f283 p).2)]])) q q q q q ?_ (Zw q) q q ?_
 refine cI func357 λ_ _ _ _=>?_
 exact Rcx 14 q (al (rs1 q (bh q)) ⟨h,Zl,⟨Zp,Zp,Zp,Zp,⟨q,Zs _,q,q⟩,Zp,Zp,Zp,Zp,Zp,Zt⟩⟩)
 rintro rv st1 ⟨h,hr,hst⟩
 subst e3
 dsimp only at h
 refine WL.cast 47 q hr (WL.weak hst (Rl 1 q (Zn (Rcl 7 q ?_))))
 refine OG 5 52 57 5 5 ?_
 refine Rlc 2 q (Ci h q (λh=>?_) λh=>?_)
 exact Rcl 2 q (sS Z6 s4 Z2 (Rlx 5 q (br H q (.inl ⟨h,q,⟨Zp,Zp,Zp,Zp,⟨q,Zs _,q,q⟩,Zp,Zp,Zp,Zp,Zp,Zt⟩⟩))))
 refine Rcl 5 q ?_
 obtain⟨e4,e5,h⟩:=ax h
 refine WL.inl (us:=[.n 0, .pt 7 0]) (λrv st'=>(e4 ()=some r∧Le rv (.tu [])∧SLe st' [.row 4 [.d (D.b false)], .row 331 [.d (D.s c.1.name), .d (D.s c.1.fields)], .row 154 [.d (D.i .u8 x0.op), .n c21v178, .n c22v179, .n c23v180, .n c24v181, .n 0, .n c26v183], .row 337 [.pt 2 0], .lp f [.pt 0 0] .busy none, .row 331 [.d (D.s e.1.name), .d (D.s e.1.fields)], .row 340 [.fn (.func 357) [] [.pt 7 0], .fn (.func 358) [] [.pt 7 0], .n ((f283 p).1), .n ((f283 p).2)], .row 275 [.pt 2 5], .row 340 [.fn (.func 357) [] [.pt 7 0], .fn (.func 358) [] [.pt 7 0], .n 0, .n 0], .row 340 [.fn (.func 357) [] [.pt 7 0], .fn (.func 358) [] [.pt 7 0], .n ((f283 p).1), .n ((f283 p).2)]])) q q q q q ?_ (Zw q) q q ?_
 refine cI func358 λ_ _ _ _=>?_
 exact Rcl 4 q (sS Z6 s2 Z2 (Rlx 1 q (dG (al (eX q) ⟨h,Zl,⟨Zp,Zp,Zp,Zp,⟨q,Zs _,q,q⟩,Zp,Zp,Zp,Zp,Zp,Zt⟩⟩))))
 rintro rv st1 ⟨h,hr,hst⟩
 subst e5
 dsimp only at h
 exact WL.cast 60 q hr (WL.weak hst (WL.nil (Rxx 1 q (dF H q (.inr (⟨h,q,⟨Zp,Zp,Zp,Zp,⟨q,Zs _,q,q⟩,Zp,Zp,Zp,Zp,Zp,Zt⟩⟩))))))
 rintro rv st1 (⟨h,rfl,hst⟩|⟨h,rfl,hst⟩)
 subst ey
 dsimp only at h
 exact WL.weak hst (Rl 1 q (Zn (bm q (Rcx 5 q (al (eX q) (.inr (.inr (.inr (.inr (.inl ⟨c21v178,c22v179,c23v180,c24v181,c25v182,c26v183,e.1.name,e.1.fields,((f283 p).1),((f283 p).2),((f283 p).1),((f283 p).2),h,⟨Zp,Zp,Zp,Zp,⟨q,Zs _,q,q⟩,Zp,Zp,Zp,Zp,Zp,Zt⟩⟩))))))))))
 subst e1
 dsimp only at h
 exact WL.weak hst (Rl 1 q (Zn (cV q (Rcx 7 q (WE.drop 6 (env':=[(0, .yl 4),(1, .pt 3 0),(18, .l E9 x),(19, .n (List.length x:Int)),(20, .n (IntKind.i64.wrap (y+1)))]) Sb q q (Nat.le_trans (Nat.le_of_eq B) (nbT q)) (Fn7 h))))))
 refine Rcl 4 q ?_
 obtain⟨e6,e7,h⟩:=ax h
 refine WL.inl (us:=[.pt 2 6]) (λrv st'=>(e6 ()=some r∧Le rv (.ag [.fn (.func 355) [] [.pt 7 0], .fn (.func 356) [] [.pt 7 0], .n 0, .n 0])∧SLe st' [.row 4 [.d (D.b false)], .row 331 [.d (D.s c.1.name), .d (D.s c.1.fields)], .row 154 [.d (D.i .u8 x0.op), .n c21v178, .n c22v179, .n c23v180, .n c24v181, .n c25v182, .n c26v183], .row 337 [.pt 2 0], .lp f [.pt 0 0] .ready none, .row 331 [.d (D.s e.1.name), .d (D.s e.1.fields)], .row 340 [.d (.v .nilFunc), .d (.v .nilFunc), .n 0, .n 0], .row 400 [.pt 2 6], .row 340 [.fn (.func 355) [] [.pt 7 0], .fn (.func 356) [] [.pt 7 0], .n 0, .n 0]])) q q q q q ?_ (Zw q) q q ?_
 refine cI func281 λ_ _ _ _=>?_
 exact Rcl 2 q (Bx q q q (Al dz q (Rll 6 q (Zq (bX oY dz q q) q (sS Z6 cK Z2 (Rlx 3 q (al (rs1 q (dq q q pq cK q)) ⟨h,Zl,⟨Zp,Zp,Zp,Zp,⟨q,Zs _,q,q⟩,Zp,Zp,Zp,Zp,Zt⟩⟩)))))))
 rintro rv st1 ⟨h,hr,hst⟩
 subst e7
 dsimp only at h
 refine WL.cast 29 q hr (WL.weak hst (sS Z6 cK Z2 (WL.nil (Rxl 5 q ?_))))
 obtain⟨w,e',h⟩:=ac h
 refine Zq (bg underlying9 q q e') q (wF Z4 (f283_c) Lw Z3 (Rl 4 q (sS Z6 s2 Z2 (Rl 1 q (sS Z6 s2 Z2 (Rll 6 q ?_))))))
 obtain⟨fi,fl,h⟩:=ax h
 obtain⟨fo,fr,h⟩:=ax h
 refine WL.yield (env0:=[(44, .ag [.fn (.func 355) [] [.pt 7 0], .fn (.func 356) [] [.pt 7 0], .n ((f283 w).1), .n ((f283 w).2)]),(2, .pt 0 0)]) (λrv st'=>(fi ()=some r∧rv= .d (.v (.bool false))∧SLe st' [.row 4 [.d (D.b false)], .row 331 [.d (D.s c.1.name), .d (D.s c.1.fields)], .row 154 [.d (D.i .u8 x0.op), .n c21v178, .n c22v179, .n c23v180, .n c24v181, .n c25v182, .n c26v183], .row 337 [.pt 2 0], .lp f [.pt 0 0] .done (some .ret), .row 331 [.d (D.s e.1.name), .d (D.s e.1.fields)], .row 340 [.fn (.func 355) [] [.pt 7 0], .fn (.func 356) [] [.pt 7 0], .n ((f283 w).1), .n ((f283 w).2)], .row 400 [.pt 2 6], .row 340 [.fn (.func 355) [] [.pt 7 0], .fn (.func 356) [] [.pt 7 0], .n 0, .n 0], .row 340 [.fn (.func 355) [] [.pt 7 0], .fn (.func 356) [] [.pt 7 0], .n ((f283 w).1), .n ((f283 w).2)]])∨(fo ()=some r∧rv= .d (.v (.bool true))∧SLe st' [.row 4 [.d (D.b false)], .row 331 [.d (D.s c.1.name), .d (D.s c.1.fields)], .row 154 [.d (D.i .u8 x0.op), .n c21v178, .n c22v179, .n c23v180, .n c24v181, .n c25v182, .n 0], .row 337 [.pt 2 0], .lp f [.pt 0 0] .ready none, .row 331 [.d (D.s e.1.name), .d (D.s e.1.fields)], .row 340 [.fn (.func 355) [] [.pt 7 0], .fn (.func 356) [] [.pt 7 0], .n ((f283 w).1), .n ((f283 w).2)], .row 400 [.pt 2 6], .row 340 [.fn (.func 355) [] [.pt 7 0], .fn (.func 356) [] [.pt 7 0], .n 0, .n 0], .row 340 [.fn (.func 355) [] [.pt 7 0], .fn (.func 356) [] [.pt 7 0], .n ((f283 w).1), .n ((f283 w).2)]])) A q q q q q q q (λee hn I f9=>?_) (Zw q) q q ?_
 obtain⟨em,eφ,ew,en,er⟩:=ee
 subst hn
 refine Rcl 1 q (Al dz q (sS Z6 cK Z2 (Rlx 1 q (eU I q (Rcl 6 q ?_)))))
 obtain⟨fu,fv,h⟩:=ax h
 refine WL.inl (us:=[.pt 7 0]) (λrv st'=>(fu ()=some r∧Le rv (.n c26v183)∧SLe st' [.row 4 [.d (D.b false)], .row 331 [.d (D.s c.1.name), .d (D.s c.1.fields)], .row 154 [.d (D.i .u8 x0.op), .n c21v178, .n c22v179, .n c23v180, .n c24v181, .n c25v182, .n c26v183], .row 337 [.pt 2 0], .lp f [.pt 0 0] .busy none, .row 331 [.d (D.s e.1.name), .d (D.s e.1.fields)], .row 340 [.fn (.func 355) [] [.pt 7 0], .fn (.func 356) [] [.pt 7 0], .n ((f283 w).1), .n ((f283 w).2)], .row 400 [.pt 2 6], .row 340 [.fn (.func 355) [] [.pt 7 0], .fn (.func 356) [] [.pt 7 0], .n 0, .n 0], .row 340 [.fn (.func 355) [] [.pt 7 0], .fn (.func 356) [] [.pt 7 0], .n ((f283 w).1), .n ((f283 w).2)]])) q q q q q ?_ (Zw q) q q ?_
 refine cI func355 λ_ _ _ _=>?_
 exact Rcx 14 q (al (rs1 q (bh q)) ⟨h,Zl,⟨Zp,Zp,Zp,Zp,⟨q,Zs _,q,q⟩,Zp,Zp,Zp,Zp,Zp,Zt⟩⟩)
 rintro rv st1 ⟨h,hr,hst⟩
 subst fv
 dsimp only at h
 refine WL.cast 47 q hr (WL.weak hst (Rl 1 q (Zn (Rcl 7 q ?_))))
 refine OG 5 52 57 5 5 ?_
 refine Rlc 2 q (Ci h q (λh=>?_) λh=>?_)
 exact Rcl 2 q (sS Z6 s4 Z2 (Rlx 5 q (br I q (.inl ⟨h,q,⟨Zp,Zp,Zp,Zp,⟨q,Zs _,q,q⟩,Zp,Zp,Zp,Zp,Zp,Zt⟩⟩))))
 refine Rcl 5 q ?_
 obtain⟨fz,f0,h⟩:=ax h
 refine WL.inl (us:=[.n 0, .pt 7 0]) (λrv st'=>(fz ()=some r∧Le rv (.tu [])∧SLe st' [.row 4 [.d (D.b false)], .row 331 [.d (D.s c.1.name), .d (D.s c.1.fields)], .row 154 [.d (D.i .u8 x0.op), .n c21v178, .n c22v179, .n c23v180, .n c24v181, .n c25v182, .n 0], .row 337 [.pt 2 0], .lp f [.pt 0 0] .busy none, .row 331 [.d (D.s e.1.name), .d (D.s e.1.fields)], .row 340 [.fn (.func 355) [] [.pt 7 0], .fn (.func 356) [] [.pt 7 0], .n ((f283 w).1), .n ((f283 w).2)], .row 400 [.pt 2 6], .row 340 [.fn (.func 355) [] [.pt 7 0], .fn (.func 356) [] [.pt 7 0], .n 0, .n 0], .row 340 [.fn (.func 355) [] [.pt 7 0], .fn (.func 356) [] [.pt 7 0], .n ((f283 w).1), .n ((f283 w).2)]])) q q q q q ?_ (Zw q) q q ?_
 refine cI func356 λ_ _ _ _=>?_
 exact Rcl 4 q (sS Z6 s3 Z2 (Rlx 1 q (dG (al (eX q) ⟨h,Zl,⟨Zp,Zp,Zp,Zp,⟨q,Zs _,q,q⟩,Zp,Zp,Zp,Zp,Zp,Zt⟩⟩))))
 rintro rv st1 ⟨h,hr,hst⟩
 subst f0
 dsimp only at h
 exact WL.cast 60 q hr (WL.weak hst (WL.nil (Rxx 1 q (dF I q (.inr (⟨h,q,⟨Zp,Zp,Zp,Zp,⟨q,Zs _,q,q⟩,Zp,Zp,Zp,Zp,Zp,Zt⟩⟩))))))
 rintro rv st1 (⟨h,rfl,hst⟩|⟨h,rfl,hst⟩)
 subst fl
 dsimp only at h
 exact WL.weak hst (Rl 1 q (Zn (bm q (Rcx 5 q (al (eX q) (.inr (.inr (.inr (.inr (.inr (.inl ⟨c21v178,c22v179,c23v180,c24v181,c25v182,c26v183,e.1.name,e.1.fields,((f283 w).1),((f283 w).2),((f283 w).1),((f283 w).2),h,⟨Zp,Zp,Zp,Zp,⟨q,Zs _,q,q⟩,Zp,Zp,Zp,Zp,Zp,Zt⟩⟩)))))))))))
 subst fr
 dsimp only at h
 exact WL.weak hst (Rl 1 q (Zn (cV q (Rcx 7 q (WE.drop 6 (env':=[(0, .yl 4),(1, .pt 3 0),(18, .l E9 x),(19, .n (List.length x:Int)),(20, .n (IntKind.i64.wrap (y+1)))]) Sb q q (Nat.le_trans (Nat.le_of_eq B) (nbT q)) (Fn7 h))))))
 exact Rcx 4 q (dG (al (eX q) (.inr (.inr (.inr (.inr (.inr (.inr (⟨c21v178,c22v179,c23v180,c24v181,c25v182,c26v183,e.1.name,e.1.fields,h,⟨Zp,Zp,Zp,Zp,⟨q,Zs _,q,q⟩,Zp,Zt⟩⟩)))))))))
 rintro f rv st1 (⟨c21v81,c22v82,c23v83,c24v84,c25v85,c26v86,c50v87,c51v88,c62v89,c63v90,c92v91,c93v92,h,hst⟩|⟨c21v94,c22v95,c23v96,c24v97,c25v98,c26v99,c50v100,c51v101,c62v102,c63v103,c92v104,c93v105,h,hst⟩|⟨c21v107,c22v108,c23v109,c24v110,c25v111,c26v112,c50v113,c51v114,c62v115,c63v116,c92v117,c93v118,h,hst⟩|⟨c21v120,c22v121,c23v122,c24v123,c25v124,c26v125,c50v126,c51v127,c62v128,c63v129,c92v130,c93v131,h,hst⟩|⟨c21v133,c22v134,c23v135,c24v136,c25v137,c26v138,c50v139,c51v140,c62v141,c63v142,c92v143,c93v144,h,hst⟩|⟨c21v146,c22v147,c23v148,c24v149,c25v150,c26v151,c50v152,c51v153,c62v154,c63v155,c92v156,c93v157,h,hst⟩|⟨c21v159,c22v160,c23v161,c24v162,c25v163,c26v164,c50v165,c51v166,h,hst⟩)
 subst T
 dsimp only at h
 refine⟨_,_,_,_,_,hst,q,(by intro h;cases h),?_⟩
 refine Rxx 2 q ?_
 obtain rfl:=Oi h
 exact aT (rs1 q (jo q q a4 q)) Zl
 subst U
 dsimp only at h
 refine⟨_,_,_,_,_,hst,q,(by intro h;cases h),?_⟩
 refine Rxx 2 q ?_
 obtain rfl:=Oi h
 exact aT (rs1 q (jo q q a4 q)) Zl
 subst V
 dsimp only at h
 refine⟨_,_,_,_,_,hst,q,(by intro h;cases h),?_⟩
 refine Rxx 2 q ?_
 obtain rfl:=Oi h
 exact aT (rs1 q (jo q q a4 q)) Zl
 subst W
 dsimp only at h
 refine⟨_,_,_,_,_,hst,q,(by intro h;cases h),?_⟩
 refine Rxx 2 q ?_
 obtain rfl:=Oi h
 exact aT (rs1 q (jo q q a4 q)) Zl
 subst X
 dsimp only at h
 refine⟨_,_,_,_,_,hst,q,(by intro h;cases h),?_⟩
 refine Rxx 2 q ?_
 obtain rfl:=Oi h
 exact aT (rs1 q (jo q q a4 q)) Zl
 subst Y
 dsimp only at h
 refine⟨_,_,_,_,_,hst,q,(by intro h;cases h),?_⟩
 refine Rxx 2 q ?_
 obtain rfl:=Oi h
 exact aT (rs1 q (jo q q a4 q)) Zl
 subst Z
 dsimp only at h
 refine⟨_,_,_,_,_,hst,q,(by intro h;cases h),?_⟩
 exact Rxx 1 q (dm ⟨_,_,_,_,_,_,_,_,h,Sb,Tv⟩)
 refine Rcl 5 q (Zq (bX p154 z154 q q) q (Zq (pM (xs:=[.int .u8 x0.op, .int .i64 c21v69, .int .i64 c22v70, .int .i64 c23v71, .int .i64 c24v72, .int .i64 c25v73, .int .i64 c26v74]) (ys:=[.int .u8 x0.op, .int .i64 0, .int .i64 0, .int .i64 0, .int .i64 0, .int .i64 0, .int .i64 0]) q154 q (aK (Zs _)) q (aK (Zs _)) q q q) q (sS Z6 s4 Z2 (Rlx 3 q ?_))))
 obtain rfl:=Oi h
 exact aT (rs1 q (jo q q a4 q)) Zl

theorem f111_c(y0:dl):Pu prog 111 [.ag (fg y0)] (.b (f111 y0)):=by
 generalize h:f111 y0=r
 unfold f111 at h
 refine fI func111 λ_ _=>?_
 exact Rcl 2 q (Bd q q (Zs _) q (Rlx 12 q (FB h)))

theorem f112_c{t0:aB}{a:Int}{n2:Int}{r:Int×Bool}(h:f112 t0 a n2=some r):Pu prog 112 [.ag (aI t0), .i .i64 a, .i .i64 n2] (.tu [.i .i64 r.1, .b r.2]):=by
 unfold f112 at h
 refine fI func112 λ_ _=>?_
 refine Rcl 2 q (Bd q q (Zs _) q (Rll 10 q ?_))
 apply WL.or 7 (t:=11) (d:=18)
 exact q
 intro k
 exact Rl 4 q (Zy (ab cf t0.text.tasks e51 q q Zl) q q q (Rl 2 q (WL.nil ⟨q,[_,_,_,_,_,_,_],q,q,q⟩)))
 exact Rn 7 7
 refine Rl 1 q ?_
 refine OG 3 19 22 3 3 ?_
 refine Rl 1 q ?_
 obtain⟨f,g,h⟩:=ac h
 refine Gg 11 23 34 f g (λh=>?_) (λh=>?_) ?_
 exact On 11 11 h
 refine Rl 5 q ?_
 obtain⟨j,c,h⟩:=ac h
 exact Zy (aG e51 q Zl q (az c) (bO k6 c) q) q q q (Rl 2 q (Zy (ab mv j.entries e81 q q Zl) q q q (On 2 11 h)))
 refine Rlc 2 q (Ci h q (λh=>Rcx 8 q (FA h)) λh=>?_)
 exact Rcl 8 q (Ix h e51 k6 q Zl q q λm _ h=>(Rl 3 q (Ix h e81 oG q Zl q q λe _ h=>(Rl 1 q (Al z195 q (sS Z6 s195 Z2 (Rll 6 q (Zq (ab E3 e.ins e31 q q Zl) q (Rl 2 q (Zq (ab E3 e.outs e31 q q Zl) q (Rlx 7 q (FA h))))))))))))

theorem f113_c{t0:aB}{p1:Int}{n2:Int}{r:Bool}(h:f113 t0 p1 n2=some r):Pu prog 113 [.ag (aI t0), .i .i64 p1, .i .i64 n2] (.b r):=by
 unfold f113 at h
 refine fI func113 λ_ _=>?_
 refine Rcl 2 q (Bd q q (Zs _) q (Rll 8 q ?_))
 apply WL.and 7 (t:=9) (d:=16)
 exact q
 intro g
 exact Rl 4 q (Zy (ab bR t0.text.prots e52 q q Zl) q q q (Rl 2 q (WL.nil ⟨q,[_,_,_,_,_,_,_],q,q,q⟩)))
 exact Rn 7 7
 refine Rl 1 q ?_
 refine AG 3 17 20 3 3 ?_
 refine Rl 1 q ?_
 obtain⟨c,e,h⟩:=ac h
 refine Gg 11 21 32 c e (λh=>?_) (λh=>?_) ?_
 refine Rl 5 q ?_
 obtain⟨f,a,h⟩:=ac h
 exact Zy (aG e52 q Zl q (az a) (bO oI a) q) q q q (Rl 2 q (Zy (ab E27 f.barriers e25 q q Zl) q q q (On 2 11 h)))
 exact On 11 11 h
 exact Rlx 4 q (FA h)

theorem f60_c{t0:aB}{x1:dl}{r:Bool}(h:f60 t0 x1=some r):Pu prog 60 [.ag (aI t0), .ag (fg x1)] (.b r):=by
 unfold f60 at h
 refine fI func60 λ_ _=>?_
 refine Rcl 2 q (Bd q q (Zs _) q (Bd q q (Zs _) q (Rll 7 q ?_)))
 obtain⟨K,j,h⟩:=ac h
 refine wF Z4 (f110_c j) Lw Z3 (Rlc 3 q (Ci h q (λh=>?_) λh=>?_))
 exact Rcx 7 q (FA h)
 refine Rcc 10 q (Jn1 (λa=> [(2, .d (.pc (aI t0))),(3, .d (.pc (fg x1))),(14, .d (D.i .u8 x1.op)),(15, .d (D.b a))]) (λ_=> []) h (λ_ h=>?_) λa h=>?_)
 exact Rcc 6 q (Ci h q (λh=>Rcx 1 q (En1 h)) λh=>Rcx 4 q (En1 h))
 refine Ci h q (λh=>?_) (λh=>?_)
 refine Rcl 7 q ?_
 obtain⟨L,k,h⟩:=ac h
 exact wF Z4 (f97_c k) Lw Z3 (Rlx 6 q (FA h))
 refine Jn1 (λc=> [(2, .d (.pc (aI t0))),(3, .d (.pc (fg x1))),(14, .d (D.i .u8 x1.op)),(24, .d (D.b c))]) (λ_=> []) h (λ_ h=>?_) (λc h=>?_)
 exact Rcc 6 q (Ci h q (λh=>Rcx 1 q (En1 h)) λh=>Rcx 4 q (En1 h))
 refine Ci h q (λh=>?_) (λh=>?_)
 refine Rcl 9 q ?_
 obtain⟨M,o,h⟩:=ac h
 exact wF Z4 (f97_c o) Lw Z3 (Rlx 6 q (FA h))
 refine Jn1 (λe=> [(2, .d (.pc (aI t0))),(3, .d (.pc (fg x1))),(14, .d (D.i .u8 x1.op)),(35, .d (D.b e))]) (λ_=> []) h (λ_ h=>?_) (λe h=>?_)
 refine Rcc 6 q (Ci h q (λh=>Rcx 1 q (En1 h)) λh=>?_)
 exact Rcc 6 q (Ci h q (λh=>Rcx 1 q (En1 h)) λh=>Rcx 4 q (En1 h))
 refine Ci h q (λh=>?_) (λh=>?_)
 exact Rcl 5 q (wF Z4 (f98_c) Lw Z3 (Rlx 6 q (FA h)))
 refine Rcc 6 q (Ci h q (λh=>?_) λh=>?_)
 refine Rcl 16 q (Zq (ab bj t0.text.insns e45 q q Zl) q (Rl 2 q ?_))
 obtain⟨p,w,h⟩:=ac h
 refine Gg 10 56 66 p w (λh=>?_) (λh=>?_) ?_
 refine Rl 6 q ?_
 replace h:=kB h
 obtain⟨x,h⟩:=h
 refine Zy (k8 bj t0.text.insns (l:=x1.to) (h:=(IntKind.i64.wrap (x1.to+x1.m))) e45 q Zl ⟨_,q⟩ ⟨_,q⟩ x λ_=>q) q q q ?_
 obtain⟨N,y,h⟩:=ac h
 exact WL.fn q q q q (f58_c _ _ 111 [] [] (λz0 _ h=>by obtain rfl:=inS h;exact f111_c z0) y) ⟨Zl,(Le.fnc Zt Zt),Zt⟩ (bd q q q) q q (On 2 10 h)
 exact On 10 10 h
 exact Rlx 6 q (FA h)
 refine Rcc 6 q (Ci h q (λh=>Rcx 14 q (FA h)) λh=>?_)
 refine Jn1 (λf=> [(2, .d (.pc (aI t0))),(3, .d (.pc (fg x1))),(14, .d (D.i .u8 x1.op)),(75, .d (D.b f))]) (λ_=> []) h (λ_ h=>?_) (λf h=>?_)
 refine Rcc 6 q (Ci h q (λh=>Rcx 1 q (En1 h)) λh=>?_)
 refine Rcc 6 q (Ci h q (λh=>Rcx 1 q (En1 h)) λh=>?_)
 exact Rcc 6 q (Ci h q (λh=>Rcx 1 q (En1 h)) λh=>Rcx 4 q (En1 h))
 refine Ci h q (λh=>?_) (λh=>?_)
 exact Rcl 7 q (Zq (ab E31 t0.text.lists e49 q q Zl) q (Rlx 7 q (FA h)))
 refine Rcc 6 q (Ci h q (λh=>Rcl 7 q (Zq (ab cq t0.text.selects e48 q q Zl) q (Rlx 7 q (FA h)))) λh=>?_)
 refine Rcc 6 q (Ci h q (λh=>?_) λh=>?_)
 refine Rcl 7 q ?_
 obtain⟨O,A,h⟩:=ac h
 refine wF Z4 (f112_c A) Lw Z3 (Rll 11 q ?_)
 obtain⟨B,C,h⟩:=ac h
 refine Gg 6 108 114 B C (λh=>?_) (λh=>?_) ?_
 refine Rl 4 q ?_
 obtain⟨P,E,h⟩:=ac h
 exact WL.fn q q q q (f97_c E) Lw (bd q q q) q q (On 1 6 h)
 exact On 6 6 h
 exact Rlx 6 q (FA h)
 refine Rcc 6 q (Ci h q (λh=>?_) λh=>?_)
 refine Rcl 7 q ?_
 obtain⟨Q,F,h⟩:=ac h
 refine wF Z4 (f112_c F) Lw Z3 (Rll 11 q ?_)
 apply WL.and 8 (t:=127) (d:=135)
 exact q
 intro R
 exact Rl 5 q (Zy (ab bj t0.text.insns e45 q q Zl) q q q (Rl 2 q (WL.nil ⟨q,[_,_,_,_,_,_,_,_],q,q,q⟩)))
 exact Rn 8 8
 exact Rlx 6 q (FA h)
 refine Jn1 (λg=> [(2, .d (.pc (aI t0))),(3, .d (.pc (fg x1))),(14, .d (D.i .u8 x1.op)),(136, .d (D.b g))]) (λ_=> []) h (λ_ h=>?_) (λg h=>?_)
 exact Rcc 6 q (Ci h q (λh=>Rcx 1 q (En1 h)) λh=>Rcx 4 q (En1 h))
 refine Ci h q (λh=>?_) (λh=>?_)
 exact Rcl 7 q (Zq (ab bR t0.text.prots e52 q q Zl) q (Rlx 7 q (FA h)))
 refine Rcc 6 q (Ci h q (λh=>?_) λh=>?_)
 refine Rcl 7 q ?_
 obtain⟨S,G,h⟩:=ac h
 exact wF Z4 (f113_c G) Lw Z3 (Rlx 6 q (FA h))
 refine Rcc 6 q (Ci h q (λh=>?_) λh=>?_)
 refine Rcl 6 q ?_
 obtain⟨H,I,h⟩:=ac h
 refine Gg 7 159 166 H I (λh=>?_) (λh=>?_) ?_
 exact On 7 7 h
 refine Rl 5 q ?_
 obtain⟨T,J,h⟩:=ac h
 exact WL.fn q q q q (f113_c J) Lw (bd q q q) q q (On 1 7 h)
 exact Rlx 6 q (FA h)
 exact Rcx 9 q (FA h)

theorem f19_c(t0:jh){r:Bool}(h:f19 t0=some r):Pu prog 19 [.ag (R55 t0)] (.b r):=by
 unfold f19 at h
 refine fI func19 λ_ _=>?_
 refine Rcl 2 q (Bd q q (Zs _) q (Rll 6 q (Zq (bX p168 z168 q q) q (Al z168 q (sS Z6 s168 Z2 (St q (Rll 7 q (Zq (ab bj t0.insns e45 q q Zl) q (Rl 2 q ?_)))))))))
 apply WL.or 5 (t:=12) (d:=17)
 exact q
 intro M
 exact Rl 2 q (Zy (ab bj t0.insns e45 q q Zl) q q q (Rl 2 q (WL.nil ⟨q,[_,_,_,_,_],q,q,q⟩)))
 exact Rn 5 5
 refine Rlc 2 q (Ci h q (λh=>Rcx 7 q (FA h)) λh=>?_)
 refine Rcl 9 q (Zq (ab bj t0.insns e45 q q Zl) q (Rl 1 q (Ix h e45 eF q Zl q q λN _ h=>(Rlc 5 q (Jn1 (λj=> [(1, .d (.pc (R55 t0))),(3, .pt 0 0),(27, .d (D.b j))]) (λ_=> [.row 168 (txA t0)]) h (λ_ h=>?_) λj h=>?_)))))
 refine Rcc 6 q (Ci h q (λh=>Rcx 1 q (En1 h)) λh=>?_)
 refine Rcc 6 q (Ci h q (λh=>Rcx 1 q (En1 h)) λh=>?_)
 exact Rcc 6 q (Ci h q (λh=>Rcx 1 q (En1 h)) λh=>Rcx 4 q (En1 h))
 refine Ci h q (λh=>?_) (λh=>?_)
 refine Rcc 3 q ?_
 refine Jn0 [(1, .d (.pc (R55 t0))),(3, .pt 0 0)] [.row 168 (txA t0), .os 78 1 0 [[.fn (.func 50) [.ag (txA t0)] []],[.fn (.func 51) [.ag (txA t0)] []],[.fn (.func 52) [.ag (txA t0)] []],[.fn (.func 53) [.ag (txA t0)] []],[.fn (.func 54) [.ag (txA t0)] []],[.fn (.func 55) [.ag (txA t0)] []],[.fn (.func 56) [.ag (txA t0)] []],[.fn (.func 57) [.ag (txA t0)] []]]] h (λ_ h=>?_) (λh=>?_)
 refine Rcl 18 q (WL.s ((NewOs.b (kr l169 z78 q dC dC q q q dC)).does) (Zw q) q q (Zq (lg kK q q q) q (Rlc 4 q (jw 9 (Rcc 6 q (bm q (Rcl 6 q (Zq (aC kK q q q dC (by show(0:Int)<((8:Nat):Int);decide)) q (Zq (bD q q a78 q) q (Rll 6 q ?_))))))))))
 obtain⟨O,m,h⟩:=ac h
 refine wF Z4 (f50_c m) ⟨(aK (Zs _)),Zt⟩ Z3 (Rlc 3 q (Ci h q (λh=>?_) λh=>?_))
 exact Rcx 8 q (bE (Rxx 2 q (FA h)))
 refine Rcl 4 q (Zq (fk (c:=1) q q dC) q (Rlx 2 q (fm (WC.sub (env':=[(1, .d (.pc (R55 t0))),(3, .pt 0 0),(48, .os 1 0),(49, .n 8),(50, .n 1)]) Sb (Rcc 6 q (bm q (Rcl 6 q (Zq (aC kK q q q dC (by show(1:Int)<((8:Nat):Int);decide)) q (Zq (bD q q a78 q) q (Rll 6 q ?_))))))))))
 obtain⟨P,o,h⟩:=ac h
 refine wF Z4 (f51_c o) ⟨(aK (Zs _)),Zt⟩ Z3 (Rlc 3 q (Ci h q (λh=>?_) λh=>?_))
 exact Rcx 8 q (bE (Rxx 2 q (FA h)))
 refine Rcl 4 q (Zq (fk (c:=2) q q dC) q (Rlx 2 q (fm (WC.sub (env':=[(1, .d (.pc (R55 t0))),(3, .pt 0 0),(48, .os 1 0),(49, .n 8),(50, .n 2)]) Sb (Rcc 6 q (bm q (Rcl 6 q (Zq (aC kK q q q dC (by show(2:Int)<((8:Nat):Int);decide)) q (Zq (bD q q a78 q) q (Rll 6 q ?_))))))))))
 obtain⟨Q,p,h⟩:=ac h
 refine wF Z4 (f52_c p) ⟨(aK (Zs _)),Zt⟩ Z3 (Rlc 3 q (Ci h q (λh=>?_) λh=>?_))
 exact Rcx 8 q (bE (Rxx 2 q (FA h)))
 refine Rcl 4 q (Zq (fk (c:=3) q q dC) q (Rlx 2 q (fm (WC.sub (env':=[(1, .d (.pc (R55 t0))),(3, .pt 0 0),(48, .os 1 0),(49, .n 8),(50, .n 3)]) Sb (Rcc 6 q (bm q (Rcl 6 q (Zq (aC kK q q q dC (by show(3:Int)<((8:Nat):Int);decide)) q (Zq (bD q q a78 q) q (Rll 6 q ?_))))))))))
 obtain⟨R,w,h⟩:=ac h
 refine wF Z4 (f53_c w) ⟨(aK (Zs _)),Zt⟩ Z3 (Rlc 3 q (Ci h q (λh=>?_) λh=>?_))
 exact Rcx 8 q (bE (Rxx 2 q (FA h)))
 refine Rcl 4 q (Zq (fk (c:=4) q q dC) q (Rlx 2 q (fm (WC.sub (env':=[(1, .d (.pc (R55 t0))),(3, .pt 0 0),(48, .os 1 0),(49, .n 8),(50, .n 4)]) Sb (Rcc 6 q (bm q (Rcl 6 q (Zq (aC kK q q q dC (by show(4:Int)<((8:Nat):Int);decide)) q (Zq (bD q q a78 q) q (Rll 6 q ?_))))))))))
 obtain⟨S,x,h⟩:=ac h
 refine wF Z4 (f54_c x) ⟨(aK (Zs _)),Zt⟩ Z3 (Rlc 3 q (Ci h q (λh=>?_) λh=>?_))
 exact Rcx 8 q (bE (Rxx 2 q (FA h)))
 refine Rcl 4 q (Zq (fk (c:=5) q q dC) q (Rlx 2 q (fm (WC.sub (env':=[(1, .d (.pc (R55 t0))),(3, .pt 0 0),(48, .os 1 0),(49, .n 8),(50, .n 5)]) Sb (Rcc 6 q (bm q (Rcl 6 q (Zq (aC kK q q q dC (by show(5:Int)<((8:Nat):Int);decide)) q (Zq (bD q q a78 q) q (Rll 6 q ?_))))))))))
 obtain⟨T,y,h⟩:=ac h
 refine wF Z4 (f55_c y) ⟨(aK (Zs _)),Zt⟩ Z3 (Rlc 3 q (Ci h q (λh=>?_) λh=>?_))
 exact Rcx 8 q (bE (Rxx 2 q (FA h)))
 refine Rcl 4 q (Zq (fk (c:=6) q q dC) q (Rlx 2 q (fm (WC.sub (env':=[(1, .d (.pc (R55 t0))),(3, .pt 0 0),(48, .os 1 0),(49, .n 8),(50, .n 6)]) Sb (Rcc 6 q (bm q (Rcl 6 q (Zq (aC kK q q q dC (by show(6:Int)<((8:Nat):Int);decide)) q (Zq (bD q q a78 q) q (Rll 6 q ?_))))))))))
 obtain⟨U,A,h⟩:=ac h
 refine wF Z4 (f56_c A) ⟨(aK (Zs _)),Zt⟩ Z3 (Rlc 3 q (Ci h q (λh=>?_) λh=>?_))
 exact Rcx 8 q (bE (Rxx 2 q (FA h)))
 refine Rcl 4 q (Zq (fk (c:=7) q q dC) q (Rlx 2 q (fm (WC.sub (env':=[(1, .d (.pc (R55 t0))),(3, .pt 0 0),(48, .os 1 0),(49, .n 8),(50, .n 7)]) Sb (Rcc 6 q (bm q (Rcl 6 q (Zq (aC kK q q q dC (by show(7:Int)<((8:Nat):Int);decide)) q (Zq (bD q q a78 q) q (Rll 6 q ?_))))))))))
 obtain⟨V,B,h⟩:=ac h
 refine wF Z4 (f57_c B) ⟨(aK (Zs _)),Zt⟩ Z3 (Rlc 3 q (Ci h q (λh=>?_) λh=>?_))
 exact Rcx 8 q (bE (Rxx 2 q (FA h)))
 exact Rcl 4 q (Zq (fk (c:=8) q q dC) q (Rlx 2 q (fm (WC.sub (env':=[(1, .d (.pc (R55 t0))),(3, .pt 0 0),(48, .os 1 0),(49, .n 8),(50, .n 8)]) Sb (Rcc 6 q (cV q (Rcx 2 q (iu (Rxx 1 q (En0 h))))))))))
 refine Rcl 5 q ?_
 obtain⟨C,E,h⟩:=ax h
 refine WL.inl (us:=[.l bj t0.insns, .fn (.func 59) [] [.pt 0 0]]) (λrv st'=>(∃(e:Bool),C e=some r∧Le rv (.d (D.b e))∧SLe st' [.row 168 (txA t0), .os 78 1 0 [[.fn (.func 50) [.ag (txA t0)] []],[.fn (.func 51) [.ag (txA t0)] []],[.fn (.func 52) [.ag (txA t0)] []],[.fn (.func 53) [.ag (txA t0)] []],[.fn (.func 54) [.ag (txA t0)] []],[.fn (.func 55) [.ag (txA t0)] []],[.fn (.func 56) [.ag (txA t0)] []],[.fn (.func 57) [.ag (txA t0)] []]]])) q q q q q ?_ (Zw q) q q ?_
 refine cI func58 λ_ _ _ W=>?_
 refine Rcl 9 q ?_
 obtain⟨k,F,h⟩:=ax h
 refine WL.inl (us:=[.l bj t0.insns, .fn (.func 59) [] [.pt 0 0]]) (λrv st'=>(∃(a:Int),k a=some r∧Le rv (.n a)∧SLe st' [.row 168 (txA t0), .os 78 1 0 [[.fn (.func 50) [.ag (txA t0)] []],[.fn (.func 51) [.ag (txA t0)] []],[.fn (.func 52) [.ag (txA t0)] []],[.fn (.func 53) [.ag (txA t0)] []],[.fn (.func 54) [.ag (txA t0)] []],[.fn (.func 55) [.ag (txA t0)] []],[.fn (.func 56) [.ag (txA t0)] []],[.fn (.func 57) [.ag (txA t0)] []]]])) q q q q q ?_ (Zw q) q q ?_
 refine cI func109 λ_ _ _ X=>?_
 refine Rcc 5 q ?_
 refine Jn0 [] [.row 168 (txA t0), .os 78 1 0 [[.fn (.func 50) [.ag (txA t0)] []],[.fn (.func 51) [.ag (txA t0)] []],[.fn (.func 52) [.ag (txA t0)] []],[.fn (.func 53) [.ag (txA t0)] []],[.fn (.func 54) [.ag (txA t0)] []],[.fn (.func 55) [.ag (txA t0)] []],[.fn (.func 56) [.ag (txA t0)] []],[.fn (.func 57) [.ag (txA t0)] []]]] h (λG h=>?_) (λh=>?_)
 refine Rcl 3 q (Zq (ab bj t0.insns e45 q q Zl) q (Rlc 4 q ?_))
 refine Ln1 (λf=> [(0, .l bj t0.insns),(1, .fn (.func 59) [] [.pt 0 0]),(7, .n (List.length t0.insns:Int)),(8, .n f)]) (λ_=> [.row 168 (txA t0), .os 78 1 0 [[.fn (.func 50) [.ag (txA t0)] []],[.fn (.func 51) [.ag (txA t0)] []],[.fn (.func 52) [.ag (txA t0)] []],[.fn (.func 53) [.ag (txA t0)] []],[.fn (.func 54) [.ag (txA t0)] []],[.fn (.func 55) [.ag (txA t0)] []],[.fn (.func 56) [.ag (txA t0)] []],[.fn (.func 57) [.ag (txA t0)] []]]]) (f19_l1 t0 k G) h (λ_ h=>by rw[f19_l1] at h;cases h) (λn f h=>?_)
 rw[f19_l1] at h
 refine Rcc 6 q (Ci h q (λh=>?_) λh=>?_)
 refine Rcl 15 q (Ix h e45 eF q Zl q q λH _ h=>(Rl 1 q ?_))
 obtain⟨I,J,h⟩:=ax h
 refine WL.inl (us:=[.d (.ag (fg H)), .pt 0 0]) (λrv st'=>(∃(g:Bool),I g=some r∧Le rv (.d (D.b g))∧SLe st' [.row 168 (txA t0), .os 78 1 0 [[.fn (.func 50) [.ag (txA t0)] []],[.fn (.func 51) [.ag (txA t0)] []],[.fn (.func 52) [.ag (txA t0)] []],[.fn (.func 53) [.ag (txA t0)] []],[.fn (.func 54) [.ag (txA t0)] []],[.fn (.func 55) [.ag (txA t0)] []],[.fn (.func 56) [.ag (txA t0)] []],[.fn (.func 57) [.ag (txA t0)] []]]])) q q q q q ?_ (Zw q) q q ?_
 refine cI func59 λ_ _ _ _=>?_
 refine Rcl 2 q (Bd q q (Zs _) q (Rll 7 q ?_))
 obtain⟨K,L,h⟩:=ac h
 exact wF Z4 (f60_c L) ⟨(aK (Zs _)),Zl,Zt⟩ Z3 (Rlx 5 q (al (rs1 q (bh q)) ⟨(!K),h,Zl,⟨Zp,Zf,Zt⟩⟩))
 rintro rv st1 ⟨g,h,hr,hst⟩
 subst J
 dsimp only at h
 refine WL.cast 16 q hr (WL.weak hst (Zn (Ci h q (λh=>?_) λh=>?_)))
 exact Rcx 12 q (al (rs1 q (bh q)) ⟨f,h,Zl,⟨Zp,Zf,Zt⟩⟩)
 exact Rcx 7 q (Fn1 h)
 exact Rcx 4 q (En0 h)
 exact Rcx 6 q (al (rs1 q (bh q)) ⟨(-1),h,Zl,⟨Zp,Zf,Zt⟩⟩)
 rintro rv st1 ⟨a,h,hr,hst⟩
 subst F
 dsimp only at h
 exact WL.cast 7 q hr (WL.weak hst (Rl 2 q (Zn (Rcx 1 q (al (rs1 q (bh q)) ⟨(decide (a≥0)),h,Zl,⟨Zp,Zf,Zt⟩⟩)))))
 rintro rv st1 ⟨e,h,hr,hst⟩
 subst E
 dsimp only at h
 exact WL.cast 61 q hr (WL.weak hst (Rl 2 q (Zn (Rcx 1 q (FA h)))))
 exact Rcx 8 q (FA h)

end Go.Proofs.YtiigiagchaibdaaGreatDoor
